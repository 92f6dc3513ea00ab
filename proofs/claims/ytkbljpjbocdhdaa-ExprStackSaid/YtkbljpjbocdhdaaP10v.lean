import Derived.Test.YtkbljpjbocdhdaaP10k
namespace Go.Proofs.Ytkbljpjbocdhdaa
open Go.Eng
set_option maxRecDepth 100000
set_option maxHeartbeats 4000000
set_option linter.unusedVariables false
set_option linter.unusedSimpArgs false


theorem sLoop_shift (L L' : Int) (S0 X : List Int) (o : Nat) (r : List TNode) : ∀ (b : List TNode) (i : Nat) (T Y : List Int), chain Y i T.reverse → Y.length = i → (sLoop L' b i T Y).2.2 = 0 →
    ((sLoop L (b ++ r) (i + o) (S0 ++ T.map (· + (o : Int))) (X ++ Y.map (· + (o : Int)))).2.2 = 16 ∧ S0 ≠ []) ∨
    ∃ T' : List Int, T'.length ≤ 1 ∧ chain (sLoop L' b i T Y).1 ((i + b.length : Nat) : Int) T'.reverse ∧ sLoop L (b ++ r) (i + o) (S0 ++ T.map (· + (o : Int))) (X ++ Y.map (· + (o : Int))) = sLoop L r (i + b.length + o) (S0 ++ T'.map (· + (o : Int))) (X ++ (sLoop L' b i T Y).1.map (· + (o : Int)))
  | [], i, T, Y, hc, hl, h => by
    simp only [sLoop] at h
    split at h
    · cases h
    · rename_i hh
      refine Or.inr ⟨T, by omega, ?_, ?_⟩
      · simp only [sLoop, if_neg hh]; exact hc
      · rw [show (sLoop L' [] i T Y).1 = Y by simp only [sLoop, if_neg hh]]; rfl
  | n :: b, i, T, Y, hc, hl, h => by
    simp only [sLoop] at h
    split at h
    · simp at h
    rename_i h1; split at h
    · simp at h
    rename_i h2; split at h
    · simp at h
    rename_i h3
    have em : (((S0 ++ T.map (· + (o : Int))).length : Int) - arity n.1).toNat = S0.length + (T.length - arity n.1).toNat := by simp; omega
    have et : (S0 ++ T.map (· + (o : Int))).take (S0.length + (T.length - arity n.1).toNat) = S0 ++ (T.take (T.length - arity n.1).toNat).map (· + (o : Int)) := by rw [List.take_length_add_append, List.map_take]
    have ef : (if 0 < arity n.1 then (S0 ++ T.map (· + (o : Int)))[S0.length + (T.length - arity n.1).toNat]?.getD 0 else ((i + o : Nat) : Int)) = (if 0 < arity n.1 then T[(T.length - arity n.1).toNat]?.getD 0 else (i : Int)) + o := by
      by_cases c : 0 < arity n.1
      · rw [if_pos c, if_pos c, List.getElem?_append_right (by omega), List.getElem?_map, Nat.add_sub_cancel_left, List.getElem?_eq_getElem (show (T.length - arity n.1).toNat < T.length by omega)]; rfl
      · rw [if_neg c, if_neg c]; omega
    rw [show sLoop L' (n :: b) i T Y = sLoop L' b (i + 1) (T.take (T.length - arity n.1).toNat ++ [if 0 < arity n.1 then T[(T.length - arity n.1).toNat]?.getD 0 else i]) (Y ++ [if 0 < arity n.1 then T[(T.length - arity n.1).toNat]?.getD 0 else i]) by rw [sLoop, if_neg h1, if_neg h2, if_neg h3]]
    rw [List.cons_append, sLoop, if_neg h1, if_neg (by simp; omega), em, et]
    by_cases h4 : 12 < (S0 ++ (T.take (T.length - arity n.1).toNat).map (· + (o : Int))).length + 1
    · refine Or.inl ⟨by rw [if_pos h4], fun q => ?_⟩
      subst q; simp at h4 h3; omega
    rw [if_neg h4, ef]
    have hcs := chain_step (n := arity n.1) hc hl (by omega) (by omega)
    generalize (if 0 < arity n.1 then T[(T.length - arity n.1).toNat]?.getD 0 else (i : Int)) = frm at h hcs ⊢
    have := sLoop_shift L L' S0 X o r b (i + 1) (T.take (T.length - arity n.1).toNat ++ [frm]) (Y ++ [frm]) hcs (by simp [hl]) h
    simp only [List.map_append, List.map_cons, List.map_nil, ← List.append_assoc] at this
    rw [show i + o + 1 = i + 1 + o by omega, show i + (n :: b).length = i + 1 + b.length by simp; omega]
    exact this
theorem one_zero {R : List Int} {m : Nat} {T : List Int} (h : chain R ((m : Nat) : Int) T.reverse) (h1 : T.length ≤ 1) (hm : m ≠ 0) : T = [0] := by
  match T, h, h1 with
  | [], h, _ => have h : (m : Int) = 0 := h; omega
  | [a], h, _ => have h4 : a = 0 := h.2.2.2; rw [h4]
theorem stack_law {a b : List TNode} {op : Int} (ha : (structF a).2.2 = 0) (hb : (structF b).2.2 = 0) (hal : a.length ≤ 24) (hbl : b.length ≤ 23) (hop : arity op = 2) :
    (structF (a ++ b ++ [(op, 0)])).2.2 = 16 ∨ structF (a ++ b ++ [(op, 0)]) = ((structF a).1 ++ (structF b).1.map (· + (a.length : Int)) ++ [0], 0, 0) := by
  have hA := structF_ok ha
  have hB := structF_ok hb
  have eA : structF a = sLoop a.length a 0 [] [] := by unfold structF; rw [if_neg (by omega), if_neg (by omega)]
  have eB : structF b = sLoop b.length b 0 [] [] := by unfold structF; rw [if_neg (by omega), if_neg (by omega)]
  have eC : structF (a ++ b ++ [(op, 0)]) = sLoop (a ++ b ++ [(op, 0)]).length (a ++ (b ++ [(op, 0)])) 0 [] [] := by unfold structF; rw [if_neg (by simp; omega), if_neg (by simp), List.append_assoc]
  rw [eC]
  generalize ((a ++ b ++ [(op, 0)]).length : Int) = L
  rw [eA] at ha; rw [eB] at hb
  rcases sLoop_shift L a.length [] [] 0 (b ++ [(op, 0)]) a 0 [] [] rfl rfl ha with ⟨_, q⟩ | ⟨T, t1, t2, t3⟩
  · exact absurd rfl q
  obtain rfl := one_zero t2 t1 (by omega)
  simp at t3
  rw [t3, ← eA]
  rcases sLoop_shift L b.length [0] (structF a).1 a.length [(op, 0)] b 0 [] [] rfl rfl hb with ⟨q, _⟩ | ⟨T, t1, t2, t3⟩
  · left; simpa using q
  obtain rfl := one_zero t2 t1 (by omega)
  right
  simp at t3
  rw [t3, ← eB, sLoop, if_neg (by simp [hop]), if_neg (by simp [hop]), if_neg (by simp [hop])]
  simp [hop, sLoop]
theorem zs_left {x y : List Int} {i : Nat} (h : i < x.length) (h' : i < (x ++ y ++ [0]).length) : (x ++ y ++ [0])[i] = x[i] := by
  simp only [List.append_assoc]; rw [List.getElem_append_left h]
theorem zs_right {x y : List Int} {c : Int} {m j : Nat} (hm : x.length = m) (h : j < y.length) (h' : m + j < (x ++ y.map (· + c) ++ [0]).length) : (x ++ y.map (· + c) ++ [0])[m + j] = c + y[j] := by
  subst hm
  rw [List.getElem_append_left (by simp; omega), List.getElem_append_right (by omega)]
  simp [Int.add_comm]


theorem start_le {b : List TNode} (h : (structF b).2.2 = 0) {j : Nat} (hj : j < (structF b).1.length) : 0 ≤ (structF b).1[j] ∧ (structF b).1[j] ≤ j := by
  obtain ⟨_, _, hl, _, hk⟩ := structF_ok h
  obtain ⟨_, rs, _, _, frm, hc, _⟩ := hk j (by omega)
  have h3 := hc.2.2.1
  rw [show ((((j + 1 : Nat) : Int)) - 1).toNat = j by omega, List.getElem?_eq_getElem hj] at h3
  have := Option.some.inj h3
  have := hc.1; have := hc.2.1
  omega

theorem law_stack (a b : List TNode) (op : Int) : Ct Try.prog 6 [.tv (rSlice rNode) a, .tv (rSlice rNode) b, .raw (.int .i64 op)] (.raw (.bool true)) := by
  refine ct_intro Try.func6 rfl rfl Try.ntmps6 rfl rfl ?_
  intro w0 ok0
  refine j_seq ?_
  refine j_region ?_
  refine jg_adr _ rfl _ rfl rfl (op_assign (.base rfl)) ?_
  refine jg_nil ?_
  refine jn_keep [0, 1, 2] [] (.cons rfl (.cons rfl (.cons rfl .nil))) .nil ?_
  refine jn_seq (j_seq (j_seq ?_))
  refine j_region ?_
  refine jg_adr _ rfl _ rfl rfl (op_move (.base rfl)) ?_
  refine jg_adr _ rfl _ rfl rfl (op_len Try.underlying22 (.base rfl)) ?_
  refine jg_adr _ rfl _ rfl rfl (op_gtr (.base rfl) (.base rfl)) ?_
  refine jg_adr _ rfl _ rfl rfl (op_move (.base rfl)) ?_
  refine jg_gd _ _ _ _ _ _ rfl rfl rfl rfl rfl (fun hg => op_move (.base rfl)) ?_
  refine jg_gd _ _ _ _ _ _ rfl rfl rfl rfl rfl (fun hg => op_len Try.underlying22 (.gd rfl hg)) ?_
  refine jg_gd _ _ _ _ _ _ rfl rfl rfl rfl rfl (fun hg => op_gtr (.gd rfl hg) (.base rfl)) ?_
  refine jg_adr _ rfl _ rfl rfl (op_pick_or (.base rfl) (.base rfl) rfl (by intro h; first | (rw [h]; rfl) | simp_all)) ?_
  refine jg_adr _ rfl _ rfl rfl (op_move (.base rfl)) ?_
  refine jg_gd _ _ _ _ _ _ rfl rfl rfl rfl rfl (fun hg => op_move (.base rfl)) ?_
  refine jg_gd _ _ _ _ _ _ rfl rfl rfl rfl rfl (fun hg => op_call (arity_ok _) (.cons (.gd rfl hg) .nil) rfl rfl) ?_
  refine jg_gd _ _ _ _ _ _ rfl rfl rfl rfl rfl (fun hg => op_neq (.gd rfl hg) (.base rfl)) ?_
  refine jg_adr _ rfl _ rfl rfl (op_pick_or (.base rfl) (.base rfl) rfl (by intro h; first | (rw [h]; rfl) | simp_all)) ?_
  refine jg_nil ?_
  refine jn_keep [0, 1, 2, 28] [] (.cons rfl (.cons rfl (.cons rfl (.cons rfl .nil)))) .nil ?_
  refine jn_seq ?_
  refine j_cond rfl (fun h1 => ?_) (fun h1 => ?_)
  · try simp at h1
    refine j_seq ?_
    refine j_region ?_
    refine jg_adr _ rfl _ rfl rfl (op_call awake_ok .nil rfl rfl) ?_
    refine jg_adr _ rfl _ rfl rfl (op_assign (.base rfl)) ?_
    refine jg_nil ?_
    refine jn_keep [6] [] (.cons rfl .nil) .nil ?_
    refine jn_seq (j_ret (jr_seq ?_))
    exact jr_fin1 Try.results6 (res_tmp rfl) rfl rfl
  · try simp at h1
    refine j_skip (jn_seq (j_seq ?_))
    refine j_region ?_
    refine jg_adr _ rfl _ rfl rfl (op_move (.base rfl)) ?_
    refine jg_adr _ rfl _ rfl rfl (op_call (starts_ok _) (.cons (.base rfl) .nil) rfl rfl) ?_
    refine jg_adr _ rfl _ rfl rfl (op_move (.base rfl)) ?_
    refine jg_adr _ rfl _ rfl rfl (op_ext20 (.base rfl)) ?_
    refine jg_adr _ rfl _ rfl rfl (op_ext21 (.base rfl)) ?_
    refine jg_adr _ rfl _ rfl rfl (op_assign (.base rfl)) ?_
    refine jg_adr _ rfl _ rfl rfl (op_assign (.base rfl)) ?_
    refine jg_nil ?_
    refine jn_keep [0, 1, 2, 7, 8] [] (.cons rfl (.cons rfl (.cons rfl (.cons rfl (.cons rfl .nil))))) .nil ?_
    refine jn_seq (j_seq ?_)
    refine j_region ?_
    refine jg_adr _ rfl _ rfl rfl (op_move (.base rfl)) ?_
    refine jg_adr _ rfl _ rfl rfl (op_call (starts_ok _) (.cons (.base rfl) .nil) rfl rfl) ?_
    refine jg_adr _ rfl _ rfl rfl (op_move (.base rfl)) ?_
    refine jg_adr _ rfl _ rfl rfl (op_ext20 (.base rfl)) ?_
    refine jg_adr _ rfl _ rfl rfl (op_ext21 (.base rfl)) ?_
    refine jg_adr _ rfl _ rfl rfl (op_assign (.base rfl)) ?_
    refine jg_adr _ rfl _ rfl rfl (op_assign (.base rfl)) ?_
    refine jg_nil ?_
    refine jn_keep [0, 1, 2, 7, 8, 9, 10] [] (.cons rfl (.cons rfl (.cons rfl (.cons rfl (.cons rfl (.cons rfl (.cons rfl .nil))))))) .nil ?_
    refine jn_seq (j_seq (j_seq ?_))
    refine j_region ?_
    refine jg_adr _ rfl _ rfl rfl (op_move (.base rfl)) ?_
    refine jg_adr _ rfl _ rfl rfl (op_neq (.base rfl) (.base rfl)) ?_
    refine jg_adr _ rfl _ rfl rfl (op_move (.base rfl)) ?_
    refine jg_gd _ _ _ _ _ _ rfl rfl rfl rfl rfl (fun hg => op_move (.base rfl)) ?_
    refine jg_gd _ _ _ _ _ _ rfl rfl rfl rfl rfl (fun hg => op_neq (.gd rfl hg) (.base rfl)) ?_
    refine jg_adr _ rfl _ rfl rfl (op_pick_or (.base rfl) (.base rfl) rfl (by intro h; first | (rw [h]; rfl) | simp_all)) ?_
    refine jg_nil ?_
    refine jn_keep [0, 1, 2, 7, 9, 45] [] (.cons rfl (.cons rfl (.cons rfl (.cons rfl (.cons rfl (.cons rfl .nil)))))) .nil ?_
    refine jn_seq ?_
    refine j_cond rfl (fun h5 => ?_) (fun h5 => ?_)
    · try simp at h5
      refine j_seq ?_
      refine j_region ?_
      refine jg_adr _ rfl _ rfl rfl (op_call awake_ok .nil rfl rfl) ?_
      refine jg_adr _ rfl _ rfl rfl (op_assign (.base rfl)) ?_
      refine jg_nil ?_
      refine jn_keep [6] [] (.cons rfl .nil) .nil ?_
      refine jn_seq (j_ret (jr_seq ?_))
      exact jr_fin1 Try.results6 (res_tmp rfl) rfl rfl
    · try simp at h5
      refine j_skip (jn_seq (j_seq ?_))
      refine j_region ?_
      refine jg_adr _ rfl _ rfl rfl (op_assign (.base rfl)) ?_
      refine jg_nil ?_
      refine jn_keep [0, 1, 2, 7, 9, 11] [] (.cons rfl (.cons rfl (.cons rfl (.cons rfl (.cons rfl (.cons rfl .nil)))))) .nil ?_
      refine jn_seq (j_seq ?_)
      refine j_vac 71 11 rNode rfl rfl rfl ?_
      refine j_region ?_
      refine jg_adr _ rfl _ rfl rfl (op_move (.base rfl)) ?_
      refine jg_adr _ rfl _ rfl rfl (op_move (.base rfl)) ?_
      refine jg_os _ rfl (op_append [0, 1, 2, 7, 9] Try.underlying22 ty44 z44 rfl by44 (.base rfl) rfl (by simp; try omega) (.tv (.base rfl)) (by unfold maxLen; simp; omega) (by simp; omega) rfl (.cons rfl (.cons rfl (.cons rfl (.cons rfl (.cons rfl .nil))))) rfl) ?_
      refine jg_adr _ rfl _ rfl rfl (op_assign (.base rfl)) ?_
      refine jg_nil ?_
      refine jn_keep [0, 1, 2, 7, 9, 11] [71] (.cons rfl (.cons rfl (.cons rfl (.cons rfl (.cons rfl (.cons rfl .nil)))))) (.cons rfl .nil) ?_
      refine jn_seq (j_seq ?_)
      refine j_region ?_
      refine jg_adr _ rfl _ rfl rfl (op_move (.base rfl)) ?_
      refine jg_adr _ rfl _ rfl rfl (op_move (.base rfl)) ?_
      refine jg_os _ rfl (op_append [0, 1, 2, 7, 9] Try.underlying22 ty44 z44 rfl by44 (.base rfl) rfl (by simp; try omega) (.tv (.base rfl)) (by unfold maxLen; simp; omega) (by simp; omega) rfl (.cons rfl (.cons rfl (.cons rfl (.cons rfl (.cons rfl .nil))))) rfl) ?_
      refine jg_adr _ rfl _ rfl rfl (op_assign (.base rfl)) ?_
      refine jg_nil ?_
      refine jn_keep [0, 1, 2, 7, 9, 11] [71] (.cons rfl (.cons rfl (.cons rfl (.cons rfl (.cons rfl (.cons rfl .nil)))))) (.cons rfl .nil) ?_
      refine jn_seq (j_seq ?_)
      refine j_region ?_
      refine jg_adr _ rfl _ rfl rfl (op_move (.base rfl)) ?_
      refine jg_adr _ rfl _ rfl rfl (op_move (.base rfl)) ?_
      refine jg_adr _ rfl _ rfl rfl (op_build z44 rfl pl44 (.cons (rt' := (rInt .i64)) rfl ln44_0 (.raw (.base rfl) rfl) .nil)) ?_
      refine jg_adr _ rfl _ rfl rfl (op_bslice (rt := rNode) Try.underlying22 ty44 z44 rfl (.cons (.tv (.base rfl)) .nil) rfl rfl) ?_
      refine jg_os _ rfl (op_append [0, 1, 7, 9] Try.underlying22 ty44 z44 rfl by44 (.base rfl) rfl (by simp; try omega) (.tv (.base rfl)) (by unfold maxLen; simp; omega) (by simp; omega) rfl (.cons rfl (.cons rfl (.cons rfl (.cons rfl .nil)))) rfl) ?_
      refine jg_adr _ rfl _ rfl rfl (op_assign (.base rfl)) ?_
      refine jg_nil ?_
      refine jn_keep [0, 1, 7, 9, 11] [71] (.cons rfl (.cons rfl (.cons rfl (.cons rfl (.cons rfl .nil))))) (.cons rfl .nil) ?_
      refine jn_seq (j_seq ?_)
      refine j_seal (rt := rNode) 71 11 (dropH 71 _) rfl rfl (by simp; try omega) (dropH_sub 71 _) (dropH_no 71 _) ?_
      have hA : (structF a).2.2 = 0 := h5.1
      have hB : (structF b).2.2 = 0 := h5.2
      have hxl := (structF_ok hA).2.2.1
      have hyl := (structF_ok hB).2.2.1
      have hlaw := stack_law (op := op) hA hB (by omega) (by omega) (by omega)
      have hst : ∀ q : List TNode, q = a ++ b ++ [(op, 0)] → Ct Try.prog 9 [.tv (rSlice rNode) q] (sv2 ((structF (a ++ b ++ [(op, 0)])).1, (structF (a ++ b ++ [(op, 0)])).2.2)) := by rintro q rfl; exact starts_ok _
      have hix : ∀ n : Nat, n = a.length + b.length + 1 → (n : Int) - 1 = ((a.length + b.length : Nat) : Int) := by intro n h; omega
      refine j_region ?_
      refine jg_adr _ rfl _ rfl rfl (op_move (.base rfl)) ?_
      refine jg_adr _ rfl _ rfl rfl (op_call (hst _ (by simp; rw [List.take_of_length_le (by simp), List.take_of_length_le (by simp)]; simp)) (.cons (.base rfl) .nil) rfl rfl) ?_
      refine jg_adr _ rfl _ rfl rfl (op_move (.base rfl)) ?_
      refine jg_adr _ rfl _ rfl rfl (op_ext20 (.base rfl)) ?_
      refine jg_adr _ rfl _ rfl rfl (op_ext21 (.base rfl)) ?_
      refine jg_adr _ rfl _ rfl rfl (op_assign (.base rfl)) ?_
      refine jg_adr _ rfl _ rfl rfl (op_assign (.base rfl)) ?_
      refine jg_nil ?_
      refine jn_keep [0, 1, 7, 9, 11, 12, 13] [] (.cons rfl (.cons rfl (.cons rfl (.cons rfl (.cons rfl (.cons rfl (.cons rfl .nil))))))) .nil ?_
      refine jn_seq (j_seq (j_seq ?_))
      refine j_region ?_
      refine jg_adr _ rfl _ rfl rfl (op_move (.base rfl)) ?_
      refine jg_adr _ rfl _ rfl rfl (op_eql (.base rfl) (.base rfl)) ?_
      refine jg_nil ?_
      refine jn_keep [0, 1, 7, 9, 11, 12, 13, 64] [] (.cons rfl (.cons rfl (.cons rfl (.cons rfl (.cons rfl (.cons rfl (.cons rfl (.cons rfl .nil)))))))) .nil ?_
      refine jn_seq ?_
      refine j_cond rfl (fun h12 => ?_) (fun h12 => ?_)
      · try simp at h12
        refine j_seq ?_
        refine j_region ?_
        refine jg_adr _ rfl _ rfl rfl (op_call awake_ok .nil rfl rfl) ?_
        refine jg_adr _ rfl _ rfl rfl (op_assign (.base rfl)) ?_
        refine jg_nil ?_
        refine jn_keep [6] [] (.cons rfl .nil) .nil ?_
        refine jn_seq (j_ret (jr_seq ?_))
        exact jr_fin1 Try.results6 (res_tmp rfl) rfl rfl
      · try simp at h12
        refine j_skip (jn_seq (j_seq (j_seq ?_)))
        have hz : structF (a ++ b ++ [(op, 0)]) = (((structF a).1 ++ (structF b).1.map (· + (a.length : Int)) ++ [0]), 0, 0) := hlaw.resolve_left (by simpa using h12)
        rw [hz]
        refine j_region ?_
        refine jg_adr _ rfl _ rfl rfl (op_move (.base rfl)) ?_
        refine jg_adr _ rfl _ rfl rfl (op_neq (.base rfl) (.base rfl)) ?_
        refine jg_adr _ rfl _ rfl rfl (op_move (.base rfl)) ?_
        refine jg_gd _ _ _ _ _ _ rfl rfl rfl rfl rfl (fun hg => op_move (.base rfl)) ?_
        refine jg_gd _ _ _ _ _ _ rfl rfl rfl rfl rfl (fun hg => op_len Try.underlying24 (.gd rfl hg)) ?_
        refine jg_gd _ _ _ _ _ _ rfl rfl rfl rfl rfl (fun hg => op_move (.base rfl)) ?_
        refine jg_gd _ _ _ _ _ _ rfl rfl rfl rfl rfl (fun hg => op_len Try.underlying22 (.gd rfl hg)) ?_
        refine jg_gd _ _ _ _ _ _ rfl rfl rfl rfl rfl (fun hg => op_neq (.gd rfl hg) (.gd rfl hg)) ?_
        refine jg_adr _ rfl _ rfl rfl (op_pick_or (.base rfl) (.base rfl) rfl (by intro h; first | (rw [h]; rfl) | simp_all)) ?_
        refine jg_adr _ rfl _ rfl rfl (op_move (.base rfl)) ?_
        refine jg_gd _ _ _ _ _ _ rfl rfl rfl rfl rfl (fun hg => op_move (.base rfl)) ?_
        refine jg_gd _ _ _ _ _ _ rfl rfl rfl rfl rfl (fun hg => op_len Try.underlying24 (.gd rfl hg)) ?_
        refine jg_gd _ _ _ _ _ _ rfl rfl rfl rfl rfl (fun hg => op_move (.base rfl)) ?_
        refine jg_gd _ _ _ _ _ _ rfl rfl rfl rfl rfl (fun hg => op_len Try.underlying22 (.gd rfl hg)) ?_
        refine jg_gd _ _ _ _ _ _ rfl rfl rfl rfl rfl (fun hg => op_neq (.gd rfl hg) (.gd rfl hg)) ?_
        refine jg_adr _ rfl _ rfl rfl (op_pick_or (.base rfl) (.base rfl) rfl (by intro h; first | (rw [h]; rfl) | simp_all)) ?_
        refine jg_adr _ rfl _ rfl rfl (op_move (.base rfl)) ?_
        refine jg_gd _ _ _ _ _ _ rfl rfl rfl rfl rfl (fun hg => op_move (.base rfl)) ?_
        refine jg_gd _ _ _ _ _ _ rfl rfl rfl rfl rfl (fun hg => op_len Try.underlying24 (.gd rfl hg)) ?_
        refine jg_gd _ _ _ _ _ _ rfl rfl rfl rfl rfl (fun hg => op_move (.base rfl)) ?_
        refine jg_gd _ _ _ _ _ _ rfl rfl rfl rfl rfl (fun hg => op_len Try.underlying22 (.gd rfl hg)) ?_
        refine jg_gd _ _ _ _ _ _ rfl rfl rfl rfl rfl (fun hg => op_neq (.gd rfl hg) (.gd rfl hg)) ?_
        refine jg_adr _ rfl _ rfl rfl (op_pick_or (.base rfl) (.base rfl) rfl (by intro h; first | (rw [h]; rfl) | simp_all)) ?_
        refine jg_adr _ rfl _ rfl rfl (op_move (.base rfl)) ?_
        refine jg_gd _ _ _ _ _ _ rfl rfl rfl rfl rfl (fun hg => op_move (.base rfl)) ?_
        refine jg_gd _ _ _ _ _ _ rfl rfl rfl rfl rfl (fun hg => op_move (.base rfl)) ?_
        refine jg_gd _ _ _ _ _ _ rfl rfl rfl rfl rfl (fun hg => op_len Try.underlying22 (.gd rfl hg)) ?_
        refine jg_gd _ _ _ _ _ _ rfl rfl rfl rfl rfl (fun hg => op_sub (.gd rfl hg) (.base rfl) (w64 (by simp; omega))) ?_
        refine jg_gd _ _ _ _ _ _ rfl rfl rfl rfl rfl (fun hg => op_index Try.underlying24 ty3 (.gd rfl hg) (.gd rfl hg) (hix _ (by simp; try omega)) (getD_some (z := (0 : Int)) (by first | omega | (simp; done) | (simp; omega) | (simp at hg; omega) | (simp at hg; simp; omega)))) ?_
        refine jg_gd _ _ _ _ _ _ rfl rfl rfl rfl rfl (fun hg => op_load ty3 (.gd rfl hg)) ?_
        refine jg_gd _ _ _ _ _ _ rfl rfl rfl rfl rfl (fun hg => op_neq (.gd rfl hg) (.base rfl)) ?_
        refine jg_adr _ rfl _ rfl rfl (op_pick_or (.base rfl) (.base rfl) rfl (by intro h; first | (rw [h]; rfl) | simp_all)) ?_
        refine jg_nil ?_
        refine jn_keep [0, 1, 7, 9, 12, 97] [] (.cons rfl (.cons rfl (.cons rfl (.cons rfl (.cons rfl (.cons rfl .nil)))))) .nil ?_
        refine jn_seq ?_
        refine j_cond rfl (fun h14 => ?_) (fun h14 => ?_)
        · exfalso; simp [hxl, hyl] at h14; try omega
        · try simp at h14
          refine j_skip (jn_seq (j_seq (j_seq ?_)))
          refine j_region ?_
          refine jg_adr _ rfl _ rfl rfl (op_assign (.base rfl)) ?_
          refine jg_nil ?_
          refine jn_keep [0, 1, 7, 9, 12, 14] [] (.cons rfl (.cons rfl (.cons rfl (.cons rfl (.cons rfl (.cons rfl .nil)))))) .nil ?_
          refine jn_seq (j_block ?_)
          refine j_loopp (ι := Nat) (fun i => ⟨[(0, .tv (rSlice rNode) a), (1, .tv (rSlice rNode) b), (7, .tv (rSlice (rInt .i64)) (structF a).1), (9, .tv (rSlice (rInt .i64)) (structF b).1), (12, .tv (rSlice (rInt .i64)) ((structF a).1 ++ (structF b).1.map (· + (a.length : Int)) ++ [0])), (14, .raw (.int .i64 ((i : Nat))))], []⟩) (fun i => i ≤ a.length) (fun i => a.length - i) 0 (Nat.zero_le _) (fun a w hi => (Sub.inv ⟨(by repeat (first | exact SubS_nil | refine SubS_cons rfl (by first | rfl | (simp; done) | assumption) ?_)), (by repeat (first | exact SubH_nil | refine SubH_cons rfl (by first | rfl | (simp; done) | assumption) ?_))⟩ hi)) ?_
          rintro i hi0
          refine j_seq (j_seq ?_)
          refine j_region ?_
          refine jg_adr _ rfl _ rfl rfl (op_move (.base rfl)) ?_
          refine jg_adr _ rfl _ rfl rfl (op_move (.base rfl)) ?_
          refine jg_adr _ rfl _ rfl rfl (op_len Try.underlying22 (.base rfl)) ?_
          refine jg_adr _ rfl _ rfl rfl (op_lss (.base rfl) (.base rfl)) ?_
          refine jg_nil ?_
          refine jn_keep [0, 1, 7, 9, 12, 14, 101] [] (.cons rfl (.cons rfl (.cons rfl (.cons rfl (.cons rfl (.cons rfl (.cons rfl .nil))))))) .nil ?_
          refine jn_seq ?_
          refine j_cond rfl (fun h17 => ?_) (fun h17 => ?_)
          · try simp at h17
            refine j_skip (jn_seq (j_seq (j_block (j_seq ?_))))
            refine j_draw mo (by kernel_rfl) (
              AS.cons _ _ rfl (ga_adr rfl rfl rfl (op_move (.base rfl))) (
                AS.cons _ _ rfl (ga_adr rfl rfl rfl (op_move (.base rfl))) (
                AS.cons _ _ rfl (ga_adr rfl rfl rfl (op_index Try.underlying24 ty3 (.base rfl) (.base rfl) rfl (List.getElem?_eq_getElem (by first | omega | (simp; done) | (simp; omega) | (simp at hg; omega))))) (
                AS.cons _ _ rfl (ga_adr rfl rfl rfl (op_load ty3 (.base rfl))) (
                AS.cons _ _ rfl (ga_adr rfl rfl rfl (op_move (.base rfl))) (
                AS.cons _ _ rfl (ga_adr rfl rfl rfl (op_move (.base rfl))) (
                AS.cons _ _ rfl (ga_adr rfl rfl rfl (op_index Try.underlying24 ty3 (.base rfl) (.base rfl) rfl (List.getElem?_eq_getElem (by first | omega | (simp; done) | (simp; omega) | (simp at hg; omega))))) (
                AS.cons _ _ rfl (ga_adr rfl rfl rfl (op_load ty3 (.base rfl))) (
                AS.cons _ _ rfl (ga_adr rfl rfl rfl (op_neq (.base rfl) (.base rfl))) (
                AS.nil)))))))))) ?_
            refine jn_keep [0, 1, 7, 9, 12, 14, 112] [] (.cons rfl (.cons rfl (.cons rfl (.cons rfl (.cons rfl (.cons rfl (.cons rfl .nil))))))) .nil ?_
            refine jn_seq ?_
            refine j_cond rfl (fun h19 => ?_) (fun h19 => ?_)
            · exact absurd (zs_left (i := i) (x := (structF a).1) (y := (structF b).1.map (· + (a.length : Int))) (by omega) (by simp; omega)) (by simpa using h19)
            · try simp at h19
              refine j_skip (jn_blk (jn_seq ?_))
              refine j_region ?_
              refine jg_adr _ rfl _ rfl rfl (op_move (.base rfl)) ?_
              refine jg_adr _ rfl _ rfl rfl (op_add (.base rfl) (.base rfl) (w64 (by omega))) ?_
              refine jg_adr _ rfl _ rfl rfl (op_assign (.base rfl)) ?_
              refine jg_nil ?_
              refine jn_keep [0, 1, 7, 9, 12, 14] [] (.cons rfl (.cons rfl (.cons rfl (.cons rfl (.cons rfl (.cons rfl .nil)))))) .nil ?_
              exact jn_loop (fun a w hi => ⟨i + 1, (by first | omega | (simp; omega)), (by omega), (Sub.inv ⟨(by repeat (first | exact SubS_nil | refine SubS_cons rfl (by first | rfl | (simp; done) | assumption) ?_)), (by repeat (first | exact SubH_nil | refine SubH_cons rfl (by first | rfl | (simp; done) | assumption) ?_))⟩ hi)⟩)
          · try simp at h17
            refine j_exit (je_seq (je_loop (je_blk (jn_seq (j_seq (j_seq ?_))))))
            refine j_region ?_
            refine jg_adr _ rfl _ rfl rfl (op_assign (.base rfl)) ?_
            refine jg_nil ?_
            refine jn_keep [0, 1, 9, 12, 15] [] (.cons rfl (.cons rfl (.cons rfl (.cons rfl (.cons rfl .nil))))) .nil ?_
            refine jn_seq (j_block ?_)
            refine j_loopp (ι := Nat) (fun j => ⟨[(0, .tv (rSlice rNode) a), (1, .tv (rSlice rNode) b), (9, .tv (rSlice (rInt .i64)) (structF b).1), (12, .tv (rSlice (rInt .i64)) ((structF a).1 ++ (structF b).1.map (· + (a.length : Int)) ++ [0])), (15, .raw (.int .i64 ((j : Nat))))], []⟩) (fun j => j ≤ b.length) (fun j => b.length - j) 0 (Nat.zero_le _) (fun a w hi => (Sub.inv ⟨(by repeat (first | exact SubS_nil | refine SubS_cons rfl (by first | rfl | (simp; done) | assumption) ?_)), (by repeat (first | exact SubH_nil | refine SubH_cons rfl (by first | rfl | (simp; done) | assumption) ?_))⟩ hi)) ?_
            rintro j hj0
            refine j_seq (j_seq ?_)
            refine j_region ?_
            refine jg_adr _ rfl _ rfl rfl (op_move (.base rfl)) ?_
            refine jg_adr _ rfl _ rfl rfl (op_move (.base rfl)) ?_
            refine jg_adr _ rfl _ rfl rfl (op_len Try.underlying22 (.base rfl)) ?_
            refine jg_adr _ rfl _ rfl rfl (op_lss (.base rfl) (.base rfl)) ?_
            refine jg_nil ?_
            refine jn_keep [0, 1, 9, 12, 15, 116] [] (.cons rfl (.cons rfl (.cons rfl (.cons rfl (.cons rfl (.cons rfl .nil)))))) .nil ?_
            refine jn_seq ?_
            refine j_cond rfl (fun h22 => ?_) (fun h22 => ?_)
            · try simp at h22
              refine j_skip (jn_seq (j_seq (j_block (j_seq ?_))))
              have hixj : (a.length : Int) + (j : Int) = ((a.length + j : Nat) : Int) := by omega
              have hzr := zs_right (c := (a.length : Int)) (x := (structF a).1) (y := (structF b).1) (j := j) hxl (by omega) (by simp; omega)
              refine j_draw mo (by kernel_rfl) (
                AS.cons _ _ rfl (ga_adr rfl rfl rfl (op_move (.base rfl))) (
                  AS.cons _ _ rfl (ga_adr rfl rfl rfl (op_move (.base rfl))) (
                  AS.cons _ _ rfl (ga_adr rfl rfl rfl (op_len Try.underlying22 (.base rfl))) (
                  AS.cons _ _ rfl (ga_adr rfl rfl rfl (op_move (.base rfl))) (
                  AS.cons _ _ rfl (ga_adr rfl rfl rfl (op_add (.base rfl) (.base rfl) (w64 (by omega)))) (
                  AS.cons _ _ rfl (ga_adr rfl rfl rfl (op_index Try.underlying24 ty3 (.base rfl) (.base rfl) hixj (List.getElem?_eq_getElem (by first | omega | (simp; done) | (simp; omega) | (simp at hg; omega))))) (
                  AS.cons _ _ rfl (ga_adr rfl rfl rfl (op_load ty3 (.base rfl))) (
                  AS.cons _ _ rfl (ga_adr rfl rfl rfl (op_move (.base rfl))) (
                  AS.cons _ _ rfl (ga_adr rfl rfl rfl (op_len Try.underlying22 (.base rfl))) (
                  AS.cons _ _ rfl (ga_adr rfl rfl rfl (op_move (.base rfl))) (
                  AS.cons _ _ rfl (ga_adr rfl rfl rfl (op_move (.base rfl))) (
                  AS.cons _ _ rfl (ga_adr rfl rfl rfl (op_index Try.underlying24 ty3 (.base rfl) (.base rfl) rfl (List.getElem?_eq_getElem (by first | omega | (simp; done) | (simp; omega) | (simp at hg; omega))))) (
                  AS.cons _ _ rfl (ga_adr rfl rfl rfl (op_load ty3 (.base rfl))) (
                  AS.cons _ _ rfl (ga_adr rfl rfl rfl (op_add (.base rfl) (.base rfl) (w64 (by have := start_le hB (show j < (structF b).1.length by omega); omega)))) (
                  AS.cons _ _ rfl (ga_adr rfl rfl rfl (op_neq (.base rfl) (.base rfl))) (
                  AS.nil)))))))))))))))) ?_
              refine jn_keep [0, 1, 9, 12, 15, 133] [] (.cons rfl (.cons rfl (.cons rfl (.cons rfl (.cons rfl (.cons rfl .nil)))))) .nil ?_
              refine jn_seq ?_
              refine j_cond rfl (fun h24 => ?_) (fun h24 => ?_)
              · exact absurd hzr (by simpa using h24)
              · try simp at h24
                refine j_skip (jn_blk (jn_seq ?_))
                refine j_region ?_
                refine jg_adr _ rfl _ rfl rfl (op_move (.base rfl)) ?_
                refine jg_adr _ rfl _ rfl rfl (op_add (.base rfl) (.base rfl) (w64 (by omega))) ?_
                refine jg_adr _ rfl _ rfl rfl (op_assign (.base rfl)) ?_
                refine jg_nil ?_
                refine jn_keep [0, 1, 9, 12, 15] [] (.cons rfl (.cons rfl (.cons rfl (.cons rfl (.cons rfl .nil))))) .nil ?_
                exact jn_loop (fun a w hi => ⟨j + 1, (by first | omega | (simp; omega)), (by omega), (Sub.inv ⟨(by repeat (first | exact SubS_nil | refine SubS_cons rfl (by first | rfl | (simp; done) | assumption) ?_)), (by repeat (first | exact SubH_nil | refine SubH_cons rfl (by first | rfl | (simp; done) | assumption) ?_))⟩ hi)⟩)
            · try simp at h22
              refine j_exit (je_seq (je_loop (je_blk (jn_seq (j_seq ?_)))))
              refine j_region ?_
              refine jg_adr _ rfl _ rfl rfl (op_call awake_ok .nil rfl rfl) ?_
              refine jg_adr _ rfl _ rfl rfl (op_assign (.base rfl)) ?_
              refine jg_nil ?_
              refine jn_keep [6] [] (.cons rfl .nil) .nil ?_
              refine jn_seq (j_ret ?_)
              exact jr_fin1 Try.results6 (res_tmp rfl) rfl rfl

end Go.Proofs.Ytkbljpjbocdhdaa
