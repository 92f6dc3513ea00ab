import Derived.Test.YtgoggdaohdablaaGreatP23v
namespace Go.Proofs.YtgoggdaohdablaaGreat
open Go.Eng
set_option maxRecDepth 100000
set_option maxHeartbeats 1000000
set_option linter.unusedVariables false
set_option linter.unusedSimpArgs false
/-! chapter 10: an expression is made of its operands -/
abbrev Sg := List TNode × TType
def offs : Nat → List Sg → List Int
  | _, [] => []
  | a, x :: r => (a : Int) :: offs (a + x.1.length) r
def flat : List Sg → List TNode
  | [] => []
  | x :: r => x.1 ++ flat r
def Good (s : TSignature) (p : Nat) (x : Sg) : Prop := x.1 ≠ [] ∧
  (∀ (L : Int) (r : List TNode) (i : Nat) (stack starts : List Int), stack.length ≤ p → ∃ ss, ss.length = x.1.length ∧ sLoop L (x.1 ++ r) i stack starts = sLoop L r (i + x.1.length) (stack ++ [(i : Int)]) (starts ++ ss)) ∧
  (∀ (r : List TNode) (i : Nat) (st : List TType), tLoop s (x.1 ++ r) i st = tLoop s r (i + x.1.length) (st ++ [x.2]))
def Goods (s : TSignature) : Nat → List Sg → Prop
  | _, [] => True
  | p, x :: r => Good s p x ∧ Goods s (p + 1) r
theorem offs_len : ∀ (a : Nat) (l : List Sg), (offs a l).length = l.length
  | _, [] => rfl
  | a, x :: r => by simp [offs, offs_len]
theorem flat_append : ∀ (x y : List Sg), flat (x ++ y) = flat x ++ flat y
  | [], y => rfl
  | a :: x, y => by simp [flat, flat_append x y]
theorem offs_append : ∀ (a : Nat) (x y : List Sg), offs a (x ++ y) = offs a x ++ offs (a + (flat x).length) y
  | a, [], y => by simp [offs, flat]
  | a, b :: x, y => by simp [offs, flat, offs_append _ x y, Nat.add_assoc]
theorem goods_append {s : TSignature} : ∀ (p : Nat) (x y : List Sg), Goods s p (x ++ y) ↔ Goods s p x ∧ Goods s (p + x.length) y
  | p, [], y => by simp [Goods]
  | p, a :: x, y => by
    simp only [List.cons_append, Goods, goods_append (p + 1) x y, List.length_cons, and_assoc]
    rw [show p + 1 + x.length = p + (x.length + 1) by omega]
theorem goods_runS {s : TSignature} : ∀ (p : Nat) (l : List Sg), Goods s p l → ∀ (L : Int) (r : List TNode) (i : Nat) (stack starts : List Int), stack.length ≤ p → ∃ ss, ss.length = (flat l).length ∧ sLoop L (flat l ++ r) i stack starts = sLoop L r (i + (flat l).length) (stack ++ offs i l) (starts ++ ss)
  | p, [], _, L, r, i, stack, starts, _ => ⟨[], rfl, by simp [flat, offs]⟩
  | p, x :: l, ⟨h1, h2⟩, L, r, i, stack, starts, hp => by
    obtain ⟨s1, l1, e1⟩ := h1.2.1 L (flat l ++ r) i stack starts hp
    obtain ⟨s2, l2, e2⟩ := goods_runS (p + 1) l h2 L r (i + x.1.length) (stack ++ [(i : Int)]) (starts ++ s1) (by simp; omega)
    refine ⟨s1 ++ s2, by simp [flat, l1, l2], ?_⟩
    rw [flat, List.append_assoc, e1, e2]
    simp [offs, Nat.add_assoc]
theorem goods_runT {s : TSignature} : ∀ (p : Nat) (l : List Sg), Goods s p l → ∀ (r : List TNode) (i : Nat) (st : List TType), tLoop s (flat l ++ r) i st = tLoop s r (i + (flat l).length) (st ++ l.map (·.2))
  | p, [], _, r, i, st => by simp [flat]
  | p, x :: l, ⟨h1, h2⟩, r, i, st => by
    rw [flat, List.append_assoc, h1.2.2, goods_runT (p + 1) l h2]
    simp [Nat.add_assoc]
theorem good_node {s : TSignature} {p : Nat} {l : List Sg} {d : TNode} (h : Goods s p l) (ha : arity d.1 = l.length) (hp : p + 1 ≤ 12) (h2 : ¬ (d.2 ≠ 0 ∧ usesN d.1 = false)) (h3 : (nodeType d (l.map (·.2)) s).2 = 0) :
    Good s p (flat l ++ [d], (nodeType d (l.map (·.2)) s).1) := by
  refine ⟨by simp, fun L r i stack starts hs => ?_, fun r i st => ?_⟩
  · obtain ⟨ss, l1, e1⟩ := goods_runS p l h L (d :: r) i stack starts hs
    have el : (((stack ++ offs i l).length : Int) - arity d.1).toNat = stack.length := by rw [ha]; simp [offs_len]
    have ef : (if 0 < arity d.1 then (stack ++ offs i l)[stack.length]?.getD 0 else ((i + (flat l).length : Nat) : Int)) = (i : Int) := by
      cases l with
      | nil => rw [ha]; simp [flat]
      | cons x l => rw [ha]; rw [if_pos (by simp)]; simp [offs]
    refine ⟨ss ++ [(i : Int)], by simp [l1], ?_⟩
    rw [show ((flat l ++ [d], (nodeType d (l.map (·.2)) s).1) : Sg).1 = flat l ++ [d] from rfl, List.append_assoc, List.singleton_append, e1, sLoop, if_neg (by rw [ha]; omega), if_neg (by rw [ha]; simp [offs_len]; omega), el,
      List.take_left' rfl, if_neg (by omega), ef]
    simp [Nat.add_assoc, List.append_assoc]
  · rw [show ((flat l ++ [d], (nodeType d (l.map (·.2)) s).1) : Sg).1 = flat l ++ [d] from rfl, List.append_assoc, List.singleton_append, goods_runT p l h, tLoop, if_neg h2]
    have eb : tBase d (st ++ l.map (·.2)) = st.length := by unfold tBase; rw [ha]; simp
    rw [eb, List.drop_left' rfl, List.take_left' rfl, if_neg (by simp [h3])]
    simp [Nat.add_assoc]
theorem good_type {s : TSignature} {p : Nat} {x : Sg} (h : Good s p x) (hl : x.1.length ≤ 48) : (structF x.1).2.2 = 0 ∧ typeOf x.1 s = (x.2, 0, 0) := by
  have hne : x.1.length ≠ 0 := fun e => h.1 (List.length_eq_zero_iff.1 e)
  obtain ⟨ss, l1, e1⟩ := h.2.1 x.1.length [] 0 [] [] (Nat.zero_le _)
  have hs : (structF x.1).2.2 = 0 := by
    unfold structF; rw [if_neg (by omega), if_neg hne]; simp at e1; rw [e1]; simp [sLoop]
  refine ⟨hs, ?_⟩
  unfold typeOf; rw [if_neg (by simp [hs])]
  have := h.2.2 [] 0 []
  simp at this; rw [this]; simp [tLoop]
/-- the run, with the stack's parts -/
def Run (e : List TNode) (s : TSignature) (k : Nat) (l : List Sg) : Prop := ∃ starts : List Int, chain starts k (offs 0 l).reverse ∧ starts.length = k ∧ sLoop e.length (e.drop k) k (offs 0 l) starts = structF e ∧
  tLoop s (e.drop k) k (l.map (·.2)) = typeOf e s ∧ flat l = e.take k ∧ Goods s 0 l ∧ ∀ x ∈ l, validType x.2 s.1 = true
theorem run_step {e : List TNode} {s : TSignature} {k : Nat} {l : List Sg} (h : Run e s k l) (hk : k < e.length) (hs : (structF e).2.2 = 0) (ht : (typeOf e s).2.2 = 0) :
    0 ≤ arity e[k].1 ∧ arity e[k].1 ≤ l.length ∧ ¬ (e[k].2 ≠ 0 ∧ usesN e[k].1 = false) ∧ (nodeType e[k] ((l.drop (l.length - (arity e[k].1).toNat)).map (·.2)) s).2 = 0 ∧ Run e s (k + 1) (l.take (l.length - (arity e[k].1).toNat) ++ [(flat (l.drop (l.length - (arity e[k].1).toNat)) ++ [e[k]], (nodeType e[k] ((l.drop (l.length - (arity e[k].1).toNat)).map (·.2)) s).1)]) := by
  obtain ⟨starts, hc, hl, h1, h2, h3, h4, h5⟩ := h
  rw [List.drop_eq_getElem_cons hk, sLoop] at h1
  rw [List.drop_eq_getElem_cons hk, tLoop] at h2
  have a0 : 0 ≤ arity e[k].1 := by
    refine Int.not_lt.1 fun c => ?_
    rw [if_pos c] at h1; rw [← h1] at hs; simp at hs
  rw [if_neg (by omega)] at h1
  have a1 : arity e[k].1 ≤ (offs 0 l).length := by
    refine Int.not_lt.1 fun c => ?_
    rw [if_pos c] at h1; rw [← h1] at hs; simp at hs
  rw [if_neg (by omega)] at h1
  have a2 : ¬ 12 < ((offs 0 l).take ((offs 0 l).length - arity e[k].1).toNat).length + 1 := fun c => by
    rw [if_pos c] at h1; rw [← h1] at hs; simp at hs
  rw [if_neg a2] at h1
  have b0 : ¬ (e[k].2 ≠ 0 ∧ usesN e[k].1 = false) := fun c => by
    rw [if_pos c] at h2; rw [← h2] at ht; simp at ht
  rw [if_neg b0] at h2
  have em : tBase e[k] (l.map (·.2)) = l.length - (arity e[k].1).toNat := by unfold tBase; simp; omega
  rw [offs_len] at a1
  rw [em] at h2
  have emo : (((offs 0 l).length : Int) - arity e[k].1).toNat = l.length - (arity e[k].1).toNat := by rw [offs_len]; omega
  rw [emo] at h1 a2
  generalize hm : l.length - (arity e[k].1).toNat = m at h1 h2 a2 em emo ⊢
  rw [← List.map_drop] at h2
  have b1 : (nodeType e[k] ((l.drop m).map (·.2)) s).2 = 0 := Classical.byContradiction fun c => by
    rw [if_pos c] at h2; rw [← h2] at ht; exact c ht
  rw [if_neg (fun c => c b1)] at h2
  have hml : m ≤ l.length := by omega
  have hsp : l = l.take m ++ l.drop m := (List.take_append_drop m l).symm
  have hof : offs 0 l = offs 0 (l.take m) ++ offs (0 + (flat (l.take m)).length) (l.drop m) := by rw [← offs_append, ← hsp]
  have hot : (offs 0 l).take m = offs 0 (l.take m) := by rw [hof]; exact List.take_left' (by rw [offs_len]; simp; omega)
  have hfl : (flat (l.take m)).length + (flat (l.drop m)).length = k := by rw [← List.length_append, ← flat_append, ← hsp, h3]; simp; omega
  have hfr : (if 0 < arity e[k].1 then (offs 0 l)[m]?.getD 0 else (k : Int)) = ((flat (l.take m)).length : Int) := by
    by_cases c : 0 < arity e[k].1
    · rw [if_pos c, hof, List.getElem?_append_right (by rw [offs_len]; simp; omega), offs_len]
      have : l.drop m ≠ [] := by intro q; have := congrArg List.length q; simp at this; omega
      cases hd : l.drop m with
      | nil => exact absurd hd this
      | cons x r => simp [offs, Nat.min_eq_left hml]
    · rw [if_neg c]
      have : l.drop m = [] := List.drop_eq_nil_of_le (by omega)
      rw [this] at hfl; simp [flat] at hfl; omega
  have hof2 : offs 0 (l.take m ++ [(flat (l.drop m) ++ [e[k]], (nodeType e[k] ((l.drop m).map (·.2)) s).1)]) = (offs 0 l).take m ++ [if 0 < arity e[k].1 then (offs 0 l)[m]?.getD 0 else (k : Int)] := by
    rw [offs_append, hot, hfr]; simp [offs]
  refine ⟨a0, a1, b0, b1, starts ++ [if 0 < arity e[k].1 then (offs 0 l)[m]?.getD 0 else (k : Int)], ?_, by simp [hl], ?_, ?_, ?_, ?_, ?_⟩
  · have := chain_step (n := arity e[k].1) hc hl a0 (by rw [offs_len]; exact a1)
    rw [emo] at this; rw [hof2]; exact this
  · rw [hof2]; exact h1
  · rw [List.map_append, List.map_take]; exact h2
  · rw [flat_append, flat, flat, List.append_nil, ← List.append_assoc, ← flat_append, ← hsp, h3]; exact List.take_append_getElem hk
  · rw [hsp, goods_append] at h4
    rw [goods_append]
    refine ⟨h4.1, good_node h4.2 (by simp; omega) (by simp [offs_len] at a2 ⊢; omega) b0 b1, trivial⟩
  · intro x hx
    rcases List.mem_append.1 hx with hx | hx
    · exact h5 x (List.mem_of_mem_take hx)
    · obtain rfl := List.mem_singleton.1 hx
      exact nodeType_valid (fun t ht => by obtain ⟨y, hy, rfl⟩ := List.mem_map.1 ht; exact h5 y (List.mem_of_mem_drop hy)) b1
theorem run_all {e : List TNode} {s : TSignature} (hs : (structF e).2.2 = 0) (ht : (typeOf e s).2.2 = 0) : ∀ k, k ≤ e.length → ∃ l, Run e s k l
  | 0, _ => by
    have := structF_ok hs
    refine ⟨[], [], rfl, rfl, ?_, ?_, rfl, trivial, by simp⟩
    · unfold structF; rw [if_neg (by omega), if_neg (by omega)]; rfl
    · unfold typeOf; rw [if_neg (by simp [hs])]; rfl
  | k + 1, hk => by
    obtain ⟨l, hl⟩ := run_all hs ht k (by omega)
    exact ⟨_, (run_step hl (by omega) hs ht).2.2.2.2⟩
def ends : Nat → List Sg → List Int
  | _, [] => []
  | a, x :: r => (((a + x.1.length : Nat) : Int) - 1) :: ends (a + x.1.length) r
theorem ends_len : ∀ (a : Nat) (l : List Sg), (ends a l).length = l.length
  | _, [] => rfl
  | a, x :: r => by simp [ends, ends_len]
theorem ends_append : ∀ (a : Nat) (x y : List Sg), ends a (x ++ y) = ends a x ++ ends (a + (flat x).length) y
  | a, [], y => by simp [ends, flat]
  | a, b :: x, y => by simp [ends, flat, ends_append _ x y, Nat.add_assoc]
theorem opd_ends {R : List Int} : ∀ (n : Nat) (l : List Sg), l.length = n → chain R ((flat l).length : Nat) (offs 0 l).reverse → opd R n ((flat l).length : Nat) = ends 0 l ∧
    ∀ i, i < l.length → (ends 0 l)[i]? = some (((flat (l.take (i + 1))).length : Int) - 1) ∧ R[(((flat (l.take (i + 1))).length : Int) - 1).toNat]? = some ((flat (l.take i)).length : Int)
  | 0, l, hl, _ => by
    obtain rfl := List.length_eq_zero_iff.1 hl
    exact ⟨rfl, fun i hi => absurd hi (by simp)⟩
  | n + 1, l, hl, hc => by
    rcases List.eq_nil_or_concat l with rfl | ⟨l', x, rfl⟩
    · simp at hl
    have hl' : l'.length = n := by simpa using hl
    rw [List.concat_eq_append] at hc ⊢
    have er : (offs 0 (l' ++ [x])).reverse = ((flat l').length : Int) :: (offs 0 l').reverse := by rw [offs_append, List.reverse_append]; simp [offs]
    rw [er] at hc
    obtain ⟨h1, h2⟩ := opd_ends n l' hl' hc.2.2.2
    have h3 := hc.2.2.1
    have ee : ends 0 (l' ++ [x]) = ends 0 l' ++ [((flat (l' ++ [x])).length : Int) - 1] := by rw [ends_append, flat_append]; simp [ends, flat]
    refine ⟨?_, fun i hi => ?_⟩
    · rw [opd, h3, Option.getD_some, h1, ee]
    · by_cases c : i < l'.length
      · rw [ee, List.getElem?_append_left (by rw [ends_len]; exact c), List.take_append_of_le_length (by omega), List.take_append_of_le_length (by omega)]
        exact h2 i c
      · have : i = l'.length := by simp at hi; omega
        subst this
        rw [ee, List.getElem?_append_right (by rw [ends_len]; omega), ends_len, List.take_of_length_le (by simp), List.take_left' rfl]
        simp; simpa using h3
theorem typeOf_struct {e : List TNode} {s : TSignature} (h : (typeOf e s).2.2 = 0) : (structF e).2.2 = 0 := by
  unfold typeOf at h; split at h
  · exact h
  · rename_i c; simpa using c
theorem comp {e : List TNode} {s : TSignature} (ht : (typeOf e s).2.2 = 0) : ∃ (l : List Sg) (d : TNode), e = flat l ++ [d] ∧ arity d.1 = l.length ∧ Goods s 0 l ∧ (∀ x ∈ l, validType x.2 s.1 = true) ∧ chain (structF e).1 ((flat l).length : Nat) (offs 0 l).reverse ∧
    typeOf e s = ((nodeType d (l.map (·.2)) s).1, 0, 0) ∧ (nodeType d (l.map (·.2)) s).2 = 0 ∧ ¬ (d.2 ≠ 0 ∧ usesN d.1 = false) := by
  have hs := typeOf_struct ht
  have h48 := structF_ok hs
  obtain ⟨l, hl⟩ := run_all hs ht (e.length - 1) (by omega)
  have hk : e.length - 1 < e.length := by omega
  obtain ⟨a0, a1, b0, b1, starts', hc', _, h1', h2', h3', h4', h5'⟩ := run_step hl hk hs ht
  have hlast : e.length - 1 + 1 = e.length := by omega
  rw [hlast, List.drop_of_length_le (Nat.le_refl _)] at h1' h2'
  have hm : l.length - (arity e[e.length - 1].1).toNat = 0 := Classical.byContradiction fun c => by
    rw [sLoop, if_pos (by rw [offs_len]; simp; omega)] at h1'
    rw [← h1'] at hs; simp at hs
  rw [hm] at h2' b1
  simp only [List.take_zero, List.nil_append, List.drop_zero] at h2' b1
  obtain ⟨starts, hc, hl0, h1, h2, h3, h4, h5⟩ := hl
  have hfl : (flat l).length = e.length - 1 := by rw [h3]; simp
  refine ⟨l, e[e.length - 1], ?_, by omega, h4, h5, ?_, ?_, b1, b0⟩
  · rw [h3, List.take_append_getElem hk, hlast, List.take_of_length_le (Nat.le_refl _)]
  · rw [← h1] at hs
    obtain ⟨_, ⟨t, e1⟩, _⟩ := sLoop_ok _ _ _ _ _ hc hl0 hs
    rw [hfl, ← h1, e1]; exact chain_ext (by omega) hc
  · rw [← h2']; simp [tLoop]
/-- the node that names the operands' types alone -/
def ins : Nat → List TType → List Sg
  | _, [] => []
  | a, t :: r => ([(7, (a : Int))], t) :: ins (a + 1) r
theorem ins_types : ∀ (a : Nat) (ts : List TType), (ins a ts).map (·.2) = ts
  | _, [] => rfl
  | a, t :: r => by simp [ins, ins_types]
theorem ins_len : ∀ (a : Nat) (ts : List TType), (ins a ts).length = ts.length
  | _, [] => rfl
  | a, t :: r => by simp [ins, ins_len]
theorem ins_flat : ∀ (a : Nat) (ts : List TType), flat (ins a ts) = (List.range' a ts.length).map (fun (j : Nat) => ((7, (j : Int)) : TNode))
  | _, [] => rfl
  | a, t :: r => by simp [ins, flat, ins_flat, List.range'_succ]
def withIn (s : TSignature) (ts : List TType) : TSignature := (s.1, s.2.1, ts, s.2.2.2)
theorem ins_good {s : TSignature} {full : List TType} (hv : ∀ t ∈ full, validType t s.1 = true) : ∀ (a p : Nat) (ts : List TType), full.drop a = ts → p + ts.length ≤ 12 → Goods (withIn s full) p (ins a ts)
  | _, _, [], _, _ => trivial
  | a, p, t :: r, h, hp => by
    have ha : a < full.length := Classical.byContradiction fun c => by rw [List.drop_of_length_le (by omega)] at h; cases h
    have ht : full[a] = t := by rw [List.drop_eq_getElem_cons ha] at h; exact (List.cons.inj h).1
    have hr : full.drop (a + 1) = r := by rw [List.drop_eq_getElem_cons ha] at h; exact (List.cons.inj h).2
    have hvt : validType t s.1 = true := by rw [← ht]; exact hv _ (List.getElem_mem _)
    have en : nodeType (7, (a : Int)) [] (withIn s full) = (t, 0) := by
      simp [nodeType, listedType, withIn, nthT, ha, ht, hvt]
    have := good_node (s := withIn s full) (p := p) (l := []) (d := (7, (a : Int))) trivial (by simp [arity]) (by simp at hp; omega) (by simp [usesN]) (by simp [en])
    simp only [List.map_nil, en, flat, List.nil_append] at this
    exact ⟨this, ins_good hv (a + 1) (p + 1) r hr (by simp at hp; omega)⟩
theorem nodeType_in {d : TNode} {l ts : List TType} {s : TSignature} (h : arity d.1 ≠ 0) : nodeType d l (withIn s ts) = nodeType d l s := by
  have h7 : ¬ d.1 = 7 := fun c => h (by rw [c]; rfl)
  unfold nodeType; rw [if_neg h7, if_neg h7]; rfl
theorem short_type {s : TSignature} {ts : List TType} {d : TNode} (hv : ∀ t ∈ ts, validType t s.1 = true) (ha : arity d.1 = ts.length) (h0 : ts.length ≠ 0) (hN : ¬ (d.2 ≠ 0 ∧ usesN d.1 = false)) (h2 : (nodeType d ts s).2 = 0) :
    typeOf ((List.range ts.length).map (fun (j : Nat) => ((7, (j : Int)) : TNode)) ++ [d]) (withIn s ts) = ((nodeType d ts s).1, 0, 0) := by
  have h3 := arity_le d.1
  have hg := ins_good hv 0 0 ts rfl (by omega)
  have := good_node (d := d) hg (by rw [ins_len]; exact ha) (by omega) hN (by rw [ins_types, nodeType_in (by omega)]; exact h2)
  rw [ins_types, nodeType_in (by omega), ins_flat, ← List.range_eq_range'] at this
  exact (good_type this (by simp; omega)).2
end Go.Proofs.YtgoggdaohdablaaGreat
