import Derived.Test.YtgoggdaohdablaaGreatP23f
import Derived.Test.YtgoggdaohdablaaGreatP23t
namespace Go.Proofs.YtgoggdaohdablaaGreat
open Go.Eng
set_option maxRecDepth 100000
set_option maxHeartbeats 1000000
set_option linter.unusedVariables false
set_option linter.unusedSimpArgs false
/-! chapter 23: the value of a flat guard -/
def bnd13 (k : Int) : Int × Int := if k = 1 then (0, 1) else if k = 2 then (-1000000000000, 1000000000000) else if k = 3 then (-1000000000000000, 1000000000000000) else if k = 4 then (-1000000000, 1000000000) else if k = 5 then (0, 109572) else if k = 6 then (0, 15) else (0, -1)
def plaus (v : TValue) : Bool := !(decide (v.2.2 < (bnd13 v.1).1) || decide (v.2.2 > (bnd13 v.1).2)) && (if v.1 = 6 then decide (v.2.1 ≥ 0) && decide (v.2.1 < 8) else decide (v.2.1 = 0))
def truthV (b : Bool) : TValue := (1, 0, if b = true then 1 else 0)
def leafV (d : TNode) (x : List TValue) : TValue := if d.1 = 7 then x.getD d.2.toNat (0, 0, 0) else if d.1 = 6 then (6, d.2 / 16, d.2 % 16) else (d.1, 0, d.2)
def cmpV (op : Int) (a b : TValue) : TValue := truthV (if op = 19 then decide (a.2.2 = b.2.2) else if op = 20 then decide (a.2.2 ≠ b.2.2) else if op = 21 then decide (a.2.2 < b.2.2) else decide (a.2.2 ≤ b.2.2))
def applyF (d : TNode) (args : List TValue) (x : List TValue) : TValue := match args with
  | [] => leafV d x
  | [a] => truthV (decide (a.2.2 = 0))
  | [a, b] => cmpV d.1 a b
  | _ => (0, 0, 0)
def nd (e : List TNode) (z : Int) : TNode := e.getD z.toNat (0, 0)
def lazyF (op : Int) (a b : TValue) : TValue := if decide (op = 23) = decide (a.2.2 = 0) then a else b
def evV (e : List TNode) (x : List TValue) : Nat → Int → TValue
  | 0, _ => (0, 0, 0)
  | n + 1, z => if (nd e z).1 = 23 ∨ (nd e z).1 = 24 then lazyF (nd e z).1 (evV e x n ((opsF e z)[0]?.getD 0)) (evV e x n ((opsF e z)[1]?.getD 0))
    else applyF (nd e z) ((opsF e z).map (evV e x n)) x
theorem plaus_bool {v : TValue} (h : v.1 = 1) (hp : plaus v = true) : v.2.1 = 0 ∧ 0 ≤ v.2.2 ∧ v.2.2 ≤ 1 := by
  simp [plaus, bnd13, h] at hp; omega
theorem plaus_truth (b : Bool) : plaus (truthV b) = true := by cases b <;> rfl
/-- what is known of an expression and of the inputs -/
structure Flat (e : List TNode) (s : TSignature) (ty : Nat → TType) (x : List TValue) : Prop where
  en : s.1.length ≤ 8 ∧ ∀ q ∈ s.1, q.2.length ≤ 16
  len : 0 < e.length
  typ : ∀ at_ (h : at_ < e.length), TyOk e s ty at_ h
  top : ty (e.length - 1) = (1, 0)
  flat : ∀ i, i < e.length → flatAt e i = true
  xl : x.length = s.2.2.1.length
  xv : ∀ i (h : i < x.length) (h2 : i < s.2.2.1.length), x[i].1 = (s.2.2.1[i]).1 ∧ x[i].2.1 = (s.2.2.1[i]).2 ∧ plaus x[i] = true ∧ (bounds s.2.2.1[i] s.1).1 ≤ x[i].2.2 ∧ x[i].2.2 ≤ (bounds s.2.2.1[i] s.1).2
theorem len1' {α : Type} {l : List α} (h : l.length = 1) : ∃ a, l = [a] := by match l, h with | [a], _ => exact ⟨a, rfl⟩
theorem len2' {α : Type} {l : List α} (h : l.length = 2) : ∃ a b, l = [a, b] := by match l, h with | [a, b], _ => exact ⟨a, b, rfl⟩
theorem flat_ops {e : List TNode} {i : Nat} (h : i < e.length) (hf : flatAt e i = true) : (1 ≤ e[i].1 ∧ e[i].1 ≤ 7) ∨ e[i].1 = 23 ∨ e[i].1 = 24 ∨ e[i].1 = 25 ∨ ((19 ≤ e[i].1 ∧ e[i].1 ≤ 22) ∧ (simpleF e i).2.2 = true) := by
  rw [flatAt_eq h] at hf
  simp only [flatOp, isLit, isCmp, Bool.or_eq_true, Bool.and_eq_true, decide_eq_true_eq] at hf
  rcases hf with (h1 | h1) | ⟨h1, h2⟩
  · rcases h1 with q | q | q | q | q
    · left; omega
    · right; left; exact q
    · right; right; left; exact q
    · right; right; right; left; exact q
    · left; omega
  · left; omega
  · right; right; right; right; exact ⟨h1, h2⟩
theorem nt2 {d : TNode} {a b t : TType} {s : TSignature} (h1 : 17 ≤ d.1 ∧ d.1 ≤ 24) (h : nodeType d [a, b] s = (t, 0)) : resultType d.1 [a, b] = (t, true) := by
  unfold nodeType at h
  rw [if_neg (by omega), if_neg (by omega), if_neg (by omega), if_neg (by omega), if_neg (by omega), if_neg (by omega), if_neg (by omega), if_neg (by omega)] at h
  split at h
  · simp at h
  · rename_i q; simp at h; rw [← h]; simp at q; rw [← q]
theorem nt1 {d : TNode} {a t : TType} {s : TSignature} (h1 : d.1 = 25) (h : nodeType d [a] s = (t, 0)) : resultType d.1 [a] = (t, true) := by
  unfold nodeType at h
  rw [if_neg (by omega), if_neg (by omega), if_neg (by omega), if_neg (by omega), if_neg (by omega), if_neg (by omega), if_neg (by omega), if_neg (by omega)] at h
  split at h
  · simp at h
  · rename_i q; simp at h; rw [← h]; simp at q; rw [← q]
theorem bool_ty {t : TType} {en : List TEnum} (h : t.1 = 1) (hv : validType t en = true) : t = (1, 0) := by
  unfold validType at hv; rw [if_pos (by omega)] at hv
  exact Prod.ext h (by simpa using hv)
variable {e : List TNode} {s : TSignature} {ty : Nat → TType} {x : List TValue}
theorem Flat.sh_and (F : Flat e s ty x) {i : Nat} (h : i < e.length) (ho : e[i].1 = 23 ∨ e[i].1 = 24) :
    ∃ a b : Nat, opsF e i = [(a : Int), (b : Int)] ∧ a < i ∧ b < i ∧ e[i].2 = 0 ∧ ty a = (1, 0) ∧ ty b = (1, 0) ∧ ty i = (1, 0) := by
  obtain ⟨⟨c1, c2⟩, c3, c4, c5, c6⟩ := F.typ i h
  have ha : arity e[i].1 = 2 := by unfold arity; rcases ho with q | q <;> rw [q] <;> rfl
  obtain ⟨a, b, hab⟩ := len2' (l := opsF e (i : Int)) (by rw [c1, ha]; rfl)
  have h1 := c3 a (by rw [hab]; simp)
  have h2 := c3 b (by rw [hab]; simp)
  rw [hab] at c5
  have h3 := nt2 (by omega) c5
  simp only [resultType] at h3
  rw [if_neg (by omega), if_neg (by omega), if_neg (by omega), if_neg (by omega), if_neg (by omega), if_neg (by omega), if_pos ho] at h3
  simp at h3
  obtain ⟨va, vb⟩ := h3.2
  have w1 := (F.typ a.toNat (by omega)).2.2.2.2
  have w2 := (F.typ b.toNat (by omega)).2.2.2.2
  refine ⟨a.toNat, b.toNat, by rw [hab]; simp; omega, by omega, by omega, ?_, bool_ty va w1, bool_ty vb w2, h3.1.symm⟩
  by_cases q : e[i].2 = 0
  · exact q
  · exact absurd ⟨q, by simp [usesN]; omega⟩ c4
theorem Flat.sh_not (F : Flat e s ty x) {i : Nat} (h : i < e.length) (ho : e[i].1 = 25) :
    ∃ a : Nat, opsF e i = [(a : Int)] ∧ a < i ∧ e[i].2 = 0 ∧ ty a = (1, 0) ∧ ty i = (1, 0) := by
  obtain ⟨⟨c1, c2⟩, c3, c4, c5, c6⟩ := F.typ i h
  have ha : arity e[i].1 = 1 := by unfold arity; rw [ho]; rfl
  obtain ⟨a, hab⟩ := len1' (l := opsF e (i : Int)) (by rw [c1, ha]; rfl)
  have h1 := c3 a (by rw [hab]; simp)
  rw [hab] at c5
  have h3 := nt1 ho c5
  simp only [resultType] at h3
  rw [if_neg (by omega), if_pos ho] at h3
  simp at h3
  have w1 := (F.typ a.toNat (by omega)).2.2.2.2
  refine ⟨a.toNat, by rw [hab]; simp; omega, by omega, ?_, bool_ty h3.2 w1, h3.1.symm⟩
  by_cases q : e[i].2 = 0
  · exact q
  · exact absurd ⟨q, by simp [usesN]; omega⟩ c4
theorem Flat.sh_cmp (F : Flat e s ty x) {i : Nat} (h : i < e.length) (ho : 19 ≤ e[i].1 ∧ e[i].1 ≤ 22) :
    ∃ a b : Nat, opsF e i = [(a : Int), (b : Int)] ∧ a < i ∧ b < i ∧ e[i].2 = 0 ∧ ty a = ty b ∧ (21 ≤ e[i].1 → 2 ≤ (ty a).1 ∧ (ty a).1 ≤ 5) ∧ ty i = (1, 0) := by
  obtain ⟨⟨c1, c2⟩, c3, c4, c5, c6⟩ := F.typ i h
  have ha : arity e[i].1 = 2 := by
    have : e[i].1 = 19 ∨ e[i].1 = 20 ∨ e[i].1 = 21 ∨ e[i].1 = 22 := by omega
    unfold arity; rcases this with q | q | q | q <;> rw [q] <;> rfl
  obtain ⟨a, b, hab⟩ := len2' (l := opsF e (i : Int)) (by rw [c1, ha]; rfl)
  have h1 := c3 a (by rw [hab]; simp)
  have h2 := c3 b (by rw [hab]; simp)
  rw [hab] at c5
  have h3 := nt2 (by omega) c5
  have hz : e[i].2 = 0 := by
    by_cases q : e[i].2 = 0
    · exact q
    · exact absurd ⟨q, by simp [usesN]; omega⟩ c4
  simp only [resultType, List.map_cons, List.map_nil] at h3
  rw [if_neg (by omega), if_neg (by omega), if_neg (by omega), if_neg (by omega)] at h3
  by_cases q : e[i].1 = 19 ∨ e[i].1 = 20
  · rw [if_pos q] at h3
    simp at h3
    exact ⟨a.toNat, b.toNat, by rw [hab]; simp; omega, by omega, by omega, hz, h3.2, fun z => by omega, h3.1.symm⟩
  · rw [if_neg q, if_pos (by omega)] at h3
    simp at h3
    exact ⟨a.toNat, b.toNat, by rw [hab]; simp; omega, by omega, by omega, hz, h3.2.1, fun z => by have := h3.2.2; simp [isNumber] at this; omega, h3.1.symm⟩
theorem Flat.sh_leaf (F : Flat e s ty x) {i : Nat} (h : i < e.length) (ho : 1 ≤ e[i].1 ∧ e[i].1 ≤ 7) :
    opsF e i = [] ∧ (e[i].1 = 7 → 0 ≤ e[i].2 ∧ e[i].2 < x.length ∧ ∃ hx : e[i].2.toNat < s.2.2.1.length, ty i = s.2.2.1[e[i].2.toNat]) ∧ (leafV e[i] x).1 = (ty i).1 ∧ (leafV e[i] x).2.1 = (ty i).2 ∧ plaus (leafV e[i] x) = true ∧ (e[i].1 = 6 → 0 ≤ e[i].2) ∧ (e[i].1 ≠ 7 → (ty i).1 = e[i].1) := by
  obtain ⟨⟨c1, c2⟩, c3, c4, c5, c6⟩ := F.typ i h
  have ha : arity e[i].1 = 0 := by
    have : e[i].1 = 1 ∨ e[i].1 = 2 ∨ e[i].1 = 3 ∨ e[i].1 = 4 ∨ e[i].1 = 5 ∨ e[i].1 = 6 ∨ e[i].1 = 7 := by omega
    unfold arity; rcases this with q | q | q | q | q | q | q <;> rw [q] <;> rfl
  have hops : opsF e (i : Int) = [] := List.length_eq_zero_iff.1 (by rw [c1, ha]; rfl)
  rw [hops] at c5
  refine ⟨hops, ?_⟩
  unfold nodeType at c5
  by_cases q7 : e[i].1 = 7
  · rw [if_neg (by omega), if_neg (by omega), if_pos q7] at c5
    unfold listedType at c5
    split at c5
    · simp at c5
    split at c5
    · simp at c5
    rename_i g1 g2
    simp at c5
    have hx : e[i].2.toNat < s.2.2.1.length := by omega
    have hx2 : e[i].2.toNat < x.length := by rw [F.xl]; exact hx
    obtain ⟨v1, v2, v3, _⟩ := F.xv _ hx2 hx
    have e1 : leafV e[i] x = x[e[i].2.toNat] := by unfold leafV; rw [if_pos q7, List.getD_eq_getElem?_getD, List.getElem?_eq_getElem hx2]; rfl
    have e2 : ty i = s.2.2.1[e[i].2.toNat] := by rw [← c5, nthT_eq hx]
    rw [e1, e2]
    exact ⟨fun _ => ⟨by omega, by rw [F.xl]; omega, hx, rfl⟩, v1, v2, v3, fun z => by omega, fun z => absurd q7 z⟩
  by_cases q6 : e[i].1 = 6
  · rw [if_neg (by omega), if_pos q6] at c5
    unfold enumType at c5
    split at c5
    · simp at c5
    split at c5
    · simp at c5
    rename_i g1 g2
    simp at c5
    have e1 : leafV e[i] x = (6, e[i].2 / 16, e[i].2 % 16) := by unfold leafV; rw [if_neg q7, if_pos q6]
    rw [e1, ← c5]
    have := F.en.1
    refine ⟨fun z => absurd z q7, rfl, rfl, ?_, fun _ => by omega, fun _ => q6.symm⟩
    simp [plaus, bnd13]; omega
  · rw [if_pos (by omega)] at c5
    unfold literalType at c5
    split at c5
    · simp at c5
    rename_i g1
    simp at c5
    have e1 : leafV e[i] x = (e[i].1, 0, e[i].2) := by unfold leafV; rw [if_neg q7, if_neg q6]
    rw [e1, ← c5]
    refine ⟨fun z => absurd z q7, rfl, rfl, ?_, fun z => absurd z q6, fun _ => rfl⟩
    have hb : bounds (e[i].1, 0) s.1 = bnd13 e[i].1 := by
      unfold bounds bnd13
      rw [if_neg (by simp [validType]; omega)]
      (repeat' split) <;> first | rfl | omega
    rw [hb] at g1
    simp only [plaus, if_neg q6]
    simp; omega
end Go.Proofs.YtgoggdaohdablaaGreat
