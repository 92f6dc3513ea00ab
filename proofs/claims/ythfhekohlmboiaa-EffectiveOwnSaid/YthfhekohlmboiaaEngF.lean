import Derived.Test.YthfhekohlmboiaaEng10
namespace Go.Eng
section
variable {α β : Type} {P : Program}
/-- the cells of a zero value -/
def ZR (rt : RT α) (cs : List Value) (z : α) : Prop := ∀ w ok, rt.rep w ok cs z
theorem zr_int (k : IntKind) : ZR (rInt k) [.int k 0] 0 := fun _ _ => rfl
theorem zr_bool : ZR rBool [.bool false] false := fun _ _ => rfl
theorem zr_str : ZR rStr [.string ⟨#[]⟩] [] := fun _ _ => rfl
theorem zr_slice {e : RT α} : ZR (rSlice e) [.slice none 0 0] [] := fun _ _ => ⟨none, 0, rfl, by simp, by simp [maxLen], fun h => absurd rfl h⟩
theorem zr_pair {a : RT α} {b : RT β} {c1 c2 : List Value} {z1 : α} {z2 : β} (h1 : ZR a c1 z1) (h2 : ZR b c2 z2) : ZR (rPair a b) (c1 ++ c2) (z1, z2) := fun w ok => ⟨c1, c2, rfl, h1 w ok, h2 w ok⟩
theorem zr_one {a : RT α} {c : List Value} {z : α} (h : ZR a c z) : ZR (rOne a) c z := h
theorem zr_ty {t : TypeId} {rt : RT α} {cs : List Value} {z : α} (hi : (P.info? t).map (·.zero) = some (some (if rt.agg then .agg cs.toArray else cs.getD 0 undef))) (h : ZR rt cs z) : TyZero P t rt z :=
  TyZero.mk_ hi fun w ok => ⟨cs, h w ok, rfl⟩
theorem eq_mono [BEq α] {t : TypeId} {rt : RT α} {d d' : Nat} (h : EqTy P t rt d) (hd : d ≤ d') : EqTy P t rt d' := fun n w ok v1 v2 x y hn => h n w ok v1 v2 x y (Nat.le_trans hd hn)
theorem Lens.comp {γ δ : Type} {rt : RT α} {o1 : Nat} {rt1 : RT γ} {g1 : α → γ} {s1 : α → γ → α} {o2 : Nat} {rt2 : RT δ} {g2 : γ → δ} {s2 : γ → δ → γ} (l1 : Lens rt o1 rt1 g1 s1) (l2 : Lens rt1 o2 rt2 g2 s2) :
    Lens rt (o1 + o2) rt2 (fun d => g2 (g1 d)) (fun d x => s1 d (s2 (g1 d) x)) where
  fits := by have := l1.fits; have := l2.fits; omega
  get_ := by
    intro w ok cs d h
    have h1 := l2.get_ (l1.get_ h)
    have := l2.fits
    rw [List.drop_take, List.drop_drop, List.take_take, Nat.min_eq_left (by omega)] at h1
    exact h1
  set_ := by
    intro w ok cs d cs' d' h h'
    have h1 := l1.set_ h (l2.set_ (l1.get_ h) h')
    have hl := rt.len h
    have f1 := l1.fits
    have f2 := l2.fits
    have hl' := rt2.len h'
    rw [List.take_take, Nat.min_eq_left (by omega), List.drop_take] at h1
    refine cast ?_ h1
    congr 1
    rw [List.drop_drop, Nat.add_assoc, show o1 + (o2 + rt2.n) = o1 + o2 + rt2.n by omega]
    have e1 : cs.drop (o1 + o2 + rt2.n) = (cs.drop (o1 + o2 + rt2.n)).take (rt1.n - (o2 + rt2.n)) ++ cs.drop (o1 + rt1.n) := by
      rw [show o1 + rt1.n = o1 + o2 + rt2.n + (rt1.n - (o2 + rt2.n)) by omega, ← List.drop_drop (i := rt1.n - (o2 + rt2.n))]
      exact (List.take_append_drop _ _).symm
    have e2 : cs.take (o1 + o2) = cs.take o1 ++ (cs.drop o1).take o2 := by rw [List.take_add]
    rw [e2]
    simp only [List.append_assoc]
    rw [← e1]
theorem rb {x y : Bool} (h : x = y) : SV.raw (.bool x) = SV.raw (.bool y) := by rw [h]
theorem ri {k : IntKind} {x y : Int} (h : x = y) : SV.raw (.int k x) = SV.raw (.int k y) := by rw [h]
end
theorem getD_some {α : Type} {l : List α} {i : Nat} {z : α} (h : i < l.length) : l[i]? = some (l[i]?.getD z) := by rw [List.getElem?_eq_getElem h]; rfl
end Go.Eng
