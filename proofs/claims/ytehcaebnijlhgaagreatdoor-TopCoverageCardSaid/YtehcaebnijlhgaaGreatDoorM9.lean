import Derived.Test.YtehcaebnijlhgaaGreatDoorM3
import Derived.Test.YtehcaebnijlhgaaGreatDoorM8
import Derived.Test.YtehcaebnijlhgaaGreatDoorM7
import Derived.Maps.OwnSet
import Derived.Maps.RangeWalk
import Derived.Carry
set_option linter.unusedVariables false
set_option linter.unusedSimpArgs false
namespace Go.Proofs.YtehcaebnijlhgaaGreatDoor.C12
open Go.Eng Tryz
open Go.Proofs.YtehcaebnijlhgaaGreatDoor.C05
set_option maxRecDepth 100000
set_option maxHeartbeats 4000000
def au (t : bE) (en : List bV) : Bool := if 1 ≤ t.1 ∧ t.1 ≤ 5 then decide (t.2 = 0) else if t.1 = 6 then decide (0 ≤ t.2) && decide (t.2 < en.length) else false
def wW (R : Int × Int) : SV := .tup2 (.raw (.int .i64 R.1)) (.raw (.int .i64 R.2))
theorem dv {R : Int × Int} {a b : Int} (h : (a, b) = R) : SV.tup2 (.raw (.int .i64 a)) (.raw (.int .i64 b)) = wW R := by subst h; rfl
def j2 (en : List bV) (k : Int) : Int := ((en[k.toNat]?.getD ([], [])).2.length : Int)
def aJ (t : bE) (en : List bV) : Int × Int :=
  if au t en = false then (0, -1) else if t.1 = 1 then (0, 1) else if t.1 = 2 then (-1000000000000, 1000000000000) else if t.1 = 3 then (-1000000000000000, 1000000000000000)
  else if t.1 = 4 then (-1000000000, 1000000000) else if t.1 = 5 then (0, 109572) else (0, j2 en t.2 - 1)
theorem vf : qP (ab cX) (fun en => en.length ≤ 9223372036854775807 ∧ ∀ x ∈ en, True ∧ (x.2.length ≤ 9223372036854775807 ∧ ∀ y ∈ x.2, True)) := kL (rq nO (kL nO))
theorem vt6 {t : bE} {en : List bV} (h : au t en = true) (h1 : ¬ t.1 = 1) (h2 : ¬ t.1 = 2) (h3 : ¬ t.1 = 3) (h4 : ¬ t.1 = 4) (h5 : ¬ t.1 = 5) : t.1 = 6 ∧ 0 ≤ t.2 ∧ t.2 < en.length := by
  unfold au at h
  rw [if_neg zo] at h
  split at h
  · rename_i h6; simp at h; exact ⟨h6, h⟩
  cases h
def inB (t : bE) (en : List bV) (n : Int) : Bool := decide ((aJ t en).1 ≤ n) && decide (n ≤ (aJ t en).2)
def CR (x : jU) : Bool := (!(kn x.1) || decide (x.1.1 = x.1.2)) || decide (x.2.1 ≥ x.2.2.1)
def CQ (t : cy) (en : List bV) (x : jU) : Bool := (!(inB t.2.1 en x.2.1) || !(inB t.2.1 en (x.2.2.1 - 1))) || !(inB t.2.2.1 en x.2.2.2)
def oZ (t : cy) (en : List bV) (x : jU) : Bool := CR x || CQ t en x
def kU (t : cy) (en : List bV) : Int × Int := if 64 < t.2.2.2.length then (64, 4) else if (!(au t.2.1 en) || !(au t.2.2.1 en)) = true then (-1, 8) else pE (oZ t en) t.2.2.2 t.2.2.2.length
def CW (x : jU) : Prop := -9223372036854775808 ≤ x.2.1 ∧ x.2.2.1 ≤ 9223372036854775807
theorem wn {t : bE} {en : List bV} {n : Int} : inB t en n = true ↔ (aJ t en).1 ≤ n ∧ n ≤ (aJ t en).2 := by simp [inB]
theorem Ay {t : bE} {en : List bV} {n : Int} : inB t en n = false ↔ n < (aJ t en).1 ∨ (aJ t en).2 < n := by rw [← Bool.not_eq_true, wn]; omega
theorem db (t : bE) (en : List bV) : Ct prog 74 [.tv aX t, .tv (ab cX) en] (.raw (.bool (au t en))) := by
  refine ay func74 rfl rfl ntmps74 rfl rfl ?_
  intro w0 ok0
  refine eE 1 rfl (fun hl0 => ?_)
  refine zR (zb (.tv (.b rfl)) (zY rfl (aa (ae (zR (zF bR rfl (zL ty3 rfl rfl rfl bN (zZ (aq (ae (zR (ze rfl rfl (zY rfl (aa ?_))))))))))))))
  refine af rfl (fun h2 => ?_) (fun h2 => ?_)
  · have g2 := h2; try simp at h2
    refine ah (aa ?_)
    refine bz rfl g2 (ae ?_)
    refine ac (zF dV rfl (zL ty3 rfl rfl rfl ez (ze rfl rfl (zY rfl (aa (am (av (ai ?_))))))))
    exact z1 results74 rfl (rb (by subst_vars; first | rfl | (simp [au]; done) | (simp [au, *]; done) | (rw [Bool.eq_iff_iff]; simp [au, *]; omega) | (rw [Bool.eq_iff_iff]; simp [au]; omega) | (unfold au; simp; omega) | (unfold au; (repeat' split) <;> first | rfl | omega | (rw [Bool.eq_iff_iff]; simp; omega) | (simp_all; done) | (simp_all; omega) | (exfalso; omega))))
  have g2 := h2; try simp at h2
  refine zR (ze rfl rfl (zY rfl (aa ?_)))
  refine af rfl (fun h3 => ?_) (fun h3 => ?_)
  · have g3 := h3; try simp at h3
    refine ah (aa ?_)
    refine bz rfl g3 (ae ?_)
    refine ac (zF dV rfl (zL ty3 rfl rfl rfl ez (ze rfl rfl (zY rfl (aa (am (av (ai ?_))))))))
    exact z1 results74 rfl (rb (by subst_vars; first | rfl | (simp [au]; done) | (simp [au, *]; done) | (rw [Bool.eq_iff_iff]; simp [au, *]; omega) | (rw [Bool.eq_iff_iff]; simp [au]; omega) | (unfold au; simp; omega) | (unfold au; (repeat' split) <;> first | rfl | omega | (rw [Bool.eq_iff_iff]; simp; omega) | (simp_all; done) | (simp_all; omega) | (exfalso; omega))))
  have g3 := h3; try simp at h3
  refine zR (ze rfl rfl (zY rfl (aa ?_)))
  refine af rfl (fun h4 => ?_) (fun h4 => ?_)
  · have g4 := h4; try simp at h4
    refine ah (aa ?_)
    refine bz rfl g4 (ae ?_)
    refine ac (zF dV rfl (zL ty3 rfl rfl rfl ez (ze rfl rfl (zY rfl (aa (am (av (ai ?_))))))))
    exact z1 results74 rfl (rb (by subst_vars; first | rfl | (simp [au]; done) | (simp [au, *]; done) | (rw [Bool.eq_iff_iff]; simp [au, *]; omega) | (rw [Bool.eq_iff_iff]; simp [au]; omega) | (unfold au; simp; omega) | (unfold au; (repeat' split) <;> first | rfl | omega | (rw [Bool.eq_iff_iff]; simp; omega) | (simp_all; done) | (simp_all; omega) | (exfalso; omega))))
  have g4 := h4; try simp at h4
  refine zR (ze rfl rfl (zY rfl (aa ?_)))
  refine af rfl (fun h5 => ?_) (fun h5 => ?_)
  · have g5 := h5; try simp at h5
    refine ah (aa ?_)
    refine bz rfl g5 (ae ?_)
    refine ac (zF dV rfl (zL ty3 rfl rfl rfl ez (ze rfl rfl (zY rfl (aa (am (av (ai ?_))))))))
    exact z1 results74 rfl (rb (by subst_vars; first | rfl | (simp [au]; done) | (simp [au, *]; done) | (rw [Bool.eq_iff_iff]; simp [au, *]; omega) | (rw [Bool.eq_iff_iff]; simp [au]; omega) | (unfold au; simp; omega) | (unfold au; (repeat' split) <;> first | rfl | omega | (rw [Bool.eq_iff_iff]; simp; omega) | (simp_all; done) | (simp_all; omega) | (exfalso; omega))))
  have g5 := h5; try simp at h5
  refine ac (ze rfl rfl (zY rfl (aa ?_)))
  refine af rfl (fun h6 => ?_) (fun h6 => ?_)
  · have g6 := h6; try simp at h6
    refine zR (zF dV rfl (zL ty3 rfl rfl rfl ez (ze rfl rfl (zY rfl (aa (am (av (ai ?_))))))))
    exact z1 results74 rfl (rb (by subst_vars; first | rfl | (simp [au]; done) | (simp [au, *]; done) | (rw [Bool.eq_iff_iff]; simp [au, *]; omega) | (rw [Bool.eq_iff_iff]; simp [au]; omega) | (unfold au; simp; omega) | (unfold au; (repeat' split) <;> first | rfl | omega | (rw [Bool.eq_iff_iff]; simp; omega) | (simp_all; done) | (simp_all; omega) | (exfalso; omega))))
  have g6 := h6; try simp at h6
  refine zR (ze rfl rfl (zY rfl (aa ?_)))
  refine af rfl (fun h8 => ?_) (fun h8 => ?_)
  · try simp at h8
    refine zR (zF dV rfl (zL ty3 rfl rfl rfl ez (zJ (bW (.b rfl) (.b rfl)) (zM rfl (zG rfl rfl (fun hg => ao dV (.b rfl)) (zG rfl rfl (fun hg => aj ty3 (.gd rfl hg) rfl rfl ez) (zG rfl rfl (fun hg => ag (.b rfl)) (zG rfl rfl (fun hg => cJ jg (.gd rfl hg)) (zG rfl rfl (fun hg => dS (.gd rfl hg) (.gd rfl hg)) (zJ (aF (.b rfl) (.b rfl) rfl zp) (zY rfl (aa (am (av (ai ?_)))))))))))))))
    exact z1 results74 rfl (rb (by subst_vars; first | rfl | (simp [au]; done) | (simp [au, *]; done) | (rw [Bool.eq_iff_iff]; simp [au, *]; omega) | (rw [Bool.eq_iff_iff]; simp [au]; omega) | (unfold au; simp; omega) | (unfold au; (repeat' split) <;> first | rfl | omega | (rw [Bool.eq_iff_iff]; simp; omega) | (simp_all; done) | (simp_all; omega) | (exfalso; omega))))
  try simp at h8
  refine ah (aG (aa (zR (zY rfl (aa (am ?_))))))
  exact z1 results74 rfl (rb (by subst_vars; first | rfl | (simp [au]; done) | (simp [au, *]; done) | (rw [Bool.eq_iff_iff]; simp [au, *]; omega) | (rw [Bool.eq_iff_iff]; simp [au]; omega) | (unfold au; simp; omega) | (unfold au; (repeat' split) <;> first | rfl | omega | (rw [Bool.eq_iff_iff]; simp; omega) | (simp_all; done) | (simp_all; omega) | (exfalso; omega))))
theorem iU (t : bE) (en : List bV) : Ct prog 75 [.tv aX t, .tv (ab cX) en] (wW (aJ t en)) := by
  refine ay func75 rfl rfl ntmps75 rfl rfl ?_
  intro w0 ok0
  refine Ah 1 vf rfl (fun hf => ?_)
  have hl0 := hf.1
  refine zR (zb (.tv (.b rfl)) (zA rfl (zY rfl (aa (ae (zR (zL aE rfl rfl rfl (Lens.id _) (zM rfl (zJ (an (db _ _) (.cons (.b rfl) (.cons (.b rfl) .nil)) rfl rfl) (zJ (b6 (.b rfl)) (zZ ?_)))))))))))
  refine af rfl (fun h1 => ?_) (fun h1 => ?_)
  · try simp at h1
    refine zR (zA rfl (zY rfl (aa (am (ai ?_)))))
    exact z2 results75 rfl rfl (dv (by subst_vars; first | rfl | (simp [aJ]; done) | (simp [aJ, *]; done) | (unfold aJ; (repeat' split) <;> first | rfl | omega | (simp_all; done) | (simp_all; omega))))
  try simp at h1
  refine ah (aa (ae (zR (zF bR rfl (zL ty3 rfl rfl rfl bN (zZ (aq (zR (ze rfl rfl (zY rfl (aa ?_)))))))))))
  refine af rfl (fun h4 => ?_) (fun h4 => ?_)
  · try simp at h4
    refine zR (zA rfl (zY rfl (aa (am (av (ai ?_))))))
    exact z2 results75 rfl rfl (dv (by subst_vars; first | rfl | (simp [aJ]; done) | (simp [aJ, *]; done) | (unfold aJ; (repeat' split) <;> first | rfl | omega | (simp_all; done) | (simp_all; omega))))
  try simp at h4
  refine zR (ze rfl rfl (zY rfl (aa ?_)))
  refine af rfl (fun h6 => ?_) (fun h6 => ?_)
  · try simp at h6
    refine zR (zA rfl (zY rfl (aa (am (av (ai ?_))))))
    exact z2 results75 rfl rfl (dv (by subst_vars; first | rfl | (simp [aJ]; done) | (simp [aJ, *]; done) | (unfold aJ; (repeat' split) <;> first | rfl | omega | (simp_all; done) | (simp_all; omega))))
  try simp at h6
  refine zR (ze rfl rfl (zY rfl (aa ?_)))
  refine af rfl (fun h8 => ?_) (fun h8 => ?_)
  · try simp at h8
    refine zR (zA rfl (zY rfl (aa (am (av (ai ?_))))))
    exact z2 results75 rfl rfl (dv (by subst_vars; first | rfl | (simp [aJ]; done) | (simp [aJ, *]; done) | (unfold aJ; (repeat' split) <;> first | rfl | omega | (simp_all; done) | (simp_all; omega))))
  try simp at h8
  refine zR (ze rfl rfl (zY rfl (aa ?_)))
  refine af rfl (fun h10 => ?_) (fun h10 => ?_)
  · try simp at h10
    refine zR (zA rfl (zY rfl (aa (am (av (ai ?_))))))
    exact z2 results75 rfl rfl (dv (by subst_vars; first | rfl | (simp [aJ]; done) | (simp [aJ, *]; done) | (unfold aJ; (repeat' split) <;> first | rfl | omega | (simp_all; done) | (simp_all; omega))))
  try simp at h10
  refine zR (ze rfl rfl (zY rfl (aa ?_)))
  refine af rfl (fun h12 => ?_) (fun h12 => ?_)
  · try simp at h12
    refine zR (zA rfl (zY rfl (aa (am (av (ai ?_))))))
    exact z2 results75 rfl rfl (dv (by subst_vars; first | rfl | (simp [aJ]; done) | (simp [aJ, *]; done) | (unfold aJ; (repeat' split) <;> first | rfl | omega | (simp_all; done) | (simp_all; omega))))
  try simp at h12
  refine ah (aG (aa (ae ?_)))
  obtain ⟨v6, v7, v8⟩ := vt6 h1 h4 h6 h8 h10 h12
  have hm := (hf.2 (en[t.2.toNat]'zo) (List.getElem_mem _)).2.1
  refine dN mo zk ( zS (ag (.b rfl)) ( zS (ao dV (.b rfl)) ( zS (aj ty3 (.b rfl) rfl rfl ez) ( zS (al jg gf (.b rfl) (.b rfl) (Int.toNat_of_nonneg v7).symm zg) ( zS (aO fh fF (.b rfl)) ( zS (aA k9 (.b rfl)) ( zS (cJ iD (.b rfl)) ( zS (da (.b rfl) (.b rfl) zw) ( zS (aU (.b rfl)) ( zS (aU (.b rfl)) ( AS.nil))))))))))) ?_
  refine aa (am ?_)
  exact z2 results75 rfl rfl (dv (by unfold aJ; rw [if_neg (by simp [h1]), if_neg h4, if_neg h6, if_neg h8, if_neg h10, if_neg h12]; unfold j2; rw [List.getElem?_eq_getElem zo]; rfl))
theorem sW (t : cy) (en : List bV) (hK : ∀ x ∈ t.2.2.2, CW x) : Ct prog 94 [.tv ch t, .tv (ab cX) en] (wW (kU t en)) := by
  refine ay func94 rfl rfl ntmps94 rfl rfl ?_
  intro w0 ok0
  refine zR (zb (.tv (.b rfl)) (zA rfl (zY rfl (aa (ae (zR (zF kc rfl (zL qU rfl rfl rfl lP (zN md rfl (zJ (bY (.b rfl) (.b rfl)) (zZ ?_)))))))))))
  refine af rfl (fun h1 => ?_) (fun h1 => ?_)
  · simp at h1
    refine zR (zA rfl (zY rfl (aa (am (ai ?_)))))
    exact z2 results94 rfl rfl (dv (by unfold kU; rw [if_pos zo]))
  simp at h1
  refine ah (aa (ae (zR (zF nH rfl (zL aE rfl rfl rfl pj (zM rfl (zJ (an (db _ _) (.cons (.b rfl) (.cons (.b rfl) .nil)) rfl rfl) (zJ (b6 (.b rfl)) (zM rfl (zG rfl rfl (fun hg => ao nG (.b rfl)) (zG rfl rfl (fun hg => aj aE (.gd rfl hg) rfl rfl pi) (zG rfl rfl (fun hg => ag (.b rfl)) (zG rfl rfl (fun hg => an (db _ _) (.cons (.gd rfl hg) (.cons (.gd rfl hg) .nil)) rfl rfl) (zG rfl rfl (fun hg => b6 (.gd rfl hg)) (zJ (aB (.b rfl) (.b rfl) rfl zp) (zZ ?_))))))))))))))))
  refine af rfl (fun h3 => ?_) (fun h3 => ?_)
  · have h3 : (!(au t.2.1 en) || !(au t.2.2.1 en)) = true := h3
    refine zR (zA rfl (zY rfl (aa (am (ai ?_)))))
    exact z2 results94 rfl rfl (dv (by unfold kU; rw [if_neg zo, if_pos h3]))
  have h3 : (!(au t.2.1 en) || !(au t.2.2.1 en)) = false := h3
  refine ah (aa (zR (zF nH rfl (zL aE rfl rfl rfl pj (zM rfl (zJ (an (iU _ _) (.cons (.b rfl) (.cons (.b rfl) .nil)) rfl rfl) (zM rfl (zJ (bj (.b rfl)) (zJ (bi (.b rfl)) (zA rfl (zY rfl (aa (zR (zF nG rfl (zL aE rfl rfl rfl pi (zM rfl (zJ (an (iU _ _) (.cons (.b rfl) (.cons (.b rfl) .nil)) rfl rfl) (zM rfl (zJ (bj (.b rfl)) (zJ (bi (.b rfl)) (zA rfl (zY rfl (aa (ae (zR (zF kc rfl (zL qU rfl rfl rfl lP (zN md rfl (zM rfl (zZ (aq ?_)))))))))))))))))))))))))))))))
  refine aZ (ι := Nat) (fun k => ⟨[(2, .optr 2 ch.n 0 0), (6, .raw (.int .i64 ((aJ t.2.1 en).1))), (7, .raw (.int .i64 ((aJ t.2.1 en).2))), (8, .raw (.int .i64 ((aJ t.2.2.1 en).1))), (9, .raw (.int .i64 ((aJ t.2.2.1 en).2))), (45, .tv (ab ib) t.2.2.2), (46, .raw (.int .i64 (t.2.2.2.length))), (47, .raw (.int .i64 ((k : Nat))))], [(2, ⟨ch, [t]⟩)]⟩) (fun k => k ≤ t.2.2.2.length ∧ pE (oZ t en) t.2.2.2 (t.2.2.2.length - k) = pE (oZ t en) t.2.2.2 t.2.2.2.length) (fun k => t.2.2.2.length - k) 0 (⟨Nat.zero_le _, rfl⟩) (fun a w hi => (zI hi)) ?_
  rintro k ⟨p1, p2⟩
  refine zR (zt rfl rfl (zZ (ae ?_)))
  refine af rfl (fun h8 => ?_) (fun h8 => ?_)
  · simp at h8
    have hk := hK _ (List.getElem_mem h8)
    unfold CW at hk
    refine ah (aa (ae (aq (zR (zM rfl ?_)))))
    refine bc _ rfl _ rfl rfl (al md oT (.b rfl) (.b rfl) rfl zg) ?_
    refine zD oT rfl (zl z65 (zA rfl (zC oT rfl rfl rfl (Lens.id _) (.tv (.b rfl)) (zZ (ae (zR (zF nF rfl (zL ji rfl rfl rfl qc (zJ (an (l5 _) (.cons (.b rfl) .nil) rfl rfl) (zJ (b6 (.b rfl)) (zM rfl (zG rfl rfl (fun hg => ao nF (.b rfl)) (zG rfl rfl (fun hg => ao fI (.gd rfl hg)) (zG rfl rfl (fun hg => aj ty3 (.gd rfl hg) rfl rfl (Lens.comp qc fQ)) (zG rfl rfl (fun hg => ao nF (.b rfl)) (zG rfl rfl (fun hg => ao fH (.gd rfl hg)) (zG rfl rfl (fun hg => aj ty3 (.gd rfl hg) rfl rfl (Lens.comp qc fP)) (zG rfl rfl (fun hg => ca (.gd rfl hg) (.gd rfl hg)) (zJ (aB (.b rfl) (.b rfl) rfl zp) (zM rfl (zG rfl rfl (fun hg => ao nE (.b rfl)) (zG rfl rfl (fun hg => aj ty3 (.gd rfl hg) rfl rfl qb) (zG rfl rfl (fun hg => ao nD (.b rfl)) (zG rfl rfl (fun hg => aj ty3 (.gd rfl hg) rfl rfl qa) (zG rfl rfl (fun hg => bW (.gd rfl hg) (.gd rfl hg)) (zJ (aB (.b rfl) (.b rfl) rfl zp) (zZ ?_)))))))))))))))))))))))))))
    refine af rfl (fun h10 => ?_) (fun h10 => ?_)
    · have h10 : CR (t.2.2.2[k]) = true := h10
      have hb : oZ t en (t.2.2.2[k]) = true := by unfold oZ; rw [h10]; rfl
      refine zR (zM rfl (zA rfl (zY rfl (aa (am (ai (av (ai (bL (av (ai ?_)))))))))))
      exact z2 results94 rfl rfl (dv (by unfold kU; rw [if_neg zo, if_neg (by rw [h3]; simp), ← p2, mC h8, if_pos hb]))
    have h10 : CR (t.2.2.2[k]) = false := h10
    have k10 : (t.2.2.2[k]).2.1 < (t.2.2.2[k]).2.2.1 := by simp [CR] at h10; omega
    refine ah (aa (ae (zR (zF nE rfl (zL ty3 rfl rfl rfl qb (zM rfl (zt rfl rfl (zM rfl (zG rfl rfl (fun hg => ao nE (.b rfl)) (zG rfl rfl (fun hg => aj ty3 (.gd rfl hg) rfl rfl qb) (zG rfl rfl (fun hg => ag (.b rfl)) (zG rfl rfl (fun hg => bY (.gd rfl hg) (.gd rfl hg)) (zJ (aB (.b rfl) (.b rfl) rfl zp) (zM rfl (zG rfl rfl (fun hg => ao nD (.b rfl)) (zG rfl rfl (fun hg => aj ty3 (.gd rfl hg) rfl rfl qa) (zG rfl rfl (fun hg => da (.gd rfl hg) (.b rfl) zw) (zG rfl rfl (fun hg => ag (.b rfl)) (zG rfl rfl (fun hg => dS (.gd rfl hg) (.gd rfl hg)) (zJ (aB (.b rfl) (.b rfl) rfl zp) (zM rfl (zG rfl rfl (fun hg => ao nD (.b rfl)) (zG rfl rfl (fun hg => aj ty3 (.gd rfl hg) rfl rfl qa) (zG rfl rfl (fun hg => da (.gd rfl hg) (.b rfl) zw) (zG rfl rfl (fun hg => ag (.b rfl)) (zG rfl rfl (fun hg => bY (.gd rfl hg) (.gd rfl hg)) (zJ (aB (.b rfl) (.b rfl) rfl zp) (zZ ?_))))))))))))))))))))))))))))
    refine af rfl (fun h12 => ?_) (fun h12 => ?_)
    · have hb : oZ t en (t.2.2.2[k]) = true := by
        have q : inB t.2.1 en (t.2.2.2[k]).2.1 = false ∨ inB t.2.1 en ((t.2.2.2[k]).2.2.1 - 1) = false := by rw [Ay, Ay]; simp at h12; omega
        unfold oZ CQ; rcases q with q | q <;> rw [q] <;> simp
      refine zR (zM rfl (zA rfl (zY rfl (aa (am (ai (av (ai (bL (av (ai ?_)))))))))))
      exact z2 results94 rfl rfl (dv (by unfold kU; rw [if_neg zo, if_neg (by rw [h3]; simp), ← p2, mC h8, if_pos hb]))
    have k12 : inB t.2.1 en (t.2.2.2[k]).2.1 = true ∧ inB t.2.1 en ((t.2.2.2[k]).2.2.1 - 1) = true := by rw [wn, wn]; simp at h12; omega
    refine ah (aa (ae (zR (zF wC rfl (zL ty3 rfl rfl rfl zy (zM rfl (zt rfl rfl (zM rfl (zG rfl rfl (fun hg => ao wC (.b rfl)) (zG rfl rfl (fun hg => aj ty3 (.gd rfl hg) rfl rfl zy) (zG rfl rfl (fun hg => ag (.b rfl)) (zG rfl rfl (fun hg => bY (.gd rfl hg) (.gd rfl hg)) (zJ (aB (.b rfl) (.b rfl) rfl zp) (zZ ?_))))))))))))))
    refine af rfl (fun h14 => ?_) (fun h14 => ?_)
    · have hb : oZ t en (t.2.2.2[k]) = true := by
        have q : inB t.2.2.1 en (t.2.2.2[k]).2.2.2 = false := by rw [Ay]; simp at h14; omega
        unfold oZ CQ; rw [q]; simp
      refine zR (zM rfl (zA rfl (zA rfl (zQ [4,5] [] (aa (am (ai (av (ai (bL (av (ai ?_))))))))))))
      exact z2 results94 rfl rfl (dv (by unfold kU; rw [if_neg zo, if_neg (by rw [h3]; simp), ← p2, mC h8, if_pos hb]))
    have hb : oZ t en (t.2.2.2[k]) = false := by
      have q : inB t.2.2.1 en (t.2.2.2[k]).2.2.2 = true := by rw [wn]; simp at h14; omega
      unfold oZ CQ; rw [h10, k12.1, k12.2, q]; rfl
    refine ah (aa (ae ?_))
    refine lU 11 11 (b8 11 _) rfl rfl (bl 11 _) (bC 11 _) ?_
    refine ac (zF kc rfl (zL qU rfl rfl rfl lP (zM rfl (zJ (gh md oT (.b rfl) rfl ⟨_, _, (.b rfl), rfl⟩ zo zo) (zJ (ie (A := ib) (B := bP) (aS := [.eptr ib (t.2.2.2[k]'h8)]) (φ := fun _ => True) (fun x => qy x (t.2.2.2[k]'h8)) (bJ func130 rfl zk) (fun x _ => vdc_ok x (t.2.2.2[k]'h8)) (.cons (.b rfl) .nil) rfl) (zJ (an (AW _ _) (.cons (.b rfl) (.cons (.b rfl) .nil)) rfl rfl) (zM rfl (zJ (bj (.b rfl)) (zJ (bi (.b rfl)) (zA rfl (zY rfl ?_)))))))))))
    rw [List.drop_zero]
    refine aa (zR (zM rfl (zZ ?_)))
    refine af rfl (fun h17 => ?_) (fun h17 => ?_)
    · skip
      refine zR (zM rfl (zA rfl (zY rfl (aa (am (av (ai (bL (av (ai ?_))))))))))
      exact z2 results94 rfl rfl (dv (by unfold kU; rw [if_neg zo, if_neg (by rw [h3]; simp), ← p2, mC h8, if_neg (by rw [hb]; simp), if_pos h17]))
    skip
    refine ah (aG (aa (ac (zU rfl rfl zw (zM rfl (aN ?_))))))
    exact aD (fun a w hi => ⟨k + 1, zj, (⟨by omega, by rw [← p2, mC h8, if_neg (by rw [hb]; simp), if_neg (by rw [h17]; simp)]⟩), (zI hi)⟩)
  simp at h8
  refine bg (be (aY (bf (aa (ae (ac (zA rfl (zY rfl (aa (am ?_))))))))))
  exact z2 results94 rfl rfl (dv (by unfold kU; rw [if_neg zo, if_neg (by rw [h3]; simp), ← p2, show t.2.2.2.length - k = 0 by omega]; rfl))
end Go.Proofs.YtehcaebnijlhgaaGreatDoor.C12
namespace Go.Proofs.YtehcaebnijlhgaaGreatDoor
open Go.Eng Tryz
set_option maxRecDepth 100000
set_option maxHeartbeats 4000000
open C15
theorem vx {bad : jU → Bool} {l : List jU} : ∀ d, 0 ≤ (C12.pE bad l d).1 ∧ (C12.pE bad l d).1 ≤ l.length
  | 0 => by simp [C12.pE]
  | d + 1 => by
    have h := vx (bad := bad) (l := l) d
    unfold C12.pE
    split
    · simp only; omega
    split
    · simp only; omega
    exact h
theorem BE (t : cy) (en : List bV) : -1 ≤ (C12.kU t en).1 ∧ (C12.kU t en).1 ≤ 64 + t.2.2.2.length := by
  unfold C12.kU
  split
  · simp only; omega
  split
  · simp only; omega
  have := vx (bad := C12.oZ t en) (l := t.2.2.2) t.2.2.2.length
  omega
def tbD : cy := ([], (0, 0), (0, 0), [])
def jG (l : cA) (k : Nat) (t : cy) : Int × Int :=
  if (!sa t.1) = true then (2, 0) else if (Cl l.1 t.1 || hasT (l.2.1.take k) t.1) = true then (7, 0) else
  if ((C12.kU t l.1).2 != 0) = true then ((C12.kU t l.1).2, if ((C12.kU t l.1).1 != -1) = true then 100 + (C12.kU t l.1).1 else 0) else (0, 0)
def jS (l : cA) : Int × Int × Int × Int := if 8 < l.2.1.length then (4, 2, 8, 0) else
  match kZ l.2.1.length (fun i => (jG l i (l.2.1[i]?.getD tbD)).1 != 0) with
  | some i => ((jG l i (l.2.1[i]?.getD tbD)).1, 2, (i : Int), (jG l i (l.2.1[i]?.getD tbD)).2)
  | none => (0, 0, 0, 0)
theorem x5 (l : cA) (hsm : ∀ t ∈ l.2.1, SmT t) (hK : ∀ t ∈ l.2.1, ∀ x ∈ t.2.2.2, C12.CW x) (hR : ∀ t ∈ l.2.1, t.2.2.2.length ≤ 1000) (hl : l.2.1.length ≤ 1000000) : Ct prog 51 [.tv cz l] (.tv bw (jS l)) := by
  refine ay func51 rfl rfl ntmps51 rfl rfl ?_
  intro w0 ok0
  refine zR (zb (.tv (.b rfl)) (zl z52 (zZ (ae (zR (zF fo rfl (zL jl rfl rfl rfl gN (zN jW rfl (zJ (bY (.b rfl) (.b rfl)) (zZ ?_))))))))))
  refine af rfl (fun h1 => ?_) (fun h1 => ?_)
  · have h1 : 8 < l.2.1.length := by simp at h1; omega
    refine zR (zJ (aI z52 rfl rR (.cons (rt' := (ak .i64)) rfl fd (.raw (.b rfl) rfl) (.cons (rt' := (ak .i64)) rfl og (.raw (.b rfl) rfl) (.cons (rt' := (ak .i64)) rfl oe (.raw (.b rfl) rfl) .nil)))) (zC eo rfl rfl rfl (Lens.id _) (.tv (.b rfl)) (zZ (am (ai ?_)))))
    exact cv results51 (ax eo rfl rfl rfl (Lens.id bw)) rfl (congrArg (SV.tv bw) (by unfold jS; rw [if_pos h1]))
  have h1 : ¬ 8 < l.2.1.length := by simp at h1; omega
  refine ah (aa (ae (zR (zF fo rfl (zL jl rfl rfl rfl gN (zN jW rfl (zM rfl (zZ (aq ?_)))))))))
  refine aZ (ι := Nat) (fun k => ⟨[(1, .optr 1 cz.n 0 0), (2, .optr 2 bw.n 0 0), (14, .tv (ab ch) l.2.1), (15, .raw (.int .i64 (l.2.1.length))), (16, .raw (.int .i64 ((k : Nat))))], [(1, ⟨cz, [l]⟩), (2, ⟨bw, [(0, 0, 0, 0)]⟩)]⟩) (fun k => k ≤ l.2.1.length ∧ ∀ j, j < k → ((jG l j (l.2.1[j]?.getD tbD)).1 != 0) = false) (fun k => l.2.1.length - k) 0 (⟨Nat.zero_le _, fun j hj => by omega⟩) (fun a w hi => (zI hi)) ?_
  rintro k ⟨hk, hno⟩
  refine zR (zt rfl rfl (zZ (ae ?_)))
  refine af rfl (fun h4 => ?_) (fun h4 => ?_)
  · have h4 : k < l.2.1.length := by simpa using h4
    have hse := hsm _ (List.getElem_mem h4)
    have hse1 : l.2.1[k].1.length ≤ 80 := hse
    have hK1 := hK _ (List.getElem_mem h4)
    have hrl := hR _ (List.getElem_mem h4)
    have hbd := BE l.2.1[k] l.1
    have hge : l.2.1[k]?.getD tbD = l.2.1[k] := by rw [List.getElem?_eq_getElem h4]; rfl
    refine ah (aa (ae (aq (zR (zM rfl ?_)))))
    refine bc _ rfl _ rfl rfl (al jW ge (.b rfl) (.b rfl) rfl zg) ?_
    refine zD ge rfl (zl BC (zA rfl (zC ge rfl rfl rfl (Lens.id _) (.tv (.b rfl)) (zZ (zR (zM rfl (zJ (aI z52 rfl rR (.cons (rt' := (ak .i64)) rfl og (.raw (.b rfl) rfl) (.cons (rt' := (ak .i64)) rfl oe (.raw (.b rfl) rfl) .nil))) (zl z52 (zC eo rfl rfl rfl (Lens.id _) (.tv (.b rfl)) (zZ (zR (zL ge rfl rfl rfl (Lens.id _) (zF es rfl (zL hU rfl rfl rfl fy (zJ (an (C12.sW _ _ hK1) (.cons (.b rfl) (.cons (.b rfl) .nil)) rfl rfl) (zM rfl (zJ (bj (.b rfl)) (zJ (bi (.b rfl)) (zA rfl (zY rfl (aa (ae (aq (zR (zF ly rfl (zL ty9 rfl rfl rfl mS (zJ (an (rm _ zo) (.cons (.b rfl) .nil) rfl rfl) (zJ (b6 (.b rfl)) (zY rfl (aa ?_))))))))))))))))))))))))))))))
    refine af rfl (fun h8 => ?_) (fun h8 => ?_)
    · have hb : jG l k l.2.1[k] = (2, 0) := by unfold jG; rw [if_pos h8]
      refine ac (zF fJ rfl (zC kp rfl rfl rfl fd (.raw (.b rfl) rfl) (aN (aG (aa (zR (zF fJ rfl (zL kp rfl rfl rfl fd (zJ (bQ (.b rfl) (.b rfl)) (zZ ?_))))))))))
      refine af rfl (fun h16 => ?_) (fun h16 => ?_)
      · first | (exfalso; simp at h16; done) | skip
        all_goals
          refine zR (zL eo rfl rfl rfl (Lens.id _) (zC eo rfl rfl rfl (Lens.id _) (.tv (.b rfl)) (zZ (am (av (ai (bL (av (ai ?_)))))))))
          exact cv results51 (ax eo rfl rfl rfl (Lens.id bw)) rfl (congrArg (SV.tv bw) (by unfold jS; rw [if_neg h1, fz h4 (by rw [hge, hb]; first | rfl | exact h12) hno]; simp only [hge, hb]))
      first | (exfalso; simp at h16; done) | (exfalso; rw [h12] at h16; cases h16; done) | skip
      all_goals
        refine ah (aG (aa (ac (zU rfl rfl zw (zM rfl (aN ?_))))))
        exact aD (fun a w hi => ⟨k + 1, zj, (⟨by omega, jA hno (by rw [hge, hb]; rfl)⟩), (zI hi)⟩)
    skip
    refine ae ?_
    refine dN mo zk ( zS (ao es (.b rfl)) ( zS (aj hU (.b rfl) rfl rfl fy) ( zS (ao ly (.b rfl)) ( zS (aj ty9 (.b rfl) rfl rfl mS) ( zS (an (sh _ _) (.cons (.b rfl) (.cons (.b rfl) .nil)) rfl rfl) ( zS (ag (.b rfl)) ( zSG rfl rfl (fun hg => ao fo (.b rfl)) ( zSG rfl rfl (fun hg => aj jl (.gd rfl hg) rfl rfl gN) ( zSG rfl rfl (fun hg => ag (.b rfl)) ( zSG rfl rfl (fun hg => gh jW ge (.gd rfl hg) rfl ⟨_, _, (.gd rfl hg), rfl⟩ zo zo) ( zSG rfl rfl (fun hg => ao ly (.b rfl)) ( zSG rfl rfl (fun hg => aj ty9 (.gd rfl hg) rfl rfl mS) ( zSG rfl rfl (fun hg => an (wu _ _) (.cons (.gd rfl hg) (.cons (.gd rfl hg) .nil)) rfl rfl) ( zS (aB (.b rfl) (.b rfl) rfl zp) ( zS (aU (.b rfl)) ( AS.nil)))))))))))))))) ?_
    refine aa ?_
    refine af rfl (fun h10 => ?_) (fun h10 => ?_)
    · rw [List.drop_zero] at h10
      have hb : jG l k l.2.1[k] = (7, 0) := by unfold jG; rw [if_neg (by rw [h8]; decide), if_pos h10]
      refine ac (zF fJ rfl (zC kp rfl rfl rfl fd (.raw (.b rfl) rfl) (aN (aG (aa (zR (zF fJ rfl (zL kp rfl rfl rfl fd (zJ (bQ (.b rfl) (.b rfl)) (zQ [1,2,5,14,15,16,64] [1,2,5] (aa ?_)))))))))))
      refine af rfl (fun h16 => ?_) (fun h16 => ?_)
      · first | (exfalso; simp at h16; done) | skip
        all_goals
          refine zR (zL eo rfl rfl rfl (Lens.id _) (zC eo rfl rfl rfl (Lens.id _) (.tv (.b rfl)) (zZ (am (av (ai (bL (av (ai ?_)))))))))
          exact cv results51 (ax eo rfl rfl rfl (Lens.id bw)) rfl (congrArg (SV.tv bw) (by unfold jS; rw [if_neg h1, fz h4 (by rw [hge, hb]; first | rfl | exact h12) hno]; simp only [hge, hb]))
      first | (exfalso; simp at h16; done) | (exfalso; rw [h12] at h16; cases h16; done) | skip
      all_goals
        refine ah (aG (aa (ac (zU rfl rfl zw (zM rfl (aN ?_))))))
        exact aD (fun a w hi => ⟨k + 1, zj, (⟨by omega, jA hno (by rw [hge, hb]; rfl)⟩), (zI hi)⟩)
    rw [List.drop_zero] at h10
    refine zR (zM rfl (zJ (bQ (.b rfl) (.b rfl)) (zY rfl (aa ?_))))
    refine af rfl (fun h12 => ?_) (fun h12 => ?_)
    · skip
      refine zR (zM rfl (zF fJ rfl (zC kp rfl rfl rfl fd (.raw (.b rfl) rfl) (zZ (zR (zM rfl (zJ (bQ (.b rfl) (.b rfl)) (zZ ?_))))))))
      refine af rfl (fun h14 => ?_) (fun h14 => ?_)
      · have hb : jG l k l.2.1[k] = ((C12.kU l.2.1[k] l.1).2, 100 + (C12.kU l.2.1[k] l.1).1) := by unfold jG; rw [if_neg (by rw [h8]; decide), if_neg (by rw [h10]; decide), if_pos h12, if_pos h14]
        refine ac (zM rfl (zU rfl rfl zw (zF Cu rfl (zC ty3 rfl rfl rfl uU (.raw (.b rfl) rfl) (aN (aG (aa (zR (zF fJ rfl (zL kp rfl rfl rfl fd (zJ (bQ (.b rfl) (.b rfl)) (zZ ?_))))))))))))
        refine af rfl (fun h16 => ?_) (fun h16 => ?_)
        · first | (exfalso; simp at h16; done) | skip
          all_goals
            refine zR (zL eo rfl rfl rfl (Lens.id _) (zC eo rfl rfl rfl (Lens.id _) (.tv (.b rfl)) (zZ (am (av (ai (bL (av (ai ?_)))))))))
            exact cv results51 (ax eo rfl rfl rfl (Lens.id bw)) rfl (congrArg (SV.tv bw) (by unfold jS; rw [if_neg h1, fz h4 (by rw [hge, hb]; first | rfl | exact h12) hno]; simp only [hge, hb]))
        first | (exfalso; simp at h16; done) | (exfalso; rw [h12] at h16; cases h16; done) | skip
        all_goals
          refine ah (aG (aa (ac (zU rfl rfl zw (zM rfl (aN ?_))))))
          exact aD (fun a w hi => ⟨k + 1, zj, (⟨by omega, jA hno (by rw [hge, hb]; rfl)⟩), (zI hi)⟩)
      have hb : jG l k l.2.1[k] = ((C12.kU l.2.1[k] l.1).2, 0) := by unfold jG; rw [if_neg (by rw [h8]; decide), if_neg (by rw [h10]; decide), if_pos h12, if_neg (by rw [h14]; decide)]
      refine ah (aG (aa (zR (zF fJ rfl (zL kp rfl rfl rfl fd (zJ (bQ (.b rfl) (.b rfl)) (zZ ?_)))))))
      refine af rfl (fun h16 => ?_) (fun h16 => ?_)
      · first | (exfalso; simp at h16; done) | skip
        all_goals
          refine zR (zL eo rfl rfl rfl (Lens.id _) (zC eo rfl rfl rfl (Lens.id _) (.tv (.b rfl)) (zZ (am (av (ai (bL (av (ai ?_)))))))))
          exact cv results51 (ax eo rfl rfl rfl (Lens.id bw)) rfl (congrArg (SV.tv bw) (by unfold jS; rw [if_neg h1, fz h4 (by rw [hge, hb]; first | rfl | exact h12) hno]; simp only [hge, hb]))
      first | (exfalso; simp at h16; done) | (exfalso; rw [h12] at h16; cases h16; done) | skip
      all_goals
        refine ah (aG (aa (ac (zU rfl rfl zw (zM rfl (aN ?_))))))
        exact aD (fun a w hi => ⟨k + 1, zj, (⟨by omega, jA hno (by rw [hge, hb]; rfl)⟩), (zI hi)⟩)
    have hb : jG l k l.2.1[k] = (0, 0) := by unfold jG; rw [if_neg (by rw [h8]; decide), if_neg (by rw [h10]; decide), if_neg (by rw [h12]; decide)]
    refine ah (aG (aa (zR (zF fJ rfl (zL kp rfl rfl rfl fd (zJ (bQ (.b rfl) (.b rfl)) (zZ ?_)))))))
    refine af rfl (fun h16 => ?_) (fun h16 => ?_)
    · first | (exfalso; simp at h16; done) | skip
      all_goals
        refine zR (zL eo rfl rfl rfl (Lens.id _) (zC eo rfl rfl rfl (Lens.id _) (.tv (.b rfl)) (zZ (am (av (ai (bL (av (ai ?_)))))))))
        exact cv results51 (ax eo rfl rfl rfl (Lens.id bw)) rfl (congrArg (SV.tv bw) (by unfold jS; rw [if_neg h1, fz h4 (by rw [hge, hb]; first | rfl | exact h12) hno]; simp only [hge, hb]))
    first | (exfalso; simp at h16; done) | (exfalso; rw [h12] at h16; cases h16; done) | skip
    all_goals
      refine ah (aG (aa (ac (zU rfl rfl zw (zM rfl (aN ?_))))))
      exact aD (fun a w hi => ⟨k + 1, zj, (⟨by omega, jA hno (by rw [hge, hb]; rfl)⟩), (zI hi)⟩)
  have h4 : k = l.2.1.length := by simp at h4; omega
  refine bg (be (aY (bf (aa (ae (ac (zJ (aI z52 rfl rR .nil) (zC eo rfl rfl rfl (Lens.id _) (.tv (.b rfl)) (zQ [2] [2] (aa (am ?_)))))))))))
  exact cv results51 (ax eo rfl rfl rfl (Lens.id bw)) rfl (congrArg (SV.tv bw) (by unfold jS; rw [if_neg h1, gQ (by rw [← h4]; exact hno)]))
end Go.Proofs.YtehcaebnijlhgaaGreatDoor
namespace Go.Proofs.YtehcaebnijlhgaaGreatDoor.C16
open Go.Eng
def gt (xs : List Int) (k : Nat) : Int := xs.getD k 0
def sw (xs : List Int) (i j : Nat) : List Int := (xs.set i (gt xs j)).set j (gt xs i)
theorem kq (xs : List Int) (i j : Nat) : (sw xs i j).length = xs.length := by simp [sw]
theorem ny {xs : List Int} {k : Nat} (h : k < xs.length) : gt xs k = xs[k] := by simp [gt, h]
theorem nZ {xs : List Int} {i j : Nat} (hi : i < xs.length) (hj : j < xs.length) (k : Nat) : gt (sw xs i j) k = if k = j then gt xs i else if k = i then gt xs j else gt xs k := by
  simp only [gt, sw, List.getD_eq_getElem?_getD, List.getElem?_set, List.length_set]
  by_cases e1 : k = j
  · subst e1; simp [hj]
  rw [if_neg (fun e => e1 e.symm), if_neg e1]
  by_cases e2 : k = i
  · subst e2; simp [hi]
  rw [if_neg (fun e => e2 e.symm), if_neg e2]
theorem o7 {xs : List Int} {i j : Nat} (hi : i < xs.length) (hj : j < xs.length) : (sw xs i j).Perm xs := by
  unfold sw
  rw [ny hi, ny hj]
  exact List.set_set_perm hi hj
def eh (n : Nat) (xs : List Int) : Prop := ∀ k, 0 < k → k < n → gt xs ((k - 1) / 2) ≤ gt xs k
def UpI (xs : List Int) (j : Nat) : Prop := (∀ k, 0 < k → k < xs.length → k ≠ j → gt xs ((k - 1) / 2) ≤ gt xs k) ∧ (∀ k, 0 < k → k < xs.length → (k - 1) / 2 = j → 0 < j → gt xs ((j - 1) / 2) ≤ gt xs k)
theorem BJ {xs : List Int} {j : Nat} (h : UpI xs j) (hj : j < xs.length) (h0 : 0 < j) (hl : gt xs j < gt xs ((j - 1) / 2)) : UpI (sw xs ((j - 1) / 2) j) ((j - 1) / 2) := by
  obtain ⟨h1, h2⟩ := h
  have hg := nZ (xs := xs) (i := (j - 1) / 2) (j := j) zo hj
  generalize hi : (j - 1) / 2 = i at *
  have hij : i < j := by omega
  refine ⟨fun k a b c => ?_, fun k a b c d => ?_⟩
  · rw [kq] at b
    rw [hg, hg]
    by_cases e1 : k = j
    · subst e1
      rw [hi, if_neg zo, if_pos rfl, if_pos rfl]; omega
    rw [if_neg e1, if_neg c]
    by_cases e2 : (k - 1) / 2 = j
    · rw [if_pos e2]; exact h2 k a b e2 zo
    rw [if_neg e2]
    have := h1 k a b e1
    by_cases e3 : (k - 1) / 2 = i
    · rw [if_pos e3]; rw [e3] at this; omega
    rw [if_neg e3]; exact this
  rw [kq] at b
  rw [hg, hg]
  have q := h1 i d zo zo
  rw [if_neg zo, if_neg zo]
  by_cases e1 : k = j
  · rw [if_pos e1]; exact q
  rw [if_neg e1, if_neg zo]
  have := h1 k a b e1
  rw [c] at this; omega
theorem BH {xs : List Int} (h : UpI xs 0) : eh xs.length xs := fun k a b => h.1 k a b zo
theorem BI {xs : List Int} {j : Nat} (h : UpI xs j) (hl : ¬ gt xs j < gt xs ((j - 1) / 2)) : eh xs.length xs := fun k a b => by
  by_cases e : k = j
  · subst e; omega
  exact h.1 k a b e
theorem sY {xs : List Int} {x : Int} (h : eh xs.length xs) : UpI (xs ++ [x]) xs.length := by
  have hg : ∀ k, k < xs.length → gt (xs ++ [x]) k = gt xs k := fun k hk => by simp [gt, List.getD_eq_getElem?_getD, List.getElem?_append_left hk]
  refine ⟨fun k a b c => ?_, fun k a b c d => ?_⟩
  · simp at b
    rw [hg _ zo, hg _ zo]
    exact h k a zo
  simp at b; omega
def DnI (n : Nat) (xs : List Int) (i : Nat) : Prop := (∀ k, 0 < k → k < n → (k - 1) / 2 ≠ i → gt xs ((k - 1) / 2) ≤ gt xs k) ∧ (∀ k, 0 < k → k < n → (k - 1) / 2 = i → 0 < i → gt xs ((i - 1) / 2) ≤ gt xs k)
theorem wH {xs : List Int} {n i j : Nat} (h : DnI n xs i) (hn : n ≤ xs.length) (hj : j < n) (hj0 : 0 < j) (hp : (j - 1) / 2 = i) (hm : ∀ k, 0 < k → k < n → (k - 1) / 2 = i → gt xs j ≤ gt xs k) (hl : gt xs j < gt xs i) : DnI n (sw xs i j) j := by
  obtain ⟨h1, h2⟩ := h
  have hg := nZ (xs := xs) (i := i) (j := j) zo zo
  refine ⟨fun k a b c => ?_, fun k a b c d => ?_⟩
  · rw [hg, hg, if_neg c]
    by_cases e1 : k = j
    · subst e1
      rw [hp, if_pos rfl, if_pos rfl]; omega
    rw [if_neg e1]
    by_cases e2 : k = i
    · subst e2
      rw [if_neg zo, if_pos rfl]
      exact h2 j hj0 hj hp a
    rw [if_neg e2]
    by_cases e3 : (k - 1) / 2 = i
    · rw [if_pos e3]; exact hm k a b e3
    rw [if_neg e3]; exact h1 k a b e3
  rw [hg, hg, hp, if_neg zo, if_pos rfl, if_neg zo, if_neg zo]
  have := h1 k a b zo
  rw [c] at this; exact this
theorem dn_end {xs : List Int} {n i : Nat} (h : DnI n xs i) (hi : n ≤ 2 * i + 1) : eh n xs := fun k a b => h.1 k a b zo
theorem wG {xs : List Int} {n i j : Nat} (h : DnI n xs i) (hm : ∀ k, 0 < k → k < n → (k - 1) / 2 = i → gt xs j ≤ gt xs k) (hl : ¬ gt xs j < gt xs i) : eh n xs := fun k a b => by
  by_cases e : (k - 1) / 2 = i
  · rw [e]; have := hm k a b e; omega
  exact h.1 k a b e
theorem um {xs : List Int} (h : eh xs.length xs) (h0 : 0 < xs.length) : DnI (xs.length - 1) (sw xs 0 (xs.length - 1)) 0 := by
  have hg := nZ (xs := xs) (i := 0) (j := xs.length - 1) zo zo
  refine ⟨fun k a b c => ?_, fun k a b c d => by omega⟩
  rw [hg, hg, if_neg zo, if_neg c, if_neg zo, if_neg zo]
  exact h k a zo
theorem AF {xs : List Int} {n : Nat} (h : eh n xs) : ∀ k, k < n → gt xs 0 ≤ gt xs k := by
  intro k
  induction k using Nat.strongRecOn with
  | _ k ih =>
    intro hk
    rcases Nat.eq_zero_or_pos k with e | e
    · subst e; omega
    have := ih ((k - 1) / 2) zo zo
    have := h k e hk
    omega
theorem xy {xs : List Int} {n : Nat} (h : eh n xs) (hn : n ≤ xs.length) : eh (xs.take n).length (xs.take n) := fun k a b => by
  simp at b
  have hg : ∀ q, q < n → gt (xs.take n) q = gt xs q := fun q hq => by simp [gt, List.getD_eq_getElem?_getD, List.getElem?_take, hq]
  rw [hg _ zo, hg _ zo]
  exact h k a zo
theorem yR {xs ys : List Int} (h0 : 0 < xs.length) (hp : ys.Perm (sw xs 0 (xs.length - 1))) (hl : gt ys (xs.length - 1) = gt (sw xs 0 (xs.length - 1)) (xs.length - 1)) : xs.Perm (gt xs 0 :: ys.take (xs.length - 1)) ∧ gt ys (xs.length - 1) = gt xs 0 := by
  have hlen : ys.length = xs.length := by rw [hp.length_eq, kq]
  have e : gt ys (xs.length - 1) = gt xs 0 := by rw [hl, nZ zo zo, if_pos rfl]
  refine ⟨?_, e⟩
  have h1 : ys.Perm xs := hp.trans (o7 zo zo)
  refine h1.symm.trans ?_
  have h2 : ys = ys.take (xs.length - 1) ++ [gt xs 0] := by
    rw [← e, ny zo, List.take_append_getElem, List.take_of_length_le zo]
  rw [h2, List.take_append_of_le_length (by simp; omega), List.take_take, Nat.min_self]
  exact List.perm_append_comm.trans (List.Perm.refl _)
theorem qK {xs : List Int} (h : eh xs.length xs) {x : Int} (hx : x ∈ xs) : gt xs 0 ≤ x := by
  obtain ⟨k, hk, rfl⟩ := List.mem_iff_getElem.1 hx
  rw [← ny hk]
  exact AF h k hk
end Go.Proofs.YtehcaebnijlhgaaGreatDoor.C16
namespace Go.Eng
open Go.Maps (Keyed IsMap)
open Go.MapKept Go.ChangeMaps
structure ElT (P : Program) (e : TypeId) (γ : Type) (z : γ) where
  enc : γ → Value
  lit : γ → Lit
  ok : γ → Prop
  zok : ok z
  read : ∀ x, ok x → plainElem (H := Unit) P e (enc x) = some (.lit (lit x), [])
  back : ∀ v x ps, plainElem (H := Unit) P e v = some (.lit (lit x), ps) → v = enc x
  zero : ∀ w, (zeroValue e).run P w = .ok (enc z) w
structure KeyT (P : Program) (kt : TypeId) (κ : Type) where
  enc : κ → Value
  lit : κ → Lit
  ok : κ → Prop
  keyed : Keyed P kt
  read : ∀ x, ok x → keyOf P kt (enc x) = some (lit x)
  back : ∀ v l, keyOf P kt v = some l → ∃ x, ok x ∧ v = enc x
  inj : ∀ x y, enc x = enc y → x = y
section
variable {P : Program} {cx : Cx} {st st' : St} {β : Loc} {a : Act} {w w' : World} {ops : Array Oper} {k : Kn} {c : Code}
variable {dst : Option Tmp} {ty : TypeId} {pos : String} {aft : Array Edge} {gd : Option (Nat × Bool)}
variable {kt et : TypeId} {κ γ : Type} {z : γ} {K : KeyT P kt κ} {E : ElT P et γ z}
def DAt (E : ElT P et γ z) (D : DataW Unit) (l : Lit) : Option γ → Prop
  | none => Maps.has D l = false
  | some v => Maps.has D l = true ∧ ∀ zd, D.atKey l zd = .lit (E.lit v)
def MapRep (K : KeyT P kt κ) (E : ElT P et γ z) (obj : Obj) (n : Nat) (f : κ → Option γ) : Prop :=
  (∀ i v, f i = some v → K.ok i ∧ E.ok v) ∧ ∃ D : DataW Unit, IsMap D ∧ (∀ (w : World) (b : Nat), w.heap[b]? = some obj → w.ownsMap P kt (plainElem P et) b n D) ∧ ∀ i, K.ok i → DAt E D (K.lit i) (f i)
theorem DAt.get {D : DataW Unit} {l : Lit} {o : Option γ} (h : DAt E D l o) : D.atKey l (.lit (E.lit z)) = .lit (E.lit (o.getD z)) := by
  cases o with
  | none => exact Maps.atKey_of_not_has h _
  | some v => exact h.2 _
theorem MapRep.mono {obj : Obj} {n n' : Nat} {f : κ → Option γ} (h : MapRep K E obj n f) (hn : n ≤ n') : MapRep K E obj n' f :=
  ⟨h.1, h.2.imp fun D hD => ⟨hD.1, fun w b hb => (hD.2.1 w b hb).mono hn, hD.2.2⟩⟩
theorem InvB.fresh (hi : InvB cx st β a w) {nm : Nat} {hb0 : HB} {l : Option (Nat × Nat)} (hf : di nm st.slots = true) (hb : Below w.heap.size w w') (hl1 : ∀ x, l = some x → w.heap.size ≤ x.1 ∧ x.1 < w'.heap.size)
    (hl2 : hb0.holds w' (bM cx ((nm, hb0) :: st.heap) (fun k => if k = nm then l else β k) w') l) : InvB cx ⟨st.slots, (nm, hb0) :: st.heap⟩ (fun k => if k = nm then l else β k) a w' := by
  have hl := hi.later hb
  have hok : ∀ b, bM cx st.heap β w b → bM cx ((nm, hb0) :: st.heap) (fun k => if k = nm then l else β k) w' b ∧ w'.heap[b]? = w.heap[b]? := by
    rintro b ⟨h1, h2, h3⟩
    refine ⟨⟨h1, Nat.lt_of_lt_of_le h2 hb.size, fun k hb' hk x hx => ?_⟩, hb.block b h2⟩
    rw [aW] at hk
    by_cases e1 : k = nm
    · subst e1; simp at hx; have := (hl1 x hx).1; omega
    rw [if_neg (Ne.symm e1)] at hk
    simp only [if_neg e1] at hx
    exact h3 k hb' hk x hx
  refine ⟨hl.below, hl.old, hl.defers, hl.size, fun k hb' hk x hx => ?_, fun k k' h1 h2 hk hk' x y hx hy hxy => ?_, fun k hb' hk => ?_, fun i s hs => ?_⟩
  · by_cases e1 : k = nm
    · subst e1; simp at hx; have := hl1 x hx; exact ⟨.inl (Nat.le_trans hi.below.size this.1), this.2⟩
    rw [aW, if_neg (Ne.symm e1)] at hk
    simp only [if_neg e1] at hx
    exact hl.own k hb' hk x hx
  · rw [aW] at hk hk'
    by_cases e1 : k = nm <;> by_cases e2 : k' = nm
    · rw [e1, e2]
    · subst e1
      rw [if_neg (Ne.symm e2)] at hk'
      simp only [if_pos] at hx
      simp only [if_neg e2] at hy
      have g1 := (hl1 x hx).1
      have g2 := (hi.own k' _ hk' y hy).2
      omega
    · subst e2
      rw [if_neg (Ne.symm e1)] at hk
      simp only [if_pos] at hy
      simp only [if_neg e1] at hx
      have g1 := (hl1 y hy).1
      have g2 := (hi.own k _ hk x hx).2
      omega
    rw [if_neg (Ne.symm e1)] at hk
    rw [if_neg (Ne.symm e2)] at hk'
    simp only [if_neg e1] at hx
    simp only [if_neg e2] at hy
    exact hi.sep k k' _ _ hk hk' x y hx hy hxy
  · rw [aW] at hk
    by_cases e1 : k = nm
    · subst e1
      rw [if_pos rfl] at hk
      injection hk with hk; subst hk
      simp only [if_pos]; exact hl2
    rw [if_neg (Ne.symm e1)] at hk
    simp only [if_neg e1]
    exact HB.keep hok (fun x hx => hb.block _ (hi.own k hb' hk x hx).2) (hi.rows k hb' hk)
  obtain ⟨u, h1, h2⟩ := hi.slots i s hs
  have hfree := ep hf hs
  refine ⟨u, h1, SV.keep hok (fun k hk => ?_) h2⟩
  have hne : k ≠ nm := by rintro rfl; rw [hfree] at hk; cases hk
  refine ⟨by simp [hne], fun b o hbo cur e' fr hcur => ⟨cur, e', fr, ?_, rfl⟩⟩
  rw [hb.block b (InvB.cell_lt hcur)]; exact hcur
end
end Go.Eng
namespace Go.Eng
open Go.Maps (Keyed IsMap)
open Go.MapKept Go.ChangeMaps
section
variable {P : Program} {cx : Cx} {st st' : St} {β : Loc} {a : Act} {w w' : World} {ops : Array Oper} {k : Kn} {c : Code}
variable {dst : Option Tmp} {ty : TypeId} {pos : String} {aft : Array Edge} {gd : Option (Nat × Bool)}
variable {kt et : TypeId} {κ γ : Type} {z : γ} {K : KeyT P kt κ} {E : ElT P et γ z}
end
end Go.Eng
namespace Go.Eng
section
variable {P : Program} {cx : Cx} {st st' : St} {β : Loc} {a : Act} {w w' : World} {ops : Array Oper} {k : Kn} {c : Code}
variable {dst : Option Tmp} {ty : TypeId} {pos : String} {aft : Array Edge} {gd : Option (Nat × Bool)}
variable {α : Type} {rt : RT α} [NM rt]
theorem pw {ops : Array Oper} {d : Nat} {s : SV} {x : Operand} (hdn : Nat.blt d cx.n = true) (hx : Ev st x s) :
    GH P cx ops st ⟨some d, .move x, ty, pos, aft, none⟩ (some (d, s), none) [] [] := by
  intro st' hag _ a w hi Q
  rw [if_pos (by simp [Region.wanted])]
  exact ag (hag.ev (by simp [Op.operands]) hx) st' (Agr.refl _ _) d rfl (by simpa using hdn) a w hi Q
def RetT (cx : Cx) (b o cap : Nat) (rt : RT α) (Q : List α → Prop) (r : SV) : Ending → World → Prop := fun e w' =>
  ∃ v, e = .returned v ∧ BelowX cx.ex cx.w0.heap.size cx.w0 w' ∧ (∃ ys cur' e', Q ys ∧ w'.heap[b]? = some (.cells cur' e' (0, 0)) ∧ o + cap * rt.n ≤ cur'.size ∧ eZ rt w' (fun q => okR cx w' q ∧ q ≠ b) b o ys) ∧ r.holds i6 w' (fun q => okR cx w' q ∧ q ≠ b) v
structure CtT (P : Program) (kf : FuncId) {α : Type} (rt : RT α) (xs : List α) (Q : List α → Prop) (ss : List SV) (r : SV) : Prop where
  ent : ∀ w args, (callFunc kf args).run P w = .ok (.enter kf args) w
  calls : ∀ (w : World) (ok0 : Ok) (b o cap : Nat) (cur : Array Value) (e : TypeId) (vs : List Value), (∀ b', ok0 b' → b' < w.heap.size) → ¬ ok0 b → w.heap[b]? = some (.cells cur e (0, 0)) → xs.length ≤ cap → cap ≤ maxLen → o + cap * rt.n ≤ cur.size →
    eZ rt w ok0 b o xs → eg w ok0 ss vs → Calls P kf ((.slice (some ⟨b, o, none⟩) xs.length cap :: vs).toArray) w (RetT ⟨w, ok0, 0, fun q => q = b⟩ b o cap rt Q r)
theorem ry {kf : FuncId} {fn : Func} {c : Code} {xs : List α} {Q : List α → Prop} {ss : List SV} {r : SV} (hf : P.funcs[kf]? = some fn) (hb : fn.body = some c) (hn : (fn.name == "runtime.NumGoroutine") = false) {m : Nat} (hm : fn.ntmps = m) (hlen : Nat.ble (ss.length + 1) m = true)
    (hp : (ss.all SV.plain) = true)
    (h : ∀ (w0 : World) (ok0 : Ok) (b o cap : Nat), xs.length ≤ maxLen → J P ⟨w0, ok0, m, fun q => q = b⟩ ⟨(0, .both (.own 100 rt.n 0 xs.length) (.slice (some ⟨b, o, none⟩) xs.length cap)) :: jK 1 ss, [(100, ⟨rt, xs⟩)]⟩ c (.fin fn (RetT ⟨w0, ok0, m, fun q => q = b⟩ b o cap rt Q r))) : CtT P kf rt xs Q ss r := by
  refine ⟨bJ hf hb hn, fun w ok0 b o cap cur e vs hok hnb hcur hcap hmax hfit hrow hh => ?_⟩
  have hl := eL hh
  have hlen' : ss.length + 1 ≤ m := by simpa using hlen
  have hbs : b < w.heap.size := InvB.cell_lt hcur
  refine calls_of_wp hf hb ?_
  have := h w ok0 b o cap (by omega) { tmps := (Value.slice (some ⟨b, o, none⟩) xs.length cap :: vs).toArray ++ Array.replicate (fn.ntmps - (Value.slice (some ⟨b, o, none⟩) xs.length cap :: vs).toArray.size) undef, defers := [] } w ⟨fun q => if q = 100 then some (b, o) else none, ?_⟩
  · exact wp_mono this fun e a w' hq => hq
  have hlk : ∀ nm hb, az [(100, HB.mk rt xs)] nm = some hb → nm = 100 ∧ hb = ⟨rt, xs⟩ := fun nm hb hh => by
    rw [aW] at hh
    split at hh
    · rename_i e; injection hh with hh; exact ⟨e.symm, hh.symm⟩
    simp [az] at hh
  have hkk : ∀ b', ok0 b' → bM ⟨w, ok0, m, fun q => q = b⟩ [(100, HB.mk rt xs)] (fun q => if q = 100 then some (b, o) else none) w b' ∧ w.heap[b']? = w.heap[b']? := fun b' hb' =>
    ⟨⟨.inl hb', hok b' hb', fun nm hb hh x hx => by
      obtain ⟨rfl, rfl⟩ := hlk nm hb hh
      simp at hx; subst hx; intro e
      have e : b = b' := e
      subst e; exact hnb hb'⟩, rfl⟩
  refine ⟨(Below.refl _ _).toX, hok, rfl, by simp [hm, hl]; omega, fun nm hb hh x hx => ?_, fun nm nm' hb hb' hh hh' x y hx hy _ => ?_, fun nm hb hh => ?_, fun i s hs => ?_⟩
  · obtain ⟨rfl, rfl⟩ := hlk nm hb hh
    simp at hx; subst hx
    exact ⟨.inr rfl, hbs⟩
  · rw [(hlk nm hb hh).1, (hlk nm' hb' hh').1]
  · obtain ⟨rfl, rfl⟩ := hlk nm hb hh
    simp only [if_pos]
    exact HB.keep (hb := ⟨rt, xs⟩) (l := some (b, o)) hkk (fun _ _ => rfl) ⟨fun _ => hrow, fun hm => by rw [show rt.mp = false from NM.no] at hm; cases hm⟩
  rw [aT] at hs
  split at hs
  · rename_i e; subst e; injection hs with hs; subst hs
    refine ⟨.slice (some ⟨b, o, none⟩) xs.length cap, by rw [Array.getElem?_append_left (by simp)]; rfl, ?_, rfl⟩
    simp only [SV.holds, hdr, if_pos]
    exact ⟨_, cap, rfl, hcap, hmax, .inr ⟨by simp, cur, e, (0, 0), hcur, by rw [Nat.zero_add]; exact hfit⟩⟩
  obtain ⟨j, rfl, hj⟩ := fa hs
  obtain ⟨v, h1, h2⟩ := eG hh hj
  have hjl : j < vs.length := (List.getElem?_eq_some_iff.1 h1).1
  have hps : s.plain = true := List.all_eq_true.1 hp s (List.mem_of_getElem? hj)
  exact ⟨v, by rw [Array.getElem?_append_left (by simp; omega)]; simp [Nat.add_comm 1 j, h1], SV.plain_keep hps hkk h2⟩
theorem Cw {b o cap s0 n : Nat} {xs : List α} {Q : List α → Prop} (hi : InvB cx st β a w) (hm : a8 st.slots s0 = some (.both (.own 100 rt.n 0 n) (.slice (some ⟨b, o, none⟩) n cap))) (hn : az st.heap 100 = some ⟨rt, xs⟩) (hn0 : 0 < n) (hQ : Q xs) :
    (∃ ys cur' e', Q ys ∧ w.heap[b]? = some (.cells cur' e' (0, 0)) ∧ o + cap * rt.n ≤ cur'.size ∧ eZ rt w (fun q => okR cx w q ∧ q ≠ b) b o ys) ∧ ∀ q, bM cx st.heap β w q → okR cx w q ∧ q ≠ b := by
  obtain ⟨v, _, e1, e2⟩ := hi.slots s0 _ hm
  rw [e2] at e1
  simp only [SV.holds, hdr] at e1
  cases hβ : β 100 with
  | none => rw [hβ] at e1; obtain ⟨_, e3⟩ := e1; omega
  | some bo =>
    obtain ⟨b', o'⟩ := bo
    rw [hβ] at e1
    obtain ⟨A, cap', h1, h2, h3, h4⟩ := e1
    rcases h4 with ⟨h4, _⟩ | ⟨h4, cur, e, fr, h5, h6⟩
    · omega
    injection h1 with h1 _ h1'
    subst h1'
    rw [← h1] at h4
    obtain ⟨rfl, rfl⟩ : b = b' ∧ o = o' := by
      injection h4 with h4; injection h4 with q1 q2; simp at q2; exact ⟨q1, q2⟩
    have hr := hi.rows 100 _ hn
    rw [hβ] at hr
    obtain ⟨cur', e', g1, g2, g3⟩ := hr.1 NM.no
    rw [g1] at h5; injection h5 with h5; injection h5 with h5 _ _; subst h5
    have hk : ∀ q, bM cx st.heap β w q → okR cx w q ∧ q ≠ b := fun q hq => ⟨mP hq, fun e => hq.2.2 100 _ hn _ hβ e.symm⟩
    refine ⟨⟨xs, cur', e', hQ, g1, by rw [Nat.zero_add] at h6; exact h6, cur', e', g1, g2, fun i x hx => ?_⟩, hk⟩
    obtain ⟨cs, g4, g5⟩ := g3 i x hx
    exact ⟨cs, rt.keep (fun q hq => ⟨hk q hq, rfl⟩) g4, g5⟩
theorem mV {fn : Func} {v0 : ResultVar} {s r : SV} {b o cap s0 n : Nat} {xs : List α} {Q : List α → Prop} (hr : fn.results = #[v0]) (h0 : Res P cx st v0 s) (hp : s.plain = true) (e : s = r) (hm : a8 st.slots s0 = some (.both (.own 100 rt.n 0 n) (.slice (some ⟨b, o, none⟩) n cap))) (hn : az st.heap 100 = some ⟨rt, xs⟩) (hn0 : 0 < n) (hQ : Q xs) :
    JR P cx st (.fin fn (RetT cx b o cap rt Q r)) := by
  rintro a w ⟨β, hi⟩
  subst e
  obtain ⟨v, h1, h2⟩ := h0 β a w hi
  obtain ⟨g1, g2⟩ := Cw hi hm hn hn0 hQ
  refine ⟨hi.defers, v, ?_, v, rfl, hi.below, g1, SV.plain_keep hp (fun q hq => ⟨g2 q hq, rfl⟩) h2⟩
  simp [eI, hr, h1]
inductive KeepT (R : List Nat) (l : List (Nat × SV)) (nm sz n : Nat) (v : Value) : List Nat → List (Nat × SV) → Prop
  | nil : KeepT R l nm sz n v [] []
  | free {j : Nat} {ks : List Nat} {t : SV} {r : List (Nat × SV)} (h : a8 l j = some t) (hf : t.within R = true) (hr : KeepT R l nm sz n v ks r) : KeepT R l nm sz n v (j :: ks) ((j, t) :: r)
  | both {j : Nat} {ks : List Nat} {r : List (Nat × SV)} (h : a8 l j = some (.both (.own nm sz 0 n) v)) (hr : KeepT R l nm sz n v ks r) : KeepT R l nm sz n v (j :: ks) ((j, .both (.own nm sz 0 n) v) :: r)
  | lnk {j : Nat} {ks : List Nat} {s : SV} {r : List (Nat × SV)} (h : a8 l j = some (.lnk s v (.own nm sz 0 n))) (hf : s.within R = true) (hr : KeepT R l nm sz n v ks r) : KeepT R l nm sz n v (j :: ks) ((j, .lnk s v (.own nm sz 0 n)) :: r)
theorem KeepT.look {R : List Nat} {l : List (Nat × SV)} {nm sz n : Nat} {v : Value} {ks : List Nat} {r : List (Nat × SV)} (h : KeepT R l nm sz n v ks r) : ∀ i s, a8 r i = some s → a8 l i = some s ∧ (s.within R = true ∨ s = .both (.own nm sz 0 n) v ∨ ∃ s', s = .lnk s' v (.own nm sz 0 n) ∧ s'.within R = true) := by
  induction h with
  | nil => intro i s hs; simp [a8] at hs
  | free h hf _ ih =>
    intro i s hs; rw [aT] at hs; split at hs
    · rename_i e; subst e; injection hs with hs; subst hs; exact ⟨h, .inl hf⟩
    exact ih i s hs
  | both h _ ih =>
    intro i s hs; rw [aT] at hs; split at hs
    · rename_i e; subst e; injection hs with hs; subst hs; exact ⟨h, .inr (.inl rfl)⟩
    exact ih i s hs
  | lnk h hf _ ih =>
    intro i s hs; rw [aT] at hs; split at hs
    · rename_i e; subst e; injection hs with hs; subst hs; exact ⟨h, .inr (.inr ⟨_, rfl, hf⟩)⟩
    exact ih i s hs
theorem InvB.turnRow (hi : InvB cx st β a w) {nm b o cap n : Nat} {xs ys : List α} {r : List (Nat × SV)} {ks R : List Nat} (hR : (R.all fun k => !Nat.beq k nm && (az st.heap k).isSome) = true) (hn : az st.heap nm = some ⟨rt, xs⟩) (hb : β nm = some (b, o)) (hcap : n ≤ cap ∧ cap ≤ maxLen)
    (hk : KeepT R st.slots nm rt.n n (.slice (some ⟨b, o, none⟩) n cap) ks r) (hg : BelowX (fun q => q = b) w.heap.size w w') {cur' : Array Value} {e' : TypeId} (hcur : w'.heap[b]? = some (.cells cur' e' (0, 0))) (hfit : o + cap * rt.n ≤ cur'.size)
    (hrow : eZ rt w' (fun q => okR (Cx.mk w (bM cx st.heap β w) 0 (fun q => q = b)) w' q ∧ q ≠ b) b o ys) : InvB cx ⟨r, (nm, ⟨rt, ys⟩) :: st.heap⟩ β a w' := by
  have hown := hi.own nm _ hn _ hb
  have hothers : ∀ k hb', az st.heap k = some hb' → k ≠ nm → ∀ x, β k = some x → x.1 ≠ b := fun k hb' hk hne x hx e1 => hne (hi.sep k nm _ _ hk hn x (b, o) hx hb e1)
  have hbl : ∀ k, k < w.heap.size → k ≠ b → w'.heap[k]? = w.heap[k]? := fun k hk hne => hg.blockX k hk hne
  have hh0 : ∀ k, az ((nm, HB.mk rt ys) :: st.heap) k = if nm = k then some ⟨rt, ys⟩ else az st.heap k := fun k => aW _ _ _ _
  have hok : ∀ b', bM cx st.heap β w b' → bM cx ((nm, ⟨rt, ys⟩) :: st.heap) β w' b' ∧ w'.heap[b']? = w.heap[b']? := by
    rintro b' ⟨h1, h2, h3⟩
    have hne : b' ≠ b := fun e1 => h3 nm _ hn _ hb e1.symm
    refine ⟨⟨h1, Nat.lt_of_lt_of_le h2 hg.size, fun k hb' hk x hx => ?_⟩, hbl b' h2 hne⟩
    rw [hh0] at hk
    by_cases e1 : nm = k
    · subst e1; rw [hb] at hx; injection hx with hx; subst hx; exact fun e2 => hne e2.symm
    rw [if_neg e1] at hk
    exact h3 k hb' hk x hx
  have hok2 : ∀ q, (okR (Cx.mk w (bM cx st.heap β w) 0 (fun q => q = b)) w' q ∧ q ≠ b) → bM cx ((nm, ⟨rt, ys⟩) :: st.heap) β w' q := fun q hq => by
    rcases hq.1.1 with z | z | z
    · exact (hok q z).1
    · refine ⟨.inr (.inl (Nat.le_trans hi.below.size z)), hq.1.2, fun k hb' hk x hx e1 => ?_⟩
      rw [hh0] at hk
      have z : w.heap.size ≤ q := z
      split at hk
      · rename_i e2; subst e2; rw [hb] at hx; injection hx with hx; subst hx; exact hq.2 e1.symm
      have := (hi.own k hb' hk x hx).2; omega
    exact absurd z hq.2
  refine ⟨⟨hg.os.trans hi.below.os, hg.tape.trans hi.below.tape, hg.output.trans hi.below.output, Nat.le_trans hi.below.size hg.size, fun k hk hx => ?_, Nat.le_trans hi.below.drawn hg.drawn⟩, hi.old, hi.defers, hi.size, fun k hb' hk x hx => ?_, fun k k' h1 h2 hk hk' x y hx hy hxy => ?_, fun k hb' hk => ?_, fun i s hs' => ?_⟩
  · refine (hbl k (Nat.lt_of_lt_of_le hk hi.below.size) ?_).trans (hi.below.blockX k hk hx)
    rintro rfl
    rcases hown.1 with q | q
    · simp only at q; omega
    exact hx q
  · rw [hh0] at hk
    by_cases e1 : nm = k
    · subst e1; have := hi.own nm _ hn x hx; exact ⟨this.1, Nat.lt_of_lt_of_le this.2 hg.size⟩
    rw [if_neg e1] at hk
    have := hi.own k hb' hk x hx
    exact ⟨this.1, Nat.lt_of_lt_of_le this.2 hg.size⟩
  · rw [hh0] at hk hk'
    by_cases e1 : nm = k <;> by_cases e2 : nm = k'
    · rw [← e1, ← e2]
    · subst e1; rw [if_neg e2] at hk'; exact hi.sep _ k' _ _ hn hk' x y hx hy hxy
    · subst e2; rw [if_neg e1] at hk; exact hi.sep k _ _ _ hk hn x y hx hy hxy
    rw [if_neg e1] at hk; rw [if_neg e2] at hk'; exact hi.sep k k' _ _ hk hk' x y hx hy hxy
  · rw [hh0] at hk
    by_cases e1 : nm = k
    · subst e1
      rw [if_pos rfl] at hk
      injection hk with hk; subst hk
      rw [hb]
      refine ⟨fun _ => ?_, fun hm => by rw [show rt.mp = false from NM.no] at hm; cases hm⟩
      obtain ⟨cur2, e2, g1, g2, g3⟩ := hrow
      refine ⟨cur2, e2, g1, g2, fun i x hx => ?_⟩
      obtain ⟨cs, g4, g5⟩ := g3 i x hx
      exact ⟨cs, rt.keep (fun q hq => ⟨hok2 q hq, rfl⟩) g4, g5⟩
    rw [if_neg e1] at hk
    exact HB.keep hok (fun x hx => hbl _ (hi.own k hb' hk x hx).2 (hothers k _ hk (Ne.symm e1) x hx)) (hi.rows k hb' hk)
  obtain ⟨hs0, hcase⟩ := hk.look i s hs'
  obtain ⟨v, h1, h2⟩ := hi.slots i s hs0
  have hRk : ∀ k ∈ R, k ≠ nm ∧ ∃ hb, az st.heap k = some hb := fun k hk => by
    have := List.all_eq_true.1 hR k hk
    rw [Bool.and_eq_true] at this
    refine ⟨fun e => by subst e; simp at this, ?_⟩
    cases h : az st.heap k with
    | none => rw [h] at this; simp at this
    | some hb => exact ⟨hb, rfl⟩
  have hfree : ∀ (s : SV) (v : Value), s.within R = true → s.holds β w (bM cx st.heap β w) v → s.holds β w' (bM cx ((nm, ⟨rt, ys⟩) :: st.heap) β w') v := fun s v hf hv =>
    SV.keep hok (fun k hk => ⟨rfl, fun b1 o1 hbo cur e fr hc => by
      obtain ⟨hne, hb2, hlk⟩ := hRk k (SV.within_mem hf hk)
      have hb1 : b1 ≠ b := hothers k hb2 hlk hne (b1, o1) hbo
      exact ⟨cur, e, fr, by rw [hbl b1 (InvB.cell_lt hc) hb1]; exact hc, rfl⟩⟩) hv
  have hhd : hdr β w' nm rt.n 0 n (.slice (some ⟨b, o, none⟩) n cap) := by
    simp only [hdr]
    rw [hb]
    exact ⟨_, cap, rfl, hcap.1, hcap.2, .inr ⟨by simp, cur', e', (0, 0), hcur, by rw [Nat.zero_add]; exact hfit⟩⟩
  rcases hcase with hf | rfl | ⟨s', rfl, hf⟩
  · exact ⟨v, h1, hfree s v hf h2⟩
  · obtain ⟨_, q2⟩ := h2
    exact ⟨v, h1, by rw [q2]; exact hhd, q2⟩
  obtain ⟨q1, q2⟩ := h2
  exact ⟨v, h1, hfree s' v hf q1, hhd⟩
theorem Af {rest : List Oper} {kf : FuncId} {nm n d : Nat} {xs : List α} {Q : List α → Prop} {ss : List SV} {rr : SV} {b o cap : Nat} {x : Operand} {xo : List Operand} {ts : Array TypeId} (R ks : List Nat) {r : List (Nat × SV)} (h : CtT P kf rt xs Q ss rr)
    (hx : Ev st x (.both (.own nm rt.n 0 n) (.slice (some ⟨b, o, none⟩) n cap))) (hn : az st.heap nm = some ⟨rt, xs⟩) (hfull : n = xs.length) (hn0 : 0 < n) (ha : Args st xo ss) (hp : (ss.all SV.plain) = true) (hr : rr.plain = true) (hd : Nat.blt d cx.n = true)
    (hR : (R.all fun k => !Nat.beq k nm && (az st.heap k).isSome) = true) (hk : KeepT R st.slots nm rt.n n (.slice (some ⟨b, o, none⟩) n cap) ks r)
    (hnext : ∀ ys, Q ys → JG P cx ops ⟨(d, rr) :: r, (nm, ⟨rt, ys⟩) :: st.heap⟩ rest k) :
    JG P cx ops st (⟨some d, .call { callee := .value (.func kf), args := (x :: xo).toArray, argTypes := ts }, ty, pos, aft, none⟩ :: rest) k := by
  rintro a w ⟨β, hi⟩
  refine wpList_plain rfl fun K hK => ?_
  have hrun : (execOp a.eval ⟨some d, .call { callee := .value (.func kf), args := (x :: xo).toArray, argTypes := ts }, ty, pos, aft, none⟩).run P w = .ok (.enter kf ((x :: xo).map a.eval).toArray) w := by
    simp [execOp, resolve, Act.eval, Deferred.ofValue, invoke, h.ent]
  unfold Oper.wp
  rw [hrun, Oper.upon_enter]
  obtain ⟨e1, e2⟩ := hi.ev hx
  rw [e2] at e1
  simp only [SV.holds, hdr] at e1
  cases hβ : β nm with
  | none => rw [hβ] at e1; obtain ⟨_, e3⟩ := e1; omega
  | some bo =>
    obtain ⟨b', o'⟩ := bo
    rw [hβ] at e1
    obtain ⟨A, cap', h1, h2, h3, h4⟩ := e1
    rcases h4 with ⟨h4, _⟩ | ⟨h4, cur, e, fr, h5, h6⟩
    · omega
    injection h1 with h1 _ h1'
    subst h1'
    rw [← h1] at h4
    obtain ⟨rfl, rfl⟩ : b = b' ∧ o = o' := by
      injection h4 with h4; injection h4 with q1 q2; simp at q2; exact ⟨q1, q2⟩
    have hrw := hi.rows nm _ hn
    rw [hβ] at hrw
    have hrow : eZ rt w (bM cx st.heap β w) b o xs := hrw.1 NM.no
    obtain ⟨cur2, e', g1, g2, g3⟩ := id hrow
    rw [g1] at h5; injection h5 with h5; injection h5 with h5 _ _; subst h5
    have hargs := ha.holds (fun _ _ => rfl) hi hp
    have hnok : ¬ bM cx st.heap β w b := fun q => q.2.2 nm _ hn _ hβ rfl
    rw [List.map_cons, e2]
    subst hfull
    refine (h.calls w (bM cx st.heap β w) b o cap cur2 e' _ (fun _ hb => hb.2.1) hnok g1 h2 h3 (by rw [Nat.zero_add] at h6; exact h6) hrow hargs).mono ?_
    rintro e0 w' ⟨v, rfl, hb, ⟨ys, cur3, e3, q0, q1, q2, q3⟩, hu⟩
    have hb : BelowX (fun q => q = b) w.heap.size w w' := hb
    have hi' := hi.turnRow hR hn hβ ⟨h2, h3⟩ hk hb q1 q2 q3
    refine hK _ _ (hnext ys q0 _ _ ⟨β, hi'.put (by simpa using hd) (SV.plain_keep hr (fun q hq => ⟨⟨?_, hq.1.2, ?_⟩, rfl⟩) hu)⟩)
    · rcases hq.1.1 with z | z | z
      · exact z.1
      · exact .inr (.inl (Nat.le_trans hi.below.size z))
      exact absurd z hq.2
    intro q' hq' hh y hy e1
    rw [aW] at hh
    split at hh
    · rename_i e2; subst e2
      rw [hβ] at hy; injection hy with hy; subst hy
      exact hq.2 e1.symm
    rcases hq.1.1 with z | z | z
    · exact z.2.2 q' hq' hh y hy e1
    · have := (hi.own q' hq' hh y hy).2
      have z : w.heap.size ≤ q := z
      omega
    exact hq.2 z
end
end Go.Eng
namespace Go.Eng
section
variable {P : Program} {cx : Cx} {st st' : St} {β : Loc} {a : Act} {w w' : World} {ops : Array Oper} {k : Kn} {c : Code}
variable {dst : Option Tmp} {ty : TypeId} {pos : String} {aft : Array Edge} {gd : Option (Nat × Bool)}
variable {α γ δ : Type}
theorem InvB.turnS (hb : InvB cx st β a w) {i : Nat} {s s' : SV} (hs : a8 st.slots i = some s) (h : ∀ v, s.holds β w (bM cx st.heap β w) v → s'.holds β w (bM cx st.heap β w) v) : InvB cx ⟨(i, s') :: st.slots, st.heap⟩ β a w := by
  refine ⟨hb.below, hb.old, hb.defers, hb.size, hb.own, hb.sep, hb.rows, fun q t hq => ?_⟩
  rw [aT] at hq
  split at hq
  · rename_i e; subst e; injection hq with hq; subst hq
    obtain ⟨v, h1, h2⟩ := hb.slots i _ hs
    exact ⟨v, h1, h v h2⟩
  exact hb.slots q t hq
theorem As {c0 nm : Nat} {s : SV} (rt : RT α) [NM rt] (hs : a8 st.slots c0 = some s) (hf : di nm st.slots = true) (hno : az st.heap nm = none) (hi : Inv cx st a w) :
    Inv cx ⟨(c0, .lnk s (.slice none 0 0) (.own nm rt.n 0 0)) :: st.slots, (nm, ⟨rt, ([] : List α)⟩) :: st.heap⟩ a w := by
  obtain ⟨β, hb⟩ := hi
  have hk : ∀ k h, az ((nm, HB.mk rt ([] : List α)) :: st.heap) k = some h → (k = nm ∧ h = ⟨rt, []⟩) ∨ (k ≠ nm ∧ az st.heap k = some h) := fun k h hh => by
    rw [aW] at hh
    split at hh
    · rename_i e; injection hh with hh; exact .inl ⟨e.symm, hh.symm⟩
    rename_i e; exact .inr ⟨fun e2 => e e2.symm, hh⟩
  let β' : Loc := fun k => if k = nm then none else β k
  have hβ : ∀ k, k ≠ nm → β' k = β k := fun k hk => by simp [β', hk]
  have hβn : β' nm = none := by simp [β']
  have hok : ∀ b, bM cx st.heap β w b → bM cx ((nm, HB.mk rt ([] : List α)) :: st.heap) β' w b ∧ w.heap[b]? = w.heap[b]? := fun b ⟨h1, h2, h3⟩ => ⟨⟨h1, h2, fun k h hh x hx => by
    rcases hk k h hh with ⟨rfl, _⟩ | ⟨hne, hh⟩
    · rw [hβn] at hx; cases hx
    rw [hβ k hne] at hx; exact h3 k h hh x hx⟩, rfl⟩
  have hfree : ∀ (t : SV) (v : Value), t.free nm = true → t.holds β w (bM cx st.heap β w) v → t.holds β' w (bM cx ((nm, HB.mk rt ([] : List α)) :: st.heap) β' w) v := fun t v ht hv =>
    SV.keep hok (fun k hkf => ⟨hβ k (fun e => by subst e; rw [ht] at hkf; cases hkf), fun b o _ cur e fr hc => ⟨cur, e, fr, hc, rfl⟩⟩) hv
  refine ⟨β', hb.below, hb.old, hb.defers, hb.size, fun k h hh x hx => ?_, fun k k' h h' hh hh' x y hx hy he => ?_, fun k h hh => ?_, fun q t hq => ?_⟩
  · rcases hk k h hh with ⟨rfl, _⟩ | ⟨hne, hh⟩
    · rw [hβn] at hx; cases hx
    rw [hβ k hne] at hx; exact hb.own k h hh x hx
  · rcases hk k h hh with ⟨rfl, _⟩ | ⟨hne, hh⟩
    · rw [hβn] at hx; cases hx
    rcases hk k' h' hh' with ⟨rfl, _⟩ | ⟨hne', hh'⟩
    · rw [hβn] at hy; cases hy
    rw [hβ k hne] at hx; rw [hβ k' hne'] at hy; exact hb.sep k k' h h' hh hh' x y hx hy he
  · rcases hk k h hh with ⟨rfl, rfl⟩ | ⟨hne, hh⟩
    · rw [hβn]; rfl
    rw [hβ k hne]; exact HB.keep hok (fun x hx => rfl) (hb.rows k h hh)
  rw [aT] at hq
  split at hq
  · rename_i e; subst e; injection hq with hq; subst hq
    obtain ⟨v, h1, h2⟩ := hb.slots c0 _ hs
    refine ⟨v, h1, hfree s v (ep hf hs) h2, ?_⟩
    simp only [SV.holds, hdr, hβn]
    exact ⟨trivial, trivial⟩
  obtain ⟨v, h1, h2⟩ := hb.slots q t hq
  exact ⟨v, h1, hfree t v (ep hf hq) h2⟩
theorem u5 (c0 nm : Nat) {s : SV} (rt : RT α) [NM rt] (hs : a8 st.slots c0 = some s) (hf : di nm st.slots = true) (hno : az st.heap nm = none)
    (h : J P cx ⟨(c0, .lnk s (.slice none 0 0) (.own nm rt.n 0 0)) :: st.slots, (nm, ⟨rt, ([] : List α)⟩) :: st.heap⟩ c k) : J P cx st c k := fun a w hi => h a w (As rt hs hf hno hi)
theorem xh {c0 j : Nat} {s t : SV} {u : Value} (hc : a8 st.slots c0 = some (.lnk s u t)) (hj : a8 st.slots j = some (.raw u)) (hne : Nat.beq j c0 = false) (hi : Inv cx st a w) : Inv cx ⟨(c0, s) :: (j, t) :: st.slots, st.heap⟩ a w := by
  obtain ⟨β, hb⟩ := hi
  obtain ⟨_, _, _, ht⟩ := hb.slots c0 _ hc
  have h1 := hb.turnS (s' := t) hj fun v hv => by have hv : v = u := hv; subst hv; exact ht
  have hc' : a8 ((j, t) :: st.slots) c0 = some (.lnk s u t) := by rw [show a8 ((j, t) :: st.slots) c0 = bif Nat.beq j c0 then some t else a8 st.slots c0 from rfl, hne]; exact hc
  exact ⟨β, h1.turnS (s' := s) hc' fun v hv => hv.1⟩
theorem ls (c0 j : Nat) {s t : SV} {u : Value} {l : List Oper} (hc : a8 st.slots c0 = some (.lnk s u t)) (hj : a8 st.slots j = some (.raw u)) (hne : Nat.beq j c0 = false) (h : JG P cx ops ⟨(c0, s) :: (j, t) :: st.slots, st.heap⟩ l k) : JG P cx ops st l k := fun a w hi => h a w (xh hc hj hne hi)
theorem xm {c0 j : Nat} {s : SV} {nm sz off n : Nat} (hc : a8 st.slots c0 = some s) (hj : a8 st.slots j = some (.own nm sz off n)) (hi : Inv cx st a w) :
    ∃ A cap, Inv cx ⟨(c0, .lnk s (.slice A n cap) (.own nm sz off n)) :: (j, .raw (.slice A n cap)) :: st.slots, st.heap⟩ a w := by
  obtain ⟨β, hb⟩ := hi
  obtain ⟨v, h1, h2⟩ := hb.slots j _ hj
  obtain ⟨A, cap, rfl⟩ := j6 h2
  obtain ⟨v0, h3, h4⟩ := hb.slots c0 _ hc
  refine ⟨A, cap, β, hb.below, hb.old, hb.defers, hb.size, hb.own, hb.sep, hb.rows, fun q t hq => ?_⟩
  rw [aT] at hq
  split at hq
  · rename_i e; subst e; injection hq with hq; subst hq
    exact ⟨v0, h3, h4, h2⟩
  rw [aT] at hq
  split at hq
  · rename_i e; subst e; injection hq with hq; subst hq
    exact ⟨_, h1, rfl⟩
  exact hb.slots q t hq
theorem ij (c0 j : Nat) {s : SV} {nm sz off n : Nat} {l : List Oper} (hc : a8 st.slots c0 = some s) (hj : a8 st.slots j = some (.own nm sz off n))
    (h : ∀ A cap, JG P cx ops ⟨(c0, .lnk s (.slice A n cap) (.own nm sz off n)) :: (j, .raw (.slice A n cap)) :: st.slots, st.heap⟩ l k) : JG P cx ops st l k := fun a w hi => by
  obtain ⟨A, cap, h1⟩ := xm hc hj hi
  exact h A cap a w h1
theorem xj {nm c0 off n : Nat} {rt : RT α} [NM rt] {xs : List α} {s : SV} {u : Value} {hp : List (Nat × HB)} (hs : a8 st.slots c0 = some (.lnk s u (.own nm rt.n off n))) (hn : az st.heap nm = some ⟨rt, xs⟩) (hle : off + n ≤ xs.length) (hsub : ∀ j s, az hp j = some s → az st.heap j = some s) (hno : az hp nm = none) (hi : Inv cx st a w) :
    Inv cx ⟨(c0, .lnk s u (.tv (ab rt) ((xs.drop off).take n))) :: st.slots, hp⟩ a w := by
  obtain ⟨β, hb⟩ := hi
  have hok : ∀ b, bM cx st.heap β w b → bM cx hp β w b := fun b ⟨h1, h2, h3⟩ => ⟨h1, h2, fun k h hk => h3 k h (hsub _ _ hk)⟩
  have hb' : InvB cx ⟨st.slots, hp⟩ β a w := hb.toHeap hsub
  obtain ⟨v, h1, h2, h3⟩ := hb.slots c0 _ hs
  obtain ⟨v', h1', h2', _⟩ := hb'.slots c0 _ hs
  refine ⟨β, hb'.below, hb'.old, hb'.defers, hb'.size, hb'.own, hb'.sep, hb'.rows, fun j s hj => ?_⟩
  simp only [aT] at hj
  split at hj
  · rename_i e1
    subst e1
    injection hj with hj; subst hj
    refine ⟨v', h1', h2', eJ hb hn h3 hle hok (fun b o hbo => ?_)⟩
    have := hb.own nm _ hn _ hbo
    exact ⟨.inr this.1, this.2, fun k h hk x hx e1 => by
      have : k = nm := hb.sep k nm _ _ (hsub _ _ hk) hn x (b, o) hx hbo e1
      subst this
      rw [hno] at hk; cases hk⟩
  exact hb'.slots j s hj
theorem nr (nm c0 : Nat) {off n : Nat} {rt : RT α} [NM rt] {xs : List α} {s : SV} {u : Value} (hp : List (Nat × HB)) (hs : a8 st.slots c0 = some (.lnk s u (.own nm rt.n off n))) (hn : az st.heap nm = some ⟨rt, xs⟩) (hle : off + n ≤ xs.length) (hsub : ∀ j s, az hp j = some s → az st.heap j = some s) (hno : az hp nm = none)
    (h : J P cx ⟨(c0, .lnk s u (.tv (ab rt) ((xs.drop off).take n))) :: st.slots, hp⟩ c k) : J P cx st c k := fun a w hi => h a w (xj hs hn hle hsub hno hi)
theorem xq {c0 nb : Nat} {s : SV} {u : Value} {rt : RT α} {ys : List α} {r1 : RT γ} [NM r1] {d1 : γ} {r2 : RT δ} [NM r2] {d2 : δ} (hc : oS rt ys u r1 d1 r2 d2) (hnn : r1.n = r2.n) (hs : a8 st.slots c0 = some (.lnk s u (.tv (ab rt) ys))) (hn : az st.heap nb = some ⟨r1, [d1]⟩) (hi : Inv cx st a w) :
    Inv cx ⟨(c0, s) :: st.slots, (nb, ⟨r2, [d2]⟩) :: st.heap⟩ a w := by
  obtain ⟨β, hb⟩ := hi
  obtain ⟨v0, h0, h1, h2⟩ := hb.slots c0 _ hs
  have hk : ∀ k h, az ((nb, HB.mk r2 [d2]) :: st.heap) k = some h → (k = nb ∧ h = ⟨r2, [d2]⟩) ∨ (k ≠ nb ∧ az st.heap k = some h) := fun k h hh => by
    rw [aW] at hh
    split at hh
    · rename_i e; injection hh with hh; exact .inl ⟨e.symm, hh.symm⟩
    rename_i e; exact .inr ⟨fun e2 => e e2.symm, hh⟩
  have hk' : ∀ k h, az ((nb, HB.mk r2 [d2]) :: st.heap) k = some h → ∃ h', az st.heap k = some h' := fun k h hh => by
    rcases hk k h hh with ⟨rfl, _⟩ | ⟨_, hh⟩
    · exact ⟨_, hn⟩
    exact ⟨_, hh⟩
  have hok : ∀ b, bM cx st.heap β w b → bM cx ((nb, HB.mk r2 [d2]) :: st.heap) β w b ∧ w.heap[b]? = w.heap[b]? := fun b ⟨g1, g2, g3⟩ => ⟨⟨g1, g2, fun k h hh x hx => by
    obtain ⟨h', hh'⟩ := hk' k h hh
    exact g3 k h' hh' x hx⟩, rfl⟩
  have hkeep : ∀ (t : SV) (v : Value), t.holds β w (bM cx st.heap β w) v → t.holds β w (bM cx ((nb, HB.mk r2 [d2]) :: st.heap) β w) v := fun t v hv =>
    SV.keep hok (fun k _ => ⟨rfl, fun b o _ cur e fr hc => ⟨cur, e, fr, hc, rfl⟩⟩) hv
  refine ⟨β, hb.below, hb.old, hb.defers, hb.size, fun k h hh x hx => ?_, fun k k' h h' hh hh' x y hx hy he => ?_, fun k h hh => ?_, fun q t hq => ?_⟩
  · obtain ⟨h', hh'⟩ := hk' k h hh
    exact hb.own k h' hh' x hx
  · obtain ⟨g, hg⟩ := hk' k h hh
    obtain ⟨g', hg'⟩ := hk' k' h' hh'
    exact hb.sep k k' g g' hg hg' x y hx hy he
  · rcases hk k h hh with ⟨rfl, rfl⟩ | ⟨hne, hh⟩
    · have hr := hb.rows k _ hn
      cases hβ : β k with
      | none => rw [hβ] at hr; cases hr
      | some bo =>
        obtain ⟨b, o⟩ := bo
        rw [hβ] at hr
        refine ⟨fun _ => ?_, fun hm => by rw [show r2.mp = false from NM.no] at hm; cases hm⟩
        obtain ⟨cur, e, g1, g2, g3⟩ := hr.1 NM.no
        refine ⟨cur, e, g1, by simpa [← hnn] using g2, fun i x hx => ?_⟩
        cases i with
        | succ i => simp at hx
        | zero =>
          simp at hx; subst hx
          obtain ⟨cs, g4, g5⟩ := g3 0 d1 rfl
          exact ⟨cs, hc.2 _ _ _ ((ab rt).val_keep hok h2) (r1.keep hok g4), by simpa [← hnn] using g5⟩
    exact HB.keep hok (fun x hx => rfl) (hb.rows k h hh)
  rw [aT] at hq
  split at hq
  · rename_i e; subst e; injection hq with hq; subst hq
    exact ⟨v0, h0, hkeep _ _ h1⟩
  obtain ⟨v, g1, g2⟩ := hb.slots q t hq
  exact ⟨v, g1, hkeep _ _ g2⟩
theorem ns (c0 nb : Nat) {s : SV} {u : Value} {rt : RT α} {ys : List α} {r1 : RT γ} [NM r1] {d1 : γ} (r2 : RT δ) [NM r2] (d2 : δ) (hc : oS rt ys u r1 d1 r2 d2) (hnn : r1.n = r2.n) (hs : a8 st.slots c0 = some (.lnk s u (.tv (ab rt) ys))) (hn : az st.heap nb = some ⟨r1, [d1]⟩)
    (h : J P cx ⟨(c0, s) :: st.slots, (nb, ⟨r2, [d2]⟩) :: st.heap⟩ c k) : J P cx st c k := fun a w hi => h a w (xq hc hnn hs hn hi)
theorem rB {rt : RT α} {ys : List α} {v : Value} {ε : Type} {r0 : RT ε} {r1 : RT γ} {d1 : γ} {r2 : RT δ} {d2 : δ} (x : ε) (h : oS rt ys v r1 d1 r2 d2) : oS rt ys v (bO r1 r0) (d1, x) (bO r2 r0) (d2, x) :=
  ⟨rfl, fun w ok _ hv ⟨c1, c2, e, g1, g2⟩ => ⟨c1, c2, e, h.2 w ok c1 hv g1, g2⟩⟩
def JT (P : Program) (cx : Cx) (l : List Oper) (i : Nat) (st : St) (k : Kn) : Prop := ∀ a w, Inv cx st a w → wpAny P .any l.toArray (k.post P) (l.length - i) (mkL l.toArray.size i) a w
theorem z6 {l : List Oper} {i : Nat} (hi' : i = l.length) (hn : JN P cx st k) : JT P cx l i st k := by
  subst hi'
  intro a w hi
  rw [Nat.sub_self]
  refine ⟨?_, hn a w hi⟩
  cases hr : Region.ready .any l.toArray (mkL l.toArray.size l.length) with
  | nil => rfl
  | cons i r =>
    exfalso
    have hmem : i ∈ Region.ready .any l.toArray (mkL l.toArray.size l.length) := by rw [hr]; simp
    obtain ⟨hun, oi, hoi, _⟩ := mem_ready.1 hmem
    have := (Array.getElem?_eq_some_iff.1 hoi).1
    rw [cD true this] at hun
    simp at hun
    simp at this
    omega
theorem wg {l : List Oper} {i : Nat} {om : Oper} (hom : l[i]? = some om) (hg : om.guard = none) (hrd : Region.ready .any l.toArray (mkL l.toArray.size i) = [i])
    (h : ∀ a w, Inv cx st a w → ∀ Q, om.wp P a w (fun a' w' => Inv cx st' a' w') Q) (hn : JT P cx l (i + 1) st' k) : JT P cx l i st k := by
  intro a w hi
  have hil : i < l.length := (List.getElem?_eq_some_iff.1 hom).1
  have homs : l.toArray[i]? = some om := by simpa using hom
  rw [show l.length - i = l.length - (i + 1) + 1 by omega]
  refine ⟨fun hnil => (by rw [hrd] at hnil; cases hnil), fun j hr => ?_⟩
  rw [hrd] at hr
  obtain rfl : j = i := by simpa using hr
  have hset : (mkL l.toArray.size j).setIfInBounds j true = mkL l.toArray.size (j + 1) := by
    refine jQ (by simp [mkL]) fun q hq => ?_
    by_cases e : j = q
    · subst e
      simp [mkL, hil]
    rw [getD_set_ne false e, cD false hq]
    simp; omega
  rw [hset]
  unfold wpOp
  simp only [homs]
  rw [if_pos (by simp [Region.wanted, hg])]
  exact .inl (Oper.wp_mono hn (h a w hi _))
theorem C8 {l : List Oper} {i : Nat} {om : Oper} (st1 : St) (hom : l[i]? = some om) (hg : om.guard = none) (hrd : Region.ready .any l.toArray (mkL l.toArray.size i) = [i]) (h : OS P cx om st st1) (hn : JT P cx l (i + 1) st1 k) : JT P cx l i st k :=
  wg hom hg hrd (fun a w hi Q => h a w hi Q) hn
theorem u4 {l : List Oper} {i : Nat} {om : Oper} (s : SV) (d : Nat) (hom : l[i]? = some om) (hg : om.guard = none) (hd : om.dst = some d) (hdn : Nat.blt d cx.n = true) (hrd : Region.ready .any l.toArray (mkL l.toArray.size i) = [i]) (h : Adr P cx st om s) (hn : JT P cx l (i + 1) (st.put d s) k) : JT P cx l i st k :=
  wg hom hg hrd (fun a w hi Q => h st (.refl om st) d hd (by simpa using hdn) a w hi Q) hn
theorem tP {id : Nat} {l : List Oper} {cs1 : List (Nat × SV)} (m : Nat) (hm : P.follows .mixedOrders = true) (hB : qt l.toArray = true) (hbar : CP l.toArray m = true) (hml : m < l.length)
    (has1 : AS P cx l.toArray st (l.take m) cs1) (ht : JT P cx l m (eD st cs1 (fun _ => true)) k) : J P cx st (.region id l.toArray true) k := by
  have dk := kj hB
  unfold CP at hbar
  rw [Bool.and_eq_true, List.all_eq_true, List.all_eq_true] at hbar
  obtain ⟨hb1, hb2⟩ := hbar
  intro a w hi
  refine wp_region_any hm ?_
  obtain ⟨β, hb⟩ := hi
  have hi0 : Inv cx st a w.drew := ⟨β, hb.later (Below.drew' w)⟩
  have hst0 : Inv cx (eD st cs1 (fun i => (Array.replicate l.toArray.size false).getD (0 + i) false)) a w.drew := by
    refine Sub.inv ⟨fun i s hs => ?_, fun i s hs => ?_⟩ hi0
    · rw [cu, fc (fun j c _ _ => getD_replicate_false _ _)] at hs; simpa using hs
    rw [cM] at hs; exact hs
  have hL : Lst l.toArray 0 m (Array.replicate l.toArray.size false) :=
    ⟨by simp, fun i h => by omega, fun i h1 h2 => by simp only [List.size_toArray] at h2; simp [h2], fun j oj hj hl => by rw [getD_replicate_false] at hl; cases hl⟩
  have hu : unl (Array.replicate l.toArray.size false) = m + (l.toArray.size - m) := by rw [mD]; simp; omega
  -- behind m nothing runs ahead of m
  have hbehind : ∀ (hi' : Nat) (listed : Array Bool), hi' ≤ m → Lst l.toArray 0 hi' listed → ∀ i ∈ Region.ready .any l.toArray listed, m < i → False := by
    intro hi' listed hh hL i hr hgt
    obtain ⟨_, oi, hoi, hdeps⟩ := mem_ready.1 hr
    have his := (Array.getElem?_eq_some_iff.1 hoi).1
    have := hb2 i (List.mem_range.2 his)
    simp only [hoi, Bool.or_eq_true, decide_eq_true_eq] at this
    rcases this with h | h
    · omega
    obtain ⟨e, he, hbe⟩ := Array.any_eq_true'.1 h
    simp only [Bool.and_eq_true, decide_eq_true_eq] at hbe
    have hlt := dk.back i oi hoi e he hbe.1
    have h1 := hdeps e he hbe.1
    have h2 := hL.high e.on (by omega) (by omega)
    rw [dC (by rw [hL.size]; omega), h1] at h2
    cases h2
  have hmid : ∀ a w, Inv cx (eD st cs1 (fun _ => true)) a w → wpAny P .any l.toArray (k.post P) (l.length - (m + 1) + 1) (mkL l.toArray.size m) a w := by
    intro a w hi
    have := ht a w hi
    rwa [show l.length - m = l.length - (m + 1) + 1 by omega] at this
  have := nR (P := P) (Q := k.post P) (g := l.length - (m + 1) + 1) dk (lo := 0) (hi := m) (Nat.zero_le _) (by simp; omega) (by simp; omega) (fun i hi => by
      simp only [List.length_take] at hi
      rw [List.getElem?_take_of_lt (by omega)]; simp) has1
    (fun listed hL i hr hge => by
      have him : i = m := by
        rcases Nat.lt_or_ge m i with h | h
        · exact absurd h (fun h => hbehind m _ (Nat.le_refl _) hL i hr h)
        omega
      subst him
      obtain ⟨_, oi, hoi, hdeps⟩ := mem_ready.1 hr
      have hall : ∀ d j, i - j = d → j < i → listed.getD j false = true := by
        intro d
        induction d using Nat.strongRecOn with
        | _ d ihd =>
          intro j hd hj
          have h1 := hb1 j (List.mem_range.2 hj)
          obtain ⟨j', hj', hj2⟩ := List.any_eq_true.1 h1
          simp only [Bool.and_eq_true, decide_eq_true_eq] at hj2
          obtain ⟨oj, hoj, e, he, hbe, hon⟩ := Region.waitsFor_spec hj2.2
          have hle : j' ≤ i := by have := List.mem_range.1 hj'; omega
          by_cases hji : j' = i
          · subst hji
            rw [hoj] at hoi
            injection hoi with hoi
            subst hoi
            rw [← hon]; exact hdeps e he hbe
          have := ihd (i - j') (by omega) j' rfl (by omega)
          rw [← hon]; exact hL.closed j' oj hoj this e he hbe
      have he : listed = mkL l.toArray.size i := jQ hL.size fun j hj => by
        by_cases e : j < i
        · simp [e, hall (i - j) j rfl e]
        have hh := hL.high j (by omega) hj
        rw [dC (by rw [hL.size]; exact hj)] at hh
        simp [e, hh]
      have hcnt : ∀ n mm : Nat, unl (mkL n mm) = n - mm := by
        intro n mm
        unfold unl mkL
        rw [Array.toList_map, Array.toList_range, List.countP_map]
        induction n with
        | zero => simp
        | succ n ih =>
          rw [List.range_succ, List.countP_append, ih]
          simp only [List.countP_cons, List.countP_nil, Function.comp]
          by_cases e : n < mm
          · simp [e]; omega
          simp [e]; omega
      rw [he, hcnt])
    hmid m _ hL hu a w.drew hst0
  have e2 : l.toArray.size = m + (l.length - (m + 1) + 1) := by simp; omega
  rw [e2]
  rw [e2] at this
  exact this
end
end Go.Eng
namespace Go.Eng
section
variable {P : Program} {cx : Cx} {st st' : St} {β : Loc} {a : Act} {w w' : World} {ops : Array Oper} {k : Kn} {c : Code}
variable {dst : Option Tmp} {ty : TypeId} {pos : String} {aft : Array Edge} {gd : Option (Nat × Bool)}
variable {α : Type} {rt : RT α} [NM rt]
abbrev oM (bo : Option (Nat × Nat)) (q : Nat) : Prop := ∀ x, bo = some x → x.1 ≠ q
def wR (rt : RT α) (w : World) (ok : Ok) (pb po : Nat) (A : Option Addr) (n cap : Nat) (bo : Option (Nat × Nat)) (xs : List α) : Prop :=
  eZ rHd w ok pb po [(A, n, cap)] ∧ HB.holds w ok ⟨rt, xs⟩ bo ∧ hdr (fun _ => bo) w 101 rt.n 0 n (.slice A n cap)
abbrev cU (pb po : Nat) : Value := .pointer (some ⟨pb, po, none⟩)
def CU (cx : Cx) (pb po : Nat) (rt : RT α) (Q : List α → Prop) (r : SV) : Ending → World → Prop := fun e w' =>
  ∃ v, e = .returned v ∧ BelowX cx.ex cx.w0.heap.size cx.w0 w' ∧ ∃ ys A n cap bo, Q ys ∧ n = ys.length ∧ (∀ x, bo = some x → cx.new x.1 ∧ x.1 < w'.heap.size ∧ x.1 ≠ pb) ∧
    wR rt w' (fun q => okR cx w' q ∧ q ≠ pb ∧ oM bo q) pb po A n cap bo ys ∧ r.holds i6 w' (fun q => okR cx w' q ∧ q ≠ pb ∧ oM bo q) v
inductive KeepP (R : List Nat) (l : List (Nat × SV)) : List Nat → List (Nat × SV) → Prop
  | nil : KeepP R l [] []
  | free {j : Nat} {ks : List Nat} {t : SV} {r : List (Nat × SV)} (h : a8 l j = some t) (hf : t.within R = true) (hr : KeepP R l ks r) : KeepP R l (j :: ks) ((j, t) :: r)
theorem KeepP.look {R : List Nat} {l : List (Nat × SV)} {ks : List Nat} {r : List (Nat × SV)} (h : KeepP R l ks r) : ∀ i s, a8 r i = some s → a8 l i = some s ∧ s.within R = true := by
  induction h with
  | nil => intro i s hs; simp [a8] at hs
  | free h hf _ ih =>
    intro i s hs; rw [aT] at hs; split at hs
    · rename_i e; subst e; injection hs with hs; subst hs; exact ⟨h, hf⟩
    exact ih i s hs
def boxS (nb : Nat) (s : SV) : Prop := s = .optr nb 1 0 0 ∨ ∃ p, s = .both (.optr nb 1 0 0) p
theorem boxS.holds {nb : Nat} {s : SV} (h : boxS nb s) {ok ok' : Ok} {β' : Loc} (e : β' nb = β nb) {v : Value} (hv : s.holds β w ok v) : s.holds β' w' ok' v := by
  rcases h with rfl | ⟨p, rfl⟩
  · obtain ⟨b, o, h1, h2⟩ := hv
    exact ⟨b, o, e.trans h1, h2⟩
  obtain ⟨⟨b, o, h1, h2⟩, h3⟩ := hv
  exact ⟨⟨b, o, e.trans h1, h2⟩, h3⟩
theorem boxS.at {nb : Nat} {s : SV} (h : boxS nb s) {ok : Ok} {v : Value} (hv : s.holds β w ok v) : ∃ b o, β nb = some (b, o) ∧ v = cU b o := by
  rcases h with rfl | ⟨p, rfl⟩
  · obtain ⟨b, o, h1, h2⟩ := hv
    exact ⟨b, o, h1, by simpa using h2⟩
  obtain ⟨⟨b, o, h1, h2⟩, h3⟩ := hv
  exact ⟨b, o, h1, by simpa using h2⟩
end
end Go.Eng
