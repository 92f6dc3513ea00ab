import Derived.Test.YtehcaebnijlhgaaGreatDoorM3
import Derived.Test.YtehcaebnijlhgaaGreatDoorM5
set_option linter.unusedVariables false
set_option linter.unusedSimpArgs false
namespace Go.Proofs.YtehcaebnijlhgaaGreatDoor
open Go.Eng Tryz
set_option maxRecDepth 100000
set_option maxHeartbeats 4000000
def svT (R : bE × Int) : SV := .tup2 (.tv aX R.1) (.raw (.int .i64 R.2))
def svB (R : bE × Bool) : SV := .tup2 (.tv aX R.1) (.raw (.bool R.2))
def wW (R : Int × Int) : SV := .tup2 (.raw (.int .i64 R.1)) (.raw (.int .i64 R.2))
theorem b9 {R : bE × Int} {a : bE} {b : Int} (h : (a, b) = R) : SV.tup2 (SV.of aX a) (.raw (.int .i64 b)) = svT R := by subst h; rfl
theorem dq {R : bE × Bool} {a : bE} {b : Bool} (h : (a, b) = R) : SV.tup2 (SV.of aX a) (.raw (.bool b)) = svB R := by subst h; rfl
theorem dv {R : Int × Int} {a b : Int} (h : (a, b) = R) : SV.tup2 (.raw (.int .i64 a)) (.raw (.int .i64 b)) = wW R := by subst h; rfl
def j2 (en : List bV) (k : Int) : Int := ((en[k.toNat]?.getD ([], [])).2.length : Int)
def aJ (t : bE) (en : List bV) : Int × Int :=
  if au t en = false then (0, -1) else if t.1 = 1 then (0, 1) else if t.1 = 2 then (-1000000000000, 1000000000000) else if t.1 = 3 then (-1000000000000000, 1000000000000000)
  else if t.1 = 4 then (-1000000000, 1000000000) else if t.1 = 5 then (0, 109572) else (0, j2 en t.2 - 1)
def dY (n k : Int) (s : a6) : bE × Int := if n < (aJ (k, 0) s.1).1 ∨ (aJ (k, 0) s.1).2 < n then ((0, 0), 3) else ((k, 0), 0)
def gx (n : Int) (s : a6) : bE × Int := if n < 0 then ((0, 0), 3) else if s.1.length ≤ n / 16 ∨ j2 s.1 (n / 16) ≤ n % 16 then ((0, 0), 6) else ((6, n / 16), 0)
def BZ (l : List bE) (n : Int) : bE := l[n.toNat]?.getD (0, 0)
def cW (n : Int) (l : List bE) (s : a6) : bE × Int := if n < 0 ∨ l.length ≤ n then ((0, 0), 6) else if au (BZ l n) s.1 = false then ((0, 0), 8) else (BZ l n, 0)
theorem rV {l : List bE} {n : Int} (h : n.toNat < l.length) : BZ l n = l[n.toNat] := by simp [BZ, h]
theorem vf : qP (ab cX) (fun en => en.length ≤ 9223372036854775807 ∧ ∀ x ∈ en, True ∧ (x.2.length ≤ 9223372036854775807 ∧ ∀ y ∈ x.2, True)) := kL (rq nO (kL nO))
theorem vt6 {t : bE} {en : List bV} (h : au t en = true) (h1 : ¬ t.1 = 1) (h2 : ¬ t.1 = 2) (h3 : ¬ t.1 = 3) (h4 : ¬ t.1 = 4) (h5 : ¬ t.1 = 5) : t.1 = 6 ∧ 0 ≤ t.2 ∧ t.2 < en.length := by
  unfold au at h
  rw [if_neg zo] at h
  split at h
  · rename_i h6; simp at h; exact ⟨h6, h⟩
  cases h
theorem iU (t : bE) (en : List bV) : Ct prog 75 [.tv aX t, .tv (ab cX) en] (wW (aJ t en)) := by
  refine ay func75 rfl rfl ntmps75 rfl rfl ?_
  intro w0 ok0
  refine Ah 1 vf rfl (fun hf => ?_)
  have hl0 := hf.1
  refine zR (zb (.tv (.b rfl)) (zA rfl (zY rfl (aa (ae (zR (zL aE rfl rfl rfl (Lens.id _) (zM rfl (zJ (an (db _ _) (.cons (.b rfl) (.cons (.b rfl) .nil)) rfl rfl) (zJ (b6 (.b rfl)) (zZ ?_)))))))))))
  refine af rfl (fun h1 => ?_) (fun h1 => ?_)
  · try simp at h1
    refine zR (zA rfl (zY rfl (aa (am (ai ?_)))))
    exact z2 results75 rfl rfl (dv (by subst_vars; first | rfl | (simp [aJ]; done) | (simp [aJ, *]; done) | (unfold aJ; (repeat' split) <;> first | rfl | omega | (simp_all; done) | (simp_all; omega) | (simp_all [aV]; done) | (simp_all [aV]; omega))))
  try simp at h1
  refine ah (aa (ae (zR (zF bR rfl (zL ty3 rfl rfl rfl bN (zZ (aq (zR (ze rfl rfl (zY rfl (aa ?_)))))))))))
  refine af rfl (fun h4 => ?_) (fun h4 => ?_)
  · try simp at h4
    refine zR (zA rfl (zY rfl (aa (am (av (ai ?_))))))
    exact z2 results75 rfl rfl (dv (by subst_vars; first | rfl | (simp [aJ]; done) | (simp [aJ, *]; done) | (unfold aJ; (repeat' split) <;> first | rfl | omega | (simp_all; done) | (simp_all; omega) | (simp_all [aV]; done) | (simp_all [aV]; omega))))
  try simp at h4
  refine zR (ze rfl rfl (zY rfl (aa ?_)))
  refine af rfl (fun h6 => ?_) (fun h6 => ?_)
  · try simp at h6
    refine zR (zA rfl (zY rfl (aa (am (av (ai ?_))))))
    exact z2 results75 rfl rfl (dv (by subst_vars; first | rfl | (simp [aJ]; done) | (simp [aJ, *]; done) | (unfold aJ; (repeat' split) <;> first | rfl | omega | (simp_all; done) | (simp_all; omega) | (simp_all [aV]; done) | (simp_all [aV]; omega))))
  try simp at h6
  refine zR (ze rfl rfl (zY rfl (aa ?_)))
  refine af rfl (fun h8 => ?_) (fun h8 => ?_)
  · try simp at h8
    refine zR (zA rfl (zY rfl (aa (am (av (ai ?_))))))
    exact z2 results75 rfl rfl (dv (by subst_vars; first | rfl | (simp [aJ]; done) | (simp [aJ, *]; done) | (unfold aJ; (repeat' split) <;> first | rfl | omega | (simp_all; done) | (simp_all; omega) | (simp_all [aV]; done) | (simp_all [aV]; omega))))
  try simp at h8
  refine zR (ze rfl rfl (zY rfl (aa ?_)))
  refine af rfl (fun h10 => ?_) (fun h10 => ?_)
  · try simp at h10
    refine zR (zA rfl (zY rfl (aa (am (av (ai ?_))))))
    exact z2 results75 rfl rfl (dv (by subst_vars; first | rfl | (simp [aJ]; done) | (simp [aJ, *]; done) | (unfold aJ; (repeat' split) <;> first | rfl | omega | (simp_all; done) | (simp_all; omega) | (simp_all [aV]; done) | (simp_all [aV]; omega))))
  try simp at h10
  refine zR (ze rfl rfl (zY rfl (aa ?_)))
  refine af rfl (fun h12 => ?_) (fun h12 => ?_)
  · try simp at h12
    refine zR (zA rfl (zY rfl (aa (am (av (ai ?_))))))
    exact z2 results75 rfl rfl (dv (by subst_vars; first | rfl | (simp [aJ]; done) | (simp [aJ, *]; done) | (unfold aJ; (repeat' split) <;> first | rfl | omega | (simp_all; done) | (simp_all; omega) | (simp_all [aV]; done) | (simp_all [aV]; omega))))
  try simp at h12
  refine ah (aG (aa (ae ?_)))
  obtain ⟨v6, v7, v8⟩ := vt6 h1 h4 h6 h8 h10 h12
  have hm := (hf.2 (en[t.2.toNat]'zo) (List.getElem_mem _)).2.1
  refine dN mo zk ( zS (ag (.b rfl)) ( zS (ao dV (.b rfl)) ( zS (aj ty3 (.b rfl) rfl rfl ez) ( zS (al jg gf (.b rfl) (.b rfl) (Int.toNat_of_nonneg v7).symm zg) ( zS (aO fh fF (.b rfl)) ( zS (aA k9 (.b rfl)) ( zS (cJ iD (.b rfl)) ( zS (da (.b rfl) (.b rfl) zw) ( zS (aU (.b rfl)) ( zS (aU (.b rfl)) ( AS.nil))))))))))) ?_
  refine aa (am ?_)
  exact z2 results75 rfl rfl (dv (by unfold aJ; rw [if_neg (by simp [h1]), if_neg h4, if_neg h6, if_neg h8, if_neg h10, if_neg h12]; unfold j2; rw [List.getElem?_eq_getElem zo]; rfl))
theorem fe (n k : Int) (s : a6) : Ct prog 154 [.raw (.int .i64 n), .raw (.int .i64 k), .tv bS s] (svT (dY n k s)) := by
  refine ay func154 rfl rfl ntmps154 rfl rfl ?_
  intro w0 ok0
  refine zR (zb (.tv (.b rfl)) (zl z90 (zY rfl (aa (zR (zM rfl (zJ (aI z90 rfl d4 (.cons (rt' := (ak .i64)) rfl bN (.raw (.b rfl) rfl) .nil)) (zl z90 (zC aE rfl rfl rfl (Lens.id _) (.tv (.b rfl)) (zZ (ae (zR (zL aE rfl rfl rfl (Lens.id _) (zF gZ rfl (zL hU rfl rfl rfl i9 (zJ (an (iU _ _) (.cons (.b rfl) (.cons (.b rfl) .nil)) rfl rfl) (zM rfl (zJ (bj (.b rfl)) (zJ (bi (.b rfl)) (zA rfl (zY rfl (aa (zR (zM rfl (zM rfl (zt rfl rfl (zM rfl (zG rfl rfl (fun hg => ag (.b rfl)) (zG rfl rfl (fun hg => ag (.b rfl)) (zG rfl rfl (fun hg => bY (.gd rfl hg) (.gd rfl hg)) (zJ (aB (.b rfl) (.b rfl) rfl zp) (aN ?_))))))))))))))))))))))))))))))))
  refine aa ?_
  refine af rfl (fun h3 => ?_) (fun h3 => ?_)
  · try simp at h3
    refine zR (zJ (aI z90 rfl d4 .nil) (zC aE rfl rfl rfl (Lens.id _) (.tv (.b rfl)) (zY rfl (aa (am (ai ?_))))))
    exact aK results154 (ax aE rfl rfl rfl (Lens.id aX)) (aw rfl) ⟨rfl, rfl⟩ (b9 (by subst_vars; first | rfl | (simp [dY]; done) | (simp [dY, *]; done) | (unfold dY; (repeat' split) <;> first | rfl | omega | (simp_all; done) | (simp_all; omega) | (simp_all [aV]; done) | (simp_all [aV]; omega))))
  try simp at h3
  refine ah (aa (zR (zL aE rfl rfl rfl (Lens.id _) (zC aE rfl rfl rfl (Lens.id _) (.tv (.b rfl)) (zY rfl (aa (am ?_)))))))
  exact aK results154 (ax aE rfl rfl rfl (Lens.id aX)) (aw rfl) ⟨rfl, rfl⟩ (b9 (by subst_vars; first | rfl | (simp [dY]; done) | (simp [dY, *]; done) | (unfold dY; (repeat' split) <;> first | rfl | omega | (simp_all; done) | (simp_all; omega) | (simp_all [aV]; done) | (simp_all [aV]; omega))))
theorem uh (n : Int) (s : a6) (hn : n ≤ 9223372036854775807) : Ct prog 155 [.raw (.int .i64 n), .tv bS s] (svT (gx n s)) := by
  refine ay func155 rfl rfl ntmps155 rfl rfl ?_
  intro w0 ok0
  refine zR (zb (.tv (.b rfl)) (zl z90 (zY rfl (aa (ae (zR (zM rfl (zt rfl rfl (zZ ?_)))))))))
  refine af rfl (fun h1 => ?_) (fun h1 => ?_)
  · try simp at h1
    refine zR (zJ (aI z90 rfl d4 .nil) (zC aE rfl rfl rfl (Lens.id _) (.tv (.b rfl)) (zY rfl (aa (am (ai ?_))))))
    exact aK results155 (ax aE rfl rfl rfl (Lens.id aX)) (aw rfl) ⟨rfl, rfl⟩ (b9 (by subst_vars; first | rfl | (simp [gx]; done) | (simp [gx, *]; done) | (unfold gx; (repeat' split) <;> first | rfl | omega | (simp_all; done) | (simp_all; omega) | (simp_all [aV]; done) | (simp_all [aV]; omega))))
  try simp at h1
  refine ah (aa (zR (zM rfl (zJ (rT (.b rfl) (.b rfl) zo (yP zo hn zo)) (zM rfl (zJ (pW (.b rfl) (.b rfl) zo (yO zo)) (zA rfl (zY rfl (aa (ae (ae ?_)))))))))))
  have hq0 : 0 ≤ n / 16 := zo
  refine ac (zM rfl (zF gZ rfl (zL hU rfl rfl rfl i9 (zN jg rfl (zJ (bW (.b rfl) (.b rfl)) (zM rfl (zG rfl rfl (fun hg => ag (.b rfl)) (zG rfl rfl (fun hg => ao gZ (.b rfl)) (zG rfl rfl (fun hg => aj hU (.gd rfl hg) rfl rfl i9) (zG rfl rfl (fun hg => ag (.b rfl)) (zG rfl rfl (fun hg => al jg gf (.gd rfl hg) (.gd rfl hg) (Int.toNat_of_nonneg hq0).symm (getD_some (z := (([], []) : bV)) (by first | omega | (simp; done) | (simp; omega) | (simp at hg; omega) | (simp at hg; simp; omega)))) (zG rfl rfl (fun hg => aO fh fF (.gd rfl hg)) (zG rfl rfl (fun hg => aA k9 (.gd rfl hg)) (zG rfl rfl (fun hg => cJ iD (.gd rfl hg)) (zG rfl rfl (fun hg => bW (.gd rfl hg) (.gd rfl hg)) (zJ (aB (.b rfl) (.b rfl) rfl zp) (zZ ?_)))))))))))))))))
  refine af rfl (fun h4 => ?_) (fun h4 => ?_)
  · try simp at h4
    refine zR (zJ (aI z90 rfl d4 .nil) (zC aE rfl rfl rfl (Lens.id _) (.tv (.b rfl)) (zY rfl (aa (am (ai ?_))))))
    exact aK results155 (ax aE rfl rfl rfl (Lens.id aX)) (aw rfl) ⟨rfl, rfl⟩ (b9 (by unfold gx j2; rw [if_neg zo, if_pos h4]))
  try simp at h4
  refine ah (aa (zR (zM rfl (zJ (aI z90 rfl d4 (.cons (rt' := (ak .i64)) rfl bN (.raw (.b rfl) rfl) (.cons (rt' := (ak .i64)) rfl ez (.raw (.b rfl) rfl) .nil))) (zC aE rfl rfl rfl (Lens.id _) (.tv (.b rfl)) (zY rfl (aa (am ?_))))))))
  exact aK results155 (ax aE rfl rfl rfl (Lens.id aX)) (aw rfl) ⟨rfl, rfl⟩ (b9 (by unfold gx j2; rw [if_neg zo, if_neg zo]))
theorem jO (n : Int) (l : List bE) (s : a6) : Ct prog 156 [.raw (.int .i64 n), .tv (ab aX) l, .tv bS s] (svT (cW n l s)) := by
  refine ay func156 rfl rfl ntmps156 rfl rfl ?_
  intro w0 ok0
  refine zR (zb (.tv (.b rfl)) (zl z90 (zY rfl (aa (ae (zR (zM rfl (zt rfl rfl (zM rfl (zG rfl rfl (fun hg => ag (.b rfl)) (zG rfl rfl (fun hg => ag (.b rfl)) (zG rfl rfl (fun hg => cJ cK (.gd rfl hg)) (zG rfl rfl (fun hg => bW (.gd rfl hg) (.gd rfl hg)) (zJ (aB (.b rfl) (.b rfl) rfl zp) (zZ ?_)))))))))))))))
  refine af rfl (fun h1 => ?_) (fun h1 => ?_)
  · try simp at h1
    refine zR (zJ (aI z90 rfl d4 .nil) (zC aE rfl rfl rfl (Lens.id _) (.tv (.b rfl)) (zY rfl (aa (am (ai ?_))))))
    exact aK results156 (ax aE rfl rfl rfl (Lens.id aX)) (aw rfl) ⟨rfl, rfl⟩ (b9 (by subst_vars; first | rfl | (simp [cW]; done) | (simp [cW, *]; done) | (unfold cW; (repeat' split) <;> first | rfl | omega | (simp_all; done) | (simp_all; omega) | (simp_all [aV]; done) | (simp_all [aV]; omega))))
  try simp at h1
  refine ah (aa (ae (ae ?_)))
  have hb := h1.2
  refine dN mo zk ( zS (ag (.b rfl)) ( zS (ag (.b rfl)) ( zS (al cK aE (.b rfl) (.b rfl) (Int.toNat_of_nonneg h1.1).symm zg) ( zS (aA aE (.b rfl)) ( zS (ao gZ (.b rfl)) ( zS (aj hU (.b rfl) rfl rfl i9) ( zS (an (db _ _) (.cons (.b rfl) (.cons (.b rfl) .nil)) rfl rfl) ( zS (b6 (.b rfl)) ( AS.nil))))))))) ?_
  refine aa ?_
  refine af rfl (fun h3 => ?_) (fun h3 => ?_)
  · try simp at h3
    refine zR (zJ (aI z90 rfl d4 .nil) (zC aE rfl rfl rfl (Lens.id _) (.tv (.b rfl)) (zY rfl (aa (am (ai ?_))))))
    exact aK results156 (ax aE rfl rfl rfl (Lens.id aX)) (aw rfl) ⟨rfl, rfl⟩ (b9 (by unfold cW; rw [if_neg zo, rV zo, if_pos h3]))
  try simp at h3
  refine ah (aa (zR (zM rfl (zM rfl ?_))))
  refine bc _ rfl _ rfl rfl (al cK aE (.b rfl) (.b rfl) (Int.toNat_of_nonneg h1.1).symm zg) ?_
  refine zD aE rfl (zC aE rfl rfl rfl (Lens.id _) (.tv (.b rfl)) (zY rfl (aa (am ?_))))
  exact aK results156 (ax aE rfl rfl rfl (Lens.id aX)) (aw rfl) ⟨rfl, rfl⟩ (b9 (by unfold cW; rw [if_neg zo, rV zo, if_neg (by simp [h3])]))
def aV (op k : Int) : Bool := if op = 36 then k == 2 || k == 3 else if op = 37 ∨ op = 38 then k == 1 else if op = 39 then dH k || k == 5 else false
def bA (d : aP) (s : a6) : bE × Int :=
  if s.2.2.2.2.2 = false then ((0, 0), 6) else if d.1 = 35 then ((2, 0), 0) else
  if (cW d.2 s.2.2.2.2.1 s).2 ≠ 0 then ((0, 0), (cW d.2 s.2.2.2.2.1 s).2) else
  if aV d.1 (cW d.2 s.2.2.2.2.1 s).1.1 = true then ((cW d.2 s.2.2.2.2.1 s).1, 0) else ((0, 0), 8)
def cO (op a b : Int) : bE × Bool :=
  if op = 14 then ((a, 0), b == 4 && (a == 3 || a == 4)) else if b = 2 then ((a, 0), a == 2 || a == 3) else if op = 15 ∧ a = 3 ∧ b = 3 then ((4, 0), true) else ((0, 0), false)
theorem i4 (n a b : Int) : Ct prog 209 [.raw (.int .i64 n), .raw (.int .i64 a), .raw (.int .i64 b)] (svB (cO n a b)) := by
  refine ay func209 rfl rfl ntmps209 rfl rfl ?_
  intro w0 ok0
  refine zR (zl z90 (zY rfl (aa (ae (aq (zR (zM rfl (ze rfl rfl (zY rfl (aa ?_))))))))))
  refine af rfl (fun h1 => ?_) (fun h1 => ?_)
  · try simp at h1
    refine zR (zM rfl (zJ (aI z90 rfl d4 (.cons (rt' := (ak .i64)) rfl bN (.raw (.b rfl) rfl) .nil)) (zM rfl (ze rfl rfl (zM rfl (zG rfl rfl (fun hg => ag (.b rfl)) (zG rfl rfl (fun hg => ca (.gd rfl hg) (.b rfl)) (zG rfl rfl (fun hg => ag (.gd rfl hg)) ?_))))))))
    refine ct _ _ _ _ _ _ _ rfl rfl rfl rfl rfl (fun hg => ag (.b rfl)) ?_
    refine ct _ _ _ _ _ _ _ rfl rfl rfl rfl rfl (fun hg => ca (.gd rfl hg) (.b rfl)) ?_
    refine zG rfl rfl (fun hg => aB (.gd rfl hg) (.b rfl) rfl zp) (zJ (aF (.b rfl) (.b rfl) rfl zp) (zC aE rfl rfl rfl (Lens.id _) (.tv (.b rfl)) (zY rfl (aa (am (av (ai ?_)))))))
    exact aK results209 (ax aE rfl rfl rfl (Lens.id aX)) (aw rfl) ⟨rfl, rfl⟩ (dq (by subst_vars; first | rfl | (simp [cO]; done) | (simp [cO, *]; done) | (unfold cO; (repeat' split) <;> first | rfl | omega | (simp_all; done) | (simp_all; omega) | (simp_all [aV]; done) | (simp_all [aV]; omega))))
  try simp at h1
  refine zR (zM rfl (ze rfl rfl (zY rfl (aa ?_))))
  refine af rfl (fun h3 => ?_) (fun h3 => ?_)
  · try simp at h3
    refine zR (zM rfl (zJ (aI z90 rfl d4 (.cons (rt' := (ak .i64)) rfl bN (.raw (.b rfl) rfl) .nil)) (zM rfl (ze rfl rfl (zM rfl (zG rfl rfl (fun hg => ag (.b rfl)) (zG rfl rfl (fun hg => ca (.gd rfl hg) (.b rfl)) (zJ (aB (.b rfl) (.b rfl) rfl zp) (zC aE rfl rfl rfl (Lens.id _) (.tv (.b rfl)) (zY rfl (aa (am (av (ai ?_))))))))))))))
    exact aK results209 (ax aE rfl rfl rfl (Lens.id aX)) (aw rfl) ⟨rfl, rfl⟩ (dq (by subst_vars; first | rfl | (simp [cO]; done) | (simp [cO, *]; done) | (unfold cO; (repeat' split) <;> first | rfl | omega | (simp_all; done) | (simp_all; omega) | (simp_all [aV]; done) | (simp_all [aV]; omega))))
  try simp at h3
  refine zR (zM rfl (ze rfl rfl (zM rfl (zG rfl rfl (fun hg => ag (.b rfl)) (zG rfl rfl (fun hg => ca (.gd rfl hg) (.b rfl)) (zJ (aF (.b rfl) (.b rfl) rfl zp) (zM rfl (zG rfl rfl (fun hg => ag (.b rfl)) (zG rfl rfl (fun hg => ca (.gd rfl hg) (.b rfl)) (zJ (aF (.b rfl) (.b rfl) rfl zp) (zY rfl (aa ?_))))))))))))
  refine af rfl (fun h5 => ?_) (fun h5 => ?_)
  · try simp at h5
    refine zR (zJ (aI z90 rfl d4 (.cons (rt' := (ak .i64)) rfl bN (.raw (.b rfl) rfl) .nil)) (zC aE rfl rfl rfl (Lens.id _) (.tv (.b rfl)) (zY rfl (aa (am (av (ai ?_)))))))
    exact aK results209 (ax aE rfl rfl rfl (Lens.id aX)) (aw rfl) ⟨rfl, rfl⟩ (dq (by subst_vars; first | rfl | (simp [cO]; done) | (simp [cO, *]; done) | (unfold cO; (repeat' split) <;> first | rfl | omega | (simp_all; done) | (simp_all; omega) | (simp_all [aV]; done) | (simp_all [aV]; omega))))
  try simp at h5
  refine ah (aG (aa (zR (zJ (aI z90 rfl d4 .nil) (zC aE rfl rfl rfl (Lens.id _) (.tv (.b rfl)) (zY rfl (aa (am ?_))))))))
  exact aK results209 (ax aE rfl rfl rfl (Lens.id aX)) (aw rfl) ⟨rfl, rfl⟩ (dq (by subst_vars; first | rfl | (simp [cO]; done) | (simp [cO, *]; done) | (unfold cO; (repeat' split) <;> first | rfl | omega | (simp_all; done) | (simp_all; omega) | (simp_all [aV]; done) | (simp_all [aV]; omega))))
theorem fE (d : aP) (s : a6) : Ct prog 158 [.tv bX d, .tv bS s] (svT (bA d s)) := by
  refine ay func158 rfl rfl ntmps158 rfl rfl ?_
  intro w0 ok0
  refine zR (zb (.tv (.b rfl)) (zb (.tv (.b rfl)) (zl z90 (zY rfl (aa (ae (zR (zF wz rfl (zL ty4 rfl rfl rfl zq (zJ (b6 (.b rfl)) (zZ ?_)))))))))))
  refine af rfl (fun h1 => ?_) (fun h1 => ?_)
  · try simp at h1
    refine zR (zJ (aI z90 rfl d4 .nil) (zC aE rfl rfl rfl (Lens.id _) (.tv (.b rfl)) (zY rfl (aa (am (ai ?_))))))
    exact aK results158 (ax aE rfl rfl rfl (Lens.id aX)) (aw rfl) ⟨rfl, rfl⟩ (b9 (by subst_vars; first | rfl | (simp [bA, aV]; done) | (simp [bA, aV, *]; done) | (unfold bA; (repeat' split) <;> first | rfl | omega | (simp_all; done) | (simp_all; omega) | (simp_all [aV]; done) | (simp_all [aV]; omega))))
  try simp at h1
  refine ah (aa (ae (zR (zF bU rfl (zL ty3 rfl rfl rfl cb (ze rfl rfl (zZ ?_)))))))
  refine af rfl (fun h3 => ?_) (fun h3 => ?_)
  · try simp at h3
    refine zR (zJ (aI z90 rfl d4 (.cons (rt' := (ak .i64)) rfl bN (.raw (.b rfl) rfl) .nil)) (zC aE rfl rfl rfl (Lens.id _) (.tv (.b rfl)) (zY rfl (aa (am (ai ?_))))))
    exact aK results158 (ax aE rfl rfl rfl (Lens.id aX)) (aw rfl) ⟨rfl, rfl⟩ (b9 (by subst_vars; first | rfl | (simp [bA, aV]; done) | (simp [bA, aV, *]; done) | (unfold bA; (repeat' split) <;> first | rfl | omega | (simp_all; done) | (simp_all; omega) | (simp_all [aV]; done) | (simp_all [aV]; omega))))
  try simp at h3
  refine ah (aa (zR (zF bT rfl (zL ty3 rfl rfl rfl ce (zF wA rfl (zL yk rfl rfl rfl zr (zL eV rfl rfl rfl (Lens.id _) (zJ (an (jO _ _ _) (.cons (.b rfl) (.cons (.b rfl) (.cons (.b rfl) .nil))) rfl rfl) (zM rfl (zJ (bj (.b rfl)) (zJ (bi (.b rfl)) (zl z90 (zC aE rfl rfl rfl (Lens.id _) (.tv (.b rfl)) (zY rfl (aa (ae (zR (zM rfl (zJ (bQ (.b rfl) (.b rfl)) (zZ ?_))))))))))))))))))))
  refine af rfl (fun h6 => ?_) (fun h6 => ?_)
  · try simp at h6
    refine zR (zJ (aI z90 rfl d4 .nil) (zM rfl (zC aE rfl rfl rfl (Lens.id _) (.tv (.b rfl)) (zY rfl (aa (am (ai ?_)))))))
    exact aK results158 (ax aE rfl rfl rfl (Lens.id aX)) (aw rfl) ⟨rfl, rfl⟩ (b9 (by subst_vars; first | rfl | (simp [bA, aV]; done) | (simp [bA, aV, *]; done) | (unfold bA; (repeat' split) <;> first | rfl | omega | (simp_all; done) | (simp_all; omega) | (simp_all [aV]; done) | (simp_all [aV]; omega))))
  try simp at h6
  refine ah (aa (zR (zY rfl (aa (ae (zR (zF bU rfl (zL ty3 rfl rfl rfl cb (zZ (aq (zR (ze rfl rfl (zY rfl (aa ?_))))))))))))))
  refine af rfl (fun h10 => ?_) (fun h10 => ?_)
  · try simp at h10
    refine ac (zF bR rfl (zL ty3 rfl rfl rfl bN (ze rfl rfl (zM rfl (zG rfl rfl (fun hg => ao bR (.b rfl)) (zG rfl rfl (fun hg => aj ty3 (.gd rfl hg) rfl rfl bN) (zG rfl rfl (fun hg => ca (.gd rfl hg) (.b rfl)) (zJ (aB (.b rfl) (.b rfl) rfl zp) (zY rfl (aG (aa (ae (zR (zM rfl (zJ (b6 (.b rfl)) (zZ ?_))))))))))))))))
    refine af rfl (fun h17 => ?_) (fun h17 => ?_)
    · try simp at h17
      all_goals
        refine zR (zJ (aI z90 rfl d4 .nil) (zC aE rfl rfl rfl (Lens.id _) (.tv (.b rfl)) (zY rfl (aa (am (ai ?_))))))
        exact aK results158 (ax aE rfl rfl rfl (Lens.id aX)) (aw rfl) ⟨rfl, rfl⟩ (b9 (by subst_vars; first | rfl | (simp [bA, aV]; done) | (simp [bA, aV, *]; done) | (unfold bA; (repeat' split) <;> first | rfl | omega | (simp_all; done) | (simp_all; omega) | (simp_all [aV]; done) | (simp_all [aV]; omega))))
    try simp at h17
    all_goals
      refine ah (aa (zR (zL aE rfl rfl rfl (Lens.id _) (zC aE rfl rfl rfl (Lens.id _) (.tv (.b rfl)) (zY rfl (aa (am ?_)))))))
      exact aK results158 (ax aE rfl rfl rfl (Lens.id aX)) (aw rfl) ⟨rfl, rfl⟩ (b9 (by subst_vars; first | rfl | (simp [bA, aV]; done) | (simp [bA, aV, *]; done) | (unfold bA; (repeat' split) <;> first | rfl | omega | (simp_all; done) | (simp_all; omega) | (simp_all [aV]; done) | (simp_all [aV]; omega))))
  try simp at h10
  refine ae (zR (ze rfl rfl (zA rfl (zQ [4,6,8,31,42] [4,6] (aa ?_)))))
  refine af rfl (fun h12 => ?_) (fun h12 => ?_)
  · have g12 := h12; try simp at h12
    refine ah (aa ?_)
    refine bz rfl g12 ?_
    refine ac (zF bR rfl (zL ty3 rfl rfl rfl bN (ze rfl rfl (zY rfl (aG (aa (ae (zR (zM rfl (zJ (b6 (.b rfl)) (zZ ?_)))))))))))
    refine af rfl (fun h17 => ?_) (fun h17 => ?_)
    · try simp at h17
      all_goals
        refine zR (zJ (aI z90 rfl d4 .nil) (zC aE rfl rfl rfl (Lens.id _) (.tv (.b rfl)) (zY rfl (aa (am (ai ?_))))))
        exact aK results158 (ax aE rfl rfl rfl (Lens.id aX)) (aw rfl) ⟨rfl, rfl⟩ (b9 (by subst_vars; first | rfl | (simp [bA, aV]; done) | (simp [bA, aV, *]; done) | (unfold bA; (repeat' split) <;> first | rfl | omega | (simp_all; done) | (simp_all; omega) | (simp_all [aV]; done) | (simp_all [aV]; omega))))
    try simp at h17
    all_goals
      refine ah (aa (zR (zL aE rfl rfl rfl (Lens.id _) (zC aE rfl rfl rfl (Lens.id _) (.tv (.b rfl)) (zY rfl (aa (am ?_)))))))
      exact aK results158 (ax aE rfl rfl rfl (Lens.id aX)) (aw rfl) ⟨rfl, rfl⟩ (b9 (by subst_vars; first | rfl | (simp [bA, aV]; done) | (simp [bA, aV, *]; done) | (unfold bA; (repeat' split) <;> first | rfl | omega | (simp_all; done) | (simp_all; omega) | (simp_all [aV]; done) | (simp_all [aV]; omega))))
  have g12 := h12; try simp at h12
  refine ac (ze rfl rfl (zY rfl (aa ?_)))
  refine af rfl (fun h13 => ?_) (fun h13 => ?_)
  · have g13 := h13; try simp at h13
    refine ac (zF bR rfl (zL ty3 rfl rfl rfl bN (ze rfl rfl (zY rfl (aG (aa (ae (zR (zM rfl (zJ (b6 (.b rfl)) (zZ ?_)))))))))))
    refine af rfl (fun h17 => ?_) (fun h17 => ?_)
    · try simp at h17
      all_goals
        refine zR (zJ (aI z90 rfl d4 .nil) (zC aE rfl rfl rfl (Lens.id _) (.tv (.b rfl)) (zY rfl (aa (am (ai ?_))))))
        exact aK results158 (ax aE rfl rfl rfl (Lens.id aX)) (aw rfl) ⟨rfl, rfl⟩ (b9 (by subst_vars; first | rfl | (simp [bA, aV]; done) | (simp [bA, aV, *]; done) | (unfold bA; (repeat' split) <;> first | rfl | omega | (simp_all; done) | (simp_all; omega) | (simp_all [aV]; done) | (simp_all [aV]; omega))))
    try simp at h17
    all_goals
      refine ah (aa (zR (zL aE rfl rfl rfl (Lens.id _) (zC aE rfl rfl rfl (Lens.id _) (.tv (.b rfl)) (zY rfl (aa (am ?_)))))))
      exact aK results158 (ax aE rfl rfl rfl (Lens.id aX)) (aw rfl) ⟨rfl, rfl⟩ (b9 (by subst_vars; first | rfl | (simp [bA, aV]; done) | (simp [bA, aV, *]; done) | (unfold bA; (repeat' split) <;> first | rfl | omega | (simp_all; done) | (simp_all; omega) | (simp_all [aV]; done) | (simp_all [aV]; omega))))
  have g13 := h13; try simp at h13
  refine zR (ze rfl rfl (zY rfl (aa ?_)))
  refine af rfl (fun h15 => ?_) (fun h15 => ?_)
  · try simp at h15
    refine ac (zF bR rfl (zL ty3 rfl rfl rfl bN (zJ (an (eF _) (.cons (.b rfl) .nil) rfl rfl) (zM rfl (zG rfl rfl (fun hg => ao bR (.b rfl)) (zG rfl rfl (fun hg => aj ty3 (.gd rfl hg) rfl rfl bN) (zG rfl rfl (fun hg => ca (.gd rfl hg) (.b rfl)) (zJ (aB (.b rfl) (.b rfl) rfl zp) (zY rfl (aG (aa (ae (zR (zM rfl (zJ (b6 (.b rfl)) (zZ ?_))))))))))))))))
    refine af rfl (fun h17 => ?_) (fun h17 => ?_)
    · try simp at h17
      all_goals
        refine zR (zJ (aI z90 rfl d4 .nil) (zC aE rfl rfl rfl (Lens.id _) (.tv (.b rfl)) (zY rfl (aa (am (ai ?_))))))
        exact aK results158 (ax aE rfl rfl rfl (Lens.id aX)) (aw rfl) ⟨rfl, rfl⟩ (b9 (by subst_vars; first | rfl | (simp [bA, aV]; done) | (simp [bA, aV, *]; done) | (unfold bA; (repeat' split) <;> first | rfl | omega | (simp_all; done) | (simp_all; omega) | (simp_all [aV]; done) | (simp_all [aV]; omega))))
    try simp at h17
    all_goals
      refine ah (aa (zR (zL aE rfl rfl rfl (Lens.id _) (zC aE rfl rfl rfl (Lens.id _) (.tv (.b rfl)) (zY rfl (aa (am ?_)))))))
      exact aK results158 (ax aE rfl rfl rfl (Lens.id aX)) (aw rfl) ⟨rfl, rfl⟩ (b9 (by subst_vars; first | rfl | (simp [bA, aV]; done) | (simp [bA, aV, *]; done) | (unfold bA; (repeat' split) <;> first | rfl | omega | (simp_all; done) | (simp_all; omega) | (simp_all [aV]; done) | (simp_all [aV]; omega))))
  try simp at h15
  refine ah (aG (aa (ae (zR (zM rfl (zJ (b6 (.b rfl)) (zZ ?_)))))))
  refine af rfl (fun h17 => ?_) (fun h17 => ?_)
  · try simp at h17
    all_goals
      refine zR (zJ (aI z90 rfl d4 .nil) (zC aE rfl rfl rfl (Lens.id _) (.tv (.b rfl)) (zA rfl (zQ [4,5] [4] (aa (am (ai ?_)))))))
      exact aK results158 (ax aE rfl rfl rfl (Lens.id aX)) (aw rfl) ⟨rfl, rfl⟩ (b9 (by subst_vars; first | rfl | (simp [bA, aV]; done) | (simp [bA, aV, *]; done) | (unfold bA; (repeat' split) <;> first | rfl | omega | (simp_all; done) | (simp_all; omega) | (simp_all [aV]; done) | (simp_all [aV]; omega))))
  try simp at h17
  all_goals
    refine ah (aa (zR (zL aE rfl rfl rfl (Lens.id _) (zC aE rfl rfl rfl (Lens.id _) (.tv (.b rfl)) (zY rfl (aa (am ?_)))))))
    exact aK results158 (ax aE rfl rfl rfl (Lens.id aX)) (aw rfl) ⟨rfl, rfl⟩ (b9 (by subst_vars; first | rfl | (simp [bA, aV]; done) | (simp [bA, aV, *]; done) | (unfold bA; (repeat' split) <;> first | rfl | omega | (simp_all; done) | (simp_all; omega) | (simp_all [aV]; done) | (simp_all [aV]; omega))))
def kw (l : List cy) (n : Int) : cy := l[n.toNat]?.getD ([], (0, 0), (0, 0), [])
theorem cH {l : List cy} {n : Int} (h : n.toNat < l.length) : kw l n = l[n.toNat] := by simp [kw, h]
def fU (d : aP) : Int := if d.1 = 34 then d.2 / 8 else d.2
def dJ (d : aP) (o : bE) (s : a6) : bE × Int :=
  if d.1 = 34 ∧ (d.2 < 0 ∨ eS (d.2 % 8) = false) then ((0, 0), 3) else
  if fU d < 0 ∨ s.2.1.length ≤ fU d then ((0, 0), 6) else
  if au (kw s.2.1 (fU d)).2.1 s.1 = false ∨ au (kw s.2.1 (fU d)).2.2.1 s.1 = false ∨ o ≠ (kw s.2.1 (fU d)).2.1 then ((0, 0), 8) else
  if d.1 = 34 then (if (kw s.2.1 (fU d)).2.1.1 ≠ 3 ∨ (kw s.2.1 (fU d)).2.2.1.1 ≠ 4 then ((0, 0), 8) else ((kw s.2.1 (fU d)).2.1, 0)) else ((kw s.2.1 (fU d)).2.2.1, 0)
theorem mE (d : aP) (o : bE) (s : a6) (hn : d.2 ≤ 9223372036854775807) : Ct prog 157 [.tv bX d, .tv aX o, .tv bS s] (svT (dJ d o s)) := by
  refine ay func157 rfl rfl ntmps157 rfl rfl ?_
  intro w0 ok0
  refine zR (zb (.tv (.b rfl)) (zb (.tv (.b rfl)) (zb (.tv (.b rfl)) (zl z90 (zY rfl (aa (zR (zF bT rfl (zL ty3 rfl rfl rfl ce (zY rfl (aa (ae (zR (zF bU rfl (zL ty3 rfl rfl rfl cb (ze rfl rfl (zZ ?_)))))))))))))))))
  refine af rfl (fun h2 => ?_) (fun h2 => ?_)
  · try simp at h2
    refine ae (zR (zF bT rfl (zL ty3 rfl rfl rfl ce (zt rfl rfl (zM rfl (zG rfl rfl (fun hg => ao bT (.b rfl)) (zG rfl rfl (fun hg => aj ty3 (.gd rfl hg) rfl rfl ce) (zG rfl rfl (fun hg => pW (.gd rfl hg) (.b rfl) zo (yO (by simp at hg; omega))) (zG rfl rfl (fun hg => an (iG _) (.cons (.gd rfl hg) .nil) rfl rfl) (zG rfl rfl (fun hg => b6 (.gd rfl hg)) (zJ (aB (.b rfl) (.b rfl) rfl zp) (zZ ?_))))))))))))
    refine af rfl (fun h3 => ?_) (fun h3 => ?_)
    · try simp at h3
      refine zR (zJ (aI z90 rfl d4 .nil) (zC aE rfl rfl rfl (Lens.id _) (.tv (.b rfl)) (zY rfl (aa (am (ai (ai ?_)))))))
      exact aK results157 (ax aE rfl rfl rfl (Lens.id aX)) (aw rfl) ⟨rfl, rfl⟩ (b9 (by (try (have ht := cH (l := s.2.1) (n := d.2 / 8) zo; (try simp only [← ht] at h9); (try simp only [← ht] at h12); (try simp only [← ht]))); (try (have ht2 := cH (l := s.2.1) (n := d.2) zo; (try simp only [← ht2] at h9); (try simp only [← ht2] at h12); (try simp only [← ht2]))); unfold dJ fU; (first | (rw [if_pos h2]; done) | skip); (repeat' split) <;> first | rfl | omega | (clear ok0; simp_all; done) | (clear ok0; simp_all; omega) | (exfalso; clear ok0; grind)))
    try simp at h3
    refine ah (aa (ac (zF bT rfl (zL ty3 rfl rfl rfl ce (zJ (rT (.b rfl) (.b rfl) zo (yP zo hn zo)) (zY rfl (aa (ae (zR (zM rfl (zt rfl rfl (zM rfl (zG rfl rfl (fun hg => ag (.b rfl)) (zG rfl rfl (fun hg => ao jB (.b rfl)) (zG rfl rfl (fun hg => aj jl (.gd rfl hg) rfl rfl kE) (zG rfl rfl (fun hg => cJ jW (.gd rfl hg)) (zG rfl rfl (fun hg => bW (.gd rfl hg) (.gd rfl hg)) (zJ (aB (.b rfl) (.b rfl) rfl zp) (zZ ?_)))))))))))))))))))
    refine af rfl (fun h6 => ?_) (fun h6 => ?_)
    · try simp at h6
      refine zR (zJ (aI z90 rfl d4 .nil) (zC aE rfl rfl rfl (Lens.id _) (.tv (.b rfl)) (zY rfl (aa (am (ai ?_))))))
      exact aK results157 (ax aE rfl rfl rfl (Lens.id aX)) (aw rfl) ⟨rfl, rfl⟩ (b9 (by (try (have ht := cH (l := s.2.1) (n := d.2 / 8) zo; (try simp only [← ht] at h9); (try simp only [← ht] at h12); (try simp only [← ht]))); (try (have ht2 := cH (l := s.2.1) (n := d.2) zo; (try simp only [← ht2] at h9); (try simp only [← ht2] at h12); (try simp only [← ht2]))); unfold dJ fU; (first | (rw [if_pos h2]; done) | skip); (repeat' split) <;> first | rfl | omega | (clear ok0; simp_all; done) | (clear ok0; simp_all; omega) | (exfalso; clear ok0; grind)))
    try simp at h6
    refine ah (aa (ae ?_))
    have hb := h6.2
    refine bZ mo zk ( zE [5] (ao jB (.b rfl)) ( zE [5] (aj jl (.b rfl) rfl rfl kE) ( zE [] (ag (.b rfl)) ( zE [] (al jW ge (.b rfl) (.b rfl) (Int.toNat_of_nonneg h6.1).symm zg) ( zE [] (aO nH pj (.b rfl)) ( zE [] (aA aE (.b rfl)) ( zE [5] (ao jB (.b rfl)) ( zE [5] (aj jl (.b rfl) rfl rfl kE) ( zE [] (ag (.b rfl)) ( zE [] (al jW ge (.b rfl) (.b rfl) (Int.toNat_of_nonneg h6.1).symm zg) ( zE [] (aO nG pi (.b rfl)) ( zE [] (aA aE (.b rfl)) ( AE.cons _ _ _ rfl (d9 _ z90 rfl) ( AE.cons _ _ _ rfl (d9 _ z90 rfl) ( AE.cons _ _ _ rfl (bF aE (.b rfl) rfl rfl (Lens.id _) (.tv (.b rfl))) ( AE.cons _ _ _ rfl (bF aE (.b rfl) rfl rfl (Lens.id _) (.tv (.b rfl))) ( AE.nil))))))))))))))))) zk ?_
    refine aa (ae (zR (zL aE rfl rfl rfl (Lens.id _) (zF gZ rfl (zL hU rfl rfl rfl i9 (zJ (an (db _ _) (.cons (.b rfl) (.cons (.b rfl) .nil)) rfl rfl) (zJ (b6 (.b rfl)) (zM rfl (zG rfl rfl (fun hg => aj aE (.b rfl) rfl rfl (Lens.id _)) (zG rfl rfl (fun hg => ao gZ (.b rfl)) (zG rfl rfl (fun hg => aj hU (.gd rfl hg) rfl rfl i9) (zG rfl rfl (fun hg => an (db _ _) (.cons (.gd rfl hg) (.cons (.gd rfl hg) .nil)) rfl rfl) (zG rfl rfl (fun hg => b6 (.gd rfl hg)) (zJ (aB (.b rfl) (.b rfl) rfl zp) (zM rfl (zG rfl rfl (fun hg => aj aE (.b rfl) rfl rfl (Lens.id _)) (zG rfl rfl (fun hg => aj aE (.b rfl) rfl rfl (Lens.id _)) (zG rfl rfl (fun hg => mO oD rfl rfl oE (.tv (.gd rfl hg)) (.tv (.gd rfl hg))) (zJ (aB (.b rfl) (.b rfl) rfl zp) (zZ ?_))))))))))))))))))))
    refine af rfl (fun h9 => ?_) (fun h9 => ?_)
    · try simp at h9
      refine zR (zJ (aI z90 rfl d4 .nil) (zC aE rfl rfl rfl (Lens.id _) (.tv (.b rfl)) (zY rfl (aa (am (ai ?_))))))
      exact aK results157 (ax aE rfl rfl rfl (Lens.id aX)) (aw rfl) ⟨rfl, rfl⟩ (b9 (by (try (have ht := cH (l := s.2.1) (n := d.2 / 8) zo; (try simp only [← ht] at h9); (try simp only [← ht] at h12); (try simp only [← ht]))); (try (have ht2 := cH (l := s.2.1) (n := d.2) zo; (try simp only [← ht2] at h9); (try simp only [← ht2] at h12); (try simp only [← ht2]))); unfold dJ fU; (first | (rw [if_pos h2]; done) | skip); (repeat' split) <;> first | rfl | omega | (clear ok0; simp_all; done) | (clear ok0; simp_all; omega) | (exfalso; clear ok0; grind)))
    try simp at h9
    refine ah (aa (ae (zR (zF bU rfl (zL ty3 rfl rfl rfl cb (ze rfl rfl (zZ ?_)))))))
    refine af rfl (fun h11 => ?_) (fun h11 => ?_)
    · try simp at h11
      refine ae (zR (zF bR rfl (zL ty3 rfl rfl rfl bN (zJ (bQ (.b rfl) (.b rfl)) (zM rfl (zG rfl rfl (fun hg => ao bR (.b rfl)) (zG rfl rfl (fun hg => aj ty3 (.gd rfl hg) rfl rfl bN) (zG rfl rfl (fun hg => bQ (.gd rfl hg) (.b rfl)) (zJ (aB (.b rfl) (.b rfl) rfl zp) (zZ ?_))))))))))
      refine af rfl (fun h12 => ?_) (fun h12 => ?_)
      · try simp at h12
        refine zR (zJ (aI z90 rfl d4 .nil) (zC aE rfl rfl rfl (Lens.id _) (.tv (.b rfl)) (zY rfl (aa (am (ai (ai ?_)))))))
        exact aK results157 (ax aE rfl rfl rfl (Lens.id aX)) (aw rfl) ⟨rfl, rfl⟩ (b9 (by (try (have ht := cH (l := s.2.1) (n := d.2 / 8) zo; (try simp only [← ht] at h9); (try simp only [← ht] at h12); (try simp only [← ht]))); (try (have ht2 := cH (l := s.2.1) (n := d.2) zo; (try simp only [← ht2] at h9); (try simp only [← ht2] at h12); (try simp only [← ht2]))); unfold dJ fU; (first | (rw [if_pos h2]; done) | skip); (repeat' split) <;> first | rfl | omega | (clear ok0; simp_all; done) | (clear ok0; simp_all; omega) | (exfalso; clear ok0; grind)))
      try simp at h12
      refine ah (aa (zR (zL aE rfl rfl rfl (Lens.id _) (zC aE rfl rfl rfl (Lens.id _) (.tv (.b rfl)) (zY rfl (aa (am (ai ?_))))))))
      exact aK results157 (ax aE rfl rfl rfl (Lens.id aX)) (aw rfl) ⟨rfl, rfl⟩ (b9 (by (try (have ht := cH (l := s.2.1) (n := d.2 / 8) zo; (try simp only [← ht] at h9); (try simp only [← ht] at h12); (try simp only [← ht]))); (try (have ht2 := cH (l := s.2.1) (n := d.2) zo; (try simp only [← ht2] at h9); (try simp only [← ht2] at h12); (try simp only [← ht2]))); unfold dJ fU; (first | (rw [if_pos h2]; done) | skip); (repeat' split) <;> first | rfl | omega | (clear ok0; simp_all; done) | (clear ok0; simp_all; omega) | (exfalso; clear ok0; grind)))
    try simp at h11
    refine ah (aa (zR (zL aE rfl rfl rfl (Lens.id _) (zC aE rfl rfl rfl (Lens.id _) (.tv (.b rfl)) (zA rfl (zQ [6,7] [6] (aa (am ?_))))))))
    exact aK results157 (ax aE rfl rfl rfl (Lens.id aX)) (aw rfl) ⟨rfl, rfl⟩ (b9 (by (try (have ht := cH (l := s.2.1) (n := d.2 / 8) zo; (try simp only [← ht] at h9); (try simp only [← ht] at h12); (try simp only [← ht]))); (try (have ht2 := cH (l := s.2.1) (n := d.2) zo; (try simp only [← ht2] at h9); (try simp only [← ht2] at h12); (try simp only [← ht2]))); unfold dJ fU; (first | (rw [if_pos h2]; done) | skip); (repeat' split) <;> first | rfl | omega | (clear ok0; simp_all; done) | (clear ok0; simp_all; omega) | (exfalso; clear ok0; grind)))
  try simp at h2
  refine ah (aa (ae (zR (zM rfl (zt rfl rfl (zM rfl (zG rfl rfl (fun hg => ag (.b rfl)) (zG rfl rfl (fun hg => ao jB (.b rfl)) (zG rfl rfl (fun hg => aj jl (.gd rfl hg) rfl rfl kE) (zG rfl rfl (fun hg => cJ jW (.gd rfl hg)) (zG rfl rfl (fun hg => bW (.gd rfl hg) (.gd rfl hg)) (zJ (aB (.b rfl) (.b rfl) rfl zp) (zZ ?_)))))))))))))
  refine af rfl (fun h6 => ?_) (fun h6 => ?_)
  · try simp at h6
    refine zR (zJ (aI z90 rfl d4 .nil) (zC aE rfl rfl rfl (Lens.id _) (.tv (.b rfl)) (zY rfl (aa (am (ai ?_))))))
    exact aK results157 (ax aE rfl rfl rfl (Lens.id aX)) (aw rfl) ⟨rfl, rfl⟩ (b9 (by (try (have ht := cH (l := s.2.1) (n := d.2 / 8) zo; (try simp only [← ht] at h9); (try simp only [← ht] at h12); (try simp only [← ht]))); (try (have ht2 := cH (l := s.2.1) (n := d.2) zo; (try simp only [← ht2] at h9); (try simp only [← ht2] at h12); (try simp only [← ht2]))); unfold dJ fU; (first | (rw [if_pos h2]; done) | skip); (repeat' split) <;> first | rfl | omega | (clear ok0; simp_all; done) | (clear ok0; simp_all; omega) | (exfalso; clear ok0; grind)))
  try simp at h6
  refine ah (aa (ae ?_))
  have hb := h6.2
  refine bZ mo zk ( zE [5] (ao jB (.b rfl)) ( zE [5] (aj jl (.b rfl) rfl rfl kE) ( zE [] (ag (.b rfl)) ( zE [] (al jW ge (.b rfl) (.b rfl) (Int.toNat_of_nonneg h6.1).symm zg) ( zE [] (aO nH pj (.b rfl)) ( zE [] (aA aE (.b rfl)) ( zE [5] (ao jB (.b rfl)) ( zE [5] (aj jl (.b rfl) rfl rfl kE) ( zE [] (ag (.b rfl)) ( zE [] (al jW ge (.b rfl) (.b rfl) (Int.toNat_of_nonneg h6.1).symm zg) ( zE [] (aO nG pi (.b rfl)) ( zE [] (aA aE (.b rfl)) ( AE.cons _ _ _ rfl (d9 _ z90 rfl) ( AE.cons _ _ _ rfl (d9 _ z90 rfl) ( AE.cons _ _ _ rfl (bF aE (.b rfl) rfl rfl (Lens.id _) (.tv (.b rfl))) ( AE.cons _ _ _ rfl (bF aE (.b rfl) rfl rfl (Lens.id _) (.tv (.b rfl))) ( AE.nil))))))))))))))))) zk ?_
  refine aa (ae (zR (zL aE rfl rfl rfl (Lens.id _) (zF gZ rfl (zL hU rfl rfl rfl i9 (zJ (an (db _ _) (.cons (.b rfl) (.cons (.b rfl) .nil)) rfl rfl) (zJ (b6 (.b rfl)) (zM rfl (zG rfl rfl (fun hg => aj aE (.b rfl) rfl rfl (Lens.id _)) (zG rfl rfl (fun hg => ao gZ (.b rfl)) (zG rfl rfl (fun hg => aj hU (.gd rfl hg) rfl rfl i9) (zG rfl rfl (fun hg => an (db _ _) (.cons (.gd rfl hg) (.cons (.gd rfl hg) .nil)) rfl rfl) (zG rfl rfl (fun hg => b6 (.gd rfl hg)) (zJ (aB (.b rfl) (.b rfl) rfl zp) (zM rfl (zG rfl rfl (fun hg => aj aE (.b rfl) rfl rfl (Lens.id _)) (zG rfl rfl (fun hg => aj aE (.b rfl) rfl rfl (Lens.id _)) (zG rfl rfl (fun hg => mO oD rfl rfl oE (.tv (.gd rfl hg)) (.tv (.gd rfl hg))) (zJ (aB (.b rfl) (.b rfl) rfl zp) (zZ ?_))))))))))))))))))))
  refine af rfl (fun h9 => ?_) (fun h9 => ?_)
  · try simp at h9
    refine zR (zJ (aI z90 rfl d4 .nil) (zC aE rfl rfl rfl (Lens.id _) (.tv (.b rfl)) (zY rfl (aa (am (ai ?_))))))
    exact aK results157 (ax aE rfl rfl rfl (Lens.id aX)) (aw rfl) ⟨rfl, rfl⟩ (b9 (by (try (have ht := cH (l := s.2.1) (n := d.2 / 8) zo; (try simp only [← ht] at h9); (try simp only [← ht] at h12); (try simp only [← ht]))); (try (have ht2 := cH (l := s.2.1) (n := d.2) zo; (try simp only [← ht2] at h9); (try simp only [← ht2] at h12); (try simp only [← ht2]))); unfold dJ fU; (first | (rw [if_pos h2]; done) | skip); (repeat' split) <;> first | rfl | omega | (clear ok0; simp_all; done) | (clear ok0; simp_all; omega) | (exfalso; clear ok0; grind)))
  try simp at h9
  refine ah (aa (ae (zR (zF bU rfl (zL ty3 rfl rfl rfl cb (ze rfl rfl (zZ ?_)))))))
  refine af rfl (fun h11 => ?_) (fun h11 => ?_)
  · try simp at h11
    refine ae (zR (zF bR rfl (zL ty3 rfl rfl rfl bN (zJ (bQ (.b rfl) (.b rfl)) (zM rfl (zG rfl rfl (fun hg => ao bR (.b rfl)) (zG rfl rfl (fun hg => aj ty3 (.gd rfl hg) rfl rfl bN) (zG rfl rfl (fun hg => bQ (.gd rfl hg) (.b rfl)) (zJ (aB (.b rfl) (.b rfl) rfl zp) (zZ ?_))))))))))
    refine af rfl (fun h12 => ?_) (fun h12 => ?_)
    · try simp at h12
      refine zR (zJ (aI z90 rfl d4 .nil) (zC aE rfl rfl rfl (Lens.id _) (.tv (.b rfl)) (zY rfl (aa (am (ai (ai ?_)))))))
      exact aK results157 (ax aE rfl rfl rfl (Lens.id aX)) (aw rfl) ⟨rfl, rfl⟩ (b9 (by (try (have ht := cH (l := s.2.1) (n := d.2 / 8) zo; (try simp only [← ht] at h9); (try simp only [← ht] at h12); (try simp only [← ht]))); (try (have ht2 := cH (l := s.2.1) (n := d.2) zo; (try simp only [← ht2] at h9); (try simp only [← ht2] at h12); (try simp only [← ht2]))); unfold dJ fU; (first | (rw [if_pos h2]; done) | skip); (repeat' split) <;> first | rfl | omega | (clear ok0; simp_all; done) | (clear ok0; simp_all; omega) | (exfalso; clear ok0; grind)))
    try simp at h12
    refine ah (aa (zR (zL aE rfl rfl rfl (Lens.id _) (zC aE rfl rfl rfl (Lens.id _) (.tv (.b rfl)) (zY rfl (aa (am (ai ?_))))))))
    exact aK results157 (ax aE rfl rfl rfl (Lens.id aX)) (aw rfl) ⟨rfl, rfl⟩ (b9 (by (try (have ht := cH (l := s.2.1) (n := d.2 / 8) zo; (try simp only [← ht] at h9); (try simp only [← ht] at h12); (try simp only [← ht]))); (try (have ht2 := cH (l := s.2.1) (n := d.2) zo; (try simp only [← ht2] at h9); (try simp only [← ht2] at h12); (try simp only [← ht2]))); unfold dJ fU; (first | (rw [if_pos h2]; done) | skip); (repeat' split) <;> first | rfl | omega | (clear ok0; simp_all; done) | (clear ok0; simp_all; omega) | (exfalso; clear ok0; grind)))
  try simp at h11
  refine ah (aa (zR (zL aE rfl rfl rfl (Lens.id _) (zC aE rfl rfl rfl (Lens.id _) (.tv (.b rfl)) (zY rfl (aa (am ?_)))))))
  exact aK results157 (ax aE rfl rfl rfl (Lens.id aX)) (aw rfl) ⟨rfl, rfl⟩ (b9 (by (try (have ht := cH (l := s.2.1) (n := d.2 / 8) zo; (try simp only [← ht] at h9); (try simp only [← ht] at h12); (try simp only [← ht]))); (try (have ht2 := cH (l := s.2.1) (n := d.2) zo; (try simp only [← ht2] at h9); (try simp only [← ht2] at h12); (try simp only [← ht2]))); unfold dJ fU; (first | (rw [if_pos h2]; done) | skip); (repeat' split) <;> first | rfl | omega | (clear ok0; simp_all; done) | (clear ok0; simp_all; omega) | (exfalso; clear ok0; grind)))
def aH (op : Int) (l : List bE) : bE × Bool := match l with
  | [a] => if op = 10 then (a, dH a.1) else if op = 25 then ((1, 0), a.1 == 1) else if op = 31 ∨ op = 32 then ((2, 0), a.1 == 5) else ((0, 0), false)
  | [a, b] => if op = 11 ∨ op = 12 then (a, a == b && dH a.1) else if op = 13 ∨ op = 14 ∨ op = 15 then cO op a.1 b.1 else if op = 16 then (a, a.1 == 3 && b.1 == 3)
    else if op = 17 ∨ op = 18 then (a, a == b && (dH a.1 || a.1 == 5)) else if op = 19 ∨ op = 20 then ((1, 0), a == b) else if op = 21 ∨ op = 22 then ((1, 0), a == b && (dH a.1 || a.1 == 5))
    else if op = 23 ∨ op = 24 then ((1, 0), a.1 == 1 && b.1 == 1) else if op = 27 ∨ op = 28 then (a, a.1 == 5 && b.1 == 2) else if op = 29 ∨ op = 30 then ((2, 0), a.1 == 5 && b.1 == 5) else ((0, 0), false)
  | [a, b, c] => if op = 26 then (b, a.1 == 1 && b == c) else ((0, 0), false)
  | _ => ((0, 0), false)
theorem xc {α : Type} {l : List α} (h : l.length = 1) : ∃ a, l = [a] := by match l, h with | [a], _ => exact ⟨a, rfl⟩
theorem kY {α : Type} {l : List α} (h : l.length = 2) : ∃ a b, l = [a, b] := by match l, h with | [a, b], _ => exact ⟨a, b, rfl⟩
theorem len3 {α : Type} {l : List α} (h : l.length = 3) : ∃ a b c, l = [a, b, c] := by match l, h with | [a, b, c], _ => exact ⟨a, b, c, rfl⟩
theorem gW (op : Int) (l : List bE) (hl : (l.length : Int) = bp op) : Ct prog 160 [.raw (.int .i64 op), .tv (ab aX) l] (svB (aH op l)) := by
  refine ay func160 rfl rfl ntmps160 rfl rfl ?_
  intro w0 ok0
  refine zR (zl z90 (zY rfl (aa (zR (zJ (aI z90 rfl d4 (.cons (rt' := (ak .i64)) rfl bN (.raw (.b rfl) rfl) .nil)) (zl z90 (zC aE rfl rfl rfl (Lens.id _) (.tv (.b rfl)) (zZ (ae (zR (zM rfl (zZ (aq (zR (ze rfl rfl (zY rfl (aa ?_)))))))))))))))))
  refine af rfl (fun h3 => ?_) (fun h3 => ?_)
  · try simp at h3
    refine ae ?_
    obtain ⟨x, rfl⟩ := xc (l := l) (by have e := hl; unfold bp at e; (repeat' split at e) <;> omega)
    refine bZ mo zk ( zE [] (ag (.b rfl)) ( zE [] (al cK aE (.b rfl) (.b rfl) rfl zg) ( zE [] (aA aE (.b rfl)) ( zE [] (ag (.b rfl)) ( zE [] (al cK aE (.b rfl) (.b rfl) rfl zg) ( zE [] (aO bR bN (.b rfl)) ( zE [] (aA ty3 (.b rfl)) ( zE [] (an (eF _) (.cons (.b rfl) .nil) rfl rfl) ( AE.cons _ _ _ rfl (bF aE (.b rfl) rfl rfl (Lens.id _) (.tv (.b rfl))) ( zE [] (aU (.b rfl)) ( AE.nil))))))))))) zk ?_
    refine aa (am (av (ai ?_)))
    exact aK results160 (ax aE rfl rfl rfl (Lens.id aX)) (aw rfl) ⟨rfl, rfl⟩ (dq (by subst_vars; first | rfl | (simp [aH]; done) | (simp [aH, *]; done) | (unfold aH; split <;> simp [*])))
  try simp at h3
  refine zR (ze rfl rfl (zY rfl (aa ?_)))
  refine af rfl (fun h5 => ?_) (fun h5 => ?_)
  · try simp at h5
    refine ae ?_
    obtain ⟨x, rfl⟩ := xc (l := l) (by have e := hl; unfold bp at e; (repeat' split at e) <;> omega)
    refine bZ mo zk ( zE [6] (aj aE (.b rfl) rfl rfl (Lens.id _)) ( zE [] (ag (.b rfl)) ( zE [] (al cK aE (.b rfl) (.b rfl) rfl zg) ( zE [] (aO bR bN (.b rfl)) ( zE [] (aA ty3 (.b rfl)) ( zE [] (ca (.b rfl) (.b rfl)) ( AE.cons _ _ _ rfl (bF aE (.b rfl) rfl rfl (Lens.id _) (.tv (.b rfl))) ( zE [] (aU (.b rfl)) ( AE.nil))))))))) zk ?_
    refine aa (am (av (ai ?_)))
    exact aK results160 (ax aE rfl rfl rfl (Lens.id aX)) (aw rfl) ⟨rfl, rfl⟩ (dq (by subst_vars; first | rfl | (simp [aH]; done) | (simp [aH, *]; done) | (unfold aH; split <;> simp [*])))
  try simp at h5
  refine ae (zR (ze rfl rfl (zY rfl (aa ?_))))
  refine af rfl (fun h7 => ?_) (fun h7 => ?_)
  · have g7 := h7; try simp at h7
    refine ah (aa ?_)
    refine bz rfl g7 (ae ?_)
    obtain ⟨x, y, rfl⟩ := kY (l := l) (by have e := hl; unfold bp at e; (repeat' split at e) <;> omega)
    refine bZ mo zk ( zE [] (ag (.b rfl)) ( zE [] (al cK aE (.b rfl) (.b rfl) rfl zg) ( zE [] (aA aE (.b rfl)) ( zE [] (ag (.b rfl)) ( zE [] (al cK aE (.b rfl) (.b rfl) rfl zg) ( zE [] (aA aE (.b rfl)) ( zE [] (ag (.b rfl)) ( zE [] (al cK aE (.b rfl) (.b rfl) rfl zg) ( zE [] (aA aE (.b rfl)) ( zE [] (gY oD rfl rfl oE (.tv (.b rfl)) (.tv (.b rfl))) ( zE [] (ag (.b rfl)) ( zEG [] rfl rfl (fun hg => ag (.b rfl)) ( zEG [] rfl rfl (fun hg => al cK aE (.gd rfl hg) (.b rfl) rfl (getD_some (z := ((0, 0) : bE)) (by first | omega | (simp; done) | (simp; omega) | (simp at hg; omega) | (simp at hg; simp; omega)))) ( zEG [] rfl rfl (fun hg => aO bR bN (.gd rfl hg)) ( zEG [] rfl rfl (fun hg => aA ty3 (.gd rfl hg)) ( zEG [] rfl rfl (fun hg => an (eF _) (.cons (.gd rfl hg) .nil) rfl rfl) ( zE [] (aF (.b rfl) (.b rfl) rfl zp) ( AE.cons _ _ _ rfl (bF aE (.b rfl) rfl rfl (Lens.id _) (.tv (.b rfl))) ( zE [] (aU (.b rfl)) ( AE.nil)))))))))))))))))))) zk ?_
    refine aa (am (av (ai ?_)))
    exact aK results160 (ax aE rfl rfl rfl (Lens.id aX)) (aw rfl) ⟨rfl, rfl⟩ (dq (by subst_vars; first | rfl | (simp [aH]; done) | (simp [aH, *]; done) | (unfold aH; split <;> simp [*])))
  have g7 := h7; try simp at h7
  refine ac (ze rfl rfl (zY rfl (aa ?_)))
  refine af rfl (fun h8 => ?_) (fun h8 => ?_)
  · have g8 := h8; try simp at h8
    refine ae ?_
    obtain ⟨x, y, rfl⟩ := kY (l := l) (by have e := hl; unfold bp at e; (repeat' split at e) <;> omega)
    refine bZ mo zk ( zE [] (ag (.b rfl)) ( zE [] (al cK aE (.b rfl) (.b rfl) rfl zg) ( zE [] (aA aE (.b rfl)) ( zE [] (ag (.b rfl)) ( zE [] (al cK aE (.b rfl) (.b rfl) rfl zg) ( zE [] (aA aE (.b rfl)) ( zE [] (ag (.b rfl)) ( zE [] (al cK aE (.b rfl) (.b rfl) rfl zg) ( zE [] (aA aE (.b rfl)) ( zE [] (gY oD rfl rfl oE (.tv (.b rfl)) (.tv (.b rfl))) ( zE [] (ag (.b rfl)) ( zEG [] rfl rfl (fun hg => ag (.b rfl)) ( zEG [] rfl rfl (fun hg => al cK aE (.gd rfl hg) (.b rfl) rfl (getD_some (z := ((0, 0) : bE)) (by first | omega | (simp; done) | (simp; omega) | (simp at hg; omega) | (simp at hg; simp; omega)))) ( zEG [] rfl rfl (fun hg => aO bR bN (.gd rfl hg)) ( zEG [] rfl rfl (fun hg => aA ty3 (.gd rfl hg)) ( zEG [] rfl rfl (fun hg => an (eF _) (.cons (.gd rfl hg) .nil) rfl rfl) ( zE [] (aF (.b rfl) (.b rfl) rfl zp) ( AE.cons _ _ _ rfl (bF aE (.b rfl) rfl rfl (Lens.id _) (.tv (.b rfl))) ( zE [] (aU (.b rfl)) ( AE.nil)))))))))))))))))))) zk ?_
    refine aa (am (av (ai ?_)))
    exact aK results160 (ax aE rfl rfl rfl (Lens.id aX)) (aw rfl) ⟨rfl, rfl⟩ (dq (by subst_vars; first | rfl | (simp [aH]; done) | (simp [aH, *]; done) | (unfold aH; split <;> simp [*])))
  have g8 := h8; try simp at h8
  refine ae (zR (ze rfl rfl (zY rfl (aa ?_))))
  refine af rfl (fun h10 => ?_) (fun h10 => ?_)
  · have g10 := h10; try simp at h10
    refine ah (aa ?_)
    refine bz rfl g10 (ae ?_)
    obtain ⟨x, y, rfl⟩ := kY (l := l) (by have e := hl; unfold bp at e; (repeat' split at e) <;> omega)
    refine bZ mo zk ( zE [] (ag (.b rfl)) ( zE [] (ag (.b rfl)) ( zE [] (al cK aE (.b rfl) (.b rfl) rfl zg) ( zE [] (aO bR bN (.b rfl)) ( zE [] (aA ty3 (.b rfl)) ( zE [] (ag (.b rfl)) ( zE [] (al cK aE (.b rfl) (.b rfl) rfl zg) ( zE [] (aO bR bN (.b rfl)) ( zE [] (aA ty3 (.b rfl)) ( zE [] (an (i4 _ _ _) (.cons (.b rfl) (.cons (.b rfl) (.cons (.b rfl) .nil))) rfl rfl) ( zE [] (bj (.b rfl)) ( zE [] (bi (.b rfl)) ( AE.cons _ _ _ rfl (bF aE (.b rfl) rfl rfl (Lens.id _) (.tv (.b rfl))) ( zE [] (aU (.b rfl)) ( AE.nil))))))))))))))) zk ?_
    refine aa (am (av (ai ?_)))
    exact aK results160 (ax aE rfl rfl rfl (Lens.id aX)) (aw rfl) ⟨rfl, rfl⟩ (dq (by subst_vars; first | rfl | (simp [aH]; done) | (simp [aH, *]; done) | (unfold aH; split <;> simp [*])))
  have g10 := h10; try simp at h10
  refine zR (ze rfl rfl (zY rfl (aa ?_)))
  refine af rfl (fun h11 => ?_) (fun h11 => ?_)
  · have g11 := h11; try simp at h11
    refine ah (aa ?_)
    refine bz rfl g11 (ae ?_)
    obtain ⟨x, y, rfl⟩ := kY (l := l) (by have e := hl; unfold bp at e; (repeat' split at e) <;> omega)
    refine bZ mo zk ( zE [] (ag (.b rfl)) ( zE [] (ag (.b rfl)) ( zE [] (al cK aE (.b rfl) (.b rfl) rfl zg) ( zE [] (aO bR bN (.b rfl)) ( zE [] (aA ty3 (.b rfl)) ( zE [] (ag (.b rfl)) ( zE [] (al cK aE (.b rfl) (.b rfl) rfl zg) ( zE [] (aO bR bN (.b rfl)) ( zE [] (aA ty3 (.b rfl)) ( zE [] (an (i4 _ _ _) (.cons (.b rfl) (.cons (.b rfl) (.cons (.b rfl) .nil))) rfl rfl) ( zE [] (bj (.b rfl)) ( zE [] (bi (.b rfl)) ( AE.cons _ _ _ rfl (bF aE (.b rfl) rfl rfl (Lens.id _) (.tv (.b rfl))) ( zE [] (aU (.b rfl)) ( AE.nil))))))))))))))) zk ?_
    refine aa (am (av (ai ?_)))
    exact aK results160 (ax aE rfl rfl rfl (Lens.id aX)) (aw rfl) ⟨rfl, rfl⟩ (dq (by subst_vars; first | rfl | (simp [aH]; done) | (simp [aH, *]; done) | (unfold aH; split <;> simp [*])))
  have g11 := h11; try simp at h11
  refine ac (ze rfl rfl (zA rfl (zQ [0,1,4,6,8,47] [4,6] (aa ?_))))
  refine af rfl (fun h12 => ?_) (fun h12 => ?_)
  · have g12 := h12; try simp at h12
    refine ae ?_
    obtain ⟨x, y, rfl⟩ := kY (l := l) (by have e := hl; unfold bp at e; (repeat' split at e) <;> omega)
    refine bZ mo zk ( zE [] (ag (.b rfl)) ( zE [] (ag (.b rfl)) ( zE [] (al cK aE (.b rfl) (.b rfl) rfl zg) ( zE [] (aO bR bN (.b rfl)) ( zE [] (aA ty3 (.b rfl)) ( zE [] (ag (.b rfl)) ( zE [] (al cK aE (.b rfl) (.b rfl) rfl zg) ( zE [] (aO bR bN (.b rfl)) ( zE [] (aA ty3 (.b rfl)) ( zE [] (an (i4 _ _ _) (.cons (.b rfl) (.cons (.b rfl) (.cons (.b rfl) .nil))) rfl rfl) ( zE [] (bj (.b rfl)) ( zE [] (bi (.b rfl)) ( AE.cons _ _ _ rfl (bF aE (.b rfl) rfl rfl (Lens.id _) (.tv (.b rfl))) ( zE [] (aU (.b rfl)) ( AE.nil))))))))))))))) zk ?_
    refine aa (am (av (ai ?_)))
    exact aK results160 (ax aE rfl rfl rfl (Lens.id aX)) (aw rfl) ⟨rfl, rfl⟩ (dq (by subst_vars; first | rfl | (simp [aH]; done) | (simp [aH, *]; done) | (unfold aH; split <;> simp [*])))
  have g12 := h12; try simp at h12
  refine zR (ze rfl rfl (zY rfl (aa ?_)))
  refine af rfl (fun h14 => ?_) (fun h14 => ?_)
  · try simp at h14
    refine ae ?_
    obtain ⟨x, y, rfl⟩ := kY (l := l) (by have e := hl; unfold bp at e; (repeat' split at e) <;> omega)
    refine bZ mo zk ( zE [] (ag (.b rfl)) ( zE [] (al cK aE (.b rfl) (.b rfl) rfl zg) ( zE [] (aA aE (.b rfl)) ( zE [] (ag (.b rfl)) ( zE [] (al cK aE (.b rfl) (.b rfl) rfl zg) ( zE [] (aO bR bN (.b rfl)) ( zE [] (aA ty3 (.b rfl)) ( zE [] (ca (.b rfl) (.b rfl)) ( zE [] (ag (.b rfl)) ( zEG [] rfl rfl (fun hg => ag (.b rfl)) ( zEG [] rfl rfl (fun hg => al cK aE (.gd rfl hg) (.b rfl) rfl (getD_some (z := ((0, 0) : bE)) (by first | omega | (simp; done) | (simp; omega) | (simp at hg; omega) | (simp at hg; simp; omega)))) ( zEG [] rfl rfl (fun hg => aO bR bN (.gd rfl hg)) ( zEG [] rfl rfl (fun hg => aA ty3 (.gd rfl hg)) ( zEG [] rfl rfl (fun hg => ca (.gd rfl hg) (.b rfl)) ( zE [] (aF (.b rfl) (.b rfl) rfl zp) ( AE.cons _ _ _ rfl (bF aE (.b rfl) rfl rfl (Lens.id _) (.tv (.b rfl))) ( zE [] (aU (.b rfl)) ( AE.nil)))))))))))))))))) zk ?_
    refine aa (am (av (ai ?_)))
    exact aK results160 (ax aE rfl rfl rfl (Lens.id aX)) (aw rfl) ⟨rfl, rfl⟩ (dq (by subst_vars; first | rfl | (simp [aH]; done) | (simp [aH, *]; done) | (unfold aH; split <;> simp [*])))
  try simp at h14
  refine ae (zR (ze rfl rfl (zY rfl (aa ?_))))
  refine af rfl (fun h16 => ?_) (fun h16 => ?_)
  · have g16 := h16; try simp at h16
    refine ah (aa ?_)
    refine bz rfl g16 (ae ?_)
    obtain ⟨x, y, rfl⟩ := kY (l := l) (by have e := hl; unfold bp at e; (repeat' split at e) <;> omega)
    refine bZ mo zk ( zE [] (ag (.b rfl)) ( zE [] (al cK aE (.b rfl) (.b rfl) rfl zg) ( zE [] (aA aE (.b rfl)) ( zE [] (ag (.b rfl)) ( zE [] (al cK aE (.b rfl) (.b rfl) rfl zg) ( zE [] (aA aE (.b rfl)) ( zE [] (ag (.b rfl)) ( zE [] (al cK aE (.b rfl) (.b rfl) rfl zg) ( zE [] (aA aE (.b rfl)) ( zE [] (gY oD rfl rfl oE (.tv (.b rfl)) (.tv (.b rfl))) ( zE [] (ag (.b rfl)) ( zEG [] rfl rfl (fun hg => ag (.b rfl)) ( zEG [] rfl rfl (fun hg => al cK aE (.gd rfl hg) (.b rfl) rfl (getD_some (z := ((0, 0) : bE)) (by first | omega | (simp; done) | (simp; omega) | (simp at hg; omega) | (simp at hg; simp; omega)))) ( zEG [] rfl rfl (fun hg => aO bR bN (.gd rfl hg)) ( zEG [] rfl rfl (fun hg => aA ty3 (.gd rfl hg)) ( zEG [] rfl rfl (fun hg => an (eF _) (.cons (.gd rfl hg) .nil) rfl rfl) ( zEG [] rfl rfl (fun hg => ag (.gd rfl hg)) ( AE.cons _ _ _ rfl (ft [] (cT _ _ _ _ _ rfl rfl rfl rfl rfl (fun hg => ag (.b rfl))) zk) ( AE.cons _ _ _ rfl (ft [] (cT _ _ _ _ _ rfl rfl rfl rfl rfl (fun hg => al cK aE (.gd rfl hg) (.b rfl) rfl (getD_some (z := ((0, 0) : bE)) (by first | omega | (simp; done) | (simp; omega) | (simp at hg; omega) | (simp at hg; simp; omega))))) zk) ( AE.cons _ _ _ rfl (ft [] (cT _ _ _ _ _ rfl rfl rfl rfl rfl (fun hg => aO bR bN (.gd rfl hg))) zk) ( AE.cons _ _ _ rfl (ft [] (cT _ _ _ _ _ rfl rfl rfl rfl rfl (fun hg => aA ty3 (.gd rfl hg))) zk) ( AE.cons _ _ _ rfl (ft [] (cT _ _ _ _ _ rfl rfl rfl rfl rfl (fun hg => ca (.gd rfl hg) (.b rfl))) zk) ( zEG [] rfl rfl (fun hg => aB (.gd rfl hg) (.b rfl) rfl zp) ( zE [] (aF (.b rfl) (.b rfl) rfl zp) ( AE.cons _ _ _ rfl (bF aE (.b rfl) rfl rfl (Lens.id _) (.tv (.b rfl))) ( zE [] (aU (.b rfl)) ( AE.nil))))))))))))))))))))))))))) zk ?_
    refine aa (am (av (ai ?_)))
    exact aK results160 (ax aE rfl rfl rfl (Lens.id aX)) (aw rfl) ⟨rfl, rfl⟩ (dq (by subst_vars; first | rfl | (simp [aH]; done) | (simp [aH, *]; done) | (unfold aH; split <;> simp [*])))
  have g16 := h16; try simp at h16
  refine ac (ze rfl rfl (zY rfl (aa ?_)))
  refine af rfl (fun h17 => ?_) (fun h17 => ?_)
  · have g17 := h17; try simp at h17
    refine ae ?_
    obtain ⟨x, y, rfl⟩ := kY (l := l) (by have e := hl; unfold bp at e; (repeat' split at e) <;> omega)
    refine bZ mo zk ( zE [] (ag (.b rfl)) ( zE [] (al cK aE (.b rfl) (.b rfl) rfl zg) ( zE [] (aA aE (.b rfl)) ( zE [] (ag (.b rfl)) ( zE [] (al cK aE (.b rfl) (.b rfl) rfl zg) ( zE [] (aA aE (.b rfl)) ( zE [] (ag (.b rfl)) ( zE [] (al cK aE (.b rfl) (.b rfl) rfl zg) ( zE [] (aA aE (.b rfl)) ( zE [] (gY oD rfl rfl oE (.tv (.b rfl)) (.tv (.b rfl))) ( zE [] (ag (.b rfl)) ( zEG [] rfl rfl (fun hg => ag (.b rfl)) ( zEG [] rfl rfl (fun hg => al cK aE (.gd rfl hg) (.b rfl) rfl (getD_some (z := ((0, 0) : bE)) (by first | omega | (simp; done) | (simp; omega) | (simp at hg; omega) | (simp at hg; simp; omega)))) ( zEG [] rfl rfl (fun hg => aO bR bN (.gd rfl hg)) ( zEG [] rfl rfl (fun hg => aA ty3 (.gd rfl hg)) ( zEG [] rfl rfl (fun hg => an (eF _) (.cons (.gd rfl hg) .nil) rfl rfl) ( zEG [] rfl rfl (fun hg => ag (.gd rfl hg)) ( AE.cons _ _ _ rfl (ft [] (cT _ _ _ _ _ rfl rfl rfl rfl rfl (fun hg => ag (.b rfl))) zk) ( AE.cons _ _ _ rfl (ft [] (cT _ _ _ _ _ rfl rfl rfl rfl rfl (fun hg => al cK aE (.gd rfl hg) (.b rfl) rfl (getD_some (z := ((0, 0) : bE)) (by first | omega | (simp; done) | (simp; omega) | (simp at hg; omega) | (simp at hg; simp; omega))))) zk) ( AE.cons _ _ _ rfl (ft [] (cT _ _ _ _ _ rfl rfl rfl rfl rfl (fun hg => aO bR bN (.gd rfl hg))) zk) ( AE.cons _ _ _ rfl (ft [] (cT _ _ _ _ _ rfl rfl rfl rfl rfl (fun hg => aA ty3 (.gd rfl hg))) zk) ( AE.cons _ _ _ rfl (ft [] (cT _ _ _ _ _ rfl rfl rfl rfl rfl (fun hg => ca (.gd rfl hg) (.b rfl))) zk) ( zEG [] rfl rfl (fun hg => aB (.gd rfl hg) (.b rfl) rfl zp) ( zE [] (aF (.b rfl) (.b rfl) rfl zp) ( AE.cons _ _ _ rfl (bF aE (.b rfl) rfl rfl (Lens.id _) (.tv (.b rfl))) ( zE [] (aU (.b rfl)) ( AE.nil))))))))))))))))))))))))))) zk ?_
    refine aa (am (av (ai ?_)))
    exact aK results160 (ax aE rfl rfl rfl (Lens.id aX)) (aw rfl) ⟨rfl, rfl⟩ (dq (by subst_vars; first | rfl | (simp [aH]; done) | (simp [aH, *]; done) | (unfold aH; split <;> simp [*])))
  have g17 := h17; try simp at h17
  refine ae (zR (ze rfl rfl (zY rfl (aa ?_))))
  refine af rfl (fun h19 => ?_) (fun h19 => ?_)
  · have g19 := h19; try simp at h19
    refine ah (aa ?_)
    refine bz rfl g19 (ae ?_)
    obtain ⟨x, y, rfl⟩ := kY (l := l) (by have e := hl; unfold bp at e; (repeat' split at e) <;> omega)
    refine bZ mo zk ( zE [6] (aj aE (.b rfl) rfl rfl (Lens.id _)) ( zE [] (ag (.b rfl)) ( zE [] (al cK aE (.b rfl) (.b rfl) rfl zg) ( zE [] (aA aE (.b rfl)) ( zE [] (ag (.b rfl)) ( zE [] (al cK aE (.b rfl) (.b rfl) rfl zg) ( zE [] (aA aE (.b rfl)) ( zE [] (gY oD rfl rfl oE (.tv (.b rfl)) (.tv (.b rfl))) ( AE.cons _ _ _ rfl (bF aE (.b rfl) rfl rfl (Lens.id _) (.tv (.b rfl))) ( zE [] (aU (.b rfl)) ( AE.nil))))))))))) zk ?_
    refine aa (am (av (ai ?_)))
    exact aK results160 (ax aE rfl rfl rfl (Lens.id aX)) (aw rfl) ⟨rfl, rfl⟩ (dq (by subst_vars; first | rfl | (simp [aH]; done) | (simp [aH, *]; done) | (unfold aH; split <;> simp [*])))
  have g19 := h19; try simp at h19
  refine ac (ze rfl rfl (zY rfl (aa ?_)))
  refine af rfl (fun h20 => ?_) (fun h20 => ?_)
  · have g20 := h20; try simp at h20
    refine ae ?_
    obtain ⟨x, y, rfl⟩ := kY (l := l) (by have e := hl; unfold bp at e; (repeat' split at e) <;> omega)
    refine bZ mo zk ( zE [6] (aj aE (.b rfl) rfl rfl (Lens.id _)) ( zE [] (ag (.b rfl)) ( zE [] (al cK aE (.b rfl) (.b rfl) rfl zg) ( zE [] (aA aE (.b rfl)) ( zE [] (ag (.b rfl)) ( zE [] (al cK aE (.b rfl) (.b rfl) rfl zg) ( zE [] (aA aE (.b rfl)) ( zE [] (gY oD rfl rfl oE (.tv (.b rfl)) (.tv (.b rfl))) ( AE.cons _ _ _ rfl (bF aE (.b rfl) rfl rfl (Lens.id _) (.tv (.b rfl))) ( zE [] (aU (.b rfl)) ( AE.nil))))))))))) zk ?_
    refine aa (am (av (ai ?_)))
    exact aK results160 (ax aE rfl rfl rfl (Lens.id aX)) (aw rfl) ⟨rfl, rfl⟩ (dq (by subst_vars; first | rfl | (simp [aH]; done) | (simp [aH, *]; done) | (unfold aH; split <;> simp [*])))
  have g20 := h20; try simp at h20
  refine ae (zR (ze rfl rfl (zY rfl (aa ?_))))
  refine af rfl (fun h22 => ?_) (fun h22 => ?_)
  · have g22 := h22; try simp at h22
    refine ah (aa ?_)
    refine bz rfl g22 (ae ?_)
    obtain ⟨x, y, rfl⟩ := kY (l := l) (by have e := hl; unfold bp at e; (repeat' split at e) <;> omega)
    refine bZ mo zk ( zE [6] (aj aE (.b rfl) rfl rfl (Lens.id _)) ( zE [] (ag (.b rfl)) ( zE [] (al cK aE (.b rfl) (.b rfl) rfl zg) ( zE [] (aA aE (.b rfl)) ( zE [] (ag (.b rfl)) ( zE [] (al cK aE (.b rfl) (.b rfl) rfl zg) ( zE [] (aA aE (.b rfl)) ( zE [] (gY oD rfl rfl oE (.tv (.b rfl)) (.tv (.b rfl))) ( zE [] (ag (.b rfl)) ( zEG [] rfl rfl (fun hg => ag (.b rfl)) ( zEG [] rfl rfl (fun hg => al cK aE (.gd rfl hg) (.b rfl) rfl (getD_some (z := ((0, 0) : bE)) (by first | omega | (simp; done) | (simp; omega) | (simp at hg; omega) | (simp at hg; simp; omega)))) ( zEG [] rfl rfl (fun hg => aO bR bN (.gd rfl hg)) ( zEG [] rfl rfl (fun hg => aA ty3 (.gd rfl hg)) ( zEG [] rfl rfl (fun hg => an (eF _) (.cons (.gd rfl hg) .nil) rfl rfl) ( zEG [] rfl rfl (fun hg => ag (.gd rfl hg)) ( AE.cons _ _ _ rfl (ft [] (cT _ _ _ _ _ rfl rfl rfl rfl rfl (fun hg => ag (.b rfl))) zk) ( AE.cons _ _ _ rfl (ft [] (cT _ _ _ _ _ rfl rfl rfl rfl rfl (fun hg => al cK aE (.gd rfl hg) (.b rfl) rfl (getD_some (z := ((0, 0) : bE)) (by first | omega | (simp; done) | (simp; omega) | (simp at hg; omega) | (simp at hg; simp; omega))))) zk) ( AE.cons _ _ _ rfl (ft [] (cT _ _ _ _ _ rfl rfl rfl rfl rfl (fun hg => aO bR bN (.gd rfl hg))) zk) ( AE.cons _ _ _ rfl (ft [] (cT _ _ _ _ _ rfl rfl rfl rfl rfl (fun hg => aA ty3 (.gd rfl hg))) zk) ( AE.cons _ _ _ rfl (ft [] (cT _ _ _ _ _ rfl rfl rfl rfl rfl (fun hg => ca (.gd rfl hg) (.b rfl))) zk) ( zEG [] rfl rfl (fun hg => aB (.gd rfl hg) (.b rfl) rfl zp) ( zE [] (aF (.b rfl) (.b rfl) rfl zp) ( AE.cons _ _ _ rfl (bF aE (.b rfl) rfl rfl (Lens.id _) (.tv (.b rfl))) ( zE [] (aU (.b rfl)) ( AE.nil))))))))))))))))))))))))) zk ?_
    refine aa (am (av (ai ?_)))
    exact aK results160 (ax aE rfl rfl rfl (Lens.id aX)) (aw rfl) ⟨rfl, rfl⟩ (dq (by subst_vars; first | rfl | (simp [aH]; done) | (simp [aH, *]; done) | (unfold aH; split <;> simp [*])))
  have g22 := h22; try simp at h22
  refine ac (ze rfl rfl (zY rfl (aa ?_)))
  refine af rfl (fun h23 => ?_) (fun h23 => ?_)
  · have g23 := h23; try simp at h23
    refine ae ?_
    obtain ⟨x, y, rfl⟩ := kY (l := l) (by have e := hl; unfold bp at e; (repeat' split at e) <;> omega)
    refine bZ mo zk ( zE [6] (aj aE (.b rfl) rfl rfl (Lens.id _)) ( zE [] (ag (.b rfl)) ( zE [] (al cK aE (.b rfl) (.b rfl) rfl zg) ( zE [] (aA aE (.b rfl)) ( zE [] (ag (.b rfl)) ( zE [] (al cK aE (.b rfl) (.b rfl) rfl zg) ( zE [] (aA aE (.b rfl)) ( zE [] (gY oD rfl rfl oE (.tv (.b rfl)) (.tv (.b rfl))) ( zE [] (ag (.b rfl)) ( zEG [] rfl rfl (fun hg => ag (.b rfl)) ( zEG [] rfl rfl (fun hg => al cK aE (.gd rfl hg) (.b rfl) rfl (getD_some (z := ((0, 0) : bE)) (by first | omega | (simp; done) | (simp; omega) | (simp at hg; omega) | (simp at hg; simp; omega)))) ( zEG [] rfl rfl (fun hg => aO bR bN (.gd rfl hg)) ( zEG [] rfl rfl (fun hg => aA ty3 (.gd rfl hg)) ( zEG [] rfl rfl (fun hg => an (eF _) (.cons (.gd rfl hg) .nil) rfl rfl) ( zEG [] rfl rfl (fun hg => ag (.gd rfl hg)) ( AE.cons _ _ _ rfl (ft [] (cT _ _ _ _ _ rfl rfl rfl rfl rfl (fun hg => ag (.b rfl))) zk) ( AE.cons _ _ _ rfl (ft [] (cT _ _ _ _ _ rfl rfl rfl rfl rfl (fun hg => al cK aE (.gd rfl hg) (.b rfl) rfl (getD_some (z := ((0, 0) : bE)) (by first | omega | (simp; done) | (simp; omega) | (simp at hg; omega) | (simp at hg; simp; omega))))) zk) ( AE.cons _ _ _ rfl (ft [] (cT _ _ _ _ _ rfl rfl rfl rfl rfl (fun hg => aO bR bN (.gd rfl hg))) zk) ( AE.cons _ _ _ rfl (ft [] (cT _ _ _ _ _ rfl rfl rfl rfl rfl (fun hg => aA ty3 (.gd rfl hg))) zk) ( AE.cons _ _ _ rfl (ft [] (cT _ _ _ _ _ rfl rfl rfl rfl rfl (fun hg => ca (.gd rfl hg) (.b rfl))) zk) ( zEG [] rfl rfl (fun hg => aB (.gd rfl hg) (.b rfl) rfl zp) ( zE [] (aF (.b rfl) (.b rfl) rfl zp) ( AE.cons _ _ _ rfl (bF aE (.b rfl) rfl rfl (Lens.id _) (.tv (.b rfl))) ( zE [] (aU (.b rfl)) ( AE.nil))))))))))))))))))))))))) zk ?_
    refine aa (am (av (ai ?_)))
    exact aK results160 (ax aE rfl rfl rfl (Lens.id aX)) (aw rfl) ⟨rfl, rfl⟩ (dq (by subst_vars; first | rfl | (simp [aH]; done) | (simp [aH, *]; done) | (unfold aH; split <;> simp [*])))
  have g23 := h23; try simp at h23
  refine ae (zR (ze rfl rfl (zA rfl (zQ [1,4,6,8,143] [4,6] (aa ?_)))))
  refine af rfl (fun h25 => ?_) (fun h25 => ?_)
  · have g25 := h25; try simp at h25
    refine ah (aa ?_)
    refine bz rfl g25 (ae ?_)
    obtain ⟨x, y, rfl⟩ := kY (l := l) (by have e := hl; unfold bp at e; (repeat' split at e) <;> omega)
    refine bZ mo zk ( zE [6] (aj aE (.b rfl) rfl rfl (Lens.id _)) ( zE [] (ag (.b rfl)) ( zE [] (al cK aE (.b rfl) (.b rfl) rfl zg) ( zE [] (aO bR bN (.b rfl)) ( zE [] (aA ty3 (.b rfl)) ( zE [] (ca (.b rfl) (.b rfl)) ( zE [] (ag (.b rfl)) ( zEG [] rfl rfl (fun hg => ag (.b rfl)) ( zEG [] rfl rfl (fun hg => al cK aE (.gd rfl hg) (.b rfl) rfl (getD_some (z := ((0, 0) : bE)) (by first | omega | (simp; done) | (simp; omega) | (simp at hg; omega) | (simp at hg; simp; omega)))) ( zEG [] rfl rfl (fun hg => aO bR bN (.gd rfl hg)) ( zEG [] rfl rfl (fun hg => aA ty3 (.gd rfl hg)) ( zEG [] rfl rfl (fun hg => ca (.gd rfl hg) (.b rfl)) ( zE [] (aF (.b rfl) (.b rfl) rfl zp) ( AE.cons _ _ _ rfl (bF aE (.b rfl) rfl rfl (Lens.id _) (.tv (.b rfl))) ( zE [] (aU (.b rfl)) ( AE.nil)))))))))))))))) zk ?_
    refine aa (am (av (ai ?_)))
    exact aK results160 (ax aE rfl rfl rfl (Lens.id aX)) (aw rfl) ⟨rfl, rfl⟩ (dq (by subst_vars; first | rfl | (simp [aH]; done) | (simp [aH, *]; done) | (unfold aH; split <;> simp [*])))
  have g25 := h25; try simp at h25
  refine ac (ze rfl rfl (zY rfl (aa ?_)))
  refine af rfl (fun h26 => ?_) (fun h26 => ?_)
  · have g26 := h26; try simp at h26
    refine ae ?_
    obtain ⟨x, y, rfl⟩ := kY (l := l) (by have e := hl; unfold bp at e; (repeat' split at e) <;> omega)
    refine bZ mo zk ( zE [6] (aj aE (.b rfl) rfl rfl (Lens.id _)) ( zE [] (ag (.b rfl)) ( zE [] (al cK aE (.b rfl) (.b rfl) rfl zg) ( zE [] (aO bR bN (.b rfl)) ( zE [] (aA ty3 (.b rfl)) ( zE [] (ca (.b rfl) (.b rfl)) ( zE [] (ag (.b rfl)) ( zEG [] rfl rfl (fun hg => ag (.b rfl)) ( zEG [] rfl rfl (fun hg => al cK aE (.gd rfl hg) (.b rfl) rfl (getD_some (z := ((0, 0) : bE)) (by first | omega | (simp; done) | (simp; omega) | (simp at hg; omega) | (simp at hg; simp; omega)))) ( zEG [] rfl rfl (fun hg => aO bR bN (.gd rfl hg)) ( zEG [] rfl rfl (fun hg => aA ty3 (.gd rfl hg)) ( zEG [] rfl rfl (fun hg => ca (.gd rfl hg) (.b rfl)) ( zE [] (aF (.b rfl) (.b rfl) rfl zp) ( AE.cons _ _ _ rfl (bF aE (.b rfl) rfl rfl (Lens.id _) (.tv (.b rfl))) ( zE [] (aU (.b rfl)) ( AE.nil)))))))))))))))) zk ?_
    refine aa (am (av (ai ?_)))
    exact aK results160 (ax aE rfl rfl rfl (Lens.id aX)) (aw rfl) ⟨rfl, rfl⟩ (dq (by subst_vars; first | rfl | (simp [aH]; done) | (simp [aH, *]; done) | (unfold aH; split <;> simp [*])))
  have g26 := h26; try simp at h26
  refine zR (ze rfl rfl (zY rfl (aa ?_)))
  refine af rfl (fun h28 => ?_) (fun h28 => ?_)
  · try simp at h28
    refine ae ?_
    obtain ⟨x, y, z, rfl⟩ := len3 (l := l) (by have e := hl; unfold bp at e; (repeat' split at e) <;> omega)
    refine bZ mo zk ( zE [] (ag (.b rfl)) ( zE [] (al cK aE (.b rfl) (.b rfl) rfl zg) ( zE [] (aA aE (.b rfl)) ( zE [] (ag (.b rfl)) ( zE [] (al cK aE (.b rfl) (.b rfl) rfl zg) ( zE [] (aO bR bN (.b rfl)) ( zE [] (aA ty3 (.b rfl)) ( zE [] (ca (.b rfl) (.b rfl)) ( zE [] (ag (.b rfl)) ( zEG [] rfl rfl (fun hg => ag (.b rfl)) ( zEG [] rfl rfl (fun hg => al cK aE (.gd rfl hg) (.b rfl) rfl (getD_some (z := ((0, 0) : bE)) (by first | omega | (simp; done) | (simp; omega) | (simp at hg; omega) | (simp at hg; simp; omega)))) ( zEG [] rfl rfl (fun hg => aA aE (.gd rfl hg)) ( zEG [] rfl rfl (fun hg => ag (.b rfl)) ( zEG [] rfl rfl (fun hg => al cK aE (.gd rfl hg) (.b rfl) rfl (getD_some (z := ((0, 0) : bE)) (by first | omega | (simp; done) | (simp; omega) | (simp at hg; omega) | (simp at hg; simp; omega)))) ( zEG [] rfl rfl (fun hg => aA aE (.gd rfl hg)) ( zEG [] rfl rfl (fun hg => gY oD rfl rfl oE (.tv (.gd rfl hg)) (.tv (.gd rfl hg))) ( zE [] (aF (.b rfl) (.b rfl) rfl zp) ( AE.cons _ _ _ rfl (bF aE (.b rfl) rfl rfl (Lens.id _) (.tv (.b rfl))) ( zE [] (aU (.b rfl)) ( AE.nil)))))))))))))))))))) zk ?_
    refine aa (am (av (ai ?_)))
    exact aK results160 (ax aE rfl rfl rfl (Lens.id aX)) (aw rfl) ⟨rfl, rfl⟩ (dq (by subst_vars; first | rfl | (simp [aH]; done) | (simp [aH, *]; done) | (unfold aH; split <;> simp [*])))
  try simp at h28
  refine ae (zR (ze rfl rfl (zY rfl (aa ?_))))
  refine af rfl (fun h30 => ?_) (fun h30 => ?_)
  · have g30 := h30; try simp at h30
    refine ah (aa ?_)
    refine bz rfl g30 (ae ?_)
    obtain ⟨x, y, rfl⟩ := kY (l := l) (by have e := hl; unfold bp at e; (repeat' split at e) <;> omega)
    refine bZ mo zk ( zE [] (ag (.b rfl)) ( zE [] (al cK aE (.b rfl) (.b rfl) rfl zg) ( zE [] (aA aE (.b rfl)) ( zE [] (ag (.b rfl)) ( zE [] (al cK aE (.b rfl) (.b rfl) rfl zg) ( zE [] (aO bR bN (.b rfl)) ( zE [] (aA ty3 (.b rfl)) ( zE [] (ca (.b rfl) (.b rfl)) ( zE [] (ag (.b rfl)) ( zEG [] rfl rfl (fun hg => ag (.b rfl)) ( zEG [] rfl rfl (fun hg => al cK aE (.gd rfl hg) (.b rfl) rfl (getD_some (z := ((0, 0) : bE)) (by first | omega | (simp; done) | (simp; omega) | (simp at hg; omega) | (simp at hg; simp; omega)))) ( zEG [] rfl rfl (fun hg => aO bR bN (.gd rfl hg)) ( zEG [] rfl rfl (fun hg => aA ty3 (.gd rfl hg)) ( zEG [] rfl rfl (fun hg => ca (.gd rfl hg) (.b rfl)) ( zE [] (aF (.b rfl) (.b rfl) rfl zp) ( AE.cons _ _ _ rfl (bF aE (.b rfl) rfl rfl (Lens.id _) (.tv (.b rfl))) ( zE [] (aU (.b rfl)) ( AE.nil)))))))))))))))))) zk ?_
    refine aa (am (av (ai ?_)))
    exact aK results160 (ax aE rfl rfl rfl (Lens.id aX)) (aw rfl) ⟨rfl, rfl⟩ (dq (by subst_vars; first | rfl | (simp [aH]; done) | (simp [aH, *]; done) | (unfold aH; split <;> simp [*])))
  have g30 := h30; try simp at h30
  refine ac (ze rfl rfl (zY rfl (aa ?_)))
  refine af rfl (fun h31 => ?_) (fun h31 => ?_)
  · have g31 := h31; try simp at h31
    refine ae ?_
    obtain ⟨x, y, rfl⟩ := kY (l := l) (by have e := hl; unfold bp at e; (repeat' split at e) <;> omega)
    refine bZ mo zk ( zE [] (ag (.b rfl)) ( zE [] (al cK aE (.b rfl) (.b rfl) rfl zg) ( zE [] (aA aE (.b rfl)) ( zE [] (ag (.b rfl)) ( zE [] (al cK aE (.b rfl) (.b rfl) rfl zg) ( zE [] (aO bR bN (.b rfl)) ( zE [] (aA ty3 (.b rfl)) ( zE [] (ca (.b rfl) (.b rfl)) ( zE [] (ag (.b rfl)) ( zEG [] rfl rfl (fun hg => ag (.b rfl)) ( zEG [] rfl rfl (fun hg => al cK aE (.gd rfl hg) (.b rfl) rfl (getD_some (z := ((0, 0) : bE)) (by first | omega | (simp; done) | (simp; omega) | (simp at hg; omega) | (simp at hg; simp; omega)))) ( zEG [] rfl rfl (fun hg => aO bR bN (.gd rfl hg)) ( zEG [] rfl rfl (fun hg => aA ty3 (.gd rfl hg)) ( zEG [] rfl rfl (fun hg => ca (.gd rfl hg) (.b rfl)) ( zE [] (aF (.b rfl) (.b rfl) rfl zp) ( AE.cons _ _ _ rfl (bF aE (.b rfl) rfl rfl (Lens.id _) (.tv (.b rfl))) ( zE [] (aU (.b rfl)) ( AE.nil)))))))))))))))))) zk ?_
    refine aa (am (av (ai ?_)))
    exact aK results160 (ax aE rfl rfl rfl (Lens.id aX)) (aw rfl) ⟨rfl, rfl⟩ (dq (by subst_vars; first | rfl | (simp [aH]; done) | (simp [aH, *]; done) | (unfold aH; split <;> simp [*])))
  have g31 := h31; try simp at h31
  refine ae (zR (ze rfl rfl (zY rfl (aa ?_))))
  refine af rfl (fun h33 => ?_) (fun h33 => ?_)
  · have g33 := h33; try simp at h33
    refine ah (aa ?_)
    refine bz rfl g33 (ae ?_)
    obtain ⟨x, y, rfl⟩ := kY (l := l) (by have e := hl; unfold bp at e; (repeat' split at e) <;> omega)
    refine bZ mo zk ( zE [] (aI z90 rfl d4 (.cons (rt' := (ak .i64)) rfl bN (.raw (.b rfl) rfl) .nil)) ( zE [] (ag (.b rfl)) ( zE [] (al cK aE (.b rfl) (.b rfl) rfl zg) ( zE [] (aO bR bN (.b rfl)) ( zE [] (aA ty3 (.b rfl)) ( zE [] (ca (.b rfl) (.b rfl)) ( zE [] (ag (.b rfl)) ( zEG [] rfl rfl (fun hg => ag (.b rfl)) ( zEG [] rfl rfl (fun hg => al cK aE (.gd rfl hg) (.b rfl) rfl (getD_some (z := ((0, 0) : bE)) (by first | omega | (simp; done) | (simp; omega) | (simp at hg; omega) | (simp at hg; simp; omega)))) ( zEG [] rfl rfl (fun hg => aO bR bN (.gd rfl hg)) ( zEG [] rfl rfl (fun hg => aA ty3 (.gd rfl hg)) ( zEG [] rfl rfl (fun hg => ca (.gd rfl hg) (.b rfl)) ( zE [] (aF (.b rfl) (.b rfl) rfl zp) ( AE.cons _ _ _ rfl (bF aE (.b rfl) rfl rfl (Lens.id _) (.tv (.b rfl))) ( zE [] (aU (.b rfl)) ( AE.nil)))))))))))))))) zk ?_
    refine aa (am (av (ai ?_)))
    exact aK results160 (ax aE rfl rfl rfl (Lens.id aX)) (aw rfl) ⟨rfl, rfl⟩ (dq (by subst_vars; first | rfl | (simp [aH]; done) | (simp [aH, *]; done) | (unfold aH; split <;> simp [*])))
  have g33 := h33; try simp at h33
  refine ac (ze rfl rfl (zY rfl (aa ?_)))
  refine af rfl (fun h34 => ?_) (fun h34 => ?_)
  · have g34 := h34; try simp at h34
    refine ae ?_
    obtain ⟨x, y, rfl⟩ := kY (l := l) (by have e := hl; unfold bp at e; (repeat' split at e) <;> omega)
    refine bZ mo zk ( zE [] (aI z90 rfl d4 (.cons (rt' := (ak .i64)) rfl bN (.raw (.b rfl) rfl) .nil)) ( zE [] (ag (.b rfl)) ( zE [] (al cK aE (.b rfl) (.b rfl) rfl zg) ( zE [] (aO bR bN (.b rfl)) ( zE [] (aA ty3 (.b rfl)) ( zE [] (ca (.b rfl) (.b rfl)) ( zE [] (ag (.b rfl)) ( zEG [] rfl rfl (fun hg => ag (.b rfl)) ( zEG [] rfl rfl (fun hg => al cK aE (.gd rfl hg) (.b rfl) rfl (getD_some (z := ((0, 0) : bE)) (by first | omega | (simp; done) | (simp; omega) | (simp at hg; omega) | (simp at hg; simp; omega)))) ( zEG [] rfl rfl (fun hg => aO bR bN (.gd rfl hg)) ( zEG [] rfl rfl (fun hg => aA ty3 (.gd rfl hg)) ( zEG [] rfl rfl (fun hg => ca (.gd rfl hg) (.b rfl)) ( zE [] (aF (.b rfl) (.b rfl) rfl zp) ( AE.cons _ _ _ rfl (bF aE (.b rfl) rfl rfl (Lens.id _) (.tv (.b rfl))) ( zE [] (aU (.b rfl)) ( AE.nil)))))))))))))))) zk ?_
    refine aa (am (av (ai ?_)))
    exact aK results160 (ax aE rfl rfl rfl (Lens.id aX)) (aw rfl) ⟨rfl, rfl⟩ (dq (by subst_vars; first | rfl | (simp [aH]; done) | (simp [aH, *]; done) | (unfold aH; split <;> simp [*])))
  have g34 := h34; try simp at h34
  refine ae (zR (ze rfl rfl (zY rfl (aa ?_))))
  refine af rfl (fun h36 => ?_) (fun h36 => ?_)
  · have g36 := h36; try simp at h36
    refine ah (aa ?_)
    refine bz rfl g36 (ae ?_)
    obtain ⟨x, rfl⟩ := xc (l := l) (by have e := hl; unfold bp at e; (repeat' split at e) <;> omega)
    refine bZ mo zk ( zE [] (aI z90 rfl d4 (.cons (rt' := (ak .i64)) rfl bN (.raw (.b rfl) rfl) .nil)) ( zE [] (ag (.b rfl)) ( zE [] (al cK aE (.b rfl) (.b rfl) rfl zg) ( zE [] (aO bR bN (.b rfl)) ( zE [] (aA ty3 (.b rfl)) ( zE [] (ca (.b rfl) (.b rfl)) ( AE.cons _ _ _ rfl (bF aE (.b rfl) rfl rfl (Lens.id _) (.tv (.b rfl))) ( zE [] (aU (.b rfl)) ( AE.nil))))))))) zk ?_
    refine aa (am (av (ai ?_)))
    exact aK results160 (ax aE rfl rfl rfl (Lens.id aX)) (aw rfl) ⟨rfl, rfl⟩ (dq (by subst_vars; first | rfl | (simp [aH]; done) | (simp [aH, *]; done) | (unfold aH; split <;> simp [*])))
  have g36 := h36; try simp at h36
  refine ac (ze rfl rfl (zA rfl (zQ [1,4,212] [4] (aa ?_))))
  refine af rfl (fun h37 => ?_) (fun h37 => ?_)
  · have g37 := h37; try simp at h37
    refine ae ?_
    obtain ⟨x, rfl⟩ := xc (l := l) (by have e := hl; unfold bp at e; (repeat' split at e) <;> omega)
    refine bZ mo zk ( zE [] (aI z90 rfl d4 (.cons (rt' := (ak .i64)) rfl bN (.raw (.b rfl) rfl) .nil)) ( zE [] (ag (.b rfl)) ( zE [] (al cK aE (.b rfl) (.b rfl) rfl zg) ( zE [] (aO bR bN (.b rfl)) ( zE [] (aA ty3 (.b rfl)) ( zE [] (ca (.b rfl) (.b rfl)) ( AE.cons _ _ _ rfl (bF aE (.b rfl) rfl rfl (Lens.id _) (.tv (.b rfl))) ( zE [] (aU (.b rfl)) ( AE.nil))))))))) zk ?_
    refine aa (am (av (ai ?_)))
    exact aK results160 (ax aE rfl rfl rfl (Lens.id aX)) (aw rfl) ⟨rfl, rfl⟩ (dq (by subst_vars; first | rfl | (simp [aH]; done) | (simp [aH, *]; done) | (unfold aH; split <;> simp [*])))
  have g37 := h37; try simp at h37
  refine ah (aG (aa (zR (zJ (aI z90 rfl d4 .nil) (zC aE rfl rfl rfl (Lens.id _) (.tv (.b rfl)) (zY rfl (aa (am ?_))))))))
  exact aK results160 (ax aE rfl rfl rfl (Lens.id aX)) (aw rfl) ⟨rfl, rfl⟩ (dq (by subst_vars; first | rfl | (simp [aH]; done) | (simp [aH, *]; done) | (unfold aH; split <;> simp [*])))
end Go.Proofs.YtehcaebnijlhgaaGreatDoor
