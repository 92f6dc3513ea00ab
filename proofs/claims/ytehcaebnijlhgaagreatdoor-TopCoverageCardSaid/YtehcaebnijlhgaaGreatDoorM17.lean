import Derived.Test.YtehcaebnijlhgaaGreatDoorM3
import Derived.Test.YtehcaebnijlhgaaGreatDoorM16
import Derived.Test.YtehcaebnijlhgaaGreatDoorM14
import Derived.Test.YtehcaebnijlhgaaGreatDoorM9
set_option linter.unusedVariables false
set_option linter.unusedSimpArgs false
namespace Go.Proofs.YtehcaebnijlhgaaGreatDoor
open Go.Eng Tryz
set_option maxRecDepth 100000
set_option maxHeartbeats 4000000
open C15 C23
theorem sk {gs : List (List aP)} (inp : Int) (h : ∀ e ∈ gs, e.length ≤ 50) : ∀ k, (gK gs inp k).length ≤ 100 * k
  | 0 => by simp [gK]
  | k + 1 => by
    have := sk inp h k
    have h1 := l6 (gs[k]?.getD []) inp (gs[k]?.getD []).length
    have h2 : (gs[k]?.getD []).length ≤ 50 := by
      cases hg : gs[k]? with
      | none => simp
      | some e => exact h e (List.mem_of_getElem? hg)
    simp only [gK, List.length_append]; omega
theorem yN {t : bE} {en : List bV} {cuts : List Int} (hen : ∀ x ∈ en, x.2.length ≤ 20) : (dF t en cuts).length ≤ 21 + cuts.length := by
  unfold dF
  split
  · simp
  split
  · rename_i hk
    rw [vK]
    have hm : j2 en t.2 ≤ 20 := by
      unfold j2
      cases h : en[t.2.toNat]? with
      | none => simp
      | some x => have := hen x (List.mem_of_getElem? h); simp; omega
    have : (aJ t en).2 ≤ 20 ∧ (aJ t en).1 = 0 := by
      unfold aJ; (repeat' split) <;> first | (simp; done) | (simp; omega) | (exfalso; omega)
    omega
  have h1 := dI ([(aJ t en).1] ++ cuts.filter (inR (aJ t en).1 (aJ t en).2))
  have h2 := List.length_filter_le (inR (aJ t en).1 (aJ t en).2) cuts
  simp at h1 ⊢; omega
theorem Cn {rs : List bB} {l : List Nat} {e : List aP} (h : e ∈ gsK rs l) : 0 < e.length ∧ ∃ i ∈ l, e = grd rs i := by
  unfold gsK at h
  rw [List.mem_filter, List.mem_map] at h
  obtain ⟨⟨i, h1, h2⟩, h3⟩ := h
  exact ⟨by simpa using h3, i, h1, h2.symm⟩
theorem lt {s : ba} {d date : Int} {e : List aP} (h : e ∈ dP s d date) : 0 < e.length ∧ ∃ r ∈ s.2.2.2.2, e = r.2.2.2.2.2.1 := by
  obtain ⟨h0, i, hi, rfl⟩ := Cn h
  have hlt := iP (j5.1 hi).2
  exact ⟨h0, _, List.getElem_mem hlt, kJ hlt⟩
theorem tZ (s : ba) (d date : Int) : (dP s d date).length ≤ s.2.2.2.2.length := by
  have h := ww (rs := s.2.2.2.2) (l := eY (fD d date) s.2.2.2.2 s.2.2.2.2.length) (k := (eY (fD d date) s.2.2.2.2 s.2.2.2.2.length).length)
  rw [List.take_length] at h
  exact Nat.le_trans h (ja _ _ _)
def sc (l : cA) (scope : Int) : ba := l.2.2[scope.toNat]?.getD scD
theorem kQ {l : cA} {i : Nat} (h : i < l.2.2.length) : sc l (i : Int) = l.2.2[i] := by unfold sc; rw [Int.toNat_natCast, List.getElem?_eq_getElem h]; rfl
def dZ (en : List bV) (gs : List (List aP)) (i : Nat) (f : cf) : List Int := if cL gs (i : Int) = true then dF f.2 en (cj (gK gs (i : Int) gs.length)) else [0]
def eP (en : List bV) (gs : List (List aP)) (fs : List cf) (k : Nat) : List (List Int) := (List.range k).map (fun i => dZ en gs i (fs[i]?.getD fiD))
theorem Co (en : List bV) (gs : List (List aP)) (fs : List cf) (k : Nat) : eP en gs fs (k + 1) = eP en gs fs k ++ [dZ en gs k (fs[k]?.getD fiD)] := by
  unfold eP; rw [List.range_succ, List.map_append]; rfl
theorem iQ (en : List bV) (gs : List (List aP)) (fs : List cf) (k : Nat) : (eP en gs fs k).length = k := by unfold eP; simp
theorem ro {en : List bV} {gs : List (List aP)} {fs : List cf} {k : Nat} (hen : ∀ x ∈ en, x.2.length ≤ 20) (hgs : ∀ e ∈ gs, e.length ≤ 50) (hgl : gs.length ≤ 60) : ∀ x ∈ eP en gs fs k, x.length ≤ 100000 := fun x hx => by
  unfold eP at hx; rw [List.mem_map] at hx
  obtain ⟨i, _, rfl⟩ := hx
  unfold dZ
  split
  · have h1 := yN (t := (fs[i]?.getD fiD).2) (cuts := cj (gK gs (i : Int) gs.length)) hen
    have h2 := dI (gK gs (i : Int) gs.length)
    have h3 := sk (i : Int) hgs gs.length
    omega
  simp
def aC (l : cA) (s : ba) (d date : Int) : List (List Int) := eP l.1 (dP s d date) s.2.2.1 s.2.2.1.length
noncomputable def dh (l : cA) (scope d date : Int) : List (List Int) × Int :=
  if ((jV l).1 != 0) = true then ([], 1) else
  if scope < 0 ∨ (l.2.2.length : Int) ≤ scope ∨ d < 0 ∨ ((sc l scope).2.2.2.1.length : Int) ≤ d then ([], 6) else
  if date < 0 ∨ 109572 < date then ([], 3) else
  if (dP (sc l scope) d date).any (fun e => !dO e (eH l (sc l scope))) = true then ([], 17) else
  if 4096 < iA (aC l (sc l scope) d date) then ([], 4) else (aC l (sc l scope) d date, 0)
theorem sj (l : cA) (scope d date : Int) (hL : SmL l) (hN : o3 l) : Ct prog 7 [.tv cz l, .raw (.int .i64 scope), .raw (.int .i64 d), .raw (.int .i64 date)] (.tup2 (.tv (ab (ab (ak .i64))) (dh l scope d date).1) (.raw (.int .i64 (dh l scope d date).2))) := by
  refine ay func7 rfl rfl ntmps7 rfl rfl ?_
  intro w0 ok0
  have hll := hL.1
  have hE20 : ∀ e ∈ l.1, e.2.length ≤ 20 := fun e he => (hL.2.1 e he).2.1
  have hE2 : ∀ e ∈ l.1, e.2.length ≤ 1000000 := fun e he => by have := hE20 e he; omega
  have hE3 : ∀ e ∈ l.1, e.2.length ≤ 100000 := fun e he => by have := hE20 e he; omega
  have hT2 : ∀ t ∈ l.2.1, t.2.2.2.length ≤ 1000000 := fun t ht => by have h1 := s8 ht; have h2 := hL.2.2.1.2; omega
  have hS : ∀ s ∈ l.2.2, s.2.2.1.length ≤ 1000000 ∧ s.2.2.2.1.length ≤ 1000000 := fun s hs => by have h1 := (hL.2.2.2.1 s hs).1; omega
  refine zR (zb (.tv (.b rfl)) (zA rfl (zY rfl (aa (ae (zR (zL e9 rfl rfl rfl (Lens.id _) (zJ (an (vw l hL hN) (.cons (.b rfl) .nil) rfl rfl) (zl z52 (zC eo rfl rfl rfl (Lens.id _) (.tv (.b rfl)) (zZ (zR (zF fJ rfl (zL kp rfl rfl rfl fd (zJ (bQ (.b rfl) (.b rfl)) (zZ ?_))))))))))))))))
  refine af rfl (fun h2 => ?_) (fun h2 => ?_)
  · skip
    refine zR (zA rfl (zY rfl (aa (am (ai ?_)))))
    exact aK results7 (dl rfl) (aw rfl) ⟨rfl, rfl⟩ (by unfold dh; rw [if_pos h2])
  skip
  refine ah (aa (ae (zR (zM rfl (zt rfl rfl (zM rfl (zG rfl rfl (fun hg => ag (.b rfl)) (zG rfl rfl (fun hg => ao cN (.b rfl)) (zG rfl rfl (fun hg => aj gB (.gd rfl hg) rfl rfl du) (zG rfl rfl (fun hg => cJ fx (.gd rfl hg)) (zG rfl rfl (fun hg => bW (.gd rfl hg) (.gd rfl hg)) (zJ (aB (.b rfl) (.b rfl) rfl zp) (zM rfl (zG rfl rfl (fun hg => ag (.b rfl)) (zG rfl rfl (fun hg => dS (.gd rfl hg) (.b rfl)) (zJ (aB (.b rfl) (.b rfl) rfl zp) (zM rfl (zG rfl rfl (fun hg => ag (.b rfl)) (zG rfl rfl (fun hg => ao cN (.b rfl)) (zG rfl rfl (fun hg => aj gB (.gd rfl hg) rfl rfl du) (zG rfl rfl (fun hg => ag (.b rfl)) (zG rfl rfl (fun hg => al fx dx (.gd rfl hg) (.gd rfl hg) (show scope = ((scope.toNat : Nat) : Int) by simp at hg; omega) (getD_some (l := l.2.2) (i := scope.toNat) (z := scD) (by simp at hg; omega))) (zG rfl rfl (fun hg => aO dD d8 (.gd rfl hg)) (zG rfl rfl (fun hg => aA fj (.gd rfl hg)) (zG rfl rfl (fun hg => cJ ei (.gd rfl hg)) (zG rfl rfl (fun hg => bW (.gd rfl hg) (.gd rfl hg)) (zJ (aB (.b rfl) (.b rfl) rfl zp) (zZ ?_))))))))))))))))))))))))))))
  refine af rfl (fun h4 => ?_) (fun h4 => ?_)
  · have h4 : scope < 0 ∨ (l.2.2.length : Int) ≤ scope ∨ d < 0 ∨ ((sc l scope).2.2.2.1.length : Int) ≤ d := by
      by_cases q0 : scope < 0
      · exact .inl q0
      by_cases q1 : (l.2.2.length : Int) ≤ scope
      · exact .inr (.inl q1)
      by_cases q2 : d < 0
      · exact .inr (.inr (.inl q2))
      simp [q0, q1, q2] at h4
      exact .inr (.inr (.inr h4))
    refine zR (zA rfl (zY rfl (aa (am (ai ?_)))))
    exact aK results7 (dl rfl) (aw rfl) ⟨rfl, rfl⟩ (by unfold dh; rw [if_neg (by rw [h2]; decide), if_pos h4])
  have h4 : ¬ (scope < 0 ∨ (l.2.2.length : Int) ≤ scope ∨ d < 0 ∨ ((sc l scope).2.2.2.1.length : Int) ≤ d) := by
    rintro (q | q | q | q)
    · simp [q] at h4
    · simp [q] at h4
    · simp [q] at h4
    have q : ((l.2.2[scope.toNat]?.getD scD).2.2.2.1.length : Int) ≤ d := q
    simp [q] at h4
  obtain ⟨i, hii⟩ : ∃ i : Nat, scope = i := ⟨scope.toNat, by omega⟩
  have h4s := h4
  subst hii
  have hi0 : i < l.2.2.length := by omega
  have hsc := kQ hi0
  have hss := hL.2.2.2.1 _ (List.getElem_mem hi0)
  have hsn := hN.2 _ (List.getElem_mem hi0)
  have hrl : l.2.2[i].2.2.2.2.length ≤ 60 := hss.1.2.2.2
  have hgl := tZ l.2.2[i] d date
  have hil : l.2.2[i].2.2.1.length ≤ 14 := hss.1.2.1
  refine ah (aa (ae (zR (zM rfl (zt rfl rfl (zM rfl (zG rfl rfl (fun hg => ag (.b rfl)) (zG rfl rfl (fun hg => bY (.gd rfl hg) (.b rfl)) (zJ (aB (.b rfl) (.b rfl) rfl zp) (zZ ?_))))))))))
  refine af rfl (fun h6 => ?_) (fun h6 => ?_)
  · have h6 : date < 0 ∨ 109572 < date := by simp at h6; omega
    refine zR (zA rfl (zY rfl (aa (am (ai ?_)))))
    exact aK results7 (dl rfl) (aw rfl) ⟨rfl, rfl⟩ (by unfold dh; rw [if_neg (by rw [h2]; decide), if_neg h4s, if_pos h6])
  have h6 : ¬ (date < 0 ∨ 109572 < date) := by simp at h6; omega
  refine ah (aa (zR (zF cN rfl (zL gB rfl rfl rfl du (zM rfl ?_)))))
  refine bc _ rfl _ rfl rfl (al fx dx (.b rfl) (.b rfl) rfl zg) ?_
  refine zD dx rfl (zl z81 (zC dx rfl rfl rfl (Lens.id _) (.tv (.b rfl)) (zZ (zR (zL dx rfl rfl rfl (Lens.id _) (zM rfl (zM rfl (zJ (an (Cm _ _ _ zo) (.cons (.b rfl) (.cons (.b rfl) (.cons (.b rfl) .nil))) rfl rfl) (zY rfl (aa (zR (zL e9 rfl rfl rfl (Lens.id _) (zM rfl (zJ (an (sig_ok l i hi0 hS zo hE2 zo hT2) (.cons (.b rfl) (.cons (.b rfl) .nil)) rfl rfl) (zl z86 (zC eV rfl rfl rfl (Lens.id _) (.tv (.b rfl)) (zZ (ae (zR (zM rfl (zN sZ rfl (zM rfl (zZ (aq ?_))))))))))))))))))))))))
  refine aZ (ι := Nat) (fun k => ⟨[(4, .optr 4 cz.n 0 0), (11, .optr 11 bx.n 0 0), (12, .tv (ab (ab bX)) (dP l.2.2[i] d date)), (13, .optr 13 bS.n 0 0), (67, .tv (ab (ab bX)) (dP l.2.2[i] d date)), (68, .raw (.int .i64 ((dP l.2.2[i] d date).length))), (69, .raw (.int .i64 ((k : Nat))))], [(4, ⟨cz, [l]⟩), (11, ⟨bx, [l.2.2[i]]⟩), (13, ⟨bS, [eH l l.2.2[i]]⟩)]⟩) (fun k => k ≤ (dP l.2.2[i] d date).length ∧ ∀ x ∈ (dP l.2.2[i] d date).take k, (fun e => !dO e (eH l l.2.2[i])) x = false) (fun k => (dP l.2.2[i] d date).length - k) 0 (⟨Nat.zero_le _, fun x hx => by simp at hx⟩) (fun a w hi => (zI hi)) ?_
  rintro k ⟨hk, hno⟩
  refine zR (zt rfl rfl (zZ (ae ?_)))
  refine af rfl (fun h12 => ?_) (fun h12 => ?_)
  · have h12 : k < (dP l.2.2[i] d date).length := by simpa using h12
    have hnf : ∀ z ∈ (dP l.2.2[i] d date)[k], z.2 ≤ 9223372036854775807 := fun q hq => by
      obtain ⟨_, r, hr, e⟩ := lt (List.getElem_mem h12)
      rw [e] at hq; exact ((hsn r hr).1 q hq).2
    refine ah (aa (ae (aq (zR ?_))))
    refine bc _ rfl _ rfl rfl (al sZ hP (.b rfl) (.b rfl) rfl zg) ?_
    refine zD hP rfl (zY rfl (aa (zR (zM rfl (zL eV rfl rfl rfl (Lens.id _) (zJ (an (xg _ _ hnf) (.cons (.b rfl) (.cons (.b rfl) .nil)) rfl rfl) (zJ (b6 (.b rfl)) (zZ ?_))))))))
    refine af rfl (fun h14 => ?_) (fun h14 => ?_)
    · skip
      refine zR (zA rfl (zA rfl (zQ [8,9] [] (aa (am (av (ai (bL (av (ai ?_))))))))))
      exact aK results7 (dl rfl) (aw rfl) ⟨rfl, rfl⟩ (by unfold dh; rw [if_neg (by rw [h2]; decide), if_neg h4s, if_neg h6, hsc, if_pos (List.any_eq_true.2 ⟨_, List.getElem_mem h12, h14⟩)])
    skip
    refine ah (aG (aa (ac (zU rfl rfl zw (zM rfl (aN ?_))))))
    exact aD (fun a w hi => ⟨k + 1, zj, (⟨by omega, fi h12 hno h14⟩), (zI hi)⟩)
  have h12 : (dP l.2.2[i] d date).length ≤ k := by simpa using h12
  have hfl : (dP l.2.2[i] d date).any (fun e => !dO e (eH l l.2.2[i])) = false := List.any_eq_false.2 (fun x hx => by have q : (!dO x (eH l l.2.2[i])) = false := hO h12 hno x hx; rw [q]; decide)
  have hg50 : ∀ e ∈ (dP l.2.2[i] d date), e.length ≤ 50 := fun e he => by
    obtain ⟨_, r, hr, q⟩ := lt he
    rw [q]; exact (hss.2.2.2 r hr).2.2.1
  have hc1 : ∀ e ∈ (dP l.2.2[i] d date), e.length ≤ 1000 := fun e he => by have := hg50 e he; omega
  have hc2 : ∀ e ∈ (dP l.2.2[i] d date), ∀ z ∈ e, z.2 ≤ 9223372036854775807 := fun e he q hq => by
    obtain ⟨_, r, hr, z⟩ := lt he
    rw [z] at hq; exact ((hsn r hr).1 q hq).2
  have hc3 : ∀ e ∈ (dP l.2.2[i] d date), ∀ z ∈ e, -9223372036854775808 ≤ z.2 := fun e he q hq => by
    obtain ⟨_, r, hr, z⟩ := lt he
    rw [z] at hq; exact ((hsn r hr).1 q hq).1
  refine bg (be (aY (bf (aa (ae (ac (zY rfl (aa (ae (zR (zF fm rfl (zL fj rfl rfl rfl fO (zN ei rfl (zM rfl (zZ (aq ?_))))))))))))))))
  refine eO 70 16 (ab (ak .i64)) rfl rfl rfl ?_
  refine aZ (ι := Nat) (fun k => ⟨[(4, .optr 4 cz.n 0 0), (12, .tv (ab (ab bX)) (dP l.2.2[i] d date)), (16, .own 70 (ab (ak .i64)).n 0 (eP l.1 (dP l.2.2[i] d date) l.2.2[i].2.2.1 k).length), (79, .tv (ab cq) l.2.2[i].2.2.1), (80, .raw (.int .i64 (l.2.2[i].2.2.1.length))), (81, .raw (.int .i64 ((k : Nat))))], [(4, ⟨cz, [l]⟩), (70, ⟨(ab (ak .i64)), (eP l.1 (dP l.2.2[i] d date) l.2.2[i].2.2.1 k)⟩)]⟩) (fun k => k ≤ l.2.2[i].2.2.1.length) (fun k => l.2.2[i].2.2.1.length - k) 0 (Nat.zero_le _) (fun a w hi => (zI hi)) ?_
  rintro k hk
  have hal := iQ l.1 (dP l.2.2[i] d date) l.2.2[i].2.2.1 k
  refine zR (zt rfl rfl (zZ (ae ?_)))
  refine af rfl (fun h19 => ?_) (fun h19 => ?_)
  · have h19 : k < l.2.2[i].2.2.1.length := by simpa using h19
    have hs := Co l.1 (dP l.2.2[i] d date) l.2.2[i].2.2.1 k
    rw [List.getElem?_eq_getElem h19] at hs
    simp only [Option.getD_some] at hs
    refine ah (aa (ae (aq (zR (zM rfl ?_)))))
    refine bc _ rfl _ rfl rfl (al ei e8 (.b rfl) (.b rfl) rfl zg) ?_
    refine zD e8 rfl (zl z92 (zA rfl (zC e8 rfl rfl rfl (Lens.id _) (.tv (.b rfl)) (zZ (zR (zO (gI (rt := ak .i64) (ds := [0]) bd ty3 z3 rfl (.cons (.raw (.b rfl) rfl) .nil) rfl rfl rfl rfl rfl) (zY rfl (aa (ae (ae ?_))))))))))
    refine kH (rt := ak .i64) 86 19 (b8 86 _) rfl rfl (by simp) (bl 86 _) (bC 86 _) ?_
    rw [List.drop_zero, List.take_length]
    refine ac (zM rfl (zM rfl (zJ (an (mJ _ _ zo) (.cons (.b rfl) (.cons (.b rfl) .nil)) rfl rfl) (zZ ?_))))
    refine af rfl (fun h22 => ?_) (fun h22 => ?_)
    · have hgc : dZ l.1 (dP l.2.2[i] d date) k l.2.2[i].2.2.1[k] = dF l.2.2[i].2.2.1[k].2 l.1 (cj (gK (dP l.2.2[i] d date) (k : Int) (dP l.2.2[i] d date).length)) := by unfold dZ; rw [if_pos h22]
      rw [hgc] at hs
      refine dN mo zk ( zS (ao gq (.b rfl)) ( zS (aj aE (.b rfl) rfl rfl fN) ( zS (ao es (.b rfl)) ( zS (aj hU (.b rfl) rfl rfl fy) ( zS (ag (.b rfl)) ( zS (ag (.b rfl)) ( zS (an (sE _ _ zo hc1 hc2 hc3) (.cons (.b rfl) (.cons (.b rfl) .nil)) rfl rfl) ( zS (an (BU _ _ _ (by have h1 := dI (gK (dP l.2.2[i] d date) (k : Int) (dP l.2.2[i] d date).length); have h2 := sk (k : Int) hg50 (dP l.2.2[i] d date).length; omega) hE3) (.cons (.b rfl) (.cons (.b rfl) (.cons (.b rfl) .nil))) rfl rfl) ( zS (aU (.b rfl)) ( AS.nil)))))))))) ?_
      refine aa (ac (zM rfl (zM rfl (zJ (bq (rt := (ab (ak .i64))) fw ek z37 rfl (.cons (.tv (.b rfl)) .nil) rfl rfl) (zV [4,12,79,80,81] fw ek z37 CO rfl rfl (.tv (.b rfl)) ?_)))))
      refine zY rfl (aG (aa (ac (zU rfl rfl zw (zM rfl (aN ?_))))))
      exact aD (fun a w hi => ⟨k + 1, zj, zo, zW hi⟩)
    have hgc : dZ l.1 (dP l.2.2[i] d date) k l.2.2[i].2.2.1[k] = [0] := by unfold dZ; rw [if_neg (by rw [h22]; decide)]
    rw [hgc] at hs
    refine ah (aa (ac (zM rfl (zM rfl (zJ (bq (rt := (ab (ak .i64))) fw ek z37 rfl (.cons (.tv (.b rfl)) .nil) rfl rfl) (zV [4,12,79,80,81] fw ek z37 CO rfl rfl (.tv (.b rfl)) ?_))))))
    refine zY rfl (aG (aa (ac (zU rfl rfl zw (zM rfl (aN ?_))))))
    exact aD (fun a w hi => ⟨k + 1, zj, zo, zW hi⟩)
  have h19 : k = l.2.2[i].2.2.1.length := by simp at h19; omega
  subst h19
  refine bg (be (aY (bf (aa (ae (ae ?_))))))
  refine kH (rt := (ab (ak .i64))) 70 16 (b8 70 _) rfl rfl (by simp) (bl 70 _) (bC 70 _) ?_
  rw [List.drop_zero, List.take_length]
  refine ac (zM rfl (zJ (an (Bb _ (ro hE20 hg50 zo)) (.cons (.b rfl) .nil) rfl rfl) (zJ (bY (.b rfl) (.b rfl)) (zZ ?_))))
  refine af rfl (fun h26 => ?_) (fun h26 => ?_)
  · have h26 : 4096 < iA (aC l l.2.2[i] d date) := by simp at h26; exact h26
    refine zR (zA rfl (zY rfl (aa (am (ai ?_)))))
    exact aK results7 (dl rfl) (aw rfl) ⟨rfl, rfl⟩ (by unfold dh; rw [if_neg (by rw [h2]; decide), if_neg h4s, if_neg h6, hsc, if_neg (by rw [hfl]; decide), if_pos h26])
  have h26 : ¬ 4096 < iA (aC l l.2.2[i] d date) := by simp at h26; exact Int.not_lt.2 h26
  refine ah (aa (zR (zM rfl (zA rfl (zY rfl (aa (am ?_)))))))
  exact z2 results7 rfl rfl (by unfold dh; rw [if_neg (by rw [h2]; decide), if_neg h4s, if_neg h6, hsc, if_neg (by rw [hfl]; decide), if_neg h26]; rfl)
end Go.Proofs.YtehcaebnijlhgaaGreatDoor
namespace Go.Proofs.YtehcaebnijlhgaaGreatDoor
open Go.Eng
set_option maxRecDepth 100000
set_option maxHeartbeats 1000000
open C15 C23
theorem mx {e : List aP} {s : a6} (h : dO e s = true) : (dR e s).2.2 = 0 ∧ (dR e s).1 = (1, 0) ∧ ∀ i, i < e.length → iy e i = true := by
  unfold dO at h
  rw [Bool.and_eq_true, List.all_eq_true] at h
  obtain ⟨h1, h2⟩ := h
  simp at h1
  exact ⟨h1.1, h1.2, fun i hi => h2 i (List.mem_range.2 hi)⟩
theorem x9 {t : bE} {en : List bV} (hen : en.length ≤ 8 ∧ ∀ q ∈ en, q.2.length ≤ 16) (hv : au t en = true) {m : Int} (h0 : (aJ t en).1 ≤ m) (h1 : m ≤ (aJ t en).2) : dK (t.1, t.2, m) = true := by
  unfold aJ at h0 h1
  rw [if_neg (by rw [hv]; simp)] at h0 h1
  unfold au at hv
  by_cases q : 1 ≤ t.1 ∧ t.1 ≤ 5
  · rw [if_pos q] at hv
    have hv : t.2 = 0 := by simpa using hv
    have : t.1 = 1 ∨ t.1 = 2 ∨ t.1 = 3 ∨ t.1 = 4 ∨ t.1 = 5 := by omega
    rcases this with z | z | z | z | z <;> simp [z] at h0 h1 <;> simp [dK, iF, z, hv] <;> omega
  rw [if_neg q] at hv
  split at hv
  · rename_i q6
    simp at hv
    simp [q6] at h0 h1
    have hm : j2 en t.2 ≤ 16 := by
      unfold j2
      rw [List.getElem?_eq_getElem (show t.2.toNat < en.length by omega)]
      have := hen.2 _ (List.getElem_mem (show t.2.toNat < en.length by omega))
      simp; omega
    simp [dK, iF, q6]; omega
  cases hv
def kM (en : List bV) (fs : List cf) (x : List bh) : Prop := x.length = fs.length ∧ ∀ i, (hi : i < x.length) → (hj : i < fs.length) → (x[i].1 = fs[i].2.1 ∧ x[i].2.1 = fs[i].2.2) ∧ (aJ fs[i].2 en).1 ≤ x[i].2.2 ∧ x[i].2.2 ≤ (aJ fs[i].2 en).2
theorem sig_in (l : cA) (s : ba) : (eH l s).2.2.1 = qo s.2.2.1 := rfl
theorem wx {fs : List cf} {i : Nat} (h : i < fs.length) (h' : i < (qo fs).length) : (qo fs)[i] = fs[i].2 := by simp only [qo, List.getElem_map]
theorem wD {e : List aP} {l : cA} {s : ba} (hf : dO e (eH l s) = true) (he : 0 < e.length) (hen : l.1.length ≤ 8 ∧ ∀ q ∈ l.1, q.2.length ≤ 16) (hv : ∀ f ∈ s.2.2.1, au f.2 l.1 = true) : ∃ ty, ∀ x, kM l.1 s.2.2.1 x → Flat e (eH l s) ty x := by
  obtain ⟨t1, t2, t3⟩ := mx hf
  obtain ⟨ty, h1, h2, h3⟩ := typed t1
  refine ⟨ty, fun x hx => ⟨hen, h1, h2, by rw [← h3, t2], t3, by rw [sig_in]; unfold qo; rw [List.length_map]; exact hx.1, fun i hi hi2 => ?_⟩⟩
  have hi3 : i < s.2.2.1.length := by have := hx.1; omega
  obtain ⟨⟨a1, a2⟩, a3, a4⟩ := hx.2 i hi hi3
  have e1 : ((eH l s).2.2.1)[i] = s.2.2.1[i].2 := wx hi3 (by unfold qo; rw [List.length_map]; exact hi3)
  rw [e1]
  have hp := x9 hen (hv _ (List.getElem_mem hi3)) a3 a4
  rw [← a1, ← a2] at hp
  exact ⟨a1, a2, hp, a3, a4⟩
theorem ve {e : List aP} {l : cA} {s : ba} {x : List bh} (hf : 0 < e.length → dO e (eH l s) = true) (hl : e.length ≤ 50) (hen : l.1.length ≤ 8 ∧ ∀ q ∈ l.1, q.2.length ≤ 16) (hv : ∀ f ∈ s.2.2.1, au f.2 l.1 = true) (hx : kM l.1 s.2.2.1 x) : GOK (eH l s) x e := fun h0 => by
  obtain ⟨ty, h⟩ := wD (hf h0) h0 hen hv
  exact ⟨⟨ty, h x hx⟩, me (mx (hf h0)).1, by omega⟩
end Go.Proofs.YtehcaebnijlhgaaGreatDoor
namespace Go.Proofs.YtehcaebnijlhgaaGreatDoor
open Go.Eng
set_option maxRecDepth 100000
set_option maxHeartbeats 1000000
open C15 C23
theorem zf (e : List aP) (z : Int) : (∃ i, ∃ h : i < e.length, nd e z = e[i]) ∨ nd e z = (0, 0) := by
  unfold nd
  rw [List.getD_eq_getElem?_getD]
  by_cases h : z.toNat < e.length
  · left; exact ⟨z.toNat, h, by rw [List.getElem?_eq_getElem h]; rfl⟩
  right; rw [List.getElem?_eq_none zo]; rfl
theorem wE {e : List aP} {x y : List bh} (h : ∀ i, (hi : i < e.length) → e[i].1 = 7 → x.getD e[i].2.toNat (0, 0, 0) = y.getD e[i].2.toNat (0, 0, 0)) : ∀ n, evV e x n = evV e y n
  | 0 => rfl
  | n + 1 => by
    have ih := wE h n
    funext z
    rw [evV, evV, ih]
    split
    · rfl
    have hl : dc (nd e z) x = dc (nd e z) y := by
      unfold dc
      split
      · rename_i q
        rcases zf e z with ⟨i, hi, hz⟩ | hz
        · rw [hz] at q ⊢; exact h i hi q
        rw [hz] at q; cases q
      rfl
    unfold lH
    split <;> first | exact hl | rfl
theorem loc_eq {l : List Int} {a b : Int} (h : ∀ c ∈ l, (c ≤ a ↔ c ≤ b)) : gl l a = gl l b := by
  have : ∀ k, k ≤ l.length → ob l a k = ob l b k := fun k => by
    induction k with
    | zero => intro _; rfl
    | succ k ih =>
      intro hk
      have hk : k < l.length := by omega
      rw [ob, ob, ih zo, List.getElem?_eq_getElem hk]
      simp only [Option.getD_some]
      have := h _ (List.getElem_mem hk)
      by_cases q : l[k] ≤ a
      · rw [if_pos q, if_pos (this.1 q)]
      rw [if_neg q, if_neg (fun z => q (this.2 z))]
  exact this _ (Nat.le_refl _)
theorem B6 {l : List Int} {v : Int} (hs : l.Pairwise (· < ·)) (h0 : ∃ c ∈ l, c ≤ v) : ∃ j, ∃ hj : j < l.length, l[j] ≤ v ∧ ∀ c ∈ l, (c ≤ v ↔ c ≤ l[j]) := by
  induction l with
  | nil => obtain ⟨c, hc, _⟩ := h0; cases hc
  | cons a r ih =>
    rw [List.pairwise_cons] at hs
    by_cases q : ∃ c ∈ r, c ≤ v
    · obtain ⟨j, hj, h1, h2⟩ := ih hs.2 q
      refine ⟨j + 1, by simp; omega, by simpa using h1, fun c hc => ?_⟩
      rw [List.mem_cons] at hc
      rcases hc with rfl | hc
      · have := hs.1 _ (List.getElem_mem hj)
        simp only [List.getElem_cons_succ]
        constructor <;> intro <;> omega
      simpa using h2 c hc
    obtain ⟨c, hc, hcv⟩ := h0
    rw [List.mem_cons] at hc
    have hav : a ≤ v := by
      rcases hc with rfl | hc
      · exact hcv
      exact absurd ⟨c, hc, hcv⟩ q
    refine ⟨0, by simp, by simpa using hav, fun c hc => ?_⟩
    rw [List.mem_cons] at hc
    simp only [List.getElem_cons_zero]
    rcases hc with rfl | hc
    · constructor <;> intro <;> omega
    have h1 := hs.1 c hc
    have h2 : ¬ c ≤ v := fun z => q ⟨c, hc, z⟩
    constructor <;> intro <;> omega
theorem vM {t : bE} {en : List bV} {cuts : List Int} {c : Int} (hb : (aJ t en).1 ≤ (aJ t en).2) (h : c ∈ dF t en cuts) : (aJ t en).1 ≤ c ∧ c ≤ (aJ t en).2 := by
  unfold dF at h
  split at h
  · cases h
  split at h
  · unfold rng at h
    rw [List.mem_map] at h
    obtain ⟨i, hi, rfl⟩ := h
    rw [List.mem_range] at hi
    omega
  rw [(eu _).2, List.mem_append] at h
  rcases h with h | h
  · rw [List.mem_singleton] at h; omega
  have := (List.mem_filter.1 h).2
  unfold inR at this; simp at this; exact this
theorem vN {t : bE} {en : List bV} {cuts : List Int} {v : Int} (hv : au t en = true) (h0 : (aJ t en).1 ≤ v) (h1 : v ≤ (aJ t en).2) :
    ∃ j, ∃ hj : j < (dF t en (cj cuts)).length, ((aJ t en).1 ≤ (dF t en (cj cuts))[j] ∧ (dF t en (cj cuts))[j] ≤ (aJ t en).2) ∧ ((t.1 = 1 ∨ t.1 = 6) → v = (dF t en (cj cuts))[j]) ∧ (¬ (t.1 = 1 ∨ t.1 = 6) → ∀ c ∈ cuts, (c ≤ v ↔ c ≤ (dF t en (cj cuts))[j])) := by
  have hlo : (aJ t en).1 ∈ dF t en (cj cuts) := by
    unfold dF
    rw [if_neg (by rw [hv]; decide)]
    split
    · exact pe zo zo
    rw [(eu _).2]; simp
  obtain ⟨j, hj, h2, h3⟩ := B6 (jr t en (cj cuts)) ⟨_, hlo, h0⟩
  have hin := vM zo (List.getElem_mem hj)
  refine ⟨j, hj, hin, fun hk => ?_, fun hk c hc => ?_⟩
  · have hvm : v ∈ dF t en (cj cuts) := by
      unfold dF
      rw [if_neg (by rw [hv]; decide), if_pos hk]
      exact pe h0 zo
    have := (h3 v hvm).1 (Int.le_refl _)
    omega
  by_cases q : (aJ t en).1 ≤ c ∧ c ≤ (aJ t en).2
  · refine h3 c ?_
    unfold dF
    rw [if_neg (by rw [hv]; decide), if_neg hk, (eu _).2]
    refine List.mem_append_right _ (List.mem_filter.2 ⟨?_, by simp [inR, q.1, q.2]⟩)
    rw [(eu _).2]; exact hc
  constructor <;> intro <;> omega
theorem rE {t : bE} {en : List bV} (hm : ∀ e ∈ en, 1 ≤ e.2.length) (hv : au t en = true) : (aJ t en).1 ≤ 0 ∧ 0 ≤ (aJ t en).2 := by
  unfold aJ
  rw [if_neg (by rw [hv]; decide)]
  by_cases q1 : t.1 = 1
  · rw [if_pos q1]; simp
  rw [if_neg q1]
  by_cases q2 : t.1 = 2
  · rw [if_pos q2]; simp
  rw [if_neg q2]
  by_cases q3 : t.1 = 3
  · rw [if_pos q3]; simp
  rw [if_neg q3]
  by_cases q4 : t.1 = 4
  · rw [if_pos q4]; simp
  rw [if_neg q4]
  by_cases q5 : t.1 = 5
  · rw [if_pos q5]; simp
  rw [if_neg q5]
  obtain ⟨h6, h7, h8⟩ := vt6 hv q1 q2 q3 q4 q5
  have : 1 ≤ j2 en t.2 := by
    unfold j2
    rw [List.getElem?_eq_getElem (show t.2.toNat < en.length by omega)]
    have := hm _ (List.getElem_mem (show t.2.toNat < en.length by omega))
    simp; omega
  simp; omega
theorem lv {en : List bV} {gs : List (List aP)} {fs : List cf} {n i : Nat} (h : i < n) (h' : i < fs.length) (h2 : i < (eP en gs fs n).length) : (eP en gs fs n)[i] = dZ en gs i fs[i] := by
  simp only [eP, List.getElem_map, List.getElem_range]
  rw [List.getElem?_eq_getElem h']; rfl
theorem AK {en : List bV} {gs : List (List aP)} {i : Nat} {f : cf} {c : Int} (hm : ∀ e ∈ en, 1 ≤ e.2.length) (hv : au f.2 en = true) (h : c ∈ dZ en gs i f) : (aJ f.2 en).1 ≤ c ∧ c ≤ (aJ f.2 en).2 := by
  have hz := rE hm hv
  unfold dZ at h
  split at h
  · exact vM zo h
  rw [List.mem_singleton] at h; subst h; exact hz
theorem xI {en : List bV} {gs : List (List aP)} {i : Nat} {f : cf} (hm : ∀ e ∈ en, 1 ≤ e.2.length) (hv : au f.2 en = true) : 0 < (dZ en gs i f).length := by
  have hz := rE hm hv
  unfold dZ
  split
  · obtain ⟨j, hj, _⟩ := vN (cuts := gK gs (i : Int) gs.length) hv hz.1 hz.2
    omega
  simp
theorem lL {en : List bV} {gs : List (List aP)} {fs : List cf} {a : List Int} (hm : ∀ e ∈ en, 1 ≤ e.2.length) (hv : ∀ f ∈ fs, au f.2 en = true) (ha : Vd (eP en gs fs fs.length) a) : kM en fs (jo fs (eP en gs fs fs.length) a fs.length) := by
  refine ⟨qi _ _ _ _, fun i hi hj => ?_⟩
  have hgl := iQ en gs fs fs.length
  have hg : i < (eP en gs fs fs.length).length := by omega
  have hal : i < a.length := by rw [ha.len]; exact hg
  obtain ⟨r0, r1⟩ := ha.rng i hg
  rw [lG hal] at r0 r1
  rw [gp hg, lv hj hj hg] at r1
  have e1 : (jo fs (eP en gs fs fs.length) a fs.length)[i] = wO fs[i] (dZ en gs i fs[i]) a[i] := by
    simp only [jo, List.getElem_map, List.getElem_range]
    rw [List.getElem?_eq_getElem hj, List.getElem?_eq_getElem hg, List.getElem?_eq_getElem hal, lv hj hj hg]; rfl
  rw [e1]
  refine ⟨⟨rfl, rfl⟩, ?_⟩
  show (aJ fs[i].2 en).1 ≤ (dZ en gs i fs[i])[a[i].toNat]?.getD 0 ∧ (dZ en gs i fs[i])[a[i].toNat]?.getD 0 ≤ _
  rw [List.getElem?_eq_getElem (show a[i].toNat < (dZ en gs i fs[i]).length by omega)]
  exact AK (gs := gs) (i := i) hm (hv _ (List.getElem_mem hj)) (List.getElem_mem _)
end Go.Proofs.YtehcaebnijlhgaaGreatDoor
namespace Go.Proofs.YtehcaebnijlhgaaGreatDoor
open Go.Eng
set_option maxRecDepth 100000
set_option maxHeartbeats 1000000
open C15 C23
theorem xJ {en : List bV} {gs : List (List aP)} {i : Nat} {f : cf} {v : Int} (hm : ∀ e ∈ en, 1 ≤ e.2.length) (hv : au f.2 en = true) (h0 : (aJ f.2 en).1 ≤ v) (h1 : v ≤ (aJ f.2 en).2) :
    ∃ j : Nat, ∃ hj : j < (dZ en gs i f).length, (cL gs (i : Int) = true → ((f.2.1 = 1 ∨ f.2.1 = 6) → v = (dZ en gs i f)[j]) ∧ (¬ (f.2.1 = 1 ∨ f.2.1 = 6) → ∀ c ∈ gK gs (i : Int) gs.length, (c ≤ v ↔ c ≤ (dZ en gs i f)[j]))) ∧ (cL gs (i : Int) = false → (dZ en gs i f)[j] = 0) := by
  by_cases hr : cL gs (i : Int) = true
  · have e : dZ en gs i f = dF f.2 en (cj (gK gs (i : Int) gs.length)) := by unfold dZ; rw [if_pos hr]
    obtain ⟨j, hj, _, h2, h3⟩ := vN (cuts := gK gs (i : Int) gs.length) hv h0 h1
    rw [e]
    exact ⟨j, hj, fun _ => ⟨h2, h3⟩, fun q => by rw [hr] at q; cases q⟩
  have e : dZ en gs i f = [0] := by unfold dZ; rw [if_neg hr]
  rw [e]
  exact ⟨0, by simp, fun q => absurd q hr, fun _ => rfl⟩
theorem CN {en : List bV} {gs : List (List aP)} {fs : List cf} {x : List bh} (hm : ∀ e ∈ en, 1 ≤ e.2.length) (hv : ∀ f ∈ fs, au f.2 en = true) (hx : kM en fs x) :
    ∃ a, Vd (eP en gs fs fs.length) a ∧ ∀ i, (hi : i < fs.length) → (h1 : i < x.length) → (h2 : i < (jo fs (eP en gs fs fs.length) a fs.length).length) →
      (cL gs (i : Int) = true → ((fs[i].2.1 = 1 ∨ fs[i].2.1 = 6) → x[i].2.2 = (jo fs (eP en gs fs fs.length) a fs.length)[i].2.2) ∧ (¬ (fs[i].2.1 = 1 ∨ fs[i].2.1 = 6) → ∀ c ∈ gK gs (i : Int) gs.length, (c ≤ x[i].2.2 ↔ c ≤ (jo fs (eP en gs fs fs.length) a fs.length)[i].2.2))) ∧
      (cL gs (i : Int) = false → (jo fs (eP en gs fs fs.length) a fs.length)[i].2.2 = 0) := by
  have H : ∀ i : Nat, ∃ j : Nat, ∀ hi : i < fs.length, ∃ hj : j < (dZ en gs i fs[i]).length, ∀ h1 : i < x.length, (cL gs (i : Int) = true → ((fs[i].2.1 = 1 ∨ fs[i].2.1 = 6) → x[i].2.2 = (dZ en gs i fs[i])[j]) ∧ (¬ (fs[i].2.1 = 1 ∨ fs[i].2.1 = 6) → ∀ c ∈ gK gs (i : Int) gs.length, (c ≤ x[i].2.2 ↔ c ≤ (dZ en gs i fs[i])[j]))) ∧ (cL gs (i : Int) = false → (dZ en gs i fs[i])[j] = 0) := fun i => by
    by_cases hi : i < fs.length
    · have h1 : i < x.length := by have := hx.1; omega
      obtain ⟨_, b0, b1⟩ := hx.2 i h1 hi
      obtain ⟨j, hj, h2, h3⟩ := xJ (gs := gs) (i := i) hm (hv _ (List.getElem_mem hi)) b0 b1
      exact ⟨j, fun _ => ⟨hj, fun _ => ⟨h2, h3⟩⟩⟩
    exact ⟨0, fun q => absurd q hi⟩
  obtain ⟨J, HJ⟩ := Classical.axiomOfChoice H
  have hgl := iQ en gs fs fs.length
  have hal : ((List.range fs.length).map (fun i => (J i : Int))).length = fs.length := by simp
  have haa : ∀ i, (hi : i < fs.length) → ((List.range fs.length).map (fun i => (J i : Int)))[i]'(by rw [hal]; exact hi) = (J i : Int) := fun i hi => by simp
  refine ⟨(List.range fs.length).map (fun i => (J i : Int)), ⟨by rw [hal, hgl], fun i hi => ?_⟩, fun i hi h1 h2 => ?_⟩
  · have hif : i < fs.length := by omega
    obtain ⟨hj, _⟩ := HJ i hif
    rw [lG (by rw [hal]; exact hif), haa i hif, gp hi, lv hif hif hi]
    omega
  obtain ⟨hj, hr⟩ := HJ i hi
  have e1 : (jo fs (eP en gs fs fs.length) ((List.range fs.length).map (fun i => (J i : Int))) fs.length)[i].2.2 = (dZ en gs i fs[i])[J i] := by
    have e2 : (jo fs (eP en gs fs fs.length) ((List.range fs.length).map (fun i => (J i : Int))) fs.length)[i] = wO fs[i] (dZ en gs i fs[i]) (J i : Int) := by
      simp only [jo, List.getElem_map, List.getElem_range]
      rw [List.getElem?_eq_getElem hi, List.getElem?_eq_getElem (show i < (eP en gs fs fs.length).length by omega), List.getElem?_eq_getElem (show i < ((List.range fs.length).map (fun i => (J i : Int))).length by rw [hal]; exact hi), lv hi hi zo]
      simp only [Option.getD_some]
      rw [haa i hi]
    rw [e2]
    show (dZ en gs i fs[i])[(J i : Int).toNat]?.getD 0 = _
    rw [Int.toNat_natCast, List.getElem?_eq_getElem hj]; rfl
  rw [e1]
  exact hr h1
theorem gK_sub {gs : List (List aP)} {e : List aP} {i c : Int} (he : e ∈ gs) (h : c ∈ gK [e] i 1) : c ∈ gK gs i gs.length := by
  have h1 : c ∈ fu e i e.length := by
    rw [nA (k := 0) (by simp)] at h
    simpa [gK] using h
  obtain ⟨j, hj, rfl⟩ := List.getElem_of_mem he
  have : ∀ k, j < k → k ≤ gs.length → c ∈ gK gs i k := fun k => by
    induction k with
    | zero => intro q; omega
    | succ k ih =>
      intro q1 q2
      rw [nA zo, List.mem_append]
      by_cases q : j < k
      · exact .inl (ih q zo)
      obtain rfl : j = k := by omega
      exact .inr h1
  exact this _ hj (Nat.le_refl _)
theorem BV {gs : List (List aP)} {e : List aP} {j : Nat} (he : e ∈ gs) (hj : j < e.length) (h7 : e[j].1 = 7) : cL gs e[j].2 = true := by
  unfold cL
  rw [List.any_eq_true]
  refine ⟨e, he, List.any_eq_true.2 ⟨e[j], List.getElem_mem hj, ?_⟩⟩
  rw [decide_eq_true_eq]
  exact Prod.ext h7.symm rfl
end Go.Proofs.YtehcaebnijlhgaaGreatDoor
namespace Go.Proofs.YtehcaebnijlhgaaGreatDoor
open Go.Eng
set_option maxRecDepth 100000
set_option maxHeartbeats 1000000
open C15 C23
def Near (en : List bV) (gs : List (List aP)) (fs : List cf) (x y : List bh) : Prop := ∀ i, (hi : i < fs.length) → (h1 : i < x.length) → (h2 : i < y.length) →
      (cL gs (i : Int) = true → ((fs[i].2.1 = 1 ∨ fs[i].2.1 = 6) → x[i].2.2 = y[i].2.2) ∧ (¬ (fs[i].2.1 = 1 ∨ fs[i].2.1 = 6) → ∀ c ∈ gK gs (i : Int) gs.length, (c ≤ x[i].2.2 ↔ c ≤ y[i].2.2))) ∧
      (cL gs (i : Int) = false → y[i].2.2 = 0)
def zap (gs : List (List aP)) (x : List bh) : List bh := (List.range x.length).map (fun i : Nat => if cL gs (i : Int) = true then x.getD i (0, 0, 0) else ((x.getD i (0, 0, 0)).1, (x.getD i (0, 0, 0)).2.1, 0))
theorem o5 (gs : List (List aP)) (x : List bh) : (zap gs x).length = x.length := by unfold zap; simp
theorem uy {gs : List (List aP)} {x : List bh} {i : Nat} (h : i < x.length) (h' : i < (zap gs x).length) : (zap gs x)[i] = if cL gs (i : Int) = true then x[i] else (x[i].1, x[i].2.1, 0) := by
  simp only [zap, List.getElem_map, List.getElem_range]
  rw [List.getD_eq_getElem?_getD, List.getElem?_eq_getElem h]; rfl
theorem yb {en : List bV} {gs : List (List aP)} {fs : List cf} {x : List bh} (hm : ∀ e ∈ en, 1 ≤ e.2.length) (hv : ∀ f ∈ fs, au f.2 en = true) (hx : kM en fs x) : kM en fs (zap gs x) := by
  refine ⟨by rw [o5]; exact hx.1, fun i hi hj => ?_⟩
  have h1 : i < x.length := by rw [o5] at hi; exact hi
  obtain ⟨⟨a1, a2⟩, a3, a4⟩ := hx.2 i h1 hj
  rw [uy h1 hi]
  split
  · exact ⟨⟨a1, a2⟩, a3, a4⟩
  have := rE hm (hv _ (List.getElem_mem hj))
  exact ⟨⟨a1, a2⟩, this.1, this.2⟩
theorem xF {l : cA} {s : ba} {gs : List (List aP)} {e : List aP} {x y : List bh} (hen : l.1.length ≤ 8 ∧ ∀ q ∈ l.1, 1 ≤ q.2.length ∧ q.2.length ≤ 16) (hv : ∀ f ∈ s.2.2.1, au f.2 l.1 = true) (hx : kM l.1 s.2.2.1 x) (hy : kM l.1 s.2.2.1 y) (he : e ∈ gs) (h0 : 0 < e.length) (hf : dO e (eH l s) = true)
    (hn : Near l.1 gs s.2.2.1 x y) : vd e x = vd e y := by
  have hm : ∀ e ∈ l.1, 1 ≤ e.2.length := fun e h => (hen.2 e h).1
  obtain ⟨ty, hF⟩ := wD hf h0 ⟨hen.1, fun q h => (hen.2 q h).2⟩ hv
  have F := hF x hx
  have Z := hF (zap gs x) (yb hm hv hx)
  have G := hF y hy
  have hxl := hx.1; have hyl := hy.1
  have e1 : vd e x = vd e (zap gs x) := by
    unfold vd
    rw [wE (x := x) (y := zap gs x) (fun i hi h7 => ?_)]
    obtain ⟨_, h, _⟩ := F.sh_leaf hi zo
    obtain ⟨z0, z1, _⟩ := h h7
    have hlt : e[i].2.toNat < x.length := by omega
    have hr := BV he hi h7
    rw [List.getD_eq_getElem?_getD, List.getD_eq_getElem?_getD, List.getElem?_eq_getElem hlt, List.getElem?_eq_getElem (show e[i].2.toNat < (zap gs x).length by rw [o5]; exact hlt), uy hlt, if_pos (by rw [show ((e[i].2.toNat : Nat) : Int) = e[i].2 by omega]; exact hr)]
  have C : Cells e (eH l s) (zap gs x) y := fun i h1 h2 h3 => by
    have hx1 : i < x.length := by rw [o5] at h1; exact h1
    have hi : i < s.2.2.1.length := by omega
    obtain ⟨n1, n2⟩ := hn i hi hx1 h2
    have et : ((eH l s).2.2.1)[i] = s.2.2.1[i].2 := wx hi (by unfold qo; rw [List.length_map]; exact hi)
    rw [et, uy hx1 h1]
    by_cases hr : cL gs (i : Int) = true
    · rw [if_pos hr]
      obtain ⟨m1, m2⟩ := n1 hr
      by_cases hk : s.2.2.1[i].2.1 = 1 ∨ s.2.2.1[i].2.1 = 6
      · rw [m1 hk]
      refine loc_eq (fun c hc => ?_)
      have hvt := hv _ (List.getElem_mem hi)
      have hc : c ∈ dF s.2.2.1[i].2 l.1 (cj (gK [e] (i : Int) 1)) := hc
      unfold dF at hc
      rw [if_neg (by rw [hvt]; decide), if_neg hk, (eu _).2, List.mem_append] at hc
      rcases hc with hc | hc
      · rw [List.mem_singleton] at hc
        have b1 := (hx.2 i hx1 hi).2.1
        have b2 := (hy.2 i h2 hi).2.1
        subst hc
        exact ⟨fun _ => b2, fun _ => b1⟩
      have := (List.mem_filter.1 hc).1
      rw [(eu _).2] at this
      exact m2 hk c (gK_sub he this)
    rw [if_neg hr]
    have hr : cL gs (i : Int) = false := by simpa using hr
    rw [n2 hr]
  rw [e1]
  have hev := Z.const G C e.length (e.length - 1) zo zo Z.top
  rw [show ((e.length - 1 : Nat) : Int) = (e.length : Int) - 1 by omega] at hev
  exact hev
theorem Bt {l : cA} {s : ba} {d date : Int} {x y : List bh} (hen : l.1.length ≤ 8 ∧ ∀ q ∈ l.1, 1 ≤ q.2.length ∧ q.2.length ≤ 16) (hv : ∀ f ∈ s.2.2.1, au f.2 l.1 = true) (hx : kM l.1 s.2.2.1 x) (hy : kM l.1 s.2.2.1 y) (hf : ∀ e ∈ dP s d date, dO e (eH l s) = true)
    (hn : Near l.1 (dP s d date) s.2.2.1 x y) : apF s.2.2.2.2 (eY (fD d date) s.2.2.2.2 s.2.2.2.2.length) x = apF s.2.2.2.2 (eY (fD d date) s.2.2.2.2 s.2.2.2.2.length) y := by
  unfold apF
  apply List.map_congr_left
  intro i hi
  by_cases h0 : (grd s.2.2.2.2 i).length = 0
  · rw [qD h0, qD h0]
  have he : grd s.2.2.2.2 i ∈ dP s d date := by
    unfold dP gsK
    rw [List.mem_filter, List.mem_map]
    exact ⟨⟨i, hi, rfl⟩, by simp; omega⟩
  rw [qC h0, qC h0, xF hen hv hx hy he zo (hf _ he) hn]
end Go.Proofs.YtehcaebnijlhgaaGreatDoor
namespace Go.Proofs.YtehcaebnijlhgaaGreatDoor
open Go.Eng
set_option maxRecDepth 100000
set_option maxHeartbeats 1000000
open C15 C23
section
variable (rs : List bB) (ix : List Nat) (par pri : List Int) (fs : List cf) (G : List (List Int))
def eM (t : Nat) : List bh := jo fs G (sq G t) fs.length
def eW (t : Nat) : Int := kr par pri (apF rs ix (eM fs G t))
def fX (t : Nat) : cm :=
  if eW rs ix par pri fs G t = -2 then (-2, gi (nI ix) (fcT par pri (apF rs ix (eM fs G t))).1, gi (nI ix) (fcT par pri (apF rs ix (eM fs G t))).2.1, []) else (eW rs ix par pri fs G t, -1, -1, [])
def HL : Nat → List cm
  | 0 => []
  | t + 1 => if 0 ≤ eW rs ix par pri fs G t then HL t else if (HL t).any (fun x => jX x (fX rs ix par pri fs G t)) = true then HL t else
      HL t ++ [((fX rs ix par pri fs G t).1, (fX rs ix par pri fs G t).2.1, (fX rs ix par pri fs G t).2.2.1, eM fs G t)]
def SL : Nat → List Bool
  | 0 => List.replicate ix.length false
  | t + 1 => if 0 ≤ eW rs ix par pri fs G t then (SL t).set (eW rs ix par pri fs G t).toNat true else SL t
end
section
variable {rs : List bB} {ix : List Nat} {par pri : List Int} {fs : List cf} {G : List (List Int)}
theorem pu (t : Nat) : (fX rs ix par pri fs G t).1 = eW rs ix par pri fs G t := by
  unfold fX; split
  · rename_i h; exact h.symm
  rfl
theorem Bz : ∀ t, (HL rs ix par pri fs G t).length ≤ t
  | 0 => by simp [HL]
  | t + 1 => by
    have := Bz t
    rw [HL]; (repeat' split) <;> simp <;> omega
theorem sT : ∀ {t : Nat} {h : cm}, h ∈ HL rs ix par pri fs G t → ∃ u, u < t ∧ h.1 = eW rs ix par pri fs G u ∧ h.1 < 0 ∧ h.2.2.2 = eM fs G u
  | 0, h, hh => by simp [HL] at hh
  | t + 1, h, hh => by
    rw [HL] at hh
    split at hh
    · obtain ⟨u, h1, h2⟩ := sT hh; exact ⟨u, by omega, h2⟩
    rename_i ho
    split at hh
    · obtain ⟨u, h1, h2⟩ := sT hh; exact ⟨u, by omega, h2⟩
    rw [List.mem_append, List.mem_singleton] at hh
    rcases hh with hh | rfl
    · obtain ⟨u, h1, h2⟩ := sT hh; exact ⟨u, by omega, h2⟩
    exact ⟨t, by omega, pu t, by rw [pu]; omega, rfl⟩
theorem wV : ∀ {t u : Nat}, u ≤ t → ∀ h ∈ HL rs ix par pri fs G u, h ∈ HL rs ix par pri fs G t
  | 0, u, hu, h, hh => by obtain rfl : u = 0 := by omega
                          exact hh
  | t + 1, u, hu, h, hh => by
    by_cases e : u = t + 1
    · subst e; exact hh
    have := wV (t := t) (u := u) zo h hh
    rw [HL]; (repeat' split)
    · exact this
    · exact this
    exact List.mem_append_left _ this
theorem HL_has {t u : Nat} (hu : u < t) (ho : eW rs ix par pri fs G u < 0) : ∃ h ∈ HL rs ix par pri fs G t, h.1 = eW rs ix par pri fs G u := by
  have : ∃ h ∈ HL rs ix par pri fs G (u + 1), h.1 = eW rs ix par pri fs G u := by
    rw [HL, if_neg zo]
    split
    · rename_i ha
      obtain ⟨x, hx, he⟩ := List.any_eq_true.1 ha
      refine ⟨x, hx, ?_⟩
      unfold jX at he
      simp at he
      rw [he.1.1, pu]
    exact ⟨_, List.mem_append_right _ (List.mem_singleton.2 rfl), pu u⟩
  obtain ⟨h, h1, h2⟩ := this
  exact ⟨h, wV zo h h1, h2⟩
theorem vt : ∀ t, (SL rs ix par pri fs G t).length = ix.length
  | 0 => by simp [SL]
  | t + 1 => by
    rw [SL]; split
    · rw [List.length_set]; exact vt t
    exact vt t
theorem SL_t : ∀ {t : Nat} {i : Nat}, (SL rs ix par pri fs G t)[i]? = some false → ∀ u, u < t → eW rs ix par pri fs G u ≠ (i : Int)
  | 0, i, h, u, hu => by omega
  | t + 1, i, h, u, hu => by
    rw [SL] at h
    split at h
    · rename_i ho
      rw [List.getElem?_set] at h
      split at h
      · split at h <;> simp at h
      rename_i hne
      by_cases e : u = t
      · subst e; intro q; exact hne zo
      exact SL_t h u zo
    rename_i ho
    by_cases e : u = t
    · subst e; omega
    exact SL_t h u zo
end
end Go.Proofs.YtehcaebnijlhgaaGreatDoor
namespace Go.Proofs.YtehcaebnijlhgaaGreatDoor
open Go.Eng
set_option maxRecDepth 100000
set_option maxHeartbeats 1000000
open C15 C23
theorem pv {l : cA} {scope d date : Int} (h : (dh l scope d date).2 = 0) : (jV l).1 = 0 ∧ ∃ i : Nat, ∃ hi : i < l.2.2.length, scope = i ∧ (0 ≤ d ∧ d < (l.2.2[i].2.2.2.1.length : Int)) ∧ (0 ≤ date ∧ date ≤ 109572) ∧
    (∀ e ∈ dP l.2.2[i] d date, dO e (eH l l.2.2[i]) = true) ∧ iA (aC l l.2.2[i] d date) ≤ 4096 ∧ (dh l scope d date).1 = aC l l.2.2[i] d date := by
  unfold dh at h ⊢
  by_cases h1 : ((jV l).1 != 0) = true
  · rw [if_pos h1] at h; exact absurd h (by decide)
  rw [if_neg h1] at h ⊢
  by_cases h2 : scope < 0 ∨ (l.2.2.length : Int) ≤ scope ∨ d < 0 ∨ ((sc l scope).2.2.2.1.length : Int) ≤ d
  · rw [if_pos h2] at h; exact absurd h (by decide)
  rw [if_neg h2] at h ⊢
  by_cases h3 : date < 0 ∨ 109572 < date
  · rw [if_pos h3] at h; exact absurd h (by decide)
  rw [if_neg h3] at h ⊢
  by_cases h4 : (dP (sc l scope) d date).any (fun e => !dO e (eH l (sc l scope))) = true
  · rw [if_pos h4] at h; exact absurd h (by decide)
  rw [if_neg h4] at h ⊢
  by_cases h5 : 4096 < iA (aC l (sc l scope) d date)
  · rw [if_pos h5] at h; exact absurd h (by decide)
  rw [if_neg h5]
  obtain ⟨i, rfl⟩ : ∃ i : Nat, scope = i := ⟨scope.toNat, by omega⟩
  have hi : i < l.2.2.length := by omega
  rw [kQ hi] at h2 h4 h5 ⊢
  refine ⟨by simpa using h1, i, hi, rfl, by omega, by omega, fun e he => ?_, by omega, rfl⟩
  have h4 : (dP l.2.2[i] d date).any (fun e => !dO e (eH l l.2.2[i])) = false := by simpa using h4
  have := List.any_eq_false.1 h4 e he
  simpa using this
theorem nz {l : cA} {s : ba} {d date : Int} (hm : ∀ e ∈ l.1, 1 ≤ e.2.length) (hv : ∀ f ∈ s.2.2.1, au f.2 l.1 = true) : ∀ i, i < (aC l s d date).length → 0 < ma (aC l s d date) i := fun i hi => by
  have hl : (aC l s d date).length = s.2.2.1.length := iQ _ _ _ _
  rw [gp hi]
  have hif : i < s.2.2.1.length := by omega
  have e : (aC l s d date)[i] = dZ l.1 (dP s d date) i s.2.2.1[i] := lv hif hif hi
  rw [e]
  have := xI (gs := dP s d date) (i := i) hm (hv _ (List.getElem_mem hif))
  omega
theorem oB {l : cA} {s : ba} {d date : Int} (hL : SmL l) (hs : SmS s) : ∀ x ∈ aC l s d date, x.length ≤ 100000 := by
  refine ro (fun e he => (hL.2.1 e he).2.1) (fun e he => ?_) (by have := tZ s d date; have := hs.1.2.2.2; omega)
  obtain ⟨_, r, hr, q⟩ := lt he
  rw [q]; exact (hs.2.2.2 r hr).2.2.1
theorem Be {G : List (List Int)} (hp : ∀ i, i < G.length → 0 < ma G i) (h : iA G ≤ 4096) : pr G G.length ≤ 4096 := by
  have hne : ¬ G.any (fun x => x.length == 0) = true := by
    intro q
    obtain ⟨x, hx, he⟩ := List.any_eq_true.1 q
    obtain ⟨i, hi, rfl⟩ := List.getElem_of_mem hx
    have := hp i hi
    rw [gp hi] at this
    have he := eq_of_beq he
    omega
  unfold iA at h
  rw [if_neg hne] at h
  have h2 : gy G G.length ≤ 4096 := by split at h <;> omega
  have h3 : ∀ k, k ≤ G.length → gy G k ≤ 4096 := fun k hk => by
    by_cases q : gy G k ≤ 4096
    · exact q
    have := qz q (G.length - k)
    rw [show k + (G.length - k) = G.length by omega] at this
    omega
  have h4 : ∀ k, k ≤ G.length → gy G k = pr G k := fun k => by
    induction k with
    | zero => intro _; rfl
    | succ k ih =>
      intro hk
      rw [Bd zo (h3 k zo), ih zo, pr, gp zo]
  rw [← h4 _ (Nat.le_refl _)]; exact h2
end Go.Proofs.YtehcaebnijlhgaaGreatDoor
namespace Go.Proofs.YtehcaebnijlhgaaGreatDoor
open Go.Eng
set_option maxRecDepth 100000
set_option maxHeartbeats 1000000
open C15 C23
theorem y4 {par pri oc : List Int} {n : Int} (hn : 0 < n) (h : ∀ x ∈ oc, x < n) (v : Int) : ofC par pri oc v < n := by
  unfold ofC
  split
  · omega
  split
  · unfold gi
    cases q : oc[((bst par pri oc v)[(0 : Int).toNat]?.getD 0).toNat]? with
    | none => simpa using hn
    | some x => exact h x (List.mem_of_getElem? q)
  omega
theorem y5 {par pri : List Int} {app : List Bool} (h0 : 0 < par.length) : ∀ m, ∀ x ∈ ocS par pri app m, x < (par.length : Int)
  | 0, x, hx => by
    rw [ocS] at hx
    have := List.eq_of_mem_replicate hx
    omega
  | m + 1, x, hx => by
    have ih := y5 (pri := pri) (app := app) h0 m
    rw [ocS] at hx
    rcases List.mem_or_eq_of_mem_set hx with hx | rfl
    · exact ih x hx
    split
    · omega
    exact y4 zo ih _
theorem BQ {par pri : List Int} {app : List Bool} (h0 : 0 < par.length) : kr par pri app < (par.length : Int) := by
  unfold kr
  split
  · omega
  exact y4 zo (y5 h0 _) _
theorem bst_0 {par pri oc : List Int} {v : Int} (h : par.length = 0) : (bst par pri oc v).length = 0 := by
  cases q : bst par pri oc v with
  | nil => rfl
  | cons x l =>
    have := l8 (par := par) (pri := pri) (oc := oc) (v := v) (x := x) (by rw [q]; exact List.mem_cons_self)
    omega
theorem yx {par pri : List Int} {app : List Bool} (h : 0 ≤ kr par pri app) : kr par pri app < (par.length : Int) := by
  by_cases h0 : 0 < par.length
  · exact BQ h0
  exfalso
  have e : kr par pri app < 0 := by
    unfold kr
    split
    · omega
    unfold ofC; rw [if_pos (bst_0 zo)]; omega
  omega
def jF (ix : List Nat) (sl : List Bool) (k : Nat) : List Int := ((List.range k).filter (fun j => sl[j]? == some false)).map (fun j : Nat => gi (nI ix) (j : Int))
theorem CB {ix : List Nat} {sl : List Bool} {k : Nat} (h : sl[k]? = some false) : jF ix sl (k + 1) = jF ix sl k ++ [gi (nI ix) (k : Int)] := by
  unfold jF; rw [List.range_succ, List.filter_append, List.map_append]; simp [h]
theorem CC {ix : List Nat} {sl : List Bool} {k : Nat} (h : sl[k]? = some true) : jF ix sl (k + 1) = jF ix sl k := by
  unfold jF; rw [List.range_succ, List.filter_append, List.map_append]; simp [h]
theorem xU (ix : List Nat) (sl : List Bool) (k : Nat) : (jF ix sl k).length ≤ k := by
  unfold jF; rw [List.length_map]; exact Nat.le_trans (List.length_filter_le _ _) (by simp)
theorem xS {ix : List Nat} {sl : List Bool} {k : Nat} {x : Int} (h : x ∈ jF ix sl k) : ∃ j : Nat, j < k ∧ sl[j]? = some false ∧ x = gi (nI ix) (j : Int) := by
  unfold jF at h; rw [List.mem_map] at h
  obtain ⟨j, hj, rfl⟩ := h
  rw [List.mem_filter, List.mem_range] at hj
  exact ⟨j, hj.1, eq_of_beq hj.2, rfl⟩
theorem Az {f : bB → Bool} {l : List bB} {n j k : Nat} (hj : j < (eY f l n).length) (hk : k < (eY f l n).length) (h : gi (nI (eY f l n)) (j : Int) = gi (nI (eY f l n)) (k : Int)) : j = k := by
  rw [jc (by rw [cr]; exact hj), jc (by rw [cr]; exact hk), oN hj, oN hk] at h
  have hp : (eY f l n).Pairwise (· < ·) := List.pairwise_lt_range.filter _
  have hp := List.pairwise_iff_getElem.1 hp
  rcases Nat.lt_trichotomy j k with q | q | q
  · have := hp j k hj hk q; omega
  · exact q
  have := hp k j hk hj q; omega
def jL (s : ba) (d date : Int) (x : List bh) : Int := kr (kX (fD d date) s.2.2.2.2 s.2.2.2.2.length) (uI (fD d date) s.2.2.2.2 s.2.2.2.2.length) (apF s.2.2.2.2 (eY (fD d date) s.2.2.2.2 s.2.2.2.2.length) x)
def jm (s : ba) (d date : Int) (x : List bh) : Int := if jL s d date x < 0 then jL s d date x else gi (nI (eY (fD d date) s.2.2.2.2 s.2.2.2.2.length)) (jL s d date x)
theorem pc {s : ba} {d date : Int} {x : List bh} (h : 0 ≤ jL s d date x) : jL s d date x < ((eY (fD d date) s.2.2.2.2 s.2.2.2.2.length).length : Int) := by
  have := yx h
  rw [tz] at this
  exact this
theorem yz {s : ba} {d date : Int} {x : List bh} (h : 0 ≤ jL s d date x) : 0 ≤ jm s d date x := by
  have h1 := pc h
  unfold jm
  rw [if_neg zo]
  obtain ⟨k, hk⟩ : ∃ k : Nat, jL s d date x = k := ⟨_, (Int.toNat_of_nonneg h).symm⟩
  rw [hk, jc (by rw [cr]; omega), oN zo]; omega
theorem yA {s : ba} {d date : Int} {x : List bh} (h : jm s d date x < 0) : jL s d date x = jm s d date x := by
  by_cases q : jL s d date x < 0
  · unfold jm; rw [if_pos q]
  have := yz (s := s) (d := d) (date := date) (x := x) zo; omega
end Go.Proofs.YtehcaebnijlhgaaGreatDoor
namespace Go.Proofs.YtehcaebnijlhgaaGreatDoor
open Go.Eng
set_option maxRecDepth 100000
set_option maxHeartbeats 1000000
open C15 C23
def zSc : ba := ([], 0, [], [], [])
noncomputable def ckA (l : cA) (scope : Int) (c : gz) (hd : Bool) (d : Int) : Int × Int × Int × Int :=
  if ((jV l).1 != 0) = true then (1, -1, -1, -1) else
  if scope < 0 ∨ (l.2.2.length : Int) ≤ scope ∨ (hd = true ∧ (d < 0 ∨ ((sc l scope).2.2.2.1.length : Int) ≤ d)) then (6, -1, -1, -1) else
  if ((kV l (sc l scope) c).2.2 != 0) = true then ((kV l (sc l scope) c).2.2, (kV l (sc l scope) c).1, -1, -1) else (0, 0, 0, 0)
def msc (l : cA) (s : ba) : ba := if 0 ≤ s.2.1 then sc l s.2.1 else zSc
def ndT (l : cA) (s : ba) : ba × ba × List Bool × List Bool := (s, msc l s, List.replicate s.2.2.2.1.length false, List.replicate (msc l s).2.2.2.1.length false)
theorem BF {l : cA} (h : (jV l).1 = 0) : ∀ i, (hi : i < l.2.2.length) → l.2.2[i].2.1 = -1 ∨ (0 ≤ l.2.2[i].2.1 ∧ l.2.2[i].2.1 < (i : Int)) := by
  intro i hi
  unfold jV at h
  split at h
  · rename_i c; rw [h] at c; cases c
  split at h
  · rename_i c; rw [h] at c; cases c
  have h1 := wL h i hi
  unfold fR at h1
  iterate 2 (split at h1; · exact absurd h1 (by decide))
  split at h1
  · exact absurd h1 (by decide)
  omega
theorem De {l : cA} {scope : Int} {c : gz} {d : Int} (h : (ckA l scope c true d).1 = 0) : (jV l).1 = 0 ∧ ∃ i : Nat, ∃ hi : i < l.2.2.length, scope = i ∧ (0 ≤ d ∧ d < (l.2.2[i].2.2.2.1.length : Int)) ∧ (kV l l.2.2[i] c).2.2 = 0 := by
  unfold ckA at h
  split at h
  · exact absurd h (by decide)
  rename_i h1
  split at h
  · exact absurd h (by decide)
  rename_i h2
  split at h
  · rename_i h3
    exact absurd h (by simpa using h3)
  rename_i h3
  obtain ⟨i, rfl⟩ : ∃ i : Nat, scope = i := ⟨scope.toNat, by omega⟩
  have hi : i < l.2.2.length := by omega
  rw [kQ hi] at h2 h3
  refine ⟨by simpa using h1, i, hi, rfl, ⟨?_, ?_⟩, by simpa using h3⟩
  · apply Int.not_lt.1; intro q; exact h2 (.inr (.inr ⟨rfl, .inl q⟩))
  apply Int.not_le.1; intro q; exact h2 (.inr (.inr ⟨rfl, .inr q⟩))
theorem ckA_ok {l : cA} {c : gz} {d : Int} {i : Nat} (h : (jV l).1 = 0) (hi : i < l.2.2.length) (hd : 0 ≤ d ∧ d < (l.2.2[i].2.2.2.1.length : Int)) (hc : (kV l l.2.2[i] c).2.2 = 0) : ckA l (i : Int) c true d = (0, 0, 0, 0) := by
  unfold ckA
  rw [if_neg (by rw [h]; decide), kQ hi, if_neg (by rintro (q | q | ⟨_, q | q⟩) <;> omega), if_neg (by rw [hc]; decide)]
theorem qQ {l : cA} {s : ba} {c : gz} (h : (kV l s c).2.2 = 0) : kM l.1 s.2.2.1 c.2.1 := chkV_0 (valC_0 h).2.1
theorem yf {l : cA} {s : ba} {date : Int} {x : List bh} (hd : 0 ≤ date ∧ date ≤ 109572) (hx : kM l.1 s.2.2.1 x) : (kV l s (date, x, [])).2.2 = 0 := by
  unfold kV
  rw [if_neg (by simp only []; omega), if_neg (by simp only []; rw [CI hx.1 hx.2]; decide)]
  have h0 : (0 : Int) ≤ (kA l s).2 := by unfold kA; split <;> simp
  rw [if_neg (by simp only [List.length_nil]; omega)]
  rw [show (kZ ([] : List (List bh)).length (fun i => (iM l.1 (([] : List (List bh))[i]?.getD []) (kA l s).1).2 != 0)) = none from rfl]
end Go.Proofs.YtehcaebnijlhgaaGreatDoor
namespace Go.Eng
section
variable {P : Program} {cx : Cx} {st st' : St} {β : Loc} {a : Act} {w w' : World} {ops : Array Oper} {k : Kn} {c : Code}
variable {dst : Option Tmp} {ty : TypeId} {pos : String} {aft : Array Edge} {gd : Option (Nat × Bool)}
variable {α γ : Type} {rt : RT α}
abbrev exV (pb : Nat) : Nat → Prop := fun q => q = pb
def RetV (w0 : World) (ok0 : Ok) (pb po : Nat) (cur : Array Value) (rt : RT α) (y : α) (r : SV) : Ending → World → Prop := fun e w' =>
  ∃ v, e = .returned v ∧ BelowX (exV pb) w0.heap.size w0 w' ∧ (∃ cur' e', w'.heap[pb]? = some (.cells cur' e' (0, 0)) ∧ cur'.size = cur.size) ∧
    eZ rt w' (fun q => okR ⟨w0, ok0, 0, exV pb⟩ w' q ∧ q ≠ pb) pb po [y] ∧ r.holds i6 w' (fun q => okR ⟨w0, ok0, 0, exV pb⟩ w' q ∧ q ≠ pb) v
structure CtV (P : Program) (kf : FuncId) (s1 : SV) {α : Type} (rt : RT α) (x y : α) (ss : List SV) (r : SV) : Prop where
  ent : ∀ w args, (callFunc kf args).run P w = .ok (.enter kf args) w
  calls : ∀ (w : World) (ok0 : Ok) (pb po : Nat) (cur : Array Value) (e : TypeId) (v1 : Value) (vs : List Value), (∀ b', ok0 b' → b' < w.heap.size) → ¬ ok0 pb → w.heap[pb]? = some (.cells cur e (0, 0)) →
    eZ rt w ok0 pb po [x] → eg w ok0 (s1 :: ss) (v1 :: vs) → Calls P kf ((v1 :: cU pb po :: vs).toArray) w (RetV w ok0 pb po cur rt y r)
theorem xW {kf : FuncId} {fn : Func} {c : Code} {s1 : SV} {x y : α} {ss : List SV} {r : SV} (hf : P.funcs[kf]? = some fn) (hb : fn.body = some c) (hn : (fn.name == "runtime.NumGoroutine") = false) {m : Nat} (hm : fn.ntmps = m) (hlen : Nat.ble (ss.length + 2) m = true)
    (hp : ((s1 :: ss).all SV.plain) = true)
    (h : ∀ (w0 : World) (ok0 : Ok) (pb po : Nat) (cur : Array Value) (e : TypeId), w0.heap[pb]? = some (.cells cur e (0, 0)) → ¬ ok0 pb → eZ rt w0 ok0 pb po [x] →
      J P (Cx.of w0 ok0 m) ⟨(0, s1) :: (1, .raw (cU pb po)) :: jK 2 ss, []⟩ c (.fin fn (RetV w0 ok0 pb po cur rt y r))) : CtV P kf s1 rt x y ss r := by
  refine ⟨bJ hf hb hn, fun w ok0 pb po cur e v1 vs hok hnb hcur hrow hh => ?_⟩
  have hl := eL hh
  have hl : ss.length = vs.length := by simpa using hl.symm
  have hlen' : ss.length + 2 ≤ m := by simpa using hlen
  refine calls_of_wp hf hb ?_
  have := h w ok0 pb po cur e hcur hnb hrow { tmps := (v1 :: cU pb po :: vs).toArray ++ Array.replicate (fn.ntmps - (v1 :: cU pb po :: vs).toArray.size) undef, defers := [] } w ⟨i6, ?_⟩
  · exact wp_mono this fun e a w' hq => hq
  have hpl : ∀ (j : Nat) (s : SV), (s1 :: ss)[j]? = some s → s.plain = true := fun j s hj => List.all_eq_true.1 hp s (List.mem_of_getElem? hj)
  have hkk : ∀ b', ok0 b' → bM (Cx.of w ok0 m) [] i6 w b' ∧ w.heap[b']? = w.heap[b']? := fun b' hb' => ⟨⟨.inl hb', hok b' hb', fun nm x hx => by simp [az] at hx⟩, rfl⟩
  refine ⟨(Below.refl _ _).toX, hok, rfl, by simp [hm]; omega, fun nm hb hh => by simp [az] at hh, fun nm nm' hb hb' hh => by simp [az] at hh, fun nm hb hh => by simp [az] at hh, fun i s hs => ?_⟩
  rw [aT] at hs
  split at hs
  · rename_i e; subst e; injection hs with hs; subst hs
    obtain ⟨v, h1, h2⟩ := eG hh (j := 0) rfl
    have h1 : v1 = v := by simpa using h1
    subst h1
    exact ⟨v1, by rw [Array.getElem?_append_left (by simp)]; rfl, SV.plain_keep (hpl 0 _ rfl) hkk h2⟩
  rw [aT] at hs
  split at hs
  · rename_i e; subst e; injection hs with hs; subst hs
    exact ⟨cU pb po, by rw [Array.getElem?_append_left (by simp)]; rfl, rfl⟩
  obtain ⟨j, rfl, hj⟩ := fa hs
  obtain ⟨v, h1, h2⟩ := eG hh (j := j + 1) (by simpa using hj)
  have h1 : vs[j]? = some v := by simpa using h1
  have hjl : j < vs.length := (List.getElem?_eq_some_iff.1 h1).1
  exact ⟨v, by rw [Array.getElem?_append_left (by simp; omega)]; simp [Nat.add_comm 2 j, h1], SV.plain_keep (hpl (j + 1) s (by simpa using hj)) hkk h2⟩
theorem rU {x : Operand} {pb po : Nat} (hx : Ev st x (.raw (cU pb po))) : Adr P cx st ⟨dst, .nilCheck x, ty, pos, aft, gd⟩ (.raw (cU pb po)) :=
  bD fun st' hag β a w hi => by
    have h1 : a.eval x = cU pb po := hi.raw (hag.ev (by simp [Op.operands]) hx)
    exact ⟨cU pb po, by simp [execOp, h1, cU], rfl⟩
theorem xb {x : Operand} {pb po : Nat} {t : TypeId} {k off : Nat} (hf : fld P t k = some off) (hx : Ev st x (.raw (cU pb po))) : Adr P cx st ⟨dst, .fieldAddr t x k, ty, pos, aft, gd⟩ (.raw (cU pb (po + off))) :=
  bD fun st' hag β a w hi => by
    have h1 : a.eval x = cU pb po := hi.raw (hag.ev (by simp [Op.operands]) hx)
    exact ⟨cU pb (po + off), by simp [execOp, h1, cU, lg hf], rfl⟩
def mM (cur : Array Value) (i : Nat) (u : Value) : Array Value := (cur.toList.take i ++ u.cells.toList ++ cur.toList.drop (i + u.cells.size)).toArray
theorem n7 {cur : Array Value} {i : Nat} {u : Value} (h : i + u.cells.size ≤ cur.size) : (mM cur i u).size = cur.size := by
  unfold mM; simp; omega
theorem BX {cur : Array Value} {i : Nat} {u : Value} (h : i + u.cells.size ≤ cur.size) (q : Nat) : (mM cur i u)[q]? = if q < i then cur[q]? else if q < i + u.cells.size then u.cells.toList[q - i]? else cur[q]? := by
  unfold mM
  rw [List.getElem?_toArray]
  have e1 : (cur.toList.take i).length = i := by simp; omega
  have e2 : u.cells.toList.length = u.cells.size := by simp
  by_cases q1 : q < i
  · rw [if_pos q1, List.append_assoc, List.getElem?_append_left (by omega), List.getElem?_take_of_lt q1]; simp
  rw [if_neg q1]
  by_cases q2 : q < i + u.cells.size
  · rw [if_pos q2, List.append_assoc, List.getElem?_append_right (by omega), e1, List.getElem?_append_left (by omega)]
  rw [if_neg q2, List.getElem?_append_right (by rw [List.length_append, e1, e2]; omega), List.length_append, e1, e2, List.getElem?_drop]
  rw [show i + u.cells.size + (q - (i + u.cells.size)) = q by omega]; simp
theorem InvB.setOld {w0 : World} {ok0 : Ok} {m : Nat} (hi : InvB (Cx.of w0 ok0 m) st β a w) {pb : Nat} {cur cur' : Array Value} {e : TypeId} (h0 : w0.heap[pb]? = some (.cells cur e (0, 0))) (hnb : ¬ ok0 pb) (hsz : cur'.size = cur.size) :
    w.heap[pb]? = some (.cells cur e (0, 0)) ∧ InvB (Cx.of (w0.setRow pb cur') ok0 m) st β a (w.setRow pb cur') := by
  have hpb : pb < w0.heap.size := InvB.cell_lt h0
  have hw : w.heap[pb]? = some (.cells cur e (0, 0)) := (hi.below.blockX pb hpb (fun h => h)).trans h0
  have hok : ∀ b', bM (Cx.of w0 ok0 m) st.heap β w b' → bM (Cx.of (w0.setRow pb cur') ok0 m) st.heap β (w.setRow pb cur') b' ∧ (w.setRow pb cur').heap[b']? = w.heap[b']? := by
    rintro b' ⟨h1, h2, h3⟩
    have hne : b' ≠ pb := by
      rintro rfl
      rcases h1 with z | z
      · exact hnb z
      have z : w0.heap.size ≤ b' := Cx.new_of z
      omega
    refine ⟨⟨?_, by simpa using h2, h3⟩, setRow_other _ _ _ _ hne⟩
    rcases h1 with z | z
    · exact .inl z
    exact .inr (.inl (by simpa using Cx.new_of z))
  have hown : ∀ nm h, az st.heap nm = some h → ∀ x, β nm = some x → w0.heap.size ≤ x.1 ∧ x.1 < w.heap.size := fun nm h hh x hx => ⟨Cx.new_of (hi.own nm h hh x hx).1, (hi.own nm h hh x hx).2⟩
  refine ⟨hw, ⟨⟨hi.below.os, hi.below.tape, hi.below.output, by simpa using hi.below.size, fun k hk hx => ?_, hi.below.drawn⟩, fun b hb => by simpa using hi.old b hb, hi.defers, hi.size, fun k hb' hk x hx => ?_, hi.sep, fun k hb' hk => ?_, fun i s hs' => ?_⟩⟩
  · by_cases e1 : k = pb
    · subst e1; rw [setRow_heap _ _ _ _ _ _ hw, setRow_heap _ _ _ _ _ _ h0]
    rw [setRow_other _ _ _ _ e1, setRow_other _ _ _ _ e1]
    exact hi.below.blockX k (by simpa using hk) (fun h => h)
  · have := hown k hb' hk x hx
    exact ⟨.inl (by simpa using this.1), by simpa using this.2⟩
  · exact HB.keep hok (fun x hx => setRow_other _ _ _ _ (by have := hown k hb' hk x hx; omega)) (hi.rows k hb' hk)
  obtain ⟨v, h1, h2⟩ := hi.slots i s hs'
  refine ⟨v, h1, SV.keep hok (fun k hk => ⟨rfl, fun b1 o1 _ cur1 e1 fr1 h3 => ?_⟩) h2⟩
  by_cases hbb : b1 = pb
  · subst hbb
    rw [hw] at h3; injection h3 with h3; injection h3 with h3 _ _; subst h3
    exact ⟨cur', _, _, setRow_heap _ _ _ _ _ _ hw, hsz⟩
  exact ⟨cur1, e1, fr1, by rw [setRow_other _ _ _ _ hbb]; exact h3, rfl⟩
theorem xe {rest : List Oper} {w0 : World} {ok0 : Ok} {m pb po f i : Nat} {cur : Array Value} {e : TypeId} {rt' : RT γ} {d : γ} {p : Operand} {t : TypeId} (ht : Ty P t rt') (hx : Ev st p (.raw (cU pb (po + f)))) (hi0 : a8 st.slots i = some (.tv rt' d)) (h0 : w0.heap[pb]? = some (.cells cur e (0, 0))) (hnb : ¬ ok0 pb) (hfit : po + f + rt'.n ≤ cur.size)
    (h : ∀ u : Value, u.cells.size = rt'.n → JG P (Cx.of (w0.setRow pb (mM cur (po + f) u)) ok0 m) ops ⟨(i, .both (.tv rt' d) u) :: st.slots, st.heap⟩ rest k) :
    JG P (Cx.of w0 ok0 m) ops st (⟨none, .store t p (.tmp i), ty, pos, aft, none⟩ :: rest) k := by
  rintro a w ⟨β, hi⟩
  refine wpList_plain rfl fun K hK => ?_
  obtain ⟨u, hu1, hu2⟩ := hi.slots i _ hi0
  have hu : a.eval (.tmp i) = u := by simp [Act.eval, hu1]
  have hp : a.eval p = cU pb (po + f) := hi.raw hx
  have hval : rt'.val w (bM (Cx.of w0 ok0 m) st.heap β w) u d := hu2
  have hc := rt'.val_cells hval
  have hlen := rt'.len hc
  have hone := rt'.one hc
  have hlen2 : u.cells.size = rt'.n := by simpa using hlen
  obtain ⟨_, i0, hii, hs⟩ := ht
  have hsz := n7 (cur := cur) (i := po + f) (u := u) (by omega)
  obtain ⟨hw, hi1⟩ := hi.setOld (cur' := mM cur (po + f) u) h0 hnb hsz
  have hst := run_storeCells_at P pb (po + f) e u.cells.toList 0 cur w hw (by rw [hlen]; omega) hone
  simp only [Nat.add_zero, hlen] at hst
  have hrun : (execOp a.eval ⟨none, .store t p (.tmp i), ty, pos, aft, none⟩).run P w = .ok .skip (w.setRow pb (mM cur (po + f) u)) := by
    simp only [execOp, Instr.storeAt, hp, hu, cU, Instr.sureAddr, Sem.run_bind, Sem.run_pure, Result.andThen_ok, storeVar, dM hii, hs]
    rw [if_neg (by simp [hlen2])]
    rw [hst]
    unfold mM
    rw [hlen2]
    rfl
  unfold Oper.wp
  rw [hrun, Oper.upon_skip]
  refine hK _ _ (h u hlen2 _ _ ⟨β, ?_⟩)
  obtain ⟨v', h3, h4⟩ := hi1.slots i _ hi0
  have e3 : v' = u := by rw [hu1] at h3; injection h3 with h3; exact h3.symm
  refine ⟨hi1.below, hi1.old, hi1.defers, hi1.size, hi1.own, hi1.sep, hi1.rows, fun q t hq => ?_⟩
  rw [aT] at hq
  split at hq
  · rename_i e; subst e; injection hq with hq; subst hq
    exact ⟨v', h3, h4, e3⟩
  exact hi1.slots q t hq
theorem z8 {fn : Func} {v0 v1 : ResultVar} {s t r : SV} {w0 : World} {ok0 : Ok} {m pb po f i : Nat} {cur : Array Value} {e : TypeId} {rt' : RT γ} {u : Value} {x y : α} {d : γ} {get : α → γ} {set : α → γ → α} (hr : fn.results = #[v0, v1])
    (g0 : Res P (Cx.of (w0.setRow pb (mM cur (po + f) u)) ok0 m) st v0 s) (g1 : Res P (Cx.of (w0.setRow pb (mM cur (po + f) u)) ok0 m) st v1 t) (hp : s.plain = true ∧ t.plain = true) (he : SV.tup2 s t = r)
    (h0 : w0.heap[pb]? = some (.cells cur e (0, 0))) (hnb : ¬ ok0 pb) (hrow : eZ rt w0 ok0 pb po [x]) (hl : Lens rt f rt' get set) (hu : u.cells.size = rt'.n) (hi0 : a8 st.slots i = some (.both (.tv rt' d) u)) (ey : set x d = y) :
    JR P (Cx.of (w0.setRow pb (mM cur (po + f) u)) ok0 m) st (.fin fn (RetV w0 ok0 pb po cur rt y r)) := by
  rintro a w ⟨β, hi⟩
  subst he ey
  obtain ⟨v, h3, h4⟩ := g0 β a w hi
  obtain ⟨v', h5, h6⟩ := g1 β a w hi
  obtain ⟨cur1, e1, q1, q2, q3⟩ := hrow
  rw [h0] at q1; injection q1 with q1; injection q1 with q1 _ _; subst q1
  obtain ⟨cs, q4, q5⟩ := q3 0 x rfl
  have hcl := rt.len q4
  have hfit := hl.fits
  have hn1 : [x].length * rt.n = rt.n := by simp
  have hpb : pb < w0.heap.size := InvB.cell_lt h0
  have hw0s : (w0.setRow pb (mM cur (po + f) u)).heap.size = w0.heap.size := by simp
  have hwpb : w.heap[pb]? = some (.cells (mM cur (po + f) u) e (0, 0)) := by
    rw [hi.below.blockX pb (by simpa using hpb) (fun h => h)]
    exact setRow_heap _ _ _ _ _ _ h0
  have hbel : ∀ k, k < w0.heap.size → k ≠ pb → w.heap[k]? = w0.heap[k]? := fun k hk hne => by
    rw [hi.below.blockX k (by simpa using hk) (fun h => h)]
    exact setRow_other _ _ _ _ hne
  have hle : po + f + u.cells.size ≤ cur.size := by omega
  have hkk : ∀ q, bM (Cx.of (w0.setRow pb (mM cur (po + f) u)) ok0 m) st.heap β w q → okR ⟨w0, ok0, 0, exV pb⟩ w q ∧ q ≠ pb := fun q hq => by
    refine ⟨⟨?_, hq.2.1⟩, ?_⟩
    · rcases hq.1 with z | z
      · exact .inl z
      exact .inr (.inl (by have := Cx.new_of z; simpa using this))
    rintro rfl
    rcases hq.1 with z | z
    · exact hnb z
    have := Cx.new_of z
    simp at this; omega
  have hold : ∀ q, ok0 q → okR ⟨w0, ok0, 0, exV pb⟩ w q ∧ q ≠ pb := fun q hq => by
    have h1 := hi.old q hq
    have h2 : q < w0.heap.size := by simpa using h1
    have h3 := hi.below.size
    simp at h3
    exact ⟨⟨.inl hq, by omega⟩, fun e => hnb (e ▸ hq)⟩
  refine ⟨hi.defers, .tuple #[v, v'], by simp [eI, hr, h3, h5], _, rfl, ⟨hi.below.os, hi.below.tape, hi.below.output, by have := hi.below.size; simpa using this, fun k hk hx => hbel k hk hx, hi.below.drawn⟩, ⟨_, _, hwpb, n7 hle⟩, ⟨_, _, hwpb, by rw [n7 hle]; exact q2, fun j z hz => ?_⟩, ⟨v, v', rfl, SV.plain_keep hp.1 (fun q hq => ⟨hkk q hq, rfl⟩) h4, SV.plain_keep hp.2 (fun q hq => ⟨hkk q hq, rfl⟩) h6⟩⟩
  obtain ⟨v2, _, h7, h8⟩ := hi.slots i _ hi0
  subst h8
  have hval : rt'.val w (bM _ st.heap β w) v2 d := h7
  have hj : j = 0 := by have := (List.getElem?_eq_some_iff.1 hz).1; simp at this; omega
  subst hj
  have hz : set x d = z := by simpa using hz
  subst hz
  have hrep := rt.keep (ok' := fun q => okR ⟨w0, ok0, 0, exV pb⟩ w q ∧ q ≠ pb) (fun q hq => ⟨hold q hq, hbel q (by have := hi.old q hq; simpa using this) (fun e => hnb (e ▸ hq))⟩) q4
  have hc := rt'.keep (ok' := fun q => okR ⟨w0, ok0, 0, exV pb⟩ w q ∧ q ≠ pb) (fun q hq => ⟨hkk q hq, rfl⟩) (rt'.val_cells hval)
  have hul : v2.cells.toList.length = rt'.n := by simpa using hu
  refine ⟨_, hl.set_ hrep hc, fun q v3 hq => ?_⟩
  rw [BX hle, Nat.zero_mul, Nat.add_zero]
  rw [List.append_assoc] at hq
  by_cases z1 : q < f
  · rw [if_pos (by omega)]
    rw [List.getElem?_append_left (by simp; omega), List.getElem?_take_of_lt z1] at hq
    have := q5 q v3 hq
    rw [Nat.zero_mul, Nat.add_zero] at this
    exact this
  rw [if_neg (by omega)]
  rw [List.getElem?_append_right (by simp; omega)] at hq
  have e1 : (cs.take f).length = f := by simp; omega
  rw [e1] at hq
  by_cases z2 : q < f + rt'.n
  · rw [if_pos (by omega)]
    rw [List.getElem?_append_left (by omega)] at hq
    rw [show po + q - (po + f) = q - f by omega]; exact hq
  rw [if_neg (by omega)]
  rw [List.getElem?_append_right (by omega), hul, List.getElem?_drop] at hq
  rw [show f + rt'.n + (q - f - rt'.n) = q by omega] at hq
  have := q5 q v3 hq
  rw [Nat.zero_mul, Nat.add_zero] at this
  exact this
variable [NM rt]
theorem InvB.turnV (hi : InvB cx st β a w) {nm b o : Nat} {x y : α} {cur : Array Value} {e : TypeId} (hn : az st.heap nm = some ⟨rt, [x]⟩) (hb : β nm = some (b, o)) (hcur : w.heap[b]? = some (.cells cur e (0, 0))) (hg : BelowX (exV b) w.heap.size w w') {cur' : Array Value} {e' : TypeId} (hcur' : w'.heap[b]? = some (.cells cur' e' (0, 0))) (hsz : cur'.size = cur.size)
    (hrow : eZ rt w' (fun q => okR (Cx.mk w (bM cx st.heap β w) 0 (exV b)) w' q ∧ q ≠ b) b o [y]) : InvB cx ⟨st.slots, (nm, ⟨rt, [y]⟩) :: st.heap⟩ β a w' := by
  have hown := hi.own nm _ hn _ hb
  have hothers : ∀ k hb', az st.heap k = some hb' → k ≠ nm → ∀ x, β k = some x → x.1 ≠ b := fun k hb' hk hne x hx e1 => hne (hi.sep k nm _ _ hk hn x (b, o) hx hb e1)
  have hbl : ∀ k, k < w.heap.size → k ≠ b → w'.heap[k]? = w.heap[k]? := fun k hk hne => hg.blockX k hk hne
  have hh0 : ∀ k, az ((nm, HB.mk rt [y]) :: st.heap) k = if nm = k then some ⟨rt, [y]⟩ else az st.heap k := fun k => aW _ _ _ _
  have hok : ∀ b', bM cx st.heap β w b' → bM cx ((nm, ⟨rt, [y]⟩) :: st.heap) β w' b' ∧ w'.heap[b']? = w.heap[b']? := by
    rintro b' ⟨h1, h2, h3⟩
    have hne : b' ≠ b := fun e1 => h3 nm _ hn _ hb e1.symm
    refine ⟨⟨h1, Nat.lt_of_lt_of_le h2 hg.size, fun k hb' hk x hx => ?_⟩, hbl b' h2 hne⟩
    rw [hh0] at hk
    by_cases e1 : nm = k
    · subst e1; rw [hb] at hx; injection hx with hx; subst hx; exact fun e2 => hne e2.symm
    rw [if_neg e1] at hk
    exact h3 k hb' hk x hx
  have hok2 : ∀ q, (okR (Cx.mk w (bM cx st.heap β w) 0 (exV b)) w' q ∧ q ≠ b) → bM cx ((nm, ⟨rt, [y]⟩) :: st.heap) β w' q := fun q hq => by
    rcases hq.1.1 with z | z | z
    · exact (hok q z).1
    · refine ⟨.inr (.inl (Nat.le_trans hi.below.size z)), hq.1.2, fun k hb' hk x hx e1 => ?_⟩
      rw [hh0] at hk
      have z : w.heap.size ≤ q := z
      split at hk
      · rename_i e2; subst e2; rw [hb] at hx; injection hx with hx; subst hx; exact hq.2 e1.symm
      have := (hi.own k hb' hk x hx).2; omega
    exact absurd z hq.2
  refine ⟨⟨hg.os.trans hi.below.os, hg.tape.trans hi.below.tape, hg.output.trans hi.below.output, Nat.le_trans hi.below.size hg.size, fun k hk hx => ?_, Nat.le_trans hi.below.drawn hg.drawn⟩, hi.old, hi.defers, hi.size, fun k hb' hk x hx => ?_, fun k k' h1 h2 hk hk' x y hx hy hxy => ?_, fun k hb' hk => ?_, fun i s hs' => ?_⟩
  · refine (hbl k (Nat.lt_of_lt_of_le hk hi.below.size) ?_).trans (hi.below.blockX k hk hx)
    rintro rfl
    rcases hown.1 with q | q
    · simp only at q; omega
    exact hx q
  · rw [hh0] at hk
    by_cases e1 : nm = k
    · subst e1; have := hi.own nm _ hn x hx; exact ⟨this.1, Nat.lt_of_lt_of_le this.2 hg.size⟩
    rw [if_neg e1] at hk
    have := hi.own k hb' hk x hx
    exact ⟨this.1, Nat.lt_of_lt_of_le this.2 hg.size⟩
  · rw [hh0] at hk hk'
    by_cases e1 : nm = k <;> by_cases e2 : nm = k'
    · rw [← e1, ← e2]
    · subst e1; rw [if_neg e2] at hk'; exact hi.sep _ k' _ _ hn hk' x y hx hy hxy
    · subst e2; rw [if_neg e1] at hk; exact hi.sep k _ _ _ hk hn x y hx hy hxy
    rw [if_neg e1] at hk; rw [if_neg e2] at hk'; exact hi.sep k k' _ _ hk hk' x y hx hy hxy
  · rw [hh0] at hk
    by_cases e1 : nm = k
    · subst e1
      rw [if_pos rfl] at hk
      injection hk with hk; subst hk
      rw [hb]
      refine ⟨fun _ => ?_, fun hm => by rw [show rt.mp = false from NM.no] at hm; cases hm⟩
      obtain ⟨cur2, e2, g1, g2, g3⟩ := hrow
      refine ⟨cur2, e2, g1, g2, fun i x hx => ?_⟩
      obtain ⟨cs, g4, g5⟩ := g3 i x hx
      exact ⟨cs, rt.keep (fun q hq => ⟨hok2 q hq, rfl⟩) g4, g5⟩
    rw [if_neg e1] at hk
    exact HB.keep hok (fun x hx => hbl _ (hi.own k hb' hk x hx).2 (hothers k _ hk (Ne.symm e1) x hx)) (hi.rows k hb' hk)
  obtain ⟨v, h1, h2⟩ := hi.slots i s hs'
  refine ⟨v, h1, SV.keep hok (fun k hk => ⟨rfl, fun b1 o1 hbo cur1 e1 fr1 h3 => ?_⟩) h2⟩
  by_cases hbb : b1 = b
  · subst hbb
    rw [hcur] at h3; injection h3 with h3; injection h3 with h3 _ _; subst h3
    exact ⟨cur', _, _, hcur', hsz⟩
  exact ⟨cur1, e1, fr1, by rw [hbl b1 (InvB.cell_lt h3) hbb]; exact h3, rfl⟩
theorem t6 {kf : FuncId} {nm d : Nat} {x y : α} {s1 : SV} {ss : List SV} {rr : SV} {x1 p : Operand} {xo : List Operand} {ts : Array TypeId} (h : CtV P kf s1 rt x y ss rr)
    (hx : Ev st p (.optr nm rt.n 0 0)) (hn : az st.heap nm = some ⟨rt, [x]⟩) (ha : Args st (x1 :: xo) (s1 :: ss)) (hp : ((s1 :: ss).all SV.plain) = true) (hr : rr.plain = true) (hd : Nat.blt d cx.n = true) :
    GH P cx ops st ⟨some d, .call { callee := .value (.func kf), args := (x1 :: p :: xo).toArray, argTypes := ts }, ty, pos, aft, none⟩ (some (d, rr), some (nm, ⟨rt, [y]⟩)) [nm] [] := by
  intro st' hag _ a w hi Q
  rw [if_pos (by simp [Region.wanted])]
  obtain ⟨β, hi⟩ := hi
  have hn' : az st'.heap nm = some ⟨rt, [x]⟩ := (hag.heap nm (by simp)).trans hn
  have hrun : (execOp a.eval ⟨some d, .call { callee := .value (.func kf), args := (x1 :: p :: xo).toArray, argTypes := ts }, ty, pos, aft, none⟩).run P w = .ok (.enter kf ((x1 :: p :: xo).map a.eval).toArray) w := by
    simp [execOp, resolve, Act.eval, Deferred.ofValue, invoke, h.ent]
  unfold Oper.wp
  rw [hrun, Oper.upon_enter]
  obtain ⟨b, o, hβ, e2⟩ := hi.ev (hag.ev (by simp [Op.operands, Call.operands]) hx)
  have e2 : a.eval p = cU b o := by simpa using e2
  have hrow := gX hi hn' hβ
  obtain ⟨cur, e, hcur, _, _⟩ := id hrow
  have hargs := ha.holds (st' := st') (fun x hx => hag.evs (by simp only [Op.operands, Call.operands]; simp at hx ⊢; rcases hx with hx | hx <;> simp [hx])) hi hp
  have hnok : ¬ bM cx st'.heap β w b := fun q => q.2.2 nm _ hn' _ hβ rfl
  rw [List.map_cons, List.map_cons, e2]
  refine (h.calls w (bM cx st'.heap β w) b o cur e _ _ (fun _ hb => hb.2.1) hnok hcur hrow hargs).mono ?_
  rintro e0 w' ⟨v, rfl, hb, ⟨cur', e', hc', hsz⟩, hrow', hu⟩
  have hi' := hi.turnV hn' hβ hcur hb hc' hsz hrow'
  refine ⟨β, hi'.put (by simpa using hd) (SV.plain_keep hr (fun q hq => ⟨⟨?_, hq.1.2, ?_⟩, rfl⟩) hu)⟩
  · rcases hq.1.1 with z | z | z
    · exact z.1
    · exact .inr (.inl (Nat.le_trans hi.below.size z))
    exact absurd z hq.2
  intro q' hq' hh y hy e1
  rw [aW] at hh
  split at hh
  · rename_i e2; subst e2
    rw [hβ] at hy; injection hy with hy; subst hy
    exact hq.2 e1.symm
  rcases hq.1.1 with z | z | z
  · exact z.2.2 q' hq' hh y hy e1
  · have := (hi.own q' hq' hh y hy).2
    have z : w.heap.size ≤ q := z
    omega
  exact hq.2 z
end
end Go.Eng
