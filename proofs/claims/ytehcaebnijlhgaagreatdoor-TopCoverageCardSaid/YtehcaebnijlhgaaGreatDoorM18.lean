import Derived.Test.YtehcaebnijlhgaaGreatDoorM3
import Derived.Test.YtehcaebnijlhgaaGreatDoorM17
import Derived.Test.YtehcaebnijlhgaaGreatDoorM16
import Derived.Test.YtehcaebnijlhgaaGreatDoorM13
import Derived.Test.YtehcaebnijlhgaaGreatDoorM10
set_option linter.unusedVariables false
set_option linter.unusedSimpArgs false
namespace Go.Proofs.YtehcaebnijlhgaaGreatDoor
open Go.Eng Tryz
set_option maxRecDepth 100000
set_option maxHeartbeats 4000000
open C15 C23
theorem CH (l : cA) (scope : Int) (c : gz) (hb : Bool) (d : Int) (hL : SmL l) (hN : o3 l) (hcl : c.2.2.length ≤ 1000000) : Ct prog 42 [.tv cz l, .raw (.int .i64 scope), .tv ej c, .raw (.bool hb), .raw (.int .i64 d)] (.tv bv (ckA l scope c hb d)) := by
  refine ay func42 rfl rfl ntmps42 rfl rfl ?_
  intro w0 ok0
  refine zR (zb (.tv (.b rfl)) (zb (.tv (.b rfl)) (zl z46 (zZ (ae (zR (zL e9 rfl rfl rfl (Lens.id _) (zJ (an (vw l hL hN) (.cons (.b rfl) .nil) rfl rfl) (zl z52 (zC eo rfl rfl rfl (Lens.id _) (.tv (.b rfl)) (zZ (zR (zF fJ rfl (zL kp rfl rfl rfl fd (zJ (bQ (.b rfl) (.b rfl)) (zZ ?_))))))))))))))))
  refine af rfl (fun h2 => ?_) (fun h2 => ?_)
  · skip
    refine zR (zJ (aI z46 rfl qJ (.cons (rt' := (ak .i64)) rfl kF (.raw (.b rfl) rfl) (.cons (rt' := (ak .i64)) rfl uX (.raw (.b rfl) rfl) (.cons (rt' := (ak .i64)) rfl uW (.raw (.b rfl) rfl) (.cons (rt' := (ak .i64)) rfl uV (.raw (.b rfl) rfl) .nil))))) (zC gc rfl rfl rfl (Lens.id _) (.tv (.b rfl)) (zZ (am (ai ?_)))))
    exact cv results42 (ax gc rfl rfl rfl (Lens.id bv)) rfl (congrArg (SV.tv bv) (by unfold ckA; rw [if_pos h2]))
  skip
  refine ah (aa (ae (zR (zM rfl (zt rfl rfl (zM rfl (zG rfl rfl (fun hg => ag (.b rfl)) (zG rfl rfl (fun hg => ao cN (.b rfl)) (zG rfl rfl (fun hg => aj gB (.gd rfl hg) rfl rfl du) (zG rfl rfl (fun hg => cJ fx (.gd rfl hg)) (zG rfl rfl (fun hg => bW (.gd rfl hg) (.gd rfl hg)) (zJ (aB (.b rfl) (.b rfl) rfl zp) (zM rfl (zG rfl rfl (fun hg => ag (.b rfl)) (zG rfl rfl (fun hg => ag (.gd rfl hg)) ?_)))))))))))))))
  refine ct _ _ _ _ _ _ _ rfl rfl rfl rfl rfl (fun hg => ag (.b rfl)) ?_
  refine ct _ _ _ _ _ _ _ rfl rfl rfl rfl rfl (fun hg => dS (.gd rfl hg) (.b rfl)) ?_
  refine ct _ _ _ _ _ _ _ rfl rfl rfl rfl rfl (fun hg => ag (.gd rfl hg)) ?_
  refine ct _ _ _ _ _ _ _ rfl rfl rfl rfl rfl (fun hg => ag (.b rfl)) ?_
  refine ct _ _ _ _ _ _ _ rfl rfl rfl rfl rfl (fun hg => ao cN (.b rfl)) ?_
  refine ct _ _ _ _ _ _ _ rfl rfl rfl rfl rfl (fun hg => aj gB (.gd rfl hg) rfl rfl du) ?_
  refine ct _ _ _ _ _ _ _ rfl rfl rfl rfl rfl (fun hg => ag (.b rfl)) ?_
  refine ct _ _ _ _ _ _ _ rfl rfl rfl rfl rfl (fun hg => al fx dx (.gd rfl hg) (.gd rfl hg) (show scope = ((scope.toNat : Nat) : Int) by simp at hg; omega) (getD_some (l := l.2.2) (i := scope.toNat) (z := scD) (by simp at hg; omega))) ?_
  refine ct _ _ _ _ _ _ _ rfl rfl rfl rfl rfl (fun hg => aO dD d8 (.gd rfl hg)) ?_
  refine ct _ _ _ _ _ _ _ rfl rfl rfl rfl rfl (fun hg => aA fj (.gd rfl hg)) ?_
  refine ct _ _ _ _ _ _ _ rfl rfl rfl rfl rfl (fun hg => cJ ei (.gd rfl hg)) ?_
  refine ct _ _ _ _ _ _ _ rfl rfl rfl rfl rfl (fun hg => bW (.gd rfl hg) (.gd rfl hg)) ?_
  refine ct _ _ _ _ _ _ _ rfl rfl rfl rfl rfl (fun hg => aB (.gd rfl hg) (.b rfl) rfl zp) ?_
  refine zG rfl rfl (fun hg => aF (.gd rfl hg) (.b rfl) rfl zp) (zJ (aB (.b rfl) (.b rfl) rfl zp) (zZ ?_))
  refine af rfl (fun h4 => ?_) (fun h4 => ?_)
  · have h4 : scope < 0 ∨ (l.2.2.length : Int) ≤ scope ∨ (hb = true ∧ (d < 0 ∨ ((sc l scope).2.2.2.1.length : Int) ≤ d)) := by
      by_cases q0 : scope < 0
      · exact .inl q0
      by_cases q1 : (l.2.2.length : Int) ≤ scope
      · exact .inr (.inl q1)
      refine .inr (.inr ?_)
      cases hb with
      | false => simp [q0, q1] at h4
      | true =>
        refine ⟨rfl, ?_⟩
        by_cases q2 : d < 0
        · exact .inl q2
        simp [q0, q1, q2] at h4
        exact .inr h4
    refine zR (zJ (aI z46 rfl qJ (.cons (rt' := (ak .i64)) rfl kF (.raw (.b rfl) rfl) (.cons (rt' := (ak .i64)) rfl uX (.raw (.b rfl) rfl) (.cons (rt' := (ak .i64)) rfl uW (.raw (.b rfl) rfl) (.cons (rt' := (ak .i64)) rfl uV (.raw (.b rfl) rfl) .nil))))) (zC gc rfl rfl rfl (Lens.id _) (.tv (.b rfl)) (zZ (am (ai ?_)))))
    exact cv results42 (ax gc rfl rfl rfl (Lens.id bv)) rfl (congrArg (SV.tv bv) (by unfold ckA; rw [if_neg (by rw [h2]; decide), if_pos h4]))
  have h4 : ¬ (scope < 0 ∨ (l.2.2.length : Int) ≤ scope ∨ (hb = true ∧ (d < 0 ∨ ((sc l scope).2.2.2.1.length : Int) ≤ d))) := by
    rintro (q | q | ⟨rfl, q | q⟩)
    · simp [q] at h4
    · simp [q] at h4
    · simp [q] at h4
    have q : ((l.2.2[scope.toNat]?.getD scD).2.2.2.1.length : Int) ≤ d := q
    simp [q] at h4
  obtain ⟨i, rfl⟩ : ∃ i : Nat, scope = i := ⟨scope.toNat, by omega⟩
  have hi0 : i < l.2.2.length := by omega
  refine ah (aa (ae (zR (zL e9 rfl rfl rfl (Lens.id _) (zM rfl (zL s3 rfl rfl rfl (Lens.id _) (zJ (an (BG l i c hi0 hcl) (.cons (.b rfl) (.cons (.b rfl) (.cons (.b rfl) .nil))) rfl rfl) (zM rfl (zJ (d7 (.b rfl)) (zJ (d6 (.b rfl)) (zJ (d5 (.b rfl)) (zA rfl (zA rfl (zY rfl (aa (zR (zM rfl (zJ (bQ (.b rfl) (.b rfl)) (zZ ?_)))))))))))))))))))
  refine af rfl (fun h7 => ?_) (fun h7 => ?_)
  · skip
    refine zR (zM rfl (zM rfl (zJ (aI z46 rfl qJ (.cons (rt' := (ak .i64)) rfl kF (.raw (.b rfl) rfl) (.cons (rt' := (ak .i64)) rfl uX (.raw (.b rfl) rfl) (.cons (rt' := (ak .i64)) rfl uW (.raw (.b rfl) rfl) (.cons (rt' := (ak .i64)) rfl uV (.raw (.b rfl) rfl) .nil))))) (zC gc rfl rfl rfl (Lens.id _) (.tv (.b rfl)) (zZ (am (ai ?_)))))))
    exact cv results42 (ax gc rfl rfl rfl (Lens.id bv)) rfl (congrArg (SV.tv bv) (by unfold ckA; rw [if_neg (by rw [h2]; decide), if_neg h4, kQ hi0, if_pos h7]))
  skip
  refine ah (aa (zR (zJ (aI z46 rfl qJ .nil) (zC gc rfl rfl rfl (Lens.id _) (.tv (.b rfl)) (zZ (am ?_))))))
  exact cv results42 (ax gc rfl rfl rfl (Lens.id bv)) rfl (congrArg (SV.tv bv) (by unfold ckA; rw [if_neg (by rw [h2]; decide), if_neg h4, kQ hi0, if_neg (by rw [h7]; decide)]))
theorem C6 {l : cA} {s : ba} (h : 0 ≤ s.2.1) (h2 : s.2.1.toNat < l.2.2.length) : ndT l s = (s, l.2.2[s.2.1.toNat], List.replicate s.2.2.2.1.length false, List.replicate (l.2.2[s.2.1.toNat]).2.2.2.1.length false) := by
  have e : msc l s = l.2.2[s.2.1.toNat] := by unfold msc sc; rw [if_pos h, List.getElem?_eq_getElem h2]; rfl
  unfold ndT; rw [e]
theorem C7 {l : cA} {s : ba} (h : ¬ 0 ≤ s.2.1) : ndT l s = (s, zSc, List.replicate s.2.2.2.1.length false, []) := by
  have e : msc l s = zSc := by unfold msc; rw [if_neg h]
  unfold ndT; rw [e]; rfl
theorem za (l : cA) (i : Nat) (hi0 : i < l.2.2.length) (hms : l.2.2[i].2.1 < (l.2.2.length : Int)) (hS : ∀ s ∈ l.2.2, s.2.2.1.length ≤ 1000000 ∧ s.2.2.2.1.length ≤ 1000000) : Ct prog 43 [.tv cz l, .raw (.int .i64 (i : Nat))] (.eptr gg (ndT l l.2.2[i])) := by
  refine ay func43 rfl rfl ntmps43 rfl rfl ?_
  intro w0 ok0
  have hds := (hS _ (List.getElem_mem hi0)).2
  refine zR (zb (.tv (.b rfl)) (zY rfl (aa (zR (zF cN rfl (zL gB rfl rfl rfl du (zM rfl ?_)))))))
  refine bc _ rfl _ rfl rfl (al fx dx (.b rfl) (.b rfl) rfl zg) ?_
  refine zD dx rfl (zJ (aI z137 rfl pl137 (.cons (rt' := bx) rfl mT (.tv (.b rfl)) .nil)) (zb (.tv (.b rfl)) (zY rfl (aa (zR (zM rfl (zM rfl (zJ (dm (.b rfl)) (zF nK rfl (zF dD rfl (zJ (aj fj (.b rfl) rfl rfl (Lens.comp mT d8)) (zN ei rfl (zO (dL fq ty4 z4 rfl by4 (.b rfl) (.b rfl) (by dsimp only; omega) (by unfold maxLen; dsimp only; omega) rfl rfl rfl) ?_)))))))))))))
  refine pq (rt := bP) 20 20 (b8 20 _) rfl rfl (by simp) (bl 20 _) (bC 20 _) ?_
  rw [List.drop_zero, List.take_of_length_le (by simp)]
  refine zJ (dm (.b rfl)) (zF ua rfl (zC vA rfl rfl rfl vX (.tv (.b rfl)) (zZ (ae (zR (zM rfl (zJ (dm (.b rfl)) (zF nK rfl (zF gu rfl (zJ (aj ty3 (.b rfl) rfl rfl (Lens.comp mT gM)) (zJ (bW (.b rfl) (.b rfl)) (zZ ?_))))))))))))
  refine af rfl (fun h3 => ?_) (fun h3 => ?_)
  · have h3 : 0 ≤ l.2.2[i].2.1 := by simpa using h3
    have hml : l.2.2[i].2.1.toNat < l.2.2.length := by omega
    have hmd := (hS _ (List.getElem_mem hml)).2
    have hsc : sc l l.2.2[i].2.1 = l.2.2[l.2.2[i].2.1.toNat] := by unfold sc; rw [List.getElem?_eq_getElem hml]; rfl
    refine ae ?_
    refine tP 10 mo zk zk (by decide) ( zS (ag (.b rfl)) ( zS (ao cN (.b rfl)) ( zS (aj gB (.b rfl) rfl rfl du) ( zS (ag (.b rfl)) ( zS (dm (.b rfl)) ( zS (ao nK (.b rfl)) ( zS (ao gu (.b rfl)) ( zS (aj ty3 (.b rfl) rfl rfl (Lens.comp mT gM)) ( zS (al fx dx (.b rfl) (.b rfl) (show l.2.2[i].2.1 = ((l.2.2[i].2.1.toNat : Nat) : Int) by omega) zg) ( zS (aA dx (.b rfl)) ( AS.nil))))))))))) ?_
    refine u4 _ _ rfl rfl rfl rfl zk (dm (.b rfl)) ?_
    refine u4 _ _ rfl rfl rfl rfl zk (ao nJ (.b rfl)) ?_
    refine C8 _ rfl rfl zk (bK dx (.b rfl) rfl rfl pk (.tv (.b rfl))) ?_
    refine z6 rfl ?_
    refine aa (ac (zM rfl (zM rfl (zJ (dm (.b rfl)) (zF nJ rfl (zF dD rfl (zJ (aj fj (.b rfl) rfl rfl (Lens.comp pk d8)) (zN ei rfl (zO (dL fq ty4 z4 rfl by4 (.b rfl) (.b rfl) (by dsimp only; omega) (by unfold maxLen; dsimp only; omega) rfl rfl rfl) ?_)))))))))
    refine pq (rt := bP) 48 48 (b8 48 _) rfl rfl (by simp) (bl 48 _) (bC 48 _) ?_
    rw [List.drop_zero, List.take_of_length_le (by simp)]
    refine zJ (dm (.b rfl)) (zF t8 rfl (zC vA rfl rfl rfl vW (.tv (.b rfl)) (zZ (ae ?_))))
    refine lU 12 5 (b8 12 _) rfl rfl (bl 12 _) (bC 12 _) ?_
    refine ac (zM rfl (zY rfl (aa (am ?_))))
    exact z1 results43 rfl (congrArg (SV.eptr gg) (by first | exact (C6 h3 hml).symm | exact (C7 h3).symm))
  have h3 : ¬ 0 ≤ l.2.2[i].2.1 := by simpa using h3
  refine ah (aa (ae ?_))
  refine lU 12 5 (b8 12 _) rfl rfl (bl 12 _) (bC 12 _) ?_
  refine ac (zM rfl (zY rfl (aa (am ?_))))
  exact z1 results43 rfl (congrArg (SV.eptr gg) (by first | exact (C6 h3 hml).symm | exact (C7 h3).symm))
theorem yB (s : ba) (d date m : Int) (x dd : List bh) (mm : List (List bh)) (mt : List bE) (tb : List cy) (sg : a6) (hlm : s.2.2.2.2.length ≤ 100000) (hG : ∀ i ∈ (eY (fD d date) s.2.2.2.2 s.2.2.2.2.length), GOK sg x (grd s.2.2.2.2 i)) (hil : (eY (fD d date) s.2.2.2.2 s.2.2.2.2.length).length ≤ 1000) : Ct prog 49 [.tv bx s, .tv fC (date, x, dd, mm, mt, tb), .raw (.int .i64 m), .raw (.int .i64 d)] (.tup2 (.raw (.int .i64 (jm s d date x))) (.tv bv (0, 0, 0, 0))) := by
  refine ay func49 rfl rfl ntmps49 rfl rfl ?_
  intro w0 ok0
  have hnl0 := cr (eY (fD d date) s.2.2.2.2 s.2.2.2.2.length)
  have hnl1 : (ik (fD d ((date, x, dd, mm, mt, tb) : mc).1) s.2.2.2.2 s.2.2.2.2.length).length = (eY (fD d date) s.2.2.2.2 s.2.2.2.2.length).length := cr _
  have hin : ∀ i ∈ (eY (fD d date) s.2.2.2.2 s.2.2.2.2.length), i < s.2.2.2.2.length := fun j hj => iP (j5.1 hj).2
  refine zR (zb (.tv (.b rfl)) (zb (.tv (.b rfl)) (zA rfl (zl z46 (zZ (zR (zL dx rfl rfl rfl (Lens.id _) (zM rfl (zF AR rfl (zL ty3 rfl rfl rfl pn (zJ (an (nY _ _ _ hlm) (.cons (.b rfl) (.cons (.b rfl) (.cons (.b rfl) .nil))) rfl rfl) (zM rfl (zJ (d7 (.b rfl)) (zJ (d6 (.b rfl)) (zJ (d5 (.b rfl)) (zA rfl (zA rfl (zY rfl (aa (zR (zM rfl (zN bd rfl (zO (dL fq ty4 z4 rfl by4 (.b rfl) (.b rfl) zo (by unfold maxLen; omega) rfl rfl rfl) (zY rfl (aa (ae (zR (zM rfl (zN bd rfl (zM rfl (zZ (aq ?_))))))))))))))))))))))))))))))))
  refine aZ (ι := Nat) (fun k => ⟨[(2, .raw (.int .i64 (m))), (3, .raw (.int .i64 (d))), (4, .optr 4 bx.n 0 0), (5, .optr 5 fC.n 0 0), (9, .optr 9 bv.n 0 0), (10, .tv (ab (ak .i64)) (nI (eY (fD d date) s.2.2.2.2 s.2.2.2.2.length))), (11, .tv (ab (ak .i64)) (kX (fD d date) s.2.2.2.2 s.2.2.2.2.length)), (12, .tv (ab (ak .i64)) (uI (fD d date) s.2.2.2.2 s.2.2.2.2.length)), (13, .own 30 bP.n 0 (nI (eY (fD d date) s.2.2.2.2 s.2.2.2.2.length)).length), (31, .tv (ab (ak .i64)) (nI (eY (fD d date) s.2.2.2.2 s.2.2.2.2.length))), (32, .raw (.int .i64 ((nI (eY (fD d date) s.2.2.2.2 s.2.2.2.2.length)).length))), (33, .raw (.int .i64 ((k : Nat))))], [(4, ⟨bx, [s]⟩), (5, ⟨fC, [(date, x, dd, mm, mt, tb)]⟩), (9, ⟨bv, [(0, 0, 0, 0)]⟩), (30, ⟨bP, (apK s.2.2.2.2 (eY (fD d date) s.2.2.2.2 s.2.2.2.2.length) x k)⟩)]⟩) (fun k => k ≤ (eY (fD d date) s.2.2.2.2 s.2.2.2.2.length).length) (fun k => (eY (fD d date) s.2.2.2.2 s.2.2.2.2.length).length - k) 0 (Nat.zero_le _) (fun a w hi => (Sub.inv ⟨(by repeat (first | exact aQ | refine aM rfl (by first | rfl | (simp; done)) ?_)), (by repeat (first | exact bn | refine aL rfl (by first | rfl | (exact congrArg (HB.mk bP) (gF _ _ _).symm) | (exact congrArg (HB.mk bP) ((gF _ _ _).trans (congrArg (fun n => List.replicate n false) (cr (eY (fD d date) s.2.2.2.2 s.2.2.2.2.length)).symm))) | (exact congrArg (HB.mk bP) ((gF _ _ _).trans (congrArg (fun n => List.replicate n false) (cr (eY (fD d date) s.2.2.2.2 s.2.2.2.2.length)).symm)).symm) | (rw [gF, ← cr]; done) | (rw [gF, cr]; done) | (simp [gF, cr]; done)) ?_))⟩ hi)) ?_
  rintro k hk
  have hal := sQ (rs := s.2.2.2.2) (x := x) hk
  have hnl := cr (eY (fD d date) s.2.2.2.2 s.2.2.2.2.length)
  refine zR (zt rfl rfl (zZ (ae ?_)))
  refine af rfl (fun h4 => ?_) (fun h4 => ?_)
  · have h3 : k < (eY (fD d date) s.2.2.2.2 s.2.2.2.2.length).length := by simp only [cr, decide_eq_true_eq, decide_eq_false_iff_not] at h4; omega
    have hat := oN h3 (h' := by rw [cr]; exact h3)
    have hir := hin _ (List.getElem_mem h3)
    have hgr := kJ hir
    have hap := Br (rs := s.2.2.2.2) (x := x) h3
    refine ah (aa (ae (aq (zR (zM rfl ?_)))))
    refine bc _ rfl _ rfl rfl (al bd ty3 (.b rfl) (.b rfl) rfl zg) ?_
    refine zD ty3 rfl (zA rfl (zY rfl (aa (ae (zR (zF dw rfl (zL jh rfl rfl rfl dT (zM rfl ?_))))))))
    refine bc _ rfl _ rfl rfl (al ga dp (.b rfl) (.b rfl) hat zg) ?_
    refine zB eQ fG rfl (zD hP rfl (zN fB rfl (ze rfl rfl (zZ ?_))))
    refine af rfl (fun h6 => ?_) (fun h6 => ?_)
    · have hz : (grd s.2.2.2.2 (eY (fD d date) s.2.2.2.2 s.2.2.2.2.length)[k]).length = 0 := by rw [hgr]; have := eq_of_beq h6; omega
      have hs := hap
      rw [qD hz] at hs
      refine zR (zM rfl (zM rfl (zJ (bu fq ty4 (.b rfl) (.b rfl) rfl zh) ?_)))
      refine eN _ rfl (bK ty4 (.b rfl) rfl zg (Lens.id _) (.raw (.b rfl) rfl)) ?_
      refine zZ (bg (be (bf (aa (ac (zU rfl rfl zw (zM rfl (aN ?_))))))))
      exact aD (fun a w hi => ⟨k + 1, zo, zo, zW hi⟩)
    have hz : ¬ (grd s.2.2.2.2 (eY (fD d date) s.2.2.2.2 s.2.2.2.2.length)[k]).length = 0 := by rw [hgr]; have := beq_eq_false_iff_ne.1 h6; omega
    obtain ⟨⟨ty, hF⟩, hst, h100⟩ := hG _ (List.getElem_mem h3) zo
    rw [qC hz, hgr] at hap
    rw [hgr] at hF hst h100
    have hs := hap
    refine ah (aa (ae ?_))
    refine bZ mo zk ( zE [4] (ao dw (.b rfl)) ( zE [4] (aj jh (.b rfl) rfl rfl dT) ( zE [] (ag (.b rfl)) ( zE [] (al ga dp (.b rfl) (.b rfl) hat zg) ( zE [] (aO eQ fG (.b rfl)) ( zE [] (aA hP (.b rfl)) ( zE [5] (aj hZ (.b rfl) rfl rfl (Lens.id _)) ( zE [] (an (sB _ sg ty _ hF hst h100) (.cons (.b rfl) (.cons (.b rfl) .nil)) rfl rfl) ( zE [] (ag (.b rfl)) ( zE [] (bj (.b rfl)) ( zE [] (bi (.b rfl)) ( AE.cons _ _ _ rfl (d9 _ z183 rfl) ( AE.cons _ _ _ rfl (bF bI (.b rfl) rfl rfl (Lens.id _) (.tv (.b rfl))) ( zE [] (aU (.b rfl)) ( AE.nil))))))))))))))) zk ?_
    refine aa (ae (zR (zM rfl (zJ (bQ (.b rfl) (.b rfl)) (zZ ?_)))))
    refine af rfl (fun h9 => ?_) (fun h9 => ?_)
    · exfalso; simp at h9
    try simp at h9
    refine ah (aa (ac (zM rfl (zM rfl (zF cw rfl (zL ty3 rfl rfl rfl cp (ze rfl rfl (zJ (bu fq ty4 (.b rfl) (.b rfl) rfl zh) ?_))))))))
    refine eN _ rfl (bK ty4 (.b rfl) rfl zg (Lens.id _) (.raw (.b rfl) rfl)) ?_
    refine aN (aG (aa (ac (zU rfl rfl zw (zM rfl (aN ?_))))))
    exact aD (fun a w hi => ⟨k + 1, zo, zo, zW hi⟩)
  have h3 : k = (eY (fD d date) s.2.2.2.2 s.2.2.2.2.length).length := by simp only [cr, decide_eq_true_eq, decide_eq_false_iff_not] at h4; omega
  subst h3
  refine bg (be (aY (bf (aa (ae ?_)))))
  refine kH (rt := bP) 30 13 (b8 30 _) rfl rfl zo (bl 30 _) (bC 30 _) ?_
  rw [List.drop_zero, List.take_of_length_le zo, Bs]
  refine ac (zM rfl (zM rfl (zM rfl (zJ (an (pd _ _ _) (.cons (.b rfl) (.cons (.b rfl) (.cons (.b rfl) .nil))) rfl rfl) (zY rfl (aa (ae (zR (zM rfl (zt rfl rfl (zZ ?_)))))))))))
  refine af rfl (fun h14 => ?_) (fun h14 => ?_)
  · have h14 : (jL s d date x) < 0 := of_decide_eq_true h14
    refine zR (zM rfl (zJ (aI z46 rfl qJ .nil) (zA rfl (zC gc rfl rfl rfl (Lens.id _) (.tv (.b rfl)) (zQ [8,9] [9] (aa (am (ai ?_))))))))
    exact aK results49 (aw rfl) (ax gc rfl rfl rfl (Lens.id bv)) ⟨rfl, rfl⟩ (congrArg (fun z => SV.tup2 (SV.raw (.int .i64 z)) (SV.tv bv (0, 0, 0, 0))) (by unfold jm; rw [if_pos h14]; rfl))
  have h14 : ¬ (jL s d date x) < 0 := of_decide_eq_false h14
  have hsl := pc (s := s) (d := d) (date := date) (x := x) zo
  have hlt : (jL s d date x).toNat < (nI (eY (fD d date) s.2.2.2.2 s.2.2.2.2.length)).length := by rw [cr]; omega
  refine ah (aa (zR (zM rfl (zM rfl ?_))))
  refine bc _ rfl _ rfl rfl (al bd ty3 (.b rfl) (.b rfl) (show (jL s d date x) = (((jL s d date x).toNat : Nat) : Int) by omega) zg) ?_
  refine zD ty3 rfl (zJ (aI z46 rfl qJ .nil) (zA rfl (zC gc rfl rfl rfl (Lens.id _) (.tv (.b rfl)) (zZ (am ?_)))))
  exact aK results49 (aw rfl) (ax gc rfl rfl rfl (Lens.id bv)) ⟨rfl, rfl⟩ (congrArg (fun z => SV.tup2 (SV.raw (.int .i64 z)) (SV.tv bv (0, 0, 0, 0))) (by unfold jm gi; rw [if_neg h14, List.getElem?_eq_getElem hlt]; rfl))
end Go.Proofs.YtehcaebnijlhgaaGreatDoor
namespace Go.Proofs.YtehcaebnijlhgaaGreatDoor
open Go.Eng Tryz
set_option maxRecDepth 100000
set_option maxHeartbeats 4000000
open C15 C23
theorem ru (s : ba) (x : mc) (m : Int) (hLim : C16.Lim s) : CtV prog 92 (.tv bx s) fC x (x.1, x.2.1, List.replicate s.2.2.2.1.length vaD, x.2.2.2) [.raw (.int .i64 m), .tv (ab bP) (List.replicate s.2.2.2.1.length false)] (.tup2 (.tv (ab (ak .i64)) (List.replicate s.2.2.2.1.length 0)) (.tv bv (0, 0, 0, 0))) := by
  refine xW func92 rfl rfl ntmps92 rfl rfl ?_
  intro w0 ok0 pb po cur e0 h0 hnb hrow
  have hfit : po + 2 + (ab aS).n ≤ cur.size := by
    obtain ⟨c1, e1, q1, q2, _⟩ := hrow
    rw [h0] at q1; injection q1 with q1; injection q1 with q1 _ _; subst q1
    have q2 : po + 1 * 6 ≤ cur.size := q2
    show po + 2 + 1 ≤ cur.size
    omega
  have hds : s.2.2.2.1.length ≤ 1000000 := Nat.le_trans (show s.2.2.2.1.length ≤ 14 from hLim.1) (by decide)
  have hor : ∀ q ∈ (C16.mq (C16.scN s) (C16.iu s)).1, 0 ≤ q ∧ q < (s.2.2.2.1.length : Int) := fun q hq => by
    unfold C16.mq at hq
    split at hq
    · cases hq
    exact (C16.pf _ _ _).rng q hq
  have hol : (C16.mq (C16.scN s) (C16.iu s)).1.length ≤ s.2.2.2.1.length := by
    unfold C16.mq
    split
    · simp
    exact (C16.pf _ _ _).len
  refine zR (zb (.tv (.b rfl)) (zA rfl (zl z46 (zZ (zR (zM rfl (zF dD rfl (zL fj rfl rfl rfl d8 (zN ei rfl (zO (dL gA bI z183 rfl wP (.b rfl) (.b rfl) zo (by unfold maxLen; omega) rfl rfl rfl) ?_))))))))))
  refine pq (rt := aS) 23 23 (b8 23 _) rfl rfl (by simp) (bl 23 _) (bC 23 _) ?_
  rw [List.drop_zero, List.take_of_length_le (by simp)]
  refine zJ (rU (.b rfl)) (zJ (xb nL (.b rfl)) ?_)
  refine xe (f := 2) jk (.b rfl) rfl h0 hnb hfit (fun u hu => ?_)
  refine zZ (zR (zF dD rfl (zL fj rfl rfl rfl d8 (zN ei rfl (zO (dL bd ty3 z3 rfl by3 (.b rfl) (.b rfl) zo (by unfold maxLen; omega) rfl rfl rfl) (zY rfl (aa (zR (zL dx rfl rfl rfl (Lens.id _) (zJ (an (C16.sC s hLim) (.cons (.b rfl) .nil) rfl rfl) (zM rfl (zJ (bj (.b rfl)) (zJ (bi (.b rfl)) (zA rfl (zY rfl (aa (ae (zR (zM rfl (zN bd rfl (zM rfl (zZ (aq ?_)))))))))))))))))))))))
  refine aZ (ι := Nat) (fun k => ⟨[(1, .raw (cU pb po)), (2, .raw (.int .i64 (m))), (3, .tv (ab bP) (List.replicate s.2.2.2.1.length false)), (4, .optr 4 bx.n 0 0), (9, .optr 9 bv.n 0 0), (10, .own 29 (ak .i64).n 0 s.2.2.2.1.length), (23, .both (.tv (ab aS) (List.replicate s.2.2.2.1.length vaD)) u), (35, .tv (ab (ak .i64)) (C16.mq (C16.scN s) (C16.iu s)).1), (36, .raw (.int .i64 (((C16.mq (C16.scN s) (C16.iu s)).1.length : Int)))), (37, .raw (.int .i64 ((k : Nat))))], [(4, ⟨bx, [s]⟩), (9, ⟨bv, [(0, 0, 0, 0)]⟩), (29, ⟨ak .i64, List.replicate s.2.2.2.1.length 0⟩)]⟩) (fun k => k ≤ (C16.mq (C16.scN s) (C16.iu s)).1.length) (fun k => (C16.mq (C16.scN s) (C16.iu s)).1.length - k) 0 (Nat.zero_le _) (fun a w hi => (zI hi)) ?_
  rintro k hk
  refine zR (zt rfl rfl (zZ (ae ?_)))
  refine af rfl (fun h5 => ?_) (fun h5 => ?_)
  · have h5 : k < (C16.mq (C16.scN s) (C16.iu s)).1.length := by simpa using h5
    have hr := hor _ (List.getElem_mem h5)
    refine ah (aa (ae (aq (zR ?_))))
    refine bc _ rfl _ rfl rfl (al bd ty3 (.b rfl) (.b rfl) rfl zg) ?_
    refine zD ty3 rfl (zY rfl (aa (ae (zR (zM rfl (zM rfl ?_))))))
    refine bc _ rfl _ rfl rfl (al fq ty4 (.b rfl) (.b rfl) (show (C16.mq (C16.scN s) (C16.iu s)).1[k] = (((C16.mq (C16.scN s) (C16.iu s)).1[k].toNat : Nat) : Int) by omega) zg) ?_
    refine zD ty4 rfl (zJ (b6 (.b rfl)) (zZ ?_))
    refine af rfl (fun h7 => ?_) (fun h7 => ?_)
    · skip
      refine bg (be (bf (aa (ac (zU rfl rfl zw (zM rfl (aN ?_)))))))
      exact aD (fun a w hi => ⟨k + 1, zj, zo, zI hi⟩)
    exfalso; simp at h7
  skip
  refine bg (be (aY (bf (aa (ae ?_)))))
  refine kH (rt := ak .i64) 29 10 (b8 29 _) rfl rfl (by simp) (bl 29 _) (bC 29 _) ?_
  rw [List.drop_zero, List.take_of_length_le (by simp)]
  refine ac (zM rfl (zJ (aI z46 rfl qJ .nil) (zA rfl (zC gc rfl rfl rfl (Lens.id _) (.tv (.b rfl)) (zZ (am ?_))))))
  exact z8 (i := 23) results92 (aw rfl) (ax gc rfl rfl rfl (Lens.id bv)) ⟨rfl, rfl⟩ rfl h0 hnb hrow pm hu rfl rfl
end Go.Proofs.YtehcaebnijlhgaaGreatDoor
namespace Go.Proofs.YtehcaebnijlhgaaGreatDoor
open Go.Eng Tryz
set_option maxRecDepth 100000
set_option maxHeartbeats 4000000
open C15 C23
abbrev mg := (bO (ak .i64) (bO (ab aS) (bO (ab aS) (bO rHd (bO rHd (ab ch))))))
theorem yj : Ty prog 123 mg := by obtain ⟨⟨de, hu, hd⟩, i0, hi0, hs⟩ := hZ; exact ⟨⟨de, hu, hd⟩, i0, hi0, hs⟩
theorem vv : TyZero prog 123 mg (0, ([], ([], ((none, 0, 0), ((none, 0, 0), []))))) := dj zk ((aR (cc .i64) ((aR (bm) ((aR (bm) ((aR (pB) ((aR (pB) (bm)))))))))))
theorem uT : Lens mg 0 (ak .i64) (fun d => d.1) (fun d x => (x, d.2)) := (Lens.fst (Lens.id (ak .i64)))
theorem uS : Lens mg 1 (ab aS) (fun d => d.2.1) (fun d x => (d.1, (x, d.2.2))) := (Lens.snd (Lens.fst (Lens.id (ab aS))) rfl)
theorem p9 : Lens mg 4 rHd (fun d => d.2.2.2.2.1) (fun d x => (d.1, (d.2.1, (d.2.2.1, (d.2.2.2.1, (x, d.2.2.2.2.2)))))) := (Lens.snd (Lens.snd (Lens.snd (Lens.snd (Lens.fst (Lens.id rHd)) rfl) rfl) rfl) rfl)
theorem uR : Lens mg 5 (ab ch) (fun d => d.2.2.2.2.2) (fun d x => (d.1, (d.2.1, (d.2.2.1, (d.2.2.2.1, (d.2.2.2.2.1, x)))))) := (Lens.snd (Lens.snd (Lens.snd (Lens.snd (Lens.snd (Lens.id (ab ch)) rfl) rfl) rfl) rfl) rfl)
abbrev q8 := (bO (ak .i64) (bO (ab aS) (bO (ab aS) (bO rHd (bO (ab aX) (ab ch))))))
theorem p8 : Lens q8 3 rHd (fun d => d.2.2.2.1) (fun d x => (d.1, (d.2.1, (d.2.2.1, (x, d.2.2.2.2))))) := (Lens.snd (Lens.snd (Lens.snd (Lens.fst (Lens.id rHd)) rfl) rfl) rfl)
abbrev oL := (bO (ab aS) (bO (ab (ak .i64)) rHd))
theorem BA : TyZero prog 70 oL ([], ([], (none, 0, 0))) := dj zk ((aR (bm) ((aR (bm) (pB)))))
theorem p5 : Lens oL 2 rHd (fun d => d.2.2) (fun d x => (d.1, (d.2.1, x))) := (Lens.snd (Lens.snd (Lens.id rHd) rfl) rfl)
theorem C0 : Ty prog 28 rHd := by obtain ⟨⟨de, hu, hd⟩, i0, hi0, hs⟩ := uB; exact ⟨⟨de, hu, hd⟩, i0, hi0, hs⟩
theorem CZ : Ty prog 68 rHd := by obtain ⟨⟨de, hu, hd⟩, i0, hi0, hs⟩ := ty68; exact ⟨⟨de, hu, hd⟩, i0, hi0, hs⟩
theorem CY : Ty prog 84 rHd := by obtain ⟨⟨de, hu, hd⟩, i0, hi0, hs⟩ := yk; exact ⟨⟨de, hu, hd⟩, i0, hi0, hs⟩
theorem mk_s {α β : Type} (f : α → β) {l : List α} {k : Nat} (h : k < l.length) : (l.take (k + 1)).map f = (l.take k).map f ++ [f l[k]] := by
  rw [List.take_succ_eq_append_getElem h, List.map_append]; rfl
theorem mk_l {α β : Type} (f : α → β) (l : List α) (k : Nat) : ((l.take k).map f).length ≤ l.length := by simp; omega
theorem mk_n {α β : Type} (f : α → β) {l : List α} {k : Nat} (h : l.length ≤ k) : (l.take k).map f = l.map f := by rw [List.take_of_length_le h]
theorem rp_s {α : Type} (z : α) (k : Nat) : List.replicate (k + 1) z = List.replicate k z ++ [z] := List.replicate_succ'
def evE (s ms : ba) (c : gz) (tb : List cy) : mc := (c.1, c.2.1, List.replicate s.2.2.2.1.length vaD, List.replicate c.2.2.length (List.replicate ms.2.2.2.1.length vaD), ms.2.2.2.1.map (fun f => f.2), tb)
def evR (s ms : ba) (c : gz) : sR := (List.replicate s.2.2.2.1.length vaD, List.replicate s.2.2.2.1.length 0, List.replicate c.2.2.length (List.replicate ms.2.2.2.1.length vaD, List.replicate ms.2.2.2.1.length 0))
theorem ug (l : cA) (i : Int) (c : gz) (s ms : ba) (hLs : C16.Lim s) (hLm : C16.Lim ms) (hcl : c.2.2.length ≤ 1000000) : Ct prog 48 [.tv cz l, .raw (.int .i64 i), .tv ej c, .eptr gg (s, ms, List.replicate s.2.2.2.1.length false, List.replicate ms.2.2.2.1.length false)] (.tup3 (.tv e7 (evR s ms c)) (.tv fC (evE s ms c l.2.1)) (.tv bv (0, 0, 0, 0))) := by
  refine ay func48 rfl rfl ntmps48 rfl rfl ?_
  intro w0 ok0
  have hdm : ms.2.2.2.1.length ≤ 14 := hLm.1
  refine zR (zb (.tv (.b rfl)) (zb (.tv (.b rfl)) (zl z70 (zl sV (zl z46 (zQ [3,4,6,8,9,10] [4,6,8,9,10] (aa (zR ?_))))))))
  refine zF iJ rfl (zL ty3 rfl rfl rfl jN (zF sx rfl (zL jk rfl rfl rfl rZ (zF fo rfl (zL jl rfl rfl rfl gN (zJ (aI vv rfl vP (.cons (rt' := ak .i64) rfl uT (.raw (.b rfl) rfl) (.cons (rt' := ab aS) rfl uS (.tv (.b rfl)) (.cons (rt' := ab ch) rfl uR (.tv (.b rfl)) .nil)))) (zl vv (zC yj rfl rfl rfl (Lens.id _) (.tv (.b rfl)) (zQ [3,4,6,8,9,10,11] [4,6,8,9,10,11] (aa (zR ?_)))))))))))
  refine zl BA (zQ [3,4,6,8,9,10,11,12] [4,6,8,9,10,11,12] (aa (ae (ae ?_))))
  refine u5 11 70 aX rfl rfl rfl ?_
  refine ac (zM rfl (zJ (cI (.b rfl)) (zB nJ pk rfl (zB dD d8 rfl (zD fj rfl (zN ei rfl (zM rfl (zQ [3,4,6,8,9,10,11,12,33,34,35] [4,6,8,9,10,11,12,70] (aa (aq ?_))))))))))
  refine aZ (ι := Nat × Option Addr × Nat) (fun (k, A, cap) => ⟨[(3, .eptr gg (s, ms, List.replicate s.2.2.2.1.length false, List.replicate ms.2.2.2.1.length false)), (4, .optr 4 cz.n 0 0), (6, .optr 6 ej.n 0 0), (8, .optr 8 e7.n 0 0), (9, .optr 9 fC.n 0 0), (10, .optr 10 bv.n 0 0), (11, .lnk (.optr 11 mg.n 0 0) (.slice A ((ms.2.2.2.1.take k).map (fun f => f.2)).length cap) (.own 70 aX.n 0 ((ms.2.2.2.1.take k).map (fun f => f.2)).length)), (12, .optr 12 oL.n 0 0), (33, .tv (ab cq) ms.2.2.2.1), (34, .raw (.int .i64 (ms.2.2.2.1.length))), (35, .raw (.int .i64 ((k : Nat))))], [(4, ⟨cz, [l]⟩), (6, ⟨ej, [c]⟩), (8, ⟨e7, [([], [], [])]⟩), (9, ⟨fC, [(0, [], [], [], [], [])]⟩), (10, ⟨bv, [(0, 0, 0, 0)]⟩), (11, ⟨mg, [(c.1, c.2.1, [], (none, 0, 0), (A, ((ms.2.2.2.1.take k).map (fun f => f.2)).length, cap), l.2.1)]⟩), (12, ⟨oL, [([], [], (none, 0, 0))]⟩), (70, ⟨aX, ((ms.2.2.2.1.take k).map (fun f => f.2))⟩)]⟩) (fun (k, A, cap) => k ≤ ms.2.2.2.1.length) (fun (k, A, cap) => ms.2.2.2.1.length - k) (0, none, 0) (Nat.zero_le _) (fun a w hi => (zI hi)) ?_
  rintro ⟨k, A, cap⟩ hk
  have q4 := mk_l (fun f : cf => f.2) ms.2.2.2.1 k
  refine zR (zt rfl rfl (zQ [3,4,6,8,9,10,11,12,33,34,35,36] [4,6,8,9,10,11,12,70] (aa (ae ?_))))
  refine af rfl (fun h4 => ?_) (fun h4 => ?_)
  · have h4 : k < ms.2.2.2.1.length := by simpa using h4
    have hs := mk_s (fun f : cf => f.2) h4
    have hsl := congrArg List.length hs
    rw [List.length_append] at hsl
    refine ah (aa (ae (aq (zR ?_))))
    refine bc _ rfl _ rfl rfl (al ei e8 (.b rfl) (.b rfl) rfl zg) ?_
    refine zD e8 rfl (zl z92 (zC e8 rfl rfl rfl (Lens.id _) (.tv (.b rfl)) (zQ [3,4,6,8,9,10,11,12,14,33,34,35] [4,6,8,9,10,11,12,14,70] (aa (ac ?_)))))
    refine zJ (ao ub (.l1 rfl)) (zJ (aj (rt := mg) CY (.b rfl) rfl rfl p9) ?_)
    refine ls 11 40 rfl rfl rfl ?_
    refine zF gq rfl (zL aE rfl rfl rfl fN (zJ (bq (rt := aX) cK aE z90 rfl (.cons (.tv (.b rfl)) .nil) rfl rfl) (zV [3,4,6,8,9,10,11,12,33,34,35] cK aE z90 by90 rfl rfl (.tv (.b rfl)) ?_)))
    refine ij 11 44 rfl rfl (fun A9 cap9 => ?_)
    refine zJ (ao ub (.l1 rfl)) (zO (bK (rt := mg) CY (.b rfl) rfl rfl p9 (.raw (d := (A9, _, cap9)) (.b rfl) rfl)) (zQ [3,4,6,8,9,10,11,12,33,34,35] [4,6,8,9,10,11,12,70] (aG (aa (ac ?_)))))
    refine zU rfl rfl zw (zM rfl (zQ [3,4,6,8,9,10,11,12,33,34,35] [4,6,8,9,10,11,12,70] ?_))
    first | (have _hA9 := A9; exact aD (fun a w hi => ⟨(k + 1, A9, cap9), (by show _ - (k + 1) < _ - k; omega), (by show k + 1 ≤ _; omega), Sub.inv ⟨(by repeat (first | exact aQ | refine aM rfl (by first | rfl | (rw [hsl]; rfl) | (rw [hsl]; done)) ?_)), (by repeat (first | exact bn | refine aL rfl (by first | rfl | (refine congrArg (HB.mk aX) ?_; first | rfl | (rw [hs]; (try simp only [List.drop_zero, List.take_length]); first | done | rfl | (simp; done); done)) | (rw [hsl]; rfl) | (rw [hsl]; done)) ?_))⟩ hi⟩))
  have h4 : ms.2.2.2.1.length ≤ k := by simpa using h4
  have hmn := mk_n (fun f : cf => f.2) h4
  refine bg (be (aY (bf (aa (ae (ae ?_))))))
  rw [hmn]
  refine nr (rt := aX) 70 11 (b8 70 _) rfl rfl (by simp) (bl 70 _) (bC 70 _) ?_
  rw [List.drop_zero, List.take_of_length_le (by simp)]
  refine ns 11 11 q8 (c.1, c.2.1, [], (none, 0, 0), (ms.2.2.2.1.map (fun f => f.2)), l.2.1) (df _ (df _ (df _ (df _ (rB _ kl))))) rfl rfl rfl ?_
  refine u5 11 71 (ab aS) rfl rfl rfl ?_
  refine u5 12 72 cQ rfl rfl rfl ?_
  refine ac (zF lZ rfl (zL uB rfl rfl rfl oh (zN qH rfl (zM rfl (zQ [3,4,6,8,9,10,11,12,48,49,50] [4,6,8,9,10,11,12,71,72] (aa (aq ?_)))))))
  refine aZ (ι := Nat × Option Addr × Nat × Option Addr × Nat) (fun (k, A, cap, A2, cap2) => ⟨[(3, .eptr gg (s, ms, List.replicate s.2.2.2.1.length false, List.replicate ms.2.2.2.1.length false)), (4, .optr 4 cz.n 0 0), (6, .optr 6 ej.n 0 0), (8, .optr 8 e7.n 0 0), (9, .optr 9 fC.n 0 0), (10, .optr 10 bv.n 0 0), (11, .lnk (.optr 11 q8.n 0 0) (.slice A k cap) (.own 71 (ab aS).n 0 k)), (12, .lnk (.optr 12 oL.n 0 0) (.slice A2 k cap2) (.own 72 cQ.n 0 k)), (48, .tv (ab (ab aS)) c.2.2), (49, .raw (.int .i64 (c.2.2.length))), (50, .raw (.int .i64 ((k : Nat))))], [(4, ⟨cz, [l]⟩), (6, ⟨ej, [c]⟩), (8, ⟨e7, [([], [], [])]⟩), (9, ⟨fC, [(0, [], [], [], [], [])]⟩), (10, ⟨bv, [(0, 0, 0, 0)]⟩), (11, ⟨q8, [(c.1, c.2.1, [], (A, k, cap), (ms.2.2.2.1.map (fun f => f.2)), l.2.1)]⟩), (12, ⟨oL, [([], [], (A2, k, cap2))]⟩), (71, ⟨(ab aS), (List.replicate k (List.replicate ms.2.2.2.1.length vaD))⟩), (72, ⟨cQ, (List.replicate k (((List.replicate ms.2.2.2.1.length vaD), List.replicate ms.2.2.2.1.length 0) : eU))⟩)]⟩) (fun (k, A, cap, A2, cap2) => k ≤ c.2.2.length) (fun (k, A, cap, A2, cap2) => c.2.2.length - k) (0, none, 0, none, 0) (Nat.zero_le _) (fun a w hi => (zI hi)) ?_
  rintro ⟨k, A, cap, A2, cap2⟩ hk
  refine zR (zt rfl rfl (zQ [3,4,6,8,9,10,11,12,48,49,50,51] [4,6,8,9,10,11,12,71,72] (aa (ae ?_))))
  refine af rfl (fun h9 => ?_) (fun h9 => ?_)
  · have h9 : k < c.2.2.length := by simpa using h9
    have hs1 := rp_s (List.replicate ms.2.2.2.1.length vaD) k
    have hs2 := rp_s (((List.replicate ms.2.2.2.1.length vaD), List.replicate ms.2.2.2.1.length 0) : eU) k
    refine ah (aa (ae (aq (zR (zM rfl ?_)))))
    refine bc _ rfl _ rfl rfl (al qH jk (.b rfl) (.b rfl) rfl zg) ?_
    refine zD jk rfl (zA rfl (zA rfl (zQ [3,4,6,8,9,10,11,12,15,16,48,49,50] [4,6,8,9,10,11,12,71,72] (aa (zR ?_)))))
    refine zF iJ rfl (zL ty3 rfl rfl rfl jN (zM rfl (zF fo rfl (zL jl rfl rfl rfl gN (zJ (aI sV rfl vP (.cons (rt' := (ak .i64)) rfl pn (.raw (.b rfl) rfl) (.cons (rt' := (ab aS)) rfl lR (.tv (.b rfl)) (.cons (rt' := (ab ch)) rfl r6 (.tv (.b rfl)) .nil)))) (zl sV (zC hZ rfl rfl rfl (Lens.id _) (.tv (.b rfl)) (zQ [3,4,6,8,9,10,11,12,15,17,48,49,50] [4,6,8,9,10,11,12,17,71,72] (aa (ae ?_))))))))))
    refine bZ mo zk ( zE [] (ag (.b rfl)) ( zE [] (cI (.b rfl)) ( zE [] (aO nJ pk (.b rfl)) ( zE [] (aA dx (.b rfl)) ( zE [] (ag (.b rfl)) ( zE [] (ag (.b rfl)) ( zE [] (cI (.b rfl)) ( zE [] (aO t8 vW (.b rfl)) ( zE [] (aA vA (.b rfl)) ( AE.cons _ _ _ rfl (t6 (ru ms _ _ hLm) (.b rfl) rfl (.cons (.b rfl) (.cons (.b rfl) (.cons (.b rfl) .nil))) rfl rfl rfl) ( zE [] (ag (.b rfl)) ( zE [] (bj (.b rfl)) ( zE [] (bi (.b rfl)) ( AE.cons _ _ _ rfl (d9 _ z46 rfl) ( zE [] (aU (.b rfl)) ( AE.cons _ _ _ rfl (bF gc (.b rfl) rfl rfl (Lens.id _) (.tv (.b rfl))) ( AE.nil))))))))))))))))) zk ?_
    refine zK [3,4,6,8,9,10,11,12,17,18,19,48,49,50] [4,6,8,9,10,11,12,17,19,71,72] (aa (ae (zR ?_)))
    refine zF lY rfl (zL kp rfl rfl rfl kF (zJ (bQ (.b rfl) (.b rfl)) (zQ [3,4,6,8,9,10,11,12,17,18,19,48,49,50,76] [4,6,8,9,10,11,12,17,19,71,72] (aa ?_))))
    refine af rfl (fun h13 => ?_) (fun h13 => ?_)
    · exfalso; simp at h13
    try simp at h13
    refine ah (aa (zR (zJ (ao uc (.l1 rfl)) (zJ (aj (rt := q8) C0 (.b rfl) rfl rfl p8) ?_))))
    refine ls 11 81 rfl rfl rfl ?_
    refine zF nL rfl (zL jk rfl rfl rfl pm (zJ (bq (rt := (ab aS)) qH jk z27 rfl (.cons (.tv (.b rfl)) .nil) rfl rfl) (zV [3,4,6,8,9,10,11,12,17,18,48,49,50] qH jk z27 by27 rfl rfl (.tv (.b rfl)) ?_)))
    refine ij 11 85 rfl rfl (fun A8 cap8 => ?_)
    refine zJ (ao uc (.l1 rfl)) (zO (bK (rt := q8) C0 (.b rfl) rfl rfl p8 (.raw (d := (A8, _, cap8)) (.b rfl) rfl)) (zQ [3,4,6,8,9,10,11,12,17,18,48,49,50] [4,6,8,9,10,11,12,17,71,72] (aa (ac ?_))))
    refine zJ (ao wB (.l1 rfl)) (zJ (aj (rt := oL) CZ (.b rfl) rfl rfl p5) ?_)
    refine ls 12 88 rfl rfl rfl ?_
    refine zF nL rfl (zL jk rfl rfl rfl pm (zM rfl (zJ (aI z150 rfl pl150 (.cons (rt' := (ab aS)) rfl B8 (.tv (.b rfl)) (.cons (rt' := (ab (ak .i64))) rfl B7 (.tv (.b rfl)) .nil))) (zJ (bq (rt := cQ) uT68 C1 z150 rfl (.cons (.tv (.b rfl)) .nil) rfl rfl) (zV [3,4,6,8,9,10,11,12,48,49,50] uT68 C1 z150 by150 rfl rfl (.tv (.b rfl)) ?_)))))
    refine ij 12 94 rfl rfl (fun A9 cap9 => ?_)
    refine zJ (ao wB (.l1 rfl)) (zO (bK (rt := oL) CZ (.b rfl) rfl rfl p5 (.raw (d := (A9, _, cap9)) (.b rfl) rfl)) (zQ [3,4,6,8,9,10,11,12,48,49,50] [4,6,8,9,10,11,12,71,72] (aG (aa (ac ?_)))))
    refine zU rfl rfl zw (zM rfl (zQ [3,4,6,8,9,10,11,12,48,49,50] [4,6,8,9,10,11,12,71,72] ?_))
    exact aD (fun a w hi => ⟨(k + 1, A8, cap8, A9, cap9), (by show _ - (k + 1) < _ - k; omega), (by show k + 1 ≤ _; omega), Sub.inv ⟨(by repeat (first | exact aQ | refine aM rfl (by first | rfl | (simp; done)) ?_)), (by repeat (first | exact bn | refine aL rfl (by first | rfl | (refine congrArg (HB.mk (ab aS)) ?_; first | rfl | (rw [hs1]; (try simp only [List.drop_zero, List.take_length]); first | done | rfl | (simp; done); done) | (rw [hs1]; done) | (rw [hs1]; simp; done)) | (refine congrArg (HB.mk cQ) ?_; first | rfl | (rw [hs2]; (try simp only [List.drop_zero, List.take_length]); first | done | rfl | (simp; done); done) | (rw [hs2]; done) | (rw [hs2]; simp; done)) | (simp; done)) ?_))⟩ hi⟩)
  have h9 : k = c.2.2.length := by simp at h9; omega
  subst h9
  refine bg (be (aY (bf (aa (ae ?_)))))
  refine nr (rt := (ab aS)) 71 11 (b8 71 _) rfl rfl (by simp) (bl 71 _) (bC 71 _) ?_
  rw [List.drop_zero, List.take_of_length_le (by simp)]
  refine ns 11 11 fC (c.1, c.2.1, [], List.replicate c.2.2.length (List.replicate ms.2.2.2.1.length vaD), (ms.2.2.2.1.map (fun f => f.2)), l.2.1) (df _ (df _ (df _ (rB _ kl)))) rfl rfl rfl ?_
  refine nr (rt := cQ) 72 12 (b8 72 _) rfl rfl (by simp) (bl 72 _) (bC 72 _) ?_
  rw [List.drop_zero, List.take_of_length_le (by simp)]
  refine ns 12 12 e7 ([], [], List.replicate c.2.2.length (((List.replicate ms.2.2.2.1.length vaD), List.replicate ms.2.2.2.1.length 0) : eU)) (df _ (df _ kl)) rfl rfl rfl ?_
  refine bZ mo zk ( zE [] (ag (.b rfl)) ( zE [] (cI (.b rfl)) ( zE [] (aO nK mT (.b rfl)) ( zE [] (aA dx (.b rfl)) ( zE [] (ag (.b rfl)) ( zE [] (cI (.b rfl)) ( zE [] (aO ua vX (.b rfl)) ( zE [] (aA vA (.b rfl)) ( AE.cons _ _ _ rfl (t6 (ru s _ _ hLs) (.b rfl) rfl (.cons (.b rfl) (.cons (.b rfl) (.cons (.b rfl) .nil))) rfl rfl rfl) ( zE [] (ag (.b rfl)) ( zE [] (bj (.b rfl)) ( zE [] (bi (.b rfl)) ( AE.cons _ _ _ rfl (d9 _ z46 rfl) ( zE [] (aU (.b rfl)) ( AE.cons _ _ _ rfl (bF gc (.b rfl) rfl rfl (Lens.id _) (.tv (.b rfl))) ( AE.nil)))))))))))))))) zk ?_
  refine zK [8,9,10,11,12,20,21] [8,9,10,11,12,21] (aa (ae (zR ?_)))
  refine zF lY rfl (zL kp rfl rfl rfl kF (zJ (bQ (.b rfl) (.b rfl)) (zQ [8,9,10,11,12,20,21,111] [8,9,10,11,12,21] (aa ?_))))
  refine af rfl (fun h19 => ?_) (fun h19 => ?_)
  · exfalso; simp at h19
  try simp at h19
  refine ah (aa (zR (zF nL rfl (zJ (aj (rt := fC) jk (.b rfl) rfl rfl pm) (zF Cs rfl (zO (bK (rt := e7) jk (.b rfl) rfl rfl ln70_0 (.tv (.b rfl))) (zQ [8,9,10,11,12,20] [8,9,10,11,12] (aa (zR ?_)))))))))
  refine zM rfl (zF Cr rfl (zO (bK (rt := e7) ek (.b rfl) rfl rfl ln70_1 (.tv (.b rfl))) (zQ [8,9,10,11,12] [8,9,10,11,12] (aa (ae ?_)))))
  refine bZ mo zk ( zE [12] (aj (rt := e7) BM (.b rfl) rfl rfl (Lens.id _)) ( zE [11] (aj (rt := fC) hZ (.b rfl) rfl rfl (Lens.id _)) ( zE [] (aI z46 rfl qJ .nil) ( AE.cons _ _ _ rfl (bF BM (.b rfl) rfl rfl (Lens.id _) (.tv (.b rfl))) ( AE.cons _ _ _ rfl (bF hZ (.b rfl) rfl rfl (Lens.id _) (.tv (.b rfl))) ( AE.cons _ _ _ rfl (bF gc (.b rfl) rfl rfl (Lens.id _) (.tv (.b rfl))) ( AE.nil))))))) zk ?_
  refine zK [8,9,10] [8,9,10] (aa (am ?_))
  exact cS results48 (ax BM rfl rfl rfl (Lens.id e7)) (ax hZ rfl rfl rfl (Lens.id fC)) (ax gc rfl rfl rfl (Lens.id bv)) ⟨rfl, rfl, rfl⟩ rfl
end Go.Proofs.YtehcaebnijlhgaaGreatDoor
namespace Go.Proofs.YtehcaebnijlhgaaGreatDoor
open Go.Eng Tryz
set_option maxRecDepth 100000
set_option maxHeartbeats 4000000
open C15 C23
theorem xL {e : List aP} {s : a6} (h : dO e s = true) : C16.cL C16.dt e = [] ∧ C16.cL C16.i5 e = [] := by
  obtain ⟨_, _, hf⟩ := mx h
  have key : ∀ d ∈ e, C16.dt d.1 = false ∧ C16.i5 d.1 = false := fun d hd => by
    obtain ⟨i, hi, rfl⟩ := List.getElem_of_mem hd
    have := lB hi (hf i hi)
    constructor
    · unfold C16.dt; simp; omega
    unfold C16.i5; simp; omega
  unfold C16.cL
  constructor
  · rw [List.filter_eq_nil_iff.2 (fun d hd => by rw [(key d hd).1]; decide)]; rfl
  rw [List.filter_eq_nil_iff.2 (fun d hd => by rw [(key d hd).2]; decide)]; rfl
theorem BB : C16.Lim zSc := ⟨by decide, by decide, fun r hr => by cases hr⟩
theorem B4 {l : cA} {s : ba} (hL : SmL l) (hm : s.2.1 < (l.2.2.length : Int)) : C16.Lim (msc l s) := by
  unfold msc
  split
  · rename_i h
    have hi : s.2.1.toNat < l.2.2.length := by omega
    have e : sc l s.2.1 = l.2.2[s.2.1.toNat] := by unfold sc; rw [List.getElem?_eq_getElem hi]; rfl
    rw [e]; exact rK (hL.2.2.2.1 _ (List.getElem_mem hi))
  exact BB
noncomputable def n5 (l : cA) (scope : Int) (c : gz) (d : Int) : Int × Int × Int × Int × Int :=
  if ((ckA l scope c true d).1 != 0) = true then (0, ckA l scope c true d) else (jm (sc l scope) d c.1 c.2.1, 0, 0, 0, 0)
theorem pL (l : cA) (scope : Int) (c : gz) (d : Int) (hL : SmL l) (hN : o3 l) (hcl : c.2.2.length ≤ 1000000) (hflat : ∀ i, (hi : i < l.2.2.length) → scope = (i : Int) → (jV l).1 = 0 → ∀ e ∈ dP l.2.2[i] d c.1, dO e (eH l l.2.2[i]) = true) : Ct prog 10 [.tv cz l, .raw (.int .i64 scope), .tv ej c, .raw (.int .i64 d)] (.tup2 (.raw (.int .i64 (n5 l scope c d).1)) (.tv bv (n5 l scope c d).2)) := by
  refine ay func10 rfl rfl ntmps10 rfl rfl ?_
  intro w0 ok0
  refine zR (zb (.tv (.b rfl)) (zb (.tv (.b rfl)) (zA rfl (zl z46 (zZ (ae (zR (zL e9 rfl rfl rfl (Lens.id _) (zM rfl (zL s3 rfl rfl rfl (Lens.id _) (zM rfl (zJ (an (CH l _ c true d hL hN hcl) (.cons (.b rfl) (.cons (.b rfl) (.cons (.b rfl) (.cons (.b rfl) (.cons (.b rfl) .nil))))) rfl rfl) (zl z46 (zC gc rfl rfl rfl (Lens.id _) (.tv (.b rfl)) (zZ (zR (zF lY rfl (zL kp rfl rfl rfl kF (zJ (bQ (.b rfl) (.b rfl)) (zZ ?_))))))))))))))))))))
  refine af rfl (fun h2 => ?_) (fun h2 => ?_)
  · skip
    refine ae ?_
    refine bZ mo zk ( zE [10] (aj gc (.b rfl) rfl rfl (Lens.id _)) ( zE [] (aU (.b rfl)) ( AE.cons _ _ _ rfl (bF gc (.b rfl) rfl rfl (Lens.id _) (.tv (.b rfl))) ( AE.nil)))) zk ?_
    refine aa (am (ai ?_))
    exact aK results10 (aw rfl) (ax gc rfl rfl rfl (Lens.id bv)) ⟨rfl, rfl⟩ (by unfold n5; rw [if_pos h2]; rfl)
  have h2 : (ckA l scope c true d).1 = 0 := by simpa using h2
  obtain ⟨hvl, i, hi0, rfl, hd, hvc⟩ := De h2
  have hfl := hflat i hi0 rfl hvl
  have hss := hL.2.2.2.1 _ (List.getElem_mem hi0)
  have hrl : l.2.2[i].2.2.2.2.length ≤ 60 := hss.1.2.2.2
  have hval := rF hvl
  have hvs := hval.2 _ (List.getElem_mem hi0)
  have hms : l.2.2[i].2.1 < (l.2.2.length : Int) := by have := BF hvl i hi0; omega
  have hLs := rK hss
  have hLm := B4 hL hms
  have hS : ∀ s ∈ l.2.2, s.2.2.1.length ≤ 1000000 ∧ s.2.2.2.1.length ≤ 1000000 := fun s hs => by have h1 := (hL.2.2.2.1 s hs).1; omega
  have hil := ja (fD d c.1) l.2.2[i].2.2.2.2 l.2.2[i].2.2.2.2.length
  have hnl := cr (eY (fD d c.1) l.2.2[i].2.2.2.2 l.2.2[i].2.2.2.2.length)
  have hix : ∀ j ∈ (eY (fD d c.1) l.2.2[i].2.2.2.2 l.2.2[i].2.2.2.2.length), j < l.2.2[i].2.2.2.2.length := fun j hj => iP (j5.1 hj).2
  have hvv := qQ hvc
  have hgs : ∀ j ∈ (eY (fD d c.1) l.2.2[i].2.2.2.2 l.2.2[i].2.2.2.2.length), 0 < (grd l.2.2[i].2.2.2.2 j).length → grd l.2.2[i].2.2.2.2 j ∈ dP l.2.2[i] d c.1 := fun j hj h0 => by
    unfold dP gsK
    rw [List.mem_filter, List.mem_map]
    exact ⟨⟨j, hj, rfl⟩, by simp; omega⟩
  have hgok : ∀ j ∈ (eY (fD d c.1) l.2.2[i].2.2.2.2 l.2.2[i].2.2.2.2.length), GOK (eH l l.2.2[i]) c.2.1 (grd l.2.2[i].2.2.2.2 j) := fun j hj => by
    have hjr := hix j hj
    refine ve (fun h0 => hfl _ (hgs j hj h0)) ?_ ⟨hval.1.1, fun q hq => (hval.1.2 q hq).2⟩ hvs.1 hvv
    rw [kJ hjr]; exact (hss.2.2.2 _ (List.getElem_mem hjr)).2.2.1
  refine ah (aa (zR (zF cN rfl (zL gB rfl rfl rfl du (zM rfl ?_)))))
  refine bc _ rfl _ rfl rfl (al fx dx (.b rfl) (.b rfl) rfl zg) ?_
  refine zD dx rfl (zl z81 (zC dx rfl rfl rfl (Lens.id _) (.tv (.b rfl)) (zZ (zR (zL e9 rfl rfl rfl (Lens.id _) (zM rfl (zJ (an (za l i hi0 hms hS) (.cons (.b rfl) (.cons (.b rfl) .nil)) rfl rfl) (zY rfl (aa (ae (zR (zL dx rfl rfl rfl (Lens.id _) (zM rfl (zF iJ rfl (zL ty3 rfl rfl rfl jN (zJ (an (pP _ _ _ zo) (.cons (.b rfl) (.cons (.b rfl) (.cons (.b rfl) .nil))) rfl rfl) (zN bd rfl (zM rfl (zZ (aq ?_))))))))))))))))))))
  refine aZ (ι := Nat) (fun k => ⟨[(1, .raw (.int .i64 (i : Nat))), (3, .raw (.int .i64 d)), (4, .optr 4 cz.n 0 0), (6, .optr 6 ej.n 0 0), (9, .optr 9 bv.n 0 0), (11, .optr 11 bx.n 0 0), (12, .eptr gg (ndT l l.2.2[i])), (47, .tv (ab (ak .i64)) (nI (eY (fD d c.1) l.2.2[i].2.2.2.2 l.2.2[i].2.2.2.2.length))), (48, .raw (.int .i64 ((nI (eY (fD d c.1) l.2.2[i].2.2.2.2 l.2.2[i].2.2.2.2.length)).length))), (49, .raw (.int .i64 ((k : Nat))))], [(4, ⟨cz, [l]⟩), (6, ⟨ej, [c]⟩), (9, ⟨bv, [(0, 0, 0, 0)]⟩), (11, ⟨bx, [l.2.2[i]]⟩)]⟩) (fun k => k ≤ (eY (fD d c.1) l.2.2[i].2.2.2.2 l.2.2[i].2.2.2.2.length).length) (fun k => (eY (fD d c.1) l.2.2[i].2.2.2.2 l.2.2[i].2.2.2.2.length).length - k) 0 (Nat.zero_le _) (fun a w hi => (zI hi)) ?_
  rintro k hk
  refine zR (zt rfl rfl (zZ (ae ?_)))
  refine af rfl (fun h7 => ?_) (fun h7 => ?_)
  · have h7 : k < (eY (fD d c.1) l.2.2[i].2.2.2.2 l.2.2[i].2.2.2.2.length).length := by simpa [cr] using h7
    have hat := oN h7 (h' := by rw [cr]; exact h7)
    have hir := hix _ (List.getElem_mem h7)
    have hgr := kJ hir
    have hel : l.2.2[i].2.2.2.2[(eY (fD d c.1) l.2.2[i].2.2.2.2 l.2.2[i].2.2.2.2.length)[k]].2.2.2.2.2.1.length ≤ 50 := (hss.2.2.2 _ (List.getElem_mem hir)).2.2.1
    have hct : Ct prog 45 [.tv (ab bX) l.2.2[i].2.2.2.2[(eY (fD d c.1) l.2.2[i].2.2.2.2 l.2.2[i].2.2.2.2.length)[k]].2.2.2.2.2.1] (.tup3 (.tv (ab (ak .i64)) (cj (C16.cL C16.pIn l.2.2[i].2.2.2.2[(eY (fD d c.1) l.2.2[i].2.2.2.2 l.2.2[i].2.2.2.2.length)[k]].2.2.2.2.2.1))) (.tv (ab (ak .i64)) []) (.tv (ab (ak .i64)) [])) := by
      have q := C16.mJ l.2.2[i].2.2.2.2[(eY (fD d c.1) l.2.2[i].2.2.2.2 l.2.2[i].2.2.2.2.length)[k]].2.2.2.2.2.1 zo
      have hz : C16.cL C16.dt l.2.2[i].2.2.2.2[(eY (fD d c.1) l.2.2[i].2.2.2.2 l.2.2[i].2.2.2.2.length)[k]].2.2.2.2.2.1 = [] ∧ C16.cL C16.i5 l.2.2[i].2.2.2.2[(eY (fD d c.1) l.2.2[i].2.2.2.2 l.2.2[i].2.2.2.2.length)[k]].2.2.2.2.2.1 = [] := by
        by_cases h0 : 0 < (grd l.2.2[i].2.2.2.2 (eY (fD d c.1) l.2.2[i].2.2.2.2 l.2.2[i].2.2.2.2.length)[k]).length
        · have := hfl _ (hgs _ (List.getElem_mem h7) h0)
          rw [hgr] at this
          exact xL this
        have : l.2.2[i].2.2.2.2[(eY (fD d c.1) l.2.2[i].2.2.2.2 l.2.2[i].2.2.2.2.length)[k]].2.2.2.2.2.1 = [] := List.length_eq_zero_iff.1 (by rw [hgr] at h0; omega)
        rw [this]; exact ⟨rfl, rfl⟩
      have hu : cj ([] : List Int) = [] := List.length_eq_zero_iff.1 (by have := dI ([] : List Int); simpa using this)
      rw [hz.1, hz.2, hu] at q
      exact q
    refine ah (aa (ae (aq (zR ?_))))
    refine bc _ rfl _ rfl rfl (al bd ty3 (.b rfl) (.b rfl) rfl zg) ?_
    refine zD ty3 rfl (zY rfl (aa (zR (zF dw rfl (zL jh rfl rfl rfl dT (zM rfl ?_))))))
    refine bc _ rfl _ rfl rfl (al ga dp (.b rfl) (.b rfl) hat zg) ?_
    refine zB eQ fG rfl (zD hP rfl (zJ (an hct (.cons (.b rfl) .nil) rfl rfl) (zM rfl (zJ (d7 (.b rfl)) (zJ (d6 (.b rfl)) (zJ (d5 (.b rfl)) (zA rfl (zA rfl (zY rfl (aa (ae (zR (zM rfl (zN bd rfl (zM rfl (zZ (aq ?_)))))))))))))))))
    refine aZ (ι := Nat) (fun z => ⟨[(1, .raw (.int .i64 (i : Nat))), (3, .raw (.int .i64 d)), (4, .optr 4 cz.n 0 0), (6, .optr 6 ej.n 0 0), (9, .optr 9 bv.n 0 0), (11, .optr 11 bx.n 0 0), (12, .eptr gg (ndT l l.2.2[i])), (47, .tv (ab (ak .i64)) (nI (eY (fD d c.1) l.2.2[i].2.2.2.2 l.2.2[i].2.2.2.2.length))), (48, .raw (.int .i64 ((nI (eY (fD d c.1) l.2.2[i].2.2.2.2 l.2.2[i].2.2.2.2.length)).length))), (49, .raw (.int .i64 ((k : Nat)))), (17, .tv (ab (ak .i64)) []), (64, .tv (ab (ak .i64)) []), (65, .raw (.int .i64 (0))), (66, .raw (.int .i64 (0)))], [(4, ⟨cz, [l]⟩), (6, ⟨ej, [c]⟩), (9, ⟨bv, [(0, 0, 0, 0)]⟩), (11, ⟨bx, [l.2.2[i]]⟩)]⟩) (fun z => True) (fun z => 0) 0 (trivial) (fun a w hi => (zI hi)) ?_
    rintro z -
    refine zR (zt rfl rfl (zZ (ae ?_)))
    refine af rfl (fun h11 => ?_) (fun h11 => ?_)
    · exfalso; simp at h11
    skip
    refine bg (be (aY (bf (aa (ae (ac (zM rfl (zN bd rfl (zM rfl (zZ (aq ?_)))))))))))
    refine aZ (ι := Nat) (fun z => ⟨[(1, .raw (.int .i64 (i : Nat))), (3, .raw (.int .i64 d)), (4, .optr 4 cz.n 0 0), (6, .optr 6 ej.n 0 0), (9, .optr 9 bv.n 0 0), (11, .optr 11 bx.n 0 0), (12, .eptr gg (ndT l l.2.2[i])), (47, .tv (ab (ak .i64)) (nI (eY (fD d c.1) l.2.2[i].2.2.2.2 l.2.2[i].2.2.2.2.length))), (48, .raw (.int .i64 ((nI (eY (fD d c.1) l.2.2[i].2.2.2.2 l.2.2[i].2.2.2.2.length)).length))), (49, .raw (.int .i64 ((k : Nat)))), (74, .tv (ab (ak .i64)) []), (75, .raw (.int .i64 (0))), (76, .raw (.int .i64 (0)))], [(4, ⟨cz, [l]⟩), (6, ⟨ej, [c]⟩), (9, ⟨bv, [(0, 0, 0, 0)]⟩), (11, ⟨bx, [l.2.2[i]]⟩)]⟩) (fun z => True) (fun z => 0) 0 (trivial) (fun a w hi => (zI hi)) ?_
    rintro z -
    refine zR (zt rfl rfl (zZ (ae ?_)))
    refine af rfl (fun h16 => ?_) (fun h16 => ?_)
    · exfalso; simp at h16
    skip
    refine bg (be (aY (bf (aG (aa (ac (zU rfl rfl zw (zM rfl (aN ?_)))))))))
    exact aD (fun a w hi => ⟨k + 1, zj, zo, zI hi⟩)
  skip
  refine bg (be (aY (bf (aa (ae (ac (zL e9 rfl rfl rfl (Lens.id _) (zM rfl (zL s3 rfl rfl rfl (Lens.id _) (zM rfl (zJ (an (ug l _ c l.2.2[i] (msc l l.2.2[i]) hLs hLm hcl) (.cons (.b rfl) (.cons (.b rfl) (.cons (.b rfl) (.cons (.b rfl) .nil)))) rfl rfl) (zM rfl (zJ (d7 (.b rfl)) (zJ (d6 (.b rfl)) (zJ (d5 (.b rfl)) (zl z70 (zl sV (zl z46 (zC BM rfl rfl rfl (Lens.id _) (.tv (.b rfl)) (zC hZ rfl rfl rfl (Lens.id _) (.tv (.b rfl)) (zC gc rfl rfl rfl (Lens.id _) (.tv (.b rfl)) (zQ [3,9,11,23,24] [9,11,23,24] (aa (ae (zR ?_)))))))))))))))))))))))))
  refine zF lY rfl (zL kp rfl rfl rfl kF (zJ (bQ (.b rfl) (.b rfl)) (zZ ?_)))
  refine af rfl (fun h22 => ?_) (fun h22 => ?_)
  · exfalso; simp at h22
  skip
  refine ah (aa (zR (zL dx rfl rfl rfl (Lens.id _) (zL hZ rfl rfl rfl (Lens.id _) (zM rfl (zJ (an (yB l.2.2[i] d c.1 (-1) c.2.1 _ _ _ _ (eH l l.2.2[i]) zo hgok zo) (.cons (.b rfl) (.cons (.b rfl) (.cons (.b rfl) (.cons (.b rfl) .nil)))) rfl rfl) (zM rfl (zJ (bj (.b rfl)) (zJ (bi (.b rfl)) (zA rfl (zC gc rfl rfl rfl (Lens.id _) (.tv (.b rfl)) (zZ (ae (zR (zF lY rfl (zL kp rfl rfl rfl kF (zJ (bQ (.b rfl) (.b rfl)) (zZ ?_))))))))))))))))))
  refine af rfl (fun h25 => ?_) (fun h25 => ?_)
  · exfalso; simp at h25
  skip
  refine ah (aa (zR (zM rfl (zJ (aI z46 rfl qJ .nil) (zA rfl (zC gc rfl rfl rfl (Lens.id _) (.tv (.b rfl)) (zZ (am ?_))))))))
  exact aK results10 (aw rfl) (ax gc rfl rfl rfl (Lens.id bv)) ⟨rfl, rfl⟩ (by unfold n5; rw [if_neg (by rw [h2]; decide), kQ hi0]; rfl)
end Go.Proofs.YtehcaebnijlhgaaGreatDoor
namespace Go.Eng
section
variable {P : Program} {cx : Cx} {st st' : St} {β : Loc} {a : Act} {w w' : World} {ops : Array Oper} {k : Kn} {c : Code}
variable {dst : Option Tmp} {ty : TypeId} {pos : String} {aft : Array Edge} {gd : Option (Nat × Bool)}
variable {α γ : Type} {rt : RT α} [NM rt] {r1 : RT γ} {d1 : Option Addr × Nat × Nat → γ}
theorem Ch (hi : InvB cx st β a w) {nm : Nat} {rt : RT α} [NM rt] {xs : List α} {v : Value} (hf : di nm st.slots = true) (hn : az st.heap nm = none) (hb : Below w.heap.size w w') (hv : lJ rt w w' (okR (Cx.of w (bM cx st.heap β w) 0) w') xs v) :
    ∃ β', InvB cx ⟨st.slots, (nm, ⟨rt, xs⟩) :: st.heap⟩ β' a w' ∧ hdr β' w' nm rt.n 0 xs.length v ∧ ∀ k, k ≠ nm → β' k = β k := by
  have hl := hi.later hb
  have key : ∀ (l : Option (Nat × Nat)), (∀ x, l = some x → w.heap.size ≤ x.1 ∧ x.1 < w'.heap.size) → (HB.mk rt xs).holds w' (bM cx ((nm, ⟨rt, xs⟩) :: st.heap) (fun k => if k = nm then l else β k) w') l →
      (∀ β', β' nm = l → hdr β' w' nm rt.n 0 xs.length v) → ∃ β', InvB cx ⟨st.slots, (nm, ⟨rt, xs⟩) :: st.heap⟩ β' a w' ∧ hdr β' w' nm rt.n 0 xs.length v ∧ ∀ k, k ≠ nm → β' k = β k := by
    intro l hl1 hl2 hl3
    have hok : ∀ b, bM cx st.heap β w b → bM cx ((nm, ⟨rt, xs⟩) :: st.heap) (fun k => if k = nm then l else β k) w' b ∧ w'.heap[b]? = w.heap[b]? := by
      rintro b ⟨h1, h2, h3⟩
      refine ⟨⟨h1, Nat.lt_of_lt_of_le h2 hb.size, fun k hb' hk x hx => ?_⟩, hb.block b h2⟩
      rw [aW] at hk
      by_cases e1 : k = nm
      · subst e1; simp at hx; have := (hl1 x hx).1; omega
      rw [if_neg (Ne.symm e1)] at hk
      simp only [if_neg e1] at hx
      exact h3 k hb' hk x hx
    have hbase : InvB cx ⟨st.slots, (nm, ⟨rt, xs⟩) :: st.heap⟩ (fun k => if k = nm then l else β k) a w' := by
      refine ⟨hl.below, hl.old, hl.defers, hl.size, fun k hb' hk x hx => ?_, fun k k' h1 h2 hk hk' x y hx hy hxy => ?_, fun k hb' hk => ?_, fun i s hs => ?_⟩
      · by_cases e1 : k = nm
        · subst e1; simp at hx; have := hl1 x hx; exact ⟨.inl (Nat.le_trans hi.below.size this.1), this.2⟩
        rw [aW, if_neg (Ne.symm e1)] at hk
        simp only [if_neg e1] at hx
        exact hl.own k hb' hk x hx
      · rw [aW] at hk hk'
        by_cases e1 : k = nm <;> by_cases e2 : k' = nm
        · rw [e1, e2]
        · subst e1
          rw [if_neg (Ne.symm e2)] at hk'
          simp only [if_pos] at hx
          simp only [if_neg e2] at hy
          have g1 := (hl1 x hx).1
          have g2 := (hi.own k' _ hk' y hy).2
          omega
        · subst e2
          rw [if_neg (Ne.symm e1)] at hk
          simp only [if_pos] at hy
          simp only [if_neg e1] at hx
          have g1 := (hl1 y hy).1
          have g2 := (hi.own k _ hk x hx).2
          omega
        rw [if_neg (Ne.symm e1)] at hk
        rw [if_neg (Ne.symm e2)] at hk'
        simp only [if_neg e1] at hx
        simp only [if_neg e2] at hy
        exact hi.sep k k' _ _ hk hk' x y hx hy hxy
      · rw [aW] at hk
        by_cases e1 : k = nm
        · subst e1
          rw [if_pos rfl] at hk
          injection hk with hk; subst hk
          simp only [if_pos]; exact hl2
        rw [if_neg (Ne.symm e1)] at hk
        simp only [if_neg e1]
        exact HB.keep hok (fun x hx => hb.block _ (hi.own k hb' hk x hx).2) (hi.rows k hb' hk)
      obtain ⟨u, h1, h2⟩ := hi.slots i s hs
      have hfree := ep hf hs
      refine ⟨u, h1, SV.keep hok (fun k hk => ?_) h2⟩
      have hne : k ≠ nm := by rintro rfl; rw [hfree] at hk; cases hk
      refine ⟨by simp [hne], fun b o hbo cur e' fr hcur => ⟨cur, e', fr, ?_, rfl⟩⟩
      rw [hb.block b (InvB.cell_lt hcur)]; exact hcur
    exact ⟨_, hbase, hl3 _ (by simp), fun k hk => by simp [hk]⟩
  rcases hv with ⟨rfl, rfl⟩ | ⟨A, b, o, cap, cur, e, rfl, hA, h1, h2, h3, h4, h5, h6⟩
  · exact key none (fun x h => by cases h) rfl (fun β' h => by simp [hdr, h])
  have hbs := InvB.cell_lt h4
  refine key (some (b, o)) (fun x h => by injection h with h; subst h; exact ⟨h3, hbs⟩) ⟨fun _ => ⟨cur, e, h4, ?_, fun i x hx => ?_⟩, fun hm => by rw [show rt.mp = false from NM.no] at hm; cases hm⟩ (fun β' h => ?_)
  · have := Nat.mul_le_mul_right rt.n h1
    simp only; omega
  · obtain ⟨cs, g1, g2⟩ := h6 i x hx
    refine ⟨cs, rt.keep (fun b' hb' => ⟨⟨?_, hb'.1.2, fun k hb2 hk y hy e1 => ?_⟩, rfl⟩) g1, g2⟩
    · rcases hb'.1.1 with h | h
      · exact h.1
      exact .inr (.inl (Nat.le_trans hi.below.size (Cx.new_of h)))
    rw [aW] at hk
    by_cases e2 : k = nm
    · subst e2; simp at hy; subst hy; exact hb'.2 e1.symm
    rw [if_neg (Ne.symm e2)] at hk
    simp only [if_neg e2] at hy
    rcases hb'.1.1 with h | h
    · exact h.2.2 k hb2 hk y hy e1
    have := (hi.own k hb2 hk y hy).2
    have h : w.heap.size ≤ b' := Cx.new_of h
    omega
  simp only [hdr, h]
  refine ⟨A, cap, rfl, h1, h2, ?_⟩
  rcases hA with ⟨hA, hc⟩ | hA
  · subst hA; exact .inl ⟨rfl, hc⟩
  exact .inr ⟨by rw [hA]; simp, cur, e, _, h4, by rw [Nat.zero_add]; exact h5⟩
def RetL (cx : Cx) (rt : RT α) (ys : List α) (r1 : RT γ) (d1 : Option Addr × Nat × Nat → γ) : Ending → World → Prop := fun e w' => ∃ v A cap b o, e = .returned v ∧ BelowX cx.ex cx.w0.heap.size cx.w0 w' ∧ A = some (⟨b, o, none⟩ : Addr) ∧
  lJ rt cx.w0 w' (okR cx w') ys (.slice A ys.length cap) ∧ (SV.tv r1 (d1 (A, ys.length, cap))).holds i6 w' (fun q => okR cx w' q ∧ q ≠ b) v
structure CtL (P : Program) (k : FuncId) (aS : List SV) (rt : RT α) (ys : List α) (r1 : RT γ) (d1 : Option Addr × Nat × Nat → γ) : Prop where
  ent : ∀ w args, (callFunc k args).run P w = .ok (.enter k args) w
  calls : ∀ w ok0 vs, (∀ b, ok0 b → b < w.heap.size) → eg w ok0 aS vs → Calls P k vs.toArray w (RetL (Cx.of w ok0 0) rt ys r1 d1)
omit [NM rt] in
theorem rA {kf : FuncId} {fn : Func} {c : Code} {aS : List SV} {ys : List α} (hf : P.funcs[kf]? = some fn) (hb : fn.body = some c) (hn : (fn.name == "runtime.NumGoroutine") = false) {m : Nat} (hm : fn.ntmps = m) (hlen : Nat.ble aS.length m = true)
    (hp : (aS.all SV.plain) = true) (h : ∀ (w0 : World) (ok0 : Ok), J P (Cx.of w0 ok0 m) ⟨jK 0 aS, []⟩ c (.fin fn (RetL (Cx.of w0 ok0 m) rt ys r1 d1))) : CtL P kf aS rt ys r1 d1 := by
  refine ⟨bJ hf hb hn, fun w ok0 vs hok hh => ?_⟩
  have hl := eL hh
  have hlen' : aS.length ≤ m := by simpa using hlen
  refine calls_of_wp hf hb ?_
  have := h w ok0 { tmps := vs.toArray ++ Array.replicate (fn.ntmps - vs.toArray.size) undef, defers := [] } w ⟨i6, ?_⟩
  · exact wp_mono this fun e a w hq => hq
  refine ⟨(Below.refl _ _).toX, hok, rfl, by simp [hm, hl]; omega, fun nm hb hh => by simp [az] at hh, fun nm nm' hb hb' hh => by simp [az] at hh, fun nm hb hh => by simp [az] at hh, fun i s hs => ?_⟩
  obtain ⟨j, rfl, hj⟩ := fa hs
  obtain ⟨v, h1, h2⟩ := eG hh hj
  have hjl : j < vs.length := (List.getElem?_eq_some_iff.1 h1).1
  refine ⟨v, by simp only [Nat.zero_add]; rw [Array.getElem?_append_left (by simpa using hjl)]; simpa using h1, ?_⟩
  have hps : s.plain = true := List.all_eq_true.1 hp s (List.mem_of_getElem? hj)
  exact SV.plain_keep hps (fun b hb => ⟨⟨.inl hb, hok b hb, fun nm x hx => by simp [az] at hx⟩, rfl⟩) h2
theorem wi {fn : Func} {v0 : ResultVar} {c0 nm n : Nat} {s0 : SV} {A : Option Addr} {cap : Nat} {ys : List α} (hr : fn.results = #[v0]) (g0 : Res P cx st v0 (.tv r1 (d1 (A, n, cap)))) (hs : a8 st.slots c0 = some (.lnk s0 (.slice A n cap) (.own nm rt.n 0 n))) (hn : az st.heap nm = some ⟨rt, ys⟩) (hl : n = ys.length) (h0 : 0 < n) (hex : ∀ b, ¬ cx.ex b := by intro _ h; exact h) :
    JR P cx st (.fin fn (RetL cx rt ys r1 d1)) := by
  rintro a w ⟨β, hi⟩
  obtain ⟨v, h1, h2⟩ := g0 β a w hi
  obtain ⟨_, _, _, h3⟩ := hi.slots c0 _ hs
  subst hl
  have ho := ws hi hn h3 (by omega) hex
  rw [List.drop_zero, List.take_length] at ho
  have hA : ∃ b o, β nm = some (b, o) ∧ ∃ o', A = some (⟨b, o', none⟩ : Addr) := by
    simp only [SV.holds, hdr] at h3
    cases hb : β nm with
    | none => rw [hb] at h3; simp only at h3; omega
    | some x =>
      obtain ⟨b, o⟩ := x
      rw [hb] at h3
      obtain ⟨A', cap', g1, g2, g3, g4⟩ := h3
      rcases g4 with g4 | ⟨g4, _⟩
      · omega
      injection g1 with g1 _ _
      rw [← g1] at g4
      exact ⟨b, o, rfl, _, g4⟩
  obtain ⟨b, o, hb, o', hA⟩ := hA
  refine ⟨hi.defers, v, by simp [eI, hr, h1], v, A, cap, b, o', rfl, hi.below, hA, ho, SV.plain_keep rfl (fun q hq => ⟨⟨mP hq, fun e => hq.2.2 nm _ hn _ hb e.symm⟩, rfl⟩) h2⟩
theorem xp {c0 j : Nat} {s t : SV} {u : Value} (hc : a8 st.slots c0 = some (.lnk s u t)) (hj : a8 st.slots j = some (.raw u)) (hi : Inv cx st a w) : Inv cx ⟨(j, t) :: st.slots, st.heap⟩ a w := by
  obtain ⟨β, hb⟩ := hi
  obtain ⟨_, _, _, ht⟩ := hb.slots c0 _ hc
  exact ⟨β, hb.turnS (s' := t) hj fun v hv => by have hv : v = u := hv; subst hv; exact ht⟩
theorem Ae (c0 j : Nat) {s t : SV} {u : Value} {l : List Oper} (hc : a8 st.slots c0 = some (.lnk s u t)) (hj : a8 st.slots j = some (.raw u)) (h : JG P cx ops ⟨(j, t) :: st.slots, st.heap⟩ l k) : JG P cx ops st l k := fun a w hi => h a w (xp hc hj hi)
theorem u7 (hi : InvB cx st β a w) {ys : List α} {v : Value} {d b o cap : Nat} (hdn : d < cx.n) (hf : di d st.slots = true) (hn : az st.heap d = none) (hb : Below w.heap.size w w') (h0 : 0 < ys.length) (hv : lJ rt w w' (okR (Cx.of w (bM cx st.heap β w) 0) w') ys (.slice (some ⟨b, o, none⟩) ys.length cap))
    (hu : (SV.tv r1 (d1 (some ⟨b, o, none⟩, ys.length, cap))).holds i6 w' (fun q => okR (Cx.of w (bM cx st.heap β w) 0) w' q ∧ q ≠ b) v) :
    Inv cx ⟨(d, .lnk (.tv r1 (d1 (some ⟨b, o, none⟩, ys.length, cap))) (.slice (some ⟨b, o, none⟩) ys.length cap) (.own d rt.n 0 ys.length)) :: st.slots, (d, ⟨rt, ys⟩) :: st.heap⟩ (a.put (some d) v) w' := by
  obtain ⟨β', h1, h2, h3⟩ := Ch hi hf hn hb hv
  refine ⟨β', h1.put hdn ⟨SV.plain_keep rfl (fun q hq => ⟨?_, rfl⟩) hu, h2⟩⟩
  refine ⟨?_, hq.1.2, fun k hb2 hk y hy e1 => ?_⟩
  · rcases hq.1.1 with h | h
    · exact h.1
    exact .inr (.inl (Nat.le_trans hi.below.size (Cx.new_of h)))
  rw [aW] at hk
  by_cases e2 : k = d
  · subst e2
    simp only [hdr, hy] at h2
    obtain ⟨A, c2, g1, _, _, g4⟩ := h2
    rcases g4 with g4 | ⟨g4, _⟩
    · omega
    injection g1 with g1 _ _
    rw [← g1] at g4
    injection g4 with g4; injection g4 with g5 _
    exact hq.2 (e1.symm.trans g5.symm)
  rw [if_neg (Ne.symm e2)] at hk
  rw [h3 k e2] at hy
  rcases hq.1.1 with h | h
  · exact h.2.2 k hb2 hk y hy e1
  have := (hi.own k hb2 hk y hy).2
  have h : w.heap.size ≤ q := Cx.new_of h
  omega
theorem rg {rest : List Oper} {kf : FuncId} {aS : List SV} {ys : List α} {xs : List Operand} {ts : Array TypeId} {d : Nat} (h : CtL P kf aS rt ys r1 d1) (h0 : 0 < ys.length) (ha : Args st xs aS) (hp : (aS.all SV.plain) = true) (hd : Nat.blt d cx.n = true) (hf : di d st.slots = true) (hn : az st.heap d = none)
    (hnext : ∀ A cap, JG P cx ops ⟨(d, .lnk (.tv r1 (d1 (A, ys.length, cap))) (.slice A ys.length cap) (.own d rt.n 0 ys.length)) :: st.slots, (d, ⟨rt, ys⟩) :: st.heap⟩ rest k) :
    JG P cx ops st (⟨some d, .call { callee := .value (.func kf), args := xs.toArray, argTypes := ts }, ty, pos, aft, none⟩ :: rest) k := by
  rintro a w ⟨β, hi⟩
  refine wpList_plain rfl fun K hK => ?_
  have hargs := ha.holds (cx := cx) (β := β) (a := a) (w := w) (st' := st) (fun x hx => rfl) hi hp
  have hrun : (execOp a.eval ⟨some d, .call { callee := .value (.func kf), args := xs.toArray, argTypes := ts }, ty, pos, aft, none⟩).run P w = .ok (.enter kf (xs.map a.eval).toArray) w := by
    simp [execOp, resolve, Act.eval, Deferred.ofValue, invoke, h.ent]
  unfold Oper.wp
  rw [hrun, Oper.upon_enter]
  refine (h.calls w (bM cx st.heap β w) _ (fun b hb => hb.2.1) hargs).mono ?_
  rintro e w' ⟨v, A, cap, b, o, rfl, hb, hA, hv, hu⟩
  subst hA
  have hb := hb.plain (fun _ h => h)
  exact hK _ _ (hnext _ _ _ _ (u7 hi (by simpa using hd) hf hn hb h0 hv hu))
end
end Go.Eng
namespace Go.Proofs.YtehcaebnijlhgaaGreatDoor
open Go.Eng Tryz
set_option maxRecDepth 100000
set_option maxHeartbeats 4000000
abbrev jY := (bO (ab cX) (bO (ab ch) rHd))
theorem k8 : Ty prog 26 jY := by obtain ⟨⟨de, hu, hd⟩, i0, hi0, hs⟩ := e9; exact ⟨⟨de, hu, hd⟩, i0, hi0, hs⟩
theorem o6 : TyZero prog 26 jY ([], ([], (none, 0, 0))) := dj zk ((aR (bm) ((aR (bm) (pB)))))
theorem p6 : Lens jY 2 rHd (fun d => d.2.2) (fun d x => (d.1, (d.2.1, x))) := (Lens.snd (Lens.snd (Lens.id rHd) rfl) rfl)
theorem tyH24 : Ty prog 24 rHd := by obtain ⟨⟨de, hu, hd⟩, i0, hi0, hs⟩ := gB; exact ⟨⟨de, hu, hd⟩, i0, hi0, hs⟩
def s7 (e : List aP) : bB := ([98, 97, 115, 101], 0, -1, 0, (0, 109573), [], e, [])
def s6 (e : List aP) : ba := ([104, 111, 117, 115, 101], -1, [([97], 3, 0)], [([100], 3, 0)], [s7 e])
def C2 (e : List aP) : cA := ([], [], [s6 e])
theorem BN (e : List aP) : Ct prog 65 [.tv (ab bX) e] (.tv cz (C2 e)) := by
  refine ay func65 rfl rfl ntmps65 rfl rfl ?_
  intro w0 ok0
  refine zR (zl z26 (zZ (zR (zJ (aI z63 rfl yS (.cons (rt' := (ak .i64)) rfl fQ (.raw (.b rfl) rfl) (.cons (rt' := (ak .i64)) rfl fP (.raw (.b rfl) rfl) .nil))) (zl z63 (zC ji rfl rfl rfl (Lens.id _) (.tv (.b rfl)) (zZ (zR (zJ (aI z90 rfl d4 (.cons (rt' := (ak .i64)) rfl bN (.raw (.b rfl) rfl) .nil)) (zl z90 (zC aE rfl rfl rfl (Lens.id _) (.tv (.b rfl)) (zZ (zR (zL ji rfl rfl rfl (Lens.id _) (zM rfl (zJ (aI pC rfl C5 (.cons (rt' := dG) rfl lT (.raw (.b rfl) rfl) (.cons (rt' := (ak .i64)) rfl iI (.raw (.b rfl) rfl) (.cons (rt' := co) rfl jw (.tv (.b rfl)) (.cons (rt' := (ab bX)) rfl lS (.tv (.b rfl)) .nil))))) (zl pC (zC dp rfl rfl rfl (Lens.id _) (.tv (.b rfl)) (zZ (zR (zL aE rfl rfl rfl (Lens.id _) (zJ (aI z92 rfl BY (.cons (rt' := dG) rfl kD (.raw (.b rfl) rfl) (.cons (rt' := aX) rfl fN (.tv (.b rfl)) .nil))) (zJ (bq (rt := cq) ei e8 z92 rfl (.cons (.tv (.b rfl)) .nil) rfl rfl) (zL aE rfl rfl rfl (Lens.id _) (zJ (aI z92 rfl BY (.cons (rt' := dG) rfl kD (.raw (.b rfl) rfl) (.cons (rt' := aX) rfl fN (.tv (.b rfl)) .nil))) (zJ (bq (rt := cq) ei e8 z92 rfl (.cons (.tv (.b rfl)) .nil) rfl rfl) (zL dp rfl rfl rfl (Lens.id _) (zJ (bq (rt := cZ) ga dp pC rfl (.cons (.tv (.b rfl)) .nil) rfl rfl) (zJ (aI z81 rfl pl81 (.cons (rt' := dG) rfl lp (.raw (.b rfl) rfl) (.cons (rt' := (ak .i64)) rfl gM (.raw (.b rfl) rfl) (.cons (rt' := (ab cq)) rfl fO (.tv (.b rfl)) (.cons (rt' := (ab cq)) rfl d8 (.tv (.b rfl)) (.cons (rt' := (ab cZ)) rfl dT (.tv (.b rfl)) .nil)))))) (zJ (bq (rt := bx) fx dx z81 rfl (.cons (.tv (.b rfl)) .nil) rfl rfl) ?_))))))))))))))))))))))))))))))
  refine zJ (aI z26 rfl pl26 (.cons (rt' := (ab bx)) rfl du (.tv (.b rfl)) .nil)) (zC e9 rfl rfl rfl (Lens.id _) (.tv (.b rfl)) (zZ (am ?_)))
  exact cv results65 (ax e9 rfl rfl rfl (Lens.id cz)) rfl rfl
theorem yp (e : List aP) : CtL prog 65 [.tv (ab bX) e] bx [s6 e] jY (fun u : Option Addr × Nat × Nat => ((([] : List bV), ([] : List cy), u) : List bV × List cy × Option Addr × Nat × Nat)) := by
  refine rA func65 rfl rfl ntmps65 rfl rfl ?_
  intro w0 ok0
  refine zR (zl o6 (zZ (zR (zJ (aI z63 rfl yS (.cons (rt' := (ak .i64)) rfl fQ (.raw (.b rfl) rfl) (.cons (rt' := (ak .i64)) rfl fP (.raw (.b rfl) rfl) .nil))) (zl z63 (zC ji rfl rfl rfl (Lens.id _) (.tv (.b rfl)) (zZ (zR (zJ (aI z90 rfl d4 (.cons (rt' := (ak .i64)) rfl bN (.raw (.b rfl) rfl) .nil)) (zl z90 (zC aE rfl rfl rfl (Lens.id _) (.tv (.b rfl)) (zZ (zR (zL ji rfl rfl rfl (Lens.id _) (zM rfl (zJ (aI pC rfl C5 (.cons (rt' := dG) rfl lT (.raw (.b rfl) rfl) (.cons (rt' := (ak .i64)) rfl iI (.raw (.b rfl) rfl) (.cons (rt' := co) rfl jw (.tv (.b rfl)) (.cons (rt' := (ab bX)) rfl lS (.tv (.b rfl)) .nil))))) (zl pC (zC dp rfl rfl rfl (Lens.id _) (.tv (.b rfl)) (zZ (zR (zL aE rfl rfl rfl (Lens.id _) (zJ (aI z92 rfl BY (.cons (rt' := dG) rfl kD (.raw (.b rfl) rfl) (.cons (rt' := aX) rfl fN (.tv (.b rfl)) .nil))) (zJ (bq (rt := cq) ei e8 z92 rfl (.cons (.tv (.b rfl)) .nil) rfl rfl) (zL aE rfl rfl rfl (Lens.id _) (zJ (aI z92 rfl BY (.cons (rt' := dG) rfl kD (.raw (.b rfl) rfl) (.cons (rt' := aX) rfl fN (.tv (.b rfl)) .nil))) (zJ (bq (rt := cq) ei e8 z92 rfl (.cons (.tv (.b rfl)) .nil) rfl rfl) (zL dp rfl rfl rfl (Lens.id _) (zJ (bq (rt := cZ) ga dp pC rfl (.cons (.tv (.b rfl)) .nil) rfl rfl) (zJ (aI z81 rfl pl81 (.cons (rt' := dG) rfl lp (.raw (.b rfl) rfl) (.cons (rt' := (ak .i64)) rfl gM (.raw (.b rfl) rfl) (.cons (rt' := (ab cq)) rfl fO (.tv (.b rfl)) (.cons (rt' := (ab cq)) rfl d8 (.tv (.b rfl)) (.cons (rt' := (ab cZ)) rfl dT (.tv (.b rfl)) .nil)))))) (zO (gI (rt := bx) (ds := [s6 e]) fx dx z81 rfl (.cons (.tv (.b rfl)) .nil) rfl rfl rfl rfl rfl) ?_))))))))))))))))))))))))))))))
  refine ij 0 20 rfl rfl (fun A2 cap2 => ?_)
  refine zJ (aI o6 rfl pl26 (.cons (rt' := rHd) rfl p6 (.raw (d := (A2, 1, cap2)) (.b rfl) rfl) .nil)) (zO (bK (rt := jY) k8 (.b rfl) rfl rfl (Lens.id _) (.tv (.b rfl))) (zZ (am ?_)))
  exact wi (c0 := 0) (nm := 20) results65 (ax (rt := jY) k8 rfl rfl rfl (Lens.id jY)) rfl rfl rfl (Nat.succ_pos _)
theorem Aw  : Ct prog 21 [] (.tv cz (C2 [(7, 0)])) := by
  refine ay func21 rfl rfl ntmps21 rfl rfl ?_
  intro w0 ok0
  refine zR (zl z26 (zZ (zR (zJ (aI kT rfl tx (.cons (rt' := (ak .i64)) rfl cb (.raw (.b rfl) rfl) .nil)) (zJ (bq (rt := bX) fB cl kT rfl (.cons (.tv (.b rfl)) .nil) rfl rfl) (zJ (an (BN _) (.cons (.b rfl) .nil) rfl rfl) (zC e9 rfl rfl rfl (Lens.id _) (.tv (.b rfl)) (zZ (am ?_)))))))))
  exact cv results21 (ax e9 rfl rfl rfl (Lens.id cz)) rfl rfl
theorem xr  : CtL prog 21 [] bx [s6 [(7, 0)]] jY (fun u : Option Addr × Nat × Nat => ((([] : List bV), ([] : List cy), u) : List bV × List cy × Option Addr × Nat × Nat)) := by
  refine rA func21 rfl rfl ntmps21 rfl rfl ?_
  intro w0 ok0
  refine zR (zl o6 (zZ (zR (zJ (aI kT rfl tx (.cons (rt' := (ak .i64)) rfl cb (.raw (.b rfl) rfl) .nil)) (zJ (bq (rt := bX) fB cl kT rfl (.cons (.tv (.b rfl)) .nil) rfl rfl) ?_)))))
  refine rg (yp [(7, 0)]) (by decide) (.cons (.b rfl) .nil) rfl rfl rfl rfl (fun A cap => ?_)
  refine zO (bK (rt := jY) k8 (.b rfl) rfl rfl (Lens.id _) (.tv (.l1 rfl))) (zZ (am ?_))
  exact wi (c0 := 3) (nm := 3) results21 (ax (rt := jY) k8 rfl rfl rfl (Lens.id jY)) rfl rfl rfl (Nat.succ_pos _)
open Go.Eng
open C15 C23
def fT (rs : List bB) : ba := ([104, 111, 117, 115, 101], -1, [([97], 3, 0)], [([100], 3, 0)], rs)
def gD (rs : List bB) : cA := ([], [], [fT rs])
def R1 : List bB := [s7 [(7, 0)]]
theorem yE (x : Int) : C16.rw [[]] x = [] := by
  unfold C16.rw
  cases x.toNat with
  | zero => rfl
  | succ n => cases n <;> rfl
theorem no_rp (x e : Int) : ¬ C16.Rp [[]] x e := fun h => by
  cases h with
  | one h => rw [yE] at h; cases h
  | step _ h => rw [yE] at h; cases h
theorem ym {s : ba} (h0 : C16.scN s = 1) (h : C16.mb s 0 = []) : C16.uC s = fun _ => [] := by
  have hd : C16.iu s = [[]] := by unfold C16.iu; rw [h0]; show [C16.mb s ((0 : Nat) : Int)] = _; rw [show ((0 : Nat) : Int) = 0 from rfl, h]
  funext d
  unfold C16.uC
  split
  · unfold C16.pU
    rw [hd, List.filter_eq_nil_iff.2 (fun k _ => by simpa using no_rp d _)]; rfl
  rfl
theorem dir1 : C16.mb (fT R1) 0 = [] := by unfold C16.mb C16.dQ C16.rdf; simp only [vy]; decide +kernel
theorem dir2 : C16.mb (fT []) 0 = [] := by unfold C16.mb C16.dQ C16.rdf; simp only [vy]; decide +kernel
theorem chk1 : fR (gD R1) 0 (fT R1) = (0, 0) := by unfold fR; rw [ym rfl dir1]; decide +kernel
theorem chk2 : fR (gD []) 0 (fT []) = (0, 0) := by unfold fR; rw [ym rfl dir2]; decide +kernel
theorem val1 : jV (gD R1) = (0, 0, 0, 0) := by
  unfold jV
  rw [if_neg (by decide +kernel), if_neg (by decide +kernel)]
  unfold nS
  rw [if_neg (by decide +kernel), gQ (fun j hj => ?_)]
  have hj : j < 1 := hj
  obtain rfl : j = 0 := by omega
  show ((fR (gD R1) 0 (fT R1)).1 != 0) = false
  rw [chk1]; rfl
theorem val2 : jV (gD []) = (0, 0, 0, 0) := by
  unfold jV
  rw [if_neg (by decide +kernel), if_neg (by decide +kernel)]
  unfold nS
  rw [if_neg (by decide +kernel), gQ (fun j hj => ?_)]
  have hj : j < 1 := hj
  obtain rfl : j = 0 := by omega
  show ((fR (gD []) 0 (fT [])).1 != 0) = false
  rw [chk2]; rfl
theorem grid1 : dh (gD R1) 0 0 0 = ([[0]], 0) := by unfold dh; rw [val1]; decide +kernel
theorem grid2 : dh (gD []) 0 0 0 = ([[0]], 0) := by unfold dh; rw [val2]; decide +kernel
def hlO (rs : List bB) : List cm := HL rs (eY (fD 0 0) rs rs.length) (kX (fD 0 0) rs rs.length) (uI (fD 0 0) rs rs.length) [([97], 3, 0)] (aC (gD rs) (fT rs) 0 0) (pr (aC (gD rs) (fT rs) 0 0) (aC (gD rs) (fT rs) 0 0).length).toNat
theorem hl1 : hlO R1 = [] := by decide +kernel
theorem hl2 : hlO [] = [(-1, -1, -1, [(3, 0, 0)])] := by kernel_rfl
end Go.Proofs.YtehcaebnijlhgaaGreatDoor
namespace Go.Proofs.YtehcaebnijlhgaaGreatDoor
open Go.Eng
set_option maxRecDepth 100000
set_option maxHeartbeats 1000000
open C15 C23
theorem tf {l : cA} {s : ba} {d date : Int} {x : List bh} (hen : l.1.length ≤ 8 ∧ ∀ q ∈ l.1, 1 ≤ q.2.length ∧ q.2.length ≤ 16) (hv : ∀ f ∈ s.2.2.1, au f.2 l.1 = true) (hf : ∀ e ∈ dP s d date, dO e (eH l s) = true) (hx : kM l.1 s.2.2.1 x) :
    ∃ t : Nat, (t : Int) < pr (aC l s d date) (aC l s d date).length ∧ jL s d date x = jL s d date (eM s.2.2.1 (aC l s d date) t) := by
  have hm : ∀ e ∈ l.1, 1 ≤ e.2.length := fun e h => (hen.2 e h).1
  obtain ⟨a, ha, hn⟩ := CN (gs := dP s d date) hm hv hx
  have hp := nz (l := l) (s := s) (d := d) (date := date) hm hv
  obtain ⟨t, ht, rfl⟩ := sq_all hp ha
  refine ⟨t, ht, ?_⟩
  have hy : kM l.1 s.2.2.1 (eM s.2.2.1 (aC l s d date) t) := lL hm hv ha
  unfold jL
  rw [Bt hen hv hx hy hf hn]
section
variable {l : cA} {s : ba} {d date : Int}
def dU (l : cA) (s : ba) (d date : Int) : List cm := HL s.2.2.2.2 (eY (fD d date) s.2.2.2.2 s.2.2.2.2.length) (kX (fD d date) s.2.2.2.2 s.2.2.2.2.length) (uI (fD d date) s.2.2.2.2 s.2.2.2.2.length) s.2.2.1 (aC l s d date) (pr (aC l s d date) (aC l s d date).length).toNat
def selL (l : cA) (s : ba) (d date : Int) : List Bool := SL s.2.2.2.2 (eY (fD d date) s.2.2.2.2 s.2.2.2.2.length) (kX (fD d date) s.2.2.2.2 s.2.2.2.2.length) (uI (fD d date) s.2.2.2.2 s.2.2.2.2.length) s.2.2.1 (aC l s d date) (pr (aC l s d date) (aC l s d date).length).toNat
def qv (l : cA) (s : ba) (d date : Int) : List Int := jF (eY (fD d date) s.2.2.2.2 s.2.2.2.2.length) (selL l s d date) (eY (fD d date) s.2.2.2.2 s.2.2.2.2.length).length
theorem xt (hm : ∀ e ∈ l.1, 1 ≤ e.2.length) (hv : ∀ f ∈ s.2.2.1, au f.2 l.1 = true) {h : cm} (hh : h ∈ dU l s d date) : kM l.1 s.2.2.1 h.2.2.2 ∧ h.1 < 0 ∧ jm s d date h.2.2.2 = h.1 := by
  obtain ⟨u, hu, h1, h2, h3⟩ := sT hh
  have hp := nz (l := l) (s := s) (d := d) (date := date) hm hv
  have hq := rQ hp (Nat.le_refl _)
  have hu' : (u : Int) < pr (aC l s d date) (aC l s d date).length := by omega
  have ho : jL s d date h.2.2.2 = h.1 := by rw [h3, h1]; rfl
  refine ⟨?_, h2, ?_⟩
  · rw [h3]; exact lL hm hv (oK hp u hu').1
  unfold jm; rw [if_pos zo, ho]
theorem xu (hen : l.1.length ≤ 8 ∧ ∀ q ∈ l.1, 1 ≤ q.2.length ∧ q.2.length ≤ 16) (hv : ∀ f ∈ s.2.2.1, au f.2 l.1 = true) (hf : ∀ e ∈ dP s d date, dO e (eH l s) = true) {x : List bh} (hx : kM l.1 s.2.2.1 x) (hs : jm s d date x < 0) : ∃ h ∈ dU l s d date, h.1 = jm s d date x := by
  obtain ⟨t, ht, he⟩ := tf (d := d) (date := date) hen hv hf hx
  have hn := yA hs
  obtain ⟨h, h1, h2⟩ := HL_has (rs := s.2.2.2.2) (ix := eY (fD d date) s.2.2.2.2 s.2.2.2.2.length) (par := kX (fD d date) s.2.2.2.2 s.2.2.2.2.length) (pri := uI (fD d date) s.2.2.2.2 s.2.2.2.2.length) (fs := s.2.2.1) (G := aC l s d date) (t := (pr (aC l s d date) (aC l s d date).length).toNat) (u := t) zo (by
    have e : eW s.2.2.2.2 (eY (fD d date) s.2.2.2.2 s.2.2.2.2.length) (kX (fD d date) s.2.2.2.2 s.2.2.2.2.length) (uI (fD d date) s.2.2.2.2 s.2.2.2.2.length) s.2.2.1 (aC l s d date) t = jL s d date x := he.symm
    rw [e]; omega)
  refine ⟨h, h1, ?_⟩
  rw [h2]
  exact he.symm.trans hn
theorem A6 (hen : l.1.length ≤ 8 ∧ ∀ q ∈ l.1, 1 ≤ q.2.length ∧ q.2.length ≤ 16) (hv : ∀ f ∈ s.2.2.1, au f.2 l.1 = true) (hf : ∀ e ∈ dP s d date, dO e (eH l s) = true) {x : List bh} (hx : kM l.1 s.2.2.1 x) {r : Int} (hr : r ∈ qv l s d date) : r ≠ jm s d date x := by
  obtain ⟨j, hj, h1, rfl⟩ := xS hr
  obtain ⟨t, ht, he⟩ := tf (d := d) (date := date) hen hv hf hx
  intro e
  by_cases q : jL s d date x < 0
  · have : jm s d date x < 0 := by unfold jm; rw [if_pos q]; exact q
    rw [← e, jc (by rw [cr]; exact hj), oN hj] at this
    omega
  have h2 := pc (s := s) (d := d) (date := date) (x := x) zo
  obtain ⟨k, hk⟩ : ∃ k : Nat, jL s d date x = k := ⟨_, (Int.toNat_of_nonneg zo).symm⟩
  unfold jm at e
  rw [if_neg q, hk] at e
  have := Az hj zo e
  subst this
  have := SL_t h1 t zo
  apply this
  rw [← hk, he]; rfl
end
end Go.Proofs.YtehcaebnijlhgaaGreatDoor
namespace Go.Eng
section
variable {P : Program} {cx : Cx} {st : St} {ops : Array Oper} {k : Kn}
variable {ty1 ty2 : TypeId} {pos1 pos2 : String} {af1 af2 : Array Edge} {ts : Array TypeId}
variable {α γ : Type}
theorem vc {nm c0 : Nat} {rt : RT α} [NM rt] {x : α} {s : SV} {u : Value} {hp : List (Nat × HB)} {a : Act} {w : World} (hs : a8 st.slots c0 = some (.lnk s u (.optr nm rt.n 0 0))) (hn : az st.heap nm = some ⟨rt, [x]⟩) (hsub : ∀ j s, az hp j = some s → az st.heap j = some s) (hno : az hp nm = none) (hi : Inv cx st a w) :
    Inv cx ⟨(c0, .lnk s u (.eptr rt x)) :: st.slots, hp⟩ a w := by
  obtain ⟨β, hb⟩ := hi
  have hok : ∀ b, bM cx st.heap β w b → bM cx hp β w b := fun b ⟨h1, h2, h3⟩ => ⟨h1, h2, fun k h hk => h3 k h (hsub _ _ hk)⟩
  have hb' : InvB cx ⟨st.slots, hp⟩ β a w := hb.toHeap hsub
  obtain ⟨v', h1', h2', h3'⟩ := hb'.slots c0 _ hs
  refine ⟨β, hb'.below, hb'.old, hb'.defers, hb'.size, hb'.own, hb'.sep, hb'.rows, fun j s hj => ?_⟩
  simp only [aT] at hj
  split at hj
  · rename_i e1
    subst e1
    injection hj with hj; subst hj
    refine ⟨v', h1', h2', ?_⟩
    obtain ⟨b, o, hβ, hv⟩ := h3'
    obtain ⟨cur, e, h4, h5, h6⟩ := gX hb hn hβ
    obtain ⟨cs, h7, h8⟩ := h6 0 x rfl
    have hown := hb.own nm _ hn _ hβ
    refine ⟨b, o, cs, by simpa using hv, ⟨.inr hown.1, hown.2, fun k h hk y hy e1 => ?_⟩, rt.keep (fun b h => ⟨hok b h, rfl⟩) h7, fun j u hj => ?_⟩
    · have : k = nm := hb.sep k nm _ _ (hsub _ _ hk) hn y (b, o) hy hβ e1
      subst this
      rw [hno] at hk; cases hk
    have := h8 j u hj
    simp only [Nat.zero_mul, Nat.add_zero] at this
    simp [World.cell?, h4, this]
  exact hb'.slots j s hj
theorem r8 {rest : List Oper} {g kf : FuncId} {A : RT α} [NM A] {C : RT γ} [NM C] {f : α → Bool} {c : γ} {ys : List α} {v : Value} (s21 s96 d1 d2 nb nm : Nat) {n : Nat}
    (hent : ∀ w args, (callFunc g args).run P w = .ok (.enter g args) w) (hg : ∀ x, Ct P g [SV.of A x, .eptr C c] (SV.of bP (f x)))
    (hk : Ct P kf [.tv (ab A) ys, .tv (gC P A bP (fun _ => True)) f] (.raw v))
    (h21 : a8 st.slots s21 = some (.optr nb C.n 0 0)) (hb : az st.heap nb = some ⟨C, [c]⟩) (h96 : a8 st.slots s96 = some (.own nm A.n 0 n)) (hm : az st.heap nm = some ⟨A, ys⟩) (hn : n = ys.length)
    (e1 : Nat.beq d1 s21 = false) (e2 : Nat.beq d1 s96 = false) (e4 : Nat.beq nm nb = false) (hd1 : a8 st.slots d1 = none) (hdn1 : Nat.blt d1 cx.n = true) (hdn2 : Nat.blt d2 cx.n = true)
    (hr : JG P cx ops (st.put d2 (.raw v)) rest k) :
    JG P cx ops st (⟨some d1, .makeFunc (.func g) #[] #[.tmp s21], ty1, pos1, af1, none⟩ :: ⟨some d2, .call { callee := .value (.func kf), args := #[.tmp s96, .tmp d1], argTypes := ts }, ty2, pos2, af2, none⟩ :: rest) k := by
  have e1 : d1 ≠ s21 := fun h => by subst h; simp at e1
  have e2 : d1 ≠ s96 := fun h => by subst h; simp at e2
  have e4 : nm ≠ nb := fun h => by subst h; simp at e4
  subst hn
  intro a w hi
  refine wpList_plain rfl fun K hK => ?_
  obtain ⟨β, hi⟩ := hi
  obtain ⟨p, hp1, hp2⟩ := hi.slots s21 _ h21
  have hpe : a.eval (.tmp s21) = p := by simp [Act.eval, hp1]
  have hrun : (execOp a.eval ⟨some d1, .makeFunc (.func g) #[] #[.tmp s21], ty1, pos1, af1, none⟩).run P w = .ok (.value (.func (.func g) #[] #[p])) w := by
    simp [execOp, Instr.makeFunc, hpe]
  unfold Oper.wp
  rw [hrun]
  have hcv : Inv cx ⟨(d1, .lnk (.raw (.func (.func g) #[] #[p])) p (.optr nb C.n 0 0)) :: st.slots, st.heap⟩ (a.put (some d1) (.func (.func g) #[] #[p])) w := ⟨β, hi.put (s := .lnk (.raw (.func (.func g) #[] #[p])) p (.optr nb C.n 0 0)) (by simpa using hdn1) ⟨rfl, hp2⟩⟩
  refine hK _ _ ?_
  refine eN (st1 := St.put ⟨(d1, .lnk (.raw (.func (.func g) #[] #[p])) p (.optr nb C.n 0 0)) :: st.slots, st.heap⟩ d2 (.raw v)) rfl ?_ ?_ _ _ hcv
  · refine yY (xs := [.tmp s96, .tmp d1]) hk ⟨(d1, .tv (gC P A bP (fun _ => True)) f) :: (s96, .tv (ab A) ys) :: (d1, .lnk (.raw (.func (.func g) #[] #[p])) p (.eptr C c)) :: (d1, .lnk (.raw (.func (.func g) #[] #[p])) p (.optr nb C.n 0 0)) :: st.slots, b8 nm (b8 nb st.heap)⟩ (fun a2 w2 hi2 => ?_) ?_ rfl hdn2
    · have l1 : a8 ((d1, SV.lnk (.raw (.func (.func g) #[] #[p])) p (.optr nb C.n 0 0)) :: st.slots) d1 = some (.lnk (.raw (.func (.func g) #[] #[p])) p (.optr nb C.n 0 0)) := by rw [aT, if_pos rfl]
      have i1 := vc (st := ⟨(d1, SV.lnk (.raw (.func (.func g) #[] #[p])) p (.optr nb C.n 0 0)) :: st.slots, st.heap⟩) (hp := b8 nb st.heap) l1 hb (bl nb _) (bC nb _) hi2
      have l2 : a8 ((d1, SV.lnk (.raw (.func (.func g) #[] #[p])) p (.eptr C c)) :: (d1, SV.lnk (.raw (.func (.func g) #[] #[p])) p (.optr nb C.n 0 0)) :: st.slots) s96 = some (.own nm A.n 0 ys.length) := by
        rw [aT, if_neg e2, aT, if_neg e2]; exact h96
      have l3 : az (b8 nb st.heap) nm = some ⟨A, ys⟩ := by rw [gS, if_neg e4]; exact hm
      have i2 := j4 (st := ⟨(d1, SV.lnk (.raw (.func (.func g) #[] #[p])) p (.eptr C c)) :: (d1, SV.lnk (.raw (.func (.func g) #[] #[p])) p (.optr nb C.n 0 0)) :: st.slots, b8 nb st.heap⟩) (hp := b8 nm (b8 nb st.heap)) l2 l3 (by omega) (bl nm _) (bC nm _) i1
      rw [List.drop_zero, List.take_length] at i2
      obtain ⟨β3, b3⟩ := i2
      have l4 : a8 ((s96, SV.tv (ab A) ys) :: (d1, SV.lnk (.raw (.func (.func g) #[] #[p])) p (.eptr C c)) :: (d1, SV.lnk (.raw (.func (.func g) #[] #[p])) p (.optr nb C.n 0 0)) :: st.slots) d1 = some (.lnk (.raw (.func (.func g) #[] #[p])) p (.eptr C c)) := by
        rw [aT, if_neg (Ne.symm e2), aT, if_pos rfl]
      refine ⟨β3, b3.turnS (s' := .tv (gC P A bP (fun _ => True)) f) l4 fun u hu => ?_⟩
      obtain ⟨h1, h2⟩ := hu
      have h1 : u = .func (.func g) #[] #[p] := h1
      subst h1
      refine ⟨_, ⟨g, #[p], rfl, hent, fun w' ok' hkk hok x y _ hy => ?_⟩, rfl⟩
      have hh : eg w' ok' [SV.of A x, .eptr C c] [y, p] := ⟨_, _, rfl, lm hy, jP (aS := [SV.eptr C c]) (vs := [p]) rfl hkk ⟨_, _, rfl, h2, rfl⟩⟩
      have := (hg x).calls w' ok' [y, p] hok hh
      simpa using this
    refine .cons (.base ?_) (.cons (.base ?_) .nil)
    · show a8 _ s96 = _
      rw [aT, if_neg e2, aT, if_pos rfl]
    show a8 _ d1 = _
    rw [aT, if_pos rfl]
  intro a2 w2 hi2
  refine hr a2 w2 (Sub.inv (st := St.put ⟨(d1, .lnk (.raw (.func (.func g) #[] #[p])) p (.optr nb C.n 0 0)) :: st.slots, st.heap⟩ d2 (.raw v)) ⟨fun i s hs => ?_, fun i s hs => hs⟩ hi2)
  have hs : a8 ((d2, .raw v) :: st.slots) i = some s := hs
  show a8 ((d2, .raw v) :: (d1, .lnk (.raw (.func (.func g) #[] #[p])) p (.optr nb C.n 0 0)) :: st.slots) i = some s
  rw [aT] at hs ⊢
  split at hs
  · rename_i q; rw [if_pos q]; exact hs
  rename_i q
  rw [if_neg q, aT, if_neg]
  · exact hs
  rintro rfl; rw [hd1] at hs; cases hs
end
end Go.Eng
namespace Go.Eng
section
variable {P : Program} {cx : Cx} {st st' : St} {β : Loc} {a : Act} {w w' : World} {ops : Array Oper} {k : Kn}
variable {ty : TypeId} {pos : String} {aft : Array Edge}
variable {α : Type} {rt : RT α} [NM rt]
theorem wk (j : Nat) {n nm sz : Nat} {l : List Oper} (hj : a8 st.slots j = some (.own nm sz 0 n))
    (h : ∀ A cap, JG P cx ops ⟨(j, .both (.own nm sz 0 n) (.slice A n cap)) :: st.slots, st.heap⟩ l k) : JG P cx ops st l k := fun a w ⟨β, hb⟩ => by
  obtain ⟨v, h1, h2⟩ := hb.slots j _ hj
  obtain ⟨A, cap, rfl⟩ := j6 h2
  refine h A cap a w ⟨β, hb.below, hb.old, hb.defers, hb.size, hb.own, hb.sep, hb.rows, fun q t hq => ?_⟩
  rw [aT] at hq
  split at hq
  · rename_i e; subst e; injection hq with hq; subst hq
    exact ⟨_, h1, h2, rfl⟩
  exact hb.slots q t hq
theorem gO {rest : List Oper} {kf : FuncId} {nm n d : Nat} {xs : List α} {Q : List α → Prop} {ss : List SV} {rv : Value} {A : Option Addr} {cap : Nat} {x : Operand} {xo : List Operand} {ts : Array TypeId} (R ks : List Nat) {r : List (Nat × SV)} (h : 0 < n → CtT P kf rt xs Q ss (.raw rv)) (h0 : n = 0 → Ct P kf (.tv (ab rt) [] :: ss) (.raw rv) ∧ Q xs)
    (hx : Ev st x (.both (.own nm rt.n 0 n) (.slice A n cap))) (hn : az st.heap nm = some ⟨rt, xs⟩) (hfull : n = xs.length) (ha : Args st xo ss) (hp : (ss.all SV.plain) = true) (hd : Nat.blt d cx.n = true)
    (hR : (R.all fun k => !Nat.beq k nm && (az st.heap k).isSome) = true) (hk : KeepT R st.slots nm rt.n n (.slice A n cap) ks r)
    (hnext : ∀ ys, Q ys → JG P cx ops ⟨(d, .raw rv) :: r, (nm, ⟨rt, ys⟩) :: st.heap⟩ rest k) :
    JG P cx ops st (⟨some d, .call { callee := .value (.func kf), args := (x :: xo).toArray, argTypes := ts }, ty, pos, aft, none⟩ :: rest) k := by
  intro a w hi
  rcases Nat.eq_zero_or_pos n with hz | hpos
  · obtain ⟨hc, hQ⟩ := h0 hz
    subst hz
    obtain ⟨β, hb⟩ := hi
    have hb2 : InvB cx ⟨st.slots, b8 nm st.heap⟩ β a w := hb.toHeap (bl nm _)
    obtain ⟨e1, e2⟩ := hb.ev hx
    have hok : ∀ b, bM cx st.heap β w b → bM cx (b8 nm st.heap) β w b := fun b ⟨q1, q2, q3⟩ => ⟨q1, q2, fun k h hk => q3 k h (bl nm _ _ _ hk)⟩
    have htv : (SV.tv (ab rt) (([] : List α))).holds β w (bM cx (b8 nm st.heap) β w) (a.eval x) := by
      have := eJ (off := 0) (n := 0) hb hn e1 (by omega) hok (fun b o hbo => ?_)
      · have this : (ab rt).val w (bM cx (b8 nm st.heap) β w) (a.eval x) [] := by simpa using this
        exact this
      have q := hb.own nm _ hn _ hbo
      exact ⟨.inr q.1, q.2, fun k h hk x hx e1 => by
        have : k = nm := hb.sep k nm _ _ (bl nm _ _ _ hk) hn x (b, o) hx hbo e1
        subst this
        rw [bC] at hk; cases hk⟩
    have hargs := ha.holds (cx := cx) (β := β) (a := a) (w := w) (st' := ⟨st.slots, b8 nm st.heap⟩) (fun x hx => rfl) hb2 hp
    refine wpList_plain rfl fun K hK => ?_
    have hrun : (execOp a.eval ⟨some d, .call { callee := .value (.func kf), args := (x :: xo).toArray, argTypes := ts }, ty, pos, aft, none⟩).run P w = .ok (.enter kf ((x :: xo).map a.eval).toArray) w := by
      simp [execOp, resolve, Act.eval, Deferred.ofValue, invoke, hc.ent]
    unfold Oper.wp
    rw [hrun, Oper.upon_enter]
    refine (hc.calls w (bM cx (b8 nm st.heap) β w) _ (fun b hb => hb.2.1) ⟨_, _, rfl, SV.plain_keep rfl (fun _ h => ⟨h, rfl⟩) htv, hargs⟩).mono ?_
    rintro e w' ⟨v', rfl, hbl, hv⟩
    have hbl := hbl.plain (fun _ h => h)
    have hl := hb.later hbl
    have h1 := hl.put (d := d) (s := .raw rv) (by simpa using hd) hv
    refine hK _ _ (hnext xs hQ _ _ (Sub.inv ⟨fun i s hs => ?_, fun i s hs => ?_⟩ ⟨β, h1⟩))
    · simp only [St.put]
      rw [aT] at hs ⊢
      split at hs
      · rename_i e; rw [if_pos e]; exact hs
      rename_i e; rw [if_neg e]; exact (hk.look i s hs).1
    rw [aW] at hs
    split at hs
    · rename_i e; subst e; injection hs with hs; subst hs; exact hn
    exact hs
  obtain ⟨β, hb⟩ := hi
  have hA : ∃ b o, A = some (⟨b, o, none⟩ : Addr) := by
    obtain ⟨e1, e2⟩ := hb.ev hx
    rw [e2] at e1
    simp only [SV.holds, hdr] at e1
    cases hβ : β nm with
    | none => rw [hβ] at e1; obtain ⟨_, e3⟩ := e1; omega
    | some bo =>
      obtain ⟨b, o⟩ := bo
      rw [hβ] at e1
      obtain ⟨A', cap', g1, g2, g3, g4⟩ := e1
      injection g1 with g1 _ _
      subst g1
      rcases g4 with ⟨g4, _⟩ | ⟨g4, _⟩
      · omega
      exact ⟨_, _, g4⟩
  obtain ⟨b, o, rfl⟩ := hA
  exact Af R ks (h hpos) hx hn hfull hpos ha hp rfl hd hR hk hnext a w ⟨β, hb⟩
end
end Go.Eng
