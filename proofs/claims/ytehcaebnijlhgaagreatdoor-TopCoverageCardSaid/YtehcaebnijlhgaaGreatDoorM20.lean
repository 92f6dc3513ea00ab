import Derived.Test.YtehcaebnijlhgaaGreatDoorM3
import Derived.Test.YtehcaebnijlhgaaGreatDoorM17
import Derived.Test.YtehcaebnijlhgaaGreatDoorM18
import Derived.Test.YtehcaebnijlhgaaGreatDoorM4
import GoSem.ClaimJoined
set_option linter.unusedVariables false
set_option linter.unusedSimpArgs false
namespace Go.Proofs.YtehcaebnijlhgaaGreatDoor
open Go.Eng Tryz
set_option maxRecDepth 100000
set_option maxHeartbeats 4000000
open C15 C23
theorem xw (l : cA) (scope d date : Int) (hL : SmL l) (hN : o3 l) : Ct prog 8 [.tv cz l, .raw (.int .i64 scope), .raw (.int .i64 d), .raw (.int .i64 date)] (.tup2 (.tv (ab bk) (if (dh l scope d date).2 ≠ 0 then [] else HL (sc l scope).2.2.2.2 (ixS (sc l scope) d date) (kX (fD d date) (sc l scope).2.2.2.2 (sc l scope).2.2.2.2.length) (uI (fD d date) (sc l scope).2.2.2.2 (sc l scope).2.2.2.2.length) (sc l scope).2.2.1 (aC l (sc l scope) d date) (pr (aC l (sc l scope) d date) (aC l (sc l scope) d date).length).toNat)) (.raw (.int .i64 (dh l scope d date).2))) := by
  refine ay func8 rfl rfl ntmps8 rfl rfl ?_
  intro w0 ok0
  refine zR (zb (.tv (.b rfl)) (zA rfl (zY rfl (aa (zR (zL e9 rfl rfl rfl (Lens.id _) (zM rfl (zM rfl (zM rfl (zJ (an (sj l _ _ _ hL hN) (.cons (.b rfl) (.cons (.b rfl) (.cons (.b rfl) (.cons (.b rfl) .nil)))) rfl rfl) (zM rfl (zJ (bj (.b rfl)) (zJ (bi (.b rfl)) (zA rfl (zY rfl (aa (ae (zR (zM rfl (zJ (bQ (.b rfl) (.b rfl)) (zZ ?_)))))))))))))))))))))
  refine af rfl (fun h2 => ?_) (fun h2 => ?_)
  · skip
    refine zR (zM rfl (zA rfl (zY rfl (aa (am (ai ?_))))))
    exact aK results8 (dl rfl) (aw rfl) ⟨rfl, rfl⟩ (by rw [if_pos (by simpa using h2)])
  have h2 : (dh l scope d date).2 = 0 := by simpa using h2
  obtain ⟨hvl, i, hi0, rfl, hd, hdt, hfl, hcnt, hgr⟩ := pv h2
  rw [hgr, h2]
  have hss := hL.2.2.2.1 _ (List.getElem_mem hi0)
  have hrl : l.2.2[i].2.2.2.2.length ≤ 60 := hss.1.2.2.2
  have hval := rF hvl
  have hvs := hval.2 _ (List.getElem_mem hi0)
  have hil : (ixS l.2.2[i] d date).length ≤ l.2.2[i].2.2.2.2.length := ja _ _ _
  have hix : ∀ j ∈ (ixS l.2.2[i] d date), j < l.2.2[i].2.2.2.2.length := fun j hj => iP (j5.1 hj).2
  have hgl : (aC l l.2.2[i] d date).length = l.2.2[i].2.2.1.length := iQ _ _ _ _
  have hfs : l.2.2[i].2.2.1.length ≤ 14 := hss.1.2.1
  have hgp2 := nz (l := l) (s := l.2.2[i]) (d := d) (date := date) (fun e he => (hval.1.2 e he).1) hvs.1
  have hgm := oB (d := d) (date := date) hL hss
  have hcell : ∀ t : Nat, (t : Int) < (pr (aC l l.2.2[i] d date) (aC l l.2.2[i] d date).length) → Vd (aC l l.2.2[i] d date) (sq (aC l l.2.2[i] d date) t) ∧ kM l.1 l.2.2[i].2.2.1 (eM l.2.2[i].2.2.1 (aC l l.2.2[i] d date) t) := fun t ht => ⟨(oK hgp2 t ht).1, lL (fun e he => (hval.1.2 e he).1) hvs.1 (oK hgp2 t ht).1⟩
  have hN1 : (0 : Int) < (pr (aC l l.2.2[i] d date) (aC l l.2.2[i] d date).length) := rQ hgp2 (Nat.le_refl _)
  have hN2 : (pr (aC l l.2.2[i] d date) (aC l l.2.2[i] d date).length) ≤ 4096 := Be hgp2 hcnt
  refine ah (aa (zR (zF cN rfl (zL gB rfl rfl rfl du (zM rfl ?_)))))
  refine bc _ rfl _ rfl rfl (al fx dx (.b rfl) (.b rfl) rfl zg) ?_
  refine zD dx rfl (zl z81 (zC dx rfl rfl rfl (Lens.id _) (.tv (.b rfl)) (zZ (zR (zL dx rfl rfl rfl (Lens.id _) (zM rfl (zM rfl (zJ (an (nY _ _ _ zo) (.cons (.b rfl) (.cons (.b rfl) (.cons (.b rfl) .nil))) rfl rfl) (zM rfl (zJ (d7 (.b rfl)) (zJ (d6 (.b rfl)) (zJ (d5 (.b rfl)) (zA rfl (zA rfl (zY rfl (aa (zR (zY rfl (aa (zR (zM rfl (zN fw rfl (zO (dL bd ty3 z3 rfl by3 (.b rfl) (.b rfl) zo (by unfold maxLen; omega) rfl rfl rfl) ?_)))))))))))))))))))))))
  refine wk 51 rfl (fun A0 cap0 => ?_)
  refine zY rfl (aa (ae (zR (zY rfl (aa (aq ?_))))))
  refine eO 70 16 bk rfl rfl rfl ?_
  refine aZ (ι := Nat) (fun t => ⟨[(3, .raw (.int .i64 (date))), (4, .optr 4 cz.n 0 0), (10, .tv (ab (ab (ak .i64))) (aC l l.2.2[i] d date)), (12, .optr 12 bx.n 0 0), (13, .tv (ab (ak .i64)) (nI (ixS l.2.2[i] d date))), (14, .tv (ab (ak .i64)) (kX (fD d date) l.2.2[i].2.2.2.2 l.2.2[i].2.2.2.2.length)), (15, .tv (ab (ak .i64)) (uI (fD d date) l.2.2[i].2.2.2.2 l.2.2[i].2.2.2.2.length)), (16, .own 70 bk.n 0 (HL l.2.2[i].2.2.2.2 (ixS l.2.2[i] d date) (kX (fD d date) l.2.2[i].2.2.2.2 l.2.2[i].2.2.2.2.length) (uI (fD d date) l.2.2[i].2.2.2.2 l.2.2[i].2.2.2.2.length) l.2.2[i].2.2.1 (aC l l.2.2[i] d date) t).length), (17, .both (.own 51 (ak .i64).n 0 (aC l l.2.2[i] d date).length) (.slice A0 (aC l l.2.2[i] d date).length cap0)), (18, .raw (.bool (decide ((t : Int) < (pr (aC l l.2.2[i] d date) (aC l l.2.2[i] d date).length)))))], [(4, ⟨cz, [l]⟩), (12, ⟨bx, [l.2.2[i]]⟩), (51, ⟨ak .i64, sq (aC l l.2.2[i] d date) t⟩), (70, ⟨bk, (HL l.2.2[i].2.2.2.2 (ixS l.2.2[i] d date) (kX (fD d date) l.2.2[i].2.2.2.2 l.2.2[i].2.2.2.2.length) (uI (fD d date) l.2.2[i].2.2.2.2 l.2.2[i].2.2.2.2.length) l.2.2[i].2.2.1 (aC l l.2.2[i] d date) t)⟩)]⟩) (fun t => (t : Int) ≤ (pr (aC l l.2.2[i] d date) (aC l l.2.2[i] d date).length)) (fun t => ((pr (aC l l.2.2[i] d date) (aC l l.2.2[i] d date).length) - t).toNat) 0 zo (fun a w hi => (Sub.inv ⟨(by repeat (first | exact aQ | refine aM rfl (by first | rfl | (simp; done) | exact congrArg (fun b => SV.raw (.bool b)) (decide_eq_true hN1).symm | exact congrArg (fun b => SV.raw (.bool b)) (decide_eq_true hN1)) ?_)), (by repeat (first | exact bn | refine aL rfl (by first | rfl | (simp; done)) ?_))⟩ hi)) ?_
  rintro t ht
  have hhl := Bz (rs := l.2.2[i].2.2.2.2) (ix := (ixS l.2.2[i] d date)) (par := (kX (fD d date) l.2.2[i].2.2.2.2 l.2.2[i].2.2.2.2.length)) (pri := (uI (fD d date) l.2.2[i].2.2.2.2 l.2.2[i].2.2.2.2.length)) (fs := l.2.2[i].2.2.1) (G := (aC l l.2.2[i] d date)) t
  refine ae (zR (zM rfl (zZ ?_)))
  refine af rfl (fun h9 => ?_) (fun h9 => ?_)
  · have h9 : (t : Int) < (pr (aC l l.2.2[i] d date) (aC l l.2.2[i] d date).length) := by simpa using h9
    have hcl := hcell t h9
    have hsl : (sq (aC l l.2.2[i] d date) t).length = (aC l l.2.2[i] d date).length := hcl.1.len
    have hgok : ∀ j ∈ (ixS l.2.2[i] d date), GOK (eH l l.2.2[i]) (eM l.2.2[i].2.2.1 (aC l l.2.2[i] d date) t) (grd l.2.2[i].2.2.2.2 j) := fun j hj => by
      have hjr := hix j hj
      refine ve (fun h0 => hfl _ ?_) ?_ ⟨hval.1.1, fun q hq => (hval.1.2 q hq).2⟩ hvs.1 hcl.2
      · unfold dP gsK
        rw [List.mem_filter, List.mem_map]
        exact ⟨⟨j, hj, rfl⟩, by simp; omega⟩
      rw [kJ hjr]; exact (hss.2.2.2 _ (List.getElem_mem hjr)).2.2.1
    have hinp : CtO prog 31 [.tv bx l.2.2[i], .tv (ab (ab (ak .i64))) (aC l l.2.2[i] d date), .tv (ab (ak .i64)) (((sq (aC l l.2.2[i] d date) t).drop 0).take (aC l l.2.2[i] d date).length)] aS (eM l.2.2[i].2.2.1 (aC l l.2.2[i] d date) t) := by
      rw [List.drop_zero, List.take_of_length_le zo]
      exact Cj l.2.2[i] (aC l l.2.2[i] d date) (sq (aC l l.2.2[i] d date) t) hgl zo (fun k hk hk2 => by
        have q := hcl.1.rng k hk2
        rw [lG hk, gp hk2] at q
        exact q) zo
    have hadv : 0 < (aC l l.2.2[i] d date).length → CtT prog 30 (ak .i64) (sq (aC l l.2.2[i] d date) t) (fun ys => ys = sq (aC l l.2.2[i] d date) (t + 1)) [.tv (ab (ab (ak .i64))) (aC l l.2.2[i] d date)] (.raw (.bool (decide (((t + 1 : Nat) : Int) < (pr (aC l l.2.2[i] d date) (aC l l.2.2[i] d date).length))))) := by
      intro _
      have q := adv_ok (sq (aC l l.2.2[i] d date) t) (aC l l.2.2[i] d date) hsl (fun x hx => by
        obtain ⟨k, hk, rfl⟩ := List.getElem_of_mem hx
        have hk2 : k < (aC l l.2.2[i] d date).length := by omega
        have q := hcl.1.rng k hk2
        rw [lG hk, gp hk2] at q
        have := hgm _ (List.getElem_mem hk2)
        omega) zo
      rw [hsl, vD hgp2 h9] at q
      exact q
    have hadv0 : (aC l l.2.2[i] d date).length = 0 → Ct prog 30 [.tv (ab (ak .i64)) [], .tv (ab (ab (ak .i64))) (aC l l.2.2[i] d date)] (.raw (.bool (decide (((t + 1 : Nat) : Int) < (pr (aC l l.2.2[i] d date) (aC l l.2.2[i] d date).length))))) ∧ sq (aC l l.2.2[i] d date) t = sq (aC l l.2.2[i] d date) (t + 1) := fun hz => by
      have hsq : sq (aC l l.2.2[i] d date) (t + 1) = sq (aC l l.2.2[i] d date) t := by show (fA (aC l l.2.2[i] d date) (sq (aC l l.2.2[i] d date) t) (aC l l.2.2[i] d date).length).1 = _; rw [hz]; rfl
      have hG : (aC l l.2.2[i] d date) = [] := List.length_eq_zero_iff.1 hz
      have hp1 : (pr (aC l l.2.2[i] d date) (aC l l.2.2[i] d date).length) = 1 := by rw [hz]; rfl
      refine ⟨?_, hsq.symm⟩
      rw [decide_eq_false zo, hG]
      exact CT
    refine ah (aa (ae (aq (zR (zL dx rfl rfl rfl (Lens.id _) (zM rfl (zJ (ag (.b1 rfl)) (zO (rc (xs := [.tmp 56, .tmp 57, .tmp 58]) hinp (fun _ _ _ _ _ h => ke (ip _) (ke (ip _) (ip _)) h) _ (fun a w hi => j4 (nm := 51) (i := 58) rfl rfl zo (bl 51 _) (bC 51 _) hi) (.cons (.b rfl) (.cons (.b rfl) (.cons (.b rfl) .nil))) rfl rfl rfl rfl) (zY rfl (aa (ae ?_)))))))))))
    refine kH (rt := aS) 59 19 (b8 59 _) rfl rfl (by simp) (bl 59 _) (bC 59 _) ?_
    rw [List.drop_zero, List.take_length]
    refine ac (zL e9 rfl rfl rfl (Lens.id _) (zL dx rfl rfl rfl (Lens.id _) (zM rfl (zM rfl (zM rfl (zJ (an (AI l l.2.2[i] date (eM l.2.2[i].2.2.1 (aC l l.2.2[i] d date) t) (eH l l.2.2[i]) (ixS l.2.2[i] d date) hix hgok zo) (.cons (.b rfl) (.cons (.b rfl) (.cons (.b rfl) (.cons (.b rfl) (.cons (.b rfl) .nil))))) rfl rfl) (zY rfl (aa (zR (zJ (aI z44 rfl pl44 (.cons (rt' := (ak .i64)) rfl rY (.raw (.b rfl) rfl) (.cons (rt' := (ak .i64)) rfl rX (.raw (.b rfl) rfl) .nil))) (zl z44 (zC mj rfl rfl rfl (Lens.id _) (.tv (.b rfl)) (zZ (zR (zM rfl (zM rfl (zM rfl (zJ (an (pd _ _ _) (.cons (.b rfl) (.cons (.b rfl) (.cons (.b rfl) .nil))) rfl rfl) (zF jC rfl (zC ty3 rfl rfl rfl lq (.raw (.b rfl) rfl) (zZ (ae (zR (zF jC rfl (zL ty3 rfl rfl rfl lq (zJ (bW (.b rfl) (.b rfl)) (zZ ?_)))))))))))))))))))))))))))
    refine af rfl (fun h15 => ?_) (fun h15 => ?_)
    · have h15 : 0 ≤ (eW l.2.2[i].2.2.2.2 (ixS l.2.2[i] d date) (kX (fD d date) l.2.2[i].2.2.2.2 l.2.2[i].2.2.2.2.length) (uI (fD d date) l.2.2[i].2.2.2.2 l.2.2[i].2.2.2.2.length) l.2.2[i].2.2.1 (aC l l.2.2[i] d date) t) := of_decide_eq_true h15
      have hs : HL l.2.2[i].2.2.2.2 (ixS l.2.2[i] d date) (kX (fD d date) l.2.2[i].2.2.2.2 l.2.2[i].2.2.2.2.length) (uI (fD d date) l.2.2[i].2.2.2.2 l.2.2[i].2.2.2.2.length) l.2.2[i].2.2.1 (aC l l.2.2[i] d date) (t + 1) = (HL l.2.2[i].2.2.2.2 (ixS l.2.2[i] d date) (kX (fD d date) l.2.2[i].2.2.2.2 l.2.2[i].2.2.2.2.length) (uI (fD d date) l.2.2[i].2.2.2.2 l.2.2[i].2.2.2.2.length) l.2.2[i].2.2.1 (aC l l.2.2[i] d date) t) := by rw [HL, if_pos h15]
      refine bg (be (bf (aa (ac (zM rfl (zM rfl ?_))))))
      refine gO [4, 12, 70] [3, 4, 10, 12, 13, 14, 15, 16, 17] hadv hadv0 (.b rfl) rfl zo (.cons (.b rfl) .nil) rfl rfl rfl (.free rfl rfl (.free rfl rfl (.free rfl rfl (.free rfl rfl (.free rfl rfl (.free rfl rfl (.free rfl rfl (.free rfl rfl (.both rfl .nil))))))))) ?_
      intro ys hys
      subst hys
      refine zY rfl ?_
      exact aD (fun a w hi => ⟨t + 1, zo, zo, zW hi⟩)
    have h15 : ¬ 0 ≤ (eW l.2.2[i].2.2.2.2 (ixS l.2.2[i] d date) (kX (fD d date) l.2.2[i].2.2.2.2 l.2.2[i].2.2.2.2.length) (uI (fD d date) l.2.2[i].2.2.2.2 l.2.2[i].2.2.2.2.length) l.2.2[i].2.2.1 (aC l l.2.2[i] d date) t) := of_decide_eq_false h15
    refine ah (aa (ae (zR (zF jC rfl (zL ty3 rfl rfl rfl lq (ze rfl rfl (zQ [3,4,10,12,13,14,15,16,17,19,20,21,77] [4,12,21,51,70] (aa ?_))))))))
    refine af rfl (fun h16 => ?_) (fun h16 => ?_)
    · have h16 : (eW l.2.2[i].2.2.2.2 (ixS l.2.2[i] d date) (kX (fD d date) l.2.2[i].2.2.2.2 l.2.2[i].2.2.2.2.length) (uI (fD d date) l.2.2[i].2.2.2.2 l.2.2[i].2.2.2.2.length) l.2.2[i].2.2.1 (aC l l.2.2[i] d date) t) = -2 := eq_of_beq h16
      have hfc := fcT_in (show kr (kX (fD d date) l.2.2[i].2.2.2.2 l.2.2[i].2.2.2.2.length) (uI (fD d date) l.2.2[i].2.2.2.2 l.2.2[i].2.2.2.2.length) (apF l.2.2[i].2.2.2.2 (ixS l.2.2[i] d date) (eM l.2.2[i].2.2.1 (aC l l.2.2[i] d date) t)) = -2 from h16)
      have hpl : (kX (fD d date) l.2.2[i].2.2.2.2 l.2.2[i].2.2.2.2.length).length = (ixS l.2.2[i] d date).length := tz _ _ _
      have hnl := cr (ixS l.2.2[i] d date)
      have hh0 : (fX l.2.2[i].2.2.2.2 (ixS l.2.2[i] d date) (kX (fD d date) l.2.2[i].2.2.2.2 l.2.2[i].2.2.2.2.length) (uI (fD d date) l.2.2[i].2.2.2.2 l.2.2[i].2.2.2.2.length) l.2.2[i].2.2.1 (aC l l.2.2[i] d date) t) = ((eW l.2.2[i].2.2.2.2 (ixS l.2.2[i] d date) (kX (fD d date) l.2.2[i].2.2.2.2 l.2.2[i].2.2.2.2.length) (uI (fD d date) l.2.2[i].2.2.2.2 l.2.2[i].2.2.2.2.length) l.2.2[i].2.2.1 (aC l l.2.2[i] d date) t), gi (nI (ixS l.2.2[i] d date)) (fcT (kX (fD d date) l.2.2[i].2.2.2.2 l.2.2[i].2.2.2.2.length) (uI (fD d date) l.2.2[i].2.2.2.2 l.2.2[i].2.2.2.2.length) (apF l.2.2[i].2.2.2.2 (ixS l.2.2[i] d date) (eM l.2.2[i].2.2.1 (aC l l.2.2[i] d date) t))).1, gi (nI (ixS l.2.2[i] d date)) (fcT (kX (fD d date) l.2.2[i].2.2.2.2 l.2.2[i].2.2.2.2.length) (uI (fD d date) l.2.2[i].2.2.2.2 l.2.2[i].2.2.2.2.length) (apF l.2.2[i].2.2.2.2 (ixS l.2.2[i] d date) (eM l.2.2[i].2.2.1 (aC l l.2.2[i] d date) t))).2.1, []) := by unfold fX; rw [if_pos h16, h16]
      refine zR (zM rfl (zM rfl (zM rfl (zJ (an (fcT_ok _ _ _) (.cons (.b rfl) (.cons (.b rfl) (.cons (.b rfl) .nil))) rfl rfl) (zM rfl (zJ (d7 (.b rfl)) (zJ (d6 (.b rfl)) (zJ (d5 (.b rfl)) (zA rfl (zA rfl (zY rfl (aa ?_))))))))))))
      refine bZ mo zk ( zE [] (ag (.b rfl)) ( zE [] (ag (.b rfl)) ( zE [] (al bd ty3 (.b rfl) (.b rfl) (show (fcT (kX (fD d date) l.2.2[i].2.2.2.2 l.2.2[i].2.2.2.2.length) (uI (fD d date) l.2.2[i].2.2.2.2 l.2.2[i].2.2.2.2.length) (apF l.2.2[i].2.2.2.2 (ixS l.2.2[i] d date) (eM l.2.2[i].2.2.1 (aC l l.2.2[i] d date) t))).1 = (((fcT (kX (fD d date) l.2.2[i].2.2.2.2 l.2.2[i].2.2.2.2.length) (uI (fD d date) l.2.2[i].2.2.2.2 l.2.2[i].2.2.2.2.length) (apF l.2.2[i].2.2.2.2 (ixS l.2.2[i] d date) (eM l.2.2[i].2.2.1 (aC l l.2.2[i] d date) t))).1.toNat : Nat) : Int) by omega) (getD_some (l := nI (ixS l.2.2[i] d date)) (i := (fcT (kX (fD d date) l.2.2[i].2.2.2.2 l.2.2[i].2.2.2.2.length) (uI (fD d date) l.2.2[i].2.2.2.2 l.2.2[i].2.2.2.2.length) (apF l.2.2[i].2.2.2.2 (ixS l.2.2[i] d date) (eM l.2.2[i].2.2.1 (aC l l.2.2[i] d date) t))).1.toNat) (z := 0) zo)) ( zE [] (aA ty3 (.b rfl)) ( zE [] (ag (.b rfl)) ( zE [] (ag (.b rfl)) ( zE [] (al bd ty3 (.b rfl) (.b rfl) (show (fcT (kX (fD d date) l.2.2[i].2.2.2.2 l.2.2[i].2.2.2.2.length) (uI (fD d date) l.2.2[i].2.2.2.2 l.2.2[i].2.2.2.2.length) (apF l.2.2[i].2.2.2.2 (ixS l.2.2[i] d date) (eM l.2.2[i].2.2.1 (aC l l.2.2[i] d date) t))).2.1 = (((fcT (kX (fD d date) l.2.2[i].2.2.2.2 l.2.2[i].2.2.2.2.length) (uI (fD d date) l.2.2[i].2.2.2.2 l.2.2[i].2.2.2.2.length) (apF l.2.2[i].2.2.2.2 (ixS l.2.2[i] d date) (eM l.2.2[i].2.2.1 (aC l l.2.2[i] d date) t))).2.1.toNat : Nat) : Int) by omega) (getD_some (l := nI (ixS l.2.2[i] d date)) (i := (fcT (kX (fD d date) l.2.2[i].2.2.2.2 l.2.2[i].2.2.2.2.length) (uI (fD d date) l.2.2[i].2.2.2.2 l.2.2[i].2.2.2.2.length) (apF l.2.2[i].2.2.2.2 (ixS l.2.2[i] d date) (eM l.2.2[i].2.2.1 (aC l l.2.2[i] d date) t))).2.1.toNat) (z := 0) zo)) ( zE [] (aA ty3 (.b rfl)) ( zE [21] (ao su (.b rfl)) ( AE.cons _ _ _ rfl (bF ty3 (.b rfl) rfl rfl rY (.raw (.b rfl) rfl)) ( zE [21] (ao sr (.b rfl)) ( AE.cons _ _ _ rfl (bF ty3 (.b rfl) rfl rfl rX (.raw (.b rfl) rfl)) ( AE.nil))))))))))))) zk ?_
      refine aa (zR (zM rfl ?_))
      first | refine r8 (A := bk) (C := bk) (f := fun x => jX x ((eW l.2.2[i].2.2.2.2 (ixS l.2.2[i] d date) (kX (fD d date) l.2.2[i].2.2.2.2 l.2.2[i].2.2.2.2.length) (uI (fD d date) l.2.2[i].2.2.2.2 l.2.2[i].2.2.2.2.length) l.2.2[i].2.2.1 (aC l l.2.2[i] d date) t), gi (nI (ixS l.2.2[i] d date)) (fcT (kX (fD d date) l.2.2[i].2.2.2.2 l.2.2[i].2.2.2.2.length) (uI (fD d date) l.2.2[i].2.2.2.2 l.2.2[i].2.2.2.2.length) (apF l.2.2[i].2.2.2.2 (ixS l.2.2[i] d date) (eM l.2.2[i].2.2.1 (aC l l.2.2[i] d date) t))).1, gi (nI (ixS l.2.2[i] d date)) (fcT (kX (fD d date) l.2.2[i].2.2.2.2 l.2.2[i].2.2.2.2.length) (uI (fD d date) l.2.2[i].2.2.2.2 l.2.2[i].2.2.2.2.length) (apF l.2.2[i].2.2.2.2 (ixS l.2.2[i] d date) (eM l.2.2[i].2.2.1 (aC l l.2.2[i] d date) t))).2.1, [])) (c := ((eW l.2.2[i].2.2.2.2 (ixS l.2.2[i] d date) (kX (fD d date) l.2.2[i].2.2.2.2 l.2.2[i].2.2.2.2.length) (uI (fD d date) l.2.2[i].2.2.2.2 l.2.2[i].2.2.2.2.length) l.2.2[i].2.2.1 (aC l l.2.2[i] d date) t), gi (nI (ixS l.2.2[i] d date)) (fcT (kX (fD d date) l.2.2[i].2.2.2.2 l.2.2[i].2.2.2.2.length) (uI (fD d date) l.2.2[i].2.2.2.2 l.2.2[i].2.2.2.2.length) (apF l.2.2[i].2.2.2.2 (ixS l.2.2[i] d date) (eM l.2.2[i].2.2.1 (aC l l.2.2[i] d date) t))).1, gi (nI (ixS l.2.2[i] d date)) (fcT (kX (fD d date) l.2.2[i].2.2.2.2 l.2.2[i].2.2.2.2.length) (uI (fD d date) l.2.2[i].2.2.2.2 l.2.2[i].2.2.2.2.length) (apF l.2.2[i].2.2.2.2 (ixS l.2.2[i] d date) (eM l.2.2[i].2.2.1 (aC l l.2.2[i] d date) t))).2.1, [])) 21 96 97 98 21 70 (bJ func36 rfl zk) (fun x => nv x ((eW l.2.2[i].2.2.2.2 (ixS l.2.2[i] d date) (kX (fD d date) l.2.2[i].2.2.2.2 l.2.2[i].2.2.2.2.length) (uI (fD d date) l.2.2[i].2.2.2.2 l.2.2[i].2.2.2.2.length) l.2.2[i].2.2.1 (aC l l.2.2[i] d date) t), gi (nI (ixS l.2.2[i] d date)) (fcT (kX (fD d date) l.2.2[i].2.2.2.2 l.2.2[i].2.2.2.2.length) (uI (fD d date) l.2.2[i].2.2.2.2 l.2.2[i].2.2.2.2.length) (apF l.2.2[i].2.2.2.2 (ixS l.2.2[i] d date) (eM l.2.2[i].2.2.1 (aC l l.2.2[i] d date) t))).1, gi (nI (ixS l.2.2[i] d date)) (fcT (kX (fD d date) l.2.2[i].2.2.2.2 l.2.2[i].2.2.2.2.length) (uI (fD d date) l.2.2[i].2.2.2.2 l.2.2[i].2.2.2.2.length) (apF l.2.2[i].2.2.2.2 (ixS l.2.2[i] d date) (eM l.2.2[i].2.2.1 (aC l l.2.2[i] d date) t))).2.1, [])) (nx _ _) rfl rfl rfl rfl rfl rfl rfl rfl rfl rfl rfl ?_ | refine r8 (A := bk) (C := bk) (f := fun x => jX x ((eW l.2.2[i].2.2.2.2 (ixS l.2.2[i] d date) (kX (fD d date) l.2.2[i].2.2.2.2 l.2.2[i].2.2.2.2.length) (uI (fD d date) l.2.2[i].2.2.2.2 l.2.2[i].2.2.2.2.length) l.2.2[i].2.2.1 (aC l l.2.2[i] d date) t), -1, -1, [])) (c := ((eW l.2.2[i].2.2.2.2 (ixS l.2.2[i] d date) (kX (fD d date) l.2.2[i].2.2.2.2 l.2.2[i].2.2.2.2.length) (uI (fD d date) l.2.2[i].2.2.2.2 l.2.2[i].2.2.2.2.length) l.2.2[i].2.2.1 (aC l l.2.2[i] d date) t), -1, -1, [])) 21 96 97 98 21 70 (bJ func36 rfl zk) (fun x => nv x ((eW l.2.2[i].2.2.2.2 (ixS l.2.2[i] d date) (kX (fD d date) l.2.2[i].2.2.2.2 l.2.2[i].2.2.2.2.length) (uI (fD d date) l.2.2[i].2.2.2.2 l.2.2[i].2.2.2.2.length) l.2.2[i].2.2.1 (aC l l.2.2[i] d date) t), -1, -1, [])) (nx _ _) rfl rfl rfl rfl rfl rfl rfl rfl rfl rfl rfl ?_
      refine zJ (b6 (.b rfl)) (zZ ?_)
      refine af rfl (fun h19 => ?_) (fun h19 => ?_)
      · have h19 : (HL l.2.2[i].2.2.2.2 (ixS l.2.2[i] d date) (kX (fD d date) l.2.2[i].2.2.2.2 l.2.2[i].2.2.2.2.length) (uI (fD d date) l.2.2[i].2.2.2.2 l.2.2[i].2.2.2.2.length) l.2.2[i].2.2.1 (aC l l.2.2[i] d date) t).any (fun x => jX x (fX l.2.2[i].2.2.2.2 (ixS l.2.2[i] d date) (kX (fD d date) l.2.2[i].2.2.2.2 l.2.2[i].2.2.2.2.length) (uI (fD d date) l.2.2[i].2.2.2.2 l.2.2[i].2.2.2.2.length) l.2.2[i].2.2.1 (aC l l.2.2[i] d date) t)) = false := by rw [hh0]; simpa using h19
        have hs : HL l.2.2[i].2.2.2.2 (ixS l.2.2[i] d date) (kX (fD d date) l.2.2[i].2.2.2.2 l.2.2[i].2.2.2.2.length) (uI (fD d date) l.2.2[i].2.2.2.2 l.2.2[i].2.2.2.2.length) l.2.2[i].2.2.1 (aC l l.2.2[i] d date) (t + 1) = (HL l.2.2[i].2.2.2.2 (ixS l.2.2[i] d date) (kX (fD d date) l.2.2[i].2.2.2.2 l.2.2[i].2.2.2.2.length) (uI (fD d date) l.2.2[i].2.2.2.2 l.2.2[i].2.2.2.2.length) l.2.2[i].2.2.1 (aC l l.2.2[i] d date) t) ++ [((fX l.2.2[i].2.2.2.2 (ixS l.2.2[i] d date) (kX (fD d date) l.2.2[i].2.2.2.2 l.2.2[i].2.2.2.2.length) (uI (fD d date) l.2.2[i].2.2.2.2 l.2.2[i].2.2.2.2.length) l.2.2[i].2.2.1 (aC l l.2.2[i] d date) t).1, (fX l.2.2[i].2.2.2.2 (ixS l.2.2[i] d date) (kX (fD d date) l.2.2[i].2.2.2.2 l.2.2[i].2.2.2.2.length) (uI (fD d date) l.2.2[i].2.2.2.2 l.2.2[i].2.2.2.2.length) l.2.2[i].2.2.1 (aC l l.2.2[i] d date) t).2.1, (fX l.2.2[i].2.2.2.2 (ixS l.2.2[i] d date) (kX (fD d date) l.2.2[i].2.2.2.2 l.2.2[i].2.2.2.2.length) (uI (fD d date) l.2.2[i].2.2.2.2 l.2.2[i].2.2.2.2.length) l.2.2[i].2.2.1 (aC l l.2.2[i] d date) t).2.2.1, (eM l.2.2[i].2.2.1 (aC l l.2.2[i] d date) t))] := by rw [HL, if_neg h15, if_neg (by rw [h19]; decide)]
        rw [hh0] at hs
        refine zR (zM rfl (zF so rfl (zC jk rfl rfl rfl uY (.tv (.b rfl)) (zZ (ac (zM rfl (zL mj rfl rfl rfl (Lens.id _) (zJ (bq (rt := bk) mi mj z44 rfl (.cons (.tv (.b rfl)) .nil) rfl rfl) (zV [3,4,10,12,13,14,15,17] mi mj z44 by44 rfl rfl (.tv (.b rfl)) ?_)))))))))
        refine zY rfl (aG (aa (ac (zM rfl (zM rfl ?_)))))
        refine gO [4, 12, 70] [3, 4, 10, 12, 13, 14, 15, 16, 17] hadv hadv0 (.b rfl) rfl zo (.cons (.b rfl) .nil) rfl rfl rfl (.free rfl rfl (.free rfl rfl (.free rfl rfl (.free rfl rfl (.free rfl rfl (.free rfl rfl (.free rfl rfl (.free rfl rfl (.both rfl .nil))))))))) ?_
        intro ys hys
        subst hys
        refine zY rfl ?_
        exact aD (fun a w hi => ⟨t + 1, zo, zo, zW hi⟩)
      have h19 : (HL l.2.2[i].2.2.2.2 (ixS l.2.2[i] d date) (kX (fD d date) l.2.2[i].2.2.2.2 l.2.2[i].2.2.2.2.length) (uI (fD d date) l.2.2[i].2.2.2.2 l.2.2[i].2.2.2.2.length) l.2.2[i].2.2.1 (aC l l.2.2[i] d date) t).any (fun x => jX x (fX l.2.2[i].2.2.2.2 (ixS l.2.2[i] d date) (kX (fD d date) l.2.2[i].2.2.2.2 l.2.2[i].2.2.2.2.length) (uI (fD d date) l.2.2[i].2.2.2.2 l.2.2[i].2.2.2.2.length) l.2.2[i].2.2.1 (aC l l.2.2[i] d date) t)) = true := by rw [hh0]; simpa using h19
      have hs : HL l.2.2[i].2.2.2.2 (ixS l.2.2[i] d date) (kX (fD d date) l.2.2[i].2.2.2.2 l.2.2[i].2.2.2.2.length) (uI (fD d date) l.2.2[i].2.2.2.2 l.2.2[i].2.2.2.2.length) l.2.2[i].2.2.1 (aC l l.2.2[i] d date) (t + 1) = (HL l.2.2[i].2.2.2.2 (ixS l.2.2[i] d date) (kX (fD d date) l.2.2[i].2.2.2.2 l.2.2[i].2.2.2.2.length) (uI (fD d date) l.2.2[i].2.2.2.2 l.2.2[i].2.2.2.2.length) l.2.2[i].2.2.1 (aC l l.2.2[i] d date) t) := by rw [HL, if_neg h15, if_pos h19]
      refine ah (aG (aa (ac (zM rfl (zM rfl ?_)))))
      refine gO [4, 12, 70] [3, 4, 10, 12, 13, 14, 15, 16, 17] hadv hadv0 (.b rfl) rfl zo (.cons (.b rfl) .nil) rfl rfl rfl (.free rfl rfl (.free rfl rfl (.free rfl rfl (.free rfl rfl (.free rfl rfl (.free rfl rfl (.free rfl rfl (.free rfl rfl (.both rfl .nil))))))))) ?_
      intro ys hys
      subst hys
      refine zY rfl ?_
      exact aD (fun a w hi => ⟨t + 1, zo, zo, zW hi⟩)
    have h16 : ¬ (eW l.2.2[i].2.2.2.2 (ixS l.2.2[i] d date) (kX (fD d date) l.2.2[i].2.2.2.2 l.2.2[i].2.2.2.2.length) (uI (fD d date) l.2.2[i].2.2.2.2 l.2.2[i].2.2.2.2.length) l.2.2[i].2.2.1 (aC l l.2.2[i] d date) t) = -2 := beq_eq_false_iff_ne.1 h16
    have hh0 : (fX l.2.2[i].2.2.2.2 (ixS l.2.2[i] d date) (kX (fD d date) l.2.2[i].2.2.2.2 l.2.2[i].2.2.2.2.length) (uI (fD d date) l.2.2[i].2.2.2.2 l.2.2[i].2.2.2.2.length) l.2.2[i].2.2.1 (aC l l.2.2[i] d date) t) = ((eW l.2.2[i].2.2.2.2 (ixS l.2.2[i] d date) (kX (fD d date) l.2.2[i].2.2.2.2 l.2.2[i].2.2.2.2.length) (uI (fD d date) l.2.2[i].2.2.2.2 l.2.2[i].2.2.2.2.length) l.2.2[i].2.2.1 (aC l l.2.2[i] d date) t), -1, -1, []) := by unfold fX; rw [if_neg h16]
    refine ah (aa (zR (zM rfl ?_)))
    first | refine r8 (A := bk) (C := bk) (f := fun x => jX x ((eW l.2.2[i].2.2.2.2 (ixS l.2.2[i] d date) (kX (fD d date) l.2.2[i].2.2.2.2 l.2.2[i].2.2.2.2.length) (uI (fD d date) l.2.2[i].2.2.2.2 l.2.2[i].2.2.2.2.length) l.2.2[i].2.2.1 (aC l l.2.2[i] d date) t), gi (nI (ixS l.2.2[i] d date)) (fcT (kX (fD d date) l.2.2[i].2.2.2.2 l.2.2[i].2.2.2.2.length) (uI (fD d date) l.2.2[i].2.2.2.2 l.2.2[i].2.2.2.2.length) (apF l.2.2[i].2.2.2.2 (ixS l.2.2[i] d date) (eM l.2.2[i].2.2.1 (aC l l.2.2[i] d date) t))).1, gi (nI (ixS l.2.2[i] d date)) (fcT (kX (fD d date) l.2.2[i].2.2.2.2 l.2.2[i].2.2.2.2.length) (uI (fD d date) l.2.2[i].2.2.2.2 l.2.2[i].2.2.2.2.length) (apF l.2.2[i].2.2.2.2 (ixS l.2.2[i] d date) (eM l.2.2[i].2.2.1 (aC l l.2.2[i] d date) t))).2.1, [])) (c := ((eW l.2.2[i].2.2.2.2 (ixS l.2.2[i] d date) (kX (fD d date) l.2.2[i].2.2.2.2 l.2.2[i].2.2.2.2.length) (uI (fD d date) l.2.2[i].2.2.2.2 l.2.2[i].2.2.2.2.length) l.2.2[i].2.2.1 (aC l l.2.2[i] d date) t), gi (nI (ixS l.2.2[i] d date)) (fcT (kX (fD d date) l.2.2[i].2.2.2.2 l.2.2[i].2.2.2.2.length) (uI (fD d date) l.2.2[i].2.2.2.2 l.2.2[i].2.2.2.2.length) (apF l.2.2[i].2.2.2.2 (ixS l.2.2[i] d date) (eM l.2.2[i].2.2.1 (aC l l.2.2[i] d date) t))).1, gi (nI (ixS l.2.2[i] d date)) (fcT (kX (fD d date) l.2.2[i].2.2.2.2 l.2.2[i].2.2.2.2.length) (uI (fD d date) l.2.2[i].2.2.2.2 l.2.2[i].2.2.2.2.length) (apF l.2.2[i].2.2.2.2 (ixS l.2.2[i] d date) (eM l.2.2[i].2.2.1 (aC l l.2.2[i] d date) t))).2.1, [])) 21 96 97 98 21 70 (bJ func36 rfl zk) (fun x => nv x ((eW l.2.2[i].2.2.2.2 (ixS l.2.2[i] d date) (kX (fD d date) l.2.2[i].2.2.2.2 l.2.2[i].2.2.2.2.length) (uI (fD d date) l.2.2[i].2.2.2.2 l.2.2[i].2.2.2.2.length) l.2.2[i].2.2.1 (aC l l.2.2[i] d date) t), gi (nI (ixS l.2.2[i] d date)) (fcT (kX (fD d date) l.2.2[i].2.2.2.2 l.2.2[i].2.2.2.2.length) (uI (fD d date) l.2.2[i].2.2.2.2 l.2.2[i].2.2.2.2.length) (apF l.2.2[i].2.2.2.2 (ixS l.2.2[i] d date) (eM l.2.2[i].2.2.1 (aC l l.2.2[i] d date) t))).1, gi (nI (ixS l.2.2[i] d date)) (fcT (kX (fD d date) l.2.2[i].2.2.2.2 l.2.2[i].2.2.2.2.length) (uI (fD d date) l.2.2[i].2.2.2.2 l.2.2[i].2.2.2.2.length) (apF l.2.2[i].2.2.2.2 (ixS l.2.2[i] d date) (eM l.2.2[i].2.2.1 (aC l l.2.2[i] d date) t))).2.1, [])) (nx _ _) rfl rfl rfl rfl rfl rfl rfl rfl rfl rfl rfl ?_ | refine r8 (A := bk) (C := bk) (f := fun x => jX x ((eW l.2.2[i].2.2.2.2 (ixS l.2.2[i] d date) (kX (fD d date) l.2.2[i].2.2.2.2 l.2.2[i].2.2.2.2.length) (uI (fD d date) l.2.2[i].2.2.2.2 l.2.2[i].2.2.2.2.length) l.2.2[i].2.2.1 (aC l l.2.2[i] d date) t), -1, -1, [])) (c := ((eW l.2.2[i].2.2.2.2 (ixS l.2.2[i] d date) (kX (fD d date) l.2.2[i].2.2.2.2 l.2.2[i].2.2.2.2.length) (uI (fD d date) l.2.2[i].2.2.2.2 l.2.2[i].2.2.2.2.length) l.2.2[i].2.2.1 (aC l l.2.2[i] d date) t), -1, -1, [])) 21 96 97 98 21 70 (bJ func36 rfl zk) (fun x => nv x ((eW l.2.2[i].2.2.2.2 (ixS l.2.2[i] d date) (kX (fD d date) l.2.2[i].2.2.2.2 l.2.2[i].2.2.2.2.length) (uI (fD d date) l.2.2[i].2.2.2.2 l.2.2[i].2.2.2.2.length) l.2.2[i].2.2.1 (aC l l.2.2[i] d date) t), -1, -1, [])) (nx _ _) rfl rfl rfl rfl rfl rfl rfl rfl rfl rfl rfl ?_
    refine zJ (b6 (.b rfl)) (zZ ?_)
    refine af rfl (fun h19 => ?_) (fun h19 => ?_)
    · have h19 : (HL l.2.2[i].2.2.2.2 (ixS l.2.2[i] d date) (kX (fD d date) l.2.2[i].2.2.2.2 l.2.2[i].2.2.2.2.length) (uI (fD d date) l.2.2[i].2.2.2.2 l.2.2[i].2.2.2.2.length) l.2.2[i].2.2.1 (aC l l.2.2[i] d date) t).any (fun x => jX x (fX l.2.2[i].2.2.2.2 (ixS l.2.2[i] d date) (kX (fD d date) l.2.2[i].2.2.2.2 l.2.2[i].2.2.2.2.length) (uI (fD d date) l.2.2[i].2.2.2.2 l.2.2[i].2.2.2.2.length) l.2.2[i].2.2.1 (aC l l.2.2[i] d date) t)) = false := by rw [hh0]; simpa using h19
      have hs : HL l.2.2[i].2.2.2.2 (ixS l.2.2[i] d date) (kX (fD d date) l.2.2[i].2.2.2.2 l.2.2[i].2.2.2.2.length) (uI (fD d date) l.2.2[i].2.2.2.2 l.2.2[i].2.2.2.2.length) l.2.2[i].2.2.1 (aC l l.2.2[i] d date) (t + 1) = (HL l.2.2[i].2.2.2.2 (ixS l.2.2[i] d date) (kX (fD d date) l.2.2[i].2.2.2.2 l.2.2[i].2.2.2.2.length) (uI (fD d date) l.2.2[i].2.2.2.2 l.2.2[i].2.2.2.2.length) l.2.2[i].2.2.1 (aC l l.2.2[i] d date) t) ++ [((fX l.2.2[i].2.2.2.2 (ixS l.2.2[i] d date) (kX (fD d date) l.2.2[i].2.2.2.2 l.2.2[i].2.2.2.2.length) (uI (fD d date) l.2.2[i].2.2.2.2 l.2.2[i].2.2.2.2.length) l.2.2[i].2.2.1 (aC l l.2.2[i] d date) t).1, (fX l.2.2[i].2.2.2.2 (ixS l.2.2[i] d date) (kX (fD d date) l.2.2[i].2.2.2.2 l.2.2[i].2.2.2.2.length) (uI (fD d date) l.2.2[i].2.2.2.2 l.2.2[i].2.2.2.2.length) l.2.2[i].2.2.1 (aC l l.2.2[i] d date) t).2.1, (fX l.2.2[i].2.2.2.2 (ixS l.2.2[i] d date) (kX (fD d date) l.2.2[i].2.2.2.2 l.2.2[i].2.2.2.2.length) (uI (fD d date) l.2.2[i].2.2.2.2 l.2.2[i].2.2.2.2.length) l.2.2[i].2.2.1 (aC l l.2.2[i] d date) t).2.2.1, (eM l.2.2[i].2.2.1 (aC l l.2.2[i] d date) t))] := by rw [HL, if_neg h15, if_neg (by rw [h19]; decide)]
      rw [hh0] at hs
      refine zR (zM rfl (zF so rfl (zC jk rfl rfl rfl uY (.tv (.b rfl)) (zZ (ac (zM rfl (zL mj rfl rfl rfl (Lens.id _) (zJ (bq (rt := bk) mi mj z44 rfl (.cons (.tv (.b rfl)) .nil) rfl rfl) (zV [3,4,10,12,13,14,15,17] mi mj z44 by44 rfl rfl (.tv (.b rfl)) ?_)))))))))
      refine zY rfl (aG (aa (ac (zM rfl (zM rfl ?_)))))
      refine gO [4, 12, 70] [3, 4, 10, 12, 13, 14, 15, 16, 17] hadv hadv0 (.b rfl) rfl zo (.cons (.b rfl) .nil) rfl rfl rfl (.free rfl rfl (.free rfl rfl (.free rfl rfl (.free rfl rfl (.free rfl rfl (.free rfl rfl (.free rfl rfl (.free rfl rfl (.both rfl .nil))))))))) ?_
      intro ys hys
      subst hys
      refine zY rfl ?_
      exact aD (fun a w hi => ⟨t + 1, zo, zo, zW hi⟩)
    have h19 : (HL l.2.2[i].2.2.2.2 (ixS l.2.2[i] d date) (kX (fD d date) l.2.2[i].2.2.2.2 l.2.2[i].2.2.2.2.length) (uI (fD d date) l.2.2[i].2.2.2.2 l.2.2[i].2.2.2.2.length) l.2.2[i].2.2.1 (aC l l.2.2[i] d date) t).any (fun x => jX x (fX l.2.2[i].2.2.2.2 (ixS l.2.2[i] d date) (kX (fD d date) l.2.2[i].2.2.2.2 l.2.2[i].2.2.2.2.length) (uI (fD d date) l.2.2[i].2.2.2.2 l.2.2[i].2.2.2.2.length) l.2.2[i].2.2.1 (aC l l.2.2[i] d date) t)) = true := by rw [hh0]; simpa using h19
    have hs : HL l.2.2[i].2.2.2.2 (ixS l.2.2[i] d date) (kX (fD d date) l.2.2[i].2.2.2.2 l.2.2[i].2.2.2.2.length) (uI (fD d date) l.2.2[i].2.2.2.2 l.2.2[i].2.2.2.2.length) l.2.2[i].2.2.1 (aC l l.2.2[i] d date) (t + 1) = (HL l.2.2[i].2.2.2.2 (ixS l.2.2[i] d date) (kX (fD d date) l.2.2[i].2.2.2.2 l.2.2[i].2.2.2.2.length) (uI (fD d date) l.2.2[i].2.2.2.2 l.2.2[i].2.2.2.2.length) l.2.2[i].2.2.1 (aC l l.2.2[i] d date) t) := by rw [HL, if_neg h15, if_pos h19]
    refine ah (aG (aa (ac (zM rfl (zM rfl ?_)))))
    refine gO [4, 12, 70] [3, 4, 10, 12, 13, 14, 15, 16, 17] hadv hadv0 (.b rfl) rfl zo (.cons (.b rfl) .nil) rfl rfl rfl (.free rfl rfl (.free rfl rfl (.free rfl rfl (.free rfl rfl (.free rfl rfl (.free rfl rfl (.free rfl rfl (.free rfl rfl (.both rfl .nil))))))))) ?_
    intro ys hys
    subst hys
    refine zY rfl ?_
    exact aD (fun a w hi => ⟨t + 1, zo, zo, zW hi⟩)
  have h9 : ¬ (t : Int) < (pr (aC l l.2.2[i] d date) (aC l l.2.2[i] d date).length) := by simpa using h9
  have hte : t = (pr (aC l l.2.2[i] d date) (aC l l.2.2[i] d date).length).toNat := by omega
  refine bg (be (aY (bf (aa (ae (ac (zM rfl (zA rfl (zY rfl (aa (am ?_)))))))))))
  refine cY (rt := bk) 70 8 (b8 70 _) rfl rfl (by simp) (bl 70 _) (bC 70 _) ?_
  exact z2 results8 rfl rfl (by rw [List.drop_zero, List.take_length, hte, if_neg (by simp), kQ hi0])
theorem A7 (l : cA) (scope d date : Int) (hL : SmL l) (hN : o3 l) : Ct prog 9 [.tv cz l, .raw (.int .i64 scope), .raw (.int .i64 d), .raw (.int .i64 date)] (.tup2 (.tv (ab (ak .i64)) (if (dh l scope d date).2 ≠ 0 then [] else jF (ixS (sc l scope) d date) (SL (sc l scope).2.2.2.2 (ixS (sc l scope) d date) (kX (fD d date) (sc l scope).2.2.2.2 (sc l scope).2.2.2.2.length) (uI (fD d date) (sc l scope).2.2.2.2 (sc l scope).2.2.2.2.length) (sc l scope).2.2.1 (aC l (sc l scope) d date) (pr (aC l (sc l scope) d date) (aC l (sc l scope) d date).length).toNat) (ixS (sc l scope) d date).length)) (.raw (.int .i64 (dh l scope d date).2))) := by
  refine ay func9 rfl rfl ntmps9 rfl rfl ?_
  intro w0 ok0
  refine zR (zb (.tv (.b rfl)) (zA rfl (zY rfl (aa (zR (zL e9 rfl rfl rfl (Lens.id _) (zM rfl (zM rfl (zM rfl (zJ (an (sj l _ _ _ hL hN) (.cons (.b rfl) (.cons (.b rfl) (.cons (.b rfl) (.cons (.b rfl) .nil)))) rfl rfl) (zM rfl (zJ (bj (.b rfl)) (zJ (bi (.b rfl)) (zA rfl (zY rfl (aa (ae (zR (zM rfl (zJ (bQ (.b rfl) (.b rfl)) (zZ ?_)))))))))))))))))))))
  refine af rfl (fun h2 => ?_) (fun h2 => ?_)
  · skip
    refine zR (zM rfl (zA rfl (zY rfl (aa (am (ai ?_))))))
    exact aK results9 (dl rfl) (aw rfl) ⟨rfl, rfl⟩ (by rw [if_pos (by simpa using h2)])
  have h2 : (dh l scope d date).2 = 0 := by simpa using h2
  obtain ⟨hvl, i, hi0, rfl, hd, hdt, hfl, hcnt, hgr⟩ := pv h2
  rw [hgr, h2]
  have hss := hL.2.2.2.1 _ (List.getElem_mem hi0)
  have hrl : l.2.2[i].2.2.2.2.length ≤ 60 := hss.1.2.2.2
  have hval := rF hvl
  have hvs := hval.2 _ (List.getElem_mem hi0)
  have hil : (ixS l.2.2[i] d date).length ≤ l.2.2[i].2.2.2.2.length := ja _ _ _
  have hix : ∀ j ∈ (ixS l.2.2[i] d date), j < l.2.2[i].2.2.2.2.length := fun j hj => iP (j5.1 hj).2
  have hgl : (aC l l.2.2[i] d date).length = l.2.2[i].2.2.1.length := iQ _ _ _ _
  have hfs : l.2.2[i].2.2.1.length ≤ 14 := hss.1.2.1
  have hgp2 := nz (l := l) (s := l.2.2[i]) (d := d) (date := date) (fun e he => (hval.1.2 e he).1) hvs.1
  have hgm := oB (d := d) (date := date) hL hss
  have hcell : ∀ t : Nat, (t : Int) < (pr (aC l l.2.2[i] d date) (aC l l.2.2[i] d date).length) → Vd (aC l l.2.2[i] d date) (sq (aC l l.2.2[i] d date) t) ∧ kM l.1 l.2.2[i].2.2.1 (eM l.2.2[i].2.2.1 (aC l l.2.2[i] d date) t) := fun t ht => ⟨(oK hgp2 t ht).1, lL (fun e he => (hval.1.2 e he).1) hvs.1 (oK hgp2 t ht).1⟩
  have hN1 : (0 : Int) < (pr (aC l l.2.2[i] d date) (aC l l.2.2[i] d date).length) := rQ hgp2 (Nat.le_refl _)
  have hN2 : (pr (aC l l.2.2[i] d date) (aC l l.2.2[i] d date).length) ≤ 4096 := Be hgp2 hcnt
  have hnl : (nI (ixS l.2.2[i] d date)).length = (ixS l.2.2[i] d date).length := cr _
  have hnl1 : ((l.2.2[i], l.2.1, date, ik (fD d date) l.2.2[i].2.2.2.2 l.2.2[i].2.2.2.2.length, (kX (fD d date) l.2.2[i].2.2.2.2 l.2.2[i].2.2.2.2.length), (uI (fD d date) l.2.2[i].2.2.2.2 l.2.2[i].2.2.2.2.length)) : wU).2.2.2.1.length = (ixS l.2.2[i] d date).length := cr _
  refine ah (aa (zR (zL e9 rfl rfl rfl (Lens.id _) (zM rfl (zM rfl (zM rfl (zJ (an (uN l i d date hi0 zo) (.cons (.b rfl) (.cons (.b rfl) (.cons (.b rfl) (.cons (.b rfl) .nil)))) rfl rfl) (zY rfl (aa (zR (zM rfl (zJ (cI (.b rfl)) (zB lA mU rfl (zD ek rfl (zN bd rfl (zO (dL fq ty4 z4 rfl by4 (.b rfl) (.b rfl) zo (by unfold maxLen; omega) rfl rfl rfl) (zY rfl (aa (zR (zM rfl (zN fw rfl (zO (dL bd ty3 z3 rfl by3 (.b rfl) (.b rfl) zo (by unfold maxLen; omega) rfl rfl rfl) ?_))))))))))))))))))))))
  refine wk 44 rfl (fun A0 cap0 => ?_)
  refine zY rfl (aa (ae (zR (zY rfl (aa (aq ?_))))))
  refine aZ (ι := Nat) (fun t => ⟨[(10, .tv (ab (ab (ak .i64))) (aC l l.2.2[i] d date)), (12, .eptr lh (l.2.2[i], l.2.1, date, nI (ixS l.2.2[i] d date), (kX (fD d date) l.2.2[i].2.2.2.2 l.2.2[i].2.2.2.2.length), (uI (fD d date) l.2.2[i].2.2.2.2 l.2.2[i].2.2.2.2.length))), (13, .own 41 bP.n 0 (nI (ixS l.2.2[i] d date)).length), (14, .both (.own 44 (ak .i64).n 0 (aC l l.2.2[i] d date).length) (.slice A0 (aC l l.2.2[i] d date).length cap0)), (15, .raw (.bool (decide ((t : Int) < (pr (aC l l.2.2[i] d date) (aC l l.2.2[i] d date).length)))))], [(41, ⟨bP, (SL l.2.2[i].2.2.2.2 (ixS l.2.2[i] d date) (kX (fD d date) l.2.2[i].2.2.2.2 l.2.2[i].2.2.2.2.length) (uI (fD d date) l.2.2[i].2.2.2.2 l.2.2[i].2.2.2.2.length) l.2.2[i].2.2.1 (aC l l.2.2[i] d date) t)⟩), (44, ⟨ak .i64, sq (aC l l.2.2[i] d date) t⟩)]⟩) (fun t => (t : Int) ≤ (pr (aC l l.2.2[i] d date) (aC l l.2.2[i] d date).length)) (fun t => ((pr (aC l l.2.2[i] d date) (aC l l.2.2[i] d date).length) - t).toNat) 0 zo (fun a w hi => (Sub.inv ⟨(by repeat (first | exact aQ | refine aM rfl (by first | rfl | (simp; done) | exact congrArg (fun b => SV.raw (.bool b)) (decide_eq_true hN1).symm | exact congrArg (fun b => SV.raw (.bool b)) (decide_eq_true hN1)) ?_)), (by repeat (first | exact bn | refine aL rfl (by first | rfl | (exact congrArg (HB.mk bP) (congrArg (fun n => List.replicate n false) hnl)) | (exact congrArg (HB.mk bP) (congrArg (fun n => List.replicate n false) hnl).symm) | (simp; done)) ?_))⟩ hi)) ?_
  rintro t ht
  have hsll := vt (rs := l.2.2[i].2.2.2.2) (ix := (ixS l.2.2[i] d date)) (par := (kX (fD d date) l.2.2[i].2.2.2.2 l.2.2[i].2.2.2.2.length)) (pri := (uI (fD d date) l.2.2[i].2.2.2.2 l.2.2[i].2.2.2.2.length)) (fs := l.2.2[i].2.2.1) (G := (aC l l.2.2[i] d date)) t
  refine ae (zR (zM rfl (zZ ?_)))
  refine af rfl (fun h8 => ?_) (fun h8 => ?_)
  · have h9 : (t : Int) < (pr (aC l l.2.2[i] d date) (aC l l.2.2[i] d date).length) := by simpa using h8
    have hcl := hcell t h9
    have hsl : (sq (aC l l.2.2[i] d date) t).length = (aC l l.2.2[i] d date).length := hcl.1.len
    have hgok : ∀ j ∈ (ixS l.2.2[i] d date), GOK (eH l l.2.2[i]) (eM l.2.2[i].2.2.1 (aC l l.2.2[i] d date) t) (grd l.2.2[i].2.2.2.2 j) := fun j hj => by
      have hjr := hix j hj
      refine ve (fun h0 => hfl _ ?_) ?_ ⟨hval.1.1, fun q hq => (hval.1.2 q hq).2⟩ hvs.1 hcl.2
      · unfold dP gsK
        rw [List.mem_filter, List.mem_map]
        exact ⟨⟨j, hj, rfl⟩, by simp; omega⟩
      rw [kJ hjr]; exact (hss.2.2.2 _ (List.getElem_mem hjr)).2.2.1
    have hinp : CtO prog 41 [.tv bx l.2.2[i], .tv (ab (ab (ak .i64))) (aC l l.2.2[i] d date), .tv (ab (ak .i64)) (((sq (aC l l.2.2[i] d date) t).drop 0).take (aC l l.2.2[i] d date).length)] aS (eM l.2.2[i].2.2.1 (aC l l.2.2[i] d date) t) := by
      rw [List.drop_zero, List.take_of_length_le zo]
      exact A5 l.2.2[i] (aC l l.2.2[i] d date) (sq (aC l l.2.2[i] d date) t) hgl zo (fun k hk hk2 => by
        have q := hcl.1.rng k hk2
        rw [lG hk, gp hk2] at q
        exact q) zo
    have hadv : 0 < (aC l l.2.2[i] d date).length → CtT prog 39 (ak .i64) (sq (aC l l.2.2[i] d date) t) (fun ys => ys = sq (aC l l.2.2[i] d date) (t + 1)) [.tv (ab (ab (ak .i64))) (aC l l.2.2[i] d date)] (.raw (.bool (decide (((t + 1 : Nat) : Int) < (pr (aC l l.2.2[i] d date) (aC l l.2.2[i] d date).length))))) := by
      intro _
      have q := CD (sq (aC l l.2.2[i] d date) t) (aC l l.2.2[i] d date) hsl (fun x hx => by
        obtain ⟨k, hk, rfl⟩ := List.getElem_of_mem hx
        have hk2 : k < (aC l l.2.2[i] d date).length := by omega
        have q := hcl.1.rng k hk2
        rw [lG hk, gp hk2] at q
        have := hgm _ (List.getElem_mem hk2)
        omega) zo
      rw [hsl, vD hgp2 h9] at q
      exact q
    have hadv0 : (aC l l.2.2[i] d date).length = 0 → Ct prog 39 [.tv (ab (ak .i64)) [], .tv (ab (ab (ak .i64))) (aC l l.2.2[i] d date)] (.raw (.bool (decide (((t + 1 : Nat) : Int) < (pr (aC l l.2.2[i] d date) (aC l l.2.2[i] d date).length))))) ∧ sq (aC l l.2.2[i] d date) t = sq (aC l l.2.2[i] d date) (t + 1) := fun hz => by
      have hsq : sq (aC l l.2.2[i] d date) (t + 1) = sq (aC l l.2.2[i] d date) t := by show (fA (aC l l.2.2[i] d date) (sq (aC l l.2.2[i] d date) t) (aC l l.2.2[i] d date).length).1 = _; rw [hz]; rfl
      have hG : (aC l l.2.2[i] d date) = [] := List.length_eq_zero_iff.1 hz
      have hp1 : (pr (aC l l.2.2[i] d date) (aC l l.2.2[i] d date).length) = 1 := by rw [hz]; rfl
      refine ⟨?_, hsq.symm⟩
      rw [decide_eq_false zo, hG]
      exact Ba
    refine ah (aa (ae (aq (zR (zM rfl (zM rfl (zJ (cI (.b rfl)) (zB qr pp rfl (zD dx rfl (zM rfl (zJ (ag (.b1 rfl)) (zO (rc (xs := [.tmp 53, .tmp 54, .tmp 55]) hinp (fun _ _ _ _ _ h => ke (ip _) (ke (ip _) (ip _)) h) _ (fun a w hi => j4 (nm := 44) (i := 55) rfl rfl zo (bl 44 _) (bC 44 _) hi) (.cons (.b rfl) (.cons (.b rfl) (.cons (.b rfl) .nil))) rfl rfl rfl rfl) ?_))))))))))))
    refine pq (rt := aS) 56 56 (b8 56 _) rfl rfl (by simp) (bl 56 _) (bC 56 _) ?_
    rw [List.drop_zero, List.take_length]
    refine zJ (an (yC l.2.2[i] l.2.1 date (kX (fD d date) l.2.2[i].2.2.2.2 l.2.2[i].2.2.2.2.length) (uI (fD d date) l.2.2[i].2.2.2.2 l.2.2[i].2.2.2.2.length) (eM l.2.2[i].2.2.1 (aC l l.2.2[i] d date) t) (eH l l.2.2[i]) (ixS l.2.2[i] d date) hix hgok zo) (.cons (.b rfl) (.cons (.b rfl) .nil)) rfl rfl) (zY rfl (aa (zR (zM rfl (zJ (bW (.b rfl) (.b rfl)) (zZ ?_))))))
    refine af rfl (fun h11 => ?_) (fun h11 => ?_)
    · have h11 : 0 ≤ (eW l.2.2[i].2.2.2.2 (ixS l.2.2[i] d date) (kX (fD d date) l.2.2[i].2.2.2.2 l.2.2[i].2.2.2.2.length) (uI (fD d date) l.2.2[i].2.2.2.2 l.2.2[i].2.2.2.2.length) l.2.2[i].2.2.1 (aC l l.2.2[i] d date) t) := of_decide_eq_true h11
      have hsel := pc (s := l.2.2[i]) (d := d) (date := date) (x := (eM l.2.2[i].2.2.1 (aC l l.2.2[i] d date) t)) h11
      have hlt : (eW l.2.2[i].2.2.2.2 (ixS l.2.2[i] d date) (kX (fD d date) l.2.2[i].2.2.2.2 l.2.2[i].2.2.2.2.length) (uI (fD d date) l.2.2[i].2.2.2.2 l.2.2[i].2.2.2.2.length) l.2.2[i].2.2.1 (aC l l.2.2[i] d date) t).toNat < (nI (ixS l.2.2[i] d date)).length := by rw [hnl]; have hsel : (eW l.2.2[i].2.2.2.2 (ixS l.2.2[i] d date) (kX (fD d date) l.2.2[i].2.2.2.2 l.2.2[i].2.2.2.2.length) (uI (fD d date) l.2.2[i].2.2.2.2 l.2.2[i].2.2.2.2.length) l.2.2[i].2.2.1 (aC l l.2.2[i] d date) t) < ((ixS l.2.2[i] d date).length : Int) := hsel; omega
      have hs : SL l.2.2[i].2.2.2.2 (ixS l.2.2[i] d date) (kX (fD d date) l.2.2[i].2.2.2.2 l.2.2[i].2.2.2.2.length) (uI (fD d date) l.2.2[i].2.2.2.2 l.2.2[i].2.2.2.2.length) l.2.2[i].2.2.1 (aC l l.2.2[i] d date) (t + 1) = (SL l.2.2[i].2.2.2.2 (ixS l.2.2[i] d date) (kX (fD d date) l.2.2[i].2.2.2.2 l.2.2[i].2.2.2.2.length) (uI (fD d date) l.2.2[i].2.2.2.2 l.2.2[i].2.2.2.2.length) l.2.2[i].2.2.1 (aC l l.2.2[i] d date) t).set (eW l.2.2[i].2.2.2.2 (ixS l.2.2[i] d date) (kX (fD d date) l.2.2[i].2.2.2.2 l.2.2[i].2.2.2.2.length) (uI (fD d date) l.2.2[i].2.2.2.2 l.2.2[i].2.2.2.2.length) l.2.2[i].2.2.1 (aC l l.2.2[i] d date) t).toNat true := by rw [SL, if_pos h11]
      refine ac (zM rfl (zM rfl (zJ (bu fq ty4 (.b rfl) (.b rfl) (show (eW l.2.2[i].2.2.2.2 (ixS l.2.2[i] d date) (kX (fD d date) l.2.2[i].2.2.2.2 l.2.2[i].2.2.2.2.length) (uI (fD d date) l.2.2[i].2.2.2.2 l.2.2[i].2.2.2.2.length) l.2.2[i].2.2.1 (aC l l.2.2[i] d date) t) = (((eW l.2.2[i].2.2.2.2 (ixS l.2.2[i] d date) (kX (fD d date) l.2.2[i].2.2.2.2 l.2.2[i].2.2.2.2.length) (uI (fD d date) l.2.2[i].2.2.2.2 l.2.2[i].2.2.2.2.length) l.2.2[i].2.2.1 (aC l l.2.2[i] d date) t).toNat : Nat) : Int) by omega) zh) ?_)))
      refine eN _ rfl (bK ty4 (.b rfl) rfl zg (Lens.id _) (.raw (.b rfl) rfl)) ?_
      refine aN (aG (aa (ac (zM rfl (zM rfl ?_)))))
      refine gO [41] [10, 12, 13, 14] hadv hadv0 (.b rfl) rfl zo (.cons (.b rfl) .nil) rfl rfl rfl (.free rfl rfl (.free rfl rfl (.free rfl rfl (.both rfl .nil)))) ?_
      intro ys hys
      subst hys
      refine zY rfl ?_
      exact aD (fun a w hi => ⟨t + 1, zo, zo, zW hi⟩)
    have h11 : ¬ 0 ≤ (eW l.2.2[i].2.2.2.2 (ixS l.2.2[i] d date) (kX (fD d date) l.2.2[i].2.2.2.2 l.2.2[i].2.2.2.2.length) (uI (fD d date) l.2.2[i].2.2.2.2 l.2.2[i].2.2.2.2.length) l.2.2[i].2.2.1 (aC l l.2.2[i] d date) t) := of_decide_eq_false h11
    have hs : SL l.2.2[i].2.2.2.2 (ixS l.2.2[i] d date) (kX (fD d date) l.2.2[i].2.2.2.2 l.2.2[i].2.2.2.2.length) (uI (fD d date) l.2.2[i].2.2.2.2 l.2.2[i].2.2.2.2.length) l.2.2[i].2.2.1 (aC l l.2.2[i] d date) (t + 1) = (SL l.2.2[i].2.2.2.2 (ixS l.2.2[i] d date) (kX (fD d date) l.2.2[i].2.2.2.2 l.2.2[i].2.2.2.2.length) (uI (fD d date) l.2.2[i].2.2.2.2 l.2.2[i].2.2.2.2.length) l.2.2[i].2.2.1 (aC l l.2.2[i] d date) t) := by rw [SL, if_neg h11]
    refine ah (aG (aa (ac (zM rfl (zM rfl ?_)))))
    refine gO [41] [10, 12, 13, 14] hadv hadv0 (.b rfl) rfl zo (.cons (.b rfl) .nil) rfl rfl rfl (.free rfl rfl (.free rfl rfl (.free rfl rfl (.both rfl .nil)))) ?_
    intro ys hys
    subst hys
    refine zY rfl ?_
    exact aD (fun a w hi => ⟨t + 1, zo, zo, zW hi⟩)
  have h9 : ¬ (t : Int) < (pr (aC l l.2.2[i] d date) (aC l l.2.2[i] d date).length) := by simpa using h8
  have hte : t = (pr (aC l l.2.2[i] d date) (aC l l.2.2[i] d date).length).toNat := by omega
  subst hte
  refine bg (be (aY (bf (aa (ae (ac (zY rfl (aa (ae (zR (zM rfl (zJ (cI (.b rfl)) (zB lA mU rfl (zD ek rfl (zN bd rfl (zM rfl (zZ (aq ?_))))))))))))))))))
  refine eO 70 17 (ak .i64) rfl rfl rfl ?_
  refine aZ (ι := Nat) (fun k => ⟨[(13, .own 41 bP.n 0 (nI (ixS l.2.2[i] d date)).length), (17, .own 70 (ak .i64).n 0 (jF (ixS l.2.2[i] d date) (SL l.2.2[i].2.2.2.2 (ixS l.2.2[i] d date) (kX (fD d date) l.2.2[i].2.2.2.2 l.2.2[i].2.2.2.2.length) (uI (fD d date) l.2.2[i].2.2.2.2 l.2.2[i].2.2.2.2.length) l.2.2[i].2.2.1 (aC l l.2.2[i] d date) (pr (aC l l.2.2[i] d date) (aC l l.2.2[i] d date).length).toNat) k).length), (66, .tv (ab (ak .i64)) (nI (ixS l.2.2[i] d date))), (67, .raw (.int .i64 ((nI (ixS l.2.2[i] d date)).length))), (68, .raw (.int .i64 ((k : Nat))))], [(41, ⟨bP, (SL l.2.2[i].2.2.2.2 (ixS l.2.2[i] d date) (kX (fD d date) l.2.2[i].2.2.2.2 l.2.2[i].2.2.2.2.length) (uI (fD d date) l.2.2[i].2.2.2.2 l.2.2[i].2.2.2.2.length) l.2.2[i].2.2.1 (aC l l.2.2[i] d date) (pr (aC l l.2.2[i] d date) (aC l l.2.2[i] d date).length).toNat)⟩), (70, ⟨ak .i64, (jF (ixS l.2.2[i] d date) (SL l.2.2[i].2.2.2.2 (ixS l.2.2[i] d date) (kX (fD d date) l.2.2[i].2.2.2.2 l.2.2[i].2.2.2.2.length) (uI (fD d date) l.2.2[i].2.2.2.2 l.2.2[i].2.2.2.2.length) l.2.2[i].2.2.1 (aC l l.2.2[i] d date) (pr (aC l l.2.2[i] d date) (aC l l.2.2[i] d date).length).toNat) k)⟩)]⟩) (fun k => k ≤ (ixS l.2.2[i] d date).length) (fun k => (ixS l.2.2[i] d date).length - k) 0 (Nat.zero_le _) (fun a w hi => (zI hi)) ?_
  rintro k hk
  have hdl := xU (ixS l.2.2[i] d date) (SL l.2.2[i].2.2.2.2 (ixS l.2.2[i] d date) (kX (fD d date) l.2.2[i].2.2.2.2 l.2.2[i].2.2.2.2.length) (uI (fD d date) l.2.2[i].2.2.2.2 l.2.2[i].2.2.2.2.length) l.2.2[i].2.2.1 (aC l l.2.2[i] d date) (pr (aC l l.2.2[i] d date) (aC l l.2.2[i] d date).length).toNat) k
  refine zR (zt rfl rfl (zZ (ae ?_)))
  refine af rfl (fun h15 => ?_) (fun h15 => ?_)
  · have h15 : k < (ixS l.2.2[i] d date).length := by simpa [cr] using h15
    have hks : k < (SL l.2.2[i].2.2.2.2 (ixS l.2.2[i] d date) (kX (fD d date) l.2.2[i].2.2.2.2 l.2.2[i].2.2.2.2.length) (uI (fD d date) l.2.2[i].2.2.2.2 l.2.2[i].2.2.2.2.length) l.2.2[i].2.2.1 (aC l l.2.2[i] d date) (pr (aC l l.2.2[i] d date) (aC l l.2.2[i] d date).length).toNat).length := by omega
    have hgk := List.getElem?_eq_getElem hks
    have hgi := jc (l := nI (ixS l.2.2[i] d date)) (k := k) zo
    refine ah (aa (ae (aq (zR (zM rfl ?_)))))
    refine bc _ rfl _ rfl rfl (al bd ty3 (.b rfl) (.b rfl) rfl zg) ?_
    refine zD ty3 rfl (zA rfl (zA rfl (zQ [13,17,18,19,66,67,68] [41,70] (aa (zR ?_)))))
    refine zM rfl (zM rfl (zJ (bu fq ty4 (.b rfl) (.b rfl) rfl zh) ?_))
    refine bc _ rfl _ rfl rfl (aj ty4 (.b rfl) rfl zg (Lens.id _)) ?_
    refine zJ (b6 (.b rfl)) (zZ ?_)
    refine af rfl (fun h17 => ?_) (fun h17 => ?_)
    · have h17 : (SL l.2.2[i].2.2.2.2 (ixS l.2.2[i] d date) (kX (fD d date) l.2.2[i].2.2.2.2 l.2.2[i].2.2.2.2.length) (uI (fD d date) l.2.2[i].2.2.2.2 l.2.2[i].2.2.2.2.length) l.2.2[i].2.2.1 (aC l l.2.2[i] d date) (pr (aC l l.2.2[i] d date) (aC l l.2.2[i] d date).length).toNat)[k] = false := by simpa using h17
      rw [h17] at hgk
      have hs := CB (ix := (ixS l.2.2[i] d date)) hgk
      rw [hgi] at hs
      refine ac (zM rfl (zM rfl (zJ (bq (rt := (ak .i64)) bd ty3 z3 rfl (.cons (.raw (.b rfl) rfl) .nil) rfl rfl) (zV [13,66,67,68] bd ty3 z3 by3 rfl rfl (.tv (.b rfl)) ?_))))
      refine zY rfl (aG (aa (ac (zU rfl rfl zw (zM rfl (aN ?_))))))
      exact aD (fun a w hi => ⟨k + 1, zj, zo, zW hi⟩)
    have h17 : (SL l.2.2[i].2.2.2.2 (ixS l.2.2[i] d date) (kX (fD d date) l.2.2[i].2.2.2.2 l.2.2[i].2.2.2.2.length) (uI (fD d date) l.2.2[i].2.2.2.2 l.2.2[i].2.2.2.2.length) l.2.2[i].2.2.1 (aC l l.2.2[i] d date) (pr (aC l l.2.2[i] d date) (aC l l.2.2[i] d date).length).toNat)[k] = true := by simpa using h17
    rw [h17] at hgk
    have hs := CC (ix := (ixS l.2.2[i] d date)) hgk
    refine ah (aG (aa (ac (zU rfl rfl zw (zM rfl (aN ?_))))))
    exact aD (fun a w hi => ⟨k + 1, zj, zo, zW hi⟩)
  have h15 : k = (ixS l.2.2[i] d date).length := by simp [cr] at h15; omega
  subst h15
  refine bg (be (aY (bf (aa (ae ?_)))))
  refine kH (rt := ak .i64) 70 17 (b8 70 _) rfl rfl (by simp) (bl 70 _) (bC 70 _) ?_
  rw [List.drop_zero, List.take_length]
  refine ac (zM rfl (zA rfl (zY rfl (aa (am ?_)))))
  exact z2 results9 rfl rfl (by rw [if_neg (by simp), kQ hi0])
end Go.Proofs.YtehcaebnijlhgaaGreatDoor
namespace Go.Proofs.YtehcaebnijlhgaaGreatDoor
open Go.Eng Tryz
set_option maxRecDepth 100000
set_option maxHeartbeats 4000000
open C15 C23
theorem qk (l : cA) (scope d date : Int) (hL : SmL l) (hN : o3 l) : Ct prog 8 [.tv cz l, .raw (.int .i64 scope), .raw (.int .i64 d), .raw (.int .i64 date)] (.tup2 (.tv (ab bk) (if (dh l scope d date).2 ≠ 0 then [] else dU l (sc l scope) d date)) (.raw (.int .i64 (dh l scope d date).2))) := by
  exact xw l scope d date hL hN
theorem CA (l : cA) (scope d date : Int) (hL : SmL l) (hN : o3 l) : Ct prog 9 [.tv cz l, .raw (.int .i64 scope), .raw (.int .i64 d), .raw (.int .i64 date)] (.tup2 (.tv (ab (ak .i64)) (if (dh l scope d date).2 ≠ 0 then [] else qv l (sc l scope) d date)) (.raw (.int .i64 (dh l scope d date).2))) := by
  exact A7 l scope d date hL hN
theorem sm1 : SmL (gD R1) := by
  refine ⟨⟨by decide, by decide, by decide⟩, fun e he => (by cases he), ⟨fun t ht => (by cases ht), by decide⟩, fun s hs => ?_, by decide⟩
  obtain rfl : s = fT R1 := by simpa [gD] using hs
  refine ⟨by decide, fun f hf => ?_, fun f hf => ?_, fun r hr => ?_⟩
  · obtain rfl : f = ([97], 3, 0) := by simpa [fT] using hf
    unfold SmF; decide
  · obtain rfl : f = ([100], 3, 0) := by simpa [fT] using hf
    unfold SmF; decide
  obtain rfl : r = s7 [(7, 0)] := by simpa [fT, R1] using hr
  unfold SmR; decide
theorem sm2 : SmL (gD []) := by
  refine ⟨⟨by decide, by decide, by decide⟩, fun e he => (by cases he), ⟨fun t ht => (by cases ht), by decide⟩, fun s hs => ?_, by decide⟩
  obtain rfl : s = fT [] := by simpa [gD] using hs
  refine ⟨by decide, fun f hf => ?_, fun f hf => ?_, fun r hr => (by cases hr)⟩
  · obtain rfl : f = ([97], 3, 0) := by simpa [fT] using hf
    unfold SmF; decide
  obtain rfl : f = ([100], 3, 0) := by simpa [fT] using hf
  unfold SmF; decide
theorem nm1 : o3 (gD R1) := by
  refine ⟨fun t ht => (by cases ht), fun s hs => ?_⟩
  obtain rfl : s = fT R1 := by simpa [gD] using hs
  intro r hr
  obtain rfl : r = s7 [(7, 0)] := by simpa [fT, R1] using hr
  refine ⟨fun q hq => (by cases hq), fun q hq => ?_⟩
  obtain rfl : q = (7, 0) := by simpa [s7] using hq
  decide
theorem nm2 : o3 (gD []) := by
  refine ⟨fun t ht => (by cases ht), fun s hs => ?_⟩
  obtain rfl : s = fT [] := by simpa [gD] using hs
  intro r hr
  cases hr
theorem fh1 : Ct prog 8 [.tv cz (gD R1), .raw (.int .i64 0), .raw (.int .i64 0), .raw (.int .i64 0)] (.tup2 (.tv (ab bk) []) (.raw (.int .i64 0))) := by
  have q := qk (gD R1) 0 0 0 sm1 nm1
  rw [grid1] at q
  rw [if_neg (by decide), show dU (gD R1) (sc (gD R1) 0) 0 0 = hlO R1 from rfl, hl1] at q
  exact q
theorem fh2 : Ct prog 8 [.tv cz (gD []), .raw (.int .i64 0), .raw (.int .i64 0), .raw (.int .i64 0)] (.tup2 (.tv (ab bk) [(-1, -1, -1, [(3, 0, 0)])]) (.raw (.int .i64 0))) := by
  have q := qk (gD []) 0 0 0 sm2 nm2
  rw [grid2] at q
  rw [if_neg (by decide), show dU (gD []) (sc (gD []) 0) 0 0 = hlO [] from rfl, hl2] at q
  exact q
theorem iS  : Ct prog 6 [] (.raw (.bool true)) := by
  refine ay func6 rfl rfl ntmps6 rfl rfl ?_
  intro w0 ok0
  refine zR (zY rfl (aa (zR (zJ (an Aw .nil rfl rfl) (zJ (an fh1 (.cons (.b rfl) (.cons (.b rfl) (.cons (.b rfl) (.cons (.b rfl) .nil)))) rfl rfl) (zM rfl (zJ (bj (.b rfl)) (zJ (bi (.b rfl)) (zA rfl (zY rfl (aa (zR ?_))))))))))))
  refine rg xr (by decide) .nil rfl rfl rfl rfl (fun A cap => ?_)
  refine zl o6 (zO (bK (rt := jY) k8 (.b rfl) rfl rfl (Lens.id _) (.tv (.l1 rfl))) (zZ (zR (zF cN rfl (zJ (aj (rt := jY) tyH24 (.b rfl) rfl rfl p6) ?_)))))
  refine Ae 11 13 rfl rfl ?_
  refine zJ (bu fx dx (.b rfl) (.b rfl) (show (0 : Int) = ((0 : Nat) : Int) from rfl) zh) (zF dw rfl (zO (bK (rt := bx) (xs := [s6 [(7, 0)]]) jh (.b rfl) rfl rfl dT (.lit (.b rfl) (fun _ _ => kz))) (zZ (ae ?_))))
  refine nr (rt := bx) 11 11 (b8 11 _) rfl rfl (by simp) (bl 11 _) (bC 11 _) ?_
  refine ns 11 3 cz (gD []) (df _ (df _ kl)) rfl rfl rfl ?_
  refine ac (zJ (aj (rt := cz) e9 (.b rfl) rfl rfl (Lens.id _)) (zJ (an fh2 (.cons (.b rfl) (.cons (.b rfl) (.cons (.b rfl) (.cons (.b rfl) .nil)))) rfl rfl) (zM rfl (zJ (bj (.b rfl)) (zJ (bi (.b rfl)) (zA rfl (zY rfl (aa (zR (zM rfl (ze rfl rfl (zM rfl (zG rfl rfl (fun hg => ag (.b rfl)) (zG rfl rfl (fun hg => cJ mi (.gd rfl hg)) (zG rfl rfl (fun hg => ca (.gd rfl hg) (.b rfl)) (zJ (aF (.b rfl) (.b rfl) rfl zp) (zM rfl (zG rfl rfl (fun hg => ag (.b rfl)) (zG rfl rfl (fun hg => ca (.gd rfl hg) (.b rfl)) (zJ (aF (.b rfl) (.b rfl) rfl zp) (zM rfl (zG rfl rfl (fun hg => ag (.b rfl)) (zG rfl rfl (fun hg => cJ mi (.gd rfl hg)) (zG rfl rfl (fun hg => ca (.gd rfl hg) (.b rfl)) (zJ (aF (.b rfl) (.b rfl) rfl zp) (zM rfl (zG rfl rfl (fun hg => ag (.b rfl)) (zG rfl rfl (fun hg => al mi mj (.gd rfl hg) (.b rfl) rfl (getD_some (z := ((0, (0, (0, []))) : cm)) (by first | omega | (simp; done) | (simp; omega) | (simp at hg; omega) | (simp at hg; simp; omega)))) (zG rfl rfl (fun hg => aO jC lq (.gd rfl hg)) (zG rfl rfl (fun hg => aA ty3 (.gd rfl hg)) (zG rfl rfl (fun hg => ca (.gd rfl hg) (.b rfl)) (zJ (aF (.b rfl) (.b rfl) rfl zp) (zY rfl (aa (am ?_)))))))))))))))))))))))))))))))))))
  exact z1 results6 rfl (rb (by simp))
end Go.Proofs.YtehcaebnijlhgaaGreatDoor
namespace Go.Proofs.YtehcaebnijlhgaaGreatDoor
open Go.Eng Tryz
set_option maxRecDepth 100000
set_option maxHeartbeats 4000000
open C15 C23
theorem AJ {l : cA} {scope d date : Int} (h : (dh l scope d date).2 ≠ 0) : (dh l scope d date).1 = [] := by
  unfold dh at h ⊢
  (repeat' split) <;> first | rfl | (exfalso; simp_all)
theorem xG {l : cA} {scope d date : Int} (hL : SmL l) : ∀ x ∈ (dh l scope d date).1, x.length ≤ 100000 := fun x hx => by
  by_cases h : (dh l scope d date).2 = 0
  · obtain ⟨_, i, hi0, _, _, _, _, _, hg⟩ := pv h
    rw [hg] at hx
    exact oB hL (hL.2.2.2.1 _ (List.getElem_mem hi0)) x hx
  rw [AJ h] at hx; cases hx
theorem yw (l : cA) (c : gz) (hw : WL l) : Ct prog 5 [.tv cz l, .tv ej c] (.raw (.bool (dB (SmL l) && dB (SmC c)))) := by
  refine ay func5 rfl rfl ntmps5 rfl rfl ?_
  intro w0 ok0
  refine zR (zb (.tv (.b rfl)) (zb (.tv (.b rfl)) (zY rfl (aa (zR (zL e9 rfl rfl rfl (Lens.id _) (zJ (an (w4 _ hw) (.cons (.b rfl) .nil) rfl rfl) (zM rfl (zG rfl rfl (fun hg => aj s3 (.b rfl) rfl rfl (Lens.id _)) (zG rfl rfl (fun hg => an (smC_ok _) (.cons (.gd rfl hg) .nil) rfl rfl) (zJ (aF (.b rfl) (.b rfl) rfl zp) (zY rfl (aa (am ?_))))))))))))))
  exact z1 results5 rfl (rb (by first | rfl | (simp; done) | (cases dB (SmL l) <;> simp)))
theorem xd (l : cA) (scope : Int) (c : gz) (d : Int) (hw : WL l) (hN : o3 l) : Ct prog 3 [.tv cz l, .raw (.int .i64 scope), .tv ej c, .raw (.int .i64 d)] (.raw (.bool true)) := by
  refine ay func3 rfl rfl ntmps3 rfl rfl ?_
  intro w0 ok0
  refine zR (zb (.tv (.b rfl)) (zb (.tv (.b rfl)) (zY rfl (aa (ae (zR (zL e9 rfl rfl rfl (Lens.id _) (zL s3 rfl rfl rfl (Lens.id _) (zJ (an (yw l c hw) (.cons (.b rfl) (.cons (.b rfl) .nil)) rfl rfl) (zJ (b6 (.b rfl)) (zZ ?_)))))))))))
  refine af rfl (fun h1 => ?_) (fun h1 => ?_)
  · skip
    refine zR (zJ (an iS .nil rfl rfl) (zY rfl (aa (am (ai ?_)))))
    exact z1 results3 rfl rfl
  have h1 : SmL l ∧ SmC c := by
    have h1 : dB (SmL l) = true ∧ dB (SmC c) = true := by simpa using h1
    exact ⟨qw.1 h1.1, qw.1 h1.2⟩
  obtain ⟨hL, hC⟩ := h1
  have hgm := xG (scope := scope) (d := d) (date := c.1) hL
  have hcl : c.2.2.length ≤ 1000000 := Nat.le_trans hC.1.2 (by decide)
  refine ah (aa (zR (zL e9 rfl rfl rfl (Lens.id _) (zM rfl (zM rfl (zF iJ rfl (zL ty3 rfl rfl rfl jN (zJ (an (sj l _ _ _ hL hN) (.cons (.b rfl) (.cons (.b rfl) (.cons (.b rfl) (.cons (.b rfl) .nil)))) rfl rfl) (zM rfl (zJ (bj (.b rfl)) (zJ (bi (.b rfl)) (zA rfl (zY rfl (aa (zR (zY rfl (aa (ae (zR (zY rfl (aa (aq ?_))))))))))))))))))))))
  refine eE 9 rfl (fun hl9 => ?_)
  refine aZ (ι := Nat × Int) (fun (k, p) => ⟨[(1, .raw (.int .i64 (scope))), (3, .raw (.int .i64 (d))), (4, .optr 4 cz.n 0 0), (6, .optr 6 ej.n 0 0), (9, .tv (ab (ab (ak .i64))) (dh l scope d c.1).1), (11, .raw (.int .i64 (p))), (12, .raw (.int .i64 ((k : Nat))))], [(4, ⟨cz, [l]⟩), (6, ⟨ej, [c]⟩)]⟩) (fun (k, p) => k ≤ (dh l scope d c.1).1.length ∧ 0 ≤ p ∧ p ≤ 60000000) (fun (k, p) => (dh l scope d c.1).1.length - k) (0, 1) (by simp) (fun a w hi => (zI hi)) ?_
  rintro ⟨k, p⟩ ⟨hk, hp0, hp1⟩
  refine ae (zR (zM rfl (zM rfl (zN fw rfl (zt rfl rfl (zM rfl (zG rfl rfl (fun hg => ag (.b rfl)) (zG rfl rfl (fun hg => ew (.gd rfl hg) (.b rfl)) (zJ (aF (.b rfl) (.b rfl) rfl zp) (zZ ?_))))))))))
  refine af rfl (fun h6 => ?_) (fun h6 => ?_)
  · have h6 : k < (dh l scope d c.1).1.length ∧ p ≤ 600 := by simpa using h6
    obtain ⟨h6, h6b⟩ := h6
    have hml := hgm _ (List.getElem_mem h6)
    have hmul : 0 ≤ p * ((dh l scope d c.1).1[k].length : Int) ∧ p * ((dh l scope d c.1).1[k].length : Int) ≤ 60000000 := ⟨Int.mul_nonneg hp0 zo, by
      have := Int.mul_le_mul h6b (show ((dh l scope d c.1).1[k].length : Int) ≤ 100000 by omega) zo zo
      omega⟩
    refine ah (aa (ae (aq (ac (zM rfl (zM rfl (zM rfl ?_)))))))
    refine bc _ rfl _ rfl rfl (al fw ek (.b rfl) (.b rfl) rfl zg) ?_
    refine zD ek rfl (zN bd rfl (zJ (uK (.b rfl) (.b rfl) (w64 (by have h1 := hmul.1; have h2 := hmul.2; omega))) (zY rfl (aG (aa (ac (zM rfl (zU rfl rfl zw (zY rfl ?_)))))))))
    exact aD (fun a w hi => ⟨(k + 1, p * ((dh l scope d c.1).1[k].length : Int)), (by simp only []; omega), (⟨by omega, hmul⟩), zI hi⟩)
  skip
  refine bg (be (aY (bf (aa (ae (ae (ac (zM rfl (zJ (bY (.b rfl) (.b rfl)) (zZ ?_))))))))))
  refine af rfl (fun h9 => ?_) (fun h9 => ?_)
  · skip
    refine zR (zJ (an iS .nil rfl rfl) (zY rfl (aa (am (ai ?_)))))
    exact z1 results3 rfl rfl
  skip
  refine ah (aa (zR (zL e9 rfl rfl rfl (Lens.id _) (zM rfl (zM rfl (zF iJ rfl (zL ty3 rfl rfl rfl jN (zJ (an (qk l _ _ _ hL hN) (.cons (.b rfl) (.cons (.b rfl) (.cons (.b rfl) (.cons (.b rfl) .nil)))) rfl rfl) (zM rfl (zJ (bj (.b rfl)) (zJ (bi (.b rfl)) (zA rfl (zY rfl (aa (zR (zL e9 rfl rfl rfl (Lens.id _) (zM rfl (zM rfl (zF iJ rfl (zL ty3 rfl rfl rfl jN (zJ (an (CA l _ _ _ hL hN) (.cons (.b rfl) (.cons (.b rfl) (.cons (.b rfl) (.cons (.b rfl) .nil)))) rfl rfl) (zM rfl (zJ (bj (.b rfl)) (zJ (bi (.b rfl)) (zA rfl (zY rfl (aa (ae (zR (zM rfl (zJ (bQ (.b rfl) (.b rfl)) (zM rfl (zG rfl rfl (fun hg => ag (.b rfl)) (zG rfl rfl (fun hg => bQ (.gd rfl hg) (.b rfl)) ?_))))))))))))))))))))))))))))))))))
  refine zJ (aB (.b rfl) (.b rfl) rfl zp) (zZ ?_)
  refine af rfl (fun h13 => ?_) (fun h13 => ?_)
  · have h13 : (dh l scope d c.1).2 ≠ 0 := by simpa using h13
    rw [if_pos h13, if_pos h13]
    refine zR (zM rfl (zM rfl (ze rfl rfl (zM rfl (zG rfl rfl (fun hg => ag (.b rfl)) (zG rfl rfl (fun hg => cJ mi (.gd rfl hg)) (zG rfl rfl (fun hg => ca (.gd rfl hg) (.b rfl)) (zJ (aF (.b rfl) (.b rfl) rfl zp) (zM rfl (zG rfl rfl (fun hg => ag (.b rfl)) (zG rfl rfl (fun hg => cJ bd (.gd rfl hg)) (zG rfl rfl (fun hg => ca (.gd rfl hg) (.b rfl)) (zJ (aF (.b rfl) (.b rfl) rfl zp) (zM rfl (zG rfl rfl (fun hg => an iS .nil rfl rfl) (zJ (aF (.b rfl) (.b rfl) rfl zp) (zY rfl (aa (am (ai ?_))))))))))))))))))))
    exact z1 results3 rfl (rb (by simp))
  have h13 : (dh l scope d c.1).2 = 0 := by simpa using h13
  rw [if_neg (by simpa using h13), if_neg (by simpa using h13)]
  obtain ⟨hvl, i, hi0, rfl, hd, hdt, hfl, hcnt, hgr⟩ := pv h13
  rw [kQ hi0]
  have hval := rF hvl
  have hvs := hval.2 _ (List.getElem_mem hi0)
  have hmm : ∀ e ∈ l.1, 1 ≤ e.2.length := fun e he => (hval.1.2 e he).1
  have hflat : ∀ i', (hi : i' < l.2.2.length) → (i : Int) = (i' : Int) → (jV l).1 = 0 → ∀ e ∈ dP l.2.2[i'] d c.1, dO e (eH l l.2.2[i']) = true := fun i' hi e _ => by
    obtain rfl : i = i' := by omega
    exact hfl
  refine ah (aa (ae (zR (zA rfl (zQ [1,3,4,6,13,15,17] [4,6] (aa (aq ?_)))))))
  refine eE 13 rfl (fun hl13 => ?_)
  refine eE 15 rfl (fun hl15 => ?_)
  refine aZ (ι := Nat) (fun k => ⟨[(1, .raw (.int .i64 ((i : Nat)))), (3, .raw (.int .i64 (d))), (4, .optr 4 cz.n 0 0), (6, .optr 6 ej.n 0 0), (13, .tv (ab bk) (dU l l.2.2[i] d c.1)), (15, .tv (ab (ak .i64)) (qv l l.2.2[i] d c.1)), (17, .raw (.int .i64 ((k : Nat))))], [(4, ⟨cz, [l]⟩), (6, ⟨ej, [c]⟩)]⟩) (fun k => k ≤ (dU l l.2.2[i] d c.1).length) (fun k => (dU l l.2.2[i] d c.1).length - k) 0 (Nat.zero_le _) (fun a w hi => (zI hi)) ?_
  rintro k hk
  refine ae (zR (zM rfl (zM rfl (zN mi rfl (zt rfl rfl (zZ ?_))))))
  refine af rfl (fun h16 => ?_) (fun h16 => ?_)
  · have h16 : k < (dU l l.2.2[i] d c.1).length := by simpa using h16
    obtain ⟨hwv, hw0, hwo⟩ := xt (l := l) (s := l.2.2[i]) (d := d) (date := c.1) hmm hvs.1 (List.getElem_mem h16)
    have hsel : Ct prog 10 [.tv cz l, .raw (.int .i64 (i : Nat)), .tv ej (c.1, (dU l l.2.2[i] d c.1)[k].2.2.2, []), .raw (.int .i64 d)] (.tup2 (.raw (.int .i64 (dU l l.2.2[i] d c.1)[k].1)) (.tv bv (0, 0, 0, 0))) := by
      have q := pL l (i : Int) (c.1, (dU l l.2.2[i] d c.1)[k].2.2.2, []) d hL hN (by simp) hflat
      have hck := ckA_ok (c := (c.1, (dU l l.2.2[i] d c.1)[k].2.2.2, [])) hvl hi0 hd (yf hdt hwv)
      have hsf : n5 l (i : Int) (c.1, (dU l l.2.2[i] d c.1)[k].2.2.2, []) d = ((dU l l.2.2[i] d c.1)[k].1, 0, 0, 0, 0) := by
        unfold n5
        rw [hck, if_neg (by decide), kQ hi0]
        show (jm l.2.2[i] d c.1 (dU l l.2.2[i] d c.1)[k].2.2.2, _) = _
        rw [hwo]
      rw [hsf] at q
      exact q
    refine ah (aa (ae (aq (ae ?_))))
    refine bZ mo zk ( zE [6] (ao iJ (.b rfl)) ( zE [6] (aj ty3 (.b rfl) rfl rfl jN) ( zE [] (ag (.b rfl)) ( zE [] (ag (.b rfl)) ( zE [] (al mi mj (.b rfl) (.b rfl) rfl zg) ( zE [] (aO so uY (.b rfl)) ( zE [] (aA jk (.b rfl)) ( zE [] (aI z30 rfl pl30 (.cons (rt' := (ak .i64)) rfl jN (.raw (.b rfl) rfl) (.cons (rt' := (ab aS)) rfl rZ (.tv (.b rfl)) .nil))) ( AE.cons _ _ _ rfl (d9 _ z30 rfl) ( AE.cons _ _ _ rfl (bF s3 (.b rfl) rfl rfl (Lens.id _) (.tv (.b rfl))) ( AE.nil))))))))))) zk ?_
    refine aa (zR (zL e9 rfl rfl rfl (Lens.id _) (zM rfl (zL s3 rfl rfl rfl (Lens.id _) (zM rfl (zJ (an hsel (.cons (.b rfl) (.cons (.b rfl) (.cons (.b rfl) (.cons (.b rfl) .nil)))) rfl rfl) (zM rfl (zJ (bj (.b rfl)) (zJ (bi (.b rfl)) (zl z46 (zA rfl (zC gc rfl rfl rfl (Lens.id _) (.tv (.b rfl)) (zZ (zR (zL gc rfl rfl rfl (Lens.id _) (zJ (aI z46 rfl qJ .nil) (zJ (mO eq46 rfl rfl eg46 (.tv (.b rfl)) (.tv (.b rfl))) (zM rfl (zG rfl rfl (fun hg => ag (.b rfl)) (zG rfl rfl (fun hg => ag (.b rfl)) (zG rfl rfl (fun hg => ag (.b rfl)) (zG rfl rfl (fun hg => al mi mj (.gd rfl hg) (.gd rfl hg) rfl (getD_some (z := ((0, (0, (0, []))) : cm)) (by first | omega | (simp; done) | (simp; omega) | (simp at hg; omega) | (simp at hg; simp; omega)))) (zG rfl rfl (fun hg => aO jC lq (.gd rfl hg)) (zG rfl rfl (fun hg => aA ty3 (.gd rfl hg)) (zG rfl rfl (fun hg => bQ (.gd rfl hg) (.gd rfl hg)) (zJ (aB (.b rfl) (.b rfl) rfl zp) (zM rfl (zG rfl rfl (fun hg => ag (.b rfl)) (zG rfl rfl (fun hg => bW (.gd rfl hg) (.b rfl)) (zJ (aB (.b rfl) (.b rfl) rfl zp) (zZ ?_)))))))))))))))))))))))))))))))
    refine af rfl (fun h20 => ?_) (fun h20 => ?_)
    · exfalso; simp [List.getElem?_eq_getElem h16] at h20; omega
    skip
    refine ah (aG (aa (ac (zM rfl (zU rfl rfl zw (zY rfl ?_))))))
    exact aD (fun a w hi => ⟨k + 1, zj, zo, zI hi⟩)
  skip
  refine bg (be (aY (bf (aa (ae (ac (zL e9 rfl rfl rfl (Lens.id _) (zM rfl (zL s3 rfl rfl rfl (Lens.id _) (zM rfl (zJ (an (pL l _ c d hL hN hcl hflat) (.cons (.b rfl) (.cons (.b rfl) (.cons (.b rfl) (.cons (.b rfl) .nil)))) rfl rfl) (zM rfl (zJ (bj (.b rfl)) (zJ (bi (.b rfl)) (zl z46 (zA rfl (zC gc rfl rfl rfl (Lens.id _) (.tv (.b rfl)) (zZ (ae (zR (zF lY rfl (zL kp rfl rfl rfl kF (zJ (bQ (.b rfl) (.b rfl)) (zZ ?_))))))))))))))))))))))))
  refine af rfl (fun h23 => ?_) (fun h23 => ?_)
  · skip
    refine zR (zJ (an iS .nil rfl rfl) (zY rfl (aa (am (ai ?_)))))
    exact z1 results3 rfl rfl
  have h23 : (n5 l (i : Int) c d).2.1 = 0 := by simpa using h23
  have hck : (ckA l (i : Int) c true d).1 = 0 := by
    by_cases q : ((ckA l (i : Int) c true d).1 != 0) = true
    · have e : (n5 l (i : Int) c d).2.1 = (ckA l (i : Int) c true d).1 := by unfold n5; rw [if_pos q]
      rw [← e]; exact h23
    simpa using q
  have hso : (n5 l (i : Int) c d).1 = (jm l.2.2[i] d c.1 c.2.1) := by unfold n5; rw [if_neg (by rw [hck]; decide), kQ hi0]
  obtain ⟨_, i', hi', hii, _, hvc⟩ := De hck
  obtain rfl : i = i' := by omega
  have hvv := qQ hvc
  refine ah (aa (ae (zR (zY rfl (aa (aq ?_))))))
  refine aZ (ι := Nat) (fun k => ⟨[(13, .tv (ab bk) (dU l l.2.2[i] d c.1)), (15, .tv (ab (ak .i64)) (qv l l.2.2[i] d c.1)), (21, .raw (.int .i64 ((n5 l (i : Int) c d).1))), (23, .raw (.int .i64 ((k : Nat))))], []⟩) (fun k => k ≤ (qv l l.2.2[i] d c.1).length) (fun k => (qv l l.2.2[i] d c.1).length - k) 0 (Nat.zero_le _) (fun a w hi => (zI hi)) ?_
  rintro k hk
  refine ae (zR (zM rfl (zM rfl (zN bd rfl (zt rfl rfl (zZ ?_))))))
  refine af rfl (fun h26 => ?_) (fun h26 => ?_)
  · have h26 : k < (qv l l.2.2[i] d c.1).length := by simpa using h26
    have hdn := A6 (l := l) (s := l.2.2[i]) (d := d) (date := c.1) hval.1 hvs.1 hfl hvv (List.getElem_mem h26)
    refine ah (aa (ae (aq (zR (zM rfl (zM rfl ?_))))))
    refine bc _ rfl _ rfl rfl (al bd ty3 (.b rfl) (.b rfl) rfl zg) ?_
    refine zD ty3 rfl (zM rfl (ze rfl rfl (zZ ?_)))
    refine af rfl (fun h28 => ?_) (fun h28 => ?_)
    · exfalso; simp at h28; rw [hso] at h28; exact hdn h28
    skip
    refine ah (aG (aa (ac (zM rfl (zU rfl rfl zw (zY rfl ?_))))))
    exact aD (fun a w hi => ⟨k + 1, zj, zo, zI hi⟩)
  skip
  refine bg (be (aY (bf (aa (ae (ae (ac (zM rfl (zJ (bW (.b rfl) (.b rfl)) (zZ ?_))))))))))
  refine af rfl (fun h30 => ?_) (fun h30 => ?_)
  · skip
    refine zR (zJ (an iS .nil rfl rfl) (zY rfl (aa (am (ai ?_)))))
    exact z1 results3 rfl rfl
  have h30 : (jm l.2.2[i] d c.1 c.2.1) < 0 := by rw [← hso]; simpa using h30
  obtain ⟨hh, hh1, hh2⟩ := xu (l := l) (s := l.2.2[i]) (d := d) (date := c.1) hval.1 hvs.1 hfl hvv h30
  refine ah (aa (ae (zR (zY rfl (aa (aq ?_))))))
  refine aZ (ι := Nat) (fun k => ⟨[(13, .tv (ab bk) (dU l l.2.2[i] d c.1)), (21, .raw (.int .i64 ((n5 l (i : Int) c d).1))), (24, .raw (.int .i64 ((k : Nat))))], []⟩) (fun k => k ≤ (dU l l.2.2[i] d c.1).length ∧ ∀ x ∈ (dU l l.2.2[i] d c.1).take k, x.1 ≠ (jm l.2.2[i] d c.1 c.2.1)) (fun k => (dU l l.2.2[i] d c.1).length - k) 0 (⟨Nat.zero_le _, fun x hx => by simp at hx⟩) (fun a w hi => (zI hi)) ?_
  rintro k ⟨hk, hno⟩
  refine ae (zR (zM rfl (zM rfl (zN mi rfl (zt rfl rfl (zQ [13,21,24,167] [] (aa ?_)))))))
  refine af rfl (fun h33 => ?_) (fun h33 => ?_)
  · have h33 : k < (dU l l.2.2[i] d c.1).length := by simpa using h33
    refine ah (aa (ae (aq (zR (zM rfl (zM rfl ?_))))))
    refine bc _ rfl _ rfl rfl (al mi mj (.b rfl) (.b rfl) rfl zg) ?_
    refine zB jC lq rfl (zD ty3 rfl (zM rfl (ze rfl rfl (zZ ?_))))
    refine af rfl (fun h35 => ?_) (fun h35 => ?_)
    · skip
      refine zR (zJ (an iS .nil rfl rfl) (zY rfl (aa (am (av (ai (bL (av (ai ?_)))))))))
      exact z1 results3 rfl rfl
    have h35 : (dU l l.2.2[i] d c.1)[k].1 ≠ (jm l.2.2[i] d c.1 c.2.1) := by rw [← hso]; simpa using h35
    refine ah (aG (aa (ac (zM rfl (zU rfl rfl zw (zY rfl ?_))))))
    exact aD (fun a w hi => ⟨k + 1, zj, (⟨by omega, fi h33 hno h35⟩), zI hi⟩)
  exfalso; have h33 : (dU l l.2.2[i] d c.1).length ≤ k := by simpa using h33
  exact hno hh (by rw [List.take_of_length_le h33]; exact hh1) hh2
end Go.Proofs.YtehcaebnijlhgaaGreatDoor
namespace Go.Eng
open Go.WideShapes Go.RowKit
def OpensW {α : Type} (P : Program) (t : TypeId) (rt : RT α) (φ : α → Prop) : Prop :=
  ∀ {H : Type} {enc : TypeId × Value → H} {w : World} {base : Nat} {spare : Nat → Bool} {held : Bool} {fuel : Nat} {cs : List Value} {x : DataW H × List MemPlace},
    DataW.trod enc P w base spare held fuel t cs = some x → (∀ m ∈ DataW.weights P t x.1, m ≤ reachBytes) → ∃ d, rt.rep w (Old w) cs d ∧ φ d
theorem Opens.toW {α : Type} {P : Program} {t : TypeId} {rt : RT α} {φ : α → Prop} (h : Opens P t rt φ) : OpensW P t rt φ := fun hx _ => h hx
theorem k4 {H : Type} {P : Program} {e : TypeId} : ∀ {l : List (DataW H)} {y : DataW H} {m : Nat}, y ∈ l → m ∈ DataW.weights P e y → m ∈ DataW.weightsAll P e l
  | z :: l, y, m, hy, hm => by
    rw [DataW.weightsAll, List.mem_append]
    rcases List.mem_cons.1 hy with q | q
    · subst q; exact .inl hm
    exact .inr (k4 q hm)
theorem nP {α : Type} {P : Nat → α → Prop} : ∀ {n : Nat}, (∀ i, i < n → ∃ d, P i d) → ∃ xs : List α, xs.length = n ∧ ∀ i x, xs[i]? = some x → P i x
  | 0, _ => ⟨[], rfl, fun i x h => by simp at h⟩
  | n + 1, h => by
    obtain ⟨xs, h1, h2⟩ := nP (n := n) (fun i hi => h i (by omega))
    obtain ⟨d, hd⟩ := h n (by omega)
    refine ⟨xs ++ [d], by simp [h1], fun i x hx => ?_⟩
    rcases Nat.lt_or_ge i n with q | q
    · rw [List.getElem?_append_left (by omega)] at hx; exact h2 i x hx
    rw [List.getElem?_append_right (by omega)] at hx
    have hi : i = n := by
      rcases Nat.lt_or_ge n i with q2 | q2
      · rw [List.getElem?_eq_none (by simp; omega)] at hx; cases hx
      omega
    subst hi
    rw [h1, Nat.sub_self] at hx
    simp at hx; subst hx; exact hd
theorem cR {α : Type} {P : Program} {t e : TypeId} {rt : RT α} {φ : α → Prop} {b : Nat} (ht : P.underlying t = some (.slice e)) (hc : P.cellsOf e = rt.n) (hn : Nat.ble 1 rt.n = true) (hb : P.bytesOf e = b) (h : OpensW P e rt φ) :
    OpensW P t (ab rt) (fun xs => xs.length * b ≤ reachBytes ∧ ∀ x ∈ xs, φ x) := fun {H enc w base spare held fuel cs x} hx hw => by
  have hn : 0 < rt.n := Nat.le_of_ble_eq_true hn
  rcases DataW.trod_slice ht hx with ⟨rfl, _⟩ | ⟨a, len, cap, elems, rest, n, _, rfl, hx2, hb2, hl, hm, hlen, hel, _⟩
  · exact ⟨[], ⟨none, 0, rfl, Nat.le_refl _, by simp [maxLen], fun hne => absurd rfl hne⟩, by simp, by simp⟩
  subst hx2
  have hw2 : (elems.length + rest.length) * b ≤ reachBytes ∧ ∀ y ∈ elems, ∀ m ∈ DataW.weights P e y.1, m ≤ reachBytes := by
    simp only [DataW.weights, ht] at hw
    refine ⟨by have := hw ((elems.length + rest.length) * b) (by simp [hb]); exact this, fun y hy m hm => hw m ?_⟩
    simp only [List.mem_cons, List.mem_append]
    exact .inr (.inl (k4 (List.mem_map_of_mem hy) hm))
  have each : ∀ i, i < len → ∃ d, (∃ cs', w.cells? base (a.add (i * rt.n)) rt.n = some cs' ∧ rt.rep w (Old w) cs' d) ∧ φ d := by
    intro i hi
    have h1 := hel i hi
    rw [hc] at h1
    cases h2 : w.cells? base (a.add (i * rt.n)) rt.n with
    | none => rw [h2] at h1; have : i < elems.length := by omega
              rw [List.getElem?_eq_getElem this] at h1; cases h1
    | some cs' =>
      rw [h2, Option.bind_some, List.getElem?_eq_getElem (show i < elems.length by omega)] at h1
      obtain ⟨d, h3, h4⟩ := h h1 (hw2.2 _ (List.getElem_mem _))
      exact ⟨d, ⟨cs', rfl, h3⟩, h4⟩
  obtain ⟨xs, h1, h2⟩ := nP each
  refine ⟨xs, ⟨some a, cap, by rw [h1], by omega, hm, fun hne => ?_⟩, by rw [h1, ← hlen]; exact Nat.le_trans (Nat.mul_le_mul_right _ (by omega)) hw2.1, fun x hx => ?_⟩
  · have hpos : 0 < len := by rw [← h1]; exact List.length_pos_iff.2 hne
    have hsp : a.spot = none ∧ a.block < w.heap.size := by
      obtain ⟨d, ⟨cs', h3, _⟩, _⟩ := each 0 hpos
      obtain ⟨_, h5, h6⟩ := World.cells?_some h3
      have h7 := h6 0 hn
      rw [List.getElem?_eq_getElem (by omega)] at h7
      have h8 := World.cell?_spot h7
      refine ⟨by simpa [Addr.add] using h8, ?_⟩
      have := World.cells?_block h3 hn
      simpa [Addr.add] using this
    obtain ⟨bb, o, sp⟩ := a
    obtain ⟨hs1, hs2⟩ := hsp
    simp only at hs1 hs2
    subst hs1
    refine ⟨bb, o, rfl, hs2, fun i x hx => ?_⟩
    obtain ⟨⟨cs', h3, h4⟩, _⟩ := h2 i x hx
    refine ⟨cs', h4, fun j v hj => ?_⟩
    obtain ⟨_, h5, h6⟩ := World.cells?_some h3
    have hjl : j < rt.n := by rw [← h5]; exact (List.getElem?_eq_some_iff.1 hj).1
    have := h6 j hjl
    rw [hj] at this
    rw [← this]
    congr 1
    simp only [Addr.add]
    split <;> split <;> simp_all
  obtain ⟨i, hi⟩ := List.getElem?_of_mem hx
  exact (h2 i x hi).2
def pA {α : Type} (P : Program) (fs : List Field) (off : Nat) (rt : RT α) (φ : α → Prop) : Prop :=
  ∀ {H : Type} {enc : TypeId × Value → H} {w : World} {base : Nat} {spare : Nat → Bool} {held : Bool} {fuel : Nat} {cs : List Value} {xs : List (DataW H × List MemPlace)},
    xs.length = fs.length → (∀ (i : Nat) (f : Field), fs[i]? = some f → DataW.trod enc P w base spare held fuel f.type ((cs.drop f.offset).take (P.cellsOf f.type)) = xs[i]?) →
    (∀ m ∈ DataW.weightsEach P (fs.map (·.type)) (xs.map (·.1)), m ≤ reachBytes) → ∃ d, rt.rep w (Old w) ((cs.drop off).take rt.n) d ∧ φ d
theorem ck {α : Type} {P : Program} {f : Field} {off : Nat} {rt : RT α} {φ : α → Prop} (ho : f.offset = off) (hc : P.cellsOf f.type = rt.n) (h : OpensW P f.type rt φ) : pA P [f] off rt φ := fun {H enc w base spare held fuel cs xs} hl hx hw => by
  match xs, hl with
  | [y], _ =>
    have := hx 0 f rfl
    rw [ho, hc] at this
    exact h this (fun m hm => hw m (by simp only [List.map_cons, DataW.weightsEach, List.mem_append]; exact .inl hm))
theorem bt {α γ : Type} {P : Program} {f : Field} {fs : List Field} {off off' : Nat} {a : RT α} {b : RT γ} {φ : α → Prop} {ψ : γ → Prop} (ho : f.offset = off) (hc : P.cellsOf f.type = a.n) (h : OpensW P f.type a φ) (hr : pA P fs off' b ψ) (he : off' = off + a.n) : pA P (f :: fs) off (bO a b) (fun d => φ d.1 ∧ ψ d.2) := fun {H enc w base spare held fuel cs xs} hl hx hw => by
  match xs, hl with
  | y :: ys, hl =>
    have h0 := hx 0 f rfl
    rw [ho, hc] at h0
    simp only [List.map_cons, DataW.weightsEach, List.mem_append] at hw
    obtain ⟨d1, h1, h2⟩ := h h0 (fun m hm => hw m (.inl hm))
    obtain ⟨d2, h3, h4⟩ := hr (xs := ys) (cs := cs) (by simpa using hl) (fun i f' hf => by simpa using hx (i + 1) f' (by simpa using hf)) (fun m hm => hw m (.inr hm))
    refine ⟨(d1, d2), ⟨_, _, ?_, h1, h3⟩, h2, h4⟩
    subst he
    show (cs.drop off).take (a.n + b.n) = _
    rw [List.take_add, List.drop_drop]
theorem cd {α : Type} {P : Program} {t : TypeId} {fs : List Field} {rt : RT α} {φ : α → Prop} (ht : P.underlying t = some (.struct fs.toArray)) (hc : P.cellsOf t = rt.n) (h : pA P fs 0 rt φ) : OpensW P t rt φ := fun hx hw => by
  obtain ⟨xs, n, _, hx2, hl, hlen, hf⟩ := DataW.trod_struct ht hx
  subst hx2
  simp only [DataW.weights, ht] at hw
  obtain ⟨d, h1, h2⟩ := h (xs := xs) (by simpa using hlen) (fun i f hf' => hf i f (by simpa using hf')) (by simpa using hw)
  refine ⟨d, ?_, h2⟩
  rw [List.drop_zero, List.take_of_length_le (by omega)] at h1
  exact h1
theorem OpensW.arg {α : Type} {P : Program} {t : TypeId} {rt : RT α} {φ : α → Prop} (h : OpensW P t rt φ) {H : Type} {enc : TypeId × Value → H} {w : World} {base : Nat} {spare : Nat → Bool} {held : Bool} {v : Value} {d : DataW H} {ps : List MemPlace}
    (hv : v = (if rt.agg then .agg v.cells else v.cells.toList.getD 0 undef)) (hd : DataW.Trod enc P w base spare held t v d ps) (hw : ∀ m ∈ DataW.weights P t d, m ≤ reachBytes) : ∃ x, rt.val w (Old w) v x ∧ φ x := by
  obtain ⟨fuel, hf⟩ := hd
  obtain ⟨x, h1, h2⟩ := h hf hw
  exact ⟨x, ⟨_, h1, by simpa using hv⟩, h2⟩
end Go.Eng
