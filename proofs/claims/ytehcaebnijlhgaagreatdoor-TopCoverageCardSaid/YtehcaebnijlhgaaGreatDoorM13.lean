import Derived.Test.YtehcaebnijlhgaaGreatDoorM3
import Derived.Test.YtehcaebnijlhgaaGreatDoorM12
import Derived.Test.YtehcaebnijlhgaaGreatDoorM9
import Derived.Test.YtehcaebnijlhgaaGreatDoorM7
import Derived.Test.YtehcaebnijlhgaaGreatDoorM11
import Derived.Test.YtehcaebnijlhgaaGreatDoorM4
set_option linter.unusedVariables false
set_option linter.unusedSimpArgs false
namespace Go.Proofs.YtehcaebnijlhgaaGreatDoor.C16
open Go.Eng Tryz
set_option maxRecDepth 100000
set_option maxHeartbeats 4000000
theorem hR_fam {hp : List (Nat × HB)} {xss : List (List Int)} {n nm nb : Nat} (R0 : List Nat) (h0 : (R0.all fun k => !Nat.beq k nm && !Nat.beq k nb && (az hp k).isSome) = true) (hT : Tl 1000 (eR (ak .i64) 1000 xss) hp) (hn : n ≤ xss.length) (h1 : Nat.blt nm 1000 = true) (h2 : Nat.blt nb 1000 = true) :
    ((R0 ++ (List.range n).map (fun (x : Nat) => x + 1000)).all fun k => !Nat.beq k nm && !Nat.beq k nb && (az hp k).isSome) = true := by
  have h1 := jT h1
  have h2 := jT h2
  rw [List.all_append, h0, Bool.true_and, List.all_eq_true]
  intro k hk
  obtain ⟨x, hx, rfl⟩ := List.mem_map.1 hk
  have hx := List.mem_range.1 hx
  have e1 : Nat.beq (x + 1000) nm = false := by
    cases e : Nat.beq (x + 1000) nm with
    | false => rfl
    | true => have := Nat.eq_of_beq_eq_true e; omega
  have e2 : Nat.beq (x + 1000) nb = false := by
    cases e : Nat.beq (x + 1000) nb with
    | false => rfl
    | true => have := Nat.eq_of_beq_eq_true e; omega
  rw [e1, e2, hT.look zo, sA, List.getElem?_eq_getElem zo]; rfl
theorem uA {nm sz off m n s : Nat} {ds : List (Option (Option Addr × Nat × Nat))} (R0 : List Nat) (h : R0.contains nm = true) (hd : ds.length ≤ n) : (SV.fam (.own nm sz off m) 1000 s ds).within (R0 ++ (List.range n).map (fun (x : Nat) => x + 1000)) = true := by
  simp only [SV.within, Bool.and_eq_true, List.all_eq_true]
  refine ⟨?_, fun x hx => ?_⟩
  · simp only [List.contains_iff_mem, List.mem_append] at h ⊢; exact .inl h
  have := List.mem_range.1 hx
  simp only [List.contains_iff_mem, List.mem_append, List.mem_map, List.mem_range]
  exact .inr ⟨x, by omega, rfl⟩
theorem sC (s : ba) (hL : Lim s) : Ct prog 127 [.tv bx s] (.tup2 (.tv (ab (ak .i64)) (mq (scN s) (iu s)).1) (.raw (.int .i64 (mq (scN s) (iu s)).2))) := by
  refine ay func127 rfl rfl ntmps127 rfl rfl ?_
  intro w0 ok0
  refine zR (zb (.tv (.b rfl)) (zA rfl (zY rfl (aa (zR (zL dx rfl rfl rfl (Lens.id _) (zJ (an (nV s hL) (.cons (.b rfl) .nil) rfl rfl) (zY rfl (aa (ae ?_))))))))))
  obtain ⟨n, hnn⟩ : ∃ n, n = scN s := ⟨_, rfl⟩
  obtain ⟨dd, hdd⟩ : ∃ dd, dd = iu s := ⟨_, rfl⟩
  have w : WFd n dd := by rw [hnn, hdd]; exact wS s
  have hn14 : n ≤ 14 := by rw [hnn]; exact hL.1
  rw [← hdd]
  have hdl := w.len
  have hdl14 : dd.length ≤ 14 := by omega
  refine ac (zM rfl (zN fw rfl (zO (dL (rt := rHd) fw gE zH37 rfl CO (.b rfl) (.b rfl) zo (by unfold maxLen; omega) rfl rfl rfl) (zY rfl ?_))))
  rw [hdl]
  refine wj 5 1000 n [4] [21] (ak .i64) rfl rfl (.cons rfl .nil) rfl (.cons rfl .nil) rfl ?_
  refine aa (zR (zM rfl (zN fw rfl ?_)))
  rw [hdl]
  refine zO (dL bd ty3 z3 rfl by3 (.b rfl) (.b rfl) zo (by unfold maxLen; omega) rfl rfl (py rfl)) (zY rfl ?_)
  refine cE (b := 1000) [4, 5, 6] [21, 24] (.cons rfl (.cons rfl (.cons rfl .nil))) (by repeat (first | exact .nil | refine .cons rfl ?_)) (.cons rfl (.cons rfl .nil)) ?_
  refine aa (zR (zO (gI (rt := ak .i64) (ds := []) jp ty3 z3 rfl .nil rfl rfl rfl rfl (py rfl)) ?_))
  refine ij 4 25 rfl rfl (fun A0 cap0 => ?_)
  refine zO (uM (rt := rHd) (z := (A0, 0, cap0)) (.raw (.b rfl) rfl) rfl rfl (py rfl)) ?_
  refine Cc 26 26 rfl (fun pb po => ?_)
  refine Ac 4 26 rfl rfl rfl ?_
  refine zY rfl ?_
  refine cE (b := 1000) [4, 5, 6, 7] [21, 24, 25, 26] (.cons rfl (.cons rfl (.cons rfl (.cons rfl .nil)))) (by repeat (first | exact .nil | refine .cons rfl ?_)) (.cons rfl (.cons rfl (.cons rfl (.cons rfl .nil)))) ?_
  refine aa (ae (zR (zM rfl (zN fw rfl (zM rfl ?_)))))
  rw [hdl]
  refine aN ?_
  refine cE (b := 1000) [4, 5, 6, 7, 27, 28, 29] [21, 24, 25, 26] (.cons rfl (.cons rfl (.cons rfl (.cons rfl (.cons rfl (.cons rfl (.cons rfl .nil))))))) (by repeat (first | exact .nil | refine .cons rfl ?_)) (.cons rfl (.cons rfl (.cons rfl (.cons rfl .nil)))) ?_
  refine aa (aq ?_)
  refine aZ (ι := (Nat × List (Option Addr × Nat × Nat) × List Int × List Int × Option Addr × Nat)) (fun (k, hs, W, H, A, cap) => ⟨[(4, .tv (ab (ab (ak .i64))) dd), (5, .fam (.own 21 1 0 n) 1000 1 (hs.map some)), (6, .own 24 (ak .i64).n 0 n), (7, (kO 26 25 1 pb po) A (H).length cap), (27, .tv (ab (ab (ak .i64))) dd), (28, .raw (.int .i64 ((n : Nat)))), (29, .raw (.int .i64 ((k : Nat))))], (21, ⟨rHd, hs⟩) :: (24, ⟨ak .i64, W⟩) :: (26, ⟨rHd, [(A, (H).length, cap)]⟩) :: (25, ⟨ak .i64, H⟩) :: eR (ak .i64) 1000 (rvK dd n k [])⟩) (fun (k, hs, W, H, A, cap) => k ≤ n ∧ HdOK hs (rvK dd n k []) ∧ K0 n dd k W H ∧ eh H.length H) (fun (k, hs, W, H, A, cap) => n - k) (0, List.replicate n (none, 0, 0), List.replicate n 0, [], A0, cap0) (⟨Nat.zero_le _, by rw [tg]; exact HdOK.zero _, K0.start n dd, fun k h0 h1 => by simp at h1⟩) (fun a w hi => (Sub.inv ⟨(by repeat (first | exact aQ | refine aM rfl (by first | rfl | (simp; done) | assumption | (refine congrArg (SV.fam (SV.own 21 1 0 n) 1000 1) ?_; rw [List.map_replicate]; done)) ?_)), (by repeat (first | refine aL rfl (by first | rfl | (simp; done) | assumption | (refine congrArg (HB.mk rHd) ?_; simp; done)) ?_ | exact cF (by repeat (first | exact .nil | refine .cons rfl ?_)) (by rw [tg])))⟩ hi)) ?_
  rintro ⟨k, hs, W, H, A, cap⟩ ⟨hk, hq0, hk0, hho⟩
  have hhl := hk0.hlen
  have hwl := hk0.len
  refine zR (zt rfl rfl (aN ?_))
  refine cE (b := 1000) [4, 5, 6, 7, 27, 28, 29, 30] [21, 24, 25, 26] (.cons rfl (.cons rfl (.cons rfl (.cons rfl (.cons rfl (.cons rfl (.cons rfl (.cons rfl .nil)))))))) (by repeat (first | exact .nil | refine .cons rfl ?_)) (.cons rfl (.cons rfl (.cons rfl (.cons rfl .nil)))) ?_
  refine aa (ae ?_)
  refine af rfl (fun h6 => ?_) (fun h6 => ?_)
  · have h6 : k < n := by simp at h6; omega
    have hrl := w.rlen (k : Int)
    refine ah (aa (ae (aq (zR (zM rfl (zX fw ek rfl rfl rfl (show dd[k]? = some (rw dd (k : Int)) by simp [rw, show k < dd.length by omega]) (zD ek rfl (zA rfl (zY rfl ?_)))))))))
    refine cE (b := 1000) [4, 5, 6, 7, 8, 9, 27, 28, 29] [21, 24, 25, 26] (.cons rfl (.cons rfl (.cons rfl (.cons rfl (.cons rfl (.cons rfl (.cons rfl (.cons rfl (.cons rfl .nil))))))))) (by repeat (first | exact .nil | refine .cons rfl ?_)) (.cons rfl (.cons rfl (.cons rfl (.cons rfl .nil)))) ?_
    refine aa (zR (zM rfl (zM rfl (zM rfl (zN bd rfl (zJ (bu bd ty3 (.b rfl) (.b rfl) rfl zh) ?_))))))
    refine eN _ rfl (bK ty3 (.b rfl) rfl zg (Lens.id _) (.raw (.b rfl) rfl)) ?_
    refine aN ?_
    refine cE (b := 1000) [4, 5, 6, 7, 8, 9, 27, 28, 29] [21, 24, 25, 26] (.cons rfl (.cons rfl (.cons rfl (.cons rfl (.cons rfl (.cons rfl (.cons rfl (.cons rfl (.cons rfl .nil))))))))) (by repeat (first | exact .nil | refine .cons rfl ?_)) (.cons rfl (.cons rfl (.cons rfl (.cons rfl .nil)))) ?_
    refine aa (ae (zR (zM rfl (zN bd rfl (zM rfl (aN ?_))))))
    refine cE (b := 1000) [4, 5, 6, 7, 8, 9, 27, 28, 29, 39, 40, 41] [21, 24, 25, 26] (.cons rfl (.cons rfl (.cons rfl (.cons rfl (.cons rfl (.cons rfl (.cons rfl (.cons rfl (.cons rfl (.cons rfl (.cons rfl (.cons rfl .nil)))))))))))) (by repeat (first | exact .nil | refine .cons rfl ?_)) (.cons rfl (.cons rfl (.cons rfl (.cons rfl .nil)))) ?_
    refine aa (aq ?_)
    refine aZ (ι := (Nat × List (Option Addr × Nat × Nat))) (fun (j, hs) => ⟨[(4, .tv (ab (ab (ak .i64))) dd), (5, .fam (.own 21 1 0 n) 1000 1 (hs.map some)), (6, .own 24 (ak .i64).n 0 n), (7, (kO 26 25 1 pb po) A (H).length cap), (8, .raw (.int .i64 ((k : Nat)))), (9, .tv (ab (ak .i64)) (rw dd (k : Int))), (27, .tv (ab (ab (ak .i64))) dd), (28, .raw (.int .i64 ((n : Nat)))), (29, .raw (.int .i64 ((k : Nat)))), (39, .tv (ab (ak .i64)) (rw dd (k : Int))), (40, .raw (.int .i64 ((rw dd (k : Int)).length))), (41, .raw (.int .i64 ((j : Nat))))], (21, ⟨rHd, hs⟩) :: (24, ⟨ak .i64, W.set (0 + k) (((rw dd (k : Int)).length : Nat) : Int)⟩) :: (26, ⟨rHd, [(A, (H).length, cap)]⟩) :: (25, ⟨ak .i64, H⟩) :: eR (ak .i64) 1000 (rvK dd n k ((rw dd (k : Int)).take j))⟩) (fun (j, hs) => j ≤ (rw dd (k : Int)).length ∧ HdOK hs (rvK dd n k ((rw dd (k : Int)).take j))) (fun (j, hs) => (rw dd (k : Int)).length - j) (0, hs) (⟨Nat.zero_le _, hq0⟩) (fun a w hi => (Sub.inv ⟨(by repeat (first | exact aQ | refine aM rfl (by first | rfl | (simp; done) | assumption | (refine congrArg (SV.fam (SV.own 21 1 0 n) 1000 1) ?_; rfl; done)) ?_)), (by repeat (first | refine aL rfl (by first | rfl | (simp; done) | assumption | (refine congrArg (HB.mk rHd) ?_; simp; done)) ?_ | exact cF (by repeat (first | exact .nil | refine .cons rfl ?_)) (rfl)))⟩ hi)) ?_
    rintro ⟨j, hs⟩ ⟨hj, hq⟩
    refine zR (zt rfl rfl (aN ?_))
    refine cE (b := 1000) [4, 5, 6, 7, 8, 9, 27, 28, 29, 39, 40, 41, 42] [21, 24, 25, 26] (.cons rfl (.cons rfl (.cons rfl (.cons rfl (.cons rfl (.cons rfl (.cons rfl (.cons rfl (.cons rfl (.cons rfl (.cons rfl (.cons rfl (.cons rfl .nil))))))))))))) (by repeat (first | exact .nil | refine .cons rfl ?_)) (.cons rfl (.cons rfl (.cons rfl (.cons rfl .nil)))) ?_
    refine aa (ae ?_)
    refine af rfl (fun h10 => ?_) (fun h10 => ?_)
    · have h10 : j < (rw dd (k : Int)).length := by simp at h10; omega
      refine ah (aa (ae (aq (zR ?_))))
      refine bc _ rfl _ rfl rfl (al bd ty3 (.b rfl) (.b rfl) rfl zg) ?_
      refine zD ty3 rfl (zA rfl ?_)
      obtain ⟨e, hee⟩ : ∃ e, e = (rw dd (k : Int))[j] := ⟨_, rfl⟩
      rw [← hee]
      obtain ⟨he0, hen⟩ := w.ent (k : Int) e (by rw [hee]; exact List.getElem_mem h10)
      have hec : e = ((e.toNat : Nat) : Int) := by omega
      have hen2 : e.toNat < n := by omega
      have hst : (rvK dd n k ((rw dd (k : Int)).take (j + 1))) = (rvK dd n k ((rw dd (k : Int)).take j)).set e.toNat (((rvK dd n k ((rw dd (k : Int)).take j)).getD e.toNat []) ++ [(k : Int)]) := by rw [List.take_succ_eq_append_getElem h10, ← hee, yG he0 hen (by rw [hee]; exact pZ (w.srt _) h10)]
      obtain ⟨A, cap, hget⟩ := hq.at (vF (dd := dd) (k := k) (l := (rw dd (k : Int)).take j) hen2)
      have hx1 : (hs.map some)[e.toNat]? = some (some (A, ((rvK dd n k ((rw dd (k : Int)).take j)).getD e.toNat []).length, cap)) := by rw [List.getElem?_map, hget]; rfl
      have hx2 := (vF (dd := dd) (k := k) (l := (rw dd (k : Int)).take j) hen2)
      have hxl : e.toNat < hs.length := (List.getElem?_eq_some_iff.1 hget).1
      have hx3 : ((hs.map some).set e.toNat none)[e.toNat]? = some none := by rw [List.getElem?_set_self (by simpa using hxl)]
      have hx4 : (((rvK dd n k ((rw dd (k : Int)).take j))).set e.toNat [])[e.toNat]? = some [] := by rw [List.getElem?_set_self (by rw [gV]; omega)]
      have hset : (((rvK dd n k ((rw dd (k : Int)).take j)).set e.toNat []).set e.toNat (((((rvK dd n k ((rw dd (k : Int)).take j)).getD e.toNat []).drop 0).take ((rvK dd n k ((rw dd (k : Int)).take j)).getD e.toNat []).length ++ [(k : Int)]).take (((rvK dd n k ((rw dd (k : Int)).take j)).getD e.toNat []).length + [(k : Int)].length))) = (rvK dd n k ((rw dd (k : Int)).take (j + 1))) := by rw [yq, List.set_set, hst]
      have hal := yH (dd := dd) (k := k) (l := (rw dd (k : Int)).take j) hen2
      refine aN ?_
      refine cE (b := 1000) [4, 5, 6, 7, 8, 9, 11, 27, 28, 29, 39, 40, 41] [21, 24, 25, 26] (.cons rfl (.cons rfl (.cons rfl (.cons rfl (.cons rfl (.cons rfl (.cons rfl (.cons rfl (.cons rfl (.cons rfl (.cons rfl (.cons rfl (.cons rfl .nil))))))))))))) (by repeat (first | exact .nil | refine .cons rfl ?_)) (.cons rfl (.cons rfl (.cons rfl (.cons rfl .nil)))) ?_
      refine aa (ac (zJ (ag (.f1 rfl)) (zM rfl (zJ (ag (.f1 rfl)) (zM rfl (zJ (bu fw gE (.b rfl) (.b rfl) hec hen2) (zJ (aj gE (.b rfl) rfl (by rw [Nat.zero_add]; exact hget) (Lens.id _)) (zM rfl (zJ (bq (rt := (ak .i64)) bd ty3 z3 rfl (.cons (.raw (.b rfl) rfl) .nil) rfl rfl) ?_)))))))))
      refine tM (rt := ak .i64) (xs := ((rvK dd n k ((rw dd (k : Int)).take j)).getD e.toNat [])) (m := ((rvK dd n k ((rw dd (k : Int)).take j)).getD e.toNat []).length) (A := A) (cap := cap) 5 50 60 e.toNat [4, 6, 7, 8, 9, 27, 28, 29, 39, 40, 41, 45, 46, 52] [21, 24, 26, 25] rfl rfl hx1 hx2 rfl rfl (.cons rfl (.cons rfl (.cons rfl (.cons rfl (.cons rfl (.cons rfl (.cons rfl (.cons rfl (.cons rfl (.cons rfl (.cons rfl (.cons rfl (.cons rfl (.cons rfl .nil)))))))))))))) rfl rfl rfl (by repeat (first | exact .nil | refine .cons rfl ?_)) (.cons rfl (.cons rfl (.cons rfl (.cons rfl .nil)))) rfl rfl ?_
      refine zO (dn [4, 5, 6, 7, 8, 9, 27, 28, 29, 39, 40, 41, 45, 46] bd ty3 z3 rfl by3 (.b rfl) rfl zo (.tv (.b rfl)) (by unfold maxLen; (try simp only [List.length_cons, List.length_nil]); omega) (by (try simp only [List.length_cons, List.length_nil]); omega) rfl (.cons rfl (.cons rfl (.cons rfl (.cons rfl (.cons rfl (.cons rfl (.cons rfl (.cons rfl (.cons rfl (.cons rfl (.cons rfl (.cons rfl (.cons rfl (.cons rfl .nil)))))))))))))) rfl) (zJ (bu fw gE (.b rfl) (.b rfl) hec hen2) ?_)
      refine tO (rt := ak .i64) 5 53 60 e.toNat [4, 6, 7, 8, 9, 27, 28, 29, 39, 40, 41, 54] [21, 24, 26, 25] rfl rfl hx3 hx4 rfl (by simp) rfl rfl (.cons rfl (.cons rfl (.cons rfl (.cons rfl (.cons rfl (.cons rfl (.cons rfl (.cons rfl (.cons rfl (.cons rfl (.cons rfl (.cons rfl .nil)))))))))))) rfl rfl rfl (by repeat (first | exact .nil | refine .cons rfl ?_)) (.cons rfl (.cons rfl (.cons rfl (.cons rfl .nil)))) rfl rfl (fun A2 cap2 => ?_)
      refine zO (bK (d := (A2, ((rvK dd n k ((rw dd (k : Int)).take j)).getD e.toNat []).length + [(k : Int)].length, cap2)) gE (.b rfl) rfl (by rw [Nat.zero_add]; exact hget) (Lens.id _) (.raw (.b rfl) rfl)) (aN ?_)
      refine cE (b := 1000) [4, 5, 6, 7, 8, 9, 27, 28, 29, 39, 40, 41] [21, 24, 25, 26] (.cons rfl (.cons rfl (.cons rfl (.cons rfl (.cons rfl (.cons rfl (.cons rfl (.cons rfl (.cons rfl (.cons rfl (.cons rfl (.cons rfl .nil)))))))))))) (by repeat (first | exact .nil | refine .cons rfl ?_)) (.cons rfl (.cons rfl (.cons rfl (.cons rfl .nil)))) ?_
      refine aG (aa (ac (zU rfl rfl zw (zM rfl (aN ?_)))))
      refine cE (b := 1000) [4, 5, 6, 7, 8, 9, 27, 28, 29, 39, 40, 41] [21, 24, 25, 26] (.cons rfl (.cons rfl (.cons rfl (.cons rfl (.cons rfl (.cons rfl (.cons rfl (.cons rfl (.cons rfl (.cons rfl (.cons rfl (.cons rfl .nil)))))))))))) (by repeat (first | exact .nil | refine .cons rfl ?_)) (.cons rfl (.cons rfl (.cons rfl (.cons rfl .nil)))) ?_
      exact aD (fun a w hi => ⟨(j + 1, hs.set e.toNat (A2, ((rvK dd n k ((rw dd (k : Int)).take j)).getD e.toNat []).length + [(k : Int)].length, cap2)), (by show (rw dd (k : Int)).length - (j + 1) < (rw dd (k : Int)).length - j; omega), ⟨by omega, by rw [hst]; exact hq.set (by rw [gV]; omega) (by simp)⟩, Sub.inv ⟨(by repeat (first | exact aQ | refine aM rfl (by first | rfl | (simp; done) | assumption | (refine congrArg (SV.fam (SV.own 21 1 0 n) 1000 1) ?_; simp [List.map_set]; done)) ?_)), (by repeat (first | refine aL rfl (by first | rfl | (simp; done) | assumption | (refine congrArg (HB.mk rHd) ?_; simp; done)) ?_ | exact cF (by repeat (first | exact .nil | refine .cons rfl ?_)) (hset)))⟩ hi⟩)
    have hjl : j = (rw dd (k : Int)).length := by simp at h10; omega
    have hqn : HdOK hs (rvK dd n (k + 1) []) := by rw [← tj]; rw [hjl, List.take_length] at hq; exact hq
    have hrvn : (rvK dd n k ((rw dd (k : Int)).take j)) = rvK dd n (k + 1) [] := by rw [hjl, List.take_length, tj]
    refine bg (be (aY (bf (aa (ae (ac (zM rfl (zN bd rfl (ze rfl rfl (aN ?_))))))))))
    refine cE (b := 1000) [4, 5, 6, 7, 8, 27, 28, 29, 58] [21, 24, 25, 26] (.cons rfl (.cons rfl (.cons rfl (.cons rfl (.cons rfl (.cons rfl (.cons rfl (.cons rfl (.cons rfl .nil))))))))) (by repeat (first | exact .nil | refine .cons rfl ?_)) (.cons rfl (.cons rfl (.cons rfl (.cons rfl .nil)))) ?_
    refine aa ?_
    refine af rfl (fun h14 => ?_) (fun h14 => ?_)
    · have h14 : (rw dd (k : Int)) = [] := by simp at h14; exact h14
      refine ac (zJ (ag (.l1 rfl)) (zJ (lk iV (.b2 rfl rfl)) (zM rfl (zJ (ll uT3 (.b rfl)) ?_))))
      refine ff (c0 := 7) (nb := 26) (nm := 25) (pb := pb) (po := po) (kO 26 25 1 pb po) ([21, 24] ++ (List.range n).map (fun (x : Nat) => x + 1000)) [4, 5, 6, 27, 28, 29] (jz H (k : Int) hho zo) rfl rfl rfl (fun _ _ _ => jy) (fun β a w hi => pt (jz H (k : Int) hho zo).ent (hi.raw (.b rfl))) rfl rfl rfl rfl (.cons (.b rfl) .nil) rfl rfl rfl (hR_fam [21, 24] rfl (by repeat (first | exact .nil | refine .cons rfl ?_)) (by rw [gV]; omega) rfl rfl) (.free rfl rfl (.free rfl (uA [21, 24] rfl (by have := hq.1; rw [gV] at this; simp; omega)) (.free rfl rfl (.free rfl rfl (.free rfl rfl (.free rfl rfl .nil)))))) ?_
      intro ys A2 cap2 hpq
      refine aN ?_
      refine cE (b := 1000) [4, 5, 6, 7, 27, 28, 29] [21, 24, 25, 26] (.cons rfl (.cons rfl (.cons rfl (.cons rfl (.cons rfl (.cons rfl (.cons rfl .nil))))))) (by repeat (first | exact .nil | refine .cons rfl ?_)) (.cons rfl (.cons rfl (.cons rfl (.cons rfl .nil)))) ?_
      refine aG (aa (ac (zU rfl rfl zw (zM rfl (aN ?_)))))
      refine cE (b := 1000) [4, 5, 6, 7, 27, 28, 29] [21, 24, 25, 26] (.cons rfl (.cons rfl (.cons rfl (.cons rfl (.cons rfl (.cons rfl (.cons rfl .nil))))))) (by repeat (first | exact .nil | refine .cons rfl ?_)) (.cons rfl (.cons rfl (.cons rfl (.cons rfl .nil)))) ?_
      first | exact aD (fun a w hi => ⟨(k + 1, hs, W.set (0 + k) (((rw dd (k : Int)).length : Nat) : Int), H, A, cap), (by show n - (k + 1) < n - k; omega), ⟨by omega, hqn, by rw [Nat.zero_add]; exact hk0.next h6 h14, hho⟩, Sub.inv ⟨(by repeat (first | exact aQ | refine aM rfl (by first | rfl | (simp; done) | assumption | (refine congrArg (SV.fam (SV.own 21 1 0 n) 1000 1) ?_; rfl; done)) ?_)), (by repeat (first | refine aL rfl (by first | rfl | (simp; done) | assumption | (refine congrArg (HB.mk rHd) ?_; simp; done)) ?_ | exact cF (by repeat (first | exact .nil | refine .cons rfl ?_)) (hrvn)))⟩ hi⟩) | exact aD (fun a w hi => ⟨(k + 1, hs, W.set (0 + k) (((rw dd (k : Int)).length : Nat) : Int), ys, A2, cap2), (by show n - (k + 1) < n - k; omega), ⟨by omega, hqn, by rw [Nat.zero_add]; exact hk0.push h6 h14 hpq.1, hpq.2⟩, Sub.inv ⟨(by repeat (first | exact aQ | refine aM rfl (by first | rfl | (simp; done) | assumption | (refine congrArg (SV.fam (SV.own 21 1 0 n) 1000 1) ?_; rfl; done)) ?_)), (by repeat (first | refine aL rfl (by first | rfl | (simp; done) | assumption | (refine congrArg (HB.mk rHd) ?_; simp; done)) ?_ | exact cF (by repeat (first | exact .nil | refine .cons rfl ?_)) (hrvn)))⟩ hi⟩)
    have h14 : (rw dd (k : Int)) ≠ [] := by simp at h14; exact h14
    refine ah (aG (aa (ac (zU rfl rfl zw (zM rfl (aN ?_))))))
    refine cE (b := 1000) [4, 5, 6, 7, 27, 28, 29] [21, 24, 25, 26] (.cons rfl (.cons rfl (.cons rfl (.cons rfl (.cons rfl (.cons rfl (.cons rfl .nil))))))) (by repeat (first | exact .nil | refine .cons rfl ?_)) (.cons rfl (.cons rfl (.cons rfl (.cons rfl .nil)))) ?_
    first | exact aD (fun a w hi => ⟨(k + 1, hs, W.set (0 + k) (((rw dd (k : Int)).length : Nat) : Int), H, A, cap), (by show n - (k + 1) < n - k; omega), ⟨by omega, hqn, by rw [Nat.zero_add]; exact hk0.next h6 h14, hho⟩, Sub.inv ⟨(by repeat (first | exact aQ | refine aM rfl (by first | rfl | (simp; done) | assumption | (refine congrArg (SV.fam (SV.own 21 1 0 n) 1000 1) ?_; rfl; done)) ?_)), (by repeat (first | refine aL rfl (by first | rfl | (simp; done) | assumption | (refine congrArg (HB.mk rHd) ?_; simp; done)) ?_ | exact cF (by repeat (first | exact .nil | refine .cons rfl ?_)) (hrvn)))⟩ hi⟩) | exact aD (fun a w hi => ⟨(k + 1, hs, W.set (0 + k) (((rw dd (k : Int)).length : Nat) : Int), ys, A2, cap2), (by show n - (k + 1) < n - k; omega), ⟨by omega, hqn, by rw [Nat.zero_add]; exact hk0.push h6 h14 hpq.1, hpq.2⟩, Sub.inv ⟨(by repeat (first | exact aQ | refine aM rfl (by first | rfl | (simp; done) | assumption | (refine congrArg (SV.fam (SV.own 21 1 0 n) 1000 1) ?_; rfl; done)) ?_)), (by repeat (first | refine aL rfl (by first | rfl | (simp; done) | assumption | (refine congrArg (HB.mk rHd) ?_; simp; done)) ?_ | exact cF (by repeat (first | exact .nil | refine .cons rfl ?_)) (hrvn)))⟩ hi⟩)
  have h6 : k = n := by simp at h6; omega
  refine bg (be (aY (bf (aa (ae ?_)))))
  subst h6
  refine wl (b := 1000) (rt := ak .i64) 5 21 [4, 6, 7] [24, 26, 25] rfl hq0.1 hq0.2 rfl rfl rfl (.cons rfl (.cons rfl (.cons rfl .nil))) rfl (by repeat (first | exact .nil | refine .cons rfl ?_)) (.cons rfl (.cons rfl (.cons rfl .nil))) rfl rfl ?_
  refine kH (rt := ab (ak .i64)) 21 5 (b8 21 _) rfl rfl (by rw [gV]; omega) (bl 21 _) (bC 21 _) ?_
  rw [List.drop_zero, List.take_of_length_le (by rw [gV]; omega), show rvK dd k k [] = rvs k dd from rfl]
  have hki := hk0.done
  have wr := rvs_wf (n := k) dd
  refine ac (zY rfl (aa (ae (aq ?_))))
  refine eO 70 12 (ak .i64) rfl rfl rfl ?_
  refine aZ (ι := (List Int × List Int × List Int × Option Addr × Nat)) (fun (out, W, H, A, cap) => ⟨[(4, .tv (ab (ab (ak .i64))) dd), (5, .tv (ab (ab (ak .i64))) (rvs k dd)), (6, .own 24 (ak .i64).n 0 k), (7, (kO 26 25 1 pb po) A (H).length cap), (12, .own 70 (ak .i64).n 0 out.length)], [(24, ⟨ak .i64, W⟩), (26, ⟨rHd, [(A, (H).length, cap)]⟩), (25, ⟨ak .i64, H⟩), (70, ⟨ak .i64, out⟩)]⟩) (fun (out, W, H, A, cap) => KI k dd out W H ∧ eh H.length H) (fun (out, W, H, A, cap) => k - out.length) ([], W, H, A, cap) (⟨hki, hho⟩) (fun a w hi => (zI hi)) ?_
  rintro ⟨out, W, H, A, cap⟩ ⟨hi0, hho⟩
  have hhl := hi0.hlen
  have hwl := hi0.len
  refine ae (zR (zJ (ag (.l1 rfl)) (zJ (ic (.b rfl) (.inr ⟨_, rfl⟩)) (zJ (aj fK (.b1 rfl) rfl rfl (Lens.id _)) ?_))))
  refine Ad 7 67 rfl jy rfl ?_
  refine zJ (tF (sf _ (by simp; omega)) (.own (.b rfl) rfl zo .nil) io) ?_
  rw [List.drop_zero, List.take_length]
  refine zJ (bY (.b rfl) (.b rfl)) (zZ ?_)
  refine af rfl (fun h18 => ?_) (fun h18 => ?_)
  · have h18 : 0 < H.length := by simp at h18; omega
    obtain ⟨d, hd⟩ : ∃ d, d = gt H 0 := ⟨_, rfl⟩
    have hdm : ∀ x ∈ H, d ≤ x := fun x hx => by rw [hd]; exact qK hho hx
    refine ah (aa (aq (zR (zJ (ag (.l1 rfl)) (zJ (lk iV (.b2 rfl rfl)) ?_)))))
    refine ff (c0 := 7) (nb := 26) (nm := 25) (pb := pb) (po := po) (kO 26 25 1 pb po) [24, 70] [4, 5, 6, 12] (ql H hho h18 zo) rfl rfl rfl (fun _ _ _ => jy) (fun β a w hi => pt (ql H hho h18 zo).ent (hi.raw (.b rfl))) rfl rfl rfl rfl .nil rfl rfl rfl rfl (.free rfl rfl (.free rfl rfl (.free rfl rfl (.free rfl rfl .nil)))) ?_
    intro ys A2 cap2 hpq
    rw [← hd] at hpq
    rw [← hd]
    have hj1 := hi0.pop w hpq.1 hdm
    have hds := (hi0.hp d).1 (hpq.1.mem_iff.2 (by simp))
    have hdc : d = ((d.toNat : Nat) : Int) := by omega
    have hdl2 : d.toNat < (rvs k dd).length := by rw [wr.len]; omega
    have hrl := wr.rlen d
    have hal : (out ++ [d]).length = out.length + 1 := by simp
    refine zJ (pX uT3 (.b rfl)) (zM rfl (zJ (bj (.b rfl)) (zJ (bi (.b rfl)) (zA rfl (zY rfl (aa (zR (zM rfl (zM rfl (zJ (bq (rt := (ak .i64)) bd ty3 z3 rfl (.cons (.raw (.b rfl) rfl) .nil) rfl rfl) (zV [4,5,6,7,13] bd ty3 z3 by3 rfl rfl (.tv (.b rfl)) ?_)))))))))))
    refine zY rfl (aa (zR (zM rfl (zM rfl ?_))))
    refine bc _ rfl _ rfl rfl (al fw ek (.b rfl) (.b rfl) hdc zg) ?_
    refine zD ek rfl (zN bd rfl (zM rfl ?_))
    rw [C3 hdl2]
    refine zZ (aq ?_)
    refine aZ (ι := (Nat × List Int × List Int × Option Addr × Nat)) (fun (j, W, H, A, cap) => ⟨[(4, .tv (ab (ab (ak .i64))) dd), (5, .tv (ab (ab (ak .i64))) (rvs k dd)), (6, .own 24 (ak .i64).n 0 k), (7, (kO 26 25 1 pb po) A (H).length cap), (12, .own 70 (ak .i64).n 0 (out ++ [d]).length), (84, .tv (ab (ak .i64)) (rw (rvs k dd) d)), (85, .raw (.int .i64 ((rw (rvs k dd) d).length))), (86, .raw (.int .i64 ((j : Nat))))], [(24, ⟨ak .i64, W⟩), (26, ⟨rHd, [(A, (H).length, cap)]⟩), (25, ⟨ak .i64, H⟩), (70, ⟨ak .i64, out ++ [d]⟩)]⟩) (fun (j, W, H, A, cap) => j ≤ (rw (rvs k dd) d).length ∧ KJ k dd (out ++ [d]) d W H ((rw (rvs k dd) d).take j) ∧ eh H.length H) (fun (j, W, H, A, cap) => (rw (rvs k dd) d).length - j) (0, W, ys, A2, cap2) (⟨Nat.zero_le _, hj1, hpq.2⟩) (fun a w hi => Sub.inv ⟨(by repeat (first | exact aQ | refine aM rfl (by first | rfl | (simp; done) | assumption | (refine congrArg (SV.own 70 (ak .i64).n 0) ?_; simp; done)) ?_)), (by repeat (first | exact bn | refine aL rfl (by first | rfl | (simp; done) | assumption | (refine congrArg (HB.mk (ak .i64)) ?_; rw [List.drop_zero, List.take_length]; done)) ?_))⟩ hi) ?_
    rintro ⟨j, W, H, A, cap⟩ ⟨hj, hj0, hho⟩
    have hhl2 := hj0.hlen
    have hwl2 := hj0.len
    refine zR (zt rfl rfl (zZ (ae ?_)))
    refine af rfl (fun h22 => ?_) (fun h22 => ?_)
    · have h22 : j < (rw (rvs k dd) d).length := by simp at h22; omega
      refine ah (aa (ae (aq (zR ?_))))
      refine bc _ rfl _ rfl rfl (al bd ty3 (.b rfl) (.b rfl) rfl zg) ?_
      refine zD ty3 rfl (zA rfl ?_)
      obtain ⟨u, huu⟩ : ∃ u, u = (rw (rvs k dd) d)[j] := ⟨_, rfl⟩
      rw [← huu]
      obtain ⟨hu0, hun, hud⟩ := (rN hds.1 hds.2.1).1 (show u ∈ (rw (rvs k dd) d) by rw [huu]; exact List.getElem_mem h22)
      have huc : u = ((u.toNat : Nat) : Int) := by omega
      have hul : u.toNat < W.length := by omega
      have hus : u ∉ (rw (rvs k dd) d).take j := by rw [huu]; exact pZ (wr.srt _) h22
      have htk : (rw (rvs k dd) d).take (j + 1) = (rw (rvs k dd) d).take j ++ [u] := by rw [List.take_succ_eq_append_getElem h22, ← huu]
      have hwu := hj0.wt u hu0 hun
      rw [if_pos ⟨hud, hus⟩] at hwu
      have hcu := CF (out ++ [d]) (rw dd u)
      have hru := w.rlen u
      refine zZ (zR (zM rfl (zM rfl (zJ (bu bd ty3 (.b rfl) (.b rfl) huc zh) (zJ (aj ty3 (.b rfl) rfl (yd hul) (Lens.id _)) (zJ (da (.b rfl) (.b rfl) zw) (zJ (bu bd ty3 (.b rfl) (.b rfl) huc zh) (zC ty3 rfl rfl (yd hul) (Lens.id _) (.raw (.b rfl) rfl) (zZ (zR (zM rfl (zM rfl (zJ (bu bd ty3 (.b rfl) (.b rfl) huc zh) ?_)))))))))))))
      refine bc _ rfl _ rfl rfl (aj ty3 (.b rfl) rfl (show (W.set (0 + u.toNat) (wv W u - 1))[0 + u.toNat]? = some (wv W u - 1) by rw [List.getElem?_set_self zo]) (Lens.id _)) ?_
      refine ze rfl rfl (zZ ?_)
      refine af rfl (fun h25 => ?_) (fun h25 => ?_)
      · have h25 : wv W u - 1 = 0 := by simpa using h25
        refine ac (zJ (ag (.l1 rfl)) (zJ (lk iV (.b2 rfl rfl)) (zM rfl (zJ (ll uT3 (.b rfl)) ?_))))
        refine ff (c0 := 7) (nb := 26) (nm := 25) (pb := pb) (po := po) (kO 26 25 1 pb po) [24, 70] [4, 5, 6, 12, 84, 85, 86] (jz H u hho zo) rfl rfl rfl (fun _ _ _ => jy) (fun β a w hi => pt (jz H u hho zo).ent (hi.raw (.b rfl))) rfl rfl rfl rfl (.cons (.b rfl) .nil) rfl rfl rfl rfl (.free rfl rfl (.free rfl rfl (.free rfl rfl (.free rfl rfl (.free rfl rfl (.free rfl rfl (.free rfl rfl .nil))))))) ?_
        intro ys A2 cap2 hpq
        refine aN (aG (aa (ac (zU rfl rfl zw (zM rfl (aN ?_))))))
        first | exact aD (fun a w hi => ⟨(j + 1, W.set u.toNat (wv W u - 1), H, A, cap), (by show (rw (rvs k dd) d).length - (j + 1) < (rw (rvs k dd) d).length - j; omega), ⟨by omega, by rw [htk]; exact hj0.step hu0 hun hud hus (by rw [if_neg h25]), hho⟩, Sub.inv ⟨(by repeat (first | exact aQ | refine aM rfl (by first | rfl | (simp; done) | assumption) ?_)), (by repeat (first | exact bn | refine aL rfl (by first | rfl | (simp; done) | assumption | (refine congrArg (HB.mk (ak .i64)) ?_; rw [Nat.zero_add]; done)) ?_))⟩ hi⟩) | exact aD (fun a w hi => ⟨(j + 1, W.set u.toNat (wv W u - 1), ys, A2, cap2), (by show (rw (rvs k dd) d).length - (j + 1) < (rw (rvs k dd) d).length - j; omega), ⟨by omega, by rw [htk]; exact hj0.step hu0 hun hud hus (by rw [if_pos h25]; exact hpq.1), hpq.2⟩, Sub.inv ⟨(by repeat (first | exact aQ | refine aM rfl (by first | rfl | (simp; done) | assumption) ?_)), (by repeat (first | exact bn | refine aL rfl (by first | rfl | (simp; done) | assumption | (refine congrArg (HB.mk (ak .i64)) ?_; rw [Nat.zero_add]; done)) ?_))⟩ hi⟩)
      have h25 : ¬ wv W u - 1 = 0 := by simpa using h25
      refine ah (aG (aa (ac (zU rfl rfl zw (zM rfl (aN ?_))))))
      first | exact aD (fun a w hi => ⟨(j + 1, W.set u.toNat (wv W u - 1), H, A, cap), (by show (rw (rvs k dd) d).length - (j + 1) < (rw (rvs k dd) d).length - j; omega), ⟨by omega, by rw [htk]; exact hj0.step hu0 hun hud hus (by rw [if_neg h25]), hho⟩, Sub.inv ⟨(by repeat (first | exact aQ | refine aM rfl (by first | rfl | (simp; done) | assumption) ?_)), (by repeat (first | exact bn | refine aL rfl (by first | rfl | (simp; done) | assumption | (refine congrArg (HB.mk (ak .i64)) ?_; rw [Nat.zero_add]; done)) ?_))⟩ hi⟩) | exact aD (fun a w hi => ⟨(j + 1, W.set u.toNat (wv W u - 1), ys, A2, cap2), (by show (rw (rvs k dd) d).length - (j + 1) < (rw (rvs k dd) d).length - j; omega), ⟨by omega, by rw [htk]; exact hj0.step hu0 hun hud hus (by rw [if_pos h25]; exact hpq.1), hpq.2⟩, Sub.inv ⟨(by repeat (first | exact aQ | refine aM rfl (by first | rfl | (simp; done) | assumption) ?_)), (by repeat (first | exact bn | refine aL rfl (by first | rfl | (simp; done) | assumption | (refine congrArg (HB.mk (ak .i64)) ?_; rw [Nat.zero_add]; done)) ?_))⟩ hi⟩)
    have h22 : j = (rw (rvs k dd) d).length := by simp at h22; omega
    have hjd : ∀ u : Int, 0 ≤ u → u < k → d ∈ rw dd u → u ∈ (rw (rvs k dd) d).take j := fun u a b c => by rw [h22, List.take_length]; exact (rN hds.1 hds.2.1).2 ⟨a, b, c⟩
    refine bg (be (aY (bf (aG ?_))))
    exact aD (fun a w hi => ⟨(out ++ [d], W, H, A, cap), (by show k - (out ++ [d]).length < k - out.length; omega), ⟨hj0.done hjd, hho⟩, zI hi⟩)
  have h18 : H = [] := by simpa using h18
  subst h18
  have hfin := hi0.fin
  refine bg (be (aY (bf (aa (ae (ae (ac (zM rfl (zJ (ci bd (.b rfl)) (zM rfl (zN fw rfl (zt rfl rfl ?_))))))))))))
  rw [hdl]
  refine zZ ?_
  refine af rfl (fun h28 => ?_) (fun h28 => ?_)
  · have h28 : out.length < k := by simp at h28; omega
    refine zR (zA rfl (zA rfl (zQ [2,3] [] (aa (am (ai ?_))))))
    exact aK results127 (dl rfl) (aw rfl) ⟨rfl, rfl⟩ (by unfold mq; rw [← hnn, ← hfin, if_pos h28])
  have h28 : ¬ out.length < k := by simp at h28; omega
  refine ah (aa (zR (zM rfl (zA rfl (zY rfl (aa (am ?_)))))))
  refine cY (rt := ak .i64) 70 2 (b8 70 _) rfl rfl (by simp) (bl 70 _) (bC 70 _) ?_
  exact z2 results127 rfl rfl (by unfold mq; rw [← hnn, ← hfin, if_neg h28, List.drop_zero, List.take_length])
noncomputable def uC (s : ba) (d : Int) : List Int := if inN (scN s) d = true then pU (scN s) (iu s) d else []
theorem yo (s : ba) (d : Int) (hL : Lim s) : Ct prog 90 [.tv bx s, .raw (.int .i64 d)] (.tv (ab (ak .i64)) (uC s d)) := by
  refine ay func90 rfl rfl ntmps90 rfl rfl ?_
  intro w0 ok0
  have hN : scN s = s.2.2.2.1.length := rfl
  refine zR (zb (.tv (.b rfl)) (zY rfl (aa (ae (zR (zM rfl (zt rfl rfl (zM rfl (zG rfl rfl (fun hg => ag (.b rfl)) (zG rfl rfl (fun hg => ao dD (.b rfl)) (zG rfl rfl (fun hg => aj fj (.gd rfl hg) rfl rfl d8) (zG rfl rfl (fun hg => cJ ei (.gd rfl hg)) (zG rfl rfl (fun hg => bW (.gd rfl hg) (.gd rfl hg)) (zJ (aB (.b rfl) (.b rfl) rfl zp) (zZ ?_)))))))))))))))
  refine af rfl (fun h1 => ?_) (fun h1 => ?_)
  · have h1 : inN (scN s) d = false := by
      by_cases e1 : d < 0
      · simp [inN]; omega
      simp [e1] at h1; simp [inN]; omega
    refine zR (zY rfl (aa (am (ai ?_))))
    exact cv results90 (dl rfl) rfl (congrArg (SV.tv (ab (ak .i64))) (by unfold uC; rw [if_neg (by rw [h1]; decide)]))
  have h1 : inN (scN s) d = true := by
    by_cases e1 : d < 0
    · simp [e1] at h1
    simp [e1] at h1; simp [inN]; omega
  have hd0 : 0 ≤ d ∧ d < scN s := by simp [inN] at h1; omega
  have w := wS s
  have hN2 := hL.1
  refine ah (aa (zR (zL dx rfl rfl rfl (Lens.id _) (zJ (an (nV s hL) (.cons (.b rfl) .nil) rfl rfl) (zM rfl (zJ (an (uG (scN s) (iu s) d w zo zo zo) (.cons (.b rfl) (.cons (.b rfl) .nil)) rfl rfl) (zY rfl (aa (am ?_)))))))))
  exact z1 results90 rfl (congrArg (SV.tv (ab (ak .i64))) (by unfold uC; rw [if_pos h1]))
end Go.Proofs.YtehcaebnijlhgaaGreatDoor.C16
namespace Go.Proofs.YtehcaebnijlhgaaGreatDoor
open Go.Eng Tryz
set_option maxRecDepth 100000
set_option maxHeartbeats 4000000
open C15
def scD : ba := ([], -1, [], [], [])
noncomputable def fR (l : cA) (i : Nat) (s : ba) : Int × Int :=
  if (!sa s.1) = true then (2, 0) else
  if ((Cl l.1 s.1 || hasT l.2.1 s.1) || (l.2.2.take i).any (fun x => decide (x.1 = s.1))) = true then (7, 0) else
  if s.2.1 ≠ -1 ∧ (s.2.1 < 0 ∨ (i : Int) ≤ s.2.1 ∨ (l.2.2[s.2.1.toNat]?.getD scD).2.1 ≠ -1) then (6, 0) else
  if 12 < s.2.2.1.length then (4, 112) else
  if 12 < s.2.2.2.1.length then (4, 212) else
  match kZ s.2.2.1.length (fun j => oG l.1 (s.2.2.1[j]?.getD fiD) (s.2.2.1.take j) [] != 0) with
  | some j => (oG l.1 (s.2.2.1[j]?.getD fiD) (s.2.2.1.take j) [], 100 + (j : Int))
  | none => match kZ s.2.2.2.1.length (fun j => oG l.1 (s.2.2.2.1[j]?.getD fiD) s.2.2.1 (s.2.2.2.1.take j) != 0) with
    | some j => (oG l.1 (s.2.2.2.1[j]?.getD fiD) s.2.2.1 (s.2.2.2.1.take j), 200 + (j : Int))
    | none => match kZ s.2.2.2.2.length (fun j => lF s j (eH l s) != 0) with
      | some j => (lF s j (eH l s), 300 + (j : Int))
      | none => match kZ s.2.2.2.1.length (fun j => (C16.uC s (j : Int)).any (fun y => decide ((j : Int) = y))) with
        | some j => (9, 200 + (j : Int))
        | none => (0, 0)
theorem lw {n : Nat} {f : Nat → Int} {j : Nat} (h : kZ n (fun i => f i != 0) = some j) : f j ≠ 0 := by
  have := List.find?_some h; simpa using this
theorem chkS_0 {l : cA} {i : Nat} {s : ba} (h : (fR l i s).1 = 0) : (∀ f ∈ s.2.2.1, au f.2 l.1 = true) ∧ (∀ j, j < s.2.2.2.2.length → lF s j (eH l s) = 0) ∧ s.2.2.1.length ≤ 12 := by
  unfold fR at h
  iterate 5 (split at h; · exact absurd h (by decide))
  rename_i hn5 _
  split at h
  · rename_i j hj; exact absurd h (lw hj)
  rename_i h1
  split at h
  · rename_i j hj; exact absurd h (lw hj)
  split at h
  · rename_i j hj; exact absurd h (lw hj)
  rename_i h3
  refine ⟨fun f hf => ?_, fun j hj => by have := nB h3 j hj; simpa using this, by omega⟩
  obtain ⟨j, hj, rfl⟩ := List.getElem_of_mem hf
  have := nB h1 j hj
  rw [List.getElem?_eq_getElem hj] at this
  exact chkF_0 (by simpa using this)
def NumN (e : List aP) : Prop := ∀ d ∈ e, -9223372036854775808 ≤ d.2 ∧ d.2 ≤ 9223372036854775807
def CV (s : ba) : Prop := ∀ r ∈ s.2.2.2.2, NumN r.2.2.2.2.2.1 ∧ NumN r.2.2.2.2.2.2.1
def o3 (l : cA) : Prop := (∀ t ∈ l.2.1, ∀ x ∈ t.2.2.2, C12.CW x) ∧ ∀ s ∈ l.2.2, CV s
theorem rK {s : ba} (h : SmS s) : C16.Lim s := by
  obtain ⟨⟨_, _, h2, h3⟩, _, _, h4⟩ := h
  refine ⟨h2, h3, fun r hr => ⟨?_, ?_⟩⟩
  · have := (h4 r hr).2.2.1; show r.2.2.2.2.2.1.length ≤ 60; omega
  have := (h4 r hr).2.2.2; show r.2.2.2.2.2.2.1.length ≤ 60; omega
theorem Bh (l : cA) (i : Nat) (s : ba) (hi0 : i < l.2.2.length) (hse : l.2.2[i] = s) (hsm : SmS s) (hN : CV s) (hll : l.2.2.length ≤ 1000000) (hS : ∀ s ∈ l.2.2, s.2.2.1.length ≤ 1000000 ∧ s.2.2.2.1.length ≤ 1000000) : Ct prog 98 [.tv cz l, .raw (.int .i64 (i : Nat))] (.tup2 (.raw (.int .i64 (fR l i s).1)) (.raw (.int .i64 (fR l i s).2))) := by
  refine ay func98 rfl rfl ntmps98 rfl rfl ?_
  intro w0 ok0
  have hss := hse
  have hs1 := hsm.1.1
  have hs2 : s.2.2.2.2.length ≤ 60 := hsm.1.2.2.2
  have hgsc : s.2.1.toNat < i → ((l.2.2.drop 0).take i)[s.2.1.toNat]?.getD scD = l.2.2[s.2.1.toNat]?.getD scD := fun q => by rw [List.drop_zero, List.getElem?_take_of_lt q]
  refine zR (zb (.tv (.b rfl)) (zA rfl (zY rfl (aa (zR (zF cN rfl (zL gB rfl rfl rfl du (zM rfl ?_))))))))
  refine bc _ rfl _ rfl rfl (al fx dx (.b rfl) (.b rfl) rfl zg) ?_
  refine zD dx rfl (zl z81 (zC dx rfl rfl rfl (Lens.id _) (.tv (.b rfl)) (zZ (ae ?_))))
  refine lU 6 6 (b8 6 _) rfl rfl (bl 6 _) (bC 6 _) ?_
  rw [hss]
  refine ac (zF cN rfl (zL gB rfl rfl rfl du (zM rfl (zJ (gh fx dx (.b rfl) rfl ⟨_, _, (.b rfl), rfl⟩ zo zo) (zY rfl (aa (zR (zF es rfl (zL hU rfl rfl rfl fy (zB lX lp rfl (zD ty9 rfl (zJ (an (sh _ _) (.cons (.b rfl) (.cons (.b rfl) .nil)) rfl rfl) (zM rfl (zG rfl rfl (fun hg => ao fo (.b rfl)) (zG rfl rfl (fun hg => aj jl (.gd rfl hg) rfl rfl gN) (zG rfl rfl (fun hg => aO lX lp (.b rfl)) (zG rfl rfl (fun hg => aA ty9 (.gd rfl hg)) (zG rfl rfl (fun hg => an (wu _ _) (.cons (.gd rfl hg) (.cons (.gd rfl hg) .nil)) rfl rfl) (zJ (aB (.b rfl) (.b rfl) rfl zp) (zM rfl (zG rfl rfl (fun hg => ag (.b rfl)) (zG rfl rfl (fun hg => ie (A := bx) (B := bP) (aS := [.eptr bx s]) (φ := fun _ => True) (fun x => decide (x.1 = s.1)) (bJ func140 rfl zk) (fun x _ => x7 x s) (.cons (.b rfl) .nil) rfl) (zG rfl rfl (fun hg => an (xB _ _) (.cons (.gd rfl hg) (.cons (.gd rfl hg) .nil)) rfl rfl) (zJ (aB (.b rfl) (.b rfl) rfl zp) (zY rfl (aa (ae (aq (zR (zB lX lp rfl (zD ty9 rfl (zJ (an (rm _ zo) (.cons (.b rfl) .nil) rfl rfl) (zJ (b6 (.b rfl)) (zY rfl ?_))))))))))))))))))))))))))))))))))
  refine aa ?_
  refine af rfl (fun h4 => ?_) (fun h4 => ?_)
  · skip
    refine zR (zA rfl (zY rfl (aa (am (av (ai ?_))))))
    exact z2 results98 rfl rfl (by unfold fR; rw [if_pos h4])
  skip
  refine zR (zM rfl (zY rfl (aa ?_)))
  refine af rfl (fun h6 => ?_) (fun h6 => ?_)
  · rw [List.drop_zero] at h6
    refine zR (zA rfl (zY rfl (aa (am (av (ai ?_))))))
    exact z2 results98 rfl rfl (by unfold fR; rw [if_neg (by rw [h4]; decide), if_pos h6])
  rw [List.drop_zero] at h6
  refine zR (zB gu gM rfl (zD ty3 rfl (zJ (bQ (.b rfl) (.b rfl)) (zM rfl (zG rfl rfl (fun hg => aO gu gM (.b rfl)) (zG rfl rfl (fun hg => aA ty3 (.gd rfl hg)) (zG rfl rfl (fun hg => dS (.gd rfl hg) (.b rfl)) (zG rfl rfl (fun hg => ag (.gd rfl hg)) ?_))))))))
  refine ct _ _ _ _ _ _ _ rfl rfl rfl rfl rfl (fun hg => aO gu gM (.b rfl)) ?_
  refine ct _ _ _ _ _ _ _ rfl rfl rfl rfl rfl (fun hg => aA ty3 (.gd rfl hg)) ?_
  refine ct _ _ _ _ _ _ _ rfl rfl rfl rfl rfl (fun hg => ag (.b rfl)) ?_
  refine ct _ _ _ _ _ _ _ rfl rfl rfl rfl rfl (fun hg => bW (.gd rfl hg) (.gd rfl hg)) ?_
  refine zG rfl rfl (fun hg => aB (.gd rfl hg) (.b rfl) rfl zp) (zG rfl rfl (fun hg => ag (.gd rfl hg)) ?_)
  refine ct _ _ _ _ _ _ _ rfl rfl rfl rfl rfl (fun hg => ag (.b rfl)) ?_
  refine ct _ _ _ _ _ _ _ rfl rfl rfl rfl rfl (fun hg => aO gu gM (.b rfl)) ?_
  refine ct _ _ _ _ _ _ _ rfl rfl rfl rfl rfl (fun hg => aA ty3 (.gd rfl hg)) ?_
  refine ct _ _ _ _ _ _ _ rfl rfl rfl rfl rfl (fun hg => al fx dx (.gd rfl hg) (.gd rfl hg) (show s.2.1 = ((s.2.1.toNat : Nat) : Int) by simp at hg; omega) (getD_some (l := (l.2.2.drop 0).take i) (i := s.2.1.toNat) (z := scD) (by simp at hg; simp; omega))) ?_
  refine ct _ _ _ _ _ _ _ rfl rfl rfl rfl rfl (fun hg => aO gu gM (.gd rfl hg)) ?_
  refine ct _ _ _ _ _ _ _ rfl rfl rfl rfl rfl (fun hg => aA ty3 (.gd rfl hg)) ?_
  refine ct _ _ _ _ _ _ _ rfl rfl rfl rfl rfl (fun hg => bQ (.gd rfl hg) (.b rfl)) ?_
  refine zG rfl rfl (fun hg => aB (.gd rfl hg) (.b rfl) rfl zp) (zJ (aF (.b rfl) (.b rfl) rfl zp) (zY rfl (aa ?_)))
  refine af rfl (fun h8 => ?_) (fun h8 => ?_)
  · have h8 : s.2.1 ≠ -1 ∧ (s.2.1 < 0 ∨ (i : Int) ≤ s.2.1 ∨ (l.2.2[s.2.1.toNat]?.getD scD).2.1 ≠ -1) := by
      refine ⟨by simp at h8; omega, ?_⟩
      by_cases q1 : s.2.1 < 0
      · exact .inl q1
      by_cases q2 : (i : Int) ≤ s.2.1
      · exact .inr (.inl q2)
      refine .inr (.inr ?_)
      simp [q1, q2] at h8
      rw [← hgsc zo]; exact h8.2
    refine zR (zA rfl (zY rfl (aa (am (av (ai ?_))))))
    exact z2 results98 rfl rfl (by unfold fR; rw [if_neg (by rw [h4]; decide), if_neg (by rw [h6]; decide), if_pos h8])
  have h8 : ¬ (s.2.1 ≠ -1 ∧ (s.2.1 < 0 ∨ (i : Int) ≤ s.2.1 ∨ (l.2.2[s.2.1.toNat]?.getD scD).2.1 ≠ -1)) := by
    rintro ⟨q0, q⟩
    by_cases q1 : s.2.1 < 0
    · simp [q0, q1] at h8
    by_cases q2 : (i : Int) ≤ s.2.1
    · simp [q0, q1, q2] at h8
    rcases q with q | q | q
    · exact q1 q
    · exact q2 q
    simp [q0, q1, q2] at h8; rw [← hgsc zo] at q; exact q h8
  refine zR (zB fm fO rfl (zD fj rfl (zN ei rfl (zJ (bY (.b rfl) (.b rfl)) (zY rfl (aa ?_))))))
  refine af rfl (fun h10 => ?_) (fun h10 => ?_)
  · have h10 : 12 < s.2.2.1.length := by simp at h10; omega
    refine zR (zA rfl (zY rfl (aa (am (av (ai ?_))))))
    exact z2 results98 rfl rfl (by unfold fR; rw [if_neg (by rw [h4]; decide), if_neg (by rw [h6]; decide), if_neg h8, if_pos h10])
  have h10 : ¬ 12 < s.2.2.1.length := by simp at h10; omega
  refine zR (zB dD d8 rfl (zD fj rfl (zN ei rfl (zJ (bY (.b rfl) (.b rfl)) (zY rfl (aa ?_))))))
  refine af rfl (fun h12 => ?_) (fun h12 => ?_)
  · have h12 : 12 < s.2.2.2.1.length := by simp at h12; omega
    refine zR (zA rfl (zY rfl (aa (am (av (ai ?_))))))
    exact z2 results98 rfl rfl (by unfold fR; rw [if_neg (by rw [h4]; decide), if_neg (by rw [h6]; decide), if_neg h8, if_neg h10, if_pos h12])
  have h12 : ¬ 12 < s.2.2.2.1.length := by simp at h12; omega
  refine ah (aG (aa (ae (zR (zB fm fO rfl (zD fj rfl (zN ei rfl (zM rfl (zZ (aq ?_))))))))))
  refine aZ (ι := Nat) (fun j => ⟨[(1, .raw (.int .i64 ((i : Nat)))), (2, .optr 2 cz.n 0 0), (6, .eptr bx s), (87, .tv (ab cq) s.2.2.1), (88, .raw (.int .i64 (s.2.2.1.length))), (89, .raw (.int .i64 ((j : Nat))))], [(2, ⟨cz, [l]⟩)]⟩) (fun j => j ≤ s.2.2.1.length ∧ ∀ x, x < j → (oG l.1 (s.2.2.1[x]?.getD fiD) (s.2.2.1.take x) [] != 0) = false) (fun j => s.2.2.1.length - j) 0 (⟨Nat.zero_le _, fun x hx => by omega⟩) (fun a w hi => (zI hi)) ?_
  rintro j ⟨hlj, hnj⟩
  refine zR (zt rfl rfl (zQ [1,2,6,87,88,89,90] [2] (aa (ae ?_))))
  refine af rfl (fun h15 => ?_) (fun h15 => ?_)
  · have h15 : j < s.2.2.1.length := by simp at h15; omega
    have hgf : s.2.2.1[j]?.getD fiD = s.2.2.1[j] := by rw [List.getElem?_eq_getElem h15]; rfl
    have hfl : s.2.2.1[j].1.length ≤ 80 := hsm.2.1 _ (List.getElem_mem h15)
    refine ah (aa (ae (aq (zR (zM rfl ?_)))))
    refine bc _ rfl _ rfl rfl (al ei e8 (.b rfl) (.b rfl) rfl zg) ?_
    refine zD e8 rfl (zl z92 (zA rfl (zC e8 rfl rfl rfl (Lens.id _) (.tv (.b rfl)) (zZ (ae ?_)))))
    refine dN mo zk ( zS (aj e9 (.b rfl) rfl rfl (Lens.id _)) ( zS (aj e8 (.b rfl) rfl rfl (Lens.id _)) ( zS (aO fm fO (.b rfl)) ( zS (aA fj (.b rfl)) ( zS (ag (.b rfl)) ( zS (gh ei e8 (.b rfl) rfl ⟨_, _, (.b rfl), rfl⟩ zo zo) ( zS (an (wM _ _ _ _ zo) (.cons (.b rfl) (.cons (.b rfl) (.cons (.b rfl) (.nilS (.b rfl) .nil)))) rfl rfl) ( zS (aU (.b rfl)) ( AS.nil))))))))) ?_
    refine aa (zR (zM rfl (zJ (bQ (.b rfl) (.b rfl)) (zZ ?_))))
    refine af rfl (fun h18 => ?_) (fun h18 => ?_)
    · rw [List.drop_zero] at h18
      refine zR (zM rfl (zM rfl (zU rfl rfl zw (zA rfl (zY rfl (aa (am (av (ai (bL (av (ai ?_))))))))))))
      exact z2 results98 rfl rfl (by unfold fR; rw [if_neg (by rw [h4]; decide), if_neg (by rw [h6]; decide), if_neg h8, if_neg h10, if_neg h12, fz h15 (by rw [hgf]; exact h18) hnj]; simp only [hgf, List.drop_zero])
    rw [List.drop_zero] at h18
    have hbf := h18
    refine ah (aG (aa (ac (zU rfl rfl zw (zM rfl (aN ?_))))))
    exact aD (fun a w hi => ⟨j + 1, zj, (⟨by omega, jA hnj (by first | assumption | (rw [hgf]; simpa using hbf) | (simpa using hbf))⟩), (zI hi)⟩)
  have h15 : s.2.2.1.length = j := by simp at h15; omega
  have hfj := gQ (n := s.2.2.1.length) (by rw [h15]; exact hnj)
  refine bg (be (aY (bf (aa (ae (ae (ac (zB dD d8 rfl (zD fj rfl (zN ei rfl (zM rfl (zZ (aq ?_)))))))))))))
  refine aZ (ι := Nat) (fun k => ⟨[(1, .raw (.int .i64 ((i : Nat)))), (2, .optr 2 cz.n 0 0), (6, .eptr bx s), (108, .tv (ab cq) s.2.2.2.1), (109, .raw (.int .i64 (s.2.2.2.1.length))), (110, .raw (.int .i64 ((k : Nat))))], [(2, ⟨cz, [l]⟩)]⟩) (fun k => k ≤ s.2.2.2.1.length ∧ ∀ x, x < k → (oG l.1 (s.2.2.2.1[x]?.getD fiD) s.2.2.1 (s.2.2.2.1.take x) != 0) = false) (fun k => s.2.2.2.1.length - k) 0 (⟨Nat.zero_le _, fun x hx => by omega⟩) (fun a w hi => (zI hi)) ?_
  rintro k ⟨hlk, hnk⟩
  refine zR (zt rfl rfl (zZ (ae ?_)))
  refine af rfl (fun h22 => ?_) (fun h22 => ?_)
  · have h22 : k < s.2.2.2.1.length := by simp at h22; omega
    have hgf : s.2.2.2.1[k]?.getD fiD = s.2.2.2.1[k] := by rw [List.getElem?_eq_getElem h22]; rfl
    have hfl : s.2.2.2.1[k].1.length ≤ 80 := hsm.2.2.1 _ (List.getElem_mem h22)
    refine ah (aa (ae (aq (zR (zM rfl ?_)))))
    refine bc _ rfl _ rfl rfl (al ei e8 (.b rfl) (.b rfl) rfl zg) ?_
    refine zD e8 rfl (zl z92 (zA rfl (zC e8 rfl rfl rfl (Lens.id _) (.tv (.b rfl)) (zZ (ae ?_)))))
    refine dN mo zk ( zS (aj e9 (.b rfl) rfl rfl (Lens.id _)) ( zS (aj e8 (.b rfl) rfl rfl (Lens.id _)) ( zS (aO fm fO (.b rfl)) ( zS (aA fj (.b rfl)) ( zS (aO dD d8 (.b rfl)) ( zS (aA fj (.b rfl)) ( zS (ag (.b rfl)) ( zS (gh ei e8 (.b rfl) rfl ⟨_, _, (.b rfl), rfl⟩ zo zo) ( zS (an (wM _ _ _ _ zo) (.cons (.b rfl) (.cons (.b rfl) (.cons (.b rfl) (.cons (.b rfl) .nil)))) rfl rfl) ( zS (aU (.b rfl)) ( AS.nil))))))))))) ?_
    refine aa (zR (zM rfl (zJ (bQ (.b rfl) (.b rfl)) (zZ ?_))))
    refine af rfl (fun h25 => ?_) (fun h25 => ?_)
    · rw [List.drop_zero] at h25
      refine zR (zM rfl (zM rfl (zU rfl rfl zw (zA rfl (zY rfl (aa (am (av (ai (bL (av (ai ?_))))))))))))
      exact z2 results98 rfl rfl (by unfold fR; rw [if_neg (by rw [h4]; decide), if_neg (by rw [h6]; decide), if_neg h8, if_neg h10, if_neg h12, hfj]; simp only []; rw [fz h22 (by rw [hgf]; exact h25) hnk]; simp only [hgf, List.drop_zero])
    rw [List.drop_zero] at h25
    have hbf := h25
    refine ah (aG (aa (ac (zU rfl rfl zw (zM rfl (aN ?_))))))
    exact aD (fun a w hi => ⟨k + 1, zj, (⟨by omega, jA hnk (by first | assumption | (rw [hgf]; simpa using hbf) | (simpa using hbf))⟩), (zI hi)⟩)
  have h22 : s.2.2.2.1.length = k := by simp at h22; omega
  have hfk := gQ (n := s.2.2.2.1.length) (by rw [h22]; exact hnk)
  refine bg (be (aY (bf (aa (ae (ac (zL e9 rfl rfl rfl (Lens.id _) (zM rfl (zJ (an (td _ _ hi0 hS) (.cons (.b rfl) (.cons (.b rfl) .nil)) rfl rfl) (zl z86 (zC eV rfl rfl rfl (Lens.id _) (.tv (.b rfl)) (zZ (ae (ae ?_))))))))))))))
  rw [hss]
  refine ac (zB dw dT rfl (zD jh rfl (zN ga rfl (zM rfl (zZ (aq ?_))))))
  refine aZ (ι := Nat) (fun m => ⟨[(6, .eptr bx s), (15, .optr 15 bS.n 0 0), (135, .raw (.int .i64 (s.2.2.2.2.length))), (136, .raw (.int .i64 ((m : Nat))))], [(15, ⟨bS, [eH l s]⟩)]⟩) (fun m => m ≤ s.2.2.2.2.length ∧ ∀ x, x < m → (lF s x (eH l s) != 0) = false) (fun m => s.2.2.2.2.length - m) 0 (⟨Nat.zero_le _, fun x hx => by omega⟩) (fun a w hi => (zI hi)) ?_
  rintro m ⟨hlm, hnm⟩
  refine zR (zt rfl rfl (zZ (ae ?_)))
  refine af rfl (fun h30 => ?_) (fun h30 => ?_)
  · have h30 : m < s.2.2.2.2.length := by simp at h30; omega
    have hsr := hsm.2.2.2 _ (List.getElem_mem h30)
    have hnr := hN _ (List.getElem_mem h30)
    refine ah (aa (ae (aq (zR (zM rfl (zA rfl (zQ [6,15,16,135,136] [15] (aa (zR ?_)))))))))
    refine zD dx rfl (zM rfl (zL eV rfl rfl rfl (Lens.id _) (zJ (an (CK _ _ _ h30 zo hsr (fun d hd => (hnr.1 d hd).2) (fun d hd => (hnr.2 d hd).2)) (.cons (.b rfl) (.cons (.b rfl) (.cons (.b rfl) .nil))) rfl rfl) (zY rfl (aa (zR (zM rfl (zJ (bQ (.b rfl) (.b rfl)) (zZ ?_)))))))))
    refine af rfl (fun h33 => ?_) (fun h33 => ?_)
    · skip
      refine zR (zM rfl (zM rfl (zU rfl rfl zw (zA rfl (zY rfl (aa (am (av (ai (bL (av (ai ?_))))))))))))
      exact z2 results98 rfl rfl (by unfold fR; rw [if_neg (by rw [h4]; decide), if_neg (by rw [h6]; decide), if_neg h8, if_neg h10, if_neg h12, hfj]; simp only []; rw [hfk]; simp only []; rw [fz h30 h33 hnm])
    have hbf := h33
    refine ah (aG (aa (ac (zU rfl rfl zw (zM rfl (aN ?_))))))
    exact aD (fun a w hi => ⟨m + 1, zj, (⟨by omega, jA hnm (by first | assumption | (rw [hgf]; simpa using hbf) | (simpa using hbf))⟩), (zI hi)⟩)
  have h30 : s.2.2.2.2.length = m := by simp at h30; omega
  have hfm := gQ (n := s.2.2.2.2.length) (by rw [h30]; exact hnm)
  refine bg (be (aY (bf (aa (ae (ae (ac (zB dD d8 rfl (zD fj rfl (zN ei rfl (zM rfl (zZ (aq ?_)))))))))))))
  refine aZ (ι := Nat) (fun q => ⟨[(6, .eptr bx s), (151, .raw (.int .i64 (s.2.2.2.1.length))), (152, .raw (.int .i64 ((q : Nat))))], []⟩) (fun q => q ≤ s.2.2.2.1.length ∧ ∀ x, x < q → ((C16.uC s (x : Int)).any (fun y => decide ((x : Int) = y))) = false) (fun q => s.2.2.2.1.length - q) 0 (⟨Nat.zero_le _, fun x hx => by omega⟩) (fun a w hi => (zI hi)) ?_
  rintro q ⟨hlq, hnq⟩
  refine zR (zt rfl rfl (zZ (ae ?_)))
  refine af rfl (fun h37 => ?_) (fun h37 => ?_)
  · have h37 : q < s.2.2.2.1.length := by simp at h37; omega
    refine ah (aa (ae (aq (zR (zM rfl (zY rfl (aa (zR (zD dx rfl (zM rfl (zJ (an (C16.yo _ _ (rK hsm)) (.cons (.b rfl) (.cons (.b rfl) .nil)) rfl rfl) (zM rfl (zJ (an (xA _ _) (.cons (.b rfl) (.cons (.b rfl) .nil)) rfl rfl) (zZ ?_))))))))))))))
    refine af rfl (fun h39 => ?_) (fun h39 => ?_)
    · skip
      refine zR (zM rfl (zU rfl rfl zw (zA rfl (zY rfl (aa (am (av (ai (bL (av (ai ?_)))))))))))
      exact z2 results98 rfl rfl (by unfold fR; rw [if_neg (by rw [h4]; decide), if_neg (by rw [h6]; decide), if_neg h8, if_neg h10, if_neg h12, hfj]; simp only []; rw [hfk]; simp only []; rw [hfm]; simp only []; rw [fz h37 h39 hnq])
    have hbf := h39
    refine ah (aG (aa (ac (zU rfl rfl zw (zM rfl (aN ?_))))))
    exact aD (fun a w hi => ⟨q + 1, zj, (⟨by omega, jA hnq (by first | assumption | (rw [hgf]; simpa using hbf) | (simpa using hbf))⟩), (zI hi)⟩)
  have h37 : s.2.2.2.1.length = q := by simp at h37; omega
  have hfq := gQ (n := s.2.2.2.1.length) (by rw [h37]; exact hnq)
  refine bg (be (aY (bf (aa (ae (ac (zA rfl (zY rfl (aa (am ?_))))))))))
  exact z2 results98 rfl rfl (by unfold fR; rw [if_neg (by rw [h4]; decide), if_neg (by rw [h6]; decide), if_neg h8, if_neg h10, if_neg h12, hfj]; simp only []; rw [hfk]; simp only []; rw [hfm]; simp only []; rw [hfq])
theorem CJ (l : cA) (i : Nat) (hi0 : i < l.2.2.length) (hsm : SmS l.2.2[i]) (hN : CV l.2.2[i]) (hll : l.2.2.length ≤ 1000000) (hS : ∀ s ∈ l.2.2, s.2.2.1.length ≤ 1000000 ∧ s.2.2.2.1.length ≤ 1000000) :
    Ct prog 98 [.tv cz l, .raw (.int .i64 (i : Nat))] (.tup2 (.raw (.int .i64 (fR l i l.2.2[i]).1)) (.raw (.int .i64 (fR l i l.2.2[i]).2))) := Bh l i _ hi0 rfl hsm hN hll hS
noncomputable def nS (l : cA) : Int × Int × Int × Int := if 4 < l.2.2.length then (4, 3, 4, 0) else
  match kZ l.2.2.length (fun i => (fR l i (l.2.2[i]?.getD scD)).1 != 0) with
  | some i => ((fR l i (l.2.2[i]?.getD scD)).1, 3, (i : Int), (fR l i (l.2.2[i]?.getD scD)).2)
  | none => (0, 0, 0, 0)
theorem wL {l : cA} (h : (nS l).1 = 0) : ∀ i, (hi : i < l.2.2.length) → (fR l i l.2.2[i]).1 = 0 := by
  unfold nS at h
  split at h
  · exact absurd h (by decide)
  split at h
  · rename_i i hi
    exact absurd h (lw (f := fun i => (fR l i (l.2.2[i]?.getD scD)).1) hi)
  rename_i hi
  intro i hh
  have := nB hi i hh
  rw [List.getElem?_eq_getElem hh] at this
  simpa using this
theorem Bg (l : cA) (hsm : ∀ s ∈ l.2.2, SmS s) (hN : ∀ s ∈ l.2.2, CV s) (hl : l.2.2.length ≤ 1000000) (hS : ∀ s ∈ l.2.2, s.2.2.1.length ≤ 1000000 ∧ s.2.2.2.1.length ≤ 1000000) : Ct prog 52 [.tv cz l] (.tv bw (nS l)) := by
  refine ay func52 rfl rfl ntmps52 rfl rfl ?_
  intro w0 ok0
  refine zR (zb (.tv (.b rfl)) (zl z52 (zZ (ae (zR (zF cN rfl (zL gB rfl rfl rfl du (zN fx rfl (zJ (bY (.b rfl) (.b rfl)) (zZ ?_))))))))))
  refine af rfl (fun h1 => ?_) (fun h1 => ?_)
  · have h1 : 4 < l.2.2.length := by simp at h1; omega
    refine zR (zJ (aI z52 rfl rR (.cons (rt' := (ak .i64)) rfl fd (.raw (.b rfl) rfl) (.cons (rt' := (ak .i64)) rfl og (.raw (.b rfl) rfl) (.cons (rt' := (ak .i64)) rfl oe (.raw (.b rfl) rfl) .nil)))) (zC eo rfl rfl rfl (Lens.id _) (.tv (.b rfl)) (zZ (am (ai ?_)))))
    exact cv results52 (ax eo rfl rfl rfl (Lens.id bw)) rfl (congrArg (SV.tv bw) (by unfold nS; rw [if_pos h1]))
  have h1 : ¬ 4 < l.2.2.length := by simp at h1; omega
  refine ah (aa (ae (zR (zF cN rfl (zL gB rfl rfl rfl du (zN fx rfl (zM rfl (zZ (aq ?_)))))))))
  refine aZ (ι := Nat) (fun k => ⟨[(1, .optr 1 cz.n 0 0), (2, .optr 2 bw.n 0 0), (13, .raw (.int .i64 (l.2.2.length))), (14, .raw (.int .i64 ((k : Nat))))], [(1, ⟨cz, [l]⟩), (2, ⟨bw, [(0, 0, 0, 0)]⟩)]⟩) (fun k => k ≤ l.2.2.length ∧ ∀ j, j < k → ((fR l j (l.2.2[j]?.getD scD)).1 != 0) = false) (fun k => l.2.2.length - k) 0 (⟨Nat.zero_le _, fun j hj => by omega⟩) (fun a w hi => (zI hi)) ?_
  rintro k ⟨hk, hno⟩
  refine zR (zt rfl rfl (zZ (ae ?_)))
  refine af rfl (fun h4 => ?_) (fun h4 => ?_)
  · have h4 : k < l.2.2.length := by simpa using h4
    have hse := hsm _ (List.getElem_mem h4)
    have hnn := hN _ (List.getElem_mem h4)
    have hge : l.2.2[k]?.getD scD = l.2.2[k] := by rw [List.getElem?_eq_getElem h4]; rfl
    refine ah (aa (ae (aq (zR (zM rfl (zY rfl (aa (zR (zL e9 rfl rfl rfl (Lens.id _) (zM rfl (zJ (an (CJ _ _ h4 hse hnn zo hS) (.cons (.b rfl) (.cons (.b rfl) .nil)) rfl rfl) (zM rfl (zJ (bj (.b rfl)) (zJ (bi (.b rfl)) (zA rfl (zY rfl (aa (zR (zM rfl (zJ (bQ (.b rfl) (.b rfl)) (zZ ?_)))))))))))))))))))))
    refine af rfl (fun h7 => ?_) (fun h7 => ?_)
    · have h7 : ¬ (fR l k l.2.2[k]).1 = 0 := by simpa using h7
      refine zR (zM rfl (zM rfl (zM rfl (zJ (aI z52 rfl rR (.cons (rt' := (ak .i64)) rfl fd (.raw (.b rfl) rfl) (.cons (rt' := (ak .i64)) rfl og (.raw (.b rfl) rfl) (.cons (rt' := (ak .i64)) rfl oe (.raw (.b rfl) rfl) (.cons (rt' := (ak .i64)) rfl uU (.raw (.b rfl) rfl) .nil))))) (zC eo rfl rfl rfl (Lens.id _) (.tv (.b rfl)) (zZ (am (av (ai (bL (av (ai ?_))))))))))))
      exact cv results52 (ax eo rfl rfl rfl (Lens.id bw)) rfl (congrArg (SV.tv bw) (by unfold nS; rw [if_neg h1, fz h4 (by rw [hge]; simpa using h7) hno]; simp only [hge]))
    have h7 : (fR l k l.2.2[k]).1 = 0 := by simpa using h7
    refine ah (aG (aa (ac (zU rfl rfl zw (zM rfl (aN ?_))))))
    exact aD (fun a w hi => ⟨k + 1, zj, (⟨by omega, jA hno (by rw [hge, h7]; rfl)⟩), (zI hi)⟩)
  have h4 : k = l.2.2.length := by simp at h4; omega
  refine bg (be (aY (bf (aa (ae (ac (zJ (aI z52 rfl rR .nil) (zC eo rfl rfl rfl (Lens.id _) (.tv (.b rfl)) (zZ (am ?_))))))))))
  exact cv results52 (ax eo rfl rfl rfl (Lens.id bw)) rfl (congrArg (SV.tv bw) (by unfold nS; rw [if_neg h1, gQ (by rw [← h4]; exact hno)]))
noncomputable def jV (l : cA) : Int × Int × Int × Int := if ((oR l.1).1 != 0) = true then oR l.1 else if ((jS l).1 != 0) = true then jS l else nS l
theorem rF {l : cA} (h : (jV l).1 = 0) : (l.1.length ≤ 8 ∧ ∀ e ∈ l.1, 1 ≤ e.2.length ∧ e.2.length ≤ 16) ∧ ∀ s ∈ l.2.2, (∀ f ∈ s.2.2.1, au f.2 l.1 = true) ∧ (∀ j, j < s.2.2.2.2.length → lF s j (eH l s) = 0) ∧ s.2.2.1.length ≤ 12 := by
  unfold jV at h
  split at h
  · rename_i c; rw [h] at c; cases c
  split at h
  · rename_i c; rw [h] at c; cases c
  rename_i c _
  refine ⟨CL (by simpa using c), fun s hs => ?_⟩
  obtain ⟨i, hi, rfl⟩ := List.getElem_of_mem hs
  exact chkS_0 (wL h i hi)
theorem vw (l : cA) (hL : SmL l) (hN : o3 l) : Ct prog 11 [.tv cz l] (.tv bw (jV l)) := by
  refine ay func11 rfl rfl ntmps11 rfl rfl ?_
  intro w0 ok0
  have hR : ∀ t ∈ l.2.1, t.2.2.2.length ≤ 1000 := fun t ht => by have h1 := s8 ht; have h2 := hL.2.2.1.2; omega
  have hS : ∀ s ∈ l.2.2, s.2.2.1.length ≤ 1000000 ∧ s.2.2.2.1.length ≤ 1000000 := fun s hs => by have h1 := (hL.2.2.2.1 s hs).1; omega
  refine zR (zb (.tv (.b rfl)) (zl z52 (zZ (ae (zR (zL e9 rfl rfl rfl (Lens.id _) (zJ (an (Bi _ hL.2.1 (by have := hL.1.1; omega)) (.cons (.b rfl) .nil) rfl rfl) (zl z52 (zC eo rfl rfl rfl (Lens.id _) (.tv (.b rfl)) (zZ (zR (zF fJ rfl (zL kp rfl rfl rfl fd (zJ (bQ (.b rfl) (.b rfl)) (zZ ?_)))))))))))))))
  refine af rfl (fun h2 => ?_) (fun h2 => ?_)
  · skip
    refine zR (zL eo rfl rfl rfl (Lens.id _) (zC eo rfl rfl rfl (Lens.id _) (.tv (.b rfl)) (zZ (am (ai ?_)))))
    exact cv results11 (ax eo rfl rfl rfl (Lens.id bw)) rfl (congrArg (SV.tv bw) (by unfold jV; rw [if_pos h2]))
  skip
  refine ah (aa (ae (zR (zL e9 rfl rfl rfl (Lens.id _) (zJ (an (x5 _ hL.2.2.1.1 hN.1 hR (by have := hL.1.2.1; omega)) (.cons (.b rfl) .nil) rfl rfl) (zl z52 (zC eo rfl rfl rfl (Lens.id _) (.tv (.b rfl)) (zZ (zR (zF fJ rfl (zL kp rfl rfl rfl fd (zJ (bQ (.b rfl) (.b rfl)) (zZ ?_)))))))))))))
  refine af rfl (fun h5 => ?_) (fun h5 => ?_)
  · skip
    refine zR (zL eo rfl rfl rfl (Lens.id _) (zC eo rfl rfl rfl (Lens.id _) (.tv (.b rfl)) (zZ (am (ai ?_)))))
    exact cv results11 (ax eo rfl rfl rfl (Lens.id bw)) rfl (congrArg (SV.tv bw) (by unfold jV; rw [if_neg (by rw [h2]; decide), if_pos h5]))
  skip
  refine ah (aa (zR (zL e9 rfl rfl rfl (Lens.id _) (zJ (an (Bg _ hL.2.2.2.1 hN.2 (by have := hL.1.2.2; omega) hS) (.cons (.b rfl) .nil) rfl rfl) (zC eo rfl rfl rfl (Lens.id _) (.tv (.b rfl)) (zZ (am ?_)))))))
  exact cv results11 (ax eo rfl rfl rfl (Lens.id bw)) rfl (congrArg (SV.tv bw) (by unfold jV; rw [if_neg (by rw [h2]; decide), if_neg (by rw [h5]; decide)]))
end Go.Proofs.YtehcaebnijlhgaaGreatDoor
namespace Go.Proofs.YtehcaebnijlhgaaGreatDoor
open Go.Eng Tryz
set_option maxRecDepth 100000
set_option maxHeartbeats 4000000
open C15
def oY (en : List bV) (v : bh) (t : bE) : Int := if v.1 ≠ t.1 ∨ v.2.1 ≠ t.2 then 8 else if v.2.2 < (aJ t en).1 ∨ (aJ t en).2 < v.2.2 then 3 else 0
def vaD : bh := (0, 0, 0)
def iM (en : List bV) (vs : List bh) (fs : List cf) : Int × Int :=
  if vs.length < fs.length then ((vs.length : Int), 5) else if fs.length < vs.length then ((fs.length : Int), 4) else
  match kZ vs.length (fun i => oY en (vs[i]?.getD vaD) (fs[i]?.getD fiD).2 != 0) with
  | some i => ((i : Int), oY en (vs[i]?.getD vaD) (fs[i]?.getD fiD).2)
  | none => (0, 0)
theorem chkV_0 {en : List bV} {vs : List bh} {fs : List cf} (h : (iM en vs fs).2 = 0) : vs.length = fs.length ∧ ∀ i, (hi : i < vs.length) → (hj : i < fs.length) → (vs[i].1 = fs[i].2.1 ∧ vs[i].2.1 = fs[i].2.2) ∧ (aJ fs[i].2 en).1 ≤ vs[i].2.2 ∧ vs[i].2.2 ≤ (aJ fs[i].2 en).2 := by
  unfold iM at h
  split at h
  · exact absurd h (by simp)
  split at h
  · exact absurd h (by simp)
  split at h
  · rename_i j hj; exact absurd h (lw (f := fun i => oY en (vs[i]?.getD vaD) (fs[i]?.getD fiD).2) hj)
  rename_i hn
  refine ⟨by omega, fun i hi hj => ?_⟩
  have := nB hn i hi
  rw [List.getElem?_eq_getElem hi, List.getElem?_eq_getElem hj] at this
  have h2 : oY en vs[i] fs[i].2 = 0 := by simpa using this
  unfold oY at h2
  split at h2
  · cases h2
  split at h2
  · cases h2
  omega
theorem CI {en : List bV} {vs : List bh} {fs : List cf} (hl : vs.length = fs.length) (h : ∀ i, (hi : i < vs.length) → (hj : i < fs.length) → (vs[i].1 = fs[i].2.1 ∧ vs[i].2.1 = fs[i].2.2) ∧ (aJ fs[i].2 en).1 ≤ vs[i].2.2 ∧ vs[i].2.2 ≤ (aJ fs[i].2 en).2) : iM en vs fs = (0, 0) := by
  unfold iM
  rw [if_neg zo, if_neg zo, gQ]
  intro j hj
  obtain ⟨⟨h1, h2⟩, h3, h4⟩ := h j hj zo
  rw [List.getElem?_eq_getElem hj, List.getElem?_eq_getElem (show j < fs.length by omega)]
  simp only [Option.getD_some]
  unfold oY
  rw [if_neg (by simp [h1, h2]), if_neg zo]
  rfl
def kA (l : cA) (s : ba) : List cf × Int := match uQ l s with | some m => (m.2.2.1, 8) | none => ([], 0)
def kV (l : cA) (s : ba) (c : gz) : Int × Int × Int :=
  if c.1 < 0 ∨ 109572 < c.1 then (-1, -1, 3) else
  if (iM l.1 c.2.1 s.2.2.1).2 ≠ 0 then (-1, (iM l.1 c.2.1 s.2.2.1).1, (iM l.1 c.2.1 s.2.2.1).2) else
  if (kA l s).2 < c.2.2.length then ((kA l s).2, -1, 4) else
  match kZ c.2.2.length (fun i => (iM l.1 (c.2.2[i]?.getD []) (kA l s).1).2 != 0) with
  | some i => ((i : Int), (iM l.1 (c.2.2[i]?.getD []) (kA l s).1).1, (iM l.1 (c.2.2[i]?.getD []) (kA l s).1).2)
  | none => (0, 0, 0)
theorem valC_0 {l : cA} {s : ba} {c : gz} (h : (kV l s c).2.2 = 0) : (0 ≤ c.1 ∧ c.1 ≤ 109572) ∧ (iM l.1 c.2.1 s.2.2.1).2 = 0 ∧ (c.2.2.length : Int) ≤ (kA l s).2 := by
  unfold kV at h
  split at h
  · exact absurd h (by simp)
  split at h
  · rename_i q; exact absurd h q
  rename_i q
  split at h
  · exact absurd h (by simp)
  exact ⟨by omega, by simpa using q, by omega⟩
theorem wK (l : cA) (vs : List bh) (fs : List cf) : Ct prog 104 [.tv cz l, .tv (ab aS) vs, .tv (ab cq) fs] (.tup2 (.raw (.int .i64 (iM l.1 vs fs).1)) (.raw (.int .i64 (iM l.1 vs fs).2))) := by
  refine ay func104 rfl rfl ntmps104 rfl rfl ?_
  intro w0 ok0
  refine eE 1 rfl (fun hl1 => ?_)
  refine eE 2 rfl (fun hl2 => ?_)
  refine zR (zb (.tv (.b rfl)) (zA rfl (zY rfl (aa (ae (zR (zM rfl (zN gA rfl (zM rfl (zN ei rfl (zt rfl rfl (zZ ?_))))))))))))
  refine af rfl (fun h1 => ?_) (fun h1 => ?_)
  · have h1 : vs.length < fs.length := by simp at h1; omega
    refine zR (zM rfl (zN gA rfl (zA rfl (zY rfl (aa (am (ai ?_)))))))
    exact z2 results104 rfl rfl (by unfold iM; rw [if_pos h1])
  have h1 : ¬ vs.length < fs.length := by simp at h1; omega
  refine ah (aa (ae (zR (zM rfl (zN gA rfl (zM rfl (zN ei rfl (zJ (bY (.b rfl) (.b rfl)) (zZ ?_)))))))))
  refine af rfl (fun h3 => ?_) (fun h3 => ?_)
  · have h3 : fs.length < vs.length := by simp at h3; omega
    refine zR (zM rfl (zN ei rfl (zA rfl (zY rfl (aa (am (ai ?_)))))))
    exact z2 results104 rfl rfl (by unfold iM; rw [if_neg h1, if_pos h3])
  have h3 : ¬ fs.length < vs.length := by simp at h3; omega
  refine ah (aa (ae (zR (zM rfl (zN gA rfl (zM rfl (zZ (aq ?_))))))))
  refine aZ (ι := Nat) (fun k => ⟨[(2, .tv (ab cq) fs), (3, .optr 3 cz.n 0 0), (27, .tv (ab aS) vs), (28, .raw (.int .i64 (vs.length))), (29, .raw (.int .i64 ((k : Nat))))], [(3, ⟨cz, [l]⟩)]⟩) (fun k => k ≤ vs.length ∧ ∀ j, j < k → (oY l.1 (vs[j]?.getD vaD) (fs[j]?.getD fiD).2 != 0) = false) (fun k => vs.length - k) 0 (⟨Nat.zero_le _, fun j hj => by omega⟩) (fun a w hi => (zI hi)) ?_
  rintro k ⟨hk, hno⟩
  refine zR (zt rfl rfl (zZ (ae ?_)))
  refine af rfl (fun h6 => ?_) (fun h6 => ?_)
  · have h6 : k < vs.length := by simpa using h6
    have h6b : k < fs.length := by omega
    have hg1 : vs[k]?.getD vaD = vs[k] := by rw [List.getElem?_eq_getElem h6]; rfl
    have hg2 : fs[k]?.getD fiD = fs[k] := by rw [List.getElem?_eq_getElem h6b]; rfl
    refine ah (aa (ae (aq (zR (zM rfl ?_)))))
    refine bc _ rfl _ rfl rfl (al gA bI (.b rfl) (.b rfl) rfl zg) ?_
    refine zD bI rfl (zl z183 (zA rfl (zC bI rfl rfl rfl (Lens.id _) (.tv (.b rfl)) (zZ (zR (zM rfl (zM rfl ?_)))))))
    refine bc _ rfl _ rfl rfl (al ei e8 (.b rfl) (.b rfl) rfl zg) ?_
    refine zB gq fN rfl (zD aE rfl (zl z90 (zC aE rfl rfl rfl (Lens.id _) (.tv (.b rfl)) (zZ (ae (zR (zF fg rfl (zL ty3 rfl rfl rfl dA (zF bR rfl (zL ty3 rfl rfl rfl bN (zJ (bQ (.b rfl) (.b rfl)) (zM rfl (zG rfl rfl (fun hg => ao j9 (.b rfl)) (zG rfl rfl (fun hg => aj ty3 (.gd rfl hg) rfl rfl iH) (zG rfl rfl (fun hg => ao dV (.b rfl)) (zG rfl rfl (fun hg => aj ty3 (.gd rfl hg) rfl rfl ez) (zG rfl rfl (fun hg => bQ (.gd rfl hg) (.gd rfl hg)) (zJ (aB (.b rfl) (.b rfl) rfl zp) (zZ ?_)))))))))))))))))))
    refine af rfl (fun h9 => ?_) (fun h9 => ?_)
    · have h9 : vs[k].1 ≠ fs[k].2.1 ∨ vs[k].2.1 ≠ fs[k].2.2 := by simp [List.getElem?_eq_getElem h6b] at h9; exact Classical.or_iff_not_imp_left.2 (fun q => by first | exact h9 (by simpa using q) | (rcases h9 with h9 | h9; exact absurd h9 q; exact h9))
      refine zR (zM rfl (zA rfl (zY rfl (aa (am (ai (av (ai (bL (av (ai ?_)))))))))))
      exact z2 results104 rfl rfl (by unfold iM; rw [if_neg h1, if_neg h3, fz h6 (by rw [hg1, hg2]; unfold oY; rw [if_pos h9]; rfl) hno]; simp only [hg1, hg2]; unfold oY; rw [if_pos h9])
    have h9 : ¬ (vs[k].1 ≠ fs[k].2.1 ∨ vs[k].2.1 ≠ fs[k].2.2) := by simp [List.getElem?_eq_getElem h6b] at h9; simp [h9]
    refine ah (aa (zR (zL aE rfl rfl rfl (Lens.id _) (zF es rfl (zL hU rfl rfl rfl fy (zJ (an (iU _ _) (.cons (.b rfl) (.cons (.b rfl) .nil)) rfl rfl) (zM rfl (zJ (bj (.b rfl)) (zJ (bi (.b rfl)) (zA rfl (zY rfl (aa (zR (zF cw rfl (zL ty3 rfl rfl rfl cp (zM rfl (zt rfl rfl (zM rfl (zG rfl rfl (fun hg => ao cw (.b rfl)) (zG rfl rfl (fun hg => aj ty3 (.gd rfl hg) rfl rfl cp) (zG rfl rfl (fun hg => ag (.b rfl)) (zG rfl rfl (fun hg => bY (.gd rfl hg) (.gd rfl hg)) (zJ (aB (.b rfl) (.b rfl) rfl zp) (zZ ?_))))))))))))))))))))))))
    refine af rfl (fun h12 => ?_) (fun h12 => ?_)
    · have h12 : vs[k].2.2 < (aJ fs[k].2 l.1).1 ∨ (aJ fs[k].2 l.1).2 < vs[k].2.2 := by simp [List.getElem?_eq_getElem h6b] at h12; omega
      refine zR (zM rfl (zA rfl (zY rfl (aa (am (av (ai (bL (av (ai ?_))))))))))
      exact z2 results104 rfl rfl (by unfold iM; rw [if_neg h1, if_neg h3, fz h6 (by rw [hg1, hg2]; unfold oY; rw [if_neg h9, if_pos h12]; rfl) hno]; simp only [hg1, hg2]; unfold oY; rw [if_neg h9, if_pos h12])
    have h12 : ¬ (vs[k].2.2 < (aJ fs[k].2 l.1).1 ∨ (aJ fs[k].2 l.1).2 < vs[k].2.2) := by simp [List.getElem?_eq_getElem h6b] at h12; omega
    refine ah (aG (aa (ac (zU rfl rfl zw (zM rfl (aN ?_))))))
    exact aD (fun a w hi => ⟨k + 1, zj, (⟨by omega, jA hno (by rw [hg1, hg2]; unfold oY; rw [if_neg h9, if_neg h12]; rfl)⟩), (zI hi)⟩)
  have h6 : k = vs.length := by simp at h6; omega
  refine bg (be (aY (bf (aa (ae (ac (zA rfl (zA rfl (zQ [6,7] [] (aa (am ?_)))))))))))
  exact z2 results104 rfl rfl (by unfold iM; rw [if_neg h1, if_neg h3, gQ (by rw [← h6]; exact hno)])
theorem B5 (l : cA) (i : Nat) (hi : i < l.2.2.length) : Ct prog 105 [.tv cz l, .raw (.int .i64 (i : Nat))] (.tup2 (.tv (ab cq) (kA l l.2.2[i]).1) (.raw (.int .i64 (kA l l.2.2[i]).2))) := by
  refine ay func105 rfl rfl ntmps105 rfl rfl ?_
  intro w0 ok0
  refine zR (zb (.tv (.b rfl)) (zA rfl (zY rfl (aa (zR (zF cN rfl (zL gB rfl rfl rfl du (zM rfl ?_))))))))
  refine bc _ rfl _ rfl rfl (al fx dx (.b rfl) (.b rfl) rfl zg) ?_
  refine zB gu gM rfl (zD ty3 rfl (zY rfl (aa (ae (zR (zM rfl (zt rfl rfl (zM rfl (zG rfl rfl (fun hg => ag (.b rfl)) (zG rfl rfl (fun hg => ao cN (.b rfl)) (zG rfl rfl (fun hg => aj gB (.gd rfl hg) rfl rfl du) (zG rfl rfl (fun hg => cJ fx (.gd rfl hg)) (zG rfl rfl (fun hg => bW (.gd rfl hg) (.gd rfl hg)) (zJ (aB (.b rfl) (.b rfl) rfl zp) (zZ ?_)))))))))))))))
  refine af rfl (fun h2 => ?_) (fun h2 => ?_)
  · have h2 : ¬ (0 ≤ l.2.2[i].2.1 ∧ l.2.2[i].2.1 < l.2.2.length) := by simp at h2; omega
    refine zR (zA rfl (zY rfl (aa (am (ai ?_)))))
    exact aK results105 (dl rfl) (aw rfl) ⟨rfl, rfl⟩ (by unfold kA; rw [uP h2])
  have h2 : 0 ≤ l.2.2[i].2.1 ∧ l.2.2[i].2.1 < l.2.2.length := by simp at h2; omega
  refine ah (aa (zR (zF cN rfl (zL gB rfl rfl rfl du (zM rfl ?_)))))
  refine bc _ rfl _ rfl rfl (al fx dx (.b rfl) (.b rfl) (Int.toNat_of_nonneg h2.1).symm zg) ?_
  refine zB fm fO rfl (zD fj rfl (zA rfl (zY rfl (aa (am ?_)))))
  exact z2 results105 rfl rfl (by unfold kA; rw [uO h2]; rfl)
theorem BG (l : cA) (i : Nat) (c : gz) (hi0 : i < l.2.2.length) (hcl : c.2.2.length ≤ 1000000) : Ct prog 58 [.tv cz l, .raw (.int .i64 (i : Nat)), .tv ej c] (.tup3 (.raw (.int .i64 (kV l l.2.2[i] c).1)) (.raw (.int .i64 (kV l l.2.2[i] c).2.1)) (.raw (.int .i64 (kV l l.2.2[i] c).2.2))) := by
  refine ay func58 rfl rfl ntmps58 rfl rfl ?_
  intro w0 ok0
  refine zR (zb (.tv (.b rfl)) (zb (.tv (.b rfl)) (zA rfl (zA rfl (zY rfl (aa (ae (zR (zM rfl (zt rfl rfl (zM rfl (zG rfl rfl (fun hg => ag (.b rfl)) (zG rfl rfl (fun hg => ao cN (.b rfl)) (zG rfl rfl (fun hg => aj gB (.gd rfl hg) rfl rfl du) (zG rfl rfl (fun hg => cJ fx (.gd rfl hg)) (zG rfl rfl (fun hg => bW (.gd rfl hg) (.gd rfl hg)) (zJ (aB (.b rfl) (.b rfl) rfl zp) (zZ ?_))))))))))))))))))
  refine af rfl (fun h1 => ?_) (fun h1 => ?_)
  · exfalso; simp at h1; omega
  skip
  refine ah (aa (ae (zR (zF iJ rfl (zL ty3 rfl rfl rfl jN (zt rfl rfl (zM rfl (zG rfl rfl (fun hg => ao iJ (.b rfl)) (zG rfl rfl (fun hg => aj ty3 (.gd rfl hg) rfl rfl jN) (zG rfl rfl (fun hg => bY (.gd rfl hg) (.b rfl)) (zJ (aB (.b rfl) (.b rfl) rfl zp) (zZ ?_))))))))))))
  refine af rfl (fun h3 => ?_) (fun h3 => ?_)
  · have h3 : c.1 < 0 ∨ 109572 < c.1 := by simp at h3; omega
    refine zR (zA rfl (zA rfl (zY rfl (aa (am (ai ?_))))))
    exact cS results58 (aw rfl) (aw rfl) (aw rfl) ⟨rfl, rfl, rfl⟩ (by unfold kV; rw [if_pos h3])
  have h3 : ¬ (c.1 < 0 ∨ 109572 < c.1) := by simp at h3; omega
  refine ah (aa (ae (ae ?_)))
  refine dN mo zk ( zS (aj e9 (.b rfl) rfl rfl (Lens.id _)) ( zS (ao sx (.b rfl)) ( zS (aj jk (.b rfl) rfl rfl rZ) ( zS (ao cN (.b rfl)) ( zS (aj gB (.b rfl) rfl rfl du) ( zS (ag (.b rfl)) ( zS (al fx dx (.b rfl) (.b rfl) rfl zg) ( zS (aO fm fO (.b rfl)) ( zS (aA fj (.b rfl)) ( zS (an (wK _ _ _) (.cons (.b rfl) (.cons (.b rfl) (.cons (.b rfl) .nil))) rfl rfl) ( zS (ag (.b rfl)) ( zS (bj (.b rfl)) ( zS (bi (.b rfl)) ( zS (aU (.b rfl)) ( zS (aU (.b rfl)) ( AS.nil)))))))))))))))) ?_
  refine aa (zR (zM rfl (zJ (bQ (.b rfl) (.b rfl)) (zZ ?_))))
  refine af rfl (fun h6 => ?_) (fun h6 => ?_)
  · have h6 : (iM l.1 c.2.1 l.2.2[i].2.2.1).2 ≠ 0 := by simpa using h6
    refine zR (zM rfl (zM rfl (zA rfl (zA rfl (zY rfl (aa (am (ai ?_))))))))
    exact cS results58 (aw rfl) (aw rfl) (aw rfl) ⟨rfl, rfl, rfl⟩ (by unfold kV; rw [if_neg h3, if_pos h6])
  have h6 : ¬ (iM l.1 c.2.1 l.2.2[i].2.2.1).2 ≠ 0 := by simpa using h6
  refine ah (aa (zR (zL e9 rfl rfl rfl (Lens.id _) (zM rfl (zJ (an (B5 _ _ hi0) (.cons (.b rfl) (.cons (.b rfl) .nil)) rfl rfl) (zM rfl (zJ (bj (.b rfl)) (zJ (bi (.b rfl)) (zA rfl (zY rfl (aa (ae (zR (zF lZ rfl (zL uB rfl rfl rfl oh (zN qH rfl (zM rfl (zJ (bY (.b rfl) (.b rfl)) (zZ ?_)))))))))))))))))))
  refine af rfl (fun h9 => ?_) (fun h9 => ?_)
  · have h9 : (kA l l.2.2[i]).2 < c.2.2.length := by simp at h9; omega
    refine zR (zM rfl (zA rfl (zA rfl (zY rfl (aa (am (ai ?_)))))))
    exact cS results58 (aw rfl) (aw rfl) (aw rfl) ⟨rfl, rfl, rfl⟩ (by unfold kV; rw [if_neg h3, if_neg h6, if_pos h9])
  have h9 : ¬ (kA l l.2.2[i]).2 < c.2.2.length := by simp at h9; omega
  refine ah (aa (ae (zR (zF lZ rfl (zL uB rfl rfl rfl oh (zN qH rfl (zM rfl (zZ (aq ?_)))))))))
  refine aZ (ι := Nat) (fun k => ⟨[(3, .optr 3 cz.n 0 0), (11, .tv (ab cq) (kA l l.2.2[i]).1), (64, .tv (ab (ab aS)) c.2.2), (65, .raw (.int .i64 (c.2.2.length))), (66, .raw (.int .i64 ((k : Nat))))], [(3, ⟨cz, [l]⟩)]⟩) (fun k => k ≤ c.2.2.length ∧ ∀ j, j < k → ((iM l.1 (c.2.2[j]?.getD []) (kA l l.2.2[i]).1).2 != 0) = false) (fun k => c.2.2.length - k) 0 (⟨Nat.zero_le _, fun j hj => by omega⟩) (fun a w hi => (zI hi)) ?_
  rintro k ⟨hk, hno⟩
  refine zR (zt rfl rfl (zZ (ae ?_)))
  refine af rfl (fun h12 => ?_) (fun h12 => ?_)
  · have h12 : k < c.2.2.length := by simpa using h12
    have hge : c.2.2[k]?.getD [] = c.2.2[k] := by rw [List.getElem?_eq_getElem h12]; rfl
    refine ah (aa (ae (aq (zR (zM rfl ?_)))))
    refine bc _ rfl _ rfl rfl (al qH jk (.b rfl) (.b rfl) rfl zg) ?_
    refine zD jk rfl (zA rfl (zY rfl (aa (zR (zL e9 rfl rfl rfl (Lens.id _) (zM rfl (zM rfl (zJ (an (wK _ _ _) (.cons (.b rfl) (.cons (.b rfl) (.cons (.b rfl) .nil))) rfl rfl) (zM rfl (zJ (bj (.b rfl)) (zJ (bi (.b rfl)) (zA rfl (zY rfl (aa (zR (zM rfl (zJ (bQ (.b rfl) (.b rfl)) (zZ ?_))))))))))))))))))
    refine af rfl (fun h15 => ?_) (fun h15 => ?_)
    · have h15 : ¬ (iM l.1 c.2.2[k] (kA l l.2.2[i]).1).2 = 0 := by simpa using h15
      refine zR (zM rfl (zM rfl (zM rfl (zA rfl (zA rfl (zA rfl (zQ [6,7,8] [] (aa (am (av (ai (bL (av (ai ?_))))))))))))))
      exact cS results58 (aw rfl) (aw rfl) (aw rfl) ⟨rfl, rfl, rfl⟩ (by unfold kV; rw [if_neg h3, if_neg h6, if_neg h9, fz h12 (by rw [hge]; simpa using h15) hno]; simp only [hge])
    have h15 : (iM l.1 c.2.2[k] (kA l l.2.2[i]).1).2 = 0 := by simpa using h15
    refine ah (aG (aa (ac (zU rfl rfl zw (zM rfl (aN ?_))))))
    exact aD (fun a w hi => ⟨k + 1, zj, (⟨by omega, jA hno (by rw [hge, h15]; rfl)⟩), (zI hi)⟩)
  have h12 : k = c.2.2.length := by simp at h12; omega
  refine bg (be (aY (bf (aa (ae (ac (zA rfl (zA rfl (zY rfl (aa (am ?_)))))))))))
  exact cS results58 (aw rfl) (aw rfl) (aw rfl) ⟨rfl, rfl, rfl⟩ (by unfold kV; rw [if_neg h3, if_neg h6, if_neg h9, gQ (by rw [← h12]; exact hno)])
def SmC (c : gz) : Prop := (c.2.1.length ≤ 14 ∧ c.2.2.length ≤ 10) ∧ ∀ m ∈ c.2.2, m.length ≤ 14
theorem smC_ok (c : gz) : Ct prog 20 [.tv ej c] (.raw (.bool (dB (SmC c)))) := by
  refine ay func20 rfl rfl ntmps20 rfl rfl ?_
  intro w0 ok0
  refine zR (zb (.tv (.b rfl)) (zY rfl (aa (ae (zR (zF sx rfl (zL jk rfl rfl rfl rZ (zN gA rfl (zJ (bY (.b rfl) (.b rfl)) (zM rfl (zG rfl rfl (fun hg => ao lZ (.b rfl)) (zG rfl rfl (fun hg => aj uB (.gd rfl hg) rfl rfl oh) (zG rfl rfl (fun hg => cJ qH (.gd rfl hg)) (zG rfl rfl (fun hg => bY (.gd rfl hg) (.b rfl)) (zJ (aB (.b rfl) (.b rfl) rfl zp) (zZ ?_))))))))))))))))
  refine af rfl (fun h1 => ?_) (fun h1 => ?_)
  · have h1 : ¬ (c.2.1.length ≤ 14 ∧ c.2.2.length ≤ 10) := by simp at h1; omega
    refine zR (zY rfl (aa (am (ai ?_))))
    exact z1 results20 rfl (rb ((qx (fun q => h1 q.1)).symm))
  have h1 : c.2.1.length ≤ 14 ∧ c.2.2.length ≤ 10 := by simp at h1; omega
  refine ah (aa (ae (zR (zY rfl (aa (aq ?_))))))
  refine aZ (ι := Nat) (fun k => ⟨[(1, .optr 1 ej.n 0 0), (3, .raw (.int .i64 ((k : Nat))))], [(1, ⟨ej, [c]⟩)]⟩) (fun k => k ≤ c.2.2.length ∧ ∀ x ∈ c.2.2.take k, x.length ≤ 14) (fun k => c.2.2.length - k) 0 (⟨Nat.zero_le _, nU _⟩) (fun a w hi => (zI hi)) ?_
  rintro k ⟨hk, hp⟩
  refine ae (zR (zM rfl (zF lZ rfl (zL uB rfl rfl rfl oh (zN qH rfl (zt rfl rfl (zZ ?_)))))))
  refine af rfl (fun h4 => ?_) (fun h4 => ?_)
  · have h4 : k < c.2.2.length := by simpa using h4
    refine ah (aa (ae (aq (zR (zF lZ rfl (zL uB rfl rfl rfl oh (zM rfl ?_)))))))
    refine bc _ rfl _ rfl rfl (al qH jk (.b rfl) (.b rfl) rfl zg) ?_
    refine zD jk rfl (zN gA rfl (zJ (bY (.b rfl) (.b rfl)) (zZ ?_)))
    refine af rfl (fun h6 => ?_) (fun h6 => ?_)
    · have h6 : ¬ c.2.2[k].length ≤ 14 := by simp at h6; omega
      refine zR (zY rfl (aa (am (av (ai (bL (av (ai ?_))))))))
      exact z1 results20 rfl (rb ((qx (fun q => h6 (q.2 _ (List.getElem_mem h4)))).symm))
    have h6 : c.2.2[k].length ≤ 14 := by simp at h6; omega
    refine ah (aG (aa (ac (zM rfl (zU rfl rfl zw (zY rfl ?_))))))
    exact aD (fun a w hi => ⟨k + 1, zj, (⟨by omega, fi h4 hp h6⟩), (zI hi)⟩)
  have h4 : c.2.2.length ≤ k := by simpa using h4
  refine bg (be (aY (bf (aa (ae (ac (zY rfl (aa (am ?_)))))))))
  exact z1 results20 rfl (rb ((CE (⟨h1, hO h4 hp⟩)).symm))
end Go.Proofs.YtehcaebnijlhgaaGreatDoor
namespace Go.Proofs.YtehcaebnijlhgaaGreatDoor
open Go.Eng
set_option maxRecDepth 100000
set_option maxHeartbeats 4000000
theorem kG {n : Int} {l : List bE} {s : a6} (h : (cW n l s).2 = 0) : au (cW n l s).1 s.1 = true := by
  unfold cW at h ⊢
  split at h
  · simp at h
  split at h
  · simp at h
  rename_i a b; rw [if_neg a, if_neg b]; simpa using b
theorem p4 {d : aP} {l : List bE} {s : a6} (hv : ∀ t ∈ l, au t s.1 = true) (h : (bG d l s).2 = 0) : au (bG d l s).1 s.1 = true := by
  unfold bG at h ⊢
  by_cases c1 : 1 ≤ d.1 ∧ d.1 ≤ 5
  · rw [if_pos c1] at h ⊢; unfold dY at h ⊢; split at h
    · simp at h
    rename_i c; rw [if_neg c]; simp [au, c1]
  rw [if_neg c1] at h ⊢
  by_cases c2 : d.1 = 6
  · rw [if_pos c2] at h ⊢; unfold gx at h ⊢
    split at h
    · simp at h
    split at h
    · simp at h
    rename_i a b; rw [if_neg a, if_neg b]; simp [au]; omega
  rw [if_neg c2] at h ⊢
  by_cases c3 : d.1 = 7
  · rw [if_pos c3] at h ⊢; exact kG h
  rw [if_neg c3] at h ⊢
  by_cases c4 : d.1 = 8
  · rw [if_pos c4] at h ⊢; exact kG h
  rw [if_neg c4] at h ⊢
  by_cases c5 : d.1 = 9
  · rw [if_pos c5]; simp [au]
  rw [if_neg c5] at h ⊢
  by_cases c6 : d.1 = 33 ∨ d.1 = 34
  · rw [if_pos c6] at h ⊢; unfold dJ at h ⊢
    split at h
    · simp at h
    split at h
    · simp at h
    split at h
    · simp at h
    rename_i a b c; rw [if_neg a, if_neg b, if_neg c]
    simp only [not_or, Bool.not_eq_false] at c
    split at h
    · rename_i e; rw [if_pos e]; split at h
      · simp at h
      rename_i m; rw [if_neg m]; exact c.1
    rename_i e; rw [if_neg e]; exact c.2.1
  rw [if_neg c6] at h ⊢
  by_cases c7 : 35 ≤ d.1 ∧ d.1 ≤ 39
  · rw [if_pos c7] at h ⊢; unfold bA at h ⊢
    split at h
    · simp at h
    split at h
    · rename_i a b; rw [if_neg a, if_pos b]; simp [au]
    split at h
    · rename_i a; exact absurd h a
    split at h
    · rename_i a b c e; rw [if_neg a, if_neg b, if_neg c, if_pos e]; exact kG (by simpa using c)
    simp at h
  rw [if_neg c7] at h ⊢
  by_cases c8 : (14 ≤ d.1 ∧ d.1 ≤ 16) ∧ eS d.2 = false
  · rw [if_pos c8] at h; simp at h
  rw [if_neg c8] at h ⊢
  by_cases c9 : (aH d.1 l).2 = false
  · rw [if_pos c9] at h; simp at h
  rw [if_neg c9]; simp only
  have c9 : (aH d.1 l).2 = true := by simpa using c9
  clear h c1 c2 c3 c4 c5 c6 c7 c8
  unfold aH at c9 ⊢
  match l, hv, c9 with
  | [], _, c9 => simp at c9
  | [a], hv, c9 => simp at c9 hv ⊢; (repeat' split at c9) <;> simp_all [au]
  | [a, b], hv, c9 =>
    simp only [List.mem_cons, List.not_mem_nil, or_false, forall_eq_or_imp, forall_eq] at hv
    simp only at c9 ⊢
    split at c9
    · rename_i e; rw [if_pos e]; exact hv.1
    rename_i e; rw [if_neg e]
    split at c9
    · rename_i e; rw [if_pos e]; unfold cO at c9 ⊢; (repeat' split at c9) <;> simp_all [au] <;> omega
    rename_i e; rw [if_neg e]
    (repeat' split at c9) <;> simp_all [au]
  | [a, b, c], hv, c9 => simp at c9 hv ⊢; split at c9 <;> simp_all
  | _ :: _ :: _ :: _ :: _, _, c9 => simp at c9
end Go.Proofs.YtehcaebnijlhgaaGreatDoor
namespace Go.Proofs.YtehcaebnijlhgaaGreatDoor.C23
open Go.Eng Tryz
set_option maxRecDepth 100000
set_option maxHeartbeats 4000000
def cP (op : Int) : Bool := decide (2 ≤ op ∧ op ≤ 6)
def dg (op : Int) : Bool := decide (19 ≤ op ∧ op ≤ 22)
def opA (e : List aP) (at_ : Int) : aP := e[((cV e at_)[0]?.getD 0).toNat]?.getD (0, 0)
def opB (e : List aP) (at_ : Int) : aP := e[((cV e at_)[1]?.getD 0).toNat]?.getD (0, 0)
def cn (e : List aP) (at_ : Int) : Int × aP × Bool :=
  if (cV e at_).length ≠ 2 then (0, (0, 0), false) else if (opA e at_).1 = 7 ∧ cP (opB e at_).1 = true then ((opA e at_).2, opB e at_, true)
  else if (opB e at_).1 = 7 ∧ cP (opA e at_).1 = true then ((opB e at_).2, opA e at_, true) else (0, (0, 0), false)
def svS (R : Int × aP × Bool) : SV := .tup3 (.raw (.int .i64 R.1)) (.tv bX R.2.1) (.raw (.bool R.2.2))
theorem rH {R : Int × aP × Bool} {a : Int} {b : aP} {c : Bool} (h : (a, b, c) = R) : SV.tup3 (.raw (.int .i64 a)) (SV.of bX b) (.raw (.bool c)) = svS R := by subst h; rfl
theorem pV {R : List Int} : ∀ (n : Nat) (rs : List Int) (t : Int), fv R t rs → n ≤ rs.length → ∀ x ∈ opd R n t, 0 ≤ x ∧ x < t
  | 0, _, _, _, _, x, hx => by simp [opd] at hx
  | n + 1, [], _, _, h, _, _ => by simp at h
  | n + 1, s :: r, t, hc, h, x, hx => by
    rw [opd, hc.2.2.1, Option.getD_some] at hx
    have h1 := hc.1; have h2 := hc.2.1
    rcases List.mem_append.1 hx with hx | hx
    · have := pV n r s hc.2.2.2 (by simpa using h) x hx; omega
    obtain rfl := List.mem_singleton.1 hx; omega
theorem uJ (e : List aP) (at_ : Int) : ∀ x ∈ cV e at_, 0 ≤ x ∧ x < e.length := by
  intro x hx
  unfold cV at hx
  split at hx
  · simp at hx
  rename_i h
  have hk : at_.toNat < e.length := by omega
  obtain ⟨_, _, _, _, hops⟩ := fL (e := e) zo
  obtain ⟨h0, rs, hc, hl, _⟩ := hops at_.toNat hk
  rw [List.getElem?_eq_getElem hk, Option.getD_some] at hx
  have e1 : ((at_.toNat : Nat) : Int) = at_ := Int.toNat_of_nonneg zo
  rw [e1] at hc
  have := pV _ rs at_ hc zo x hx
  omega
theorem kI (d : aP) : Ct prog 70 [.tv bX d] (.raw (.bool (cP d.1))) := by
  refine ay func70 rfl rfl ntmps70 rfl rfl ?_
  intro w0 ok0
  refine zR (zb (.tv (.b rfl)) (zY rfl (aa (ae (zR (zF bU rfl (zL ty3 rfl rfl rfl cb (zZ (aq (ae (zR (ze rfl rfl (zY rfl (aa ?_))))))))))))))
  refine af rfl (fun h2 => ?_) (fun h2 => ?_)
  · have g2 := h2; try simp at h2
    refine ah (aa ?_)
    refine bz rfl g2 (ae ?_)
    refine ac (zY rfl (aa (am (av (ai ?_)))))
    exact z1 results70 rfl (rb (by subst_vars; first | rfl | (simp [cP]; done) | (simp [cP, *]; done) | (rw [Bool.eq_iff_iff]; simp [cP, *]; omega) | (rw [Bool.eq_iff_iff]; simp [cP]; omega) | (unfold cP; simp; omega)))
  have g2 := h2; try simp at h2
  refine zR (ze rfl rfl (zY rfl (aa ?_)))
  refine af rfl (fun h3 => ?_) (fun h3 => ?_)
  · have g3 := h3; try simp at h3
    refine ah (aa ?_)
    refine bz rfl g3 (ae ?_)
    refine ac (zY rfl (aa (am (av (ai ?_)))))
    exact z1 results70 rfl (rb (by subst_vars; first | rfl | (simp [cP]; done) | (simp [cP, *]; done) | (rw [Bool.eq_iff_iff]; simp [cP, *]; omega) | (rw [Bool.eq_iff_iff]; simp [cP]; omega) | (unfold cP; simp; omega)))
  have g3 := h3; try simp at h3
  refine zR (ze rfl rfl (zY rfl (aa ?_)))
  refine af rfl (fun h4 => ?_) (fun h4 => ?_)
  · have g4 := h4; try simp at h4
    refine ah (aa ?_)
    refine bz rfl g4 (ae ?_)
    refine ac (zY rfl (aa (am (av (ai ?_)))))
    exact z1 results70 rfl (rb (by subst_vars; first | rfl | (simp [cP]; done) | (simp [cP, *]; done) | (rw [Bool.eq_iff_iff]; simp [cP, *]; omega) | (rw [Bool.eq_iff_iff]; simp [cP]; omega) | (unfold cP; simp; omega)))
  have g4 := h4; try simp at h4
  refine zR (ze rfl rfl (zY rfl (aa ?_)))
  refine af rfl (fun h5 => ?_) (fun h5 => ?_)
  · have g5 := h5; try simp at h5
    refine ah (aa ?_)
    refine bz rfl g5 (ae ?_)
    refine ac (zY rfl (aa (am (av (ai ?_)))))
    exact z1 results70 rfl (rb (by subst_vars; first | rfl | (simp [cP]; done) | (simp [cP, *]; done) | (rw [Bool.eq_iff_iff]; simp [cP, *]; omega) | (rw [Bool.eq_iff_iff]; simp [cP]; omega) | (unfold cP; simp; omega)))
  have g5 := h5; try simp at h5
  refine ac (ze rfl rfl (zY rfl (aa ?_)))
  refine af rfl (fun h6 => ?_) (fun h6 => ?_)
  · have g6 := h6; try simp at h6
    refine zR (zY rfl (aa (am (av (ai ?_)))))
    exact z1 results70 rfl (rb (by subst_vars; first | rfl | (simp [cP]; done) | (simp [cP, *]; done) | (rw [Bool.eq_iff_iff]; simp [cP, *]; omega) | (rw [Bool.eq_iff_iff]; simp [cP]; omega) | (unfold cP; simp; omega)))
  have g6 := h6; try simp at h6
  refine ah (aG (aa (zR (zY rfl (aa (am ?_))))))
  exact z1 results70 rfl (rb (by subst_vars; first | rfl | (simp [cP]; done) | (simp [cP, *]; done) | (rw [Bool.eq_iff_iff]; simp [cP, *]; omega) | (rw [Bool.eq_iff_iff]; simp [cP]; omega) | (unfold cP; simp; omega)))
theorem kR (d : aP) : Ct prog 71 [.tv bX d] (.raw (.bool (dg d.1))) := by
  refine ay func71 rfl rfl ntmps71 rfl rfl ?_
  intro w0 ok0
  refine zR (zb (.tv (.b rfl)) (zY rfl (aa (ae (zR (zF bU rfl (zL ty3 rfl rfl rfl cb (zZ (aq (ae (zR (ze rfl rfl (zY rfl (aa ?_))))))))))))))
  refine af rfl (fun h2 => ?_) (fun h2 => ?_)
  · have g2 := h2; try simp at h2
    refine ah (aa ?_)
    refine bz rfl g2 (ae ?_)
    refine ac (zY rfl (aa (am (av (ai ?_)))))
    exact z1 results71 rfl (rb (by subst_vars; first | rfl | (simp [dg]; done) | (simp [dg, *]; done) | (rw [Bool.eq_iff_iff]; simp [dg, *]; omega) | (rw [Bool.eq_iff_iff]; simp [dg]; omega) | (unfold dg; simp; omega)))
  have g2 := h2; try simp at h2
  refine zR (ze rfl rfl (zY rfl (aa ?_)))
  refine af rfl (fun h3 => ?_) (fun h3 => ?_)
  · have g3 := h3; try simp at h3
    refine ah (aa ?_)
    refine bz rfl g3 (ae ?_)
    refine ac (zY rfl (aa (am (av (ai ?_)))))
    exact z1 results71 rfl (rb (by subst_vars; first | rfl | (simp [dg]; done) | (simp [dg, *]; done) | (rw [Bool.eq_iff_iff]; simp [dg, *]; omega) | (rw [Bool.eq_iff_iff]; simp [dg]; omega) | (unfold dg; simp; omega)))
  have g3 := h3; try simp at h3
  refine zR (ze rfl rfl (zY rfl (aa ?_)))
  refine af rfl (fun h4 => ?_) (fun h4 => ?_)
  · have g4 := h4; try simp at h4
    refine ah (aa ?_)
    refine bz rfl g4 (ae ?_)
    refine ac (zY rfl (aa (am (av (ai ?_)))))
    exact z1 results71 rfl (rb (by subst_vars; first | rfl | (simp [dg]; done) | (simp [dg, *]; done) | (rw [Bool.eq_iff_iff]; simp [dg, *]; omega) | (rw [Bool.eq_iff_iff]; simp [dg]; omega) | (unfold dg; simp; omega)))
  have g4 := h4; try simp at h4
  refine ac (ze rfl rfl (zY rfl (aa ?_)))
  refine af rfl (fun h5 => ?_) (fun h5 => ?_)
  · have g5 := h5; try simp at h5
    refine zR (zY rfl (aa (am (av (ai ?_)))))
    exact z1 results71 rfl (rb (by subst_vars; first | rfl | (simp [dg]; done) | (simp [dg, *]; done) | (rw [Bool.eq_iff_iff]; simp [dg, *]; omega) | (rw [Bool.eq_iff_iff]; simp [dg]; omega) | (unfold dg; simp; omega)))
  have g5 := h5; try simp at h5
  refine ah (aG (aa (zR (zY rfl (aa (am ?_))))))
  exact z1 results71 rfl (rb (by subst_vars; first | rfl | (simp [dg]; done) | (simp [dg, *]; done) | (rw [Bool.eq_iff_iff]; simp [dg, *]; omega) | (rw [Bool.eq_iff_iff]; simp [dg]; omega) | (unfold dg; simp; omega)))
theorem pK (e : List aP) (at_ : Int) : Ct prog 72 [.tv (ab bX) e, .raw (.int .i64 at_)] (svS (cn e at_)) := by
  refine ay func72 rfl rfl ntmps72 rfl rfl ?_
  intro w0 ok0
  refine zR (zA rfl (zl kT (zY rfl (aa (zR (zM rfl (zM rfl (zJ (an (tA _ _) (.cons (.b rfl) (.cons (.b rfl) .nil)) rfl rfl) (zY rfl (aa (ae (zR (zM rfl (zN bd rfl (zJ (bQ (.b rfl) (.b rfl)) (zZ ?_))))))))))))))))
  refine af rfl (fun h2 => ?_) (fun h2 => ?_)
  · try simp at h2
    refine zR (zJ (aI kT rfl tx .nil) (zA rfl (zC cl rfl rfl rfl (Lens.id _) (.tv (.b rfl)) (zY rfl (aa (am (ai ?_)))))))
    exact cS results72 (aw rfl) (ax cl rfl rfl rfl (Lens.id bX)) (aw rfl) ⟨rfl, rfl, rfl⟩ (rH (by unfold cn; rw [if_pos zo]))
  try simp at h2
  refine ah (aa (ae ?_))
  have hl2 : (cV e at_).length = 2 := by omega
  have hb := uJ e at_
  have hb0 := hb _ (List.getElem_mem (show 0 < (cV e at_).length by omega))
  have hb1 := hb _ (List.getElem_mem (show 1 < (cV e at_).length by omega))
  have i0 := (Int.toNat_of_nonneg hb0.1).symm
  have i1 := (Int.toNat_of_nonneg hb1.1).symm
  have eA : opA e at_ = e[((cV e at_)[0]'zo).toNat]'zo := by unfold opA; rw [List.getElem?_eq_getElem (show 0 < (cV e at_).length by omega), Option.getD_some, List.getElem?_eq_getElem zo, Option.getD_some]
  have eB : opB e at_ = e[((cV e at_)[1]'zo).toNat]'zo := by unfold opB; rw [List.getElem?_eq_getElem (show 1 < (cV e at_).length by omega), Option.getD_some, List.getElem?_eq_getElem zo, Option.getD_some]
  refine bZ mo zk ( zE [] (ag (.b rfl)) ( zE [] (ag (.b rfl)) ( zE [] (al bd ty3 (.b rfl) (.b rfl) rfl zg) ( zE [] (aA ty3 (.b rfl)) ( zE [] (al fB cl (.b rfl) (.b rfl) i0 zg) ( zE [] (aA cl (.b rfl)) ( zE [] (ag (.b rfl)) ( zE [] (ag (.b rfl)) ( zE [] (al bd ty3 (.b rfl) (.b rfl) rfl zg) ( zE [] (aA ty3 (.b rfl)) ( zE [] (al fB cl (.b rfl) (.b rfl) i1 zg) ( zE [] (aA cl (.b rfl)) ( AE.cons _ _ _ rfl (d9 _ kT rfl) ( AE.cons _ _ _ rfl (d9 _ kT rfl) ( AE.cons _ _ _ rfl (bF cl (.b rfl) rfl rfl (Lens.id _) (.tv (.b rfl))) ( AE.cons _ _ _ rfl (bF cl (.b rfl) rfl rfl (Lens.id _) (.tv (.b rfl))) ( AE.nil))))))))))))))))) zk ?_
  refine aa (ae (aq (zR (zF bU rfl (zL ty3 rfl rfl rfl cb (ze rfl rfl (zM rfl (zG rfl rfl (fun hg => aj cl (.b rfl) rfl rfl (Lens.id _)) (zG rfl rfl (fun hg => an (kI _) (.cons (.gd rfl hg) .nil) rfl rfl) (zJ (aF (.b rfl) (.b rfl) rfl zp) (zY rfl (aa ?_))))))))))))
  refine af rfl (fun h5 => ?_) (fun h5 => ?_)
  · have k5 : (opA e at_).1 = 7 ∧ cP (opB e at_).1 = true := by rw [eA, eB]; simpa using h5
    refine ae ?_
    refine bZ mo zk ( zE [8] (ao bT (.b rfl)) ( zE [8] (aj ty3 (.b rfl) rfl rfl ce) ( zE [9] (aj cl (.b rfl) rfl rfl (Lens.id _)) ( zE [] (aU (.b rfl)) ( AE.cons _ _ _ rfl (bF cl (.b rfl) rfl rfl (Lens.id _) (.tv (.b rfl))) ( zE [] (aU (.b rfl)) ( AE.nil))))))) zk ?_
    refine aa (am (av (ai ?_)))
    exact cS results72 (aw rfl) (ax cl rfl rfl rfl (Lens.id bX)) (aw rfl) ⟨rfl, rfl, rfl⟩ (rH (by unfold cn; rw [if_neg zo, if_pos k5, eA, eB]))
  have k5 : ¬ ((opA e at_).1 = 7 ∧ cP (opB e at_).1 = true) := by rw [eA, eB]; simpa using h5
  refine zR (zF bU rfl (zL ty3 rfl rfl rfl cb (ze rfl rfl (zM rfl (zG rfl rfl (fun hg => aj cl (.b rfl) rfl rfl (Lens.id _)) (zG rfl rfl (fun hg => an (kI _) (.cons (.gd rfl hg) .nil) rfl rfl) (zJ (aF (.b rfl) (.b rfl) rfl zp) (zY rfl (aa ?_)))))))))
  refine af rfl (fun h7 => ?_) (fun h7 => ?_)
  · have k7 : (opB e at_).1 = 7 ∧ cP (opA e at_).1 = true := by rw [eA, eB]; simpa using h7
    refine ae ?_
    refine bZ mo zk ( zE [9] (ao bT (.b rfl)) ( zE [9] (aj ty3 (.b rfl) rfl rfl ce) ( zE [8] (aj cl (.b rfl) rfl rfl (Lens.id _)) ( zE [] (aU (.b rfl)) ( AE.cons _ _ _ rfl (bF cl (.b rfl) rfl rfl (Lens.id _) (.tv (.b rfl))) ( zE [] (aU (.b rfl)) ( AE.nil))))))) zk ?_
    refine aa (am (av (ai ?_)))
    exact cS results72 (aw rfl) (ax cl rfl rfl rfl (Lens.id bX)) (aw rfl) ⟨rfl, rfl, rfl⟩ (rH (by unfold cn; rw [if_neg zo, if_neg k5, if_pos k7, eA, eB]))
  have k7 : ¬ ((opB e at_).1 = 7 ∧ cP (opA e at_).1 = true) := by rw [eA, eB]; simpa using h7
  refine ah (aG (aa (zR (zJ (aI kT rfl tx .nil) (zA rfl (zC cl rfl rfl rfl (Lens.id _) (.tv (.b rfl)) (zY rfl (aa (am ?_)))))))))
  exact cS results72 (aw rfl) (ax cl rfl rfl rfl (Lens.id bX)) (aw rfl) ⟨rfl, rfl, rfl⟩ (rH (by unfold cn; rw [if_neg zo, if_neg k5, if_neg k7]))
end Go.Proofs.YtehcaebnijlhgaaGreatDoor.C23
