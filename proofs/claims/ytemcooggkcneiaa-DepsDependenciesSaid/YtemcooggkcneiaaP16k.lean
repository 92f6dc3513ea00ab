import Derived.Test.YtemcooggkcneiaaM5
import Derived.Test.YtemcooggkcneiaaM1
namespace Go.Proofs.Ytemcooggkcneiaa
open Go.Eng
set_option maxRecDepth 100000
set_option maxHeartbeats 4000000
set_option linter.unusedVariables false
set_option linter.unusedSimpArgs false


theorem hR_fam {hp : List (Nat × HB)} {xss : List (List Int)} {n nm nb : Nat} (R0 : List Nat) (h0 : (R0.all fun k => !Nat.beq k nm && !Nat.beq k nb && (lookH hp k).isSome) = true) (hT : Tl 1000 (famH (rInt .i64) 1000 xss) hp) (hn : n ≤ xss.length) (h1 : Nat.blt nm 1000 = true) (h2 : Nat.blt nb 1000 = true) :
    ((R0 ++ (List.range n).map (fun (x : Nat) => x + 1000)).all fun k => !Nat.beq k nm && !Nat.beq k nb && (lookH hp k).isSome) = true := by
  have h1 := blt_lt h1
  have h2 := blt_lt h2
  rw [List.all_append, h0, Bool.true_and, List.all_eq_true]
  intro k hk
  obtain ⟨x, hx, rfl⟩ := List.mem_map.1 hk
  have hx := List.mem_range.1 hx
  have e1 : Nat.beq (x + 1000) nm = false := by
    cases e : Nat.beq (x + 1000) nm with
    | false => rfl
    | true => have := Nat.eq_of_beq_eq_true e; omega
  have e2 : Nat.beq (x + 1000) nb = false := by
    cases e : Nat.beq (x + 1000) nb with
    | false => rfl
    | true => have := Nat.eq_of_beq_eq_true e; omega
  rw [e1, e2, hT.look (by omega), famH_at, List.getElem?_eq_getElem (by omega)]; rfl
theorem within_fam {nm sz off m n s : Nat} {ds : List (Option (Option Addr × Nat × Nat))} (R0 : List Nat) (h : R0.contains nm = true) (hd : ds.length ≤ n) : (SV.fam (.own nm sz off m) 1000 s ds).within (R0 ++ (List.range n).map (fun (x : Nat) => x + 1000)) = true := by
  simp only [SV.within, Bool.and_eq_true, List.all_eq_true]
  refine ⟨?_, fun x hx => ?_⟩
  · simp only [List.contains_iff_mem, List.mem_append] at h ⊢; exact .inl h
  · have := List.mem_range.1 hx
    simp only [List.contains_iff_mem, List.mem_append, List.mem_map, List.mem_range]
    exact .inr ⟨x, by omega, rfl⟩

theorem evalOrder_ok (s : TScope) (hL : Lim s) : Ct Try.prog 9 [.tv rScope s] (.tup2 (.tv (rSlice (rInt .i64)) (ordV (scN s) (allD s)).1) (.raw (.int .i64 (ordV (scN s) (allD s)).2))) := by
  refine ct_intro Try.func9 rfl rfl Try.ntmps9 rfl rfl ?_
  intro w0 ok0
  refine j_seq ?_
  refine j_region ?_
  refine jg_os _ rfl (op_box (.tv (.base rfl)) rfl rfl rfl) ?_
  refine jg_adr _ rfl _ rfl rfl (op_assign (.base rfl)) ?_
  refine jg_adr _ rfl _ rfl rfl (op_assign (.base rfl)) ?_
  refine jg_nil ?_
  refine jn_keep [1] [1] (.cons rfl .nil) (.cons rfl .nil) ?_
  refine jn_seq (j_seq ?_)
  refine j_region ?_
  refine jg_adr _ rfl _ rfl rfl (op_oload ty25 (.base rfl) rfl rfl (Lens.id _)) ?_
  refine jg_adr _ rfl _ rfl rfl (op_call (allDirect_ok s hL) (.cons (.base rfl) .nil) rfl rfl) ?_
  refine jg_adr _ rfl _ rfl rfl (op_assign (.base rfl)) ?_
  refine jg_nil ?_
  refine jn_keep [4] [] (.cons rfl .nil) .nil ?_
  refine jn_seq (j_seq ?_)
  obtain ⟨n, hnn⟩ : ∃ n, n = scN s := ⟨_, rfl⟩
  obtain ⟨dd, hdd⟩ : ∃ dd, dd = allD s := ⟨_, rfl⟩
  have w : WFd n dd := by rw [hnn, hdd]; exact allD_wf s
  have hn14 : n ≤ 14 := by rw [hnn]; exact hL.1
  rw [← hdd]
  have hdl := w.len
  have hdl14 : dd.length ≤ 14 := by omega
  refine j_region ?_
  refine jg_adr _ rfl _ rfl rfl (op_move (.base rfl)) ?_
  refine jg_adr _ rfl _ rfl rfl (op_len Try.underlying43 (.base rfl)) ?_
  refine jg_os _ rfl (op_make (rt := rHd) Try.underlying43 tyH28 zH28 rfl by28 (.base rfl) (.base rfl) (by omega) (by unfold maxLen; omega) rfl rfl rfl) ?_
  refine jg_adr _ rfl _ rfl rfl (op_assign (.base rfl)) ?_
  refine jg_nil ?_
  rw [hdl]
  refine jn_vacF 5 1000 n [4] [21] (rInt .i64) rfl rfl (.cons rfl .nil) rfl (.cons rfl .nil) rfl ?_
  refine jn_seq (j_seq ?_)
  refine j_region ?_
  refine jg_adr _ rfl _ rfl rfl (op_move (.base rfl)) ?_
  refine jg_adr _ rfl _ rfl rfl (op_len Try.underlying43 (.base rfl)) ?_
  rw [hdl]
  refine jg_os _ rfl (op_make Try.underlying28 ty3 z3 rfl by3 (.base rfl) (.base rfl) (by omega) (by unfold maxLen; omega) rfl rfl (famH_no rfl)) ?_
  refine jg_adr _ rfl _ rfl rfl (op_assign (.base rfl)) ?_
  refine jg_nil ?_
  refine jn_keepF (b := 1000) [4, 5, 6] [21, 24] (.cons rfl (.cons rfl (.cons rfl .nil))) (by repeat (first | exact .nil | refine .cons rfl ?_)) (.cons rfl (.cons rfl .nil)) ?_
  refine jn_seq (j_seq ?_)
  refine j_region ?_
  refine jg_os _ rfl (op_obslice (rt := rInt .i64) (ds := []) Try.underlying46 ty3 z3 rfl .nil rfl rfl rfl rfl (famH_no rfl)) ?_
  refine jg_giveL 4 25 rfl rfl (fun A0 cap0 => ?_)
  refine jg_os _ rfl (op_box (rt := rHd) (z := (A0, 0, cap0)) (.raw (.base rfl) rfl) rfl rfl (famH_no rfl)) ?_
  refine jg_pinP 26 26 rfl (fun pb po => ?_)
  refine jg_moveL 4 26 rfl rfl rfl ?_
  refine jg_adr _ rfl _ rfl rfl (op_assign (.base rfl)) ?_
  refine jg_nil ?_
  refine jn_keepF (b := 1000) [4, 5, 6, 7] [21, 24, 25, 26] (.cons rfl (.cons rfl (.cons rfl (.cons rfl .nil)))) (by repeat (first | exact .nil | refine .cons rfl ?_)) (.cons rfl (.cons rfl (.cons rfl (.cons rfl .nil)))) ?_
  refine jn_seq (j_seq (j_seq ?_))
  refine j_region ?_
  refine jg_adr _ rfl _ rfl rfl (op_move (.base rfl)) ?_
  refine jg_adr _ rfl _ rfl rfl (op_len Try.underlying43 (.base rfl)) ?_
  refine jg_adr _ rfl _ rfl rfl (op_move (.base rfl)) ?_
  rw [hdl]
  refine jg_nil ?_
  refine jn_keepF (b := 1000) [4, 5, 6, 7, 27, 28, 29] [21, 24, 25, 26] (.cons rfl (.cons rfl (.cons rfl (.cons rfl (.cons rfl (.cons rfl (.cons rfl .nil))))))) (by repeat (first | exact .nil | refine .cons rfl ?_)) (.cons rfl (.cons rfl (.cons rfl (.cons rfl .nil)))) ?_
  refine jn_seq (j_block ?_)
  refine j_loopp (ι := (Nat × List (Option Addr × Nat × Nat) × List Int × List Int × Option Addr × Nat)) (fun (k, hs, W, H, A, cap) => ⟨[(4, .tv (rSlice (rSlice (rInt .i64))) dd), (5, .fam (.own 21 1 0 n) 1000 1 (hs.map some)), (6, .own 24 (rInt .i64).n 0 n), (7, (svPtr 26 25 1 pb po) A (H).length cap), (27, .tv (rSlice (rSlice (rInt .i64))) dd), (28, .raw (.int .i64 ((n : Nat)))), (29, .raw (.int .i64 ((k : Nat))))], (21, ⟨rHd, hs⟩) :: (24, ⟨rInt .i64, W⟩) :: (26, ⟨rHd, [(A, (H).length, cap)]⟩) :: (25, ⟨rInt .i64, H⟩) :: famH (rInt .i64) 1000 (rvK dd n k [])⟩) (fun (k, hs, W, H, A, cap) => k ≤ n ∧ HdOK hs (rvK dd n k []) ∧ K0 n dd k W H ∧ HeapOK H.length H) (fun (k, hs, W, H, A, cap) => n - k) (0, List.replicate n (none, 0, 0), List.replicate n 0, [], A0, cap0) (⟨Nat.zero_le _, by rw [rvK_zero]; exact HdOK.zero _, K0.start n dd, fun k h0 h1 => by simp at h1⟩) (fun a w hi => (Sub.inv ⟨(by repeat (first | exact SubS_nil | refine SubS_cons rfl (by first | rfl | (simp; done) | assumption | (refine congrArg (SV.fam (SV.own 21 1 0 n) 1000 1) ?_; rw [List.map_replicate]; done)) ?_)), (by repeat (first | refine SubH_cons rfl (by first | rfl | (simp; done) | assumption | (refine congrArg (HB.mk rHd) ?_; simp; done)) ?_ | exact SubH_tail (by repeat (first | exact .nil | refine .cons rfl ?_)) (by rw [rvK_zero])))⟩ hi)) ?_
  rintro ⟨k, hs, W, H, A, cap⟩ ⟨hk, hq0, hk0, hho⟩
  have hhl := hk0.hlen
  have hwl := hk0.len
  refine j_seq ?_
  refine j_region ?_
  refine jg_adr _ rfl _ rfl rfl (op_lss (.base rfl) (.base rfl)) ?_
  refine jg_nil ?_
  refine jn_keepF (b := 1000) [4, 5, 6, 7, 27, 28, 29, 30] [21, 24, 25, 26] (.cons rfl (.cons rfl (.cons rfl (.cons rfl (.cons rfl (.cons rfl (.cons rfl (.cons rfl .nil)))))))) (by repeat (first | exact .nil | refine .cons rfl ?_)) (.cons rfl (.cons rfl (.cons rfl (.cons rfl .nil)))) ?_
  refine jn_seq (j_seq ?_)
  refine j_cond rfl (fun h6 => ?_) (fun h6 => ?_)
  · have h6 : k < n := by simp at h6; omega
    have hrl := w.rlen (k : Int)
    refine j_skip (jn_seq (j_seq (j_block (j_seq ?_))))
    refine j_region ?_
    refine jg_adr _ rfl _ rfl rfl (op_move (.base rfl)) ?_
    refine jg_adr _ rfl _ rfl rfl (op_index Try.underlying43 ty28 (.base rfl) (.base rfl) rfl (show dd[k]? = some (rw dd (k : Int)) by simp [rw, show k < dd.length by omega])) ?_
    refine jg_adr _ rfl _ rfl rfl (op_load ty28 (.base rfl)) ?_
    refine jg_adr _ rfl _ rfl rfl (op_assign (.base rfl)) ?_
    refine jg_adr _ rfl _ rfl rfl (op_assign (.base rfl)) ?_
    refine jg_nil ?_
    refine jn_keepF (b := 1000) [4, 5, 6, 7, 8, 9, 27, 28, 29] [21, 24, 25, 26] (.cons rfl (.cons rfl (.cons rfl (.cons rfl (.cons rfl (.cons rfl (.cons rfl (.cons rfl (.cons rfl .nil))))))))) (by repeat (first | exact .nil | refine .cons rfl ?_)) (.cons rfl (.cons rfl (.cons rfl (.cons rfl .nil)))) ?_
    refine jn_seq (j_seq ?_)
    refine j_region ?_
    refine jg_adr _ rfl _ rfl rfl (op_move (.base rfl)) ?_
    refine jg_adr _ rfl _ rfl rfl (op_move (.base rfl)) ?_
    refine jg_adr _ rfl _ rfl rfl (op_move (.base rfl)) ?_
    refine jg_adr _ rfl _ rfl rfl (op_len Try.underlying28 (.base rfl)) ?_
    refine jg_adr _ rfl _ rfl rfl (op_oindex Try.underlying28 ty3 (.base rfl) (.base rfl) rfl (by first | omega | (simp; done) | (simp; omega))) ?_
    refine jg_os _ rfl (op_ostore ty3 (.base rfl) rfl (List.getElem?_eq_getElem (by first | omega | (simp; done) | (simp; omega))) (Lens.id _) (.raw (.base rfl) rfl)) ?_
    refine jg_nil ?_
    refine jn_keepF (b := 1000) [4, 5, 6, 7, 8, 9, 27, 28, 29] [21, 24, 25, 26] (.cons rfl (.cons rfl (.cons rfl (.cons rfl (.cons rfl (.cons rfl (.cons rfl (.cons rfl (.cons rfl .nil))))))))) (by repeat (first | exact .nil | refine .cons rfl ?_)) (.cons rfl (.cons rfl (.cons rfl (.cons rfl .nil)))) ?_
    refine jn_seq (j_seq (j_seq ?_))
    refine j_region ?_
    refine jg_adr _ rfl _ rfl rfl (op_move (.base rfl)) ?_
    refine jg_adr _ rfl _ rfl rfl (op_len Try.underlying28 (.base rfl)) ?_
    refine jg_adr _ rfl _ rfl rfl (op_move (.base rfl)) ?_
    refine jg_nil ?_
    refine jn_keepF (b := 1000) [4, 5, 6, 7, 8, 9, 27, 28, 29, 39, 40, 41] [21, 24, 25, 26] (.cons rfl (.cons rfl (.cons rfl (.cons rfl (.cons rfl (.cons rfl (.cons rfl (.cons rfl (.cons rfl (.cons rfl (.cons rfl (.cons rfl .nil)))))))))))) (by repeat (first | exact .nil | refine .cons rfl ?_)) (.cons rfl (.cons rfl (.cons rfl (.cons rfl .nil)))) ?_
    refine jn_seq (j_block ?_)
    refine j_loopp (ι := (Nat × List (Option Addr × Nat × Nat))) (fun (j, hs) => ⟨[(4, .tv (rSlice (rSlice (rInt .i64))) dd), (5, .fam (.own 21 1 0 n) 1000 1 (hs.map some)), (6, .own 24 (rInt .i64).n 0 n), (7, (svPtr 26 25 1 pb po) A (H).length cap), (8, .raw (.int .i64 ((k : Nat)))), (9, .tv (rSlice (rInt .i64)) (rw dd (k : Int))), (27, .tv (rSlice (rSlice (rInt .i64))) dd), (28, .raw (.int .i64 ((n : Nat)))), (29, .raw (.int .i64 ((k : Nat)))), (39, .tv (rSlice (rInt .i64)) (rw dd (k : Int))), (40, .raw (.int .i64 ((rw dd (k : Int)).length))), (41, .raw (.int .i64 ((j : Nat))))], (21, ⟨rHd, hs⟩) :: (24, ⟨rInt .i64, W.set (0 + k) (((rw dd (k : Int)).length : Nat) : Int)⟩) :: (26, ⟨rHd, [(A, (H).length, cap)]⟩) :: (25, ⟨rInt .i64, H⟩) :: famH (rInt .i64) 1000 (rvK dd n k ((rw dd (k : Int)).take j))⟩) (fun (j, hs) => j ≤ (rw dd (k : Int)).length ∧ HdOK hs (rvK dd n k ((rw dd (k : Int)).take j))) (fun (j, hs) => (rw dd (k : Int)).length - j) (0, hs) (⟨Nat.zero_le _, hq0⟩) (fun a w hi => (Sub.inv ⟨(by repeat (first | exact SubS_nil | refine SubS_cons rfl (by first | rfl | (simp; done) | assumption | (refine congrArg (SV.fam (SV.own 21 1 0 n) 1000 1) ?_; rfl; done)) ?_)), (by repeat (first | refine SubH_cons rfl (by first | rfl | (simp; done) | assumption | (refine congrArg (HB.mk rHd) ?_; simp; done)) ?_ | exact SubH_tail (by repeat (first | exact .nil | refine .cons rfl ?_)) (rfl)))⟩ hi)) ?_
    rintro ⟨j, hs⟩ ⟨hj, hq⟩
    refine j_seq ?_
    refine j_region ?_
    refine jg_adr _ rfl _ rfl rfl (op_lss (.base rfl) (.base rfl)) ?_
    refine jg_nil ?_
    refine jn_keepF (b := 1000) [4, 5, 6, 7, 8, 9, 27, 28, 29, 39, 40, 41, 42] [21, 24, 25, 26] (.cons rfl (.cons rfl (.cons rfl (.cons rfl (.cons rfl (.cons rfl (.cons rfl (.cons rfl (.cons rfl (.cons rfl (.cons rfl (.cons rfl (.cons rfl .nil))))))))))))) (by repeat (first | exact .nil | refine .cons rfl ?_)) (.cons rfl (.cons rfl (.cons rfl (.cons rfl .nil)))) ?_
    refine jn_seq (j_seq ?_)
    refine j_cond rfl (fun h10 => ?_) (fun h10 => ?_)
    · have h10 : j < (rw dd (k : Int)).length := by simp at h10; omega
      refine j_skip (jn_seq (j_seq (j_block (j_seq ?_))))
      refine j_region ?_
      refine jg_adr _ rfl _ rfl rfl (op_index Try.underlying28 ty3 (.base rfl) (.base rfl) rfl (List.getElem?_eq_getElem (by first | omega | (simp; done) | (simp; omega) | (simp at hg; omega)))) ?_
      refine jg_adr _ rfl _ rfl rfl (op_load ty3 (.base rfl)) ?_
      refine jg_adr _ rfl _ rfl rfl (op_assign (.base rfl)) ?_
      obtain ⟨e, hee⟩ : ∃ e, e = (rw dd (k : Int))[j] := ⟨_, rfl⟩
      rw [← hee]
      obtain ⟨he0, hen⟩ := w.ent (k : Int) e (by rw [hee]; exact List.getElem_mem h10)
      have hec : e = ((e.toNat : Nat) : Int) := by omega
      have hen2 : e.toNat < n := by omega
      have hst : (rvK dd n k ((rw dd (k : Int)).take (j + 1))) = (rvK dd n k ((rw dd (k : Int)).take j)).set e.toNat (((rvK dd n k ((rw dd (k : Int)).take j)).getD e.toNat []) ++ [(k : Int)]) := by rw [List.take_succ_eq_append_getElem h10, ← hee, rvK_step he0 hen (by rw [hee]; exact nodup_take (w.srt _) h10)]
      obtain ⟨A, cap, hget⟩ := hq.at (rvK_get (dd := dd) (k := k) (l := (rw dd (k : Int)).take j) hen2)
      have hx1 : (hs.map some)[e.toNat]? = some (some (A, ((rvK dd n k ((rw dd (k : Int)).take j)).getD e.toNat []).length, cap)) := by rw [List.getElem?_map, hget]; rfl
      have hx2 := (rvK_get (dd := dd) (k := k) (l := (rw dd (k : Int)).take j) hen2)
      have hxl : e.toNat < hs.length := (List.getElem?_eq_some_iff.1 hget).1
      have hx3 : ((hs.map some).set e.toNat none)[e.toNat]? = some none := by rw [List.getElem?_set_self (by simpa using hxl)]
      have hx4 : (((rvK dd n k ((rw dd (k : Int)).take j))).set e.toNat [])[e.toNat]? = some [] := by rw [List.getElem?_set_self (by rw [rvK_len]; omega)]
      have hset : (((rvK dd n k ((rw dd (k : Int)).take j)).set e.toNat []).set e.toNat (((((rvK dd n k ((rw dd (k : Int)).take j)).getD e.toNat []).drop 0).take ((rvK dd n k ((rw dd (k : Int)).take j)).getD e.toNat []).length ++ [(k : Int)]).take (((rvK dd n k ((rw dd (k : Int)).take j)).getD e.toNat []).length + [(k : Int)].length))) = (rvK dd n k ((rw dd (k : Int)).take (j + 1))) := by rw [take_app, List.set_set, hst]
      have hal := rvK_rlen (dd := dd) (k := k) (l := (rw dd (k : Int)).take j) hen2
      refine jg_nil ?_
      refine jn_keepF (b := 1000) [4, 5, 6, 7, 8, 9, 11, 27, 28, 29, 39, 40, 41] [21, 24, 25, 26] (.cons rfl (.cons rfl (.cons rfl (.cons rfl (.cons rfl (.cons rfl (.cons rfl (.cons rfl (.cons rfl (.cons rfl (.cons rfl (.cons rfl (.cons rfl .nil))))))))))))) (by repeat (first | exact .nil | refine .cons rfl ?_)) (.cons rfl (.cons rfl (.cons rfl (.cons rfl .nil)))) ?_
      refine jn_seq ?_
      refine j_region ?_
      refine jg_adr _ rfl _ rfl rfl (op_move (.f1 rfl)) ?_
      refine jg_adr _ rfl _ rfl rfl (op_move (.base rfl)) ?_
      refine jg_adr _ rfl _ rfl rfl (op_move (.f1 rfl)) ?_
      refine jg_adr _ rfl _ rfl rfl (op_move (.base rfl)) ?_
      refine jg_adr _ rfl _ rfl rfl (op_oindex Try.underlying43 tyH28 (.base rfl) (.base rfl) hec hen2) ?_
      refine jg_adr _ rfl _ rfl rfl (op_oload tyH28 (.base rfl) rfl (by rw [Nat.zero_add]; exact hget) (Lens.id _)) ?_
      refine jg_adr _ rfl _ rfl rfl (op_move (.base rfl)) ?_
      refine jg_adr _ rfl _ rfl rfl (op_bslice (rt := (rInt .i64)) Try.underlying28 ty3 z3 rfl (.cons (.raw (.base rfl) rfl) .nil) rfl rfl) ?_
      refine jg_takeF (rt := rInt .i64) (xs := ((rvK dd n k ((rw dd (k : Int)).take j)).getD e.toNat [])) (m := ((rvK dd n k ((rw dd (k : Int)).take j)).getD e.toNat []).length) (A := A) (cap := cap) 5 50 60 e.toNat [4, 6, 7, 8, 9, 27, 28, 29, 39, 40, 41, 45, 46, 52] [21, 24, 26, 25] rfl rfl hx1 hx2 rfl rfl (.cons rfl (.cons rfl (.cons rfl (.cons rfl (.cons rfl (.cons rfl (.cons rfl (.cons rfl (.cons rfl (.cons rfl (.cons rfl (.cons rfl (.cons rfl (.cons rfl .nil)))))))))))))) rfl rfl rfl (by repeat (first | exact .nil | refine .cons rfl ?_)) (.cons rfl (.cons rfl (.cons rfl (.cons rfl .nil)))) rfl rfl ?_
      refine jg_os _ rfl (op_append [4, 5, 6, 7, 8, 9, 27, 28, 29, 39, 40, 41, 45, 46] Try.underlying28 ty3 z3 rfl by3 (.base rfl) rfl (by omega) (.tv (.base rfl)) (by unfold maxLen; (try simp only [List.length_cons, List.length_nil]); omega) (by (try simp only [List.length_cons, List.length_nil]); omega) rfl (.cons rfl (.cons rfl (.cons rfl (.cons rfl (.cons rfl (.cons rfl (.cons rfl (.cons rfl (.cons rfl (.cons rfl (.cons rfl (.cons rfl (.cons rfl (.cons rfl .nil)))))))))))))) rfl) ?_
      refine jg_adr _ rfl _ rfl rfl (op_oindex Try.underlying43 tyH28 (.base rfl) (.base rfl) hec hen2) ?_
      refine jg_giveF (rt := rInt .i64) 5 53 60 e.toNat [4, 6, 7, 8, 9, 27, 28, 29, 39, 40, 41, 54] [21, 24, 26, 25] rfl rfl hx3 hx4 rfl (by simp) rfl rfl (.cons rfl (.cons rfl (.cons rfl (.cons rfl (.cons rfl (.cons rfl (.cons rfl (.cons rfl (.cons rfl (.cons rfl (.cons rfl (.cons rfl .nil)))))))))))) rfl rfl rfl (by repeat (first | exact .nil | refine .cons rfl ?_)) (.cons rfl (.cons rfl (.cons rfl (.cons rfl .nil)))) rfl rfl (fun A2 cap2 => ?_)
      refine jg_os _ rfl (op_ostore (d := (A2, ((rvK dd n k ((rw dd (k : Int)).take j)).getD e.toNat []).length + [(k : Int)].length, cap2)) tyH28 (.base rfl) rfl (by rw [Nat.zero_add]; exact hget) (Lens.id _) (.raw (.base rfl) rfl)) ?_
      refine jg_nil ?_
      refine jn_keepF (b := 1000) [4, 5, 6, 7, 8, 9, 27, 28, 29, 39, 40, 41] [21, 24, 25, 26] (.cons rfl (.cons rfl (.cons rfl (.cons rfl (.cons rfl (.cons rfl (.cons rfl (.cons rfl (.cons rfl (.cons rfl (.cons rfl (.cons rfl .nil)))))))))))) (by repeat (first | exact .nil | refine .cons rfl ?_)) (.cons rfl (.cons rfl (.cons rfl (.cons rfl .nil)))) ?_
      refine jn_blk (jn_seq ?_)
      refine j_region ?_
      refine jg_adr _ rfl _ rfl rfl (op_add (.base rfl) (.base rfl) (w64 (by omega))) ?_
      refine jg_adr _ rfl _ rfl rfl (op_move (.base rfl)) ?_
      refine jg_nil ?_
      refine jn_keepF (b := 1000) [4, 5, 6, 7, 8, 9, 27, 28, 29, 39, 40, 41] [21, 24, 25, 26] (.cons rfl (.cons rfl (.cons rfl (.cons rfl (.cons rfl (.cons rfl (.cons rfl (.cons rfl (.cons rfl (.cons rfl (.cons rfl (.cons rfl .nil)))))))))))) (by repeat (first | exact .nil | refine .cons rfl ?_)) (.cons rfl (.cons rfl (.cons rfl (.cons rfl .nil)))) ?_
      exact jn_loop (fun a w hi => ⟨(j + 1, hs.set e.toNat (A2, ((rvK dd n k ((rw dd (k : Int)).take j)).getD e.toNat []).length + [(k : Int)].length, cap2)), (by show (rw dd (k : Int)).length - (j + 1) < (rw dd (k : Int)).length - j; omega), ⟨by omega, by rw [hst]; exact hq.set (by rw [rvK_len]; omega) (by simp)⟩, Sub.inv ⟨(by repeat (first | exact SubS_nil | refine SubS_cons rfl (by first | rfl | (simp; done) | assumption | (refine congrArg (SV.fam (SV.own 21 1 0 n) 1000 1) ?_; simp [List.map_set]; done)) ?_)), (by repeat (first | refine SubH_cons rfl (by first | rfl | (simp; done) | assumption | (refine congrArg (HB.mk rHd) ?_; simp; done)) ?_ | exact SubH_tail (by repeat (first | exact .nil | refine .cons rfl ?_)) (hset)))⟩ hi⟩)
    · have hjl : j = (rw dd (k : Int)).length := by simp at h10; omega
      have hqn : HdOK hs (rvK dd n (k + 1) []) := by rw [← rvK_next]; rw [hjl, List.take_length] at hq; exact hq
      have hrvn : (rvK dd n k ((rw dd (k : Int)).take j)) = rvK dd n (k + 1) [] := by rw [hjl, List.take_length, rvK_next]
      refine j_exit (je_seq (je_loop (je_blk (jn_seq (j_seq ?_)))))
      refine j_region ?_
      refine jg_adr _ rfl _ rfl rfl (op_move (.base rfl)) ?_
      refine jg_adr _ rfl _ rfl rfl (op_len Try.underlying28 (.base rfl)) ?_
      refine jg_adr _ rfl _ rfl rfl (op_eql (.base rfl) (.base rfl)) ?_
      refine jg_nil ?_
      refine jn_keepF (b := 1000) [4, 5, 6, 7, 8, 27, 28, 29, 58] [21, 24, 25, 26] (.cons rfl (.cons rfl (.cons rfl (.cons rfl (.cons rfl (.cons rfl (.cons rfl (.cons rfl (.cons rfl .nil))))))))) (by repeat (first | exact .nil | refine .cons rfl ?_)) (.cons rfl (.cons rfl (.cons rfl (.cons rfl .nil)))) ?_
      refine jn_seq ?_
      refine j_cond rfl (fun h14 => ?_) (fun h14 => ?_)
      · have h14 : (rw dd (k : Int)) = [] := by simp at h14; exact h14
        refine j_region ?_
        refine jg_adr _ rfl _ rfl rfl (op_move (.l1 rfl)) ?_
        refine jg_adr _ rfl _ rfl rfl (op_mkifaceP Try.underlying45 (.b2 rfl rfl)) ?_
        refine jg_adr _ rfl _ rfl rfl (op_move (.base rfl)) ?_
        refine jg_adr _ rfl _ rfl rfl (op_mkifaceI Try.underlying3 (.base rfl)) ?_
        refine jg_callI (c0 := 7) (nb := 26) (nm := 25) (pb := pb) (po := po) (svPtr 26 25 1 pb po) ([21, 24] ++ (List.range n).map (fun (x : Nat) => x + 1000)) [4, 5, 6, 27, 28, 29] (heapPush_ok H (k : Int) hho (by omega)) rfl rfl rfl (fun _ _ _ => is0_ptr) (fun β a w hi => hr_call (heapPush_ok H (k : Int) hho (by omega)).ent (hi.raw (.base rfl))) rfl rfl rfl rfl (.cons (.base rfl) .nil) rfl rfl rfl (hR_fam [21, 24] rfl (by repeat (first | exact .nil | refine .cons rfl ?_)) (by rw [rvK_len]; omega) rfl rfl) (.free rfl rfl (.free rfl (within_fam [21, 24] rfl (by have := hq.1; rw [rvK_len] at this; simp; omega)) (.free rfl rfl (.free rfl rfl (.free rfl rfl (.free rfl rfl .nil)))))) ?_
        intro ys A2 cap2 hpq
        refine jg_nil ?_
        refine jn_keepF (b := 1000) [4, 5, 6, 7, 27, 28, 29] [21, 24, 25, 26] (.cons rfl (.cons rfl (.cons rfl (.cons rfl (.cons rfl (.cons rfl (.cons rfl .nil))))))) (by repeat (first | exact .nil | refine .cons rfl ?_)) (.cons rfl (.cons rfl (.cons rfl (.cons rfl .nil)))) ?_
        refine jn_blk (jn_seq ?_)
        refine j_region ?_
        refine jg_adr _ rfl _ rfl rfl (op_add (.base rfl) (.base rfl) (w64 (by omega))) ?_
        refine jg_adr _ rfl _ rfl rfl (op_move (.base rfl)) ?_
        refine jg_nil ?_
        refine jn_keepF (b := 1000) [4, 5, 6, 7, 27, 28, 29] [21, 24, 25, 26] (.cons rfl (.cons rfl (.cons rfl (.cons rfl (.cons rfl (.cons rfl (.cons rfl .nil))))))) (by repeat (first | exact .nil | refine .cons rfl ?_)) (.cons rfl (.cons rfl (.cons rfl (.cons rfl .nil)))) ?_
        first | exact jn_loop (fun a w hi => ⟨(k + 1, hs, W.set (0 + k) (((rw dd (k : Int)).length : Nat) : Int), H, A, cap), (by show n - (k + 1) < n - k; omega), ⟨by omega, hqn, by rw [Nat.zero_add]; exact hk0.next h6 h14, hho⟩, Sub.inv ⟨(by repeat (first | exact SubS_nil | refine SubS_cons rfl (by first | rfl | (simp; done) | assumption | (refine congrArg (SV.fam (SV.own 21 1 0 n) 1000 1) ?_; rfl; done)) ?_)), (by repeat (first | refine SubH_cons rfl (by first | rfl | (simp; done) | assumption | (refine congrArg (HB.mk rHd) ?_; simp; done)) ?_ | exact SubH_tail (by repeat (first | exact .nil | refine .cons rfl ?_)) (hrvn)))⟩ hi⟩) | exact jn_loop (fun a w hi => ⟨(k + 1, hs, W.set (0 + k) (((rw dd (k : Int)).length : Nat) : Int), ys, A2, cap2), (by show n - (k + 1) < n - k; omega), ⟨by omega, hqn, by rw [Nat.zero_add]; exact hk0.push h6 h14 hpq.1, hpq.2⟩, Sub.inv ⟨(by repeat (first | exact SubS_nil | refine SubS_cons rfl (by first | rfl | (simp; done) | assumption | (refine congrArg (SV.fam (SV.own 21 1 0 n) 1000 1) ?_; rfl; done)) ?_)), (by repeat (first | refine SubH_cons rfl (by first | rfl | (simp; done) | assumption | (refine congrArg (HB.mk rHd) ?_; simp; done)) ?_ | exact SubH_tail (by repeat (first | exact .nil | refine .cons rfl ?_)) (hrvn)))⟩ hi⟩)
      · have h14 : (rw dd (k : Int)) ≠ [] := by simp at h14; exact h14
        refine j_skip (jn_blk (jn_seq ?_))
        refine j_region ?_
        refine jg_adr _ rfl _ rfl rfl (op_add (.base rfl) (.base rfl) (w64 (by omega))) ?_
        refine jg_adr _ rfl _ rfl rfl (op_move (.base rfl)) ?_
        refine jg_nil ?_
        refine jn_keepF (b := 1000) [4, 5, 6, 7, 27, 28, 29] [21, 24, 25, 26] (.cons rfl (.cons rfl (.cons rfl (.cons rfl (.cons rfl (.cons rfl (.cons rfl .nil))))))) (by repeat (first | exact .nil | refine .cons rfl ?_)) (.cons rfl (.cons rfl (.cons rfl (.cons rfl .nil)))) ?_
        first | exact jn_loop (fun a w hi => ⟨(k + 1, hs, W.set (0 + k) (((rw dd (k : Int)).length : Nat) : Int), H, A, cap), (by show n - (k + 1) < n - k; omega), ⟨by omega, hqn, by rw [Nat.zero_add]; exact hk0.next h6 h14, hho⟩, Sub.inv ⟨(by repeat (first | exact SubS_nil | refine SubS_cons rfl (by first | rfl | (simp; done) | assumption | (refine congrArg (SV.fam (SV.own 21 1 0 n) 1000 1) ?_; rfl; done)) ?_)), (by repeat (first | refine SubH_cons rfl (by first | rfl | (simp; done) | assumption | (refine congrArg (HB.mk rHd) ?_; simp; done)) ?_ | exact SubH_tail (by repeat (first | exact .nil | refine .cons rfl ?_)) (hrvn)))⟩ hi⟩) | exact jn_loop (fun a w hi => ⟨(k + 1, hs, W.set (0 + k) (((rw dd (k : Int)).length : Nat) : Int), ys, A2, cap2), (by show n - (k + 1) < n - k; omega), ⟨by omega, hqn, by rw [Nat.zero_add]; exact hk0.push h6 h14 hpq.1, hpq.2⟩, Sub.inv ⟨(by repeat (first | exact SubS_nil | refine SubS_cons rfl (by first | rfl | (simp; done) | assumption | (refine congrArg (SV.fam (SV.own 21 1 0 n) 1000 1) ?_; rfl; done)) ?_)), (by repeat (first | refine SubH_cons rfl (by first | rfl | (simp; done) | assumption | (refine congrArg (HB.mk rHd) ?_; simp; done)) ?_ | exact SubH_tail (by repeat (first | exact .nil | refine .cons rfl ?_)) (hrvn)))⟩ hi⟩)
  · have h6 : k = n := by simp at h6; omega
    refine j_exit (je_seq (je_loop (je_blk (jn_seq (j_seq ?_)))))
    subst h6
    refine j_foldF (b := 1000) (rt := rInt .i64) 5 21 [4, 6, 7] [24, 26, 25] rfl hq0.1 hq0.2 rfl rfl rfl (.cons rfl (.cons rfl (.cons rfl .nil))) rfl (by repeat (first | exact .nil | refine .cons rfl ?_)) (.cons rfl (.cons rfl (.cons rfl .nil))) rfl rfl ?_
    refine j_seal (rt := rSlice (rInt .i64)) 21 5 (dropH 21 _) rfl rfl (by rw [rvK_len]; omega) (dropH_sub 21 _) (dropH_no 21 _) ?_
    rw [List.drop_zero, List.take_of_length_le (by rw [rvK_len]; omega), show rvK dd k k [] = rvs k dd from rfl]
    have hki := hk0.done
    have wr := rvs_wf (n := k) dd
    refine j_region ?_
    refine jg_adr _ rfl _ rfl rfl (op_assign (.base rfl)) ?_
    refine jg_nil ?_
    refine jn_keep [4, 5, 6, 7, 12] [24, 25, 26] (.cons rfl (.cons rfl (.cons rfl (.cons rfl (.cons rfl .nil))))) (.cons rfl (.cons rfl (.cons rfl .nil))) ?_
    refine jn_seq (j_seq (j_block ?_))
    refine j_vac 70 12 (rInt .i64) rfl rfl rfl ?_
    refine j_loopp (ι := (List Int × List Int × List Int × Option Addr × Nat)) (fun (out, W, H, A, cap) => ⟨[(4, .tv (rSlice (rSlice (rInt .i64))) dd), (5, .tv (rSlice (rSlice (rInt .i64))) (rvs k dd)), (6, .own 24 (rInt .i64).n 0 k), (7, (svPtr 26 25 1 pb po) A (H).length cap), (12, .own 70 (rInt .i64).n 0 out.length)], [(24, ⟨rInt .i64, W⟩), (26, ⟨rHd, [(A, (H).length, cap)]⟩), (25, ⟨rInt .i64, H⟩), (70, ⟨rInt .i64, out⟩)]⟩) (fun (out, W, H, A, cap) => KI k dd out W H ∧ HeapOK H.length H) (fun (out, W, H, A, cap) => k - out.length) ([], W, H, A, cap) (⟨hki, hho⟩) (fun a w hi => (Sub.inv ⟨(by repeat (first | exact SubS_nil | refine SubS_cons rfl (by first | rfl | (simp; done) | assumption) ?_)), (by repeat (first | exact SubH_nil | refine SubH_cons rfl (by first | rfl | (simp; done) | assumption) ?_))⟩ hi)) ?_
    rintro ⟨out, W, H, A, cap⟩ ⟨hi0, hho⟩
    have hhl := hi0.hlen
    have hwl := hi0.len
    refine j_seq (j_seq ?_)
    refine j_region ?_
    refine jg_adr _ rfl _ rfl rfl (op_move (.l1 rfl)) ?_
    refine jg_adr _ rfl _ rfl rfl (op_nilCheck (.base rfl) (.inr ⟨_, rfl⟩)) ?_
    refine jg_adr _ rfl _ rfl rfl (op_oload tyH46 (.b1 rfl) rfl rfl (Lens.id _)) ?_
    refine jg_headI 7 67 rfl is0_ptr rfl ?_
    refine jg_adr _ rfl _ rfl rfl (op_callb (hlen_ok _ (by simp; omega)) (.own (.base rfl) rfl (by omega) .nil) flat_raw) ?_
    rw [List.drop_zero, List.take_length]
    refine jg_adr _ rfl _ rfl rfl (op_gtr (.base rfl) (.base rfl)) ?_
    refine jg_nil ?_
    refine jn_keep [4, 5, 6, 7, 12, 69] [24, 25, 26, 70] (.cons rfl (.cons rfl (.cons rfl (.cons rfl (.cons rfl (.cons rfl .nil)))))) (.cons rfl (.cons rfl (.cons rfl (.cons rfl .nil)))) ?_
    refine jn_seq ?_
    refine j_cond rfl (fun h18 => ?_) (fun h18 => ?_)
    · have h18 : 0 < H.length := by simp at h18; omega
      obtain ⟨d, hd⟩ : ∃ d, d = gt H 0 := ⟨_, rfl⟩
      have hdm : ∀ x ∈ H, d ≤ x := fun x hx => by rw [hd]; exact perm_heap_min hho hx
      refine j_skip (jn_seq (j_block (j_seq ?_)))
      refine j_region ?_
      refine jg_adr _ rfl _ rfl rfl (op_move (.l1 rfl)) ?_
      refine jg_adr _ rfl _ rfl rfl (op_mkifaceP Try.underlying45 (.b2 rfl rfl)) ?_
      refine jg_callI (c0 := 7) (nb := 26) (nm := 25) (pb := pb) (po := po) (svPtr 26 25 1 pb po) [24, 70] [4, 5, 6, 12] (heapPop_ok H hho h18 (by omega)) rfl rfl rfl (fun _ _ _ => is0_ptr) (fun β a w hi => hr_call (heapPop_ok H hho h18 (by omega)).ent (hi.raw (.base rfl))) rfl rfl rfl rfl .nil rfl rfl rfl rfl (.free rfl rfl (.free rfl rfl (.free rfl rfl (.free rfl rfl .nil)))) ?_
      intro ys A2 cap2 hpq
      rw [← hd] at hpq
      rw [← hd]
      have hj1 := hi0.pop w hpq.1 hdm
      have hds := (hi0.hp d).1 (hpq.1.mem_iff.2 (by simp))
      have hdc : d = ((d.toNat : Nat) : Int) := by omega
      have hdl2 : d.toNat < (rvs k dd).length := by rw [wr.len]; omega
      have hrl := wr.rlen d
      have hal : (out ++ [d]).length = out.length + 1 := by simp
      refine jg_adr _ rfl _ rfl rfl (op_assertI Try.underlying3 (.base rfl)) ?_
      refine jg_adr _ rfl _ rfl rfl (op_move (.base rfl)) ?_
      refine jg_adr _ rfl _ rfl rfl (op_ext20 (.base rfl)) ?_
      refine jg_adr _ rfl _ rfl rfl (op_ext21 (.base rfl)) ?_
      refine jg_adr _ rfl _ rfl rfl (op_assign (.base rfl)) ?_
      refine jg_adr _ rfl _ rfl rfl (op_assign (.base rfl)) ?_
      refine jg_nil ?_
      refine jn_keep [4, 5, 6, 7, 12, 13] [24, 25, 26, 70] (.cons rfl (.cons rfl (.cons rfl (.cons rfl (.cons rfl (.cons rfl .nil)))))) (.cons rfl (.cons rfl (.cons rfl (.cons rfl .nil)))) ?_
      refine jn_seq (j_seq ?_)
      refine j_region ?_
      refine jg_adr _ rfl _ rfl rfl (op_move (.base rfl)) ?_
      refine jg_adr _ rfl _ rfl rfl (op_move (.base rfl)) ?_
      refine jg_adr _ rfl _ rfl rfl (op_bslice (rt := (rInt .i64)) Try.underlying28 ty3 z3 rfl (.cons (.raw (.base rfl) rfl) .nil) rfl rfl) ?_
      refine jg_os _ rfl (op_append [4, 5, 6, 7, 13] Try.underlying28 ty3 z3 rfl by3 (.base rfl) rfl (by (try simp); try omega) (.tv (.base rfl)) (by unfold maxLen; (try simp); try omega) (by (try simp); try omega) rfl (.cons rfl (.cons rfl (.cons rfl (.cons rfl (.cons rfl .nil))))) rfl) ?_
      refine jg_adr _ rfl _ rfl rfl (op_assign (.base rfl)) ?_
      refine jg_nil ?_
      refine jn_keep [4, 5, 6, 7, 12, 13] [24, 25, 26, 70] (.cons rfl (.cons rfl (.cons rfl (.cons rfl (.cons rfl (.cons rfl .nil)))))) (.cons rfl (.cons rfl (.cons rfl (.cons rfl .nil)))) ?_
      refine jn_seq (j_seq ?_)
      refine j_region ?_
      refine jg_adr _ rfl _ rfl rfl (op_move (.base rfl)) ?_
      refine jg_adr _ rfl _ rfl rfl (op_move (.base rfl)) ?_
      refine jg_adr _ rfl _ rfl rfl (op_index Try.underlying43 ty28 (.base rfl) (.base rfl) hdc (List.getElem?_eq_getElem (by first | omega | (simp; done) | (simp; omega) | (simp at hg; omega)))) ?_
      refine jg_adr _ rfl _ rfl rfl (op_load ty28 (.base rfl)) ?_
      refine jg_adr _ rfl _ rfl rfl (op_len Try.underlying28 (.base rfl)) ?_
      refine jg_adr _ rfl _ rfl rfl (op_move (.base rfl)) ?_
      rw [rw_at hdl2]
      refine jg_nil ?_
      refine jn_keep [4, 5, 6, 7, 12, 84, 85, 86] [24, 25, 26, 70] (.cons rfl (.cons rfl (.cons rfl (.cons rfl (.cons rfl (.cons rfl (.cons rfl (.cons rfl .nil)))))))) (.cons rfl (.cons rfl (.cons rfl (.cons rfl .nil)))) ?_
      refine jn_seq (j_block ?_)
      refine j_loopp (ι := (Nat × List Int × List Int × Option Addr × Nat)) (fun (j, W, H, A, cap) => ⟨[(4, .tv (rSlice (rSlice (rInt .i64))) dd), (5, .tv (rSlice (rSlice (rInt .i64))) (rvs k dd)), (6, .own 24 (rInt .i64).n 0 k), (7, (svPtr 26 25 1 pb po) A (H).length cap), (12, .own 70 (rInt .i64).n 0 (out ++ [d]).length), (84, .tv (rSlice (rInt .i64)) (rw (rvs k dd) d)), (85, .raw (.int .i64 ((rw (rvs k dd) d).length))), (86, .raw (.int .i64 ((j : Nat))))], [(24, ⟨rInt .i64, W⟩), (26, ⟨rHd, [(A, (H).length, cap)]⟩), (25, ⟨rInt .i64, H⟩), (70, ⟨rInt .i64, out ++ [d]⟩)]⟩) (fun (j, W, H, A, cap) => j ≤ (rw (rvs k dd) d).length ∧ KJ k dd (out ++ [d]) d W H ((rw (rvs k dd) d).take j) ∧ HeapOK H.length H) (fun (j, W, H, A, cap) => (rw (rvs k dd) d).length - j) (0, W, ys, A2, cap2) (⟨Nat.zero_le _, hj1, hpq.2⟩) (fun a w hi => Sub.inv ⟨(by repeat (first | exact SubS_nil | refine SubS_cons rfl (by first | rfl | (simp; done) | assumption | (refine congrArg (SV.own 70 (rInt .i64).n 0) ?_; simp; done)) ?_)), (by repeat (first | exact SubH_nil | refine SubH_cons rfl (by first | rfl | (simp; done) | assumption | (refine congrArg (HB.mk (rInt .i64)) ?_; rw [List.drop_zero, List.take_length]; done)) ?_))⟩ hi) ?_
      rintro ⟨j, W, H, A, cap⟩ ⟨hj, hj0, hho⟩
      have hhl2 := hj0.hlen
      have hwl2 := hj0.len
      refine j_seq ?_
      refine j_region ?_
      refine jg_adr _ rfl _ rfl rfl (op_lss (.base rfl) (.base rfl)) ?_
      refine jg_nil ?_
      refine jn_keep [4, 5, 6, 7, 12, 84, 85, 86, 87] [24, 25, 26, 70] (.cons rfl (.cons rfl (.cons rfl (.cons rfl (.cons rfl (.cons rfl (.cons rfl (.cons rfl (.cons rfl .nil))))))))) (.cons rfl (.cons rfl (.cons rfl (.cons rfl .nil)))) ?_
      refine jn_seq (j_seq ?_)
      refine j_cond rfl (fun h22 => ?_) (fun h22 => ?_)
      · have h22 : j < (rw (rvs k dd) d).length := by simp at h22; omega
        refine j_skip (jn_seq (j_seq (j_block (j_seq ?_))))
        refine j_region ?_
        refine jg_adr _ rfl _ rfl rfl (op_index Try.underlying28 ty3 (.base rfl) (.base rfl) rfl (List.getElem?_eq_getElem (by first | omega | (simp; done) | (simp; omega) | (simp at hg; omega)))) ?_
        refine jg_adr _ rfl _ rfl rfl (op_load ty3 (.base rfl)) ?_
        refine jg_adr _ rfl _ rfl rfl (op_assign (.base rfl)) ?_
        obtain ⟨u, huu⟩ : ∃ u, u = (rw (rvs k dd) d)[j] := ⟨_, rfl⟩
        rw [← huu]
        obtain ⟨hu0, hun, hud⟩ := (rvs_mem hds.1 hds.2.1).1 (show u ∈ (rw (rvs k dd) d) by rw [huu]; exact List.getElem_mem h22)
        have huc : u = ((u.toNat : Nat) : Int) := by omega
        have hul : u.toNat < W.length := by omega
        have hus : u ∉ (rw (rvs k dd) d).take j := by rw [huu]; exact nodup_take (wr.srt _) h22
        have htk : (rw (rvs k dd) d).take (j + 1) = (rw (rvs k dd) d).take j ++ [u] := by rw [List.take_succ_eq_append_getElem h22, ← huu]
        have hwu := hj0.wt u hu0 hun
        rw [if_pos ⟨hud, hus⟩] at hwu
        have hcu := cntU_le (out ++ [d]) (rw dd u)
        have hru := w.rlen u
        refine jg_nil ?_
        refine jn_keep [4, 5, 6, 7, 12, 16, 84, 85, 86] [24, 25, 26, 70] (.cons rfl (.cons rfl (.cons rfl (.cons rfl (.cons rfl (.cons rfl (.cons rfl (.cons rfl (.cons rfl .nil))))))))) (.cons rfl (.cons rfl (.cons rfl (.cons rfl .nil)))) ?_
        refine jn_seq (j_seq ?_)
        refine j_region ?_
        refine jg_adr _ rfl _ rfl rfl (op_move (.base rfl)) ?_
        refine jg_adr _ rfl _ rfl rfl (op_move (.base rfl)) ?_
        refine jg_adr _ rfl _ rfl rfl (op_oindex Try.underlying28 ty3 (.base rfl) (.base rfl) huc (by first | omega | (simp; done) | (simp; omega))) ?_
        refine jg_adr _ rfl _ rfl rfl (op_oload ty3 (.base rfl) rfl (wv_get hul) (Lens.id _)) ?_
        refine jg_adr _ rfl _ rfl rfl (op_sub (.base rfl) (.base rfl) (w64 (by omega))) ?_
        refine jg_adr _ rfl _ rfl rfl (op_oindex Try.underlying28 ty3 (.base rfl) (.base rfl) huc (by first | omega | (simp; done) | (simp; omega))) ?_
        refine jg_os _ rfl (op_ostore ty3 (.base rfl) rfl (wv_get hul) (Lens.id _) (.raw (.base rfl) rfl)) ?_
        refine jg_nil ?_
        refine jn_keep [4, 5, 6, 7, 12, 16, 84, 85, 86] [24, 25, 26, 70] (.cons rfl (.cons rfl (.cons rfl (.cons rfl (.cons rfl (.cons rfl (.cons rfl (.cons rfl (.cons rfl .nil))))))))) (.cons rfl (.cons rfl (.cons rfl (.cons rfl .nil)))) ?_
        refine jn_seq (j_seq ?_)
        refine j_region ?_
        refine jg_adr _ rfl _ rfl rfl (op_move (.base rfl)) ?_
        refine jg_adr _ rfl _ rfl rfl (op_move (.base rfl)) ?_
        refine jg_adr _ rfl _ rfl rfl (op_oindex Try.underlying28 ty3 (.base rfl) (.base rfl) huc (by first | omega | (simp; done) | (simp; omega))) ?_
        refine jg_adr _ rfl _ rfl rfl (op_oload ty3 (.base rfl) rfl (show (W.set (0 + u.toNat) (wv W u - 1))[0 + u.toNat]? = some (wv W u - 1) by rw [List.getElem?_set_self (by omega)]) (Lens.id _)) ?_
        refine jg_adr _ rfl _ rfl rfl (op_eql (.base rfl) (.base rfl)) ?_
        refine jg_nil ?_
        refine jn_keep [4, 5, 6, 7, 12, 16, 84, 85, 86, 100] [24, 25, 26, 70] (.cons rfl (.cons rfl (.cons rfl (.cons rfl (.cons rfl (.cons rfl (.cons rfl (.cons rfl (.cons rfl (.cons rfl .nil)))))))))) (.cons rfl (.cons rfl (.cons rfl (.cons rfl .nil)))) ?_
        refine jn_seq ?_
        refine j_cond rfl (fun h25 => ?_) (fun h25 => ?_)
        · have h25 : wv W u - 1 = 0 := by simpa using h25
          refine j_region ?_
          refine jg_adr _ rfl _ rfl rfl (op_move (.l1 rfl)) ?_
          refine jg_adr _ rfl _ rfl rfl (op_mkifaceP Try.underlying45 (.b2 rfl rfl)) ?_
          refine jg_adr _ rfl _ rfl rfl (op_move (.base rfl)) ?_
          refine jg_adr _ rfl _ rfl rfl (op_mkifaceI Try.underlying3 (.base rfl)) ?_
          refine jg_callI (c0 := 7) (nb := 26) (nm := 25) (pb := pb) (po := po) (svPtr 26 25 1 pb po) [24, 70] [4, 5, 6, 12, 84, 85, 86] (heapPush_ok H u hho (by omega)) rfl rfl rfl (fun _ _ _ => is0_ptr) (fun β a w hi => hr_call (heapPush_ok H u hho (by omega)).ent (hi.raw (.base rfl))) rfl rfl rfl rfl (.cons (.base rfl) .nil) rfl rfl rfl rfl (.free rfl rfl (.free rfl rfl (.free rfl rfl (.free rfl rfl (.free rfl rfl (.free rfl rfl (.free rfl rfl .nil))))))) ?_
          intro ys A2 cap2 hpq
          refine jg_nil ?_
          refine jn_keep [4, 5, 6, 7, 12, 84, 85, 86] [24, 25, 26, 70] (.cons rfl (.cons rfl (.cons rfl (.cons rfl (.cons rfl (.cons rfl (.cons rfl (.cons rfl .nil)))))))) (.cons rfl (.cons rfl (.cons rfl (.cons rfl .nil)))) ?_
          refine jn_blk (jn_seq ?_)
          refine j_region ?_
          refine jg_adr _ rfl _ rfl rfl (op_add (.base rfl) (.base rfl) (w64 (by omega))) ?_
          refine jg_adr _ rfl _ rfl rfl (op_move (.base rfl)) ?_
          refine jg_nil ?_
          refine jn_keep [4, 5, 6, 7, 12, 84, 85, 86] [24, 25, 26, 70] (.cons rfl (.cons rfl (.cons rfl (.cons rfl (.cons rfl (.cons rfl (.cons rfl (.cons rfl .nil)))))))) (.cons rfl (.cons rfl (.cons rfl (.cons rfl .nil)))) ?_
          first | exact jn_loop (fun a w hi => ⟨(j + 1, W.set u.toNat (wv W u - 1), H, A, cap), (by show (rw (rvs k dd) d).length - (j + 1) < (rw (rvs k dd) d).length - j; omega), ⟨by omega, by rw [htk]; exact hj0.step hu0 hun hud hus (by rw [if_neg h25]), hho⟩, Sub.inv ⟨(by repeat (first | exact SubS_nil | refine SubS_cons rfl (by first | rfl | (simp; done) | assumption) ?_)), (by repeat (first | exact SubH_nil | refine SubH_cons rfl (by first | rfl | (simp; done) | assumption | (refine congrArg (HB.mk (rInt .i64)) ?_; rw [Nat.zero_add]; done)) ?_))⟩ hi⟩) | exact jn_loop (fun a w hi => ⟨(j + 1, W.set u.toNat (wv W u - 1), ys, A2, cap2), (by show (rw (rvs k dd) d).length - (j + 1) < (rw (rvs k dd) d).length - j; omega), ⟨by omega, by rw [htk]; exact hj0.step hu0 hun hud hus (by rw [if_pos h25]; exact hpq.1), hpq.2⟩, Sub.inv ⟨(by repeat (first | exact SubS_nil | refine SubS_cons rfl (by first | rfl | (simp; done) | assumption) ?_)), (by repeat (first | exact SubH_nil | refine SubH_cons rfl (by first | rfl | (simp; done) | assumption | (refine congrArg (HB.mk (rInt .i64)) ?_; rw [Nat.zero_add]; done)) ?_))⟩ hi⟩)
        · have h25 : ¬ wv W u - 1 = 0 := by simpa using h25
          refine j_skip (jn_blk (jn_seq ?_))
          refine j_region ?_
          refine jg_adr _ rfl _ rfl rfl (op_add (.base rfl) (.base rfl) (w64 (by omega))) ?_
          refine jg_adr _ rfl _ rfl rfl (op_move (.base rfl)) ?_
          refine jg_nil ?_
          refine jn_keep [4, 5, 6, 7, 12, 84, 85, 86] [24, 25, 26, 70] (.cons rfl (.cons rfl (.cons rfl (.cons rfl (.cons rfl (.cons rfl (.cons rfl (.cons rfl .nil)))))))) (.cons rfl (.cons rfl (.cons rfl (.cons rfl .nil)))) ?_
          first | exact jn_loop (fun a w hi => ⟨(j + 1, W.set u.toNat (wv W u - 1), H, A, cap), (by show (rw (rvs k dd) d).length - (j + 1) < (rw (rvs k dd) d).length - j; omega), ⟨by omega, by rw [htk]; exact hj0.step hu0 hun hud hus (by rw [if_neg h25]), hho⟩, Sub.inv ⟨(by repeat (first | exact SubS_nil | refine SubS_cons rfl (by first | rfl | (simp; done) | assumption) ?_)), (by repeat (first | exact SubH_nil | refine SubH_cons rfl (by first | rfl | (simp; done) | assumption | (refine congrArg (HB.mk (rInt .i64)) ?_; rw [Nat.zero_add]; done)) ?_))⟩ hi⟩) | exact jn_loop (fun a w hi => ⟨(j + 1, W.set u.toNat (wv W u - 1), ys, A2, cap2), (by show (rw (rvs k dd) d).length - (j + 1) < (rw (rvs k dd) d).length - j; omega), ⟨by omega, by rw [htk]; exact hj0.step hu0 hun hud hus (by rw [if_pos h25]; exact hpq.1), hpq.2⟩, Sub.inv ⟨(by repeat (first | exact SubS_nil | refine SubS_cons rfl (by first | rfl | (simp; done) | assumption) ?_)), (by repeat (first | exact SubH_nil | refine SubH_cons rfl (by first | rfl | (simp; done) | assumption | (refine congrArg (HB.mk (rInt .i64)) ?_; rw [Nat.zero_add]; done)) ?_))⟩ hi⟩)
      · have h22 : j = (rw (rvs k dd) d).length := by simp at h22; omega
        have hjd : ∀ u : Int, 0 ≤ u → u < k → d ∈ rw dd u → u ∈ (rw (rvs k dd) d).take j := fun u a b c => by rw [h22, List.take_length]; exact (rvs_mem hds.1 hds.2.1).2 ⟨a, b, c⟩
        refine j_exit (je_seq (je_loop (je_blk (jn_blk ?_))))
        exact jn_loop (fun a w hi => ⟨(out ++ [d], W, H, A, cap), (by show k - (out ++ [d]).length < k - out.length; omega), ⟨hj0.done hjd, hho⟩, Sub.inv ⟨(by repeat (first | exact SubS_nil | refine SubS_cons rfl (by first | rfl | (simp; done) | assumption) ?_)), (by repeat (first | exact SubH_nil | refine SubH_cons rfl (by first | rfl | (simp; done) | assumption) ?_))⟩ hi⟩)
    · have h18 : H = [] := by simpa using h18
      subst h18
      have hfin := hi0.fin
      refine j_exit (je_seq (je_loop (je_blk (jn_seq (j_seq (j_seq ?_))))))
      refine j_region ?_
      refine jg_adr _ rfl _ rfl rfl (op_move (.base rfl)) ?_
      refine jg_adr _ rfl _ rfl rfl (op_len_own Try.underlying28 (.base rfl)) ?_
      refine jg_adr _ rfl _ rfl rfl (op_move (.base rfl)) ?_
      refine jg_adr _ rfl _ rfl rfl (op_len Try.underlying43 (.base rfl)) ?_
      refine jg_adr _ rfl _ rfl rfl (op_lss (.base rfl) (.base rfl)) ?_
      rw [hdl]
      refine jg_nil ?_
      refine jn_keep [12, 111] [70] (.cons rfl (.cons rfl .nil)) (.cons rfl .nil) ?_
      refine jn_seq ?_
      refine j_cond rfl (fun h28 => ?_) (fun h28 => ?_)
      · have h28 : out.length < k := by simp at h28; omega
        refine j_seq ?_
        refine j_region ?_
        refine jg_adr _ rfl _ rfl rfl (op_assign (.base rfl)) ?_
        refine jg_adr _ rfl _ rfl rfl (op_assign (.base rfl)) ?_
        refine jg_nil ?_
        refine jn_keep [2, 3] [] (.cons rfl (.cons rfl .nil)) .nil ?_
        refine jn_seq (j_ret (jr_seq ?_))
        exact jr_fin2 Try.results9 (res_nil rfl) (res_tmp rfl) ⟨rfl, rfl⟩ (by unfold ordV; rw [← hnn, ← hfin, if_pos h28])
      · have h28 : ¬ out.length < k := by simp at h28; omega
        refine j_skip (jn_seq (j_seq ?_))
        refine j_region ?_
        refine jg_adr _ rfl _ rfl rfl (op_move (.base rfl)) ?_
        refine jg_adr _ rfl _ rfl rfl (op_assign (.base rfl)) ?_
        refine jg_adr _ rfl _ rfl rfl (op_assign (.base rfl)) ?_
        refine jg_nil ?_
        refine jn_keep [2, 3] [70] (.cons rfl (.cons rfl .nil)) (.cons rfl .nil) ?_
        refine jn_seq (j_ret ?_)
        refine jr_seal (rt := rInt .i64) 70 2 (dropH 70 _) rfl rfl (by simp) (dropH_sub 70 _) (dropH_no 70 _) ?_
        exact jr_fin2 Try.results9 (res_tmp rfl) (res_tmp rfl) ⟨rfl, rfl⟩ (by unfold ordV; rw [← hnn, ← hfin, if_neg h28, List.drop_zero, List.take_length])

end Go.Proofs.Ytemcooggkcneiaa
