import Derived.Test.YtfamnoalgjkjhaaP34g
import Derived.Test.YtfamnoalgjkjhaaEngQ
namespace Go.Proofs.Ytfamnoalgjkjhaa
open Go.Eng
set_option maxRecDepth 100000
set_option maxHeartbeats 4000000
set_option linter.unusedVariables false
set_option linter.unusedSimpArgs false

/-- which of two facts takes precedence: b -/
def winB (a b : TFact) : Bool := if a.2.2.2.2.2 = b.2.2.2.2.2 then decide (a.1 > b.1) else decide (a.2.2.2.2.2 > b.2.2.2.2.2)
def cmpW (a b : TFact) : Int := if winB a b then -1 else if winB b a then 1 else 0
theorem cmpW_lt {a b : TFact} : cmpW a b < 0 ↔ winB a b = true := by
  unfold cmpW; split
  · simp_all
  · split <;> simp_all
theorem leW {a b : TFact} : leF cmpW a b = !winB b a := by
  unfold leF
  cases h : winB b a
  · have : ¬ cmpW b a < 0 := by rw [cmpW_lt, h]; simp
    simp [this]
  · have : cmpW b a < 0 := cmpW_lt.2 h
    simp [this]
theorem cmpW_ok : Cmp cmpW := by
  refine ⟨fun a b c h1 h2 => ?_, fun a b => ?_⟩
  · rw [leW] at *
    simp only [winB, Bool.not_eq_true'] at *
    split at h1 <;> split at h2 <;> split <;> simp at * <;> omega
  · rw [leW, leW]
    simp only [winB]
    split <;> split <;> simp <;> omega

theorem wins_ok (a b : TFact) : Ct Try.prog 23 [.tv rFact a, .tv rFact b] (.raw (.bool (winB a b))) := by
  refine ct_intro Try.func23 rfl rfl Try.ntmps23 rfl rfl ?_
  intro w0 ok0
  refine j_seq ?_
  refine j_region ?_
  refine jg_os _ rfl (op_box (.tv (.base rfl)) rfl rfl rfl) ?_
  refine jg_os _ rfl (op_box (.tv (.base rfl)) rfl rfl rfl) ?_
  refine jg_adr _ rfl _ rfl rfl (op_assign (.base rfl)) ?_
  refine jg_nil ?_
  refine jn_keep [2, 3] [2, 3] (.cons rfl (.cons rfl .nil)) (.cons rfl (.cons rfl .nil)) ?_
  refine jn_seq (j_seq (j_seq ?_))
  refine j_region ?_
  refine jg_adr _ rfl _ rfl rfl (op_ofield fld45_5 (.base rfl)) ?_
  refine jg_adr _ rfl _ rfl rfl (op_oload ty3 (.base rfl) rfl rfl ln45_5) ?_
  refine jg_adr _ rfl _ rfl rfl (op_ofield fld45_5 (.base rfl)) ?_
  refine jg_adr _ rfl _ rfl rfl (op_oload ty3 (.base rfl) rfl rfl ln45_5) ?_
  refine jg_adr _ rfl _ rfl rfl (op_neq (.base rfl) (.base rfl)) ?_
  refine jg_nil ?_
  refine jn_keep [2, 3, 9] [2, 3] (.cons rfl (.cons rfl (.cons rfl .nil))) (.cons rfl (.cons rfl .nil)) ?_
  refine jn_seq ?_
  refine j_cond rfl (fun h1 => ?_) (fun h1 => ?_)
  · have h0 : a.2.2.2.2.2 ≠ b.2.2.2.2.2 := by simpa using h1
    refine j_seq ?_
    refine j_region ?_
    refine jg_adr _ rfl _ rfl rfl (op_ofield fld45_5 (.base rfl)) ?_
    refine jg_adr _ rfl _ rfl rfl (op_oload ty3 (.base rfl) rfl rfl ln45_5) ?_
    refine jg_adr _ rfl _ rfl rfl (op_ofield fld45_5 (.base rfl)) ?_
    refine jg_adr _ rfl _ rfl rfl (op_oload ty3 (.base rfl) rfl rfl ln45_5) ?_
    refine jg_adr _ rfl _ rfl rfl (op_gtr (.base rfl) (.base rfl)) ?_
    refine jg_adr _ rfl _ rfl rfl (op_assign (.base rfl)) ?_
    refine jg_nil ?_
    refine jn_keep [4] [] (.cons rfl .nil) .nil ?_
    refine jn_seq (j_ret (jr_seq ?_))
    exact jr_fin1 Try.results23 (res_tmp rfl) rfl (rb (by simp [winB, h0]))
  · have h0 : a.2.2.2.2.2 = b.2.2.2.2.2 := by simpa using h1
    refine j_skip (jn_seq (j_seq ?_))
    refine j_region ?_
    refine jg_adr _ rfl _ rfl rfl (op_ofield fld45_0 (.base rfl)) ?_
    refine jg_adr _ rfl _ rfl rfl (op_oload ty3 (.base rfl) rfl rfl ln45_0) ?_
    refine jg_adr _ rfl _ rfl rfl (op_ofield fld45_0 (.base rfl)) ?_
    refine jg_adr _ rfl _ rfl rfl (op_oload ty3 (.base rfl) rfl rfl ln45_0) ?_
    refine jg_adr _ rfl _ rfl rfl (op_gtr (.base rfl) (.base rfl)) ?_
    refine jg_adr _ rfl _ rfl rfl (op_assign (.base rfl)) ?_
    refine jg_nil ?_
    refine jn_keep [4] [] (.cons rfl .nil) .nil ?_
    refine jn_seq (j_ret ?_)
    exact jr_fin1 Try.results23 (res_tmp rfl) rfl (rb (by simp [winB, h0]))

instance : NM (rFun2 Try.prog rFact rFact rBool (fun _ _ => True)) := ⟨rfl⟩
theorem tyW : Ty Try.prog 51 (rFun2 Try.prog rFact rFact rBool (fun _ _ => True)) := Ty.mk_ Try.underlying51 rfl (by kernel_rfl)
theorem wins_val (w : World) (ok : Ok) : (rFun2 Try.prog rFact rFact rBool (fun _ _ => True)).val w ok (.func (.func 23) #[] #[]) winB :=
  ⟨_, ⟨23, #[], rfl, (wins_ok (0, (0, (0, ((0, (0, 0)), ((0, 0), 0))))) (0, (0, (0, ((0, (0, 0)), ((0, 0), 0)))))).ent, fun w' ok' hk hok x y v u _ hv hu => (wins_ok x y).calls w' ok' [v, u] hok ⟨_, _, rfl, of_holds hv, _, _, rfl, of_holds hu, rfl⟩⟩, rfl⟩
theorem cl_ok (a b : TFact) : Ct Try.prog 35 [.tv rFact a, .tv rFact b, .eptr (rFun2 Try.prog rFact rFact rBool (fun _ _ => True)) winB] (.raw (.int .i64 (cmpW a b))) := by
  refine ct_intro Try.func35 rfl rfl Try.ntmps35 rfl rfl ?_
  intro w0 ok0
  refine j_seq ?_
  refine j_region ?_
  refine jg_os _ rfl (op_box (.tv (.base rfl)) rfl rfl rfl) ?_
  refine jg_os _ rfl (op_box (.tv (.base rfl)) rfl rfl rfl) ?_
  refine jg_adr _ rfl _ rfl rfl (op_assign (.base rfl)) ?_
  refine jg_nil ?_
  refine jn_keep [2, 3, 4] [3, 4] (.cons rfl (.cons rfl (.cons rfl .nil))) (.cons rfl (.cons rfl .nil)) ?_
  refine jn_seq (j_seq (j_block (j_seq ?_)))
  refine j_region ?_
  refine jg_adr _ rfl _ rfl rfl (op_load tyW (.base rfl)) ?_
  refine jg_adr _ rfl _ rfl rfl (op_oload ty45 (.base rfl) rfl rfl (Lens.id _)) ?_
  refine jg_adr _ rfl _ rfl rfl (op_oload ty45 (.base rfl) rfl rfl (Lens.id _)) ?_
  refine jg_adr _ rfl _ rfl rfl (op_callf2 (.base rfl) (.tv (.base rfl)) (.tv (.base rfl)) trivial) ?_
  refine jg_adr _ rfl _ rfl rfl (op_assign (.base rfl)) ?_
  refine jg_nil ?_
  refine jn_keep [2, 3, 4, 6] [3, 4] (.cons rfl (.cons rfl (.cons rfl (.cons rfl .nil)))) (.cons rfl (.cons rfl .nil)) ?_
  refine jn_seq ?_
  refine j_cond rfl (fun h1 => ?_) (fun h1 => ?_)
  · have h1 : winB a b = true := h1
    refine j_seq ?_
    refine j_region ?_
    refine jg_adr _ rfl _ rfl rfl (op_assign (.base rfl)) ?_
    refine jg_nil ?_
    refine jn_keep [5] [] (.cons rfl .nil) .nil ?_
    refine jn_seq (j_ret (jr_blk (jr_seq ?_)))
    exact jr_fin1 Try.results35 (res_tmp rfl) rfl (ri (by simp [cmpW, h1]))
  · have h1 : winB a b = false := by simpa using h1
    refine j_seq ?_
    refine j_region ?_
    refine jg_adr _ rfl _ rfl rfl (op_load tyW (.base rfl)) ?_
    refine jg_adr _ rfl _ rfl rfl (op_oload ty45 (.base rfl) rfl rfl (Lens.id _)) ?_
    refine jg_adr _ rfl _ rfl rfl (op_oload ty45 (.base rfl) rfl rfl (Lens.id _)) ?_
    refine jg_adr _ rfl _ rfl rfl (op_callf2 (.base rfl) (.tv (.base rfl)) (.tv (.base rfl)) trivial) ?_
    refine jg_adr _ rfl _ rfl rfl (op_assign (.base rfl)) ?_
    refine jg_nil ?_
    refine jn_keep [11] [] (.cons rfl .nil) .nil ?_
    refine jn_seq ?_
    refine j_cond rfl (fun h3 => ?_) (fun h3 => ?_)
    · have h3 : winB b a = true := h3
      refine j_seq ?_
      refine j_region ?_
      refine jg_adr _ rfl _ rfl rfl (op_assign (.base rfl)) ?_
      refine jg_nil ?_
      refine jn_keep [5] [] (.cons rfl .nil) .nil ?_
      refine jn_seq (j_ret (jr_blk (jr_seq ?_)))
      exact jr_fin1 Try.results35 (res_tmp rfl) rfl (ri (by simp [cmpW, h1, h3]))
    · have h3 : winB b a = false := by simpa using h3
      refine j_skip (jn_blk (jn_seq (j_seq ?_)))
      refine j_region ?_
      refine jg_adr _ rfl _ rfl rfl (op_assign (.base rfl)) ?_
      refine jg_nil ?_
      refine jn_keep [5] [] (.cons rfl .nil) .nil ?_
      refine jn_seq (j_ret ?_)
      exact jr_fin1 Try.results35 (res_tmp rfl) rfl (ri (by simp [cmpW, h1, h3]))

theorem tyH22 : Ty Try.prog 22 rHd := by obtain ⟨⟨de, hu, hd⟩, i0, hi0, hs⟩ := ty22; exact ⟨⟨de, hu, hd⟩, i0, hi0, hs⟩
theorem add_ok (xs : List TFact) (x : TFact) (hsm : xs.length ≤ 1000) : CtP Try.prog 26 rFact xs (fun ys => ys = xs ++ [x]) [.tv rFact x] (.raw (.tuple #[])) := by
  refine ctP_intro Try.func26 rfl rfl rfl rfl rfl ?_
  intro w0 ok0 pb po A cap ex
  refine j_seq ?_
  refine j_region ?_
  refine jg_os _ rfl (op_box (.tv (.base rfl)) rfl rfl rfl) ?_
  refine jg_nil ?_
  refine jn_seq ?_
  refine j_draw_late (d := 4) 7 mo (by kernel_rfl) (by kernel_rfl) (by decide) rfl rfl rfl rfl rfl rfl (by decide) (by kernel_rfl) (
    AS.cons _ _ rfl (ga_adr rfl rfl rfl (op_move (.l1 rfl))) (
    AS.cons _ _ rfl (ga_adr rfl rfl rfl (op_move (.l1 rfl))) (
    AS.cons _ _ rfl (ga_adr rfl rfl rfl (op_nilCheck (.base rfl) (.inr ⟨_, rfl⟩))) (
    AS.cons _ _ rfl (ga_adr rfl rfl rfl (op_ofield fld53_0 (.b1 rfl))) (
    AS.cons _ _ rfl (ga_adr rfl rfl rfl (op_oload tyH22 (.base rfl) rfl rfl (Lens.id _))) (
    AS.cons _ _ rfl (ga_adr rfl rfl rfl (op_oload ty45 (.base rfl) rfl rfl (Lens.id _))) (
    AS.cons _ _ rfl (ga_adr rfl rfl rfl (op_bslice (rt := rFact) Try.underlying22 ty45 z45 rfl (.cons (.tv (.base rfl)) .nil) rfl rfl)) (
    AS.nil)))))))) (fun a w hi => inv_takeL (c0 := 0) (j := 8) rfl rfl rfl hi) (op_append [0] Try.underlying22 ty45 z45 rfl by45 (.base rfl) rfl (by simp) (.tv (.base rfl)) (by unfold maxLen; simp; omega) (by simp; omega) rfl (.cons rfl .nil) rfl) (op_move (.base rfl)) ?_ (os_pre (fun a w hi => inv_takeL (c0 := 0) (j := 8) rfl rfl rfl hi) (op_append [0, 4] Try.underlying22 ty45 z45 rfl by45 (.base rfl) rfl (by simp) (.tv (.base rfl)) (by unfold maxLen; simp; omega) (by simp; omega) rfl (.cons rfl (.cons rfl .nil)) rfl)) ?_
  · refine jt_adr _ _ rfl rfl rfl rfl (by kernel_rfl) (op_nilCheck (.base rfl) (.inr ⟨_, rfl⟩)) ?_
    refine jt_adr _ _ rfl rfl rfl rfl (by kernel_rfl) (op_ofield fld53_0 (.b1 rfl)) ?_
    refine jt_giveL 0 11 rfl rfl (fun A2 cap2 => ?_)
    refine jt_os _ rfl rfl (by kernel_rfl) (op_ostore (d := (A2, xs.length + [x].length, cap2)) tyH22 (.base rfl) rfl rfl (Lens.id _) (.raw (.base rfl) rfl)) ?_
    refine jt_nil rfl ?_
    exact jn_finP0 (s0 := 0) Try.results26 rfl rfl rfl (by simp) (by simp)
  · refine jt_adr _ _ rfl rfl rfl rfl (by kernel_rfl) (op_nilCheck (.base rfl) (.inr ⟨_, rfl⟩)) ?_
    refine jt_adr _ _ rfl rfl rfl rfl (by kernel_rfl) (op_ofield fld53_0 (.b1 rfl)) ?_
    refine jt_giveL 0 11 rfl rfl (fun A2 cap2 => ?_)
    refine jt_os _ rfl rfl (by kernel_rfl) (op_ostore (d := (A2, xs.length + [x].length, cap2)) tyH22 (.base rfl) rfl rfl (Lens.id _) (.raw (.base rfl) rfl)) ?_
    refine jt_nil rfl ?_
    exact jn_finP0 (s0 := 0) Try.results26 rfl rfl rfl (by simp) (by simp)
  

theorem sortBy_ok (xs : List TFact) (hsm : xs.length ≤ 1000) (hpos : 0 < xs.length) : CtP Try.prog 27 rFact xs (fun ys => ys = ssort (leF cmpW) xs) [.tv (rFun2 Try.prog rFact rFact rBool (fun _ _ => True)) winB] (.raw (.tuple #[])) := by
  refine ctP_intro Try.func27 rfl rfl rfl rfl rfl ?_
  intro w0 ok0 pb po A cap ex
  refine j_seq ?_
  refine j_region ?_
  refine jg_adr _ rfl _ rfl rfl (op_boxe (.tv (.base rfl))) ?_
  refine jg_nil ?_
  refine jn_seq ?_
  refine j_region ?_
  refine jg_adr _ rfl _ rfl rfl (op_move (.l1 rfl)) ?_
  refine jg_adr _ rfl _ rfl rfl (op_nilCheck (.base rfl) (.inr ⟨_, rfl⟩)) ?_
  refine jg_adr _ rfl _ rfl rfl (op_ofield fld53_0 (.b1 rfl)) ?_
  refine jg_adr _ rfl _ rfl rfl (op_oload tyH22 (.base rfl) rfl rfl (Lens.id _)) ?_
  refine jg_adr _ rfl _ rfl rfl (op_mkfun2 (A := rFact) (D := rFact) (B := rInt .i64) (φ := fun _ _ => True) cmpW (cl_ok (0, (0, (0, ((0, (0, 0)), ((0, 0), 0))))) (0, (0, (0, ((0, (0, 0)), ((0, 0), 0)))))).ent (fun x y (_ : True) => (show Ct Try.prog 35 (SV.of rFact x :: SV.of rFact y :: [.eptr (rFun2 Try.prog rFact rFact rBool (fun _ _ => True)) winB]) (SV.of (rInt .i64) (cmpW x y)) from cl_ok x y)) (.cons (.base rfl) .nil) rfl) ?_
  refine jg_bothL 0 7 rfl rfl hpos (fun b o hA => ?_)
  subst hA
  refine jg_callT [100] [0] (sstable_ok cmpW cmpW_ok xs hsm hpos) (.base rfl) rfl rfl hpos (.cons (.base rfl) .nil) rfl rfl rfl rfl (.lnk rfl rfl .nil) ?_
  intro ys hys
  refine jg_nil ?_
  exact jn_finP0 (s0 := 0) Try.results27 rfl rfl rfl (by rw [hys, ssort_len]) hys
  

end Go.Proofs.Ytfamnoalgjkjhaa
