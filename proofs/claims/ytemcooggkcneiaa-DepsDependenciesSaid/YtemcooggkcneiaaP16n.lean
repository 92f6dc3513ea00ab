import Derived.Test.YtemcooggkcneiaaP16m
import Derived.Test.YtemcooggkcneiaaM1
namespace Go.Proofs.Ytemcooggkcneiaa
open Go.Eng
set_option maxRecDepth 100000
set_option maxHeartbeats 4000000
set_option linter.unusedVariables false
set_option linter.unusedSimpArgs false


theorem fd16 (s : TScope) : Fd (scN s) (allD s) (dirs s) := ⟨allD_wf s, fun x h0 h1 => (allD_rw s h0 h1).symm, fun x h => by
  unfold dirs; rw [if_neg]; simp only [inN, Bool.and_eq_true, decide_eq_true_eq]; exact h⟩
theorem uq_le {n : Nat} {l : List Int} (h : ∀ x ∈ l, 0 ≤ x ∧ x < n) : (uniqS l).length ≤ n := by
  have := strict_len (uniqS l) 0 n (uniqS_ok l).1 (fun e he => h e ((uniqS_ok l).2 e |>.1 he))
  omega
theorem trR_trns (s : TScope) (d : Int) : trR (dirs s) d (scN s) = trns s d := by
  unfold trns
  by_cases h : inN (scN s) d = true
  · rw [if_pos h]; simp [inN] at h; exact trR_eq (fd16 s) h.1 h.2
  · rw [if_neg h]; exact trR_no (fd16 s) (by simpa [inN] using h) _
theorem fm_step {f : Int → List Int} {T l : List Int} {j : Nat} (h : j < l.length) (p : List Int) : uniqS ((p ++ (l.take j).flatMap f) ++ (f l[j])) = uniqS (p ++ (l.take (j + 1)).flatMap f) := by
  rw [List.take_succ_eq_append_getElem h, List.flatMap_append]; simp
theorem tk_step {T p : List Int} {m : Nat} (h : m < T.length) : insU T[m] (uniqS (p ++ T.take m)) = uniqS (p ++ T.take (m + 1)) := by
  rw [insU_uniqS, List.take_succ_eq_append_getElem h, List.append_assoc]
theorem fm_in {n : Nat} {dd : List (List Int)} {f : Int → List Int} (h : Fd n dd f) {p l r : List Int} (hp : ∀ x ∈ p, 0 ≤ x ∧ x < n) (hr : ∀ x ∈ r, 0 ≤ x ∧ x < n) : ∀ x ∈ (p ++ l.flatMap f) ++ r, 0 ≤ x ∧ x < n := fun x hx => by
  rcases List.mem_append.1 hx with q | q
  · rcases List.mem_append.1 q with q | q
    · exact hp x q
    · obtain ⟨y, _, q⟩ := List.mem_flatMap.1 q; exact h.ent q
  · exact hr x q

theorem rtrans_ok (s : TScope) (d : Int) (hL : Lim s) : Ct Try.prog 18 [.tv rScope s, .raw (.int .i64 d)] (.tv (rSlice (rInt .i64)) (trns s d)) := by
  refine ct_intro Try.func18 rfl rfl Try.ntmps18 rfl rfl ?_
  intro w0 ok0
  have hN : scN s = s.2.2.2.1.length := rfl
  have hN14 := hL.1
  refine j_seq ?_
  refine j_region ?_
  refine jg_os _ rfl (op_box (.tv (.base rfl)) rfl rfl rfl) ?_
  refine jg_adr _ rfl _ rfl rfl (op_assign (.base rfl)) ?_
  refine jg_nil ?_
  refine jn_keep [1, 2] [2] (.cons rfl (.cons rfl .nil)) (.cons rfl .nil) ?_
  refine jn_seq (j_seq ?_)
  refine j_region ?_
  refine jg_adr _ rfl _ rfl rfl (op_oload ty25 (.base rfl) rfl rfl (Lens.id _)) ?_
  refine jg_adr _ rfl _ rfl rfl (op_move (.base rfl)) ?_
  refine jg_adr _ rfl _ rfl rfl (op_call (rdirect_ok s _ hL) (.cons (.base rfl) (.cons (.base rfl) .nil)) rfl rfl) ?_
  refine jg_adr _ rfl _ rfl rfl (op_assign (.base rfl)) ?_
  refine jg_nil ?_
  refine jn_keep [2, 5] [2] (.cons rfl (.cons rfl .nil)) (.cons rfl .nil) ?_
  refine jn_seq (j_seq (j_seq ?_))
  refine j_region ?_
  refine jg_adr _ rfl _ rfl rfl (op_assign (.base rfl)) ?_
  refine jg_nil ?_
  refine jn_keep [2, 5, 6] [2] (.cons rfl (.cons rfl (.cons rfl .nil))) (.cons rfl .nil) ?_
  refine jn_seq (j_block ?_)
  refine j_loopp (ι := Nat) (fun k => ⟨[(2, .optr 2 rScope.n 0 0), (5, .tv (rSlice (rInt .i64)) (trR (dirs s) d k)), (6, .raw (.int .i64 ((k : Nat))))], [(2, ⟨rScope, [s]⟩)]⟩) (fun k => k ≤ scN s) (fun k => scN s - k) 0 (Nat.zero_le _) (fun a w hi => (Sub.inv ⟨(by repeat (first | exact SubS_nil | refine SubS_cons rfl (by first | rfl | (simp; done) | assumption) ?_)), (by repeat (first | exact SubH_nil | refine SubH_cons rfl (by first | rfl | (simp; done) | assumption) ?_))⟩ hi)) ?_
  rintro k hk
  have hTl := trR_len (fd16 s) d k
  refine j_seq (j_seq ?_)
  refine j_region ?_
  refine jg_adr _ rfl _ rfl rfl (op_move (.base rfl)) ?_
  refine jg_adr _ rfl _ rfl rfl (op_ofield fld25_3 (.base rfl)) ?_
  refine jg_adr _ rfl _ rfl rfl (op_oload ty22 (.base rfl) rfl rfl ln25_3) ?_
  refine jg_adr _ rfl _ rfl rfl (op_len Try.underlying22 (.base rfl)) ?_
  refine jg_adr _ rfl _ rfl rfl (op_lss (.base rfl) (.base rfl)) ?_
  refine jg_nil ?_
  refine jn_keep [2, 5, 6, 18] [2] (.cons rfl (.cons rfl (.cons rfl (.cons rfl .nil)))) (.cons rfl .nil) ?_
  refine jn_seq ?_
  refine j_cond rfl (fun h3 => ?_) (fun h3 => ?_)
  · have h3 : k < scN s := by simp at h3; omega
    refine j_skip (jn_seq (j_seq (j_block (j_seq ?_))))
    refine j_region ?_
    refine jg_adr _ rfl _ rfl rfl (op_move (.base rfl)) ?_
    refine jg_adr _ rfl _ rfl rfl (op_assign (.base rfl)) ?_
    refine jg_nil ?_
    refine jn_keep [2, 5, 6, 7] [2] (.cons rfl (.cons rfl (.cons rfl (.cons rfl .nil)))) (.cons rfl .nil) ?_
    refine jn_seq (j_seq ?_)
    refine j_region ?_
    refine jg_adr _ rfl _ rfl rfl (op_assign (.base rfl)) ?_
    refine jg_nil ?_
    refine jn_keep [2, 5, 6, 7, 8] [2] (.cons rfl (.cons rfl (.cons rfl (.cons rfl (.cons rfl .nil))))) (.cons rfl .nil) ?_
    refine jn_seq (j_block ?_)
    refine j_loopp (ι := Nat) (fun j => ⟨[(2, .optr 2 rScope.n 0 0), (5, .tv (rSlice (rInt .i64)) (uniqS ((trR (dirs s) d k) ++ ((trR (dirs s) d k).take j).flatMap (dirs s)))), (6, .raw (.int .i64 ((k : Nat)))), (7, .tv (rSlice (rInt .i64)) (trR (dirs s) d k)), (8, .raw (.int .i64 ((j : Nat))))], [(2, ⟨rScope, [s]⟩)]⟩) (fun j => j ≤ (trR (dirs s) d k).length) (fun j => (trR (dirs s) d k).length - j) 0 (Nat.zero_le _) (fun a w hi => Sub.inv ⟨(by repeat (first | exact SubS_nil | refine SubS_cons rfl (by first | rfl | (simp; done) | assumption | exact congrArg (SV.tv (rSlice (rInt .i64))) (by simp [uniqS_of (trR_srt (fd16 s) d k)])) ?_)), (by repeat (first | exact SubH_nil | refine SubH_cons rfl (by first | rfl | (simp; done) | assumption) ?_))⟩ hi) ?_
    rintro j hj
    refine j_seq (j_seq ?_)
    refine j_region ?_
    refine jg_adr _ rfl _ rfl rfl (op_move (.base rfl)) ?_
    refine jg_adr _ rfl _ rfl rfl (op_move (.base rfl)) ?_
    refine jg_adr _ rfl _ rfl rfl (op_len Try.underlying28 (.base rfl)) ?_
    refine jg_adr _ rfl _ rfl rfl (op_lss (.base rfl) (.base rfl)) ?_
    refine jg_nil ?_
    refine jn_keep [2, 5, 6, 7, 8, 25] [2] (.cons rfl (.cons rfl (.cons rfl (.cons rfl (.cons rfl (.cons rfl .nil)))))) (.cons rfl .nil) ?_
    refine jn_seq ?_
    refine j_cond rfl (fun h7 => ?_) (fun h7 => ?_)
    · have h7 : j < (trR (dirs s) d k).length := by simp at h7; omega
      have hDl := (fd16 s).len (trR (dirs s) d k)[j]
      refine j_skip (jn_seq (j_seq (j_block (j_seq ?_))))
      refine j_draw mo (by kernel_rfl) (
        AS.cons _ _ rfl (ga_adr rfl rfl rfl (op_oload ty25 (.base rfl) rfl rfl (Lens.id _))) (
          AS.cons _ _ rfl (ga_adr rfl rfl rfl (op_move (.base rfl))) (
          AS.cons _ _ rfl (ga_adr rfl rfl rfl (op_move (.base rfl))) (
          AS.cons _ _ rfl (ga_adr rfl rfl rfl (op_index Try.underlying28 ty3 (.base rfl) (.base rfl) rfl (List.getElem?_eq_getElem (by first | omega | (simp; done) | (simp; omega) | (simp at hg; omega))))) (
          AS.cons _ _ rfl (ga_adr rfl rfl rfl (op_load ty3 (.base rfl))) (
          AS.cons _ _ rfl (ga_adr rfl rfl rfl (op_call (rdirect_ok s _ hL) (.cons (.base rfl) (.cons (.base rfl) .nil)) rfl rfl)) (
          AS.cons _ _ rfl (ga_adr rfl rfl rfl (op_assign (.base rfl))) (
          AS.nil)))))))) ?_
      refine jn_keep [2, 5, 6, 7, 8, 9] [2] (.cons rfl (.cons rfl (.cons rfl (.cons rfl (.cons rfl (.cons rfl .nil)))))) (.cons rfl .nil) ?_
      refine jn_seq (j_seq ?_)
      refine j_region ?_
      refine jg_adr _ rfl _ rfl rfl (op_assign (.base rfl)) ?_
      refine jg_nil ?_
      refine jn_keep [2, 5, 6, 7, 8, 9, 10] [2] (.cons rfl (.cons rfl (.cons rfl (.cons rfl (.cons rfl (.cons rfl (.cons rfl .nil))))))) (.cons rfl .nil) ?_
      refine jn_seq (j_block ?_)
      refine j_loopp (ι := Nat) (fun m => ⟨[(2, .optr 2 rScope.n 0 0), (5, .tv (rSlice (rInt .i64)) (uniqS (((trR (dirs s) d k) ++ ((trR (dirs s) d k).take j).flatMap (dirs s)) ++ (dirs s (trR (dirs s) d k)[j]).take m))), (6, .raw (.int .i64 ((k : Nat)))), (7, .tv (rSlice (rInt .i64)) (trR (dirs s) d k)), (8, .raw (.int .i64 ((j : Nat)))), (9, .tv (rSlice (rInt .i64)) (dirs s (trR (dirs s) d k)[j])), (10, .raw (.int .i64 ((m : Nat))))], [(2, ⟨rScope, [s]⟩)]⟩) (fun m => m ≤ (dirs s (trR (dirs s) d k)[j]).length) (fun m => (dirs s (trR (dirs s) d k)[j]).length - m) 0 (Nat.zero_le _) (fun a w hi => Sub.inv ⟨(by repeat (first | exact SubS_nil | refine SubS_cons rfl (by first | rfl | (simp; done) | assumption | exact congrArg (SV.tv (rSlice (rInt .i64))) (by simp)) ?_)), (by repeat (first | exact SubH_nil | refine SubH_cons rfl (by first | rfl | (simp; done) | assumption) ?_))⟩ hi) ?_
      rintro m hm
      have hS2 : (uniqS (((trR (dirs s) d k) ++ ((trR (dirs s) d k).take j).flatMap (dirs s)) ++ (dirs s (trR (dirs s) d k)[j]).take m)).length ≤ scN s := uq_le (fm_in (fd16 s) (trR_ent (fd16 s) k) (fun x hx => (fd16 s).ent (List.mem_of_mem_take hx)))
      have hin : ∀ x : Int, 0 ≤ x → True := fun _ _ => trivial
      refine j_seq (j_seq ?_)
      refine j_region ?_
      refine jg_adr _ rfl _ rfl rfl (op_move (.base rfl)) ?_
      refine jg_adr _ rfl _ rfl rfl (op_move (.base rfl)) ?_
      refine jg_adr _ rfl _ rfl rfl (op_len Try.underlying28 (.base rfl)) ?_
      refine jg_adr _ rfl _ rfl rfl (op_lss (.base rfl) (.base rfl)) ?_
      refine jg_nil ?_
      refine jn_keep [2, 5, 6, 7, 8, 9, 10, 37] [2] (.cons rfl (.cons rfl (.cons rfl (.cons rfl (.cons rfl (.cons rfl (.cons rfl (.cons rfl .nil)))))))) (.cons rfl .nil) ?_
      refine jn_seq ?_
      refine j_cond rfl (fun h11 => ?_) (fun h11 => ?_)
      · have h11 : m < (dirs s (trR (dirs s) d k)[j]).length := by simp at h11; omega
        have hs2 : insU (dirs s (trR (dirs s) d k)[j])[m] (uniqS (((trR (dirs s) d k) ++ ((trR (dirs s) d k).take j).flatMap (dirs s)) ++ (dirs s (trR (dirs s) d k)[j]).take m)) = uniqS (((trR (dirs s) d k) ++ ((trR (dirs s) d k).take j).flatMap (dirs s)) ++ (dirs s (trR (dirs s) d k)[j]).take (m + 1)) := tk_step h11
        refine j_skip (jn_seq (j_seq (j_block ?_)))
        refine j_region ?_
        refine jg_adr _ rfl _ rfl rfl (op_move (.base rfl)) ?_
        refine jg_adr _ rfl _ rfl rfl (op_move (.base rfl)) ?_
        refine jg_adr _ rfl _ rfl rfl (op_move (.base rfl)) ?_
        refine jg_adr _ rfl _ rfl rfl (op_index Try.underlying28 ty3 (.base rfl) (.base rfl) rfl (List.getElem?_eq_getElem (by first | omega | (simp; done) | (simp; omega) | (simp at hg; omega)))) ?_
        refine jg_adr _ rfl _ rfl rfl (op_load ty3 (.base rfl)) ?_
        refine jg_adr _ rfl _ rfl rfl (op_call (rins16_ok _ _ (by omega)) (.cons (.base rfl) (.cons (.base rfl) .nil)) rfl rfl) ?_
        refine jg_adr _ rfl _ rfl rfl (op_assign (.base rfl)) ?_
        refine jg_nil ?_
        refine jn_keep [2, 5, 6, 7, 8, 9, 10] [2] (.cons rfl (.cons rfl (.cons rfl (.cons rfl (.cons rfl (.cons rfl (.cons rfl .nil))))))) (.cons rfl .nil) ?_
        refine jn_blk (jn_seq ?_)
        refine j_region ?_
        refine jg_adr _ rfl _ rfl rfl (op_move (.base rfl)) ?_
        refine jg_adr _ rfl _ rfl rfl (op_add (.base rfl) (.base rfl) (w64 (by omega))) ?_
        refine jg_adr _ rfl _ rfl rfl (op_assign (.base rfl)) ?_
        refine jg_nil ?_
        refine jn_keep [2, 5, 6, 7, 8, 9, 10] [2] (.cons rfl (.cons rfl (.cons rfl (.cons rfl (.cons rfl (.cons rfl (.cons rfl .nil))))))) (.cons rfl .nil) ?_
        exact jn_loop (fun a w hi => ⟨m + 1, (by first | omega | (simp; omega)), (by omega), Sub.inv ⟨(by repeat (first | exact SubS_nil | refine SubS_cons rfl (by first | rfl | (simp; done) | assumption | exact congrArg (SV.tv (rSlice (rInt .i64))) hs2) ?_)), (by repeat (first | exact SubH_nil | refine SubH_cons rfl (by first | rfl | (simp; done) | assumption) ?_))⟩ hi⟩)
      · have h11 : m = (dirs s (trR (dirs s) d k)[j]).length := by simp at h11; omega
        have hs1 : (uniqS (((trR (dirs s) d k) ++ ((trR (dirs s) d k).take j).flatMap (dirs s)) ++ (dirs s (trR (dirs s) d k)[j]).take m)) = uniqS ((trR (dirs s) d k) ++ ((trR (dirs s) d k).take (j + 1)).flatMap (dirs s)) := by rw [h11, List.take_length]; exact fm_step (T := []) h7 _
        refine j_exit (je_seq (je_loop (je_blk (jn_blk (jn_seq ?_)))))
        refine j_region ?_
        refine jg_adr _ rfl _ rfl rfl (op_move (.base rfl)) ?_
        refine jg_adr _ rfl _ rfl rfl (op_add (.base rfl) (.base rfl) (w64 (by omega))) ?_
        refine jg_adr _ rfl _ rfl rfl (op_assign (.base rfl)) ?_
        refine jg_nil ?_
        refine jn_keep [2, 5, 6, 7, 8] [2] (.cons rfl (.cons rfl (.cons rfl (.cons rfl (.cons rfl .nil))))) (.cons rfl .nil) ?_
        exact jn_loop (fun a w hi => ⟨j + 1, (by first | omega | (simp; omega)), (by omega), Sub.inv ⟨(by repeat (first | exact SubS_nil | refine SubS_cons rfl (by first | rfl | (simp; done) | assumption | exact congrArg (SV.tv (rSlice (rInt .i64))) hs1) ?_)), (by repeat (first | exact SubH_nil | refine SubH_cons rfl (by first | rfl | (simp; done) | assumption) ?_))⟩ hi⟩)
    · have h7 : j = (trR (dirs s) d k).length := by simp at h7; omega
      have hst : (uniqS ((trR (dirs s) d k) ++ ((trR (dirs s) d k).take j).flatMap (dirs s))) = trR (dirs s) d (k + 1) := by rw [h7, List.take_length]; rfl
      refine j_exit (je_seq (je_loop (je_blk (jn_blk (jn_seq ?_)))))
      refine j_region ?_
      refine jg_adr _ rfl _ rfl rfl (op_move (.base rfl)) ?_
      refine jg_adr _ rfl _ rfl rfl (op_add (.base rfl) (.base rfl) (w64 (by omega))) ?_
      refine jg_adr _ rfl _ rfl rfl (op_assign (.base rfl)) ?_
      refine jg_nil ?_
      refine jn_keep [2, 5, 6] [2] (.cons rfl (.cons rfl (.cons rfl .nil))) (.cons rfl .nil) ?_
      exact jn_loop (fun a w hi => ⟨k + 1, (by first | omega | (simp; omega)), (by omega), Sub.inv ⟨(by repeat (first | exact SubS_nil | refine SubS_cons rfl (by first | rfl | (simp; done) | assumption | exact congrArg (SV.tv (rSlice (rInt .i64))) hst) ?_)), (by repeat (first | exact SubH_nil | refine SubH_cons rfl (by first | rfl | (simp; done) | assumption) ?_))⟩ hi⟩)
  · have h3 : k = scN s := by simp at h3; omega
    subst h3
    refine j_exit (je_seq (je_loop (je_blk (jn_seq (j_seq ?_)))))
    refine j_region ?_
    refine jg_adr _ rfl _ rfl rfl (op_move (.base rfl)) ?_
    refine jg_adr _ rfl _ rfl rfl (op_assign (.base rfl)) ?_
    refine jg_nil ?_
    refine jn_keep [4] [] (.cons rfl .nil) .nil ?_
    refine jn_seq (j_ret ?_)
    exact jr_fin1 Try.results18 (res_tmp rfl) rfl (congrArg (SV.tv (rSlice (rInt .i64))) (trR_trns s d))

theorem ready_ok (s : TScope) (d : Int) (l : List Int) (hL : Lim s) : Ct Try.prog 27 [.tv rScope s, .raw (.int .i64 d), .tv (rSlice (rInt .i64)) l] (.raw (.bool (decide (∀ e ∈ dirs s d, e ∈ l)))) := by
  refine ct_intro Try.func27 rfl rfl Try.ntmps27 rfl rfl ?_
  intro w0 ok0
  have hN14 := hL.1
  refine j_seq ?_
  refine j_region ?_
  refine jg_os _ rfl (op_box (.tv (.base rfl)) rfl rfl rfl) ?_
  refine jg_adr _ rfl _ rfl rfl (op_assign (.base rfl)) ?_
  refine jg_nil ?_
  refine jn_keep [1, 2, 3] [3] (.cons rfl (.cons rfl (.cons rfl .nil))) (.cons rfl .nil) ?_
  refine jn_seq (j_seq ?_)
  refine j_region ?_
  refine jg_adr _ rfl _ rfl rfl (op_oload ty25 (.base rfl) rfl rfl (Lens.id _)) ?_
  refine jg_adr _ rfl _ rfl rfl (op_move (.base rfl)) ?_
  refine jg_adr _ rfl _ rfl rfl (op_call (rdirect_ok s _ hL) (.cons (.base rfl) (.cons (.base rfl) .nil)) rfl rfl) ?_
  refine jg_adr _ rfl _ rfl rfl (op_assign (.base rfl)) ?_
  refine jg_nil ?_
  refine jn_keep [2, 7] [] (.cons rfl (.cons rfl .nil)) .nil ?_
  refine jn_seq (j_seq (j_seq ?_))
  refine j_region ?_
  refine jg_adr _ rfl _ rfl rfl (op_assign (.base rfl)) ?_
  refine jg_nil ?_
  refine jn_keep [2, 7, 8] [] (.cons rfl (.cons rfl (.cons rfl .nil))) .nil ?_
  refine jn_seq (j_block ?_)
  refine j_loopp (ι := Nat) (fun k => ⟨[(2, .tv (rSlice (rInt .i64)) l), (7, .tv (rSlice (rInt .i64)) (dirs s d)), (8, .raw (.int .i64 ((k : Nat))))], []⟩) (fun k => k ≤ (dirs s d).length ∧ ∀ e ∈ (dirs s d).take k, e ∈ l) (fun k => (dirs s d).length - k) 0 (⟨Nat.zero_le _, by simp⟩) (fun a w hi => (Sub.inv ⟨(by repeat (first | exact SubS_nil | refine SubS_cons rfl (by first | rfl | (simp; done) | assumption) ?_)), (by repeat (first | exact SubH_nil | refine SubH_cons rfl (by first | rfl | (simp; done) | assumption) ?_))⟩ hi)) ?_
  rintro k ⟨hk, ha⟩
  have hDl := (fd16 s).len d
  refine j_seq (j_seq ?_)
  refine j_region ?_
  refine jg_adr _ rfl _ rfl rfl (op_move (.base rfl)) ?_
  refine jg_adr _ rfl _ rfl rfl (op_move (.base rfl)) ?_
  refine jg_adr _ rfl _ rfl rfl (op_len Try.underlying28 (.base rfl)) ?_
  refine jg_adr _ rfl _ rfl rfl (op_lss (.base rfl) (.base rfl)) ?_
  refine jg_nil ?_
  refine jn_keep [2, 7, 8, 15] [] (.cons rfl (.cons rfl (.cons rfl (.cons rfl .nil)))) .nil ?_
  refine jn_seq ?_
  refine j_cond rfl (fun h3 => ?_) (fun h3 => ?_)
  · have h3 : k < (dirs s d).length := by simp at h3; omega
    refine j_skip (jn_seq (j_seq (j_block (j_seq ?_))))
    refine j_region ?_
    refine jg_adr _ rfl _ rfl rfl (op_move (.base rfl)) ?_
    refine jg_adr _ rfl _ rfl rfl (op_move (.base rfl)) ?_
    refine jg_adr _ rfl _ rfl rfl (op_move (.base rfl)) ?_
    refine jg_adr _ rfl _ rfl rfl (op_index Try.underlying28 ty3 (.base rfl) (.base rfl) rfl (List.getElem?_eq_getElem (by first | omega | (simp; done) | (simp; omega) | (simp at hg; omega)))) ?_
    refine jg_adr _ rfl _ rfl rfl (op_load ty3 (.base rfl)) ?_
    refine jg_adr _ rfl _ rfl rfl (op_call (has_ok _ _) (.cons (.base rfl) (.cons (.base rfl) .nil)) rfl rfl) ?_
    refine jg_adr _ rfl _ rfl rfl (op_not (.base rfl)) ?_
    refine jg_nil ?_
    refine jn_keep [2, 7, 8, 24] [] (.cons rfl (.cons rfl (.cons rfl (.cons rfl .nil)))) .nil ?_
    refine jn_seq ?_
    refine j_cond rfl (fun h5 => ?_) (fun h5 => ?_)
    · have h5 : (dirs s d)[k] ∉ l := by simpa using h5
      refine j_seq ?_
      refine j_region ?_
      refine jg_adr _ rfl _ rfl rfl (op_assign (.base rfl)) ?_
      refine jg_nil ?_
      refine jn_keep [6] [] (.cons rfl .nil) .nil ?_
      refine jn_seq (j_ret (jr_blk (jr_seq (jr_loop (jr_blk (jr_seq ?_))))))
      exact jr_fin1 Try.results27 (res_tmp rfl) rfl (rb (by symm; rw [decide_eq_false_iff_not]; exact fun q => h5 (q _ (List.getElem_mem h3))))
    · have h5 : (dirs s d)[k] ∈ l := by simpa using h5
      refine j_skip (jn_blk (jn_seq ?_))
      refine j_region ?_
      refine jg_adr _ rfl _ rfl rfl (op_move (.base rfl)) ?_
      refine jg_adr _ rfl _ rfl rfl (op_add (.base rfl) (.base rfl) (w64 (by omega))) ?_
      refine jg_adr _ rfl _ rfl rfl (op_assign (.base rfl)) ?_
      refine jg_nil ?_
      refine jn_keep [2, 7, 8] [] (.cons rfl (.cons rfl (.cons rfl .nil))) .nil ?_
      exact jn_loop (fun a w hi => ⟨k + 1, (by first | omega | (simp; omega)), (⟨by omega, fun e he => (by rw [List.take_succ_eq_append_getElem h3, List.mem_append] at he; rcases he with q | q; exact ha e q; simp at q; rw [q]; exact h5)⟩), Sub.inv ⟨(by repeat (first | exact SubS_nil | refine SubS_cons rfl (by first | rfl | (simp; done) | assumption) ?_)), (by repeat (first | exact SubH_nil | refine SubH_cons rfl (by first | rfl | (simp; done) | assumption) ?_))⟩ hi⟩)
  · have h3 : k = (dirs s d).length := by simp at h3; omega
    rw [h3, List.take_length] at ha
    refine j_exit (je_seq (je_loop (je_blk (jn_seq (j_seq ?_)))))
    refine j_region ?_
    refine jg_adr _ rfl _ rfl rfl (op_assign (.base rfl)) ?_
    refine jg_nil ?_
    refine jn_keep [6] [] (.cons rfl .nil) .nil ?_
    refine jn_seq (j_ret ?_)
    exact jr_fin1 Try.results27 (res_tmp rfl) rfl (rb (by symm; rw [decide_eq_true_iff]; exact ha))

theorem reach_ok (s : TScope) (a b : Int) (t : Nat) (ht : t ≤ 14) (hL : Lim s) : Ct Try.prog 31 [.tv rScope s, .raw (.int .i64 a), .raw (.int .i64 b), .raw (.int .i64 (t : Nat))] (.raw (.bool (decide (b ∈ frR (dirs s) a t)))) := by
  refine ct_intro Try.func31 rfl rfl Try.ntmps31 rfl rfl ?_
  intro w0 ok0
  have hN : scN s = s.2.2.2.1.length := rfl
  have hN14 := hL.1
  refine j_seq ?_
  refine j_region ?_
  refine jg_os _ rfl (op_box (.tv (.base rfl)) rfl rfl rfl) ?_
  refine jg_adr _ rfl _ rfl rfl (op_assign (.base rfl)) ?_
  refine jg_nil ?_
  refine jn_keep [1, 2, 3, 4] [4] (.cons rfl (.cons rfl (.cons rfl (.cons rfl .nil)))) (.cons rfl .nil) ?_
  refine jn_seq (j_seq ?_)
  refine j_region ?_
  refine jg_adr _ rfl _ rfl rfl (op_move (.base rfl)) ?_
  refine jg_os _ rfl (op_obslice (rt := rInt .i64) Try.underlying28 ty3 z3 rfl (.cons (.raw (.base rfl) rfl) .nil) rfl rfl rfl rfl rfl) ?_
  refine jg_adr _ rfl _ rfl rfl (op_assign (.base rfl)) ?_
  refine jg_nil ?_
  refine jn_keep [2, 3, 4, 9] [4, 16] (.cons rfl (.cons rfl (.cons rfl (.cons rfl .nil)))) (.cons rfl (.cons rfl .nil)) ?_
  refine jn_seq (j_seq (j_seq ?_))
  refine j_seal (rt := rInt .i64) 16 9 (dropH 16 _) rfl rfl (by simp) (dropH_sub 16 _) (dropH_no 16 _) ?_
  refine j_region ?_
  refine jg_adr _ rfl _ rfl rfl (op_assign (.base rfl)) ?_
  refine jg_nil ?_
  refine jn_keep [2, 3, 4, 9, 10] [4] (.cons rfl (.cons rfl (.cons rfl (.cons rfl (.cons rfl .nil))))) (.cons rfl .nil) ?_
  refine jn_seq (j_block ?_)
  refine j_loopp (ι := Nat) (fun k => ⟨[(2, .raw (.int .i64 (b))), (4, .optr 4 rScope.n 0 0), (3, .raw (.int .i64 ((t : Nat)))), (9, .tv (rSlice (rInt .i64)) (frR (dirs s) a k)), (10, .raw (.int .i64 ((k : Nat))))], [(4, ⟨rScope, [s]⟩)]⟩) (fun k => k ≤ t) (fun k => t - k) 0 (Nat.zero_le _) (fun a w hi => Sub.inv ⟨(by repeat (first | exact SubS_nil | refine SubS_cons rfl (by first | rfl | (simp; done) | assumption | exact congrArg (SV.tv (rSlice (rInt .i64))) (by simp [frR])) ?_)), (by repeat (first | exact SubH_nil | refine SubH_cons rfl (by first | rfl | (simp; done) | assumption) ?_))⟩ hi) ?_
  rintro k hk
  have hTl := frR_len (fd16 s) a k
  refine j_seq (j_seq ?_)
  refine j_region ?_
  refine jg_adr _ rfl _ rfl rfl (op_move (.base rfl)) ?_
  refine jg_adr _ rfl _ rfl rfl (op_move (.base rfl)) ?_
  refine jg_adr _ rfl _ rfl rfl (op_lss (.base rfl) (.base rfl)) ?_
  refine jg_nil ?_
  refine jn_keep [2, 3, 4, 9, 10, 19] [4] (.cons rfl (.cons rfl (.cons rfl (.cons rfl (.cons rfl (.cons rfl .nil)))))) (.cons rfl .nil) ?_
  refine jn_seq ?_
  refine j_cond rfl (fun h3 => ?_) (fun h3 => ?_)
  · have h3 : k < t := by simp at h3; omega
    refine j_skip (jn_seq (j_seq (j_block (j_seq ?_))))
    refine j_region ?_
    refine jg_adr _ rfl _ rfl rfl (op_assign (.base rfl)) ?_
    refine jg_nil ?_
    refine jn_keep [2, 3, 4, 9, 10, 11] [4] (.cons rfl (.cons rfl (.cons rfl (.cons rfl (.cons rfl (.cons rfl .nil)))))) (.cons rfl .nil) ?_
    refine jn_seq (j_seq (j_seq ?_))
    refine j_region ?_
    refine jg_adr _ rfl _ rfl rfl (op_assign (.base rfl)) ?_
    refine jg_nil ?_
    refine jn_keep [2, 3, 4, 9, 10, 11, 12] [4] (.cons rfl (.cons rfl (.cons rfl (.cons rfl (.cons rfl (.cons rfl (.cons rfl .nil))))))) (.cons rfl .nil) ?_
    refine jn_seq (j_block ?_)
    refine j_nil 11 (rInt .i64) rfl ?_
    refine j_loopp (ι := Nat) (fun j => ⟨[(2, .raw (.int .i64 (b))), (4, .optr 4 rScope.n 0 0), (3, .raw (.int .i64 ((t : Nat)))), (9, .tv (rSlice (rInt .i64)) (frR (dirs s) a k)), (10, .raw (.int .i64 ((k : Nat)))), (11, .tv (rSlice (rInt .i64)) (uniqS (((frR (dirs s) a k).take j).flatMap (dirs s)))), (12, .raw (.int .i64 ((j : Nat))))], [(4, ⟨rScope, [s]⟩)]⟩) (fun j => j ≤ (frR (dirs s) a k).length) (fun j => (frR (dirs s) a k).length - j) 0 (Nat.zero_le _) (fun a w hi => Sub.inv ⟨(by repeat (first | exact SubS_nil | refine SubS_cons rfl (by first | rfl | (simp; done) | assumption | exact congrArg (SV.tv (rSlice (rInt .i64))) (by simp [uniqS_nil])) ?_)), (by repeat (first | exact SubH_nil | refine SubH_cons rfl (by first | rfl | (simp; done) | assumption) ?_))⟩ hi) ?_
    rintro j hj
    refine j_seq (j_seq ?_)
    refine j_region ?_
    refine jg_adr _ rfl _ rfl rfl (op_move (.base rfl)) ?_
    refine jg_adr _ rfl _ rfl rfl (op_move (.base rfl)) ?_
    refine jg_adr _ rfl _ rfl rfl (op_len Try.underlying28 (.base rfl)) ?_
    refine jg_adr _ rfl _ rfl rfl (op_lss (.base rfl) (.base rfl)) ?_
    refine jg_nil ?_
    refine jn_keep [2, 3, 4, 9, 10, 11, 12, 25] [4] (.cons rfl (.cons rfl (.cons rfl (.cons rfl (.cons rfl (.cons rfl (.cons rfl (.cons rfl .nil)))))))) (.cons rfl .nil) ?_
    refine jn_seq ?_
    refine j_cond rfl (fun h7 => ?_) (fun h7 => ?_)
    · have h7 : j < (frR (dirs s) a k).length := by simp at h7; omega
      have hDl := (fd16 s).len (frR (dirs s) a k)[j]
      refine j_skip (jn_seq (j_seq (j_block (j_seq ?_))))
      refine j_draw mo (by kernel_rfl) (
        AS.cons _ _ rfl (ga_adr rfl rfl rfl (op_oload ty25 (.base rfl) rfl rfl (Lens.id _))) (
          AS.cons _ _ rfl (ga_adr rfl rfl rfl (op_move (.base rfl))) (
          AS.cons _ _ rfl (ga_adr rfl rfl rfl (op_move (.base rfl))) (
          AS.cons _ _ rfl (ga_adr rfl rfl rfl (op_index Try.underlying28 ty3 (.base rfl) (.base rfl) rfl (List.getElem?_eq_getElem (by first | omega | (simp; done) | (simp; omega) | (simp at hg; omega))))) (
          AS.cons _ _ rfl (ga_adr rfl rfl rfl (op_load ty3 (.base rfl))) (
          AS.cons _ _ rfl (ga_adr rfl rfl rfl (op_call (rdirect_ok s _ hL) (.cons (.base rfl) (.cons (.base rfl) .nil)) rfl rfl)) (
          AS.cons _ _ rfl (ga_adr rfl rfl rfl (op_assign (.base rfl))) (
          AS.nil)))))))) ?_
      refine jn_keep [2, 3, 4, 9, 10, 11, 12, 13] [4] (.cons rfl (.cons rfl (.cons rfl (.cons rfl (.cons rfl (.cons rfl (.cons rfl (.cons rfl .nil)))))))) (.cons rfl .nil) ?_
      refine jn_seq (j_seq ?_)
      refine j_region ?_
      refine jg_adr _ rfl _ rfl rfl (op_assign (.base rfl)) ?_
      refine jg_nil ?_
      refine jn_keep [2, 3, 4, 9, 10, 11, 12, 13, 14] [4] (.cons rfl (.cons rfl (.cons rfl (.cons rfl (.cons rfl (.cons rfl (.cons rfl (.cons rfl (.cons rfl .nil))))))))) (.cons rfl .nil) ?_
      refine jn_seq (j_block ?_)
      refine j_loopp (ι := Nat) (fun m => ⟨[(2, .raw (.int .i64 (b))), (4, .optr 4 rScope.n 0 0), (3, .raw (.int .i64 ((t : Nat)))), (9, .tv (rSlice (rInt .i64)) (frR (dirs s) a k)), (10, .raw (.int .i64 ((k : Nat)))), (11, .tv (rSlice (rInt .i64)) (uniqS (((frR (dirs s) a k).take j).flatMap (dirs s) ++ (dirs s (frR (dirs s) a k)[j]).take m))), (12, .raw (.int .i64 ((j : Nat)))), (13, .tv (rSlice (rInt .i64)) (dirs s (frR (dirs s) a k)[j])), (14, .raw (.int .i64 ((m : Nat))))], [(4, ⟨rScope, [s]⟩)]⟩) (fun m => m ≤ (dirs s (frR (dirs s) a k)[j]).length) (fun m => (dirs s (frR (dirs s) a k)[j]).length - m) 0 (Nat.zero_le _) (fun a w hi => Sub.inv ⟨(by repeat (first | exact SubS_nil | refine SubS_cons rfl (by first | rfl | (simp; done) | assumption | exact congrArg (SV.tv (rSlice (rInt .i64))) (by simp)) ?_)), (by repeat (first | exact SubH_nil | refine SubH_cons rfl (by first | rfl | (simp; done) | assumption) ?_))⟩ hi) ?_
      rintro m hm
      have hS2 : (uniqS (((frR (dirs s) a k).take j).flatMap (dirs s) ++ (dirs s (frR (dirs s) a k)[j]).take m)).length ≤ scN s := uq_le (fm_in (p := []) (fd16 s) (fun x hx => (by cases hx)) (fun x hx => (fd16 s).ent (List.mem_of_mem_take hx)))
      refine j_seq (j_seq ?_)
      refine j_region ?_
      refine jg_adr _ rfl _ rfl rfl (op_move (.base rfl)) ?_
      refine jg_adr _ rfl _ rfl rfl (op_move (.base rfl)) ?_
      refine jg_adr _ rfl _ rfl rfl (op_len Try.underlying28 (.base rfl)) ?_
      refine jg_adr _ rfl _ rfl rfl (op_lss (.base rfl) (.base rfl)) ?_
      refine jg_nil ?_
      refine jn_keep [2, 3, 4, 9, 10, 11, 12, 13, 14, 37] [4] (.cons rfl (.cons rfl (.cons rfl (.cons rfl (.cons rfl (.cons rfl (.cons rfl (.cons rfl (.cons rfl (.cons rfl .nil)))))))))) (.cons rfl .nil) ?_
      refine jn_seq ?_
      refine j_cond rfl (fun h11 => ?_) (fun h11 => ?_)
      · have h11 : m < (dirs s (frR (dirs s) a k)[j]).length := by simp at h11; omega
        have hs2 : insU (dirs s (frR (dirs s) a k)[j])[m] (uniqS (((frR (dirs s) a k).take j).flatMap (dirs s) ++ (dirs s (frR (dirs s) a k)[j]).take m)) = uniqS (((frR (dirs s) a k).take j).flatMap (dirs s) ++ (dirs s (frR (dirs s) a k)[j]).take (m + 1)) := tk_step h11
        refine j_skip (jn_seq (j_seq (j_block ?_)))
        refine j_region ?_
        refine jg_adr _ rfl _ rfl rfl (op_move (.base rfl)) ?_
        refine jg_adr _ rfl _ rfl rfl (op_move (.base rfl)) ?_
        refine jg_adr _ rfl _ rfl rfl (op_move (.base rfl)) ?_
        refine jg_adr _ rfl _ rfl rfl (op_index Try.underlying28 ty3 (.base rfl) (.base rfl) rfl (List.getElem?_eq_getElem (by first | omega | (simp; done) | (simp; omega) | (simp at hg; omega)))) ?_
        refine jg_adr _ rfl _ rfl rfl (op_load ty3 (.base rfl)) ?_
        refine jg_adr _ rfl _ rfl rfl (op_call (rins16_ok _ _ (by omega)) (.cons (.base rfl) (.cons (.base rfl) .nil)) rfl rfl) ?_
        refine jg_adr _ rfl _ rfl rfl (op_assign (.base rfl)) ?_
        refine jg_nil ?_
        refine jn_keep [2, 3, 4, 9, 10, 11, 12, 13, 14] [4] (.cons rfl (.cons rfl (.cons rfl (.cons rfl (.cons rfl (.cons rfl (.cons rfl (.cons rfl (.cons rfl .nil))))))))) (.cons rfl .nil) ?_
        refine jn_blk (jn_seq ?_)
        refine j_region ?_
        refine jg_adr _ rfl _ rfl rfl (op_move (.base rfl)) ?_
        refine jg_adr _ rfl _ rfl rfl (op_add (.base rfl) (.base rfl) (w64 (by omega))) ?_
        refine jg_adr _ rfl _ rfl rfl (op_assign (.base rfl)) ?_
        refine jg_nil ?_
        refine jn_keep [2, 3, 4, 9, 10, 11, 12, 13, 14] [4] (.cons rfl (.cons rfl (.cons rfl (.cons rfl (.cons rfl (.cons rfl (.cons rfl (.cons rfl (.cons rfl .nil))))))))) (.cons rfl .nil) ?_
        exact jn_loop (fun a w hi => ⟨m + 1, (by first | omega | (simp; omega)), (by omega), Sub.inv ⟨(by repeat (first | exact SubS_nil | refine SubS_cons rfl (by first | rfl | (simp; done) | assumption | exact congrArg (SV.tv (rSlice (rInt .i64))) hs2) ?_)), (by repeat (first | exact SubH_nil | refine SubH_cons rfl (by first | rfl | (simp; done) | assumption) ?_))⟩ hi⟩)
      · have h11 : m = (dirs s (frR (dirs s) a k)[j]).length := by simp at h11; omega
        have hs1 : (uniqS (((frR (dirs s) a k).take j).flatMap (dirs s) ++ (dirs s (frR (dirs s) a k)[j]).take m)) = uniqS (((frR (dirs s) a k).take (j + 1)).flatMap (dirs s)) := by rw [h11, List.take_length]; exact fm_step (T := []) h7 []
        refine j_exit (je_seq (je_loop (je_blk (jn_blk (jn_seq ?_)))))
        refine j_region ?_
        refine jg_adr _ rfl _ rfl rfl (op_move (.base rfl)) ?_
        refine jg_adr _ rfl _ rfl rfl (op_add (.base rfl) (.base rfl) (w64 (by omega))) ?_
        refine jg_adr _ rfl _ rfl rfl (op_assign (.base rfl)) ?_
        refine jg_nil ?_
        refine jn_keep [2, 3, 4, 9, 10, 11, 12] [4] (.cons rfl (.cons rfl (.cons rfl (.cons rfl (.cons rfl (.cons rfl (.cons rfl .nil))))))) (.cons rfl .nil) ?_
        exact jn_loop (fun a w hi => ⟨j + 1, (by first | omega | (simp; omega)), (by omega), Sub.inv ⟨(by repeat (first | exact SubS_nil | refine SubS_cons rfl (by first | rfl | (simp; done) | assumption | exact congrArg (SV.tv (rSlice (rInt .i64))) hs1) ?_)), (by repeat (first | exact SubH_nil | refine SubH_cons rfl (by first | rfl | (simp; done) | assumption) ?_))⟩ hi⟩)
    · have h7 : j = (frR (dirs s) a k).length := by simp at h7; omega
      have hst : (uniqS (((frR (dirs s) a k).take j).flatMap (dirs s))) = frR (dirs s) a (k + 1) := by rw [h7, List.take_length]; rfl
      refine j_exit (je_seq (je_loop (je_blk (jn_seq ?_))))
      refine j_region ?_
      refine jg_adr _ rfl _ rfl rfl (op_move (.base rfl)) ?_
      refine jg_adr _ rfl _ rfl rfl (op_assign (.base rfl)) ?_
      refine jg_nil ?_
      refine jn_keep [2, 3, 4, 9, 10] [4] (.cons rfl (.cons rfl (.cons rfl (.cons rfl (.cons rfl .nil))))) (.cons rfl .nil) ?_
      refine jn_blk (jn_seq ?_)
      refine j_region ?_
      refine jg_adr _ rfl _ rfl rfl (op_move (.base rfl)) ?_
      refine jg_adr _ rfl _ rfl rfl (op_add (.base rfl) (.base rfl) (w64 (by omega))) ?_
      refine jg_adr _ rfl _ rfl rfl (op_assign (.base rfl)) ?_
      refine jg_nil ?_
      refine jn_keep [2, 3, 4, 9, 10] [4] (.cons rfl (.cons rfl (.cons rfl (.cons rfl (.cons rfl .nil))))) (.cons rfl .nil) ?_
      exact jn_loop (fun a w hi => ⟨k + 1, (by first | omega | (simp; omega)), (by omega), Sub.inv ⟨(by repeat (first | exact SubS_nil | refine SubS_cons rfl (by first | rfl | (simp; done) | assumption | exact congrArg (SV.tv (rSlice (rInt .i64))) hst) ?_)), (by repeat (first | exact SubH_nil | refine SubH_cons rfl (by first | rfl | (simp; done) | assumption) ?_))⟩ hi⟩)
  · have h3 : k = t := by simp at h3; omega
    subst h3
    refine j_exit (je_seq (je_loop (je_blk (jn_seq (j_seq ?_)))))
    refine j_region ?_
    refine jg_adr _ rfl _ rfl rfl (op_move (.base rfl)) ?_
    refine jg_adr _ rfl _ rfl rfl (op_move (.base rfl)) ?_
    refine jg_adr _ rfl _ rfl rfl (op_call (has_ok _ _) (.cons (.base rfl) (.cons (.base rfl) .nil)) rfl rfl) ?_
    refine jg_adr _ rfl _ rfl rfl (op_assign (.base rfl)) ?_
    refine jg_nil ?_
    refine jn_keep [8] [] (.cons rfl .nil) .nil ?_
    refine jn_seq (j_ret ?_)
    exact jr_fin1 Try.results31 (res_tmp rfl) rfl (rfl)

end Go.Proofs.Ytemcooggkcneiaa
