import Derived.Test.YthfhekohlmboiaaP15c
import Derived.Test.YthfhekohlmboiaaEngD
import Derived.Test.YthfhekohlmboiaaTurns
import Derived.Test.YthfhekohlmboiaaSame
import Derived.KernelRfl
namespace Go.Proofs.Ythfhekohlmboiaa
open Go.Eng
set_option maxRecDepth 100000
set_option maxHeartbeats 4000000
set_option linter.unusedVariables false
set_option linter.unusedSimpArgs false

open Go.Sort Go.RowKit Go.Shelf

def outD (d : Int) : Bool := decide (d < 1) || decide (d > 109572)
theorem cd_ok (d : Int) (W : World) : Calls Try.prog 35 #[.int .i64 d] W fun e w' => e = .returned (.bool (outD d)) ∧ ∃ q, w' = W.drewN q := by
  unfold outD
  by_cases h : d < 1
  · go_enter Try.func35, Try.ntmps35
    go_wp2
    go_ret
    exact ⟨by simp [h], 0, rfl⟩
  · go_enter Try.func35, Try.ntmps35
    go_wp2
    go_ret
    exact ⟨by simp; omega, 0, rfl⟩

theorem index0 (A : Option Addr) (cap : Nat) (fv : Value) : Ct Try.prog 53 [.raw (.slice A 0 cap), .raw fv] (.raw (.int .i64 (-1))) :=
  ⟨callFunc_enter Try.func53 rfl (by kernel_rfl), fun w ok0 vs hok ⟨v, vr, e, h1, v2, vr2, e2, h2, h3⟩ => by
    have h1 : v = .slice A 0 cap := h1
    have h2 : v2 = fv := h2
    have h3 : vr2 = [] := h3
    subst h1 h2 h3 e2 e
    refine (Go.Proofs.Try.slices_IndexFunc_empty (α := Int) A cap v2 w).mono ?_
    rintro e w' ⟨rfl, rfl⟩
    exact ⟨_, rfl, (Go.Eng.Below.refl _ _).toX, rfl⟩⟩

theorem delete0 (A : Option Addr) (cap : Nat) (fv : Value) : Ct Try.prog 33 [.raw (.slice A 0 cap), .raw fv] (.raw (.slice A 0 cap)) := by
  refine ct_intro Try.func33 rfl rfl Try.ntmps33 rfl rfl ?_
  intro w0 ok0
  refine j_seq ?_
  refine j_region ?_
  refine jg_adr _ rfl _ rfl rfl (op_assign (.base rfl)) ?_
  refine jg_nil ?_
  refine jn_keep [0, 1] [] (.cons rfl (.cons rfl .nil)) .nil ?_
  refine jn_seq (j_seq ?_)
  refine j_region ?_
  refine jg_adr _ rfl _ rfl rfl (op_move (.base rfl)) ?_
  refine jg_adr _ rfl _ rfl rfl (op_move (.base rfl)) ?_
  refine jg_adr _ rfl _ rfl rfl (op_call (index0 _ _ _) (.cons (.base rfl) (.cons (.base rfl) .nil)) rfl rfl) ?_
  refine jg_adr _ rfl _ rfl rfl (op_assign (.base rfl)) ?_
  refine jg_nil ?_
  refine jn_keep [0, 1, 5] [] (.cons rfl (.cons rfl (.cons rfl .nil))) .nil ?_
  refine jn_seq (j_seq (j_seq ?_))
  refine j_region ?_
  refine jg_adr _ rfl _ rfl rfl (op_move (.base rfl)) ?_
  refine jg_adr _ rfl _ rfl rfl (op_eql (.base rfl) (.base rfl)) ?_
  refine jg_nil ?_
  refine jn_keep [0, 1, 5, 12] [] (.cons rfl (.cons rfl (.cons rfl (.cons rfl .nil)))) .nil ?_
  refine jn_seq ?_
  refine j_cond rfl (fun h2 => ?_) (fun h2 => ?_)
  · try simp at h2
    refine j_seq ?_
    refine j_region ?_
    refine jg_adr _ rfl _ rfl rfl (op_move (.base rfl)) ?_
    refine jg_adr _ rfl _ rfl rfl (op_assign (.base rfl)) ?_
    refine jg_nil ?_
    refine jn_keep [4] [] (.cons rfl .nil) .nil ?_
    refine jn_seq (j_ret (jr_seq ?_))
    exact jr_fin1 Try.results33 (res_tmp rfl) rfl rfl
  · exact absurd h2 (by decide)

def kept (zs : List Int) : List Int := zs.filter fun x => !outD x
theorem kept_len (zs : List Int) : (kept zs).length ≤ zs.length := List.length_filter_le _ _
theorem delF : TurnF Try.prog 33 (.func (.func 35) #[] #[]) (fun zs => kept zs ++ List.replicate (zs.length - (kept zs).length) 0) (fun zs => (kept zs).length) where
  ent := callFunc_enter Try.func33 rfl (by kernel_rfl)
  len zs := by have := kept_len zs; simp; omega
  cut := kept_len
  some_ blk off cap zs w hH hb hz hc := by
    have eg : ∀ args w, (callFunc 35 args).run Try.prog w = .ok (.enter 35 args) w := enters_of Try.func35 (by kernel_rfl) rfl
    have hcon := Go.Proofs.Try.slices_DeleteFunc (Value.int .i64) (fun _ => rfl) outD 35 #[] eg 0 (fun _ => rfl) blk off cap zs.toArray w (fun W x _ => cd_ok x W) (fun _ _ _ x _ => cd_ok x _) hH (by simp; omega) (by simpa using hc)
    refine hcon.mono ?_
    rintro e w' ⟨rfl, q, rfl⟩
    exact ⟨rfl, q, #[], by simp [kept]⟩
  none_ A cap w := by
    refine ((delete0 A cap _).calls w (fun _ => False) [.slice A 0 cap, .func (.func 35) #[] #[]] (fun _ h => h.elim) ⟨_, _, rfl, rfl, _, _, rfl, rfl, rfl⟩).mono ?_
    rintro e w' ⟨v, rfl, hb, hv⟩
    have hv : v = .slice A 0 cap := hv
    subst hv
    exact ⟨rfl, hb.plain (fun _ h => h)⟩



def ins5 (l : List Int) (n : Int) : List Int := l.filter (fun y => decide (y < n)) ++ [n] ++ l.filter (fun y => decide (n < y))
theorem ins5_uniqS (l : List Int) (n : Int) : ins5 (uniqS l) n = uniqS (l ++ [n]) := by
  obtain ⟨h1, h2⟩ := uniqS_ok l
  refine (uniqS_eq ?_ fun x => ?_).symm
  · unfold ins5
    refine List.pairwise_append.2 ⟨List.pairwise_append.2 ⟨h1.filter _, by simp, fun a ha b hb => ?_⟩, h1.filter _, fun a ha b hb => ?_⟩
    · obtain rfl := List.mem_singleton.1 hb; simpa using (List.mem_filter.1 ha).2
    · have hb := (List.mem_filter.1 hb).2
      simp only [decide_eq_true_eq] at hb
      rcases List.mem_append.1 ha with ha | ha
      · have := (List.mem_filter.1 ha).2; simp only [decide_eq_true_eq] at this; omega
      · obtain rfl := List.mem_singleton.1 ha; exact hb
  · unfold ins5
    simp only [List.mem_append, List.mem_filter, h2, List.mem_singleton, decide_eq_true_eq]
    constructor
    · rintro ((⟨h, _⟩ | h) | ⟨h, _⟩)
      · exact .inl h
      · exact .inr h
      · exact .inl h
    · rintro (h | h)
      · rcases Int.lt_trichotomy x n with q | q | q
        · exact .inl (.inl ⟨h, q⟩)
        · exact .inl (.inr q)
        · exact .inr ⟨h, q⟩
      · exact .inl (.inr h)
theorem filt_t {p : Int → Bool} {l : List Int} {k : Nat} (hk : k < l.length) (h : p l[k] = true) : (l.take (k + 1)).filter p = (l.take k).filter p ++ [l[k]] := by rw [← List.take_append_getElem hk, List.filter_append]; simp [h]
theorem filt_f {p : Int → Bool} {l : List Int} {k : Nat} (hk : k < l.length) (h : p l[k] = false) : (l.take (k + 1)).filter p = (l.take k).filter p := by rw [← List.take_append_getElem hk, List.filter_append]; simp [h]
theorem filt_len {p : Int → Bool} {l : List Int} {k : Nat} : ((l.take k).filter p).length ≤ l.length := Nat.le_trans (List.length_filter_le _ _) (by simp; omega)

theorem insert5_ok (l : List Int) (n : Int) (hlm : l.length ≤ 1000000) : Ct Try.prog 58 [.tv (rSlice (rInt .i64)) l, .raw (.int .i64 n)] (.tv (rSlice (rInt .i64)) (ins5 l n)) := by
  refine ct_intro Try.func58 rfl rfl Try.ntmps58 rfl rfl ?_
  intro w0 ok0
  refine j_seq ?_
  refine j_region ?_
  refine jg_adr _ rfl _ rfl rfl (op_assign (.base rfl)) ?_
  refine jg_nil ?_
  refine jn_keep [0, 1] [] (.cons rfl (.cons rfl .nil)) .nil ?_
  refine jn_seq (j_seq ?_)
  refine j_region ?_
  refine jg_adr _ rfl _ rfl rfl (op_assign (.base rfl)) ?_
  refine jg_nil ?_
  refine jn_keep [0, 1, 5] [] (.cons rfl (.cons rfl (.cons rfl .nil))) .nil ?_
  refine jn_seq (j_seq (j_seq ?_))
  refine j_region ?_
  refine jg_adr _ rfl _ rfl rfl (op_assign (.base rfl)) ?_
  refine jg_nil ?_
  refine jn_keep [0, 1, 5, 6] [] (.cons rfl (.cons rfl (.cons rfl (.cons rfl .nil)))) .nil ?_
  refine jn_seq (j_block ?_)
  refine j_vac 70 5 (rInt .i64) rfl rfl rfl ?_
  refine j_loopp (ι := Nat) (fun k => ⟨[(0, .tv (rSlice (rInt .i64)) l), (1, .raw (.int .i64 (n))), (5, .own 70 (rInt .i64).n 0 ((l.take k).filter (fun y => decide (y < n))).length), (6, .raw (.int .i64 ((k : Nat))))], [(70, ⟨rInt .i64, ((l.take k).filter (fun y => decide (y < n)))⟩)]⟩) (fun k => k ≤ l.length) (fun k => l.length - k) 0 (Nat.zero_le _) (fun a w hi => (Sub.inv ⟨(by repeat (first | exact SubS_nil | refine SubS_cons rfl (by first | rfl | (simp; done) | assumption) ?_)), (by repeat (first | exact SubH_nil | refine SubH_cons rfl (by first | rfl | (simp; done) | assumption) ?_))⟩ hi)) ?_
  rintro k hk
  have hfl := filt_len (p := fun y => decide (y < n)) (l := l) (k := k)
  refine j_seq (j_seq ?_)
  refine j_region ?_
  refine jg_adr _ rfl _ rfl rfl (op_move (.base rfl)) ?_
  refine jg_adr _ rfl _ rfl rfl (op_move (.base rfl)) ?_
  refine jg_adr _ rfl _ rfl rfl (op_len Try.underlying32 (.base rfl)) ?_
  refine jg_adr _ rfl _ rfl rfl (op_lss (.base rfl) (.base rfl)) ?_
  refine jg_nil ?_
  refine jn_keep [0, 1, 5, 6, 11] [70] (.cons rfl (.cons rfl (.cons rfl (.cons rfl (.cons rfl .nil))))) (.cons rfl .nil) ?_
  refine jn_seq ?_
  refine j_cond rfl (fun h3 => ?_) (fun h3 => ?_)
  · try simp at h3
    refine j_skip (jn_seq (j_seq (j_block (j_seq ?_))))
    refine j_region ?_
    refine jg_adr _ rfl _ rfl rfl (op_move (.base rfl)) ?_
    refine jg_adr _ rfl _ rfl rfl (op_move (.base rfl)) ?_
    refine jg_adr _ rfl _ rfl rfl (op_index Try.underlying32 ty3 (.base rfl) (.base rfl) rfl (List.getElem?_eq_getElem (by first | omega | (simp; done) | (simp; omega) | (simp at hg; omega)))) ?_
    refine jg_adr _ rfl _ rfl rfl (op_load ty3 (.base rfl)) ?_
    refine jg_adr _ rfl _ rfl rfl (op_move (.base rfl)) ?_
    refine jg_adr _ rfl _ rfl rfl (op_lss (.base rfl) (.base rfl)) ?_
    refine jg_nil ?_
    refine jn_keep [0, 1, 5, 6, 19] [70] (.cons rfl (.cons rfl (.cons rfl (.cons rfl (.cons rfl .nil))))) (.cons rfl .nil) ?_
    refine jn_seq ?_
    refine j_cond rfl (fun h5 => ?_) (fun h5 => ?_)
    · simp at h5
      have hc := filt_t (p := fun y => decide (y < n)) (l := l) (k := k) (by omega) (by simpa using h5)
      refine j_region ?_
      refine jg_adr _ rfl _ rfl rfl (op_move (.base rfl)) ?_
      refine jg_adr _ rfl _ rfl rfl (op_move (.base rfl)) ?_
      refine jg_adr _ rfl _ rfl rfl (op_move (.base rfl)) ?_
      refine jg_adr _ rfl _ rfl rfl (op_index Try.underlying32 ty3 (.base rfl) (.base rfl) rfl (List.getElem?_eq_getElem (by first | omega | (simp; done) | (simp; omega) | (simp at hg; omega)))) ?_
      refine jg_adr _ rfl _ rfl rfl (op_load ty3 (.base rfl)) ?_
      refine jg_adr _ rfl _ rfl rfl (op_bslice (rt := (rInt .i64)) Try.underlying32 ty3 z3 rfl (.cons (.raw (.base rfl) rfl) .nil) rfl rfl) ?_
      refine jg_os _ rfl (op_append [0, 1, 6] Try.underlying32 ty3 z3 rfl by3 (.base rfl) rfl (by (try simp); try omega) (.tv (.base rfl)) (by unfold maxLen; (try simp); try omega) (by (try simp); try omega) rfl (.cons rfl (.cons rfl (.cons rfl .nil))) rfl) ?_
      refine jg_adr _ rfl _ rfl rfl (op_assign (.base rfl)) ?_
      refine jg_nil ?_
      refine jn_keep [0, 1, 5, 6] [70] (.cons rfl (.cons rfl (.cons rfl (.cons rfl .nil)))) (.cons rfl .nil) ?_
      refine jn_blk (jn_seq ?_)
      refine j_region ?_
      refine jg_adr _ rfl _ rfl rfl (op_move (.base rfl)) ?_
      refine jg_adr _ rfl _ rfl rfl (op_add (.base rfl) (.base rfl) (w64 (by omega))) ?_
      refine jg_adr _ rfl _ rfl rfl (op_assign (.base rfl)) ?_
      refine jg_nil ?_
      refine jn_keep [0, 1, 5, 6] [70] (.cons rfl (.cons rfl (.cons rfl (.cons rfl .nil)))) (.cons rfl .nil) ?_
      exact jn_loop (fun a w hi => ⟨k + 1, (by omega), (by omega), Sub.inv ⟨(by repeat (first | exact SubS_nil | refine SubS_cons rfl (by first | rfl | exact congrArg (SV.own 70 (rInt .i64).n 0) (by rw [hc]; try simp; try omega)) ?_)), (by repeat (first | exact SubH_nil | refine SubH_cons rfl (by first | rfl | (refine congrArg (HB.mk (rInt .i64)) ?_; rw [hc]; try (simp only [List.drop_zero, List.take_of_length_le (Nat.le_refl _)]); first | done | rfl | (simp; done))) ?_))⟩ hi⟩)
    · simp at h5
      have hc := filt_f (p := fun y => decide (y < n)) (l := l) (k := k) (by omega) (by simp; omega)
      refine j_skip (jn_blk (jn_seq ?_))
      refine j_region ?_
      refine jg_adr _ rfl _ rfl rfl (op_move (.base rfl)) ?_
      refine jg_adr _ rfl _ rfl rfl (op_add (.base rfl) (.base rfl) (w64 (by omega))) ?_
      refine jg_adr _ rfl _ rfl rfl (op_assign (.base rfl)) ?_
      refine jg_nil ?_
      refine jn_keep [0, 1, 5, 6] [70] (.cons rfl (.cons rfl (.cons rfl (.cons rfl .nil)))) (.cons rfl .nil) ?_
      exact jn_loop (fun a w hi => ⟨k + 1, (by omega), (by omega), Sub.inv ⟨(by repeat (first | exact SubS_nil | refine SubS_cons rfl (by first | rfl | exact congrArg (SV.own 70 (rInt .i64).n 0) (by rw [hc]; try simp; try omega)) ?_)), (by repeat (first | exact SubH_nil | refine SubH_cons rfl (by first | rfl | (refine congrArg (HB.mk (rInt .i64)) ?_; rw [hc]; try (simp only [List.drop_zero, List.take_of_length_le (Nat.le_refl _)]); first | done | rfl | (simp; done))) ?_))⟩ hi⟩)
  · try simp at h3
    refine j_exit (je_seq (je_loop (je_blk (jn_seq (j_seq ?_)))))
    have hkk : k = l.length := by omega
    subst hkk
    rw [List.take_of_length_le (Nat.le_refl l.length)]
    rw [List.take_of_length_le (Nat.le_refl l.length)] at hfl
    refine j_region ?_
    refine jg_adr _ rfl _ rfl rfl (op_move (.base rfl)) ?_
    refine jg_adr _ rfl _ rfl rfl (op_move (.base rfl)) ?_
    refine jg_adr _ rfl _ rfl rfl (op_bslice (rt := (rInt .i64)) Try.underlying32 ty3 z3 rfl (.cons (.raw (.base rfl) rfl) .nil) rfl rfl) ?_
    refine jg_os _ rfl (op_append [0, 1] Try.underlying32 ty3 z3 rfl by3 (.base rfl) rfl (by (try simp); try omega) (.tv (.base rfl)) (by unfold maxLen; (try simp); try omega) (by (try simp); try omega) rfl (.cons rfl (.cons rfl .nil)) rfl) ?_
    refine jg_adr _ rfl _ rfl rfl (op_assign (.base rfl)) ?_
    refine jg_nil ?_
    refine jn_keep [0, 1, 5] [70] (.cons rfl (.cons rfl (.cons rfl .nil))) (.cons rfl .nil) ?_
    refine jn_seq (j_seq (j_seq ?_))
    refine j_region ?_
    refine jg_adr _ rfl _ rfl rfl (op_assign (.base rfl)) ?_
    refine jg_nil ?_
    refine jn_keep [0, 1, 5, 7] [70] (.cons rfl (.cons rfl (.cons rfl (.cons rfl .nil)))) (.cons rfl .nil) ?_
    refine jn_seq (j_block ?_)
    refine j_loopp (ι := Nat) (fun j => ⟨[(0, .tv (rSlice (rInt .i64)) l), (1, .raw (.int .i64 (n))), (5, .own 70 (rInt .i64).n 0 (l.filter (fun y => decide (y < n)) ++ [n] ++ (l.take j).filter (fun y => decide (n < y))).length), (7, .raw (.int .i64 ((j : Nat))))], [(70, ⟨rInt .i64, (l.filter (fun y => decide (y < n)) ++ [n] ++ (l.take j).filter (fun y => decide (n < y)))⟩)]⟩) (fun j => j ≤ l.length) (fun j => l.length - j) 0 (Nat.zero_le _) (fun a w hi => (Sub.inv ⟨(by repeat (first | exact SubS_nil | refine SubS_cons rfl (by first | rfl | exact congrArg (SV.own 70 (rInt .i64).n 0) (by simp)) ?_)), (by repeat (first | exact SubH_nil | refine SubH_cons rfl (by first | rfl | (refine congrArg (HB.mk (rInt .i64)) ?_; simp; done)) ?_))⟩ hi)) ?_
    rintro j hj
    have hfl := filt_len (p := fun y => decide (y < n)) (l := l) (k := l.length)
    rw [List.take_of_length_le (Nat.le_refl l.length)] at hfl
    have hfg := filt_len (p := fun y => decide (n < y)) (l := l) (k := j)
    have hsum : (l.filter (fun y => decide (y < n)) ++ [n] ++ (l.take j).filter (fun y => decide (n < y))).length ≤ 2 * l.length + 1 := by simp only [List.length_append, List.length_cons, List.length_nil]; omega
    refine j_seq (j_seq ?_)
    refine j_region ?_
    refine jg_adr _ rfl _ rfl rfl (op_move (.base rfl)) ?_
    refine jg_adr _ rfl _ rfl rfl (op_move (.base rfl)) ?_
    refine jg_adr _ rfl _ rfl rfl (op_len Try.underlying32 (.base rfl)) ?_
    refine jg_adr _ rfl _ rfl rfl (op_lss (.base rfl) (.base rfl)) ?_
    refine jg_nil ?_
    refine jn_keep [0, 1, 5, 7, 34] [70] (.cons rfl (.cons rfl (.cons rfl (.cons rfl (.cons rfl .nil))))) (.cons rfl .nil) ?_
    refine jn_seq ?_
    refine j_cond rfl (fun h9 => ?_) (fun h9 => ?_)
    · try simp at h9
      refine j_skip (jn_seq (j_seq (j_block (j_seq ?_))))
      refine j_region ?_
      refine jg_adr _ rfl _ rfl rfl (op_move (.base rfl)) ?_
      refine jg_adr _ rfl _ rfl rfl (op_move (.base rfl)) ?_
      refine jg_adr _ rfl _ rfl rfl (op_index Try.underlying32 ty3 (.base rfl) (.base rfl) rfl (List.getElem?_eq_getElem (by first | omega | (simp; done) | (simp; omega) | (simp at hg; omega)))) ?_
      refine jg_adr _ rfl _ rfl rfl (op_load ty3 (.base rfl)) ?_
      refine jg_adr _ rfl _ rfl rfl (op_move (.base rfl)) ?_
      refine jg_adr _ rfl _ rfl rfl (op_gtr (.base rfl) (.base rfl)) ?_
      refine jg_nil ?_
      refine jn_keep [0, 1, 5, 7, 42] [70] (.cons rfl (.cons rfl (.cons rfl (.cons rfl (.cons rfl .nil))))) (.cons rfl .nil) ?_
      refine jn_seq ?_
      refine j_cond rfl (fun h11 => ?_) (fun h11 => ?_)
      · simp at h11
        have hc := filt_t (p := fun y => decide (n < y)) (l := l) (k := j) (by omega) (by simpa using h11)
        refine j_region ?_
        refine jg_adr _ rfl _ rfl rfl (op_move (.base rfl)) ?_
        refine jg_adr _ rfl _ rfl rfl (op_move (.base rfl)) ?_
        refine jg_adr _ rfl _ rfl rfl (op_move (.base rfl)) ?_
        refine jg_adr _ rfl _ rfl rfl (op_index Try.underlying32 ty3 (.base rfl) (.base rfl) rfl (List.getElem?_eq_getElem (by first | omega | (simp; done) | (simp; omega) | (simp at hg; omega)))) ?_
        refine jg_adr _ rfl _ rfl rfl (op_load ty3 (.base rfl)) ?_
        refine jg_adr _ rfl _ rfl rfl (op_bslice (rt := (rInt .i64)) Try.underlying32 ty3 z3 rfl (.cons (.raw (.base rfl) rfl) .nil) rfl rfl) ?_
        refine jg_os _ rfl (op_append [0, 1, 7] Try.underlying32 ty3 z3 rfl by3 (.base rfl) rfl (by (try simp); try omega) (.tv (.base rfl)) (by unfold maxLen; (try simp); try omega) (by (try simp); try omega) rfl (.cons rfl (.cons rfl (.cons rfl .nil))) rfl) ?_
        refine jg_adr _ rfl _ rfl rfl (op_assign (.base rfl)) ?_
        refine jg_nil ?_
        refine jn_keep [0, 1, 5, 7] [70] (.cons rfl (.cons rfl (.cons rfl (.cons rfl .nil)))) (.cons rfl .nil) ?_
        refine jn_blk (jn_seq ?_)
        refine j_region ?_
        refine jg_adr _ rfl _ rfl rfl (op_move (.base rfl)) ?_
        refine jg_adr _ rfl _ rfl rfl (op_add (.base rfl) (.base rfl) (w64 (by omega))) ?_
        refine jg_adr _ rfl _ rfl rfl (op_assign (.base rfl)) ?_
        refine jg_nil ?_
        refine jn_keep [0, 1, 5, 7] [70] (.cons rfl (.cons rfl (.cons rfl (.cons rfl .nil)))) (.cons rfl .nil) ?_
        exact jn_loop (fun a w hi => ⟨j + 1, (by omega), (by omega), Sub.inv ⟨(by repeat (first | exact SubS_nil | refine SubS_cons rfl (by first | rfl | exact congrArg (SV.own 70 (rInt .i64).n 0) (by rw [hc]; try simp; try omega)) ?_)), (by repeat (first | exact SubH_nil | refine SubH_cons rfl (by first | rfl | (refine congrArg (HB.mk (rInt .i64)) ?_; rw [hc]; try (simp only [List.drop_zero, List.take_of_length_le (Nat.le_refl _)]); first | done | rfl | (simp; done))) ?_))⟩ hi⟩)
      · simp at h11
        have hc := filt_f (p := fun y => decide (n < y)) (l := l) (k := j) (by omega) (by simp; omega)
        refine j_skip (jn_blk (jn_seq ?_))
        refine j_region ?_
        refine jg_adr _ rfl _ rfl rfl (op_move (.base rfl)) ?_
        refine jg_adr _ rfl _ rfl rfl (op_add (.base rfl) (.base rfl) (w64 (by omega))) ?_
        refine jg_adr _ rfl _ rfl rfl (op_assign (.base rfl)) ?_
        refine jg_nil ?_
        refine jn_keep [0, 1, 5, 7] [70] (.cons rfl (.cons rfl (.cons rfl (.cons rfl .nil)))) (.cons rfl .nil) ?_
        exact jn_loop (fun a w hi => ⟨j + 1, (by omega), (by omega), Sub.inv ⟨(by repeat (first | exact SubS_nil | refine SubS_cons rfl (by first | rfl | exact congrArg (SV.own 70 (rInt .i64).n 0) (by rw [hc]; try simp; try omega)) ?_)), (by repeat (first | exact SubH_nil | refine SubH_cons rfl (by first | rfl | (refine congrArg (HB.mk (rInt .i64)) ?_; rw [hc]; try (simp only [List.drop_zero, List.take_of_length_le (Nat.le_refl _)]); first | done | rfl | (simp; done))) ?_))⟩ hi⟩)
    · try simp at h9
      refine j_exit (je_seq (je_loop (je_blk (jn_seq (j_seq ?_)))))
      refine j_region ?_
      refine jg_adr _ rfl _ rfl rfl (op_move (.base rfl)) ?_
      refine jg_adr _ rfl _ rfl rfl (op_assign (.base rfl)) ?_
      refine jg_nil ?_
      refine jn_keep [4] [70] (.cons rfl .nil) (.cons rfl .nil) ?_
      refine jn_seq (j_ret ?_)
      refine jr_seal (rt := rInt .i64) 70 4 (dropH 70 _) rfl rfl (by simp) (dropH_sub 70 _) (dropH_no 70 _) ?_
      exact jr_fin1 Try.results58 (res_tmp rfl) rfl (congrArg (SV.tv (rSlice (rInt .i64))) (by have : j = l.length := (by omega); subst this; rw [List.drop_zero, List.take_of_length_le (Nat.le_refl _), List.take_of_length_le (Nat.le_refl l.length)]; rfl))



theorem bnd_succ {l : List Rg} {k : Nat} (hk : k < l.length) : bnd (l.take (k + 1)) = bnd (l.take k) ++ if hasD l[k] = true then [l[k].1, l[k].2] else [] := by
  rw [← List.take_append_getElem hk, bnd_append]; simp [bnd]
theorem bnd_len : ∀ (l : List Rg), (bnd l).length ≤ 2 * l.length
  | [] => by simp [bnd]
  | r :: l => by have := bnd_len l; rw [bnd, List.length_append, List.length_cons]; split <;> simp <;> omega
theorem cpt_take (zs : List Int) : (cptZ zs).take (Lib.compact zs).length = Lib.compact zs := List.take_left' rfl
theorem ins5_bound {l : List Int} {n : Int} {m : Nat} (h : l.length ≤ m) : (ins5 (uniqS l) n).length ≤ m + 1 := by
  rw [ins5_uniqS]; have := uniqS_len (l ++ [n]); simp at this; omega

theorem bounds5O (l : List Rg) (hlm : l.length ≤ 100000) : CtO Try.prog 34 [.tv (rSlice rDateRange) l] (rInt .i64) (uniqS (bnd l)) := by
  refine ctO_intro Try.func34 rfl rfl Try.ntmps34 rfl rfl ?_
  intro w0 ok0
  refine j_len 0 rfl (fun hl0 => ?_)
  refine j_seq ?_
  refine j_region ?_
  refine jg_adr _ rfl _ rfl rfl (op_assign (.base rfl)) ?_
  refine jg_nil ?_
  refine jn_keep [0] [] (.cons rfl .nil) .nil ?_
  refine jn_seq (j_seq ?_)
  refine j_region ?_
  refine jg_adr _ rfl _ rfl rfl (op_assign (.base rfl)) ?_
  refine jg_nil ?_
  refine jn_keep [0, 3] [] (.cons rfl (.cons rfl .nil)) .nil ?_
  refine jn_seq (j_seq (j_seq ?_))
  refine j_region ?_
  refine jg_adr _ rfl _ rfl rfl (op_move (.base rfl)) ?_
  refine jg_adr _ rfl _ rfl rfl (op_len Try.underlying72 (.base rfl)) ?_
  refine jg_adr _ rfl _ rfl rfl (op_move (.base rfl)) ?_
  refine jg_nil ?_
  refine jn_keep [3, 6, 7, 8] [] (.cons rfl (.cons rfl (.cons rfl (.cons rfl .nil)))) .nil ?_
  refine jn_seq (j_block ?_)
  refine j_vac 70 3 (rInt .i64) rfl rfl rfl ?_
  refine j_loopp (ι := Nat) (fun k => ⟨[(3, .own 70 (rInt .i64).n 0 (bnd (l.take k)).length), (6, .tv (rSlice rDateRange) l), (7, .raw (.int .i64 (l.length))), (8, .raw (.int .i64 ((k : Nat))))], [(70, ⟨rInt .i64, (bnd (l.take k))⟩)]⟩) (fun k => k ≤ l.length) (fun k => l.length - k) 0 (Nat.zero_le _) (fun a w hi => (Sub.inv ⟨(by repeat (first | exact SubS_nil | refine SubS_cons rfl (by first | rfl | (simp; done) | assumption) ?_)), (by repeat (first | exact SubH_nil | refine SubH_cons rfl (by first | rfl | (simp; done) | assumption) ?_))⟩ hi)) ?_
  rintro k hk
  have hbl := bnd_len (l.take k)
  have htl : (l.take k).length ≤ l.length := by simp; omega
  refine j_seq ?_
  refine j_region ?_
  refine jg_adr _ rfl _ rfl rfl (op_lss (.base rfl) (.base rfl)) ?_
  refine jg_nil ?_
  refine jn_keep [3, 6, 7, 8, 9] [70] (.cons rfl (.cons rfl (.cons rfl (.cons rfl (.cons rfl .nil))))) (.cons rfl .nil) ?_
  refine jn_seq (j_seq ?_)
  refine j_cond rfl (fun h3 => ?_) (fun h3 => ?_)
  · try simp at h3
    refine j_skip (jn_seq (j_seq (j_block (j_seq ?_))))
    refine j_region ?_
    refine jg_adr _ rfl _ rfl rfl (op_index Try.underlying72 ty45 (.base rfl) (.base rfl) rfl (List.getElem?_eq_getElem (by first | omega | (simp; done) | (simp; omega) | (simp at hg; omega)))) ?_
    refine jg_adr _ rfl _ rfl rfl (op_load ty45 (.base rfl)) ?_
    refine jg_os _ rfl (op_alloc _ z45 rfl rfl rfl) ?_
    refine jg_os _ rfl (op_ostore ty45 (.base rfl) rfl rfl (Lens.id _) (.tv (.base rfl))) ?_
    refine jg_nil ?_
    refine jn_keep [3, 5, 6, 7, 8] [5, 70] (.cons rfl (.cons rfl (.cons rfl (.cons rfl (.cons rfl .nil))))) (.cons rfl (.cons rfl .nil)) ?_
    refine jn_seq (j_seq ?_)
    refine j_region ?_
    refine jg_adr _ rfl _ rfl rfl (op_oload ty45 (.base rfl) rfl rfl (Lens.id _)) ?_
    refine jg_adr _ rfl _ rfl rfl (op_call (dhas_ok _) (.cons (.base rfl) .nil) rfl rfl) ?_
    refine jg_nil ?_
    refine jn_keep [3, 5, 6, 7, 8, 13] [5, 70] (.cons rfl (.cons rfl (.cons rfl (.cons rfl (.cons rfl (.cons rfl .nil)))))) (.cons rfl (.cons rfl .nil)) ?_
    refine jn_seq ?_
    refine j_cond rfl (fun h5 => ?_) (fun h5 => ?_)
    · have hs := bnd_succ (l := l) (k := k) (by omega)
      rw [if_pos h5] at hs
      refine j_region ?_
      refine jg_adr _ rfl _ rfl rfl (op_move (.base rfl)) ?_
      refine jg_adr _ rfl _ rfl rfl (op_ofield fld45_0 (.base rfl)) ?_
      refine jg_adr _ rfl _ rfl rfl (op_oload ty3 (.base rfl) rfl rfl ln45_0) ?_
      refine jg_adr _ rfl _ rfl rfl (op_ofield fld45_1 (.base rfl)) ?_
      refine jg_adr _ rfl _ rfl rfl (op_oload ty3 (.base rfl) rfl rfl ln45_1) ?_
      refine jg_adr _ rfl _ rfl rfl (op_bslice (rt := (rInt .i64)) Try.underlying32 ty3 z3 rfl (.cons (.raw (.base rfl) rfl) (.cons (.raw (.base rfl) rfl) .nil)) rfl rfl) ?_
      refine jg_os _ rfl (op_append [6, 7, 8] Try.underlying32 ty3 z3 rfl by3 (.base rfl) rfl (by (try simp); try omega) (.tv (.base rfl)) (by unfold maxLen; (try simp); try omega) (by (try simp); try omega) rfl (.cons rfl (.cons rfl (.cons rfl .nil))) rfl) ?_
      refine jg_adr _ rfl _ rfl rfl (op_assign (.base rfl)) ?_
      refine jg_nil ?_
      refine jn_keep [3, 6, 7, 8] [70] (.cons rfl (.cons rfl (.cons rfl (.cons rfl .nil)))) (.cons rfl .nil) ?_
      refine jn_blk (jn_seq ?_)
      refine j_region ?_
      refine jg_adr _ rfl _ rfl rfl (op_add (.base rfl) (.base rfl) (w64 (by omega))) ?_
      refine jg_adr _ rfl _ rfl rfl (op_move (.base rfl)) ?_
      refine jg_nil ?_
      refine jn_keep [3, 6, 7, 8] [70] (.cons rfl (.cons rfl (.cons rfl (.cons rfl .nil)))) (.cons rfl .nil) ?_
      exact jn_loop (fun a w hi => ⟨k + 1, (by omega), (by omega), Sub.inv ⟨(by repeat (first | exact SubS_nil | refine SubS_cons rfl (by first | rfl | exact congrArg (SV.own 70 (rInt .i64).n 0) (by rw [hs]; try simp; try omega)) ?_)), (by repeat (first | exact SubH_nil | refine SubH_cons rfl (by first | rfl | (refine congrArg (HB.mk (rInt .i64)) ?_; rw [hs]; try (simp only [List.drop_zero, List.take_of_length_le (Nat.le_refl _), List.append_nil]); first | done | rfl | (simp; done))) ?_))⟩ hi⟩)
    · have hs := bnd_succ (l := l) (k := k) (by omega)
      rw [if_neg (by rw [h5]; simp), List.append_nil] at hs
      refine j_skip (jn_blk (jn_seq ?_))
      refine j_region ?_
      refine jg_adr _ rfl _ rfl rfl (op_add (.base rfl) (.base rfl) (w64 (by omega))) ?_
      refine jg_adr _ rfl _ rfl rfl (op_move (.base rfl)) ?_
      refine jg_nil ?_
      refine jn_keep [3, 6, 7, 8] [70] (.cons rfl (.cons rfl (.cons rfl (.cons rfl .nil)))) (.cons rfl .nil) ?_
      exact jn_loop (fun a w hi => ⟨k + 1, (by omega), (by omega), Sub.inv ⟨(by repeat (first | exact SubS_nil | refine SubS_cons rfl (by first | rfl | exact congrArg (SV.own 70 (rInt .i64).n 0) (by rw [hs]; try simp; try omega)) ?_)), (by repeat (first | exact SubH_nil | refine SubH_cons rfl (by first | rfl | (refine congrArg (HB.mk (rInt .i64)) ?_; rw [hs]; try (simp only [List.drop_zero, List.take_of_length_le (Nat.le_refl _), List.append_nil]); first | done | rfl | (simp; done))) ?_))⟩ hi⟩)
  · try simp at h3
    refine j_exit (je_seq (je_loop (je_blk (jn_seq (j_seq ?_)))))
    have hkk : k = l.length := by omega
    subst hkk
    refine j_region ?_
    refine jg_adr _ rfl _ rfl rfl (op_move (.base rfl)) ?_
    refine jg_os _ rfl (op_turn0d turn_sort (.base rfl) rfl (by rfl) (by omega) (fun _ => rfl) rfl) ?_
    refine jg_nil ?_
    refine jn_keep [3] [70] (.cons rfl .nil) (.cons rfl .nil) ?_
    refine jn_seq (j_seq ?_)
    refine j_region ?_
    refine jg_adr _ rfl _ rfl rfl (op_move (.base rfl)) ?_
    refine jg_os _ rfl (op_turn1 turn_compact (.base rfl) rfl (by rw [List.length_mergeSort]) (by rw [List.length_mergeSort]; omega) rfl) ?_
    refine jg_adr _ rfl _ rfl rfl (op_assign (.base rfl)) ?_
    refine jg_nil ?_
    refine jn_keep [2] [70] (.cons rfl .nil) (.cons rfl .nil) ?_
    refine jn_seq (j_ret ?_)
    exact jr_finO Try.results34 rfl rfl (by rw [cptZ_len, Nat.zero_add]; exact Lib.compact_length_le _) (by simp only [List.drop_zero, List.take_of_length_le (Nat.le_refl _), cpt_take]; rfl)

theorem rbounds5_ok (l : List Rg) (hlm : l.length ≤ 100000) : Ct Try.prog 37 [.tv (rSlice rDateRange) l] (.tv (rSlice (rInt .i64)) (uniqS (bnd l))) := by
  refine ct_intro Try.func37 rfl rfl Try.ntmps37 rfl rfl ?_
  intro w0 ok0
  refine j_len 0 rfl (fun hl0 => ?_)
  refine j_seq ?_
  refine j_region ?_
  refine jg_adr _ rfl _ rfl rfl (op_assign (.base rfl)) ?_
  refine jg_nil ?_
  refine jn_keep [0] [] (.cons rfl .nil) .nil ?_
  refine jn_seq (j_seq ?_)
  refine j_region ?_
  refine jg_adr _ rfl _ rfl rfl (op_assign (.base rfl)) ?_
  refine jg_nil ?_
  refine jn_keep [0, 3] [] (.cons rfl (.cons rfl .nil)) .nil ?_
  refine jn_seq (j_seq (j_seq ?_))
  refine j_region ?_
  refine jg_adr _ rfl _ rfl rfl (op_assign (.base rfl)) ?_
  refine jg_nil ?_
  refine jn_keep [0, 3, 4] [] (.cons rfl (.cons rfl (.cons rfl .nil))) .nil ?_
  refine jn_seq (j_block ?_)
  refine j_nil 3 (rInt .i64) rfl ?_
  refine j_loopp (ι := Nat) (fun k => ⟨[(0, .tv (rSlice rDateRange) l), (3, .tv (rSlice (rInt .i64)) (uniqS (bnd (l.take k)))), (4, .raw (.int .i64 ((k : Nat))))], []⟩) (fun k => k ≤ l.length) (fun k => l.length - k) 0 (Nat.zero_le _) (fun a w hi => (Sub.inv ⟨(by repeat (first | exact SubS_nil | refine SubS_cons rfl (by first | rfl | (refine congrArg (SV.tv (rSlice (rInt .i64))) ?_; first | (exact uniqS_nil.symm; done))) ?_)), (by repeat (first | exact SubH_nil | refine SubH_cons rfl (by first | rfl | (simp; done) | assumption) ?_))⟩ hi)) ?_
  rintro k hk
  have hbl := bnd_len (l.take k)
  have htl : (l.take k).length ≤ l.length := by simp; omega
  have hul := uniqS_len (bnd (l.take k))
  refine j_seq (j_seq ?_)
  refine j_region ?_
  refine jg_adr _ rfl _ rfl rfl (op_move (.base rfl)) ?_
  refine jg_adr _ rfl _ rfl rfl (op_move (.base rfl)) ?_
  refine jg_adr _ rfl _ rfl rfl (op_len Try.underlying72 (.base rfl)) ?_
  refine jg_adr _ rfl _ rfl rfl (op_lss (.base rfl) (.base rfl)) ?_
  refine jg_nil ?_
  refine jn_keep [0, 3, 4, 8] [] (.cons rfl (.cons rfl (.cons rfl (.cons rfl .nil)))) .nil ?_
  refine jn_seq ?_
  refine j_cond rfl (fun h3 => ?_) (fun h3 => ?_)
  · try simp at h3
    refine j_skip (jn_seq (j_seq (j_block (j_seq ?_))))
    refine j_region ?_
    refine jg_adr _ rfl _ rfl rfl (op_move (.base rfl)) ?_
    refine jg_adr _ rfl _ rfl rfl (op_move (.base rfl)) ?_
    refine jg_adr _ rfl _ rfl rfl (op_index Try.underlying72 ty45 (.base rfl) (.base rfl) rfl (List.getElem?_eq_getElem (by first | omega | (simp; done) | (simp; omega) | (simp at hg; omega)))) ?_
    refine jg_adr _ rfl _ rfl rfl (op_load ty45 (.base rfl)) ?_
    refine jg_adr _ rfl _ rfl rfl (op_call (drne_ok _) (.cons (.base rfl) .nil) rfl rfl) ?_
    refine jg_nil ?_
    refine jn_keep [0, 3, 4, 15] [] (.cons rfl (.cons rfl (.cons rfl (.cons rfl .nil)))) .nil ?_
    refine jn_seq ?_
    refine j_cond rfl (fun h5 => ?_) (fun h5 => ?_)
    · have hs := bnd_succ (l := l) (k := k) (by omega)
      rw [if_pos h5] at hs
      have hi1 := ins5_bound (n := (l[k]'(by omega)).1) (Nat.le_refl (bnd (l.take k)).length)
      refine j_draw mo (by kernel_rfl) (
        AS.cons _ _ rfl (ga_adr rfl rfl rfl (op_move (.base rfl))) (
          AS.cons _ _ rfl (ga_adr rfl rfl rfl (op_move (.base rfl))) (
          AS.cons _ _ rfl (ga_adr rfl rfl rfl (op_move (.base rfl))) (
          AS.cons _ _ rfl (ga_adr rfl rfl rfl (op_index Try.underlying72 ty45 (.base rfl) (.base rfl) rfl (List.getElem?_eq_getElem (by first | omega | (simp; done) | (simp; omega) | (simp at hg; omega))))) (
          AS.cons _ _ rfl (ga_adr rfl rfl rfl (op_field fld45_0 ln45_0 (.base rfl))) (
          AS.cons _ _ rfl (ga_adr rfl rfl rfl (op_load ty3 (.base rfl))) (
          AS.cons _ _ rfl (ga_adr rfl rfl rfl (op_call (insert5_ok _ _ (by omega)) (.cons (.base rfl) (.cons (.base rfl) .nil)) rfl rfl)) (
          AS.cons _ _ rfl (ga_adr rfl rfl rfl (op_move (.base rfl))) (
          AS.cons _ _ rfl (ga_adr rfl rfl rfl (op_move (.base rfl))) (
          AS.cons _ _ rfl (ga_adr rfl rfl rfl (op_index Try.underlying72 ty45 (.base rfl) (.base rfl) rfl (List.getElem?_eq_getElem (by first | omega | (simp; done) | (simp; omega) | (simp at hg; omega))))) (
          AS.cons _ _ rfl (ga_adr rfl rfl rfl (op_field fld45_1 ln45_1 (.base rfl))) (
          AS.cons _ _ rfl (ga_adr rfl rfl rfl (op_load ty3 (.base rfl))) (
          AS.cons _ _ rfl (ga_adr rfl rfl rfl (op_call (insert5_ok _ _ (by omega)) (.cons (.base rfl) (.cons (.base rfl) .nil)) rfl rfl)) (
          AS.cons _ _ rfl (ga_adr rfl rfl rfl (op_assign (.base rfl))) (
          AS.nil))))))))))))))) ?_
      refine jn_keep [0, 3, 4] [] (.cons rfl (.cons rfl (.cons rfl .nil))) .nil ?_
      refine jn_blk (jn_seq ?_)
      refine j_region ?_
      refine jg_adr _ rfl _ rfl rfl (op_move (.base rfl)) ?_
      refine jg_adr _ rfl _ rfl rfl (op_add (.base rfl) (.base rfl) (w64 (by omega))) ?_
      refine jg_adr _ rfl _ rfl rfl (op_assign (.base rfl)) ?_
      refine jg_nil ?_
      refine jn_keep [0, 3, 4] [] (.cons rfl (.cons rfl (.cons rfl .nil))) .nil ?_
      exact jn_loop (fun a w hi => ⟨k + 1, (by omega), (by omega), Sub.inv ⟨(by repeat (first | exact SubS_nil | refine SubS_cons rfl (by first | rfl | (refine congrArg (SV.tv (rSlice (rInt .i64))) ?_; first | (rw [hs]; done) | (rw [ins5_uniqS, ins5_uniqS, hs]; simp; done))) ?_)), (by repeat (first | exact SubH_nil | refine SubH_cons rfl (by first | rfl | (simp; done) | assumption) ?_))⟩ hi⟩)
    · have hs := bnd_succ (l := l) (k := k) (by omega)
      rw [if_neg (by rw [h5]; simp), List.append_nil] at hs
      refine j_skip (jn_blk (jn_seq ?_))
      refine j_region ?_
      refine jg_adr _ rfl _ rfl rfl (op_move (.base rfl)) ?_
      refine jg_adr _ rfl _ rfl rfl (op_add (.base rfl) (.base rfl) (w64 (by omega))) ?_
      refine jg_adr _ rfl _ rfl rfl (op_assign (.base rfl)) ?_
      refine jg_nil ?_
      refine jn_keep [0, 3, 4] [] (.cons rfl (.cons rfl (.cons rfl .nil))) .nil ?_
      exact jn_loop (fun a w hi => ⟨k + 1, (by omega), (by omega), Sub.inv ⟨(by repeat (first | exact SubS_nil | refine SubS_cons rfl (by first | rfl | (refine congrArg (SV.tv (rSlice (rInt .i64))) ?_; first | (rw [hs]; done) | (rw [ins5_uniqS, ins5_uniqS, hs]; simp; done))) ?_)), (by repeat (first | exact SubH_nil | refine SubH_cons rfl (by first | rfl | (simp; done) | assumption) ?_))⟩ hi⟩)
  · try simp at h3
    refine j_exit (je_seq (je_loop (je_blk (jn_seq (j_seq ?_)))))
    have hkk : k = l.length := by omega
    subst hkk
    refine j_region ?_
    refine jg_adr _ rfl _ rfl rfl (op_move (.base rfl)) ?_
    refine jg_adr _ rfl _ rfl rfl (op_assign (.base rfl)) ?_
    refine jg_nil ?_
    refine jn_keep [2] [] (.cons rfl .nil) .nil ?_
    refine jn_seq (j_ret ?_)
    exact jr_fin1 Try.results37 (res_tmp rfl) rfl (congrArg (SV.tv (rSlice (rInt .i64))) (by rw [List.take_of_length_le (Nat.le_refl _)]))

theorem within_ok (l : List Int) (hlm : l.length ≤ 100000) : Ct Try.prog 36 [.tv (rSlice (rInt .i64)) l] (.tv (rSlice (rInt .i64)) (kept l)) := by
  refine ct_intro Try.func36 rfl rfl Try.ntmps36 rfl rfl ?_
  intro w0 ok0
  refine j_len 0 rfl (fun hl0 => ?_)
  refine j_seq ?_
  refine j_region ?_
  refine jg_adr _ rfl _ rfl rfl (op_assign (.base rfl)) ?_
  refine jg_nil ?_
  refine jn_keep [0] [] (.cons rfl .nil) .nil ?_
  refine jn_seq (j_seq ?_)
  refine j_region ?_
  refine jg_adr _ rfl _ rfl rfl (op_assign (.base rfl)) ?_
  refine jg_nil ?_
  refine jn_keep [0, 3] [] (.cons rfl (.cons rfl .nil)) .nil ?_
  refine jn_seq (j_seq (j_seq ?_))
  refine j_region ?_
  refine jg_adr _ rfl _ rfl rfl (op_assign (.base rfl)) ?_
  refine jg_nil ?_
  refine jn_keep [0, 3, 4] [] (.cons rfl (.cons rfl (.cons rfl .nil))) .nil ?_
  refine jn_seq (j_block ?_)
  refine j_vac 70 3 (rInt .i64) rfl rfl rfl ?_
  refine j_loopp (ι := Nat) (fun k => ⟨[(0, .tv (rSlice (rInt .i64)) l), (3, .own 70 (rInt .i64).n 0 ((l.take k).filter (fun x => !outD x)).length), (4, .raw (.int .i64 ((k : Nat))))], [(70, ⟨rInt .i64, ((l.take k).filter (fun x => !outD x))⟩)]⟩) (fun k => k ≤ l.length) (fun k => l.length - k) 0 (Nat.zero_le _) (fun a w hi => (Sub.inv ⟨(by repeat (first | exact SubS_nil | refine SubS_cons rfl (by first | rfl | (simp; done) | assumption) ?_)), (by repeat (first | exact SubH_nil | refine SubH_cons rfl (by first | rfl | (simp; done) | assumption) ?_))⟩ hi)) ?_
  rintro k hk
  have hfl := filt_len (p := fun x => !outD x) (l := l) (k := k)
  refine j_seq (j_seq ?_)
  refine j_region ?_
  refine jg_adr _ rfl _ rfl rfl (op_move (.base rfl)) ?_
  refine jg_adr _ rfl _ rfl rfl (op_move (.base rfl)) ?_
  refine jg_adr _ rfl _ rfl rfl (op_len Try.underlying32 (.base rfl)) ?_
  refine jg_adr _ rfl _ rfl rfl (op_lss (.base rfl) (.base rfl)) ?_
  refine jg_nil ?_
  refine jn_keep [0, 3, 4, 8] [70] (.cons rfl (.cons rfl (.cons rfl (.cons rfl .nil)))) (.cons rfl .nil) ?_
  refine jn_seq ?_
  refine j_cond rfl (fun h3 => ?_) (fun h3 => ?_)
  · simp at h3
    refine j_skip (jn_seq (j_seq (j_block (j_seq ?_))))
    refine j_region ?_
    refine jg_adr _ rfl _ rfl rfl (op_move (.base rfl)) ?_
    refine jg_adr _ rfl _ rfl rfl (op_move (.base rfl)) ?_
    refine jg_adr _ rfl _ rfl rfl (op_index Try.underlying32 ty3 (.base rfl) (.base rfl) rfl (List.getElem?_eq_getElem (by first | omega | (simp; done) | (simp; omega) | (simp at hg; omega)))) ?_
    refine jg_adr _ rfl _ rfl rfl (op_load ty3 (.base rfl)) ?_
    refine jg_adr _ rfl _ rfl rfl (op_geq (.base rfl) (.base rfl)) ?_
    refine jg_adr _ rfl _ rfl rfl (op_move (.base rfl)) ?_
    refine jg_gd _ _ _ _ _ _ rfl rfl rfl rfl rfl (fun hg => op_move (.base rfl)) ?_
    refine jg_gd _ _ _ _ _ _ rfl rfl rfl rfl rfl (fun hg => op_move (.base rfl)) ?_
    refine jg_gd _ _ _ _ _ _ rfl rfl rfl rfl rfl (fun hg => op_index Try.underlying32 ty3 (.gd rfl hg) (.gd rfl hg) rfl (getD_some (z := (0 : Int)) (by first | omega | (simp; done) | (simp; omega) | (simp at hg; omega) | (simp at hg; simp; omega)))) ?_
    refine jg_gd _ _ _ _ _ _ rfl rfl rfl rfl rfl (fun hg => op_load ty3 (.gd rfl hg)) ?_
    refine jg_gd _ _ _ _ _ _ rfl rfl rfl rfl rfl (fun hg => op_leq (.gd rfl hg) (.base rfl)) ?_
    refine jg_adr _ rfl _ rfl rfl (op_pick_and (.base rfl) (.base rfl) rfl (by intro h; first | (rw [h]; rfl) | (rw [hg, h]; rfl) | (rw [h, hg]; rfl) | simp_all)) ?_
    refine jg_nil ?_
    refine jn_keep [0, 3, 4, 22] [70] (.cons rfl (.cons rfl (.cons rfl (.cons rfl .nil)))) (.cons rfl .nil) ?_
    refine jn_seq ?_
    refine j_cond rfl (fun h5 => ?_) (fun h5 => ?_)
    · have h5' : (!outD l[k]) = true := by simp [List.getElem?_eq_getElem h3] at h5; simp [outD]; omega
      have hc := filt_t (p := fun x => !outD x) h3 h5'
      refine j_region ?_
      refine jg_adr _ rfl _ rfl rfl (op_move (.base rfl)) ?_
      refine jg_adr _ rfl _ rfl rfl (op_move (.base rfl)) ?_
      refine jg_adr _ rfl _ rfl rfl (op_move (.base rfl)) ?_
      refine jg_adr _ rfl _ rfl rfl (op_index Try.underlying32 ty3 (.base rfl) (.base rfl) rfl (List.getElem?_eq_getElem (by first | omega | (simp; done) | (simp; omega) | (simp at hg; omega)))) ?_
      refine jg_adr _ rfl _ rfl rfl (op_load ty3 (.base rfl)) ?_
      refine jg_adr _ rfl _ rfl rfl (op_bslice (rt := (rInt .i64)) Try.underlying32 ty3 z3 rfl (.cons (.raw (.base rfl) rfl) .nil) rfl rfl) ?_
      refine jg_os _ rfl (op_append [0, 4] Try.underlying32 ty3 z3 rfl by3 (.base rfl) rfl (by (try simp); try omega) (.tv (.base rfl)) (by unfold maxLen; (try simp); try omega) (by (try simp); try omega) rfl (.cons rfl (.cons rfl .nil)) rfl) ?_
      refine jg_adr _ rfl _ rfl rfl (op_assign (.base rfl)) ?_
      refine jg_nil ?_
      refine jn_keep [0, 3, 4] [70] (.cons rfl (.cons rfl (.cons rfl .nil))) (.cons rfl .nil) ?_
      refine jn_blk (jn_seq ?_)
      refine j_region ?_
      refine jg_adr _ rfl _ rfl rfl (op_move (.base rfl)) ?_
      refine jg_adr _ rfl _ rfl rfl (op_add (.base rfl) (.base rfl) (w64 (by omega))) ?_
      refine jg_adr _ rfl _ rfl rfl (op_assign (.base rfl)) ?_
      refine jg_nil ?_
      refine jn_keep [0, 3, 4] [70] (.cons rfl (.cons rfl (.cons rfl .nil))) (.cons rfl .nil) ?_
      exact jn_loop (fun a w hi => ⟨k + 1, (by omega), (by omega), Sub.inv ⟨(by repeat (first | exact SubS_nil | refine SubS_cons rfl (by first | rfl | exact congrArg (SV.own 70 (rInt .i64).n 0) (by rw [hc]; try simp; try omega)) ?_)), (by repeat (first | exact SubH_nil | refine SubH_cons rfl (by first | rfl | (refine congrArg (HB.mk (rInt .i64)) ?_; rw [hc]; try (simp only [List.drop_zero, List.take_of_length_le (Nat.le_refl _), List.append_nil]); first | done | rfl | (simp; done))) ?_))⟩ hi⟩)
    · have h5' : (!outD l[k]) = false := by simp [List.getElem?_eq_getElem h3] at h5; simp [outD]; omega
      have hc := filt_f (p := fun x => !outD x) h3 h5'
      refine j_skip (jn_blk (jn_seq ?_))
      refine j_region ?_
      refine jg_adr _ rfl _ rfl rfl (op_move (.base rfl)) ?_
      refine jg_adr _ rfl _ rfl rfl (op_add (.base rfl) (.base rfl) (w64 (by omega))) ?_
      refine jg_adr _ rfl _ rfl rfl (op_assign (.base rfl)) ?_
      refine jg_nil ?_
      refine jn_keep [0, 3, 4] [70] (.cons rfl (.cons rfl (.cons rfl .nil))) (.cons rfl .nil) ?_
      exact jn_loop (fun a w hi => ⟨k + 1, (by omega), (by omega), Sub.inv ⟨(by repeat (first | exact SubS_nil | refine SubS_cons rfl (by first | rfl | exact congrArg (SV.own 70 (rInt .i64).n 0) (by rw [hc]; try simp; try omega)) ?_)), (by repeat (first | exact SubH_nil | refine SubH_cons rfl (by first | rfl | (refine congrArg (HB.mk (rInt .i64)) ?_; rw [hc]; try (simp only [List.drop_zero, List.take_of_length_le (Nat.le_refl _), List.append_nil]); first | done | rfl | (simp; done))) ?_))⟩ hi⟩)
  · simp at h3
    refine j_exit (je_seq (je_loop (je_blk (jn_seq (j_seq ?_)))))
    refine j_region ?_
    refine jg_adr _ rfl _ rfl rfl (op_move (.base rfl)) ?_
    refine jg_adr _ rfl _ rfl rfl (op_assign (.base rfl)) ?_
    refine jg_nil ?_
    refine jn_keep [2] [70] (.cons rfl .nil) (.cons rfl .nil) ?_
    refine jn_seq (j_ret ?_)
    refine jr_seal (rt := rInt .i64) 70 2 (dropH 70 _) rfl rfl (by simp) (dropH_sub 70 _) (dropH_no 70 _) ?_
    exact jr_fin1 Try.results36 (res_tmp rfl) rfl (congrArg (SV.tv (rSlice (rInt .i64))) (by rw [List.drop_zero, List.take_of_length_le (Nat.le_refl _), List.take_of_length_le (by omega)]; rfl))


def chgR (l : List Rg) : List Int := kept (uniqS (bnd l))
def tvR (t : TTable) : List Rg := t.2.2.2.map (·.1)
def svR (s : TScope) : List Rg := s.2.2.2.2.map (fun r => r.2.2.2.2.1)
def rngT (ts : List TTable) : List Rg := ts.flatMap tvR
def rngL (l : TLaw) : List Rg := l.2.1.flatMap tvR ++ l.2.2.flatMap svR
def fmK {α : Type} (g : α → List Rg) (ts : List α) (i : Nat) : List Rg := (ts.take i).flatMap g
theorem fmK_succ {α : Type} {g : α → List Rg} {ts : List α} {i : Nat} (h : i < ts.length) : fmK g ts (i + 1) = fmK g ts i ++ g ts[i] := by
  unfold fmK; rw [List.take_succ_eq_append_getElem h, List.flatMap_append]; simp
theorem fmK_n {α : Type} (g : α → List Rg) (ts : List α) : fmK g ts ts.length = ts.flatMap g := by unfold fmK; rw [List.take_length]
theorem fmK_le {α : Type} (g : α → List Rg) (ts : List α) (i : Nat) : (fmK g ts i).length ≤ (ts.flatMap g).length := by
  have := congrArg List.length (congrArg (List.flatMap g) (List.take_append_drop i ts))
  rw [List.flatMap_append, List.length_append] at this; unfold fmK; omega
theorem fmK_le2 {α : Type} {g : α → List Rg} {ts : List α} {i : Nat} (h : i < ts.length) : (fmK g ts i).length + (g ts[i]).length ≤ (ts.flatMap g).length := by
  have := fmK_le g ts (i + 1); rw [fmK_succ h, List.length_append] at this; exact this
theorem tv_succ {t : TTable} {j : Nat} (h : j < t.2.2.2.length) : (tvR t).take (j + 1) = (tvR t).take j ++ [t.2.2.2[j].1] := by
  unfold tvR; rw [List.take_succ_eq_append_getElem (by simpa using h)]; simp
theorem sv_succ {s : TScope} {j : Nat} (h : j < s.2.2.2.2.length) : (svR s).take (j + 1) = (svR s).take j ++ [s.2.2.2.2[j].2.2.2.2.1] := by
  unfold svR; rw [List.take_succ_eq_append_getElem (by simpa using h)]; simp
theorem tv_all {t : TTable} : (tvR t).take t.2.2.2.length = tvR t := List.take_of_length_le (by simp [tvR])
theorem sv_all {s : TScope} : (svR s).take s.2.2.2.2.length = svR s := List.take_of_length_le (by simp [svR])
theorem tv_len (t : TTable) : (tvR t).length = t.2.2.2.length := by simp [tvR]
theorem sv_len (s : TScope) : (svR s).length = s.2.2.2.2.length := by simp [svR]
theorem tvt_len (t : TTable) (j : Nat) : ((tvR t).take j).length ≤ (tvR t).length := by simp; omega
theorem svt_len (t : TScope) (j : Nat) : ((svR t).take j).length ≤ (svR t).length := by simp; omega

theorem chg_ok (l : TLaw) (hL : (rngL l).length ≤ 10000) (hT : l.2.1.length ≤ 100000) (hS : l.2.2.length ≤ 100000) : Ct Try.prog 15 [.tv rLaw l] (.tv (rSlice (rInt .i64)) (chgR (rngL l))) := by
  refine ct_intro Try.func15 rfl rfl Try.ntmps15 rfl rfl ?_
  intro w0 ok0
  refine j_seq ?_
  refine j_region ?_
  refine jg_os _ rfl (op_box (.tv (.base rfl)) rfl rfl rfl) ?_
  refine jg_adr _ rfl _ rfl rfl (op_assign (.base rfl)) ?_
  refine jg_nil ?_
  refine jn_keep [1] [1] (.cons rfl .nil) (.cons rfl .nil) ?_
  refine jn_seq (j_seq ?_)
  refine j_region ?_
  refine jg_adr _ rfl _ rfl rfl (op_assign (.base rfl)) ?_
  refine jg_nil ?_
  refine jn_keep [1, 3] [1] (.cons rfl (.cons rfl .nil)) (.cons rfl .nil) ?_
  refine jn_seq (j_seq (j_seq ?_))
  refine j_region ?_
  refine jg_adr _ rfl _ rfl rfl (op_ofield fld26_1 (.base rfl)) ?_
  refine jg_adr _ rfl _ rfl rfl (op_oload ty23 (.base rfl) rfl rfl ln26_1) ?_
  refine jg_adr _ rfl _ rfl rfl (op_len Try.underlying23 (.base rfl)) ?_
  refine jg_adr _ rfl _ rfl rfl (op_move (.base rfl)) ?_
  refine jg_nil ?_
  refine jn_keep [1, 3, 13, 14, 15] [1] (.cons rfl (.cons rfl (.cons rfl (.cons rfl (.cons rfl .nil))))) (.cons rfl .nil) ?_
  refine jn_seq (j_block ?_)
  have hL2 : (rngL l).length = (rngT l.2.1).length + (l.2.2.flatMap svR).length := by unfold rngL rngT; rw [List.length_append]
  have hL3 : (l.2.1.flatMap tvR).length = (rngT l.2.1).length := rfl
  refine j_vac 70 3 rDateRange rfl rfl rfl ?_
  refine j_loopp (ι := Nat) (fun i => ⟨[(13, .tv (rSlice rTable) l.2.1), (14, .raw (.int .i64 (l.2.1.length))), (15, .raw (.int .i64 ((i : Nat)))), (1, .optr 1 rLaw.n 0 0), (3, .own 70 rDateRange.n 0 (fmK tvR l.2.1 i).length)], [(1, ⟨rLaw, [l]⟩), (70, ⟨rDateRange, fmK tvR l.2.1 i⟩)]⟩) (fun i => i ≤ l.2.1.length) (fun i => l.2.1.length - i) 0 (Nat.zero_le _) (fun a w hi => (Sub.inv ⟨(by repeat (first | exact SubS_nil | refine SubS_cons rfl (by first | rfl) ?_)), (by repeat (first | exact SubH_nil | refine SubH_cons rfl (by first | rfl) ?_))⟩ hi)) ?_
  rintro i hki
  have b1 := fmK_le tvR l.2.1 i
  refine j_seq ?_
  refine j_region ?_
  refine jg_adr _ rfl _ rfl rfl (op_lss (.base rfl) (.base rfl)) ?_
  refine jg_nil ?_
  refine jn_keep [1, 3, 13, 14, 15, 16] [1, 70] (.cons rfl (.cons rfl (.cons rfl (.cons rfl (.cons rfl (.cons rfl .nil)))))) (.cons rfl (.cons rfl .nil)) ?_
  refine jn_seq (j_seq ?_)
  refine j_cond rfl (fun h3 => ?_) (fun h3 => ?_)
  · have hq : i < l.2.1.length := by simp at h3; omega
    refine j_skip (jn_seq (j_seq (j_block (j_seq ?_))))
    refine j_region ?_
    refine jg_adr _ rfl _ rfl rfl (op_index Try.underlying23 ty64 (.base rfl) (.base rfl) rfl (List.getElem?_eq_getElem (by first | omega | (simp; done) | (simp; omega) | (simp at hg; omega)))) ?_
    refine jg_adr _ rfl _ rfl rfl (op_load ty64 (.base rfl)) ?_
    refine jg_os _ rfl (op_alloc _ z64 rfl rfl rfl) ?_
    refine jg_os _ rfl (op_ostore ty64 (.base rfl) rfl rfl (Lens.id _) (.tv (.base rfl))) ?_
    refine jg_nil ?_
    refine jn_keep [1, 3, 5, 13, 14, 15] [1, 5, 70] (.cons rfl (.cons rfl (.cons rfl (.cons rfl (.cons rfl (.cons rfl .nil)))))) (.cons rfl (.cons rfl (.cons rfl .nil))) ?_
    refine jn_seq (j_seq ?_)
    refine j_region ?_
    refine jg_adr _ rfl _ rfl rfl (op_ofield fld64_3 (.base rfl)) ?_
    refine jg_adr _ rfl _ rfl rfl (op_oload ty62 (.base rfl) rfl rfl ln64_3) ?_
    refine jg_adr _ rfl _ rfl rfl (op_len Try.underlying62 (.base rfl)) ?_
    refine jg_adr _ rfl _ rfl rfl (op_move (.base rfl)) ?_
    refine jg_nil ?_
    refine jn_keep [1, 3, 13, 14, 15, 20, 21, 22] [1, 70] (.cons rfl (.cons rfl (.cons rfl (.cons rfl (.cons rfl (.cons rfl (.cons rfl (.cons rfl .nil)))))))) (.cons rfl (.cons rfl .nil)) ?_
    refine jn_seq (j_block ?_)
    refine j_loopp (ι := Nat) (fun j => ⟨[(13, .tv (rSlice rTable) l.2.1), (14, .raw (.int .i64 (l.2.1.length))), (15, .raw (.int .i64 ((i : Nat)))), (1, .optr 1 rLaw.n 0 0), (20, .tv (rSlice rRow) (l.2.1[i]'hq).2.2.2), (21, .raw (.int .i64 ((l.2.1[i]'hq).2.2.2.length))), (22, .raw (.int .i64 ((j : Nat)))), (3, .own 70 rDateRange.n 0 (fmK tvR l.2.1 i ++ (tvR (l.2.1[i]'hq)).take j).length)], [(1, ⟨rLaw, [l]⟩), (70, ⟨rDateRange, fmK tvR l.2.1 i ++ (tvR (l.2.1[i]'hq)).take j⟩)]⟩) (fun j => j ≤ (l.2.1[i]'hq).2.2.2.length) (fun j => (l.2.1[i]'hq).2.2.2.length - j) 0 (Nat.zero_le _) (fun a w hi => (Sub.inv ⟨(by repeat (first | exact SubS_nil | refine SubS_cons rfl (by first | rfl | (refine congrArg (SV.own 70 rDateRange.n 0) ?_; first | (rw [List.take_zero]; (try simp only [List.drop_zero, List.take_of_length_le (Nat.le_refl _), List.append_assoc, List.length_append, List.length_singleton, List.length_cons, List.length_nil]); first | done | rfl | omega | (simp; done); done))) ?_)), (by repeat (first | exact SubH_nil | refine SubH_cons rfl (by first | rfl | (refine congrArg (HB.mk rDateRange) ?_; first | rfl | (rw [List.take_zero]; simp; done))) ?_))⟩ hi)) ?_
    rintro j hkj
    have b2 := fmK_le2 (g := tvR) hq
    have b3 := tvt_len (l.2.1[i]'hq) j
    have b4 := tv_len (l.2.1[i]'hq)
    refine j_seq ?_
    refine j_region ?_
    refine jg_adr _ rfl _ rfl rfl (op_lss (.base rfl) (.base rfl)) ?_
    refine jg_nil ?_
    refine jn_keep [1, 3, 13, 14, 15, 20, 21, 22, 23] [1, 70] (.cons rfl (.cons rfl (.cons rfl (.cons rfl (.cons rfl (.cons rfl (.cons rfl (.cons rfl (.cons rfl .nil))))))))) (.cons rfl (.cons rfl .nil)) ?_
    refine jn_seq (j_seq ?_)
    refine j_cond rfl (fun h6 => ?_) (fun h6 => ?_)
    · have h6 : j < (l.2.1[i]'hq).2.2.2.length := by simpa [List.getElem?_eq_getElem hq] using h6
      refine j_skip (jn_seq (j_seq (j_block (j_seq ?_))))
      refine j_region ?_
      refine jg_adr _ rfl _ rfl rfl (op_index Try.underlying62 ty74 (.base rfl) (.base rfl) rfl (List.getElem?_eq_getElem (by first | omega | (simp; done) | (simp; omega) | (simp at hg; omega)))) ?_
      refine jg_adr _ rfl _ rfl rfl (op_load ty74 (.base rfl)) ?_
      refine jg_os _ rfl (op_alloc _ z74 rfl rfl rfl) ?_
      refine jg_os _ rfl (op_ostore ty74 (.base rfl) rfl rfl (Lens.id _) (.tv (.base rfl))) ?_
      refine jg_nil ?_
      refine jn_keep [1, 3, 7, 13, 14, 15, 20, 21, 22] [1, 7, 70] (.cons rfl (.cons rfl (.cons rfl (.cons rfl (.cons rfl (.cons rfl (.cons rfl (.cons rfl (.cons rfl .nil))))))))) (.cons rfl (.cons rfl (.cons rfl .nil))) ?_
      refine jn_seq ?_
      refine j_region ?_
      refine jg_adr _ rfl _ rfl rfl (op_move (.base rfl)) ?_
      refine jg_adr _ rfl _ rfl rfl (op_ofield fld74_0 (.base rfl)) ?_
      refine jg_adr _ rfl _ rfl rfl (op_oload ty45 (.base rfl) rfl rfl ln74_0) ?_
      refine jg_adr _ rfl _ rfl rfl (op_bslice (rt := rDateRange) Try.underlying72 ty45 z45 rfl (.cons (.tv (.base rfl)) .nil) rfl rfl) ?_
      refine jg_os _ rfl (op_append [1, 13, 14, 15, 20, 21, 22] Try.underlying72 ty45 z45 rfl by45 (.base rfl) rfl (by (try simp); try omega) (.tv (.base rfl)) (by unfold maxLen; (try simp); try omega) (by (try simp); try omega) rfl (.cons rfl (.cons rfl (.cons rfl (.cons rfl (.cons rfl (.cons rfl (.cons rfl .nil))))))) rfl) ?_
      refine jg_adr _ rfl _ rfl rfl (op_assign (.base rfl)) ?_
      refine jg_nil ?_
      refine jn_keep [1, 3, 13, 14, 15, 20, 21, 22] [1, 70] (.cons rfl (.cons rfl (.cons rfl (.cons rfl (.cons rfl (.cons rfl (.cons rfl (.cons rfl .nil)))))))) (.cons rfl (.cons rfl .nil)) ?_
      refine jn_blk (jn_seq ?_)
      refine j_region ?_
      refine jg_adr _ rfl _ rfl rfl (op_add (.base rfl) (.base rfl) (w64 (by omega))) ?_
      refine jg_adr _ rfl _ rfl rfl (op_move (.base rfl)) ?_
      refine jg_nil ?_
      refine jn_keep [1, 3, 13, 14, 15, 20, 21, 22] [1, 70] (.cons rfl (.cons rfl (.cons rfl (.cons rfl (.cons rfl (.cons rfl (.cons rfl (.cons rfl .nil)))))))) (.cons rfl (.cons rfl .nil)) ?_
      exact jn_loop (fun a w hi => ⟨j + 1, (by omega), (by omega), Sub.inv ⟨(by repeat (first | exact SubS_nil | refine SubS_cons rfl (by first | rfl | (refine congrArg (SV.own 70 rDateRange.n 0) ?_; first | (rw [tv_succ h6]; (try simp only [List.drop_zero, List.take_of_length_le (Nat.le_refl _), List.append_assoc, List.length_append, List.length_singleton, List.length_cons, List.length_nil]); first | done | rfl | omega | (simp; done); done))) ?_)), (by repeat (first | exact SubH_nil | refine SubH_cons rfl (by first | rfl | (refine congrArg (HB.mk rDateRange) ?_; first | rfl | (rw [tv_succ h6]; (try simp only [List.drop_zero, List.take_length, List.append_assoc]); first | done | rfl | (simp; done); done))) ?_))⟩ hi⟩)
    · have h6 : ¬ j < (l.2.1[i]'hq).2.2.2.length := by simpa [List.getElem?_eq_getElem hq] using h6
      obtain rfl : j = (l.2.1[i]'hq).2.2.2.length := by omega
      have hj := tv_all (t := l.2.1[i]'hq)
      refine j_exit (je_seq (je_loop (je_blk (jn_blk (jn_seq ?_)))))
      refine j_region ?_
      refine jg_adr _ rfl _ rfl rfl (op_add (.base rfl) (.base rfl) (w64 (by omega))) ?_
      refine jg_adr _ rfl _ rfl rfl (op_move (.base rfl)) ?_
      refine jg_nil ?_
      refine jn_keep [1, 3, 13, 14, 15] [1, 70] (.cons rfl (.cons rfl (.cons rfl (.cons rfl (.cons rfl .nil))))) (.cons rfl (.cons rfl .nil)) ?_
      exact jn_loop (fun a w hi => ⟨i + 1, (by omega), (by omega), Sub.inv ⟨(by repeat (first | exact SubS_nil | refine SubS_cons rfl (by first | rfl | (refine congrArg (SV.own 70 rDateRange.n 0) ?_; first | (rw [fmK_succ hq, hj]; done))) ?_)), (by repeat (first | exact SubH_nil | refine SubH_cons rfl (by first | rfl | (refine congrArg (HB.mk rDateRange) ?_; first | rfl | (rw [fmK_succ hq, hj]; done))) ?_))⟩ hi⟩)
  · simp at h3
    obtain rfl : i = l.2.1.length := by omega
    refine j_exit (je_seq (je_loop (je_blk (jn_seq (j_seq (j_seq ?_))))))
    refine j_region ?_
    refine jg_adr _ rfl _ rfl rfl (op_ofield fld26_2 (.base rfl)) ?_
    refine jg_adr _ rfl _ rfl rfl (op_oload ty24 (.base rfl) rfl rfl ln26_2) ?_
    refine jg_adr _ rfl _ rfl rfl (op_len Try.underlying24 (.base rfl)) ?_
    refine jg_adr _ rfl _ rfl rfl (op_move (.base rfl)) ?_
    refine jg_nil ?_
    refine jn_keep [3, 34, 35, 36] [70] (.cons rfl (.cons rfl (.cons rfl (.cons rfl .nil)))) (.cons rfl .nil) ?_
    refine jn_seq (j_block ?_)
    refine j_loopp (ι := Nat) (fun i => ⟨[(34, .tv (rSlice rScope) l.2.2), (35, .raw (.int .i64 (l.2.2.length))), (36, .raw (.int .i64 ((i : Nat)))), (3, .own 70 rDateRange.n 0 (rngT l.2.1 ++ fmK svR l.2.2 i).length)], [(70, ⟨rDateRange, rngT l.2.1 ++ fmK svR l.2.2 i⟩)]⟩) (fun i => i ≤ l.2.2.length) (fun i => l.2.2.length - i) 0 (Nat.zero_le _) (fun a w hi => (Sub.inv ⟨(by repeat (first | exact SubS_nil | refine SubS_cons rfl (by first | rfl | (refine congrArg (SV.own 70 rDateRange.n 0) ?_; first | (rw [fmK_n]; simp [fmK]; done) | (rw [fmK_n]; simp [fmK]; rfl; done) | (rw [fmK_n]; simp [fmK, rngT]; done))) ?_)), (by repeat (first | exact SubH_nil | refine SubH_cons rfl (by first | rfl | (refine congrArg (HB.mk rDateRange) ?_; first | rfl | (simp [fmK]; done) | (rw [fmK_n]; simp [fmK]; done) | (rw [fmK_n]; simp [fmK]; rfl; done))) ?_))⟩ hi)) ?_
    rintro i hki
    have b1 := fmK_le svR l.2.2 i
    refine j_seq ?_
    refine j_region ?_
    refine jg_adr _ rfl _ rfl rfl (op_lss (.base rfl) (.base rfl)) ?_
    refine jg_nil ?_
    refine jn_keep [3, 34, 35, 36, 37] [70] (.cons rfl (.cons rfl (.cons rfl (.cons rfl (.cons rfl .nil))))) (.cons rfl .nil) ?_
    refine jn_seq (j_seq ?_)
    refine j_cond rfl (fun h12 => ?_) (fun h12 => ?_)
    · have hq : i < l.2.2.length := by simp at h12; omega
      refine j_skip (jn_seq (j_seq (j_block (j_seq ?_))))
      refine j_region ?_
      refine jg_adr _ rfl _ rfl rfl (op_index Try.underlying24 ty40 (.base rfl) (.base rfl) rfl (List.getElem?_eq_getElem (by first | omega | (simp; done) | (simp; omega) | (simp at hg; omega)))) ?_
      refine jg_adr _ rfl _ rfl rfl (op_load ty40 (.base rfl)) ?_
      refine jg_os _ rfl (op_alloc _ z40 rfl rfl rfl) ?_
      refine jg_os _ rfl (op_ostore ty40 (.base rfl) rfl rfl (Lens.id _) (.tv (.base rfl))) ?_
      refine jg_nil ?_
      refine jn_keep [3, 9, 34, 35, 36] [9, 70] (.cons rfl (.cons rfl (.cons rfl (.cons rfl (.cons rfl .nil))))) (.cons rfl (.cons rfl .nil)) ?_
      refine jn_seq (j_seq ?_)
      refine j_region ?_
      refine jg_adr _ rfl _ rfl rfl (op_ofield fld40_4 (.base rfl)) ?_
      refine jg_adr _ rfl _ rfl rfl (op_oload ty38 (.base rfl) rfl rfl ln40_4) ?_
      refine jg_adr _ rfl _ rfl rfl (op_len Try.underlying38 (.base rfl)) ?_
      refine jg_adr _ rfl _ rfl rfl (op_move (.base rfl)) ?_
      refine jg_nil ?_
      refine jn_keep [3, 34, 35, 36, 41, 42, 43] [70] (.cons rfl (.cons rfl (.cons rfl (.cons rfl (.cons rfl (.cons rfl (.cons rfl .nil))))))) (.cons rfl .nil) ?_
      refine jn_seq (j_block ?_)
      refine j_loopp (ι := Nat) (fun j => ⟨[(34, .tv (rSlice rScope) l.2.2), (35, .raw (.int .i64 (l.2.2.length))), (36, .raw (.int .i64 ((i : Nat)))), (41, .tv (rSlice rRule) (l.2.2[i]'hq).2.2.2.2), (42, .raw (.int .i64 ((l.2.2[i]'hq).2.2.2.2.length))), (43, .raw (.int .i64 ((j : Nat)))), (3, .own 70 rDateRange.n 0 (rngT l.2.1 ++ fmK svR l.2.2 i ++ (svR (l.2.2[i]'hq)).take j).length)], [(70, ⟨rDateRange, rngT l.2.1 ++ fmK svR l.2.2 i ++ (svR (l.2.2[i]'hq)).take j⟩)]⟩) (fun j => j ≤ (l.2.2[i]'hq).2.2.2.2.length) (fun j => (l.2.2[i]'hq).2.2.2.2.length - j) 0 (Nat.zero_le _) (fun a w hi => (Sub.inv ⟨(by repeat (first | exact SubS_nil | refine SubS_cons rfl (by first | rfl | (refine congrArg (SV.own 70 rDateRange.n 0) ?_; first | (rw [List.take_zero]; (try simp only [List.drop_zero, List.take_of_length_le (Nat.le_refl _), List.append_assoc, List.length_append, List.length_singleton, List.length_cons, List.length_nil]); first | done | rfl | omega | (simp; done); done))) ?_)), (by repeat (first | exact SubH_nil | refine SubH_cons rfl (by first | rfl | (refine congrArg (HB.mk rDateRange) ?_; first | rfl | (rw [List.take_zero]; simp; done))) ?_))⟩ hi)) ?_
      rintro j hkj
      have b2 := fmK_le2 (g := svR) hq
      have b3 := svt_len (l.2.2[i]'hq) j
      have b4 := sv_len (l.2.2[i]'hq)
      refine j_seq ?_
      refine j_region ?_
      refine jg_adr _ rfl _ rfl rfl (op_lss (.base rfl) (.base rfl)) ?_
      refine jg_nil ?_
      refine jn_keep [3, 34, 35, 36, 41, 42, 43, 44] [70] (.cons rfl (.cons rfl (.cons rfl (.cons rfl (.cons rfl (.cons rfl (.cons rfl (.cons rfl .nil)))))))) (.cons rfl .nil) ?_
      refine jn_seq (j_seq ?_)
      refine j_cond rfl (fun h15 => ?_) (fun h15 => ?_)
      · have h15 : j < (l.2.2[i]'hq).2.2.2.2.length := by simpa [List.getElem?_eq_getElem hq] using h15
        refine j_skip (jn_seq (j_seq (j_block (j_seq ?_))))
        refine j_region ?_
        refine jg_adr _ rfl _ rfl rfl (op_index Try.underlying38 ty48 (.base rfl) (.base rfl) rfl (List.getElem?_eq_getElem (by first | omega | (simp; done) | (simp; omega) | (simp at hg; omega)))) ?_
        refine jg_adr _ rfl _ rfl rfl (op_load ty48 (.base rfl)) ?_
        refine jg_os _ rfl (op_alloc _ z48 rfl rfl rfl) ?_
        refine jg_os _ rfl (op_ostore ty48 (.base rfl) rfl rfl (Lens.id _) (.tv (.base rfl))) ?_
        refine jg_nil ?_
        refine jn_keep [3, 11, 34, 35, 36, 41, 42, 43] [11, 70] (.cons rfl (.cons rfl (.cons rfl (.cons rfl (.cons rfl (.cons rfl (.cons rfl (.cons rfl .nil)))))))) (.cons rfl (.cons rfl .nil)) ?_
        refine jn_seq ?_
        refine j_region ?_
        refine jg_adr _ rfl _ rfl rfl (op_move (.base rfl)) ?_
        refine jg_adr _ rfl _ rfl rfl (op_ofield fld48_4 (.base rfl)) ?_
        refine jg_adr _ rfl _ rfl rfl (op_oload ty45 (.base rfl) rfl rfl ln48_4) ?_
        refine jg_adr _ rfl _ rfl rfl (op_bslice (rt := rDateRange) Try.underlying72 ty45 z45 rfl (.cons (.tv (.base rfl)) .nil) rfl rfl) ?_
        refine jg_os _ rfl (op_append [34, 35, 36, 41, 42, 43] Try.underlying72 ty45 z45 rfl by45 (.base rfl) rfl (by (try simp); try omega) (.tv (.base rfl)) (by unfold maxLen; (try simp); try omega) (by (try simp); try omega) rfl (.cons rfl (.cons rfl (.cons rfl (.cons rfl (.cons rfl (.cons rfl .nil)))))) rfl) ?_
        refine jg_adr _ rfl _ rfl rfl (op_assign (.base rfl)) ?_
        refine jg_nil ?_
        refine jn_keep [3, 34, 35, 36, 41, 42, 43] [70] (.cons rfl (.cons rfl (.cons rfl (.cons rfl (.cons rfl (.cons rfl (.cons rfl .nil))))))) (.cons rfl .nil) ?_
        refine jn_blk (jn_seq ?_)
        refine j_region ?_
        refine jg_adr _ rfl _ rfl rfl (op_add (.base rfl) (.base rfl) (w64 (by omega))) ?_
        refine jg_adr _ rfl _ rfl rfl (op_move (.base rfl)) ?_
        refine jg_nil ?_
        refine jn_keep [3, 34, 35, 36, 41, 42, 43] [70] (.cons rfl (.cons rfl (.cons rfl (.cons rfl (.cons rfl (.cons rfl (.cons rfl .nil))))))) (.cons rfl .nil) ?_
        exact jn_loop (fun a w hi => ⟨j + 1, (by omega), (by omega), Sub.inv ⟨(by repeat (first | exact SubS_nil | refine SubS_cons rfl (by first | rfl | (refine congrArg (SV.own 70 rDateRange.n 0) ?_; first | (rw [sv_succ h15]; (try simp only [List.drop_zero, List.take_of_length_le (Nat.le_refl _), List.append_assoc, List.length_append, List.length_singleton, List.length_cons, List.length_nil]); first | done | rfl | omega | (simp; done); done))) ?_)), (by repeat (first | exact SubH_nil | refine SubH_cons rfl (by first | rfl | (refine congrArg (HB.mk rDateRange) ?_; first | rfl | (rw [sv_succ h15]; (try simp only [List.drop_zero, List.take_length, List.append_assoc]); first | done | rfl | (simp; done); done))) ?_))⟩ hi⟩)
      · have h15 : ¬ j < (l.2.2[i]'hq).2.2.2.2.length := by simpa [List.getElem?_eq_getElem hq] using h15
        obtain rfl : j = (l.2.2[i]'hq).2.2.2.2.length := by omega
        have hj := sv_all (s := l.2.2[i]'hq)
        refine j_exit (je_seq (je_loop (je_blk (jn_blk (jn_seq ?_)))))
        refine j_region ?_
        refine jg_adr _ rfl _ rfl rfl (op_add (.base rfl) (.base rfl) (w64 (by omega))) ?_
        refine jg_adr _ rfl _ rfl rfl (op_move (.base rfl)) ?_
        refine jg_nil ?_
        refine jn_keep [3, 34, 35, 36] [70] (.cons rfl (.cons rfl (.cons rfl (.cons rfl .nil)))) (.cons rfl .nil) ?_
        exact jn_loop (fun a w hi => ⟨i + 1, (by omega), (by omega), Sub.inv ⟨(by repeat (first | exact SubS_nil | refine SubS_cons rfl (by first | rfl | (refine congrArg (SV.own 70 rDateRange.n 0) ?_; first | (rw [fmK_succ hq, hj]; (try simp only [List.drop_zero, List.take_of_length_le (Nat.le_refl _), List.append_assoc, List.length_append, List.length_singleton, List.length_cons, List.length_nil]); first | done | rfl | omega | (simp; done); done))) ?_)), (by repeat (first | exact SubH_nil | refine SubH_cons rfl (by first | rfl | (refine congrArg (HB.mk rDateRange) ?_; first | rfl | (rw [fmK_succ hq, hj]; (try simp only [List.drop_zero, List.take_length, List.append_assoc]); first | done | rfl | (simp; done); done))) ?_))⟩ hi⟩)
    · simp at h12
      obtain rfl : i = l.2.2.length := by omega
      refine j_exit (je_seq (je_loop (je_blk (jn_seq (j_seq ?_)))))
      refine j_seal (rt := rDateRange) 70 3 (dropH 70 _) rfl rfl (by simp) (dropH_sub 70 _) (dropH_no 70 _) ?_
      rw [List.drop_zero, List.take_of_length_le (Nat.le_refl _), fmK_n, show rngT l.2.1 ++ l.2.2.flatMap svR = rngL l from rfl]
      refine j_region ?_
      refine jg_adr _ rfl _ rfl rfl (op_move (.base rfl)) ?_
      refine jg_os _ rfl (op_callO (bounds5O _ (by omega)) (.cons (.base rfl) .nil) rfl rfl rfl rfl) ?_
      refine jg_os _ rfl (op_turnF1 delF (.base rfl) (.base rfl) rfl rfl (by have h1 := uniqS_len (bnd (rngL l)); have h2 := bnd_len (rngL l); omega) rfl) ?_
      refine jg_adr _ rfl _ rfl rfl (op_assign (.base rfl)) ?_
      refine jg_nil ?_
      refine jn_keep [2] [55] (.cons rfl .nil) (.cons rfl .nil) ?_
      refine jn_seq (j_ret ?_)
      refine jr_seal (rt := rInt .i64) 55 2 (dropH 55 _) rfl rfl (by simp) (dropH_sub 55 _) (dropH_no 55 _) ?_
      exact jr_fin1 Try.results15 (res_tmp rfl) rfl (congrArg (SV.tv (rSlice (rInt .i64))) (by rw [List.drop_zero]; exact List.take_left' rfl))

theorem rchg_ok (l : TLaw) (hL : (rngL l).length ≤ 10000) (hT : l.2.1.length ≤ 100000) (hS : l.2.2.length ≤ 100000) : Ct Try.prog 16 [.tv rLaw l] (.tv (rSlice (rInt .i64)) (chgR (rngL l))) := by
  refine ct_intro Try.func16 rfl rfl Try.ntmps16 rfl rfl ?_
  intro w0 ok0
  refine j_seq ?_
  refine j_region ?_
  refine jg_os _ rfl (op_box (.tv (.base rfl)) rfl rfl rfl) ?_
  refine jg_adr _ rfl _ rfl rfl (op_assign (.base rfl)) ?_
  refine jg_nil ?_
  refine jn_keep [1] [1] (.cons rfl .nil) (.cons rfl .nil) ?_
  refine jn_seq (j_seq ?_)
  refine j_region ?_
  refine jg_adr _ rfl _ rfl rfl (op_assign (.base rfl)) ?_
  refine jg_nil ?_
  refine jn_keep [1, 3] [1] (.cons rfl (.cons rfl .nil)) (.cons rfl .nil) ?_
  refine jn_seq (j_seq (j_seq ?_))
  refine j_region ?_
  refine jg_adr _ rfl _ rfl rfl (op_assign (.base rfl)) ?_
  refine jg_nil ?_
  refine jn_keep [1, 3, 4] [1] (.cons rfl (.cons rfl (.cons rfl .nil))) (.cons rfl .nil) ?_
  refine jn_seq (j_block ?_)
  have hL2 : (rngL l).length = (rngT l.2.1).length + (l.2.2.flatMap svR).length := by unfold rngL rngT; rw [List.length_append]
  have hL3 : (l.2.1.flatMap tvR).length = (rngT l.2.1).length := rfl
  refine j_vac 70 3 rDateRange rfl rfl rfl ?_
  refine j_loopp (ι := Nat) (fun i => ⟨[(4, .raw (.int .i64 ((i : Nat)))), (1, .optr 1 rLaw.n 0 0), (3, .own 70 rDateRange.n 0 (fmK tvR l.2.1 i).length)], [(1, ⟨rLaw, [l]⟩), (70, ⟨rDateRange, fmK tvR l.2.1 i⟩)]⟩) (fun i => i ≤ l.2.1.length) (fun i => l.2.1.length - i) 0 (Nat.zero_le _) (fun a w hi => (Sub.inv ⟨(by repeat (first | exact SubS_nil | refine SubS_cons rfl (by first | rfl) ?_)), (by repeat (first | exact SubH_nil | refine SubH_cons rfl (by first | rfl) ?_))⟩ hi)) ?_
  rintro i hki
  have b1 := fmK_le tvR l.2.1 i
  refine j_seq (j_seq ?_)
  refine j_region ?_
  refine jg_adr _ rfl _ rfl rfl (op_move (.base rfl)) ?_
  refine jg_adr _ rfl _ rfl rfl (op_ofield fld26_1 (.base rfl)) ?_
  refine jg_adr _ rfl _ rfl rfl (op_oload ty23 (.base rfl) rfl rfl ln26_1) ?_
  refine jg_adr _ rfl _ rfl rfl (op_len Try.underlying23 (.base rfl)) ?_
  refine jg_adr _ rfl _ rfl rfl (op_lss (.base rfl) (.base rfl)) ?_
  refine jg_nil ?_
  refine jn_keep [1, 3, 4, 12] [1, 70] (.cons rfl (.cons rfl (.cons rfl (.cons rfl .nil)))) (.cons rfl (.cons rfl .nil)) ?_
  refine jn_seq ?_
  refine j_cond rfl (fun h3 => ?_) (fun h3 => ?_)
  · have hq : i < l.2.1.length := by simp at h3; omega
    refine j_skip (jn_seq (j_seq (j_block (j_seq ?_))))
    refine j_region ?_
    refine jg_adr _ rfl _ rfl rfl (op_assign (.base rfl)) ?_
    refine jg_nil ?_
    refine jn_keep [1, 3, 4, 5] [1, 70] (.cons rfl (.cons rfl (.cons rfl (.cons rfl .nil)))) (.cons rfl (.cons rfl .nil)) ?_
    refine jn_seq (j_block ?_)
    refine j_loopp (ι := Nat) (fun j => ⟨[(4, .raw (.int .i64 ((i : Nat)))), (1, .optr 1 rLaw.n 0 0), (5, .raw (.int .i64 ((j : Nat)))), (3, .own 70 rDateRange.n 0 (fmK tvR l.2.1 i ++ (tvR (l.2.1[i]'hq)).take j).length)], [(1, ⟨rLaw, [l]⟩), (70, ⟨rDateRange, fmK tvR l.2.1 i ++ (tvR (l.2.1[i]'hq)).take j⟩)]⟩) (fun j => j ≤ (l.2.1[i]'hq).2.2.2.length) (fun j => (l.2.1[i]'hq).2.2.2.length - j) 0 (Nat.zero_le _) (fun a w hi => (Sub.inv ⟨(by repeat (first | exact SubS_nil | refine SubS_cons rfl (by first | rfl | (refine congrArg (SV.own 70 rDateRange.n 0) ?_; first | (rw [List.take_zero]; (try simp only [List.drop_zero, List.take_of_length_le (Nat.le_refl _), List.append_assoc, List.length_append, List.length_singleton, List.length_cons, List.length_nil]); first | done | rfl | omega | (simp; done); done))) ?_)), (by repeat (first | exact SubH_nil | refine SubH_cons rfl (by first | rfl | (refine congrArg (HB.mk rDateRange) ?_; first | rfl | (rw [List.take_zero]; simp; done))) ?_))⟩ hi)) ?_
    rintro j hkj
    have b2 := fmK_le2 (g := tvR) hq
    have b3 := tvt_len (l.2.1[i]'hq) j
    have b4 := tv_len (l.2.1[i]'hq)
    refine j_seq (j_seq ?_)
    refine j_region ?_
    refine jg_adr _ rfl _ rfl rfl (op_move (.base rfl)) ?_
    refine jg_adr _ rfl _ rfl rfl (op_ofield fld26_1 (.base rfl)) ?_
    refine jg_adr _ rfl _ rfl rfl (op_oload ty23 (.base rfl) rfl rfl ln26_1) ?_
    refine jg_adr _ rfl _ rfl rfl (op_move (.base rfl)) ?_
    refine jg_adr _ rfl _ rfl rfl (op_index Try.underlying23 ty64 (.base rfl) (.base rfl) rfl (List.getElem?_eq_getElem (by first | omega | (simp; done) | (simp; omega) | (simp at hg; omega)))) ?_
    refine jg_adr _ rfl _ rfl rfl (op_field fld64_3 ln64_3 (.base rfl)) ?_
    refine jg_adr _ rfl _ rfl rfl (op_load ty62 (.base rfl)) ?_
    refine jg_adr _ rfl _ rfl rfl (op_len Try.underlying62 (.base rfl)) ?_
    refine jg_adr _ rfl _ rfl rfl (op_lss (.base rfl) (.base rfl)) ?_
    refine jg_nil ?_
    refine jn_keep [1, 3, 4, 5, 23] [1, 70] (.cons rfl (.cons rfl (.cons rfl (.cons rfl (.cons rfl .nil))))) (.cons rfl (.cons rfl .nil)) ?_
    refine jn_seq ?_
    refine j_cond rfl (fun h6 => ?_) (fun h6 => ?_)
    · have h6 : j < (l.2.1[i]'hq).2.2.2.length := by simpa [List.getElem?_eq_getElem hq] using h6
      refine j_skip (jn_seq (j_seq (j_block ?_)))
      refine j_region ?_
      refine jg_adr _ rfl _ rfl rfl (op_move (.base rfl)) ?_
      refine jg_adr _ rfl _ rfl rfl (op_ofield fld26_1 (.base rfl)) ?_
      refine jg_adr _ rfl _ rfl rfl (op_oload ty23 (.base rfl) rfl rfl ln26_1) ?_
      refine jg_adr _ rfl _ rfl rfl (op_move (.base rfl)) ?_
      refine jg_adr _ rfl _ rfl rfl (op_index Try.underlying23 ty64 (.base rfl) (.base rfl) rfl (List.getElem?_eq_getElem (by first | omega | (simp; done) | (simp; omega) | (simp at hg; omega)))) ?_
      refine jg_adr _ rfl _ rfl rfl (op_field fld64_3 ln64_3 (.base rfl)) ?_
      refine jg_adr _ rfl _ rfl rfl (op_load ty62 (.base rfl)) ?_
      refine jg_adr _ rfl _ rfl rfl (op_move (.base rfl)) ?_
      refine jg_adr _ rfl _ rfl rfl (op_index Try.underlying62 ty74 (.base rfl) (.base rfl) rfl (List.getElem?_eq_getElem (by first | omega | (simp; done) | (simp; omega) | (simp at hg; omega)))) ?_
      refine jg_adr _ rfl _ rfl rfl (op_field fld74_0 ln74_0 (.base rfl)) ?_
      refine jg_adr _ rfl _ rfl rfl (op_load ty45 (.base rfl)) ?_
      refine jg_adr _ rfl _ rfl rfl (op_bslice (rt := rDateRange) Try.underlying72 ty45 z45 rfl (.cons (.tv (.base rfl)) .nil) rfl rfl) ?_
      refine jg_os _ rfl (op_append [1, 4, 5] Try.underlying72 ty45 z45 rfl by45 (.base rfl) rfl (by (try simp); try omega) (.tv (.base rfl)) (by unfold maxLen; (try simp); try omega) (by (try simp); try omega) rfl (.cons rfl (.cons rfl (.cons rfl .nil))) rfl) ?_
      refine jg_adr _ rfl _ rfl rfl (op_assign (.base rfl)) ?_
      refine jg_nil ?_
      refine jn_keep [1, 3, 4, 5] [1, 70] (.cons rfl (.cons rfl (.cons rfl (.cons rfl .nil)))) (.cons rfl (.cons rfl .nil)) ?_
      refine jn_blk (jn_seq ?_)
      refine j_region ?_
      refine jg_adr _ rfl _ rfl rfl (op_move (.base rfl)) ?_
      refine jg_adr _ rfl _ rfl rfl (op_add (.base rfl) (.base rfl) (w64 (by omega))) ?_
      refine jg_adr _ rfl _ rfl rfl (op_assign (.base rfl)) ?_
      refine jg_nil ?_
      refine jn_keep [1, 3, 4, 5] [1, 70] (.cons rfl (.cons rfl (.cons rfl (.cons rfl .nil)))) (.cons rfl (.cons rfl .nil)) ?_
      exact jn_loop (fun a w hi => ⟨j + 1, (by omega), (by omega), Sub.inv ⟨(by repeat (first | exact SubS_nil | refine SubS_cons rfl (by first | rfl | (refine congrArg (SV.own 70 rDateRange.n 0) ?_; first | (rw [tv_succ h6]; (try simp only [List.drop_zero, List.take_of_length_le (Nat.le_refl _), List.append_assoc, List.length_append, List.length_singleton, List.length_cons, List.length_nil]); first | done | rfl | omega | (simp; done); done))) ?_)), (by repeat (first | exact SubH_nil | refine SubH_cons rfl (by first | rfl | (refine congrArg (HB.mk rDateRange) ?_; first | rfl | (rw [tv_succ h6]; (try simp only [List.drop_zero, List.take_length, List.append_assoc]); first | done | rfl | (simp; done); done))) ?_))⟩ hi⟩)
    · have h6 : ¬ j < (l.2.1[i]'hq).2.2.2.length := by simpa [List.getElem?_eq_getElem hq] using h6
      obtain rfl : j = (l.2.1[i]'hq).2.2.2.length := by omega
      have hj := tv_all (t := l.2.1[i]'hq)
      refine j_exit (je_seq (je_loop (je_blk (jn_blk (jn_seq ?_)))))
      refine j_region ?_
      refine jg_adr _ rfl _ rfl rfl (op_move (.base rfl)) ?_
      refine jg_adr _ rfl _ rfl rfl (op_add (.base rfl) (.base rfl) (w64 (by omega))) ?_
      refine jg_adr _ rfl _ rfl rfl (op_assign (.base rfl)) ?_
      refine jg_nil ?_
      refine jn_keep [1, 3, 4] [1, 70] (.cons rfl (.cons rfl (.cons rfl .nil))) (.cons rfl (.cons rfl .nil)) ?_
      exact jn_loop (fun a w hi => ⟨i + 1, (by omega), (by omega), Sub.inv ⟨(by repeat (first | exact SubS_nil | refine SubS_cons rfl (by first | rfl | (refine congrArg (SV.own 70 rDateRange.n 0) ?_; first | (rw [fmK_succ hq, hj]; done))) ?_)), (by repeat (first | exact SubH_nil | refine SubH_cons rfl (by first | rfl | (refine congrArg (HB.mk rDateRange) ?_; first | rfl | (rw [fmK_succ hq, hj]; done))) ?_))⟩ hi⟩)
  · simp at h3
    obtain rfl : i = l.2.1.length := by omega
    refine j_exit (je_seq (je_loop (je_blk (jn_seq (j_seq (j_seq ?_))))))
    refine j_region ?_
    refine jg_adr _ rfl _ rfl rfl (op_assign (.base rfl)) ?_
    refine jg_nil ?_
    refine jn_keep [1, 3, 6] [1, 70] (.cons rfl (.cons rfl (.cons rfl .nil))) (.cons rfl (.cons rfl .nil)) ?_
    refine jn_seq (j_block ?_)
    refine j_loopp (ι := Nat) (fun i => ⟨[(6, .raw (.int .i64 ((i : Nat)))), (1, .optr 1 rLaw.n 0 0), (3, .own 70 rDateRange.n 0 (rngT l.2.1 ++ fmK svR l.2.2 i).length)], [(1, ⟨rLaw, [l]⟩), (70, ⟨rDateRange, rngT l.2.1 ++ fmK svR l.2.2 i⟩)]⟩) (fun i => i ≤ l.2.2.length) (fun i => l.2.2.length - i) 0 (Nat.zero_le _) (fun a w hi => (Sub.inv ⟨(by repeat (first | exact SubS_nil | refine SubS_cons rfl (by first | rfl | (refine congrArg (SV.own 70 rDateRange.n 0) ?_; first | (rw [fmK_n]; simp [fmK]; done) | (rw [fmK_n]; simp [fmK]; rfl; done) | (rw [fmK_n]; simp [fmK, rngT]; done))) ?_)), (by repeat (first | exact SubH_nil | refine SubH_cons rfl (by first | rfl | (refine congrArg (HB.mk rDateRange) ?_; first | rfl | (simp [fmK]; done) | (rw [fmK_n]; simp [fmK]; done) | (rw [fmK_n]; simp [fmK]; rfl; done))) ?_))⟩ hi)) ?_
    rintro i hki
    have b1 := fmK_le svR l.2.2 i
    refine j_seq (j_seq ?_)
    refine j_region ?_
    refine jg_adr _ rfl _ rfl rfl (op_move (.base rfl)) ?_
    refine jg_adr _ rfl _ rfl rfl (op_ofield fld26_2 (.base rfl)) ?_
    refine jg_adr _ rfl _ rfl rfl (op_oload ty24 (.base rfl) rfl rfl ln26_2) ?_
    refine jg_adr _ rfl _ rfl rfl (op_len Try.underlying24 (.base rfl)) ?_
    refine jg_adr _ rfl _ rfl rfl (op_lss (.base rfl) (.base rfl)) ?_
    refine jg_nil ?_
    refine jn_keep [1, 3, 6, 43] [1, 70] (.cons rfl (.cons rfl (.cons rfl (.cons rfl .nil)))) (.cons rfl (.cons rfl .nil)) ?_
    refine jn_seq ?_
    refine j_cond rfl (fun h10 => ?_) (fun h10 => ?_)
    · have hq : i < l.2.2.length := by simp at h10; omega
      refine j_skip (jn_seq (j_seq (j_block (j_seq ?_))))
      refine j_region ?_
      refine jg_adr _ rfl _ rfl rfl (op_assign (.base rfl)) ?_
      refine jg_nil ?_
      refine jn_keep [1, 3, 6, 7] [1, 70] (.cons rfl (.cons rfl (.cons rfl (.cons rfl .nil)))) (.cons rfl (.cons rfl .nil)) ?_
      refine jn_seq (j_block ?_)
      refine j_loopp (ι := Nat) (fun j => ⟨[(6, .raw (.int .i64 ((i : Nat)))), (1, .optr 1 rLaw.n 0 0), (7, .raw (.int .i64 ((j : Nat)))), (3, .own 70 rDateRange.n 0 (rngT l.2.1 ++ fmK svR l.2.2 i ++ (svR (l.2.2[i]'hq)).take j).length)], [(1, ⟨rLaw, [l]⟩), (70, ⟨rDateRange, rngT l.2.1 ++ fmK svR l.2.2 i ++ (svR (l.2.2[i]'hq)).take j⟩)]⟩) (fun j => j ≤ (l.2.2[i]'hq).2.2.2.2.length) (fun j => (l.2.2[i]'hq).2.2.2.2.length - j) 0 (Nat.zero_le _) (fun a w hi => (Sub.inv ⟨(by repeat (first | exact SubS_nil | refine SubS_cons rfl (by first | rfl | (refine congrArg (SV.own 70 rDateRange.n 0) ?_; first | (rw [List.take_zero]; (try simp only [List.drop_zero, List.take_of_length_le (Nat.le_refl _), List.append_assoc, List.length_append, List.length_singleton, List.length_cons, List.length_nil]); first | done | rfl | omega | (simp; done); done))) ?_)), (by repeat (first | exact SubH_nil | refine SubH_cons rfl (by first | rfl | (refine congrArg (HB.mk rDateRange) ?_; first | rfl | (rw [List.take_zero]; simp; done))) ?_))⟩ hi)) ?_
      rintro j hkj
      have b2 := fmK_le2 (g := svR) hq
      have b3 := svt_len (l.2.2[i]'hq) j
      have b4 := sv_len (l.2.2[i]'hq)
      refine j_seq (j_seq ?_)
      refine j_region ?_
      refine jg_adr _ rfl _ rfl rfl (op_move (.base rfl)) ?_
      refine jg_adr _ rfl _ rfl rfl (op_ofield fld26_2 (.base rfl)) ?_
      refine jg_adr _ rfl _ rfl rfl (op_oload ty24 (.base rfl) rfl rfl ln26_2) ?_
      refine jg_adr _ rfl _ rfl rfl (op_move (.base rfl)) ?_
      refine jg_adr _ rfl _ rfl rfl (op_index Try.underlying24 ty40 (.base rfl) (.base rfl) rfl (List.getElem?_eq_getElem (by first | omega | (simp; done) | (simp; omega) | (simp at hg; omega)))) ?_
      refine jg_adr _ rfl _ rfl rfl (op_field fld40_4 ln40_4 (.base rfl)) ?_
      refine jg_adr _ rfl _ rfl rfl (op_load ty38 (.base rfl)) ?_
      refine jg_adr _ rfl _ rfl rfl (op_len Try.underlying38 (.base rfl)) ?_
      refine jg_adr _ rfl _ rfl rfl (op_lss (.base rfl) (.base rfl)) ?_
      refine jg_nil ?_
      refine jn_keep [1, 3, 6, 7, 54] [1, 70] (.cons rfl (.cons rfl (.cons rfl (.cons rfl (.cons rfl .nil))))) (.cons rfl (.cons rfl .nil)) ?_
      refine jn_seq ?_
      refine j_cond rfl (fun h13 => ?_) (fun h13 => ?_)
      · have h13 : j < (l.2.2[i]'hq).2.2.2.2.length := by simpa [List.getElem?_eq_getElem hq] using h13
        refine j_skip (jn_seq (j_seq (j_block ?_)))
        refine j_region ?_
        refine jg_adr _ rfl _ rfl rfl (op_move (.base rfl)) ?_
        refine jg_adr _ rfl _ rfl rfl (op_ofield fld26_2 (.base rfl)) ?_
        refine jg_adr _ rfl _ rfl rfl (op_oload ty24 (.base rfl) rfl rfl ln26_2) ?_
        refine jg_adr _ rfl _ rfl rfl (op_move (.base rfl)) ?_
        refine jg_adr _ rfl _ rfl rfl (op_index Try.underlying24 ty40 (.base rfl) (.base rfl) rfl (List.getElem?_eq_getElem (by first | omega | (simp; done) | (simp; omega) | (simp at hg; omega)))) ?_
        refine jg_adr _ rfl _ rfl rfl (op_field fld40_4 ln40_4 (.base rfl)) ?_
        refine jg_adr _ rfl _ rfl rfl (op_load ty38 (.base rfl)) ?_
        refine jg_adr _ rfl _ rfl rfl (op_move (.base rfl)) ?_
        refine jg_adr _ rfl _ rfl rfl (op_index Try.underlying38 ty48 (.base rfl) (.base rfl) rfl (List.getElem?_eq_getElem (by first | omega | (simp; done) | (simp; omega) | (simp at hg; omega)))) ?_
        refine jg_adr _ rfl _ rfl rfl (op_field fld48_4 ln48_4 (.base rfl)) ?_
        refine jg_adr _ rfl _ rfl rfl (op_load ty45 (.base rfl)) ?_
        refine jg_adr _ rfl _ rfl rfl (op_bslice (rt := rDateRange) Try.underlying72 ty45 z45 rfl (.cons (.tv (.base rfl)) .nil) rfl rfl) ?_
        refine jg_os _ rfl (op_append [1, 6, 7] Try.underlying72 ty45 z45 rfl by45 (.base rfl) rfl (by (try simp); try omega) (.tv (.base rfl)) (by unfold maxLen; (try simp); try omega) (by (try simp); try omega) rfl (.cons rfl (.cons rfl (.cons rfl .nil))) rfl) ?_
        refine jg_adr _ rfl _ rfl rfl (op_assign (.base rfl)) ?_
        refine jg_nil ?_
        refine jn_keep [1, 3, 6, 7] [1, 70] (.cons rfl (.cons rfl (.cons rfl (.cons rfl .nil)))) (.cons rfl (.cons rfl .nil)) ?_
        refine jn_blk (jn_seq ?_)
        refine j_region ?_
        refine jg_adr _ rfl _ rfl rfl (op_move (.base rfl)) ?_
        refine jg_adr _ rfl _ rfl rfl (op_add (.base rfl) (.base rfl) (w64 (by omega))) ?_
        refine jg_adr _ rfl _ rfl rfl (op_assign (.base rfl)) ?_
        refine jg_nil ?_
        refine jn_keep [1, 3, 6, 7] [1, 70] (.cons rfl (.cons rfl (.cons rfl (.cons rfl .nil)))) (.cons rfl (.cons rfl .nil)) ?_
        exact jn_loop (fun a w hi => ⟨j + 1, (by omega), (by omega), Sub.inv ⟨(by repeat (first | exact SubS_nil | refine SubS_cons rfl (by first | rfl | (refine congrArg (SV.own 70 rDateRange.n 0) ?_; first | (rw [sv_succ h13]; (try simp only [List.drop_zero, List.take_of_length_le (Nat.le_refl _), List.append_assoc, List.length_append, List.length_singleton, List.length_cons, List.length_nil]); first | done | rfl | omega | (simp; done); done))) ?_)), (by repeat (first | exact SubH_nil | refine SubH_cons rfl (by first | rfl | (refine congrArg (HB.mk rDateRange) ?_; first | rfl | (rw [sv_succ h13]; (try simp only [List.drop_zero, List.take_length, List.append_assoc]); first | done | rfl | (simp; done); done))) ?_))⟩ hi⟩)
      · have h13 : ¬ j < (l.2.2[i]'hq).2.2.2.2.length := by simpa [List.getElem?_eq_getElem hq] using h13
        obtain rfl : j = (l.2.2[i]'hq).2.2.2.2.length := by omega
        have hj := sv_all (s := l.2.2[i]'hq)
        refine j_exit (je_seq (je_loop (je_blk (jn_blk (jn_seq ?_)))))
        refine j_region ?_
        refine jg_adr _ rfl _ rfl rfl (op_move (.base rfl)) ?_
        refine jg_adr _ rfl _ rfl rfl (op_add (.base rfl) (.base rfl) (w64 (by omega))) ?_
        refine jg_adr _ rfl _ rfl rfl (op_assign (.base rfl)) ?_
        refine jg_nil ?_
        refine jn_keep [1, 3, 6] [1, 70] (.cons rfl (.cons rfl (.cons rfl .nil))) (.cons rfl (.cons rfl .nil)) ?_
        exact jn_loop (fun a w hi => ⟨i + 1, (by omega), (by omega), Sub.inv ⟨(by repeat (first | exact SubS_nil | refine SubS_cons rfl (by first | rfl | (refine congrArg (SV.own 70 rDateRange.n 0) ?_; first | (rw [fmK_succ hq, hj]; (try simp only [List.drop_zero, List.take_of_length_le (Nat.le_refl _), List.append_assoc, List.length_append, List.length_singleton, List.length_cons, List.length_nil]); first | done | rfl | omega | (simp; done); done))) ?_)), (by repeat (first | exact SubH_nil | refine SubH_cons rfl (by first | rfl | (refine congrArg (HB.mk rDateRange) ?_; first | rfl | (rw [fmK_succ hq, hj]; (try simp only [List.drop_zero, List.take_length, List.append_assoc]); first | done | rfl | (simp; done); done))) ?_))⟩ hi⟩)
    · simp at h10
      obtain rfl : i = l.2.2.length := by omega
      refine j_exit (je_seq (je_loop (je_blk (jn_seq (j_seq ?_)))))
      refine j_seal (rt := rDateRange) 70 3 (dropH 70 _) rfl rfl (by simp) (dropH_sub 70 _) (dropH_no 70 _) ?_
      rw [List.drop_zero, List.take_of_length_le (Nat.le_refl _), fmK_n, show rngT l.2.1 ++ l.2.2.flatMap svR = rngL l from rfl]
      refine j_region ?_
      refine jg_adr _ rfl _ rfl rfl (op_move (.base rfl)) ?_
      refine jg_adr _ rfl _ rfl rfl (op_call (rbounds5_ok _ (by omega)) (.cons (.base rfl) .nil) rfl rfl) ?_
      refine jg_adr _ rfl _ rfl rfl (op_call (within_ok _ (by have h1 := uniqS_len (bnd (rngL l)); have h2 := bnd_len (rngL l); omega)) (.cons (.base rfl) .nil) rfl rfl) ?_
      refine jg_adr _ rfl _ rfl rfl (op_assign (.base rfl)) ?_
      refine jg_nil ?_
      refine jn_keep [2] [] (.cons rfl .nil) .nil ?_
      refine jn_seq (j_ret ?_)
      exact jr_fin1 Try.results16 (res_tmp rfl) rfl rfl

end Go.Proofs.Ythfhekohlmboiaa
