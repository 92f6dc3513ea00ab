import Derived.Test.YtcdkmhmlpjnfeaaP12t
import Derived.Test.YtcdkmhmlpjnfeaaEngD
import Derived.Test.YtcdkmhmlpjnfeaaTurns
import Derived.Test.YtcdkmhmlpjnfeaaSame
import Derived.KernelRfl
namespace Go.Proofs.Ytcdkmhmlpjnfeaa
open Go.Eng
set_option maxRecDepth 100000
set_option maxHeartbeats 4000000
set_option linter.unusedVariables false
set_option linter.unusedSimpArgs false

open Go.Sort Go.RowKit Go.Shelf

def outD (d : Int) : Bool := decide (d < 1) || decide (d > 109572)
theorem cd_ok (d : Int) (W : World) : Calls Try.prog 63 #[.int .i64 d] W fun e w' => e = .returned (.bool (outD d)) ∧ ∃ q, w' = W.drewN q := by
  unfold outD
  by_cases h : d < 1
  · go_enter Try.func63, Try.ntmps63
    go_wp2
    go_ret
    exact ⟨by simp [h], 0, rfl⟩
  · go_enter Try.func63, Try.ntmps63
    go_wp2
    go_ret
    exact ⟨by simp; omega, 0, rfl⟩

theorem index0 (A : Option Addr) (cap : Nat) (fv : Value) : Ct Try.prog 76 [.raw (.slice A 0 cap), .raw fv] (.raw (.int .i64 (-1))) :=
  ⟨callFunc_enter Try.func76 rfl (by kernel_rfl), fun w ok0 vs hok ⟨v, vr, e, h1, v2, vr2, e2, h2, h3⟩ => by
    have h1 : v = .slice A 0 cap := h1
    have h2 : v2 = fv := h2
    have h3 : vr2 = [] := h3
    subst h1 h2 h3 e2 e
    refine (Go.Proofs.Try.slices_IndexFunc_empty (α := Int) A cap v2 w).mono ?_
    rintro e w' ⟨rfl, rfl⟩
    exact ⟨_, rfl, (Go.Eng.Below.refl _ _).toX, rfl⟩⟩

theorem delete0 (A : Option Addr) (cap : Nat) (fv : Value) : Ct Try.prog 61 [.raw (.slice A 0 cap), .raw fv] (.raw (.slice A 0 cap)) := by
  refine ct_intro Try.func61 rfl rfl Try.ntmps61 rfl rfl ?_
  intro w0 ok0
  refine j_seq ?_
  refine j_region ?_
  refine jg_adr _ rfl _ rfl rfl (op_assign (.base rfl)) ?_
  refine jg_nil ?_
  refine jn_keep [0, 1] [] (.cons rfl (.cons rfl .nil)) .nil ?_
  refine jn_seq (j_seq ?_)
  refine j_region ?_
  refine jg_adr _ rfl _ rfl rfl (op_move (.base rfl)) ?_
  refine jg_adr _ rfl _ rfl rfl (op_move (.base rfl)) ?_
  refine jg_adr _ rfl _ rfl rfl (op_call (index0 _ _ _) (.cons (.base rfl) (.cons (.base rfl) .nil)) rfl rfl) ?_
  refine jg_adr _ rfl _ rfl rfl (op_assign (.base rfl)) ?_
  refine jg_nil ?_
  refine jn_keep [0, 1, 5] [] (.cons rfl (.cons rfl (.cons rfl .nil))) .nil ?_
  refine jn_seq (j_seq (j_seq ?_))
  refine j_region ?_
  refine jg_adr _ rfl _ rfl rfl (op_move (.base rfl)) ?_
  refine jg_adr _ rfl _ rfl rfl (op_eql (.base rfl) (.base rfl)) ?_
  refine jg_nil ?_
  refine jn_keep [0, 1, 5, 12] [] (.cons rfl (.cons rfl (.cons rfl (.cons rfl .nil)))) .nil ?_
  refine jn_seq ?_
  refine j_cond rfl (fun h2 => ?_) (fun h2 => ?_)
  · try simp at h2
    refine j_seq ?_
    refine j_region ?_
    refine jg_adr _ rfl _ rfl rfl (op_move (.base rfl)) ?_
    refine jg_adr _ rfl _ rfl rfl (op_assign (.base rfl)) ?_
    refine jg_nil ?_
    refine jn_keep [4] [] (.cons rfl .nil) .nil ?_
    refine jn_seq (j_ret (jr_seq ?_))
    exact jr_fin1 Try.results61 (res_tmp rfl) rfl rfl
  · exact absurd h2 (by decide)

def kept (zs : List Int) : List Int := zs.filter fun x => !outD x
theorem kept_len (zs : List Int) : (kept zs).length ≤ zs.length := List.length_filter_le _ _
theorem delF : TurnF Try.prog 61 (.func (.func 63) #[] #[]) (fun zs => kept zs ++ List.replicate (zs.length - (kept zs).length) 0) (fun zs => (kept zs).length) where
  ent := callFunc_enter Try.func61 rfl (by kernel_rfl)
  len zs := by have := kept_len zs; simp; omega
  cut := kept_len
  some_ blk off cap zs w hH hb hz hc := by
    have eg : ∀ args w, (callFunc 63 args).run Try.prog w = .ok (.enter 63 args) w := enters_of Try.func63 (by kernel_rfl) rfl
    have hcon := Go.Proofs.Try.slices_DeleteFunc (Value.int .i64) (fun _ => rfl) outD 63 #[] eg 0 (fun _ => rfl) blk off cap zs.toArray w (fun W x _ => cd_ok x W) (fun _ _ _ x _ => cd_ok x _) hH (by simp; omega) (by simpa using hc)
    refine hcon.mono ?_
    rintro e w' ⟨rfl, q, rfl⟩
    exact ⟨rfl, q, #[], by simp [kept]⟩
  none_ A cap w := by
    refine ((delete0 A cap _).calls w (fun _ => False) [.slice A 0 cap, .func (.func 63) #[] #[]] (fun _ h => h.elim) ⟨_, _, rfl, rfl, _, _, rfl, rfl, rfl⟩).mono ?_
    rintro e w' ⟨v, rfl, hb, hv⟩
    have hv : v = .slice A 0 cap := hv
    subst hv
    exact ⟨rfl, hb.plain (fun _ h => h)⟩



def ins5 (l : List Int) (n : Int) : List Int := l.filter (fun y => decide (y < n)) ++ [n] ++ l.filter (fun y => decide (n < y))
theorem ins5_uniqS (l : List Int) (n : Int) : ins5 (uniqS l) n = uniqS (l ++ [n]) := by
  obtain ⟨h1, h2⟩ := uniqS_ok l
  refine (uniqS_eq ?_ fun x => ?_).symm
  · unfold ins5
    refine List.pairwise_append.2 ⟨List.pairwise_append.2 ⟨h1.filter _, by simp, fun a ha b hb => ?_⟩, h1.filter _, fun a ha b hb => ?_⟩
    · obtain rfl := List.mem_singleton.1 hb; simpa using (List.mem_filter.1 ha).2
    · have hb := (List.mem_filter.1 hb).2
      simp only [decide_eq_true_eq] at hb
      rcases List.mem_append.1 ha with ha | ha
      · have := (List.mem_filter.1 ha).2; simp only [decide_eq_true_eq] at this; omega
      · obtain rfl := List.mem_singleton.1 ha; exact hb
  · unfold ins5
    simp only [List.mem_append, List.mem_filter, h2, List.mem_singleton, decide_eq_true_eq]
    constructor
    · rintro ((⟨h, _⟩ | h) | ⟨h, _⟩)
      · exact .inl h
      · exact .inr h
      · exact .inl h
    · rintro (h | h)
      · rcases Int.lt_trichotomy x n with q | q | q
        · exact .inl (.inl ⟨h, q⟩)
        · exact .inl (.inr q)
        · exact .inr ⟨h, q⟩
      · exact .inl (.inr h)
theorem filt_t {p : Int → Bool} {l : List Int} {k : Nat} (hk : k < l.length) (h : p l[k] = true) : (l.take (k + 1)).filter p = (l.take k).filter p ++ [l[k]] := by rw [← List.take_append_getElem hk, List.filter_append]; simp [h]
theorem filt_f {p : Int → Bool} {l : List Int} {k : Nat} (hk : k < l.length) (h : p l[k] = false) : (l.take (k + 1)).filter p = (l.take k).filter p := by rw [← List.take_append_getElem hk, List.filter_append]; simp [h]
theorem filt_len {p : Int → Bool} {l : List Int} {k : Nat} : ((l.take k).filter p).length ≤ l.length := Nat.le_trans (List.length_filter_le _ _) (by simp; omega)

theorem insert5_ok (l : List Int) (n : Int) (hlm : l.length ≤ 1000000) : Ct Try.prog 81 [.tv (rSlice (rInt .i64)) l, .raw (.int .i64 n)] (.tv (rSlice (rInt .i64)) (ins5 l n)) := by
  refine ct_intro Try.func81 rfl rfl Try.ntmps81 rfl rfl ?_
  intro w0 ok0
  refine j_seq ?_
  refine j_region ?_
  refine jg_adr _ rfl _ rfl rfl (op_assign (.base rfl)) ?_
  refine jg_nil ?_
  refine jn_keep [0, 1] [] (.cons rfl (.cons rfl .nil)) .nil ?_
  refine jn_seq (j_seq ?_)
  refine j_region ?_
  refine jg_adr _ rfl _ rfl rfl (op_assign (.base rfl)) ?_
  refine jg_nil ?_
  refine jn_keep [0, 1, 5] [] (.cons rfl (.cons rfl (.cons rfl .nil))) .nil ?_
  refine jn_seq (j_seq (j_seq ?_))
  refine j_region ?_
  refine jg_adr _ rfl _ rfl rfl (op_assign (.base rfl)) ?_
  refine jg_nil ?_
  refine jn_keep [0, 1, 5, 6] [] (.cons rfl (.cons rfl (.cons rfl (.cons rfl .nil)))) .nil ?_
  refine jn_seq (j_block ?_)
  refine j_vac 70 5 (rInt .i64) rfl rfl rfl ?_
  refine j_loopp (ι := Nat) (fun k => ⟨[(0, .tv (rSlice (rInt .i64)) l), (1, .raw (.int .i64 (n))), (5, .own 70 (rInt .i64).n 0 ((l.take k).filter (fun y => decide (y < n))).length), (6, .raw (.int .i64 ((k : Nat))))], [(70, ⟨rInt .i64, ((l.take k).filter (fun y => decide (y < n)))⟩)]⟩) (fun k => k ≤ l.length) (fun k => l.length - k) 0 (Nat.zero_le _) (fun a w hi => (Sub.inv ⟨(by repeat (first | exact SubS_nil | refine SubS_cons rfl (by first | rfl | (simp; done) | assumption) ?_)), (by repeat (first | exact SubH_nil | refine SubH_cons rfl (by first | rfl | (simp; done) | assumption) ?_))⟩ hi)) ?_
  rintro k hk
  have hfl := filt_len (p := fun y => decide (y < n)) (l := l) (k := k)
  refine j_seq (j_seq ?_)
  refine j_region ?_
  refine jg_adr _ rfl _ rfl rfl (op_move (.base rfl)) ?_
  refine jg_adr _ rfl _ rfl rfl (op_move (.base rfl)) ?_
  refine jg_adr _ rfl _ rfl rfl (op_len Try.underlying57 (.base rfl)) ?_
  refine jg_adr _ rfl _ rfl rfl (op_lss (.base rfl) (.base rfl)) ?_
  refine jg_nil ?_
  refine jn_keep [0, 1, 5, 6, 11] [70] (.cons rfl (.cons rfl (.cons rfl (.cons rfl (.cons rfl .nil))))) (.cons rfl .nil) ?_
  refine jn_seq ?_
  refine j_cond rfl (fun h3 => ?_) (fun h3 => ?_)
  · try simp at h3
    refine j_skip (jn_seq (j_seq (j_block (j_seq ?_))))
    refine j_region ?_
    refine jg_adr _ rfl _ rfl rfl (op_move (.base rfl)) ?_
    refine jg_adr _ rfl _ rfl rfl (op_move (.base rfl)) ?_
    refine jg_adr _ rfl _ rfl rfl (op_index Try.underlying57 ty3 (.base rfl) (.base rfl) rfl (List.getElem?_eq_getElem (by first | omega | (simp; done) | (simp; omega) | (simp at hg; omega)))) ?_
    refine jg_adr _ rfl _ rfl rfl (op_load ty3 (.base rfl)) ?_
    refine jg_adr _ rfl _ rfl rfl (op_move (.base rfl)) ?_
    refine jg_adr _ rfl _ rfl rfl (op_lss (.base rfl) (.base rfl)) ?_
    refine jg_nil ?_
    refine jn_keep [0, 1, 5, 6, 19] [70] (.cons rfl (.cons rfl (.cons rfl (.cons rfl (.cons rfl .nil))))) (.cons rfl .nil) ?_
    refine jn_seq ?_
    refine j_cond rfl (fun h5 => ?_) (fun h5 => ?_)
    · simp at h5
      have hc := filt_t (p := fun y => decide (y < n)) (l := l) (k := k) (by omega) (by simpa using h5)
      refine j_region ?_
      refine jg_adr _ rfl _ rfl rfl (op_move (.base rfl)) ?_
      refine jg_adr _ rfl _ rfl rfl (op_move (.base rfl)) ?_
      refine jg_adr _ rfl _ rfl rfl (op_move (.base rfl)) ?_
      refine jg_adr _ rfl _ rfl rfl (op_index Try.underlying57 ty3 (.base rfl) (.base rfl) rfl (List.getElem?_eq_getElem (by first | omega | (simp; done) | (simp; omega) | (simp at hg; omega)))) ?_
      refine jg_adr _ rfl _ rfl rfl (op_load ty3 (.base rfl)) ?_
      refine jg_adr _ rfl _ rfl rfl (op_bslice (rt := (rInt .i64)) Try.underlying57 ty3 z3 rfl (.cons (.raw (.base rfl) rfl) .nil) rfl rfl) ?_
      refine jg_os _ rfl (op_append [0, 1, 6] Try.underlying57 ty3 z3 rfl by3 (.base rfl) rfl (by (try simp); try omega) (.tv (.base rfl)) (by unfold maxLen; (try simp); try omega) (by (try simp); try omega) rfl (.cons rfl (.cons rfl (.cons rfl .nil))) rfl) ?_
      refine jg_adr _ rfl _ rfl rfl (op_assign (.base rfl)) ?_
      refine jg_nil ?_
      refine jn_keep [0, 1, 5, 6] [70] (.cons rfl (.cons rfl (.cons rfl (.cons rfl .nil)))) (.cons rfl .nil) ?_
      refine jn_blk (jn_seq ?_)
      refine j_region ?_
      refine jg_adr _ rfl _ rfl rfl (op_move (.base rfl)) ?_
      refine jg_adr _ rfl _ rfl rfl (op_add (.base rfl) (.base rfl) (w64 (by omega))) ?_
      refine jg_adr _ rfl _ rfl rfl (op_assign (.base rfl)) ?_
      refine jg_nil ?_
      refine jn_keep [0, 1, 5, 6] [70] (.cons rfl (.cons rfl (.cons rfl (.cons rfl .nil)))) (.cons rfl .nil) ?_
      exact jn_loop (fun a w hi => ⟨k + 1, (by omega), (by omega), Sub.inv ⟨(by repeat (first | exact SubS_nil | refine SubS_cons rfl (by first | rfl | exact congrArg (SV.own 70 (rInt .i64).n 0) (by rw [hc]; try simp; try omega)) ?_)), (by repeat (first | exact SubH_nil | refine SubH_cons rfl (by first | rfl | (refine congrArg (HB.mk (rInt .i64)) ?_; rw [hc]; try (simp only [List.drop_zero, List.take_of_length_le (Nat.le_refl _)]); first | done | rfl | (simp; done))) ?_))⟩ hi⟩)
    · simp at h5
      have hc := filt_f (p := fun y => decide (y < n)) (l := l) (k := k) (by omega) (by simp; omega)
      refine j_skip (jn_blk (jn_seq ?_))
      refine j_region ?_
      refine jg_adr _ rfl _ rfl rfl (op_move (.base rfl)) ?_
      refine jg_adr _ rfl _ rfl rfl (op_add (.base rfl) (.base rfl) (w64 (by omega))) ?_
      refine jg_adr _ rfl _ rfl rfl (op_assign (.base rfl)) ?_
      refine jg_nil ?_
      refine jn_keep [0, 1, 5, 6] [70] (.cons rfl (.cons rfl (.cons rfl (.cons rfl .nil)))) (.cons rfl .nil) ?_
      exact jn_loop (fun a w hi => ⟨k + 1, (by omega), (by omega), Sub.inv ⟨(by repeat (first | exact SubS_nil | refine SubS_cons rfl (by first | rfl | exact congrArg (SV.own 70 (rInt .i64).n 0) (by rw [hc]; try simp; try omega)) ?_)), (by repeat (first | exact SubH_nil | refine SubH_cons rfl (by first | rfl | (refine congrArg (HB.mk (rInt .i64)) ?_; rw [hc]; try (simp only [List.drop_zero, List.take_of_length_le (Nat.le_refl _)]); first | done | rfl | (simp; done))) ?_))⟩ hi⟩)
  · try simp at h3
    refine j_exit (je_seq (je_loop (je_blk (jn_seq (j_seq ?_)))))
    have hkk : k = l.length := by omega
    subst hkk
    rw [List.take_of_length_le (Nat.le_refl l.length)]
    rw [List.take_of_length_le (Nat.le_refl l.length)] at hfl
    refine j_region ?_
    refine jg_adr _ rfl _ rfl rfl (op_move (.base rfl)) ?_
    refine jg_adr _ rfl _ rfl rfl (op_move (.base rfl)) ?_
    refine jg_adr _ rfl _ rfl rfl (op_bslice (rt := (rInt .i64)) Try.underlying57 ty3 z3 rfl (.cons (.raw (.base rfl) rfl) .nil) rfl rfl) ?_
    refine jg_os _ rfl (op_append [0, 1] Try.underlying57 ty3 z3 rfl by3 (.base rfl) rfl (by (try simp); try omega) (.tv (.base rfl)) (by unfold maxLen; (try simp); try omega) (by (try simp); try omega) rfl (.cons rfl (.cons rfl .nil)) rfl) ?_
    refine jg_adr _ rfl _ rfl rfl (op_assign (.base rfl)) ?_
    refine jg_nil ?_
    refine jn_keep [0, 1, 5] [70] (.cons rfl (.cons rfl (.cons rfl .nil))) (.cons rfl .nil) ?_
    refine jn_seq (j_seq (j_seq ?_))
    refine j_region ?_
    refine jg_adr _ rfl _ rfl rfl (op_assign (.base rfl)) ?_
    refine jg_nil ?_
    refine jn_keep [0, 1, 5, 7] [70] (.cons rfl (.cons rfl (.cons rfl (.cons rfl .nil)))) (.cons rfl .nil) ?_
    refine jn_seq (j_block ?_)
    refine j_loopp (ι := Nat) (fun j => ⟨[(0, .tv (rSlice (rInt .i64)) l), (1, .raw (.int .i64 (n))), (5, .own 70 (rInt .i64).n 0 (l.filter (fun y => decide (y < n)) ++ [n] ++ (l.take j).filter (fun y => decide (n < y))).length), (7, .raw (.int .i64 ((j : Nat))))], [(70, ⟨rInt .i64, (l.filter (fun y => decide (y < n)) ++ [n] ++ (l.take j).filter (fun y => decide (n < y)))⟩)]⟩) (fun j => j ≤ l.length) (fun j => l.length - j) 0 (Nat.zero_le _) (fun a w hi => (Sub.inv ⟨(by repeat (first | exact SubS_nil | refine SubS_cons rfl (by first | rfl | exact congrArg (SV.own 70 (rInt .i64).n 0) (by simp)) ?_)), (by repeat (first | exact SubH_nil | refine SubH_cons rfl (by first | rfl | (refine congrArg (HB.mk (rInt .i64)) ?_; simp; done)) ?_))⟩ hi)) ?_
    rintro j hj
    have hfl := filt_len (p := fun y => decide (y < n)) (l := l) (k := l.length)
    rw [List.take_of_length_le (Nat.le_refl l.length)] at hfl
    have hfg := filt_len (p := fun y => decide (n < y)) (l := l) (k := j)
    have hsum : (l.filter (fun y => decide (y < n)) ++ [n] ++ (l.take j).filter (fun y => decide (n < y))).length ≤ 2 * l.length + 1 := by simp only [List.length_append, List.length_cons, List.length_nil]; omega
    refine j_seq (j_seq ?_)
    refine j_region ?_
    refine jg_adr _ rfl _ rfl rfl (op_move (.base rfl)) ?_
    refine jg_adr _ rfl _ rfl rfl (op_move (.base rfl)) ?_
    refine jg_adr _ rfl _ rfl rfl (op_len Try.underlying57 (.base rfl)) ?_
    refine jg_adr _ rfl _ rfl rfl (op_lss (.base rfl) (.base rfl)) ?_
    refine jg_nil ?_
    refine jn_keep [0, 1, 5, 7, 34] [70] (.cons rfl (.cons rfl (.cons rfl (.cons rfl (.cons rfl .nil))))) (.cons rfl .nil) ?_
    refine jn_seq ?_
    refine j_cond rfl (fun h9 => ?_) (fun h9 => ?_)
    · try simp at h9
      refine j_skip (jn_seq (j_seq (j_block (j_seq ?_))))
      refine j_region ?_
      refine jg_adr _ rfl _ rfl rfl (op_move (.base rfl)) ?_
      refine jg_adr _ rfl _ rfl rfl (op_move (.base rfl)) ?_
      refine jg_adr _ rfl _ rfl rfl (op_index Try.underlying57 ty3 (.base rfl) (.base rfl) rfl (List.getElem?_eq_getElem (by first | omega | (simp; done) | (simp; omega) | (simp at hg; omega)))) ?_
      refine jg_adr _ rfl _ rfl rfl (op_load ty3 (.base rfl)) ?_
      refine jg_adr _ rfl _ rfl rfl (op_move (.base rfl)) ?_
      refine jg_adr _ rfl _ rfl rfl (op_gtr (.base rfl) (.base rfl)) ?_
      refine jg_nil ?_
      refine jn_keep [0, 1, 5, 7, 42] [70] (.cons rfl (.cons rfl (.cons rfl (.cons rfl (.cons rfl .nil))))) (.cons rfl .nil) ?_
      refine jn_seq ?_
      refine j_cond rfl (fun h11 => ?_) (fun h11 => ?_)
      · simp at h11
        have hc := filt_t (p := fun y => decide (n < y)) (l := l) (k := j) (by omega) (by simpa using h11)
        refine j_region ?_
        refine jg_adr _ rfl _ rfl rfl (op_move (.base rfl)) ?_
        refine jg_adr _ rfl _ rfl rfl (op_move (.base rfl)) ?_
        refine jg_adr _ rfl _ rfl rfl (op_move (.base rfl)) ?_
        refine jg_adr _ rfl _ rfl rfl (op_index Try.underlying57 ty3 (.base rfl) (.base rfl) rfl (List.getElem?_eq_getElem (by first | omega | (simp; done) | (simp; omega) | (simp at hg; omega)))) ?_
        refine jg_adr _ rfl _ rfl rfl (op_load ty3 (.base rfl)) ?_
        refine jg_adr _ rfl _ rfl rfl (op_bslice (rt := (rInt .i64)) Try.underlying57 ty3 z3 rfl (.cons (.raw (.base rfl) rfl) .nil) rfl rfl) ?_
        refine jg_os _ rfl (op_append [0, 1, 7] Try.underlying57 ty3 z3 rfl by3 (.base rfl) rfl (by (try simp); try omega) (.tv (.base rfl)) (by unfold maxLen; (try simp); try omega) (by (try simp); try omega) rfl (.cons rfl (.cons rfl (.cons rfl .nil))) rfl) ?_
        refine jg_adr _ rfl _ rfl rfl (op_assign (.base rfl)) ?_
        refine jg_nil ?_
        refine jn_keep [0, 1, 5, 7] [70] (.cons rfl (.cons rfl (.cons rfl (.cons rfl .nil)))) (.cons rfl .nil) ?_
        refine jn_blk (jn_seq ?_)
        refine j_region ?_
        refine jg_adr _ rfl _ rfl rfl (op_move (.base rfl)) ?_
        refine jg_adr _ rfl _ rfl rfl (op_add (.base rfl) (.base rfl) (w64 (by omega))) ?_
        refine jg_adr _ rfl _ rfl rfl (op_assign (.base rfl)) ?_
        refine jg_nil ?_
        refine jn_keep [0, 1, 5, 7] [70] (.cons rfl (.cons rfl (.cons rfl (.cons rfl .nil)))) (.cons rfl .nil) ?_
        exact jn_loop (fun a w hi => ⟨j + 1, (by omega), (by omega), Sub.inv ⟨(by repeat (first | exact SubS_nil | refine SubS_cons rfl (by first | rfl | exact congrArg (SV.own 70 (rInt .i64).n 0) (by rw [hc]; try simp; try omega)) ?_)), (by repeat (first | exact SubH_nil | refine SubH_cons rfl (by first | rfl | (refine congrArg (HB.mk (rInt .i64)) ?_; rw [hc]; try (simp only [List.drop_zero, List.take_of_length_le (Nat.le_refl _)]); first | done | rfl | (simp; done))) ?_))⟩ hi⟩)
      · simp at h11
        have hc := filt_f (p := fun y => decide (n < y)) (l := l) (k := j) (by omega) (by simp; omega)
        refine j_skip (jn_blk (jn_seq ?_))
        refine j_region ?_
        refine jg_adr _ rfl _ rfl rfl (op_move (.base rfl)) ?_
        refine jg_adr _ rfl _ rfl rfl (op_add (.base rfl) (.base rfl) (w64 (by omega))) ?_
        refine jg_adr _ rfl _ rfl rfl (op_assign (.base rfl)) ?_
        refine jg_nil ?_
        refine jn_keep [0, 1, 5, 7] [70] (.cons rfl (.cons rfl (.cons rfl (.cons rfl .nil)))) (.cons rfl .nil) ?_
        exact jn_loop (fun a w hi => ⟨j + 1, (by omega), (by omega), Sub.inv ⟨(by repeat (first | exact SubS_nil | refine SubS_cons rfl (by first | rfl | exact congrArg (SV.own 70 (rInt .i64).n 0) (by rw [hc]; try simp; try omega)) ?_)), (by repeat (first | exact SubH_nil | refine SubH_cons rfl (by first | rfl | (refine congrArg (HB.mk (rInt .i64)) ?_; rw [hc]; try (simp only [List.drop_zero, List.take_of_length_le (Nat.le_refl _)]); first | done | rfl | (simp; done))) ?_))⟩ hi⟩)
    · try simp at h9
      refine j_exit (je_seq (je_loop (je_blk (jn_seq (j_seq ?_)))))
      refine j_region ?_
      refine jg_adr _ rfl _ rfl rfl (op_move (.base rfl)) ?_
      refine jg_adr _ rfl _ rfl rfl (op_assign (.base rfl)) ?_
      refine jg_nil ?_
      refine jn_keep [4] [70] (.cons rfl .nil) (.cons rfl .nil) ?_
      refine jn_seq (j_ret ?_)
      refine jr_seal (rt := rInt .i64) 70 4 (dropH 70 _) rfl rfl (by simp) (dropH_sub 70 _) (dropH_no 70 _) ?_
      exact jr_fin1 Try.results81 (res_tmp rfl) rfl (congrArg (SV.tv (rSlice (rInt .i64))) (by have : j = l.length := (by omega); subst this; rw [List.drop_zero, List.take_of_length_le (Nat.le_refl _), List.take_of_length_le (Nat.le_refl l.length)]; rfl))



theorem bnd_succ {l : List Rg} {k : Nat} (hk : k < l.length) : bnd (l.take (k + 1)) = bnd (l.take k) ++ if hasD l[k] = true then [l[k].1, l[k].2] else [] := by
  rw [← List.take_append_getElem hk, bnd_append]; simp [bnd]
theorem bnd_len : ∀ (l : List Rg), (bnd l).length ≤ 2 * l.length
  | [] => by simp [bnd]
  | r :: l => by have := bnd_len l; rw [bnd, List.length_append, List.length_cons]; split <;> simp <;> omega
theorem cpt_take (zs : List Int) : (cptZ zs).take (Lib.compact zs).length = Lib.compact zs := List.take_left' rfl
theorem ins5_bound {l : List Int} {n : Int} {m : Nat} (h : l.length ≤ m) : (ins5 (uniqS l) n).length ≤ m + 1 := by
  rw [ins5_uniqS]; have := uniqS_len (l ++ [n]); simp at this; omega

theorem bounds5O (l : List Rg) (hlm : l.length ≤ 100000) : CtO Try.prog 62 [.tv (rSlice rDateRange) l] (rInt .i64) (uniqS (bnd l)) := by
  refine ctO_intro Try.func62 rfl rfl Try.ntmps62 rfl rfl ?_
  intro w0 ok0
  refine j_len 0 rfl (fun hl0 => ?_)
  refine j_seq ?_
  refine j_region ?_
  refine jg_adr _ rfl _ rfl rfl (op_assign (.base rfl)) ?_
  refine jg_nil ?_
  refine jn_keep [0] [] (.cons rfl .nil) .nil ?_
  refine jn_seq (j_seq ?_)
  refine j_region ?_
  refine jg_adr _ rfl _ rfl rfl (op_assign (.base rfl)) ?_
  refine jg_nil ?_
  refine jn_keep [0, 3] [] (.cons rfl (.cons rfl .nil)) .nil ?_
  refine jn_seq (j_seq (j_seq ?_))
  refine j_region ?_
  refine jg_adr _ rfl _ rfl rfl (op_move (.base rfl)) ?_
  refine jg_adr _ rfl _ rfl rfl (op_len Try.underlying85 (.base rfl)) ?_
  refine jg_adr _ rfl _ rfl rfl (op_move (.base rfl)) ?_
  refine jg_nil ?_
  refine jn_keep [3, 6, 7, 8] [] (.cons rfl (.cons rfl (.cons rfl (.cons rfl .nil)))) .nil ?_
  refine jn_seq (j_block ?_)
  refine j_vac 70 3 (rInt .i64) rfl rfl rfl ?_
  refine j_loopp (ι := Nat) (fun k => ⟨[(3, .own 70 (rInt .i64).n 0 (bnd (l.take k)).length), (6, .tv (rSlice rDateRange) l), (7, .raw (.int .i64 (l.length))), (8, .raw (.int .i64 ((k : Nat))))], [(70, ⟨rInt .i64, (bnd (l.take k))⟩)]⟩) (fun k => k ≤ l.length) (fun k => l.length - k) 0 (Nat.zero_le _) (fun a w hi => (Sub.inv ⟨(by repeat (first | exact SubS_nil | refine SubS_cons rfl (by first | rfl | (simp; done) | assumption) ?_)), (by repeat (first | exact SubH_nil | refine SubH_cons rfl (by first | rfl | (simp; done) | assumption) ?_))⟩ hi)) ?_
  rintro k hk
  have hbl := bnd_len (l.take k)
  have htl : (l.take k).length ≤ l.length := by simp; omega
  refine j_seq ?_
  refine j_region ?_
  refine jg_adr _ rfl _ rfl rfl (op_lss (.base rfl) (.base rfl)) ?_
  refine jg_nil ?_
  refine jn_keep [3, 6, 7, 8, 9] [70] (.cons rfl (.cons rfl (.cons rfl (.cons rfl (.cons rfl .nil))))) (.cons rfl .nil) ?_
  refine jn_seq (j_seq ?_)
  refine j_cond rfl (fun h3 => ?_) (fun h3 => ?_)
  · try simp at h3
    refine j_skip (jn_seq (j_seq (j_block (j_seq ?_))))
    refine j_region ?_
    refine jg_adr _ rfl _ rfl rfl (op_index Try.underlying85 ty48 (.base rfl) (.base rfl) rfl (List.getElem?_eq_getElem (by first | omega | (simp; done) | (simp; omega) | (simp at hg; omega)))) ?_
    refine jg_adr _ rfl _ rfl rfl (op_load ty48 (.base rfl)) ?_
    refine jg_os _ rfl (op_alloc _ z48 rfl rfl rfl) ?_
    refine jg_os _ rfl (op_ostore ty48 (.base rfl) rfl rfl (Lens.id _) (.tv (.base rfl))) ?_
    refine jg_nil ?_
    refine jn_keep [3, 5, 6, 7, 8] [5, 70] (.cons rfl (.cons rfl (.cons rfl (.cons rfl (.cons rfl .nil))))) (.cons rfl (.cons rfl .nil)) ?_
    refine jn_seq (j_seq ?_)
    refine j_region ?_
    refine jg_adr _ rfl _ rfl rfl (op_oload ty48 (.base rfl) rfl rfl (Lens.id _)) ?_
    refine jg_adr _ rfl _ rfl rfl (op_call (dhas_ok _) (.cons (.base rfl) .nil) rfl rfl) ?_
    refine jg_nil ?_
    refine jn_keep [3, 5, 6, 7, 8, 13] [5, 70] (.cons rfl (.cons rfl (.cons rfl (.cons rfl (.cons rfl (.cons rfl .nil)))))) (.cons rfl (.cons rfl .nil)) ?_
    refine jn_seq ?_
    refine j_cond rfl (fun h5 => ?_) (fun h5 => ?_)
    · have hs := bnd_succ (l := l) (k := k) (by omega)
      rw [if_pos h5] at hs
      refine j_region ?_
      refine jg_adr _ rfl _ rfl rfl (op_move (.base rfl)) ?_
      refine jg_adr _ rfl _ rfl rfl (op_ofield fld48_0 (.base rfl)) ?_
      refine jg_adr _ rfl _ rfl rfl (op_oload ty3 (.base rfl) rfl rfl ln48_0) ?_
      refine jg_adr _ rfl _ rfl rfl (op_ofield fld48_1 (.base rfl)) ?_
      refine jg_adr _ rfl _ rfl rfl (op_oload ty3 (.base rfl) rfl rfl ln48_1) ?_
      refine jg_adr _ rfl _ rfl rfl (op_bslice (rt := (rInt .i64)) Try.underlying57 ty3 z3 rfl (.cons (.raw (.base rfl) rfl) (.cons (.raw (.base rfl) rfl) .nil)) rfl rfl) ?_
      refine jg_os _ rfl (op_append [6, 7, 8] Try.underlying57 ty3 z3 rfl by3 (.base rfl) rfl (by (try simp); try omega) (.tv (.base rfl)) (by unfold maxLen; (try simp); try omega) (by (try simp); try omega) rfl (.cons rfl (.cons rfl (.cons rfl .nil))) rfl) ?_
      refine jg_adr _ rfl _ rfl rfl (op_assign (.base rfl)) ?_
      refine jg_nil ?_
      refine jn_keep [3, 6, 7, 8] [70] (.cons rfl (.cons rfl (.cons rfl (.cons rfl .nil)))) (.cons rfl .nil) ?_
      refine jn_blk (jn_seq ?_)
      refine j_region ?_
      refine jg_adr _ rfl _ rfl rfl (op_add (.base rfl) (.base rfl) (w64 (by omega))) ?_
      refine jg_adr _ rfl _ rfl rfl (op_move (.base rfl)) ?_
      refine jg_nil ?_
      refine jn_keep [3, 6, 7, 8] [70] (.cons rfl (.cons rfl (.cons rfl (.cons rfl .nil)))) (.cons rfl .nil) ?_
      exact jn_loop (fun a w hi => ⟨k + 1, (by omega), (by omega), Sub.inv ⟨(by repeat (first | exact SubS_nil | refine SubS_cons rfl (by first | rfl | exact congrArg (SV.own 70 (rInt .i64).n 0) (by rw [hs]; try simp; try omega)) ?_)), (by repeat (first | exact SubH_nil | refine SubH_cons rfl (by first | rfl | (refine congrArg (HB.mk (rInt .i64)) ?_; rw [hs]; try (simp only [List.drop_zero, List.take_of_length_le (Nat.le_refl _), List.append_nil]); first | done | rfl | (simp; done))) ?_))⟩ hi⟩)
    · have hs := bnd_succ (l := l) (k := k) (by omega)
      rw [if_neg (by rw [h5]; simp), List.append_nil] at hs
      refine j_skip (jn_blk (jn_seq ?_))
      refine j_region ?_
      refine jg_adr _ rfl _ rfl rfl (op_add (.base rfl) (.base rfl) (w64 (by omega))) ?_
      refine jg_adr _ rfl _ rfl rfl (op_move (.base rfl)) ?_
      refine jg_nil ?_
      refine jn_keep [3, 6, 7, 8] [70] (.cons rfl (.cons rfl (.cons rfl (.cons rfl .nil)))) (.cons rfl .nil) ?_
      exact jn_loop (fun a w hi => ⟨k + 1, (by omega), (by omega), Sub.inv ⟨(by repeat (first | exact SubS_nil | refine SubS_cons rfl (by first | rfl | exact congrArg (SV.own 70 (rInt .i64).n 0) (by rw [hs]; try simp; try omega)) ?_)), (by repeat (first | exact SubH_nil | refine SubH_cons rfl (by first | rfl | (refine congrArg (HB.mk (rInt .i64)) ?_; rw [hs]; try (simp only [List.drop_zero, List.take_of_length_le (Nat.le_refl _), List.append_nil]); first | done | rfl | (simp; done))) ?_))⟩ hi⟩)
  · try simp at h3
    refine j_exit (je_seq (je_loop (je_blk (jn_seq (j_seq ?_)))))
    have hkk : k = l.length := by omega
    subst hkk
    refine j_region ?_
    refine jg_adr _ rfl _ rfl rfl (op_move (.base rfl)) ?_
    refine jg_os _ rfl (op_turn0d turn_sort (.base rfl) rfl (by rfl) (by omega) (fun _ => rfl) rfl) ?_
    refine jg_nil ?_
    refine jn_keep [3] [70] (.cons rfl .nil) (.cons rfl .nil) ?_
    refine jn_seq (j_seq ?_)
    refine j_region ?_
    refine jg_adr _ rfl _ rfl rfl (op_move (.base rfl)) ?_
    refine jg_os _ rfl (op_turn1 turn_compact (.base rfl) rfl (by rw [List.length_mergeSort]) (by rw [List.length_mergeSort]; omega) rfl) ?_
    refine jg_adr _ rfl _ rfl rfl (op_assign (.base rfl)) ?_
    refine jg_nil ?_
    refine jn_keep [2] [70] (.cons rfl .nil) (.cons rfl .nil) ?_
    refine jn_seq (j_ret ?_)
    exact jr_finO Try.results62 rfl rfl (by rw [cptZ_len, Nat.zero_add]; exact Lib.compact_length_le _) (by simp only [List.drop_zero, List.take_of_length_le (Nat.le_refl _), cpt_take]; rfl)

theorem rbounds5_ok (l : List Rg) (hlm : l.length ≤ 100000) : Ct Try.prog 65 [.tv (rSlice rDateRange) l] (.tv (rSlice (rInt .i64)) (uniqS (bnd l))) := by
  refine ct_intro Try.func65 rfl rfl Try.ntmps65 rfl rfl ?_
  intro w0 ok0
  refine j_len 0 rfl (fun hl0 => ?_)
  refine j_seq ?_
  refine j_region ?_
  refine jg_adr _ rfl _ rfl rfl (op_assign (.base rfl)) ?_
  refine jg_nil ?_
  refine jn_keep [0] [] (.cons rfl .nil) .nil ?_
  refine jn_seq (j_seq ?_)
  refine j_region ?_
  refine jg_adr _ rfl _ rfl rfl (op_assign (.base rfl)) ?_
  refine jg_nil ?_
  refine jn_keep [0, 3] [] (.cons rfl (.cons rfl .nil)) .nil ?_
  refine jn_seq (j_seq (j_seq ?_))
  refine j_region ?_
  refine jg_adr _ rfl _ rfl rfl (op_assign (.base rfl)) ?_
  refine jg_nil ?_
  refine jn_keep [0, 3, 4] [] (.cons rfl (.cons rfl (.cons rfl .nil))) .nil ?_
  refine jn_seq (j_block ?_)
  refine j_nil 3 (rInt .i64) rfl ?_
  refine j_loopp (ι := Nat) (fun k => ⟨[(0, .tv (rSlice rDateRange) l), (3, .tv (rSlice (rInt .i64)) (uniqS (bnd (l.take k)))), (4, .raw (.int .i64 ((k : Nat))))], []⟩) (fun k => k ≤ l.length) (fun k => l.length - k) 0 (Nat.zero_le _) (fun a w hi => (Sub.inv ⟨(by repeat (first | exact SubS_nil | refine SubS_cons rfl (by first | rfl | (refine congrArg (SV.tv (rSlice (rInt .i64))) ?_; first | (exact uniqS_nil.symm; done))) ?_)), (by repeat (first | exact SubH_nil | refine SubH_cons rfl (by first | rfl | (simp; done) | assumption) ?_))⟩ hi)) ?_
  rintro k hk
  have hbl := bnd_len (l.take k)
  have htl : (l.take k).length ≤ l.length := by simp; omega
  have hul := uniqS_len (bnd (l.take k))
  refine j_seq (j_seq ?_)
  refine j_region ?_
  refine jg_adr _ rfl _ rfl rfl (op_move (.base rfl)) ?_
  refine jg_adr _ rfl _ rfl rfl (op_move (.base rfl)) ?_
  refine jg_adr _ rfl _ rfl rfl (op_len Try.underlying85 (.base rfl)) ?_
  refine jg_adr _ rfl _ rfl rfl (op_lss (.base rfl) (.base rfl)) ?_
  refine jg_nil ?_
  refine jn_keep [0, 3, 4, 8] [] (.cons rfl (.cons rfl (.cons rfl (.cons rfl .nil)))) .nil ?_
  refine jn_seq ?_
  refine j_cond rfl (fun h3 => ?_) (fun h3 => ?_)
  · try simp at h3
    refine j_skip (jn_seq (j_seq (j_block (j_seq ?_))))
    refine j_region ?_
    refine jg_adr _ rfl _ rfl rfl (op_move (.base rfl)) ?_
    refine jg_adr _ rfl _ rfl rfl (op_move (.base rfl)) ?_
    refine jg_adr _ rfl _ rfl rfl (op_index Try.underlying85 ty48 (.base rfl) (.base rfl) rfl (List.getElem?_eq_getElem (by first | omega | (simp; done) | (simp; omega) | (simp at hg; omega)))) ?_
    refine jg_adr _ rfl _ rfl rfl (op_load ty48 (.base rfl)) ?_
    refine jg_adr _ rfl _ rfl rfl (op_call (drne_ok _) (.cons (.base rfl) .nil) rfl rfl) ?_
    refine jg_nil ?_
    refine jn_keep [0, 3, 4, 15] [] (.cons rfl (.cons rfl (.cons rfl (.cons rfl .nil)))) .nil ?_
    refine jn_seq ?_
    refine j_cond rfl (fun h5 => ?_) (fun h5 => ?_)
    · have hs := bnd_succ (l := l) (k := k) (by omega)
      rw [if_pos h5] at hs
      have hi1 := ins5_bound (n := (l[k]'(by omega)).1) (Nat.le_refl (bnd (l.take k)).length)
      refine j_draw mo (by kernel_rfl) (
        AS.cons _ _ rfl (ga_adr rfl rfl rfl (op_move (.base rfl))) (
          AS.cons _ _ rfl (ga_adr rfl rfl rfl (op_move (.base rfl))) (
          AS.cons _ _ rfl (ga_adr rfl rfl rfl (op_move (.base rfl))) (
          AS.cons _ _ rfl (ga_adr rfl rfl rfl (op_index Try.underlying85 ty48 (.base rfl) (.base rfl) rfl (List.getElem?_eq_getElem (by first | omega | (simp; done) | (simp; omega) | (simp at hg; omega))))) (
          AS.cons _ _ rfl (ga_adr rfl rfl rfl (op_field fld48_0 ln48_0 (.base rfl))) (
          AS.cons _ _ rfl (ga_adr rfl rfl rfl (op_load ty3 (.base rfl))) (
          AS.cons _ _ rfl (ga_adr rfl rfl rfl (op_call (insert5_ok _ _ (by omega)) (.cons (.base rfl) (.cons (.base rfl) .nil)) rfl rfl)) (
          AS.cons _ _ rfl (ga_adr rfl rfl rfl (op_move (.base rfl))) (
          AS.cons _ _ rfl (ga_adr rfl rfl rfl (op_move (.base rfl))) (
          AS.cons _ _ rfl (ga_adr rfl rfl rfl (op_index Try.underlying85 ty48 (.base rfl) (.base rfl) rfl (List.getElem?_eq_getElem (by first | omega | (simp; done) | (simp; omega) | (simp at hg; omega))))) (
          AS.cons _ _ rfl (ga_adr rfl rfl rfl (op_field fld48_1 ln48_1 (.base rfl))) (
          AS.cons _ _ rfl (ga_adr rfl rfl rfl (op_load ty3 (.base rfl))) (
          AS.cons _ _ rfl (ga_adr rfl rfl rfl (op_call (insert5_ok _ _ (by omega)) (.cons (.base rfl) (.cons (.base rfl) .nil)) rfl rfl)) (
          AS.cons _ _ rfl (ga_adr rfl rfl rfl (op_assign (.base rfl))) (
          AS.nil))))))))))))))) ?_
      refine jn_keep [0, 3, 4] [] (.cons rfl (.cons rfl (.cons rfl .nil))) .nil ?_
      refine jn_blk (jn_seq ?_)
      refine j_region ?_
      refine jg_adr _ rfl _ rfl rfl (op_move (.base rfl)) ?_
      refine jg_adr _ rfl _ rfl rfl (op_add (.base rfl) (.base rfl) (w64 (by omega))) ?_
      refine jg_adr _ rfl _ rfl rfl (op_assign (.base rfl)) ?_
      refine jg_nil ?_
      refine jn_keep [0, 3, 4] [] (.cons rfl (.cons rfl (.cons rfl .nil))) .nil ?_
      exact jn_loop (fun a w hi => ⟨k + 1, (by omega), (by omega), Sub.inv ⟨(by repeat (first | exact SubS_nil | refine SubS_cons rfl (by first | rfl | (refine congrArg (SV.tv (rSlice (rInt .i64))) ?_; first | (rw [hs]; done) | (rw [ins5_uniqS, ins5_uniqS, hs]; simp; done))) ?_)), (by repeat (first | exact SubH_nil | refine SubH_cons rfl (by first | rfl | (simp; done) | assumption) ?_))⟩ hi⟩)
    · have hs := bnd_succ (l := l) (k := k) (by omega)
      rw [if_neg (by rw [h5]; simp), List.append_nil] at hs
      refine j_skip (jn_blk (jn_seq ?_))
      refine j_region ?_
      refine jg_adr _ rfl _ rfl rfl (op_move (.base rfl)) ?_
      refine jg_adr _ rfl _ rfl rfl (op_add (.base rfl) (.base rfl) (w64 (by omega))) ?_
      refine jg_adr _ rfl _ rfl rfl (op_assign (.base rfl)) ?_
      refine jg_nil ?_
      refine jn_keep [0, 3, 4] [] (.cons rfl (.cons rfl (.cons rfl .nil))) .nil ?_
      exact jn_loop (fun a w hi => ⟨k + 1, (by omega), (by omega), Sub.inv ⟨(by repeat (first | exact SubS_nil | refine SubS_cons rfl (by first | rfl | (refine congrArg (SV.tv (rSlice (rInt .i64))) ?_; first | (rw [hs]; done) | (rw [ins5_uniqS, ins5_uniqS, hs]; simp; done))) ?_)), (by repeat (first | exact SubH_nil | refine SubH_cons rfl (by first | rfl | (simp; done) | assumption) ?_))⟩ hi⟩)
  · try simp at h3
    refine j_exit (je_seq (je_loop (je_blk (jn_seq (j_seq ?_)))))
    have hkk : k = l.length := by omega
    subst hkk
    refine j_region ?_
    refine jg_adr _ rfl _ rfl rfl (op_move (.base rfl)) ?_
    refine jg_adr _ rfl _ rfl rfl (op_assign (.base rfl)) ?_
    refine jg_nil ?_
    refine jn_keep [2] [] (.cons rfl .nil) .nil ?_
    refine jn_seq (j_ret ?_)
    exact jr_fin1 Try.results65 (res_tmp rfl) rfl (congrArg (SV.tv (rSlice (rInt .i64))) (by rw [List.take_of_length_le (Nat.le_refl _)]))


def chgR (l : List Rg) : List Int := kept (uniqS (bnd l))
def chK (k : Nat) (l : List TRow) : List Rg := (l.take k).map (·.1) ++ List.replicate (l.length - k) (0, 0)
theorem chK_len {k : Nat} {l : List TRow} (h : k ≤ l.length) : (chK k l).length = l.length := by simp [chK]; omega
theorem chK_set {k : Nat} {l : List TRow} (h : k < l.length) : (chK k l).set (0 + k) l[k].1 = chK (k + 1) l := by
  unfold chK
  obtain ⟨d, hd⟩ : ∃ d, l.length - k = d + 1 := ⟨l.length - k - 1, by omega⟩
  rw [Nat.zero_add, List.set_append_right _ _ (by simp; omega), List.take_succ_eq_append_getElem h, List.map_append, List.append_assoc]
  rw [show k - (List.map (·.1) (l.take k)).length = 0 by simp; omega, hd, show l.length - (k + 1) = d by omega]
  rfl
theorem chK_n (l : List TRow) : chK l.length l = l.map (·.1) := by simp [chK]
theorem map_succ {k : Nat} {l : List TRow} (h : k < l.length) : (l.take (k + 1)).map (·.1) = (l.take k).map (·.1) ++ [l[k].1] := by rw [List.take_succ_eq_append_getElem h, List.map_append]; rfl

theorem within_ok (l : List Int) (hlm : l.length ≤ 100000) : Ct Try.prog 64 [.tv (rSlice (rInt .i64)) l] (.tv (rSlice (rInt .i64)) (kept l)) := by
  refine ct_intro Try.func64 rfl rfl Try.ntmps64 rfl rfl ?_
  intro w0 ok0
  refine j_len 0 rfl (fun hl0 => ?_)
  refine j_seq ?_
  refine j_region ?_
  refine jg_adr _ rfl _ rfl rfl (op_assign (.base rfl)) ?_
  refine jg_nil ?_
  refine jn_keep [0] [] (.cons rfl .nil) .nil ?_
  refine jn_seq (j_seq ?_)
  refine j_region ?_
  refine jg_adr _ rfl _ rfl rfl (op_assign (.base rfl)) ?_
  refine jg_nil ?_
  refine jn_keep [0, 3] [] (.cons rfl (.cons rfl .nil)) .nil ?_
  refine jn_seq (j_seq (j_seq ?_))
  refine j_region ?_
  refine jg_adr _ rfl _ rfl rfl (op_assign (.base rfl)) ?_
  refine jg_nil ?_
  refine jn_keep [0, 3, 4] [] (.cons rfl (.cons rfl (.cons rfl .nil))) .nil ?_
  refine jn_seq (j_block ?_)
  refine j_vac 70 3 (rInt .i64) rfl rfl rfl ?_
  refine j_loopp (ι := Nat) (fun k => ⟨[(0, .tv (rSlice (rInt .i64)) l), (3, .own 70 (rInt .i64).n 0 ((l.take k).filter (fun x => !outD x)).length), (4, .raw (.int .i64 ((k : Nat))))], [(70, ⟨rInt .i64, ((l.take k).filter (fun x => !outD x))⟩)]⟩) (fun k => k ≤ l.length) (fun k => l.length - k) 0 (Nat.zero_le _) (fun a w hi => (Sub.inv ⟨(by repeat (first | exact SubS_nil | refine SubS_cons rfl (by first | rfl | (simp; done) | assumption) ?_)), (by repeat (first | exact SubH_nil | refine SubH_cons rfl (by first | rfl | (simp; done) | assumption) ?_))⟩ hi)) ?_
  rintro k hk
  have hfl := filt_len (p := fun x => !outD x) (l := l) (k := k)
  refine j_seq (j_seq ?_)
  refine j_region ?_
  refine jg_adr _ rfl _ rfl rfl (op_move (.base rfl)) ?_
  refine jg_adr _ rfl _ rfl rfl (op_move (.base rfl)) ?_
  refine jg_adr _ rfl _ rfl rfl (op_len Try.underlying57 (.base rfl)) ?_
  refine jg_adr _ rfl _ rfl rfl (op_lss (.base rfl) (.base rfl)) ?_
  refine jg_nil ?_
  refine jn_keep [0, 3, 4, 8] [70] (.cons rfl (.cons rfl (.cons rfl (.cons rfl .nil)))) (.cons rfl .nil) ?_
  refine jn_seq ?_
  refine j_cond rfl (fun h3 => ?_) (fun h3 => ?_)
  · simp at h3
    refine j_skip (jn_seq (j_seq (j_block (j_seq ?_))))
    refine j_region ?_
    refine jg_adr _ rfl _ rfl rfl (op_move (.base rfl)) ?_
    refine jg_adr _ rfl _ rfl rfl (op_move (.base rfl)) ?_
    refine jg_adr _ rfl _ rfl rfl (op_index Try.underlying57 ty3 (.base rfl) (.base rfl) rfl (List.getElem?_eq_getElem (by first | omega | (simp; done) | (simp; omega) | (simp at hg; omega)))) ?_
    refine jg_adr _ rfl _ rfl rfl (op_load ty3 (.base rfl)) ?_
    refine jg_adr _ rfl _ rfl rfl (op_geq (.base rfl) (.base rfl)) ?_
    refine jg_adr _ rfl _ rfl rfl (op_move (.base rfl)) ?_
    refine jg_gd _ _ _ _ _ _ rfl rfl rfl rfl rfl (fun hg => op_move (.base rfl)) ?_
    refine jg_gd _ _ _ _ _ _ rfl rfl rfl rfl rfl (fun hg => op_move (.base rfl)) ?_
    refine jg_gd _ _ _ _ _ _ rfl rfl rfl rfl rfl (fun hg => op_index Try.underlying57 ty3 (.gd rfl hg) (.gd rfl hg) rfl (getD_some (z := (0 : Int)) (by first | omega | (simp; done) | (simp; omega) | (simp at hg; omega) | (simp at hg; simp; omega)))) ?_
    refine jg_gd _ _ _ _ _ _ rfl rfl rfl rfl rfl (fun hg => op_load ty3 (.gd rfl hg)) ?_
    refine jg_gd _ _ _ _ _ _ rfl rfl rfl rfl rfl (fun hg => op_leq (.gd rfl hg) (.base rfl)) ?_
    refine jg_adr _ rfl _ rfl rfl (op_pick_and (.base rfl) (.base rfl) rfl (by intro h; first | (rw [h]; rfl) | (rw [hg, h]; rfl) | (rw [h, hg]; rfl) | simp_all)) ?_
    refine jg_nil ?_
    refine jn_keep [0, 3, 4, 22] [70] (.cons rfl (.cons rfl (.cons rfl (.cons rfl .nil)))) (.cons rfl .nil) ?_
    refine jn_seq ?_
    refine j_cond rfl (fun h5 => ?_) (fun h5 => ?_)
    · have h5' : (!outD l[k]) = true := by simp [List.getElem?_eq_getElem h3] at h5; simp [outD]; omega
      have hc := filt_t (p := fun x => !outD x) h3 h5'
      refine j_region ?_
      refine jg_adr _ rfl _ rfl rfl (op_move (.base rfl)) ?_
      refine jg_adr _ rfl _ rfl rfl (op_move (.base rfl)) ?_
      refine jg_adr _ rfl _ rfl rfl (op_move (.base rfl)) ?_
      refine jg_adr _ rfl _ rfl rfl (op_index Try.underlying57 ty3 (.base rfl) (.base rfl) rfl (List.getElem?_eq_getElem (by first | omega | (simp; done) | (simp; omega) | (simp at hg; omega)))) ?_
      refine jg_adr _ rfl _ rfl rfl (op_load ty3 (.base rfl)) ?_
      refine jg_adr _ rfl _ rfl rfl (op_bslice (rt := (rInt .i64)) Try.underlying57 ty3 z3 rfl (.cons (.raw (.base rfl) rfl) .nil) rfl rfl) ?_
      refine jg_os _ rfl (op_append [0, 4] Try.underlying57 ty3 z3 rfl by3 (.base rfl) rfl (by (try simp); try omega) (.tv (.base rfl)) (by unfold maxLen; (try simp); try omega) (by (try simp); try omega) rfl (.cons rfl (.cons rfl .nil)) rfl) ?_
      refine jg_adr _ rfl _ rfl rfl (op_assign (.base rfl)) ?_
      refine jg_nil ?_
      refine jn_keep [0, 3, 4] [70] (.cons rfl (.cons rfl (.cons rfl .nil))) (.cons rfl .nil) ?_
      refine jn_blk (jn_seq ?_)
      refine j_region ?_
      refine jg_adr _ rfl _ rfl rfl (op_move (.base rfl)) ?_
      refine jg_adr _ rfl _ rfl rfl (op_add (.base rfl) (.base rfl) (w64 (by omega))) ?_
      refine jg_adr _ rfl _ rfl rfl (op_assign (.base rfl)) ?_
      refine jg_nil ?_
      refine jn_keep [0, 3, 4] [70] (.cons rfl (.cons rfl (.cons rfl .nil))) (.cons rfl .nil) ?_
      exact jn_loop (fun a w hi => ⟨k + 1, (by omega), (by omega), Sub.inv ⟨(by repeat (first | exact SubS_nil | refine SubS_cons rfl (by first | rfl | exact congrArg (SV.own 70 (rInt .i64).n 0) (by rw [hc]; try simp; try omega)) ?_)), (by repeat (first | exact SubH_nil | refine SubH_cons rfl (by first | rfl | (refine congrArg (HB.mk (rInt .i64)) ?_; rw [hc]; try (simp only [List.drop_zero, List.take_of_length_le (Nat.le_refl _), List.append_nil]); first | done | rfl | (simp; done))) ?_))⟩ hi⟩)
    · have h5' : (!outD l[k]) = false := by simp [List.getElem?_eq_getElem h3] at h5; simp [outD]; omega
      have hc := filt_f (p := fun x => !outD x) h3 h5'
      refine j_skip (jn_blk (jn_seq ?_))
      refine j_region ?_
      refine jg_adr _ rfl _ rfl rfl (op_move (.base rfl)) ?_
      refine jg_adr _ rfl _ rfl rfl (op_add (.base rfl) (.base rfl) (w64 (by omega))) ?_
      refine jg_adr _ rfl _ rfl rfl (op_assign (.base rfl)) ?_
      refine jg_nil ?_
      refine jn_keep [0, 3, 4] [70] (.cons rfl (.cons rfl (.cons rfl .nil))) (.cons rfl .nil) ?_
      exact jn_loop (fun a w hi => ⟨k + 1, (by omega), (by omega), Sub.inv ⟨(by repeat (first | exact SubS_nil | refine SubS_cons rfl (by first | rfl | exact congrArg (SV.own 70 (rInt .i64).n 0) (by rw [hc]; try simp; try omega)) ?_)), (by repeat (first | exact SubH_nil | refine SubH_cons rfl (by first | rfl | (refine congrArg (HB.mk (rInt .i64)) ?_; rw [hc]; try (simp only [List.drop_zero, List.take_of_length_le (Nat.le_refl _), List.append_nil]); first | done | rfl | (simp; done))) ?_))⟩ hi⟩)
  · simp at h3
    refine j_exit (je_seq (je_loop (je_blk (jn_seq (j_seq ?_)))))
    refine j_region ?_
    refine jg_adr _ rfl _ rfl rfl (op_move (.base rfl)) ?_
    refine jg_adr _ rfl _ rfl rfl (op_assign (.base rfl)) ?_
    refine jg_nil ?_
    refine jn_keep [2] [70] (.cons rfl .nil) (.cons rfl .nil) ?_
    refine jn_seq (j_ret ?_)
    refine jr_seal (rt := rInt .i64) 70 2 (dropH 70 _) rfl rfl (by simp) (dropH_sub 70 _) (dropH_no 70 _) ?_
    exact jr_fin1 Try.results64 (res_tmp rfl) rfl (congrArg (SV.tv (rSlice (rInt .i64))) (by rw [List.drop_zero, List.take_of_length_le (Nat.le_refl _), List.take_of_length_le (by omega)]; rfl))

theorem rchg_ok (t : TTable) (hl : t.2.2.2.length ≤ 100) : Ct Try.prog 30 [.tv rTable t] (.tv (rSlice (rInt .i64)) (chgR (t.2.2.2.map (·.1)))) := by
  refine ct_intro Try.func30 rfl rfl Try.ntmps30 rfl rfl ?_
  intro w0 ok0
  refine j_seq ?_
  refine j_region ?_
  refine jg_os _ rfl (op_box (.tv (.base rfl)) rfl rfl rfl) ?_
  refine jg_adr _ rfl _ rfl rfl (op_assign (.base rfl)) ?_
  refine jg_nil ?_
  refine jn_keep [1] [1] (.cons rfl .nil) (.cons rfl .nil) ?_
  refine jn_seq (j_seq ?_)
  refine j_region ?_
  refine jg_adr _ rfl _ rfl rfl (op_assign (.base rfl)) ?_
  refine jg_nil ?_
  refine jn_keep [1, 3] [1] (.cons rfl (.cons rfl .nil)) (.cons rfl .nil) ?_
  refine jn_seq (j_seq (j_seq ?_))
  refine j_region ?_
  refine jg_adr _ rfl _ rfl rfl (op_assign (.base rfl)) ?_
  refine jg_nil ?_
  refine jn_keep [1, 3, 4] [1] (.cons rfl (.cons rfl (.cons rfl .nil))) (.cons rfl .nil) ?_
  refine jn_seq (j_block ?_)
  refine j_vac 70 3 rDateRange rfl rfl rfl ?_
  refine j_loopp (ι := Nat) (fun k => ⟨[(1, .optr 1 rTable.n 0 0), (3, .own 70 rDateRange.n 0 ((t.2.2.2.take k).map (·.1)).length), (4, .raw (.int .i64 ((k : Nat))))], [(1, ⟨rTable, [t]⟩), (70, ⟨rDateRange, ((t.2.2.2.take k).map (·.1))⟩)]⟩) (fun k => k ≤ t.2.2.2.length) (fun k => t.2.2.2.length - k) 0 (Nat.zero_le _) (fun a w hi => (Sub.inv ⟨(by repeat (first | exact SubS_nil | refine SubS_cons rfl (by first | rfl | (simp; done) | assumption) ?_)), (by repeat (first | exact SubH_nil | refine SubH_cons rfl (by first | rfl | (simp; done) | assumption) ?_))⟩ hi)) ?_
  rintro k hk
  have hml : ((t.2.2.2.take k).map (·.1)).length ≤ t.2.2.2.length := by simp; omega
  refine j_seq (j_seq ?_)
  refine j_region ?_
  refine jg_adr _ rfl _ rfl rfl (op_move (.base rfl)) ?_
  refine jg_adr _ rfl _ rfl rfl (op_ofield fld26_3 (.base rfl)) ?_
  refine jg_adr _ rfl _ rfl rfl (op_oload ty24 (.base rfl) rfl rfl ln26_3) ?_
  refine jg_adr _ rfl _ rfl rfl (op_len Try.underlying24 (.base rfl)) ?_
  refine jg_adr _ rfl _ rfl rfl (op_lss (.base rfl) (.base rfl)) ?_
  refine jg_nil ?_
  refine jn_keep [1, 3, 4, 9] [1, 70] (.cons rfl (.cons rfl (.cons rfl (.cons rfl .nil)))) (.cons rfl (.cons rfl .nil)) ?_
  refine jn_seq ?_
  refine j_cond rfl (fun h3 => ?_) (fun h3 => ?_)
  · simp at h3
    have hs := map_succ h3
    refine j_skip (jn_seq (j_seq (j_block ?_)))
    refine j_region ?_
    refine jg_adr _ rfl _ rfl rfl (op_move (.base rfl)) ?_
    refine jg_adr _ rfl _ rfl rfl (op_ofield fld26_3 (.base rfl)) ?_
    refine jg_adr _ rfl _ rfl rfl (op_oload ty24 (.base rfl) rfl rfl ln26_3) ?_
    refine jg_adr _ rfl _ rfl rfl (op_move (.base rfl)) ?_
    refine jg_adr _ rfl _ rfl rfl (op_index Try.underlying24 ty50 (.base rfl) (.base rfl) rfl (List.getElem?_eq_getElem (by first | omega | (simp; done) | (simp; omega) | (simp at hg; omega)))) ?_
    refine jg_adr _ rfl _ rfl rfl (op_field fld50_0 ln50_0 (.base rfl)) ?_
    refine jg_adr _ rfl _ rfl rfl (op_load ty48 (.base rfl)) ?_
    refine jg_adr _ rfl _ rfl rfl (op_bslice (rt := rDateRange) Try.underlying85 ty48 z48 rfl (.cons (.tv (.base rfl)) .nil) rfl rfl) ?_
    refine jg_os _ rfl (op_append [1, 4] Try.underlying85 ty48 z48 rfl by48 (.base rfl) rfl (by (try simp); try omega) (.tv (.base rfl)) (by unfold maxLen; (try simp); try omega) (by (try simp); try omega) rfl (.cons rfl (.cons rfl .nil)) rfl) ?_
    refine jg_adr _ rfl _ rfl rfl (op_assign (.base rfl)) ?_
    refine jg_nil ?_
    refine jn_keep [1, 3, 4] [1, 70] (.cons rfl (.cons rfl (.cons rfl .nil))) (.cons rfl (.cons rfl .nil)) ?_
    refine jn_blk (jn_seq ?_)
    refine j_region ?_
    refine jg_adr _ rfl _ rfl rfl (op_move (.base rfl)) ?_
    refine jg_adr _ rfl _ rfl rfl (op_add (.base rfl) (.base rfl) (w64 (by omega))) ?_
    refine jg_adr _ rfl _ rfl rfl (op_assign (.base rfl)) ?_
    refine jg_nil ?_
    refine jn_keep [1, 3, 4] [1, 70] (.cons rfl (.cons rfl (.cons rfl .nil))) (.cons rfl (.cons rfl .nil)) ?_
    exact jn_loop (fun a w hi => ⟨k + 1, (by omega), (by omega), Sub.inv ⟨(by repeat (first | exact SubS_nil | refine SubS_cons rfl (by first | rfl | exact congrArg (SV.own 70 rDateRange.n 0) (by rw [hs]; try simp; try omega)) ?_)), (by repeat (first | exact SubH_nil | refine SubH_cons rfl (by first | rfl | (refine congrArg (HB.mk rDateRange) ?_; rw [hs]; try (simp only [List.drop_zero, List.take_of_length_le (Nat.le_refl _), List.append_nil]); first | done | rfl | (simp; done))) ?_))⟩ hi⟩)
  · simp at h3
    refine j_exit (je_seq (je_loop (je_blk (jn_seq (j_seq ?_)))))
    refine j_seal (rt := rDateRange) 70 3 (dropH 70 _) rfl rfl (by simp) (dropH_sub 70 _) (dropH_no 70 _) ?_
    rw [List.drop_zero, List.take_of_length_le (Nat.le_refl _), List.take_of_length_le (show t.2.2.2.length ≤ k by omega)]
    refine j_region ?_
    refine jg_adr _ rfl _ rfl rfl (op_move (.base rfl)) ?_
    refine jg_adr _ rfl _ rfl rfl (op_call (rbounds5_ok _ (by simp; omega)) (.cons (.base rfl) .nil) rfl rfl) ?_
    refine jg_adr _ rfl _ rfl rfl (op_call (within_ok _ (by have h1 := uniqS_len (bnd (t.2.2.2.map (·.1))); have h2 := bnd_len (t.2.2.2.map (·.1)); simp only [List.length_map] at h2; omega)) (.cons (.base rfl) .nil) rfl rfl) ?_
    refine jg_adr _ rfl _ rfl rfl (op_assign (.base rfl)) ?_
    refine jg_nil ?_
    refine jn_keep [2] [] (.cons rfl .nil) .nil ?_
    refine jn_seq (j_ret ?_)
    exact jr_fin1 Try.results30 (res_tmp rfl) rfl rfl

theorem chg_ok (t : TTable) (hl : t.2.2.2.length ≤ 100) : Ct Try.prog 29 [.tv rTable t] (.tv (rSlice (rInt .i64)) (chgR (t.2.2.2.map (·.1)))) := by
  refine ct_intro Try.func29 rfl rfl Try.ntmps29 rfl rfl ?_
  intro w0 ok0
  refine j_seq ?_
  refine j_region ?_
  refine jg_os _ rfl (op_box (.tv (.base rfl)) rfl rfl rfl) ?_
  refine jg_adr _ rfl _ rfl rfl (op_assign (.base rfl)) ?_
  refine jg_nil ?_
  refine jn_keep [1] [1] (.cons rfl .nil) (.cons rfl .nil) ?_
  refine jn_seq (j_seq ?_)
  refine j_region ?_
  refine jg_adr _ rfl _ rfl rfl (op_ofield fld26_3 (.base rfl)) ?_
  refine jg_adr _ rfl _ rfl rfl (op_oload ty24 (.base rfl) rfl rfl ln26_3) ?_
  refine jg_adr _ rfl _ rfl rfl (op_len Try.underlying24 (.base rfl)) ?_
  refine jg_os _ rfl (op_make Try.underlying85 ty48 z48 rfl by48 (.base rfl) (.base rfl) (by omega) (by unfold maxLen; omega) rfl rfl rfl) ?_
  refine jg_adr _ rfl _ rfl rfl (op_assign (.base rfl)) ?_
  refine jg_nil ?_
  refine jn_keep [1, 3] [1, 9] (.cons rfl (.cons rfl .nil)) (.cons rfl (.cons rfl .nil)) ?_
  refine jn_seq (j_seq (j_seq ?_))
  refine j_region ?_
  refine jg_adr _ rfl _ rfl rfl (op_ofield fld26_3 (.base rfl)) ?_
  refine jg_adr _ rfl _ rfl rfl (op_oload ty24 (.base rfl) rfl rfl ln26_3) ?_
  refine jg_adr _ rfl _ rfl rfl (op_len Try.underlying24 (.base rfl)) ?_
  refine jg_adr _ rfl _ rfl rfl (op_move (.base rfl)) ?_
  refine jg_nil ?_
  refine jn_keep [3, 11, 12, 13] [9] (.cons rfl (.cons rfl (.cons rfl (.cons rfl .nil)))) (.cons rfl .nil) ?_
  refine jn_seq (j_block ?_)
  refine j_loopp (ι := Nat) (fun k => ⟨[(3, .own 9 rDateRange.n 0 t.2.2.2.length), (11, .tv (rSlice rRow) t.2.2.2), (12, .raw (.int .i64 (t.2.2.2.length))), (13, .raw (.int .i64 ((k : Nat))))], [(9, ⟨rDateRange, (chK k t.2.2.2)⟩)]⟩) (fun k => k ≤ t.2.2.2.length) (fun k => t.2.2.2.length - k) 0 (Nat.zero_le _) (fun a w hi => (Sub.inv ⟨(by repeat (first | exact SubS_nil | refine SubS_cons rfl (by first | rfl | exact congrArg (SV.own 9 rDateRange.n 0) (by simp)) ?_)), (by repeat (first | exact SubH_nil | refine SubH_cons rfl (by first | rfl | (refine congrArg (HB.mk rDateRange) ?_; simp [chK]; done)) ?_))⟩ hi)) ?_
  rintro k hk
  have hcl := chK_len hk
  refine j_seq ?_
  refine j_region ?_
  refine jg_adr _ rfl _ rfl rfl (op_lss (.base rfl) (.base rfl)) ?_
  refine jg_nil ?_
  refine jn_keep [3, 11, 12, 13, 14] [9] (.cons rfl (.cons rfl (.cons rfl (.cons rfl (.cons rfl .nil))))) (.cons rfl .nil) ?_
  refine jn_seq (j_seq ?_)
  refine j_cond rfl (fun h3 => ?_) (fun h3 => ?_)
  · simp at h3
    refine j_skip (jn_seq (j_seq (j_block (j_seq ?_))))
    refine j_region ?_
    refine jg_adr _ rfl _ rfl rfl (op_move (.base rfl)) ?_
    refine jg_adr _ rfl _ rfl rfl (op_index Try.underlying24 ty50 (.base rfl) (.base rfl) rfl (List.getElem?_eq_getElem (by first | omega | (simp; done) | (simp; omega) | (simp at hg; omega)))) ?_
    refine jg_adr _ rfl _ rfl rfl (op_load ty50 (.base rfl)) ?_
    refine jg_os _ rfl (op_alloc _ z50 rfl rfl rfl) ?_
    refine jg_adr _ rfl _ rfl rfl (op_assign (.base rfl)) ?_
    refine jg_os _ rfl (op_ostore ty50 (.base rfl) rfl rfl (Lens.id _) (.tv (.base rfl))) ?_
    refine jg_nil ?_
    refine jn_keep [3, 4, 5, 11, 12, 13] [5, 9] (.cons rfl (.cons rfl (.cons rfl (.cons rfl (.cons rfl (.cons rfl .nil)))))) (.cons rfl (.cons rfl .nil)) ?_
    refine jn_seq ?_
    refine j_region ?_
    refine jg_adr _ rfl _ rfl rfl (op_move (.base rfl)) ?_
    refine jg_adr _ rfl _ rfl rfl (op_move (.base rfl)) ?_
    refine jg_adr _ rfl _ rfl rfl (op_ofield fld50_0 (.base rfl)) ?_
    refine jg_adr _ rfl _ rfl rfl (op_oload ty48 (.base rfl) rfl rfl ln50_0) ?_
    refine jg_adr _ rfl _ rfl rfl (op_oindex Try.underlying85 ty48 (.base rfl) (.base rfl) rfl (by first | omega | (simp; done) | (simp; omega))) ?_
    refine jg_os _ rfl (op_ostore ty48 (.base rfl) rfl (List.getElem?_eq_getElem (by first | omega | (simp; done) | (simp; omega))) (Lens.id _) (.tv (.base rfl))) ?_
    refine jg_nil ?_
    refine jn_keep [3, 11, 12, 13] [9] (.cons rfl (.cons rfl (.cons rfl (.cons rfl .nil)))) (.cons rfl .nil) ?_
    refine jn_blk (jn_seq ?_)
    refine j_region ?_
    refine jg_adr _ rfl _ rfl rfl (op_add (.base rfl) (.base rfl) (w64 (by omega))) ?_
    refine jg_adr _ rfl _ rfl rfl (op_move (.base rfl)) ?_
    refine jg_nil ?_
    refine jn_keep [3, 11, 12, 13] [9] (.cons rfl (.cons rfl (.cons rfl (.cons rfl .nil)))) (.cons rfl .nil) ?_
    exact jn_loop (fun a w hi => ⟨k + 1, (by omega), (by omega), Sub.inv ⟨(by repeat (first | exact SubS_nil | refine SubS_cons rfl (by first | rfl | (simp; done) | assumption) ?_)), (by repeat (first | exact SubH_nil | refine SubH_cons rfl (by first | rfl | exact congrArg (HB.mk rDateRange) (chK_set h3)) ?_))⟩ hi⟩)
  · simp at h3
    refine j_exit (je_seq (je_loop (je_blk (jn_seq (j_seq ?_)))))
    refine j_seal (rt := rDateRange) 9 3 (dropH 9 _) rfl rfl (by rw [hcl]; omega) (dropH_sub 9 _) (dropH_no 9 _) ?_
    obtain rfl : k = t.2.2.2.length := by omega
    rw [List.drop_zero, List.take_of_length_le (by omega), chK_n]
    refine j_region ?_
    refine jg_adr _ rfl _ rfl rfl (op_move (.base rfl)) ?_
    refine jg_os _ rfl (op_callO (bounds5O _ (by simp; omega)) (.cons (.base rfl) .nil) rfl rfl rfl rfl) ?_
    refine jg_os _ rfl (op_turnF1 delF (.base rfl) (.base rfl) rfl rfl (by have h1 := uniqS_len (bnd (t.2.2.2.map (·.1))); have h2 := bnd_len (t.2.2.2.map (·.1)); simp only [List.length_map] at h2; omega) rfl) ?_
    refine jg_adr _ rfl _ rfl rfl (op_assign (.base rfl)) ?_
    refine jg_nil ?_
    refine jn_keep [2] [25] (.cons rfl .nil) (.cons rfl .nil) ?_
    refine jn_seq (j_ret ?_)
    refine jr_seal (rt := rInt .i64) 25 2 (dropH 25 _) rfl rfl (by simp) (dropH_sub 25 _) (dropH_no 25 _) ?_
    exact jr_fin1 Try.results29 (res_tmp rfl) rfl (congrArg (SV.tv (rSlice (rInt .i64))) (by rw [List.drop_zero]; exact List.take_left' rfl))

theorem law_lookup (t : TTable) (date key : Int) : Ct Try.prog 9 [.tv rTable t, .raw (.int .i64 date), .raw (.int .i64 key)] (.raw (.bool true)) := by
  refine ct_intro Try.func9 rfl rfl Try.ntmps9 rfl rfl ?_
  intro w0 ok0
  refine j_seq ?_
  refine j_region ?_
  refine jg_os _ rfl (op_box (.tv (.base rfl)) rfl rfl rfl) ?_
  refine jg_adr _ rfl _ rfl rfl (op_assign (.base rfl)) ?_
  refine jg_nil ?_
  refine jn_keep [1, 2, 3] [3] (.cons rfl (.cons rfl (.cons rfl .nil))) (.cons rfl .nil) ?_
  refine jn_seq (j_seq (j_seq ?_))
  refine j_region ?_
  refine jg_adr _ rfl _ rfl rfl (op_oload ty26 (.base rfl) rfl rfl (Lens.id _)) ?_
  refine jg_adr _ rfl _ rfl rfl (op_call (few_ok _ _) (.cons (.base rfl) (.cons (.base rfl) .nil)) rfl rfl) ?_
  refine jg_adr _ rfl _ rfl rfl (op_not (.base rfl)) ?_
  refine jg_nil ?_
  refine jn_keep [1, 2, 3, 13] [3] (.cons rfl (.cons rfl (.cons rfl (.cons rfl .nil)))) (.cons rfl .nil) ?_
  refine jn_seq ?_
  refine j_cond rfl (fun h1 => ?_) (fun h1 => ?_)
  · try simp at h1
    refine j_seq ?_
    refine j_region ?_
    refine jg_adr _ rfl _ rfl rfl (op_call awake_ok .nil rfl rfl) ?_
    refine jg_adr _ rfl _ rfl rfl (op_assign (.base rfl)) ?_
    refine jg_nil ?_
    refine jn_keep [6] [] (.cons rfl .nil) .nil ?_
    refine jn_seq (j_ret (jr_seq ?_))
    exact jr_fin1 Try.results9 (res_tmp rfl) rfl (rb (by first | rfl | (simp; done)))
  · have k1 : t.2.2.2.length ≤ 80 := by simp at h1; omega
    refine j_skip (jn_seq (j_seq ?_))
    refine j_region ?_
    refine jg_adr _ rfl _ rfl rfl (op_oload ty26 (.base rfl) rfl rfl (Lens.id _)) ?_
    refine jg_adr _ rfl _ rfl rfl (op_move (.base rfl)) ?_
    refine jg_adr _ rfl _ rfl rfl (op_move (.base rfl)) ?_
    refine jg_adr _ rfl _ rfl rfl (op_call (lookup_ok _ _ _) (.cons (.base rfl) (.cons (.base rfl) (.cons (.base rfl) .nil))) rfl rfl) ?_
    refine jg_adr _ rfl _ rfl rfl (op_move (.base rfl)) ?_
    refine jg_adr _ rfl _ rfl rfl (op_ext20 (.base rfl)) ?_
    refine jg_adr _ rfl _ rfl rfl (op_ext21 (.base rfl)) ?_
    refine jg_adr _ rfl _ rfl rfl (op_assign (.base rfl)) ?_
    refine jg_adr _ rfl _ rfl rfl (op_assign (.base rfl)) ?_
    refine jg_nil ?_
    refine jn_keep [1, 2, 3, 7, 8] [3] (.cons rfl (.cons rfl (.cons rfl (.cons rfl (.cons rfl .nil))))) (.cons rfl .nil) ?_
    refine jn_seq (j_seq ?_)
    refine j_region ?_
    refine jg_adr _ rfl _ rfl rfl (op_oload ty26 (.base rfl) rfl rfl (Lens.id _)) ?_
    refine jg_adr _ rfl _ rfl rfl (op_move (.base rfl)) ?_
    refine jg_adr _ rfl _ rfl rfl (op_move (.base rfl)) ?_
    refine jg_adr _ rfl _ rfl rfl (op_call (rlookup_ok _ _ _ (by omega)) (.cons (.base rfl) (.cons (.base rfl) (.cons (.base rfl) .nil))) rfl rfl) ?_
    refine jg_adr _ rfl _ rfl rfl (op_move (.base rfl)) ?_
    refine jg_adr _ rfl _ rfl rfl (op_ext20 (.base rfl)) ?_
    refine jg_adr _ rfl _ rfl rfl (op_ext21 (.base rfl)) ?_
    refine jg_adr _ rfl _ rfl rfl (op_assign (.base rfl)) ?_
    refine jg_adr _ rfl _ rfl rfl (op_assign (.base rfl)) ?_
    refine jg_nil ?_
    refine jn_keep [3, 7, 8, 9, 10] [3] (.cons rfl (.cons rfl (.cons rfl (.cons rfl (.cons rfl .nil))))) (.cons rfl .nil) ?_
    refine jn_seq (j_seq ?_)
    refine j_draw mo (by kernel_rfl) (
      AS.cons _ _ rfl (ga_adr rfl rfl rfl (op_move (.base rfl))) (
        AS.cons _ _ rfl (ga_adr rfl rfl rfl (op_move (.base rfl))) (
        AS.cons _ _ rfl (ga_adr rfl rfl rfl (op_eql (.base rfl) (.base rfl))) (
        AS.cons _ _ rfl (ga_adr rfl rfl rfl (op_move (.base rfl))) (
        AS.cons _ _ rfl (ga_gd _ _ _ _ rfl rfl rfl rfl rfl (fun hg => op_move (.base rfl))) (
        AS.cons _ _ rfl (ga_gd _ _ _ _ rfl rfl rfl rfl rfl (fun hg => op_move (.base rfl))) (
        AS.cons _ _ rfl (ga_gd _ _ _ _ rfl rfl rfl rfl rfl (fun hg => op_eql_bool Try.underlying4 (.gd rfl hg) (.gd rfl hg))) (
        AS.cons _ _ rfl (ga_adr rfl rfl rfl (op_pick_and (.base rfl) (.base rfl) rfl (by intro h; first | (rw [h]; rfl) | (rw [hg, h]; rfl) | (rw [h, hg]; rfl) | simp_all))) (
        AS.cons _ _ rfl (ga_adr rfl rfl rfl (op_move (.base rfl))) (
        AS.cons _ _ rfl (ga_gd _ _ _ _ rfl rfl rfl rfl rfl (fun hg => op_oload ty26 (.base rfl) rfl rfl (Lens.id _))) (
        AS.cons _ _ rfl (ga_gd _ _ _ _ rfl rfl rfl rfl rfl (fun hg => op_call (chg_ok _ (by omega)) (.cons (.gd rfl hg) .nil) rfl rfl)) (
        AS.cons _ _ rfl (ga_gd _ _ _ _ rfl rfl rfl rfl rfl (fun hg => op_oload ty26 (.base rfl) rfl rfl (Lens.id _))) (
        AS.cons _ _ rfl (ga_gd _ _ _ _ rfl rfl rfl rfl rfl (fun hg => op_call (rchg_ok _ (by omega)) (.cons (.gd rfl hg) .nil) rfl rfl)) (
        AS.cons _ _ rfl (ga_gd _ _ _ _ rfl rfl rfl rfl rfl (fun hg => op_call (same_ints _ _) (.cons (.gd rfl hg) (.cons (.gd rfl hg) .nil)) rfl rfl)) (
        AS.cons _ _ rfl (ga_adr rfl rfl rfl (op_pick_and (.base rfl) (.base rfl) rfl (by intro h; first | (rw [h]; rfl) | (rw [hg, h]; rfl) | (rw [h, hg]; rfl) | simp_all))) (
        AS.cons _ _ rfl (ga_adr rfl rfl rfl (op_move (.base rfl))) (
        AS.cons _ _ rfl (ga_gd _ _ _ _ rfl rfl rfl rfl rfl (fun hg => op_call awake_ok .nil rfl rfl)) (
        AS.cons _ _ rfl (ga_adr rfl rfl rfl (op_pick_and (.base rfl) (.base rfl) rfl (by intro h; first | (rw [h]; rfl) | (rw [hg, h]; rfl) | (rw [h, hg]; rfl) | simp_all))) (
        AS.cons _ _ rfl (ga_adr rfl rfl rfl (op_assign (.base rfl))) (
        AS.nil)))))))))))))))))))) ?_
    refine jn_keep [6] [] (.cons rfl .nil) .nil ?_
    refine jn_seq (j_ret ?_)
    exact jr_fin1 Try.results9 (res_tmp rfl) rfl (rb (by first | rfl | (simp; done)))

end Go.Proofs.Ytcdkmhmlpjnfeaa
