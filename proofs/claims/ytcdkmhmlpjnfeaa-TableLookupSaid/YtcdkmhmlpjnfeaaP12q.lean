import Derived.Test.YtcdkmhmlpjnfeaaP12r
import Derived.Test.YtcdkmhmlpjnfeaaShelf
import Derived.Test.YtcdkmhmlpjnfeaaEngK
import Derived.WalkKit
import Derived.Shelf.SlSortCmp.WholeK
namespace Go.Proofs.Ytcdkmhmlpjnfeaa
open Go.Eng
set_option maxRecDepth 100000
set_option maxHeartbeats 4000000
set_option linter.unusedVariables false
set_option linter.unusedSimpArgs false

open Go.Sort Go.RowKit Go.Shelf
def encK (x : Rg) : List Value := [.int .i64 x.1, .int .i64 x.2]
theorem exactK : Exact rKeyRange encK := exact_pair exact_int (exact_one exact_int)
def cfK (x y : Rg) : Int := Lib.compareInt x.1 y.1
theorem ltK (x y : Rg) : ltOf cfK x y = decide (x.1 < y.1) := by
  unfold ltOf cfK Lib.compareInt
  by_cases h1 : x.1 < y.1
  · simp [h1]
  · by_cases h2 : y.1 < x.1 <;> simp [h1, h2]
theorem swoK : SWO (ltOf cfK) where
  irrefl x := by rw [ltK]; simp
  trans x y z h1 h2 := by rw [ltK] at *; simp at *; omega
  ntrans x y z h1 h2 := by rw [ltK] at *; simp at *; omega
theorem closureK (x y : Rg) (W : World) : Calls Try.prog 43 #[.agg #[.int .i64 x.1, .int .i64 x.2], .agg #[.int .i64 y.1, .int .i64 y.2]] W fun e w' => e = .returned (.int .i64 (cfK x y)) ∧ ∃ q os', w' = grow (W.drewN q) os' := by
  have hcon := fun W' => Go.Proofs.Try.cmp_Compare_int x.1 y.1 W'
  unfold cfK
  generalize Lib.compareInt x.1 y.1 = r at hcon ⊢
  go_enter Try.func43, Try.ntmps43
  go_wp2_with (go_at_call 44; refine (hcon _).mono ?_; rintro e w' ⟨rfl, rfl⟩)
  go_ret
  exact ⟨rfl, 0, _, by rw [alloc_eq_grow, alloc_eq_grow, grow_grow]; rfl⟩
theorem cmpLaysK (blk off size : Nat) (w : World) : CmpLays Try.prog 43 #[] encK 2 cfK blk off size w := fun _ _ _ _ x y => closureK x y _
def sortK (l : List Rg) : List Rg := pdqL (ltOf cfK) (Lib.bitLen l.length) l
theorem sortK_ok (l : List Rg) : (sortK l).Perm l ∧ (sortK l).Pairwise (fun a b => a.1 ≤ b.1) ∧ (sortK l).length = l.length := by
  obtain ⟨h1, h2, h3⟩ := pdqL_ok swoK (Lib.bitLen l.length) l
  exact ⟨h1, h2.imp (fun h => by rw [ltK] at h; simp at h; exact h), h3⟩

theorem bitsLen0 : Ct Try.prog 71 [.raw (.int .u64 0)] (.raw (.int .i64 0)) :=
  ⟨callFunc_enter Try.func71 rfl (by kernel_rfl), fun w ok0 vs hok ⟨v, vr, e, h1, h2⟩ => by
    have h1 : v = .int .u64 0 := h1
    have h2 : vr = [] := h2
    subst h1 h2 e
    refine (Go.Proofs.Try.bits_Len 0 w (by omega) (by omega)).mono ?_
    rintro e w' ⟨rfl, rfl⟩
    exact ⟨_, rfl, (Go.Eng.Below.refl _ _).toX, rfl⟩⟩

theorem ins0 (A : Option Addr) (cap : Nat) (fv : Value) : Ct Try.prog 83 [.raw (.slice A 0 cap), .raw (.int .i64 0), .raw (.int .i64 0), .raw fv] (.raw (.tuple #[])) := by
  refine ct_intro Try.func83 rfl rfl Try.ntmps83 rfl rfl ?_
  intro w0 ok0
  refine j_seq ?_
  refine j_region ?_
  refine jg_adr _ rfl _ rfl rfl (op_move (.base rfl)) ?_
  refine jg_adr _ rfl _ rfl rfl (op_add (.base rfl) (.base rfl) (w64 (by omega))) ?_
  refine jg_adr _ rfl _ rfl rfl (op_assign (.base rfl)) ?_
  refine jg_nil ?_
  refine jn_keep [0, 1, 2, 3, 8] [] (.cons rfl (.cons rfl (.cons rfl (.cons rfl (.cons rfl .nil))))) .nil ?_
  refine jn_seq (j_block ?_)
  refine j_loopp (ι := Nat) (fun k => ⟨[(2, .raw (.int .i64 (0))), (8, .raw (.int .i64 (0 + 1)))], []⟩) (fun k => True) (fun k => 0) 0 (trivial) (fun a w hi => (Sub.inv ⟨(by repeat (first | exact SubS_nil | refine SubS_cons rfl (by first | rfl | (simp; done) | assumption) ?_)), (by repeat (first | exact SubH_nil | refine SubH_cons rfl (by first | rfl | (simp; done) | assumption) ?_))⟩ hi)) ?_
  rintro k -
  refine j_seq (j_seq ?_)
  refine j_region ?_
  refine jg_adr _ rfl _ rfl rfl (op_move (.base rfl)) ?_
  refine jg_adr _ rfl _ rfl rfl (op_move (.base rfl)) ?_
  refine jg_adr _ rfl _ rfl rfl (op_lss (.base rfl) (.base rfl)) ?_
  refine jg_nil ?_
  refine jn_seq ?_
  refine j_cond rfl (fun h1 => ?_) (fun h1 => ?_)
  · exact absurd h1 (by decide)
  · try simp at h1
    refine j_exit (je_seq (je_loop (je_blk ?_)))
    exact jn_fin0 Try.results83

theorem pdq0 (A : Option Addr) (cap : Nat) (fv : Value) (m : Int) : Ct Try.prog 70 [.raw (.slice A 0 cap), .raw (.int .i64 0), .raw (.int .i64 0), .raw (.int .i64 m), .raw fv] (.raw (.tuple #[])) := by
  refine ct_intro Try.func70 rfl rfl Try.ntmps70 rfl rfl ?_
  intro w0 ok0
  refine j_seq ?_
  refine j_region ?_
  refine jg_adr _ rfl _ rfl rfl (op_assign (.base rfl)) ?_
  refine jg_nil ?_
  refine jn_keep [0, 1, 2, 3, 4, 10] [] (.cons rfl (.cons rfl (.cons rfl (.cons rfl (.cons rfl (.cons rfl .nil)))))) .nil ?_
  refine jn_seq (j_seq ?_)
  refine j_region ?_
  refine jg_adr _ rfl _ rfl rfl (op_assign (.base rfl)) ?_
  refine jg_nil ?_
  refine jn_keep [0, 1, 2, 3, 4, 10, 11] [] (.cons rfl (.cons rfl (.cons rfl (.cons rfl (.cons rfl (.cons rfl (.cons rfl .nil))))))) .nil ?_
  refine jn_seq (j_block ?_)
  refine j_loopp (ι := Nat) (fun k => ⟨[(0, .raw (.slice A 0 cap)), (1, .raw (.int .i64 (0))), (2, .raw (.int .i64 (0))), (4, .raw fv)], []⟩) (fun k => True) (fun k => 0) 0 (trivial) (fun a w hi => (Sub.inv ⟨(by repeat (first | exact SubS_nil | refine SubS_cons rfl (by first | rfl | (simp; done) | assumption) ?_)), (by repeat (first | exact SubH_nil | refine SubH_cons rfl (by first | rfl | (simp; done) | assumption) ?_))⟩ hi)) ?_
  rintro k -
  refine j_block (j_seq ?_)
  refine j_region ?_
  refine jg_adr _ rfl _ rfl rfl (op_move (.base rfl)) ?_
  refine jg_adr _ rfl _ rfl rfl (op_move (.base rfl)) ?_
  refine jg_adr _ rfl _ rfl rfl (op_sub (.base rfl) (.base rfl) (w64 (by omega))) ?_
  refine jg_adr _ rfl _ rfl rfl (op_assign (.base rfl)) ?_
  refine jg_nil ?_
  refine jn_seq (j_seq (j_seq ?_))
  refine j_region ?_
  refine jg_adr _ rfl _ rfl rfl (op_move (.base rfl)) ?_
  refine jg_adr _ rfl _ rfl rfl (op_leq (.base rfl) (.base rfl)) ?_
  refine jg_nil ?_
  refine jn_seq ?_
  refine j_cond rfl (fun h3 => ?_) (fun h3 => ?_)
  · try simp at h3
    refine j_seq ?_
    refine j_region ?_
    refine jg_adr _ rfl _ rfl rfl (op_move (.base rfl)) ?_
    refine jg_adr _ rfl _ rfl rfl (op_move (.base rfl)) ?_
    refine jg_adr _ rfl _ rfl rfl (op_move (.base rfl)) ?_
    refine jg_adr _ rfl _ rfl rfl (op_move (.base rfl)) ?_
    refine jg_adr _ rfl _ rfl rfl (op_call (ins0 _ _ _) (.cons (.base rfl) (.cons (.base rfl) (.cons (.base rfl) (.cons (.base rfl) .nil)))) rfl rfl) ?_
    refine jg_nil ?_
    refine jn_seq (j_ret (jr_seq (jr_blk (jr_loop (jr_blk ?_)))))
    exact jr_fin0 Try.results70
  · exact absurd h3 (by decide)

theorem sort0 (A : Option Addr) (cap : Nat) (fv : Value) : Ct Try.prog 42 [.raw (.slice A 0 cap), .raw fv] (.raw (.tuple #[])) := by
  refine ct_intro Try.func42 rfl rfl Try.ntmps42 rfl rfl ?_
  intro w0 ok0
  refine j_seq ?_
  refine j_region ?_
  refine jg_adr _ rfl _ rfl rfl (op_move (.base rfl)) ?_
  refine jg_adr _ rfl _ rfl rfl (op_len_raw Try.underlying37 (.base rfl)) ?_
  refine jg_adr _ rfl _ rfl rfl (op_assign (.base rfl)) ?_
  refine jg_nil ?_
  refine jn_keep [0, 1, 4] [] (.cons rfl (.cons rfl (.cons rfl .nil))) .nil ?_
  refine jn_seq ?_
  refine j_region ?_
  refine jg_adr _ rfl _ rfl rfl (op_move (.base rfl)) ?_
  refine jg_adr _ rfl _ rfl rfl (op_move (.base rfl)) ?_
  refine jg_adr _ rfl _ rfl rfl (op_move (.base rfl)) ?_
  refine jg_adr _ rfl _ rfl rfl (op_conv ⟨_, Try.underlying3⟩ Try.underlying97 (.base rfl) (wu64 (by omega))) ?_
  refine jg_adr _ rfl _ rfl rfl (op_call bitsLen0 (.cons (.base rfl) .nil) rfl rfl) ?_
  refine jg_adr _ rfl _ rfl rfl (op_move (.base rfl)) ?_
  refine jg_adr _ rfl _ rfl rfl (op_call (pdq0 _ _ _ _) (.cons (.base rfl) (.cons (.base rfl) (.cons (.base rfl) (.cons (.base rfl) (.cons (.base rfl) .nil))))) rfl rfl) ?_
  refine jg_nil ?_
  refine jn_keep [] [] .nil .nil ?_
  exact jn_fin0 Try.results42

theorem sortNone (A : Option Addr) (cap : Nat) (fv : Value) (w : World) : Calls Try.prog 42 #[.slice A 0 cap, fv] w fun e w' => e = .returned (.tuple #[]) ∧ Go.Eng.Below w.heap.size w w' := by
  refine ((sort0 A cap fv).calls w (fun _ => False) [.slice A 0 cap, fv] (fun _ h => h.elim) ⟨_, _, rfl, rfl, _, _, rfl, rfl, rfl⟩).mono ?_
  rintro e w' ⟨v, rfl, hb, hv⟩
  have hv : v = .tuple #[] := hv
  subst hv
  exact ⟨rfl, hb.plain (fun _ h => h)⟩

theorem turnKR : TurnK Try.prog 42 rKeyRange encK (.func (.func 43) #[] #[]) sortK where
  exact := exactK
  ent := fun w args => callFunc_enter Try.func42 rfl (by kernel_rfl) w args
  len l := (sortK_ok l).2.2
  some_ blk off cap zs w hH hb hz _ := by
    have eg : ∀ args w, (callFunc 43 args).run Try.prog w = .ok (.enter 43 args) w := enters_of Try.func43 (by kernel_rfl) rfl
    have hcon := AnyQ.slices_SortFunc_eq Go.Proofs.Try.laysSF42 2 Try.isAgg42 Try.sizeOf42 encK (fun _ => rfl) (fun x v hv => by simp [encK] at hv; rcases hv with rfl | rfl <;> rfl) cfK swoK 43 #[] blk off cap zs.toArray w eg (cmpLaysK blk off zs.toArray.size w) hH hb (by simpa using hz)
    change Calls Try.prog 42 _ _ _ at hcon
    refine hcon.mono ?_
    rintro e w' ⟨rfl, n, os, rfl⟩
    exact ⟨rfl, n, os, rfl⟩
  none_ A cap w := sortNone A cap _ w

end Go.Proofs.Ytcdkmhmlpjnfeaa
