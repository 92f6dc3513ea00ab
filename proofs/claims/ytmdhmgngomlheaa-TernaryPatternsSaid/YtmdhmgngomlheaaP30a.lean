import Derived.Test.YtmdhmgngomlheaaFacts
import Derived.Test.YtmdhmgngomlheaaEngN
import Derived.DeepKeys4
namespace Go.Proofs.Ytmdhmgngomlheaa
open Go.Eng
set_option maxRecDepth 100000
set_option maxHeartbeats 4000000
set_option linter.unusedVariables false
set_option linter.unusedSimpArgs false

open Go.WideMaps Go.WideShapes
/-! chapter 30: keys that are patterns -/
theorem patU : Try.prog.underlying 29 = some (.struct [⟨ "Mask", 3, 0, false, "", "", 0⟩, ⟨ "Bits", 3, 1, false, "", "", 8⟩].toArray) := Try.underlying29
theorem patKT : Try.prog.keyType 29 = true := by kernel_rfl
theorem patSz : Try.prog.types.size = 94 := by kernel_rfl
theorem patC : Try.prog.cellsOf 29 = 2 := by kernel_rfl
theorem patC1 : Try.prog.cellsOf 3 = 1 := by kernel_rfl
theorem patLaid : laidOutB Try.prog = true := by kernel_rfl
theorem patLaw : KeyLaw Try.prog 29 := deep_law_laid patLaid (m := 2) (by omega) (of_decide_eq_true (by kernel_rfl)) (by kernel_rfl) (by rw [patU])
def encPat (p : TPattern) : Value := .agg #[.int .i64 p.1, .int .i64 p.2]
def litPat (p : TPattern) : Lit := .string (keyBytes [.int .i64 p.1, .int .i64 p.2])
def okPat (p : TPattern) : Prop := (Lit.int .i64 p.1).wf = true ∧ (Lit.int .i64 p.2).wf = true
theorem keyLits_int {P : Program} {d t : Nat} (h : P.underlying t = some (.int .i64)) (v : Value) (ls : List Lit) : P.keyLits (d + 1) t [v] = some ls ↔ ∃ n, v = .int .i64 n ∧ (Lit.int .i64 n).wf = true ∧ ls = [.int .i64 n] := by
  unfold Program.keyLits
  rw [h]
  cases v with
  | int q n =>
    simp only [Option.ite_none_right_eq_some, Option.some.injEq]
    constructor
    · rintro ⟨⟨rfl, h2⟩, rfl⟩; exact ⟨n, rfl, h2, rfl⟩
    · rintro ⟨m, h1, h2, h3⟩; injection h1 with h1 h4; subst h1 h4; exact ⟨⟨rfl, h2⟩, h3.symm⟩
  | _ => simp
theorem keyLits_pat (d : Nat) (c0 c1 : Value) (ls : List Lit) : Try.prog.keyLits (d + 2) 29 [c0, c1] = some ls ↔ ∃ a b, c0 = .int .i64 a ∧ c1 = .int .i64 b ∧ (Lit.int .i64 a).wf = true ∧ (Lit.int .i64 b).wf = true ∧ ls = [.int .i64 a, .int .i64 b] := by
  unfold Program.keyLits
  simp only [patU]
  rw [if_pos ⟨by rw [patC]; rfl, by kernel_rfl⟩]
  simp only [List.mapM_cons, List.mapM_nil, patC1, Option.map_eq_some_iff, bind, Option.bind_eq_some_iff, pure, Option.some.injEq, List.drop_zero, List.drop_succ_cons, List.take_succ_cons, List.take_zero, keyLits_int Try.underlying3]
  constructor
  · rintro ⟨_, ⟨_, ⟨a, rfl, wa, rfl⟩, _, ⟨_, ⟨b, rfl, wb, rfl⟩, _, rfl, rfl⟩, rfl⟩, rfl⟩
    exact ⟨a, b, rfl, rfl, wa, wb, rfl⟩
  · rintro ⟨a, b, rfl, rfl, wa, wb, rfl⟩
    exact ⟨_, ⟨_, ⟨a, rfl, wa, rfl⟩, _, ⟨_, ⟨b, rfl, wb, rfl⟩, _, rfl, rfl⟩, rfl⟩, rfl⟩
theorem keyOf_pat (p : TPattern) (h : okPat p) : keyOf Try.prog 29 (encPat p) = some (litPat p) := by
  unfold keyOf encPat
  simp only [patU]
  rw [if_pos (by simp [patKT, Value.formed, patU, patC]), patSz]
  exact (congrArg (Option.map _) ((keyLits_pat 93 _ _ _).2 ⟨p.1, p.2, rfl, rfl, h.1, h.2, rfl⟩)).trans rfl
theorem keyOf_pat_back (v : Value) (l : Lit) (h : keyOf Try.prog 29 v = some l) : ∃ p, okPat p ∧ v = encPat p := by
  unfold keyOf at h
  simp only [patU] at h
  split at h
  · rename_i hf
    rw [Bool.and_eq_true] at hf
    have hf := hf.2
    cases v with
    | agg cs =>
      simp only [Value.formed, patU, patC, beq_iff_eq] at hf
      obtain ⟨cl⟩ := cs
      match cl, hf with
      | [c0, c1], _ =>
        rw [patSz, Option.map_eq_some_iff] at h
        obtain ⟨ls, h1, _⟩ := h
        obtain ⟨a, b, rfl, rfl, wa, wb, rfl⟩ := (keyLits_pat _ _ _ _).1 h1
        exact ⟨(a, b), ⟨wa, wb⟩, rfl⟩
    | _ => simp [Value.formed, patU] at hf
  · cases h
noncomputable def mK42 : KeyT Try.prog 29 TPattern where
  enc := encPat
  lit := litPat
  ok := okPat
  keyed := Maps.Keyed.of_law patLaw
  read := keyOf_pat
  back := keyOf_pat_back
  inj x y h := by simp [encPat] at h; exact Prod.ext h.1 h.2
noncomputable def mK41 : KeyT Try.prog 3 Int := keyInt Try.underlying3
noncomputable def mE : ElT Try.prog 4 Bool false := elBool Try.underlying4 Try.zeroValue4
/-- the value of a pattern in a slot -/
theorem pat_val (p : TPattern) (w : World) (ok : Ok) (v : Value) (h : rPattern.val w ok v p) : v = encPat p := by
  obtain ⟨cs, ⟨c1, c2, rfl, h1, h2⟩, rfl⟩ := h
  have h1 : c1 = [.int .i64 p.1] := h1
  have h2 : c2 = [.int .i64 p.2] := h2
  subst h1 h2; rfl
theorem int_val (x : Int) (w : World) (ok : Ok) (v : Value) (h : (rInt .i64).val w ok v x) : v = .int .i64 x := by
  obtain ⟨cs, h1, rfl⟩ := h
  have h1 : cs = [.int .i64 x] := h1
  subst h1; rfl
end Go.Proofs.Ytmdhmgngomlheaa
