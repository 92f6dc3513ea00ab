import Derived.Test.YtfmoolclokffjaaP02d
import Derived.Test.YtfmoolclokffjaaEng22
namespace Go.Proofs.Ytfmoolclokffjaa
open Go.Eng
set_option maxRecDepth 100000
set_option maxHeartbeats 4000000
set_option linter.unusedVariables false
set_option linter.unusedSimpArgs false

open Go.Proofs (ltOf)
open Go.Sort (SWO)
def cmpA (R : List Int) (x y : Int) : Int := if R.getD x.toNat 0 ≠ R.getD y.toNat 0 then (if R.getD x.toNat 0 > R.getD y.toNat 0 then -1 else 1) else x - y
theorem getD_at {R : List Int} {j : Nat} (h : j < R.length) : R.getD j 0 = R[j] := by simp [h]
theorem res_nil {P : Program} {cx : Cx} {st : St} {α : Type} {rt : RT α} {t : Nat} (h : lookS st.slots t = some (.raw (.slice none 0 0))) : Res P cx st (.tmp t) (.tv (rSlice rt) []) := fun β a w hi => by
  obtain ⟨v, h1, h2⟩ := res_tmp h β a w hi
  have h2 : v = .slice none 0 0 := h2
  subst h2
  exact ⟨_, h1, nil_val⟩
def svLI (p : List Int × Int) : SV := .tup2 (.tv (rSlice (rInt .i64)) p.1) (.raw (.int .i64 p.2))
theorem svLI_eq {p : List Int × Int} {a : List Int} {b : Int} (h : (a, b) = p) : SV.tup2 (.tv (rSlice (rInt .i64)) a) (.raw (.int .i64 b)) = svLI p := by subst h; rfl

theorem cmpA_ok (R : List Int) (x y : Int) (hx : 0 ≤ x ∧ x < R.length) (hy : 0 ≤ y ∧ y < R.length) (hn : R.length ≤ 64) : Ct Try.prog 42 [.raw (.int .i64 x), .raw (.int .i64 y), .eptr (rSlice (rInt .u64)) R] (.raw (.int .i64 (cmpA R x y))) := by
  refine ct_intro Try.func42 rfl rfl Try.ntmps42 rfl rfl ?_
  intro w0 ok0
  refine j_seq ?_
  refine j_region ?_
  refine jg_adr _ rfl _ rfl rfl (op_assign (.base rfl)) ?_
  refine jg_nil ?_
  refine jn_keep [0, 1, 2] [] (.cons rfl (.cons rfl (.cons rfl .nil))) .nil ?_
  refine jn_seq (j_seq (j_seq ?_))
  refine j_draw mo (by kernel_rfl) (
    AS.cons _ _ rfl (ga_adr rfl rfl rfl (op_load ty59 (.base rfl))) (
      AS.cons _ _ rfl (ga_adr rfl rfl rfl (op_move (.base rfl))) (
      AS.cons _ _ rfl (ga_adr rfl rfl rfl (op_index Try.underlying59 ty57 (.base rfl) (.base rfl) (Int.toNat_of_nonneg hx.1).symm (List.getElem?_eq_getElem (by first | omega | (simp; done) | (simp; omega) | (simp at hg; omega))))) (
      AS.cons _ _ rfl (ga_adr rfl rfl rfl (op_load ty57 (.base rfl))) (
      AS.cons _ _ rfl (ga_adr rfl rfl rfl (op_load ty59 (.base rfl))) (
      AS.cons _ _ rfl (ga_adr rfl rfl rfl (op_move (.base rfl))) (
      AS.cons _ _ rfl (ga_adr rfl rfl rfl (op_index Try.underlying59 ty57 (.base rfl) (.base rfl) (Int.toNat_of_nonneg hy.1).symm (List.getElem?_eq_getElem (by first | omega | (simp; done) | (simp; omega) | (simp at hg; omega))))) (
      AS.cons _ _ rfl (ga_adr rfl rfl rfl (op_load ty57 (.base rfl))) (
      AS.cons _ _ rfl (ga_adr rfl rfl rfl (op_neq (.base rfl) (.base rfl))) (
      AS.nil)))))))))) ?_
  refine jn_keep [0, 1, 2, 14] [] (.cons rfl (.cons rfl (.cons rfl (.cons rfl .nil)))) .nil ?_
  refine jn_seq ?_
  refine j_cond rfl (fun h1 => ?_) (fun h1 => ?_)
  · have k1 : R[x.toNat] ≠ R[y.toNat] := by simpa using h1
    refine j_seq (j_seq ?_)
    refine j_draw mo (by kernel_rfl) (
      AS.cons _ _ rfl (ga_adr rfl rfl rfl (op_load ty59 (.base rfl))) (
        AS.cons _ _ rfl (ga_adr rfl rfl rfl (op_move (.base rfl))) (
        AS.cons _ _ rfl (ga_adr rfl rfl rfl (op_index Try.underlying59 ty57 (.base rfl) (.base rfl) (Int.toNat_of_nonneg hx.1).symm (List.getElem?_eq_getElem (by first | omega | (simp; done) | (simp; omega) | (simp at hg; omega))))) (
        AS.cons _ _ rfl (ga_adr rfl rfl rfl (op_load ty57 (.base rfl))) (
        AS.cons _ _ rfl (ga_adr rfl rfl rfl (op_load ty59 (.base rfl))) (
        AS.cons _ _ rfl (ga_adr rfl rfl rfl (op_move (.base rfl))) (
        AS.cons _ _ rfl (ga_adr rfl rfl rfl (op_index Try.underlying59 ty57 (.base rfl) (.base rfl) (Int.toNat_of_nonneg hy.1).symm (List.getElem?_eq_getElem (by first | omega | (simp; done) | (simp; omega) | (simp at hg; omega))))) (
        AS.cons _ _ rfl (ga_adr rfl rfl rfl (op_load ty57 (.base rfl))) (
        AS.cons _ _ rfl (ga_adr rfl rfl rfl (op_gtr (.base rfl) (.base rfl))) (
        AS.nil)))))))))) ?_
    refine jn_keep [23] [] (.cons rfl .nil) .nil ?_
    refine jn_seq ?_
    refine j_cond rfl (fun h2 => ?_) (fun h2 => ?_)
    · have k2 := of_decide_eq_true h2
      refine j_seq ?_
      refine j_region ?_
      refine jg_adr _ rfl _ rfl rfl (op_assign (.base rfl)) ?_
      refine jg_nil ?_
      refine jn_keep [5] [] (.cons rfl .nil) .nil ?_
      refine jn_seq (j_ret (jr_seq (jr_seq ?_)))
      exact jr_fin1 Try.results42 (res_tmp rfl) rfl (ri (by unfold cmpA; rw [getD_at (show x.toNat < R.length by omega), getD_at (show y.toNat < R.length by omega)]; rw [if_pos k1, if_pos k2]))
    · have k2 := of_decide_eq_false h2
      refine j_skip (jn_seq (j_seq ?_))
      refine j_region ?_
      refine jg_adr _ rfl _ rfl rfl (op_assign (.base rfl)) ?_
      refine jg_nil ?_
      refine jn_keep [5] [] (.cons rfl .nil) .nil ?_
      refine jn_seq (j_ret (jr_seq ?_))
      exact jr_fin1 Try.results42 (res_tmp rfl) rfl (ri (by unfold cmpA; rw [getD_at (show x.toNat < R.length by omega), getD_at (show y.toNat < R.length by omega)]; rw [if_pos k1, if_neg k2]))
  · have k1 : R[x.toNat] = R[y.toNat] := by simpa using h1
    refine j_skip (jn_seq (j_seq ?_))
    refine j_region ?_
    refine jg_adr _ rfl _ rfl rfl (op_move (.base rfl)) ?_
    refine jg_adr _ rfl _ rfl rfl (op_move (.base rfl)) ?_
    refine jg_adr _ rfl _ rfl rfl (op_sub (.base rfl) (.base rfl) (w64 (by omega))) ?_
    refine jg_adr _ rfl _ rfl rfl (op_assign (.base rfl)) ?_
    refine jg_nil ?_
    refine jn_keep [5] [] (.cons rfl .nil) .nil ?_
    refine jn_seq (j_ret ?_)
    exact jr_fin1 Try.results42 (res_tmp rfl) rfl (ri (by unfold cmpA; rw [getD_at (show x.toNat < R.length by omega), getD_at (show y.toNat < R.length by omega)]; rw [if_neg (fun q => q k1)]))


def wBad (w : Int) : Bool := decide (w < 0) || decide (w > 1000000000)
def sumN : List Int → Nat
  | [] => 0
  | w :: l => w.toNat + sumN l
def qA (a S : Nat) (w : Int) : Int := ((a * w.toNat / S : Nat) : Int)
def rA (a S : Nat) (w : Int) : Int := ((a * w.toNat % S : Nat) : Int)
/-- the first k of l turned by f, the others 0 -/
def fillL (f : Int → Int) (l : List Int) (k : Nat) : List Int := (l.take k).map f ++ List.replicate (l.length - k) 0
def sumI : List Int → Int
  | [] => 0
  | x :: l => x + sumI l
def iota (n : Nat) : List Int := (List.range n).map fun i : Nat => (i : Int)
def iotaF (k n : Nat) : List Int := iota k ++ List.replicate (n - k) 0
def ordA (R : List Int) : List Int := if h : 0 < R.length then (@pdqL (Fin R.length) ⟨⟨0, h⟩⟩ (ltOf fun i j => cmpA R i.val j.val) (Lib.bitLen R.length) (List.finRange R.length)).map (fun i => (i.val : Int)) else []
def bump (l : List Int) (is : List Int) : List Int := is.foldl (fun l i => l.set i.toNat (l.getD i.toNat 0 + 1)) l
def restA (a S : Nat) (W : List Int) : Int := (a : Int) - sumI (W.map (qA a S))
def allocR (c : Int) (W : List Int) : List Int × Int :=
  if byd c 1000000000000000 = true then ([], 3) else if W.any wBad = true then ([], 3) else if 64 < W.length then ([], 4) else if sumN W = 0 then ([], 12)
  else (let l := bump (W.map (qA c.natAbs (sumN W))) ((ordA (W.map (rA c.natAbs (sumN W)))).take (restA c.natAbs (sumN W) W).toNat); if c < 0 then l.map (fun x => -x) else l, 0)
theorem fill_len (f : Int → Int) (l : List Int) (k : Nat) (h : k ≤ l.length) : (fillL f l k).length = l.length := by simp [fillL]; omega
theorem fill_0 (f : Int → Int) (l : List Int) : fillL f l 0 = List.replicate l.length 0 := by simp [fillL]
theorem fill_n (f : Int → Int) (l : List Int) : fillL f l l.length = l.map f := by simp [fillL]
theorem fill_set (f : Int → Int) (l : List Int) (k : Nat) (h : k < l.length) : (fillL f l k).set k (f l[k]) = fillL f l (k + 1) := by
  unfold fillL
  rw [List.set_append_right _ _ (by simp; omega), show l.length - k = (l.length - (k + 1)) + 1 by omega, List.replicate_succ, List.take_succ_eq_append_getElem h, List.map_append]
  simp [show min k l.length = k by omega]
theorem iotaF_set (k n : Nat) (h : k < n) : (iotaF k n).set k (k : Int) = iotaF (k + 1) n := by
  unfold iotaF iota
  rw [List.set_append_right _ _ (by simp), show n - k = (n - (k + 1)) + 1 by omega, List.replicate_succ, List.range_succ, List.map_append]
  simp
theorem iotaF_len (k n : Nat) (h : k ≤ n) : (iotaF k n).length = n := by simp [iotaF, iota]; omega
theorem iotaF_n (n : Nat) : iotaF n n = (List.finRange n).map (fun i => (i.val : Int)) := by
  unfold iotaF iota
  apply List.ext_getElem
  · simp
  · intro i h1 h2; simp
theorem sumN_take (l : List Int) (k : Nat) (h : k < l.length) : sumN (l.take (k + 1)) = sumN (l.take k) + l[k].toNat := by
  induction l generalizing k with
  | nil => simp at h
  | cons x l ih =>
    cases k with
    | zero => simp [sumN]
    | succ k => simp only [List.take_succ_cons, sumN, List.getElem_cons_succ]; rw [ih k (by simpa using h)]; omega
theorem sumI_take (l : List Int) (k : Nat) (h : k < l.length) : sumI (l.take (k + 1)) = sumI (l.take k) + l[k] := by
  induction l generalizing k with
  | nil => simp at h
  | cons x l ih =>
    cases k with
    | zero => simp [sumI]
    | succ k => simp only [List.take_succ_cons, sumI, List.getElem_cons_succ]; rw [ih k (by simpa using h)]; omega
theorem sumN_le (l : List Int) (M : Nat) (h : ∀ w ∈ l, w.toNat ≤ M) : sumN l ≤ l.length * M := by
  induction l with
  | nil => simp [sumN]
  | cons x l ih =>
    have := ih (fun w hw => h w (by simp [hw])); have := h x (by simp)
    simp only [sumN, List.length_cons, Nat.succ_mul]; omega
theorem sumN_mem {l : List Int} {w : Int} (h : w ∈ l) : w.toNat ≤ sumN l := by
  induction l with
  | nil => simp at h
  | cons x l ih =>
    rcases List.mem_cons.1 h with h | h
    · subst h; simp only [sumN]; omega
    · have := ih h; simp only [sumN]; omega
/-- the quotients: between 0 and the amount -/
theorem qsum (a S : Nat) (l : List Int) : ∃ q r : Nat, sumI (l.map (qA a S)) = (q : Int) ∧ a * sumN l = q * S + r ∧ (0 < S → r + l.length ≤ l.length * S) ∧ sumI (l.map (rA a S)) = (r : Int) := by
  induction l with
  | nil => exact ⟨0, 0, rfl, by simp [sumN], by simp, rfl⟩
  | cons x l ih =>
    obtain ⟨q, r, h1, h2, h3, h4⟩ := ih
    refine ⟨a * x.toNat / S + q, a * x.toNat % S + r, ?_, ?_, fun h => ?_, ?_⟩
    · simp only [List.map_cons, sumI, h1, qA]; omega
    · simp only [sumN, Nat.mul_add, h2, Nat.add_mul]
      have := Nat.div_add_mod' (a * x.toNat) S
      omega
    · have := Nat.mod_lt (a * x.toNat) h
      have := h3 h
      simp only [List.length_cons, Nat.succ_mul]; omega
    · simp only [List.map_cons, sumI, h4, rA]; omega
theorem rest_bounds (a : Nat) (W : List Int) (h : 0 < sumN W) : 0 ≤ restA a (sumN W) W ∧ restA a (sumN W) W ≤ W.length ∧ sumI (W.map (rA a (sumN W))) = restA a (sumN W) W * sumN W := by
  obtain ⟨q, r, h1, h2, h3, h4⟩ := qsum a (sumN W) W
  have h5 : q ≤ a := by
    apply Nat.le_of_mul_le_mul_right _ h
    omega
  have h6 : (a - q) * sumN W = r := by rw [Nat.sub_mul]; omega
  have h7 : a - q ≤ W.length := by
    apply Nat.le_of_mul_le_mul_right _ h
    have := h3 h
    omega
  unfold restA
  rw [h1, h4, ← h6]
  refine ⟨by omega, by omega, ?_⟩
  rw [Int.natCast_mul, Int.ofNat_sub h5]
theorem qA_le (a S : Nat) (w : Int) (h : w.toNat ≤ S) : 0 ≤ qA a S w ∧ qA a S w ≤ a := by
  unfold qA
  have : a * w.toNat / S ≤ a := by
    rcases Nat.eq_zero_or_pos S with h0 | h0
    · subst h0; simp
    · calc a * w.toNat / S ≤ a * S / S := Nat.div_le_div_right (Nat.mul_le_mul_left _ h)
        _ = a := Nat.mul_div_cancel _ h0
  exact ⟨Int.natCast_nonneg _, Int.ofNat_le.2 this⟩
theorem qsum_part (a S : Nat) (l : List Int) (k : Nat) : 0 ≤ sumI ((l.map (qA a S)).take k) ∧ sumI ((l.map (qA a S)).take k) ≤ sumI (l.map (qA a S)) := by
  induction l generalizing k with
  | nil => simp [sumI]
  | cons x l ih =>
    have hx : 0 ≤ qA a S x := Int.natCast_nonneg _
    cases k with
    | zero => have := ih l.length; simp only [List.take_zero, sumI, List.map_cons]; rw [List.take_of_length_le (by simp)] at this; omega
    | succ k => have := ih k; simp only [List.map_cons, List.take_succ_cons, sumI]; omega
theorem cmpA_swo (R : List Int) : SWO (ltOf fun (i j : Fin R.length) => cmpA R i.val j.val) := by
  have e : ∀ (i j : Fin R.length), (ltOf fun (i j : Fin R.length) => cmpA R i.val j.val) i j = true ↔ (R.getD j.val 0 < R.getD i.val 0 ∨ (R.getD i.val 0 = R.getD j.val 0 ∧ i.val < j.val)) := fun i j => by
    unfold ltOf cmpA
    simp only [Int.toNat_natCast, decide_eq_true_eq]
    split
    · split <;> omega
    · omega
  refine ⟨fun x => ?_, fun x y z h1 h2 => ?_, fun x y z h1 h2 => ?_⟩
  · rw [Bool.eq_false_iff]; intro h; rw [e] at h; omega
  · rw [e] at *; omega
  · rw [Bool.eq_false_iff] at *; simp only [ne_eq] at *; rw [e] at *; omega

end Go.Proofs.Ytfmoolclokffjaa
