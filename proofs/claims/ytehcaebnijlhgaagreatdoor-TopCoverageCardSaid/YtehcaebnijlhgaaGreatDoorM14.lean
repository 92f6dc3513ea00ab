import Derived.Test.YtehcaebnijlhgaaGreatDoorM3
import Derived.Test.YtehcaebnijlhgaaGreatDoorM13
set_option linter.unusedVariables false
set_option linter.unusedSimpArgs false
namespace Go.Proofs.YtehcaebnijlhgaaGreatDoor.C23
open Go.Eng Tryz
set_option maxRecDepth 100000
set_option maxHeartbeats 4000000
def iw (op : Int) (smp : Bool) : Bool := decide (op = 1 ∨ op = 23 ∨ op = 24 ∨ op = 25 ∨ op = 7) || cP op || (dg op && smp)
def iy (e : List aP) (i : Nat) : Bool := iw (e[i]?.getD (0, 0)).1 (cn e i).2.2
def dO (e : List aP) (s : a6) : Bool := (!(decide ((dR e s).2.2 ≠ 0) || !((dR e s).1 == (1, 0)))) && (List.range e.length).all (iy e)
theorem AV {e : List aP} {s : a6} {k : Nat} (hk : k < e.length) (h : iy e k = false) : dO e s = false := by
  unfold dO
  rw [Bool.and_eq_false_iff]; right
  exact List.all_eq_false.2 ⟨k, List.mem_range.2 hk, by simp [h]⟩
theorem flat_t {e : List aP} {s : a6} (h1 : (!(decide ((dR e s).2.2 ≠ 0) || !((dR e s).1 == (1, 0)))) = true) (h : ∀ i, i < e.length → iy e i = true) : dO e s = true := by
  unfold dO
  rw [h1, Bool.true_and]
  exact List.all_eq_true.2 fun i hi => h i (List.mem_range.1 hi)
theorem gR {e : List aP} {k : Nat} (hp : ∀ i, i < k → iy e i = true) (h : iy e k = true) : ∀ i, i < k + 1 → iy e i = true := fun i hi => by
  rcases Nat.lt_or_ge i k with q | q
  · exact hp i q
  have : i = k := by omega
  subst this; exact h
theorem eT {e : List aP} {k : Nat} (hk : k < e.length) : iy e k = iw e[k].1 (cn e k).2.2 := by unfold iy; rw [List.getElem?_eq_getElem hk]; rfl
theorem xg (e : List aP) (s : a6) (hn : ∀ d ∈ e, d.2 ≤ 9223372036854775807) : Ct prog 24 [.tv (ab bX) e, .tv bS s] (.raw (.bool (dO e s))) := by
  refine ay func24 rfl rfl ntmps24 rfl rfl ?_
  intro w0 ok0
  refine eE 0 rfl (fun hl0 => ?_)
  refine zR (zb (.tv (.b rfl)) (zY rfl (aa (zR (zM rfl (zL eV rfl rfl rfl (Lens.id _) (zJ (an (qS _ _ hn) (.cons (.b rfl) (.cons (.b rfl) .nil)) rfl rfl) (zM rfl (zJ (d7 (.b rfl)) (zJ (d6 (.b rfl)) (zJ (d5 (.b rfl)) (zl z90 (zC aE rfl rfl rfl (Lens.id _) (.tv (.b rfl)) (zA rfl (zY rfl (aa (ae (zR (zM rfl (zJ (bQ (.b rfl) (.b rfl)) (zM rfl (zG rfl rfl (fun hg => aj aE (.b rfl) rfl rfl (Lens.id _)) (zG rfl rfl (fun hg => aI z90 rfl d4 (.cons (rt' := (ak .i64)) rfl bN (.raw (.b rfl) rfl) .nil)) (zG rfl rfl (fun hg => mO oD rfl rfl oE (.tv (.gd rfl hg)) (.tv (.gd rfl hg))) (zJ (aB (.b rfl) (.b rfl) rfl zp) (zZ ?_))))))))))))))))))))))))))
  refine af rfl (fun h2 => ?_) (fun h2 => ?_)
  · skip
    refine zR (zY rfl (aa (am (ai ?_))))
    exact z1 results24 rfl (rb (by unfold dO; (try simp at h2); simp; first | exact fun q => absurd q (by simpa using h2) | (intro q1 q2; simp_all)))
  have h1b : (!(decide ((dR e s).2.2 ≠ 0) || !((dR e s).1 == (1, 0)))) = true := by simp at h2 ⊢; exact h2
  refine ah (aa (ae (zR (zM rfl (zN fB rfl (zM rfl (zZ (aq ?_))))))))
  refine aZ (ι := Nat) (fun k => ⟨[(0, .tv (ab bX) e), (27, .tv (ab bX) e), (28, .raw (.int .i64 (e.length))), (29, .raw (.int .i64 ((k : Nat))))], []⟩) (fun k => k ≤ e.length ∧ ∀ i, i < k → iy e i = true) (fun k => e.length - k) 0 (⟨Nat.zero_le _, fun i hi => absurd hi zo⟩) (fun a w hi => (zI hi)) ?_
  rintro k ⟨hk, hp⟩
  refine zR (zt rfl rfl (zZ (ae ?_)))
  refine af rfl (fun h5 => ?_) (fun h5 => ?_)
  · try simp at h5
    refine ah (aa (ae (aq (ae ?_))))
    have hk' : k < e.length := by omega
    refine ac (zM rfl ?_)
    refine bc _ rfl _ rfl rfl (al fB cl (.b rfl) (.b rfl) rfl zg) ?_
    refine zD cl rfl (zl kT (zA rfl (zC cl rfl rfl rfl (Lens.id _) (.tv (.b rfl)) (zZ (ae (zR (zF bU rfl (zL ty3 rfl rfl rfl cb (zZ (aq (ae (zR (ze rfl rfl (zY rfl (aa ?_)))))))))))))))
    refine af rfl (fun h8 => ?_) (fun h8 => ?_)
    · have g8 := h8; try simp at h8
      refine ah (aa ?_)
      refine bz rfl g8 (bg (gn rfl (be (bf (aa ?_)))))
      refine ac (zU rfl rfl zw (zM rfl (aN ?_)))
      exact aD (fun a w hi => ⟨k + 1, zo, ⟨by omega, gR hp (by rw [eT hk']; unfold iw; first | (simp [*]; done) | (simp_all; done))⟩, (zI hi)⟩)
    have g8 := h8; try simp at h8
    refine zR (ze rfl rfl (zY rfl (aa ?_)))
    refine af rfl (fun h9 => ?_) (fun h9 => ?_)
    · have g9 := h9; try simp at h9
      refine ah (aa ?_)
      refine bz rfl g9 (bg (gn rfl (be (bf (aa ?_)))))
      refine ac (zU rfl rfl zw (zM rfl (aN ?_)))
      exact aD (fun a w hi => ⟨k + 1, zo, ⟨by omega, gR hp (by rw [eT hk']; unfold iw; first | (simp [*]; done) | (simp_all; done))⟩, (zI hi)⟩)
    have g9 := h9; try simp at h9
    refine zR (ze rfl rfl (zY rfl (aa ?_)))
    refine af rfl (fun h10 => ?_) (fun h10 => ?_)
    · have g10 := h10; try simp at h10
      refine ah (aa ?_)
      refine bz rfl g10 (bg (gn rfl (be (bf (aa ?_)))))
      refine ac (zU rfl rfl zw (zM rfl (aN ?_)))
      exact aD (fun a w hi => ⟨k + 1, zo, ⟨by omega, gR hp (by rw [eT hk']; unfold iw; first | (simp [*]; done) | (simp_all; done))⟩, (zI hi)⟩)
    have g10 := h10; try simp at h10
    refine zR (ze rfl rfl (zY rfl (aa ?_)))
    refine af rfl (fun h11 => ?_) (fun h11 => ?_)
    · have g11 := h11; try simp at h11
      refine ah (aa ?_)
      refine bz rfl g11 (bg (gn rfl (be (bf (aa ?_)))))
      refine ac (zU rfl rfl zw (zM rfl (zQ [0,27,28,29] [] ?_)))
      exact aD (fun a w hi => ⟨k + 1, zo, ⟨by omega, gR hp (by rw [eT hk']; unfold iw; first | (simp [*]; done) | (simp_all; done))⟩, (zI hi)⟩)
    have g11 := h11; try simp at h11
    refine ac (ze rfl rfl (zY rfl (aa ?_)))
    refine af rfl (fun h12 => ?_) (fun h12 => ?_)
    · have g12 := h12; try simp at h12
      refine bg (gn rfl (be (bf (aa (ac (zU rfl rfl zw (zM rfl (aN ?_))))))))
      exact aD (fun a w hi => ⟨k + 1, zo, ⟨by omega, gR hp (by rw [eT hk']; unfold iw; first | (simp [*]; done) | (simp_all; done))⟩, (zI hi)⟩)
    have g12 := h12; try simp at h12
    refine ah (aG (aa (ae (zR (zL cl rfl rfl rfl (Lens.id _) (zJ (an (kI _) (.cons (.b rfl) .nil) rfl rfl) (zZ ?_)))))))
    refine af rfl (fun h13 => ?_) (fun h13 => ?_)
    · have k13 : cP e[k].1 = true := by simpa using h13
      refine bg (be (bf (aa (ac (zU rfl rfl zw (zM rfl (aN ?_)))))))
      exact aD (fun a w hi => ⟨k + 1, zo, ⟨by omega, gR hp (by rw [eT hk']; unfold iw; first | (simp [*]; done) | (simp_all; done))⟩, (zI hi)⟩)
    have k13 : cP e[k].1 = false := by simpa using h13
    refine ah (aa (ae (zR (zL cl rfl rfl rfl (Lens.id _) (zJ (an (kR _) (.cons (.b rfl) .nil) rfl rfl) (zJ (b6 (.b rfl)) (zZ ?_)))))))
    refine af rfl (fun h14 => ?_) (fun h14 => ?_)
    · have k14 : dg e[k].1 = false := by simpa using h14
      refine zR (zY rfl (aa (am (ai (av (ai (bL (av (ai ?_)))))))))
      exact z1 results24 rfl (rb (AV (s := s) hk' (by rw [eT hk']; unfold iw; first | (simp [*]; done) | (simp_all; done) | (simp [cP, dg] at *; simp [*]; done))).symm)
    have k14 : dg e[k].1 = true := by simpa using h14
    refine ah (aa (zR (zM rfl (zM rfl (zJ (an (pK _ _) (.cons (.b rfl) (.cons (.b rfl) .nil)) rfl rfl) (zM rfl (zJ (d7 (.b rfl)) (zJ (d6 (.b rfl)) (zJ (d5 (.b rfl)) (zl kT (zA rfl (zC cl rfl rfl rfl (Lens.id _) (.tv (.b rfl)) (zY rfl (aa (zR (zM rfl (zJ (b6 (.b rfl)) (zZ ?_))))))))))))))))))
    refine af rfl (fun h17 => ?_) (fun h17 => ?_)
    · have k17 : (cn e k).2.2 = false := by simpa using h17
      refine zR (zY rfl (aa (am (av (ai (bL (av (ai ?_))))))))
      exact z1 results24 rfl (rb (AV (s := s) hk' (by rw [eT hk']; unfold iw; first | (simp [*]; done) | (simp_all; done) | (simp [cP, dg] at *; simp [*]; done))).symm)
    have k17 : (cn e k).2.2 = true := by simpa using h17
    refine ah (aG (aa (ac (zU rfl rfl zw (zM rfl (aN ?_))))))
    exact aD (fun a w hi => ⟨k + 1, zo, ⟨by omega, gR hp (by rw [eT hk']; unfold iw; first | (simp [*]; done) | (simp_all; done))⟩, (zI hi)⟩)
  try simp at h5
  refine bg (be (aY (bf (aa (ae (ac (zY rfl (aa (am ?_)))))))))
  exact z1 results24 rfl (rb (flat_t h1b (fun i hi => hp i zo)).symm)
def ob (l : List Int) (n : Int) : Nat → Int
  | 0 => -1
  | k + 1 => if l[k]?.getD 0 ≤ n then (k : Int) else ob l n k
def gl (l : List Int) (n : Int) : Int := ob l n l.length
theorem locK_t {l : List Int} {n : Int} {k : Nat} (hk : k < l.length) (h : l[k] ≤ n) : ob l n (k + 1) = k := by rw [ob, List.getElem?_eq_getElem hk, Option.getD_some, if_pos h]
theorem locK_f {l : List Int} {n : Int} {k : Nat} (hk : k < l.length) (h : ¬ l[k] ≤ n) : ob l n (k + 1) = ob l n k := by rw [ob, List.getElem?_eq_getElem hk, Option.getD_some, if_neg h]
def gy (r : List (List Int)) : Nat → Int
  | 0 => 1
  | k + 1 => if gy r k ≤ 4096 then gy r k * ((r[k]?.getD []).length : Int) else gy r k
def iA (r : List (List Int)) : Int := if r.any (fun x => x.length == 0) = true then 0 else if 4097 < gy r r.length then 4097 else gy r r.length
theorem Bd {r : List (List Int)} {k : Nat} (hk : k < r.length) (h : gy r k ≤ 4096) : gy r (k + 1) = gy r k * (r[k].length : Int) := by rw [gy, List.getElem?_eq_getElem hk, Option.getD_some, if_pos h]
theorem Dd {r : List (List Int)} {k : Nat} (h : ¬ gy r k ≤ 4096) : gy r (k + 1) = gy r k := by rw [gy, if_neg h]
theorem qz {r : List (List Int)} {k : Nat} (h : ¬ gy r k ≤ 4096) : ∀ j, gy r (k + j) = gy r k
  | 0 => rfl
  | j + 1 => by rw [← Nat.add_assoc, Dd (by rw [qz h j]; exact h), qz h j]
theorem oF {r : List (List Int)} (hl : ∀ x ∈ r, x.length ≤ 100000) : ∀ k, 0 ≤ gy r k ∧ gy r k ≤ 409600000
  | 0 => by simp [gy]
  | k + 1 => by
    have ih := oF hl k
    have hx : ((r[k]?.getD []).length : Int) ≤ 100000 := by
      cases h : r[k]? with
      | none => simp
      | some x => have := hl x (List.mem_of_getElem? h); simp; omega
    rw [gy]; split
    · rename_i h
      have h0 : (0 : Int) ≤ ((r[k]?.getD []).length : Int) := Int.natCast_nonneg _
      exact ⟨Int.mul_nonneg ih.1 h0, Int.le_trans (Int.mul_le_mul h hx h0 zo) zo⟩
    exact ih
theorem any_f {r : List (List Int)} (h : ∀ i (hi : i < r.length), r[i].length ≠ 0) : r.any (fun x => x.length == 0) = false := by
  refine List.any_eq_false.2 fun x hx => ?_
  obtain ⟨i, hi, rfl⟩ := List.mem_iff_getElem.1 hx
  simpa using h i hi
theorem any_t {r : List (List Int)} {k : Nat} (hk : k < r.length) (h : r[k].length = 0) : iA r = 0 := by
  unfold iA
  rw [if_pos (List.any_eq_true.2 ⟨r[k], List.getElem_mem _, by simpa using h⟩)]
theorem Bc {r : List (List Int)} (h : ∀ i (hi : i < r.length), r[i].length ≠ 0) : iA r = if 4097 < gy r r.length then 4097 else gy r r.length := by
  unfold iA; rw [any_f h, if_neg (by simp)]
theorem filt_t {p : Int → Bool} {l : List Int} {k : Nat} (hk : k < l.length) (h : p l[k] = true) : (l.take (k + 1)).filter p = (l.take k).filter p ++ [l[k]] := by rw [← List.take_append_getElem hk, List.filter_append]; simp [h]
theorem filt_f {p : Int → Bool} {l : List Int} {k : Nat} (hk : k < l.length) (h : p l[k] = false) : (l.take (k + 1)).filter p = (l.take k).filter p := by rw [← List.take_append_getElem hk, List.filter_append]; simp [h]
theorem AX {p : Int → Bool} {l : List Int} {k : Nat} : ((l.take k).filter p).length ≤ l.length := Nat.le_trans (List.length_filter_le _ _) (by simp; omega)
theorem Bb (r : List (List Int)) (hl : ∀ x ∈ r, x.length ≤ 100000) : Ct prog 28 [.tv (ab (ab (ak .i64))) r] (.raw (.int .i64 (iA r))) := by
  refine ay func28 rfl rfl ntmps28 rfl rfl ?_
  intro w0 ok0
  refine eE 0 rfl (fun hl0 => ?_)
  refine zR (zY rfl (aa (zR (zY rfl (aa (ae (zR (zM rfl (zN fw rfl (zM rfl (zZ (aq ?_))))))))))))
  refine aZ (ι := Nat) (fun k => ⟨[(3, .raw (.int .i64 (gy r k))), (6, .tv (ab (ab (ak .i64))) r), (7, .raw (.int .i64 (r.length))), (8, .raw (.int .i64 ((k : Nat))))], []⟩) (fun k => k ≤ r.length ∧ ∀ i, i < k → ∀ (hi : i < r.length), r[i].length ≠ 0) (fun k => r.length - k) 0 (⟨Nat.zero_le _, fun i hi => absurd hi zo⟩) (fun a w hi => (zI hi)) ?_
  rintro k ⟨hk, hp⟩
  have hb := oF hl k
  refine zR (zt rfl rfl (zZ (ae ?_)))
  refine af rfl (fun h3 => ?_) (fun h3 => ?_)
  · try simp at h3
    refine ah (aa (ae (aq (zR ?_))))
    refine bc _ rfl _ rfl rfl (al fw ek (.b rfl) (.b rfl) rfl zg) ?_
    refine zD ek rfl (zY rfl (aa (ae (zR (zM rfl (zN bd rfl (ze rfl rfl (zZ ?_))))))))
    refine af rfl (fun h5 => ?_) (fun h5 => ?_)
    · try simp at h5
      refine zR (zY rfl (aa (am (ai (av (ai (bL (av (ai ?_)))))))))
      exact z1 results28 rfl (congrArg (fun z => SV.raw (.int .i64 z)) (by rw [any_t (k := k) zo (by simpa using h5)]))
    try simp at h5
    refine ah (aa (zR (zM rfl (zJ (ew (.b rfl) (.b rfl)) (zZ ?_)))))
    refine af rfl (fun h7 => ?_) (fun h7 => ?_)
    · try simp at h7
      have hlk : r[k].length ≤ 100000 := hl _ (List.getElem_mem _)
      have hmu : 0 ≤ gy r k * (r[k].length : Int) ∧ gy r k * (r[k].length : Int) ≤ 409600000 := by rw [← Bd zo h7]; exact oF hl (k + 1)
      have hc := Bd (r := r) (k := k) zo h7
      refine ac (zM rfl (zM rfl (zN bd rfl (zJ (uK (.b rfl) (.b rfl) zw) (zY rfl (aG (aa (ac (zU rfl rfl zw (zM rfl (aN ?_)))))))))))
      exact aD (fun a w hi => ⟨k + 1, zo, ⟨by omega, fun i hi1 hi2 => by rcases Nat.lt_or_ge i k with q | q; exact hp i q hi2; have : i = k := zo; subst this; simpa using h5⟩, Sub.inv ⟨(by repeat (first | exact aQ | refine aM rfl (by first | rfl | exact congrArg (fun z => SV.raw (.int .i64 z)) hc | exact congrArg (fun z => SV.raw (.int .i64 z)) hc.symm) ?_)), (by repeat (first | exact bn | refine aL rfl (by first | rfl | (simp; done) | assumption) ?_))⟩ hi⟩)
    simp at h7
    have hc := Dd (r := r) (k := k) zo
    refine ah (aG (aa (ac (zU rfl rfl zw (zM rfl (aN ?_))))))
    exact aD (fun a w hi => ⟨k + 1, zo, ⟨by omega, fun i hi1 hi2 => by rcases Nat.lt_or_ge i k with q | q; exact hp i q hi2; have : i = k := zo; subst this; simpa using h5⟩, Sub.inv ⟨(by repeat (first | exact aQ | refine aM rfl (by first | rfl | exact congrArg (fun z => SV.raw (.int .i64 z)) hc | exact congrArg (fun z => SV.raw (.int .i64 z)) hc.symm) ?_)), (by repeat (first | exact bn | refine aL rfl (by first | rfl | (simp; done) | assumption) ?_))⟩ hi⟩)
  try simp at h3
  refine bg (be (aY (bf (aa (ae (ac (zM rfl (zJ (uL (.b rfl) (.b rfl)) (zY rfl (aa (am ?_)))))))))))
  exact z1 results28 rfl (congrArg (fun z => SV.raw (.int .i64 z)) (by have : k = r.length := zo; subst this; rw [Bc (fun i hi => hp i hi hi)]))
def sG (n : Int) : List Int := if n < 9223372036854775807 then [n, n + 1] else [n]
def kS (e : List aP) (inp : Int) (i : Nat) : List Int :=
  if dg (e[i]?.getD (0, 0)).1 = true ∧ (cn e i).2.2 = true ∧ (cn e i).1 = inp ∧ (cn e i).2.1.1 ≠ 6 then sG (cn e i).2.1.2 else []
def fu (e : List aP) (inp : Int) : Nat → List Int
  | 0 => []
  | k + 1 => fu e inp k ++ kS e inp k
def gK (gs : List (List aP)) (inp : Int) : Nat → List Int
  | 0 => []
  | k + 1 => gK gs inp k ++ fu (gs[k]?.getD []) inp (gs[k]?.getD []).length
theorem xV (e : List aP) (inp : Int) (i : Nat) : (kS e inp i).length ≤ 2 := by unfold kS sG; (repeat' split) <;> simp
theorem l6 (e : List aP) (inp : Int) : ∀ k, (fu e inp k).length ≤ 2 * k
  | 0 => by simp [fu]
  | k + 1 => by have := l6 e inp k; have := xV e inp k; simp only [fu, List.length_append]; omega
theorem AM {gs : List (List aP)} (inp : Int) (h : ∀ e ∈ gs, e.length ≤ 1000) : ∀ k, (gK gs inp k).length ≤ 2000 * k
  | 0 => by simp [gK]
  | k + 1 => by
    have := AM inp h k
    have h1 := l6 (gs[k]?.getD []) inp (gs[k]?.getD []).length
    have h2 : (gs[k]?.getD []).length ≤ 1000 := by
      cases hg : gs[k]? with
      | none => simp
      | some e => exact h e (List.mem_of_getElem? hg)
    simp only [gK, List.length_append]; omega
theorem nA {gs : List (List aP)} {inp : Int} {k : Nat} (hk : k < gs.length) : gK gs inp (k + 1) = gK gs inp k ++ fu gs[k] inp gs[k].length := by rw [gK, List.getElem?_eq_getElem hk, Option.getD_some]
theorem cut_t {e : List aP} {inp : Int} {j : Nat} (hj : j < e.length) (h1 : dg e[j].1 = true) (h2 : (cn e j).2.2 = true) (h3 : (cn e j).1 = inp) (h4 : (cn e j).2.1.1 ≠ 6) : fu e inp (j + 1) = fu e inp j ++ sG (cn e j).2.1.2 := by
  rw [fu, kS, List.getElem?_eq_getElem hj, Option.getD_some, if_pos ⟨h1, h2, h3, h4⟩]
theorem Dc {e : List aP} {inp : Int} {j : Nat} (hj : j < e.length) (h : ¬ (dg e[j].1 = true ∧ (cn e j).2.2 = true ∧ (cn e j).1 = inp ∧ (cn e j).2.1.1 ≠ 6)) : fu e inp (j + 1) = fu e inp j := by
  rw [fu, kS, List.getElem?_eq_getElem hj, Option.getD_some, if_neg h, List.append_nil]
theorem up {e : List aP} {inp : Int} (h : (bH e).2.2 ≠ 0) : ∀ k, fu e inp k = []
  | 0 => rfl
  | k + 1 => by
    have hs : (cn e k).2.2 = false := by unfold cn; rw [if_pos (by unfold cV; rw [if_pos (.inl h)]; simp)]
    rw [fu, up h k, kS, if_neg (by rw [hs]; simp)]; rfl
theorem cutN_t {n : Int} (h : n < 9223372036854775807) (X : List Int) : X ++ sG n = X ++ [n] ++ [n + 1] := by rw [sG, if_pos h]; simp
theorem cutN_f {n : Int} (h : ¬ n < 9223372036854775807) (X : List Int) : X ++ sG n = X ++ [n] := by rw [sG, if_neg h]
theorem Ca {e : List aP} (hn : ∀ d ∈ e, d.2 ≤ 9223372036854775807) (a : Int) : (cn e a).2.1.2 ≤ 9223372036854775807 := by
  have hg : ∀ i : Nat, (e[i]?.getD (0, 0)).2 ≤ 9223372036854775807 := fun i => by
    cases h : e[i]? with
    | none => simp
    | some d => exact hn d (List.mem_of_getElem? h)
  unfold cn; (repeat' split)
  · simp
  · exact hg _
  · exact hg _
  simp
theorem B9 {e : List aP} (hn : ∀ d ∈ e, -9223372036854775808 ≤ d.2) (a : Int) : -9223372036854775808 ≤ (cn e a).2.1.2 := by
  have hg : ∀ i : Nat, -9223372036854775808 ≤ (e[i]?.getD (0, 0)).2 := fun i => by
    cases h : e[i]? with
    | none => simp
    | some d => exact hn d (List.mem_of_getElem? h)
  unfold cn; (repeat' split)
  · simp
  · exact hg _
  · exact hg _
  simp
theorem uq (zs : List Int) : (xX zs).take (Lib.compact zs).length = Lib.compact zs := List.take_left' rfl
theorem sE (gs : List (List aP)) (inp : Int) (hgl0 : gs.length ≤ 100) (hl : ∀ e ∈ gs, e.length ≤ 1000) (hm : ∀ e ∈ gs, ∀ d ∈ e, d.2 ≤ 9223372036854775807) (hmn : ∀ e ∈ gs, ∀ d ∈ e, -9223372036854775808 ≤ d.2) : Ct prog 27 [.tv (ab (ab bX)) gs, .raw (.int .i64 inp)] (.tv (ab (ak .i64)) (cj (gK gs inp gs.length))) := by
  refine ay func27 rfl rfl ntmps27 rfl rfl ?_
  intro w0 ok0
  refine zR (zY rfl (aa (zR (zY rfl (aa (ae (zR (zM rfl (zN sZ rfl (zM rfl (zZ (aq ?_))))))))))))
  refine eO 70 5 (ak .i64) rfl rfl rfl ?_
  refine aZ (ι := Nat) (fun k => ⟨[(1, .raw (.int .i64 (inp))), (5, .own 70 (ak .i64).n 0 (gK gs inp k).length), (15, .tv (ab (ab bX)) gs), (16, .raw (.int .i64 (gs.length))), (17, .raw (.int .i64 ((k : Nat))))], [(70, ⟨ak .i64, (gK gs inp k)⟩)]⟩) (fun k => k ≤ gs.length) (fun k => gs.length - k) 0 (Nat.zero_le _) (fun a w hi => (zI hi)) ?_
  rintro k hk
  have hgl := AM inp hl k
  refine zR (zt rfl rfl (zZ (ae ?_)))
  refine af rfl (fun h3 => ?_) (fun h3 => ?_)
  · try simp at h3
    refine ah (aa (ae (aq (zR ?_))))
    refine bc _ rfl _ rfl rfl (al sZ hP (.b rfl) (.b rfl) rfl zg) ?_
    refine zD hP rfl (zY rfl (aa (ae (zR (zM rfl (zJ (an (n4 _) (.cons (.b rfl) .nil) rfl rfl) (zM rfl (zJ (bj (.b rfl)) (zJ (bi (.b rfl)) (zA rfl (zY rfl (aa (zR (zM rfl (zJ (bQ (.b rfl) (.b rfl)) (zZ ?_))))))))))))))))
    refine af rfl (fun h6 => ?_) (fun h6 => ?_)
    · have hg := nA (inp := inp) (show k < gs.length by omega)
      rw [up (by simpa using h6), List.append_nil] at hg
      refine bg (be (bf (aa (ac (zU rfl rfl zw (zM rfl (aN ?_)))))))
      exact aD (fun a w hi => ⟨k + 1, zo, zo, Sub.inv ⟨(by repeat (first | exact aQ | refine aM rfl (by first | rfl | exact congrArg (SV.own 70 (ak .i64).n 0) (by rw [hg]; try simp; try omega)) ?_)), (by repeat (first | exact bn | refine aL rfl (by first | rfl | (refine congrArg (HB.mk (ak .i64)) ?_; rw [hg]; try (simp only [List.drop_zero, List.take_of_length_le (Nat.le_refl _), List.append_assoc]); first | done | rfl | (simp; done) | (rw [List.take_of_length_le (by simp only [List.length_append, List.length_cons, List.length_nil]; omega)]; simp; done))) ?_))⟩ hi⟩)
    skip
    refine ah (aa (ae ?_))
    have hk' : k < gs.length := by omega
    have hel := hl _ (List.getElem_mem hk')
    have hem := hm _ (List.getElem_mem hk')
    refine ac (zM rfl (zN fB rfl (zM rfl (zZ (aq ?_)))))
    refine aZ (ι := Nat) (fun j => ⟨[(1, .raw (.int .i64 (inp))), (5, .own 70 (ak .i64).n 0 (gK gs inp k ++ fu gs[k] inp j).length), (7, .tv (ab bX) gs[k]), (15, .tv (ab (ab bX)) gs), (16, .raw (.int .i64 (gs.length))), (17, .raw (.int .i64 ((k : Nat)))), (28, .tv (ab bX) gs[k]), (29, .raw (.int .i64 (gs[k].length))), (30, .raw (.int .i64 ((j : Nat))))], [(70, ⟨ak .i64, (gK gs inp k ++ fu gs[k] inp j)⟩)]⟩) (fun j => j ≤ gs[k].length) (fun j => gs[k].length - j) 0 (Nat.zero_le _) (fun a w hi => (Sub.inv ⟨(by repeat (first | exact aQ | refine aM rfl (by first | rfl | exact congrArg (SV.own 70 (ak .i64).n 0) (by simp [fu])) ?_)), (by repeat (first | exact bn | refine aL rfl (by first | rfl | (refine congrArg (HB.mk (ak .i64)) ?_; simp [fu]; done)) ?_))⟩ hi)) ?_
    rintro j hj
    have hcl := l6 gs[k] inp j
    have hil : (gK gs inp k ++ fu gs[k] inp j).length ≤ 3000000 := by simp only [List.length_append]; omega
    refine zR (zt rfl rfl (zZ (ae ?_)))
    refine af rfl (fun h8 => ?_) (fun h8 => ?_)
    · simp at h8
      have hj' : j < gs[k].length := by omega
      refine ah (aa (ae (aq (zR (zM rfl ?_)))))
      refine bc _ rfl _ rfl rfl (al fB cl (.b rfl) (.b rfl) rfl zg) ?_
      refine zD cl rfl (zl kT (zA rfl (zC cl rfl rfl rfl (Lens.id _) (.tv (.b rfl)) (zZ (ae (zR (zL cl rfl rfl rfl (Lens.id _) (zJ (an (kR _) (.cons (.b rfl) .nil) rfl rfl) (zJ (b6 (.b rfl)) (zZ ?_))))))))))
      refine af rfl (fun h10 => ?_) (fun h10 => ?_)
      · have hc := Dc (e := gs[k]) (inp := inp) hj' (fun q => by simp [q.1] at h10)
        refine bg (be (bf (aa (ac (zU rfl rfl zw (zM rfl (aN ?_)))))))
        exact aD (fun a w hi => ⟨j + 1, zo, zo, Sub.inv ⟨(by repeat (first | exact aQ | refine aM rfl (by first | rfl | exact congrArg (SV.own 70 (ak .i64).n 0) (by rw [hc]; try simp; try omega)) ?_)), (by repeat (first | exact bn | refine aL rfl (by first | rfl | (refine congrArg (HB.mk (ak .i64)) ?_; rw [hc]; try (simp only [List.drop_zero, List.take_of_length_le (Nat.le_refl _), List.append_assoc]); first | done | rfl | (simp; done) | (rw [List.take_of_length_le (by simp only [List.length_append, List.length_cons, List.length_nil]; omega)]; simp; done))) ?_))⟩ hi⟩)
      have k10 : dg (gs[k][j]).1 = true := by simpa using h10
      refine ah (aa (zR (zM rfl (zM rfl (zJ (an (pK _ _) (.cons (.b rfl) (.cons (.b rfl) .nil)) rfl rfl) (zM rfl (zJ (d7 (.b rfl)) (zJ (d6 (.b rfl)) (zJ (d5 (.b rfl)) (zl kT (zA rfl (zC cl rfl rfl rfl (Lens.id _) (.tv (.b rfl)) (zY rfl (aa (ae (zR (zM rfl (zJ (b6 (.b rfl)) (zM rfl (zG rfl rfl (fun hg => ag (.b rfl)) (zG rfl rfl (fun hg => ag (.b rfl)) (zG rfl rfl (fun hg => bQ (.gd rfl hg) (.gd rfl hg)) (zJ (aB (.b rfl) (.b rfl) rfl zp) (zM rfl (zG rfl rfl (fun hg => ao bU (.b rfl)) (zG rfl rfl (fun hg => aj ty3 (.gd rfl hg) rfl rfl cb) (zG rfl rfl (fun hg => ca (.gd rfl hg) (.b rfl)) (zJ (aB (.b rfl) (.b rfl) rfl zp) (zZ ?_)))))))))))))))))))))))))))))
      refine af rfl (fun h12 => ?_) (fun h12 => ?_)
      · have hc := Dc (e := gs[k]) (inp := inp) hj' (fun q => by have q1 := q.2.1; have q2 := q.2.2.1; have q3 := q.2.2.2; simp [q1, q2, q3] at h12)
        refine bg (be (bf (aa (ac (zU rfl rfl zw (zM rfl (zQ [1,5,7,15,16,17,28,29,30] [70] ?_)))))))
        exact aD (fun a w hi => ⟨j + 1, zo, zo, Sub.inv ⟨(by repeat (first | exact aQ | refine aM rfl (by first | rfl | exact congrArg (SV.own 70 (ak .i64).n 0) (by rw [hc]; try simp; try omega)) ?_)), (by repeat (first | exact bn | refine aL rfl (by first | rfl | (refine congrArg (HB.mk (ak .i64)) ?_; rw [hc]; try (simp only [List.drop_zero, List.take_of_length_le (Nat.le_refl _), List.append_assoc]); first | done | rfl | (simp; done) | (rw [List.take_of_length_le (by simp only [List.length_append, List.length_cons, List.length_nil]; omega)]; simp; done))) ?_))⟩ hi⟩)
      have k12 : ((cn gs[k] j).2.2 = true ∧ (cn gs[k] j).1 = inp) ∧ (cn gs[k] j).2.1.1 ≠ 6 := by simpa using h12
      have hN := Ca hem j
      have hN0 := B9 (hmn _ (List.getElem_mem hk')) j
      have hct := cut_t (e := gs[k]) (inp := inp) hj' k10 k12.1.1 k12.1.2 k12.2
      refine ah (aa (zR (zM rfl (zF bT rfl (zL ty3 rfl rfl rfl ce (zJ (bq (rt := (ak .i64)) bd ty3 z3 rfl (.cons (.raw (.b rfl) rfl) .nil) rfl rfl) (zV [1,7,13,15,16,17,28,29,30] bd ty3 z3 by3 rfl rfl (.tv (.b rfl)) ?_)))))))
      refine zY rfl (aa (zR (zF bT rfl (zL ty3 rfl rfl rfl ce (zt rfl rfl (zZ ?_))))))
      refine af rfl (fun h14 => ?_) (fun h14 => ?_)
      · have k14 : (cn gs[k] j).2.1.2 < 9223372036854775807 := by simpa using h14
        have hc := hct
        rw [cutN_t k14] at hc
        refine ac (zM rfl (zF bT rfl (zL ty3 rfl rfl rfl ce (zU rfl rfl zw (zJ (bq (rt := (ak .i64)) bd ty3 z3 rfl (.cons (.raw (.b rfl) rfl) .nil) rfl rfl) (zV [1,7,15,16,17,28,29,30] bd ty3 z3 by3 rfl rfl (.tv (.b rfl)) ?_))))))
        refine zY rfl (aG (aa (ac (zU rfl rfl zw (zM rfl (aN ?_))))))
        exact aD (fun a w hi => ⟨j + 1, zo, zo, Sub.inv ⟨(by repeat (first | exact aQ | refine aM rfl (by first | rfl | exact congrArg (SV.own 70 (ak .i64).n 0) (by rw [hc]; try simp; try omega)) ?_)), (by repeat (first | exact bn | refine aL rfl (by first | rfl | (refine congrArg (HB.mk (ak .i64)) ?_; rw [hc]; try (simp only [List.drop_zero, List.take_of_length_le (Nat.le_refl _), List.append_assoc]); first | done | rfl | (simp; done) | (rw [List.take_of_length_le (by simp only [List.length_append, List.length_cons, List.length_nil]; omega)]; simp; done))) ?_))⟩ hi⟩)
      have k14 : ¬ (cn gs[k] j).2.1.2 < 9223372036854775807 := by simpa using h14
      have hc := hct
      rw [cutN_f k14] at hc
      refine ah (aG (aa (ac (zU rfl rfl zw (zM rfl (aN ?_))))))
      exact aD (fun a w hi => ⟨j + 1, zo, zo, Sub.inv ⟨(by repeat (first | exact aQ | refine aM rfl (by first | rfl | exact congrArg (SV.own 70 (ak .i64).n 0) (by rw [hc]; try simp; try omega)) ?_)), (by repeat (first | exact bn | refine aL rfl (by first | rfl | (refine congrArg (HB.mk (ak .i64)) ?_; rw [hc]; try (simp only [List.drop_zero, List.take_of_length_le (Nat.le_refl _), List.append_assoc]); first | done | rfl | (simp; done) | (rw [List.take_of_length_le (by simp only [List.length_append, List.length_cons, List.length_nil]; omega)]; simp; done))) ?_))⟩ hi⟩)
    simp at h8
    have hjj : j = gs[k].length := by omega
    subst hjj
    have hg := nA (inp := inp) hk'
    refine bg (be (aY (bf (aG (aa (ac (zU rfl rfl zw (zM rfl (aN ?_)))))))))
    exact aD (fun a w hi => ⟨k + 1, zo, zo, Sub.inv ⟨(by repeat (first | exact aQ | refine aM rfl (by first | rfl | exact congrArg (SV.own 70 (ak .i64).n 0) (by rw [hg]; try simp; try omega)) ?_)), (by repeat (first | exact bn | refine aL rfl (by first | rfl | (refine congrArg (HB.mk (ak .i64)) ?_; rw [hg]; try (simp only [List.drop_zero, List.take_of_length_le (Nat.le_refl _), List.append_assoc]); first | done | rfl | (simp; done) | (rw [List.take_of_length_le (by simp only [List.length_append, List.length_cons, List.length_nil]; omega)]; simp; done))) ?_))⟩ hi⟩)
  try simp at h3
  refine bg (be (aY (bf (aa (ae ?_)))))
  have hkk : k = gs.length := by omega
  subst hkk
  refine ac (zM rfl (zO (q9 iN (.b rfl) rfl (by rfl) zo (fun _ => rfl) rfl) (zZ (zR (zM rfl (zO (j1 fk (.b rfl) rfl (by rw [List.length_mergeSort]) (by rw [List.length_mergeSort]; omega) rfl) (zY rfl (aa (am ?_)))))))))
  refine cY (rt := ak .i64) 70 4 (b8 70 _) rfl rfl (by rw [je, Nat.zero_add]; exact Lib.compact_length_le _) (bl 70 _) (bC 70 _) ?_
  exact z1 results27 rfl (congrArg (SV.tv (ab (ak .i64))) (by simp only [List.drop_zero, List.take_of_length_le (Nat.le_refl _), uq]; rfl))
def rng (lo : Int) (k : Nat) : List Int := (List.range k).map (fun (i : Nat) => lo + (i : Int))
theorem tu (lo : Int) (k : Nat) : rng lo (k + 1) = rng lo k ++ [lo + (k : Int)] := by simp [rng, List.range_succ]
theorem vK (lo : Int) (k : Nat) : (rng lo k).length = k := by simp [rng]
def inR (lo hi : Int) (c : Int) : Bool := decide (lo ≤ c) && decide (c ≤ hi)
def dF (t : bE) (en : List bV) (cuts : List Int) : List Int :=
  if au t en = false then [] else if t.1 = 1 ∨ t.1 = 6 then rng (aJ t en).1 ((aJ t en).2 - (aJ t en).1 + 1).toNat
  else cj ([(aJ t en).1] ++ cuts.filter (inR (aJ t en).1 (aJ t en).2))
theorem rC {t : bE} {en : List bV} (h : au t en = true) : (aJ t en).1 ≤ (aJ t en).2 + 1 ∧ (¬ (t.1 = 1 ∨ t.1 = 6) → (aJ t en).1 ≤ (aJ t en).2) := by
  unfold aJ
  rw [if_neg (by simp [h])]
  (repeat' split) <;> first | (simp; done) | skip
  have : 0 ≤ j2 en t.2 := by unfold j2; omega
  refine ⟨by simp; omega, fun q => ?_⟩
  unfold au at h
  (repeat' split at h) <;> first | omega | (exfalso; omega) | simp at h
theorem vm {t : bE} {en : List bV} (hen : ∀ x ∈ en, x.2.length ≤ 100000) : -1000000000000000 ≤ (aJ t en).1 ∧ (aJ t en).1 ≤ 0 ∧ (aJ t en).2 ≤ 1000000000000000 := by
  have hm : j2 en t.2 ≤ 100000 := by
    unfold j2
    cases h : en[t.2.toNat]? with
    | none => simp
    | some x => have := hen x (List.mem_of_getElem? h); simp; omega
  unfold aJ; (repeat' split) <;> simp <;> omega
theorem sL {t : bE} {en : List bV} (hen : ∀ x ∈ en, x.2.length ≤ 100000) (hk : t.1 = 1 ∨ t.1 = 6) : (aJ t en).2 ≤ 100000 ∧ (aJ t en).1 = 0 := by
  have hm : j2 en t.2 ≤ 100000 := by
    unfold j2
    cases h : en[t.2.toNat]? with
    | none => simp
    | some x => have := hen x (List.mem_of_getElem? h); simp; omega
  unfold aJ; (repeat' split) <;> first | (simp; done) | (simp; omega) | (exfalso; omega)
theorem BU (t : bE) (en : List bV) (cuts : List Int) (hcl : cuts.length ≤ 10000) (hen : ∀ x ∈ en, x.2.length ≤ 100000) : Ct prog 26 [.tv aX t, .tv (ab cX) en, .tv (ab (ak .i64)) cuts] (.tv (ab (ak .i64)) (dF t en cuts)) := by
  refine ay func26 rfl rfl ntmps26 rfl rfl ?_
  intro w0 ok0
  refine zR (zb (.tv (.b rfl)) (zY rfl (aa (ae (zR (zL aE rfl rfl rfl (Lens.id _) (zM rfl (zJ (an (db _ _) (.cons (.b rfl) (.cons (.b rfl) .nil)) rfl rfl) (zJ (b6 (.b rfl)) (zZ ?_))))))))))
  refine af rfl (fun h1 => ?_) (fun h1 => ?_)
  · have hv : au t en = false := by simpa using h1
    refine zR (zY rfl (aa (am (ai ?_))))
    exact cv results26 (dl rfl) rfl (congrArg (SV.tv (ab (ak .i64))) (by unfold dF; rw [if_pos hv]))
  have hv : au t en = true := by simpa using h1
  refine ah (aa (zR (zL aE rfl rfl rfl (Lens.id _) (zM rfl (zJ (an (iU _ _) (.cons (.b rfl) (.cons (.b rfl) .nil)) rfl rfl) (zM rfl (zJ (bj (.b rfl)) (zJ (bi (.b rfl)) (zA rfl (zY rfl (aa (zR (zY rfl (aa (ae (ae ?_))))))))))))))))
  have hba := vm (t := t) hen
  refine ac (zF bR rfl (zL ty3 rfl rfl rfl bN (ze rfl rfl (zM rfl (zG rfl rfl (fun hg => ao bR (.b rfl)) (zG rfl rfl (fun hg => aj ty3 (.gd rfl hg) rfl rfl bN) (zG rfl rfl (fun hg => ca (.gd rfl hg) (.b rfl)) (zJ (aB (.b rfl) (.b rfl) rfl zp) (zZ ?_)))))))))
  refine af rfl (fun h5 => ?_) (fun h5 => ?_)
  · have hk5 : t.1 = 1 ∨ t.1 = 6 := by simp at h5; omega
    obtain ⟨hb1, hb2⟩ := sL (en := en) hen hk5
    have hb3 := (rC hv).1
    refine ae (zR (zM rfl (zY rfl (aa (aq ?_)))))
    refine eO 70 9 (ak .i64) rfl rfl rfl ?_
    refine aZ (ι := Nat) (fun k => ⟨[(8, .raw (.int .i64 ((aJ t en).2))), (9, .own 70 (ak .i64).n 0 (rng (aJ t en).1 k).length), (10, .raw (.int .i64 ((aJ t en).1 + (k : Nat))))], [(70, ⟨ak .i64, (rng (aJ t en).1 k)⟩)]⟩) (fun k => (k : Int) ≤ (aJ t en).2 + 1 - (aJ t en).1) (fun k => ((aJ t en).2 + 1 - (aJ t en).1).toNat - k) 0 zo (fun a w hi => (Sub.inv ⟨(by repeat (first | exact aQ | refine aM rfl (by first | rfl | exact congrArg (fun z => SV.raw (.int .i64 z)) (by simp)) ?_)), (by repeat (first | exact bn | refine aL rfl (by first | rfl | (simp; done) | assumption) ?_))⟩ hi)) ?_
    rintro k hk
    have hrl := vK (aJ t en).1 k
    refine ae (zR (zM rfl (zM rfl (zJ (ew (.b rfl) (.b rfl)) (zZ ?_)))))
    refine af rfl (fun h7 => ?_) (fun h7 => ?_)
    · try simp at h7
      refine ah (aa (ae (aq (ac (zM rfl (zM rfl (zJ (bq (rt := (ak .i64)) bd ty3 z3 rfl (.cons (.raw (.b rfl) rfl) .nil) rfl rfl) (zV [8,10] bd ty3 z3 by3 rfl rfl (.tv (.b rfl)) ?_))))))))
      refine zY rfl (aG (aa (ac (zM rfl (zU rfl rfl zw (zY rfl ?_))))))
      exact aD (fun a w hi => ⟨k + 1, zo, zo, Sub.inv ⟨(by repeat (first | exact aQ | refine aM rfl (by first | rfl | exact congrArg (SV.own 70 (ak .i64).n 0) (by rw [tu (aJ t en).1 k]; try simp; try omega) | exact congrArg (fun z => SV.raw (.int .i64 z)) zo) ?_)), (by repeat (first | exact bn | refine aL rfl (by first | rfl | (refine congrArg (HB.mk (ak .i64)) ?_; rw [tu (aJ t en).1 k]; try (simp only [List.drop_zero, List.take_of_length_le (Nat.le_refl _)]); first | done | rfl | (simp; done))) ?_))⟩ hi⟩)
    try simp at h7
    refine bg (be (aY (bf (aa (ae (ac (zM rfl (zY rfl (aa (am (ai ?_)))))))))))
    refine cY (rt := ak .i64) 70 6 (b8 70 _) rfl rfl (by simp) (bl 70 _) (bC 70 _) ?_
    exact z1 results26 rfl (congrArg (SV.tv (ab (ak .i64))) (by rw [List.drop_zero, List.take_of_length_le (Nat.le_refl _)]; unfold dF; rw [if_neg (by simp [hv]), if_pos hk5]; congr 1; omega))
  have hk5 : ¬ (t.1 = 1 ∨ t.1 = 6) := by simp at h5; omega
  have hb3 := (rC hv).2 hk5
  refine ah (aa (ae ?_))
  refine eO 70 9 (ak .i64) rfl rfl rfl ?_
  refine ac (zM rfl (zM rfl (zJ (bq (rt := (ak .i64)) bd ty3 z3 rfl (.cons (.raw (.b rfl) rfl) .nil) rfl rfl) (zV [2,7,8] bd ty3 z3 by3 rfl rfl (.tv (.b rfl)) ?_))))
  refine zY rfl (aa (ae (zR (zM rfl (zN bd rfl (zM rfl (zZ (aq ?_))))))))
  refine aZ (ι := Nat) (fun j => ⟨[(7, .raw (.int .i64 ((aJ t en).1))), (8, .raw (.int .i64 ((aJ t en).2))), (9, .own 70 (ak .i64).n 0 ([(aJ t en).1] ++ (cuts.take j).filter (inR (aJ t en).1 (aJ t en).2)).length), (46, .tv (ab (ak .i64)) cuts), (47, .raw (.int .i64 (cuts.length))), (48, .raw (.int .i64 ((j : Nat))))], [(70, ⟨ak .i64, ([(aJ t en).1] ++ (cuts.take j).filter (inR (aJ t en).1 (aJ t en).2))⟩)]⟩) (fun j => j ≤ cuts.length) (fun j => cuts.length - j) 0 (Nat.zero_le _) (fun a w hi => (zI hi)) ?_
  rintro j hj
  have hfl := AX (p := inR (aJ t en).1 (aJ t en).2) (l := cuts) (k := j)
  have hrl : ([(aJ t en).1] ++ (cuts.take j).filter (inR (aJ t en).1 (aJ t en).2)).length ≤ cuts.length + 1 := by simp only [List.length_append, List.length_cons, List.length_nil]; omega
  refine zR (zt rfl rfl (zZ (ae ?_)))
  refine af rfl (fun h13 => ?_) (fun h13 => ?_)
  · try simp at h13
    refine ah (aa (ae (aq (zR ?_))))
    refine bc _ rfl _ rfl rfl (al bd ty3 (.b rfl) (.b rfl) rfl zg) ?_
    refine zD ty3 rfl (zY rfl (aa (zR (zM rfl (zM rfl (zJ (bW (.b rfl) (.b rfl)) (zM rfl (zG rfl rfl (fun hg => ag (.b rfl)) (zG rfl rfl (fun hg => ag (.b rfl)) (zG rfl rfl (fun hg => ew (.gd rfl hg) (.gd rfl hg)) (zJ (aF (.b rfl) (.b rfl) rfl zp) (zQ [7,8,9,12,46,47,48,59] [70] (aa ?_)))))))))))))
    refine af rfl (fun h15 => ?_) (fun h15 => ?_)
    · have hc := filt_t (p := inR (aJ t en).1 (aJ t en).2) (l := cuts) (k := j) zo (by simpa [inR] using h15)
      refine ac (zM rfl (zM rfl (zJ (bq (rt := (ak .i64)) bd ty3 z3 rfl (.cons (.raw (.b rfl) rfl) .nil) rfl rfl) (zV [7,8,46,47,48] bd ty3 z3 by3 rfl rfl (.tv (.b rfl)) ?_))))
      refine zY rfl (aG (aa (ac (zU rfl rfl zw (zM rfl (aN ?_))))))
      exact aD (fun a w hi => ⟨j + 1, zo, zo, Sub.inv ⟨(by repeat (first | exact aQ | refine aM rfl (by first | rfl | exact congrArg (SV.own 70 (ak .i64).n 0) (by rw [hc]; try simp; try omega) | exact congrArg (fun z => SV.raw (.int .i64 z)) zo) ?_)), (by repeat (first | exact bn | refine aL rfl (by first | rfl | (refine congrArg (HB.mk (ak .i64)) ?_; rw [hc]; try (simp only [List.drop_zero, List.take_of_length_le (Nat.le_refl _)]); first | done | rfl | (simp; done))) ?_))⟩ hi⟩)
    have hc := filt_f (p := inR (aJ t en).1 (aJ t en).2) (l := cuts) (k := j) zo (by simpa [inR] using h15)
    refine ah (aG (aa (ac (zU rfl rfl zw (zM rfl (aN ?_))))))
    exact aD (fun a w hi => ⟨j + 1, zo, zo, Sub.inv ⟨(by repeat (first | exact aQ | refine aM rfl (by first | rfl | exact congrArg (SV.own 70 (ak .i64).n 0) (by rw [hc]; try simp; try omega) | exact congrArg (fun z => SV.raw (.int .i64 z)) zo) ?_)), (by repeat (first | exact bn | refine aL rfl (by first | rfl | (refine congrArg (HB.mk (ak .i64)) ?_; rw [hc]; try (simp only [List.drop_zero, List.take_of_length_le (Nat.le_refl _)]); first | done | rfl | (simp; done))) ?_))⟩ hi⟩)
  try simp at h13
  refine bg (be (aY (bf (aa (ae ?_)))))
  have hjj : j = cuts.length := by omega
  subst hjj
  refine ac (zM rfl (zO (q9 iN (.b rfl) rfl (by rfl) zo (fun _ => rfl) rfl) (zZ (zR (zM rfl (zO (j1 fk (.b rfl) rfl (by rw [List.length_mergeSort]) (by rw [List.length_mergeSort]; omega) rfl) (zY rfl (aa (am ?_)))))))))
  refine cY (rt := ak .i64) 70 6 (b8 70 _) rfl rfl (by rw [je, Nat.zero_add]; exact Lib.compact_length_le _) (bl 70 _) (bC 70 _) ?_
  exact z1 results26 rfl (congrArg (SV.tv (ab (ak .i64))) (by simp only [List.drop_zero, List.take_of_length_le (Nat.le_refl _), uq]; unfold dF; rw [if_neg (by simp [hv]), if_neg hk5]; rfl))
open Go.Eng
theorem oa {l : List Int} {n : Int} : ∀ k, k ≤ l.length → (ob l n k = -1 ∧ ∀ j (hj : j < l.length), j < k → n < l[j]) ∨ ∃ K, ∃ hK : K < l.length, K < k ∧ ob l n k = (K : Int) ∧ l[K] ≤ n ∧ ∀ j (hj : j < l.length), K < j → j < k → n < l[j]
  | 0, _ => .inl ⟨rfl, fun j _ h => absurd h zo⟩
  | k + 1, hk => by
    have hk' : k < l.length := by omega
    by_cases q : l[k] ≤ n
    · exact .inr ⟨k, hk', by omega, locK_t hk' q, q, fun j _ h1 h2 => absurd h1 zo⟩
    rw [locK_f hk' q]
    rcases oa (l := l) (n := n) k zo with ⟨h1, h2⟩ | ⟨K, hK, h1, h2, h3, h4⟩
    · refine .inl ⟨h1, fun j hj h => ?_⟩
      rcases Nat.lt_or_ge j k with r | r
      · exact h2 j hj r
      have : j = k := by omega
      subst this; omega
    refine .inr ⟨K, hK, by omega, h2, h3, fun j hj q1 q2 => ?_⟩
    rcases Nat.lt_or_ge j k with r | r
    · exact h4 j hj q1 r
    have : j = k := by omega
    subst this; omega
end Go.Proofs.YtehcaebnijlhgaaGreatDoor.C23
namespace Go.Proofs.YtehcaebnijlhgaaGreatDoor
open Go.Eng
set_option maxRecDepth 100000
set_option maxHeartbeats 1000000
abbrev Sg := List aP × bE
def eX : Nat → List Sg → List Int
  | _, [] => []
  | a, x :: r => (a : Int) :: eX (a + x.1.length) r
def flat : List Sg → List aP
  | [] => []
  | x :: r => x.1 ++ flat r
def Good (s : a6) (p : Nat) (x : Sg) : Prop := x.1 ≠ [] ∧
  (∀ (L : Int) (r : List aP) (i : Nat) (stack starts : List Int), stack.length ≤ p → ∃ ss, ss.length = x.1.length ∧ eq L (x.1 ++ r) i stack starts = eq L r (i + x.1.length) (stack ++ [(i : Int)]) (starts ++ ss)) ∧
  (∀ (r : List aP) (i : Nat) (st : List bE), iW s (x.1 ++ r) i st = iW s r (i + x.1.length) (st ++ [x.2]))
def lK (s : a6) : Nat → List Sg → Prop
  | _, [] => True
  | p, x :: r => Good s p x ∧ lK s (p + 1) r
theorem fb : ∀ (a : Nat) (l : List Sg), (eX a l).length = l.length
  | _, [] => rfl
  | a, x :: r => by simp [eX, fb]
theorem fY : ∀ (x y : List Sg), flat (x ++ y) = flat x ++ flat y
  | [], y => rfl
  | a :: x, y => by simp [flat, fY x y]
theorem jt : ∀ (a : Nat) (x y : List Sg), eX a (x ++ y) = eX a x ++ eX (a + (flat x).length) y
  | a, [], y => by simp [eX, flat]
  | a, b :: x, y => by simp [eX, flat, jt _ x y, Nat.add_assoc]
theorem kK {s : a6} : ∀ (p : Nat) (x y : List Sg), lK s p (x ++ y) ↔ lK s p x ∧ lK s (p + x.length) y
  | p, [], y => by simp [lK]
  | p, a :: x, y => by
    simp only [List.cons_append, lK, kK (p + 1) x y, List.length_cons, and_assoc]
    rw [show p + 1 + x.length = p + (x.length + 1) by omega]
theorem qn {s : a6} : ∀ (p : Nat) (l : List Sg), lK s p l → ∀ (L : Int) (r : List aP) (i : Nat) (stack starts : List Int), stack.length ≤ p → ∃ ss, ss.length = (flat l).length ∧ eq L (flat l ++ r) i stack starts = eq L r (i + (flat l).length) (stack ++ eX i l) (starts ++ ss)
  | p, [], _, L, r, i, stack, starts, _ => ⟨[], rfl, by simp [flat, eX]⟩
  | p, x :: l, ⟨h1, h2⟩, L, r, i, stack, starts, hp => by
    obtain ⟨s1, l1, e1⟩ := h1.2.1 L (flat l ++ r) i stack starts hp
    obtain ⟨s2, l2, e2⟩ := qn (p + 1) l h2 L r (i + x.1.length) (stack ++ [(i : Int)]) (starts ++ s1) (by simp; omega)
    refine ⟨s1 ++ s2, by simp [flat, l1, l2], ?_⟩
    rw [flat, List.append_assoc, e1, e2]
    simp [eX, Nat.add_assoc]
theorem qm {s : a6} : ∀ (p : Nat) (l : List Sg), lK s p l → ∀ (r : List aP) (i : Nat) (st : List bE), iW s (flat l ++ r) i st = iW s r (i + (flat l).length) (st ++ l.map (·.2))
  | p, [], _, r, i, st => by simp [flat]
  | p, x :: l, ⟨h1, h2⟩, r, i, st => by
    rw [flat, List.append_assoc, h1.2.2, qm (p + 1) l h2]
    simp [Nat.add_assoc]
theorem xH {s : a6} {p : Nat} {l : List Sg} {d : aP} (h : lK s p l) (ha : bp d.1 = l.length) (hp : p + 1 ≤ 12) (h2 : ¬ (d.2 ≠ 0 ∧ dE d.1 = false)) (h3 : (bG d (l.map (·.2)) s).2 = 0) :
    Good s p (flat l ++ [d], (bG d (l.map (·.2)) s).1) := by
  refine ⟨by simp, fun L r i stack starts hs => ?_, fun r i st => ?_⟩
  · obtain ⟨ss, l1, e1⟩ := qn p l h L (d :: r) i stack starts hs
    have el : (((stack ++ eX i l).length : Int) - bp d.1).toNat = stack.length := by rw [ha]; simp [fb]
    have ef : (if 0 < bp d.1 then (stack ++ eX i l)[stack.length]?.getD 0 else ((i + (flat l).length : Nat) : Int)) = (i : Int) := by
      cases l with
      | nil => rw [ha]; simp [flat]
      | cons x l => rw [ha]; rw [if_pos (by simp)]; simp [eX]
    refine ⟨ss ++ [(i : Int)], by simp [l1], ?_⟩
    rw [show ((flat l ++ [d], (bG d (l.map (·.2)) s).1) : Sg).1 = flat l ++ [d] from rfl, List.append_assoc, List.singleton_append, e1, eq, if_neg (by rw [ha]; omega), if_neg (by rw [ha]; simp [fb]; omega), el,
      List.take_left' rfl, if_neg zo, ef]
    simp [Nat.add_assoc, List.append_assoc]
  rw [show ((flat l ++ [d], (bG d (l.map (·.2)) s).1) : Sg).1 = flat l ++ [d] from rfl, List.append_assoc, List.singleton_append, qm p l h, iW, if_neg h2]
  have eb : iX d (st ++ l.map (·.2)) = st.length := by unfold iX; rw [ha]; simp
  rw [eb, List.drop_left' rfl, List.take_left' rfl, if_neg (by simp [h3])]
  simp [Nat.add_assoc]
def Run (e : List aP) (s : a6) (k : Nat) (l : List Sg) : Prop := ∃ starts : List Int, fv starts k (eX 0 l).reverse ∧ starts.length = k ∧ eq e.length (e.drop k) k (eX 0 l) starts = bH e ∧
  iW s (e.drop k) k (l.map (·.2)) = dR e s ∧ flat l = e.take k ∧ lK s 0 l ∧ ∀ x ∈ l, au x.2 s.1 = true
theorem tk {e : List aP} {s : a6} {k : Nat} {l : List Sg} (h : Run e s k l) (hk : k < e.length) (hs : (bH e).2.2 = 0) (ht : (dR e s).2.2 = 0) :
    0 ≤ bp e[k].1 ∧ bp e[k].1 ≤ l.length ∧ ¬ (e[k].2 ≠ 0 ∧ dE e[k].1 = false) ∧ (bG e[k] ((l.drop (l.length - (bp e[k].1).toNat)).map (·.2)) s).2 = 0 ∧ Run e s (k + 1) (l.take (l.length - (bp e[k].1).toNat) ++ [(flat (l.drop (l.length - (bp e[k].1).toNat)) ++ [e[k]], (bG e[k] ((l.drop (l.length - (bp e[k].1).toNat)).map (·.2)) s).1)]) := by
  obtain ⟨starts, hc, hl, h1, h2, h3, h4, h5⟩ := h
  rw [List.drop_eq_getElem_cons hk, eq] at h1
  rw [List.drop_eq_getElem_cons hk, iW] at h2
  have a0 : 0 ≤ bp e[k].1 := by
    refine Int.not_lt.1 fun c => ?_
    rw [if_pos c] at h1; rw [← h1] at hs; simp at hs
  rw [if_neg zo] at h1
  have a1 : bp e[k].1 ≤ (eX 0 l).length := by
    refine Int.not_lt.1 fun c => ?_
    rw [if_pos c] at h1; rw [← h1] at hs; simp at hs
  rw [if_neg zo] at h1
  have a2 : ¬ 12 < ((eX 0 l).take ((eX 0 l).length - bp e[k].1).toNat).length + 1 := fun c => by
    rw [if_pos c] at h1; rw [← h1] at hs; simp at hs
  rw [if_neg a2] at h1
  have b0 : ¬ (e[k].2 ≠ 0 ∧ dE e[k].1 = false) := fun c => by
    rw [if_pos c] at h2; rw [← h2] at ht; simp at ht
  rw [if_neg b0] at h2
  have em : iX e[k] (l.map (·.2)) = l.length - (bp e[k].1).toNat := by unfold iX; simp; omega
  rw [fb] at a1
  rw [em] at h2
  have emo : (((eX 0 l).length : Int) - bp e[k].1).toNat = l.length - (bp e[k].1).toNat := by rw [fb]; omega
  rw [emo] at h1 a2
  generalize hm : l.length - (bp e[k].1).toNat = m at h1 h2 a2 em emo ⊢
  rw [← List.map_drop] at h2
  have b1 : (bG e[k] ((l.drop m).map (·.2)) s).2 = 0 := Classical.byContradiction fun c => by
    rw [if_pos c] at h2; rw [← h2] at ht; exact c ht
  rw [if_neg (fun c => c b1)] at h2
  have hml : m ≤ l.length := by omega
  have hsp : l = l.take m ++ l.drop m := (List.take_append_drop m l).symm
  have hof : eX 0 l = eX 0 (l.take m) ++ eX (0 + (flat (l.take m)).length) (l.drop m) := by rw [← jt, ← hsp]
  have hot : (eX 0 l).take m = eX 0 (l.take m) := by rw [hof]; exact List.take_left' (by rw [fb]; simp; omega)
  have hfl : (flat (l.take m)).length + (flat (l.drop m)).length = k := by rw [← List.length_append, ← fY, ← hsp, h3]; simp; omega
  have hfr : (if 0 < bp e[k].1 then (eX 0 l)[m]?.getD 0 else (k : Int)) = ((flat (l.take m)).length : Int) := by
    by_cases c : 0 < bp e[k].1
    · rw [if_pos c, hof, List.getElem?_append_right (by rw [fb]; simp; omega), fb]
      have : l.drop m ≠ [] := by intro q; have := congrArg List.length q; simp at this; omega
      cases hd : l.drop m with
      | nil => exact absurd hd this
      | cons x r => simp [eX, Nat.min_eq_left hml]
    rw [if_neg c]
    have : l.drop m = [] := List.drop_eq_nil_of_le zo
    rw [this] at hfl; simp [flat] at hfl; omega
  have hof2 : eX 0 (l.take m ++ [(flat (l.drop m) ++ [e[k]], (bG e[k] ((l.drop m).map (·.2)) s).1)]) = (eX 0 l).take m ++ [if 0 < bp e[k].1 then (eX 0 l)[m]?.getD 0 else (k : Int)] := by
    rw [jt, hot, hfr]; simp [eX]
  refine ⟨a0, a1, b0, b1, starts ++ [if 0 < bp e[k].1 then (eX 0 l)[m]?.getD 0 else (k : Int)], ?_, by simp [hl], ?_, ?_, ?_, ?_, ?_⟩
  · have := mB (n := bp e[k].1) hc hl a0 (by rw [fb]; exact a1)
    rw [emo] at this; rw [hof2]; exact this
  · rw [hof2]; exact h1
  · rw [List.map_append, List.map_take]; exact h2
  · rw [fY, flat, flat, List.append_nil, ← List.append_assoc, ← fY, ← hsp, h3]; exact List.take_append_getElem hk
  · rw [hsp, kK] at h4
    rw [kK]
    refine ⟨h4.1, xH h4.2 (by simp; omega) (by simp [fb] at a2 ⊢; omega) b0 b1, trivial⟩
  intro x hx
  rcases List.mem_append.1 hx with hx | hx
  · exact h5 x (List.mem_of_mem_take hx)
  obtain rfl := List.mem_singleton.1 hx
  exact p4 (fun t ht => by obtain ⟨y, hy, rfl⟩ := List.mem_map.1 ht; exact h5 y (List.mem_of_mem_drop hy)) b1
theorem vG {e : List aP} {s : a6} (hs : (bH e).2.2 = 0) (ht : (dR e s).2.2 = 0) : ∀ k, k ≤ e.length → ∃ l, Run e s k l
  | 0, _ => by
    have := fL hs
    refine ⟨[], [], rfl, rfl, ?_, ?_, rfl, trivial, by simp⟩
    · unfold bH; rw [if_neg zo, if_neg zo]; rfl
    unfold dR; rw [if_neg (by simp [hs])]; rfl
  | k + 1, hk => by
    obtain ⟨l, hl⟩ := vG hs ht k zo
    exact ⟨_, (tk hl zo hs ht).2.2.2.2⟩
def iq : Nat → List Sg → List Int
  | _, [] => []
  | a, x :: r => (((a + x.1.length : Nat) : Int) - 1) :: iq (a + x.1.length) r
theorem kh : ∀ (a : Nat) (l : List Sg), (iq a l).length = l.length
  | _, [] => rfl
  | a, x :: r => by simp [iq, kh]
theorem jE : ∀ (a : Nat) (x y : List Sg), iq a (x ++ y) = iq a x ++ iq (a + (flat x).length) y
  | a, [], y => by simp [iq, flat]
  | a, b :: x, y => by simp [iq, flat, jE _ x y, Nat.add_assoc]
theorem tC {R : List Int} : ∀ (n : Nat) (l : List Sg), l.length = n → fv R ((flat l).length : Nat) (eX 0 l).reverse → opd R n ((flat l).length : Nat) = iq 0 l ∧
    ∀ i, i < l.length → (iq 0 l)[i]? = some (((flat (l.take (i + 1))).length : Int) - 1) ∧ R[(((flat (l.take (i + 1))).length : Int) - 1).toNat]? = some ((flat (l.take i)).length : Int)
  | 0, l, hl, _ => by
    obtain rfl := List.length_eq_zero_iff.1 hl
    exact ⟨rfl, fun i hi => absurd hi (by simp)⟩
  | n + 1, l, hl, hc => by
    rcases List.eq_nil_or_concat l with rfl | ⟨l', x, rfl⟩
    · simp at hl
    have hl' : l'.length = n := by simpa using hl
    rw [List.concat_eq_append] at hc ⊢
    have er : (eX 0 (l' ++ [x])).reverse = ((flat l').length : Int) :: (eX 0 l').reverse := by rw [jt, List.reverse_append]; simp [eX]
    rw [er] at hc
    obtain ⟨h1, h2⟩ := tC n l' hl' hc.2.2.2
    have h3 := hc.2.2.1
    have ee : iq 0 (l' ++ [x]) = iq 0 l' ++ [((flat (l' ++ [x])).length : Int) - 1] := by rw [jE, fY]; simp [iq, flat]
    refine ⟨?_, fun i hi => ?_⟩
    · rw [opd, h3, Option.getD_some, h1, ee]
    by_cases c : i < l'.length
    · rw [ee, List.getElem?_append_left (by rw [kh]; exact c), List.take_append_of_le_length zo, List.take_append_of_le_length zo]
      exact h2 i c
    have : i = l'.length := by simp at hi; omega
    subst this
    rw [ee, List.getElem?_append_right (by rw [kh]; omega), kh, List.take_of_length_le (by simp), List.take_left' rfl]
    simp; simpa using h3
theorem me {e : List aP} {s : a6} (h : (dR e s).2.2 = 0) : (bH e).2.2 = 0 := by
  unfold dR at h; split at h
  · exact h
  rename_i c; simpa using c
end Go.Proofs.YtehcaebnijlhgaaGreatDoor
namespace Go.Proofs.YtehcaebnijlhgaaGreatDoor.C23
open Go.Eng
set_option maxRecDepth 100000
set_option maxHeartbeats 1000000
theorem wF : ∀ (a : Nat) (l : List Sg), (∀ x ∈ l, x.1 ≠ []) → ∀ z ∈ iq a l, (a : Int) ≤ z ∧ z < ((a + (flat l).length : Nat) : Int)
  | a, [], _, z, hz => by simp [iq] at hz
  | a, x :: r, h, z, hz => by
    have hx := List.length_pos_iff.2 (h x (by simp))
    simp only [iq, List.mem_cons] at hz
    simp only [flat, List.length_append]
    rcases hz with rfl | hz
    · omega
    have := wF (a + x.1.length) r (fun y hy => h y (by simp [hy])) z hz
    omega
theorem jb {s : a6} : ∀ (p : Nat) (l : List Sg), lK s p l → ∀ x ∈ l, x.1 ≠ []
  | p, x :: r, h, y, hy => by
    rcases List.mem_cons.1 hy with rfl | hy
    · exact h.1.1
    exact jb _ r h.2 y hy
theorem tD {R : List Int} : ∀ (m j : Nat) (t : Int), (opd R (j + m) t).drop j = opd R m t
  | 0, j, t => by rw [List.drop_of_length_le (by rw [rS]; omega)]; rfl
  | m + 1, j, t => by
    rw [show j + (m + 1) = (j + m) + 1 by omega, opd, opd, List.drop_append_of_le_length (by rw [rS]; omega), tD m j]
def TyOk (e : List aP) (s : a6) (ty : Nat → bE) (at_ : Nat) (h : at_ < e.length) : Prop :=
  ((cV e at_).length = (bp e[at_].1).toNat ∧ 0 ≤ bp e[at_].1) ∧ (∀ z ∈ cV e at_, 0 ≤ z ∧ z < (at_ : Int)) ∧ ¬ (e[at_].2 ≠ 0 ∧ dE e[at_].1 = false) ∧ bG e[at_] ((cV e at_).map (fun z => ty z.toNat)) s = (ty at_, 0) ∧ au (ty at_) s.1 = true
theorem vz {e : List aP} {s : a6} (hs : (bH e).2.2 = 0) (ht : (dR e s).2.2 = 0) : ∀ k, k ≤ e.length → ∃ (ty : Nat → bE) (l : List Sg), Run e s k l ∧ l.map (·.2) = (iq 0 l).map (fun z => ty z.toNat) ∧ ∀ at_ (h : at_ < e.length), at_ < k → TyOk e s ty at_ h
  | 0, _ => by
    obtain ⟨l, hl⟩ := vG hs ht 0 (Nat.zero_le _)
    have hl' := hl
    obtain ⟨_, _, _, _, _, h3, h4, _⟩ := hl
    have : l = [] := by
      cases l with
      | nil => rfl
      | cons x r =>
        have := jb _ _ h4 x (by simp)
        simp [flat] at h3; exact absurd h3.1 this
    subst this
    exact ⟨fun _ => (0, 0), [], hl', rfl, fun at_ h q => absurd q zo⟩
  | k + 1, hk => by
    obtain ⟨ty, l, hr, hm, hT⟩ := vz hs ht k zo
    obtain ⟨a0, a1, b0, b1, hr'⟩ := tk hr zo hs ht
    have hkl : k < e.length := by omega
    obtain ⟨starts, hc, hl0, h1, h2, h3, h4, h5⟩ := hr
    have hfl : (flat l).length = k := by rw [h3]; simp; omega
    have hR : fv (bH e).1 ((flat l).length : Nat) (eX 0 l).reverse := by
      have hs' := hs
      rw [← h1] at hs'
      obtain ⟨_, ⟨t, e1⟩, _⟩ := pM _ _ _ _ _ hc hl0 hs'
      rw [hfl, ← h1, e1]; exact iT zo hc
    have hoe := (tC l.length l rfl hR).1
    rw [hfl] at hoe
    generalize hm0 : l.length - (bp e[k].1).toNat = m at *
    have hops : cV e (k : Int) = (iq 0 l).drop m := by
      unfold cV
      rw [if_neg zo, Int.toNat_natCast, List.getElem?_eq_getElem hkl, Option.getD_some, ← hoe, ← tD (bp e[k].1).toNat m, show m + (bp e[k].1).toNat = l.length by omega]
    have hne := jb _ _ h4
    have hlt : ∀ z ∈ iq 0 l, 0 ≤ z ∧ z < (k : Int) := fun z hz => by
      have := wF 0 l hne z hz; rw [hfl] at this; omega
    have hsplit : iq 0 l = iq 0 (l.take m) ++ iq (0 + (flat (l.take m)).length) (l.drop m) := by rw [← jE, List.take_append_drop]
    have hflen : (flat (l.take m)).length + (flat (l.drop m)).length = k := by rw [← List.length_append, ← fY, List.take_append_drop, hfl]
    have htl : (l.take m).length = m := by simp; omega
    have he1 : iq 0 (l.take m) = (iq 0 l).take m := by rw [hsplit, List.take_left' (by rw [kh, htl])]
    generalize ht0 : (bG e[k] ((l.drop m).map (·.2)) s) = t at *
    have hold : ∀ z : Int, z < (k : Int) → 0 ≤ z → (if z.toNat = k then t.1 else ty z.toNat) = ty z.toNat := fun z h1 h2 => if_neg zo
    have hmm : ∀ xs : List Int, (∀ z ∈ xs, 0 ≤ z ∧ z < (k : Int)) → xs.map (fun z => (fun i => if i = k then t.1 else ty i) z.toNat) = xs.map (fun z => ty z.toNat) := fun xs h => List.map_congr_left (fun z hz => hold z (h z hz).2 (h z hz).1)
    refine ⟨fun i => if i = k then t.1 else ty i, _, hr', ?_, fun at_ h q => ?_⟩
    · rw [jE, List.map_append, List.map_append, he1, hmm _ (fun z hz => hlt z (List.mem_of_mem_take hz)), List.map_take, hm, List.map_take]
      congr 1
      simp only [List.map_cons, List.map_nil, iq, List.length_append, List.length_singleton]
      rw [if_pos zo]
    by_cases hq : at_ = k
    · subst hq
      have hmap : (cV e (at_ : Int)).map (fun z => (fun i => if i = at_ then t.1 else ty i) z.toNat) = (l.drop m).map (·.2) := by
        rw [hops, hmm _ (fun z hz => hlt z (List.mem_of_mem_drop hz)), List.map_drop, ← hm, List.map_drop]
      refine ⟨⟨by rw [hops, List.length_drop, kh]; omega, a0⟩, fun z hz => ?_, b0, ?_, ?_⟩
      · rw [hops] at hz; exact hlt z (List.mem_of_mem_drop hz)
      · rw [hmap, ht0]; simp only [if_true]; rw [← b1]
      simp only [if_true]
      obtain ⟨_, _, _, _, _, _, _, h5'⟩ := hr'
      exact h5' (flat (l.drop m) ++ [e[at_]], t.1) (by simp)
    have hq2 : at_ < k := by omega
    obtain ⟨c1, c2, c3, c4, c5⟩ := hT at_ h hq2
    refine ⟨c1, c2, c3, ?_, ?_⟩
    · rw [hmm _ (fun z hz => ⟨(c2 z hz).1, by have := (c2 z hz).2; omega⟩), c4]; simp only [if_neg hq]
    simp only [if_neg hq]; exact c5
theorem typed {e : List aP} {s : a6} (ht : (dR e s).2.2 = 0) : ∃ ty : Nat → bE, 0 < e.length ∧ (∀ at_ (h : at_ < e.length), TyOk e s ty at_ h) ∧ (dR e s).1 = ty (e.length - 1) := by
  have hs := me ht
  have h48 := fL hs
  obtain ⟨ty, l, hr, hm, hT⟩ := vz hs ht e.length (Nat.le_refl _)
  refine ⟨ty, h48.2.1, fun at_ h => hT at_ h h, ?_⟩
  obtain ⟨starts, hc, hl0, h1, h2, h3, h4, h5⟩ := hr
  rw [List.drop_of_length_le (Nat.le_refl _)] at h1 h2
  rw [List.take_of_length_le (Nat.le_refl _)] at h3
  have hle : l.length ≤ 1 := Classical.byContradiction fun c => by
    rw [eq, if_pos (by rw [fb]; omega)] at h1
    rw [← h1] at hs; simp at hs
  match l, hle with
  | [], _ => have h := h48.2.1; rw [← h3] at h; simp [flat] at h
  | [x], _ =>
    have hx : x.1.length = e.length := by rw [← h3]; simp [flat]
    rw [← h2]
    simp only [List.map_cons, List.map_nil, iq] at hm ⊢
    injection hm with hm _
    simp only [iW, List.length_singleton]
    rw [hm]
    simp [hx]
    try (congr 1; omega)
def iF (k : Int) : Int × Int := if k = 1 then (0, 1) else if k = 2 then (-1000000000000, 1000000000000) else if k = 3 then (-1000000000000000, 1000000000000000) else if k = 4 then (-1000000000, 1000000000) else if k = 5 then (0, 109572) else if k = 6 then (0, 15) else (0, -1)
def dK (v : bh) : Bool := !(decide (v.2.2 < (iF v.1).1) || decide (v.2.2 > (iF v.1).2)) && (if v.1 = 6 then decide (v.2.1 ≥ 0) && decide (v.2.1 < 8) else decide (v.2.1 = 0))
def nX (b : Bool) : bh := (1, 0, if b = true then 1 else 0)
def dc (d : aP) (x : List bh) : bh := if d.1 = 7 then x.getD d.2.toNat (0, 0, 0) else if d.1 = 6 then (6, d.2 / 16, d.2 % 16) else (d.1, 0, d.2)
def qA (op : Int) (a b : bh) : bh := nX (if op = 19 then decide (a.2.2 = b.2.2) else if op = 20 then decide (a.2.2 ≠ b.2.2) else if op = 21 then decide (a.2.2 < b.2.2) else decide (a.2.2 ≤ b.2.2))
def lH (d : aP) (args : List bh) (x : List bh) : bh := match args with
  | [] => dc d x
  | [a] => nX (decide (a.2.2 = 0))
  | [a, b] => qA d.1 a b
  | _ => (0, 0, 0)
def nd (e : List aP) (z : Int) : aP := e.getD z.toNat (0, 0)
def qd (op : Int) (a b : bh) : bh := if decide (op = 23) = decide (a.2.2 = 0) then a else b
def evV (e : List aP) (x : List bh) : Nat → Int → bh
  | 0, _ => (0, 0, 0)
  | n + 1, z => if (nd e z).1 = 23 ∨ (nd e z).1 = 24 then qd (nd e z).1 (evV e x n ((cV e z)[0]?.getD 0)) (evV e x n ((cV e z)[1]?.getD 0))
    else lH (nd e z) ((cV e z).map (evV e x n)) x
theorem js (b : Bool) : dK (nX b) = true := by cases b <;> rfl
structure Flat (e : List aP) (s : a6) (ty : Nat → bE) (x : List bh) : Prop where
  en : s.1.length ≤ 8 ∧ ∀ q ∈ s.1, q.2.length ≤ 16
  len : 0 < e.length
  typ : ∀ at_ (h : at_ < e.length), TyOk e s ty at_ h
  top : ty (e.length - 1) = (1, 0)
  flat : ∀ i, i < e.length → iy e i = true
  xl : x.length = s.2.2.1.length
  xv : ∀ i (h : i < x.length) (h2 : i < s.2.2.1.length), x[i].1 = (s.2.2.1[i]).1 ∧ x[i].2.1 = (s.2.2.1[i]).2 ∧ dK x[i] = true ∧ (aJ s.2.2.1[i] s.1).1 ≤ x[i].2.2 ∧ x[i].2.2 ≤ (aJ s.2.2.1[i] s.1).2
theorem zH {α : Type} {l : List α} (h : l.length = 1) : ∃ a, l = [a] := by match l, h with | [a], _ => exact ⟨a, rfl⟩
theorem wd {α : Type} {l : List α} (h : l.length = 2) : ∃ a b, l = [a, b] := by match l, h with | [a, b], _ => exact ⟨a, b, rfl⟩
theorem lB {e : List aP} {i : Nat} (h : i < e.length) (hf : iy e i = true) : (1 ≤ e[i].1 ∧ e[i].1 ≤ 7) ∨ e[i].1 = 23 ∨ e[i].1 = 24 ∨ e[i].1 = 25 ∨ ((19 ≤ e[i].1 ∧ e[i].1 ≤ 22) ∧ (cn e i).2.2 = true) := by
  rw [eT h] at hf
  simp only [iw, cP, dg, Bool.or_eq_true, Bool.and_eq_true, decide_eq_true_eq] at hf
  rcases hf with (h1 | h1) | ⟨h1, h2⟩
  · rcases h1 with q | q | q | q | q
    · left; omega
    · right; left; exact q
    · right; right; left; exact q
    · right; right; right; left; exact q
    left; omega
  · left; omega
  right; right; right; right; exact ⟨h1, h2⟩
theorem nt2 {d : aP} {a b t : bE} {s : a6} (h1 : 17 ≤ d.1 ∧ d.1 ≤ 24) (h : bG d [a, b] s = (t, 0)) : aH d.1 [a, b] = (t, true) := by
  unfold bG at h
  rw [if_neg zo, if_neg zo, if_neg zo, if_neg zo, if_neg zo, if_neg zo, if_neg zo, if_neg zo] at h
  split at h
  · simp at h
  rename_i q; simp at h; rw [← h]; simp at q; rw [← q]
theorem nt1 {d : aP} {a t : bE} {s : a6} (h1 : d.1 = 25) (h : bG d [a] s = (t, 0)) : aH d.1 [a] = (t, true) := by
  unfold bG at h
  rw [if_neg zo, if_neg zo, if_neg zo, if_neg zo, if_neg zo, if_neg zo, if_neg zo, if_neg zo] at h
  split at h
  · simp at h
  rename_i q; simp at h; rw [← h]; simp at q; rw [← q]
theorem sM {t : bE} {en : List bV} (h : t.1 = 1) (hv : au t en = true) : t = (1, 0) := by
  unfold au at hv; rw [if_pos zo] at hv
  exact Prod.ext h (by simpa using hv)
variable {e : List aP} {s : a6} {ty : Nat → bE} {x : List bh}
theorem Flat.sh_and (F : Flat e s ty x) {i : Nat} (h : i < e.length) (ho : e[i].1 = 23 ∨ e[i].1 = 24) :
    ∃ a b : Nat, cV e i = [(a : Int), (b : Int)] ∧ a < i ∧ b < i ∧ e[i].2 = 0 ∧ ty a = (1, 0) ∧ ty b = (1, 0) ∧ ty i = (1, 0) := by
  obtain ⟨⟨c1, c2⟩, c3, c4, c5, c6⟩ := F.typ i h
  have ha : bp e[i].1 = 2 := by unfold bp; rcases ho with q | q <;> rw [q] <;> rfl
  obtain ⟨a, b, hab⟩ := wd (l := cV e (i : Int)) (by rw [c1, ha]; rfl)
  have h1 := c3 a (by rw [hab]; simp)
  have h2 := c3 b (by rw [hab]; simp)
  rw [hab] at c5
  have h3 := nt2 zo c5
  simp only [aH] at h3
  rw [if_neg zo, if_neg zo, if_neg zo, if_neg zo, if_neg zo, if_neg zo, if_pos ho] at h3
  simp at h3
  obtain ⟨va, vb⟩ := h3.2
  have w1 := (F.typ a.toNat zo).2.2.2.2
  have w2 := (F.typ b.toNat zo).2.2.2.2
  refine ⟨a.toNat, b.toNat, by rw [hab]; simp; omega, by omega, by omega, ?_, sM va w1, sM vb w2, h3.1.symm⟩
  by_cases q : e[i].2 = 0
  · exact q
  exact absurd ⟨q, by simp [dE]; omega⟩ c4
theorem Flat.sh_not (F : Flat e s ty x) {i : Nat} (h : i < e.length) (ho : e[i].1 = 25) :
    ∃ a : Nat, cV e i = [(a : Int)] ∧ a < i ∧ e[i].2 = 0 ∧ ty a = (1, 0) ∧ ty i = (1, 0) := by
  obtain ⟨⟨c1, c2⟩, c3, c4, c5, c6⟩ := F.typ i h
  have ha : bp e[i].1 = 1 := by unfold bp; rw [ho]; rfl
  obtain ⟨a, hab⟩ := zH (l := cV e (i : Int)) (by rw [c1, ha]; rfl)
  have h1 := c3 a (by rw [hab]; simp)
  rw [hab] at c5
  have h3 := nt1 ho c5
  simp only [aH] at h3
  rw [if_neg zo, if_pos ho] at h3
  simp at h3
  have w1 := (F.typ a.toNat zo).2.2.2.2
  refine ⟨a.toNat, by rw [hab]; simp; omega, by omega, ?_, sM h3.2 w1, h3.1.symm⟩
  by_cases q : e[i].2 = 0
  · exact q
  exact absurd ⟨q, by simp [dE]; omega⟩ c4
theorem Flat.sh_cmp (F : Flat e s ty x) {i : Nat} (h : i < e.length) (ho : 19 ≤ e[i].1 ∧ e[i].1 ≤ 22) :
    ∃ a b : Nat, cV e i = [(a : Int), (b : Int)] ∧ a < i ∧ b < i ∧ e[i].2 = 0 ∧ ty a = ty b ∧ (21 ≤ e[i].1 → 2 ≤ (ty a).1 ∧ (ty a).1 ≤ 5) ∧ ty i = (1, 0) := by
  obtain ⟨⟨c1, c2⟩, c3, c4, c5, c6⟩ := F.typ i h
  have ha : bp e[i].1 = 2 := by
    have : e[i].1 = 19 ∨ e[i].1 = 20 ∨ e[i].1 = 21 ∨ e[i].1 = 22 := by omega
    unfold bp; rcases this with q | q | q | q <;> rw [q] <;> rfl
  obtain ⟨a, b, hab⟩ := wd (l := cV e (i : Int)) (by rw [c1, ha]; rfl)
  have h1 := c3 a (by rw [hab]; simp)
  have h2 := c3 b (by rw [hab]; simp)
  rw [hab] at c5
  have h3 := nt2 zo c5
  have hz : e[i].2 = 0 := by
    by_cases q : e[i].2 = 0
    · exact q
    exact absurd ⟨q, by simp [dE]; omega⟩ c4
  simp only [aH, List.map_cons, List.map_nil] at h3
  rw [if_neg zo, if_neg zo, if_neg zo, if_neg zo] at h3
  by_cases q : e[i].1 = 19 ∨ e[i].1 = 20
  · rw [if_pos q] at h3
    simp at h3
    exact ⟨a.toNat, b.toNat, by rw [hab]; simp; omega, by omega, by omega, hz, h3.2, fun z => by omega, h3.1.symm⟩
  rw [if_neg q, if_pos zo] at h3
  simp at h3
  exact ⟨a.toNat, b.toNat, by rw [hab]; simp; omega, by omega, by omega, hz, h3.2.1, fun z => by have := h3.2.2; simp [dH] at this; omega, h3.1.symm⟩
theorem Flat.sh_leaf (F : Flat e s ty x) {i : Nat} (h : i < e.length) (ho : 1 ≤ e[i].1 ∧ e[i].1 ≤ 7) :
    cV e i = [] ∧ (e[i].1 = 7 → 0 ≤ e[i].2 ∧ e[i].2 < x.length ∧ ∃ hx : e[i].2.toNat < s.2.2.1.length, ty i = s.2.2.1[e[i].2.toNat]) ∧ (dc e[i] x).1 = (ty i).1 ∧ (dc e[i] x).2.1 = (ty i).2 ∧ dK (dc e[i] x) = true ∧ (e[i].1 = 6 → 0 ≤ e[i].2) ∧ (e[i].1 ≠ 7 → (ty i).1 = e[i].1) := by
  obtain ⟨⟨c1, c2⟩, c3, c4, c5, c6⟩ := F.typ i h
  have ha : bp e[i].1 = 0 := by
    have : e[i].1 = 1 ∨ e[i].1 = 2 ∨ e[i].1 = 3 ∨ e[i].1 = 4 ∨ e[i].1 = 5 ∨ e[i].1 = 6 ∨ e[i].1 = 7 := by omega
    unfold bp; rcases this with q | q | q | q | q | q | q <;> rw [q] <;> rfl
  have hops : cV e (i : Int) = [] := List.length_eq_zero_iff.1 (by rw [c1, ha]; rfl)
  rw [hops] at c5
  refine ⟨hops, ?_⟩
  unfold bG at c5
  by_cases q7 : e[i].1 = 7
  · rw [if_neg zo, if_neg zo, if_pos q7] at c5
    unfold cW at c5
    split at c5
    · simp at c5
    split at c5
    · simp at c5
    rename_i g1 g2
    simp at c5
    have hx : e[i].2.toNat < s.2.2.1.length := by omega
    have hx2 : e[i].2.toNat < x.length := by rw [F.xl]; exact hx
    obtain ⟨v1, v2, v3, _⟩ := F.xv _ hx2 hx
    have e1 : dc e[i] x = x[e[i].2.toNat] := by unfold dc; rw [if_pos q7, List.getD_eq_getElem?_getD, List.getElem?_eq_getElem hx2]; rfl
    have e2 : ty i = s.2.2.1[e[i].2.toNat] := by rw [← c5, rV hx]
    rw [e1, e2]
    exact ⟨fun _ => ⟨by omega, by rw [F.xl]; omega, hx, rfl⟩, v1, v2, v3, fun z => by omega, fun z => absurd q7 z⟩
  by_cases q6 : e[i].1 = 6
  · rw [if_neg zo, if_pos q6] at c5
    unfold gx at c5
    split at c5
    · simp at c5
    split at c5
    · simp at c5
    rename_i g1 g2
    simp at c5
    have e1 : dc e[i] x = (6, e[i].2 / 16, e[i].2 % 16) := by unfold dc; rw [if_neg q7, if_pos q6]
    rw [e1, ← c5]
    have := F.en.1
    refine ⟨fun z => absurd z q7, rfl, rfl, ?_, fun _ => by omega, fun _ => q6.symm⟩
    simp [dK, iF]; omega
  rw [if_pos zo] at c5
  unfold dY at c5
  split at c5
  · simp at c5
  rename_i g1
  simp at c5
  have e1 : dc e[i] x = (e[i].1, 0, e[i].2) := by unfold dc; rw [if_neg q7, if_neg q6]
  rw [e1, ← c5]
  refine ⟨fun z => absurd z q7, rfl, rfl, ?_, fun z => absurd z q6, fun _ => rfl⟩
  have hb : aJ (e[i].1, 0) s.1 = iF e[i].1 := by
    unfold aJ iF
    rw [if_neg (by simp [au]; omega)]
    (repeat' split) <;> first | rfl | omega
  rw [hb] at g1
  simp only [dK, if_neg q6]
  simp; omega
end Go.Proofs.YtehcaebnijlhgaaGreatDoor.C23
namespace Go.Proofs.YtehcaebnijlhgaaGreatDoor.C23
open Go.Eng
set_option maxRecDepth 100000
set_option maxHeartbeats 1000000
theorem rW {l : List Int} {a b c : Int} (hs : l.Pairwise (· < ·)) (h : gl l a = gl l b) (hc : c ∈ l) : c ≤ a ↔ c ≤ b := by
  obtain ⟨j, hj, rfl⟩ := List.getElem_of_mem hc
  unfold gl at h
  have hle : ∀ K (hK : K < l.length), j ≤ K → l[j] ≤ l[K] := fun K hK q => by
    rcases Nat.lt_or_ge j K with r | r
    · exact Int.le_of_lt (List.pairwise_iff_getElem.1 hs j K hj hK r)
    obtain rfl : j = K := by omega
    exact Int.le_refl _
  rcases oa (l := l) (n := a) l.length (Nat.le_refl _) with ⟨h1, h2⟩ | ⟨K, hK, _, h1, h2, h3⟩ <;>
  rcases oa (l := l) (n := b) l.length (Nat.le_refl _) with ⟨g1, g2⟩ | ⟨M, hM, _, g1, g2, g3⟩
  · have := h2 j hj hj; have := g2 j hj hj; omega
  · rw [h1, g1] at h; omega
  · rw [h1, g1] at h; omega
  rw [h1, g1] at h
  obtain rfl : K = M := by omega
  by_cases q : j ≤ K
  · have := hle K hK q; omega
  have := h3 j hj zo hj; have := g3 j hj zo hj; omega
theorem uE (lo : Int) (k : Nat) : (rng lo k).Pairwise (· < ·) := by
  unfold rng; rw [List.pairwise_map]
  exact List.Pairwise.imp (fun h => by omega) (List.pairwise_lt_range)
theorem pe {lo z : Int} {k : Nat} (h0 : lo ≤ z) (h1 : z < lo + k) : z ∈ rng lo k := by
  unfold rng; rw [List.mem_map]; exact ⟨(z - lo).toNat, by simp; omega, by omega⟩
theorem jr (t : bE) (en : List bV) (cuts : List Int) : (dF t en cuts).Pairwise (· < ·) := by
  unfold dF; split
  · exact List.Pairwise.nil
  split
  · exact uE _ _
  exact (eu _).1
theorem Bk {t : bE} {en : List bV} {cuts : List Int} {a b : Int} (hv : au t en = true) (hk : t.1 = 1 ∨ t.1 = 6) (ha : (aJ t en).1 ≤ a ∧ a ≤ (aJ t en).2) (hb : (aJ t en).1 ≤ b ∧ b ≤ (aJ t en).2)
    (h : gl (dF t en cuts) a = gl (dF t en cuts) b) : a = b := by
  have e : dF t en cuts = rng (aJ t en).1 ((aJ t en).2 - (aJ t en).1 + 1).toNat := by unfold dF; rw [if_neg (by rw [hv]; simp), if_pos hk]
  have h1 := rW (jr t en cuts) h (c := a) (by rw [e]; exact pe ha.1 zo)
  have h2 := rW (jr t en cuts) h (c := b) (by rw [e]; exact pe hb.1 zo)
  omega
theorem Bj {t : bE} {en : List bV} {cuts : List Int} {a b c : Int} (hv : au t en = true) (hk : ¬ (t.1 = 1 ∨ t.1 = 6)) (ha : (aJ t en).1 ≤ a ∧ a ≤ (aJ t en).2) (hb : (aJ t en).1 ≤ b ∧ b ≤ (aJ t en).2)
    (h : gl (dF t en cuts) a = gl (dF t en cuts) b) (hc : c ∈ cuts) : c ≤ a ↔ c ≤ b := by
  have e : dF t en cuts = cj ([(aJ t en).1] ++ cuts.filter (inR (aJ t en).1 (aJ t en).2)) := by unfold dF; rw [if_neg (by rw [hv]; simp), if_neg hk]
  by_cases q : (aJ t en).1 ≤ c ∧ c ≤ (aJ t en).2
  · refine rW (jr t en cuts) h ?_
    rw [e, (eu _).2]
    exact List.mem_append_right _ (List.mem_filter.2 ⟨hc, by simp [inR, q.1, q.2]⟩)
  omega
theorem rx {e : List aP} {inp z : Int} {i : Nat} : ∀ {k : Nat}, i < k → z ∈ kS e inp i → z ∈ fu e inp k
  | k + 1, h, hz => by
    rw [fu, List.mem_append]
    by_cases q : i < k
    · exact .inl (rx q hz)
    obtain rfl : i = k := by omega
    exact .inr hz
variable {e : List aP} {s : a6} {ty : Nat → bE} {x y : List bh}
theorem zc {i : Nat} (h : i < e.length) : nd e (i : Int) = e[i] := by unfold nd; rw [Int.toNat_natCast, List.getD_eq_getElem?_getD, List.getElem?_eq_getElem h]; rfl
theorem lE {n i a b : Nat} (h : i < e.length) (ho : e[i].1 = 23 ∨ e[i].1 = 24) (hops : cV e i = [(a : Int), (b : Int)]) : evV e x (n + 1) i = qd e[i].1 (evV e x n a) (evV e x n b) := by
  rw [evV, zc h, if_pos ho, hops]; rfl
theorem lD {n i : Nat} (h : i < e.length) (ho : ¬ (e[i].1 = 23 ∨ e[i].1 = 24)) : evV e x (n + 1) i = lH e[i] ((cV e i).map (evV e x n)) x := by
  rw [evV, zc h, if_neg ho]
theorem gw {n i : Nat} (h : i < e.length) (ho : 1 ≤ e[i].1 ∧ e[i].1 ≤ 7) (hops : cV e i = []) (hn : i < n) : evV e x n i = dc e[i] x := by
  obtain ⟨m, rfl⟩ : ∃ m, n = m + 1 := ⟨n - 1, by omega⟩
  rw [lD h zo, hops]; rfl
theorem Flat.val (F : Flat e s ty x) : ∀ (n i : Nat), i < n → ∀ (h : i < e.length), (evV e x n i).1 = (ty i).1 ∧ (evV e x n i).2.1 = (ty i).2 ∧ dK (evV e x n i) = true
  | n + 1, i, hi, h => by
    rcases lB h (F.flat i h) with ho | ho | ho | ho | ⟨ho, _⟩
    · obtain ⟨hops, _, v1, v2, v3, _⟩ := F.sh_leaf h ho
      rw [gw h ho hops hi]; exact ⟨v1, v2, v3⟩
    · obtain ⟨a, b, hops, ha, hb, _, ta, tb, ti⟩ := F.sh_and h (.inl ho)
      rw [lE h (.inl ho) hops, ti]
      have h1 := F.val n a zo zo; have h2 := F.val n b zo zo
      rw [ta] at h1; rw [tb] at h2
      unfold qd; split
      · exact h1
      exact h2
    · obtain ⟨a, b, hops, ha, hb, _, ta, tb, ti⟩ := F.sh_and h (.inr ho)
      rw [lE h (.inr ho) hops, ti]
      have h1 := F.val n a zo zo; have h2 := F.val n b zo zo
      rw [ta] at h1; rw [tb] at h2
      unfold qd; split
      · exact h1
      exact h2
    · obtain ⟨a, hops, ha, _, ta, ti⟩ := F.sh_not h ho
      rw [lD h zo, hops, ti]
      exact ⟨rfl, rfl, js _⟩
    obtain ⟨a, b, hops, ha, hb, _, _, _, ti⟩ := F.sh_cmp h ho
    rw [lD h zo, hops, ti]
    exact ⟨rfl, rfl, js _⟩
theorem we {d : aP} (h : ¬ d.1 = 7) : dc d y = dc d x := by unfold dc; rw [if_neg h, if_neg h]
theorem jx {d : aP} (h : d.1 = 7) (hx : d.2.toNat < x.length) : dc d x = x[d.2.toNat] := by
  unfold dc; rw [if_pos h, List.getD_eq_getElem?_getD, List.getElem?_eq_getElem hx]; rfl
def Cells (e : List aP) (s : a6) (x y : List bh) : Prop :=
  ∀ i (h1 : i < x.length) (h2 : i < y.length) (h3 : i < s.2.2.1.length), gl (dF s.2.2.1[i] s.1 (cj (gK [e] (i : Int) 1))) x[i].2.2 = gl (dF s.2.2.1[i] s.1 (cj (gK [e] (i : Int) 1))) y[i].2.2
theorem Flat.inpv (F : Flat e s ty x) {i : Nat} (h : i < x.length) (h2 : i < s.2.2.1.length) : (aJ s.2.2.1[i] s.1).1 ≤ x[i].2.2 ∧ x[i].2.2 ≤ (aJ s.2.2.1[i] s.1).2 := (F.xv i h h2).2.2.2
theorem Flat.same (F : Flat e s ty x) (G : Flat e s ty y) (C : Cells e s x y) {j : Nat} (h1 : j < x.length) (h2 : j < y.length) (h3 : j < s.2.2.1.length) (hv : au s.2.2.1[j] s.1 = true) (hk : (s.2.2.1[j]).1 = 1 ∨ (s.2.2.1[j]).1 = 6) : x[j] = y[j] := by
  obtain ⟨a1, a2, _⟩ := F.xv j h1 h3
  obtain ⟨b1, b2, _⟩ := G.xv j h2 h3
  have := Bk hv hk (F.inpv h1 h3) (G.inpv h2 h3) (C j h1 h2 h3)
  exact Prod.ext (by rw [a1, b1]) (Prod.ext (by rw [a2, b2]) this)
theorem Flat.cut (F : Flat e s ty x) (G : Flat e s ty y) (C : Cells e s x y) {j i : Nat} {c : Int} (h1 : j < x.length) (h2 : j < y.length) (h3 : j < s.2.2.1.length) (hv : au s.2.2.1[j] s.1 = true) (hk : ¬ ((s.2.2.1[j]).1 = 1 ∨ (s.2.2.1[j]).1 = 6)) (hi : i < e.length) (hc : c ∈ kS e (j : Int) i) :
    c ≤ x[j].2.2 ↔ c ≤ y[j].2.2 := by
  refine Bj hv hk (F.inpv h1 h3) (G.inpv h2 h3) (C j h1 h2 h3) ?_
  rw [(eu _).2, nA (k := 0) (by simp)]
  exact List.mem_append_right _ (rx hi hc)
theorem uu {op : Int} (ho : 19 ≤ op ∧ op ≤ 22) {a b l : bh} (h1 : l.2.2 ≤ a.2.2 ↔ l.2.2 ≤ b.2.2) (h2 : l.2.2 + 1 ≤ a.2.2 ↔ l.2.2 + 1 ≤ b.2.2) : qA op a l = qA op b l ∧ qA op l a = qA op l b := by
  unfold qA
  constructor <;> (congr 1; (repeat' split) <;> (rw [decide_eq_decide]; omega))
theorem Flat.const (F : Flat e s ty x) (G : Flat e s ty y) (C : Cells e s x y) : ∀ (n i : Nat), i < n → ∀ (h : i < e.length), ty i = (1, 0) → evV e x n i = evV e y n i
  | n + 1, i, hi, h, ht => by
    have hxy : x.length = y.length := by rw [F.xl, G.xl]
    rcases lB h (F.flat i h) with ho | ho | ho | ho | ⟨ho, hsm⟩
    · obtain ⟨hops, h7, v1, v2, v3, v4, v5⟩ := F.sh_leaf h ho
      rw [gw h ho hops hi, gw h ho hops hi]
      by_cases q : e[i].1 = 7
      · obtain ⟨z0, z1, z2, z3⟩ := h7 q
        have hx : e[i].2.toNat < x.length := by omega
        have hvt := (F.typ i h).2.2.2.2
        rw [jx q hx, jx q zo]
        exact F.same G C hx zo z2 (by rw [← z3]; exact hvt) (.inl (by rw [← z3, ht]))
      unfold dc; rw [if_neg q, if_neg q]
    · obtain ⟨a, b, hops, ha, hb, _, ta, tb, ti⟩ := F.sh_and h (.inl ho)
      rw [lE h (.inl ho) hops, lE h (.inl ho) hops, F.const G C n a zo zo ta, F.const G C n b zo zo tb]
    · obtain ⟨a, b, hops, ha, hb, _, ta, tb, ti⟩ := F.sh_and h (.inr ho)
      rw [lE h (.inr ho) hops, lE h (.inr ho) hops, F.const G C n a zo zo ta, F.const G C n b zo zo tb]
    · obtain ⟨a, hops, ha, _, ta, ti⟩ := F.sh_not h ho
      rw [lD h zo, lD h zo, hops]
      simp only [List.map_cons, List.map_nil, lH]
      rw [F.const G C n a zo zo ta]
    obtain ⟨a, b, hops, ha, hb, _, tab, _, ti⟩ := F.sh_cmp h ho
    rw [lD h zo, lD h zo, hops]
    simp only [List.map_cons, List.map_nil, lH]
    have hla : a < e.length := by omega
    have hlb : b < e.length := by omega
    have eA : opA e i = e[a] := by unfold opA; rw [hops]; simp [hla]
    have eB : opB e i = e[b] := by unfold opB; rw [hops]; simp [hlb]
    have hcmp : dg (e[i]?.getD (0, 0)).1 = true := by rw [List.getElem?_eq_getElem h]; simp [dg]; omega
    have hlen : ¬ (cV e i).length ≠ 2 := by rw [hops]; simp
    by_cases q1 : e[a].1 = 7 ∧ cP e[b].1 = true
    · have hS : cn e i = (e[a].2, e[b], true) := by unfold cn; rw [if_neg hlen, eA, eB, if_pos q1]
      have hlit : 2 ≤ e[b].1 ∧ e[b].1 ≤ 6 := by simpa [cP] using q1.2
      obtain ⟨opa, a7, _⟩ := F.sh_leaf hla zo
      obtain ⟨opb, _, b1, b2, b3, b4, b5⟩ := F.sh_leaf hlb zo
      obtain ⟨z0, z1, z2, z3⟩ := a7 q1.1
      have hx : e[a].2.toNat < x.length := by omega
      have hvt := (F.typ a hla).2.2.2.2
      rw [z3] at hvt
      have eb : evV e x n b = dc e[b] x := gw hlb zo opb zo
      have eb' : evV e y n b = dc e[b] x := by rw [gw hlb zo opb zo]; exact we zo
      rw [gw hla zo opa zo, gw hla zo opa zo, jx q1.1 hx, jx q1.1 zo, eb, eb']
      have hkb : (s.2.2.1[e[a].2.toNat]).1 = e[b].1 := by rw [← z3, tab]; exact b5 zo
      by_cases q6 : e[b].1 = 6
      · rw [F.same G C hx zo z2 hvt (.inr (by rw [hkb]; exact q6))]
      have hl : dc e[b] x = (e[b].1, 0, e[b].2) := by unfold dc; rw [if_neg zo, if_neg q6]
      rw [hl] at b3 ⊢
      have hmax : e[b].2 < 9223372036854775807 := by
        have : e[b].1 = 2 ∨ e[b].1 = 3 ∨ e[b].1 = 4 ∨ e[b].1 = 5 := by omega
        rcases this with q | q | q | q <;> simp [dK, iF, q] at b3 <;> omega
      have hcut : kS e (e[a].2.toNat : Nat) i = [e[b].2, e[b].2 + 1] := by
        unfold kS; rw [if_pos ⟨hcmp, by rw [hS], by rw [hS]; simp; omega, by rw [hS]; exact q6⟩, hS]; unfold sG; rw [if_pos hmax]
      exact (uu ho (F.cut G C hx zo z2 hvt (by rw [hkb]; omega) h (by rw [hcut]; simp)) (F.cut G C hx zo z2 hvt (by rw [hkb]; omega) h (by rw [hcut]; simp))).1
    have q2 : e[b].1 = 7 ∧ cP e[a].1 = true := by
      apply Classical.byContradiction; intro q
      have : cn e i = (0, (0, 0), false) := by unfold cn; rw [if_neg hlen, eA, eB, if_neg q1, if_neg q]
      rw [this] at hsm; cases hsm
    have hS : cn e i = (e[b].2, e[a], true) := by unfold cn; rw [if_neg hlen, eA, eB, if_neg q1, if_pos q2]
    have hlit : 2 ≤ e[a].1 ∧ e[a].1 ≤ 6 := by simpa [cP] using q2.2
    obtain ⟨opb, b7, _⟩ := F.sh_leaf hlb zo
    obtain ⟨opa, _, b1, b2, b3, b4, b5⟩ := F.sh_leaf hla zo
    obtain ⟨z0, z1, z2, z3⟩ := b7 q2.1
    have hx : e[b].2.toNat < x.length := by omega
    have hvt := (F.typ b hlb).2.2.2.2
    rw [z3] at hvt
    have ea : evV e x n a = dc e[a] x := gw hla zo opa zo
    have ea' : evV e y n a = dc e[a] x := by rw [gw hla zo opa zo]; exact we zo
    rw [gw hlb zo opb zo, gw hlb zo opb zo, jx q2.1 hx, jx q2.1 zo, ea, ea']
    have hkb : (s.2.2.1[e[b].2.toNat]).1 = e[a].1 := by rw [← z3, ← tab]; exact b5 zo
    by_cases q6 : e[a].1 = 6
    · rw [F.same G C hx zo z2 hvt (.inr (by rw [hkb]; exact q6))]
    have hl : dc e[a] x = (e[a].1, 0, e[a].2) := by unfold dc; rw [if_neg zo, if_neg q6]
    rw [hl] at b3 ⊢
    have hmax : e[a].2 < 9223372036854775807 := by
      have : e[a].1 = 2 ∨ e[a].1 = 3 ∨ e[a].1 = 4 ∨ e[a].1 = 5 := by omega
      rcases this with q | q | q | q <;> simp [dK, iF, q] at b3 <;> omega
    have hcut : kS e (e[b].2.toNat : Nat) i = [e[a].2, e[a].2 + 1] := by
      unfold kS; rw [if_pos ⟨hcmp, by rw [hS], by rw [hS]; simp; omega, by rw [hS]; exact q6⟩, hS]; unfold sG; rw [if_pos hmax]
    exact (uu ho (F.cut G C hx zo z2 hvt (by rw [hkb]; omega) h (by rw [hcut]; simp)) (F.cut G C hx zo z2 hvt (by rw [hkb]; omega) h (by rw [hcut]; simp))).2
end Go.Proofs.YtehcaebnijlhgaaGreatDoor.C23
