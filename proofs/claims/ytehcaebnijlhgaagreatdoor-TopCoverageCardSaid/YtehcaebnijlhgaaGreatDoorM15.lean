import Derived.Test.YtehcaebnijlhgaaGreatDoorM3
import Derived.Test.YtehcaebnijlhgaaGreatDoorM13
import Derived.Test.YtehcaebnijlhgaaGreatDoorM14
import Derived.Test.YtehcaebnijlhgaaGreatDoorM5
import Derived.Test.YtehcaebnijlhgaaGreatDoorM7
set_option linter.unusedVariables false
set_option linter.unusedSimpArgs false
namespace Go.Proofs.YtehcaebnijlhgaaGreatDoor
open Go.Eng Tryz
set_option maxRecDepth 100000
set_option maxHeartbeats 4000000
open C23
def ml (v : bh) : SV := .tup2 (.tv aS v) (.raw (.int .i64 0))
theorem dz {v a : bh} {b : Int} (h : a = v) (hb : b = 0) : SV.tup2 (.tv aS a) (.raw (.int .i64 b)) = ml v := by subst h hb; rfl
inductive Ap (d : aP) (x : List bh) : List bh → Prop
  | leaf (ho : 1 ≤ d.1 ∧ d.1 ≤ 7) (hI : d.1 = 7 → 0 ≤ d.2 ∧ d.2 < (x.length : Int)) (hE : d.1 = 6 → 0 ≤ d.2) (hp : dK (dc d x) = true) : Ap d x []
  | not (a : bh) (ho : d.1 = 25) (hk : a.1 = 1) (hp : dK a = true) : Ap d x [a]
  | cmp (a b : bh) (ho : 19 ≤ d.1 ∧ d.1 ≤ 22) (hk : a.1 = b.1 ∧ a.2.1 = b.2.1) (hn : 21 ≤ d.1 → 2 ≤ a.1 ∧ a.1 ≤ 5) (hp : dK a = true) (hq : dK b = true) : Ap d x [a, b]
section
variable {d : aP} {x args : List bh}
theorem Ap.op (h : Ap d x args) : (1 ≤ d.1 ∧ d.1 ≤ 7) ∨ d.1 = 25 ∨ (19 ≤ d.1 ∧ d.1 ≤ 22) := by cases h <;> omega
theorem Ap.i7 (h : Ap d x args) (h7 : d.1 = 7) : 0 ≤ d.2 ∧ d.2 < (x.length : Int) := by
  cases h with
  | leaf ho hI hE hp => exact hI h7
  | _ => omega
theorem Ap.e6 (h : Ap d x args) (h6 : d.1 = 6) : 0 ≤ d.2 := by
  cases h with
  | leaf ho hI hE hp => exact hE h6
  | _ => omega
theorem Ap.lf (h : Ap d x args) (h7 : d.1 ≤ 7) : args = [] ∧ dK (dc d x) = true := by
  cases h with
  | leaf ho hI hE hp => exact ⟨rfl, hp⟩
  | _ => omega
theorem Ap.p7 (h : Ap d x args) (h7 : d.1 = 7) (hx : d.2.toNat < x.length) : dK x[d.2.toNat] = true := by
  rw [← jx h7 hx]; exact (h.lf zo).2
theorem Ap.pl (h : Ap d x args) : args.length ≤ 2 ∧ ∀ v ∈ args, dK v = true := by
  cases h with
  | leaf ho hI hE hp => simp
  | not a ho hk hp => simpa using hp
  | cmp a b ho hk hn hp hq => simp [hp, hq]
theorem Ap.ar (h : Ap d x args) : bp d.1 = (args.length : Int) := by
  cases h with
  | leaf ho hI hE hp =>
    have : d.1 = 1 ∨ d.1 = 2 ∨ d.1 = 3 ∨ d.1 = 4 ∨ d.1 = 5 ∨ d.1 = 6 ∨ d.1 = 7 := by omega
    unfold bp; rcases this with q | q | q | q | q | q | q <;> rw [q] <;> rfl
  | not a ho hk hp => unfold bp; rw [ho]; rfl
  | cmp a b ho hk hn hp hq =>
    have : d.1 = 19 ∨ d.1 = 20 ∨ d.1 = 21 ∨ d.1 = 22 := by omega
    unfold bp; rcases this with q | q | q | q <;> rw [q] <;> rfl
theorem Ap.one {a : bh} (h : Ap d x [a]) : d.1 = 25 ∧ a.1 = 1 := by
  cases h with
  | not a ho hk hp => exact ⟨ho, hk⟩
theorem Ap.two {a b : bh} (h : Ap d x [a, b]) : (19 ≤ d.1 ∧ d.1 ≤ 22) ∧ (a.1 = b.1 ∧ a.2.1 = b.2.1) ∧ (21 ≤ d.1 → 2 ≤ a.1 ∧ a.1 ≤ 5) := by
  cases h with
  | cmp a b ho hk hn hp hq => exact ⟨ho, hk, hn⟩
theorem Ap.n2 (h : Ap d x args) (h7 : ¬ d.1 ≤ 7) : args.length = 1 ∨ args.length = 2 := by
  cases h with
  | leaf ho hI hE hp => omega
  | _ => simp
end
theorem sP {d : aP} {x args : List bh} (h : Ap d x args) : dK (lH d args x) = true := by
  cases h with
  | leaf ho hI hE hp => exact hp
  | not a ho hk hp => exact js _
  | cmp a b ho hk hn hp hq => exact js _
theorem mN (v : bh) : Ct prog 207 [.tv aS v] (.raw (.bool (dK v))) := by
  refine ay func207 rfl rfl ntmps207 rfl rfl ?_
  intro w0 ok0
  refine zR (zb (.tv (.b rfl)) (zY rfl (aa (ae (zR (zF fg rfl (zL ty3 rfl rfl rfl dA (zJ (bQ (.b rfl) (.b rfl)) (zM rfl (zG rfl rfl (fun hg => ao j9 (.b rfl)) (zG rfl rfl (fun hg => aj ty3 (.gd rfl hg) rfl rfl iH) (zG rfl rfl (fun hg => bQ (.gd rfl hg) (.b rfl)) (zJ (aF (.b rfl) (.b rfl) rfl zp) (zZ ?_))))))))))))))
  refine af rfl (fun h1 => ?_) (fun h1 => ?_)
  · have h1 : ¬ v.1 = 6 ∧ ¬ v.2.1 = 0 := by simp at h1; omega
    refine zR (zY rfl (aa (am (ai ?_))))
    exact z1 results207 rfl (rb (by unfold dK; rw [if_neg h1.1]; simp [h1.2]))
  have h1 : v.1 = 6 ∨ v.2.1 = 0 := Classical.or_iff_not_imp_left.2 (fun c => by simp [c] at h1; exact h1)
  refine ah (aa (ae (zR (zF fg rfl (zL ty3 rfl rfl rfl dA (zZ (aq (zR (ze rfl rfl (zY rfl (aa ?_)))))))))))
  refine af rfl (fun h4 => ?_) (fun h4 => ?_)
  · have h4 := eq_of_beq h4
    refine zR (zF cw rfl (zL ty3 rfl rfl rfl cp (ze rfl rfl (zM rfl (zG rfl rfl (fun hg => ao cw (.b rfl)) (zG rfl rfl (fun hg => aj ty3 (.gd rfl hg) rfl rfl cp) (zG rfl rfl (fun hg => ca (.gd rfl hg) (.b rfl)) (zJ (aB (.b rfl) (.b rfl) rfl zp) (zY rfl (aa (am (av (ai ?_)))))))))))))
    exact z1 results207 rfl (rb (by have h1 := h1; rw [Bool.eq_iff_iff]; unfold dK iF; rw [h4] at h1 ⊢; simp at h1 ⊢; try omega))
  have h4 := beq_eq_false_iff_ne.1 h4
  refine zR (ze rfl rfl (zY rfl (aa ?_)))
  refine af rfl (fun h6 => ?_) (fun h6 => ?_)
  · have h6 := eq_of_beq h6
    refine zR (zF cw rfl (zL ty3 rfl rfl rfl cp (zJ (bW (.b rfl) (.b rfl)) (zM rfl (zG rfl rfl (fun hg => ao cw (.b rfl)) (zG rfl rfl (fun hg => aj ty3 (.gd rfl hg) rfl rfl cp) (zG rfl rfl (fun hg => ew (.gd rfl hg) (.b rfl)) (zJ (aF (.b rfl) (.b rfl) rfl zp) (zY rfl (aa (am (av (ai ?_)))))))))))))
    exact z1 results207 rfl (rb (by have h1 := h1; rw [Bool.eq_iff_iff]; unfold dK iF; rw [h6] at h1 ⊢; simp at h1 ⊢; try omega))
  have h6 := beq_eq_false_iff_ne.1 h6
  refine zR (ze rfl rfl (zY rfl (aa ?_)))
  refine af rfl (fun h8 => ?_) (fun h8 => ?_)
  · have h8 := eq_of_beq h8
    refine zR (zF cw rfl (zL ty3 rfl rfl rfl cp (zJ (bW (.b rfl) (.b rfl)) (zM rfl (zG rfl rfl (fun hg => ao cw (.b rfl)) (zG rfl rfl (fun hg => aj ty3 (.gd rfl hg) rfl rfl cp) (zG rfl rfl (fun hg => ew (.gd rfl hg) (.b rfl)) (zJ (aF (.b rfl) (.b rfl) rfl zp) (zY rfl (aa (am (av (ai ?_)))))))))))))
    exact z1 results207 rfl (rb (by have h1 := h1; rw [Bool.eq_iff_iff]; unfold dK iF; rw [h8] at h1 ⊢; simp at h1 ⊢; try omega))
  have h8 := beq_eq_false_iff_ne.1 h8
  refine zR (ze rfl rfl (zY rfl (aa ?_)))
  refine af rfl (fun h10 => ?_) (fun h10 => ?_)
  · have h10 := eq_of_beq h10
    refine zR (zF cw rfl (zL ty3 rfl rfl rfl cp (zJ (bW (.b rfl) (.b rfl)) (zM rfl (zG rfl rfl (fun hg => ao cw (.b rfl)) (zG rfl rfl (fun hg => aj ty3 (.gd rfl hg) rfl rfl cp) (zG rfl rfl (fun hg => ew (.gd rfl hg) (.b rfl)) (zJ (aF (.b rfl) (.b rfl) rfl zp) (zY rfl (aa (am (av (ai ?_)))))))))))))
    exact z1 results207 rfl (rb (by have h1 := h1; rw [Bool.eq_iff_iff]; unfold dK iF; rw [h10] at h1 ⊢; simp at h1 ⊢; try omega))
  have h10 := beq_eq_false_iff_ne.1 h10
  refine zR (ze rfl rfl (zY rfl (aa ?_)))
  refine af rfl (fun h12 => ?_) (fun h12 => ?_)
  · have h12 := eq_of_beq h12
    refine zR (zF cw rfl (zL ty3 rfl rfl rfl cp (zJ (bW (.b rfl) (.b rfl)) (zM rfl (zG rfl rfl (fun hg => ao cw (.b rfl)) (zG rfl rfl (fun hg => aj ty3 (.gd rfl hg) rfl rfl cp) (zG rfl rfl (fun hg => ew (.gd rfl hg) (.b rfl)) (zJ (aF (.b rfl) (.b rfl) rfl zp) (zY rfl (aa (am (av (ai ?_)))))))))))))
    exact z1 results207 rfl (rb (by have h1 := h1; rw [Bool.eq_iff_iff]; unfold dK iF; rw [h12] at h1 ⊢; simp at h1 ⊢; try omega))
  have h12 := beq_eq_false_iff_ne.1 h12
  refine zR (ze rfl rfl (zY rfl (aa ?_)))
  refine af rfl (fun h14 => ?_) (fun h14 => ?_)
  · have h14 := eq_of_beq h14
    refine zR (zF j9 rfl (zL ty3 rfl rfl rfl iH (zJ (bW (.b rfl) (.b rfl)) (zM rfl (zG rfl rfl (fun hg => ao j9 (.b rfl)) (zG rfl rfl (fun hg => aj ty3 (.gd rfl hg) rfl rfl iH) (zG rfl rfl (fun hg => dS (.gd rfl hg) (.b rfl)) (zJ (aF (.b rfl) (.b rfl) rfl zp) (zM rfl (zG rfl rfl (fun hg => ao cw (.b rfl)) (zG rfl rfl (fun hg => aj ty3 (.gd rfl hg) rfl rfl cp) (zG rfl rfl (fun hg => bW (.gd rfl hg) (.b rfl)) (zJ (aF (.b rfl) (.b rfl) rfl zp) (zM rfl (zG rfl rfl (fun hg => ao cw (.b rfl)) (zG rfl rfl (fun hg => aj ty3 (.gd rfl hg) rfl rfl cp) (zG rfl rfl (fun hg => dS (.gd rfl hg) (.b rfl)) (zJ (aF (.b rfl) (.b rfl) rfl zp) (zA rfl (zQ [2] [] (aa (am (av (ai ?_))))))))))))))))))))))))
    exact z1 results207 rfl (rb (by have h1 := h1; rw [Bool.eq_iff_iff]; unfold dK iF; rw [h14] at h1 ⊢; simp at h1 ⊢; try omega))
  have h14 := beq_eq_false_iff_ne.1 h14
  refine ah (aG (aa (zR (zY rfl (aa (am ?_))))))
  exact z1 results207 rfl (rb (by rw [Bool.eq_iff_iff]; unfold dK iF; rw [if_neg h4, if_neg h6, if_neg h8, if_neg h10, if_neg h12, if_neg h14]; simp; omega))
theorem lc (b : Bool) : Ct prog 256 [.raw (.bool b)] (.tv aS (nX b)) := by
  refine ay func256 rfl rfl ntmps256 rfl rfl ?_
  intro w0 ok0
  refine zR (zl z183 (zZ (ae (zR (zM rfl (zZ ?_))))))
  refine af rfl (fun h1 => ?_) (fun h1 => ?_)
  · subst h1
    refine zR (zJ (aI z183 rfl mh (.cons (rt' := (ak .i64)) rfl dA (.raw (.b rfl) rfl) (.cons (rt' := (ak .i64)) rfl cp (.raw (.b rfl) rfl) .nil))) (zC bI rfl rfl rfl (Lens.id _) (.tv (.b rfl)) (zZ (am (ai ?_)))))
    exact cv results256 (ax bI rfl rfl rfl (Lens.id aS)) rfl (congrArg (SV.tv aS) (rfl))
  subst h1
  refine ah (aa (zR (zJ (aI z183 rfl mh (.cons (rt' := (ak .i64)) rfl dA (.raw (.b rfl) rfl) .nil)) (zC bI rfl rfl rfl (Lens.id _) (.tv (.b rfl)) (zZ (am ?_))))))
  exact cv results256 (ax bI rfl rfl rfl (Lens.id aS)) rfl (congrArg (SV.tv aS) (rfl))
theorem tQ (k : Int) : Ct prog 252 [.raw (.int .i64 k)] (.raw (.bool (dH k))) := by
  refine ay func252 rfl rfl ntmps252 rfl rfl ?_
  intro w0 ok0
  refine zR (zY rfl (aa (zR (zM rfl (ze rfl rfl (zM rfl (zG rfl rfl (fun hg => ag (.b rfl)) (zG rfl rfl (fun hg => ca (.gd rfl hg) (.b rfl)) (zJ (aB (.b rfl) (.b rfl) rfl zp) (zM rfl (zG rfl rfl (fun hg => ag (.b rfl)) (zG rfl rfl (fun hg => ca (.gd rfl hg) (.b rfl)) (zJ (aB (.b rfl) (.b rfl) rfl zp) (zY rfl (aa (am ?_))))))))))))))))
  exact z1 results252 rfl (rb (by unfold dH; rw [Bool.eq_iff_iff]; simp; try omega))
theorem lM (a b : bh) : Ct prog 237 [.tv aS a, .tv aS b] (.raw (.bool (decide (a.1 = b.1) && decide (a.2.1 = b.2.1)))) := by
  refine ay func237 rfl rfl ntmps237 rfl rfl ?_
  intro w0 ok0
  refine zR (zb (.tv (.b rfl)) (zb (.tv (.b rfl)) (zY rfl (aa (zR (zF fg rfl (zL ty3 rfl rfl rfl dA (zF fg rfl (zL ty3 rfl rfl rfl dA (ze rfl rfl (zM rfl (zG rfl rfl (fun hg => ao j9 (.b rfl)) (zG rfl rfl (fun hg => aj ty3 (.gd rfl hg) rfl rfl iH) (zG rfl rfl (fun hg => ao j9 (.b rfl)) (zG rfl rfl (fun hg => aj ty3 (.gd rfl hg) rfl rfl iH) (zG rfl rfl (fun hg => ca (.gd rfl hg) (.gd rfl hg)) (zJ (aF (.b rfl) (.b rfl) rfl zp) (zY rfl (aa (am ?_))))))))))))))))))))
  exact z1 results237 rfl (rb (by rw [Bool.eq_iff_iff]; simp))
theorem ye (d : aP) (ha : 0 ≤ bp d.1) (hN : ¬ (d.2 ≠ 0 ∧ dE d.1 = false)) (ho : d.1 ≠ 14 ∧ d.1 ≠ 15 ∧ d.1 ≠ 16 ∧ d.1 ≠ 34) (hE : d.1 = 6 → 0 ≤ d.2) : Ct prog 202 [.tv bX d] (.raw (.bool true)) := by
  refine ay func202 rfl rfl ntmps202 rfl rfl ?_
  intro w0 ok0
  refine zR (zb (.tv (.b rfl)) (zY rfl (aa (ae (zR (zF bU rfl (zL ty3 rfl rfl rfl cb (zJ (an (km _) (.cons (.b rfl) .nil) rfl rfl) (zt rfl rfl (zM rfl (zG rfl rfl (fun hg => ao bT (.b rfl)) (zG rfl rfl (fun hg => aj ty3 (.gd rfl hg) rfl rfl ce) (zG rfl rfl (fun hg => bQ (.gd rfl hg) (.b rfl)) (zG rfl rfl (fun hg => ag (.gd rfl hg)) ?_))))))))))))))
  refine ct _ _ _ _ _ _ _ rfl rfl rfl rfl rfl (fun hg => ao bU (.b rfl)) ?_
  refine ct _ _ _ _ _ _ _ rfl rfl rfl rfl rfl (fun hg => aj ty3 (.gd rfl hg) rfl rfl cb) ?_
  refine ct _ _ _ _ _ _ _ rfl rfl rfl rfl rfl (fun hg => an (sX _) (.cons (.gd rfl hg) .nil) rfl rfl) ?_
  refine ct _ _ _ _ _ _ _ rfl rfl rfl rfl rfl (fun hg => b6 (.gd rfl hg)) ?_
  refine zG rfl rfl (fun hg => aF (.gd rfl hg) (.b rfl) rfl zp) (zJ (aB (.b rfl) (.b rfl) rfl zp) (zZ ?_))
  refine af rfl (fun h1 => ?_) (fun h1 => ?_)
  · exfalso; simp at h1; rcases h1 with q | ⟨q1, q2⟩; exact absurd ha zo; exact hN ⟨q1, q2⟩
  try simp at h1
  refine ah (aa (ae (zR (zF bU rfl (zL ty3 rfl rfl rfl cb (zZ (aq (ae (zR (ze rfl rfl (zY rfl (aa ?_))))))))))))
  refine af rfl (fun h4 => ?_) (fun h4 => ?_)
  · exfalso; simp at h4; omega
  have g4 := h4; try simp at h4
  refine zR (ze rfl rfl (zY rfl (aa ?_)))
  refine af rfl (fun h5 => ?_) (fun h5 => ?_)
  · exfalso; simp at h5; omega
  have g5 := h5; try simp at h5
  refine ac (ze rfl rfl (zY rfl (aa ?_)))
  refine af rfl (fun h6 => ?_) (fun h6 => ?_)
  · exfalso; simp at h6; omega
  have g6 := h6; try simp at h6
  refine zR (ze rfl rfl (zY rfl (aa ?_)))
  refine af rfl (fun h8 => ?_) (fun h8 => ?_)
  · exfalso; simp at h8; omega
  try simp at h8
  refine zR (ze rfl rfl (zY rfl (aa ?_)))
  refine af rfl (fun h10 => ?_) (fun h10 => ?_)
  · have h10 : d.1 = 6 := by simpa using h10
    refine zR (zF bT rfl (zL ty3 rfl rfl rfl ce (zJ (bW (.b rfl) (.b rfl)) (zY rfl (aa (am (av (ai ?_))))))))
    exact z1 results202 rfl (rb (by simp; exact hE h10))
  skip
  refine ah (aG (aa (zR (zY rfl (aa (am ?_))))))
  exact z1 results202 rfl (rfl)
theorem xM (d : aP) (env : mc) (hI : d.1 = 7 → 0 ≤ d.2 ∧ d.2 < (env.2.1.length : Int)) (ho : d.1 ≠ 8 ∧ d.1 ≠ 33 ∧ d.1 ≠ 34 ∧ ¬ (36 ≤ d.1 ∧ d.1 ≤ 39)) : Ct prog 203 [.tv bX d, .tv fC env] (.raw (.bool true)) := by
  refine ay func203 rfl rfl ntmps203 rfl rfl ?_
  intro w0 ok0
  refine zR (zb (.tv (.b rfl)) (zb (.tv (.b rfl)) (zY rfl (aa (ae (zR (zF bU rfl (zL ty3 rfl rfl rfl cb (zZ (aq (zR (ze rfl rfl (zY rfl (aa ?_))))))))))))))
  refine af rfl (fun h2 => ?_) (fun h2 => ?_)
  · have h2 : d.1 = 7 := by simpa using h2
    refine zR (zF bT rfl (zL ty3 rfl rfl rfl ce (zJ (bW (.b rfl) (.b rfl)) (zM rfl (zG rfl rfl (fun hg => ao bT (.b rfl)) (zG rfl rfl (fun hg => aj ty3 (.gd rfl hg) rfl rfl ce) (zG rfl rfl (fun hg => ao qp (.b rfl)) (zG rfl rfl (fun hg => aj jk (.gd rfl hg) rfl rfl lR) (zG rfl rfl (fun hg => cJ gA (.gd rfl hg)) (zG rfl rfl (fun hg => dS (.gd rfl hg) (.gd rfl hg)) (zJ (aF (.b rfl) (.b rfl) rfl zp) (zY rfl (aa (am (av (ai ?_))))))))))))))))
    exact z1 results203 rfl (rb (by simp; exact hI h2))
  skip
  refine zR (ze rfl rfl (zY rfl (aa ?_)))
  refine af rfl (fun h4 => ?_) (fun h4 => ?_)
  · exfalso; simp at h4; omega
  try simp at h4
  refine zR (ze rfl rfl (zY rfl (aa ?_)))
  refine af rfl (fun h6 => ?_) (fun h6 => ?_)
  · exfalso; simp at h6; omega
  try simp at h6
  refine zR (ze rfl rfl (zY rfl (aa ?_)))
  refine af rfl (fun h8 => ?_) (fun h8 => ?_)
  · exfalso; simp at h8; omega
  try simp at h8
  refine ae (zR (ze rfl rfl (zY rfl (aa ?_))))
  refine af rfl (fun h10 => ?_) (fun h10 => ?_)
  · exfalso; simp at h10; omega
  have g10 := h10; try simp at h10
  refine zR (ze rfl rfl (zY rfl (aa ?_)))
  refine af rfl (fun h11 => ?_) (fun h11 => ?_)
  · exfalso; simp at h11; omega
  have g11 := h11; try simp at h11
  refine zR (ze rfl rfl (zY rfl (aa ?_)))
  refine af rfl (fun h12 => ?_) (fun h12 => ?_)
  · exfalso; simp at h12; omega
  have g12 := h12; try simp at h12
  refine ac (ze rfl rfl (zY rfl (aa ?_)))
  refine af rfl (fun h13 => ?_) (fun h13 => ?_)
  · exfalso; simp at h13; omega
  have g13 := h13; try simp at h13
  refine ah (aG (aa (zR (zY rfl (aa (am ?_))))))
  exact z1 results203 rfl (rfl)
theorem Bu (l : List bh) (hp : ∀ v ∈ l, dK v = true) (hl : l.length ≤ 1000) : Ct prog 204 [.tv (ab aS) l] (.raw (.bool true)) := by
  refine ay func204 rfl rfl ntmps204 rfl rfl ?_
  intro w0 ok0
  refine zR (zY rfl (aa (ae (zR (zM rfl (zN gA rfl (zM rfl (zZ (aq ?_)))))))))
  refine aZ (ι := Nat) (fun k => ⟨[(5, .tv (ab aS) l), (6, .raw (.int .i64 (l.length))), (7, .raw (.int .i64 ((k : Nat))))], []⟩) (fun k => k ≤ l.length) (fun k => l.length - k) 0 (Nat.zero_le _) (fun a w hi => (zI hi)) ?_
  rintro k hk
  refine zR (zt rfl rfl (zZ (ae ?_)))
  refine af rfl (fun h2 => ?_) (fun h2 => ?_)
  · have h2 : k < l.length := by simpa using h2
    refine ah (aa (ae (aq (zR ?_))))
    refine bc _ rfl _ rfl rfl (al gA bI (.b rfl) (.b rfl) rfl zg) ?_
    refine zD bI rfl (zl z183 (zC bI rfl rfl rfl (Lens.id _) (.tv (.b rfl)) (zZ (zR (zL bI rfl rfl rfl (Lens.id _) (zJ (an (mN _) (.cons (.b rfl) .nil) rfl rfl) (zJ (b6 (.b rfl)) (zZ ?_))))))))
    refine af rfl (fun h4 => ?_) (fun h4 => ?_)
    · exfalso; have h4 : (!dK l[k]) = true := h4; rw [hp _ (List.getElem_mem h2)] at h4; cases h4
    try simp at h4
    refine ah (aG (aa (ac (zU rfl rfl zw (zM rfl (aN ?_))))))
    exact aD (fun a w hi => ⟨k + 1, zj, zo, (zI hi)⟩)
  skip
  refine bg (be (aY (bf (aa (ae (ac (zY rfl (aa (am ?_)))))))))
  exact z1 results204 rfl (rfl)
theorem BK (op k : Int) (ho : op = 25) (hk : k = 1) : Ct prog 235 [.raw (.int .i64 op), .raw (.int .i64 k)] (.raw (.bool true)) := by
  refine ay func235 rfl rfl ntmps235 rfl rfl ?_
  intro w0 ok0
  refine zR (zY rfl (aa (ae (zR (zM rfl (zZ (aq (zR (ze rfl rfl (zY rfl (aa ?_)))))))))))
  refine af rfl (fun h2 => ?_) (fun h2 => ?_)
  · exfalso; simp at h2; omega
  try simp at h2
  refine zR (ze rfl rfl (zY rfl (aa ?_)))
  refine af rfl (fun h4 => ?_) (fun h4 => ?_)
  · skip
    refine zR (zM rfl (ze rfl rfl (zY rfl (aa (am (av (ai ?_)))))))
    exact z1 results235 rfl (rb (by simp [hk]))
  exfalso; simp at h4; exact h4 ho
theorem Bo (op : Int) (a b : bh) (ho : 19 ≤ op ∧ op ≤ 22) (hk : a.1 = b.1 ∧ a.2.1 = b.2.1) (hn : 21 ≤ op → 2 ≤ a.1 ∧ a.1 ≤ 5) : Ct prog 236 [.raw (.int .i64 op), .tv aS a, .tv aS b] (.raw (.bool true)) := by
  refine ay func236 rfl rfl ntmps236 rfl rfl ?_
  intro w0 ok0
  refine zR (zb (.tv (.b rfl)) (zb (.tv (.b rfl)) (zY rfl (aa (ae (zR (zM rfl (zZ (aq (ae (zR (ze rfl rfl (zY rfl (aa ?_))))))))))))))
  refine af rfl (fun h2 => ?_) (fun h2 => ?_)
  · exfalso; simp at h2; omega
  have g2 := h2; try simp at h2
  refine ac (ze rfl rfl (zY rfl (aa ?_)))
  refine af rfl (fun h3 => ?_) (fun h3 => ?_)
  · exfalso; simp at h3; omega
  have g3 := h3; try simp at h3
  refine zR (ze rfl rfl (zY rfl (aa ?_)))
  refine af rfl (fun h5 => ?_) (fun h5 => ?_)
  · exfalso; simp at h5; omega
  try simp at h5
  refine zR (ze rfl rfl (zY rfl (aa ?_)))
  refine af rfl (fun h7 => ?_) (fun h7 => ?_)
  · exfalso; simp at h7; omega
  try simp at h7
  refine zR (ze rfl rfl (zY rfl (aa ?_)))
  refine af rfl (fun h9 => ?_) (fun h9 => ?_)
  · exfalso; simp at h9; omega
  try simp at h9
  refine zR (ze rfl rfl (zY rfl (aa ?_)))
  refine af rfl (fun h13 => ?_) (fun h13 => ?_)
  · exfalso; simp at h13; omega
  try simp at h13
  refine ae (zR (ze rfl rfl (zY rfl (aa ?_))))
  refine af rfl (fun h15 => ?_) (fun h15 => ?_)
  · exfalso; simp at h15; omega
  have g15 := h15; try simp at h15
  refine zR (ze rfl rfl (zY rfl (aa ?_)))
  refine af rfl (fun h16 => ?_) (fun h16 => ?_)
  · exfalso; simp at h16; omega
  have g16 := h16; try simp at h16
  refine zR (ze rfl rfl (zY rfl (aa ?_)))
  refine af rfl (fun h17 => ?_) (fun h17 => ?_)
  · have g17 := h17; have h17 : op = 21 := by simpa using h17
    refine ah (aa ?_)
    refine bz rfl g17 (ae ?_)
    refine ac (zL bI rfl rfl rfl (Lens.id _) (zL bI rfl rfl rfl (Lens.id _) (zJ (an (lM _ _) (.cons (.b rfl) (.cons (.b rfl) .nil)) rfl rfl) (zM rfl (zG rfl rfl (fun hg => ao fg (.b rfl)) (zG rfl rfl (fun hg => aj ty3 (.gd rfl hg) rfl rfl dA) (zG rfl rfl (fun hg => an (tQ _) (.cons (.gd rfl hg) .nil) rfl rfl) (zG rfl rfl (fun hg => ag (.gd rfl hg)) ?_))))))))
    refine ct _ _ _ _ _ _ _ rfl rfl rfl rfl rfl (fun hg => ao fg (.b rfl)) ?_
    refine ct _ _ _ _ _ _ _ rfl rfl rfl rfl rfl (fun hg => aj ty3 (.gd rfl hg) rfl rfl dA) ?_
    refine ct _ _ _ _ _ _ _ rfl rfl rfl rfl rfl (fun hg => ca (.gd rfl hg) (.b rfl)) ?_
    refine zG rfl rfl (fun hg => aB (.gd rfl hg) (.b rfl) rfl zp) (zJ (aF (.b rfl) (.b rfl) rfl zp) (zY rfl (aa (am (av (ai ?_))))))
    exact z1 results236 rfl (rb (by have q := hn zo; simp [hk.1, hk.2, dH]; have e := hk.1; omega))
  have g17 := h17; have h17 : ¬ op = 21 := by simpa using h17
  refine ac (ze rfl rfl (zY rfl (aa ?_)))
  refine af rfl (fun h18 => ?_) (fun h18 => ?_)
  · have g18 := h18; have h18 : op = 22 := by simpa using h18
    refine zR (zL bI rfl rfl rfl (Lens.id _) (zL bI rfl rfl rfl (Lens.id _) (zJ (an (lM _ _) (.cons (.b rfl) (.cons (.b rfl) .nil)) rfl rfl) (zM rfl (zG rfl rfl (fun hg => ao fg (.b rfl)) (zG rfl rfl (fun hg => aj ty3 (.gd rfl hg) rfl rfl dA) (zG rfl rfl (fun hg => an (tQ _) (.cons (.gd rfl hg) .nil) rfl rfl) (zG rfl rfl (fun hg => ag (.gd rfl hg)) ?_))))))))
    refine ct _ _ _ _ _ _ _ rfl rfl rfl rfl rfl (fun hg => ao fg (.b rfl)) ?_
    refine ct _ _ _ _ _ _ _ rfl rfl rfl rfl rfl (fun hg => aj ty3 (.gd rfl hg) rfl rfl dA) ?_
    refine ct _ _ _ _ _ _ _ rfl rfl rfl rfl rfl (fun hg => ca (.gd rfl hg) (.b rfl)) ?_
    refine zG rfl rfl (fun hg => aB (.gd rfl hg) (.b rfl) rfl zp) (zJ (aF (.b rfl) (.b rfl) rfl zp) (zY rfl (aa (am (av (ai ?_))))))
    exact z1 results236 rfl (rb (by have q := hn zo; simp [hk.1, hk.2, dH]; have e := hk.1; omega))
  have g18 := h18; have h18 : ¬ op = 22 := by simpa using h18
  refine ae (zR (ze rfl rfl (zY rfl (aa ?_))))
  refine af rfl (fun h20 => ?_) (fun h20 => ?_)
  · have g20 := h20; skip
    refine ah (aa ?_)
    refine bz rfl g20 (ae ?_)
    refine ac (zL bI rfl rfl rfl (Lens.id _) (zL bI rfl rfl rfl (Lens.id _) (zJ (an (lM _ _) (.cons (.b rfl) (.cons (.b rfl) .nil)) rfl rfl) (zA rfl (zQ [6] [] (aa (am (av (ai ?_)))))))))
    exact z1 results236 rfl (rb (by simp [hk.1, hk.2]))
  have g20 := h20; have h20 : ¬ op = 19 := by simpa using h20
  refine ac (ze rfl rfl (zY rfl (aa ?_)))
  refine af rfl (fun h21 => ?_) (fun h21 => ?_)
  · have g21 := h21; skip
    refine zR (zL bI rfl rfl rfl (Lens.id _) (zL bI rfl rfl rfl (Lens.id _) (zJ (an (lM _ _) (.cons (.b rfl) (.cons (.b rfl) .nil)) rfl rfl) (zY rfl (aa (am (av (ai ?_))))))))
    exact z1 results236 rfl (rb (by simp [hk.1, hk.2]))
  exfalso; simp at h21; omega
theorem yi (op : Int) (a : bh) (ho : op = 25) : Ct prog 241 [.raw (.int .i64 op), .tv aS a] (.tv aS (nX (decide (a.2.2 = 0)))) := by
  refine ay func241 rfl rfl ntmps241 rfl rfl ?_
  intro w0 ok0
  refine zR (zb (.tv (.b rfl)) (zl z183 (zZ (ae (zR (zM rfl (zZ (aq (zR (ze rfl rfl (zY rfl (aa ?_))))))))))))
  refine af rfl (fun h2 => ?_) (fun h2 => ?_)
  · exfalso; simp at h2; omega
  try simp at h2
  refine zR (ze rfl rfl (zY rfl (aa ?_)))
  refine af rfl (fun h4 => ?_) (fun h4 => ?_)
  · skip
    refine zR (zF cw rfl (zL ty3 rfl rfl rfl cp (ze rfl rfl (zJ (an (lc _) (.cons (.b rfl) .nil) rfl rfl) (zC bI rfl rfl rfl (Lens.id _) (.tv (.b rfl)) (zZ (am (av (ai ?_)))))))))
    exact cv results241 (ax bI rfl rfl rfl (Lens.id aS)) rfl (congrArg (SV.tv aS) (congrArg nX (by rw [Bool.eq_iff_iff]; simp)))
  exfalso; simp at h4; exact h4 ho
theorem ya (d : aP) (a b : bh) (ho : 19 ≤ d.1 ∧ d.1 ≤ 22) : Ct prog 242 [.tv bX d, .tv aS a, .tv aS b] (ml (qA d.1 a b)) := by
  refine ay func242 rfl rfl ntmps242 rfl rfl ?_
  intro w0 ok0
  refine zR (zb (.tv (.b rfl)) (zb (.tv (.b rfl)) (zb (.tv (.b rfl)) (zl z183 (zY rfl (aa (ae (zR (zF bU rfl (zL ty3 rfl rfl rfl cb (zZ (aq (ae (zR (ze rfl rfl (zY rfl (aa ?_)))))))))))))))))
  refine af rfl (fun h2 => ?_) (fun h2 => ?_)
  · exfalso; simp at h2; omega
  have g2 := h2; try simp at h2
  refine ac (ze rfl rfl (zY rfl (aa ?_)))
  refine af rfl (fun h3 => ?_) (fun h3 => ?_)
  · exfalso; simp at h3; omega
  have g3 := h3; try simp at h3
  refine zR (ze rfl rfl (zY rfl (aa ?_)))
  refine af rfl (fun h5 => ?_) (fun h5 => ?_)
  · exfalso; simp at h5; omega
  try simp at h5
  refine ae (zR (ze rfl rfl (zY rfl (aa ?_))))
  refine af rfl (fun h7 => ?_) (fun h7 => ?_)
  · exfalso; simp at h7; omega
  have g7 := h7; try simp at h7
  refine zR (ze rfl rfl (zY rfl (aa ?_)))
  refine af rfl (fun h8 => ?_) (fun h8 => ?_)
  · exfalso; simp at h8; omega
  have g8 := h8; try simp at h8
  refine zR (ze rfl rfl (zY rfl (aa ?_)))
  refine af rfl (fun h9 => ?_) (fun h9 => ?_)
  · exfalso; simp at h9; omega
  have g9 := h9; try simp at h9
  refine ac (ze rfl rfl (zY rfl (aa ?_)))
  refine af rfl (fun h10 => ?_) (fun h10 => ?_)
  · exfalso; simp at h10; omega
  have g10 := h10; try simp at h10
  refine ae (zR (ze rfl rfl (zY rfl (aa ?_))))
  refine af rfl (fun h12 => ?_) (fun h12 => ?_)
  · exfalso; simp at h12; omega
  have g12 := h12; try simp at h12
  refine ac (ze rfl rfl (zY rfl (aa ?_)))
  refine af rfl (fun h13 => ?_) (fun h13 => ?_)
  · exfalso; simp at h13; omega
  have g13 := h13; try simp at h13
  refine zR (ze rfl rfl (zY rfl (aa ?_)))
  refine af rfl (fun h17 => ?_) (fun h17 => ?_)
  · have h17 : d.1 = 19 := by simpa using h17
    refine zR (zF cw rfl (zL ty3 rfl rfl rfl cp (zF cw rfl (zL ty3 rfl rfl rfl cp (ze rfl rfl (zJ (an (lc _) (.cons (.b rfl) .nil) rfl rfl) (zC bI rfl rfl rfl (Lens.id _) (.tv (.b rfl)) (zY rfl (aa (am (av (ai ?_))))))))))))
    exact aK results242 (ax bI rfl rfl rfl (Lens.id aS)) (aw rfl) ⟨rfl, rfl⟩ (dz (by unfold qA; rw [if_pos h17]; first | rfl | (congr 1; rw [Bool.eq_iff_iff]; simp; done)) (rfl))
  have h17 : ¬ d.1 = 19 := by simpa using h17
  refine zR (ze rfl rfl (zY rfl (aa ?_)))
  refine af rfl (fun h19 => ?_) (fun h19 => ?_)
  · have h19 : d.1 = 20 := by simpa using h19
    refine zR (zF cw rfl (zL ty3 rfl rfl rfl cp (zF cw rfl (zL ty3 rfl rfl rfl cp (zJ (bQ (.b rfl) (.b rfl)) (zJ (an (lc _) (.cons (.b rfl) .nil) rfl rfl) (zC bI rfl rfl rfl (Lens.id _) (.tv (.b rfl)) (zY rfl (aa (am (av (ai ?_))))))))))))
    exact aK results242 (ax bI rfl rfl rfl (Lens.id aS)) (aw rfl) ⟨rfl, rfl⟩ (dz (by unfold qA; rw [if_neg h17, if_pos h19]; first | rfl | (congr 1; rw [Bool.eq_iff_iff]; simp; done)) (rfl))
  have h19 : ¬ d.1 = 20 := by simpa using h19
  refine zR (ze rfl rfl (zA rfl (zQ [4,5,6,11,74] [4,5,6] (aa ?_))))
  refine af rfl (fun h21 => ?_) (fun h21 => ?_)
  · have h21 : d.1 = 21 := by simpa using h21
    refine zR (zF cw rfl (zL ty3 rfl rfl rfl cp (zF cw rfl (zL ty3 rfl rfl rfl cp (zt rfl rfl (zJ (an (lc _) (.cons (.b rfl) .nil) rfl rfl) (zC bI rfl rfl rfl (Lens.id _) (.tv (.b rfl)) (zY rfl (aa (am (av (ai ?_))))))))))))
    exact aK results242 (ax bI rfl rfl rfl (Lens.id aS)) (aw rfl) ⟨rfl, rfl⟩ (dz (by unfold qA; rw [if_neg h17, if_neg h19, if_pos h21]) (rfl))
  have h21 : ¬ d.1 = 21 := by simpa using h21
  refine zR (ze rfl rfl (zY rfl (aa ?_)))
  refine af rfl (fun h23 => ?_) (fun h23 => ?_)
  · skip
    refine zR (zF cw rfl (zL ty3 rfl rfl rfl cp (zF cw rfl (zL ty3 rfl rfl rfl cp (zJ (ew (.b rfl) (.b rfl)) (zJ (an (lc _) (.cons (.b rfl) .nil) rfl rfl) (zC bI rfl rfl rfl (Lens.id _) (.tv (.b rfl)) (zY rfl (aa (am (av (ai ?_))))))))))))
    exact aK results242 (ax bI rfl rfl rfl (Lens.id aS)) (aw rfl) ⟨rfl, rfl⟩ (dz (by unfold qA; rw [if_neg h17, if_neg h19, if_neg h21]) (rfl))
  exfalso; simp at h23; omega
end Go.Proofs.YtehcaebnijlhgaaGreatDoor
namespace Go.Proofs.YtehcaebnijlhgaaGreatDoor
open Go.Eng Tryz
set_option maxRecDepth 100000
set_option maxHeartbeats 4000000
open C23
theorem vo (d : aP) (args : List bh) (env : mc) (hA : Ap d env.2.1 args) : Ct prog 205 [.tv bX d, .tv (ab aS) args, .tv fC env] (.raw (.bool true)) := by
  refine ay func205 rfl rfl ntmps205 rfl rfl ?_
  intro w0 ok0
  have hop := hA.op
  refine zR (zb (.tv (.b rfl)) (zb (.tv (.b rfl)) (zY rfl (aa (ae (zR (zF bU rfl (zL ty3 rfl rfl rfl cb (zZ (aq (zR (ze rfl rfl (zY rfl (aa ?_))))))))))))))
  refine af rfl (fun h2 => ?_) (fun h2 => ?_)
  · have h2 : d.1 = 7 := by simpa using h2
    have hi7 := hA.i7 h2
    have hlt : d.2.toNat < env.2.1.length := by omega
    have hnn : d.2 = ((d.2.toNat : Nat) : Int) := by omega
    refine zR (zF qp rfl (zL jk rfl rfl rfl lR (zF bT rfl (zL ty3 rfl rfl rfl ce ?_))))
    refine bc _ rfl _ rfl rfl (al gA bI (.b rfl) (.b rfl) hnn zg) ?_
    refine zD bI rfl (zJ (an (mN _) (.cons (.b rfl) .nil) rfl rfl) (zY rfl (aa (am (av (ai ?_))))))
    exact z1 results205 rfl (rb (hA.p7 h2 hlt))
  skip
  refine zR (ze rfl rfl (zY rfl (aa ?_)))
  refine af rfl (fun h4 => ?_) (fun h4 => ?_)
  · exfalso; simp at h4; omega
  try simp at h4
  refine zR (ze rfl rfl (zY rfl (aa ?_)))
  refine af rfl (fun h6 => ?_) (fun h6 => ?_)
  · exfalso; simp at h6; omega
  try simp at h6
  refine zR (ze rfl rfl (zY rfl (aa ?_)))
  refine af rfl (fun h9 => ?_) (fun h9 => ?_)
  · exfalso; simp at h9; omega
  try simp at h9
  refine ae (zR (ze rfl rfl (zY rfl (aa ?_))))
  refine af rfl (fun h12 => ?_) (fun h12 => ?_)
  · exfalso; simp at h12; omega
  have g12 := h12; try simp at h12
  refine zR (ze rfl rfl (zY rfl (aa ?_)))
  refine af rfl (fun h13 => ?_) (fun h13 => ?_)
  · exfalso; simp at h13; omega
  have g13 := h13; try simp at h13
  refine zR (ze rfl rfl (zY rfl (aa ?_)))
  refine af rfl (fun h14 => ?_) (fun h14 => ?_)
  · exfalso; simp at h14; omega
  have g14 := h14; try simp at h14
  refine ac (ze rfl rfl (zY rfl (aa ?_)))
  refine af rfl (fun h15 => ?_) (fun h15 => ?_)
  · exfalso; simp at h15; omega
  have g15 := h15; try simp at h15
  refine ah (aG (aa (ae (zR (zM rfl (zN gA rfl (zZ (aq (zR (ze rfl rfl (zY rfl (aa ?_))))))))))))
  refine af rfl (fun h18 => ?_) (fun h18 => ?_)
  · have h18 : args.length = 1 := by simp at h18; omega
    obtain ⟨a, rfl⟩ := zH h18
    obtain ⟨ho, hk1⟩ := hA.one
    refine ae ?_
    refine dN mo zk ( zS (ao bU (.b rfl)) ( zS (aj ty3 (.b rfl) rfl rfl cb) ( zS (ag (.b rfl)) ( zS (al gA bI (.b rfl) (.b rfl) (show (0 : Int) = ((0 : Nat) : Int) from rfl) zg) ( zS (aO fg dA (.b rfl)) ( zS (aA ty3 (.b rfl)) ( zS (an (BK _ _ ho hk1) (.cons (.b rfl) (.cons (.b rfl) .nil)) rfl rfl) ( zS (aU (.b rfl)) ( AS.nil))))))))) ?_
    refine aa (am (av (ai ?_)))
    exact z1 results205 rfl (rfl)
  have h18 : ¬ args.length = 1 := by intro q; simp [q] at h18
  refine zR (ze rfl rfl (zY rfl (aa ?_)))
  refine af rfl (fun h20 => ?_) (fun h20 => ?_)
  · have h20 : args.length = 2 := by simp at h20; omega
    obtain ⟨a, b, rfl⟩ := wd h20
    obtain ⟨ho, hk1, hn1⟩ := hA.two
    refine ae ?_
    refine dN mo zk ( zS (ao bU (.b rfl)) ( zS (aj ty3 (.b rfl) rfl rfl cb) ( zS (ag (.b rfl)) ( zS (al gA bI (.b rfl) (.b rfl) (show (0 : Int) = ((0 : Nat) : Int) from rfl) zg) ( zS (aA bI (.b rfl)) ( zS (ag (.b rfl)) ( zS (al gA bI (.b rfl) (.b rfl) (show (1 : Int) = ((1 : Nat) : Int) from rfl) zg) ( zS (aA bI (.b rfl)) ( zS (an (Bo _ _ _ ho hk1 hn1) (.cons (.b rfl) (.cons (.b rfl) (.cons (.b rfl) .nil))) rfl rfl) ( zS (aU (.b rfl)) ( AS.nil))))))))))) ?_
    refine zK [6] [] (aa (am (av (ai ?_))))
    exact z1 results205 rfl (rfl)
  skip
  refine zR (ze rfl rfl (zY rfl (aa ?_)))
  refine af rfl (fun h22 => ?_) (fun h22 => ?_)
  · exfalso; have := hA.pl.1; simp at h22; omega
  try simp at h22
  refine ah (aG (aa (zR (zY rfl (aa (am ?_))))))
  exact z1 results205 rfl (rfl)
theorem vk (d : aP) (args : List bh) (env : mc) (hA : Ap d env.2.1 args) : Ct prog 206 [.tv bX d, .tv (ab aS) args, .tv fC env] (ml (lH d args env.2.1)) := by
  refine ay func206 rfl rfl ntmps206 rfl rfl ?_
  intro w0 ok0
  have hop := hA.op
  refine zR (zb (.tv (.b rfl)) (zb (.tv (.b rfl)) (zl z183 (zY rfl (aa (ae (zR (zF bU rfl (zL ty3 rfl rfl rfl cb (zZ (aq (ae (zR (ze rfl rfl (zY rfl (aa ?_))))))))))))))))
  refine af rfl (fun h2 => ?_) (fun h2 => ?_)
  · have g2 := h2; have h2 : d.1 = 1 := by simpa using h2
    refine ah (aa ?_)
    refine bz rfl g2 (ae ?_)
    refine ac (zF bU rfl (zL ty3 rfl rfl rfl cb (zF bT rfl (zL ty3 rfl rfl rfl ce (zJ (aI z183 rfl mh (.cons (rt' := (ak .i64)) rfl dA (.raw (.b rfl) rfl) (.cons (rt' := (ak .i64)) rfl cp (.raw (.b rfl) rfl) .nil))) (zC bI rfl rfl rfl (Lens.id _) (.tv (.b rfl)) (zY rfl (aa (am (av (ai ?_)))))))))))
    exact aK results206 (ax bI rfl rfl rfl (Lens.id aS)) (aw rfl) ⟨rfl, rfl⟩ (dz (by obtain ⟨rfl, _⟩ := hA.lf zo; show _ = dc d env.2.1; unfold dc; rw [if_neg zo, if_neg zo]) (rfl))
  have g2 := h2; have h2 : ¬ d.1 = 1 := by simpa using h2
  refine zR (ze rfl rfl (zY rfl (aa ?_)))
  refine af rfl (fun h3 => ?_) (fun h3 => ?_)
  · have g3 := h3; have h3 : d.1 = 2 := by simpa using h3
    refine ah (aa ?_)
    refine bz rfl g3 (ae ?_)
    refine ac (zF bU rfl (zL ty3 rfl rfl rfl cb (zF bT rfl (zL ty3 rfl rfl rfl ce (zJ (aI z183 rfl mh (.cons (rt' := (ak .i64)) rfl dA (.raw (.b rfl) rfl) (.cons (rt' := (ak .i64)) rfl cp (.raw (.b rfl) rfl) .nil))) (zC bI rfl rfl rfl (Lens.id _) (.tv (.b rfl)) (zY rfl (aa (am (av (ai ?_)))))))))))
    exact aK results206 (ax bI rfl rfl rfl (Lens.id aS)) (aw rfl) ⟨rfl, rfl⟩ (dz (by obtain ⟨rfl, _⟩ := hA.lf zo; show _ = dc d env.2.1; unfold dc; rw [if_neg zo, if_neg zo]) (rfl))
  have g3 := h3; have h3 : ¬ d.1 = 2 := by simpa using h3
  refine zR (ze rfl rfl (zY rfl (aa ?_)))
  refine af rfl (fun h4 => ?_) (fun h4 => ?_)
  · have g4 := h4; have h4 : d.1 = 3 := by simpa using h4
    refine ah (aa ?_)
    refine bz rfl g4 (ae ?_)
    refine ac (zF bU rfl (zL ty3 rfl rfl rfl cb (zF bT rfl (zL ty3 rfl rfl rfl ce (zJ (aI z183 rfl mh (.cons (rt' := (ak .i64)) rfl dA (.raw (.b rfl) rfl) (.cons (rt' := (ak .i64)) rfl cp (.raw (.b rfl) rfl) .nil))) (zC bI rfl rfl rfl (Lens.id _) (.tv (.b rfl)) (zY rfl (aa (am (av (ai ?_)))))))))))
    exact aK results206 (ax bI rfl rfl rfl (Lens.id aS)) (aw rfl) ⟨rfl, rfl⟩ (dz (by obtain ⟨rfl, _⟩ := hA.lf zo; show _ = dc d env.2.1; unfold dc; rw [if_neg zo, if_neg zo]) (rfl))
  have g4 := h4; have h4 : ¬ d.1 = 3 := by simpa using h4
  refine zR (ze rfl rfl (zY rfl (aa ?_)))
  refine af rfl (fun h5 => ?_) (fun h5 => ?_)
  · have g5 := h5; have h5 : d.1 = 4 := by simpa using h5
    refine ah (aa ?_)
    refine bz rfl g5 (ae ?_)
    refine ac (zF bU rfl (zL ty3 rfl rfl rfl cb (zF bT rfl (zL ty3 rfl rfl rfl ce (zJ (aI z183 rfl mh (.cons (rt' := (ak .i64)) rfl dA (.raw (.b rfl) rfl) (.cons (rt' := (ak .i64)) rfl cp (.raw (.b rfl) rfl) .nil))) (zC bI rfl rfl rfl (Lens.id _) (.tv (.b rfl)) (zY rfl (aa (am (av (ai ?_)))))))))))
    exact aK results206 (ax bI rfl rfl rfl (Lens.id aS)) (aw rfl) ⟨rfl, rfl⟩ (dz (by obtain ⟨rfl, _⟩ := hA.lf zo; show _ = dc d env.2.1; unfold dc; rw [if_neg zo, if_neg zo]) (rfl))
  have g5 := h5; have h5 : ¬ d.1 = 4 := by simpa using h5
  refine ac (ze rfl rfl (zY rfl (aa ?_)))
  refine af rfl (fun h6 => ?_) (fun h6 => ?_)
  · have g6 := h6; have h6 : d.1 = 5 := by simpa using h6
    refine zR (zF bU rfl (zL ty3 rfl rfl rfl cb (zF bT rfl (zL ty3 rfl rfl rfl ce (zJ (aI z183 rfl mh (.cons (rt' := (ak .i64)) rfl dA (.raw (.b rfl) rfl) (.cons (rt' := (ak .i64)) rfl cp (.raw (.b rfl) rfl) .nil))) (zC bI rfl rfl rfl (Lens.id _) (.tv (.b rfl)) (zY rfl (aa (am (av (ai ?_)))))))))))
    exact aK results206 (ax bI rfl rfl rfl (Lens.id aS)) (aw rfl) ⟨rfl, rfl⟩ (dz (by obtain ⟨rfl, _⟩ := hA.lf zo; show _ = dc d env.2.1; unfold dc; rw [if_neg zo, if_neg zo]) (rfl))
  have g6 := h6; have h6 : ¬ d.1 = 5 := by simpa using h6
  refine zR (ze rfl rfl (zY rfl (aa ?_)))
  refine af rfl (fun h8 => ?_) (fun h8 => ?_)
  · have h8 : d.1 = 6 := by simpa using h8
    have hd0 := hA.e6 h8
    obtain ⟨hnil, hpl⟩ := hA.lf zo
    have e6 : dc d env.2.1 = (6, d.2 / 16, d.2 % 16) := by unfold dc; rw [if_neg zo, if_pos h8]
    rw [e6] at hpl
    have hb : d.2 < 128 := by simp [dK] at hpl; omega
    refine zR (zF bT rfl (zL ty3 rfl rfl rfl ce (zJ (rT (.b rfl) (.b rfl) zo (yP hd0 zo zo)) (zF bT rfl (zL ty3 rfl rfl rfl ce (zJ (pW (.b rfl) (.b rfl) zo (yO hd0)) (zJ (aI z183 rfl mh (.cons (rt' := (ak .i64)) rfl dA (.raw (.b rfl) rfl) (.cons (rt' := (ak .i64)) rfl iH (.raw (.b rfl) rfl) (.cons (rt' := (ak .i64)) rfl cp (.raw (.b rfl) rfl) .nil)))) (zC bI rfl rfl rfl (Lens.id _) (.tv (.b rfl)) (zY rfl (aa (am (av (ai ?_)))))))))))))
    exact aK results206 (ax bI rfl rfl rfl (Lens.id aS)) (aw rfl) ⟨rfl, rfl⟩ (dz (by subst hnil; exact e6.symm) (rfl))
  have h8 : ¬ d.1 = 6 := by simpa using h8
  refine zR (ze rfl rfl (zY rfl (aa ?_)))
  refine af rfl (fun h10 => ?_) (fun h10 => ?_)
  · have h10 : d.1 = 7 := by simpa using h10
    have hi7 := hA.i7 h10
    have hlt : d.2.toNat < env.2.1.length := by omega
    have hnn : d.2 = ((d.2.toNat : Nat) : Int) := by omega
    refine zR (zF qp rfl (zL jk rfl rfl rfl lR (zF bT rfl (zL ty3 rfl rfl rfl ce ?_))))
    refine bc _ rfl _ rfl rfl (al gA bI (.b rfl) (.b rfl) hnn zg) ?_
    refine zD bI rfl (zC bI rfl rfl rfl (Lens.id _) (.tv (.b rfl)) (zA rfl (zQ [6,7] [6] (aa (am (av (ai ?_)))))))
    exact aK results206 (ax bI rfl rfl rfl (Lens.id aS)) (aw rfl) ⟨rfl, rfl⟩ (dz (by obtain ⟨rfl, _⟩ := hA.lf zo; exact (jx h10 hlt).symm) (rfl))
  have h10 : ¬ d.1 = 7 := by simpa using h10
  have hn2 := hA.n2 zo
  refine zR (ze rfl rfl (zY rfl (aa ?_)))
  refine af rfl (fun h12 => ?_) (fun h12 => ?_)
  · exfalso; simp at h12; omega
  try simp at h12
  refine zR (ze rfl rfl (zY rfl (aa ?_)))
  refine af rfl (fun h14 => ?_) (fun h14 => ?_)
  · exfalso; simp at h14; omega
  try simp at h14
  refine zR (ze rfl rfl (zY rfl (aa ?_)))
  refine af rfl (fun h16 => ?_) (fun h16 => ?_)
  · exfalso; simp at h16; omega
  try simp at h16
  refine ae (zR (ze rfl rfl (zY rfl (aa ?_))))
  refine af rfl (fun h18 => ?_) (fun h18 => ?_)
  · exfalso; simp at h18; omega
  have g18 := h18; try simp at h18
  refine zR (ze rfl rfl (zY rfl (aa ?_)))
  refine af rfl (fun h19 => ?_) (fun h19 => ?_)
  · exfalso; simp at h19; omega
  have g19 := h19; try simp at h19
  refine zR (ze rfl rfl (zY rfl (aa ?_)))
  refine af rfl (fun h20 => ?_) (fun h20 => ?_)
  · exfalso; simp at h20; omega
  have g20 := h20; try simp at h20
  refine ac (ze rfl rfl (zY rfl (aa ?_)))
  refine af rfl (fun h21 => ?_) (fun h21 => ?_)
  · exfalso; simp at h21; omega
  have g21 := h21; try simp at h21
  refine zR (ze rfl rfl (zY rfl (aa ?_)))
  refine af rfl (fun h23 => ?_) (fun h23 => ?_)
  · exfalso; simp at h23; omega
  try simp at h23
  refine zR (ze rfl rfl (zY rfl (aa ?_)))
  refine af rfl (fun h29 => ?_) (fun h29 => ?_)
  · exfalso; simp at h29; omega
  try simp at h29
  refine ah (aG (aa (ae (zR (zM rfl (zN gA rfl (zZ (aq (zR (ze rfl rfl (zY rfl (aa ?_))))))))))))
  refine af rfl (fun h33 => ?_) (fun h33 => ?_)
  · have h33 : args.length = 1 := by simp at h33; omega
    obtain ⟨a, rfl⟩ := zH h33
    obtain ⟨ho, hk1⟩ := hA.one
    refine ae ?_
    refine bZ mo zk ( zE [3] (ao bU (.b rfl)) ( zE [3] (aj ty3 (.b rfl) rfl rfl cb) ( zE [] (ag (.b rfl)) ( zE [] (al gA bI (.b rfl) (.b rfl) (show (0 : Int) = ((0 : Nat) : Int) from rfl) zg) ( zE [] (aA bI (.b rfl)) ( zE [] (an (yi _ _ ho) (.cons (.b rfl) (.cons (.b rfl) .nil)) rfl rfl) ( AE.cons _ _ _ rfl (bF bI (.b rfl) rfl rfl (Lens.id _) (.tv (.b rfl))) ( zE [] (aU (.b rfl)) ( AE.nil))))))))) zk ?_
    refine aa (am (av (ai ?_)))
    exact aK results206 (ax bI rfl rfl rfl (Lens.id aS)) (aw rfl) ⟨rfl, rfl⟩ (dz (rfl) (rfl))
  have h33 : ¬ args.length = 1 := by intro q; simp [q] at h33
  refine zR (ze rfl rfl (zY rfl (aa ?_)))
  refine af rfl (fun h35 => ?_) (fun h35 => ?_)
  · have h35 : args.length = 2 := by simp at h35; omega
    obtain ⟨a, b, rfl⟩ := wd h35
    obtain ⟨ho, hk1, hn1⟩ := hA.two
    refine ae ?_
    refine bZ mo zk ( zE [3] (aj cl (.b rfl) rfl rfl (Lens.id _)) ( zE [] (ag (.b rfl)) ( zE [] (al gA bI (.b rfl) (.b rfl) (show (0 : Int) = ((0 : Nat) : Int) from rfl) zg) ( zE [] (aA bI (.b rfl)) ( zE [] (ag (.b rfl)) ( zE [] (al gA bI (.b rfl) (.b rfl) (show (1 : Int) = ((1 : Nat) : Int) from rfl) zg) ( zE [] (aA bI (.b rfl)) ( zE [] (an (ya _ _ _ ho) (.cons (.b rfl) (.cons (.b rfl) (.cons (.b rfl) .nil))) rfl rfl) ( zE [] (bj (.b rfl)) ( zE [] (bi (.b rfl)) ( AE.cons _ _ _ rfl (bF bI (.b rfl) rfl rfl (Lens.id _) (.tv (.b rfl))) ( zE [] (aU (.b rfl)) ( AE.nil))))))))))))) zk ?_
    refine aa (am (av (ai ?_)))
    exact aK results206 (ax bI rfl rfl rfl (Lens.id aS)) (aw rfl) ⟨rfl, rfl⟩ (dz (rfl) (rfl))
  exfalso; simp at h35; omega
theorem Bq (d : aP) (args : List bh) (env : mc) (hA : Ap d env.2.1 args) (hN : ¬ (d.2 ≠ 0 ∧ dE d.1 = false)) : Ct prog 153 [.tv bX d, .tv (ab aS) args, .tv fC env] (ml (lH d args env.2.1)) := by
  refine ay func153 rfl rfl ntmps153 rfl rfl ?_
  intro w0 ok0
  have hop := hA.op
  refine zR (zb (.tv (.b rfl)) (zb (.tv (.b rfl)) (zl z183 (zY rfl (aa (ae (zR (zL cl rfl rfl rfl (Lens.id _) (zJ (an (ye _ (by rw [hA.ar]; omega) hN zo (fun q => hA.e6 q)) (.cons (.b rfl) .nil) rfl rfl) (zJ (b6 (.b rfl)) (zM rfl (zG rfl rfl (fun hg => ag (.b rfl)) (zG rfl rfl (fun hg => cJ gA (.gd rfl hg)) (zG rfl rfl (fun hg => ao bU (.b rfl)) (zG rfl rfl (fun hg => aj ty3 (.gd rfl hg) rfl rfl cb) (zG rfl rfl (fun hg => an (km _) (.cons (.gd rfl hg) .nil) rfl rfl) (zG rfl rfl (fun hg => bQ (.gd rfl hg) (.gd rfl hg)) (zJ (aB (.b rfl) (.b rfl) rfl zp) (zZ ?_)))))))))))))))))))
  refine af rfl (fun h1 => ?_) (fun h1 => ?_)
  · exfalso; rw [hA.ar] at h1; simp at h1
  try simp at h1
  refine ah (aa (ae (zR (zL cl rfl rfl rfl (Lens.id _) (zL hZ rfl rfl rfl (Lens.id _) (zJ (an (xM _ _ (fun q => hA.i7 q) zo) (.cons (.b rfl) (.cons (.b rfl) .nil)) rfl rfl) (zJ (b6 (.b rfl)) (zZ ?_))))))))
  refine af rfl (fun h3 => ?_) (fun h3 => ?_)
  · exfalso; simp at h3
  try simp at h3
  refine ah (aa (ae (zR (zM rfl (zJ (an (Bu _ hA.pl.2 (by have := hA.pl.1; omega)) (.cons (.b rfl) .nil) rfl rfl) (zJ (b6 (.b rfl)) (zM rfl (zG rfl rfl (fun hg => aj cl (.b rfl) rfl rfl (Lens.id _)) (zG rfl rfl (fun hg => ag (.b rfl)) (zG rfl rfl (fun hg => aj hZ (.b rfl) rfl rfl (Lens.id _)) (zG rfl rfl (fun hg => an (vo _ _ _ hA) (.cons (.gd rfl hg) (.cons (.gd rfl hg) (.cons (.gd rfl hg) .nil))) rfl rfl) (zG rfl rfl (fun hg => b6 (.gd rfl hg)) (zJ (aB (.b rfl) (.b rfl) rfl zp) (zZ ?_))))))))))))))
  refine af rfl (fun h5 => ?_) (fun h5 => ?_)
  · exfalso; simp at h5
  try simp at h5
  refine ah (aa (zR (zL cl rfl rfl rfl (Lens.id _) (zM rfl (zL hZ rfl rfl rfl (Lens.id _) (zJ (an (vk _ _ _ hA) (.cons (.b rfl) (.cons (.b rfl) (.cons (.b rfl) .nil))) rfl rfl) (zM rfl (zJ (bj (.b rfl)) (zJ (bi (.b rfl)) (zl z183 (zC bI rfl rfl rfl (Lens.id _) (.tv (.b rfl)) (zY rfl (aa (ae (zR (zM rfl (zJ (bQ (.b rfl) (.b rfl)) (zZ ?_))))))))))))))))))
  refine af rfl (fun h8 => ?_) (fun h8 => ?_)
  · exfalso; simp at h8
  try simp at h8
  refine ah (aa (ae (zR (zL bI rfl rfl rfl (Lens.id _) (zJ (an (mN _) (.cons (.b rfl) .nil) rfl rfl) (zJ (b6 (.b rfl)) (zZ ?_)))))))
  refine af rfl (fun h10 => ?_) (fun h10 => ?_)
  · exfalso; rw [sP hA] at h10; simp at h10
  try simp at h10
  refine ah (aa (zR (zL bI rfl rfl rfl (Lens.id _) (zC bI rfl rfl rfl (Lens.id _) (.tv (.b rfl)) (zY rfl (aa (am ?_)))))))
  exact aK results153 (ax bI rfl rfl rfl (Lens.id aS)) (aw rfl) ⟨rfl, rfl⟩ (dz (rfl) (rfl))
end Go.Proofs.YtehcaebnijlhgaaGreatDoor
namespace Go.Proofs.YtehcaebnijlhgaaGreatDoor
open Go.Eng Tryz
set_option maxRecDepth 100000
set_option maxHeartbeats 4000000
open C23
theorem AY (e : List aP) (env : mc) (m : Nat) (hm : m < e.length) (h0 : (bH e).2.2 = 0) : Ct prog 172 [.tv cC (e, (bH e).1, env), .raw (.int .i64 (m : Nat))] (.tv (ab (ak .i64)) (cV e m)) := by
  refine ay func172 rfl rfl ntmps172 rfl rfl ?_
  intro w0 ok0
  obtain ⟨hl48, -, hlen, -, hops⟩ := fL h0
  obtain ⟨har0, hrs⟩ := hops m hm
  obtain ⟨n, hn⟩ : ∃ n : Nat, bp e[m].1 = n := ⟨_, (Int.toNat_of_nonneg har0).symm⟩
  have hn3 : n ≤ 3 := by have := (nT e[m].1).2; omega
  have ctn : Ct prog 115 [.raw (.int .i64 e[m].1)] (.raw (.int .i64 (n : Int))) := hn ▸ km _
  refine zR (zb (.tv (.b rfl)) (zY rfl (aa (zR (zF t7 rfl (zL hP rfl rfl rfl r4 (zM rfl ?_)))))))
  refine bc _ rfl _ rfl rfl (al fB cl (.b rfl) (.b rfl) rfl zg) ?_
  refine zB bU cb rfl (zD ty3 rfl (zJ (an ctn (.cons (.b rfl) .nil) rfl rfl) (zO (dL bd ty3 z3 rfl by3 (.b rfl) (.b rfl) zo (by unfold maxLen; omega) rfl rfl rfl) (zY rfl (aa (zR (zM rfl (zJ (da (.b rfl) (.b rfl) zw) (zY rfl (aa (ae (zR (zM rfl (zJ (ci bd (.b rfl)) (zJ (da (.b rfl) (.b rfl) zw) (zY rfl (aa (aq ?_))))))))))))))))))
  refine aZ (ι := (Nat × Int × List Int)) (fun (j, t, suf) => ⟨[(2, .optr 2 cC.n 0 0), (5, .own 15 1 0 n), (6, .raw (.int .i64 (t - 1))), (7, .raw (.int .i64 ((j : Int) - 1)))], [(2, ⟨cC, [(e, (bH e).1, env)]⟩), (15, ⟨ak .i64, List.replicate j 0 ++ suf⟩)]⟩) (fun (j, t, suf) => j + suf.length = n ∧ (∃ rs, fv (bH e).1 t rs ∧ (j : Int) ≤ rs.length) ∧ t ≤ e.length ∧ opd (bH e).1 j t ++ suf = opd (bH e).1 n m) (fun (j, t, suf) => j) (n, (m : Int), []) (by refine ⟨rfl, ?_, by omega, by simp⟩; obtain ⟨rs, q1, q2, q3⟩ := hrs; exact ⟨rs, q1, by rw [← hn]; exact q2⟩) (fun a w hi => (Sub.inv ⟨(by repeat (first | exact aQ | refine aM rfl (by first | rfl | (simp; done) | assumption) ?_)), (by repeat (first | exact bn | refine aL rfl (by first | rfl | (simp; done)) ?_))⟩ hi)) ?_
  rintro ⟨j, t, suf⟩ ⟨hjn, ⟨rs, hc, hr⟩, htl, hp⟩
  refine ae (zR (zM rfl (zJ (bW (.b rfl) (.b rfl)) (zZ ?_))))
  refine af rfl (fun h4 => ?_) (fun h4 => ?_)
  · have hj0 : 0 < j := by simp at h4; omega
    refine ah (aa (ae (aq (ae ?_))))
    obtain ⟨s, r, rfl⟩ : ∃ s r, rs = s :: r := by
      cases rs with
      | nil => simp at hr; omega
      | cons s r => exact ⟨s, r, rfl⟩
    obtain ⟨hc1, hc2, hc3, hc4⟩ := hc
    have hsv : (bH e).1[(t - 1).toNat]'zo = s := by
      rw [List.getElem?_eq_getElem zo] at hc3; exact Option.some.inj hc3
    have hsv2 : (e, (bH e).1, env).2.1[(t - 1).toNat]'(show (t - 1).toNat < (bH e).1.length by omega) = s := hsv
    refine ac (zM rfl (zM rfl (zM rfl (zJ (bu bd ty3 (.b rfl) (.b rfl) (show (j : Int) - 1 = ((j - 1 : Nat) : Int) by omega) zh) ?_))))
    refine eN _ rfl (bK ty3 (.b rfl) rfl zg (Lens.id _) (.raw (.b rfl) rfl)) ?_
    refine zZ (ac (zF AP rfl (zL ek rfl rfl rfl vV (zM rfl ?_))))
    refine bc _ rfl _ rfl rfl (al bd ty3 (.b rfl) (.b rfl) (show t - 1 = (((t - 1).toNat : Nat) : Int) by omega) zg) ?_
    refine zD ty3 rfl (zJ (da (.b rfl) (.b rfl) zw) (zY rfl (aG (aa (ac (zM rfl (zJ (da (.b rfl) (.b rfl) zw) (zY rfl ?_))))))))
    exact aD (fun a w hi => ⟨(j - 1, (bH e).1[(t - 1).toNat]'zo, (t - 1) :: suf), (by simp only []; omega), ⟨by simp; omega, ⟨r, by rw [hsv]; exact hc4, by simp at hr; omega⟩, by omega, tB hj0 (by rw [List.getElem?_eq_getElem zo]) hp⟩, Sub.inv ⟨(by repeat (first | exact aQ | refine aM rfl (by first | rfl | assumption | exact congrArg (fun z => SV.raw (.int .i64 z)) zo) ?_)), (by repeat (first | exact bn | refine aL rfl (by first | rfl | exact congrArg (HB.mk (ak .i64)) (vE _ zo)) ?_))⟩ hi⟩)
  have hj0 : j = 0 := by simp at h4; omega
  refine bg (be (aY (bf (aa (ae (ac (zM rfl (zY rfl (aa (am ?_))))))))))
  refine cY 15 4 (b8 15 _) rfl rfl (by simp; omega) (bl 15 _) (bC 15 _) ?_
  exact z1 results172 rfl (congrArg (SV.tv (ab (ak .i64))) (by subst hj0; unfold cV; rw [if_neg zo]; simp only [Int.toNat_natCast, List.getElem?_eq_getElem (show m < e.length by omega), Option.getD_some, hn]; rw [← hp]; simp [opd] at hjn ⊢; rw [← hjn]; simp))
theorem uk (e : List aP) (env : mc) (z : Int) (v : bh) (hv : Ct prog 122 [.tv cC (e, (bH e).1, env), .raw (.int .i64 z)] (ml (v))) (hk : v.1 = 1) (hp : dK v = true) : Ct prog 216 [.tv cC (e, (bH e).1, env), .raw (.int .i64 z)] (ml v) := by
  refine ay func216 rfl rfl ntmps216 rfl rfl ?_
  intro w0 ok0
  refine zR (zb (.tv (.b rfl)) (zl z183 (zY rfl (aa (zR (zL pI rfl rfl rfl (Lens.id _) (zM rfl (zJ (an hv (.cons (.b rfl) (.cons (.b rfl) .nil)) rfl rfl) (zM rfl (zJ (bj (.b rfl)) (zJ (bi (.b rfl)) (zl z183 (zC bI rfl rfl rfl (Lens.id _) (.tv (.b rfl)) (zY rfl (aa (ae (zR (zM rfl (zJ (bQ (.b rfl) (.b rfl)) (zZ ?_))))))))))))))))))))
  refine af rfl (fun h2 => ?_) (fun h2 => ?_)
  · exfalso; simp at h2
  try simp at h2
  refine ah (aa (ae (zR (zF fg rfl (zL ty3 rfl rfl rfl dA (zJ (bQ (.b rfl) (.b rfl)) (zM rfl (zG rfl rfl (fun hg => aj bI (.b rfl) rfl rfl (Lens.id _)) (zG rfl rfl (fun hg => an (mN _) (.cons (.gd rfl hg) .nil) rfl rfl) (zG rfl rfl (fun hg => b6 (.gd rfl hg)) (zJ (aB (.b rfl) (.b rfl) rfl zp) (zZ ?_))))))))))))
  refine af rfl (fun h4 => ?_) (fun h4 => ?_)
  · exfalso; simp [hk, hp] at h4
  try simp at h4
  refine ah (aa (zR (zL bI rfl rfl rfl (Lens.id _) (zC bI rfl rfl rfl (Lens.id _) (.tv (.b rfl)) (zY rfl (aa (am ?_)))))))
  exact aK results216 (ax bI rfl rfl rfl (Lens.id aS)) (aw rfl) ⟨rfl, rfl⟩ (dz (rfl) (rfl))
theorem uj (e : List aP) (d : aP) (a b : Int) (env : mc) (va vb : bh) (ho : d.1 = 23 ∨ d.1 = 24) (hz : d.2 = 0) (hva : Ct prog 122 [.tv cC (e, (bH e).1, env), .raw (.int .i64 a)] (ml (va))) (hvb : Ct prog 122 [.tv cC (e, (bH e).1, env), .raw (.int .i64 b)] (ml (vb))) (ka : va.1 = 1) (pa : dK va = true) (kb : vb.1 = 1) (pb : dK vb = true) : Ct prog 173 [.tv cC (e, (bH e).1, env), .tv bX d, .tv (ab (ak .i64)) [a, b]] (ml (qd d.1 va vb)) := by
  refine ay func173 rfl rfl ntmps173 rfl rfl ?_
  intro w0 ok0
  refine zR (zb (.tv (.b rfl)) (zb (.tv (.b rfl)) (zl z183 (zY rfl (aa (ae (zR (zF bT rfl (zL ty3 rfl rfl rfl ce (zJ (bQ (.b rfl) (.b rfl)) (zZ ?_)))))))))))
  refine af rfl (fun h1 => ?_) (fun h1 => ?_)
  · exfalso; simp at h1; exact h1 hz
  try simp at h1
  refine ah (aa (ae ?_))
  refine bZ mo zk ( zE [3] (aj pI (.b rfl) rfl rfl (Lens.id _)) ( zE [] (ag (.b rfl)) ( zE [] (al bd ty3 (.b rfl) (.b rfl) (show (0 : Int) = ((0 : Nat) : Int) from rfl) zg) ( zE [] (aA ty3 (.b rfl)) ( zE [] (an (uk e env _ _ hva ka pa) (.cons (.b rfl) (.cons (.b rfl) .nil)) rfl rfl) ( zE [] (ag (.b rfl)) ( zE [] (bj (.b rfl)) ( zE [] (bi (.b rfl)) ( AE.cons _ _ _ rfl (d9 _ z183 rfl) ( AE.cons _ _ _ rfl (bF bI (.b rfl) rfl rfl (Lens.id _) (.tv (.b rfl))) ( zE [] (aU (.b rfl)) ( AE.nil)))))))))))) zk ?_
  refine aa (ae (zR (zM rfl (zJ (bQ (.b rfl) (.b rfl)) (zZ ?_)))))
  refine af rfl (fun h4 => ?_) (fun h4 => ?_)
  · exfalso; simp at h4
  try simp at h4
  refine ah (aa (ae (aq (zR (zF bU rfl (zL ty3 rfl rfl rfl cb (ze rfl rfl (zM rfl (zG rfl rfl (fun hg => ao cw (.b rfl)) (zG rfl rfl (fun hg => aj ty3 (.gd rfl hg) rfl rfl cp) (zG rfl rfl (fun hg => ca (.gd rfl hg) (.b rfl)) (zJ (aF (.b rfl) (.b rfl) rfl zp) (zY rfl (aa ?_))))))))))))))
  refine af rfl (fun h6 => ?_) (fun h6 => ?_)
  · exfalso; simp at h6; omega
  try simp at h6
  refine zR (zF bU rfl (zL ty3 rfl rfl rfl cb (ze rfl rfl (zY rfl (aa ?_)))))
  refine af rfl (fun h8 => ?_) (fun h8 => ?_)
  · exfalso; simp at h8; omega
  try simp at h8
  refine zR (zF bU rfl (zL ty3 rfl rfl rfl cb (ze rfl rfl (zF cw rfl (zL ty3 rfl rfl rfl cp (ze rfl rfl (zJ (tE uT4 (.b rfl) (.b rfl)) (zY rfl (aa ?_)))))))))
  refine af rfl (fun h10 => ?_) (fun h10 => ?_)
  · have h10 : decide (d.1 = 23) = decide (va.2.2 = 0) := eq_of_beq h10
    refine zR (zL bI rfl rfl rfl (Lens.id _) (zC bI rfl rfl rfl (Lens.id _) (.tv (.b rfl)) (zY rfl (aa (am (av (ai ?_)))))))
    exact aK results173 (ax bI rfl rfl rfl (Lens.id aS)) (aw rfl) ⟨rfl, rfl⟩ (dz (by unfold qd; rw [if_pos h10]) (rfl))
  have h10 : ¬ (decide (d.1 = 23) = decide (va.2.2 = 0)) := fun q => beq_eq_false_iff_ne.1 h10 q
  refine ah (aG (aa (ae ?_)))
  refine bZ mo zk ( zE [3] (aj pI (.b rfl) rfl rfl (Lens.id _)) ( zE [] (ag (.b rfl)) ( zE [] (al bd ty3 (.b rfl) (.b rfl) (show (1 : Int) = ((1 : Nat) : Int) from rfl) zg) ( zE [] (aA ty3 (.b rfl)) ( zE [] (an (uk e env _ _ hvb kb pb) (.cons (.b rfl) (.cons (.b rfl) .nil)) rfl rfl) ( zE [] (bj (.b rfl)) ( zE [] (bi (.b rfl)) ( AE.cons _ _ _ rfl (bF bI (.b rfl) rfl rfl (Lens.id _) (.tv (.b rfl))) ( zE [] (aU (.b rfl)) ( AE.nil)))))))))) zk ?_
  refine aa (am ?_)
  exact aK results173 (ax bI rfl rfl rfl (Lens.id aS)) (aw rfl) ⟨rfl, rfl⟩ (dz (by unfold qd; rw [if_neg h10]) (rfl))
section
variable {e : List aP} {s : a6} {ty : Nat → bE} {x y : List bh}
theorem C23.Flat.ap (F : Flat e s ty x) {n i : Nat} (hi : i < n + 1) (h : i < e.length) (ho : ¬ (e[i].1 = 23 ∨ e[i].1 = 24)) : Ap e[i] x ((cV e (i : Int)).map (evV e x n)) := by
  rcases lB h (F.flat i h) with hq | hq | hq | hq | ⟨hq, _⟩
  · obtain ⟨hops, h7, v1, v2, v3, v4, v5⟩ := F.sh_leaf h hq
    rw [hops]; exact .leaf hq (fun q => ⟨(h7 q).1, (h7 q).2.1⟩) v4 v3
  · exact absurd (.inl hq) ho
  · exact absurd (.inr hq) ho
  · obtain ⟨a, hops, ha, _, ta, ti⟩ := F.sh_not h hq
    have h1 := F.val n a zo zo
    rw [ta] at h1
    rw [hops]; exact .not _ hq h1.1 h1.2.2
  obtain ⟨a, b, hops, ha, hb, _, tab, hn, ti⟩ := F.sh_cmp h hq
  have h1 := F.val n a zo zo
  have h2 := F.val n b zo zo
  rw [hops]; exact .cmp _ _ hq ⟨by rw [h1.1, h2.1, tab], by rw [h1.2.1, h2.2.1, tab]⟩ (fun q => by rw [h1.1]; exact hn q) h1.2.2 h2.2.2
end
theorem setk {α : Type} (a : List α) (z v : α) (m : Nat) (h : 0 < m) : (a ++ List.replicate m z).set a.length v = (a ++ [v]) ++ List.replicate (m - 1) z := by
  obtain ⟨m, rfl⟩ : ∃ k, m = k + 1 := ⟨m - 1, by omega⟩
  rw [List.set_append_right _ _ (Nat.le_refl _), Nat.sub_self, List.replicate_succ]; simp
def qN (e : List aP) (x : List bh) (n i k : Nat) : List bh := ((cV e (i : Int)).take k).map (evV e x n) ++ List.replicate ((cV e (i : Int)).length - k) (0, 0, 0)
theorem Bp (e : List aP) (x : List bh) (n i k : Nat) (h : k ≤ (cV e (i : Int)).length) : (qN e x n i k).length = (cV e (i : Int)).length := by
  unfold qN; simp; omega
theorem argK_s {e : List aP} {x : List bh} {n i k : Nat} (h : k < (cV e (i : Int)).length) : (qN e x n i k).set k (evV e x n (cV e (i : Int))[k]) = qN e x n i (k + 1) := by
  have hl : (((cV e (i : Int)).take k).map (evV e x n)).length = k := by simp; omega
  have := setk (((cV e (i : Int)).take k).map (evV e x n)) (0, 0, 0) (evV e x n (cV e (i : Int))[k]) ((cV e (i : Int)).length - k) zo
  rw [hl] at this
  unfold qN
  rw [this, List.take_succ_eq_append_getElem h, List.map_append, show (cV e (i : Int)).length - (k + 1) = (cV e (i : Int)).length - k - 1 by omega]; rfl
theorem vn (e : List aP) (x : List bh) (n i : Nat) : qN e x n i 0 = List.replicate (cV e (i : Int)).length (0, 0, 0) := by unfold qN; simp
theorem argK_n {e : List aP} {x : List bh} {n i k : Nat} (h : (cV e (i : Int)).length ≤ k) : qN e x n i k = (cV e (i : Int)).map (evV e x n) := by unfold qN; rw [List.take_of_length_le h, show (cV e (i : Int)).length - k = 0 by omega]; simp
theorem vh (e : List aP) (s : a6) (ty : Nat → bE) (env : mc) (F : Flat e s ty env.2.1) (hst : (bH e).2.2 = 0) (n i : Nat) (hi : i < n + 1) (h : i < e.length) (IH : ∀ j : Nat, j < n → j < e.length → Ct prog 122 [.tv cC (e, (bH e).1, env), .raw (.int .i64 (j : Nat))] (ml (evV e env.2.1 n (j : Nat)))) : Ct prog 122 [.tv cC (e, (bH e).1, env), .raw (.int .i64 (i : Nat))] (ml (evV e env.2.1 (n + 1) (i : Nat))) := by
  refine ay func122 rfl rfl ntmps122 rfl rfl ?_
  intro w0 ok0
  refine zR (zb (.tv (.b rfl)) (zl z183 (zY rfl (aa (zR (zF t7 rfl (zL hP rfl rfl rfl r4 (zM rfl ?_))))))))
  refine bc _ rfl _ rfl rfl (al fB cl (.b rfl) (.b rfl) rfl zg) ?_
  refine zD cl rfl (zl kT (zC cl rfl rfl rfl (Lens.id _) (.tv (.b rfl)) (zZ (zR (zL pI rfl rfl rfl (Lens.id _) (zM rfl (zJ (an (AY e env i h hst) (.cons (.b rfl) (.cons (.b rfl) .nil)) rfl rfl) (zY rfl (aa (ae (zR (zF bU rfl (zL ty3 rfl rfl rfl cb (zZ (aq (ae (zR (ze rfl rfl (zY rfl (aa ?_))))))))))))))))))))
  refine af rfl (fun h4 => ?_) (fun h4 => ?_)
  · have g4 := h4; have h3 : e[i].1 = 23 ∨ e[i].1 = 24 := .inl (by simpa using h4)
    obtain ⟨a, b, hops, hab, hbb, hz, ta, tb, ti⟩ := F.sh_and h h3
    have v1 := F.val n a zo zo
    have v2 := F.val n b zo zo
    rw [ta] at v1
    rw [tb] at v2
    have c1 := IH a zo zo
    have c2 := IH b zo zo
    rw [hops]
    refine ah (aa ?_)
    refine bz rfl g4 (ae ?_)
    refine ac (zL pI rfl rfl rfl (Lens.id _) (zL cl rfl rfl rfl (Lens.id _) (zM rfl (zJ (an (uj e e[i] a b env _ _ h3 hz c1 c2 v1.1 v1.2.2 v2.1 v2.2.2) (.cons (.b rfl) (.cons (.b rfl) (.cons (.b rfl) .nil))) rfl rfl) (zJ (bj (.b rfl)) (zJ (bi (.b rfl)) (zC bI rfl rfl rfl (Lens.id _) (.tv (.b rfl)) (zY rfl (aa (am (av (ai ?_))))))))))))
    exact aK results122 (ax bI rfl rfl rfl (Lens.id aS)) (aw rfl) ⟨rfl, rfl⟩ (dz ((lE h h3 hops).symm) (rfl))
  have g4 := h4; have h4 : ¬ e[i].1 = 23 := by simpa using h4
  refine zR (ze rfl rfl (zY rfl (aa ?_)))
  refine af rfl (fun h5 => ?_) (fun h5 => ?_)
  · have g5 := h5; have h3 : e[i].1 = 23 ∨ e[i].1 = 24 := .inr (by simpa using h5)
    obtain ⟨a, b, hops, hab, hbb, hz, ta, tb, ti⟩ := F.sh_and h h3
    have v1 := F.val n a zo zo
    have v2 := F.val n b zo zo
    rw [ta] at v1
    rw [tb] at v2
    have c1 := IH a zo zo
    have c2 := IH b zo zo
    rw [hops]
    refine ah (aa ?_)
    refine bz rfl g5 (ae ?_)
    refine ac (zL pI rfl rfl rfl (Lens.id _) (zL cl rfl rfl rfl (Lens.id _) (zM rfl (zJ (an (uj e e[i] a b env _ _ h3 hz c1 c2 v1.1 v1.2.2 v2.1 v2.2.2) (.cons (.b rfl) (.cons (.b rfl) (.cons (.b rfl) .nil))) rfl rfl) (zJ (bj (.b rfl)) (zJ (bi (.b rfl)) (zC bI rfl rfl rfl (Lens.id _) (.tv (.b rfl)) (zY rfl (aa (am (av (ai ?_))))))))))))
    exact aK results122 (ax bI rfl rfl rfl (Lens.id aS)) (aw rfl) ⟨rfl, rfl⟩ (dz ((lE h h3 hops).symm) (rfl))
  have g5 := h5; have h5 : ¬ e[i].1 = 24 := by simpa using h5
  refine ac (ze rfl rfl (zY rfl (aa ?_)))
  refine af rfl (fun h6 => ?_) (fun h6 => ?_)
  · exfalso; have h6 : e[i].1 = 26 := (by simpa using h6); have := lB h (F.flat i h); omega
  have g6 := h6; have h3 : ¬ (e[i].1 = 23 ∨ e[i].1 = 24) := by omega
  have hol : (cV e (i : Int)).length ≤ 3 := by have := (F.typ i h).1.1; have q := (nT e[i].1).2; omega
  refine ah (aG (aa (zR (zM rfl (zN bd rfl (zO (dL gA bI z183 rfl wP (.b rfl) (.b rfl) zo (by unfold maxLen; omega) rfl rfl rfl) (zY rfl (aa (ae (zR (zM rfl (zN bd rfl (zM rfl (zZ (aq ?_)))))))))))))))
  refine aZ (ι := Nat) (fun k => ⟨[(2, .optr 2 cC.n 0 0), (4, .optr 4 aS.n 0 0), (6, .optr 6 bX.n 0 0), (8, .own 35 aS.n 0 (cV e (i : Int)).length), (36, .tv (ab (ak .i64)) (cV e (i : Int))), (37, .raw (.int .i64 ((cV e (i : Int)).length))), (38, .raw (.int .i64 ((k : Nat))))], [(2, ⟨cC, [(e, (bH e).1, env)]⟩), (4, ⟨aS, [(0, 0, 0)]⟩), (6, ⟨bX, [e[i]]⟩), (35, ⟨aS, (qN e env.2.1 n i k)⟩)]⟩) (fun k => k ≤ (cV e (i : Int)).length) (fun k => (cV e (i : Int)).length - k) 0 (Nat.zero_le _) (fun a w hi => (Sub.inv ⟨(by repeat (first | exact aQ | refine aM rfl (by first | rfl | (simp; done) | assumption) ?_)), (by repeat (first | exact bn | refine aL rfl (by first | rfl | (exact congrArg (HB.mk aS) (vn _ _ _ _).symm) | (exact congrArg (HB.mk aS) (vn _ _ _ _)) | (rw [vn]; simp; done)) ?_))⟩ hi)) ?_
  rintro k hk
  have hrl := Bp e env.2.1 n i k hk
  refine zR (zt rfl rfl (zZ (ae ?_)))
  refine af rfl (fun h10 => ?_) (fun h10 => ?_)
  · have h10 : k < (cV e (i : Int)).length := by simpa using h10
    have hzb := (F.typ i h).2.1 _ (List.getElem_mem h10)
    have hcv : Ct prog 122 [.tv cC (e, (bH e).1, env), .raw (.int .i64 (cV e (i : Int))[k])] (ml (evV e env.2.1 n (cV e (i : Int))[k])) := by
      have q := IH (cV e (i : Int))[k].toNat zo zo
      rwa [Int.toNat_of_nonneg hzb.1] at q
    have hs := argK_s (x := env.2.1) (n := n) h10
    refine ah (aa (ae (aq (zR (zM rfl ?_)))))
    refine bc _ rfl _ rfl rfl (al bd ty3 (.b rfl) (.b rfl) rfl zg) ?_
    refine zD ty3 rfl (zA rfl (zY rfl (aa (zR (zL pI rfl rfl rfl (Lens.id _) (zM rfl (zJ (an hcv (.cons (.b rfl) (.cons (.b rfl) .nil)) rfl rfl) (zM rfl (zJ (bj (.b rfl)) (zJ (bi (.b rfl)) (zl z183 (zC bI rfl rfl rfl (Lens.id _) (.tv (.b rfl)) (zY rfl (aa (ae (zR (zM rfl (zJ (bQ (.b rfl) (.b rfl)) (zZ ?_)))))))))))))))))))
    refine af rfl (fun h13 => ?_) (fun h13 => ?_)
    · exfalso; simp at h13
    try simp at h13
    refine ah (aa (ac (zM rfl (zM rfl (zL bI rfl rfl rfl (Lens.id _) (zJ (bu gA bI (.b rfl) (.b rfl) rfl zh) ?_))))))
    refine eN _ rfl (bK bI (.b rfl) rfl zg (Lens.id _) (.tv (.b rfl))) ?_
    refine zQ [2,4,6,8,36,37,38] [2,4,6,35] (aG (aa (ac ?_)))
    refine zU rfl rfl zw (zM rfl (aN ?_))
    exact aD (fun a w hi => ⟨k + 1, zo, zo, zW hi⟩)
  have h10 : (cV e (i : Int)).length ≤ k := by simpa using h10
  refine bg (be (aY (bf (aa (ae ?_)))))
  refine kH (rt := aS) 35 8 (b8 35 _) rfl rfl zo (bl 35 _) (bC 35 _) ?_
  rw [List.drop_zero, List.take_of_length_le zo, argK_n h10]
  refine ac (zL cl rfl rfl rfl (Lens.id _) (zM rfl (zF AO rfl (zL hZ rfl rfl rfl vU (zJ (an (Bq e[i] _ env (F.ap hi h h3) (F.typ i h).2.2.1) (.cons (.b rfl) (.cons (.b rfl) (.cons (.b rfl) .nil))) rfl rfl) (zJ (bj (.b rfl)) (zJ (bi (.b rfl)) (zC bI rfl rfl rfl (Lens.id _) (.tv (.b rfl)) (zY rfl (aa (am ?_)))))))))))
  exact aK results122 (ax bI rfl rfl rfl (Lens.id aS)) (aw rfl) ⟨rfl, rfl⟩ (dz ((lD h h3).symm) (rfl))
theorem ui (e : List aP) (s : a6) (ty : Nat → bE) (env : mc) (F : Flat e s ty env.2.1) (hst : (bH e).2.2 = 0) : ∀ (n i : Nat), i < n → i < e.length → Ct prog 122 [.tv cC (e, (bH e).1, env), .raw (.int .i64 (i : Nat))] (ml (evV e env.2.1 n (i : Nat)))
  | n + 1, i, hi, h => vh e s ty env F hst n i hi h (fun j hj hj2 => ui e s ty env F hst n j hj hj2)
theorem sB (e : List aP) (s : a6) (ty : Nat → bE) (env : mc) (F : Flat e s ty env.2.1) (hst : (bH e).2.2 = 0) (h48 : e.length ≤ 100) : Ct prog 82 [.tv (ab bX) e, .tv fC env] (ml (evV e env.2.1 e.length ((e.length : Int) - 1))) := by
  refine ay func82 rfl rfl ntmps82 rfl rfl ?_
  intro w0 ok0
  have hv : Ct prog 122 [.tv cC (e, (bH e).1, env), .raw (.int .i64 ((e.length : Int) - 1))] (ml (evV e env.2.1 e.length ((e.length : Int) - 1))) := by
    have q := ui e s ty env F hst e.length (e.length - 1) (by have := F.len; omega) (by have := F.len; omega)
    have hl := F.len
    rwa [show ((e.length - 1 : Nat) : Int) = (e.length : Int) - 1 by omega] at q
  refine zR (zb (.tv (.b rfl)) (zl z183 (zY rfl (aa (zR (zM rfl (zJ (an (n4 _) (.cons (.b rfl) .nil) rfl rfl) (zM rfl (zJ (bj (.b rfl)) (zJ (bi (.b rfl)) (zA rfl (zY rfl (aa (ae (zR (zM rfl (zJ (bQ (.b rfl) (.b rfl)) (zZ ?_))))))))))))))))))
  refine af rfl (fun h2 => ?_) (fun h2 => ?_)
  · exfalso; simp at h2; exact h2 hst
  try simp at h2
  refine ah (aa (zR (zM rfl (zM rfl (zL hZ rfl rfl rfl (Lens.id _) (zJ (aI z237 rfl pl237 (.cons (rt' := (ab bX)) rfl r4 (.tv (.b rfl)) (.cons (rt' := (ab (ak .i64))) rfl vV (.tv (.b rfl)) (.cons (rt' := fC) rfl vU (.tv (.b rfl)) .nil)))) (zM rfl (zN fB rfl (zJ (da (.b rfl) (.b rfl) zw) (zJ (an hv (.cons (.b rfl) (.cons (.b rfl) .nil)) rfl rfl) (zJ (bj (.b rfl)) (zJ (bi (.b rfl)) (zC bI rfl rfl rfl (Lens.id _) (.tv (.b rfl)) (zY rfl (aa (am ?_))))))))))))))))
  exact aK results82 (ax bI rfl rfl rfl (Lens.id aS)) (aw rfl) ⟨rfl, rfl⟩ (dz (rfl) (rfl))
end Go.Proofs.YtehcaebnijlhgaaGreatDoor
namespace Go.Proofs.YtehcaebnijlhgaaGreatDoor
open Go.Eng Tryz
set_option maxRecDepth 100000
set_option maxHeartbeats 4000000
open C15
def grd (rs : List bB) (i : Nat) : List aP := (rs[i]?.getD ruD).2.2.2.2.2.1
def gsK (rs : List bB) (l : List Nat) : List (List aP) := (l.map (grd rs)).filter (fun e => decide (0 < e.length))
def dP (s : ba) (d date : Int) : List (List aP) := gsK s.2.2.2.2 (eY (fD d date) s.2.2.2.2 s.2.2.2.2.length)
theorem gsK_t {rs : List bB} {l : List Nat} {k : Nat} (h : k < l.length) (hg : 0 < (grd rs l[k]).length) : gsK rs (l.take (k + 1)) = gsK rs (l.take k) ++ [grd rs l[k]] := by
  unfold gsK; rw [List.take_succ_eq_append_getElem h, List.map_append, List.filter_append]; simp [hg]
theorem gsK_f {rs : List bB} {l : List Nat} {k : Nat} (h : k < l.length) (hg : ¬ 0 < (grd rs l[k]).length) : gsK rs (l.take (k + 1)) = gsK rs (l.take k) := by
  unfold gsK; rw [List.take_succ_eq_append_getElem h, List.map_append, List.filter_append]; simp [hg]
theorem ww {rs : List bB} {l : List Nat} {k : Nat} : (gsK rs (l.take k)).length ≤ l.length := by
  unfold gsK; refine Nat.le_trans (List.length_filter_le _ _) ?_; simp; omega
theorem kJ {rs : List bB} {i : Nat} (h : i < rs.length) : grd rs i = rs[i].2.2.2.2.2.1 := by unfold grd; rw [List.getElem?_eq_getElem h]; rfl
def cL (gs : List (List aP)) (i : Int) : Bool := gs.any (fun e => e.any (fun y => decide (((7 : Int), i) = y)))
def wO (f : cf) (gr : List Int) (a : Int) : bh := (f.2.1, f.2.2, gr[a.toNat]?.getD 0)
def jo (fs : List cf) (grid : List (List Int)) (at_ : List Int) (k : Nat) : List bh := (List.range k).map (fun i => wO (fs[i]?.getD fiD) (grid[i]?.getD []) (at_[i]?.getD 0))
theorem Ax (fs : List cf) (grid : List (List Int)) (at_ : List Int) (k : Nat) : jo fs grid at_ (k + 1) = jo fs grid at_ k ++ [wO (fs[k]?.getD fiD) (grid[k]?.getD []) (at_[k]?.getD 0)] := by
  unfold jo; rw [List.range_succ, List.map_append]; rfl
theorem qi (fs : List cf) (grid : List (List Int)) (at_ : List Int) (k : Nat) : (jo fs grid at_ k).length = k := by unfold jo; simp
theorem Cm (s : ba) (d date : Int) (hlm : s.2.2.2.2.length ≤ 1000000) : Ct prog 22 [.tv bx s, .raw (.int .i64 d), .raw (.int .i64 date)] (.tv (ab (ab bX)) (dP s d date)) := by
  refine ay func22 rfl rfl ntmps22 rfl rfl ?_
  intro w0 ok0
  refine zR (zb (.tv (.b rfl)) (zY rfl (aa (zR (zY rfl (aa (ae (ae ?_))))))))
  have q1 := qj (fD d date) s.2.2.2.2 s.2.2.2.2.length
  have q2 := ja (fD d date) s.2.2.2.2 s.2.2.2.2.length
  refine ac (zL dx rfl rfl rfl (Lens.id _) (zM rfl (zM rfl (zJ (an (pP _ _ _ zo) (.cons (.b rfl) (.cons (.b rfl) (.cons (.b rfl) .nil))) rfl rfl) (zN bd rfl (zM rfl (zZ (aq ?_))))))))
  refine eO 70 7 (ab bX) rfl rfl rfl ?_
  refine aZ (ι := Nat) (fun k => ⟨[(3, .optr 3 bx.n 0 0), (7, .own 70 (ab bX).n 0 (gsK s.2.2.2.2 ((eY (fD d date) s.2.2.2.2 s.2.2.2.2.length).take k)).length), (13, .tv (ab (ak .i64)) (ik (fD d date) s.2.2.2.2 s.2.2.2.2.length)), (14, .raw (.int .i64 ((ik (fD d date) s.2.2.2.2 s.2.2.2.2.length).length))), (15, .raw (.int .i64 ((k : Nat))))], [(3, ⟨bx, [s]⟩), (70, ⟨(ab bX), (gsK s.2.2.2.2 ((eY (fD d date) s.2.2.2.2 s.2.2.2.2.length).take k))⟩)]⟩) (fun k => k ≤ (eY (fD d date) s.2.2.2.2 s.2.2.2.2.length).length) (fun k => (eY (fD d date) s.2.2.2.2 s.2.2.2.2.length).length - k) 0 (Nat.zero_le _) (fun a w hi => (zI hi)) ?_
  rintro k hk
  have hal := ww (rs := s.2.2.2.2) (l := (eY (fD d date) s.2.2.2.2 s.2.2.2.2.length)) (k := k)
  refine zR (zt rfl rfl (zZ (ae ?_)))
  refine af rfl (fun h3 => ?_) (fun h3 => ?_)
  · have h3 : k < (eY (fD d date) s.2.2.2.2 s.2.2.2.2.length).length := by simp at h3; omega
    have g2 := oP h3
    have g3 := kJ g2
    refine ah (aa (ae (aq (zR ?_))))
    refine bc _ rfl _ rfl rfl (al bd ty3 (.b rfl) (.b rfl) rfl zg) ?_
    refine zD ty3 rfl (zY rfl (aa (zR (zF dw rfl (zL jh rfl rfl rfl dT (zM rfl ?_))))))
    refine bc _ rfl _ rfl rfl (al ga dp (.b rfl) (.b rfl) (se h3) zg) ?_
    refine zB eQ fG rfl (zD hP rfl (zN fB rfl (zJ (bY (.b rfl) (.b rfl)) (zZ ?_))))
    refine af rfl (fun h5 => ?_) (fun h5 => ?_)
    · have hs := gsK_t (rs := s.2.2.2.2) h3 (by rw [g3]; simp at h5; omega)
      rw [g3] at hs
      refine ac (zM rfl (zF dw rfl (zL jh rfl rfl rfl dT (zM rfl ?_))))
      refine bc _ rfl _ rfl rfl (al ga dp (.b rfl) (.b rfl) (se h3) zg) ?_
      refine zB eQ fG rfl (zD hP rfl (zJ (bq (rt := (ab bX)) sZ hP z61 rfl (.cons (.tv (.b rfl)) .nil) rfl rfl) (zV [3,13,14,15] sZ hP z61 by61 rfl rfl (.tv (.b rfl)) ?_)))
      refine zY rfl (aG (aa (ac (zU rfl rfl zw (zM rfl (aN ?_))))))
      exact aD (fun a w hi => ⟨k + 1, zj, zo, zW hi⟩)
    have hs := gsK_f (rs := s.2.2.2.2) h3 (by rw [g3]; simp at h5; first | omega | simp [h5])
    refine ah (aG (aa (ac (zU rfl rfl zw (zM rfl (aN ?_))))))
    exact aD (fun a w hi => ⟨k + 1, zj, zo, zW hi⟩)
  have h3 : k = (eY (fD d date) s.2.2.2.2 s.2.2.2.2.length).length := by simp at h3; omega
  subst h3
  refine bg (be (aY (bf (aa (ae (ac (zM rfl (zY rfl (aa (am ?_))))))))))
  refine cY (rt := (ab bX)) 70 6 (b8 70 _) rfl rfl (by simp) (bl 70 _) (bC 70 _) ?_
  exact z1 results22 rfl (congrArg (SV.tv (ab (ab bX))) (by rw [List.drop_zero, List.take_length, List.take_length]; rfl))
theorem mJ (gs : List (List aP)) (i : Int) (hl : gs.length ≤ 1000000) : Ct prog 25 [.tv (ab (ab bX)) gs, .raw (.int .i64 i)] (.raw (.bool (cL gs i))) := by
  refine ay func25 rfl rfl ntmps25 rfl rfl ?_
  intro w0 ok0
  refine zR (zY rfl (aa (ae (zR (zM rfl (zN sZ rfl (zM rfl (zZ (aq ?_)))))))))
  refine aZ (ι := Nat) (fun k => ⟨[(1, .raw (.int .i64 (i))), (7, .tv (ab (ab bX)) gs), (8, .raw (.int .i64 (gs.length))), (9, .raw (.int .i64 ((k : Nat))))], []⟩) (fun k => k ≤ gs.length ∧ ∀ x ∈ gs.take k, (fun e => e.any (fun y => decide (((7 : Int), i) = y))) x = false) (fun k => gs.length - k) 0 (⟨Nat.zero_le _, nU _⟩) (fun a w hi => (zI hi)) ?_
  rintro k ⟨hk, hno⟩
  refine zR (zt rfl rfl (zZ (ae ?_)))
  refine af rfl (fun h2 => ?_) (fun h2 => ?_)
  · have h2 : k < gs.length := by simpa using h2
    refine ah (aa (ae (aq (zR ?_))))
    refine bc _ rfl _ rfl rfl (al sZ hP (.b rfl) (.b rfl) rfl zg) ?_
    refine zD hP rfl (zY rfl (aa (zR (zM rfl (zM rfl (zJ (aI kT rfl tx (.cons (rt' := (ak .i64)) rfl cb (.raw (.b rfl) rfl) (.cons (rt' := (ak .i64)) rfl ce (.raw (.b rfl) rfl) .nil))) (zJ (an (AH _ _) (.cons (.b rfl) (.cons (.b rfl) .nil)) rfl rfl) (zZ ?_))))))))
    refine af rfl (fun h4 => ?_) (fun h4 => ?_)
    · skip
      refine zR (zY rfl (aa (am (av (ai (bL (av (ai ?_))))))))
      exact z1 results25 rfl (rb (by unfold cL; exact (List.any_eq_true.2 ⟨_, List.getElem_mem h2, h4⟩).symm))
    skip
    refine ah (aG (aa (ac (zU rfl rfl zw (zM rfl (aN ?_))))))
    exact aD (fun a w hi => ⟨k + 1, zj, (⟨by omega, fi h2 hno h4⟩), (zI hi)⟩)
  have h2 : gs.length ≤ k := by simpa using h2
  refine bg (be (aY (bf (aa (ae (ac (zY rfl (aa (am ?_)))))))))
  exact z1 results25 rfl (rb (by unfold cL; refine (List.any_eq_false.2 (fun x hx => ?_)).symm; have q : (x.any (fun y => decide (((7 : Int), i) = y))) = false := hO h2 hno x hx; rw [q]; decide))
def jX (a b : cm) : Bool := (decide (a.1 = b.1) && decide (a.2.1 = b.2.1)) && decide (a.2.2.1 = b.2.2.1)
theorem yD (a b : cm) : Ct prog 37 [.tv bk a, .tv bk b] (.raw (.bool (jX a b))) := by
  refine ay func37 rfl rfl ntmps37 rfl rfl ?_
  intro w0 ok0
  refine zR (zb (.tv (.b rfl)) (zb (.tv (.b rfl)) (zY rfl (aa (zR (zF jC rfl (zL ty3 rfl rfl rfl lq (zF jC rfl (zL ty3 rfl rfl rfl lq (ze rfl rfl (zM rfl (zG rfl rfl (fun hg => ao su (.b rfl)) (zG rfl rfl (fun hg => aj ty3 (.gd rfl hg) rfl rfl rY) (zG rfl rfl (fun hg => ao su (.b rfl)) (zG rfl rfl (fun hg => aj ty3 (.gd rfl hg) rfl rfl rY) (zG rfl rfl (fun hg => ca (.gd rfl hg) (.gd rfl hg)) (zJ (aF (.b rfl) (.b rfl) rfl zp) (zM rfl (zG rfl rfl (fun hg => ao sr (.b rfl)) (zG rfl rfl (fun hg => aj ty3 (.gd rfl hg) rfl rfl rX) (zG rfl rfl (fun hg => ao sr (.b rfl)) (zG rfl rfl (fun hg => aj ty3 (.gd rfl hg) rfl rfl rX) (zG rfl rfl (fun hg => ca (.gd rfl hg) (.gd rfl hg)) (zJ (aF (.b rfl) (.b rfl) rfl zp) (zY rfl (aa (am ?_)))))))))))))))))))))))))))
  exact z1 results37 rfl (rb (by unfold jX; rw [Bool.eq_iff_iff]; simp))
theorem nv (x c : cm) : Ct prog 36 [.tv bk x, .eptr bk c] (.raw (.bool (jX x c))) := by
  refine ay func36 rfl rfl ntmps36 rfl rfl ?_
  intro w0 ok0
  refine zR (zb (.tv (.b rfl)) (zY rfl (aa (zR (zL mj rfl rfl rfl (Lens.id _) (zD mj rfl (zJ (an (yD _ _) (.cons (.b rfl) (.cons (.b rfl) .nil)) rfl rfl) (zY rfl (aa (am ?_))))))))))
  exact z1 results36 rfl (rfl)
theorem Cj (s : ba) (grid : List (List Int)) (at_ : List Int) (hg : grid.length = s.2.2.1.length) (ha : at_.length = s.2.2.1.length) (hat : ∀ k, (h : k < at_.length) → (h2 : k < grid.length) → 0 ≤ at_[k] ∧ at_[k] < grid[k].length) (hl : s.2.2.1.length ≤ 1000) : CtO prog 31 [.tv bx s, .tv (ab (ab (ak .i64))) grid, .tv (ab (ak .i64)) at_] aS (jo s.2.2.1 grid at_ s.2.2.1.length) := by
  refine rz func31 rfl rfl ntmps31 rfl rfl ?_
  intro w0 ok0
  refine zR (zb (.tv (.b rfl)) (zY rfl (aa (zR (zY rfl (aa (ae (zR (zF fm rfl (zL fj rfl rfl rfl fO (zN ei rfl (zM rfl (zZ (aq ?_))))))))))))))
  refine eO 70 7 aS rfl rfl rfl ?_
  refine aZ (ι := Nat) (fun k => ⟨[(1, .tv (ab (ab (ak .i64))) grid), (2, .tv (ab (ak .i64)) at_), (7, .own 70 aS.n 0 (jo s.2.2.1 grid at_ k).length), (11, .tv (ab cq) s.2.2.1), (12, .raw (.int .i64 (s.2.2.1.length))), (13, .raw (.int .i64 ((k : Nat))))], [(70, ⟨aS, (jo s.2.2.1 grid at_ k)⟩)]⟩) (fun k => k ≤ s.2.2.1.length) (fun k => s.2.2.1.length - k) 0 (Nat.zero_le _) (fun a w hi => (zI hi)) ?_
  rintro k hk
  have hal := qi s.2.2.1 grid at_ k
  refine zR (zt rfl rfl (zZ (ae ?_)))
  refine af rfl (fun h3 => ?_) (fun h3 => ?_)
  · have h3 : k < s.2.2.1.length := by simpa using h3
    have h3b : k < grid.length := by omega
    have h3c : k < at_.length := by omega
    obtain ⟨hb0, hb1⟩ := hat k h3c h3b
    have hs := Ax s.2.2.1 grid at_ k
    rw [List.getElem?_eq_getElem h3, List.getElem?_eq_getElem h3b, List.getElem?_eq_getElem h3c] at hs
    simp only [Option.getD_some] at hs
    refine ah (aa (ae (aq (zR (zM rfl ?_)))))
    refine bc _ rfl _ rfl rfl (al ei e8 (.b rfl) (.b rfl) rfl zg) ?_
    refine zD e8 rfl (zl z92 (zA rfl (zC e8 rfl rfl rfl (Lens.id _) (.tv (.b rfl)) (zZ ?_))))
    refine gP 19 mo zk zk ( zS (ag (.b rfl)) ( zS (ao gq (.b rfl)) ( zS (ao bR (.b rfl)) ( zS (aj ty3 (.b rfl) rfl rfl (Lens.comp fN bN)) ( zS (ao gq (.b rfl)) ( zS (ao dV (.b rfl)) ( zS (aj ty3 (.b rfl) rfl rfl (Lens.comp fN ez)) ( zS (ag (.b rfl)) ( zS (ag (.b rfl)) ( zS (al fw ek (.b rfl) (.b rfl) rfl zg) ( zS (aA ek (.b rfl)) ( zS (ag (.b rfl)) ( zS (ag (.b rfl)) ( zS (al bd ty3 (.b rfl) (.b rfl) rfl zg) ( zS (aA ty3 (.b rfl)) ( zS (al bd ty3 (.b rfl) (.b rfl) (show at_[k] = ((at_[k].toNat : Nat) : Int) by omega) (getD_some (l := grid[k]) (i := at_[k].toNat) (z := 0) zo)) ( zS (aA ty3 (.b rfl)) ( zS (aI z183 rfl mh (.cons (rt' := (ak .i64)) rfl dA (.raw (.b rfl) rfl) (.cons (rt' := (ak .i64)) rfl iH (.raw (.b rfl) rfl) (.cons (rt' := (ak .i64)) rfl cp (.raw (.b rfl) rfl) .nil)))) ( zS (bq (rt := aS) gA bI z183 rfl (.cons (.tv (.b rfl)) .nil) rfl rfl) ( AS.nil)))))))))))))))))))) rfl rfl (dn [1, 2, 11, 12, 13] gA bI z183 rfl wP (.b rfl) rfl (by (try simp); try omega) (.tv (.b rfl)) (by unfold maxLen; (try simp); try omega) (by (try simp); try omega) rfl (.cons rfl (.cons rfl (.cons rfl (.cons rfl (.cons rfl .nil))))) rfl) ( zS (aU (.b rfl)) ( AS.nil)) ?_
    refine aG (aa (ac (zU rfl rfl zw (zM rfl (aN ?_)))))
    exact aD (fun a w hi => ⟨k + 1, zj, zo, zW hi⟩)
  have h3 : k = s.2.2.1.length := by simp at h3; omega
  subst h3
  refine bg (be (aY (bf (aa (ae (ac (zM rfl (zY rfl (aa (am ?_))))))))))
  exact wh results31 rfl rfl (by simp) (by rw [List.drop_zero, List.take_length])
theorem A5 (s : ba) (grid : List (List Int)) (at_ : List Int) (hg : grid.length = s.2.2.1.length) (ha : at_.length = s.2.2.1.length) (hat : ∀ k, (h : k < at_.length) → (h2 : k < grid.length) → 0 ≤ at_[k] ∧ at_[k] < grid[k].length) (hl : s.2.2.1.length ≤ 1000) : CtO prog 41 [.tv bx s, .tv (ab (ab (ak .i64))) grid, .tv (ab (ak .i64)) at_] aS (jo s.2.2.1 grid at_ s.2.2.1.length) := by
  refine rz func41 rfl rfl ntmps41 rfl rfl ?_
  intro w0 ok0
  refine zR (zb (.tv (.b rfl)) (zY rfl (aa (zR (zY rfl (aa (ae (zR (zF fm rfl (zL fj rfl rfl rfl fO (zN ei rfl (zM rfl (zZ (aq ?_))))))))))))))
  refine eO 70 7 aS rfl rfl rfl ?_
  refine aZ (ι := Nat) (fun k => ⟨[(1, .tv (ab (ab (ak .i64))) grid), (2, .tv (ab (ak .i64)) at_), (7, .own 70 aS.n 0 (jo s.2.2.1 grid at_ k).length), (11, .tv (ab cq) s.2.2.1), (12, .raw (.int .i64 (s.2.2.1.length))), (13, .raw (.int .i64 ((k : Nat))))], [(70, ⟨aS, (jo s.2.2.1 grid at_ k)⟩)]⟩) (fun k => k ≤ s.2.2.1.length) (fun k => s.2.2.1.length - k) 0 (Nat.zero_le _) (fun a w hi => (zI hi)) ?_
  rintro k hk
  have hal := qi s.2.2.1 grid at_ k
  refine zR (zt rfl rfl (zZ (ae ?_)))
  refine af rfl (fun h3 => ?_) (fun h3 => ?_)
  · have h3 : k < s.2.2.1.length := by simpa using h3
    have h3b : k < grid.length := by omega
    have h3c : k < at_.length := by omega
    obtain ⟨hb0, hb1⟩ := hat k h3c h3b
    have hs := Ax s.2.2.1 grid at_ k
    rw [List.getElem?_eq_getElem h3, List.getElem?_eq_getElem h3b, List.getElem?_eq_getElem h3c] at hs
    simp only [Option.getD_some] at hs
    refine ah (aa (ae (aq (zR (zM rfl ?_)))))
    refine bc _ rfl _ rfl rfl (al ei e8 (.b rfl) (.b rfl) rfl zg) ?_
    refine zD e8 rfl (zl z92 (zA rfl (zC e8 rfl rfl rfl (Lens.id _) (.tv (.b rfl)) (zZ ?_))))
    refine gP 19 mo zk zk ( zS (ag (.b rfl)) ( zS (ao gq (.b rfl)) ( zS (ao bR (.b rfl)) ( zS (aj ty3 (.b rfl) rfl rfl (Lens.comp fN bN)) ( zS (ao gq (.b rfl)) ( zS (ao dV (.b rfl)) ( zS (aj ty3 (.b rfl) rfl rfl (Lens.comp fN ez)) ( zS (ag (.b rfl)) ( zS (ag (.b rfl)) ( zS (al fw ek (.b rfl) (.b rfl) rfl zg) ( zS (aA ek (.b rfl)) ( zS (ag (.b rfl)) ( zS (ag (.b rfl)) ( zS (al bd ty3 (.b rfl) (.b rfl) rfl zg) ( zS (aA ty3 (.b rfl)) ( zS (al bd ty3 (.b rfl) (.b rfl) (show at_[k] = ((at_[k].toNat : Nat) : Int) by omega) (getD_some (l := grid[k]) (i := at_[k].toNat) (z := 0) zo)) ( zS (aA ty3 (.b rfl)) ( zS (aI z183 rfl mh (.cons (rt' := (ak .i64)) rfl dA (.raw (.b rfl) rfl) (.cons (rt' := (ak .i64)) rfl iH (.raw (.b rfl) rfl) (.cons (rt' := (ak .i64)) rfl cp (.raw (.b rfl) rfl) .nil)))) ( zS (bq (rt := aS) gA bI z183 rfl (.cons (.tv (.b rfl)) .nil) rfl rfl) ( AS.nil)))))))))))))))))))) rfl rfl (dn [1, 2, 11, 12, 13] gA bI z183 rfl wP (.b rfl) rfl (by (try simp); try omega) (.tv (.b rfl)) (by unfold maxLen; (try simp); try omega) (by (try simp); try omega) rfl (.cons rfl (.cons rfl (.cons rfl (.cons rfl (.cons rfl .nil))))) rfl) ( zS (aU (.b rfl)) ( AS.nil)) ?_
    refine aG (aa (ac (zU rfl rfl zw (zM rfl (aN ?_)))))
    exact aD (fun a w hi => ⟨k + 1, zj, zo, zW hi⟩)
  have h3 : k = s.2.2.1.length := by simp at h3; omega
  subst h3
  refine bg (be (aY (bf (aa (ae (ac (zM rfl (zY rfl (aa (am ?_))))))))))
  exact wh results41 rfl rfl (by simp) (by rw [List.drop_zero, List.take_length])
end Go.Proofs.YtehcaebnijlhgaaGreatDoor
namespace Go.Proofs.YtehcaebnijlhgaaGreatDoor
open Go.Eng
def atv (a : List Int) (i : Nat) : Int := a.getD i 0
theorem jI {a : List Int} {i j : Nat} {x : Int} (h : i < a.length) : atv (a.set i x) j = if j = i then x else atv a j := by
  unfold atv
  rw [List.getD_eq_getElem?_getD, List.getD_eq_getElem?_getD, List.getElem?_set]
  by_cases e : i = j
  · subst e; simp [h]
  rw [if_neg e, if_neg (fun q => e q.symm)]
section
variable (G : List (List Int))
def ma (i : Nat) : Int := ((G.getD i []).length : Int)
def fA : List Int → Nat → List Int × Bool
  | a, 0 => (a, false)
  | a, i + 1 => if atv a i + 1 < ma G i then (a.set i (atv a i + 1), true) else fA (a.set i 0) i
def rk (a : List Int) : Nat → Int
  | 0 => 0
  | k + 1 => rk a k * ma G k + atv a k
def pr : Nat → Int
  | 0 => 1
  | k + 1 => pr k * ma G k
structure Vd (a : List Int) : Prop where
  len : a.length = G.length
  rng : ∀ i, i < G.length → 0 ≤ atv a i ∧ atv a i < ma G i
def sq : Nat → List Int
  | 0 => List.replicate G.length 0
  | t + 1 => (fA G (sq t) G.length).1
end
section
variable {G : List (List Int)}
theorem lu (i : Nat) : 0 ≤ ma G i := by unfold ma; omega
theorem pS {a b : List Int} : ∀ {k : Nat}, (∀ i, i < k → atv a i = atv b i) → rk G a k = rk G b k
  | 0, _ => rfl
  | k + 1, h => by rw [rk, rk, pS (fun i hi => h i zo), h k zo]
theorem rQ (hp : ∀ i, i < G.length → 0 < ma G i) : ∀ {k : Nat}, k ≤ G.length → 0 < pr G k
  | 0, _ => by simp [pr]
  | k + 1, h => by rw [pr]; exact Int.mul_pos (rQ hp zo) (hp k zo)
theorem uF {a : List Int} (h : Vd G a) : ∀ {k : Nat}, k ≤ G.length → 0 ≤ rk G a k ∧ rk G a k < pr G k
  | 0, _ => by simp [rk, pr]
  | k + 1, hk => by
    obtain ⟨h1, h2⟩ := uF h (k := k) zo
    obtain ⟨h3, h4⟩ := h.rng k zo
    rw [rk, pr]
    have h5 := Int.mul_nonneg h1 (lu (G := G) k)
    have h6 := Int.mul_le_mul_of_nonneg_right (show rk G a k + 1 ≤ pr G k by omega) (lu (G := G) k)
    rw [Int.add_mul, Int.one_mul] at h6
    omega
theorem yK {a b : List Int} (ha : Vd G a) (hb : Vd G b) : ∀ {k : Nat}, k ≤ G.length → rk G a k = rk G b k → ∀ i, i < k → atv a i = atv b i
  | 0, _, _, i, hi => by omega
  | k + 1, hk, h, i, hi => by
    rw [rk, rk] at h
    obtain ⟨h3, h4⟩ := ha.rng k zo
    obtain ⟨h5, h6⟩ := hb.rng k zo
    have hg := lu (G := G) k
    have hr : rk G a k = rk G b k := by
      rcases Int.lt_trichotomy (rk G a k) (rk G b k) with c | c | c
      · have := Int.mul_le_mul_of_nonneg_right (show rk G a k + 1 ≤ rk G b k by omega) hg
        rw [Int.add_mul, Int.one_mul] at this; omega
      · exact c
      have := Int.mul_le_mul_of_nonneg_right (show rk G b k + 1 ≤ rk G a k by omega) hg
      rw [Int.add_mul, Int.one_mul] at this; omega
    by_cases e : i = k
    · subst e; rw [hr] at h; omega
    exact yK ha hb zo hr i zo
theorem oH : ∀ (k : Nat) (a : List Int), Vd G a → k ≤ G.length →
    (∀ i, k ≤ i → atv (fA G a k).1 i = atv a i) ∧ Vd G (fA G a k).1 ∧ ((fA G a k).2 = true → rk G (fA G a k).1 k = rk G a k + 1) ∧ ((fA G a k).2 = false → rk G a k + 1 = pr G k ∧ ∀ i, i < k → atv (fA G a k).1 i = 0)
  | 0, a, h, _ => ⟨fun _ _ => rfl, h, fun q => by simp [fA] at q, fun _ => ⟨by simp [rk, pr], fun i hi => by omega⟩⟩
  | k + 1, a, h, hk => by
    have hka : k < a.length := by rw [h.len]; omega
    obtain ⟨h3, h4⟩ := h.rng k zo
    unfold fA
    by_cases c : atv a k + 1 < ma G k
    · rw [if_pos c]
      refine ⟨fun i hi => ?_, ⟨by rw [List.length_set]; exact h.len, fun i hi => ?_⟩, fun _ => ?_, fun q => by cases q⟩
      · show atv (a.set k _) i = _
        rw [jI hka, if_neg zo]
      · show 0 ≤ atv (a.set k _) i ∧ _
        rw [jI hka]
        by_cases e : i = k
        · subst e; rw [if_pos rfl]; omega
        rw [if_neg e]; exact h.rng i hi
      show rk G (a.set k _) (k + 1) = _
      rw [rk, rk, jI hka, if_pos rfl, pS (b := a) (fun i hi => by rw [jI hka, if_neg zo])]
      omega
    rw [if_neg c]
    have hg : ma G k = atv a k + 1 := by omega
    have h' : Vd G (a.set k 0) := ⟨by rw [List.length_set]; exact h.len, fun i hi => by
      rw [jI hka]
      by_cases e : i = k
      · subst e; rw [if_pos rfl]; omega
      rw [if_neg e]; exact h.rng i hi⟩
    have hr : rk G (a.set k 0) k = rk G a k := pS (fun i hi => by rw [jI hka, if_neg zo])
    obtain ⟨g1, g2, g3, g4⟩ := oH k (a.set k 0) h' zo
    have hk0 : atv (fA G (a.set k 0) k).1 k = 0 := by rw [g1 k (Nat.le_refl _), jI hka, if_pos rfl]
    refine ⟨fun i hi => ?_, g2, fun q => ?_, fun q => ⟨?_, fun i hi => ?_⟩⟩
    · rw [g1 i zo, jI hka, if_neg zo]
    · have := g3 q
      rw [rk, rk, hk0, this, hr, Int.add_mul, Int.one_mul]; omega
    · have := (g4 q).1
      rw [hr] at this
      rw [rk, pr, ← this, Int.add_mul, Int.one_mul]; omega
    by_cases e : i = k
    · subst e; exact hk0
    exact (g4 q).2 i zo
theorem vL {a : List Int} : ∀ {k : Nat}, (∀ i, i < k → atv a i = 0) → rk G a k = 0
  | 0, _ => rfl
  | k + 1, h => by rw [rk, vL (fun i hi => h i zo), h k zo]; simp
theorem oK (hp : ∀ i, i < G.length → 0 < ma G i) : ∀ t : Nat, (t : Int) < pr G G.length → Vd G (sq G t) ∧ rk G (sq G t) G.length = t
  | 0, _ => by
    have h0 : ∀ i, atv (List.replicate G.length 0) i = 0 := fun i => by
      unfold atv; rw [List.getD_eq_getElem?_getD, List.getElem?_replicate]; split <;> rfl
    refine ⟨⟨by simp [sq], fun i hi => ?_⟩, ?_⟩
    · rw [sq, h0]; have := hp i hi; omega
    rw [sq, vL (fun i _ => h0 i)]; rfl
  | t + 1, ht => by
    obtain ⟨h1, h2⟩ := oK hp t zo
    obtain ⟨_, g2, g3, g4⟩ := oH G.length (sq G t) h1 (Nat.le_refl _)
    cases hq : (fA G (sq G t) G.length).2 with
    | true => exact ⟨g2, by rw [sq, g3 hq, h2]; omega⟩
    | false => have := (g4 hq).1; omega
theorem vD (hp : ∀ i, i < G.length → 0 < ma G i) {t : Nat} (ht : (t : Int) < pr G G.length) : (fA G (sq G t) G.length).2 = decide (((t + 1 : Nat) : Int) < pr G G.length) := by
  obtain ⟨h1, h2⟩ := oK hp t ht
  obtain ⟨_, g2, g3, g4⟩ := oH G.length (sq G t) h1 (Nat.le_refl _)
  cases hq : (fA G (sq G t) G.length).2 with
  | true =>
    have := g3 hq
    have := (uF g2 (Nat.le_refl _)).2
    symm; rw [decide_eq_true_iff]; omega
  | false =>
    have := (g4 hq).1
    symm; rw [decide_eq_false_iff_not]; omega
theorem sq_all (hp : ∀ i, i < G.length → 0 < ma G i) {v : List Int} (hv : Vd G v) : ∃ t : Nat, (t : Int) < pr G G.length ∧ v = sq G t := by
  obtain ⟨h1, h2⟩ := uF hv (Nat.le_refl _)
  refine ⟨(rk G v G.length).toNat, by omega, ?_⟩
  obtain ⟨g1, g2⟩ := oK hp (rk G v G.length).toNat zo
  have hq := yK hv g1 (Nat.le_refl _) zo
  refine List.ext_getElem (by rw [hv.len, g1.len]) (fun i hi hj => ?_)
  have := hq i (by rw [hv.len] at hi; exact hi)
  unfold atv at this
  rw [List.getD_eq_getElem?_getD, List.getD_eq_getElem?_getD, List.getElem?_eq_getElem hi, List.getElem?_eq_getElem hj] at this
  exact this
end
end Go.Proofs.YtehcaebnijlhgaaGreatDoor
