import Derived.Test.YtehcaebnijlhgaaGreatDoorM3
import Derived.Test.YtehcaebnijlhgaaGreatDoorM4
import Derived.KernelRfl
set_option linter.unusedVariables false
set_option linter.unusedSimpArgs false
namespace Go.Proofs.YtehcaebnijlhgaaGreatDoor
open Go.Eng Tryz
set_option maxRecDepth 100000
set_option maxHeartbeats 4000000
def my {α : Type} (f : α → Bool) (xs : List α) : Int := match xs.findIdx? f with | some i => (i : Int) | none => -1
theorem iL {α : Type} {f : α → Bool} {xs : List α} {k : Nat} (hk : k < xs.length) (ht : f xs[k] = true) (hn : ∀ i, (h : i < xs.length) → i < k → f xs[i] = false) : my f xs = (k : Int) := by
  unfold my
  have : xs.findIdx? f = some k := by
    rw [List.findIdx?_eq_some_iff_getElem]
    exact ⟨hk, ht, fun j hj => by rw [hn j zo hj]; decide⟩
  rw [this]
theorem iK {α : Type} {f : α → Bool} {xs : List α} (hn : ∀ i, (h : i < xs.length) → f xs[i] = false) : my f xs = -1 := by
  unfold my
  have : xs.findIdx? f = none := by
    rw [List.findIdx?_eq_none_iff]
    intro x hx
    obtain ⟨i, hi, rfl⟩ := List.mem_iff_getElem.1 hx
    exact hn i hi
  rw [this]
theorem gv {α : Type} (f : α → Bool) (xs : List α) : decide (0 ≤ my f xs) = xs.any f := by
  unfold my
  rw [Bool.eq_iff_iff, decide_eq_true_iff, List.any_eq_true]
  cases h : xs.findIdx? f with
  | none =>
    rw [List.findIdx?_eq_none_iff] at h
    exact ⟨fun q => by simp at q, fun ⟨x, h1, h2⟩ => by rw [h x h1] at h2; cases h2⟩
  | some i =>
    rw [List.findIdx?_eq_some_iff_getElem] at h
    obtain ⟨h1, h2, _⟩ := h
    exact ⟨fun _ => ⟨_, List.getElem_mem h1, h2⟩, fun _ => by simp⟩
theorem Ce (xs : List cm) (f : cm → Bool) : Ct prog 87 [.tv (ab bk) xs, .tv (gC prog bk bP (fun _ => True)) f] (.raw (.int .i64 (my f xs))) := by
  refine ay func87 rfl rfl ntmps87 rfl rfl ?_
  intro w0 ok0
  refine eE 0 rfl (fun hl0 => ?_)
  refine zR (zY rfl (aa (ae (zR (zM rfl (zN mi rfl (zM rfl (zZ (aq ?_)))))))))
  refine aZ (ι := Nat) (fun k => ⟨[(0, .tv (ab bk) xs), (1, .tv (gC prog bk bP (fun _ => True)) f), (7, .raw (.int .i64 (xs.length))), (8, .raw (.int .i64 ((k : Nat))))], []⟩) (fun k => k ≤ xs.length ∧ ∀ i, (h : i < xs.length) → i < k → f xs[i] = false) (fun k => xs.length - k) 0 (⟨Nat.zero_le _, fun i h g => by omega⟩) (fun a w hi => (zI hi)) ?_
  rintro k ⟨hk, hno⟩
  refine zR (zt rfl rfl (zZ (ae ?_)))
  refine af rfl (fun h2 => ?_) (fun h2 => ?_)
  · have h2 : k < xs.length := by simp at h2; omega
    refine ah (aa (ae (aq (zR (zM rfl (zY rfl (aa (zR (zM rfl (zM rfl (zM rfl ?_)))))))))))
    refine bc _ rfl _ rfl rfl (al mi mj (.b rfl) (.b rfl) rfl zg) ?_
    refine zD mj rfl (zJ (gj (.b rfl) (.tv (.b rfl)) trivial) (zZ ?_))
    refine af rfl (fun h4 => ?_) (fun h4 => ?_)
    · have h4 : f xs[k] = true := by simpa using h4
      refine zR (zM rfl (zY rfl (aa (am (av (ai (bL (av (ai ?_)))))))))
      exact z1 results87 rfl (ri (iL h2 h4 hno).symm)
    have h4 : f xs[k] = false := by simpa using h4
    have hno1 : ∀ i, (h : i < xs.length) → i < k + 1 → f xs[i] = false := fun i hi g => by
      by_cases e : i = k
      · subst e; exact h4
      exact hno i hi zo
    refine ah (aG (aa (ac (zU rfl rfl zw (zM rfl (aN ?_))))))
    exact aD (fun a w hi => ⟨k + 1, zj, (⟨by omega, hno1⟩), (zI hi)⟩)
  have h2 : k = xs.length := by simp at h2; omega
  refine bg (be (aY (bf (aa (ae (ac (zY rfl (aa (am ?_)))))))))
  exact z1 results87 rfl (ri (iK (fun i hi => hno i hi zo)).symm)
theorem nx (xs : List cm) (f : cm → Bool) : Ct prog 35 [.tv (ab bk) xs, .tv (gC prog bk bP (fun _ => True)) f] (.raw (.bool (xs.any f))) := by
  refine ay func35 rfl rfl ntmps35 rfl rfl ?_
  intro w0 ok0
  refine zR (zY rfl (aa (zR (zM rfl (zM rfl (zJ (an (Ce _ _) (.cons (.b rfl) (.cons (.b rfl) .nil)) rfl rfl) (zJ (bW (.b rfl) (.b rfl)) (zY rfl (aa (am ?_))))))))))
  exact z1 results35 rfl (rb (gv _ _))
theorem Aq (xs : List aP) (x : aP) : Ct prog 118 [.tv (ab bX) xs, .tv bX x] (.raw (.int .i64 (my (fun y => decide (x = y)) xs))) := by
  refine ay func118 rfl rfl ntmps118 rfl rfl ?_
  intro w0 ok0
  refine eE 0 rfl (fun hl0 => ?_)
  refine zR (zb (.tv (.b rfl)) (zY rfl (aa (ae (zR (zM rfl (zN fB rfl (zM rfl (zZ (aq ?_))))))))))
  refine aZ (ι := Nat) (fun k => ⟨[(0, .tv (ab bX) xs), (3, .optr 3 bX.n 0 0), (7, .raw (.int .i64 (xs.length))), (8, .raw (.int .i64 ((k : Nat))))], [(3, ⟨bX, [x]⟩)]⟩) (fun k => k ≤ xs.length ∧ ∀ i, (h : i < xs.length) → i < k → (fun y => decide (x = y)) xs[i] = false) (fun k => xs.length - k) 0 (⟨Nat.zero_le _, fun i h g => by omega⟩) (fun a w hi => (zI hi)) ?_
  rintro k ⟨hk, hno⟩
  refine zR (zt rfl rfl (zZ (ae ?_)))
  refine af rfl (fun h2 => ?_) (fun h2 => ?_)
  · have h2 : k < xs.length := by simp at h2; omega
    refine ah (aa (ae (aq (zR (zM rfl (zY rfl (aa (ae ?_))))))))
    refine dN mo zk ( zS (aj cl (.b rfl) rfl rfl (Lens.id _)) ( zS (ag (.b rfl)) ( zS (ag (.b rfl)) ( zS (al fB cl (.b rfl) (.b rfl) rfl zg) ( zS (aA cl (.b rfl)) ( zS (gY eq163 rfl rfl eg163 (.tv (.b rfl)) (.tv (.b rfl))) ( AS.nil))))))) ?_
    refine aa ?_
    refine af rfl (fun h4 => ?_) (fun h4 => ?_)
    · have h4 : (fun y => decide (x = y)) xs[k] = true := by simpa using h4
      refine zR (zM rfl (zY rfl (aa (am (av (ai (bL (av (ai ?_)))))))))
      exact z1 results118 rfl (ri (iL h2 h4 hno).symm)
    have h4 : (fun y => decide (x = y)) xs[k] = false := by simpa using h4
    have hno1 : ∀ i, (h : i < xs.length) → i < k + 1 → (fun y => decide (x = y)) xs[i] = false := fun i hi g => by
      by_cases e : i = k
      · subst e; exact h4
      exact hno i hi zo
    refine ah (aG (aa (ac (zU rfl rfl zw (zM rfl (aN ?_))))))
    exact aD (fun a w hi => ⟨k + 1, zj, (⟨by omega, hno1⟩), (zI hi)⟩)
  have h2 : k = xs.length := by simp at h2; omega
  refine bg (be (aY (bf (aa (ae (ac (zY rfl (aa (am ?_)))))))))
  exact z1 results118 rfl (ri (iK (fun i hi => hno i hi zo)).symm)
theorem AH (xs : List aP) (x : aP) : Ct prog 73 [.tv (ab bX) xs, .tv bX x] (.raw (.bool (xs.any (fun y => decide (x = y))))) := by
  refine ay func73 rfl rfl ntmps73 rfl rfl ?_
  intro w0 ok0
  refine zR (zb (.tv (.b rfl)) (zY rfl (aa (zR (zM rfl (zL cl rfl rfl rfl (Lens.id _) (zJ (an (Aq _ _) (.cons (.b rfl) (.cons (.b rfl) .nil)) rfl rfl) (zJ (bW (.b rfl) (.b rfl)) (zY rfl (aa (am ?_)))))))))))
  exact z1 results73 rfl (rb (gv _ _))
theorem Ao (xs : List (List UInt8)) (x : (List UInt8)) : Ct prog 178 [.tv (ab dG) xs, .raw (fZ x)] (.raw (.int .i64 (my (fun y => decide (x = y)) xs))) := by
  refine ay func178 rfl rfl ntmps178 rfl rfl ?_
  intro w0 ok0
  refine eE 0 rfl (fun hl0 => ?_)
  refine zR (zY rfl (aa (ae (zR (zM rfl (zN iD rfl (zM rfl (zZ (aq ?_)))))))))
  refine aZ (ι := Nat) (fun k => ⟨[(0, .tv (ab dG) xs), (1, .raw (fZ x)), (7, .raw (.int .i64 (xs.length))), (8, .raw (.int .i64 ((k : Nat))))], []⟩) (fun k => k ≤ xs.length ∧ ∀ i, (h : i < xs.length) → i < k → (fun y => decide (x = y)) xs[i] = false) (fun k => xs.length - k) 0 (⟨Nat.zero_le _, fun i h g => by omega⟩) (fun a w hi => (zI hi)) ?_
  rintro k ⟨hk, hno⟩
  refine zR (zt rfl rfl (zZ (ae ?_)))
  refine af rfl (fun h2 => ?_) (fun h2 => ?_)
  · have h2 : k < xs.length := by simp at h2; omega
    refine ah (aa (ae (aq (zR (zM rfl (zY rfl (aa (zR (zM rfl (zM rfl (zM rfl ?_)))))))))))
    refine bc _ rfl _ rfl rfl (al iD ty9 (.b rfl) (.b rfl) rfl zg) ?_
    refine zD ty9 rfl (zJ (dW uT9 (.b rfl) (.b rfl)) (zZ ?_))
    refine af rfl (fun h4 => ?_) (fun h4 => ?_)
    · have h4 : (fun y => decide (x = y)) xs[k] = true := by simpa using h4
      refine zR (zM rfl (zY rfl (aa (am (av (ai (bL (av (ai ?_)))))))))
      exact z1 results178 rfl (ri (iL h2 h4 hno).symm)
    have h4 : (fun y => decide (x = y)) xs[k] = false := by simpa using h4
    have hno1 : ∀ i, (h : i < xs.length) → i < k + 1 → (fun y => decide (x = y)) xs[i] = false := fun i hi g => by
      by_cases e : i = k
      · subst e; exact h4
      exact hno i hi zo
    refine ah (aG (aa (ac (zU rfl rfl zw (zM rfl (aN ?_))))))
    exact aD (fun a w hi => ⟨k + 1, zj, (⟨by omega, hno1⟩), (zI hi)⟩)
  have h2 : k = xs.length := by simp at h2; omega
  refine bg (be (aY (bf (aa (ae (ac (zY rfl (aa (am ?_)))))))))
  exact z1 results178 rfl (ri (iK (fun i hi => hno i hi zo)).symm)
theorem xE (xs : List (List UInt8)) (x : (List UInt8)) : Ct prog 128 [.tv (ab dG) xs, .raw (fZ x)] (.raw (.bool (xs.any (fun y => decide (x = y))))) := by
  refine ay func128 rfl rfl ntmps128 rfl rfl ?_
  intro w0 ok0
  refine zR (zY rfl (aa (zR (zM rfl (zM rfl (zJ (an (Ao _ _) (.cons (.b rfl) (.cons (.b rfl) .nil)) rfl rfl) (zJ (bW (.b rfl) (.b rfl)) (zY rfl (aa (am ?_))))))))))
  exact z1 results128 rfl (rb (gv _ _))
theorem An (xs : List bV) (f : bV → Bool) : Ct prog 181 [.tv (ab cX) xs, .tv (gC prog cX bP (fun _ => True)) f] (.raw (.int .i64 (my f xs))) := by
  refine ay func181 rfl rfl ntmps181 rfl rfl ?_
  intro w0 ok0
  refine eE 0 rfl (fun hl0 => ?_)
  refine zR (zY rfl (aa (ae (zR (zM rfl (zN jg rfl (zM rfl (zZ (aq ?_)))))))))
  refine aZ (ι := Nat) (fun k => ⟨[(0, .tv (ab cX) xs), (1, .tv (gC prog cX bP (fun _ => True)) f), (7, .raw (.int .i64 (xs.length))), (8, .raw (.int .i64 ((k : Nat))))], []⟩) (fun k => k ≤ xs.length ∧ ∀ i, (h : i < xs.length) → i < k → f xs[i] = false) (fun k => xs.length - k) 0 (⟨Nat.zero_le _, fun i h g => by omega⟩) (fun a w hi => (zI hi)) ?_
  rintro k ⟨hk, hno⟩
  refine zR (zt rfl rfl (zZ (ae ?_)))
  refine af rfl (fun h2 => ?_) (fun h2 => ?_)
  · have h2 : k < xs.length := by simp at h2; omega
    refine ah (aa (ae (aq (zR (zM rfl (zY rfl (aa (zR (zM rfl (zM rfl (zM rfl ?_)))))))))))
    refine bc _ rfl _ rfl rfl (al jg gf (.b rfl) (.b rfl) rfl zg) ?_
    refine zD gf rfl (zJ (gj (.b rfl) (.tv (.b rfl)) trivial) (zZ ?_))
    refine af rfl (fun h4 => ?_) (fun h4 => ?_)
    · have h4 : f xs[k] = true := by simpa using h4
      refine zR (zM rfl (zY rfl (aa (am (av (ai (bL (av (ai ?_)))))))))
      exact z1 results181 rfl (ri (iL h2 h4 hno).symm)
    have h4 : f xs[k] = false := by simpa using h4
    have hno1 : ∀ i, (h : i < xs.length) → i < k + 1 → f xs[i] = false := fun i hi g => by
      by_cases e : i = k
      · subst e; exact h4
      exact hno i hi zo
    refine ah (aG (aa (ac (zU rfl rfl zw (zM rfl (aN ?_))))))
    exact aD (fun a w hi => ⟨k + 1, zj, (⟨by omega, hno1⟩), (zI hi)⟩)
  have h2 : k = xs.length := by simp at h2; omega
  refine bg (be (aY (bf (aa (ae (ac (zY rfl (aa (am ?_)))))))))
  exact z1 results181 rfl (ri (iK (fun i hi => hno i hi zo)).symm)
theorem xD (xs : List bV) (f : bV → Bool) : Ct prog 135 [.tv (ab cX) xs, .tv (gC prog cX bP (fun _ => True)) f] (.raw (.bool (xs.any f))) := by
  refine ay func135 rfl rfl ntmps135 rfl rfl ?_
  intro w0 ok0
  refine zR (zY rfl (aa (zR (zM rfl (zM rfl (zJ (an (An _ _) (.cons (.b rfl) (.cons (.b rfl) .nil)) rfl rfl) (zJ (bW (.b rfl) (.b rfl)) (zY rfl (aa (am ?_))))))))))
  exact z1 results135 rfl (rb (gv _ _))
theorem Am (xs : List cy) (f : cy → Bool) : Ct prog 182 [.tv (ab ch) xs, .tv (gC prog ch bP (fun _ => True)) f] (.raw (.int .i64 (my f xs))) := by
  refine ay func182 rfl rfl ntmps182 rfl rfl ?_
  intro w0 ok0
  refine eE 0 rfl (fun hl0 => ?_)
  refine zR (zY rfl (aa (ae (zR (zM rfl (zN jW rfl (zM rfl (zZ (aq ?_)))))))))
  refine aZ (ι := Nat) (fun k => ⟨[(0, .tv (ab ch) xs), (1, .tv (gC prog ch bP (fun _ => True)) f), (7, .raw (.int .i64 (xs.length))), (8, .raw (.int .i64 ((k : Nat))))], []⟩) (fun k => k ≤ xs.length ∧ ∀ i, (h : i < xs.length) → i < k → f xs[i] = false) (fun k => xs.length - k) 0 (⟨Nat.zero_le _, fun i h g => by omega⟩) (fun a w hi => (zI hi)) ?_
  rintro k ⟨hk, hno⟩
  refine zR (zt rfl rfl (zZ (ae ?_)))
  refine af rfl (fun h2 => ?_) (fun h2 => ?_)
  · have h2 : k < xs.length := by simp at h2; omega
    refine ah (aa (ae (aq (zR (zM rfl (zY rfl (aa (zR (zM rfl (zM rfl (zM rfl ?_)))))))))))
    refine bc _ rfl _ rfl rfl (al jW ge (.b rfl) (.b rfl) rfl zg) ?_
    refine zD ge rfl (zJ (gj (.b rfl) (.tv (.b rfl)) trivial) (zZ ?_))
    refine af rfl (fun h4 => ?_) (fun h4 => ?_)
    · have h4 : f xs[k] = true := by simpa using h4
      refine zR (zM rfl (zY rfl (aa (am (av (ai (bL (av (ai ?_)))))))))
      exact z1 results182 rfl (ri (iL h2 h4 hno).symm)
    have h4 : f xs[k] = false := by simpa using h4
    have hno1 : ∀ i, (h : i < xs.length) → i < k + 1 → f xs[i] = false := fun i hi g => by
      by_cases e : i = k
      · subst e; exact h4
      exact hno i hi zo
    refine ah (aG (aa (ac (zU rfl rfl zw (zM rfl (aN ?_))))))
    exact aD (fun a w hi => ⟨k + 1, zj, (⟨by omega, hno1⟩), (zI hi)⟩)
  have h2 : k = xs.length := by simp at h2; omega
  refine bg (be (aY (bf (aa (ae (ac (zY rfl (aa (am ?_)))))))))
  exact z1 results182 rfl (ri (iK (fun i hi => hno i hi zo)).symm)
theorem xC (xs : List cy) (f : cy → Bool) : Ct prog 137 [.tv (ab ch) xs, .tv (gC prog ch bP (fun _ => True)) f] (.raw (.bool (xs.any f))) := by
  refine ay func137 rfl rfl ntmps137 rfl rfl ?_
  intro w0 ok0
  refine zR (zY rfl (aa (zR (zM rfl (zM rfl (zJ (an (Am _ _) (.cons (.b rfl) (.cons (.b rfl) .nil)) rfl rfl) (zJ (bW (.b rfl) (.b rfl)) (zY rfl (aa (am ?_))))))))))
  exact z1 results137 rfl (rb (gv _ _))
theorem Al (xs : List ba) (f : ba → Bool) : Ct prog 183 [.tv (ab bx) xs, .tv (gC prog bx bP (fun _ => True)) f] (.raw (.int .i64 (my f xs))) := by
  refine ay func183 rfl rfl ntmps183 rfl rfl ?_
  intro w0 ok0
  refine eE 0 rfl (fun hl0 => ?_)
  refine zR (zY rfl (aa (ae (zR (zM rfl (zN fx rfl (zM rfl (zZ (aq ?_)))))))))
  refine aZ (ι := Nat) (fun k => ⟨[(0, .tv (ab bx) xs), (1, .tv (gC prog bx bP (fun _ => True)) f), (7, .raw (.int .i64 (xs.length))), (8, .raw (.int .i64 ((k : Nat))))], []⟩) (fun k => k ≤ xs.length ∧ ∀ i, (h : i < xs.length) → i < k → f xs[i] = false) (fun k => xs.length - k) 0 (⟨Nat.zero_le _, fun i h g => by omega⟩) (fun a w hi => (zI hi)) ?_
  rintro k ⟨hk, hno⟩
  refine zR (zt rfl rfl (zZ (ae ?_)))
  refine af rfl (fun h2 => ?_) (fun h2 => ?_)
  · have h2 : k < xs.length := by simp at h2; omega
    refine ah (aa (ae (aq (zR (zM rfl (zY rfl (aa (zR (zM rfl (zM rfl (zM rfl ?_)))))))))))
    refine bc _ rfl _ rfl rfl (al fx dx (.b rfl) (.b rfl) rfl zg) ?_
    refine zD dx rfl (zJ (gj (.b rfl) (.tv (.b rfl)) trivial) (zZ ?_))
    refine af rfl (fun h4 => ?_) (fun h4 => ?_)
    · have h4 : f xs[k] = true := by simpa using h4
      refine zR (zM rfl (zY rfl (aa (am (av (ai (bL (av (ai ?_)))))))))
      exact z1 results183 rfl (ri (iL h2 h4 hno).symm)
    have h4 : f xs[k] = false := by simpa using h4
    have hno1 : ∀ i, (h : i < xs.length) → i < k + 1 → f xs[i] = false := fun i hi g => by
      by_cases e : i = k
      · subst e; exact h4
      exact hno i hi zo
    refine ah (aG (aa (ac (zU rfl rfl zw (zM rfl (aN ?_))))))
    exact aD (fun a w hi => ⟨k + 1, zj, (⟨by omega, hno1⟩), (zI hi)⟩)
  have h2 : k = xs.length := by simp at h2; omega
  refine bg (be (aY (bf (aa (ae (ac (zY rfl (aa (am ?_)))))))))
  exact z1 results183 rfl (ri (iK (fun i hi => hno i hi zo)).symm)
theorem xB (xs : List ba) (f : ba → Bool) : Ct prog 139 [.tv (ab bx) xs, .tv (gC prog bx bP (fun _ => True)) f] (.raw (.bool (xs.any f))) := by
  refine ay func139 rfl rfl ntmps139 rfl rfl ?_
  intro w0 ok0
  refine zR (zY rfl (aa (zR (zM rfl (zM rfl (zJ (an (Al _ _) (.cons (.b rfl) (.cons (.b rfl) .nil)) rfl rfl) (zJ (bW (.b rfl) (.b rfl)) (zY rfl (aa (am ?_))))))))))
  exact z1 results139 rfl (rb (gv _ _))
theorem Ak (xs : List Int) (x : Int) : Ct prog 190 [.tv (ab (ak .i64)) xs, .raw (.int .i64 x)] (.raw (.int .i64 (my (fun y => decide (x = y)) xs))) := by
  refine ay func190 rfl rfl ntmps190 rfl rfl ?_
  intro w0 ok0
  refine eE 0 rfl (fun hl0 => ?_)
  refine zR (zY rfl (aa (ae (zR (zM rfl (zN bd rfl (zM rfl (zZ (aq ?_)))))))))
  refine aZ (ι := Nat) (fun k => ⟨[(0, .tv (ab (ak .i64)) xs), (1, .raw (.int .i64 x)), (7, .raw (.int .i64 (xs.length))), (8, .raw (.int .i64 ((k : Nat))))], []⟩) (fun k => k ≤ xs.length ∧ ∀ i, (h : i < xs.length) → i < k → (fun y => decide (x = y)) xs[i] = false) (fun k => xs.length - k) 0 (⟨Nat.zero_le _, fun i h g => by omega⟩) (fun a w hi => (zI hi)) ?_
  rintro k ⟨hk, hno⟩
  refine zR (zt rfl rfl (zZ (ae ?_)))
  refine af rfl (fun h2 => ?_) (fun h2 => ?_)
  · have h2 : k < xs.length := by simp at h2; omega
    refine ah (aa (ae (aq (zR (zM rfl (zY rfl (aa (zR (zM rfl (zM rfl (zM rfl ?_)))))))))))
    refine bc _ rfl _ rfl rfl (al bd ty3 (.b rfl) (.b rfl) rfl zg) ?_
    refine zD ty3 rfl (ze rfl rfl (zZ ?_))
    refine af rfl (fun h4 => ?_) (fun h4 => ?_)
    · have h4 : (fun y => decide (x = y)) xs[k] = true := by simpa using h4
      refine zR (zM rfl (zY rfl (aa (am (av (ai (bL (av (ai ?_)))))))))
      exact z1 results190 rfl (ri (iL h2 h4 hno).symm)
    have h4 : (fun y => decide (x = y)) xs[k] = false := by simpa using h4
    have hno1 : ∀ i, (h : i < xs.length) → i < k + 1 → (fun y => decide (x = y)) xs[i] = false := fun i hi g => by
      by_cases e : i = k
      · subst e; exact h4
      exact hno i hi zo
    refine ah (aG (aa (ac (zU rfl rfl zw (zM rfl (aN ?_))))))
    exact aD (fun a w hi => ⟨k + 1, zj, (⟨by omega, hno1⟩), (zI hi)⟩)
  have h2 : k = xs.length := by simp at h2; omega
  refine bg (be (aY (bf (aa (ae (ac (zY rfl (aa (am ?_)))))))))
  exact z1 results190 rfl (ri (iK (fun i hi => hno i hi zo)).symm)
theorem xA (xs : List Int) (x : Int) : Ct prog 143 [.tv (ab (ak .i64)) xs, .raw (.int .i64 x)] (.raw (.bool (xs.any (fun y => decide (x = y))))) := by
  refine ay func143 rfl rfl ntmps143 rfl rfl ?_
  intro w0 ok0
  refine zR (zY rfl (aa (zR (zM rfl (zM rfl (zJ (an (Ak _ _) (.cons (.b rfl) (.cons (.b rfl) .nil)) rfl rfl) (zJ (bW (.b rfl) (.b rfl)) (zY rfl (aa (am ?_))))))))))
  exact z1 results143 rfl (rb (gv _ _))
theorem Aj (xs : List cf) (f : cf → Bool) : Ct prog 220 [.tv (ab cq) xs, .tv (gC prog cq bP (fun _ => True)) f] (.raw (.int .i64 (my f xs))) := by
  refine ay func220 rfl rfl ntmps220 rfl rfl ?_
  intro w0 ok0
  refine eE 0 rfl (fun hl0 => ?_)
  refine zR (zY rfl (aa (ae (zR (zM rfl (zN ei rfl (zM rfl (zZ (aq ?_)))))))))
  refine aZ (ι := Nat) (fun k => ⟨[(0, .tv (ab cq) xs), (1, .tv (gC prog cq bP (fun _ => True)) f), (7, .raw (.int .i64 (xs.length))), (8, .raw (.int .i64 ((k : Nat))))], []⟩) (fun k => k ≤ xs.length ∧ ∀ i, (h : i < xs.length) → i < k → f xs[i] = false) (fun k => xs.length - k) 0 (⟨Nat.zero_le _, fun i h g => by omega⟩) (fun a w hi => (zI hi)) ?_
  rintro k ⟨hk, hno⟩
  refine zR (zt rfl rfl (zZ (ae ?_)))
  refine af rfl (fun h2 => ?_) (fun h2 => ?_)
  · have h2 : k < xs.length := by simp at h2; omega
    refine ah (aa (ae (aq (zR (zM rfl (zY rfl (aa (zR (zM rfl (zM rfl (zM rfl ?_)))))))))))
    refine bc _ rfl _ rfl rfl (al ei e8 (.b rfl) (.b rfl) rfl zg) ?_
    refine zD e8 rfl (zJ (gj (.b rfl) (.tv (.b rfl)) trivial) (zZ ?_))
    refine af rfl (fun h4 => ?_) (fun h4 => ?_)
    · have h4 : f xs[k] = true := by simpa using h4
      refine zR (zM rfl (zY rfl (aa (am (av (ai (bL (av (ai ?_)))))))))
      exact z1 results220 rfl (ri (iL h2 h4 hno).symm)
    have h4 : f xs[k] = false := by simpa using h4
    have hno1 : ∀ i, (h : i < xs.length) → i < k + 1 → f xs[i] = false := fun i hi g => by
      by_cases e : i = k
      · subst e; exact h4
      exact hno i hi zo
    refine ah (aG (aa (ac (zU rfl rfl zw (zM rfl (aN ?_))))))
    exact aD (fun a w hi => ⟨k + 1, zj, (⟨by omega, hno1⟩), (zI hi)⟩)
  have h2 : k = xs.length := by simp at h2; omega
  refine bg (be (aY (bf (aa (ae (ac (zY rfl (aa (am ?_)))))))))
  exact z1 results220 rfl (ri (iK (fun i hi => hno i hi zo)).symm)
theorem rn (xs : List cf) (f : cf → Bool) : Ct prog 185 [.tv (ab cq) xs, .tv (gC prog cq bP (fun _ => True)) f] (.raw (.bool (xs.any f))) := by
  refine ay func185 rfl rfl ntmps185 rfl rfl ?_
  intro w0 ok0
  refine zR (zY rfl (aa (zR (zM rfl (zM rfl (zJ (an (Aj _ _) (.cons (.b rfl) (.cons (.b rfl) .nil)) rfl rfl) (zJ (bW (.b rfl) (.b rfl)) (zY rfl (aa (am ?_))))))))))
  exact z1 results185 rfl (rb (gv _ _))
theorem Ai (xs : List bB) (f : bB → Bool) : Ct prog 221 [.tv (ab cZ) xs, .tv (gC prog cZ bP (fun _ => True)) f] (.raw (.int .i64 (my f xs))) := by
  refine ay func221 rfl rfl ntmps221 rfl rfl ?_
  intro w0 ok0
  refine eE 0 rfl (fun hl0 => ?_)
  refine zR (zY rfl (aa (ae (zR (zM rfl (zN ga rfl (zM rfl (zZ (aq ?_)))))))))
  refine aZ (ι := Nat) (fun k => ⟨[(0, .tv (ab cZ) xs), (1, .tv (gC prog cZ bP (fun _ => True)) f), (7, .raw (.int .i64 (xs.length))), (8, .raw (.int .i64 ((k : Nat))))], []⟩) (fun k => k ≤ xs.length ∧ ∀ i, (h : i < xs.length) → i < k → f xs[i] = false) (fun k => xs.length - k) 0 (⟨Nat.zero_le _, fun i h g => by omega⟩) (fun a w hi => (zI hi)) ?_
  rintro k ⟨hk, hno⟩
  refine zR (zt rfl rfl (zZ (ae ?_)))
  refine af rfl (fun h2 => ?_) (fun h2 => ?_)
  · have h2 : k < xs.length := by simp at h2; omega
    refine ah (aa (ae (aq (zR (zM rfl (zY rfl (aa (zR (zM rfl (zM rfl (zM rfl ?_)))))))))))
    refine bc _ rfl _ rfl rfl (al ga dp (.b rfl) (.b rfl) rfl zg) ?_
    refine zD dp rfl (zJ (gj (.b rfl) (.tv (.b rfl)) trivial) (zZ ?_))
    refine af rfl (fun h4 => ?_) (fun h4 => ?_)
    · have h4 : f xs[k] = true := by simpa using h4
      refine zR (zM rfl (zY rfl (aa (am (av (ai (bL (av (ai ?_)))))))))
      exact z1 results221 rfl (ri (iL h2 h4 hno).symm)
    have h4 : f xs[k] = false := by simpa using h4
    have hno1 : ∀ i, (h : i < xs.length) → i < k + 1 → f xs[i] = false := fun i hi g => by
      by_cases e : i = k
      · subst e; exact h4
      exact hno i hi zo
    refine ah (aG (aa (ac (zU rfl rfl zw (zM rfl (aN ?_))))))
    exact aD (fun a w hi => ⟨k + 1, zj, (⟨by omega, hno1⟩), (zI hi)⟩)
  have h2 : k = xs.length := by simp at h2; omega
  refine bg (be (aY (bf (aa (ae (ac (zY rfl (aa (am ?_)))))))))
  exact z1 results221 rfl (ri (iK (fun i hi => hno i hi zo)).symm)
theorem xz (xs : List bB) (f : bB → Bool) : Ct prog 186 [.tv (ab cZ) xs, .tv (gC prog cZ bP (fun _ => True)) f] (.raw (.bool (xs.any f))) := by
  refine ay func186 rfl rfl ntmps186 rfl rfl ?_
  intro w0 ok0
  refine zR (zY rfl (aa (zR (zM rfl (zM rfl (zJ (an (Ai _ _) (.cons (.b rfl) (.cons (.b rfl) .nil)) rfl rfl) (zJ (bW (.b rfl) (.b rfl)) (zY rfl (aa (am ?_))))))))))
  exact z1 results186 rfl (rb (gv _ _))
def rh (b : UInt8) : Bool := decide (97 ≤ b.toNat) && decide (b.toNat ≤ 122)
def tS (b : UInt8) : Bool := decide (48 ≤ b.toNat) && decide (b.toNat ≤ 57)
def nmB (b : UInt8) : Bool := rh b || tS b || decide (b.toNat = 95)
def B2 (s : List UInt8) : Nat := (s.takeWhile nmB).length
theorem B1 {s : List UInt8} {k : Nat} (hk : k ≤ s.length) (hy : ∀ i, (h : i < s.length) → i < k → nmB s[i] = true) (hn : ∀ h : k < s.length, nmB s[k] = false) : B2 s = k := by
  unfold B2
  have e : s = s.take k ++ s.drop k := (List.take_append_drop k s).symm
  have h1 : ∀ x ∈ s.take k, nmB x = true := fun x hx => by
    obtain ⟨i, hi, rfl⟩ := List.mem_iff_getElem.1 hx
    simp at hi
    simp only [List.getElem_take]
    exact hy i zo zo
  have h2 : (s.drop k).takeWhile nmB = [] := by
    by_cases c : k < s.length
    · rw [List.drop_eq_getElem_cons c, List.takeWhile_cons, hn c]; rfl
    rw [List.drop_of_length_le zo]; rfl
  rw [e, List.takeWhile_append_of_pos h1, h2]
  simp; omega
theorem tR (b : UInt8) : Ct prog 132 [.raw (.int .u8 ((b.toNat : Int)))] (.raw (.bool (rh b))) := by
  refine ay func132 rfl rfl ntmps132 rfl rfl ?_
  intro w0 ok0
  refine zR (zY rfl (aa (zR (zM rfl (zJ (bW (.b rfl) (.b rfl)) (zM rfl (zG rfl rfl (fun hg => ag (.b rfl)) (zG rfl rfl (fun hg => ew (.gd rfl hg) (.b rfl)) (zJ (aF (.b rfl) (.b rfl) rfl zp) (zY rfl (aa (am ?_))))))))))))
  exact z1 results132 rfl (rb (by unfold rh; rw [Bool.eq_iff_iff]; simp; omega))
theorem Ar (b : UInt8) : Ct prog 180 [.raw (.int .u8 ((b.toNat : Int)))] (.raw (.bool (tS b))) := by
  refine ay func180 rfl rfl ntmps180 rfl rfl ?_
  intro w0 ok0
  refine zR (zY rfl (aa (zR (zM rfl (zJ (bW (.b rfl) (.b rfl)) (zM rfl (zG rfl rfl (fun hg => ag (.b rfl)) (zG rfl rfl (fun hg => ew (.gd rfl hg) (.b rfl)) (zJ (aF (.b rfl) (.b rfl) rfl zp) (zY rfl (aa (am ?_))))))))))))
  exact z1 results180 rfl (rb (by unfold tS; rw [Bool.eq_iff_iff]; simp; omega))
theorem B0 (s : List UInt8) (hl : s.length ≤ 9223372036854775807) : Ct prog 133 [.raw (fZ s)] (.raw (.int .i64 (B2 s : Int))) := by
  refine ay func133 rfl rfl ntmps133 rfl rfl ?_
  intro w0 ok0
  refine zR (zY rfl (aa (zR (zY rfl (aa (ae (aq ?_)))))))
  refine aZ (ι := Nat) (fun k => ⟨[(0, .raw (fZ s)), (3, .raw (.int .i64 ((k : Nat))))], []⟩) (fun k => k ≤ s.length ∧ ∀ i, (h : i < s.length) → i < k → nmB s[i] = true) (fun k => s.length - k) 0 (⟨Nat.zero_le _, fun i h g => by omega⟩) (fun a w hi => (zI hi)) ?_
  rintro k ⟨hk, hy⟩
  refine ae (zR (zM rfl (zM rfl (zJ (dy uT9 (.b rfl)) (zt rfl rfl (zM rfl (zG rfl rfl (fun hg => ag (.b rfl)) (zG rfl rfl (fun hg => ag (.b rfl)) (zG rfl rfl (fun hg => iO uT9 (.gd rfl hg) (.gd rfl hg) rfl (getD_some (z := (0 : UInt8)) (by first | omega | (simp at hg; omega) | (simp_all; omega)))) (zG rfl rfl (fun hg => an (tR _) (.cons (.gd rfl hg) .nil) rfl rfl) (zG rfl rfl (fun hg => ag (.gd rfl hg)) ?_)))))))))))
  refine ct _ _ _ _ _ _ _ rfl rfl rfl rfl rfl (fun hg => ag (.b rfl)) ?_
  refine ct _ _ _ _ _ _ _ rfl rfl rfl rfl rfl (fun hg => ag (.b rfl)) ?_
  refine ct _ _ _ _ _ _ _ rfl rfl rfl rfl rfl (fun hg => iO uT9 (.gd rfl hg) (.gd rfl hg) rfl (getD_some (z := (0 : UInt8)) (by first | omega | (simp at hg; omega) | (simp_all; omega)))) ?_
  refine ct _ _ _ _ _ _ _ rfl rfl rfl rfl rfl (fun hg => an (Ar _) (.cons (.gd rfl hg) .nil) rfl rfl) ?_
  refine zG rfl rfl (fun hg => aB (.gd rfl hg) (.b rfl) rfl zp) (zG rfl rfl (fun hg => ag (.gd rfl hg)) ?_)
  refine ct _ _ _ _ _ _ _ rfl rfl rfl rfl rfl (fun hg => ag (.b rfl)) ?_
  refine ct _ _ _ _ _ _ _ rfl rfl rfl rfl rfl (fun hg => ag (.b rfl)) ?_
  refine ct _ _ _ _ _ _ _ rfl rfl rfl rfl rfl (fun hg => iO uT9 (.gd rfl hg) (.gd rfl hg) rfl (getD_some (z := (0 : UInt8)) (by first | omega | (simp at hg; omega) | (simp_all; omega)))) ?_
  refine ct _ _ _ _ _ _ _ rfl rfl rfl rfl rfl (fun hg => ca (.gd rfl hg) (.b rfl)) ?_
  refine zG rfl rfl (fun hg => aB (.gd rfl hg) (.b rfl) rfl zp) (zJ (aF (.b rfl) (.b rfl) rfl zp) (zZ ?_))
  refine af rfl (fun h2 => ?_) (fun h2 => ?_)
  · have h2a : k < s.length := by
      by_cases c : k < s.length
      · exact c
      simp [show ¬ ((k : Int) < (s.length : Int)) by omega] at h2
    have h2b : nmB s[k] = true := by
      simp [h2a, List.getD_eq_getElem?_getD] at h2; unfold nmB; cases e1 : rh s[k] <;> cases e2 : tS s[k] <;> simp [e1, e2] at h2 ⊢ <;> omega
    have hy1 : ∀ i, (h : i < s.length) → i < k + 1 → nmB s[i] = true := fun i hi g => by
      by_cases e : i = k
      · subst e; exact h2b
      exact hy i hi zo
    refine ah (aa (aq (ac (zM rfl (zU rfl rfl zw (zY rfl (aG ?_)))))))
    exact aD (fun a w hi => ⟨k + 1, zj, (⟨by omega, hy1⟩), (zI hi)⟩)
  have h2 : ∀ h : k < s.length, nmB s[k] = false := fun h => by
    simp [h, List.getD_eq_getElem?_getD] at h2; unfold nmB; cases e1 : rh s[k] <;> cases e2 : tS s[k] <;> simp [e1, e2] at h2 ⊢ <;> omega
  refine bg (be (aY (bf (aa (ae (ac (zM rfl (zY rfl (aa (am ?_))))))))))
  exact z1 results133 rfl (ri (by rw [B1 hk hy h2]))
open Go.Eng
def bp (op : Int) : Int :=
  if (1 ≤ op ∧ op ≤ 9) ∨ (35 ≤ op ∧ op ≤ 39) then 0
  else if op = 10 ∨ op = 25 ∨ (31 ≤ op ∧ op ≤ 34) then 1
  else if op = 26 then 3
  else if 11 ≤ op ∧ op ≤ 30 then 2 else -1
theorem nT (op : Int) : -1 ≤ bp op ∧ bp op ≤ 3 := by unfold bp; (repeat' split) <;> omega
def eq (L : Int) : List aP → Nat → List Int → List Int → List Int × Int × Int
  | [], _, stack, starts => if 1 < stack.length then ([], L, 4) else (starts, 0, 0)
  | n :: r, i, stack, starts =>
    if bp n.1 < 0 then ([], i, 2)
    else if (stack.length : Int) < bp n.1 then ([], i, 5)
    else if 12 < (stack.take (stack.length - bp n.1).toNat).length + 1 then ([], i, 16)
    else eq L r (i + 1) (stack.take (stack.length - bp n.1).toNat ++ [if 0 < bp n.1 then stack[(stack.length - bp n.1).toNat]?.getD 0 else i])
      (starts ++ [if 0 < bp n.1 then stack[(stack.length - bp n.1).toNat]?.getD 0 else i])
def bH (e : List aP) : List Int × Int × Int :=
  if 48 < e.length then ([], 0, 4) else if e.length = 0 then ([], 0, 5) else eq e.length e 0 [] []
theorem o9 {starts : List Int} {k m : Nat} (x : Int) (h : starts.length = k) (hk : k < m) : (starts ++ List.replicate (m - k) 0).set k x = starts ++ [x] ++ List.replicate (m - (k + 1)) 0 := by
  have e : m - k = (m - (k + 1)) + 1 := by omega
  rw [e, List.replicate_succ, ← h, List.set_append_right _ _ (Nat.le_refl _)]
  simp
theorem te {starts R : List Int} {k : Nat} (x y : Int) (h : starts.length = k) : (starts ++ [x] ++ R).set k y = starts ++ [y] ++ R := by
  rw [← h, List.append_assoc, List.set_append_right _ _ (Nat.le_refl _)]; simp
theorem px {starts R : List Int} {k : Nat} (x : Int) (h : starts.length = k) {g : k < (starts ++ [x] ++ R).length} : (starts ++ [x] ++ R)[k] = x := by
  subst h; simp
theorem ku (L : Int) {e : List aP} {k : Nat} {stack starts : List Int} (hk : k < e.length) (ha : 0 ≤ bp e[k].1) (hb : bp e[k].1 ≤ (stack.length : Int)) (hc : (stack.length - bp e[k].1).toNat + 1 ≤ 12) (frm : Int) (hf : frm = if 0 < bp e[k].1 then stack[(stack.length - bp e[k].1).toNat]?.getD 0 else k) :
    eq L (e.drop k) k stack starts = eq L (e.drop (k + 1)) (k + 1) (stack.take (stack.length - bp e[k].1).toNat ++ [frm]) (starts ++ [frm]) := by
  rw [List.drop_eq_getElem_cons hk, eq, if_neg zo, if_neg zo, if_neg (by simp only [List.length_take]; omega), ← hf]
def sv3 (R : List Int × Int × Int) : SV := .tup3 (.tv (ab (ak .i64)) R.1) (.raw (.int .i64 R.2.1)) (.raw (.int .i64 R.2.2))
theorem ld {R : List Int × Int × Int} {a : List Int} {b c : Int} (h : (a, b, c) = R) : SV.tup3 (.tv (ab (ak .i64)) a) (.raw (.int .i64 b)) (.raw (.int .i64 c)) = sv3 R := by subst h; rfl
def sv2 (R : List Int × Int) : SV := .tup2 (.tv (ab (ak .i64)) R.1) (.raw (.int .i64 R.2))
theorem dl {α : Type} {P : Program} {cx : Cx} {st : St} {t : Nat} {rt : RT α} (h : a8 st.slots t = some (.raw (.slice none 0 0))) : Res P cx st (.tmp t) (.tv (ab rt) []) := fun β a w hi => by
  obtain ⟨v, h1, h2⟩ := hi.slots t _ h
  have h2 : v = .slice none 0 0 := h2
  exact ⟨v, by simp [mn, h1], by rw [h2]; exact kz⟩
theorem km (op : Int) : Ct prog 115 [.raw (.int .i64 op)] (.raw (.int .i64 (bp op))) := by
  refine ay func115 rfl rfl ntmps115 rfl rfl ?_
  intro w0 ok0
  refine zR (zY rfl (aa (ae (zR (zM rfl (zZ (aq (ae (zR (ze rfl rfl (zY rfl (aa ?_))))))))))))
  iterate 12 (
    refine af rfl (fun h => ?_) (fun h => ?_)
    · have g := h; try simp at h
      refine ah (aa ?_)
      refine bz rfl g (ae ?_)
      refine ac (zY rfl (aa (am (av (ai ?_)))))
      first | (subst_vars; exact z1 results115 rfl (ri (by decide))) | exact z1 results115 rfl (ri (by unfold bp; rw [if_neg zo, if_neg zo, if_neg zo, if_neg zo]))
    have g := h; try simp at h
    refine zR (ze rfl rfl (zY rfl (aa ?_))))
  refine af rfl (fun h => ?_) (fun h => ?_)
  · have g := h; try simp at h
    refine ah (aa ?_)
    refine bz rfl g (ae ?_)
    refine ac (zY rfl (aa (am (av (ai ?_)))))
    first | (subst_vars; exact z1 results115 rfl (ri (by decide))) | exact z1 results115 rfl (ri (by unfold bp; rw [if_neg zo, if_neg zo, if_neg zo, if_neg zo]))
  have g := h; try simp at h
  refine ac (ze rfl rfl (zY rfl (aa ?_)))
  refine af rfl (fun h => ?_) (fun h => ?_)
  · have g := h; try simp at h
    refine zR (zY rfl (aa (am (av (ai ?_)))))
    first | (subst_vars; exact z1 results115 rfl (ri (by decide))) | exact z1 results115 rfl (ri (by unfold bp; rw [if_neg zo, if_neg zo, if_neg zo, if_neg zo]))
  have g := h; try simp at h
  refine ae (zR (ze rfl rfl (zY rfl (aa ?_))))
  iterate 4 (
    refine af rfl (fun h => ?_) (fun h => ?_)
    · have g := h; try simp at h
      refine ah (aa ?_)
      refine bz rfl g (ae ?_)
      refine ac (zY rfl (aa (am (av (ai ?_)))))
      first | (subst_vars; exact z1 results115 rfl (ri (by decide))) | exact z1 results115 rfl (ri (by unfold bp; rw [if_neg zo, if_neg zo, if_neg zo, if_neg zo]))
    have g := h; try simp at h
    refine zR (ze rfl rfl (zY rfl (aa ?_))))
  refine af rfl (fun h => ?_) (fun h => ?_)
  · have g := h; try simp at h
    refine ah (aa ?_)
    refine bz rfl g (ae ?_)
    refine ac (zY rfl (aa (am (av (ai ?_)))))
    first | (subst_vars; exact z1 results115 rfl (ri (by decide))) | exact z1 results115 rfl (ri (by unfold bp; rw [if_neg zo, if_neg zo, if_neg zo, if_neg zo]))
  have g := h; try simp at h
  refine ac (ze rfl rfl (zY rfl (aa ?_)))
  refine af rfl (fun h => ?_) (fun h => ?_)
  · have g := h; try simp at h
    refine zR (zY rfl (aa (am (av (ai ?_)))))
    first | (subst_vars; exact z1 results115 rfl (ri (by decide))) | exact z1 results115 rfl (ri (by unfold bp; rw [if_neg zo, if_neg zo, if_neg zo, if_neg zo]))
  have g := h; try simp at h
  refine ae (zR (ze rfl rfl (zY rfl (aa ?_))))
  iterate 16 (
    refine af rfl (fun h => ?_) (fun h => ?_)
    · have g := h; try simp at h
      refine ah (aa ?_)
      refine bz rfl g (ae ?_)
      refine ac (zY rfl (aa (am (av (ai ?_)))))
      first | (subst_vars; exact z1 results115 rfl (ri (by decide))) | exact z1 results115 rfl (ri (by unfold bp; rw [if_neg zo, if_neg zo, if_neg zo, if_neg zo]))
    have g := h; try simp at h
    refine zR (ze rfl rfl (zY rfl (aa ?_))))
  refine af rfl (fun h => ?_) (fun h => ?_)
  · have g := h; try simp at h
    refine ah (aa ?_)
    refine bz rfl g (ae ?_)
    refine ac (zY rfl (aa (am (av (ai ?_)))))
    first | (subst_vars; exact z1 results115 rfl (ri (by decide))) | exact z1 results115 rfl (ri (by unfold bp; rw [if_neg zo, if_neg zo, if_neg zo, if_neg zo]))
  have g := h; try simp at h
  refine ac (ze rfl rfl (zY rfl (aa ?_)))
  refine af rfl (fun h => ?_) (fun h => ?_)
  · have g := h; try simp at h
    refine zR (zY rfl (aa (am (av (ai ?_)))))
    first | (subst_vars; exact z1 results115 rfl (ri (by decide))) | exact z1 results115 rfl (ri (by unfold bp; rw [if_neg zo, if_neg zo, if_neg zo, if_neg zo]))
  have g := h; try simp at h
  refine zR (ze rfl rfl (zY rfl (aa ?_)))
  refine af rfl (fun h => ?_) (fun h => ?_)
  · try simp at h
    refine zR (zY rfl (aa (am (av (ai ?_)))))
    first | (subst_vars; exact z1 results115 rfl (ri (by decide))) | exact z1 results115 rfl (ri (by unfold bp; rw [if_neg zo, if_neg zo, if_neg zo, if_neg zo]))
  try simp at h
  refine ah (aG (aa (zR (zY rfl (aa (am ?_))))))
  first | (subst_vars; exact z1 results115 rfl (ri (by decide))) | exact z1 results115 rfl (ri (by unfold bp; rw [if_neg zo, if_neg zo, if_neg zo, if_neg zo]))
theorem mF (e : List aP) : Ct prog 113 [.tv (ab bX) e] (sv3 (bH e)) := by
  refine ay func113 rfl rfl ntmps113 rfl rfl ?_
  intro w0 ok0
  refine eE 0 rfl (fun hl0 => ?_)
  refine zR (zA rfl (zA rfl (zY rfl (aa (ae (zR (zM rfl (zN fB rfl (zJ (bY (.b rfl) (.b rfl)) (zZ ?_))))))))))
  refine af rfl (fun h1 => ?_) (fun h1 => ?_)
  · try simp at h1
    refine zR (zA rfl (zA rfl (zY rfl (aa (am (ai ?_))))))
    exact cS results113 (dl rfl) (aw rfl) (aw rfl) ⟨rfl, rfl, rfl⟩ (ld (by unfold bH; rw [if_pos zo]))
  try simp at h1
  refine ah (aa (ae (zR (zM rfl (zN fB rfl (ze rfl rfl (zZ ?_)))))))
  refine af rfl (fun h3 => ?_) (fun h3 => ?_)
  · try simp at h3
    refine zR (zA rfl (zA rfl (zY rfl (aa (am (ai ?_))))))
    exact cS results113 (dl rfl) (aw rfl) (aw rfl) ⟨rfl, rfl, rfl⟩ (ld (by subst h3; rfl))
  simp at h3; have h3' : e.length ≠ 0 := by simpa using h3
  refine ah (aa (zR (zM rfl (zN fB rfl (zO (dL bd ty3 z3 rfl by3 (.b rfl) (.b rfl) zo (by unfold maxLen; omega) rfl rfl rfl) (zY rfl (aa (zR (zY rfl (aa (ae (zR (zM rfl (zN fB rfl (zM rfl (zZ (aq ?_)))))))))))))))))
  refine eO 64 6 (ak .i64) rfl rfl rfl ?_
  refine aZ (ι := (Nat × List Int × List Int)) (fun (k, stack, starts) => ⟨[(0, .tv (ab bX) e), (5, .own 18 1 0 e.length), (6, .own 64 1 0 stack.length), (19, .tv (ab bX) e), (20, .raw (.int .i64 (e.length))), (21, .raw (.int .i64 ((k : Nat))))], [(18, ⟨ak .i64, starts ++ List.replicate (e.length - k) 0⟩), (64, ⟨ak .i64, stack⟩)]⟩) (fun (k, stack, starts) => k ≤ e.length ∧ starts.length = k ∧ stack.length ≤ 12 ∧ eq e.length (e.drop k) k stack starts = bH e) (fun (k, stack, starts) => e.length - k) (0, [], []) (by refine ⟨Nat.zero_le _, rfl, by simp, ?_⟩; unfold bH; rw [if_neg zo, if_neg zo]; rfl) (fun a w hi => (zI hi)) ?_
  rintro ⟨k, stack, starts⟩ ⟨hk, hs, hst, hp⟩
  refine zR (zt rfl rfl (zZ (ae ?_)))
  refine af rfl (fun h8 => ?_) (fun h8 => ?_)
  · try simp at h8
    refine ah (aa (ae (aq (zR (zM rfl ?_)))))
    refine bc _ rfl _ rfl rfl (al fB cl (.b rfl) (.b rfl) rfl zg) ?_
    refine zD cl rfl (zl kT (zA rfl (zC cl rfl rfl rfl (Lens.id _) (.tv (.b rfl)) (zZ (zR (zF bU rfl (zL ty3 rfl rfl rfl cb (zJ (an (km _) (.cons (.b rfl) .nil) rfl rfl) (zY rfl (aa (ae (zR (zM rfl (zt rfl rfl (zZ ?_)))))))))))))))
    refine af rfl (fun h11 => ?_) (fun h11 => ?_)
    · try simp at h11
      refine zR (zM rfl (zA rfl (zA rfl (zY rfl (aa (am (ai (av (ai (bL (av (ai ?_))))))))))))
      exact cS results113 (dl rfl) (aw rfl) (aw rfl) ⟨rfl, rfl, rfl⟩ (ld (by rw [← hp, List.drop_eq_getElem_cons zo]; rw [eq, if_pos zo]))
    try simp at h11
    refine ah (aa (ae (zR (zM rfl (zM rfl (zJ (ci bd (.b rfl)) (zJ (bY (.b rfl) (.b rfl)) (zZ ?_))))))))
    refine af rfl (fun h13 => ?_) (fun h13 => ?_)
    · try simp at h13
      refine zR (zM rfl (zA rfl (zA rfl (zY rfl (aa (am (ai (av (ai (bL (av (ai ?_))))))))))))
      exact cS results113 (dl rfl) (aw rfl) (aw rfl) ⟨rfl, rfl, rfl⟩ (ld (by rw [← hp, List.drop_eq_getElem_cons zo]; rw [eq, if_neg zo, if_pos zo]))
    try simp at h13
    refine ah (aa (zR (zM rfl (zM rfl (zM rfl (zJ (bu bd ty3 (.b rfl) (.b rfl) rfl zh) ?_))))))
    refine eN _ rfl (bK ty3 (.b rfl) rfl zg (Lens.id _) (.raw (.b rfl) rfl)) ?_
    refine zQ [0,5,6,7,9,19,20,21] [18,64] (aa (ae (zR ?_)))
    refine zM rfl (zJ (bY (.b rfl) (.b rfl)) (zZ ?_))
    refine af rfl (fun h16 => ?_) (fun h16 => ?_)
    · try simp at h16
      refine ac (zM rfl (zM rfl (zM rfl (zM rfl (zJ (ci bd (.b rfl)) (zM rfl (zJ (da (.b rfl) (.b rfl) zw) (zJ (bu bd ty3 (.b rfl) (.b rfl) (Int.toNat_of_nonneg zo).symm zh) ?_))))))))
      refine bc _ rfl _ rfl rfl (aj ty3 (.b rfl) rfl zg (Lens.id _)) ?_
      refine zJ (bu bd ty3 (.b rfl) (.b rfl) rfl zh) ?_
      refine eN _ rfl (bK ty3 (.b rfl) rfl zg (Lens.id _) (.raw (.b rfl) rfl)) ?_
      refine zZ (ae ?_)
      refine gP 11 mo zk zk ( zS (ag (.b rfl)) ( zS (ag (.b rfl)) ( zS (ci bd (.b rfl)) ( zS (ag (.b rfl)) ( zS (da (.b rfl) (.b rfl) zw) ( zS (gH bd ty3 (.b rfl) rfl ⟨_, _, (.b rfl), (Int.toNat_of_nonneg zo).symm⟩ zo zo) ( zS (ag (.b rfl)) ( zS (ag (.b rfl)) ( zS (bu bd ty3 (.b rfl) (.b rfl) rfl zh) ( zS (aj ty3 (.b rfl) rfl zg (Lens.id _)) ( zS (bq (rt := (ak .i64)) bd ty3 z3 rfl (.cons (.raw (.b rfl) rfl) .nil) rfl rfl) ( AS.nil)))))))))))) rfl rfl (dn [0, 5, 7, 19, 20, 21] bd ty3 z3 rfl by3 (.b rfl) rfl (by (try simp); try omega) (.tv (.b rfl)) (by unfold maxLen; (try simp); try omega) (by (try simp); try omega) rfl (.cons rfl (.cons rfl (.cons rfl (.cons rfl (.cons rfl (.cons rfl .nil)))))) rfl) ( zS (aU (.b rfl)) ( AS.nil)) ?_
      refine aa (zR (zM rfl (zJ (ci bd (.b rfl)) (zJ (bY (.b rfl) (.b rfl)) (zZ ?_)))))
      refine af rfl (fun h19 => ?_) (fun h19 => ?_)
      · try simp at h19
        refine zR (zM rfl (zA rfl (zA rfl (zY rfl (aa (am (av (ai (bL (av (ai ?_)))))))))))
        exact cS results113 (dl rfl) (aw rfl) (aw rfl) ⟨rfl, rfl, rfl⟩ (ld (by rw [← hp, List.drop_eq_getElem_cons zo]; rw [eq, if_neg zo, if_neg zo, if_pos (by simp only [List.length_take]; omega)]))
      try simp at h19
      refine ah (aG (aa (ac (zU rfl rfl zw (zM rfl (aN ?_))))))
      first
      | (exact aD (fun a w hi => ⟨(k + 1, stack.take (↑stack.length - bp e[k].1).toNat ++ [stack[0 + (↑stack.length - bp e[k].1).toNat]], starts ++ [stack[0 + (↑stack.length - bp e[k].1).toNat]]), (by simp only []; omega), ⟨by omega, by simp [hs], by simp only [List.length_append, List.length_take, List.length_cons, List.length_nil]; omega, (ku _ h8 h11 h13 zo _ (by rw [if_pos h16]; simp; rw [List.getElem?_eq_getElem zo]; rfl)).symm.trans hp⟩, Sub.inv ⟨(by repeat (first | exact aQ | refine aM rfl (by first | rfl | assumption | exact congrArg (SV.own 64 1 0) (by simp; omega)) ?_)), (by repeat (first | exact bn | refine aL rfl (by first | rfl | (simp only [Nat.zero_add, List.drop_zero, Nat.sub_zero, o9 _ hs h8, te _ _ hs, px _ hs])) ?_))⟩ hi⟩))
      | (exact aD (fun a w hi => ⟨(k + 1, stack.take (↑stack.length - bp e[k].1).toNat ++ [(k : Int)], starts ++ [(k : Int)]), (by simp only []; omega), ⟨by omega, by simp [hs], by simp only [List.length_append, List.length_take, List.length_cons, List.length_nil]; omega, (ku _ h8 h11 h13 zo _ (by rw [if_neg zo])).symm.trans hp⟩, Sub.inv ⟨(by repeat (first | exact aQ | refine aM rfl (by first | rfl | assumption | exact congrArg (SV.own 64 1 0) (by simp; omega)) ?_)), (by repeat (first | exact bn | refine aL rfl (by first | rfl | (simp only [Nat.zero_add, List.drop_zero, Nat.sub_zero, o9 _ hs h8, px _ hs])) ?_))⟩ hi⟩))
    try simp at h16
    refine ah (aa (ae ?_))
    refine gP 11 mo zk zk ( zS (ag (.b rfl)) ( zS (ag (.b rfl)) ( zS (ci bd (.b rfl)) ( zS (ag (.b rfl)) ( zS (da (.b rfl) (.b rfl) zw) ( zS (gH bd ty3 (.b rfl) rfl ⟨_, _, (.b rfl), (Int.toNat_of_nonneg zo).symm⟩ zo zo) ( zS (ag (.b rfl)) ( zS (ag (.b rfl)) ( zS (bu bd ty3 (.b rfl) (.b rfl) rfl zh) ( zS (aj ty3 (.b rfl) rfl zg (Lens.id _)) ( zS (bq (rt := (ak .i64)) bd ty3 z3 rfl (.cons (.raw (.b rfl) rfl) .nil) rfl rfl) ( AS.nil)))))))))))) rfl rfl (dn [0, 5, 7, 19, 20, 21] bd ty3 z3 rfl by3 (.b rfl) rfl (by (try simp); try omega) (.tv (.b rfl)) (by unfold maxLen; (try simp); try omega) (by (try simp); try omega) rfl (.cons rfl (.cons rfl (.cons rfl (.cons rfl (.cons rfl (.cons rfl .nil)))))) rfl) ( zS (aU (.b rfl)) ( AS.nil)) ?_
    refine aa (zR (zM rfl (zJ (ci bd (.b rfl)) (zJ (bY (.b rfl) (.b rfl)) (zZ ?_)))))
    refine af rfl (fun h19 => ?_) (fun h19 => ?_)
    · try simp at h19
      refine zR (zM rfl (zA rfl (zA rfl (zY rfl (aa (am (av (ai (bL (av (ai ?_)))))))))))
      exact cS results113 (dl rfl) (aw rfl) (aw rfl) ⟨rfl, rfl, rfl⟩ (ld (by rw [← hp, List.drop_eq_getElem_cons zo]; rw [eq, if_neg zo, if_neg zo, if_pos (by simp only [List.length_take]; omega)]))
    try simp at h19
    refine ah (aG (aa (ac (zU rfl rfl zw (zM rfl (aN ?_))))))
    first
    | (exact aD (fun a w hi => ⟨(k + 1, stack.take (↑stack.length - bp e[k].1).toNat ++ [stack[0 + (↑stack.length - bp e[k].1).toNat]], starts ++ [stack[0 + (↑stack.length - bp e[k].1).toNat]]), (by simp only []; omega), ⟨by omega, by simp [hs], by simp only [List.length_append, List.length_take, List.length_cons, List.length_nil]; omega, (ku _ h8 h11 h13 zo _ (by rw [if_pos h16]; simp; rw [List.getElem?_eq_getElem zo]; rfl)).symm.trans hp⟩, Sub.inv ⟨(by repeat (first | exact aQ | refine aM rfl (by first | rfl | assumption | exact congrArg (SV.own 64 1 0) (by simp; omega)) ?_)), (by repeat (first | exact bn | refine aL rfl (by first | rfl | (simp only [Nat.zero_add, List.drop_zero, Nat.sub_zero, o9 _ hs h8, te _ _ hs, px _ hs])) ?_))⟩ hi⟩))
    | (exact aD (fun a w hi => ⟨(k + 1, stack.take (↑stack.length - bp e[k].1).toNat ++ [(k : Int)], starts ++ [(k : Int)]), (by simp only []; omega), ⟨by omega, by simp [hs], by simp only [List.length_append, List.length_take, List.length_cons, List.length_nil]; omega, (ku _ h8 h11 h13 zo _ (by rw [if_neg zo])).symm.trans hp⟩, Sub.inv ⟨(by repeat (first | exact aQ | refine aM rfl (by first | rfl | assumption | exact congrArg (SV.own 64 1 0) (by simp; omega)) ?_)), (by repeat (first | exact bn | refine aL rfl (by first | rfl | (simp only [Nat.zero_add, List.drop_zero, Nat.sub_zero, o9 _ hs h8, px _ hs])) ?_))⟩ hi⟩))
  try simp at h8
  refine bg (be (aY (bf (aa (ae (ae (ac (zM rfl (zJ (ci bd (.b rfl)) (zJ (bY (.b rfl) (.b rfl)) (zZ ?_)))))))))))
  refine af rfl (fun h22 => ?_) (fun h22 => ?_)
  · try simp at h22
    refine zR (zM rfl (zN fB rfl (zA rfl (zA rfl (zY rfl (aa (am (ai ?_))))))))
    exact cS results113 (dl rfl) (aw rfl) (aw rfl) ⟨rfl, rfl, rfl⟩ (ld (by rw [← hp, List.drop_of_length_le zo, eq, if_pos zo]))
  try simp at h22
  refine ah (aa (zR (zM rfl (zA rfl (zA rfl (zY rfl (aa (am ?_))))))))
  refine cY 18 2 [] rfl rfl (by simp; omega) (fun j s h => by cases h) rfl ?_
  exact cS results113 (aw rfl) (aw rfl) (aw rfl) ⟨rfl, rfl, rfl⟩ (ld (by rw [← hp, List.drop_of_length_le (show e.length ≤ k by omega), eq, if_neg zo]; have e1 : e.length - k = 0 := zo; rw [e1, List.replicate_zero, List.append_nil, List.drop_zero, List.take_of_length_le zo]))
def dE (op : Int) : Bool := decide ((1 ≤ op ∧ op ≤ 8) ∨ (14 ≤ op ∧ op ≤ 16) ∨ op = 33 ∨ op = 34 ∨ (36 ≤ op ∧ op ≤ 39))
def eS (m : Int) : Bool := decide (0 ≤ m) && decide (m ≤ 5)
def dH (k : Int) : Bool := decide (2 ≤ k ∧ k ≤ 4)
def au (t : bE) (en : List bV) : Bool := if 1 ≤ t.1 ∧ t.1 ≤ 5 then decide (t.2 = 0) else if t.1 = 6 then decide (0 ≤ t.2) && decide (t.2 < en.length) else false
theorem sX (op : Int) : Ct prog 114 [.raw (.int .i64 op)] (.raw (.bool (dE op))) := by
  refine ay func114 rfl rfl ntmps114 rfl rfl ?_
  intro w0 ok0
  refine zR (zY rfl (aa (ae (zR (zM rfl (zZ (aq (ae (zR (ze rfl rfl (zY rfl (aa ?_))))))))))))
  iterate 15 (
    refine af rfl (fun h => ?_) (fun h => ?_)
    · have g := h; try simp at h
      refine ah (aa ?_)
      refine bz rfl g (ae ?_)
      refine ac (zY rfl (aa (am (av (ai ?_)))))
      exact z1 results114 rfl (rb (by subst_vars; first | rfl | (simp [dE]; done) | (simp [dE, *]; done) | (rw [Bool.eq_iff_iff]; simp [dE, *]; omega) | (rw [Bool.eq_iff_iff]; simp [dE]; omega) | (unfold dE; simp; omega) | (unfold dE; (repeat' split) <;> first | rfl | omega | simp_all)))
    have g := h; try simp at h
    refine zR (ze rfl rfl (zY rfl (aa ?_))))
  refine af rfl (fun h => ?_) (fun h => ?_)
  · have g := h; try simp at h
    refine ah (aa ?_)
    refine bz rfl g (ae ?_)
    refine ac (zY rfl (aa (am (av (ai ?_)))))
    exact z1 results114 rfl (rb (by subst_vars; first | rfl | (simp [dE]; done) | (simp [dE, *]; done) | (rw [Bool.eq_iff_iff]; simp [dE, *]; omega) | (rw [Bool.eq_iff_iff]; simp [dE]; omega) | (unfold dE; simp; omega) | (unfold dE; (repeat' split) <;> first | rfl | omega | simp_all)))
  have g := h; try simp at h
  refine ac (ze rfl rfl (zY rfl (aa ?_)))
  refine af rfl (fun h => ?_) (fun h => ?_)
  · have g := h; try simp at h
    refine zR (zY rfl (aa (am (av (ai ?_)))))
    exact z1 results114 rfl (rb (by subst_vars; first | rfl | (simp [dE]; done) | (simp [dE, *]; done) | (rw [Bool.eq_iff_iff]; simp [dE, *]; omega) | (rw [Bool.eq_iff_iff]; simp [dE]; omega) | (unfold dE; simp; omega) | (unfold dE; (repeat' split) <;> first | rfl | omega | simp_all)))
  have g := h; try simp at h
  refine ah (aG (aa (zR (zY rfl (aa (am ?_))))))
  exact z1 results114 rfl (rb (by subst_vars; first | rfl | (simp [dE]; done) | (simp [dE, *]; done) | (rw [Bool.eq_iff_iff]; simp [dE, *]; omega) | (rw [Bool.eq_iff_iff]; simp [dE]; omega) | (unfold dE; simp; omega) | (unfold dE; (repeat' split) <;> first | rfl | omega | simp_all)))
theorem iG (op : Int) : Ct prog 159 [.raw (.int .i64 op)] (.raw (.bool (eS op))) := by
  refine ay func159 rfl rfl ntmps159 rfl rfl ?_
  intro w0 ok0
  refine zR (zY rfl (aa (zR (zM rfl (zJ (bW (.b rfl) (.b rfl)) (zM rfl (zG rfl rfl (fun hg => ag (.b rfl)) (zG rfl rfl (fun hg => ew (.gd rfl hg) (.b rfl)) (zJ (aF (.b rfl) (.b rfl) rfl zp) (zY rfl (aa (am ?_))))))))))))
  exact z1 results159 rfl (rb (by subst_vars; first | rfl | (simp [eS]; done) | (simp [eS, *]; done) | (rw [Bool.eq_iff_iff]; simp [eS, *]; omega) | (rw [Bool.eq_iff_iff]; simp [eS]; omega) | (unfold eS; simp; omega) | (unfold eS; (repeat' split) <;> first | rfl | omega | simp_all)))
theorem eF (op : Int) : Ct prog 208 [.raw (.int .i64 op)] (.raw (.bool (dH op))) := by
  refine ay func208 rfl rfl ntmps208 rfl rfl ?_
  intro w0 ok0
  refine zR (zY rfl (aa (zR (zM rfl (ze rfl rfl (zM rfl (zG rfl rfl (fun hg => ag (.b rfl)) (zG rfl rfl (fun hg => ca (.gd rfl hg) (.b rfl)) (zJ (aB (.b rfl) (.b rfl) rfl zp) (zM rfl (zG rfl rfl (fun hg => ag (.b rfl)) (zG rfl rfl (fun hg => ca (.gd rfl hg) (.b rfl)) (zJ (aB (.b rfl) (.b rfl) rfl zp) (zY rfl (aa (am ?_))))))))))))))))
  exact z1 results208 rfl (rb (by subst_vars; first | rfl | (simp [dH]; done) | (simp [dH, *]; done) | (rw [Bool.eq_iff_iff]; simp [dH, *]; omega) | (rw [Bool.eq_iff_iff]; simp [dH]; omega) | (unfold dH; simp; omega) | (unfold dH; (repeat' split) <;> first | rfl | omega | simp_all)))
theorem db (t : bE) (en : List bV) : Ct prog 74 [.tv aX t, .tv (ab cX) en] (.raw (.bool (au t en))) := by
  refine ay func74 rfl rfl ntmps74 rfl rfl ?_
  intro w0 ok0
  refine eE 1 rfl (fun hl0 => ?_)
  refine zR (zb (.tv (.b rfl)) (zY rfl (aa (ae (zR (zF bR rfl (zL ty3 rfl rfl rfl bN (zZ (aq (ae (zR (ze rfl rfl (zY rfl (aa ?_))))))))))))))
  refine af rfl (fun h2 => ?_) (fun h2 => ?_)
  · have g2 := h2; try simp at h2
    refine ah (aa ?_)
    refine bz rfl g2 (ae ?_)
    refine ac (zF dV rfl (zL ty3 rfl rfl rfl ez (ze rfl rfl (zY rfl (aa (am (av (ai ?_))))))))
    exact z1 results74 rfl (rb (by subst_vars; first | rfl | (simp [au]; done) | (simp [au, *]; done) | (rw [Bool.eq_iff_iff]; simp [au, *]; omega) | (rw [Bool.eq_iff_iff]; simp [au]; omega) | (unfold au; simp; omega) | (unfold au; (repeat' split) <;> first | rfl | omega | simp_all)))
  have g2 := h2; try simp at h2
  refine zR (ze rfl rfl (zY rfl (aa ?_)))
  refine af rfl (fun h3 => ?_) (fun h3 => ?_)
  · have g3 := h3; try simp at h3
    refine ah (aa ?_)
    refine bz rfl g3 (ae ?_)
    refine ac (zF dV rfl (zL ty3 rfl rfl rfl ez (ze rfl rfl (zY rfl (aa (am (av (ai ?_))))))))
    exact z1 results74 rfl (rb (by subst_vars; first | rfl | (simp [au]; done) | (simp [au, *]; done) | (rw [Bool.eq_iff_iff]; simp [au, *]; omega) | (rw [Bool.eq_iff_iff]; simp [au]; omega) | (unfold au; simp; omega) | (unfold au; (repeat' split) <;> first | rfl | omega | simp_all)))
  have g3 := h3; try simp at h3
  refine zR (ze rfl rfl (zY rfl (aa ?_)))
  refine af rfl (fun h4 => ?_) (fun h4 => ?_)
  · have g4 := h4; try simp at h4
    refine ah (aa ?_)
    refine bz rfl g4 (ae ?_)
    refine ac (zF dV rfl (zL ty3 rfl rfl rfl ez (ze rfl rfl (zY rfl (aa (am (av (ai ?_))))))))
    exact z1 results74 rfl (rb (by subst_vars; first | rfl | (simp [au]; done) | (simp [au, *]; done) | (rw [Bool.eq_iff_iff]; simp [au, *]; omega) | (rw [Bool.eq_iff_iff]; simp [au]; omega) | (unfold au; simp; omega) | (unfold au; (repeat' split) <;> first | rfl | omega | simp_all)))
  have g4 := h4; try simp at h4
  refine zR (ze rfl rfl (zY rfl (aa ?_)))
  refine af rfl (fun h5 => ?_) (fun h5 => ?_)
  · have g5 := h5; try simp at h5
    refine ah (aa ?_)
    refine bz rfl g5 (ae ?_)
    refine ac (zF dV rfl (zL ty3 rfl rfl rfl ez (ze rfl rfl (zY rfl (aa (am (av (ai ?_))))))))
    exact z1 results74 rfl (rb (by subst_vars; first | rfl | (simp [au]; done) | (simp [au, *]; done) | (rw [Bool.eq_iff_iff]; simp [au, *]; omega) | (rw [Bool.eq_iff_iff]; simp [au]; omega) | (unfold au; simp; omega) | (unfold au; (repeat' split) <;> first | rfl | omega | simp_all)))
  have g5 := h5; try simp at h5
  refine ac (ze rfl rfl (zY rfl (aa ?_)))
  refine af rfl (fun h6 => ?_) (fun h6 => ?_)
  · have g6 := h6; try simp at h6
    refine zR (zF dV rfl (zL ty3 rfl rfl rfl ez (ze rfl rfl (zY rfl (aa (am (av (ai ?_))))))))
    exact z1 results74 rfl (rb (by subst_vars; first | rfl | (simp [au]; done) | (simp [au, *]; done) | (rw [Bool.eq_iff_iff]; simp [au, *]; omega) | (rw [Bool.eq_iff_iff]; simp [au]; omega) | (unfold au; simp; omega) | (unfold au; (repeat' split) <;> first | rfl | omega | simp_all)))
  have g6 := h6; try simp at h6
  refine zR (ze rfl rfl (zY rfl (aa ?_)))
  refine af rfl (fun h8 => ?_) (fun h8 => ?_)
  · try simp at h8
    refine zR (zF dV rfl (zL ty3 rfl rfl rfl ez (zJ (bW (.b rfl) (.b rfl)) (zM rfl (zG rfl rfl (fun hg => ao dV (.b rfl)) (zG rfl rfl (fun hg => aj ty3 (.gd rfl hg) rfl rfl ez) (zG rfl rfl (fun hg => ag (.b rfl)) (zG rfl rfl (fun hg => cJ jg (.gd rfl hg)) (zG rfl rfl (fun hg => dS (.gd rfl hg) (.gd rfl hg)) (zJ (aF (.b rfl) (.b rfl) rfl zp) (zY rfl (aa (am (av (ai ?_)))))))))))))))
    exact z1 results74 rfl (rb (by subst_vars; first | rfl | (simp [au]; done) | (simp [au, *]; done) | (rw [Bool.eq_iff_iff]; simp [au, *]; omega) | (rw [Bool.eq_iff_iff]; simp [au]; omega) | (unfold au; simp; omega) | (unfold au; (repeat' split) <;> first | rfl | omega | simp_all)))
  try simp at h8
  refine ah (aG (aa (zR (zY rfl (aa (am ?_))))))
  exact z1 results74 rfl (rb (by subst_vars; first | rfl | (simp [au]; done) | (simp [au, *]; done) | (rw [Bool.eq_iff_iff]; simp [au, *]; omega) | (rw [Bool.eq_iff_iff]; simp [au]; omega) | (unfold au; simp; omega) | (unfold au; (repeat' split) <;> first | rfl | omega | simp_all)))
theorem n4 (e : List aP) : Ct prog 78 [.tv (ab bX) e] (sv2 ((bH e).1, (bH e).2.2)) := by
  refine ay func78 rfl rfl ntmps78 rfl rfl ?_
  intro w0 ok0
  refine zR (zA rfl (zY rfl (aa (zR (zM rfl (zJ (an (mF e) (.cons (.b rfl) .nil) rfl rfl) (zM rfl (zJ (d7 (.b rfl)) (zJ (d6 (.b rfl)) (zJ (d5 (.b rfl)) (zA rfl (zA rfl (zY rfl (aa (zR (zM rfl (zM rfl (zA rfl (zY rfl (aa (am ?_)))))))))))))))))))))
  exact z2 results78 rfl rfl rfl
def fv (starts : List Int) : Int → List Int → Prop
  | k, [] => k = 0
  | k, s :: r => 0 ≤ s ∧ s < k ∧ starts[(k - 1).toNat]? = some s ∧ fv starts s r
theorem iT {starts t : List Int} : ∀ {rs : List Int} {k : Int}, k ≤ starts.length → fv starts k rs → fv (starts ++ t) k rs
  | [], k, _, h => h
  | s :: r, k, hk, ⟨h1, h2, h3, h4⟩ => ⟨h1, h2, by rw [List.getElem?_append_left zo]; exact h3, iT zo h4⟩
theorem qB {starts : List Int} : ∀ {n : Nat} {rs : List Int} {k : Int} (_ : fv starts k rs) (hn : n < rs.length), fv starts rs[n] (rs.drop (n + 1)) ∧ 0 ≤ rs[n] ∧ rs[n] < k
  | 0, s :: r, k, ⟨h1, h2, _, h4⟩, _ => ⟨h4, h1, h2⟩
  | n + 1, s :: r, k, ⟨h1, h2, _, h4⟩, hn => by
    obtain ⟨a, b, c⟩ := qB (n := n) h4 (by simpa using hn)
    exact ⟨a, b, by simp only [List.getElem_cons_succ]; omega⟩
theorem mB {starts stack : List Int} {i : Nat} {n : Int} (hc : fv starts i stack.reverse) (hl : starts.length = i) (h0 : 0 ≤ n) (h1 : n ≤ stack.length) :
    fv (starts ++ [if 0 < n then stack[(stack.length - n).toNat]?.getD 0 else (i : Int)]) ((i + 1 : Nat) : Int) ((stack.take (stack.length - n).toNat ++ [if 0 < n then stack[(stack.length - n).toNat]?.getD 0 else (i : Int)]).reverse) := by
  rw [List.reverse_append]
  simp only [List.reverse_cons, List.reverse_nil, List.nil_append, List.singleton_append]
  by_cases hn : 0 < n
  · simp only [if_pos hn]
    have hm : (stack.length - n).toNat < stack.length := by omega
    rw [List.getElem?_eq_getElem hm, Option.getD_some]
    have hi : n.toNat - 1 < stack.reverse.length := by simp; omega
    obtain ⟨a, b, c⟩ := qB hc hi
    have e1 : stack.reverse[n.toNat - 1] = stack[(stack.length - n).toNat] := by
      rw [List.getElem_reverse]; congr 1; omega
    have e2 : stack.reverse.drop (n.toNat - 1 + 1) = (stack.take (stack.length - n).toNat).reverse := by
      rw [List.drop_reverse]; congr 2; omega
    rw [e1] at a b c; rw [e2] at a
    refine ⟨b, by omega, ?_, iT zo a⟩
    have : (((i + 1 : Nat) : Int) - 1).toNat = starts.length := by omega
    rw [this]; simp
  have : n = 0 := by omega
  subst this
  simp only [if_neg (show ¬ (0:Int) < 0 by omega)]
  refine ⟨by omega, by omega, ?_, ?_⟩
  · have : (((i + 1 : Nat) : Int) - 1).toNat = starts.length := by omega
    rw [this]; simp
  rw [List.take_of_length_le zo]; exact iT zo hc
def Push (R : List Int) (k : Nat) (a : Int) (rs : List Int) : Prop := ∃ frm, fv R ((k + 1 : Nat) : Int) (frm :: rs.drop a.toNat) ∧ (a = 0 → frm = k) ∧ (0 < a → rs[a.toNat - 1]? = some frm) ∧ (rs.drop a.toNat).length + 1 ≤ 12
theorem mA {starts : List Int} : ∀ {rs rs' : List Int} {k : Int}, fv starts k rs → fv starts k rs' → rs = rs'
  | [], [], _, _, _ => rfl
  | [], s :: r, k, h, h' => by have h : k = 0 := h; have h1 := h'.1; have h2 := h'.2.1; omega
  | s :: r, [], k, h', h => by have h : k = 0 := h; have h1 := h'.1; have h2 := h'.2.1; omega
  | s :: r, s' :: r', k, h, h' => by
    have e : s = s' := by have a := h.2.2.1; rw [h'.2.2.1] at a; exact (Option.some.inj a).symm
    subst e
    rw [mA h.2.2.2 h'.2.2.2]
theorem pM (L : Int) : ∀ (r : List aP) (i : Nat) (stack starts : List Int), fv starts i stack.reverse → starts.length = i → (eq L r i stack starts).2.2 = 0 →
    (eq L r i stack starts).1.length = i + r.length ∧ (∃ t, (eq L r i stack starts).1 = starts ++ t) ∧ (∃ rs, fv (eq L r i stack starts).1 ((i + r.length : Nat) : Int) rs ∧ rs.length ≤ 1) ∧
    ∀ j (hj : j < r.length), 0 ≤ bp r[j].1 ∧ ∃ rs, fv (eq L r i stack starts).1 ((i + j : Nat) : Int) rs ∧ bp r[j].1 ≤ rs.length ∧ Push (eq L r i stack starts).1 (i + j) (bp r[j].1) rs
  | [], i, stack, starts, hc, hl, h => by
    simp only [eq] at h ⊢
    split at h
    · cases h
    rename_i hh
    rw [if_neg hh]
    exact ⟨by simp [hl], ⟨[], by simp⟩, ⟨_, hc, by simp; omega⟩, fun j hj => absurd hj (by simp)⟩
  | n :: r, i, stack, starts, hc, hl, h => by
    simp only [eq] at h ⊢
    split at h
    · simp at h
    rename_i h1; split at h
    · simp at h
    rename_i h2; split at h
    · simp at h
    rename_i h3
    rw [if_neg h1, if_neg h2, if_neg h3]
    obtain ⟨a, ⟨t, b⟩, c, d⟩ := pM L r (i + 1) _ _ (mB hc hl zo zo) (by simp [hl]) h
    refine ⟨by rw [a]; simp; omega, ⟨[_] ++ t, by rw [b, List.append_assoc]⟩, ?_, ?_⟩
    · obtain ⟨rs, c1, c2⟩ := c
      exact ⟨rs, by rw [show i + (n :: r).length = i + 1 + r.length by simp; omega]; exact c1, c2⟩
    intro j hj
    cases j with
    | zero =>
      refine ⟨by simp; omega, stack.reverse, ?_, by simp; omega, ?_⟩
      · rw [b, List.append_assoc]; exact iT zo hc
      have hs := mB (n := bp n.1) hc hl zo zo
      rw [List.reverse_append, List.reverse_singleton, List.singleton_append] at hs
      have ed : (stack.take (stack.length - bp n.1).toNat).reverse = stack.reverse.drop (bp n.1).toNat := by
        rw [List.drop_reverse]; congr 2; omega
      rw [ed] at hs
      refine ⟨_, by rw [b]; exact iT (by simp; omega) hs, fun h0 => ?_, fun h0 => ?_, ?_⟩
      · rw [if_neg (by simp only [List.getElem_cons_zero] at h0; omega)]; simp
      · simp only [List.getElem_cons_zero] at h0 ⊢
        rw [if_pos h0, List.getElem?_eq_getElem (show (stack.length - bp n.1).toNat < stack.length by omega), Option.getD_some, List.getElem?_reverse zo, List.getElem?_eq_getElem zo]
        congr 2; omega
      simp only [List.getElem_cons_zero, List.length_drop, List.length_reverse, List.length_take] at h3 ⊢; omega
    | succ j =>
      obtain ⟨e, rs, f, g, q⟩ := d j (by simpa using hj)
      exact ⟨by simpa using e, rs, by rw [show i + (j + 1) = i + 1 + j by omega]; exact f, by simpa using g, by rw [show i + (j + 1) = i + 1 + j by omega]; simpa using q⟩
theorem fL {e : List aP} (h : (bH e).2.2 = 0) : e.length ≤ 48 ∧ 0 < e.length ∧ (bH e).1.length = e.length ∧ (∃ rs, fv (bH e).1 e.length rs ∧ rs.length ≤ 1) ∧
    ∀ j (hj : j < e.length), 0 ≤ bp e[j].1 ∧ ∃ rs, fv (bH e).1 j rs ∧ bp e[j].1 ≤ rs.length ∧ Push (bH e).1 j (bp e[j].1) rs := by
  unfold bH at h ⊢
  split at h
  · simp at h
  rename_i h1; split at h
  · simp at h
  rename_i h2
  rw [if_neg h1, if_neg h2]
  obtain ⟨a, _, c, d⟩ := pM e.length e 0 [] [] rfl rfl h
  exact ⟨by omega, by omega, by simpa using a, by simpa using c, by simpa using d⟩
def opd (starts : List Int) : Nat → Int → List Int
  | 0, _ => []
  | n + 1, t => opd starts n (starts[(t - 1).toNat]?.getD 0) ++ [t - 1]
theorem rS {starts : List Int} : ∀ (n : Nat) (t : Int), (opd starts n t).length = n
  | 0, _ => rfl
  | n + 1, t => by simp [opd, rS n]
def cV (e : List aP) (at_ : Int) : List Int :=
  if (bH e).2.2 ≠ 0 ∨ at_ < 0 ∨ e.length ≤ at_ then [] else opd (bH e).1 (bp (e[at_.toNat]?.getD (0, 0)).1).toNat at_
theorem vE {j : Nat} {suf : List Int} (x : Int) (h : 0 < j) : (List.replicate j 0 ++ suf).set (0 + (j - 1)) x = List.replicate (j - 1) 0 ++ x :: suf := by
  obtain ⟨i, rfl⟩ : ∃ i, j = i + 1 := ⟨j - 1, by omega⟩
  rw [Nat.zero_add, Nat.add_sub_cancel, List.replicate_succ', List.append_assoc, List.set_append_right _ _ (by simp)]; simp
theorem tB {starts suf full : List Int} {j : Nat} {t s : Int} (hj : 0 < j) (hs : starts[(t - 1).toNat]? = some s) (h : opd starts j t ++ suf = full) : opd starts (j - 1) s ++ (t - 1) :: suf = full := by
  obtain ⟨i, rfl⟩ : ∃ i, j = i + 1 := ⟨j - 1, by omega⟩
  rw [← h, opd, hs, Nat.add_sub_cancel, Option.getD_some, List.append_assoc]; rfl
theorem tA (e : List aP) (at_ : Int) : Ct prog 117 [.tv (ab bX) e, .raw (.int .i64 at_)] (.tv (ab (ak .i64)) (cV e at_)) := by
  refine ay func117 rfl rfl ntmps117 rfl rfl ?_
  intro w0 ok0
  refine eE 0 rfl (fun hl0 => ?_)
  refine zR (zY rfl (aa (zR (zM rfl (zJ (an (n4 e) (.cons (.b rfl) .nil) rfl rfl) (zM rfl (zJ (bj (.b rfl)) (zJ (bi (.b rfl)) (zA rfl (zY rfl (aa (ae (zR (zM rfl (zJ (bQ (.b rfl) (.b rfl)) (zM rfl (zG rfl rfl (fun hg => ag (.b rfl)) (zG rfl rfl (fun hg => dS (.gd rfl hg) (.b rfl)) (zJ (aB (.b rfl) (.b rfl) rfl zp) (zM rfl (zG rfl rfl (fun hg => ag (.b rfl)) (zG rfl rfl (fun hg => ag (.b rfl)) (zG rfl rfl (fun hg => cJ fB (.gd rfl hg)) (zG rfl rfl (fun hg => bW (.gd rfl hg) (.gd rfl hg)) (zJ (aB (.b rfl) (.b rfl) rfl zp) (zZ ?_))))))))))))))))))))))))))
  refine af rfl (fun h2 => ?_) (fun h2 => ?_)
  · try simp at h2
    refine zR (zY rfl (aa (am (ai ?_))))
    exact cv results117 (dl rfl) rfl (by unfold cV; rw [if_pos zo])
  try simp at h2
  refine ah (aa (ae ?_))
  obtain ⟨⟨h2a, h2b⟩, h2c⟩ : ((bH e).2.2 = 0 ∧ 0 ≤ at_) ∧ at_ < e.length := by first | exact h2 | omega
  obtain ⟨m, rfl⟩ : ∃ m : Nat, at_ = m := ⟨at_.toNat, by omega⟩
  obtain ⟨hl48, -, hlen, -, hops⟩ := fL h2a
  obtain ⟨har0, hrs⟩ := hops m zo
  obtain ⟨n, hn⟩ : ∃ n : Nat, bp (e[m]'zo).1 = n := ⟨_, (Int.toNat_of_nonneg har0).symm⟩
  have hn3 : n ≤ 3 := by have := (nT (e[m]'zo).1).2; omega
  have ctn : Ct prog 115 [.raw (.int .i64 (e[m]'zo).1)] (.raw (.int .i64 (n : Int))) := hn ▸ km _
  refine ac (zM rfl (zM rfl ?_))
  refine bc _ rfl _ rfl rfl (al fB cl (.b rfl) (.b rfl) rfl zg) ?_
  refine zB bU cb rfl (zD ty3 rfl (zJ (an ctn (.cons (.b rfl) .nil) rfl rfl) (zO (dL bd ty3 z3 rfl by3 (.b rfl) (.b rfl) zo (by unfold maxLen; omega) rfl rfl rfl) (zY rfl (aa (zR (zM rfl (zJ (da (.b rfl) (.b rfl) zw) (zY rfl (aa (ae (zR (zM rfl (zJ (ci bd (.b rfl)) (zJ (da (.b rfl) (.b rfl) zw) (zY rfl (aa (aq ?_))))))))))))))))))
  refine aZ (ι := (Nat × Int × List Int)) (fun (j, t, suf) => ⟨[(5, .tv (ab (ak .i64)) (bH e).1), (7, .own 33 1 0 n), (8, .raw (.int .i64 (t - 1))), (9, .raw (.int .i64 ((j : Int) - 1)))], [(33, ⟨ak .i64, List.replicate j 0 ++ suf⟩)]⟩) (fun (j, t, suf) => j + suf.length = n ∧ (∃ rs, fv (bH e).1 t rs ∧ (j : Int) ≤ rs.length) ∧ t ≤ e.length ∧ opd (bH e).1 j t ++ suf = opd (bH e).1 n m) (fun (j, t, suf) => j) (n, (m : Int), []) (by refine ⟨rfl, ?_, by omega, by simp⟩; obtain ⟨rs, q1, q2, q3⟩ := hrs; exact ⟨rs, q1, by rw [← hn]; exact q2⟩) (fun a w hi => (Sub.inv ⟨(by repeat (first | exact aQ | refine aM rfl (by first | rfl | (simp; done) | assumption) ?_)), (by repeat (first | exact bn | refine aL rfl (by simp) ?_))⟩ hi)) ?_
  rintro ⟨j, t, suf⟩ ⟨hjn, ⟨rs, hc, hr⟩, htl, hp⟩
  refine ae (zR (zM rfl (zJ (bW (.b rfl) (.b rfl)) (zZ ?_))))
  refine af rfl (fun h7 => ?_) (fun h7 => ?_)
  · try simp at h7
    refine ah (aa (ae (aq (ae ?_))))
    have hj0 : 0 < j := by omega
    obtain ⟨s, r, rfl⟩ : ∃ s r, rs = s :: r := by
      cases rs with
      | nil => simp at hr; omega
      | cons s r => exact ⟨s, r, rfl⟩
    obtain ⟨hc1, hc2, hc3, hc4⟩ := hc
    have hsv : (bH e).1[(t - 1).toNat]'zo = s := by
      rw [List.getElem?_eq_getElem zo] at hc3; exact Option.some.inj hc3
    refine ac (zM rfl (zM rfl (zM rfl (zJ (bu bd ty3 (.b rfl) (.b rfl) (show (j : Int) - 1 = ((j - 1 : Nat) : Int) by omega) zh) ?_))))
    refine eN _ rfl (bK ty3 (.b rfl) rfl zg (Lens.id _) (.raw (.b rfl) rfl)) ?_
    refine zZ (ac (zM rfl (zM rfl ?_)))
    refine bc _ rfl _ rfl rfl (al bd ty3 (.b rfl) (.b rfl) (Int.toNat_of_nonneg zo).symm zg) ?_
    refine zD ty3 rfl (zJ (da (.b rfl) (.b rfl) zw) (zY rfl (aG (aa (ac (zM rfl (zJ (da (.b rfl) (.b rfl) zw) (zY rfl ?_))))))))
    exact aD (fun a w hi => ⟨(j - 1, (bH e).1[(t - 1).toNat]'zo, (t - 1) :: suf), (by simp only []; omega), ⟨by simp; omega, ⟨r, by rw [hsv]; exact hc4, by simp at hr; omega⟩, by omega, tB hj0 (by rw [List.getElem?_eq_getElem zo]) hp⟩, Sub.inv ⟨(by repeat (first | exact aQ | refine aM rfl (by first | rfl | assumption | exact congrArg (fun z => SV.raw (.int .i64 z)) zo) ?_)), (by repeat (first | exact bn | refine aL rfl (by first | rfl | exact congrArg (HB.mk (ak .i64)) (vE _ zo)) ?_))⟩ hi⟩)
  try simp at h7
  refine bg (be (aY (bf (aa (ae (ac (zM rfl (zY rfl (aa (am ?_))))))))))
  refine cY 33 4 [] rfl rfl (by simp; omega) (fun j s h => by cases h) rfl ?_
  exact z1 results117 rfl (congrArg (SV.tv (ab (ak .i64))) (by have e0 : j = 0 := zo; subst e0; unfold cV; rw [if_neg zo]; simp only [Int.toNat_natCast, List.getElem?_eq_getElem (show m < e.length by omega), Option.getD_some, hn]; rw [← hp]; simp [opd] at hjn ⊢; rw [← hjn]; simp))
end Go.Proofs.YtehcaebnijlhgaaGreatDoor
