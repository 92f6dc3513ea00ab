import Derived.Test.YtehcaebnijlhgaaGreatDoorM3
import Derived.Test.YtehcaebnijlhgaaGreatDoorM15
import Derived.Test.YtehcaebnijlhgaaGreatDoorM9
import Derived.Test.YtehcaebnijlhgaaGreatDoorM4
import Derived.Test.YtehcaebnijlhgaaGreatDoorM10
set_option linter.unusedVariables false
set_option linter.unusedSimpArgs false
namespace Go.Proofs.YtehcaebnijlhgaaGreatDoor
open Go.Eng Tryz
set_option maxRecDepth 100000
set_option maxHeartbeats 4000000
theorem gp {G : List (List Int)} {i : Nat} (h : i < G.length) : ma G i = (G[i].length : Int) := by unfold ma; rw [List.getD_eq_getElem?_getD, List.getElem?_eq_getElem h]; rfl
theorem lG {a : List Int} {i : Nat} (h : i < a.length) : atv a i = a[i] := by unfold atv; rw [List.getD_eq_getElem?_getD, List.getElem?_eq_getElem h]; rfl
theorem Df {G : List (List Int)} {a : List Int} {k : Nat} (ha : k < a.length) (hg : k < G.length) (h : a[k] + 1 < (G[k].length : Int)) : fA G a (k + 1) = (a.set k (a[k] + 1), true) := by
  rw [fA, lG ha, gp hg, if_pos h]
theorem Dg {G : List (List Int)} {a : List Int} {k : Nat} (ha : k < a.length) (hg : k < G.length) (h : ¬ a[k] + 1 < (G[k].length : Int)) : fA G a (k + 1) = fA G (a.set k 0) k := by
  rw [fA, lG ha, gp hg, if_neg h]
theorem vT {l : List Int} {i : Nat} {v : Int} (h : ∀ x ∈ l, 0 ≤ x ∧ x ≤ 1000000) (hv : 0 ≤ v ∧ v ≤ 1000000) : ∀ x ∈ l.set i v, 0 ≤ x ∧ x ≤ 1000000 := fun x hx => by
  rcases List.mem_or_eq_of_mem_set hx with q | rfl
  · exact h x q
  exact hv
theorem adv_ok (a : List Int) (G : List (List Int)) (hl : a.length = G.length) (hb : ∀ x ∈ a, 0 ≤ x ∧ x ≤ 1000000) (hpos : 0 < a.length) : CtT prog 30 (ak .i64) a (fun ys => ys = (fA G a a.length).1) [.tv (ab (ab (ak .i64))) G] (.raw (.bool (fA G a a.length).2)) := by
  refine ry func30 rfl rfl rfl rfl rfl ?_
  intro w0 ok0 b0 o0 cap0 hmax
  unfold maxLen at hmax
  refine zR (zY rfl (aa (ae (zR (zM rfl (zJ (ci bd (.b1 rfl)) (zJ (da (.b rfl) (.b rfl) zw) (zY rfl (aa (aq ?_))))))))))
  refine aZ (ι := (List Int × Nat)) (fun (ys, k) => ⟨[(0, .both (.own 100 (ak .i64).n 0 a.length) (.slice (some ⟨b0, o0, none⟩) a.length cap0)), (1, .tv (ab (ab (ak .i64))) G), (5, .raw (.int .i64 ((k : Int) - 1)))], [(100, ⟨ak .i64, ys⟩)]⟩) (fun (ys, k) => (k ≤ a.length ∧ ys.length = a.length) ∧ fA G ys k = fA G a a.length ∧ ∀ x ∈ ys, 0 ≤ x ∧ x ≤ 1000000) (fun (ys, k) => k) (a, a.length) (⟨⟨Nat.le_refl _, rfl⟩, rfl, hb⟩) (fun a w hi => (zI hi)) ?_
  rintro ⟨ys, k⟩ ⟨⟨hk, hyl⟩, hinv, hyb⟩
  refine ae (zR (zM rfl (zJ (bW (.b rfl) (.b rfl)) (zZ ?_))))
  refine af rfl (fun h2 => ?_) (fun h2 => ?_)
  · have h2 : 0 < k := by simp at h2; omega
    have hyk := hyb (ys[k - 1]'zo) (List.getElem_mem _)
    have hgk : k - 1 < G.length := by omega
    refine ah (aa (ae (aq (zR (zM rfl (zM rfl (zJ (bu bd ty3 (.b1 rfl) (.b rfl) (show (k : Int) - 1 = ((k - 1 : Nat) : Int) by omega) zh) ?_)))))))
    refine bc _ rfl _ rfl rfl (aj ty3 (.b rfl) rfl (show ys[0 + (k - 1)]? = some (ys[k - 1]'zo) from by simp only [Nat.zero_add]; exact List.getElem?_eq_getElem _) (Lens.id _)) ?_
    refine zU rfl rfl zw (zJ (bu bd ty3 (.b1 rfl) (.b rfl) (show (k : Int) - 1 = ((k - 1 : Nat) : Int) by omega) zh) ?_)
    refine eN _ rfl (bK ty3 (.b rfl) rfl zg (Lens.id _) (.raw (.b rfl) rfl)) ?_
    refine zZ (ae (ae ?_))
    refine dN mo zk ( zS (ag (.b rfl)) ( zS (ag (.b rfl)) ( zS (bu bd ty3 (.b1 rfl) (.b rfl) (show (k : Int) - 1 = ((k - 1 : Nat) : Int) by omega) zh) ( zS (aj ty3 (.b rfl) rfl (show (ys.set (0 + (k - 1)) ((ys[k - 1]'zo) + 1))[0 + (k - 1)]? = some ((ys[k - 1]'zo) + 1) from by simp only [Nat.zero_add]; exact List.getElem?_set_self zo) (Lens.id _)) ( zS (ag (.b rfl)) ( zS (ag (.b rfl)) ( zS (al fw ek (.b rfl) (.b rfl) (show (k : Int) - 1 = ((k - 1 : Nat) : Int) by omega) zg) ( zS (aA ek (.b rfl)) ( zS (cJ bd (.b rfl)) ( zS (dS (.b rfl) (.b rfl)) ( AS.nil))))))))))) ?_
    refine aa ?_
    refine af rfl (fun h5 => ?_) (fun h5 => ?_)
    · have h5 : (ys[k - 1]'zo) + 1 < ((G[k - 1]'zo).length : Int) := by simpa using h5
      have hadv := Df (a := ys) (k := k - 1) (G := G) zo hgk h5
      rw [show k - 1 + 1 = k by omega, hinv] at hadv
      refine zR (zY rfl (aa (am (ai (av (ai (bL (av (ai ?_)))))))))
      exact mV (s0 := 0) results30 (aw rfl) rfl (by rw [hadv]) rfl rfl hpos (by rw [hadv]; simp)
    have h5 : ¬ (ys[k - 1]'zo) + 1 < ((G[k - 1]'zo).length : Int) := by simpa using h5
    have hnx : fA G (ys.set (k - 1) 0) (k - 1) = fA G a a.length := by
      rw [← hinv]; have q := Dg (a := ys) (k := k - 1) (G := G) zo hgk h5; rw [show k - 1 + 1 = k by omega] at q; exact q.symm
    refine ah (aa (ac (zM rfl (zM rfl (zJ (bu bd ty3 (.b1 rfl) (.b rfl) (show (k : Int) - 1 = ((k - 1 : Nat) : Int) by omega) zh) ?_)))))
    refine eN _ rfl (bK ty3 (.b rfl) rfl zg (Lens.id _) (.raw (.b rfl) rfl)) ?_
    refine aN (aG (aa (ac (zM rfl (zJ (da (.b rfl) (.b rfl) zw) (zY rfl ?_))))))
    exact aD (fun a w hi => ⟨(ys.set (k - 1) 0, k - 1), (by show k - 1 < k; omega), ⟨⟨by omega, by rw [List.length_set]; exact hyl⟩, hnx, vT hyb zo⟩, Sub.inv ⟨(by repeat (first | exact aQ | refine aM rfl (by first | rfl | (simp; done) | exact congrArg (fun z : Int => SV.raw (.int .i64 z)) zo) ?_)), (by repeat (first | exact bn | refine aL rfl (by first | rfl | exact congrArg (HB.mk (ak .i64)) (by simp)) ?_))⟩ hi⟩)
  have h2 : k = 0 := by simp at h2; omega
  subst h2
  refine bg (be (aY (bf (aa (ae (ac (zY rfl (aa (am ?_)))))))))
  exact mV (s0 := 0) results30 (aw rfl) rfl (by rw [← hinv]; rfl) rfl rfl hpos (by rw [← hinv]; rfl)
theorem CT  : Ct prog 30 [.tv (ab (ak .i64)) [], .tv (ab (ab (ak .i64))) []] (.raw (.bool false)) := by
  refine ay func30 rfl rfl ntmps30 rfl rfl ?_
  intro w0 ok0
  have hz : ([] : List Int).length = 0 := rfl
  refine zR (zY rfl (aa (ae (zR (zM rfl (zN bd rfl (zJ (da (.b rfl) (.b rfl) zw) (zY rfl (aa (aq ?_))))))))))
  refine aZ (ι := Nat) (fun k => ⟨[(0, .tv (ab (ak .i64)) []), (1, .tv (ab (ab (ak .i64))) []), (5, .raw (.int .i64 ((k : Int) - 1)))], []⟩) (fun k => k = 0) (fun k => k) 0 (rfl) (fun a w hi => (zI hi)) ?_
  rintro k hk
  refine ae (zR (zM rfl (zJ (bW (.b rfl) (.b rfl)) (zZ ?_))))
  refine af rfl (fun h2 => ?_) (fun h2 => ?_)
  · exfalso; subst hk; simp at h2
  skip
  refine bg (be (aY (bf (aa (ae (ac (zY rfl (aa (am ?_)))))))))
  exact z1 results30 rfl rfl
theorem CD (a : List Int) (G : List (List Int)) (hl : a.length = G.length) (hb : ∀ x ∈ a, 0 ≤ x ∧ x ≤ 1000000) (hpos : 0 < a.length) : CtT prog 39 (ak .i64) a (fun ys => ys = (fA G a a.length).1) [.tv (ab (ab (ak .i64))) G] (.raw (.bool (fA G a a.length).2)) := by
  refine ry func39 rfl rfl rfl rfl rfl ?_
  intro w0 ok0 b0 o0 cap0 hmax
  unfold maxLen at hmax
  refine zR (zY rfl (aa (ae (zR (zM rfl (zJ (ci bd (.b1 rfl)) (zJ (da (.b rfl) (.b rfl) zw) (zY rfl (aa (aq ?_))))))))))
  refine aZ (ι := (List Int × Nat)) (fun (ys, k) => ⟨[(0, .both (.own 100 (ak .i64).n 0 a.length) (.slice (some ⟨b0, o0, none⟩) a.length cap0)), (1, .tv (ab (ab (ak .i64))) G), (5, .raw (.int .i64 ((k : Int) - 1)))], [(100, ⟨ak .i64, ys⟩)]⟩) (fun (ys, k) => (k ≤ a.length ∧ ys.length = a.length) ∧ fA G ys k = fA G a a.length ∧ ∀ x ∈ ys, 0 ≤ x ∧ x ≤ 1000000) (fun (ys, k) => k) (a, a.length) (⟨⟨Nat.le_refl _, rfl⟩, rfl, hb⟩) (fun a w hi => (zI hi)) ?_
  rintro ⟨ys, k⟩ ⟨⟨hk, hyl⟩, hinv, hyb⟩
  refine ae (zR (zM rfl (zJ (bW (.b rfl) (.b rfl)) (zZ ?_))))
  refine af rfl (fun h2 => ?_) (fun h2 => ?_)
  · have h2 : 0 < k := by simp at h2; omega
    have hyk := hyb (ys[k - 1]'zo) (List.getElem_mem _)
    have hgk : k - 1 < G.length := by omega
    refine ah (aa (ae (aq (zR (zM rfl (zM rfl (zJ (bu bd ty3 (.b1 rfl) (.b rfl) (show (k : Int) - 1 = ((k - 1 : Nat) : Int) by omega) zh) ?_)))))))
    refine bc _ rfl _ rfl rfl (aj ty3 (.b rfl) rfl (show ys[0 + (k - 1)]? = some (ys[k - 1]'zo) from by simp only [Nat.zero_add]; exact List.getElem?_eq_getElem _) (Lens.id _)) ?_
    refine zU rfl rfl zw (zJ (bu bd ty3 (.b1 rfl) (.b rfl) (show (k : Int) - 1 = ((k - 1 : Nat) : Int) by omega) zh) ?_)
    refine eN _ rfl (bK ty3 (.b rfl) rfl zg (Lens.id _) (.raw (.b rfl) rfl)) ?_
    refine zZ (ae (ae ?_))
    refine dN mo zk ( zS (ag (.b rfl)) ( zS (ag (.b rfl)) ( zS (bu bd ty3 (.b1 rfl) (.b rfl) (show (k : Int) - 1 = ((k - 1 : Nat) : Int) by omega) zh) ( zS (aj ty3 (.b rfl) rfl (show (ys.set (0 + (k - 1)) ((ys[k - 1]'zo) + 1))[0 + (k - 1)]? = some ((ys[k - 1]'zo) + 1) from by simp only [Nat.zero_add]; exact List.getElem?_set_self zo) (Lens.id _)) ( zS (ag (.b rfl)) ( zS (ag (.b rfl)) ( zS (al fw ek (.b rfl) (.b rfl) (show (k : Int) - 1 = ((k - 1 : Nat) : Int) by omega) zg) ( zS (aA ek (.b rfl)) ( zS (cJ bd (.b rfl)) ( zS (dS (.b rfl) (.b rfl)) ( AS.nil))))))))))) ?_
    refine aa ?_
    refine af rfl (fun h5 => ?_) (fun h5 => ?_)
    · have h5 : (ys[k - 1]'zo) + 1 < ((G[k - 1]'zo).length : Int) := by simpa using h5
      have hadv := Df (a := ys) (k := k - 1) (G := G) zo hgk h5
      rw [show k - 1 + 1 = k by omega, hinv] at hadv
      refine zR (zY rfl (aa (am (ai (av (ai (bL (av (ai ?_)))))))))
      exact mV (s0 := 0) results39 (aw rfl) rfl (by rw [hadv]) rfl rfl hpos (by rw [hadv]; simp)
    have h5 : ¬ (ys[k - 1]'zo) + 1 < ((G[k - 1]'zo).length : Int) := by simpa using h5
    have hnx : fA G (ys.set (k - 1) 0) (k - 1) = fA G a a.length := by
      rw [← hinv]; have q := Dg (a := ys) (k := k - 1) (G := G) zo hgk h5; rw [show k - 1 + 1 = k by omega] at q; exact q.symm
    refine ah (aa (ac (zM rfl (zM rfl (zJ (bu bd ty3 (.b1 rfl) (.b rfl) (show (k : Int) - 1 = ((k - 1 : Nat) : Int) by omega) zh) ?_)))))
    refine eN _ rfl (bK ty3 (.b rfl) rfl zg (Lens.id _) (.raw (.b rfl) rfl)) ?_
    refine aN (aG (aa (ac (zM rfl (zJ (da (.b rfl) (.b rfl) zw) (zY rfl ?_))))))
    exact aD (fun a w hi => ⟨(ys.set (k - 1) 0, k - 1), (by show k - 1 < k; omega), ⟨⟨by omega, by rw [List.length_set]; exact hyl⟩, hnx, vT hyb zo⟩, Sub.inv ⟨(by repeat (first | exact aQ | refine aM rfl (by first | rfl | (simp; done) | exact congrArg (fun z : Int => SV.raw (.int .i64 z)) zo) ?_)), (by repeat (first | exact bn | refine aL rfl (by first | rfl | exact congrArg (HB.mk (ak .i64)) (by simp)) ?_))⟩ hi⟩)
  have h2 : k = 0 := by simp at h2; omega
  subst h2
  refine bg (be (aY (bf (aa (ae (ac (zY rfl (aa (am ?_)))))))))
  exact mV (s0 := 0) results39 (aw rfl) rfl (by rw [← hinv]; rfl) rfl rfl hpos (by rw [← hinv]; rfl)
theorem Ba  : Ct prog 39 [.tv (ab (ak .i64)) [], .tv (ab (ab (ak .i64))) []] (.raw (.bool false)) := by
  refine ay func39 rfl rfl ntmps39 rfl rfl ?_
  intro w0 ok0
  have hz : ([] : List Int).length = 0 := rfl
  refine zR (zY rfl (aa (ae (zR (zM rfl (zN bd rfl (zJ (da (.b rfl) (.b rfl) zw) (zY rfl (aa (aq ?_))))))))))
  refine aZ (ι := Nat) (fun k => ⟨[(0, .tv (ab (ak .i64)) []), (1, .tv (ab (ab (ak .i64))) []), (5, .raw (.int .i64 ((k : Int) - 1)))], []⟩) (fun k => k = 0) (fun k => k) 0 (rfl) (fun a w hi => (zI hi)) ?_
  rintro k hk
  refine ae (zR (zM rfl (zJ (bW (.b rfl) (.b rfl)) (zZ ?_))))
  refine af rfl (fun h2 => ?_) (fun h2 => ?_)
  · exfalso; subst hk; simp at h2
  skip
  refine bg (be (aY (bf (aa (ae (ac (zY rfl (aa (am ?_)))))))))
  exact z1 results39 rfl rfl
open C15 C23
def nI (l : List Nat) : List Int := l.map (fun i : Nat => (i : Int))
theorem oN {l : List Nat} {k : Nat} (h : k < l.length) {h' : k < (nI l).length} : (nI l)[k]' h' = ((l[k] : Nat) : Int) := by simp only [nI, List.getElem_map]
theorem cr (l : List Nat) : (nI l).length = l.length := by unfold nI; simp
def vd (e : List aP) (x : List bh) : bh := evV e x e.length ((e.length : Int) - 1)
def qO (e : List aP) (x : List bh) : Bool := decide (e.length = 0) || decide ((vd e x).2.2 = 1)
def GOK (sg : a6) (x : List bh) (e : List aP) : Prop := 0 < e.length → (∃ ty, Flat e sg ty x) ∧ (bH e).2.2 = 0 ∧ e.length ≤ 100
def apF (rs : List bB) (ix : List Nat) (x : List bh) : List Bool := ix.map (fun i => qO (grd rs i) x)
def apK (rs : List bB) (ix : List Nat) (x : List bh) (k : Nat) : List Bool := (ix.take k).map (fun i => qO (grd rs i) x) ++ List.replicate (ix.length - k) false
theorem Br {rs : List bB} {ix : List Nat} {x : List bh} {k : Nat} (h : k < ix.length) : (apK rs ix x k).set k (qO (grd rs ix[k]) x) = apK rs ix x (k + 1) := by
  have hl : ((ix.take k).map (fun i => qO (grd rs i) x)).length = k := by simp; omega
  have := setk ((ix.take k).map (fun i => qO (grd rs i) x)) false (qO (grd rs ix[k]) x) (ix.length - k) zo
  rw [hl] at this
  unfold apK
  rw [this, List.take_succ_eq_append_getElem h, List.map_append, show ix.length - (k + 1) = ix.length - k - 1 by omega]; rfl
theorem sQ {rs : List bB} {ix : List Nat} {x : List bh} {k : Nat} (h : k ≤ ix.length) : (apK rs ix x k).length = ix.length := by unfold apK; simp; omega
theorem gF (rs : List bB) (ix : List Nat) (x : List bh) : apK rs ix x 0 = List.replicate ix.length false := by unfold apK; simp
theorem Bs (rs : List bB) (ix : List Nat) (x : List bh) : apK rs ix x ix.length = apF rs ix x := by unfold apK apF; simp
theorem qD {e : List aP} {x : List bh} (h : e.length = 0) : qO e x = true := by unfold qO; simp [h]
theorem qC {e : List aP} {x : List bh} (h : ¬ e.length = 0) : qO e x = ((vd e x).2.2 == 1) := by unfold qO; rw [decide_eq_false h, Bool.false_or]; rfl
theorem AI (l : cA) (s : ba) (date : Int) (x : List bh) (sg : a6) (ix : List Nat) (hin : ∀ i ∈ ix, i < s.2.2.2.2.length) (hG : ∀ i ∈ ix, GOK sg x (grd s.2.2.2.2 i)) (hil : ix.length ≤ 1000) : Ct prog 32 [.tv cz l, .tv bx s, .tv (ab (ak .i64)) (nI ix), .raw (.int .i64 date), .tv (ab aS) x] (.tv (ab bP) (apF s.2.2.2.2 ix x)) := by
  refine ay func32 rfl rfl ntmps32 rfl rfl ?_
  intro w0 ok0
  have hnl0 := cr ix
  refine zR (zb (.tv (.b rfl)) (zb (.tv (.b rfl)) (zY rfl (aa (zR (zM rfl (zN bd rfl (zO (dL fq ty4 z4 rfl by4 (.b rfl) (.b rfl) zo (by unfold maxLen; omega) rfl rfl rfl) (zY rfl (aa (zR (zM rfl (zM rfl (zF fo rfl (zL jl rfl rfl rfl gN (zJ (aI sV rfl vP (.cons (rt' := (ak .i64)) rfl pn (.raw (.b rfl) rfl) (.cons (rt' := (ab aS)) rfl lR (.tv (.b rfl)) (.cons (rt' := (ab ch)) rfl r6 (.tv (.b rfl)) .nil)))) (zl sV (zC hZ rfl rfl rfl (Lens.id _) (.tv (.b rfl)) (zZ (ae (zR (zM rfl (zN bd rfl (zM rfl (zZ (aq ?_))))))))))))))))))))))))))
  refine aZ (ι := Nat) (fun k => ⟨[(6, .optr 6 bx.n 0 0), (11, .own 19 bP.n 0 (nI ix).length), (12, .optr 12 fC.n 0 0), (25, .tv (ab (ak .i64)) (nI ix)), (26, .raw (.int .i64 ((nI ix).length))), (27, .raw (.int .i64 ((k : Nat))))], [(6, ⟨bx, [s]⟩), (12, ⟨fC, [(date, x, [], [], [], l.2.1)]⟩), (19, ⟨bP, (apK s.2.2.2.2 ix x k)⟩)]⟩) (fun k => k ≤ ix.length) (fun k => ix.length - k) 0 (Nat.zero_le _) (fun a w hi => (Sub.inv ⟨(by repeat (first | exact aQ | refine aM rfl (by first | rfl | (simp; done)) ?_)), (by repeat (first | exact bn | refine aL rfl (by first | rfl | (exact congrArg (HB.mk bP) (gF _ _ _).symm) | (exact congrArg (HB.mk bP) ((gF _ _ _).trans (congrArg (fun n => List.replicate n false) (cr ix).symm))) | (exact congrArg (HB.mk bP) ((gF _ _ _).trans (congrArg (fun n => List.replicate n false) (cr ix).symm)).symm) | (rw [gF, ← cr]; done) | (rw [gF, cr]; done) | (simp [gF, cr]; done)) ?_))⟩ hi)) ?_
  rintro k hk
  have hal := sQ (rs := s.2.2.2.2) (x := x) hk
  have hnl := cr ix
  refine zR (zt rfl rfl (zZ (ae ?_)))
  refine af rfl (fun h4 => ?_) (fun h4 => ?_)
  · have h3 : k < ix.length := by simp only [cr, decide_eq_true_eq, decide_eq_false_iff_not] at h4; omega
    have hat := oN h3 (h' := by rw [cr]; exact h3)
    have hir := hin _ (List.getElem_mem h3)
    have hgr := kJ hir
    have hap := Br (rs := s.2.2.2.2) (x := x) h3
    refine ah (aa (ae (aq (zR (zM rfl ?_)))))
    refine bc _ rfl _ rfl rfl (al bd ty3 (.b rfl) (.b rfl) rfl zg) ?_
    refine zD ty3 rfl (zA rfl (zY rfl (aa (ae (zR (zF dw rfl (zL jh rfl rfl rfl dT (zM rfl ?_))))))))
    refine bc _ rfl _ rfl rfl (al ga dp (.b rfl) (.b rfl) hat zg) ?_
    refine zB eQ fG rfl (zD hP rfl (zN fB rfl (ze rfl rfl (zZ ?_))))
    refine af rfl (fun h6 => ?_) (fun h6 => ?_)
    · have hz : (grd s.2.2.2.2 ix[k]).length = 0 := by rw [hgr]; have := eq_of_beq h6; omega
      have hs := hap
      rw [qD hz] at hs
      refine zR (zM rfl (zM rfl (zJ (bu fq ty4 (.b rfl) (.b rfl) rfl zh) ?_)))
      refine eN _ rfl (bK ty4 (.b rfl) rfl zg (Lens.id _) (.raw (.b rfl) rfl)) ?_
      refine zZ (bg (be (bf (aa (ac (zU rfl rfl zw (zM rfl (aN ?_))))))))
      exact aD (fun a w hi => ⟨k + 1, zo, zo, zW hi⟩)
    have hz : ¬ (grd s.2.2.2.2 ix[k]).length = 0 := by rw [hgr]; have := beq_eq_false_iff_ne.1 h6; omega
    obtain ⟨⟨ty, hF⟩, hst, h100⟩ := hG _ (List.getElem_mem h3) zo
    rw [qC hz, hgr] at hap
    rw [hgr] at hF hst h100
    have hs := hap
    refine ah (aa (ae ?_))
    refine bZ mo zk ( zE [6] (ao dw (.b rfl)) ( zE [6] (aj jh (.b rfl) rfl rfl dT) ( zE [] (ag (.b rfl)) ( zE [] (al ga dp (.b rfl) (.b rfl) hat zg) ( zE [] (aO eQ fG (.b rfl)) ( zE [] (aA hP (.b rfl)) ( zE [12] (aj hZ (.b rfl) rfl rfl (Lens.id _)) ( zE [] (an (sB _ sg ty _ hF hst h100) (.cons (.b rfl) (.cons (.b rfl) .nil)) rfl rfl) ( zE [] (ag (.b rfl)) ( zE [] (bj (.b rfl)) ( zE [] (bi (.b rfl)) ( AE.cons _ _ _ rfl (d9 _ z183 rfl) ( AE.cons _ _ _ rfl (bF bI (.b rfl) rfl rfl (Lens.id _) (.tv (.b rfl))) ( zE [] (aU (.b rfl)) ( AE.nil))))))))))))))) zk ?_
    refine aa (ac (zM rfl (zM rfl (zM rfl (ze rfl rfl (zM rfl (zG rfl rfl (fun hg => ao cw (.b rfl)) (zG rfl rfl (fun hg => aj ty3 (.gd rfl hg) rfl rfl cp) (zG rfl rfl (fun hg => ca (.gd rfl hg) (.b rfl)) (zJ (aF (.b rfl) (.b rfl) rfl zp) (zJ (bu fq ty4 (.b rfl) (.b rfl) rfl zh) ?_)))))))))))
    refine eN _ rfl (bK ty4 (.b rfl) rfl zg (Lens.id _) (.raw (.b rfl) rfl)) ?_
    refine aN (aG (aa (ac (zU rfl rfl zw (zM rfl (aN ?_))))))
    exact aD (fun a w hi => ⟨k + 1, zo, zo, zW hi⟩)
  have h3 : k = ix.length := by simp only [cr, decide_eq_true_eq, decide_eq_false_iff_not] at h4; omega
  subst h3
  refine bg (be (aY (bf (aa (ae (ac (zM rfl (zY rfl (aa (am ?_))))))))))
  refine cY (rt := bP) 19 10 (b8 19 _) rfl rfl zo (bl 19 _) (bC 19 _) ?_
  exact z1 results32 rfl (congrArg (SV.tv (ab bP)) (by rw [List.drop_zero, List.take_of_length_le zo, Bs]))
end Go.Proofs.YtehcaebnijlhgaaGreatDoor
namespace Go.Eng
section
variable {P : Program} {cx : Cx} {st st' : St} {β : Loc} {a : Act} {w w' : World} {ops : Array Oper} {k : Kn} {c : Code}
variable {dst : Option Tmp} {ty : TypeId} {pos : String} {aft : Array Edge} {gd : Option (Nat × Bool)}
variable {α γ δ : Type}
theorem yY {kf : FuncId} {as' : List SV} {v : Value} {xs : List Operand} {ts : Array TypeId} {d : Nat} (h : Ct P kf as' (.raw v)) (st2 : St) (hsl : ∀ a w, Inv cx st a w → Inv cx st2 a w) (ha : Args st2 xs as') (hp : (as'.all SV.plain) = true) (hd : Nat.blt d cx.n = true) :
    OS P cx ⟨some d, .call { callee := .value (.func kf), args := xs.toArray, argTypes := ts }, ty, pos, aft, gd⟩ st (st.put d (.raw v)) := by
  intro a w hi Q
  obtain ⟨β2, hi2⟩ := hsl a w hi
  obtain ⟨β, hi⟩ := hi
  have hargs := ha.holds (cx := cx) (β := β2) (a := a) (w := w) (st' := st2) (fun x hx => rfl) hi2 hp
  have hrun : (execOp a.eval ⟨some d, .call { callee := .value (.func kf), args := xs.toArray, argTypes := ts }, ty, pos, aft, gd⟩).run P w = .ok (.enter kf (xs.map a.eval).toArray) w := by
    simp [execOp, resolve, Act.eval, Deferred.ofValue, invoke, h.ent]
  unfold Oper.wp
  rw [hrun, Oper.upon_enter]
  refine (h.calls w (bM cx st2.heap β2 w) _ (fun b hb => hb.2.1) hargs).mono ?_
  rintro e w' ⟨v', rfl, hb, hv⟩
  have hb := hb.plain (fun _ h => h)
  have hl := hi.later hb
  exact ⟨β, hl.put (by simpa using hd) hv⟩
theorem rc {kf : FuncId} {as' : List SV} {rt : RT α} [NM rt] {ys : List α} {xs : List Operand} {ts : Array TypeId} {d : Nat} (h : CtO P kf as' rt ys) (hfl : ∀ (w : World) (ok ok' : Ok) (cs : List Value) (x : α), rt.rep w ok cs x → rt.rep w ok' cs x) (st2 : St) (hsl : ∀ a w, Inv cx st a w → Inv cx st2 a w) (ha : Args st2 xs as') (hp : (as'.all SV.plain) = true) (hd : Nat.blt d cx.n = true) (hf : di d st.slots = true) (hn : az st.heap d = none) :
    OS P cx ⟨some d, .call { callee := .value (.func kf), args := xs.toArray, argTypes := ts }, ty, pos, aft, gd⟩ st ⟨(d, .own d rt.n 0 ys.length) :: st.slots, (d, ⟨rt, ys⟩) :: st.heap⟩ := by
  intro a w hi Q
  obtain ⟨β2, hi2⟩ := hsl a w hi
  obtain ⟨β, hi⟩ := hi
  have hargs := ha.holds (cx := cx) (β := β2) (a := a) (w := w) (st' := st2) (fun x hx => rfl) hi2 hp
  have hrun : (execOp a.eval ⟨some d, .call { callee := .value (.func kf), args := xs.toArray, argTypes := ts }, ty, pos, aft, gd⟩).run P w = .ok (.enter kf (xs.map a.eval).toArray) w := by
    simp [execOp, resolve, Act.eval, Deferred.ofValue, invoke, h.ent]
  unfold Oper.wp
  rw [hrun, Oper.upon_enter]
  refine (h.calls w (bM cx st2.heap β2 w) _ (fun b hb => hb.2.1) hargs).mono ?_
  rintro e w' ⟨v', rfl, hb, hv⟩
  refine Au hi (by simpa using hd) hf hn (hb.plain (fun _ h => h)) ?_
  rcases hv with hv | ⟨A, b, o, cap, cur, e, g1, g2, g3, g4, g5, g6, g7, g8⟩
  · exact .inl hv
  refine .inr ⟨A, b, o, cap, cur, e, g1, g2, g3, g4, g5, g6, g7, fun i x hx => ?_⟩
  obtain ⟨cs, q1, q2⟩ := g8 i x hx
  exact ⟨cs, hfl _ _ _ _ _ q1, q2⟩
theorem cI {x : Operand} {rt : RT α} {d : α} (hx : Ev st x (.eptr rt d)) : Adr P cx st ⟨dst, .nilCheck x, ty, pos, aft, gd⟩ (.eptr rt d) :=
  bD fun st' hag β a w hi => by
    have h1 := hi.ev (hag.ev (by simp [Op.operands]) hx)
    obtain ⟨b, o, cs, h2, _⟩ := id h1
    exact ⟨a.eval x, by simp [execOp, h2, cU], h1⟩
theorem dm {x : Operand} {nm sz i f : Nat} (hx : Ev st x (.optr nm sz i f)) : Adr P cx st ⟨dst, .nilCheck x, ty, pos, aft, gd⟩ (.optr nm sz i f) :=
  bD fun st' hag β a w hi => by
    have h1 := hi.ev (hag.ev (by simp [Op.operands]) hx)
    obtain ⟨b, o, _, h2⟩ := id h1
    exact ⟨a.eval x, by simp [execOp, h2, cU], h1⟩
theorem rj {c0 j : Nat} {s s' t : SV} {u : Value} (hc : a8 st.slots c0 = some (.lnk s u t)) (hj : a8 st.slots j = some s') (hi : Inv cx st a w) : Inv cx ⟨(j, .lnk s' u t) :: st.slots, st.heap⟩ a w := by
  obtain ⟨β, hb⟩ := hi
  obtain ⟨_, _, _, ht⟩ := hb.slots c0 _ hc
  exact ⟨β, hb.turnS (s' := .lnk s' u t) hj fun v hv => ⟨hv, ht⟩⟩
theorem Cd (c0 j : Nat) {s s' t : SV} {u : Value} (hc : a8 st.slots c0 = some (.lnk s u t)) (hj : a8 st.slots j = some s') (h : J P cx ⟨(j, .lnk s' u t) :: st.slots, st.heap⟩ c k) : J P cx st c k := fun a w hi => h a w (rj hc hj hi)
theorem tN (c0 j : Nat) {s s' t : SV} {u : Value} {l : List Oper} (hc : a8 st.slots c0 = some (.lnk s u t)) (hj : a8 st.slots j = some s') (h : JG P cx ops ⟨(j, .lnk s' u t) :: st.slots, st.heap⟩ l k) : JG P cx ops st l k := fun a w hi => h a w (rj hc hj hi)
theorem Ag (j : Nat) {s t : SV} {u : Value} (hj : a8 st.slots j = some (.lnk s u t)) (h : J P cx ⟨(j, s) :: st.slots, st.heap⟩ c k) : J P cx st c k := fun a w ⟨β, hb⟩ => h a w ⟨β, hb.turnS (s' := s) hj fun _ hv => hv.1⟩
theorem mr {nm off n : Nat} {u : Value} {rt : RT α} [NM rt] {x ix : Operand} {t e : TypeId} {k : IntKind} {i : Int} {j : Nat} (ht : P.underlying t = some (.slice e)) (he : Ty P e rt)
    (hx : Ev st x (.raw u)) (hi' : evS st ix = some (.lnk (.raw (.int k i)) u (.own nm rt.n off n))) (hij : i = (j : Int)) (hj : j < n) : Adr P cx st ⟨dst, .indexAddr t x ix, ty, pos, aft, gd⟩ (.optr nm rt.n (off + j) 0) :=
  bD fun st' hag β a w hi => by
    have h0 : a.eval x = u := hi.raw (hag.ev (by simp [Op.operands]) hx)
    have hE : Ev st ix (.lnk (.raw (.int k i)) u (.own nm rt.n off n)) := .base hi'
    have h5 := hi.ev (hag.ev (by simp [Op.operands]) hE)
    obtain ⟨h5, h1⟩ := h5
    have h5 : a.eval ix = .int k i := h5
    obtain ⟨_, i0, hi0, hs⟩ := he
    simp only [SV.holds, hdr] at h1
    cases hb : β nm with
    | none => rw [hb] at h1; simp only at h1; omega
    | some y =>
      obtain ⟨b, o⟩ := y
      rw [hb] at h1
      obtain ⟨A, cap, h2, h3, h4, h6⟩ := h1
      rcases h6 with h6 | ⟨h6, _⟩
      · omega
      subst h6
      have hb2 : (0 : Int) ≤ i ∧ i < (n : Int) := by omega
      have hj : i.toNat = j := by omega
      refine ⟨.pointer (some ⟨b, o + off * rt.n + j * rt.n, none⟩), by simp [execOp, h0, h2, h5, Instr.indexAt, asIntOf, run_underlying ht, hb2, dM hi0, hs, hj, Addr.add_lit], b, o, hb, ?_⟩
      simp [Nat.add_mul, Nat.add_assoc]
theorem yZ {kf : FuncId} {v : Value} {x1 x2 : Operand} {ts : Array TypeId} {nm n : Nat} {kk : IntKind} {i : Int} {u : Value} {rt : RT α} [NM rt] {ys : List α} {r1 : RT γ} {d1 : γ} {r2 : RT δ} {d2 : δ} (h : Ct P kf [.tv r2 d2, .raw (.int kk i)] (.raw v))
    (h1 : Ev st x1 (.tv r1 d1)) (h2 : evS st x2 = some (.lnk (.raw (.int kk i)) u (.own nm rt.n 0 n))) (hn : az st.heap nm = some ⟨rt, ys⟩) (hnl : n = ys.length) (hc : oS rt ys u r1 d1 r2 d2) :
    Adr P cx st ⟨dst, .call { callee := .value (.func kf), args := #[x1, x2], argTypes := ts }, ty, pos, aft, gd⟩ (.raw v) := by
  intro st' hag d hd hdn a w ⟨β, hi⟩ Q
  subst hnl
  have hE : Ev st x2 (.lnk (.raw (.int kk i)) u (.own nm rt.n 0 ys.length)) := .base h2
  have hn' : az st'.heap nm = some ⟨rt, ys⟩ := by rw [hag.heap x2 (by simp [Op.operands, Call.operands]) _ nm h2 (by simp [SV.free])]; exact hn
  have e1 := hi.ev (hag.ev (by simp [Op.operands, Call.operands]) h1)
  obtain ⟨e2, e3⟩ := hi.ev (hag.ev (by simp [Op.operands, Call.operands]) hE)
  -- the row is left out of the heap
  have hsub : ∀ j s, az (b8 nm st'.heap) j = some s → az st'.heap j = some s := bl nm _
  have hno : az (b8 nm st'.heap) nm = none := bC nm _
  have hok : ∀ b, bM cx st'.heap β w b → bM cx (b8 nm st'.heap) β w b := fun b ⟨g1, g2, g3⟩ => ⟨g1, g2, fun k h hk => g3 k h (hsub _ _ hk)⟩
  have hsl : (ab rt).val w (bM cx (b8 nm st'.heap) β w) u ys := by
    have := eJ hi hn' e3 (by omega) hok (fun b o hbo => by
      have := hi.own nm _ hn' _ hbo
      exact ⟨.inr this.1, this.2, fun k h hk x hx e1 => by
        have : k = nm := hi.sep k nm _ _ (hsub _ _ hk) hn' x (b, o) hx hbo e1
        subst this
        rw [hno] at hk; cases hk⟩)
    simpa using this
  have e1' : (SV.tv r1 d1).holds β w (bM cx (b8 nm st'.heap) β w) (a.eval x1) := SV.keep (fun b hb => ⟨hok b hb, rfl⟩) (fun k _ => ⟨rfl, fun b o _ cur e fr hc => ⟨cur, e, fr, hc, rfl⟩⟩) e1
  have hargs : eg w (bM cx (b8 nm st'.heap) β w) [SV.tv r2 d2, .raw (.int kk i)] ([x1, x2].map a.eval) := by
    refine ⟨_, _, rfl, ?_, _, _, rfl, e2, rfl⟩
    obtain ⟨cs, h5, h6⟩ := e1'
    exact ⟨cs, hc.2 _ _ _ hsl h5, by rw [h6, hc.1]⟩
  have hrun : (execOp a.eval ⟨dst, .call { callee := .value (.func kf), args := #[x1, x2], argTypes := ts }, ty, pos, aft, gd⟩).run P w = .ok (.enter kf ([x1, x2].map a.eval).toArray) w := by
    simp [execOp, resolve, Act.eval, Deferred.ofValue, invoke, h.ent]
  unfold Oper.wp
  rw [hrun, Oper.upon_enter]
  refine (h.calls w (bM cx (b8 nm st'.heap) β w) _ (fun b hb => hb.2.1) hargs).mono ?_
  rintro e w' ⟨v', rfl, hb, hv⟩
  have hb := hb.plain (fun _ h => h)
  subst hd
  have hl := hi.later hb
  exact ⟨β, hl.put hdn hv⟩
end
end Go.Eng
namespace Go.Proofs.YtehcaebnijlhgaaGreatDoor
open Go.Eng Tryz
set_option maxRecDepth 100000
set_option maxHeartbeats 4000000
def gi (l : List Int) (i : Int) : Int := l[i.toNat]?.getD 0
def gb (l : List Bool) (i : Int) : Bool := l[i.toNat]?.getD false
def rtE (par pri : List Int) (i : Nat) : Int := if gi par i < -1 ∨ (i : Int) ≤ gi par i then 9 else if gi pri i < 0 ∨ 9 < gi pri i then 3 else 0
def rtF (par pri : List Int) : Nat → Int
  | 0 => 0
  | k + 1 => if rtF par pri k ≠ 0 then rtF par pri k else rtE par pri k
def rtV (par pri : List Int) : Int := if par.length ≠ pri.length then 2 else if 8 < par.length then 4 else rtF par pri par.length
theorem rtF_up {par pri : List Int} {k : Nat} (h : rtF par pri k ≠ 0) : ∀ m, k ≤ m → rtF par pri m = rtF par pri k := fun m hm => by
  induction m with
  | zero => obtain rfl : k = 0 := by omega
            rfl
  | succ m ih =>
    by_cases e : k = m + 1
    · subst e; rfl
    rw [rtF, ih zo, if_pos h]
theorem vH {par pri : List Int} {k m : Nat} (h0 : rtF par pri k = 0) (h : rtE par pri k ≠ 0) (hm : k < m) : rtF par pri m = rtE par pri k := by
  have e : rtF par pri (k + 1) = rtE par pri k := by rw [rtF, if_neg (by rw [h0]; simp)]
  rw [rtF_up (k := k + 1) (by rw [e]; exact h) m zo, e]
theorem rtF_ok {par pri : List Int} {k : Nat} (h0 : rtF par pri k = 0) (h : rtE par pri k = 0) : rtF par pri (k + 1) = 0 := by rw [rtF, if_neg (by rw [h0]; simp), h]
theorem C4 {par pri : List Int} : ∀ {k : Nat}, rtF par pri k = 0 → ∀ i, i < k → rtE par pri i = 0
  | 0, _, i, hi => by omega
  | k + 1, h, i, hi => by
    rw [rtF] at h
    split at h
    · rename_i c; exact absurd h c
    rename_i c
    by_cases e : i = k
    · subst e; exact h
    exact C4 (by simpa using c) i zo
theorem jc {l : List Int} {k : Nat} (h : k < l.length) : gi l (k : Int) = l[k] := by unfold gi; rw [Int.toNat_natCast, List.getElem?_eq_getElem h]; rfl
def chI (par : List Int) (v : Int) (k : Nat) : List Int := ((List.range k).filter (fun i : Nat => decide (gi par (i : Int) = v))).map (fun i : Nat => (i : Int))
theorem chI_t {par : List Int} {v : Int} {k : Nat} (h : gi par k = v) : chI par v (k + 1) = chI par v k ++ [(k : Int)] := by
  unfold chI; rw [List.range_succ, List.filter_append, List.map_append]; simp [h]
theorem chI_f {par : List Int} {v : Int} {k : Nat} (h : ¬ gi par k = v) : chI par v (k + 1) = chI par v k := by
  unfold chI; rw [List.range_succ, List.filter_append, List.map_append]; simp [h]
theorem wN (par : List Int) (v : Int) (k : Nat) : (chI par v k).length ≤ k := by
  unfold chI; rw [List.length_map]; exact Nat.le_trans (List.length_filter_le _ _) (by simp)
theorem sJ {par : List Int} {v : Int} {k : Nat} {x : Int} (h : x ∈ chI par v k) : 0 ≤ x ∧ x < k ∧ gi par x = v := by
  unfold chI at h; rw [List.mem_map] at h
  obtain ⟨i, hi, rfl⟩ := h
  rw [List.mem_filter, List.mem_range] at hi
  exact ⟨by omega, by omega, by simpa using hi.2⟩
def stp (pri oc : List Int) (out : List Int) (i : Int) : List Int :=
  if gi oc i = -1 then out else if 0 < out.length ∧ gi pri (gi out 0) < gi pri i then [i] else if out.length = 0 ∨ gi pri i = gi pri (gi out 0) then out ++ [i] else out
def bsF (pri oc l : List Int) : List Int := l.foldl (stp pri oc) []
theorem Bn {pri oc l : List Int} {k : Nat} (h : k < l.length) : bsF pri oc (l.take (k + 1)) = stp pri oc (bsF pri oc (l.take k)) l[k] := by
  unfold bsF; rw [List.take_succ_eq_append_getElem h, List.foldl_append]; rfl
theorem BP {pri oc out : List Int} {i : Int} {x : Int} (h : x ∈ stp pri oc out i) : x ∈ out ∨ x = i := by
  unfold stp at h
  split at h
  · exact .inl h
  split at h
  · exact .inr (by simpa using h)
  split at h
  · rw [List.mem_append, List.mem_singleton] at h; exact h
  exact .inl h
theorem sK {pri oc l : List Int} : ∀ k, k ≤ l.length → ∀ x ∈ bsF pri oc (l.take k), x ∈ l.take k
  | 0, _, x, hx => by simp [bsF] at hx
  | k + 1, hk, x, hx => by
    rw [Bn zo] at hx
    rw [List.take_succ_eq_append_getElem zo, List.mem_append, List.mem_singleton]
    rcases BP hx with h | h
    · exact .inl (sK k zo x h)
    exact .inr h
theorem wQ {pri oc l : List Int} : ∀ k, k ≤ l.length → (bsF pri oc (l.take k)).length ≤ k
  | 0, _ => by simp [bsF]
  | k + 1, hk => by
    have := wQ (pri := pri) (oc := oc) (l := l) k zo
    rw [Bn zo, stp]
    (repeat' split) <;> simp <;> omega
def bst (par pri oc : List Int) (v : Int) : List Int := bsF pri oc (chI par v par.length)
theorem l8 {par pri oc : List Int} {v x : Int} (h : x ∈ bst par pri oc v) : 0 ≤ x ∧ x < par.length ∧ gi par x = v := by
  unfold bst at h
  rw [← List.take_length (l := chI par v par.length)] at h
  have := sK _ (Nat.le_refl _) x h
  rw [List.take_length] at this
  exact sJ this
def ofC (par pri oc : List Int) (v : Int) : Int := if (bst par pri oc v).length = 0 then -1 else if (bst par pri oc v).length = 1 then gi oc (gi (bst par pri oc v) 0) else -2
def ocS (par pri : List Int) (app : List Bool) : Nat → List Int
  | 0 => List.replicate par.length 0
  | m + 1 => (ocS par pri app m).set (par.length - 1 - m) (if ofC par pri (ocS par pri app m) ((par.length - 1 - m : Nat) : Int) = -1 ∧ gb app ((par.length - 1 - m : Nat) : Int) = true then ((par.length - 1 - m : Nat) : Int) else ofC par pri (ocS par pri app m) ((par.length - 1 - m : Nat) : Int))
theorem mQ (par pri : List Int) (app : List Bool) : ∀ m, (ocS par pri app m).length = par.length
  | 0 => by simp [ocS]
  | m + 1 => by rw [ocS, List.length_set, mQ]
def ocA (par pri : List Int) (app : List Bool) : List Int := ocS par pri app par.length
def kr (par pri : List Int) (app : List Bool) : Int := if rtV par pri ≠ 0 ∨ app.length ≠ par.length then -1 else ofC par pri (ocA par pri app) (-1)
theorem rtV_ok (par pri : List Int) : Ct prog 83 [.tv (ab (ak .i64)) par, .tv (ab (ak .i64)) pri] (.raw (.int .i64 (rtV par pri))) := by
  refine ay func83 rfl rfl ntmps83 rfl rfl ?_
  intro w0 ok0
  refine eE 0 rfl (fun hl0 => ?_)
  refine eE 1 rfl (fun hl1 => ?_)
  refine zR (zY rfl (aa (ae (zR (zM rfl (zN bd rfl (zM rfl (zN bd rfl (zJ (bQ (.b rfl) (.b rfl)) (zZ ?_))))))))))
  refine af rfl (fun h1 => ?_) (fun h1 => ?_)
  · have h1 : par.length ≠ pri.length := by simp at h1; omega
    refine zR (zY rfl (aa (am (ai ?_))))
    exact z1 results83 rfl (ri (by unfold rtV; rw [if_pos h1]))
  have h1 : ¬ par.length ≠ pri.length := by simp at h1; omega
  refine ah (aa (ae (zR (zM rfl (zN bd rfl (zJ (bY (.b rfl) (.b rfl)) (zZ ?_)))))))
  refine af rfl (fun h3 => ?_) (fun h3 => ?_)
  · have h3 : 8 < par.length := by simp at h3; omega
    refine zR (zY rfl (aa (am (ai ?_))))
    exact z1 results83 rfl (ri (by unfold rtV; rw [if_neg h1, if_pos h3]))
  have h3 : ¬ 8 < par.length := by simp at h3; omega
  refine ah (aa (ae (zR (zM rfl (zN bd rfl (zM rfl (zZ (aq ?_))))))))
  refine aZ (ι := Nat) (fun k => ⟨[(1, .tv (ab (ak .i64)) pri), (15, .tv (ab (ak .i64)) par), (16, .raw (.int .i64 (par.length))), (17, .raw (.int .i64 ((k : Nat))))], []⟩) (fun k => k ≤ par.length ∧ rtF par pri k = 0) (fun k => par.length - k) 0 (⟨Nat.zero_le _, rfl⟩) (fun a w hi => (zI hi)) ?_
  rintro k ⟨hk, hz⟩
  refine zR (zt rfl rfl (zZ (ae ?_)))
  refine af rfl (fun h6 => ?_) (fun h6 => ?_)
  · have h6 : k < par.length := by simp at h6; omega
    have h6b : k < pri.length := by omega
    have g1 := jc h6
    have g2 := jc h6b
    refine ah (aa (ae (aq (zR (zM rfl ?_)))))
    refine bc _ rfl _ rfl rfl (al bd ty3 (.b rfl) (.b rfl) rfl zg) ?_
    refine zD ty3 rfl (zA rfl (zY rfl (aa (ae (zR (zM rfl (zt rfl rfl (zM rfl (zG rfl rfl (fun hg => ag (.b rfl)) (zG rfl rfl (fun hg => ag (.b rfl)) (zG rfl rfl (fun hg => bW (.gd rfl hg) (.gd rfl hg)) (zJ (aB (.b rfl) (.b rfl) rfl zp) (zZ ?_)))))))))))))
    refine af rfl (fun h8 => ?_) (fun h8 => ?_)
    · have h8 : par[k] < -1 ∨ (k : Int) ≤ par[k] := by simp at h8; omega
      refine zR (zY rfl (aa (am (ai (av (ai (bL (av (ai ?_)))))))))
      exact z1 results83 rfl (ri (by unfold rtV; rw [if_neg h1, if_neg h3, vH hz (by unfold rtE; rw [g1, if_pos h8]; decide) h6]; unfold rtE; rw [g1, if_pos h8]))
    have h8 : ¬ (par[k] < -1 ∨ (k : Int) ≤ par[k]) := by simp at h8; omega
    refine ah (aa (zR (zM rfl (zM rfl ?_))))
    refine bc _ rfl _ rfl rfl (al bd ty3 (.b rfl) (.b rfl) rfl zg) ?_
    refine zD ty3 rfl (zt rfl rfl (zM rfl (zG rfl rfl (fun hg => ag (.b rfl)) (zG rfl rfl (fun hg => ag (.b rfl)) (zG rfl rfl (fun hg => al bd ty3 (.gd rfl hg) (.gd rfl hg) rfl (getD_some (z := (0 : Int)) (by first | omega | (simp; done) | (simp; omega) | (simp at hg; omega) | (simp at hg; simp; omega)))) (zG rfl rfl (fun hg => aA ty3 (.gd rfl hg)) (zG rfl rfl (fun hg => bY (.gd rfl hg) (.b rfl)) (zJ (aB (.b rfl) (.b rfl) rfl zp) (zZ ?_)))))))))
    refine af rfl (fun h10 => ?_) (fun h10 => ?_)
    · have h10 : pri[k] < 0 ∨ 9 < pri[k] := by simp [List.getElem?_eq_getElem h6b] at h10; omega
      refine zR (zY rfl (aa (am (av (ai (bL (av (ai ?_))))))))
      exact z1 results83 rfl (ri (by unfold rtV; rw [if_neg h1, if_neg h3, vH hz (by unfold rtE; rw [g1, g2, if_neg h8, if_pos h10]; decide) h6]; unfold rtE; rw [g1, g2, if_neg h8, if_pos h10]))
    have h10 : ¬ (pri[k] < 0 ∨ 9 < pri[k]) := by simp [List.getElem?_eq_getElem h6b] at h10; omega
    refine ah (aG (aa (ac (zU rfl rfl zw (zM rfl (aN ?_))))))
    exact aD (fun a w hi => ⟨k + 1, zj, (⟨by omega, rtF_ok hz (by unfold rtE; rw [g1, g2, if_neg h8, if_neg h10])⟩), (zI hi)⟩)
  have h6 : k = par.length := by simp at h6; omega
  refine bg (be (aY (bf (aa (ae (ac (zY rfl (aa (am ?_)))))))))
  exact z1 results83 rfl (ri (by unfold rtV; rw [if_neg h1, if_neg h3, ← h6, hz]))
theorem chI_ok (par : List Int) (v : Int) (hl : par.length ≤ 1000) : Ct prog 123 [.tv (ab (ak .i64)) par, .raw (.int .i64 v)] (.tv (ab (ak .i64)) (chI par v par.length)) := by
  refine ay func123 rfl rfl ntmps123 rfl rfl ?_
  intro w0 ok0
  refine zR (zY rfl (aa (zR (zY rfl (aa (ae (zR (zM rfl (zN bd rfl (zM rfl (zZ (aq ?_))))))))))))
  refine eO 70 5 (ak .i64) rfl rfl rfl ?_
  refine aZ (ι := Nat) (fun k => ⟨[(1, .raw (.int .i64 (v))), (5, .own 70 (ak .i64).n 0 (chI par v k).length), (8, .tv (ab (ak .i64)) par), (9, .raw (.int .i64 (par.length))), (10, .raw (.int .i64 ((k : Nat))))], [(70, ⟨ak .i64, (chI par v k)⟩)]⟩) (fun k => k ≤ par.length) (fun k => par.length - k) 0 (Nat.zero_le _) (fun a w hi => (zI hi)) ?_
  rintro k hk
  have hal := wN par v k
  refine zR (zt rfl rfl (zZ (ae ?_)))
  refine af rfl (fun h3 => ?_) (fun h3 => ?_)
  · have h3 : k < par.length := by simpa using h3
    have g1 := jc h3
    refine ah (aa (ae (aq (zR (zM rfl ?_)))))
    refine bc _ rfl _ rfl rfl (al bd ty3 (.b rfl) (.b rfl) rfl zg) ?_
    refine zD ty3 rfl (zA rfl (zY rfl (aa (zR (zM rfl (zM rfl (ze rfl rfl (zZ ?_))))))))
    refine af rfl (fun h5 => ?_) (fun h5 => ?_)
    · have hs := chI_t (par := par) (v := v) (k := k) (by rw [g1]; simpa using h5)
      refine ac (zM rfl (zM rfl (zJ (bq (rt := (ak .i64)) bd ty3 z3 rfl (.cons (.raw (.b rfl) rfl) .nil) rfl rfl) (zV [1,8,9,10] bd ty3 z3 by3 rfl rfl (.tv (.b rfl)) ?_))))
      refine zY rfl (aG (aa (ac (zU rfl rfl zw (zM rfl (aN ?_))))))
      exact aD (fun a w hi => ⟨k + 1, zj, zo, zW hi⟩)
    have hs := chI_f (par := par) (v := v) (k := k) (by rw [g1]; simpa using h5)
    refine ah (aG (aa (ac (zU rfl rfl zw (zM rfl (aN ?_))))))
    exact aD (fun a w hi => ⟨k + 1, zj, zo, zW hi⟩)
  simp at h3
  obtain rfl : k = par.length := by omega
  refine bg (be (aY (bf (aa (ae (ac (zM rfl (zY rfl (aa (am ?_))))))))))
  refine cY (rt := ak .i64) 70 4 (b8 70 _) rfl rfl (by simp) (bl 70 _) (bC 70 _) ?_
  exact z1 results123 rfl (congrArg (SV.tv (ab (ak .i64))) (by rw [List.drop_zero, List.take_length]))
theorem sN (par pri oc : List Int) (v : Int) (hp : pri.length = par.length) (ho : oc.length = par.length) (hl : par.length ≤ 1000) : Ct prog 86 [.tv cB (par, pri, oc), .raw (.int .i64 v)] (.tv (ab (ak .i64)) (bst par pri oc v)) := by
  refine ay func86 rfl rfl ntmps86 rfl rfl ?_
  intro w0 ok0
  refine zR (zb (.tv (.b rfl)) (zY rfl (aa (zR (zY rfl (aa (ae (zR (zF AQ rfl (zL ek rfl rfl rfl r5 (zM rfl (zJ (an (chI_ok _ _ zo) (.cons (.b rfl) (.cons (.b rfl) .nil)) rfl rfl) (zN bd rfl (zM rfl (zZ (aq ?_))))))))))))))))
  refine eO 70 5 (ak .i64) rfl rfl rfl ?_
  refine aZ (ι := Nat) (fun k => ⟨[(2, .optr 2 cB.n 0 0), (5, .own 70 (ak .i64).n 0 (bsF pri oc ((chI par v par.length).take k)).length), (11, .tv (ab (ak .i64)) (chI par v par.length)), (12, .raw (.int .i64 ((chI par v par.length).length))), (13, .raw (.int .i64 ((k : Nat))))], [(2, ⟨cB, [(par, pri, oc)]⟩), (70, ⟨ak .i64, (bsF pri oc ((chI par v par.length).take k))⟩)]⟩) (fun k => k ≤ (chI par v par.length).length) (fun k => (chI par v par.length).length - k) 0 (Nat.zero_le _) (fun a w hi => (zI hi)) ?_
  rintro k hk
  have hbl := wQ (pri := pri) (oc := oc) (l := (chI par v par.length)) k hk
  have hcl := wN par v par.length
  have hx0 : 0 < (bsF pri oc ((chI par v par.length).take k)).length → 0 ≤ ((bsF pri oc ((chI par v par.length).take k))[0]?.getD (0 : Int)) ∧ ((bsF pri oc ((chI par v par.length).take k))[0]?.getD (0 : Int)) < par.length := fun q => by
    have q1 := sK (pri := pri) (oc := oc) k hk ((bsF pri oc ((chI par v par.length).take k))[0]?.getD (0 : Int)) (by rw [List.getElem?_eq_getElem q]; exact List.getElem_mem q)
    have q2 := sJ (List.mem_of_mem_take q1)
    exact ⟨q2.1, q2.2.1⟩
  refine zR (zt rfl rfl (zZ (ae ?_)))
  refine af rfl (fun h3 => ?_) (fun h3 => ?_)
  · have h3 : k < (chI par v par.length).length := by simpa using h3
    have hcm := sJ (List.getElem_mem h3)
    have hbs := Bn (pri := pri) (oc := oc) h3
    refine ah (aa (ae (aq (zR ?_))))
    refine bc _ rfl _ rfl rfl (al bd ty3 (.b rfl) (.b rfl) rfl zg) ?_
    refine zD ty3 rfl (zY rfl (aa (ae (zR (zF j7 rfl (zL ek rfl rfl rfl mR (zM rfl (zX bd ty3 rfl rfl (show (chI par v par.length)[k] = (((chI par v par.length)[k].toNat : Nat) : Int) by omega) (getD_some (l := oc) (i := (chI par v par.length)[k].toNat) (z := 0) zo) (zD ty3 rfl (ze rfl rfl (zZ ?_)))))))))))
    refine af rfl (fun h5 => ?_) (fun h5 => ?_)
    · have hs : bsF pri oc ((chI par v par.length).take (k + 1)) = (bsF pri oc ((chI par v par.length).take k)) := by rw [hbs]; unfold stp; rw [if_pos (show gi oc (chI par v par.length)[k] = -1 from eq_of_beq h5)]
      refine bg (be (bf (aa (ac (zU rfl rfl zw (zM rfl (aN ?_)))))))
      exact aD (fun a w hi => ⟨k + 1, zj, zo, zW hi⟩)
    have h5 : ¬ gi oc (chI par v par.length)[k] = -1 := beq_eq_false_iff_ne.1 h5
    refine ah (aa (ae (ae ?_)))
    refine dN mo zk ( zS (ag (.b rfl)) ( zS (ci bd (.b rfl)) ( zS (bY (.b rfl) (.b rfl)) ( zS (ag (.b rfl)) ( zSG rfl rfl (fun hg => ao j8 (.b rfl)) ( zSG rfl rfl (fun hg => aj ek (.gd rfl hg) rfl rfl jv) ( zSG rfl rfl (fun hg => ag (.b rfl)) ( zSG rfl rfl (fun hg => al bd ty3 (.gd rfl hg) (.gd rfl hg) (show (chI par v par.length)[k] = (((chI par v par.length)[k].toNat : Nat) : Int) by omega) (getD_some (l := pri) (i := (chI par v par.length)[k].toNat) (z := 0) zo)) ( zSG rfl rfl (fun hg => aA ty3 (.gd rfl hg)) ( zSG rfl rfl (fun hg => ao j8 (.b rfl)) ( zSG rfl rfl (fun hg => aj ek (.gd rfl hg) rfl rfl jv) ( zSG rfl rfl (fun hg => ag (.b rfl)) ( zSG rfl rfl (fun hg => bu bd ty3 (.gd rfl hg) (.b rfl) (show (0 : Int) = ((0 : Nat) : Int) from rfl) (by first | (exfalso; simp at hg; done) | exact List.length_pos_iff.2 (by intro q; simp [q] at hg))) ( zSG rfl rfl (fun hg => aj ty3 (.gd rfl hg) rfl (getD_some (l := (bsF pri oc ((chI par v par.length).take k))) (i := 0) (z := 0) (by first | (exfalso; simp at hg; done) | exact List.length_pos_iff.2 (by intro q; simp [q] at hg))) (Lens.id _)) ( zSG rfl rfl (fun hg => al bd ty3 (.gd rfl hg) (.gd rfl hg) (show ((bsF pri oc ((chI par v par.length).take k))[0]?.getD (0 : Int)) = ((((bsF pri oc ((chI par v par.length).take k))[0]?.getD (0 : Int)).toNat : Nat) : Int) by have := hx0 (by first | (exfalso; simp at hg; done) | exact List.length_pos_iff.2 (by intro q; simp [q] at hg)); omega) (getD_some (l := pri) (i := ((bsF pri oc ((chI par v par.length).take k))[0]?.getD (0 : Int)).toNat) (z := 0) (by have := hx0 (by first | (exfalso; simp at hg; done) | exact List.length_pos_iff.2 (by intro q; simp [q] at hg)); omega))) ( zSG rfl rfl (fun hg => aA ty3 (.gd rfl hg)) ( zSG rfl rfl (fun hg => bY (.gd rfl hg) (.gd rfl hg)) ( zS (aF (.b rfl) (.b rfl) rfl zp) ( AS.nil))))))))))))))))))) ?_
    refine aa ?_
    refine af rfl (fun h6 => ?_) (fun h6 => ?_)
    · have h6 : 0 < (bsF pri oc ((chI par v par.length).take k)).length ∧ gi pri (gi (bsF pri oc ((chI par v par.length).take k)) 0) < gi pri (chI par v par.length)[k] := by
        rw [Bool.and_eq_true] at h6
        exact ⟨by have := h6.1; simp only [decide_eq_true_eq] at this; omega, by have := h6.2; simp only [decide_eq_true_eq] at this; exact this⟩
      have hs : bsF pri oc ((chI par v par.length).take (k + 1)) = [(chI par v par.length)[k]] := by rw [hbs]; unfold stp; rw [if_neg h5, if_pos h6]
      refine ac (zM rfl (zJ (gH bd ty3 (.b rfl) rfl ⟨_, _, (.b rfl), (show (0 : Int) = ((0 : Nat) : Int) from rfl)⟩ zo zo) (zY rfl (aa (ae ?_)))))
      refine dN mo zk ( zS (ag (.b rfl)) ( zS (ci bd (.b rfl)) ( zS (ca (.b rfl) (.b rfl)) ( zS (ag (.b rfl)) ( zSG rfl rfl (fun hg => ao j8 (.b rfl)) ( zSG rfl rfl (fun hg => aj ek (.gd rfl hg) rfl rfl jv) ( zSG rfl rfl (fun hg => ag (.b rfl)) ( zSG rfl rfl (fun hg => al bd ty3 (.gd rfl hg) (.gd rfl hg) (show (chI par v par.length)[k] = (((chI par v par.length)[k].toNat : Nat) : Int) by omega) (getD_some (l := pri) (i := (chI par v par.length)[k].toNat) (z := 0) zo)) ( zSG rfl rfl (fun hg => aA ty3 (.gd rfl hg)) ( zSG rfl rfl (fun hg => ao j8 (.b rfl)) ( zSG rfl rfl (fun hg => aj ek (.gd rfl hg) rfl rfl jv) ( zSG rfl rfl (fun hg => ag (.b rfl)) ( zSG rfl rfl (fun hg => bu bd ty3 (.gd rfl hg) (.b rfl) (show (0 : Int) = ((0 : Nat) : Int) from rfl) (by first | (exfalso; simp at hg; done) | exact List.length_pos_iff.2 (by intro q; simp [q] at hg))) ( zSG rfl rfl (fun hg => aj ty3 (.gd rfl hg) rfl (getD_some (l := (bsF pri oc ((chI par v par.length).take k))) (i := 0) (z := 0) (by first | (exfalso; simp at hg; done) | exact List.length_pos_iff.2 (by intro q; simp [q] at hg))) (Lens.id _)) ( zSG rfl rfl (fun hg => al bd ty3 (.gd rfl hg) (.gd rfl hg) (show ((bsF pri oc ((chI par v par.length).take k))[0]?.getD (0 : Int)) = ((((bsF pri oc ((chI par v par.length).take k))[0]?.getD (0 : Int)).toNat : Nat) : Int) by have := hx0 (by first | (exfalso; simp at hg; done) | exact List.length_pos_iff.2 (by intro q; simp [q] at hg)); omega) (getD_some (l := pri) (i := ((bsF pri oc ((chI par v par.length).take k))[0]?.getD (0 : Int)).toNat) (z := 0) (by have := hx0 (by first | (exfalso; simp at hg; done) | exact List.length_pos_iff.2 (by intro q; simp [q] at hg)); omega))) ( zSG rfl rfl (fun hg => aA ty3 (.gd rfl hg)) ( zSG rfl rfl (fun hg => ca (.gd rfl hg) (.gd rfl hg)) ( zS (aB (.b rfl) (.b rfl) rfl zp) ( AS.nil))))))))))))))))))) ?_
      refine aa ?_
      refine af rfl (fun h8 => ?_) (fun h8 => ?_)
      · first | (have _q := h6.1) | (have h8b : (bsF pri oc ((chI par v par.length).take k)).length = 0 ∨ gi pri (chI par v par.length)[k] = gi pri (gi (bsF pri oc ((chI par v par.length).take k)) 0) := (by rw [Bool.or_eq_true] at h8; rcases h8 with h8 | h8 <;> first | exact .inr (eq_of_beq h8) | (left; simp at h8; simp [h8])); have hs : bsF pri oc ((chI par v par.length).take (k + 1)) = (bsF pri oc ((chI par v par.length).take k)) ++ [(chI par v par.length)[k]] := (by rw [hbs]; unfold stp; rw [if_neg h5, if_neg h6, if_pos h8b]))
        all_goals
          refine ac (zM rfl (zM rfl (zJ (bq (rt := (ak .i64)) bd ty3 z3 rfl (.cons (.raw (.b rfl) rfl) .nil) rfl rfl) (zV [2,11,12,13] bd ty3 z3 by3 rfl rfl (.tv (.b rfl)) ?_))))
          refine zY rfl (aG (aa (ac (zU rfl rfl zw (zM rfl (aN ?_))))))
          exact aD (fun a w hi => ⟨k + 1, zj, zo, zW hi⟩)
      first | (exfalso; simp at h8; done) | (have h8b : ¬ ((bsF pri oc ((chI par v par.length).take k)).length = 0 ∨ gi pri (chI par v par.length)[k] = gi pri (gi (bsF pri oc ((chI par v par.length).take k)) 0)) := (by rw [Bool.or_eq_false_iff] at h8; rintro (q | q) <;> first | exact (beq_eq_false_iff_ne.1 h8.2) q | (have q2 := h8.1; rw [q] at q2; simp at q2)); have hs : bsF pri oc ((chI par v par.length).take (k + 1)) = (bsF pri oc ((chI par v par.length).take k)) := (by rw [hbs]; unfold stp; rw [if_neg h5, if_neg h6, if_neg h8b]))
      all_goals
        refine ah (aG (aa (ac (zU rfl rfl zw (zM rfl (aN ?_))))))
        exact aD (fun a w hi => ⟨k + 1, zj, zo, zW hi⟩)
    have h6 : ¬ (0 < (bsF pri oc ((chI par v par.length).take k)).length ∧ gi pri (gi (bsF pri oc ((chI par v par.length).take k)) 0) < gi pri (chI par v par.length)[k]) := by
      intro q
      rw [Bool.and_eq_false_iff] at h6
      rcases h6 with h6 | h6
      · simp only [decide_eq_false_iff_not] at h6; omega
      simp only [decide_eq_false_iff_not] at h6; exact h6 q.2
    refine ah (aa (ae ?_))
    refine dN mo zk ( zS (ag (.b rfl)) ( zS (ci bd (.b rfl)) ( zS (ca (.b rfl) (.b rfl)) ( zS (ag (.b rfl)) ( zSG rfl rfl (fun hg => ao j8 (.b rfl)) ( zSG rfl rfl (fun hg => aj ek (.gd rfl hg) rfl rfl jv) ( zSG rfl rfl (fun hg => ag (.b rfl)) ( zSG rfl rfl (fun hg => al bd ty3 (.gd rfl hg) (.gd rfl hg) (show (chI par v par.length)[k] = (((chI par v par.length)[k].toNat : Nat) : Int) by omega) (getD_some (l := pri) (i := (chI par v par.length)[k].toNat) (z := 0) zo)) ( zSG rfl rfl (fun hg => aA ty3 (.gd rfl hg)) ( zSG rfl rfl (fun hg => ao j8 (.b rfl)) ( zSG rfl rfl (fun hg => aj ek (.gd rfl hg) rfl rfl jv) ( zSG rfl rfl (fun hg => ag (.b rfl)) ( zSG rfl rfl (fun hg => bu bd ty3 (.gd rfl hg) (.b rfl) (show (0 : Int) = ((0 : Nat) : Int) from rfl) (by first | (exfalso; simp at hg; done) | exact List.length_pos_iff.2 (by intro q; simp [q] at hg))) ( zSG rfl rfl (fun hg => aj ty3 (.gd rfl hg) rfl (getD_some (l := (bsF pri oc ((chI par v par.length).take k))) (i := 0) (z := 0) (by first | (exfalso; simp at hg; done) | exact List.length_pos_iff.2 (by intro q; simp [q] at hg))) (Lens.id _)) ( zSG rfl rfl (fun hg => al bd ty3 (.gd rfl hg) (.gd rfl hg) (show ((bsF pri oc ((chI par v par.length).take k))[0]?.getD (0 : Int)) = ((((bsF pri oc ((chI par v par.length).take k))[0]?.getD (0 : Int)).toNat : Nat) : Int) by have := hx0 (by first | (exfalso; simp at hg; done) | exact List.length_pos_iff.2 (by intro q; simp [q] at hg)); omega) (getD_some (l := pri) (i := ((bsF pri oc ((chI par v par.length).take k))[0]?.getD (0 : Int)).toNat) (z := 0) (by have := hx0 (by first | (exfalso; simp at hg; done) | exact List.length_pos_iff.2 (by intro q; simp [q] at hg)); omega))) ( zSG rfl rfl (fun hg => aA ty3 (.gd rfl hg)) ( zSG rfl rfl (fun hg => ca (.gd rfl hg) (.gd rfl hg)) ( zS (aB (.b rfl) (.b rfl) rfl zp) ( AS.nil))))))))))))))))))) ?_
    refine aa ?_
    refine af rfl (fun h8 => ?_) (fun h8 => ?_)
    · first | (have _q := h6.1) | (have h8b : (bsF pri oc ((chI par v par.length).take k)).length = 0 ∨ gi pri (chI par v par.length)[k] = gi pri (gi (bsF pri oc ((chI par v par.length).take k)) 0) := (by rw [Bool.or_eq_true] at h8; rcases h8 with h8 | h8 <;> first | exact .inr (eq_of_beq h8) | (left; simp at h8; simp [h8])); have hs : bsF pri oc ((chI par v par.length).take (k + 1)) = (bsF pri oc ((chI par v par.length).take k)) ++ [(chI par v par.length)[k]] := (by rw [hbs]; unfold stp; rw [if_neg h5, if_neg h6, if_pos h8b]))
      all_goals
        refine ac (zM rfl (zM rfl (zJ (bq (rt := (ak .i64)) bd ty3 z3 rfl (.cons (.raw (.b rfl) rfl) .nil) rfl rfl) (zV [2,11,12,13] bd ty3 z3 by3 rfl rfl (.tv (.b rfl)) ?_))))
        refine zY rfl (aG (aa (ac (zU rfl rfl zw (zM rfl (zQ [2,5,11,12,13] [2,70] ?_))))))
        exact aD (fun a w hi => ⟨k + 1, zj, zo, zW hi⟩)
    first | (exfalso; simp at h8; done) | (have h8b : ¬ ((bsF pri oc ((chI par v par.length).take k)).length = 0 ∨ gi pri (chI par v par.length)[k] = gi pri (gi (bsF pri oc ((chI par v par.length).take k)) 0)) := (by rw [Bool.or_eq_false_iff] at h8; rintro (q | q) <;> first | exact (beq_eq_false_iff_ne.1 h8.2) q | (have q2 := h8.1; rw [q] at q2; simp at q2)); have hs : bsF pri oc ((chI par v par.length).take (k + 1)) = (bsF pri oc ((chI par v par.length).take k)) := (by rw [hbs]; unfold stp; rw [if_neg h5, if_neg h6, if_neg h8b]))
    all_goals
      refine ah (aG (aa (ac (zU rfl rfl zw (zM rfl (aN ?_))))))
      exact aD (fun a w hi => ⟨k + 1, zj, zo, zW hi⟩)
  simp at h3
  obtain rfl : k = (chI par v par.length).length := by omega
  rw [List.take_length]
  refine bg (be (aY (bf (aa (ae (ac (zM rfl (zY rfl (aa (am ?_))))))))))
  refine cY (rt := ak .i64) 70 4 (b8 70 _) rfl rfl (by simp) (bl 70 _) (bC 70 _) ?_
  exact z1 results86 rfl (congrArg (SV.tv (ab (ak .i64))) (by rw [List.drop_zero, List.take_length]; rfl))
theorem y3 (par pri oc : List Int) (v : Int) (hp : pri.length = par.length) (ho : oc.length = par.length) (hl : par.length ≤ 1000) : Ct prog 85 [.tv cB (par, pri, oc), .raw (.int .i64 v)] (.raw (.int .i64 (ofC par pri oc v))) := by
  refine ay func85 rfl rfl ntmps85 rfl rfl ?_
  intro w0 ok0
  refine zR (zb (.tv (.b rfl)) (zY rfl (aa (zR (zL s4 rfl rfl rfl (Lens.id _) (zM rfl (zJ (an (sN _ _ _ _ hp ho hl) (.cons (.b rfl) (.cons (.b rfl) .nil)) rfl rfl) (zY rfl (aa (ae (zR (zM rfl (zN bd rfl (zZ (aq (zR (ze rfl rfl (zY rfl (aa ?_)))))))))))))))))))
  refine af rfl (fun h3 => ?_) (fun h3 => ?_)
  · have h3 : (bst par pri oc v).length = 0 := by simp at h3; simp [h3]
    refine zR (zY rfl (aa (am (av (ai ?_)))))
    exact z1 results85 rfl (ri (by unfold ofC; rw [if_pos h3]))
  have h3 : ¬ (bst par pri oc v).length = 0 := by simp at h3; simp [h3]
  refine zR (ze rfl rfl (zY rfl (aa ?_)))
  refine af rfl (fun h5 => ?_) (fun h5 => ?_)
  · have h5 : (bst par pri oc v).length = 1 := by have := eq_of_beq h5; omega
    have hb0 := l8 (List.getElem_mem (show 0 < (bst par pri oc v).length by omega))
    have hb1 : gi (bst par pri oc v) 0 = (bst par pri oc v)[0] := jc (k := 0) zo
    refine ae ?_
    refine dN mo zk ( zS (ao j7 (.b rfl)) ( zS (aj ek (.b rfl) rfl rfl mR) ( zS (ag (.b rfl)) ( zS (al bd ty3 (.b rfl) (.b rfl) (show (0 : Int) = ((0 : Nat) : Int) from rfl) zg) ( zS (aA ty3 (.b rfl)) ( zS (al bd ty3 (.b rfl) (.b rfl) (show (bst par pri oc v)[0] = (((bst par pri oc v)[0].toNat : Nat) : Int) by omega) (getD_some (l := oc) (i := (bst par pri oc v)[0].toNat) (z := 0) zo)) ( zS (aA ty3 (.b rfl)) ( zS (aU (.b rfl)) ( AS.nil))))))))) ?_
    refine aa (am (av (ai ?_)))
    exact z1 results85 rfl (ri (by unfold ofC; rw [if_neg h3, if_pos h5, hb1]; rfl))
  have h5 : ¬ (bst par pri oc v).length = 1 := by have := beq_eq_false_iff_ne.1 h5; omega
  refine ah (aG (aa (zR (zY rfl (aa (am ?_))))))
  exact z1 results85 rfl (ri (by unfold ofC; rw [if_neg h3, if_neg h5]))
theorem pB : ZR rHd [.slice none 0 0] (none, 0, 0) := fun _ _ => rfl
abbrev iv := (bO (ab (ak .i64)) (bO (ab (ak .i64)) rHd))
theorem qT : Ty prog 189 iv := by obtain ⟨⟨de, hu, hd⟩, i0, hi0, hs⟩ := s4; exact ⟨⟨de, hu, hd⟩, i0, hi0, hs⟩
theorem sU : TyZero prog 189 iv ([], ([], (none, 0, 0))) := dj zk ((aR (bm) ((aR (bm) (pB)))))
theorem tL : Lens iv 0 (ab (ak .i64)) (fun d => d.1) (fun d x => (x, d.2)) := (Lens.fst (Lens.id (ab (ak .i64))))
theorem tK : Lens iv 1 (ab (ak .i64)) (fun d => d.2.1) (fun d x => (d.1, (x, d.2.2))) := (Lens.snd (Lens.fst (Lens.id (ab (ak .i64)))) rfl)
theorem ju : Lens iv 2 rHd (fun d => d.2.2) (fun d x => (d.1, (d.2.1, x))) := (Lens.snd (Lens.snd (Lens.id rHd) rfl) rfl)
theorem gE : Ty prog 37 rHd := by obtain ⟨⟨de, hu, hd⟩, i0, hi0, hs⟩ := ek; exact ⟨⟨de, hu, hd⟩, i0, hi0, hs⟩
theorem y6 (par pri : List Int) (app : List Bool) (hp : pri.length = par.length) (ha : app.length = par.length) (hl : par.length ≤ 1000) : Ct prog 84 [.tv (ab (ak .i64)) par, .tv (ab (ak .i64)) pri, .tv (ab bP) app] (.tv (ab (ak .i64)) (ocA par pri app)) := by
  refine ay func84 rfl rfl ntmps84 rfl rfl ?_
  intro w0 ok0
  refine zR (zY rfl (aa (zR (zM rfl (zM rfl (zM rfl (zN bd rfl (zO (dL bd ty3 z3 rfl by3 (.b rfl) (.b rfl) zo (by unfold maxLen; omega) rfl rfl rfl) ?_))))))))
  refine ij 2 13 rfl rfl (fun A cap => ?_)
  refine zJ (aI sU rfl yT (.cons (rt' := (ab (ak .i64))) rfl tL (.tv (.b rfl)) (.cons (rt' := (ab (ak .i64))) rfl tK (.tv (.b rfl)) (.cons (rt' := rHd) rfl ju (.raw (d := (A, par.length, cap)) (.b rfl) rfl) .nil)))) (zl sU (zC qT rfl rfl rfl (Lens.id _) (.tv (.b rfl)) (zZ (ae (zR (zM rfl (zN bd rfl (zJ (da (.b rfl) (.b rfl) zw) (zY rfl (aa (aq ?_)))))))))))
  refine aZ (ι := Nat) (fun m => ⟨[(7, .optr 7 iv.n 0 0), (8, .raw (.int .i64 (((par.length : Int) - 1 - m)))), (2, .lnk (.tv (ab bP) app) (.slice A par.length cap) (.own 13 (ak .i64).n 0 par.length))], [(7, ⟨iv, [(par, pri, (A, par.length, cap))]⟩), (13, ⟨ak .i64, (ocS par pri app m)⟩)]⟩) (fun m => m ≤ par.length) (fun m => par.length - m) 0 (Nat.zero_le _) (fun a w hi => (zI hi)) ?_
  rintro m hm
  have hol := mQ par pri app m
  refine ae (zR (zM rfl (zJ (bW (.b rfl) (.b rfl)) (zZ ?_))))
  refine af rfl (fun h3 => ?_) (fun h3 => ?_)
  · have h3 : m < par.length := by simp at h3; omega
    have hct : (((par.length - 1 - m) : Nat) : Int) = ((par.length : Int) - 1 - m) := by omega
    have hgb : gb app ((par.length : Int) - 1 - m) = (app[(par.length - 1 - m)]?.getD false) := by unfold gb; rw [show (((par.length : Int) - 1 - m)).toNat = (par.length - 1 - m) by omega]
    refine ah (aa (ae (aq (ae ?_))))
    refine Cd 2 8 rfl rfl ?_
    refine bZ mo zk ( zE [7] (ao j7 (.b rfl)) ( zE [7] (aj (rt := iv) gE (.b rfl) rfl rfl ju) ( zE [13] (ag (.b rfl)) ( zE [7] (aj (rt := iv) qT (.b rfl) rfl rfl (Lens.id iv)) ( zE [13] (ag (.b rfl)) ( zE [13] (yZ (y3 par pri (ocS par pri app m) ((par.length : Int) - 1 - m) hp hol hl) (.b rfl) rfl rfl hol.symm (df _ (df _ kl))) ( zE [13] (mr bd ty3 (.b rfl) rfl (show ((par.length : Int) - 1 - m) = (((par.length - 1 - m) : Nat) : Int) by omega) zo) ( AE.cons _ _ _ rfl (bF ty3 (.b rfl) rfl zg (Lens.id _) (.raw (.b rfl) rfl)) ( AE.nil))))))))) zk ?_
    refine aa (ae ?_)
    refine Ag 8 rfl ?_
    refine ac (zF j7 rfl (zJ (aj (rt := iv) gE (.b rfl) rfl rfl ju) (zM rfl ?_)))
    refine tN 2 31 rfl rfl ?_
    refine zJ (mr bd ty3 (.b rfl) rfl (show ((par.length : Int) - 1 - m) = (((par.length - 1 - m) : Nat) : Int) by omega) zo) ?_
    refine bc _ rfl _ rfl rfl (aj ty3 (.b rfl) rfl (by rw [Nat.zero_add]; exact List.getElem?_set_self zo) (Lens.id _)) ?_
    refine ze rfl rfl (zM rfl (zG rfl rfl (fun hg => ag (.l1 rfl)) (zG rfl rfl (fun hg => ag (.b rfl)) (zG rfl rfl (fun hg => al fq ty4 (.gd rfl hg) (.gd rfl hg) (show ((par.length : Int) - 1 - m) = (((par.length - 1 - m) : Nat) : Int) by omega) (getD_some (l := app) (i := (par.length - 1 - m)) (z := false) zo)) (zG rfl rfl (fun hg => aA ty4 (.gd rfl hg)) (zJ (aF (.b rfl) (.b rfl) rfl zp) (zZ ?_)))))))
    refine af rfl (fun h6 => ?_) (fun h6 => ?_)
    · rw [Bool.and_eq_true] at h6
      have hs : (((ocS par pri app m).set (par.length - 1 - m) (ofC par pri (ocS par pri app m) ((par.length : Int) - 1 - m))).set (par.length - 1 - m) ((par.length : Int) - 1 - m)) = ocS par pri app (m + 1) := by
        rw [List.set_set, ocS, hct, if_pos ⟨eq_of_beq h6.1, by rw [hgb]; exact h6.2⟩]
      refine ac (zF j7 rfl (zJ (aj (rt := iv) gE (.b rfl) rfl rfl ju) (zM rfl (zM rfl ?_))))
      refine tN 2 43 rfl rfl ?_
      refine zJ (mr bd ty3 (.b rfl) rfl (show ((par.length : Int) - 1 - m) = (((par.length - 1 - m) : Nat) : Int) by omega) zo) ?_
      refine eN _ rfl (bK ty3 (.b rfl) rfl zg (Lens.id _) (.raw (.b rfl) rfl)) ?_
      refine aN (aG (aa (ac (zM rfl (zJ (da (.b rfl) (.b rfl) zw) (zY rfl ?_))))))
      exact aD (fun a w hi => ⟨m + 1, zj, zo, Sub.inv ⟨(by repeat (first | exact aQ | refine aM rfl (by first | rfl | (simp; done) | assumption | exact congrArg (fun z : Int => SV.raw (Value.int .i64 z)) zo) ?_)), (by repeat (first | exact bn | refine aL rfl (by first | rfl | (simp; done) | assumption | (refine congrArg (HB.mk (ak .i64)) ?_; first | rfl | (exact hs; done) | (exact hs.symm; done) | (rw [Nat.zero_add]; exact hs; done) | (rw [Nat.zero_add]; exact hs.symm; done))) ?_))⟩ hi⟩)
    rw [Bool.and_eq_false_iff] at h6
    have hs : ((ocS par pri app m).set (par.length - 1 - m) (ofC par pri (ocS par pri app m) ((par.length : Int) - 1 - m))) = ocS par pri app (m + 1) := by
      rw [ocS, hct, if_neg]
      rintro ⟨q1, q2⟩
      rcases h6 with h6 | h6
      · exact (beq_eq_false_iff_ne.1 h6) q1
      rw [hgb] at q2; rw [q2] at h6; cases h6
    refine ah (aG (aa (ac (zM rfl (zJ (da (.b rfl) (.b rfl) zw) (zY rfl ?_))))))
    exact aD (fun a w hi => ⟨m + 1, zj, zo, Sub.inv ⟨(by repeat (first | exact aQ | refine aM rfl (by first | rfl | (simp; done) | assumption | exact congrArg (fun z : Int => SV.raw (Value.int .i64 z)) zo) ?_)), (by repeat (first | exact bn | refine aL rfl (by first | rfl | (simp; done) | assumption | (refine congrArg (HB.mk (ak .i64)) ?_; first | rfl | (exact hs; done) | (exact hs.symm; done) | (rw [Nat.zero_add]; exact hs; done) | (rw [Nat.zero_add]; exact hs.symm; done))) ?_))⟩ hi⟩)
  have h3 : m = par.length := by simp at h3; omega
  subst h3
  refine bg (be (aY (bf (aa (ae ?_)))))
  refine nr (rt := ak .i64) 13 2 (b8 13 _) rfl rfl zo (bl 13 _) (bC 13 _) ?_
  rw [List.drop_zero, List.take_of_length_le zo]
  refine ns 2 7 cB (par, pri, ocS par pri app par.length) (df _ (df _ kl)) rfl rfl rfl ?_
  refine ac (zF j7 rfl (zJ (aj (rt := cB) ek (.b rfl) rfl rfl mR) (zY rfl (aa (am ?_)))))
  exact z1 results84 rfl (rfl)
theorem tq {par pri : List Int} (h : rtV par pri = 0) : pri.length = par.length ∧ par.length ≤ 8 ∧ ∀ i, i < par.length → rtE par pri i = 0 := by
  unfold rtV at h
  split at h
  · cases h
  split at h
  · cases h
  exact ⟨by omega, by omega, C4 h⟩
theorem rtE_0 {par pri : List Int} {i : Nat} (h : rtE par pri i = 0) : -1 ≤ gi par i ∧ gi par i < i := by
  unfold rtE at h
  split at h
  · cases h
  omega
def fcL (par pri oc : List Int) : Nat → List Int → List Int
  | 0, B => B
  | m + 1, B => if B.length = 1 then fcL par pri oc m (bst par pri oc (gi B 0)) else B
def fcB (par pri : List Int) (app : List Bool) : List Int := fcL par pri (ocA par pri app) (par.length + 1) (bst par pri (ocA par pri app) (-1))
def fcT (par pri : List Int) (app : List Bool) : Int × Int × Bool :=
  if kr par pri app ≠ -2 then (0, 0, false) else if (fcB par pri app).length < 2 then (0, 0, false) else (gi (fcB par pri app) 0, gi (fcB par pri app) 1, true)
theorem uw {par pri oc : List Int} {v : Int} (hv : rtV par pri = 0) (h : (bst par pri oc v).length = 1) : v < gi (bst par pri oc v) 0 ∧ 0 ≤ gi (bst par pri oc v) 0 ∧ gi (bst par pri oc v) 0 < par.length := by
  have e : gi (bst par pri oc v) 0 = (bst par pri oc v)[0]'zo := jc (k := 0) zo
  have hm := l8 (List.getElem_mem (show 0 < (bst par pri oc v).length by omega))
  rw [← e] at hm
  have := rtE_0 ((tq hv).2.2 (gi (bst par pri oc v) 0).toNat zo)
  rw [show (((gi (bst par pri oc v) 0).toNat : Nat) : Int) = gi (bst par pri oc v) 0 by omega, hm.2.2] at this
  omega
theorem vg {par pri oc : List Int} (hv : rtV par pri = 0) : ∀ (a b : Nat) (v : Int), (par.length : Int) - v ≤ a → (par.length : Int) - v ≤ b → v < par.length → fcL par pri oc a (bst par pri oc v) = fcL par pri oc b (bst par pri oc v)
  | 0, _, v, h, _, hl => by omega
  | _, 0, v, _, h, hl => by omega
  | a + 1, b + 1, v, h1, h2, hl => by
    rw [fcL, fcL]
    split
    · rename_i c
      have hd := uw (oc := oc) hv c
      exact vg hv a b _ zo zo hd.2.2
    rfl
theorem sy {par pri oc : List Int} : ∀ (a : Nat) (v x : Int), x ∈ fcL par pri oc a (bst par pri oc v) → 0 ≤ x ∧ x < par.length
  | 0, v, x, h => by have := l8 h; omega
  | a + 1, v, x, h => by
    rw [fcL] at h
    split at h
    · exact sy a _ x h
    have := l8 h; omega
theorem yy {par pri : List Int} {app : List Bool} (h : kr par pri app = -2) : rtV par pri = 0 ∧ app.length = par.length ∧ 0 < par.length := by
  unfold kr at h
  split at h
  · cases h
  rename_i c
  refine ⟨Classical.byContradiction fun q => c (.inl q), Classical.byContradiction fun q => c (.inr q), ?_⟩
  unfold ofC at h
  split at h
  · cases h
  rename_i c2
  have := l8 (List.getElem_mem (show 0 < (bst par pri (ocA par pri app) (-1)).length by omega))
  omega
theorem fcT_in {par pri : List Int} {app : List Bool} (h : kr par pri app = -2) : (0 ≤ (fcT par pri app).1 ∧ (fcT par pri app).1 < par.length) ∧ 0 ≤ (fcT par pri app).2.1 ∧ (fcT par pri app).2.1 < par.length := by
  have h0 := (yy h).2.2
  unfold fcT
  rw [if_neg (by rw [h]; simp)]
  split
  · simp only; omega
  rename_i c
  have e0 : gi (fcB par pri app) 0 = (fcB par pri app)[0]'zo := jc (k := 0) zo
  have e1 : gi (fcB par pri app) 1 = (fcB par pri app)[1]'zo := jc (k := 1) zo
  have m0 := sy _ _ _ (List.getElem_mem (show 0 < (fcB par pri app).length by omega))
  have m1 := sy _ _ _ (List.getElem_mem (show 1 < (fcB par pri app).length by omega))
  rw [← e0] at m0
  rw [← e1] at m1
  exact ⟨m0, m1⟩
theorem pd (par pri : List Int) (app : List Bool) : Ct prog 33 [.tv (ab (ak .i64)) par, .tv (ab (ak .i64)) pri, .tv (ab bP) app] (.raw (.int .i64 (kr par pri app))) := by
  refine ay func33 rfl rfl ntmps33 rfl rfl ?_
  intro w0 ok0
  refine eE 0 rfl (fun hl0 => ?_)
  refine eE 2 rfl (fun hl2 => ?_)
  refine zR (zY rfl (aa (ae (zR (zM rfl (zM rfl (zJ (an (rtV_ok _ _) (.cons (.b rfl) (.cons (.b rfl) .nil)) rfl rfl) (zJ (bQ (.b rfl) (.b rfl)) (zM rfl (zG rfl rfl (fun hg => ag (.b rfl)) (zG rfl rfl (fun hg => cJ fq (.gd rfl hg)) (zG rfl rfl (fun hg => ag (.b rfl)) (zG rfl rfl (fun hg => cJ bd (.gd rfl hg)) (zG rfl rfl (fun hg => bQ (.gd rfl hg) (.gd rfl hg)) (zJ (aB (.b rfl) (.b rfl) rfl zp) (zZ ?_))))))))))))))))
  refine af rfl (fun h1 => ?_) (fun h1 => ?_)
  · have h1 : rtV par pri ≠ 0 ∨ app.length ≠ par.length := by
      rw [Bool.or_eq_true] at h1
      rcases h1 with h1 | h1
      · exact .inl (by simpa using h1)
      exact .inr (by simp at h1; omega)
    refine zR (zY rfl (aa (am (ai ?_))))
    exact z1 results33 rfl (ri (by unfold kr; rw [if_pos h1]))
  have h1 : ¬ (rtV par pri ≠ 0 ∨ app.length ≠ par.length) := by
    rw [Bool.or_eq_false_iff] at h1
    rintro (q | q)
    · exact q (by simpa using h1.1)
    have q2 := h1.2; simp at q2; omega
  have hv0 : rtV par pri = 0 := Classical.byContradiction fun q => h1 (.inl q)
  have hq2 : app.length = par.length := Classical.byContradiction fun q => h1 (.inr q)
  have hq1 := (tq hv0).1
  have hq3 : par.length ≤ 1000 := by have := (tq hv0).2.1; omega
  refine ah (aa (zR (zM rfl (zM rfl (zM rfl (zM rfl (zM rfl (zJ (an (y6 _ _ _ hq1 hq2 hq3) (.cons (.b rfl) (.cons (.b rfl) (.cons (.b rfl) .nil))) rfl rfl) (zJ (aI z189 rfl yT (.cons (rt' := (ab (ak .i64))) rfl r5 (.tv (.b rfl)) (.cons (rt' := (ab (ak .i64))) rfl jv (.tv (.b rfl)) (.cons (rt' := (ab (ak .i64))) rfl mR (.tv (.b rfl)) .nil)))) (zJ (an (y3 _ _ _ _ hq1 (mQ _ _ _ _) hq3) (.cons (.b rfl) (.cons (.b rfl) .nil)) rfl rfl) (zY rfl (aa (am ?_)))))))))))))
  exact z1 results33 rfl (ri (by unfold kr; rw [if_neg h1]; rfl))
theorem fcT_ok (par pri : List Int) (app : List Bool) : Ct prog 34 [.tv (ab (ak .i64)) par, .tv (ab (ak .i64)) pri, .tv (ab bP) app] (.tup3 (.raw (.int .i64 (fcT par pri app).1)) (.raw (.int .i64 (fcT par pri app).2.1)) (.raw (.bool (fcT par pri app).2.2))) := by
  refine ay func34 rfl rfl ntmps34 rfl rfl ?_
  intro w0 ok0
  refine zR (zA rfl (zA rfl (zY rfl (aa (ae (zR (zM rfl (zM rfl (zM rfl (zJ (an (pd _ _ _) (.cons (.b rfl) (.cons (.b rfl) (.cons (.b rfl) .nil))) rfl rfl) (zJ (bQ (.b rfl) (.b rfl)) (zZ ?_))))))))))))
  refine af rfl (fun h1 => ?_) (fun h1 => ?_)
  · have h1 : kr par pri app ≠ -2 := by simpa using h1
    refine zR (zA rfl (zA rfl (zY rfl (aa (am (ai ?_))))))
    exact cS results34 (aw rfl) (aw rfl) (aw rfl) ⟨rfl, rfl, rfl⟩ (by unfold fcT; rw [if_pos h1])
  have h1 : kr par pri app = -2 := by simpa using h1
  obtain ⟨hv0, hq2, hpos⟩ := yy h1
  have hq1 := (tq hv0).1
  have hq3 : par.length ≤ 1000 := by have := (tq hv0).2.1; omega
  refine ah (aa (zR (zM rfl (zM rfl (zM rfl (zM rfl (zM rfl (zJ (an (y6 _ _ _ hq1 hq2 hq3) (.cons (.b rfl) (.cons (.b rfl) (.cons (.b rfl) .nil))) rfl rfl) (zJ (aI z189 rfl yT (.cons (rt' := (ab (ak .i64))) rfl r5 (.tv (.b rfl)) (.cons (rt' := (ab (ak .i64))) rfl jv (.tv (.b rfl)) (.cons (rt' := (ab (ak .i64))) rfl mR (.tv (.b rfl)) .nil)))) (zl z189 (zC s4 rfl rfl rfl (Lens.id _) (.tv (.b rfl)) (zZ (zR (zL s4 rfl rfl rfl (Lens.id _) (zJ (an (sN _ _ _ _ hq1 (mQ _ _ _ _) hq3) (.cons (.b rfl) (.cons (.b rfl) .nil)) rfl rfl) (zY rfl (aa (ae (aq ?_)))))))))))))))))))
  refine aZ (ι := Int) (fun v => ⟨[(9, .optr 9 cB.n 0 0), (10, .tv (ab (ak .i64)) (bst par pri (ocA par pri app) v))], [(9, ⟨cB, [(par, pri, (ocA par pri app))]⟩)]⟩) (fun v => (-1 ≤ v ∧ v < par.length) ∧ fcL par pri (ocA par pri app) ((par.length : Int) - v).toNat (bst par pri (ocA par pri app) v) = fcB par pri app) (fun v => ((par.length : Int) - v).toNat) (-1) (⟨⟨by omega, by omega⟩, by unfold fcB; exact vg hv0 _ _ _ zo zo zo⟩) (fun a w hi => (zI hi)) ?_
  rintro v ⟨hvr, hinv⟩
  refine ae (zR (zM rfl (zN bd rfl (ze rfl rfl (zZ ?_)))))
  refine af rfl (fun h5 => ?_) (fun h5 => ?_)
  · have h5 : (bst par pri (ocA par pri app) v).length = 1 := by have := eq_of_beq h5; omega
    have hb1 : gi (bst par pri (ocA par pri app) v) 0 = (bst par pri (ocA par pri app) v)[0] := jc (k := 0) zo
    have hdn := uw hv0 h5
    rw [hb1] at hdn
    refine ah (aa (aq ?_))
    refine dN mo zk ( zS (aj s4 (.b rfl) rfl rfl (Lens.id _)) ( zS (ag (.b rfl)) ( zS (al bd ty3 (.b rfl) (.b rfl) (show (0 : Int) = ((0 : Nat) : Int) from rfl) zg) ( zS (aA ty3 (.b rfl)) ( zS (an (sN _ _ _ _ hq1 (mQ _ _ _ _) hq3) (.cons (.b rfl) (.cons (.b rfl) .nil)) rfl rfl) ( zS (aU (.b rfl)) ( AS.nil))))))) ?_
    refine aG ?_
    exact aD (fun a w hi => ⟨(bst par pri (ocA par pri app) v)[0], zo, (by exact ⟨⟨by omega, by omega⟩, by rw [← hinv, show ((par.length : Int) - v).toNat = ((par.length : Int) - v - 1).toNat + 1 by omega, fcL, if_pos h5, hb1]; exact vg hv0 _ _ _ zo zo zo⟩), (zI hi)⟩)
  have h5 : ¬ (bst par pri (ocA par pri app) v).length = 1 := by have := beq_eq_false_iff_ne.1 h5; omega
  have hfb : fcB par pri app = (bst par pri (ocA par pri app) v) := by rw [← hinv, show ((par.length : Int) - v).toNat = ((par.length : Int) - v - 1).toNat + 1 by omega, fcL, if_neg h5]
  refine bg (be (aY (bf (aa (ae (ae (ac (zM rfl (zN bd rfl (zt rfl rfl (zZ ?_)))))))))))
  refine af rfl (fun h7 => ?_) (fun h7 => ?_)
  · have h7 : (bst par pri (ocA par pri app) v).length < 2 := by simp at h7; omega
    refine zR (zA rfl (zA rfl (zY rfl (aa (am (ai ?_))))))
    exact cS results34 (aw rfl) (aw rfl) (aw rfl) ⟨rfl, rfl, rfl⟩ (by unfold fcT; rw [if_neg (by rw [h1]; simp), hfb, if_pos h7])
  have h7 : ¬ (bst par pri (ocA par pri app) v).length < 2 := by simp at h7; omega
  refine ah (aa (ae ?_))
  refine dN mo zk ( zS (ag (.b rfl)) ( zS (al bd ty3 (.b rfl) (.b rfl) (show (0 : Int) = ((0 : Nat) : Int) from rfl) zg) ( zS (aA ty3 (.b rfl)) ( zS (ag (.b rfl)) ( zS (al bd ty3 (.b rfl) (.b rfl) (show (1 : Int) = ((1 : Nat) : Int) from rfl) zg) ( zS (aA ty3 (.b rfl)) ( zS (aU (.b rfl)) ( zS (aU (.b rfl)) ( zS (aU (.b rfl)) ( AS.nil)))))))))) ?_
  refine aa (am ?_)
  exact cS results34 (aw rfl) (aw rfl) (aw rfl) ⟨rfl, rfl, rfl⟩ (by unfold fcT; rw [if_neg (by rw [h1]; simp), hfb, if_neg h7, show gi (bst par pri (ocA par pri app) v) 0 = (bst par pri (ocA par pri app) v)[0] from jc (k := 0) zo, show gi (bst par pri (ocA par pri app) v) 1 = (bst par pri (ocA par pri app) v)[1] from jc (k := 1) zo]; rfl)
open C15 C23
theorem yC (s : ba) (tb : List cy) (date : Int) (par pri : List Int) (x : List bh) (sg : a6) (ix : List Nat) (hin : ∀ i ∈ ix, i < s.2.2.2.2.length) (hG : ∀ i ∈ ix, GOK sg x (grd s.2.2.2.2 i)) (hil : ix.length ≤ 1000) : Ct prog 40 [.eptr lh (s, tb, date, nI ix, par, pri), .tv (ab aS) x] (.raw (.int .i64 (kr par pri (apF s.2.2.2.2 ix x)))) := by
  refine ay func40 rfl rfl ntmps40 rfl rfl ?_
  intro w0 ok0
  have hnl0 := cr ix
  have hnl1 : ((s, tb, date, nI ix, par, pri) : wU).2.2.2.1.length = ix.length := hnl0
  refine zR (zY rfl (aa (zR (zM rfl (zJ (cI (.b rfl)) (zB lA mU rfl (zD ek rfl (zN bd rfl (zO (dL fq ty4 z4 rfl by4 (.b rfl) (.b rfl) zo (by unfold maxLen; omega) rfl rfl rfl) (zY rfl (aa (ae ?_))))))))))))
  refine bZ mo zk ( zE [] (ag (.b rfl)) ( zE [] (cI (.b rfl)) ( zE [] (aO AT wb (.b rfl)) ( zE [] (aA ty3 (.b rfl)) ( zE [] (ag (.b rfl)) ( zE [] (ag (.b rfl)) ( zE [] (cI (.b rfl)) ( zE [] (aO AU wc (.b rfl)) ( zE [] (aA jl (.b rfl)) ( zE [] (aI sV rfl vP (.cons (rt' := (ak .i64)) rfl pn (.raw (.b rfl) rfl) (.cons (rt' := (ab aS)) rfl lR (.tv (.b rfl)) (.cons (rt' := (ab ch)) rfl r6 (.tv (.b rfl)) .nil)))) ( AE.cons _ _ _ rfl (d9 _ sV rfl) ( AE.cons _ _ _ rfl (bF hZ (.b rfl) rfl rfl (Lens.id _) (.tv (.b rfl))) ( AE.nil))))))))))))) zk ?_
  refine aa (ae (zR (zM rfl (zJ (cI (.b rfl)) (zB lA mU rfl (zD ek rfl (zN bd rfl (zM rfl (zZ (aq ?_))))))))))
  refine aZ (ι := Nat) (fun k => ⟨[(0, .eptr lh (s, tb, date, nI ix, par, pri)), (5, .own 17 bP.n 0 (nI ix).length), (6, .optr 6 fC.n 0 0), (31, .tv (ab (ak .i64)) (nI ix)), (32, .raw (.int .i64 ((nI ix).length))), (33, .raw (.int .i64 ((k : Nat))))], [(6, ⟨fC, [(date, x, [], [], [], tb)]⟩), (17, ⟨bP, (apK s.2.2.2.2 ix x k)⟩)]⟩) (fun k => k ≤ ix.length) (fun k => ix.length - k) 0 (Nat.zero_le _) (fun a w hi => (Sub.inv ⟨(by repeat (first | exact aQ | refine aM rfl (by first | rfl | (simp; done)) ?_)), (by repeat (first | exact bn | refine aL rfl (by first | rfl | (exact congrArg (HB.mk bP) (gF _ _ _).symm) | (exact congrArg (HB.mk bP) ((gF _ _ _).trans (congrArg (fun n => List.replicate n false) (cr ix).symm))) | (exact congrArg (HB.mk bP) ((gF _ _ _).trans (congrArg (fun n => List.replicate n false) (cr ix).symm)).symm) | (rw [gF, ← cr]; done) | (rw [gF, cr]; done) | (simp [gF, cr]; done)) ?_))⟩ hi)) ?_
  rintro k hk
  have hal := sQ (rs := s.2.2.2.2) (x := x) hk
  have hnl := cr ix
  refine zR (zt rfl rfl (zZ (ae ?_)))
  refine af rfl (fun h4 => ?_) (fun h4 => ?_)
  · have h3 : k < ix.length := by simp only [cr, decide_eq_true_eq, decide_eq_false_iff_not] at h4; omega
    have hat := oN h3 (h' := by rw [cr]; exact h3)
    have hir := hin _ (List.getElem_mem h3)
    have hgr := kJ hir
    have hap := Br (rs := s.2.2.2.2) (x := x) h3
    refine ah (aa (ae (aq (zR (zM rfl ?_)))))
    refine bc _ rfl _ rfl rfl (al bd ty3 (.b rfl) (.b rfl) rfl zg) ?_
    refine zD ty3 rfl (zA rfl (zY rfl (aa (zR (zM rfl (zJ (cI (.b rfl)) (zB qr pp rfl (zB dw dT rfl (zD jh rfl (zM rfl ?_))))))))))
    refine bc _ rfl _ rfl rfl (al ga dp (.b rfl) (.b rfl) hat zg) ?_
    refine zB eQ fG rfl (zD hP rfl (zY rfl (aa (ae (zR (zM rfl (zN fB rfl (ze rfl rfl (zZ ?_)))))))))
    refine af rfl (fun h7 => ?_) (fun h7 => ?_)
    · have h7 : (((s.2.2.2.2[ix[k]]'hir).2.2.2.2.2.1.length : Int) == 0) = true := h7
      have hz : (grd s.2.2.2.2 ix[k]).length = 0 := by rw [hgr]; have := eq_of_beq h7; omega
      have hs := hap
      rw [qD hz] at hs
      refine zR (zM rfl (zM rfl (zJ (bu fq ty4 (.b rfl) (.b rfl) rfl zh) ?_)))
      refine eN _ rfl (bK ty4 (.b rfl) rfl zg (Lens.id _) (.raw (.b rfl) rfl)) ?_
      refine zZ (bg (be (bf (aa (ac (zU rfl rfl zw (zM rfl (aN ?_))))))))
      exact aD (fun a w hi => ⟨k + 1, zo, zo, zW hi⟩)
    have h7 : (((s.2.2.2.2[ix[k]]'hir).2.2.2.2.2.1.length : Int) == 0) = false := h7
    have hz : ¬ (grd s.2.2.2.2 ix[k]).length = 0 := by rw [hgr]; have := beq_eq_false_iff_ne.1 h7; omega
    obtain ⟨⟨ty, hF⟩, hst, h100⟩ := hG _ (List.getElem_mem h3) zo
    rw [qC hz, hgr] at hap
    rw [hgr] at hF hst h100
    have hs := hap
    refine ah (aa (zR (zM rfl (zL hZ rfl rfl rfl (Lens.id _) (zJ (an (sB _ sg ty _ hF hst h100) (.cons (.b rfl) (.cons (.b rfl) .nil)) rfl rfl) (zM rfl (zJ (bj (.b rfl)) (zJ (bi (.b rfl)) (zl z183 (zC bI rfl rfl rfl (Lens.id _) (.tv (.b rfl)) (zY rfl (aa (ac (zM rfl (zM rfl (zM rfl (ze rfl rfl (zM rfl (zG rfl rfl (fun hg => ao cw (.b rfl)) (zG rfl rfl (fun hg => aj ty3 (.gd rfl hg) rfl rfl cp) (zG rfl rfl (fun hg => ca (.gd rfl hg) (.b rfl)) (zJ (aF (.b rfl) (.b rfl) rfl zp) (zJ (bu fq ty4 (.b rfl) (.b rfl) rfl zh) ?_)))))))))))))))))))))))
    refine eN _ rfl (bK ty4 (.b rfl) rfl zg (Lens.id _) (.raw (.b rfl) rfl)) ?_
    refine aN (aG (aa (ac (zU rfl rfl zw (zM rfl (aN ?_))))))
    exact aD (fun a w hi => ⟨k + 1, zo, zo, zW hi⟩)
  have h3 : k = ix.length := by simp only [cr, decide_eq_true_eq, decide_eq_false_iff_not] at h4; omega
  subst h3
  refine bg (be (aY (bf (aa (ae ?_)))))
  refine kH (rt := bP) 17 5 (b8 17 _) rfl rfl zo (bl 17 _) (bC 17 _) ?_
  rw [List.drop_zero, List.take_of_length_le zo, Bs]
  refine dN mo zk ( zS (ag (.b rfl)) ( zS (cI (.b rfl)) ( zS (aO uf wa (.b rfl)) ( zS (aA ek (.b rfl)) ( zS (ag (.b rfl)) ( zS (cI (.b rfl)) ( zS (aO ue vZ (.b rfl)) ( zS (aA ek (.b rfl)) ( zS (ag (.b rfl)) ( zS (an (pd _ _ _) (.cons (.b rfl) (.cons (.b rfl) (.cons (.b rfl) .nil))) rfl rfl) ( zS (aU (.b rfl)) ( AS.nil)))))))))))) ?_
  refine aa (am ?_)
  exact z1 results40 rfl (rfl)
end Go.Proofs.YtehcaebnijlhgaaGreatDoor
namespace Go.Proofs.YtehcaebnijlhgaaGreatDoor
open Go.Eng Tryz
set_option maxRecDepth 100000
set_option maxHeartbeats 4000000
open C15
theorem uN (l : cA) (i : Nat) (d date : Int) (hi0 : i < l.2.2.length) (hlm : l.2.2[i].2.2.2.2.length ≤ 100000) : Ct prog 38 [.tv cz l, .raw (.int .i64 (i : Nat)), .raw (.int .i64 d), .raw (.int .i64 date)] (.eptr lh (l.2.2[i], l.2.1, date, ik (fD d date) l.2.2[i].2.2.2.2 l.2.2[i].2.2.2.2.length, kX (fD d date) l.2.2[i].2.2.2.2 l.2.2[i].2.2.2.2.length, uI (fD d date) l.2.2[i].2.2.2.2 l.2.2[i].2.2.2.2.length)) := by
  refine ay func38 rfl rfl ntmps38 rfl rfl ?_
  intro w0 ok0
  refine zR (zb (.tv (.b rfl)) (zY rfl (aa (ae ?_))))
  refine bZ mo zk ( zE [4] (ao cN (.b rfl)) ( zE [4] (aj gB (.b rfl) rfl rfl du) ( zE [] (ag (.b rfl)) ( zE [] (al fx dx (.b rfl) (.b rfl) rfl zg) ( zE [] (aA dx (.b rfl)) ( zE [4] (ao fo (.b rfl)) ( zE [4] (aj jl (.b rfl) rfl rfl gN) ( zE [] (ag (.b rfl)) ( zE [] (aI z112 rfl pl112 (.cons (rt' := bx) rfl pp (.tv (.b rfl)) (.cons (rt' := (ab ch)) rfl wc (.tv (.b rfl)) (.cons (rt' := (ak .i64)) rfl wb (.raw (.b rfl) rfl) .nil)))) ( AE.cons _ _ _ rfl (gh_box (.tv (.b rfl)) rfl) ( zE [19] (aU (.b rfl)) ( AE.nil)))))))))))) zk ?_
  refine aa (zR (zM rfl (zM rfl (zM rfl (zM rfl (zJ (dm (.b rfl)) (zF qr rfl (zL dx rfl rfl rfl pp (zM rfl (zM rfl (zJ (an (nY _ _ _ zo) (.cons (.b rfl) (.cons (.b rfl) (.cons (.b rfl) .nil))) rfl rfl) (zM rfl (zJ (d7 (.b rfl)) (zJ (d6 (.b rfl)) (zJ (d5 (.b rfl)) (zJ (dm (.b rfl)) (zF lA rfl (zC ek rfl rfl rfl mU (.tv (.b rfl)) (zJ (dm (.b rfl)) (zF uf rfl (zC ek rfl rfl rfl wa (.tv (.b rfl)) (zJ (dm (.b rfl)) (zF ue rfl (zC ek rfl rfl rfl vZ (.tv (.b rfl)) (zZ (ae ?_))))))))))))))))))))))))))
  refine lU 19 9 (b8 19 _) rfl rfl (bl 19 _) (bC 19 _) ?_
  refine ac (zM rfl (zY rfl (aa (am ?_))))
  exact z1 results38 rfl rfl
end Go.Proofs.YtehcaebnijlhgaaGreatDoor
