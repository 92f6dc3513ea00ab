import Derived.Test.YtehcaebnijlhgaaGreatDoorM3
import Derived.Test.YtehcaebnijlhgaaGreatDoorM7
import Derived.Test.YtehcaebnijlhgaaGreatDoorM4
import Derived.Laws.Bits64
import Derived.Shelf.GgSortFunc.RowK
import Derived.Sort.AssemblyPlain
import Derived.Lib.Bits
set_option linter.unusedVariables false
set_option linter.unusedSimpArgs false
namespace Go.Proofs.YtehcaebnijlhgaaGreatDoor
open Go.Eng Tryz
set_option maxRecDepth 100000
set_option maxHeartbeats 4000000
open C15
def qo (l : List cf) : List bE := l.map (fun f => f.2)
theorem zm {α β : Type} (f : α → β) {l : List α} {k : Nat} (h : k < l.length) : (l.take (k + 1)).map f = (l.take k).map f ++ [f l[k]] := by
  rw [List.take_succ_eq_append_getElem h, List.map_append]; rfl
theorem zn {α β : Type} (f : α → β) (l : List α) (k : Nat) : ((l.take k).map f).length ≤ l.length := by simp; omega
def uQ (l : cA) (s : ba) : Option ba := if 0 ≤ s.2.1 then l.2.2[s.2.1.toNat]? else none
def memT (l : cA) (s : ba) : List bE := match uQ l s with | some m => qo m.2.2.2.1 | none => []
def eH (l : cA) (s : ba) : a6 := (l.1, l.2.1, qo s.2.2.1, qo s.2.2.2.1, memT l s, (uQ l s).isSome)
theorem uO {l : cA} {s : ba} (h : 0 ≤ s.2.1 ∧ s.2.1 < l.2.2.length) : uQ l s = some (l.2.2[s.2.1.toNat]'zo) := by
  unfold uQ; rw [if_pos h.1, List.getElem?_eq_getElem]
theorem uP {l : cA} {s : ba} (h : ¬ (0 ≤ s.2.1 ∧ s.2.1 < l.2.2.length)) : uQ l s = none := by
  unfold uQ
  split
  · rw [List.getElem?_eq_none]; omega
  rfl
theorem x3 (l : List jU) (hlm : l.length ≤ 1000000) : Ct prog 112 [.tv (ab ib) l] (.tv (ab ib) l) := by
  refine ay func112 rfl rfl ntmps112 rfl rfl ?_
  intro w0 ok0
  refine zR (zY rfl (aa (ae (zR (zM rfl ?_)))))
  refine Ab 3 rfl (fun A cap hA => ?_)
  refine zJ (ra md (.b rfl) (.b rfl)) (zZ ?_)
  refine af rfl (fun h1 => ?_) (fun h1 => ?_)
  · have hl : l = [] := hA (Option.isNone_iff_eq_none.1 h1)
    refine zR (zY rfl (aa (am (ai ?_))))
    exact cv results112 (dl rfl) rfl (by rw [hl])
  skip
  refine ah (aa (zR (zO (gI (rt := ib) (ds := []) md oT z65 rfl .nil rfl rfl rfl rfl rfl) (zM rfl (zV [] md oT z65 by65 rfl rfl (.tv (.b rfl)) ?_)))))
  refine zY rfl (aa (am ?_))
  refine cY (rt := ib) 5 2 (b8 5 _) rfl rfl (by simp) (bl 5 _) (bC 5 _) ?_
  exact z1 results112 rfl (congrArg (SV.tv (ab ib)) (by simp))
theorem sm (l : List cf) (hl : l.length ≤ 1000000) : Ct prog 110 [.tv (ab cq) l] (.tv (ab aX) (qo l)) := by
  refine ay func110 rfl rfl ntmps110 rfl rfl ?_
  intro w0 ok0
  refine zR (zY rfl (aa (zR (zY rfl (aa (ae (zR (zM rfl (zN ei rfl (zM rfl (zZ (aq ?_))))))))))))
  refine eO 70 3 aX rfl rfl rfl ?_
  refine aZ (ι := Nat) (fun k => ⟨[(3, .own 70 aX.n 0 ((l.take k).map (fun f : cf => f.2)).length), (6, .tv (ab cq) l), (7, .raw (.int .i64 (l.length))), (8, .raw (.int .i64 ((k : Nat))))], [(70, ⟨aX, ((l.take k).map (fun f : cf => f.2))⟩)]⟩) (fun k => k ≤ l.length) (fun k => l.length - k) 0 (Nat.zero_le _) (fun a w hi => (zI hi)) ?_
  rintro k hk
  have hal := zn (fun f : cf => f.2) l k
  refine zR (zt rfl rfl (zZ (ae ?_)))
  refine af rfl (fun h3 => ?_) (fun h3 => ?_)
  · have h3 : k < l.length := by simpa using h3
    have hs := zm (fun f : cf => f.2) h3
    refine ah (aa (ae (aq (zR ?_))))
    refine bc _ rfl _ rfl rfl (al ei e8 (.b rfl) (.b rfl) rfl zg) ?_
    refine zD e8 rfl (zl z92 (zC e8 rfl rfl rfl (Lens.id _) (.tv (.b rfl)) (zZ (ac (zM rfl (zF gq rfl (zL aE rfl rfl rfl fN (zJ (bq (rt := aX) cK aE z90 rfl (.cons (.tv (.b rfl)) .nil) rfl rfl) (zV [6,7,8] cK aE z90 by90 rfl rfl (.tv (.b rfl)) ?_)))))))))
    refine zY rfl (aG (aa (ac (zU rfl rfl zw (zM rfl (aN ?_))))))
    exact aD (fun a w hi => ⟨k + 1, zj, zo, zW hi⟩)
  simp at h3
  obtain rfl : k = l.length := by omega
  refine bg (be (aY (bf (aa (ae (ac (zM rfl (zY rfl (aa (am ?_))))))))))
  rw [List.take_length] at *
  refine cY (rt := aX) 70 2 (b8 70 _) rfl rfl (by simp) (bl 70 _) (bC 70 _) ?_
  exact z1 results110 rfl (congrArg (SV.tv (ab aX)) (by rw [List.drop_zero, List.take_length]; rfl))
theorem x4 (l : List bV) (hl : l.length ≤ 1000000) (hE : ∀ e ∈ l, e.2.length ≤ 1000000) : Ct prog 67 [.tv (ab cX) l] (.tv (ab cX) (l)) := by
  refine ay func67 rfl rfl ntmps67 rfl rfl ?_
  intro w0 ok0
  refine zR (zY rfl (aa (zR (zY rfl (aa (ae (zR (zM rfl (zN jg rfl (zM rfl (zZ (aq ?_))))))))))))
  refine eO 70 3 cX rfl rfl rfl ?_
  refine aZ (ι := Nat) (fun k => ⟨[(3, .own 70 cX.n 0 ((l.take k).map (fun e : bV => e)).length), (6, .tv (ab cX) l), (7, .raw (.int .i64 (l.length))), (8, .raw (.int .i64 ((k : Nat))))], [(70, ⟨cX, ((l.take k).map (fun e : bV => e))⟩)]⟩) (fun k => k ≤ l.length) (fun k => l.length - k) 0 (Nat.zero_le _) (fun a w hi => (zI hi)) ?_
  rintro k hk
  have hal := zn (fun e : bV => e) l k
  refine zR (zt rfl rfl (zZ (ae ?_)))
  refine af rfl (fun h3 => ?_) (fun h3 => ?_)
  · have h3 : k < l.length := by simpa using h3
    have hs := zm (fun e : bV => e) h3
    have hcl := hE _ (List.getElem_mem h3)
    refine ah (aa (ae (aq (zR ?_))))
    refine bc _ rfl _ rfl rfl (al jg gf (.b rfl) (.b rfl) rfl zg) ?_
    refine zD gf rfl (zl yc (zC gf rfl rfl rfl (Lens.id _) (.tv (.b rfl)) (zZ ?_)))
    refine gP 8 mo zk zk ( zS (ag (.b rfl)) ( zS (ao lz (.b rfl)) ( zS (aj ty9 (.b rfl) rfl rfl lQ) ( zS (ao fh (.b rfl)) ( zS (aj k9 (.b rfl) rfl rfl fF) ( zS (an (xZ _ hcl) (.cons (.b rfl) .nil) rfl rfl) ( zS (aI yc rfl pl156 (.cons (rt' := dG) rfl lQ (.raw (.b rfl) rfl) (.cons (rt' := (ab dG)) rfl fF (.tv (.b rfl)) .nil))) ( zS (bq (rt := cX) jg gf yc rfl (.cons (.tv (.b rfl)) .nil) rfl rfl) ( AS.nil))))))))) rfl rfl (dn [6, 7, 8] jg gf yc rfl by156 (.b rfl) rfl (by (try simp); try omega) (.tv (.b rfl)) (by unfold maxLen; (try simp); try omega) (by (try simp); try omega) rfl (.cons rfl (.cons rfl (.cons rfl .nil))) rfl) ( zS (aU (.b rfl)) ( AS.nil)) ?_
    refine aG (aa (ac (zU rfl rfl zw (zM rfl (aN ?_)))))
    exact aD (fun a w hi => ⟨k + 1, zj, zo, zW hi⟩)
  simp at h3
  obtain rfl : k = l.length := by omega
  refine bg (be (aY (bf (aa (ae (ac (zM rfl (zY rfl (aa (am ?_))))))))))
  rw [List.take_length] at *
  refine cY (rt := cX) 70 2 (b8 70 _) rfl rfl (by simp) (bl 70 _) (bC 70 _) ?_
  exact z1 results67 rfl (congrArg (SV.tv (ab cX)) (by rw [List.drop_zero, List.take_length]; simp))
theorem xY (l : List cy) (hl : l.length ≤ 1000000) (hE : ∀ e ∈ l, e.2.2.2.length ≤ 1000000) : Ct prog 68 [.tv (ab ch) l] (.tv (ab ch) (l)) := by
  refine ay func68 rfl rfl ntmps68 rfl rfl ?_
  intro w0 ok0
  refine zR (zY rfl (aa (zR (zY rfl (aa (ae (zR (zM rfl (zN jW rfl (zM rfl (zZ (aq ?_))))))))))))
  refine eO 70 3 ch rfl rfl rfl ?_
  refine aZ (ι := Nat) (fun k => ⟨[(3, .own 70 ch.n 0 ((l.take k).map (fun e : cy => e)).length), (6, .tv (ab ch) l), (7, .raw (.int .i64 (l.length))), (8, .raw (.int .i64 ((k : Nat))))], [(70, ⟨ch, ((l.take k).map (fun e : cy => e))⟩)]⟩) (fun k => k ≤ l.length) (fun k => l.length - k) 0 (Nat.zero_le _) (fun a w hi => (zI hi)) ?_
  rintro k hk
  have hal := zn (fun e : cy => e) l k
  refine zR (zt rfl rfl (zZ (ae ?_)))
  refine af rfl (fun h3 => ?_) (fun h3 => ?_)
  · have h3 : k < l.length := by simpa using h3
    have hs := zm (fun e : cy => e) h3
    have hcl := hE _ (List.getElem_mem h3)
    refine ah (aa (ae (aq (zR ?_))))
    refine bc _ rfl _ rfl rfl (al jW ge (.b rfl) (.b rfl) rfl zg) ?_
    refine zD ge rfl (zl BC (zC ge rfl rfl rfl (Lens.id _) (.tv (.b rfl)) (zZ (zR (zF kc rfl (zL qU rfl rfl rfl lP (zJ (an (x3 _ hcl) (.cons (.b rfl) .nil) rfl rfl) (zF kc rfl (zC qU rfl rfl rfl lP (.tv (.b rfl)) (zZ (ac (zM rfl (zL ge rfl rfl rfl (Lens.id _) (zJ (bq (rt := ch) jW ge BC rfl (.cons (.tv (.b rfl)) .nil) rfl rfl) (zV [6,7,8] jW ge BC by159 rfl rfl (.tv (.b rfl)) ?_)))))))))))))))
    refine zY rfl (aG (aa (ac (zU rfl rfl zw (zM rfl (aN ?_))))))
    exact aD (fun a w hi => ⟨k + 1, zj, zo, zW hi⟩)
  simp at h3
  obtain rfl : k = l.length := by omega
  refine bg (be (aY (bf (aa (ae (ac (zM rfl (zY rfl (aa (am ?_))))))))))
  rw [List.take_length] at *
  refine cY (rt := ch) 70 2 (b8 70 _) rfl rfl (by simp) (bl 70 _) (bC 70 _) ?_
  exact z1 results68 rfl (congrArg (SV.tv (ab ch)) (by rw [List.drop_zero, List.take_length]; simp))
theorem td (l : cA) (i : Nat) (hi : i < l.2.2.length) (hS : ∀ s ∈ l.2.2, s.2.2.1.length ≤ 1000000 ∧ s.2.2.2.1.length ≤ 1000000) : Ct prog 66 [.tv cz l, .raw (.int .i64 (i : Nat))] (.tv bS (eH l l.2.2[i])) := by
  refine ay func66 rfl rfl ntmps66 rfl rfl ?_
  intro w0 ok0
  have hsi := hS _ (List.getElem_mem hi)
  refine zR (zb (.tv (.b rfl)) (zl z86 (zZ (zR (zF cN rfl (zL gB rfl rfl rfl du (zM rfl ?_)))))))
  refine bc _ rfl _ rfl rfl (al fx dx (.b rfl) (.b rfl) rfl zg) ?_
  refine zD dx rfl (zl z81 (zC dx rfl rfl rfl (Lens.id _) (.tv (.b rfl)) (zZ (ae ?_))))
  refine bZ mo zk ( zE [2] (ao es (.b rfl)) ( zE [2] (aj hU (.b rfl) rfl rfl fy) ( zE [2] (ao fo (.b rfl)) ( zE [2] (aj jl (.b rfl) rfl rfl gN) ( zE [5] (ao fm (.b rfl)) ( zE [5] (aj fj (.b rfl) rfl rfl fO) ( zE [] (an (sm _ zo) (.cons (.b rfl) .nil) rfl rfl) ( zE [5] (ao dD (.b rfl)) ( zE [5] (aj fj (.b rfl) rfl rfl d8) ( zE [] (an (sm _ zo) (.cons (.b rfl) .nil) rfl rfl) ( zE [] (aI z86 rfl pl86 (.cons (rt' := (ab cX)) rfl i9 (.tv (.b rfl)) (.cons (rt' := (ab ch)) rfl kE (.tv (.b rfl)) (.cons (rt' := (ab aX)) rfl zx (.tv (.b rfl)) (.cons (rt' := (ab aX)) rfl zu (.tv (.b rfl)) .nil))))) ( AE.cons _ _ _ rfl (d9 _ z86 rfl) ( AE.cons _ _ _ rfl (bF eV (.b rfl) rfl rfl (Lens.id _) (.tv (.b rfl))) ( AE.nil)))))))))))))) zk ?_
  refine aa (ae (zR (zF gu rfl (zL ty3 rfl rfl rfl gM (zJ (bW (.b rfl) (.b rfl)) (zM rfl (zG rfl rfl (fun hg => ao gu (.b rfl)) (zG rfl rfl (fun hg => aj ty3 (.gd rfl hg) rfl rfl gM) (zG rfl rfl (fun hg => ao cN (.b rfl)) (zG rfl rfl (fun hg => aj gB (.gd rfl hg) rfl rfl du) (zG rfl rfl (fun hg => cJ fx (.gd rfl hg)) (zG rfl rfl (fun hg => dS (.gd rfl hg) (.gd rfl hg)) (zJ (aF (.b rfl) (.b rfl) rfl zp) (zZ ?_))))))))))))))
  refine af rfl (fun h3 => ?_) (fun h3 => ?_)
  · have h3 : 0 ≤ l.2.2[i].2.1 ∧ l.2.2[i].2.1 < l.2.2.length := by simpa using h3
    have hmm := hS _ (List.getElem_mem (show l.2.2[i].2.1.toNat < l.2.2.length by omega))
    refine zR (zF cN rfl (zL gB rfl rfl rfl du (zF gu rfl (zL ty3 rfl rfl rfl gM ?_))))
    refine bc _ rfl _ rfl rfl (al fx dx (.b rfl) (.b rfl) (Int.toNat_of_nonneg h3.1).symm zg) ?_
    refine zB dD d8 rfl (zD fj rfl (zJ (an (sm _ zo) (.cons (.b rfl) .nil) rfl rfl) (zF wA rfl (zC yk rfl rfl rfl zr (.tv (.b rfl)) (zZ (ac (zF wz rfl (zC ty4 rfl rfl rfl zq (.raw (.b rfl) rfl) (zZ (zR (zL eV rfl rfl rfl (Lens.id _) (zC eV rfl rfl rfl (Lens.id _) (.tv (.b rfl)) (zZ (am ?_))))))))))))))
    exact cv results66 (ax eV rfl rfl rfl (Lens.id bS)) rfl (congrArg (SV.tv bS) (by unfold eH memT; first | (rw [uO h3]; rfl) | (rw [uP h3]; rfl)))
  have h3 : ¬ (0 ≤ l.2.2[i].2.1 ∧ l.2.2[i].2.1 < l.2.2.length) := by simpa using h3
  refine ah (aa (zR (zL eV rfl rfl rfl (Lens.id _) (zC eV rfl rfl rfl (Lens.id _) (.tv (.b rfl)) (zZ (am ?_))))))
  exact cv results66 (ax eV rfl rfl rfl (Lens.id bS)) rfl (congrArg (SV.tv bS) (by unfold eH memT; first | (rw [uO h3]; rfl) | (rw [uP h3]; rfl)))
theorem sig_ok (l : cA) (i : Nat) (hi : i < l.2.2.length) (hS : ∀ s ∈ l.2.2, s.2.2.1.length ≤ 1000000 ∧ s.2.2.2.1.length ≤ 1000000) (hE1 : l.1.length ≤ 1000000) (hE2 : ∀ e ∈ l.1, e.2.length ≤ 1000000) (hT1 : l.2.1.length ≤ 1000000) (hT2 : ∀ t ∈ l.2.1, t.2.2.2.length ≤ 1000000) : Ct prog 23 [.tv cz l, .raw (.int .i64 (i : Nat))] (.tv bS (eH l l.2.2[i])) := by
  refine ay func23 rfl rfl ntmps23 rfl rfl ?_
  intro w0 ok0
  refine zR (zb (.tv (.b rfl)) (zl z86 (zZ (ae (zR (zM rfl (zt rfl rfl (zM rfl (zG rfl rfl (fun hg => ag (.b rfl)) (zG rfl rfl (fun hg => ao cN (.b rfl)) (zG rfl rfl (fun hg => aj gB (.gd rfl hg) rfl rfl du) (zG rfl rfl (fun hg => cJ fx (.gd rfl hg)) (zG rfl rfl (fun hg => bW (.gd rfl hg) (.gd rfl hg)) (zJ (aB (.b rfl) (.b rfl) rfl zp) (zZ ?_)))))))))))))))
  refine af rfl (fun h1 => ?_) (fun h1 => ?_)
  · exfalso; first | (simp at h1; done) | (simp at h1; omega)
  skip
  refine ah (aa (zR (zL e9 rfl rfl rfl (Lens.id _) (zM rfl (zJ (an (td _ _ hi hS) (.cons (.b rfl) (.cons (.b rfl) .nil)) rfl rfl) (zl z86 (zC eV rfl rfl rfl (Lens.id _) (.tv (.b rfl)) (zZ (zR (zF gZ rfl (zL hU rfl rfl rfl i9 (zJ (an (x4 _ hE1 hE2) (.cons (.b rfl) .nil) rfl rfl) (zF gZ rfl (zC hU rfl rfl rfl i9 (.tv (.b rfl)) (zZ (zR (zF jB rfl (zL jl rfl rfl rfl kE (zJ (an (xY _ hT1 hT2) (.cons (.b rfl) .nil) rfl rfl) (zF jB rfl (zC jl rfl rfl rfl kE (.tv (.b rfl)) (zZ (zR (zL eV rfl rfl rfl (Lens.id _) (zC eV rfl rfl rfl (Lens.id _) (.tv (.b rfl)) (zZ (am ?_)))))))))))))))))))))))))))
  exact cv results23 (ax eV rfl rfl rfl (Lens.id bS)) rfl rfl
end Go.Proofs.YtehcaebnijlhgaaGreatDoor
namespace Go.Proofs.YtehcaebnijlhgaaGreatDoor.C15
open Go.Eng
open Go.Proofs.YtehcaebnijlhgaaGreatDoor.C05
set_option maxRecDepth 100000
set_option maxHeartbeats 4000000
noncomputable def dB (p : Prop) : Bool := @decide p (Classical.propDecidable p)
theorem qw {p : Prop} : dB p = true ↔ p := by unfold dB; exact @decide_eq_true_iff p (Classical.propDecidable p)
theorem CE {p : Prop} (h : p) : dB p = true := qw.2 h
theorem qx {p : Prop} (h : ¬ p) : dB p = false := by rw [Bool.eq_false_iff]; exact fun q => h (qw.1 q)
end Go.Proofs.YtehcaebnijlhgaaGreatDoor.C15
namespace Go.Proofs.YtehcaebnijlhgaaGreatDoor.C15
open Go.Eng Tryz
open Go.Proofs.YtehcaebnijlhgaaGreatDoor.C05
set_option maxRecDepth 100000
set_option maxHeartbeats 4000000
def SmE (e : bV) : Prop := e.1.length ≤ 80 ∧ e.2.length ≤ 20 ∧ ∀ m ∈ e.2, m.length ≤ 80
def SmR (r : bB) : Prop := r.1.length ≤ 80 ∧ r.2.2.2.2.2.2.2.length ≤ 80 ∧ r.2.2.2.2.2.1.length ≤ 50 ∧ r.2.2.2.2.2.2.1.length ≤ 50
def SmF (f : cf) : Prop := f.1.length ≤ 80
def SmS (s : ba) : Prop := (s.1.length ≤ 80 ∧ s.2.2.1.length ≤ 14 ∧ s.2.2.2.1.length ≤ 14 ∧ s.2.2.2.2.length ≤ 60) ∧ (∀ f ∈ s.2.2.1, SmF f) ∧ (∀ f ∈ s.2.2.2.1, SmF f) ∧ ∀ r ∈ s.2.2.2.2, SmR r
def SmT (t : cy) : Prop := t.1.length ≤ 80
def n3 (ts : List cy) : Nat := (ts.map (fun t => t.2.2.2.length)).sum
def oU (ts : List ba) : Nat := (ts.map (fun t => t.2.2.2.2.length)).sum
def WL (l : cA) : Prop := (∀ t ∈ l.2.1, t.2.2.2.length ≤ 140737488351232) ∧ ∀ s ∈ l.2.2, s.2.2.2.2.length ≤ 140737488351232
def SmL (l : cA) : Prop := (l.1.length ≤ 9 ∧ l.2.1.length ≤ 9 ∧ l.2.2.length ≤ 5) ∧ (∀ e ∈ l.1, SmE e) ∧ ((∀ t ∈ l.2.1, SmT t) ∧ n3 l.2.1 ≤ 150) ∧ (∀ s ∈ l.2.2, SmS s) ∧ oU l.2.2 ≤ 60
theorem nU {α : Type} {P : α → Prop} (xs : List α) : ∀ x ∈ xs.take 0, P x := by simp
theorem fi {α : Type} {P : α → Prop} {xs : List α} {k : Nat} (h : k < xs.length) (h1 : ∀ x ∈ xs.take k, P x) (h2 : P xs[k]) : ∀ x ∈ xs.take (k + 1), P x := by
  intro x hx; rw [List.take_succ_eq_append_getElem h, List.mem_append, List.mem_singleton] at hx
  rcases hx with hx | rfl
  · exact h1 x hx
  exact h2
theorem hO {α : Type} {P : α → Prop} {xs : List α} {k : Nat} (h : xs.length ≤ k) (h1 : ∀ x ∈ xs.take k, P x) : ∀ x ∈ xs, P x := by rw [List.take_of_length_le h] at h1; exact h1
theorem qW {ts : List cy} {k : Nat} (h : k < ts.length) : n3 (ts.take (k + 1)) = n3 (ts.take k) + ts[k].2.2.2.length := by
  unfold n3; rw [List.take_succ_eq_append_getElem h, List.map_append, List.sum_append]; simp
theorem vC (ts : List cy) (k : Nat) : n3 (ts.take k) ≤ n3 ts := by
  unfold n3
  have := congrArg (fun x => (x.map (fun t : cy => t.2.2.2.length)).sum) (List.take_append_drop k ts)
  simp only [List.map_append, List.sum_append] at this; omega
theorem wX {ts : List ba} {k : Nat} (h : k < ts.length) : oU (ts.take (k + 1)) = oU (ts.take k) + ts[k].2.2.2.2.length := by
  unfold oU; rw [List.take_succ_eq_append_getElem h, List.map_append, List.sum_append]; simp
theorem BO (ts : List ba) (k : Nat) : oU (ts.take k) ≤ oU ts := by
  unfold oU
  have := congrArg (fun x => (x.map (fun t : ba => t.2.2.2.2.length)).sum) (List.take_append_drop k ts)
  simp only [List.map_append, List.sum_append] at this; omega
theorem wZ (s : ba) : Ct prog 64 [.tv bx s] (.raw (.bool (dB (SmS s)))) := by
  refine ay func64 rfl rfl ntmps64 rfl rfl ?_
  intro w0 ok0
  refine zR (zb (.tv (.b rfl)) (zY rfl (aa (ae (zR (zF lX rfl (zL ty9 rfl rfl rfl lp (zJ (dy uT9 (.b rfl)) (zJ (bY (.b rfl) (.b rfl)) (zM rfl (zG rfl rfl (fun hg => ao fm (.b rfl)) (zG rfl rfl (fun hg => aj fj (.gd rfl hg) rfl rfl fO) (zG rfl rfl (fun hg => cJ ei (.gd rfl hg)) (zG rfl rfl (fun hg => bY (.gd rfl hg) (.b rfl)) (zJ (aB (.b rfl) (.b rfl) rfl zp) (zM rfl (zG rfl rfl (fun hg => ao dD (.b rfl)) (zG rfl rfl (fun hg => aj fj (.gd rfl hg) rfl rfl d8) (zG rfl rfl (fun hg => cJ ei (.gd rfl hg)) (zG rfl rfl (fun hg => bY (.gd rfl hg) (.b rfl)) (zJ (aB (.b rfl) (.b rfl) rfl zp) (zM rfl (zG rfl rfl (fun hg => ao dw (.b rfl)) (zG rfl rfl (fun hg => aj jh (.gd rfl hg) rfl rfl dT) (zG rfl rfl (fun hg => cJ ga (.gd rfl hg)) (zG rfl rfl (fun hg => bY (.gd rfl hg) (.b rfl)) (zJ (aB (.b rfl) (.b rfl) rfl zp) (zZ ?_))))))))))))))))))))))))))))
  refine af rfl (fun h1 => ?_) (fun h1 => ?_)
  · have h1 : ¬ (s.1.length ≤ 80 ∧ s.2.2.1.length ≤ 14 ∧ s.2.2.2.1.length ≤ 14 ∧ s.2.2.2.2.length ≤ 60) := by simp at h1; omega
    refine zR (zY rfl (aa (am (ai ?_))))
    exact z1 results64 rfl (rb ((qx (fun q => h1 q.1)).symm))
  have h1 : s.1.length ≤ 80 ∧ s.2.2.1.length ≤ 14 ∧ s.2.2.2.1.length ≤ 14 ∧ s.2.2.2.2.length ≤ 60 := by simp at h1; omega
  refine ah (aa (ae (zR (zY rfl (aa (aq ?_))))))
  refine aZ (ι := Nat) (fun k => ⟨[(1, .optr 1 bx.n 0 0), (3, .raw (.int .i64 ((k : Nat))))], [(1, ⟨bx, [s]⟩)]⟩) (fun k => k ≤ s.2.2.1.length ∧ ∀ x ∈ s.2.2.1.take k, SmF x) (fun k => s.2.2.1.length - k) 0 (⟨Nat.zero_le _, nU _⟩) (fun a w hi => (zI hi)) ?_
  rintro k ⟨hk, hp⟩
  refine ae (zR (zM rfl (zF fm rfl (zL fj rfl rfl rfl fO (zN ei rfl (zt rfl rfl (zZ ?_)))))))
  refine af rfl (fun h4 => ?_) (fun h4 => ?_)
  · simp at h4
    refine ah (aa (ae (aq (zR (zF fm rfl (zL fj rfl rfl rfl fO (zM rfl ?_)))))))
    refine bc _ rfl _ rfl rfl (al ei e8 (.b rfl) (.b rfl) rfl zg) ?_
    refine zB nC kD rfl (zD ty9 rfl (zJ (dy uT9 (.b rfl)) (zJ (bY (.b rfl) (.b rfl)) (zZ ?_))))
    refine af rfl (fun h6 => ?_) (fun h6 => ?_)
    · have h6 : ¬ SmF s.2.2.1[k] := by unfold SmF; simp [List.getElem?_eq_getElem h4] at h6; omega
      refine zR (zY rfl (aa (am (av (ai (bL (av (ai ?_))))))))
      exact z1 results64 rfl (rb ((qx (fun q => h6 (q.2.1 _ (List.getElem_mem h4)))).symm))
    have h6 : SmF s.2.2.1[k] := by unfold SmF; simp [List.getElem?_eq_getElem h4] at h6; omega
    refine ah (aG (aa (ac (zM rfl (zU rfl rfl zw (zY rfl ?_))))))
    exact aD (fun a w hi => ⟨k + 1, zj, (⟨by omega, fi h4 hp h6⟩), (zI hi)⟩)
  simp at h4
  have e1 := hO zo hp
  refine bg (be (aY (bf (aa (ae (ae (ac (zY rfl (aa (aq ?_))))))))))
  refine aZ (ι := Nat) (fun k => ⟨[(1, .optr 1 bx.n 0 0), (4, .raw (.int .i64 ((k : Nat))))], [(1, ⟨bx, [s]⟩)]⟩) (fun k => k ≤ s.2.2.2.1.length ∧ ∀ x ∈ s.2.2.2.1.take k, SmF x) (fun k => s.2.2.2.1.length - k) 0 (⟨Nat.zero_le _, nU _⟩) (fun a w hi => (zI hi)) ?_
  rintro k ⟨hk, hp⟩
  refine ae (zR (zM rfl (zF dD rfl (zL fj rfl rfl rfl d8 (zN ei rfl (zt rfl rfl (zZ ?_)))))))
  refine af rfl (fun h9 => ?_) (fun h9 => ?_)
  · simp at h9
    refine ah (aa (ae (aq (zR (zF dD rfl (zL fj rfl rfl rfl d8 (zM rfl ?_)))))))
    refine bc _ rfl _ rfl rfl (al ei e8 (.b rfl) (.b rfl) rfl zg) ?_
    refine zB nC kD rfl (zD ty9 rfl (zJ (dy uT9 (.b rfl)) (zJ (bY (.b rfl) (.b rfl)) (zZ ?_))))
    refine af rfl (fun h11 => ?_) (fun h11 => ?_)
    · have h11 : ¬ SmF s.2.2.2.1[k] := by unfold SmF; simp [List.getElem?_eq_getElem h9] at h11; omega
      refine zR (zY rfl (aa (am (av (ai (bL (av (ai ?_))))))))
      exact z1 results64 rfl (rb ((qx (fun q => h11 (q.2.2.1 _ (List.getElem_mem h9)))).symm))
    have h11 : SmF s.2.2.2.1[k] := by unfold SmF; simp [List.getElem?_eq_getElem h9] at h11; omega
    refine ah (aG (aa (ac (zM rfl (zU rfl rfl zw (zY rfl ?_))))))
    exact aD (fun a w hi => ⟨k + 1, zj, (⟨by omega, fi h9 hp h11⟩), (zI hi)⟩)
  simp at h9
  have e2 := hO zo hp
  refine bg (be (aY (bf (aa (ae (ae (ac (zY rfl (aa (aq ?_))))))))))
  refine aZ (ι := Nat) (fun k => ⟨[(1, .optr 1 bx.n 0 0), (5, .raw (.int .i64 ((k : Nat))))], [(1, ⟨bx, [s]⟩)]⟩) (fun k => k ≤ s.2.2.2.2.length ∧ ∀ x ∈ s.2.2.2.2.take k, SmR x) (fun k => s.2.2.2.2.length - k) 0 (⟨Nat.zero_le _, nU _⟩) (fun a w hi => (zI hi)) ?_
  rintro k ⟨hk, hp⟩
  refine ae (zR (zM rfl (zF dw rfl (zL jh rfl rfl rfl dT (zN ga rfl (zt rfl rfl (zZ ?_)))))))
  refine af rfl (fun h14 => ?_) (fun h14 => ?_)
  · simp at h14
    refine ah (aa (ae (aq (zR (zF dw rfl (zL jh rfl rfl rfl dT (zM rfl ?_)))))))
    refine bc _ rfl _ rfl rfl (al ga dp (.b rfl) (.b rfl) rfl zg) ?_
    refine zD dp rfl (zl pC (zC dp rfl rfl rfl (Lens.id _) (.tv (.b rfl)) (zQ [1,5,6] [1,6] (aa (zR ?_)))))
    refine zF nN rfl (zL ty9 rfl rfl rfl lT (zJ (dy uT9 (.b rfl)) (zJ (bY (.b rfl) (.b rfl)) (zM rfl (zG rfl rfl (fun hg => ao ud (.b rfl)) (zG rfl rfl (fun hg => aj ty9 (.gd rfl hg) rfl rfl vY) (zG rfl rfl (fun hg => dy uT9 (.gd rfl hg)) (zG rfl rfl (fun hg => bY (.gd rfl hg) (.b rfl)) (zJ (aB (.b rfl) (.b rfl) rfl zp) (zM rfl (zG rfl rfl (fun hg => ao eQ (.b rfl)) (zG rfl rfl (fun hg => aj hP (.gd rfl hg) rfl rfl fG) (zG rfl rfl (fun hg => cJ fB (.gd rfl hg)) (zG rfl rfl (fun hg => bY (.gd rfl hg) (.b rfl)) (zJ (aB (.b rfl) (.b rfl) rfl zp) (zM rfl (zG rfl rfl (fun hg => ao nM (.b rfl)) (zG rfl rfl (fun hg => aj hP (.gd rfl hg) rfl rfl lS) (zG rfl rfl (fun hg => cJ fB (.gd rfl hg)) (zG rfl rfl (fun hg => bY (.gd rfl hg) (.b rfl)) (zJ (aB (.b rfl) (.b rfl) rfl zp) (zZ ?_))))))))))))))))))))))
    refine af rfl (fun h17 => ?_) (fun h17 => ?_)
    · have h17 : ¬ SmR s.2.2.2.2[k] := by unfold SmR; simp [List.getElem?_eq_getElem h14] at h17; omega
      refine zR (zY rfl (aa (am (av (ai (bL (av (ai ?_))))))))
      exact z1 results64 rfl (rb ((qx (fun q => h17 (q.2.2.2 _ (List.getElem_mem h14)))).symm))
    have h17 : SmR s.2.2.2.2[k] := by unfold SmR; simp [List.getElem?_eq_getElem h14] at h17; omega
    refine ah (aG (aa (ac (zM rfl (zU rfl rfl zw (zY rfl ?_))))))
    exact aD (fun a w hi => ⟨k + 1, zj, (⟨by omega, fi h14 hp h17⟩), (zI hi)⟩)
  simp at h14
  have e3 := hO zo hp
  refine bg (be (aY (bf (aa (ae (ac (zY rfl (aa (am ?_)))))))))
  exact z1 results64 rfl (rb ((CE (⟨h1, e1, e2, e3⟩)).symm))
theorem w4 (l : cA) (hw : WL l) : Ct prog 19 [.tv cz l] (.raw (.bool (dB (SmL l)))) := by
  refine ay func19 rfl rfl ntmps19 rfl rfl ?_
  intro w0 ok0
  refine zR (zb (.tv (.b rfl)) (zY rfl (aa (ae (zR (zF es rfl (zL hU rfl rfl rfl fy (zN jg rfl (zJ (bY (.b rfl) (.b rfl)) (zM rfl (zG rfl rfl (fun hg => ao fo (.b rfl)) (zG rfl rfl (fun hg => aj jl (.gd rfl hg) rfl rfl gN) (zG rfl rfl (fun hg => cJ jW (.gd rfl hg)) (zG rfl rfl (fun hg => bY (.gd rfl hg) (.b rfl)) (zJ (aB (.b rfl) (.b rfl) rfl zp) (zM rfl (zG rfl rfl (fun hg => ao cN (.b rfl)) (zG rfl rfl (fun hg => aj gB (.gd rfl hg) rfl rfl du) (zG rfl rfl (fun hg => cJ fx (.gd rfl hg)) (zG rfl rfl (fun hg => bY (.gd rfl hg) (.b rfl)) (zJ (aB (.b rfl) (.b rfl) rfl zp) (zZ ?_))))))))))))))))))))))
  refine af rfl (fun h1 => ?_) (fun h1 => ?_)
  · have h1 : ¬ (l.1.length ≤ 9 ∧ l.2.1.length ≤ 9 ∧ l.2.2.length ≤ 5) := by simp at h1; omega
    refine zR (zY rfl (aa (am (ai ?_))))
    exact z1 results19 rfl (rb ((qx (fun q => h1 q.1)).symm))
  have h1 : l.1.length ≤ 9 ∧ l.2.1.length ≤ 9 ∧ l.2.2.length ≤ 5 := by simp at h1; omega
  refine ah (aa (zR (zY rfl (aa (zR (zY rfl (aa (ae (zR (zY rfl (aa (aq ?_))))))))))))
  refine aZ (ι := Nat) (fun k => ⟨[(1, .optr 1 cz.n 0 0), (3, .raw (.int .i64 (0))), (4, .raw (.int .i64 (0))), (5, .raw (.int .i64 ((k : Nat))))], [(1, ⟨cz, [l]⟩)]⟩) (fun k => k ≤ l.1.length ∧ ∀ x ∈ l.1.take k, SmE x) (fun k => l.1.length - k) 0 (⟨Nat.zero_le _, nU _⟩) (fun a w hi => (zI hi)) ?_
  rintro k ⟨hk, hp⟩
  refine ae (zR (zM rfl (zF es rfl (zL hU rfl rfl rfl fy (zN jg rfl (zt rfl rfl (zZ ?_)))))))
  refine af rfl (fun h6 => ?_) (fun h6 => ?_)
  · simp at h6
    refine ah (aa (ae (aq (ae (zR (zF es rfl (zL hU rfl rfl rfl fy (zM rfl ?_))))))))
    refine bc _ rfl _ rfl rfl (al jg gf (.b rfl) (.b rfl) rfl zg) ?_
    refine zB lz lQ rfl (zD ty9 rfl (zJ (dy uT9 (.b rfl)) (zJ (bY (.b rfl) (.b rfl)) (zM rfl (zG rfl rfl (fun hg => ao es (.b rfl)) (zG rfl rfl (fun hg => aj hU (.gd rfl hg) rfl rfl fy) (zG rfl rfl (fun hg => ag (.b rfl)) (zG rfl rfl (fun hg => al jg gf (.gd rfl hg) (.gd rfl hg) rfl (getD_some (z := (([], []) : bV)) (by first | omega | (simp; done) | (simp; omega) | (simp at hg; omega) | (simp at hg; simp; omega)))) (zG rfl rfl (fun hg => aO fh fF (.gd rfl hg)) (zG rfl rfl (fun hg => aA k9 (.gd rfl hg)) (zG rfl rfl (fun hg => cJ iD (.gd rfl hg)) (zG rfl rfl (fun hg => bY (.gd rfl hg) (.b rfl)) (zJ (aB (.b rfl) (.b rfl) rfl zp) (zZ ?_))))))))))))))
    refine af rfl (fun h8 => ?_) (fun h8 => ?_)
    · have h8 : ¬ ((l.1[k]'h6).1.length ≤ 80 ∧ (l.1[k]'h6).2.length ≤ 20) := by simp [List.getElem?_eq_getElem h6] at h8; omega
      refine zR (zY rfl (aa (am (ai (av (ai (bL (av (ai ?_)))))))))
      exact z1 results19 rfl (rb ((qx (fun q => h8 ⟨(q.2.1 _ (List.getElem_mem h6)).1, (q.2.1 _ (List.getElem_mem h6)).2.1⟩)).symm))
    have h8 : (l.1[k]'h6).1.length ≤ 80 ∧ (l.1[k]'h6).2.length ≤ 20 := by simp [List.getElem?_eq_getElem h6] at h8; omega
    refine ah (aa (zR (zY rfl (aa (aq ?_)))))
    refine aZ (ι := Nat) (fun j => ⟨[(1, .optr 1 cz.n 0 0), (3, .raw (.int .i64 (0))), (4, .raw (.int .i64 (0))), (5, .raw (.int .i64 ((k : Nat)))), (6, .raw (.int .i64 ((j : Nat))))], [(1, ⟨cz, [l]⟩)]⟩) (fun j => j ≤ (l.1[k]'h6).2.length ∧ ∀ x ∈ (l.1[k]'h6).2.take j, x.length ≤ 80) (fun j => (l.1[k]'h6).2.length - j) 0 (⟨Nat.zero_le _, nU _⟩) (fun a w hi => (zI hi)) ?_
    rintro j ⟨hj, hq⟩
    refine ae (zR (zM rfl (zF es rfl (zL hU rfl rfl rfl fy (zM rfl ?_)))))
    refine bc _ rfl _ rfl rfl (al jg gf (.b rfl) (.b rfl) rfl zg) ?_
    refine zB fh fF rfl (zD k9 rfl (zN iD rfl (zt rfl rfl (zZ ?_))))
    refine af rfl (fun h11 => ?_) (fun h11 => ?_)
    · have h11 : j < (l.1[k]'h6).2.length := by simpa [List.getElem?_eq_getElem h6] using h11
      refine ah (aa (ae (aq (zR (zF es rfl (zL hU rfl rfl rfl fy (zM rfl ?_)))))))
      refine bc _ rfl _ rfl rfl (al jg gf (.b rfl) (.b rfl) rfl zg) ?_
      refine zB fh fF rfl (zD k9 rfl (zM rfl ?_))
      refine bc _ rfl _ rfl rfl (al iD ty9 (.b rfl) (.b rfl) rfl zg) ?_
      refine zD ty9 rfl (zJ (dy uT9 (.b rfl)) (zJ (bY (.b rfl) (.b rfl)) (zZ ?_)))
      refine af rfl (fun h13 => ?_) (fun h13 => ?_)
      · have h13 : ¬ ((l.1[k]'h6).2[j]).length ≤ 80 := by simp at h13; omega
        refine zR (zY rfl (aa (am (av (ai (bL (av (av (ai (bL (av (ai ?_))))))))))))
        exact z1 results19 rfl (rb ((qx (fun q => h13 ((q.2.1 _ (List.getElem_mem h6)).2.2 _ (List.getElem_mem h11)))).symm))
      have h13 : ((l.1[k]'h6).2[j]).length ≤ 80 := by simp at h13; omega
      refine ah (aG (aa (ac (zM rfl (zU rfl rfl zw (zY rfl ?_))))))
      exact aD (fun a w hi => ⟨j + 1, zj, (⟨by omega, fi h11 hq h13⟩), (zI hi)⟩)
    have h11 : ¬ j < (l.1[k]'h6).2.length := by simpa [List.getElem?_eq_getElem h6] using h11
    have e0 := hO zo hq
    refine bg (be (aY (bf (aG (aa (ac (zM rfl (zU rfl rfl zw (zY rfl ?_)))))))))
    exact aD (fun a w hi => ⟨k + 1, zj, (⟨by omega, fi h6 hp ⟨h8.1, h8.2, e0⟩⟩), (zI hi)⟩)
  simp at h6
  have e1 := hO zo hp
  refine bg (be (aY (bf (aa (ae (ae (ac (zA rfl (zQ [1,3,4,7] [1] (aa (aq ?_)))))))))))
  refine aZ (ι := Nat) (fun k => ⟨[(1, .optr 1 cz.n 0 0), (3, .raw (.int .i64 (n3 (l.2.1.take k)))), (4, .raw (.int .i64 (0))), (7, .raw (.int .i64 ((k : Nat))))], [(1, ⟨cz, [l]⟩)]⟩) (fun k => k ≤ l.2.1.length ∧ (∀ x ∈ l.2.1.take k, SmT x) ∧ n3 (l.2.1.take k) ≤ 150) (fun k => l.2.1.length - k) 0 (⟨Nat.zero_le _, ⟨nU _, by simp [n3]⟩⟩) (fun a w hi => (zI hi)) ?_
  rintro k ⟨hk, hp⟩
  have hmx : ∀ t ∈ l.2.1, t.2.2.2.length ≤ 9223372036854775000 ∨ True := fun _ _ => .inr trivial
  refine ae (zR (zM rfl (zF fo rfl (zL jl rfl rfl rfl gN (zN jW rfl (zt rfl rfl (zZ ?_)))))))
  refine af rfl (fun h16 => ?_) (fun h16 => ?_)
  · simp at h16
    have hst := qW h16
    have hwk := hw.1 _ (List.getElem_mem h16)
    refine ah (aa (ae (aq (zR (zM rfl (zF fo rfl (zL jl rfl rfl rfl gN (zM rfl ?_))))))))
    refine bc _ rfl _ rfl rfl (al jW ge (.b rfl) (.b rfl) rfl zg) ?_
    refine zB kc lP rfl (zD qU rfl (zN md rfl (zU rfl rfl zw (zY rfl (aa (zR (zF fo rfl (zL jl rfl rfl rfl gN (zM rfl ?_)))))))))
    refine bc _ rfl _ rfl rfl (al jW ge (.b rfl) (.b rfl) rfl zg) ?_
    refine zB ly mS rfl (zD ty9 rfl (zJ (dy uT9 (.b rfl)) (zJ (bY (.b rfl) (.b rfl)) (zM rfl (zG rfl rfl (fun hg => ag (.b rfl)) (zG rfl rfl (fun hg => bY (.gd rfl hg) (.b rfl)) (zJ (aB (.b rfl) (.b rfl) rfl zp) (zZ ?_))))))))
    refine af rfl (fun h19 => ?_) (fun h19 => ?_)
    · have h19 : ¬ ((l.2.1[k]).1.length ≤ 80 ∧ n3 (l.2.1.take k) + (l.2.1[k]).2.2.2.length ≤ 150) := by simp [List.getElem?_eq_getElem h16] at h19; omega
      refine zR (zY rfl (aa (am (av (ai (bL (av (ai ?_))))))))
      exact z1 results19 rfl (rb ((qx (fun q => h19 ⟨q.2.2.1.1 _ (List.getElem_mem h16), by have := vC l.2.1 (k + 1); rw [hst] at this; have := q.2.2.1.2; omega⟩)).symm))
    have h19 : (l.2.1[k]).1.length ≤ 80 ∧ n3 (l.2.1.take k) + (l.2.1[k]).2.2.2.length ≤ 150 := by simp [List.getElem?_eq_getElem h16] at h19; omega
    refine ah (aG (aa (ac (zM rfl (zU rfl rfl zw (zY rfl ?_))))))
    exact aD (fun a w hi => ⟨k + 1, zo, ⟨by omega, fi h16 hp.1 h19.1, by rw [hst]; exact h19.2⟩, Sub.inv ⟨(by repeat (first | exact aQ | refine aM rfl (by first | rfl | exact congrArg (fun z : Int => SV.raw (Value.int .i64 z)) (by rw [hst]; omega)) ?_)), (by repeat (first | exact bn | refine aL rfl (by first | rfl | (simp; done) | assumption) ?_))⟩ hi⟩)
  simp at h16
  have e2 := hO zo hp.1
  have e3 := hp.2
  rw [List.take_of_length_le zo] at e3
  refine bg (be (aY (bf (aa (ae (ae (ac (zY rfl (aa (aq ?_))))))))))
  refine aZ (ι := Nat) (fun k => ⟨[(1, .optr 1 cz.n 0 0), (4, .raw (.int .i64 (oU (l.2.2.take k)))), (8, .raw (.int .i64 ((k : Nat))))], [(1, ⟨cz, [l]⟩)]⟩) (fun k => k ≤ l.2.2.length ∧ (∀ x ∈ l.2.2.take k, SmS x) ∧ oU (l.2.2.take k) ≤ 60) (fun k => l.2.2.length - k) 0 (⟨Nat.zero_le _, ⟨nU _, by simp [oU]⟩⟩) (fun a w hi => (zI hi)) ?_
  rintro k ⟨hk, hp⟩
  refine ae (zR (zM rfl (zF cN rfl (zL gB rfl rfl rfl du (zN fx rfl (zt rfl rfl (zZ ?_)))))))
  refine af rfl (fun h22 => ?_) (fun h22 => ?_)
  · simp at h22
    have hst := wX h22
    have hwk := hw.2 _ (List.getElem_mem h22)
    refine ah (aa (ae (aq (zR (zM rfl (zF cN rfl (zL gB rfl rfl rfl du (zM rfl ?_))))))))
    refine bc _ rfl _ rfl rfl (al fx dx (.b rfl) (.b rfl) rfl zg) ?_
    refine zB dw dT rfl (zD jh rfl (zN ga rfl (zU rfl rfl zw (zY rfl (aa (zR (zM rfl (zJ (bY (.b rfl) (.b rfl)) (zM rfl (zG rfl rfl (fun hg => ao cN (.b rfl)) (zG rfl rfl (fun hg => aj gB (.gd rfl hg) rfl rfl du) (zG rfl rfl (fun hg => ag (.b rfl)) (zG rfl rfl (fun hg => al fx dx (.gd rfl hg) (.gd rfl hg) rfl (getD_some (z := (([], (0, ([], ([], [])))) : ba)) (by first | omega | (simp; done) | (simp; omega) | (simp at hg; omega) | (simp at hg; simp; omega)))) (zG rfl rfl (fun hg => aA dx (.gd rfl hg)) (zG rfl rfl (fun hg => an (wZ _) (.cons (.gd rfl hg) .nil) rfl rfl) (zG rfl rfl (fun hg => b6 (.gd rfl hg)) (zJ (aB (.b rfl) (.b rfl) rfl zp) (zZ ?_))))))))))))))))))
    refine af rfl (fun h25 => ?_) (fun h25 => ?_)
    · have h25 : ¬ (oU (l.2.2.take k) + (l.2.2[k]).2.2.2.2.length ≤ 60 ∧ SmS (l.2.2[k])) := by intro q; have := CE q.2; simp [List.getElem?_eq_getElem h22, this] at h25; omega
      refine zR (zY rfl (aa (am (av (ai (bL (av (ai ?_))))))))
      exact z1 results19 rfl (rb ((qx (fun q => h25 ⟨by have := BO l.2.2 (k + 1); rw [hst] at this; have := q.2.2.2.2; omega, q.2.2.2.1 _ (List.getElem_mem h22)⟩)).symm))
    have h25 : oU (l.2.2.take k) + (l.2.2[k]).2.2.2.2.length ≤ 60 ∧ SmS (l.2.2[k]) := by simp [List.getElem?_eq_getElem h22] at h25; exact ⟨by omega, qw.1 h25.2⟩
    refine ah (aG (aa (ac (zM rfl (zU rfl rfl zw (zY rfl ?_))))))
    exact aD (fun a w hi => ⟨k + 1, zo, ⟨by omega, fi h22 hp.1 h25.2, by rw [hst]; exact h25.1⟩, Sub.inv ⟨(by repeat (first | exact aQ | refine aM rfl (by first | rfl | exact congrArg (fun z : Int => SV.raw (Value.int .i64 z)) (by rw [hst]; omega)) ?_)), (by repeat (first | exact bn | refine aL rfl (by first | rfl | (simp; done) | assumption) ?_))⟩ hi⟩)
  simp at h22
  have e4 := hO zo hp.1
  have e5 := hp.2
  rw [List.take_of_length_le zo] at e5
  refine bg (be (aY (bf (aa (ae (ac (zY rfl (aa (am ?_)))))))))
  exact z1 results19 rfl (rb ((CE (⟨h1, e1, ⟨e2, e3⟩, e4, e5⟩)).symm))
theorem s8 {ts : List cy} {t : cy} (h : t ∈ ts) : t.2.2.2.length ≤ n3 ts := by
  obtain ⟨i, hi, rfl⟩ := List.getElem_of_mem h
  have h1 := vC ts (i + 1); rw [qW hi] at h1; omega
end Go.Proofs.YtehcaebnijlhgaaGreatDoor.C15
namespace Go.Proofs.YtehcaebnijlhgaaGreatDoor
open Go.Eng Tryz
set_option maxRecDepth 100000
set_option maxHeartbeats 4000000
open C15
def kZ (n : Nat) (p : Nat → Bool) : Option Nat := (List.range n).find? p
theorem fz {n k : Nat} {p : Nat → Bool} (h : k < n) (hp : p k = true) (hl : ∀ j, j < k → p j = false) : kZ n p = some k := by
  unfold kZ; rw [List.find?_range_eq_some]; exact ⟨hp, by simpa using h, fun j hj => by rw [hl j hj]; rfl⟩
theorem gQ {n : Nat} {p : Nat → Bool} (hl : ∀ j, j < n → p j = false) : kZ n p = none := by
  unfold kZ; rw [List.find?_range_eq_none]; intro j hj; rw [hl j hj]; rfl
theorem nB {n : Nat} {p : Nat → Bool} (h : kZ n p = none) : ∀ j, j < n → p j = false := by
  unfold kZ at h; rw [List.find?_range_eq_none] at h; intro j hj; have := h j hj; simpa using this
theorem jA {p : Nat → Bool} {k : Nat} (hl : ∀ j, j < k → p j = false) (h : p k = false) : ∀ j, j < k + 1 → p j = false := fun j hj => by
  by_cases e : j = k
  · subst e; exact h
  exact hl j zo
def sO (ms : List (List UInt8)) (i : Nat) : Int := if (!sa (ms[i]?.getD [])) = true then 2 else if (ms.take i).any (fun y => decide (ms[i]?.getD [] = y)) = true then 7 else 0
def k3 (l : List bV) (k : Nat) (e : bV) : Int × Int :=
  if (!sa e.1) = true then (2, 0) else if Cl (l.take k) e.1 = true then (7, 0) else if e.2.length = 0 then (5, 0) else if 16 < e.2.length then (4, 116) else
  match kZ e.2.length (fun i => sO e.2 i != 0) with
  | some i => (sO e.2 i, 100 + (i : Int))
  | none => (0, 0)
theorem chkE_0 {l : List bV} {k : Nat} {e : bV} (h : (k3 l k e).1 = 0) : 1 ≤ e.2.length ∧ e.2.length ≤ 16 := by
  unfold k3 at h
  split at h
  · cases h
  split at h
  · cases h
  split at h
  · cases h
  split at h
  · cases h
  omega
theorem CM (l : cA) (k : Nat) (e : bV) (hsm : SmE e) (hk : k ≤ l.1.length) (hl : l.1.length ≤ 1000000) : Ct prog 93 [.tv cz l, .raw (.int .i64 (k : Nat)), .tv cX e] (.tup2 (.raw (.int .i64 (k3 l.1 k e).1)) (.raw (.int .i64 (k3 l.1 k e).2))) := by
  refine ay func93 rfl rfl ntmps93 rfl rfl ?_
  intro w0 ok0
  have hsm1 := hsm.1
  refine zR (zb (.tv (.b rfl)) (zb (.tv (.b rfl)) (zA rfl (zY rfl (aa (ae (aq (zR (zF lz rfl (zL ty9 rfl rfl rfl lQ (zJ (an (rm _ zo) (.cons (.b rfl) .nil) rfl rfl) (zJ (b6 (.b rfl)) (zY rfl (aa ?_))))))))))))))
  refine af rfl (fun h1 => ?_) (fun h1 => ?_)
  · skip
    refine zR (zA rfl (zY rfl (aa (am (av (ai ?_))))))
    exact z2 results93 rfl rfl (by unfold k3; rw [if_pos h1])
  skip
  refine ae ?_
  refine dN mo zk ( zS (ao es (.b rfl)) ( zS (aj hU (.b rfl) rfl rfl fy) ( zS (ag (.b rfl)) ( zS (gh jg gf (.b rfl) rfl ⟨_, _, (.b rfl), rfl⟩ zo zo) ( zS (ao lz (.b rfl)) ( zS (aj ty9 (.b rfl) rfl rfl lQ) ( zS (an (sh _ _) (.cons (.b rfl) (.cons (.b rfl) .nil)) rfl rfl) ( zS (aU (.b rfl)) ( AS.nil))))))))) ?_
  refine aa ?_
  refine af rfl (fun h3 => ?_) (fun h3 => ?_)
  · rw [List.drop_zero] at h3
    refine zR (zA rfl (zY rfl (aa (am (av (ai ?_))))))
    exact z2 results93 rfl rfl (by unfold k3; rw [if_neg (by rw [h1]; decide), if_pos h3])
  rw [List.drop_zero] at h3
  refine zR (zF fh rfl (zL k9 rfl rfl rfl fF (zN iD rfl (ze rfl rfl (zY rfl (aa ?_))))))
  refine af rfl (fun h5 => ?_) (fun h5 => ?_)
  · have h5 : e.2.length = 0 := by simp at h5; simp [h5]
    refine zR (zA rfl (zY rfl (aa (am (av (ai ?_))))))
    exact z2 results93 rfl rfl (by unfold k3; rw [if_neg (by rw [h1]; decide), if_neg (by rw [h3]; decide), if_pos h5])
  have h5 : ¬ e.2.length = 0 := by simp at h5; simp [h5]
  refine zR (zF fh rfl (zL k9 rfl rfl rfl fF (zN iD rfl (zJ (bY (.b rfl) (.b rfl)) (zY rfl (aa ?_))))))
  refine af rfl (fun h7 => ?_) (fun h7 => ?_)
  · have h7 : 16 < e.2.length := by simp at h7; omega
    refine zR (zA rfl (zY rfl (aa (am (av (ai ?_))))))
    exact z2 results93 rfl rfl (by unfold k3; rw [if_neg (by rw [h1]; decide), if_neg (by rw [h3]; decide), if_neg h5, if_pos h7])
  have h7 : ¬ 16 < e.2.length := by simp at h7; omega
  refine ah (aG (aa (ae (zR (zF fh rfl (zL k9 rfl rfl rfl fF (zN iD rfl (zM rfl (zZ (aq ?_))))))))))
  refine aZ (ι := Nat) (fun i => ⟨[(5, .optr 5 cX.n 0 0), (34, .tv (ab dG) e.2), (35, .raw (.int .i64 (e.2.length))), (36, .raw (.int .i64 ((i : Nat))))], [(5, ⟨cX, [e]⟩)]⟩) (fun i => i ≤ e.2.length ∧ ∀ j, j < i → (sO e.2 j != 0) = false) (fun i => e.2.length - i) 0 (⟨Nat.zero_le _, fun j hj => by omega⟩) (fun a w hi => (zI hi)) ?_
  rintro i ⟨hi0, hno⟩
  refine zR (zt rfl rfl (zZ (ae ?_)))
  refine af rfl (fun h10 => ?_) (fun h10 => ?_)
  · have h10 : i < e.2.length := by simpa using h10
    have hsi := hsm.2.2 _ (List.getElem_mem h10)
    have hgi : e.2[i]?.getD [] = e.2[i] := by rw [List.getElem?_eq_getElem h10]; rfl
    refine ah (aa (ae (aq (zR (zM rfl ?_)))))
    refine bc _ rfl _ rfl rfl (al iD ty9 (.b rfl) (.b rfl) rfl zg) ?_
    refine zD ty9 rfl (zA rfl (zY rfl (aa (ae (zR (zM rfl (zJ (an (rm _ zo) (.cons (.b rfl) .nil) rfl rfl) (zJ (b6 (.b rfl)) (zZ ?_)))))))))
    refine af rfl (fun h12 => ?_) (fun h12 => ?_)
    · have hb : sO e.2 i = 2 := by unfold sO; rw [hgi, if_pos h12]
      refine zR (zM rfl (zU rfl rfl zw (zA rfl (zY rfl (aa (am (ai (av (ai (bL (av (ai ?_))))))))))))
      exact z2 results93 rfl rfl (by unfold k3; rw [if_neg (by rw [h1]; decide), if_neg (by rw [h3]; decide), if_neg h5, if_neg h7, fz h10 (by rw [hb]; rfl) hno]; simp only [hb])
    skip
    refine ah (aa (zR (zF fh rfl (zL k9 rfl rfl rfl fF (zM rfl (zJ (gh iD ty9 (.b rfl) rfl ⟨_, _, (.b rfl), rfl⟩ zo zo) (zM rfl (zJ (an (xE _ _) (.cons (.b rfl) (.cons (.b rfl) .nil)) rfl rfl) (zZ ?_)))))))))
    refine af rfl (fun h14 => ?_) (fun h14 => ?_)
    · rw [List.drop_zero] at h14
      have hb : sO e.2 i = 7 := by unfold sO; rw [hgi, if_neg (by rw [h12]; decide), if_pos h14]
      refine zR (zM rfl (zU rfl rfl zw (zA rfl (zA rfl (zQ [6,7] [] (aa (am (av (ai (bL (av (ai ?_))))))))))))
      exact z2 results93 rfl rfl (by unfold k3; rw [if_neg (by rw [h1]; decide), if_neg (by rw [h3]; decide), if_neg h5, if_neg h7, fz h10 (by rw [hb]; rfl) hno]; simp only [hb])
    rw [List.drop_zero] at h14
    have hb : sO e.2 i = 0 := by unfold sO; rw [hgi, if_neg (by rw [h12]; decide), if_neg (by rw [h14]; decide)]
    refine ah (aG (aa (ac (zU rfl rfl zw (zM rfl (aN ?_))))))
    exact aD (fun a w hi => ⟨i + 1, zj, (⟨by omega, jA hno (by rw [hb]; rfl)⟩), (zI hi)⟩)
  have h10 : i = e.2.length := by simp at h10; omega
  refine bg (be (aY (bf (aa (ae (ac (zA rfl (zY rfl (aa (am ?_))))))))))
  exact z2 results93 rfl rfl (by unfold k3; rw [if_neg (by rw [h1]; decide), if_neg (by rw [h3]; decide), if_neg h5, if_neg h7, gQ (by rw [← h10]; exact hno)])
def oR (l : List bV) : Int × Int × Int × Int := if 8 < l.length then (4, 1, 8, 0) else
  match kZ l.length (fun i => (k3 l i (l[i]?.getD ([], []))).1 != 0) with
  | some i => ((k3 l i (l[i]?.getD ([], []))).1, 1, (i : Int), (k3 l i (l[i]?.getD ([], []))).2)
  | none => (0, 0, 0, 0)
theorem CL {l : List bV} (h : (oR l).1 = 0) : l.length ≤ 8 ∧ ∀ e ∈ l, 1 ≤ e.2.length ∧ e.2.length ≤ 16 := by
  unfold oR at h
  split at h
  · cases h
  refine ⟨by omega, fun e he => ?_⟩
  split at h
  · rename_i i hi
    have h : (k3 l i (l[i]?.getD ([], []))).1 = 0 := h
    have := List.find?_some hi
    rw [h] at this; cases this
  rename_i hi
  obtain ⟨i, hh, rfl⟩ := List.getElem_of_mem he
  have := nB hi i hh
  rw [List.getElem?_eq_getElem hh] at this
  exact chkE_0 (by simpa using this)
theorem Bi (l : cA) (hsm : ∀ e ∈ l.1, SmE e) (hl : l.1.length ≤ 1000000) : Ct prog 50 [.tv cz l] (.tv bw (oR l.1)) := by
  refine ay func50 rfl rfl ntmps50 rfl rfl ?_
  intro w0 ok0
  refine zR (zb (.tv (.b rfl)) (zl z52 (zZ (ae (zR (zF es rfl (zL hU rfl rfl rfl fy (zN jg rfl (zJ (bY (.b rfl) (.b rfl)) (zZ ?_))))))))))
  refine af rfl (fun h1 => ?_) (fun h1 => ?_)
  · have h1 : 8 < l.1.length := by simp at h1; omega
    refine zR (zJ (aI z52 rfl rR (.cons (rt' := (ak .i64)) rfl fd (.raw (.b rfl) rfl) (.cons (rt' := (ak .i64)) rfl og (.raw (.b rfl) rfl) (.cons (rt' := (ak .i64)) rfl oe (.raw (.b rfl) rfl) .nil)))) (zC eo rfl rfl rfl (Lens.id _) (.tv (.b rfl)) (zZ (am (ai ?_)))))
    exact cv results50 (ax eo rfl rfl rfl (Lens.id bw)) rfl (congrArg (SV.tv bw) (by unfold oR; rw [if_pos h1]))
  have h1 : ¬ 8 < l.1.length := by simp at h1; omega
  refine ah (aa (ae (zR (zF es rfl (zL hU rfl rfl rfl fy (zN jg rfl (zM rfl (zZ (aq ?_)))))))))
  refine aZ (ι := Nat) (fun k => ⟨[(1, .optr 1 cz.n 0 0), (2, .optr 2 bw.n 0 0), (13, .tv (ab cX) l.1), (14, .raw (.int .i64 (l.1.length))), (15, .raw (.int .i64 ((k : Nat))))], [(1, ⟨cz, [l]⟩), (2, ⟨bw, [(0, 0, 0, 0)]⟩)]⟩) (fun k => k ≤ l.1.length ∧ ∀ j, j < k → ((k3 l.1 j (l.1[j]?.getD ([], []))).1 != 0) = false) (fun k => l.1.length - k) 0 (⟨Nat.zero_le _, fun j hj => by omega⟩) (fun a w hi => (zI hi)) ?_
  rintro k ⟨hk, hno⟩
  refine zR (zt rfl rfl (zZ (ae ?_)))
  refine af rfl (fun h4 => ?_) (fun h4 => ?_)
  · have h4 : k < l.1.length := by simpa using h4
    have hse := hsm _ (List.getElem_mem h4)
    have hge : l.1[k]?.getD ([], []) = l.1[k] := by rw [List.getElem?_eq_getElem h4]; rfl
    refine ah (aa (ae (aq (zR (zM rfl ?_)))))
    refine bc _ rfl _ rfl rfl (al jg gf (.b rfl) (.b rfl) rfl zg) ?_
    refine zD gf rfl (zl yc (zA rfl (zC gf rfl rfl rfl (Lens.id _) (.tv (.b rfl)) (zZ (zR (zL e9 rfl rfl rfl (Lens.id _) (zM rfl (zL gf rfl rfl rfl (Lens.id _) (zJ (an (CM _ _ _ hse zo hl) (.cons (.b rfl) (.cons (.b rfl) (.cons (.b rfl) .nil))) rfl rfl) (zM rfl (zJ (bj (.b rfl)) (zJ (bi (.b rfl)) (zA rfl (zY rfl (aa (zR (zM rfl (zJ (bQ (.b rfl) (.b rfl)) (zZ ?_)))))))))))))))))))
    refine af rfl (fun h7 => ?_) (fun h7 => ?_)
    · have h7 : ¬ (k3 l.1 k l.1[k]).1 = 0 := by simpa using h7
      refine zR (zM rfl (zM rfl (zM rfl (zJ (aI z52 rfl rR (.cons (rt' := (ak .i64)) rfl fd (.raw (.b rfl) rfl) (.cons (rt' := (ak .i64)) rfl og (.raw (.b rfl) rfl) (.cons (rt' := (ak .i64)) rfl oe (.raw (.b rfl) rfl) (.cons (rt' := (ak .i64)) rfl uU (.raw (.b rfl) rfl) .nil))))) (zC eo rfl rfl rfl (Lens.id _) (.tv (.b rfl)) (zZ (am (av (ai (bL (av (ai ?_))))))))))))
      exact cv results50 (ax eo rfl rfl rfl (Lens.id bw)) rfl (congrArg (SV.tv bw) (by unfold oR; rw [if_neg h1, fz h4 (by rw [hge]; simpa using h7) hno]; simp only [hge]))
    have h7 : (k3 l.1 k l.1[k]).1 = 0 := by simpa using h7
    refine ah (aG (aa (ac (zU rfl rfl zw (zM rfl (aN ?_))))))
    exact aD (fun a w hi => ⟨k + 1, zj, (⟨by omega, jA hno (by rw [hge, h7]; rfl)⟩), (zI hi)⟩)
  have h4 : k = l.1.length := by simp at h4; omega
  refine bg (be (aY (bf (aa (ae (ac (zJ (aI z52 rfl rR .nil) (zC eo rfl rfl rfl (Lens.id _) (.tv (.b rfl)) (zZ (am ?_))))))))))
  exact cv results50 (ax eo rfl rfl rfl (Lens.id bw)) rfl (congrArg (SV.tv bw) (by unfold oR; rw [if_neg h1, gQ (by rw [← h4]; exact hno)]))
end Go.Proofs.YtehcaebnijlhgaaGreatDoor
namespace Go.Proofs.YtehcaebnijlhgaaGreatDoor
open Go.Eng Tryz
set_option maxRecDepth 100000
set_option maxHeartbeats 4000000
open C15
def oX (rs : List bB) (k : Nat) (d : Int) : Nat := ((rs.take k).filter (fun o => decide (o.2.1 = d))).length
theorem cntD_t {rs : List bB} {k : Nat} {d : Int} (h : k < rs.length) (e : rs[k].2.1 = d) : oX rs (k + 1) d = oX rs k d + 1 := by
  unfold oX; rw [List.take_succ_eq_append_getElem h, List.filter_append, List.length_append]; simp [e]
theorem cntD_f {rs : List bB} {k : Nat} {d : Int} (h : k < rs.length) (e : ¬ rs[k].2.1 = d) : oX rs (k + 1) d = oX rs k d := by
  unfold oX; rw [List.take_succ_eq_append_getElem h, List.filter_append, List.length_append]; simp [e]
theorem CG (rs : List bB) (k : Nat) (d : Int) : oX rs k d ≤ k := by
  unfold oX; exact Nat.le_trans (List.length_filter_le _ _) (by simp; omega)
def ruD : bB := ([], 0, 0, 0, (0, 0), [], [], [])
def fiD : cf := ([], (0, 0))
def lF (s : ba) (k : Nat) (sg : a6) : Int :=
  if (!sa (s.2.2.2.2[k]?.getD ruD).1) = true then 2 else
  if (s.2.2.2.2.take k).any (fun x => decide (x.1 = (s.2.2.2.2[k]?.getD ruD).1)) = true then 7 else
  if (s.2.2.2.2[k]?.getD ruD).2.1 < 0 ∨ (s.2.2.2.1.length : Int) ≤ (s.2.2.2.2[k]?.getD ruD).2.1 then 6 else
  if (s.2.2.2.2[k]?.getD ruD).2.2.1 ≠ -1 ∧ ((s.2.2.2.2[k]?.getD ruD).2.2.1 < 0 ∨ (k : Int) ≤ (s.2.2.2.2[k]?.getD ruD).2.2.1 ∨ (s.2.2.2.2[(s.2.2.2.2[k]?.getD ruD).2.2.1.toNat]?.getD ruD).2.1 ≠ (s.2.2.2.2[k]?.getD ruD).2.1) then 9 else
  if (s.2.2.2.2[k]?.getD ruD).2.2.2.1 < 0 ∨ 9 < (s.2.2.2.2[k]?.getD ruD).2.2.2.1 then 3 else
  if (s.2.2.2.2[k]?.getD ruD).2.2.2.2.1.1 < 0 ∨ (s.2.2.2.2[k]?.getD ruD).2.2.2.2.1.2 ≤ (s.2.2.2.2[k]?.getD ruD).2.2.2.2.1.1 ∨ 109573 < (s.2.2.2.2[k]?.getD ruD).2.2.2.2.1.2 then 3 else
  if 8 ≤ oX s.2.2.2.2 k (s.2.2.2.2[k]?.getD ruD).2.1 then 4 else
  if (!tc (s.2.2.2.2[k]?.getD ruD).2.2.2.2.2.2.2) = true then 2 else
  if 0 < (s.2.2.2.2[k]?.getD ruD).2.2.2.2.2.1.length ∧ sI (s.2.2.2.2[k]?.getD ruD).2.2.2.2.2.1 sg (1, 0) ≠ 0 then sI (s.2.2.2.2[k]?.getD ruD).2.2.2.2.2.1 sg (1, 0) else
  sI (s.2.2.2.2[k]?.getD ruD).2.2.2.2.2.2.1 sg (s.2.2.2.1[(s.2.2.2.2[k]?.getD ruD).2.1.toNat]?.getD fiD).2
theorem CK (s : ba) (k : Nat) (sg : a6) (hk : k < s.2.2.2.2.length) (hl : s.2.2.2.2.length ≤ 1000000) (hsm : SmR s.2.2.2.2[k]) (hn1 : ∀ d ∈ s.2.2.2.2[k].2.2.2.2.2.1, d.2 ≤ 9223372036854775807) (hn2 : ∀ d ∈ s.2.2.2.2[k].2.2.2.2.2.2.1, d.2 ≤ 9223372036854775807) : Ct prog 142 [.tv bx s, .raw (.int .i64 (k : Nat)), .tv bS sg] (.raw (.int .i64 (lF s k sg))) := by
  refine ay func142 rfl rfl ntmps142 rfl rfl ?_
  intro w0 ok0
  have hgr : s.2.2.2.2[k]?.getD ruD = s.2.2.2.2[k] := by rw [List.getElem?_eq_getElem hk]; rfl
  have hs1 := hsm.1
  have hs2 := hsm.2.1
  refine zR (zb (.tv (.b rfl)) (zb (.tv (.b rfl)) (zY rfl (aa (zR (zF dw rfl (zL jh rfl rfl rfl dT (zM rfl ?_))))))))
  refine bc _ rfl _ rfl rfl (al ga dp (.b rfl) (.b rfl) rfl zg) ?_
  refine zD dp rfl (zl pC (zC dp rfl rfl rfl (Lens.id _) (.tv (.b rfl)) (zZ (ae ?_))))
  refine lU 7 7 (b8 7 _) rfl rfl (bl 7 _) (bC 7 _) ?_
  refine ac (zY rfl (aa (ae (zR (zF dw rfl (zL jh rfl rfl rfl dT (zM rfl (zJ (gh ga dp (.b rfl) rfl ⟨_, _, (.b rfl), rfl⟩ zo zo) (zN ga rfl (zM rfl (zZ (aq ?_))))))))))))
  refine aZ (ι := Nat) (fun j => ⟨[(1, .raw (.int .i64 ((k : Nat)))), (3, .optr 3 bx.n 0 0), (5, .optr 5 bS.n 0 0), (7, .eptr cZ s.2.2.2.2[k]), (8, .raw (.int .i64 ((oX s.2.2.2.2 j s.2.2.2.2[k].2.1 : Nat)))), (20, .tv (ab cZ) (s.2.2.2.2.take k)), (21, .raw (.int .i64 ((s.2.2.2.2.take k).length))), (22, .raw (.int .i64 ((j : Nat))))], [(3, ⟨bx, [s]⟩), (5, ⟨bS, [sg]⟩)]⟩) (fun j => j ≤ k) (fun j => k - j) 0 (Nat.zero_le _) (fun a w hi => (zI hi)) ?_
  rintro j hj
  have hcl := CG s.2.2.2.2 j s.2.2.2.2[k].2.1
  have htl : (s.2.2.2.2.take k).length = k := by simp; omega
  refine zR (zt rfl rfl (zZ (ae ?_)))
  refine af rfl (fun h4 => ?_) (fun h4 => ?_)
  · have h4 : j < k := by simp at h4; omega
    have h4b : j < s.2.2.2.2.length := by omega
    refine ah (aa (ae (aq (zR ?_))))
    refine bc _ rfl _ rfl rfl (al ga dp (.b rfl) (.b rfl) rfl zg) ?_
    refine zD dp rfl (zl pC (zC dp rfl rfl rfl (Lens.id _) (.tv (.b rfl)) (zZ (zR (zF ec rfl (zL ty3 rfl rfl rfl eK (zB ec eK rfl (zD ty3 rfl (ze rfl rfl (zZ ?_))))))))))
    refine af rfl (fun h6 => ?_) (fun h6 => ?_)
    · have hs := cntD_t (d := s.2.2.2.2[k].2.1) h4b (by simpa using h6)
      refine ac (zM rfl (zU rfl rfl zw (zY rfl (aG (aa (ac (zU rfl rfl zw (zM rfl (aN ?_)))))))))
      exact aD (fun a w hi => ⟨j + 1, zj, zo, Sub.inv ⟨(by repeat (first | exact aQ | refine aM rfl (by first | rfl | (simp; done) | assumption | exact congrArg (fun z : Int => SV.raw (Value.int .i64 z)) (by rw [hs]; first | done | rfl | omega)) ?_)), (by repeat (first | exact bn | refine aL rfl (by first | rfl | (simp; done) | assumption) ?_))⟩ hi⟩)
    have hs := cntD_f (d := s.2.2.2.2[k].2.1) h4b (by simpa using h6)
    refine ah (aG (aa (ac (zU rfl rfl zw (zM rfl (aN ?_))))))
    exact aD (fun a w hi => ⟨j + 1, zj, zo, Sub.inv ⟨(by repeat (first | exact aQ | refine aM rfl (by first | rfl | (simp; done) | assumption | exact congrArg (fun z : Int => SV.raw (Value.int .i64 z)) (by rw [hs]; first | done | rfl | omega)) ?_)), (by repeat (first | exact bn | refine aL rfl (by first | rfl | (simp; done) | assumption) ?_))⟩ hi⟩)
  have h4 : k = j := by simp at h4; omega
  subst h4
  refine bg (be (aY (bf (aa (ae (aq (ae (ac (zB nN lT rfl (zD ty9 rfl (zJ (an (rm _ zo) (.cons (.b rfl) .nil) rfl rfl) (zJ (b6 (.b rfl)) (zY rfl (aa ?_))))))))))))))
  refine af rfl (fun h9 => ?_) (fun h9 => ?_)
  · skip
    refine zR (zY rfl (aa (am (av (ai ?_)))))
    exact z1 results142 rfl (ri (by unfold lF; rw [hgr, if_pos h9]))
  skip
  refine zR (zF dw rfl (zL jh rfl rfl rfl dT (zM rfl (zJ (gh ga dp (.b rfl) rfl ⟨_, _, (.b rfl), rfl⟩ zo zo) (zJ (ie (A := cZ) (B := bP) (aS := [.eptr cZ s.2.2.2.2[k]]) (φ := fun _ => True) (fun x => decide (x.1 = s.2.2.2.2[k].1)) (bJ func187 rfl zk) (fun x _ => Bl x s.2.2.2.2[k]) (.cons (.b rfl) .nil) rfl) (zJ (an (xz _ _) (.cons (.b rfl) (.cons (.b rfl) .nil)) rfl rfl) (zY rfl (aa ?_))))))))
  refine af rfl (fun h11 => ?_) (fun h11 => ?_)
  · rw [List.drop_zero] at h11
    refine zR (zY rfl (aa (am (av (ai ?_)))))
    exact z1 results142 rfl (ri (by unfold lF; rw [hgr, if_neg (by rw [h9]; decide), if_pos h11]))
  rw [List.drop_zero] at h11
  refine zR (zB ec eK rfl (zD ty3 rfl (zt rfl rfl (zM rfl (zG rfl rfl (fun hg => aO ec eK (.b rfl)) (zG rfl rfl (fun hg => aA ty3 (.gd rfl hg)) (zG rfl rfl (fun hg => ao dD (.b rfl)) (zG rfl rfl (fun hg => aj fj (.gd rfl hg) rfl rfl d8) (zG rfl rfl (fun hg => cJ ei (.gd rfl hg)) (zG rfl rfl (fun hg => bW (.gd rfl hg) (.gd rfl hg)) (zJ (aB (.b rfl) (.b rfl) rfl zp) (zY rfl (aa ?_)))))))))))))
  refine af rfl (fun h13 => ?_) (fun h13 => ?_)
  · have h13 : s.2.2.2.2[k].2.1 < 0 ∨ (s.2.2.2.1.length : Int) ≤ s.2.2.2.2[k].2.1 := by simp at h13; omega
    refine zR (zA rfl (zQ [6] [] (aa (am (av (ai ?_))))))
    exact z1 results142 rfl (ri (by unfold lF; rw [hgr, if_neg (by rw [h9]; decide), if_neg (by rw [h11]; decide), if_pos h13]))
  have h13 : ¬ (s.2.2.2.2[k].2.1 < 0 ∨ (s.2.2.2.1.length : Int) ≤ s.2.2.2.2[k].2.1) := by simp at h13; omega
  refine ae ?_
  refine dN mo zk ( zS (aO jd iI (.b rfl)) ( zS (aA ty3 (.b rfl)) ( zS (bQ (.b rfl) (.b rfl)) ( zS (ag (.b rfl)) ( zSG rfl rfl (fun hg => aO jd iI (.b rfl)) ( zSG rfl rfl (fun hg => aA ty3 (.gd rfl hg)) ( zSG rfl rfl (fun hg => dS (.gd rfl hg) (.b rfl)) ( zSG rfl rfl (fun hg => ag (.gd rfl hg)) ( AS.cons _ _ rfl (cT _ _ _ _ _ rfl rfl rfl rfl rfl (fun hg => aO jd iI (.b rfl))) ( AS.cons _ _ rfl (cT _ _ _ _ _ rfl rfl rfl rfl rfl (fun hg => aA ty3 (.gd rfl hg))) ( AS.cons _ _ rfl (cT _ _ _ _ _ rfl rfl rfl rfl rfl (fun hg => ag (.b rfl))) ( AS.cons _ _ rfl (cT _ _ _ _ _ rfl rfl rfl rfl rfl (fun hg => bW (.gd rfl hg) (.gd rfl hg))) ( zSG rfl rfl (fun hg => aB (.gd rfl hg) (.b rfl) rfl zp) ( zSG rfl rfl (fun hg => ag (.gd rfl hg)) ( AS.cons _ _ rfl (cT _ _ _ _ _ rfl rfl rfl rfl rfl (fun hg => ao dw (.b rfl))) ( AS.cons _ _ rfl (cT _ _ _ _ _ rfl rfl rfl rfl rfl (fun hg => aj jh (.gd rfl hg) rfl rfl dT)) ( AS.cons _ _ rfl (cT _ _ _ _ _ rfl rfl rfl rfl rfl (fun hg => aO jd iI (.b rfl))) ( AS.cons _ _ rfl (cT _ _ _ _ _ rfl rfl rfl rfl rfl (fun hg => aA ty3 (.gd rfl hg))) ( AS.cons _ _ rfl (cT _ _ _ _ _ rfl rfl rfl rfl rfl (fun hg => al ga dp (.gd rfl hg) (.gd rfl hg) (show s.2.2.2.2[k].2.2.1 = ((s.2.2.2.2[k].2.2.1.toNat : Nat) : Int) by simp at hg; omega) (getD_some (l := s.2.2.2.2) (i := s.2.2.2.2[k].2.2.1.toNat) (z := ruD) (by simp at hg; omega)))) ( AS.cons _ _ rfl (cT _ _ _ _ _ rfl rfl rfl rfl rfl (fun hg => aO ec eK (.gd rfl hg))) ( AS.cons _ _ rfl (cT _ _ _ _ _ rfl rfl rfl rfl rfl (fun hg => aA ty3 (.gd rfl hg))) ( AS.cons _ _ rfl (cT _ _ _ _ _ rfl rfl rfl rfl rfl (fun hg => aO ec eK (.b rfl))) ( AS.cons _ _ rfl (cT _ _ _ _ _ rfl rfl rfl rfl rfl (fun hg => aA ty3 (.gd rfl hg))) ( AS.cons _ _ rfl (cT _ _ _ _ _ rfl rfl rfl rfl rfl (fun hg => bQ (.gd rfl hg) (.gd rfl hg))) ( zSG rfl rfl (fun hg => aB (.gd rfl hg) (.b rfl) rfl zp) ( zS (aF (.b rfl) (.b rfl) rfl zp) ( zS (aU (.b rfl)) ( AS.nil)))))))))))))))))))))))))))) ?_
  refine aa ?_
  refine af rfl (fun h15 => ?_) (fun h15 => ?_)
  · have h15 : s.2.2.2.2[k].2.2.1 ≠ -1 ∧ (s.2.2.2.2[k].2.2.1 < 0 ∨ (k : Int) ≤ s.2.2.2.2[k].2.2.1 ∨ (s.2.2.2.2[s.2.2.2.2[k].2.2.1.toNat]?.getD ruD).2.1 ≠ s.2.2.2.2[k].2.1) := by
      refine ⟨by simp at h15; omega, ?_⟩
      by_cases q1 : s.2.2.2.2[k].2.2.1 < 0
      · exact .inl q1
      by_cases q2 : (k : Int) ≤ s.2.2.2.2[k].2.2.1
      · exact .inr (.inl q2)
      refine .inr (.inr ?_)
      simp [q1, q2] at h15
      exact h15.2
    refine zR (zY rfl (aa (am (av (ai ?_)))))
    exact z1 results142 rfl (ri (by unfold lF; rw [hgr, if_neg (by rw [h9]; decide), if_neg (by rw [h11]; decide), if_neg h13, if_pos h15]))
  have h15 : ¬ (s.2.2.2.2[k].2.2.1 ≠ -1 ∧ (s.2.2.2.2[k].2.2.1 < 0 ∨ (k : Int) ≤ s.2.2.2.2[k].2.2.1 ∨ (s.2.2.2.2[s.2.2.2.2[k].2.2.1.toNat]?.getD ruD).2.1 ≠ s.2.2.2.2[k].2.1)) := by
    rintro ⟨q0, q⟩
    by_cases q1 : s.2.2.2.2[k].2.2.1 < 0
    · simp [q0, q1] at h15
    by_cases q2 : (k : Int) ≤ s.2.2.2.2[k].2.2.1
    · simp [q0, q1, q2] at h15
    rcases q with q | q | q
    · exact q1 q
    · exact q2 q
    simp [q0, q1, q2] at h15; exact q h15
  refine zR (zB qq r7 rfl (zD ty3 rfl (zt rfl rfl (zM rfl (zG rfl rfl (fun hg => aO qq r7 (.b rfl)) (zG rfl rfl (fun hg => aA ty3 (.gd rfl hg)) (zG rfl rfl (fun hg => bY (.gd rfl hg) (.b rfl)) (zJ (aB (.b rfl) (.b rfl) rfl zp) (zY rfl (aa ?_))))))))))
  refine af rfl (fun h17 => ?_) (fun h17 => ?_)
  · have h17 : s.2.2.2.2[k].2.2.2.1 < 0 ∨ 9 < s.2.2.2.2[k].2.2.2.1 := by simp at h17; omega
    refine zR (zY rfl (aa (am (av (ai ?_)))))
    exact z1 results142 rfl (ri (by unfold lF; rw [hgr, if_neg (by rw [h9]; decide), if_neg (by rw [h11]; decide), if_neg h13, if_neg h15, if_pos h17]))
  have h17 : ¬ (s.2.2.2.2[k].2.2.2.1 < 0 ∨ 9 < s.2.2.2.2[k].2.2.2.1) := by simp at h17; omega
  refine zR (zB kd jw rfl (zB fI fQ rfl (zD ty3 rfl (zt rfl rfl (zM rfl (zG rfl rfl (fun hg => aO kd jw (.b rfl)) (zG rfl rfl (fun hg => aO fI fQ (.gd rfl hg)) (zG rfl rfl (fun hg => aA ty3 (.gd rfl hg)) (zG rfl rfl (fun hg => aO kd jw (.b rfl)) (zG rfl rfl (fun hg => aO fH fP (.gd rfl hg)) (zG rfl rfl (fun hg => aA ty3 (.gd rfl hg)) (zG rfl rfl (fun hg => bW (.gd rfl hg) (.gd rfl hg)) (zJ (aB (.b rfl) (.b rfl) rfl zp) (zM rfl (zG rfl rfl (fun hg => aO kd jw (.b rfl)) (zG rfl rfl (fun hg => aO fH fP (.gd rfl hg)) (zG rfl rfl (fun hg => aA ty3 (.gd rfl hg)) (zG rfl rfl (fun hg => bY (.gd rfl hg) (.b rfl)) (zJ (aB (.b rfl) (.b rfl) rfl zp) (zY rfl (aa ?_)))))))))))))))))))))
  refine af rfl (fun h19 => ?_) (fun h19 => ?_)
  · have h19 : s.2.2.2.2[k].2.2.2.2.1.1 < 0 ∨ s.2.2.2.2[k].2.2.2.2.1.2 ≤ s.2.2.2.2[k].2.2.2.2.1.1 ∨ 109573 < s.2.2.2.2[k].2.2.2.2.1.2 := by simp at h19; omega
    refine zR (zY rfl (aa (am (av (ai ?_)))))
    exact z1 results142 rfl (ri (by unfold lF; rw [hgr, if_neg (by rw [h9]; decide), if_neg (by rw [h11]; decide), if_neg h13, if_neg h15, if_neg h17, if_pos h19]))
  have h19 : ¬ (s.2.2.2.2[k].2.2.2.2.1.1 < 0 ∨ s.2.2.2.2[k].2.2.2.2.1.2 ≤ s.2.2.2.2[k].2.2.2.2.1.1 ∨ 109573 < s.2.2.2.2[k].2.2.2.2.1.2) := by simp at h19; omega
  refine zR (zM rfl (zJ (bW (.b rfl) (.b rfl)) (zY rfl (aa ?_))))
  refine af rfl (fun h21 => ?_) (fun h21 => ?_)
  · have h21 : 8 ≤ oX s.2.2.2.2 k s.2.2.2.2[k].2.1 := by simp at h21; omega
    refine zR (zY rfl (aa (am (av (ai ?_)))))
    exact z1 results142 rfl (ri (by unfold lF; rw [hgr, if_neg (by rw [h9]; decide), if_neg (by rw [h11]; decide), if_neg h13, if_neg h15, if_neg h17, if_neg h19, if_pos h21]))
  have h21 : ¬ (8 ≤ oX s.2.2.2.2 k s.2.2.2.2[k].2.1) := by simp at h21; omega
  refine zR (zB ud vY rfl (zD ty9 rfl (zJ (an (src_ok _) (.cons (.b rfl) .nil) rfl rfl) (zJ (b6 (.b rfl)) (zY rfl (aa ?_))))))
  refine af rfl (fun h23 => ?_) (fun h23 => ?_)
  · skip
    refine zR (zY rfl (aa (am (av (ai ?_)))))
    exact z1 results142 rfl (ri (by unfold lF; rw [hgr, if_neg (by rw [h9]; decide), if_neg (by rw [h11]; decide), if_neg h13, if_neg h15, if_neg h17, if_neg h19, if_neg h21, if_pos h23]))
  skip
  refine ah (aG (aa (ae (zR (zB eQ fG rfl (zD hP rfl (zN fB rfl (zJ (bY (.b rfl) (.b rfl)) (zZ ?_)))))))))
  refine af rfl (fun h25 => ?_) (fun h25 => ?_)
  · have h25 : 0 < s.2.2.2.2[k].2.2.2.2.2.1.length := by simp at h25; omega
    refine zR (zB eQ fG rfl (zD hP rfl (zL eV rfl rfl rfl (Lens.id _) (zJ (aI z90 rfl d4 (.cons (rt' := (ak .i64)) rfl bN (.raw (.b rfl) rfl) .nil)) (zJ (an (sH _ _ _ (by assumption)) (.cons (.b rfl) (.cons (.b rfl) (.cons (.b rfl) .nil))) rfl rfl) (zY rfl (aa (zR (zM rfl (zJ (bQ (.b rfl) (.b rfl)) (zZ ?_)))))))))))
    refine af rfl (fun h27 => ?_) (fun h27 => ?_)
    · have h27 : sI s.2.2.2.2[k].2.2.2.2.2.1 sg (1, 0) ≠ 0 := by simpa using h27
      refine zR (zM rfl (zY rfl (aa (am (ai ?_)))))
      exact z1 results142 rfl (ri (by unfold lF; rw [hgr, if_neg (by rw [h9]; decide), if_neg (by rw [h11]; decide), if_neg h13, if_neg h15, if_neg h17, if_neg h19, if_neg h21, if_neg (by rw [h23]; decide), if_pos ⟨h25, h27⟩]))
    have h27 : ¬ (sI s.2.2.2.2[k].2.2.2.2.2.1 sg (1, 0) ≠ 0) := by simpa using h27
    refine ah (aa (ae ?_))
    refine dN mo zk ( zS (aO nM lS (.b rfl)) ( zS (aA hP (.b rfl)) ( zS (aj eV (.b rfl) rfl rfl (Lens.id _)) ( zS (ao dD (.b rfl)) ( zS (aj fj (.b rfl) rfl rfl d8) ( zS (aO ec eK (.b rfl)) ( zS (aA ty3 (.b rfl)) ( zS (al ei e8 (.b rfl) (.b rfl) (show s.2.2.2.2[k].2.1 = ((s.2.2.2.2[k].2.1.toNat : Nat) : Int) by omega) zg) ( zS (aO gq fN (.b rfl)) ( zS (aA aE (.b rfl)) ( zS (an (sH _ _ _ (by assumption)) (.cons (.b rfl) (.cons (.b rfl) (.cons (.b rfl) .nil))) rfl rfl) ( zS (aU (.b rfl)) ( AS.nil))))))))))))) ?_
    refine aa (am ?_)
    exact z1 results142 rfl (ri (by unfold lF; rw [hgr, if_neg (by rw [h9]; decide), if_neg (by rw [h11]; decide), if_neg h13, if_neg h15, if_neg h17, if_neg h19, if_neg h21, if_neg (by rw [h23]; decide), if_neg (by first | exact fun q => h27 q.2 | exact fun q => h25 q.1)]; first | rfl | (rw [List.getElem?_eq_getElem (l := s.2.2.2.1) (i := s.2.2.2.2[k].2.1.toNat) zo]; rfl)))
  have h25 : ¬ 0 < s.2.2.2.2[k].2.2.2.2.2.1.length := by simp at h25; first | omega | simp [h25]
  refine ah (aa (ae ?_))
  refine dN mo zk ( zS (aO nM lS (.b rfl)) ( zS (aA hP (.b rfl)) ( zS (aj eV (.b rfl) rfl rfl (Lens.id _)) ( zS (ao dD (.b rfl)) ( zS (aj fj (.b rfl) rfl rfl d8) ( zS (aO ec eK (.b rfl)) ( zS (aA ty3 (.b rfl)) ( zS (al ei e8 (.b rfl) (.b rfl) (show s.2.2.2.2[k].2.1 = ((s.2.2.2.2[k].2.1.toNat : Nat) : Int) by omega) zg) ( zS (aO gq fN (.b rfl)) ( zS (aA aE (.b rfl)) ( zS (an (sH _ _ _ (by assumption)) (.cons (.b rfl) (.cons (.b rfl) (.cons (.b rfl) .nil))) rfl rfl) ( zS (aU (.b rfl)) ( AS.nil))))))))))))) ?_
  refine zK [6] [] (aa (am ?_))
  exact z1 results142 rfl (ri (by unfold lF; rw [hgr, if_neg (by rw [h9]; decide), if_neg (by rw [h11]; decide), if_neg h13, if_neg h15, if_neg h17, if_neg h19, if_neg h21, if_neg (by rw [h23]; decide), if_neg (by first | exact fun q => h27 q.2 | exact fun q => h25 q.1)]; first | rfl | (rw [List.getElem?_eq_getElem (l := s.2.2.2.1) (i := s.2.2.2.2[k].2.1.toNat) zo]; rfl)))
end Go.Proofs.YtehcaebnijlhgaaGreatDoor
namespace Go.Eng
section
variable {P : Program} {cx : Cx} {st st' : St} {β : Loc} {a : Act} {w w' : World} {ops : Array Oper} {k : Kn} {c : Code}
variable {dst : Option Tmp} {ty : TypeId} {pos : String} {aft : Array Edge} {gd : Option (Nat × Bool)}
end
end Go.Eng
namespace Go.Eng
open Go.Sort (Holds putRow grow putCells mapBlock onCells flatK putRowK HoldsK)
def Exact {α : Type} (rt : RT α) (enc : α → List Value) : Prop := ∀ {w : World} {ok : Ok} {cs : List Value} {x : α}, rt.rep w ok cs x ↔ cs = enc x
theorem Exact.len {α : Type} {rt : RT α} [NM rt] {enc : α → List Value} (he : Exact rt enc) (x : α) : (enc x).length = rt.n := rt.len (w := default) (ok := fun _ => True) (he.2 rfl)
section
variable {P : Program} {cx : Cx} {st st' : St} {β : Loc} {a : Act} {w w' : World} {ops : Array Oper} {k : Kn} {c : Code}
variable {dst : Option Tmp} {ty : TypeId} {pos : String} {aft : Array Edge} {gd : Option (Nat × Bool)}
variable {α : Type} [Inhabited α] {rt : RT α} [NM rt] {enc : α → List Value}
theorem lW {ops : Array Oper} {nm off n d : Nat} {α : Type} {rt : RT α} [NM rt] {x ix : Operand} {t e : TypeId} {k : IntKind} {i : Int} {j : Nat} (hdn : Nat.blt d cx.n = true) (ht : P.underlying t = some (.slice e)) (he : Ty P e rt)
    (hx : Ev st x (.own nm rt.n off n)) (hi' : Ev st ix (.raw (.int k i))) (hij : i = (j : Int)) (hj : j < n) :
    GH P cx ops st ⟨some d, .indexAddr t x ix, ty, pos, aft, none⟩ (some (d, .optr nm rt.n (off + j) 0), none) [] [] := by
  intro st' hag _ a w hi Q
  rw [if_pos (by simp [Region.wanted])]
  exact bu ht he (hag.ev (by simp [Op.operands]) hx) (hag.ev (by simp [Op.operands]) hi') hij hj st' (Agr.refl _ _) d rfl (by simpa using hdn) a w hi Q
end
end Go.Eng
namespace Go.Eng
open Go.Sort (SWO PermIn SortedIn pdq)
end Go.Eng
namespace Go.Eng
open Go.Sort (SWO pdq Holds putRow putCells mapBlock)
theorem Below.grow {w w' : World} (h : Below w.heap.size w w') : ∃ q os, w' = Sort.grow (w.drewN q) os := by
  refine ⟨w'.drawn - w.drawn, (w'.heap.toList.drop w.heap.size).toArray, ?_⟩
  obtain ⟨h1, h2, h3, h4, h5, h6⟩ := h
  obtain ⟨hp, tp, dr, os, ou⟩ := w'
  obtain ⟨hp0, tp0, dr0, os0, ou0⟩ := w
  simp only at h1 h2 h3 h4 h5 h6
  subst h1 h2 h3
  simp only [Sort.grow, World.drewN, World.mk.injEq, and_true, true_and]
  refine ⟨?_, by omega⟩
  apply Array.ext'
  have e : hp0.toList = hp.toList.take hp0.size := by
    apply List.ext_getElem?
    intro i
    by_cases hi : i < hp0.size
    · have := h5 i hi
      rw [List.getElem?_take_of_lt hi]; simpa using this.symm
    rw [List.getElem?_eq_none (by simpa using hi), List.getElem?_eq_none (by simp; omega)]
  rw [Array.toList_append]
  show hp.toList = hp0.toList ++ hp.toList.drop hp0.size
  rw [e]
  exact (List.take_append_drop hp0.size hp.toList).symm
section
variable {P : Program} {cx : Cx} {st st' : St} {β : Loc} {a : Act} {w w' : World} {ops : Array Oper} {k : Kn} {c : Code}
variable {dst : Option Tmp} {ty : TypeId} {pos : String} {aft : Array Edge} {gd : Option (Nat × Bool)}
variable {α γ : Type}
end
end Go.Eng
namespace Go.Eng
section
variable {P : Program} {cx : Cx} {st st' : St} {β : Loc} {a : Act} {w w' : World} {ops : Array Oper} {k : Kn} {c : Code}
variable {dst : Option Tmp} {ty : TypeId} {pos : String} {aft : Array Edge} {gd : Option (Nat × Bool)}
variable {α γ δ : Type}
def rHd : RT (Option Addr × Nat × Nat) where
  n := 1
  agg := false
  raw d := some (.slice d.1 d.2.1 d.2.2)
  rep _ _ cs d := cs = [.slice d.1 d.2.1 d.2.2]
  len h := by simp [h]
  one h := by simp [h, Value.oneCell']
  keep _ h := h
  scal _ := rfl
  exact_ h1 h2 := by simp at h1; simp [h2, h1]
  exact' h := by simp at h; simp [h]
instance : NM rHd := ⟨rfl⟩
def oS (rt : RT α) (ys : List α) (v : Value) (r1 : RT γ) (d1 : γ) (r2 : RT δ) (d2 : δ) : Prop :=
  r1.agg = r2.agg ∧ ∀ (w : World) (ok : Ok) (cs : List Value), (ab rt).val w ok v ys → r1.rep w ok cs d1 → r2.rep w ok cs d2
theorem kl {rt : RT α} {ys : List α} {A : Option Addr} {n cap : Nat} : oS rt ys (.slice A n cap) rHd (A, n, cap) (ab rt) ys := by
  refine ⟨rfl, fun w ok cs hv h => ?_⟩
  have h : cs = [.slice A n cap] := h
  subst h
  obtain ⟨cs', h1, h2⟩ := hv
  obtain ⟨c', hc⟩ := pT (ab rt) rfl h1
  subst hc
  have h2 : Value.slice A n cap = c' := h2
  rw [h2]; exact h1
theorem df {rt : RT α} {ys : List α} {v : Value} {ε : Type} {r0 : RT ε} {r1 : RT γ} {d1 : γ} {r2 : RT δ} {d2 : δ} (x : ε) (h : oS rt ys v r1 d1 r2 d2) : oS rt ys v (bO r0 r1) (x, d1) (bO r0 r2) (x, d2) :=
  ⟨rfl, fun w ok _ hv ⟨c1, c2, e, g1, g2⟩ => ⟨c1, c2, e, g1, h.2 w ok c2 hv g2⟩⟩
end
end Go.Eng
namespace Go.Proofs.YtehcaebnijlhgaaGreatDoor.C12
open Go.Eng
set_option maxRecDepth 100000
set_option maxHeartbeats 4000000
open Go.Eng Tryz
open Go.Proofs.YtehcaebnijlhgaaGreatDoor.C05
def svRB (p : Rg × Bool) : SV := .tup2 (.tv co p.1) (.raw (.bool p.2))
theorem rI {p : Rg × Bool} {a : Rg} {b : Bool} (h : (a, b) = p) : SV.tup2 (SV.of co a) (.raw (.bool b)) = svRB p := by subst h; rfl
theorem l5 (r : Rg) : Ct prog 121 [.tv co r] (.raw (.bool (kn r))) := by
  refine ay func121 rfl rfl ntmps121 rfl rfl ?_
  intro w0 ok0
  refine zR (zb (.tv (.b rfl)) (zY rfl (aa (zR (zF fI rfl (zL ty3 rfl rfl rfl fQ (zJ (ew (.b rfl) (.b rfl)) (zM rfl (zG rfl rfl (fun hg => ao fI (.b rfl)) (zG rfl rfl (fun hg => aj ty3 (.gd rfl hg) rfl rfl fQ) (zG rfl rfl (fun hg => ao fH (.b rfl)) (zG rfl rfl (fun hg => aj ty3 (.gd rfl hg) rfl rfl fP) (zG rfl rfl (fun hg => ew (.gd rfl hg) (.gd rfl hg)) (zJ (aF (.b rfl) (.b rfl) rfl zp) (zM rfl (zG rfl rfl (fun hg => ao fH (.b rfl)) (zG rfl rfl (fun hg => aj ty3 (.gd rfl hg) rfl rfl fP) (zG rfl rfl (fun hg => ew (.gd rfl hg) (.b rfl)) (zJ (aF (.b rfl) (.b rfl) rfl zp) (zY rfl (aa (am ?_))))))))))))))))))))))
  exact z1 results121 rfl (rb (by first | rfl | (simp [kn]; done) | (rw [Bool.eq_iff_iff]; simp [kn]; omega)))
theorem wI (r : Rg) : Ct prog 219 [.tv co r] (.raw (.bool (si r))) := by
  refine ay func219 rfl rfl ntmps219 rfl rfl ?_
  intro w0 ok0
  refine zR (zb (.tv (.b rfl)) (zY rfl (aa (zR (zL ji rfl rfl rfl (Lens.id _) (zJ (an (l5 _) (.cons (.b rfl) .nil) rfl rfl) (zM rfl (zG rfl rfl (fun hg => ao fI (.b rfl)) (zG rfl rfl (fun hg => aj ty3 (.gd rfl hg) rfl rfl fQ) (zG rfl rfl (fun hg => ao fH (.b rfl)) (zG rfl rfl (fun hg => aj ty3 (.gd rfl hg) rfl rfl fP) (zG rfl rfl (fun hg => dS (.gd rfl hg) (.gd rfl hg)) (zJ (aF (.b rfl) (.b rfl) rfl zp) (zY rfl (aa (am ?_))))))))))))))))
  exact z1 results219 rfl (rb (by first | rfl | (simp [si]; done) | (rw [Bool.eq_iff_iff]; simp [si]; omega)))
theorem xQ (a b : Rg) : Ct prog 179 [.tv co a, .tv co b] (svRB (qg a b)) := by
  refine ay func179 rfl rfl ntmps179 rfl rfl ?_
  intro w0 ok0
  refine zR (zb (.tv (.b rfl)) (zb (.tv (.b rfl)) (zl z63 (zY rfl (aa (ae (zR (zL ji rfl rfl rfl (Lens.id _) (zJ (an (wI _) (.cons (.b rfl) .nil) rfl rfl) (zJ (b6 (.b rfl)) (zM rfl (zG rfl rfl (fun hg => aj ji (.b rfl) rfl rfl (Lens.id _)) (zG rfl rfl (fun hg => an (wI _) (.cons (.gd rfl hg) .nil) rfl rfl) (zG rfl rfl (fun hg => b6 (.gd rfl hg)) (zJ (aB (.b rfl) (.b rfl) rfl zp) (zZ ?_))))))))))))))))
  refine af rfl (fun h1 => ?_) (fun h1 => ?_)
  · have k1 : si a = false ∨ si b = false := by simpa using h1
    refine zR (zJ (aI z63 rfl yS .nil) (zC ji rfl rfl rfl (Lens.id _) (.tv (.b rfl)) (zY rfl (aa (am (ai ?_))))))
    exact aK results179 (ax ji rfl rfl rfl (Lens.id co)) (aw rfl) ⟨rfl, rfl⟩ (rI (by unfold qg; rw [if_pos k1]))
  have k1 : ¬ (si a = false ∨ si b = false) := by simpa using h1
  refine ah (aa (zR (zF fI rfl (zL ty3 rfl rfl rfl fQ (zF fI rfl (zL ty3 rfl rfl rfl fQ (zJ (yX (.b rfl) (.b rfl)) (zF fH rfl (zL ty3 rfl rfl rfl fP (zF fH rfl (zL ty3 rfl rfl rfl fP (zJ (uL (.b rfl) (.b rfl)) (zJ (aI z63 rfl yS (.cons (rt' := (ak .i64)) rfl fQ (.raw (.b rfl) rfl) (.cons (rt' := (ak .i64)) rfl fP (.raw (.b rfl) rfl) .nil))) (zl z63 (zC ji rfl rfl rfl (Lens.id _) (.tv (.b rfl)) (zZ (ae (zR (zF fI rfl (zL ty3 rfl rfl rfl fQ (zF fH rfl (zL ty3 rfl rfl rfl fP (zJ (bW (.b rfl) (.b rfl)) (zZ ?_))))))))))))))))))))))))
  refine af rfl (fun h4 => ?_) (fun h4 => ?_)
  · try simp at h4
    refine zR (zJ (aI z63 rfl yS .nil) (zC ji rfl rfl rfl (Lens.id _) (.tv (.b rfl)) (zY rfl (aa (am (ai ?_))))))
    exact aK results179 (ax ji rfl rfl rfl (Lens.id co)) (aw rfl) ⟨rfl, rfl⟩ (rI (by unfold qg; rw [if_neg k1, if_pos (by simpa using h4)]))
  try simp at h4
  refine ah (aa (zR (zL ji rfl rfl rfl (Lens.id _) (zC ji rfl rfl rfl (Lens.id _) (.tv (.b rfl)) (zY rfl (aa (am ?_)))))))
  exact aK results179 (ax ji rfl rfl rfl (Lens.id co)) (aw rfl) ⟨rfl, rfl⟩ (rI (by unfold qg; rw [if_neg k1, if_neg (Int.not_le.2 h4)]))
def qy (a b : jU) : Bool := (qg a.1 b.1).2 && decide ((if a.2.1 < b.2.1 then b.2.1 else a.2.1) < (if b.2.2.1 < a.2.2.1 then b.2.2.1 else a.2.2.1))
def lC (f : jU → Bool) : List jU → Nat → Int × Bool
  | [], _ => (0, false)
  | x :: l, k => if f x = true then ((k : Int), true) else lC f l (k + 1)
def svIB (p : Int × Bool) : SV := .tup2 (.raw (.int .i64 p.1)) (.raw (.bool p.2))
theorem vB {p : Int × Bool} {a : Int} {b : Bool} (h : (a, b) = p) : SV.tup2 (.raw (.int .i64 a)) (.raw (.bool b)) = svIB p := by subst h; rfl
theorem us (a b : jU) : Ct prog 131 [.tv ib a, .tv ib b] (.raw (.bool (qy a b))) := by
  refine ay func131 rfl rfl ntmps131 rfl rfl ?_
  intro w0 ok0
  refine zR (zb (.tv (.b rfl)) (zb (.tv (.b rfl)) (zY rfl (aa (zR (zF nF rfl (zL ji rfl rfl rfl qc (zF nF rfl (zL ji rfl rfl rfl qc (zJ (an (xQ _ _) (.cons (.b rfl) (.cons (.b rfl) .nil)) rfl rfl) (zM rfl (zJ (bj (.b rfl)) (zJ (bi (.b rfl)) (zl z63 (zC ji rfl rfl rfl (Lens.id _) (.tv (.b rfl)) (zY rfl (aa (zR (zM rfl (zM rfl (zG rfl rfl (fun hg => ao nE (.b rfl)) (zG rfl rfl (fun hg => aj ty3 (.gd rfl hg) rfl rfl qb) (zG rfl rfl (fun hg => ao nE (.b rfl)) (zG rfl rfl (fun hg => aj ty3 (.gd rfl hg) rfl rfl qb) (zG rfl rfl (fun hg => yX (.gd rfl hg) (.gd rfl hg)) (zG rfl rfl (fun hg => ao nD (.b rfl)) (zG rfl rfl (fun hg => aj ty3 (.gd rfl hg) rfl rfl qa) (zG rfl rfl (fun hg => ao nD (.b rfl)) (zG rfl rfl (fun hg => aj ty3 (.gd rfl hg) rfl rfl qa) (zG rfl rfl (fun hg => uL (.gd rfl hg) (.gd rfl hg)) (zG rfl rfl (fun hg => dS (.gd rfl hg) (.gd rfl hg)) (zJ (aF (.b rfl) (.b rfl) rfl zp) (zY rfl ?_)))))))))))))))))))))))))))))))))
  refine aa (am ?_)
  exact z1 results131 rfl (rb (by first | rfl | (unfold qy; rfl) | (simp [qy]; done)))
theorem AW (l : List jU) (f : jU → Bool) : Ct prog 129 [.tv (ab ib) l, .tv (gC prog ib bP (fun _ => True)) f] (svIB (lC f l 0)) := by
  refine ay func129 rfl rfl ntmps129 rfl rfl ?_
  intro w0 ok0
  refine eE 0 rfl (fun hl0 => ?_)
  refine zR (zA rfl (zY rfl (aa (ae (zR (zM rfl (zN md rfl (zM rfl (zZ (aq ?_))))))))))
  refine aZ (ι := Nat) (fun k => ⟨[(1, .tv (gC prog ib bP (fun _ => True)) f), (8, .tv (ab ib) l), (9, .raw (.int .i64 (l.length))), (10, .raw (.int .i64 ((k : Nat))))], []⟩) (fun k => k ≤ l.length ∧ lC f (l.drop k) k = lC f l 0) (fun k => l.length - k) 0 (⟨Nat.zero_le _, rfl⟩) (fun a w hi => (zI hi)) ?_
  rintro k ⟨p1, p2⟩
  refine zR (zt rfl rfl (zZ (ae ?_)))
  refine af rfl (fun h2 => ?_) (fun h2 => ?_)
  · simp at h2
    have hd := List.drop_eq_getElem_cons h2
    refine ah (aa (ae (aq (zR (zM rfl ?_)))))
    refine bc _ rfl _ rfl rfl (al md oT (.b rfl) (.b rfl) rfl zg) ?_
    refine zD oT rfl (zl z65 (zA rfl (zC oT rfl rfl rfl (Lens.id _) (.tv (.b rfl)) (zZ (zR (zM rfl (zL oT rfl rfl rfl (Lens.id _) (zJ (gj (.b rfl) (.tv (.b rfl)) trivial) (zZ ?_)))))))))
    refine af rfl (fun h4 => ?_) (fun h4 => ?_)
    · skip
      refine zR (zM rfl (zA rfl (zY rfl (aa (am (av (ai (bL (av (ai ?_))))))))))
      exact z2 results129 rfl rfl (vB (by rw [← p2, hd, lC, if_pos h4]))
    skip
    refine ah (aG (aa (ac (zU rfl rfl zw (zM rfl (aN ?_))))))
    exact aD (fun a w hi => ⟨k + 1, zj, (⟨by omega, by rw [← p2, hd, lC, if_neg (by rw [h4]; simp)]⟩), (zI hi)⟩)
  simp at h2
  refine bg (be (aY (bf (aa (ae (ac (zA rfl (zY rfl (aa (am ?_))))))))))
  exact z2 results129 rfl rfl (vB (by rw [← p2, List.drop_of_length_le zo]; rfl))
theorem vdc_ok (x r : jU) : Ct prog 130 [.tv ib x, .eptr ib r] (.raw (.bool (qy x r))) := by
  refine ay func130 rfl rfl ntmps130 rfl rfl ?_
  intro w0 ok0
  refine zR (zb (.tv (.b rfl)) (zY rfl (aa (zR (zL oT rfl rfl rfl (Lens.id _) (zD oT rfl (zJ (an (us _ _) (.cons (.b rfl) (.cons (.b rfl) .nil)) rfl rfl) (zY rfl (aa (am ?_))))))))))
  exact z1 results130 rfl rfl
end Go.Proofs.YtehcaebnijlhgaaGreatDoor.C12
namespace Go.Proofs.YtehcaebnijlhgaaGreatDoor.C12
open Go.Eng
open Go.Proofs.YtehcaebnijlhgaaGreatDoor.C05
set_option maxRecDepth 100000
set_option maxHeartbeats 4000000
end Go.Proofs.YtehcaebnijlhgaaGreatDoor.C12
namespace Go.Proofs.YtehcaebnijlhgaaGreatDoor.C12
open Go.Eng
open Go.Proofs.YtehcaebnijlhgaaGreatDoor.C05
set_option maxRecDepth 100000
set_option maxHeartbeats 1000000
def pE (bad : jU → Bool) (l : List jU) : Nat → Int × Int
  | 0 => (0, 0)
  | d + 1 => if bad (l.getD (l.length - (d + 1)) ((0, 0), 0, 0, 0)) = true then (((l.length - (d + 1) : Nat) : Int), 3)
    else if (lC (fun x => qy x (l.getD (l.length - (d + 1)) ((0, 0), 0, 0, 0))) (l.take (l.length - (d + 1))) 0).2 = true then (((l.length - (d + 1) : Nat) : Int), 11) else pE bad l d
theorem mC {bad : jU → Bool} {l : List jU} {j : Nat} (h : j < l.length) : pE bad l (l.length - j) = if bad l[j] = true then ((j : Int), 3) else if (lC (fun x => qy x l[j]) (l.take j) 0).2 = true then ((j : Int), 11) else pE bad l (l.length - (j + 1)) := by
  obtain ⟨d, hd⟩ : ∃ d, l.length - j = d + 1 := ⟨l.length - j - 1, by omega⟩
  have e : l.length - (d + 1) = j := by omega
  rw [hd, pE, e, List.getD_eq_getElem?_getD, List.getElem?_eq_getElem h, show l.length - (j + 1) = d by omega]
  rfl
end Go.Proofs.YtehcaebnijlhgaaGreatDoor.C12
