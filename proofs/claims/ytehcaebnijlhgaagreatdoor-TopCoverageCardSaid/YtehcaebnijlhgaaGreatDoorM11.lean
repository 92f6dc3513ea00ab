import Derived.Test.YtehcaebnijlhgaaGreatDoorM3
import Derived.Test.YtehcaebnijlhgaaGreatDoorM10
import Derived.Test.YtehcaebnijlhgaaGreatDoorM7
import Derived.WalkKit
import Derived.Test.YtehcaebnijlhgaaGreatDoorM4
set_option linter.unusedVariables false
set_option linter.unusedSimpArgs false
namespace Go.Proofs.YtehcaebnijlhgaaGreatDoor.C16
open Go.Eng Tryz
set_option maxRecDepth 100000
set_option maxHeartbeats 4000000
theorem par_eq (j : Nat) (h : j < 1000000) : IntKind.wrap .i64 (((j : Int) - 1).tdiv 2) = (((j - 1) / 2 : Nat) : Int) := by
  have e : ((j : Int) - 1).tdiv 2 = (((j - 1) / 2 : Nat) : Int) := by
    cases j with
    | zero => rfl
    | succ n => rw [show ((n + 1 : Nat) : Int) - 1 = (n : Int) by omega, Int.tdiv_eq_ediv_of_nonneg zo, show n + 1 - 1 = n by omega]; rfl
  rw [e]
  exact w64 zo
theorem AC (xs : List Int) (j0 : Nat) (h0 : UpI xs j0) (hj0 : j0 < xs.length) (hm : xs.length ≤ 1001) : CtI prog 217 (ak .i64) (BL 283) xs (fun ys => ys.Perm xs ∧ eh ys.length ys) [.raw (.int .i64 (j0 : Nat))] (.raw (.tuple #[])) := by
  refine gT (iY 283 100 101 1) (fun _ _ _ _ _ => cG) func217 rfl rfl rfl rfl rfl ?_
  intro w0 ok0 pb po A cap ex
  refine aq ?_
  refine aZ (ι := (List Int × Nat × Option Addr × Nat)) (fun (ys, j, A, cap) => ⟨[(0, (iY 283 100 101 1 pb po) A ys.length cap), (1, .raw (.int .i64 ((j : Nat))))], [(100, ⟨rHd, [(A, (ys).length, cap)]⟩), (101, ⟨ak .i64, ys⟩)]⟩) (fun (ys, j, A, cap) => ys.Perm xs ∧ UpI ys j ∧ j < ys.length) (fun (ys, j, A, cap) => j) (xs, j0, A, cap) (⟨.refl _, h0, hj0⟩) (fun a w hi => (zI hi)) ?_
  rintro ⟨ys, j, A, cap⟩ ⟨hp, hu, hj⟩
  have hlen := hp.length_eq
  refine aq (zR (zM rfl (zJ (da (.b rfl) (.b rfl) zw) (zJ (rT (.b rfl) (.b rfl) zo (par_eq j zo)) (zY rfl (aa (ae (zR (zM rfl (zM rfl (ze rfl rfl (zM rfl (zG rfl rfl (fun hg => ag (.b rfl)) (zG rfl rfl (fun hg => ag (.b rfl)) (zG rfl rfl (fun hg => ag (.b rfl)) (zG rfl rfl (fun hg => gJ (nw ys j ((j - 1) / 2) hj zo) ph iV fK (.gd rfl hg) cG rfl rfl rfl rfl rfl (.cons (.gd rfl hg) rfl (.cons (.gd rfl hg) rfl .nil)) io) (zG rfl rfl (fun hg => b6 (.gd rfl hg)) (zJ (aB (.b rfl) (.b rfl) rfl zp) (zZ ?_)))))))))))))))))))
  refine af rfl (fun h1 => ?_) (fun h1 => ?_)
  · have hh : eh ys.length ys := by
      by_cases e : j = 0
      · subst e; exact BH hu
      exact BI hu (by
        simp at h1
        rcases h1 with h1 | h1
        · omega
        omega)
    refine bg (be (gn rfl (aY (bf ?_))))
    exact mW (s0 := 0) results217 rfl cG rfl rfl rfl ⟨hp, hh⟩
  have h1a : 0 < j := by simp at h1; omega
  have h1b : gt ys j < gt ys ((j - 1) / 2) := by simp at h1; omega
  refine ah (aa (zR (zM rfl (zM rfl (zM rfl ?_)))))
  refine ff (c0 := 0) (nb := 100) (nm := 101) (pb := pb) (po := po) (iY 283 100 101 1 pb po) [] [4] (il ys ((j - 1) / 2) j zo hj) rfl rfl rfl (fun _ _ _ => cG) (fun β a w hi => nt hi (il ys ((j - 1) / 2) j zo hj).ent pg iV fK (.b rfl) cG rfl) rfl rfl rfl rfl (.cons (.b rfl) (.cons (.b rfl) .nil)) rfl rfl rfl rfl (.free rfl rfl (.nil)) ?_
  intro ys2 A2 cap2 hq
  subst hq
  refine zZ (ac (zM rfl (zY rfl (aG ?_))))
  exact aD (fun a w hi => ⟨(sw ys ((j - 1) / 2) j, (j - 1) / 2, A2, cap2), zj, (⟨(o7 zo hj).trans hp, BJ hu hj h1a h1b, by rw [kq]; omega⟩), (zI hi)⟩)
theorem tY (xs : List Int) (n0 : Nat) (h0 : DnI n0 xs 0) (hn : n0 ≤ xs.length) (hm : xs.length ≤ 1001) : CtI prog 218 (ak .i64) (BL 283) xs (fun ys => ys.Perm xs ∧ eh n0 ys ∧ gt ys n0 = gt xs n0) [.raw (.int .i64 0), .raw (.int .i64 (n0 : Nat))] (.tv uH ()) := by
  refine gT (iY 283 100 101 1) (fun _ _ _ _ _ => cG) func218 rfl rfl rfl rfl rfl ?_
  intro w0 ok0 pb po A cap ex
  refine zR (zY rfl (aa (zR (zM rfl (zY rfl (aa (ae (aq ?_))))))))
  refine aZ (ι := (List Int × Nat × Option Addr × Nat)) (fun (ys, i, A, cap) => ⟨[(0, (iY 283 100 101 1 pb po) A ys.length cap), (1, .raw (.int .i64 (0))), (2, .raw (.int .i64 ((n0 : Nat)))), (7, .raw (.int .i64 ((i : Nat))))], [(100, ⟨rHd, [(A, (ys).length, cap)]⟩), (101, ⟨ak .i64, ys⟩)]⟩) (fun (ys, i, A, cap) => ys.Perm xs ∧ DnI n0 ys i ∧ i ≤ n0 ∧ gt ys n0 = gt xs n0) (fun (ys, i, A, cap) => n0 - i) (xs, 0, A, cap) (⟨.refl _, h0, Nat.zero_le _, rfl⟩) (fun a w hi => (zI hi)) ?_
  rintro ⟨ys, i, A, cap⟩ ⟨hp, hd, hi0, ht⟩
  have hlen := hp.length_eq
  refine aq (zR (zM rfl (zJ (uK (.b rfl) (.b rfl) zw) (zU rfl rfl zw (zA rfl ?_)))))
  rw [show (2 * (i : Int) + 1) = ((2 * i + 1 : Nat) : Int) from by omega]
  refine zZ (ae (zR (zM rfl (zM rfl (zJ (bW (.b rfl) (.b rfl)) (zM rfl (zG rfl rfl (fun hg => ag (.b rfl)) (zG rfl rfl (fun hg => dS (.gd rfl hg) (.b rfl)) (zJ (aB (.b rfl) (.b rfl) rfl zp) (zZ ?_))))))))))
  refine af rfl (fun h3 => ?_) (fun h3 => ?_)
  · have hh : eh n0 ys := dn_end hd (by simp at h3; omega)
    refine bg (be (gn rfl (aY (bf (aa (ae (ac (zM rfl (zM rfl (zJ (bY (.b rfl) (.b rfl)) (zY rfl (aa (am ?_)))))))))))))
    refine qe 6 rfl ?_
    exact lr (s0 := 0) results218 (aw rfl) rfl rfl rfl cG rfl rfl rfl ⟨hp, hh, ht⟩
  have h3a : 2 * i + 1 < n0 := by simp at h3; omega
  refine ah (aa (zR (zM rfl (zY rfl (aa (ae (zR (zM rfl (zU rfl rfl zw (zA rfl ?_))))))))))
  rw [show (((2 * i + 1 : Nat) : Int) + 1) = ((2 * i + 2 : Nat) : Int) from by omega]
  refine zZ (zR (zM rfl (zM rfl (zt rfl rfl (zM rfl (zG rfl rfl (fun hg => ag (.b rfl)) (zG rfl rfl (fun hg => ag (.b rfl)) (zG rfl rfl (fun hg => ag (.b rfl)) (zG rfl rfl (fun hg => gJ (nw ys (2 * i + 2) (2 * i + 1) (by simp at hg; omega) zo) ph iV fK (.gd rfl hg) cG rfl rfl rfl rfl rfl (.cons (.gd rfl hg) rfl (.cons (.gd rfl hg) rfl .nil)) io) (zJ (aF (.b rfl) (.b rfl) rfl zp) (zZ ?_)))))))))))
  refine af rfl (fun h6 => ?_) (fun h6 => ?_)
  · obtain ⟨jj, hjj⟩ : ∃ jj, jj = 2 * i + 2 := ⟨_, rfl⟩
    have hjn : jj < n0 := by simp at h6; omega
    have hj0 : 0 < jj := by omega
    have hjp : (jj - 1) / 2 = i := by omega
    have hm : ∀ k, 0 < k → k < n0 → (k - 1) / 2 = i → gt ys jj ≤ gt ys k := fun k a b c => by
      have h6 : gt ys (2 * i + 2) < gt ys (2 * i + 1) := by simp at h6; omega
      subst hjj
      rcases (show k = 2 * i + 1 ∨ k = 2 * i + 2 by omega) with e | e
      · subst e; omega
      subst e; omega
    rw [← hjj]
    refine ac (zM rfl (zY rfl (aa (ae (zR (zM rfl (zM rfl (zM rfl (zJ (gJ (nw ys jj i zo zo) ph iV fK (.b rfl) cG rfl rfl rfl rfl rfl (.cons (.b rfl) rfl (.cons (.b rfl) rfl .nil)) io) (zJ (b6 (.b rfl)) (zZ ?_)))))))))))
    refine af rfl (fun h8 => ?_) (fun h8 => ?_)
    · have hh : eh n0 ys := wG hd hm (by simpa using h8)
      refine bg (be (gn rfl (aY (bf (aa (ae (ac (zM rfl (zM rfl (zJ (bY (.b rfl) (.b rfl)) (zY rfl (aa (am ?_)))))))))))))
      refine qe 6 rfl ?_
      exact lr (s0 := 0) results218 (aw rfl) rfl rfl rfl cG rfl rfl rfl ⟨hp, hh, ht⟩
    have hl : gt ys jj < gt ys i := by simpa using h8
    refine ah (aa (zR (zM rfl (zM rfl (zM rfl ?_)))))
    refine ff (c0 := 0) (nb := 100) (nm := 101) (pb := pb) (po := po) (iY 283 100 101 1 pb po) [] [1, 2, 9] (il ys i jj zo zo) rfl rfl rfl (fun _ _ _ => cG) (fun β a w hi => nt hi (il ys i jj zo zo).ent pg iV fK (.b rfl) cG rfl) rfl rfl rfl rfl (.cons (.b rfl) (.cons (.b rfl) .nil)) rfl rfl rfl rfl (.free rfl rfl (.free rfl rfl (.free rfl rfl (.nil)))) ?_
    intro ys2 A2 cap2 hq
    subst hq
    refine zZ (ac (zM rfl (zY rfl (aG ?_))))
    exact aD (fun a w hi => ⟨(sw ys i jj, jj, A2, cap2), zj, (⟨(o7 zo zo).trans hp, wH hd zo hjn hj0 hjp hm hl, by omega, by rw [nZ zo zo, if_neg zo, if_neg zo]; exact ht⟩), (zI hi)⟩)
  obtain ⟨jj, hjj⟩ : ∃ jj, jj = 2 * i + 1 := ⟨_, rfl⟩
  have hjn : jj < n0 := by omega
  have hj0 : 0 < jj := by omega
  have hjp : (jj - 1) / 2 = i := by omega
  have hm : ∀ k, 0 < k → k < n0 → (k - 1) / 2 = i → gt ys jj ≤ gt ys k := fun k a b c => by
    subst hjj
    rcases (show k = 2 * i + 1 ∨ k = 2 * i + 2 by omega) with e | e
    · subst e; omega
    subst e; simp at h6; have := h6 zo; omega
  rw [← hjj]
  refine ah (aa (ae (zR (zM rfl (zM rfl (zM rfl (zJ (gJ (nw ys jj i zo zo) ph iV fK (.b rfl) cG rfl rfl rfl rfl rfl (.cons (.b rfl) rfl (.cons (.b rfl) rfl .nil)) io) (zJ (b6 (.b rfl)) (zZ ?_)))))))))
  refine af rfl (fun h8 => ?_) (fun h8 => ?_)
  · have hh : eh n0 ys := wG hd hm (by simpa using h8)
    refine bg (be (gn rfl (aY (bf (aa (ae (ac (zM rfl (zM rfl (zJ (bY (.b rfl) (.b rfl)) (zY rfl (aa (am ?_)))))))))))))
    refine qe 6 rfl ?_
    exact lr (s0 := 0) results218 (aw rfl) rfl rfl rfl cG rfl rfl rfl ⟨hp, hh, ht⟩
  have hl : gt ys jj < gt ys i := by simpa using h8
  refine ah (aa (zR (zM rfl (zM rfl (zM rfl ?_)))))
  refine ff (c0 := 0) (nb := 100) (nm := 101) (pb := pb) (po := po) (iY 283 100 101 1 pb po) [] [1, 2, 9] (il ys i jj zo zo) rfl rfl rfl (fun _ _ _ => cG) (fun β a w hi => nt hi (il ys i jj zo zo).ent pg iV fK (.b rfl) cG rfl) rfl rfl rfl rfl (.cons (.b rfl) (.cons (.b rfl) .nil)) rfl rfl rfl rfl (.free rfl rfl (.free rfl rfl (.free rfl rfl (.nil)))) ?_
  intro ys2 A2 cap2 hq
  subst hq
  refine zQ [0,1,2,9] [100,101] (aa (ac ?_))
  refine zM rfl (zY rfl (aG ?_))
  exact aD (fun a w hi => ⟨(sw ys i jj, jj, A2, cap2), zj, (⟨(o7 zo zo).trans hp, wH hd zo hjn hj0 hjp hm hl, by omega, by rw [nZ zo zo, if_neg zo, if_neg zo]; exact ht⟩), (zI hi)⟩)
theorem jz (xs : List Int) (x : Int) (hh : eh xs.length xs) (hm : xs.length ≤ 1000) : CtI prog 175 (ak .i64) (BL 283) xs (fun ys => ys.Perm (x :: xs) ∧ eh ys.length ys) [.raw (.iface 3 (.int .i64 x))] (.raw (.tuple #[])) := by
  refine gT (iY 283 100 101 1) (fun _ _ _ _ _ => cG) func175 rfl rfl rfl rfl rfl ?_
  intro w0 ok0 pb po A cap ex
  refine zR (zM rfl (zM rfl ?_))
  refine ff (c0 := 0) (nb := 100) (nm := 101) (pb := pb) (po := po) (iY 283 100 101 1 pb po) [] [] (tX xs x hm) rfl rfl rfl (fun _ _ _ => cG) (fun β a w hi => tV hi (tX xs x hm).ent B3 iV (.b rfl) cG) rfl rfl rfl rfl (.cons (.b rfl) .nil) rfl rfl rfl rfl (.nil) ?_
  intro ys2 A2 cap2 hq
  subst hq
  refine zZ ?_
  have hxl : (xs ++ [x]).length = xs.length + 1 := by simp
  refine ac (zM rfl (zM rfl (zJ (gJ (sf (xs ++ [x]) (by (try simp); omega)) zi iV fK (.b rfl) cG rfl rfl rfl rfl rfl .nil io) (zJ (da (.b rfl) (.b rfl) zw) ?_))))
  rw [show (((xs ++ [x]).length : Nat) : Int) - 1 = ((xs.length : Nat) : Int) from by simp]
  refine ff (c0 := 0) (nb := 100) (nm := 101) (pb := pb) (po := po) (iY 283 100 101 1 pb po) [] [] (AC (xs ++ [x]) xs.length (sY hh) (by simp) (by simp; omega)) rfl rfl rfl (fun _ _ _ => cG) (fun β a w hi => tW hi (AC (xs ++ [x]) xs.length (sY hh) (by simp) (by simp; omega)).ent (.b rfl) cG) rfl rfl rfl rfl (.cons (.b rfl) .nil) rfl rfl rfl rfl (.nil) ?_
  intro ys3 A3 cap3 hq
  refine aN ?_
  exact mW (s0 := 0) results175 rfl cG rfl rfl rfl ⟨hq.1.trans (List.perm_append_comm.trans (List.Perm.refl _)), hq.2⟩
theorem ql (xs : List Int) (hh : eh xs.length xs) (h0 : 0 < xs.length) (hm : xs.length ≤ 1000) : CtI prog 177 (ak .i64) (BL 283) xs (fun ys => xs.Perm (gt xs 0 :: ys) ∧ eh ys.length ys) [] (.raw (.iface 3 (.int .i64 (gt xs 0)))) := by
  refine gT (iY 283 100 101 1) (fun _ _ _ _ _ => cG) func177 rfl rfl rfl rfl rfl ?_
  intro w0 ok0 pb po A cap ex
  refine zR (zY rfl (aa (zR (zM rfl (zJ (gJ (sf xs (by (try simp); omega)) zi iV fK (.b rfl) cG rfl rfl rfl rfl rfl .nil io) (zJ (da (.b rfl) (.b rfl) zw) (zA rfl ?_)))))))
  rw [show ((xs.length : Nat) : Int) - 1 = ((xs.length - 1 : Nat) : Int) from by omega]
  refine zZ (zR (zM rfl (zM rfl ?_)))
  rw [show (Value.int IntKind.i64 0) = Value.int IntKind.i64 ((0 : Nat) : Int) from rfl]
  refine ff (c0 := 0) (nb := 100) (nm := 101) (pb := pb) (po := po) (iY 283 100 101 1 pb po) [] [3] (il xs 0 (xs.length - 1) zo zo) rfl rfl rfl (fun _ _ _ => cG) (fun β a w hi => nt hi (il xs 0 (xs.length - 1) zo zo).ent pg iV fK (.b rfl) cG rfl) rfl rfl rfl rfl (.cons (.b rfl) (.cons (.b rfl) .nil)) rfl rfl rfl rfl (.free rfl rfl (.nil)) ?_
  intro ys2 A2 cap2 hq
  subst hq
  refine zZ (zR (zM rfl (zM rfl ?_)))
  refine ff (c0 := 0) (nb := 100) (nm := 101) (pb := pb) (po := po) (iY 283 100 101 1 pb po) [] [] (tY (sw xs 0 (xs.length - 1)) (xs.length - 1) (um hh h0) (by rw [kq]; omega) (by rw [kq]; omega)) rfl rfl rfl (fun _ _ _ => cG) (fun β a w hi => tW hi (tY (sw xs 0 (xs.length - 1)) (xs.length - 1) (um hh h0) (by rw [kq]; omega) (by rw [kq]; omega)).ent (.b rfl) cG) rfl rfl rfl rfl (.cons (.b rfl) (.cons (.b rfl) .nil)) rfl rfl rfl rfl (.nil) ?_
  intro ys3 A3 cap3 hq
  obtain ⟨hq1, hq2, hq3⟩ := hq
  have hl3 : ys3.length = xs.length := by rw [hq1.length_eq, kq]
  obtain ⟨pq1, pq2⟩ := yR h0 hq1 hq3
  refine zZ (zR (zM rfl ?_))
  refine ff (c0 := 0) (nb := 100) (nm := 101) (pb := pb) (po := po) (iY 283 100 101 1 pb po) [] [] (wq ys3 zo zo) rfl rfl rfl (fun _ _ _ => cG) (fun β a w hi => tV hi (wq ys3 zo zo).ent mt_pop iV (.b rfl) cG) rfl rfl rfl rfl .nil rfl rfl rfl rfl (.nil) ?_
  intro ys4 A4 cap4 hq
  subst hq
  refine zY rfl (aa (am ?_))
  exact lr (s0 := 0) results177 (aw rfl) rfl (by rw [hl3, pq2]) rfl cG rfl rfl rfl ⟨by rw [hl3]; exact pq1, by rw [hl3]; exact xy hq2 zo⟩
end Go.Proofs.YtehcaebnijlhgaaGreatDoor.C16
namespace Go.Proofs.YtehcaebnijlhgaaGreatDoor
open Go.Eng Go.Sort
set_option maxHeartbeats 2000000
set_option maxRecDepth 100000
theorem iN : vq Tryz.prog 76 (fun zs => zs.mergeSort fun x y => decide (x ≤ y)) (fun _ => none) where
  ent := bJ Tryz.func76 rfl zk
  len zs := List.length_mergeSort zs
  cut zs n h := by cases h
  some_ blk off cap zs w hH hb hz _ := Go.Proofs.Tryz.slices_Sort_int blk off cap zs w hH hb hz
  none_ A cap w := Go.Proofs.Tryz.slices_Sort_int_none A cap w
def xX (zs : List Int) : List Int := Lib.compact zs ++ List.replicate (zs.length - (Lib.compact zs).length) 0
theorem je (zs : List Int) : (xX zs).length = zs.length := by
  have := Lib.compact_length_le zs
  simp [xX]; omega
theorem fk : vq Tryz.prog 77 xX (fun zs => some (Lib.compact zs).length) where
  ent := bJ Tryz.func77 rfl zk
  len := je
  cut zs n h := by injection h with h; subst h; exact Lib.compact_length_le zs
  some_ blk off cap zs w hH hb hz hc := (Go.Proofs.Tryz.slices_Compact_int blk off cap zs w hH zo hc).mono (by
    rintro e w' ⟨rfl, q, rfl⟩; exact ⟨rfl, q, #[], by simp [xX]⟩)
  none_ A cap w := (Go.Proofs.Tryz.slices_Compact_int_empty A cap w).mono (by rintro e w' ⟨rfl, rfl⟩; exact ⟨rfl, rfl⟩)
def vi (zs : List Int) : List Int := xX (zs.mergeSort fun x y => decide (x ≤ y))
theorem gU : vq Tryz.prog 89 vi (fun zs => some (cj zs).length) where
  ent := bJ Tryz.func89 rfl zk
  len zs := by rw [vi, je, List.length_mergeSort]
  cut zs n h := by injection h with h; subst h; exact dI zs
  some_ blk off cap zs w hH hb hz hc := by
    have hsort := iN.some_ blk off cap zs w hH hb hz hc
    go_enter Tryz.func89, Tryz.ntmps89
    go_wp2_with (first
      | (go_at_call 76; refine hsort.mono ?_; rintro e w1 ⟨rfl, nn, os, rfl⟩
         have hl2 : (zs.mergeSort fun x y => decide (x ≤ y)).length = zs.length := List.length_mergeSort zs
         have hH2 : Holds (Value.int .i64) (grow (putRow (Value.int .i64) (Sort.ahead w nn) blk off (zs.mergeSort fun x y => decide (x ≤ y)).toArray) os) blk off (zs.mergeSort fun x y => decide (x ≤ y)).toArray :=
           holds_grow _ _ os blk off _ (by simpa [putRow, mapBlock, Sort.ahead] using hb) (holds_putRow _ _ blk off _ _ (holds_ahead _ w nn blk off _ hH) (by simp))
         have hcomp := fk.some_ blk off cap (zs.mergeSort fun x y => decide (x ≤ y)) _ hH2 (by simpa [putRow, mapBlock, Sort.ahead] using Nat.lt_add_right _ hb) zo zo
         rw [hl2] at hcomp
         clear hH2 hsort)
      | (go_at_call 77; refine hcomp.mono ?_; rintro e w3 ⟨rfl, q, os2, rfl⟩))
    go_ret
    refine ⟨rfl, nn + q, os ++ os2, ?_⟩
    rw [show Sort.ahead (grow (putRow (Value.int .i64) (Sort.ahead w nn) blk off (zs.mergeSort fun x y => decide (x ≤ y)).toArray) os) q = grow (Sort.ahead (putRow (Value.int .i64) (Sort.ahead w nn) blk off (zs.mergeSort fun x y => decide (x ≤ y)).toArray) q) os from rfl]
    rw [putRow_grow _ _ _ _ _ _ (by simpa using hb), grow_grow, putRow_ahead_putRow _ _ _ _ _ _ _ _ (by simp [je])]
    rfl
  none_ A cap w := by
    have hsort := iN.none_ A cap w
    have hcomp := fk.none_ A cap w
    go_enter Tryz.func89, Tryz.ntmps89
    go_wp2_with (first
      | (go_at_call 76; refine hsort.mono ?_; rintro e w1 ⟨rfl, rfl⟩)
      | (go_at_call 77; refine hcomp.mono ?_; rintro e w3 ⟨rfl, rfl⟩))
    go_ret
    exact ⟨rfl, rfl⟩
theorem lb : vq Tryz.prog 126 vi (fun zs => some (cj zs).length) where
  ent := bJ Tryz.func126 rfl zk
  len zs := by rw [vi, je, List.length_mergeSort]
  cut zs n h := by injection h with h; subst h; exact dI zs
  some_ blk off cap zs w hH hb hz hc := by
    have hsort := iN.some_ blk off cap zs w hH hb hz hc
    go_enter Tryz.func126, Tryz.ntmps126
    go_wp2_with (first
      | (go_at_call 76; refine hsort.mono ?_; rintro e w1 ⟨rfl, nn, os, rfl⟩
         have hl2 : (zs.mergeSort fun x y => decide (x ≤ y)).length = zs.length := List.length_mergeSort zs
         have hH2 : Holds (Value.int .i64) (grow (putRow (Value.int .i64) (Sort.ahead w nn) blk off (zs.mergeSort fun x y => decide (x ≤ y)).toArray) os) blk off (zs.mergeSort fun x y => decide (x ≤ y)).toArray :=
           holds_grow _ _ os blk off _ (by simpa [putRow, mapBlock, Sort.ahead] using hb) (holds_putRow _ _ blk off _ _ (holds_ahead _ w nn blk off _ hH) (by simp))
         have hcomp := fk.some_ blk off cap (zs.mergeSort fun x y => decide (x ≤ y)) _ hH2 (by simpa [putRow, mapBlock, Sort.ahead] using Nat.lt_add_right _ hb) zo zo
         rw [hl2] at hcomp
         clear hH2 hsort)
      | (go_at_call 77; refine hcomp.mono ?_; rintro e w3 ⟨rfl, q, os2, rfl⟩))
    go_ret
    refine ⟨rfl, nn + q, os ++ os2, ?_⟩
    rw [show Sort.ahead (grow (putRow (Value.int .i64) (Sort.ahead w nn) blk off (zs.mergeSort fun x y => decide (x ≤ y)).toArray) os) q = grow (Sort.ahead (putRow (Value.int .i64) (Sort.ahead w nn) blk off (zs.mergeSort fun x y => decide (x ≤ y)).toArray) q) os from rfl]
    rw [putRow_grow _ _ _ _ _ _ (by simpa using hb), grow_grow, putRow_ahead_putRow _ _ _ _ _ _ _ _ (by simp [je])]
    rfl
  none_ A cap w := by
    have hsort := iN.none_ A cap w
    have hcomp := fk.none_ A cap w
    go_enter Tryz.func126, Tryz.ntmps126
    go_wp2_with (first
      | (go_at_call 76; refine hsort.mono ?_; rintro e w1 ⟨rfl, rfl⟩)
      | (go_at_call 77; refine hcomp.mono ?_; rintro e w3 ⟨rfl, rfl⟩))
    go_ret
    exact ⟨rfl, rfl⟩
end Go.Proofs.YtehcaebnijlhgaaGreatDoor
namespace Go.Proofs.YtehcaebnijlhgaaGreatDoor
open Go.Eng
set_option maxRecDepth 100000
set_option maxHeartbeats 4000000
end Go.Proofs.YtehcaebnijlhgaaGreatDoor
namespace Go.Proofs.YtehcaebnijlhgaaGreatDoor.C16
open Go.Eng Tryz
set_option maxRecDepth 100000
set_option maxHeartbeats 4000000
def cL (p : Int → Bool) (l : List aP) : List Int := (l.filter (fun d => p d.1)).map (·.2)
def pIn (op : Int) : Bool := op == 7
def dt (op : Int) : Bool := op == 8
def i5 (op : Int) : Bool := decide (36 ≤ op ∧ op ≤ 39)
theorem n6 {p : Int → Bool} {e : List aP} {k : Nat} (hk : k < e.length) (h : p e[k].1 = true) : cL p (e.take (k + 1)) = cL p (e.take k) ++ [e[k].2] := by
  rw [← List.take_append_getElem hk, cL, List.filter_append, List.map_append]; simp [cL, h]
theorem fM {p : Int → Bool} {e : List aP} {k : Nat} (hk : k < e.length) (h : p e[k].1 = false) : cL p (e.take (k + 1)) = cL p (e.take k) := by
  rw [← List.take_append_getElem hk, cL, List.filter_append, List.map_append]; simp [cL, h]
theorem mK {p : Int → Bool} {l : List aP} : (cL p l).length ≤ l.length := by
  simp only [cL, List.length_map]; exact List.length_filter_le _ _
theorem ul (zs : List Int) : (vi zs).take (cj zs).length = cj zs := List.take_left' rfl
theorem sD (zs : List Int) : (vi zs).length = zs.length := gU.len zs
def sv3s (a b c : List Int) : SV := .tup3 (.tv (ab (ak .i64)) a) (.tv (ab (ak .i64)) b) (.tv (ab (ak .i64)) c)
theorem mJ (e : List aP) (hm : e.length ≤ 1000) : Ct prog 45 [.tv (ab bX) e] (sv3s (cj (cL pIn e)) (cj (cL dt e)) (cj (cL i5 e))) := by
  refine ay func45 rfl rfl ntmps45 rfl rfl ?_
  intro w0 ok0
  refine zR (zA rfl (zA rfl (zY rfl (aa (zR (zA rfl (zA rfl (zY rfl (aa (ae (zR (zM rfl (zN fB rfl (zM rfl (zZ (aq ?_))))))))))))))))
  refine eO 70 5 (ak .i64) rfl rfl rfl ?_
  refine eO 71 6 (ak .i64) rfl rfl rfl ?_
  refine eO 72 7 (ak .i64) rfl rfl rfl ?_
  refine aZ (ι := Nat) (fun k => ⟨[(5, .own 70 (ak .i64).n 0 (cL pIn (e.take k)).length), (6, .own 71 (ak .i64).n 0 (cL dt (e.take k)).length), (7, .own 72 (ak .i64).n 0 (cL i5 (e.take k)).length), (10, .tv (ab bX) e), (11, .raw (.int .i64 (e.length))), (12, .raw (.int .i64 ((k : Nat))))], [(70, ⟨ak .i64, (cL pIn (e.take k))⟩), (71, ⟨ak .i64, (cL dt (e.take k))⟩), (72, ⟨ak .i64, (cL i5 (e.take k))⟩)]⟩) (fun k => k ≤ e.length) (fun k => e.length - k) 0 (Nat.zero_le _) (fun a w hi => (zI hi)) ?_
  rintro k hk
  have l1 := mK (p := pIn) (l := e.take k)
  have l2 := mK (p := dt) (l := e.take k)
  have l3 := mK (p := i5) (l := e.take k)
  have l4 : (e.take k).length ≤ k := by simp; omega
  refine zR (zt rfl rfl (zZ (ae ?_)))
  refine af rfl (fun h3 => ?_) (fun h3 => ?_)
  · try simp at h3
    refine ah (aa (ae (aq (zR ?_))))
    refine bc _ rfl _ rfl rfl (al fB cl (.b rfl) (.b rfl) rfl zg) ?_
    refine zD cl rfl (zl kT (zC cl rfl rfl rfl (Lens.id _) (.tv (.b rfl)) (zZ (zR (zF bU rfl (zL ty3 rfl rfl rfl cb (zZ (aq (zR (ze rfl rfl (zY rfl (aa ?_))))))))))))
    refine af rfl (fun h6 => ?_) (fun h6 => ?_)
    · try simp at h6
      refine ac (zM rfl (zF bT rfl (zL ty3 rfl rfl rfl ce (zJ (bq (rt := (ak .i64)) bd ty3 z3 rfl (.cons (.raw (.b rfl) rfl) .nil) rfl rfl) (zV [6,7,10,11,12] bd ty3 z3 by3 rfl rfl (.tv (.b rfl)) ?_)))))
      refine zY rfl ?_
      have hA := n6 (p := pIn) (e := e) (k := k) zo (by simp [pIn, *]; try omega)
      have hB := fM (p := dt) (e := e) (k := k) zo (by simp [dt, *]; try omega)
      have hC := fM (p := i5) (e := e) (k := k) zo (by simp [i5, *]; try omega)
      refine aG (aG (aa (ac (zU rfl rfl zw (zM rfl (aN ?_))))))
      exact aD (fun a w hi => ⟨k + 1, zo, zo, Sub.inv ⟨(by repeat (first | exact aQ | refine aM rfl (by first | rfl | exact congrArg (SV.own 70 (ak .i64).n 0) (by rw [hA]; try simp; try omega) | exact congrArg (SV.own 71 (ak .i64).n 0) (by rw [hB]; try simp; try omega) | exact congrArg (SV.own 72 (ak .i64).n 0) (by rw [hC]; try simp; try omega)) ?_)), (by repeat (first | exact bn | refine aL rfl (by first | rfl | (refine congrArg (HB.mk (ak .i64)) ?_; rw [hA]; try (simp only [List.drop_zero, List.take_of_length_le (Nat.le_refl _)]); done) | (refine congrArg (HB.mk (ak .i64)) ?_; rw [hB]; try (simp only [List.drop_zero, List.take_of_length_le (Nat.le_refl _)]); done) | (refine congrArg (HB.mk (ak .i64)) ?_; rw [hC]; try (simp only [List.drop_zero, List.take_of_length_le (Nat.le_refl _)]); done)) ?_))⟩ hi⟩)
    try simp at h6
    refine zR (ze rfl rfl (zY rfl (aa ?_)))
    refine af rfl (fun h8 => ?_) (fun h8 => ?_)
    · try simp at h8
      refine ac (zM rfl (zF bT rfl (zL ty3 rfl rfl rfl ce (zJ (bq (rt := (ak .i64)) bd ty3 z3 rfl (.cons (.raw (.b rfl) rfl) .nil) rfl rfl) (zV [5,7,10,11,12] bd ty3 z3 by3 rfl rfl (.tv (.b rfl)) ?_)))))
      refine zY rfl ?_
      have hA := fM (p := pIn) (e := e) (k := k) zo (by simp [pIn, *]; try omega)
      have hB := n6 (p := dt) (e := e) (k := k) zo (by simp [dt, *]; try omega)
      have hC := fM (p := i5) (e := e) (k := k) zo (by simp [i5, *]; try omega)
      refine aG (aG (aa (ac (zU rfl rfl zw (zM rfl (aN ?_))))))
      exact aD (fun a w hi => ⟨k + 1, zo, zo, Sub.inv ⟨(by repeat (first | exact aQ | refine aM rfl (by first | rfl | exact congrArg (SV.own 70 (ak .i64).n 0) (by rw [hA]; try simp; try omega) | exact congrArg (SV.own 71 (ak .i64).n 0) (by rw [hB]; try simp; try omega) | exact congrArg (SV.own 72 (ak .i64).n 0) (by rw [hC]; try simp; try omega)) ?_)), (by repeat (first | exact bn | refine aL rfl (by first | rfl | (refine congrArg (HB.mk (ak .i64)) ?_; rw [hA]; try (simp only [List.drop_zero, List.take_of_length_le (Nat.le_refl _)]); done) | (refine congrArg (HB.mk (ak .i64)) ?_; rw [hB]; try (simp only [List.drop_zero, List.take_of_length_le (Nat.le_refl _)]); done) | (refine congrArg (HB.mk (ak .i64)) ?_; rw [hC]; try (simp only [List.drop_zero, List.take_of_length_le (Nat.le_refl _)]); done)) ?_))⟩ hi⟩)
    try simp at h8
    refine ae (zR (ze rfl rfl (zY rfl (aa ?_))))
    refine af rfl (fun h10 => ?_) (fun h10 => ?_)
    · have g10 := h10; have hq : 36 ≤ e[k].1 ∧ e[k].1 ≤ 39 := by first | omega | (simp at h10; omega)
      refine ah (aa ?_)
      refine bz rfl g10 ?_
      refine ac (zM rfl (zF bT rfl (zL ty3 rfl rfl rfl ce (zJ (bq (rt := (ak .i64)) bd ty3 z3 rfl (.cons (.raw (.b rfl) rfl) .nil) rfl rfl) (zV [5,6,10,11,12] bd ty3 z3 by3 rfl rfl (.tv (.b rfl)) ?_)))))
      refine zY rfl ?_
      have hA := fM (p := pIn) (e := e) (k := k) zo (by simp [pIn, *]; try omega)
      have hB := fM (p := dt) (e := e) (k := k) zo (by simp [dt, *]; try omega)
      have hC := n6 (p := i5) (e := e) (k := k) zo (by simp [i5, *]; try omega)
      refine aG (aG (aa (ac (zU rfl rfl zw (zM rfl (aN ?_))))))
      exact aD (fun a w hi => ⟨k + 1, zo, zo, Sub.inv ⟨(by repeat (first | exact aQ | refine aM rfl (by first | rfl | exact congrArg (SV.own 70 (ak .i64).n 0) (by rw [hA]; try simp; try omega) | exact congrArg (SV.own 71 (ak .i64).n 0) (by rw [hB]; try simp; try omega) | exact congrArg (SV.own 72 (ak .i64).n 0) (by rw [hC]; try simp; try omega)) ?_)), (by repeat (first | exact bn | refine aL rfl (by first | rfl | (refine congrArg (HB.mk (ak .i64)) ?_; rw [hA]; try (simp only [List.drop_zero, List.take_of_length_le (Nat.le_refl _)]); done) | (refine congrArg (HB.mk (ak .i64)) ?_; rw [hB]; try (simp only [List.drop_zero, List.take_of_length_le (Nat.le_refl _)]); done) | (refine congrArg (HB.mk (ak .i64)) ?_; rw [hC]; try (simp only [List.drop_zero, List.take_of_length_le (Nat.le_refl _)]); done)) ?_))⟩ hi⟩)
    have g10 := h10; try simp at h10
    refine zR (ze rfl rfl (zA rfl (zQ [5,6,7,9,10,11,12,17,32] [9,70,71,72] (aa ?_))))
    refine af rfl (fun h11 => ?_) (fun h11 => ?_)
    · have g11 := h11; have hq : 36 ≤ e[k].1 ∧ e[k].1 ≤ 39 := by first | omega | (simp at h11; omega)
      refine ah (aa ?_)
      refine bz rfl g11 ?_
      refine ac (zM rfl (zF bT rfl (zL ty3 rfl rfl rfl ce (zJ (bq (rt := (ak .i64)) bd ty3 z3 rfl (.cons (.raw (.b rfl) rfl) .nil) rfl rfl) (zV [5,6,10,11,12] bd ty3 z3 by3 rfl rfl (.tv (.b rfl)) ?_)))))
      refine zY rfl ?_
      have hA := fM (p := pIn) (e := e) (k := k) zo (by simp [pIn, *]; try omega)
      have hB := fM (p := dt) (e := e) (k := k) zo (by simp [dt, *]; try omega)
      have hC := n6 (p := i5) (e := e) (k := k) zo (by simp [i5, *]; try omega)
      refine aG (aG (aa (ac (zU rfl rfl zw (zM rfl (aN ?_))))))
      exact aD (fun a w hi => ⟨k + 1, zo, zo, Sub.inv ⟨(by repeat (first | exact aQ | refine aM rfl (by first | rfl | exact congrArg (SV.own 70 (ak .i64).n 0) (by rw [hA]; try simp; try omega) | exact congrArg (SV.own 71 (ak .i64).n 0) (by rw [hB]; try simp; try omega) | exact congrArg (SV.own 72 (ak .i64).n 0) (by rw [hC]; try simp; try omega)) ?_)), (by repeat (first | exact bn | refine aL rfl (by first | rfl | (refine congrArg (HB.mk (ak .i64)) ?_; rw [hA]; try (simp only [List.drop_zero, List.take_of_length_le (Nat.le_refl _)]); done) | (refine congrArg (HB.mk (ak .i64)) ?_; rw [hB]; try (simp only [List.drop_zero, List.take_of_length_le (Nat.le_refl _)]); done) | (refine congrArg (HB.mk (ak .i64)) ?_; rw [hC]; try (simp only [List.drop_zero, List.take_of_length_le (Nat.le_refl _)]); done)) ?_))⟩ hi⟩)
    have g11 := h11; try simp at h11
    refine zR (ze rfl rfl (zY rfl (aa ?_)))
    refine af rfl (fun h12 => ?_) (fun h12 => ?_)
    · have g12 := h12; have hq : 36 ≤ e[k].1 ∧ e[k].1 ≤ 39 := by first | omega | (simp at h12; omega)
      refine ah (aa ?_)
      refine bz rfl g12 ?_
      refine ac (zM rfl (zF bT rfl (zL ty3 rfl rfl rfl ce (zJ (bq (rt := (ak .i64)) bd ty3 z3 rfl (.cons (.raw (.b rfl) rfl) .nil) rfl rfl) (zV [5,6,10,11,12] bd ty3 z3 by3 rfl rfl (.tv (.b rfl)) ?_)))))
      refine zY rfl ?_
      have hA := fM (p := pIn) (e := e) (k := k) zo (by simp [pIn, *]; try omega)
      have hB := fM (p := dt) (e := e) (k := k) zo (by simp [dt, *]; try omega)
      have hC := n6 (p := i5) (e := e) (k := k) zo (by simp [i5, *]; try omega)
      refine aG (aG (aa (ac (zU rfl rfl zw (zM rfl (aN ?_))))))
      exact aD (fun a w hi => ⟨k + 1, zo, zo, Sub.inv ⟨(by repeat (first | exact aQ | refine aM rfl (by first | rfl | exact congrArg (SV.own 70 (ak .i64).n 0) (by rw [hA]; try simp; try omega) | exact congrArg (SV.own 71 (ak .i64).n 0) (by rw [hB]; try simp; try omega) | exact congrArg (SV.own 72 (ak .i64).n 0) (by rw [hC]; try simp; try omega)) ?_)), (by repeat (first | exact bn | refine aL rfl (by first | rfl | (refine congrArg (HB.mk (ak .i64)) ?_; rw [hA]; try (simp only [List.drop_zero, List.take_of_length_le (Nat.le_refl _)]); done) | (refine congrArg (HB.mk (ak .i64)) ?_; rw [hB]; try (simp only [List.drop_zero, List.take_of_length_le (Nat.le_refl _)]); done) | (refine congrArg (HB.mk (ak .i64)) ?_; rw [hC]; try (simp only [List.drop_zero, List.take_of_length_le (Nat.le_refl _)]); done)) ?_))⟩ hi⟩)
    have g12 := h12; try simp at h12
    refine ac (ze rfl rfl (zY rfl (aa ?_)))
    refine af rfl (fun h13 => ?_) (fun h13 => ?_)
    · have g13 := h13; have hq : 36 ≤ e[k].1 ∧ e[k].1 ≤ 39 := by first | omega | (simp at h13; omega)
      refine ac (zM rfl (zF bT rfl (zL ty3 rfl rfl rfl ce (zJ (bq (rt := (ak .i64)) bd ty3 z3 rfl (.cons (.raw (.b rfl) rfl) .nil) rfl rfl) (zV [5,6,10,11,12] bd ty3 z3 by3 rfl rfl (.tv (.b rfl)) ?_)))))
      refine zY rfl ?_
      have hA := fM (p := pIn) (e := e) (k := k) zo (by simp [pIn, *]; try omega)
      have hB := fM (p := dt) (e := e) (k := k) zo (by simp [dt, *]; try omega)
      have hC := n6 (p := i5) (e := e) (k := k) zo (by simp [i5, *]; try omega)
      refine aG (aG (aa (ac (zU rfl rfl zw (zM rfl (aN ?_))))))
      exact aD (fun a w hi => ⟨k + 1, zo, zo, Sub.inv ⟨(by repeat (first | exact aQ | refine aM rfl (by first | rfl | exact congrArg (SV.own 70 (ak .i64).n 0) (by rw [hA]; try simp; try omega) | exact congrArg (SV.own 71 (ak .i64).n 0) (by rw [hB]; try simp; try omega) | exact congrArg (SV.own 72 (ak .i64).n 0) (by rw [hC]; try simp; try omega)) ?_)), (by repeat (first | exact bn | refine aL rfl (by first | rfl | (refine congrArg (HB.mk (ak .i64)) ?_; rw [hA]; try (simp only [List.drop_zero, List.take_of_length_le (Nat.le_refl _)]); done) | (refine congrArg (HB.mk (ak .i64)) ?_; rw [hB]; try (simp only [List.drop_zero, List.take_of_length_le (Nat.le_refl _)]); done) | (refine congrArg (HB.mk (ak .i64)) ?_; rw [hC]; try (simp only [List.drop_zero, List.take_of_length_le (Nat.le_refl _)]); done)) ?_))⟩ hi⟩)
    have g13 := h13; simp at h13
    have hA := fM (p := pIn) (e := e) (k := k) zo (by simp [pIn, *]; try omega)
    have hB := fM (p := dt) (e := e) (k := k) zo (by simp [dt, *]; try omega)
    have hC := fM (p := i5) (e := e) (k := k) zo (by simp [i5, *]; try omega)
    refine ah (aG (aG (aa (ac (zU rfl rfl zw (zM rfl (aN ?_)))))))
    exact aD (fun a w hi => ⟨k + 1, zo, zo, Sub.inv ⟨(by repeat (first | exact aQ | refine aM rfl (by first | rfl | exact congrArg (SV.own 70 (ak .i64).n 0) (by rw [hA]; try simp; try omega) | exact congrArg (SV.own 71 (ak .i64).n 0) (by rw [hB]; try simp; try omega) | exact congrArg (SV.own 72 (ak .i64).n 0) (by rw [hC]; try simp; try omega)) ?_)), (by repeat (first | exact bn | refine aL rfl (by first | rfl | (refine congrArg (HB.mk (ak .i64)) ?_; rw [hA]; try (simp only [List.drop_zero, List.take_of_length_le (Nat.le_refl _)]); done) | (refine congrArg (HB.mk (ak .i64)) ?_; rw [hB]; try (simp only [List.drop_zero, List.take_of_length_le (Nat.le_refl _)]); done) | (refine congrArg (HB.mk (ak .i64)) ?_; rw [hC]; try (simp only [List.drop_zero, List.take_of_length_le (Nat.le_refl _)]); done)) ?_))⟩ hi⟩)
  try simp at h3
  refine bg (be (aY (bf (aa (ae ?_)))))
  have hke : k = e.length := by omega
  subst hke
  have u1 := dI (cL pIn (e.take e.length))
  have u2 := dI (cL dt (e.take e.length))
  have u3 := dI (cL i5 (e.take e.length))
  refine ac (zM rfl (zO (j1 gU (.b rfl) rfl (by rfl) zo rfl) (zM rfl (zO (j1 gU (.b rfl) rfl (by rfl) zo rfl) (zM rfl (zO (j1 gU (.b rfl) rfl (by rfl) zo rfl) (zA rfl (zA rfl (zY rfl (aa (am ?_)))))))))))
  refine cY (rt := ak .i64) 70 2 (b8 70 _) rfl rfl (by rw [sD, Nat.zero_add]; exact dI _) (bl 70 _) (bC 70 _) ?_
  refine cY (rt := ak .i64) 71 3 (b8 71 _) rfl rfl (by rw [sD, Nat.zero_add]; exact dI _) (bl 71 _) (bC 71 _) ?_
  refine cY (rt := ak .i64) 72 4 (b8 72 _) rfl rfl (by rw [sD, Nat.zero_add]; exact dI _) (bl 72 _) (bC 72 _) ?_
  exact cS results45 (aw rfl) (aw rfl) (aw rfl) ⟨rfl, rfl, rfl⟩ (by simp only [List.drop_zero, ul, List.take_of_length_le (Nat.le_refl _)]; rfl)
theorem dl {P : Program} {cx : Cx} {st : St} {α : Type} {rt : RT α} {t : Nat} (h : a8 st.slots t = some (.raw (.slice none 0 0))) : Res P cx st (.tmp t) (.tv (ab rt) []) := fun β a w hi => by
  obtain ⟨v, h1, h2⟩ := hi.slots t _ h
  have h2 : v = .slice none 0 0 := h2
  exact ⟨v, by simp [mn, h1], by rw [h2]; exact kz⟩
abbrev rlD (r : bB) : Int := r.2.1
abbrev rlG (r : bB) : List aP := r.2.2.2.2.2.1
abbrev rlV (r : bB) : List aP := r.2.2.2.2.2.2.1
abbrev scR (s : ba) : List bB := s.2.2.2.2
abbrev scN (s : ba) : Nat := s.2.2.2.1.length
def inN (n : Nat) (d : Int) : Bool := decide (0 ≤ d) && decide (d < n)
def rdf (n : Nat) (r : bB) : List Int := (cj (cL dt (rlG r))).filter (inN n) ++ (cj (cL dt (rlV r))).filter (inN n)
def dQ (n : Nat) (l : List bB) (d : Int) : List Int := (l.filter (fun r => rlD r == d)).flatMap (rdf n)
def mb (s : ba) (d : Int) : List Int := if inN (scN s) d = true then cj (dQ (scN s) (scR s) d) else []
def By (r : bB) : Prop := (rlG r).length ≤ 60 ∧ (rlV r).length ≤ 60
def Lim (s : ba) : Prop := scN s ≤ 14 ∧ (scR s).length ≤ 60 ∧ ∀ r ∈ scR s, By r
theorem nW (p : Int → Bool) (e : List aP) : (cj (cL p e)).length ≤ e.length := Nat.le_trans (dI _) mK
theorem Da {p : Int → Bool} {l : List Int} {k : Nat} (h : k < l.length) (hp : p l[k] = true) : (l.take (k + 1)).filter p = (l.take k).filter p ++ [l[k]] := by
  rw [List.take_succ_eq_append_getElem h, List.filter_append]; simp [hp]
theorem Db {p : Int → Bool} {l : List Int} {k : Nat} (h : k < l.length) (hp : p l[k] = false) : (l.take (k + 1)).filter p = (l.take k).filter p := by
  rw [List.take_succ_eq_append_getElem h, List.filter_append]; simp [hp]
theorem wy (p : Int → Bool) (l : List Int) (k : Nat) : ((l.take k).filter p).length ≤ l.length := Nat.le_trans (List.length_filter_le _ _) (by simp; omega)
theorem vO {n : Nat} {r : bB} (h : By r) : (rdf n r).length ≤ 120 := by
  have h1 := nW dt (rlG r); have h2 := nW dt (rlV r)
  have h3 := List.length_filter_le (inN n) (cj (cL dt (rlG r))); have h4 := List.length_filter_le (inN n) (cj (cL dt (rlV r)))
  unfold rdf; rw [List.length_append]; have := h.1; have := h.2; omega
theorem Bv {n : Nat} {l : List bB} {d : Int} {k : Nat} (h : k < l.length) (hd : rlD l[k] = d) : dQ n (l.take (k + 1)) d = dQ n (l.take k) d ++ rdf n l[k] := by
  unfold dQ; rw [List.take_succ_eq_append_getElem h, List.filter_append, List.flatMap_append]; simp [hd]
theorem vp {n : Nat} {l : List bB} {d : Int} {k : Nat} (h : k < l.length) (hd : rlD l[k] ≠ d) : dQ n (l.take (k + 1)) d = dQ n (l.take k) d := by
  unfold dQ; rw [List.take_succ_eq_append_getElem h, List.filter_append, List.flatMap_append]; simp [hd]
theorem ux {n : Nat} {l : List bB} {d : Int} (h : ∀ r ∈ l, By r) : ∀ k, k ≤ l.length → (dQ n (l.take k) d).length ≤ 120 * k := by
  intro k
  induction k with
  | zero => intro _; simp [dQ]
  | succ k ih =>
    intro hk
    have hk' : k < l.length := by omega
    have := ih zo
    by_cases e : rlD l[k] = d
    · rw [Bv hk' e, List.length_append]; have := vO (n := n) (h l[k] (List.getElem_mem hk')); omega
    rw [vp hk' e]; omega
theorem xR (r : bB) (n : Nat) (hr : By r) (hn : n ≤ 1000) : Ct prog 174 [.tv cZ r, .raw (.int .i64 (n : Nat))] (.tv (ab (ak .i64)) (rdf n r)) := by
  refine ay func174 rfl rfl ntmps174 rfl rfl ?_
  intro w0 ok0
  obtain ⟨hr1, hr2⟩ := hr
  have hr3 : r.2.2.2.2.2.1.length ≤ 60 := hr1
  have hr4 : r.2.2.2.2.2.2.1.length ≤ 60 := hr2
  refine zR (zb (.tv (.b rfl)) (zY rfl (aa (zR (zY rfl (aa (zR (zF eQ rfl (zL hP rfl rfl rfl fG (zJ (an (mJ _ zo) (.cons (.b rfl) .nil) rfl rfl) (zM rfl (zJ (d7 (.b rfl)) (zJ (d6 (.b rfl)) (zJ (d5 (.b rfl)) (zA rfl (zA rfl (zY rfl (aa (zR (zF nM rfl (zL hP rfl rfl rfl lS (zJ (an (mJ _ zo) (.cons (.b rfl) .nil) rfl rfl) (zM rfl (zJ (d7 (.b rfl)) (zJ (d6 (.b rfl)) (zJ (d5 (.b rfl)) (zA rfl (zA rfl (zY rfl (aa (ae (ae ?_))))))))))))))))))))))))))))))))
  refine ac (zM rfl (zN bd rfl (zM rfl (zZ (aq ?_)))))
  refine eO 70 5 (ak .i64) rfl rfl rfl ?_
  refine aZ (ι := Nat) (fun k => ⟨[(1, .raw (.int .i64 ((n : Nat)))), (5, .own 70 (ak .i64).n 0 (((cj (cL dt (rlG r))).take k).filter (inN n)).length), (10, .tv (ab (ak .i64)) (cj (cL dt (rlV r)))), (30, .tv (ab (ak .i64)) (cj (cL dt (rlG r)))), (31, .raw (.int .i64 ((cj (cL dt (rlG r))).length))), (32, .raw (.int .i64 ((k : Nat))))], [(70, ⟨ak .i64, (((cj (cL dt (rlG r))).take k).filter (inN n))⟩)]⟩) (fun k => k ≤ (cj (cL dt (rlG r))).length) (fun k => (cj (cL dt (rlG r))).length - k) 0 (Nat.zero_le _) (fun a w hi => (zI hi)) ?_
  rintro k hk
  have hl1 := nW dt (rlG r)
  have hl2 := nW dt (rlV r)
  have hf1 := wy (inN n) (cj (cL dt (rlG r))) k
  refine zR (zt rfl rfl (zZ (ae ?_)))
  refine af rfl (fun h5 => ?_) (fun h5 => ?_)
  · have h5 : k < (cj (cL dt (rlG r))).length := by simp at h5; omega
    refine ah (aa (ae (aq (zR ?_))))
    refine bc _ rfl _ rfl rfl (al bd ty3 (.b rfl) (.b rfl) rfl zg) ?_
    refine zD ty3 rfl (zY rfl (aa (zR (zM rfl (zJ (bW (.b rfl) (.b rfl)) (zM rfl (zG rfl rfl (fun hg => ag (.b rfl)) (zG rfl rfl (fun hg => ag (.b rfl)) (zG rfl rfl (fun hg => dS (.gd rfl hg) (.gd rfl hg)) (zJ (aF (.b rfl) (.b rfl) rfl zp) (zZ ?_)))))))))))
    refine af rfl (fun h7 => ?_) (fun h7 => ?_)
    · have hs := Da (p := inN n) h5 (by simp at h7; simp [inN]; omega)
      refine ac (zM rfl (zM rfl (zJ (bq (rt := (ak .i64)) bd ty3 z3 rfl (.cons (.raw (.b rfl) rfl) .nil) rfl rfl) (zV [1,10,30,31,32] bd ty3 z3 by3 rfl rfl (.tv (.b rfl)) ?_))))
      refine zY rfl (aG (aa (ac (zU rfl rfl zw (zM rfl (aN ?_))))))
      exact aD (fun a w hi => ⟨k + 1, zj, zo, zW hi⟩)
    have hs := Db (p := inN n) h5 (by simp at h7; simp [inN]; omega)
    refine ah (aG (aa (ac (zU rfl rfl zw (zM rfl (aN ?_))))))
    exact aD (fun a w hi => ⟨k + 1, zj, zo, zW hi⟩)
  have hke : k = (cj (cL dt (rlG r))).length := by simp at h5; omega
  subst hke
  rw [List.take_length]
  refine bg (be (aY (bf (aa (ae (ae (ac (zM rfl (zN bd rfl (zM rfl (zZ (aq ?_))))))))))))
  refine aZ (ι := Nat) (fun k => ⟨[(1, .raw (.int .i64 ((n : Nat)))), (5, .own 70 (ak .i64).n 0 ((cj (cL dt (rlG r))).filter (inN n) ++ ((cj (cL dt (rlV r))).take k).filter (inN n)).length), (48, .tv (ab (ak .i64)) (cj (cL dt (rlV r)))), (49, .raw (.int .i64 ((cj (cL dt (rlV r))).length))), (50, .raw (.int .i64 ((k : Nat))))], [(70, ⟨ak .i64, ((cj (cL dt (rlG r))).filter (inN n) ++ ((cj (cL dt (rlV r))).take k).filter (inN n))⟩)]⟩) (fun k => k ≤ (cj (cL dt (rlV r))).length) (fun k => (cj (cL dt (rlV r))).length - k) 0 (Nat.zero_le _) (fun a w hi => Sub.inv ⟨(by repeat (first | exact aQ | refine aM rfl (by first | rfl | (simp; done) | assumption | (refine congrArg (SV.own 70 (ak .i64).n 0) ?_; first | rfl | (simp; done))) ?_)), (by repeat (first | exact bn | refine aL rfl (by first | rfl | (simp; done) | assumption | (refine congrArg (HB.mk (ak .i64)) ?_; first | rfl | (simp; done))) ?_))⟩ hi) ?_
  rintro k hk
  have hl1 := nW dt (rlG r)
  have hl2 := nW dt (rlV r)
  have hf2 := wy (inN n) (cj (cL dt (rlV r))) k
  have hf1 := List.length_filter_le (inN n) (cj (cL dt (rlG r)))
  have hf3 : ((cj (cL dt (rlG r))).filter (inN n) ++ ((cj (cL dt (rlV r))).take k).filter (inN n)).length ≤ 120 := by rw [List.length_append]; omega
  refine zR (zt rfl rfl (zZ (ae ?_)))
  refine af rfl (fun h11 => ?_) (fun h11 => ?_)
  · have h11 : k < (cj (cL dt (rlV r))).length := by simp at h11; omega
    refine ah (aa (ae (aq (zR ?_))))
    refine bc _ rfl _ rfl rfl (al bd ty3 (.b rfl) (.b rfl) rfl zg) ?_
    refine zD ty3 rfl (zY rfl (aa (zR (zM rfl (zJ (bW (.b rfl) (.b rfl)) (zM rfl (zG rfl rfl (fun hg => ag (.b rfl)) (zG rfl rfl (fun hg => ag (.b rfl)) (zG rfl rfl (fun hg => dS (.gd rfl hg) (.gd rfl hg)) (zJ (aF (.b rfl) (.b rfl) rfl zp) (zZ ?_)))))))))))
    refine af rfl (fun h13 => ?_) (fun h13 => ?_)
    · have hs := Da (p := inN n) h11 (by simp at h13; simp [inN]; omega)
      refine ac (zM rfl (zM rfl (zJ (bq (rt := (ak .i64)) bd ty3 z3 rfl (.cons (.raw (.b rfl) rfl) .nil) rfl rfl) (zV [1,48,49,50] bd ty3 z3 by3 rfl rfl (.tv (.b rfl)) ?_))))
      refine zA rfl (zQ [1,5,48,49,50] [70] (aG (aa (ac ?_))))
      refine zU rfl rfl zw (zM rfl (aN ?_))
      exact aD (fun a w hi => ⟨k + 1, zj, zo, Sub.inv ⟨(by repeat (first | exact aQ | refine aM rfl (by first | rfl | (simp; done) | assumption | (refine congrArg (SV.own 70 (ak .i64).n 0) ?_; first | rfl | (rw [hs]; simp [Nat.add_assoc]; done) | (rw [hs]; done))) ?_)), (by repeat (first | exact bn | refine aL rfl (by first | rfl | (simp; done) | assumption | (refine congrArg (HB.mk (ak .i64)) ?_; first | rfl | (rw [hs]; (try simp only [List.drop_zero, List.take_length]); first | done | rfl | (simp; done); done) | (rw [hs]; done) | (simp [hs]; done))) ?_))⟩ hi⟩)
    have hs := Db (p := inN n) h11 (by simp at h13; simp [inN]; omega)
    refine ah (aG (aa (ac (zU rfl rfl zw (zM rfl (aN ?_))))))
    exact aD (fun a w hi => ⟨k + 1, zj, zo, Sub.inv ⟨(by repeat (first | exact aQ | refine aM rfl (by first | rfl | (simp; done) | assumption | (refine congrArg (SV.own 70 (ak .i64).n 0) ?_; first | rfl | (rw [hs]; simp [Nat.add_assoc]; done) | (rw [hs]; done))) ?_)), (by repeat (first | exact bn | refine aL rfl (by first | rfl | (simp; done) | assumption | (refine congrArg (HB.mk (ak .i64)) ?_; first | rfl | (rw [hs]; (try simp only [List.drop_zero, List.take_length]); first | done | rfl | (simp; done); done) | (rw [hs]; done) | (simp [hs]; done))) ?_))⟩ hi⟩)
  have hke : k = (cj (cL dt (rlV r))).length := by simp at h11; omega
  subst hke
  rw [List.take_length]
  refine bg (be (aY (bf (aa (ae (ac (zM rfl (zY rfl (aa (am ?_))))))))))
  refine cY (rt := ak .i64) 70 4 (b8 70 _) rfl rfl (by simp) (bl 70 _) (bC 70 _) ?_
  exact z1 results174 rfl (congrArg (SV.tv (ab (ak .i64))) (by rw [List.drop_zero, List.take_length]; rfl))
open Go.Eng
theorem Cz {s : ba} {d : Int} (h : inN (scN s) d = true) : mb s d = cj (dQ (scN s) (scR s) d) := by unfold mb; rw [if_pos h]
theorem xN (zs : List Int) : (vi zs).length = zs.length := lb.len zs
theorem zz {s : ba} (h : Lim s) {k : Nat} (hk : k < (scR s).length) : By (scR s)[k] := h.2.2 _ (List.getElem_mem hk)
end Go.Proofs.YtehcaebnijlhgaaGreatDoor.C16
namespace Go.Eng
section
variable {P : Program} {cx : Cx} {st st' : St} {β : Loc} {a : Act} {w w' : World} {ops : Array Oper} {k : Kn} {c : Code}
structure LstT (ops : Array Oper) (q m : Nat) (listed : Array Bool) : Prop where
  size : listed.size = ops.size
  mid : ∀ i, q ≤ i → i ≤ m → listed.getD i false = true
  high : ∀ i, m < i → i < ops.size → listed.getD i false = false
  closed : ∀ j oj, ops[j]? = some oj → listed.getD j false = true → ∀ e ∈ oj.after, Region.binds .any e = true → listed.getD e.on false = true
theorem oQ : ∀ (x y : List Bool), x.length = y.length → (∀ i : Nat, x[i]? = some true → y[i]? = some true) → y.countP (fun b => !b) ≤ x.countP (fun b => !b)
  | [], [], _, _ => Nat.le_refl _
  | [], _ :: _, h, _ => by simp at h
  | _ :: _, [], h, _ => by simp at h
  | b :: x, c :: y, h, hh => by
    have h1 := oQ x y (by simpa using h) (fun i hi => by simpa using hh (i + 1) (by simpa using hi))
    have h2 := hh 0
    cases b <;> cases c <;> simp at h2 ⊢ <;> omega
theorem yg {listed : Array Bool} {n m : Nat} (hs : listed.size = n) (h : ∀ i, i < n → listed.getD i false = true → i ≤ m) : n - (m + 1) ≤ unl listed := by
  rw [← rG n (m + 1)]
  unfold unl
  refine oQ _ _ (by simp [mkL, hs]) fun i hi => ?_
  have hin : i < n := by
    have := (List.getElem?_eq_some_iff.1 hi).1
    simpa [hs] using this
  have h1 : listed.getD i false = true := by
    have hi' : listed[i]? = some true := by simpa using hi
    simp [hi']
  have := h i hin h1
  simp [mkL, hin]; omega
theorem LstT.zero {q m : Nat} {listed : Array Bool} (h : LstT ops q m listed) (hm : m < ops.size) (hz : unl listed = ops.size - (m + 1)) : listed = mkL ops.size (m + 1) := by
  refine jQ h.size fun i hi' => ?_
  by_cases e : i ≤ m
  · rw [show decide (i < m + 1) = true by simp; omega]
    cases hl : listed.getD i false with
    | true => rfl
    | false =>
      exfalso
      have h1 := ko (by rw [h.size]; exact hi') hl
      have h2 := yg (listed := listed.setIfInBounds i true) (n := ops.size) (m := m) (by simp [h.size]) (fun j hj hjl => by
        by_cases e2 : i = j
        · omega
        rw [getD_set_ne false e2] at hjl
        rcases Nat.lt_or_ge m j with g | g
        · rw [h.high j g hj] at hjl; cases hjl
        exact g)
      omega
  rw [h.high i (by omega) hi']; simp; omega
theorem LstT.more {q m : Nat} {listed : Array Bool} (h : LstT ops q m listed) (hm : m < ops.size) (hz : ops.size - (m + 1) < unl listed) : ∃ i, i < ops.size ∧ listed.getD i false = false ∧ i < q := by
  rcases Classical.em (∃ i, i < ops.size ∧ listed.getD i false = false ∧ i < q) with h' | h'
  · exact h'
  exfalso
  have : listed = mkL ops.size (m + 1) := jQ h.size fun i his => by
    by_cases e : i ≤ m
    · rw [show decide (i < m + 1) = true by simp; omega]
      cases hl' : listed.getD i false with
      | true => rfl
      | false =>
        exfalso
        rcases Nat.lt_or_ge i q with g | g
        · exact h' ⟨i, his, hl', g⟩
        rw [h.mid i g e] at hl'; cases hl'
    rw [h.high i (by omega) his]; simp; omega
  rw [this, rG] at hz
  omega
theorem LstT.early {q m : Nat} {listed : Array Bool} (h : LstT ops q m listed) (hm : m < ops.size)
    (hlate : ∀ i oi, ops[i]? = some oi → m < i → (∃ e ∈ oi.after, Region.binds .any e = true ∧ m < e.on) ∨ ∀ j, j < q → ∃ e ∈ oi.after, Region.binds .any e = true ∧ e.on = j)
    (hz : ops.size - (m + 1) < unl listed) (i : Nat) (hr : i ∈ Region.ready .any ops listed) : i < q := by
  obtain ⟨hun, oi, hoi, hdeps⟩ := mem_ready.1 hr
  have his : i < listed.size := by rw [h.size]; exact (Array.getElem?_eq_some_iff.1 hoi).1
  rw [dC his] at hun
  rcases Nat.lt_or_ge i q with g | g
  · exact g
  exfalso
  rcases Nat.lt_or_ge m i with g2 | g2
  · rcases hlate i oi hoi g2 with ⟨e, he, hb, hon⟩ | hall
    · have h1 := hdeps e he hb
      rcases Nat.lt_or_ge e.on ops.size with g3 | g3
      · rw [h.high e.on hon g3] at h1; cases h1
      rw [Array.getD_eq_getD_getElem?, Array.getElem?_eq_none (by rw [h.size]; exact g3)] at h1; simp at h1
    obtain ⟨j, hj1, hj2, hj3⟩ := h.more hm hz
    obtain ⟨e, he, hb, hon⟩ := hall j hj3
    have := hdeps e he hb
    rw [hon, hj2] at this; cases this
  rw [h.mid i g g2] at hun; cases hun
theorem LstT.set {q m i : Nat} {listed : Array Bool} (h : LstT ops q m listed) (dk : oJ ops) (hr : i ∈ Region.ready .any ops listed) (hhi : i < q) (hqm : q ≤ m) : LstT ops q m (listed.setIfInBounds i true) := by
  obtain ⟨hun, oi, hoi, hall⟩ := mem_ready.1 hr
  refine ⟨by simp [h.size], fun j hj hj2 => ?_, fun t ht hts => by rw [getD_set_ne false (by omega)]; exact h.high t ht hts, fun j oj hj hl e he hb => ?_⟩
  · rw [getD_set_ne false (by omega)]; exact h.mid j hj hj2
  by_cases hij : i = j
  · subst hij
    have : oj = oi := Option.some.inj (hj.symm.trans hoi)
    subst this
    exact getD_set_true (hall e he hb)
  rw [getD_set_ne false hij] at hl
  exact getD_set_true (h.closed j oj hj hl e he hb)
theorem xO (dk : oJ ops) {Q : Exit → Act → World → Prop} {lo hi m g : Nat} (hlo : lo = 0) (hgg : g = ops.size - (m + 1)) {l : List Oper} {cs : List (Nat × SV)} (hqm : hi ≤ m) (hhi : m < ops.size) (hl : l.length = hi - lo) (hat : ∀ i, i < l.length → l[i]? = ops[lo + i]?)
    (hlate : ∀ i oi, ops[i]? = some oi → m < i → (∃ e ∈ oi.after, Region.binds .any e = true ∧ m < e.on) ∨ ∀ j, j < hi → ∃ e ∈ oi.after, Region.binds .any e = true ∧ e.on = j)
    (has : AS P cx ops st l cs)
    (hK : ∀ a w, Inv cx (eD st cs (fun _ => true)) a w → wpAny P .any ops Q g (mkL ops.size (m + 1)) a w) :
    ∀ (f : Nat) (listed : Array Bool), LstT ops hi m listed → unl listed = f + (ops.size - (m + 1)) → ∀ a w, Inv cx (eD st cs (fun i => listed.getD (lo + i) false)) a w → wpAny P .any ops Q (f + g) listed a w := by
  obtain ⟨hcl, hga⟩ := has.at_
  have hidx : ∀ j c, cs[j]? = some c → ∃ oj, ops[lo + j]? = some oj ∧ oj.dst = some c.1 ∧ j < l.length := by
    intro j c hj
    have hjl : j < l.length := by rw [← hcl]; exact (List.getElem?_eq_some_iff.1 hj).1
    obtain ⟨d, s, h1, h2, _⟩ := hga j l[j] (List.getElem?_eq_getElem hjl)
    rw [hj] at h1
    injection h1 with h1
    subst h1
    exact ⟨l[j], by rw [← hat j hjl]; exact List.getElem?_eq_getElem hjl, h2, hjl⟩
  intro f
  induction f with
  | zero =>
    intro listed hL hu a w hi'
    have he := hL.zero hhi (by omega)
    subst he
    rw [Nat.zero_add]
    refine hK a w ?_
    refine Sub.inv ⟨fun i s hs => ?_, fun i s hs => ?_⟩ hi'
    · rw [cu] at hs ⊢
      rw [← hs]
      congr 1
      exact dX fun j c hj _ => by
        obtain ⟨_, _, _, hjl⟩ := hidx j c hj
        rw [cD false (by omega)]; simp; omega
    rw [cM] at hs ⊢; exact hs
  | succ f ih =>
    intro listed hL hu a w hi'
    rw [show f + 1 + g = (f + g) + 1 by omega]
    refine ⟨fun hnil => ?_, fun i hr => ?_⟩
    · -- some operation has not run: the first of these is ready
      exfalso
      have hex := hL.more hhi (show ops.size - (m + 1) < unl listed by omega)
      obtain ⟨n0, ⟨h1, h2, h3⟩, hmin⟩ := exists_least hex
      have : n0 ∈ Region.ready .any ops listed := by
        have hs : n0 < listed.size := by rw [hL.size]; exact h1
        refine mem_ready.2 ⟨by rw [dC hs]; exact h2, ops[n0], Array.getElem?_eq_getElem h1, fun e he hb => ?_⟩
        have hlt := dk.back n0 _ (Array.getElem?_eq_getElem h1) e he hb
        cases hl' : listed.getD e.on false with
        | true => rfl
        | false =>
          have := hmin e.on ⟨by omega, hl', by omega⟩
          omega
      rw [hnil] at this
      cases this
    have hih := hL.early hhi hlate (show ops.size - (m + 1) < unl listed by omega) i hr
    have hil : lo ≤ i := by omega
    obtain ⟨hun, oi, hoi, hdeps⟩ := mem_ready.1 hr
    have his : i < listed.size := by rw [hL.size]; exact (Array.getElem?_eq_some_iff.1 hoi).1
    have hunf : listed.getD i false = false := by rw [← dC his]; exact hun
    have hli : l[i - lo]? = some oi := by
      rw [hat (i - lo) (by omega), show lo + (i - lo) = i by omega]; exact hoi
    obtain ⟨d, s, hcs, hdst, hG⟩ := hga (i - lo) oi hli
    -- which others write a slot that this one touches
    have hwr : ∀ j c, cs[j]? = some c → j ≠ i - lo → (c.1 ∈ oi.looksAt ops ∨ c.1 = d) → (listed.getD (lo + j) false = true ↔ j < i - lo) := by
      intro j c hj hne hc
      obtain ⟨oj, hoj, hdj, hjl⟩ := hidx j c hj
      rcases Nat.lt_or_ge j (i - lo) with h | h
      · have hap : oj.apart ops oi = false := by
          cases hb : oj.apart ops oi with
          | false => rfl
          | true =>
            obtain ⟨h1, h2, h3⟩ := Oper.apart_spec hb
            rcases hc with hc | hc
            · exact absurd hc (h1 c.1 hdj)
            exact absurd (by rw [hdst, hc]) (h2 c.1 hdj)
        obtain ⟨e, he, hb, hon⟩ := dk.order (lo + j) i oj oi (by omega) hoj hoi hap
        have := hdeps e he hb
        rw [hon] at this
        simp [this, h]
      have hgt : i < lo + j := by omega
      have hap : oi.apart ops oj = false := by
        cases hb : oi.apart ops oj with
        | false => rfl
        | true =>
          obtain ⟨h1, h2, h3⟩ := Oper.apart_spec hb
          rcases hc with hc | hc
          · exact absurd hc (h3 c.1 hdj)
          exact absurd (by rw [hdj, hc]) (h2 d hdst)
      obtain ⟨e, he, hb, hon⟩ := dk.order i (lo + j) oi oj hgt hoi hoj hap
      cases hlj : listed.getD (lo + j) false with
      | false => simp; omega
      | true =>
        have := hL.closed (lo + j) oj hoj hlj e he hb
        rw [hon, hunf] at this
        cases this
    have hagr : AgrG ops oi (eD st (cs.take (i - lo)) (fun _ => true)) (eD st cs (fun j => listed.getD (lo + j) false)) := by
      refine ⟨fun t ht => ?_, fun _ _ _ _ _ _ => by rw [cM, cM]⟩
      rw [cu, cu]
      congr 1
      refine kB fun j c hj he => ?_
      by_cases hne : j = i - lo
      · subst hne
        rw [show lo + (i - lo) = i by omega, hunf]; simp
      exact hwr j c hj hne (.inl (by rw [he]; exact ht))
    have hstep := hG _ hagr a w hi' (Q := Q)
    have hnext : ∀ a' w', Inv cx ((eD st cs (fun j => listed.getD (lo + j) false)).put d s) a' w' → wpAny P .any ops Q (f + g) (listed.setIfInBounds i true) a' w' := by
      intro a' w' hi''
      refine ih _ (hL.set dk hr hih hqm) (by have := ko his hunf; omega) a' w' ?_
      refine Sub.inv ⟨fun t s' hs => ?_, fun t s' hs => ?_⟩ hi''
      · simp only [St.put, aT]
        rw [cu] at hs
        have hset : ∀ j, (listed.setIfInBounds i true).getD (lo + j) false = if j = i - lo then true else listed.getD (lo + j) false := by
          intro j
          by_cases hne : j = i - lo
          · subst hne
            rw [if_pos rfl, show lo + (i - lo) = i by omega]
            simp [his]
          rw [if_neg hne, getD_set_ne false (by omega)]
        by_cases e : d = t
        · subst e
          rw [if_pos rfl]
          have := kC (cs := cs) (L := fun j => (listed.setIfInBounds i true).getD (lo + j) false) (i := i - lo) (c := (d, s)) hcs (by simp only [hset]; simp) (fun j c' hj he hij => by
            simp only [hset]
            rw [if_neg (by omega)]
            have := hwr j c' hj (by omega) (.inr he)
            cases hlj : listed.getD (lo + j) false with
            | false => rfl
            | true => have := this.1 hlj; omega)
          rw [this] at hs
          exact hs
        rw [if_neg e, cu, ← hs]
        congr 1
        refine dX fun j c hj he => ?_
        simp only [hset]
        rw [if_neg (by
          rintro rfl
          rw [hcs] at hj
          injection hj with hj
          subst hj
          exact e he)]
      simp only [St.put, cM] at hs ⊢; exact hs
    unfold wpOp
    simp only [hoi]
    split
    · rename_i hw
      rw [if_pos hw] at hstep
      exact .inl (Oper.wp_mono hnext hstep)
    rename_i hw
    rw [if_neg hw] at hstep
    exact hnext _ _ hstep
def zP (ops : Array Oper) (q m : Nat) : Bool :=
  (List.range m).all (fun i => decide (i < q) || (List.range (m + 1)).any fun j => decide (i < j) && Region.waitsFor .any ops j i) &&
  (List.range ops.size).all fun i => decide (i ≤ m) || (match ops[i]? with | some oi => oi.after.any (fun e => Region.binds .any e && decide (m ≤ e.on)) && (oi.after.any (fun e => Region.binds .any e && decide (m < e.on)) || (List.range q).all fun j => oi.after.any (fun e => Region.binds .any e && Nat.beq e.on j)) | none => true)
theorem r9 {id : Nat} {l : List Oper} {cs1 cs2 : List (Nat × SV)} {om : Oper} {stB : St} (q m : Nat) (hm : P.follows .mixedOrders = true) (hB : qt l.toArray = true) (hbar : zP l.toArray q m = true) (hml : m < l.length) (hqm : q ≤ m)
    (hom : l[m]? = some om) (hgm : om.guard = none)
    (has1 : AS P cx l.toArray st (l.take m) cs1)
    (hA : ∀ bs : List Bool, bs.length = q → ∀ a w, Inv cx (eD st cs1 (fun i => bs.getD i true)) a w → ∀ Q, om.wp P a w (fun a' w' => Inv cx (eD stB cs2 (fun i => bs.getD i true)) a' w') Q)
    (has2 : AS P cx l.toArray stB (l.take q) cs2)
    (ht : JT P cx l (m + 1) (eD stB cs2 (fun _ => true)) k) : J P cx st (.region id l.toArray true) k := by
  have dk := kj hB
  unfold zP at hbar
  rw [Bool.and_eq_true, List.all_eq_true, List.all_eq_true] at hbar
  obtain ⟨hb1, hb2⟩ := hbar
  intro a w hi
  refine wp_region_any hm ?_
  obtain ⟨β, hb⟩ := hi
  have hi0 : Inv cx st a w.drew := ⟨β, hb.later (Below.drew' w)⟩
  have hst0 : Inv cx (eD st cs1 (fun i => (Array.replicate l.toArray.size false).getD (0 + i) false)) a w.drew := by
    refine Sub.inv ⟨fun i s hs => ?_, fun i s hs => ?_⟩ hi0
    · rw [cu, fc (fun j c _ _ => getD_replicate_false _ _)] at hs; simpa using hs
    rw [cM] at hs; exact hs
  have hL : Lst l.toArray 0 m (Array.replicate l.toArray.size false) :=
    ⟨by simp, fun i h => by omega, fun i h1 h2 => by simp only [List.size_toArray] at h2; simp [h2], fun j oj hj hl => by rw [getD_replicate_false] at hl; cases hl⟩
  have hu : unl (Array.replicate l.toArray.size false) = m + (l.toArray.size - m) := by rw [mD]; simp; omega
  have homs : l.toArray[m]? = some om := by simpa using hom
  have hls : l.toArray.size = l.length := by simp
  obtain ⟨hcl1, _⟩ := has1.at_
  obtain ⟨hcl2, _⟩ := has2.at_
  have hlate : ∀ i oi, l.toArray[i]? = some oi → m < i → (∃ e ∈ oi.after, Region.binds .any e = true ∧ m < e.on) ∨ ∀ j, j < q → ∃ e ∈ oi.after, Region.binds .any e = true ∧ e.on = j := by
    intro i oi hoi hgt
    have his := (Array.getElem?_eq_some_iff.1 hoi).1
    have := hb2 i (List.mem_range.2 his)
    simp only [hoi, Bool.or_eq_true, decide_eq_true_eq, Bool.and_eq_true] at this
    rcases this with h | ⟨_, h | h⟩
    · omega
    · obtain ⟨e, he, hbe⟩ := Array.any_eq_true'.1 h
      simp only [Bool.and_eq_true, decide_eq_true_eq] at hbe
      exact .inl ⟨e, he, hbe.1, hbe.2⟩
    refine .inr fun j hj => ?_
    have := List.all_eq_true.1 h j (List.mem_range.2 hj)
    obtain ⟨e, he, hbe⟩ := Array.any_eq_true'.1 this
    simp only [Bool.and_eq_true] at hbe
    exact ⟨e, he, hbe.1, Nat.eq_of_beq_eq_true hbe.2⟩
  have hbehind : ∀ (listed : Array Bool), Lst l.toArray 0 m listed → ∀ i ∈ Region.ready .any l.toArray listed, m < i → False := by
    intro listed hL i hr hgt
    obtain ⟨_, oi, hoi, hdeps⟩ := mem_ready.1 hr
    have his := (Array.getElem?_eq_some_iff.1 hoi).1
    have := hb2 i (List.mem_range.2 his)
    simp only [hoi, Bool.or_eq_true, decide_eq_true_eq, Bool.and_eq_true] at this
    rcases this with h | ⟨h, _⟩
    · omega
    obtain ⟨e, he, hbe⟩ := Array.any_eq_true'.1 h
    simp only [Bool.and_eq_true, decide_eq_true_eq] at hbe
    have hlt := dk.back i oi hoi e he hbe.1
    have h1 := hdeps e he hbe.1
    have h2 := hL.high e.on (by omega) (by omega)
    rw [dC (by rw [hL.size]; omega), h1] at h2
    cases h2
  -- at the m-th
  have hatm : ∀ (listed : Array Bool), Lst l.toArray 0 m listed → ∀ F a w, m ∈ Region.ready .any l.toArray listed → unl listed = F + 1 → Inv cx (eD st cs1 (fun i => listed.getD (0 + i) false)) a w → wpOp P l.toArray (k.post P) m (wpAny P .any l.toArray (k.post P) F (listed.setIfInBounds m true)) a w := by
    intro listed hL F a w hr hF hi
    obtain ⟨_, oi, hoi, hdeps⟩ := mem_ready.1 hr
    have hall : ∀ d j, m - j = d → j < m → q ≤ j → listed.getD j false = true := by
      intro d
      induction d using Nat.strongRecOn with
      | _ d ihd =>
        intro j hd hj hj0
        have h1 := hb1 j (List.mem_range.2 hj)
        simp only [Bool.or_eq_true, decide_eq_true_eq] at h1
        have h1 := h1.resolve_left (by omega)
        obtain ⟨j', hj', hj2⟩ := List.any_eq_true.1 h1
        simp only [Bool.and_eq_true, decide_eq_true_eq] at hj2
        obtain ⟨oj, hoj, e, he, hbe, hon⟩ := Region.waitsFor_spec hj2.2
        have hle : j' ≤ m := by have := List.mem_range.1 hj'; omega
        by_cases hji : j' = m
        · subst hji
          rw [hoj] at hoi
          injection hoi with hoi
          subst hoi
          rw [← hon]; exact hdeps e he hbe
        have := ihd (m - j') (by omega) j' rfl (by omega) (by omega)
        rw [← hon]; exact hL.closed j' oj hoj this e he hbe
    have hlm : listed.getD m false = false := by
      have := hL.high m (Nat.le_refl _) (by omega)
      rwa [dC (by rw [hL.size]; omega)] at this
    have hms : m < listed.size := by rw [hL.size]; omega
    have hT : LstT l.toArray q m (listed.setIfInBounds m true) := by
      refine ⟨by simp [hL.size], fun j h1 h2 => ?_, fun j h1 h2 => ?_, fun j oj hj hl e he hbe => ?_⟩
      · by_cases e : m = j
        · subst e; simp [hms]
        rw [getD_set_ne false e]; exact hall _ j rfl (by omega) h1
      · rw [getD_set_ne false (by omega)]
        have := hL.high j (by omega) h2
        rwa [dC (by rw [hL.size]; omega)] at this
      by_cases e1 : m = j
      · subst e1
        have : oj = oi := Option.some.inj (hj.symm.trans hoi)
        subst this
        exact getD_set_true (hdeps e he hbe)
      rw [getD_set_ne false e1] at hl
      exact getD_set_true (hL.closed j oj hj hl e he hbe)
    let bs : List Bool := (List.range q).map fun i => listed.getD i false
    have hbs : ∀ j, j < m → listed.getD j false = bs.getD j true := fun j hj => by
      by_cases e : j < q
      · simp only [bs, List.getD_eq_getElem?_getD, List.getElem?_map, List.getElem?_range e, Option.map_some, Option.getD_some]
      rw [hall _ j rfl hj (by omega), List.getD_eq_getElem?_getD, List.getElem?_eq_none (by simp [bs]; omega)]; rfl
    have hi1 : Inv cx (eD st cs1 (fun i => bs.getD i true)) a w := by
      refine Sub.inv ⟨fun t s hs => ?_, fun t s hs => ?_⟩ hi
      · rw [cu] at hs ⊢
        rw [← hs]
        congr 1
        refine dX fun j c hj _ => ?_
        have hjl : j < m := by
          have := (List.getElem?_eq_some_iff.1 hj).1
          rw [hcl1] at this; simp at this; omega
        rw [Nat.zero_add]; exact hbs j hjl
      rw [cM] at hs ⊢; exact hs
    unfold wpOp
    simp only [homs]
    rw [if_pos (by simp [Region.wanted, hgm])]
    refine .inl (Oper.wp_mono (fun a' w' hB' => ?_) (hA bs (by simp [bs]) a w hi1 _))
    have hun := ko hms hlm
    obtain ⟨f, hf⟩ : ∃ f, F = f + (l.toArray.size - (m + 1)) := by
      have := yg (listed := listed.setIfInBounds m true) (n := l.toArray.size) (m := m) (by simp [hL.size]) (fun j hj hjl => by
        rcases Nat.lt_or_ge m j with g | g
        · rw [hT.high j g hj] at hjl; cases hjl
        exact g)
      exact ⟨F - (l.toArray.size - (m + 1)), by omega⟩
    rw [hf]
    refine xO (P := P) (Q := k.post P) (lo := 0) (hi := q) (m := m) dk rfl rfl hqm (by omega) (by simp; omega) (fun i hi => by
      simp only [List.length_take] at hi
      rw [List.getElem?_take_of_lt (by omega)]; simp) hlate has2 (fun a w hi => ?_) f _ hT (by omega) a' w' ?_
    · have := ht a w hi
      rwa [show l.length - (m + 1) = l.toArray.size - (m + 1) by simp] at this
    refine Sub.inv ⟨fun t s hs => ?_, fun t s hs => ?_⟩ hB'
    · rw [cu] at hs ⊢
      rw [← hs]
      congr 1
      refine dX fun j c hj _ => ?_
      have hjl : j < q := by
        have := (List.getElem?_eq_some_iff.1 hj).1
        rw [hcl2] at this; simp at this; omega
      rw [Nat.zero_add, getD_set_ne false (by omega)]
      exact (hbs j (by omega)).symm
    rw [cM] at hs ⊢; exact hs
  have := xP (P := P) (Q := k.post P) (g := l.toArray.size - m) dk rfl (lo := 0) (hi := m) (Nat.zero_le _) (by omega) (by simp; omega) (fun i hi => by
      simp only [List.length_take] at hi
      rw [List.getElem?_take_of_lt (by omega)]; simp) has1
    (fun listed hL i hr hge F a w hF hne hi => by
      have him : i = m := by
        rcases Nat.lt_or_ge m i with h | h
        · exact absurd h (fun h => hbehind _ hL i hr h)
        omega
      subst him
      exact hatm listed hL F a w hr hF hi)
    (fun a w hi => by
      rw [show l.toArray.size - m = l.toArray.size - (m + 1) + 1 by omega]
      have hLm : Lst l.toArray 0 m (mkL l.toArray.size m) := ⟨by simp [mkL], fun i h => by omega, fun i h1 h2 => by rw [cD true h2]; simp; omega, fun j oj hj hlj e he hbe => by
          have hjs := (Array.getElem?_eq_some_iff.1 hj).1
          have := dk.back j oj hj e he hbe
          rw [cD false hjs] at hlj
          rw [cD false (by omega)]
          simp at hlj ⊢; omega⟩
      refine ⟨fun hnil => ?_, fun i hr => ?_⟩
      · exfalso
        have hmem : m ∈ Region.ready .any l.toArray (mkL l.toArray.size m) := by
          refine mem_ready.2 ⟨by rw [cD true (by omega)]; simp, om, homs, fun e he hbe => ?_⟩
          have := dk.back m om homs e he hbe
          rw [cD false (by omega)]; simp; omega
        rw [hnil] at hmem; cases hmem
      have him : i = m := by
        obtain ⟨hun, oi, hoi, _⟩ := mem_ready.1 hr
        have his := (Array.getElem?_eq_some_iff.1 hoi).1
        rw [cD true his] at hun
        simp at hun
        rcases Nat.lt_or_ge m i with h | h
        · exact absurd h (fun h => hbehind _ hLm i hr h)
        omega
      subst him
      refine hatm _ hLm _ a w hr (by rw [rG]; omega) ?_
      refine Sub.inv ⟨fun t s hs => ?_, fun t s hs => ?_⟩ hi
      · rw [cu] at hs ⊢
        rw [← hs]
        congr 1
        refine dX fun j c hj _ => ?_
        have hjl : j < i := by
          have := (List.getElem?_eq_some_iff.1 hj).1
          rw [hcl1] at this; simp at this; omega
        rw [Nat.zero_add, cD false (by omega)]; simp [hjl]
      rw [cM] at hs ⊢; exact hs)
    m _ hL hu a w.drew hst0
  rw [show m + (l.toArray.size - m) = l.toArray.size by omega] at this
  exact this
theorem ii {o : Oper} {st0 st1 st2 st3 : St} (h1 : ∀ a w, Inv cx st0 a w → Inv cx st1 a w) (ho : OS P cx o st1 st2) (h2 : Sub st2 st3) : ∀ a w, Inv cx st0 a w → ∀ Q, o.wp P a w (fun a' w' => Inv cx st3 a' w') Q :=
  fun a w hi Q => Oper.wp_mono (fun a' w' h => h2.inv h) (ho a w (h1 a w hi) Q)
end
end Go.Eng
