import Derived.Test.YtehcaebnijlhgaaGreatDoorM3
import Derived.Test.YtehcaebnijlhgaaGreatDoorM11
import Derived.Test.YtehcaebnijlhgaaGreatDoorM7
import Derived.Test.YtehcaebnijlhgaaGreatDoorM2
import Derived.Test.YtehcaebnijlhgaaGreatDoorM9
import Derived.Test.YtehcaebnijlhgaaGreatDoorM10
set_option linter.unusedVariables false
set_option linter.unusedSimpArgs false
namespace Go.Proofs.YtehcaebnijlhgaaGreatDoor.C16
open Go.Eng Tryz
set_option maxRecDepth 100000
set_option maxHeartbeats 4000000
theorem gE : Ty prog 37 rHd := by obtain ⟨⟨de, hu, hd⟩, i0, hi0, hs⟩ := ek; exact ⟨⟨de, hu, hd⟩, i0, hi0, hs⟩
theorem pB : ZR rHd [.slice none 0 0] (none, 0, 0) := fun _ _ => rfl
theorem zH37 : TyZero prog 37 rHd (none, 0, 0) := dj zk pB
def iu (s : ba) : List (List Int) := (List.range (scN s)).map (fun (d : Nat) => mb s (d : Int))
def kW (s : ba) (k : Nat) : List (List Int) := (List.range (scN s)).map (fun (d : Nat) => dQ (scN s) ((scR s).take k) (d : Int))
def mH (s : ba) (k : Nat) : List (List Int) := (List.range (scN s)).map (fun (d : Nat) => if d < k then mb s (d : Int) else dQ (scN s) (scR s) (d : Int))
theorem qZ (s : ba) : kW s 0 = List.replicate (scN s) [] := by
  apply List.ext_getElem?; intro y; unfold kW
  rw [List.getElem?_replicate]
  by_cases hy : y < scN s
  · simp [hy, dQ]
  simp [hy]
theorem pR (s : ba) (k : Nat) : (kW s k).length = scN s := by simp [kW]
theorem tt (s : ba) (k : Nat) : (mH s k).length = scN s := by simp [mH]
theorem vJ {s : ba} {k x : Nat} (h : x < scN s) : (kW s k)[x]? = some (dQ (scN s) ((scR s).take k) (x : Int)) := by simp [kW, h]
theorem vI {s : ba} {k x : Nat} (h : x < scN s) (hk : k ≤ x) : (mH s k)[x]? = some (dQ (scN s) (scR s) (x : Int)) := by
  have : ¬ x < k := by omega
  simp [mH, h, this]
theorem rowA_t {s : ba} {k x : Nat} (hk : k < (scR s).length) (hx : x < scN s) (hd : rlD (scR s)[k] = (x : Int)) : kW s (k + 1) = (kW s k).set x (dQ (scN s) ((scR s).take k) (x : Int) ++ rdf (scN s) (scR s)[k]) := by
  unfold kW
  rw [jM (f := fun (d : Nat) => dQ (scN s) ((scR s).take k) (d : Int)) hx (fun y _ hy => vp hk (by rw [hd]; intro e; exact hy zo)), Bv hk hd]
theorem rowA_f {s : ba} {k : Nat} (hk : k < (scR s).length) (hd : inN (scN s) (rlD (scR s)[k]) = false) : kW s (k + 1) = kW s k := by
  unfold kW
  refine List.map_congr_left fun d hm => ?_
  rw [List.mem_range] at hm
  exact vp hk (by intro e; rw [e] at hd; simp [inN] at hd; omega)
theorem qY (s : ba) : mH s 0 = kW s (scR s).length := by unfold kW mH; rw [List.take_length]; simp
theorem yJ (s : ba) : mH s (scN s) = iu s := by
  unfold mH iu
  refine List.map_congr_left fun d hm => ?_
  rw [List.mem_range] at hm
  rw [if_pos hm]
theorem rowB_t {s : ba} {k : Nat} (hk : k < scN s) : mH s (k + 1) = (mH s k).set k (cj (dQ (scN s) (scR s) (k : Int))) := by
  unfold mH
  rw [jM (f := fun (d : Nat) => if d < k then mb s (d : Int) else dQ (scN s) (scR s) (d : Int)) hk (fun y _ hy => ?_)]
  · rw [if_pos zo, Cz (by simp [inN]; omega)]
  by_cases e : y < k
  · rw [if_pos e, if_pos zo]
  rw [if_neg e, if_neg zo]
theorem nV (s : ba) (hL : Lim s) : Ct prog 125 [.tv bx s] (.tv (ab (ab (ak .i64))) (iu s)) := by
  refine ay func125 rfl rfl ntmps125 rfl rfl ?_
  intro w0 ok0
  have hN : scN s = s.2.2.2.1.length := rfl
  have hN2 := hL.1
  refine zR (zb (.tv (.b rfl)) (zY rfl (aa (zR (zF dD rfl (zL fj rfl rfl rfl d8 (zN ei rfl (zO (dL (rt := rHd) fw gE zH37 rfl CO (.b rfl) (.b rfl) zo (by unfold maxLen; omega) rfl rfl rfl) (zY rfl ?_)))))))))
  refine wj 3 1000 (scN s) [1] [1, 11] (ak .i64) rfl rfl (.cons rfl .nil) rfl (.cons rfl (.cons rfl .nil)) rfl ?_
  refine aa (ae (zR (zF dw rfl (zL jh rfl rfl rfl dT (zN ga rfl (zM rfl (aN ?_)))))))
  refine cE (b := 1000) [3, 13, 14, 15] [11] (.cons rfl (.cons rfl (.cons rfl (.cons rfl .nil)))) (by repeat (first | exact .nil | refine .cons rfl ?_)) (.cons rfl .nil) ?_
  refine aa (aq ?_)
  refine aZ (ι := (Nat × List (Option Addr × Nat × Nat))) (fun (k, hs) => ⟨[(3, .fam (.own 11 1 0 (scN s)) 1000 1 (hs.map some)), (13, .tv (ab cZ) (scR s)), (14, .raw (.int .i64 ((scR s).length))), (15, .raw (.int .i64 ((k : Nat))))], (11, ⟨rHd, hs⟩) :: eR (ak .i64) 1000 (kW s k)⟩) (fun (k, hs) => k ≤ (scR s).length ∧ HdOK hs (kW s k)) (fun (k, hs) => (scR s).length - k) (0, List.replicate (scN s) (none, 0, 0)) (⟨Nat.zero_le _, by rw [qZ]; exact HdOK.zero _⟩) (fun a w hi => (Sub.inv ⟨(by repeat (first | exact aQ | refine aM rfl (by first | rfl | (simp; done) | assumption | (refine congrArg (SV.fam (SV.own 11 1 0 (scN s)) 1000 1) ?_; rw [List.map_replicate]; done)) ?_)), (by repeat (first | refine aL rfl (by first | rfl | (simp; done) | assumption | (refine congrArg (HB.mk rHd) ?_; simp; done)) ?_ | exact cF (by repeat (first | exact .nil | refine .cons rfl ?_)) (by rw [qZ])))⟩ hi)) ?_
  rintro ⟨k, hs⟩ ⟨hk, hq⟩
  have hN : scN s = s.2.2.2.1.length := rfl
  have hN2 := hL.1
  have hR2 := hL.2.1
  refine zR (zt rfl rfl (aN ?_))
  refine cE (b := 1000) [3, 13, 14, 15, 16] [11] (.cons rfl (.cons rfl (.cons rfl (.cons rfl (.cons rfl .nil))))) (by repeat (first | exact .nil | refine .cons rfl ?_)) (.cons rfl .nil) ?_
  refine aa (ae ?_)
  refine af rfl (fun h3 => ?_) (fun h3 => ?_)
  · have h3 : k < (scR s).length := by simp at h3; omega
    have hrl := zz hL h3
    refine ah (aa (ae (aq (zR ?_))))
    refine bc _ rfl _ rfl rfl (al ga dp (.b rfl) (.b rfl) rfl zg) ?_
    refine zD dp rfl (zO (pY _ pC rfl rfl (py rfl)) (zC dp rfl rfl rfl (Lens.id _) (.tv (.b rfl)) (aN ?_)))
    refine cE (b := 1000) [3, 5, 13, 14, 15] [5, 11] (.cons rfl (.cons rfl (.cons rfl (.cons rfl (.cons rfl .nil))))) (by repeat (first | exact .nil | refine .cons rfl ?_)) (.cons rfl (.cons rfl .nil)) ?_
    refine aa (zR (zF ec rfl (zL ty3 rfl rfl rfl eK (zJ (bW (.b rfl) (.b rfl)) (zM rfl (zG rfl rfl (fun hg => ao ec (.b rfl)) (zG rfl rfl (fun hg => aj ty3 (.gd rfl hg) rfl rfl eK) (zG rfl rfl (fun hg => ag (.f1 rfl)) (zG rfl rfl (fun hg => ci fw (.gd rfl hg)) (zG rfl rfl (fun hg => dS (.gd rfl hg) (.gd rfl hg)) (zJ (aF (.b rfl) (.b rfl) rfl zp) (aN ?_))))))))))))
    refine cE (b := 1000) [3, 5, 13, 14, 15, 28] [5, 11] (.cons rfl (.cons rfl (.cons rfl (.cons rfl (.cons rfl (.cons rfl .nil)))))) (by repeat (first | exact .nil | refine .cons rfl ?_)) (.cons rfl (.cons rfl .nil)) ?_
    refine aa ?_
    refine af rfl (fun h5 => ?_) (fun h5 => ?_)
    · have h5 : 0 ≤ rlD (scR s)[k] ∧ rlD (scR s)[k] < scN s := by
        by_cases e : 0 ≤ rlD (scR s)[k]
        · simp [e] at h5; exact ⟨e, h5⟩
        simp [e] at h5
      obtain ⟨x, hxe⟩ : ∃ x : Nat, rlD (scR s)[k] = (x : Int) := ⟨(rlD (scR s)[k]).toNat, by omega⟩
      have hxn : x < scN s := by omega
      have hst := rowA_t h3 hxn hxe
      have hx0 := hq.at (vJ (k := k) hxn)
      obtain ⟨A, cap, hget⟩ := hx0
      have hx1 : (hs.map some)[x]? = some (some (A, (dQ (scN s) ((scR s).take k) (x : Int)).length, cap)) := by rw [List.getElem?_map, hget]; rfl
      have hx2 := (vJ (k := k) hxn)
      have hxl : x < hs.length := (List.getElem?_eq_some_iff.1 hget).1
      have hx3 : ((hs.map some).set x none)[x]? = some none := by rw [List.getElem?_set_self (by simpa using hxl)]
      have hx4 : ((kW s k).set x [])[x]? = some [] := by rw [List.getElem?_set_self (by rw [pR]; exact hxn)]
      have hal := ux (n := scN s) (d := (x : Int)) hL.2.2 k zo
      have hrl2 := vO (n := scN s) hrl
      refine r9 (stB := ⟨[(41, .own 60 1 0 ((dQ (scN s) ((scR s).take k) (x : Int)).length + (rdf (scN s) (scR s)[k]).length)), (3, .fam (.own 11 1 0 (scN s)) 1000 1 ((hs.map some).set x none)), (5, .optr 5 cZ.n 0 0), (13, .tv (ab cZ) (scR s)), (14, .raw (.int .i64 ((scR s).length : Nat))), (15, .raw (.int .i64 (k : Nat)))], (60, ⟨ak .i64, ((dQ (scN s) ((scR s).take k) (x : Int)).drop 0).take (dQ (scN s) ((scR s).take k) (x : Int)).length ++ rdf (scN s) (scR s)[k]⟩) :: (11, ⟨rHd, hs⟩) :: (5, ⟨cZ, [(scR s)[k]]⟩) :: eR (ak .i64) 1000 ((kW s k).set x [])⟩) 3 12 mo zk zk (by decide) (by decide) rfl rfl ( zS (ag (.f1 rfl)) ( zS (ao ec (.b rfl)) ( zS (aj ty3 (.b rfl) rfl rfl eK) ( zS (ag (.f1 rfl)) ( zS (ao ec (.b rfl)) ( zS (aj ty3 (.b rfl) rfl rfl eK) ( zS (bu fw gE (.b rfl) (.b rfl) hxe hxn) ( zS (aj gE (.b rfl) rfl (by rw [Nat.zero_add]; exact hget) (Lens.id _)) ( zS (aj dp (.b rfl) rfl rfl (Lens.id _)) ( zS (ag (.f1 rfl)) ( zS (ci fw (.b rfl)) ( zS (an (xR (scR s)[k] (scN s) hrl zo) (.cons (.b rfl) (.cons (.b rfl) .nil)) rfl rfl) ( AS.nil))))))))))))) ?_ ( zS (ag (.f1 rfl)) ( zS (ao ec (.b rfl)) ( zS (aj ty3 (.b rfl) rfl rfl eK) ( AS.nil)))) ?_
      · intro bs hbs a w hi Q
        rcases bs with _ | ⟨b0, _ | ⟨b1, _ | ⟨b2, _ | ⟨b3, br⟩⟩⟩⟩
        · simp at hbs
        · simp at hbs
        · simp at hbs
        · cases b0 <;> cases b1 <;> cases b2
          · exact ii (fun a w hi => fl (rt := ak .i64) (xs := (dQ (scN s) ((scR s).take k) (x : Int))) (i := 3) (j := 36) (c := 60) (x := x) (m := (dQ (scN s) ((scR s).take k) (x : Int)).length) (A := A) (cap := cap) (ks := [5, 13, 14, 15, 40]) (hs := [5, 11]) rfl rfl hx1 hx2 rfl rfl (.cons rfl (.cons rfl (.cons rfl (.cons rfl (.cons rfl .nil))))) rfl rfl rfl (by repeat (first | exact .nil | refine .cons rfl ?_)) (.cons rfl (.cons rfl .nil)) rfl rfl hi) (dn [3, 5, 13, 14, 15] bd ty3 z3 rfl by3 (.b rfl) rfl zo (.tv (.b rfl)) (by unfold maxLen; omega) zo rfl (.cons rfl (.cons rfl (.cons rfl (.cons rfl (.cons rfl .nil))))) rfl) ⟨(by repeat (first | exact aQ | refine aM rfl (by first | rfl | (simp; done) | assumption) ?_)), (by repeat (first | refine aL rfl rfl ?_ | exact cF (by repeat (first | exact .nil | refine .cons rfl ?_)) rfl))⟩ a w hi Q
          · exact ii (fun a w hi => fl (rt := ak .i64) (xs := (dQ (scN s) ((scR s).take k) (x : Int))) (i := 3) (j := 36) (c := 60) (x := x) (m := (dQ (scN s) ((scR s).take k) (x : Int)).length) (A := A) (cap := cap) (ks := [5, 13, 14, 15, 31, 40]) (hs := [5, 11]) rfl rfl hx1 hx2 rfl rfl (.cons rfl (.cons rfl (.cons rfl (.cons rfl (.cons rfl (.cons rfl .nil)))))) rfl rfl rfl (by repeat (first | exact .nil | refine .cons rfl ?_)) (.cons rfl (.cons rfl .nil)) rfl rfl hi) (dn [3, 5, 13, 14, 15, 31] bd ty3 z3 rfl by3 (.b rfl) rfl zo (.tv (.b rfl)) (by unfold maxLen; omega) zo rfl (.cons rfl (.cons rfl (.cons rfl (.cons rfl (.cons rfl (.cons rfl .nil)))))) rfl) ⟨(by repeat (first | exact aQ | refine aM rfl (by first | rfl | (simp; done) | assumption) ?_)), (by repeat (first | refine aL rfl rfl ?_ | exact cF (by repeat (first | exact .nil | refine .cons rfl ?_)) rfl))⟩ a w hi Q
          · exact ii (fun a w hi => fl (rt := ak .i64) (xs := (dQ (scN s) ((scR s).take k) (x : Int))) (i := 3) (j := 36) (c := 60) (x := x) (m := (dQ (scN s) ((scR s).take k) (x : Int)).length) (A := A) (cap := cap) (ks := [5, 13, 14, 15, 30, 40]) (hs := [5, 11]) rfl rfl hx1 hx2 rfl rfl (.cons rfl (.cons rfl (.cons rfl (.cons rfl (.cons rfl (.cons rfl .nil)))))) rfl rfl rfl (by repeat (first | exact .nil | refine .cons rfl ?_)) (.cons rfl (.cons rfl .nil)) rfl rfl hi) (dn [3, 5, 13, 14, 15, 30] bd ty3 z3 rfl by3 (.b rfl) rfl zo (.tv (.b rfl)) (by unfold maxLen; omega) zo rfl (.cons rfl (.cons rfl (.cons rfl (.cons rfl (.cons rfl (.cons rfl .nil)))))) rfl) ⟨(by repeat (first | exact aQ | refine aM rfl (by first | rfl | (simp; done) | assumption) ?_)), (by repeat (first | refine aL rfl rfl ?_ | exact cF (by repeat (first | exact .nil | refine .cons rfl ?_)) rfl))⟩ a w hi Q
          · exact ii (fun a w hi => fl (rt := ak .i64) (xs := (dQ (scN s) ((scR s).take k) (x : Int))) (i := 3) (j := 36) (c := 60) (x := x) (m := (dQ (scN s) ((scR s).take k) (x : Int)).length) (A := A) (cap := cap) (ks := [5, 13, 14, 15, 30, 31, 40]) (hs := [5, 11]) rfl rfl hx1 hx2 rfl rfl (.cons rfl (.cons rfl (.cons rfl (.cons rfl (.cons rfl (.cons rfl (.cons rfl .nil))))))) rfl rfl rfl (by repeat (first | exact .nil | refine .cons rfl ?_)) (.cons rfl (.cons rfl .nil)) rfl rfl hi) (dn [3, 5, 13, 14, 15, 30, 31] bd ty3 z3 rfl by3 (.b rfl) rfl zo (.tv (.b rfl)) (by unfold maxLen; omega) zo rfl (.cons rfl (.cons rfl (.cons rfl (.cons rfl (.cons rfl (.cons rfl (.cons rfl .nil))))))) rfl) ⟨(by repeat (first | exact aQ | refine aM rfl (by first | rfl | (simp; done) | assumption) ?_)), (by repeat (first | refine aL rfl rfl ?_ | exact cF (by repeat (first | exact .nil | refine .cons rfl ?_)) rfl))⟩ a w hi Q
          · exact ii (fun a w hi => fl (rt := ak .i64) (xs := (dQ (scN s) ((scR s).take k) (x : Int))) (i := 3) (j := 36) (c := 60) (x := x) (m := (dQ (scN s) ((scR s).take k) (x : Int)).length) (A := A) (cap := cap) (ks := [5, 13, 14, 15, 29, 40]) (hs := [5, 11]) rfl rfl hx1 hx2 rfl rfl (.cons rfl (.cons rfl (.cons rfl (.cons rfl (.cons rfl (.cons rfl .nil)))))) rfl rfl rfl (by repeat (first | exact .nil | refine .cons rfl ?_)) (.cons rfl (.cons rfl .nil)) rfl rfl hi) (dn [3, 5, 13, 14, 15, 29] bd ty3 z3 rfl by3 (.b rfl) rfl zo (.tv (.b rfl)) (by unfold maxLen; omega) zo rfl (.cons rfl (.cons rfl (.cons rfl (.cons rfl (.cons rfl (.cons rfl .nil)))))) rfl) ⟨(by repeat (first | exact aQ | refine aM rfl (by first | rfl | (simp; done) | assumption) ?_)), (by repeat (first | refine aL rfl rfl ?_ | exact cF (by repeat (first | exact .nil | refine .cons rfl ?_)) rfl))⟩ a w hi Q
          · exact ii (fun a w hi => fl (rt := ak .i64) (xs := (dQ (scN s) ((scR s).take k) (x : Int))) (i := 3) (j := 36) (c := 60) (x := x) (m := (dQ (scN s) ((scR s).take k) (x : Int)).length) (A := A) (cap := cap) (ks := [5, 13, 14, 15, 29, 31, 40]) (hs := [5, 11]) rfl rfl hx1 hx2 rfl rfl (.cons rfl (.cons rfl (.cons rfl (.cons rfl (.cons rfl (.cons rfl (.cons rfl .nil))))))) rfl rfl rfl (by repeat (first | exact .nil | refine .cons rfl ?_)) (.cons rfl (.cons rfl .nil)) rfl rfl hi) (dn [3, 5, 13, 14, 15, 29, 31] bd ty3 z3 rfl by3 (.b rfl) rfl zo (.tv (.b rfl)) (by unfold maxLen; omega) zo rfl (.cons rfl (.cons rfl (.cons rfl (.cons rfl (.cons rfl (.cons rfl (.cons rfl .nil))))))) rfl) ⟨(by repeat (first | exact aQ | refine aM rfl (by first | rfl | (simp; done) | assumption) ?_)), (by repeat (first | refine aL rfl rfl ?_ | exact cF (by repeat (first | exact .nil | refine .cons rfl ?_)) rfl))⟩ a w hi Q
          · exact ii (fun a w hi => fl (rt := ak .i64) (xs := (dQ (scN s) ((scR s).take k) (x : Int))) (i := 3) (j := 36) (c := 60) (x := x) (m := (dQ (scN s) ((scR s).take k) (x : Int)).length) (A := A) (cap := cap) (ks := [5, 13, 14, 15, 29, 30, 40]) (hs := [5, 11]) rfl rfl hx1 hx2 rfl rfl (.cons rfl (.cons rfl (.cons rfl (.cons rfl (.cons rfl (.cons rfl (.cons rfl .nil))))))) rfl rfl rfl (by repeat (first | exact .nil | refine .cons rfl ?_)) (.cons rfl (.cons rfl .nil)) rfl rfl hi) (dn [3, 5, 13, 14, 15, 29, 30] bd ty3 z3 rfl by3 (.b rfl) rfl zo (.tv (.b rfl)) (by unfold maxLen; omega) zo rfl (.cons rfl (.cons rfl (.cons rfl (.cons rfl (.cons rfl (.cons rfl (.cons rfl .nil))))))) rfl) ⟨(by repeat (first | exact aQ | refine aM rfl (by first | rfl | (simp; done) | assumption) ?_)), (by repeat (first | refine aL rfl rfl ?_ | exact cF (by repeat (first | exact .nil | refine .cons rfl ?_)) rfl))⟩ a w hi Q
          exact ii (fun a w hi => fl (rt := ak .i64) (xs := (dQ (scN s) ((scR s).take k) (x : Int))) (i := 3) (j := 36) (c := 60) (x := x) (m := (dQ (scN s) ((scR s).take k) (x : Int)).length) (A := A) (cap := cap) (ks := [5, 13, 14, 15, 29, 30, 31, 40]) (hs := [5, 11]) rfl rfl hx1 hx2 rfl rfl (.cons rfl (.cons rfl (.cons rfl (.cons rfl (.cons rfl (.cons rfl (.cons rfl (.cons rfl .nil)))))))) rfl rfl rfl (by repeat (first | exact .nil | refine .cons rfl ?_)) (.cons rfl (.cons rfl .nil)) rfl rfl hi) (dn [3, 5, 13, 14, 15, 29, 30, 31] bd ty3 z3 rfl by3 (.b rfl) rfl zo (.tv (.b rfl)) (by unfold maxLen; omega) zo rfl (.cons rfl (.cons rfl (.cons rfl (.cons rfl (.cons rfl (.cons rfl (.cons rfl (.cons rfl .nil)))))))) rfl) ⟨(by repeat (first | exact aQ | refine aM rfl (by first | rfl | (simp; done) | assumption) ?_)), (by repeat (first | refine aL rfl rfl ?_ | exact cF (by repeat (first | exact .nil | refine .cons rfl ?_)) rfl))⟩ a w hi Q
        simp at hbs
      refine u4 _ _ rfl rfl rfl rfl zk (bu fw gE (.b rfl) (.b rfl) hxe hxn) ?_
      refine z7 (rt := ak .i64) 3 41 60 x [13, 14, 15, 42] [5, 11] rfl rfl hx3 hx4 rfl (by simp) rfl rfl (.cons rfl (.cons rfl (.cons rfl (.cons rfl .nil)))) rfl rfl rfl (by repeat (first | exact .nil | refine .cons rfl ?_)) (.cons rfl (.cons rfl .nil)) rfl rfl (fun A2 cap2 => ?_)
      refine C8 _ rfl rfl zk (bK (d := (A2, (dQ (scN s) ((scR s).take k) (x : Int)).length + (rdf (scN s) (scR s)[k]).length, cap2)) gE (.b rfl) rfl (by rw [Nat.zero_add]; exact hget) (Lens.id _) (.raw (.b rfl) rfl)) ?_
      refine z6 rfl ?_
      refine cE (b := 1000) [3, 13, 14, 15] [11] (.cons rfl (.cons rfl (.cons rfl (.cons rfl .nil)))) (by repeat (first | exact .nil | refine .cons rfl ?_)) (.cons rfl .nil) ?_
      refine aG (aa (ac (zU rfl rfl zw (zM rfl (aN ?_)))))
      refine cE (b := 1000) [3, 13, 14, 15] [11] (.cons rfl (.cons rfl (.cons rfl (.cons rfl .nil)))) (by repeat (first | exact .nil | refine .cons rfl ?_)) (.cons rfl .nil) ?_
      first | exact aD (fun a w hi => ⟨(k + 1, hs), zj, (⟨by omega, by rw [hs0]; exact hq⟩), Sub.inv ⟨(by repeat (first | exact aQ | refine aM rfl (by first | rfl | (simp; done) | assumption | (refine congrArg (SV.fam (SV.own 11 1 0 (scN s)) 1000 1) ?_; rfl; done)) ?_)), (by repeat (first | refine aL rfl (by first | rfl | (simp; done) | assumption | (refine congrArg (HB.mk rHd) ?_; simp; done)) ?_ | exact cF (by repeat (first | exact .nil | refine .cons rfl ?_)) (hs0.symm)))⟩ hi⟩) | exact aD (fun a w hi => ⟨(k + 1, hs.set x (A2, (dQ (scN s) ((scR s).take k) (x : Int)).length + (rdf (scN s) (scR s)[k]).length, cap2)), zj, (⟨by omega, by rw [hst]; exact hq.set (by rw [pR]; exact hxn) (by simp)⟩), Sub.inv ⟨(by repeat (first | exact aQ | refine aM rfl (by first | rfl | (simp; done) | assumption | (refine congrArg (SV.fam (SV.own 11 1 0 (scN s)) 1000 1) ?_; simp [List.map_set]; done)) ?_)), (by repeat (first | refine aL rfl (by first | rfl | (simp; done) | assumption | (refine congrArg (HB.mk rHd) ?_; simp; done)) ?_ | exact cF (by repeat (first | exact .nil | refine .cons rfl ?_)) (by rw [hst]; simp; rw [List.take_of_length_le (by simp)])))⟩ hi⟩)
    have e2 : rlD (scR s)[k] = (scR s)[k].2.1 := rfl
    have h5 : inN (scN s) (rlD (scR s)[k]) = false := by
      by_cases e : 0 ≤ rlD (scR s)[k]
      · simp [e] at h5; simp [inN]; omega
      simp [inN]; omega
    have hs0 := rowA_f h3 h5
    refine ah (aG (aa (ac (zU rfl rfl zw (zM rfl (aN ?_))))))
    refine cE (b := 1000) [3, 13, 14, 15] [11] (.cons rfl (.cons rfl (.cons rfl (.cons rfl .nil)))) (by repeat (first | exact .nil | refine .cons rfl ?_)) (.cons rfl .nil) ?_
    first | exact aD (fun a w hi => ⟨(k + 1, hs), zj, (⟨by omega, by rw [hs0]; exact hq⟩), Sub.inv ⟨(by repeat (first | exact aQ | refine aM rfl (by first | rfl | (simp; done) | assumption | (refine congrArg (SV.fam (SV.own 11 1 0 (scN s)) 1000 1) ?_; rfl; done)) ?_)), (by repeat (first | refine aL rfl (by first | rfl | (simp; done) | assumption | (refine congrArg (HB.mk rHd) ?_; simp; done)) ?_ | exact cF (by repeat (first | exact .nil | refine .cons rfl ?_)) (hs0.symm)))⟩ hi⟩) | exact aD (fun a w hi => ⟨(k + 1, hs.set x (A2, (dQ (scN s) ((scR s).take k) (x : Int)).length + (rdf (scN s) (scR s)[k]).length, cap2)), zj, (⟨by omega, by rw [hst]; exact hq.set (by rw [pR]; exact hxn) (by simp)⟩), Sub.inv ⟨(by repeat (first | exact aQ | refine aM rfl (by first | rfl | (simp; done) | assumption | (refine congrArg (SV.fam (SV.own 11 1 0 (scN s)) 1000 1) ?_; simp [List.map_set]; done)) ?_)), (by repeat (first | refine aL rfl (by first | rfl | (simp; done) | assumption | (refine congrArg (HB.mk rHd) ?_; simp; done)) ?_ | exact cF (by repeat (first | exact .nil | refine .cons rfl ?_)) (by rw [hst]; simp; rw [List.take_of_length_le (by simp)])))⟩ hi⟩)
  have hke : k = (scR s).length := by simp at h3; omega
  subst hke
  refine bg (be (aY (bf (aa (ae (ae (ac (zJ (ag (.f1 rfl)) (zJ (ci fw (.b rfl)) (zM rfl (aN ?_)))))))))))
  refine cE (b := 1000) [3, 44, 45, 46] [11] (.cons rfl (.cons rfl (.cons rfl (.cons rfl .nil)))) (by repeat (first | exact .nil | refine .cons rfl ?_)) (.cons rfl .nil) ?_
  refine aa (aq ?_)
  refine aZ (ι := (Nat × List (Option Addr × Nat × Nat))) (fun (k, hs) => ⟨[(3, .fam (.own 11 1 0 (scN s)) 1000 1 (hs.map some)), (44, .own 11 1 0 (scN s)), (45, .raw (.int .i64 ((scN s : Nat)))), (46, .raw (.int .i64 ((k : Nat))))], (11, ⟨rHd, hs⟩) :: eR (ak .i64) 1000 (mH s k)⟩) (fun (k, hs) => k ≤ scN s ∧ HdOK hs (mH s k)) (fun (k, hs) => scN s - k) (0, hs) (⟨Nat.zero_le _, by rw [qY]; exact hq⟩) (fun a w hi => (Sub.inv ⟨(by repeat (first | exact aQ | refine aM rfl (by first | rfl | (simp; done) | assumption | (refine congrArg (SV.fam (SV.own 11 1 0 (scN s)) 1000 1) ?_; rfl; done)) ?_)), (by repeat (first | refine aL rfl (by first | rfl | (simp; done) | assumption | (refine congrArg (HB.mk rHd) ?_; simp; done)) ?_ | exact cF (by repeat (first | exact .nil | refine .cons rfl ?_)) (by rw [qY])))⟩ hi)) ?_
  rintro ⟨k, hs⟩ ⟨hk, hq⟩
  have hN : scN s = s.2.2.2.1.length := rfl
  have hN2 := hL.1
  have hR2 := hL.2.1
  refine zR (zt rfl rfl (aN ?_))
  refine cE (b := 1000) [3, 44, 45, 46, 47] [11] (.cons rfl (.cons rfl (.cons rfl (.cons rfl (.cons rfl .nil))))) (by repeat (first | exact .nil | refine .cons rfl ?_)) (.cons rfl .nil) ?_
  refine aa (ae ?_)
  refine af rfl (fun h9 => ?_) (fun h9 => ?_)
  · have hxn : k < scN s := by simp at h9; omega
    have hst := rowB_t hxn
    have hx0 := hq.at (vI (k := k) hxn (Nat.le_refl _))
    obtain ⟨A, cap, hget⟩ := hx0
    have hx1 : (hs.map some)[k]? = some (some (A, (dQ (scN s) (scR s) (k : Int)).length, cap)) := by rw [List.getElem?_map, hget]; rfl
    have hx2 := (vI (k := k) hxn (Nat.le_refl _))
    have hxl : k < hs.length := (List.getElem?_eq_some_iff.1 hget).1
    have hx3 : ((hs.map some).set k none)[k]? = some none := by rw [List.getElem?_set_self (by simpa using hxl)]
    have hx4 : ((mH s k).set k [])[k]? = some [] := by rw [List.getElem?_set_self (by rw [tt]; exact hxn)]
    have hal := ux (n := scN s) (d := (k : Int)) hL.2.2 (scR s).length (Nat.le_refl _)
    rw [List.take_length] at hal
    refine ah (aa (ae (aq (zR (zM rfl (zJ (bu fw gE (.b rfl) (.b rfl) rfl hxn) (zJ (aj gE (.b rfl) rfl (by rw [Nat.zero_add]; exact hget) (Lens.id _)) (zA rfl (zY rfl ?_)))))))))
    refine cE (b := 1000) [3, 6, 7, 44, 45, 46] [11] (.cons rfl (.cons rfl (.cons rfl (.cons rfl (.cons rfl (.cons rfl .nil)))))) (by repeat (first | exact .nil | refine .cons rfl ?_)) (.cons rfl .nil) ?_
    refine aa (ac (zJ (ag (.f1 rfl)) (zM rfl (zM rfl ?_))))
    refine tM (rt := ak .i64) (xs := (dQ (scN s) (scR s) (k : Int))) (m := (dQ (scN s) (scR s) (k : Int)).length) (A := A) (cap := cap) 3 53 60 k [44, 45, 46, 51, 52] [11] rfl rfl hx1 hx2 rfl rfl (.cons rfl (.cons rfl (.cons rfl (.cons rfl (.cons rfl .nil))))) rfl rfl rfl (by repeat (first | exact .nil | refine .cons rfl ?_)) (.cons rfl .nil) rfl rfl ?_
    refine zO (j1 lb (.b rfl) rfl (by rfl) zo rfl) (zJ (bu fw gE (.b rfl) (.b rfl) rfl hxn) ?_)
    refine tO (rt := ak .i64) 3 54 60 k [44, 45, 46, 55] [11] rfl rfl hx3 hx4 rfl (by rw [xN]; exact dI _) rfl rfl (.cons rfl (.cons rfl (.cons rfl (.cons rfl .nil)))) rfl rfl rfl (by repeat (first | exact .nil | refine .cons rfl ?_)) (.cons rfl .nil) rfl rfl (fun A2 cap2 => ?_)
    refine zO (bK (d := (A2, (cj (dQ (scN s) (scR s) (k : Int))).length, cap2)) gE (.b rfl) rfl (by rw [Nat.zero_add]; exact hget) (Lens.id _) (.raw (.b rfl) rfl)) (aN ?_)
    refine cE (b := 1000) [3, 44, 45, 46] [11] (.cons rfl (.cons rfl (.cons rfl (.cons rfl .nil)))) (by repeat (first | exact .nil | refine .cons rfl ?_)) (.cons rfl .nil) ?_
    refine aG (aa (ac (zU rfl rfl zw (zM rfl (aN ?_)))))
    refine cE (b := 1000) [3, 44, 45, 46] [11] (.cons rfl (.cons rfl (.cons rfl (.cons rfl .nil)))) (by repeat (first | exact .nil | refine .cons rfl ?_)) (.cons rfl .nil) ?_
    exact aD (fun a w hi => ⟨(k + 1, hs.set k (A2, (cj (dQ (scN s) (scR s) (k : Int))).length, cap2)), zj, (⟨by omega, by rw [hst]; exact hq.set (by rw [tt]; exact hxn) rfl⟩), Sub.inv ⟨(by repeat (first | exact aQ | refine aM rfl (by first | rfl | (simp; done) | assumption | (refine congrArg (SV.fam (SV.own 11 1 0 (scN s)) 1000 1) ?_; simp [List.map_set]; done)) ?_)), (by repeat (first | refine aL rfl (by first | rfl | (simp; done) | assumption | (refine congrArg (HB.mk rHd) ?_; simp; done)) ?_ | exact cF (by repeat (first | exact .nil | refine .cons rfl ?_)) (by rw [hst, ul]; simp)))⟩ hi⟩)
  have hke : k = scN s := by simp at h9; omega
  subst hke
  refine bg (be (aY (bf (aa (ae ?_)))))
  refine wl (b := 1000) (rt := ak .i64) 3 11 [] [] rfl hq.1 hq.2 rfl rfl rfl .nil rfl (by repeat (first | exact .nil | refine .cons rfl ?_)) .nil rfl rfl ?_
  rw [yJ]
  refine ac (zM rfl (zY rfl (aa (am ?_))))
  refine cY (rt := ab (ak .i64)) 11 2 (b8 11 _) rfl rfl (by simp [iu]) (bl 11 _) (bC 11 _) ?_
  exact z1 results125 rfl (congrArg (SV.tv (ab (ab (ak .i64)))) (by rw [List.drop_zero, List.take_of_length_le (by simp [iu])]))
open Go.Eng
def rw (dd : List (List Int)) (x : Int) : List Int := dd.getD x.toNat []
structure WFd (n : Nat) (dd : List (List Int)) : Prop where
  len : dd.length = n
  ent : ∀ x e, e ∈ rw dd x → 0 ≤ e ∧ e < n
  srt : ∀ x, (rw dd x).Pairwise (· < ·)
theorem C3 {dd : List (List Int)} {x : Int} (h : x.toNat < dd.length) : dd[x.toNat] = rw dd x := by simp [rw, h]
theorem pJ : ∀ (l : List Int) (a n : Int), l.Pairwise (· < ·) → (∀ e ∈ l, a ≤ e ∧ e < n) → (l.length : Int) ≤ max 0 (n - a)
  | [], a, n, _, _ => by simp; omega
  | x :: l, a, n, hp, hb => by
    rw [List.pairwise_cons] at hp
    have h1 := pJ l (x + 1) n hp.2 (fun e he => ⟨by have := hp.1 e he; omega, (hb e (by simp [he])).2⟩)
    have h2 := hb x (by simp)
    simp only [List.length_cons]
    omega
theorem WFd.rlen {n : Nat} {dd : List (List Int)} (h : WFd n dd) (x : Int) : (rw dd x).length ≤ n := by
  have := pJ (rw dd x) 0 n (h.srt x) (fun e he => h.ent x e he)
  omega
inductive Rp (dd : List (List Int)) : Int → Int → Prop
  | one {x y : Int} (h : y ∈ rw dd x) : Rp dd x y
  | step {x y z : Int} (h : Rp dd x y) (h2 : z ∈ rw dd y) : Rp dd x z
def sn (seen : List Bool) (e : Int) : Bool := seen.getD e.toNat false
def k6 (seen : List Bool) : Nat := seen.countP (fun b => !b)
theorem yv {seen : List Bool} {e : Int} (h : e.toNat < seen.length) : seen[0 + e.toNat]? = some (sn seen e) := by simp [sn, h]
theorem yu {seen : List Bool} {e z : Int} (he : 0 ≤ e) (hz : 0 ≤ z) (h : e.toNat < seen.length) : sn (seen.set e.toNat true) z = if z = e then true else sn seen z := by
  unfold sn
  by_cases e1 : z = e
  · subst e1; simp [h]
  rw [if_neg e1, List.getD_eq_getElem?_getD, List.getElem?_set_ne zo, ← List.getD_eq_getElem?_getD]
theorem pF {seen : List Bool} {e : Int} (h : e.toNat < seen.length) (hs : sn seen e = false) : k6 (seen.set e.toNat true) + 1 = k6 seen := by
  refine iz _ _ ?_
  unfold sn at hs
  rw [List.getD_eq_getElem?_getD, List.getElem?_eq_getElem h] at hs
  rw [List.getElem?_eq_getElem h]; simpa using hs
structure RI (n : Nat) (dd : List (List Int)) (d : Int) (seen : List Bool) (Q Y : List Int) : Prop where
  len : seen.length = n
  snd : ∀ e, 0 ≤ e → sn seen e = true → Rp dd d e
  rng : ∀ x ∈ Q, 0 ≤ x ∧ x < n
  src : ∀ x ∈ Q, x = d ∨ sn seen x = true
  cls : ∀ x, 0 ≤ x → (x = d ∨ sn seen x = true) → x ∈ Q ∨ x ∈ Y ∨ ∀ e ∈ rw dd x, sn seen e = true
  mes : Q.length + k6 seen ≤ n + 1
theorem RI.start {n : Nat} {dd : List (List Int)} {d : Int} (h0 : 0 ≤ d) (hn : d < n) : RI n dd d (List.replicate n false) [d] [] := by
  have hf : ∀ e, sn (List.replicate n false) e = false := fun e => by
    unfold sn; rw [List.getD_eq_getElem?_getD, List.getElem?_replicate]; split <;> rfl
  refine ⟨by simp, fun e _ h => ?_, fun x hx => ?_, fun x hx => .inl (by simpa using hx), fun x _ h => ?_, ?_⟩
  · rw [hf] at h; cases h
  · simp at hx; subst hx; exact ⟨h0, hn⟩
  · rcases h with h | h
    · exact .inl (by simp [h])
    rw [hf] at h; cases h
  simp [k6, List.countP_replicate]; omega
theorem RI.pop {n : Nat} {dd : List (List Int)} {d y : Int} {seen : List Bool} {Q : List Int} (h : RI n dd d seen (y :: Q) []) : RI n dd d seen Q [y] := by
  refine ⟨h.len, h.snd, fun x hx => h.rng x (by simp [hx]), fun x hx => h.src x (by simp [hx]), fun x h0 hx => ?_, ?_⟩
  · rcases h.cls x h0 hx with h1 | h1 | h1
    · rcases List.mem_cons.1 h1 with h2 | h2
      · exact .inr (.inl (by simp [h2]))
      exact .inl h2
    · cases h1
    exact .inr (.inr h1)
  have := h.mes; simp at this; omega
theorem RI.push {n : Nat} {dd : List (List Int)} {d y e : Int} {seen : List Bool} {Q : List Int} (w : WFd n dd) (h : RI n dd d seen Q [y]) (hy : y = d ∨ sn seen y = true) (hy0 : 0 ≤ y) (he : e ∈ rw dd y) (hs : sn seen e = false) : RI n dd d (seen.set e.toNat true) (Q ++ [e]) [y] := by
  obtain ⟨e0, en⟩ := w.ent y e he
  have hel : e.toNat < seen.length := by rw [h.len]; omega
  have hset : ∀ z, 0 ≤ z → sn (seen.set e.toNat true) z = if z = e then true else sn seen z := fun z hz => yu e0 hz hel
  have hup : ∀ z, 0 ≤ z → sn seen z = true → sn (seen.set e.toNat true) z = true := fun z hz hzs => by rw [hset z hz]; split <;> simp [hzs]
  refine ⟨by simp [h.len], fun z hz hzs => ?_, fun x hx => ?_, fun x hx => ?_, fun x h0 hx => ?_, ?_⟩
  · rw [hset z hz] at hzs
    split at hzs
    · rename_i e1; subst e1
      rcases hy with rfl | hy
      · exact .one he
      exact .step (h.snd y hy0 hy) he
    exact h.snd z hz hzs
  · rcases List.mem_append.1 hx with hx | hx
    · exact h.rng x hx
    simp at hx; subst hx; exact ⟨e0, en⟩
  · rcases List.mem_append.1 hx with hx | hx
    · rcases h.src x hx with h1 | h1
      · exact .inl h1
      exact .inr (hup x (h.rng x hx).1 h1)
    simp at hx; subst hx; exact .inr (by rw [hset x e0, if_pos rfl])
  · by_cases e1 : x = e
    · subst e1; exact .inl (by simp)
    have hx' : x = d ∨ sn seen x = true := by
      rcases hx with hx | hx
      · exact .inl hx
      rw [hset x h0, if_neg e1] at hx; exact .inr hx
    rcases h.cls x h0 hx' with h1 | h1 | h1
    · exact .inl (by simp [h1])
    · exact .inr (.inl h1)
    exact .inr (.inr fun z hz => hup z (w.ent x z hz).1 (h1 z hz))
  have h1 := h.mes; have h2 := pF hel hs; simp; omega
theorem RI.close {n : Nat} {dd : List (List Int)} {d y : Int} {seen : List Bool} {Q : List Int} (h : RI n dd d seen Q [y]) (hc : ∀ e ∈ rw dd y, sn seen e = true) : RI n dd d seen Q [] := by
  refine ⟨h.len, h.snd, h.rng, h.src, fun x h0 hx => ?_, h.mes⟩
  rcases h.cls x h0 hx with h1 | h1 | h1
  · exact .inl h1
  · simp at h1; subst h1; exact .inr (.inr hc)
  exact .inr (.inr h1)
theorem RI.done {n : Nat} {dd : List (List Int)} {d : Int} {seen : List Bool} (w : WFd n dd) (hd : 0 ≤ d) (h : RI n dd d seen [] []) (e : Int) (he : 0 ≤ e) : sn seen e = true ↔ Rp dd d e := by
  refine ⟨h.snd e he, fun hr => ?_⟩
  induction hr with
  | one h1 =>
    rcases h.cls d hd (.inl rfl) with h2 | h2 | h2
    · cases h2
    · cases h2
    exact h2 _ h1
  | @step y z h1 h2 ih =>
    have hy : 0 ≤ y := by
      cases h1 with
      | one q => exact (w.ent _ _ q).1
      | step _ q => exact (w.ent _ _ q).1
    rcases h.cls y hy (.inr (ih hy)) with h3 | h3 | h3
    · cases h3
    · cases h3
    exact h3 _ h2
open Classical in
noncomputable def pU (n : Nat) (dd : List (List Int)) (d : Int) : List Int := ((List.range n).filter (fun k => decide (Rp dd d ((k : Nat) : Int)))).map (fun (k : Nat) => (k : Int))
def kP (seen : List Bool) (k : Nat) : List Int := ((List.range k).filter (fun j => sn seen ((j : Nat) : Int))).map (fun (j : Nat) => (j : Int))
theorem BR {seen : List Bool} {k : Nat} (h : sn seen ((k : Nat) : Int) = true) : kP seen (k + 1) = kP seen k ++ [(k : Int)] := by unfold kP; rw [List.range_succ, List.filter_append, List.map_append]; simp [h]
theorem BS {seen : List Bool} {k : Nat} (h : sn seen ((k : Nat) : Int) = false) : kP seen (k + 1) = kP seen k := by unfold kP; rw [List.range_succ, List.filter_append, List.map_append]; simp [h]
theorem w5 (seen : List Bool) (k : Nat) : (kP seen k).length ≤ k := by unfold kP; rw [List.length_map]; exact Nat.le_trans (List.length_filter_le _ _) (by simp)
theorem RI.list {n : Nat} {dd : List (List Int)} {d : Int} {seen : List Bool} (w : WFd n dd) (hd : 0 ≤ d) (h : RI n dd d seen [] []) : kP seen n = pU n dd d := by
  unfold kP pU
  congr 1
  refine List.filter_congr fun k _ => ?_
  have := h.done w hd (k : Int) zo
  by_cases e : sn seen ((k : Nat) : Int) = true
  · rw [e]; simp [this.1 e]
  have e2 : sn seen ((k : Nat) : Int) = false := by simpa using e
  rw [e2]; simp; exact fun q => e (this.2 q)
theorem rJ : ∀ (n : Nat), (List.range n).Pairwise (· < ·) := fun n => List.pairwise_lt_range
theorem oW : ∀ {l : List Nat}, l.Pairwise (· < ·) → (l.map (fun (k : Nat) => (k : Int))).Pairwise (· < ·) := fun h => List.pairwise_map.2 (h.imp (by intro a b h; exact Int.ofNat_lt.2 h))
end Go.Proofs.YtehcaebnijlhgaaGreatDoor.C16
namespace Go.Proofs.YtehcaebnijlhgaaGreatDoor.C16
open Go.Eng Tryz
set_option maxRecDepth 100000
set_option maxHeartbeats 4000000
theorem uG (n : Nat) (dd : List (List Int)) (d : Int) (w : WFd n dd) (hn14 : n ≤ 14) (h0 : 0 ≤ d) (hd : d < n) : Ct prog 124 [.tv (ab (ab (ak .i64))) dd, .raw (.int .i64 d)] (.tv (ab (ak .i64)) (pU n dd d)) := by
  refine ay func124 rfl rfl ntmps124 rfl rfl ?_
  intro w0 ok0
  have hn := hn14
  refine zR (zY rfl (aa (ae ?_)))
  rw [← w.len] at hn
  have hdl := w.len
  refine ac (zM rfl (zN fw rfl (zO (dL fq ty4 z4 rfl by4 (.b rfl) (.b rfl) zo (by unfold maxLen; omega) rfl rfl rfl) (zY rfl (aa (zR (zM rfl (zO (gI (rt := ak .i64) bd ty3 z3 rfl (.cons (.raw (.b rfl) rfl) .nil) rfl rfl rfl rfl rfl) (zY rfl (aa (ae (aq ?_))))))))))))
  refine aZ (ι := (List Bool × List Int × Nat)) (fun (seen, xs, off) => ⟨[(0, .tv (ab (ab (ak .i64))) dd), (5, .own 15 bP.n 0 n), (6, .own 17 (ak .i64).n off (xs.length - off))], [(15, ⟨bP, seen⟩), (17, ⟨ak .i64, xs⟩)]⟩) (fun (seen, xs, off) => RI n dd d seen (xs.drop off) [] ∧ off ≤ xs.length) (fun (seen, xs, off) => 2 * k6 seen + (xs.length - off)) (List.replicate n false, [d], 0) (⟨by exact RI.start h0 hd, Nat.zero_le _⟩) (fun a w hi => Sub.inv ⟨(by repeat (first | exact aQ | refine aM rfl (by first | rfl | (simp; done) | assumption | (refine congrArg (SV.own 15 bP.n 0) ?_; exact hdl; done)) ?_)), (by repeat (first | exact bn | refine aL rfl (by first | rfl | (simp; done) | assumption | (refine congrArg (HB.mk bP) ?_; rw [hdl]; done)) ?_))⟩ hi) ?_
  rintro ⟨seen, xs, off⟩ ⟨hi, hoff⟩
  refine ae (zR (zM rfl (zJ (ci bd (.b rfl)) (zJ (bY (.b rfl) (.b rfl)) (zZ ?_)))))
  refine af rfl (fun h3 => ?_) (fun h3 => ?_)
  · have h3 : off < xs.length := by simp at h3; omega
    have hml := hi.len
    have hms := hi.mes
    refine ah (aa (aq (zR (zM rfl (zJ (bu bd ty3 (.b rfl) (.b rfl) (show (0 : Int) = ((0 : Nat) : Int) from rfl) zh) ?_)))))
    refine bc _ rfl _ rfl rfl (aj ty3 (.b rfl) rfl zg (Lens.id _)) ?_
    refine zA rfl ?_
    obtain ⟨y, hy⟩ : ∃ y, y = xs[off + 0] := ⟨_, rfl⟩
    rw [← hy]
    have hQ : xs.drop off = y :: xs.drop (off + 1) := by rw [hy]; exact List.drop_eq_getElem_cons h3
    have hi1 : RI n dd d seen (y :: xs.drop (off + 1)) [] := by rw [← hQ]; exact hi
    obtain ⟨hy0, hyn⟩ := hi1.rng y (by simp)
    have hys := hi1.src y (by simp)
    have hi2 := hi1.pop
    have hyl : y.toNat < dd.length := by rw [w.len]; omega
    have hyc : y = ((y.toNat : Nat) : Int) := by omega
    have hrl := w.rlen y
    obtain ⟨mu0, hmu0⟩ : ∃ mu0, mu0 = 2 * k6 seen + (xs.length - off) := ⟨_, rfl⟩
    refine zZ (zR (zM rfl (zJ (gH bd ty3 (.b rfl) ⟨_, _, (.b rfl), (show (1 : Int) = ((1 : Nat) : Int) from rfl)⟩ rfl zo zo) (zY rfl (aa (zR (zM rfl (zM rfl ?_))))))))
    refine bc _ rfl _ rfl rfl (al fw ek (.b rfl) (.b rfl) hyc zg) ?_
    refine zD ek rfl (zN bd rfl (zM rfl ?_))
    rw [C3 hyl]
    refine zZ (aq ?_)
    refine aZ (ι := (List Bool × List Int × Nat × Nat)) (fun (seen, xs, off, j) => ⟨[(0, .tv (ab (ab (ak .i64))) dd), (5, .own 15 bP.n 0 n), (6, .own 17 (ak .i64).n off (xs.length - off)), (29, .tv (ab (ak .i64)) (rw dd y)), (30, .raw (.int .i64 ((rw dd y).length))), (31, .raw (.int .i64 ((j : Nat))))], [(15, ⟨bP, seen⟩), (17, ⟨ak .i64, xs⟩)]⟩) (fun (seen, xs, off, j) => j ≤ (rw dd y).length ∧ RI n dd d seen (xs.drop off) [y] ∧ (y = d ∨ sn seen y = true) ∧ off ≤ xs.length ∧ (∀ i, (hi : i < j) → (hj : i < (rw dd y).length) → sn seen (rw dd y)[i] = true) ∧ 2 * k6 seen + (xs.length - off) < mu0) (fun (seen, xs, off, j) => (rw dd y).length - j) (seen, xs, off + 1, 0) (⟨Nat.zero_le _, hi2, hys, by omega, fun i hi => by omega, by omega⟩) (fun a w hi => Sub.inv ⟨(by repeat (first | exact aQ | refine aM rfl (by first | rfl | (simp; done) | assumption | (refine congrArg (SV.own 17 (ak .i64).n (off + 1)) ?_; omega; done)) ?_)), (by repeat (first | exact bn | refine aL rfl (by first | rfl | (simp; done) | assumption) ?_))⟩ hi) ?_
    rintro ⟨seen, xs, off, j⟩ ⟨hj, hi', hys, hoff, hcl', hmes⟩
    have hml := hi'.len
    have hms := hi'.mes
    have hdrl : (xs.drop off).length = xs.length - off := by simp
    refine zR (zt rfl rfl (zZ (ae ?_)))
    refine af rfl (fun h7 => ?_) (fun h7 => ?_)
    · have h7 : j < (rw dd y).length := by simp at h7; omega
      refine ah (aa (ae (aq (zR ?_))))
      refine bc _ rfl _ rfl rfl (al bd ty3 (.b rfl) (.b rfl) rfl zg) ?_
      refine zD ty3 rfl (zA rfl ?_)
      obtain ⟨e, hee⟩ : ∃ e, e = (rw dd y)[j] := ⟨_, rfl⟩
      rw [← hee]
      have hem : e ∈ rw dd y := by rw [hee]; exact List.getElem_mem h7
      obtain ⟨he0, hen⟩ := w.ent y e hem
      have hel : e.toNat < seen.length := by omega
      have hec : e = ((e.toNat : Nat) : Int) := by omega
      refine zZ (zR (zM rfl (zM rfl (zJ (bu fq ty4 (.b rfl) (.b rfl) hec zh) (zJ (aj ty4 (.b rfl) rfl (yv hel) (Lens.id _)) (zJ (b6 (.b rfl)) (zZ ?_)))))))
      refine af rfl (fun h9 => ?_) (fun h9 => ?_)
      · have h9 : sn seen e = false := by simpa using h9
        have hpush0 := hi'.push w hys hy0 hem h9
        have hpush : RI n dd d (seen.set e.toNat true) (((xs.drop off).take (xs.length - off) ++ [e]).drop 0) [y] := by rw [List.drop_zero, List.take_of_length_le (by simp)]; exact hpush0
        have hss : ∀ z, 0 ≤ z → sn (seen.set e.toNat true) z = if z = e then true else sn seen z := fun z hz => yu he0 hz hel
        have hpys : y = d ∨ sn (seen.set e.toNat true) y = true := by
          rcases hys with q | q
          · exact .inl q
          exact .inr (by rw [hss y hy0]; split <;> simp [q])
        have hpcl : ∀ i, (hi : i < j + 1) → (hj : i < (rw dd y).length) → sn (seen.set e.toNat true) (rw dd y)[i] = true := fun i hi hj => by
          rw [hss _ (w.ent y _ (List.getElem_mem hj)).1]
          by_cases q : i = j
          · subst q; rw [if_pos hee.symm]
          rw [hcl' i zo hj]; split <;> rfl
        have hpu := pF hel h9
        have hpm : 2 * k6 (seen.set e.toNat true) + (((xs.drop off).take (xs.length - off) ++ [e]).length - 0) < mu0 := by simp; omega
        refine zR (zM rfl (zM rfl (zJ (bu fq ty4 (.b rfl) (.b rfl) hec zh) ?_)))
        refine eN _ rfl (bK ty4 (.b rfl) rfl zg (Lens.id _) (.raw (.b rfl) rfl)) ?_
        refine zZ (ac (zM rfl (zM rfl (zJ (bq (rt := (ak .i64)) bd ty3 z3 rfl (.cons (.raw (.b rfl) rfl) .nil) rfl rfl) (zV [0,5,29,30,31] bd ty3 z3 by3 rfl rfl (.tv (.b rfl)) ?_)))))
        refine zY rfl (aG (aa (ac (zU rfl rfl zw (zM rfl (aN ?_))))))
        first | exact aD (fun a w hi => ⟨(seen, xs, off, j + 1), (by show (rw dd y).length - (j + 1) < (rw dd y).length - j; omega), ⟨by omega, hi', hys, hoff, hsame, hmes⟩, zI hi⟩) | exact aD (fun a w hi => ⟨(seen.set e.toNat true, (xs.drop off).take (xs.length - off) ++ [e], 0, j + 1), (by show (rw dd y).length - (j + 1) < (rw dd y).length - j; omega), ⟨by omega, hpush, hpys, Nat.zero_le _, hpcl, hpm⟩, Sub.inv ⟨(by repeat (first | exact aQ | refine aM rfl (by first | rfl | (simp; done) | assumption | (refine congrArg (SV.own 17 (ak .i64).n 0) ?_; simp; done)) ?_)), (by repeat (first | exact bn | refine aL rfl (by first | rfl | (simp; done) | assumption | (refine congrArg (HB.mk bP) ?_; rw [Nat.zero_add]; done)) ?_))⟩ hi⟩)
      have h9 : sn seen e = true := by simpa using h9
      have hsame : ∀ i, (hi : i < j + 1) → (hj : i < (rw dd y).length) → sn seen (rw dd y)[i] = true := fun i hi hj => by
        by_cases q : i = j
        · subst q; rw [← hee]; exact h9
        exact hcl' i zo hj
      refine ah (aG (aa (ac (zU rfl rfl zw (zM rfl (aN ?_))))))
      first | exact aD (fun a w hi => ⟨(seen, xs, off, j + 1), (by show (rw dd y).length - (j + 1) < (rw dd y).length - j; omega), ⟨by omega, hi', hys, hoff, hsame, hmes⟩, zI hi⟩) | exact aD (fun a w hi => ⟨(seen.set e.toNat true, (xs.drop off).take (xs.length - off) ++ [e], 0, j + 1), (by show (rw dd y).length - (j + 1) < (rw dd y).length - j; omega), ⟨by omega, hpush, hpys, Nat.zero_le _, hpcl, hpm⟩, Sub.inv ⟨(by repeat (first | exact aQ | refine aM rfl (by first | rfl | (simp; done) | assumption | (refine congrArg (SV.own 17 (ak .i64).n 0) ?_; simp; done)) ?_)), (by repeat (first | exact bn | refine aL rfl (by first | rfl | (simp; done) | assumption | (refine congrArg (HB.mk bP) ?_; rw [Nat.zero_add]; done)) ?_))⟩ hi⟩)
    have h7 : j = (rw dd y).length := by simp at h7; omega
    have hcl : ∀ e ∈ rw dd y, sn seen e = true := fun e he => by
      obtain ⟨i, hi, rfl⟩ := List.mem_iff_getElem.1 he
      exact hcl' i zo hi
    refine bg (be (aY (bf (aG ?_))))
    exact aD (fun a w hi => ⟨(seen, xs, off), (by rw [hmu0] at hmes; exact hmes), ⟨hi'.close hcl, hoff⟩, zI hi⟩)
  have h3 : off = xs.length := by simp at h3; omega
  have hend : RI n dd d seen [] [] := by rw [h3, List.drop_length] at hi; exact hi
  refine bg (be (aY (bf (aa (ae (ac (zY rfl (aa (ae (zR (zM rfl (zJ (ci fq (.b rfl)) (zM rfl (zQ [10,48,49,50] [15] (aa (aq ?_))))))))))))))))
  refine eO 70 10 (ak .i64) rfl rfl rfl ?_
  refine aZ (ι := Nat) (fun k => ⟨[(10, .own 70 (ak .i64).n 0 (kP seen k).length), (48, .own 15 bP.n 0 n), (49, .raw (.int .i64 ((n : Nat)))), (50, .raw (.int .i64 ((k : Nat))))], [(15, ⟨bP, seen⟩), (70, ⟨ak .i64, kP seen k⟩)]⟩) (fun k => k ≤ n) (fun k => n - k) 0 (Nat.zero_le _) (fun a w hi => (zI hi)) ?_
  rintro k hk
  have hsl := w5 seen k
  have hml := hend.len
  refine zR (zt rfl rfl (zZ (ae ?_)))
  refine af rfl (fun h15 => ?_) (fun h15 => ?_)
  · have h15 : k < n := by simp at h15; omega
    refine ah (aa (ae (aq (zR (zM rfl (zJ (bu fq ty4 (.b rfl) (.b rfl) rfl zh) (zJ (aj ty4 (.b rfl) rfl (yv (e := ((k : Nat) : Int)) (by simp; omega)) (Lens.id _)) (zA rfl (zY rfl (aa (zR (zM rfl (zZ ?_)))))))))))))
    refine af rfl (fun h17 => ?_) (fun h17 => ?_)
    · have hs := BR h17
      refine ac (zM rfl (zM rfl (zJ (bq (rt := (ak .i64)) bd ty3 z3 rfl (.cons (.raw (.b rfl) rfl) .nil) rfl rfl) (zV [48,49,50] bd ty3 z3 by3 rfl rfl (.tv (.b rfl)) ?_))))
      refine zY rfl (aG (aa (ac (zU rfl rfl zw (zM rfl (aN ?_))))))
      exact aD (fun a w hi => ⟨k + 1, zj, zo, zW hi⟩)
    have hs := BS (by simpa using h17)
    refine ah (aG (aa (ac (zU rfl rfl zw (zM rfl (aN ?_))))))
    exact aD (fun a w hi => ⟨k + 1, zj, zo, zW hi⟩)
  have h15 : k = n := by simp at h15; omega
  subst h15
  refine bg (be (aY (bf (aa (ae (ac (zM rfl (zY rfl (aa (am ?_))))))))))
  refine cY (rt := ak .i64) 70 4 (b8 70 _) rfl rfl (by simp) (bl 70 _) (bC 70 _) ?_
  exact z1 results124 rfl (congrArg (SV.tv (ab (ak .i64))) (by rw [List.drop_zero, List.take_length]; exact hend.list w h0))
open Go.Eng
section
variable (dd : List (List Int)) (dst : List Int) (L start : Int)
end
section
variable {dd : List (List Int)} {dst : List Int} {L start : Int}
end
end Go.Proofs.YtehcaebnijlhgaaGreatDoor.C16
namespace Go.Proofs.YtehcaebnijlhgaaGreatDoor.C16
open Go.Eng
set_option maxRecDepth 100000
set_option maxHeartbeats 4000000
def rvK (dd : List (List Int)) (n k : Nat) (l : List Int) : List (List Int) :=
  (List.range n).map (fun (x : Nat) => ((List.range k).filter (fun (d : Nat) => decide ((x : Int) ∈ rw dd (d : Int)))).map (fun (d : Nat) => (d : Int)) ++ (if (x : Int) ∈ l then [(k : Int)] else []))
def rvs (n : Nat) (dd : List (List Int)) : List (List Int) := rvK dd n n []
theorem gV (dd : List (List Int)) (n k : Nat) (l : List Int) : (rvK dd n k l).length = n := by simp [rvK]
theorem pN {dd : List (List Int)} {n k : Nat} {l : List Int} {x : Nat} (h : x < n) : (rvK dd n k l)[x]? = some (((List.range k).filter (fun (d : Nat) => decide ((x : Int) ∈ rw dd (d : Int)))).map (fun (d : Nat) => (d : Int)) ++ (if (x : Int) ∈ l then [(k : Int)] else [])) := by simp [rvK, h]
theorem tg (dd : List (List Int)) (n : Nat) : rvK dd n 0 [] = List.replicate n [] := by
  apply List.ext_getElem?; intro y
  rw [List.getElem?_replicate]
  by_cases hy : y < n
  · rw [pN hy, if_pos hy]; simp
  rw [List.getElem?_eq_none (by rw [gV]; omega), if_neg hy]
theorem yG {dd : List (List Int)} {n k : Nat} {l : List Int} {e : Int} (h0 : 0 ≤ e) (hn : e < n) (he : e ∉ l) : rvK dd n k (l ++ [e]) = (rvK dd n k l).set e.toNat ((rvK dd n k l).getD e.toNat [] ++ [(k : Int)]) := by
  have hx : e.toNat < n := by omega
  have hc : ((e.toNat : Nat) : Int) = e := by omega
  rw [List.getD_eq_getElem?_getD, pN hx, Option.getD_some, hc, if_neg he, List.append_nil]
  conv => lhs; unfold rvK
  rw [jM (x := e.toNat) (f := fun (x : Nat) => ((List.range k).filter (fun (d : Nat) => decide ((x : Int) ∈ rw dd (d : Int)))).map (fun (d : Nat) => (d : Int)) ++ (if (x : Int) ∈ l then [(k : Int)] else [])) hx (fun y _ hy => ?_)]
  · rw [hc, if_pos (by simp)]; rfl
  have hne : (y : Int) ≠ e := fun q => hy zo
  congr 1
  by_cases q : (y : Int) ∈ l
  · rw [if_pos q, if_pos (by simp [q])]
  rw [if_neg q, if_neg (by simp [q, hne])]
theorem tj (dd : List (List Int)) (n k : Nat) : rvK dd n k (rw dd (k : Int)) = rvK dd n (k + 1) [] := by
  unfold rvK
  refine List.map_congr_left fun x _ => ?_
  rw [List.range_succ, List.filter_append, List.map_append]
  by_cases q : (x : Int) ∈ rw dd (k : Int)
  · simp [q]
  simp [q]
theorem yF {n : Nat} {dd : List (List Int)} {x : Int} (h0 : 0 ≤ x) (hn : x < n) : rw (rvs n dd) x = ((List.range n).filter (fun (d : Nat) => decide (x ∈ rw dd (d : Int)))).map (fun (d : Nat) => (d : Int)) := by
  unfold rw rvs
  rw [List.getD_eq_getElem?_getD, pN zo, Option.getD_some, show ((x.toNat : Nat) : Int) = x by omega]
  simp [rw]
theorem rN {n : Nat} {dd : List (List Int)} {x d : Int} (h0 : 0 ≤ x) (hn : x < n) : d ∈ rw (rvs n dd) x ↔ (0 ≤ d ∧ d < n ∧ x ∈ rw dd d) := by
  rw [yF h0 hn, List.mem_map]
  constructor
  · rintro ⟨k, hk, rfl⟩
    obtain ⟨h1, h2⟩ := List.mem_filter.1 hk
    have := List.mem_range.1 h1
    exact ⟨by omega, by omega, by simpa using h2⟩
  rintro ⟨h1, h2, h3⟩
  exact ⟨d.toNat, List.mem_filter.2 ⟨List.mem_range.2 zo, by rw [show ((d.toNat : Nat) : Int) = d by omega]; simpa using h3⟩, by omega⟩
theorem rL {n : Nat} {dd : List (List Int)} (hl : dd.length = n) {x : Int} (h : ¬ x.toNat < n) : rw dd x = [] := by unfold rw; rw [List.getD_eq_getElem?_getD, List.getElem?_eq_none zo]; rfl
theorem rM (dd : List (List Int)) (x : Int) : rw dd x = rw dd ((x.toNat : Nat) : Int) := by unfold rw; rw [Int.toNat_natCast]
theorem rvs_wf {n : Nat} (dd : List (List Int)) : WFd n (rvs n dd) := by
  refine ⟨gV _ _ _ _, fun x e he => ?_, fun x => ?_⟩
  · by_cases hx : x.toNat < n
    · rw [rM, rN zo zo] at he; exact ⟨he.1, he.2.1⟩
    rw [rL (dd := rvs n dd) (gV _ _ _ _) hx] at he; cases he
  by_cases hx : x.toNat < n
  · rw [rM, yF zo zo]
    exact oW ((rJ n).sublist List.filter_sublist)
  rw [rL (dd := rvs n dd) (gV _ _ _ _) hx]; exact .nil
section
variable (n : Nat) (dd : List (List Int))
end
end Go.Proofs.YtehcaebnijlhgaaGreatDoor.C16
namespace Go.Proofs.YtehcaebnijlhgaaGreatDoor.C16
open Go.Eng
set_option maxRecDepth 100000
set_option maxHeartbeats 4000000
theorem wT (s : ba) {x : Int} (h0 : 0 ≤ x) (hn : x < scN s) : rw (iu s) x = mb s x := by
  unfold rw iu
  rw [List.getD_eq_getElem?_getD, List.getElem?_map, List.getElem?_range zo]
  simp [show ((x.toNat : Nat) : Int) = x by omega, h0]
theorem A1 {s : ba} {x e : Int} (h : e ∈ mb s x) : 0 ≤ e ∧ e < scN s := by
  unfold mb at h
  split at h
  · rw [(eu _).2] at h
    unfold dQ at h
    rw [List.mem_flatMap] at h
    obtain ⟨r, _, hr⟩ := h
    unfold rdf at hr
    rw [List.mem_append] at hr
    rcases hr with hr | hr <;> (have := (List.mem_filter.1 hr).2; simp [inN] at this; exact this)
  cases h
theorem un (s : ba) (x : Int) : (mb s x).Pairwise (· < ·) := by
  unfold mb; split
  · exact (eu _).1
  exact .nil
theorem wS (s : ba) : WFd (scN s) (iu s) := by
  have hl : (iu s).length = scN s := by simp [iu]
  refine ⟨hl, fun x e he => ?_, fun x => ?_⟩
  · by_cases hx : x.toNat < scN s
    · rw [rM, wT s zo zo] at he; exact A1 he
    rw [rL hl hx] at he; cases he
  by_cases hx : x.toNat < scN s
  · rw [rM, wT s zo zo]; exact un _ _
  rw [rL hl hx]; exact .nil
theorem pZ {l : List Int} (h : l.Pairwise (· < ·)) {j : Nat} (hj : j < l.length) : l[j] ∉ l.take j := fun hm => by
  obtain ⟨i, hi, e⟩ := List.mem_iff_getElem.1 hm
  simp at hi e
  have := List.pairwise_iff_getElem.1 h i j zo hj zo
  omega
theorem yH {dd : List (List Int)} {n k : Nat} {l : List Int} {x : Nat} (h : x < n) : ((rvK dd n k l).getD x []).length ≤ k + 1 := by
  rw [List.getD_eq_getElem?_getD, pN h, Option.getD_some, List.length_append, List.length_map]
  have := List.length_filter_le (fun (d : Nat) => decide ((x : Int) ∈ rw dd (d : Int))) (List.range k)
  simp only [List.length_range] at this
  split <;> simp <;> omega
theorem yq (R : List Int) (a : Int) : ((R.drop 0).take R.length ++ [a]).take (R.length + [a].length) = R ++ [a] := by rw [List.drop_zero, List.take_length]; exact List.take_of_length_le (by simp)
theorem vF {dd : List (List Int)} {n k : Nat} {l : List Int} {x : Nat} (h : x < n) : (rvK dd n k l)[x]? = some ((rvK dd n k l).getD x []) := by
  rw [List.getD_eq_getElem?_getD, pN h]; rfl
def tw (dd : List (List Int)) (out : List Int) (x : Int) : Bool := decide (x ∉ out) && (rw dd x).all (fun e => decide (e ∈ out))
def nxt (n : Nat) (dd : List (List Int)) (out : List Int) : Option Int := ((List.range n).map (fun (k : Nat) => (k : Int))).find? (tw dd out)
def l9 (n : Nat) (dd : List (List Int)) : Nat → List Int
  | 0 => []
  | k + 1 => match nxt n dd (l9 n dd k) with | some d => l9 n dd k ++ [d] | none => l9 n dd k
def mq (n : Nat) (dd : List (List Int)) : List Int × Int := if (l9 n dd n).length < n then ([], 9) else (l9 n dd n, 0)
theorem mL {dd : List (List Int)} {out : List Int} {x : Int} : tw dd out x = true ↔ x ∉ out ∧ ∀ e ∈ rw dd x, e ∈ out := by
  unfold tw; simp
theorem j3 {n : Nat} {x : Int} : x ∈ (List.range n).map (fun (k : Nat) => (k : Int)) ↔ 0 ≤ x ∧ x < n := by
  rw [List.mem_map]
  constructor
  · rintro ⟨k, h, rfl⟩; have := List.mem_range.1 h; omega
  rintro ⟨h1, h2⟩; exact ⟨x.toNat, List.mem_range.2 zo, by omega⟩
theorem pz {n i : Nat} (h : i < ((List.range n).map (fun (k : Nat) => (k : Int))).length) : ((List.range n).map (fun (k : Nat) => (k : Int)))[i] = (i : Int) := by simp
theorem tG {n : Nat} {dd : List (List Int)} {out : List Int} {d : Int} : nxt n dd out = some d ↔ (0 ≤ d ∧ d < n ∧ tw dd out d = true ∧ ∀ x : Int, 0 ≤ x → x < d → tw dd out x = false) := by
  unfold nxt
  rw [List.find?_eq_some_iff_getElem]
  constructor
  · rintro ⟨h1, i, hi, h2, h3⟩
    rw [pz] at h2
    have hin : i < n := by simpa using hi
    refine ⟨by omega, by omega, h1, fun x hx hxd => ?_⟩
    have := h3 x.toNat zo
    rw [pz] at this
    rw [show ((x.toNat : Nat) : Int) = x by omega] at this
    simpa using this
  rintro ⟨h0, h1, h2, h3⟩
  refine ⟨h2, d.toNat, by simp; omega, by rw [pz]; omega, fun j hj => ?_⟩
  rw [pz, h3 (j : Int) zo zo]; rfl
theorem y7 {n : Nat} {dd : List (List Int)} {out : List Int} : nxt n dd out = none ↔ ∀ x : Int, 0 ≤ x → x < n → tw dd out x = false := by
  unfold nxt
  rw [List.find?_eq_none]
  constructor
  · intro h x h0 h1
    have := h x (j3.2 ⟨h0, h1⟩)
    simpa using this
  intro h x hx
  obtain ⟨h0, h1⟩ := j3.1 hx
  rw [h x h0 h1]; simp
structure OK (n : Nat) (dd : List (List Int)) (out : List Int) : Prop where
  nd : out.Nodup
  rng : ∀ x ∈ out, 0 ≤ x ∧ x < n
  cls : ∀ x ∈ out, ∀ e ∈ rw dd x, e ∈ out
theorem OK.nil (n : Nat) (dd : List (List Int)) : OK n dd [] := ⟨.nil, fun x h => (by cases h), fun x h => (by cases h)⟩
theorem OK.add {n : Nat} {dd : List (List Int)} {out : List Int} (h : OK n dd out) {d : Int} (hd : nxt n dd out = some d) : OK n dd (out ++ [d]) := by
  obtain ⟨h0, h1, h2, _⟩ := tG.1 hd
  obtain ⟨g1, g2⟩ := mL.1 h2
  refine ⟨?_, fun x hx => ?_, fun x hx e he => ?_⟩
  · rw [List.nodup_append]
    exact ⟨h.nd, by simp, fun a ha b hb => by simp at hb; subst hb; intro e; subst e; exact g1 ha⟩
  · rcases List.mem_append.1 hx with q | q
    · exact h.rng x q
    simp at q; subst q; exact ⟨h0, h1⟩
  rcases List.mem_append.1 hx with q | q
  · exact List.mem_append_left _ (h.cls x q e he)
  simp at q; subst q; exact List.mem_append_left _ (g2 e he)
theorem pf (n : Nat) (dd : List (List Int)) : ∀ k, OK n dd (l9 n dd k)
  | 0 => OK.nil n dd
  | k + 1 => by
    rw [l9]
    cases h : nxt n dd (l9 n dd k) with
    | none => exact pf n dd k
    | some d => exact (pf n dd k).add h
theorem OK.len {n : Nat} {dd : List (List Int)} {out : List Int} (h : OK n dd out) : out.length ≤ n := by
  have := h.nd.length_le_of_subset (l₂ := (List.range n).map (fun (k : Nat) => (k : Int))) (fun x hx => j3.2 (h.rng x hx))
  simpa using this
theorem xa {n : Nat} {dd : List (List Int)} {k : Nat} (h : nxt n dd (l9 n dd k) = none) : ∀ m, k ≤ m → l9 n dd m = l9 n dd k := by
  intro m hm
  induction m with
  | zero => have : k = 0 := by omega
            subst this; rfl
  | succ m ih =>
    by_cases e : k = m + 1
    · subst e; rfl
    have h1 := ih zo
    rw [l9, h1, h]
def mz (out l : List Int) : Nat := (l.filter (fun e => decide (e ∉ out))).length
theorem l7 {out l : List Int} : mz out l = 0 ↔ ∀ e ∈ l, e ∈ out := by
  unfold mz
  rw [List.length_eq_zero_iff, List.filter_eq_nil_iff]
  simp
theorem ut (l : List Int) : mz [] l = l.length := by unfold mz; simp
theorem CF (out l : List Int) : mz out l ≤ l.length := List.length_filter_le _ _
theorem Bf {out : List Int} {d : Int} (hd : d ∉ out) : ∀ {l : List Int}, l.Pairwise (· < ·) → mz out l = mz (out ++ [d]) l + (if d ∈ l then 1 else 0) := by
  intro l
  induction l with
  | nil => intro _; rfl
  | cons e r ih =>
    intro hp
    rw [List.pairwise_cons] at hp
    have h1 := ih hp.2
    unfold mz at h1 ⊢
    by_cases e1 : e = d
    · subst e1
      have hn : e ∉ r := fun q => by have := hp.1 e q; omega
      rw [if_neg hn] at h1
      simp [hd]
      simpa using h1
    have e2 : ¬ d = e := fun q => e1 q.symm
    by_cases q : e ∈ out
    · simp [q, e2]; simpa using h1
    simp [q, e1, e2]
    simp at h1
    omega
def wv (W : List Int) (u : Int) : Int := W.getD u.toNat 0
theorem yd {W : List Int} {u : Int} (h : u.toNat < W.length) : W[0 + u.toNat]? = some (wv W u) := by simp [wv, h]
theorem uz {W : List Int} {e z v : Int} (he : 0 ≤ e) (hz : 0 ≤ z) (h : e.toNat < W.length) : wv (W.set e.toNat v) z = if z = e then v else wv W z := by
  unfold wv
  by_cases e1 : z = e
  · subst e1; simp [h]
  rw [if_neg e1, List.getD_eq_getElem?_getD, List.getElem?_set_ne zo, ← List.getD_eq_getElem?_getD]
structure K0 (n : Nat) (dd : List (List Int)) (k : Nat) (W H : List Int) : Prop where
  len : W.length = n
  wt : ∀ u : Int, 0 ≤ u → u < k → wv W u = (((rw dd u).length : Nat) : Int)
  hp : ∀ x, x ∈ H ↔ (0 ≤ x ∧ x < k ∧ rw dd x = [])
  nd : H.Nodup
theorem K0.start (n : Nat) (dd : List (List Int)) : K0 n dd 0 (List.replicate n 0) [] := ⟨by simp, fun u h0 h1 => by omega, fun x => by simp; omega, .nil⟩
theorem K0.hlen {n : Nat} {dd : List (List Int)} {k : Nat} {W H : List Int} (h : K0 n dd k W H) : H.length ≤ k := by
  have := h.nd.length_le_of_subset (l₂ := (List.range k).map (fun (k : Nat) => (k : Int))) (fun x hx => j3.2 ⟨((h.hp x).1 hx).1, ((h.hp x).1 hx).2.1⟩)
  simpa using this
theorem K0.next {n : Nat} {dd : List (List Int)} {k : Nat} {W H : List Int} (h : K0 n dd k W H) (hk : k < n) (hr : rw dd (k : Int) ≠ []) : K0 n dd (k + 1) (W.set k (((rw dd (k : Int)).length : Nat) : Int)) H := by
  have hs : ∀ u : Int, 0 ≤ u → wv (W.set k (((rw dd (k : Int)).length : Nat) : Int)) u = if u = (k : Int) then (((rw dd (k : Int)).length : Nat) : Int) else wv W u := fun u hu => by
    have := uz (W := W) (e := (k : Int)) (z := u) (v := (((rw dd (k : Int)).length : Nat) : Int)) zo hu (by rw [Int.toNat_natCast, h.len]; exact hk)
    rwa [Int.toNat_natCast] at this
  refine ⟨by simp [h.len], fun u h0 h1 => ?_, fun x => ?_, h.nd⟩
  · rw [hs u h0]
    split
    · rename_i e; subst e; rfl
    exact h.wt u h0 zo
  rw [h.hp]
  constructor
  · rintro ⟨a, b, c⟩; exact ⟨a, by omega, c⟩
  rintro ⟨a, b, c⟩
  refine ⟨a, ?_, c⟩
  by_cases e : x = (k : Int)
  · subst e; exact absurd c hr
  omega
theorem K0.push {n : Nat} {dd : List (List Int)} {k : Nat} {W H H2 : List Int} (h : K0 n dd k W H) (hk : k < n) (hr : rw dd (k : Int) = []) (hp : H2.Perm ((k : Int) :: H)) : K0 n dd (k + 1) (W.set k (((rw dd (k : Int)).length : Nat) : Int)) H2 := by
  have hs : ∀ u : Int, 0 ≤ u → wv (W.set k (((rw dd (k : Int)).length : Nat) : Int)) u = if u = (k : Int) then (((rw dd (k : Int)).length : Nat) : Int) else wv W u := fun u hu => by
    have := uz (W := W) (e := (k : Int)) (z := u) (v := (((rw dd (k : Int)).length : Nat) : Int)) zo hu (by rw [Int.toNat_natCast, h.len]; exact hk)
    rwa [Int.toNat_natCast] at this
  refine ⟨by simp [h.len], fun u h0 h1 => ?_, fun x => ?_, ?_⟩
  · rw [hs u h0]
    split
    · rename_i e; subst e; rfl
    exact h.wt u h0 zo
  · rw [hp.mem_iff, List.mem_cons, h.hp]
    constructor
    · rintro (rfl | ⟨a, b, c⟩)
      · exact ⟨by omega, by omega, hr⟩
      exact ⟨a, by omega, c⟩
    rintro ⟨a, b, c⟩
    by_cases e : x = (k : Int)
    · exact .inl e
    exact .inr ⟨a, by omega, c⟩
  refine hp.symm.nodup (List.nodup_cons.2 ⟨fun q => ?_, h.nd⟩)
  have := ((h.hp _).1 q).2.1; omega
structure KI (n : Nat) (dd : List (List Int)) (out W H : List Int) : Prop where
  ok : OK n dd out
  od : out = l9 n dd out.length
  len : W.length = n
  wt : ∀ u : Int, 0 ≤ u → u < n → wv W u = ((mz out (rw dd u) : Nat) : Int)
  hp : ∀ x, x ∈ H ↔ (0 ≤ x ∧ x < n ∧ x ∉ out ∧ mz out (rw dd x) = 0)
  nd : H.Nodup
theorem K0.done {n : Nat} {dd : List (List Int)} {W H : List Int} (h : K0 n dd n W H) : KI n dd [] W H := by
  refine ⟨OK.nil n dd, rfl, h.len, fun u h0 h1 => by rw [h.wt u h0 h1, ut], fun x => ?_, h.nd⟩
  rw [h.hp, ut, List.length_eq_zero_iff]
  simp
theorem KI.hlen {n : Nat} {dd : List (List Int)} {out W H : List Int} (h : KI n dd out W H) : H.length + out.length ≤ n := by
  have hnd : (H ++ out).Nodup := by
    rw [List.nodup_append]
    exact ⟨h.nd, h.ok.nd, fun a ha b hb e => by subst e; exact ((h.hp a).1 ha).2.2.1 hb⟩
  have := hnd.length_le_of_subset (l₂ := (List.range n).map (fun (k : Nat) => (k : Int))) (fun x hx => j3.2 (by
    rcases List.mem_append.1 hx with q | q
    · exact ⟨((h.hp x).1 q).1, ((h.hp x).1 q).2.1⟩
    exact h.ok.rng x q))
  simpa using this
structure KJ (n : Nat) (dd : List (List Int)) (out : List Int) (d : Int) (W H S : List Int) : Prop where
  ok : OK n dd out
  od : out = l9 n dd out.length
  len : W.length = n
  nu : ∀ u : Int, d ∈ rw dd u → u ∉ out
  wt : ∀ u : Int, 0 ≤ u → u < n → wv W u = ((mz out (rw dd u) : Nat) : Int) + (if d ∈ rw dd u ∧ u ∉ S then 1 else 0)
  hp : ∀ x, x ∈ H ↔ (0 ≤ x ∧ x < n ∧ x ∉ out ∧ mz out (rw dd x) = 0 ∧ (d ∉ rw dd x ∨ x ∈ S))
  nd : H.Nodup
theorem KI.next {n : Nat} {dd : List (List Int)} {out W H : List Int} (h : KI n dd out W H) {d : Int} (hd : d ∈ H) (hm : ∀ x ∈ H, d ≤ x) : nxt n dd out = some d := by
  obtain ⟨h0, h1, h2, h3⟩ := (h.hp d).1 hd
  refine tG.2 ⟨h0, h1, mL.2 ⟨h2, l7.1 h3⟩, fun x hx hxd => ?_⟩
  cases e : tw dd out x with
  | false => rfl
  | true =>
    obtain ⟨q1, q2⟩ := mL.1 e
    have := hm x ((h.hp x).2 ⟨hx, by omega, q1, l7.2 q2⟩)
    omega
theorem KI.stop {n : Nat} {dd : List (List Int)} {out W : List Int} (h : KI n dd out W []) : nxt n dd out = none := by
  refine y7.2 fun x hx hxn => ?_
  cases e : tw dd out x with
  | false => rfl
  | true =>
    obtain ⟨q1, q2⟩ := mL.1 e
    have := (h.hp x).2 ⟨hx, hxn, q1, l7.2 q2⟩
    cases this
theorem KI.pop {n : Nat} {dd : List (List Int)} {out W H H' : List Int} {d : Int} (w : WFd n dd) (h : KI n dd out W H) (hp : H.Perm (d :: H')) (hm : ∀ x ∈ H, d ≤ x) : KJ n dd (out ++ [d]) d W H' [] := by
  have hd : d ∈ H := hp.mem_iff.2 (by simp)
  have hnx := h.next hd hm
  obtain ⟨h0, h1, h2, h3⟩ := (h.hp d).1 hd
  have hnd := hp.nodup h.nd
  rw [List.nodup_cons] at hnd
  have hadd : ∀ u, mz out (rw dd u) = mz (out ++ [d]) (rw dd u) + (if d ∈ rw dd u then 1 else 0) := fun u => Bf h2 (w.srt u)
  refine ⟨h.ok.add hnx, ?_, h.len, fun u hu hm' => ?_, fun u a b => ?_, fun x => ?_, hnd.2⟩
  · rw [List.length_append, List.length_singleton, l9, ← h.od, hnx]
  · rcases List.mem_append.1 hm' with q | q
    · exact h2 (h.ok.cls u q d hu)
    simp at q; subst q
    exact h2 ((l7.1 h3) u hu)
  · rw [h.wt u a b, hadd u]
    by_cases e : d ∈ rw dd u <;> simp [e]
  have hx : x ∈ H' ↔ x ∈ H ∧ x ≠ d := by
    rw [hp.mem_iff, List.mem_cons]
    constructor
    · intro q; exact ⟨.inr q, fun e => by subst e; exact hnd.1 q⟩
    rintro ⟨q | q, r⟩
    · exact absurd q r
    exact q
  rw [hx, h.hp, hadd x]
  constructor
  · rintro ⟨⟨a, b, c, e⟩, f⟩
    refine ⟨a, b, by simp [c, f], by omega, .inl fun q => ?_⟩
    rw [if_pos q] at e; omega
  rintro ⟨a, b, c, e, f⟩
  simp at c f
  refine ⟨⟨a, b, c.1, ?_⟩, c.2⟩
  rw [if_neg f]; omega
theorem KJ.hlen {n : Nat} {dd : List (List Int)} {out W H S : List Int} {d : Int} (h : KJ n dd out d W H S) : H.length + out.length ≤ n := by
  have hnd : (H ++ out).Nodup := by
    rw [List.nodup_append]
    exact ⟨h.nd, h.ok.nd, fun a ha b hb e => by subst e; exact ((h.hp a).1 ha).2.2.1 hb⟩
  have := hnd.length_le_of_subset (l₂ := (List.range n).map (fun (k : Nat) => (k : Int))) (fun x hx => j3.2 (by
    rcases List.mem_append.1 hx with q | q
    · exact ⟨((h.hp x).1 q).1, ((h.hp x).1 q).2.1⟩
    exact h.ok.rng x q))
  simpa using this
theorem KJ.step {n : Nat} {dd : List (List Int)} {out W H H2 S : List Int} {d u : Int} (h : KJ n dd out d W H S) (hu0 : 0 ≤ u) (hun : u < n) (hd : d ∈ rw dd u) (hS : u ∉ S) (hp : if wv W u - 1 = 0 then H2.Perm (u :: H) else H2 = H) : KJ n dd out d (W.set u.toNat (wv W u - 1)) H2 (S ++ [u]) := by
  have hw := h.wt u hu0 hun
  rw [if_pos ⟨hd, hS⟩] at hw
  have hs : ∀ z, 0 ≤ z → wv (W.set u.toNat (wv W u - 1)) z = if z = u then wv W u - 1 else wv W z := fun z hz => uz hu0 hz (by rw [h.len]; omega)
  have hmem : ∀ x, x ∈ H2 ↔ (x ∈ H ∨ (x = u ∧ mz out (rw dd u) = 0)) := fun x => by
    split at hp
    · rw [hp.mem_iff, List.mem_cons]
      constructor
      · rintro (q | q)
        · exact .inr ⟨q, by omega⟩
        exact .inl q
      rintro (q | q)
      · exact .inr q
      exact .inl q.1
    rw [hp]
    constructor
    · exact .inl
    rintro (q | ⟨_, q⟩)
    · exact q
    omega
  refine ⟨h.ok, h.od, by simp [h.len], h.nu, fun z a b => ?_, fun x => ?_, ?_⟩
  · rw [hs z a]
    by_cases e : z = u
    · subst e; rw [if_pos rfl, hw, if_neg (by simp)]; omega
    rw [if_neg e, h.wt z a b]
    have : (d ∈ rw dd z ∧ z ∉ S ++ [u]) ↔ (d ∈ rw dd z ∧ z ∉ S) := by simp [e]
    by_cases q : d ∈ rw dd z ∧ z ∉ S
    · rw [if_pos q, if_pos (this.2 q)]
    rw [if_neg q, if_neg (fun r => q (this.1 r))]
  · rw [hmem, h.hp]
    by_cases e : x = u
    · subst e
      constructor
      · rintro (⟨a, b, c, f, g⟩ | ⟨_, g⟩)
        · exact ⟨a, b, c, f, .inr (by simp)⟩
        exact ⟨hu0, hun, h.nu x hd, g, .inr (by simp)⟩
      rintro ⟨a, b, c, f, g⟩; exact .inr ⟨rfl, f⟩
    constructor
    · rintro (⟨a, b, c, f, g⟩ | ⟨g, _⟩)
      · exact ⟨a, b, c, f, g.imp id (fun q => List.mem_append_left _ q)⟩
      exact absurd g e
    rintro ⟨a, b, c, f, g⟩
    refine .inl ⟨a, b, c, f, g.imp id (fun q => ?_)⟩
    rcases List.mem_append.1 q with r | r
    · exact r
    simp at r; exact absurd r e
  split at hp
  · refine hp.symm.nodup (List.nodup_cons.2 ⟨fun q => ?_, h.nd⟩)
    have := ((h.hp u).1 q).2.2.2.2
    exact this.elim (fun r => r hd) hS
  rw [hp]; exact h.nd
theorem KJ.done {n : Nat} {dd : List (List Int)} {out W H S : List Int} {d : Int} (h : KJ n dd out d W H S) (hS : ∀ u : Int, 0 ≤ u → u < n → d ∈ rw dd u → u ∈ S) : KI n dd out W H := by
  refine ⟨h.ok, h.od, h.len, fun u a b => ?_, fun x => ?_, h.nd⟩
  · rw [h.wt u a b, if_neg (fun q => q.2 (hS u a b q.1))]; omega
  rw [h.hp]
  constructor
  · rintro ⟨a, b, c, e, _⟩; exact ⟨a, b, c, e⟩
  rintro ⟨a, b, c, e⟩
  refine ⟨a, b, c, e, ?_⟩
  by_cases q : d ∈ rw dd x
  · exact .inr (hS x a b q)
  exact .inl q
theorem KI.fin {n : Nat} {dd : List (List Int)} {out W : List Int} (h : KI n dd out W []) : out = l9 n dd n := by
  have h1 := h.stop
  rw [h.od] at h1
  rw [xa h1 n (h.ok.len)]
  exact h.od
end Go.Proofs.YtehcaebnijlhgaaGreatDoor.C16
