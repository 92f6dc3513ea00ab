import Derived.RangeFuncNested
import Derived.RangeFuncBound
import Derived.RangeFuncBox
import Derived.RangeFuncCalls
import Derived.RangeFuncLeaves
import Derived.Shelf.Abstract
import Derived.Shelf.RegionOpen
import Derived.WalkKit
import Derived.OwnWalkIn
import Derived.TacticsInMore
import Derived.LoopNIn
import Derived.LoopIn
import Derived.Test.YtmpgmhcbhkhakaaP37c
namespace Go.Proofs.Ytmpgmhcbhkhakaa
open Go.RowKit Go.Shelf Go.Eng
attribute [local go_sem] Oper.semAt_some
set_option maxRecDepth 100000
set_option linter.unusedVariables false
set_option linter.unusedSimpArgs false
theorem W_wrap (n : Int) : W64 n = wrap64 n := by simp [W64, IntKind.wrap, IntKind.signed, IntKind.bits, wrap64]; omega
def encP (p : Po) : Value := .agg #[.int .i64 p.1, .int .i64 p.2.1, .int .i64 p.2.2.1, .int .i64 p.2.2.2]
def ofk (kd : Int) (ps : List Po) : List Po := ps.filter fun p => p.2.2.1 == kd
/-- the postings lie in memory from o on -/
def PoAt (W : World) (b o : Nat) (ps : List Po) : Prop := ∀ (i : Nat) (p : Po), ps[i]? = some p → W.cell? ⟨b, o + i * 4, none⟩ = some (.int .i64 p.1) ∧ W.cell? ⟨b, o + i * 4 + 1, none⟩ = some (.int .i64 p.2.1) ∧ W.cell? ⟨b, o + i * 4 + 2, none⟩ = some (.int .i64 p.2.2.1) ∧ W.cell? ⟨b, o + i * 4 + 3, none⟩ = some (.int .i64 p.2.2.2)
theorem ofk_t {kd : Int} {ps : List Po} {k : Nat} {p : Po} (h : ps[k]? = some p) (hk : p.2.2.1 = kd) : ofk kd (ps.take (k + 1)) = ofk kd (ps.take k) ++ [p] := by
  obtain ⟨h1, rfl⟩ := List.getElem?_eq_some_iff.1 h
  unfold ofk; rw [← List.take_append_getElem h1, List.filter_append]; simp [hk]
theorem ofk_f {kd : Int} {ps : List Po} {k : Nat} {p : Po} (h : ps[k]? = some p) (hk : ¬ p.2.2.1 = kd) : ofk kd (ps.take (k + 1)) = ofk kd (ps.take k) := by
  obtain ⟨h1, rfl⟩ := List.getElem?_eq_some_iff.1 h
  unfold ofk; rw [← List.take_append_getElem h1, List.filter_append]; simp [hk]
theorem ofk_len {kd : Int} {ps : List Po} {k : Nat} : (ofk kd (ps.take k)).length ≤ k := by
  unfold ofk; have := List.length_filter_le (fun p : Po => p.2.2.1 == kd) (ps.take k); simp at this; omega
theorem _root_.Go.AbidesFrom.alloc0 {β : Type} {B : Nat} {J : β → World → Prop} (h : AbidesFrom B J) {s : β} {W : World} (hs : J s W) (o : Obj) : J s (W.alloc o) := h s W _ none hs (World.grownBy_alloc W o none) (fun r e => by cases e)
/-- what a round keeps -/
def Kp37 (n₀ Bk : Nat) (A B : World) : Prop := Below n₀ A B ∧ B.heap[Bk]? = A.heap[Bk]?


set_option maxHeartbeats 4000000 in
theorem ofk1_in (F : Fence) (n : Nat) (h26 : F.fn 26) (hro : F.round = none) (hn : 1 ≤ n) (l Bl Bk n₀ b off cap : Nat) (kd : Int) (ps : List Po) (A : Option Addr) (hA : ps ≠ [] → A = some ⟨b, off, none⟩) (hlen : ps.length ≤ 9223372036854775807) (hb : ps ≠ [] → b < n₀) (J Jx : List Po → World → Prop)
    (hY : ∀ pre x W, J pre W → pre.length < ps.length → YieldAt F (n - 1) Try.prog l #[encP x] W fun e W' =>
      (e = .returned (.bool true) ∧ J (pre ++ [x]) W' ∧ Kp37 n₀ Bk W W') ∨ (e = .returned (.bool false) ∧ Jx (pre ++ [x]) W'))
    (W : World) (hJ : AbidesFrom W.heap.size J) (hn0 : n₀ ≤ W.heap.size) (hBl : W.cell? ⟨Bl, 0, none⟩ = some (.slice A ps.length cap)) (hBk : Boxed W Bk 3 (.int .i64 kd)) (hc : PoAt W b off ps) (h0 : J [] W) :
    CallsIn F n Try.prog 26 #[.func (.yield l) #[] #[], .pointer (some ⟨Bl, 0, none⟩), .pointer (some ⟨Bk, 0, none⟩)] W fun e W' => (∃ v, e = .returned v) ∧
      ((∃ ys, ys = ofk kd ps ∧ J ys W') ∨ (∃ pre, True ∧ Jx pre W')) := by
  refine callsIn_of_wp Try.func26 rfl h26 ?_ hro
  simp only [Try.ntmps26, List.size_toArray, List.length_cons, List.length_nil, Nat.reduceAdd, Nat.reduceSub, Array.replicate_succ, Array.replicate_zero, List.push_toArray, List.append_toArray, List.nil_append, List.cons_append]
  gi_wp2
  gi_loopw [8] (fun i wr => ∃ k : Nat, k ≤ ps.length ∧ i = .int .i64 k ∧ J (ofk kd (ps.take k)) wr ∧ Below n₀ W wr ∧ Boxed wr Bk 3 (.int .i64 kd) ∧ W.heap.size ≤ wr.heap.size)
    (fun i _ => ps.length - (intOf i).toNat)
  case atStart => exact ⟨0, Nat.zero_le _, rfl, h0, Below.refl _ _, hBk, Nat.le_refl _⟩
  case round =>
    obtain ⟨k, hk, rfl, hJs, hnx, hbk, hsz⟩ := hrel
    by_cases hlt : k < ps.length
    · obtain ⟨p, hp⟩ : ∃ p, ps[k]? = some p := ⟨_, List.getElem?_eq_getElem hlt⟩
      obtain ⟨c0, c1, c2, c3⟩ := hc k p hp
      have hne : ps ≠ [] := by rintro rfl; simp at hlt
      have hb := hb hne
      obtain rfl := hA hne
      have hw64 : wrap64 ((k : Int) + 1) = (k : Int) + 1 := by unfold wrap64; omega
      have d0 := (hnx.cell (p := ⟨b, off + k * 4, none⟩) hb).trans c0
      have d1 := (hnx.cell (p := ⟨b, off + k * 4 + 1, none⟩) hb).trans c1
      have d2 := (hnx.cell (p := ⟨b, off + k * 4 + 2, none⟩) hb).trans c2
      have d3 := (hnx.cell (p := ⟨b, off + k * 4 + 3, none⟩) hb).trans c3
      have hkc : ∀ o, (wr.alloc o).cell? ⟨Bk, 0, none⟩ = some (.int .i64 kd) := fun o => (hbk.alloc o).cell
      have hn0' : n₀ ≤ wr.heap.size := Nat.le_trans hn0 hsz
      have hJa := hJ.alloc0 hJs
      by_cases hkd : p.2.2.1 = kd
      · subst hkd
        obtain ⟨fn, tmps, assign, body, hy, hR⟩ := hY _ p _ (hJa (.cells #[.int .i64 p.1, .int .i64 p.2.1, .int .i64 p.2.2.1, .int .i64 p.2.2.2] 37)) (by have := ofk_len (kd := p.2.2.1) (ps := ps) (k := k); omega)
        dsimp only [encP] at hy
        gi_wp2
        refine hR.mono ?_
        rintro e W3 (⟨rfl, hJ3, hk3⟩ | ⟨rfl, hJx3⟩)
        · gi_wp2
          go_roundw
          case rel => exact ⟨k + 1, by omega, by simp [hw64], by rw [ofk_t hp rfl]; exact hJ3, (hnx.alloc hn0' _).trans hk3.1, hk3.2.trans (hbk.alloc _), by have := hk3.1.size; simp at this; omega⟩
          case measure => simp [intOf, hw64]; omega
        · gi_wp2
          refine bodyPost_ret (results_none rfl _ _ _) rfl ?_
          exact ⟨⟨_, rfl⟩, .inr ⟨_, trivial, hJx3⟩⟩
      · have hkb : (p.2.2.1 == kd) = false := by simpa using hkd
        gi_wp2
        refine ⟨fun _ h => (by cases h), ?_⟩
        gi_wp2
        go_roundw
        case rel => exact ⟨k + 1, by omega, by simp [hw64], by rw [ofk_f hp hkd]; exact hJa _, hnx.alloc hn0' _, hbk.alloc _, by simp; omega⟩
        case measure => simp [intOf, hw64]; omega
    · obtain rfl : k = ps.length := by omega
      gi_wp2
      go_end0
      exact ⟨⟨_, rfl⟩, .inl ⟨_, by rw [List.take_of_length_le (Nat.le_refl _)], hJs⟩⟩


theorem ofkind_in (F : Fence) (n : Nat) (h : F.fn 21) (hro : F.round = none) (A : Option Addr) (len cap : Nat) (kd : Int) (w : World) :
    CallsIn F n Try.prog 21 #[.slice A len cap, .int .i64 kd] w fun e w' => e = .returned (.func (.func 26) #[] #[.pointer (some ⟨w.heap.size, 0, none⟩), .pointer (some ⟨w.heap.size + 1, 0, none⟩)]) ∧ w' = (w.alloc (.cells #[.slice A len cap] 22)).alloc (.cells #[.int .i64 kd] 3) := by
  refine callsIn_of_wp Try.func21 rfl h ?_ hro
  simp only [Try.ntmps21, List.size_toArray, List.length_cons, List.length_nil, Nat.reduceAdd, Nat.reduceSub, Array.replicate_succ, Array.replicate_zero, List.push_toArray, List.append_toArray, List.nil_append, List.cons_append]
  gi_wp2
  go_ret
  exact ⟨rfl, rfl⟩
theorem PoAt.below {W W' : World} {b o n₀ : Nat} {ps : List Po} (h : PoAt W b o ps) (hb : ps ≠ [] → b < n₀) (hB : Below n₀ W W') : PoAt W' b o ps := fun i p hi =>
  have hb := hb (by rintro rfl; simp at hi)
  let ⟨c0, c1, c2, c3⟩ := h i p hi
  ⟨(hB.cell (p := ⟨b, o + i * 4, none⟩) hb).trans c0, (hB.cell (p := ⟨b, o + i * 4 + 1, none⟩) hb).trans c1, (hB.cell (p := ⟨b, o + i * 4 + 2, none⟩) hb).trans c2, (hB.cell (p := ⟨b, o + i * 4 + 3, none⟩) hb).trans c3⟩
theorem ofk_stops (F : Fence) (n : Nat) (h26 : F.fn 26) (hro : F.round = none) (hn : 1 ≤ n) (Bl Bk n₀ b off cap : Nat) (kd : Int) (ps : List Po) (A : Option Addr) (hA : ps ≠ [] → A = some ⟨b, off, none⟩) (hlen : ps.length ≤ 9223372036854775807) (hb : ps ≠ [] → b < n₀) (w : World)
    (hBl : Bl < w.heap.size) (hn0 : n₀ ≤ w.heap.size) (hcl : w.cell? ⟨Bl, 0, none⟩ = some (.slice A ps.length cap)) (hBk : Boxed w Bk 3 (.int .i64 kd)) (hc : PoAt w b off ps) :
    SeqStopsK F n Try.prog 26 #[.pointer (some ⟨Bl, 0, none⟩), .pointer (some ⟨Bk, 0, none⟩)] (fun x : Po => #[encP x]) (Kp37 n₀ Bk) (fun ys => ys = ofk kd ps) (fun _ => True) ps.length w := fun l J Jx W hW hJ _ hY h0 =>
  ofk1_in F n h26 hro hn l Bl Bk n₀ b off cap kd ps A hA hlen hb J Jx hY W hJ (Nat.le_trans hn0 hW.size) ((hW.cell (p := ⟨Bl, 0, none⟩) hBl).trans hcl) ((hW.block Bk hBk.lt).trans hBk) (hc.below (fun h => Nat.lt_of_lt_of_le (hb h) hn0) hW) h0
theorem kp_t {n₀ Bk : Nat} {A B C : World} (h : Kp37 n₀ Bk A B) (k : Kp37 n₀ Bk B C) : Kp37 n₀ Bk A C := ⟨h.1.trans k.1, k.2.trans h.2⟩
theorem kp_b {n₀ Bk : Nat} {w : World} (hn : n₀ ≤ w.heap.size) (hk : Bk < w.heap.size) (W : World) (l : Nat) (o o' : Obj) (hl : w.heap.size ≤ l) (h : W.heap[l]? = some o) (h1 : o.isCells = false) (h2 : o.isWalk = false) : Kp37 n₀ Bk W (W.putObj l o') :=
  ⟨belowK_b hn W l o o' hl h h1 h2, World.putObj_heap_other (by omega)⟩
/-- a posting in a block of its own -/
def PBox (W : World) (B : Nat) (p : Po) : Prop := W.heap[B]? = some (.cells #[.int .i64 p.1, .int .i64 p.2.1, .int .i64 p.2.2.1, .int .i64 p.2.2.2] 37 (0, 0))
theorem PBox.cells {W : World} {B : Nat} {p : Po} (h : PBox W B p) : W.cell? ⟨B, 0, none⟩ = some (.int .i64 p.1) ∧ W.cell? ⟨B, 1, none⟩ = some (.int .i64 p.2.1) ∧ W.cell? ⟨B, 2, none⟩ = some (.int .i64 p.2.2.1) ∧ W.cell? ⟨B, 3, none⟩ = some (.int .i64 p.2.2.2) := by
  refine ⟨?_, ?_, ?_, ?_⟩ <;> simp [World.cell?, show W.heap[B]? = _ from h]
theorem PBox.own {B : Nat} {p : Po} : Own (fun (_ : Unit) W => PBox W B p) := fun s X Y row hs hg hrow =>
  (hg.block B (Array.getElem?_eq_some_iff.1 hs).1 (fun e' => by obtain ⟨o, ho, hc⟩ := hrow B e'.symm; rw [show X.heap[B]? = _ from hs] at ho; cases ho; cases hc)).trans hs
def sumM (m : Int) (ys : List Po) : Int := ys.foldl (fun s p => if p.2.1 = m then W64 (s + p.2.2.2) else s) 0
theorem sumM_snoc (m : Int) (ys : List Po) (x : Po) : sumM m (ys ++ [x]) = if x.2.1 = m then W64 (sumM m ys + x.2.2.2) else sumM m ys := by simp [sumM]
theorem waiv_ofk (l : List Po) (m : Int) : sumM m (ofk 4 l) = waivL l m := by
  unfold sumM waivL ofk
  rw [List.foldl_filter]
  congr 1
  funext s p
  by_cases h : p.2.2.1 = 4 <;> simp [h]


set_option maxHeartbeats 4000000 in
theorem waived_run (l : List Po) (m : Int) (A : Option Addr) (b off cap : Nat) (hA : l ≠ [] → A = some ⟨b, off, none⟩) (hlen : l.length ≤ 9223372036854775807) (w : World) (hb : l ≠ [] → b < w.heap.size) (hc : PoAt w b off l) :
    Calls Try.prog 13 #[.slice A l.length cap, .int .i64 m] w fun e W' => e = .returned (.int .i64 (waivL l m)) ∧ Below w.heap.size w W' := by
  refine (callsIn_wide (n := 6)).1 ?_
  refine callsIn_of_wp_marks Try.func13 rfl trivial ?_ rfl
  simp only [Try.ntmps13, List.size_toArray, List.length_cons, List.length_nil, Nat.reduceAdd, Nat.reduceSub, Array.replicate_succ, Array.replicate_zero, List.push_toArray, List.append_toArray, List.nil_append, List.cons_append]
  gi_wp2_with (refine ⟨trivial, ?_⟩; gi_at_call 21; refine (ofkind_in Fence.wide _ trivial rfl _ _ _ _ _).mono ?_; rintro e w' ⟨rfl, rfl⟩)
  have bM := (((Boxed.new w 3 (.int .i64 m)).alloc (.cells #[.int .i64 0] 3)).alloc (.cells #[.slice A l.length cap] 22)).alloc (.cells #[.int .i64 4] 3)
  have bS := ((Boxed.new (w.alloc (.cells #[.int .i64 m] 3)) 3 (.int .i64 0)).alloc (.cells #[.slice A l.length cap] 22)).alloc (.cells #[.int .i64 4] 3)
  have bL := (Boxed.new ((w.alloc (.cells #[.int .i64 m] 3)).alloc (.cells #[.int .i64 0] 3)) 22 (.slice A l.length cap)).alloc (.cells #[.int .i64 4] 3)
  have bK := Boxed.new (((w.alloc (.cells #[.int .i64 m] 3)).alloc (.cells #[.int .i64 0] 3)).alloc (.cells #[.slice A l.length cap] 22)) 3 (.int .i64 4)
  simp only [World.size_alloc] at bS bL bK
  have hB0 : Below w.heap.size w ((((w.alloc (.cells #[.int .i64 m] 3)).alloc (.cells #[.int .i64 0] 3)).alloc (.cells #[.slice A l.length cap] 22)).alloc (.cells #[.int .i64 4] 3)) := ((((Below.refl _ w).alloc (Nat.le_refl _) _).alloc (by simp) _).alloc (by simp; omega) _).alloc (by simp; omega) _
  have hsz : ((((w.alloc (.cells #[.int .i64 m] 3)).alloc (.cells #[.int .i64 0] 3)).alloc (.cells #[.slice A l.length cap] 22)).alloc (.cells #[.int .i64 4] 3)).heap.size = w.heap.size + 4 := by simp
  generalize hW0 : ((((w.alloc (.cells #[.int .i64 m] 3)).alloc (.cells #[.int .i64 0] 3)).alloc (.cells #[.slice A l.length cap] 22)).alloc (.cells #[.int .i64 4] 3)) = W0 at bM bS bL bK hB0 hsz ⊢
  refine wpIn_rangeFunc_ownH (F := Fence.wide) rfl (by omega) (gf := 26) (lb := #[.pointer (some ⟨w.heap.size + 1 + 1, 0, none⟩), .pointer (some ⟨w.heap.size + 1 + 1 + 1, 0, none⟩)]) rfl trivial (enters_of Try.func26 (by kernel_rfl) rfl)
    (ofk_stops Fence.wide _ trivial rfl (by omega) (w.heap.size + 1 + 1) (w.heap.size + 1 + 1 + 1) w.heap.size b off cap 4 l A hA hlen hb W0 (by omega) (by omega) bL.cell bK (hc.below hb hB0)) kp_t (kp_b (by omega) (by omega)) (Below.refl _ _) (fun _ => rfl)
    (fun pre W => ((Boxed W (w.heap.size + 1) 3 (.int .i64 (sumM m pre)) ∧ Boxed W w.heap.size 3 (.int .i64 m)) ∧ Boxed W (w.heap.size + 1 + 1 + 1) 3 (.int .i64 4)) ∧ Below w.heap.size w W)
    (fun _ _ _ => False)
    (OwnFrom.and (OwnFrom.and (OwnFrom.and (Own.from (boxed_own _ _ _) _) (Own.from (boxed_own _ _ _) _)) (Own.from (boxed_own _ _ _) _)) (ownFrom_below (Nat.le_refl _) (by omega)))
    (fun _ _ _ _ _ hs _ _ => hs)
    ⟨⟨⟨bS, bM⟩, bK⟩, hB0⟩
    (fun x a' W => ∃ Bx, w.heap.size + 1 + 1 + 1 < Bx ∧ PBox W Bx x ∧ a' = { tmps := #[.slice A l.length cap, .int .i64 m, undef, .pointer (some ⟨w.heap.size, 0, none⟩), .int .i64 0, .pointer (some ⟨w.heap.size + 1, 0, none⟩), .pointer (some ⟨Bx, 0, none⟩), .slice A l.length cap, .func (.func 26) #[] #[.pointer (some ⟨w.heap.size + 1 + 1, 0, none⟩), .pointer (some ⟨w.heap.size + 1 + 1 + 1, 0, none⟩)], encP x, undef, undef, undef, undef, undef, undef, undef, undef, undef], defers := [] })
    (fun x a' _ X Y row hs hg hr => by obtain ⟨Bx, h1, h2, h3⟩ := hs; exact ⟨Bx, h1, PBox.own () X Y row h2 hg (fun r e => (hr r e).2), h3⟩)
    ?assign ?body ?done ?stop
  case assign =>
    rintro l' pre x W K ⟨⟨⟨bS1, bM1⟩, bK1⟩, hB1⟩ hK
    simp only [encP]
    gi_wp2
    exact hK _ _ ((KeepsOthers.alloc _ _).from _) ⟨(Below.refl _ W).alloc hB1.size _, Below.heap_alloc W _ _ bK1.lt⟩ ⟨⟨⟨bS1.alloc _, bM1.alloc _⟩, bK1.alloc _⟩, hB1.alloc hB1.size _⟩ ⟨W.heap.size, bK1.lt, World.alloc_heap_new W _, rfl⟩
  case body =>
    rintro l' pre x a' W hl' ⟨r, hr⟩ ⟨⟨⟨bS1, bM1⟩, bK1⟩, hB1⟩ ⟨Bx, hBx, bX, rfl⟩ hlt
    have cM := bM1.cell
    have cS := bS1.cell
    have fS := bS1.frozen
    obtain ⟨cX0, cX1, cX2, cX3⟩ := bX.cells
    have hrf : KeepsFrom W0.heap.size W W := (KeepsOthers.refl _).from _
    by_cases hx : x.2.1 = m
    · gi_wp2
      exact ⟨(KeepsOthers.setCell _ _ _).from _, ⟨(Below.refl _ W).setCell (p := ⟨w.heap.size + 1, 0, none⟩) (by simp) _, Below.heap_setCell _ _ _ _ (by simp; omega)⟩, ⟨⟨⟨by rw [sumM_snoc, if_pos hx, W_wrap]; exact bS1.set _, bM1.other (by omega) _⟩, bK1.other (by omega) _⟩, hB1.setCell (p := ⟨w.heap.size + 1, 0, none⟩) (by simp) _⟩⟩
    · gi_wp2
      exact ⟨hrf, ⟨Below.refl _ _, rfl⟩, ⟨⟨⟨by rw [sumM_snoc, if_neg hx]; exact bS1, bM1⟩, bK1⟩, hB1⟩⟩
  case done =>
    rintro D ys W hD rfl ⟨⟨⟨bS1, bM1⟩, bK1⟩, hB1⟩ hK
    have cS := bS1.cell
    gi_wp2
    refine ⟨by simp, .inl ⟨_, _, rfl, run_takeDeferred hK, ?_⟩⟩
    exact ⟨_, results_tmp rfl _ _ _, by rw [waiv_ofk]; rfl, hB1.trans (belowK_b (w := w) (Nat.le_refl _) W D _ _ (by omega) hK rfl rfl)⟩
  case stop =>
    rintro D c pre W _ _ h _
    exact h.elim

end Go.Proofs.Ytmpgmhcbhkhakaa
