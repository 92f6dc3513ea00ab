import Derived.Test.YtmpgmhcbhkhakaaP37d
namespace Go.Proofs.Ytmpgmhcbhkhakaa
open Go.RowKit Go.Shelf Go.Eng
attribute [local go_sem] Oper.semAt_some
set_option maxRecDepth 100000
set_option maxHeartbeats 8000000
set_option linter.unusedVariables false
set_option linter.unusedSimpArgs false
def val37 (r : TDateRange) : Bool := decide (0 ≤ r.1) && decide (r.1 ≤ r.2) && decide (r.2 ≤ 109573)
def con37 (r : TDateRange) (d : Int) : Bool := val37 r && decide (r.1 ≤ d) && decide (d < r.2)

theorem valid37_ok (r : TDateRange) : Ct Try.prog 27 [.tv rDateRange r] (.raw (.bool (val37 r))) := by
  refine ct_intro Try.func27 rfl rfl Try.ntmps27 rfl rfl ?_
  intro w0 ok0
  refine j_seq ?_
  refine j_region ?_
  refine jg_os _ rfl (op_box (.tv (.base rfl)) rfl rfl rfl) ?_
  refine jg_adr _ rfl _ rfl rfl (op_assign (.base rfl)) ?_
  refine jg_nil ?_
  refine jn_keep [1] [1] (.cons rfl .nil) (.cons rfl .nil) ?_
  refine jn_seq (j_seq ?_)
  refine j_region ?_
  refine jg_adr _ rfl _ rfl rfl (op_ofield fld29_0 (.base rfl)) ?_
  refine jg_adr _ rfl _ rfl rfl (op_oload ty3 (.base rfl) rfl rfl ln29_0) ?_
  refine jg_adr _ rfl _ rfl rfl (op_leq (.base rfl) (.base rfl)) ?_
  refine jg_adr _ rfl _ rfl rfl (op_move (.base rfl)) ?_
  refine jg_gd _ _ _ _ _ _ rfl rfl rfl rfl rfl (fun hg => op_ofield fld29_0 (.base rfl)) ?_
  refine jg_gd _ _ _ _ _ _ rfl rfl rfl rfl rfl (fun hg => op_oload ty3 (.gd rfl hg) rfl rfl ln29_0) ?_
  refine jg_gd _ _ _ _ _ _ rfl rfl rfl rfl rfl (fun hg => op_ofield fld29_1 (.base rfl)) ?_
  refine jg_gd _ _ _ _ _ _ rfl rfl rfl rfl rfl (fun hg => op_oload ty3 (.gd rfl hg) rfl rfl ln29_1) ?_
  refine jg_gd _ _ _ _ _ _ rfl rfl rfl rfl rfl (fun hg => op_leq (.gd rfl hg) (.gd rfl hg)) ?_
  refine jg_adr _ rfl _ rfl rfl (op_pick_and (.base rfl) (.base rfl) rfl (by intro h; first | (rw [h]; rfl) | (rw [hg, h]; rfl) | (rw [h, hg]; rfl) | simp_all)) ?_
  refine jg_adr _ rfl _ rfl rfl (op_move (.base rfl)) ?_
  refine jg_gd _ _ _ _ _ _ rfl rfl rfl rfl rfl (fun hg => op_ofield fld29_1 (.base rfl)) ?_
  refine jg_gd _ _ _ _ _ _ rfl rfl rfl rfl rfl (fun hg => op_oload ty3 (.gd rfl hg) rfl rfl ln29_1) ?_
  refine jg_gd _ _ _ _ _ _ rfl rfl rfl rfl rfl (fun hg => op_leq (.gd rfl hg) (.base rfl)) ?_
  refine jg_adr _ rfl _ rfl rfl (op_pick_and (.base rfl) (.base rfl) rfl (by intro h; first | (rw [h]; rfl) | (rw [hg, h]; rfl) | (rw [h, hg]; rfl) | simp_all)) ?_
  refine jg_adr _ rfl _ rfl rfl (op_assign (.base rfl)) ?_
  refine jg_nil ?_
  refine jn_keep [2] [] (.cons rfl .nil) .nil ?_
  refine jn_seq (j_ret ?_)
  exact jr_fin1 Try.results27 (res_tmp rfl) rfl (rb (by simp [val37]))

theorem contains37_ok (r : TDateRange) (d : Int) : Ct Try.prog 23 [.tv rDateRange r, .raw (.int .i64 d)] (.raw (.bool (con37 r d))) := by
  refine ct_intro Try.func23 rfl rfl Try.ntmps23 rfl rfl ?_
  intro w0 ok0
  refine j_seq ?_
  refine j_region ?_
  refine jg_os _ rfl (op_box (.tv (.base rfl)) rfl rfl rfl) ?_
  refine jg_adr _ rfl _ rfl rfl (op_assign (.base rfl)) ?_
  refine jg_nil ?_
  refine jn_keep [1, 2] [2] (.cons rfl (.cons rfl .nil)) (.cons rfl .nil) ?_
  refine jn_seq (j_seq ?_)
  refine j_region ?_
  refine jg_adr _ rfl _ rfl rfl (op_oload ty29 (.base rfl) rfl rfl (Lens.id _)) ?_
  refine jg_adr _ rfl _ rfl rfl (op_call (valid37_ok _) (.cons (.base rfl) .nil) rfl rfl) ?_
  refine jg_adr _ rfl _ rfl rfl (op_move (.base rfl)) ?_
  refine jg_gd _ _ _ _ _ _ rfl rfl rfl rfl rfl (fun hg => op_ofield fld29_0 (.base rfl)) ?_
  refine jg_gd _ _ _ _ _ _ rfl rfl rfl rfl rfl (fun hg => op_oload ty3 (.gd rfl hg) rfl rfl ln29_0) ?_
  refine jg_gd _ _ _ _ _ _ rfl rfl rfl rfl rfl (fun hg => op_move (.base rfl)) ?_
  refine jg_gd _ _ _ _ _ _ rfl rfl rfl rfl rfl (fun hg => op_leq (.gd rfl hg) (.gd rfl hg)) ?_
  refine jg_adr _ rfl _ rfl rfl (op_pick_and (.base rfl) (.base rfl) rfl (by intro h; first | (rw [h]; rfl) | (rw [hg, h]; rfl) | (rw [h, hg]; rfl) | simp_all)) ?_
  refine jg_adr _ rfl _ rfl rfl (op_move (.base rfl)) ?_
  refine jg_gd _ _ _ _ _ _ rfl rfl rfl rfl rfl (fun hg => op_move (.base rfl)) ?_
  refine jg_gd _ _ _ _ _ _ rfl rfl rfl rfl rfl (fun hg => op_ofield fld29_1 (.base rfl)) ?_
  refine jg_gd _ _ _ _ _ _ rfl rfl rfl rfl rfl (fun hg => op_oload ty3 (.gd rfl hg) rfl rfl ln29_1) ?_
  refine jg_gd _ _ _ _ _ _ rfl rfl rfl rfl rfl (fun hg => op_lss (.gd rfl hg) (.gd rfl hg)) ?_
  refine jg_adr _ rfl _ rfl rfl (op_pick_and (.base rfl) (.base rfl) rfl (by intro h; first | (rw [h]; rfl) | (rw [hg, h]; rfl) | (rw [h, hg]; rfl) | simp_all)) ?_
  refine jg_adr _ rfl _ rfl rfl (op_assign (.base rfl)) ?_
  refine jg_nil ?_
  refine jn_keep [4] [] (.cons rfl .nil) .nil ?_
  refine jn_seq (j_ret ?_)
  exact jr_fin1 Try.results23 (res_tmp rfl) rfl (rb (by simp [con37]))


theorem amount_in (F : Fence) (n : Nat) (h : F.fn 20) (hro : F.round = none) (p : Po) (w : World) :
    CallsIn F n Try.prog 20 #[encP p] w fun e w' => e = .returned (.int .i64 (amt p)) ∧ w' = w.alloc (.cells #[.int .i64 p.1, .int .i64 p.2.1, .int .i64 p.2.2.1, .int .i64 p.2.2.2] 37) := by
  refine callsIn_of_wp Try.func20 rfl h ?_ hro
  simp only [encP, Try.ntmps20, List.size_toArray, List.length_cons, List.length_nil, Nat.reduceAdd, Nat.reduceSub, Array.replicate_succ, Array.replicate_zero, List.push_toArray, List.append_toArray, List.nil_append, List.cons_append]
  unfold amt
  by_cases h1 : p.2.2.1 = 1
  · have e1 : (p.2.2.1 == 1) = true := by simpa using h1
    gi_wp2
    go_ret
    exact ⟨by simp [h1], rfl⟩
  · have e1 : (p.2.2.1 == 1) = false := by simpa using h1
    by_cases h2 : p.2.2.1 = 2
    · have e2 : (p.2.2.1 == 2) = true := by simpa using h2
      gi_wp2
      go_ret
      exact ⟨by simp [h2, W_wrap], rfl⟩
    · have e2 : (p.2.2.1 == 2) = false := by simpa using h2
      by_cases h3 : p.2.2.1 = 3
      · have e3 : (p.2.2.1 == 3) = true := by simpa using h3
        gi_wp2
        go_ret
        exact ⟨by simp [h3, W_wrap], rfl⟩
      · have e3 : (p.2.2.1 == 3) = false := by simpa using h3
        gi_wp2
        go_ret
        exact ⟨by simp [h1, h2, h3], rfl⟩
theorem Boxed.of_below {W W' : World} {B : Nat} {t : TypeId} {v : Value} (h : Boxed W B t v) (hB : Below W.heap.size W W') : Boxed W' B t v := (hB.block B h.lt).trans h
theorem PBox.of_below {W W' : World} {B : Nat} {p : Po} (h : PBox W B p) (hB : Below W.heap.size W W') : PBox W' B p := (hB.block B (Array.getElem?_eq_some_iff.1 h).1).trans h
theorem keeps_below {W W' : World} {B : Nat} (hB : Below W.heap.size W W') : KeepsFrom B W W' := ⟨hB.size, fun k o hk h0 ho => (hB.block k (Array.getElem?_eq_some_iff.1 h0).1).trans h0⟩
theorem kp_below {W W' : World} {n₀ Bk : Nat} (hn : n₀ ≤ W.heap.size) (hk : Bk < W.heap.size) (hB : Below W.heap.size W W') : Kp37 n₀ Bk W W' := ⟨hB.mono hn, hB.block Bk hk⟩
/-- marks of the loops that are done -/
def Marks (W : World) (Ds : List Nat) : Prop := ∀ d ∈ Ds, W.heap[d]? = some (.deferred (some []))
theorem Marks.of {β : Type} {Ds : List Nat} {B : Nat} (hB : ∀ d ∈ Ds, d < B) : OwnFrom B (fun (_ : β) W => Marks W Ds) := fun _ X Y row hs hg hr d hd =>
  (hg.block d (Array.getElem?_eq_some_iff.1 (hs d hd)).1 (fun e => by have := (hr d e.symm).1; have := hB d hd; omega)).trans (hs d hd)
theorem Marks.below {W W' : World} {Ds : List Nat} (h : Marks W Ds) (hB : Below W.heap.size W W') : Marks W' Ds := fun d hd => (hB.block d (Array.getElem?_eq_some_iff.1 (h d hd)).1).trans (h d hd)
theorem Marks.set {W : World} {Ds : List Nat} {b : Nat} {t : TypeId} {u v : Value} (h : Marks W Ds) (hb : Boxed W b t u) : Marks (W.setCell ⟨b, 0, none⟩ v) Ds := fun d hd => by
  rw [Below.heap_setCell _ _ _ _ (by rintro rfl; have := h _ hd; rw [show W.heap[_]? = _ from hb] at this; cases this)]; exact h d hd
theorem round_end {w W W2 : World} {B Bk : Nat} {kd : Int} {u v v' : Value} (hv : v' = v) {bx : Array Value} {bt : TypeId} {Ds : List Nat} (hW2 : Below W.heap.size W W2) (hle : w.heap.size ≤ W.heap.size) (bS2 : Boxed W2 (w.heap.size + 1) 3 u) (bM2 : W2.heap[w.heap.size]? = some (.cells bx bt (0, 0))) (bK2 : Boxed W2 Bk 3 (.int .i64 kd)) (hk : Bk < W.heap.size)
    (hB2 : Below w.heap.size w W2) (hD2 : Marks W2 Ds) (hne : Bk ≠ w.heap.size + 1) (o : Obj) :
    KeepsFrom B W (((W2.alloc o).setCell ⟨w.heap.size + 1, 0, none⟩ v).drew) ∧ Kp37 w.heap.size Bk W (((W2.alloc o).setCell ⟨w.heap.size + 1, 0, none⟩ v).drew) ∧
    (((Boxed (((W2.alloc o).setCell ⟨w.heap.size + 1, 0, none⟩ v).drew) (w.heap.size + 1) 3 v' ∧ (((W2.alloc o).setCell ⟨w.heap.size + 1, 0, none⟩ v).drew).heap[w.heap.size]? = some (.cells bx bt (0, 0))) ∧ Boxed (((W2.alloc o).setCell ⟨w.heap.size + 1, 0, none⟩ v).drew) Bk 3 (.int .i64 kd)) ∧ Below w.heap.size w (((W2.alloc o).setCell ⟨w.heap.size + 1, 0, none⟩ v).drew)) ∧ Marks (((W2.alloc o).setCell ⟨w.heap.size + 1, 0, none⟩ v).drew) Ds := by
  refine ⟨(keeps_below hW2).trans ((((KeepsOthers.alloc _ _).trans (KeepsOthers.setCell _ _ _)).trans (KeepsOthers.drew _)).from _),
    kp_t (kp_below hle hk hW2) ⟨(((Below.refl w.heap.size _).alloc hB2.size _).setCell (p := ⟨w.heap.size + 1, 0, none⟩) (by simp) _).drew, ?_⟩,
    ⟨⟨⟨⟨?_, ?_⟩, ?_⟩, ((hB2.alloc hB2.size _).setCell (p := ⟨w.heap.size + 1, 0, none⟩) (by simp) _).drew⟩, ?_⟩⟩
  · exact (Below.heap_setCell (W2.alloc o) ⟨w.heap.size + 1, 0, none⟩ v Bk hne).trans (Below.heap_alloc _ _ _ bK2.lt)
  · rw [hv]; exact (bS2.alloc o).set v
  · exact ((Below.heap_setCell (W2.alloc o) ⟨w.heap.size + 1, 0, none⟩ v w.heap.size (by simp)).trans (Below.heap_alloc _ _ _ (Array.getElem?_eq_some_iff.1 bM2).1)).trans bM2
  · exact (bK2.alloc o).other hne v
  · exact Marks.set (W := W2.alloc o) (hD2.below ((Below.refl _ _).alloc (Nat.le_refl _) _)) (bS2.alloc o)
def sumR (c : Po → Bool) (s : Int) (ys : List Po) : Int := ys.foldl (fun s p => if c p = true then W64 (s + amt p) else s) s
theorem sumR_snoc (c : Po → Bool) (s : Int) (ys : List Po) (x : Po) : sumR c s (ys ++ [x]) = if c x = true then W64 (sumR c s ys + amt x) else sumR c s ys := by simp [sumR]
def sumE (c : Po → Bool) (ys : List Po) : Int := (ys.map fun p => if c p = true then amt p else 0).sum
theorem sumR_E (c : Po → Bool) : ∀ (ys : List Po) (s : Int), sumR c (W64 s) ys = W64 (s + sumE c ys)
  | [], s => by simp [sumR, sumE]
  | y :: r, s => by
    have e : sumR c (W64 s) (y :: r) = sumR c (if c y = true then W64 (W64 s + amt y) else W64 s) r := rfl
    rw [e]
    by_cases h : c y = true
    · rw [if_pos h, W_W, sumR_E c r]; simp [sumE, h, Int.add_assoc]
    · rw [if_neg h, sumR_E c r]; simp [sumE, h]
theorem sumE_kinds (c : Po → Bool) : ∀ l : List Po, sumE c (ofk 1 l) + sumE c (ofk 2 l) + sumE c (ofk 3 l) = sumE c l
  | [] => rfl
  | p :: r => by
    have ih := sumE_kinds c r
    have e : ∀ q : Int, sumE c (ofk q (p :: r)) = (if p.2.2.1 = q then (if c p = true then amt p else 0) else 0) + sumE c (ofk q r) := fun q => by
      unfold ofk sumE; rw [List.filter_cons]; by_cases h : p.2.2.1 = q <;> simp [h]
    have e0 : sumE c (p :: r) = (if c p = true then amt p else 0) + sumE c r := by simp [sumE]
    rw [e, e, e, e0, ← ih]
    by_cases h1 : p.2.2.1 = 1
    · simp [h1]; omega
    · by_cases h2 : p.2.2.1 = 2
      · simp [h2]; omega
      · by_cases h3 : p.2.2.1 = 3
        · simp [h3]; omega
        · have : amt p = 0 := by unfold amt; rw [if_neg h1, if_neg (by omega)]
          simp [h1, h2, h3, this]
theorem W64_0 : W64 0 = 0 := by decide
theorem sum_three (c : Po → Bool) (l : List Po) : sumR c (sumR c (sumR c 0 (ofk 1 l)) (ofk 2 l)) (ofk 3 l) = sumR c 0 l := by
  have h0 : ∀ ys, sumR c 0 ys = W64 (sumE c ys) := fun ys => by have := sumR_E c ys 0; rw [W64_0, Int.zero_add] at this; exact this
  rw [h0, sumR_E, sumR_E, h0, ← sumE_kinds c l]
theorem recv_three (l : List Po) (m : Int) : sumR (fun p => p.2.1 == m) 0 l = recvL l m := by
  unfold sumR recvL; congr 1; funext s p; simp
theorem cash_three (l : List Po) (r : TDateRange) : sumR (fun p => con37 r p.1) 0 l = cashL r l := by
  unfold cashL
  split
  · rename_i h
    have hz : ∀ (ys : List Po), sumR (fun p => con37 r p.1) 0 ys = 0 := by
      intro ys
      induction ys with
      | nil => rfl
      | cons y t ih =>
        have e : con37 r y.1 = false := by unfold con37 val37; simp; omega
        show sumR _ (if con37 r y.1 = true then _ else _) t = 0
        rw [e]; exact ih
    exact hz l
  · rename_i h
    unfold sumR cashF; congr 1; funext s p
    have e : con37 r p.1 = decide (r.1 ≤ p.1 ∧ p.1 < r.2) := by unfold con37 val37; rw [Bool.eq_iff_iff]; simp; omega
    show (if con37 r p.1 = true then _ else _) = _
    rw [e]; simp


theorem recv_step (F : Fence) (n : Nat) (h26 : F.fn 26) (h20 : F.fn 20) (h23 : F.fn 23) (hro : F.round = none) (hn : 6 ≤ n) (l : List Po) (m : Int) (A : Option Addr) (b off cap : Nat) (hA : l ≠ [] → A = some ⟨b, off, none⟩) (hlen : l.length ≤ 9223372036854775807) (w W0 : World) (hb : l ≠ [] → b < w.heap.size) (hc : PoAt w b off l) (s0 kd : Int) (Bl Bk : Nat) (Ds : List Nat) (ds : List Deferred) (u6 u8 u9 u10 u11 u12 u13 u14 u16 u17 u18 u19 u20 u21 u22 u23 u24 u25 u26 : Value) (Q : Exit → Act → World → Prop)
    (bM : W0.heap[w.heap.size]? = some (.cells #[.int .i64 m] 3 (0, 0))) (bS : Boxed W0 (w.heap.size + 1) 3 (.int .i64 s0)) (bL : Boxed W0 Bl 22 (.slice A l.length cap)) (bK : Boxed W0 Bk 3 (.int .i64 kd)) (hk1 : w.heap.size + 1 < Bk) (hB0 : Below w.heap.size w W0) (hD : Marks W0 Ds)
    (hK : ∀ (D : Nat) (W : World), W0.heap.size ≤ D → D < W.heap.size → W.heap[w.heap.size]? = some (.cells #[.int .i64 m] 3 (0, 0)) → Boxed W (w.heap.size + 1) 3 (.int .i64 (sumR (fun p => p.2.1 == m) s0 (ofk kd l))) → Below w.heap.size w W → Marks W (D :: Ds) → Q .normal { tmps := #[.slice A l.length cap, .int .i64 m, undef, .pointer (some ⟨w.heap.size, 0, none⟩), .int .i64 0, .pointer (some ⟨w.heap.size + 1, 0, none⟩), u6, .int .i64 kd, u8, u9, u10, u11, u12, u13, u14, .func (.func 26) #[] #[.pointer (some ⟨Bl, 0, none⟩), .pointer (some ⟨Bk, 0, none⟩)], u16, u17, u18, u19, u20, u21, u22, u23, u24, u25, u26], defers := ({ target := .collected D, args := #[] } :: ds) } W) :
    Code.wpIn F n Try.prog (Go.Code.rangeFunc (Go.Operand.tmp 15) #[16] (Go.Code.region 6 #[(Go.Oper.mk (some 8) (Go.Op.alloc 37) 0 "ledger.go:63" #[] none), (Go.Oper.mk none (Go.Op.store 37 (Go.Operand.tmp 8) (Go.Operand.tmp 16)) 0 "ledger.go:63" #[(Go.Edge.mk 0 Go.Ground.data), (Go.Edge.mk 0 Go.Ground.phase)] none)] Bool.false) (Go.Code.block 3 (Go.Code.seq (Go.Code.region 7 #[(Go.Oper.mk (some 17) (Go.Op.fieldAddr 37 (Go.Operand.tmp 8) 1) 0 "ledger.go:64" #[] none), (Go.Oper.mk (some 18) (Go.Op.load 3 (Go.Operand.tmp 17)) 3 "ledger.go:64" #[(Go.Edge.mk 0 Go.Ground.data)] none), (Go.Oper.mk (some 19) (Go.Op.load 3 (Go.Operand.tmp 3)) 3 "ledger.go:64" #[] none), (Go.Oper.mk (some 20) (Go.Op.binOp Go.BinOp.eql 3 (Go.Operand.tmp 18) (Go.Operand.tmp 19) 3) 4 "ledger.go:64" #[(Go.Edge.mk 1 Go.Ground.data), (Go.Edge.mk 2 Go.Ground.data)] none)] Bool.false) (Go.Code.cond (Go.Operand.tmp 20) (Go.Code.region 8 #[(Go.Oper.mk (some 21) (Go.Op.load 3 (Go.Operand.tmp 5)) 3 "ledger.go:65" #[] none), (Go.Oper.mk (some 22) (Go.Op.load 37 (Go.Operand.tmp 8)) 37 "ledger.go:65" #[] none), (Go.Oper.mk (some 23) (Go.Op.call (Go.Call.mk (Go.Callee.value (Go.Operand.func 20)) #[(Go.Operand.tmp 22)] #[37])) 3 "ledger.go:65" #[(Go.Edge.mk 1 Go.Ground.data)] none), (Go.Oper.mk (some 24) (Go.Op.binOp Go.BinOp.add 3 (Go.Operand.tmp 21) (Go.Operand.tmp 23) 3) 3 "ledger.go:65" #[(Go.Edge.mk 0 Go.Ground.data), (Go.Edge.mk 2 Go.Ground.data)] none), (Go.Oper.mk none (Go.Op.store 3 (Go.Operand.tmp 5) (Go.Operand.tmp 24)) 0 "ledger.go:65" #[(Go.Edge.mk 3 Go.Ground.data), (Go.Edge.mk 2 Go.Ground.chain), (Go.Edge.mk 0 Go.Ground.phase), (Go.Edge.mk 1 Go.Ground.phase), (Go.Edge.mk 2 Go.Ground.phase), (Go.Edge.mk 3 Go.Ground.phase)] none)] Bool.true) Go.Code.skip)))) Q { tmps := #[.slice A l.length cap, .int .i64 m, undef, .pointer (some ⟨w.heap.size, 0, none⟩), .int .i64 0, .pointer (some ⟨w.heap.size + 1, 0, none⟩), u6, .int .i64 kd, u8, u9, u10, u11, u12, u13, u14, .func (.func 26) #[] #[.pointer (some ⟨Bl, 0, none⟩), .pointer (some ⟨Bk, 0, none⟩)], u16, u17, u18, u19, u20, u21, u22, u23, u24, u25, u26], defers := ds } W0 := by
  have hDl : ∀ d ∈ Ds, d < W0.heap.size := fun d hd => (Array.getElem?_eq_some_iff.1 (hD d hd)).1
  refine wpIn_rangeFunc_ownH hro (by omega) (gf := 26) (lb := #[.pointer (some ⟨Bl, 0, none⟩), .pointer (some ⟨Bk, 0, none⟩)]) rfl h26 (enters_of Try.func26 (by kernel_rfl) rfl)
    (ofk_stops F _ h26 hro (by omega) Bl Bk w.heap.size b off cap kd l A hA hlen hb W0 bL.lt hB0.size bL.cell bK (hc.below hb hB0)) kp_t (kp_b hB0.size bK.lt) (Below.refl _ _) (fun _ => rfl)
    (fun pre W => (((Boxed W (w.heap.size + 1) 3 (.int .i64 (sumR (fun p => p.2.1 == m) s0 pre)) ∧ W.heap[w.heap.size]? = some (.cells #[.int .i64 m] 3 (0, 0))) ∧ Boxed W Bk 3 (.int .i64 kd)) ∧ Below w.heap.size w W) ∧ Marks W Ds)
    (fun _ _ _ => False)
    (OwnFrom.and (OwnFrom.and (OwnFrom.and (OwnFrom.and (Own.from (boxed_own _ _ _) _) (Own.from (fun s X Y row hs hg hrow => (hg.block _ (Array.getElem?_eq_some_iff.1 hs).1 (fun e' => by obtain ⟨o, ho, hc⟩ := hrow _ e'.symm; rw [hs] at ho; cases ho; cases hc)).trans hs) _)) (Own.from (boxed_own _ _ _) _)) (ownFrom_below (Nat.le_refl _) hB0.size)) (Marks.of hDl))
    (fun _ _ _ _ _ hs _ _ => hs)
    ⟨⟨⟨⟨bS, bM⟩, bK⟩, hB0⟩, hD⟩
    (fun x a' W => ∃ Bx, w.heap.size + 1 < Bx ∧ PBox W Bx x ∧ a' = { tmps := #[.slice A l.length cap, .int .i64 m, undef, .pointer (some ⟨w.heap.size, 0, none⟩), .int .i64 0, .pointer (some ⟨w.heap.size + 1, 0, none⟩), u6, .int .i64 kd, .pointer (some ⟨Bx, 0, none⟩), u9, u10, u11, u12, u13, u14, .func (.func 26) #[] #[.pointer (some ⟨Bl, 0, none⟩), .pointer (some ⟨Bk, 0, none⟩)], encP x, u17, u18, u19, u20, u21, u22, u23, u24, u25, u26], defers := [] })
    (fun x a' _ X Y row hs hg hr => by obtain ⟨Bx, h1, h2, h3⟩ := hs; exact ⟨Bx, h1, PBox.own () X Y row h2 hg (fun r e => (hr r e).2), h3⟩)
    ?assign ?body ?done ?stop
  case assign =>
    rintro l' pre x W K ⟨⟨⟨⟨bS1, bM1⟩, bK1⟩, hB1⟩, hD1⟩ hK
    simp only [encP]
    gi_wp2
    have hbl : Below W.heap.size W (W.alloc (.cells #[.int .i64 x.1, .int .i64 x.2.1, .int .i64 x.2.2.1, .int .i64 x.2.2.2] 37)) := (Below.refl _ W).alloc (Nat.le_refl _) _
    exact hK _ _ (keeps_below hbl) (kp_below hB1.size bK1.lt hbl) ⟨⟨⟨⟨bS1.alloc _, (Below.heap_alloc W _ _ (Array.getElem?_eq_some_iff.1 bM1).1).trans bM1⟩, bK1.alloc _⟩, hB1.alloc hB1.size _⟩, hD1.below hbl⟩ ⟨W.heap.size, bS1.lt, World.alloc_heap_new W _, rfl⟩
  case body =>
    rintro l' pre x a' W hl' ⟨r', hr'⟩ ⟨⟨⟨⟨bS1, bM1⟩, bK1⟩, hB1⟩, hD1⟩ ⟨Bx, hBx, bX, rfl⟩ hlt
    have hmx : Try.prog.follows .mixedOrders = true := by kernel_rfl
    have hd : 1 ≤ n - 1 - 1 := by omega
    have hsz0 : w.heap.size ≤ W0.heap.size := hB0.size
    clear hK hD hDl bM bS bL hc hA hb hlen hB0 hr'
    clear hlt
    have hne : Bk ≠ w.heap.size + 1 := by omega
    have cM : W.cell? ⟨w.heap.size, 0, none⟩ = some (.int .i64 m) := by simp [World.cell?, bM1]
    have cS := bS1.cell
    have fS := bS1.frozen
    obtain ⟨cX0, cX1, cX2, cX3⟩ := bX.cells
    have cS2 : ∀ o, (W.drew.alloc o).cell? ⟨w.heap.size + 1, 0, none⟩ = _ := fun o => ((show Boxed W.drew _ _ _ from bS1).alloc o).cell
    have fS2 : ∀ o, (W.drew.alloc o).frozen? ⟨w.heap.size + 1, 0, none⟩ = false := fun o => ((show Boxed W.drew _ _ _ from bS1).alloc o).frozen
    have cS3 : ∀ o, (W.alloc o).cell? ⟨w.heap.size + 1, 0, none⟩ = _ := fun o => (bS1.alloc o).cell
    have fS3 : ∀ o, (W.alloc o).frozen? ⟨w.heap.size + 1, 0, none⟩ = false := fun o => (bS1.alloc o).frozen
    by_cases hx : x.2.1 = m
    · have hxb : (x.2.1 == m) = true := by simpa using hx
      have hW2 : Below W.heap.size W W := Below.refl _ _
      have hB2 := hB1
      have bK2 := bK1
      have bS2 := bS1
      have bM2 := bM1
      have hD2 := hD1
      have hsn : (Value.int .i64 (sumR (fun p => p.2.1 == m) s0 (pre ++ [x]))) = .int .i64 (IntKind.i64.wrap (sumR (fun p => p.2.1 == m) s0 pre + amt x)) := by rw [sumR_snoc, if_pos hxb]
      have hend := round_end hsn (B := W0.heap.size) hW2 hB1.size bS2 bM2 bK2 bK1.lt hB2 hD2 hne (.cells #[.int .i64 x.1, .int .i64 x.2.1, .int .i64 x.2.2.1, .int .i64 x.2.2.2] 37)
      clear hsn
      gi_wp2
      clear bS1 bM1 bK1 hB1 hD1 bX bK cM hx hxb hW2 hB2 bK2 bS2 bM2 hD2
      gi_region_with_o (gi_at_call 20; refine (CallsIn.inRound l' (amount_in F _ h20 hro x _)).mono ?_; rintro e w' ⟨rfl, rfl⟩)
      all_goals exact hend
    · have hxb : (x.2.1 == m) = false := by simpa using hx
      gi_wp2
      exact ⟨(KeepsOthers.refl _).from _, ⟨Below.refl _ _, rfl⟩, ⟨⟨⟨⟨by rw [sumR_snoc, if_neg (by simpa using hx)]; exact bS1, bM1⟩, bK1⟩, hB1⟩, hD1⟩⟩

  case done =>
    rintro D ys W hDD rfl ⟨⟨⟨⟨bS1, bM1⟩, bK1⟩, hB1⟩, hD1⟩ hKD
    exact hK D W hDD (Array.getElem?_eq_some_iff.1 hKD).1 bM1 bS1 hB1 (fun d hd => by rcases List.mem_cons.1 hd with rfl | hd; exact hKD; exact hD1 d hd)
  case stop =>
    rintro D c pre W _ _ h _
    exact h.elim


theorem heap2 {W : World} {o1 o2 : Obj} {b : Nat} {x : Obj} (h : W.heap[b]? = some x) : ((W.alloc o1).alloc o2).heap[b]? = some x := by
  have hb := (Array.getElem?_eq_some_iff.1 h).1
  exact (Below.heap_alloc (W.alloc o1) o2 b (by simp; omega)).trans ((Below.heap_alloc W o1 b hb).trans h)
theorem boxK {W : World} {o : Obj} {v : Value} : Boxed ((W.alloc o).alloc (.cells #[v] 3)) (W.heap.size + 1) 3 v := by
  have := Boxed.new (W.alloc o) 3 v; rwa [World.size_alloc] at this
theorem marks2 {W : World} {o1 o2 : Obj} {Ds : List Nat} (h : Marks W Ds) : Marks ((W.alloc o1).alloc o2) Ds := fun d hd => heap2 (h d hd)
theorem below2 {W : World} {w : World} {o1 o2 : Obj} (h : Below w.heap.size w W) : Below w.heap.size w ((W.alloc o1).alloc o2) := (h.alloc h.size _).alloc (by have := h.size; simp; omega) _
theorem below_put {w W : World} {D : Nat} {o : Obj} (h : Below w.heap.size w W) (hD : w.heap.size ≤ D) : Below w.heap.size w (W.putObj D o) := h.grown (grownBy_putObj' W D o) h.size (fun k e => by cases e; exact hD)


theorem ix_at (j : Nat) (hj : j < 3) (W : World) : (Instr.index 42 (.agg #[.int .i64 1, .int .i64 2, .int .i64 3]) (.int .i64 (j : Int))).run Try.prog W = .ok (.int .i64 ((j : Int) + 1)) W := by
  obtain ⟨_, i0, hi0, hs⟩ := ty3
  have hs : i0.size = 1 := hs
  have h3 : (j : Int) < 3 := by omega
  rcases (by omega : j = 0 ∨ j = 1 ∨ j = 2) with rfl | rfl | rfl <;> simp [Instr.index, asIntOf, run_underlying Try.underlying42, Go.Eng.run_sizeOf hi0, hs, part, Go.Eng.run_isAgg Try.underlying3, isAggD]
theorem ix0 (W : World) : (Instr.index 42 (.agg #[.int .i64 1, .int .i64 2, .int .i64 3]) (.int .i64 0)).run Try.prog W = .ok (.int .i64 1) W := ix_at 0 (by omega) W
theorem ix1 (W : World) : (Instr.index 42 (.agg #[.int .i64 1, .int .i64 2, .int .i64 3]) (.int .i64 1)).run Try.prog W = .ok (.int .i64 2) W := ix_at 1 (by omega) W
theorem ix2 (W : World) : (Instr.index 42 (.agg #[.int .i64 1, .int .i64 2, .int .i64 3]) (.int .i64 2)).run Try.prog W = .ok (.int .i64 3) W := ix_at 2 (by omega) W


theorem received_run (l : List Po) (m : Int) (A : Option Addr) (b off cap : Nat) (hA : l ≠ [] → A = some ⟨b, off, none⟩) (hlen : l.length ≤ 9223372036854775807) (w : World) (hb : l ≠ [] → b < w.heap.size) (hc : PoAt w b off l) :
    Calls Try.prog 11 #[.slice A l.length cap, .int .i64 m] w fun e W' => e = .returned (.int .i64 (recvL l m)) ∧ Below w.heap.size w W' := by
  have jx0 := ix0
  have jx1 := ix1
  have jx2 := ix2
  refine (callsIn_wide (n := 6)).1 ?_
  refine callsIn_of_wp_marks Try.func11 rfl trivial ?_ rfl
  simp only [Try.ntmps11, List.size_toArray, List.length_cons, List.length_nil, Nat.reduceAdd, Nat.reduceSub, Array.replicate_succ, Array.replicate_zero, List.push_toArray, List.append_toArray, List.nil_append, List.cons_append]
  gi_wp2
  have bM : ((w.alloc (.cells #[.int .i64 m] 3)).alloc (.cells #[.int .i64 0] 3)).heap[w.heap.size]? = some (.cells #[.int .i64 m] 3 (0, 0)) := (Below.heap_alloc _ _ _ (by simp)).trans (World.alloc_heap_new w _)
  have bS : Boxed ((w.alloc (.cells #[.int .i64 m] 3)).alloc (.cells #[.int .i64 0] 3)) (w.heap.size + 1) 3 (.int .i64 0) := boxK
  have hB : Below w.heap.size w ((w.alloc (.cells #[.int .i64 m] 3)).alloc (.cells #[.int .i64 0] 3)) := below2 (Below.refl _ _)
  have hM : Marks ((w.alloc (.cells #[.int .i64 m] 3)).alloc (.cells #[.int .i64 0] 3)) [] := fun d hd => by simp at hd
  generalize ((w.alloc (.cells #[.int .i64 m] 3)).alloc (.cells #[.int .i64 0] 3)) = W0 at bM bS hB hM ⊢
  refine wpIn_loop_rounds 4 ?_
  rw [roundsIn_succ]
  gi_wp2_with (refine ⟨trivial, ?_⟩; gi_at_call 21; refine (ofkind_in Fence.wide _ trivial rfl _ _ _ _ _).mono ?_; rintro e w' ⟨rfl, rfl⟩)
  refine recv_step Fence.wide 6 trivial trivial trivial rfl (by omega) l m A b off cap hA hlen w _ hb hc 0 1 W0.heap.size (W0.heap.size + 1) [] _  _ _ _ _ _ _ _ _ _ _ _ _ _ _ _ _ _ _ _ _ (heap2 bM) ((bS.alloc _).alloc _) ((Boxed.new W0 22 _).alloc _) boxK (by have := bS.lt; omega) (below2 hB) (marks2 hM) ?_
  intro D1 W1 hD1 hl1 bM1 bS1 hB1 hM1
  generalize hs1 : sumR (fun p => p.2.1 == m) 0 (ofk 1 l) = s1 at bS1
  have hsz1 : W0.heap.size + 2 ≤ D1 := by simp at hD1; omega
  gi_wp2
  rw [roundsIn_succ]
  gi_wp2_with (refine ⟨trivial, ?_⟩; gi_at_call 21; refine (ofkind_in Fence.wide _ trivial rfl _ _ _ _ _).mono ?_; rintro e w' ⟨rfl, rfl⟩)
  refine recv_step Fence.wide 6 trivial trivial trivial rfl (by omega) l m A b off cap hA hlen w _ hb hc s1 2 W1.heap.size (W1.heap.size + 1) [D1] _  _ _ _ _ _ _ _ _ _ _ _ _ _ _ _ _ _ _ _ _ (heap2 bM1) ((bS1.alloc _).alloc _) ((Boxed.new W1 22 _).alloc _) boxK (by have := bS1.lt; omega) (below2 hB1) (marks2 hM1) ?_
  intro D2 W2 hD2 hl2 bM2 bS2 hB2 hM2
  generalize hs2 : sumR (fun p => p.2.1 == m) s1 (ofk 2 l) = s2 at bS2
  have hsz2 : W1.heap.size + 2 ≤ D2 := by simp at hD2; omega
  gi_wp2
  rw [roundsIn_succ]
  gi_wp2_with (refine ⟨trivial, ?_⟩; gi_at_call 21; refine (ofkind_in Fence.wide _ trivial rfl _ _ _ _ _).mono ?_; rintro e w' ⟨rfl, rfl⟩)
  refine recv_step Fence.wide 6 trivial trivial trivial rfl (by omega) l m A b off cap hA hlen w _ hb hc s2 3 W2.heap.size (W2.heap.size + 1) [D2, D1] _  _ _ _ _ _ _ _ _ _ _ _ _ _ _ _ _ _ _ _ _ (heap2 bM2) ((bS2.alloc _).alloc _) ((Boxed.new W2 22 _).alloc _) boxK (by have := bS2.lt; omega) (below2 hB2) (marks2 hM2) ?_
  intro D3 W3 hD3 hl3 bM3 bS3 hB3 hM3
  generalize hs3 : sumR (fun p => p.2.1 == m) s2 (ofk 3 l) = s3 at bS3
  have hsz3 : W2.heap.size + 2 ≤ D3 := by simp at hD3; omega
  gi_wp2
  have cS := bS3.cell
  rw [roundsIn_succ]
  gi_wp2
  have h3 := hM3 D3 (by simp)
  have h2 := hM3 D2 (by simp)
  have h1 := hM3 D1 (by simp)
  refine ⟨by simp, .inl ⟨_, _, rfl, run_takeDeferred h3, by simp, .inl ⟨_, _, rfl, run_takeDeferred ((World.putObj_heap_other (by omega)).trans h2), by simp, .inl ⟨_, _, rfl, run_takeDeferred ((World.putObj_heap_other (by omega)).trans ((World.putObj_heap_other (by omega)).trans h1)), ?_⟩⟩⟩⟩
  exact ⟨_, results_tmp rfl _ _ _, by rw [← hs3, ← hs2, ← hs1]; rw [sum_three, recv_three]; rfl, below_put (below_put (below_put hB3 (by have := hB2.size; omega)) (by have := hB1.size; omega)) (by have := hB.size; omega)⟩

end Go.Proofs.Ytmpgmhcbhkhakaa
