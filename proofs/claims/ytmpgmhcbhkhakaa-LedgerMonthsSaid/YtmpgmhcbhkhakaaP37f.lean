import Derived.Test.YtmpgmhcbhkhakaaP37e
namespace Go.Proofs.Ytmpgmhcbhkhakaa
open Go.RowKit Go.Shelf Go.Eng
attribute [local go_sem] Oper.semAt_some
set_option maxRecDepth 100000
set_option maxHeartbeats 8000000
set_option linter.unusedVariables false
set_option linter.unusedSimpArgs false


theorem valid_in (F : Fence) (n : Nat) (h : F.fn 27) (hro : F.round = none) (r : TDateRange) (w : World) :
    CallsIn F n Try.prog 27 #[.agg #[.int .i64 r.1, .int .i64 r.2]] w fun e w' => e = .returned (.bool (val37 r)) ∧ w' = w.alloc (.cells #[.int .i64 r.1, .int .i64 r.2] 29) := by
  refine callsIn_of_wp Try.func27 rfl h ?_ hro
  simp only [Try.ntmps27, List.size_toArray, List.length_cons, List.length_nil, Nat.reduceAdd, Nat.reduceSub, Array.replicate_succ, Array.replicate_zero, List.push_toArray, List.append_toArray, List.nil_append, List.cons_append]
  unfold val37
  by_cases h1 : 0 ≤ r.1
  · by_cases h2 : r.1 ≤ r.2
    · by_cases h3 : r.2 ≤ 109573
      · gi_wp2
        go_ret
        exact ⟨by simp [h1, h2, h3], rfl⟩
      · gi_wp2
        go_ret
        exact ⟨by simp [h1, h2, h3], rfl⟩
    · gi_wp2
      go_ret
      exact ⟨by simp [h1, h2]; omega, rfl⟩
  · gi_wp2
    go_ret
    exact ⟨by simp [h1]; omega, rfl⟩
theorem contains_in (F : Fence) (n : Nat) (h : F.fn 23) (h27 : F.fn 27) (hro : F.round = none) (hn : 1 ≤ n) (r : TDateRange) (d : Int) (w : World) :
    CallsIn F n Try.prog 23 #[.agg #[.int .i64 r.1, .int .i64 r.2], .int .i64 d] w fun e w' => e = .returned (.bool (con37 r d)) ∧ w' = (w.alloc (.cells #[.int .i64 r.1, .int .i64 r.2] 29)).alloc (.cells #[.int .i64 r.1, .int .i64 r.2] 29) := by
  refine callsIn_of_wp Try.func23 rfl h ?_ hro
  simp only [Try.ntmps23, List.size_toArray, List.length_cons, List.length_nil, Nat.reduceAdd, Nat.reduceSub, Array.replicate_succ, Array.replicate_zero, List.push_toArray, List.append_toArray, List.nil_append, List.cons_append]
  unfold con37
  have hc0 : ∀ o, ((w.alloc (.cells #[.int .i64 r.1, .int .i64 r.2] 29)).alloc o).cell? ⟨w.heap.size, 0, none⟩ = some (.int .i64 r.1) := fun o => by rw [World.cell?_of_block (w := w.alloc (.cells #[.int .i64 r.1, .int .i64 r.2] 29)) (a := ⟨w.heap.size, 0, none⟩) (Below.heap_alloc _ _ _ (by simp))]; simp
  have hc1 : ∀ o, ((w.alloc (.cells #[.int .i64 r.1, .int .i64 r.2] 29)).alloc o).cell? ⟨w.heap.size, 1, none⟩ = some (.int .i64 r.2) := fun o => by rw [World.cell?_of_block (w := w.alloc (.cells #[.int .i64 r.1, .int .i64 r.2] 29)) (a := ⟨w.heap.size, 1, none⟩) (Below.heap_alloc _ _ _ (by simp))]; simp
  by_cases h1 : val37 r = true
  · by_cases h2 : r.1 ≤ d
    · by_cases h3 : d < r.2
      · gi_wp2_with (gi_at_call 27; refine (valid_in F _ h27 hro r _).mono ?_; rintro e w' ⟨rfl, rfl⟩)
        go_ret
        exact ⟨by simp [h1, h2, h3], rfl⟩
      · gi_wp2_with (gi_at_call 27; refine (valid_in F _ h27 hro r _).mono ?_; rintro e w' ⟨rfl, rfl⟩)
        go_ret
        exact ⟨by simp [h1, h2, h3], rfl⟩
    · gi_wp2_with (gi_at_call 27; refine (valid_in F _ h27 hro r _).mono ?_; rintro e w' ⟨rfl, rfl⟩)
      go_ret
      exact ⟨by simp [h1, h2]; omega, rfl⟩
  · have h1 : val37 r = false := by simpa using h1
    gi_wp2_with (gi_at_call 27; refine (valid_in F _ h27 hro r _).mono ?_; rintro e w' ⟨rfl, rfl⟩)
    go_ret
    exact ⟨by simp [h1], rfl⟩


theorem cash_step (F : Fence) (n : Nat) (h26 : F.fn 26) (h20 : F.fn 20) (h23 : F.fn 23) (h27 : F.fn 27) (hro : F.round = none) (hn : 6 ≤ n) (l : List Po) (r : TDateRange) (A : Option Addr) (b off cap : Nat) (hA : l ≠ [] → A = some ⟨b, off, none⟩) (hlen : l.length ≤ 9223372036854775807) (w W0 : World) (hb : l ≠ [] → b < w.heap.size) (hc : PoAt w b off l) (s0 kd : Int) (Bl Bk : Nat) (Ds : List Nat) (ds : List Deferred) (u6 u8 u9 u10 u11 u12 u13 u14 u16 u17 u18 u19 u20 u21 u22 u23 u24 u25 u26 : Value) (Q : Exit → Act → World → Prop)
    (bM : W0.heap[w.heap.size]? = some (.cells #[.int .i64 r.1, .int .i64 r.2] 29 (0, 0))) (bS : Boxed W0 (w.heap.size + 1) 3 (.int .i64 s0)) (bL : Boxed W0 Bl 22 (.slice A l.length cap)) (bK : Boxed W0 Bk 3 (.int .i64 kd)) (hk1 : w.heap.size + 1 < Bk) (hB0 : Below w.heap.size w W0) (hD : Marks W0 Ds)
    (hK : ∀ (D : Nat) (W : World), W0.heap.size ≤ D → D < W.heap.size → W.heap[w.heap.size]? = some (.cells #[.int .i64 r.1, .int .i64 r.2] 29 (0, 0)) → Boxed W (w.heap.size + 1) 3 (.int .i64 (sumR (fun p => con37 r p.1) s0 (ofk kd l))) → Below w.heap.size w W → Marks W (D :: Ds) → Q .normal { tmps := #[.slice A l.length cap, .agg #[.int .i64 r.1, .int .i64 r.2], undef, .pointer (some ⟨w.heap.size, 0, none⟩), .int .i64 0, .pointer (some ⟨w.heap.size + 1, 0, none⟩), u6, .int .i64 kd, u8, u9, u10, u11, u12, u13, u14, .func (.func 26) #[] #[.pointer (some ⟨Bl, 0, none⟩), .pointer (some ⟨Bk, 0, none⟩)], u16, u17, u18, u19, u20, u21, u22, u23, u24, u25, u26], defers := ({ target := .collected D, args := #[] } :: ds) } W) :
    Code.wpIn F n Try.prog (Go.Code.rangeFunc (Go.Operand.tmp 15) #[16] (Go.Code.region 6 #[(Go.Oper.mk (some 8) (Go.Op.alloc 37) 0 "ledger.go:87" #[] none), (Go.Oper.mk none (Go.Op.store 37 (Go.Operand.tmp 8) (Go.Operand.tmp 16)) 0 "ledger.go:87" #[(Go.Edge.mk 0 Go.Ground.data), (Go.Edge.mk 0 Go.Ground.phase)] none)] Bool.false) (Go.Code.block 3 (Go.Code.seq (Go.Code.region 7 #[(Go.Oper.mk (some 17) (Go.Op.load 29 (Go.Operand.tmp 3)) 29 "ledger.go:88" #[] none), (Go.Oper.mk (some 18) (Go.Op.fieldAddr 37 (Go.Operand.tmp 8) 0) 0 "ledger.go:88" #[] none), (Go.Oper.mk (some 19) (Go.Op.load 3 (Go.Operand.tmp 18)) 3 "ledger.go:88" #[(Go.Edge.mk 1 Go.Ground.data)] none), (Go.Oper.mk (some 20) (Go.Op.call (Go.Call.mk (Go.Callee.value (Go.Operand.func 23)) #[(Go.Operand.tmp 17), (Go.Operand.tmp 19)] #[29, 3])) 4 "ledger.go:88" #[(Go.Edge.mk 0 Go.Ground.data), (Go.Edge.mk 2 Go.Ground.data)] none)] Bool.false) (Go.Code.cond (Go.Operand.tmp 20) (Go.Code.region 8 #[(Go.Oper.mk (some 21) (Go.Op.load 3 (Go.Operand.tmp 5)) 3 "ledger.go:89" #[] none), (Go.Oper.mk (some 22) (Go.Op.load 37 (Go.Operand.tmp 8)) 37 "ledger.go:89" #[] none), (Go.Oper.mk (some 23) (Go.Op.call (Go.Call.mk (Go.Callee.value (Go.Operand.func 20)) #[(Go.Operand.tmp 22)] #[37])) 3 "ledger.go:89" #[(Go.Edge.mk 1 Go.Ground.data)] none), (Go.Oper.mk (some 24) (Go.Op.binOp Go.BinOp.add 3 (Go.Operand.tmp 21) (Go.Operand.tmp 23) 3) 3 "ledger.go:89" #[(Go.Edge.mk 0 Go.Ground.data), (Go.Edge.mk 2 Go.Ground.data)] none), (Go.Oper.mk none (Go.Op.store 3 (Go.Operand.tmp 5) (Go.Operand.tmp 24)) 0 "ledger.go:89" #[(Go.Edge.mk 3 Go.Ground.data), (Go.Edge.mk 2 Go.Ground.chain), (Go.Edge.mk 0 Go.Ground.phase), (Go.Edge.mk 1 Go.Ground.phase), (Go.Edge.mk 2 Go.Ground.phase), (Go.Edge.mk 3 Go.Ground.phase)] none)] Bool.true) Go.Code.skip)))) Q { tmps := #[.slice A l.length cap, .agg #[.int .i64 r.1, .int .i64 r.2], undef, .pointer (some ⟨w.heap.size, 0, none⟩), .int .i64 0, .pointer (some ⟨w.heap.size + 1, 0, none⟩), u6, .int .i64 kd, u8, u9, u10, u11, u12, u13, u14, .func (.func 26) #[] #[.pointer (some ⟨Bl, 0, none⟩), .pointer (some ⟨Bk, 0, none⟩)], u16, u17, u18, u19, u20, u21, u22, u23, u24, u25, u26], defers := ds } W0 := by
  have hDl : ∀ d ∈ Ds, d < W0.heap.size := fun d hd => (Array.getElem?_eq_some_iff.1 (hD d hd)).1
  refine wpIn_rangeFunc_ownH hro (by omega) (gf := 26) (lb := #[.pointer (some ⟨Bl, 0, none⟩), .pointer (some ⟨Bk, 0, none⟩)]) rfl h26 (enters_of Try.func26 (by kernel_rfl) rfl)
    (ofk_stops F _ h26 hro (by omega) Bl Bk w.heap.size b off cap kd l A hA hlen hb W0 bL.lt hB0.size bL.cell bK (hc.below hb hB0)) kp_t (kp_b hB0.size bK.lt) (Below.refl _ _) (fun _ => rfl)
    (fun pre W => (((Boxed W (w.heap.size + 1) 3 (.int .i64 (sumR (fun p => con37 r p.1) s0 pre)) ∧ W.heap[w.heap.size]? = some (.cells #[.int .i64 r.1, .int .i64 r.2] 29 (0, 0))) ∧ Boxed W Bk 3 (.int .i64 kd)) ∧ Below w.heap.size w W) ∧ Marks W Ds)
    (fun _ _ _ => False)
    (OwnFrom.and (OwnFrom.and (OwnFrom.and (OwnFrom.and (Own.from (boxed_own _ _ _) _) (Own.from (fun s X Y row hs hg hrow => (hg.block _ (Array.getElem?_eq_some_iff.1 hs).1 (fun e' => by obtain ⟨o, ho, hc⟩ := hrow _ e'.symm; rw [hs] at ho; cases ho; cases hc)).trans hs) _)) (Own.from (boxed_own _ _ _) _)) (ownFrom_below (Nat.le_refl _) hB0.size)) (Marks.of hDl))
    (fun _ _ _ _ _ hs _ _ => hs)
    ⟨⟨⟨⟨bS, bM⟩, bK⟩, hB0⟩, hD⟩
    (fun x a' W => ∃ Bx, w.heap.size + 1 < Bx ∧ PBox W Bx x ∧ a' = { tmps := #[.slice A l.length cap, .agg #[.int .i64 r.1, .int .i64 r.2], undef, .pointer (some ⟨w.heap.size, 0, none⟩), .int .i64 0, .pointer (some ⟨w.heap.size + 1, 0, none⟩), u6, .int .i64 kd, .pointer (some ⟨Bx, 0, none⟩), u9, u10, u11, u12, u13, u14, .func (.func 26) #[] #[.pointer (some ⟨Bl, 0, none⟩), .pointer (some ⟨Bk, 0, none⟩)], encP x, u17, u18, u19, u20, u21, u22, u23, u24, u25, u26], defers := [] })
    (fun x a' _ X Y row hs hg hr => by obtain ⟨Bx, h1, h2, h3⟩ := hs; exact ⟨Bx, h1, PBox.own () X Y row h2 hg (fun r e => (hr r e).2), h3⟩)
    ?assign ?body ?done ?stop
  case assign =>
    rintro l' pre x W K ⟨⟨⟨⟨bS1, bM1⟩, bK1⟩, hB1⟩, hD1⟩ hK
    simp only [encP]
    gi_wp2
    have hbl : Below W.heap.size W (W.alloc (.cells #[.int .i64 x.1, .int .i64 x.2.1, .int .i64 x.2.2.1, .int .i64 x.2.2.2] 37)) := (Below.refl _ W).alloc (Nat.le_refl _) _
    exact hK _ _ (keeps_below hbl) (kp_below hB1.size bK1.lt hbl) ⟨⟨⟨⟨bS1.alloc _, (Below.heap_alloc W _ _ (Array.getElem?_eq_some_iff.1 bM1).1).trans bM1⟩, bK1.alloc _⟩, hB1.alloc hB1.size _⟩, hD1.below hbl⟩ ⟨W.heap.size, bS1.lt, World.alloc_heap_new W _, rfl⟩
  case body =>
    rintro l' pre x a' W hl' ⟨r', hr'⟩ ⟨⟨⟨⟨bS1, bM1⟩, bK1⟩, hB1⟩, hD1⟩ ⟨Bx, hBx, bX, rfl⟩ hlt
    have hmx : Try.prog.follows .mixedOrders = true := by kernel_rfl
    have hd : 1 ≤ n - 1 - 1 := by omega
    have hsz0 : w.heap.size ≤ W0.heap.size := hB0.size
    clear hK hD hDl bM bS bL hc hA hb hlen hB0 hr'
    clear hlt
    have hne : Bk ≠ w.heap.size + 1 := by omega
    have cM0 : W.cell? ⟨w.heap.size, 0, none⟩ = some (.int .i64 r.1) := by simp [World.cell?, bM1]
    have cM1 : W.cell? ⟨w.heap.size, 1, none⟩ = some (.int .i64 r.2) := by simp [World.cell?, bM1]
    obtain ⟨cX0, cX1, cX2, cX3⟩ := bX.cells
    have hW2 : Below W.heap.size W ((W.alloc (.cells #[.int .i64 r.1, .int .i64 r.2] 29)).alloc (.cells #[.int .i64 r.1, .int .i64 r.2] 29)) := ((Below.refl _ _).alloc (Nat.le_refl _) _).alloc (by simp) _
    have hB2 : Below w.heap.size w ((W.alloc (.cells #[.int .i64 r.1, .int .i64 r.2] 29)).alloc (.cells #[.int .i64 r.1, .int .i64 r.2] 29)) := hB1.trans (hW2.mono hB1.size)
    have bK2 : Boxed ((W.alloc (.cells #[.int .i64 r.1, .int .i64 r.2] 29)).alloc (.cells #[.int .i64 r.1, .int .i64 r.2] 29)) Bk 3 (.int .i64 kd) := (bK1.alloc _).alloc _
    have bS2 : Boxed ((W.alloc (.cells #[.int .i64 r.1, .int .i64 r.2] 29)).alloc (.cells #[.int .i64 r.1, .int .i64 r.2] 29)) (w.heap.size + 1) 3 (.int .i64 (sumR (fun p => con37 r p.1) s0 pre)) := (bS1.alloc _).alloc _
    have bM2 : ((W.alloc (.cells #[.int .i64 r.1, .int .i64 r.2] 29)).alloc (.cells #[.int .i64 r.1, .int .i64 r.2] 29)).heap[w.heap.size]? = some (.cells #[.int .i64 r.1, .int .i64 r.2] 29 (0, 0)) := heap2 bM1
    have hD2 : Marks ((W.alloc (.cells #[.int .i64 r.1, .int .i64 r.2] 29)).alloc (.cells #[.int .i64 r.1, .int .i64 r.2] 29)) Ds := marks2 hD1
    have bX2 : PBox ((W.alloc (.cells #[.int .i64 r.1, .int .i64 r.2] 29)).alloc (.cells #[.int .i64 r.1, .int .i64 r.2] 29)) Bx x := heap2 bX
    by_cases hx : con37 r x.1 = true
    · skip
      have hsn : (Value.int .i64 (sumR (fun p => con37 r p.1) s0 (pre ++ [x]))) = .int .i64 (IntKind.i64.wrap (sumR (fun p => con37 r p.1) s0 pre + amt x)) := by rw [sumR_snoc, if_pos hx]
      have hend := round_end hsn (B := W0.heap.size) hW2 hB1.size bS2 bM2 bK2 bK1.lt hB2 hD2 hne (.cells #[.int .i64 x.1, .int .i64 x.2.1, .int .i64 x.2.2.1, .int .i64 x.2.2.2] 37)
      clear hsn
      gi_wp2_with (gi_at_call 23; refine (CallsIn.inRound l' (contains_in F _ h23 h27 hro (by omega) r x.1 _)).mono ?_; rintro e w' ⟨rfl, rfl⟩)
      generalize ((W.alloc (.cells #[.int .i64 r.1, .int .i64 r.2] 29)).alloc (.cells #[.int .i64 r.1, .int .i64 r.2] 29)) = V at hend bS2 bX2 ⊢
      have cS := bS2.cell
      have fS := bS2.frozen
      obtain ⟨dX0, dX1, dX2, dX3⟩ := bX2.cells
      have cS2 : ∀ o, (V.drew.alloc o).cell? ⟨w.heap.size + 1, 0, none⟩ = _ := fun o => ((show Boxed V.drew _ _ _ from bS2).alloc o).cell
      have fS2 : ∀ o, (V.drew.alloc o).frozen? ⟨w.heap.size + 1, 0, none⟩ = false := fun o => ((show Boxed V.drew _ _ _ from bS2).alloc o).frozen
      have cS3 : ∀ o, (V.alloc o).cell? ⟨w.heap.size + 1, 0, none⟩ = _ := fun o => (bS2.alloc o).cell
      have fS3 : ∀ o, (V.alloc o).frozen? ⟨w.heap.size + 1, 0, none⟩ = false := fun o => (bS2.alloc o).frozen
      clear cM0 cM1 cX0 cX1 cX2 cX3 bS2 bX2 bS1 bM1 bK1 hB1 hD1 bX bK
      gi_region_with_o (gi_at_call 20; refine (CallsIn.inRound l' (amount_in F _ h20 hro x _)).mono ?_; rintro e w' ⟨rfl, rfl⟩)
      all_goals exact hend
    · have hx : con37 r x.1 = false := by simpa using hx
      gi_wp2_with (gi_at_call 23; refine (CallsIn.inRound l' (contains_in F _ h23 h27 hro (by omega) r x.1 _)).mono ?_; rintro e w' ⟨rfl, rfl⟩)
      exact ⟨keeps_below hW2, kp_below hB1.size bK1.lt hW2, ⟨⟨⟨⟨by rw [sumR_snoc, if_neg (by simp [hx])]; exact bS2, bM2⟩, bK2⟩, hB2⟩, hD2⟩⟩

  case done =>
    rintro D ys W hDD rfl ⟨⟨⟨⟨bS1, bM1⟩, bK1⟩, hB1⟩, hD1⟩ hKD
    exact hK D W hDD (Array.getElem?_eq_some_iff.1 hKD).1 bM1 bS1 hB1 (fun d hd => by rcases List.mem_cons.1 hd with rfl | hd; exact hKD; exact hD1 d hd)
  case stop =>
    rintro D c pre W _ _ h _
    exact h.elim


theorem cash_run (l : List Po) (r : TDateRange) (A : Option Addr) (b off cap : Nat) (hA : l ≠ [] → A = some ⟨b, off, none⟩) (hlen : l.length ≤ 9223372036854775807) (w : World) (hb : l ≠ [] → b < w.heap.size) (hc : PoAt w b off l) :
    Calls Try.prog 15 #[.slice A l.length cap, .agg #[.int .i64 r.1, .int .i64 r.2]] w fun e W' => e = .returned (.int .i64 (cashL r l)) ∧ Below w.heap.size w W' := by
  have jx0 := ix0
  have jx1 := ix1
  have jx2 := ix2
  refine (callsIn_wide (n := 6)).1 ?_
  refine callsIn_of_wp_marks Try.func15 rfl trivial ?_ rfl
  simp only [Try.ntmps15, List.size_toArray, List.length_cons, List.length_nil, Nat.reduceAdd, Nat.reduceSub, Array.replicate_succ, Array.replicate_zero, List.push_toArray, List.append_toArray, List.nil_append, List.cons_append]
  gi_wp2
  have bM : ((w.alloc (.cells #[.int .i64 r.1, .int .i64 r.2] 29)).alloc (.cells #[.int .i64 0] 3)).heap[w.heap.size]? = some (.cells #[.int .i64 r.1, .int .i64 r.2] 29 (0, 0)) := (Below.heap_alloc _ _ _ (by simp)).trans (World.alloc_heap_new w _)
  have bS : Boxed ((w.alloc (.cells #[.int .i64 r.1, .int .i64 r.2] 29)).alloc (.cells #[.int .i64 0] 3)) (w.heap.size + 1) 3 (.int .i64 0) := boxK
  have hB : Below w.heap.size w ((w.alloc (.cells #[.int .i64 r.1, .int .i64 r.2] 29)).alloc (.cells #[.int .i64 0] 3)) := below2 (Below.refl _ _)
  have hM : Marks ((w.alloc (.cells #[.int .i64 r.1, .int .i64 r.2] 29)).alloc (.cells #[.int .i64 0] 3)) [] := fun d hd => by simp at hd
  generalize ((w.alloc (.cells #[.int .i64 r.1, .int .i64 r.2] 29)).alloc (.cells #[.int .i64 0] 3)) = W0 at bM bS hB hM ⊢
  refine wpIn_loop_rounds 4 ?_
  rw [roundsIn_succ]
  gi_wp2_with (refine ⟨trivial, ?_⟩; gi_at_call 21; refine (ofkind_in Fence.wide _ trivial rfl _ _ _ _ _).mono ?_; rintro e w' ⟨rfl, rfl⟩)
  refine cash_step Fence.wide 6 trivial trivial trivial trivial rfl (by omega) l r A b off cap hA hlen w _ hb hc 0 1 W0.heap.size (W0.heap.size + 1) [] _  _ _ _ _ _ _ _ _ _ _ _ _ _ _ _ _ _ _ _ _ (heap2 bM) ((bS.alloc _).alloc _) ((Boxed.new W0 22 _).alloc _) boxK (by have := bS.lt; omega) (below2 hB) (marks2 hM) ?_
  intro D1 W1 hD1 hl1 bM1 bS1 hB1 hM1
  generalize hs1 : sumR (fun p => con37 r p.1) 0 (ofk 1 l) = s1 at bS1
  have hsz1 : W0.heap.size + 2 ≤ D1 := by simp at hD1; omega
  gi_wp2
  rw [roundsIn_succ]
  gi_wp2_with (refine ⟨trivial, ?_⟩; gi_at_call 21; refine (ofkind_in Fence.wide _ trivial rfl _ _ _ _ _).mono ?_; rintro e w' ⟨rfl, rfl⟩)
  refine cash_step Fence.wide 6 trivial trivial trivial trivial rfl (by omega) l r A b off cap hA hlen w _ hb hc s1 2 W1.heap.size (W1.heap.size + 1) [D1] _  _ _ _ _ _ _ _ _ _ _ _ _ _ _ _ _ _ _ _ _ (heap2 bM1) ((bS1.alloc _).alloc _) ((Boxed.new W1 22 _).alloc _) boxK (by have := bS1.lt; omega) (below2 hB1) (marks2 hM1) ?_
  intro D2 W2 hD2 hl2 bM2 bS2 hB2 hM2
  generalize hs2 : sumR (fun p => con37 r p.1) s1 (ofk 2 l) = s2 at bS2
  have hsz2 : W1.heap.size + 2 ≤ D2 := by simp at hD2; omega
  gi_wp2
  rw [roundsIn_succ]
  gi_wp2_with (refine ⟨trivial, ?_⟩; gi_at_call 21; refine (ofkind_in Fence.wide _ trivial rfl _ _ _ _ _).mono ?_; rintro e w' ⟨rfl, rfl⟩)
  refine cash_step Fence.wide 6 trivial trivial trivial trivial rfl (by omega) l r A b off cap hA hlen w _ hb hc s2 3 W2.heap.size (W2.heap.size + 1) [D2, D1] _  _ _ _ _ _ _ _ _ _ _ _ _ _ _ _ _ _ _ _ _ (heap2 bM2) ((bS2.alloc _).alloc _) ((Boxed.new W2 22 _).alloc _) boxK (by have := bS2.lt; omega) (below2 hB2) (marks2 hM2) ?_
  intro D3 W3 hD3 hl3 bM3 bS3 hB3 hM3
  generalize hs3 : sumR (fun p => con37 r p.1) s2 (ofk 3 l) = s3 at bS3
  have hsz3 : W2.heap.size + 2 ≤ D3 := by simp at hD3; omega
  gi_wp2
  have cS := bS3.cell
  rw [roundsIn_succ]
  gi_wp2
  have h3 := hM3 D3 (by simp)
  have h2 := hM3 D2 (by simp)
  have h1 := hM3 D1 (by simp)
  refine ⟨by simp, .inl ⟨_, _, rfl, run_takeDeferred h3, by simp, .inl ⟨_, _, rfl, run_takeDeferred ((World.putObj_heap_other (by omega)).trans h2), by simp, .inl ⟨_, _, rfl, run_takeDeferred ((World.putObj_heap_other (by omega)).trans ((World.putObj_heap_other (by omega)).trans h1)), ?_⟩⟩⟩⟩
  exact ⟨_, results_tmp rfl _ _ _, by rw [← hs3, ← hs2, ← hs1]; rw [sum_three, cash_three]; rfl, below_put (below_put (below_put hB3 (by have := hB2.size; omega)) (by have := hB1.size; omega)) (by have := hB.size; omega)⟩


theorem waived_ok (l : List Po) (m : Int) : Ct Try.prog 13 [.tv (rSlice rPosting) l, .raw (.int .i64 m)] (.raw (.int .i64 (waivL l m))) :=
  ⟨callFunc_enter Try.func13 rfl (by kernel_rfl), fun w ok0 vs hok ⟨v, vr, e, hv, v1, vr1, e1, h1, h2⟩ => by
    obtain ⟨cs, ⟨A, cap, rfl, hc1, hc2, hc3⟩, rfl⟩ := hv
    have h1 : v1 = .int .i64 m := h1; subst h1
    have h2 : vr1 = [] := h2
    subst h2 e1 e
    have hlen : l.length ≤ 9223372036854775807 := by simp only [maxLen] at hc2; omega
    have key : ∃ b off, (l ≠ [] → A = some ⟨b, off, none⟩) ∧ (l ≠ [] → b < w.heap.size) ∧ PoAt w b off l := by
      by_cases h0 : l = []
      · subst h0; exact ⟨0, 0, fun h => absurd rfl h, fun h => absurd rfl h, fun i p hp => by simp at hp⟩
      · obtain ⟨b, o, hA, hb, hcs⟩ := hc3 h0
        refine ⟨b, o, fun _ => hA, fun _ => hok b hb, fun i p hp => ?_⟩
        obtain ⟨cs, hr, hcells⟩ := hcs i p hp
        obtain ⟨c1, c2, rfl, rfl, e1, e2, rfl, rfl, e3, e4, rfl, rfl, rfl⟩ := hr
        exact ⟨hcells 0 _ rfl, hcells 1 _ rfl, hcells 2 _ rfl, hcells 3 _ rfl⟩
    obtain ⟨b, off, hA, hb, hP⟩ := key
    exact (waived_run l m A b off cap hA hlen w hb hP).mono (by rintro e W' ⟨rfl, hbel⟩; exact ⟨_, rfl, hbel, rfl⟩)⟩


theorem received_ok (l : List Po) (m : Int) : Ct Try.prog 11 [.tv (rSlice rPosting) l, .raw (.int .i64 m)] (.raw (.int .i64 (recvL l m))) :=
  ⟨callFunc_enter Try.func11 rfl (by kernel_rfl), fun w ok0 vs hok ⟨v, vr, e, hv, v1, vr1, e1, h1, h2⟩ => by
    obtain ⟨cs, ⟨A, cap, rfl, hc1, hc2, hc3⟩, rfl⟩ := hv
    have h1 : v1 = .int .i64 m := h1; subst h1
    have h2 : vr1 = [] := h2
    subst h2 e1 e
    have hlen : l.length ≤ 9223372036854775807 := by simp only [maxLen] at hc2; omega
    have key : ∃ b off, (l ≠ [] → A = some ⟨b, off, none⟩) ∧ (l ≠ [] → b < w.heap.size) ∧ PoAt w b off l := by
      by_cases h0 : l = []
      · subst h0; exact ⟨0, 0, fun h => absurd rfl h, fun h => absurd rfl h, fun i p hp => by simp at hp⟩
      · obtain ⟨b, o, hA, hb, hcs⟩ := hc3 h0
        refine ⟨b, o, fun _ => hA, fun _ => hok b hb, fun i p hp => ?_⟩
        obtain ⟨cs, hr, hcells⟩ := hcs i p hp
        obtain ⟨c1, c2, rfl, rfl, e1, e2, rfl, rfl, e3, e4, rfl, rfl, rfl⟩ := hr
        exact ⟨hcells 0 _ rfl, hcells 1 _ rfl, hcells 2 _ rfl, hcells 3 _ rfl⟩
    obtain ⟨b, off, hA, hb, hP⟩ := key
    exact (received_run l m A b off cap hA hlen w hb hP).mono (by rintro e W' ⟨rfl, hbel⟩; exact ⟨_, rfl, hbel, rfl⟩)⟩


theorem cash_ok (l : List Po) (r : TDateRange) : Ct Try.prog 15 [.tv (rSlice rPosting) l, .tv rDateRange r] (.raw (.int .i64 (cashL r l))) :=
  ⟨callFunc_enter Try.func15 rfl (by kernel_rfl), fun w ok0 vs hok ⟨v, vr, e, hv, v1, vr1, e1, h1, h2⟩ => by
    obtain ⟨cs, ⟨A, cap, rfl, hc1, hc2, hc3⟩, rfl⟩ := hv
    obtain ⟨cs, ⟨c1, c2, rfl, rfl, rfl⟩, rfl⟩ := h1
    have h2 : vr1 = [] := h2
    subst h2 e1 e
    have hlen : l.length ≤ 9223372036854775807 := by simp only [maxLen] at hc2; omega
    have key : ∃ b off, (l ≠ [] → A = some ⟨b, off, none⟩) ∧ (l ≠ [] → b < w.heap.size) ∧ PoAt w b off l := by
      by_cases h0 : l = []
      · subst h0; exact ⟨0, 0, fun h => absurd rfl h, fun h => absurd rfl h, fun i p hp => by simp at hp⟩
      · obtain ⟨b, o, hA, hb, hcs⟩ := hc3 h0
        refine ⟨b, o, fun _ => hA, fun _ => hok b hb, fun i p hp => ?_⟩
        obtain ⟨cs, hr, hcells⟩ := hcs i p hp
        obtain ⟨c1, c2, rfl, rfl, e1, e2, rfl, rfl, e3, e4, rfl, rfl, rfl⟩ := hr
        exact ⟨hcells 0 _ rfl, hcells 1 _ rfl, hcells 2 _ rfl, hcells 3 _ rfl⟩
    obtain ⟨b, off, hA, hb, hP⟩ := key
    exact (cash_run l r A b off cap hA hlen w hb hP).mono (by rintro e W' ⟨rfl, hbel⟩; exact ⟨_, rfl, hbel, rfl⟩)⟩

end Go.Proofs.Ytmpgmhcbhkhakaa
