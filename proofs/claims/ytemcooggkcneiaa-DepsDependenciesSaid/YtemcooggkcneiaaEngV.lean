import Derived.Test.YtemcooggkcneiaaEng12
set_option maxRecDepth 100000
set_option linter.unusedVariables false
set_option linter.unusedSimpArgs false
namespace Go.Eng
variable {P : Program} {cx : Cx} {st : St} {dst : Option Tmp} {ty : TypeId} {pos : String} {aft : Array Edge} {gd : Option (Nat × Bool)}
section
/-- a slice made that stays as it is -/
theorem op_makeV {α : Type} {T e : TypeId} {rt : RT α} {z : α} {x y : Operand} {kx ky : IntKind} {n : Nat} (ht : P.underlying T = some (.slice e)) (he : Ty P e rt) (hz : TyZero P e rt z) (hn1 : Nat.ble 1 rt.n = true) {by_ : Nat} (hby : (P.info? e).map (·.bytes) = some by_)
    (hx : Ev st x (.raw (.int kx (n : Int)))) (hy : Ev st y (.raw (.int ky (n : Int)))) (hb : by_ * n ≤ 281474976710656) (h63 : n ≤ maxLen) :
    Adr P cx st ⟨dst, .makeSlice T x y, ty, pos, aft, gd⟩ (.tv (rSlice rt) (List.replicate n z)) :=
  adr_later fun st' hag β a w hi => by
    have h1 := hi.raw (hag.ev (by simp [Op.operands]) hx)
    have h2 := hi.raw (hag.ev (by simp [Op.operands]) hy)
    obtain ⟨_, i0, hi0, hs⟩ := he
    obtain ⟨i1, v, hi1, hv, hval⟩ := hz
    have e0 : i1 = i0 := by rw [hi0] at hi1; injection hi1 with h; exact h.symm
    subst e0
    have hby' : i1.bytes = by_ := by simpa [hi0] using hby
    have h63' : (n : Int) ≤ 9223372036854775807 := by have := h63; simp only [maxLen] at this; omega
    have hr := run_make (P := P) w T e i1 v ht hi0 hv kx ky n n (by omega) (Int.le_refl _) (by rw [hby', ← Int.natCast_mul]; omega) h63'
    simp only [Int.toNat_natCast, hs] at hr
    have hbel : Below w.heap.size w (w.alloc (.cells (madeCells v.cells (n * rt.n)) e)) := (Below.refl _ _).alloc (Nat.le_refl _) _
    have hn1' : 1 ≤ rt.n := by simpa using hn1
    have hrep := rt.val_cells (hval w (okOf cx st'.heap β w))
    have hrl := rt.len hrep
    have hcs : v.cells.size = rt.n := by simpa using hrl
    refine ⟨.slice (some ⟨w.heap.size, 0, none⟩) n n, w.alloc (.cells (madeCells v.cells (n * rt.n)) e), by simp [execOp, h1, h2, hr], hbel, [.slice (some ⟨w.heap.size, 0, none⟩) n n], ⟨some ⟨w.heap.size, 0, none⟩, n, by simp, by simp, h63, fun hne => ⟨w.heap.size, 0, rfl, ?_, fun i x hix => ?_⟩⟩, by simp [rSlice]⟩
    · exact ⟨.inr (.inl hi.below.size), by simp, fun nm hb hh x hx e1 => by have := (hi.own nm hb hh x hx).2; omega⟩
    · have hin : i < n := by have := (List.getElem?_eq_some_iff.1 hix).1; simpa using this
      have : x = z := by rw [List.getElem?_replicate] at hix; simp [hin] at hix; exact hix.symm
      subst this
      refine ⟨_, rt.keep (fun b hb => ⟨⟨hb.1, by simp; have := hb.2.1; omega, hb.2.2⟩, hbel.block b hb.2.1⟩) hrep, fun j u hj => ?_⟩
      have hjl : j < rt.n := by rw [← hrl]; exact (List.getElem?_eq_some_iff.1 hj).1
      have hlt : i * rt.n + j < n * rt.n := by
        have : (i + 1) * rt.n ≤ n * rt.n := Nat.mul_le_mul_right _ hin
        rw [Nat.succ_mul] at this; omega
      have hmod : (i * rt.n + j) % v.cells.size = j := by rw [hcs, Nat.mul_comm, Nat.mul_add_mod, Nat.mod_eq_of_lt hjl]
      have hj' : v.cells[j]? = some u := by simpa using hj
      have hjs : j < v.cells.size := by rw [hcs]; exact hjl
      rw [Nat.zero_add, World.cell?_alloc_new]
      simp only [madeCells, Array.getElem?_map, Array.getElem?_range, if_pos hlt, Option.map_some, hmod]
      rw [getElem!_pos v.cells j hjs]
      rw [Array.getElem?_eq_getElem hjs] at hj'
      exact hj'

/-! ### slices whose room is just what they hold -/
def rSliceX {α : Type} (e : RT α) : RT (List α) where
  n := 1
  agg := false
  raw _ := none
  rep w ok cs xs := ∃ A, cs = [.slice A xs.length xs.length] ∧ xs.length ≤ maxLen ∧ SliceRep e w ok A xs
  len := by rintro w ok cs d ⟨A, rfl, _⟩; rfl
  one := by rintro w ok cs d ⟨A, rfl, _⟩ v hv; simp at hv; simp [hv, Value.oneCell']
  keep := by rintro w w' ok ok' cs d h ⟨A, rfl, h2, h3⟩; exact ⟨A, rfl, h2, h3.keep h⟩
  scal _ := rfl
  exact_ h := by simp at h
  exact' h := by simp at h
instance {α : Type} {a : RT α} : NM (rSliceX a) := ⟨rfl⟩
/-- what reads as the one reads as the other besides -/
structure Weak {α : Type} (r1 r2 : RT α) : Prop where
  n : r1.n = r2.n
  agg : r1.agg = r2.agg
  rep : ∀ w ok cs d, r1.rep w ok cs d → r2.rep w ok cs d
theorem Weak.refl {α : Type} (r : RT α) : Weak r r := ⟨rfl, rfl, fun _ _ _ _ h => h⟩
theorem weak_sliceX {α : Type} (r : RT α) : Weak (rSliceX r) (rSlice r) := ⟨rfl, rfl, fun _ _ _ d ⟨A, h1, h2, h3⟩ => ⟨A, d.length, h1, Nat.le_refl _, h2, h3⟩⟩
theorem Weak.pair {α γ : Type} {a a' : RT α} {b b' : RT γ} (h1 : Weak a a') (h2 : Weak b b') : Weak (rPair a b) (rPair a' b') :=
  ⟨by show a.n + b.n = a'.n + b'.n; rw [h1.n, h2.n], rfl, fun w ok cs d ⟨c1, c2, e, g1, g2⟩ => ⟨c1, c2, e, h1.rep _ _ _ _ g1, h2.rep _ _ _ _ g2⟩⟩
theorem Weak.val {α : Type} {r1 r2 : RT α} (h : Weak r1 r2) {w : World} {ok : Ok} {v : Value} {d : α} (hv : r1.val w ok v d) : r2.val w ok v d := by
  obtain ⟨cs, g1, g2⟩ := hv
  exact ⟨cs, h.rep _ _ _ _ g1, by rw [g2, h.agg]⟩
theorem adr_weak {o : Oper} {s s' : SV} (hs : ∀ (hp : List (Nat × HB)) β w v, s.holds β w (okOf cx hp β w) v → s'.holds β w (okOf cx hp β w) v) (h : Adr P cx st o s) : Adr P cx st o s' := by
  intro st' hag d hd hdn a w hi Q
  refine Oper.wp_mono (fun a' w' ⟨β, hb⟩ => ⟨β, hb.below, hb.old, hb.defers, hb.size, hb.own, hb.sep, hb.rows, fun i q hq => ?_⟩) (h st' hag d hd hdn a w hi Q)
  simp only [St.put, lookS_cons] at hq
  have h2 := hb.slots
  simp only [St.put, lookS_cons] at h2
  split at hq
  · rename_i e
    injection hq with hq
    obtain ⟨v, g1, g2⟩ := h2 i s (by rw [if_pos e])
    exact ⟨v, g1, hq ▸ hs _ _ _ _ g2⟩
  · rename_i e
    exact h2 i q (by rw [if_neg e]; exact hq)
/-- a load that reads less -/
theorem op_oloadW {α : Type} {rt rt2 : RT α} [NM rt] [NM rt2] {nm i : Nat} {xs : List α} {y : α} {x : Operand} {t : TypeId} (hw : Weak rt rt2) (hr : rt.raw y = none) (hr2 : rt2.raw y = none) (ht : Ty P t rt) (hx : Ev st x (.optr nm rt.n i 0)) (hn : lookH st.heap nm = some ⟨rt, xs⟩) (hy : xs[i]? = some y) :
    Adr P cx st ⟨dst, .load t x, ty, pos, aft, gd⟩ (.tv rt2 y) := by
  refine adr_weak (s := SV.of rt y) (fun hp β w v h => ?_) (op_oload ht hx hn hy (Lens.id rt))
  unfold SV.of at h
  rw [hr] at h
  exact hw.val h

/-! a row is read more weakly -/
theorem inv_weakH {α : Type} {rt rt2 : RT α} [h1 : NM rt] [h2 : NM rt2] {nm : Nat} {xs : List α} {a : Act} {w : World} (hw : Weak rt rt2) (hn : lookH st.heap nm = some ⟨rt, xs⟩) (hi : Inv cx st a w) : Inv cx ⟨st.slots, (nm, ⟨rt2, xs⟩) :: st.heap⟩ a w := by
  obtain ⟨β, hb⟩ := hi
  have hlook : ∀ k, (lookH ((nm, HB.mk rt2 xs) :: st.heap) k).isSome = true → (lookH st.heap k).isSome = true := fun k h => by
    rw [lookH_cons] at h
    split at h
    · rename_i e; subst e; rw [hn]; rfl
    · exact h
  have hok : ∀ b, okOf cx st.heap β w b → okOf cx ((nm, HB.mk rt2 xs) :: st.heap) β w b ∧ w.heap[b]? = w.heap[b]? := fun b ⟨g1, g2, g3⟩ => ⟨⟨g1, g2, fun k h hk => by
    obtain ⟨h', hh⟩ := Option.isSome_iff_exists.1 (hlook k (by rw [hk]; rfl))
    exact g3 k h' hh⟩, rfl⟩
  refine ⟨β, hb.below, hb.old, hb.defers, hb.size, fun k h hk => ?_, fun k k' h h' hk hk' => ?_, fun k h hk => ?_, fun i s hs => ?_⟩
  · obtain ⟨h', hh⟩ := Option.isSome_iff_exists.1 (hlook k (by rw [hk]; rfl))
    exact hb.own k h' hh
  · obtain ⟨g, hg⟩ := Option.isSome_iff_exists.1 (hlook k (by rw [hk]; rfl))
    obtain ⟨g', hg'⟩ := Option.isSome_iff_exists.1 (hlook k' (by rw [hk']; rfl))
    exact hb.sep k k' g g' hg hg'
  · rw [lookH_cons] at hk
    split at hk
    · rename_i e; subst e
      injection hk with hk; subst hk
      have h0 := HB.keep hok (fun _ _ => rfl) (hb.rows nm _ hn)
      unfold HB.holds at h0 ⊢
      cases hβ : β nm with
      | none => rw [hβ] at h0; exact h0
      | some x =>
        rw [hβ] at h0
        refine ⟨fun _ => ?_, fun q => absurd q (by show rt2.mp ≠ true; rw [h2.no]; decide)⟩
        obtain ⟨cur, e, g1, g2, g3⟩ := h0.1 h1.no
        refine ⟨cur, e, g1, by rw [← hw.n]; exact g2, fun i x hx => ?_⟩
        obtain ⟨cs, k1, k2⟩ := g3 i x hx
        exact ⟨cs, hw.rep _ _ _ _ k1, by rw [← hw.n]; exact k2⟩
    · exact HB.keep hok (fun _ _ => rfl) (hb.rows k h hk)
  · obtain ⟨v, g1, g2⟩ := hb.slots i s hs
    exact ⟨v, g1, SV.keep hok (fun nm _ => ⟨rfl, fun b o _ cur e fr hc => ⟨cur, e, fr, hc, rfl⟩⟩) g2⟩
theorem Ev.heapI {st : St} {hp : List (Nat × HB)} {x : Operand} {s : SV} (h : Ev st x s) : Ev ⟨st.slots, hp⟩ x s := h.tr (by cases x <;> rfl)
theorem Rd.heapI {α : Type} {st : St} {hp : List (Nat × HB)} {rt : RT α} {x : Operand} {d : α} (h : Rd st x rt d) : Rd ⟨st.slots, hp⟩ x rt d := h.tr (by cases x <;> rfl)
/-- a store into a row that is read more weakly from then on -/
theorem op_ostoreC {α γ : Type} {rt rt2 : RT α} [NM rt] [NM rt2] {rt' : RT γ} [NM rt'] {get : α → γ} {set : α → γ → α} {nm i f : Nat} {xs : List α} {y : α} {d : γ} {x v : Operand} {t : TypeId} (hw : Weak rt rt2) (ht : Ty P t rt') (hx : Ev st x (.optr nm rt.n i f)) (hn : lookH st.heap nm = some ⟨rt, xs⟩) (hy : xs[i]? = some y) (hl : Lens rt2 f rt' get set) (hv : Rd st v rt' d) :
    OS P cx ⟨none, .store t x v, ty, pos, aft, gd⟩ st ⟨st.slots, (nm, ⟨rt2, xs.set i (set y d)⟩) :: st.heap⟩ := by
  rintro a w hi Q
  have h0 := inv_weakH hw hn hi
  have hx2 : Ev ⟨st.slots, (nm, HB.mk rt2 xs) :: st.heap⟩ x (.optr nm rt2.n i f) := by rw [← hw.n]; exact hx.heapI
  refine Oper.wp_mono (fun a' w' ⟨β, hb⟩ => ⟨β, InvB.toHeap hb (fun i s h => ?_)⟩) (op_ostore (st := ⟨st.slots, (nm, HB.mk rt2 xs) :: st.heap⟩) ht hx2 (by rw [lookH_cons, if_pos rfl]) hy hl hv.heapI a w h0 Q)
  simp only [lookH_cons] at h ⊢
  split at h
  · rename_i e; rw [if_pos e]; exact h
  · rename_i e; rw [if_neg e, if_neg e]; exact h
theorem gh_storeC {ops : Array Oper} {α γ : Type} {rt rt2 : RT α} [NM rt] [NM rt2] {rt' : RT γ} [NM rt'] {get : α → γ} {set : α → γ → α} {nm i f : Nat} {xs : List α} {y : α} {d : γ} {x v : Operand} {t : TypeId} (hw : Weak rt rt2) (ht : Ty P t rt') (hx : Ev st x (.optr nm rt.n i f)) (hn : lookH st.heap nm = some ⟨rt, xs⟩) (hy : xs[i]? = some y) (hl : Lens rt2 f rt' get set) (hv : Rd st v rt' d) :
    GH P cx ops st ⟨none, .store t x v, ty, pos, aft, none⟩ (none, some (nm, ⟨rt2, xs.set i (set y d)⟩)) [nm] [] := by
  intro st' hag _ a w hi Q
  rw [if_pos (by simp [Region.wanted])]
  exact op_ostoreC hw ht (hag.ev (by simp [Op.operands]) hx) ((hag.heap nm (by simp)).trans hn) hy hl (hv.tr (hag.evs (by simp [Op.operands]))) a w hi Q
/-- a slice written out: its room is known -/
theorem op_bsliceX {α : Type} {T e : TypeId} {rt : RT α} {ps : List (Nat × Operand)} {ds : List α} {z : α} {n : Nat} (ht : P.underlying T = some (.slice e)) (he : Ty P e rt) (hz : TyZero P e rt z) (hn : ps.length = n) (hr : RowRd st rt 0 ps ds) (h1 : Nat.ble 1 rt.n = true) (hb : Nat.ble (n * rt.n) 16777216 = true) :
    Adr P cx st ⟨dst, .buildSlice T n ps.toArray, ty, pos, aft, gd⟩ (.tv (rSliceX rt) ds) :=
  adr_later fun st' hag' β a w hi => by
    subst hn
    have hb' : ps.length * rt.n ≤ 16777216 := by simpa using hb
    obtain ⟨cells, h2, h3, h4⟩ := run_bslice (P := P) ht he hz hr (fun x hx => hag'.ops x (by simpa [Op.operands] using hx)) hi hb'
    have hl := hr.len
    have hbel : Below w.heap.size w (w.alloc (.cells cells e)) := (Below.refl _ _).alloc (Nat.le_refl _) _
    have h1' : 1 ≤ rt.n := by simpa using h1
    have hpl : ps.length ≤ maxLen := by
      have : ps.length ≤ ps.length * rt.n := Nat.le_mul_of_pos_right _ h1'
      simp only [maxLen]; omega
    refine ⟨.slice (some ⟨w.heap.size, 0, none⟩) ps.length ps.length, w.alloc (.cells cells e), by
      change ((Instr.buildSlice T ps.length (ps.toArray.map fun p => (p.1, a.eval p.2))) >>= fun v => pure (Next.value v)).run P w = _
      rw [Sem.run_bind, h2]; rfl, hbel, [.slice (some ⟨w.heap.size, 0, none⟩) ps.length ps.length], ⟨some ⟨w.heap.size, 0, none⟩, by rw [hl], by omega, fun hne => ⟨w.heap.size, 0, rfl, ?_, fun i x hx => ?_⟩⟩, by simp [rSliceX]⟩
    · exact ⟨.inr (.inl hi.below.size), by simp, fun nm hb hh x hx e1 => by have := (hi.own nm hb hh x hx).2; omega⟩
    · obtain ⟨cs, h5, h6⟩ := h4 i x hx
      refine ⟨cs, rt.keep (fun b hb => ⟨⟨hb.1, by simp; have := hb.2.1; omega, hb.2.2⟩, hbel.block b hb.2.1⟩) h5, fun j u hj => ?_⟩
      rw [World.cell?_alloc_new]
      simpa using h6 j u hj
/-- append to a slice without room -/
theorem op_appendX {α : Type} {rt : RT α} [NM rt] {z : α} {x y : Operand} {t e : TypeId} {xs ys : List α} {by_ : Nat} (ht : P.underlying t = some (.slice e)) (he : Ty P e rt) (hz : TyZero P e rt z) (hn1 : Nat.ble 1 rt.n = true)
    (hby : (P.info? e).map (·.bytes) = some by_) (hx : Rd st x (rSliceX rt) xs) (hy : Rd st y (rSlice rt) ys) (hne : ys ≠ []) (hnx : xs ≠ [])
    (h63 : xs.length + ys.length ≤ maxLen) (hb : (xs.length + ys.length) * by_ ≤ 140737488355328) :
    Adr P cx st ⟨dst, .call { callee := .builtin .append, args := #[x, y], argTypes := #[t, t] }, ty, pos, aft, gd⟩ (.tv (rSlice rt) (xs ++ ys)) :=
  adr_later fun st' hag β a w hi => by
    have hn1' : 1 ≤ rt.n := by simpa using hn1
    obtain ⟨xcs, ⟨Ax, rfl, hx1, hx2⟩, hxv0⟩ := (hx.tr (hag.ops x (by simp [Op.operands, Call.operands]))).val hi
    obtain ⟨ycs, ⟨Ay, cap', rfl, hy1, hy2, hy3⟩, hyv0⟩ := (hy.tr (hag.ops y (by simp [Op.operands, Call.operands]))).val hi
    have hxv : a.eval x = .slice Ax xs.length xs.length := by rw [hxv0]; simp [rSliceX]
    have hyv : a.eval y = .slice Ay ys.length cap' := by rw [hyv0]; simp [rSlice]
    clear hxv0 hyv0
    obtain ⟨_, i0, hi0, hs⟩ := he
    obtain ⟨i1, zv, hi1, hzv, hzval⟩ := hz
    have e0 : i1 = i0 := by rw [hi0] at hi1; injection hi1 with h; exact h.symm
    subst e0
    have hby' : i1.bytes = by_ := by simpa [hi0] using hby
    have hnb : (xs.length + ys.length) * i1.bytes ≤ 140737488355328 := by rw [hby']; exact hb
    have hzs : zv.cells.size = rt.n := by have := rt.len (rt.val_cells (hzval w (fun _ => True))); simpa using this
    have hml : xs.length + ys.length ≤ 9223372036854775807 := by have := h63; simp only [maxLen] at this; omega
    obtain ⟨bx, ox, rfl, hokx, hcx⟩ := hx2 hnx
    obtain ⟨by', oy, rfl, hoky, hcy⟩ := hy3 hne
    obtain ⟨olds, ho2, ho3, ho4, ho5⟩ := cells_of hn1' hcx
    obtain ⟨news, hn2, hn3, hn4, hn5⟩ := cells_of hn1' hcy
    have hpos : 0 < ys.length := List.length_pos_iff.2 hne
    have hgrow := run_append_grow (P := P) w t ty e i1 zv ht hi0 hzv ⟨bx, ox, none⟩ xs.length xs.length olds (by rw [ho2, hs]) (fun j v hj => by rw [Addr.add_lit]; exact ho3 j v hj) ⟨by', oy, none⟩ ys.length cap' news (by rw [hn2, hs]) (fun j v hj => by rw [Addr.add_lit]; exact hn3 j v hj) (by omega) (by omega) (growslice_fits (by omega) hnb)
    have hcge := grownCap_ge w (xs.length + ys.length) xs.length e
    have hcle := grownCap_le_maxLen w (xs.length + ys.length) xs.length e h63
    generalize grownCap w (xs.length + ys.length) xs.length e = cap at hgrow hcge hcle
    have hbel : Below w.heap.size w (w.drew.alloc (.cells (olds.toArray ++ news.toArray ++ Builtin.zeroCells zv.cells (cap - (xs.length + ys.length))) e)) := (Below.drew' w).alloc (by simp) _
    have hrun : (execOp a.eval ⟨dst, .call { callee := .builtin .append, args := #[x, y], argTypes := #[t, t] }, ty, pos, aft, gd⟩).run P w = .ok (.value (.slice (some ⟨w.heap.size, 0, none⟩) (xs.length + ys.length) cap)) (w.drew.alloc (.cells (olds.toArray ++ news.toArray ++ Builtin.zeroCells zv.cells (cap - (xs.length + ys.length))) e)) := by
      simp only [execOp, resolve, invoke, builtin, List.map_toArray, List.map_cons, List.map_nil, hxv, hyv, Sem.run_bind]
      simp [hgrow, hxv, hyv]
    refine ⟨.slice (some ⟨w.heap.size, 0, none⟩) (xs.length + ys.length) cap, _, hrun, hbel, [.slice (some ⟨w.heap.size, 0, none⟩) (xs.length + ys.length) cap], ⟨some ⟨w.heap.size, 0, none⟩, cap, by simp, by simp; omega, hcle, fun _ => ⟨w.heap.size, 0, rfl, ?_, fun i x hix => ?_⟩⟩, by simp [rSlice]⟩
    · exact ⟨.inr (.inl hi.below.size), by simp, fun nm hb hh x hx e1 => by have := (hi.own nm hb hh x hx).2; omega⟩
    · have hget : ∀ q, q < (xs.length + ys.length) * rt.n → (olds.toArray ++ news.toArray ++ Builtin.zeroCells zv.cells (cap - (xs.length + ys.length)))[q]? = (olds ++ news)[q]? := by
        intro q hq
        rw [Array.getElem?_append_left (by simp only [Array.size_append, List.size_toArray, ho2, hn2, ← Nat.add_mul]; exact hq)]
        simp
      have hkeep : ∀ {cs : List Value} {x : α}, rt.rep w (okOf cx st'.heap β w) cs x → rt.rep (w.drew.alloc (.cells (olds.toArray ++ news.toArray ++ Builtin.zeroCells zv.cells (cap - (xs.length + ys.length))) e)) (okOf cx st'.heap β (w.drew.alloc (.cells (olds.toArray ++ news.toArray ++ Builtin.zeroCells zv.cells (cap - (xs.length + ys.length))) e))) cs x := fun h5 => rt.keep (fun b hb => ⟨⟨hb.1, by simp; have := hb.2.1; omega, hb.2.2⟩, hbel.block b hb.2.1⟩) h5
      have hcell : ∀ q u, (olds ++ news)[q]? = some u → q < (xs.length + ys.length) * rt.n → (w.drew.alloc (.cells (olds.toArray ++ news.toArray ++ Builtin.zeroCells zv.cells (cap - (xs.length + ys.length))) e)).cell? ⟨w.heap.size, q, none⟩ = some u := fun q u h hq => by
        have := World.cell?_alloc_new w.drew (olds.toArray ++ news.toArray ++ Builtin.zeroCells zv.cells (cap - (xs.length + ys.length))) e q
        rw [hget q hq, h] at this
        exact this
      rcases Nat.lt_or_ge i xs.length with h | h
      · rw [List.getElem?_append_left h] at hix
        obtain ⟨cs, h1, h2⟩ := ho5 i x hix
        refine ⟨cs, hkeep h1, fun j u hj => ?_⟩
        have h3 := h2 j u hj
        have h4 := (List.getElem?_eq_some_iff.1 h3).1
        rw [Nat.zero_add]
        exact hcell _ u (by rw [List.getElem?_append_left h4]; exact h3) (by rw [ho2] at h4; rw [Nat.add_mul]; omega)
      · rw [List.getElem?_append_right h] at hix
        obtain ⟨cs, h1, h2⟩ := hn5 (i - xs.length) x hix
        refine ⟨cs, hkeep h1, fun j u hj => ?_⟩
        have h3 := h2 j u hj
        have h4 := (List.getElem?_eq_some_iff.1 h3).1
        have h5 : i * rt.n = xs.length * rt.n + (i - xs.length) * rt.n := by rw [← Nat.add_mul]; congr 1; omega
        rw [Nat.zero_add]
        exact hcell _ u (by rw [List.getElem?_append_right (by rw [ho2]; omega), ho2, show i * rt.n + j - xs.length * rt.n = (i - xs.length) * rt.n + j by omega]; exact h3) (by rw [hn2] at h4; rw [Nat.add_mul]; omega)
end
end Go.Eng
