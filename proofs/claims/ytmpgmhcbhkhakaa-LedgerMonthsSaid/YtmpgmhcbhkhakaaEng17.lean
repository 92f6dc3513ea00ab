import Derived.Test.YtmpgmhcbhkhakaaEng16
import Derived.Test.YtmpgmhcbhkhakaaEng11
import Derived.Maps.OwnSet
import Derived.Carry
namespace Go.Eng
open Go.RowKit (Below)
open Go.Maps (Keyed IsMap)
open Go.MapKept
set_option linter.unusedSimpArgs false

/-! ### the call's own maps: keys are int, elements of a plain type -/
/-- how an element's type is read -/
structure ElT (P : Program) (e : TypeId) (γ : Type) (z : γ) where
  enc : γ → Value
  lit : γ → Lit
  ok : γ → Prop
  zok : ok z
  read : ∀ x, ok x → plainElem (H := Unit) P e (enc x) = some (.lit (lit x), [])
  back : ∀ v x ps, plainElem (H := Unit) P e v = some (.lit (lit x), ps) → v = enc x
  zero : ∀ w, (zeroValue e).run P w = .ok (enc z) w

def elInt {P : Program} {e : TypeId} (he : P.underlying e = some (.int .i64)) (hz : ∀ w, (zeroValue e).run P w = .ok (.int .i64 0) w) : ElT P e Int 0 where
  enc x := .int .i64 x
  lit x := .int .i64 x
  ok x := (Lit.int .i64 x).wf = true
  zok := by decide
  read x hx := plainElem_int he hx
  back v x ps h := by
    obtain ⟨a, h1, h2, _⟩ := plainElem_int_inv he h
    simp only [Prod.mk.injEq, DataW.lit.injEq, Lit.int.injEq] at h2
    rw [h1, h2.1.2]
  zero := hz
def elBool {P : Program} {e : TypeId} (he : P.underlying e = some .bool) (hz : ∀ w, (zeroValue e).run P w = .ok (.bool false) w) : ElT P e Bool false where
  enc x := .bool x
  lit x := .bool x
  ok _ := True
  zok := trivial
  read x _ := plainElem_bool he x
  back v x ps h := by
    unfold plainElem at h
    rw [he] at h
    cases v <;> simp at h
    obtain ⟨rfl, rfl⟩ := h
    rfl
  zero := hz

def upd {γ : Type} (f : Int → γ) (k : Int) (v : γ) : Int → γ := fun i => if i = k then v else f i

section
variable {P : Program} {cx : Cx} {st st' : St} {β : Loc} {a : Act} {w w' : World} {ops : Array Oper} {k : Kn} {c : Code}
variable {dst : Option Tmp} {ty : TypeId} {pos : String} {aft : Array Edge} {gd : Option (Nat × Bool)}
variable {kt et : TypeId} {γ : Type} {z : γ}

def rMap (P : Program) (kt et : TypeId) (E : ElT P et γ z) : RT (Nat × (Int → γ)) where
  n := 0
  agg := true
  raw _ := none
  rep _ _ _ _ := False
  len h := h.elim
  one h := h.elim
  keep _ h := h.elim
  scal h := by simp at h
  exact_ h := by simp at h
  exact' h := by simp at h
  mp := true
  mrep obj d := (∀ i, E.ok (d.2 i)) ∧ ∃ D : DataW Unit, IsMap D ∧ (∀ (w : World) (b : Nat), w.heap[b]? = some obj → w.ownsMap P kt (plainElem P et) b d.1 D) ∧ ∀ i : Int, (Lit.int .i64 i).wf = true → D.atKey (.int .i64 i) (.lit (E.lit z)) = .lit (E.lit (d.2 i))

/-- a new row, at a block of its own or at none -/
theorem InvB.fresh (hi : InvB cx st β a w) {nm : Nat} {hb0 : HB} {l : Option (Nat × Nat)} (hf : freeS nm st.slots = true) (hb : Below w.heap.size w w') (hl1 : ∀ x, l = some x → w.heap.size ≤ x.1 ∧ x.1 < w'.heap.size)
    (hl2 : hb0.holds w' (okOf cx ((nm, hb0) :: st.heap) (fun k => if k = nm then l else β k) w') l) : InvB cx ⟨st.slots, (nm, hb0) :: st.heap⟩ (fun k => if k = nm then l else β k) a w' := by
  have hl := hi.later hb
  have hok : ∀ b, okOf cx st.heap β w b → okOf cx ((nm, hb0) :: st.heap) (fun k => if k = nm then l else β k) w' b ∧ w'.heap[b]? = w.heap[b]? := by
    rintro b ⟨h1, h2, h3⟩
    refine ⟨⟨h1, Nat.lt_of_lt_of_le h2 hb.size, fun k hb' hk x hx => ?_⟩, hb.block b h2⟩
    rw [lookH_cons] at hk
    by_cases e1 : k = nm
    · subst e1; simp at hx; have := (hl1 x hx).1; omega
    · rw [if_neg (Ne.symm e1)] at hk
      simp only [if_neg e1] at hx
      exact h3 k hb' hk x hx
  refine ⟨hl.below, hl.old, hl.defers, hl.size, fun k hb' hk x hx => ?_, fun k k' h1 h2 hk hk' x y hx hy hxy => ?_, fun k hb' hk => ?_, fun i s hs => ?_⟩
  · by_cases e1 : k = nm
    · subst e1; simp at hx; have := hl1 x hx; exact ⟨Nat.le_trans hi.below.size this.1, this.2⟩
    · rw [lookH_cons, if_neg (Ne.symm e1)] at hk
      simp only [if_neg e1] at hx
      exact hl.own k hb' hk x hx
  · rw [lookH_cons] at hk hk'
    by_cases e1 : k = nm <;> by_cases e2 : k' = nm
    · rw [e1, e2]
    · subst e1
      rw [if_neg (Ne.symm e2)] at hk'
      simp only [if_pos] at hx
      simp only [if_neg e2] at hy
      have g1 := (hl1 x hx).1
      have g2 := (hi.own k' _ hk' y hy).2
      omega
    · subst e2
      rw [if_neg (Ne.symm e1)] at hk
      simp only [if_pos] at hy
      simp only [if_neg e1] at hx
      have g1 := (hl1 y hy).1
      have g2 := (hi.own k _ hk x hx).2
      omega
    · rw [if_neg (Ne.symm e1)] at hk
      rw [if_neg (Ne.symm e2)] at hk'
      simp only [if_neg e1] at hx
      simp only [if_neg e2] at hy
      exact hi.sep k k' _ _ hk hk' x y hx hy hxy
  · rw [lookH_cons] at hk
    by_cases e1 : k = nm
    · subst e1
      rw [if_pos rfl] at hk
      injection hk with hk; subst hk
      simp only [if_pos]; exact hl2
    · rw [if_neg (Ne.symm e1)] at hk
      simp only [if_neg e1]
      exact HB.keep hok (fun x hx => hb.block _ (hi.own k hb' hk x hx).2) (hi.rows k hb' hk)
  · obtain ⟨u, h1, h2⟩ := hi.slots i s hs
    have hfree := freeS_look hf hs
    refine ⟨u, h1, SV.keep hok (fun k hk => ?_) h2⟩
    have hne : k ≠ nm := by rintro rfl; rw [hfree] at hk; cases hk
    refine ⟨by simp [hne], fun b o hbo cur e' fr hcur => ⟨cur, e', fr, ?_, rfl⟩⟩
    rw [hb.block b (InvB.cell_lt hcur)]; exact hcur

theorem op_makeMap {T : TypeId} (E : ElT P et γ z) {d : Nat} (hd : Nat.blt d cx.n = true) (hf : freeS d st.slots = true) :
    OS P cx ⟨some d, .makeMap T none, ty, pos, aft, gd⟩ st ⟨(d, .mref d) :: st.slots, (d, ⟨rMap P kt et E, [(0, fun _ => z)]⟩) :: st.heap⟩ := by
  rintro a w ⟨β, hi⟩ Q
  have hrun : (execOp a.eval ⟨some d, .makeMap T none, ty, pos, aft, gd⟩).run P w = .ok (.value (.map (some w.heap.size))) (w.alloc (.map #[] 0)) := by
    simp [execOp, Go.RowKit.run_makeMap]
  unfold Oper.wp
  rw [hrun, Oper.upon_value]
  have hb : Below w.heap.size w (w.alloc (.map #[] 0)) := (Below.refl _ _).alloc (Nat.le_refl _) _
  have := hi.fresh (nm := d) (hb0 := ⟨rMap P kt et E, [(0, fun _ => z)]⟩) (l := some (w.heap.size, 0)) hf hb (fun x h => by injection h with h; subst h; exact ⟨Nat.le_refl _, by simp⟩)
    ⟨fun h => by simp [rMap] at h, fun _ => ⟨(0, fun _ => z), .map #[] 0, rfl, heap_alloc_new w _, fun _ => E.zok, .map [], ⟨[], rfl⟩, fun w1 b1 h1 => ?_, fun i _ => rfl⟩⟩
  · exact ⟨_, this.put (by simpa using hd) ⟨w.heap.size, 0, by simp, rfl⟩⟩
  · obtain ⟨es, clock, h2, h3, h4, h5⟩ := World.ownsMap_made (H := Unit) w P kt (plainElem P et)
    have e0 := heap_alloc_new w (.map #[] 0)
    rw [e0] at h2
    injection h2 with h2
    exact ⟨es, clock, by rw [h1, h2], h3, h4, h5⟩

theorem map_at (hi : InvB cx st β a w) {nm : Nat} {E : ElT P et γ z} {n : Nat} {f : Int → γ} {x : Operand} (hx : Ev st x (.mref nm)) (hn : lookH st.heap nm = some ⟨rMap P kt et E, [(n, f)]⟩) :
    ∃ b o, β nm = some (b, o) ∧ a.eval x = .map (some b) ∧ (∀ i, E.ok (f i)) ∧ ∃ D : DataW Unit, IsMap D ∧ w.ownsMap P kt (plainElem P et) b n D ∧ ∀ i : Int, (Lit.int .i64 i).wf = true → D.atKey (.int .i64 i) (.lit (E.lit z)) = .lit (E.lit (f i)) := by
  obtain ⟨b, o, h1, h2⟩ := hi.ev hx
  have hr := hi.rows nm _ hn
  rw [h1] at hr
  obtain ⟨D, obj, h3, h4, h5, D', h6, h7, h8⟩ := hr.2 rfl
  injection h3 with h3 _
  subst h3
  exact ⟨b, o, h1, h2, h5, D', h6, h7 w b h4, h8⟩

theorem op_lookup {T : TypeId} {nm : Nat} {E : ElT P et γ z} {n : Nat} {f : Int → γ} {x y : Operand} {i : Int} (hT : P.underlying T = some (.map kt et)) (hk : P.underlying kt = some (.int .i64)) (hx : Ev st x (.mref nm)) (hn : lookH st.heap nm = some ⟨rMap P kt et E, [(n, f)]⟩)
    (hy : Ev st y (.raw (.int .i64 i))) (hw : (Lit.int .i64 i).wf = true) : Adr P cx st ⟨dst, .lookup T x y false, ty, pos, aft, gd⟩ (.raw (E.enc (f i))) :=
  adr_still fun st' hag β a w hi => by
    obtain ⟨b, o, h1, h2, h3, D, h4, h5, h6⟩ := map_at hi (hag.ev (by simp [Op.operands]) hx) ((hag.look (by simp [Op.operands]) hx (by simp [SV.free])).trans hn)
    have h7 := hi.raw (hag.ev (by simp [Op.operands]) hy)
    obtain ⟨v, ps, h8, h9⟩ := h5.lookup (Maps.int_keyed hk) hT (E.zero w) (E.read z E.zok) (Maps.keyOf_int_mk hk hw)
    rw [h6 i hw] at h9
    have := E.back v _ ps h9
    subst this
    exact ⟨E.enc (f i), by simp [execOp, h2, h7, h8], rfl⟩

/-- one of the call's own blocks turns -/
theorem InvB.turnMap (hi : InvB cx st β a w) {nm b o : Nat} {α α' : Type} {rt : RT α} {rt' : RT α'} {xs : List α} {xs' : List α'} {obj : Obj} (hn : lookH st.heap nm = some ⟨rt, xs⟩) (hb : β nm = some (b, o)) (hobj : w.heap[b]? = some obj) (hnc : ∀ cur e fr, obj ≠ .cells cur e fr)
    (hg : w.grownBy w' (some b)) (hh : (HB.mk rt' xs').holds w' (okOf cx ((nm, ⟨rt', xs'⟩) :: st.heap) β w') (some (b, o))) : InvB cx ⟨st.slots, (nm, ⟨rt', xs'⟩) :: st.heap⟩ β a w' := by
  have hown := hi.own nm _ hn _ hb
  have hothers : ∀ k hb', lookH st.heap k = some hb' → k ≠ nm → ∀ x, β k = some x → x.1 ≠ b := fun k hb' hk hne x hx e1 => hne (hi.sep k nm _ _ hk hn x (b, o) hx hb e1)
  have hbl : ∀ k, k < w.heap.size → k ≠ b → w'.heap[k]? = w.heap[k]? := fun k hk hne => hg.block k hk (fun e => hne (by injection e))
  have hh0 : ∀ k, lookH ((nm, ⟨rt', xs'⟩) :: st.heap) k = if nm = k then some ⟨rt', xs'⟩ else lookH st.heap k := fun k => lookH_cons _ _ _ _
  have hok : ∀ b', okOf cx st.heap β w b' → okOf cx ((nm, ⟨rt', xs'⟩) :: st.heap) β w' b' ∧ w'.heap[b']? = w.heap[b']? := by
    rintro b' ⟨h1, h2, h3⟩
    have hne : b' ≠ b := fun e1 => h3 nm _ hn _ hb e1.symm
    refine ⟨⟨h1, Nat.lt_of_lt_of_le h2 hg.size, fun k hb' hk x hx => ?_⟩, hbl b' h2 hne⟩
    rw [hh0] at hk
    by_cases e1 : nm = k
    · subst e1; rw [hb] at hx; injection hx with hx; subst hx; exact fun e2 => hne e2.symm
    · rw [if_neg e1] at hk
      exact h3 k hb' hk x hx
  refine ⟨⟨hg.os.trans hi.below.os, hg.tape.trans hi.below.tape, hg.output.trans hi.below.output, Nat.le_trans hi.below.size hg.size, fun k hk => ?_⟩, hi.old, hi.defers, hi.size, fun k hb' hk x hx => ?_, fun k k' h1 h2 hk hk' x y hx hy hxy => ?_, fun k hb' hk => ?_, fun i s hs' => ?_⟩
  · have h0 : cx.w0.heap.size ≤ b := hown.1
    rw [hbl k (Nat.lt_of_lt_of_le hk hi.below.size) (by omega)]; exact hi.below.block k hk
  · rw [hh0] at hk
    by_cases e1 : nm = k
    · subst e1; have := hi.own nm _ hn x hx; exact ⟨this.1, Nat.lt_of_lt_of_le this.2 hg.size⟩
    · rw [if_neg e1] at hk
      have := hi.own k hb' hk x hx
      exact ⟨this.1, Nat.lt_of_lt_of_le this.2 hg.size⟩
  · rw [hh0] at hk hk'
    by_cases e1 : nm = k <;> by_cases e2 : nm = k'
    · rw [← e1, ← e2]
    · subst e1; rw [if_neg e2] at hk'; exact hi.sep _ k' _ _ hn hk' x y hx hy hxy
    · subst e2; rw [if_neg e1] at hk; exact hi.sep k _ _ _ hk hn x y hx hy hxy
    · rw [if_neg e1] at hk; rw [if_neg e2] at hk'; exact hi.sep k k' _ _ hk hk' x y hx hy hxy
  · rw [hh0] at hk
    by_cases e1 : nm = k
    · subst e1
      rw [if_pos rfl] at hk
      injection hk with hk; subst hk
      rw [hb]; exact hh
    · rw [if_neg e1] at hk
      exact HB.keep hok (fun x hx => hbl _ (hi.own k hb' hk x hx).2 (hothers k _ hk (Ne.symm e1) x hx)) (hi.rows k hb' hk)
  · obtain ⟨v, h1, h2⟩ := hi.slots i s hs'
    refine ⟨v, h1, SV.keep hok (fun k hk => ⟨rfl, fun b1 o1 _ cur e fr hc => ?_⟩) h2⟩
    by_cases e1 : b1 = b
    · subst e1; rw [hobj] at hc; injection hc with hc; exact absurd hc (hnc _ _ _)
    · exact ⟨cur, e, fr, by rw [hbl b1 (InvB.cell_lt hc) e1]; exact hc, rfl⟩

theorem op_mapUpdate {T : TypeId} {nm : Nat} {E : ElT P et γ z} {n : Nat} {f : Int → γ} {x y u : Operand} {i : Int} {v : γ} (hT : P.underlying T = some (.map kt et)) (hk : P.underlying kt = some (.int .i64)) (hx : Ev st x (.mref nm)) (hn : lookH st.heap nm = some ⟨rMap P kt et E, [(n, f)]⟩)
    (hy : Ev st y (.raw (.int .i64 i))) (hu : Ev st u (.raw (E.enc v))) (hw : (Lit.int .i64 i).wf = true) (hv : E.ok v) (hnl : n < maxLen) :
    OS P cx ⟨none, .mapUpdate T x y u, ty, pos, aft, gd⟩ st ⟨st.slots, (nm, ⟨rMap P kt et E, [(n + 1, upd f i v)]⟩) :: st.heap⟩ := by
  rintro a w ⟨β, hi⟩ Q
  obtain ⟨b, o, h1, h2, h3, D, h4, h5, h6⟩ := map_at hi hx hn
  have h7 := hi.raw hy
  have h8 := hi.raw hu
  obtain ⟨w', h9, h10, h11⟩ := h5.update (Maps.int_keyed hk) hT hnl (Maps.keyOf_int_mk hk hw) (E.read v hv)
  unfold Oper.wp
  simp only [execOp, h2, h7, h8, Sem.run_bind, h9, Result.andThen_ok]
  obtain ⟨es, clock, g1, _⟩ := h5
  have h10' := h10
  obtain ⟨es', clock', g2, g3, g4, g5⟩ := h10
  refine ⟨β, InvB.turnMap (rt' := rMap P kt et E) (xs' := [(n + 1, upd f i v)]) hi hn h1 g1 (fun _ _ _ h => by cases h) h11 ⟨fun h => by simp [rMap] at h, fun _ => ⟨(n + 1, upd f i v), _, rfl, g2, fun j => ?_, D.put (.int .i64 i) (.lit (E.lit v)), ?_, fun w1 b1 hb1 => ⟨es', clock', hb1, g3, g4, g5⟩, fun j hj => ?_⟩⟩⟩
  · simp only [upd]; split
    · exact hv
    · exact h3 j
  · exact h10'.isMap
  · simp only [upd]
    by_cases hji : j = i
    · subst hji
      rw [if_pos rfl]
      exact Maps.atKey_put_same h4 (by simp [WideAt.IsKeyLit]) _ _
    · rw [if_neg hji, Maps.atKey_put_other (by intro e; injection e with _ e; exact hji e)]
      exact h6 j hj

theorem gh_mapUpdate {T : TypeId} {nm : Nat} {E : ElT P et γ z} {n : Nat} {f : Int → γ} {x y u : Operand} {i : Int} {v : γ} (hT : P.underlying T = some (.map kt et)) (hk : P.underlying kt = some (.int .i64)) (hx : Ev st x (.mref nm)) (hn : lookH st.heap nm = some ⟨rMap P kt et E, [(n, f)]⟩)
    (hy : Ev st y (.raw (.int .i64 i))) (hu : Ev st u (.raw (E.enc v))) (hw : (Lit.int .i64 i).wf = true) (hv : E.ok v) (hnl : n < maxLen) :
    GH P cx ops st ⟨none, .mapUpdate T x y u, ty, pos, aft, none⟩ (none, some (nm, ⟨rMap P kt et E, [(n + 1, upd f i v)]⟩)) [nm] [] := by
  intro st' hag _ a w hi Q
  rw [if_pos (by simp [Region.wanted])]
  exact op_mapUpdate hT hk (hag.ev (by simp [Op.operands]) hx) ((hag.heap nm (by simp)).trans hn) (hag.ev (by simp [Op.operands]) hy) (hag.ev (by simp [Op.operands]) hu) hw hv hnl a w hi Q
end
end Go.Eng
