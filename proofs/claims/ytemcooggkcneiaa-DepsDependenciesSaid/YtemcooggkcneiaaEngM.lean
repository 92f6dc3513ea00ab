import Derived.Test.YtemcooggkcneiaaEng21
import Derived.Maps.OwnSet
import Derived.Maps.RangeWalk
import Derived.Carry
namespace Go.Eng
open Go.Maps (Keyed IsMap)
open Go.MapKept Go.ChangeMaps
set_option linter.unusedSimpArgs false
set_option linter.unusedVariables false

/-! ### the call's own maps, whatever the key's type; elements of a plain type -/
/-- how an element's type is read -/
structure ElT (P : Program) (e : TypeId) (γ : Type) (z : γ) where
  enc : γ → Value
  lit : γ → Lit
  ok : γ → Prop
  zok : ok z
  read : ∀ x, ok x → plainElem (H := Unit) P e (enc x) = some (.lit (lit x), [])
  back : ∀ v x ps, plainElem (H := Unit) P e v = some (.lit (lit x), ps) → v = enc x
  zero : ∀ w, (zeroValue e).run P w = .ok (enc z) w

def elInt {P : Program} {e : TypeId} (he : P.underlying e = some (.int .i64)) (hz : ∀ w, (zeroValue e).run P w = .ok (.int .i64 0) w) : ElT P e Int 0 where
  enc x := .int .i64 x
  lit x := .int .i64 x
  ok x := (Lit.int .i64 x).wf = true
  zok := by decide
  read x hx := plainElem_int he hx
  back v x ps h := by
    obtain ⟨a, h1, h2, _⟩ := plainElem_int_inv he h
    simp only [Prod.mk.injEq, DataW.lit.injEq, Lit.int.injEq] at h2
    rw [h1, h2.1.2]
  zero := hz
def elBool {P : Program} {e : TypeId} (he : P.underlying e = some .bool) (hz : ∀ w, (zeroValue e).run P w = .ok (.bool false) w) : ElT P e Bool false where
  enc x := .bool x
  lit x := .bool x
  ok _ := True
  zok := trivial
  read x _ := plainElem_bool he x
  back v x ps h := by
    unfold plainElem at h
    rw [he] at h
    cases v <;> simp at h
    obtain ⟨rfl, rfl⟩ := h
    rfl
  zero := hz

/-- how a key's type is read -/
structure KeyT (P : Program) (kt : TypeId) (κ : Type) where
  enc : κ → Value
  lit : κ → Lit
  ok : κ → Prop
  keyed : Keyed P kt
  read : ∀ x, ok x → keyOf P kt (enc x) = some (lit x)
  back : ∀ v l, keyOf P kt v = some l → ∃ x, ok x ∧ v = enc x
  inj : ∀ x y, enc x = enc y → x = y

def keyInt {P : Program} {k : TypeId} (hk : P.underlying k = some (.int .i64)) : KeyT P k Int where
  enc x := .int .i64 x
  lit x := .int .i64 x
  ok x := (Lit.int .i64 x).wf = true
  keyed := Maps.int_keyed hk
  read x hx := Maps.keyOf_int_mk hk hx
  back v l h := by
    obtain ⟨x, h1, h2, h3⟩ := Maps.keyOf_int_inv hk h
    exact ⟨x, h3, h1⟩
  inj x y h := by injection h

section
variable {P : Program} {cx : Cx} {st st' : St} {β : Loc} {a : Act} {w w' : World} {ops : Array Oper} {k : Kn} {c : Code}
variable {dst : Option Tmp} {ty : TypeId} {pos : String} {aft : Array Edge} {gd : Option (Nat × Bool)}
variable {kt et : TypeId} {κ γ : Type} {z : γ} {K : KeyT P kt κ} {E : ElT P et γ z}

theorem KeyT.lit_inj (K : KeyT P kt κ) {x y : κ} (hx : K.ok x) (hy : K.ok y) (h : K.lit x = K.lit y) : x = y :=
  K.inj x y (K.keyed.inj (K.read x hx) (by rw [h]; exact K.read y hy))
theorem KeyT.isKey (K : KeyT P kt κ) {x : κ} (hx : K.ok x) : WideAt.IsKeyLit (K.lit x) := K.keyed.key (K.read x hx)

/-- a key's entry -/
def DAt (E : ElT P et γ z) (D : DataW Unit) (l : Lit) : Option γ → Prop
  | none => Maps.has D l = false
  | some v => Maps.has D l = true ∧ ∀ zd, D.atKey l zd = .lit (E.lit v)
def MapRep (K : KeyT P kt κ) (E : ElT P et γ z) (obj : Obj) (n : Nat) (f : κ → Option γ) : Prop :=
  (∀ i v, f i = some v → K.ok i ∧ E.ok v) ∧ ∃ D : DataW Unit, IsMap D ∧ (∀ (w : World) (b : Nat), w.heap[b]? = some obj → w.ownsMap P kt (plainElem P et) b n D) ∧ ∀ i, K.ok i → DAt E D (K.lit i) (f i)

theorem mapRep_mk {obj : Obj} {n : Nat} {f : κ → Option γ} (h1 : ∀ i v, f i = some v → K.ok i ∧ E.ok v) (D : DataW Unit) (h2 : IsMap D) (h3 : ∀ (w : World) (b : Nat), w.heap[b]? = some obj → w.ownsMap P kt (plainElem P et) b n D) (h4 : ∀ i, K.ok i → DAt E D (K.lit i) (f i)) : MapRep K E obj n f := ⟨h1, D, h2, h3, h4⟩

theorem DAt.get {D : DataW Unit} {l : Lit} {o : Option γ} (h : DAt E D l o) : D.atKey l (.lit (E.lit z)) = .lit (E.lit (o.getD z)) := by
  cases o with
  | none => exact Maps.atKey_of_not_has h _
  | some v => exact h.2 _

theorem MapRep.mono {obj : Obj} {n n' : Nat} {f : κ → Option γ} (h : MapRep K E obj n f) (hn : n ≤ n') : MapRep K E obj n' f :=
  ⟨h.1, h.2.imp fun D hD => ⟨hD.1, fun w b hb => (hD.2.1 w b hb).mono hn, hD.2.2⟩⟩

def rMapK (K : KeyT P kt κ) (E : ElT P et γ z) : RT (Option Obj × Nat × (κ → Option γ)) where
  n := 0
  agg := true
  raw _ := none
  rep _ _ _ _ := False
  len h := h.elim
  one h := h.elim
  keep _ h := h.elim
  scal h := by simp at h
  exact_ h := by simp at h
  exact' h := by simp at h
  mp := true
  mrep obj d := (∀ o, d.1 = some o → obj = o) ∧ MapRep K E obj d.2.1 d.2.2
/-- a block that is known wholly -/
def rObj : RT Obj where
  n := 0
  agg := true
  raw _ := none
  rep _ _ _ _ := False
  len h := h.elim
  one h := h.elim
  keep _ h := h.elim
  scal h := by simp at h
  exact_ h := by simp at h
  exact' h := by simp at h
  mp := true
  mrep obj d := obj = d

def updK [DecidableEq κ] (f : κ → Option γ) (i : κ) (v : γ) : κ → Option γ := fun j => if j = i then some v else f j
def delK [DecidableEq κ] (f : κ → Option γ) (i : κ) : κ → Option γ := fun j => if j = i then none else f j

/-- a new row, at a block of its own or at none -/
theorem InvB.fresh (hi : InvB cx st β a w) {nm : Nat} {hb0 : HB} {l : Option (Nat × Nat)} (hf : freeS nm st.slots = true) (hb : Below w.heap.size w w') (hl1 : ∀ x, l = some x → w.heap.size ≤ x.1 ∧ x.1 < w'.heap.size)
    (hl2 : hb0.holds w' (okOf cx ((nm, hb0) :: st.heap) (fun k => if k = nm then l else β k) w') l) : InvB cx ⟨st.slots, (nm, hb0) :: st.heap⟩ (fun k => if k = nm then l else β k) a w' := by
  have hl := hi.later hb
  have hok : ∀ b, okOf cx st.heap β w b → okOf cx ((nm, hb0) :: st.heap) (fun k => if k = nm then l else β k) w' b ∧ w'.heap[b]? = w.heap[b]? := by
    rintro b ⟨h1, h2, h3⟩
    refine ⟨⟨h1, Nat.lt_of_lt_of_le h2 hb.size, fun k hb' hk x hx => ?_⟩, hb.block b h2⟩
    rw [lookH_cons] at hk
    by_cases e1 : k = nm
    · subst e1; simp at hx; have := (hl1 x hx).1; omega
    · rw [if_neg (Ne.symm e1)] at hk
      simp only [if_neg e1] at hx
      exact h3 k hb' hk x hx
  refine ⟨hl.below, hl.old, hl.defers, hl.size, fun k hb' hk x hx => ?_, fun k k' h1 h2 hk hk' x y hx hy hxy => ?_, fun k hb' hk => ?_, fun i s hs => ?_⟩
  · by_cases e1 : k = nm
    · subst e1; simp at hx; have := hl1 x hx; exact ⟨.inl (Nat.le_trans hi.below.size this.1), this.2⟩
    · rw [lookH_cons, if_neg (Ne.symm e1)] at hk
      simp only [if_neg e1] at hx
      exact hl.own k hb' hk x hx
  · rw [lookH_cons] at hk hk'
    by_cases e1 : k = nm <;> by_cases e2 : k' = nm
    · rw [e1, e2]
    · subst e1
      rw [if_neg (Ne.symm e2)] at hk'
      simp only [if_pos] at hx
      simp only [if_neg e2] at hy
      have g1 := (hl1 x hx).1
      have g2 := (hi.own k' _ hk' y hy).2
      omega
    · subst e2
      rw [if_neg (Ne.symm e1)] at hk
      simp only [if_pos] at hy
      simp only [if_neg e1] at hx
      have g1 := (hl1 y hy).1
      have g2 := (hi.own k _ hk x hx).2
      omega
    · rw [if_neg (Ne.symm e1)] at hk
      rw [if_neg (Ne.symm e2)] at hk'
      simp only [if_neg e1] at hx
      simp only [if_neg e2] at hy
      exact hi.sep k k' _ _ hk hk' x y hx hy hxy
  · rw [lookH_cons] at hk
    by_cases e1 : k = nm
    · subst e1
      rw [if_pos rfl] at hk
      injection hk with hk; subst hk
      simp only [if_pos]; exact hl2
    · rw [if_neg (Ne.symm e1)] at hk
      simp only [if_neg e1]
      exact HB.keep hok (fun x hx => hb.block _ (hi.own k hb' hk x hx).2) (hi.rows k hb' hk)
  · obtain ⟨u, h1, h2⟩ := hi.slots i s hs
    have hfree := freeS_look hf hs
    refine ⟨u, h1, SV.keep hok (fun k hk => ?_) h2⟩
    have hne : k ≠ nm := by rintro rfl; rw [hfree] at hk; cases hk
    refine ⟨by simp [hne], fun b o hbo cur e' fr hcur => ⟨cur, e', fr, ?_, rfl⟩⟩
    rw [hb.block b (InvB.cell_lt hcur)]; exact hcur

/-- a row, read in another way -/
theorem InvB.rerow (hi : InvB cx st β a w) {nm : Nat} {hb hb' : HB} (hn : lookH st.heap nm = some hb) (h : ∀ ok, hb.holds w ok (β nm) → hb'.holds w ok (β nm)) : InvB cx ⟨st.slots, (nm, hb') :: st.heap⟩ β a w := by
  have hh : ∀ k x, lookH ((nm, hb') :: st.heap) k = some x → ∃ y, lookH st.heap k = some y ∧ ((k = nm ∧ x = hb') ∨ x = y) := fun k x hk => by
    rw [lookH_cons] at hk; split at hk
    · rename_i e; subst e; injection hk with hk; exact ⟨hb, hn, .inl ⟨rfl, hk.symm⟩⟩
    · exact ⟨x, hk, .inr rfl⟩
  have hok : ∀ b, okOf cx st.heap β w b → okOf cx ((nm, hb') :: st.heap) β w b ∧ w.heap[b]? = w.heap[b]? := fun b h1 => ⟨⟨h1.1, h1.2.1, fun k x hk => by obtain ⟨y, hy, _⟩ := hh k x hk; exact h1.2.2 k y hy⟩, rfl⟩
  refine ⟨hi.below, hi.old, hi.defers, hi.size, fun k x hk => ?_, fun k k' x y hk hk' => ?_, fun k x hk => ?_, fun i s hs => ?_⟩
  · obtain ⟨y, hy, _⟩ := hh k x hk; exact hi.own k y hy
  · obtain ⟨y1, hy1, _⟩ := hh k x hk; obtain ⟨y2, hy2, _⟩ := hh k' y hk'; exact hi.sep k k' y1 y2 hy1 hy2
  · obtain ⟨y, hy, h2⟩ := hh k x hk
    rcases h2 with ⟨rfl, rfl⟩ | rfl
    · rw [hn] at hy; injection hy with hy; subst hy
      exact h _ (HB.keep hok (fun _ _ => rfl) (hi.rows k _ hn))
    · exact HB.keep hok (fun _ _ => rfl) (hi.rows k _ hy)
  · obtain ⟨v, h1, h2⟩ := hi.slots i s hs
    exact ⟨v, h1, SV.keep hok (fun nm _ => ⟨rfl, fun b o _ cur e fr hc => ⟨cur, e, fr, hc, rfl⟩⟩) h2⟩

theorem op_makeMapK {T : TypeId} (K : KeyT P kt κ) (E : ElT P et γ z) {d : Nat} (hd : Nat.blt d cx.n = true) (hf : freeS d st.slots = true) :
    OS P cx ⟨some d, .makeMap T none, ty, pos, aft, gd⟩ st ⟨(d, .mref d) :: st.slots, (d, ⟨rMapK K E, [(none, 0, fun _ => none)]⟩) :: st.heap⟩ := by
  rintro a w ⟨β, hi⟩ Q
  have hrun : (execOp a.eval ⟨some d, .makeMap T none, ty, pos, aft, gd⟩).run P w = .ok (.value (.map (some w.heap.size))) (w.alloc (.map #[] 0)) := by
    simp [execOp, Go.RowKit.run_makeMap]
  unfold Oper.wp
  rw [hrun, Oper.upon_value]
  have hb : Below w.heap.size w (w.alloc (.map #[] 0)) := (Below.refl _ _).alloc (Nat.le_refl _) _
  have := hi.fresh (nm := d) (hb0 := ⟨rMapK K E, [(none, 0, fun _ => none)]⟩) (l := some (w.heap.size, 0)) hf hb (fun x h => by injection h with h; subst h; exact ⟨Nat.le_refl _, by simp⟩)
    ⟨fun h => by simp [rMapK] at h, fun _ => ⟨(none, 0, fun _ => none), .map #[] 0, rfl, heap_alloc_new w _, (And.intro (fun o h => by cases h) (mapRep_mk (fun i v h => by cases h) (.map []) ⟨[], rfl⟩ (fun w1 b1 h1 => ?_) (fun i _ => rfl)) : (∀ o, none = some o → Obj.map #[] 0 = o) ∧ MapRep K E (.map #[] 0) 0 (fun _ => none))⟩⟩
  · exact ⟨_, this.put (by simpa using hd) ⟨w.heap.size, 0, by simp, rfl⟩⟩
  · obtain ⟨es, clock, h2, h3, h4, h5⟩ := World.ownsMap_made (H := Unit) w P kt (plainElem P et)
    have e0 := heap_alloc_new w (.map #[] 0)
    rw [e0] at h2
    injection h2 with h2
    exact ⟨es, clock, by rw [h1, h2], h3, h4, h5⟩

theorem map_atK (hi : InvB cx st β a w) {nm : Nat} {n : Nat} {f : κ → Option γ} {o : Option Obj} {x : Operand} (hx : Ev st x (.mref nm)) (hn : lookH st.heap nm = some ⟨rMapK K E, [(o, n, f)]⟩) :
    ∃ b of obj, β nm = some (b, of) ∧ a.eval x = .map (some b) ∧ w.heap[b]? = some obj ∧ (∀ o', o = some o' → obj = o') ∧ MapRep K E obj n f := by
  obtain ⟨b, of, h1, h2⟩ := hi.ev hx
  have hr := hi.rows nm _ hn
  rw [h1] at hr
  obtain ⟨D, obj, h3, h4, h5⟩ := hr.2 rfl
  injection h3 with h3 _
  subst h3
  exact ⟨b, of, obj, h1, h2, h4, h5⟩

theorem op_lookupK {T : TypeId} {nm : Nat} {n : Nat} {f : κ → Option γ} {o : Option Obj} {x y : Operand} {i : κ} (hT : P.underlying T = some (.map kt et)) (hx : Ev st x (.mref nm)) (hn : lookH st.heap nm = some ⟨rMapK K E, [(o, n, f)]⟩)
    {rk : RT κ} (hke : ∀ w ok v, rk.val w ok v i → v = K.enc i) (hy : Rd st y rk i) (hw : K.ok i) : Adr P cx st ⟨dst, .lookup T x y false, ty, pos, aft, gd⟩ (.raw (E.enc ((f i).getD z))) :=
  adr_still fun st' hag β a w hi => by
    obtain ⟨b, of, obj, h1, h2, h3, _, h5, D, h6, h7, h8⟩ := map_atK hi (hag.ev (by simp [Op.operands]) hx) ((hag.look (by simp [Op.operands]) hx (by simp [SV.free])).trans hn)
    have hyv := hke _ _ _ ((hy.tr (hag.ops y (by simp [Op.operands]))).val hi)
    obtain ⟨v, ps, g8, g9⟩ := (h7 w b h3).lookup K.keyed hT (E.zero w) (E.read z E.zok) (K.read i hw)
    rw [(h8 i hw).get] at g9
    have := E.back v _ ps g9
    subst this
    exact ⟨E.enc ((f i).getD z), by simp [execOp, h2, hyv, g8], rfl⟩

/-- one of the call's own blocks turns -/
theorem InvB.turnMap (hi : InvB cx st β a w) {nm b o : Nat} {α α' : Type} {rt : RT α} {rt' : RT α'} {xs : List α} {xs' : List α'} {obj : Obj} (hn : lookH st.heap nm = some ⟨rt, xs⟩) (hb : β nm = some (b, o)) (hobj : w.heap[b]? = some obj) (hnc : ∀ cur e fr, obj ≠ .cells cur e fr)
    (hg : BelowX (fun q => q = b) w.heap.size w w') (hh : ∀ ok, (HB.mk rt' xs').holds w' ok (some (b, o))) : InvB cx ⟨st.slots, (nm, ⟨rt', xs'⟩) :: st.heap⟩ β a w' := by
  have hown := hi.own nm _ hn _ hb
  have hothers : ∀ k hb', lookH st.heap k = some hb' → k ≠ nm → ∀ x, β k = some x → x.1 ≠ b := fun k hb' hk hne x hx e1 => hne (hi.sep k nm _ _ hk hn x (b, o) hx hb e1)
  have hbl : ∀ k, k < w.heap.size → k ≠ b → w'.heap[k]? = w.heap[k]? := fun k hk hne => hg.blockX k hk hne
  have hh0 : ∀ k, lookH ((nm, ⟨rt', xs'⟩) :: st.heap) k = if nm = k then some ⟨rt', xs'⟩ else lookH st.heap k := fun k => lookH_cons _ _ _ _
  have hok : ∀ b', okOf cx st.heap β w b' → okOf cx ((nm, ⟨rt', xs'⟩) :: st.heap) β w' b' ∧ w'.heap[b']? = w.heap[b']? := by
    rintro b' ⟨h1, h2, h3⟩
    have hne : b' ≠ b := fun e1 => h3 nm _ hn _ hb e1.symm
    refine ⟨⟨h1, Nat.lt_of_lt_of_le h2 hg.size, fun k hb' hk x hx => ?_⟩, hbl b' h2 hne⟩
    rw [hh0] at hk
    by_cases e1 : nm = k
    · subst e1; rw [hb] at hx; injection hx with hx; subst hx; exact fun e2 => hne e2.symm
    · rw [if_neg e1] at hk
      exact h3 k hb' hk x hx
  refine ⟨⟨hg.os.trans hi.below.os, hg.tape.trans hi.below.tape, hg.output.trans hi.below.output, Nat.le_trans hi.below.size hg.size, fun k hk hx => ?_, Nat.le_trans hi.below.drawn hg.drawn⟩, hi.old, hi.defers, hi.size, fun k hb' hk x hx => ?_, fun k k' h1 h2 hk hk' x y hx hy hxy => ?_, fun k hb' hk => ?_, fun i s hs' => ?_⟩
  · refine (hbl k (Nat.lt_of_lt_of_le hk hi.below.size) ?_).trans (hi.below.blockX k hk hx)
    rintro rfl
    rcases hown.1 with q | q
    · simp only at q; omega
    · exact hx q
  · rw [hh0] at hk
    by_cases e1 : nm = k
    · subst e1; have := hi.own nm _ hn x hx; exact ⟨this.1, Nat.lt_of_lt_of_le this.2 hg.size⟩
    · rw [if_neg e1] at hk
      have := hi.own k hb' hk x hx
      exact ⟨this.1, Nat.lt_of_lt_of_le this.2 hg.size⟩
  · rw [hh0] at hk hk'
    by_cases e1 : nm = k <;> by_cases e2 : nm = k'
    · rw [← e1, ← e2]
    · subst e1; rw [if_neg e2] at hk'; exact hi.sep _ k' _ _ hn hk' x y hx hy hxy
    · subst e2; rw [if_neg e1] at hk; exact hi.sep k _ _ _ hk hn x y hx hy hxy
    · rw [if_neg e1] at hk; rw [if_neg e2] at hk'; exact hi.sep k k' _ _ hk hk' x y hx hy hxy
  · rw [hh0] at hk
    by_cases e1 : nm = k
    · subst e1
      rw [if_pos rfl] at hk
      injection hk with hk; subst hk
      rw [hb]; exact hh _
    · rw [if_neg e1] at hk
      exact HB.keep hok (fun x hx => hbl _ (hi.own k hb' hk x hx).2 (hothers k _ hk (Ne.symm e1) x hx)) (hi.rows k hb' hk)
  · obtain ⟨v, h1, h2⟩ := hi.slots i s hs'
    refine ⟨v, h1, SV.keep hok (fun k hk => ⟨rfl, fun b1 o1 _ cur e fr hc => ?_⟩) h2⟩
    by_cases e1 : b1 = b
    · subst e1; rw [hobj] at hc; injection hc with hc; exact absurd hc (hnc _ _ _)
    · exact ⟨cur, e, fr, by rw [hbl b1 (InvB.cell_lt hc) e1]; exact hc, rfl⟩

theorem below_setBlock {b : Nat} {o' : Obj} (w1 : World) (hw : w1 = w ∨ w1 = w.drew) : BelowX (fun q => q = b) w.heap.size w (setBlock w1 b o') := by
  rcases hw with rfl | rfl
  · exact ⟨rfl, rfl, rfl, by simp [setBlock], fun k _ hk => by simp only [setBlock]; exact Array.getElem?_setIfInBounds_ne (fun e => hk e.symm), Nat.le_refl _⟩
  · exact ⟨rfl, rfl, rfl, by show w.heap.size ≤ (w.heap.setIfInBounds b o').size; simp, fun k _ hk => by show (w.heap.setIfInBounds b o')[k]? = _; exact Array.getElem?_setIfInBounds_ne (fun e => hk e.symm), Nat.le_succ _⟩
theorem mapTurned_belowX {b : Nat} (h : w.mapTurned w' b) : BelowX (fun q => q = b) w.heap.size w w' := by
  obtain ⟨es, clock, es', clock', _, rfl⟩ := h
  exact below_setBlock w (.inl rfl)
theorem ownsMap_obj {b n : Nat} {obj : Obj} {R : Value → Option (DataW Unit × List MemPlace)} {D : DataW Unit} (hb : w.heap[b]? = some obj) (h : w.ownsMap P kt R b n D) : (∀ cur e fr, obj ≠ .cells cur e fr) ∧ ∀ (w1 : World) (b1 : Nat), w1.heap[b1]? = some obj → w1.ownsMap P kt R b1 n D := by
  obtain ⟨es, clock, g2, g3, g4, g5⟩ := h
  rw [hb] at g2; injection g2 with g2; subst g2
  exact ⟨fun _ _ _ e => (by cases e), fun w1 b1 h1 => ⟨es, clock, h1, g3, g4, g5⟩⟩

theorem op_mapUpdateK [DecidableEq κ] {T : TypeId} {nm : Nat} {n : Nat} {f : κ → Option γ} {o : Option Obj} {x y u : Operand} {i : κ} (v : γ) (hT : P.underlying T = some (.map kt et)) (hx : Ev st x (.mref nm)) (hn : lookH st.heap nm = some ⟨rMapK K E, [(o, n, f)]⟩)
    {rk : RT κ} (hke : ∀ w ok v, rk.val w ok v i → v = K.enc i) (hy : Rd st y rk i) (hu : Ev st u (.raw (E.enc v))) (hw : K.ok i) (hv : E.ok v) (hnl : n < maxLen) :
    OS P cx ⟨none, .mapUpdate T x y u, ty, pos, aft, gd⟩ st ⟨st.slots, (nm, ⟨rMapK K E, [(none, n + 1, updK f i v)]⟩) :: st.heap⟩ := by
  rintro a w ⟨β, hi⟩ Q
  obtain ⟨b, of, obj, h1, h2, h3, _, h5, D, h6, h7, h8⟩ := map_atK hi hx hn
  have g7 := hke _ _ _ (hy.val hi)
  have g8 := hi.raw hu
  obtain ⟨w', g9, g10, g11⟩ := (h7 w b h3).store K.keyed hT hnl (K.read i hw) (E.read v hv)
  unfold Oper.wp
  simp only [execOp, h2, g7, g8, Sem.run_bind, g9, Result.andThen_ok]
  have hnc := (ownsMap_obj h3 (h7 w b h3)).1
  obtain ⟨obj', ho⟩ : ∃ obj', w'.heap[b]? = some obj' := by obtain ⟨es', clock', q, _⟩ := g10; exact ⟨_, q⟩
  refine ⟨β, InvB.turnMap (rt' := rMapK K E) (xs' := [(none, n + 1, updK f i v)]) hi hn h1 h3 hnc (mapTurned_belowX g11) fun ok => ⟨fun h => by simp [rMapK] at h, fun _ => ⟨_, obj', rfl, ho, (And.intro (fun o h => by cases h) (mapRep_mk (fun j u hj => ?_) (D.put (K.lit i) (.lit (E.lit v))) (h6.put _ _) (ownsMap_obj ho g10).2 (fun j hj => ?_)) : (∀ o, none = some o → obj' = o) ∧ MapRep K E obj' (n + 1) (updK f i v))⟩⟩⟩
  · simp only [updK] at hj; split at hj
    · rename_i e; subst e; injection hj with hj; subst hj; exact ⟨hw, hv⟩
    · exact h5 j u hj
  · simp only [updK]
    by_cases hji : j = i
    · subst hji
      rw [if_pos rfl]
      exact ⟨Maps.has_put_same h6 (K.isKey hj) _, fun zd => Maps.atKey_put_same h6 (K.isKey hj) _ _⟩
    · rw [if_neg hji]
      have hne : K.lit j ≠ K.lit i := fun e => hji (K.lit_inj hj hw e)
      have := h8 j hj
      cases hf : f j with
      | none => rw [hf] at this; exact (Maps.has_put_other hne _).trans this
      | some u => rw [hf] at this; exact ⟨(Maps.has_put_other hne _).trans this.1, fun zd => (Maps.atKey_put_other hne _ _).trans (this.2 zd)⟩

theorem op_deleteK [DecidableEq κ] {T : TypeId} {nm : Nat} {n : Nat} {f : κ → Option γ} {o : Option Obj} {x y : Operand} {i : κ} (hT : P.underlying T = some (.map kt et)) (hx : Ev st x (.mref nm)) (hn : lookH st.heap nm = some ⟨rMapK K E, [(o, n, f)]⟩)
    {rk : RT κ} (hke : ∀ w ok v, rk.val w ok v i → v = K.enc i) (hy : Rd st y rk i) (hw : K.ok i) :
    OS P cx ⟨none, .call { callee := .builtin .delete, args := #[x, y], argTypes := #[T, kt] }, ty, pos, aft, gd⟩ st ⟨st.slots, (nm, ⟨rMapK K E, [(none, n, delK f i)]⟩) :: st.heap⟩ := by
  rintro a w ⟨β, hi⟩ Q
  obtain ⟨b, of, obj, h1, h2, h3, _, h5, D, h6, h7, h8⟩ := map_atK hi hx hn
  have g7 := hke _ _ _ (hy.val hi)
  obtain ⟨w', g9, g10, g11⟩ := (h7 w b h3).drop K.keyed hT (K.read i hw) ty
  have hrun : (execOp a.eval ⟨none, .call { callee := .builtin .delete, args := #[x, y], argTypes := #[T, kt] }, ty, pos, aft, gd⟩).run P w = .ok (.value (.tuple #[])) w' := by
    simp [execOp, resolve, h2, g7, invoke, builtin, g9]
  unfold Oper.wp
  rw [hrun, Oper.upon_value]
  have hnc := (ownsMap_obj h3 (h7 w b h3)).1
  obtain ⟨obj', ho⟩ : ∃ obj', w'.heap[b]? = some obj' := by obtain ⟨es', clock', q, _⟩ := g10; exact ⟨_, q⟩
  refine ⟨β, InvB.turnMap (rt' := rMapK K E) (xs' := [(none, n, delK f i)]) hi hn h1 h3 hnc (mapTurned_belowX g11) fun ok => ⟨fun h => by simp [rMapK] at h, fun _ => ⟨_, obj', rfl, ho, (And.intro (fun o h => by cases h) (mapRep_mk (fun j u hj => ?_) (D.del (K.lit i)) (h6.del _) (ownsMap_obj ho g10).2 (fun j hj => ?_)) : (∀ o, none = some o → obj' = o) ∧ MapRep K E obj' n (delK f i))⟩⟩⟩
  · simp only [delK] at hj; split at hj
    · cases hj
    · exact h5 j u hj
  · simp only [delK]
    by_cases hji : j = i
    · subst hji
      rw [if_pos rfl]
      exact Maps.has_del_same
    · rw [if_neg hji]
      have hne : K.lit j ≠ K.lit i := fun e => hji (K.lit_inj hj hw e)
      have := h8 j hj
      cases hf : f j with
      | none => rw [hf] at this; exact (Maps.has_del_other hne).trans this
      | some u => rw [hf] at this; exact ⟨(Maps.has_del_other hne).trans this.1, fun zd => (Maps.atKey_del_other hne _).trans (this.2 zd)⟩
theorem op_insertK [DecidableEq κ] {T : TypeId} {nm : Nat} {n : Nat} {f : κ → Option γ} {o : Option Obj} {x y u : Operand} {i : κ} (v : γ) (hT : P.underlying T = some (.map kt et)) (hx : Ev st x (.mref nm)) (hn : lookH st.heap nm = some ⟨rMapK K E, [(o, n, f)]⟩)
    {rk : RT κ} (hke : ∀ w ok v, rk.val w ok v i → v = K.enc i) (hy : Rd st y rk i) (hu : Ev st u (.raw (E.enc v))) (hw : K.ok i) (hv : E.ok v) (hnl : n < maxLen) :
    OS P cx ⟨none, .insert T x y u, ty, pos, aft, gd⟩ st ⟨st.slots, (nm, ⟨rMapK K E, [(none, n + 1, updK f i v)]⟩) :: st.heap⟩ := fun a w hi Q =>
  op_mapUpdateK (ty := ty) (pos := pos) (aft := aft) (gd := gd) v hT hx hn hke hy hu hw hv hnl a w hi Q
end
end Go.Eng
