import Derived.Below
import Derived.Tactics
import Derived.Laws.Entries
import Derived.Laws.AppendOwn
import Derived.Deep.LoopGhost
import Derived.StillTail
set_option linter.unusedVariables false
set_option linter.unusedSimpArgs false
namespace Go.Eng
structure Below (B : Nat) (w w' : World) : Prop where
  os : w'.os = w.os
  tape : w'.tape = w.tape
  output : w'.output = w.output
  size : w.heap.size ≤ w'.heap.size
  block : ∀ k, k < B → w'.heap[k]? = w.heap[k]?
  drawn : w.drawn ≤ w'.drawn
structure BelowX (ex : Nat → Prop) (B : Nat) (w w' : World) : Prop where
  os : w'.os = w.os
  tape : w'.tape = w.tape
  output : w'.output = w.output
  size : w.heap.size ≤ w'.heap.size
  blockX : ∀ k, k < B → ¬ ex k → w'.heap[k]? = w.heap[k]?
  drawn : w.drawn ≤ w'.drawn
theorem BelowX.plain {ex : Nat → Prop} {B : Nat} {w w' : World} (h : BelowX ex B w w') (hx : ∀ k, ¬ ex k) : Below B w w' := ⟨h.os, h.tape, h.output, h.size, fun k hk => h.blockX k hk (hx k), h.drawn⟩
theorem Below.toX {ex : Nat → Prop} {B : Nat} {w w' : World} (h : Below B w w') : BelowX ex B w w' := ⟨h.os, h.tape, h.output, h.size, fun k hk _ => h.block k hk, h.drawn⟩
theorem BelowX.trans {ex : Nat → Prop} {B : Nat} {a b c : World} (h : BelowX ex B a b) (k : Below B b c) : BelowX ex B a c :=
  ⟨k.os.trans h.os, k.tape.trans h.tape, k.output.trans h.output, Nat.le_trans h.size k.size, fun i hi hx => (k.block i hi).trans (h.blockX i hi hx), Nat.le_trans h.drawn k.drawn⟩
theorem Below.kit {B : Nat} {w w' : World} (h : Below B w w') : Go.RowKit.Below B w w' := ⟨h.os, h.tape, h.output, h.size, h.block⟩
theorem Below.refl (B : Nat) (w : World) : Below B w w := ⟨rfl, rfl, rfl, Nat.le_refl _, fun _ _ => rfl, Nat.le_refl _⟩
theorem Below.trans {B : Nat} {a b c : World} (h : Below B a b) (k : Below B b c) : Below B a c :=
  ⟨k.os.trans h.os, k.tape.trans h.tape, k.output.trans h.output, Nat.le_trans h.size k.size, fun i hi => (k.block i hi).trans (h.block i hi), Nat.le_trans h.drawn k.drawn⟩
theorem Below.mono {B B' : Nat} {w w' : World} (h : Below B w w') (hB : B' ≤ B) : Below B' w w' := ⟨h.os, h.tape, h.output, h.size, fun k hk => h.block k (Nat.lt_of_lt_of_le hk hB), h.drawn⟩
theorem Below.drew {B : Nat} {a w : World} (h : Below B a w) : Below B a w.drew := ⟨h.os, h.tape, h.output, h.size, h.block, Nat.le_succ_of_le h.drawn⟩
theorem Below.alloc {B : Nat} {a w : World} (h : Below B a w) (hB : B ≤ w.heap.size) (o : Obj) : Below B a (w.alloc o) :=
  h.trans ⟨rfl, rfl, rfl, by simp, fun k hk => Go.RowKit.Below.heap_alloc _ _ _ (by omega), Nat.le_refl _⟩
abbrev Ok := Nat → Prop
structure RT (α : Type) where
  n : Nat
  agg : Bool
  raw : α → Option Value
  rep : World → Ok → List Value → α → Prop
  len : ∀ {w ok cs d}, rep w ok cs d → cs.length = n
  one : ∀ {w ok cs d}, rep w ok cs d → ∀ v ∈ cs, v.oneCell' = true
  keep : ∀ {w w' : World} {ok ok' : Ok} {cs d}, (∀ b, ok b → ok' b ∧ w'.heap[b]? = w.heap[b]?) → rep w ok cs d → rep w' ok' cs d
  scal : agg = false → n = 1
  exact_ : ∀ {w ok cs d v}, raw d = some v → rep w ok cs d → cs = [v] ∧ agg = false
  exact' : ∀ {w ok d v}, raw d = some v → rep w ok [v] d
  mp : Bool := false
  mrep : Obj → α → Prop := fun _ _ => False
class NM {α : Type} (rt : RT α) : Prop where
  no : rt.mp = false
section
variable {α β : Type}
def RT.val (rt : RT α) (w : World) (ok : Ok) (v : Value) (d : α) : Prop :=
  ∃ cs, rt.rep w ok cs d ∧ v = (if rt.agg then .agg cs.toArray else cs.getD 0 undef)
def CellsAt (w : World) (b o : Nat) (cs : List Value) : Prop := ∀ j v, cs[j]? = some v → w.cell? ⟨b, o + j, none⟩ = some v
theorem vl {w w' : World} {b : Nat} (h : w'.heap[b]? = w.heap[b]?) (o : Nat) : w'.cell? ⟨b, o, none⟩ = w.cell? ⟨b, o, none⟩ :=
  World.cell?_of_block (w := w) (a := ⟨b, o, none⟩) h
theorem CellsAt.keep {w w' : World} {b o : Nat} {cs : List Value} (h : w'.heap[b]? = w.heap[b]?) (hc : CellsAt w b o cs) : CellsAt w' b o cs :=
  fun j v hj => (vl h _).trans (hc j v hj)
theorem RT.val_keep (rt : RT α) {w w' : World} {ok ok' : Ok} {v : Value} {d : α} (h : ∀ b, ok b → ok' b ∧ w'.heap[b]? = w.heap[b]?) (hv : rt.val w ok v d) : rt.val w' ok' v d :=
  let ⟨cs, h1, h2⟩ := hv; ⟨cs, rt.keep h h1, h2⟩
theorem RT.val_cells (rt : RT α) {w : World} {ok : Ok} {v : Value} {d : α} (hv : rt.val w ok v d) : rt.rep w ok v.cells.toList d := by
  obtain ⟨cs, h1, rfl⟩ := hv
  cases ha : rt.agg with
  | true => simpa [Value.cells] using h1
  | false =>
    have hl := rt.len h1
    rw [rt.scal ha] at hl
    match cs, hl with
    | [c], _ =>
      have ho := rt.one h1 c (by simp)
      have : (c.cells).toList = [c] := by cases c <;> first | rfl | simp [Value.oneCell'] at ho
      simpa [this] using h1
theorem RT.val_raw (rt : RT α) {w : World} {ok : Ok} {v u : Value} {d : α} (hu : rt.raw d = some u) (hv : rt.val w ok v d) : v = u := by
  obtain ⟨cs, h1, rfl⟩ := hv
  obtain ⟨rfl, ha⟩ := rt.exact_ hu h1
  simp [ha]
def ak (k : IntKind) : RT Int where
  n := 1
  agg := false
  raw d := some (.int k d)
  rep _ _ cs d := cs = [.int k d]
  len h := by simp [h]
  one h := by simp [h, Value.oneCell']
  keep _ h := h
  scal _ := rfl
  exact_ h1 h2 := by simp at h1; simp [h2, h1]
  exact' h := by simp at h; simp [h]
def bP : RT Bool where
  n := 1
  agg := false
  raw d := some (.bool d)
  rep _ _ cs d := cs = [.bool d]
  len h := by simp [h]
  one h := by simp [h, Value.oneCell']
  keep _ h := h
  scal _ := rfl
  exact_ h1 h2 := by simp at h1; simp [h2, h1]
  exact' h := by simp at h; simp [h]
def fZ (l : List UInt8) : Value := .string ⟨l.toArray⟩
def dG : RT (List UInt8) where
  n := 1
  agg := false
  raw d := some (fZ d)
  rep _ _ cs d := cs = [fZ d]
  len h := by simp [h]
  one h := by simp [h, Value.oneCell', fZ]
  keep _ h := h
  scal _ := rfl
  exact_ h1 h2 := by simp at h1; simp [h2, h1]
  exact' h := by simp at h; simp [h]
def bO (a : RT α) (b : RT β) : RT (α × β) where
  n := a.n + b.n
  agg := true
  raw _ := none
  rep w ok cs d := ∃ c1 c2, cs = c1 ++ c2 ∧ a.rep w ok c1 d.1 ∧ b.rep w ok c2 d.2
  len := by rintro w ok cs d ⟨c1, c2, rfl, h1, h2⟩; simp [a.len h1, b.len h2]
  one := by
    rintro w ok cs d ⟨c1, c2, rfl, h1, h2⟩ v hv
    rcases List.mem_append.1 hv with h | h
    · exact a.one h1 v h
    exact b.one h2 v h
  keep := by rintro w w' ok ok' cs d h ⟨c1, c2, rfl, h1, h2⟩; exact ⟨c1, c2, rfl, a.keep h h1, b.keep h h2⟩
  scal h := by simp at h
  exact_ h := by simp at h
  exact' h := by simp at h
def rOne (a : RT α) : RT α where
  n := a.n
  agg := true
  raw _ := none
  rep := a.rep
  len := a.len
  one := a.one
  keep := a.keep
  scal h := by simp at h
  exact_ h := by simp at h
  exact' h := by simp at h
def SliceRep (e : RT α) (w : World) (ok : Ok) (A : Option Addr) (xs : List α) : Prop :=
  xs ≠ [] → ∃ b o, A = some ⟨b, o, none⟩ ∧ ok b ∧ ∀ i x, xs[i]? = some x → ∃ cs, e.rep w ok cs x ∧ CellsAt w b (o + i * e.n) cs
theorem SliceRep.keep {e : RT α} {w w' : World} {ok ok' : Ok} {A : Option Addr} {xs : List α} (h : ∀ b, ok b → ok' b ∧ w'.heap[b]? = w.heap[b]?) (hs : SliceRep e w ok A xs) : SliceRep e w' ok' A xs := fun hne =>
  let ⟨b, o, hA, hb, hc⟩ := hs hne
  ⟨b, o, hA, (h b hb).1, fun i x hi => let ⟨cs, h1, h2⟩ := hc i x hi; ⟨cs, e.keep h h1, h2.keep (h b hb).2⟩⟩
def ab (e : RT α) : RT (List α) where
  n := 1
  agg := false
  raw _ := none
  rep w ok cs xs := ∃ A cap, cs = [.slice A xs.length cap] ∧ xs.length ≤ cap ∧ cap ≤ maxLen ∧ SliceRep e w ok A xs
  len := by rintro w ok cs d ⟨A, cap, rfl, _⟩; rfl
  one := by rintro w ok cs d ⟨A, cap, rfl, _⟩ v hv; simp at hv; simp [hv, Value.oneCell']
  keep := by rintro w w' ok ok' cs d h ⟨A, cap, rfl, h1, h2, h3⟩; exact ⟨A, cap, rfl, h1, h2, h3.keep h⟩
  scal _ := rfl
  exact_ h := by simp at h
  exact' h := by simp at h
instance {k : IntKind} : NM (ak k) := ⟨rfl⟩
instance : NM bP := ⟨rfl⟩
instance : NM dG := ⟨rfl⟩
instance {a : RT α} {b : RT β} : NM (bO a b) := ⟨rfl⟩
instance {a : RT α} : NM (rOne a) := ⟨rfl⟩
instance {a : RT α} : NM (ab a) := ⟨rfl⟩
structure Lens {α γ : Type} (rt : RT α) (off : Nat) (rt' : RT γ) (get : α → γ) (set : α → γ → α) : Prop where
  fits : off + rt'.n ≤ rt.n
  get_ : ∀ {w ok cs d}, rt.rep w ok cs d → rt'.rep w ok ((cs.drop off).take rt'.n) (get d)
  set_ : ∀ {w ok cs d cs' d'}, rt.rep w ok cs d → rt'.rep w ok cs' d' → rt.rep w ok (cs.take off ++ cs' ++ cs.drop (off + rt'.n)) (set d d')
theorem Lens.id (rt : RT α) : Lens rt 0 rt (fun d => d) (fun _ d => d) where
  fits := by simp
  get_ h := by have := rt.len h; simpa [List.take_of_length_le (Nat.le_of_eq this)] using h
  set_ h h' := by have := rt.len h; simpa [List.drop_of_length_le (Nat.le_of_eq this)] using h'
theorem Lens.one {γ : Type} {a : RT α} {off : Nat} {c : RT γ} {get : α → γ} {set : α → γ → α} (l : Lens a off c get set) : Lens (rOne a) off c get set where
  fits := l.fits
  get_ h := l.get_ (rt := a) h
  set_ h h' := l.set_ (rt := a) h h'
theorem Lens.fst {γ : Type} {a : RT α} {b : RT β} {off : Nat} {c : RT γ} {get : α → γ} {set : α → γ → α} (l : Lens a off c get set) :
    Lens (bO a b) off c (fun d => get d.1) (fun d x => (set d.1 x, d.2)) where
  fits := by have := l.fits; simp only [bO]; omega
  get_ := by
    rintro w ok cs d ⟨c1, c2, rfl, h1, h2⟩
    have hl := a.len h1
    have hf := l.fits
    have := l.get_ h1
    rw [List.drop_append_of_le_length (by omega), List.take_append_of_le_length (by simp; omega)]
    exact this
  set_ := by
    rintro w ok cs d cs' d' ⟨c1, c2, rfl, h1, h2⟩ h'
    have hl := a.len h1
    have hf := l.fits
    refine ⟨c1.take off ++ cs' ++ c1.drop (off + c.n), c2, ?_, l.set_ h1 h', h2⟩
    rw [List.take_append_of_le_length (by omega), List.drop_append_of_le_length (by omega)]
    simp
theorem Lens.snd {γ : Type} {a : RT α} {b : RT β} {off o' : Nat} {c : RT γ} {get : β → γ} {set : β → γ → β} (l : Lens b off c get set) (ho : o' = a.n + off) :
    Lens (bO a b) o' c (fun d => get d.2) (fun d x => (d.1, set d.2 x)) where
  fits := by have := l.fits; simp only [bO]; omega
  get_ := by
    subst ho
    rintro w ok cs d ⟨c1, c2, rfl, h1, h2⟩
    have hl := a.len h1
    have := l.get_ h2
    rw [List.drop_append, List.drop_of_length_le (by omega), List.nil_append, show a.n + off - c1.length = off by omega]
    exact this
  set_ := by
    subst ho
    rintro w ok cs d cs' d' ⟨c1, c2, rfl, h1, h2⟩ h'
    have hl := a.len h1
    refine ⟨c1, c2.take off ++ cs' ++ c2.drop (off + c.n), ?_, h1, l.set_ h2 h'⟩
    rw [List.take_append, List.drop_append, List.take_of_length_le (by omega), List.drop_of_length_le (by omega), show a.n + off - c1.length = off by omega, show a.n + off + c.n - c1.length = off + c.n by omega]
    simp
end
end Go.Eng
namespace Go.Eng
inductive SV : Type 1
  | raw (v : Value)
  | tv {α : Type} (rt : RT α) (d : α)
  | eptr {α : Type} (rt : RT α) (d : α)
  | own (nm sz off n : Nat)
  | optr (nm sz i f : Nat)
  | mref (nm : Nat)
  | epown (nm sz off n : Nat)
  | both (s : SV) (v : Value)
  | lnk (s : SV) (u : Value) (t : SV)
  | fam (s : SV) (base sz : Nat) (ds : List (Option (Option Addr × Nat × Nat)))
  | gd (c : Bool) (s : SV)
  | tup2 (a b : SV)
  | tup3 (a b c : SV)
  | tup4 (a b c d : SV)
def SV.of {α : Type} (rt : RT α) (d : α) : SV := match rt.raw d with | some v => .raw v | none => .tv rt d
abbrev Loc := Nat → Option (Nat × Nat)
def hdr (β : Loc) (w : World) (nm sz off n : Nat) (v : Value) : Prop :=
  match β nm with
  | none => v = .slice none 0 0 ∧ n = 0
  | some (b, o) => ∃ A cap, v = .slice A n cap ∧ n ≤ cap ∧ cap ≤ maxLen ∧
      ((n = 0 ∧ cap = 0) ∨ (A = some ⟨b, o + off * sz, none⟩ ∧ ∃ cur e fr, w.heap[b]? = some (.cells cur e fr) ∧ o + (off + cap) * sz ≤ cur.size))
def SV.holds (β : Loc) (w : World) (ok : Ok) : SV → Value → Prop
  | .raw u, v => v = u
  | .tv rt d, v => rt.val w ok v d
  | .eptr rt d, v => ∃ b o cs, v = .pointer (some ⟨b, o, none⟩) ∧ ok b ∧ rt.rep w ok cs d ∧ CellsAt w b o cs
  | .own nm sz off n, v => hdr β w nm sz off n v
  | .optr nm sz i f, v => ∃ b o, β nm = some (b, o) ∧ v = .pointer (some ⟨b, o + i * sz + f, none⟩)
  | .mref nm, v => ∃ b o, β nm = some (b, o) ∧ v = .map (some b)
  | .epown nm sz off n, v => ∃ b o u, v = .pointer (some ⟨b, o, none⟩) ∧ ok b ∧ CellsAt w b o [u] ∧ hdr β w nm sz off n u
  | .both s u, v => s.holds β w ok v ∧ v = u
  | .lnk s u t, v => s.holds β w ok v ∧ t.holds β w ok u
  | .fam s base sz ds, v => s.holds β w ok v ∧ ∀ x A m cap, ds[x]? = some (some (A, m, cap)) → hdr β w (x + base) sz 0 m (.slice A m cap)
  | .gd c s, v => (c = true → s.holds β w ok v) ∧ (c = false → v = undef)
  | .tup2 a b, v => ∃ x y, v = .tuple #[x, y] ∧ a.holds β w ok x ∧ b.holds β w ok y
  | .tup3 a b c, v => ∃ x y z, v = .tuple #[x, y, z] ∧ a.holds β w ok x ∧ b.holds β w ok y ∧ c.holds β w ok z
  | .tup4 a b c d, v => ∃ x y z u, v = .tuple #[x, y, z, u] ∧ a.holds β w ok x ∧ b.holds β w ok y ∧ c.holds β w ok z ∧ d.holds β w ok u
def SV.free (nm : Nat) : SV → Bool
  | .own k _ _ _ | .optr k _ _ _ | .mref k | .epown k _ _ _ => !(Nat.beq k nm)
  | .both s _ => s.free nm
  | .lnk s _ t => s.free nm && t.free nm
  | .fam s base _ ds => s.free nm && (Nat.blt nm base || (match ds[nm - base]? with | some (some _) => false | _ => true))
  | .gd _ s => s.free nm
  | .tup2 a b => a.free nm && b.free nm
  | .tup3 a b c => a.free nm && b.free nm && c.free nm
  | .tup4 a b c d => a.free nm && b.free nm && c.free nm && d.free nm
  | _ => true
def SV.plain : SV → Bool
  | .own .. | .optr .. | .mref .. | .epown .. | .fam .. => false
  | .both s _ => s.plain
  | .lnk s _ t => s.plain && t.plain
  | .gd _ s => s.plain
  | .tup2 a b => a.plain && b.plain
  | .tup3 a b c => a.plain && b.plain && c.plain
  | .tup4 a b c d => a.plain && b.plain && c.plain && d.plain
  | _ => true
structure HB : Type 1 where
  {α : Type}
  rt : RT α
  xs : List α
def eZ {α : Type} (rt : RT α) (w : World) (ok : Ok) (b o : Nat) (xs : List α) : Prop :=
  ∃ cur e, w.heap[b]? = some (.cells cur e (0, 0)) ∧ o + xs.length * rt.n ≤ cur.size ∧
    ∀ i x, xs[i]? = some x → ∃ cs, rt.rep w ok cs x ∧ ∀ j v, cs[j]? = some v → cur[o + i * rt.n + j]? = some v
def HB.holds (w : World) (ok : Ok) (hb : HB) : Option (Nat × Nat) → Prop
  | none => hb.xs = []
  | some (b, o) => (hb.rt.mp = false → eZ hb.rt w ok b o hb.xs) ∧ (hb.rt.mp = true → ∃ D obj, hb.xs = [D] ∧ w.heap[b]? = some obj ∧ hb.rt.mrep obj D)
structure St : Type 1 where
  slots : List (Nat × SV)
  heap : List (Nat × HB)
def a8 : List (Nat × SV) → Nat → Option SV
  | [], _ => none
  | (i, s) :: r, n => bif Nat.beq i n then some s else a8 r n
def az : List (Nat × HB) → Nat → Option HB
  | [], _ => none
  | (i, s) :: r, n => bif Nat.beq i n then some s else az r n
theorem aT (i : Nat) (s : SV) (r : List (Nat × SV)) (n : Nat) : a8 ((i, s) :: r) n = if i = n then some s else a8 r n := by
  rw [show a8 ((i, s) :: r) n = bif Nat.beq i n then some s else a8 r n from rfl]
  by_cases h : i = n
  · subst h; simp
  have : Nat.beq i n = false := by cases hb : Nat.beq i n with | false => rfl | true => exact absurd (Nat.eq_of_beq_eq_true hb) h
  simp [this, h]
theorem aW (i : Nat) (s : HB) (r : List (Nat × HB)) (n : Nat) : az ((i, s) :: r) n = if i = n then some s else az r n := by
  rw [show az ((i, s) :: r) n = bif Nat.beq i n then some s else az r n from rfl]
  by_cases h : i = n
  · subst h; simp
  have : Nat.beq i n = false := by cases hb : Nat.beq i n with | false => rfl | true => exact absurd (Nat.eq_of_beq_eq_true hb) h
  simp [this, h]
def St.put (st : St) (d : Nat) (s : SV) : St := ⟨(d, s) :: st.slots, st.heap⟩
def di (nm : Nat) : List (Nat × SV) → Bool
  | [] => true
  | (_, s) :: r => s.free nm && di nm r
theorem ep {nm : Nat} : ∀ {l : List (Nat × SV)} {i : Nat} {s : SV}, di nm l = true → a8 l i = some s → s.free nm = true
  | [], _, _, _, h => by simp [a8] at h
  | (j, t) :: r, i, s, hf, h => by
    simp only [di, Bool.and_eq_true] at hf
    rw [aT] at h
    split at h
    · injection h with h; subst h; exact hf.1
    exact ep hf.2 h
structure Cx where
  w0 : World
  ok0 : Ok
  n : Nat
  ex : Nat → Prop
abbrev Cx.of (w0 : World) (ok0 : Ok) (n : Nat) : Cx := ⟨w0, ok0, n, fun _ => False⟩
def Cx.new (cx : Cx) (b : Nat) : Prop := cx.w0.heap.size ≤ b ∨ cx.ex b
theorem Cx.new_of {w : World} {ok0 : Ok} {n b : Nat} (h : (Cx.of w ok0 n).new b) : w.heap.size ≤ b := h.elim id False.elim
def bM (cx : Cx) (hp : List (Nat × HB)) (β : Loc) (w : World) : Ok := fun b =>
  (cx.ok0 b ∨ cx.new b) ∧ b < w.heap.size ∧ ∀ nm hb, az hp nm = some hb → ∀ x, β nm = some x → x.1 ≠ b
structure InvB (cx : Cx) (st : St) (β : Loc) (a : Act) (w : World) : Prop where
  below : BelowX cx.ex cx.w0.heap.size cx.w0 w
  old : ∀ b, cx.ok0 b → b < cx.w0.heap.size
  defers : a.defers = []
  size : a.tmps.size = cx.n
  own : ∀ nm hb, az st.heap nm = some hb → ∀ x, β nm = some x → cx.new x.1 ∧ x.1 < w.heap.size
  sep : ∀ nm nm' hb hb', az st.heap nm = some hb → az st.heap nm' = some hb' → ∀ x y, β nm = some x → β nm' = some y → x.1 = y.1 → nm = nm'
  rows : ∀ nm hb, az st.heap nm = some hb → hb.holds w (bM cx st.heap β w) (β nm)
  slots : ∀ i s, a8 st.slots i = some s → ∃ v, a.tmps[i]? = some v ∧ s.holds β w (bM cx st.heap β w) v
def Inv (cx : Cx) (st : St) (a : Act) (w : World) : Prop := ∃ β, InvB cx st β a w
section
variable {cx : Cx} {st : St} {β : Loc} {a : Act} {w w' : World}
theorem jT {a b : Nat} (h : Nat.blt a b = true) : a < b := by rwa [Nat.blt_eq] at h
theorem lt_blt {a b : Nat} (h : a < b) : Nat.blt a b = true := by rwa [Nat.blt_eq]
theorem Cy {x base : Nat} : Nat.blt (x + base) base = false := by
  cases h : Nat.blt (x + base) base with
  | false => rfl
  | true => exact absurd (jT h) (by omega)
theorem im {β' : Loc} {nm sz off n : Nat} {v : Value} (hf : β' nm = β nm ∧ ∀ b o, β nm = some (b, o) → ∀ cur e fr, w.heap[b]? = some (.cells cur e fr) → ∃ cur' e' fr', w'.heap[b]? = some (.cells cur' e' fr') ∧ cur'.size = cur.size) (hv : hdr β w nm sz off n v) : hdr β' w' nm sz off n v := by
  simp only [hdr] at hv ⊢
  rw [hf.1]
  cases hb : β nm with
  | none => rw [hb] at hv; exact hv
  | some x =>
    obtain ⟨b, o⟩ := x
    rw [hb] at hv
    obtain ⟨A, cap, h1, h2, h3, h4⟩ := hv
    refine ⟨A, cap, h1, h2, h3, ?_⟩
    rcases h4 with h4 | ⟨h4, cur, e, fr, h5, h6⟩
    · exact .inl h4
    obtain ⟨cur', e', fr', h7, h8⟩ := hf.2 b o hb cur e fr h5
    exact .inr ⟨h4, cur', e', fr', h7, by omega⟩
theorem SV.keep {β' : Loc} {ok ok' : Ok} (h : ∀ b, ok b → ok' b ∧ w'.heap[b]? = w.heap[b]?) :
    ∀ {s : SV} {v : Value}, (∀ nm, s.free nm = false → β' nm = β nm ∧ ∀ b o, β nm = some (b, o) → ∀ cur e fr, w.heap[b]? = some (.cells cur e fr) → ∃ cur' e' fr', w'.heap[b]? = some (.cells cur' e' fr') ∧ cur'.size = cur.size) →
      s.holds β w ok v → s.holds β' w' ok' v
  | .raw _, _, _, hv => hv
  | .tv rt _, _, _, hv => rt.val_keep h hv
  | .eptr rt _, _, _, ⟨b, o, cs, h1, h2, h3, h4⟩ => ⟨b, o, cs, h1, (h b h2).1, rt.keep h h3, h4.keep (h b h2).2⟩
  | .own nm sz off n, v, hf, hv => im (hf nm (by simp [SV.free])) hv
  | .epown nm sz off n, v, hf, ⟨b, o, u, h1, h2, h3, h4⟩ => ⟨b, o, u, h1, (h b h2).1, h3.keep (h b h2).2, im (hf nm (by simp [SV.free])) h4⟩
  | .optr nm sz i f, v, hf, ⟨b, o, h1, h2⟩ => ⟨b, o, by rw [(hf nm (by simp [SV.free])).1]; exact h1, h2⟩
  | .mref nm, v, hf, ⟨b, o, h1, h2⟩ => ⟨b, o, by rw [(hf nm (by simp [SV.free])).1]; exact h1, h2⟩
  | .both s u, v, hf, hv => ⟨SV.keep h (fun nm hn => hf nm (by simpa [SV.free] using hn)) hv.1, hv.2⟩
  | .lnk s u t, v, hf, hv => ⟨SV.keep h (fun nm hn => hf nm (by simp [SV.free, hn])) hv.1, SV.keep h (fun nm hn => hf nm (by simp [SV.free, hn])) hv.2⟩
  | .fam s base sz ds, v, hf, hv => ⟨SV.keep h (fun nm hn => hf nm (by simp [SV.free, hn])) hv.1, fun x A m cap hx => im (hf (x + base) (by simp only [SV.free, Cy, Nat.add_sub_cancel, hx, Bool.false_or, Bool.and_false])) (hv.2 x A m cap hx)⟩
  | .gd c s, v, hf, hv => ⟨fun hc => SV.keep h (fun nm hn => hf nm (by simpa [SV.free] using hn)) (hv.1 hc), hv.2⟩
  | .tup2 a b, v, hf, ⟨x, y, h1, h2, h3⟩ => ⟨x, y, h1, SV.keep h (fun nm hn => hf nm (by simp [SV.free, hn])) h2, SV.keep h (fun nm hn => hf nm (by simp [SV.free, hn])) h3⟩
  | .tup3 a b c, v, hf, ⟨x, y, z, h1, h2, h3, h4⟩ => ⟨x, y, z, h1, SV.keep h (fun nm hn => hf nm (by simp [SV.free, hn])) h2, SV.keep h (fun nm hn => hf nm (by simp [SV.free, hn])) h3, SV.keep h (fun nm hn => hf nm (by simp [SV.free, hn])) h4⟩
  | .tup4 a b c d, v, hf, ⟨x, y, z, u, h1, h2, h3, h4, h5⟩ => ⟨x, y, z, u, h1, SV.keep h (fun nm hn => hf nm (by simp [SV.free, hn])) h2, SV.keep h (fun nm hn => hf nm (by simp [SV.free, hn])) h3, SV.keep h (fun nm hn => hf nm (by simp [SV.free, hn])) h4, SV.keep h (fun nm hn => hf nm (by simp [SV.free, hn])) h5⟩
theorem HB.keep {ok ok' : Ok} (h : ∀ b, ok b → ok' b ∧ w'.heap[b]? = w.heap[b]?) {hb : HB} {l : Option (Nat × Nat)} (hl : ∀ x, l = some x → w'.heap[x.1]? = w.heap[x.1]?) (hh : hb.holds w ok l) : hb.holds w' ok' l := by
  cases l with
  | none => exact hh
  | some x =>
    obtain ⟨b, o⟩ := x
    refine ⟨fun hm => ?_, fun hm => ?_⟩
    · obtain ⟨cur, e, h1, h2, h3⟩ := hh.1 hm
      refine ⟨cur, e, (hl _ rfl).trans h1, h2, fun i x hi => ?_⟩
      obtain ⟨cs, h4, h5⟩ := h3 i x hi
      exact ⟨cs, hb.rt.keep h h4, h5⟩
    obtain ⟨D, obj, h1, h2, h3⟩ := hh.2 hm
    exact ⟨D, obj, h1, (hl _ rfl).trans h2, h3⟩
theorem InvB.later (hi : InvB cx st β a w) (hb : Below w.heap.size w w') : InvB cx st β a w' := by
  have hok : ∀ b, bM cx st.heap β w b → bM cx st.heap β w' b ∧ w'.heap[b]? = w.heap[b]? := fun b ⟨h1, h2, h3⟩ =>
    ⟨⟨h1, Nat.lt_of_lt_of_le h2 hb.size, h3⟩, hb.block b h2⟩
  refine ⟨hi.below.trans (hb.mono hi.below.size), hi.old, hi.defers, hi.size, fun nm h hh x hx => ?_, hi.sep, fun nm h hh => ?_, fun i s hs => ?_⟩
  · have := hi.own nm h hh x hx
    exact ⟨this.1, Nat.lt_of_lt_of_le this.2 hb.size⟩
  · exact HB.keep hok (fun x hx => hb.block _ (hi.own nm h hh x hx).2) (hi.rows nm h hh)
  obtain ⟨v, h1, h2⟩ := hi.slots i s hs
  refine ⟨v, h1, SV.keep hok (fun nm _ => ⟨rfl, fun b o hbo cur e fr hc => ⟨cur, e, fr, ?_, rfl⟩⟩) h2⟩
  have : b < w.heap.size := by
    rcases Nat.lt_or_ge b w.heap.size with h | h
    · exact h
    rw [Array.getElem?_eq_none h] at hc; cases hc
  rw [hb.block b this]; exact hc
theorem Below.drew' (w : World) : Below w.heap.size w w.drew := (Below.refl _ _).drew
theorem InvB.put (hi : InvB cx st β a w) {d : Nat} {s : SV} {v : Value} (hd : d < cx.n) (hs : s.holds β w (bM cx st.heap β w) v) : InvB cx (st.put d s) β (a.put (some d) v) w := by
  refine ⟨hi.below, hi.old, by simp [Act.put, hi.defers], by simp [Act.put, hi.size], hi.own, hi.sep, hi.rows, fun i s' h => ?_⟩
  simp only [St.put, aT] at h
  split at h
  · rename_i e; subst e; injection h with h; subst h
    exact ⟨v, by simp [Act.put, hi.size, hd], hs⟩
  rename_i e
  obtain ⟨u, h1, h2⟩ := hi.slots i s' h
  exact ⟨u, by simp [Act.put, Array.getElem?_setIfInBounds_ne e, h1], h2⟩
theorem InvB.cell_lt {b : Nat} {cur : Array Value} {e : TypeId} {fr : Nat × Nat} (h : w.heap[b]? = some (.cells cur e fr)) : b < w.heap.size := by
  rcases Nat.lt_or_ge b w.heap.size with h' | h'
  · exact h'
  rw [Array.getElem?_eq_none h'] at h; cases h
theorem InvB.alloc (hi : InvB cx st β a w) {nm : Nat} {α : Type} {rt : RT α} [NM rt] {xs : List α} {cs : Array Value} {e : TypeId} (hf : di nm st.slots = true) (hn : az st.heap nm = none)
    (hlen : xs.length * rt.n ≤ cs.size) (hc : ∀ i x, xs[i]? = some x → ∃ c, rt.rep w (bM cx st.heap β w) c x ∧ ∀ j v, c[j]? = some v → cs[i * rt.n + j]? = some v) :
    InvB cx ⟨st.slots, (nm, ⟨rt, xs⟩) :: st.heap⟩ (fun k => if k = nm then some (w.heap.size, 0) else β k) a (w.alloc (.cells cs e)) := by
  have hbel : Below w.heap.size w (w.alloc (.cells cs e)) := (Below.refl _ _).alloc (Nat.le_refl _) _
  have hok : ∀ b, bM cx st.heap β w b → bM cx ((nm, ⟨rt, xs⟩) :: st.heap) (fun k => if k = nm then some (w.heap.size, 0) else β k) (w.alloc (.cells cs e)) b ∧ (w.alloc (.cells cs e)).heap[b]? = w.heap[b]? := by
    rintro b ⟨h1, h2, h3⟩
    refine ⟨⟨h1, by simp; omega, fun k hb hk x hx => ?_⟩, hbel.block b h2⟩
    rw [aW] at hk
    by_cases e1 : k = nm
    · subst e1; simp at hx; subst hx; simp only; omega
    rw [if_neg (Ne.symm e1)] at hk
    simp only [if_neg e1] at hx
    exact h3 k hb hk x hx
  refine ⟨hi.below.trans (hbel.mono hi.below.size), hi.old, hi.defers, hi.size, fun k hb hk x hx => ?_, fun k k' hb hb' hk hk' x y hx hy hxy => ?_, fun k hb hk => ?_, fun i s hs => ?_⟩
  · by_cases e1 : k = nm
    · subst e1; simp at hx; subst hx; exact ⟨.inl hi.below.size, by simp⟩
    rw [aW, if_neg (Ne.symm e1)] at hk
    simp only [if_neg e1] at hx
    have := hi.own k hb hk x hx
    exact ⟨this.1, by simp; omega⟩
  · rw [aW] at hk hk'
    by_cases e1 : k = nm <;> by_cases e2 : k' = nm
    · rw [e1, e2]
    · subst e1
      rw [if_neg (Ne.symm e2)] at hk'
      simp at hx; subst hx
      simp only [if_neg e2] at hy
      have := hi.own k' hb' hk' y hy
      simp only at hxy; omega
    · subst e2
      rw [if_neg (Ne.symm e1)] at hk
      simp at hy; subst hy
      simp only [if_neg e1] at hx
      have := hi.own k hb hk x hx
      simp only at hxy; omega
    rw [if_neg (Ne.symm e1)] at hk
    rw [if_neg (Ne.symm e2)] at hk'
    simp only [if_neg e1] at hx
    simp only [if_neg e2] at hy
    exact hi.sep k k' hb hb' hk hk' x y hx hy hxy
  · rw [aW] at hk
    by_cases e1 : k = nm
    · subst e1
      rw [if_pos rfl] at hk
      injection hk with hk; subst hk
      simp only [if_pos]
      refine ⟨fun _ => ⟨cs, e, heap_alloc_new w _, by simpa using hlen, fun i x hx => ?_⟩, fun hm => by rw [show rt.mp = false from NM.no] at hm; cases hm⟩
      obtain ⟨c, h1, h2⟩ := hc i x hx
      exact ⟨c, rt.keep hok h1, fun j v hj => by rw [Nat.zero_add]; exact h2 j v hj⟩
    rw [if_neg (Ne.symm e1)] at hk
    simp only [if_neg e1]
    exact HB.keep hok (fun x hx => hbel.block _ (hi.own k hb hk x hx).2) (hi.rows k hb hk)
  obtain ⟨v, h1, h2⟩ := hi.slots i s hs
  have hfree := ep hf hs
  refine ⟨v, h1, SV.keep hok (fun k hk => ?_) h2⟩
  have hne : k ≠ nm := by rintro rfl; rw [hfree] at hk; cases hk
  refine ⟨by simp [hne], fun b o hbo cur e' fr hcur => ⟨cur, e', fr, ?_, rfl⟩⟩
  rw [hbel.block b (InvB.cell_lt hcur)]; exact hcur
end
end Go.Eng
namespace Go.Eng
def evS (st : St) : Operand → Option SV
  | .tmp t => a8 st.slots t
  | .const v => some (.raw v)
  | .func f => some (.raw (.func (.func f) #[] #[]))
  | .global g => some (.raw (.pointer (some ⟨g, 0, none⟩)))
inductive Ev (st : St) (x : Operand) (s : SV) : Prop
  | base (h : evS st x = some s)
  | gd {c : Bool} (h : evS st x = some (.gd c s)) (hc : c = true)
  | b1 {u : Value} (h : evS st x = some (.both s u))
  | b2 {s' : SV} {u : Value} (h : evS st x = some (.both s' u)) (e : s = .raw u)
  | l1 {u : Value} {t : SV} (h : evS st x = some (.lnk s u t))
  | f1 {base sz : Nat} {ds : List (Option (Option Addr × Nat × Nat))} (h : evS st x = some (.fam s base sz ds))
section
variable {P : Program} {cx : Cx} {st st' : St} {β : Loc} {a : Act} {w w' : World} {ops : Array Oper} {o : Oper}
theorem InvB.evS (hi : InvB cx st β a w) {x : Operand} {s : SV} (h : Eng.evS st x = some s) : s.holds β w (bM cx st.heap β w) (a.eval x) := by
  cases x with
  | tmp t =>
    obtain ⟨v, h1, h2⟩ := hi.slots t s h
    have : a.eval (.tmp t) = v := by simp [Act.eval, h1]
    rw [this]; exact h2
  | const v => simp only [Eng.evS] at h; injection h with h; subst h; rfl
  | func f => simp only [Eng.evS] at h; injection h with h; subst h; rfl
  | global g => simp only [Eng.evS] at h; injection h with h; subst h; rfl
theorem InvB.ev (hi : InvB cx st β a w) {x : Operand} {s : SV} (h : Ev st x s) : s.holds β w (bM cx st.heap β w) (a.eval x) := by
  cases h with
  | base h => exact hi.evS h
  | gd h hc => exact (hi.evS h).1 hc
  | b1 h => exact (hi.evS h).1
  | b2 h e => subst e; exact (hi.evS h).2
  | l1 h => exact (hi.evS h).1
  | f1 h => exact (hi.evS h).1
theorem InvB.raw (hi : InvB cx st β a w) {x : Operand} {v : Value} (h : Ev st x (.raw v)) : a.eval x = v := hi.ev h
structure Agr (o : Oper) (st st' : St) : Prop where
  ops : ∀ x ∈ o.op.operands, evS st' x = evS st x
  heap : ∀ x ∈ o.op.operands, ∀ s nm, evS st x = some s → s.free nm = false → az st'.heap nm = az st.heap nm
theorem Agr.refl (o : Oper) (st : St) : Agr o st st := ⟨fun _ _ => rfl, fun _ _ _ _ _ _ => rfl⟩
theorem Agr.look (h : Agr o st st') {x : Operand} {s : SV} {nm : Nat} (hx : x ∈ o.op.operands) (he : Ev st x s) (hf : s.free nm = false) : az st'.heap nm = az st.heap nm := by
  cases he with
  | base e => exact h.heap x hx _ nm e hf
  | gd e hc => exact h.heap x hx _ nm e hf
  | b1 e => exact h.heap x hx _ nm e hf
  | b2 e hs => subst hs; cases hf
  | l1 e => exact h.heap x hx _ nm e (by simp [SV.free, hf])
  | f1 e => exact h.heap x hx _ nm e (by simp [SV.free, hf])
theorem Agr.ev (h : Agr o st st') {x : Operand} {s : SV} (hx : x ∈ o.op.operands) (he : Ev st x s) : Ev st' x s := by
  cases he with
  | base e => exact .base ((h.ops x hx).trans e)
  | gd e hc => exact .gd ((h.ops x hx).trans e) hc
  | b1 e => exact .b1 ((h.ops x hx).trans e)
  | b2 e hs => exact .b2 ((h.ops x hx).trans e) hs
  | l1 e => exact .l1 ((h.ops x hx).trans e)
  | f1 e => exact .f1 ((h.ops x hx).trans e)
def Adr (P : Program) (cx : Cx) (st : St) (o : Oper) (s : SV) : Prop :=
  ∀ st', Agr o st st' → ∀ d, o.dst = some d → d < cx.n → ∀ a w, Inv cx st' a w → ∀ Q, o.wp P a w (fun a' w' => Inv cx (st'.put d s) a' w') Q
def OS (P : Program) (cx : Cx) (o : Oper) (st st' : St) : Prop :=
  ∀ a w, Inv cx st a w → ∀ Q, o.wp P a w (fun a' w' => Inv cx st' a' w') Q
theorem bD {s : SV} (h : ∀ st', Agr o st st' → ∀ β a w, InvB cx st' β a w → ∃ v, (execOp a.eval o).run P w = .ok (.value v) w ∧ s.holds β w (bM cx st'.heap β w) v) : Adr P cx st o s := by
  intro st' hag d hd hdn a w ⟨β, hi⟩ Q
  obtain ⟨v, h1, h2⟩ := h st' hag β a w hi
  unfold Oper.wp
  rw [h1, Oper.upon_value, hd]
  exact ⟨β, hi.put hdn h2⟩
theorem rD {s : SV} (h : ∀ st', Agr o st st' → ∀ β a w, InvB cx st' β a w → ∃ v w', (execOp a.eval o).run P w = .ok (.value v) w' ∧ Below w.heap.size w w' ∧ s.holds β w' (bM cx st'.heap β w') v) : Adr P cx st o s := by
  intro st' hag d hd hdn a w ⟨β, hi⟩ Q
  obtain ⟨v, w', h1, h3, h2⟩ := h st' hag β a w hi
  unfold Oper.wp
  rw [h1, Oper.upon_value, hd]
  exact ⟨β, (hi.later h3).put hdn h2⟩
inductive Kn
  | fin (fn : Func) (R : Ending → World → Prop)
  | seq (c : Code) (k : Kn)
  | blk (id : Nat) (k : Kn)
  | loop (I : Act → World → Prop) (k : Kn)
def Kn.post (P : Program) : Kn → Exit → Act → World → Prop
  | .fin fn R => bodyPost P fn R
  | .seq c k => Exit.then (c.wp P (k.post P)) (k.post P)
  | .blk id k => Exit.inBlock id (k.post P)
  | .loop I k => Exit.then I (k.post P)
def J (P : Program) (cx : Cx) (st : St) (c : Code) (k : Kn) : Prop := ∀ a w, Inv cx st a w → c.wp P (k.post P) a w
def JN (P : Program) (cx : Cx) (st : St) (k : Kn) : Prop := ∀ a w, Inv cx st a w → k.post P .normal a w
def JE (P : Program) (cx : Cx) (id : Nat) (st : St) (k : Kn) : Prop := ∀ a w, Inv cx st a w → k.post P (.exit id) a w
def JR (P : Program) (cx : Cx) (st : St) (k : Kn) : Prop := ∀ a w, Inv cx st a w → k.post P .ret a w
variable {c c' : Code} {k : Kn} {id id' : Nat} {I : Act → World → Prop}
theorem ae (h : J P cx st c (.seq c' k)) : J P cx st (.seq c c') k := fun a w hi => wp_seq (h a w hi)
theorem ah (h : JN P cx st k) : J P cx st .skip k := fun a w hi => wp_skip (h a w hi)
theorem am (h : JR P cx st k) : J P cx st .ret k := fun a w hi => wp_ret (h a w hi)
theorem bg (h : JE P cx id st k) : J P cx st (.exit id) k := fun a w hi => wp_exit (h a w hi)
theorem aq (h : J P cx st c (.blk id k)) : J P cx st (.block id c) k := fun a w hi => wp_block (h a w hi)
def JG (P : Program) (cx : Cx) (ops : Array Oper) (st : St) (l : List Oper) (k : Kn) : Prop := ∀ a w, Inv cx st a w → wpList P ops (k.post P) l a w
theorem ac {l : List Oper} (h : JG P cx l.toArray st l k) : J P cx st (.region id l.toArray false) k := fun a w hi => wp_region_lit (h a w hi)
theorem aN (h : JN P cx st k) : JG P cx ops st [] k := h
theorem bc {rest : List Oper} (s : SV) (hg : o.guard = none) (d : Nat) (hd : o.dst = some d) (hdn : Nat.blt d cx.n = true) (h : Adr P cx st o s) (hr : JG P cx ops (st.put d s) rest k) : JG P cx ops st (o :: rest) k := by
  intro a w hi
  refine wpList_plain hg fun K hK => ?_
  exact Oper.wp_mono (fun a' w' hi' => hK _ _ (hr a' w' hi')) (h st (.refl o st) d hd (by simpa using hdn) a w hi _)
theorem eN {rest : List Oper} (st1 : St) (hg : o.guard = none) (h : OS P cx o st st1) (hr : JG P cx ops st1 rest k) : JG P cx ops st (o :: rest) k := by
  intro a w hi
  refine wpList_plain hg fun K hK => ?_
  exact Oper.wp_mono (fun a' w' hi' => hK _ _ (hr a' w' hi')) (h a w hi _)
theorem jg_gd {rest : List Oper} (s : SV) (j : Nat) (want c : Bool) (g d : Nat) (hg : o.guard = some (j, want)) (hj : (ops[j]?).bind (·.dst) = some g) (hc : a8 st.slots g = some (.raw (.bool c)))
    (hd : o.dst = some d) (hdn : Nat.blt d cx.n = true) (h : (c == want) = true → Adr P cx st o s) (hr : JG P cx ops (st.put d (.gd (c == want) s)) rest k) : JG P cx ops st (o :: rest) k := by
  intro a w hi
  have hdn' : d < cx.n := by simpa using hdn
  obtain ⟨β, hb⟩ := hi
  obtain ⟨v, h1, h2⟩ := hb.slots g _ hc
  have h2 : v = .bool c := h2
  subst h2
  have hw : Region.wanted o (yielded ops a.tmps) = (c == want) := by
    have : yielded ops a.tmps j = some c := by simp only [yielded, hj, Option.bind_some, h1]
    simp only [Region.wanted, hg, this]
    cases c <;> cases want <;> rfl
  refine wpList_step fun K hK => ?_
  cases hcw : (c == want) with
  | true =>
    rw [hw, hcw, if_pos rfl]
    refine Oper.wp_mono (fun a' w' hi' => hK _ _ (hr a' w' ?_)) (h hcw st (.refl o st) d hd hdn' a w ⟨β, hb⟩ _)
    obtain ⟨β', hb'⟩ := hi'
    obtain ⟨u, h3, h4⟩ := hb'.slots d s (by simp [St.put, aT])
    refine ⟨β', hb'.below, hb'.old, hb'.defers, hb'.size, hb'.own, hb'.sep, hb'.rows, fun i s' hs' => ?_⟩
    simp only [St.put, aT] at hs'
    split at hs'
    · rename_i e; subst e; injection hs' with hs'; subst hs'
      exact ⟨u, h3, fun _ => h4, fun h => by rw [hcw] at h; cases h⟩
    rename_i e
    exact hb'.slots i s' (by simp [St.put, aT, e, hs'])
  | false =>
    rw [hw, hcw, if_neg (by simp)]
    refine hK _ _ (hr _ _ ⟨β, ?_⟩)
    rw [hd]
    exact hb.put hdn' ⟨(fun h => by rw [hcw] at h; cases h), fun _ => rfl⟩
theorem ct {rest : List Oper} (s : SV) (j : Nat) (want c c0 : Bool) (g d : Nat) (hg : o.guard = some (j, want)) (hj : (ops[j]?).bind (·.dst) = some g) (hc : a8 st.slots g = some (.gd c0 (.raw (.bool c))))
    (hd : o.dst = some d) (hdn : Nat.blt d cx.n = true) (h : (c0 && (c == want)) = true → Adr P cx st o s) (hr : JG P cx ops (st.put d (.gd (c0 && (c == want)) s)) rest k) : JG P cx ops st (o :: rest) k := by
  intro a w hi
  have hdn' : d < cx.n := by simpa using hdn
  obtain ⟨β, hb⟩ := hi
  obtain ⟨v, h1, h2, h2'⟩ := hb.slots g _ hc
  have hw : Region.wanted o (yielded ops a.tmps) = (c0 && (c == want)) := by
    cases c0 with
    | true =>
      have h2 : v = .bool c := h2 rfl
      subst h2
      have : yielded ops a.tmps j = some c := by simp only [yielded, hj, Option.bind_some, h1]
      simp only [Region.wanted, hg, this]
      cases c <;> cases want <;> rfl
    | false =>
      have h2 : v = undef := h2' rfl
      subst h2
      have : yielded ops a.tmps j = none := by simp only [yielded, hj, Option.bind_some, h1, undef]
      simp only [Region.wanted, hg, this]
      rfl
  refine wpList_step fun K hK => ?_
  cases hcw : (c0 && (c == want)) with
  | true =>
    rw [hw, hcw, if_pos rfl]
    refine Oper.wp_mono (fun a' w' hi' => hK _ _ (hr a' w' ?_)) (h hcw st (.refl o st) d hd hdn' a w ⟨β, hb⟩ _)
    obtain ⟨β', hb'⟩ := hi'
    obtain ⟨u, h3, h4⟩ := hb'.slots d s (by simp [St.put, aT])
    refine ⟨β', hb'.below, hb'.old, hb'.defers, hb'.size, hb'.own, hb'.sep, hb'.rows, fun i s' hs' => ?_⟩
    simp only [St.put, aT] at hs'
    split at hs'
    · rename_i e; subst e; injection hs' with hs'; subst hs'
      exact ⟨u, h3, fun _ => h4, fun h => by rw [hcw] at h; cases h⟩
    rename_i e
    exact hb'.slots i s' (by simp [St.put, aT, e, hs'])
  | false =>
    rw [hw, hcw, if_neg (by simp)]
    refine hK _ _ (hr _ _ ⟨β, ?_⟩)
    rw [hd]
    exact hb.put hdn' ⟨(fun h => by rw [hcw] at h; cases h), fun _ => rfl⟩
theorem af {x : Operand} {t e : Code} {b : Bool} (hx : evS st x = some (.raw (.bool b))) (ht : b = true → J P cx st t k) (he : b = false → J P cx st e k) : J P cx st (.cond x t e) k := by
  rintro a w ⟨β, hi⟩
  have hv : a.eval x = .bool b := hi.raw (.base hx)
  exact wp_cond_split hv (fun hb => ht hb a w ⟨β, hi⟩) (fun hb => he hb a w ⟨β, hi⟩)
theorem bz {x : Operand} {t e : Code} {b : Bool} (hx : evS st x = some (.raw (.bool b))) (hb : b = true) (ht : J P cx st t k) : J P cx st (.cond x t e) k :=
  af hx (fun _ => ht) (fun h => by rw [hb] at h; cases h)
theorem aa (h : J P cx st c k) : JN P cx st (.seq c k) := fun a w hi => h a w hi
theorem aG (h : JN P cx st k) : JN P cx st (.blk id k) := fun a w hi => h a w hi
theorem aD (h : ∀ a w, Inv cx st a w → I a w) : JN P cx st (.loop I k) := fun a w hi => h a w hi
theorem be (h : JE P cx id st k) : JE P cx id st (.seq c k) := fun a w hi => h a w hi
theorem aY (h : JE P cx id st k) : JE P cx id st (.loop I k) := fun a w hi => h a w hi
theorem bf (h : JN P cx st k) : JE P cx id st (.blk id k) := fun a w hi => by
  simp only [Kn.post, Exit.inBlock, if_true]; exact h a w hi
theorem gn (hne : Nat.beq id id' = false) (h : JE P cx id st k) : JE P cx id st (.blk id' k) := fun a w hi => by
  have : ¬ id = id' := fun e => by subst e; simp at hne
  simp only [Kn.post, Exit.inBlock, if_neg this]; exact h a w hi
theorem ai (h : JR P cx st k) : JR P cx st (.seq c k) := fun a w hi => h a w hi
theorem av (h : JR P cx st k) : JR P cx st (.blk id k) := fun a w hi => h a w hi
theorem bL (h : JR P cx st k) : JR P cx st (.loop I k) := fun a w hi => h a w hi
theorem j_loop {ι : Type} (inv : ι → St) (μ : ι → Nat) (i0 : ι) (h0 : ∀ a w, Inv cx st a w → Inv cx (inv i0) a w)
    (round : ∀ i, J P cx (inv i) c (.loop (fun a w => ∃ j, μ j < μ i ∧ Inv cx (inv j) a w) k)) : J P cx st (.loop c) k := by
  intro a w hi
  refine wp_loop_ghost (fun n a w => ∃ i, μ i = n ∧ Inv cx (inv i) a w) (μ i0) ⟨i0, rfl, h0 a w hi⟩ ?_
  rintro n a w ⟨i, rfl, hi⟩
  refine wp_mono (round i a w hi) ?_
  intro e a' w' hq
  cases e with
  | normal =>
    obtain ⟨j, hj, hi'⟩ := hq
    exact ⟨μ j, hj, j, rfl, hi'⟩
  | _ => exact hq
structure Sub (st st' : St) : Prop where
  slots : ∀ i s, a8 st'.slots i = some s → a8 st.slots i = some s
  heap : ∀ i s, az st'.heap i = some s → az st.heap i = some s
theorem Sub.inv (h : Sub st st') (hi : Inv cx st a w) : Inv cx st' a w := by
  obtain ⟨β, hb⟩ := hi
  have hok : ∀ b, bM cx st.heap β w b → bM cx st'.heap β w b ∧ w.heap[b]? = w.heap[b]? := fun b ⟨h1, h2, h3⟩ => ⟨⟨h1, h2, fun nm hb hh => h3 nm hb (h.heap _ _ hh)⟩, rfl⟩
  refine ⟨β, hb.below, hb.old, hb.defers, hb.size, fun nm x hx => hb.own nm x (h.heap _ _ hx), fun nm nm' x y hx hy => hb.sep nm nm' x y (h.heap _ _ hx) (h.heap _ _ hy), fun nm x hx => HB.keep hok (fun _ _ => rfl) (hb.rows nm x (h.heap _ _ hx)), fun i s hs => ?_⟩
  obtain ⟨v, h1, h2⟩ := hb.slots i s (h.slots _ _ hs)
  exact ⟨v, h1, SV.keep hok (fun nm _ => ⟨rfl, fun b o _ cur e fr hc => ⟨cur, e, fr, hc, rfl⟩⟩) h2⟩
theorem aQ {l : List (Nat × SV)} : ∀ i s, a8 [] i = some s → a8 l i = some s := fun _ _ h => by simp [a8] at h
theorem aM {l r : List (Nat × SV)} {j : Nat} {t t' : SV} (h : a8 l j = some t) (e : t = t') (hr : ∀ i s, a8 r i = some s → a8 l i = some s) : ∀ i s, a8 ((j, t') :: r) i = some s → a8 l i = some s := by
  intro i s hs
  subst e
  rw [aT] at hs
  split at hs
  · rename_i e; subst e; rw [h]; exact hs
  exact hr i s hs
theorem bn {l : List (Nat × HB)} : ∀ i s, az [] i = some s → az l i = some s := fun _ _ h => by simp [az] at h
theorem aL {l r : List (Nat × HB)} {j : Nat} {t t' : HB} (h : az l j = some t) (e : t = t') (hr : ∀ i s, az r i = some s → az l i = some s) : ∀ i s, az ((j, t') :: r) i = some s → az l i = some s := by
  intro i s hs
  subst e
  rw [aW] at hs
  split at hs
  · rename_i e; subst e; rw [h]; exact hs
  exact hr i s hs
theorem Aa (h : Sub st st') (hj : JN P cx st' k) : JN P cx st k := fun a w hi => hj a w (h.inv hi)
inductive Keep (l : List (Nat × SV)) : List Nat → List (Nat × SV) → Prop
  | nil : Keep l [] []
  | cons {j : Nat} {ks : List Nat} {t : SV} {r : List (Nat × SV)} (h : a8 l j = some t) (hr : Keep l ks r) : Keep l (j :: ks) ((j, t) :: r)
theorem Keep.sub {l : List (Nat × SV)} {ks : List Nat} {r : List (Nat × SV)} (h : Keep l ks r) : ∀ i s, a8 r i = some s → a8 l i = some s := by
  induction h with
  | nil => exact aQ
  | cons h _ ih => exact aM h rfl ih
inductive KeepH (l : List (Nat × HB)) : List Nat → List (Nat × HB) → Prop
  | nil : KeepH l [] []
  | cons {j : Nat} {ks : List Nat} {t : HB} {r : List (Nat × HB)} (h : az l j = some t) (hr : KeepH l ks r) : KeepH l (j :: ks) ((j, t) :: r)
theorem KeepH.sub {l : List (Nat × HB)} {ks : List Nat} {r : List (Nat × HB)} (h : KeepH l ks r) : ∀ i s, az r i = some s → az l i = some s := by
  induction h with
  | nil => exact bn
  | cons h _ ih => exact aL h rfl ih
theorem Cb (ks hs : List Nat) {r : List (Nat × SV)} {hp : List (Nat × HB)} (h : Keep st.slots ks r) (hh : KeepH st.heap hs hp) (hj : JN P cx ⟨r, hp⟩ k) : JN P cx st k :=
  Aa (st' := ⟨r, hp⟩) ⟨h.sub, hh.sub⟩ hj
theorem aZ {ι : Type} (inv : ι → St) (p : ι → Prop) (μ : ι → Nat) (i0 : ι) (p0 : p i0) (h0 : ∀ a w, Inv cx st a w → Inv cx (inv i0) a w)
    (round : ∀ i, p i → J P cx (inv i) c (.loop (fun a w => ∃ j, μ j < μ i ∧ p j ∧ Inv cx (inv j) a w) k)) : J P cx st (.loop c) k :=
  j_loop (ι := {i : ι // p i}) (fun i => inv i.1) (fun i => μ i.1) ⟨i0, p0⟩ h0 (fun i => by
    have := round i.1 i.2
    intro a w hi
    refine wp_mono (this a w hi) ?_
    intro e a' w' hq
    cases e with
    | normal =>
      obtain ⟨j, h1, h2, h3⟩ := hq
      exact ⟨⟨j, h2⟩, h1, h3⟩
    | _ => exact hq)
end
end Go.Eng
namespace Go.Eng
def u6 : TypeDesc → Bool
  | .struct _ | .array _ _ => true
  | _ => false
structure Ty {α : Type} (P : Program) (t : TypeId) (rt : RT α) : Prop where
  desc : ∃ d, P.underlying t = some d ∧ u6 d = rt.agg
  size : ∃ i, P.info? t = some i ∧ i.size = rt.n
theorem Ty.mk_ {α : Type} {P : Program} {t : TypeId} {rt : RT α} {d : TypeDesc} (hu : P.underlying t = some d) (hd : u6 d = rt.agg) (hi : (P.info? t).map (·.size) = some rt.n) : Ty P t rt :=
  ⟨⟨d, hu, hd⟩, let ⟨i, h1, h2⟩ := Option.map_eq_some_iff.1 hi; ⟨i, h1, h2⟩⟩
def TyZero {α : Type} (P : Program) (t : TypeId) (rt : RT α) (z : α) : Prop := ∃ i v, P.info? t = some i ∧ i.zero = some v ∧ ∀ w ok, rt.val w ok v z
theorem TyZero.mk_ {α : Type} {P : Program} {t : TypeId} {rt : RT α} {z : α} {v : Value} (hi : (P.info? t).map (·.zero) = some (some v)) (hv : ∀ w ok, rt.val w ok v z) : TyZero P t rt z :=
  let ⟨i, h1, h2⟩ := Option.map_eq_some_iff.1 hi; ⟨i, v, h1, h2, hv⟩
def fld (P : Program) (t : TypeId) (k : Nat) : Option Nat :=
  match P.underlying t with
  | some (.struct fs) =>
    match fs[k]? with
    | some f => if ((P.info? f.type).map (·.size)).getD 0 = 0 then none else some f.offset
    | none => none
  | _ => none
section
variable {P : Program} {cx : Cx} {st st' : St} {β : Loc} {a : Act} {w w' : World} {ops : Array Oper}
variable {dst : Option Tmp} {ty : TypeId} {pos : String} {aft : Array Edge} {gd : Option (Nat × Bool)}
theorem lN {t : TypeId} {d : TypeDesc} (h : P.underlying t = some d) (w : World) : (isAgg t).run P w = .ok (u6 d) w := by
  simp only [isAgg, Sem.run_bind, run_underlying h, Result.andThen_ok]
  cases d <;> rfl
theorem dM {t : TypeId} {i : TypeInfo} (h : P.info? t = some i) (w : World) : (sizeOf t).run P w = .ok i.size w := by
  simp [sizeOf, typeInfo, h]
theorem mf (w : World) (b o : Nat) : ∀ (n i : Nat) (acc : Array Value) (cs : List Value), cs.length = n → CellsAt w b (o + i) cs → (loadCellsFrom ⟨b, o, none⟩ i n acc).run P w = .ok (acc ++ cs.toArray) w
  | 0, i, acc, cs, hl, _ => by
    have : cs = [] := List.eq_nil_of_length_eq_zero hl
    subst this
    simp [loadCellsFrom]
  | n + 1, i, acc, cs, hl, hc => by
    match cs, hl with
    | c :: r, hl =>
      have h0 := hc 0 c rfl
      have ih := mf w b o n (i + 1) (acc.push c) r (by simpa using hl) (fun j v hj => by
        have := hc (j + 1) v (by simpa using hj)
        rw [show o + (i + 1) + j = o + i + (j + 1) by omega]; exact this)
      have e : (⟨b, o, none⟩ : Addr).add i = ⟨b, o + i, none⟩ := Addr.add_lit _ _ _
      simp only [Nat.add_zero] at h0
      simp [loadCellsFrom, e, h0, ih]
theorem pT {α : Type} (rt : RT α) {ok : Ok} {cs : List Value} {d : α} (ha : rt.agg = false) (h : rt.rep w ok cs d) : ∃ c, cs = [c] := by
  have hl := rt.len h
  rw [rt.scal ha] at hl
  match cs, hl with
  | [c], _ => exact ⟨c, rfl⟩
theorem jq {α : Type} {t : TypeId} {rt : RT α} (ht : Ty P t rt) {ok : Ok} {b o : Nat} {cs : List Value} {d : α} (h : rt.rep w ok cs d) (hc : CellsAt w b o cs) :
    ∃ v, (loadVar t ⟨b, o, none⟩).run P w = .ok v w ∧ rt.val w ok v d := by
  obtain ⟨⟨de, hu, hd⟩, i, hi, hs⟩ := ht
  cases ha : rt.agg with
  | true =>
    refine ⟨.agg cs.toArray, ?_, cs, h, by simp [ha]⟩
    have := mf (P := P) w b o rt.n 0 #[] cs (rt.len h) (by simpa using hc)
    simp [loadVar, lN hu, hd, ha, dM hi, loadCells, hs, this]
  | false =>
    obtain ⟨c, rfl⟩ := pT rt ha h
    have h0 := hc 0 c rfl
    simp only [Nat.add_zero] at h0
    exact ⟨c, by simp [loadVar, lN hu, hd, ha, h0], [c], h, by simp [ha]⟩
theorem lm {α : Type} {rt : RT α} {ok : Ok} {v : Value} {d : α} (h : rt.val w ok v d) : (SV.of rt d).holds β w ok v := by
  unfold SV.of
  cases hr : rt.raw d with
  | none => exact h
  | some u => exact rt.val_raw hr h
theorem ag {x : Operand} {s : SV} (hx : Ev st x s) : Adr P cx st ⟨dst, .move x, ty, pos, aft, gd⟩ s :=
  bD fun st' hag β a w hi => ⟨a.eval x, by simp [execOp], by have := hi.ev (hag.ev (by simp [Op.operands]) hx); exact this⟩
theorem aU {x : Operand} {s : SV} (hx : Ev st x s) : Adr P cx st ⟨dst, .assign x, ty, pos, aft, gd⟩ s :=
  bD fun st' hag β a w hi => ⟨a.eval x, by simp [execOp], by have := hi.ev (hag.ev (by simp [Op.operands]) hx); exact this⟩
theorem aB {c x y : Operand} {b z G : Bool} (hc : Ev st c (.raw (.bool b))) (hx : Ev st x (.raw (.bool true))) (hy : evS st y = some (.gd G (.raw (.bool z)))) (hG : b = false → G = true) :
    Adr P cx st ⟨dst, .pick c x y, ty, pos, aft, gd⟩ (.raw (.bool (b || z))) :=
  bD fun st' hag β a w hi => by
    have h1 := hi.raw (hag.ev (by simp [Op.operands]) hc)
    have h2 := hi.raw (hag.ev (by simp [Op.operands]) hx)
    have h3 := hi.evS ((hag.ops y (by simp [Op.operands])).trans hy)
    refine ⟨.bool (b || z), ?_, rfl⟩
    cases b with
    | true => simp [execOp, h1, h2, asBool]
    | false => have h3 := h3.1 (hG rfl); simp only [SV.holds] at h3; simp [execOp, h1, h3, asBool]
theorem aF {c x y : Operand} {b z G : Bool} (hc : Ev st c (.raw (.bool b))) (hx : Ev st y (.raw (.bool false))) (hy : evS st x = some (.gd G (.raw (.bool z)))) (hG : b = true → G = true) :
    Adr P cx st ⟨dst, .pick c x y, ty, pos, aft, gd⟩ (.raw (.bool (b && z))) :=
  bD fun st' hag β a w hi => by
    have h1 := hi.raw (hag.ev (by simp [Op.operands]) hc)
    have h2 := hi.raw (hag.ev (by simp [Op.operands]) hx)
    have h3 := hi.evS ((hag.ops x (by simp [Op.operands])).trans hy)
    refine ⟨.bool (b && z), ?_, rfl⟩
    cases b with
    | false => simp [execOp, h1, h2, asBool]
    | true => have h3 := h3.1 (hG rfl); simp only [SV.holds] at h3; simp [execOp, h1, h3, asBool]
theorem w64 {n : Int} (h : -9223372036854775808 ≤ n ∧ n ≤ 9223372036854775807) : IntKind.i64.wrap n = n := by
  simp [IntKind.wrap, IntKind.signed, IntKind.bits]; omega
theorem op_add {x y : Operand} {t yt : TypeId} {k : IntKind} {p q r : Int} (hx : Ev st x (.raw (.int k p))) (hy : Ev st y (.raw (.int k q))) (hr : k.wrap (p + q) = r) :
    Adr P cx st ⟨dst, .binOp .add t x y yt, ty, pos, aft, gd⟩ (.raw (.int k r)) :=
  bD fun st' hag β a w hi => ⟨.int k r, by
    have h1 := hi.raw (hag.ev (by simp [Op.operands]) hx)
    have h2 := hi.raw (hag.ev (by simp [Op.operands]) hy)
    simp [execOp, h1, h2, eqGuard_at_int, binOp_add, binOp_sub, binOp_mul, Op.intArith, hr], rfl⟩
theorem da {x y : Operand} {t yt : TypeId} {k : IntKind} {p q r : Int} (hx : Ev st x (.raw (.int k p))) (hy : Ev st y (.raw (.int k q))) (hr : k.wrap (p - q) = r) :
    Adr P cx st ⟨dst, .binOp .sub t x y yt, ty, pos, aft, gd⟩ (.raw (.int k r)) :=
  bD fun st' hag β a w hi => ⟨.int k r, by
    have h1 := hi.raw (hag.ev (by simp [Op.operands]) hx)
    have h2 := hi.raw (hag.ev (by simp [Op.operands]) hy)
    simp [execOp, h1, h2, eqGuard_at_int, binOp_add, binOp_sub, binOp_mul, Op.intArith, hr], rfl⟩
theorem uK {x y : Operand} {t yt : TypeId} {k : IntKind} {p q r : Int} (hx : Ev st x (.raw (.int k p))) (hy : Ev st y (.raw (.int k q))) (hr : k.wrap (p * q) = r) :
    Adr P cx st ⟨dst, .binOp .mul t x y yt, ty, pos, aft, gd⟩ (.raw (.int k r)) :=
  bD fun st' hag β a w hi => ⟨.int k r, by
    have h1 := hi.raw (hag.ev (by simp [Op.operands]) hx)
    have h2 := hi.raw (hag.ev (by simp [Op.operands]) hy)
    simp [execOp, h1, h2, eqGuard_at_int, binOp_add, binOp_sub, binOp_mul, Op.intArith, hr], rfl⟩
theorem rT {x y : Operand} {t yt : TypeId} {k : IntKind} {p q r : Int} (hx : Ev st x (.raw (.int k p))) (hy : Ev st y (.raw (.int k q))) (h0 : q ≠ 0) (hr : k.wrap (p.tdiv q) = r) :
    Adr P cx st ⟨dst, .binOp .quo t x y yt, ty, pos, aft, gd⟩ (.raw (.int k r)) :=
  bD fun st' hag β a w hi => ⟨.int k r, by
    have h1 := hi.raw (hag.ev (by simp [Op.operands]) hx)
    have h2 := hi.raw (hag.ev (by simp [Op.operands]) hy)
    simp [execOp, h1, h2, eqGuard_at_int, binOp_quo, binOp_rem, Op.intDiv, h0, hr], rfl⟩
theorem op_rem {x y : Operand} {t yt : TypeId} {k : IntKind} {p q : Int} (hx : Ev st x (.raw (.int k p))) (hy : Ev st y (.raw (.int k q))) (h0 : q ≠ 0) :
    Adr P cx st ⟨dst, .binOp .rem t x y yt, ty, pos, aft, gd⟩ (.raw (.int k (p.tmod q))) :=
  bD fun st' hag β a w hi => ⟨.int k (p.tmod q), by
    have h1 := hi.raw (hag.ev (by simp [Op.operands]) hx)
    have h2 := hi.raw (hag.ev (by simp [Op.operands]) hy)
    simp [execOp, h1, h2, eqGuard_at_int, binOp_rem, Op.intDiv, h0], rfl⟩
def cmpI : BinOp → Int → Int → Bool
  | .eql, p, q => p == q
  | .neq, p, q => p != q
  | .lss, p, q => decide (p < q)
  | .leq, p, q => decide (p ≤ q)
  | .gtr, p, q => decide (p > q)
  | _, p, q => decide (p ≥ q)
def dg : BinOp → Bool
  | .eql | .neq | .lss | .leq | .gtr | .geq => true
  | _ => false
theorem n9 {op : BinOp} {x y : Operand} {t yt : TypeId} {k : IntKind} {p q : Int} (hop : dg op = true) (hx : Ev st x (.raw (.int k p))) (hy : Ev st y (.raw (.int k q))) :
    Adr P cx st ⟨dst, .binOp op t x y yt, ty, pos, aft, gd⟩ (.raw (.bool (cmpI op p q))) :=
  bD fun st' hag β a w hi => ⟨_, by
    have h1 := hi.raw (hag.ev (by simp [Op.operands]) hx)
    have h2 := hi.raw (hag.ev (by simp [Op.operands]) hy)
    cases op <;> first | (simp [dg] at hop; done) | (simp [execOp, h1, h2, eqGuard_at_int, binOp_eql, binOp_neq, binOp_lss, binOp_leq, binOp_gtr, binOp_geq]; rfl), rfl⟩
theorem ca {x y : Operand} {t yt : TypeId} {k : IntKind} {p q : Int} (hx : Ev st x (.raw (.int k p))) (hy : Ev st y (.raw (.int k q))) :
    Adr P cx st ⟨dst, .binOp .eql t x y yt, ty, pos, aft, gd⟩ (.raw (.bool (p == q))) := n9 (op := .eql) rfl hx hy
theorem bQ {x y : Operand} {t yt : TypeId} {k : IntKind} {p q : Int} (hx : Ev st x (.raw (.int k p))) (hy : Ev st y (.raw (.int k q))) :
    Adr P cx st ⟨dst, .binOp .neq t x y yt, ty, pos, aft, gd⟩ (.raw (.bool (p != q))) := n9 (op := .neq) rfl hx hy
theorem dS {x y : Operand} {t yt : TypeId} {k : IntKind} {p q : Int} (hx : Ev st x (.raw (.int k p))) (hy : Ev st y (.raw (.int k q))) :
    Adr P cx st ⟨dst, .binOp .lss t x y yt, ty, pos, aft, gd⟩ (.raw (.bool (decide (p < q)))) := n9 (op := .lss) rfl hx hy
theorem ew {x y : Operand} {t yt : TypeId} {k : IntKind} {p q : Int} (hx : Ev st x (.raw (.int k p))) (hy : Ev st y (.raw (.int k q))) :
    Adr P cx st ⟨dst, .binOp .leq t x y yt, ty, pos, aft, gd⟩ (.raw (.bool (decide (p ≤ q)))) := n9 (op := .leq) rfl hx hy
theorem bY {x y : Operand} {t yt : TypeId} {k : IntKind} {p q : Int} (hx : Ev st x (.raw (.int k p))) (hy : Ev st y (.raw (.int k q))) :
    Adr P cx st ⟨dst, .binOp .gtr t x y yt, ty, pos, aft, gd⟩ (.raw (.bool (decide (p > q)))) := n9 (op := .gtr) rfl hx hy
theorem bW {x y : Operand} {t yt : TypeId} {k : IntKind} {p q : Int} (hx : Ev st x (.raw (.int k p))) (hy : Ev st y (.raw (.int k q))) :
    Adr P cx st ⟨dst, .binOp .geq t x y yt, ty, pos, aft, gd⟩ (.raw (.bool (decide (p ≥ q)))) := n9 (op := .geq) rfl hx hy
theorem b6 {x : Operand} {t : TypeId} {b : Bool} (hx : Ev st x (.raw (.bool b))) : Adr P cx st ⟨dst, .unOp .not t x, ty, pos, aft, gd⟩ (.raw (.bool (!b))) :=
  bD fun st' hag β a w hi => ⟨_, by
    have h1 := hi.raw (hag.ev (by simp [Op.operands]) hx)
    simp [execOp, h1, Op.unary], rfl⟩
theorem la {α : Type} {rt : RT α} {ok : Ok} {xs : List α} {v : Value} (h : (SV.tv (ab rt) xs).holds β w ok v) : ∃ A cap, v = .slice A xs.length cap ∧ xs.length ≤ cap ∧ cap ≤ maxLen ∧ SliceRep rt w ok A xs := by
  obtain ⟨cs, ⟨A, cap, rfl, h1, h2, h3⟩, rfl⟩ := h
  exact ⟨A, cap, by simp [ab], h1, h2, h3⟩
theorem cJ {α : Type} {rt : RT α} {x : Operand} {t e : TypeId} {xs : List α} (ht : P.underlying t = some (.slice e)) (hx : Ev st x (.tv (ab rt) xs)) :
    Adr P cx st ⟨dst, .call { callee := .builtin .len, args := #[x], argTypes := #[t] }, ty, pos, aft, gd⟩ (.raw (.int .i64 (xs.length : Int))) :=
  bD fun st' hag β a w hi => by
    obtain ⟨A, cap, h1, _⟩ := la (hi.ev (hag.ev (by simp [Op.operands, Call.operands]) hx))
    exact ⟨.int .i64 _, by simp [execOp, resolve, invoke, builtin, h1, Builtin.len_, run_underlying ht, goInt], rfl⟩
theorem j6 {nm sz off n : Nat} {v : Value} (h : hdr β w nm sz off n v) : ∃ A cap, v = .slice A n cap := by
  unfold hdr at h
  split at h
  · exact ⟨none, 0, by rw [h.1, h.2]⟩
  obtain ⟨A, cap, h1, _⟩ := h; exact ⟨A, cap, h1⟩
theorem ci {nm sz off n : Nat} {x : Operand} {t e : TypeId} (ht : P.underlying t = some (.slice e)) (hx : Ev st x (.own nm sz off n)) :
    Adr P cx st ⟨dst, .call { callee := .builtin .len, args := #[x], argTypes := #[t] }, ty, pos, aft, gd⟩ (.raw (.int .i64 (n : Int))) :=
  bD fun st' hag β a w hi => by
    obtain ⟨A, cap, h1⟩ := j6 (hi.ev (hag.ev (by simp [Op.operands, Call.operands]) hx))
    exact ⟨.int .i64 _, by simp [execOp, resolve, invoke, builtin, h1, Builtin.len_, run_underlying ht, goInt], rfl⟩
theorem al {α : Type} {rt : RT α} {x ix : Operand} {t e : TypeId} {k : IntKind} {i : Int} {j : Nat} {xs : List α} {d : α} (ht : P.underlying t = some (.slice e)) (he : Ty P e rt)
    (hx : Ev st x (.tv (ab rt) xs)) (hi' : Ev st ix (.raw (.int k i))) (hij : i = (j : Int)) (hd : xs[j]? = some d) : Adr P cx st ⟨dst, .indexAddr t x ix, ty, pos, aft, gd⟩ (.eptr rt d) :=
  bD fun st' hag β a w hi => by
    obtain ⟨A, cap, h1, h2, h3, h4⟩ := la (hi.ev (hag.ev (by simp [Op.operands]) hx))
    have h5 := hi.raw (hag.ev (by simp [Op.operands]) hi')
    have hlt : j < xs.length := (List.getElem?_eq_some_iff.1 hd).1
    obtain ⟨b, o, rfl, hb, hc⟩ := h4 (by intro h; simp [h] at hlt)
    obtain ⟨cs, h6, h7⟩ := hc j d hd
    obtain ⟨_, i0, hi0, hs⟩ := he
    have hb2 : (0 : Int) ≤ i ∧ i < (xs.length : Int) := by omega
    have hj : i.toNat = j := by omega
    exact ⟨_, by simp [execOp, h1, h5, Instr.indexAt, asIntOf, run_underlying ht, hb2, dM hi0, hs, hj, Addr.add_lit], b, _, cs, rfl, hb, h6, h7⟩
theorem aA {α : Type} {rt : RT α} {x : Operand} {t : TypeId} {d : α} (ht : Ty P t rt) (hx : Ev st x (.eptr rt d)) : Adr P cx st ⟨dst, .load t x, ty, pos, aft, gd⟩ (SV.of rt d) :=
  bD fun st' hag β a w hi => by
    obtain ⟨b, o, cs, h1, h2, h3, h4⟩ := hi.ev (hag.ev (by simp [Op.operands]) hx)
    obtain ⟨v, h5, h6⟩ := jq (P := P) ht h3 h4
    exact ⟨v, by simp [execOp, Instr.loadAt, h1, Instr.sureAddr, h5], lm h6⟩
theorem lg {t : TypeId} {k off : Nat} (hf : fld P t k = some off) (b o : Nat) (w : World) : (Instr.fieldAt t (.pointer (some ⟨b, o, none⟩)) k).run P w = .ok (.pointer (some ⟨b, o + off, none⟩)) w := by
  unfold fld at hf
  split at hf
  · rename_i fs hu
    split at hf
    · rename_i f hk
      split at hf
      · cases hf
      rename_i hne
      injection hf with hf
      subst hf
      cases hi : P.info? f.type with
      | none => simp [hi] at hne
      | some i =>
        simp only [hi, Option.map_some, Option.getD_some] at hne
        simp [Instr.fieldAt, run_underlying hu, hk, Instr.sureAddr, fieldPlace, dM hi, hne, Addr.add_lit]
    cases hf
  cases hf
theorem CellsAt.part {w : World} {b o : Nat} {cs : List Value} (h : CellsAt w b o cs) (off n : Nat) : CellsAt w b (o + off) ((cs.drop off).take n) := fun j v hj => by
  rw [Nat.add_assoc]
  refine h (off + j) v ?_
  rw [List.getElem?_take] at hj
  split at hj
  · simpa using hj
  cases hj
theorem aO {α γ : Type} {rt : RT α} {rt' : RT γ} {get : α → γ} {set : α → γ → α} {x : Operand} {t : TypeId} {k off : Nat} {d : α} (hf : fld P t k = some off) (hl : Lens rt off rt' get set) (hx : Ev st x (.eptr rt d)) :
    Adr P cx st ⟨dst, .fieldAddr t x k, ty, pos, aft, gd⟩ (.eptr rt' (get d)) :=
  bD fun st' hag β a w hi => by
    obtain ⟨b, o, cs, h1, h2, h3, h4⟩ := hi.ev (hag.ev (by simp [Op.operands]) hx)
    exact ⟨_, by simp [execOp, h1, lg hf], b, _, _, rfl, h2, hl.get_ h3, h4.part off rt'.n⟩
theorem bj {x : Operand} {s0 s1 : SV} (hx : Ev st x (.tup2 s0 s1)) : Adr P cx st ⟨dst, .extract x 0, ty, pos, aft, gd⟩ s0 :=
  bD fun st' hag β a w hi => by
    obtain ⟨u0, u1, h1, h2, h3⟩ := hi.ev (hag.ev (by simp [Op.operands]) hx)
    exact ⟨u0, by simp [execOp, h1, Instr.extract], h2⟩
theorem bi {x : Operand} {s0 s1 : SV} (hx : Ev st x (.tup2 s0 s1)) : Adr P cx st ⟨dst, .extract x 1, ty, pos, aft, gd⟩ s1 :=
  bD fun st' hag β a w hi => by
    obtain ⟨u0, u1, h1, h2, h3⟩ := hi.ev (hag.ev (by simp [Op.operands]) hx)
    exact ⟨u1, by simp [execOp, h1, Instr.extract], h3⟩
theorem d7 {x : Operand} {s0 s1 s2 : SV} (hx : Ev st x (.tup3 s0 s1 s2)) : Adr P cx st ⟨dst, .extract x 0, ty, pos, aft, gd⟩ s0 :=
  bD fun st' hag β a w hi => by
    obtain ⟨u0, u1, u2, h1, h2, h3, h4⟩ := hi.ev (hag.ev (by simp [Op.operands]) hx)
    exact ⟨u0, by simp [execOp, h1, Instr.extract], h2⟩
theorem d6 {x : Operand} {s0 s1 s2 : SV} (hx : Ev st x (.tup3 s0 s1 s2)) : Adr P cx st ⟨dst, .extract x 1, ty, pos, aft, gd⟩ s1 :=
  bD fun st' hag β a w hi => by
    obtain ⟨u0, u1, u2, h1, h2, h3, h4⟩ := hi.ev (hag.ev (by simp [Op.operands]) hx)
    exact ⟨u1, by simp [execOp, h1, Instr.extract], h3⟩
theorem d5 {x : Operand} {s0 s1 s2 : SV} (hx : Ev st x (.tup3 s0 s1 s2)) : Adr P cx st ⟨dst, .extract x 2, ty, pos, aft, gd⟩ s2 :=
  bD fun st' hag β a w hi => by
    obtain ⟨u0, u1, u2, h1, h2, h3, h4⟩ := hi.ev (hag.ev (by simp [Op.operands]) hx)
    exact ⟨u2, by simp [execOp, h1, Instr.extract], h4⟩
end
end Go.Eng
namespace Go.Eng
def i6 : Loc := fun _ => none
def okR (cx : Cx) (w' : World) : Ok := fun b => (cx.ok0 b ∨ cx.new b) ∧ b < w'.heap.size
def sS (cx : Cx) (r : SV) : Ending → World → Prop := fun e w' =>
  ∃ v, e = .returned v ∧ BelowX cx.ex cx.w0.heap.size cx.w0 w' ∧ r.holds i6 w' (okR cx w') v
def eg (w : World) (ok : Ok) : List SV → List Value → Prop
  | [], vs => vs = []
  | s :: r, vs => ∃ v vr, vs = v :: vr ∧ s.holds i6 w ok v ∧ eg w ok r vr
structure Ct (P : Program) (k : FuncId) (aS : List SV) (r : SV) : Prop where
  ent : ∀ w args, (callFunc k args).run P w = .ok (.enter k args) w
  calls : ∀ w ok0 vs, (∀ b, ok0 b → b < w.heap.size) → eg w ok0 aS vs → Calls P k vs.toArray w (sS (Cx.of w ok0 0) r)
section
variable {P : Program} {cx : Cx} {st st' : St} {β : Loc} {a : Act} {w w' : World}
theorem SV.plain_free : ∀ {s : SV}, s.plain = true → ∀ nm, s.free nm = true
  | .raw _, _, _ => rfl
  | .tv _ _, _, _ => rfl
  | .eptr _ _, _, _ => rfl
  | .gd _ s, h, nm => SV.plain_free (s := s) h nm
  | .both s _, h, nm => SV.plain_free (s := s) h nm
  | .lnk s _ t, h, nm => by simp only [SV.plain, Bool.and_eq_true] at h; simp [SV.free, SV.plain_free h.1 nm, SV.plain_free h.2 nm]
  | .tup2 a b, h, nm => by simp only [SV.plain, Bool.and_eq_true] at h; simp [SV.free, SV.plain_free h.1 nm, SV.plain_free h.2 nm]
  | .tup3 a b c, h, nm => by simp only [SV.plain, Bool.and_eq_true] at h; simp [SV.free, SV.plain_free h.1.1 nm, SV.plain_free h.1.2 nm, SV.plain_free h.2 nm]
  | .tup4 a b c d, h, nm => by simp only [SV.plain, Bool.and_eq_true] at h; simp [SV.free, SV.plain_free h.1.1.1 nm, SV.plain_free h.1.1.2 nm, SV.plain_free h.1.2 nm, SV.plain_free h.2 nm]
theorem SV.plain_keep {s : SV} (hp : s.plain = true) {β' : Loc} {ok ok' : Ok} (h : ∀ b, ok b → ok' b ∧ w'.heap[b]? = w.heap[b]?) {v : Value} (hv : s.holds β w ok v) : s.holds β' w' ok' v :=
  SV.keep h (fun nm hn => by rw [SV.plain_free hp nm] at hn; cases hn) hv
def jK : Nat → List SV → List (Nat × SV)
  | _, [] => []
  | i, s :: r => (i, s) :: jK (i + 1) r
theorem fa : ∀ {aS : List SV} {i n : Nat} {s : SV}, a8 (jK i aS) n = some s → ∃ j, n = i + j ∧ aS[j]? = some s
  | [], _, _, _, h => by simp [jK, a8] at h
  | s0 :: r, i, n, s, h => by
    simp only [jK, aT] at h
    split at h
    · rename_i e; exact ⟨0, by omega, by simpa using h⟩
    obtain ⟨j, h1, h2⟩ := fa h
    exact ⟨j + 1, by omega, by simpa using h2⟩
theorem eG : ∀ {ok : Ok} {aS : List SV} {vs : List Value}, eg w ok aS vs → ∀ {j : Nat} {s : SV}, aS[j]? = some s → ∃ v, vs[j]? = some v ∧ s.holds i6 w ok v
  | _, [], _, _, j, s, h => by simp at h
  | _, s0 :: r, vs, ⟨v, vr, h1, h2, h3⟩, 0, s, h => by
    simp at h; subst h; subst h1; exact ⟨v, rfl, h2⟩
  | _, s0 :: r, vs, ⟨v, vr, h1, h2, h3⟩, j + 1, s, h => by
    subst h1
    obtain ⟨u, h4, h5⟩ := eG h3 (by simpa using h)
    exact ⟨u, by simpa using h4, h5⟩
theorem eL : ∀ {ok : Ok} {aS : List SV} {vs : List Value}, eg w ok aS vs → vs.length = aS.length
  | _, [], vs, h => by have h : vs = [] := h; simp [h]
  | _, _ :: r, _, ⟨v, vr, h1, _, h3⟩ => by subst h1; simp [eL h3]
theorem bJ {k : FuncId} {fn : Func} {c : Code} (hf : P.funcs[k]? = some fn) (hb : fn.body = some c) (hn : (fn.name == "runtime.NumGoroutine") = false) (w : World) (args : Array Value) :
    (callFunc k args).run P w = .ok (.enter k args) w := by
  simp only [callFunc, Sem.run_bind, run_program, Result.andThen_ok, hf, hn, hb, Bool.false_eq_true, if_false, Option.isNone_some]
  rfl
theorem ay {k : FuncId} {fn : Func} {c : Code} {aS : List SV} {r : SV} (hf : P.funcs[k]? = some fn) (hb : fn.body = some c) (hn : (fn.name == "runtime.NumGoroutine") = false) {m : Nat} (hm : fn.ntmps = m) (hlen : Nat.ble aS.length m = true)
    (hp : (aS.all SV.plain) = true) (h : ∀ (w0 : World) (ok0 : Ok), J P (Cx.of w0 ok0 m) ⟨jK 0 aS, []⟩ c (.fin fn (sS (Cx.of w0 ok0 m) r))) : Ct P k aS r := by
  refine ⟨bJ hf hb hn, fun w ok0 vs hok hh => ?_⟩
  have hl := eL hh
  have hlen' : aS.length ≤ m := by simpa using hlen
  refine calls_of_wp hf hb ?_
  have := h w ok0 { tmps := vs.toArray ++ Array.replicate (fn.ntmps - vs.toArray.size) undef, defers := [] } w ⟨i6, ?_⟩
  · exact wp_mono this fun e a w hq => hq
  refine ⟨(Below.refl _ _).toX, hok, rfl, by simp [hm, hl]; omega, fun nm hb hh => by simp [az] at hh, fun nm nm' hb hb' hh => by simp [az] at hh, fun nm hb hh => by simp [az] at hh, fun i s hs => ?_⟩
  obtain ⟨j, rfl, hj⟩ := fa hs
  obtain ⟨v, h1, h2⟩ := eG hh hj
  have hjl : j < vs.length := (List.getElem?_eq_some_iff.1 h1).1
  refine ⟨v, by simp only [Nat.zero_add]; rw [Array.getElem?_append_left (by simpa using hjl)]; simpa using h1, ?_⟩
  have hps : s.plain = true := List.all_eq_true.1 hp s (List.mem_of_getElem? hj)
  exact SV.plain_keep hps (fun b hb => ⟨⟨.inl hb, hok b hb, fun nm x hx => by simp [az] at hx⟩, rfl⟩) h2
def mn (a : Act) : ResultVar → Sem Value
  | .tmp t => pure (a.tmps.getD t undef)
  | .cell ad t => do loadVar t (← asAddr (a.tmps.getD ad undef))
def Res (P : Program) (cx : Cx) (st : St) (rv : ResultVar) (s : SV) : Prop :=
  ∀ β a w, InvB cx st β a w → ∃ v, (mn a rv).run P w = .ok v w ∧ s.holds β w (bM cx st.heap β w) v
theorem eI (fn : Func) (a : Act) : results fn a.tmps = (do let vs ← fn.results.mapM (mn a); pure (if h : vs.size = 1 then vs[0] else .tuple vs)) := by
  unfold results
  congr 1
theorem aw {t : Nat} {s : SV} (h : a8 st.slots t = some s) : Res P cx st (.tmp t) s := fun β a w hi => by
  obtain ⟨v, h1, h2⟩ := hi.slots t s h
  exact ⟨v, by simp [mn, h1], h2⟩
theorem mP {b : Nat} (h : bM cx st.heap β w b) : okR cx w b := ⟨h.1, h.2.1⟩
theorem iR {s : SV} (hp : s.plain = true) {v : Value} (hv : s.holds β w (bM cx st.heap β w) v) : s.holds i6 w (okR cx w) v :=
  SV.plain_keep hp (fun _ hb => ⟨mP hb, rfl⟩) hv
theorem cv {fn : Func} {v0 : ResultVar} {s r : SV} (hr : fn.results = #[v0]) (h0 : Res P cx st v0 s) (hp : s.plain = true) (e : s = r) : JR P cx st (.fin fn (sS cx r)) := by
  rintro a w ⟨β, hi⟩
  subst e
  obtain ⟨v, h1, h2⟩ := h0 β a w hi
  refine ⟨hi.defers, v, ?_, v, rfl, hi.below, iR hp h2⟩
  simp [eI, hr, h1]
theorem aK {fn : Func} {v0 v1 : ResultVar} {s0 s1 r : SV} (hr : fn.results = #[v0, v1]) (h0 : Res P cx st v0 s0) (h1 : Res P cx st v1 s1) (hp : s0.plain = true ∧ s1.plain = true) (e : SV.tup2 s0 s1 = r) : JR P cx st (.fin fn (sS cx r)) := by
  rintro a w ⟨β, hi⟩
  subst e
  obtain ⟨u0, g0, k0⟩ := h0 β a w hi
  obtain ⟨u1, g1, k1⟩ := h1 β a w hi
  refine ⟨hi.defers, .tuple #[u0, u1], ?_, _, rfl, hi.below, u0, u1, rfl, iR hp.1 k0, iR hp.2 k1⟩
  simp [eI, hr, g0, g1]
theorem cS {fn : Func} {v0 v1 v2 : ResultVar} {s0 s1 s2 r : SV} (hr : fn.results = #[v0, v1, v2]) (h0 : Res P cx st v0 s0) (h1 : Res P cx st v1 s1) (h2 : Res P cx st v2 s2) (hp : s0.plain = true ∧ s1.plain = true ∧ s2.plain = true) (e : SV.tup3 s0 s1 s2 = r) : JR P cx st (.fin fn (sS cx r)) := by
  rintro a w ⟨β, hi⟩
  subst e
  obtain ⟨u0, g0, k0⟩ := h0 β a w hi
  obtain ⟨u1, g1, k1⟩ := h1 β a w hi
  obtain ⟨u2, g2, k2⟩ := h2 β a w hi
  refine ⟨hi.defers, .tuple #[u0, u1, u2], ?_, _, rfl, hi.below, u0, u1, u2, rfl, iR hp.1 k0, iR hp.2.1 k1, iR hp.2.2 k2⟩
  simp [eI, hr, g0, g1, g2]
variable {dst : Option Tmp} {ty : TypeId} {pos : String} {aft : Array Edge} {gd : Option (Nat × Bool)}
inductive Args (st : St) : List Operand → List SV → Prop
  | nil : Args st [] []
  | cons {x : Operand} {s : SV} {xs : List Operand} {ss : List SV} (h : Ev st x s) (hr : Args st xs ss) : Args st (x :: xs) (s :: ss)
  | nilS {α : Type} {rt : RT α} {x : Operand} {xs : List Operand} {ss : List SV} (h : Ev st x (.raw (.slice none 0 0))) (hr : Args st xs ss) : Args st (x :: xs) (.tv (ab rt) [] :: ss)
  | lit {α : Type} {rt : RT α} {d : α} {v : Value} {x : Operand} {xs : List Operand} {ss : List SV} (h : Ev st x (.raw v)) (hv : ∀ w ok, rt.val w ok v d) (hr : Args st xs ss) : Args st (x :: xs) (.tv rt d :: ss)
theorem Ev.tr {x : Operand} {s : SV} {st' : St} (h : Ev st x s) (e : evS st' x = evS st x) : Ev st' x s := by
  cases h with
  | base h => exact .base (e.trans h)
  | gd h hc => exact .gd (e.trans h) hc
  | b1 h => exact .b1 (e.trans h)
  | b2 h hs => exact .b2 (e.trans h) hs
  | l1 h => exact .l1 (e.trans h)
  | f1 h => exact .f1 (e.trans h)
theorem kz {α : Type} {rt : RT α} {ok : Ok} : (ab rt).val w ok (.slice none 0 0) [] :=
  ⟨[.slice none 0 0], ⟨none, 0, rfl, by simp, by simp [maxLen], fun h => absurd rfl h⟩, rfl⟩
theorem Args.holds : ∀ {xs : List Operand} {aS : List SV}, Args st xs aS → ∀ {st' : St}, (∀ x ∈ xs, evS st' x = evS st x) → InvB cx st' β a w → (aS.all SV.plain) = true → eg w (bM cx st'.heap β w) aS (xs.map a.eval)
  | _, _, .nil, _, _, _, _ => rfl
  | _, _, .cons (x := x) h hr, st', hx, hi, hp => by
    simp only [List.all_cons, Bool.and_eq_true] at hp
    have h' := h.tr (hx x (by simp))
    exact ⟨_, _, rfl, SV.plain_keep hp.1 (fun b hb => ⟨hb, rfl⟩) (hi.ev h'), hr.holds (fun y hy => hx y (by simp [hy])) hi hp.2⟩
  | _, _, .nilS (x := x) h hr, st', hx, hi, hp => by
    simp only [List.all_cons, Bool.and_eq_true] at hp
    have h' := h.tr (hx x (by simp))
    exact ⟨_, _, rfl, by rw [hi.raw h']; exact kz, hr.holds (fun y hy => hx y (by simp [hy])) hi hp.2⟩
  | _, _, .lit (x := x) h hv hr, st', hx, hi, hp => by
    simp only [List.all_cons, Bool.and_eq_true] at hp
    have h' := h.tr (hx x (by simp))
    exact ⟨_, _, rfl, by rw [hi.raw h']; exact hv _ _, hr.holds (fun y hy => hx y (by simp [hy])) hi hp.2⟩
theorem an {k : FuncId} {aS : List SV} {r : SV} {xs : List Operand} {ts : Array TypeId} (h : Ct P k aS r) (ha : Args st xs aS) (hp : (aS.all SV.plain) = true) (hr : r.plain = true) :
    Adr P cx st ⟨dst, .call { callee := .value (.func k), args := xs.toArray, argTypes := ts }, ty, pos, aft, gd⟩ r := by
  intro st' hag d hd hdn a w ⟨β, hi⟩ Q
  have hargs := ha.holds (cx := cx) (β := β) (a := a) (w := w) (st' := st') (fun x hx => hag.ops x (by simp [Op.operands, Call.operands, hx])) hi hp
  have hrun : (execOp a.eval ⟨dst, .call { callee := .value (.func k), args := xs.toArray, argTypes := ts }, ty, pos, aft, gd⟩).run P w = .ok (.enter k (xs.map a.eval).toArray) w := by
    simp [execOp, resolve, Act.eval, Deferred.ofValue, invoke, h.ent]
  unfold Oper.wp
  rw [hrun, Oper.upon_enter]
  refine (h.calls w (bM cx st'.heap β w) _ (fun b hb => hb.2.1) hargs).mono ?_
  rintro e w' ⟨v, rfl, hb, hv⟩
  have hb := hb.plain (fun _ h => h)
  subst hd
  have hl := hi.later hb
  refine ⟨β, hl.put hdn (SV.plain_keep hr (fun b hb' => ⟨⟨?_, hb'.2, ?_⟩, rfl⟩) hv)⟩
  · rcases hb'.1 with h1 | h1
    · exact h1.1
    exact .inr (.inl (Nat.le_trans hi.below.size (Cx.new_of h1)))
  rcases hb'.1 with h1 | h1
  · exact h1.2.2
  intro nm x hx y hy e
  have := (hi.own nm x hx y hy).2
  have h1 : w.heap.size ≤ b := Cx.new_of h1
  omega
end
end Go.Eng
