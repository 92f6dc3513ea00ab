import Derived.Below
import Derived.Tactics
import Derived.Laws.Entries
import Derived.Laws.AppendOwn
namespace Go.Eng
/-- below block B all is as it was; the streams too; nothing that was drawn is taken back -/
structure Below (B : Nat) (w w' : World) : Prop where
  os : w'.os = w.os
  tape : w'.tape = w.tape
  output : w'.output = w.output
  size : w.heap.size ≤ w'.heap.size
  block : ∀ k, k < B → w'.heap[k]? = w.heap[k]?
  drawn : w.drawn ≤ w'.drawn
/-- the same, but for the blocks of ex -/
structure BelowX (ex : Nat → Prop) (B : Nat) (w w' : World) : Prop where
  os : w'.os = w.os
  tape : w'.tape = w.tape
  output : w'.output = w.output
  size : w.heap.size ≤ w'.heap.size
  blockX : ∀ k, k < B → ¬ ex k → w'.heap[k]? = w.heap[k]?
  drawn : w.drawn ≤ w'.drawn
theorem BelowX.plain {ex : Nat → Prop} {B : Nat} {w w' : World} (h : BelowX ex B w w') (hx : ∀ k, ¬ ex k) : Below B w w' := ⟨h.os, h.tape, h.output, h.size, fun k hk => h.blockX k hk (hx k), h.drawn⟩
theorem Below.toX {ex : Nat → Prop} {B : Nat} {w w' : World} (h : Below B w w') : BelowX ex B w w' := ⟨h.os, h.tape, h.output, h.size, fun k hk _ => h.block k hk, h.drawn⟩
theorem BelowX.trans {ex : Nat → Prop} {B : Nat} {a b c : World} (h : BelowX ex B a b) (k : Below B b c) : BelowX ex B a c :=
  ⟨k.os.trans h.os, k.tape.trans h.tape, k.output.trans h.output, Nat.le_trans h.size k.size, fun i hi hx => (k.block i hi).trans (h.blockX i hi hx), Nat.le_trans h.drawn k.drawn⟩
theorem Below.kit {B : Nat} {w w' : World} (h : Below B w w') : Go.RowKit.Below B w w' := ⟨h.os, h.tape, h.output, h.size, h.block⟩
theorem Below.refl (B : Nat) (w : World) : Below B w w := ⟨rfl, rfl, rfl, Nat.le_refl _, fun _ _ => rfl, Nat.le_refl _⟩
theorem Below.trans {B : Nat} {a b c : World} (h : Below B a b) (k : Below B b c) : Below B a c :=
  ⟨k.os.trans h.os, k.tape.trans h.tape, k.output.trans h.output, Nat.le_trans h.size k.size, fun i hi => (k.block i hi).trans (h.block i hi), Nat.le_trans h.drawn k.drawn⟩
theorem Below.mono {B B' : Nat} {w w' : World} (h : Below B w w') (hB : B' ≤ B) : Below B' w w' := ⟨h.os, h.tape, h.output, h.size, fun k hk => h.block k (Nat.lt_of_lt_of_le hk hB), h.drawn⟩
theorem Below.drew {B : Nat} {a w : World} (h : Below B a w) : Below B a w.drew := ⟨h.os, h.tape, h.output, h.size, h.block, Nat.le_succ_of_le h.drawn⟩
theorem Below.alloc {B : Nat} {a w : World} (h : Below B a w) (hB : B ≤ w.heap.size) (o : Obj) : Below B a (w.alloc o) :=
  h.trans ⟨rfl, rfl, rfl, by simp, fun k hk => Go.RowKit.Below.heap_alloc _ _ _ (by omega), Nat.le_refl _⟩
/-- the blocks that a reading may lead to -/
abbrev Ok := Nat → Prop

/-- HOW DATA OF A LEAN TYPE LIE IN MEMORY: so many cells; 'agg': a struct or an array (its value is '.agg'); 'raw': the exact value, where there is just one. -/
structure RT (α : Type) where
  n : Nat
  agg : Bool
  raw : α → Option Value
  rep : World → Ok → List Value → α → Prop
  len : ∀ {w ok cs d}, rep w ok cs d → cs.length = n
  one : ∀ {w ok cs d}, rep w ok cs d → ∀ v ∈ cs, v.oneCell' = true
  keep : ∀ {w w' : World} {ok ok' : Ok} {cs d}, (∀ b, ok b → ok' b ∧ w'.heap[b]? = w.heap[b]?) → rep w ok cs d → rep w' ok' cs d
  scal : agg = false → n = 1
  exact_ : ∀ {w ok cs d v}, raw d = some v → rep w ok cs d → cs = [v] ∧ agg = false
  exact' : ∀ {w ok d v}, raw d = some v → rep w ok [v] d
  mp : Bool := false
  mrep : Obj → α → Prop := fun _ _ => False

/-- no map: the datum lies in cells -/
class NM {α : Type} (rt : RT α) : Prop where
  no : rt.mp = false

section
variable {α β : Type}

def RT.val (rt : RT α) (w : World) (ok : Ok) (v : Value) (d : α) : Prop :=
  ∃ cs, rt.rep w ok cs d ∧ v = (if rt.agg then .agg cs.toArray else cs.getD 0 undef)

def CellsAt (w : World) (b o : Nat) (cs : List Value) : Prop := ∀ j v, cs[j]? = some v → w.cell? ⟨b, o + j, none⟩ = some v

theorem cell_congr {w w' : World} {b : Nat} (h : w'.heap[b]? = w.heap[b]?) (o : Nat) : w'.cell? ⟨b, o, none⟩ = w.cell? ⟨b, o, none⟩ :=
  World.cell?_of_block (w := w) (a := ⟨b, o, none⟩) h

theorem CellsAt.keep {w w' : World} {b o : Nat} {cs : List Value} (h : w'.heap[b]? = w.heap[b]?) (hc : CellsAt w b o cs) : CellsAt w' b o cs :=
  fun j v hj => (cell_congr h _).trans (hc j v hj)

theorem RT.val_keep (rt : RT α) {w w' : World} {ok ok' : Ok} {v : Value} {d : α} (h : ∀ b, ok b → ok' b ∧ w'.heap[b]? = w.heap[b]?) (hv : rt.val w ok v d) : rt.val w' ok' v d :=
  let ⟨cs, h1, h2⟩ := hv; ⟨cs, rt.keep h h1, h2⟩

theorem RT.val_cells (rt : RT α) {w : World} {ok : Ok} {v : Value} {d : α} (hv : rt.val w ok v d) : rt.rep w ok v.cells.toList d := by
  obtain ⟨cs, h1, rfl⟩ := hv
  cases ha : rt.agg with
  | true => simpa [Value.cells] using h1
  | false =>
    have hl := rt.len h1
    rw [rt.scal ha] at hl
    match cs, hl with
    | [c], _ =>
      have ho := rt.one h1 c (by simp)
      have : (c.cells).toList = [c] := by cases c <;> first | rfl | simp [Value.oneCell'] at ho
      simpa [this] using h1

theorem RT.val_raw (rt : RT α) {w : World} {ok : Ok} {v u : Value} {d : α} (hu : rt.raw d = some u) (hv : rt.val w ok v d) : v = u := by
  obtain ⟨cs, h1, rfl⟩ := hv
  obtain ⟨rfl, ha⟩ := rt.exact_ hu h1
  simp [ha]

/-! ### the readings -/
def rInt (k : IntKind) : RT Int where
  n := 1
  agg := false
  raw d := some (.int k d)
  rep _ _ cs d := cs = [.int k d]
  len h := by simp [h]
  one h := by simp [h, Value.oneCell']
  keep _ h := h
  scal _ := rfl
  exact_ h1 h2 := by simp at h1; simp [h2, h1]
  exact' h := by simp at h; simp [h]

def rBool : RT Bool where
  n := 1
  agg := false
  raw d := some (.bool d)
  rep _ _ cs d := cs = [.bool d]
  len h := by simp [h]
  one h := by simp [h, Value.oneCell']
  keep _ h := h
  scal _ := rfl
  exact_ h1 h2 := by simp at h1; simp [h2, h1]
  exact' h := by simp at h; simp [h]

def strV (l : List UInt8) : Value := .string ⟨l.toArray⟩

def rStr : RT (List UInt8) where
  n := 1
  agg := false
  raw d := some (strV d)
  rep _ _ cs d := cs = [strV d]
  len h := by simp [h]
  one h := by simp [h, Value.oneCell', strV]
  keep _ h := h
  scal _ := rfl
  exact_ h1 h2 := by simp at h1; simp [h2, h1]
  exact' h := by simp at h; simp [h]

/-- a struct whose first field is a, the others b -/
def rPair (a : RT α) (b : RT β) : RT (α × β) where
  n := a.n + b.n
  agg := true
  raw _ := none
  rep w ok cs d := ∃ c1 c2, cs = c1 ++ c2 ∧ a.rep w ok c1 d.1 ∧ b.rep w ok c2 d.2
  len := by rintro w ok cs d ⟨c1, c2, rfl, h1, h2⟩; simp [a.len h1, b.len h2]
  one := by
    rintro w ok cs d ⟨c1, c2, rfl, h1, h2⟩ v hv
    rcases List.mem_append.1 hv with h | h
    · exact a.one h1 v h
    · exact b.one h2 v h
  keep := by rintro w w' ok ok' cs d h ⟨c1, c2, rfl, h1, h2⟩; exact ⟨c1, c2, rfl, a.keep h h1, b.keep h h2⟩
  scal h := by simp at h
  exact_ h := by simp at h
  exact' h := by simp at h

/-- a struct of one field -/
def rOne (a : RT α) : RT α where
  n := a.n
  agg := true
  raw _ := none
  rep := a.rep
  len := a.len
  one := a.one
  keep := a.keep
  scal h := by simp at h
  exact_ h := by simp at h
  exact' h := by simp at h

/-- what a slice's header leads to -/
def SliceRep (e : RT α) (w : World) (ok : Ok) (A : Option Addr) (xs : List α) : Prop :=
  xs ≠ [] → ∃ b o, A = some ⟨b, o, none⟩ ∧ ok b ∧ ∀ i x, xs[i]? = some x → ∃ cs, e.rep w ok cs x ∧ CellsAt w b (o + i * e.n) cs

theorem SliceRep.keep {e : RT α} {w w' : World} {ok ok' : Ok} {A : Option Addr} {xs : List α} (h : ∀ b, ok b → ok' b ∧ w'.heap[b]? = w.heap[b]?) (hs : SliceRep e w ok A xs) : SliceRep e w' ok' A xs := fun hne =>
  let ⟨b, o, hA, hb, hc⟩ := hs hne
  ⟨b, o, hA, (h b hb).1, fun i x hi => let ⟨cs, h1, h2⟩ := hc i x hi; ⟨cs, e.keep h h1, h2.keep (h b hb).2⟩⟩

def rSlice (e : RT α) : RT (List α) where
  n := 1
  agg := false
  raw _ := none
  rep w ok cs xs := ∃ A cap, cs = [.slice A xs.length cap] ∧ xs.length ≤ cap ∧ cap ≤ maxLen ∧ SliceRep e w ok A xs
  len := by rintro w ok cs d ⟨A, cap, rfl, _⟩; rfl
  one := by rintro w ok cs d ⟨A, cap, rfl, _⟩ v hv; simp at hv; simp [hv, Value.oneCell']
  keep := by rintro w w' ok ok' cs d h ⟨A, cap, rfl, h1, h2, h3⟩; exact ⟨A, cap, rfl, h1, h2, h3.keep h⟩
  scal _ := rfl
  exact_ h := by simp at h
  exact' h := by simp at h

instance {k : IntKind} : NM (rInt k) := ⟨rfl⟩
instance : NM rBool := ⟨rfl⟩
instance : NM rStr := ⟨rfl⟩
instance {a : RT α} {b : RT β} : NM (rPair a b) := ⟨rfl⟩
instance {a : RT α} : NM (rOne a) := ⟨rfl⟩
instance {a : RT α} : NM (rSlice a) := ⟨rfl⟩

/-! ### fields: where a part lies, what it is, what becomes of the whole when it is replaced -/
structure Lens {α γ : Type} (rt : RT α) (off : Nat) (rt' : RT γ) (get : α → γ) (set : α → γ → α) : Prop where
  fits : off + rt'.n ≤ rt.n
  get_ : ∀ {w ok cs d}, rt.rep w ok cs d → rt'.rep w ok ((cs.drop off).take rt'.n) (get d)
  set_ : ∀ {w ok cs d cs' d'}, rt.rep w ok cs d → rt'.rep w ok cs' d' → rt.rep w ok (cs.take off ++ cs' ++ cs.drop (off + rt'.n)) (set d d')

theorem Lens.id (rt : RT α) : Lens rt 0 rt (fun d => d) (fun _ d => d) where
  fits := by simp
  get_ h := by have := rt.len h; simpa [List.take_of_length_le (Nat.le_of_eq this)] using h
  set_ h h' := by have := rt.len h; simpa [List.drop_of_length_le (Nat.le_of_eq this)] using h'

theorem Lens.one {γ : Type} {a : RT α} {off : Nat} {c : RT γ} {get : α → γ} {set : α → γ → α} (l : Lens a off c get set) : Lens (rOne a) off c get set where
  fits := l.fits
  get_ h := l.get_ (rt := a) h
  set_ h h' := l.set_ (rt := a) h h'

theorem Lens.fst {γ : Type} {a : RT α} {b : RT β} {off : Nat} {c : RT γ} {get : α → γ} {set : α → γ → α} (l : Lens a off c get set) :
    Lens (rPair a b) off c (fun d => get d.1) (fun d x => (set d.1 x, d.2)) where
  fits := by have := l.fits; simp only [rPair]; omega
  get_ := by
    rintro w ok cs d ⟨c1, c2, rfl, h1, h2⟩
    have hl := a.len h1
    have hf := l.fits
    have := l.get_ h1
    rw [List.drop_append_of_le_length (by omega), List.take_append_of_le_length (by simp; omega)]
    exact this
  set_ := by
    rintro w ok cs d cs' d' ⟨c1, c2, rfl, h1, h2⟩ h'
    have hl := a.len h1
    have hf := l.fits
    refine ⟨c1.take off ++ cs' ++ c1.drop (off + c.n), c2, ?_, l.set_ h1 h', h2⟩
    rw [List.take_append_of_le_length (by omega), List.drop_append_of_le_length (by omega)]
    simp

theorem Lens.snd {γ : Type} {a : RT α} {b : RT β} {off o' : Nat} {c : RT γ} {get : β → γ} {set : β → γ → β} (l : Lens b off c get set) (ho : o' = a.n + off) :
    Lens (rPair a b) o' c (fun d => get d.2) (fun d x => (d.1, set d.2 x)) where
  fits := by have := l.fits; simp only [rPair]; omega
  get_ := by
    subst ho
    rintro w ok cs d ⟨c1, c2, rfl, h1, h2⟩
    have hl := a.len h1
    have := l.get_ h2
    rw [List.drop_append, List.drop_of_length_le (by omega), List.nil_append, show a.n + off - c1.length = off by omega]
    exact this
  set_ := by
    subst ho
    rintro w ok cs d cs' d' ⟨c1, c2, rfl, h1, h2⟩ h'
    have hl := a.len h1
    refine ⟨c1, c2.take off ++ cs' ++ c2.drop (off + c.n), ?_, h1, l.set_ h2 h'⟩
    rw [List.take_append, List.drop_append, List.take_of_length_le (by omega), List.drop_of_length_le (by omega), show a.n + off - c1.length = off by omega, show a.n + off + c.n - c1.length = off + c.n by omega]
    simp

end
end Go.Eng
