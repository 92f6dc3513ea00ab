import Derived.Test.YthfhekohlmboiaaEng11
import Derived.OpenShut
import Derived.ChangeOld
import Derived.Tactics
namespace Go.Eng

/-! ### from the row's reading of an argument to mine -/
section
variable {P : Program}
abbrev Old (w : World) : Ok := fun b => b < w.heap.size
def InK (k : IntKind) (n : Int) : Prop := k.min ≤ n ∧ n ≤ k.max
def Opens {α : Type} (P : Program) (t : TypeId) (rt : RT α) (φ : α → Prop) : Prop :=
  ∀ {H : Type} {enc : TypeId × Value → H} {w : World} {base : Nat} {spare : Nat → Bool} {held : Bool} {fuel : Nat} {cs : List Value} {x : DataW H × List MemPlace},
    DataW.trod enc P w base spare held fuel t cs = some x → ∃ d, rt.rep w (Old w) cs d ∧ φ d

theorem opens_int {t : TypeId} {k : IntKind} (ht : P.underlying t = some (.int k)) : Opens P t (rInt k) (InK k) := fun h => by
  obtain ⟨n, rfl, _, hw⟩ := DataW.trod_int ht h
  simp only [Lit.wf, Bool.and_eq_true, decide_eq_true_eq] at hw
  exact ⟨n, rfl, hw⟩
theorem opens_bool {t : TypeId} (ht : P.underlying t = some .bool) : Opens P t rBool (fun _ => True) := fun h => by
  obtain ⟨b, rfl, _⟩ := DataW.trod_bool ht h
  exact ⟨b, rfl, trivial⟩
theorem opens_str {t : TypeId} (ht : P.underlying t = some .string) : Opens P t rStr (fun s => s.length ≤ maxLen) := fun h => by
  obtain ⟨s, rfl, _, hl⟩ := DataW.trod_string ht h
  exact ⟨s.data.toList, by simp [rStr, strV], by simpa using hl⟩

theorem exists_list {α : Type} {Q : Nat → α → Prop} : ∀ {n : Nat}, (∀ i, i < n → ∃ d, Q i d) → ∃ xs : List α, xs.length = n ∧ ∀ (i : Nat) (x : α), xs[i]? = some x → Q i x
  | 0, _ => ⟨[], rfl, fun i x h => by simp at h⟩
  | n + 1, h => by
    obtain ⟨xs, h1, h2⟩ := exists_list (Q := Q) (n := n) (fun i hi => h i (by omega))
    obtain ⟨d, hd⟩ := h n (by omega)
    refine ⟨xs ++ [d], by simp [h1], fun i x hx => ?_⟩
    rcases Nat.lt_or_ge i n with hi | hi
    · exact h2 i x (by rw [List.getElem?_append_left (by omega)] at hx; exact hx)
    · rw [List.getElem?_append_right (by omega)] at hx
      have : i = n := by
        have := (List.getElem?_eq_some_iff.1 hx).1
        simp at this; omega
      subst this
      rw [h1, Nat.sub_self] at hx
      simp at hx; subst hx; exact hd

theorem opens_slice {α : Type} {t e : TypeId} {rt : RT α} {φ : α → Prop} (ht : P.underlying t = some (.slice e)) (hc : P.cellsOf e = rt.n) (hn : Nat.ble 1 rt.n = true) (h : Opens P e rt φ) : Opens P t (rSlice rt) (fun xs => ∀ x ∈ xs, φ x) := fun {H enc w base spare held fuel cs x} hx => by
  have hn : 0 < rt.n := Nat.le_of_ble_eq_true hn
  rcases DataW.trod_slice ht hx with ⟨rfl, _⟩ | ⟨a, len, cap, elems, rest, n, _, rfl, _, hb, hl, hm, hlen, hel, _⟩
  · exact ⟨[], ⟨none, 0, rfl, Nat.le_refl _, by simp [maxLen], fun hne => absurd rfl hne⟩, by simp⟩
  · have each : ∀ i, i < len → ∃ d, (∃ cs', w.cells? base (a.add (i * rt.n)) rt.n = some cs' ∧ rt.rep w (Old w) cs' d) ∧ φ d := by
      intro i hi
      have h1 := hel i hi
      rw [hc] at h1
      cases h2 : w.cells? base (a.add (i * rt.n)) rt.n with
      | none => rw [h2] at h1; have : i < elems.length := by omega
                rw [List.getElem?_eq_getElem this] at h1; cases h1
      | some cs' =>
        rw [h2, Option.bind_some, List.getElem?_eq_getElem (show i < elems.length by omega)] at h1
        obtain ⟨d, h3, h4⟩ := h h1
        exact ⟨d, ⟨cs', rfl, h3⟩, h4⟩
    obtain ⟨xs, h1, h2⟩ := exists_list each
    refine ⟨xs, ⟨some a, cap, by rw [h1], by omega, hm, fun hne => ?_⟩, fun x hx => ?_⟩
    · have hpos : 0 < len := by rw [← h1]; exact List.length_pos_iff.2 hne
      have hsp : a.spot = none ∧ a.block < w.heap.size := by
        obtain ⟨d, ⟨cs', h3, _⟩, _⟩ := each 0 hpos
        obtain ⟨_, h5, h6⟩ := World.cells?_some h3
        have h7 := h6 0 hn
        rw [List.getElem?_eq_getElem (by omega)] at h7
        have h8 := World.cell?_spot h7
        refine ⟨by simpa [Addr.add] using h8, ?_⟩
        have := World.cells?_block h3 hn
        simpa [Addr.add] using this
      obtain ⟨b, o, sp⟩ := a
      obtain ⟨hs1, hs2⟩ := hsp
      simp only at hs1 hs2
      subst hs1
      refine ⟨b, o, rfl, hs2, fun i x hx => ?_⟩
      obtain ⟨⟨cs', h3, h4⟩, _⟩ := h2 i x hx
      refine ⟨cs', h4, fun j v hj => ?_⟩
      obtain ⟨_, h5, h6⟩ := World.cells?_some h3
      have hjl : j < rt.n := by rw [← h5]; exact (List.getElem?_eq_some_iff.1 hj).1
      have := h6 j hjl
      rw [hj] at this
      rw [← this]
      congr 1
      simp only [Addr.add]
      split <;> split <;> simp_all
    · obtain ⟨i, hi⟩ := List.getElem?_of_mem hx
      exact (h2 i x hi).2

def OpensF {α : Type} (P : Program) (fs : List Field) (off : Nat) (rt : RT α) (φ : α → Prop) : Prop :=
  ∀ {H : Type} {enc : TypeId × Value → H} {w : World} {base : Nat} {spare : Nat → Bool} {held : Bool} {fuel : Nat} {cs : List Value} {xs : List (DataW H × List MemPlace)},
    xs.length = fs.length → (∀ (i : Nat) (f : Field), fs[i]? = some f → DataW.trod enc P w base spare held fuel f.type ((cs.drop f.offset).take (P.cellsOf f.type)) = xs[i]?) →
    ∃ d, rt.rep w (Old w) ((cs.drop off).take rt.n) d ∧ φ d

theorem opensF_last {α : Type} {f : Field} {off : Nat} {rt : RT α} {φ : α → Prop} (ho : f.offset = off) (hc : P.cellsOf f.type = rt.n) (h : Opens P f.type rt φ) : OpensF P [f] off rt φ := fun {H enc w base spare held fuel cs xs} hl hx => by
  match xs, hl with
  | [y], _ =>
    have := hx 0 f rfl
    rw [ho, hc] at this
    exact h this
theorem opensF_cons {α γ : Type} {f : Field} {fs : List Field} {off off' : Nat} {a : RT α} {b : RT γ} {φ : α → Prop} {ψ : γ → Prop} (ho : f.offset = off) (hc : P.cellsOf f.type = a.n) (h : Opens P f.type a φ) (hr : OpensF P fs off' b ψ) (he : off' = off + a.n) : OpensF P (f :: fs) off (rPair a b) (fun d => φ d.1 ∧ ψ d.2) := fun {H enc w base spare held fuel cs xs} hl hx => by
  match xs, hl with
  | y :: ys, hl =>
    have h0 := hx 0 f rfl
    rw [ho, hc] at h0
    obtain ⟨d1, h1, h2⟩ := h h0
    obtain ⟨d2, h3, h4⟩ := hr (xs := ys) (cs := cs) (by simpa using hl) (fun i f' hf => by simpa using hx (i + 1) f' (by simpa using hf))
    refine ⟨(d1, d2), ⟨_, _, ?_, h1, h3⟩, h2, h4⟩
    subst he
    show (cs.drop off).take (a.n + b.n) = _
    rw [List.take_add, List.drop_drop]
theorem opens_struct {α : Type} {t : TypeId} {fs : List Field} {rt : RT α} {φ : α → Prop} (ht : P.underlying t = some (.struct fs.toArray)) (hc : P.cellsOf t = rt.n) (h : OpensF P fs 0 rt φ) : Opens P t rt φ := fun hx => by
  obtain ⟨xs, n, _, _, hl, hlen, hf⟩ := DataW.trod_struct ht hx
  obtain ⟨d, h1, h2⟩ := h (xs := xs) (by simpa using hlen) (fun i f hf' => hf i f (by simpa using hf'))
  refine ⟨d, ?_, h2⟩
  rw [List.drop_zero, List.take_of_length_le (by omega)] at h1
  exact h1

/-- an argument, opened -/
theorem Opens.arg {α : Type} {t : TypeId} {rt : RT α} {φ : α → Prop} (h : Opens P t rt φ) {H : Type} {enc : TypeId × Value → H} {w : World} {base : Nat} {spare : Nat → Bool} {held : Bool} {v : Value} {d : DataW H} {ps : List MemPlace}
    (hv : v = (if rt.agg then .agg v.cells else v.cells.toList.getD 0 undef)) (hd : DataW.Trod enc P w base spare held t v d ps) : ∃ x, rt.val w (Old w) v x ∧ φ x := by
  obtain ⟨fuel, hf⟩ := hd
  obtain ⟨x, h1, h2⟩ := h hf
  exact ⟨x, ⟨_, h1, by simpa using hv⟩, h2⟩
end

/-! ### a cut: the ways through a piece of code meet again -/
theorem j_cut {P : Program} {cx : Cx} {st : St} {c : Code} {k : Kn} {ι : Type} (fam : ι → St) (p : ι → Prop) (h : J P cx st c (.loop (fun a w => ∃ j, p j ∧ Eng.Inv cx (fam j) a w) k)) (hn : ∀ j, p j → JN P cx (fam j) k) : J P cx st c k := fun a w hi => by
  refine Code.wp_mono (fun e a w q => ?_) (h a w hi)
  cases e with
  | normal =>
    obtain ⟨j, hp, hj⟩ : ∃ j, p j ∧ Eng.Inv cx (fam j) a w := q
    exact hn j hp a w hj
  | _ => exact q
end Go.Eng
