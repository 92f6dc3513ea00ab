import Derived.Test.YtfamnoalgjkjhaaM3
import Derived.OpenShut
import Derived.ChangeOld
import Derived.Tactics
import Derived.Sort.Grow
import Derived.Laws.Small
import Derived.Lib.SlicesCompact
import Derived.Lib.RowBridge
import Derived.Laws.Bits64
namespace Go.Eng

/-! ### from the row's reading of an argument to mine -/
section
variable {P : Program}
abbrev Old (w : World) : Ok := fun b => b < w.heap.size
def InK (k : IntKind) (n : Int) : Prop := k.min ≤ n ∧ n ≤ k.max
def Opens {α : Type} (P : Program) (t : TypeId) (rt : RT α) (φ : α → Prop) : Prop :=
  ∀ {H : Type} {enc : TypeId × Value → H} {w : World} {base : Nat} {spare : Nat → Bool} {held : Bool} {fuel : Nat} {cs : List Value} {x : DataW H × List MemPlace},
    DataW.trod enc P w base spare held fuel t cs = some x → ∃ d, rt.rep w (Old w) cs d ∧ φ d

theorem opens_int {t : TypeId} {k : IntKind} (ht : P.underlying t = some (.int k)) : Opens P t (rInt k) (InK k) := fun h => by
  obtain ⟨n, rfl, _, hw⟩ := DataW.trod_int ht h
  simp only [Lit.wf, Bool.and_eq_true, decide_eq_true_eq] at hw
  exact ⟨n, rfl, hw⟩
theorem opens_bool {t : TypeId} (ht : P.underlying t = some .bool) : Opens P t rBool (fun _ => True) := fun h => by
  obtain ⟨b, rfl, _⟩ := DataW.trod_bool ht h
  exact ⟨b, rfl, trivial⟩
theorem opens_str {t : TypeId} (ht : P.underlying t = some .string) : Opens P t rStr (fun s => s.length ≤ maxLen) := fun h => by
  obtain ⟨s, rfl, _, hl⟩ := DataW.trod_string ht h
  exact ⟨s.data.toList, by simp [rStr, strV], by simpa using hl⟩

theorem exists_list {α : Type} {Q : Nat → α → Prop} : ∀ {n : Nat}, (∀ i, i < n → ∃ d, Q i d) → ∃ xs : List α, xs.length = n ∧ ∀ (i : Nat) (x : α), xs[i]? = some x → Q i x
  | 0, _ => ⟨[], rfl, fun i x h => by simp at h⟩
  | n + 1, h => by
    obtain ⟨xs, h1, h2⟩ := exists_list (Q := Q) (n := n) (fun i hi => h i (by omega))
    obtain ⟨d, hd⟩ := h n (by omega)
    refine ⟨xs ++ [d], by simp [h1], fun i x hx => ?_⟩
    rcases Nat.lt_or_ge i n with hi | hi
    · exact h2 i x (by rw [List.getElem?_append_left (by omega)] at hx; exact hx)
    · rw [List.getElem?_append_right (by omega)] at hx
      have : i = n := by
        have := (List.getElem?_eq_some_iff.1 hx).1
        simp at this; omega
      subst this
      rw [h1, Nat.sub_self] at hx
      simp at hx; subst hx; exact hd

theorem opens_slice {α : Type} {t e : TypeId} {rt : RT α} {φ : α → Prop} (ht : P.underlying t = some (.slice e)) (hc : P.cellsOf e = rt.n) (hn : Nat.ble 1 rt.n = true) (h : Opens P e rt φ) : Opens P t (rSlice rt) (fun xs => ∀ x ∈ xs, φ x) := fun {H enc w base spare held fuel cs x} hx => by
  have hn : 0 < rt.n := Nat.le_of_ble_eq_true hn
  rcases DataW.trod_slice ht hx with ⟨rfl, _⟩ | ⟨a, len, cap, elems, rest, n, _, rfl, _, hb, hl, hm, hlen, hel, _⟩
  · exact ⟨[], ⟨none, 0, rfl, Nat.le_refl _, by simp [maxLen], fun hne => absurd rfl hne⟩, by simp⟩
  · have each : ∀ i, i < len → ∃ d, (∃ cs', w.cells? base (a.add (i * rt.n)) rt.n = some cs' ∧ rt.rep w (Old w) cs' d) ∧ φ d := by
      intro i hi
      have h1 := hel i hi
      rw [hc] at h1
      cases h2 : w.cells? base (a.add (i * rt.n)) rt.n with
      | none => rw [h2] at h1; have : i < elems.length := by omega
                rw [List.getElem?_eq_getElem this] at h1; cases h1
      | some cs' =>
        rw [h2, Option.bind_some, List.getElem?_eq_getElem (show i < elems.length by omega)] at h1
        obtain ⟨d, h3, h4⟩ := h h1
        exact ⟨d, ⟨cs', rfl, h3⟩, h4⟩
    obtain ⟨xs, h1, h2⟩ := exists_list each
    refine ⟨xs, ⟨some a, cap, by rw [h1], by omega, hm, fun hne => ?_⟩, fun x hx => ?_⟩
    · have hpos : 0 < len := by rw [← h1]; exact List.length_pos_iff.2 hne
      have hsp : a.spot = none ∧ a.block < w.heap.size := by
        obtain ⟨d, ⟨cs', h3, _⟩, _⟩ := each 0 hpos
        obtain ⟨_, h5, h6⟩ := World.cells?_some h3
        have h7 := h6 0 hn
        rw [List.getElem?_eq_getElem (by omega)] at h7
        have h8 := World.cell?_spot h7
        refine ⟨by simpa [Addr.add] using h8, ?_⟩
        have := World.cells?_block h3 hn
        simpa [Addr.add] using this
      obtain ⟨b, o, sp⟩ := a
      obtain ⟨hs1, hs2⟩ := hsp
      simp only at hs1 hs2
      subst hs1
      refine ⟨b, o, rfl, hs2, fun i x hx => ?_⟩
      obtain ⟨⟨cs', h3, h4⟩, _⟩ := h2 i x hx
      refine ⟨cs', h4, fun j v hj => ?_⟩
      obtain ⟨_, h5, h6⟩ := World.cells?_some h3
      have hjl : j < rt.n := by rw [← h5]; exact (List.getElem?_eq_some_iff.1 hj).1
      have := h6 j hjl
      rw [hj] at this
      rw [← this]
      congr 1
      simp only [Addr.add]
      split <;> split <;> simp_all
    · obtain ⟨i, hi⟩ := List.getElem?_of_mem hx
      exact (h2 i x hi).2

def OpensF {α : Type} (P : Program) (fs : List Field) (off : Nat) (rt : RT α) (φ : α → Prop) : Prop :=
  ∀ {H : Type} {enc : TypeId × Value → H} {w : World} {base : Nat} {spare : Nat → Bool} {held : Bool} {fuel : Nat} {cs : List Value} {xs : List (DataW H × List MemPlace)},
    xs.length = fs.length → (∀ (i : Nat) (f : Field), fs[i]? = some f → DataW.trod enc P w base spare held fuel f.type ((cs.drop f.offset).take (P.cellsOf f.type)) = xs[i]?) →
    ∃ d, rt.rep w (Old w) ((cs.drop off).take rt.n) d ∧ φ d

theorem opensF_last {α : Type} {f : Field} {off : Nat} {rt : RT α} {φ : α → Prop} (ho : f.offset = off) (hc : P.cellsOf f.type = rt.n) (h : Opens P f.type rt φ) : OpensF P [f] off rt φ := fun {H enc w base spare held fuel cs xs} hl hx => by
  match xs, hl with
  | [y], _ =>
    have := hx 0 f rfl
    rw [ho, hc] at this
    exact h this
theorem opensF_cons {α γ : Type} {f : Field} {fs : List Field} {off off' : Nat} {a : RT α} {b : RT γ} {φ : α → Prop} {ψ : γ → Prop} (ho : f.offset = off) (hc : P.cellsOf f.type = a.n) (h : Opens P f.type a φ) (hr : OpensF P fs off' b ψ) (he : off' = off + a.n) : OpensF P (f :: fs) off (rPair a b) (fun d => φ d.1 ∧ ψ d.2) := fun {H enc w base spare held fuel cs xs} hl hx => by
  match xs, hl with
  | y :: ys, hl =>
    have h0 := hx 0 f rfl
    rw [ho, hc] at h0
    obtain ⟨d1, h1, h2⟩ := h h0
    obtain ⟨d2, h3, h4⟩ := hr (xs := ys) (cs := cs) (by simpa using hl) (fun i f' hf => by simpa using hx (i + 1) f' (by simpa using hf))
    refine ⟨(d1, d2), ⟨_, _, ?_, h1, h3⟩, h2, h4⟩
    subst he
    show (cs.drop off).take (a.n + b.n) = _
    rw [List.take_add, List.drop_drop]
theorem opens_struct {α : Type} {t : TypeId} {fs : List Field} {rt : RT α} {φ : α → Prop} (ht : P.underlying t = some (.struct fs.toArray)) (hc : P.cellsOf t = rt.n) (h : OpensF P fs 0 rt φ) : Opens P t rt φ := fun hx => by
  obtain ⟨xs, n, _, _, hl, hlen, hf⟩ := DataW.trod_struct ht hx
  obtain ⟨d, h1, h2⟩ := h (xs := xs) (by simpa using hlen) (fun i f hf' => hf i f (by simpa using hf'))
  refine ⟨d, ?_, h2⟩
  rw [List.drop_zero, List.take_of_length_le (by omega)] at h1
  exact h1

/-- an argument, opened -/
theorem Opens.arg {α : Type} {t : TypeId} {rt : RT α} {φ : α → Prop} (h : Opens P t rt φ) {H : Type} {enc : TypeId × Value → H} {w : World} {base : Nat} {spare : Nat → Bool} {held : Bool} {v : Value} {d : DataW H} {ps : List MemPlace}
    (hv : v = (if rt.agg then .agg v.cells else v.cells.toList.getD 0 undef)) (hd : DataW.Trod enc P w base spare held t v d ps) : ∃ x, rt.val w (Old w) v x ∧ φ x := by
  obtain ⟨fuel, hf⟩ := hd
  obtain ⟨x, h1, h2⟩ := h hf
  exact ⟨x, ⟨_, h1, by simpa using hv⟩, h2⟩
end

/-! ### a cut: the ways through a piece of code meet again -/
theorem j_cut {P : Program} {cx : Cx} {st : St} {c : Code} {k : Kn} {ι : Type} (fam : ι → St) (p : ι → Prop) (h : J P cx st c (.loop (fun a w => ∃ j, p j ∧ Eng.Inv cx (fam j) a w) k)) (hn : ∀ j, p j → JN P cx (fam j) k) : J P cx st c k := fun a w hi => by
  refine Code.wp_mono (fun e a w q => ?_) (h a w hi)
  cases e with
  | normal =>
    obtain ⟨j, hp, hj⟩ : ∃ j, p j ∧ Eng.Inv cx (fam j) a w := q
    exact hn j hp a w hj
  | _ => exact q
end Go.Eng
namespace Go.Eng
open Go.Sort (Holds putRow grow putCells mapBlock onCells)
set_option linter.unusedSimpArgs false

/-! ### functions that turn a row of ints in place (slices.Sort, slices.Compact) -/
/-- called with a slice over a row that holds zs, the function leaves F zs there and hands back nothing, or the same slice cut to m zs -/
structure Turn (P : Program) (k : FuncId) (F : List Int → List Int) (m : List Int → Option Nat) : Prop where
  ent : ∀ w args, (callFunc k args).run P w = .ok (.enter k args) w
  len : ∀ zs, (F zs).length = zs.length
  cut : ∀ zs n, m zs = some n → n ≤ zs.length
  some_ : ∀ blk off cap zs w, Holds (Value.int .i64) w blk off zs.toArray → blk < w.heap.size → zs.length < 4611686018427387904 → zs.length ≤ cap →
    Calls P k #[.slice (some ⟨blk, off, none⟩) zs.length cap] w fun e w' => e = .returned (match m zs with | none => .tuple #[] | some n => .slice (some ⟨blk, off, none⟩) n cap) ∧
      ∃ q os, w' = grow (putRow (Value.int .i64) (Sort.ahead w q) blk off (F zs).toArray) os
  none_ : ∀ A cap w, Calls P k #[.slice A 0 cap] w fun e w' => e = .returned (match m [] with | none => .tuple #[] | some _ => .slice A 0 cap) ∧ w' = w

section
variable {P : Program} {cx : Cx} {st st' : St} {β : Loc} {a : Act} {w w' : World} {ops : Array Oper} {k : Kn} {c : Code}
variable {dst : Option Tmp} {ty : TypeId} {pos : String} {aft : Array Edge} {gd : Option (Nat × Bool)}

theorem rows_holds {b o : Nat} {xs : List Int} {ok : Ok} (h : RowRep (rInt .i64) w ok b o xs) : Holds (Value.int .i64) w b o xs.toArray := by
  obtain ⟨cur, e, h1, h2, h3⟩ := h
  intro j hj
  have hj' : j < xs.length := by simpa using hj
  obtain ⟨cs, h4, h5⟩ := h3 j xs[j] (List.getElem?_eq_getElem hj')
  have h4 : cs = [.int .i64 xs[j]] := h4
  subst h4
  have h6 := h5 0 _ rfl
  have h6 : cur[o + j]? = some (.int .i64 xs[j]) := by simpa [rInt] using h6
  have hsz : o + j < cur.size := (Array.getElem?_eq_some_iff.1 h6).1
  refine ⟨?_, ?_⟩
  · simp [World.cell?, h1, h6, hj']
  · simp [World.frozen?, h1]

theorem putCells_get (o : Nat) (d : List Int) (cur : Array Value) (k : Nat) : (putCells (Value.int .i64) o d.toArray cur)[k]? = if o ≤ k ∧ k < o + d.length then (cur[k]?).map (fun _ => Value.int .i64 (d[k - o]?.getD 0)) else cur[k]? := by
  simp only [putCells, Array.getElem?_mapIdx]
  by_cases h : o ≤ k ∧ k < o + d.length
  · have : k - o < d.length := by omega
    cases cur[k]? <;> simp [h, this]
  · cases cur[k]? <;> simp [h]

/-- what such a call makes of what is known -/
theorem turn_inv (hi : InvB cx st β a w) {nm b o : Nat} {xs ys : List Int} {q : Nat} {os : Array Obj} (hn : lookH st.heap nm = some ⟨rInt .i64, xs⟩) (hb : β nm = some (b, o)) (hlen : ys.length = xs.length) :
    InvB cx ⟨st.slots, (nm, ⟨rInt .i64, ys⟩) :: st.heap⟩ (fun k => if k = nm then some (b, o) else β k) a (grow (putRow (Value.int .i64) (Sort.ahead w q) b o ys.toArray) os) := by
  obtain ⟨cur, e, h1, h2, h3⟩ : RowRep (rInt .i64) w (okOf cx st.heap β w) b o xs := by have := hi.rows nm _ hn; rw [hb] at this; exact this.1 NM.no
  have h2 : o + xs.length * 1 ≤ cur.size := h2
  have hset := InvB.setRow (rt' := rInt .i64) (xs' := ys) (cur' := putCells (Value.int .i64) o ys.toArray cur) hi hn hb h1 (by simp [putCells]) (.inl rfl) (by simp [putCells, rInt]; omega) (fun i x hx => ?_)
  · refine hset.later ⟨rfl, rfl, rfl, ?_, fun k' hk => ?_, Nat.le_add_right _ _⟩
    · simp [grow, putRow, mapBlock, World.setRow]
    · simp only [World.setRow, Array.size_modify] at hk
      simp only [grow, putRow, mapBlock, Sort.heap_ahead]
      rw [Array.getElem?_append_left (by simpa using hk)]
      by_cases hkb : k' = b
      · subst hkb
        rw [setRow_heap _ _ _ _ _ _ h1, Array.getElem?_modify, if_pos rfl, h1]; rfl
      · rw [setRow_other _ _ _ _ hkb, Array.getElem?_modify, if_neg (Ne.symm hkb)]
  · refine ⟨[.int .i64 x], rfl, fun j v hj => ?_⟩
    have hi' : i < ys.length := (List.getElem?_eq_some_iff.1 hx).1
    cases j with
    | succ j => simp at hj
    | zero =>
      simp at hj; subst hj
      show (putCells (Value.int .i64) o ys.toArray cur)[o + i * 1 + 0]? = _
      rw [show o + i * 1 + 0 = o + i by omega, putCells_get, if_pos (by omega), Array.getElem?_eq_getElem (by omega), Nat.add_sub_cancel_left, hx]; rfl

theorem InvB.setEmpty (hi : InvB cx st β a w) {nm : Nat} {hb : HB} (hn : lookH st.heap nm = some hb) : InvB cx ⟨st.slots, (nm, hb) :: st.heap⟩ β a w := by
  have hh : ∀ k, lookH ((nm, hb) :: st.heap) k = lookH st.heap k := fun k => by
    rw [lookH_cons]; split
    · rename_i e; rw [← e, hn]
    · rfl
  have hok : ∀ b, okOf cx st.heap β w b → okOf cx ((nm, hb) :: st.heap) β w b ∧ w.heap[b]? = w.heap[b]? := fun b h => ⟨⟨h.1, h.2.1, fun k x hk => h.2.2 k x (by rw [hh] at hk; exact hk)⟩, rfl⟩
  refine ⟨hi.below, hi.old, hi.defers, hi.size, fun k x hk => hi.own k x (by rw [hh] at hk; exact hk), fun k k' x y hk hk' => hi.sep k k' x y (by rw [hh] at hk; exact hk) (by rw [hh] at hk'; exact hk'), fun k x hk => ?_, fun i s hs => ?_⟩
  · exact HB.keep hok (fun _ _ => rfl) (hi.rows k x (by rw [hh] at hk; exact hk))
  · obtain ⟨v, h1, h2⟩ := hi.slots i s hs
    exact ⟨v, h1, SV.keep hok (fun nm _ => ⟨rfl, fun b o _ cur e fr hc => ⟨cur, e, fr, hc, rfl⟩⟩) h2⟩

theorem turn_run {kf : FuncId} {F : List Int → List Int} {m : List Int → Option Nat} (h : Turn P kf F m) {nm : Nat} {xs : List Int} {x : Operand} {n : Nat} (hx : Ev st x (.own nm (rInt .i64).n 0 n)) (hn : lookH st.heap nm = some ⟨rInt .i64, xs⟩) (hfull : n = xs.length) (hbig : xs.length < 4611686018427387904) (hi : InvB cx st β a w) :
    Calls P kf #[a.eval x] w fun e w' => ∃ v β', e = .returned v ∧ InvB cx ⟨st.slots, (nm, ⟨rInt .i64, F xs⟩) :: st.heap⟩ β' a w' ∧ (m xs = none → v = .tuple #[]) ∧ ∀ j, m xs = some j → (SV.own nm (rInt .i64).n 0 j).holds β' w' (okOf cx ((nm, ⟨rInt .i64, F xs⟩) :: st.heap) β' w') v := by
  subst hfull
  have hv := hi.ev hx
  have hrow := hi.rows nm _ hn
  simp only [SV.holds, hdr] at hv
  have hnil : xs = [] → lookH st.heap nm = some ⟨rInt .i64, F xs⟩ := fun e => by
    subst e; rw [hn]; have : F [] = [] := List.length_eq_zero_iff.1 (h.len []); rw [this]
  cases hb : β nm with
  | none =>
    rw [hb] at hrow hv
    have hxs : xs = [] := hrow
    subst hxs
    obtain ⟨hv, _⟩ := hv
    rw [hv]
    refine (h.none_ none 0 w).mono ?_
    rintro e w' ⟨rfl, rfl⟩
    refine ⟨_, β, rfl, hi.setEmpty (hnil rfl), fun hm => by rw [hm], fun j hm => ?_⟩
    have hj := h.cut _ _ hm
    have hj : j = 0 := by simpa using hj
    subst hj
    simp only [hm, SV.holds, hdr, hb]
    exact ⟨trivial, trivial⟩
  | some bo =>
    obtain ⟨b, o⟩ := bo
    rw [hb] at hrow hv
    obtain ⟨A, cap, hv, hc1, hc2, hc3⟩ := hv
    rw [hv]
    by_cases h0 : xs = []
    · subst h0
      refine (h.none_ A cap w).mono ?_
      rintro e w' ⟨rfl, rfl⟩
      refine ⟨_, β, rfl, hi.setEmpty (hnil rfl), fun hm => by rw [hm], fun j hm => ?_⟩
      have hj := h.cut _ _ hm
      have hj : j = 0 := by simpa using hj
      subst hj
      simp only [hm, SV.holds, hdr, hb]
      refine ⟨A, cap, rfl, Nat.zero_le _, hc2, ?_⟩
      rcases hc3 with ⟨_, e0⟩ | hc3
      · exact .inl ⟨trivial, e0⟩
      · exact .inr hc3
    · have hpos : xs.length ≠ 0 := fun e => h0 (List.length_eq_zero_iff.1 e)
      rcases hc3 with ⟨e0, _⟩ | ⟨hA, cur, e, fr, hcur, hfit⟩
      · exact absurd e0 hpos
      have hA : A = some ⟨b, o, none⟩ := by rw [hA]; simp
      subst hA
      refine (h.some_ b o cap xs w (rows_holds (hrow.1 NM.no)) (InvB.cell_lt hcur) hbig hc1).mono ?_
      rintro e' w' ⟨rfl, q, os, rfl⟩
      refine ⟨_, _, rfl, turn_inv hi hn hb (h.len xs), fun hm => by rw [hm], fun j hm => ?_⟩
      have hj := h.cut _ _ hm
      simp only [hm, SV.holds, hdr, if_pos]
      refine ⟨_, cap, rfl, Nat.le_trans hj hc1, hc2, .inr ⟨by simp, ?_⟩⟩
      refine ⟨putCells (Value.int .i64) o (F xs).toArray cur, e, fr, ?_, by simpa [putCells] using hfit⟩
      simp only [grow, putRow, mapBlock, Sort.heap_ahead]
      rw [Array.getElem?_append_left (by simpa using InvB.cell_lt hcur), Array.getElem?_modify, if_pos rfl, hcur]; rfl

theorem op_turn0 {kf : FuncId} {F : List Int → List Int} {m : List Int → Option Nat} (h : Turn P kf F m) {nm : Nat} {xs : List Int} {x : Operand} {n : Nat} {ts : Array TypeId} (hx : Ev st x (.own nm (rInt .i64).n 0 n)) (hn : lookH st.heap nm = some ⟨rInt .i64, xs⟩) (hfull : n = xs.length) (hbig : xs.length < 4611686018427387904) :
    OS P cx ⟨none, .call { callee := .value (.func kf), args := #[x], argTypes := ts }, ty, pos, aft, gd⟩ st ⟨st.slots, (nm, ⟨rInt .i64, F xs⟩) :: st.heap⟩ := by
  rintro a w ⟨β, hi⟩ Q
  have hrun : (execOp a.eval ⟨none, .call { callee := .value (.func kf), args := #[x], argTypes := ts }, ty, pos, aft, gd⟩).run P w = .ok (.enter kf #[a.eval x]) w := by
    simp [execOp, resolve, Act.eval, Deferred.ofValue, invoke, h.ent]
  unfold Oper.wp
  rw [hrun, Oper.upon_enter]
  refine (turn_run h hx hn hfull hbig hi).mono ?_
  rintro e w' ⟨v, β', rfl, hi', _, _⟩
  exact ⟨β', hi'⟩

theorem op_turn0d {kf : FuncId} {F : List Int → List Int} {m : List Int → Option Nat} (h : Turn P kf F m) {nm d : Nat} {xs : List Int} {x : Operand} {n : Nat} {ts : Array TypeId} (hx : Ev st x (.own nm (rInt .i64).n 0 n)) (hn : lookH st.heap nm = some ⟨rInt .i64, xs⟩) (hfull : n = xs.length) (hbig : xs.length < 4611686018427387904) (hm : ∀ zs, m zs = none) (hd : Nat.blt d cx.n = true) :
    OS P cx ⟨some d, .call { callee := .value (.func kf), args := #[x], argTypes := ts }, ty, pos, aft, gd⟩ st ⟨(d, .raw (.tuple #[])) :: st.slots, (nm, ⟨rInt .i64, F xs⟩) :: st.heap⟩ := by
  rintro a w ⟨β, hi⟩ Q
  have hrun : (execOp a.eval ⟨some d, .call { callee := .value (.func kf), args := #[x], argTypes := ts }, ty, pos, aft, gd⟩).run P w = .ok (.enter kf #[a.eval x]) w := by
    simp [execOp, resolve, Act.eval, Deferred.ofValue, invoke, h.ent]
  unfold Oper.wp
  rw [hrun, Oper.upon_enter]
  refine (turn_run h hx hn hfull hbig hi).mono ?_
  rintro e w' ⟨v, β', rfl, hi', hv, _⟩
  exact ⟨β', hi'.put (by simpa using hd) (hv (hm _))⟩

theorem op_turn1 {kf : FuncId} {F : List Int → List Int} {m : List Int → Nat} (h : Turn P kf F (fun zs => some (m zs))) {nm d : Nat} {xs : List Int} {x : Operand} {n : Nat} {ts : Array TypeId} (hx : Ev st x (.own nm (rInt .i64).n 0 n)) (hn : lookH st.heap nm = some ⟨rInt .i64, xs⟩) (hfull : n = xs.length) (hbig : xs.length < 4611686018427387904) (hd : Nat.blt d cx.n = true) :
    OS P cx ⟨some d, .call { callee := .value (.func kf), args := #[x], argTypes := ts }, ty, pos, aft, gd⟩ st ⟨(d, .own nm (rInt .i64).n 0 (m xs)) :: st.slots, (nm, ⟨rInt .i64, F xs⟩) :: st.heap⟩ := by
  rintro a w ⟨β, hi⟩ Q
  have hrun : (execOp a.eval ⟨some d, .call { callee := .value (.func kf), args := #[x], argTypes := ts }, ty, pos, aft, gd⟩).run P w = .ok (.enter kf #[a.eval x]) w := by
    simp [execOp, resolve, Act.eval, Deferred.ofValue, invoke, h.ent]
  unfold Oper.wp
  rw [hrun, Oper.upon_enter]
  refine (turn_run h hx hn hfull hbig hi).mono ?_
  rintro e w' ⟨v, β', rfl, hi', _, hv⟩
  exact ⟨β', hi'.put (by simpa using hd) (hv _ rfl)⟩
end
end Go.Eng
namespace Go.Eng
section
variable {P : Program} {cx : Cx} {st : St} {a : Act} {w : World} {k : Kn} {c : Code}
/-- a nil slice reads as the empty list -/
theorem inv_nil {α : Type} {i : Nat} (rt : RT α) (hs : lookS st.slots i = some (.raw (.slice none 0 0))) (hi : Inv cx st a w) : Inv cx ⟨(i, .tv (rSlice rt) []) :: st.slots, st.heap⟩ a w := by
  obtain ⟨β, hb⟩ := hi
  refine ⟨β, hb.below, hb.old, hb.defers, hb.size, hb.own, hb.sep, hb.rows, fun j s hj => ?_⟩
  rw [lookS_cons] at hj
  split at hj
  · rename_i e; subst e; injection hj with hj; subst hj
    obtain ⟨v, h1, h2⟩ := hb.slots i _ hs
    have h2 : v = .slice none 0 0 := h2
    subst h2
    exact ⟨_, h1, nil_val⟩
  · exact hb.slots j s hj
theorem j_nil {α : Type} (i : Nat) (rt : RT α) (hs : lookS st.slots i = some (.raw (.slice none 0 0))) (h : J P cx ⟨(i, .tv (rSlice rt) []) :: st.slots, st.heap⟩ c k) : J P cx st c k := fun a w hi => h a w (inv_nil rt hs hi)
variable {dst : Option Tmp} {ty : TypeId} {pos : String} {aft : Array Edge} {gd : Option (Nat × Bool)}
theorem op_eql_bool {x y : Operand} {t yt : TypeId} {p q : Bool} (ht : P.underlying t = some .bool) (hx : Ev st x (.raw (.bool p))) (hy : Ev st y (.raw (.bool q))) :
    Adr P cx st ⟨dst, .binOp .eql t x y yt, ty, pos, aft, gd⟩ (.raw (.bool (p == q))) :=
  adr_still fun st' hag β a w hi => ⟨_, by
    have h1 := hi.raw (hag.ev (by simp [Op.operands]) hx)
    have h2 := hi.raw (hag.ev (by simp [Op.operands]) hy)
    simp [execOp, h1, h2, eqGuard_at_bool, run_eql_bool _ _ _ _ ht], rfl⟩
theorem op_min {x y : Operand} {ts : Array TypeId} {kk : IntKind} {p q : Int} (hx : Ev st x (.raw (.int kk p))) (hy : Ev st y (.raw (.int kk q))) :
    Adr P cx st ⟨dst, .call { callee := .builtin .min, args := #[x, y], argTypes := ts }, ty, pos, aft, gd⟩ (.raw (.int kk (if q < p then q else p))) :=
  adr_still fun st' hag β a w hi => ⟨_, by
    have h1 := hi.raw (hag.ev (by simp [Op.operands, Call.operands]) hx)
    have h2 := hi.raw (hag.ev (by simp [Op.operands, Call.operands]) hy)
    simp [execOp, resolve, invoke, builtin, h1, h2, run_min_int2], rfl⟩
theorem op_max {x y : Operand} {ts : Array TypeId} {kk : IntKind} {p q : Int} (hx : Ev st x (.raw (.int kk p))) (hy : Ev st y (.raw (.int kk q))) :
    Adr P cx st ⟨dst, .call { callee := .builtin .max, args := #[x, y], argTypes := ts }, ty, pos, aft, gd⟩ (.raw (.int kk (if p < q then q else p))) :=
  adr_still fun st' hag β a w hi => ⟨_, by
    have h1 := hi.raw (hag.ev (by simp [Op.operands, Call.operands]) hx)
    have h2 := hi.raw (hag.ev (by simp [Op.operands, Call.operands]) hy)
    simp [execOp, resolve, invoke, builtin, h1, h2, run_max_int2], rfl⟩
end
end Go.Eng
namespace Go.Eng
/-! lists of integers in order, each once -/
theorem strict_eq : ∀ {a b : List Int}, a.Pairwise (· < ·) → b.Pairwise (· < ·) → (∀ x, x ∈ a ↔ x ∈ b) → a = b
  | [], [], _, _, _ => rfl
  | [], y :: b, _, _, h => by have := (h y).2 (by simp); simp at this
  | x :: a, [], _, _, h => by have := (h x).1 (by simp); simp at this
  | x :: a, y :: b, ha, hb, h => by
    rw [List.pairwise_cons] at ha hb
    have hxy : x = y := by
      have h1 := (h x).1 (by simp)
      have h2 := (h y).2 (by simp)
      rcases List.mem_cons.1 h1 with h1 | h1
      · exact h1
      rcases List.mem_cons.1 h2 with h2 | h2
      · exact h2.symm
      have := ha.1 y h2; have := hb.1 x h1; omega
    subst hxy
    rw [strict_eq ha.2 hb.2 fun z => ⟨fun hz => ?_, fun hz => ?_⟩]
    · rcases List.mem_cons.1 ((h z).1 (List.mem_cons_of_mem _ hz)) with e | e
      · subst e; exact absurd (ha.1 z hz) (by omega)
      · exact e
    · rcases List.mem_cons.1 ((h z).2 (List.mem_cons_of_mem _ hz)) with e | e
      · subst e; exact absurd (hb.1 z hz) (by omega)
      · exact e
/-- in order, each once -/
def uniqS (l : List Int) : List Int := Lib.compact (l.mergeSort fun x y => decide (x ≤ y))
theorem compactUpTo_strict {d : Array Int} (hs : d.toList.Pairwise (· ≤ ·)) : ∀ m, m ≤ d.size → (Lib.compactUpTo d m).Pairwise (· < ·) ∧ ∀ x, x ∈ Lib.compactUpTo d m ↔ ∃ j, ∃ h : j < d.size, j < m ∧ d[j] = x
  | 0, _ => by simp [Lib.compactUpTo]
  | m + 1, hm => by
    obtain ⟨h1, h2⟩ := compactUpTo_strict hs m (by omega)
    have hle : ∀ i j, ∀ (hi : i < d.size) (hj : j < d.size), i ≤ j → d[i] ≤ d[j] := fun i j hi hj hij => by
      rcases Nat.lt_or_ge i j with h | h
      · have := List.pairwise_iff_getElem.1 hs i j (by simpa using hi) (by simpa using hj) h; simpa using this
      · have : i = j := by omega
        subst this; exact Int.le_refl _
    rw [Lib.compactUpTo_succ]
    have gm : d[m]! = d[m] := getElem!_pos d m (by omega)
    by_cases hk : Lib.keeps d m = true
    · rw [if_pos hk, gm]
      refine ⟨List.pairwise_append.2 ⟨h1, by simp, fun a ha b hb => ?_⟩, fun x => ?_⟩
      · obtain rfl := List.mem_singleton.1 hb
        obtain ⟨j, hj, hjm, rfl⟩ := (h2 a).1 ha
        simp only [Lib.keeps, decide_eq_true_eq] at hk
        rcases hk with hk | hk
        · omega
        · rw [gm, getElem!_pos d (m - 1) (by omega)] at hk
          have a1 := hle j (m - 1) hj (by omega) (by omega)
          have a2 := hle (m - 1) m (by omega) (by omega) (by omega)
          omega
      · rw [List.mem_append, h2, List.mem_singleton]
        constructor
        · rintro (⟨j, hj, hjm, e⟩ | e)
          · exact ⟨j, hj, by omega, e⟩
          · exact ⟨m, by omega, by omega, e.symm⟩
        · rintro ⟨j, hj, hjm, e⟩
          by_cases hjm' : j = m
          · subst hjm'; exact .inr e.symm
          · exact .inl ⟨j, hj, by omega, e⟩
    · rw [if_neg hk, List.append_nil]
      refine ⟨h1, fun x => ?_⟩
      rw [h2]
      simp only [Lib.keeps, decide_eq_true_eq, not_or, ne_eq, Classical.not_not] at hk
      constructor
      · rintro ⟨j, hj, hjm, e⟩; exact ⟨j, hj, by omega, e⟩
      · rintro ⟨j, hj, hjm, e⟩
        by_cases hjm' : j = m
        · subst hjm'
          refine ⟨j - 1, by omega, by omega, ?_⟩
          have := hk.2
          rw [gm, getElem!_pos d (j - 1) (by omega)] at this
          rw [← this]; exact e
        · exact ⟨j, hj, by omega, e⟩
theorem sorted_le (l : List Int) : (l.mergeSort fun x y => decide (x ≤ y)).Pairwise (· ≤ ·) := by
  have := List.pairwise_mergeSort (le := fun x y : Int => decide (x ≤ y)) (fun a b c h1 h2 => by simp at h1 h2 ⊢; omega) (fun a b => by simp; omega) l
  exact this.imp (fun h => by simpa using h)
theorem uniqS_ok (l : List Int) : (uniqS l).Pairwise (· < ·) ∧ ∀ x, x ∈ uniqS l ↔ x ∈ l := by
  have hs := sorted_le l
  obtain ⟨h1, h2⟩ := compactUpTo_strict (d := (l.mergeSort fun x y => decide (x ≤ y)).toArray) (by simpa using hs) _ (Nat.le_refl _)
  have e : uniqS l = Lib.compactUpTo (l.mergeSort fun x y => decide (x ≤ y)).toArray (l.mergeSort fun x y => decide (x ≤ y)).toArray.size := by simp [uniqS, Lib.compact]
  rw [e]
  refine ⟨h1, fun x => ?_⟩
  rw [h2, ← List.mem_mergeSort (le := fun x y => decide (x ≤ y)), List.mem_iff_getElem]
  constructor
  · rintro ⟨j, hj, _, e⟩; exact ⟨j, by simpa using hj, by simpa using e⟩
  · rintro ⟨j, hj, e⟩; exact ⟨j, by simpa using hj, by simpa using hj, by simpa using e⟩
theorem uniqS_eq {l m : List Int} (h1 : m.Pairwise (· < ·)) (h2 : ∀ x, x ∈ m ↔ x ∈ l) : uniqS l = m :=
  strict_eq (uniqS_ok l).1 h1 (fun x => by rw [(uniqS_ok l).2, h2])
/-- one more, at its place -/
def insU (x : Int) : List Int → List Int
  | [] => [x]
  | y :: r => if x < y then x :: y :: r else if x = y then y :: r else y :: insU x r
theorem insU_mem (x : Int) : ∀ (l : List Int) (z : Int), z ∈ insU x l ↔ z = x ∨ z ∈ l
  | [], z => by simp [insU]
  | y :: r, z => by
    unfold insU; split
    · simp
    · split
      · rename_i h1 h2; subst h2; simp
      · simp only [List.mem_cons, insU_mem x r z]; constructor <;> (rintro (h | h | h) <;> simp [h])
theorem insU_strict (x : Int) : ∀ (l : List Int), l.Pairwise (· < ·) → (insU x l).Pairwise (· < ·)
  | [], _ => by simp [insU]
  | y :: r, h => by
    rw [List.pairwise_cons] at h
    unfold insU; split
    · rename_i h1
      refine List.pairwise_cons.2 ⟨fun z hz => ?_, List.pairwise_cons.2 h⟩
      rcases List.mem_cons.1 hz with e | e
      · omega
      · have := h.1 z e; omega
    · split
      · exact List.pairwise_cons.2 h
      · refine List.pairwise_cons.2 ⟨fun z hz => ?_, insU_strict x r h.2⟩
        rcases (insU_mem x r z).1 hz with e | e
        · omega
        · exact h.1 z e
theorem insU_uniqS (x : Int) (l : List Int) : insU x (uniqS l) = uniqS (l ++ [x]) :=
  (uniqS_eq (insU_strict x _ (uniqS_ok l).1) (fun z => by rw [insU_mem, (uniqS_ok l).2]; simp [or_comm])).symm
/-- the same, to be reckoned -/
def uniqI (l : List Int) : List Int := l.foldr insU []
theorem uniqI_ok : ∀ (l : List Int), (uniqI l).Pairwise (· < ·) ∧ ∀ z, z ∈ uniqI l ↔ z ∈ l
  | [] => by simp [uniqI]
  | x :: r => by
    obtain ⟨h1, h2⟩ := uniqI_ok r
    exact ⟨insU_strict x _ h1, fun z => by rw [show uniqI (x :: r) = insU x (uniqI r) from rfl, insU_mem, h2]; simp⟩
theorem uniqS_I (l : List Int) : uniqS l = uniqI l := uniqS_eq (uniqI_ok l).1 (uniqI_ok l).2
theorem uniqS_nil : uniqS [] = [] := uniqS_I []
theorem uniqS_of {l : List Int} (h : l.Pairwise (· < ·)) : uniqS l = l := uniqS_eq h (fun _ => Iff.rfl)
theorem uniqS_len (l : List Int) : (uniqS l).length ≤ l.length := by
  have := Lib.compact_length_le (l.mergeSort fun x y => decide (x ≤ y))
  rw [List.length_mergeSort] at this; exact this
end Go.Eng
namespace Go.Eng
set_option linter.unusedSimpArgs false

/-! ### values of functions -/
section
variable {P : Program} {cx : Cx} {st st' : St} {β : Loc} {a : Act} {w w' : World} {ops : Array Oper} {k : Kn} {c : Code}
variable {dst : Option Tmp} {ty : TypeId} {pos : String} {aft : Array Edge} {gd : Option (Nat × Bool)}
variable {α γ δ : Type}

theorem of_plain {rt : RT α} {d : α} : (SV.of rt d).plain = true := by unfold SV.of; split <;> rfl
theorem of_val {rt : RT α} {ok : Ok} {v : Value} {d : α} (h : (SV.of rt d).holds β w ok v) : rt.val w ok v d := by
  unfold SV.of at h
  cases hr : rt.raw d with
  | none => rw [hr] at h; exact h
  | some u => rw [hr] at h; have h : v = u := h; subst h; exact raw_val hr w ok

/-- a function's value of one argument: called in whatever later world with what reads as x, it hands back what reads as f x -/
def rFun (P : Program) (A : RT α) (B : RT γ) (φ : α → Prop) : RT (α → γ) where
  n := 1
  agg := false
  raw _ := none
  rep w ok cs f := ∃ g caps, cs = [.func (.func g) #[] caps] ∧ (∀ w args, (callFunc g args).run P w = .ok (.enter g args) w) ∧
    ∀ (w' : World) (ok' : Ok), (∀ b, ok b → ok' b ∧ w'.heap[b]? = w.heap[b]?) → (∀ b, ok' b → b < w'.heap.size) → ∀ x v, φ x → A.val w' ok' v x → Calls P g (#[v] ++ caps) w' (RetR (Cx.of w' ok' 0) (SV.of B (f x)))
  len := by rintro w ok cs d ⟨g, caps, rfl, _⟩; rfl
  one := by rintro w ok cs d ⟨g, caps, rfl, _⟩ v hv; simp at hv; simp [hv, Value.oneCell']
  keep := by
    rintro w w' ok ok' cs d h ⟨g, caps, rfl, h1, h2⟩
    exact ⟨g, caps, rfl, h1, fun w2 ok2 h3 => h2 w2 ok2 fun b hb => ⟨(h3 b (h b hb).1).1, (h3 b (h b hb).1).2.trans (h b hb).2⟩⟩
  scal _ := rfl
  exact_ h := by simp at h
  exact' h := by simp at h

/-- the same, of two arguments -/
def rFun2 (P : Program) (A : RT α) (D : RT δ) (B : RT γ) (φ : α → δ → Prop) : RT (α → δ → γ) where
  n := 1
  agg := false
  raw _ := none
  rep w ok cs f := ∃ g caps, cs = [.func (.func g) #[] caps] ∧ (∀ w args, (callFunc g args).run P w = .ok (.enter g args) w) ∧
    ∀ (w' : World) (ok' : Ok), (∀ b, ok b → ok' b ∧ w'.heap[b]? = w.heap[b]?) → (∀ b, ok' b → b < w'.heap.size) → ∀ x y v u, φ x y → A.val w' ok' v x → D.val w' ok' u y → Calls P g (#[v, u] ++ caps) w' (RetR (Cx.of w' ok' 0) (SV.of B (f x y)))
  len := by rintro w ok cs d ⟨g, caps, rfl, _⟩; rfl
  one := by rintro w ok cs d ⟨g, caps, rfl, _⟩ v hv; simp at hv; simp [hv, Value.oneCell']
  keep := by
    rintro w w' ok ok' cs d h ⟨g, caps, rfl, h1, h2⟩
    exact ⟨g, caps, rfl, h1, fun w2 ok2 h3 => h2 w2 ok2 fun b hb => ⟨(h3 b (h b hb).1).1, (h3 b (h b hb).1).2.trans (h b hb).2⟩⟩
  scal _ := rfl
  exact_ h := by simp at h
  exact' h := by simp at h

theorem holdsAll_keep : ∀ {as : List SV} {vs : List Value} {ok ok' : Ok}, (as.all SV.plain) = true → (∀ b, ok b → ok' b ∧ w'.heap[b]? = w.heap[b]?) → HoldsAll w ok as vs → HoldsAll w' ok' as vs
  | [], _, _, _, _, _, h => h
  | _ :: _, _, _, _, hp, hk, ⟨v, vr, h1, h2, h3⟩ => by
    simp only [List.all_cons, Bool.and_eq_true] at hp
    exact ⟨v, vr, h1, SV.plain_keep hp.1 hk h2, holdsAll_keep hp.2 hk h3⟩

theorem op_mkfun {g : FuncId} {A : RT α} {B : RT γ} {φ : α → Prop} (f : α → γ) {xs : List Operand} {as : List SV} (hent : ∀ w args, (callFunc g args).run P w = .ok (.enter g args) w)
    (h : ∀ x, φ x → Ct P g (SV.of A x :: as) (SV.of B (f x))) (ha : Args st xs as) (hp : (as.all SV.plain) = true) : Adr P cx st ⟨dst, .makeFunc (.func g) #[] xs.toArray, ty, pos, aft, gd⟩ (.tv (rFun P A B φ) f) :=
  adr_still fun st' hag β a w hi => by
    have hargs := ha.holds (cx := cx) (β := β) (a := a) (w := w) (st' := st') (fun x hx => hag.ops x (by simp [Op.operands, hx])) hi hp
    refine ⟨.func (.func g) #[] (xs.map a.eval).toArray, by simp [execOp, Instr.makeFunc], _, ⟨g, _, rfl, hent, fun w' ok' hk hok x v hx hv => ?_⟩, rfl⟩
    have := (h x hx).calls w' ok' (v :: xs.map a.eval) hok ⟨_, _, rfl, of_holds hv, holdsAll_keep hp hk hargs⟩
    simpa using this
theorem op_mkfun2 {g : FuncId} {A : RT α} {D : RT δ} {B : RT γ} {φ : α → δ → Prop} (f : α → δ → γ) {xs : List Operand} {as : List SV} (hent : ∀ w args, (callFunc g args).run P w = .ok (.enter g args) w)
    (h : ∀ x y, φ x y → Ct P g (SV.of A x :: SV.of D y :: as) (SV.of B (f x y))) (ha : Args st xs as) (hp : (as.all SV.plain) = true) : Adr P cx st ⟨dst, .makeFunc (.func g) #[] xs.toArray, ty, pos, aft, gd⟩ (.tv (rFun2 P A D B φ) f) :=
  adr_still fun st' hag β a w hi => by
    have hargs := ha.holds (cx := cx) (β := β) (a := a) (w := w) (st' := st') (fun x hx => hag.ops x (by simp [Op.operands, hx])) hi hp
    refine ⟨.func (.func g) #[] (xs.map a.eval).toArray, by simp [execOp, Instr.makeFunc], _, ⟨g, _, rfl, hent, fun w' ok' hk hok x y v u hx hv hu => ?_⟩, rfl⟩
    have := (h x y hx).calls w' ok' (v :: u :: xs.map a.eval) hok ⟨_, _, rfl, of_holds hv, _, _, rfl, of_holds hu, holdsAll_keep hp hk hargs⟩
    simpa using this

theorem fun_form {A : RT α} {B : RT γ} {φ : α → Prop} {f : α → γ} {ok : Ok} {v : Value} (h : (SV.tv (rFun P A B φ) f).holds β w ok v) : ∃ g caps, v = .func (.func g) #[] caps ∧ (∀ w args, (callFunc g args).run P w = .ok (.enter g args) w) ∧
    ∀ (w' : World) (ok' : Ok), (∀ b, ok b → ok' b ∧ w'.heap[b]? = w.heap[b]?) → (∀ b, ok' b → b < w'.heap.size) → ∀ x v, φ x → A.val w' ok' v x → Calls P g (#[v] ++ caps) w' (RetR (Cx.of w' ok' 0) (SV.of B (f x))) := by
  obtain ⟨cs, ⟨g, caps, rfl, h1, h2⟩, rfl⟩ := h
  exact ⟨g, caps, rfl, h1, h2⟩
theorem fun2_form {A : RT α} {D : RT δ} {B : RT γ} {φ : α → δ → Prop} {f : α → δ → γ} {ok : Ok} {v : Value} (h : (SV.tv (rFun2 P A D B φ) f).holds β w ok v) : ∃ g caps, v = .func (.func g) #[] caps ∧ (∀ w args, (callFunc g args).run P w = .ok (.enter g args) w) ∧
    ∀ (w' : World) (ok' : Ok), (∀ b, ok b → ok' b ∧ w'.heap[b]? = w.heap[b]?) → (∀ b, ok' b → b < w'.heap.size) → ∀ x y v u, φ x y → A.val w' ok' v x → D.val w' ok' u y → Calls P g (#[v, u] ++ caps) w' (RetR (Cx.of w' ok' 0) (SV.of B (f x y))) := by
  obtain ⟨cs, ⟨g, caps, rfl, h1, h2⟩, rfl⟩ := h
  exact ⟨g, caps, rfl, h1, h2⟩

/-- what a call leaves is taken up -/
theorem ret_take {r : SV} (hr : r.plain = true) {d : Nat} (hdn : d < cx.n) (hi : InvB cx st β a w) {v : Value} (hb : Below w.heap.size w w') (hv : r.holds noLoc w' (okR (Cx.of w (okOf cx st.heap β w) 0) w') v) : Inv cx (st.put d r) (a.put (some d) v) w' := by
  have hl := hi.later hb
  refine ⟨β, hl.put hdn (SV.plain_keep hr (fun b hb' => ⟨⟨?_, hb'.2, ?_⟩, rfl⟩) hv)⟩
  · rcases hb'.1 with h1 | h1
    · exact h1.1
    · exact .inr (.inl (Nat.le_trans hi.below.size (Cx.new_of h1)))
  · rcases hb'.1 with h1 | h1
    · exact h1.2.2
    · intro nm x hx y hy e
      have := (hi.own nm x hx y hy).2
      have h1 : w.heap.size ≤ b := Cx.new_of h1
      omega

theorem op_callf {A : RT α} {B : RT γ} {φ : α → Prop} {f : α → γ} {y x : Operand} {d : α} {ts : Array TypeId} (hf : Ev st y (.tv (rFun P A B φ) f)) (hx : Rd st x A d) (hφ : φ d) :
    Adr P cx st ⟨dst, .call { callee := .value y, args := #[x], argTypes := ts }, ty, pos, aft, gd⟩ (SV.of B (f d)) := by
  intro st' hag d' hd hdn a w ⟨β, hi⟩ Q
  obtain ⟨g, caps, h1, h2, h3⟩ := fun_form (hi.ev (hag.ev (by simp [Op.operands, Call.operands]) hf))
  have hv := (hx.tr (hag.ops x (by simp [Op.operands, Call.operands]))).val hi
  have hrun : (execOp a.eval ⟨dst, .call { callee := .value y, args := #[x], argTypes := ts }, ty, pos, aft, gd⟩).run P w = .ok (.enter g (#[a.eval x] ++ caps)) w := by
    simp [execOp, resolve, h1, Deferred.ofValue, invoke, h2]
  unfold Oper.wp
  rw [hrun, Oper.upon_enter]
  refine (h3 w _ (fun b hb => ⟨hb, rfl⟩) (fun b hb => hb.2.1) d _ hφ hv).mono ?_
  rintro e w' ⟨v, rfl, hb, hv⟩
  have hb := hb.plain (fun _ h => h)
  subst hd
  exact ret_take of_plain hdn hi hb hv
theorem op_callf2 {A : RT α} {D : RT δ} {B : RT γ} {φ : α → δ → Prop} {f : α → δ → γ} {y x z : Operand} {d : α} {e : δ} {ts : Array TypeId} (hf : Ev st y (.tv (rFun2 P A D B φ) f)) (hx : Rd st x A d) (hz : Rd st z D e) (hφ : φ d e) :
    Adr P cx st ⟨dst, .call { callee := .value y, args := #[x, z], argTypes := ts }, ty, pos, aft, gd⟩ (SV.of B (f d e)) := by
  intro st' hag d' hd hdn a w ⟨β, hi⟩ Q
  obtain ⟨g, caps, h1, h2, h3⟩ := fun2_form (hi.ev (hag.ev (by simp [Op.operands, Call.operands]) hf))
  have hv := (hx.tr (hag.ops x (by simp [Op.operands, Call.operands]))).val hi
  have hu := (hz.tr (hag.ops z (by simp [Op.operands, Call.operands]))).val hi
  have hrun : (execOp a.eval ⟨dst, .call { callee := .value y, args := #[x, z], argTypes := ts }, ty, pos, aft, gd⟩).run P w = .ok (.enter g (#[a.eval x, a.eval z] ++ caps)) w := by
    simp [execOp, resolve, h1, Deferred.ofValue, invoke, h2]
  unfold Oper.wp
  rw [hrun, Oper.upon_enter]
  refine (h3 w _ (fun b hb => ⟨hb, rfl⟩) (fun b hb => hb.2.1) d e _ _ hφ hv hu).mono ?_
  rintro e w' ⟨v, rfl, hb, hv⟩
  have hb := hb.plain (fun _ h => h)
  subst hd
  exact ret_take of_plain hdn hi hb hv

/-- a variable's own block that is written no more -/
theorem op_boxe {T : TypeId} {rt : RT α} [NM rt] {x : Operand} {z : α} (hx : Rd st x rt z) : Adr P cx st ⟨dst, .box T x, ty, pos, aft, gd⟩ (.eptr rt z) :=
  adr_later fun st' hag β a w hi => by
    have hval := (hx.tr (hag.ops x (by simp [Op.operands]))).val hi
    have hb : Below w.heap.size w (w.alloc (.cells (a.eval x).cells T)) := (Below.refl _ _).alloc (Nat.le_refl _) _
    refine ⟨_, _, by simp [execOp, Instr.box, newVar, newRow], hb, w.heap.size, 0, (a.eval x).cells.toList, rfl, ⟨.inr (.inl hi.below.size), by simp, fun nm hb hh y hy e1 => by have := (hi.own nm hb hh y hy).2; omega⟩, ?_, fun j v hj => ?_⟩
    · exact rt.keep (fun b hb' => ⟨⟨hb'.1, by simp; have := hb'.2.1; omega, hb'.2.2⟩, hb.block b hb'.2.1⟩) (rt.val_cells hval)
    · rw [World.cell?_alloc_new]; simpa using hj

theorem inv_sealp {nm i : Nat} {rt : RT α} [NM rt] {x : α} {hp : List (Nat × HB)} (hs : lookS st.slots i = some (.optr nm rt.n 0 0)) (hn : lookH st.heap nm = some ⟨rt, [x]⟩) (hsub : ∀ j s, lookH hp j = some s → lookH st.heap j = some s) (hno : lookH hp nm = none) (hi : Inv cx st a w) :
    Inv cx ⟨(i, .eptr rt x) :: st.slots, hp⟩ a w := by
  obtain ⟨β, hb⟩ := hi
  have hok : ∀ b, okOf cx st.heap β w b → okOf cx hp β w b := fun b ⟨h1, h2, h3⟩ => ⟨h1, h2, fun k h hk => h3 k h (hsub _ _ hk)⟩
  have hb' : InvB cx ⟨st.slots, hp⟩ β a w := hb.toHeap hsub
  obtain ⟨v, h1, b, o, h2, h3⟩ := hb.slots i _ hs
  refine ⟨β, hb'.below, hb'.old, hb'.defers, hb'.size, hb'.own, hb'.sep, hb'.rows, fun j s hj => ?_⟩
  simp only [lookS_cons] at hj
  split at hj
  · rename_i e1
    subst e1
    injection hj with hj; subst hj
    obtain ⟨cur, e, h4, h5, h6⟩ := own_row hb hn h2
    obtain ⟨cs, h7, h8⟩ := h6 0 x rfl
    have hown := hb.own nm _ hn _ h2
    refine ⟨v, h1, b, o, cs, by simpa using h3, ⟨.inr hown.1, hown.2, fun k h hk y hy e1 => ?_⟩, rt.keep (fun b h => ⟨hok b h, rfl⟩) h7, fun j u hj => ?_⟩
    · have : k = nm := hb.sep k nm _ _ (hsub _ _ hk) hn y (b, o) hy h2 e1
      subst this
      rw [hno] at hk; cases hk
    · have := h8 j u hj
      simp only [Nat.zero_mul, Nat.add_zero] at this
      simp [World.cell?, h4, this]
  · exact hb'.slots j s hj
theorem j_sealp (nm i : Nat) {rt : RT α} [NM rt] {x : α} (hp : List (Nat × HB)) (hs : lookS st.slots i = some (.optr nm rt.n 0 0)) (hn : lookH st.heap nm = some ⟨rt, [x]⟩) (hsub : ∀ j s, lookH hp j = some s → lookH st.heap j = some s) (hno : lookH hp nm = none)
    (h : J P cx ⟨(i, .eptr rt x) :: st.slots, hp⟩ c k) : J P cx st c k := fun a w hi => h a w (inv_sealp hs hn hsub hno hi)

/-! ### a fresh slice that is handed back: the caller may write it -/
def OwnRep (rt : RT α) (w w' : World) (ok : Ok) (xs : List α) (v : Value) : Prop :=
  (xs = [] ∧ v = .slice none 0 0) ∨ ∃ A b o cap cur e, v = .slice A xs.length cap ∧ ((xs = [] ∧ cap = 0) ∨ A = some ⟨b, o, none⟩) ∧ xs.length ≤ cap ∧ cap ≤ maxLen ∧ w.heap.size ≤ b ∧ w'.heap[b]? = some (.cells cur e (0, 0)) ∧ o + cap * rt.n ≤ cur.size ∧
    ∀ i x, xs[i]? = some x → ∃ cs, rt.rep w' (fun b' => ok b' ∧ b' ≠ b) cs x ∧ ∀ j v, cs[j]? = some v → cur[o + i * rt.n + j]? = some v

structure CtO (P : Program) (k : FuncId) (as : List SV) (rt : RT α) (xs : List α) : Prop where
  ent : ∀ w args, (callFunc k args).run P w = .ok (.enter k args) w
  calls : ∀ w ok0 vs, (∀ b, ok0 b → b < w.heap.size) → HoldsAll w ok0 as vs → Calls P k vs.toArray w (fun e w' => ∃ v, e = .returned v ∧ BelowX (fun _ => False) w.heap.size w w' ∧ OwnRep rt w w' (okR (Cx.of w ok0 0) w') xs v)

theorem hdr_own (hi : InvB cx st β a w) {nm off n : Nat} {rt : RT α} [NM rt] {xs : List α} {v : Value} (hn : lookH st.heap nm = some ⟨rt, xs⟩) (hv : hdr β w nm rt.n off n v) (hle : off + n ≤ xs.length) (hex : ∀ b, ¬ cx.ex b) : OwnRep rt cx.w0 w (okR cx w) ((xs.drop off).take n) v := by
  have hr := hi.rows nm _ hn
  have hlen : ((xs.drop off).take n).length = n := by simp; omega
  unfold hdr at hv
  cases hb : β nm with
  | none =>
    rw [hb] at hv hr
    refine .inl ⟨by rw [hv.2]; simp, hv.1⟩
  | some q =>
    obtain ⟨b, o⟩ := q
    rw [hb] at hv hr
    obtain ⟨A, cap, g1, g2, g3, g4⟩ := hv
    have hown : cx.w0.heap.size ≤ b ∧ b < w.heap.size := ⟨(hi.own nm _ hn _ hb).1.elim id (fun q => absurd q (hex b)), (hi.own nm _ hn _ hb).2⟩
    obtain ⟨cur, e, h2, h3, h4⟩ : RowRep rt w _ b o xs := hr.1 NM.no
    have hrep : ∀ i x, ((xs.drop off).take n)[i]? = some x → ∃ cs, rt.rep w (fun b' => okR cx w b' ∧ b' ≠ b) cs x ∧ ∀ j v, cs[j]? = some v → cur[o + off * rt.n + i * rt.n + j]? = some v := fun i x hx => by
      have hi' : i < n := by have := (List.getElem?_eq_some_iff.1 hx).1; omega
      rw [List.getElem?_take_of_lt hi', List.getElem?_drop] at hx
      obtain ⟨cs, h5, h6⟩ := h4 _ x hx
      refine ⟨cs, rt.keep (fun b' hb' => ⟨⟨⟨hb'.1, hb'.2.1⟩, fun e1 => hb'.2.2 nm _ hn _ hb e1.symm⟩, rfl⟩) h5, fun j u hj => ?_⟩
      have := h6 j u hj
      rw [Nat.add_mul] at this
      rw [← this]; congr 1; omega
    have hsz : (off + n) * rt.n ≤ xs.length * rt.n := Nat.mul_le_mul_right _ hle
    rcases g4 with ⟨g4, g5⟩ | ⟨g4, cur', e', fr, g5, g6⟩
    · subst g4 g5
      exact .inr ⟨A, b, o + off * rt.n, 0, cur, e, by rw [hlen, g1], .inl ⟨by simp, rfl⟩, by omega, g3, hown.1, h2, by rw [Nat.add_mul] at hsz; omega, hrep⟩
    · rw [h2] at g5
      injection g5 with g5; injection g5 with g5 _ _; subst g5
      exact .inr ⟨A, b, o + off * rt.n, cap, cur, e, by rw [hlen, g1], .inr g4, by omega, g3, hown.1, h2, by rw [Nat.add_mul] at g6; omega, hrep⟩

theorem jr_finO {fn : Func} {t nm off n : Nat} {rt : RT α} [NM rt] {xs ys : List α} (hr : fn.results = #[.tmp t]) (hs : lookS st.slots t = some (.own nm rt.n off n)) (hn : lookH st.heap nm = some ⟨rt, xs⟩) (hle : off + n ≤ xs.length) (e : (xs.drop off).take n = ys) (hex : ∀ b, ¬ cx.ex b := by intro _ h; exact h) :
    JR P cx st (.fin fn (fun e w' => ∃ v, e = .returned v ∧ BelowX cx.ex cx.w0.heap.size cx.w0 w' ∧ OwnRep rt cx.w0 w' (okR cx w') ys v)) := by
  rintro a w ⟨β, hi⟩
  obtain ⟨v, h1, h2⟩ := hi.slots t _ hs
  subst e
  refine ⟨hi.defers, v, ?_, v, rfl, hi.below, hdr_own hi hn h2 hle hex⟩
  simp [results_eq, hr, resRun, h1]
theorem jr_finO_nil {fn : Func} {t : Nat} {rt : RT α} [NM rt] {ys : List α} (hr : fn.results = #[.tmp t]) (hs : lookS st.slots t = some (.raw (.slice none 0 0))) (e : [] = ys) :
    JR P cx st (.fin fn (fun e w' => ∃ v, e = .returned v ∧ BelowX cx.ex cx.w0.heap.size cx.w0 w' ∧ OwnRep rt cx.w0 w' (okR cx w') ys v)) := by
  rintro a w ⟨β, hi⟩
  obtain ⟨v, h1, h2⟩ := hi.slots t _ hs
  subst e
  refine ⟨hi.defers, v, ?_, v, rfl, hi.below, .inl ⟨rfl, h2⟩⟩
  simp [results_eq, hr, resRun, h1]

theorem ctO_intro {k : FuncId} {fn : Func} {c : Code} {as : List SV} {rt : RT α} [NM rt] {xs : List α} (hf : P.funcs[k]? = some fn) (hb : fn.body = some c) (hn : (fn.name == "runtime.NumGoroutine") = false) {m : Nat} (hm : fn.ntmps = m) (hlen : Nat.ble as.length m = true)
    (hp : (as.all SV.plain) = true) (h : ∀ (w0 : World) (ok0 : Ok), J P (Cx.of w0 ok0 m) ⟨slots0 0 as, []⟩ c (.fin fn (fun e w' => ∃ v, e = .returned v ∧ BelowX (fun _ => False) w0.heap.size w0 w' ∧ OwnRep rt w0 w' (okR (Cx.of w0 ok0 m) w') xs v))) : CtO P k as rt xs := by
  refine ⟨callFunc_enter hf hb hn, fun w ok0 vs hok hh => ?_⟩
  have hl := holdsAll_len hh
  have hlen' : as.length ≤ m := by simpa using hlen
  refine calls_of_wp hf hb ?_
  have := h w ok0 { tmps := vs.toArray ++ Array.replicate (fn.ntmps - vs.toArray.size) undef, defers := [] } w ⟨noLoc, ?_⟩
  · exact wp_mono this fun e a w hq => hq
  · refine ⟨(Below.refl _ _).toX, hok, rfl, by simp [hm, hl]; omega, fun nm hb hh => by simp [lookH] at hh, fun nm nm' hb hb' hh => by simp [lookH] at hh, fun nm hb hh => by simp [lookH] at hh, fun i s hs => ?_⟩
    obtain ⟨j, rfl, hj⟩ := slots0_look hs
    obtain ⟨v, h1, h2⟩ := holdsAll_at hh hj
    have hjl : j < vs.length := (List.getElem?_eq_some_iff.1 h1).1
    refine ⟨v, by simp only [Nat.zero_add]; rw [Array.getElem?_append_left (by simpa using hjl)]; simpa using h1, ?_⟩
    have hps : s.plain = true := List.all_eq_true.1 hp s (List.mem_of_getElem? hj)
    exact SV.plain_keep hps (fun b hb => ⟨⟨.inl hb, hok b hb, fun nm x hx => by simp [lookH] at hx⟩, rfl⟩) h2

/-- a new row that a callee hands over -/
theorem inv_take (hi : InvB cx st β a w) {nm : Nat} {rt : RT α} [NM rt] {xs : List α} {v : Value} {d : Nat} (hdn : d < cx.n) (hf : freeS nm st.slots = true) (hn : lookH st.heap nm = none) (hb : Below w.heap.size w w') (hv : OwnRep rt w w' (okR (Cx.of w (okOf cx st.heap β w) 0) w') xs v) :
    Inv cx ⟨(d, .own nm rt.n 0 xs.length) :: st.slots, (nm, ⟨rt, xs⟩) :: st.heap⟩ (a.put (some d) v) w' := by
  have hl := hi.later hb
  have key : ∀ (l : Option (Nat × Nat)), (∀ x, l = some x → w.heap.size ≤ x.1 ∧ x.1 < w'.heap.size) → (HB.mk rt xs).holds w' (okOf cx ((nm, ⟨rt, xs⟩) :: st.heap) (fun k => if k = nm then l else β k) w') l →
      (∀ β', β' nm = l → hdr β' w' nm rt.n 0 xs.length v) → Inv cx ⟨(d, .own nm rt.n 0 xs.length) :: st.slots, (nm, ⟨rt, xs⟩) :: st.heap⟩ (a.put (some d) v) w' := by
    intro l hl1 hl2 hl3
    have hok : ∀ b, okOf cx st.heap β w b → okOf cx ((nm, ⟨rt, xs⟩) :: st.heap) (fun k => if k = nm then l else β k) w' b ∧ w'.heap[b]? = w.heap[b]? := by
      rintro b ⟨h1, h2, h3⟩
      refine ⟨⟨h1, Nat.lt_of_lt_of_le h2 hb.size, fun k hb' hk x hx => ?_⟩, hb.block b h2⟩
      rw [lookH_cons] at hk
      by_cases e1 : k = nm
      · subst e1; simp at hx; have := (hl1 x hx).1; omega
      · rw [if_neg (Ne.symm e1)] at hk
        simp only [if_neg e1] at hx
        exact h3 k hb' hk x hx
    have hbase : InvB cx ⟨st.slots, (nm, ⟨rt, xs⟩) :: st.heap⟩ (fun k => if k = nm then l else β k) a w' := by
      refine ⟨hl.below, hl.old, hl.defers, hl.size, fun k hb' hk x hx => ?_, fun k k' h1 h2 hk hk' x y hx hy hxy => ?_, fun k hb' hk => ?_, fun i s hs => ?_⟩
      · by_cases e1 : k = nm
        · subst e1; simp at hx; have := hl1 x hx; exact ⟨.inl (Nat.le_trans hi.below.size this.1), this.2⟩
        · rw [lookH_cons, if_neg (Ne.symm e1)] at hk
          simp only [if_neg e1] at hx
          exact hl.own k hb' hk x hx
      · rw [lookH_cons] at hk hk'
        by_cases e1 : k = nm <;> by_cases e2 : k' = nm
        · rw [e1, e2]
        · subst e1
          rw [if_neg (Ne.symm e2)] at hk'
          simp only [if_pos] at hx
          simp only [if_neg e2] at hy
          have g1 := (hl1 x hx).1
          have g2 := (hi.own k' _ hk' y hy).2
          omega
        · subst e2
          rw [if_neg (Ne.symm e1)] at hk
          simp only [if_pos] at hy
          simp only [if_neg e1] at hx
          have g1 := (hl1 y hy).1
          have g2 := (hi.own k _ hk x hx).2
          omega
        · rw [if_neg (Ne.symm e1)] at hk
          rw [if_neg (Ne.symm e2)] at hk'
          simp only [if_neg e1] at hx
          simp only [if_neg e2] at hy
          exact hi.sep k k' _ _ hk hk' x y hx hy hxy
      · rw [lookH_cons] at hk
        by_cases e1 : k = nm
        · subst e1
          rw [if_pos rfl] at hk
          injection hk with hk; subst hk
          simp only [if_pos]; exact hl2
        · rw [if_neg (Ne.symm e1)] at hk
          simp only [if_neg e1]
          exact HB.keep hok (fun x hx => hb.block _ (hi.own k hb' hk x hx).2) (hi.rows k hb' hk)
      · obtain ⟨u, h1, h2⟩ := hi.slots i s hs
        have hfree := freeS_look hf hs
        refine ⟨u, h1, SV.keep hok (fun k hk => ?_) h2⟩
        have hne : k ≠ nm := by rintro rfl; rw [hfree] at hk; cases hk
        refine ⟨by simp [hne], fun b o hbo cur e' fr hcur => ⟨cur, e', fr, ?_, rfl⟩⟩
        rw [hb.block b (InvB.cell_lt hcur)]; exact hcur
    exact ⟨_, hbase.put hdn (hl3 _ (by simp))⟩
  rcases hv with ⟨rfl, rfl⟩ | ⟨A, b, o, cap, cur, e, rfl, hA, h1, h2, h3, h4, h5, h6⟩
  · exact key none (fun x h => by cases h) rfl (fun β' h => by simp [hdr, h])
  · have hbs := InvB.cell_lt h4
    refine key (some (b, o)) (fun x h => by injection h with h; subst h; exact ⟨h3, hbs⟩) ⟨fun _ => ⟨cur, e, h4, ?_, fun i x hx => ?_⟩, fun hm => by rw [show rt.mp = false from NM.no] at hm; cases hm⟩ (fun β' h => ?_)
    · have := Nat.mul_le_mul_right rt.n h1
      simp only; omega
    · obtain ⟨cs, g1, g2⟩ := h6 i x hx
      refine ⟨cs, rt.keep (fun b' hb' => ⟨⟨?_, hb'.1.2, fun k hb2 hk y hy e1 => ?_⟩, rfl⟩) g1, g2⟩
      · rcases hb'.1.1 with h | h
        · exact h.1
        · exact .inr (.inl (Nat.le_trans hi.below.size (Cx.new_of h)))
      · rw [lookH_cons] at hk
        by_cases e2 : k = nm
        · subst e2; simp at hy; subst hy; exact hb'.2 e1.symm
        · rw [if_neg (Ne.symm e2)] at hk
          simp only [if_neg e2] at hy
          rcases hb'.1.1 with h | h
          · exact h.2.2 k hb2 hk y hy e1
          · have := (hi.own k hb2 hk y hy).2
            have h : w.heap.size ≤ b' := Cx.new_of h
            omega
    · simp only [hdr, h]
      refine ⟨A, cap, rfl, h1, h2, ?_⟩
      rcases hA with ⟨hA, hc⟩ | hA
      · subst hA; exact .inl ⟨rfl, hc⟩
      · exact .inr ⟨by rw [hA]; simp, cur, e, _, h4, by rw [Nat.zero_add]; exact h5⟩

theorem op_callO {k : FuncId} {as : List SV} {rt : RT α} [NM rt] {ys : List α} {xs : List Operand} {ts : Array TypeId} {d : Nat} (h : CtO P k as rt ys) (ha : Args st xs as) (hp : (as.all SV.plain) = true) (hd : Nat.blt d cx.n = true) (hf : freeS d st.slots = true) (hn : lookH st.heap d = none) :
    OS P cx ⟨some d, .call { callee := .value (.func k), args := xs.toArray, argTypes := ts }, ty, pos, aft, gd⟩ st ⟨(d, .own d rt.n 0 ys.length) :: st.slots, (d, ⟨rt, ys⟩) :: st.heap⟩ := by
  rintro a w ⟨β, hi⟩ Q
  have hargs := ha.holds (cx := cx) (β := β) (a := a) (w := w) (st' := st) (fun x hx => rfl) hi hp
  have hrun : (execOp a.eval ⟨some d, .call { callee := .value (.func k), args := xs.toArray, argTypes := ts }, ty, pos, aft, gd⟩).run P w = .ok (.enter k (xs.map a.eval).toArray) w := by
    simp [execOp, resolve, Act.eval, Deferred.ofValue, invoke, h.ent]
  unfold Oper.wp
  rw [hrun, Oper.upon_enter]
  refine (h.calls w (okOf cx st.heap β w) _ (fun b hb => hb.2.1) hargs).mono ?_
  rintro e w' ⟨v, rfl, hb, hv⟩
  have hb := hb.plain (fun _ h => h)
  exact inv_take hi (by simpa using hd) hf hn hb hv
end
end Go.Eng
namespace Go.Eng
set_option linter.unusedSimpArgs false
section
variable {P : Program} {cx : Cx} {st st' : St} {β : Loc} {a : Act} {w w' : World} {ops : Array Oper} {k : Kn} {c : Code}
variable {dst : Option Tmp} {ty : TypeId} {pos : String} {aft : Array Edge} {gd : Option (Nat × Bool)}
variable {α : Type}

/-- a slice written out, as a row of the call's own -/
theorem op_obslice {T e : TypeId} {rt : RT α} [NM rt] {ps : List (Nat × Operand)} {ds : List α} {z : α} {n d : Nat} (ht : P.underlying T = some (.slice e)) (he : Ty P e rt) (hz : TyZero P e rt z) (hn : ps.length = n) (hr : RowRd st rt 0 ps ds) (h1 : Nat.ble 1 rt.n = true) (hb : Nat.ble (n * rt.n) 16777216 = true)
    (hd : Nat.blt d cx.n = true) (hf : freeS d st.slots = true) (hno : lookH st.heap d = none) :
    OS P cx ⟨some d, .buildSlice T n ps.toArray, ty, pos, aft, gd⟩ st ⟨(d, .own d rt.n 0 ds.length) :: st.slots, (d, ⟨rt, ds⟩) :: st.heap⟩ := by
  rintro a w ⟨β, hi⟩ Q
  subst hn
  have hb' : ps.length * rt.n ≤ 16777216 := by simpa using hb
  obtain ⟨cells, h2, h3, h4⟩ := run_bslice (P := P) ht he hz hr (fun x hx => rfl) hi hb'
  have hl := hr.len
  have h1' : 1 ≤ rt.n := by simpa using h1
  have hpl : ps.length ≤ maxLen := by
    have : ps.length ≤ ps.length * rt.n := Nat.le_mul_of_pos_right _ h1'
    simp only [maxLen]; omega
  have hrun : (execOp a.eval ⟨some d, .buildSlice T ps.length ps.toArray, ty, pos, aft, gd⟩).run P w = .ok (.value (.slice (some ⟨w.heap.size, 0, none⟩) ps.length ps.length)) (w.alloc (.cells cells e)) := by
    change ((Instr.buildSlice T ps.length (ps.toArray.map fun p => (p.1, a.eval p.2))) >>= fun v => pure (Next.value v)).run P w = _
    rw [Sem.run_bind, h2]; rfl
  unfold Oper.wp
  rw [hrun, Oper.upon_value]
  have := hi.alloc (e := e) hf hno (by rw [hl, h3]; exact Nat.le_refl _) h4
  refine ⟨_, this.put (by simpa using hd) ?_⟩
  simp only [SV.holds, hdr, if_pos]
  exact ⟨_, ps.length, by rw [hl], by omega, hpl, .inr ⟨by simp, cells, e, _, heap_alloc_new w _, by rw [h3]; simp⟩⟩

/-- a call that is lent rows of the caller's own and hands back a fresh slice of plain elements -/
theorem op_callbF {k : FuncId} {as : List SV} {rt : RT α} {ys : List α} {xs : List Operand} {ts : Array TypeId} (h : CtO P k as rt ys) (ha : ArgsB st xs as) (hr : FlatRT rt) :
    Adr P cx st ⟨dst, .call { callee := .value (.func k), args := xs.toArray, argTypes := ts }, ty, pos, aft, gd⟩ (.tv (rSlice rt) ys) := by
  intro st' hag d hd hdn a w ⟨β, hi⟩ Q
  have hargs := ha.holds (cx := cx) (β := β) (a := a) (w := w) (st' := st') (fun x hx => hag.ops x (by simp [Op.operands, Call.operands, hx])) (fun x hx s nm he hf => hag.look (by simp [Op.operands, Call.operands, hx]) he hf) hi
  have hrun : (execOp a.eval ⟨dst, .call { callee := .value (.func k), args := xs.toArray, argTypes := ts }, ty, pos, aft, gd⟩).run P w = .ok (.enter k (xs.map a.eval).toArray) w := by
    simp [execOp, resolve, Act.eval, Deferred.ofValue, invoke, h.ent]
  unfold Oper.wp
  rw [hrun, Oper.upon_enter]
  refine (h.calls w _ _ (fun b hb => hb) hargs).mono ?_
  rintro e w' ⟨v, rfl, hb, hv⟩
  have hb := hb.plain (fun _ h => h)
  subst hd
  refine ⟨β, (hi.later hb).put hdn ?_⟩
  rcases hv with ⟨rfl, rfl⟩ | ⟨A, b, o, cap, cur, e, rfl, hA, h1, h2, h3, h4, h5, h6⟩
  · exact nil_val
  · refine ⟨_, ⟨A, cap, rfl, h1, h2, fun hne => ?_⟩, by simp [rSlice]⟩
    rcases hA with ⟨hA, _⟩ | hA
    · exact absurd hA hne
    · refine ⟨b, o, hA, ⟨.inr (.inl (Nat.le_trans hi.below.size h3)), InvB.cell_lt h4, fun nm hb2 hk x hx e1 => by have := (hi.own nm hb2 hk x hx).2; omega⟩, fun i x hx => ?_⟩
      obtain ⟨cs, g1, g2⟩ := h6 i x hx
      exact ⟨cs, hr g1, fun j u hj => by simp [World.cell?, h4, g2 j u hj]⟩
/-- a fresh slice, as a plain one -/
theorem CtO.ct {k : FuncId} {as : List SV} {rt : RT α} {ys : List α} (h : CtO P k as rt ys) : Ct P k as (.tv (rSlice rt) ys) :=
  ⟨h.ent, fun w ok0 vs hok hh => (h.calls w ok0 vs hok hh).mono (by
    rintro e w' ⟨v, rfl, hb, hv⟩
    refine ⟨v, rfl, hb, ?_⟩
    rcases hv with ⟨rfl, rfl⟩ | ⟨A, b, o, cap, cur, e, rfl, hA, h1, h2, h3, h4, h5, h6⟩
    · exact nil_val
    · refine ⟨_, ⟨A, cap, rfl, h1, h2, fun hne => ?_⟩, by simp [rSlice]⟩
      rcases hA with ⟨hA, _⟩ | hA
      · exact absurd hA hne
      · refine ⟨b, o, hA, ⟨.inr (.inl h3), InvB.cell_lt h4⟩, fun i x hx => ?_⟩
        obtain ⟨cs, g1, g2⟩ := h6 i x hx
        exact ⟨cs, rt.keep (fun b hb => ⟨hb.1, rfl⟩) g1, fun j u hj => by simp [World.cell?, h4, g2 j u hj]⟩)⟩
end
end Go.Eng
namespace Go.Eng
set_option linter.unusedSimpArgs false
section
variable {P : Program} {cx : Cx} {st st' : St} {β : Loc} {a : Act} {w w' : World} {ops : Array Oper} {k : Kn} {c : Code}
variable {dst : Option Tmp} {ty : TypeId} {pos : String} {aft : Array Edge} {gd : Option (Nat × Bool)}

theorem op_shl {x y : Operand} {t yt : TypeId} {k ky : IntKind} {p q r : Int} (hx : Ev st x (.raw (.int k p))) (hy : Ev st y (.raw (.int ky q))) (h0 : 0 ≤ q) (hr : k.wrap (p * 2 ^ (min q.toNat k.bits)) = r) :
    Adr P cx st ⟨dst, .binOp .shl t x y yt, ty, pos, aft, gd⟩ (.raw (.int k r)) :=
  adr_still fun st' hag β a w hi => ⟨.int k r, by
    have h1 := hi.raw (hag.ev (by simp [Op.operands]) hx)
    have h2 := hi.raw (hag.ev (by simp [Op.operands]) hy)
    have h3 : ¬ q < 0 := by omega
    simp [execOp, h1, h2, eqGuard_at_int, binOp_shl, Op.shift, h3, hr], rfl⟩
theorem op_shr {x y : Operand} {t yt : TypeId} {k ky : IntKind} {p q r : Int} (hx : Ev st x (.raw (.int k p))) (hy : Ev st y (.raw (.int ky q))) (h0 : 0 ≤ q) (hr : p.fdiv (2 ^ (min q.toNat k.bits)) = r) :
    Adr P cx st ⟨dst, .binOp .shr t x y yt, ty, pos, aft, gd⟩ (.raw (.int k r)) :=
  adr_still fun st' hag β a w hi => ⟨.int k r, by
    have h1 := hi.raw (hag.ev (by simp [Op.operands]) hx)
    have h2 := hi.raw (hag.ev (by simp [Op.operands]) hy)
    have h3 : ¬ q < 0 := by omega
    simp [execOp, h1, h2, eqGuard_at_int, binOp_shr, Op.shift, h3, hr], rfl⟩
/-- & | ^ &^ -/
def bI (op : BinOp) (k : IntKind) (x y : Int) : Int :=
  let a := BitVec.ofInt k.bits x
  let b := BitVec.ofInt k.bits y
  k.wrap ((match op with | .and => a &&& b | .or => a ||| b | .xor => a ^^^ b | _ => a &&& ~~~b).toNat : Int)
theorem op_and {x y : Operand} {t yt : TypeId} {k : IntKind} {p q r : Int} (hx : Ev st x (.raw (.int k p))) (hy : Ev st y (.raw (.int k q))) (hr : bI .and k p q = r) :
    Adr P cx st ⟨dst, .binOp .and t x y yt, ty, pos, aft, gd⟩ (.raw (.int k r)) :=
  adr_still fun st' hag β a w hi => ⟨.int k r, by
    have h1 := hi.raw (hag.ev (by simp [Op.operands]) hx)
    have h2 := hi.raw (hag.ev (by simp [Op.operands]) hy)
    subst hr
    simp [execOp, h1, h2, eqGuard_at_int, binOp_and, Op.intBits, bI], rfl⟩
theorem op_or {x y : Operand} {t yt : TypeId} {k : IntKind} {p q r : Int} (hx : Ev st x (.raw (.int k p))) (hy : Ev st y (.raw (.int k q))) (hr : bI .or k p q = r) :
    Adr P cx st ⟨dst, .binOp .or t x y yt, ty, pos, aft, gd⟩ (.raw (.int k r)) :=
  adr_still fun st' hag β a w hi => ⟨.int k r, by
    have h1 := hi.raw (hag.ev (by simp [Op.operands]) hx)
    have h2 := hi.raw (hag.ev (by simp [Op.operands]) hy)
    subst hr
    simp [execOp, h1, h2, eqGuard_at_int, binOp_or, Op.intBits, bI], rfl⟩
theorem op_xor {x y : Operand} {t yt : TypeId} {k : IntKind} {p q r : Int} (hx : Ev st x (.raw (.int k p))) (hy : Ev st y (.raw (.int k q))) (hr : bI .xor k p q = r) :
    Adr P cx st ⟨dst, .binOp .xor t x y yt, ty, pos, aft, gd⟩ (.raw (.int k r)) :=
  adr_still fun st' hag β a w hi => ⟨.int k r, by
    have h1 := hi.raw (hag.ev (by simp [Op.operands]) hx)
    have h2 := hi.raw (hag.ev (by simp [Op.operands]) hy)
    subst hr
    simp [execOp, h1, h2, eqGuard_at_int, binOp_xor, Op.intBits, bI], rfl⟩
theorem op_andNot {x y : Operand} {t yt : TypeId} {k : IntKind} {p q r : Int} (hx : Ev st x (.raw (.int k p))) (hy : Ev st y (.raw (.int k q))) (hr : bI .andNot k p q = r) :
    Adr P cx st ⟨dst, .binOp .andNot t x y yt, ty, pos, aft, gd⟩ (.raw (.int k r)) :=
  adr_still fun st' hag β a w hi => ⟨.int k r, by
    have h1 := hi.raw (hag.ev (by simp [Op.operands]) hx)
    have h2 := hi.raw (hag.ev (by simp [Op.operands]) hy)
    subst hr
    simp [execOp, h1, h2, eqGuard_at_int, binOp_andNot, Op.intBits, bI], rfl⟩
theorem op_neq_bool {x y : Operand} {t yt : TypeId} {p q : Bool} (ht : P.underlying t = some .bool) (hx : Ev st x (.raw (.bool p))) (hy : Ev st y (.raw (.bool q))) :
    Adr P cx st ⟨dst, .binOp .neq t x y yt, ty, pos, aft, gd⟩ (.raw (.bool (p != q))) :=
  adr_still fun st' hag β a w hi => ⟨_, by
    have h1 := hi.raw (hag.ev (by simp [Op.operands]) hx)
    have h2 := hi.raw (hag.ev (by simp [Op.operands]) hy)
    simp [execOp, h1, h2, eqGuard_at_bool, run_neq_bool _ _ _ _ ht]; cases p <;> cases q <;> rfl, rfl⟩
end

/-! ### on natural numbers below 2^64 -/
theorem bv64 {n : Nat} (h : n < 18446744073709551616) : (BitVec.ofInt 64 (n : Int)).toNat = n := by
  rw [BitVec.ofInt_natCast, BitVec.toNat_ofNat]; exact Nat.mod_eq_of_lt (by omega)
theorem wu {n : Nat} (h : n < 18446744073709551616) : IntKind.u64.wrap (n : Int) = (n : Int) := wu64 (by omega)
theorem wu_mod (n : Nat) : IntKind.u64.wrap (n : Int) = ((n % 18446744073709551616 : Nat) : Int) := by rw [IntKind.wrap_u64]; omega
theorem and_mask {n : Nat} (h : n < 18446744073709551616) : bI .and .u64 (n : Int) 4294967295 = ((n % 4294967296 : Nat) : Int) := by
  have h2 : (BitVec.ofInt 64 4294967295).toNat = 4294967295 := by decide
  show IntKind.u64.wrap ((BitVec.ofInt 64 (n : Int) &&& BitVec.ofInt 64 4294967295).toNat : Int) = _
  rw [BitVec.toNat_and, bv64 h, h2, show (4294967295 : Nat) = 2 ^ 32 - 1 from rfl, Nat.and_two_pow_sub_one_eq_mod]
  exact wu (Nat.lt_of_lt_of_le (Nat.mod_lt _ (by decide)) (by decide))
theorem or_add {x b s : Nat} (hb : b < 2 ^ s) (h : x * 2 ^ s + b < 18446744073709551616) : bI .or .u64 ((x * 2 ^ s : Nat) : Int) (b : Int) = ((x * 2 ^ s + b : Nat) : Int) := by
  show IntKind.u64.wrap ((BitVec.ofInt 64 ((x * 2 ^ s : Nat) : Int) ||| BitVec.ofInt 64 (b : Int)).toNat : Int) = _
  rw [BitVec.toNat_or, bv64 (by omega), bv64 (by omega)]
  have := Nat.two_pow_add_eq_or_of_lt hb x
  rw [Nat.mul_comm x, ← this]
  rw [Nat.mul_comm] at h
  exact wu h
theorem shl_nat {n s : Nat} (hs : s ≤ 64) : IntKind.u64.wrap ((n : Int) * 2 ^ (min ((s : Int)).toNat IntKind.u64.bits)) = ((n * 2 ^ s % 18446744073709551616 : Nat) : Int) := by
  have : min ((s : Int)).toNat IntKind.u64.bits = s := by simp [IntKind.bits]; omega
  rw [this, ← wu_mod]
  congr 1
theorem shr_nat {n s : Nat} (hs : s ≤ 64) : (n : Int).fdiv (2 ^ (min ((s : Int)).toNat IntKind.u64.bits)) = ((n / 2 ^ s : Nat) : Int) := by
  have : min ((s : Int)).toNat IntKind.u64.bits = s := by simp [IntKind.bits]; omega
  rw [this, Int.fdiv_eq_ediv_of_nonneg _ (by exact Int.pow_nonneg (by decide))]
  simp
theorem quo_nat {n m : Nat} (h : n < 18446744073709551616) : IntKind.u64.wrap ((n : Int).tdiv (m : Int)) = ((n / m : Nat) : Int) := by
  rw [Int.tdiv_eq_ediv_of_nonneg (by omega), ← Int.natCast_ediv]
  exact wu (Nat.lt_of_le_of_lt (Nat.div_le_self _ _) h)
theorem rem_nat {n m : Nat} : (n : Int).tmod (m : Int) = ((n % m : Nat) : Int) := by
  rw [Int.tmod_eq_emod_of_nonneg (by omega)]; simp
theorem mul_nat {n m : Nat} (h : n * m < 18446744073709551616) : IntKind.u64.wrap ((n : Int) * (m : Int)) = ((n * m : Nat) : Int) := by
  rw [← Int.natCast_mul]; exact wu h
theorem add_nat {n m : Nat} (h : n + m < 18446744073709551616) : IntKind.u64.wrap ((n : Int) + (m : Int)) = ((n + m : Nat) : Int) := by
  rw [← Int.natCast_add]; exact wu h
theorem sub_nat {n m : Nat} (h : m ≤ n) (hn : n < 18446744073709551616) : IntKind.u64.wrap ((n : Int) - (m : Int)) = ((n - m : Nat) : Int) := by
  rw [← Int.ofNat_sub h]; exact wu (by omega)
end Go.Eng
