import Derived.Test.YthfhekohlmboiaaEng6
import Derived.Laws.MakeOwn
import Derived.Laws.Tables
namespace Go.Eng
set_option linter.unusedSimpArgs false

/-! ### the call's own rows: made, written, appended to -/
section
variable {P : Program} {cx : Cx} {st st' : St} {β : Loc} {a : Act} {w w' : World} {ops : Array Oper} {k : Kn} {c : Code}
variable {dst : Option Tmp} {ty : TypeId} {pos : String} {aft : Array Edge} {gd : Option (Nat × Bool)}

theorem raw_val {α : Type} {rt : RT α} {d : α} {v : Value} (h : rt.raw d = some v) (w : World) (ok : Ok) : rt.val w ok v d := by
  have h1 := rt.exact' (w := w) (ok := ok) h
  exact ⟨[v], h1, by simp [(rt.exact_ h h1).2]⟩

/-- the operand reads as d -/
inductive Rd {α : Type} (st : St) (x : Operand) (rt : RT α) (d : α) : Prop
  | tv (h : Ev st x (.tv rt d))
  | raw {v : Value} (h : Ev st x (.raw v)) (hv : rt.raw d = some v)
  | lit {v : Value} (h : Ev st x (.raw v)) (hv : ∀ w ok, rt.val w ok v d)

theorem Rd.val {α : Type} {x : Operand} {rt : RT α} {d : α} (h : Rd st x rt d) (hi : InvB cx st β a w) : rt.val w (okOf cx st.heap β w) (a.eval x) d := by
  cases h with
  | tv h => exact hi.ev h
  | raw h hv => rw [hi.raw h]; exact raw_val hv _ _
  | lit h hv => rw [hi.raw h]; exact hv _ _
theorem Rd.tr {α : Type} {x : Operand} {rt : RT α} {d : α} (h : Rd st x rt d) (e : evS st' x = evS st x) : Rd st' x rt d := by
  cases h with
  | tv h => exact .tv (h.tr e)
  | raw h hv => exact .raw (h.tr e) hv
  | lit h hv => exact .lit (h.tr e) hv

/-- a row's own block is written -/
theorem InvB.setRow (hi : InvB cx st β a w) {nm b o o' : Nat} {α α' : Type} {rt : RT α} [NM rt] {rt' : RT α'} [NM rt'] {xs : List α} {xs' : List α'} {cur cur' : Array Value} {e : TypeId} (hn : lookH st.heap nm = some ⟨rt, xs⟩) (hb : β nm = some (b, o)) (hc : w.heap[b]? = some (.cells cur e (0, 0)))
    (hs : cur'.size = cur.size) (hf : o' = o ∨ freeS nm st.slots = true) (hlen : o' + xs'.length * rt'.n ≤ cur'.size)
    (hx : ∀ i x, xs'[i]? = some x → ∃ cs, rt'.rep w (okOf cx st.heap β w) cs x ∧ ∀ j v, cs[j]? = some v → cur'[o' + i * rt'.n + j]? = some v) :
    InvB cx ⟨st.slots, (nm, ⟨rt', xs'⟩) :: st.heap⟩ (fun k => if k = nm then some (b, o') else β k) a (w.setRow b cur') := by
  have hown := hi.own nm _ hn _ hb
  have hothers : ∀ k hb', lookH st.heap k = some hb' → k ≠ nm → ∀ x, β k = some x → x.1 ≠ b := fun k hb' hk hne x hx e1 => hne (hi.sep k nm _ _ hk hn x (b, o) hx hb e1)
  have hok : ∀ b', okOf cx st.heap β w b' → okOf cx ((nm, ⟨rt', xs'⟩) :: st.heap) (fun k => if k = nm then some (b, o') else β k) (w.setRow b cur') b' ∧ (w.setRow b cur').heap[b']? = w.heap[b']? := by
    rintro b' ⟨h1, h2, h3⟩
    have hne : b' ≠ b := fun e1 => h3 nm _ hn _ hb e1.symm
    refine ⟨⟨h1, by simpa using h2, fun k hb' hk x hx => ?_⟩, setRow_other _ _ _ _ hne⟩
    rw [lookH_cons] at hk
    by_cases e1 : k = nm
    · subst e1; simp at hx; subst hx; exact fun e2 => hne e2.symm
    · rw [if_neg (Ne.symm e1)] at hk
      simp only [if_neg e1] at hx
      exact h3 k hb' hk x hx
  have hsame : ∀ (b1 : Nat) (cur1 : Array Value) (e1 : TypeId) (fr1 : Nat × Nat), w.heap[b1]? = some (Obj.cells cur1 e1 fr1) → ∃ (cur2 : Array Value) (e2 : TypeId) (fr2 : Nat × Nat), (w.setRow b cur').heap[b1]? = some (Obj.cells cur2 e2 fr2) ∧ cur2.size = cur1.size := by
    intro b1 cur1 e1 fr1 h1
    by_cases hbb : b1 = b
    · subst hbb
      rw [hc] at h1
      injection h1 with h1
      injection h1 with h1 _ _
      subst h1
      exact ⟨cur', _, _, setRow_heap _ _ _ _ _ _ hc, hs⟩
    · exact ⟨cur1, e1, fr1, by rw [setRow_other _ _ _ _ hbb]; exact h1, rfl⟩
  refine ⟨⟨hi.below.os, hi.below.tape, hi.below.output, by simpa using hi.below.size, fun k hk hx => ?_, hi.below.drawn⟩, hi.old, hi.defers, hi.size, fun k hb' hk x hx => ?_, fun k k' h1 h2 hk hk' x y hx hy hxy => ?_, fun k hb' hk => ?_, fun i s hs' => ?_⟩
  · have h0 : k ≠ b := by
      rintro rfl
      rcases hown.1 with q | q
      · omega
      · exact hx q
    rw [setRow_other _ _ _ _ h0]; exact hi.below.blockX k hk hx
  · by_cases e1 : k = nm
    · subst e1; simp at hx; subst hx; exact ⟨hown.1, by simpa using hown.2⟩
    · rw [lookH_cons, if_neg (Ne.symm e1)] at hk
      simp only [if_neg e1] at hx
      have := hi.own k hb' hk x hx
      exact ⟨this.1, by simpa using this.2⟩
  · rw [lookH_cons] at hk hk'
    by_cases e1 : k = nm <;> by_cases e2 : k' = nm
    · rw [e1, e2]
    · subst e1
      rw [if_neg (Ne.symm e2)] at hk'
      simp at hx; subst hx
      simp only [if_neg e2] at hy
      exact absurd hxy.symm (hothers k' _ hk' e2 y hy)
    · subst e2
      rw [if_neg (Ne.symm e1)] at hk
      simp at hy; subst hy
      simp only [if_neg e1] at hx
      exact absurd hxy (hothers k _ hk e1 x hx)
    · rw [if_neg (Ne.symm e1)] at hk
      rw [if_neg (Ne.symm e2)] at hk'
      simp only [if_neg e1] at hx
      simp only [if_neg e2] at hy
      exact hi.sep k k' _ _ hk hk' x y hx hy hxy
  · rw [lookH_cons] at hk
    by_cases e1 : k = nm
    · subst e1
      rw [if_pos rfl] at hk
      injection hk with hk; subst hk
      simp only [if_pos]
      exact ⟨fun _ => ⟨cur', e, setRow_heap _ _ _ _ _ _ hc, hlen, fun i x hix => let ⟨cs, h1, h2⟩ := hx i x hix; ⟨cs, rt'.keep hok h1, h2⟩⟩, fun hm => by rw [show rt'.mp = false from NM.no] at hm; cases hm⟩
    · rw [if_neg (Ne.symm e1)] at hk
      simp only [if_neg e1]
      exact HB.keep hok (fun x hx => setRow_other _ _ _ _ (hothers k _ hk e1 x hx)) (hi.rows k hb' hk)
  · obtain ⟨v, h1, h2⟩ := hi.slots i s hs'
    refine ⟨v, h1, SV.keep hok (fun k hk => ?_) h2⟩
    refine ⟨?_, fun b1 o1 _ cur1 e1 fr1 h3 => hsame b1 cur1 e1 fr1 h3⟩
    by_cases e1 : k = nm
    · subst e1
      simp only [if_pos]
      rcases hf with hf | hf
      · rw [hf, hb]
      · have := freeS_look hf hs'
        rw [this] at hk; cases hk
    · simp only [if_neg e1]

/-! ### new blocks -/
theorem run_zeroValue' {α : Type} {T : TypeId} {rt : RT α} {z : α} (h : TyZero P T rt z) (w : World) : ∃ v, (zeroValue T).run P w = .ok v w ∧ ∀ w ok, rt.val w ok v z := by
  obtain ⟨i, v, h1, h2, h3⟩ := h
  exact ⟨v, by simp [zeroValue, typeInfo, h1, h2], h3⟩

theorem row1 {α : Type} {rt : RT α} {ok : Ok} {v : Value} {d : α} (h : rt.val w ok v d) : [d].length * rt.n ≤ v.cells.size ∧ ∀ i x, [d][i]? = some x → ∃ c, rt.rep w ok c x ∧ ∀ j u, c[j]? = some u → v.cells[i * rt.n + j]? = some u := by
  have h1 := rt.val_cells h
  have hl := rt.len h1
  refine ⟨by simp at hl ⊢; omega, fun i x hx => ?_⟩
  cases i with
  | zero =>
    simp at hx; subst hx
    exact ⟨v.cells.toList, h1, fun j u hj => by simpa using hj⟩
  | succ i => simp at hx

theorem op_alloc {α : Type} {T : TypeId} {rt : RT α} [NM rt] (z : α) {d : Nat} (hz : TyZero P T rt z) (hd : Nat.blt d cx.n = true) (hf : freeS d st.slots = true) (hn : lookH st.heap d = none) :
    OS P cx ⟨some d, .alloc T, ty, pos, aft, gd⟩ st ⟨(d, .optr d rt.n 0 0) :: st.slots, (d, ⟨rt, [z]⟩) :: st.heap⟩ := by
  rintro a w ⟨β, hi⟩ Q
  obtain ⟨v, hv, hval⟩ := run_zeroValue' hz w
  have hrun : (execOp a.eval ⟨some d, .alloc T, ty, pos, aft, gd⟩).run P w = .ok (.value (.pointer (some ⟨w.heap.size, 0, none⟩))) (w.alloc (.cells v.cells T)) := by
    simp [execOp, Instr.alloc, hv, newVar, newRow]
  unfold Oper.wp
  rw [hrun, Oper.upon_value]
  obtain ⟨h1, h2⟩ := row1 (hval w (okOf cx st.heap β w))
  have := hi.alloc (e := T) hf hn h1 h2
  exact ⟨_, this.put (by simpa using hd) ⟨w.heap.size, 0, by simp, by simp⟩⟩

theorem op_box {α : Type} {T : TypeId} {rt : RT α} [NM rt] {x : Operand} {z : α} {d : Nat} (hx : Rd st x rt z) (hd : Nat.blt d cx.n = true) (hf : freeS d st.slots = true) (hn : lookH st.heap d = none) :
    OS P cx ⟨some d, .box T x, ty, pos, aft, gd⟩ st ⟨(d, .optr d rt.n 0 0) :: st.slots, (d, ⟨rt, [z]⟩) :: st.heap⟩ := by
  rintro a w ⟨β, hi⟩ Q
  have hval := hx.val hi
  have hrun : (execOp a.eval ⟨some d, .box T x, ty, pos, aft, gd⟩).run P w = .ok (.value (.pointer (some ⟨w.heap.size, 0, none⟩))) (w.alloc (.cells (a.eval x).cells T)) := by
    simp [execOp, Instr.box, newVar, newRow]
  unfold Oper.wp
  rw [hrun, Oper.upon_value]
  obtain ⟨h1, h2⟩ := row1 hval
  have := hi.alloc (e := T) hf hn h1 h2
  exact ⟨_, this.put (by simpa using hd) ⟨w.heap.size, 0, by simp, by simp⟩⟩

/-! ### parts laid side by side -/
theorem fold_splice : ∀ (vs : List Value) (j off : Nat) (cs : Array Value), off + j + vs.length ≤ cs.size →
    ((vs.zipIdx j).foldl (fun (cs : Array Value) (p : Value × Nat) => cs.setIfInBounds (off + p.2) p.1) cs) = (cs.toList.take (off + j) ++ vs ++ cs.toList.drop (off + j + vs.length)).toArray
  | [], j, off, cs, _ => by simp
  | v :: r, j, off, cs, h => by
    simp only [List.zipIdx_cons, List.foldl_cons]
    simp only [List.length_cons] at h
    rw [fold_splice r (j + 1) off _ (by simp; omega)]
    congr 1
    have hlt : off + j < cs.toList.length := by simp; omega
    simp only [Array.toList_setIfInBounds]
    rw [List.set_eq_take_append_cons_drop, if_pos hlt]
    have e1 : (List.take (off + j) cs.toList).length = off + j := by simp; omega
    rw [show off + (j + 1) = off + j + 1 by omega]
    rw [List.take_append, List.take_of_length_le (l := List.take (off + j) cs.toList) (by omega), e1, show off + j + 1 - (off + j) = 1 by omega]
    rw [List.drop_append, List.drop_of_length_le (l := List.take (off + j) cs.toList) (by omega), e1, show off + j + 1 + r.length - (off + j) = r.length + 1 by omega]
    simp only [List.take_succ_cons, List.take_zero, List.drop_succ_cons, List.nil_append, List.drop_drop, List.length_cons]
    rw [show off + j + 1 + r.length = off + j + (r.length + 1) by omega]
    simp

def plcs (P : Program) (t : TypeId) : Option (List (Nat × Nat)) :=
  match P.underlying t with
  | some (.struct fields) => fields.toList.mapM (fun f => (P.info? f.type).map fun i => (f.offset, i.size))
  | _ => none

/-- a struct written out field by field, from d on -/
inductive BuildRd {α : Type} (st : St) (rt : RT α) (pl : List (Nat × Nat)) : List (Nat × Operand) → α → α → Prop
  | nil {d : α} : BuildRd st rt pl [] d d
  | cons {γ : Type} {rt' : RT γ} {get : α → γ} {set : α → γ → α} {i off : Nat} {x : Operand} {d d2 : α} {d' : γ} {r : List (Nat × Operand)} (hp : pl[i]? = some (off, rt'.n)) (hl : Lens rt off rt' get set) (hx : Rd st x rt' d') (hr : BuildRd st rt pl r (set d d') d2) :
      BuildRd st rt pl ((i, x) :: r) d d2

theorem BuildRd.fill {α : Type} {rt : RT α} {pl : List (Nat × Nat)} : ∀ {ps : List (Nat × Operand)} {d d2 : α}, BuildRd st rt pl ps d d2 → (∀ x ∈ ps.map (·.2), evS st' x = evS st x) → InvB cx st' β a w → ∀ cells : Array Value, rt.rep w (okOf cx st'.heap β w) cells.toList d →
    ∃ cells', Instr.fill (pl.toArray[·]?) cells (ps.map fun p => (p.1, a.eval p.2)) = some cells' ∧ rt.rep w (okOf cx st'.heap β w) cells'.toList d2
  | _, _, _, .nil, _, _, cells, h => ⟨cells, rfl, h⟩
  | _, _, _, .cons (rt' := rt') (i := i) (off := off) (x := x) hp hl hx hr, hag, hi, cells, h => by
    have hv := (hx.tr (hag x (by simp))).val hi
    have hc := rt'.val_cells hv
    have hlen := rt'.len hc
    have hlen' : (a.eval x).cells.size = rt'.n := by simpa using hlen
    have hl0 := rt.len h
    have hfit := hl.fits
    have hset := hl.set_ h hc
    obtain ⟨cells', h1, h2⟩ := hr.fill (fun y hy => hag y (by simp only [List.map_cons, List.mem_cons]; exact .inr hy)) hi (cells.toList.take off ++ (a.eval x).cells.toList ++ cells.toList.drop (off + rt'.n)).toArray (by simpa using hset)
    refine ⟨cells', ?_, h2⟩
    simp only [List.map_cons, Instr.fill]
    have hp' : pl.toArray[i]? = some (off, rt'.n) := by simpa using hp
    rw [hp']
    have hcs : cells.size = rt.n := by simpa using hl0
    have hn : ¬ ((a.eval x).cells.size ≠ rt'.n ∨ off + (a.eval x).cells.size > cells.size) := by omega
    have hnb : (decide ((a.eval x).cells.size ≠ rt'.n) || decide (off + (a.eval x).cells.size > cells.size)) = false := by simp; omega
    have hfold := fold_splice (a.eval x).cells.toList 0 off cells (by simp; omega)
    simp only [Nat.add_zero, Array.length_toList, hlen'] at hfold
    rw [← h1]
    simp only []
    rw [if_neg (by simpa using hn)]
    congr 1
    rw [← hfold]
    rw [← Array.foldl_toList, Array.toList_zipIdx]

theorem op_build {α : Type} {T : TypeId} {rt : RT α} {z d : α} {pl : List (Nat × Nat)} {ps : List (Nat × Operand)} (hz : TyZero P T rt z) (hag : rt.agg = true) (hp : plcs P T = some pl) (hb : BuildRd st rt pl ps z d) :
    Adr P cx st ⟨dst, .build T ps.toArray, ty, pos, aft, gd⟩ (.tv rt d) :=
  adr_still fun st' hag' β a w hi => by
    obtain ⟨v, hv, hval⟩ := run_zeroValue' hz w
    obtain ⟨cells, h1, h2⟩ := hb.fill (st' := st') (fun x hx => hag'.ops x (by simpa [Op.operands] using hx)) hi v.cells (rt.val_cells (hval _ _))
    refine ⟨.agg cells, ?_, cells.toList, h2, by simp [hag]⟩
    unfold plcs at hp
    split at hp
    · rename_i fields hu
      have hr := run_places (P := P) w fields.toList pl hp
      have h1' : Instr.fill (fun x => pl[x]?) v.cells (ps.map fun p => (p.1, a.eval p.2)) = some cells := by simpa using h1
      simp [execOp, Instr.build, run_underlying hu, hv, Array.mapM_eq_mapM_toList, hr, h1']
    · cases hp

/-! ### a slice written out -/
inductive RowRd {α : Type} (st : St) (rt : RT α) : Nat → List (Nat × Operand) → List α → Prop
  | nil {i : Nat} : RowRd st rt i [] []
  | cons {i : Nat} {x : Operand} {d : α} {r : List (Nat × Operand)} {ds : List α} (hx : Rd st x rt d) (hr : RowRd st rt (i + 1) r ds) : RowRd st rt i ((i, x) :: r) (d :: ds)

theorem RowRd.len {α : Type} {rt : RT α} : ∀ {i : Nat} {ps : List (Nat × Operand)} {ds : List α}, RowRd st rt i ps ds → ds.length = ps.length
  | _, _, _, .nil => rfl
  | _, _, _, .cons _ hr => by simp [hr.len]

theorem RowRd.fill {α : Type} {rt : RT α} : ∀ {i : Nat} {ps : List (Nat × Operand)} {ds : List α}, RowRd st rt i ps ds → (∀ x ∈ ps.map (·.2), evS st' x = evS st x) → InvB cx st' β a w → ∀ cells : Array Value, cells.size = (i + ps.length) * rt.n →
    ∃ cells' : Array Value, Instr.fill (fun i => some (i * rt.n, rt.n)) cells (ps.map fun p => (p.1, a.eval p.2)) = some cells' ∧ cells'.size = (i + ps.length) * rt.n ∧ (∀ j, j < i * rt.n → cells'[j]? = cells[j]?) ∧
      ∀ k d, ds[k]? = some d → ∃ cs, rt.rep w (okOf cx st'.heap β w) cs d ∧ ∀ j u, cs[j]? = some u → cells'[(i + k) * rt.n + j]? = some u
  | _, _, _, .nil, _, _, cells, hs => ⟨cells, rfl, by simpa using hs, fun _ _ => rfl, fun k d h => by simp at h⟩
  | i, _, _, .cons (x := x) (d := d) (r := r) (ds := ds) hx hr, hag, hi, cells, hs => by
    have hv := (hx.tr (hag x (by simp))).val hi
    have hc := rt.val_cells hv
    have hlen := rt.len hc
    have hlen' : (a.eval x).cells.size = rt.n := by simpa using hlen
    simp only [List.length_cons] at hs
    have hle : (i + 1) * rt.n ≤ cells.size := by rw [hs]; exact Nat.mul_le_mul_right _ (by omega)
    have hsucc : (i + 1) * rt.n = i * rt.n + rt.n := Nat.succ_mul _ _
    have hfold := fold_splice (a.eval x).cells.toList 0 (i * rt.n) cells (by simp only [Array.length_toList, hlen']; omega)
    simp only [Nat.add_zero, Array.length_toList, hlen'] at hfold
    obtain ⟨cells', h1, h2, h3, h4⟩ := hr.fill (fun y hy => hag y (by simp only [List.map_cons, List.mem_cons]; exact .inr hy)) hi (cells.toList.take (i * rt.n) ++ (a.eval x).cells.toList ++ cells.toList.drop (i * rt.n + rt.n)).toArray (by
      simp only [List.size_toArray, List.length_append, List.length_take, List.length_drop, Array.length_toList, hlen']
      rw [show i + 1 + r.length = i + (r.length + 1) by omega, ← hs]; omega)
    refine ⟨cells', ?_, by rw [h2]; simp only [List.length_cons]; congr 1; omega, fun j hj => ?_, fun k d' hk => ?_⟩
    · simp only [List.map_cons, Instr.fill]
      have hn : ¬ ((a.eval x).cells.size ≠ rt.n ∨ i * rt.n + (a.eval x).cells.size > cells.size) := by omega
      rw [if_neg (by simpa using hn), ← h1]
      congr 1
      rw [← hfold, ← Array.foldl_toList, Array.toList_zipIdx]
    · rw [h3 j (by omega)]
      rw [List.getElem?_toArray, List.append_assoc, List.getElem?_append_left (by simp; omega), List.getElem?_take_of_lt hj]
      simp
    · cases k with
      | zero =>
        simp at hk; subst hk
        refine ⟨_, hc, fun j u hj => ?_⟩
        have hjl : j < rt.n := by rw [← hlen]; exact (List.getElem?_eq_some_iff.1 hj).1
        rw [Nat.add_zero, h3 _ (by omega), List.getElem?_toArray, List.append_assoc, List.getElem?_append_right (by simp; omega)]
        simp only [List.length_take, Array.length_toList]
        rw [show i * rt.n + j - min (i * rt.n) cells.size = j by omega, List.getElem?_append_left (by simpa [hlen'] using hjl)]
        exact hj
      | succ k =>
        obtain ⟨cs, h5, h6⟩ := h4 k d' (by simpa using hk)
        exact ⟨cs, h5, fun j u hj => by rw [show i + (k + 1) = i + 1 + k by omega]; exact h6 j u hj⟩

theorem run_bslice {α : Type} {T e : TypeId} {rt : RT α} {ps : List (Nat × Operand)} {ds : List α} {z : α} (ht : P.underlying T = some (.slice e)) (he : Ty P e rt) (hz : TyZero P e rt z) (hr : RowRd st rt 0 ps ds) (hag : ∀ x ∈ ps.map (·.2), evS st' x = evS st x) (hi : InvB cx st' β a w)
    (hb : ps.length * rt.n ≤ 16777216) : ∃ cells, (Instr.buildSlice T ps.length (ps.toArray.map fun p => (p.1, a.eval p.2))).run P w = .ok (.slice (some ⟨w.heap.size, 0, none⟩) ps.length ps.length) (w.alloc (.cells cells e)) ∧ cells.size = ps.length * rt.n ∧
      ∀ k d, ds[k]? = some d → ∃ cs, rt.rep w (okOf cx st'.heap β w) cs d ∧ ∀ j u, cs[j]? = some u → cells[k * rt.n + j]? = some u := by
  obtain ⟨_, i0, hi0, hs0⟩ := he
  obtain ⟨v, hv, hval⟩ := run_zeroValue' hz w
  have hb' : ¬ (16777216 < ps.length * rt.n) := by omega
  by_cases h0 : ps.length * rt.n = 0
  · obtain ⟨cells, h1, h2, _, h4⟩ := hr.fill hag hi #[] (by simp only [List.size_toArray, List.length_nil, Nat.zero_add]; exact h0.symm)
    simp only [Nat.zero_add] at h2 h4
    refine ⟨cells, ?_, h2, h4⟩
    simp [Instr.buildSlice, run_underlying ht, run_sizeOf hi0, hs0, hb', h0, h1, newRow, Array.range_zero']
  · obtain ⟨cells, h1, h2, _, h4⟩ := hr.fill hag hi ((Array.range (ps.length * rt.n)).map (v.cells[· % v.cells.size]!)) (by simp)
    simp only [Nat.zero_add] at h2 h4
    refine ⟨cells, ?_, h2, h4⟩
    simp [Instr.buildSlice, run_underlying ht, run_sizeOf hi0, hs0, hb', h0, hv, h1, newRow]

/-- a slice written out that stays as it is -/
theorem op_bslice {α : Type} {T e : TypeId} {rt : RT α} {ps : List (Nat × Operand)} {ds : List α} {z : α} {n : Nat} (ht : P.underlying T = some (.slice e)) (he : Ty P e rt) (hz : TyZero P e rt z) (hn : ps.length = n) (hr : RowRd st rt 0 ps ds) (h1 : Nat.ble 1 rt.n = true) (hb : Nat.ble (n * rt.n) 16777216 = true) :
    Adr P cx st ⟨dst, .buildSlice T n ps.toArray, ty, pos, aft, gd⟩ (.tv (rSlice rt) ds) :=
  adr_later fun st' hag' β a w hi => by
    subst hn
    have hb' : ps.length * rt.n ≤ 16777216 := by simpa using hb
    obtain ⟨cells, h2, h3, h4⟩ := run_bslice (P := P) ht he hz hr (fun x hx => hag'.ops x (by simpa [Op.operands] using hx)) hi hb'
    have hl := hr.len
    have hbel : Below w.heap.size w (w.alloc (.cells cells e)) := (Below.refl _ _).alloc (Nat.le_refl _) _
    have h1' : 1 ≤ rt.n := by simpa using h1
    have hpl : ps.length ≤ maxLen := by
      have : ps.length ≤ ps.length * rt.n := Nat.le_mul_of_pos_right _ h1'
      simp only [maxLen]; omega
    refine ⟨.slice (some ⟨w.heap.size, 0, none⟩) ps.length ps.length, w.alloc (.cells cells e), by
      change ((Instr.buildSlice T ps.length (ps.toArray.map fun p => (p.1, a.eval p.2))) >>= fun v => pure (Next.value v)).run P w = _
      rw [Sem.run_bind, h2]; rfl, hbel, [.slice (some ⟨w.heap.size, 0, none⟩) ps.length ps.length], ⟨some ⟨w.heap.size, 0, none⟩, ps.length, by rw [hl], by omega, hpl, fun hne => ⟨w.heap.size, 0, rfl, ?_, fun i x hx => ?_⟩⟩, by simp [rSlice]⟩
    · exact ⟨.inr (.inl hi.below.size), by simp, fun nm hb hh x hx e1 => by have := (hi.own nm hb hh x hx).2; omega⟩
    · obtain ⟨cs, h5, h6⟩ := h4 i x hx
      refine ⟨cs, rt.keep (fun b hb => ⟨⟨hb.1, by simp; have := hb.2.1; omega, hb.2.2⟩, hbel.block b hb.2.1⟩) h5, fun j u hj => ?_⟩
      rw [World.cell?_alloc_new]
      simpa using h6 j u hj

end
end Go.Eng
