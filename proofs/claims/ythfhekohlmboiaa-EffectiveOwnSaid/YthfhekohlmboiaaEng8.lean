import Derived.Test.YthfhekohlmboiaaEng7
namespace Go.Eng
set_option linter.unusedSimpArgs false

section
variable {P : Program} {cx : Cx} {st st' : St} {β : Loc} {a : Act} {w w' : World} {ops : Array Oper} {k : Kn} {c : Code}
variable {dst : Option Tmp} {ty : TypeId} {pos : String} {aft : Array Edge} {gd : Option (Nat × Bool)}

/-! ### reading in the call's own rows -/
theorem opt_holds {nm sz i f : Nat} {v : Value} (h : (SV.optr nm sz i f).holds β w (okOf cx st.heap β w) v) : ∃ b o, β nm = some (b, o) ∧ v = .pointer (some ⟨b, o + i * sz + f, none⟩) := h

theorem own_row (hi : InvB cx st β a w) {nm b o : Nat} {α : Type} {rt : RT α} [NM rt] {xs : List α} (hn : lookH st.heap nm = some ⟨rt, xs⟩) (hb : β nm = some (b, o)) : RowRep rt w (okOf cx st.heap β w) b o xs := by
  have := hi.rows nm _ hn
  rw [hb] at this
  exact this.1 NM.no

theorem op_ofield {nm sz i f : Nat} {x : Operand} {t : TypeId} {k off : Nat} (hf : fld P t k = some off) (hx : Ev st x (.optr nm sz i f)) :
    Adr P cx st ⟨dst, .fieldAddr t x k, ty, pos, aft, gd⟩ (.optr nm sz i (f + off)) :=
  adr_still fun st' hag β a w hi => by
    obtain ⟨b, o, h1, h2⟩ := hi.ev (hag.ev (by simp [Op.operands]) hx)
    exact ⟨.pointer (some ⟨b, o + i * sz + f + off, none⟩), by simp [execOp, h2, run_fieldAt hf], b, o, h1, by simp [Nat.add_assoc]⟩

theorem op_oindex {nm off n : Nat} {α : Type} {rt : RT α} [NM rt] {x ix : Operand} {t e : TypeId} {k : IntKind} {i : Int} {j : Nat} (ht : P.underlying t = some (.slice e)) (he : Ty P e rt)
    (hx : Ev st x (.own nm rt.n off n)) (hi' : Ev st ix (.raw (.int k i))) (hij : i = (j : Int)) (hj : j < n) : Adr P cx st ⟨dst, .indexAddr t x ix, ty, pos, aft, gd⟩ (.optr nm rt.n (off + j) 0) :=
  adr_still fun st' hag β a w hi => by
    have h1 := hi.ev (hag.ev (by simp [Op.operands]) hx)
    have h5 := hi.raw (hag.ev (by simp [Op.operands]) hi')
    obtain ⟨_, i0, hi0, hs⟩ := he
    simp only [SV.holds, hdr] at h1
    cases hb : β nm with
    | none => rw [hb] at h1; simp only at h1; omega
    | some y =>
      obtain ⟨b, o⟩ := y
      rw [hb] at h1
      obtain ⟨A, cap, h2, h3, h4, h6⟩ := h1
      rcases h6 with h6 | ⟨h6, _⟩
      · omega
      · subst h6
        have hb2 : (0 : Int) ≤ i ∧ i < (n : Int) := by omega
        have hj : i.toNat = j := by omega
        refine ⟨.pointer (some ⟨b, o + off * rt.n + j * rt.n, none⟩), by simp [execOp, h2, h5, Instr.indexAt, asIntOf, run_underlying ht, hb2, run_sizeOf hi0, hs, hj, Addr.add_lit], b, o, hb, ?_⟩
        simp [Nat.add_mul, Nat.add_assoc]

/-- the cells of a part of an element -/
theorem row_part {α γ : Type} {rt : RT α} [NM rt] {rt' : RT γ} [NM rt'] {get : α → γ} {set : α → γ → α} {ok : Ok} {b o i f : Nat} {xs : List α} {x : α} (h : RowRep rt w ok b o xs) (hx : xs[i]? = some x) (hl : Lens rt f rt' get set) :
    ∃ cs, rt'.rep w ok cs (get x) ∧ CellsAt w b (o + i * rt.n + f) cs := by
  obtain ⟨cur, e, h1, h2, h3⟩ := h
  obtain ⟨cs, h4, h5⟩ := h3 i x hx
  refine ⟨_, hl.get_ h4, ?_⟩
  have : CellsAt w b (o + i * rt.n) cs := fun j v hj => by
    have := h5 j v hj
    simp [World.cell?, h1, this]
  exact this.part f rt'.n

theorem op_oload {α γ : Type} {rt : RT α} [NM rt] {rt' : RT γ} [NM rt'] {get : α → γ} {set : α → γ → α} {nm i f : Nat} {xs : List α} {y : α} {x : Operand} {t : TypeId} (ht : Ty P t rt') (hx : Ev st x (.optr nm rt.n i f)) (hn : lookH st.heap nm = some ⟨rt, xs⟩) (hy : xs[i]? = some y) (hl : Lens rt f rt' get set) :
    Adr P cx st ⟨dst, .load t x, ty, pos, aft, gd⟩ (SV.of rt' (get y)) :=
  adr_still fun st' hag β a w hi => by
    obtain ⟨b, o, h1, h2⟩ := hi.ev (hag.ev (by simp [Op.operands]) hx)
    obtain ⟨cs, h3, h4⟩ := row_part (own_row hi ((hag.look (by simp [Op.operands]) hx (by simp [SV.free])).trans hn) h1) hy hl
    obtain ⟨v, h5, h6⟩ := run_loadVar (P := P) ht h3 h4
    exact ⟨v, by simp [execOp, Instr.loadAt, h2, Instr.sureAddr, h5], of_holds h6⟩

/-! ### a store into one of them -/
theorem op_ostore {α γ : Type} {rt : RT α} [NM rt] {rt' : RT γ} [NM rt'] {get : α → γ} {set : α → γ → α} {nm i f : Nat} {xs : List α} {y : α} {d : γ} {x v : Operand} {t : TypeId} (ht : Ty P t rt') (hx : Ev st x (.optr nm rt.n i f)) (hn : lookH st.heap nm = some ⟨rt, xs⟩) (hy : xs[i]? = some y) (hl : Lens rt f rt' get set) (hv : Rd st v rt' d) :
    OS P cx ⟨none, .store t x v, ty, pos, aft, gd⟩ st ⟨st.slots, (nm, ⟨rt, xs.set i (set y d)⟩) :: st.heap⟩ := by
  rintro a w ⟨β, hi⟩ Q
  obtain ⟨b, o, h1, h2⟩ := hi.ev hx
  obtain ⟨cur, e, h3, h4, h5⟩ := own_row hi hn h1
  have hval := hv.val hi
  have hc := rt'.val_cells hval
  have hlen := rt'.len hc
  have hone := rt'.one hc
  obtain ⟨_, i0, hi0, hs⟩ := ht
  obtain ⟨cs, h6, h7⟩ := h5 i y hy
  have hcl := rt.len h6
  have hfit := hl.fits
  have hil : i < xs.length := (List.getElem?_eq_some_iff.1 hy).1
  have hle : o + i * rt.n + rt.n ≤ cur.size := by
    have : (i + 1) * rt.n ≤ xs.length * rt.n := Nat.mul_le_mul_right _ hil
    rw [Nat.succ_mul] at this; omega
  have hsz : (a.eval v).cells.size = rt'.n := by simpa using hlen
  have hst := run_storeCells_at P b (o + i * rt.n + f) e (a.eval v).cells.toList 0 cur w h3 (by rw [hlen]; omega) hone
  simp only [Nat.add_zero, hlen] at hst
  have hrun : (execOp a.eval ⟨none, .store t x v, ty, pos, aft, gd⟩).run P w = .ok .skip (w.setRow b (cur.toList.take (o + i * rt.n + f) ++ (a.eval v).cells.toList ++ cur.toList.drop (o + i * rt.n + f + rt'.n)).toArray) := by
    simp only [execOp, Instr.storeAt, h2, Instr.sureAddr, Sem.run_bind, Sem.run_pure, Result.andThen_ok, storeVar, run_sizeOf hi0, hs]
    rw [if_neg (by simp [hsz])]
    rw [hst]
    rfl
  unfold Oper.wp
  rw [hrun, Oper.upon_skip]
  have hcurl : cur.toList.length = cur.size := by simp
  refine ⟨_, InvB.setRow hi hn h1 h3 (by simp [hlen]; omega) (.inl rfl) (by simp [hlen]; omega) (fun j z hz => ?_)⟩
  have hget : ∀ q, (cur.toList.take (o + i * rt.n + f) ++ (a.eval v).cells.toList ++ cur.toList.drop (o + i * rt.n + f + rt'.n)).toArray[q]? = if q < o + i * rt.n + f then cur[q]? else if q < o + i * rt.n + f + rt'.n then (a.eval v).cells.toList[q - (o + i * rt.n + f)]? else cur[q]? := by
    intro q
    rw [List.getElem?_toArray]
    have e1 : (cur.toList.take (o + i * rt.n + f)).length = o + i * rt.n + f := by simp; omega
    by_cases q1 : q < o + i * rt.n + f
    · rw [if_pos q1, List.append_assoc, List.getElem?_append_left (by omega), List.getElem?_take_of_lt q1]; simp
    · rw [if_neg q1]
      by_cases q2 : q < o + i * rt.n + f + rt'.n
      · rw [if_pos q2, List.append_assoc, List.getElem?_append_right (by omega), e1, List.getElem?_append_left (by omega)]
      · rw [if_neg q2, List.getElem?_append_right (by rw [List.length_append, e1, hlen]; omega), List.length_append, e1, hlen, List.getElem?_drop]
        rw [show o + i * rt.n + f + rt'.n + (q - (o + i * rt.n + f + rt'.n)) = q by omega]; simp
  by_cases hji : j = i
  · subst hji
    rw [List.getElem?_set_self hil] at hz
    injection hz with hz
    subst hz
    refine ⟨_, hl.set_ h6 hc, fun q u hq => ?_⟩
    rw [hget]
    have hql : q < rt.n := by
      have := (List.getElem?_eq_some_iff.1 hq).1
      simp only [List.length_append, List.length_take, List.length_drop, hlen, hcl] at this
      omega
    rw [List.append_assoc] at hq
    by_cases q1 : q < f
    · rw [if_pos (by omega)]
      rw [List.getElem?_append_left (by simp; omega), List.getElem?_take_of_lt q1] at hq
      exact h7 q u hq
    · rw [if_neg (by omega)]
      rw [List.getElem?_append_right (by simp; omega)] at hq
      simp only [List.length_take, hcl, show min f rt.n = f by omega] at hq
      by_cases q2 : q < f + rt'.n
      · rw [if_pos (by omega)]
        rw [List.getElem?_append_left (by omega)] at hq
        rw [show o + j * rt.n + q - (o + j * rt.n + f) = q - f by omega]
        exact hq
      · rw [if_neg (by omega)]
        rw [List.getElem?_append_right (by omega), hlen, List.getElem?_drop] at hq
        rw [show f + rt'.n + (q - f - rt'.n) = q by omega] at hq
        exact h7 q u hq
  · rw [List.getElem?_set_ne (Ne.symm hji)] at hz
    obtain ⟨cs', h8, h9⟩ := h5 j z hz
    have hcl' := rt.len h8
    refine ⟨cs', h8, fun q u hq => ?_⟩
    have hql : q < rt.n := by rw [← hcl']; exact (List.getElem?_eq_some_iff.1 hq).1
    rw [hget]
    rcases Nat.lt_or_ge j i with h | h
    · have : (j + 1) * rt.n ≤ i * rt.n := Nat.mul_le_mul_right _ h
      rw [Nat.succ_mul] at this
      rw [if_pos (by omega)]
      exact h9 q u hq
    · have : (i + 1) * rt.n ≤ j * rt.n := Nat.mul_le_mul_right _ (by omega)
      rw [Nat.succ_mul] at this
      rw [if_neg (by omega), if_neg (by omega)]
      exact h9 q u hq

/-! ### make -/
theorem op_make {α : Type} {T e : TypeId} {rt : RT α} [NM rt] {z : α} {x y : Operand} {kx ky : IntKind} {n : Nat} {d : Nat} (ht : P.underlying T = some (.slice e)) (he : Ty P e rt) (hz : TyZero P e rt z) (hn1 : Nat.ble 1 rt.n = true) {by_ : Nat} (hby : (P.info? e).map (·.bytes) = some by_)
    (hx : Ev st x (.raw (.int kx (n : Int)))) (hy : Ev st y (.raw (.int ky (n : Int)))) (hb : by_ * n ≤ 281474976710656) (h63 : n ≤ maxLen) (hd : Nat.blt d cx.n = true) (hf : freeS d st.slots = true) (hn : lookH st.heap d = none) :
    OS P cx ⟨some d, .makeSlice T x y, ty, pos, aft, gd⟩ st ⟨(d, .own d rt.n 0 n) :: st.slots, (d, ⟨rt, List.replicate n z⟩) :: st.heap⟩ := by
  rintro a w ⟨β, hi⟩ Q
  have h1 := hi.raw hx
  have h2 := hi.raw hy
  obtain ⟨_, i0, hi0, hs⟩ := he
  obtain ⟨i1, v, hi1, hv, hval⟩ := hz
  have e0 : i1 = i0 := by rw [hi0] at hi1; injection hi1 with h; exact h.symm
  subst e0
  have hby' : i1.bytes = by_ := by simpa [hi0] using hby
  have h63' : (n : Int) ≤ 9223372036854775807 := by have := h63; simp only [maxLen] at this; omega
  have hr := run_make (P := P) w T e i1 v ht hi0 hv kx ky n n (by omega) (Int.le_refl _) (by rw [hby', ← Int.natCast_mul]; omega) h63'
  simp only [Int.toNat_natCast, hs] at hr
  have hrun : (execOp a.eval ⟨some d, .makeSlice T x y, ty, pos, aft, gd⟩).run P w = .ok (.value (.slice (some ⟨w.heap.size, 0, none⟩) n n)) (w.alloc (.cells (madeCells v.cells (n * rt.n)) e)) := by
    simp [execOp, h1, h2, hr]
  unfold Oper.wp
  rw [hrun, Oper.upon_value]
  have hn1' : 1 ≤ rt.n := by simpa using hn1
  have hrep := rt.val_cells (hval w (okOf cx st.heap β w))
  have hrl := rt.len hrep
  have hcs : v.cells.size = rt.n := by simpa using hrl
  have := hi.alloc (nm := d) (rt := rt) (xs := List.replicate n z) (cs := madeCells v.cells (n * rt.n)) (e := e) hf hn (by simp [size_madeCells]) (fun i x hix => by
    have hin : i < n := by have := (List.getElem?_eq_some_iff.1 hix).1; simpa using this
    have : x = z := by rw [List.getElem?_replicate] at hix; simp [hin] at hix; exact hix.symm
    subst this
    refine ⟨_, hrep, fun j u hj => ?_⟩
    have hjl : j < rt.n := by rw [← hrl]; exact (List.getElem?_eq_some_iff.1 hj).1
    have hlt : i * rt.n + j < n * rt.n := by
      have : (i + 1) * rt.n ≤ n * rt.n := Nat.mul_le_mul_right _ hin
      rw [Nat.succ_mul] at this; omega
    have hmod : (i * rt.n + j) % v.cells.size = j := by rw [hcs, Nat.mul_comm, Nat.mul_add_mod, Nat.mod_eq_of_lt hjl]
    have hj' : v.cells[j]? = some u := by simpa using hj
    have hjs : j < v.cells.size := by rw [hcs]; exact hjl
    simp only [madeCells, Array.getElem?_map, Array.getElem?_range, if_pos hlt, Option.map_some, hmod]
    rw [getElem!_pos v.cells j hjs]
    rw [Array.getElem?_eq_getElem hjs] at hj'
    exact hj')
  refine ⟨_, this.put (by simpa using hd) ?_⟩
  simp only [SV.holds, hdr, if_pos]
  exact ⟨_, n, rfl, Nat.le_refl _, h63, .inr ⟨by simp, _, _, _, heap_alloc_new w _, by simp [size_madeCells]⟩⟩

/-! ### a nil slice as a row of the call's own; a row that is given out of hand -/
theorem inv_vac {nm i : Nat} {α : Type} (rt : RT α) [NM rt] (hs : lookS st.slots i = some (.raw (.slice none 0 0))) (hf : freeS nm st.slots = true) (hn : lookH st.heap nm = none) (hi : Inv cx st a w) :
    Inv cx ⟨(i, .own nm rt.n 0 0) :: st.slots, (nm, ⟨rt, []⟩) :: st.heap⟩ a w := by
  obtain ⟨β, hb⟩ := hi
  have hok : ∀ b, okOf cx st.heap β w b → okOf cx ((nm, ⟨rt, []⟩) :: st.heap) (fun k => if k = nm then none else β k) w b ∧ w.heap[b]? = w.heap[b]? := by
    rintro b ⟨h1, h2, h3⟩
    refine ⟨⟨h1, h2, fun k hb' hk x hx => ?_⟩, rfl⟩
    rw [lookH_cons] at hk
    by_cases e1 : k = nm
    · subst e1; simp at hx
    · rw [if_neg (Ne.symm e1)] at hk
      simp only [if_neg e1] at hx
      exact h3 k hb' hk x hx
  refine ⟨fun k => if k = nm then none else β k, hb.below, hb.old, hb.defers, hb.size, fun k h hk x hx => ?_, fun k k' h h' hk hk' x y hx hy hxy => ?_, fun k h hk => ?_, fun j s hj => ?_⟩
  · by_cases e1 : k = nm
    · subst e1; simp at hx
    · rw [lookH_cons, if_neg (Ne.symm e1)] at hk
      simp only [if_neg e1] at hx
      exact hb.own k h hk x hx
  · by_cases e1 : k = nm
    · subst e1; simp at hx
    · by_cases e2 : k' = nm
      · subst e2; simp at hy
      · rw [lookH_cons, if_neg (Ne.symm e1)] at hk
        rw [lookH_cons, if_neg (Ne.symm e2)] at hk'
        simp only [if_neg e1] at hx
        simp only [if_neg e2] at hy
        exact hb.sep k k' h h' hk hk' x y hx hy hxy
  · rw [lookH_cons] at hk
    by_cases e1 : k = nm
    · subst e1
      rw [if_pos rfl] at hk
      injection hk with hk; subst hk
      simp only [if_pos]; rfl
    · rw [if_neg (Ne.symm e1)] at hk
      simp only [if_neg e1]
      exact HB.keep hok (fun _ _ => rfl) (hb.rows k h hk)
  · simp only [lookS_cons] at hj
    split at hj
    · rename_i e1
      subst e1
      injection hj with hj; subst hj
      obtain ⟨v, h1, h2⟩ := hb.slots i _ hs
      exact ⟨v, h1, by simp only [SV.holds, hdr, if_pos]; exact ⟨h2, trivial⟩⟩
    · obtain ⟨v, h1, h2⟩ := hb.slots j s hj
      have hfree := freeS_look hf hj
      refine ⟨v, h1, SV.keep hok (fun k hk => ⟨?_, fun b o _ cur e fr hc => ⟨cur, e, fr, hc, rfl⟩⟩) h2⟩
      have hne : k ≠ nm := by rintro rfl; rw [hfree] at hk; cases hk
      simp [hne]

theorem j_vac (nm i : Nat) {α : Type} (rt : RT α) [NM rt] (hs : lookS st.slots i = some (.raw (.slice none 0 0))) (hf : freeS nm st.slots = true) (hn : lookH st.heap nm = none)
    (h : J P cx ⟨(i, .own nm rt.n 0 0) :: st.slots, (nm, ⟨rt, []⟩) :: st.heap⟩ c k) : J P cx st c k := fun a w hi => h a w (inv_vac rt hs hf hn hi)

/-- the own row, read: what its head leads to -/
theorem own_sliceRep (hi : InvB cx st β a w) {nm off n : Nat} {α : Type} {rt : RT α} [NM rt] {xs : List α} {v : Value} (hn : lookH st.heap nm = some ⟨rt, xs⟩) (hv : hdr β w nm rt.n off n v) (hle : off + n ≤ xs.length) {ok : Ok} (hok : ∀ b, okOf cx st.heap β w b → ok b) (hbl : ∀ b o, β nm = some (b, o) → ok b) :
    (rSlice rt).val w ok v ((xs.drop off).take n) := by
  have hlen : ((xs.drop off).take n).length = n := by simp; omega
  unfold hdr at hv
  cases hb : β nm with
  | none =>
    rw [hb] at hv
    obtain ⟨rfl, rfl⟩ := hv
    simp only [List.take_zero]
    exact nil_val
  | some x =>
    obtain ⟨b, o⟩ := x
    rw [hb] at hv
    obtain ⟨A, cap, rfl, h2, h3, h4⟩ := hv
    refine ⟨[.slice A n cap], ⟨A, cap, by rw [hlen], by omega, h3, fun hne => ?_⟩, by simp [rSlice]⟩
    rcases h4 with h4 | ⟨h4, _⟩
    · exfalso; apply hne; apply List.eq_nil_of_length_eq_zero; omega
    · obtain ⟨cur, e, h5, h6, h7⟩ := own_row hi hn hb
      refine ⟨b, o + off * rt.n, h4, hbl b o hb, fun i x hix => ?_⟩
      have hin : i < n := by rw [← hlen]; exact (List.getElem?_eq_some_iff.1 hix).1
      rw [List.getElem?_take_of_lt hin, List.getElem?_drop] at hix
      obtain ⟨cs, h8, h9⟩ := h7 _ x hix
      refine ⟨cs, rt.keep (fun b hb => ⟨hok b hb, rfl⟩) h8, fun j u hj => ?_⟩
      have := h9 j u hj
      rw [show o + off * rt.n + i * rt.n + j = o + (off + i) * rt.n + j by rw [Nat.add_mul]; omega]
      simp [World.cell?, h5, this]

/-- sealing: slot i, a head of row nm, is from here on a slice that stays as it is; the row is no longer the call's to write -/
theorem inv_seal {nm i off n : Nat} {α : Type} {rt : RT α} [NM rt] {xs : List α} {hp : List (Nat × HB)} (hs : lookS st.slots i = some (.own nm rt.n off n)) (hn : lookH st.heap nm = some ⟨rt, xs⟩) (hle : off + n ≤ xs.length) (hsub : ∀ j s, lookH hp j = some s → lookH st.heap j = some s) (hno : lookH hp nm = none) (hi : Inv cx st a w) :
    Inv cx ⟨(i, .tv (rSlice rt) ((xs.drop off).take n)) :: st.slots, hp⟩ a w := by
  obtain ⟨β, hb⟩ := hi
  have hok : ∀ b, okOf cx st.heap β w b → okOf cx hp β w b := fun b ⟨h1, h2, h3⟩ => ⟨h1, h2, fun k h hk => h3 k h (hsub _ _ hk)⟩
  have hb' : InvB cx ⟨st.slots, hp⟩ β a w := by
    refine ⟨hb.below, hb.old, hb.defers, hb.size, fun nm x hx => hb.own nm x (hsub _ _ hx), fun nm nm' x y hx hy => hb.sep nm nm' x y (hsub _ _ hx) (hsub _ _ hy), fun nm x hx => HB.keep (fun b h => ⟨hok b h, rfl⟩) (fun _ _ => rfl) (hb.rows nm x (hsub _ _ hx)), fun i s hs => ?_⟩
    obtain ⟨v, h1, h2⟩ := hb.slots i s hs
    exact ⟨v, h1, SV.keep (fun b h => ⟨hok b h, rfl⟩) (fun nm _ => ⟨rfl, fun b o _ cur e fr hc => ⟨cur, e, fr, hc, rfl⟩⟩) h2⟩
  obtain ⟨v, h1, h2⟩ := hb.slots i _ hs
  refine ⟨β, hb'.below, hb'.old, hb'.defers, hb'.size, hb'.own, hb'.sep, hb'.rows, fun j s hj => ?_⟩
  simp only [lookS_cons] at hj
  split at hj
  · rename_i e1
    subst e1
    injection hj with hj; subst hj
    refine ⟨v, h1, own_sliceRep hb hn h2 hle hok (fun b o hbo => ?_)⟩
    have := hb.own nm _ hn _ hbo
    exact ⟨.inr this.1, this.2, fun k h hk x hx e1 => by
      have : k = nm := hb.sep k nm _ _ (hsub _ _ hk) hn x (b, o) hx hbo e1
      subst this
      rw [hno] at hk; cases hk⟩
  · exact hb'.slots j s hj

theorem j_seal (nm i : Nat) {off n : Nat} {α : Type} {rt : RT α} [NM rt] {xs : List α} (hp : List (Nat × HB)) (hs : lookS st.slots i = some (.own nm rt.n off n)) (hn : lookH st.heap nm = some ⟨rt, xs⟩) (hle : off + n ≤ xs.length) (hsub : ∀ j s, lookH hp j = some s → lookH st.heap j = some s) (hno : lookH hp nm = none)
    (h : J P cx ⟨(i, .tv (rSlice rt) ((xs.drop off).take n)) :: st.slots, hp⟩ c k) : J P cx st c k := fun a w hi => h a w (inv_seal hs hn hle hsub hno hi)
theorem jr_seal (nm i : Nat) {off n : Nat} {α : Type} {rt : RT α} [NM rt] {xs : List α} (hp : List (Nat × HB)) (hs : lookS st.slots i = some (.own nm rt.n off n)) (hn : lookH st.heap nm = some ⟨rt, xs⟩) (hle : off + n ≤ xs.length) (hsub : ∀ j s, lookH hp j = some s → lookH st.heap j = some s) (hno : lookH hp nm = none)
    (h : JR P cx ⟨(i, .tv (rSlice rt) ((xs.drop off).take n)) :: st.slots, hp⟩ k) : JR P cx st k := fun a w hi => h a w (inv_seal hs hn hle hsub hno hi)
theorem jg_seal (nm i : Nat) {off n : Nat} {α : Type} {rt : RT α} [NM rt] {xs : List α} {l : List Oper} (hp : List (Nat × HB)) (hs : lookS st.slots i = some (.own nm rt.n off n)) (hn : lookH st.heap nm = some ⟨rt, xs⟩) (hle : off + n ≤ xs.length) (hsub : ∀ j s, lookH hp j = some s → lookH st.heap j = some s) (hno : lookH hp nm = none)
    (h : JG P cx ops ⟨(i, .tv (rSlice rt) ((xs.drop off).take n)) :: st.slots, hp⟩ l k) : JG P cx ops st l k := fun a w hi => h a w (inv_seal hs hn hle hsub hno hi)

/-! ### cuts -/
theorem op_slice {α : Type} {rt : RT α} [NM rt] {x : Operand} {lo hi : Option Operand} {t e : TypeId} {xs : List α} {l h : Nat} (ht : P.underlying t = some (.slice e)) (he : Ty P e rt) (hx : Ev st x (.tv (rSlice rt) xs))
    (hlo : match lo with | none => l = 0 | some y => ∃ (k : IntKind) (i : Int), Ev st y (.raw (.int k i)) ∧ i = (l : Int)) (hhi : match hi with | none => h = xs.length | some y => ∃ (k : IntKind) (i : Int), Ev st y (.raw (.int k i)) ∧ i = (h : Int))
    (hlh : l ≤ h) (hle : h ≤ xs.length) : Adr P cx st ⟨dst, .slice t x lo hi none, ty, pos, aft, gd⟩ (.tv (rSlice rt) ((xs.take h).drop l)) :=
  adr_still fun st' hag β a w hiv => by
    obtain ⟨A, cap, h1, h2, h3, h4⟩ := tvs_form (hiv.ev (hag.ev (by simp [Op.operands]) hx))
    obtain ⟨_, i0, hi0, hs⟩ := he
    have hl : ((xs.take h).drop l).length = h - l := by simp; omega
    have hhc : (h : Int) ≤ (cap : Int) := by omega
    refine ⟨.slice (if cap = l then A else A.map (·.add (l * rt.n))) (h - l) (cap - l), ?_, [_], ⟨_, cap - l, by rw [hl], by omega, by omega, fun hne => ?_⟩, by simp [rSlice]; rfl⟩
    · have hlo' : ∀ m, (match lo.map a.eval with | some v => Instr.sliceBound v m (if (none : Option Value).isSome then .slice3C else .sliceB) | none => pure 0 : Sem Nat).run P w = .ok l w ∨ ¬ l ≤ m := by
        intro m
        by_cases hm : l ≤ m
        · left
          cases lo with
          | none => simp at hlo; simp [hlo]
          | some y =>
            obtain ⟨k, i, hy, hil⟩ := hlo
            have h5 := hiv.raw (hag.ev (by cases hi <;> simp [Op.operands]) hy)
            have hb : 0 ≤ i ∧ i ≤ (m : Int) := by omega
            have hn : i.toNat = l := by omega
            simp [h5, Instr.sliceBound, asIntOf, hb, hn]
        · exact .inr hm
      have hbounds : (Instr.sliceBounds true xs.length cap (lo.map a.eval) (hi.map a.eval) none).run P w = .ok (l, h, cap) w := by
        cases hi with
        | none =>
          simp at hhi
          rcases hlo' xs.length with hl' | hl'
          · cases lo with
            | none => simp at hlo; simp [Instr.sliceBounds, hlo, hhi]
            | some y => simp at hl'; simp [Instr.sliceBounds, hl', hhi]
          · omega
        | some y =>
          obtain ⟨k, i, hy, hih⟩ := hhi
          have h5 := hiv.raw (hag.ev (by cases lo <;> simp [Op.operands]) hy)
          have hb : 0 ≤ i ∧ i ≤ (cap : Int) := by omega
          have hn : i.toNat = h := by omega
          have hh' : (Instr.sliceBound (a.eval y) cap .sliceAcap).run P w = .ok h w := by simp [h5, Instr.sliceBound, asIntOf, hb, hn]
          rcases hlo' h with hl' | hl'
          · cases lo with
            | none => simp at hlo; simp [Instr.sliceBounds, hlo, hh']
            | some y => simp at hl'; simp [Instr.sliceBounds, hl', hh']
          · omega
      simp [execOp, Instr.sliceAt, run_underlying ht, h1, Instr.slice, hbounds, run_sizeOf hi0, hs]
    · have hx0 : xs ≠ [] := by rintro rfl; simp at hne
      obtain ⟨b, o, rfl, hb, hc⟩ := h4 hx0
      have hlt : l < h := by
        rcases Nat.lt_or_ge l h with h' | h'
        · exact h'
        · exfalso; apply hne; apply List.eq_nil_of_length_eq_zero; omega
      refine ⟨b, o + l * rt.n, by rw [if_neg (by omega)]; simp [Addr.add_lit], hb, fun i x hix => ?_⟩
      rw [List.getElem?_drop] at hix
      have hih : l + i < h := by
        have := (List.getElem?_eq_some_iff.1 hix).1
        simp at this; omega
      rw [List.getElem?_take_of_lt hih] at hix
      obtain ⟨cs, h5, h6⟩ := hc (l + i) x hix
      exact ⟨cs, h5, by rw [show o + l * rt.n + i * rt.n = o + (l + i) * rt.n by rw [Nat.add_mul]; omega]; exact h6⟩

end
end Go.Eng
