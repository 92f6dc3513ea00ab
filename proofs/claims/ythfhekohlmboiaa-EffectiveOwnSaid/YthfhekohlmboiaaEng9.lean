import Derived.Test.YthfhekohlmboiaaEng8
namespace Go.Eng
set_option linter.unusedSimpArgs false

section
variable {P : Program} {cx : Cx} {st st' : St} {β : Loc} {a : Act} {w w' : World} {ops : Array Oper} {k : Kn} {c : Code}
variable {dst : Option Tmp} {ty : TypeId} {pos : String} {aft : Array Edge} {gd : Option (Nat × Bool)}

def dropH (nm : Nat) : List (Nat × HB) → List (Nat × HB)
  | [] => []
  | (i, s) :: r => bif Nat.beq i nm then dropH nm r else (i, s) :: dropH nm r
theorem dropH_look (nm : Nat) : ∀ (l : List (Nat × HB)) (j : Nat), lookH (dropH nm l) j = if j = nm then none else lookH l j
  | [], j => by simp [dropH, lookH]
  | (i, s) :: r, j => by
    rw [show dropH nm ((i, s) :: r) = bif Nat.beq i nm then dropH nm r else (i, s) :: dropH nm r from rfl]
    by_cases h : i = nm
    · subst h
      simp only [Nat.beq_refl, cond_true, dropH_look i r, lookH_cons]
      by_cases e : j = i
      · simp [e]
      · rw [if_neg e, if_neg e, if_neg (Ne.symm e)]
    · have : Nat.beq i nm = false := by cases hb : Nat.beq i nm with | false => rfl | true => exact absurd (Nat.eq_of_beq_eq_true hb) h
      simp only [this, cond_false, lookH_cons, dropH_look nm r]
      by_cases e : i = j
      · subst e; simp [h]
      · simp [e]
theorem dropH_sub (nm : Nat) (l : List (Nat × HB)) : ∀ j s, lookH (dropH nm l) j = some s → lookH l j = some s := fun j s h => by
  rw [dropH_look] at h
  split at h
  · cases h
  · exact h
theorem dropH_no (nm : Nat) (l : List (Nat × HB)) : lookH (dropH nm l) nm = none := by rw [dropH_look]; simp

theorem InvB.sub (h : Sub st st') (hb : InvB cx st β a w) : InvB cx st' β a w := by
  have hok : ∀ b, okOf cx st.heap β w b → okOf cx st'.heap β w b ∧ w.heap[b]? = w.heap[b]? := fun b ⟨h1, h2, h3⟩ => ⟨⟨h1, h2, fun nm hb hh => h3 nm hb (h.heap _ _ hh)⟩, rfl⟩
  refine ⟨hb.below, hb.old, hb.defers, hb.size, fun nm x hx => hb.own nm x (h.heap _ _ hx), fun nm nm' x y hx hy => hb.sep nm nm' x y (h.heap _ _ hx) (h.heap _ _ hy), fun nm x hx => HB.keep hok (fun _ _ => rfl) (hb.rows nm x (h.heap _ _ hx)), fun i s hs => ?_⟩
  obtain ⟨v, h1, h2⟩ := hb.slots i s (h.slots _ _ hs)
  exact ⟨v, h1, SV.keep hok (fun nm _ => ⟨rfl, fun b o _ cur e fr hc => ⟨cur, e, fr, hc, rfl⟩⟩) h2⟩

theorem InvB.toHeap {sl : List (Nat × SV)} {hp hp' : List (Nat × HB)} (hb : InvB cx ⟨sl, hp⟩ β a w) (h : ∀ i s, lookH hp' i = some s → lookH hp i = some s) : InvB cx ⟨sl, hp'⟩ β a w :=
  InvB.sub (st := ⟨sl, hp⟩) (st' := ⟨sl, hp'⟩) ⟨fun _ _ h => h, h⟩ hb

/-- the cells of a slice that is read -/
theorem cells_of {α : Type} {rt : RT α} [NM rt] {ok : Ok} {b o : Nat} {ys : List α} (h1 : 1 ≤ rt.n) (hc : ∀ i x, ys[i]? = some x → ∃ cs, rt.rep w ok cs x ∧ CellsAt w b (o + i * rt.n) cs) :
    ∃ news : List Value, news.length = ys.length * rt.n ∧ (∀ q u, news[q]? = some u → w.cell? ⟨b, o + q, none⟩ = some u) ∧ (∀ u ∈ news, u.oneCell' = true) ∧
      ∀ i x, ys[i]? = some x → ∃ cs, rt.rep w ok cs x ∧ ∀ j u, cs[j]? = some u → news[i * rt.n + j]? = some u := by
  have key : ∀ q, q < ys.length * rt.n → ∃ u, w.cell? ⟨b, o + q, none⟩ = some u ∧ u.oneCell' = true := by
    intro q hq
    have hi : q / rt.n < ys.length := (Nat.div_lt_iff_lt_mul h1).2 hq
    obtain ⟨cs, h2, h3⟩ := hc (q / rt.n) ys[q / rt.n] (List.getElem?_eq_getElem hi)
    have hl := rt.len h2
    have hj : q % rt.n < cs.length := by rw [hl]; exact Nat.mod_lt _ h1
    refine ⟨cs[q % rt.n], ?_, rt.one h2 _ (List.getElem_mem hj)⟩
    have := h3 (q % rt.n) _ (List.getElem?_eq_getElem hj)
    rw [show o + q / rt.n * rt.n + q % rt.n = o + q by have := Nat.div_add_mod q rt.n; rw [Nat.mul_comm] at this; omega] at this
    exact this
  refine ⟨(List.range (ys.length * rt.n)).map fun q => (w.cell? ⟨b, o + q, none⟩).getD undef, by simp, fun q u hu => ?_, fun u hu => ?_, fun i x hx => ?_⟩
  · have hq : q < ys.length * rt.n := by have := (List.getElem?_eq_some_iff.1 hu).1; simpa using this
    obtain ⟨v, h2, _⟩ := key q hq
    simp [hq, h2] at hu
    rw [h2, hu]
  · simp only [List.mem_map, List.mem_range] at hu
    obtain ⟨q, hq, rfl⟩ := hu
    obtain ⟨v, h2, h3⟩ := key q hq
    rw [h2]; exact h3
  · obtain ⟨cs, h2, h3⟩ := hc i x hx
    refine ⟨cs, h2, fun j u hj => ?_⟩
    have hl := rt.len h2
    have hjl : j < rt.n := by rw [← hl]; exact (List.getElem?_eq_some_iff.1 hj).1
    have hil : i < ys.length := (List.getElem?_eq_some_iff.1 hx).1
    have hlt : i * rt.n + j < ys.length * rt.n := by
      have : (i + 1) * rt.n ≤ ys.length * rt.n := Nat.mul_le_mul_right _ hil
      rw [Nat.succ_mul] at this; omega
    have := h3 j u hj
    rw [Nat.add_assoc] at this
    simp [hlt, this]

/-- append to a row of the call's own: what else spoke of that row is forgotten -/
theorem op_append {α : Type} {rt : RT α} [NM rt] {z : α} {x y : Operand} {t e : TypeId} {nm off n d : Nat} {xs ys : List α} {r : List (Nat × SV)} {by_ : Nat} (ks : List Nat) (ht : P.underlying t = some (.slice e)) (he : Ty P e rt) (hz : TyZero P e rt z) (hn1 : Nat.ble 1 rt.n = true)
    (hby : (P.info? e).map (·.bytes) = some by_) (hx : Ev st x (.own nm rt.n off n)) (hn : lookH st.heap nm = some ⟨rt, xs⟩) (hle : off + n ≤ xs.length) (hy : Rd st y (rSlice rt) ys)
    (h63 : n + ys.length ≤ maxLen) (hb : (n + ys.length) * by_ ≤ 140737488355328) (hd : Nat.blt d cx.n = true) (hk : Keep st.slots ks r) (hf : freeS nm r = true) :
    OS P cx ⟨some d, .call { callee := .builtin .append, args := #[x, y], argTypes := #[t, t] }, ty, pos, aft, gd⟩ st ⟨(d, .own nm rt.n 0 (n + ys.length)) :: r, (nm, ⟨rt, (xs.drop off).take n ++ ys⟩) :: st.heap⟩ := by
  rintro a w ⟨β, hi⟩ Q
  have hn1' : 1 ≤ rt.n := by simpa using hn1
  have hX : ((xs.drop off).take n).length = n := by simp; omega
  have hr : InvB cx ⟨r, st.heap⟩ β a w := hi.sub ⟨hk.sub, fun _ _ h => h⟩
  have hxv : hdr β w nm rt.n off n (a.eval x) := hi.ev hx
  obtain ⟨ycs, ⟨A', cap', rfl, hy1, hy2, hy3⟩, hyv0⟩ := hy.val hi
  have hyv : a.eval y = .slice A' ys.length cap' := by rw [hyv0]; simp [rSlice]
  clear hyv0
  obtain ⟨_, i0, hi0, hs⟩ := he
  obtain ⟨i1, zv, hi1, hzv, hzval⟩ := hz
  have e0 : i1 = i0 := by rw [hi0] at hi1; injection hi1 with h; exact h.symm
  subst e0
  have hby' : i1.bytes = by_ := by simpa [hi0] using hby
  have hnb : (n + ys.length) * i1.bytes ≤ 140737488355328 := by rw [hby']; exact hb
  have hzs : zv.cells.size = rt.n := by have := rt.len (rt.val_cells (hzval w (fun _ => True))); simpa using this
  have hml : n + ys.length ≤ 9223372036854775807 := by have := h63; simp only [maxLen] at this; omega
  -- the same end for both ways that make a new block
  have fresh : ∀ (cs : Array Value) (cap : Nat) (w1 : World), Below w.heap.size w w1 → w1.heap.size = w.heap.size → n + ys.length ≤ cap → cap ≤ maxLen → cs.size = cap * rt.n →
      (∀ i x, ((xs.drop off).take n ++ ys)[i]? = some x → ∃ c, rt.rep w (okOf cx st.heap β w) c x ∧ ∀ j u, c[j]? = some u → cs[i * rt.n + j]? = some u) →
      Inv cx ⟨(d, .own nm rt.n 0 (n + ys.length)) :: r, (nm, ⟨rt, (xs.drop off).take n ++ ys⟩) :: st.heap⟩ (a.put (some d) (.slice (some ⟨w.heap.size, 0, none⟩) (n + ys.length) cap)) (w1.alloc (.cells cs e)) := by
    intro cs cap w1 hb1 hsz hcap hcm hcs hrep
    have h0 : InvB cx ⟨r, dropH nm st.heap⟩ β a w1 := (InvB.sub (st := ⟨r, st.heap⟩) (st' := ⟨r, dropH nm st.heap⟩) ⟨fun _ _ h => h, dropH_sub nm _⟩ hr).later hb1
    have := h0.alloc (nm := nm) (rt := rt) (xs := (xs.drop off).take n ++ ys) (cs := cs) (e := e) hf (dropH_no nm _) (by rw [List.length_append, hX, hcs]; exact Nat.mul_le_mul_right _ hcap) (fun i x hix => by
      obtain ⟨c, h1, h2⟩ := hrep i x hix
      exact ⟨c, rt.keep (fun b ⟨g1, g2, g3⟩ => ⟨⟨g1, by omega, fun k h hk => g3 k h (dropH_sub nm _ _ _ hk)⟩, hb1.block b g2⟩) h1, h2⟩)
    have h2 := this.put (d := d) (s := .own nm rt.n 0 (n + ys.length)) (v := .slice (some ⟨w.heap.size, 0, none⟩) (n + ys.length) cap) (by simpa using hd) (by
      simp only [SV.holds, hdr, if_pos]
      exact ⟨_, cap, rfl, hcap, hcm, .inr ⟨by simp [hsz], cs, e, _, heap_alloc_new w1 _, by simp [hcs]⟩⟩)
    refine ⟨_, InvB.toHeap (hp := (nm, ⟨rt, (xs.drop off).take n ++ ys⟩) :: dropH nm st.heap) h2 (fun i s h => ?_)⟩
    simp only [lookH_cons, dropH_look] at h ⊢
    split at h
    · rename_i e1; rw [if_pos e1]; exact h
    · rename_i e1; rw [if_neg e1, if_neg (Ne.symm e1)]; exact h
  -- nothing is appended to nothing
  have cellsY : ys ≠ [] → ∃ b' o', A' = some ⟨b', o', none⟩ ∧ ∃ news : List Value, news.length = ys.length * rt.n ∧ (∀ q u, news[q]? = some u → w.cell? ⟨b', o' + q, none⟩ = some u) ∧ (∀ u ∈ news, u.oneCell' = true) ∧
      ∀ i x, ys[i]? = some x → ∃ cs, rt.rep w (okOf cx st.heap β w) cs x ∧ ∀ j u, cs[j]? = some u → news[i * rt.n + j]? = some u := fun hne => by
    obtain ⟨b', o', h1, _, h3⟩ := hy3 hne
    exact ⟨b', o', h1, cells_of hn1' h3⟩
  have run_of : ∀ v w', (Builtin.append_ #[t, t] ty #[a.eval x, a.eval y]).run P w = .ok v w' → (execOp a.eval ⟨some d, .call { callee := .builtin .append, args := #[x, y], argTypes := #[t, t] }, ty, pos, aft, gd⟩).run P w = .ok (.value v) w' := fun v w' h => by
    simp [execOp, resolve, invoke, builtin, h]
  by_cases hY : ys = []
  · -- the head stays as it is
    subst hY
    simp only [List.length_nil, Nat.add_zero, List.append_nil] at *
    obtain ⟨A, cap, hxe⟩ := hdr_form hxv
    have hnc : n ≤ cap := by
      unfold hdr at hxv
      split at hxv
      · omega
      · obtain ⟨A2, cap2, h1, h2, _⟩ := hxv
        rw [hxe] at h1; injection h1 with _ _ h1; omega
    have hrun : (Builtin.append_ #[t, t] ty #[a.eval x, a.eval y]).run P w = .ok (a.eval x) w := by
      rw [hyv, hxe]
      cases A' with
      | none => cases A <;> simp [Builtin.append_, run_underlying ht, sizeOf, typeInfo, hi0, Builtin.lenOf, hnc, Builtin.firstCells, storeCells]
      | some q => cases A <;> simp [Builtin.append_, run_underlying ht, sizeOf, typeInfo, hi0, Builtin.lenOf, hnc, Builtin.firstCells, loadCells, loadCellsFrom, storeCells]
    unfold Oper.wp
    rw [run_of _ _ hrun, Oper.upon_value]
    -- the row, from off on
    unfold hdr at hxv
    cases hb0 : β nm with
    | none =>
      rw [hb0] at hxv
      obtain ⟨hxv, rfl⟩ := hxv
      have hxs : xs = [] := by have := hi.rows nm _ hn; rw [hb0] at this; exact this
      subst hxs
      have h2 := hr.put (d := d) (s := .own nm rt.n 0 0) (v := a.eval x) (by simpa using hd) (by simp only [SV.holds, hdr, hb0]; exact ⟨hxv, trivial⟩)
      refine ⟨β, InvB.toHeap (hp := st.heap) h2 (fun i s h => ?_)⟩
      simp only [lookH_cons, List.take_zero] at h
      split at h
      · rename_i e1; subst e1; injection h with h; subst h; exact hn
      · exact h
    | some q =>
      obtain ⟨b, o⟩ := q
      rw [hb0] at hxv
      obtain ⟨A2, cap2, h1, h2, h3, h4⟩ := hxv
      obtain ⟨cur, e', h5, h6, h7⟩ := own_row hi hn hb0
      have hlen' : o + off * rt.n + n * rt.n ≤ cur.size := by
        have : (off + n) * rt.n ≤ xs.length * rt.n := Nat.mul_le_mul_right _ hle
        rw [Nat.add_mul] at this; omega
      have hset := InvB.setRow (rt' := rt) (xs' := (xs.drop off).take n) (cur' := cur) (o' := o + off * rt.n) hr hn hb0 h5 rfl (.inr hf) (by rw [hX]; exact hlen') (fun i x hix => by
        have hin : i < n := by rw [← hX]; exact (List.getElem?_eq_some_iff.1 hix).1
        rw [List.getElem?_take_of_lt hin, List.getElem?_drop] at hix
        obtain ⟨cs, h8, h9⟩ := h7 _ x hix
        exact ⟨cs, h8, fun j u hj => by rw [show o + off * rt.n + i * rt.n + j = o + (off + i) * rt.n + j by rw [Nat.add_mul]; omega]; exact h9 j u hj⟩)
      rw [setRow_self w b cur e' (0, 0) h5] at hset
      refine ⟨_, hset.put (by simpa using hd) ?_⟩
      simp only [SV.holds, hdr, if_pos]
      refine ⟨A2, cap2, h1, h2, h3, ?_⟩
      rcases h4 with h4 | ⟨h4, cur2, e2, fr2, h8, h9⟩
      · exact .inl h4
      · refine .inr ⟨by rw [h4]; simp, cur2, e2, fr2, h8, ?_⟩
        rw [Nat.add_mul] at h9; simp only [Nat.zero_add]; omega
  · obtain ⟨b', o', rfl, news, hn2, hn3, hn4, hn5⟩ := cellsY hY
    have hpos : 0 < ys.length := List.length_pos_iff.2 hY
    have hn3' : ∀ j v, news[j]? = some v → w.cell? ((⟨b', o', none⟩ : Addr).add j) = some v := fun j v hj => by rw [Addr.add_lit]; exact hn3 j v hj
    unfold hdr at hxv
    -- from nothing
    have fromNil : n = 0 → a.eval x = .slice none 0 0 → (execOp a.eval ⟨some d, .call { callee := .builtin .append, args := #[x, y], argTypes := #[t, t] }, ty, pos, aft, gd⟩ |>.run P w) =
        .ok (.value (.slice (some ⟨w.heap.size, 0, none⟩) (n + ys.length) (grownCap w ys.length 0 e))) (w.drew.alloc (.cells (news.toArray ++ Builtin.zeroCells zv.cells (grownCap w ys.length 0 e - ys.length)) e)) := fun h0 hx0 => by
      subst h0
      refine run_of _ _ ?_
      rw [hx0, hyv, Nat.zero_add]
      exact run_append_nil (P := P) w t ty e i1 zv ht hi0 hzv ⟨b', o', none⟩ ys.length cap' news (by rw [hn2, hs]) hn3' hpos (by omega) (by have h := hnb; rw [Nat.zero_add] at h; omega)
    have grow : ∀ (ad : Addr) (cap : Nat) (olds : List Value), a.eval x = .slice (some ad) n cap → cap < n + ys.length → olds.length = n * rt.n → (∀ j v, olds[j]? = some v → w.cell? (ad.add j) = some v) →
        (execOp a.eval ⟨some d, .call { callee := .builtin .append, args := #[x, y], argTypes := #[t, t] }, ty, pos, aft, gd⟩ |>.run P w) =
        .ok (.value (.slice (some ⟨w.heap.size, 0, none⟩) (n + ys.length) (grownCap w (n + ys.length) cap e))) (w.drew.alloc (.cells (olds.toArray ++ news.toArray ++ Builtin.zeroCells zv.cells (grownCap w (n + ys.length) cap e - (n + ys.length))) e)) := fun ad cap olds hx0 hc ho1 ho2 => by
      refine run_of _ _ ?_
      rw [hx0, hyv]
      exact run_append_grow (P := P) w t ty e i1 zv ht hi0 hzv ad n cap olds (by rw [ho1, hs]) ho2 ⟨b', o', none⟩ ys.length cap' news (by rw [hn2, hs]) hn3' hc (by omega) (growslice_fits (by omega) hnb)
    have endFresh : ∀ (olds : List Value) (cap : Nat), olds.length = n * rt.n → n + ys.length ≤ cap → cap ≤ maxLen →
        (∀ i x, ((xs.drop off).take n)[i]? = some x → ∃ c, rt.rep w (okOf cx st.heap β w) c x ∧ ∀ j u, c[j]? = some u → olds[i * rt.n + j]? = some u) →
        Inv cx ⟨(d, .own nm rt.n 0 (n + ys.length)) :: r, (nm, ⟨rt, (xs.drop off).take n ++ ys⟩) :: st.heap⟩ (a.put (some d) (.slice (some ⟨w.heap.size, 0, none⟩) (n + ys.length) cap)) (w.drew.alloc (.cells (olds.toArray ++ news.toArray ++ Builtin.zeroCells zv.cells (cap - (n + ys.length))) e)) := by
      intro olds cap ho1 hc hcm ho2
      refine fresh _ cap w.drew (Below.drew' w) rfl hc hcm ?_ (fun i x hix => ?_)
      · simp only [Array.size_append, List.size_toArray, size_zeroCells, hzs, ho1, hn2, ← Nat.add_mul]
        congr 1; omega
      · have hget : ∀ q, q < (n + ys.length) * rt.n → (olds.toArray ++ news.toArray ++ Builtin.zeroCells zv.cells (cap - (n + ys.length)))[q]? = (olds ++ news)[q]? := by
          intro q hq
          rw [Array.getElem?_append_left (by simp only [Array.size_append, List.size_toArray, ho1, hn2, ← Nat.add_mul]; exact hq)]
          simp
        rcases Nat.lt_or_ge i n with h | h
        · rw [List.getElem?_append_left (by omega)] at hix
          obtain ⟨cs, h1, h2⟩ := ho2 i x hix
          refine ⟨cs, h1, fun j u hj => ?_⟩
          have h3 := h2 j u hj
          have h4 := (List.getElem?_eq_some_iff.1 h3).1
          rw [hget _ (by rw [ho1] at h4; rw [Nat.add_mul]; omega), List.getElem?_append_left h4]
          exact h3
        · rw [List.getElem?_append_right (by omega), hX] at hix
          obtain ⟨cs, h1, h2⟩ := hn5 (i - n) x hix
          refine ⟨cs, h1, fun j u hj => ?_⟩
          have h3 := h2 j u hj
          have h4 := (List.getElem?_eq_some_iff.1 h3).1
          have h5 : i * rt.n = n * rt.n + (i - n) * rt.n := by rw [← Nat.add_mul]; congr 1; omega
          rw [hget _ (by rw [hn2] at h4; rw [Nat.add_mul]; omega), List.getElem?_append_right (by rw [ho1]; omega), ho1, show i * rt.n + j - n * rt.n = (i - n) * rt.n + j by omega]
          exact h3
    unfold Oper.wp
    cases hb0 : β nm with
    | none =>
      rw [hb0] at hxv
      obtain ⟨hx0, h0⟩ := hxv
      rw [fromNil h0 hx0, Oper.upon_value]
      have := endFresh [] (grownCap w ys.length 0 e) (by simp [h0]) (by rw [h0, Nat.zero_add]; exact grownCap_ge w _ _ _) (grownCap_le_maxLen w _ _ _ (by omega)) (fun i x hix => by rw [h0] at hix; simp at hix)
      rw [h0, Nat.zero_add] at this ⊢
      simpa using this
    | some q =>
      obtain ⟨b, o⟩ := q
      rw [hb0] at hxv
      obtain ⟨A, cap, hx0, h2, h3, h4⟩ := hxv
      obtain ⟨cur, e', h5, h6, h7⟩ := own_row hi hn hb0
      have hnle : o + off * rt.n + n * rt.n ≤ cur.size := by
        have : (off + n) * rt.n ≤ xs.length * rt.n := Nat.mul_le_mul_right _ hle
        rw [Nat.add_mul] at this; omega
      rcases h4 with ⟨rfl, rfl⟩ | ⟨h4, cur2, e2, fr2, h8, h9⟩
      · cases A with
        | none =>
          rw [fromNil rfl hx0, Oper.upon_value]
          have := endFresh [] (grownCap w ys.length 0 e) (by simp) (by rw [Nat.zero_add]; exact grownCap_ge w _ _ _) (grownCap_le_maxLen w _ _ _ (by omega)) (fun i x hix => by simp at hix)
          rw [Nat.zero_add] at this ⊢
          simpa using this
        | some ad =>
          rw [grow ad 0 [] hx0 (by omega) (by simp) (fun j v hj => by simp at hj), Oper.upon_value]
          exact endFresh [] _ (by simp) (grownCap_ge w _ _ _) (grownCap_le_maxLen w _ _ _ h63) (fun i x hix => by simp at hix)
      · subst h4
        rw [h5] at h8
        injection h8 with h8
        injection h8 with h8 _ _
        subst h8
        by_cases hroom : n + ys.length ≤ cap
        · -- in place
          have hsm : o + off * rt.n + n * rt.n + ys.length * rt.n ≤ cur.size := by
            have : (n + ys.length) * rt.n ≤ cap * rt.n := Nat.mul_le_mul_right _ hroom
            rw [Nat.add_mul] at this h9; omega
          have hst := run_storeCells_at P b (o + off * rt.n + n * rt.n) e' news 0 cur w h5 (by rw [hn2]; omega) hn4
          simp only [Nat.add_zero, hn2] at hst
          have hf2 := run_firstCells_some (P := P) w rt.n ys.length ⟨b', o', none⟩ ys.length cap' news hn2 hn3'
          have hrun : (Builtin.append_ #[t, t] ty #[a.eval x, a.eval y]).run P w = .ok (.slice (some ⟨b, o + off * rt.n, none⟩) (n + ys.length) cap) (w.setRow b (cur.toList.take (o + off * rt.n + n * rt.n) ++ news ++ cur.toList.drop (o + off * rt.n + n * rt.n + ys.length * rt.n)).toArray) := by
            rw [hx0, hyv]
            simp [Builtin.append_, run_underlying ht, sizeOf, typeInfo, hi0, Builtin.lenOf, hroom, hs, hf2, Addr.add_lit, hst]
          rw [run_of _ _ hrun, Oper.upon_value]
          have hcl : cur.toList.length = cur.size := by simp
          have hset := InvB.setRow (rt' := rt) (xs' := (xs.drop off).take n ++ ys) (cur' := (cur.toList.take (o + off * rt.n + n * rt.n) ++ news ++ cur.toList.drop (o + off * rt.n + n * rt.n + ys.length * rt.n)).toArray) (o' := o + off * rt.n) hr hn hb0 h5 (by simp [hn2]; omega) (.inr hf) (by rw [List.length_append, hX, Nat.add_mul]; simp [hn2]; omega) (fun i x hix => by
            have hget1 : ∀ q, q < o + off * rt.n + n * rt.n → (cur.toList.take (o + off * rt.n + n * rt.n) ++ news ++ cur.toList.drop (o + off * rt.n + n * rt.n + ys.length * rt.n)).toArray[q]? = cur[q]? := fun q hq => by
              rw [List.getElem?_toArray, List.append_assoc, List.getElem?_append_left (by simp; omega), List.getElem?_take_of_lt hq]; simp
            have hget2 : ∀ q, q < ys.length * rt.n → (cur.toList.take (o + off * rt.n + n * rt.n) ++ news ++ cur.toList.drop (o + off * rt.n + n * rt.n + ys.length * rt.n)).toArray[o + off * rt.n + n * rt.n + q]? = news[q]? := fun q hq => by
              have e1 : (cur.toList.take (o + off * rt.n + n * rt.n)).length = o + off * rt.n + n * rt.n := by simp; omega
              rw [List.getElem?_toArray, List.append_assoc, List.getElem?_append_right (by omega), e1, List.getElem?_append_left (by omega)]
              congr 1; omega
            rcases Nat.lt_or_ge i n with h | h
            · rw [List.getElem?_append_left (by omega), List.getElem?_take_of_lt h, List.getElem?_drop] at hix
              obtain ⟨cs, g1, g2⟩ := h7 _ x hix
              refine ⟨cs, g1, fun j u hj => ?_⟩
              have hjl : j < rt.n := by rw [← rt.len g1]; exact (List.getElem?_eq_some_iff.1 hj).1
              have : (i + 1) * rt.n ≤ n * rt.n := Nat.mul_le_mul_right _ h
              rw [Nat.succ_mul] at this
              rw [hget1 _ (by omega), show o + off * rt.n + i * rt.n + j = o + (off + i) * rt.n + j by rw [Nat.add_mul]; omega]
              exact g2 j u hj
            · rw [List.getElem?_append_right (by omega), hX] at hix
              obtain ⟨cs, g1, g2⟩ := hn5 (i - n) x hix
              refine ⟨cs, g1, fun j u hj => ?_⟩
              have g3 := g2 j u hj
              have g4 := (List.getElem?_eq_some_iff.1 g3).1
              have g5 : i * rt.n = n * rt.n + (i - n) * rt.n := by rw [← Nat.add_mul]; congr 1; omega
              rw [show o + off * rt.n + i * rt.n + j = o + off * rt.n + n * rt.n + ((i - n) * rt.n + j) by omega, hget2 _ (by omega)]
              exact g3)
          refine ⟨_, hset.put (by simpa using hd) ?_⟩
          simp only [SV.holds, hdr, if_pos]
          refine ⟨_, cap, rfl, hroom, h3, .inr ⟨by simp, _, _, _, setRow_heap _ _ _ _ _ _ h5, ?_⟩⟩
          rw [Nat.add_mul] at h9
          simp only [Nat.zero_add, List.size_toArray, List.length_append, List.length_take, List.length_drop, hcl, hn2]
          omega
        · have ho2 : ∀ i x, ((xs.drop off).take n)[i]? = some x → ∃ cs, rt.rep w (okOf cx st.heap β w) cs x ∧ CellsAt w b (o + off * rt.n + i * rt.n) cs := fun i x hix => by
            have hin : i < n := by rw [← hX]; exact (List.getElem?_eq_some_iff.1 hix).1
            rw [List.getElem?_take_of_lt hin, List.getElem?_drop] at hix
            obtain ⟨cs, g1, g2⟩ := h7 _ x hix
            refine ⟨cs, g1, fun j u hj => ?_⟩
            rw [show o + off * rt.n + i * rt.n + j = o + (off + i) * rt.n + j by rw [Nat.add_mul]; omega]
            have := g2 j u hj
            simp [World.cell?, h5, this]
          obtain ⟨olds, g1, g2, _, g4⟩ := cells_of hn1' ho2
          rw [hX] at g1
          rw [grow ⟨b, o + off * rt.n, none⟩ cap olds hx0 (by omega) g1 (fun j v hj => by rw [Addr.add_lit]; exact g2 j v hj), Oper.upon_value]
          exact endFresh olds _ g1 (grownCap_ge w _ _ _) (grownCap_le_maxLen w _ _ _ h63) g4

end
end Go.Eng
