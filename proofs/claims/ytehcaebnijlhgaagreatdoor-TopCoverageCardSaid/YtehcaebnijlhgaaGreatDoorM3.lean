import Derived.Test.YtehcaebnijlhgaaGreatDoorM2
import Derived.Laws.StructEq
import Derived.KernelRfl
set_option linter.unusedVariables false
set_option linter.unusedSimpArgs false
namespace Go.Eng
section
variable {P : Program} {cx : Cx} {st st' : St} {β : Loc} {a : Act} {w w' : World} {ops : Array Oper} {k : Kn} {c : Code}
variable {dst : Option Tmp} {ty : TypeId} {pos : String} {aft : Array Edge} {gd : Option (Nat × Bool)}
def b8 (nm : Nat) : List (Nat × HB) → List (Nat × HB)
  | [] => []
  | (i, s) :: r => bif Nat.beq i nm then b8 nm r else (i, s) :: b8 nm r
theorem gS (nm : Nat) : ∀ (l : List (Nat × HB)) (j : Nat), az (b8 nm l) j = if j = nm then none else az l j
  | [], j => by simp [b8, az]
  | (i, s) :: r, j => by
    rw [show b8 nm ((i, s) :: r) = bif Nat.beq i nm then b8 nm r else (i, s) :: b8 nm r from rfl]
    by_cases h : i = nm
    · subst h
      simp only [Nat.beq_refl, cond_true, gS i r, aW]
      by_cases e : j = i
      · simp [e]
      rw [if_neg e, if_neg e, if_neg (Ne.symm e)]
    have : Nat.beq i nm = false := by cases hb : Nat.beq i nm with | false => rfl | true => exact absurd (Nat.eq_of_beq_eq_true hb) h
    simp only [this, cond_false, aW, gS nm r]
    by_cases e : i = j
    · subst e; simp [h]
    simp [e]
theorem bl (nm : Nat) (l : List (Nat × HB)) : ∀ j s, az (b8 nm l) j = some s → az l j = some s := fun j s h => by
  rw [gS] at h
  split at h
  · cases h
  exact h
theorem bC (nm : Nat) (l : List (Nat × HB)) : az (b8 nm l) nm = none := by rw [gS]; simp
theorem InvB.sub (h : Sub st st') (hb : InvB cx st β a w) : InvB cx st' β a w := by
  have hok : ∀ b, bM cx st.heap β w b → bM cx st'.heap β w b ∧ w.heap[b]? = w.heap[b]? := fun b ⟨h1, h2, h3⟩ => ⟨⟨h1, h2, fun nm hb hh => h3 nm hb (h.heap _ _ hh)⟩, rfl⟩
  refine ⟨hb.below, hb.old, hb.defers, hb.size, fun nm x hx => hb.own nm x (h.heap _ _ hx), fun nm nm' x y hx hy => hb.sep nm nm' x y (h.heap _ _ hx) (h.heap _ _ hy), fun nm x hx => HB.keep hok (fun _ _ => rfl) (hb.rows nm x (h.heap _ _ hx)), fun i s hs => ?_⟩
  obtain ⟨v, h1, h2⟩ := hb.slots i s (h.slots _ _ hs)
  exact ⟨v, h1, SV.keep hok (fun nm _ => ⟨rfl, fun b o _ cur e fr hc => ⟨cur, e, fr, hc, rfl⟩⟩) h2⟩
theorem InvB.toHeap {sl : List (Nat × SV)} {hp hp' : List (Nat × HB)} (hb : InvB cx ⟨sl, hp⟩ β a w) (h : ∀ i s, az hp' i = some s → az hp i = some s) : InvB cx ⟨sl, hp'⟩ β a w :=
  InvB.sub (st := ⟨sl, hp⟩) (st' := ⟨sl, hp'⟩) ⟨fun _ _ h => h, h⟩ hb
theorem uv {α : Type} {rt : RT α} [NM rt] {ok : Ok} {b o : Nat} {ys : List α} (h1 : 1 ≤ rt.n) (hc : ∀ i x, ys[i]? = some x → ∃ cs, rt.rep w ok cs x ∧ CellsAt w b (o + i * rt.n) cs) :
    ∃ news : List Value, news.length = ys.length * rt.n ∧ (∀ q u, news[q]? = some u → w.cell? ⟨b, o + q, none⟩ = some u) ∧ (∀ u ∈ news, u.oneCell' = true) ∧
      ∀ i x, ys[i]? = some x → ∃ cs, rt.rep w ok cs x ∧ ∀ j u, cs[j]? = some u → news[i * rt.n + j]? = some u := by
  have key : ∀ q, q < ys.length * rt.n → ∃ u, w.cell? ⟨b, o + q, none⟩ = some u ∧ u.oneCell' = true := by
    intro q hq
    have hi : q / rt.n < ys.length := (Nat.div_lt_iff_lt_mul h1).2 hq
    obtain ⟨cs, h2, h3⟩ := hc (q / rt.n) ys[q / rt.n] (List.getElem?_eq_getElem hi)
    have hl := rt.len h2
    have hj : q % rt.n < cs.length := by rw [hl]; exact Nat.mod_lt _ h1
    refine ⟨cs[q % rt.n], ?_, rt.one h2 _ (List.getElem_mem hj)⟩
    have := h3 (q % rt.n) _ (List.getElem?_eq_getElem hj)
    rw [show o + q / rt.n * rt.n + q % rt.n = o + q by have := Nat.div_add_mod q rt.n; rw [Nat.mul_comm] at this; omega] at this
    exact this
  refine ⟨(List.range (ys.length * rt.n)).map fun q => (w.cell? ⟨b, o + q, none⟩).getD undef, by simp, fun q u hu => ?_, fun u hu => ?_, fun i x hx => ?_⟩
  · have hq : q < ys.length * rt.n := by have := (List.getElem?_eq_some_iff.1 hu).1; simpa using this
    obtain ⟨v, h2, _⟩ := key q hq
    simp [hq, h2] at hu
    rw [h2, hu]
  · simp only [List.mem_map, List.mem_range] at hu
    obtain ⟨q, hq, rfl⟩ := hu
    obtain ⟨v, h2, h3⟩ := key q hq
    rw [h2]; exact h3
  obtain ⟨cs, h2, h3⟩ := hc i x hx
  refine ⟨cs, h2, fun j u hj => ?_⟩
  have hl := rt.len h2
  have hjl : j < rt.n := by rw [← hl]; exact (List.getElem?_eq_some_iff.1 hj).1
  have hil : i < ys.length := (List.getElem?_eq_some_iff.1 hx).1
  have hlt : i * rt.n + j < ys.length * rt.n := by
    have : (i + 1) * rt.n ≤ ys.length * rt.n := Nat.mul_le_mul_right _ hil
    rw [Nat.succ_mul] at this; omega
  have := h3 j u hj
  rw [Nat.add_assoc] at this
  simp [hlt, this]
theorem dn {α : Type} {rt : RT α} [NM rt] {z : α} {x y : Operand} {t e : TypeId} {nm off n d : Nat} {xs ys : List α} {r : List (Nat × SV)} {by_ : Nat} (ks : List Nat) (ht : P.underlying t = some (.slice e)) (he : Ty P e rt) (hz : TyZero P e rt z) (hn1 : Nat.ble 1 rt.n = true)
    (hby : (P.info? e).map (·.bytes) = some by_) (hx : Ev st x (.own nm rt.n off n)) (hn : az st.heap nm = some ⟨rt, xs⟩) (hle : off + n ≤ xs.length) (hy : Rd st y (ab rt) ys)
    (h63 : n + ys.length ≤ maxLen) (hb : (n + ys.length) * by_ ≤ 140737488355328) (hd : Nat.blt d cx.n = true) (hk : Keep st.slots ks r) (hf : di nm r = true) :
    OS P cx ⟨some d, .call { callee := .builtin .append, args := #[x, y], argTypes := #[t, t] }, ty, pos, aft, gd⟩ st ⟨(d, .own nm rt.n 0 (n + ys.length)) :: r, (nm, ⟨rt, (xs.drop off).take n ++ ys⟩) :: st.heap⟩ := by
  rintro a w ⟨β, hi⟩ Q
  have hn1' : 1 ≤ rt.n := by simpa using hn1
  have hX : ((xs.drop off).take n).length = n := by simp; omega
  have hr : InvB cx ⟨r, st.heap⟩ β a w := hi.sub ⟨hk.sub, fun _ _ h => h⟩
  have hxv : hdr β w nm rt.n off n (a.eval x) := hi.ev hx
  obtain ⟨ycs, ⟨A', cap', rfl, hy1, hy2, hy3⟩, hyv0⟩ := hy.val hi
  have hyv : a.eval y = .slice A' ys.length cap' := by rw [hyv0]; simp [ab]
  clear hyv0
  obtain ⟨_, i0, hi0, hs⟩ := he
  obtain ⟨i1, zv, hi1, hzv, hzval⟩ := hz
  have e0 : i1 = i0 := by rw [hi0] at hi1; injection hi1 with h; exact h.symm
  subst e0
  have hby' : i1.bytes = by_ := by simpa [hi0] using hby
  have hnb : (n + ys.length) * i1.bytes ≤ 140737488355328 := by rw [hby']; exact hb
  have hzs : zv.cells.size = rt.n := by have := rt.len (rt.val_cells (hzval w (fun _ => True))); simpa using this
  have hml : n + ys.length ≤ 9223372036854775807 := by have := h63; simp only [maxLen] at this; omega
  -- the same end for both ways that make a new block
  have fresh : ∀ (cs : Array Value) (cap : Nat) (w1 : World), Below w.heap.size w w1 → w1.heap.size = w.heap.size → n + ys.length ≤ cap → cap ≤ maxLen → cs.size = cap * rt.n →
      (∀ i x, ((xs.drop off).take n ++ ys)[i]? = some x → ∃ c, rt.rep w (bM cx st.heap β w) c x ∧ ∀ j u, c[j]? = some u → cs[i * rt.n + j]? = some u) →
      Inv cx ⟨(d, .own nm rt.n 0 (n + ys.length)) :: r, (nm, ⟨rt, (xs.drop off).take n ++ ys⟩) :: st.heap⟩ (a.put (some d) (.slice (some ⟨w.heap.size, 0, none⟩) (n + ys.length) cap)) (w1.alloc (.cells cs e)) := by
    intro cs cap w1 hb1 hsz hcap hcm hcs hrep
    have h0 : InvB cx ⟨r, b8 nm st.heap⟩ β a w1 := (InvB.sub (st := ⟨r, st.heap⟩) (st' := ⟨r, b8 nm st.heap⟩) ⟨fun _ _ h => h, bl nm _⟩ hr).later hb1
    have := h0.alloc (nm := nm) (rt := rt) (xs := (xs.drop off).take n ++ ys) (cs := cs) (e := e) hf (bC nm _) (by rw [List.length_append, hX, hcs]; exact Nat.mul_le_mul_right _ hcap) (fun i x hix => by
      obtain ⟨c, h1, h2⟩ := hrep i x hix
      exact ⟨c, rt.keep (fun b ⟨g1, g2, g3⟩ => ⟨⟨g1, by omega, fun k h hk => g3 k h (bl nm _ _ _ hk)⟩, hb1.block b g2⟩) h1, h2⟩)
    have h2 := this.put (d := d) (s := .own nm rt.n 0 (n + ys.length)) (v := .slice (some ⟨w.heap.size, 0, none⟩) (n + ys.length) cap) (by simpa using hd) (by
      simp only [SV.holds, hdr, if_pos]
      exact ⟨_, cap, rfl, hcap, hcm, .inr ⟨by simp [hsz], cs, e, _, heap_alloc_new w1 _, by simp [hcs]⟩⟩)
    refine ⟨_, InvB.toHeap (hp := (nm, ⟨rt, (xs.drop off).take n ++ ys⟩) :: b8 nm st.heap) h2 (fun i s h => ?_)⟩
    simp only [aW, gS] at h ⊢
    split at h
    · rename_i e1; rw [if_pos e1]; exact h
    rename_i e1; rw [if_neg e1, if_neg (Ne.symm e1)]; exact h
  -- nothing is appended to nothing
  have cellsY : ys ≠ [] → ∃ b' o', A' = some ⟨b', o', none⟩ ∧ ∃ news : List Value, news.length = ys.length * rt.n ∧ (∀ q u, news[q]? = some u → w.cell? ⟨b', o' + q, none⟩ = some u) ∧ (∀ u ∈ news, u.oneCell' = true) ∧
      ∀ i x, ys[i]? = some x → ∃ cs, rt.rep w (bM cx st.heap β w) cs x ∧ ∀ j u, cs[j]? = some u → news[i * rt.n + j]? = some u := fun hne => by
    obtain ⟨b', o', h1, _, h3⟩ := hy3 hne
    exact ⟨b', o', h1, uv hn1' h3⟩
  have run_of : ∀ v w', (Builtin.append_ #[t, t] ty #[a.eval x, a.eval y]).run P w = .ok v w' → (execOp a.eval ⟨some d, .call { callee := .builtin .append, args := #[x, y], argTypes := #[t, t] }, ty, pos, aft, gd⟩).run P w = .ok (.value v) w' := fun v w' h => by
    simp [execOp, resolve, invoke, builtin, h]
  by_cases hY : ys = []
  · -- the head stays aS it is
    subst hY
    simp only [List.length_nil, Nat.add_zero, List.append_nil] at *
    obtain ⟨A, cap, hxe⟩ := j6 hxv
    have hnc : n ≤ cap := by
      unfold hdr at hxv
      split at hxv
      · omega
      obtain ⟨A2, cap2, h1, h2, _⟩ := hxv
      rw [hxe] at h1; injection h1 with _ _ h1; omega
    have hrun : (Builtin.append_ #[t, t] ty #[a.eval x, a.eval y]).run P w = .ok (a.eval x) w := by
      rw [hyv, hxe]
      cases A' with
      | none => cases A <;> simp [Builtin.append_, run_underlying ht, sizeOf, typeInfo, hi0, Builtin.lenOf, hnc, Builtin.firstCells, storeCells]
      | some q => cases A <;> simp [Builtin.append_, run_underlying ht, sizeOf, typeInfo, hi0, Builtin.lenOf, hnc, Builtin.firstCells, loadCells, loadCellsFrom, storeCells]
    unfold Oper.wp
    rw [run_of _ _ hrun, Oper.upon_value]
    -- the row, from off on
    unfold hdr at hxv
    cases hb0 : β nm with
    | none =>
      rw [hb0] at hxv
      obtain ⟨hxv, rfl⟩ := hxv
      have hxs : xs = [] := by have := hi.rows nm _ hn; rw [hb0] at this; exact this
      subst hxs
      have h2 := hr.put (d := d) (s := .own nm rt.n 0 0) (v := a.eval x) (by simpa using hd) (by simp only [SV.holds, hdr, hb0]; exact ⟨hxv, trivial⟩)
      refine ⟨β, InvB.toHeap (hp := st.heap) h2 (fun i s h => ?_)⟩
      simp only [aW, List.take_zero] at h
      split at h
      · rename_i e1; subst e1; injection h with h; subst h; exact hn
      exact h
    | some q =>
      obtain ⟨b, o⟩ := q
      rw [hb0] at hxv
      obtain ⟨A2, cap2, h1, h2, h3, h4⟩ := hxv
      obtain ⟨cur, e', h5, h6, h7⟩ := gX hi hn hb0
      have hlen' : o + off * rt.n + n * rt.n ≤ cur.size := by
        have : (off + n) * rt.n ≤ xs.length * rt.n := Nat.mul_le_mul_right _ hle
        rw [Nat.add_mul] at this; omega
      have hset := InvB.setRow (rt' := rt) (xs' := (xs.drop off).take n) (cur' := cur) (o' := o + off * rt.n) hr hn hb0 h5 rfl (.inr hf) (by rw [hX]; exact hlen') (fun i x hix => by
        have hin : i < n := by rw [← hX]; exact (List.getElem?_eq_some_iff.1 hix).1
        rw [List.getElem?_take_of_lt hin, List.getElem?_drop] at hix
        obtain ⟨cs, h8, h9⟩ := h7 _ x hix
        exact ⟨cs, h8, fun j u hj => by rw [show o + off * rt.n + i * rt.n + j = o + (off + i) * rt.n + j by rw [Nat.add_mul]; omega]; exact h9 j u hj⟩)
      rw [setRow_self w b cur e' (0, 0) h5] at hset
      refine ⟨_, hset.put (by simpa using hd) ?_⟩
      simp only [SV.holds, hdr, if_pos]
      refine ⟨A2, cap2, h1, h2, h3, ?_⟩
      rcases h4 with h4 | ⟨h4, cur2, e2, fr2, h8, h9⟩
      · exact .inl h4
      refine .inr ⟨by rw [h4]; simp, cur2, e2, fr2, h8, ?_⟩
      rw [Nat.add_mul] at h9; simp only [Nat.zero_add]; omega
  obtain ⟨b', o', rfl, news, hn2, hn3, hn4, hn5⟩ := cellsY hY
  have hpos : 0 < ys.length := List.length_pos_iff.2 hY
  have hn3' : ∀ j v, news[j]? = some v → w.cell? ((⟨b', o', none⟩ : Addr).add j) = some v := fun j v hj => by rw [Addr.add_lit]; exact hn3 j v hj
  unfold hdr at hxv
  -- from nothing
  have fromNil : n = 0 → a.eval x = .slice none 0 0 → (execOp a.eval ⟨some d, .call { callee := .builtin .append, args := #[x, y], argTypes := #[t, t] }, ty, pos, aft, gd⟩ |>.run P w) =
      .ok (.value (.slice (some ⟨w.heap.size, 0, none⟩) (n + ys.length) (grownCap w ys.length 0 e))) (w.drew.alloc (.cells (news.toArray ++ Builtin.zeroCells zv.cells (grownCap w ys.length 0 e - ys.length)) e)) := fun h0 hx0 => by
    subst h0
    refine run_of _ _ ?_
    rw [hx0, hyv, Nat.zero_add]
    exact run_append_nil (P := P) w t ty e i1 zv ht hi0 hzv ⟨b', o', none⟩ ys.length cap' news (by rw [hn2, hs]) hn3' hpos (by omega) (by have h := hnb; rw [Nat.zero_add] at h; omega)
  have grow : ∀ (ad : Addr) (cap : Nat) (olds : List Value), a.eval x = .slice (some ad) n cap → cap < n + ys.length → olds.length = n * rt.n → (∀ j v, olds[j]? = some v → w.cell? (ad.add j) = some v) →
      (execOp a.eval ⟨some d, .call { callee := .builtin .append, args := #[x, y], argTypes := #[t, t] }, ty, pos, aft, gd⟩ |>.run P w) =
      .ok (.value (.slice (some ⟨w.heap.size, 0, none⟩) (n + ys.length) (grownCap w (n + ys.length) cap e))) (w.drew.alloc (.cells (olds.toArray ++ news.toArray ++ Builtin.zeroCells zv.cells (grownCap w (n + ys.length) cap e - (n + ys.length))) e)) := fun ad cap olds hx0 hc ho1 ho2 => by
    refine run_of _ _ ?_
    rw [hx0, hyv]
    exact run_append_grow (P := P) w t ty e i1 zv ht hi0 hzv ad n cap olds (by rw [ho1, hs]) ho2 ⟨b', o', none⟩ ys.length cap' news (by rw [hn2, hs]) hn3' hc (by omega) (growslice_fits (by omega) hnb)
  have endFresh : ∀ (olds : List Value) (cap : Nat), olds.length = n * rt.n → n + ys.length ≤ cap → cap ≤ maxLen →
      (∀ i x, ((xs.drop off).take n)[i]? = some x → ∃ c, rt.rep w (bM cx st.heap β w) c x ∧ ∀ j u, c[j]? = some u → olds[i * rt.n + j]? = some u) →
      Inv cx ⟨(d, .own nm rt.n 0 (n + ys.length)) :: r, (nm, ⟨rt, (xs.drop off).take n ++ ys⟩) :: st.heap⟩ (a.put (some d) (.slice (some ⟨w.heap.size, 0, none⟩) (n + ys.length) cap)) (w.drew.alloc (.cells (olds.toArray ++ news.toArray ++ Builtin.zeroCells zv.cells (cap - (n + ys.length))) e)) := by
    intro olds cap ho1 hc hcm ho2
    refine fresh _ cap w.drew (Below.drew' w) rfl hc hcm ?_ (fun i x hix => ?_)
    · simp only [Array.size_append, List.size_toArray, size_zeroCells, hzs, ho1, hn2, ← Nat.add_mul]
      congr 1; omega
    have hget : ∀ q, q < (n + ys.length) * rt.n → (olds.toArray ++ news.toArray ++ Builtin.zeroCells zv.cells (cap - (n + ys.length)))[q]? = (olds ++ news)[q]? := by
      intro q hq
      rw [Array.getElem?_append_left (by simp only [Array.size_append, List.size_toArray, ho1, hn2, ← Nat.add_mul]; exact hq)]
      simp
    rcases Nat.lt_or_ge i n with h | h
    · rw [List.getElem?_append_left (by omega)] at hix
      obtain ⟨cs, h1, h2⟩ := ho2 i x hix
      refine ⟨cs, h1, fun j u hj => ?_⟩
      have h3 := h2 j u hj
      have h4 := (List.getElem?_eq_some_iff.1 h3).1
      rw [hget _ (by rw [ho1] at h4; rw [Nat.add_mul]; omega), List.getElem?_append_left h4]
      exact h3
    rw [List.getElem?_append_right (by omega), hX] at hix
    obtain ⟨cs, h1, h2⟩ := hn5 (i - n) x hix
    refine ⟨cs, h1, fun j u hj => ?_⟩
    have h3 := h2 j u hj
    have h4 := (List.getElem?_eq_some_iff.1 h3).1
    have h5 : i * rt.n = n * rt.n + (i - n) * rt.n := by rw [← Nat.add_mul]; congr 1; omega
    rw [hget _ (by rw [hn2] at h4; rw [Nat.add_mul]; omega), List.getElem?_append_right (by rw [ho1]; omega), ho1, show i * rt.n + j - n * rt.n = (i - n) * rt.n + j by omega]
    exact h3
  unfold Oper.wp
  cases hb0 : β nm with
  | none =>
    rw [hb0] at hxv
    obtain ⟨hx0, h0⟩ := hxv
    rw [fromNil h0 hx0, Oper.upon_value]
    have := endFresh [] (grownCap w ys.length 0 e) (by simp [h0]) (by rw [h0, Nat.zero_add]; exact grownCap_ge w _ _ _) (grownCap_le_maxLen w _ _ _ (by omega)) (fun i x hix => by rw [h0] at hix; simp at hix)
    rw [h0, Nat.zero_add] at this ⊢
    simpa using this
  | some q =>
    obtain ⟨b, o⟩ := q
    rw [hb0] at hxv
    obtain ⟨A, cap, hx0, h2, h3, h4⟩ := hxv
    obtain ⟨cur, e', h5, h6, h7⟩ := gX hi hn hb0
    have hnle : o + off * rt.n + n * rt.n ≤ cur.size := by
      have : (off + n) * rt.n ≤ xs.length * rt.n := Nat.mul_le_mul_right _ hle
      rw [Nat.add_mul] at this; omega
    rcases h4 with ⟨rfl, rfl⟩ | ⟨h4, cur2, e2, fr2, h8, h9⟩
    · cases A with
      | none =>
        rw [fromNil rfl hx0, Oper.upon_value]
        have := endFresh [] (grownCap w ys.length 0 e) (by simp) (by rw [Nat.zero_add]; exact grownCap_ge w _ _ _) (grownCap_le_maxLen w _ _ _ (by omega)) (fun i x hix => by simp at hix)
        rw [Nat.zero_add] at this ⊢
        simpa using this
      | some ad =>
        rw [grow ad 0 [] hx0 (by omega) (by simp) (fun j v hj => by simp at hj), Oper.upon_value]
        exact endFresh [] _ (by simp) (grownCap_ge w _ _ _) (grownCap_le_maxLen w _ _ _ h63) (fun i x hix => by simp at hix)
    subst h4
    rw [h5] at h8
    injection h8 with h8
    injection h8 with h8 _ _
    subst h8
    by_cases hroom : n + ys.length ≤ cap
    · -- in place
      have hsm : o + off * rt.n + n * rt.n + ys.length * rt.n ≤ cur.size := by
        have : (n + ys.length) * rt.n ≤ cap * rt.n := Nat.mul_le_mul_right _ hroom
        rw [Nat.add_mul] at this h9; omega
      have hst := run_storeCells_at P b (o + off * rt.n + n * rt.n) e' news 0 cur w h5 (by rw [hn2]; omega) hn4
      simp only [Nat.add_zero, hn2] at hst
      have hf2 := run_firstCells_some (P := P) w rt.n ys.length ⟨b', o', none⟩ ys.length cap' news hn2 hn3'
      have hrun : (Builtin.append_ #[t, t] ty #[a.eval x, a.eval y]).run P w = .ok (.slice (some ⟨b, o + off * rt.n, none⟩) (n + ys.length) cap) (w.setRow b (cur.toList.take (o + off * rt.n + n * rt.n) ++ news ++ cur.toList.drop (o + off * rt.n + n * rt.n + ys.length * rt.n)).toArray) := by
        rw [hx0, hyv]
        simp [Builtin.append_, run_underlying ht, sizeOf, typeInfo, hi0, Builtin.lenOf, hroom, hs, hf2, Addr.add_lit, hst]
      rw [run_of _ _ hrun, Oper.upon_value]
      have hcl : cur.toList.length = cur.size := by simp
      have hset := InvB.setRow (rt' := rt) (xs' := (xs.drop off).take n ++ ys) (cur' := (cur.toList.take (o + off * rt.n + n * rt.n) ++ news ++ cur.toList.drop (o + off * rt.n + n * rt.n + ys.length * rt.n)).toArray) (o' := o + off * rt.n) hr hn hb0 h5 (by simp [hn2]; omega) (.inr hf) (by rw [List.length_append, hX, Nat.add_mul]; simp [hn2]; omega) (fun i x hix => by
        have hget1 : ∀ q, q < o + off * rt.n + n * rt.n → (cur.toList.take (o + off * rt.n + n * rt.n) ++ news ++ cur.toList.drop (o + off * rt.n + n * rt.n + ys.length * rt.n)).toArray[q]? = cur[q]? := fun q hq => by
          rw [List.getElem?_toArray, List.append_assoc, List.getElem?_append_left (by simp; omega), List.getElem?_take_of_lt hq]; simp
        have hget2 : ∀ q, q < ys.length * rt.n → (cur.toList.take (o + off * rt.n + n * rt.n) ++ news ++ cur.toList.drop (o + off * rt.n + n * rt.n + ys.length * rt.n)).toArray[o + off * rt.n + n * rt.n + q]? = news[q]? := fun q hq => by
          have e1 : (cur.toList.take (o + off * rt.n + n * rt.n)).length = o + off * rt.n + n * rt.n := by simp; omega
          rw [List.getElem?_toArray, List.append_assoc, List.getElem?_append_right (by omega), e1, List.getElem?_append_left (by omega)]
          congr 1; omega
        rcases Nat.lt_or_ge i n with h | h
        · rw [List.getElem?_append_left (by omega), List.getElem?_take_of_lt h, List.getElem?_drop] at hix
          obtain ⟨cs, g1, g2⟩ := h7 _ x hix
          refine ⟨cs, g1, fun j u hj => ?_⟩
          have hjl : j < rt.n := by rw [← rt.len g1]; exact (List.getElem?_eq_some_iff.1 hj).1
          have : (i + 1) * rt.n ≤ n * rt.n := Nat.mul_le_mul_right _ h
          rw [Nat.succ_mul] at this
          rw [hget1 _ (by omega), show o + off * rt.n + i * rt.n + j = o + (off + i) * rt.n + j by rw [Nat.add_mul]; omega]
          exact g2 j u hj
        rw [List.getElem?_append_right (by omega), hX] at hix
        obtain ⟨cs, g1, g2⟩ := hn5 (i - n) x hix
        refine ⟨cs, g1, fun j u hj => ?_⟩
        have g3 := g2 j u hj
        have g4 := (List.getElem?_eq_some_iff.1 g3).1
        have g5 : i * rt.n = n * rt.n + (i - n) * rt.n := by rw [← Nat.add_mul]; congr 1; omega
        rw [show o + off * rt.n + i * rt.n + j = o + off * rt.n + n * rt.n + ((i - n) * rt.n + j) by omega, hget2 _ (by omega)]
        exact g3)
      refine ⟨_, hset.put (by simpa using hd) ?_⟩
      simp only [SV.holds, hdr, if_pos]
      refine ⟨_, cap, rfl, hroom, h3, .inr ⟨by simp, _, _, _, setRow_heap _ _ _ _ _ _ h5, ?_⟩⟩
      rw [Nat.add_mul] at h9
      simp only [Nat.zero_add, List.size_toArray, List.length_append, List.length_take, List.length_drop, hcl, hn2]
      omega
    have ho2 : ∀ i x, ((xs.drop off).take n)[i]? = some x → ∃ cs, rt.rep w (bM cx st.heap β w) cs x ∧ CellsAt w b (o + off * rt.n + i * rt.n) cs := fun i x hix => by
      have hin : i < n := by rw [← hX]; exact (List.getElem?_eq_some_iff.1 hix).1
      rw [List.getElem?_take_of_lt hin, List.getElem?_drop] at hix
      obtain ⟨cs, g1, g2⟩ := h7 _ x hix
      refine ⟨cs, g1, fun j u hj => ?_⟩
      rw [show o + off * rt.n + i * rt.n + j = o + (off + i) * rt.n + j by rw [Nat.add_mul]; omega]
      have := g2 j u hj
      simp [World.cell?, h5, this]
    obtain ⟨olds, g1, g2, _, g4⟩ := uv hn1' ho2
    rw [hX] at g1
    rw [grow ⟨b, o + off * rt.n, none⟩ cap olds hx0 (by omega) g1 (fun j v hj => by rw [Addr.add_lit]; exact g2 j v hj), Oper.upon_value]
    exact endFresh olds _ g1 (grownCap_ge w _ _ _) (grownCap_le_maxLen w _ _ _ h63) g4
end
end Go.Eng
namespace Go.Eng
section
variable {P : Program} {cx : Cx} {st st' : St} {β : Loc} {a : Act} {w w' : World} {ops : Array Oper} {k : Kn} {c : Code}
variable {dst : Option Tmp} {ty : TypeId} {pos : String} {aft : Array Edge} {gd : Option (Nat × Bool)}
theorem ax {α γ : Type} {rt : RT α} [NM rt] {rt' : RT γ} [NM rt'] {get : α → γ} {set : α → γ → α} {nm i f ad : Nat} {xs : List α} {y : α} {t : TypeId} (ht : Ty P t rt') (hs : a8 st.slots ad = some (.optr nm rt.n i f)) (hn : az st.heap nm = some ⟨rt, xs⟩) (hy : xs[i]? = some y) (hl : Lens rt f rt' get set) :
    Res P cx st (.cell ad t) (SV.of rt' (get y)) := fun β a w hi => by
  obtain ⟨v, h1, b, o, h2, h3⟩ := hi.slots ad _ hs
  obtain ⟨cs, h4, h5⟩ := pQ (gX hi hn h2) hy hl
  obtain ⟨u, h6, h7⟩ := jq (P := P) ht h4 h5
  exact ⟨u, by simp [mn, h1, h3, asAddr, h6], lm h7⟩
def qG {α : Type} (rt : RT α) : Prop := ∀ {w w' : World} {ok ok' : Ok} {cs : List Value} {d : α}, rt.rep w ok cs d → rt.rep w' ok' cs d
theorem ip (k : IntKind) : qG (ak k) := fun h => h
theorem ke {α γ : Type} {a : RT α} {b : RT γ} (ha : qG a) (hb : qG b) : qG (bO a b) := fun ⟨c1, c2, h, h1, h2⟩ => ⟨c1, c2, h, ha h1, hb h2⟩
def SV.Flat (s : SV) : Prop := ∀ {β β' : Loc} {w w' : World} {ok ok' : Ok} {v : Value}, s.holds β w ok v → s.holds β' w' ok' v
theorem io {v : Value} : (SV.raw v).Flat := fun h => h
theorem Cv {α : Type} {rt : RT α} [NM rt] {d : α} (h : qG rt) : (SV.tv rt d).Flat := fun ⟨cs, h1, h2⟩ => ⟨cs, h h1, h2⟩
theorem xK {s0 s1 : SV} (h0 : s0.Flat) (h1 : s1.Flat) : (SV.tup2 s0 s1).Flat := fun ⟨x, y, h, k0, k1⟩ => ⟨x, y, h, h0 k0, h1 k1⟩
inductive ArgsB (st : St) : List Operand → List SV → Prop
  | nil : ArgsB st [] []
  | cons {x : Operand} {s : SV} {xs : List Operand} {ss : List SV} (h : Ev st x s) (hp : s.plain = true) (hr : ArgsB st xs ss) : ArgsB st (x :: xs) (s :: ss)
  | nilS {α : Type} {rt : RT α} {x : Operand} {xs : List Operand} {ss : List SV} (h : Ev st x (.raw (.slice none 0 0))) (hr : ArgsB st xs ss) : ArgsB st (x :: xs) (.tv (ab rt) [] :: ss)
  | lit {α : Type} {rt : RT α} {d : α} {v : Value} {x : Operand} {xs : List Operand} {ss : List SV} (h : Ev st x (.raw v)) (hv : ∀ w ok, rt.val w ok v d) (hr : ArgsB st xs ss) : ArgsB st (x :: xs) (.tv rt d :: ss)
  | own {α : Type} {rt : RT α} {ds : List α} {nm off n : Nat} {x : Operand} {xs : List Operand} {ss : List SV} (h : Ev st x (.own nm rt.n off n)) (hn : az st.heap nm = some ⟨rt, ds⟩) (hle : off + n ≤ ds.length) (hr : ArgsB st xs ss) (hm : rt.mp = false := by rfl) : ArgsB st (x :: xs) (.tv (ab rt) ((ds.drop off).take n) :: ss)
theorem InvB.own_lt (hi : InvB cx st β a w) {nm : Nat} {hb : HB} (hn : az st.heap nm = some hb) {b o : Nat} (h : β nm = some (b, o)) : b < w.heap.size := (hi.own nm hb hn (b, o) h).2
theorem ArgsB.holds : ∀ {xs : List Operand} {aS : List SV}, ArgsB st xs aS → ∀ {st' : St}, (∀ x ∈ xs, evS st' x = evS st x) → (∀ x ∈ xs, ∀ s nm, Ev st x s → s.free nm = false → az st'.heap nm = az st.heap nm) → InvB cx st' β a w → eg w (fun b => b < w.heap.size) aS (xs.map a.eval)
  | _, _, .nil, _, _, _, _ => rfl
  | _, _, .cons (x := x) h hp hr, st', hx, hh, hi =>
    ⟨_, _, rfl, SV.plain_keep hp (fun b hb => ⟨hb.2.1, rfl⟩) (hi.ev (h.tr (hx x (by simp)))), hr.holds (fun y hy => hx y (by simp [hy])) (fun y hy => hh y (by simp [hy])) hi⟩
  | _, _, .nilS (x := x) h hr, st', hx, hh, hi =>
    ⟨_, _, rfl, by rw [hi.raw (h.tr (hx x (by simp)))]; exact kz, hr.holds (fun y hy => hx y (by simp [hy])) (fun y hy => hh y (by simp [hy])) hi⟩
  | _, _, .lit (x := x) h hv hr, st', hx, hh, hi =>
    ⟨_, _, rfl, by rw [hi.raw (h.tr (hx x (by simp)))]; exact hv _ _, hr.holds (fun y hy => hx y (by simp [hy])) (fun y hy => hh y (by simp [hy])) hi⟩
  | _, _, .own (x := x) h hn hle hr hm, st', hx, hh, hi =>
    have : NM _ := ⟨hm⟩
    ⟨_, _, rfl, eJ hi ((hh x (by simp) _ _ h (by simp [SV.free])).trans hn) (hi.ev (h.tr (hx x (by simp)))) hle (fun _ hb => hb.2.1) (fun _ _ hb => hi.own_lt ((hh x (by simp) _ _ h (by simp [SV.free])).trans hn) hb), hr.holds (fun y hy => hx y (by simp [hy])) (fun y hy => hh y (by simp [hy])) hi⟩
theorem tF {k : FuncId} {aS : List SV} {r : SV} {xs : List Operand} {ts : Array TypeId} (h : Ct P k aS r) (ha : ArgsB st xs aS) (hr : r.Flat) :
    Adr P cx st ⟨dst, .call { callee := .value (.func k), args := xs.toArray, argTypes := ts }, ty, pos, aft, gd⟩ r := by
  intro st' hag d hd hdn a w ⟨β, hi⟩ Q
  have hargs := ha.holds (cx := cx) (β := β) (a := a) (w := w) (st' := st') (fun x hx => hag.ops x (by simp [Op.operands, Call.operands, hx])) (fun x hx s nm he hf => hag.look (by simp [Op.operands, Call.operands, hx]) he hf) hi
  have hrun : (execOp a.eval ⟨dst, .call { callee := .value (.func k), args := xs.toArray, argTypes := ts }, ty, pos, aft, gd⟩).run P w = .ok (.enter k (xs.map a.eval).toArray) w := by
    simp [execOp, resolve, Act.eval, Deferred.ofValue, invoke, h.ent]
  unfold Oper.wp
  rw [hrun, Oper.upon_enter]
  refine (h.calls w _ _ (fun b hb => hb) hargs).mono ?_
  rintro e w' ⟨v, rfl, hb, hv⟩
  have hb := hb.plain (fun _ h => h)
  subst hd
  exact ⟨β, (hi.later hb).put hdn (hr hv)⟩
def o4 {α : Type} [BEq α] (P : Program) (t : TypeId) (rt : RT α) (d0 : Nat) : Prop :=
  ∀ (d : Nat) (w : World) (ok : Ok) (v1 v2 : Value) (x y : α), d0 ≤ d → rt.val w ok v1 x → rt.val w ok v2 y → (Op.equalIn d t v1 v2).run P w = .ok (x == y) w
theorem jR {t : TypeId} {k : IntKind} (h : P.underlying t = some (.int k)) : o4 P t (ak k) 1 := by
  rintro (_ | d) w ok v1 v2 x y hd ⟨_, rfl, rfl⟩ ⟨_, rfl, rfl⟩
  · omega
  exact run_equalIn_int w d t k k x y h
theorem qV (l : List UInt8) : (ByteArray.mk l.toArray).toList = l := by rw [ByteArray.toList_eq]
def EqF {α : Type} [BEq α] (P : Program) (fs : List Field) (off : Nat) (rt : RT α) (d0 : Nat) : Prop :=
  ∀ (d : Nat) (w : World) (ok : Ok) (xs ys : Array Value) (x y : α), d0 ≤ d → rt.rep w ok (xs.toList.drop off) x → rt.rep w ok (ys.toList.drop off) y → (Op.eqFields d xs ys fs).run P w = .ok (x == y) w
theorem mG {α : Type} {t : TypeId} {rt : RT α} [NM rt] (ht : Ty P t rt) {ok : Ok} {xs : Array Value} {off : Nat} {x : α} (h : rt.rep w ok ((xs.toList.drop off).take rt.n) x) : ∃ v, (part t xs off).run P w = .ok v w ∧ rt.val w ok v x := by
  obtain ⟨⟨de, hu, hd⟩, i, hi, hs⟩ := ht
  cases ha : rt.agg with
  | true =>
    refine ⟨.agg (xs.extract off (off + rt.n)), by simp [part, lN hu, hd, ha, dM hi, hs], _, h, ?_⟩
    simp only [ha, if_true]
    congr 1
    apply Array.ext'
    simp [List.extract_eq_take_drop]
  | false =>
    obtain ⟨c, hc⟩ := pT rt ha h
    have hn := rt.scal ha
    have h0 : xs[off]? = some c := by
      have : ((xs.toList.drop off).take rt.n)[0]? = some c := by rw [hc]; rfl
      rw [hn, List.getElem?_take_of_lt (by omega), List.getElem?_drop] at this
      simpa using this
    exact ⟨c, by simp [part, lN hu, hd, ha, h0], [c], by rw [← hc]; exact h, by simp [ha]⟩
theorem nQ {α : Type} [BEq α] {f : Field} {off d0 : Nat} {rt : RT α} [NM rt] (hn : f.name ≠ "_") (ho : f.offset = off) (ht : Ty P f.type rt) (he : o4 P f.type rt d0) : EqF P [f] off rt d0 := by
  intro d w ok xs ys x y hd hx hy
  have hx' : rt.rep w ok ((xs.toList.drop off).take rt.n) x := by rw [List.take_of_length_le (Nat.le_of_eq (rt.len hx))]; exact hx
  have hy' : rt.rep w ok ((ys.toList.drop off).take rt.n) y := by rw [List.take_of_length_le (Nat.le_of_eq (rt.len hy))]; exact hy
  obtain ⟨v1, h1, h2⟩ := mG (P := P) ht hx'
  obtain ⟨v2, h3, h4⟩ := mG (P := P) ht hy'
  have h5 := he d w ok v1 v2 x y hd h2 h4
  simp only [Op.eqFields, if_pos hn, ho, Sem.run_bind, h1, Result.andThen_ok, h3, h5]
  cases x == y <;> simp
theorem kg {α γ : Type} [BEq α] [BEq γ] {f : Field} {fs : List Field} {off off' d0 : Nat} {rt : RT α} [NM rt] {rt' : RT γ} [NM rt'] (hn : f.name ≠ "_") (ho : f.offset = off) (ht : Ty P f.type rt) (he : o4 P f.type rt d0) (hf : EqF P fs off' rt' d0) (hoff : off' = off + rt.n) : EqF P (f :: fs) off (bO rt rt') d0 := by
  subst hoff
  intro d w ok xs ys x y hd hx hy
  obtain ⟨c1, c2, hxc, hx1, hx2⟩ := hx
  obtain ⟨e1, e2, hyc, hy1, hy2⟩ := hy
  have hl1 := rt.len hx1
  have hl2 := rt.len hy1
  have hx' : rt.rep w ok ((xs.toList.drop off).take rt.n) x.1 := by rw [hxc, List.take_append_of_le_length (by omega), List.take_of_length_le (by omega)]; exact hx1
  have hy' : rt.rep w ok ((ys.toList.drop off).take rt.n) y.1 := by rw [hyc, List.take_append_of_le_length (by omega), List.take_of_length_le (by omega)]; exact hy1
  have hx'' : rt'.rep w ok (xs.toList.drop (off + rt.n)) x.2 := by rw [← List.drop_drop, hxc, List.drop_append, List.drop_of_length_le (by omega), hl1, Nat.sub_self]; exact hx2
  have hy'' : rt'.rep w ok (ys.toList.drop (off + rt.n)) y.2 := by rw [← List.drop_drop, hyc, List.drop_append, List.drop_of_length_le (by omega), hl2, Nat.sub_self]; exact hy2
  obtain ⟨v1, h1, h2⟩ := mG (P := P) ht hx'
  obtain ⟨v2, h3, h4⟩ := mG (P := P) ht hy'
  have h5 := he d w ok v1 v2 x.1 y.1 hd h2 h4
  have h6 := hf d w ok xs ys x.2 y.2 hd hx'' hy''
  simp only [Op.eqFields, if_pos hn, ho, Sem.run_bind, h1, Result.andThen_ok, h3, h5]
  have hb : (x == y) = (x.1 == y.1 && x.2 == y.2) := rfl
  rw [hb]
  cases x.1 == y.1
  · simp
  simp [h6]
theorem l0 {α : Type} [BEq α] {t : TypeId} {rt : RT α} [NM rt] {fs : List Field} {d0 : Nat} (hag : rt.agg = true) (hu : P.underlying t = some (.struct (P.fieldsOf t))) (hfs : (P.fieldsOf t).toList = fs) (hp : P.stoodInHeld t = false) (hf : EqF P fs 0 rt d0) : o4 P t rt (d0 + 1) := by
  rintro (_ | d) w ok v1 v2 x y hd ⟨c1, h1, rfl⟩ ⟨c2, h2, rfl⟩
  · omega
  simp only [hag, if_true]
  rw [run_equalIn_struct w d t _ _ hu hp, hfs]
  exact hf d w ok _ _ x y (by omega) (by simpa using h1) (by simpa using h2)
theorem gY {α : Type} [BEq α] {rt : RT α} [NM rt] {x y : Operand} {t yt : TypeId} {p q : α} {d0 : Nat} (he : o4 P t rt d0) (hd0 : Nat.ble d0 10000 = true) (hag : rt.agg = true) (hm : P.eqGuardType P.depth t = false) (hx : Rd st x rt p) (hy : Rd st y rt q) :
    Adr P cx st ⟨dst, .binOp .eql t x y yt, ty, pos, aft, gd⟩ (.raw (.bool (p == q))) :=
  bD fun st' hag' β a w hi => by
    have h1 := (hx.tr (hag'.ops x (by simp [Op.operands]))).val hi
    have h2 := (hy.tr (hag'.ops y (by simp [Op.operands]))).val hi
    have h3 := he 10000 w _ _ _ p q (by simpa using hd0) h1 h2
    obtain ⟨c1, _, e1⟩ := h1
    obtain ⟨c2, _, e2⟩ := h2
    simp only [hag, if_true] at e1 e2
    rw [e1, e2] at h3
    exact ⟨.bool (p == q), by simp [execOp, e1, e2, run_eqGuard_agg, hm, run_eql_struct, h3], rfl⟩
theorem mO {α : Type} [BEq α] {rt : RT α} [NM rt] {x y : Operand} {t yt : TypeId} {p q : α} {d0 : Nat} (he : o4 P t rt d0) (hd0 : Nat.ble d0 10000 = true) (hag : rt.agg = true) (hm : P.eqGuardType P.depth t = false) (hx : Rd st x rt p) (hy : Rd st y rt q) :
    Adr P cx st ⟨dst, .binOp .neq t x y yt, ty, pos, aft, gd⟩ (.raw (.bool (p != q))) :=
  bD fun st' hag' β a w hi => by
    have h1 := (hx.tr (hag'.ops x (by simp [Op.operands]))).val hi
    have h2 := (hy.tr (hag'.ops y (by simp [Op.operands]))).val hi
    have h3 := he 10000 w _ _ _ p q (by simpa using hd0) h1 h2
    obtain ⟨c1, _, e1⟩ := h1
    obtain ⟨c2, _, e2⟩ := h2
    simp only [hag, if_true] at e1 e2
    rw [e1, e2] at h3
    exact ⟨.bool (p != q), by simp [execOp, e1, e2, run_eqGuard_agg, hm, run_neq_struct, h3, bne], rfl⟩
theorem gH {nm off n : Nat} {α : Type} {rt : RT α} [NM rt] {x : Operand} {lo hi : Option Operand} {t e : TypeId} {l h : Nat} (ht : P.underlying t = some (.slice e)) (he : Ty P e rt) (hx : Ev st x (.own nm rt.n off n))
    (hlo : match lo with | none => l = 0 | some y => ∃ (k : IntKind) (i : Int), Ev st y (.raw (.int k i)) ∧ i = (l : Int)) (hhi : match hi with | none => h = n | some y => ∃ (k : IntKind) (i : Int), Ev st y (.raw (.int k i)) ∧ i = (h : Int))
    (hlh : l ≤ h) (hle : h ≤ n) : Adr P cx st ⟨dst, .slice t x lo hi none, ty, pos, aft, gd⟩ (.own nm rt.n (off + l) (h - l)) :=
  bD fun st' hag β a w hiv => by
    have hv := hiv.ev (hag.ev (by simp [Op.operands]) hx)
    obtain ⟨A, cap, h1⟩ := j6 hv
    obtain ⟨_, i0, hi0, hs⟩ := he
    have hnc : n ≤ cap := by
      simp only [SV.holds, hdr] at hv
      split at hv
      · omega
      obtain ⟨A2, cap2, g1, g2, _⟩ := hv
      rw [h1] at g1; injection g1 with _ _ g1; omega
    have hbounds : (Instr.sliceBounds true n cap (lo.map a.eval) (hi.map a.eval) none).run P w = .ok (l, h, cap) w := by
      have hlo' : ∀ m, l ≤ m → (match lo.map a.eval with | some v => Instr.sliceBound v m (if (none : Option Value).isSome then .slice3C else .sliceB) | none => pure 0 : Sem Nat).run P w = .ok l w := by
        intro m hm
        cases lo with
        | none => simp at hlo; simp [hlo]
        | some y =>
          obtain ⟨k, i, hy, hil⟩ := hlo
          have h5 := hiv.raw (hag.ev (by cases hi <;> simp [Op.operands]) hy)
          have hb : 0 ≤ i ∧ i ≤ (m : Int) := by omega
          have hn : i.toNat = l := by omega
          simp [h5, Instr.sliceBound, asIntOf, hb, hn]
      cases hi with
      | none =>
        simp at hhi
        have hl' := hlo' n (by omega)
        cases lo with
        | none => simp at hlo; simp [Instr.sliceBounds, hlo, hhi]
        | some y => simp at hl'; simp [Instr.sliceBounds, hl', hhi]
      | some y =>
        obtain ⟨k, i, hy, hih⟩ := hhi
        have h5 := hiv.raw (hag.ev (by cases lo <;> simp [Op.operands]) hy)
        have hb : 0 ≤ i ∧ i ≤ (cap : Int) := by omega
        have hn : i.toNat = h := by omega
        have hh' : (Instr.sliceBound (a.eval y) cap .sliceAcap).run P w = .ok h w := by simp [h5, Instr.sliceBound, asIntOf, hb, hn]
        have hl' := hlo' h hlh
        cases lo with
        | none => simp at hlo; simp [Instr.sliceBounds, hlo, hh']
        | some y => simp at hl'; simp [Instr.sliceBounds, hl', hh']
    refine ⟨.slice (if cap = l then A else A.map (·.add (l * rt.n))) (h - l) (cap - l), ?_, ?_⟩
    · simp [execOp, Instr.sliceAt, run_underlying ht, h1, Instr.slice, hbounds, dM hi0, hs]
    simp only [SV.holds, hdr] at hv ⊢
    cases hb : β nm with
    | none =>
      rw [hb] at hv
      obtain ⟨hv, hn⟩ := hv
      rw [h1] at hv
      injection hv with hA _ hc
      subst hA hc
      have hl0 : l = 0 := by omega
      have hh0 : h = 0 := by omega
      subst hl0 hh0
      simp
    | some q =>
      obtain ⟨b, o⟩ := q
      rw [hb] at hv
      obtain ⟨A2, cap2, g1, g2, g3, g4⟩ := hv
      rw [h1] at g1
      injection g1 with g1 _ g5
      subst g1 g5
      refine ⟨_, _, rfl, by omega, by omega, ?_⟩
      rcases g4 with ⟨g4, g5⟩ | ⟨g4, cur, e', fr, g5, g6⟩
      · exact .inl ⟨by omega, by omega⟩
      by_cases hcl : cap = l
      · exact .inl ⟨by omega, by omega⟩
      refine .inr ⟨by rw [if_neg hcl, g4]; simp [Addr.add_lit, Nat.add_mul, Nat.add_assoc], cur, e', fr, g5, ?_⟩
      rw [show off + l + (cap - l) = off + cap by omega]; exact g6
theorem Ci {α : Type} {rt : RT α} [NM rt] {i : Nat} {xs : List α} (hs : a8 st.slots i = some (.tv (ab rt) xs)) (hi : Inv cx st a w) : xs.length ≤ 9223372036854775807 := by
  obtain ⟨β, hb⟩ := hi
  obtain ⟨v, _, h2⟩ := hb.slots i _ hs
  obtain ⟨A, cap, _, h3, h4, _⟩ := la h2
  simp only [maxLen] at h4; omega
theorem eE {α : Type} {rt : RT α} [NM rt] (i : Nat) {xs : List α} (hs : a8 st.slots i = some (.tv (ab rt) xs)) (h : xs.length ≤ 9223372036854775807 → J P cx st c k) : J P cx st c k := fun a w hi => h (Ci hs hi) a w hi
def qP {α : Type} (rt : RT α) (φ : α → Prop) : Prop := ∀ {w : World} {ok : Ok} {cs : List Value} {d : α}, rt.rep w ok cs d → φ d
theorem nO {α : Type} {rt : RT α} [NM rt] : qP rt (fun _ => True) := fun _ => trivial
theorem rq {α γ : Type} {a : RT α} {b : RT γ} {φ : α → Prop} {ψ : γ → Prop} (ha : qP a φ) (hb : qP b ψ) : qP (bO a b) (fun d => φ d.1 ∧ ψ d.2) := fun ⟨_, _, _, h1, h2⟩ => ⟨ha h1, hb h2⟩
theorem kL {α : Type} {rt : RT α} [NM rt] {φ : α → Prop} (h : qP rt φ) : qP (ab rt) (fun xs => xs.length ≤ 9223372036854775807 ∧ ∀ x ∈ xs, φ x) := fun ⟨A, cap, h1, h2, h3, h4⟩ => by
  refine ⟨by simp only [maxLen] at h3; omega, fun x hx => ?_⟩
  obtain ⟨b, o, _, _, hc⟩ := h4 (by rintro rfl; cases hx)
  obtain ⟨i, hi⟩ := List.getElem?_of_mem hx
  obtain ⟨cs, h5, _⟩ := hc i x hi
  exact h h5
theorem Av {α : Type} {rt : RT α} [NM rt] {φ : α → Prop} {i : Nat} {d : α} (hf : qP rt φ) (hs : a8 st.slots i = some (.tv rt d)) (hi : Inv cx st a w) : φ d := by
  obtain ⟨β, hb⟩ := hi
  obtain ⟨v, _, h2⟩ := hb.slots i _ hs
  obtain ⟨cs, h1, _⟩ : rt.val w _ v d := h2
  exact hf h1
theorem Ah {α : Type} {rt : RT α} [NM rt] {φ : α → Prop} (i : Nat) {d : α} (hf : qP rt φ) (hs : a8 st.slots i = some (.tv rt d)) (h : φ d → J P cx st c k) : J P cx st c k := fun a w hi => h (Av hf hs hi) a w hi
theorem pW {x y : Operand} {t yt : TypeId} {k : IntKind} {p q r : Int} (hx : Ev st x (.raw (.int k p))) (hy : Ev st y (.raw (.int k q))) (h0 : q ≠ 0) (hr : p.tmod q = r) :
    Adr P cx st ⟨dst, .binOp .rem t x y yt, ty, pos, aft, gd⟩ (.raw (.int k r)) := hr ▸ op_rem hx hy h0
theorem yP {p q : Int} (h0 : 0 ≤ p) (h1 : p ≤ 9223372036854775807) (h2 : 0 < q) : IntKind.i64.wrap (p.tdiv q) = p / q := by
  rw [Int.tdiv_eq_ediv_of_nonneg h0]
  have h3 : 0 ≤ p / q := Int.ediv_nonneg h0 (by omega)
  have h4 : p / q ≤ p := Int.ediv_le_self _ h0
  exact w64 (by omega)
theorem yO {p q : Int} (h0 : 0 ≤ p) : p.tmod q = p % q := Int.tmod_eq_emod_of_nonneg h0
end
end Go.Eng
namespace Go.Eng
section
variable {α β : Type} {P : Program}
def ZR (rt : RT α) (cs : List Value) (z : α) : Prop := ∀ w ok, rt.rep w ok cs z
theorem cc (k : IntKind) : ZR (ak k) [.int k 0] 0 := fun _ _ => rfl
theorem vu : ZR bP [.bool false] false := fun _ _ => rfl
theorem jJ : ZR dG [.string ⟨#[]⟩] [] := fun _ _ => rfl
theorem bm {e : RT α} : ZR (ab e) [.slice none 0 0] [] := fun _ _ => ⟨none, 0, rfl, by simp, by simp [maxLen], fun h => absurd rfl h⟩
theorem aR {a : RT α} {b : RT β} {c1 c2 : List Value} {z1 : α} {z2 : β} (h1 : ZR a c1 z1) (h2 : ZR b c2 z2) : ZR (bO a b) (c1 ++ c2) (z1, z2) := fun w ok => ⟨c1, c2, rfl, h1 w ok, h2 w ok⟩
theorem dj {t : TypeId} {rt : RT α} {cs : List Value} {z : α} (hi : (P.info? t).map (·.zero) = some (some (if rt.agg then .agg cs.toArray else cs.getD 0 undef))) (h : ZR rt cs z) : TyZero P t rt z :=
  TyZero.mk_ hi fun w ok => ⟨cs, h w ok, rfl⟩
theorem hJ [BEq α] {t : TypeId} {rt : RT α} {d d' : Nat} (h : o4 P t rt d) (hd : d ≤ d') : o4 P t rt d' := fun n w ok v1 v2 x y hn => h n w ok v1 v2 x y (Nat.le_trans hd hn)
theorem Lens.comp {γ δ : Type} {rt : RT α} {o1 : Nat} {rt1 : RT γ} {g1 : α → γ} {s1 : α → γ → α} {o2 : Nat} {rt2 : RT δ} {g2 : γ → δ} {s2 : γ → δ → γ} (l1 : Lens rt o1 rt1 g1 s1) (l2 : Lens rt1 o2 rt2 g2 s2) :
    Lens rt (o1 + o2) rt2 (fun d => g2 (g1 d)) (fun d x => s1 d (s2 (g1 d) x)) where
  fits := by have := l1.fits; have := l2.fits; omega
  get_ := by
    intro w ok cs d h
    have h1 := l2.get_ (l1.get_ h)
    have := l2.fits
    rw [List.drop_take, List.drop_drop, List.take_take, Nat.min_eq_left (by omega)] at h1
    exact h1
  set_ := by
    intro w ok cs d cs' d' h h'
    have h1 := l1.set_ h (l2.set_ (l1.get_ h) h')
    have hl := rt.len h
    have f1 := l1.fits
    have f2 := l2.fits
    have hl' := rt2.len h'
    rw [List.take_take, Nat.min_eq_left (by omega), List.drop_take] at h1
    refine cast ?_ h1
    congr 1
    rw [List.drop_drop, Nat.add_assoc, show o1 + (o2 + rt2.n) = o1 + o2 + rt2.n by omega]
    have e1 : cs.drop (o1 + o2 + rt2.n) = (cs.drop (o1 + o2 + rt2.n)).take (rt1.n - (o2 + rt2.n)) ++ cs.drop (o1 + rt1.n) := by
      rw [show o1 + rt1.n = o1 + o2 + rt2.n + (rt1.n - (o2 + rt2.n)) by omega, ← List.drop_drop (i := rt1.n - (o2 + rt2.n))]
      exact (List.take_append_drop _ _).symm
    have e2 : cs.take (o1 + o2) = cs.take o1 ++ (cs.drop o1).take o2 := by rw [List.take_add]
    rw [e2]
    simp only [List.append_assoc]
    rw [← e1]
theorem rb {x y : Bool} (h : x = y) : SV.raw (.bool x) = SV.raw (.bool y) := by rw [h]
theorem ri {k : IntKind} {x y : Int} (h : x = y) : SV.raw (.int k x) = SV.raw (.int k y) := by rw [h]
end
theorem getD_some {α : Type} {l : List α} {i : Nat} {z : α} (h : i < l.length) : l[i]? = some (l[i]?.getD z) := by rw [List.getElem?_eq_getElem h]; rfl
end Go.Eng
namespace Go.Eng
section
variable {P : Program} {cx : Cx} {st st' : St} {β : Loc} {a : Act} {w w' : World} {ops : Array Oper} {o : Oper} {k : Kn}
abbrev Ef := Option (Nat × SV) × Option (Nat × HB)
def St.app (st : St) (e : Ef) : St := ⟨e.1.toList ++ st.slots, e.2.toList ++ st.heap⟩
structure AgrH (ops : Array Oper) (o : Oper) (R : List Nat) (st st' : St) : Prop where
  at_ : ∀ t ∈ o.looksAt ops, a8 st'.slots t = a8 st.slots t
  heap : ∀ nm ∈ R, az st'.heap nm = az st.heap nm
def GH (P : Program) (cx : Cx) (ops : Array Oper) (st : St) (o : Oper) (ef : Ef) (R N : List Nat) : Prop :=
  ∀ st', AgrH ops o R st st' → (∀ nm ∈ N, di nm st'.slots = true ∧ az st'.heap nm = none) → ∀ a w, Inv cx st' a w → ∀ Q,
    if Region.wanted o (yielded ops a.tmps) then o.wp P a w (fun a' w' => Inv cx (st'.app ef) a' w') Q else Inv cx (st'.app ef) (a.put o.dst undef) w
def SV.within (R : List Nat) : SV → Bool
  | .own k _ _ _ | .optr k _ _ _ | .mref k | .epown k _ _ _ => R.contains k
  | .both s _ => s.within R
  | .lnk s _ t => s.within R && t.within R
  | .fam s base _ ds => s.within R && (List.range ds.length).all (fun x => R.contains (x + base))
  | .gd _ s => s.within R
  | .tup2 a b => a.within R && b.within R
  | .tup3 a b c => a.within R && b.within R && c.within R
  | .tup4 a b c d => a.within R && b.within R && c.within R && d.within R
  | _ => true
theorem SV.within_mem {R : List Nat} {nm : Nat} : ∀ {s : SV}, s.within R = true → s.free nm = false → nm ∈ R
  | .own k _ _ _, h, hf | .optr k _ _ _, h, hf | .mref k, h, hf | .epown k _ _ _, h, hf => by
    simp only [SV.free, Bool.not_eq_false'] at hf
    have := Nat.eq_of_beq_eq_true hf
    subst this
    simpa [SV.within] using h
  | .both s _, h, hf => SV.within_mem (s := s) h hf
  | .lnk a _ b, h, hf => by
    simp only [SV.within, Bool.and_eq_true] at h
    simp only [SV.free, Bool.and_eq_false_iff] at hf
    rcases hf with hf | hf
    · exact SV.within_mem h.1 hf
    exact SV.within_mem h.2 hf
  | .fam s base sz ds, h, hf => by
    simp only [SV.within, Bool.and_eq_true] at h
    simp only [SV.free, Bool.and_eq_false_iff] at hf
    rcases hf with hf | hf
    · exact SV.within_mem h.1 hf
    rw [Bool.or_eq_false_iff] at hf
    obtain ⟨hf1, hf2⟩ := hf
    have hge : base ≤ nm := by
      rcases Nat.lt_or_ge nm base with g | g
      · rw [lt_blt g] at hf1; cases hf1
      exact g
    have hlt : nm - base < ds.length := by
      rcases Nat.lt_or_ge (nm - base) ds.length with g | g
      · exact g
      rw [List.getElem?_eq_none g] at hf2; cases hf2
    have := List.all_eq_true.1 h.2 (nm - base) (List.mem_range.2 hlt)
    rw [Nat.sub_add_cancel hge] at this
    simpa using this
  | .gd _ s, h, hf => SV.within_mem (s := s) h hf
  | .tup2 a b, h, hf => by
    simp only [SV.within, Bool.and_eq_true] at h
    simp only [SV.free, Bool.and_eq_false_iff] at hf
    rcases hf with hf | hf
    · exact SV.within_mem h.1 hf
    exact SV.within_mem h.2 hf
  | .tup3 a b c, h, hf => by
    simp only [SV.within, Bool.and_eq_true] at h
    simp only [SV.free, Bool.and_eq_false_iff] at hf
    rcases hf with (hf | hf) | hf
    · exact SV.within_mem h.1.1 hf
    · exact SV.within_mem h.1.2 hf
    exact SV.within_mem h.2 hf
  | .tup4 a b c d, h, hf => by
    simp only [SV.within, Bool.and_eq_true] at h
    simp only [SV.free, Bool.and_eq_false_iff] at hf
    rcases hf with ((hf | hf) | hf) | hf
    · exact SV.within_mem h.1.1.1 hf
    · exact SV.within_mem h.1.1.2 hf
    · exact SV.within_mem h.1.2 hf
    exact SV.within_mem h.2 hf
def yW (st : St) (o : Oper) (R : List Nat) : Bool := o.op.operands.all fun x => match evS st x with | some s => s.within R | none => true
theorem ft {d : Nat} {s : SV} (R : List Nat) (h : GA P cx ops st o d s) (hR : yW st o R = true) : GH P cx ops st o (some (d, s), none) R [] := by
  intro st' hag _ a w hi Q
  refine h st' ⟨hag.at_, fun x hx s nm he hf => hag.heap nm ?_⟩ a w hi Q
  have := Array.all_eq_true'.1 hR x hx
  rw [he] at this
  exact SV.within_mem this hf
theorem AgrH.evs {R : List Nat} (h : AgrH ops o R st st') {x : Operand} (hx : x ∈ o.op.operands) : evS st' x = evS st x := by
  cases x with
  | tmp t => exact h.at_ t (List.mem_append_left _ (List.mem_filterMap.2 ⟨.tmp t, by simpa using hx, rfl⟩))
  | _ => rfl
theorem AgrH.ev {R : List Nat} (h : AgrH ops o R st st') {x : Operand} {s : SV} (hx : x ∈ o.op.operands) (he : Ev st x s) : Ev st' x s := by
  exact he.tr (h.evs hx)
variable {ty : TypeId} {pos : String} {aft : Array Edge}
theorem d9 {α : Type} {T : TypeId} {rt : RT α} [NM rt] (z : α) {d : Nat} (hz : TyZero P T rt z) (hd : Nat.blt d cx.n = true) :
    GH P cx ops st ⟨some d, .alloc T, ty, pos, aft, none⟩ (some (d, .optr d rt.n 0 0), some (d, ⟨rt, [z]⟩)) [d] [d] := by
  intro st' hag hN a w hi Q
  rw [if_pos (by simp [Region.wanted])]
  exact pY z hz hd (hN d (by simp)).1 (hN d (by simp)).2 a w hi Q
theorem gh_box {α : Type} {T : TypeId} {rt : RT α} [NM rt] {x : Operand} {z : α} {d : Nat} (hx : Rd st x rt z) (hd : Nat.blt d cx.n = true) :
    GH P cx ops st ⟨some d, .box T x, ty, pos, aft, none⟩ (some (d, .optr d rt.n 0 0), some (d, ⟨rt, [z]⟩)) [d] [d] := by
  intro st' hag hN a w hi Q
  rw [if_pos (by simp [Region.wanted])]
  exact uM (hx.tr (hag.evs (by simp [Op.operands]))) hd (hN d (by simp)).1 (hN d (by simp)).2 a w hi Q
theorem bF {α γ : Type} {rt : RT α} [NM rt] {rt' : RT γ} [NM rt'] {get : α → γ} {set : α → γ → α} {nm i f : Nat} {xs : List α} {y : α} {d : γ} {x v : Operand} {t : TypeId} (ht : Ty P t rt') (hx : Ev st x (.optr nm rt.n i f)) (hn : az st.heap nm = some ⟨rt, xs⟩) (hy : xs[i]? = some y) (hl : Lens rt f rt' get set) (hv : Rd st v rt' d) :
    GH P cx ops st ⟨none, .store t x v, ty, pos, aft, none⟩ (none, some (nm, ⟨rt, xs.set i (set y d)⟩)) [nm] [] := by
  intro st' hag _ a w hi Q
  rw [if_pos (by simp [Region.wanted])]
  exact bK ht (hag.ev (by simp [Op.operands]) hx) ((hag.heap nm (by simp)).trans hn) hy hl (hv.tr (hag.evs (by simp [Op.operands]))) a w hi Q
def stE : St → List Ef → (Nat → Bool) → St
  | st, [], _ => st
  | st, c :: r, L => stE (bif L 0 then st.app c else st) r (fun i => L (i + 1))
def fW {V : Type 1} : List (Option (Nat × V)) → (Nat → Bool) → Nat → Option V
  | [], _, _ => none
  | c :: r, L, t => match fW r (fun i => L (i + 1)) t with
    | some s => some s
    | none => match c with | some (q, v) => if q = t ∧ L 0 = true then some v else none | none => none
theorem gG : ∀ (cs : List Ef) (st : St) (L : Nat → Bool) (t : Nat), a8 (stE st cs L).slots t = (match fW (cs.map (·.1)) L t with | some s => some s | none => a8 st.slots t)
  | [], _, _, _ => rfl
  | (c, e) :: r, st, L, t => by
    rw [stE, gG r]
    simp only [List.map_cons, fW]
    cases h : fW (r.map (·.1)) (fun i => L (i + 1)) t with
    | some s => simp
    | none =>
      cases hL : L 0 with
      | false => cases c <;> simp
      | true =>
        cases c with
        | none => simp [St.app]
        | some c =>
          obtain ⟨q, v⟩ := c
          simp only [cond_true, St.app, Option.toList, List.cons_append, List.nil_append, aT, and_true]
          by_cases hq : q = t <;> simp [hq]
theorem ia : ∀ (cs : List Ef) (st : St) (L : Nat → Bool) (t : Nat), az (stE st cs L).heap t = (match fW (cs.map (·.2)) L t with | some s => some s | none => az st.heap t)
  | [], _, _, _ => rfl
  | (e, c) :: r, st, L, t => by
    rw [stE, ia r]
    simp only [List.map_cons, fW]
    cases h : fW (r.map (·.2)) (fun i => L (i + 1)) t with
    | some s => simp
    | none =>
      cases hL : L 0 with
      | false => cases c <;> simp
      | true =>
        cases c with
        | none => simp [St.app]
        | some c =>
          obtain ⟨q, v⟩ := c
          simp only [cond_true, St.app, Option.toList, List.cons_append, List.nil_append, aW, and_true]
          by_cases hq : q = t <;> simp [hq]
theorem rp {nm : Nat} : ∀ {l r : List (Nat × SV)}, di nm (l ++ r) = (di nm l && di nm r)
  | [], _ => by simp [di]
  | (_, s) :: l, r => by simp [di, rp (l := l), Bool.and_assoc]
theorem s9 {nm : Nat} : ∀ (cs : List Ef) (st : St) (L : Nat → Bool), di nm st.slots = true → (∀ j c q s, cs[j]? = some c → c.1 = some (q, s) → L j = true → s.free nm = true) → di nm (stE st cs L).slots = true
  | [], _, _, h, _ => h
  | (c, e) :: r, st, L, h, hc => by
    rw [stE]
    refine s9 r _ _ ?_ (fun j c' q s hj he hl => hc (j + 1) c' q s (by simpa using hj) he hl)
    cases hL : L 0 with
    | false => exact h
    | true =>
      cases c with
      | none => exact h
      | some c => simp only [cond_true, St.app, Option.toList_some, rp, di, Bool.and_true, Bool.and_eq_true]; exact ⟨hc 0 _ c.1 c.2 rfl rfl hL, h⟩
section
variable {V : Type 1}
theorem gL : ∀ {cs : List (Option (Nat × V))} {L : Nat → Bool} {t : Nat}, (∀ j q v, cs[j]? = some (some (q, v)) → q = t → L j = false) → fW cs L t = none
  | [], _, _, _ => rfl
  | c :: r, L, t, h => by
    simp only [fW, gL (cs := r) (L := fun i => L (i + 1)) (t := t) (fun j q v hj he => h (j + 1) q v (by simpa using hj) he)]
    cases c with
    | none => rfl
    | some c =>
      obtain ⟨q, v⟩ := c
      simp only []
      rw [if_neg]
      rintro ⟨e, hL⟩
      rw [h 0 q v rfl e] at hL; cases hL
theorem mu : ∀ {cs : List (Option (Nat × V))} {L : Nat → Bool} {t i : Nat}, (∀ j q v, cs[j]? = some (some (q, v)) → q = t → (L j = true ↔ j < i)) → fW cs L t = fW (cs.take i) (fun _ => true) t
  | [], _, _, _, _ => by simp [fW]
  | c :: r, L, t, 0, h => by
    rw [gL fun j q v hj he => by
      have := h j q v hj he
      cases hL : L j with
      | false => rfl
      | true => have := this.1 hL; omega]
    rfl
  | c :: r, L, t, i + 1, h => by
    simp only [List.take_succ_cons, fW, mu (cs := r) (L := fun i => L (i + 1)) (t := t) (i := i) (fun j q v hj he => by have := h (j + 1) q v (by simpa using hj) he; rw [this]; omega)]
    cases h' : fW (r.take i) (fun _ => true) t with
    | some s => rfl
    | none =>
      cases c with
      | none => rfl
      | some c =>
        obtain ⟨q, v⟩ := c
        by_cases e : q = t
        · have := h 0 q v rfl e
          simp [this.2 (by omega)]
        simp [e]
theorem mv : ∀ {cs : List (Option (Nat × V))} {L : Nat → Bool} {i q : Nat} {v : V}, cs[i]? = some (some (q, v)) → L i = true → (∀ j q' v', cs[j]? = some (some (q', v')) → q' = q → i < j → L j = false) → fW cs L q = some v
  | [], _, _, _, _, h, _, _ => by simp at h
  | c0 :: r, L, 0, q, v, h, hL, hl => by
    simp at h; subst h
    simp [fW, gL (cs := r) (L := fun i => L (i + 1)) (t := q) (fun j q' v' hj he => hl (j + 1) q' v' (by simpa using hj) he (by omega)), hL]
  | c0 :: r, L, i + 1, q, v, h, hL, hl => by
    simp only [fW, mv (cs := r) (L := fun i => L (i + 1)) (i := i) (q := q) (v := v) (by simpa using h) hL (fun j q' v' hj he hij => hl (j + 1) q' v' (by simpa using hj) he (by omega))]
theorem ig : ∀ {cs : List (Option (Nat × V))} {L L' : Nat → Bool} {t : Nat}, (∀ j q v, cs[j]? = some (some (q, v)) → q = t → L j = L' j) → fW cs L t = fW cs L' t
  | [], _, _, _, _ => rfl
  | c :: r, L, L', t, h => by
    simp only [fW, ig (cs := r) (L := fun i => L (i + 1)) (L' := fun i => L' (i + 1)) (t := t) (fun j q v hj he => h (j + 1) q v (by simpa using hj) he)]
    cases c with
    | none => rfl
    | some c =>
      obtain ⟨q, v⟩ := c
      by_cases e : q = t
      · rw [h 0 q v rfl e]
      simp [e]
end
inductive AE (P : Program) (cx : Cx) (ops : Array Oper) : St → List Oper → List Ef → List (List Nat) → List (List Nat) → Prop
  | nil {st : St} : AE P cx ops st [] [] [] []
  | cons {st : St} {o : Oper} {l : List Oper} {cs : List Ef} {Rs Ns : List (List Nat)} (ef : Ef) (R N : List Nat) (hd : o.dst = ef.1.map (·.1)) (h : GH P cx ops st o ef R N) (hr : AE P cx ops (st.app ef) l cs Rs Ns) : AE P cx ops st (o :: l) (ef :: cs) (R :: Rs) (N :: Ns)
theorem AE.at_ : ∀ {st : St} {l : List Oper} {cs : List Ef} {Rs Ns : List (List Nat)}, AE P cx ops st l cs Rs Ns → cs.length = l.length ∧ ∀ i o, l[i]? = some o → ∃ ef R N, cs[i]? = some ef ∧ Rs[i]? = some R ∧ Ns[i]? = some N ∧ o.dst = ef.1.map (·.1) ∧ GH P cx ops (stE st (cs.take i) (fun _ => true)) o ef R N
  | _, _, _, _, _, .nil => ⟨rfl, fun i o h => by simp at h⟩
  | _, _, _, _, _, .cons ef R N hd h hr => ⟨by simp [hr.at_.1], fun i o' hi => by
      cases i with
      | zero => simp at hi; subst hi; exact ⟨ef, R, N, rfl, rfl, rfl, hd, h⟩
      | succ i =>
        obtain ⟨ef', R', N', h1, h2, h3, h4, h5⟩ := hr.at_.2 i o' (by simpa using hi)
        exact ⟨ef', R', N', by simpa using h1, by simpa using h2, by simpa using h3, h4, by simpa [stE] using h5⟩⟩
def Ef.keeps (nm : Nat) (e : Ef) : Bool := (match e.1 with | some s => s.2.free nm | none => true) && (match e.2 with | some h => !(Nat.beq h.1 nm) | none => true)
def yI (ops : Array Oper) (st : St) (cs : List Ef) (Rs Ns : List (List Nat)) : Bool :=
  (List.range cs.length).all fun i =>
    (match cs[i]? with | some (_, some (nm, _)) => (Rs.getD i []).contains nm | _ => true) &&
    ((Ns.getD i []).all fun nm => di nm st.slots && (match az st.heap nm with | some _ => false | none => true)) &&
    (List.range cs.length).all fun j => Nat.beq i j ||
      ((match cs[j]? with | some (_, some (nm, _)) => !((Rs.getD i []).contains nm) || (if j < i then Region.waitsFor .any ops i j else Region.waitsFor .any ops j i) | _ => true) &&
      ((Ns.getD i []).all fun nm => (match cs[j]? with | some ef => Ef.keeps nm ef | none => true) || Region.waitsFor .any ops j i))
structure Bx (ops : Array Oper) (st : St) (cs : List Ef) (Rs Ns : List (List Nat)) : Prop where
  own : ∀ (i : Nat) (s : Option (Nat × SV)) (nm : Nat) (hb : HB) (R : List Nat), cs[i]? = some (s, some (nm, hb)) → Rs[i]? = some R → nm ∈ R
  new : ∀ (i : Nat) (N : List Nat) (nm : Nat), i < cs.length → Ns[i]? = some N → nm ∈ N → di nm st.slots = true ∧ az st.heap nm = none
  rows : ∀ (i j : Nat) (s : Option (Nat × SV)) (nm : Nat) (hb : HB) (R : List Nat), i < cs.length → i ≠ j → cs[j]? = some (s, some (nm, hb)) → Rs[i]? = some R → nm ∈ R → (j < i → Region.waitsFor .any ops i j = true) ∧ (i < j → Region.waitsFor .any ops j i = true)
  news : ∀ (i j : Nat) (N : List Nat) (nm : Nat) (ef : Ef), i < cs.length → i ≠ j → Ns[i]? = some N → nm ∈ N → cs[j]? = some ef → Ef.keeps nm ef = true ∨ Region.waitsFor .any ops j i = true
theorem w7 {cs : List Ef} {Rs Ns : List (List Nat)} (h : yI ops st cs Rs Ns = true) : Bx ops st cs Rs Ns := by
  unfold yI at h
  rw [List.all_eq_true] at h
  have h' : ∀ i, i < cs.length → _ := fun i hi => h i (List.mem_range.2 hi)
  simp only [Bool.and_eq_true] at h'
  have getD_of : ∀ {l : List (List Nat)} {i : Nat} {x : List Nat}, l[i]? = some x → l.getD i [] = x := by
    intro l i x hx; simp [hx]
  refine ⟨fun i s nm hb R hc hR => ?_, fun i N nm hi hN hm => ?_, fun i j s nm hb R hi hij hc hR hm => ?_, fun i j N nm ef hi hij hN hm hc => ?_⟩
  · have hi : i < cs.length := (List.getElem?_eq_some_iff.1 hc).1
    have := (h' i hi).1.1
    rw [hc, getD_of hR] at this
    simpa using this
  · have := (h' i hi).1.2
    rw [getD_of hN, List.all_eq_true] at this
    have := this nm hm
    rw [Bool.and_eq_true] at this
    refine ⟨this.1, ?_⟩
    cases hl : az st.heap nm with
    | none => rfl
    | some _ => rw [hl] at this; exact absurd this.2 (by simp)
  · have hj : j < cs.length := (List.getElem?_eq_some_iff.1 hc).1
    have := (h' i hi).2
    rw [List.all_eq_true] at this
    have := this j (List.mem_range.2 hj)
    rw [Bool.or_eq_true, Bool.and_eq_true] at this
    rcases this with h1 | h1
    · exact absurd (Nat.eq_of_beq_eq_true h1) hij
    have h1 := h1.1
    rw [hc, getD_of hR] at h1
    simp only [Bool.or_eq_true, Bool.not_eq_true'] at h1
    rcases h1 with h1 | h1
    · exact absurd hm (by simpa using h1)
    refine ⟨fun hlt => by rw [if_pos hlt] at h1; exact h1, fun hlt => by rw [if_neg (by omega)] at h1; exact h1⟩
  have hj : j < cs.length := (List.getElem?_eq_some_iff.1 hc).1
  have := (h' i hi).2
  rw [List.all_eq_true] at this
  have := this j (List.mem_range.2 hj)
  rw [Bool.or_eq_true, Bool.and_eq_true] at this
  rcases this with h1 | h1
  · exact absurd (Nat.eq_of_beq_eq_true h1) hij
  have h1 := h1.2
  rw [getD_of hN, List.all_eq_true] at h1
  have := h1 nm hm
  rw [hc] at this
  simpa using this
theorem pD {i j : Nat} (h : Region.waitsFor .any ops j i = true) : ∃ oj, ops[j]? = some oj ∧ ∃ e ∈ oj.after, Region.binds .any e = true ∧ e.on = i := by
  obtain ⟨oj, hj, e, he, hb, hon⟩ := Region.waitsFor_spec h
  exact ⟨oj, hj, e, he, hb, hon⟩
theorem Ef.keeps_slot {nm q : Nat} {s : SV} {e : Option (Nat × HB)} (h : Ef.keeps nm (some (q, s), e) = true) : s.free nm = true := by
  simp only [Ef.keeps, Bool.and_eq_true] at h; exact h.1
theorem Ef.keeps_row {nm q : Nat} {hb : HB} {e : Option (Nat × SV)} (h : Ef.keeps nm (e, some (q, hb)) = true) : q ≠ nm := by
  simp only [Ef.keeps, Bool.and_eq_true, Bool.not_eq_true'] at h
  rintro rfl
  rw [show Nat.beq q q = true from Nat.beq_refl q] at h
  exact absurd h.2 (by simp)
theorem AZ (dk : oJ ops) {Q : Exit → Act → World → Prop} {l : List Oper} {cs : List Ef} {Rs Ns : List (List Nat)} (hl : l.toArray = ops) (has : AE P cx ops st l cs Rs Ns) (rk : Bx ops st cs Rs Ns)
    (hK : ∀ a w, Inv cx (stE st cs (fun _ => true)) a w → Q .normal a w) :
    ∀ (f : Nat) (listed : Array Bool), Lst ops 0 ops.size listed → unl listed = f → ∀ a w, Inv cx (stE st cs (fun i => listed.getD i false)) a w → wpAny P .any ops Q f listed a w := by
  obtain ⟨hcl, hga⟩ := has.at_
  have hsz : l.length = ops.size := by rw [← hl]; simp
  have hat : ∀ i : Nat, l[i]? = ops[i]? := fun i => by rw [← hl]; simp
  have hidx : ∀ j c, cs[j]? = some c → ∃ oj, ops[j]? = some oj ∧ oj.dst = c.1.map (·.1) ∧ j < l.length := by
    intro j c hj
    have hjl : j < l.length := by rw [← hcl]; exact (List.getElem?_eq_some_iff.1 hj).1
    obtain ⟨ef, _, _, h1, _, _, h2, _⟩ := hga j l[j] (List.getElem?_eq_getElem hjl)
    rw [hj] at h1
    injection h1 with h1
    subst h1
    exact ⟨l[j], by rw [← hat j]; exact List.getElem?_eq_getElem hjl, h2, hjl⟩
  have mapS : ∀ {j q : Nat} {s : SV}, (cs.map (·.1))[j]? = some (some (q, s)) → ∃ e, cs[j]? = some (some (q, s), e) := by
    intro j q s h
    rw [List.getElem?_map] at h
    cases hc : cs[j]? with
    | none => rw [hc] at h; cases h
    | some c => rw [hc] at h; injection h with h; exact ⟨c.2, by rw [← h]⟩
  have mapH : ∀ {j q : Nat} {s : HB}, (cs.map (·.2))[j]? = some (some (q, s)) → ∃ e, cs[j]? = some (e, some (q, s)) := by
    intro j q s h
    rw [List.getElem?_map] at h
    cases hc : cs[j]? with
    | none => rw [hc] at h; cases h
    | some c => rw [hc] at h; injection h with h; exact ⟨c.1, by rw [← h]⟩
  intro f
  induction f with
  | zero =>
    intro listed hL hu a w hi'
    have he := pG hL rfl (Nat.le_refl _) (by omega)
    subst he
    refine ⟨?_, hK a w ?_⟩
    · cases hr : Region.ready .any ops (mkL ops.size ops.size) with
      | nil => rfl
      | cons i r =>
        exfalso
        have hmem : i ∈ Region.ready .any ops (mkL ops.size ops.size) := by rw [hr]; simp
        obtain ⟨hun, oi, hoi, _⟩ := mem_ready.1 hmem
        have := (Array.getElem?_eq_some_iff.1 hoi).1
        rw [cD true this] at hun
        simp at hun
        omega
    have hall : ∀ j c, cs[j]? = some c → (mkL ops.size ops.size).getD j false = true := by
      intro j c hj
      obtain ⟨_, _, _, hjl⟩ := hidx j c hj
      rw [cD false (by omega)]; simp; omega
    refine Sub.inv ⟨fun i s hs => ?_, fun i s hs => ?_⟩ hi'
    · rw [gG] at hs ⊢
      rw [← hs]
      congr 1
      exact ig fun j q v hj _ => by obtain ⟨e, hc⟩ := mapS hj; exact hall j _ hc
    rw [ia] at hs ⊢
    rw [← hs]
    congr 1
    exact ig fun j q v hj _ => by obtain ⟨e, hc⟩ := mapH hj; exact hall j _ hc
  | succ f ih =>
    intro listed hL hu a w hi'
    have hready : ∀ i ∈ Region.ready .any ops listed, i < ops.size := by
      intro i hr
      obtain ⟨_, oi, hoi, _⟩ := mem_ready.1 hr
      exact (Array.getElem?_eq_some_iff.1 hoi).1
    refine ⟨fun hnil => ?_, fun i hr => ?_⟩
    · exfalso
      have hex : ∃ i, i < ops.size ∧ listed.getD i false = false := by
        rcases Classical.em (∃ i, i < ops.size ∧ listed.getD i false = false) with h | h
        · exact h
        exfalso
        have : listed = mkL ops.size ops.size := jQ hL.size fun i his => by
          simp only [his, decide_true]
          cases hl' : listed.getD i false with
          | true => rfl
          | false => exact absurd ⟨i, his, hl'⟩ h
        rw [this] at hu
        have hz : unl (mkL ops.size ops.size) = 0 := by
          unfold unl mkL
          rw [Array.toList_map, Array.toList_range, List.countP_map, List.countP_eq_zero]
          intro x hx
          have := List.mem_range.1 hx
          simp [this]
        omega
      obtain ⟨n0, ⟨h1, h2⟩, hmin⟩ := exists_least hex
      have : n0 ∈ Region.ready .any ops listed := by
        have hs : n0 < listed.size := by rw [hL.size]; exact h1
        refine mem_ready.2 ⟨by rw [dC hs]; exact h2, ops[n0], Array.getElem?_eq_getElem h1, fun e he hb => ?_⟩
        have hlt := dk.back n0 _ (Array.getElem?_eq_getElem h1) e he hb
        cases hl' : listed.getD e.on false with
        | true => rfl
        | false =>
          have := hmin e.on ⟨by omega, hl'⟩
          omega
      rw [hnil] at this
      cases this
    have hih := hready i hr
    obtain ⟨hun, oi, hoi, hdeps⟩ := mem_ready.1 hr
    have his : i < listed.size := by rw [hL.size]; exact hih
    have hunf : listed.getD i false = false := by rw [← dC his]; exact hun
    have hli : l[i]? = some oi := by rw [hat i]; exact hoi
    obtain ⟨ef, R, N, hcs, hRs, hNs, hdst, hG⟩ := hga i oi hli
    have hicl : i < cs.length := (List.getElem?_eq_some_iff.1 hcs).1
    -- what waits for i has not run; what i waits for has run
    have hw1 : ∀ j : Nat, Region.waitsFor .any ops j i = true → listed.getD j false = false := by
      intro j hwj
      obtain ⟨oj, hoj, e, he, hb, hon⟩ := pD hwj
      cases hlj : listed.getD j false with
      | false => rfl
      | true =>
        have := hL.closed j oj hoj hlj e he hb
        rw [hon, hunf] at this
        cases this
    have hw2 : ∀ j : Nat, Region.waitsFor .any ops i j = true → listed.getD j false = true := by
      intro j hwj
      obtain ⟨oi', hoi', e, he, hb, hon⟩ := pD hwj
      rw [hoi] at hoi'
      injection hoi' with hoi'
      subst hoi'
      have := hdeps e he hb
      rwa [hon] at this
    -- which others write a slot that this one touches
    have hwr : ∀ (j q : Nat) (s : SV) (e : Option (Nat × HB)), cs[j]? = some (some (q, s), e) → j ≠ i → (q ∈ oi.looksAt ops ∨ oi.dst = some q) → (listed.getD j false = true ↔ j < i) := by
      intro j q s e0 hj hne hc
      obtain ⟨oj, hoj, hdj, hjl⟩ := hidx j _ hj
      have hdj : oj.dst = some q := hdj
      rcases Nat.lt_or_ge j i with h | h
      · have hap : oj.apart ops oi = false := by
          cases hb : oj.apart ops oi with
          | false => rfl
          | true =>
            obtain ⟨h1, h2, h3⟩ := Oper.apart_spec hb
            rcases hc with hc | hc
            · exact absurd hc (h1 q hdj)
            exact absurd hc (h2 q hdj)
        obtain ⟨e, he, hb, hon⟩ := dk.order j i oj oi h hoj hoi hap
        have := hdeps e he hb
        rw [hon] at this
        simp [this, h]
      have hgt : i < j := by omega
      have hap : oi.apart ops oj = false := by
        cases hb : oi.apart ops oj with
        | false => rfl
        | true =>
          obtain ⟨h1, h2, h3⟩ := Oper.apart_spec hb
          rcases hc with hc | hc
          · exact absurd hc (h3 q hdj)
          exact absurd hdj (h2 q hc)
      obtain ⟨e, he, hb, hon⟩ := dk.order i j oi oj hgt hoi hoj hap
      cases hlj : listed.getD j false with
      | false => simp; omega
      | true =>
        have := hL.closed j oj hoj hlj e he hb
        rw [hon, hunf] at this
        cases this
    have hrow : ∀ (j : Nat) (s : Option (Nat × SV)) (nm : Nat) (hb : HB), cs[j]? = some (s, some (nm, hb)) → j ≠ i → nm ∈ R → (listed.getD j false = true ↔ j < i) := by
      intro j s nm hb hj hne hm
      obtain ⟨h1, h2⟩ := rk.rows i j s nm hb R hicl (by omega) hj hRs hm
      rcases Nat.lt_or_ge j i with h | h
      · simp [hw2 j (h1 h), h]
      have := hw1 j (h2 (by omega)); simp [this]; omega
    have hagr : AgrH ops oi R (stE st (cs.take i) (fun _ => true)) (stE st cs (fun j => listed.getD j false)) := by
      refine ⟨fun t ht => ?_, fun nm hnm => ?_⟩
      · rw [gG, gG, List.map_take]
        congr 1
        refine mu fun j q v hj he => ?_
        obtain ⟨e, hc⟩ := mapS hj
        by_cases hne : j = i
        · subst hne; rw [hunf]; simp
        exact hwr j q v e hc hne (.inl (by rw [he]; exact ht))
      rw [ia, ia, List.map_take]
      congr 1
      refine mu fun j q v hj he => ?_
      obtain ⟨e, hc⟩ := mapH hj
      by_cases hne : j = i
      · subst hne; rw [hunf]; simp
      exact hrow j e q v hc hne (by rw [he]; exact hnm)
    have hnew : ∀ nm ∈ N, di nm (stE st cs (fun j => listed.getD j false)).slots = true ∧ az (stE st cs (fun j => listed.getD j false)).heap nm = none := by
      intro nm hnm
      obtain ⟨h1, h2⟩ := rk.new i N nm hicl hNs hnm
      refine ⟨s9 _ _ _ h1 fun j c q s hj he hlj => ?_, ?_⟩
      · have hne : i ≠ j := by rintro rfl; rw [hunf] at hlj; cases hlj
        rcases rk.news i j N nm c hicl hne hNs hnm hj with hk | hk
        · obtain ⟨c1, c2⟩ := c
          simp only at he
          subst he
          exact Ef.keeps_slot hk
        rw [hw1 j hk] at hlj; cases hlj
      rw [ia, gL, h2]
      intro j q v hj he
      obtain ⟨e, hc⟩ := mapH hj
      by_cases hne : i = j
      · subst hne; exact hunf
      rcases rk.news i j N nm _ hicl hne hNs hnm hc with hk | hk
      · exact absurd he (Ef.keeps_row hk)
      exact hw1 j hk
    have hstep := hG _ hagr hnew a w hi' (Q := Q)
    have hnext : ∀ a' w', Inv cx ((stE st cs (fun j => listed.getD j false)).app ef) a' w' → wpAny P .any ops Q f (listed.setIfInBounds i true) a' w' := by
      intro a' w' hi''
      refine ih _ (hL.set hr hih) (by have := ko his hunf; omega) a' w' ?_
      have hset : ∀ j, (listed.setIfInBounds i true).getD j false = if j = i then true else listed.getD j false := by
        intro j
        by_cases hne : j = i
        · subst hne
          rw [if_pos rfl]
          simp [his]
        rw [if_neg hne, getD_set_ne false (by omega)]
      refine Sub.inv ⟨fun t s' hs => ?_, fun t s' hs => ?_⟩ hi''
      · rw [gG] at hs
        have hoth : (∀ q v, ef.1 = some (q, v) → q ≠ t) → a8 (stE st cs (fun j => listed.getD j false)).slots t = some s' := fun hn => by
          rw [gG, ← hs]
          congr 1
          refine ig fun j q v hj he => ?_
          simp only [hset]
          rw [if_neg]
          rintro rfl
          obtain ⟨e, hc⟩ := mapS hj
          rw [hcs] at hc
          injection hc with hc
          exact hn q v (by rw [hc]) he
        rcases h1 : ef.1 with _ | ⟨d, s⟩
        · simp only [St.app, h1, Option.toList, List.nil_append]
          exact hoth (fun q v h => by rw [h1] at h; cases h)
        simp only [St.app, h1, Option.toList, List.cons_append, List.nil_append, aT]
        by_cases e : d = t
        · subst e
          rw [if_pos rfl]
          have := mv (cs := cs.map (·.1)) (L := fun j => (listed.setIfInBounds i true).getD j false) (i := i) (q := d) (v := s) (by rw [List.getElem?_map, hcs]; simp [h1]) (by simp only [hset]; simp) (fun j q' v' hj he hij => by
            obtain ⟨e', hc⟩ := mapS hj
            simp only [hset]
            rw [if_neg (by omega)]
            have := hwr j q' v' e' hc (by omega) (.inr (by rw [hdst, h1, he]; rfl))
            cases hlj : listed.getD j false with
            | false => rfl
            | true => have := this.1 hlj; omega)
          rw [this] at hs
          exact hs
        rw [if_neg e]
        exact hoth (fun q v h => by rw [h1] at h; injection h with h; injection h with h _; subst h; exact e)
      rw [ia] at hs
      have hoth : (∀ q v, ef.2 = some (q, v) → q ≠ t) → az (stE st cs (fun j => listed.getD j false)).heap t = some s' := fun hn => by
        rw [ia, ← hs]
        congr 1
        refine ig fun j q v hj he => ?_
        simp only [hset]
        rw [if_neg]
        rintro rfl
        obtain ⟨e, hc⟩ := mapH hj
        rw [hcs] at hc
        injection hc with hc
        exact hn q v (by rw [hc]) he
      rcases h1 : ef.2 with _ | ⟨d, s⟩
      · simp only [St.app, h1, Option.toList, List.nil_append]
        exact hoth (fun q v h => by rw [h1] at h; cases h)
      simp only [St.app, h1, Option.toList, List.cons_append, List.nil_append, aW]
      by_cases e : d = t
      · subst e
        rw [if_pos rfl]
        have hdR : d ∈ R := rk.own i ef.1 d s R (by rw [hcs, ← h1]) hRs
        have := mv (cs := cs.map (·.2)) (L := fun j => (listed.setIfInBounds i true).getD j false) (i := i) (q := d) (v := s) (by rw [List.getElem?_map, hcs]; simp [h1]) (by simp only [hset]; simp) (fun j q' v' hj he hij => by
          obtain ⟨e', hc⟩ := mapH hj
          simp only [hset]
          rw [if_neg (by omega)]
          have := hrow j e' q' v' hc (by omega) (by rw [he]; exact hdR)
          cases hlj : listed.getD j false with
          | false => rfl
          | true => have := this.1 hlj; omega)
        rw [this] at hs
        exact hs
      rw [if_neg e]
      exact hoth (fun q v h => by rw [h1] at h; injection h with h; injection h with h _; subst h; exact e)
    unfold wpOp
    simp only [hoi]
    split
    · rename_i hw
      rw [if_pos hw] at hstep
      exact .inl (Oper.wp_mono hnext hstep)
    rename_i hw
    rw [if_neg hw] at hstep
    exact hnext _ _ hstep
theorem bZ {id : Nat} {l : List Oper} {cs : List Ef} {Rs Ns : List (List Nat)} (hm : P.follows .mixedOrders = true) (hB : qt l.toArray = true) (has : AE P cx l.toArray st l cs Rs Ns) (hrw : yI l.toArray st cs Rs Ns = true)
    (hn : JN P cx (stE st cs (fun _ => true)) k) : J P cx st (.region id l.toArray true) k := by
  intro a w hi
  refine wp_region_any hm ?_
  obtain ⟨β, hb⟩ := hi
  have hi0 : Inv cx st a w.drew := ⟨β, hb.later (Below.drew' w)⟩
  have hst0 : Inv cx (stE st cs (fun i => (Array.replicate l.toArray.size false).getD i false)) a w.drew := by
    refine Sub.inv ⟨fun i s hs => ?_, fun i s hs => ?_⟩ hi0
    · rw [gG, gL (fun j _ _ _ _ => getD_replicate_false _ _)] at hs; simpa using hs
    rw [ia, gL (fun j _ _ _ _ => getD_replicate_false _ _)] at hs; simpa using hs
  have hL : Lst l.toArray 0 l.toArray.size (Array.replicate l.toArray.size false) :=
    ⟨by simp, fun i h => by omega, fun i h1 h2 => by omega, fun j oj hj hl => by rw [getD_replicate_false] at hl; cases hl⟩
  exact AZ (Q := k.post P) (kj hB) rfl has (w7 hrw) (fun a w hi => hn a w hi) l.toArray.size _ hL (mD _) a w.drew hst0
end
end Go.Eng
namespace Go.Eng
set_option linter.unusedVariables false
/-! short forms of the steps -/
section
variable {P : Program} {cx : Cx} {st st' : St} {β : Loc} {a : Act} {w w' : World} {ops : Array Oper} {k : Kn} {rest : List Oper}
variable {dst : Option Tmp} {d : Nat} {s : SV} {o : Op} {ty : TypeId} {pos : String} {aft : Array Edge} {x y : Operand}
theorem Ev.b (h : evS st x = some s) : Ev st x s := .base h
theorem Args.c {xs : List Operand} {ss : List SV} (h : evS st x = some s) (hr : Args st xs ss) : Args st (x :: xs) (s :: ss) := .cons (.base h) hr
theorem zJ (h : Adr P cx st ⟨some d, o, ty, pos, aft, none⟩ s) (hr : JG P cx ops (st.put d s) rest k) (hd : Nat.blt d cx.n = true := by rfl) : JG P cx ops st (⟨some d, o, ty, pos, aft, none⟩ :: rest) k := bc s rfl d rfl hd h hr
theorem zO {st1 : St} (h : OS P cx ⟨dst, o, ty, pos, aft, none⟩ st st1) (hr : JG P cx ops st1 rest k) : JG P cx ops st (⟨dst, o, ty, pos, aft, none⟩ :: rest) k := eN st1 rfl h hr
theorem zM (h : evS st x = some s) (hr : JG P cx ops (st.put d s) rest k) (hd : Nat.blt d cx.n = true := by rfl) : JG P cx ops st (⟨some d, .move x, ty, pos, aft, none⟩ :: rest) k := zJ (ag (.base h)) hr hd
theorem zA (h : evS st x = some s) (hr : JG P cx ops (st.put d s) rest k) (hd : Nat.blt d cx.n = true := by rfl) : JG P cx ops st (⟨some d, .assign x, ty, pos, aft, none⟩ :: rest) k := zJ (aU (.base h)) hr hd
theorem zF {nm sz i f t q off : Nat} (hf : fld P t q = some off) (h : evS st x = some (.optr nm sz i f)) (hr : JG P cx ops (st.put d (.optr nm sz i (f + off))) rest k) (hd : Nat.blt d cx.n = true := by rfl) : JG P cx ops st (⟨some d, .fieldAddr t x q, ty, pos, aft, none⟩ :: rest) k := zJ (ao hf (.base h)) hr hd
theorem ze {t yt : TypeId} {kk : IntKind} {p q : Int} (h1 : evS st x = some (.raw (.int kk p))) (h2 : evS st y = some (.raw (.int kk q))) (hr : JG P cx ops (st.put d (.raw (.bool (p == q)))) rest k) (hd : Nat.blt d cx.n = true := by rfl) : JG P cx ops st (⟨some d, .binOp .eql t x y yt, ty, pos, aft, none⟩ :: rest) k := zJ (ca (.base h1) (.base h2)) hr hd
theorem zt {t yt : TypeId} {kk : IntKind} {p q : Int} (h1 : evS st x = some (.raw (.int kk p))) (h2 : evS st y = some (.raw (.int kk q))) (hr : JG P cx ops (st.put d (.raw (.bool (decide (p < q))))) rest k) (hd : Nat.blt d cx.n = true := by rfl) : JG P cx ops st (⟨some d, .binOp .lss t x y yt, ty, pos, aft, none⟩ :: rest) k := zJ (dS (.base h1) (.base h2)) hr hd
theorem zU {t yt : TypeId} {kk : IntKind} {p q r : Int} (h1 : evS st x = some (.raw (.int kk p))) (h2 : evS st y = some (.raw (.int kk q))) (hw : kk.wrap (p + q) = r) (hr : JG P cx ops (st.put d (.raw (.int kk r))) rest k) (hd : Nat.blt d cx.n = true := by rfl) : JG P cx ops st (⟨some d, .binOp .add t x y yt, ty, pos, aft, none⟩ :: rest) k := zJ (op_add (.base h1) (.base h2) hw) hr hd
theorem zD {α : Type} {rt : RT α} {t : TypeId} {z : α} (ht : Ty P t rt) (h : evS st x = some (.eptr rt z)) (hr : JG P cx ops (st.put d (SV.of rt z)) rest k) (hd : Nat.blt d cx.n = true := by rfl) : JG P cx ops st (⟨some d, .load t x, ty, pos, aft, none⟩ :: rest) k := zJ (aA ht (.base h)) hr hd
theorem zB {α γ : Type} {rt : RT α} {rt' : RT γ} {get : α → γ} {set : α → γ → α} {t q off : Nat} {z : α} (hf : fld P t q = some off) (hl : Lens rt off rt' get set) (h : evS st x = some (.eptr rt z)) (hr : JG P cx ops (st.put d (.eptr rt' (get z))) rest k) (hd : Nat.blt d cx.n = true := by rfl) : JG P cx ops st (⟨some d, .fieldAddr t x q, ty, pos, aft, none⟩ :: rest) k := zJ (aO hf hl (.base h)) hr hd
theorem zN {α : Type} {rt : RT α} {t e : TypeId} {xs : List α} (ht : P.underlying t = some (.slice e)) (h : evS st x = some (.tv (ab rt) xs)) (hr : JG P cx ops (st.put d (.raw (.int .i64 (xs.length : Int)))) rest k) (hd : Nat.blt d cx.n = true := by rfl) : JG P cx ops st (⟨some d, .call { callee := .builtin .len, args := #[x], argTypes := #[t] }, ty, pos, aft, none⟩ :: rest) k := zJ (cJ ht (.base h)) hr hd
theorem zX {α : Type} {rt : RT α} {t e : TypeId} {kk : IntKind} {i : Int} {j : Nat} {xs : List α} {z : α} (ht : P.underlying t = some (.slice e)) (he : Ty P e rt) (h1 : evS st x = some (.tv (ab rt) xs)) (h2 : evS st y = some (.raw (.int kk i))) (hij : i = (j : Int)) (hz : xs[j]? = some z) (hr : JG P cx ops (st.put d (.eptr rt z)) rest k) (hd : Nat.blt d cx.n = true := by rfl) : JG P cx ops st (⟨some d, .indexAddr t x y, ty, pos, aft, none⟩ :: rest) k := zJ (al ht he (.base h1) (.base h2) hij hz) hr hd
theorem zG {j g : Nat} {want c : Bool} (hj : (ops[j]?).bind (·.dst) = some g) (hc : a8 st.slots g = some (.raw (.bool c))) (h : (c == want) = true → Adr P cx st ⟨some d, o, ty, pos, aft, some (j, want)⟩ s) (hr : JG P cx ops (st.put d (.gd (c == want) s)) rest k) (hd : Nat.blt d cx.n = true := by rfl) :
    JG P cx ops st (⟨some d, o, ty, pos, aft, some (j, want)⟩ :: rest) k := jg_gd s j want c g d rfl hj hc rfl hd h hr
theorem zK (ks hs : List Nat) {r : List (Nat × SV)} {hp : List (Nat × HB)} (hj : JN P cx ⟨r, hp⟩ k) (h : Keep st.slots ks r := by repeat (first | exact .nil | apply Keep.cons rfl)) (hh : KeepH st.heap hs hp := by repeat (first | exact .nil | apply KeepH.cons rfl)) : JN P cx st k := Cb ks hs h hh hj
theorem zI (hi : Inv cx st a w) (h : Sub st st' := by exact ⟨(by repeat (first | exact aQ | refine aM rfl (by first | rfl | (simp; done) | assumption) ?_)), (by repeat (first | exact bn | refine aL rfl (by first | rfl | (simp; done) | assumption) ?_))⟩) : Inv cx st' a w := Sub.inv h hi
theorem zW (hi : Inv cx st a w) (h : Sub st st' := by exact ⟨(by repeat (first | exact aQ | refine aM rfl (by first | rfl | (simp; done) | assumption | (refine congrArg (SV.own _ _ 0) ?_; first | (rw [hs]; simp; done) | (rw [hs]; done) | (rw [hs, List.length_append]; done) | (rw [hs, List.length_append]; rfl) | (simp [hs]; done))) ?_)), (by repeat (first | exact bn | refine aL rfl (by first | rfl | (simp; done) | assumption | exact congrArg (HB.mk _) hs | exact congrArg (HB.mk _) hs.symm | (refine congrArg (HB.mk _) ?_; first | (rw [hs]; (try simp only [List.drop_zero, List.take_length]); first | done | rfl | (simp; done)) | (rw [hs]; done) | (rw [hs, List.drop_zero, List.take_length]; done) | (rw [hs, List.drop_zero, List.take_length]; rfl) | (rw [hs]; simp; done)) | (rw [Nat.zero_add]; exact congrArg (HB.mk _) hs) | (rw [Nat.zero_add]; exact congrArg (HB.mk _) hs.symm) | (rw [← hs]; simp; done)) ?_))⟩) : Inv cx st' a w := Sub.inv h hi
theorem zE {l : List Oper} {cs : List Ef} {Rs Ns : List (List Nat)} (R : List Nat) (h : Adr P cx st ⟨some d, o, ty, pos, aft, none⟩ s) (hr : AE P cx ops (st.app (some (d, s), none)) l cs Rs Ns) (hd : Nat.blt d cx.n = true := by rfl) (hR : yW st ⟨some d, o, ty, pos, aft, none⟩ R = true := by kernel_rfl) :
    AE P cx ops st (⟨some d, o, ty, pos, aft, none⟩ :: l) ((some (d, s), none) :: cs) (R :: Rs) ([] :: Ns) := .cons _ R [] rfl (ft R (AL rfl rfl hd h) hR) hr
theorem zS {l : List Oper} {cs : List (Nat × SV)} (h : Adr P cx st ⟨some d, o, ty, pos, aft, none⟩ s) (hr : AS P cx ops (st.put d s) l cs) (hd : Nat.blt d cx.n = true := by rfl) : AS P cx ops st (⟨some d, o, ty, pos, aft, none⟩ :: l) ((d, s) :: cs) := .cons d s rfl (AL rfl rfl hd h) hr
theorem zL {α γ : Type} {rt : RT α} [NM rt] {rt' : RT γ} [NM rt'] {get : α → γ} {set : α → γ → α} {nm i f : Nat} {xs : List α} {q : α} {t : TypeId} (ht : Ty P t rt') (h : evS st x = some (.optr nm rt.n i f)) (hn : az st.heap nm = some ⟨rt, xs⟩) (hy : xs[i]? = some q) (hl : Lens rt f rt' get set)
    (hr : JG P cx ops (st.put d (SV.of rt' (get q))) rest k) (hd : Nat.blt d cx.n = true := by rfl) : JG P cx ops st (⟨some d, .load t x, ty, pos, aft, none⟩ :: rest) k := zJ (aj ht (.base h) hn hy hl) hr hd
theorem zQ (ks hs : List Nat) {r : List (Nat × SV)} {hp : List (Nat × HB)} (hj : JN P cx ⟨r, hp⟩ k) (h : Keep st.slots ks r := by repeat (first | exact .nil | apply Keep.cons rfl)) (hh : KeepH st.heap hs hp := by repeat (first | exact .nil | apply KeepH.cons rfl)) : JG P cx ops st [] k := aN (zK ks hs hj h hh)
theorem zZ {c : Code} (h : J P cx st c k) : JG P cx ops st [] (.seq c k) := aN (aa h)
theorem zR {id : Nat} {l : List Oper} {c : Code} (h : JG P cx l.toArray st l (.seq c k)) : J P cx st (.seq (.region id l.toArray false) c) k := ae (ac h)
theorem zY (h : evS st x = some s) (hr : JN P cx (st.put d s) k) (hd : Nat.blt d cx.n = true := by rfl) : JG P cx ops st [⟨some d, .assign x, ty, pos, aft, none⟩] k := zA h (aN hr) hd
theorem zC {α γ : Type} {rt : RT α} [NM rt] {rt' : RT γ} [NM rt'] {get : α → γ} {set : α → γ → α} {nm i f : Nat} {xs : List α} {q : α} {z : γ} {t : TypeId} (ht : Ty P t rt') (h : evS st x = some (.optr nm rt.n i f)) (hn : az st.heap nm = some ⟨rt, xs⟩) (hy : xs[i]? = some q) (hl : Lens rt f rt' get set) (hv : Rd st y rt' z)
    (hr : JG P cx ops ⟨st.slots, (nm, ⟨rt, xs.set i (set q z)⟩) :: st.heap⟩ rest k) : JG P cx ops st (⟨none, .store t x y, ty, pos, aft, none⟩ :: rest) k := zO (bK ht (.base h) hn hy hl hv) hr
theorem zb {α : Type} {T : TypeId} {rt : RT α} [NM rt] {z : α} (hx : Rd st x rt z) (hr : JG P cx ops ⟨(d, .optr d rt.n 0 0) :: st.slots, (d, ⟨rt, [z]⟩) :: st.heap⟩ rest k) (hd : Nat.blt d cx.n = true := by rfl) (hf : di d st.slots = true := by rfl) (hn : az st.heap d = none := by rfl) :
    JG P cx ops st (⟨some d, .box T x, ty, pos, aft, none⟩ :: rest) k := zO (uM hx hd hf hn) hr
theorem zl {α : Type} {T : TypeId} {rt : RT α} [NM rt] {z : α} (hz : TyZero P T rt z) (hr : JG P cx ops ⟨(d, .optr d rt.n 0 0) :: st.slots, (d, ⟨rt, [z]⟩) :: st.heap⟩ rest k) (hd : Nat.blt d cx.n = true := by rfl) (hf : di d st.slots = true := by rfl) (hn : az st.heap d = none := by rfl) :
    JG P cx ops st (⟨some d, .alloc T, ty, pos, aft, none⟩ :: rest) k := zO (pY z hz hd hf hn) hr
theorem zV {α : Type} {rt : RT α} [NM rt] {z : α} {t e : TypeId} {nm off n : Nat} {xs ys : List α} {r : List (Nat × SV)} {by_ : Nat} (ks : List Nat) (ht : P.underlying t = some (.slice e)) (he : Ty P e rt) (hz : TyZero P e rt z) (hby : (P.info? e).map (·.bytes) = some by_) (hx : evS st x = some (.own nm rt.n off n)) (hn : az st.heap nm = some ⟨rt, xs⟩) (hy : Rd st y (ab rt) ys)
    (hr : JG P cx ops ⟨(d, .own nm rt.n 0 (n + ys.length)) :: r, (nm, ⟨rt, (xs.drop off).take n ++ ys⟩) :: st.heap⟩ rest k) (hn1 : Nat.ble 1 rt.n = true := by rfl) (hle : off + n ≤ xs.length := by (try simp); try omega) (h63 : n + ys.length ≤ maxLen := by unfold maxLen; (try simp); try omega) (hb : (n + ys.length) * by_ ≤ 140737488355328 := by (try simp); try omega)
    (hd : Nat.blt d cx.n = true := by rfl) (hk : Keep st.slots ks r := by repeat (first | exact .nil | apply Keep.cons rfl)) (hf : di nm r = true := by rfl) : JG P cx ops st (⟨some d, .call { callee := .builtin .append, args := #[x, y], argTypes := #[t, t] }, ty, pos, aft, none⟩ :: rest) k := zO (dn ks ht he hz hn1 hby (.base hx) hn hle hy h63 hb hd hk hf) hr
theorem zEG {l : List Oper} {cs : List Ef} {Rs Ns : List (List Nat)} {j g : Nat} {want c : Bool} (R : List Nat) (hj : (ops[j]?).bind (·.dst) = some g) (hc : a8 st.slots g = some (.raw (.bool c))) (h : (c == want) = true → Adr P cx st ⟨some d, o, ty, pos, aft, some (j, want)⟩ s) (hr : AE P cx ops (st.app (some (d, .gd (c == want) s), none)) l cs Rs Ns) (hd : Nat.blt d cx.n = true := by rfl) (hR : yW st ⟨some d, o, ty, pos, aft, some (j, want)⟩ R = true := by kernel_rfl) :
    AE P cx ops st (⟨some d, o, ty, pos, aft, some (j, want)⟩ :: l) ((some (d, .gd (c == want) s), none) :: cs) (R :: Rs) ([] :: Ns) := .cons _ R [] rfl (ft R (C9 j want c g rfl hj hc rfl hd h) hR) hr
theorem zSG {l : List Oper} {cs : List (Nat × SV)} {j g : Nat} {want c : Bool} (hj : (ops[j]?).bind (·.dst) = some g) (hc : a8 st.slots g = some (.raw (.bool c))) (h : (c == want) = true → Adr P cx st ⟨some d, o, ty, pos, aft, some (j, want)⟩ s) (hr : AS P cx ops (st.put d (.gd (c == want) s)) l cs) (hd : Nat.blt d cx.n = true := by rfl) :
    AS P cx ops st (⟨some d, o, ty, pos, aft, some (j, want)⟩ :: l) ((d, .gd (c == want) s) :: cs) := .cons d _ rfl (C9 j want c g rfl hj hc rfl hd h) hr
theorem z1 {fn : Func} {t : Nat} {r : SV} (hr : fn.results = #[.tmp t]) (h : a8 st.slots t = some s) (e : s = r) (hp : s.plain = true := by rfl) : JR P cx st (.fin fn (sS cx r)) := cv hr (aw h) hp e
theorem z2 {fn : Func} {t u : Nat} {s' r : SV} (hr : fn.results = #[.tmp t, .tmp u]) (h : a8 st.slots t = some s) (h' : a8 st.slots u = some s') (e : SV.tup2 s s' = r) (hp : s.plain = true ∧ s'.plain = true := by exact ⟨rfl, rfl⟩) : JR P cx st (.fin fn (sS cx r)) := aK hr (aw h) (aw h') hp e
end
theorem zg {α : Type} {l : List α} {i : Nat} (h : i < l.length := by first | omega | (simp; done) | (simp; omega) | (simp at hg; omega)) : l[i]? = some l[i] := List.getElem?_eq_getElem h
theorem zh {p : Prop} (h : p := by first | omega | (simp; done) | (simp; omega)) : p := h
theorem zj {p : Prop} (h : p := by first | omega | (simp; omega)) : p := h
theorem zo {p : Prop} (h : p := by omega) : p := h
theorem zk {p : Prop} (h : p := by kernel_rfl) : p := h
theorem zw {n : Int} (h : -9223372036854775808 ≤ n ∧ n ≤ 9223372036854775807 := by omega) : IntKind.i64.wrap n = n := w64 h
theorem zp {p : Prop} (h : p := by intro h; first | (rw [h]; rfl) | (rw [hg, h]; rfl) | (rw [h, hg]; rfl) | simp_all) : p := h
end Go.Eng
