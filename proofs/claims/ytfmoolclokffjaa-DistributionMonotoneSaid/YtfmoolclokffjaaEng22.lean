import Derived.Test.YtfmoolclokffjaaEng20
import Derived.Shelf.SlSortCmp.Whole1
namespace Go.Eng
set_option linter.unusedSimpArgs false
open Go.Sort (SWO pdq Holds putRow putCells mapBlock)
open Go.Proofs (ltOf)

section
variable {P : Program} {cx : Cx} {st st' : St} {β : Loc} {a : Act} {w w' : World} {ops : Array Oper} {k : Kn} {c : Code}
variable {dst : Option Tmp} {ty : TypeId} {pos : String} {aft : Array Edge} {gd : Option (Nat × Bool)}
variable {α γ : Type}
theorem putCells_map [Inhabited α] (enc : α → Int) (o : Nat) (d : Array α) (cur : Array Value) : putCells (fun x => Value.int .i64 (enc x)) o d cur = putCells (Value.int .i64) o (d.map enc) cur := by
  apply Array.ext
  · simp [putCells]
  · intro i h1 h2
    simp only [putCells, Array.getElem_mapIdx, Array.size_map]
    split
    · rename_i h
      rw [getElem!_pos d (i - o) (by omega), getElem!_pos (d.map enc) (i - o) (by simp; omega)]; simp
    · rfl
theorem putRow_map [Inhabited α] (enc : α → Int) (w : World) (b o : Nat) (d : Array α) : putRow (fun x => Value.int .i64 (enc x)) w b o d = putRow (Value.int .i64) w b o (d.map enc) := by
  simp only [putRow]
  congr 1
  funext x
  cases x <;> simp [putCells_map, Sort.onCells]

theorem op_sortF {ρ : Go.Shelf.Ren} (L : Go.Proofs.SlLaysF.n6 P ρ) [Inhabited α] (enc : α → Int) (cf : α → α → Int) (hO : SWO (ltOf cf)) {f : Int → Int → Int} {φ : Int → Int → Prop} (hφ : ∀ x y, φ (enc x) (enc y)) (hf : ∀ x y, f (enc x) (enc y) = cf x y)
    {kf : FuncId} (hkf : kf = ρ.f 6) (hent : ∀ w args, (callFunc kf args).run P w = .ok (.enter kf args) w) {nm d n : Nat} {ds : List α} {x y : Operand} {ts : Array TypeId} (hx : Ev st x (.own nm (rInt .i64).n 0 n)) (hy : Ev st y (.tv (rFun2 P (rInt .i64) (rInt .i64) (rInt .i64) φ) f))
    (hn : lookH st.heap nm = some ⟨rInt .i64, ds.map enc⟩) (hfull : n = ds.length) (hne : ds ≠ []) (hbig : ds.length < 4611686018427387904) (hd : Nat.blt d cx.n = true) :
    OS P cx ⟨some d, .call { callee := .value (.func kf), args := #[x, y], argTypes := ts }, ty, pos, aft, gd⟩ st ⟨(d, .raw (.tuple #[])) :: st.slots, (nm, ⟨rInt .i64, (pdqL (ltOf cf) (Lib.bitLen ds.length) ds).map enc⟩) :: st.heap⟩ := by
  rintro a w ⟨β, hi⟩ Q
  have hrun : (execOp a.eval ⟨some d, .call { callee := .value (.func kf), args := #[x, y], argTypes := ts }, ty, pos, aft, gd⟩).run P w = .ok (.enter kf #[a.eval x, a.eval y]) w := by
    simp [execOp, resolve, Act.eval, Deferred.ofValue, invoke, hent]
  unfold Oper.wp
  rw [hrun, Oper.upon_enter]
  subst hfull hkf
  obtain ⟨g, caps, hg, h1, h3⟩ := fun2_form (hi.ev hy)
  have hv := hi.ev hx
  have hrow := hi.rows nm _ hn
  simp only [SV.holds, hdr] at hv
  have hpos : ds.length ≠ 0 := fun e => hne (List.length_eq_zero_iff.1 e)
  cases hb : β nm with
  | none =>
    rw [hb] at hrow
    have hxs : ds.map enc = [] := hrow
    exact absurd (by simpa using hxs) hne
  | some bo =>
    obtain ⟨b, o⟩ := bo
    rw [hb] at hrow hv
    obtain ⟨A, cap, hv, hc1, hc2, hc3⟩ := hv
    rcases hc3 with ⟨e0, _⟩ | ⟨hA, cur, e, fr, hcur, hfit⟩
    · exact absurd e0 hpos
    have hA : A = some ⟨b, o, none⟩ := by rw [hA]; simp
    subst hA
    have hbs := InvB.cell_lt hcur
    have hH := rows_holds (hrow.1 NM.no)
    have hH2 : Holds (fun x => Value.int .i64 (enc x)) w b o ds.toArray := fun j hj => by
      have hj' : j < ds.length := by simpa using hj
      have := hH j (by simpa using hj')
      have e1 : (ds.map enc).toArray[j]! = enc ds.toArray[j]! := by
        rw [getElem!_pos _ j (by simpa using hj'), getElem!_pos _ j (by simpa using hj')]; simp
      rw [e1] at this; exact this
    rw [hv, hg]
    have hcmp : Go.Proofs.CmpLays1 P g caps (fun x => Value.int .i64 (enc x)) cf b o ds.toArray.size w := fun m os dk hs x y => by
      have hcall := h3 (Go.Proofs.sortWorld (fun x => Value.int .i64 (enc x)) w b o m dk os) (okOf cx st.heap β w) (fun bb hbb => ⟨hbb, by
        have hne' : bb ≠ b := fun e1 => hbb.2.2 nm _ hn _ hb e1.symm
        have hlt := hbb.2.1
        simp only [Go.Proofs.sortWorld, Sort.grow, putRow, mapBlock, Sort.heap_ahead]
        rw [Array.getElem?_append_left (by simpa using hlt), Array.getElem?_modify, if_neg (Ne.symm hne')]⟩)
        (fun bb hbb => by
          have hlt := hbb.2.1
          simp only [Go.Proofs.sortWorld, Sort.grow, putRow, mapBlock, Sort.heap_ahead, Array.size_append, Array.size_modify]; omega)
        (enc x) (enc y) (.int .i64 (enc x)) (.int .i64 (enc y)) (hφ x y) ⟨_, rfl, rfl⟩ ⟨_, rfl, rfl⟩
      refine hcall.mono ?_
      rintro e w' ⟨v, rfl, hbl, hv⟩
      have hv : v = .int .i64 (f (enc x) (enc y)) := hv
      have hbl : Below (Go.Proofs.sortWorld (fun x => Value.int .i64 (enc x)) w b o m dk os).heap.size (Go.Proofs.sortWorld (fun x => Value.int .i64 (enc x)) w b o m dk os) w' := hbl.plain (fun _ h => h)
      obtain ⟨q, os', hw⟩ := hbl.grow
      exact ⟨by rw [hv, hf], q, os', hw⟩
    have hone : Go.Proofs.OneCell (fun x : α => Value.int .i64 (enc x)) := fun _ => rfl
    have hcap : ds.toArray.size = ds.length := by simp
    have hS := Go.Proofs.Any.slices_SortFunc_eq L (fun x => Value.int .i64 (enc x)) hone cf hO g caps b o cap ds.toArray w (fun args w => h1 w args) hcmp hH2 hbs (by simpa using hbig)
    rw [hcap] at hS
    refine hS.mono ?_
    rintro e' w' ⟨rfl, q, os, rfl⟩
    have hlen : ((pdqL (ltOf cf) (Lib.bitLen ds.length) ds).map enc).length = (ds.map enc).length := by
      rw [List.length_map, List.length_map, (pdqL_ok hO _ _).2.2]
    have ht := turn_inv (q := q) (os := os) hi hn hb hlen
    have e2 : Go.Proofs.sortWorld (fun x => Value.int .i64 (enc x)) w b o q (pdq (ltOf cf) ds.toArray 0 ds.length (Lib.bitLen ds.length) true true) os = Sort.grow (putRow (Value.int .i64) (Sort.ahead w q) b o ((pdqL (ltOf cf) (Lib.bitLen ds.length) ds).map enc).toArray) os := by
      have e3 : ((pdqL (ltOf cf) (Lib.bitLen ds.length) ds).map enc).toArray = (pdq (ltOf cf) ds.toArray 0 ds.length (Lib.bitLen ds.length) true true).map enc := by apply Array.ext'; simp [pdqL]
      rw [e3, ← putRow_map]; rfl
    rw [e2]
    exact ⟨_, ht.put (by simpa using hd) rfl⟩
end
end Go.Eng
