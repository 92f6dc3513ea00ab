import Derived.Test.YtfamnoalgjkjhaaP34s
namespace Go.Proofs.Ytfamnoalgjkjhaa
open Go.Eng
set_option maxRecDepth 100000
set_option maxHeartbeats 4000000
set_option linter.unusedVariables false
set_option linter.unusedSimpArgs false

section
variable {P : Program} {cx : Cx} {st : St} {β : Loc} {a : Act} {w : World} {k : Kn} {c : Code}
/-- a struct of one field, read as the field -/
theorem inv_unone {α : Type} {nb : Nat} {r1 r2 : RT α} [NM r1] [NM r2] {d : α} (hc : ∀ w ok cs, r1.rep w ok cs d → r2.rep w ok cs d) (hnn : r1.n = r2.n) (hn : lookH st.heap nb = some ⟨r1, [d]⟩) (hi : Inv cx st a w) :
    Inv cx ⟨st.slots, (nb, ⟨r2, [d]⟩) :: st.heap⟩ a w := by
  obtain ⟨β, hb⟩ := hi
  have hk : ∀ k h', lookH ((nb, HB.mk r2 [d]) :: st.heap) k = some h' → (k = nb ∧ h' = ⟨r2, [d]⟩) ∨ (k ≠ nb ∧ lookH st.heap k = some h') := fun k h' hh => by
    rw [lookH_cons] at hh
    split at hh
    · rename_i e; injection hh with hh; exact .inl ⟨e.symm, hh.symm⟩
    · rename_i e; exact .inr ⟨fun e2 => e e2.symm, hh⟩
  have hk' : ∀ k h', lookH ((nb, HB.mk r2 [d]) :: st.heap) k = some h' → ∃ h'', lookH st.heap k = some h'' := fun k h' hh => by
    rcases hk k h' hh with ⟨rfl, _⟩ | ⟨_, hh⟩
    · exact ⟨_, hn⟩
    · exact ⟨_, hh⟩
  have hok : ∀ b, okOf cx st.heap β w b → okOf cx ((nb, HB.mk r2 [d]) :: st.heap) β w b ∧ w.heap[b]? = w.heap[b]? := fun b ⟨g1, g2, g3⟩ => ⟨⟨g1, g2, fun k h' hh x hx => by
    obtain ⟨h'', hh'⟩ := hk' k h' hh
    exact g3 k h'' hh' x hx⟩, rfl⟩
  have hkeep : ∀ (t : SV) (v : Value), t.holds β w (okOf cx st.heap β w) v → t.holds β w (okOf cx ((nb, HB.mk r2 [d]) :: st.heap) β w) v := fun t v hv =>
    SV.keep hok (fun k _ => ⟨rfl, fun b o _ cur e fr hc => ⟨cur, e, fr, hc, rfl⟩⟩) hv
  refine ⟨β, hb.below, hb.old, hb.defers, hb.size, fun k h' hh x hx => ?_, fun k k' h' h'' hh hh' x y hx hy he => ?_, fun k h' hh => ?_, fun q t hq => ?_⟩
  · obtain ⟨g, hg⟩ := hk' k h' hh
    exact hb.own k g hg x hx
  · obtain ⟨q, hg⟩ := hk' k h' hh
    obtain ⟨q', hg'⟩ := hk' k' h'' hh'
    exact hb.sep k k' q q' hg hg' x y hx hy he
  · rcases hk k h' hh with ⟨rfl, rfl⟩ | ⟨hne, hh⟩
    · have hr := hb.rows k _ hn
      cases hβ : β k with
      | none => rw [hβ] at hr; cases hr
      | some bo =>
        obtain ⟨b, o⟩ := bo
        rw [hβ] at hr
        refine ⟨fun _ => ?_, fun hm => by rw [show r2.mp = false from NM.no] at hm; cases hm⟩
        obtain ⟨cur, e, g1, g2, g3⟩ := hr.1 NM.no
        refine ⟨cur, e, g1, by simpa [← hnn] using g2, fun i x hx => ?_⟩
        cases i with
        | succ i => simp at hx
        | zero =>
          simp at hx; subst hx
          obtain ⟨cs, g4, g5⟩ := g3 0 d rfl
          exact ⟨cs, r2.keep hok (hc _ _ _ g4), by simpa [← hnn] using g5⟩
    · exact HB.keep hok (fun x hx => rfl) (hb.rows k h' hh)
  · obtain ⟨v, g1, g2⟩ := hb.slots q t hq
    exact ⟨v, g1, hkeep _ _ g2⟩
theorem j_unone {α : Type} (nb : Nat) {r1 : RT α} (r2 : RT α) [NM r1] [NM r2] {d : α} (hc : ∀ w ok cs, r1.rep w ok cs d → r2.rep w ok cs d) (hnn : r1.n = r2.n) (hn : lookH st.heap nb = some ⟨r1, [d]⟩)
    (h : J P cx ⟨st.slots, (nb, ⟨r2, [d]⟩) :: st.heap⟩ c k) : J P cx st c k := fun a w hi => h a w (inv_unone hc hnn hn hi)
end
instance : NM (rOne rHd) := ⟨rfl⟩
theorem zr_hd : ZR rHd [.slice none 0 0] (none, 0, 0) := fun _ _ => rfl
theorem zH : TyZero Try.prog 53 (rOne rHd) (none, 0, 0) := zr_ty (by kernel_rfl) (zr_one zr_hd)

def relB (m i r : Int) (f : TFact) : Bool := decide (f.2.1 = m) && decide (f.2.2.1 = i) && decide (f.2.2.2.2.2 ≤ r) && hasD f.2.2.2.2.1
def segV (items : List TFact) (w : Int) : Option TValue := if w < 0 then none else some (items.getD w.toNat zF).2.2.2.1
/-- the facts that count, those that take precedence first -/
def srtF (m i r : Int) (l : List TFact) : List TFact := ssort (leF cmpW) (l.filter (relB m i r))
def bndF (m i r : Int) (l : List TFact) : List Int := uniqS (bnd (rngB (relB m i r) l))
def timF (l : List TFact) (m i r : Int) : List TValuePeriod :=
  if (l.filter (relB m i r)).length = 0 then [] else perF (fun k => (bndF m i r l).getD k 0) (fun k => segV (srtF m i r l) ((winL (bndF m i r l) (srtF m i r l)).getD k 0)) (winL (bndF m i r l) (srtF m i r l)).length
theorem fil_len (q : TFact → Bool) (l : List TFact) (k : Nat) : ((l.take k).filter q).length ≤ k := Nat.le_trans (List.length_filter_le _ _) (by simp; omega)
theorem rng_fil (q : TFact → Bool) (l : List TFact) : (rngB q l).length = (l.filter q).length := by unfold rngB; simp
theorem win_len (bs : List Int) (l : List TFact) : (winL bs l).length = bs.length - 1 := by unfold winL; simp
theorem win_range {bs : List Int} {l : List TFact} {w : Int} (h : w ∈ winL bs l) : -1 ≤ w ∧ w < l.length := by
  unfold winL at h
  obtain ⟨s, _, rfl⟩ := List.mem_map.1 h
  unfold fstW
  split
  · rename_i j e
    have := (List.findIdx?_eq_some_iff_getElem.1 e).1
    omega
  · omega

theorem res_nilV {P : Program} {cx : Cx} {st : St} {α : Type} {rt : RT α} {t : Nat} (h : lookS st.slots t = some (.raw (.slice none 0 0))) : Res P cx st (.tmp t) (.tv (rSlice rt) []) := fun β a w hi => by
  obtain ⟨v, h1, h2⟩ := res_tmp h β a w hi
  have h2 : v = .slice none 0 0 := h2
  subst h2
  exact ⟨_, h1, nil_val⟩

theorem ftime_ok (l : List TFact) (m i r : Int) (hlm : l.length ≤ 1000) : Ct Try.prog 13 [.tv (rSlice rFact) l, .raw (.int .i64 (m)), .raw (.int .i64 (i)), .raw (.int .i64 (r))] (.tv (rSlice rValuePeriod) (timF l m i r)) := by
  refine ct_intro Try.func13 rfl rfl Try.ntmps13 rfl rfl ?_
  intro w0 ok0
  refine j_len 0 rfl (fun hl0 => ?_)
  refine j_seq ?_
  refine j_region ?_
  refine jg_adr _ rfl _ rfl rfl (op_assign (.base rfl)) ?_
  refine jg_nil ?_
  refine jn_keep [0, 1, 2, 3] [] (.cons rfl (.cons rfl (.cons rfl (.cons rfl .nil)))) .nil ?_
  refine jn_seq (j_seq ?_)
  refine j_region ?_
  refine jg_os _ rfl (op_alloc (rt := rOne rHd) (none, 0, 0) zH rfl rfl rfl) ?_
  refine jg_nil ?_
  refine jn_keep [0, 1, 2, 3, 9] [9] (.cons rfl (.cons rfl (.cons rfl (.cons rfl (.cons rfl .nil))))) (.cons rfl .nil) ?_
  refine jn_seq (j_seq ?_)
  refine j_unone (r1 := rOne rHd) 9 rHd (fun _ _ _ h => h) rfl rfl ?_
  refine j_vacL 9 71 rFact rfl rfl rfl ?_
  refine j_region ?_
  refine jg_adr _ rfl _ rfl rfl (op_assign (.base rfl)) ?_
  refine jg_nil ?_
  refine jn_keep [0, 1, 2, 3, 9, 10] [9, 71] (.cons rfl (.cons rfl (.cons rfl (.cons rfl (.cons rfl (.cons rfl .nil)))))) (.cons rfl (.cons rfl .nil)) ?_
  refine jn_seq (j_seq (j_seq ?_))
  refine j_region ?_
  refine jg_adr _ rfl _ rfl rfl (op_move (.base rfl)) ?_
  refine jg_adr _ rfl _ rfl rfl (op_len Try.underlying22 (.base rfl)) ?_
  refine jg_adr _ rfl _ rfl rfl (op_move (.base rfl)) ?_
  refine jg_nil ?_
  refine jn_keep [1, 2, 3, 9, 10, 20, 21, 22] [9, 71] (.cons rfl (.cons rfl (.cons rfl (.cons rfl (.cons rfl (.cons rfl (.cons rfl (.cons rfl .nil)))))))) (.cons rfl (.cons rfl .nil)) ?_
  refine jn_seq (j_block ?_)
  refine j_vac 70 10 rDateRange rfl rfl rfl ?_
  refine j_loopp (ι := (Nat × Option Addr × Nat)) (fun (k, A, cap) => ⟨[(1, .raw (.int .i64 (m))), (2, .raw (.int .i64 (i))), (3, .raw (.int .i64 (r))), (9, .lnk (.optr 9 1 0 0) (.slice A ((l.take k).filter (relB m i r)).length cap) (.own 71 rFact.n 0 ((l.take k).filter (relB m i r)).length)), (10, .own 70 rDateRange.n 0 (rngB (relB m i r) (l.take k)).length), (20, .tv (rSlice rFact) l), (21, .raw (.int .i64 (l.length))), (22, .raw (.int .i64 ((k : Nat))))], [(9, ⟨rHd, [(A, ((l.take k).filter (relB m i r)).length, cap)]⟩), (71, ⟨rFact, ((l.take k).filter (relB m i r))⟩), (70, ⟨rDateRange, (rngB (relB m i r) (l.take k))⟩)]⟩) (fun (k, A, cap) => k ≤ l.length) (fun (k, A, cap) => l.length - k) (0, none, 0) (Nat.zero_le _) (fun a w hi => (Sub.inv ⟨(by repeat (first | exact SubS_nil | refine SubS_cons rfl (by first | rfl | (simp; done) | assumption) ?_)), (by repeat (first | exact SubH_nil | refine SubH_cons rfl (by first | rfl | (simp; done) | assumption) ?_))⟩ hi)) ?_
  rintro ⟨k, A, cap⟩ hk
  have hrl := rng_lenk (relB m i r) l k
  have hfl := fil_len (relB m i r) l k
  refine j_seq ?_
  refine j_region ?_
  refine jg_adr _ rfl _ rfl rfl (op_lss (.base rfl) (.base rfl)) ?_
  refine jg_nil ?_
  refine jn_keep [1, 2, 3, 9, 10, 20, 21, 22, 23] [9, 70, 71] (.cons rfl (.cons rfl (.cons rfl (.cons rfl (.cons rfl (.cons rfl (.cons rfl (.cons rfl (.cons rfl .nil))))))))) (.cons rfl (.cons rfl (.cons rfl .nil))) ?_
  refine jn_seq (j_seq ?_)
  refine j_cond rfl (fun h4 => ?_) (fun h4 => ?_)
  · have h4 : k < l.length := by simp at h4; omega
    refine j_skip (jn_seq (j_seq (j_block (j_seq ?_))))
    refine j_region ?_
    refine jg_adr _ rfl _ rfl rfl (op_index Try.underlying22 ty45 (.base rfl) (.base rfl) rfl (List.getElem?_eq_getElem (by first | omega | (simp; done) | (simp; omega) | (simp at hg; omega)))) ?_
    refine jg_adr _ rfl _ rfl rfl (op_load ty45 (.base rfl)) ?_
    refine jg_os _ rfl (op_alloc _ z45 rfl rfl rfl) ?_
    refine jg_os _ rfl (op_ostore ty45 (.base rfl) rfl rfl (Lens.id _) (.tv (.base rfl))) ?_
    refine jg_nil ?_
    refine jn_keep [1, 2, 3, 9, 10, 12, 20, 21, 22] [9, 12, 70, 71] (.cons rfl (.cons rfl (.cons rfl (.cons rfl (.cons rfl (.cons rfl (.cons rfl (.cons rfl (.cons rfl .nil))))))))) (.cons rfl (.cons rfl (.cons rfl (.cons rfl .nil)))) ?_
    refine jn_seq (j_seq ?_)
    refine j_region ?_
    refine jg_adr _ rfl _ rfl rfl (op_ofield fld45_1 (.base rfl)) ?_
    refine jg_adr _ rfl _ rfl rfl (op_oload ty3 (.base rfl) rfl rfl ln45_1) ?_
    refine jg_adr _ rfl _ rfl rfl (op_move (.base rfl)) ?_
    refine jg_adr _ rfl _ rfl rfl (op_eql (.base rfl) (.base rfl)) ?_
    refine jg_adr _ rfl _ rfl rfl (op_move (.base rfl)) ?_
    refine jg_gd _ _ _ _ _ _ rfl rfl rfl rfl rfl (fun hg => op_ofield fld45_2 (.base rfl)) ?_
    refine jg_gd _ _ _ _ _ _ rfl rfl rfl rfl rfl (fun hg => op_oload ty3 (.gd rfl hg) rfl rfl ln45_2) ?_
    refine jg_gd _ _ _ _ _ _ rfl rfl rfl rfl rfl (fun hg => op_move (.base rfl)) ?_
    refine jg_gd _ _ _ _ _ _ rfl rfl rfl rfl rfl (fun hg => op_eql (.gd rfl hg) (.gd rfl hg)) ?_
    refine jg_adr _ rfl _ rfl rfl (op_pick_and (.base rfl) (.base rfl) rfl (by intro h; first | (rw [h]; rfl) | (rw [hg, h]; rfl) | (rw [h, hg]; rfl) | simp_all)) ?_
    refine jg_adr _ rfl _ rfl rfl (op_move (.base rfl)) ?_
    refine jg_gd _ _ _ _ _ _ rfl rfl rfl rfl rfl (fun hg => op_ofield fld45_5 (.base rfl)) ?_
    refine jg_gd _ _ _ _ _ _ rfl rfl rfl rfl rfl (fun hg => op_oload ty3 (.gd rfl hg) rfl rfl ln45_5) ?_
    refine jg_gd _ _ _ _ _ _ rfl rfl rfl rfl rfl (fun hg => op_move (.base rfl)) ?_
    refine jg_gd _ _ _ _ _ _ rfl rfl rfl rfl rfl (fun hg => op_leq (.gd rfl hg) (.gd rfl hg)) ?_
    refine jg_adr _ rfl _ rfl rfl (op_pick_and (.base rfl) (.base rfl) rfl (by intro h; first | (rw [h]; rfl) | (rw [hg, h]; rfl) | (rw [h, hg]; rfl) | simp_all)) ?_
    refine jg_adr _ rfl _ rfl rfl (op_move (.base rfl)) ?_
    refine jg_gd _ _ _ _ _ _ rfl rfl rfl rfl rfl (fun hg => op_ofield fld45_4 (.base rfl)) ?_
    refine jg_gd _ _ _ _ _ _ rfl rfl rfl rfl rfl (fun hg => op_oload ty40 (.gd rfl hg) rfl rfl ln45_4) ?_
    refine jg_gd _ _ _ _ _ _ rfl rfl rfl rfl rfl (fun hg => op_call (fne_ok _) (.cons (.gd rfl hg) .nil) rfl rfl) ?_
    refine jg_adr _ rfl _ rfl rfl (op_pick_and (.base rfl) (.base rfl) rfl (by intro h; first | (rw [h]; rfl) | (rw [hg, h]; rfl) | (rw [h, hg]; rfl) | simp_all)) ?_
    refine jg_nil ?_
    refine jn_keep [1, 2, 3, 9, 10, 12, 20, 21, 22, 46] [9, 12, 70, 71] (.cons rfl (.cons rfl (.cons rfl (.cons rfl (.cons rfl (.cons rfl (.cons rfl (.cons rfl (.cons rfl (.cons rfl .nil)))))))))) (.cons rfl (.cons rfl (.cons rfl (.cons rfl .nil)))) ?_
    refine jn_seq ?_
    refine j_cond rfl (fun h6 => ?_) (fun h6 => ?_)
    · have h6a : (relB m i r) l[k] = true := by simp at h6; simp [relB, h6]
      have hsr := rng_succ (q := (relB m i r)) h4
      have hsf := filt_succ (q := (relB m i r)) h4
      rw [if_pos h6a] at hsr hsf
      refine j_seq ?_
      refine j_region ?_
      refine jg_adr _ rfl _ rfl rfl (op_oload ty45 (.base rfl) rfl rfl (Lens.id _)) ?_
      refine jg_callP (rt := rFact) (nb := 9) (nm := 71) (c0 := 9) [12, 70] [1, 2, 3, 10, 12, 20, 21, 22] (add_ok _ _ (by omega)) (.l1 rfl) (.inl rfl) rfl (.inl rfl) rfl rfl rfl rfl (.cons (.base rfl) .nil) rfl rfl rfl rfl (.free rfl rfl (.free rfl rfl (.free rfl rfl (.free rfl rfl (.free rfl rfl (.free rfl rfl (.free rfl rfl (.free rfl rfl .nil)))))))) ?_
      intro ys A2 cap2 hys
      subst hys
      refine jg_nil ?_
      refine jn_keep [1, 2, 3, 9, 10, 12, 20, 21, 22] [9, 12, 70, 71] (.cons rfl (.cons rfl (.cons rfl (.cons rfl (.cons rfl (.cons rfl (.cons rfl (.cons rfl (.cons rfl .nil))))))))) (.cons rfl (.cons rfl (.cons rfl (.cons rfl .nil)))) ?_
      refine jn_seq ?_
      refine j_region ?_
      refine jg_adr _ rfl _ rfl rfl (op_move (.base rfl)) ?_
      refine jg_adr _ rfl _ rfl rfl (op_ofield fld45_4 (.base rfl)) ?_
      refine jg_adr _ rfl _ rfl rfl (op_oload ty40 (.base rfl) rfl rfl ln45_4) ?_
      refine jg_adr _ rfl _ rfl rfl (op_bslice (rt := rDateRange) Try.underlying54 ty40 z40 rfl (.cons (.tv (.base rfl)) .nil) rfl rfl) ?_
      refine jg_os _ rfl (op_append [1, 2, 3, 9, 20, 21, 22] Try.underlying54 ty40 z40 rfl by40 (.base rfl) rfl (by (try simp); try omega) (.tv (.base rfl)) (by unfold maxLen; (try simp); try omega) (by (try simp); try omega) rfl (.cons rfl (.cons rfl (.cons rfl (.cons rfl (.cons rfl (.cons rfl (.cons rfl .nil))))))) rfl) ?_
      refine jg_adr _ rfl _ rfl rfl (op_assign (.base rfl)) ?_
      refine jg_nil ?_
      refine jn_keep [1, 2, 3, 9, 10, 20, 21, 22] [9, 70, 71] (.cons rfl (.cons rfl (.cons rfl (.cons rfl (.cons rfl (.cons rfl (.cons rfl (.cons rfl .nil)))))))) (.cons rfl (.cons rfl (.cons rfl .nil))) ?_
      refine jn_blk (jn_seq ?_)
      refine j_region ?_
      refine jg_adr _ rfl _ rfl rfl (op_add (.base rfl) (.base rfl) (w64 (by omega))) ?_
      refine jg_adr _ rfl _ rfl rfl (op_move (.base rfl)) ?_
      refine jg_nil ?_
      refine jn_keep [1, 2, 3, 9, 10, 20, 21, 22] [9, 70, 71] (.cons rfl (.cons rfl (.cons rfl (.cons rfl (.cons rfl (.cons rfl (.cons rfl (.cons rfl .nil)))))))) (.cons rfl (.cons rfl (.cons rfl .nil))) ?_
      first
      | (have _h := h6a; exact jn_loop (fun a w hi => ⟨(k + 1, A2, cap2), (by first | omega | (simp; omega)), (by omega), Sub.inv ⟨(by repeat (first | exact SubS_nil | refine SubS_cons rfl (by first | rfl | (simp; done) | assumption | (rw [hsf]) | (refine congrArg (SV.own 70 rDateRange.n 0) ?_; rw [hsr]; simp; done)) ?_)), (by repeat (first | exact SubH_nil | refine SubH_cons rfl (by first | rfl | (simp; done) | assumption | (rw [hsf]) | (refine congrArg (HB.mk rDateRange) ?_; rw [hsr]; simp; done)) ?_))⟩ hi⟩))
      | (have _h := h6b; exact jn_loop (fun a w hi => ⟨(k + 1, A, cap), (by first | omega | (simp; omega)), (by omega), Sub.inv ⟨(by repeat (first | exact SubS_nil | refine SubS_cons rfl (by first | rfl | (simp; done) | assumption | (rw [hsf]) | (rw [hsr])) ?_)), (by repeat (first | exact SubH_nil | refine SubH_cons rfl (by first | rfl | (simp; done) | assumption | (rw [hsf]) | (rw [hsr])) ?_))⟩ hi⟩))
    · have h6b : ¬ (relB m i r) l[k] = true := by simp at h6; simp [relB]; exact h6
      have hsr := rng_succ (q := (relB m i r)) h4
      have hsf := filt_succ (q := (relB m i r)) h4
      rw [if_neg h6b, List.append_nil] at hsr hsf
      refine j_skip (jn_blk (jn_seq ?_))
      refine j_region ?_
      refine jg_adr _ rfl _ rfl rfl (op_add (.base rfl) (.base rfl) (w64 (by omega))) ?_
      refine jg_adr _ rfl _ rfl rfl (op_move (.base rfl)) ?_
      refine jg_nil ?_
      refine jn_keep [1, 2, 3, 9, 10, 20, 21, 22] [9, 70, 71] (.cons rfl (.cons rfl (.cons rfl (.cons rfl (.cons rfl (.cons rfl (.cons rfl (.cons rfl .nil)))))))) (.cons rfl (.cons rfl (.cons rfl .nil))) ?_
      first
      | (have _h := h6a; exact jn_loop (fun a w hi => ⟨(k + 1, A2, cap2), (by first | omega | (simp; omega)), (by omega), Sub.inv ⟨(by repeat (first | exact SubS_nil | refine SubS_cons rfl (by first | rfl | (simp; done) | assumption | (rw [hsf]) | (refine congrArg (SV.own 70 rDateRange.n 0) ?_; rw [hsr]; simp; done)) ?_)), (by repeat (first | exact SubH_nil | refine SubH_cons rfl (by first | rfl | (simp; done) | assumption | (rw [hsf]) | (refine congrArg (HB.mk rDateRange) ?_; rw [hsr]; simp; done)) ?_))⟩ hi⟩))
      | (have _h := h6b; exact jn_loop (fun a w hi => ⟨(k + 1, A, cap), (by first | omega | (simp; omega)), (by omega), Sub.inv ⟨(by repeat (first | exact SubS_nil | refine SubS_cons rfl (by first | rfl | (simp; done) | assumption | (rw [hsf]) | (rw [hsr])) ?_)), (by repeat (first | exact SubH_nil | refine SubH_cons rfl (by first | rfl | (simp; done) | assumption | (rw [hsf]) | (rw [hsr])) ?_))⟩ hi⟩))
  · have h4 : l.length = k := by simp at h4; omega
    have hrn := rng_len (relB m i r) l
    have hbn := bndU_len (rngB (relB m i r) l)
    have hrf := rng_fil (relB m i r) l
    have hfl2 : (l.filter (relB m i r)).length ≤ l.length := List.length_filter_le _ _
    have etk : l.take k = l := by rw [← h4, List.take_length]
    rw [etk]
    refine j_exit (je_seq (je_loop (je_blk (jn_seq (j_seq (j_seq ?_))))))
    refine j_region ?_
    refine jg_adr _ rfl _ rfl rfl (op_move (.base rfl)) ?_
    refine jg_adr _ rfl _ rfl rfl (op_len_own Try.underlying54 (.base rfl)) ?_
    refine jg_adr _ rfl _ rfl rfl (op_eql (.base rfl) (.base rfl)) ?_
    refine jg_nil ?_
    refine jn_keep [9, 10, 57] [9, 70, 71] (.cons rfl (.cons rfl (.cons rfl .nil))) (.cons rfl (.cons rfl (.cons rfl .nil))) ?_
    refine jn_seq ?_
    refine j_cond rfl (fun h10 => ?_) (fun h10 => ?_)
    · have h10 : (l.filter (relB m i r)).length = 0 := by rw [← hrf, List.length_eq_zero_iff]; simpa using h10
      refine j_seq ?_
      refine j_region ?_
      refine jg_adr _ rfl _ rfl rfl (op_assign (.base rfl)) ?_
      refine jg_nil ?_
      refine jn_keep [8] [] (.cons rfl .nil) .nil ?_
      refine jn_seq (j_ret (jr_seq ?_))
      exact jr_fin1 Try.results13 (res_nilV rfl) rfl (congrArg (SV.tv (rSlice rValuePeriod)) (by unfold timF; rw [if_pos h10]))
    · have h10 : 0 < (l.filter (relB m i r)).length := by rw [← hrf, List.length_pos_iff]; simpa using h10
      refine j_skip (jn_seq (j_seq ?_))
      refine j_region ?_
      refine jg_callP (rt := rFact) (nb := 9) (nm := 71) (c0 := 9) [70] [10] (sortBy_ok _ (by omega) h10) (.l1 rfl) (.inl rfl) rfl (.inl rfl) rfl rfl rfl rfl (.lit (.base rfl) wins_val .nil) rfl rfl rfl rfl (.free rfl rfl .nil) ?_
      intro ys A2 cap2 hys
      subst hys
      refine jg_nil ?_
      refine jn_keep [9, 10] [9, 70, 71] (.cons rfl (.cons rfl .nil)) (.cons rfl (.cons rfl (.cons rfl .nil))) ?_
      refine jn_seq (j_seq ?_)
      rw [show (ssort (leF cmpW) (l.filter (relB m i r))).length = (ssort (leF cmpW) (l.filter (relB m i r))).length from rfl]
      obtain ⟨S, hS⟩ : ∃ S, srtF m i r l = S := ⟨_, rfl⟩
      have hSl : S.length ≤ l.length := by rw [← hS]; unfold srtF; rw [ssort_len]; exact hfl2
      rw [show ssort (leF cmpW) (l.filter (relB m i r)) = S from hS]
      refine j_sealL (rt := rFact) 71 9 (dropH 71 _) rfl rfl (by simp) (dropH_sub 71 _) (dropH_no 71 _) ?_
      rw [List.drop_zero, List.take_length]
      refine j_castL 9 9 (rSlice rFact) S casts_hd rfl rfl rfl ?_
      refine j_region ?_
      refine jg_adr _ rfl _ rfl rfl (op_move (.base rfl)) ?_
      refine jg_adr _ rfl _ rfl rfl (op_callbF (bounds5O _ (by simp; omega)) (.own (.base rfl) rfl (by simp) .nil) (flat_int _)) ?_
      rw [List.drop_zero, List.take_length]
      obtain ⟨B, hB⟩ : ∃ B, bndF m i r l = B := ⟨_, rfl⟩
      rw [show uniqS (bnd (rngB (relB m i r) l)) = B from hB]
      have hBl : B.length ≤ 2 * l.length := by rw [← hB]; unfold bndF; omega
      have hBs : SortI B := by rw [← hB]; exact (uniqS_ok _).1.imp Int.le_of_lt
      refine jg_adr _ rfl _ rfl rfl (op_assign (.base rfl)) ?_
      refine jg_nil ?_
      refine jn_keep [9, 13] [9] (.cons rfl (.cons rfl .nil)) (.cons rfl .nil) ?_
      refine jn_seq (j_seq ?_)
      refine j_region ?_
      refine jg_adr _ rfl _ rfl rfl (op_ofield fld53_0 (.base rfl)) ?_
      refine jg_adr _ rfl _ rfl rfl (op_oload ty22 (.base rfl) rfl rfl (Lens.id _)) ?_
      refine jg_adr _ rfl _ rfl rfl (op_move (.base rfl)) ?_
      refine jg_adr _ rfl _ rfl rfl (op_call (winners_ok _ _ (by omega) (by omega) hBs) (.cons (.base rfl) (.cons (.base rfl) .nil)) rfl rfl) ?_
      refine jg_adr _ rfl _ rfl rfl (op_assign (.base rfl)) ?_
      refine jg_nil ?_
      refine jn_keep [9, 13, 14] [9] (.cons rfl (.cons rfl (.cons rfl .nil))) (.cons rfl .nil) ?_
      refine jn_seq (j_seq ?_)
      refine j_region ?_
      refine jg_adr _ rfl _ rfl rfl (op_assign (.base rfl)) ?_
      refine jg_nil ?_
      refine jn_keep [9, 13, 14, 15] [9] (.cons rfl (.cons rfl (.cons rfl (.cons rfl .nil)))) (.cons rfl .nil) ?_
      refine jn_seq (j_seq (j_seq ?_))
      refine j_region ?_
      refine jg_adr _ rfl _ rfl rfl (op_move (.base rfl)) ?_
      refine jg_adr _ rfl _ rfl rfl (op_len Try.underlying37 (.base rfl)) ?_
      refine jg_adr _ rfl _ rfl rfl (op_move (.base rfl)) ?_
      refine jg_nil ?_
      refine jn_keep [9, 13, 15, 65, 66, 67] [9] (.cons rfl (.cons rfl (.cons rfl (.cons rfl (.cons rfl (.cons rfl .nil)))))) (.cons rfl .nil) ?_
      refine jn_seq (j_block ?_)
      have hWl := win_len B S
      refine j_vac 72 15 rValuePeriod rfl rfl rfl ?_
      refine j_loopp (ι := Nat) (fun k => ⟨[(9, .optr 9 1 0 0), (13, .tv (rSlice (rInt .i64)) B), (15, .own 72 rValuePeriod.n 0 (perF (fun k => B.getD k 0) (fun k => segV S ((winL B S).getD k 0)) k).length), (65, .tv (rSlice (rInt .i64)) (winL B S)), (66, .raw (.int .i64 ((winL B S).length))), (67, .raw (.int .i64 ((k : Nat))))], [(9, ⟨rSlice rFact, [S]⟩), (72, ⟨rValuePeriod, (perF (fun k => B.getD k 0) (fun k => segV S ((winL B S).getD k 0)) k)⟩)]⟩) (fun k => k ≤ (winL B S).length) (fun k => (winL B S).length - k) 0 (Nat.zero_le _) (fun a w hi => (Sub.inv ⟨(by repeat (first | exact SubS_nil | refine SubS_cons rfl (by first | rfl | (simp; done) | assumption) ?_)), (by repeat (first | exact SubH_nil | refine SubH_cons rfl (by first | rfl | (simp; done) | assumption) ?_))⟩ hi)) ?_
      rintro k hk
      have hpl := perF_len (fun k => B.getD k 0) (fun k => segV S ((winL B S).getD k 0)) k
      have hst := perF_succ (fun k => B.getD k 0) (fun k => segV S ((winL B S).getD k 0)) k
      obtain ⟨O, hO⟩ : ∃ O, (perF (fun k => B.getD k 0) (fun k => segV S ((winL B S).getD k 0)) k) = O := ⟨_, rfl⟩
      rw [hO] at hst hpl ⊢
      obtain ⟨L, hL⟩ : ∃ L, O[O.length - 1]?.getD ((0, 0), (0, (0, 0))) = L := ⟨_, rfl⟩
      have hGL : 0 < O.length → O[0 + (O.length - 1)]? = some L := fun h => by rw [← hL, Nat.zero_add]; exact getD_some (by omega)
      have hGD : (O.getD (O.length - 1) ((0, 0), (0, (0, 0)))) = L := by rw [List.getD_eq_getElem?_getD, hL]
      refine j_seq ?_
      refine j_region ?_
      refine jg_adr _ rfl _ rfl rfl (op_lss (.base rfl) (.base rfl)) ?_
      refine jg_nil ?_
      refine jn_keep [9, 13, 15, 65, 66, 67, 68] [9, 72] (.cons rfl (.cons rfl (.cons rfl (.cons rfl (.cons rfl (.cons rfl (.cons rfl .nil))))))) (.cons rfl (.cons rfl .nil)) ?_
      refine jn_seq (j_seq ?_)
      refine j_cond rfl (fun h17 => ?_) (fun h17 => ?_)
      · have h17 : k < (winL B S).length := by simp at h17; omega
        have hwr := win_range (List.getElem_mem h17)
        have hwg : (winL B S).getD k 0 = (winL B S)[k] := by rw [List.getD_eq_getElem?_getD, List.getElem?_eq_getElem h17]; rfl
        have hb1 : B[k]'(by omega) = B.getD k 0 := by rw [List.getD_eq_getElem?_getD, List.getElem?_eq_getElem (by omega)]; rfl
        have hb2 : B[k + 1]'(by omega) = B.getD (k + 1) 0 := by rw [List.getD_eq_getElem?_getD, List.getElem?_eq_getElem (by omega)]; rfl
        simp only [hwg] at hst
        refine j_skip (jn_seq (j_seq (j_block (j_seq ?_))))
        refine j_region ?_
        refine jg_adr _ rfl _ rfl rfl (op_move (.base rfl)) ?_
        refine jg_adr _ rfl _ rfl rfl (op_index Try.underlying37 ty3 (.base rfl) (.base rfl) rfl (List.getElem?_eq_getElem (by first | omega | (simp; done) | (simp; omega) | (simp at hg; omega)))) ?_
        refine jg_adr _ rfl _ rfl rfl (op_load ty3 (.base rfl)) ?_
        refine jg_adr _ rfl _ rfl rfl (op_assign (.base rfl)) ?_
        refine jg_adr _ rfl _ rfl rfl (op_assign (.base rfl)) ?_
        refine jg_nil ?_
        refine jn_keep [9, 13, 15, 16, 17, 65, 66, 67] [9, 72] (.cons rfl (.cons rfl (.cons rfl (.cons rfl (.cons rfl (.cons rfl (.cons rfl (.cons rfl .nil)))))))) (.cons rfl (.cons rfl .nil)) ?_
        refine jn_seq (j_seq (j_seq ?_))
        refine j_region ?_
        refine jg_adr _ rfl _ rfl rfl (op_move (.base rfl)) ?_
        refine jg_adr _ rfl _ rfl rfl (op_lss (.base rfl) (.base rfl)) ?_
        refine jg_nil ?_
        refine jn_keep [9, 13, 15, 16, 17, 65, 66, 67, 73] [9, 72] (.cons rfl (.cons rfl (.cons rfl (.cons rfl (.cons rfl (.cons rfl (.cons rfl (.cons rfl (.cons rfl .nil))))))))) (.cons rfl (.cons rfl .nil)) ?_
        refine jn_seq ?_
        refine j_cond rfl (fun h19 => ?_) (fun h19 => ?_)
        · have h19 : (winL B S)[k] < 0 := by simpa using h19
          have hs2 : perF (fun k => B.getD k 0) (fun k => segV S ((winL B S).getD k 0)) (k + 1) = O := by rw [hst]; unfold segV; rw [if_pos h19]; rfl
          refine j_exit (je_seq (je_blk (jn_seq ?_)))
          refine j_region ?_
          refine jg_adr _ rfl _ rfl rfl (op_add (.base rfl) (.base rfl) (w64 (by omega))) ?_
          refine jg_adr _ rfl _ rfl rfl (op_move (.base rfl)) ?_
          refine jg_nil ?_
          refine jn_keep [9, 13, 15, 65, 66, 67] [9, 72] (.cons rfl (.cons rfl (.cons rfl (.cons rfl (.cons rfl (.cons rfl .nil)))))) (.cons rfl (.cons rfl .nil)) ?_
          exact jn_loop (fun a w hi => ⟨k + 1, (by first | omega | (simp; omega)), (by omega), Sub.inv ⟨(by repeat (first | exact SubS_nil | refine SubS_cons rfl (by first | rfl | (simp; done) | assumption | (refine congrArg (SV.own 72 rValuePeriod.n 0) ?_; rw [hs2]; done) | (refine congrArg (SV.own 72 rValuePeriod.n 0) ?_; rw [hs2]; simp; done)) ?_)), (by repeat (first | exact SubH_nil | refine SubH_cons rfl (by first | rfl | (simp; done) | assumption | (refine congrArg (HB.mk rValuePeriod) ?_; rw [hs2]; done) | (refine congrArg (HB.mk rValuePeriod) ?_; rw [hs2, Nat.zero_add]; done) | (refine congrArg (HB.mk rValuePeriod) ?_; rw [hs2]; simp; done)) ?_))⟩ hi⟩)
        · have h19 : 0 ≤ (winL B S)[k] := by simpa using h19
          have hwn : (winL B S)[k].toNat < S.length := by omega
          obtain ⟨V, hV⟩ : ∃ V, S[(winL B S)[k].toNat].2.2.2.1 = V := ⟨_, rfl⟩
          have hSV : segV S (winL B S)[k] = some V := by unfold segV; rw [if_neg (by omega), List.getD_eq_getElem?_getD, List.getElem?_eq_getElem hwn, ← hV]; rfl
          simp only [hSV] at hst
          refine j_skip (jn_seq (j_seq ?_))
          refine j_region ?_
          refine jg_adr _ rfl _ rfl rfl (op_ofield fld53_0 (.base rfl)) ?_
          refine jg_adr _ rfl _ rfl rfl (op_oload ty22 (.base rfl) rfl rfl (Lens.id _)) ?_
          refine jg_adr _ rfl _ rfl rfl (op_move (.base rfl)) ?_
          refine jg_adr _ rfl _ rfl rfl (op_index Try.underlying22 ty45 (.base rfl) (.base rfl) (show (winL B S)[k] = (((winL B S)[k].toNat : Nat) : Int) from (Int.toNat_of_nonneg h19).symm) (List.getElem?_eq_getElem (by first | omega | (simp; done) | (simp; omega) | (simp at hg; omega)))) ?_
          refine jg_adr _ rfl _ rfl rfl (op_field fld45_3 ln45_3 (.base rfl)) ?_
          refine jg_adr _ rfl _ rfl rfl (op_load ty30 (.base rfl)) ?_
          refine jg_os _ rfl (op_alloc _ z30 rfl rfl rfl) ?_
          refine jg_os _ rfl (op_ostore ty30 (.base rfl) rfl rfl (Lens.id _) (.tv (.base rfl))) ?_
          refine jg_nil ?_
          rw [hV]
          refine jn_keep [9, 13, 15, 16, 18, 65, 66, 67] [9, 18, 72] (.cons rfl (.cons rfl (.cons rfl (.cons rfl (.cons rfl (.cons rfl (.cons rfl (.cons rfl .nil)))))))) (.cons rfl (.cons rfl (.cons rfl .nil))) ?_
          refine jn_seq (j_seq (j_seq ?_))
          refine j_region ?_
          refine jg_adr _ rfl _ rfl rfl (op_move (.base rfl)) ?_
          refine jg_adr _ rfl _ rfl rfl (op_len_own Try.underlying34 (.base rfl)) ?_
          refine jg_adr _ rfl _ rfl rfl (op_assign (.base rfl)) ?_
          refine jg_nil ?_
          refine jn_keep [9, 13, 15, 16, 18, 19, 65, 66, 67] [9, 18, 72] (.cons rfl (.cons rfl (.cons rfl (.cons rfl (.cons rfl (.cons rfl (.cons rfl (.cons rfl (.cons rfl .nil))))))))) (.cons rfl (.cons rfl (.cons rfl .nil))) ?_
          refine jn_seq (j_seq ?_)
          refine j_draw mo (by kernel_rfl) (
            AS.cons _ _ rfl (ga_adr rfl rfl rfl (op_move (.base rfl))) (
              AS.cons _ _ rfl (ga_adr rfl rfl rfl (op_gtr (.base rfl) (.base rfl))) (
              AS.cons _ _ rfl (ga_adr rfl rfl rfl (op_move (.base rfl))) (
              AS.cons _ _ rfl (ga_gd _ _ _ _ rfl rfl rfl rfl rfl (fun hg => op_move (.base rfl))) (
              AS.cons _ _ rfl (ga_gd _ _ _ _ rfl rfl rfl rfl rfl (fun hg => op_move (.base rfl))) (
              AS.cons _ _ rfl (ga_gd _ _ _ _ rfl rfl rfl rfl rfl (fun hg => op_sub (.gd rfl hg) (.base rfl) (w64 (by omega)))) (
              AS.cons _ _ rfl (ga_gd _ _ _ _ rfl rfl rfl rfl rfl (fun hg => op_oindex Try.underlying34 ty42 (.gd rfl hg) (.gd rfl hg) (show ((O.length : Nat) : Int) - 1 = ((O.length - 1 : Nat) : Int) from by first | omega | (simp at hg; omega)) (by first | omega | (simp; done) | (simp; omega) | (simp at hg; omega)))) (
              AS.cons _ _ rfl (ga_gd _ _ _ _ rfl rfl rfl rfl rfl (fun hg => op_ofield fld42_0 (.gd rfl hg))) (
              AS.cons _ _ rfl (ga_gd _ _ _ _ rfl rfl rfl rfl rfl (fun hg => op_ofield fld40_1 (.gd rfl hg))) (
              AS.cons _ _ rfl (ga_gd _ _ _ _ rfl rfl rfl rfl rfl (fun hg => op_oload ty3 (.gd rfl hg) rfl (hGL (by simpa using hg)) (Lens.comp ln42_0 ln40_1))) (
              AS.cons _ _ rfl (ga_gd _ _ _ _ rfl rfl rfl rfl rfl (fun hg => op_move (.base rfl))) (
              AS.cons _ _ rfl (ga_gd _ _ _ _ rfl rfl rfl rfl rfl (fun hg => op_move (.base rfl))) (
              AS.cons _ _ rfl (ga_gd _ _ _ _ rfl rfl rfl rfl rfl (fun hg => op_index Try.underlying37 ty3 (.gd rfl hg) (.gd rfl hg) rfl (getD_some (z := (0 : Int)) (by first | omega | (simp; done) | (simp; omega) | (simp at hg; omega) | (simp at hg; simp; omega))))) (
              AS.cons _ _ rfl (ga_gd _ _ _ _ rfl rfl rfl rfl rfl (fun hg => op_load ty3 (.gd rfl hg))) (
              AS.cons _ _ rfl (ga_gd _ _ _ _ rfl rfl rfl rfl rfl (fun hg => op_eql (.gd rfl hg) (.gd rfl hg))) (
              AS.cons _ _ rfl (ga_adr rfl rfl rfl (op_pick_and (.base rfl) (.base rfl) rfl (by intro h; first | (rw [h]; rfl) | (rw [hg, h]; rfl) | (rw [h, hg]; rfl) | simp_all))) (
              AS.cons _ _ rfl (ga_adr rfl rfl rfl (op_move (.base rfl))) (
              AS.cons _ _ rfl (ga_gd _ _ _ _ rfl rfl rfl rfl rfl (fun hg => op_move (.base rfl))) (
              AS.cons _ _ rfl (ga_gd _ _ _ _ rfl rfl rfl rfl rfl (fun hg => op_move (.base rfl))) (
              AS.cons _ _ rfl (ga_gd _ _ _ _ rfl rfl rfl rfl rfl (fun hg => op_sub (.gd rfl hg) (.base rfl) (w64 (by omega)))) (
              AS.cons _ _ rfl (ga_gd _ _ _ _ rfl rfl rfl rfl rfl (fun hg => op_oindex Try.underlying34 ty42 (.gd rfl hg) (.gd rfl hg) (show ((O.length : Nat) : Int) - 1 = ((O.length - 1 : Nat) : Int) from by first | omega | (simp at hg; omega)) (by first | omega | (simp; done) | (simp; omega) | (simp at hg; omega)))) (
              AS.cons _ _ rfl (ga_gd _ _ _ _ rfl rfl rfl rfl rfl (fun hg => op_ofield fld42_1 (.gd rfl hg))) (
              AS.cons _ _ rfl (ga_gd _ _ _ _ rfl rfl rfl rfl rfl (fun hg => op_oload ty30 (.gd rfl hg) rfl (hGL (by simp at hg; omega)) ln42_1)) (
              AS.cons _ _ rfl (ga_gd _ _ _ _ rfl rfl rfl rfl rfl (fun hg => op_oload ty30 (.base rfl) rfl rfl (Lens.id _))) (
              AS.cons _ _ rfl (ga_gd _ _ _ _ rfl rfl rfl rfl rfl (fun hg => op_seql eq30 rfl rfl eg30 (.tv (.gd rfl hg)) (.tv (.gd rfl hg)))) (
              AS.cons _ _ rfl (ga_adr rfl rfl rfl (op_pick_and (.base rfl) (.base rfl) rfl (by intro h; first | (rw [h]; rfl) | (rw [hg, h]; rfl) | (rw [h, hg]; rfl) | simp_all))) (
              AS.nil))))))))))))))))))))))))))) ?_
          refine jn_keep [9, 13, 15, 16, 18, 19, 65, 66, 67, 107] [9, 18, 72] (.cons rfl (.cons rfl (.cons rfl (.cons rfl (.cons rfl (.cons rfl (.cons rfl (.cons rfl (.cons rfl (.cons rfl .nil)))))))))) (.cons rfl (.cons rfl (.cons rfl .nil))) ?_
          refine jn_seq ?_
          refine j_cond rfl (fun h22 => ?_) (fun h22 => ?_)
          · have h22a : 0 < O.length ∧ L.1.2 = B.getD k 0 ∧ L.2 = V := by rw [← hb1]; simp [List.getElem?_eq_getElem (show k < B.length by omega)] at h22; exact ⟨by omega, h22.1.2, h22.2⟩
            have h22l := h22a.1
            have hs2 : perF (fun k => B.getD k 0) (fun k => segV S ((winL B S).getD k 0)) (k + 1) = O.set (O.length - 1) ((L.1.1, B.getD (k + 1) 0), L.2) := by rw [hst]; simp only [addP]; rw [hGD, if_pos h22a]
            refine j_seq ?_
            refine j_region ?_
            refine jg_adr _ rfl _ rfl rfl (op_move (.base rfl)) ?_
            refine jg_adr _ rfl _ rfl rfl (op_move (.base rfl)) ?_
            refine jg_adr _ rfl _ rfl rfl (op_sub (.base rfl) (.base rfl) (w64 (by omega))) ?_
            refine jg_adr _ rfl _ rfl rfl (op_move (.base rfl)) ?_
            refine jg_adr _ rfl _ rfl rfl (op_move (.base rfl)) ?_
            refine jg_adr _ rfl _ rfl rfl (op_add (.base rfl) (.base rfl) (w64 (by omega))) ?_
            refine jg_adr _ rfl _ rfl rfl (op_index Try.underlying37 ty3 (.base rfl) (.base rfl) rfl (List.getElem?_eq_getElem (by first | omega | (simp; done) | (simp; omega) | (simp at hg; omega)))) ?_
            refine jg_adr _ rfl _ rfl rfl (op_load ty3 (.base rfl)) ?_
            refine jg_adr _ rfl _ rfl rfl (op_oindex Try.underlying34 ty42 (.base rfl) (.base rfl) (show ((O.length : Nat) : Int) - 1 = ((O.length - 1 : Nat) : Int) from by omega) (by first | omega | (simp; done) | (simp; omega))) ?_
            refine jg_adr _ rfl _ rfl rfl (op_ofield fld42_0 (.base rfl)) ?_
            refine jg_adr _ rfl _ rfl rfl (op_ofield fld40_1 (.base rfl)) ?_
            refine jg_os _ rfl (op_ostore ty3 (.base rfl) rfl (hGL h22a.1) (Lens.comp ln42_0 ln40_1) (.raw (.base rfl) rfl)) ?_
            refine jg_nil ?_
            rw [hb2]
            refine jn_keep [9, 13, 15, 65, 66, 67] [9, 72] (.cons rfl (.cons rfl (.cons rfl (.cons rfl (.cons rfl (.cons rfl .nil)))))) (.cons rfl (.cons rfl .nil)) ?_
            refine jn_seq (j_exit (je_seq (je_blk (jn_seq ?_))))
            refine j_region ?_
            refine jg_adr _ rfl _ rfl rfl (op_add (.base rfl) (.base rfl) (w64 (by omega))) ?_
            refine jg_adr _ rfl _ rfl rfl (op_move (.base rfl)) ?_
            refine jg_nil ?_
            refine jn_keep [9, 13, 15, 65, 66, 67] [9, 72] (.cons rfl (.cons rfl (.cons rfl (.cons rfl (.cons rfl (.cons rfl .nil)))))) (.cons rfl (.cons rfl .nil)) ?_
            exact jn_loop (fun a w hi => ⟨k + 1, (by first | omega | (simp; omega)), (by omega), Sub.inv ⟨(by repeat (first | exact SubS_nil | refine SubS_cons rfl (by first | rfl | (simp; done) | assumption | (refine congrArg (SV.own 72 rValuePeriod.n 0) ?_; rw [hs2]; done) | (refine congrArg (SV.own 72 rValuePeriod.n 0) ?_; rw [hs2]; simp; done)) ?_)), (by repeat (first | exact SubH_nil | refine SubH_cons rfl (by first | rfl | (simp; done) | assumption | (refine congrArg (HB.mk rValuePeriod) ?_; rw [hs2]; done) | (refine congrArg (HB.mk rValuePeriod) ?_; rw [hs2, Nat.zero_add]; done) | (refine congrArg (HB.mk rValuePeriod) ?_; rw [hs2]; simp; done)) ?_))⟩ hi⟩)
          · have h22b : ¬ (0 < O.length ∧ L.1.2 = B.getD k 0 ∧ L.2 = V) := by rw [← hb1]; rintro ⟨q1, q2, q3⟩; simp [List.getElem?_eq_getElem (show k < B.length by omega)] at h22; exact h22 (by omega) q2 q3
            have hs2 : perF (fun k => B.getD k 0) (fun k => segV S ((winL B S).getD k 0)) (k + 1) = O ++ [((B.getD k 0, B.getD (k + 1) 0), V)] := by rw [hst]; simp only [addP]; rw [hGD, if_neg h22b]
            refine j_skip (jn_seq ?_)
            refine j_draw_bar 14 mo (by kernel_rfl) (by kernel_rfl) (
              AS.cons _ _ rfl (ga_adr rfl rfl rfl (op_move (.base rfl))) (
                AS.cons _ _ rfl (ga_adr rfl rfl rfl (op_move (.base rfl))) (
                AS.cons _ _ rfl (ga_adr rfl rfl rfl (op_move (.base rfl))) (
                AS.cons _ _ rfl (ga_adr rfl rfl rfl (op_index Try.underlying37 ty3 (.base rfl) (.base rfl) rfl (List.getElem?_eq_getElem (by first | omega | (simp; done) | (simp; omega) | (simp at hg; omega))))) (
                AS.cons _ _ rfl (ga_adr rfl rfl rfl (op_load ty3 (.base rfl))) (
                AS.cons _ _ rfl (ga_adr rfl rfl rfl (op_move (.base rfl))) (
                AS.cons _ _ rfl (ga_adr rfl rfl rfl (op_move (.base rfl))) (
                AS.cons _ _ rfl (ga_adr rfl rfl rfl (op_add (.base rfl) (.base rfl) (w64 (by omega)))) (
                AS.cons _ _ rfl (ga_adr rfl rfl rfl (op_index Try.underlying37 ty3 (.base rfl) (.base rfl) rfl (List.getElem?_eq_getElem (by first | omega | (simp; done) | (simp; omega) | (simp at hg; omega))))) (
                AS.cons _ _ rfl (ga_adr rfl rfl rfl (op_load ty3 (.base rfl))) (
                AS.cons _ _ rfl (ga_adr rfl rfl rfl (op_build z40 rfl pl40 (.cons (rt' := (rInt .i64)) rfl ln40_0 (.raw (.base rfl) rfl) (.cons (rt' := (rInt .i64)) rfl ln40_1 (.raw (.base rfl) rfl) .nil)))) (
                AS.cons _ _ rfl (ga_adr rfl rfl rfl (op_oload ty30 (.base rfl) rfl rfl (Lens.id _))) (
                AS.cons _ _ rfl (ga_adr rfl rfl rfl (op_build z42 rfl pl42 (.cons (rt' := rDateRange) rfl ln42_0 (.tv (.base rfl)) (.cons (rt' := rValue) rfl ln42_1 (.tv (.base rfl)) .nil)))) (
                AS.cons _ _ rfl (ga_adr rfl rfl rfl (op_bslice (rt := rValuePeriod) Try.underlying34 ty42 z42 rfl (.cons (.tv (.base rfl)) .nil) rfl rfl)) (
                AS.nil))))))))))))))) rfl rfl (op_append [9, 13, 65, 66, 67] Try.underlying34 ty42 z42 rfl by42 (.base rfl) rfl (by (try simp); try omega) (.tv (.base rfl)) (by unfold maxLen; (try simp); try omega) (by (try simp); try omega) rfl (.cons rfl (.cons rfl (.cons rfl (.cons rfl (.cons rfl .nil))))) rfl) (
              AS.cons _ _ rfl (ga_adr rfl rfl rfl (op_assign (.base rfl))) (
                AS.nil)) ?_
            rw [hb1, hb2]
            refine jn_keep [9, 13, 15, 65, 66, 67] [9, 72] (.cons rfl (.cons rfl (.cons rfl (.cons rfl (.cons rfl (.cons rfl .nil)))))) (.cons rfl (.cons rfl .nil)) ?_
            refine jn_blk (jn_seq ?_)
            refine j_region ?_
            refine jg_adr _ rfl _ rfl rfl (op_add (.base rfl) (.base rfl) (w64 (by omega))) ?_
            refine jg_adr _ rfl _ rfl rfl (op_move (.base rfl)) ?_
            refine jg_nil ?_
            refine jn_keep [9, 13, 15, 65, 66, 67] [9, 72] (.cons rfl (.cons rfl (.cons rfl (.cons rfl (.cons rfl (.cons rfl .nil)))))) (.cons rfl (.cons rfl .nil)) ?_
            exact jn_loop (fun a w hi => ⟨k + 1, (by first | omega | (simp; omega)), (by omega), Sub.inv ⟨(by repeat (first | exact SubS_nil | refine SubS_cons rfl (by first | rfl | (simp; done) | assumption | (refine congrArg (SV.own 72 rValuePeriod.n 0) ?_; rw [hs2]; done) | (refine congrArg (SV.own 72 rValuePeriod.n 0) ?_; rw [hs2]; simp; done)) ?_)), (by repeat (first | exact SubH_nil | refine SubH_cons rfl (by first | rfl | (simp; done) | assumption | (refine congrArg (HB.mk rValuePeriod) ?_; rw [hs2]; done) | (refine congrArg (HB.mk rValuePeriod) ?_; rw [hs2, Nat.zero_add]; done) | (refine congrArg (HB.mk rValuePeriod) ?_; rw [hs2]; simp; done)) ?_))⟩ hi⟩)
      · have h17 : k = (winL B S).length := by simp at h17; omega
        refine j_exit (je_seq (je_loop (je_blk (jn_seq (j_seq ?_)))))
        refine j_region ?_
        refine jg_adr _ rfl _ rfl rfl (op_move (.base rfl)) ?_
        refine jg_adr _ rfl _ rfl rfl (op_assign (.base rfl)) ?_
        refine jg_nil ?_
        refine jn_keep [8] [72] (.cons rfl .nil) (.cons rfl .nil) ?_
        refine jn_seq (j_ret ?_)
        refine jr_seal (rt := rValuePeriod) 72 8 (dropH 72 _) rfl rfl (by simp) (dropH_sub 72 _) (dropH_no 72 _) ?_
        exact jr_fin1 Try.results13 (res_tmp rfl) rfl (congrArg (SV.tv (rSlice rValuePeriod)) (by rw [List.drop_zero, List.take_length]; unfold timF; rw [if_neg (by omega), hS, hB, ← hO, h17]))

end Go.Proofs.Ytfamnoalgjkjhaa
