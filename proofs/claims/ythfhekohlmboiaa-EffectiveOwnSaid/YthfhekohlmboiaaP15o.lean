import Derived.Test.YthfhekohlmboiaaP15n
import Derived.Test.YthfhekohlmboiaaEngU
import Derived.KernelRfl
namespace Go.Proofs.Ythfhekohlmboiaa
open Go.Eng
set_option maxRecDepth 100000
set_option maxHeartbeats 4000000
set_option linter.unusedVariables false
set_option linter.unusedSimpArgs false


abbrev shRu : TRule → TRule → Prop := (ShP ShT (ShP ShT (ShP ShT (ShP ShT (ShP (ShP ShT ShT) (ShP (ShL (ShP ShT ShT)) (ShP (ShL (ShP ShT ShT)) ShT)))))))
theorem stRu (B : Nat) : Stab (rRuleF B) shRu := (Stab.pair stab_str (Stab.pair (stab_int .i64) (Stab.pair (stab_int .i64) (Stab.pair (stab_int .i64) (Stab.pair (Stab.pair (stab_int .i64) (stab_int .i64)) (Stab.pair (Stab.sliceF (Stab.pair (stab_int .i64) (stab_int .i64))) (Stab.pair (Stab.sliceF (Stab.pair (stab_int .i64) (stab_int .i64))) stab_str)))))))
abbrev shSc : TScope → TScope → Prop := (ShP ShT (ShP ShT (ShP (ShL (ShP ShT (ShP ShT ShT))) (ShP (ShL (ShP ShT (ShP ShT ShT))) (ShL shRu)))))
theorem stSc (B : Nat) : Stab (rScopeF B) shSc := (Stab.pair stab_str (Stab.pair (stab_int .i64) (Stab.pair (Stab.sliceF (Stab.pair stab_str (Stab.pair (stab_int .i64) (stab_int .i64)))) (Stab.pair (Stab.slice (Stab.pair stab_str (Stab.pair (stab_int .i64) (stab_int .i64)))) (Stab.slice (stRu B))))))
abbrev shLa : TLaw → TLaw → Prop := (ShP (ShL (ShP ShT (ShL ShT))) (ShP (ShL (ShP ShT (ShP (ShP ShT ShT) (ShP (ShP ShT ShT) (ShL (ShP (ShP ShT ShT) (ShP ShT (ShP ShT ShT)))))))) (ShL shSc)))
theorem stLa (B : Nat) : Stab (rLawF B) shLa := (Stab.pair (Stab.slice (Stab.pair stab_str (Stab.slice stab_str))) (Stab.pair (Stab.slice (Stab.pair stab_str (Stab.pair (Stab.pair (stab_int .i64) (stab_int .i64)) (Stab.pair (Stab.pair (stab_int .i64) (stab_int .i64)) (Stab.slice (Stab.pair (Stab.pair (stab_int .i64) (stab_int .i64)) (Stab.pair (stab_int .i64) (Stab.pair (stab_int .i64) (stab_int .i64))))))))) (Stab.slice (stSc B))))
def scZ : TScope := ([], 0, [], [], [])
def nrl (X : TLaw) (i : Nat) : Nat := (X.2.2.getD i scZ).2.2.2.2.length
def nin (X : TLaw) (i : Nat) : Nat := (X.2.2.getD i scZ).2.2.1.length
theorem nrl_at {X : TLaw} {i : Nat} (h : i < X.2.2.length) : nrl X i = (X.2.2[i]).2.2.2.2.length := by unfold nrl; rw [List.getD_eq_getElem?_getD, List.getElem?_eq_getElem h]; rfl
theorem nin_at {X : TLaw} {i : Nat} (h : i < X.2.2.length) : nin X i = (X.2.2[i]).2.2.1.length := by unfold nin; rw [List.getD_eq_getElem?_getD, List.getElem?_eq_getElem h]; rfl
theorem sh_len {X Y : TLaw} (h : shLa X Y) : Y.2.2.length = X.2.2.length := h.2.2.len
theorem sh_nrl {X Y : TLaw} (h : shLa X Y) {i : Nat} (hi : i < X.2.2.length) : nrl Y i = nrl X i := by
  have hj : i < Y.2.2.length := by rw [sh_len h]; exact hi
  rw [nrl_at hi, nrl_at hj]
  exact (h.2.2.at_ i _ _ (List.getElem?_eq_getElem hi) (List.getElem?_eq_getElem hj)).2.2.2.2.len
theorem sh_nin {X Y : TLaw} (h : shLa X Y) {i : Nat} (hi : i < X.2.2.length) : nin Y i = nin X i := by
  have hj : i < Y.2.2.length := by rw [sh_len h]; exact hi
  rw [nin_at hi, nin_at hj]
  exact (h.2.2.at_ i _ _ (List.getElem?_eq_getElem hi) (List.getElem?_eq_getElem hj)).2.2.1.len
theorem sh_g {R S : TRule} (h : shRu R S) : S.2.2.2.2.2.1.length = R.2.2.2.2.2.1.length := h.2.2.2.2.2.1.len
theorem sh_v {R S : TRule} (h : shRu R S) : S.2.2.2.2.2.2.1.length = R.2.2.2.2.2.2.1.length := h.2.2.2.2.2.2.1.len
theorem hcs_int (z r : Int) : ∀ (w : World) (ok : Ok) (cs : List Value), (rInt .i64).rep w ok cs z → ∃ c, cs = [c] ∧ CS c (.int .i64 r) := fun _ _ _ h => ⟨_, h, .int _ _ _⟩
theorem hcs_str (z t : List UInt8) : ∀ (w : World) (ok : Ok) (cs : List Value), rStr.rep w ok cs z → ∃ c, cs = [c] ∧ CS c (strV t) := fun _ _ _ h => ⟨_, h, .str _ _⟩
theorem sp_nil {st : St} {F : SV → Bool} : ∀ i s, lookS [] i = some s → lookS st.slots i = some s ∧ F s = true := fun i s h => by cases h
theorem sp_cons {st : St} {F : SV → Bool} {i : Nat} {s : SV} {r : List (Nat × SV)} (h : lookS st.slots i = some s) (hp : F s = true) (hr : ∀ j t, lookS r j = some t → lookS st.slots j = some t ∧ F t = true) : ∀ j t, lookS ((i, s) :: r) j = some t → lookS st.slots j = some t ∧ F t = true := fun j t ht => by
  rw [lookS_cons] at ht
  split at ht
  · rename_i e; subst e; injection ht with ht; subst ht; exact ⟨h, hp⟩
  · exact hr j t ht
theorem jg_len {P : Program} {cx : Cx} {st : St} {ops : Array Oper} {k : Kn} {l : List Oper} {α : Type} {rt : RT α} [NM rt] (i : Nat) {xs : List α} (hs : lookS st.slots i = some (.tv (rSlice rt) xs)) (h : xs.length ≤ 9223372036854775807 → JG P cx ops st l k) : JG P cx ops st l k := fun a w hi => h (inv_len hs hi) a w hi
theorem jg_lenF {P : Program} {cx : Cx} {st : St} {ops : Array Oper} {k : Kn} {l : List Oper} {α : Type} {B : Nat} {rt : RT α} (i : Nat) {xs : List α} (hs : lookS st.slots i = some (.tv (rSliceF B rt) xs)) (h : xs.length ≤ 9223372036854775807 → JG P cx ops st l k) : JG P cx ops st l k := fun a w hi => h (by
  obtain ⟨β, hb⟩ := hi
  obtain ⟨v, _, cs, ⟨A, cap, _, h1, h2, _⟩, _⟩ := hb.slots i _ hs
  unfold maxLen at h2; omega) a w hi
theorem bk_nil {cx : Cx} {st stB : St} {a1 : Act} : ∀ i s, lookS [] i = some s → lookS st.slots i = some s ∧ ∃ v, a1.tmps[i]? = some v ∧ lookS stB.slots i = some (.raw v) := fun i s h => by cases h
theorem bk_cons {st stB : St} {a1 : Act} {i : Nat} {s : SV} {v : Value} {r : List (Nat × SV)} (h : lookS st.slots i = some s) (h2 : a1.tmps[i]? = some v) (h3 : lookS stB.slots i = some (.raw v)) (hr : ∀ i s, lookS r i = some s → lookS st.slots i = some s ∧ ∃ v, a1.tmps[i]? = some v ∧ lookS stB.slots i = some (.raw v)) : ∀ j t, lookS ((i, s) :: r) j = some t → lookS st.slots j = some t ∧ ∃ v, a1.tmps[j]? = some v ∧ lookS stB.slots j = some (.raw v) := fun j t ht => by
  rw [lookS_cons] at ht
  split at ht
  · rename_i e; subst e; injection ht with ht; subst ht; exact ⟨h, v, h2, h3⟩
  · exact hr j t ht
theorem raw_tmp {cx : Cx} {st : St} {β : Go.Eng.Loc} {a : Act} {w : World} (hi : InvB cx st β a w) {i : Nat} {v : Value} (h : lookS st.slots i = some (.raw v)) : a.tmps[i]? = some v := by
  obtain ⟨u, h1, h2⟩ := hi.slots i _ h
  have h2 : u = v := h2
  rw [← h2]; exact h1

theorem law_own (l : TLaw) (date : Int) (hw : WL l) : Ct Try.prog 6 [.tv rLaw l, .raw (.int .i64 date)] (.raw (.bool true)) := by
  refine ct_intro Try.func6 rfl rfl Try.ntmps6 rfl rfl ?_
  intro w0 ok0
  refine j_seq ?_
  refine j_region ?_
  refine jg_os _ rfl (op_box (.tv (.base rfl)) rfl rfl rfl) ?_
  refine jg_adr _ rfl _ rfl rfl (op_assign (.base rfl)) ?_
  refine jg_nil ?_
  refine jn_keep [1, 2] [2] (.cons rfl (.cons rfl .nil)) (.cons rfl .nil) ?_
  refine jn_seq (j_seq (j_seq ?_))
  refine j_region ?_
  refine jg_adr _ rfl _ rfl rfl (op_oload ty26 (.base rfl) rfl rfl (Lens.id _)) ?_
  refine jg_adr _ rfl _ rfl rfl (op_call (smallL_ok _ hw) (.cons (.base rfl) .nil) rfl rfl) ?_
  refine jg_adr _ rfl _ rfl rfl (op_not (.base rfl)) ?_
  refine jg_nil ?_
  refine jn_keep [1, 2, 15] [2] (.cons rfl (.cons rfl (.cons rfl .nil))) (.cons rfl .nil) ?_
  refine jn_seq ?_
  refine j_cond rfl (fun h1 => ?_) (fun h1 => ?_)
  · skip
    refine j_seq ?_
    refine j_region ?_
    refine jg_adr _ rfl _ rfl rfl (op_call awake_ok .nil rfl rfl) ?_
    refine jg_adr _ rfl _ rfl rfl (op_assign (.base rfl)) ?_
    refine jg_nil ?_
    refine jn_keep [4] [] (.cons rfl .nil) .nil ?_
    refine jn_seq (j_ret (jr_seq ?_))
    exact jr_fin1 Try.results6 (res_tmp rfl) rfl (rfl)
  · simp at h1
    obtain ⟨hl, hL, hT, hS⟩ := smL_lim (dB_iff.1 h1)
    obtain ⟨nn, hnn⟩ : ∃ nn, nn = (lawOn date l).2.2.length := ⟨_, rfl⟩
    have hn1 : nn ≤ 1000 := by rw [hnn]; simpa [lawOn] using hl.2.2.1
    refine j_skip (jn_seq (j_seq ?_))
    refine j_region ?_
    refine jg_adr _ rfl _ rfl rfl (op_oload ty26 (.base rfl) rfl rfl (Lens.id _)) ?_
    refine jg_adr _ rfl _ rfl rfl (op_call (clone_ok _ hl) (.cons (.base rfl) .nil) rfl rfl) ?_
    refine jg_os _ rfl (op_alloc _ z26 rfl rfl rfl) ?_
    refine jg_os _ rfl (op_ostore ty26 (.base rfl) rfl rfl (Lens.id _) (.tv (.base rfl))) ?_
    refine jg_nil ?_
    refine jn_keep [1, 2, 5] [2, 5] (.cons rfl (.cons rfl (.cons rfl .nil))) (.cons rfl (.cons rfl .nil)) ?_
    refine jn_seq (j_seq ?_)
    refine j_region ?_
    refine jg_adr _ rfl _ rfl rfl (op_oload ty26 (.base rfl) rfl rfl (Lens.id _)) ?_
    refine jg_adr _ rfl _ rfl rfl (op_move (.base rfl)) ?_
    refine jg_restart [(1, .raw (.int .i64 date)), (19, .tv rLaw l), (20, .raw (.int .i64 date))] [2, 5] (sp_cons rfl rfl (sp_cons rfl rfl (sp_cons rfl rfl sp_nil))) (by intro i hi; simp at hi; rcases hi with rfl | rfl <;> rfl) (fun w1 a1 β f hi1 hf => ?_)
    obtain ⟨B, hBe⟩ : ∃ B, B = w1.heap.size := ⟨_, rfl⟩
    have hB1 : w1.heap.size ≤ B := by omega
    have hB0 : B ≤ w1.heap.size := by omega
    refine jg_adr _ rfl _ rfl rfl (op_callB hB0 (lawOn_F B l date hl) (.cons (.base rfl) (.cons (.base rfl) .nil)) rfl rfl) ?_
    refine jg_os _ rfl (op_alloc _ (zLF B) rfl rfl rfl) ?_
    refine jg_os _ rfl (op_ostore (tyLF B) (.base rfl) rfl rfl (Lens.id _) (.tv (.base rfl))) ?_
    refine jg_nil ?_
    refine jn_seq (j_seq (j_seq ?_))
    refine j_region ?_
    refine jg_adr _ rfl _ rfl rfl (op_assign (.base rfl)) ?_
    refine jg_nil ?_
    refine jn_keep [1, 2, 5, 6, 7] [6] (.cons rfl (.cons rfl (.cons rfl (.cons rfl (.cons rfl .nil))))) (.cons rfl .nil) ?_
    refine jn_seq (j_block ?_)
    refine j_loopp (ι := TLaw × Nat) (fun (X, i) => ⟨[(1, .raw (.int .i64 date)), (2, .raw (f 2)), (5, .raw (f 5)), (6, .optr 6 (rLawF B).n 0 0), (7, .raw (.int .i64 ((i : Nat))))], [(6, ⟨rLawF B, [X]⟩)]⟩) (fun (X, i) => X.2.2.length = nn ∧ i ≤ nn) (fun (X, i) => nn - i) ((lawOn date l), 0) (⟨hnn.symm, Nat.zero_le _⟩) (fun a w hi => (Sub.inv ⟨(by repeat (first | exact SubS_nil | refine SubS_cons rfl (by first | rfl | (simp; done) | assumption) ?_)), (by repeat (first | exact SubH_nil | refine SubH_cons rfl (by first | rfl | (simp; done) | assumption) ?_))⟩ hi)) ?_
    rintro ⟨X, i⟩ hp
    refine j_seq (j_seq ?_)
    refine j_region ?_
    refine jg_adr _ rfl _ rfl rfl (op_move (.base rfl)) ?_
    refine jg_adr _ rfl _ rfl rfl (op_ofield fld26_2 (.base rfl)) ?_
    refine jg_adr _ rfl _ rfl rfl (op_oload (rt := rLawF B) (tySFs B) (.base rfl) rfl rfl (lnLF_2 B)) ?_
    refine jg_adr _ rfl _ rfl rfl (op_len Try.underlying24 (.base rfl)) ?_
    refine jg_adr _ rfl _ rfl rfl (op_lss (.base rfl) (.base rfl)) ?_
    refine jg_nil ?_
    refine jn_keep [1, 2, 5, 6, 7, 26] [6] (.cons rfl (.cons rfl (.cons rfl (.cons rfl (.cons rfl (.cons rfl .nil)))))) (.cons rfl .nil) ?_
    refine jn_seq ?_
    refine j_cond rfl (fun h6 => ?_) (fun h6 => ?_)
    · have h6 : i < nn := by have := hp.1; simp at h6; omega
      have hix : i < X.2.2.length := by have := hp.1; omega
      have hi0 := hp.2
      obtain ⟨m, hm⟩ : ∃ m, m = nrl X i := ⟨_, rfl⟩
      refine j_skip (jn_seq (j_seq (j_block (j_seq (j_seq ?_)))))
      refine j_region ?_
      refine jg_adr _ rfl _ rfl rfl (op_assign (.base rfl)) ?_
      refine jg_nil ?_
      refine jn_keep [1, 2, 5, 6, 7, 8] [6] (.cons rfl (.cons rfl (.cons rfl (.cons rfl (.cons rfl (.cons rfl .nil)))))) (.cons rfl .nil) ?_
      refine jn_seq (j_block ?_)
      refine j_loopp (ι := TLaw × Nat) (fun (X, k) => ⟨[(1, .raw (.int .i64 date)), (2, .raw (f 2)), (5, .raw (f 5)), (6, .optr 6 (rLawF B).n 0 0), (7, .raw (.int .i64 ((i : Nat)))), (8, .raw (.int .i64 ((k : Nat))))], [(6, ⟨rLawF B, [X]⟩)]⟩) (fun (X, k) => X.2.2.length = nn ∧ nrl X i = m) (fun (X, k) => m - k) (X, 0) (⟨hp.1, hm.symm⟩) (fun a w hi => (Sub.inv ⟨(by repeat (first | exact SubS_nil | refine SubS_cons rfl (by first | rfl | (simp; done) | assumption) ?_)), (by repeat (first | exact SubH_nil | refine SubH_cons rfl (by first | rfl | (simp; done) | assumption) ?_))⟩ hi)) ?_
      rintro ⟨X, k⟩ hp
      have hix : i < X.2.2.length := by have := hp.1; omega
      have hnr := nrl_at hix
      refine j_seq (j_seq ?_)
      refine j_region ?_
      refine jg_adr _ rfl _ rfl rfl (op_move (.base rfl)) ?_
      refine jg_adr _ rfl _ rfl rfl (op_ofield fld26_2 (.base rfl)) ?_
      refine jg_adr _ rfl _ rfl rfl (op_oload (rt := rLawF B) (tySFs B) (.base rfl) rfl rfl (lnLF_2 B)) ?_
      refine jg_adr _ rfl _ rfl rfl (op_move (.base rfl)) ?_
      refine jg_adr _ rfl _ rfl rfl (op_index Try.underlying24 (tySF B) (.base rfl) (.base rfl) rfl (List.getElem?_eq_getElem hix)) ?_
      refine jg_adr _ rfl _ rfl rfl (op_field fld40_4 (lnSF_4 B) (.base rfl)) ?_
      refine jg_adr _ rfl _ rfl rfl (op_load (tyRFs B) (.base rfl)) ?_
      refine jg_len 35 rfl (fun hlk => ?_)
      refine jg_adr _ rfl _ rfl rfl (op_len Try.underlying38 (.base rfl)) ?_
      refine jg_adr _ rfl _ rfl rfl (op_lss (.base rfl) (.base rfl)) ?_
      refine jg_nil ?_
      refine jn_keep [1, 2, 5, 6, 7, 8, 37] [6] (.cons rfl (.cons rfl (.cons rfl (.cons rfl (.cons rfl (.cons rfl (.cons rfl .nil))))))) (.cons rfl .nil) ?_
      refine jn_seq ?_
      refine j_cond rfl (fun h9 => ?_) (fun h9 => ?_)
      · have h9 : k < (X.2.2[i]'hix).2.2.2.2.length := by simp at h9; omega
        have hkm : k < m := by have := hp.2; omega
        refine j_skip (jn_seq (j_seq (j_block (j_seq ?_))))
        refine j_region ?_
        refine jg_adr _ rfl _ rfl rfl (op_ofield fld26_2 (.base rfl)) ?_
        refine jg_adr _ rfl _ rfl rfl (op_oload (rt := rLawF B) (tySFs B) (.base rfl) rfl rfl (lnLF_2 B)) ?_
        refine jg_adr _ rfl _ rfl rfl (op_move (.base rfl)) ?_
        refine jg_adr _ rfl _ rfl rfl (op_index Try.underlying24 (tySF B) (.base rfl) (.base rfl) rfl (List.getElem?_eq_getElem hix)) ?_
        refine jg_adr _ rfl _ rfl rfl (op_field fld40_4 (lnSF_4 B) (.base rfl)) ?_
        refine jg_adr _ rfl _ rfl rfl (op_load (tyRFs B) (.base rfl)) ?_
        refine jg_adr _ rfl _ rfl rfl (op_move (.base rfl)) ?_
        refine jg_adr _ rfl _ rfl rfl (op_index Try.underlying38 (tyRF B) (.base rfl) (.base rfl) rfl (List.getElem?_eq_getElem h9)) ?_
        refine jg_adr _ rfl _ rfl rfl (op_load (tyRF B) (.base rfl)) ?_
        refine jg_os _ rfl (op_alloc _ (zRF B) rfl rfl rfl) ?_
        refine jg_os _ rfl (op_ostore (tyRF B) (.base rfl) rfl rfl (Lens.id _) (.tv (.base rfl))) ?_
        refine jg_nil ?_
        refine jn_keep [1, 2, 5, 6, 7, 8, 9] [6, 9] (.cons rfl (.cons rfl (.cons rfl (.cons rfl (.cons rfl (.cons rfl (.cons rfl .nil))))))) (.cons rfl (.cons rfl .nil)) ?_
        refine jn_seq (j_seq (j_seq ?_))
        refine j_region ?_
        refine jg_adr _ rfl _ rfl rfl (op_assign (.base rfl)) ?_
        refine jg_nil ?_
        refine jn_keep [1, 2, 5, 6, 7, 8, 9, 10] [6, 9] (.cons rfl (.cons rfl (.cons rfl (.cons rfl (.cons rfl (.cons rfl (.cons rfl (.cons rfl .nil)))))))) (.cons rfl (.cons rfl .nil)) ?_
        refine jn_seq (j_block ?_)
        obtain ⟨gl, hgl⟩ : ∃ gl, gl = ((X.2.2[i]'hix).2.2.2.2[k]).2.2.2.2.2.1.length := ⟨_, rfl⟩
        refine j_loopp (ι := TLaw × TRule × Nat) (fun (X, R, j) => ⟨[(1, .raw (.int .i64 date)), (2, .raw (f 2)), (5, .raw (f 5)), (6, .optr 6 (rLawF B).n 0 0), (7, .raw (.int .i64 ((i : Nat)))), (8, .raw (.int .i64 ((k : Nat)))), (9, .optr 9 (rRuleF B).n 0 0), (10, .raw (.int .i64 ((j : Nat))))], [(6, ⟨rLawF B, [X]⟩), (9, ⟨rRuleF B, [R]⟩)]⟩) (fun (X, R, j) => X.2.2.length = nn ∧ nrl X i = m ∧ R.2.2.2.2.2.1.length = gl) (fun (X, R, j) => gl - j) (X, (X.2.2[i]'hix).2.2.2.2[k], 0) (⟨hp.1, hp.2, hgl.symm⟩) (fun a w hi => (Sub.inv ⟨(by repeat (first | exact SubS_nil | refine SubS_cons rfl (by first | rfl | (simp; done) | assumption) ?_)), (by repeat (first | exact SubH_nil | refine SubH_cons rfl (by first | rfl | (simp; done) | assumption) ?_))⟩ hi)) ?_
        rintro ⟨X, R, j⟩ hp
        have hix : i < X.2.2.length := by have := hp.1; omega
        refine j_seq (j_seq ?_)
        refine j_region ?_
        refine jg_adr _ rfl _ rfl rfl (op_move (.base rfl)) ?_
        refine jg_adr _ rfl _ rfl rfl (op_ofield fld48_5 (.base rfl)) ?_
        refine jg_adr _ rfl _ rfl rfl (op_oload (rt := rRuleF B) (tyFN B) (.base rfl) rfl rfl (lnRF_5 B)) ?_
        refine jg_lenF 51 rfl (fun hlj => ?_)
        refine jg_adr _ rfl _ rfl rfl (op_lenF Try.underlying46 (.base rfl)) ?_
        refine jg_adr _ rfl _ rfl rfl (op_lss (.base rfl) (.base rfl)) ?_
        refine jg_nil ?_
        refine jn_keep [1, 2, 5, 6, 7, 8, 9, 10, 53] [6, 9] (.cons rfl (.cons rfl (.cons rfl (.cons rfl (.cons rfl (.cons rfl (.cons rfl (.cons rfl (.cons rfl .nil))))))))) (.cons rfl (.cons rfl .nil)) ?_
        refine jn_seq ?_
        refine j_cond rfl (fun h13 => ?_) (fun h13 => ?_)
        · have h13 : j < R.2.2.2.2.2.1.length := by simp at h13; omega
          have hjg : j < gl := by have := hp.2.2; omega
          refine j_skip (jn_seq (j_seq (j_block ?_)))
          refine j_draw_tail 12 mo (by kernel_rfl) (by kernel_rfl) (by decide) (
            AS.cons _ _ rfl (ga_adr rfl rfl rfl (op_ofield fld48_5 (.base rfl))) (
              AS.cons _ _ rfl (ga_adr rfl rfl rfl (op_oload (rt := rRuleF B) (tyFN B) (.base rfl) rfl rfl (lnRF_5 B))) (
              AS.cons _ _ rfl (ga_adr rfl rfl rfl (op_move (.base rfl))) (
              AS.cons _ _ rfl (ga_adr rfl rfl rfl (op_ofield fld48_5 (.base rfl))) (
              AS.cons _ _ rfl (ga_adr rfl rfl rfl (op_oload (rt := rRuleF B) (tyFN B) (.base rfl) rfl rfl (lnRF_5 B))) (
              AS.cons _ _ rfl (ga_adr rfl rfl rfl (op_move (.base rfl))) (
              AS.cons _ _ rfl (ga_adr rfl rfl rfl (op_indexF Try.underlying46 ty50 (.base rfl) (.base rfl) rfl (List.getElem?_eq_getElem h13))) (
              AS.cons _ _ rfl (ga_adr rfl rfl rfl (op_fieldF fld50_0 ln50_0 (.base rfl))) (
              AS.cons _ _ rfl (ga_adr rfl rfl rfl (op_loadF ty3 (.base rfl))) (
              AS.cons _ _ rfl (ga_adr rfl rfl rfl (op_add (.base rfl) (.base rfl) rfl)) (
              AS.cons _ _ rfl (ga_adr rfl rfl rfl (op_indexF Try.underlying46 ty50 (.base rfl) (.base rfl) rfl (List.getElem?_eq_getElem h13))) (
              AS.cons _ _ rfl (ga_adr rfl rfl rfl (op_fieldF fld50_0 ln50_0 (.base rfl))) (
              AS.nil))))))))))))) ?_
          refine jt_storeF2 [(1, .raw (.int .i64 date)), (2, .raw (f 2)), (5, .raw (f 5)), (6, .optr 6 (rLawF B).n 0 0), (7, .raw (.int .i64 ((i : Nat)))), (8, .raw (.int .i64 ((k : Nat)))), (9, .optr 9 (rRuleF B).n 0 0), (10, .raw (.int .i64 ((j : Nat))))] rfl (by kernel_rfl) hB1 ty3 (hcs_int _ _) ⟨rfl, rfl⟩ (.base rfl) (.base rfl) (stLa B) (stRu B) (by decide) rfl (sp_cons rfl rfl (sp_cons rfl rfl (sp_cons rfl rfl (sp_cons rfl rfl (sp_cons rfl rfl (sp_cons rfl rfl (sp_cons rfl rfl (sp_cons rfl rfl sp_nil)))))))) (fun X2 R2 hX hR => ?_)
          refine jt_nil rfl ?_
          refine jn_keep [1, 2, 5, 6, 7, 8, 9, 10] [6, 9] (.cons rfl (.cons rfl (.cons rfl (.cons rfl (.cons rfl (.cons rfl (.cons rfl (.cons rfl .nil)))))))) (.cons rfl (.cons rfl .nil)) ?_
          refine jn_blk (jn_seq ?_)
          refine j_region ?_
          refine jg_adr _ rfl _ rfl rfl (op_move (.base rfl)) ?_
          refine jg_adr _ rfl _ rfl rfl (op_add (.base rfl) (.base rfl) (w64 (by omega))) ?_
          refine jg_adr _ rfl _ rfl rfl (op_assign (.base rfl)) ?_
          refine jg_nil ?_
          refine jn_keep [1, 2, 5, 6, 7, 8, 9, 10] [6, 9] (.cons rfl (.cons rfl (.cons rfl (.cons rfl (.cons rfl (.cons rfl (.cons rfl (.cons rfl .nil)))))))) (.cons rfl (.cons rfl .nil)) ?_
          exact jn_loop (fun a w hi => ⟨(X2, R2, j + 1), (by first | omega | (simp; omega)), (⟨(sh_len hX).trans hp.1, (sh_nrl hX hix).trans hp.2.1, (sh_g hR).trans hp.2.2⟩), (Sub.inv ⟨(by repeat (first | exact SubS_nil | refine SubS_cons rfl (by first | rfl | (simp; done) | assumption) ?_)), (by repeat (first | exact SubH_nil | refine SubH_cons rfl (by first | rfl | (simp; done) | assumption) ?_))⟩ hi)⟩)
        · skip
          refine j_exit (je_seq (je_loop (je_blk (jn_seq (j_seq ?_)))))
          refine j_region ?_
          refine jg_adr _ rfl _ rfl rfl (op_assign (.base rfl)) ?_
          refine jg_nil ?_
          refine jn_keep [1, 2, 5, 6, 7, 8, 9, 11] [6, 9] (.cons rfl (.cons rfl (.cons rfl (.cons rfl (.cons rfl (.cons rfl (.cons rfl (.cons rfl .nil)))))))) (.cons rfl (.cons rfl .nil)) ?_
          refine jn_seq (j_block ?_)
          obtain ⟨vl, hvl⟩ : ∃ vl, vl = R.2.2.2.2.2.2.1.length := ⟨_, rfl⟩
          refine j_loopp (ι := TLaw × TRule × Nat) (fun (X, R, j) => ⟨[(1, .raw (.int .i64 date)), (2, .raw (f 2)), (5, .raw (f 5)), (6, .optr 6 (rLawF B).n 0 0), (7, .raw (.int .i64 ((i : Nat)))), (8, .raw (.int .i64 ((k : Nat)))), (9, .optr 9 (rRuleF B).n 0 0), (11, .raw (.int .i64 ((j : Nat))))], [(6, ⟨rLawF B, [X]⟩), (9, ⟨rRuleF B, [R]⟩)]⟩) (fun (X, R, j) => X.2.2.length = nn ∧ nrl X i = m ∧ R.2.2.2.2.2.2.1.length = vl) (fun (X, R, j) => vl - j) (X, R, 0) (⟨hp.1, hp.2.1, hvl.symm⟩) (fun a w hi => (Sub.inv ⟨(by repeat (first | exact SubS_nil | refine SubS_cons rfl (by first | rfl | (simp; done) | assumption) ?_)), (by repeat (first | exact SubH_nil | refine SubH_cons rfl (by first | rfl | (simp; done) | assumption) ?_))⟩ hi)) ?_
          rintro ⟨X, R, j⟩ hp
          have hix : i < X.2.2.length := by have := hp.1; omega
          refine j_seq (j_seq ?_)
          refine j_region ?_
          refine jg_adr _ rfl _ rfl rfl (op_move (.base rfl)) ?_
          refine jg_adr _ rfl _ rfl rfl (op_ofield fld48_6 (.base rfl)) ?_
          refine jg_adr _ rfl _ rfl rfl (op_oload (rt := rRuleF B) (tyFN B) (.base rfl) rfl rfl (lnRF_6 B)) ?_
          refine jg_lenF 70 rfl (fun hlj => ?_)
          refine jg_adr _ rfl _ rfl rfl (op_lenF Try.underlying46 (.base rfl)) ?_
          refine jg_adr _ rfl _ rfl rfl (op_lss (.base rfl) (.base rfl)) ?_
          refine jg_nil ?_
          refine jn_keep [1, 2, 5, 6, 7, 8, 9, 11, 72] [6, 9] (.cons rfl (.cons rfl (.cons rfl (.cons rfl (.cons rfl (.cons rfl (.cons rfl (.cons rfl (.cons rfl .nil))))))))) (.cons rfl (.cons rfl .nil)) ?_
          refine jn_seq ?_
          refine j_cond rfl (fun h17 => ?_) (fun h17 => ?_)
          · have h17 : j < R.2.2.2.2.2.2.1.length := by simp at h17; omega
            have hjg : j < vl := by have := hp.2.2; omega
            refine j_skip (jn_seq (j_seq (j_block ?_)))
            refine j_draw_tail 12 mo (by kernel_rfl) (by kernel_rfl) (by decide) (
              AS.cons _ _ rfl (ga_adr rfl rfl rfl (op_ofield fld48_6 (.base rfl))) (
                AS.cons _ _ rfl (ga_adr rfl rfl rfl (op_oload (rt := rRuleF B) (tyFN B) (.base rfl) rfl rfl (lnRF_6 B))) (
                AS.cons _ _ rfl (ga_adr rfl rfl rfl (op_move (.base rfl))) (
                AS.cons _ _ rfl (ga_adr rfl rfl rfl (op_ofield fld48_6 (.base rfl))) (
                AS.cons _ _ rfl (ga_adr rfl rfl rfl (op_oload (rt := rRuleF B) (tyFN B) (.base rfl) rfl rfl (lnRF_6 B))) (
                AS.cons _ _ rfl (ga_adr rfl rfl rfl (op_move (.base rfl))) (
                AS.cons _ _ rfl (ga_adr rfl rfl rfl (op_indexF Try.underlying46 ty50 (.base rfl) (.base rfl) rfl (List.getElem?_eq_getElem h17))) (
                AS.cons _ _ rfl (ga_adr rfl rfl rfl (op_fieldF fld50_1 ln50_1 (.base rfl))) (
                AS.cons _ _ rfl (ga_adr rfl rfl rfl (op_loadF ty3 (.base rfl))) (
                AS.cons _ _ rfl (ga_adr rfl rfl rfl (op_add (.base rfl) (.base rfl) rfl)) (
                AS.cons _ _ rfl (ga_adr rfl rfl rfl (op_indexF Try.underlying46 ty50 (.base rfl) (.base rfl) rfl (List.getElem?_eq_getElem h17))) (
                AS.cons _ _ rfl (ga_adr rfl rfl rfl (op_fieldF fld50_1 ln50_1 (.base rfl))) (
                AS.nil))))))))))))) ?_
            refine jt_storeF2 [(1, .raw (.int .i64 date)), (2, .raw (f 2)), (5, .raw (f 5)), (6, .optr 6 (rLawF B).n 0 0), (7, .raw (.int .i64 ((i : Nat)))), (8, .raw (.int .i64 ((k : Nat)))), (9, .optr 9 (rRuleF B).n 0 0), (11, .raw (.int .i64 ((j : Nat))))] rfl (by kernel_rfl) hB1 ty3 (hcs_int _ _) ⟨rfl, rfl⟩ (.base rfl) (.base rfl) (stLa B) (stRu B) (by decide) rfl (sp_cons rfl rfl (sp_cons rfl rfl (sp_cons rfl rfl (sp_cons rfl rfl (sp_cons rfl rfl (sp_cons rfl rfl (sp_cons rfl rfl (sp_cons rfl rfl sp_nil)))))))) (fun X2 R2 hX hR => ?_)
            refine jt_nil rfl ?_
            refine jn_keep [1, 2, 5, 6, 7, 8, 9, 11] [6, 9] (.cons rfl (.cons rfl (.cons rfl (.cons rfl (.cons rfl (.cons rfl (.cons rfl (.cons rfl .nil)))))))) (.cons rfl (.cons rfl .nil)) ?_
            refine jn_blk (jn_seq ?_)
            refine j_region ?_
            refine jg_adr _ rfl _ rfl rfl (op_move (.base rfl)) ?_
            refine jg_adr _ rfl _ rfl rfl (op_add (.base rfl) (.base rfl) (w64 (by omega))) ?_
            refine jg_adr _ rfl _ rfl rfl (op_assign (.base rfl)) ?_
            refine jg_nil ?_
            refine jn_keep [1, 2, 5, 6, 7, 8, 9, 11] [6, 9] (.cons rfl (.cons rfl (.cons rfl (.cons rfl (.cons rfl (.cons rfl (.cons rfl (.cons rfl .nil)))))))) (.cons rfl (.cons rfl .nil)) ?_
            exact jn_loop (fun a w hi => ⟨(X2, R2, j + 1), (by first | omega | (simp; omega)), (⟨(sh_len hX).trans hp.1, (sh_nrl hX hix).trans hp.2.1, (sh_v hR).trans hp.2.2⟩), (Sub.inv ⟨(by repeat (first | exact SubS_nil | refine SubS_cons rfl (by first | rfl | (simp; done) | assumption) ?_)), (by repeat (first | exact SubH_nil | refine SubH_cons rfl (by first | rfl | (simp; done) | assumption) ?_))⟩ hi)⟩)
          · skip
            refine j_exit (je_seq (je_loop (je_blk (jn_blk (jn_seq ?_)))))
            refine j_region ?_
            refine jg_adr _ rfl _ rfl rfl (op_move (.base rfl)) ?_
            refine jg_adr _ rfl _ rfl rfl (op_add (.base rfl) (.base rfl) (w64 (by omega))) ?_
            refine jg_adr _ rfl _ rfl rfl (op_assign (.base rfl)) ?_
            refine jg_nil ?_
            refine jn_keep [1, 2, 5, 6, 7, 8] [6] (.cons rfl (.cons rfl (.cons rfl (.cons rfl (.cons rfl (.cons rfl .nil)))))) (.cons rfl .nil) ?_
            exact jn_loop (fun a w hi => ⟨(X, k + 1), (by first | omega | (simp; omega)), (⟨hp.1, hp.2.1⟩), (Sub.inv ⟨(by repeat (first | exact SubS_nil | refine SubS_cons rfl (by first | rfl | (simp; done) | assumption) ?_)), (by repeat (first | exact SubH_nil | refine SubH_cons rfl (by first | rfl | (simp; done) | assumption) ?_))⟩ hi)⟩)
      · obtain ⟨cc, hcc⟩ : ∃ cc, cc = nin X i := ⟨_, rfl⟩
        refine j_exit (je_seq (je_loop (je_blk (jn_seq (j_seq ?_)))))
        refine j_region ?_
        refine jg_adr _ rfl _ rfl rfl (op_assign (.base rfl)) ?_
        refine jg_nil ?_
        refine jn_keep [1, 2, 5, 6, 7, 12] [6] (.cons rfl (.cons rfl (.cons rfl (.cons rfl (.cons rfl (.cons rfl .nil)))))) (.cons rfl .nil) ?_
        refine jn_seq (j_block ?_)
        refine j_loopp (ι := TLaw × Nat) (fun (X, q) => ⟨[(1, .raw (.int .i64 date)), (2, .raw (f 2)), (5, .raw (f 5)), (6, .optr 6 (rLawF B).n 0 0), (7, .raw (.int .i64 ((i : Nat)))), (12, .raw (.int .i64 ((q : Nat))))], [(6, ⟨rLawF B, [X]⟩)]⟩) (fun (X, q) => X.2.2.length = nn ∧ nin X i = cc) (fun (X, q) => cc - q) (X, 0) (⟨hp.1, hcc.symm⟩) (fun a w hi => (Sub.inv ⟨(by repeat (first | exact SubS_nil | refine SubS_cons rfl (by first | rfl | (simp; done) | assumption) ?_)), (by repeat (first | exact SubH_nil | refine SubH_cons rfl (by first | rfl | (simp; done) | assumption) ?_))⟩ hi)) ?_
        rintro ⟨X, q⟩ hp
        have hix : i < X.2.2.length := by have := hp.1; omega
        have hni := nin_at hix
        refine j_seq (j_seq ?_)
        refine j_region ?_
        refine jg_adr _ rfl _ rfl rfl (op_move (.base rfl)) ?_
        refine jg_adr _ rfl _ rfl rfl (op_ofield fld26_2 (.base rfl)) ?_
        refine jg_adr _ rfl _ rfl rfl (op_oload (rt := rLawF B) (tySFs B) (.base rfl) rfl rfl (lnLF_2 B)) ?_
        refine jg_adr _ rfl _ rfl rfl (op_move (.base rfl)) ?_
        refine jg_adr _ rfl _ rfl rfl (op_index Try.underlying24 (tySF B) (.base rfl) (.base rfl) rfl (List.getElem?_eq_getElem hix)) ?_
        refine jg_adr _ rfl _ rfl rfl (op_field fld40_2 (lnSF_2 B) (.base rfl)) ?_
        refine jg_adr _ rfl _ rfl rfl (op_load (tyFF B) (.base rfl)) ?_
        refine jg_lenF 93 rfl (fun hlq => ?_)
        refine jg_adr _ rfl _ rfl rfl (op_lenF Try.underlying37 (.base rfl)) ?_
        refine jg_adr _ rfl _ rfl rfl (op_lss (.base rfl) (.base rfl)) ?_
        refine jg_nil ?_
        refine jn_keep [1, 2, 5, 6, 7, 12, 95] [6] (.cons rfl (.cons rfl (.cons rfl (.cons rfl (.cons rfl (.cons rfl (.cons rfl .nil))))))) (.cons rfl .nil) ?_
        refine jn_seq ?_
        refine j_cond rfl (fun h21 => ?_) (fun h21 => ?_)
        · have h21 : q < (X.2.2[i]'hix).2.2.1.length := by simp at h21; omega
          have hqc : q < cc := by have := hp.2; omega
          refine j_skip (jn_seq (j_seq (j_block ?_)))
          refine j_region ?_
          refine jg_adr _ rfl _ rfl rfl (op_ofield fld26_2 (.base rfl)) ?_
          refine jg_adr _ rfl _ rfl rfl (op_oload (rt := rLawF B) (tySFs B) (.base rfl) rfl rfl (lnLF_2 B)) ?_
          refine jg_adr _ rfl _ rfl rfl (op_move (.base rfl)) ?_
          refine jg_adr _ rfl _ rfl rfl (op_index Try.underlying24 (tySF B) (.base rfl) (.base rfl) rfl (List.getElem?_eq_getElem hix)) ?_
          refine jg_adr _ rfl _ rfl rfl (op_field fld40_2 (lnSF_2 B) (.base rfl)) ?_
          refine jg_adr _ rfl _ rfl rfl (op_load (tyFF B) (.base rfl)) ?_
          refine jg_adr _ rfl _ rfl rfl (op_move (.base rfl)) ?_
          refine jg_adr _ rfl _ rfl rfl (op_indexF Try.underlying37 ty54 (.base rfl) (.base rfl) rfl (List.getElem?_eq_getElem h21)) ?_
          refine jg_adr _ rfl _ rfl rfl (op_fieldF fld54_0 ln54_0 (.base rfl)) ?_
          refine jg_storeF1 (u := strV [63]) [(1, .raw (.int .i64 date)), (2, .raw (f 2)), (5, .raw (f 5)), (6, .optr 6 (rLawF B).n 0 0), (7, .raw (.int .i64 ((i : Nat)))), (12, .raw (.int .i64 ((q : Nat))))] hB1 ty9 (hcs_str _ _) ⟨rfl, rfl⟩ (.base rfl) (.base rfl) (stLa B) rfl (sp_cons rfl rfl (sp_cons rfl rfl (sp_cons rfl rfl (sp_cons rfl rfl (sp_cons rfl rfl (sp_cons rfl rfl sp_nil)))))) (fun X2 hX => ?_)
          refine jg_nil ?_
          refine jn_keep [1, 2, 5, 6, 7, 12] [6] (.cons rfl (.cons rfl (.cons rfl (.cons rfl (.cons rfl (.cons rfl .nil)))))) (.cons rfl .nil) ?_
          refine jn_blk (jn_seq ?_)
          refine j_region ?_
          refine jg_adr _ rfl _ rfl rfl (op_move (.base rfl)) ?_
          refine jg_adr _ rfl _ rfl rfl (op_add (.base rfl) (.base rfl) (w64 (by omega))) ?_
          refine jg_adr _ rfl _ rfl rfl (op_assign (.base rfl)) ?_
          refine jg_nil ?_
          refine jn_keep [1, 2, 5, 6, 7, 12] [6] (.cons rfl (.cons rfl (.cons rfl (.cons rfl (.cons rfl (.cons rfl .nil)))))) (.cons rfl .nil) ?_
          exact jn_loop (fun a w hi => ⟨(X2, q + 1), (by first | omega | (simp; omega)), (⟨(sh_len hX).trans hp.1, (sh_nin hX hix).trans hp.2⟩), (Sub.inv ⟨(by repeat (first | exact SubS_nil | refine SubS_cons rfl (by first | rfl | (simp; done) | assumption) ?_)), (by repeat (first | exact SubH_nil | refine SubH_cons rfl (by first | rfl | (simp; done) | assumption) ?_))⟩ hi)⟩)
        · skip
          refine j_exit (je_seq (je_loop (je_blk (jn_blk (jn_seq ?_)))))
          refine j_region ?_
          refine jg_adr _ rfl _ rfl rfl (op_move (.base rfl)) ?_
          refine jg_adr _ rfl _ rfl rfl (op_add (.base rfl) (.base rfl) (w64 (by omega))) ?_
          refine jg_adr _ rfl _ rfl rfl (op_assign (.base rfl)) ?_
          refine jg_nil ?_
          refine jn_keep [1, 2, 5, 6, 7] [6] (.cons rfl (.cons rfl (.cons rfl (.cons rfl (.cons rfl .nil))))) (.cons rfl .nil) ?_
          exact jn_loop (fun a w hi => ⟨(X, i + 1), (by first | omega | (simp; omega)), (⟨hp.1, by omega⟩), (Sub.inv ⟨(by repeat (first | exact SubS_nil | refine SubS_cons rfl (by first | rfl | (simp; done) | assumption) ?_)), (by repeat (first | exact SubH_nil | refine SubH_cons rfl (by first | rfl | (simp; done) | assumption) ?_))⟩ hi)⟩)
    · skip
      refine j_exit (je_seq (je_loop (je_blk (jn_seq (j_seq ?_)))))
      refine j_back (stA := ⟨[(1, .raw (.int .i64 date)), (2, .optr 2 rLaw.n 0 0), (5, .optr 5 rLaw.n 0 0)], [(2, ⟨rLaw, [l]⟩), (5, ⟨rLaw, [l]⟩)]⟩) hi1 (bk_cons rfl (raw_tmp hi1 rfl) rfl (bk_cons rfl (hf 2 (by simp)) rfl (bk_cons rfl (hf 5 (by simp)) rfl (bk_nil (cx := ⟨w1, fun _ => True, 0, fun _ => True⟩))))) (by repeat (first | exact SubH_nil | refine SubH_cons rfl (by first | rfl | (simp; done)) ?_)) ?_
      refine j_draw mo (by kernel_rfl) (
        AS.cons _ _ rfl (ga_adr rfl rfl rfl (op_oload ty26 (.base rfl) rfl rfl (Lens.id _))) (
          AS.cons _ _ rfl (ga_adr rfl rfl rfl (op_oload ty26 (.base rfl) rfl rfl (Lens.id _))) (
          AS.cons _ _ rfl (ga_adr rfl rfl rfl (op_call (same_law _ _) (.cons (.base rfl) (.cons (.base rfl) .nil)) rfl rfl)) (
          AS.cons _ _ rfl (ga_adr rfl rfl rfl (op_move (.base rfl))) (
          AS.cons _ _ rfl (ga_gd _ _ _ _ rfl rfl rfl rfl rfl (fun hg => op_oload ty26 (.base rfl) rfl rfl (Lens.id _))) (
          AS.cons _ _ rfl (ga_gd _ _ _ _ rfl rfl rfl rfl rfl (fun hg => op_move (.base rfl))) (
          AS.cons _ _ rfl (ga_gd _ _ _ _ rfl rfl rfl rfl rfl (fun hg => op_call (lawOn_ok _ _ hl) (.cons (.gd rfl hg) (.cons (.gd rfl hg) .nil)) rfl rfl)) (
          AS.cons _ _ rfl (ga_gd _ _ _ _ rfl rfl rfl rfl rfl (fun hg => op_oload ty26 (.base rfl) rfl rfl (Lens.id _))) (
          AS.cons _ _ rfl (ga_gd _ _ _ _ rfl rfl rfl rfl rfl (fun hg => op_move (.base rfl))) (
          AS.cons _ _ rfl (ga_gd _ _ _ _ rfl rfl rfl rfl rfl (fun hg => op_call (rlawOn_ok _ _ hl) (.cons (.gd rfl hg) (.cons (.gd rfl hg) .nil)) rfl rfl)) (
          AS.cons _ _ rfl (ga_gd _ _ _ _ rfl rfl rfl rfl rfl (fun hg => op_call (same_law _ _) (.cons (.gd rfl hg) (.cons (.gd rfl hg) .nil)) rfl rfl)) (
          AS.cons _ _ rfl (ga_adr rfl rfl rfl (op_pick_and (.base rfl) (.base rfl) rfl (by intro h; first | (rw [h]; rfl) | (rw [hg, h]; rfl) | (rw [h, hg]; rfl) | simp_all))) (
          AS.cons _ _ rfl (ga_adr rfl rfl rfl (op_move (.base rfl))) (
          AS.cons _ _ rfl (ga_gd _ _ _ _ rfl rfl rfl rfl rfl (fun hg => op_call awake_ok .nil rfl rfl)) (
          AS.cons _ _ rfl (ga_adr rfl rfl rfl (op_pick_and (.base rfl) (.base rfl) rfl (by intro h; first | (rw [h]; rfl) | (rw [hg, h]; rfl) | (rw [h, hg]; rfl) | simp_all))) (
          AS.cons _ _ rfl (ga_adr rfl rfl rfl (op_assign (.base rfl))) (
          AS.nil))))))))))))))))) ?_
      refine jn_keep [4] [] (.cons rfl .nil) .nil ?_
      refine jn_seq (j_ret ?_)
      exact jr_fin1 Try.results6 (res_tmp rfl) rfl (rb (by simp [dE_t]))

end Go.Proofs.Ythfhekohlmboiaa
