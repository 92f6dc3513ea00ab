import Derived.Test.YtfmoolclokffjaaP59b
namespace Go.Proofs.Ytfmoolclokffjaa
open Go.Eng
set_option maxRecDepth 100000
set_option maxHeartbeats 1000000
set_option linter.unusedVariables false
set_option linter.unusedSimpArgs false
/-! buckets, plain -/
def addB (b : TBucket) (v : Int) : TBucket := (b.1, b.2.1, b.2.2.1 + 1, b.2.2.2 + v)
def b0 : TBucket := (0, 0, 0, 0)
def putB (bs : List TBucket) (i : Nat) (v : Int) : List TBucket := bs.set i (addB (bs.getD i b0) v)
@[simp] theorem putB_len (bs : List TBucket) (i : Nat) (v : Int) : (putB bs i v).length = bs.length := by simp [putB]
def BdB (K : Nat) (bs : List TBucket) : Prop := ∀ b ∈ bs, (0 ≤ b.2.2.1 ∧ b.2.2.1 ≤ K) ∧ -(K * 1000000000000000 : Int) ≤ b.2.2.2 ∧ b.2.2.2 ≤ K * 1000000000000000
theorem bdB_get {K : Nat} {bs : List TBucket} (h : BdB K bs) {i : Nat} (hi : i < bs.length) : (0 ≤ (bs.getD i b0).2.2.1 ∧ (bs.getD i b0).2.2.1 ≤ K) ∧ -(K * 1000000000000000 : Int) ≤ (bs.getD i b0).2.2.2 ∧ (bs.getD i b0).2.2.2 ≤ K * 1000000000000000 := by
  rw [List.getD_eq_getElem?_getD, List.getElem?_eq_getElem hi]
  exact h _ (List.getElem_mem hi)
theorem bdB_put {K : Nat} {bs : List TBucket} (h : BdB K bs) {i : Nat} (hi : i < bs.length) {v : Int} (hv : -1000000000000000 ≤ v ∧ v ≤ 1000000000000000) : BdB (K + 1) (putB bs i v) := by
  intro b hb
  unfold putB at hb
  have hg := bdB_get h hi
  rcases List.mem_or_eq_of_mem_set hb with e | e
  · have := h b e; omega
  · subst e
    unfold addB
    simp only
    omega
theorem getB {bs : List TBucket} {i : Nat} (hi : i < bs.length) : bs[i]? = some (bs.getD i b0) := by
  rw [List.getD_eq_getElem?_getD, List.getElem?_eq_getElem hi]; rfl
/-- Groups -/
def grpF (N : Int) : List TBucket → List (Int × Int) → Option (List TBucket)
  | bs, [] => some bs
  | bs, x :: r => if x.1 < 0 ∨ N ≤ x.1 then none else grpF N (putB bs x.1.toNat x.2) r
def mkG (i : Nat) : TBucket := ((i : Int), (i : Int) + 1, 0, 0)
def initG (N : Nat) : List TBucket := (List.range N).map mkG
def grpR (l gs : List Int) (n : Int) : List TBucket × Int :=
  if l.length ≠ gs.length then ([], 2) else if 4096 < l.length ∨ 64 < n then ([], 4) else if n < 1 ∨ okL l = false then ([], 3)
  else match grpF n (initG n.toNat) (gs.zip l) with | none => ([], 3) | some bs => (bs, 0)
def fillG (i N : Nat) : List TBucket := (List.range i).map mkG ++ List.replicate (N - i) b0
theorem fillG_len {i N : Nat} (h : i ≤ N) : (fillG i N).length = N := by simp [fillG]; omega
theorem fillG_at {i N : Nat} (h : i < N) : (fillG i N)[i]? = some b0 := by
  unfold fillG
  rw [List.getElem?_append_right (by simp), List.getElem?_replicate, if_pos (by simp; omega)]
theorem fillG_set {i N : Nat} (h : i < N) : (fillG i N).set i (mkG i) = fillG (i + 1) N := by
  unfold fillG
  obtain ⟨d, hd⟩ : ∃ d, N - i = d + 1 := ⟨N - i - 1, by omega⟩
  rw [List.set_append_right _ _ (by simp), List.range_succ, List.map_append, List.append_assoc, hd, show N - (i + 1) = d by omega]
  simp [List.replicate_succ]
theorem fillG_0 (N : Nat) : fillG 0 N = List.replicate N b0 := by simp [fillG]
theorem fillG_n (N : Nat) : fillG N N = initG N := by simp [fillG, initG]
theorem initG_len (N : Nat) : (initG N).length = N := by simp [initG]
theorem initG_bd (N : Nat) : BdB 0 (initG N) := by
  intro b hb
  obtain ⟨i, _, rfl⟩ := List.mem_map.1 hb
  simp [mkG]
theorem initG_succ (k : Nat) : initG (k + 1) = initG k ++ [mkG k] := by simp [initG, List.range_succ]
/-- the counts and sums of a row, added up -/
def sumC (bs : List TBucket) : Int := (bs.map (fun b : TBucket => b.2.2.1)).sum
def sumS (bs : List TBucket) : Int := (bs.map (fun b : TBucket => b.2.2.2)).sum
theorem sum_put (f : TBucket → Int) {bs : List TBucket} {i : Nat} (hi : i < bs.length) (x : TBucket) : ((bs.set i x).map f).sum = (bs.map f).sum + f x - f (bs.getD i b0) := by
  induction bs generalizing i with
  | nil => simp at hi
  | cons b bs ih =>
    cases i with
    | zero => simp; omega
    | succ i =>
      have := ih (i := i) (by simpa using hi)
      simp only [List.set_cons_succ, List.map_cons, List.sum_cons, List.getD_cons_succ, this]
      omega
theorem sumC_put {bs : List TBucket} {i : Nat} (hi : i < bs.length) (v : Int) : sumC (putB bs i v) = sumC bs + 1 := by
  unfold sumC putB; rw [sum_put _ hi]; simp [addB]; omega
theorem sumS_put {bs : List TBucket} {i : Nat} (hi : i < bs.length) (v : Int) : sumS (putB bs i v) = sumS bs + v := by
  unfold sumS putB; rw [sum_put _ hi]; simp [addB]; omega
theorem grpF_sum {N : Int} : ∀ (r : List (Int × Int)) (bs out : List TBucket), (bs.length : Int) = N → grpF N bs r = some out → out.length = bs.length ∧ sumC out = sumC bs + r.length ∧ sumS out = sumS bs + (r.map (·.2)).sum
  | [], bs, out, hl, h => by
    rw [grpF] at h; injection h with h; subst h; simp
  | x :: r, bs, out, hl, h => by
    rw [grpF] at h
    by_cases c : x.1 < 0 ∨ N ≤ x.1
    · rw [if_pos c] at h; cases h
    · rw [if_neg c] at h
      have hi : x.1.toNat < bs.length := by omega
      obtain ⟨a1, a2, a3⟩ := grpF_sum r _ out (by rw [putB_len]; exact hl) h
      rw [sumC_put hi] at a2
      rw [sumS_put hi] at a3
      rw [putB_len] at a1
      refine ⟨a1, by simp; omega, by simp; omega⟩
theorem initG_sum (N : Nat) : sumC (initG N) = 0 ∧ sumS (initG N) = 0 := by
  induction N with
  | zero => exact ⟨rfl, rfl⟩
  | succ N ih =>
    have h1 := ih.1; have h2 := ih.2
    unfold sumC sumS at *
    rw [initG_succ, List.map_append, List.map_append, List.sum_append, List.sum_append, h1, h2]
    simp [mkG]
theorem grpR_tot {l gs : List Int} {n : Int} (h : (grpR l gs n).2 = 0) : sumC (grpR l gs n).1 = l.length ∧ sumS (grpR l gs n).1 = l.sum ∧ ((grpR l gs n).1.length : Int) = n := by
  unfold grpR at h ⊢
  by_cases h1 : l.length ≠ gs.length
  · rw [if_pos h1] at h; simp at h
  · rw [if_neg h1] at h ⊢
    by_cases h2 : 4096 < l.length ∨ 64 < n
    · rw [if_pos h2] at h; simp at h
    · rw [if_neg h2] at h ⊢
      by_cases h3 : n < 1 ∨ okL l = false
      · rw [if_pos h3] at h; simp at h
      · rw [if_neg h3] at h ⊢
        cases hg : grpF n (initG n.toNat) (gs.zip l) with
        | none => rw [hg] at h; simp at h
        | some out =>
          simp only
          obtain ⟨a1, a2, a3⟩ := grpF_sum _ _ out (by rw [initG_len]; omega) hg
          have h1' : l.length = gs.length := by simpa using h1
          rw [(initG_sum _).1, List.length_zip] at a2
          rw [(initG_sum _).2] at a3
          rw [initG_len] at a1
          have e : (gs.zip l).map (·.2) = l := by
            have := List.map_snd_zip (l₁ := gs) (l₂ := l) (by omega)
            exact this
          rw [e] at a3
          refine ⟨by omega, by omega, by omega⟩
/-- Histogram -/
def loAt (bd : List Int) (i : Nat) : Int := if i = 0 then -1000000000000000 else bd.getD (i - 1) 0
def hiAt (bd : List Int) (i : Nat) : Int := if i = bd.length then 1000000000000001 else bd.getD i 0
def bkt0 (bd : List Int) : List TBucket := (List.range (bd.length + 1)).map fun i => (loAt bd i, hiAt bd i, 0, 0)
def histF (bd l : List Int) : List TBucket := l.foldl (fun bs v => putB bs (cntLt bd (v + 1)) v) (bkt0 bd)
def histR (l bd : List Int) : List TBucket × Int :=
  if 4096 < l.length ∨ 64 < bd.length then ([], 4) else if okL l = false ∨ okL bd = false then ([], 3) else if ¬ bd.Pairwise (· < ·) then ([], 9) else (histF bd l, 0)
theorem bkt0_len (bd : List Int) : (bkt0 bd).length = bd.length + 1 := by simp [bkt0]
theorem bkt0_bd (bd : List Int) : BdB 0 (bkt0 bd) := by
  intro b hb
  obtain ⟨i, _, rfl⟩ := List.mem_map.1 hb
  simp
theorem range_set (n i : Nat) (f : Nat → TBucket) (x : TBucket) : ((List.range n).map f).set i x = (List.range n).map fun j => if j = i then x else f j := by
  apply List.ext_getElem?
  intro j
  rw [List.getElem?_set]
  by_cases e : i = j
  · subst e
    rw [if_pos rfl]
    by_cases h : i < n
    · simp [h]
    · simp [h]
  · rw [if_neg e, List.getElem?_map, List.getElem?_map]
    by_cases h : j < n
    · simp [h, Ne.symm e]
    · simp [h]
def fillH (bd : List Int) (i : Nat) : List TBucket := (List.range (bd.length + 1)).map fun j => (if j = 0 then -1000000000000000 else if j ≤ i then bd.getD (j - 1) 0 else 0, if j = bd.length then 1000000000000001 else if j < i then bd.getD j 0 else 0, 0, 0)
theorem fillH_len (bd : List Int) (i : Nat) : (fillH bd i).length = bd.length + 1 := by simp [fillH]
theorem fillH_get {bd : List Int} {i j : Nat} (h : j < bd.length + 1) : (fillH bd i)[j]? = some (if j = 0 then -1000000000000000 else if j ≤ i then bd.getD (j - 1) 0 else 0, if j = bd.length then 1000000000000001 else if j < i then bd.getD j 0 else 0, 0, 0) := by
  unfold fillH; simp [h]
theorem fillH_0 (bd : List Int) : ((List.replicate (bd.length + 1) b0).set 0 (-1000000000000000, 0, 0, 0)).set bd.length (if bd.length = 0 then -1000000000000000 else 0, 1000000000000001, 0, 0) = fillH bd 0 := by
  have e : List.replicate (bd.length + 1) b0 = (List.range (bd.length + 1)).map fun _ => b0 := by
    apply List.ext_getElem?; intro j; rw [List.getElem?_replicate, List.getElem?_map]; by_cases h : j < bd.length + 1 <;> simp [h]
  rw [e, range_set, range_set]
  unfold fillH
  refine List.map_congr_left fun j hj => ?_
  have hj := List.mem_range.1 hj
  by_cases h1 : j = bd.length
  · rw [if_pos h1]
    refine Prod.ext ?_ (Prod.ext ?_ rfl)
    · simp only
      by_cases h2 : j = 0
      · rw [if_pos (by omega), if_pos h2]
      · rw [if_neg (by omega), if_neg h2, if_neg (by omega)]
    · simp only; rw [if_pos h1]
  · rw [if_neg h1]
    by_cases h2 : j = 0
    · rw [if_pos h2]
      refine Prod.ext ?_ (Prod.ext ?_ rfl)
      · simp only; rw [if_pos h2]
      · simp only; rw [if_neg h1, if_neg (by omega)]
    · rw [if_neg h2]
      refine Prod.ext ?_ (Prod.ext ?_ rfl)
      · simp only; rw [if_neg h2, if_neg (by omega)]; rfl
      · simp only; rw [if_neg h1, if_neg (by omega)]; rfl
theorem fillH_step {bd : List Int} {i : Nat} (h : i < bd.length) : ((fillH bd i).set i (if i = 0 then -1000000000000000 else bd.getD (i - 1) 0, bd.getD i 0, 0, 0)).set (i + 1) (bd.getD i 0, if i + 1 = bd.length then 1000000000000001 else 0, 0, 0) = fillH bd (i + 1) := by
  unfold fillH
  rw [range_set, range_set]
  refine List.map_congr_left fun j hj => ?_
  have hj := List.mem_range.1 hj
  by_cases h1 : j = i + 1
  · rw [if_pos h1]
    subst h1
    refine Prod.ext ?_ (Prod.ext ?_ rfl)
    · simp only; rw [if_neg (by omega), if_pos (Nat.le_refl _)]; rfl
    · simp only
      by_cases h2 : i + 1 = bd.length
      · rw [if_pos h2, if_pos h2]
      · rw [if_neg h2, if_neg h2, if_neg (by omega)]
  · rw [if_neg h1]
    by_cases h2 : j = i
    · rw [if_pos h2]
      subst h2
      refine Prod.ext ?_ (Prod.ext ?_ rfl)
      · simp only
        by_cases h3 : j = 0
        · rw [if_pos h3, if_pos h3]
        · rw [if_neg h3, if_neg h3, if_pos (by omega)]
      · simp only; rw [if_neg (by omega), if_pos (by omega)]
    · rw [if_neg h2]
      refine Prod.ext ?_ (Prod.ext ?_ rfl)
      · simp only
        by_cases h3 : j = 0
        · rw [if_pos h3, if_pos h3]
        · rw [if_neg h3, if_neg h3]
          by_cases h4 : j ≤ i
          · rw [if_pos h4, if_pos (by omega)]
          · rw [if_neg h4, if_neg (by omega)]
      · simp only
        by_cases h3 : j = bd.length
        · rw [if_pos h3, if_pos h3]
        · rw [if_neg h3, if_neg h3]
          by_cases h4 : j < i
          · rw [if_pos h4, if_pos (by omega)]
          · rw [if_neg h4, if_neg (by omega)]
theorem fillH_n (bd : List Int) : fillH bd bd.length = bkt0 bd := by
  unfold fillH bkt0
  refine List.map_congr_left fun j hj => ?_
  have hj := List.mem_range.1 hj
  unfold loAt hiAt
  refine Prod.ext ?_ (Prod.ext ?_ rfl)
  · simp only
    by_cases h1 : j = 0
    · rw [if_pos h1, if_pos h1]
    · rw [if_neg h1, if_neg h1, if_pos (by omega)]
  · simp only
    by_cases h2 : j = bd.length
    · rw [if_pos h2, if_pos h2]
    · rw [if_neg h2, if_neg h2, if_pos (by omega)]
theorem hist_fold (bd : List Int) : ∀ (l : List Int) (bs : List TBucket), (l.foldl (fun bs v => putB bs (cntLt bd (v + 1)) v) bs).length = bs.length ∧ (bs.length = bd.length + 1 → sumC (l.foldl (fun bs v => putB bs (cntLt bd (v + 1)) v) bs) = sumC bs + l.length ∧ sumS (l.foldl (fun bs v => putB bs (cntLt bd (v + 1)) v) bs) = sumS bs + l.sum)
  | [], bs => ⟨rfl, fun _ => by simp⟩
  | v :: l, bs => by
    obtain ⟨a1, a2⟩ := hist_fold bd l (putB bs (cntLt bd (v + 1)) v)
    rw [List.foldl_cons]
    refine ⟨by rw [a1, putB_len], fun hl => ?_⟩
    have hi : cntLt bd (v + 1) < bs.length := by have := cntLt_le bd (v + 1); omega
    obtain ⟨a3, a4⟩ := a2 (by rw [putB_len]; exact hl)
    rw [a3, a4, sumC_put hi, sumS_put hi]
    simp; omega
theorem bkt0_sum (bd : List Int) : sumC (bkt0 bd) = 0 ∧ sumS (bkt0 bd) = 0 := by
  unfold sumC sumS bkt0
  rw [List.map_map, List.map_map]
  have : ∀ n : Nat, ((List.range n).map fun _ => (0 : Int)).sum = 0 := by
    intro n; induction n with
    | zero => rfl
    | succ n ih => rw [List.range_succ, List.map_append, List.sum_append, ih]; rfl
  exact ⟨this _, this _⟩
theorem histR_tot {l bd : List Int} (h : (histR l bd).2 = 0) : sumC (histR l bd).1 = l.length ∧ sumS (histR l bd).1 = l.sum := by
  unfold histR at h ⊢
  by_cases h1 : 4096 < l.length ∨ 64 < bd.length
  · rw [if_pos h1] at h; simp at h
  · rw [if_neg h1] at h ⊢
    by_cases h2 : okL l = false ∨ okL bd = false
    · rw [if_pos h2] at h; simp at h
    · rw [if_neg h2] at h ⊢
      by_cases h3 : ¬ bd.Pairwise (· < ·)
      · rw [if_pos h3] at h; simp at h
      · rw [if_neg h3]
        obtain ⟨_, a2⟩ := hist_fold bd l (bkt0 bd)
        obtain ⟨a3, a4⟩ := a2 (bkt0_len bd)
        unfold histF
        rw [a3, a4, (bkt0_sum bd).1, (bkt0_sum bd).2]
        omega
/-- a bucket by counting -/
def inH (lo hi v : Int) : Bool := decide (lo ≤ v) && decide (v < hi)
def cntB (lo hi : Int) (l : List Int) : TBucket := (lo, hi, ((l.filter (inH lo hi)).length : Int), (l.filter (inH lo hi)).sum)
def histC (bd l : List Int) : List TBucket := (List.range (bd.length + 1)).map fun i => cntB (loAt bd i) (hiAt bd i) l
theorem fold_at (ix : Int → Nat) : ∀ (l : List Int) (bs : List TBucket) (i : Nat) (hi : i < bs.length), (l.foldl (fun bs v => putB bs (ix v) v) bs)[i]? = some ((bs.getD i b0).1, (bs.getD i b0).2.1, (bs.getD i b0).2.2.1 + ((l.filter (fun v => decide (ix v = i))).length : Int), (bs.getD i b0).2.2.2 + (l.filter (fun v => decide (ix v = i))).sum)
  | [], bs, i, hi => by
    rw [List.foldl_nil, getB hi]; simp
  | v :: l, bs, i, hi => by
    rw [List.foldl_cons, fold_at ix l _ i (by rw [putB_len]; exact hi)]
    by_cases e : ix v = i
    · rw [List.filter_cons_of_pos (by simpa using e)]
      have : (putB bs (ix v) v).getD i b0 = addB (bs.getD i b0) v := by
        unfold putB; rw [e, List.getD_eq_getElem?_getD, List.getElem?_set_self hi]; rfl
      rw [this]
      unfold addB
      simp only [List.length_cons, List.sum_cons, Option.some.injEq, Prod.mk.injEq, true_and]
      omega
    · rw [List.filter_cons_of_neg (by simpa using e)]
      have : (putB bs (ix v) v).getD i b0 = bs.getD i b0 := by
        unfold putB; rw [List.getD_eq_getElem?_getD, List.getElem?_set_ne e]; rfl
      rw [this]
theorem bd_get {bd : List Int} {i : Nat} (h : i < bd.length) : bd.getD i 0 = bd[i] := by rw [List.getD_eq_getElem?_getD, List.getElem?_eq_getElem h]; rfl
theorem ix_iff {bd : List Int} (hp : bd.Pairwise (· < ·)) {v : Int} (hv : -1000000000000000 ≤ v ∧ v ≤ 1000000000000000) {i : Nat} (hi : i ≤ bd.length) : cntLt bd (v + 1) = i ↔ loAt bd i ≤ v ∧ v < hiAt bd i := by
  have hle := cntLt_le bd (v + 1)
  unfold loAt hiAt
  constructor
  · intro e
    constructor
    · by_cases h0 : i = 0
      · rw [if_pos h0]; omega
      · rw [if_neg h0, bd_get (by omega)]
        have := not_congr (cntLt_iff (x := v + 1) hp (i - 1) (by omega))
        omega
    · by_cases h1 : i = bd.length
      · rw [if_pos h1]; omega
      · rw [if_neg h1, bd_get (by omega)]
        have := (cntLt_iff (x := v + 1) hp i (by omega))
        omega
  · rintro ⟨c1, c2⟩
    have d1 : i ≤ cntLt bd (v + 1) := by
      by_cases h0 : i = 0
      · omega
      · rw [if_neg h0, bd_get (by omega)] at c1
        have := not_congr (cntLt_iff (x := v + 1) hp (i - 1) (by omega))
        omega
    have d2 : cntLt bd (v + 1) ≤ i := by
      by_cases h1 : i = bd.length
      · omega
      · rw [if_neg h1, bd_get (by omega)] at c2
        exact (cntLt_iff (x := v + 1) hp i (by omega)).1 (by omega)
    omega
theorem hist_eq {bd l : List Int} (hl : okL l = true) (hp : bd.Pairwise (· < ·)) : histF bd l = histC bd l := by
  have hl := okL_iff.1 hl
  apply List.ext_getElem?
  intro i
  by_cases hi : i < bd.length + 1
  · unfold histF histC
    rw [fold_at _ l _ i (by rw [bkt0_len]; exact hi), List.getElem?_map, List.getElem?_range hi, Option.map_some]
    have e1 : (bkt0 bd).getD i b0 = (loAt bd i, hiAt bd i, 0, 0) := by
      unfold bkt0; rw [List.getD_eq_getElem?_getD, List.getElem?_map, List.getElem?_range hi]; rfl
    have e2 : l.filter (fun v => decide (cntLt bd (v + 1) = i)) = l.filter (inH (loAt bd i) (hiAt bd i)) := by
      refine List.filter_congr fun v hv => ?_
      rw [Bool.eq_iff_iff]
      simp only [inH, Bool.and_eq_true, decide_eq_true_eq]
      exact ix_iff hp (hl v hv) (by omega)
    rw [e1, e2]
    unfold cntB
    simp
  · rw [List.getElem?_eq_none, List.getElem?_eq_none]
    · unfold histC; simp; omega
    · unfold histF; rw [(hist_fold bd l _).1, bkt0_len]; omega
theorem sum_perm {l m : List Int} (h : l.Perm m) : l.sum = m.sum := by
  induction h with
  | nil => rfl
  | cons x _ ih => simp [ih]
  | swap x y l => simp; omega
  | trans _ _ h1 h2 => exact h1.trans h2
theorem okL_perm {l m : List Int} (h : l.Perm m) : okL l = okL m := by
  rw [Bool.eq_iff_iff, okL_iff, okL_iff]
  exact ⟨fun q v hv => q v (h.mem_iff.2 hv), fun q v hv => q v (h.mem_iff.1 hv)⟩
theorem histR_perm {l m bd : List Int} (h : l.Perm m) : histR l bd = histR m bd := by
  unfold histR
  rw [h.length_eq, okL_perm h]
  by_cases h1 : 4096 < m.length ∨ 64 < bd.length
  · rw [if_pos h1, if_pos h1]
  · rw [if_neg h1, if_neg h1]
    by_cases h2 : okL m = false ∨ okL bd = false
    · rw [if_pos h2, if_pos h2]
    · rw [if_neg h2, if_neg h2]
      by_cases h3 : ¬ bd.Pairwise (· < ·)
      · rw [if_pos h3, if_pos h3]
      · rw [if_neg h3, if_neg h3]
        have hm : okL m = true := by simpa using (not_or.1 h2).1
        have hp : bd.Pairwise (· < ·) := by simpa using h3
        rw [hist_eq (by rw [okL_perm h]; exact hm) hp, hist_eq hm hp]
        unfold histC cntB
        congr 1
        refine List.map_congr_left fun i _ => ?_
        have := h.filter (inH (loAt bd i) (hiAt bd i))
        rw [this.length_eq, sum_perm this]
theorem quanR_perm {l m : List Int} {k n : Int} (h : l.Perm m) : quanR l k n = quanR m k n := by
  unfold quanR; rw [h.length_eq, srt_of_perm h]
end Go.Proofs.Ytfmoolclokffjaa
