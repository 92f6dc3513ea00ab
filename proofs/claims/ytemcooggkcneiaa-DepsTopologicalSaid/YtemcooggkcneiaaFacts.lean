import Derived.Test.YtemcooggkcneiaaEng11
import Derived.Test.YtemcooggkcneiaaProg
import Derived.KernelRfl
namespace Go.Proofs.Ytemcooggkcneiaa
open Go.Eng
set_option maxRecDepth 100000
theorem mo : Try.prog.follows .mixedOrders = true := by kernel_rfl

theorem ty3 : Ty Try.prog 3 (rInt .i64) := Ty.mk_ Try.underlying3 rfl (by kernel_rfl)
theorem z3 : TyZero Try.prog 3 (rInt .i64) (0 : Int) := zr_ty (by kernel_rfl) (zr_int .i64)
theorem by3 : (Try.prog.info? 3).map (·.bytes) = some 8 := by kernel_rfl
theorem ty4 : Ty Try.prog 4 rBool := Ty.mk_ Try.underlying4 rfl (by kernel_rfl)
theorem z4 : TyZero Try.prog 4 rBool (false : Bool) := zr_ty (by kernel_rfl) (zr_bool)
theorem by4 : (Try.prog.info? 4).map (·.bytes) = some 1 := by kernel_rfl
theorem ty9 : Ty Try.prog 9 rStr := Ty.mk_ Try.underlying9 rfl (by kernel_rfl)
theorem z9 : TyZero Try.prog 9 rStr ([] : (List UInt8)) := zr_ty (by kernel_rfl) (zr_str)
theorem by9 : (Try.prog.info? 9).map (·.bytes) = some 16 := by kernel_rfl
abbrev TType := Int × Int
@[reducible] def rType : RT TType := (rPair (rInt .i64) (rInt .i64))
theorem ty112 : Ty Try.prog 112 rType := Ty.mk_ Try.underlying112 rfl (by kernel_rfl)
theorem z112 : TyZero Try.prog 112 rType ((0, 0) : TType) := zr_ty (by kernel_rfl) ((zr_pair (zr_int .i64) (zr_int .i64)))
theorem by112 : (Try.prog.info? 112).map (·.bytes) = some 16 := by kernel_rfl
theorem pl112 : plcs Try.prog 112 = some [(0, 1), (1, 1)] := by kernel_rfl
theorem fld112_0 : fld Try.prog 112 0 = some 0 := by kernel_rfl
theorem ln112_0 : Lens rType 0 (rInt .i64) (fun d => d.1) (fun d x => (x, d.2)) := (Lens.fst (Lens.id (rInt .i64)))
theorem fld112_1 : fld Try.prog 112 1 = some 1 := by kernel_rfl
theorem ln112_1 : Lens rType 1 (rInt .i64) (fun d => d.2) (fun d x => (d.1, x)) := (Lens.snd (Lens.id (rInt .i64)) rfl)
theorem eq112 : EqTy Try.prog 112 rType 2 := eq_struct rfl (by kernel_rfl) (fs := [⟨ "Kind", 3, 0, false, "", "", 0⟩, ⟨ "Enum", 3, 1, false, "", "", 8⟩]) (by kernel_rfl) (by kernel_rfl) (eqf_cons (by simp) rfl ty3 (eq_mono (eq_int Try.underlying3) (by omega)) (eqf_last (by simp) rfl ty3 (eq_mono (eq_int Try.underlying3) (by omega))) rfl)
theorem eg112 : Try.prog.eqGuardType Try.prog.depth 112 = false := by kernel_rfl
theorem ty113 : Ty Try.prog 113 rType := Ty.mk_ Try.underlying113 rfl (by kernel_rfl)
theorem z113 : TyZero Try.prog 113 rType ((0, 0) : TType) := zr_ty (by kernel_rfl) ((zr_pair (zr_int .i64) (zr_int .i64)))
theorem by113 : (Try.prog.info? 113).map (·.bytes) = some 16 := by kernel_rfl
theorem pl113 : plcs Try.prog 113 = some [(0, 1), (1, 1)] := by kernel_rfl
theorem fld113_0 : fld Try.prog 113 0 = some 0 := by kernel_rfl
theorem ln113_0 : Lens rType 0 (rInt .i64) (fun d => d.1) (fun d x => (x, d.2)) := (Lens.fst (Lens.id (rInt .i64)))
theorem fld113_1 : fld Try.prog 113 1 = some 1 := by kernel_rfl
theorem ln113_1 : Lens rType 1 (rInt .i64) (fun d => d.2) (fun d x => (d.1, x)) := (Lens.snd (Lens.id (rInt .i64)) rfl)
theorem eq113 : EqTy Try.prog 113 rType 2 := eq_struct rfl (by kernel_rfl) (fs := [⟨ "Kind", 3, 0, false, "", "", 0⟩, ⟨ "Enum", 3, 1, false, "", "", 8⟩]) (by kernel_rfl) (by kernel_rfl) (eqf_cons (by simp) rfl ty3 (eq_mono (eq_int Try.underlying3) (by omega)) (eqf_last (by simp) rfl ty3 (eq_mono (eq_int Try.underlying3) (by omega))) rfl)
theorem eg113 : Try.prog.eqGuardType Try.prog.depth 113 = false := by kernel_rfl
abbrev TField := (List UInt8) × TType
@[reducible] def rField : RT TField := (rPair rStr rType)
theorem ty114 : Ty Try.prog 114 rField := Ty.mk_ Try.underlying114 rfl (by kernel_rfl)
theorem z114 : TyZero Try.prog 114 rField (([], (0, 0)) : TField) := zr_ty (by kernel_rfl) ((zr_pair (zr_str) ((zr_pair (zr_int .i64) (zr_int .i64)))))
theorem by114 : (Try.prog.info? 114).map (·.bytes) = some 32 := by kernel_rfl
theorem pl114 : plcs Try.prog 114 = some [(0, 1), (1, 2)] := by kernel_rfl
theorem fld114_0 : fld Try.prog 114 0 = some 0 := by kernel_rfl
theorem ln114_0 : Lens rField 0 rStr (fun d => d.1) (fun d x => (x, d.2)) := (Lens.fst (Lens.id rStr))
theorem fld114_1 : fld Try.prog 114 1 = some 1 := by kernel_rfl
theorem ln114_1 : Lens rField 1 rType (fun d => d.2) (fun d x => (d.1, x)) := (Lens.snd (Lens.id rType) rfl)
theorem eq114 : EqTy Try.prog 114 rField 3 := eq_struct rfl (by kernel_rfl) (fs := [⟨ "Name", 9, 0, false, "", "", 0⟩, ⟨ "Type", 113, 1, false, "", "", 16⟩]) (by kernel_rfl) (by kernel_rfl) (eqf_cons (by simp) rfl ty9 (eq_mono (eq_str Try.underlying9) (by omega)) (eqf_last (by simp) rfl ty113 (eq_mono eq113 (by omega))) rfl)
theorem eg114 : Try.prog.eqGuardType Try.prog.depth 114 = false := by kernel_rfl
theorem ty115 : Ty Try.prog 115 rField := Ty.mk_ Try.underlying115 rfl (by kernel_rfl)
theorem z115 : TyZero Try.prog 115 rField (([], (0, 0)) : TField) := zr_ty (by kernel_rfl) ((zr_pair (zr_str) ((zr_pair (zr_int .i64) (zr_int .i64)))))
theorem by115 : (Try.prog.info? 115).map (·.bytes) = some 32 := by kernel_rfl
theorem pl115 : plcs Try.prog 115 = some [(0, 1), (1, 2)] := by kernel_rfl
theorem fld115_0 : fld Try.prog 115 0 = some 0 := by kernel_rfl
theorem ln115_0 : Lens rField 0 rStr (fun d => d.1) (fun d x => (x, d.2)) := (Lens.fst (Lens.id rStr))
theorem fld115_1 : fld Try.prog 115 1 = some 1 := by kernel_rfl
theorem ln115_1 : Lens rField 1 rType (fun d => d.2) (fun d x => (d.1, x)) := (Lens.snd (Lens.id rType) rfl)
theorem eq115 : EqTy Try.prog 115 rField 3 := eq_struct rfl (by kernel_rfl) (fs := [⟨ "Name", 9, 0, false, "", "", 0⟩, ⟨ "Type", 113, 1, false, "", "", 16⟩]) (by kernel_rfl) (by kernel_rfl) (eqf_cons (by simp) rfl ty9 (eq_mono (eq_str Try.underlying9) (by omega)) (eqf_last (by simp) rfl ty113 (eq_mono eq113 (by omega))) rfl)
theorem eg115 : Try.prog.eqGuardType Try.prog.depth 115 = false := by kernel_rfl
theorem ty22 : Ty Try.prog 22 (rSlice rField) := Ty.mk_ Try.underlying22 rfl (by kernel_rfl)
theorem z22 : TyZero Try.prog 22 (rSlice rField) ([] : (List TField)) := zr_ty (by kernel_rfl) (zr_slice)
theorem by22 : (Try.prog.info? 22).map (·.bytes) = some 24 := by kernel_rfl
abbrev TDateRange := Int × Int
@[reducible] def rDateRange : RT TDateRange := (rPair (rInt .i64) (rInt .i64))
theorem ty37 : Ty Try.prog 37 rDateRange := Ty.mk_ Try.underlying37 rfl (by kernel_rfl)
theorem z37 : TyZero Try.prog 37 rDateRange ((0, 0) : TDateRange) := zr_ty (by kernel_rfl) ((zr_pair (zr_int .i64) (zr_int .i64)))
theorem by37 : (Try.prog.info? 37).map (·.bytes) = some 16 := by kernel_rfl
theorem pl37 : plcs Try.prog 37 = some [(0, 1), (1, 1)] := by kernel_rfl
theorem fld37_0 : fld Try.prog 37 0 = some 0 := by kernel_rfl
theorem ln37_0 : Lens rDateRange 0 (rInt .i64) (fun d => d.1) (fun d x => (x, d.2)) := (Lens.fst (Lens.id (rInt .i64)))
theorem fld37_1 : fld Try.prog 37 1 = some 1 := by kernel_rfl
theorem ln37_1 : Lens rDateRange 1 (rInt .i64) (fun d => d.2) (fun d x => (d.1, x)) := (Lens.snd (Lens.id (rInt .i64)) rfl)
theorem eq37 : EqTy Try.prog 37 rDateRange 2 := eq_struct rfl (by kernel_rfl) (fs := [⟨ "From", 3, 0, false, "", "", 0⟩, ⟨ "To", 3, 1, false, "", "", 8⟩]) (by kernel_rfl) (by kernel_rfl) (eqf_cons (by simp) rfl ty3 (eq_mono (eq_int Try.underlying3) (by omega)) (eqf_last (by simp) rfl ty3 (eq_mono (eq_int Try.underlying3) (by omega))) rfl)
theorem eg37 : Try.prog.eqGuardType Try.prog.depth 37 = false := by kernel_rfl
theorem ty38 : Ty Try.prog 38 rDateRange := Ty.mk_ Try.underlying38 rfl (by kernel_rfl)
theorem z38 : TyZero Try.prog 38 rDateRange ((0, 0) : TDateRange) := zr_ty (by kernel_rfl) ((zr_pair (zr_int .i64) (zr_int .i64)))
theorem by38 : (Try.prog.info? 38).map (·.bytes) = some 16 := by kernel_rfl
theorem pl38 : plcs Try.prog 38 = some [(0, 1), (1, 1)] := by kernel_rfl
theorem fld38_0 : fld Try.prog 38 0 = some 0 := by kernel_rfl
theorem ln38_0 : Lens rDateRange 0 (rInt .i64) (fun d => d.1) (fun d x => (x, d.2)) := (Lens.fst (Lens.id (rInt .i64)))
theorem fld38_1 : fld Try.prog 38 1 = some 1 := by kernel_rfl
theorem ln38_1 : Lens rDateRange 1 (rInt .i64) (fun d => d.2) (fun d x => (d.1, x)) := (Lens.snd (Lens.id (rInt .i64)) rfl)
theorem eq38 : EqTy Try.prog 38 rDateRange 2 := eq_struct rfl (by kernel_rfl) (fs := [⟨ "From", 3, 0, false, "", "", 0⟩, ⟨ "To", 3, 1, false, "", "", 8⟩]) (by kernel_rfl) (by kernel_rfl) (eqf_cons (by simp) rfl ty3 (eq_mono (eq_int Try.underlying3) (by omega)) (eqf_last (by simp) rfl ty3 (eq_mono (eq_int Try.underlying3) (by omega))) rfl)
theorem eg38 : Try.prog.eqGuardType Try.prog.depth 38 = false := by kernel_rfl
abbrev TNode := Int × Int
@[reducible] def rNode : RT TNode := (rPair (rInt .i64) (rInt .i64))
theorem ty62 : Ty Try.prog 62 rNode := Ty.mk_ Try.underlying62 rfl (by kernel_rfl)
theorem z62 : TyZero Try.prog 62 rNode ((0, 0) : TNode) := zr_ty (by kernel_rfl) ((zr_pair (zr_int .i64) (zr_int .i64)))
theorem by62 : (Try.prog.info? 62).map (·.bytes) = some 16 := by kernel_rfl
theorem pl62 : plcs Try.prog 62 = some [(0, 1), (1, 1)] := by kernel_rfl
theorem fld62_0 : fld Try.prog 62 0 = some 0 := by kernel_rfl
theorem ln62_0 : Lens rNode 0 (rInt .i64) (fun d => d.1) (fun d x => (x, d.2)) := (Lens.fst (Lens.id (rInt .i64)))
theorem fld62_1 : fld Try.prog 62 1 = some 1 := by kernel_rfl
theorem ln62_1 : Lens rNode 1 (rInt .i64) (fun d => d.2) (fun d x => (d.1, x)) := (Lens.snd (Lens.id (rInt .i64)) rfl)
theorem eq62 : EqTy Try.prog 62 rNode 2 := eq_struct rfl (by kernel_rfl) (fs := [⟨ "Op", 3, 0, false, "", "", 0⟩, ⟨ "N", 3, 1, false, "", "", 8⟩]) (by kernel_rfl) (by kernel_rfl) (eqf_cons (by simp) rfl ty3 (eq_mono (eq_int Try.underlying3) (by omega)) (eqf_last (by simp) rfl ty3 (eq_mono (eq_int Try.underlying3) (by omega))) rfl)
theorem eg62 : Try.prog.eqGuardType Try.prog.depth 62 = false := by kernel_rfl
theorem ty63 : Ty Try.prog 63 rNode := Ty.mk_ Try.underlying63 rfl (by kernel_rfl)
theorem z63 : TyZero Try.prog 63 rNode ((0, 0) : TNode) := zr_ty (by kernel_rfl) ((zr_pair (zr_int .i64) (zr_int .i64)))
theorem by63 : (Try.prog.info? 63).map (·.bytes) = some 16 := by kernel_rfl
theorem pl63 : plcs Try.prog 63 = some [(0, 1), (1, 1)] := by kernel_rfl
theorem fld63_0 : fld Try.prog 63 0 = some 0 := by kernel_rfl
theorem ln63_0 : Lens rNode 0 (rInt .i64) (fun d => d.1) (fun d x => (x, d.2)) := (Lens.fst (Lens.id (rInt .i64)))
theorem fld63_1 : fld Try.prog 63 1 = some 1 := by kernel_rfl
theorem ln63_1 : Lens rNode 1 (rInt .i64) (fun d => d.2) (fun d x => (d.1, x)) := (Lens.snd (Lens.id (rInt .i64)) rfl)
theorem eq63 : EqTy Try.prog 63 rNode 2 := eq_struct rfl (by kernel_rfl) (fs := [⟨ "Op", 3, 0, false, "", "", 0⟩, ⟨ "N", 3, 1, false, "", "", 8⟩]) (by kernel_rfl) (by kernel_rfl) (eqf_cons (by simp) rfl ty3 (eq_mono (eq_int Try.underlying3) (by omega)) (eqf_last (by simp) rfl ty3 (eq_mono (eq_int Try.underlying3) (by omega))) rfl)
theorem eg63 : Try.prog.eqGuardType Try.prog.depth 63 = false := by kernel_rfl
theorem ty39 : Ty Try.prog 39 (rSlice rNode) := Ty.mk_ Try.underlying39 rfl (by kernel_rfl)
theorem z39 : TyZero Try.prog 39 (rSlice rNode) ([] : (List TNode)) := zr_ty (by kernel_rfl) (zr_slice)
theorem by39 : (Try.prog.info? 39).map (·.bytes) = some 24 := by kernel_rfl
abbrev TRule := (List UInt8) × Int × Int × Int × TDateRange × (List TNode) × (List TNode) × (List UInt8)
@[reducible] def rRule : RT TRule := (rPair rStr (rPair (rInt .i64) (rPair (rInt .i64) (rPair (rInt .i64) (rPair rDateRange (rPair (rSlice rNode) (rPair (rSlice rNode) rStr)))))))
theorem ty40 : Ty Try.prog 40 rRule := Ty.mk_ Try.underlying40 rfl (by kernel_rfl)
theorem z40 : TyZero Try.prog 40 rRule (([], (0, (0, (0, ((0, 0), ([], ([], []))))))) : TRule) := zr_ty (by kernel_rfl) ((zr_pair (zr_str) ((zr_pair (zr_int .i64) ((zr_pair (zr_int .i64) ((zr_pair (zr_int .i64) ((zr_pair ((zr_pair (zr_int .i64) (zr_int .i64))) ((zr_pair (zr_slice) ((zr_pair (zr_slice) (zr_str)))))))))))))))
theorem by40 : (Try.prog.info? 40).map (·.bytes) = some 120 := by kernel_rfl
theorem pl40 : plcs Try.prog 40 = some [(0, 1), (1, 1), (2, 1), (3, 1), (4, 2), (6, 1), (7, 1), (8, 1)] := by kernel_rfl
theorem fld40_0 : fld Try.prog 40 0 = some 0 := by kernel_rfl
theorem ln40_0 : Lens rRule 0 rStr (fun d => d.1) (fun d x => (x, d.2)) := (Lens.fst (Lens.id rStr))
theorem fld40_1 : fld Try.prog 40 1 = some 1 := by kernel_rfl
theorem ln40_1 : Lens rRule 1 (rInt .i64) (fun d => d.2.1) (fun d x => (d.1, (x, d.2.2))) := (Lens.snd (Lens.fst (Lens.id (rInt .i64))) rfl)
theorem fld40_2 : fld Try.prog 40 2 = some 2 := by kernel_rfl
theorem ln40_2 : Lens rRule 2 (rInt .i64) (fun d => d.2.2.1) (fun d x => (d.1, (d.2.1, (x, d.2.2.2)))) := (Lens.snd (Lens.snd (Lens.fst (Lens.id (rInt .i64))) rfl) rfl)
theorem fld40_3 : fld Try.prog 40 3 = some 3 := by kernel_rfl
theorem ln40_3 : Lens rRule 3 (rInt .i64) (fun d => d.2.2.2.1) (fun d x => (d.1, (d.2.1, (d.2.2.1, (x, d.2.2.2.2))))) := (Lens.snd (Lens.snd (Lens.snd (Lens.fst (Lens.id (rInt .i64))) rfl) rfl) rfl)
theorem fld40_4 : fld Try.prog 40 4 = some 4 := by kernel_rfl
theorem ln40_4 : Lens rRule 4 rDateRange (fun d => d.2.2.2.2.1) (fun d x => (d.1, (d.2.1, (d.2.2.1, (d.2.2.2.1, (x, d.2.2.2.2.2)))))) := (Lens.snd (Lens.snd (Lens.snd (Lens.snd (Lens.fst (Lens.id rDateRange)) rfl) rfl) rfl) rfl)
theorem fld40_5 : fld Try.prog 40 5 = some 6 := by kernel_rfl
theorem ln40_5 : Lens rRule 6 (rSlice rNode) (fun d => d.2.2.2.2.2.1) (fun d x => (d.1, (d.2.1, (d.2.2.1, (d.2.2.2.1, (d.2.2.2.2.1, (x, d.2.2.2.2.2.2))))))) := (Lens.snd (Lens.snd (Lens.snd (Lens.snd (Lens.snd (Lens.fst (Lens.id (rSlice rNode))) rfl) rfl) rfl) rfl) rfl)
theorem fld40_6 : fld Try.prog 40 6 = some 7 := by kernel_rfl
theorem ln40_6 : Lens rRule 7 (rSlice rNode) (fun d => d.2.2.2.2.2.2.1) (fun d x => (d.1, (d.2.1, (d.2.2.1, (d.2.2.2.1, (d.2.2.2.2.1, (d.2.2.2.2.2.1, (x, d.2.2.2.2.2.2.2)))))))) := (Lens.snd (Lens.snd (Lens.snd (Lens.snd (Lens.snd (Lens.snd (Lens.fst (Lens.id (rSlice rNode))) rfl) rfl) rfl) rfl) rfl) rfl)
theorem fld40_7 : fld Try.prog 40 7 = some 8 := by kernel_rfl
theorem ln40_7 : Lens rRule 8 rStr (fun d => d.2.2.2.2.2.2.2) (fun d x => (d.1, (d.2.1, (d.2.2.1, (d.2.2.2.1, (d.2.2.2.2.1, (d.2.2.2.2.2.1, (d.2.2.2.2.2.2.1, x)))))))) := (Lens.snd (Lens.snd (Lens.snd (Lens.snd (Lens.snd (Lens.snd (Lens.snd (Lens.id rStr) rfl) rfl) rfl) rfl) rfl) rfl) rfl)
theorem ty41 : Ty Try.prog 41 rRule := Ty.mk_ Try.underlying41 rfl (by kernel_rfl)
theorem z41 : TyZero Try.prog 41 rRule (([], (0, (0, (0, ((0, 0), ([], ([], []))))))) : TRule) := zr_ty (by kernel_rfl) ((zr_pair (zr_str) ((zr_pair (zr_int .i64) ((zr_pair (zr_int .i64) ((zr_pair (zr_int .i64) ((zr_pair ((zr_pair (zr_int .i64) (zr_int .i64))) ((zr_pair (zr_slice) ((zr_pair (zr_slice) (zr_str)))))))))))))))
theorem by41 : (Try.prog.info? 41).map (·.bytes) = some 120 := by kernel_rfl
theorem pl41 : plcs Try.prog 41 = some [(0, 1), (1, 1), (2, 1), (3, 1), (4, 2), (6, 1), (7, 1), (8, 1)] := by kernel_rfl
theorem fld41_0 : fld Try.prog 41 0 = some 0 := by kernel_rfl
theorem ln41_0 : Lens rRule 0 rStr (fun d => d.1) (fun d x => (x, d.2)) := (Lens.fst (Lens.id rStr))
theorem fld41_1 : fld Try.prog 41 1 = some 1 := by kernel_rfl
theorem ln41_1 : Lens rRule 1 (rInt .i64) (fun d => d.2.1) (fun d x => (d.1, (x, d.2.2))) := (Lens.snd (Lens.fst (Lens.id (rInt .i64))) rfl)
theorem fld41_2 : fld Try.prog 41 2 = some 2 := by kernel_rfl
theorem ln41_2 : Lens rRule 2 (rInt .i64) (fun d => d.2.2.1) (fun d x => (d.1, (d.2.1, (x, d.2.2.2)))) := (Lens.snd (Lens.snd (Lens.fst (Lens.id (rInt .i64))) rfl) rfl)
theorem fld41_3 : fld Try.prog 41 3 = some 3 := by kernel_rfl
theorem ln41_3 : Lens rRule 3 (rInt .i64) (fun d => d.2.2.2.1) (fun d x => (d.1, (d.2.1, (d.2.2.1, (x, d.2.2.2.2))))) := (Lens.snd (Lens.snd (Lens.snd (Lens.fst (Lens.id (rInt .i64))) rfl) rfl) rfl)
theorem fld41_4 : fld Try.prog 41 4 = some 4 := by kernel_rfl
theorem ln41_4 : Lens rRule 4 rDateRange (fun d => d.2.2.2.2.1) (fun d x => (d.1, (d.2.1, (d.2.2.1, (d.2.2.2.1, (x, d.2.2.2.2.2)))))) := (Lens.snd (Lens.snd (Lens.snd (Lens.snd (Lens.fst (Lens.id rDateRange)) rfl) rfl) rfl) rfl)
theorem fld41_5 : fld Try.prog 41 5 = some 6 := by kernel_rfl
theorem ln41_5 : Lens rRule 6 (rSlice rNode) (fun d => d.2.2.2.2.2.1) (fun d x => (d.1, (d.2.1, (d.2.2.1, (d.2.2.2.1, (d.2.2.2.2.1, (x, d.2.2.2.2.2.2))))))) := (Lens.snd (Lens.snd (Lens.snd (Lens.snd (Lens.snd (Lens.fst (Lens.id (rSlice rNode))) rfl) rfl) rfl) rfl) rfl)
theorem fld41_6 : fld Try.prog 41 6 = some 7 := by kernel_rfl
theorem ln41_6 : Lens rRule 7 (rSlice rNode) (fun d => d.2.2.2.2.2.2.1) (fun d x => (d.1, (d.2.1, (d.2.2.1, (d.2.2.2.1, (d.2.2.2.2.1, (d.2.2.2.2.2.1, (x, d.2.2.2.2.2.2.2)))))))) := (Lens.snd (Lens.snd (Lens.snd (Lens.snd (Lens.snd (Lens.snd (Lens.fst (Lens.id (rSlice rNode))) rfl) rfl) rfl) rfl) rfl) rfl)
theorem fld41_7 : fld Try.prog 41 7 = some 8 := by kernel_rfl
theorem ln41_7 : Lens rRule 8 rStr (fun d => d.2.2.2.2.2.2.2) (fun d x => (d.1, (d.2.1, (d.2.2.1, (d.2.2.2.1, (d.2.2.2.2.1, (d.2.2.2.2.2.1, (d.2.2.2.2.2.2.1, x)))))))) := (Lens.snd (Lens.snd (Lens.snd (Lens.snd (Lens.snd (Lens.snd (Lens.snd (Lens.id rStr) rfl) rfl) rfl) rfl) rfl) rfl) rfl)
theorem ty23 : Ty Try.prog 23 (rSlice rRule) := Ty.mk_ Try.underlying23 rfl (by kernel_rfl)
theorem z23 : TyZero Try.prog 23 (rSlice rRule) ([] : (List TRule)) := zr_ty (by kernel_rfl) (zr_slice)
theorem by23 : (Try.prog.info? 23).map (·.bytes) = some 24 := by kernel_rfl
abbrev TScope := (List UInt8) × Int × (List TField) × (List TField) × (List TRule)
@[reducible] def rScope : RT TScope := (rPair rStr (rPair (rInt .i64) (rPair (rSlice rField) (rPair (rSlice rField) (rSlice rRule)))))
theorem ty24 : Ty Try.prog 24 rScope := Ty.mk_ Try.underlying24 rfl (by kernel_rfl)
theorem z24 : TyZero Try.prog 24 rScope (([], (0, ([], ([], [])))) : TScope) := zr_ty (by kernel_rfl) ((zr_pair (zr_str) ((zr_pair (zr_int .i64) ((zr_pair (zr_slice) ((zr_pair (zr_slice) (zr_slice)))))))))
theorem by24 : (Try.prog.info? 24).map (·.bytes) = some 96 := by kernel_rfl
theorem pl24 : plcs Try.prog 24 = some [(0, 1), (1, 1), (2, 1), (3, 1), (4, 1)] := by kernel_rfl
theorem fld24_0 : fld Try.prog 24 0 = some 0 := by kernel_rfl
theorem ln24_0 : Lens rScope 0 rStr (fun d => d.1) (fun d x => (x, d.2)) := (Lens.fst (Lens.id rStr))
theorem fld24_1 : fld Try.prog 24 1 = some 1 := by kernel_rfl
theorem ln24_1 : Lens rScope 1 (rInt .i64) (fun d => d.2.1) (fun d x => (d.1, (x, d.2.2))) := (Lens.snd (Lens.fst (Lens.id (rInt .i64))) rfl)
theorem fld24_2 : fld Try.prog 24 2 = some 2 := by kernel_rfl
theorem ln24_2 : Lens rScope 2 (rSlice rField) (fun d => d.2.2.1) (fun d x => (d.1, (d.2.1, (x, d.2.2.2)))) := (Lens.snd (Lens.snd (Lens.fst (Lens.id (rSlice rField))) rfl) rfl)
theorem fld24_3 : fld Try.prog 24 3 = some 3 := by kernel_rfl
theorem ln24_3 : Lens rScope 3 (rSlice rField) (fun d => d.2.2.2.1) (fun d x => (d.1, (d.2.1, (d.2.2.1, (x, d.2.2.2.2))))) := (Lens.snd (Lens.snd (Lens.snd (Lens.fst (Lens.id (rSlice rField))) rfl) rfl) rfl)
theorem fld24_4 : fld Try.prog 24 4 = some 4 := by kernel_rfl
theorem ln24_4 : Lens rScope 4 (rSlice rRule) (fun d => d.2.2.2.2) (fun d x => (d.1, (d.2.1, (d.2.2.1, (d.2.2.2.1, x))))) := (Lens.snd (Lens.snd (Lens.snd (Lens.snd (Lens.id (rSlice rRule)) rfl) rfl) rfl) rfl)
theorem ty25 : Ty Try.prog 25 rScope := Ty.mk_ Try.underlying25 rfl (by kernel_rfl)
theorem z25 : TyZero Try.prog 25 rScope (([], (0, ([], ([], [])))) : TScope) := zr_ty (by kernel_rfl) ((zr_pair (zr_str) ((zr_pair (zr_int .i64) ((zr_pair (zr_slice) ((zr_pair (zr_slice) (zr_slice)))))))))
theorem by25 : (Try.prog.info? 25).map (·.bytes) = some 96 := by kernel_rfl
theorem pl25 : plcs Try.prog 25 = some [(0, 1), (1, 1), (2, 1), (3, 1), (4, 1)] := by kernel_rfl
theorem fld25_0 : fld Try.prog 25 0 = some 0 := by kernel_rfl
theorem ln25_0 : Lens rScope 0 rStr (fun d => d.1) (fun d x => (x, d.2)) := (Lens.fst (Lens.id rStr))
theorem fld25_1 : fld Try.prog 25 1 = some 1 := by kernel_rfl
theorem ln25_1 : Lens rScope 1 (rInt .i64) (fun d => d.2.1) (fun d x => (d.1, (x, d.2.2))) := (Lens.snd (Lens.fst (Lens.id (rInt .i64))) rfl)
theorem fld25_2 : fld Try.prog 25 2 = some 2 := by kernel_rfl
theorem ln25_2 : Lens rScope 2 (rSlice rField) (fun d => d.2.2.1) (fun d x => (d.1, (d.2.1, (x, d.2.2.2)))) := (Lens.snd (Lens.snd (Lens.fst (Lens.id (rSlice rField))) rfl) rfl)
theorem fld25_3 : fld Try.prog 25 3 = some 3 := by kernel_rfl
theorem ln25_3 : Lens rScope 3 (rSlice rField) (fun d => d.2.2.2.1) (fun d x => (d.1, (d.2.1, (d.2.2.1, (x, d.2.2.2.2))))) := (Lens.snd (Lens.snd (Lens.snd (Lens.fst (Lens.id (rSlice rField))) rfl) rfl) rfl)
theorem fld25_4 : fld Try.prog 25 4 = some 4 := by kernel_rfl
theorem ln25_4 : Lens rScope 4 (rSlice rRule) (fun d => d.2.2.2.2) (fun d x => (d.1, (d.2.1, (d.2.2.1, (d.2.2.2.1, x))))) := (Lens.snd (Lens.snd (Lens.snd (Lens.snd (Lens.id (rSlice rRule)) rfl) rfl) rfl) rfl)
theorem ty28 : Ty Try.prog 28 (rSlice (rInt .i64)) := Ty.mk_ Try.underlying28 rfl (by kernel_rfl)
theorem z28 : TyZero Try.prog 28 (rSlice (rInt .i64)) ([] : (List Int)) := zr_ty (by kernel_rfl) (zr_slice)
theorem by28 : (Try.prog.info? 28).map (·.bytes) = some 24 := by kernel_rfl
theorem ty29 : Ty Try.prog 29 (rInt .i64) := Ty.mk_ Try.underlying29 rfl (by kernel_rfl)
theorem z29 : TyZero Try.prog 29 (rInt .i64) (0 : Int) := zr_ty (by kernel_rfl) (zr_int .i64)
theorem by29 : (Try.prog.info? 29).map (·.bytes) = some 8 := by kernel_rfl
theorem ty43 : Ty Try.prog 43 (rSlice (rSlice (rInt .i64))) := Ty.mk_ Try.underlying43 rfl (by kernel_rfl)
theorem z43 : TyZero Try.prog 43 (rSlice (rSlice (rInt .i64))) ([] : (List (List Int))) := zr_ty (by kernel_rfl) (zr_slice)
theorem by43 : (Try.prog.info? 43).map (·.bytes) = some 24 := by kernel_rfl
theorem ty46 : Ty Try.prog 46 (rSlice (rInt .i64)) := Ty.mk_ Try.underlying46 rfl (by kernel_rfl)
theorem z46 : TyZero Try.prog 46 (rSlice (rInt .i64)) ([] : (List Int)) := zr_ty (by kernel_rfl) (zr_slice)
theorem by46 : (Try.prog.info? 46).map (·.bytes) = some 24 := by kernel_rfl
theorem ty61 : Ty Try.prog 61 (rSlice rBool) := Ty.mk_ Try.underlying61 rfl (by kernel_rfl)
theorem z61 : TyZero Try.prog 61 (rSlice rBool) ([] : (List Bool)) := zr_ty (by kernel_rfl) (zr_slice)
theorem by61 : (Try.prog.info? 61).map (·.bytes) = some 24 := by kernel_rfl
end Go.Proofs.Ytemcooggkcneiaa
