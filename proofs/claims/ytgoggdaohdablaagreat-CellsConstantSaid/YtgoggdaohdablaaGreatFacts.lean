import Derived.Test.YtgoggdaohdablaaGreatEng11
import Derived.Test.YtgoggdaohdablaaGreatProg
import Derived.KernelRfl
namespace Go.Proofs.YtgoggdaohdablaaGreat
open Go.Eng
set_option maxRecDepth 100000
theorem mo : Tryz.prog.follows .mixedOrders = true := by kernel_rfl

theorem ty3 : Ty Tryz.prog 3 (rInt .i64) := Ty.mk_ Tryz.underlying3 rfl (by kernel_rfl)
theorem z3 : TyZero Tryz.prog 3 (rInt .i64) (0 : Int) := zr_ty (by kernel_rfl) (zr_int .i64)
theorem by3 : (Tryz.prog.info? 3).map (·.bytes) = some 8 := by kernel_rfl
theorem ty4 : Ty Tryz.prog 4 rBool := Ty.mk_ Tryz.underlying4 rfl (by kernel_rfl)
theorem z4 : TyZero Tryz.prog 4 rBool (false : Bool) := zr_ty (by kernel_rfl) (zr_bool)
theorem by4 : (Tryz.prog.info? 4).map (·.bytes) = some 1 := by kernel_rfl
abbrev TNode := Int × Int
@[reducible] def rNode : RT TNode := (rPair (rInt .i64) (rInt .i64))
theorem ty55 : Ty Tryz.prog 55 rNode := Ty.mk_ Tryz.underlying55 rfl (by kernel_rfl)
theorem z55 : TyZero Tryz.prog 55 rNode ((0, 0) : TNode) := zr_ty (by kernel_rfl) ((zr_pair (zr_int .i64) (zr_int .i64)))
theorem by55 : (Tryz.prog.info? 55).map (·.bytes) = some 16 := by kernel_rfl
theorem pl55 : plcs Tryz.prog 55 = some [(0, 1), (1, 1)] := by kernel_rfl
theorem fld55_0 : fld Tryz.prog 55 0 = some 0 := by kernel_rfl
theorem ln55_0 : Lens rNode 0 (rInt .i64) (fun d => d.1) (fun d x => (x, d.2)) := (Lens.fst (Lens.id (rInt .i64)))
theorem fld55_1 : fld Tryz.prog 55 1 = some 1 := by kernel_rfl
theorem ln55_1 : Lens rNode 1 (rInt .i64) (fun d => d.2) (fun d x => (d.1, x)) := (Lens.snd (Lens.id (rInt .i64)) rfl)
theorem eq55 : EqTy Tryz.prog 55 rNode 2 := eq_struct rfl (by kernel_rfl) (fs := [⟨ "Op", 3, 0, false, "", "", 0⟩, ⟨ "N", 3, 1, false, "", "", 8⟩]) (by kernel_rfl) (by kernel_rfl) (eqf_cons (by simp) rfl ty3 (eq_mono (eq_int Tryz.underlying3) (by omega)) (eqf_last (by simp) rfl ty3 (eq_mono (eq_int Tryz.underlying3) (by omega))) rfl)
theorem eg55 : Tryz.prog.eqGuardType Tryz.prog.depth 55 = false := by kernel_rfl
theorem ty56 : Ty Tryz.prog 56 rNode := Ty.mk_ Tryz.underlying56 rfl (by kernel_rfl)
theorem z56 : TyZero Tryz.prog 56 rNode ((0, 0) : TNode) := zr_ty (by kernel_rfl) ((zr_pair (zr_int .i64) (zr_int .i64)))
theorem by56 : (Tryz.prog.info? 56).map (·.bytes) = some 16 := by kernel_rfl
theorem pl56 : plcs Tryz.prog 56 = some [(0, 1), (1, 1)] := by kernel_rfl
theorem fld56_0 : fld Tryz.prog 56 0 = some 0 := by kernel_rfl
theorem ln56_0 : Lens rNode 0 (rInt .i64) (fun d => d.1) (fun d x => (x, d.2)) := (Lens.fst (Lens.id (rInt .i64)))
theorem fld56_1 : fld Tryz.prog 56 1 = some 1 := by kernel_rfl
theorem ln56_1 : Lens rNode 1 (rInt .i64) (fun d => d.2) (fun d x => (d.1, x)) := (Lens.snd (Lens.id (rInt .i64)) rfl)
theorem eq56 : EqTy Tryz.prog 56 rNode 2 := eq_struct rfl (by kernel_rfl) (fs := [⟨ "Op", 3, 0, false, "", "", 0⟩, ⟨ "N", 3, 1, false, "", "", 8⟩]) (by kernel_rfl) (by kernel_rfl) (eqf_cons (by simp) rfl ty3 (eq_mono (eq_int Tryz.underlying3) (by omega)) (eqf_last (by simp) rfl ty3 (eq_mono (eq_int Tryz.underlying3) (by omega))) rfl)
theorem eg56 : Tryz.prog.eqGuardType Tryz.prog.depth 56 = false := by kernel_rfl
theorem ty22 : Ty Tryz.prog 22 (rSlice rNode) := Ty.mk_ Tryz.underlying22 rfl (by kernel_rfl)
theorem z22 : TyZero Tryz.prog 22 (rSlice rNode) ([] : (List TNode)) := zr_ty (by kernel_rfl) (zr_slice)
theorem by22 : (Tryz.prog.info? 22).map (·.bytes) = some 24 := by kernel_rfl
theorem ty9 : Ty Tryz.prog 9 rStr := Ty.mk_ Tryz.underlying9 rfl (by kernel_rfl)
theorem z9 : TyZero Tryz.prog 9 rStr ([] : (List UInt8)) := zr_ty (by kernel_rfl) (zr_str)
theorem by9 : (Tryz.prog.info? 9).map (·.bytes) = some 16 := by kernel_rfl
theorem ty50 : Ty Tryz.prog 50 (rSlice rStr) := Ty.mk_ Tryz.underlying50 rfl (by kernel_rfl)
theorem z50 : TyZero Tryz.prog 50 (rSlice rStr) ([] : (List (List UInt8))) := zr_ty (by kernel_rfl) (zr_slice)
theorem by50 : (Tryz.prog.info? 50).map (·.bytes) = some 24 := by kernel_rfl
abbrev TEnum := (List UInt8) × (List (List UInt8))
@[reducible] def rEnum : RT TEnum := (rPair rStr (rSlice rStr))
theorem ty51 : Ty Tryz.prog 51 rEnum := Ty.mk_ Tryz.underlying51 rfl (by kernel_rfl)
theorem z51 : TyZero Tryz.prog 51 rEnum (([], []) : TEnum) := zr_ty (by kernel_rfl) ((zr_pair (zr_str) (zr_slice)))
theorem by51 : (Tryz.prog.info? 51).map (·.bytes) = some 40 := by kernel_rfl
theorem pl51 : plcs Tryz.prog 51 = some [(0, 1), (1, 1)] := by kernel_rfl
theorem fld51_0 : fld Tryz.prog 51 0 = some 0 := by kernel_rfl
theorem ln51_0 : Lens rEnum 0 rStr (fun d => d.1) (fun d x => (x, d.2)) := (Lens.fst (Lens.id rStr))
theorem fld51_1 : fld Tryz.prog 51 1 = some 1 := by kernel_rfl
theorem ln51_1 : Lens rEnum 1 (rSlice rStr) (fun d => d.2) (fun d x => (d.1, x)) := (Lens.snd (Lens.id (rSlice rStr)) rfl)
theorem ty52 : Ty Tryz.prog 52 rEnum := Ty.mk_ Tryz.underlying52 rfl (by kernel_rfl)
theorem z52 : TyZero Tryz.prog 52 rEnum (([], []) : TEnum) := zr_ty (by kernel_rfl) ((zr_pair (zr_str) (zr_slice)))
theorem by52 : (Tryz.prog.info? 52).map (·.bytes) = some 40 := by kernel_rfl
theorem pl52 : plcs Tryz.prog 52 = some [(0, 1), (1, 1)] := by kernel_rfl
theorem fld52_0 : fld Tryz.prog 52 0 = some 0 := by kernel_rfl
theorem ln52_0 : Lens rEnum 0 rStr (fun d => d.1) (fun d x => (x, d.2)) := (Lens.fst (Lens.id rStr))
theorem fld52_1 : fld Tryz.prog 52 1 = some 1 := by kernel_rfl
theorem ln52_1 : Lens rEnum 1 (rSlice rStr) (fun d => d.2) (fun d x => (d.1, x)) := (Lens.snd (Lens.id (rSlice rStr)) rfl)
theorem ty23 : Ty Tryz.prog 23 (rSlice rEnum) := Ty.mk_ Tryz.underlying23 rfl (by kernel_rfl)
theorem z23 : TyZero Tryz.prog 23 (rSlice rEnum) ([] : (List TEnum)) := zr_ty (by kernel_rfl) (zr_slice)
theorem by23 : (Tryz.prog.info? 23).map (·.bytes) = some 24 := by kernel_rfl
abbrev TType := Int × Int
@[reducible] def rType : RT TType := (rPair (rInt .i64) (rInt .i64))
theorem ty36 : Ty Tryz.prog 36 rType := Ty.mk_ Tryz.underlying36 rfl (by kernel_rfl)
theorem z36 : TyZero Tryz.prog 36 rType ((0, 0) : TType) := zr_ty (by kernel_rfl) ((zr_pair (zr_int .i64) (zr_int .i64)))
theorem by36 : (Tryz.prog.info? 36).map (·.bytes) = some 16 := by kernel_rfl
theorem pl36 : plcs Tryz.prog 36 = some [(0, 1), (1, 1)] := by kernel_rfl
theorem fld36_0 : fld Tryz.prog 36 0 = some 0 := by kernel_rfl
theorem ln36_0 : Lens rType 0 (rInt .i64) (fun d => d.1) (fun d x => (x, d.2)) := (Lens.fst (Lens.id (rInt .i64)))
theorem fld36_1 : fld Tryz.prog 36 1 = some 1 := by kernel_rfl
theorem ln36_1 : Lens rType 1 (rInt .i64) (fun d => d.2) (fun d x => (d.1, x)) := (Lens.snd (Lens.id (rInt .i64)) rfl)
theorem eq36 : EqTy Tryz.prog 36 rType 2 := eq_struct rfl (by kernel_rfl) (fs := [⟨ "Kind", 3, 0, false, "", "", 0⟩, ⟨ "Enum", 3, 1, false, "", "", 8⟩]) (by kernel_rfl) (by kernel_rfl) (eqf_cons (by simp) rfl ty3 (eq_mono (eq_int Tryz.underlying3) (by omega)) (eqf_last (by simp) rfl ty3 (eq_mono (eq_int Tryz.underlying3) (by omega))) rfl)
theorem eg36 : Tryz.prog.eqGuardType Tryz.prog.depth 36 = false := by kernel_rfl
theorem ty37 : Ty Tryz.prog 37 rType := Ty.mk_ Tryz.underlying37 rfl (by kernel_rfl)
theorem z37 : TyZero Tryz.prog 37 rType ((0, 0) : TType) := zr_ty (by kernel_rfl) ((zr_pair (zr_int .i64) (zr_int .i64)))
theorem by37 : (Tryz.prog.info? 37).map (·.bytes) = some 16 := by kernel_rfl
theorem pl37 : plcs Tryz.prog 37 = some [(0, 1), (1, 1)] := by kernel_rfl
theorem fld37_0 : fld Tryz.prog 37 0 = some 0 := by kernel_rfl
theorem ln37_0 : Lens rType 0 (rInt .i64) (fun d => d.1) (fun d x => (x, d.2)) := (Lens.fst (Lens.id (rInt .i64)))
theorem fld37_1 : fld Tryz.prog 37 1 = some 1 := by kernel_rfl
theorem ln37_1 : Lens rType 1 (rInt .i64) (fun d => d.2) (fun d x => (d.1, x)) := (Lens.snd (Lens.id (rInt .i64)) rfl)
theorem eq37 : EqTy Tryz.prog 37 rType 2 := eq_struct rfl (by kernel_rfl) (fs := [⟨ "Kind", 3, 0, false, "", "", 0⟩, ⟨ "Enum", 3, 1, false, "", "", 8⟩]) (by kernel_rfl) (by kernel_rfl) (eqf_cons (by simp) rfl ty3 (eq_mono (eq_int Tryz.underlying3) (by omega)) (eqf_last (by simp) rfl ty3 (eq_mono (eq_int Tryz.underlying3) (by omega))) rfl)
theorem eg37 : Tryz.prog.eqGuardType Tryz.prog.depth 37 = false := by kernel_rfl
abbrev TDateRange := Int × Int
@[reducible] def rDateRange : RT TDateRange := (rPair (rInt .i64) (rInt .i64))
theorem ty139 : Ty Tryz.prog 139 rDateRange := Ty.mk_ Tryz.underlying139 rfl (by kernel_rfl)
theorem z139 : TyZero Tryz.prog 139 rDateRange ((0, 0) : TDateRange) := zr_ty (by kernel_rfl) ((zr_pair (zr_int .i64) (zr_int .i64)))
theorem by139 : (Tryz.prog.info? 139).map (·.bytes) = some 16 := by kernel_rfl
theorem pl139 : plcs Tryz.prog 139 = some [(0, 1), (1, 1)] := by kernel_rfl
theorem fld139_0 : fld Tryz.prog 139 0 = some 0 := by kernel_rfl
theorem ln139_0 : Lens rDateRange 0 (rInt .i64) (fun d => d.1) (fun d x => (x, d.2)) := (Lens.fst (Lens.id (rInt .i64)))
theorem fld139_1 : fld Tryz.prog 139 1 = some 1 := by kernel_rfl
theorem ln139_1 : Lens rDateRange 1 (rInt .i64) (fun d => d.2) (fun d x => (d.1, x)) := (Lens.snd (Lens.id (rInt .i64)) rfl)
theorem eq139 : EqTy Tryz.prog 139 rDateRange 2 := eq_struct rfl (by kernel_rfl) (fs := [⟨ "From", 3, 0, false, "", "", 0⟩, ⟨ "To", 3, 1, false, "", "", 8⟩]) (by kernel_rfl) (by kernel_rfl) (eqf_cons (by simp) rfl ty3 (eq_mono (eq_int Tryz.underlying3) (by omega)) (eqf_last (by simp) rfl ty3 (eq_mono (eq_int Tryz.underlying3) (by omega))) rfl)
theorem eg139 : Tryz.prog.eqGuardType Tryz.prog.depth 139 = false := by kernel_rfl
theorem ty140 : Ty Tryz.prog 140 rDateRange := Ty.mk_ Tryz.underlying140 rfl (by kernel_rfl)
theorem z140 : TyZero Tryz.prog 140 rDateRange ((0, 0) : TDateRange) := zr_ty (by kernel_rfl) ((zr_pair (zr_int .i64) (zr_int .i64)))
theorem by140 : (Tryz.prog.info? 140).map (·.bytes) = some 16 := by kernel_rfl
theorem pl140 : plcs Tryz.prog 140 = some [(0, 1), (1, 1)] := by kernel_rfl
theorem fld140_0 : fld Tryz.prog 140 0 = some 0 := by kernel_rfl
theorem ln140_0 : Lens rDateRange 0 (rInt .i64) (fun d => d.1) (fun d x => (x, d.2)) := (Lens.fst (Lens.id (rInt .i64)))
theorem fld140_1 : fld Tryz.prog 140 1 = some 1 := by kernel_rfl
theorem ln140_1 : Lens rDateRange 1 (rInt .i64) (fun d => d.2) (fun d x => (d.1, x)) := (Lens.snd (Lens.id (rInt .i64)) rfl)
theorem eq140 : EqTy Tryz.prog 140 rDateRange 2 := eq_struct rfl (by kernel_rfl) (fs := [⟨ "From", 3, 0, false, "", "", 0⟩, ⟨ "To", 3, 1, false, "", "", 8⟩]) (by kernel_rfl) (by kernel_rfl) (eqf_cons (by simp) rfl ty3 (eq_mono (eq_int Tryz.underlying3) (by omega)) (eqf_last (by simp) rfl ty3 (eq_mono (eq_int Tryz.underlying3) (by omega))) rfl)
theorem eg140 : Tryz.prog.eqGuardType Tryz.prog.depth 140 = false := by kernel_rfl
abbrev TRow := TDateRange × Int × Int × Int
@[reducible] def rRow : RT TRow := (rPair rDateRange (rPair (rInt .i64) (rPair (rInt .i64) (rInt .i64))))
theorem ty141 : Ty Tryz.prog 141 rRow := Ty.mk_ Tryz.underlying141 rfl (by kernel_rfl)
theorem z141 : TyZero Tryz.prog 141 rRow (((0, 0), (0, (0, 0))) : TRow) := zr_ty (by kernel_rfl) ((zr_pair ((zr_pair (zr_int .i64) (zr_int .i64))) ((zr_pair (zr_int .i64) ((zr_pair (zr_int .i64) (zr_int .i64)))))))
theorem by141 : (Tryz.prog.info? 141).map (·.bytes) = some 40 := by kernel_rfl
theorem pl141 : plcs Tryz.prog 141 = some [(0, 2), (2, 1), (3, 1), (4, 1)] := by kernel_rfl
theorem fld141_0 : fld Tryz.prog 141 0 = some 0 := by kernel_rfl
theorem ln141_0 : Lens rRow 0 rDateRange (fun d => d.1) (fun d x => (x, d.2)) := (Lens.fst (Lens.id rDateRange))
theorem fld141_1 : fld Tryz.prog 141 1 = some 2 := by kernel_rfl
theorem ln141_1 : Lens rRow 2 (rInt .i64) (fun d => d.2.1) (fun d x => (d.1, (x, d.2.2))) := (Lens.snd (Lens.fst (Lens.id (rInt .i64))) rfl)
theorem fld141_2 : fld Tryz.prog 141 2 = some 3 := by kernel_rfl
theorem ln141_2 : Lens rRow 3 (rInt .i64) (fun d => d.2.2.1) (fun d x => (d.1, (d.2.1, (x, d.2.2.2)))) := (Lens.snd (Lens.snd (Lens.fst (Lens.id (rInt .i64))) rfl) rfl)
theorem fld141_3 : fld Tryz.prog 141 3 = some 4 := by kernel_rfl
theorem ln141_3 : Lens rRow 4 (rInt .i64) (fun d => d.2.2.2) (fun d x => (d.1, (d.2.1, (d.2.2.1, x)))) := (Lens.snd (Lens.snd (Lens.snd (Lens.id (rInt .i64)) rfl) rfl) rfl)
theorem eq141 : EqTy Tryz.prog 141 rRow 3 := eq_struct rfl (by kernel_rfl) (fs := [⟨ "Valid", 140, 0, false, "", "", 0⟩, ⟨ "Lo", 3, 2, false, "", "", 16⟩, ⟨ "Hi", 3, 3, false, "", "", 24⟩, ⟨ "N", 3, 4, false, "", "", 32⟩]) (by kernel_rfl) (by kernel_rfl) (eqf_cons (by simp) rfl ty140 (eq_mono eq140 (by omega)) (eqf_cons (by simp) rfl ty3 (eq_mono (eq_int Tryz.underlying3) (by omega)) (eqf_cons (by simp) rfl ty3 (eq_mono (eq_int Tryz.underlying3) (by omega)) (eqf_last (by simp) rfl ty3 (eq_mono (eq_int Tryz.underlying3) (by omega))) rfl) rfl) rfl)
theorem eg141 : Tryz.prog.eqGuardType Tryz.prog.depth 141 = false := by kernel_rfl
theorem ty142 : Ty Tryz.prog 142 rRow := Ty.mk_ Tryz.underlying142 rfl (by kernel_rfl)
theorem z142 : TyZero Tryz.prog 142 rRow (((0, 0), (0, (0, 0))) : TRow) := zr_ty (by kernel_rfl) ((zr_pair ((zr_pair (zr_int .i64) (zr_int .i64))) ((zr_pair (zr_int .i64) ((zr_pair (zr_int .i64) (zr_int .i64)))))))
theorem by142 : (Tryz.prog.info? 142).map (·.bytes) = some 40 := by kernel_rfl
theorem pl142 : plcs Tryz.prog 142 = some [(0, 2), (2, 1), (3, 1), (4, 1)] := by kernel_rfl
theorem fld142_0 : fld Tryz.prog 142 0 = some 0 := by kernel_rfl
theorem ln142_0 : Lens rRow 0 rDateRange (fun d => d.1) (fun d x => (x, d.2)) := (Lens.fst (Lens.id rDateRange))
theorem fld142_1 : fld Tryz.prog 142 1 = some 2 := by kernel_rfl
theorem ln142_1 : Lens rRow 2 (rInt .i64) (fun d => d.2.1) (fun d x => (d.1, (x, d.2.2))) := (Lens.snd (Lens.fst (Lens.id (rInt .i64))) rfl)
theorem fld142_2 : fld Tryz.prog 142 2 = some 3 := by kernel_rfl
theorem ln142_2 : Lens rRow 3 (rInt .i64) (fun d => d.2.2.1) (fun d x => (d.1, (d.2.1, (x, d.2.2.2)))) := (Lens.snd (Lens.snd (Lens.fst (Lens.id (rInt .i64))) rfl) rfl)
theorem fld142_3 : fld Tryz.prog 142 3 = some 4 := by kernel_rfl
theorem ln142_3 : Lens rRow 4 (rInt .i64) (fun d => d.2.2.2) (fun d x => (d.1, (d.2.1, (d.2.2.1, x)))) := (Lens.snd (Lens.snd (Lens.snd (Lens.id (rInt .i64)) rfl) rfl) rfl)
theorem eq142 : EqTy Tryz.prog 142 rRow 3 := eq_struct rfl (by kernel_rfl) (fs := [⟨ "Valid", 140, 0, false, "", "", 0⟩, ⟨ "Lo", 3, 2, false, "", "", 16⟩, ⟨ "Hi", 3, 3, false, "", "", 24⟩, ⟨ "N", 3, 4, false, "", "", 32⟩]) (by kernel_rfl) (by kernel_rfl) (eqf_cons (by simp) rfl ty140 (eq_mono eq140 (by omega)) (eqf_cons (by simp) rfl ty3 (eq_mono (eq_int Tryz.underlying3) (by omega)) (eqf_cons (by simp) rfl ty3 (eq_mono (eq_int Tryz.underlying3) (by omega)) (eqf_last (by simp) rfl ty3 (eq_mono (eq_int Tryz.underlying3) (by omega))) rfl) rfl) rfl)
theorem eg142 : Tryz.prog.eqGuardType Tryz.prog.depth 142 = false := by kernel_rfl
theorem ty112 : Ty Tryz.prog 112 (rSlice rRow) := Ty.mk_ Tryz.underlying112 rfl (by kernel_rfl)
theorem z112 : TyZero Tryz.prog 112 (rSlice rRow) ([] : (List TRow)) := zr_ty (by kernel_rfl) (zr_slice)
theorem by112 : (Tryz.prog.info? 112).map (·.bytes) = some 24 := by kernel_rfl
abbrev TTable := (List UInt8) × TType × TType × (List TRow)
@[reducible] def rTable : RT TTable := (rPair rStr (rPair rType (rPair rType (rSlice rRow))))
theorem ty113 : Ty Tryz.prog 113 rTable := Ty.mk_ Tryz.underlying113 rfl (by kernel_rfl)
theorem z113 : TyZero Tryz.prog 113 rTable (([], ((0, 0), ((0, 0), []))) : TTable) := zr_ty (by kernel_rfl) ((zr_pair (zr_str) ((zr_pair ((zr_pair (zr_int .i64) (zr_int .i64))) ((zr_pair ((zr_pair (zr_int .i64) (zr_int .i64))) (zr_slice)))))))
theorem by113 : (Tryz.prog.info? 113).map (·.bytes) = some 72 := by kernel_rfl
theorem pl113 : plcs Tryz.prog 113 = some [(0, 1), (1, 2), (3, 2), (5, 1)] := by kernel_rfl
theorem fld113_0 : fld Tryz.prog 113 0 = some 0 := by kernel_rfl
theorem ln113_0 : Lens rTable 0 rStr (fun d => d.1) (fun d x => (x, d.2)) := (Lens.fst (Lens.id rStr))
theorem fld113_1 : fld Tryz.prog 113 1 = some 1 := by kernel_rfl
theorem ln113_1 : Lens rTable 1 rType (fun d => d.2.1) (fun d x => (d.1, (x, d.2.2))) := (Lens.snd (Lens.fst (Lens.id rType)) rfl)
theorem fld113_2 : fld Tryz.prog 113 2 = some 3 := by kernel_rfl
theorem ln113_2 : Lens rTable 3 rType (fun d => d.2.2.1) (fun d x => (d.1, (d.2.1, (x, d.2.2.2)))) := (Lens.snd (Lens.snd (Lens.fst (Lens.id rType)) rfl) rfl)
theorem fld113_3 : fld Tryz.prog 113 3 = some 5 := by kernel_rfl
theorem ln113_3 : Lens rTable 5 (rSlice rRow) (fun d => d.2.2.2) (fun d x => (d.1, (d.2.1, (d.2.2.1, x)))) := (Lens.snd (Lens.snd (Lens.snd (Lens.id (rSlice rRow)) rfl) rfl) rfl)
theorem ty114 : Ty Tryz.prog 114 rTable := Ty.mk_ Tryz.underlying114 rfl (by kernel_rfl)
theorem z114 : TyZero Tryz.prog 114 rTable (([], ((0, 0), ((0, 0), []))) : TTable) := zr_ty (by kernel_rfl) ((zr_pair (zr_str) ((zr_pair ((zr_pair (zr_int .i64) (zr_int .i64))) ((zr_pair ((zr_pair (zr_int .i64) (zr_int .i64))) (zr_slice)))))))
theorem by114 : (Tryz.prog.info? 114).map (·.bytes) = some 72 := by kernel_rfl
theorem pl114 : plcs Tryz.prog 114 = some [(0, 1), (1, 2), (3, 2), (5, 1)] := by kernel_rfl
theorem fld114_0 : fld Tryz.prog 114 0 = some 0 := by kernel_rfl
theorem ln114_0 : Lens rTable 0 rStr (fun d => d.1) (fun d x => (x, d.2)) := (Lens.fst (Lens.id rStr))
theorem fld114_1 : fld Tryz.prog 114 1 = some 1 := by kernel_rfl
theorem ln114_1 : Lens rTable 1 rType (fun d => d.2.1) (fun d x => (d.1, (x, d.2.2))) := (Lens.snd (Lens.fst (Lens.id rType)) rfl)
theorem fld114_2 : fld Tryz.prog 114 2 = some 3 := by kernel_rfl
theorem ln114_2 : Lens rTable 3 rType (fun d => d.2.2.1) (fun d x => (d.1, (d.2.1, (x, d.2.2.2)))) := (Lens.snd (Lens.snd (Lens.fst (Lens.id rType)) rfl) rfl)
theorem fld114_3 : fld Tryz.prog 114 3 = some 5 := by kernel_rfl
theorem ln114_3 : Lens rTable 5 (rSlice rRow) (fun d => d.2.2.2) (fun d x => (d.1, (d.2.1, (d.2.2.1, x)))) := (Lens.snd (Lens.snd (Lens.snd (Lens.id (rSlice rRow)) rfl) rfl) rfl)
theorem ty24 : Ty Tryz.prog 24 (rSlice rTable) := Ty.mk_ Tryz.underlying24 rfl (by kernel_rfl)
theorem z24 : TyZero Tryz.prog 24 (rSlice rTable) ([] : (List TTable)) := zr_ty (by kernel_rfl) (zr_slice)
theorem by24 : (Tryz.prog.info? 24).map (·.bytes) = some 24 := by kernel_rfl
theorem ty25 : Ty Tryz.prog 25 (rSlice rType) := Ty.mk_ Tryz.underlying25 rfl (by kernel_rfl)
theorem z25 : TyZero Tryz.prog 25 (rSlice rType) ([] : (List TType)) := zr_ty (by kernel_rfl) (zr_slice)
theorem by25 : (Tryz.prog.info? 25).map (·.bytes) = some 24 := by kernel_rfl
abbrev TSignature := (List TEnum) × (List TTable) × (List TType) × (List TType) × (List TType) × Bool
@[reducible] def rSignature : RT TSignature := (rPair (rSlice rEnum) (rPair (rSlice rTable) (rPair (rSlice rType) (rPair (rSlice rType) (rPair (rSlice rType) rBool)))))
theorem ty26 : Ty Tryz.prog 26 rSignature := Ty.mk_ Tryz.underlying26 rfl (by kernel_rfl)
theorem z26 : TyZero Tryz.prog 26 rSignature (([], ([], ([], ([], ([], false))))) : TSignature) := zr_ty (by kernel_rfl) ((zr_pair (zr_slice) ((zr_pair (zr_slice) ((zr_pair (zr_slice) ((zr_pair (zr_slice) ((zr_pair (zr_slice) (zr_bool)))))))))))
theorem by26 : (Tryz.prog.info? 26).map (·.bytes) = some 128 := by kernel_rfl
theorem pl26 : plcs Tryz.prog 26 = some [(0, 1), (1, 1), (2, 1), (3, 1), (4, 1), (5, 1)] := by kernel_rfl
theorem fld26_0 : fld Tryz.prog 26 0 = some 0 := by kernel_rfl
theorem ln26_0 : Lens rSignature 0 (rSlice rEnum) (fun d => d.1) (fun d x => (x, d.2)) := (Lens.fst (Lens.id (rSlice rEnum)))
theorem fld26_1 : fld Tryz.prog 26 1 = some 1 := by kernel_rfl
theorem ln26_1 : Lens rSignature 1 (rSlice rTable) (fun d => d.2.1) (fun d x => (d.1, (x, d.2.2))) := (Lens.snd (Lens.fst (Lens.id (rSlice rTable))) rfl)
theorem fld26_2 : fld Tryz.prog 26 2 = some 2 := by kernel_rfl
theorem ln26_2 : Lens rSignature 2 (rSlice rType) (fun d => d.2.2.1) (fun d x => (d.1, (d.2.1, (x, d.2.2.2)))) := (Lens.snd (Lens.snd (Lens.fst (Lens.id (rSlice rType))) rfl) rfl)
theorem fld26_3 : fld Tryz.prog 26 3 = some 3 := by kernel_rfl
theorem ln26_3 : Lens rSignature 3 (rSlice rType) (fun d => d.2.2.2.1) (fun d x => (d.1, (d.2.1, (d.2.2.1, (x, d.2.2.2.2))))) := (Lens.snd (Lens.snd (Lens.snd (Lens.fst (Lens.id (rSlice rType))) rfl) rfl) rfl)
theorem fld26_4 : fld Tryz.prog 26 4 = some 4 := by kernel_rfl
theorem ln26_4 : Lens rSignature 4 (rSlice rType) (fun d => d.2.2.2.2.1) (fun d x => (d.1, (d.2.1, (d.2.2.1, (d.2.2.2.1, (x, d.2.2.2.2.2)))))) := (Lens.snd (Lens.snd (Lens.snd (Lens.snd (Lens.fst (Lens.id (rSlice rType))) rfl) rfl) rfl) rfl)
theorem fld26_5 : fld Tryz.prog 26 5 = some 5 := by kernel_rfl
theorem ln26_5 : Lens rSignature 5 rBool (fun d => d.2.2.2.2.2) (fun d x => (d.1, (d.2.1, (d.2.2.1, (d.2.2.2.1, (d.2.2.2.2.1, x)))))) := (Lens.snd (Lens.snd (Lens.snd (Lens.snd (Lens.snd (Lens.id rBool) rfl) rfl) rfl) rfl) rfl)
theorem ty27 : Ty Tryz.prog 27 rSignature := Ty.mk_ Tryz.underlying27 rfl (by kernel_rfl)
theorem z27 : TyZero Tryz.prog 27 rSignature (([], ([], ([], ([], ([], false))))) : TSignature) := zr_ty (by kernel_rfl) ((zr_pair (zr_slice) ((zr_pair (zr_slice) ((zr_pair (zr_slice) ((zr_pair (zr_slice) ((zr_pair (zr_slice) (zr_bool)))))))))))
theorem by27 : (Tryz.prog.info? 27).map (·.bytes) = some 128 := by kernel_rfl
theorem pl27 : plcs Tryz.prog 27 = some [(0, 1), (1, 1), (2, 1), (3, 1), (4, 1), (5, 1)] := by kernel_rfl
theorem fld27_0 : fld Tryz.prog 27 0 = some 0 := by kernel_rfl
theorem ln27_0 : Lens rSignature 0 (rSlice rEnum) (fun d => d.1) (fun d x => (x, d.2)) := (Lens.fst (Lens.id (rSlice rEnum)))
theorem fld27_1 : fld Tryz.prog 27 1 = some 1 := by kernel_rfl
theorem ln27_1 : Lens rSignature 1 (rSlice rTable) (fun d => d.2.1) (fun d x => (d.1, (x, d.2.2))) := (Lens.snd (Lens.fst (Lens.id (rSlice rTable))) rfl)
theorem fld27_2 : fld Tryz.prog 27 2 = some 2 := by kernel_rfl
theorem ln27_2 : Lens rSignature 2 (rSlice rType) (fun d => d.2.2.1) (fun d x => (d.1, (d.2.1, (x, d.2.2.2)))) := (Lens.snd (Lens.snd (Lens.fst (Lens.id (rSlice rType))) rfl) rfl)
theorem fld27_3 : fld Tryz.prog 27 3 = some 3 := by kernel_rfl
theorem ln27_3 : Lens rSignature 3 (rSlice rType) (fun d => d.2.2.2.1) (fun d x => (d.1, (d.2.1, (d.2.2.1, (x, d.2.2.2.2))))) := (Lens.snd (Lens.snd (Lens.snd (Lens.fst (Lens.id (rSlice rType))) rfl) rfl) rfl)
theorem fld27_4 : fld Tryz.prog 27 4 = some 4 := by kernel_rfl
theorem ln27_4 : Lens rSignature 4 (rSlice rType) (fun d => d.2.2.2.2.1) (fun d x => (d.1, (d.2.1, (d.2.2.1, (d.2.2.2.1, (x, d.2.2.2.2.2)))))) := (Lens.snd (Lens.snd (Lens.snd (Lens.snd (Lens.fst (Lens.id (rSlice rType))) rfl) rfl) rfl) rfl)
theorem fld27_5 : fld Tryz.prog 27 5 = some 5 := by kernel_rfl
theorem ln27_5 : Lens rSignature 5 rBool (fun d => d.2.2.2.2.2) (fun d x => (d.1, (d.2.1, (d.2.2.1, (d.2.2.2.1, (d.2.2.2.2.1, x)))))) := (Lens.snd (Lens.snd (Lens.snd (Lens.snd (Lens.snd (Lens.id rBool) rfl) rfl) rfl) rfl) rfl)
theorem ty28 : Ty Tryz.prog 28 (rSlice (rInt .i64)) := Ty.mk_ Tryz.underlying28 rfl (by kernel_rfl)
theorem z28 : TyZero Tryz.prog 28 (rSlice (rInt .i64)) ([] : (List Int)) := zr_ty (by kernel_rfl) (zr_slice)
theorem by28 : (Tryz.prog.info? 28).map (·.bytes) = some 24 := by kernel_rfl
abbrev TValue := Int × Int × Int
@[reducible] def rValue : RT TValue := (rPair (rInt .i64) (rPair (rInt .i64) (rInt .i64)))
theorem ty41 : Ty Tryz.prog 41 rValue := Ty.mk_ Tryz.underlying41 rfl (by kernel_rfl)
theorem z41 : TyZero Tryz.prog 41 rValue ((0, (0, 0)) : TValue) := zr_ty (by kernel_rfl) ((zr_pair (zr_int .i64) ((zr_pair (zr_int .i64) (zr_int .i64)))))
theorem by41 : (Tryz.prog.info? 41).map (·.bytes) = some 24 := by kernel_rfl
theorem pl41 : plcs Tryz.prog 41 = some [(0, 1), (1, 1), (2, 1)] := by kernel_rfl
theorem fld41_0 : fld Tryz.prog 41 0 = some 0 := by kernel_rfl
theorem ln41_0 : Lens rValue 0 (rInt .i64) (fun d => d.1) (fun d x => (x, d.2)) := (Lens.fst (Lens.id (rInt .i64)))
theorem fld41_1 : fld Tryz.prog 41 1 = some 1 := by kernel_rfl
theorem ln41_1 : Lens rValue 1 (rInt .i64) (fun d => d.2.1) (fun d x => (d.1, (x, d.2.2))) := (Lens.snd (Lens.fst (Lens.id (rInt .i64))) rfl)
theorem fld41_2 : fld Tryz.prog 41 2 = some 2 := by kernel_rfl
theorem ln41_2 : Lens rValue 2 (rInt .i64) (fun d => d.2.2) (fun d x => (d.1, (d.2.1, x))) := (Lens.snd (Lens.snd (Lens.id (rInt .i64)) rfl) rfl)
theorem eq41 : EqTy Tryz.prog 41 rValue 2 := eq_struct rfl (by kernel_rfl) (fs := [⟨ "Kind", 3, 0, false, "", "", 0⟩, ⟨ "Enum", 3, 1, false, "", "", 8⟩, ⟨ "N", 3, 2, false, "", "", 16⟩]) (by kernel_rfl) (by kernel_rfl) (eqf_cons (by simp) rfl ty3 (eq_mono (eq_int Tryz.underlying3) (by omega)) (eqf_cons (by simp) rfl ty3 (eq_mono (eq_int Tryz.underlying3) (by omega)) (eqf_last (by simp) rfl ty3 (eq_mono (eq_int Tryz.underlying3) (by omega))) rfl) rfl)
theorem eg41 : Tryz.prog.eqGuardType Tryz.prog.depth 41 = false := by kernel_rfl
theorem ty42 : Ty Tryz.prog 42 rValue := Ty.mk_ Tryz.underlying42 rfl (by kernel_rfl)
theorem z42 : TyZero Tryz.prog 42 rValue ((0, (0, 0)) : TValue) := zr_ty (by kernel_rfl) ((zr_pair (zr_int .i64) ((zr_pair (zr_int .i64) (zr_int .i64)))))
theorem by42 : (Tryz.prog.info? 42).map (·.bytes) = some 24 := by kernel_rfl
theorem pl42 : plcs Tryz.prog 42 = some [(0, 1), (1, 1), (2, 1)] := by kernel_rfl
theorem fld42_0 : fld Tryz.prog 42 0 = some 0 := by kernel_rfl
theorem ln42_0 : Lens rValue 0 (rInt .i64) (fun d => d.1) (fun d x => (x, d.2)) := (Lens.fst (Lens.id (rInt .i64)))
theorem fld42_1 : fld Tryz.prog 42 1 = some 1 := by kernel_rfl
theorem ln42_1 : Lens rValue 1 (rInt .i64) (fun d => d.2.1) (fun d x => (d.1, (x, d.2.2))) := (Lens.snd (Lens.fst (Lens.id (rInt .i64))) rfl)
theorem fld42_2 : fld Tryz.prog 42 2 = some 2 := by kernel_rfl
theorem ln42_2 : Lens rValue 2 (rInt .i64) (fun d => d.2.2) (fun d x => (d.1, (d.2.1, x))) := (Lens.snd (Lens.snd (Lens.id (rInt .i64)) rfl) rfl)
theorem eq42 : EqTy Tryz.prog 42 rValue 2 := eq_struct rfl (by kernel_rfl) (fs := [⟨ "Kind", 3, 0, false, "", "", 0⟩, ⟨ "Enum", 3, 1, false, "", "", 8⟩, ⟨ "N", 3, 2, false, "", "", 16⟩]) (by kernel_rfl) (by kernel_rfl) (eqf_cons (by simp) rfl ty3 (eq_mono (eq_int Tryz.underlying3) (by omega)) (eqf_cons (by simp) rfl ty3 (eq_mono (eq_int Tryz.underlying3) (by omega)) (eqf_last (by simp) rfl ty3 (eq_mono (eq_int Tryz.underlying3) (by omega))) rfl) rfl)
theorem eg42 : Tryz.prog.eqGuardType Tryz.prog.depth 42 = false := by kernel_rfl
theorem ty32 : Ty Tryz.prog 32 (rSlice rValue) := Ty.mk_ Tryz.underlying32 rfl (by kernel_rfl)
theorem z32 : TyZero Tryz.prog 32 (rSlice rValue) ([] : (List TValue)) := zr_ty (by kernel_rfl) (zr_slice)
theorem by32 : (Tryz.prog.info? 32).map (·.bytes) = some 24 := by kernel_rfl
theorem ty39 : Ty Tryz.prog 39 (rSlice (rSlice rNode)) := Ty.mk_ Tryz.underlying39 rfl (by kernel_rfl)
theorem z39 : TyZero Tryz.prog 39 (rSlice (rSlice rNode)) ([] : (List (List TNode))) := zr_ty (by kernel_rfl) (zr_slice)
theorem by39 : (Tryz.prog.info? 39).map (·.bytes) = some 24 := by kernel_rfl
theorem ty43 : Ty Tryz.prog 43 (rInt .i64) := Ty.mk_ Tryz.underlying43 rfl (by kernel_rfl)
theorem z43 : TyZero Tryz.prog 43 (rInt .i64) (0 : Int) := zr_ty (by kernel_rfl) (zr_int .i64)
theorem by43 : (Tryz.prog.info? 43).map (·.bytes) = some 8 := by kernel_rfl
theorem ty46 : Ty Tryz.prog 46 (rSlice (rSlice rValue)) := Ty.mk_ Tryz.underlying46 rfl (by kernel_rfl)
theorem z46 : TyZero Tryz.prog 46 (rSlice (rSlice rValue)) ([] : (List (List TValue))) := zr_ty (by kernel_rfl) (zr_slice)
theorem by46 : (Tryz.prog.info? 46).map (·.bytes) = some 24 := by kernel_rfl
abbrev TEnv := Int × (List TValue) × (List TValue) × (List (List TValue)) × (List TType) × (List TTable)
@[reducible] def rEnv : RT TEnv := (rPair (rInt .i64) (rPair (rSlice rValue) (rPair (rSlice rValue) (rPair (rSlice (rSlice rValue)) (rPair (rSlice rType) (rSlice rTable))))))
theorem ty47 : Ty Tryz.prog 47 rEnv := Ty.mk_ Tryz.underlying47 rfl (by kernel_rfl)
theorem z47 : TyZero Tryz.prog 47 rEnv ((0, ([], ([], ([], ([], []))))) : TEnv) := zr_ty (by kernel_rfl) ((zr_pair (zr_int .i64) ((zr_pair (zr_slice) ((zr_pair (zr_slice) ((zr_pair (zr_slice) ((zr_pair (zr_slice) (zr_slice)))))))))))
theorem by47 : (Tryz.prog.info? 47).map (·.bytes) = some 128 := by kernel_rfl
theorem pl47 : plcs Tryz.prog 47 = some [(0, 1), (1, 1), (2, 1), (3, 1), (4, 1), (5, 1)] := by kernel_rfl
theorem fld47_0 : fld Tryz.prog 47 0 = some 0 := by kernel_rfl
theorem ln47_0 : Lens rEnv 0 (rInt .i64) (fun d => d.1) (fun d x => (x, d.2)) := (Lens.fst (Lens.id (rInt .i64)))
theorem fld47_1 : fld Tryz.prog 47 1 = some 1 := by kernel_rfl
theorem ln47_1 : Lens rEnv 1 (rSlice rValue) (fun d => d.2.1) (fun d x => (d.1, (x, d.2.2))) := (Lens.snd (Lens.fst (Lens.id (rSlice rValue))) rfl)
theorem fld47_2 : fld Tryz.prog 47 2 = some 2 := by kernel_rfl
theorem ln47_2 : Lens rEnv 2 (rSlice rValue) (fun d => d.2.2.1) (fun d x => (d.1, (d.2.1, (x, d.2.2.2)))) := (Lens.snd (Lens.snd (Lens.fst (Lens.id (rSlice rValue))) rfl) rfl)
theorem fld47_3 : fld Tryz.prog 47 3 = some 3 := by kernel_rfl
theorem ln47_3 : Lens rEnv 3 (rSlice (rSlice rValue)) (fun d => d.2.2.2.1) (fun d x => (d.1, (d.2.1, (d.2.2.1, (x, d.2.2.2.2))))) := (Lens.snd (Lens.snd (Lens.snd (Lens.fst (Lens.id (rSlice (rSlice rValue)))) rfl) rfl) rfl)
theorem fld47_4 : fld Tryz.prog 47 4 = some 4 := by kernel_rfl
theorem ln47_4 : Lens rEnv 4 (rSlice rType) (fun d => d.2.2.2.2.1) (fun d x => (d.1, (d.2.1, (d.2.2.1, (d.2.2.2.1, (x, d.2.2.2.2.2)))))) := (Lens.snd (Lens.snd (Lens.snd (Lens.snd (Lens.fst (Lens.id (rSlice rType))) rfl) rfl) rfl) rfl)
theorem fld47_5 : fld Tryz.prog 47 5 = some 5 := by kernel_rfl
theorem ln47_5 : Lens rEnv 5 (rSlice rTable) (fun d => d.2.2.2.2.2) (fun d x => (d.1, (d.2.1, (d.2.2.1, (d.2.2.2.1, (d.2.2.2.2.1, x)))))) := (Lens.snd (Lens.snd (Lens.snd (Lens.snd (Lens.snd (Lens.id (rSlice rTable)) rfl) rfl) rfl) rfl) rfl)
theorem ty48 : Ty Tryz.prog 48 rEnv := Ty.mk_ Tryz.underlying48 rfl (by kernel_rfl)
theorem z48 : TyZero Tryz.prog 48 rEnv ((0, ([], ([], ([], ([], []))))) : TEnv) := zr_ty (by kernel_rfl) ((zr_pair (zr_int .i64) ((zr_pair (zr_slice) ((zr_pair (zr_slice) ((zr_pair (zr_slice) ((zr_pair (zr_slice) (zr_slice)))))))))))
theorem by48 : (Tryz.prog.info? 48).map (·.bytes) = some 128 := by kernel_rfl
theorem pl48 : plcs Tryz.prog 48 = some [(0, 1), (1, 1), (2, 1), (3, 1), (4, 1), (5, 1)] := by kernel_rfl
theorem fld48_0 : fld Tryz.prog 48 0 = some 0 := by kernel_rfl
theorem ln48_0 : Lens rEnv 0 (rInt .i64) (fun d => d.1) (fun d x => (x, d.2)) := (Lens.fst (Lens.id (rInt .i64)))
theorem fld48_1 : fld Tryz.prog 48 1 = some 1 := by kernel_rfl
theorem ln48_1 : Lens rEnv 1 (rSlice rValue) (fun d => d.2.1) (fun d x => (d.1, (x, d.2.2))) := (Lens.snd (Lens.fst (Lens.id (rSlice rValue))) rfl)
theorem fld48_2 : fld Tryz.prog 48 2 = some 2 := by kernel_rfl
theorem ln48_2 : Lens rEnv 2 (rSlice rValue) (fun d => d.2.2.1) (fun d x => (d.1, (d.2.1, (x, d.2.2.2)))) := (Lens.snd (Lens.snd (Lens.fst (Lens.id (rSlice rValue))) rfl) rfl)
theorem fld48_3 : fld Tryz.prog 48 3 = some 3 := by kernel_rfl
theorem ln48_3 : Lens rEnv 3 (rSlice (rSlice rValue)) (fun d => d.2.2.2.1) (fun d x => (d.1, (d.2.1, (d.2.2.1, (x, d.2.2.2.2))))) := (Lens.snd (Lens.snd (Lens.snd (Lens.fst (Lens.id (rSlice (rSlice rValue)))) rfl) rfl) rfl)
theorem fld48_4 : fld Tryz.prog 48 4 = some 4 := by kernel_rfl
theorem ln48_4 : Lens rEnv 4 (rSlice rType) (fun d => d.2.2.2.2.1) (fun d x => (d.1, (d.2.1, (d.2.2.1, (d.2.2.2.1, (x, d.2.2.2.2.2)))))) := (Lens.snd (Lens.snd (Lens.snd (Lens.snd (Lens.fst (Lens.id (rSlice rType))) rfl) rfl) rfl) rfl)
theorem fld48_5 : fld Tryz.prog 48 5 = some 5 := by kernel_rfl
theorem ln48_5 : Lens rEnv 5 (rSlice rTable) (fun d => d.2.2.2.2.2) (fun d x => (d.1, (d.2.1, (d.2.2.1, (d.2.2.2.1, (d.2.2.2.2.1, x)))))) := (Lens.snd (Lens.snd (Lens.snd (Lens.snd (Lens.snd (Lens.id (rSlice rTable)) rfl) rfl) rfl) rfl) rfl)
theorem ty62 : Ty Tryz.prog 62 (rSlice (rSlice (rInt .i64))) := Ty.mk_ Tryz.underlying62 rfl (by kernel_rfl)
theorem z62 : TyZero Tryz.prog 62 (rSlice (rSlice (rInt .i64))) ([] : (List (List Int))) := zr_ty (by kernel_rfl) (zr_slice)
theorem by62 : (Tryz.prog.info? 62).map (·.bytes) = some 24 := by kernel_rfl
theorem ty105 : Ty Tryz.prog 105 (rInt .u64) := Ty.mk_ Tryz.underlying105 rfl (by kernel_rfl)
theorem z105 : TyZero Tryz.prog 105 (rInt .u64) (0 : Int) := zr_ty (by kernel_rfl) (zr_int .u64)
theorem by105 : (Tryz.prog.info? 105).map (·.bytes) = some 8 := by kernel_rfl
end Go.Proofs.YtgoggdaohdablaaGreat
