import Derived.Test.YthfhekohlmboiaaEng11
import Derived.Test.YthfhekohlmboiaaProg
import Derived.KernelRfl
namespace Go.Proofs.Ythfhekohlmboiaa
open Go.Eng
set_option maxRecDepth 100000
theorem mo : Try.prog.follows .mixedOrders = true := by kernel_rfl

theorem ty3 : Ty Try.prog 3 (rInt .i64) := Ty.mk_ Try.underlying3 rfl (by kernel_rfl)
theorem z3 : TyZero Try.prog 3 (rInt .i64) (0 : Int) := zr_ty (by kernel_rfl) (zr_int .i64)
theorem by3 : (Try.prog.info? 3).map (·.bytes) = some 8 := by kernel_rfl
theorem ty4 : Ty Try.prog 4 rBool := Ty.mk_ Try.underlying4 rfl (by kernel_rfl)
theorem z4 : TyZero Try.prog 4 rBool (false : Bool) := zr_ty (by kernel_rfl) (zr_bool)
theorem by4 : (Try.prog.info? 4).map (·.bytes) = some 1 := by kernel_rfl
theorem ty9 : Ty Try.prog 9 rStr := Ty.mk_ Try.underlying9 rfl (by kernel_rfl)
theorem z9 : TyZero Try.prog 9 rStr ([] : (List UInt8)) := zr_ty (by kernel_rfl) (zr_str)
theorem by9 : (Try.prog.info? 9).map (·.bytes) = some 16 := by kernel_rfl
theorem ty59 : Ty Try.prog 59 (rSlice rStr) := Ty.mk_ Try.underlying59 rfl (by kernel_rfl)
theorem z59 : TyZero Try.prog 59 (rSlice rStr) ([] : (List (List UInt8))) := zr_ty (by kernel_rfl) (zr_slice)
theorem by59 : (Try.prog.info? 59).map (·.bytes) = some 24 := by kernel_rfl
abbrev TEnum := (List UInt8) × (List (List UInt8))
@[reducible] def rEnum : RT TEnum := (rPair rStr (rSlice rStr))
theorem ty60 : Ty Try.prog 60 rEnum := Ty.mk_ Try.underlying60 rfl (by kernel_rfl)
theorem z60 : TyZero Try.prog 60 rEnum (([], []) : TEnum) := zr_ty (by kernel_rfl) ((zr_pair (zr_str) (zr_slice)))
theorem by60 : (Try.prog.info? 60).map (·.bytes) = some 40 := by kernel_rfl
theorem pl60 : plcs Try.prog 60 = some [(0, 1), (1, 1)] := by kernel_rfl
theorem fld60_0 : fld Try.prog 60 0 = some 0 := by kernel_rfl
theorem ln60_0 : Lens rEnum 0 rStr (fun d => d.1) (fun d x => (x, d.2)) := (Lens.fst (Lens.id rStr))
theorem fld60_1 : fld Try.prog 60 1 = some 1 := by kernel_rfl
theorem ln60_1 : Lens rEnum 1 (rSlice rStr) (fun d => d.2) (fun d x => (d.1, x)) := (Lens.snd (Lens.id (rSlice rStr)) rfl)
theorem ty61 : Ty Try.prog 61 rEnum := Ty.mk_ Try.underlying61 rfl (by kernel_rfl)
theorem z61 : TyZero Try.prog 61 rEnum (([], []) : TEnum) := zr_ty (by kernel_rfl) ((zr_pair (zr_str) (zr_slice)))
theorem by61 : (Try.prog.info? 61).map (·.bytes) = some 40 := by kernel_rfl
theorem pl61 : plcs Try.prog 61 = some [(0, 1), (1, 1)] := by kernel_rfl
theorem fld61_0 : fld Try.prog 61 0 = some 0 := by kernel_rfl
theorem ln61_0 : Lens rEnum 0 rStr (fun d => d.1) (fun d x => (x, d.2)) := (Lens.fst (Lens.id rStr))
theorem fld61_1 : fld Try.prog 61 1 = some 1 := by kernel_rfl
theorem ln61_1 : Lens rEnum 1 (rSlice rStr) (fun d => d.2) (fun d x => (d.1, x)) := (Lens.snd (Lens.id (rSlice rStr)) rfl)
theorem ty22 : Ty Try.prog 22 (rSlice rEnum) := Ty.mk_ Try.underlying22 rfl (by kernel_rfl)
theorem z22 : TyZero Try.prog 22 (rSlice rEnum) ([] : (List TEnum)) := zr_ty (by kernel_rfl) (zr_slice)
theorem by22 : (Try.prog.info? 22).map (·.bytes) = some 24 := by kernel_rfl
abbrev TType := Int × Int
@[reducible] def rType : RT TType := (rPair (rInt .i64) (rInt .i64))
theorem ty51 : Ty Try.prog 51 rType := Ty.mk_ Try.underlying51 rfl (by kernel_rfl)
theorem z51 : TyZero Try.prog 51 rType ((0, 0) : TType) := zr_ty (by kernel_rfl) ((zr_pair (zr_int .i64) (zr_int .i64)))
theorem by51 : (Try.prog.info? 51).map (·.bytes) = some 16 := by kernel_rfl
theorem pl51 : plcs Try.prog 51 = some [(0, 1), (1, 1)] := by kernel_rfl
theorem fld51_0 : fld Try.prog 51 0 = some 0 := by kernel_rfl
theorem ln51_0 : Lens rType 0 (rInt .i64) (fun d => d.1) (fun d x => (x, d.2)) := (Lens.fst (Lens.id (rInt .i64)))
theorem fld51_1 : fld Try.prog 51 1 = some 1 := by kernel_rfl
theorem ln51_1 : Lens rType 1 (rInt .i64) (fun d => d.2) (fun d x => (d.1, x)) := (Lens.snd (Lens.id (rInt .i64)) rfl)
theorem eq51 : EqTy Try.prog 51 rType 2 := eq_struct rfl (by kernel_rfl) (fs := [⟨ "Kind", 3, 0, false, "", "", 0⟩, ⟨ "Enum", 3, 1, false, "", "", 8⟩]) (by kernel_rfl) (by kernel_rfl) (eqf_cons (by simp) rfl ty3 (eq_mono (eq_int Try.underlying3) (by omega)) (eqf_last (by simp) rfl ty3 (eq_mono (eq_int Try.underlying3) (by omega))) rfl)
theorem eg51 : Try.prog.eqGuardType Try.prog.depth 51 = false := by kernel_rfl
theorem ty52 : Ty Try.prog 52 rType := Ty.mk_ Try.underlying52 rfl (by kernel_rfl)
theorem z52 : TyZero Try.prog 52 rType ((0, 0) : TType) := zr_ty (by kernel_rfl) ((zr_pair (zr_int .i64) (zr_int .i64)))
theorem by52 : (Try.prog.info? 52).map (·.bytes) = some 16 := by kernel_rfl
theorem pl52 : plcs Try.prog 52 = some [(0, 1), (1, 1)] := by kernel_rfl
theorem fld52_0 : fld Try.prog 52 0 = some 0 := by kernel_rfl
theorem ln52_0 : Lens rType 0 (rInt .i64) (fun d => d.1) (fun d x => (x, d.2)) := (Lens.fst (Lens.id (rInt .i64)))
theorem fld52_1 : fld Try.prog 52 1 = some 1 := by kernel_rfl
theorem ln52_1 : Lens rType 1 (rInt .i64) (fun d => d.2) (fun d x => (d.1, x)) := (Lens.snd (Lens.id (rInt .i64)) rfl)
theorem eq52 : EqTy Try.prog 52 rType 2 := eq_struct rfl (by kernel_rfl) (fs := [⟨ "Kind", 3, 0, false, "", "", 0⟩, ⟨ "Enum", 3, 1, false, "", "", 8⟩]) (by kernel_rfl) (by kernel_rfl) (eqf_cons (by simp) rfl ty3 (eq_mono (eq_int Try.underlying3) (by omega)) (eqf_last (by simp) rfl ty3 (eq_mono (eq_int Try.underlying3) (by omega))) rfl)
theorem eg52 : Try.prog.eqGuardType Try.prog.depth 52 = false := by kernel_rfl
abbrev TDateRange := Int × Int
@[reducible] def rDateRange : RT TDateRange := (rPair (rInt .i64) (rInt .i64))
theorem ty44 : Ty Try.prog 44 rDateRange := Ty.mk_ Try.underlying44 rfl (by kernel_rfl)
theorem z44 : TyZero Try.prog 44 rDateRange ((0, 0) : TDateRange) := zr_ty (by kernel_rfl) ((zr_pair (zr_int .i64) (zr_int .i64)))
theorem by44 : (Try.prog.info? 44).map (·.bytes) = some 16 := by kernel_rfl
theorem pl44 : plcs Try.prog 44 = some [(0, 1), (1, 1)] := by kernel_rfl
theorem fld44_0 : fld Try.prog 44 0 = some 0 := by kernel_rfl
theorem ln44_0 : Lens rDateRange 0 (rInt .i64) (fun d => d.1) (fun d x => (x, d.2)) := (Lens.fst (Lens.id (rInt .i64)))
theorem fld44_1 : fld Try.prog 44 1 = some 1 := by kernel_rfl
theorem ln44_1 : Lens rDateRange 1 (rInt .i64) (fun d => d.2) (fun d x => (d.1, x)) := (Lens.snd (Lens.id (rInt .i64)) rfl)
theorem eq44 : EqTy Try.prog 44 rDateRange 2 := eq_struct rfl (by kernel_rfl) (fs := [⟨ "From", 3, 0, false, "", "", 0⟩, ⟨ "To", 3, 1, false, "", "", 8⟩]) (by kernel_rfl) (by kernel_rfl) (eqf_cons (by simp) rfl ty3 (eq_mono (eq_int Try.underlying3) (by omega)) (eqf_last (by simp) rfl ty3 (eq_mono (eq_int Try.underlying3) (by omega))) rfl)
theorem eg44 : Try.prog.eqGuardType Try.prog.depth 44 = false := by kernel_rfl
theorem ty45 : Ty Try.prog 45 rDateRange := Ty.mk_ Try.underlying45 rfl (by kernel_rfl)
theorem z45 : TyZero Try.prog 45 rDateRange ((0, 0) : TDateRange) := zr_ty (by kernel_rfl) ((zr_pair (zr_int .i64) (zr_int .i64)))
theorem by45 : (Try.prog.info? 45).map (·.bytes) = some 16 := by kernel_rfl
theorem pl45 : plcs Try.prog 45 = some [(0, 1), (1, 1)] := by kernel_rfl
theorem fld45_0 : fld Try.prog 45 0 = some 0 := by kernel_rfl
theorem ln45_0 : Lens rDateRange 0 (rInt .i64) (fun d => d.1) (fun d x => (x, d.2)) := (Lens.fst (Lens.id (rInt .i64)))
theorem fld45_1 : fld Try.prog 45 1 = some 1 := by kernel_rfl
theorem ln45_1 : Lens rDateRange 1 (rInt .i64) (fun d => d.2) (fun d x => (d.1, x)) := (Lens.snd (Lens.id (rInt .i64)) rfl)
theorem eq45 : EqTy Try.prog 45 rDateRange 2 := eq_struct rfl (by kernel_rfl) (fs := [⟨ "From", 3, 0, false, "", "", 0⟩, ⟨ "To", 3, 1, false, "", "", 8⟩]) (by kernel_rfl) (by kernel_rfl) (eqf_cons (by simp) rfl ty3 (eq_mono (eq_int Try.underlying3) (by omega)) (eqf_last (by simp) rfl ty3 (eq_mono (eq_int Try.underlying3) (by omega))) rfl)
theorem eg45 : Try.prog.eqGuardType Try.prog.depth 45 = false := by kernel_rfl
abbrev TRow := TDateRange × Int × Int × Int
@[reducible] def rRow : RT TRow := (rPair rDateRange (rPair (rInt .i64) (rPair (rInt .i64) (rInt .i64))))
theorem ty73 : Ty Try.prog 73 rRow := Ty.mk_ Try.underlying73 rfl (by kernel_rfl)
theorem z73 : TyZero Try.prog 73 rRow (((0, 0), (0, (0, 0))) : TRow) := zr_ty (by kernel_rfl) ((zr_pair ((zr_pair (zr_int .i64) (zr_int .i64))) ((zr_pair (zr_int .i64) ((zr_pair (zr_int .i64) (zr_int .i64)))))))
theorem by73 : (Try.prog.info? 73).map (·.bytes) = some 40 := by kernel_rfl
theorem pl73 : plcs Try.prog 73 = some [(0, 2), (2, 1), (3, 1), (4, 1)] := by kernel_rfl
theorem fld73_0 : fld Try.prog 73 0 = some 0 := by kernel_rfl
theorem ln73_0 : Lens rRow 0 rDateRange (fun d => d.1) (fun d x => (x, d.2)) := (Lens.fst (Lens.id rDateRange))
theorem fld73_1 : fld Try.prog 73 1 = some 2 := by kernel_rfl
theorem ln73_1 : Lens rRow 2 (rInt .i64) (fun d => d.2.1) (fun d x => (d.1, (x, d.2.2))) := (Lens.snd (Lens.fst (Lens.id (rInt .i64))) rfl)
theorem fld73_2 : fld Try.prog 73 2 = some 3 := by kernel_rfl
theorem ln73_2 : Lens rRow 3 (rInt .i64) (fun d => d.2.2.1) (fun d x => (d.1, (d.2.1, (x, d.2.2.2)))) := (Lens.snd (Lens.snd (Lens.fst (Lens.id (rInt .i64))) rfl) rfl)
theorem fld73_3 : fld Try.prog 73 3 = some 4 := by kernel_rfl
theorem ln73_3 : Lens rRow 4 (rInt .i64) (fun d => d.2.2.2) (fun d x => (d.1, (d.2.1, (d.2.2.1, x)))) := (Lens.snd (Lens.snd (Lens.snd (Lens.id (rInt .i64)) rfl) rfl) rfl)
theorem eq73 : EqTy Try.prog 73 rRow 3 := eq_struct rfl (by kernel_rfl) (fs := [⟨ "Valid", 45, 0, false, "", "", 0⟩, ⟨ "Lo", 3, 2, false, "", "", 16⟩, ⟨ "Hi", 3, 3, false, "", "", 24⟩, ⟨ "N", 3, 4, false, "", "", 32⟩]) (by kernel_rfl) (by kernel_rfl) (eqf_cons (by simp) rfl ty45 (eq_mono eq45 (by omega)) (eqf_cons (by simp) rfl ty3 (eq_mono (eq_int Try.underlying3) (by omega)) (eqf_cons (by simp) rfl ty3 (eq_mono (eq_int Try.underlying3) (by omega)) (eqf_last (by simp) rfl ty3 (eq_mono (eq_int Try.underlying3) (by omega))) rfl) rfl) rfl)
theorem eg73 : Try.prog.eqGuardType Try.prog.depth 73 = false := by kernel_rfl
theorem ty74 : Ty Try.prog 74 rRow := Ty.mk_ Try.underlying74 rfl (by kernel_rfl)
theorem z74 : TyZero Try.prog 74 rRow (((0, 0), (0, (0, 0))) : TRow) := zr_ty (by kernel_rfl) ((zr_pair ((zr_pair (zr_int .i64) (zr_int .i64))) ((zr_pair (zr_int .i64) ((zr_pair (zr_int .i64) (zr_int .i64)))))))
theorem by74 : (Try.prog.info? 74).map (·.bytes) = some 40 := by kernel_rfl
theorem pl74 : plcs Try.prog 74 = some [(0, 2), (2, 1), (3, 1), (4, 1)] := by kernel_rfl
theorem fld74_0 : fld Try.prog 74 0 = some 0 := by kernel_rfl
theorem ln74_0 : Lens rRow 0 rDateRange (fun d => d.1) (fun d x => (x, d.2)) := (Lens.fst (Lens.id rDateRange))
theorem fld74_1 : fld Try.prog 74 1 = some 2 := by kernel_rfl
theorem ln74_1 : Lens rRow 2 (rInt .i64) (fun d => d.2.1) (fun d x => (d.1, (x, d.2.2))) := (Lens.snd (Lens.fst (Lens.id (rInt .i64))) rfl)
theorem fld74_2 : fld Try.prog 74 2 = some 3 := by kernel_rfl
theorem ln74_2 : Lens rRow 3 (rInt .i64) (fun d => d.2.2.1) (fun d x => (d.1, (d.2.1, (x, d.2.2.2)))) := (Lens.snd (Lens.snd (Lens.fst (Lens.id (rInt .i64))) rfl) rfl)
theorem fld74_3 : fld Try.prog 74 3 = some 4 := by kernel_rfl
theorem ln74_3 : Lens rRow 4 (rInt .i64) (fun d => d.2.2.2) (fun d x => (d.1, (d.2.1, (d.2.2.1, x)))) := (Lens.snd (Lens.snd (Lens.snd (Lens.id (rInt .i64)) rfl) rfl) rfl)
theorem eq74 : EqTy Try.prog 74 rRow 3 := eq_struct rfl (by kernel_rfl) (fs := [⟨ "Valid", 45, 0, false, "", "", 0⟩, ⟨ "Lo", 3, 2, false, "", "", 16⟩, ⟨ "Hi", 3, 3, false, "", "", 24⟩, ⟨ "N", 3, 4, false, "", "", 32⟩]) (by kernel_rfl) (by kernel_rfl) (eqf_cons (by simp) rfl ty45 (eq_mono eq45 (by omega)) (eqf_cons (by simp) rfl ty3 (eq_mono (eq_int Try.underlying3) (by omega)) (eqf_cons (by simp) rfl ty3 (eq_mono (eq_int Try.underlying3) (by omega)) (eqf_last (by simp) rfl ty3 (eq_mono (eq_int Try.underlying3) (by omega))) rfl) rfl) rfl)
theorem eg74 : Try.prog.eqGuardType Try.prog.depth 74 = false := by kernel_rfl
theorem ty62 : Ty Try.prog 62 (rSlice rRow) := Ty.mk_ Try.underlying62 rfl (by kernel_rfl)
theorem z62 : TyZero Try.prog 62 (rSlice rRow) ([] : (List TRow)) := zr_ty (by kernel_rfl) (zr_slice)
theorem by62 : (Try.prog.info? 62).map (·.bytes) = some 24 := by kernel_rfl
abbrev TTable := (List UInt8) × TType × TType × (List TRow)
@[reducible] def rTable : RT TTable := (rPair rStr (rPair rType (rPair rType (rSlice rRow))))
theorem ty63 : Ty Try.prog 63 rTable := Ty.mk_ Try.underlying63 rfl (by kernel_rfl)
theorem z63 : TyZero Try.prog 63 rTable (([], ((0, 0), ((0, 0), []))) : TTable) := zr_ty (by kernel_rfl) ((zr_pair (zr_str) ((zr_pair ((zr_pair (zr_int .i64) (zr_int .i64))) ((zr_pair ((zr_pair (zr_int .i64) (zr_int .i64))) (zr_slice)))))))
theorem by63 : (Try.prog.info? 63).map (·.bytes) = some 72 := by kernel_rfl
theorem pl63 : plcs Try.prog 63 = some [(0, 1), (1, 2), (3, 2), (5, 1)] := by kernel_rfl
theorem fld63_0 : fld Try.prog 63 0 = some 0 := by kernel_rfl
theorem ln63_0 : Lens rTable 0 rStr (fun d => d.1) (fun d x => (x, d.2)) := (Lens.fst (Lens.id rStr))
theorem fld63_1 : fld Try.prog 63 1 = some 1 := by kernel_rfl
theorem ln63_1 : Lens rTable 1 rType (fun d => d.2.1) (fun d x => (d.1, (x, d.2.2))) := (Lens.snd (Lens.fst (Lens.id rType)) rfl)
theorem fld63_2 : fld Try.prog 63 2 = some 3 := by kernel_rfl
theorem ln63_2 : Lens rTable 3 rType (fun d => d.2.2.1) (fun d x => (d.1, (d.2.1, (x, d.2.2.2)))) := (Lens.snd (Lens.snd (Lens.fst (Lens.id rType)) rfl) rfl)
theorem fld63_3 : fld Try.prog 63 3 = some 5 := by kernel_rfl
theorem ln63_3 : Lens rTable 5 (rSlice rRow) (fun d => d.2.2.2) (fun d x => (d.1, (d.2.1, (d.2.2.1, x)))) := (Lens.snd (Lens.snd (Lens.snd (Lens.id (rSlice rRow)) rfl) rfl) rfl)
theorem ty64 : Ty Try.prog 64 rTable := Ty.mk_ Try.underlying64 rfl (by kernel_rfl)
theorem z64 : TyZero Try.prog 64 rTable (([], ((0, 0), ((0, 0), []))) : TTable) := zr_ty (by kernel_rfl) ((zr_pair (zr_str) ((zr_pair ((zr_pair (zr_int .i64) (zr_int .i64))) ((zr_pair ((zr_pair (zr_int .i64) (zr_int .i64))) (zr_slice)))))))
theorem by64 : (Try.prog.info? 64).map (·.bytes) = some 72 := by kernel_rfl
theorem pl64 : plcs Try.prog 64 = some [(0, 1), (1, 2), (3, 2), (5, 1)] := by kernel_rfl
theorem fld64_0 : fld Try.prog 64 0 = some 0 := by kernel_rfl
theorem ln64_0 : Lens rTable 0 rStr (fun d => d.1) (fun d x => (x, d.2)) := (Lens.fst (Lens.id rStr))
theorem fld64_1 : fld Try.prog 64 1 = some 1 := by kernel_rfl
theorem ln64_1 : Lens rTable 1 rType (fun d => d.2.1) (fun d x => (d.1, (x, d.2.2))) := (Lens.snd (Lens.fst (Lens.id rType)) rfl)
theorem fld64_2 : fld Try.prog 64 2 = some 3 := by kernel_rfl
theorem ln64_2 : Lens rTable 3 rType (fun d => d.2.2.1) (fun d x => (d.1, (d.2.1, (x, d.2.2.2)))) := (Lens.snd (Lens.snd (Lens.fst (Lens.id rType)) rfl) rfl)
theorem fld64_3 : fld Try.prog 64 3 = some 5 := by kernel_rfl
theorem ln64_3 : Lens rTable 5 (rSlice rRow) (fun d => d.2.2.2) (fun d x => (d.1, (d.2.1, (d.2.2.1, x)))) := (Lens.snd (Lens.snd (Lens.snd (Lens.id (rSlice rRow)) rfl) rfl) rfl)
theorem ty23 : Ty Try.prog 23 (rSlice rTable) := Ty.mk_ Try.underlying23 rfl (by kernel_rfl)
theorem z23 : TyZero Try.prog 23 (rSlice rTable) ([] : (List TTable)) := zr_ty (by kernel_rfl) (zr_slice)
theorem by23 : (Try.prog.info? 23).map (·.bytes) = some 24 := by kernel_rfl
abbrev TField := (List UInt8) × TType
@[reducible] def rField : RT TField := (rPair rStr rType)
theorem ty53 : Ty Try.prog 53 rField := Ty.mk_ Try.underlying53 rfl (by kernel_rfl)
theorem z53 : TyZero Try.prog 53 rField (([], (0, 0)) : TField) := zr_ty (by kernel_rfl) ((zr_pair (zr_str) ((zr_pair (zr_int .i64) (zr_int .i64)))))
theorem by53 : (Try.prog.info? 53).map (·.bytes) = some 32 := by kernel_rfl
theorem pl53 : plcs Try.prog 53 = some [(0, 1), (1, 2)] := by kernel_rfl
theorem fld53_0 : fld Try.prog 53 0 = some 0 := by kernel_rfl
theorem ln53_0 : Lens rField 0 rStr (fun d => d.1) (fun d x => (x, d.2)) := (Lens.fst (Lens.id rStr))
theorem fld53_1 : fld Try.prog 53 1 = some 1 := by kernel_rfl
theorem ln53_1 : Lens rField 1 rType (fun d => d.2) (fun d x => (d.1, x)) := (Lens.snd (Lens.id rType) rfl)
theorem eq53 : EqTy Try.prog 53 rField 3 := eq_struct rfl (by kernel_rfl) (fs := [⟨ "Name", 9, 0, false, "", "", 0⟩, ⟨ "Type", 52, 1, false, "", "", 16⟩]) (by kernel_rfl) (by kernel_rfl) (eqf_cons (by simp) rfl ty9 (eq_mono (eq_str Try.underlying9) (by omega)) (eqf_last (by simp) rfl ty52 (eq_mono eq52 (by omega))) rfl)
theorem eg53 : Try.prog.eqGuardType Try.prog.depth 53 = false := by kernel_rfl
theorem ty54 : Ty Try.prog 54 rField := Ty.mk_ Try.underlying54 rfl (by kernel_rfl)
theorem z54 : TyZero Try.prog 54 rField (([], (0, 0)) : TField) := zr_ty (by kernel_rfl) ((zr_pair (zr_str) ((zr_pair (zr_int .i64) (zr_int .i64)))))
theorem by54 : (Try.prog.info? 54).map (·.bytes) = some 32 := by kernel_rfl
theorem pl54 : plcs Try.prog 54 = some [(0, 1), (1, 2)] := by kernel_rfl
theorem fld54_0 : fld Try.prog 54 0 = some 0 := by kernel_rfl
theorem ln54_0 : Lens rField 0 rStr (fun d => d.1) (fun d x => (x, d.2)) := (Lens.fst (Lens.id rStr))
theorem fld54_1 : fld Try.prog 54 1 = some 1 := by kernel_rfl
theorem ln54_1 : Lens rField 1 rType (fun d => d.2) (fun d x => (d.1, x)) := (Lens.snd (Lens.id rType) rfl)
theorem eq54 : EqTy Try.prog 54 rField 3 := eq_struct rfl (by kernel_rfl) (fs := [⟨ "Name", 9, 0, false, "", "", 0⟩, ⟨ "Type", 52, 1, false, "", "", 16⟩]) (by kernel_rfl) (by kernel_rfl) (eqf_cons (by simp) rfl ty9 (eq_mono (eq_str Try.underlying9) (by omega)) (eqf_last (by simp) rfl ty52 (eq_mono eq52 (by omega))) rfl)
theorem eg54 : Try.prog.eqGuardType Try.prog.depth 54 = false := by kernel_rfl
theorem ty37 : Ty Try.prog 37 (rSlice rField) := Ty.mk_ Try.underlying37 rfl (by kernel_rfl)
theorem z37 : TyZero Try.prog 37 (rSlice rField) ([] : (List TField)) := zr_ty (by kernel_rfl) (zr_slice)
theorem by37 : (Try.prog.info? 37).map (·.bytes) = some 24 := by kernel_rfl
abbrev TNode := Int × Int
@[reducible] def rNode : RT TNode := (rPair (rInt .i64) (rInt .i64))
theorem ty49 : Ty Try.prog 49 rNode := Ty.mk_ Try.underlying49 rfl (by kernel_rfl)
theorem z49 : TyZero Try.prog 49 rNode ((0, 0) : TNode) := zr_ty (by kernel_rfl) ((zr_pair (zr_int .i64) (zr_int .i64)))
theorem by49 : (Try.prog.info? 49).map (·.bytes) = some 16 := by kernel_rfl
theorem pl49 : plcs Try.prog 49 = some [(0, 1), (1, 1)] := by kernel_rfl
theorem fld49_0 : fld Try.prog 49 0 = some 0 := by kernel_rfl
theorem ln49_0 : Lens rNode 0 (rInt .i64) (fun d => d.1) (fun d x => (x, d.2)) := (Lens.fst (Lens.id (rInt .i64)))
theorem fld49_1 : fld Try.prog 49 1 = some 1 := by kernel_rfl
theorem ln49_1 : Lens rNode 1 (rInt .i64) (fun d => d.2) (fun d x => (d.1, x)) := (Lens.snd (Lens.id (rInt .i64)) rfl)
theorem eq49 : EqTy Try.prog 49 rNode 2 := eq_struct rfl (by kernel_rfl) (fs := [⟨ "Op", 3, 0, false, "", "", 0⟩, ⟨ "N", 3, 1, false, "", "", 8⟩]) (by kernel_rfl) (by kernel_rfl) (eqf_cons (by simp) rfl ty3 (eq_mono (eq_int Try.underlying3) (by omega)) (eqf_last (by simp) rfl ty3 (eq_mono (eq_int Try.underlying3) (by omega))) rfl)
theorem eg49 : Try.prog.eqGuardType Try.prog.depth 49 = false := by kernel_rfl
theorem ty50 : Ty Try.prog 50 rNode := Ty.mk_ Try.underlying50 rfl (by kernel_rfl)
theorem z50 : TyZero Try.prog 50 rNode ((0, 0) : TNode) := zr_ty (by kernel_rfl) ((zr_pair (zr_int .i64) (zr_int .i64)))
theorem by50 : (Try.prog.info? 50).map (·.bytes) = some 16 := by kernel_rfl
theorem pl50 : plcs Try.prog 50 = some [(0, 1), (1, 1)] := by kernel_rfl
theorem fld50_0 : fld Try.prog 50 0 = some 0 := by kernel_rfl
theorem ln50_0 : Lens rNode 0 (rInt .i64) (fun d => d.1) (fun d x => (x, d.2)) := (Lens.fst (Lens.id (rInt .i64)))
theorem fld50_1 : fld Try.prog 50 1 = some 1 := by kernel_rfl
theorem ln50_1 : Lens rNode 1 (rInt .i64) (fun d => d.2) (fun d x => (d.1, x)) := (Lens.snd (Lens.id (rInt .i64)) rfl)
theorem eq50 : EqTy Try.prog 50 rNode 2 := eq_struct rfl (by kernel_rfl) (fs := [⟨ "Op", 3, 0, false, "", "", 0⟩, ⟨ "N", 3, 1, false, "", "", 8⟩]) (by kernel_rfl) (by kernel_rfl) (eqf_cons (by simp) rfl ty3 (eq_mono (eq_int Try.underlying3) (by omega)) (eqf_last (by simp) rfl ty3 (eq_mono (eq_int Try.underlying3) (by omega))) rfl)
theorem eg50 : Try.prog.eqGuardType Try.prog.depth 50 = false := by kernel_rfl
theorem ty46 : Ty Try.prog 46 (rSlice rNode) := Ty.mk_ Try.underlying46 rfl (by kernel_rfl)
theorem z46 : TyZero Try.prog 46 (rSlice rNode) ([] : (List TNode)) := zr_ty (by kernel_rfl) (zr_slice)
theorem by46 : (Try.prog.info? 46).map (·.bytes) = some 24 := by kernel_rfl
abbrev TRule := (List UInt8) × Int × Int × Int × TDateRange × (List TNode) × (List TNode) × (List UInt8)
@[reducible] def rRule : RT TRule := (rPair rStr (rPair (rInt .i64) (rPair (rInt .i64) (rPair (rInt .i64) (rPair rDateRange (rPair (rSlice rNode) (rPair (rSlice rNode) rStr)))))))
theorem ty47 : Ty Try.prog 47 rRule := Ty.mk_ Try.underlying47 rfl (by kernel_rfl)
theorem z47 : TyZero Try.prog 47 rRule (([], (0, (0, (0, ((0, 0), ([], ([], []))))))) : TRule) := zr_ty (by kernel_rfl) ((zr_pair (zr_str) ((zr_pair (zr_int .i64) ((zr_pair (zr_int .i64) ((zr_pair (zr_int .i64) ((zr_pair ((zr_pair (zr_int .i64) (zr_int .i64))) ((zr_pair (zr_slice) ((zr_pair (zr_slice) (zr_str)))))))))))))))
theorem by47 : (Try.prog.info? 47).map (·.bytes) = some 120 := by kernel_rfl
theorem pl47 : plcs Try.prog 47 = some [(0, 1), (1, 1), (2, 1), (3, 1), (4, 2), (6, 1), (7, 1), (8, 1)] := by kernel_rfl
theorem fld47_0 : fld Try.prog 47 0 = some 0 := by kernel_rfl
theorem ln47_0 : Lens rRule 0 rStr (fun d => d.1) (fun d x => (x, d.2)) := (Lens.fst (Lens.id rStr))
theorem fld47_1 : fld Try.prog 47 1 = some 1 := by kernel_rfl
theorem ln47_1 : Lens rRule 1 (rInt .i64) (fun d => d.2.1) (fun d x => (d.1, (x, d.2.2))) := (Lens.snd (Lens.fst (Lens.id (rInt .i64))) rfl)
theorem fld47_2 : fld Try.prog 47 2 = some 2 := by kernel_rfl
theorem ln47_2 : Lens rRule 2 (rInt .i64) (fun d => d.2.2.1) (fun d x => (d.1, (d.2.1, (x, d.2.2.2)))) := (Lens.snd (Lens.snd (Lens.fst (Lens.id (rInt .i64))) rfl) rfl)
theorem fld47_3 : fld Try.prog 47 3 = some 3 := by kernel_rfl
theorem ln47_3 : Lens rRule 3 (rInt .i64) (fun d => d.2.2.2.1) (fun d x => (d.1, (d.2.1, (d.2.2.1, (x, d.2.2.2.2))))) := (Lens.snd (Lens.snd (Lens.snd (Lens.fst (Lens.id (rInt .i64))) rfl) rfl) rfl)
theorem fld47_4 : fld Try.prog 47 4 = some 4 := by kernel_rfl
theorem ln47_4 : Lens rRule 4 rDateRange (fun d => d.2.2.2.2.1) (fun d x => (d.1, (d.2.1, (d.2.2.1, (d.2.2.2.1, (x, d.2.2.2.2.2)))))) := (Lens.snd (Lens.snd (Lens.snd (Lens.snd (Lens.fst (Lens.id rDateRange)) rfl) rfl) rfl) rfl)
theorem fld47_5 : fld Try.prog 47 5 = some 6 := by kernel_rfl
theorem ln47_5 : Lens rRule 6 (rSlice rNode) (fun d => d.2.2.2.2.2.1) (fun d x => (d.1, (d.2.1, (d.2.2.1, (d.2.2.2.1, (d.2.2.2.2.1, (x, d.2.2.2.2.2.2))))))) := (Lens.snd (Lens.snd (Lens.snd (Lens.snd (Lens.snd (Lens.fst (Lens.id (rSlice rNode))) rfl) rfl) rfl) rfl) rfl)
theorem fld47_6 : fld Try.prog 47 6 = some 7 := by kernel_rfl
theorem ln47_6 : Lens rRule 7 (rSlice rNode) (fun d => d.2.2.2.2.2.2.1) (fun d x => (d.1, (d.2.1, (d.2.2.1, (d.2.2.2.1, (d.2.2.2.2.1, (d.2.2.2.2.2.1, (x, d.2.2.2.2.2.2.2)))))))) := (Lens.snd (Lens.snd (Lens.snd (Lens.snd (Lens.snd (Lens.snd (Lens.fst (Lens.id (rSlice rNode))) rfl) rfl) rfl) rfl) rfl) rfl)
theorem fld47_7 : fld Try.prog 47 7 = some 8 := by kernel_rfl
theorem ln47_7 : Lens rRule 8 rStr (fun d => d.2.2.2.2.2.2.2) (fun d x => (d.1, (d.2.1, (d.2.2.1, (d.2.2.2.1, (d.2.2.2.2.1, (d.2.2.2.2.2.1, (d.2.2.2.2.2.2.1, x)))))))) := (Lens.snd (Lens.snd (Lens.snd (Lens.snd (Lens.snd (Lens.snd (Lens.snd (Lens.id rStr) rfl) rfl) rfl) rfl) rfl) rfl) rfl)
theorem ty48 : Ty Try.prog 48 rRule := Ty.mk_ Try.underlying48 rfl (by kernel_rfl)
theorem z48 : TyZero Try.prog 48 rRule (([], (0, (0, (0, ((0, 0), ([], ([], []))))))) : TRule) := zr_ty (by kernel_rfl) ((zr_pair (zr_str) ((zr_pair (zr_int .i64) ((zr_pair (zr_int .i64) ((zr_pair (zr_int .i64) ((zr_pair ((zr_pair (zr_int .i64) (zr_int .i64))) ((zr_pair (zr_slice) ((zr_pair (zr_slice) (zr_str)))))))))))))))
theorem by48 : (Try.prog.info? 48).map (·.bytes) = some 120 := by kernel_rfl
theorem pl48 : plcs Try.prog 48 = some [(0, 1), (1, 1), (2, 1), (3, 1), (4, 2), (6, 1), (7, 1), (8, 1)] := by kernel_rfl
theorem fld48_0 : fld Try.prog 48 0 = some 0 := by kernel_rfl
theorem ln48_0 : Lens rRule 0 rStr (fun d => d.1) (fun d x => (x, d.2)) := (Lens.fst (Lens.id rStr))
theorem fld48_1 : fld Try.prog 48 1 = some 1 := by kernel_rfl
theorem ln48_1 : Lens rRule 1 (rInt .i64) (fun d => d.2.1) (fun d x => (d.1, (x, d.2.2))) := (Lens.snd (Lens.fst (Lens.id (rInt .i64))) rfl)
theorem fld48_2 : fld Try.prog 48 2 = some 2 := by kernel_rfl
theorem ln48_2 : Lens rRule 2 (rInt .i64) (fun d => d.2.2.1) (fun d x => (d.1, (d.2.1, (x, d.2.2.2)))) := (Lens.snd (Lens.snd (Lens.fst (Lens.id (rInt .i64))) rfl) rfl)
theorem fld48_3 : fld Try.prog 48 3 = some 3 := by kernel_rfl
theorem ln48_3 : Lens rRule 3 (rInt .i64) (fun d => d.2.2.2.1) (fun d x => (d.1, (d.2.1, (d.2.2.1, (x, d.2.2.2.2))))) := (Lens.snd (Lens.snd (Lens.snd (Lens.fst (Lens.id (rInt .i64))) rfl) rfl) rfl)
theorem fld48_4 : fld Try.prog 48 4 = some 4 := by kernel_rfl
theorem ln48_4 : Lens rRule 4 rDateRange (fun d => d.2.2.2.2.1) (fun d x => (d.1, (d.2.1, (d.2.2.1, (d.2.2.2.1, (x, d.2.2.2.2.2)))))) := (Lens.snd (Lens.snd (Lens.snd (Lens.snd (Lens.fst (Lens.id rDateRange)) rfl) rfl) rfl) rfl)
theorem fld48_5 : fld Try.prog 48 5 = some 6 := by kernel_rfl
theorem ln48_5 : Lens rRule 6 (rSlice rNode) (fun d => d.2.2.2.2.2.1) (fun d x => (d.1, (d.2.1, (d.2.2.1, (d.2.2.2.1, (d.2.2.2.2.1, (x, d.2.2.2.2.2.2))))))) := (Lens.snd (Lens.snd (Lens.snd (Lens.snd (Lens.snd (Lens.fst (Lens.id (rSlice rNode))) rfl) rfl) rfl) rfl) rfl)
theorem fld48_6 : fld Try.prog 48 6 = some 7 := by kernel_rfl
theorem ln48_6 : Lens rRule 7 (rSlice rNode) (fun d => d.2.2.2.2.2.2.1) (fun d x => (d.1, (d.2.1, (d.2.2.1, (d.2.2.2.1, (d.2.2.2.2.1, (d.2.2.2.2.2.1, (x, d.2.2.2.2.2.2.2)))))))) := (Lens.snd (Lens.snd (Lens.snd (Lens.snd (Lens.snd (Lens.snd (Lens.fst (Lens.id (rSlice rNode))) rfl) rfl) rfl) rfl) rfl) rfl)
theorem fld48_7 : fld Try.prog 48 7 = some 8 := by kernel_rfl
theorem ln48_7 : Lens rRule 8 rStr (fun d => d.2.2.2.2.2.2.2) (fun d x => (d.1, (d.2.1, (d.2.2.1, (d.2.2.2.1, (d.2.2.2.2.1, (d.2.2.2.2.2.1, (d.2.2.2.2.2.2.1, x)))))))) := (Lens.snd (Lens.snd (Lens.snd (Lens.snd (Lens.snd (Lens.snd (Lens.snd (Lens.id rStr) rfl) rfl) rfl) rfl) rfl) rfl) rfl)
theorem ty38 : Ty Try.prog 38 (rSlice rRule) := Ty.mk_ Try.underlying38 rfl (by kernel_rfl)
theorem z38 : TyZero Try.prog 38 (rSlice rRule) ([] : (List TRule)) := zr_ty (by kernel_rfl) (zr_slice)
theorem by38 : (Try.prog.info? 38).map (·.bytes) = some 24 := by kernel_rfl
abbrev TScope := (List UInt8) × Int × (List TField) × (List TField) × (List TRule)
@[reducible] def rScope : RT TScope := (rPair rStr (rPair (rInt .i64) (rPair (rSlice rField) (rPair (rSlice rField) (rSlice rRule)))))
theorem ty39 : Ty Try.prog 39 rScope := Ty.mk_ Try.underlying39 rfl (by kernel_rfl)
theorem z39 : TyZero Try.prog 39 rScope (([], (0, ([], ([], [])))) : TScope) := zr_ty (by kernel_rfl) ((zr_pair (zr_str) ((zr_pair (zr_int .i64) ((zr_pair (zr_slice) ((zr_pair (zr_slice) (zr_slice)))))))))
theorem by39 : (Try.prog.info? 39).map (·.bytes) = some 96 := by kernel_rfl
theorem pl39 : plcs Try.prog 39 = some [(0, 1), (1, 1), (2, 1), (3, 1), (4, 1)] := by kernel_rfl
theorem fld39_0 : fld Try.prog 39 0 = some 0 := by kernel_rfl
theorem ln39_0 : Lens rScope 0 rStr (fun d => d.1) (fun d x => (x, d.2)) := (Lens.fst (Lens.id rStr))
theorem fld39_1 : fld Try.prog 39 1 = some 1 := by kernel_rfl
theorem ln39_1 : Lens rScope 1 (rInt .i64) (fun d => d.2.1) (fun d x => (d.1, (x, d.2.2))) := (Lens.snd (Lens.fst (Lens.id (rInt .i64))) rfl)
theorem fld39_2 : fld Try.prog 39 2 = some 2 := by kernel_rfl
theorem ln39_2 : Lens rScope 2 (rSlice rField) (fun d => d.2.2.1) (fun d x => (d.1, (d.2.1, (x, d.2.2.2)))) := (Lens.snd (Lens.snd (Lens.fst (Lens.id (rSlice rField))) rfl) rfl)
theorem fld39_3 : fld Try.prog 39 3 = some 3 := by kernel_rfl
theorem ln39_3 : Lens rScope 3 (rSlice rField) (fun d => d.2.2.2.1) (fun d x => (d.1, (d.2.1, (d.2.2.1, (x, d.2.2.2.2))))) := (Lens.snd (Lens.snd (Lens.snd (Lens.fst (Lens.id (rSlice rField))) rfl) rfl) rfl)
theorem fld39_4 : fld Try.prog 39 4 = some 4 := by kernel_rfl
theorem ln39_4 : Lens rScope 4 (rSlice rRule) (fun d => d.2.2.2.2) (fun d x => (d.1, (d.2.1, (d.2.2.1, (d.2.2.2.1, x))))) := (Lens.snd (Lens.snd (Lens.snd (Lens.snd (Lens.id (rSlice rRule)) rfl) rfl) rfl) rfl)
theorem ty40 : Ty Try.prog 40 rScope := Ty.mk_ Try.underlying40 rfl (by kernel_rfl)
theorem z40 : TyZero Try.prog 40 rScope (([], (0, ([], ([], [])))) : TScope) := zr_ty (by kernel_rfl) ((zr_pair (zr_str) ((zr_pair (zr_int .i64) ((zr_pair (zr_slice) ((zr_pair (zr_slice) (zr_slice)))))))))
theorem by40 : (Try.prog.info? 40).map (·.bytes) = some 96 := by kernel_rfl
theorem pl40 : plcs Try.prog 40 = some [(0, 1), (1, 1), (2, 1), (3, 1), (4, 1)] := by kernel_rfl
theorem fld40_0 : fld Try.prog 40 0 = some 0 := by kernel_rfl
theorem ln40_0 : Lens rScope 0 rStr (fun d => d.1) (fun d x => (x, d.2)) := (Lens.fst (Lens.id rStr))
theorem fld40_1 : fld Try.prog 40 1 = some 1 := by kernel_rfl
theorem ln40_1 : Lens rScope 1 (rInt .i64) (fun d => d.2.1) (fun d x => (d.1, (x, d.2.2))) := (Lens.snd (Lens.fst (Lens.id (rInt .i64))) rfl)
theorem fld40_2 : fld Try.prog 40 2 = some 2 := by kernel_rfl
theorem ln40_2 : Lens rScope 2 (rSlice rField) (fun d => d.2.2.1) (fun d x => (d.1, (d.2.1, (x, d.2.2.2)))) := (Lens.snd (Lens.snd (Lens.fst (Lens.id (rSlice rField))) rfl) rfl)
theorem fld40_3 : fld Try.prog 40 3 = some 3 := by kernel_rfl
theorem ln40_3 : Lens rScope 3 (rSlice rField) (fun d => d.2.2.2.1) (fun d x => (d.1, (d.2.1, (d.2.2.1, (x, d.2.2.2.2))))) := (Lens.snd (Lens.snd (Lens.snd (Lens.fst (Lens.id (rSlice rField))) rfl) rfl) rfl)
theorem fld40_4 : fld Try.prog 40 4 = some 4 := by kernel_rfl
theorem ln40_4 : Lens rScope 4 (rSlice rRule) (fun d => d.2.2.2.2) (fun d x => (d.1, (d.2.1, (d.2.2.1, (d.2.2.2.1, x))))) := (Lens.snd (Lens.snd (Lens.snd (Lens.snd (Lens.id (rSlice rRule)) rfl) rfl) rfl) rfl)
theorem ty24 : Ty Try.prog 24 (rSlice rScope) := Ty.mk_ Try.underlying24 rfl (by kernel_rfl)
theorem z24 : TyZero Try.prog 24 (rSlice rScope) ([] : (List TScope)) := zr_ty (by kernel_rfl) (zr_slice)
theorem by24 : (Try.prog.info? 24).map (·.bytes) = some 24 := by kernel_rfl
abbrev TLaw := (List TEnum) × (List TTable) × (List TScope)
@[reducible] def rLaw : RT TLaw := (rPair (rSlice rEnum) (rPair (rSlice rTable) (rSlice rScope)))
theorem ty25 : Ty Try.prog 25 rLaw := Ty.mk_ Try.underlying25 rfl (by kernel_rfl)
theorem z25 : TyZero Try.prog 25 rLaw (([], ([], [])) : TLaw) := zr_ty (by kernel_rfl) ((zr_pair (zr_slice) ((zr_pair (zr_slice) (zr_slice)))))
theorem by25 : (Try.prog.info? 25).map (·.bytes) = some 72 := by kernel_rfl
theorem pl25 : plcs Try.prog 25 = some [(0, 1), (1, 1), (2, 1)] := by kernel_rfl
theorem fld25_0 : fld Try.prog 25 0 = some 0 := by kernel_rfl
theorem ln25_0 : Lens rLaw 0 (rSlice rEnum) (fun d => d.1) (fun d x => (x, d.2)) := (Lens.fst (Lens.id (rSlice rEnum)))
theorem fld25_1 : fld Try.prog 25 1 = some 1 := by kernel_rfl
theorem ln25_1 : Lens rLaw 1 (rSlice rTable) (fun d => d.2.1) (fun d x => (d.1, (x, d.2.2))) := (Lens.snd (Lens.fst (Lens.id (rSlice rTable))) rfl)
theorem fld25_2 : fld Try.prog 25 2 = some 2 := by kernel_rfl
theorem ln25_2 : Lens rLaw 2 (rSlice rScope) (fun d => d.2.2) (fun d x => (d.1, (d.2.1, x))) := (Lens.snd (Lens.snd (Lens.id (rSlice rScope)) rfl) rfl)
theorem ty26 : Ty Try.prog 26 rLaw := Ty.mk_ Try.underlying26 rfl (by kernel_rfl)
theorem z26 : TyZero Try.prog 26 rLaw (([], ([], [])) : TLaw) := zr_ty (by kernel_rfl) ((zr_pair (zr_slice) ((zr_pair (zr_slice) (zr_slice)))))
theorem by26 : (Try.prog.info? 26).map (·.bytes) = some 72 := by kernel_rfl
theorem pl26 : plcs Try.prog 26 = some [(0, 1), (1, 1), (2, 1)] := by kernel_rfl
theorem fld26_0 : fld Try.prog 26 0 = some 0 := by kernel_rfl
theorem ln26_0 : Lens rLaw 0 (rSlice rEnum) (fun d => d.1) (fun d x => (x, d.2)) := (Lens.fst (Lens.id (rSlice rEnum)))
theorem fld26_1 : fld Try.prog 26 1 = some 1 := by kernel_rfl
theorem ln26_1 : Lens rLaw 1 (rSlice rTable) (fun d => d.2.1) (fun d x => (d.1, (x, d.2.2))) := (Lens.snd (Lens.fst (Lens.id (rSlice rTable))) rfl)
theorem fld26_2 : fld Try.prog 26 2 = some 2 := by kernel_rfl
theorem ln26_2 : Lens rLaw 2 (rSlice rScope) (fun d => d.2.2) (fun d x => (d.1, (d.2.1, x))) := (Lens.snd (Lens.snd (Lens.id (rSlice rScope)) rfl) rfl)
theorem ty32 : Ty Try.prog 32 (rSlice (rInt .i64)) := Ty.mk_ Try.underlying32 rfl (by kernel_rfl)
theorem z32 : TyZero Try.prog 32 (rSlice (rInt .i64)) ([] : (List Int)) := zr_ty (by kernel_rfl) (zr_slice)
theorem by32 : (Try.prog.info? 32).map (·.bytes) = some 24 := by kernel_rfl
theorem ty72 : Ty Try.prog 72 (rSlice rDateRange) := Ty.mk_ Try.underlying72 rfl (by kernel_rfl)
theorem z72 : TyZero Try.prog 72 (rSlice rDateRange) ([] : (List TDateRange)) := zr_ty (by kernel_rfl) (zr_slice)
theorem by72 : (Try.prog.info? 72).map (·.bytes) = some 24 := by kernel_rfl
end Go.Proofs.Ythfhekohlmboiaa
