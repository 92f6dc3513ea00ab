import Derived.Test.YtmdhmgngomlheaaEng11
import Derived.Test.YtmdhmgngomlheaaProg
import Derived.KernelRfl
namespace Go.Proofs.Ytmdhmgngomlheaa
open Go.Eng
set_option maxRecDepth 100000
theorem mo : Try.prog.follows .mixedOrders = true := by kernel_rfl

theorem ty3 : Ty Try.prog 3 (rInt .i64) := Ty.mk_ Try.underlying3 rfl (by kernel_rfl)
theorem z3 : TyZero Try.prog 3 (rInt .i64) (0 : Int) := zr_ty (by kernel_rfl) (zr_int .i64)
theorem by3 : (Try.prog.info? 3).map (·.bytes) = some 8 := by kernel_rfl
theorem ty4 : Ty Try.prog 4 rBool := Ty.mk_ Try.underlying4 rfl (by kernel_rfl)
theorem z4 : TyZero Try.prog 4 rBool (false : Bool) := zr_ty (by kernel_rfl) (zr_bool)
theorem by4 : (Try.prog.info? 4).map (·.bytes) = some 1 := by kernel_rfl
theorem ty5 : Ty Try.prog 5 (rInt .u8) := Ty.mk_ Try.underlying5 rfl (by kernel_rfl)
theorem z5 : TyZero Try.prog 5 (rInt .u8) (0 : Int) := zr_ty (by kernel_rfl) (zr_int .u8)
theorem by5 : (Try.prog.info? 5).map (·.bytes) = some 1 := by kernel_rfl
theorem ty9 : Ty Try.prog 9 rStr := Ty.mk_ Try.underlying9 rfl (by kernel_rfl)
theorem z9 : TyZero Try.prog 9 rStr ([] : (List UInt8)) := zr_ty (by kernel_rfl) (zr_str)
theorem by9 : (Try.prog.info? 9).map (·.bytes) = some 16 := by kernel_rfl
theorem ty22 : Ty Try.prog 22 (rSlice (rInt .i64)) := Ty.mk_ Try.underlying22 rfl (by kernel_rfl)
theorem z22 : TyZero Try.prog 22 (rSlice (rInt .i64)) ([] : (List Int)) := zr_ty (by kernel_rfl) (zr_slice)
theorem by22 : (Try.prog.info? 22).map (·.bytes) = some 24 := by kernel_rfl
abbrev TPattern := Int × Int
@[reducible] def rPattern : RT TPattern := (rPair (rInt .i64) (rInt .i64))
theorem ty28 : Ty Try.prog 28 rPattern := Ty.mk_ Try.underlying28 rfl (by kernel_rfl)
theorem z28 : TyZero Try.prog 28 rPattern ((0, 0) : TPattern) := zr_ty (by kernel_rfl) ((zr_pair (zr_int .i64) (zr_int .i64)))
theorem by28 : (Try.prog.info? 28).map (·.bytes) = some 16 := by kernel_rfl
theorem pl28 : plcs Try.prog 28 = some [(0, 1), (1, 1)] := by kernel_rfl
theorem fld28_0 : fld Try.prog 28 0 = some 0 := by kernel_rfl
theorem ln28_0 : Lens rPattern 0 (rInt .i64) (fun d => d.1) (fun d x => (x, d.2)) := (Lens.fst (Lens.id (rInt .i64)))
theorem fld28_1 : fld Try.prog 28 1 = some 1 := by kernel_rfl
theorem ln28_1 : Lens rPattern 1 (rInt .i64) (fun d => d.2) (fun d x => (d.1, x)) := (Lens.snd (Lens.id (rInt .i64)) rfl)
theorem eq28 : EqTy Try.prog 28 rPattern 2 := eq_struct rfl (by kernel_rfl) (fs := [⟨ "Mask", 3, 0, false, "", "", 0⟩, ⟨ "Bits", 3, 1, false, "", "", 8⟩]) (by kernel_rfl) (by kernel_rfl) (eqf_cons (by simp) rfl ty3 (eq_mono (eq_int Try.underlying3) (by omega)) (eqf_last (by simp) rfl ty3 (eq_mono (eq_int Try.underlying3) (by omega))) rfl)
theorem eg28 : Try.prog.eqGuardType Try.prog.depth 28 = false := by kernel_rfl
theorem ty29 : Ty Try.prog 29 rPattern := Ty.mk_ Try.underlying29 rfl (by kernel_rfl)
theorem z29 : TyZero Try.prog 29 rPattern ((0, 0) : TPattern) := zr_ty (by kernel_rfl) ((zr_pair (zr_int .i64) (zr_int .i64)))
theorem by29 : (Try.prog.info? 29).map (·.bytes) = some 16 := by kernel_rfl
theorem pl29 : plcs Try.prog 29 = some [(0, 1), (1, 1)] := by kernel_rfl
theorem fld29_0 : fld Try.prog 29 0 = some 0 := by kernel_rfl
theorem ln29_0 : Lens rPattern 0 (rInt .i64) (fun d => d.1) (fun d x => (x, d.2)) := (Lens.fst (Lens.id (rInt .i64)))
theorem fld29_1 : fld Try.prog 29 1 = some 1 := by kernel_rfl
theorem ln29_1 : Lens rPattern 1 (rInt .i64) (fun d => d.2) (fun d x => (d.1, x)) := (Lens.snd (Lens.id (rInt .i64)) rfl)
theorem eq29 : EqTy Try.prog 29 rPattern 2 := eq_struct rfl (by kernel_rfl) (fs := [⟨ "Mask", 3, 0, false, "", "", 0⟩, ⟨ "Bits", 3, 1, false, "", "", 8⟩]) (by kernel_rfl) (by kernel_rfl) (eqf_cons (by simp) rfl ty3 (eq_mono (eq_int Try.underlying3) (by omega)) (eqf_last (by simp) rfl ty3 (eq_mono (eq_int Try.underlying3) (by omega))) rfl)
theorem eg29 : Try.prog.eqGuardType Try.prog.depth 29 = false := by kernel_rfl
theorem ty25 : Ty Try.prog 25 (rSlice rPattern) := Ty.mk_ Try.underlying25 rfl (by kernel_rfl)
theorem z25 : TyZero Try.prog 25 (rSlice rPattern) ([] : (List TPattern)) := zr_ty (by kernel_rfl) (zr_slice)
theorem by25 : (Try.prog.info? 25).map (·.bytes) = some 24 := by kernel_rfl
theorem ty35 : Ty Try.prog 35 (rInt .i64) := Ty.mk_ Try.underlying35 rfl (by kernel_rfl)
theorem z35 : TyZero Try.prog 35 (rInt .i64) (0 : Int) := zr_ty (by kernel_rfl) (zr_int .i64)
theorem by35 : (Try.prog.info? 35).map (·.bytes) = some 8 := by kernel_rfl
theorem ty39 : Ty Try.prog 39 (rInt .u64) := Ty.mk_ Try.underlying39 rfl (by kernel_rfl)
theorem z39 : TyZero Try.prog 39 (rInt .u64) (0 : Int) := zr_ty (by kernel_rfl) (zr_int .u64)
theorem by39 : (Try.prog.info? 39).map (·.bytes) = some 8 := by kernel_rfl
theorem ty45 : Ty Try.prog 45 (rSlice rBool) := Ty.mk_ Try.underlying45 rfl (by kernel_rfl)
theorem z45 : TyZero Try.prog 45 (rSlice rBool) ([] : (List Bool)) := zr_ty (by kernel_rfl) (zr_slice)
theorem by45 : (Try.prog.info? 45).map (·.bytes) = some 24 := by kernel_rfl
theorem ty51 : Ty Try.prog 51 (rSlice (rInt .u8)) := Ty.mk_ Try.underlying51 rfl (by kernel_rfl)
theorem z51 : TyZero Try.prog 51 (rSlice (rInt .u8)) ([] : (List Int)) := zr_ty (by kernel_rfl) (zr_slice)
theorem by51 : (Try.prog.info? 51).map (·.bytes) = some 24 := by kernel_rfl
end Go.Proofs.Ytmdhmgngomlheaa
