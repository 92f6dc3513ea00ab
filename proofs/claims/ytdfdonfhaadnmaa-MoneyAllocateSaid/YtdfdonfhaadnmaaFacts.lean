import Derived.Test.YtdfdonfhaadnmaaEng11
import Derived.Test.YtdfdonfhaadnmaaProg
import Derived.KernelRfl
namespace Go.Proofs.Ytdfdonfhaadnmaa
open Go.Eng
set_option maxRecDepth 100000
theorem mo : Try.prog.follows .mixedOrders = true := by kernel_rfl

theorem ty3 : Ty Try.prog 3 (rInt .i64) := Ty.mk_ Try.underlying3 rfl (by kernel_rfl)
theorem z3 : TyZero Try.prog 3 (rInt .i64) (0 : Int) := zr_ty (by kernel_rfl) (zr_int .i64)
theorem by3 : (Try.prog.info? 3).map (·.bytes) = some 8 := by kernel_rfl
theorem ty4 : Ty Try.prog 4 rBool := Ty.mk_ Try.underlying4 rfl (by kernel_rfl)
theorem z4 : TyZero Try.prog 4 rBool (false : Bool) := zr_ty (by kernel_rfl) (zr_bool)
theorem by4 : (Try.prog.info? 4).map (·.bytes) = some 1 := by kernel_rfl
theorem ty22 : Ty Try.prog 22 (rInt .i64) := Ty.mk_ Try.underlying22 rfl (by kernel_rfl)
theorem z22 : TyZero Try.prog 22 (rInt .i64) (0 : Int) := zr_ty (by kernel_rfl) (zr_int .i64)
theorem by22 : (Try.prog.info? 22).map (·.bytes) = some 8 := by kernel_rfl
theorem ty29 : Ty Try.prog 29 (rSlice (rInt .i64)) := Ty.mk_ Try.underlying29 rfl (by kernel_rfl)
theorem z29 : TyZero Try.prog 29 (rSlice (rInt .i64)) ([] : (List Int)) := zr_ty (by kernel_rfl) (zr_slice)
theorem by29 : (Try.prog.info? 29).map (·.bytes) = some 24 := by kernel_rfl
theorem ty39 : Ty Try.prog 39 (rInt .u64) := Ty.mk_ Try.underlying39 rfl (by kernel_rfl)
theorem z39 : TyZero Try.prog 39 (rInt .u64) (0 : Int) := zr_ty (by kernel_rfl) (zr_int .u64)
theorem by39 : (Try.prog.info? 39).map (·.bytes) = some 8 := by kernel_rfl
theorem ty47 : Ty Try.prog 47 (rSlice (rInt .u64)) := Ty.mk_ Try.underlying47 rfl (by kernel_rfl)
theorem z47 : TyZero Try.prog 47 (rSlice (rInt .u64)) ([] : (List Int)) := zr_ty (by kernel_rfl) (zr_slice)
theorem by47 : (Try.prog.info? 47).map (·.bytes) = some 24 := by kernel_rfl
end Go.Proofs.Ytdfdonfhaadnmaa
