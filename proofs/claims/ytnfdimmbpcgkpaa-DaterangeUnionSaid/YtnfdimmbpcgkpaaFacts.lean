import Derived.Test.YtnfdimmbpcgkpaaEng11
import Derived.Test.YtnfdimmbpcgkpaaProg
import Derived.KernelRfl
namespace Go.Proofs.Ytnfdimmbpcgkpaa
open Go.Eng
set_option maxRecDepth 100000
theorem mo : Try.prog.follows .mixedOrders = true := by kernel_rfl

theorem ty3 : Ty Try.prog 3 (rInt .i64) := Ty.mk_ Try.underlying3 rfl (by kernel_rfl)
theorem z3 : TyZero Try.prog 3 (rInt .i64) (0 : Int) := zr_ty (by kernel_rfl) (zr_int .i64)
theorem by3 : (Try.prog.info? 3).map (·.bytes) = some 8 := by kernel_rfl
theorem ty4 : Ty Try.prog 4 rBool := Ty.mk_ Try.underlying4 rfl (by kernel_rfl)
theorem z4 : TyZero Try.prog 4 rBool (false : Bool) := zr_ty (by kernel_rfl) (zr_bool)
theorem by4 : (Try.prog.info? 4).map (·.bytes) = some 1 := by kernel_rfl
theorem ty5 : Ty Try.prog 5 (rInt .u8) := Ty.mk_ Try.underlying5 rfl (by kernel_rfl)
theorem z5 : TyZero Try.prog 5 (rInt .u8) (0 : Int) := zr_ty (by kernel_rfl) (zr_int .u8)
theorem by5 : (Try.prog.info? 5).map (·.bytes) = some 1 := by kernel_rfl
abbrev TDateRange := Int × Int
@[reducible] def rDateRange : RT TDateRange := (rPair (rInt .i64) (rInt .i64))
theorem ty23 : Ty Try.prog 23 rDateRange := Ty.mk_ Try.underlying23 rfl (by kernel_rfl)
theorem z23 : TyZero Try.prog 23 rDateRange ((0, 0) : TDateRange) := zr_ty (by kernel_rfl) ((zr_pair (zr_int .i64) (zr_int .i64)))
theorem by23 : (Try.prog.info? 23).map (·.bytes) = some 16 := by kernel_rfl
theorem pl23 : plcs Try.prog 23 = some [(0, 1), (1, 1)] := by kernel_rfl
theorem fld23_0 : fld Try.prog 23 0 = some 0 := by kernel_rfl
theorem ln23_0 : Lens rDateRange 0 (rInt .i64) (fun d => d.1) (fun d x => (x, d.2)) := (Lens.fst (Lens.id (rInt .i64)))
theorem fld23_1 : fld Try.prog 23 1 = some 1 := by kernel_rfl
theorem ln23_1 : Lens rDateRange 1 (rInt .i64) (fun d => d.2) (fun d x => (d.1, x)) := (Lens.snd (Lens.id (rInt .i64)) rfl)
theorem eq23 : EqTy Try.prog 23 rDateRange 2 := eq_struct rfl (by kernel_rfl) (fs := [⟨ "From", 3, 0, false, "", "", 0⟩, ⟨ "To", 3, 1, false, "", "", 8⟩]) (by kernel_rfl) (by kernel_rfl) (eqf_cons (by simp) rfl ty3 (eq_mono (eq_int Try.underlying3) (by omega)) (eqf_last (by simp) rfl ty3 (eq_mono (eq_int Try.underlying3) (by omega))) rfl)
theorem eg23 : Try.prog.eqGuardType Try.prog.depth 23 = false := by kernel_rfl
theorem ty24 : Ty Try.prog 24 rDateRange := Ty.mk_ Try.underlying24 rfl (by kernel_rfl)
theorem z24 : TyZero Try.prog 24 rDateRange ((0, 0) : TDateRange) := zr_ty (by kernel_rfl) ((zr_pair (zr_int .i64) (zr_int .i64)))
theorem by24 : (Try.prog.info? 24).map (·.bytes) = some 16 := by kernel_rfl
theorem pl24 : plcs Try.prog 24 = some [(0, 1), (1, 1)] := by kernel_rfl
theorem fld24_0 : fld Try.prog 24 0 = some 0 := by kernel_rfl
theorem ln24_0 : Lens rDateRange 0 (rInt .i64) (fun d => d.1) (fun d x => (x, d.2)) := (Lens.fst (Lens.id (rInt .i64)))
theorem fld24_1 : fld Try.prog 24 1 = some 1 := by kernel_rfl
theorem ln24_1 : Lens rDateRange 1 (rInt .i64) (fun d => d.2) (fun d x => (d.1, x)) := (Lens.snd (Lens.id (rInt .i64)) rfl)
theorem eq24 : EqTy Try.prog 24 rDateRange 2 := eq_struct rfl (by kernel_rfl) (fs := [⟨ "From", 3, 0, false, "", "", 0⟩, ⟨ "To", 3, 1, false, "", "", 8⟩]) (by kernel_rfl) (by kernel_rfl) (eqf_cons (by simp) rfl ty3 (eq_mono (eq_int Try.underlying3) (by omega)) (eqf_last (by simp) rfl ty3 (eq_mono (eq_int Try.underlying3) (by omega))) rfl)
theorem eg24 : Try.prog.eqGuardType Try.prog.depth 24 = false := by kernel_rfl
theorem ty22 : Ty Try.prog 22 (rSlice rDateRange) := Ty.mk_ Try.underlying22 rfl (by kernel_rfl)
theorem z22 : TyZero Try.prog 22 (rSlice rDateRange) ([] : (List TDateRange)) := zr_ty (by kernel_rfl) (zr_slice)
theorem by22 : (Try.prog.info? 22).map (·.bytes) = some 24 := by kernel_rfl
theorem ty31 : Ty Try.prog 31 (rSlice (rInt .i64)) := Ty.mk_ Try.underlying31 rfl (by kernel_rfl)
theorem z31 : TyZero Try.prog 31 (rSlice (rInt .i64)) ([] : (List Int)) := zr_ty (by kernel_rfl) (zr_slice)
theorem by31 : (Try.prog.info? 31).map (·.bytes) = some 24 := by kernel_rfl
end Go.Proofs.Ytnfdimmbpcgkpaa
