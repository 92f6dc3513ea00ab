import Derived.Test.YtfmoolclokffjaaEng11
import Derived.Test.YtfmoolclokffjaaProg
import Derived.KernelRfl
namespace Go.Proofs.Ytfmoolclokffjaa
open Go.Eng
set_option maxRecDepth 100000
theorem mo : Try.prog.follows .mixedOrders = true := by kernel_rfl

theorem ty3 : Ty Try.prog 3 (rInt .i64) := Ty.mk_ Try.underlying3 rfl (by kernel_rfl)
theorem z3 : TyZero Try.prog 3 (rInt .i64) (0 : Int) := zr_ty (by kernel_rfl) (zr_int .i64)
theorem by3 : (Try.prog.info? 3).map (·.bytes) = some 8 := by kernel_rfl
theorem ty4 : Ty Try.prog 4 rBool := Ty.mk_ Try.underlying4 rfl (by kernel_rfl)
theorem z4 : TyZero Try.prog 4 rBool (false : Bool) := zr_ty (by kernel_rfl) (zr_bool)
theorem by4 : (Try.prog.info? 4).map (·.bytes) = some 1 := by kernel_rfl
theorem ty5 : Ty Try.prog 5 (rInt .u8) := Ty.mk_ Try.underlying5 rfl (by kernel_rfl)
theorem z5 : TyZero Try.prog 5 (rInt .u8) (0 : Int) := zr_ty (by kernel_rfl) (zr_int .u8)
theorem by5 : (Try.prog.info? 5).map (·.bytes) = some 1 := by kernel_rfl
theorem ty22 : Ty Try.prog 22 (rSlice (rInt .i64)) := Ty.mk_ Try.underlying22 rfl (by kernel_rfl)
theorem z22 : TyZero Try.prog 22 (rSlice (rInt .i64)) ([] : (List Int)) := zr_ty (by kernel_rfl) (zr_slice)
theorem by22 : (Try.prog.info? 22).map (·.bytes) = some 24 := by kernel_rfl
abbrev TBucket := Int × Int × Int × Int
@[reducible] def rBucket : RT TBucket := (rPair (rInt .i64) (rPair (rInt .i64) (rPair (rInt .i64) (rInt .i64))))
theorem ty43 : Ty Try.prog 43 rBucket := Ty.mk_ Try.underlying43 rfl (by kernel_rfl)
theorem z43 : TyZero Try.prog 43 rBucket ((0, (0, (0, 0))) : TBucket) := zr_ty (by kernel_rfl) ((zr_pair (zr_int .i64) ((zr_pair (zr_int .i64) ((zr_pair (zr_int .i64) (zr_int .i64)))))))
theorem by43 : (Try.prog.info? 43).map (·.bytes) = some 32 := by kernel_rfl
theorem pl43 : plcs Try.prog 43 = some [(0, 1), (1, 1), (2, 1), (3, 1)] := by kernel_rfl
theorem fld43_0 : fld Try.prog 43 0 = some 0 := by kernel_rfl
theorem ln43_0 : Lens rBucket 0 (rInt .i64) (fun d => d.1) (fun d x => (x, d.2)) := (Lens.fst (Lens.id (rInt .i64)))
theorem fld43_1 : fld Try.prog 43 1 = some 1 := by kernel_rfl
theorem ln43_1 : Lens rBucket 1 (rInt .i64) (fun d => d.2.1) (fun d x => (d.1, (x, d.2.2))) := (Lens.snd (Lens.fst (Lens.id (rInt .i64))) rfl)
theorem fld43_2 : fld Try.prog 43 2 = some 2 := by kernel_rfl
theorem ln43_2 : Lens rBucket 2 (rInt .i64) (fun d => d.2.2.1) (fun d x => (d.1, (d.2.1, (x, d.2.2.2)))) := (Lens.snd (Lens.snd (Lens.fst (Lens.id (rInt .i64))) rfl) rfl)
theorem fld43_3 : fld Try.prog 43 3 = some 3 := by kernel_rfl
theorem ln43_3 : Lens rBucket 3 (rInt .i64) (fun d => d.2.2.2) (fun d x => (d.1, (d.2.1, (d.2.2.1, x)))) := (Lens.snd (Lens.snd (Lens.snd (Lens.id (rInt .i64)) rfl) rfl) rfl)
theorem eq43 : EqTy Try.prog 43 rBucket 2 := eq_struct rfl (by kernel_rfl) (fs := [⟨ "Lo", 3, 0, false, "", "", 0⟩, ⟨ "Hi", 3, 1, false, "", "", 8⟩, ⟨ "Count", 3, 2, false, "", "", 16⟩, ⟨ "Sum", 3, 3, false, "", "", 24⟩]) (by kernel_rfl) (by kernel_rfl) (eqf_cons (by simp) rfl ty3 (eq_mono (eq_int Try.underlying3) (by omega)) (eqf_cons (by simp) rfl ty3 (eq_mono (eq_int Try.underlying3) (by omega)) (eqf_cons (by simp) rfl ty3 (eq_mono (eq_int Try.underlying3) (by omega)) (eqf_last (by simp) rfl ty3 (eq_mono (eq_int Try.underlying3) (by omega))) rfl) rfl) rfl)
theorem eg43 : Try.prog.eqGuardType Try.prog.depth 43 = false := by kernel_rfl
theorem ty44 : Ty Try.prog 44 rBucket := Ty.mk_ Try.underlying44 rfl (by kernel_rfl)
theorem z44 : TyZero Try.prog 44 rBucket ((0, (0, (0, 0))) : TBucket) := zr_ty (by kernel_rfl) ((zr_pair (zr_int .i64) ((zr_pair (zr_int .i64) ((zr_pair (zr_int .i64) (zr_int .i64)))))))
theorem by44 : (Try.prog.info? 44).map (·.bytes) = some 32 := by kernel_rfl
theorem pl44 : plcs Try.prog 44 = some [(0, 1), (1, 1), (2, 1), (3, 1)] := by kernel_rfl
theorem fld44_0 : fld Try.prog 44 0 = some 0 := by kernel_rfl
theorem ln44_0 : Lens rBucket 0 (rInt .i64) (fun d => d.1) (fun d x => (x, d.2)) := (Lens.fst (Lens.id (rInt .i64)))
theorem fld44_1 : fld Try.prog 44 1 = some 1 := by kernel_rfl
theorem ln44_1 : Lens rBucket 1 (rInt .i64) (fun d => d.2.1) (fun d x => (d.1, (x, d.2.2))) := (Lens.snd (Lens.fst (Lens.id (rInt .i64))) rfl)
theorem fld44_2 : fld Try.prog 44 2 = some 2 := by kernel_rfl
theorem ln44_2 : Lens rBucket 2 (rInt .i64) (fun d => d.2.2.1) (fun d x => (d.1, (d.2.1, (x, d.2.2.2)))) := (Lens.snd (Lens.snd (Lens.fst (Lens.id (rInt .i64))) rfl) rfl)
theorem fld44_3 : fld Try.prog 44 3 = some 3 := by kernel_rfl
theorem ln44_3 : Lens rBucket 3 (rInt .i64) (fun d => d.2.2.2) (fun d x => (d.1, (d.2.1, (d.2.2.1, x)))) := (Lens.snd (Lens.snd (Lens.snd (Lens.id (rInt .i64)) rfl) rfl) rfl)
theorem eq44 : EqTy Try.prog 44 rBucket 2 := eq_struct rfl (by kernel_rfl) (fs := [⟨ "Lo", 3, 0, false, "", "", 0⟩, ⟨ "Hi", 3, 1, false, "", "", 8⟩, ⟨ "Count", 3, 2, false, "", "", 16⟩, ⟨ "Sum", 3, 3, false, "", "", 24⟩]) (by kernel_rfl) (by kernel_rfl) (eqf_cons (by simp) rfl ty3 (eq_mono (eq_int Try.underlying3) (by omega)) (eqf_cons (by simp) rfl ty3 (eq_mono (eq_int Try.underlying3) (by omega)) (eqf_cons (by simp) rfl ty3 (eq_mono (eq_int Try.underlying3) (by omega)) (eqf_last (by simp) rfl ty3 (eq_mono (eq_int Try.underlying3) (by omega))) rfl) rfl) rfl)
theorem eg44 : Try.prog.eqGuardType Try.prog.depth 44 = false := by kernel_rfl
theorem ty28 : Ty Try.prog 28 (rSlice rBucket) := Ty.mk_ Try.underlying28 rfl (by kernel_rfl)
theorem z28 : TyZero Try.prog 28 (rSlice rBucket) ([] : (List TBucket)) := zr_ty (by kernel_rfl) (zr_slice)
theorem by28 : (Try.prog.info? 28).map (·.bytes) = some 24 := by kernel_rfl
theorem ty29 : Ty Try.prog 29 (rInt .i64) := Ty.mk_ Try.underlying29 rfl (by kernel_rfl)
theorem z29 : TyZero Try.prog 29 (rInt .i64) (0 : Int) := zr_ty (by kernel_rfl) (zr_int .i64)
theorem by29 : (Try.prog.info? 29).map (·.bytes) = some 8 := by kernel_rfl
theorem ty57 : Ty Try.prog 57 (rInt .u64) := Ty.mk_ Try.underlying57 rfl (by kernel_rfl)
theorem z57 : TyZero Try.prog 57 (rInt .u64) (0 : Int) := zr_ty (by kernel_rfl) (zr_int .u64)
theorem by57 : (Try.prog.info? 57).map (·.bytes) = some 8 := by kernel_rfl
theorem ty59 : Ty Try.prog 59 (rSlice (rInt .u64)) := Ty.mk_ Try.underlying59 rfl (by kernel_rfl)
theorem z59 : TyZero Try.prog 59 (rSlice (rInt .u64)) ([] : (List Int)) := zr_ty (by kernel_rfl) (zr_slice)
theorem by59 : (Try.prog.info? 59).map (·.bytes) = some 24 := by kernel_rfl
end Go.Proofs.Ytfmoolclokffjaa
