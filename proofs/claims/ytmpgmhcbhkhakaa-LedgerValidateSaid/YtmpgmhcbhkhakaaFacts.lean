import Derived.Test.YtmpgmhcbhkhakaaEng11
import Derived.Test.YtmpgmhcbhkhakaaProg
import Derived.KernelRfl
namespace Go.Proofs.Ytmpgmhcbhkhakaa
open Go.Eng
set_option maxRecDepth 100000
theorem mo : Try.prog.follows .mixedOrders = true := by kernel_rfl

theorem ty3 : Ty Try.prog 3 (rInt .i64) := Ty.mk_ Try.underlying3 rfl (by kernel_rfl)
theorem z3 : TyZero Try.prog 3 (rInt .i64) (0 : Int) := zr_ty (by kernel_rfl) (zr_int .i64)
theorem by3 : (Try.prog.info? 3).map (·.bytes) = some 8 := by kernel_rfl
theorem ty4 : Ty Try.prog 4 rBool := Ty.mk_ Try.underlying4 rfl (by kernel_rfl)
theorem z4 : TyZero Try.prog 4 rBool (false : Bool) := zr_ty (by kernel_rfl) (zr_bool)
theorem by4 : (Try.prog.info? 4).map (·.bytes) = some 1 := by kernel_rfl
abbrev TPosting := Int × Int × Int × Int
@[reducible] def rPosting : RT TPosting := (rPair (rInt .i64) (rPair (rInt .i64) (rPair (rInt .i64) (rInt .i64))))
theorem ty36 : Ty Try.prog 36 rPosting := Ty.mk_ Try.underlying36 rfl (by kernel_rfl)
theorem z36 : TyZero Try.prog 36 rPosting ((0, (0, (0, 0))) : TPosting) := zr_ty (by kernel_rfl) ((zr_pair (zr_int .i64) ((zr_pair (zr_int .i64) ((zr_pair (zr_int .i64) (zr_int .i64)))))))
theorem by36 : (Try.prog.info? 36).map (·.bytes) = some 32 := by kernel_rfl
theorem pl36 : plcs Try.prog 36 = some [(0, 1), (1, 1), (2, 1), (3, 1)] := by kernel_rfl
theorem fld36_0 : fld Try.prog 36 0 = some 0 := by kernel_rfl
theorem ln36_0 : Lens rPosting 0 (rInt .i64) (fun d => d.1) (fun d x => (x, d.2)) := (Lens.fst (Lens.id (rInt .i64)))
theorem fld36_1 : fld Try.prog 36 1 = some 1 := by kernel_rfl
theorem ln36_1 : Lens rPosting 1 (rInt .i64) (fun d => d.2.1) (fun d x => (d.1, (x, d.2.2))) := (Lens.snd (Lens.fst (Lens.id (rInt .i64))) rfl)
theorem fld36_2 : fld Try.prog 36 2 = some 2 := by kernel_rfl
theorem ln36_2 : Lens rPosting 2 (rInt .i64) (fun d => d.2.2.1) (fun d x => (d.1, (d.2.1, (x, d.2.2.2)))) := (Lens.snd (Lens.snd (Lens.fst (Lens.id (rInt .i64))) rfl) rfl)
theorem fld36_3 : fld Try.prog 36 3 = some 3 := by kernel_rfl
theorem ln36_3 : Lens rPosting 3 (rInt .i64) (fun d => d.2.2.2) (fun d x => (d.1, (d.2.1, (d.2.2.1, x)))) := (Lens.snd (Lens.snd (Lens.snd (Lens.id (rInt .i64)) rfl) rfl) rfl)
theorem eq36 : EqTy Try.prog 36 rPosting 2 := eq_struct rfl (by kernel_rfl) (fs := [⟨ "Date", 3, 0, false, "", "", 0⟩, ⟨ "Month", 3, 1, false, "", "", 8⟩, ⟨ "Kind", 3, 2, false, "", "", 16⟩, ⟨ "Cents", 3, 3, false, "", "", 24⟩]) (by kernel_rfl) (by kernel_rfl) (eqf_cons (by simp) rfl ty3 (eq_mono (eq_int Try.underlying3) (by omega)) (eqf_cons (by simp) rfl ty3 (eq_mono (eq_int Try.underlying3) (by omega)) (eqf_cons (by simp) rfl ty3 (eq_mono (eq_int Try.underlying3) (by omega)) (eqf_last (by simp) rfl ty3 (eq_mono (eq_int Try.underlying3) (by omega))) rfl) rfl) rfl)
theorem eg36 : Try.prog.eqGuardType Try.prog.depth 36 = false := by kernel_rfl
theorem ty37 : Ty Try.prog 37 rPosting := Ty.mk_ Try.underlying37 rfl (by kernel_rfl)
theorem z37 : TyZero Try.prog 37 rPosting ((0, (0, (0, 0))) : TPosting) := zr_ty (by kernel_rfl) ((zr_pair (zr_int .i64) ((zr_pair (zr_int .i64) ((zr_pair (zr_int .i64) (zr_int .i64)))))))
theorem by37 : (Try.prog.info? 37).map (·.bytes) = some 32 := by kernel_rfl
theorem pl37 : plcs Try.prog 37 = some [(0, 1), (1, 1), (2, 1), (3, 1)] := by kernel_rfl
theorem fld37_0 : fld Try.prog 37 0 = some 0 := by kernel_rfl
theorem ln37_0 : Lens rPosting 0 (rInt .i64) (fun d => d.1) (fun d x => (x, d.2)) := (Lens.fst (Lens.id (rInt .i64)))
theorem fld37_1 : fld Try.prog 37 1 = some 1 := by kernel_rfl
theorem ln37_1 : Lens rPosting 1 (rInt .i64) (fun d => d.2.1) (fun d x => (d.1, (x, d.2.2))) := (Lens.snd (Lens.fst (Lens.id (rInt .i64))) rfl)
theorem fld37_2 : fld Try.prog 37 2 = some 2 := by kernel_rfl
theorem ln37_2 : Lens rPosting 2 (rInt .i64) (fun d => d.2.2.1) (fun d x => (d.1, (d.2.1, (x, d.2.2.2)))) := (Lens.snd (Lens.snd (Lens.fst (Lens.id (rInt .i64))) rfl) rfl)
theorem fld37_3 : fld Try.prog 37 3 = some 3 := by kernel_rfl
theorem ln37_3 : Lens rPosting 3 (rInt .i64) (fun d => d.2.2.2) (fun d x => (d.1, (d.2.1, (d.2.2.1, x)))) := (Lens.snd (Lens.snd (Lens.snd (Lens.id (rInt .i64)) rfl) rfl) rfl)
theorem eq37 : EqTy Try.prog 37 rPosting 2 := eq_struct rfl (by kernel_rfl) (fs := [⟨ "Date", 3, 0, false, "", "", 0⟩, ⟨ "Month", 3, 1, false, "", "", 8⟩, ⟨ "Kind", 3, 2, false, "", "", 16⟩, ⟨ "Cents", 3, 3, false, "", "", 24⟩]) (by kernel_rfl) (by kernel_rfl) (eqf_cons (by simp) rfl ty3 (eq_mono (eq_int Try.underlying3) (by omega)) (eqf_cons (by simp) rfl ty3 (eq_mono (eq_int Try.underlying3) (by omega)) (eqf_cons (by simp) rfl ty3 (eq_mono (eq_int Try.underlying3) (by omega)) (eqf_last (by simp) rfl ty3 (eq_mono (eq_int Try.underlying3) (by omega))) rfl) rfl) rfl)
theorem eg37 : Try.prog.eqGuardType Try.prog.depth 37 = false := by kernel_rfl
theorem ty22 : Ty Try.prog 22 (rSlice rPosting) := Ty.mk_ Try.underlying22 rfl (by kernel_rfl)
theorem z22 : TyZero Try.prog 22 (rSlice rPosting) ([] : (List TPosting)) := zr_ty (by kernel_rfl) (zr_slice)
theorem by22 : (Try.prog.info? 22).map (·.bytes) = some 24 := by kernel_rfl
theorem ty24 : Ty Try.prog 24 (rInt .i64) := Ty.mk_ Try.underlying24 rfl (by kernel_rfl)
theorem z24 : TyZero Try.prog 24 (rInt .i64) (0 : Int) := zr_ty (by kernel_rfl) (zr_int .i64)
theorem by24 : (Try.prog.info? 24).map (·.bytes) = some 8 := by kernel_rfl
abbrev TDateRange := Int × Int
@[reducible] def rDateRange : RT TDateRange := (rPair (rInt .i64) (rInt .i64))
theorem ty28 : Ty Try.prog 28 rDateRange := Ty.mk_ Try.underlying28 rfl (by kernel_rfl)
theorem z28 : TyZero Try.prog 28 rDateRange ((0, 0) : TDateRange) := zr_ty (by kernel_rfl) ((zr_pair (zr_int .i64) (zr_int .i64)))
theorem by28 : (Try.prog.info? 28).map (·.bytes) = some 16 := by kernel_rfl
theorem pl28 : plcs Try.prog 28 = some [(0, 1), (1, 1)] := by kernel_rfl
theorem fld28_0 : fld Try.prog 28 0 = some 0 := by kernel_rfl
theorem ln28_0 : Lens rDateRange 0 (rInt .i64) (fun d => d.1) (fun d x => (x, d.2)) := (Lens.fst (Lens.id (rInt .i64)))
theorem fld28_1 : fld Try.prog 28 1 = some 1 := by kernel_rfl
theorem ln28_1 : Lens rDateRange 1 (rInt .i64) (fun d => d.2) (fun d x => (d.1, x)) := (Lens.snd (Lens.id (rInt .i64)) rfl)
theorem eq28 : EqTy Try.prog 28 rDateRange 2 := eq_struct rfl (by kernel_rfl) (fs := [⟨ "From", 3, 0, false, "", "", 0⟩, ⟨ "To", 3, 1, false, "", "", 8⟩]) (by kernel_rfl) (by kernel_rfl) (eqf_cons (by simp) rfl ty3 (eq_mono (eq_int Try.underlying3) (by omega)) (eqf_last (by simp) rfl ty3 (eq_mono (eq_int Try.underlying3) (by omega))) rfl)
theorem eg28 : Try.prog.eqGuardType Try.prog.depth 28 = false := by kernel_rfl
theorem ty29 : Ty Try.prog 29 rDateRange := Ty.mk_ Try.underlying29 rfl (by kernel_rfl)
theorem z29 : TyZero Try.prog 29 rDateRange ((0, 0) : TDateRange) := zr_ty (by kernel_rfl) ((zr_pair (zr_int .i64) (zr_int .i64)))
theorem by29 : (Try.prog.info? 29).map (·.bytes) = some 16 := by kernel_rfl
theorem pl29 : plcs Try.prog 29 = some [(0, 1), (1, 1)] := by kernel_rfl
theorem fld29_0 : fld Try.prog 29 0 = some 0 := by kernel_rfl
theorem ln29_0 : Lens rDateRange 0 (rInt .i64) (fun d => d.1) (fun d x => (x, d.2)) := (Lens.fst (Lens.id (rInt .i64)))
theorem fld29_1 : fld Try.prog 29 1 = some 1 := by kernel_rfl
theorem ln29_1 : Lens rDateRange 1 (rInt .i64) (fun d => d.2) (fun d x => (d.1, x)) := (Lens.snd (Lens.id (rInt .i64)) rfl)
theorem eq29 : EqTy Try.prog 29 rDateRange 2 := eq_struct rfl (by kernel_rfl) (fs := [⟨ "From", 3, 0, false, "", "", 0⟩, ⟨ "To", 3, 1, false, "", "", 8⟩]) (by kernel_rfl) (by kernel_rfl) (eqf_cons (by simp) rfl ty3 (eq_mono (eq_int Try.underlying3) (by omega)) (eqf_last (by simp) rfl ty3 (eq_mono (eq_int Try.underlying3) (by omega))) rfl)
theorem eg29 : Try.prog.eqGuardType Try.prog.depth 29 = false := by kernel_rfl
theorem ty34 : Ty Try.prog 34 (rSlice (rInt .i64)) := Ty.mk_ Try.underlying34 rfl (by kernel_rfl)
theorem z34 : TyZero Try.prog 34 (rSlice (rInt .i64)) ([] : (List Int)) := zr_ty (by kernel_rfl) (zr_slice)
theorem by34 : (Try.prog.info? 34).map (·.bytes) = some 24 := by kernel_rfl
end Go.Proofs.Ytmpgmhcbhkhakaa
