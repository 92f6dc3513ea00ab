import Derived.Test.YtfamnoalgjkjhaaM3
import Derived.Test.YtfamnoalgjkjhaaProg
import Derived.KernelRfl
namespace Go.Proofs.Ytfamnoalgjkjhaa
open Go.Eng
set_option maxRecDepth 100000
theorem mo : Try.prog.follows .mixedOrders = true := by kernel_rfl

theorem ty3 : Ty Try.prog 3 (rInt .i64) := Ty.mk_ Try.underlying3 rfl (by kernel_rfl)
theorem z3 : TyZero Try.prog 3 (rInt .i64) (0 : Int) := zr_ty (by kernel_rfl) (zr_int .i64)
theorem by3 : (Try.prog.info? 3).map (·.bytes) = some 8 := by kernel_rfl
theorem ty4 : Ty Try.prog 4 rBool := Ty.mk_ Try.underlying4 rfl (by kernel_rfl)
theorem z4 : TyZero Try.prog 4 rBool (false : Bool) := zr_ty (by kernel_rfl) (zr_bool)
theorem by4 : (Try.prog.info? 4).map (·.bytes) = some 1 := by kernel_rfl
abbrev TValue := Int × Int × Int
@[reducible] def rValue : RT TValue := (rPair (rInt .i64) (rPair (rInt .i64) (rInt .i64)))
theorem ty29 : Ty Try.prog 29 rValue := Ty.mk_ Try.underlying29 rfl (by kernel_rfl)
theorem z29 : TyZero Try.prog 29 rValue ((0, (0, 0)) : TValue) := zr_ty (by kernel_rfl) ((zr_pair (zr_int .i64) ((zr_pair (zr_int .i64) (zr_int .i64)))))
theorem by29 : (Try.prog.info? 29).map (·.bytes) = some 24 := by kernel_rfl
theorem pl29 : plcs Try.prog 29 = some [(0, 1), (1, 1), (2, 1)] := by kernel_rfl
theorem fld29_0 : fld Try.prog 29 0 = some 0 := by kernel_rfl
theorem ln29_0 : Lens rValue 0 (rInt .i64) (fun d => d.1) (fun d x => (x, d.2)) := (Lens.fst (Lens.id (rInt .i64)))
theorem fld29_1 : fld Try.prog 29 1 = some 1 := by kernel_rfl
theorem ln29_1 : Lens rValue 1 (rInt .i64) (fun d => d.2.1) (fun d x => (d.1, (x, d.2.2))) := (Lens.snd (Lens.fst (Lens.id (rInt .i64))) rfl)
theorem fld29_2 : fld Try.prog 29 2 = some 2 := by kernel_rfl
theorem ln29_2 : Lens rValue 2 (rInt .i64) (fun d => d.2.2) (fun d x => (d.1, (d.2.1, x))) := (Lens.snd (Lens.snd (Lens.id (rInt .i64)) rfl) rfl)
theorem eq29 : EqTy Try.prog 29 rValue 2 := eq_struct rfl (by kernel_rfl) (fs := [⟨ "Kind", 3, 0, false, "", "", 0⟩, ⟨ "Enum", 3, 1, false, "", "", 8⟩, ⟨ "N", 3, 2, false, "", "", 16⟩]) (by kernel_rfl) (by kernel_rfl) (eqf_cons (by simp) rfl ty3 (eq_mono (eq_int Try.underlying3) (by omega)) (eqf_cons (by simp) rfl ty3 (eq_mono (eq_int Try.underlying3) (by omega)) (eqf_last (by simp) rfl ty3 (eq_mono (eq_int Try.underlying3) (by omega))) rfl) rfl)
theorem eg29 : Try.prog.eqGuardType Try.prog.depth 29 = false := by kernel_rfl
theorem ty30 : Ty Try.prog 30 rValue := Ty.mk_ Try.underlying30 rfl (by kernel_rfl)
theorem z30 : TyZero Try.prog 30 rValue ((0, (0, 0)) : TValue) := zr_ty (by kernel_rfl) ((zr_pair (zr_int .i64) ((zr_pair (zr_int .i64) (zr_int .i64)))))
theorem by30 : (Try.prog.info? 30).map (·.bytes) = some 24 := by kernel_rfl
theorem pl30 : plcs Try.prog 30 = some [(0, 1), (1, 1), (2, 1)] := by kernel_rfl
theorem fld30_0 : fld Try.prog 30 0 = some 0 := by kernel_rfl
theorem ln30_0 : Lens rValue 0 (rInt .i64) (fun d => d.1) (fun d x => (x, d.2)) := (Lens.fst (Lens.id (rInt .i64)))
theorem fld30_1 : fld Try.prog 30 1 = some 1 := by kernel_rfl
theorem ln30_1 : Lens rValue 1 (rInt .i64) (fun d => d.2.1) (fun d x => (d.1, (x, d.2.2))) := (Lens.snd (Lens.fst (Lens.id (rInt .i64))) rfl)
theorem fld30_2 : fld Try.prog 30 2 = some 2 := by kernel_rfl
theorem ln30_2 : Lens rValue 2 (rInt .i64) (fun d => d.2.2) (fun d x => (d.1, (d.2.1, x))) := (Lens.snd (Lens.snd (Lens.id (rInt .i64)) rfl) rfl)
theorem eq30 : EqTy Try.prog 30 rValue 2 := eq_struct rfl (by kernel_rfl) (fs := [⟨ "Kind", 3, 0, false, "", "", 0⟩, ⟨ "Enum", 3, 1, false, "", "", 8⟩, ⟨ "N", 3, 2, false, "", "", 16⟩]) (by kernel_rfl) (by kernel_rfl) (eqf_cons (by simp) rfl ty3 (eq_mono (eq_int Try.underlying3) (by omega)) (eqf_cons (by simp) rfl ty3 (eq_mono (eq_int Try.underlying3) (by omega)) (eqf_last (by simp) rfl ty3 (eq_mono (eq_int Try.underlying3) (by omega))) rfl) rfl)
theorem eg30 : Try.prog.eqGuardType Try.prog.depth 30 = false := by kernel_rfl
abbrev TDateRange := Int × Int
@[reducible] def rDateRange : RT TDateRange := (rPair (rInt .i64) (rInt .i64))
theorem ty39 : Ty Try.prog 39 rDateRange := Ty.mk_ Try.underlying39 rfl (by kernel_rfl)
theorem z39 : TyZero Try.prog 39 rDateRange ((0, 0) : TDateRange) := zr_ty (by kernel_rfl) ((zr_pair (zr_int .i64) (zr_int .i64)))
theorem by39 : (Try.prog.info? 39).map (·.bytes) = some 16 := by kernel_rfl
theorem pl39 : plcs Try.prog 39 = some [(0, 1), (1, 1)] := by kernel_rfl
theorem fld39_0 : fld Try.prog 39 0 = some 0 := by kernel_rfl
theorem ln39_0 : Lens rDateRange 0 (rInt .i64) (fun d => d.1) (fun d x => (x, d.2)) := (Lens.fst (Lens.id (rInt .i64)))
theorem fld39_1 : fld Try.prog 39 1 = some 1 := by kernel_rfl
theorem ln39_1 : Lens rDateRange 1 (rInt .i64) (fun d => d.2) (fun d x => (d.1, x)) := (Lens.snd (Lens.id (rInt .i64)) rfl)
theorem eq39 : EqTy Try.prog 39 rDateRange 2 := eq_struct rfl (by kernel_rfl) (fs := [⟨ "From", 3, 0, false, "", "", 0⟩, ⟨ "To", 3, 1, false, "", "", 8⟩]) (by kernel_rfl) (by kernel_rfl) (eqf_cons (by simp) rfl ty3 (eq_mono (eq_int Try.underlying3) (by omega)) (eqf_last (by simp) rfl ty3 (eq_mono (eq_int Try.underlying3) (by omega))) rfl)
theorem eg39 : Try.prog.eqGuardType Try.prog.depth 39 = false := by kernel_rfl
theorem ty40 : Ty Try.prog 40 rDateRange := Ty.mk_ Try.underlying40 rfl (by kernel_rfl)
theorem z40 : TyZero Try.prog 40 rDateRange ((0, 0) : TDateRange) := zr_ty (by kernel_rfl) ((zr_pair (zr_int .i64) (zr_int .i64)))
theorem by40 : (Try.prog.info? 40).map (·.bytes) = some 16 := by kernel_rfl
theorem pl40 : plcs Try.prog 40 = some [(0, 1), (1, 1)] := by kernel_rfl
theorem fld40_0 : fld Try.prog 40 0 = some 0 := by kernel_rfl
theorem ln40_0 : Lens rDateRange 0 (rInt .i64) (fun d => d.1) (fun d x => (x, d.2)) := (Lens.fst (Lens.id (rInt .i64)))
theorem fld40_1 : fld Try.prog 40 1 = some 1 := by kernel_rfl
theorem ln40_1 : Lens rDateRange 1 (rInt .i64) (fun d => d.2) (fun d x => (d.1, x)) := (Lens.snd (Lens.id (rInt .i64)) rfl)
theorem eq40 : EqTy Try.prog 40 rDateRange 2 := eq_struct rfl (by kernel_rfl) (fs := [⟨ "From", 3, 0, false, "", "", 0⟩, ⟨ "To", 3, 1, false, "", "", 8⟩]) (by kernel_rfl) (by kernel_rfl) (eqf_cons (by simp) rfl ty3 (eq_mono (eq_int Try.underlying3) (by omega)) (eqf_last (by simp) rfl ty3 (eq_mono (eq_int Try.underlying3) (by omega))) rfl)
theorem eg40 : Try.prog.eqGuardType Try.prog.depth 40 = false := by kernel_rfl
abbrev TFact := Int × Int × Int × TValue × TDateRange × Int
@[reducible] def rFact : RT TFact := (rPair (rInt .i64) (rPair (rInt .i64) (rPair (rInt .i64) (rPair rValue (rPair rDateRange (rInt .i64))))))
theorem ty44 : Ty Try.prog 44 rFact := Ty.mk_ Try.underlying44 rfl (by kernel_rfl)
theorem z44 : TyZero Try.prog 44 rFact ((0, (0, (0, ((0, (0, 0)), ((0, 0), 0))))) : TFact) := zr_ty (by kernel_rfl) ((zr_pair (zr_int .i64) ((zr_pair (zr_int .i64) ((zr_pair (zr_int .i64) ((zr_pair ((zr_pair (zr_int .i64) ((zr_pair (zr_int .i64) (zr_int .i64))))) ((zr_pair ((zr_pair (zr_int .i64) (zr_int .i64))) (zr_int .i64)))))))))))
theorem by44 : (Try.prog.info? 44).map (·.bytes) = some 72 := by kernel_rfl
theorem pl44 : plcs Try.prog 44 = some [(0, 1), (1, 1), (2, 1), (3, 3), (6, 2), (8, 1)] := by kernel_rfl
theorem fld44_0 : fld Try.prog 44 0 = some 0 := by kernel_rfl
theorem ln44_0 : Lens rFact 0 (rInt .i64) (fun d => d.1) (fun d x => (x, d.2)) := (Lens.fst (Lens.id (rInt .i64)))
theorem fld44_1 : fld Try.prog 44 1 = some 1 := by kernel_rfl
theorem ln44_1 : Lens rFact 1 (rInt .i64) (fun d => d.2.1) (fun d x => (d.1, (x, d.2.2))) := (Lens.snd (Lens.fst (Lens.id (rInt .i64))) rfl)
theorem fld44_2 : fld Try.prog 44 2 = some 2 := by kernel_rfl
theorem ln44_2 : Lens rFact 2 (rInt .i64) (fun d => d.2.2.1) (fun d x => (d.1, (d.2.1, (x, d.2.2.2)))) := (Lens.snd (Lens.snd (Lens.fst (Lens.id (rInt .i64))) rfl) rfl)
theorem fld44_3 : fld Try.prog 44 3 = some 3 := by kernel_rfl
theorem ln44_3 : Lens rFact 3 rValue (fun d => d.2.2.2.1) (fun d x => (d.1, (d.2.1, (d.2.2.1, (x, d.2.2.2.2))))) := (Lens.snd (Lens.snd (Lens.snd (Lens.fst (Lens.id rValue)) rfl) rfl) rfl)
theorem fld44_4 : fld Try.prog 44 4 = some 6 := by kernel_rfl
theorem ln44_4 : Lens rFact 6 rDateRange (fun d => d.2.2.2.2.1) (fun d x => (d.1, (d.2.1, (d.2.2.1, (d.2.2.2.1, (x, d.2.2.2.2.2)))))) := (Lens.snd (Lens.snd (Lens.snd (Lens.snd (Lens.fst (Lens.id rDateRange)) rfl) rfl) rfl) rfl)
theorem fld44_5 : fld Try.prog 44 5 = some 8 := by kernel_rfl
theorem ln44_5 : Lens rFact 8 (rInt .i64) (fun d => d.2.2.2.2.2) (fun d x => (d.1, (d.2.1, (d.2.2.1, (d.2.2.2.1, (d.2.2.2.2.1, x)))))) := (Lens.snd (Lens.snd (Lens.snd (Lens.snd (Lens.snd (Lens.id (rInt .i64)) rfl) rfl) rfl) rfl) rfl)
theorem eq44 : EqTy Try.prog 44 rFact 3 := eq_struct rfl (by kernel_rfl) (fs := [⟨ "Id", 3, 0, false, "", "", 0⟩, ⟨ "Member", 3, 1, false, "", "", 8⟩, ⟨ "Input", 3, 2, false, "", "", 16⟩, ⟨ "Value", 30, 3, false, "", "", 24⟩, ⟨ "Valid", 40, 6, false, "", "", 48⟩, ⟨ "Recorded", 3, 8, false, "", "", 64⟩]) (by kernel_rfl) (by kernel_rfl) (eqf_cons (by simp) rfl ty3 (eq_mono (eq_int Try.underlying3) (by omega)) (eqf_cons (by simp) rfl ty3 (eq_mono (eq_int Try.underlying3) (by omega)) (eqf_cons (by simp) rfl ty3 (eq_mono (eq_int Try.underlying3) (by omega)) (eqf_cons (by simp) rfl ty30 (eq_mono eq30 (by omega)) (eqf_cons (by simp) rfl ty40 (eq_mono eq40 (by omega)) (eqf_last (by simp) rfl ty3 (eq_mono (eq_int Try.underlying3) (by omega))) rfl) rfl) rfl) rfl) rfl)
theorem eg44 : Try.prog.eqGuardType Try.prog.depth 44 = false := by kernel_rfl
theorem ty45 : Ty Try.prog 45 rFact := Ty.mk_ Try.underlying45 rfl (by kernel_rfl)
theorem z45 : TyZero Try.prog 45 rFact ((0, (0, (0, ((0, (0, 0)), ((0, 0), 0))))) : TFact) := zr_ty (by kernel_rfl) ((zr_pair (zr_int .i64) ((zr_pair (zr_int .i64) ((zr_pair (zr_int .i64) ((zr_pair ((zr_pair (zr_int .i64) ((zr_pair (zr_int .i64) (zr_int .i64))))) ((zr_pair ((zr_pair (zr_int .i64) (zr_int .i64))) (zr_int .i64)))))))))))
theorem by45 : (Try.prog.info? 45).map (·.bytes) = some 72 := by kernel_rfl
theorem pl45 : plcs Try.prog 45 = some [(0, 1), (1, 1), (2, 1), (3, 3), (6, 2), (8, 1)] := by kernel_rfl
theorem fld45_0 : fld Try.prog 45 0 = some 0 := by kernel_rfl
theorem ln45_0 : Lens rFact 0 (rInt .i64) (fun d => d.1) (fun d x => (x, d.2)) := (Lens.fst (Lens.id (rInt .i64)))
theorem fld45_1 : fld Try.prog 45 1 = some 1 := by kernel_rfl
theorem ln45_1 : Lens rFact 1 (rInt .i64) (fun d => d.2.1) (fun d x => (d.1, (x, d.2.2))) := (Lens.snd (Lens.fst (Lens.id (rInt .i64))) rfl)
theorem fld45_2 : fld Try.prog 45 2 = some 2 := by kernel_rfl
theorem ln45_2 : Lens rFact 2 (rInt .i64) (fun d => d.2.2.1) (fun d x => (d.1, (d.2.1, (x, d.2.2.2)))) := (Lens.snd (Lens.snd (Lens.fst (Lens.id (rInt .i64))) rfl) rfl)
theorem fld45_3 : fld Try.prog 45 3 = some 3 := by kernel_rfl
theorem ln45_3 : Lens rFact 3 rValue (fun d => d.2.2.2.1) (fun d x => (d.1, (d.2.1, (d.2.2.1, (x, d.2.2.2.2))))) := (Lens.snd (Lens.snd (Lens.snd (Lens.fst (Lens.id rValue)) rfl) rfl) rfl)
theorem fld45_4 : fld Try.prog 45 4 = some 6 := by kernel_rfl
theorem ln45_4 : Lens rFact 6 rDateRange (fun d => d.2.2.2.2.1) (fun d x => (d.1, (d.2.1, (d.2.2.1, (d.2.2.2.1, (x, d.2.2.2.2.2)))))) := (Lens.snd (Lens.snd (Lens.snd (Lens.snd (Lens.fst (Lens.id rDateRange)) rfl) rfl) rfl) rfl)
theorem fld45_5 : fld Try.prog 45 5 = some 8 := by kernel_rfl
theorem ln45_5 : Lens rFact 8 (rInt .i64) (fun d => d.2.2.2.2.2) (fun d x => (d.1, (d.2.1, (d.2.2.1, (d.2.2.2.1, (d.2.2.2.2.1, x)))))) := (Lens.snd (Lens.snd (Lens.snd (Lens.snd (Lens.snd (Lens.id (rInt .i64)) rfl) rfl) rfl) rfl) rfl)
theorem eq45 : EqTy Try.prog 45 rFact 3 := eq_struct rfl (by kernel_rfl) (fs := [⟨ "Id", 3, 0, false, "", "", 0⟩, ⟨ "Member", 3, 1, false, "", "", 8⟩, ⟨ "Input", 3, 2, false, "", "", 16⟩, ⟨ "Value", 30, 3, false, "", "", 24⟩, ⟨ "Valid", 40, 6, false, "", "", 48⟩, ⟨ "Recorded", 3, 8, false, "", "", 64⟩]) (by kernel_rfl) (by kernel_rfl) (eqf_cons (by simp) rfl ty3 (eq_mono (eq_int Try.underlying3) (by omega)) (eqf_cons (by simp) rfl ty3 (eq_mono (eq_int Try.underlying3) (by omega)) (eqf_cons (by simp) rfl ty3 (eq_mono (eq_int Try.underlying3) (by omega)) (eqf_cons (by simp) rfl ty30 (eq_mono eq30 (by omega)) (eqf_cons (by simp) rfl ty40 (eq_mono eq40 (by omega)) (eqf_last (by simp) rfl ty3 (eq_mono (eq_int Try.underlying3) (by omega))) rfl) rfl) rfl) rfl) rfl)
theorem eg45 : Try.prog.eqGuardType Try.prog.depth 45 = false := by kernel_rfl
theorem ty22 : Ty Try.prog 22 (rSlice rFact) := Ty.mk_ Try.underlying22 rfl (by kernel_rfl)
theorem z22 : TyZero Try.prog 22 (rSlice rFact) ([] : (List TFact)) := zr_ty (by kernel_rfl) (zr_slice)
theorem by22 : (Try.prog.info? 22).map (·.bytes) = some 24 := by kernel_rfl
theorem ty24 : Ty Try.prog 24 (rInt .i64) := Ty.mk_ Try.underlying24 rfl (by kernel_rfl)
theorem z24 : TyZero Try.prog 24 (rInt .i64) (0 : Int) := zr_ty (by kernel_rfl) (zr_int .i64)
theorem by24 : (Try.prog.info? 24).map (·.bytes) = some 8 := by kernel_rfl
theorem ty28 : Ty Try.prog 28 (rPair (rInt .i64) (rInt .i64)) := Ty.mk_ Try.underlying28 rfl (by kernel_rfl)
theorem z28 : TyZero Try.prog 28 (rPair (rInt .i64) (rInt .i64)) ((0, 0) : (Int × Int)) := zr_ty (by kernel_rfl) ((zr_pair (zr_int .i64) (zr_int .i64)))
theorem by28 : (Try.prog.info? 28).map (·.bytes) = some 16 := by kernel_rfl
abbrev TValuePeriod := TDateRange × TValue
@[reducible] def rValuePeriod : RT TValuePeriod := (rPair rDateRange rValue)
theorem ty41 : Ty Try.prog 41 rValuePeriod := Ty.mk_ Try.underlying41 rfl (by kernel_rfl)
theorem z41 : TyZero Try.prog 41 rValuePeriod (((0, 0), (0, (0, 0))) : TValuePeriod) := zr_ty (by kernel_rfl) ((zr_pair ((zr_pair (zr_int .i64) (zr_int .i64))) ((zr_pair (zr_int .i64) ((zr_pair (zr_int .i64) (zr_int .i64)))))))
theorem by41 : (Try.prog.info? 41).map (·.bytes) = some 40 := by kernel_rfl
theorem pl41 : plcs Try.prog 41 = some [(0, 2), (2, 3)] := by kernel_rfl
theorem fld41_0 : fld Try.prog 41 0 = some 0 := by kernel_rfl
theorem ln41_0 : Lens rValuePeriod 0 rDateRange (fun d => d.1) (fun d x => (x, d.2)) := (Lens.fst (Lens.id rDateRange))
theorem fld41_1 : fld Try.prog 41 1 = some 2 := by kernel_rfl
theorem ln41_1 : Lens rValuePeriod 2 rValue (fun d => d.2) (fun d x => (d.1, x)) := (Lens.snd (Lens.id rValue) rfl)
theorem eq41 : EqTy Try.prog 41 rValuePeriod 3 := eq_struct rfl (by kernel_rfl) (fs := [⟨ "Valid", 40, 0, false, "", "", 0⟩, ⟨ "Value", 30, 2, false, "", "", 16⟩]) (by kernel_rfl) (by kernel_rfl) (eqf_cons (by simp) rfl ty40 (eq_mono eq40 (by omega)) (eqf_last (by simp) rfl ty30 (eq_mono eq30 (by omega))) rfl)
theorem eg41 : Try.prog.eqGuardType Try.prog.depth 41 = false := by kernel_rfl
theorem ty42 : Ty Try.prog 42 rValuePeriod := Ty.mk_ Try.underlying42 rfl (by kernel_rfl)
theorem z42 : TyZero Try.prog 42 rValuePeriod (((0, 0), (0, (0, 0))) : TValuePeriod) := zr_ty (by kernel_rfl) ((zr_pair ((zr_pair (zr_int .i64) (zr_int .i64))) ((zr_pair (zr_int .i64) ((zr_pair (zr_int .i64) (zr_int .i64)))))))
theorem by42 : (Try.prog.info? 42).map (·.bytes) = some 40 := by kernel_rfl
theorem pl42 : plcs Try.prog 42 = some [(0, 2), (2, 3)] := by kernel_rfl
theorem fld42_0 : fld Try.prog 42 0 = some 0 := by kernel_rfl
theorem ln42_0 : Lens rValuePeriod 0 rDateRange (fun d => d.1) (fun d x => (x, d.2)) := (Lens.fst (Lens.id rDateRange))
theorem fld42_1 : fld Try.prog 42 1 = some 2 := by kernel_rfl
theorem ln42_1 : Lens rValuePeriod 2 rValue (fun d => d.2) (fun d x => (d.1, x)) := (Lens.snd (Lens.id rValue) rfl)
theorem eq42 : EqTy Try.prog 42 rValuePeriod 3 := eq_struct rfl (by kernel_rfl) (fs := [⟨ "Valid", 40, 0, false, "", "", 0⟩, ⟨ "Value", 30, 2, false, "", "", 16⟩]) (by kernel_rfl) (by kernel_rfl) (eqf_cons (by simp) rfl ty40 (eq_mono eq40 (by omega)) (eqf_last (by simp) rfl ty30 (eq_mono eq30 (by omega))) rfl)
theorem eg42 : Try.prog.eqGuardType Try.prog.depth 42 = false := by kernel_rfl
theorem ty34 : Ty Try.prog 34 (rSlice rValuePeriod) := Ty.mk_ Try.underlying34 rfl (by kernel_rfl)
theorem z34 : TyZero Try.prog 34 (rSlice rValuePeriod) ([] : (List TValuePeriod)) := zr_ty (by kernel_rfl) (zr_slice)
theorem by34 : (Try.prog.info? 34).map (·.bytes) = some 24 := by kernel_rfl
theorem ty37 : Ty Try.prog 37 (rSlice (rInt .i64)) := Ty.mk_ Try.underlying37 rfl (by kernel_rfl)
theorem z37 : TyZero Try.prog 37 (rSlice (rInt .i64)) ([] : (List Int)) := zr_ty (by kernel_rfl) (zr_slice)
theorem by37 : (Try.prog.info? 37).map (·.bytes) = some 24 := by kernel_rfl
abbrev TsortedList := (List TFact)
@[reducible] def rsortedList : RT TsortedList := rOne (rSlice rFact)
theorem ty52 : Ty Try.prog 52 rsortedList := Ty.mk_ Try.underlying52 rfl (by kernel_rfl)
theorem z52 : TyZero Try.prog 52 rsortedList ([] : TsortedList) := zr_ty (by kernel_rfl) ((zr_one (zr_slice)))
theorem by52 : (Try.prog.info? 52).map (·.bytes) = some 24 := by kernel_rfl
theorem pl52 : plcs Try.prog 52 = some [(0, 1)] := by kernel_rfl
theorem fld52_0 : fld Try.prog 52 0 = some 0 := by kernel_rfl
theorem ln52_0 : Lens rsortedList 0 (rSlice rFact) (fun d => d) (fun _ x => x) := (Lens.one (Lens.id (rSlice rFact)))
theorem ty53 : Ty Try.prog 53 rsortedList := Ty.mk_ Try.underlying53 rfl (by kernel_rfl)
theorem z53 : TyZero Try.prog 53 rsortedList ([] : TsortedList) := zr_ty (by kernel_rfl) ((zr_one (zr_slice)))
theorem by53 : (Try.prog.info? 53).map (·.bytes) = some 24 := by kernel_rfl
theorem pl53 : plcs Try.prog 53 = some [(0, 1)] := by kernel_rfl
theorem fld53_0 : fld Try.prog 53 0 = some 0 := by kernel_rfl
theorem ln53_0 : Lens rsortedList 0 (rSlice rFact) (fun d => d) (fun _ x => x) := (Lens.one (Lens.id (rSlice rFact)))
theorem ty54 : Ty Try.prog 54 (rSlice rDateRange) := Ty.mk_ Try.underlying54 rfl (by kernel_rfl)
theorem z54 : TyZero Try.prog 54 (rSlice rDateRange) ([] : (List TDateRange)) := zr_ty (by kernel_rfl) (zr_slice)
theorem by54 : (Try.prog.info? 54).map (·.bytes) = some 24 := by kernel_rfl
end Go.Proofs.Ytfamnoalgjkjhaa
