import Derived.Test.YtcdkmhmlpjnfeaaEng11
import Derived.Test.YtcdkmhmlpjnfeaaProg
import Derived.KernelRfl
namespace Go.Proofs.Ytcdkmhmlpjnfeaa
open Go.Eng
set_option maxRecDepth 100000
theorem mo : Try.prog.follows .mixedOrders = true := by kernel_rfl

theorem ty3 : Ty Try.prog 3 (rInt .i64) := Ty.mk_ Try.underlying3 rfl (by kernel_rfl)
theorem z3 : TyZero Try.prog 3 (rInt .i64) (0 : Int) := zr_ty (by kernel_rfl) (zr_int .i64)
theorem by3 : (Try.prog.info? 3).map (·.bytes) = some 8 := by kernel_rfl
theorem ty4 : Ty Try.prog 4 rBool := Ty.mk_ Try.underlying4 rfl (by kernel_rfl)
theorem z4 : TyZero Try.prog 4 rBool (false : Bool) := zr_ty (by kernel_rfl) (zr_bool)
theorem by4 : (Try.prog.info? 4).map (·.bytes) = some 1 := by kernel_rfl
abbrev TType := Int × Int
@[reducible] def rType : RT TType := (rPair (rInt .i64) (rInt .i64))
theorem ty22 : Ty Try.prog 22 rType := Ty.mk_ Try.underlying22 rfl (by kernel_rfl)
theorem z22 : TyZero Try.prog 22 rType ((0, 0) : TType) := zr_ty (by kernel_rfl) ((zr_pair (zr_int .i64) (zr_int .i64)))
theorem by22 : (Try.prog.info? 22).map (·.bytes) = some 16 := by kernel_rfl
theorem pl22 : plcs Try.prog 22 = some [(0, 1), (1, 1)] := by kernel_rfl
theorem fld22_0 : fld Try.prog 22 0 = some 0 := by kernel_rfl
theorem ln22_0 : Lens rType 0 (rInt .i64) (fun d => d.1) (fun d x => (x, d.2)) := (Lens.fst (Lens.id (rInt .i64)))
theorem fld22_1 : fld Try.prog 22 1 = some 1 := by kernel_rfl
theorem ln22_1 : Lens rType 1 (rInt .i64) (fun d => d.2) (fun d x => (d.1, x)) := (Lens.snd (Lens.id (rInt .i64)) rfl)
theorem eq22 : EqTy Try.prog 22 rType 2 := eq_struct rfl (by kernel_rfl) (fs := [⟨ "Kind", 3, 0, false, "", "", 0⟩, ⟨ "Enum", 3, 1, false, "", "", 8⟩]) (by kernel_rfl) (by kernel_rfl) (eqf_cons (by simp) rfl ty3 (eq_mono (eq_int Try.underlying3) (by omega)) (eqf_last (by simp) rfl ty3 (eq_mono (eq_int Try.underlying3) (by omega))) rfl)
theorem eg22 : Try.prog.eqGuardType Try.prog.depth 22 = false := by kernel_rfl
theorem ty23 : Ty Try.prog 23 rType := Ty.mk_ Try.underlying23 rfl (by kernel_rfl)
theorem z23 : TyZero Try.prog 23 rType ((0, 0) : TType) := zr_ty (by kernel_rfl) ((zr_pair (zr_int .i64) (zr_int .i64)))
theorem by23 : (Try.prog.info? 23).map (·.bytes) = some 16 := by kernel_rfl
theorem pl23 : plcs Try.prog 23 = some [(0, 1), (1, 1)] := by kernel_rfl
theorem fld23_0 : fld Try.prog 23 0 = some 0 := by kernel_rfl
theorem ln23_0 : Lens rType 0 (rInt .i64) (fun d => d.1) (fun d x => (x, d.2)) := (Lens.fst (Lens.id (rInt .i64)))
theorem fld23_1 : fld Try.prog 23 1 = some 1 := by kernel_rfl
theorem ln23_1 : Lens rType 1 (rInt .i64) (fun d => d.2) (fun d x => (d.1, x)) := (Lens.snd (Lens.id (rInt .i64)) rfl)
theorem eq23 : EqTy Try.prog 23 rType 2 := eq_struct rfl (by kernel_rfl) (fs := [⟨ "Kind", 3, 0, false, "", "", 0⟩, ⟨ "Enum", 3, 1, false, "", "", 8⟩]) (by kernel_rfl) (by kernel_rfl) (eqf_cons (by simp) rfl ty3 (eq_mono (eq_int Try.underlying3) (by omega)) (eqf_last (by simp) rfl ty3 (eq_mono (eq_int Try.underlying3) (by omega))) rfl)
theorem eg23 : Try.prog.eqGuardType Try.prog.depth 23 = false := by kernel_rfl
abbrev TDateRange := Int × Int
@[reducible] def rDateRange : RT TDateRange := (rPair (rInt .i64) (rInt .i64))
theorem ty47 : Ty Try.prog 47 rDateRange := Ty.mk_ Try.underlying47 rfl (by kernel_rfl)
theorem z47 : TyZero Try.prog 47 rDateRange ((0, 0) : TDateRange) := zr_ty (by kernel_rfl) ((zr_pair (zr_int .i64) (zr_int .i64)))
theorem by47 : (Try.prog.info? 47).map (·.bytes) = some 16 := by kernel_rfl
theorem pl47 : plcs Try.prog 47 = some [(0, 1), (1, 1)] := by kernel_rfl
theorem fld47_0 : fld Try.prog 47 0 = some 0 := by kernel_rfl
theorem ln47_0 : Lens rDateRange 0 (rInt .i64) (fun d => d.1) (fun d x => (x, d.2)) := (Lens.fst (Lens.id (rInt .i64)))
theorem fld47_1 : fld Try.prog 47 1 = some 1 := by kernel_rfl
theorem ln47_1 : Lens rDateRange 1 (rInt .i64) (fun d => d.2) (fun d x => (d.1, x)) := (Lens.snd (Lens.id (rInt .i64)) rfl)
theorem eq47 : EqTy Try.prog 47 rDateRange 2 := eq_struct rfl (by kernel_rfl) (fs := [⟨ "From", 3, 0, false, "", "", 0⟩, ⟨ "To", 3, 1, false, "", "", 8⟩]) (by kernel_rfl) (by kernel_rfl) (eqf_cons (by simp) rfl ty3 (eq_mono (eq_int Try.underlying3) (by omega)) (eqf_last (by simp) rfl ty3 (eq_mono (eq_int Try.underlying3) (by omega))) rfl)
theorem eg47 : Try.prog.eqGuardType Try.prog.depth 47 = false := by kernel_rfl
theorem ty48 : Ty Try.prog 48 rDateRange := Ty.mk_ Try.underlying48 rfl (by kernel_rfl)
theorem z48 : TyZero Try.prog 48 rDateRange ((0, 0) : TDateRange) := zr_ty (by kernel_rfl) ((zr_pair (zr_int .i64) (zr_int .i64)))
theorem by48 : (Try.prog.info? 48).map (·.bytes) = some 16 := by kernel_rfl
theorem pl48 : plcs Try.prog 48 = some [(0, 1), (1, 1)] := by kernel_rfl
theorem fld48_0 : fld Try.prog 48 0 = some 0 := by kernel_rfl
theorem ln48_0 : Lens rDateRange 0 (rInt .i64) (fun d => d.1) (fun d x => (x, d.2)) := (Lens.fst (Lens.id (rInt .i64)))
theorem fld48_1 : fld Try.prog 48 1 = some 1 := by kernel_rfl
theorem ln48_1 : Lens rDateRange 1 (rInt .i64) (fun d => d.2) (fun d x => (d.1, x)) := (Lens.snd (Lens.id (rInt .i64)) rfl)
theorem eq48 : EqTy Try.prog 48 rDateRange 2 := eq_struct rfl (by kernel_rfl) (fs := [⟨ "From", 3, 0, false, "", "", 0⟩, ⟨ "To", 3, 1, false, "", "", 8⟩]) (by kernel_rfl) (by kernel_rfl) (eqf_cons (by simp) rfl ty3 (eq_mono (eq_int Try.underlying3) (by omega)) (eqf_last (by simp) rfl ty3 (eq_mono (eq_int Try.underlying3) (by omega))) rfl)
theorem eg48 : Try.prog.eqGuardType Try.prog.depth 48 = false := by kernel_rfl
abbrev TRow := TDateRange × Int × Int × Int
@[reducible] def rRow : RT TRow := (rPair rDateRange (rPair (rInt .i64) (rPair (rInt .i64) (rInt .i64))))
theorem ty49 : Ty Try.prog 49 rRow := Ty.mk_ Try.underlying49 rfl (by kernel_rfl)
theorem z49 : TyZero Try.prog 49 rRow (((0, 0), (0, (0, 0))) : TRow) := zr_ty (by kernel_rfl) ((zr_pair ((zr_pair (zr_int .i64) (zr_int .i64))) ((zr_pair (zr_int .i64) ((zr_pair (zr_int .i64) (zr_int .i64)))))))
theorem by49 : (Try.prog.info? 49).map (·.bytes) = some 40 := by kernel_rfl
theorem pl49 : plcs Try.prog 49 = some [(0, 2), (2, 1), (3, 1), (4, 1)] := by kernel_rfl
theorem fld49_0 : fld Try.prog 49 0 = some 0 := by kernel_rfl
theorem ln49_0 : Lens rRow 0 rDateRange (fun d => d.1) (fun d x => (x, d.2)) := (Lens.fst (Lens.id rDateRange))
theorem fld49_1 : fld Try.prog 49 1 = some 2 := by kernel_rfl
theorem ln49_1 : Lens rRow 2 (rInt .i64) (fun d => d.2.1) (fun d x => (d.1, (x, d.2.2))) := (Lens.snd (Lens.fst (Lens.id (rInt .i64))) rfl)
theorem fld49_2 : fld Try.prog 49 2 = some 3 := by kernel_rfl
theorem ln49_2 : Lens rRow 3 (rInt .i64) (fun d => d.2.2.1) (fun d x => (d.1, (d.2.1, (x, d.2.2.2)))) := (Lens.snd (Lens.snd (Lens.fst (Lens.id (rInt .i64))) rfl) rfl)
theorem fld49_3 : fld Try.prog 49 3 = some 4 := by kernel_rfl
theorem ln49_3 : Lens rRow 4 (rInt .i64) (fun d => d.2.2.2) (fun d x => (d.1, (d.2.1, (d.2.2.1, x)))) := (Lens.snd (Lens.snd (Lens.snd (Lens.id (rInt .i64)) rfl) rfl) rfl)
theorem eq49 : EqTy Try.prog 49 rRow 3 := eq_struct rfl (by kernel_rfl) (fs := [⟨ "Valid", 48, 0, false, "", "", 0⟩, ⟨ "Lo", 3, 2, false, "", "", 16⟩, ⟨ "Hi", 3, 3, false, "", "", 24⟩, ⟨ "N", 3, 4, false, "", "", 32⟩]) (by kernel_rfl) (by kernel_rfl) (eqf_cons (by simp) rfl ty48 (eq_mono eq48 (by omega)) (eqf_cons (by simp) rfl ty3 (eq_mono (eq_int Try.underlying3) (by omega)) (eqf_cons (by simp) rfl ty3 (eq_mono (eq_int Try.underlying3) (by omega)) (eqf_last (by simp) rfl ty3 (eq_mono (eq_int Try.underlying3) (by omega))) rfl) rfl) rfl)
theorem eg49 : Try.prog.eqGuardType Try.prog.depth 49 = false := by kernel_rfl
theorem ty50 : Ty Try.prog 50 rRow := Ty.mk_ Try.underlying50 rfl (by kernel_rfl)
theorem z50 : TyZero Try.prog 50 rRow (((0, 0), (0, (0, 0))) : TRow) := zr_ty (by kernel_rfl) ((zr_pair ((zr_pair (zr_int .i64) (zr_int .i64))) ((zr_pair (zr_int .i64) ((zr_pair (zr_int .i64) (zr_int .i64)))))))
theorem by50 : (Try.prog.info? 50).map (·.bytes) = some 40 := by kernel_rfl
theorem pl50 : plcs Try.prog 50 = some [(0, 2), (2, 1), (3, 1), (4, 1)] := by kernel_rfl
theorem fld50_0 : fld Try.prog 50 0 = some 0 := by kernel_rfl
theorem ln50_0 : Lens rRow 0 rDateRange (fun d => d.1) (fun d x => (x, d.2)) := (Lens.fst (Lens.id rDateRange))
theorem fld50_1 : fld Try.prog 50 1 = some 2 := by kernel_rfl
theorem ln50_1 : Lens rRow 2 (rInt .i64) (fun d => d.2.1) (fun d x => (d.1, (x, d.2.2))) := (Lens.snd (Lens.fst (Lens.id (rInt .i64))) rfl)
theorem fld50_2 : fld Try.prog 50 2 = some 3 := by kernel_rfl
theorem ln50_2 : Lens rRow 3 (rInt .i64) (fun d => d.2.2.1) (fun d x => (d.1, (d.2.1, (x, d.2.2.2)))) := (Lens.snd (Lens.snd (Lens.fst (Lens.id (rInt .i64))) rfl) rfl)
theorem fld50_3 : fld Try.prog 50 3 = some 4 := by kernel_rfl
theorem ln50_3 : Lens rRow 4 (rInt .i64) (fun d => d.2.2.2) (fun d x => (d.1, (d.2.1, (d.2.2.1, x)))) := (Lens.snd (Lens.snd (Lens.snd (Lens.id (rInt .i64)) rfl) rfl) rfl)
theorem eq50 : EqTy Try.prog 50 rRow 3 := eq_struct rfl (by kernel_rfl) (fs := [⟨ "Valid", 48, 0, false, "", "", 0⟩, ⟨ "Lo", 3, 2, false, "", "", 16⟩, ⟨ "Hi", 3, 3, false, "", "", 24⟩, ⟨ "N", 3, 4, false, "", "", 32⟩]) (by kernel_rfl) (by kernel_rfl) (eqf_cons (by simp) rfl ty48 (eq_mono eq48 (by omega)) (eqf_cons (by simp) rfl ty3 (eq_mono (eq_int Try.underlying3) (by omega)) (eqf_cons (by simp) rfl ty3 (eq_mono (eq_int Try.underlying3) (by omega)) (eqf_last (by simp) rfl ty3 (eq_mono (eq_int Try.underlying3) (by omega))) rfl) rfl) rfl)
theorem eg50 : Try.prog.eqGuardType Try.prog.depth 50 = false := by kernel_rfl
theorem ty24 : Ty Try.prog 24 (rSlice rRow) := Ty.mk_ Try.underlying24 rfl (by kernel_rfl)
theorem z24 : TyZero Try.prog 24 (rSlice rRow) ([] : (List TRow)) := zr_ty (by kernel_rfl) (zr_slice)
theorem by24 : (Try.prog.info? 24).map (·.bytes) = some 24 := by kernel_rfl
theorem ty9 : Ty Try.prog 9 rStr := Ty.mk_ Try.underlying9 rfl (by kernel_rfl)
theorem z9 : TyZero Try.prog 9 rStr ([] : (List UInt8)) := zr_ty (by kernel_rfl) (zr_str)
theorem by9 : (Try.prog.info? 9).map (·.bytes) = some 16 := by kernel_rfl
abbrev TTable := (List UInt8) × TType × TType × (List TRow)
@[reducible] def rTable : RT TTable := (rPair rStr (rPair rType (rPair rType (rSlice rRow))))
theorem ty25 : Ty Try.prog 25 rTable := Ty.mk_ Try.underlying25 rfl (by kernel_rfl)
theorem z25 : TyZero Try.prog 25 rTable (([], ((0, 0), ((0, 0), []))) : TTable) := zr_ty (by kernel_rfl) ((zr_pair (zr_str) ((zr_pair ((zr_pair (zr_int .i64) (zr_int .i64))) ((zr_pair ((zr_pair (zr_int .i64) (zr_int .i64))) (zr_slice)))))))
theorem by25 : (Try.prog.info? 25).map (·.bytes) = some 72 := by kernel_rfl
theorem pl25 : plcs Try.prog 25 = some [(0, 1), (1, 2), (3, 2), (5, 1)] := by kernel_rfl
theorem fld25_0 : fld Try.prog 25 0 = some 0 := by kernel_rfl
theorem ln25_0 : Lens rTable 0 rStr (fun d => d.1) (fun d x => (x, d.2)) := (Lens.fst (Lens.id rStr))
theorem fld25_1 : fld Try.prog 25 1 = some 1 := by kernel_rfl
theorem ln25_1 : Lens rTable 1 rType (fun d => d.2.1) (fun d x => (d.1, (x, d.2.2))) := (Lens.snd (Lens.fst (Lens.id rType)) rfl)
theorem fld25_2 : fld Try.prog 25 2 = some 3 := by kernel_rfl
theorem ln25_2 : Lens rTable 3 rType (fun d => d.2.2.1) (fun d x => (d.1, (d.2.1, (x, d.2.2.2)))) := (Lens.snd (Lens.snd (Lens.fst (Lens.id rType)) rfl) rfl)
theorem fld25_3 : fld Try.prog 25 3 = some 5 := by kernel_rfl
theorem ln25_3 : Lens rTable 5 (rSlice rRow) (fun d => d.2.2.2) (fun d x => (d.1, (d.2.1, (d.2.2.1, x)))) := (Lens.snd (Lens.snd (Lens.snd (Lens.id (rSlice rRow)) rfl) rfl) rfl)
theorem ty26 : Ty Try.prog 26 rTable := Ty.mk_ Try.underlying26 rfl (by kernel_rfl)
theorem z26 : TyZero Try.prog 26 rTable (([], ((0, 0), ((0, 0), []))) : TTable) := zr_ty (by kernel_rfl) ((zr_pair (zr_str) ((zr_pair ((zr_pair (zr_int .i64) (zr_int .i64))) ((zr_pair ((zr_pair (zr_int .i64) (zr_int .i64))) (zr_slice)))))))
theorem by26 : (Try.prog.info? 26).map (·.bytes) = some 72 := by kernel_rfl
theorem pl26 : plcs Try.prog 26 = some [(0, 1), (1, 2), (3, 2), (5, 1)] := by kernel_rfl
theorem fld26_0 : fld Try.prog 26 0 = some 0 := by kernel_rfl
theorem ln26_0 : Lens rTable 0 rStr (fun d => d.1) (fun d x => (x, d.2)) := (Lens.fst (Lens.id rStr))
theorem fld26_1 : fld Try.prog 26 1 = some 1 := by kernel_rfl
theorem ln26_1 : Lens rTable 1 rType (fun d => d.2.1) (fun d x => (d.1, (x, d.2.2))) := (Lens.snd (Lens.fst (Lens.id rType)) rfl)
theorem fld26_2 : fld Try.prog 26 2 = some 3 := by kernel_rfl
theorem ln26_2 : Lens rTable 3 rType (fun d => d.2.2.1) (fun d x => (d.1, (d.2.1, (x, d.2.2.2)))) := (Lens.snd (Lens.snd (Lens.fst (Lens.id rType)) rfl) rfl)
theorem fld26_3 : fld Try.prog 26 3 = some 5 := by kernel_rfl
theorem ln26_3 : Lens rTable 5 (rSlice rRow) (fun d => d.2.2.2) (fun d x => (d.1, (d.2.1, (d.2.2.1, x)))) := (Lens.snd (Lens.snd (Lens.snd (Lens.id (rSlice rRow)) rfl) rfl) rfl)
theorem ty89 : Ty Try.prog 89 (rSlice rStr) := Ty.mk_ Try.underlying89 rfl (by kernel_rfl)
theorem z89 : TyZero Try.prog 89 (rSlice rStr) ([] : (List (List UInt8))) := zr_ty (by kernel_rfl) (zr_slice)
theorem by89 : (Try.prog.info? 89).map (·.bytes) = some 24 := by kernel_rfl
abbrev TEnum := (List UInt8) × (List (List UInt8))
@[reducible] def rEnum : RT TEnum := (rPair rStr (rSlice rStr))
theorem ty90 : Ty Try.prog 90 rEnum := Ty.mk_ Try.underlying90 rfl (by kernel_rfl)
theorem z90 : TyZero Try.prog 90 rEnum (([], []) : TEnum) := zr_ty (by kernel_rfl) ((zr_pair (zr_str) (zr_slice)))
theorem by90 : (Try.prog.info? 90).map (·.bytes) = some 40 := by kernel_rfl
theorem pl90 : plcs Try.prog 90 = some [(0, 1), (1, 1)] := by kernel_rfl
theorem fld90_0 : fld Try.prog 90 0 = some 0 := by kernel_rfl
theorem ln90_0 : Lens rEnum 0 rStr (fun d => d.1) (fun d x => (x, d.2)) := (Lens.fst (Lens.id rStr))
theorem fld90_1 : fld Try.prog 90 1 = some 1 := by kernel_rfl
theorem ln90_1 : Lens rEnum 1 (rSlice rStr) (fun d => d.2) (fun d x => (d.1, x)) := (Lens.snd (Lens.id (rSlice rStr)) rfl)
theorem ty91 : Ty Try.prog 91 rEnum := Ty.mk_ Try.underlying91 rfl (by kernel_rfl)
theorem z91 : TyZero Try.prog 91 rEnum (([], []) : TEnum) := zr_ty (by kernel_rfl) ((zr_pair (zr_str) (zr_slice)))
theorem by91 : (Try.prog.info? 91).map (·.bytes) = some 40 := by kernel_rfl
theorem pl91 : plcs Try.prog 91 = some [(0, 1), (1, 1)] := by kernel_rfl
theorem fld91_0 : fld Try.prog 91 0 = some 0 := by kernel_rfl
theorem ln91_0 : Lens rEnum 0 rStr (fun d => d.1) (fun d x => (x, d.2)) := (Lens.fst (Lens.id rStr))
theorem fld91_1 : fld Try.prog 91 1 = some 1 := by kernel_rfl
theorem ln91_1 : Lens rEnum 1 (rSlice rStr) (fun d => d.2) (fun d x => (d.1, x)) := (Lens.snd (Lens.id (rSlice rStr)) rfl)
theorem ty27 : Ty Try.prog 27 (rSlice rEnum) := Ty.mk_ Try.underlying27 rfl (by kernel_rfl)
theorem z27 : TyZero Try.prog 27 (rSlice rEnum) ([] : (List TEnum)) := zr_ty (by kernel_rfl) (zr_slice)
theorem by27 : (Try.prog.info? 27).map (·.bytes) = some 24 := by kernel_rfl
theorem ty31 : Ty Try.prog 31 (rInt .i64) := Ty.mk_ Try.underlying31 rfl (by kernel_rfl)
theorem z31 : TyZero Try.prog 31 (rInt .i64) (0 : Int) := zr_ty (by kernel_rfl) (zr_int .i64)
theorem by31 : (Try.prog.info? 31).map (·.bytes) = some 8 := by kernel_rfl
abbrev TKeyRange := Int × Int
@[reducible] def rKeyRange : RT TKeyRange := (rPair (rInt .i64) (rInt .i64))
theorem ty41 : Ty Try.prog 41 rKeyRange := Ty.mk_ Try.underlying41 rfl (by kernel_rfl)
theorem z41 : TyZero Try.prog 41 rKeyRange ((0, 0) : TKeyRange) := zr_ty (by kernel_rfl) ((zr_pair (zr_int .i64) (zr_int .i64)))
theorem by41 : (Try.prog.info? 41).map (·.bytes) = some 16 := by kernel_rfl
theorem pl41 : plcs Try.prog 41 = some [(0, 1), (1, 1)] := by kernel_rfl
theorem fld41_0 : fld Try.prog 41 0 = some 0 := by kernel_rfl
theorem ln41_0 : Lens rKeyRange 0 (rInt .i64) (fun d => d.1) (fun d x => (x, d.2)) := (Lens.fst (Lens.id (rInt .i64)))
theorem fld41_1 : fld Try.prog 41 1 = some 1 := by kernel_rfl
theorem ln41_1 : Lens rKeyRange 1 (rInt .i64) (fun d => d.2) (fun d x => (d.1, x)) := (Lens.snd (Lens.id (rInt .i64)) rfl)
theorem eq41 : EqTy Try.prog 41 rKeyRange 2 := eq_struct rfl (by kernel_rfl) (fs := [⟨ "Lo", 3, 0, false, "", "", 0⟩, ⟨ "Hi", 3, 1, false, "", "", 8⟩]) (by kernel_rfl) (by kernel_rfl) (eqf_cons (by simp) rfl ty3 (eq_mono (eq_int Try.underlying3) (by omega)) (eqf_last (by simp) rfl ty3 (eq_mono (eq_int Try.underlying3) (by omega))) rfl)
theorem eg41 : Try.prog.eqGuardType Try.prog.depth 41 = false := by kernel_rfl
theorem ty42 : Ty Try.prog 42 rKeyRange := Ty.mk_ Try.underlying42 rfl (by kernel_rfl)
theorem z42 : TyZero Try.prog 42 rKeyRange ((0, 0) : TKeyRange) := zr_ty (by kernel_rfl) ((zr_pair (zr_int .i64) (zr_int .i64)))
theorem by42 : (Try.prog.info? 42).map (·.bytes) = some 16 := by kernel_rfl
theorem pl42 : plcs Try.prog 42 = some [(0, 1), (1, 1)] := by kernel_rfl
theorem fld42_0 : fld Try.prog 42 0 = some 0 := by kernel_rfl
theorem ln42_0 : Lens rKeyRange 0 (rInt .i64) (fun d => d.1) (fun d x => (x, d.2)) := (Lens.fst (Lens.id (rInt .i64)))
theorem fld42_1 : fld Try.prog 42 1 = some 1 := by kernel_rfl
theorem ln42_1 : Lens rKeyRange 1 (rInt .i64) (fun d => d.2) (fun d x => (d.1, x)) := (Lens.snd (Lens.id (rInt .i64)) rfl)
theorem eq42 : EqTy Try.prog 42 rKeyRange 2 := eq_struct rfl (by kernel_rfl) (fs := [⟨ "Lo", 3, 0, false, "", "", 0⟩, ⟨ "Hi", 3, 1, false, "", "", 8⟩]) (by kernel_rfl) (by kernel_rfl) (eqf_cons (by simp) rfl ty3 (eq_mono (eq_int Try.underlying3) (by omega)) (eqf_last (by simp) rfl ty3 (eq_mono (eq_int Try.underlying3) (by omega))) rfl)
theorem eg42 : Try.prog.eqGuardType Try.prog.depth 42 = false := by kernel_rfl
theorem ty37 : Ty Try.prog 37 (rSlice rKeyRange) := Ty.mk_ Try.underlying37 rfl (by kernel_rfl)
theorem z37 : TyZero Try.prog 37 (rSlice rKeyRange) ([] : (List TKeyRange)) := zr_ty (by kernel_rfl) (zr_slice)
theorem by37 : (Try.prog.info? 37).map (·.bytes) = some 24 := by kernel_rfl
theorem ty57 : Ty Try.prog 57 (rSlice (rInt .i64)) := Ty.mk_ Try.underlying57 rfl (by kernel_rfl)
theorem z57 : TyZero Try.prog 57 (rSlice (rInt .i64)) ([] : (List Int)) := zr_ty (by kernel_rfl) (zr_slice)
theorem by57 : (Try.prog.info? 57).map (·.bytes) = some 24 := by kernel_rfl
theorem ty78 : Ty Try.prog 78 (rInt .u64) := Ty.mk_ Try.underlying78 rfl (by kernel_rfl)
theorem z78 : TyZero Try.prog 78 (rInt .u64) (0 : Int) := zr_ty (by kernel_rfl) (zr_int .u64)
theorem by78 : (Try.prog.info? 78).map (·.bytes) = some 8 := by kernel_rfl
theorem ty85 : Ty Try.prog 85 (rSlice rDateRange) := Ty.mk_ Try.underlying85 rfl (by kernel_rfl)
theorem z85 : TyZero Try.prog 85 (rSlice rDateRange) ([] : (List TDateRange)) := zr_ty (by kernel_rfl) (zr_slice)
theorem by85 : (Try.prog.info? 85).map (·.bytes) = some 24 := by kernel_rfl
end Go.Proofs.Ytcdkmhmlpjnfeaa
