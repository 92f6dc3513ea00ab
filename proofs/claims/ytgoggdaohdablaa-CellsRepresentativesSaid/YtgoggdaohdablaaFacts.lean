import Derived.Test.YtgoggdaohdablaaEng11
import Derived.Test.YtgoggdaohdablaaProg
import Derived.KernelRfl
namespace Go.Proofs.Ytgoggdaohdablaa
open Go.Eng
set_option maxRecDepth 100000
theorem mo : Try.prog.follows .mixedOrders = true := by kernel_rfl

theorem ty3 : Ty Try.prog 3 (rInt .i64) := Ty.mk_ Try.underlying3 rfl (by kernel_rfl)
theorem z3 : TyZero Try.prog 3 (rInt .i64) (0 : Int) := zr_ty (by kernel_rfl) (zr_int .i64)
theorem by3 : (Try.prog.info? 3).map (·.bytes) = some 8 := by kernel_rfl
theorem ty4 : Ty Try.prog 4 rBool := Ty.mk_ Try.underlying4 rfl (by kernel_rfl)
theorem z4 : TyZero Try.prog 4 rBool (false : Bool) := zr_ty (by kernel_rfl) (zr_bool)
theorem by4 : (Try.prog.info? 4).map (·.bytes) = some 1 := by kernel_rfl
abbrev TNode := Int × Int
@[reducible] def rNode : RT TNode := (rPair (rInt .i64) (rInt .i64))
theorem ty49 : Ty Try.prog 49 rNode := Ty.mk_ Try.underlying49 rfl (by kernel_rfl)
theorem z49 : TyZero Try.prog 49 rNode ((0, 0) : TNode) := zr_ty (by kernel_rfl) ((zr_pair (zr_int .i64) (zr_int .i64)))
theorem by49 : (Try.prog.info? 49).map (·.bytes) = some 16 := by kernel_rfl
theorem pl49 : plcs Try.prog 49 = some [(0, 1), (1, 1)] := by kernel_rfl
theorem fld49_0 : fld Try.prog 49 0 = some 0 := by kernel_rfl
theorem ln49_0 : Lens rNode 0 (rInt .i64) (fun d => d.1) (fun d x => (x, d.2)) := (Lens.fst (Lens.id (rInt .i64)))
theorem fld49_1 : fld Try.prog 49 1 = some 1 := by kernel_rfl
theorem ln49_1 : Lens rNode 1 (rInt .i64) (fun d => d.2) (fun d x => (d.1, x)) := (Lens.snd (Lens.id (rInt .i64)) rfl)
theorem eq49 : EqTy Try.prog 49 rNode 2 := eq_struct rfl (by kernel_rfl) (fs := [⟨ "Op", 3, 0, false, "", "", 0⟩, ⟨ "N", 3, 1, false, "", "", 8⟩]) (by kernel_rfl) (by kernel_rfl) (eqf_cons (by simp) rfl ty3 (eq_mono (eq_int Try.underlying3) (by omega)) (eqf_last (by simp) rfl ty3 (eq_mono (eq_int Try.underlying3) (by omega))) rfl)
theorem eg49 : Try.prog.eqGuardType Try.prog.depth 49 = false := by kernel_rfl
theorem ty50 : Ty Try.prog 50 rNode := Ty.mk_ Try.underlying50 rfl (by kernel_rfl)
theorem z50 : TyZero Try.prog 50 rNode ((0, 0) : TNode) := zr_ty (by kernel_rfl) ((zr_pair (zr_int .i64) (zr_int .i64)))
theorem by50 : (Try.prog.info? 50).map (·.bytes) = some 16 := by kernel_rfl
theorem pl50 : plcs Try.prog 50 = some [(0, 1), (1, 1)] := by kernel_rfl
theorem fld50_0 : fld Try.prog 50 0 = some 0 := by kernel_rfl
theorem ln50_0 : Lens rNode 0 (rInt .i64) (fun d => d.1) (fun d x => (x, d.2)) := (Lens.fst (Lens.id (rInt .i64)))
theorem fld50_1 : fld Try.prog 50 1 = some 1 := by kernel_rfl
theorem ln50_1 : Lens rNode 1 (rInt .i64) (fun d => d.2) (fun d x => (d.1, x)) := (Lens.snd (Lens.id (rInt .i64)) rfl)
theorem eq50 : EqTy Try.prog 50 rNode 2 := eq_struct rfl (by kernel_rfl) (fs := [⟨ "Op", 3, 0, false, "", "", 0⟩, ⟨ "N", 3, 1, false, "", "", 8⟩]) (by kernel_rfl) (by kernel_rfl) (eqf_cons (by simp) rfl ty3 (eq_mono (eq_int Try.underlying3) (by omega)) (eqf_last (by simp) rfl ty3 (eq_mono (eq_int Try.underlying3) (by omega))) rfl)
theorem eg50 : Try.prog.eqGuardType Try.prog.depth 50 = false := by kernel_rfl
theorem ty22 : Ty Try.prog 22 (rSlice rNode) := Ty.mk_ Try.underlying22 rfl (by kernel_rfl)
theorem z22 : TyZero Try.prog 22 (rSlice rNode) ([] : (List TNode)) := zr_ty (by kernel_rfl) (zr_slice)
theorem by22 : (Try.prog.info? 22).map (·.bytes) = some 24 := by kernel_rfl
theorem ty9 : Ty Try.prog 9 rStr := Ty.mk_ Try.underlying9 rfl (by kernel_rfl)
theorem z9 : TyZero Try.prog 9 rStr ([] : (List UInt8)) := zr_ty (by kernel_rfl) (zr_str)
theorem by9 : (Try.prog.info? 9).map (·.bytes) = some 16 := by kernel_rfl
theorem ty46 : Ty Try.prog 46 (rSlice rStr) := Ty.mk_ Try.underlying46 rfl (by kernel_rfl)
theorem z46 : TyZero Try.prog 46 (rSlice rStr) ([] : (List (List UInt8))) := zr_ty (by kernel_rfl) (zr_slice)
theorem by46 : (Try.prog.info? 46).map (·.bytes) = some 24 := by kernel_rfl
abbrev TEnum := (List UInt8) × (List (List UInt8))
@[reducible] def rEnum : RT TEnum := (rPair rStr (rSlice rStr))
theorem ty47 : Ty Try.prog 47 rEnum := Ty.mk_ Try.underlying47 rfl (by kernel_rfl)
theorem z47 : TyZero Try.prog 47 rEnum (([], []) : TEnum) := zr_ty (by kernel_rfl) ((zr_pair (zr_str) (zr_slice)))
theorem by47 : (Try.prog.info? 47).map (·.bytes) = some 40 := by kernel_rfl
theorem pl47 : plcs Try.prog 47 = some [(0, 1), (1, 1)] := by kernel_rfl
theorem fld47_0 : fld Try.prog 47 0 = some 0 := by kernel_rfl
theorem ln47_0 : Lens rEnum 0 rStr (fun d => d.1) (fun d x => (x, d.2)) := (Lens.fst (Lens.id rStr))
theorem fld47_1 : fld Try.prog 47 1 = some 1 := by kernel_rfl
theorem ln47_1 : Lens rEnum 1 (rSlice rStr) (fun d => d.2) (fun d x => (d.1, x)) := (Lens.snd (Lens.id (rSlice rStr)) rfl)
theorem ty48 : Ty Try.prog 48 rEnum := Ty.mk_ Try.underlying48 rfl (by kernel_rfl)
theorem z48 : TyZero Try.prog 48 rEnum (([], []) : TEnum) := zr_ty (by kernel_rfl) ((zr_pair (zr_str) (zr_slice)))
theorem by48 : (Try.prog.info? 48).map (·.bytes) = some 40 := by kernel_rfl
theorem pl48 : plcs Try.prog 48 = some [(0, 1), (1, 1)] := by kernel_rfl
theorem fld48_0 : fld Try.prog 48 0 = some 0 := by kernel_rfl
theorem ln48_0 : Lens rEnum 0 rStr (fun d => d.1) (fun d x => (x, d.2)) := (Lens.fst (Lens.id rStr))
theorem fld48_1 : fld Try.prog 48 1 = some 1 := by kernel_rfl
theorem ln48_1 : Lens rEnum 1 (rSlice rStr) (fun d => d.2) (fun d x => (d.1, x)) := (Lens.snd (Lens.id (rSlice rStr)) rfl)
theorem ty23 : Ty Try.prog 23 (rSlice rEnum) := Ty.mk_ Try.underlying23 rfl (by kernel_rfl)
theorem z23 : TyZero Try.prog 23 (rSlice rEnum) ([] : (List TEnum)) := zr_ty (by kernel_rfl) (zr_slice)
theorem by23 : (Try.prog.info? 23).map (·.bytes) = some 24 := by kernel_rfl
abbrev TType := Int × Int
@[reducible] def rType : RT TType := (rPair (rInt .i64) (rInt .i64))
theorem ty35 : Ty Try.prog 35 rType := Ty.mk_ Try.underlying35 rfl (by kernel_rfl)
theorem z35 : TyZero Try.prog 35 rType ((0, 0) : TType) := zr_ty (by kernel_rfl) ((zr_pair (zr_int .i64) (zr_int .i64)))
theorem by35 : (Try.prog.info? 35).map (·.bytes) = some 16 := by kernel_rfl
theorem pl35 : plcs Try.prog 35 = some [(0, 1), (1, 1)] := by kernel_rfl
theorem fld35_0 : fld Try.prog 35 0 = some 0 := by kernel_rfl
theorem ln35_0 : Lens rType 0 (rInt .i64) (fun d => d.1) (fun d x => (x, d.2)) := (Lens.fst (Lens.id (rInt .i64)))
theorem fld35_1 : fld Try.prog 35 1 = some 1 := by kernel_rfl
theorem ln35_1 : Lens rType 1 (rInt .i64) (fun d => d.2) (fun d x => (d.1, x)) := (Lens.snd (Lens.id (rInt .i64)) rfl)
theorem eq35 : EqTy Try.prog 35 rType 2 := eq_struct rfl (by kernel_rfl) (fs := [⟨ "Kind", 3, 0, false, "", "", 0⟩, ⟨ "Enum", 3, 1, false, "", "", 8⟩]) (by kernel_rfl) (by kernel_rfl) (eqf_cons (by simp) rfl ty3 (eq_mono (eq_int Try.underlying3) (by omega)) (eqf_last (by simp) rfl ty3 (eq_mono (eq_int Try.underlying3) (by omega))) rfl)
theorem eg35 : Try.prog.eqGuardType Try.prog.depth 35 = false := by kernel_rfl
theorem ty36 : Ty Try.prog 36 rType := Ty.mk_ Try.underlying36 rfl (by kernel_rfl)
theorem z36 : TyZero Try.prog 36 rType ((0, 0) : TType) := zr_ty (by kernel_rfl) ((zr_pair (zr_int .i64) (zr_int .i64)))
theorem by36 : (Try.prog.info? 36).map (·.bytes) = some 16 := by kernel_rfl
theorem pl36 : plcs Try.prog 36 = some [(0, 1), (1, 1)] := by kernel_rfl
theorem fld36_0 : fld Try.prog 36 0 = some 0 := by kernel_rfl
theorem ln36_0 : Lens rType 0 (rInt .i64) (fun d => d.1) (fun d x => (x, d.2)) := (Lens.fst (Lens.id (rInt .i64)))
theorem fld36_1 : fld Try.prog 36 1 = some 1 := by kernel_rfl
theorem ln36_1 : Lens rType 1 (rInt .i64) (fun d => d.2) (fun d x => (d.1, x)) := (Lens.snd (Lens.id (rInt .i64)) rfl)
theorem eq36 : EqTy Try.prog 36 rType 2 := eq_struct rfl (by kernel_rfl) (fs := [⟨ "Kind", 3, 0, false, "", "", 0⟩, ⟨ "Enum", 3, 1, false, "", "", 8⟩]) (by kernel_rfl) (by kernel_rfl) (eqf_cons (by simp) rfl ty3 (eq_mono (eq_int Try.underlying3) (by omega)) (eqf_last (by simp) rfl ty3 (eq_mono (eq_int Try.underlying3) (by omega))) rfl)
theorem eg36 : Try.prog.eqGuardType Try.prog.depth 36 = false := by kernel_rfl
abbrev TDateRange := Int × Int
@[reducible] def rDateRange : RT TDateRange := (rPair (rInt .i64) (rInt .i64))
theorem ty127 : Ty Try.prog 127 rDateRange := Ty.mk_ Try.underlying127 rfl (by kernel_rfl)
theorem z127 : TyZero Try.prog 127 rDateRange ((0, 0) : TDateRange) := zr_ty (by kernel_rfl) ((zr_pair (zr_int .i64) (zr_int .i64)))
theorem by127 : (Try.prog.info? 127).map (·.bytes) = some 16 := by kernel_rfl
theorem pl127 : plcs Try.prog 127 = some [(0, 1), (1, 1)] := by kernel_rfl
theorem fld127_0 : fld Try.prog 127 0 = some 0 := by kernel_rfl
theorem ln127_0 : Lens rDateRange 0 (rInt .i64) (fun d => d.1) (fun d x => (x, d.2)) := (Lens.fst (Lens.id (rInt .i64)))
theorem fld127_1 : fld Try.prog 127 1 = some 1 := by kernel_rfl
theorem ln127_1 : Lens rDateRange 1 (rInt .i64) (fun d => d.2) (fun d x => (d.1, x)) := (Lens.snd (Lens.id (rInt .i64)) rfl)
theorem eq127 : EqTy Try.prog 127 rDateRange 2 := eq_struct rfl (by kernel_rfl) (fs := [⟨ "From", 3, 0, false, "", "", 0⟩, ⟨ "To", 3, 1, false, "", "", 8⟩]) (by kernel_rfl) (by kernel_rfl) (eqf_cons (by simp) rfl ty3 (eq_mono (eq_int Try.underlying3) (by omega)) (eqf_last (by simp) rfl ty3 (eq_mono (eq_int Try.underlying3) (by omega))) rfl)
theorem eg127 : Try.prog.eqGuardType Try.prog.depth 127 = false := by kernel_rfl
theorem ty128 : Ty Try.prog 128 rDateRange := Ty.mk_ Try.underlying128 rfl (by kernel_rfl)
theorem z128 : TyZero Try.prog 128 rDateRange ((0, 0) : TDateRange) := zr_ty (by kernel_rfl) ((zr_pair (zr_int .i64) (zr_int .i64)))
theorem by128 : (Try.prog.info? 128).map (·.bytes) = some 16 := by kernel_rfl
theorem pl128 : plcs Try.prog 128 = some [(0, 1), (1, 1)] := by kernel_rfl
theorem fld128_0 : fld Try.prog 128 0 = some 0 := by kernel_rfl
theorem ln128_0 : Lens rDateRange 0 (rInt .i64) (fun d => d.1) (fun d x => (x, d.2)) := (Lens.fst (Lens.id (rInt .i64)))
theorem fld128_1 : fld Try.prog 128 1 = some 1 := by kernel_rfl
theorem ln128_1 : Lens rDateRange 1 (rInt .i64) (fun d => d.2) (fun d x => (d.1, x)) := (Lens.snd (Lens.id (rInt .i64)) rfl)
theorem eq128 : EqTy Try.prog 128 rDateRange 2 := eq_struct rfl (by kernel_rfl) (fs := [⟨ "From", 3, 0, false, "", "", 0⟩, ⟨ "To", 3, 1, false, "", "", 8⟩]) (by kernel_rfl) (by kernel_rfl) (eqf_cons (by simp) rfl ty3 (eq_mono (eq_int Try.underlying3) (by omega)) (eqf_last (by simp) rfl ty3 (eq_mono (eq_int Try.underlying3) (by omega))) rfl)
theorem eg128 : Try.prog.eqGuardType Try.prog.depth 128 = false := by kernel_rfl
abbrev TRow := TDateRange × Int × Int × Int
@[reducible] def rRow : RT TRow := (rPair rDateRange (rPair (rInt .i64) (rPair (rInt .i64) (rInt .i64))))
theorem ty129 : Ty Try.prog 129 rRow := Ty.mk_ Try.underlying129 rfl (by kernel_rfl)
theorem z129 : TyZero Try.prog 129 rRow (((0, 0), (0, (0, 0))) : TRow) := zr_ty (by kernel_rfl) ((zr_pair ((zr_pair (zr_int .i64) (zr_int .i64))) ((zr_pair (zr_int .i64) ((zr_pair (zr_int .i64) (zr_int .i64)))))))
theorem by129 : (Try.prog.info? 129).map (·.bytes) = some 40 := by kernel_rfl
theorem pl129 : plcs Try.prog 129 = some [(0, 2), (2, 1), (3, 1), (4, 1)] := by kernel_rfl
theorem fld129_0 : fld Try.prog 129 0 = some 0 := by kernel_rfl
theorem ln129_0 : Lens rRow 0 rDateRange (fun d => d.1) (fun d x => (x, d.2)) := (Lens.fst (Lens.id rDateRange))
theorem fld129_1 : fld Try.prog 129 1 = some 2 := by kernel_rfl
theorem ln129_1 : Lens rRow 2 (rInt .i64) (fun d => d.2.1) (fun d x => (d.1, (x, d.2.2))) := (Lens.snd (Lens.fst (Lens.id (rInt .i64))) rfl)
theorem fld129_2 : fld Try.prog 129 2 = some 3 := by kernel_rfl
theorem ln129_2 : Lens rRow 3 (rInt .i64) (fun d => d.2.2.1) (fun d x => (d.1, (d.2.1, (x, d.2.2.2)))) := (Lens.snd (Lens.snd (Lens.fst (Lens.id (rInt .i64))) rfl) rfl)
theorem fld129_3 : fld Try.prog 129 3 = some 4 := by kernel_rfl
theorem ln129_3 : Lens rRow 4 (rInt .i64) (fun d => d.2.2.2) (fun d x => (d.1, (d.2.1, (d.2.2.1, x)))) := (Lens.snd (Lens.snd (Lens.snd (Lens.id (rInt .i64)) rfl) rfl) rfl)
theorem eq129 : EqTy Try.prog 129 rRow 3 := eq_struct rfl (by kernel_rfl) (fs := [⟨ "Valid", 128, 0, false, "", "", 0⟩, ⟨ "Lo", 3, 2, false, "", "", 16⟩, ⟨ "Hi", 3, 3, false, "", "", 24⟩, ⟨ "N", 3, 4, false, "", "", 32⟩]) (by kernel_rfl) (by kernel_rfl) (eqf_cons (by simp) rfl ty128 (eq_mono eq128 (by omega)) (eqf_cons (by simp) rfl ty3 (eq_mono (eq_int Try.underlying3) (by omega)) (eqf_cons (by simp) rfl ty3 (eq_mono (eq_int Try.underlying3) (by omega)) (eqf_last (by simp) rfl ty3 (eq_mono (eq_int Try.underlying3) (by omega))) rfl) rfl) rfl)
theorem eg129 : Try.prog.eqGuardType Try.prog.depth 129 = false := by kernel_rfl
theorem ty130 : Ty Try.prog 130 rRow := Ty.mk_ Try.underlying130 rfl (by kernel_rfl)
theorem z130 : TyZero Try.prog 130 rRow (((0, 0), (0, (0, 0))) : TRow) := zr_ty (by kernel_rfl) ((zr_pair ((zr_pair (zr_int .i64) (zr_int .i64))) ((zr_pair (zr_int .i64) ((zr_pair (zr_int .i64) (zr_int .i64)))))))
theorem by130 : (Try.prog.info? 130).map (·.bytes) = some 40 := by kernel_rfl
theorem pl130 : plcs Try.prog 130 = some [(0, 2), (2, 1), (3, 1), (4, 1)] := by kernel_rfl
theorem fld130_0 : fld Try.prog 130 0 = some 0 := by kernel_rfl
theorem ln130_0 : Lens rRow 0 rDateRange (fun d => d.1) (fun d x => (x, d.2)) := (Lens.fst (Lens.id rDateRange))
theorem fld130_1 : fld Try.prog 130 1 = some 2 := by kernel_rfl
theorem ln130_1 : Lens rRow 2 (rInt .i64) (fun d => d.2.1) (fun d x => (d.1, (x, d.2.2))) := (Lens.snd (Lens.fst (Lens.id (rInt .i64))) rfl)
theorem fld130_2 : fld Try.prog 130 2 = some 3 := by kernel_rfl
theorem ln130_2 : Lens rRow 3 (rInt .i64) (fun d => d.2.2.1) (fun d x => (d.1, (d.2.1, (x, d.2.2.2)))) := (Lens.snd (Lens.snd (Lens.fst (Lens.id (rInt .i64))) rfl) rfl)
theorem fld130_3 : fld Try.prog 130 3 = some 4 := by kernel_rfl
theorem ln130_3 : Lens rRow 4 (rInt .i64) (fun d => d.2.2.2) (fun d x => (d.1, (d.2.1, (d.2.2.1, x)))) := (Lens.snd (Lens.snd (Lens.snd (Lens.id (rInt .i64)) rfl) rfl) rfl)
theorem eq130 : EqTy Try.prog 130 rRow 3 := eq_struct rfl (by kernel_rfl) (fs := [⟨ "Valid", 128, 0, false, "", "", 0⟩, ⟨ "Lo", 3, 2, false, "", "", 16⟩, ⟨ "Hi", 3, 3, false, "", "", 24⟩, ⟨ "N", 3, 4, false, "", "", 32⟩]) (by kernel_rfl) (by kernel_rfl) (eqf_cons (by simp) rfl ty128 (eq_mono eq128 (by omega)) (eqf_cons (by simp) rfl ty3 (eq_mono (eq_int Try.underlying3) (by omega)) (eqf_cons (by simp) rfl ty3 (eq_mono (eq_int Try.underlying3) (by omega)) (eqf_last (by simp) rfl ty3 (eq_mono (eq_int Try.underlying3) (by omega))) rfl) rfl) rfl)
theorem eg130 : Try.prog.eqGuardType Try.prog.depth 130 = false := by kernel_rfl
theorem ty99 : Ty Try.prog 99 (rSlice rRow) := Ty.mk_ Try.underlying99 rfl (by kernel_rfl)
theorem z99 : TyZero Try.prog 99 (rSlice rRow) ([] : (List TRow)) := zr_ty (by kernel_rfl) (zr_slice)
theorem by99 : (Try.prog.info? 99).map (·.bytes) = some 24 := by kernel_rfl
abbrev TTable := (List UInt8) × TType × TType × (List TRow)
@[reducible] def rTable : RT TTable := (rPair rStr (rPair rType (rPair rType (rSlice rRow))))
theorem ty100 : Ty Try.prog 100 rTable := Ty.mk_ Try.underlying100 rfl (by kernel_rfl)
theorem z100 : TyZero Try.prog 100 rTable (([], ((0, 0), ((0, 0), []))) : TTable) := zr_ty (by kernel_rfl) ((zr_pair (zr_str) ((zr_pair ((zr_pair (zr_int .i64) (zr_int .i64))) ((zr_pair ((zr_pair (zr_int .i64) (zr_int .i64))) (zr_slice)))))))
theorem by100 : (Try.prog.info? 100).map (·.bytes) = some 72 := by kernel_rfl
theorem pl100 : plcs Try.prog 100 = some [(0, 1), (1, 2), (3, 2), (5, 1)] := by kernel_rfl
theorem fld100_0 : fld Try.prog 100 0 = some 0 := by kernel_rfl
theorem ln100_0 : Lens rTable 0 rStr (fun d => d.1) (fun d x => (x, d.2)) := (Lens.fst (Lens.id rStr))
theorem fld100_1 : fld Try.prog 100 1 = some 1 := by kernel_rfl
theorem ln100_1 : Lens rTable 1 rType (fun d => d.2.1) (fun d x => (d.1, (x, d.2.2))) := (Lens.snd (Lens.fst (Lens.id rType)) rfl)
theorem fld100_2 : fld Try.prog 100 2 = some 3 := by kernel_rfl
theorem ln100_2 : Lens rTable 3 rType (fun d => d.2.2.1) (fun d x => (d.1, (d.2.1, (x, d.2.2.2)))) := (Lens.snd (Lens.snd (Lens.fst (Lens.id rType)) rfl) rfl)
theorem fld100_3 : fld Try.prog 100 3 = some 5 := by kernel_rfl
theorem ln100_3 : Lens rTable 5 (rSlice rRow) (fun d => d.2.2.2) (fun d x => (d.1, (d.2.1, (d.2.2.1, x)))) := (Lens.snd (Lens.snd (Lens.snd (Lens.id (rSlice rRow)) rfl) rfl) rfl)
theorem ty101 : Ty Try.prog 101 rTable := Ty.mk_ Try.underlying101 rfl (by kernel_rfl)
theorem z101 : TyZero Try.prog 101 rTable (([], ((0, 0), ((0, 0), []))) : TTable) := zr_ty (by kernel_rfl) ((zr_pair (zr_str) ((zr_pair ((zr_pair (zr_int .i64) (zr_int .i64))) ((zr_pair ((zr_pair (zr_int .i64) (zr_int .i64))) (zr_slice)))))))
theorem by101 : (Try.prog.info? 101).map (·.bytes) = some 72 := by kernel_rfl
theorem pl101 : plcs Try.prog 101 = some [(0, 1), (1, 2), (3, 2), (5, 1)] := by kernel_rfl
theorem fld101_0 : fld Try.prog 101 0 = some 0 := by kernel_rfl
theorem ln101_0 : Lens rTable 0 rStr (fun d => d.1) (fun d x => (x, d.2)) := (Lens.fst (Lens.id rStr))
theorem fld101_1 : fld Try.prog 101 1 = some 1 := by kernel_rfl
theorem ln101_1 : Lens rTable 1 rType (fun d => d.2.1) (fun d x => (d.1, (x, d.2.2))) := (Lens.snd (Lens.fst (Lens.id rType)) rfl)
theorem fld101_2 : fld Try.prog 101 2 = some 3 := by kernel_rfl
theorem ln101_2 : Lens rTable 3 rType (fun d => d.2.2.1) (fun d x => (d.1, (d.2.1, (x, d.2.2.2)))) := (Lens.snd (Lens.snd (Lens.fst (Lens.id rType)) rfl) rfl)
theorem fld101_3 : fld Try.prog 101 3 = some 5 := by kernel_rfl
theorem ln101_3 : Lens rTable 5 (rSlice rRow) (fun d => d.2.2.2) (fun d x => (d.1, (d.2.1, (d.2.2.1, x)))) := (Lens.snd (Lens.snd (Lens.snd (Lens.id (rSlice rRow)) rfl) rfl) rfl)
theorem ty24 : Ty Try.prog 24 (rSlice rTable) := Ty.mk_ Try.underlying24 rfl (by kernel_rfl)
theorem z24 : TyZero Try.prog 24 (rSlice rTable) ([] : (List TTable)) := zr_ty (by kernel_rfl) (zr_slice)
theorem by24 : (Try.prog.info? 24).map (·.bytes) = some 24 := by kernel_rfl
theorem ty25 : Ty Try.prog 25 (rSlice rType) := Ty.mk_ Try.underlying25 rfl (by kernel_rfl)
theorem z25 : TyZero Try.prog 25 (rSlice rType) ([] : (List TType)) := zr_ty (by kernel_rfl) (zr_slice)
theorem by25 : (Try.prog.info? 25).map (·.bytes) = some 24 := by kernel_rfl
abbrev TSignature := (List TEnum) × (List TTable) × (List TType) × (List TType) × (List TType) × Bool
@[reducible] def rSignature : RT TSignature := (rPair (rSlice rEnum) (rPair (rSlice rTable) (rPair (rSlice rType) (rPair (rSlice rType) (rPair (rSlice rType) rBool)))))
theorem ty26 : Ty Try.prog 26 rSignature := Ty.mk_ Try.underlying26 rfl (by kernel_rfl)
theorem z26 : TyZero Try.prog 26 rSignature (([], ([], ([], ([], ([], false))))) : TSignature) := zr_ty (by kernel_rfl) ((zr_pair (zr_slice) ((zr_pair (zr_slice) ((zr_pair (zr_slice) ((zr_pair (zr_slice) ((zr_pair (zr_slice) (zr_bool)))))))))))
theorem by26 : (Try.prog.info? 26).map (·.bytes) = some 128 := by kernel_rfl
theorem pl26 : plcs Try.prog 26 = some [(0, 1), (1, 1), (2, 1), (3, 1), (4, 1), (5, 1)] := by kernel_rfl
theorem fld26_0 : fld Try.prog 26 0 = some 0 := by kernel_rfl
theorem ln26_0 : Lens rSignature 0 (rSlice rEnum) (fun d => d.1) (fun d x => (x, d.2)) := (Lens.fst (Lens.id (rSlice rEnum)))
theorem fld26_1 : fld Try.prog 26 1 = some 1 := by kernel_rfl
theorem ln26_1 : Lens rSignature 1 (rSlice rTable) (fun d => d.2.1) (fun d x => (d.1, (x, d.2.2))) := (Lens.snd (Lens.fst (Lens.id (rSlice rTable))) rfl)
theorem fld26_2 : fld Try.prog 26 2 = some 2 := by kernel_rfl
theorem ln26_2 : Lens rSignature 2 (rSlice rType) (fun d => d.2.2.1) (fun d x => (d.1, (d.2.1, (x, d.2.2.2)))) := (Lens.snd (Lens.snd (Lens.fst (Lens.id (rSlice rType))) rfl) rfl)
theorem fld26_3 : fld Try.prog 26 3 = some 3 := by kernel_rfl
theorem ln26_3 : Lens rSignature 3 (rSlice rType) (fun d => d.2.2.2.1) (fun d x => (d.1, (d.2.1, (d.2.2.1, (x, d.2.2.2.2))))) := (Lens.snd (Lens.snd (Lens.snd (Lens.fst (Lens.id (rSlice rType))) rfl) rfl) rfl)
theorem fld26_4 : fld Try.prog 26 4 = some 4 := by kernel_rfl
theorem ln26_4 : Lens rSignature 4 (rSlice rType) (fun d => d.2.2.2.2.1) (fun d x => (d.1, (d.2.1, (d.2.2.1, (d.2.2.2.1, (x, d.2.2.2.2.2)))))) := (Lens.snd (Lens.snd (Lens.snd (Lens.snd (Lens.fst (Lens.id (rSlice rType))) rfl) rfl) rfl) rfl)
theorem fld26_5 : fld Try.prog 26 5 = some 5 := by kernel_rfl
theorem ln26_5 : Lens rSignature 5 rBool (fun d => d.2.2.2.2.2) (fun d x => (d.1, (d.2.1, (d.2.2.1, (d.2.2.2.1, (d.2.2.2.2.1, x)))))) := (Lens.snd (Lens.snd (Lens.snd (Lens.snd (Lens.snd (Lens.id rBool) rfl) rfl) rfl) rfl) rfl)
theorem ty27 : Ty Try.prog 27 rSignature := Ty.mk_ Try.underlying27 rfl (by kernel_rfl)
theorem z27 : TyZero Try.prog 27 rSignature (([], ([], ([], ([], ([], false))))) : TSignature) := zr_ty (by kernel_rfl) ((zr_pair (zr_slice) ((zr_pair (zr_slice) ((zr_pair (zr_slice) ((zr_pair (zr_slice) ((zr_pair (zr_slice) (zr_bool)))))))))))
theorem by27 : (Try.prog.info? 27).map (·.bytes) = some 128 := by kernel_rfl
theorem pl27 : plcs Try.prog 27 = some [(0, 1), (1, 1), (2, 1), (3, 1), (4, 1), (5, 1)] := by kernel_rfl
theorem fld27_0 : fld Try.prog 27 0 = some 0 := by kernel_rfl
theorem ln27_0 : Lens rSignature 0 (rSlice rEnum) (fun d => d.1) (fun d x => (x, d.2)) := (Lens.fst (Lens.id (rSlice rEnum)))
theorem fld27_1 : fld Try.prog 27 1 = some 1 := by kernel_rfl
theorem ln27_1 : Lens rSignature 1 (rSlice rTable) (fun d => d.2.1) (fun d x => (d.1, (x, d.2.2))) := (Lens.snd (Lens.fst (Lens.id (rSlice rTable))) rfl)
theorem fld27_2 : fld Try.prog 27 2 = some 2 := by kernel_rfl
theorem ln27_2 : Lens rSignature 2 (rSlice rType) (fun d => d.2.2.1) (fun d x => (d.1, (d.2.1, (x, d.2.2.2)))) := (Lens.snd (Lens.snd (Lens.fst (Lens.id (rSlice rType))) rfl) rfl)
theorem fld27_3 : fld Try.prog 27 3 = some 3 := by kernel_rfl
theorem ln27_3 : Lens rSignature 3 (rSlice rType) (fun d => d.2.2.2.1) (fun d x => (d.1, (d.2.1, (d.2.2.1, (x, d.2.2.2.2))))) := (Lens.snd (Lens.snd (Lens.snd (Lens.fst (Lens.id (rSlice rType))) rfl) rfl) rfl)
theorem fld27_4 : fld Try.prog 27 4 = some 4 := by kernel_rfl
theorem ln27_4 : Lens rSignature 4 (rSlice rType) (fun d => d.2.2.2.2.1) (fun d x => (d.1, (d.2.1, (d.2.2.1, (d.2.2.2.1, (x, d.2.2.2.2.2)))))) := (Lens.snd (Lens.snd (Lens.snd (Lens.snd (Lens.fst (Lens.id (rSlice rType))) rfl) rfl) rfl) rfl)
theorem fld27_5 : fld Try.prog 27 5 = some 5 := by kernel_rfl
theorem ln27_5 : Lens rSignature 5 rBool (fun d => d.2.2.2.2.2) (fun d x => (d.1, (d.2.1, (d.2.2.1, (d.2.2.2.1, (d.2.2.2.2.1, x)))))) := (Lens.snd (Lens.snd (Lens.snd (Lens.snd (Lens.snd (Lens.id rBool) rfl) rfl) rfl) rfl) rfl)
theorem ty30 : Ty Try.prog 30 (rSlice (rSlice rNode)) := Ty.mk_ Try.underlying30 rfl (by kernel_rfl)
theorem z30 : TyZero Try.prog 30 (rSlice (rSlice rNode)) ([] : (List (List TNode))) := zr_ty (by kernel_rfl) (zr_slice)
theorem by30 : (Try.prog.info? 30).map (·.bytes) = some 24 := by kernel_rfl
theorem ty32 : Ty Try.prog 32 (rSlice (rInt .i64)) := Ty.mk_ Try.underlying32 rfl (by kernel_rfl)
theorem z32 : TyZero Try.prog 32 (rSlice (rInt .i64)) ([] : (List Int)) := zr_ty (by kernel_rfl) (zr_slice)
theorem by32 : (Try.prog.info? 32).map (·.bytes) = some 24 := by kernel_rfl
theorem ty43 : Ty Try.prog 43 (rSlice (rSlice (rInt .i64))) := Ty.mk_ Try.underlying43 rfl (by kernel_rfl)
theorem z43 : TyZero Try.prog 43 (rSlice (rSlice (rInt .i64))) ([] : (List (List Int))) := zr_ty (by kernel_rfl) (zr_slice)
theorem by43 : (Try.prog.info? 43).map (·.bytes) = some 24 := by kernel_rfl
theorem ty51 : Ty Try.prog 51 (rInt .i64) := Ty.mk_ Try.underlying51 rfl (by kernel_rfl)
theorem z51 : TyZero Try.prog 51 (rInt .i64) (0 : Int) := zr_ty (by kernel_rfl) (zr_int .i64)
theorem by51 : (Try.prog.info? 51).map (·.bytes) = some 8 := by kernel_rfl
end Go.Proofs.Ytgoggdaohdablaa
