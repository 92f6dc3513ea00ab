import Derived.Test.YtkbljpjbocdhdaaEng11
import Derived.Test.YtkbljpjbocdhdaaProg
import Derived.KernelRfl
namespace Go.Proofs.Ytkbljpjbocdhdaa
open Go.Eng
set_option maxRecDepth 100000
theorem mo : Try.prog.follows .mixedOrders = true := by kernel_rfl

theorem ty3 : Ty Try.prog 3 (rInt .i64) := Ty.mk_ Try.underlying3 rfl (by kernel_rfl)
theorem z3 : TyZero Try.prog 3 (rInt .i64) (0 : Int) := zr_ty (by kernel_rfl) (zr_int .i64)
theorem by3 : (Try.prog.info? 3).map (·.bytes) = some 8 := by kernel_rfl
theorem ty4 : Ty Try.prog 4 rBool := Ty.mk_ Try.underlying4 rfl (by kernel_rfl)
theorem z4 : TyZero Try.prog 4 rBool (false : Bool) := zr_ty (by kernel_rfl) (zr_bool)
theorem by4 : (Try.prog.info? 4).map (·.bytes) = some 1 := by kernel_rfl
abbrev TNode := Int × Int
@[reducible] def rNode : RT TNode := (rPair (rInt .i64) (rInt .i64))
theorem ty43 : Ty Try.prog 43 rNode := Ty.mk_ Try.underlying43 rfl (by kernel_rfl)
theorem z43 : TyZero Try.prog 43 rNode ((0, 0) : TNode) := zr_ty (by kernel_rfl) ((zr_pair (zr_int .i64) (zr_int .i64)))
theorem by43 : (Try.prog.info? 43).map (·.bytes) = some 16 := by kernel_rfl
theorem pl43 : plcs Try.prog 43 = some [(0, 1), (1, 1)] := by kernel_rfl
theorem fld43_0 : fld Try.prog 43 0 = some 0 := by kernel_rfl
theorem ln43_0 : Lens rNode 0 (rInt .i64) (fun d => d.1) (fun d x => (x, d.2)) := (Lens.fst (Lens.id (rInt .i64)))
theorem fld43_1 : fld Try.prog 43 1 = some 1 := by kernel_rfl
theorem ln43_1 : Lens rNode 1 (rInt .i64) (fun d => d.2) (fun d x => (d.1, x)) := (Lens.snd (Lens.id (rInt .i64)) rfl)
theorem eq43 : EqTy Try.prog 43 rNode 2 := eq_struct rfl (by kernel_rfl) (fs := [⟨ "Op", 3, 0, false, "", "", 0⟩, ⟨ "N", 3, 1, false, "", "", 8⟩]) (by kernel_rfl) (by kernel_rfl) (eqf_cons (by simp) rfl ty3 (eq_mono (eq_int Try.underlying3) (by omega)) (eqf_last (by simp) rfl ty3 (eq_mono (eq_int Try.underlying3) (by omega))) rfl)
theorem eg43 : Try.prog.eqGuardType Try.prog.depth 43 = false := by kernel_rfl
theorem ty44 : Ty Try.prog 44 rNode := Ty.mk_ Try.underlying44 rfl (by kernel_rfl)
theorem z44 : TyZero Try.prog 44 rNode ((0, 0) : TNode) := zr_ty (by kernel_rfl) ((zr_pair (zr_int .i64) (zr_int .i64)))
theorem by44 : (Try.prog.info? 44).map (·.bytes) = some 16 := by kernel_rfl
theorem pl44 : plcs Try.prog 44 = some [(0, 1), (1, 1)] := by kernel_rfl
theorem fld44_0 : fld Try.prog 44 0 = some 0 := by kernel_rfl
theorem ln44_0 : Lens rNode 0 (rInt .i64) (fun d => d.1) (fun d x => (x, d.2)) := (Lens.fst (Lens.id (rInt .i64)))
theorem fld44_1 : fld Try.prog 44 1 = some 1 := by kernel_rfl
theorem ln44_1 : Lens rNode 1 (rInt .i64) (fun d => d.2) (fun d x => (d.1, x)) := (Lens.snd (Lens.id (rInt .i64)) rfl)
theorem eq44 : EqTy Try.prog 44 rNode 2 := eq_struct rfl (by kernel_rfl) (fs := [⟨ "Op", 3, 0, false, "", "", 0⟩, ⟨ "N", 3, 1, false, "", "", 8⟩]) (by kernel_rfl) (by kernel_rfl) (eqf_cons (by simp) rfl ty3 (eq_mono (eq_int Try.underlying3) (by omega)) (eqf_last (by simp) rfl ty3 (eq_mono (eq_int Try.underlying3) (by omega))) rfl)
theorem eg44 : Try.prog.eqGuardType Try.prog.depth 44 = false := by kernel_rfl
theorem ty22 : Ty Try.prog 22 (rSlice rNode) := Ty.mk_ Try.underlying22 rfl (by kernel_rfl)
theorem z22 : TyZero Try.prog 22 (rSlice rNode) ([] : (List TNode)) := zr_ty (by kernel_rfl) (zr_slice)
theorem by22 : (Try.prog.info? 22).map (·.bytes) = some 24 := by kernel_rfl
theorem ty24 : Ty Try.prog 24 (rSlice (rInt .i64)) := Ty.mk_ Try.underlying24 rfl (by kernel_rfl)
theorem z24 : TyZero Try.prog 24 (rSlice (rInt .i64)) ([] : (List Int)) := zr_ty (by kernel_rfl) (zr_slice)
theorem by24 : (Try.prog.info? 24).map (·.bytes) = some 24 := by kernel_rfl
theorem ty25 : Ty Try.prog 25 (rInt .i64) := Ty.mk_ Try.underlying25 rfl (by kernel_rfl)
theorem z25 : TyZero Try.prog 25 (rInt .i64) (0 : Int) := zr_ty (by kernel_rfl) (zr_int .i64)
theorem by25 : (Try.prog.info? 25).map (·.bytes) = some 8 := by kernel_rfl
theorem ty9 : Ty Try.prog 9 rStr := Ty.mk_ Try.underlying9 rfl (by kernel_rfl)
theorem z9 : TyZero Try.prog 9 rStr ([] : (List UInt8)) := zr_ty (by kernel_rfl) (zr_str)
theorem by9 : (Try.prog.info? 9).map (·.bytes) = some 16 := by kernel_rfl
theorem ty51 : Ty Try.prog 51 (rSlice rStr) := Ty.mk_ Try.underlying51 rfl (by kernel_rfl)
theorem z51 : TyZero Try.prog 51 (rSlice rStr) ([] : (List (List UInt8))) := zr_ty (by kernel_rfl) (zr_slice)
theorem by51 : (Try.prog.info? 51).map (·.bytes) = some 24 := by kernel_rfl
abbrev TEnum := (List UInt8) × (List (List UInt8))
@[reducible] def rEnum : RT TEnum := (rPair rStr (rSlice rStr))
theorem ty52 : Ty Try.prog 52 rEnum := Ty.mk_ Try.underlying52 rfl (by kernel_rfl)
theorem z52 : TyZero Try.prog 52 rEnum (([], []) : TEnum) := zr_ty (by kernel_rfl) ((zr_pair (zr_str) (zr_slice)))
theorem by52 : (Try.prog.info? 52).map (·.bytes) = some 40 := by kernel_rfl
theorem pl52 : plcs Try.prog 52 = some [(0, 1), (1, 1)] := by kernel_rfl
theorem fld52_0 : fld Try.prog 52 0 = some 0 := by kernel_rfl
theorem ln52_0 : Lens rEnum 0 rStr (fun d => d.1) (fun d x => (x, d.2)) := (Lens.fst (Lens.id rStr))
theorem fld52_1 : fld Try.prog 52 1 = some 1 := by kernel_rfl
theorem ln52_1 : Lens rEnum 1 (rSlice rStr) (fun d => d.2) (fun d x => (d.1, x)) := (Lens.snd (Lens.id (rSlice rStr)) rfl)
theorem ty53 : Ty Try.prog 53 rEnum := Ty.mk_ Try.underlying53 rfl (by kernel_rfl)
theorem z53 : TyZero Try.prog 53 rEnum (([], []) : TEnum) := zr_ty (by kernel_rfl) ((zr_pair (zr_str) (zr_slice)))
theorem by53 : (Try.prog.info? 53).map (·.bytes) = some 40 := by kernel_rfl
theorem pl53 : plcs Try.prog 53 = some [(0, 1), (1, 1)] := by kernel_rfl
theorem fld53_0 : fld Try.prog 53 0 = some 0 := by kernel_rfl
theorem ln53_0 : Lens rEnum 0 rStr (fun d => d.1) (fun d x => (x, d.2)) := (Lens.fst (Lens.id rStr))
theorem fld53_1 : fld Try.prog 53 1 = some 1 := by kernel_rfl
theorem ln53_1 : Lens rEnum 1 (rSlice rStr) (fun d => d.2) (fun d x => (d.1, x)) := (Lens.snd (Lens.id (rSlice rStr)) rfl)
theorem ty32 : Ty Try.prog 32 (rSlice rEnum) := Ty.mk_ Try.underlying32 rfl (by kernel_rfl)
theorem z32 : TyZero Try.prog 32 (rSlice rEnum) ([] : (List TEnum)) := zr_ty (by kernel_rfl) (zr_slice)
theorem by32 : (Try.prog.info? 32).map (·.bytes) = some 24 := by kernel_rfl
abbrev TType := Int × Int
@[reducible] def rType : RT TType := (rPair (rInt .i64) (rInt .i64))
theorem ty38 : Ty Try.prog 38 rType := Ty.mk_ Try.underlying38 rfl (by kernel_rfl)
theorem z38 : TyZero Try.prog 38 rType ((0, 0) : TType) := zr_ty (by kernel_rfl) ((zr_pair (zr_int .i64) (zr_int .i64)))
theorem by38 : (Try.prog.info? 38).map (·.bytes) = some 16 := by kernel_rfl
theorem pl38 : plcs Try.prog 38 = some [(0, 1), (1, 1)] := by kernel_rfl
theorem fld38_0 : fld Try.prog 38 0 = some 0 := by kernel_rfl
theorem ln38_0 : Lens rType 0 (rInt .i64) (fun d => d.1) (fun d x => (x, d.2)) := (Lens.fst (Lens.id (rInt .i64)))
theorem fld38_1 : fld Try.prog 38 1 = some 1 := by kernel_rfl
theorem ln38_1 : Lens rType 1 (rInt .i64) (fun d => d.2) (fun d x => (d.1, x)) := (Lens.snd (Lens.id (rInt .i64)) rfl)
theorem eq38 : EqTy Try.prog 38 rType 2 := eq_struct rfl (by kernel_rfl) (fs := [⟨ "Kind", 3, 0, false, "", "", 0⟩, ⟨ "Enum", 3, 1, false, "", "", 8⟩]) (by kernel_rfl) (by kernel_rfl) (eqf_cons (by simp) rfl ty3 (eq_mono (eq_int Try.underlying3) (by omega)) (eqf_last (by simp) rfl ty3 (eq_mono (eq_int Try.underlying3) (by omega))) rfl)
theorem eg38 : Try.prog.eqGuardType Try.prog.depth 38 = false := by kernel_rfl
theorem ty39 : Ty Try.prog 39 rType := Ty.mk_ Try.underlying39 rfl (by kernel_rfl)
theorem z39 : TyZero Try.prog 39 rType ((0, 0) : TType) := zr_ty (by kernel_rfl) ((zr_pair (zr_int .i64) (zr_int .i64)))
theorem by39 : (Try.prog.info? 39).map (·.bytes) = some 16 := by kernel_rfl
theorem pl39 : plcs Try.prog 39 = some [(0, 1), (1, 1)] := by kernel_rfl
theorem fld39_0 : fld Try.prog 39 0 = some 0 := by kernel_rfl
theorem ln39_0 : Lens rType 0 (rInt .i64) (fun d => d.1) (fun d x => (x, d.2)) := (Lens.fst (Lens.id (rInt .i64)))
theorem fld39_1 : fld Try.prog 39 1 = some 1 := by kernel_rfl
theorem ln39_1 : Lens rType 1 (rInt .i64) (fun d => d.2) (fun d x => (d.1, x)) := (Lens.snd (Lens.id (rInt .i64)) rfl)
theorem eq39 : EqTy Try.prog 39 rType 2 := eq_struct rfl (by kernel_rfl) (fs := [⟨ "Kind", 3, 0, false, "", "", 0⟩, ⟨ "Enum", 3, 1, false, "", "", 8⟩]) (by kernel_rfl) (by kernel_rfl) (eqf_cons (by simp) rfl ty3 (eq_mono (eq_int Try.underlying3) (by omega)) (eqf_last (by simp) rfl ty3 (eq_mono (eq_int Try.underlying3) (by omega))) rfl)
theorem eg39 : Try.prog.eqGuardType Try.prog.depth 39 = false := by kernel_rfl
abbrev TDateRange := Int × Int
@[reducible] def rDateRange : RT TDateRange := (rPair (rInt .i64) (rInt .i64))
theorem ty118 : Ty Try.prog 118 rDateRange := Ty.mk_ Try.underlying118 rfl (by kernel_rfl)
theorem z118 : TyZero Try.prog 118 rDateRange ((0, 0) : TDateRange) := zr_ty (by kernel_rfl) ((zr_pair (zr_int .i64) (zr_int .i64)))
theorem by118 : (Try.prog.info? 118).map (·.bytes) = some 16 := by kernel_rfl
theorem pl118 : plcs Try.prog 118 = some [(0, 1), (1, 1)] := by kernel_rfl
theorem fld118_0 : fld Try.prog 118 0 = some 0 := by kernel_rfl
theorem ln118_0 : Lens rDateRange 0 (rInt .i64) (fun d => d.1) (fun d x => (x, d.2)) := (Lens.fst (Lens.id (rInt .i64)))
theorem fld118_1 : fld Try.prog 118 1 = some 1 := by kernel_rfl
theorem ln118_1 : Lens rDateRange 1 (rInt .i64) (fun d => d.2) (fun d x => (d.1, x)) := (Lens.snd (Lens.id (rInt .i64)) rfl)
theorem eq118 : EqTy Try.prog 118 rDateRange 2 := eq_struct rfl (by kernel_rfl) (fs := [⟨ "From", 3, 0, false, "", "", 0⟩, ⟨ "To", 3, 1, false, "", "", 8⟩]) (by kernel_rfl) (by kernel_rfl) (eqf_cons (by simp) rfl ty3 (eq_mono (eq_int Try.underlying3) (by omega)) (eqf_last (by simp) rfl ty3 (eq_mono (eq_int Try.underlying3) (by omega))) rfl)
theorem eg118 : Try.prog.eqGuardType Try.prog.depth 118 = false := by kernel_rfl
theorem ty119 : Ty Try.prog 119 rDateRange := Ty.mk_ Try.underlying119 rfl (by kernel_rfl)
theorem z119 : TyZero Try.prog 119 rDateRange ((0, 0) : TDateRange) := zr_ty (by kernel_rfl) ((zr_pair (zr_int .i64) (zr_int .i64)))
theorem by119 : (Try.prog.info? 119).map (·.bytes) = some 16 := by kernel_rfl
theorem pl119 : plcs Try.prog 119 = some [(0, 1), (1, 1)] := by kernel_rfl
theorem fld119_0 : fld Try.prog 119 0 = some 0 := by kernel_rfl
theorem ln119_0 : Lens rDateRange 0 (rInt .i64) (fun d => d.1) (fun d x => (x, d.2)) := (Lens.fst (Lens.id (rInt .i64)))
theorem fld119_1 : fld Try.prog 119 1 = some 1 := by kernel_rfl
theorem ln119_1 : Lens rDateRange 1 (rInt .i64) (fun d => d.2) (fun d x => (d.1, x)) := (Lens.snd (Lens.id (rInt .i64)) rfl)
theorem eq119 : EqTy Try.prog 119 rDateRange 2 := eq_struct rfl (by kernel_rfl) (fs := [⟨ "From", 3, 0, false, "", "", 0⟩, ⟨ "To", 3, 1, false, "", "", 8⟩]) (by kernel_rfl) (by kernel_rfl) (eqf_cons (by simp) rfl ty3 (eq_mono (eq_int Try.underlying3) (by omega)) (eqf_last (by simp) rfl ty3 (eq_mono (eq_int Try.underlying3) (by omega))) rfl)
theorem eg119 : Try.prog.eqGuardType Try.prog.depth 119 = false := by kernel_rfl
abbrev TRow := TDateRange × Int × Int × Int
@[reducible] def rRow : RT TRow := (rPair rDateRange (rPair (rInt .i64) (rPair (rInt .i64) (rInt .i64))))
theorem ty120 : Ty Try.prog 120 rRow := Ty.mk_ Try.underlying120 rfl (by kernel_rfl)
theorem z120 : TyZero Try.prog 120 rRow (((0, 0), (0, (0, 0))) : TRow) := zr_ty (by kernel_rfl) ((zr_pair ((zr_pair (zr_int .i64) (zr_int .i64))) ((zr_pair (zr_int .i64) ((zr_pair (zr_int .i64) (zr_int .i64)))))))
theorem by120 : (Try.prog.info? 120).map (·.bytes) = some 40 := by kernel_rfl
theorem pl120 : plcs Try.prog 120 = some [(0, 2), (2, 1), (3, 1), (4, 1)] := by kernel_rfl
theorem fld120_0 : fld Try.prog 120 0 = some 0 := by kernel_rfl
theorem ln120_0 : Lens rRow 0 rDateRange (fun d => d.1) (fun d x => (x, d.2)) := (Lens.fst (Lens.id rDateRange))
theorem fld120_1 : fld Try.prog 120 1 = some 2 := by kernel_rfl
theorem ln120_1 : Lens rRow 2 (rInt .i64) (fun d => d.2.1) (fun d x => (d.1, (x, d.2.2))) := (Lens.snd (Lens.fst (Lens.id (rInt .i64))) rfl)
theorem fld120_2 : fld Try.prog 120 2 = some 3 := by kernel_rfl
theorem ln120_2 : Lens rRow 3 (rInt .i64) (fun d => d.2.2.1) (fun d x => (d.1, (d.2.1, (x, d.2.2.2)))) := (Lens.snd (Lens.snd (Lens.fst (Lens.id (rInt .i64))) rfl) rfl)
theorem fld120_3 : fld Try.prog 120 3 = some 4 := by kernel_rfl
theorem ln120_3 : Lens rRow 4 (rInt .i64) (fun d => d.2.2.2) (fun d x => (d.1, (d.2.1, (d.2.2.1, x)))) := (Lens.snd (Lens.snd (Lens.snd (Lens.id (rInt .i64)) rfl) rfl) rfl)
theorem eq120 : EqTy Try.prog 120 rRow 3 := eq_struct rfl (by kernel_rfl) (fs := [⟨ "Valid", 119, 0, false, "", "", 0⟩, ⟨ "Lo", 3, 2, false, "", "", 16⟩, ⟨ "Hi", 3, 3, false, "", "", 24⟩, ⟨ "N", 3, 4, false, "", "", 32⟩]) (by kernel_rfl) (by kernel_rfl) (eqf_cons (by simp) rfl ty119 (eq_mono eq119 (by omega)) (eqf_cons (by simp) rfl ty3 (eq_mono (eq_int Try.underlying3) (by omega)) (eqf_cons (by simp) rfl ty3 (eq_mono (eq_int Try.underlying3) (by omega)) (eqf_last (by simp) rfl ty3 (eq_mono (eq_int Try.underlying3) (by omega))) rfl) rfl) rfl)
theorem eg120 : Try.prog.eqGuardType Try.prog.depth 120 = false := by kernel_rfl
theorem ty121 : Ty Try.prog 121 rRow := Ty.mk_ Try.underlying121 rfl (by kernel_rfl)
theorem z121 : TyZero Try.prog 121 rRow (((0, 0), (0, (0, 0))) : TRow) := zr_ty (by kernel_rfl) ((zr_pair ((zr_pair (zr_int .i64) (zr_int .i64))) ((zr_pair (zr_int .i64) ((zr_pair (zr_int .i64) (zr_int .i64)))))))
theorem by121 : (Try.prog.info? 121).map (·.bytes) = some 40 := by kernel_rfl
theorem pl121 : plcs Try.prog 121 = some [(0, 2), (2, 1), (3, 1), (4, 1)] := by kernel_rfl
theorem fld121_0 : fld Try.prog 121 0 = some 0 := by kernel_rfl
theorem ln121_0 : Lens rRow 0 rDateRange (fun d => d.1) (fun d x => (x, d.2)) := (Lens.fst (Lens.id rDateRange))
theorem fld121_1 : fld Try.prog 121 1 = some 2 := by kernel_rfl
theorem ln121_1 : Lens rRow 2 (rInt .i64) (fun d => d.2.1) (fun d x => (d.1, (x, d.2.2))) := (Lens.snd (Lens.fst (Lens.id (rInt .i64))) rfl)
theorem fld121_2 : fld Try.prog 121 2 = some 3 := by kernel_rfl
theorem ln121_2 : Lens rRow 3 (rInt .i64) (fun d => d.2.2.1) (fun d x => (d.1, (d.2.1, (x, d.2.2.2)))) := (Lens.snd (Lens.snd (Lens.fst (Lens.id (rInt .i64))) rfl) rfl)
theorem fld121_3 : fld Try.prog 121 3 = some 4 := by kernel_rfl
theorem ln121_3 : Lens rRow 4 (rInt .i64) (fun d => d.2.2.2) (fun d x => (d.1, (d.2.1, (d.2.2.1, x)))) := (Lens.snd (Lens.snd (Lens.snd (Lens.id (rInt .i64)) rfl) rfl) rfl)
theorem eq121 : EqTy Try.prog 121 rRow 3 := eq_struct rfl (by kernel_rfl) (fs := [⟨ "Valid", 119, 0, false, "", "", 0⟩, ⟨ "Lo", 3, 2, false, "", "", 16⟩, ⟨ "Hi", 3, 3, false, "", "", 24⟩, ⟨ "N", 3, 4, false, "", "", 32⟩]) (by kernel_rfl) (by kernel_rfl) (eqf_cons (by simp) rfl ty119 (eq_mono eq119 (by omega)) (eqf_cons (by simp) rfl ty3 (eq_mono (eq_int Try.underlying3) (by omega)) (eqf_cons (by simp) rfl ty3 (eq_mono (eq_int Try.underlying3) (by omega)) (eqf_last (by simp) rfl ty3 (eq_mono (eq_int Try.underlying3) (by omega))) rfl) rfl) rfl)
theorem eg121 : Try.prog.eqGuardType Try.prog.depth 121 = false := by kernel_rfl
theorem ty74 : Ty Try.prog 74 (rSlice rRow) := Ty.mk_ Try.underlying74 rfl (by kernel_rfl)
theorem z74 : TyZero Try.prog 74 (rSlice rRow) ([] : (List TRow)) := zr_ty (by kernel_rfl) (zr_slice)
theorem by74 : (Try.prog.info? 74).map (·.bytes) = some 24 := by kernel_rfl
abbrev TTable := (List UInt8) × TType × TType × (List TRow)
@[reducible] def rTable : RT TTable := (rPair rStr (rPair rType (rPair rType (rSlice rRow))))
theorem ty75 : Ty Try.prog 75 rTable := Ty.mk_ Try.underlying75 rfl (by kernel_rfl)
theorem z75 : TyZero Try.prog 75 rTable (([], ((0, 0), ((0, 0), []))) : TTable) := zr_ty (by kernel_rfl) ((zr_pair (zr_str) ((zr_pair ((zr_pair (zr_int .i64) (zr_int .i64))) ((zr_pair ((zr_pair (zr_int .i64) (zr_int .i64))) (zr_slice)))))))
theorem by75 : (Try.prog.info? 75).map (·.bytes) = some 72 := by kernel_rfl
theorem pl75 : plcs Try.prog 75 = some [(0, 1), (1, 2), (3, 2), (5, 1)] := by kernel_rfl
theorem fld75_0 : fld Try.prog 75 0 = some 0 := by kernel_rfl
theorem ln75_0 : Lens rTable 0 rStr (fun d => d.1) (fun d x => (x, d.2)) := (Lens.fst (Lens.id rStr))
theorem fld75_1 : fld Try.prog 75 1 = some 1 := by kernel_rfl
theorem ln75_1 : Lens rTable 1 rType (fun d => d.2.1) (fun d x => (d.1, (x, d.2.2))) := (Lens.snd (Lens.fst (Lens.id rType)) rfl)
theorem fld75_2 : fld Try.prog 75 2 = some 3 := by kernel_rfl
theorem ln75_2 : Lens rTable 3 rType (fun d => d.2.2.1) (fun d x => (d.1, (d.2.1, (x, d.2.2.2)))) := (Lens.snd (Lens.snd (Lens.fst (Lens.id rType)) rfl) rfl)
theorem fld75_3 : fld Try.prog 75 3 = some 5 := by kernel_rfl
theorem ln75_3 : Lens rTable 5 (rSlice rRow) (fun d => d.2.2.2) (fun d x => (d.1, (d.2.1, (d.2.2.1, x)))) := (Lens.snd (Lens.snd (Lens.snd (Lens.id (rSlice rRow)) rfl) rfl) rfl)
theorem ty76 : Ty Try.prog 76 rTable := Ty.mk_ Try.underlying76 rfl (by kernel_rfl)
theorem z76 : TyZero Try.prog 76 rTable (([], ((0, 0), ((0, 0), []))) : TTable) := zr_ty (by kernel_rfl) ((zr_pair (zr_str) ((zr_pair ((zr_pair (zr_int .i64) (zr_int .i64))) ((zr_pair ((zr_pair (zr_int .i64) (zr_int .i64))) (zr_slice)))))))
theorem by76 : (Try.prog.info? 76).map (·.bytes) = some 72 := by kernel_rfl
theorem pl76 : plcs Try.prog 76 = some [(0, 1), (1, 2), (3, 2), (5, 1)] := by kernel_rfl
theorem fld76_0 : fld Try.prog 76 0 = some 0 := by kernel_rfl
theorem ln76_0 : Lens rTable 0 rStr (fun d => d.1) (fun d x => (x, d.2)) := (Lens.fst (Lens.id rStr))
theorem fld76_1 : fld Try.prog 76 1 = some 1 := by kernel_rfl
theorem ln76_1 : Lens rTable 1 rType (fun d => d.2.1) (fun d x => (d.1, (x, d.2.2))) := (Lens.snd (Lens.fst (Lens.id rType)) rfl)
theorem fld76_2 : fld Try.prog 76 2 = some 3 := by kernel_rfl
theorem ln76_2 : Lens rTable 3 rType (fun d => d.2.2.1) (fun d x => (d.1, (d.2.1, (x, d.2.2.2)))) := (Lens.snd (Lens.snd (Lens.fst (Lens.id rType)) rfl) rfl)
theorem fld76_3 : fld Try.prog 76 3 = some 5 := by kernel_rfl
theorem ln76_3 : Lens rTable 5 (rSlice rRow) (fun d => d.2.2.2) (fun d x => (d.1, (d.2.1, (d.2.2.1, x)))) := (Lens.snd (Lens.snd (Lens.snd (Lens.id (rSlice rRow)) rfl) rfl) rfl)
theorem ty33 : Ty Try.prog 33 (rSlice rTable) := Ty.mk_ Try.underlying33 rfl (by kernel_rfl)
theorem z33 : TyZero Try.prog 33 (rSlice rTable) ([] : (List TTable)) := zr_ty (by kernel_rfl) (zr_slice)
theorem by33 : (Try.prog.info? 33).map (·.bytes) = some 24 := by kernel_rfl
theorem ty34 : Ty Try.prog 34 (rSlice rType) := Ty.mk_ Try.underlying34 rfl (by kernel_rfl)
theorem z34 : TyZero Try.prog 34 (rSlice rType) ([] : (List TType)) := zr_ty (by kernel_rfl) (zr_slice)
theorem by34 : (Try.prog.info? 34).map (·.bytes) = some 24 := by kernel_rfl
abbrev TSignature := (List TEnum) × (List TTable) × (List TType) × (List TType) × (List TType) × Bool
@[reducible] def rSignature : RT TSignature := (rPair (rSlice rEnum) (rPair (rSlice rTable) (rPair (rSlice rType) (rPair (rSlice rType) (rPair (rSlice rType) rBool)))))
theorem ty35 : Ty Try.prog 35 rSignature := Ty.mk_ Try.underlying35 rfl (by kernel_rfl)
theorem z35 : TyZero Try.prog 35 rSignature (([], ([], ([], ([], ([], false))))) : TSignature) := zr_ty (by kernel_rfl) ((zr_pair (zr_slice) ((zr_pair (zr_slice) ((zr_pair (zr_slice) ((zr_pair (zr_slice) ((zr_pair (zr_slice) (zr_bool)))))))))))
theorem by35 : (Try.prog.info? 35).map (·.bytes) = some 128 := by kernel_rfl
theorem pl35 : plcs Try.prog 35 = some [(0, 1), (1, 1), (2, 1), (3, 1), (4, 1), (5, 1)] := by kernel_rfl
theorem fld35_0 : fld Try.prog 35 0 = some 0 := by kernel_rfl
theorem ln35_0 : Lens rSignature 0 (rSlice rEnum) (fun d => d.1) (fun d x => (x, d.2)) := (Lens.fst (Lens.id (rSlice rEnum)))
theorem fld35_1 : fld Try.prog 35 1 = some 1 := by kernel_rfl
theorem ln35_1 : Lens rSignature 1 (rSlice rTable) (fun d => d.2.1) (fun d x => (d.1, (x, d.2.2))) := (Lens.snd (Lens.fst (Lens.id (rSlice rTable))) rfl)
theorem fld35_2 : fld Try.prog 35 2 = some 2 := by kernel_rfl
theorem ln35_2 : Lens rSignature 2 (rSlice rType) (fun d => d.2.2.1) (fun d x => (d.1, (d.2.1, (x, d.2.2.2)))) := (Lens.snd (Lens.snd (Lens.fst (Lens.id (rSlice rType))) rfl) rfl)
theorem fld35_3 : fld Try.prog 35 3 = some 3 := by kernel_rfl
theorem ln35_3 : Lens rSignature 3 (rSlice rType) (fun d => d.2.2.2.1) (fun d x => (d.1, (d.2.1, (d.2.2.1, (x, d.2.2.2.2))))) := (Lens.snd (Lens.snd (Lens.snd (Lens.fst (Lens.id (rSlice rType))) rfl) rfl) rfl)
theorem fld35_4 : fld Try.prog 35 4 = some 4 := by kernel_rfl
theorem ln35_4 : Lens rSignature 4 (rSlice rType) (fun d => d.2.2.2.2.1) (fun d x => (d.1, (d.2.1, (d.2.2.1, (d.2.2.2.1, (x, d.2.2.2.2.2)))))) := (Lens.snd (Lens.snd (Lens.snd (Lens.snd (Lens.fst (Lens.id (rSlice rType))) rfl) rfl) rfl) rfl)
theorem fld35_5 : fld Try.prog 35 5 = some 5 := by kernel_rfl
theorem ln35_5 : Lens rSignature 5 rBool (fun d => d.2.2.2.2.2) (fun d x => (d.1, (d.2.1, (d.2.2.1, (d.2.2.2.1, (d.2.2.2.2.1, x)))))) := (Lens.snd (Lens.snd (Lens.snd (Lens.snd (Lens.snd (Lens.id rBool) rfl) rfl) rfl) rfl) rfl)
theorem ty36 : Ty Try.prog 36 rSignature := Ty.mk_ Try.underlying36 rfl (by kernel_rfl)
theorem z36 : TyZero Try.prog 36 rSignature (([], ([], ([], ([], ([], false))))) : TSignature) := zr_ty (by kernel_rfl) ((zr_pair (zr_slice) ((zr_pair (zr_slice) ((zr_pair (zr_slice) ((zr_pair (zr_slice) ((zr_pair (zr_slice) (zr_bool)))))))))))
theorem by36 : (Try.prog.info? 36).map (·.bytes) = some 128 := by kernel_rfl
theorem pl36 : plcs Try.prog 36 = some [(0, 1), (1, 1), (2, 1), (3, 1), (4, 1), (5, 1)] := by kernel_rfl
theorem fld36_0 : fld Try.prog 36 0 = some 0 := by kernel_rfl
theorem ln36_0 : Lens rSignature 0 (rSlice rEnum) (fun d => d.1) (fun d x => (x, d.2)) := (Lens.fst (Lens.id (rSlice rEnum)))
theorem fld36_1 : fld Try.prog 36 1 = some 1 := by kernel_rfl
theorem ln36_1 : Lens rSignature 1 (rSlice rTable) (fun d => d.2.1) (fun d x => (d.1, (x, d.2.2))) := (Lens.snd (Lens.fst (Lens.id (rSlice rTable))) rfl)
theorem fld36_2 : fld Try.prog 36 2 = some 2 := by kernel_rfl
theorem ln36_2 : Lens rSignature 2 (rSlice rType) (fun d => d.2.2.1) (fun d x => (d.1, (d.2.1, (x, d.2.2.2)))) := (Lens.snd (Lens.snd (Lens.fst (Lens.id (rSlice rType))) rfl) rfl)
theorem fld36_3 : fld Try.prog 36 3 = some 3 := by kernel_rfl
theorem ln36_3 : Lens rSignature 3 (rSlice rType) (fun d => d.2.2.2.1) (fun d x => (d.1, (d.2.1, (d.2.2.1, (x, d.2.2.2.2))))) := (Lens.snd (Lens.snd (Lens.snd (Lens.fst (Lens.id (rSlice rType))) rfl) rfl) rfl)
theorem fld36_4 : fld Try.prog 36 4 = some 4 := by kernel_rfl
theorem ln36_4 : Lens rSignature 4 (rSlice rType) (fun d => d.2.2.2.2.1) (fun d x => (d.1, (d.2.1, (d.2.2.1, (d.2.2.2.1, (x, d.2.2.2.2.2)))))) := (Lens.snd (Lens.snd (Lens.snd (Lens.snd (Lens.fst (Lens.id (rSlice rType))) rfl) rfl) rfl) rfl)
theorem fld36_5 : fld Try.prog 36 5 = some 5 := by kernel_rfl
theorem ln36_5 : Lens rSignature 5 rBool (fun d => d.2.2.2.2.2) (fun d x => (d.1, (d.2.1, (d.2.2.1, (d.2.2.2.1, (d.2.2.2.2.1, x)))))) := (Lens.snd (Lens.snd (Lens.snd (Lens.snd (Lens.snd (Lens.id rBool) rfl) rfl) rfl) rfl) rfl)
end Go.Proofs.Ytkbljpjbocdhdaa
