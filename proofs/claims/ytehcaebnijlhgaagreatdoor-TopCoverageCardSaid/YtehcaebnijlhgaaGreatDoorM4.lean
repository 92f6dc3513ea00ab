import Derived.Test.YtehcaebnijlhgaaGreatDoorM3
import Derived.Test.YtehcaebnijlhgaaGreatDoorProg
import Derived.KernelRfl
import Derived.Sort.Grow
import Derived.Laws.Small
import Derived.Laws.BytesArg
import Derived.Laws.Strings
import Derived.OpenShut
import Derived.ChangeOld
import Derived.Tactics
set_option linter.unusedVariables false
set_option linter.unusedSimpArgs false
namespace Go.Proofs.YtehcaebnijlhgaaGreatDoor
open Go.Eng Tryz
set_option maxRecDepth 100000
theorem mo : prog.follows .mixedOrders = true := by kernel_rfl
theorem ty3 : Ty prog 3 (ak .i64) := Ty.mk_ Tryz.underlying3 rfl zk
theorem z3 : TyZero prog 3 (ak .i64) (0 : Int) := dj zk (cc .i64)
theorem by3 : (prog.info? 3).map (·.bytes) = some 8 := by kernel_rfl
theorem ty4 : Ty prog 4 bP := Ty.mk_ Tryz.underlying4 rfl zk
theorem z4 : TyZero prog 4 bP (false : Bool) := dj zk (vu)
theorem by4 : (prog.info? 4).map (·.bytes) = some 1 := by kernel_rfl
theorem z5 : TyZero prog 5 (ak .u8) (0 : Int) := dj zk (cc .u8)
theorem ty9 : Ty prog 9 dG := Ty.mk_ Tryz.underlying9 rfl zk
theorem z9 : TyZero prog 9 dG ([] : (List UInt8)) := dj zk (jJ)
theorem by9 : (prog.info? 9).map (·.bytes) = some 16 := by kernel_rfl
theorem k9 : Ty prog 154 (ab dG) := Ty.mk_ Tryz.underlying154 rfl zk
abbrev bV := (List UInt8) × (List (List UInt8))
@[reducible] def cX : RT bV := (bO dG (ab dG))
theorem gf : Ty prog 156 cX := Ty.mk_ Tryz.underlying156 rfl zk
theorem yc : TyZero prog 156 cX (([], []) : bV) := dj zk ((aR (jJ) (bm)))
theorem by156 : (prog.info? 156).map (·.bytes) = some 40 := by kernel_rfl
theorem pl156 : jn prog 156 = some [(0, 1), (1, 1)] := by kernel_rfl
theorem lz : fld prog 156 0 = some 0 := by kernel_rfl
theorem lQ : Lens cX 0 dG (fun d => d.1) (fun d x => (x, d.2)) := (Lens.fst (Lens.id dG))
theorem fh : fld prog 156 1 = some 1 := by kernel_rfl
theorem fF : Lens cX 1 (ab dG) (fun d => d.2) (fun d x => (d.1, x)) := (Lens.snd (Lens.id (ab dG)) rfl)
theorem hU : Ty prog 22 (ab cX) := Ty.mk_ Tryz.underlying22 rfl zk
theorem z22 : TyZero prog 22 (ab cX) ([] : (List bV)) := dj zk (bm)
abbrev bE := Int × Int
@[reducible] def aX : RT bE := (bO (ak .i64) (ak .i64))
theorem eq89 : o4 prog 89 aX 2 := l0 rfl zk (fs := [⟨ "Kind", 3, 0, false, "", "", 0⟩, ⟨ "Enum", 3, 1, false, "", "", 8⟩]) zk zk (kg (by simp) rfl ty3 (hJ (jR Tryz.underlying3) zo) (nQ (by simp) rfl ty3 (hJ (jR Tryz.underlying3) zo)) rfl)
theorem aE : Ty prog 90 aX := Ty.mk_ Tryz.underlying90 rfl zk
theorem z90 : TyZero prog 90 aX ((0, 0) : bE) := dj zk ((aR (cc .i64) (cc .i64)))
theorem by90 : (prog.info? 90).map (·.bytes) = some 16 := by kernel_rfl
theorem d4 : jn prog 90 = some [(0, 1), (1, 1)] := by kernel_rfl
theorem bR : fld prog 90 0 = some 0 := by kernel_rfl
theorem bN : Lens aX 0 (ak .i64) (fun d => d.1) (fun d x => (x, d.2)) := (Lens.fst (Lens.id (ak .i64)))
theorem dV : fld prog 90 1 = some 1 := by kernel_rfl
theorem ez : Lens aX 1 (ak .i64) (fun d => d.2) (fun d x => (d.1, x)) := (Lens.snd (Lens.id (ak .i64)) rfl)
theorem oD : o4 prog 90 aX 2 := l0 rfl zk (fs := [⟨ "Kind", 3, 0, false, "", "", 0⟩, ⟨ "Enum", 3, 1, false, "", "", 8⟩]) zk zk (kg (by simp) rfl ty3 (hJ (jR Tryz.underlying3) zo) (nQ (by simp) rfl ty3 (hJ (jR Tryz.underlying3) zo)) rfl)
theorem oE : prog.eqGuardType prog.depth 90 = false := by kernel_rfl
abbrev kN := Int × Int
@[reducible] def co : RT kN := (bO (ak .i64) (ak .i64))
theorem ji : Ty prog 63 co := Ty.mk_ Tryz.underlying63 rfl zk
theorem z63 : TyZero prog 63 co ((0, 0) : kN) := dj zk ((aR (cc .i64) (cc .i64)))
theorem yS : jn prog 63 = some [(0, 1), (1, 1)] := by kernel_rfl
theorem fI : fld prog 63 0 = some 0 := by kernel_rfl
theorem fQ : Lens co 0 (ak .i64) (fun d => d.1) (fun d x => (x, d.2)) := (Lens.fst (Lens.id (ak .i64)))
theorem fH : fld prog 63 1 = some 1 := by kernel_rfl
theorem fP : Lens co 1 (ak .i64) (fun d => d.2) (fun d x => (d.1, x)) := (Lens.snd (Lens.id (ak .i64)) rfl)
abbrev jU := kN × Int × Int × Int
@[reducible] def ib : RT jU := (bO co (bO (ak .i64) (bO (ak .i64) (ak .i64))))
theorem oT : Ty prog 65 ib := Ty.mk_ Tryz.underlying65 rfl zk
theorem z65 : TyZero prog 65 ib (((0, 0), (0, (0, 0))) : jU) := dj zk ((aR ((aR (cc .i64) (cc .i64))) ((aR (cc .i64) ((aR (cc .i64) (cc .i64)))))))
theorem by65 : (prog.info? 65).map (·.bytes) = some 40 := by kernel_rfl
theorem nF : fld prog 65 0 = some 0 := by kernel_rfl
theorem qc : Lens ib 0 co (fun d => d.1) (fun d x => (x, d.2)) := (Lens.fst (Lens.id co))
theorem nE : fld prog 65 1 = some 2 := by kernel_rfl
theorem qb : Lens ib 2 (ak .i64) (fun d => d.2.1) (fun d x => (d.1, (x, d.2.2))) := (Lens.snd (Lens.fst (Lens.id (ak .i64))) rfl)
theorem nD : fld prog 65 2 = some 3 := by kernel_rfl
theorem qa : Lens ib 3 (ak .i64) (fun d => d.2.2.1) (fun d x => (d.1, (d.2.1, (x, d.2.2.2)))) := (Lens.snd (Lens.snd (Lens.fst (Lens.id (ak .i64))) rfl) rfl)
theorem wC : fld prog 65 3 = some 4 := by kernel_rfl
theorem zy : Lens ib 4 (ak .i64) (fun d => d.2.2.2) (fun d x => (d.1, (d.2.1, (d.2.2.1, x)))) := (Lens.snd (Lens.snd (Lens.snd (Lens.id (ak .i64)) rfl) rfl) rfl)
theorem qU : Ty prog 157 (ab ib) := Ty.mk_ Tryz.underlying157 rfl zk
abbrev cy := (List UInt8) × bE × bE × (List jU)
@[reducible] def ch : RT cy := (bO dG (bO aX (bO aX (ab ib))))
theorem ge : Ty prog 159 ch := Ty.mk_ Tryz.underlying159 rfl zk
theorem BC : TyZero prog 159 ch (([], ((0, 0), ((0, 0), []))) : cy) := dj zk ((aR (jJ) ((aR ((aR (cc .i64) (cc .i64))) ((aR ((aR (cc .i64) (cc .i64))) (bm)))))))
theorem by159 : (prog.info? 159).map (·.bytes) = some 72 := by kernel_rfl
theorem ly : fld prog 159 0 = some 0 := by kernel_rfl
theorem mS : Lens ch 0 dG (fun d => d.1) (fun d x => (x, d.2)) := (Lens.fst (Lens.id dG))
theorem nH : fld prog 159 1 = some 1 := by kernel_rfl
theorem pj : Lens ch 1 aX (fun d => d.2.1) (fun d x => (d.1, (x, d.2.2))) := (Lens.snd (Lens.fst (Lens.id aX)) rfl)
theorem nG : fld prog 159 2 = some 3 := by kernel_rfl
theorem pi : Lens ch 3 aX (fun d => d.2.2.1) (fun d x => (d.1, (d.2.1, (x, d.2.2.2)))) := (Lens.snd (Lens.snd (Lens.fst (Lens.id aX)) rfl) rfl)
theorem kc : fld prog 159 3 = some 5 := by kernel_rfl
theorem lP : Lens ch 5 (ab ib) (fun d => d.2.2.2) (fun d x => (d.1, (d.2.1, (d.2.2.1, x)))) := (Lens.snd (Lens.snd (Lens.snd (Lens.id (ab ib)) rfl) rfl) rfl)
theorem jl : Ty prog 23 (ab ch) := Ty.mk_ Tryz.underlying23 rfl zk
abbrev cf := (List UInt8) × bE
@[reducible] def cq : RT cf := (bO dG aX)
theorem e8 : Ty prog 92 cq := Ty.mk_ Tryz.underlying92 rfl zk
theorem z92 : TyZero prog 92 cq (([], (0, 0)) : cf) := dj zk ((aR (jJ) ((aR (cc .i64) (cc .i64)))))
theorem BY : jn prog 92 = some [(0, 1), (1, 2)] := by kernel_rfl
theorem nC : fld prog 92 0 = some 0 := by kernel_rfl
theorem kD : Lens cq 0 dG (fun d => d.1) (fun d x => (x, d.2)) := (Lens.fst (Lens.id dG))
theorem gq : fld prog 92 1 = some 1 := by kernel_rfl
theorem fN : Lens cq 1 aX (fun d => d.2) (fun d x => (d.1, x)) := (Lens.snd (Lens.id aX) rfl)
theorem fj : Ty prog 78 (ab cq) := Ty.mk_ Tryz.underlying78 rfl zk
abbrev aP := Int × Int
@[reducible] def bX : RT aP := (bO (ak .i64) (ak .i64))
theorem cl : Ty prog 163 bX := Ty.mk_ Tryz.underlying163 rfl zk
theorem kT : TyZero prog 163 bX ((0, 0) : aP) := dj zk ((aR (cc .i64) (cc .i64)))
theorem tx : jn prog 163 = some [(0, 1), (1, 1)] := by kernel_rfl
theorem bU : fld prog 163 0 = some 0 := by kernel_rfl
theorem cb : Lens bX 0 (ak .i64) (fun d => d.1) (fun d x => (x, d.2)) := (Lens.fst (Lens.id (ak .i64)))
theorem bT : fld prog 163 1 = some 1 := by kernel_rfl
theorem ce : Lens bX 1 (ak .i64) (fun d => d.2) (fun d x => (d.1, x)) := (Lens.snd (Lens.id (ak .i64)) rfl)
theorem eq163 : o4 prog 163 bX 2 := l0 rfl zk (fs := [⟨ "Op", 3, 0, false, "", "", 0⟩, ⟨ "N", 3, 1, false, "", "", 8⟩]) zk zk (kg (by simp) rfl ty3 (hJ (jR Tryz.underlying3) zo) (nQ (by simp) rfl ty3 (hJ (jR Tryz.underlying3) zo)) rfl)
theorem eg163 : prog.eqGuardType prog.depth 163 = false := by kernel_rfl
theorem hP : Ty prog 61 (ab bX) := Ty.mk_ Tryz.underlying61 rfl zk
theorem z61 : TyZero prog 61 (ab bX) ([] : (List aP)) := dj zk (bm)
theorem by61 : (prog.info? 61).map (·.bytes) = some 24 := by kernel_rfl
abbrev bB := (List UInt8) × Int × Int × Int × kN × (List aP) × (List aP) × (List UInt8)
@[reducible] def cZ : RT bB := (bO dG (bO (ak .i64) (bO (ak .i64) (bO (ak .i64) (bO co (bO (ab bX) (bO (ab bX) dG)))))))
theorem dp : Ty prog 120 cZ := Ty.mk_ Tryz.underlying120 rfl zk
theorem pC : TyZero prog 120 cZ (([], (0, (0, (0, ((0, 0), ([], ([], []))))))) : bB) := dj zk ((aR (jJ) ((aR (cc .i64) ((aR (cc .i64) ((aR (cc .i64) ((aR ((aR (cc .i64) (cc .i64))) ((aR (bm) ((aR (bm) (jJ)))))))))))))))
theorem C5 : jn prog 120 = some [(0, 1), (1, 1), (2, 1), (3, 1), (4, 2), (6, 1), (7, 1), (8, 1)] := by kernel_rfl
theorem nN : fld prog 120 0 = some 0 := by kernel_rfl
theorem lT : Lens cZ 0 dG (fun d => d.1) (fun d x => (x, d.2)) := (Lens.fst (Lens.id dG))
theorem ec : fld prog 120 1 = some 1 := by kernel_rfl
theorem eK : Lens cZ 1 (ak .i64) (fun d => d.2.1) (fun d x => (d.1, (x, d.2.2))) := (Lens.snd (Lens.fst (Lens.id (ak .i64))) rfl)
theorem jd : fld prog 120 2 = some 2 := by kernel_rfl
theorem iI : Lens cZ 2 (ak .i64) (fun d => d.2.2.1) (fun d x => (d.1, (d.2.1, (x, d.2.2.2)))) := (Lens.snd (Lens.snd (Lens.fst (Lens.id (ak .i64))) rfl) rfl)
theorem qq : fld prog 120 3 = some 3 := by kernel_rfl
theorem r7 : Lens cZ 3 (ak .i64) (fun d => d.2.2.2.1) (fun d x => (d.1, (d.2.1, (d.2.2.1, (x, d.2.2.2.2))))) := (Lens.snd (Lens.snd (Lens.snd (Lens.fst (Lens.id (ak .i64))) rfl) rfl) rfl)
theorem kd : fld prog 120 4 = some 4 := by kernel_rfl
theorem jw : Lens cZ 4 co (fun d => d.2.2.2.2.1) (fun d x => (d.1, (d.2.1, (d.2.2.1, (d.2.2.2.1, (x, d.2.2.2.2.2)))))) := (Lens.snd (Lens.snd (Lens.snd (Lens.snd (Lens.fst (Lens.id co)) rfl) rfl) rfl) rfl)
theorem eQ : fld prog 120 5 = some 6 := by kernel_rfl
theorem fG : Lens cZ 6 (ab bX) (fun d => d.2.2.2.2.2.1) (fun d x => (d.1, (d.2.1, (d.2.2.1, (d.2.2.2.1, (d.2.2.2.2.1, (x, d.2.2.2.2.2.2))))))) := (Lens.snd (Lens.snd (Lens.snd (Lens.snd (Lens.snd (Lens.fst (Lens.id (ab bX))) rfl) rfl) rfl) rfl) rfl)
theorem nM : fld prog 120 6 = some 7 := by kernel_rfl
theorem lS : Lens cZ 7 (ab bX) (fun d => d.2.2.2.2.2.2.1) (fun d x => (d.1, (d.2.1, (d.2.2.1, (d.2.2.2.1, (d.2.2.2.2.1, (d.2.2.2.2.2.1, (x, d.2.2.2.2.2.2.2)))))))) := (Lens.snd (Lens.snd (Lens.snd (Lens.snd (Lens.snd (Lens.snd (Lens.fst (Lens.id (ab bX))) rfl) rfl) rfl) rfl) rfl) rfl)
theorem ud : fld prog 120 7 = some 8 := by kernel_rfl
theorem vY : Lens cZ 8 dG (fun d => d.2.2.2.2.2.2.2) (fun d x => (d.1, (d.2.1, (d.2.2.1, (d.2.2.2.1, (d.2.2.2.2.1, (d.2.2.2.2.2.1, (d.2.2.2.2.2.2.1, x)))))))) := (Lens.snd (Lens.snd (Lens.snd (Lens.snd (Lens.snd (Lens.snd (Lens.snd (Lens.id dG) rfl) rfl) rfl) rfl) rfl) rfl) rfl)
theorem jh : Ty prog 79 (ab cZ) := Ty.mk_ Tryz.underlying79 rfl zk
abbrev ba := (List UInt8) × Int × (List cf) × (List cf) × (List bB)
@[reducible] def bx : RT ba := (bO dG (bO (ak .i64) (bO (ab cq) (bO (ab cq) (ab cZ)))))
theorem dx : Ty prog 81 bx := Ty.mk_ Tryz.underlying81 rfl zk
theorem z81 : TyZero prog 81 bx (([], (0, ([], ([], [])))) : ba) := dj zk ((aR (jJ) ((aR (cc .i64) ((aR (bm) ((aR (bm) (bm)))))))))
theorem pl81 : jn prog 81 = some [(0, 1), (1, 1), (2, 1), (3, 1), (4, 1)] := by kernel_rfl
theorem lX : fld prog 81 0 = some 0 := by kernel_rfl
theorem lp : Lens bx 0 dG (fun d => d.1) (fun d x => (x, d.2)) := (Lens.fst (Lens.id dG))
theorem gu : fld prog 81 1 = some 1 := by kernel_rfl
theorem gM : Lens bx 1 (ak .i64) (fun d => d.2.1) (fun d x => (d.1, (x, d.2.2))) := (Lens.snd (Lens.fst (Lens.id (ak .i64))) rfl)
theorem fm : fld prog 81 2 = some 2 := by kernel_rfl
theorem fO : Lens bx 2 (ab cq) (fun d => d.2.2.1) (fun d x => (d.1, (d.2.1, (x, d.2.2.2)))) := (Lens.snd (Lens.snd (Lens.fst (Lens.id (ab cq))) rfl) rfl)
theorem dD : fld prog 81 3 = some 3 := by kernel_rfl
theorem d8 : Lens bx 3 (ab cq) (fun d => d.2.2.2.1) (fun d x => (d.1, (d.2.1, (d.2.2.1, (x, d.2.2.2.2))))) := (Lens.snd (Lens.snd (Lens.snd (Lens.fst (Lens.id (ab cq))) rfl) rfl) rfl)
theorem dw : fld prog 81 4 = some 4 := by kernel_rfl
theorem dT : Lens bx 4 (ab cZ) (fun d => d.2.2.2.2) (fun d x => (d.1, (d.2.1, (d.2.2.1, (d.2.2.2.1, x))))) := (Lens.snd (Lens.snd (Lens.snd (Lens.snd (Lens.id (ab cZ)) rfl) rfl) rfl) rfl)
theorem gB : Ty prog 24 (ab bx) := Ty.mk_ Tryz.underlying24 rfl zk
abbrev cA := (List bV) × (List cy) × (List ba)
@[reducible] def cz : RT cA := (bO (ab cX) (bO (ab ch) (ab bx)))
theorem e9 : Ty prog 26 cz := Ty.mk_ Tryz.underlying26 rfl zk
theorem z26 : TyZero prog 26 cz (([], ([], [])) : cA) := dj zk ((aR (bm) ((aR (bm) (bm)))))
theorem pl26 : jn prog 26 = some [(0, 1), (1, 1), (2, 1)] := by kernel_rfl
theorem es : fld prog 26 0 = some 0 := by kernel_rfl
theorem fy : Lens cz 0 (ab cX) (fun d => d.1) (fun d x => (x, d.2)) := (Lens.fst (Lens.id (ab cX)))
theorem fo : fld prog 26 1 = some 1 := by kernel_rfl
theorem gN : Lens cz 1 (ab ch) (fun d => d.2.1) (fun d x => (d.1, (x, d.2.2))) := (Lens.snd (Lens.fst (Lens.id (ab ch))) rfl)
theorem cN : fld prog 26 2 = some 2 := by kernel_rfl
theorem du : Lens cz 2 (ab bx) (fun d => d.2.2) (fun d x => (d.1, (d.2.1, x))) := (Lens.snd (Lens.snd (Lens.id (ab bx)) rfl) rfl)
abbrev bh := Int × Int × Int
@[reducible] def aS : RT bh := (bO (ak .i64) (bO (ak .i64) (ak .i64)))
theorem z182 : TyZero prog 182 aS ((0, (0, 0)) : bh) := dj zk ((aR (cc .i64) ((aR (cc .i64) (cc .i64)))))
theorem bI : Ty prog 183 aS := Ty.mk_ Tryz.underlying183 rfl zk
theorem z183 : TyZero prog 183 aS ((0, (0, 0)) : bh) := dj zk ((aR (cc .i64) ((aR (cc .i64) (cc .i64)))))
theorem wP : (prog.info? 183).map (·.bytes) = some 24 := by kernel_rfl
theorem mh : jn prog 183 = some [(0, 1), (1, 1), (2, 1)] := by kernel_rfl
theorem fg : fld prog 183 0 = some 0 := by kernel_rfl
theorem dA : Lens aS 0 (ak .i64) (fun d => d.1) (fun d x => (x, d.2)) := (Lens.fst (Lens.id (ak .i64)))
theorem j9 : fld prog 183 1 = some 1 := by kernel_rfl
theorem iH : Lens aS 1 (ak .i64) (fun d => d.2.1) (fun d x => (d.1, (x, d.2.2))) := (Lens.snd (Lens.fst (Lens.id (ak .i64))) rfl)
theorem cw : fld prog 183 2 = some 2 := by kernel_rfl
theorem cp : Lens aS 2 (ak .i64) (fun d => d.2.2) (fun d x => (d.1, (d.2.1, x))) := (Lens.snd (Lens.snd (Lens.id (ak .i64)) rfl) rfl)
theorem jk : Ty prog 27 (ab aS) := Ty.mk_ Tryz.underlying27 rfl zk
theorem z27 : TyZero prog 27 (ab aS) ([] : (List bh)) := dj zk (bm)
theorem by27 : (prog.info? 27).map (·.bytes) = some 24 := by kernel_rfl
theorem uB : Ty prog 28 (ab (ab aS)) := Ty.mk_ Tryz.underlying28 rfl zk
theorem z28 : TyZero prog 28 (ab (ab aS)) ([] : (List (List bh))) := dj zk (bm)
abbrev gz := Int × (List bh) × (List (List bh))
@[reducible] def ej : RT gz := (bO (ak .i64) (bO (ab aS) (ab (ab aS))))
theorem s3 : Ty prog 30 ej := Ty.mk_ Tryz.underlying30 rfl zk
theorem z30 : TyZero prog 30 ej ((0, ([], [])) : gz) := dj zk ((aR (cc .i64) ((aR (bm) (bm)))))
theorem pl30 : jn prog 30 = some [(0, 1), (1, 1), (2, 1)] := by kernel_rfl
theorem iJ : fld prog 30 0 = some 0 := by kernel_rfl
theorem jN : Lens ej 0 (ak .i64) (fun d => d.1) (fun d x => (x, d.2)) := (Lens.fst (Lens.id (ak .i64)))
theorem sx : fld prog 30 1 = some 1 := by kernel_rfl
theorem rZ : Lens ej 1 (ab aS) (fun d => d.2.1) (fun d x => (d.1, (x, d.2.2))) := (Lens.snd (Lens.fst (Lens.id (ab aS))) rfl)
theorem lZ : fld prog 30 2 = some 2 := by kernel_rfl
theorem oh : Lens ej 2 (ab (ab aS)) (fun d => d.2.2) (fun d x => (d.1, (d.2.1, x))) := (Lens.snd (Lens.snd (Lens.id (ab (ab aS))) rfl) rfl)
theorem ek : Ty prog 37 (ab (ak .i64)) := Ty.mk_ Tryz.underlying37 rfl zk
theorem z37 : TyZero prog 37 (ab (ak .i64)) ([] : (List Int)) := dj zk (bm)
theorem CO : (prog.info? 37).map (·.bytes) = some 24 := by kernel_rfl
theorem kp : Ty prog 34 (ak .i64) := Ty.mk_ Tryz.underlying34 rfl zk
abbrev cm := Int × Int × Int × (List bh)
@[reducible] def bk : RT cm := (bO (ak .i64) (bO (ak .i64) (bO (ak .i64) (ab aS))))
theorem mj : Ty prog 44 bk := Ty.mk_ Tryz.underlying44 rfl zk
theorem z44 : TyZero prog 44 bk ((0, (0, (0, []))) : cm) := dj zk ((aR (cc .i64) ((aR (cc .i64) ((aR (cc .i64) (bm)))))))
theorem by44 : (prog.info? 44).map (·.bytes) = some 48 := by kernel_rfl
theorem pl44 : jn prog 44 = some [(0, 1), (1, 1), (2, 1), (3, 1)] := by kernel_rfl
theorem jC : fld prog 44 0 = some 0 := by kernel_rfl
theorem lq : Lens bk 0 (ak .i64) (fun d => d.1) (fun d x => (x, d.2)) := (Lens.fst (Lens.id (ak .i64)))
theorem su : fld prog 44 1 = some 1 := by kernel_rfl
theorem rY : Lens bk 1 (ak .i64) (fun d => d.2.1) (fun d x => (d.1, (x, d.2.2))) := (Lens.snd (Lens.fst (Lens.id (ak .i64))) rfl)
theorem sr : fld prog 44 2 = some 2 := by kernel_rfl
theorem rX : Lens bk 2 (ak .i64) (fun d => d.2.2.1) (fun d x => (d.1, (d.2.1, (x, d.2.2.2)))) := (Lens.snd (Lens.snd (Lens.fst (Lens.id (ak .i64))) rfl) rfl)
theorem so : fld prog 44 3 = some 3 := by kernel_rfl
theorem uY : Lens bk 3 (ab aS) (fun d => d.2.2.2) (fun d x => (d.1, (d.2.1, (d.2.2.1, x)))) := (Lens.snd (Lens.snd (Lens.snd (Lens.id (ab aS)) rfl) rfl) rfl)
abbrev qF := Int × Int × Int × Int
@[reducible] def bv : RT qF := (bO (ak .i64) (bO (ak .i64) (bO (ak .i64) (ak .i64))))
theorem gc : Ty prog 46 bv := Ty.mk_ Tryz.underlying46 rfl zk
theorem z46 : TyZero prog 46 bv ((0, (0, (0, 0))) : qF) := dj zk ((aR (cc .i64) ((aR (cc .i64) ((aR (cc .i64) (cc .i64)))))))
theorem qJ : jn prog 46 = some [(0, 1), (1, 1), (2, 1), (3, 1)] := by kernel_rfl
theorem lY : fld prog 46 0 = some 0 := by kernel_rfl
theorem kF : Lens bv 0 (ak .i64) (fun d => d.1) (fun d x => (x, d.2)) := (Lens.fst (Lens.id (ak .i64)))
theorem uX : Lens bv 1 (ak .i64) (fun d => d.2.1) (fun d x => (d.1, (x, d.2.2))) := (Lens.snd (Lens.fst (Lens.id (ak .i64))) rfl)
theorem uW : Lens bv 2 (ak .i64) (fun d => d.2.2.1) (fun d x => (d.1, (d.2.1, (x, d.2.2.2)))) := (Lens.snd (Lens.snd (Lens.fst (Lens.id (ak .i64))) rfl) rfl)
theorem uV : Lens bv 3 (ak .i64) (fun d => d.2.2.2) (fun d x => (d.1, (d.2.1, (d.2.2.1, x)))) := (Lens.snd (Lens.snd (Lens.snd (Lens.id (ak .i64)) rfl) rfl) rfl)
theorem eq46 : o4 prog 46 bv 2 := l0 rfl zk (fs := [⟨ "Code", 34, 0, false, "", "", 0⟩, ⟨ "Member", 3, 1, false, "", "", 8⟩, ⟨ "Def", 3, 2, false, "", "", 16⟩, ⟨ "Rule", 3, 3, false, "", "", 24⟩]) zk zk (kg (by simp) rfl kp (hJ (jR Tryz.underlying34) zo) (kg (by simp) rfl ty3 (hJ (jR Tryz.underlying3) zo) (kg (by simp) rfl ty3 (hJ (jR Tryz.underlying3) zo) (nQ (by simp) rfl ty3 (hJ (jR Tryz.underlying3) zo)) rfl) rfl) rfl)
theorem eg46 : prog.eqGuardType prog.depth 46 = false := by kernel_rfl
abbrev oI := Int × Int × Int × Int
@[reducible] def bw : RT oI := (bO (ak .i64) (bO (ak .i64) (bO (ak .i64) (ak .i64))))
theorem z51 : TyZero prog 51 bw ((0, (0, (0, 0))) : oI) := dj zk ((aR (cc .i64) ((aR (cc .i64) ((aR (cc .i64) (cc .i64)))))))
theorem eo : Ty prog 52 bw := Ty.mk_ Tryz.underlying52 rfl zk
theorem z52 : TyZero prog 52 bw ((0, (0, (0, 0))) : oI) := dj zk ((aR (cc .i64) ((aR (cc .i64) ((aR (cc .i64) (cc .i64)))))))
theorem rR : jn prog 52 = some [(0, 1), (1, 1), (2, 1), (3, 1)] := by kernel_rfl
theorem fJ : fld prog 52 0 = some 0 := by kernel_rfl
theorem fd : Lens bw 0 (ak .i64) (fun d => d.1) (fun d x => (x, d.2)) := (Lens.fst (Lens.id (ak .i64)))
theorem og : Lens bw 1 (ak .i64) (fun d => d.2.1) (fun d x => (d.1, (x, d.2.2))) := (Lens.snd (Lens.fst (Lens.id (ak .i64))) rfl)
theorem oe : Lens bw 2 (ak .i64) (fun d => d.2.2.1) (fun d x => (d.1, (d.2.1, (x, d.2.2.2)))) := (Lens.snd (Lens.snd (Lens.fst (Lens.id (ak .i64))) rfl) rfl)
theorem Cu : fld prog 52 3 = some 3 := by kernel_rfl
theorem uU : Lens bw 3 (ak .i64) (fun d => d.2.2.2) (fun d x => (d.1, (d.2.1, (d.2.2.1, x)))) := (Lens.snd (Lens.snd (Lens.snd (Lens.id (ak .i64)) rfl) rfl) rfl)
abbrev eU := (List bh) × (List Int)
@[reducible] def cQ : RT eU := (bO (ab aS) (ab (ak .i64)))
theorem C1 : Ty prog 150 cQ := Ty.mk_ Tryz.underlying150 rfl zk
theorem z150 : TyZero prog 150 cQ (([], []) : eU) := dj zk ((aR (bm) (bm)))
theorem by150 : (prog.info? 150).map (·.bytes) = some 48 := by kernel_rfl
theorem pl150 : jn prog 150 = some [(0, 1), (1, 1)] := by kernel_rfl
theorem B8 : Lens cQ 0 (ab aS) (fun d => d.1) (fun d x => (x, d.2)) := (Lens.fst (Lens.id (ab aS)))
theorem B7 : Lens cQ 1 (ab (ak .i64)) (fun d => d.2) (fun d x => (d.1, x)) := (Lens.snd (Lens.id (ab (ak .i64))) rfl)
theorem ty68 : Ty prog 68 (ab cQ) := Ty.mk_ Tryz.underlying68 rfl zk
abbrev sR := (List bh) × (List Int) × (List eU)
@[reducible] def e7 : RT sR := (bO (ab aS) (bO (ab (ak .i64)) (ab cQ)))
theorem BM : Ty prog 70 e7 := Ty.mk_ Tryz.underlying70 rfl zk
theorem z70 : TyZero prog 70 e7 (([], ([], [])) : sR) := dj zk ((aR (bm) ((aR (bm) (bm)))))
theorem Cs : fld prog 70 0 = some 0 := by kernel_rfl
theorem ln70_0 : Lens e7 0 (ab aS) (fun d => d.1) (fun d x => (x, d.2)) := (Lens.fst (Lens.id (ab aS)))
theorem Cr : fld prog 70 1 = some 1 := by kernel_rfl
theorem ln70_1 : Lens e7 1 (ab (ak .i64)) (fun d => d.2.1) (fun d x => (d.1, (x, d.2.2))) := (Lens.snd (Lens.fst (Lens.id (ab (ak .i64)))) rfl)
theorem wB : fld prog 70 2 = some 2 := by kernel_rfl
theorem yk : Ty prog 84 (ab aX) := Ty.mk_ Tryz.underlying84 rfl zk
abbrev a6 := (List bV) × (List cy) × (List bE) × (List bE) × (List bE) × Bool
@[reducible] def bS : RT a6 := (bO (ab cX) (bO (ab ch) (bO (ab aX) (bO (ab aX) (bO (ab aX) bP)))))
theorem eV : Ty prog 86 bS := Ty.mk_ Tryz.underlying86 rfl zk
theorem z86 : TyZero prog 86 bS (([], ([], ([], ([], ([], false))))) : a6) := dj zk ((aR (bm) ((aR (bm) ((aR (bm) ((aR (bm) ((aR (bm) (vu)))))))))))
theorem pl86 : jn prog 86 = some [(0, 1), (1, 1), (2, 1), (3, 1), (4, 1), (5, 1)] := by kernel_rfl
theorem gZ : fld prog 86 0 = some 0 := by kernel_rfl
theorem i9 : Lens bS 0 (ab cX) (fun d => d.1) (fun d x => (x, d.2)) := (Lens.fst (Lens.id (ab cX)))
theorem jB : fld prog 86 1 = some 1 := by kernel_rfl
theorem kE : Lens bS 1 (ab ch) (fun d => d.2.1) (fun d x => (d.1, (x, d.2.2))) := (Lens.snd (Lens.fst (Lens.id (ab ch))) rfl)
theorem Cq : fld prog 86 2 = some 2 := by kernel_rfl
theorem zx : Lens bS 2 (ab aX) (fun d => d.2.2.1) (fun d x => (d.1, (d.2.1, (x, d.2.2.2)))) := (Lens.snd (Lens.snd (Lens.fst (Lens.id (ab aX))) rfl) rfl)
theorem Cp : fld prog 86 3 = some 3 := by kernel_rfl
theorem zu : Lens bS 3 (ab aX) (fun d => d.2.2.2.1) (fun d x => (d.1, (d.2.1, (d.2.2.1, (x, d.2.2.2.2))))) := (Lens.snd (Lens.snd (Lens.snd (Lens.fst (Lens.id (ab aX))) rfl) rfl) rfl)
theorem wA : fld prog 86 4 = some 4 := by kernel_rfl
theorem zr : Lens bS 4 (ab aX) (fun d => d.2.2.2.2.1) (fun d x => (d.1, (d.2.1, (d.2.2.1, (d.2.2.2.1, (x, d.2.2.2.2.2)))))) := (Lens.snd (Lens.snd (Lens.snd (Lens.snd (Lens.fst (Lens.id (ab aX))) rfl) rfl) rfl) rfl)
theorem wz : fld prog 86 5 = some 5 := by kernel_rfl
theorem zq : Lens bS 5 bP (fun d => d.2.2.2.2.2) (fun d x => (d.1, (d.2.1, (d.2.2.1, (d.2.2.2.1, (d.2.2.2.2.1, x)))))) := (Lens.snd (Lens.snd (Lens.snd (Lens.snd (Lens.snd (Lens.id bP) rfl) rfl) rfl) rfl) rfl)
theorem vA : Ty prog 101 (ab bP) := Ty.mk_ Tryz.underlying101 rfl zk
abbrev wU := ba × (List cy) × Int × (List Int) × (List Int) × (List Int)
@[reducible] def lh : RT wU := (bO bx (bO (ab ch) (bO (ak .i64) (bO (ab (ak .i64)) (bO (ab (ak .i64)) (ab (ak .i64)))))))
theorem z112 : TyZero prog 112 lh ((([], (0, ([], ([], [])))), ([], (0, ([], ([], []))))) : wU) := dj zk ((aR ((aR (jJ) ((aR (cc .i64) ((aR (bm) ((aR (bm) (bm))))))))) ((aR (bm) ((aR (cc .i64) ((aR (bm) ((aR (bm) (bm)))))))))))
theorem pl112 : jn prog 112 = some [(0, 5), (5, 1), (6, 1), (7, 1), (8, 1), (9, 1)] := by kernel_rfl
theorem qr : fld prog 112 0 = some 0 := by kernel_rfl
theorem pp : Lens lh 0 bx (fun d => d.1) (fun d x => (x, d.2)) := (Lens.fst (Lens.id bx))
theorem AU : fld prog 112 1 = some 5 := by kernel_rfl
theorem wc : Lens lh 5 (ab ch) (fun d => d.2.1) (fun d x => (d.1, (x, d.2.2))) := (Lens.snd (Lens.fst (Lens.id (ab ch))) rfl)
theorem AT : fld prog 112 2 = some 6 := by kernel_rfl
theorem wb : Lens lh 6 (ak .i64) (fun d => d.2.2.1) (fun d x => (d.1, (d.2.1, (x, d.2.2.2)))) := (Lens.snd (Lens.snd (Lens.fst (Lens.id (ak .i64))) rfl) rfl)
theorem lA : fld prog 112 3 = some 7 := by kernel_rfl
theorem mU : Lens lh 7 (ab (ak .i64)) (fun d => d.2.2.2.1) (fun d x => (d.1, (d.2.1, (d.2.2.1, (x, d.2.2.2.2))))) := (Lens.snd (Lens.snd (Lens.snd (Lens.fst (Lens.id (ab (ak .i64)))) rfl) rfl) rfl)
theorem uf : fld prog 112 4 = some 8 := by kernel_rfl
theorem wa : Lens lh 8 (ab (ak .i64)) (fun d => d.2.2.2.2.1) (fun d x => (d.1, (d.2.1, (d.2.2.1, (d.2.2.2.1, (x, d.2.2.2.2.2)))))) := (Lens.snd (Lens.snd (Lens.snd (Lens.snd (Lens.fst (Lens.id (ab (ak .i64)))) rfl) rfl) rfl) rfl)
theorem ue : fld prog 112 5 = some 9 := by kernel_rfl
theorem vZ : Lens lh 9 (ab (ak .i64)) (fun d => d.2.2.2.2.2) (fun d x => (d.1, (d.2.1, (d.2.2.1, (d.2.2.2.1, (d.2.2.2.2.1, x)))))) := (Lens.snd (Lens.snd (Lens.snd (Lens.snd (Lens.snd (Lens.id (ab (ak .i64))) rfl) rfl) rfl) rfl) rfl)
abbrev mc := Int × (List bh) × (List bh) × (List (List bh)) × (List bE) × (List cy)
@[reducible] def fC : RT mc := (bO (ak .i64) (bO (ab aS) (bO (ab aS) (bO (ab (ab aS)) (bO (ab aX) (ab ch))))))
theorem hZ : Ty prog 123 fC := Ty.mk_ Tryz.underlying123 rfl zk
theorem sV : TyZero prog 123 fC ((0, ([], ([], ([], ([], []))))) : mc) := dj zk ((aR (cc .i64) ((aR (bm) ((aR (bm) ((aR (bm) ((aR (bm) (bm)))))))))))
theorem vP : jn prog 123 = some [(0, 1), (1, 1), (2, 1), (3, 1), (4, 1), (5, 1)] := by kernel_rfl
theorem AR : fld prog 123 0 = some 0 := by kernel_rfl
theorem pn : Lens fC 0 (ak .i64) (fun d => d.1) (fun d x => (x, d.2)) := (Lens.fst (Lens.id (ak .i64)))
theorem qp : fld prog 123 1 = some 1 := by kernel_rfl
theorem lR : Lens fC 1 (ab aS) (fun d => d.2.1) (fun d x => (d.1, (x, d.2.2))) := (Lens.snd (Lens.fst (Lens.id (ab aS))) rfl)
theorem nL : fld prog 123 2 = some 2 := by kernel_rfl
theorem pm : Lens fC 2 (ab aS) (fun d => d.2.2.1) (fun d x => (d.1, (d.2.1, (x, d.2.2.2)))) := (Lens.snd (Lens.snd (Lens.fst (Lens.id (ab aS))) rfl) rfl)
theorem uc : fld prog 123 3 = some 3 := by kernel_rfl
theorem ub : fld prog 123 4 = some 4 := by kernel_rfl
theorem r6 : Lens fC 5 (ab ch) (fun d => d.2.2.2.2.2) (fun d x => (d.1, (d.2.1, (d.2.2.1, (d.2.2.2.1, (d.2.2.2.2.1, x)))))) := (Lens.snd (Lens.snd (Lens.snd (Lens.snd (Lens.snd (Lens.id (ab ch)) rfl) rfl) rfl) rfl) rfl)
abbrev Bw := ba × ba × (List Bool) × (List Bool)
@[reducible] def gg : RT Bw := (bO bx (bO bx (bO (ab bP) (ab bP))))
theorem z137 : TyZero prog 137 gg ((([], (0, ([], ([], [])))), (([], (0, ([], ([], [])))), ([], []))) : Bw) := dj zk ((aR ((aR (jJ) ((aR (cc .i64) ((aR (bm) ((aR (bm) (bm))))))))) ((aR ((aR (jJ) ((aR (cc .i64) ((aR (bm) ((aR (bm) (bm))))))))) ((aR (bm) (bm)))))))
theorem pl137 : jn prog 137 = some [(0, 5), (5, 5), (10, 1), (11, 1)] := by kernel_rfl
theorem nK : fld prog 137 0 = some 0 := by kernel_rfl
theorem mT : Lens gg 0 bx (fun d => d.1) (fun d x => (x, d.2)) := (Lens.fst (Lens.id bx))
theorem nJ : fld prog 137 1 = some 5 := by kernel_rfl
theorem pk : Lens gg 5 bx (fun d => d.2.1) (fun d x => (d.1, (x, d.2.2))) := (Lens.snd (Lens.fst (Lens.id bx)) rfl)
theorem ua : fld prog 137 2 = some 10 := by kernel_rfl
theorem vX : Lens gg 10 (ab bP) (fun d => d.2.2.1) (fun d x => (d.1, (d.2.1, (x, d.2.2.2)))) := (Lens.snd (Lens.snd (Lens.fst (Lens.id (ab bP))) rfl) rfl)
theorem t8 : fld prog 137 3 = some 11 := by kernel_rfl
theorem vW : Lens gg 11 (ab bP) (fun d => d.2.2.2) (fun d x => (d.1, (d.2.1, (d.2.2.1, x)))) := (Lens.snd (Lens.snd (Lens.snd (Lens.id (ab bP)) rfl) rfl) rfl)
abbrev lI := (List Int) × (List Int) × (List Int)
@[reducible] def cB : RT lI := (bO (ab (ak .i64)) (bO (ab (ak .i64)) (ab (ak .i64))))
theorem s4 : Ty prog 189 cB := Ty.mk_ Tryz.underlying189 rfl zk
theorem z189 : TyZero prog 189 cB (([], ([], [])) : lI) := dj zk ((aR (bm) ((aR (bm) (bm)))))
theorem yT : jn prog 189 = some [(0, 1), (1, 1), (2, 1)] := by kernel_rfl
theorem AQ : fld prog 189 0 = some 0 := by kernel_rfl
theorem r5 : Lens cB 0 (ab (ak .i64)) (fun d => d.1) (fun d x => (x, d.2)) := (Lens.fst (Lens.id (ab (ak .i64))))
theorem j8 : fld prog 189 1 = some 1 := by kernel_rfl
theorem jv : Lens cB 1 (ab (ak .i64)) (fun d => d.2.1) (fun d x => (d.1, (x, d.2.2))) := (Lens.snd (Lens.fst (Lens.id (ab (ak .i64)))) rfl)
theorem j7 : fld prog 189 2 = some 2 := by kernel_rfl
theorem mR : Lens cB 2 (ab (ak .i64)) (fun d => d.2.2) (fun d x => (d.1, (d.2.1, x))) := (Lens.snd (Lens.snd (Lens.id (ab (ak .i64))) rfl) rfl)
abbrev qE := (List aP) × (List Int) × mc
@[reducible] def cC : RT qE := (bO (ab bX) (bO (ab (ak .i64)) fC))
theorem pI : Ty prog 237 cC := Ty.mk_ Tryz.underlying237 rfl zk
theorem z237 : TyZero prog 237 cC (([], ([], (0, ([], ([], ([], ([], []))))))) : qE) := dj zk ((aR (bm) ((aR (bm) ((aR (cc .i64) ((aR (bm) ((aR (bm) ((aR (bm) ((aR (bm) (bm)))))))))))))))
theorem pl237 : jn prog 237 = some [(0, 1), (1, 1), (2, 6)] := by kernel_rfl
theorem t7 : fld prog 237 0 = some 0 := by kernel_rfl
theorem r4 : Lens cC 0 (ab bX) (fun d => d.1) (fun d x => (x, d.2)) := (Lens.fst (Lens.id (ab bX)))
theorem AP : fld prog 237 1 = some 1 := by kernel_rfl
theorem vV : Lens cC 1 (ab (ak .i64)) (fun d => d.2.1) (fun d x => (d.1, (x, d.2.2))) := (Lens.snd (Lens.fst (Lens.id (ab (ak .i64)))) rfl)
theorem AO : fld prog 237 2 = some 2 := by kernel_rfl
theorem vU : Lens cC 2 fC (fun d => d.2.2) (fun d x => (d.1, (d.2.1, x))) := (Lens.snd (Lens.snd (Lens.id fC) rfl) rfl)
theorem ty284 : Ty prog 284 (ab (ak .i64)) := Ty.mk_ Tryz.underlying284 rfl zk
theorem uT3 : type_of% Tryz.underlying3 := Tryz.underlying3
theorem uT4 : type_of% Tryz.underlying4 := Tryz.underlying4
theorem uT9 : type_of% Tryz.underlying9 := Tryz.underlying9
theorem jg : type_of% Tryz.underlying22 := Tryz.underlying22
theorem jW : type_of% Tryz.underlying23 := Tryz.underlying23
theorem fx : type_of% Tryz.underlying24 := Tryz.underlying24
theorem gA : type_of% Tryz.underlying27 := Tryz.underlying27
theorem qH : type_of% Tryz.underlying28 := Tryz.underlying28
theorem fw : type_of% Tryz.underlying33 := Tryz.underlying33
theorem bd : type_of% Tryz.underlying37 := Tryz.underlying37
theorem mi : type_of% Tryz.underlying38 := Tryz.underlying38
theorem fB : type_of% Tryz.underlying61 := Tryz.underlying61
theorem uT68 : type_of% Tryz.underlying68 := Tryz.underlying68
theorem ei : type_of% Tryz.underlying78 := Tryz.underlying78
theorem ga : type_of% Tryz.underlying79 := Tryz.underlying79
theorem sZ : type_of% Tryz.underlying82 := Tryz.underlying82
theorem cK : type_of% Tryz.underlying84 := Tryz.underlying84
theorem fq : type_of% Tryz.underlying101 := Tryz.underlying101
theorem iD : type_of% Tryz.underlying154 := Tryz.underlying154
theorem md : type_of% Tryz.underlying157 := Tryz.underlying157
theorem iV : type_of% Tryz.underlying283 := Tryz.underlying283
theorem jp : type_of% Tryz.underlying284 := Tryz.underlying284
end Go.Proofs.YtehcaebnijlhgaaGreatDoor
namespace Go.Eng
open Go.Sort (Holds putRow grow putCells mapBlock onCells)
structure vq (P : Program) (k : FuncId) (F : List Int → List Int) (m : List Int → Option Nat) : Prop where
  ent : ∀ w args, (callFunc k args).run P w = .ok (.enter k args) w
  len : ∀ zs, (F zs).length = zs.length
  cut : ∀ zs n, m zs = some n → n ≤ zs.length
  some_ : ∀ blk off cap zs w, Holds (Value.int .i64) w blk off zs.toArray → blk < w.heap.size → zs.length < 4611686018427387904 → zs.length ≤ cap →
    Calls P k #[.slice (some ⟨blk, off, none⟩) zs.length cap] w fun e w' => e = .returned (match m zs with | none => .tuple #[] | some n => .slice (some ⟨blk, off, none⟩) n cap) ∧
      ∃ q os, w' = grow (putRow (Value.int .i64) (Sort.ahead w q) blk off (F zs).toArray) os
  none_ : ∀ A cap w, Calls P k #[.slice A 0 cap] w fun e w' => e = .returned (match m [] with | none => .tuple #[] | some _ => .slice A 0 cap) ∧ w' = w
section
variable {P : Program} {cx : Cx} {st st' : St} {β : Loc} {a : Act} {w w' : World} {ops : Array Oper} {k : Kn} {c : Code}
variable {dst : Option Tmp} {ty : TypeId} {pos : String} {aft : Array Edge} {gd : Option (Nat × Bool)}
theorem uD {b o : Nat} {xs : List Int} {ok : Ok} (h : eZ (ak .i64) w ok b o xs) : Holds (Value.int .i64) w b o xs.toArray := by
  obtain ⟨cur, e, h1, h2, h3⟩ := h
  intro j hj
  have hj' : j < xs.length := by simpa using hj
  obtain ⟨cs, h4, h5⟩ := h3 j xs[j] (List.getElem?_eq_getElem hj')
  have h4 : cs = [.int .i64 xs[j]] := h4
  subst h4
  have h6 := h5 0 _ rfl
  have h6 : cur[o + j]? = some (.int .i64 xs[j]) := by simpa [ak] using h6
  have hsz : o + j < cur.size := (Array.getElem?_eq_some_iff.1 h6).1
  refine ⟨?_, ?_⟩
  · simp [World.cell?, h1, h6, hj']
  simp [World.frozen?, h1]
theorem rO (o : Nat) (d : List Int) (cur : Array Value) (k : Nat) : (putCells (Value.int .i64) o d.toArray cur)[k]? = if o ≤ k ∧ k < o + d.length then (cur[k]?).map (fun _ => Value.int .i64 (d[k - o]?.getD 0)) else cur[k]? := by
  simp only [putCells, Array.getElem?_mapIdx]
  by_cases h : o ≤ k ∧ k < o + d.length
  · have : k - o < d.length := by omega
    cases cur[k]? <;> simp [h, this]
  cases cur[k]? <;> simp [h]
theorem yl (hi : InvB cx st β a w) {nm b o : Nat} {xs ys : List Int} {q : Nat} {os : Array Obj} (hn : az st.heap nm = some ⟨ak .i64, xs⟩) (hb : β nm = some (b, o)) (hlen : ys.length = xs.length) :
    InvB cx ⟨st.slots, (nm, ⟨ak .i64, ys⟩) :: st.heap⟩ (fun k => if k = nm then some (b, o) else β k) a (grow (putRow (Value.int .i64) (Sort.ahead w q) b o ys.toArray) os) := by
  obtain ⟨cur, e, h1, h2, h3⟩ : eZ (ak .i64) w (bM cx st.heap β w) b o xs := by have := hi.rows nm _ hn; rw [hb] at this; exact this.1 NM.no
  have h2 : o + xs.length * 1 ≤ cur.size := h2
  have hset := InvB.setRow (rt' := ak .i64) (xs' := ys) (cur' := putCells (Value.int .i64) o ys.toArray cur) hi hn hb h1 (by simp [putCells]) (.inl rfl) (by simp [putCells, ak]; omega) (fun i x hx => ?_)
  · refine hset.later ⟨rfl, rfl, rfl, ?_, fun k' hk => ?_, Nat.le_add_right _ _⟩
    · simp [grow, putRow, mapBlock, World.setRow]
    simp only [World.setRow, Array.size_modify] at hk
    simp only [grow, putRow, mapBlock, Sort.heap_ahead]
    rw [Array.getElem?_append_left (by simpa using hk)]
    by_cases hkb : k' = b
    · subst hkb
      rw [setRow_heap _ _ _ _ _ _ h1, Array.getElem?_modify, if_pos rfl, h1]; rfl
    rw [setRow_other _ _ _ _ hkb, Array.getElem?_modify, if_neg (Ne.symm hkb)]
  refine ⟨[.int .i64 x], rfl, fun j v hj => ?_⟩
  have hi' : i < ys.length := (List.getElem?_eq_some_iff.1 hx).1
  cases j with
  | succ j => simp at hj
  | zero =>
    simp at hj; subst hj
    show (putCells (Value.int .i64) o ys.toArray cur)[o + i * 1 + 0]? = _
    rw [show o + i * 1 + 0 = o + i by omega, rO, if_pos (by omega), Array.getElem?_eq_getElem (by omega), Nat.add_sub_cancel_left, hx]; rfl
theorem InvB.setEmpty (hi : InvB cx st β a w) {nm : Nat} {hb : HB} (hn : az st.heap nm = some hb) : InvB cx ⟨st.slots, (nm, hb) :: st.heap⟩ β a w := by
  have hh : ∀ k, az ((nm, hb) :: st.heap) k = az st.heap k := fun k => by
    rw [aW]; split
    · rename_i e; rw [← e, hn]
    rfl
  have hok : ∀ b, bM cx st.heap β w b → bM cx ((nm, hb) :: st.heap) β w b ∧ w.heap[b]? = w.heap[b]? := fun b h => ⟨⟨h.1, h.2.1, fun k x hk => h.2.2 k x (by rw [hh] at hk; exact hk)⟩, rfl⟩
  refine ⟨hi.below, hi.old, hi.defers, hi.size, fun k x hk => hi.own k x (by rw [hh] at hk; exact hk), fun k k' x y hk hk' => hi.sep k k' x y (by rw [hh] at hk; exact hk) (by rw [hh] at hk'; exact hk'), fun k x hk => ?_, fun i s hs => ?_⟩
  · exact HB.keep hok (fun _ _ => rfl) (hi.rows k x (by rw [hh] at hk; exact hk))
  obtain ⟨v, h1, h2⟩ := hi.slots i s hs
  exact ⟨v, h1, SV.keep hok (fun nm _ => ⟨rfl, fun b o _ cur e fr hc => ⟨cur, e, fr, hc, rfl⟩⟩) h2⟩
theorem s5 {kf : FuncId} {F : List Int → List Int} {m : List Int → Option Nat} (h : vq P kf F m) {nm : Nat} {xs : List Int} {x : Operand} {n : Nat} (hx : Ev st x (.own nm (ak .i64).n 0 n)) (hn : az st.heap nm = some ⟨ak .i64, xs⟩) (hfull : n = xs.length) (hbig : xs.length < 4611686018427387904) (hi : InvB cx st β a w) :
    Calls P kf #[a.eval x] w fun e w' => ∃ v β', e = .returned v ∧ InvB cx ⟨st.slots, (nm, ⟨ak .i64, F xs⟩) :: st.heap⟩ β' a w' ∧ (m xs = none → v = .tuple #[]) ∧ ∀ j, m xs = some j → (SV.own nm (ak .i64).n 0 j).holds β' w' (bM cx ((nm, ⟨ak .i64, F xs⟩) :: st.heap) β' w') v := by
  subst hfull
  have hv := hi.ev hx
  have hrow := hi.rows nm _ hn
  simp only [SV.holds, hdr] at hv
  have hnil : xs = [] → az st.heap nm = some ⟨ak .i64, F xs⟩ := fun e => by
    subst e; rw [hn]; have : F [] = [] := List.length_eq_zero_iff.1 (h.len []); rw [this]
  cases hb : β nm with
  | none =>
    rw [hb] at hrow hv
    have hxs : xs = [] := hrow
    subst hxs
    obtain ⟨hv, _⟩ := hv
    rw [hv]
    refine (h.none_ none 0 w).mono ?_
    rintro e w' ⟨rfl, rfl⟩
    refine ⟨_, β, rfl, hi.setEmpty (hnil rfl), fun hm => by rw [hm], fun j hm => ?_⟩
    have hj := h.cut _ _ hm
    have hj : j = 0 := by simpa using hj
    subst hj
    simp only [hm, SV.holds, hdr, hb]
    exact ⟨trivial, trivial⟩
  | some bo =>
    obtain ⟨b, o⟩ := bo
    rw [hb] at hrow hv
    obtain ⟨A, cap, hv, hc1, hc2, hc3⟩ := hv
    rw [hv]
    by_cases h0 : xs = []
    · subst h0
      refine (h.none_ A cap w).mono ?_
      rintro e w' ⟨rfl, rfl⟩
      refine ⟨_, β, rfl, hi.setEmpty (hnil rfl), fun hm => by rw [hm], fun j hm => ?_⟩
      have hj := h.cut _ _ hm
      have hj : j = 0 := by simpa using hj
      subst hj
      simp only [hm, SV.holds, hdr, hb]
      refine ⟨A, cap, rfl, Nat.zero_le _, hc2, ?_⟩
      rcases hc3 with ⟨_, e0⟩ | hc3
      · exact .inl ⟨trivial, e0⟩
      exact .inr hc3
    have hpos : xs.length ≠ 0 := fun e => h0 (List.length_eq_zero_iff.1 e)
    rcases hc3 with ⟨e0, _⟩ | ⟨hA, cur, e, fr, hcur, hfit⟩
    · exact absurd e0 hpos
    have hA : A = some ⟨b, o, none⟩ := by rw [hA]; simp
    subst hA
    refine (h.some_ b o cap xs w (uD (hrow.1 NM.no)) (InvB.cell_lt hcur) hbig hc1).mono ?_
    rintro e' w' ⟨rfl, q, os, rfl⟩
    refine ⟨_, _, rfl, yl hi hn hb (h.len xs), fun hm => by rw [hm], fun j hm => ?_⟩
    have hj := h.cut _ _ hm
    simp only [hm, SV.holds, hdr, if_pos]
    refine ⟨_, cap, rfl, Nat.le_trans hj hc1, hc2, .inr ⟨by simp, ?_⟩⟩
    refine ⟨putCells (Value.int .i64) o (F xs).toArray cur, e, fr, ?_, by simpa [putCells] using hfit⟩
    simp only [grow, putRow, mapBlock, Sort.heap_ahead]
    rw [Array.getElem?_append_left (by simpa using InvB.cell_lt hcur), Array.getElem?_modify, if_pos rfl, hcur]; rfl
theorem q9 {kf : FuncId} {F : List Int → List Int} {m : List Int → Option Nat} (h : vq P kf F m) {nm d : Nat} {xs : List Int} {x : Operand} {n : Nat} {ts : Array TypeId} (hx : Ev st x (.own nm (ak .i64).n 0 n)) (hn : az st.heap nm = some ⟨ak .i64, xs⟩) (hfull : n = xs.length) (hbig : xs.length < 4611686018427387904) (hm : ∀ zs, m zs = none) (hd : Nat.blt d cx.n = true) :
    OS P cx ⟨some d, .call { callee := .value (.func kf), args := #[x], argTypes := ts }, ty, pos, aft, gd⟩ st ⟨(d, .raw (.tuple #[])) :: st.slots, (nm, ⟨ak .i64, F xs⟩) :: st.heap⟩ := by
  rintro a w ⟨β, hi⟩ Q
  have hrun : (execOp a.eval ⟨some d, .call { callee := .value (.func kf), args := #[x], argTypes := ts }, ty, pos, aft, gd⟩).run P w = .ok (.enter kf #[a.eval x]) w := by
    simp [execOp, resolve, Act.eval, Deferred.ofValue, invoke, h.ent]
  unfold Oper.wp
  rw [hrun, Oper.upon_enter]
  refine (s5 h hx hn hfull hbig hi).mono ?_
  rintro e w' ⟨v, β', rfl, hi', hv, _⟩
  exact ⟨β', hi'.put (by simpa using hd) (hv (hm _))⟩
theorem j1 {kf : FuncId} {F : List Int → List Int} {m : List Int → Nat} (h : vq P kf F (fun zs => some (m zs))) {nm d : Nat} {xs : List Int} {x : Operand} {n : Nat} {ts : Array TypeId} (hx : Ev st x (.own nm (ak .i64).n 0 n)) (hn : az st.heap nm = some ⟨ak .i64, xs⟩) (hfull : n = xs.length) (hbig : xs.length < 4611686018427387904) (hd : Nat.blt d cx.n = true) :
    OS P cx ⟨some d, .call { callee := .value (.func kf), args := #[x], argTypes := ts }, ty, pos, aft, gd⟩ st ⟨(d, .own nm (ak .i64).n 0 (m xs)) :: st.slots, (nm, ⟨ak .i64, F xs⟩) :: st.heap⟩ := by
  rintro a w ⟨β, hi⟩ Q
  have hrun : (execOp a.eval ⟨some d, .call { callee := .value (.func kf), args := #[x], argTypes := ts }, ty, pos, aft, gd⟩).run P w = .ok (.enter kf #[a.eval x]) w := by
    simp [execOp, resolve, Act.eval, Deferred.ofValue, invoke, h.ent]
  unfold Oper.wp
  rw [hrun, Oper.upon_enter]
  refine (s5 h hx hn hfull hbig hi).mono ?_
  rintro e w' ⟨v, β', rfl, hi', _, hv⟩
  exact ⟨β', hi'.put (by simpa using hd) (hv _ rfl)⟩
end
end Go.Eng
namespace Go.Eng
section
variable {P : Program} {cx : Cx} {st : St} {a : Act} {w : World} {k : Kn} {c : Code}
variable {dst : Option Tmp} {ty : TypeId} {pos : String} {aft : Array Edge} {gd : Option (Nat × Bool)}
theorem tE {x y : Operand} {t yt : TypeId} {p q : Bool} (ht : P.underlying t = some .bool) (hx : Ev st x (.raw (.bool p))) (hy : Ev st y (.raw (.bool q))) :
    Adr P cx st ⟨dst, .binOp .eql t x y yt, ty, pos, aft, gd⟩ (.raw (.bool (p == q))) :=
  bD fun st' hag β a w hi => ⟨_, by
    have h1 := hi.raw (hag.ev (by simp [Op.operands]) hx)
    have h2 := hi.raw (hag.ev (by simp [Op.operands]) hy)
    simp [execOp, h1, h2, eqGuard_at_bool, run_eql_bool _ _ _ _ ht], rfl⟩
theorem uL {x y : Operand} {ts : Array TypeId} {kk : IntKind} {p q : Int} (hx : Ev st x (.raw (.int kk p))) (hy : Ev st y (.raw (.int kk q))) :
    Adr P cx st ⟨dst, .call { callee := .builtin .min, args := #[x, y], argTypes := ts }, ty, pos, aft, gd⟩ (.raw (.int kk (if q < p then q else p))) :=
  bD fun st' hag β a w hi => ⟨_, by
    have h1 := hi.raw (hag.ev (by simp [Op.operands, Call.operands]) hx)
    have h2 := hi.raw (hag.ev (by simp [Op.operands, Call.operands]) hy)
    simp [execOp, resolve, invoke, builtin, h1, h2, run_min_int2], rfl⟩
theorem yX {x y : Operand} {ts : Array TypeId} {kk : IntKind} {p q : Int} (hx : Ev st x (.raw (.int kk p))) (hy : Ev st y (.raw (.int kk q))) :
    Adr P cx st ⟨dst, .call { callee := .builtin .max, args := #[x, y], argTypes := ts }, ty, pos, aft, gd⟩ (.raw (.int kk (if p < q then q else p))) :=
  bD fun st' hag β a w hi => ⟨_, by
    have h1 := hi.raw (hag.ev (by simp [Op.operands, Call.operands]) hx)
    have h2 := hi.raw (hag.ev (by simp [Op.operands, Call.operands]) hy)
    simp [execOp, resolve, invoke, builtin, h1, h2, run_max_int2], rfl⟩
end
end Go.Eng
namespace Go.Eng
section
variable {P : Program} {cx : Cx} {st st' : St} {β : Loc} {a : Act} {w w' : World} {ops : Array Oper} {k : Kn} {c : Code}
variable {dst : Option Tmp} {ty : TypeId} {pos : String} {aft : Array Edge} {gd : Option (Nat × Bool)}
variable {α γ δ : Type}
theorem y0 {rt : RT α} {d : α} : (SV.of rt d).plain = true := by unfold SV.of; split <;> rfl
def gC (P : Program) (A : RT α) (B : RT γ) (φ : α → Prop) : RT (α → γ) where
  n := 1
  agg := false
  raw _ := none
  rep w ok cs f := ∃ g caps, cs = [.func (.func g) #[] caps] ∧ (∀ w args, (callFunc g args).run P w = .ok (.enter g args) w) ∧
    ∀ (w' : World) (ok' : Ok), (∀ b, ok b → ok' b ∧ w'.heap[b]? = w.heap[b]?) → (∀ b, ok' b → b < w'.heap.size) → ∀ x v, φ x → A.val w' ok' v x → Calls P g (#[v] ++ caps) w' (sS (Cx.of w' ok' 0) (SV.of B (f x)))
  len := by rintro w ok cs d ⟨g, caps, rfl, _⟩; rfl
  one := by rintro w ok cs d ⟨g, caps, rfl, _⟩ v hv; simp at hv; simp [hv, Value.oneCell']
  keep := by
    rintro w w' ok ok' cs d h ⟨g, caps, rfl, h1, h2⟩
    exact ⟨g, caps, rfl, h1, fun w2 ok2 h3 => h2 w2 ok2 fun b hb => ⟨(h3 b (h b hb).1).1, (h3 b (h b hb).1).2.trans (h b hb).2⟩⟩
  scal _ := rfl
  exact_ h := by simp at h
  exact' h := by simp at h
theorem jP : ∀ {aS : List SV} {vs : List Value} {ok ok' : Ok}, (aS.all SV.plain) = true → (∀ b, ok b → ok' b ∧ w'.heap[b]? = w.heap[b]?) → eg w ok aS vs → eg w' ok' aS vs
  | [], _, _, _, _, _, h => h
  | _ :: _, _, _, _, hp, hk, ⟨v, vr, h1, h2, h3⟩ => by
    simp only [List.all_cons, Bool.and_eq_true] at hp
    exact ⟨v, vr, h1, SV.plain_keep hp.1 hk h2, jP hp.2 hk h3⟩
theorem ie {g : FuncId} {A : RT α} {B : RT γ} {φ : α → Prop} (f : α → γ) {xs : List Operand} {aS : List SV} (hent : ∀ w args, (callFunc g args).run P w = .ok (.enter g args) w)
    (h : ∀ x, φ x → Ct P g (SV.of A x :: aS) (SV.of B (f x))) (ha : Args st xs aS) (hp : (aS.all SV.plain) = true) : Adr P cx st ⟨dst, .makeFunc (.func g) #[] xs.toArray, ty, pos, aft, gd⟩ (.tv (gC P A B φ) f) :=
  bD fun st' hag β a w hi => by
    have hargs := ha.holds (cx := cx) (β := β) (a := a) (w := w) (st' := st') (fun x hx => hag.ops x (by simp [Op.operands, hx])) hi hp
    refine ⟨.func (.func g) #[] (xs.map a.eval).toArray, by simp [execOp, Instr.makeFunc], _, ⟨g, _, rfl, hent, fun w' ok' hk hok x v hx hv => ?_⟩, rfl⟩
    have := (h x hx).calls w' ok' (v :: xs.map a.eval) hok ⟨_, _, rfl, lm hv, jP hp hk hargs⟩
    simpa using this
theorem AN {A : RT α} {B : RT γ} {φ : α → Prop} {f : α → γ} {ok : Ok} {v : Value} (h : (SV.tv (gC P A B φ) f).holds β w ok v) : ∃ g caps, v = .func (.func g) #[] caps ∧ (∀ w args, (callFunc g args).run P w = .ok (.enter g args) w) ∧
    ∀ (w' : World) (ok' : Ok), (∀ b, ok b → ok' b ∧ w'.heap[b]? = w.heap[b]?) → (∀ b, ok' b → b < w'.heap.size) → ∀ x v, φ x → A.val w' ok' v x → Calls P g (#[v] ++ caps) w' (sS (Cx.of w' ok' 0) (SV.of B (f x))) := by
  obtain ⟨cs, ⟨g, caps, rfl, h1, h2⟩, rfl⟩ := h
  exact ⟨g, caps, rfl, h1, h2⟩
theorem yL {r : SV} (hr : r.plain = true) {d : Nat} (hdn : d < cx.n) (hi : InvB cx st β a w) {v : Value} (hb : Below w.heap.size w w') (hv : r.holds i6 w' (okR (Cx.of w (bM cx st.heap β w) 0) w') v) : Inv cx (st.put d r) (a.put (some d) v) w' := by
  have hl := hi.later hb
  refine ⟨β, hl.put hdn (SV.plain_keep hr (fun b hb' => ⟨⟨?_, hb'.2, ?_⟩, rfl⟩) hv)⟩
  · rcases hb'.1 with h1 | h1
    · exact h1.1
    exact .inr (.inl (Nat.le_trans hi.below.size (Cx.new_of h1)))
  rcases hb'.1 with h1 | h1
  · exact h1.2.2
  intro nm x hx y hy e
  have := (hi.own nm x hx y hy).2
  have h1 : w.heap.size ≤ b := Cx.new_of h1
  omega
theorem gj {A : RT α} {B : RT γ} {φ : α → Prop} {f : α → γ} {y x : Operand} {d : α} {ts : Array TypeId} (hf : Ev st y (.tv (gC P A B φ) f)) (hx : Rd st x A d) (hφ : φ d) :
    Adr P cx st ⟨dst, .call { callee := .value y, args := #[x], argTypes := ts }, ty, pos, aft, gd⟩ (SV.of B (f d)) := by
  intro st' hag d' hd hdn a w ⟨β, hi⟩ Q
  obtain ⟨g, caps, h1, h2, h3⟩ := AN (hi.ev (hag.ev (by simp [Op.operands, Call.operands]) hf))
  have hv := (hx.tr (hag.ops x (by simp [Op.operands, Call.operands]))).val hi
  have hrun : (execOp a.eval ⟨dst, .call { callee := .value y, args := #[x], argTypes := ts }, ty, pos, aft, gd⟩).run P w = .ok (.enter g (#[a.eval x] ++ caps)) w := by
    simp [execOp, resolve, h1, Deferred.ofValue, invoke, h2]
  unfold Oper.wp
  rw [hrun, Oper.upon_enter]
  refine (h3 w _ (fun b hb => ⟨hb, rfl⟩) (fun b hb => hb.2.1) d _ hφ hv).mono ?_
  rintro e w' ⟨v, rfl, hb, hv⟩
  have hb := hb.plain (fun _ h => h)
  subst hd
  exact yL y0 hdn hi hb hv
theorem kv {T : TypeId} {rt : RT α} [NM rt] {x : Operand} {z : α} (hx : Rd st x rt z) : Adr P cx st ⟨dst, .box T x, ty, pos, aft, gd⟩ (.eptr rt z) :=
  rD fun st' hag β a w hi => by
    have hval := (hx.tr (hag.ops x (by simp [Op.operands]))).val hi
    have hb : Below w.heap.size w (w.alloc (.cells (a.eval x).cells T)) := (Below.refl _ _).alloc (Nat.le_refl _) _
    refine ⟨_, _, by simp [execOp, Instr.box, newVar, newRow], hb, w.heap.size, 0, (a.eval x).cells.toList, rfl, ⟨.inr (.inl hi.below.size), by simp, fun nm hb hh y hy e1 => by have := (hi.own nm hb hh y hy).2; omega⟩, ?_, fun j v hj => ?_⟩
    · exact rt.keep (fun b hb' => ⟨⟨hb'.1, by simp; have := hb'.2.1; omega, hb'.2.2⟩, hb.block b hb'.2.1⟩) (rt.val_cells hval)
    rw [World.cell?_alloc_new]; simpa using hj
theorem xi {nm i : Nat} {rt : RT α} [NM rt] {x : α} {hp : List (Nat × HB)} (hs : a8 st.slots i = some (.optr nm rt.n 0 0)) (hn : az st.heap nm = some ⟨rt, [x]⟩) (hsub : ∀ j s, az hp j = some s → az st.heap j = some s) (hno : az hp nm = none) (hi : Inv cx st a w) :
    Inv cx ⟨(i, .eptr rt x) :: st.slots, hp⟩ a w := by
  obtain ⟨β, hb⟩ := hi
  have hok : ∀ b, bM cx st.heap β w b → bM cx hp β w b := fun b ⟨h1, h2, h3⟩ => ⟨h1, h2, fun k h hk => h3 k h (hsub _ _ hk)⟩
  have hb' : InvB cx ⟨st.slots, hp⟩ β a w := hb.toHeap hsub
  obtain ⟨v, h1, b, o, h2, h3⟩ := hb.slots i _ hs
  refine ⟨β, hb'.below, hb'.old, hb'.defers, hb'.size, hb'.own, hb'.sep, hb'.rows, fun j s hj => ?_⟩
  simp only [aT] at hj
  split at hj
  · rename_i e1
    subst e1
    injection hj with hj; subst hj
    obtain ⟨cur, e, h4, h5, h6⟩ := gX hb hn h2
    obtain ⟨cs, h7, h8⟩ := h6 0 x rfl
    have hown := hb.own nm _ hn _ h2
    refine ⟨v, h1, b, o, cs, by simpa using h3, ⟨.inr hown.1, hown.2, fun k h hk y hy e1 => ?_⟩, rt.keep (fun b h => ⟨hok b h, rfl⟩) h7, fun j u hj => ?_⟩
    · have : k = nm := hb.sep k nm _ _ (hsub _ _ hk) hn y (b, o) hy h2 e1
      subst this
      rw [hno] at hk; cases hk
    have := h8 j u hj
    simp only [Nat.zero_mul, Nat.add_zero] at this
    simp [World.cell?, h4, this]
  exact hb'.slots j s hj
theorem lU (nm i : Nat) {rt : RT α} [NM rt] {x : α} (hp : List (Nat × HB)) (hs : a8 st.slots i = some (.optr nm rt.n 0 0)) (hn : az st.heap nm = some ⟨rt, [x]⟩) (hsub : ∀ j s, az hp j = some s → az st.heap j = some s) (hno : az hp nm = none)
    (h : J P cx ⟨(i, .eptr rt x) :: st.slots, hp⟩ c k) : J P cx st c k := fun a w hi => h a w (xi hs hn hsub hno hi)
def lJ (rt : RT α) (w w' : World) (ok : Ok) (xs : List α) (v : Value) : Prop :=
  (xs = [] ∧ v = .slice none 0 0) ∨ ∃ A b o cap cur e, v = .slice A xs.length cap ∧ ((xs = [] ∧ cap = 0) ∨ A = some ⟨b, o, none⟩) ∧ xs.length ≤ cap ∧ cap ≤ maxLen ∧ w.heap.size ≤ b ∧ w'.heap[b]? = some (.cells cur e (0, 0)) ∧ o + cap * rt.n ≤ cur.size ∧
    ∀ i x, xs[i]? = some x → ∃ cs, rt.rep w' (fun b' => ok b' ∧ b' ≠ b) cs x ∧ ∀ j v, cs[j]? = some v → cur[o + i * rt.n + j]? = some v
structure CtO (P : Program) (k : FuncId) (aS : List SV) (rt : RT α) (xs : List α) : Prop where
  ent : ∀ w args, (callFunc k args).run P w = .ok (.enter k args) w
  calls : ∀ w ok0 vs, (∀ b, ok0 b → b < w.heap.size) → eg w ok0 aS vs → Calls P k vs.toArray w (fun e w' => ∃ v, e = .returned v ∧ BelowX (fun _ => False) w.heap.size w w' ∧ lJ rt w w' (okR (Cx.of w ok0 0) w') xs v)
theorem ws (hi : InvB cx st β a w) {nm off n : Nat} {rt : RT α} [NM rt] {xs : List α} {v : Value} (hn : az st.heap nm = some ⟨rt, xs⟩) (hv : hdr β w nm rt.n off n v) (hle : off + n ≤ xs.length) (hex : ∀ b, ¬ cx.ex b) : lJ rt cx.w0 w (okR cx w) ((xs.drop off).take n) v := by
  have hr := hi.rows nm _ hn
  have hlen : ((xs.drop off).take n).length = n := by simp; omega
  unfold hdr at hv
  cases hb : β nm with
  | none =>
    rw [hb] at hv hr
    refine .inl ⟨by rw [hv.2]; simp, hv.1⟩
  | some q =>
    obtain ⟨b, o⟩ := q
    rw [hb] at hv hr
    obtain ⟨A, cap, g1, g2, g3, g4⟩ := hv
    have hown : cx.w0.heap.size ≤ b ∧ b < w.heap.size := ⟨(hi.own nm _ hn _ hb).1.elim id (fun q => absurd q (hex b)), (hi.own nm _ hn _ hb).2⟩
    obtain ⟨cur, e, h2, h3, h4⟩ : eZ rt w _ b o xs := hr.1 NM.no
    have hrep : ∀ i x, ((xs.drop off).take n)[i]? = some x → ∃ cs, rt.rep w (fun b' => okR cx w b' ∧ b' ≠ b) cs x ∧ ∀ j v, cs[j]? = some v → cur[o + off * rt.n + i * rt.n + j]? = some v := fun i x hx => by
      have hi' : i < n := by have := (List.getElem?_eq_some_iff.1 hx).1; omega
      rw [List.getElem?_take_of_lt hi', List.getElem?_drop] at hx
      obtain ⟨cs, h5, h6⟩ := h4 _ x hx
      refine ⟨cs, rt.keep (fun b' hb' => ⟨⟨⟨hb'.1, hb'.2.1⟩, fun e1 => hb'.2.2 nm _ hn _ hb e1.symm⟩, rfl⟩) h5, fun j u hj => ?_⟩
      have := h6 j u hj
      rw [Nat.add_mul] at this
      rw [← this]; congr 1; omega
    have hsz : (off + n) * rt.n ≤ xs.length * rt.n := Nat.mul_le_mul_right _ hle
    rcases g4 with ⟨g4, g5⟩ | ⟨g4, cur', e', fr, g5, g6⟩
    · subst g4 g5
      exact .inr ⟨A, b, o + off * rt.n, 0, cur, e, by rw [hlen, g1], .inl ⟨by simp, rfl⟩, by omega, g3, hown.1, h2, by rw [Nat.add_mul] at hsz; omega, hrep⟩
    rw [h2] at g5
    injection g5 with g5; injection g5 with g5 _ _; subst g5
    exact .inr ⟨A, b, o + off * rt.n, cap, cur, e, by rw [hlen, g1], .inr g4, by omega, g3, hown.1, h2, by rw [Nat.add_mul] at g6; omega, hrep⟩
theorem wh {fn : Func} {t nm off n : Nat} {rt : RT α} [NM rt] {xs ys : List α} (hr : fn.results = #[.tmp t]) (hs : a8 st.slots t = some (.own nm rt.n off n)) (hn : az st.heap nm = some ⟨rt, xs⟩) (hle : off + n ≤ xs.length) (e : (xs.drop off).take n = ys) (hex : ∀ b, ¬ cx.ex b := by intro _ h; exact h) :
    JR P cx st (.fin fn (fun e w' => ∃ v, e = .returned v ∧ BelowX cx.ex cx.w0.heap.size cx.w0 w' ∧ lJ rt cx.w0 w' (okR cx w') ys v)) := by
  rintro a w ⟨β, hi⟩
  obtain ⟨v, h1, h2⟩ := hi.slots t _ hs
  subst e
  refine ⟨hi.defers, v, ?_, v, rfl, hi.below, ws hi hn h2 hle hex⟩
  simp [eI, hr, mn, h1]
theorem rz {k : FuncId} {fn : Func} {c : Code} {aS : List SV} {rt : RT α} [NM rt] {xs : List α} (hf : P.funcs[k]? = some fn) (hb : fn.body = some c) (hn : (fn.name == "runtime.NumGoroutine") = false) {m : Nat} (hm : fn.ntmps = m) (hlen : Nat.ble aS.length m = true)
    (hp : (aS.all SV.plain) = true) (h : ∀ (w0 : World) (ok0 : Ok), J P (Cx.of w0 ok0 m) ⟨jK 0 aS, []⟩ c (.fin fn (fun e w' => ∃ v, e = .returned v ∧ BelowX (fun _ => False) w0.heap.size w0 w' ∧ lJ rt w0 w' (okR (Cx.of w0 ok0 m) w') xs v))) : CtO P k aS rt xs := by
  refine ⟨bJ hf hb hn, fun w ok0 vs hok hh => ?_⟩
  have hl := eL hh
  have hlen' : aS.length ≤ m := by simpa using hlen
  refine calls_of_wp hf hb ?_
  have := h w ok0 { tmps := vs.toArray ++ Array.replicate (fn.ntmps - vs.toArray.size) undef, defers := [] } w ⟨i6, ?_⟩
  · exact wp_mono this fun e a w hq => hq
  refine ⟨(Below.refl _ _).toX, hok, rfl, by simp [hm, hl]; omega, fun nm hb hh => by simp [az] at hh, fun nm nm' hb hb' hh => by simp [az] at hh, fun nm hb hh => by simp [az] at hh, fun i s hs => ?_⟩
  obtain ⟨j, rfl, hj⟩ := fa hs
  obtain ⟨v, h1, h2⟩ := eG hh hj
  have hjl : j < vs.length := (List.getElem?_eq_some_iff.1 h1).1
  refine ⟨v, by simp only [Nat.zero_add]; rw [Array.getElem?_append_left (by simpa using hjl)]; simpa using h1, ?_⟩
  have hps : s.plain = true := List.all_eq_true.1 hp s (List.mem_of_getElem? hj)
  exact SV.plain_keep hps (fun b hb => ⟨⟨.inl hb, hok b hb, fun nm x hx => by simp [az] at hx⟩, rfl⟩) h2
theorem Au (hi : InvB cx st β a w) {nm : Nat} {rt : RT α} [NM rt] {xs : List α} {v : Value} {d : Nat} (hdn : d < cx.n) (hf : di nm st.slots = true) (hn : az st.heap nm = none) (hb : Below w.heap.size w w') (hv : lJ rt w w' (okR (Cx.of w (bM cx st.heap β w) 0) w') xs v) :
    Inv cx ⟨(d, .own nm rt.n 0 xs.length) :: st.slots, (nm, ⟨rt, xs⟩) :: st.heap⟩ (a.put (some d) v) w' := by
  have hl := hi.later hb
  have key : ∀ (l : Option (Nat × Nat)), (∀ x, l = some x → w.heap.size ≤ x.1 ∧ x.1 < w'.heap.size) → (HB.mk rt xs).holds w' (bM cx ((nm, ⟨rt, xs⟩) :: st.heap) (fun k => if k = nm then l else β k) w') l →
      (∀ β', β' nm = l → hdr β' w' nm rt.n 0 xs.length v) → Inv cx ⟨(d, .own nm rt.n 0 xs.length) :: st.slots, (nm, ⟨rt, xs⟩) :: st.heap⟩ (a.put (some d) v) w' := by
    intro l hl1 hl2 hl3
    have hok : ∀ b, bM cx st.heap β w b → bM cx ((nm, ⟨rt, xs⟩) :: st.heap) (fun k => if k = nm then l else β k) w' b ∧ w'.heap[b]? = w.heap[b]? := by
      rintro b ⟨h1, h2, h3⟩
      refine ⟨⟨h1, Nat.lt_of_lt_of_le h2 hb.size, fun k hb' hk x hx => ?_⟩, hb.block b h2⟩
      rw [aW] at hk
      by_cases e1 : k = nm
      · subst e1; simp at hx; have := (hl1 x hx).1; omega
      rw [if_neg (Ne.symm e1)] at hk
      simp only [if_neg e1] at hx
      exact h3 k hb' hk x hx
    have hbase : InvB cx ⟨st.slots, (nm, ⟨rt, xs⟩) :: st.heap⟩ (fun k => if k = nm then l else β k) a w' := by
      refine ⟨hl.below, hl.old, hl.defers, hl.size, fun k hb' hk x hx => ?_, fun k k' h1 h2 hk hk' x y hx hy hxy => ?_, fun k hb' hk => ?_, fun i s hs => ?_⟩
      · by_cases e1 : k = nm
        · subst e1; simp at hx; have := hl1 x hx; exact ⟨.inl (Nat.le_trans hi.below.size this.1), this.2⟩
        rw [aW, if_neg (Ne.symm e1)] at hk
        simp only [if_neg e1] at hx
        exact hl.own k hb' hk x hx
      · rw [aW] at hk hk'
        by_cases e1 : k = nm <;> by_cases e2 : k' = nm
        · rw [e1, e2]
        · subst e1
          rw [if_neg (Ne.symm e2)] at hk'
          simp only [if_pos] at hx
          simp only [if_neg e2] at hy
          have g1 := (hl1 x hx).1
          have g2 := (hi.own k' _ hk' y hy).2
          omega
        · subst e2
          rw [if_neg (Ne.symm e1)] at hk
          simp only [if_pos] at hy
          simp only [if_neg e1] at hx
          have g1 := (hl1 y hy).1
          have g2 := (hi.own k _ hk x hx).2
          omega
        rw [if_neg (Ne.symm e1)] at hk
        rw [if_neg (Ne.symm e2)] at hk'
        simp only [if_neg e1] at hx
        simp only [if_neg e2] at hy
        exact hi.sep k k' _ _ hk hk' x y hx hy hxy
      · rw [aW] at hk
        by_cases e1 : k = nm
        · subst e1
          rw [if_pos rfl] at hk
          injection hk with hk; subst hk
          simp only [if_pos]; exact hl2
        rw [if_neg (Ne.symm e1)] at hk
        simp only [if_neg e1]
        exact HB.keep hok (fun x hx => hb.block _ (hi.own k hb' hk x hx).2) (hi.rows k hb' hk)
      obtain ⟨u, h1, h2⟩ := hi.slots i s hs
      have hfree := ep hf hs
      refine ⟨u, h1, SV.keep hok (fun k hk => ?_) h2⟩
      have hne : k ≠ nm := by rintro rfl; rw [hfree] at hk; cases hk
      refine ⟨by simp [hne], fun b o hbo cur e' fr hcur => ⟨cur, e', fr, ?_, rfl⟩⟩
      rw [hb.block b (InvB.cell_lt hcur)]; exact hcur
    exact ⟨_, hbase.put hdn (hl3 _ (by simp))⟩
  rcases hv with ⟨rfl, rfl⟩ | ⟨A, b, o, cap, cur, e, rfl, hA, h1, h2, h3, h4, h5, h6⟩
  · exact key none (fun x h => by cases h) rfl (fun β' h => by simp [hdr, h])
  have hbs := InvB.cell_lt h4
  refine key (some (b, o)) (fun x h => by injection h with h; subst h; exact ⟨h3, hbs⟩) ⟨fun _ => ⟨cur, e, h4, ?_, fun i x hx => ?_⟩, fun hm => by rw [show rt.mp = false from NM.no] at hm; cases hm⟩ (fun β' h => ?_)
  · have := Nat.mul_le_mul_right rt.n h1
    simp only; omega
  · obtain ⟨cs, g1, g2⟩ := h6 i x hx
    refine ⟨cs, rt.keep (fun b' hb' => ⟨⟨?_, hb'.1.2, fun k hb2 hk y hy e1 => ?_⟩, rfl⟩) g1, g2⟩
    · rcases hb'.1.1 with h | h
      · exact h.1
      exact .inr (.inl (Nat.le_trans hi.below.size (Cx.new_of h)))
    rw [aW] at hk
    by_cases e2 : k = nm
    · subst e2; simp at hy; subst hy; exact hb'.2 e1.symm
    rw [if_neg (Ne.symm e2)] at hk
    simp only [if_neg e2] at hy
    rcases hb'.1.1 with h | h
    · exact h.2.2 k hb2 hk y hy e1
    have := (hi.own k hb2 hk y hy).2
    have h : w.heap.size ≤ b' := Cx.new_of h
    omega
  simp only [hdr, h]
  refine ⟨A, cap, rfl, h1, h2, ?_⟩
  rcases hA with ⟨hA, hc⟩ | hA
  · subst hA; exact .inl ⟨rfl, hc⟩
  exact .inr ⟨by rw [hA]; simp, cur, e, _, h4, by rw [Nat.zero_add]; exact h5⟩
end
end Go.Eng
namespace Go.Eng
section
variable {P : Program} {cx : Cx} {st st' : St} {β : Loc} {a : Act} {w w' : World} {ops : Array Oper} {k : Kn} {c : Code}
variable {dst : Option Tmp} {ty : TypeId} {pos : String} {aft : Array Edge} {gd : Option (Nat × Bool)}
variable {α : Type}
theorem gI {T e : TypeId} {rt : RT α} [NM rt] {ps : List (Nat × Operand)} {ds : List α} {z : α} {n d : Nat} (ht : P.underlying T = some (.slice e)) (he : Ty P e rt) (hz : TyZero P e rt z) (hn : ps.length = n) (hr : RowRd st rt 0 ps ds) (h1 : Nat.ble 1 rt.n = true) (hb : Nat.ble (n * rt.n) 16777216 = true)
    (hd : Nat.blt d cx.n = true) (hf : di d st.slots = true) (hno : az st.heap d = none) :
    OS P cx ⟨some d, .buildSlice T n ps.toArray, ty, pos, aft, gd⟩ st ⟨(d, .own d rt.n 0 ds.length) :: st.slots, (d, ⟨rt, ds⟩) :: st.heap⟩ := by
  rintro a w ⟨β, hi⟩ Q
  subst hn
  have hb' : ps.length * rt.n ≤ 16777216 := by simpa using hb
  obtain ⟨cells, h2, h3, h4⟩ := pO (P := P) ht he hz hr (fun x hx => rfl) hi hb'
  have hl := hr.len
  have h1' : 1 ≤ rt.n := by simpa using h1
  have hpl : ps.length ≤ maxLen := by
    have : ps.length ≤ ps.length * rt.n := Nat.le_mul_of_pos_right _ h1'
    simp only [maxLen]; omega
  have hrun : (execOp a.eval ⟨some d, .buildSlice T ps.length ps.toArray, ty, pos, aft, gd⟩).run P w = .ok (.value (.slice (some ⟨w.heap.size, 0, none⟩) ps.length ps.length)) (w.alloc (.cells cells e)) := by
    change ((Instr.buildSlice T ps.length (ps.toArray.map fun p => (p.1, a.eval p.2))) >>= fun v => pure (Next.value v)).run P w = _
    rw [Sem.run_bind, h2]; rfl
  unfold Oper.wp
  rw [hrun, Oper.upon_value]
  have := hi.alloc (e := e) hf hno (by rw [hl, h3]; exact Nat.le_refl _) h4
  refine ⟨_, this.put (by simpa using hd) ?_⟩
  simp only [SV.holds, hdr, if_pos]
  exact ⟨_, ps.length, by rw [hl], by omega, hpl, .inr ⟨by simp, cells, e, _, heap_alloc_new w _, by rw [h3]; simp⟩⟩
end
end Go.Eng
namespace Go.Eng
section
variable {P : Program} {cx : Cx} {st st' : St} {β : Loc} {a : Act} {w w' : World} {ops : Array Oper} {k : Kn} {c : Code}
variable {dst : Option Tmp} {ty : TypeId} {pos : String} {aft : Array Edge} {gd : Option (Nat × Bool)}
variable {α : Type}
theorem Cf {j : Nat} {rt : RT α} {xs : List α} (hj : a8 st.slots j = some (.tv (ab rt) xs)) (hi : Inv cx st a w) :
    ∃ A cap, (A = none → xs = []) ∧ Inv cx ⟨(j, .raw (.slice A xs.length cap)) :: st.slots, st.heap⟩ a w := by
  obtain ⟨β, hb⟩ := hi
  obtain ⟨u, h1, h2⟩ := hb.slots j _ hj
  obtain ⟨A, cap, rfl, h3, h4, h5⟩ := la h2
  refine ⟨A, cap, fun e => ?_, β, hb.below, hb.old, hb.defers, hb.size, hb.own, hb.sep, hb.rows, fun q s hs => ?_⟩
  · rcases Classical.em (xs = []) with q | q
    · exact q
    obtain ⟨b, o, hA, _⟩ := h5 q
    rw [e] at hA; cases hA
  rw [aT] at hs
  split at hs
  · rename_i e; subst e; injection hs with hs; subst hs
    exact ⟨_, h1, rfl⟩
  exact hb.slots q s hs
theorem Ab (j : Nat) {rt : RT α} {xs : List α} {l : List Oper} (hj : a8 st.slots j = some (.tv (ab rt) xs)) (h : ∀ A cap, (A = none → xs = []) → JG P cx ops ⟨(j, .raw (.slice A xs.length cap)) :: st.slots, st.heap⟩ l k) : JG P cx ops st l k := fun a w hi => by
  obtain ⟨A, cap, h1, h2⟩ := Cf hj hi
  exact h A cap h1 a w h2
theorem qI (P : Program) (w : World) (d : Nat) (t e : TypeId) (A : Option Addr) (n c : Nat) (ht : P.underlying t = some (.slice e)) : (Op.equalIn (d + 1) t (.slice A n c) (.slice none 0 0)).run P w = .ok A.isNone w := by
  simp only [Op.equalIn]
  cases A with
  | none => simp [run_underlying ht]
  | some b => simp [run_underlying ht]
theorem tn (P : Program) (w : World) (t e : TypeId) (A : Option Addr) (n c : Nat) (ht : P.underlying t = some (.slice e)) : (binOp .eql t (.slice A n c) (.slice none 0 0)).run P w = .ok (.bool A.isNone) w := by
  have h : (Op.equal t (.slice A n c) (.slice none 0 0)).run P w = .ok A.isNone w := qI P w 9999 t e A n c ht
  simp only [binOp]
  simp [h]
theorem oC (P : Program) (w : World) (op : BinOp) (t : TypeId) (x y : Operand) (A : Option Addr) (n c : Nat) (B : Value) : (eqGuard op t x y (.slice A n c) B).run P w = .ok () w := by
  cases op <;> simp [eqGuard]
theorem ra {x y : Operand} {t yt e : TypeId} {A : Option Addr} {n c : Nat} (ht : P.underlying t = some (.slice e)) (hx : Ev st x (.raw (.slice A n c))) (hy : Ev st y (.raw (.slice none 0 0))) :
    Adr P cx st ⟨dst, .binOp .eql t x y yt, ty, pos, aft, gd⟩ (.raw (.bool A.isNone)) :=
  bD fun st' hag β a w hi => ⟨_, by
    have h1 := hi.raw (hag.ev (by simp [Op.operands]) hx)
    have h2 := hi.raw (hag.ev (by simp [Op.operands]) hy)
    simp [execOp, h1, h2, oC, tn _ _ _ _ _ _ _ ht], rfl⟩
theorem jD (P : Program) (w : World) (op : BinOp) (t : TypeId) (x y : Operand) (p : ByteArray) (B : Value) : (eqGuard op t x y (.string p) B).run P w = .ok () w := by
  cases op <;> simp [eqGuard]
theorem dW {x y : Operand} {t yt : TypeId} {p q : List UInt8} (ht : P.underlying t = some .string) (hx : Ev st x (.raw (fZ p))) (hy : Ev st y (.raw (fZ q))) :
    Adr P cx st ⟨dst, .binOp .eql t x y yt, ty, pos, aft, gd⟩ (.raw (.bool (p == q))) :=
  bD fun st' hag β a w hi => ⟨_, by
    have h1 := hi.raw (hag.ev (by simp [Op.operands]) hx)
    have h2 := hi.raw (hag.ev (by simp [Op.operands]) hy)
    simp only [fZ] at h1 h2
    simp [execOp, h1, h2, jD, binOp, Op.stringOp, qV], rfl⟩
theorem qL {x y : Operand} {t yt : TypeId} {p q : List UInt8} (ht : P.underlying t = some .string) (hx : Ev st x (.raw (fZ p))) (hy : Ev st y (.raw (fZ q))) :
    Adr P cx st ⟨dst, .binOp .neq t x y yt, ty, pos, aft, gd⟩ (.raw (.bool (p != q))) :=
  bD fun st' hag β a w hi => ⟨_, by
    have h1 := hi.raw (hag.ev (by simp [Op.operands]) hx)
    have h2 := hi.raw (hag.ev (by simp [Op.operands]) hy)
    simp only [fZ] at h1 h2
    simp [execOp, h1, h2, jD, binOp, Op.stringOp, qV, bne], rfl⟩
theorem dy {x : Operand} {t : TypeId} {p : List UInt8} (ht : P.underlying t = some .string) (hx : Ev st x (.raw (fZ p))) :
    Adr P cx st ⟨dst, .call { callee := .builtin .len, args := #[x], argTypes := #[t] }, ty, pos, aft, gd⟩ (.raw (.int .i64 (p.length : Int))) :=
  bD fun st' hag β a w hi => by
    have h1 := hi.raw (hag.ev (by simp [Op.operands, Call.operands]) hx)
    simp only [fZ] at h1
    refine ⟨.int .i64 _, ?_, rfl⟩
    have h2 : (ByteArray.mk p.toArray).size = p.length := by simp [ByteArray.size]
    simp [execOp, resolve, invoke, builtin, h1, Builtin.len_, run_underlying ht, goInt, h2]
end
end Go.Eng
namespace Go.Eng
section
variable {P : Program} {cx : Cx} {st st' : St} {β : Loc} {a : Act} {w w' : World} {ops : Array Oper} {k : Kn} {c : Code}
variable {dst : Option Tmp} {ty : TypeId} {pos : String} {aft : Array Edge} {gd : Option (Nat × Bool)}
theorem iO {x y : Operand} {t : TypeId} {kk : IntKind} {p : List UInt8} {i : Int} {j : Nat} {b : UInt8} (ht : P.underlying t = some .string) (hx : Ev st x (.raw (fZ p))) (hy : Ev st y (.raw (.int kk i))) (hij : i = (j : Int)) (hb : p[j]? = some b) :
    Adr P cx st ⟨dst, .index t x y, ty, pos, aft, gd⟩ (.raw (.int .u8 (b.toNat : Int))) :=
  bD fun st' hag β a w hi => by
    have h1 := hi.raw (hag.ev (by simp [Op.operands]) hx)
    have h2 := hi.raw (hag.ev (by simp [Op.operands]) hy)
    have hj : j < p.length := (List.getElem?_eq_some_iff.1 hb).1
    have hsz : (⟨p.toArray⟩ : ByteArray).size = p.length := by simp [ByteArray.size]
    have hr := run_index_string (P := P) w t ⟨p.toArray⟩ kk i ht
    rw [dif_pos ⟨by omega, by rw [hsz]; omega⟩] at hr
    subst hij
    rw [List.getElem?_eq_getElem hj] at hb
    injection hb with hb
    have e1 : (⟨p.toArray⟩ : ByteArray)[((j : Int)).toNat]'(by rw [hsz]; omega) = b := by rw [← hb]; rfl
    rw [e1] at hr
    exact ⟨_, by simp [execOp, h1, h2, fZ, hr], rfl⟩
end
end Go.Eng
namespace Go.Eng
section
variable {P : Program}
abbrev Old (w : World) : Ok := fun b => b < w.heap.size
def InK (k : IntKind) (n : Int) : Prop := k.min ≤ n ∧ n ≤ k.max
def Opens {α : Type} (P : Program) (t : TypeId) (rt : RT α) (φ : α → Prop) : Prop :=
  ∀ {H : Type} {enc : TypeId × Value → H} {w : World} {base : Nat} {spare : Nat → Bool} {held : Bool} {fuel : Nat} {cs : List Value} {x : DataW H × List MemPlace},
    DataW.trod enc P w base spare held fuel t cs = some x → ∃ d, rt.rep w (Old w) cs d ∧ φ d
theorem cg {t : TypeId} {k : IntKind} (ht : P.underlying t = some (.int k)) : Opens P t (ak k) (InK k) := fun h => by
  obtain ⟨n, rfl, _, hw⟩ := DataW.trod_int ht h
  simp only [Lit.wf, Bool.and_eq_true, decide_eq_true_eq] at hw
  exact ⟨n, rfl, hw⟩
theorem fV {t : TypeId} (ht : P.underlying t = some .string) : Opens P t dG (fun s => s.length ≤ maxLen) := fun h => by
  obtain ⟨s, rfl, _, hl⟩ := DataW.trod_string ht h
  exact ⟨s.data.toList, by simp [dG, fZ], by simpa using hl⟩
theorem Opens.arg {α : Type} {t : TypeId} {rt : RT α} {φ : α → Prop} (h : Opens P t rt φ) {H : Type} {enc : TypeId × Value → H} {w : World} {base : Nat} {spare : Nat → Bool} {held : Bool} {v : Value} {d : DataW H} {ps : List MemPlace}
    (hv : v = (if rt.agg then .agg v.cells else v.cells.toList.getD 0 undef)) (hd : DataW.Trod enc P w base spare held t v d ps) : ∃ x, rt.val w (Old w) v x ∧ φ x := by
  obtain ⟨fuel, hf⟩ := hd
  obtain ⟨x, h1, h2⟩ := h hf
  exact ⟨x, ⟨_, h1, by simpa using hv⟩, h2⟩
end
end Go.Eng
