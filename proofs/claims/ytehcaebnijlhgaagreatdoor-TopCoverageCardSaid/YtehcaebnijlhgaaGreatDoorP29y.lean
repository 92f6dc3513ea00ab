import Derived.Test.YtehcaebnijlhgaaGreatDoorRows
import Derived.JoinedOf
import Derived.KernelRfl
set_option linter.unusedVariables false
set_option linter.unusedSimpArgs false
namespace Go.Proofs.YtehcaebnijlhgaaGreatDoor
open Go
set_option maxRecDepth 100000
theorem fS {a b : Bool} (h : a = true) (k : b = true) : (a && b) = true := by rw [h, k]; rfl
theorem oA : (Rows.topCoverageRow.wf (OpenSpec.ofChange Rows.topCoverageSpec)) = true := by kernel_rfl
theorem oz : (laidOutB Tryz.prog) = true := by kernel_rfl
theorem oy : (mapsRowed Tryz.prog) = true := by kernel_rfl
theorem ox : (Tryz.f3.params.all (Tryz.prog.readableRec ·)) = true := by kernel_rfl
theorem ow : (namedTie Tryz.prog Rows.topCoverageRow.named Rows.topCoverageSpec.vars) = true := by kernel_rfl
theorem ov : ((Rows.topCoverageRow.stops == [])) = true := by kernel_rfl
theorem ot : ((Tryz.prog.stops == [])) = true := by kernel_rfl
theorem oq : ((Rows.topCoverageRow.knobs == [])) = true := by kernel_rfl
theorem oo : ((Tryz.prog.stopKnobs == [])) = true := by kernel_rfl
theorem ol : ((Rows.topCoverageRow.inPlace == Tryz.prog.inPlace 3)) = true := by kernel_rfl
theorem nq : ((Rows.topCoverageRow.unfollowed == Tryz.prog.unfollowed 3)) = true := by kernel_rfl
theorem np : ((Rows.topCoverageRow.recurses == Tryz.prog.recurses 3)) = true := by kernel_rfl
theorem nl : ((Rows.topCoverageRow.named == Tryz.prog.varsNamed 3)) = true := by kernel_rfl
theorem nk : ((Rows.topCoverageRow.maps == (Tryz.f3.params.toList ++ Rows.topCoverageSpec.plain.varTypes Tryz.prog).any (Tryz.prog.mapsRec ·))) = true := by kernel_rfl
theorem nj : ((Rows.topCoverageRow.ifaces == (Tryz.f3.params.toList ++ Rows.topCoverageSpec.plain.varTypes Tryz.prog).any (Tryz.prog.ifacesRec ·))) = true := by kernel_rfl
theorem ni : ((Rows.topCoverageRow.mapsOut == Tryz.prog.mapsAmong Tryz.f3.resultTypes.toList)) = true := by kernel_rfl
theorem nh : ((Rows.topCoverageRow.loops == (Tryz.f3.params.toList ++ Rows.topCoverageSpec.plain.varTypes Tryz.prog).any (Tryz.prog.loopsFrom ·))) = true := by kernel_rfl
theorem ng : ((Rows.topCoverageRow.wideKeys == (Tryz.f3.params.toList ++ Rows.topCoverageSpec.plain.varTypes Tryz.prog ++ Tryz.f3.resultTypes.toList).any (Tryz.prog.wideKeysFrom ·))) = true := by kernel_rfl
theorem nf : (Rows.topCoverageSpec.vars.all (Tryz.prog.varReadable ·)) = true := by kernel_rfl
theorem ne : (Tryz.f3.resultTypes.all (fun t => Tryz.prog.readableRec t && decide (t < Tryz.prog.types.size))) = true := by kernel_rfl
theorem nc : ((Rows.topCoverageRow.ifacesOut == Tryz.f3.resultTypes.toList.any (Tryz.prog.ifacesRec ·))) = true := by kernel_rfl
theorem na : ((Rows.topCoverageRow.loopsOut == Tryz.f3.resultTypes.toList.any (Tryz.prog.loopsFrom ·))) = true := by kernel_rfl
theorem m9 : ((Rows.topCoverageRow.plainKeys == Tryz.prog.plainKeys)) = true := by kernel_rfl
theorem m8 : (Rows.topCoverageRow.shortTexts.isNone) = true := by kernel_rfl
theorem m7 : (Tryz.prog.stopsHeard) = true := by kernel_rfl
theorem m6 : (Tryz.prog.mayEnter) = true := by kernel_rfl
theorem m5 : ((Rows.topCoverageRow.lifted == Tryz.prog.liftsFinal)) = true := by kernel_rfl
theorem m4 : ((Tryz.prog.make == some Rows.topCoverageRow.make)) = true := by kernel_rfl
theorem m3 : ((Rows.topCoverageRow.kinds == (if Rows.topCoverageRow.domain.isEmpty then [] else Tryz.f3.params.toList.map fun t => match Tryz.prog.underlying t with | some (.int k) => some k | _ => none))) = true := by kernel_rfl
theorem mZ : ((Rows.topCoverageRow.pinned == Rows.topCoverageRow.pinnedBy)) = true := by kernel_rfl
theorem mY : ((Rows.topCoverageRow.veiled == (Tryz.f3.params.toList ++ Rows.topCoverageSpec.plain.varTypes Tryz.prog ++ Tryz.f3.resultTypes.toList).any (Tryz.prog.veiledRec ·))) = true := by kernel_rfl
theorem mX : (Rows.topCoverageRow.veiledFits Tryz.prog Tryz.f3.params.toList (Tryz.f3.params.toList ++ Rows.topCoverageSpec.plain.varTypes Tryz.prog ++ Tryz.f3.resultTypes.toList)) = true := by kernel_rfl
theorem qf : joinedFacts Tryz.prog 3 Tryz.f3 Rows.topCoverageSpec Rows.topCoverageRow = true := by
  unfold joinedFacts
  exact (fS (fS (fS (fS (fS (fS (fS (fS (fS (fS (fS (fS (fS (fS (fS (fS (fS (fS (fS (fS (fS (fS (fS (fS (fS (fS (fS (fS (fS (fS (fS oA oz) oy) ox) ow) ov) ot) oq) oo) ol) nq) np) nl) nk) nj) ni) nh) ng) nf) ne) nc) na) m9) m8) m7) m6) m5) m4) m3) mZ) mY) mX)
end Go.Proofs.YtehcaebnijlhgaaGreatDoor
