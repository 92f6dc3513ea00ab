import Derived.Test.YtfmoolclokffjaaEngS
import Derived.Test.YtfmoolclokffjaaShelf
import Derived.WalkKit
namespace Go.Proofs.Ytfmoolclokffjaa
open Go.Eng Go.Sort
set_option maxHeartbeats 2000000
set_option maxRecDepth 100000
theorem turn_sort : Turn Try.prog 24 (fun zs => zs.mergeSort fun x y => decide (x ≤ y)) (fun _ => none) where
  ent := callFunc_enter Try.func24 rfl (by kernel_rfl)
  len zs := List.length_mergeSort zs
  cut zs n h := by cases h
  some_ blk off cap zs w hH hb hz _ := Go.Proofs.Try.slices_Sort_int blk off cap zs w hH hb hz
  none_ A cap w := Go.Proofs.Try.slices_Sort_int_none A cap w
def cptZ (zs : List Int) : List Int := Lib.compact zs ++ List.replicate (zs.length - (Lib.compact zs).length) 0
theorem cptZ_len (zs : List Int) : (cptZ zs).length = zs.length := by
  have := Lib.compact_length_le zs
  simp [cptZ]; omega

end Go.Proofs.Ytfmoolclokffjaa
