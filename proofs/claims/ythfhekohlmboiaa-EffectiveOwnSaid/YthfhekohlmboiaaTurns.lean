import Derived.Test.YthfhekohlmboiaaEngS
import Derived.Test.YthfhekohlmboiaaShelf
import Derived.WalkKit
namespace Go.Proofs.Ythfhekohlmboiaa
open Go.Eng Go.Sort
set_option maxHeartbeats 2000000
set_option maxRecDepth 100000
theorem turn_sort : Turn Try.prog 55 (fun zs => zs.mergeSort fun x y => decide (x ≤ y)) (fun _ => none) where
  ent := callFunc_enter Try.func55 rfl (by kernel_rfl)
  len zs := List.length_mergeSort zs
  cut zs n h := by cases h
  some_ blk off cap zs w hH hb hz _ := Go.Proofs.Try.slices_Sort_int blk off cap zs w hH hb hz
  none_ A cap w := Go.Proofs.Try.slices_Sort_int_none A cap w
def cptZ (zs : List Int) : List Int := Lib.compact zs ++ List.replicate (zs.length - (Lib.compact zs).length) 0
theorem cptZ_len (zs : List Int) : (cptZ zs).length = zs.length := by
  have := Lib.compact_length_le zs
  simp [cptZ]; omega

theorem turn_compact : Turn Try.prog 56 cptZ (fun zs => some (Lib.compact zs).length) where
  ent := callFunc_enter Try.func56 rfl (by kernel_rfl)
  len := cptZ_len
  cut zs n h := by injection h with h; subst h; exact Lib.compact_length_le zs
  some_ blk off cap zs w hH hb hz hc := (Go.Proofs.Try.slices_Compact_int blk off cap zs w hH (by omega) hc).mono (by
    rintro e w' ⟨rfl, q, rfl⟩; exact ⟨rfl, q, #[], by simp [cptZ]⟩)
  none_ A cap w := (Go.Proofs.Try.slices_Compact_int_empty A cap w).mono (by rintro e w' ⟨rfl, rfl⟩; exact ⟨rfl, rfl⟩)

end Go.Proofs.Ythfhekohlmboiaa
