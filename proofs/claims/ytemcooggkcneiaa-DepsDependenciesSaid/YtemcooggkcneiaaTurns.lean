import Derived.Test.YtemcooggkcneiaaEngS
import Derived.Test.YtemcooggkcneiaaShelf
import Derived.WalkKit
namespace Go.Proofs.Ytemcooggkcneiaa
open Go.Eng Go.Sort
set_option maxHeartbeats 2000000
set_option maxRecDepth 100000
theorem turn_sort : Turn Try.prog 41 (fun zs => zs.mergeSort fun x y => decide (x ≤ y)) (fun _ => none) where
  ent := callFunc_enter Try.func41 rfl (by kernel_rfl)
  len zs := List.length_mergeSort zs
  cut zs n h := by cases h
  some_ blk off cap zs w hH hb hz _ := Go.Proofs.Try.slices_Sort_int blk off cap zs w hH hb hz
  none_ A cap w := Go.Proofs.Try.slices_Sort_int_none A cap w
def cptZ (zs : List Int) : List Int := Lib.compact zs ++ List.replicate (zs.length - (Lib.compact zs).length) 0
theorem cptZ_len (zs : List Int) : (cptZ zs).length = zs.length := by
  have := Lib.compact_length_le zs
  simp [cptZ]; omega

theorem turn_compact : Turn Try.prog 42 cptZ (fun zs => some (Lib.compact zs).length) where
  ent := callFunc_enter Try.func42 rfl (by kernel_rfl)
  len := cptZ_len
  cut zs n h := by injection h with h; subst h; exact Lib.compact_length_le zs
  some_ blk off cap zs w hH hb hz hc := (Go.Proofs.Try.slices_Compact_int blk off cap zs w hH (by omega) hc).mono (by
    rintro e w' ⟨rfl, q, rfl⟩; exact ⟨rfl, q, #[], by simp [cptZ]⟩)
  none_ A cap w := (Go.Proofs.Try.slices_Compact_int_empty A cap w).mono (by rintro e w' ⟨rfl, rfl⟩; exact ⟨rfl, rfl⟩)

/-- the function that sorts and compacts -/
def dstZ (zs : List Int) : List Int := cptZ (zs.mergeSort fun x y => decide (x ≤ y))
theorem turn_sortedSet : Turn Try.prog 34 dstZ (fun zs => some (uniqS zs).length) where
  ent := callFunc_enter Try.func34 rfl (by kernel_rfl)
  len zs := by rw [dstZ, cptZ_len, List.length_mergeSort]
  cut zs n h := by injection h with h; subst h; exact uniqS_len zs
  some_ blk off cap zs w hH hb hz hc := by
    have hsort := turn_sort.some_ blk off cap zs w hH hb hz hc
    go_enter Try.func34, Try.ntmps34
    go_wp2_with (first
      | (go_at_call 41; refine hsort.mono ?_; rintro e w1 ⟨rfl, nn, os, rfl⟩
         have hl2 : (zs.mergeSort fun x y => decide (x ≤ y)).length = zs.length := List.length_mergeSort zs
         have hH2 : Holds (Value.int .i64) (grow (putRow (Value.int .i64) (Sort.ahead w nn) blk off (zs.mergeSort fun x y => decide (x ≤ y)).toArray) os) blk off (zs.mergeSort fun x y => decide (x ≤ y)).toArray :=
           holds_grow _ _ os blk off _ (by simpa [putRow, mapBlock, Sort.ahead] using hb) (holds_putRow _ _ blk off _ _ (holds_ahead _ w nn blk off _ hH) (by simp))
         have hcomp := turn_compact.some_ blk off cap (zs.mergeSort fun x y => decide (x ≤ y)) _ hH2 (by simpa [putRow, mapBlock, Sort.ahead] using Nat.lt_add_right _ hb) (by omega) (by omega)
         rw [hl2] at hcomp
         clear hH2 hsort)
      | (go_at_call 42; refine hcomp.mono ?_; rintro e w3 ⟨rfl, q, os2, rfl⟩))
    go_ret
    refine ⟨rfl, nn + q, os ++ os2, ?_⟩
    rw [show Sort.ahead (grow (putRow (Value.int .i64) (Sort.ahead w nn) blk off (zs.mergeSort fun x y => decide (x ≤ y)).toArray) os) q = grow (Sort.ahead (putRow (Value.int .i64) (Sort.ahead w nn) blk off (zs.mergeSort fun x y => decide (x ≤ y)).toArray) q) os from rfl]
    rw [putRow_grow _ _ _ _ _ _ (by simpa using hb), grow_grow, putRow_ahead_putRow _ _ _ _ _ _ _ _ (by simp [cptZ_len])]
    rfl
  none_ A cap w := by
    have hsort := turn_sort.none_ A cap w
    have hcomp := turn_compact.none_ A cap w
    go_enter Try.func34, Try.ntmps34
    go_wp2_with (first
      | (go_at_call 41; refine hsort.mono ?_; rintro e w1 ⟨rfl, rfl⟩)
      | (go_at_call 42; refine hcomp.mono ?_; rintro e w3 ⟨rfl, rfl⟩))
    go_ret
    exact ⟨rfl, rfl⟩

theorem turn_distinct : Turn Try.prog 44 dstZ (fun zs => some (uniqS zs).length) where
  ent := callFunc_enter Try.func44 rfl (by kernel_rfl)
  len zs := by rw [dstZ, cptZ_len, List.length_mergeSort]
  cut zs n h := by injection h with h; subst h; exact uniqS_len zs
  some_ blk off cap zs w hH hb hz hc := by
    have hsort := turn_sort.some_ blk off cap zs w hH hb hz hc
    go_enter Try.func44, Try.ntmps44
    go_wp2_with (first
      | (go_at_call 41; refine hsort.mono ?_; rintro e w1 ⟨rfl, nn, os, rfl⟩
         have hl2 : (zs.mergeSort fun x y => decide (x ≤ y)).length = zs.length := List.length_mergeSort zs
         have hH2 : Holds (Value.int .i64) (grow (putRow (Value.int .i64) (Sort.ahead w nn) blk off (zs.mergeSort fun x y => decide (x ≤ y)).toArray) os) blk off (zs.mergeSort fun x y => decide (x ≤ y)).toArray :=
           holds_grow _ _ os blk off _ (by simpa [putRow, mapBlock, Sort.ahead] using hb) (holds_putRow _ _ blk off _ _ (holds_ahead _ w nn blk off _ hH) (by simp))
         have hcomp := turn_compact.some_ blk off cap (zs.mergeSort fun x y => decide (x ≤ y)) _ hH2 (by simpa [putRow, mapBlock, Sort.ahead] using Nat.lt_add_right _ hb) (by omega) (by omega)
         rw [hl2] at hcomp
         clear hH2 hsort)
      | (go_at_call 42; refine hcomp.mono ?_; rintro e w3 ⟨rfl, q, os2, rfl⟩))
    go_ret
    refine ⟨rfl, nn + q, os ++ os2, ?_⟩
    rw [show Sort.ahead (grow (putRow (Value.int .i64) (Sort.ahead w nn) blk off (zs.mergeSort fun x y => decide (x ≤ y)).toArray) os) q = grow (Sort.ahead (putRow (Value.int .i64) (Sort.ahead w nn) blk off (zs.mergeSort fun x y => decide (x ≤ y)).toArray) q) os from rfl]
    rw [putRow_grow _ _ _ _ _ _ (by simpa using hb), grow_grow, putRow_ahead_putRow _ _ _ _ _ _ _ _ (by simp [cptZ_len])]
    rfl
  none_ A cap w := by
    have hsort := turn_sort.none_ A cap w
    have hcomp := turn_compact.none_ A cap w
    go_enter Try.func44, Try.ntmps44
    go_wp2_with (first
      | (go_at_call 41; refine hsort.mono ?_; rintro e w1 ⟨rfl, rfl⟩)
      | (go_at_call 42; refine hcomp.mono ?_; rintro e w3 ⟨rfl, rfl⟩))
    go_ret
    exact ⟨rfl, rfl⟩

end Go.Proofs.Ytemcooggkcneiaa
