import Derived.Test.YtehcaebnijlhgaaGreatDoorM3
import Derived.Test.YtehcaebnijlhgaaGreatDoorM6
import Derived.Shelf.Small.Bits
import Derived.Shelf.Strconv.Itoa0
import Derived.Shelf.Strings.Search1
import Derived.Shelf.Strings.Search2
import Derived.Shelf.Strings.Search3
import Derived.Shelf.LaysM
import Derived.Shelf.Strings.Shaped
import Derived.Shelf.Sort.Plain
import Derived.Shelf.Bits.Mul64
import Derived.Ground.Names2Prog
import Derived.Shelf.Slices.CompactI
import Derived.Shelf.Slices.SearchI
import Derived.Shelf.Slices.Cells
import Derived.Shelf.Slices.In.SortNone
import Derived.Test.YtehcaebnijlhgaaGreatDoorProg
import Derived.Test.YtehcaebnijlhgaaGreatDoorM5
import Derived.WalkKit
import Derived.Test.YtehcaebnijlhgaaGreatDoorM4
import Derived.Lib.SlicesCompact
import Derived.Lib.RowBridge
set_option linter.unusedVariables false
set_option linter.unusedSimpArgs false
namespace Go.Proofs.YtehcaebnijlhgaaGreatDoor
open Go.Eng Tryz
set_option maxRecDepth 100000
set_option maxHeartbeats 4000000
def bG (d : aP) (l : List bE) (s : a6) : bE × Int :=
  if 1 ≤ d.1 ∧ d.1 ≤ 5 then dY d.2 d.1 s else if d.1 = 6 then gx d.2 s else if d.1 = 7 then cW d.2 s.2.2.1 s else if d.1 = 8 then cW d.2 s.2.2.2.1 s
  else if d.1 = 9 then ((5, 0), 0) else if d.1 = 33 ∨ d.1 = 34 then dJ d (l[0]?.getD (0, 0)) s else if 35 ≤ d.1 ∧ d.1 ≤ 39 then bA d s
  else if (14 ≤ d.1 ∧ d.1 ≤ 16) ∧ eS d.2 = false then ((0, 0), 3) else if (aH d.1 l).2 = false then ((0, 0), 8) else ((aH d.1 l).1, 0)
theorem tH (d : aP) (l : List bE) (s : a6) (hn : d.2 ≤ 9223372036854775807) (hl : (l.length : Int) = bp d.1) : Ct prog 116 [.tv bX d, .tv (ab aX) l, .tv bS s] (svT (bG d l s)) := by
  refine ay func116 rfl rfl ntmps116 rfl rfl ?_
  intro w0 ok0
  refine zR (zb (.tv (.b rfl)) (zb (.tv (.b rfl)) (zl z90 (zY rfl (aa (ae (zR (zF bU rfl (zL ty3 rfl rfl rfl cb (zZ (aq (zR (ze rfl rfl (zY rfl (aa ?_)))))))))))))))
  refine af rfl (fun h2 => ?_) (fun h2 => ?_)
  · try simp at h2
    refine zR (zF bT rfl (zL ty3 rfl rfl rfl ce (zL eV rfl rfl rfl (Lens.id _) (zJ (an (fe _ _ _) (.cons (.b rfl) (.cons (.b rfl) (.cons (.b rfl) .nil))) rfl rfl) (zJ (bj (.b rfl)) (zJ (bi (.b rfl)) (zC aE rfl rfl rfl (Lens.id _) (.tv (.b rfl)) (zY rfl (aa (am (av (ai ?_))))))))))))
    exact aK results116 (ax aE rfl rfl rfl (Lens.id aX)) (aw rfl) ⟨rfl, rfl⟩ (b9 (by unfold bG; first | (simp [*]; done) | ((repeat' split) <;> first | rfl | omega | (simp_all; done) | (simp_all; omega))))
  try simp at h2
  refine zR (ze rfl rfl (zY rfl (aa ?_)))
  refine af rfl (fun h4 => ?_) (fun h4 => ?_)
  · try simp at h4
    refine zR (zF bT rfl (zL ty3 rfl rfl rfl ce (zL eV rfl rfl rfl (Lens.id _) (zJ (an (fe _ _ _) (.cons (.b rfl) (.cons (.b rfl) (.cons (.b rfl) .nil))) rfl rfl) (zJ (bj (.b rfl)) (zJ (bi (.b rfl)) (zC aE rfl rfl rfl (Lens.id _) (.tv (.b rfl)) (zY rfl (aa (am (av (ai ?_))))))))))))
    exact aK results116 (ax aE rfl rfl rfl (Lens.id aX)) (aw rfl) ⟨rfl, rfl⟩ (b9 (by unfold bG; first | (simp [*]; done) | ((repeat' split) <;> first | rfl | omega | (simp_all; done) | (simp_all; omega))))
  try simp at h4
  refine zR (ze rfl rfl (zY rfl (aa ?_)))
  refine af rfl (fun h6 => ?_) (fun h6 => ?_)
  · try simp at h6
    refine zR (zF bT rfl (zL ty3 rfl rfl rfl ce (zL eV rfl rfl rfl (Lens.id _) (zJ (an (fe _ _ _) (.cons (.b rfl) (.cons (.b rfl) (.cons (.b rfl) .nil))) rfl rfl) (zJ (bj (.b rfl)) (zJ (bi (.b rfl)) (zC aE rfl rfl rfl (Lens.id _) (.tv (.b rfl)) (zY rfl (aa (am (av (ai ?_))))))))))))
    exact aK results116 (ax aE rfl rfl rfl (Lens.id aX)) (aw rfl) ⟨rfl, rfl⟩ (b9 (by unfold bG; first | (simp [*]; done) | ((repeat' split) <;> first | rfl | omega | (simp_all; done) | (simp_all; omega))))
  try simp at h6
  refine zR (ze rfl rfl (zY rfl (aa ?_)))
  refine af rfl (fun h8 => ?_) (fun h8 => ?_)
  · try simp at h8
    refine zR (zF bT rfl (zL ty3 rfl rfl rfl ce (zL eV rfl rfl rfl (Lens.id _) (zJ (an (fe _ _ _) (.cons (.b rfl) (.cons (.b rfl) (.cons (.b rfl) .nil))) rfl rfl) (zJ (bj (.b rfl)) (zJ (bi (.b rfl)) (zC aE rfl rfl rfl (Lens.id _) (.tv (.b rfl)) (zY rfl (aa (am (av (ai ?_))))))))))))
    exact aK results116 (ax aE rfl rfl rfl (Lens.id aX)) (aw rfl) ⟨rfl, rfl⟩ (b9 (by unfold bG; first | (simp [*]; done) | ((repeat' split) <;> first | rfl | omega | (simp_all; done) | (simp_all; omega))))
  try simp at h8
  refine zR (ze rfl rfl (zY rfl (aa ?_)))
  refine af rfl (fun h10 => ?_) (fun h10 => ?_)
  · try simp at h10
    refine zR (zF bT rfl (zL ty3 rfl rfl rfl ce (zL eV rfl rfl rfl (Lens.id _) (zJ (an (fe _ _ _) (.cons (.b rfl) (.cons (.b rfl) (.cons (.b rfl) .nil))) rfl rfl) (zJ (bj (.b rfl)) (zJ (bi (.b rfl)) (zC aE rfl rfl rfl (Lens.id _) (.tv (.b rfl)) (zY rfl (aa (am (av (ai ?_))))))))))))
    exact aK results116 (ax aE rfl rfl rfl (Lens.id aX)) (aw rfl) ⟨rfl, rfl⟩ (b9 (by unfold bG; first | (simp [*]; done) | ((repeat' split) <;> first | rfl | omega | (simp_all; done) | (simp_all; omega))))
  try simp at h10
  refine zR (ze rfl rfl (zY rfl (aa ?_)))
  refine af rfl (fun h12 => ?_) (fun h12 => ?_)
  · try simp at h12
    refine zR (zF bT rfl (zL ty3 rfl rfl rfl ce (zL eV rfl rfl rfl (Lens.id _) (zJ (an (uh _ _ hn) (.cons (.b rfl) (.cons (.b rfl) .nil)) rfl rfl) (zJ (bj (.b rfl)) (zJ (bi (.b rfl)) (zC aE rfl rfl rfl (Lens.id _) (.tv (.b rfl)) (zY rfl (aa (am (av (ai ?_))))))))))))
    exact aK results116 (ax aE rfl rfl rfl (Lens.id aX)) (aw rfl) ⟨rfl, rfl⟩ (b9 (by unfold bG; first | (simp [*]; done) | ((repeat' split) <;> first | rfl | omega | (simp_all; done) | (simp_all; omega))))
  try simp at h12
  refine zR (ze rfl rfl (zY rfl (aa ?_)))
  refine af rfl (fun h14 => ?_) (fun h14 => ?_)
  · try simp at h14
    refine zR (zF bT rfl (zL ty3 rfl rfl rfl ce (zF Cq rfl (zL yk rfl rfl rfl zx (zL eV rfl rfl rfl (Lens.id _) (zJ (an (jO _ _ _) (.cons (.b rfl) (.cons (.b rfl) (.cons (.b rfl) .nil))) rfl rfl) (zJ (bj (.b rfl)) (zJ (bi (.b rfl)) (zC aE rfl rfl rfl (Lens.id _) (.tv (.b rfl)) (zA rfl (zQ [6,7] [6] (aa (am (av (ai ?_)))))))))))))))
    exact aK results116 (ax aE rfl rfl rfl (Lens.id aX)) (aw rfl) ⟨rfl, rfl⟩ (b9 (by unfold bG; first | (simp [*]; done) | ((repeat' split) <;> first | rfl | omega | (simp_all; done) | (simp_all; omega))))
  try simp at h14
  refine zR (ze rfl rfl (zY rfl (aa ?_)))
  refine af rfl (fun h16 => ?_) (fun h16 => ?_)
  · try simp at h16
    refine zR (zF bT rfl (zL ty3 rfl rfl rfl ce (zF Cp rfl (zL yk rfl rfl rfl zu (zL eV rfl rfl rfl (Lens.id _) (zJ (an (jO _ _ _) (.cons (.b rfl) (.cons (.b rfl) (.cons (.b rfl) .nil))) rfl rfl) (zJ (bj (.b rfl)) (zJ (bi (.b rfl)) (zC aE rfl rfl rfl (Lens.id _) (.tv (.b rfl)) (zY rfl (aa (am (av (ai ?_))))))))))))))
    exact aK results116 (ax aE rfl rfl rfl (Lens.id aX)) (aw rfl) ⟨rfl, rfl⟩ (b9 (by unfold bG; first | (simp [*]; done) | ((repeat' split) <;> first | rfl | omega | (simp_all; done) | (simp_all; omega))))
  try simp at h16
  refine zR (ze rfl rfl (zY rfl (aa ?_)))
  refine af rfl (fun h18 => ?_) (fun h18 => ?_)
  · try simp at h18
    refine zR (zJ (aI z90 rfl d4 (.cons (rt' := (ak .i64)) rfl bN (.raw (.b rfl) rfl) .nil)) (zC aE rfl rfl rfl (Lens.id _) (.tv (.b rfl)) (zY rfl (aa (am (av (ai ?_)))))))
    exact aK results116 (ax aE rfl rfl rfl (Lens.id aX)) (aw rfl) ⟨rfl, rfl⟩ (b9 (by unfold bG; first | (simp [*]; done) | ((repeat' split) <;> first | rfl | omega | (simp_all; done) | (simp_all; omega))))
  try simp at h18
  refine ae (zR (ze rfl rfl (zY rfl (aa ?_))))
  refine af rfl (fun h20 => ?_) (fun h20 => ?_)
  · have g20 := h20; try simp at h20
    refine ah (aa ?_)
    refine bz rfl g20 (ae ?_)
    obtain ⟨x, rfl⟩ := xc (l := l) (by have e := hl; unfold bp at e; (repeat' split at e) <;> omega)
    refine bZ mo zk ( zE [3] (aj cl (.b rfl) rfl rfl (Lens.id _)) ( zE [] (ag (.b rfl)) ( zE [] (al cK aE (.b rfl) (.b rfl) rfl zg) ( zE [] (aA aE (.b rfl)) ( zE [5] (aj eV (.b rfl) rfl rfl (Lens.id _)) ( zE [] (an (mE _ _ _ hn) (.cons (.b rfl) (.cons (.b rfl) (.cons (.b rfl) .nil))) rfl rfl) ( zE [] (bj (.b rfl)) ( zE [] (bi (.b rfl)) ( AE.cons _ _ _ rfl (bF aE (.b rfl) rfl rfl (Lens.id _) (.tv (.b rfl))) ( zE [] (aU (.b rfl)) ( AE.nil))))))))))) zk ?_
    refine aa (am (av (ai ?_)))
    exact aK results116 (ax aE rfl rfl rfl (Lens.id aX)) (aw rfl) ⟨rfl, rfl⟩ (b9 (by unfold bG; first | (simp [*]; done) | ((repeat' split) <;> first | rfl | omega | (simp_all; done) | (simp_all; omega))))
  have g20 := h20; try simp at h20
  refine ac (ze rfl rfl (zY rfl (aa ?_)))
  refine af rfl (fun h21 => ?_) (fun h21 => ?_)
  · have g21 := h21; try simp at h21
    refine ae ?_
    obtain ⟨x, rfl⟩ := xc (l := l) (by have e := hl; unfold bp at e; (repeat' split at e) <;> omega)
    refine bZ mo zk ( zE [3] (aj cl (.b rfl) rfl rfl (Lens.id _)) ( zE [] (ag (.b rfl)) ( zE [] (al cK aE (.b rfl) (.b rfl) rfl zg) ( zE [] (aA aE (.b rfl)) ( zE [5] (aj eV (.b rfl) rfl rfl (Lens.id _)) ( zE [] (an (mE _ _ _ hn) (.cons (.b rfl) (.cons (.b rfl) (.cons (.b rfl) .nil))) rfl rfl) ( zE [] (bj (.b rfl)) ( zE [] (bi (.b rfl)) ( AE.cons _ _ _ rfl (bF aE (.b rfl) rfl rfl (Lens.id _) (.tv (.b rfl))) ( zE [] (aU (.b rfl)) ( AE.nil))))))))))) zk ?_
    refine aa (am (av (ai ?_)))
    exact aK results116 (ax aE rfl rfl rfl (Lens.id aX)) (aw rfl) ⟨rfl, rfl⟩ (b9 (by unfold bG; first | (simp [*]; done) | ((repeat' split) <;> first | rfl | omega | (simp_all; done) | (simp_all; omega))))
  have g21 := h21; try simp at h21
  refine ae (zR (ze rfl rfl (zY rfl (aa ?_))))
  refine af rfl (fun h23 => ?_) (fun h23 => ?_)
  · have g23 := h23; try simp at h23
    refine ah (aa ?_)
    refine bz rfl g23 (ae ?_)
    refine ac (zL cl rfl rfl rfl (Lens.id _) (zL eV rfl rfl rfl (Lens.id _) (zJ (an (fE _ _) (.cons (.b rfl) (.cons (.b rfl) .nil)) rfl rfl) (zJ (bj (.b rfl)) (zJ (bi (.b rfl)) (zC aE rfl rfl rfl (Lens.id _) (.tv (.b rfl)) (zY rfl (aa (am (av (ai ?_)))))))))))
    exact aK results116 (ax aE rfl rfl rfl (Lens.id aX)) (aw rfl) ⟨rfl, rfl⟩ (b9 (by unfold bG; first | (simp [*]; done) | ((repeat' split) <;> first | rfl | omega | (simp_all; done) | (simp_all; omega))))
  have g23 := h23; try simp at h23
  refine zR (ze rfl rfl (zY rfl (aa ?_)))
  refine af rfl (fun h24 => ?_) (fun h24 => ?_)
  · have g24 := h24; try simp at h24
    refine ah (aa ?_)
    refine bz rfl g24 (ae ?_)
    refine ac (zL cl rfl rfl rfl (Lens.id _) (zL eV rfl rfl rfl (Lens.id _) (zJ (an (fE _ _) (.cons (.b rfl) (.cons (.b rfl) .nil)) rfl rfl) (zJ (bj (.b rfl)) (zJ (bi (.b rfl)) (zC aE rfl rfl rfl (Lens.id _) (.tv (.b rfl)) (zY rfl (aa (am (av (ai ?_)))))))))))
    exact aK results116 (ax aE rfl rfl rfl (Lens.id aX)) (aw rfl) ⟨rfl, rfl⟩ (b9 (by unfold bG; first | (simp [*]; done) | ((repeat' split) <;> first | rfl | omega | (simp_all; done) | (simp_all; omega))))
  have g24 := h24; try simp at h24
  refine zR (ze rfl rfl (zY rfl (aa ?_)))
  refine af rfl (fun h25 => ?_) (fun h25 => ?_)
  · have g25 := h25; try simp at h25
    refine ah (aa ?_)
    refine bz rfl g25 (ae ?_)
    refine ac (zL cl rfl rfl rfl (Lens.id _) (zL eV rfl rfl rfl (Lens.id _) (zJ (an (fE _ _) (.cons (.b rfl) (.cons (.b rfl) .nil)) rfl rfl) (zJ (bj (.b rfl)) (zJ (bi (.b rfl)) (zC aE rfl rfl rfl (Lens.id _) (.tv (.b rfl)) (zY rfl (aa (am (av (ai ?_)))))))))))
    exact aK results116 (ax aE rfl rfl rfl (Lens.id aX)) (aw rfl) ⟨rfl, rfl⟩ (b9 (by unfold bG; first | (simp [*]; done) | ((repeat' split) <;> first | rfl | omega | (simp_all; done) | (simp_all; omega))))
  have g25 := h25; try simp at h25
  refine zR (ze rfl rfl (zY rfl (aa ?_)))
  refine af rfl (fun h26 => ?_) (fun h26 => ?_)
  · have g26 := h26; try simp at h26
    refine ah (aa ?_)
    refine bz rfl g26 (ae ?_)
    refine ac (zL cl rfl rfl rfl (Lens.id _) (zL eV rfl rfl rfl (Lens.id _) (zJ (an (fE _ _) (.cons (.b rfl) (.cons (.b rfl) .nil)) rfl rfl) (zJ (bj (.b rfl)) (zJ (bi (.b rfl)) (zC aE rfl rfl rfl (Lens.id _) (.tv (.b rfl)) (zA rfl (zQ [6,7] [6] (aa (am (av (ai ?_))))))))))))
    exact aK results116 (ax aE rfl rfl rfl (Lens.id aX)) (aw rfl) ⟨rfl, rfl⟩ (b9 (by unfold bG; first | (simp [*]; done) | ((repeat' split) <;> first | rfl | omega | (simp_all; done) | (simp_all; omega))))
  have g26 := h26; try simp at h26
  refine ac (ze rfl rfl (zY rfl (aa ?_)))
  refine af rfl (fun h27 => ?_) (fun h27 => ?_)
  · have g27 := h27; try simp at h27
    refine zR (zL cl rfl rfl rfl (Lens.id _) (zL eV rfl rfl rfl (Lens.id _) (zJ (an (fE _ _) (.cons (.b rfl) (.cons (.b rfl) .nil)) rfl rfl) (zJ (bj (.b rfl)) (zJ (bi (.b rfl)) (zC aE rfl rfl rfl (Lens.id _) (.tv (.b rfl)) (zY rfl (aa (am (av (ai ?_)))))))))))
    exact aK results116 (ax aE rfl rfl rfl (Lens.id aX)) (aw rfl) ⟨rfl, rfl⟩ (b9 (by unfold bG; first | (simp [*]; done) | ((repeat' split) <;> first | rfl | omega | (simp_all; done) | (simp_all; omega))))
  have g27 := h27; try simp at h27
  refine ae (zR (ze rfl rfl (zY rfl (aa ?_))))
  refine af rfl (fun h29 => ?_) (fun h29 => ?_)
  · have g29 := h29; try simp at h29
    refine ah (aa ?_)
    refine bz rfl g29 (ae ?_)
    refine ac (zF bT rfl (zL ty3 rfl rfl rfl ce (zJ (an (iG _) (.cons (.b rfl) .nil) rfl rfl) (zJ (b6 (.b rfl)) (zZ ?_)))))
    refine af rfl (fun h32 => ?_) (fun h32 => ?_)
    · try simp at h32
      refine zR (zJ (aI z90 rfl d4 .nil) (zC aE rfl rfl rfl (Lens.id _) (.tv (.b rfl)) (zY rfl (aa (am (av (ai ?_)))))))
      exact aK results116 (ax aE rfl rfl rfl (Lens.id aX)) (aw rfl) ⟨rfl, rfl⟩ (b9 (by unfold bG; first | (simp [*]; done) | ((repeat' split) <;> first | rfl | omega | (simp_all; done) | (simp_all; omega))))
    try simp at h32
    refine ah (aG (aa (zR (zF bU rfl (zL ty3 rfl rfl rfl cb (zM rfl (zJ (an (gW _ _ hl) (.cons (.b rfl) (.cons (.b rfl) .nil)) rfl rfl) (zM rfl (zJ (bj (.b rfl)) (zJ (bi (.b rfl)) (zl z90 (zC aE rfl rfl rfl (Lens.id _) (.tv (.b rfl)) (zY rfl (aa (ae (zR (zM rfl (zJ (b6 (.b rfl)) (zZ ?_)))))))))))))))))))
    refine af rfl (fun h35 => ?_) (fun h35 => ?_)
    · try simp at h35
      refine zR (zJ (aI z90 rfl d4 .nil) (zC aE rfl rfl rfl (Lens.id _) (.tv (.b rfl)) (zY rfl (aa (am (ai ?_))))))
      exact aK results116 (ax aE rfl rfl rfl (Lens.id aX)) (aw rfl) ⟨rfl, rfl⟩ (b9 (by unfold bG; first | (simp [*]; done) | ((repeat' split) <;> first | rfl | omega | (simp_all; done) | (simp_all; omega))))
    try simp at h35
    refine ah (aa (zR (zL aE rfl rfl rfl (Lens.id _) (zC aE rfl rfl rfl (Lens.id _) (.tv (.b rfl)) (zY rfl (aa (am ?_)))))))
    exact aK results116 (ax aE rfl rfl rfl (Lens.id aX)) (aw rfl) ⟨rfl, rfl⟩ (b9 (by unfold bG; first | (simp [*]; done) | ((repeat' split) <;> first | rfl | omega | (simp_all; done) | (simp_all; omega))))
  have g29 := h29; try simp at h29
  refine zR (ze rfl rfl (zY rfl (aa ?_)))
  refine af rfl (fun h30 => ?_) (fun h30 => ?_)
  · have g30 := h30; try simp at h30
    refine ah (aa ?_)
    refine bz rfl g30 (ae ?_)
    refine ac (zF bT rfl (zL ty3 rfl rfl rfl ce (zJ (an (iG _) (.cons (.b rfl) .nil) rfl rfl) (zJ (b6 (.b rfl)) (zZ ?_)))))
    refine af rfl (fun h32 => ?_) (fun h32 => ?_)
    · try simp at h32
      refine zR (zJ (aI z90 rfl d4 .nil) (zC aE rfl rfl rfl (Lens.id _) (.tv (.b rfl)) (zY rfl (aa (am (av (ai ?_)))))))
      exact aK results116 (ax aE rfl rfl rfl (Lens.id aX)) (aw rfl) ⟨rfl, rfl⟩ (b9 (by unfold bG; first | (simp [*]; done) | ((repeat' split) <;> first | rfl | omega | (simp_all; done) | (simp_all; omega))))
    try simp at h32
    refine ah (aG (aa (zR (zF bU rfl (zL ty3 rfl rfl rfl cb (zM rfl (zJ (an (gW _ _ hl) (.cons (.b rfl) (.cons (.b rfl) .nil)) rfl rfl) (zM rfl (zJ (bj (.b rfl)) (zJ (bi (.b rfl)) (zl z90 (zC aE rfl rfl rfl (Lens.id _) (.tv (.b rfl)) (zY rfl (aa (ae (zR (zM rfl (zJ (b6 (.b rfl)) (zZ ?_)))))))))))))))))))
    refine af rfl (fun h35 => ?_) (fun h35 => ?_)
    · try simp at h35
      refine zR (zJ (aI z90 rfl d4 .nil) (zC aE rfl rfl rfl (Lens.id _) (.tv (.b rfl)) (zY rfl (aa (am (ai ?_))))))
      exact aK results116 (ax aE rfl rfl rfl (Lens.id aX)) (aw rfl) ⟨rfl, rfl⟩ (b9 (by unfold bG; first | (simp [*]; done) | ((repeat' split) <;> first | rfl | omega | (simp_all; done) | (simp_all; omega))))
    try simp at h35
    refine ah (aa (zR (zL aE rfl rfl rfl (Lens.id _) (zC aE rfl rfl rfl (Lens.id _) (.tv (.b rfl)) (zA rfl (zQ [6,7] [6] (aa (am ?_))))))))
    exact aK results116 (ax aE rfl rfl rfl (Lens.id aX)) (aw rfl) ⟨rfl, rfl⟩ (b9 (by unfold bG; first | (simp [*]; done) | ((repeat' split) <;> first | rfl | omega | (simp_all; done) | (simp_all; omega))))
  have g30 := h30; try simp at h30
  refine ac (ze rfl rfl (zY rfl (aa ?_)))
  refine af rfl (fun h31 => ?_) (fun h31 => ?_)
  · have g31 := h31; try simp at h31
    refine zR (zF bT rfl (zL ty3 rfl rfl rfl ce (zJ (an (iG _) (.cons (.b rfl) .nil) rfl rfl) (zJ (b6 (.b rfl)) (zZ ?_)))))
    refine af rfl (fun h32 => ?_) (fun h32 => ?_)
    · try simp at h32
      refine zR (zJ (aI z90 rfl d4 .nil) (zC aE rfl rfl rfl (Lens.id _) (.tv (.b rfl)) (zY rfl (aa (am (av (ai ?_)))))))
      exact aK results116 (ax aE rfl rfl rfl (Lens.id aX)) (aw rfl) ⟨rfl, rfl⟩ (b9 (by unfold bG; first | (simp [*]; done) | ((repeat' split) <;> first | rfl | omega | (simp_all; done) | (simp_all; omega))))
    try simp at h32
    refine ah (aG (aa (zR (zF bU rfl (zL ty3 rfl rfl rfl cb (zM rfl (zJ (an (gW _ _ hl) (.cons (.b rfl) (.cons (.b rfl) .nil)) rfl rfl) (zM rfl (zJ (bj (.b rfl)) (zJ (bi (.b rfl)) (zl z90 (zC aE rfl rfl rfl (Lens.id _) (.tv (.b rfl)) (zY rfl (aa (ae (zR (zM rfl (zJ (b6 (.b rfl)) (zZ ?_)))))))))))))))))))
    refine af rfl (fun h35 => ?_) (fun h35 => ?_)
    · try simp at h35
      refine zR (zJ (aI z90 rfl d4 .nil) (zC aE rfl rfl rfl (Lens.id _) (.tv (.b rfl)) (zY rfl (aa (am (ai ?_))))))
      exact aK results116 (ax aE rfl rfl rfl (Lens.id aX)) (aw rfl) ⟨rfl, rfl⟩ (b9 (by unfold bG; first | (simp [*]; done) | ((repeat' split) <;> first | rfl | omega | (simp_all; done) | (simp_all; omega))))
    try simp at h35
    refine ah (aa (zR (zL aE rfl rfl rfl (Lens.id _) (zC aE rfl rfl rfl (Lens.id _) (.tv (.b rfl)) (zY rfl (aa (am ?_)))))))
    exact aK results116 (ax aE rfl rfl rfl (Lens.id aX)) (aw rfl) ⟨rfl, rfl⟩ (b9 (by unfold bG; first | (simp [*]; done) | ((repeat' split) <;> first | rfl | omega | (simp_all; done) | (simp_all; omega))))
  have g31 := h31; try simp at h31
  refine ah (aG (aa (zR (zF bU rfl (zL ty3 rfl rfl rfl cb (zM rfl (zJ (an (gW _ _ hl) (.cons (.b rfl) (.cons (.b rfl) .nil)) rfl rfl) (zM rfl (zJ (bj (.b rfl)) (zJ (bi (.b rfl)) (zl z90 (zC aE rfl rfl rfl (Lens.id _) (.tv (.b rfl)) (zY rfl (aa (ae (zR (zM rfl (zJ (b6 (.b rfl)) (zZ ?_)))))))))))))))))))
  refine af rfl (fun h35 => ?_) (fun h35 => ?_)
  · try simp at h35
    refine zR (zJ (aI z90 rfl d4 .nil) (zC aE rfl rfl rfl (Lens.id _) (.tv (.b rfl)) (zY rfl (aa (am (ai ?_))))))
    exact aK results116 (ax aE rfl rfl rfl (Lens.id aX)) (aw rfl) ⟨rfl, rfl⟩ (b9 (by unfold bG; first | (simp [*]; done) | ((repeat' split) <;> first | rfl | omega | (simp_all; done) | (simp_all; omega))))
  try simp at h35
  refine ah (aa (zR (zL aE rfl rfl rfl (Lens.id _) (zC aE rfl rfl rfl (Lens.id _) (.tv (.b rfl)) (zY rfl (aa (am ?_)))))))
  exact aK results116 (ax aE rfl rfl rfl (Lens.id aX)) (aw rfl) ⟨rfl, rfl⟩ (b9 (by unfold bG; first | (simp [*]; done) | ((repeat' split) <;> first | rfl | omega | (simp_all; done) | (simp_all; omega))))
def svTI (R : bE × Int × Int) : SV := .tup3 (.tv aX R.1) (.raw (.int .i64 R.2.1)) (.raw (.int .i64 R.2.2))
theorem o8 {R : bE × Int × Int} {a : bE} {b c : Int} (h : (a, b, c) = R) : SV.tup3 (SV.of aX a) (.raw (.int .i64 b)) (.raw (.int .i64 c)) = svTI R := by subst h; rfl
def iX (d : aP) (st : List bE) : Nat := (st.length - bp d.1).toNat
def iW (s : a6) : List aP → Nat → List bE → bE × Int × Int
  | [], _, st => (st[0]?.getD (0, 0), 0, 0)
  | d :: r, i, st => if d.2 ≠ 0 ∧ dE d.1 = false then ((0, 0), i, 2)
    else if (bG d (st.drop (iX d st)) s).2 ≠ 0 then ((0, 0), i, (bG d (st.drop (iX d st)) s).2)
    else iW s r (i + 1) (st.take (iX d st) ++ [(bG d (st.drop (iX d st)) s).1])
def dR (e : List aP) (s : a6) : bE × Int × Int := if (bH e).2.2 ≠ 0 then ((0, 0), (bH e).2.1, (bH e).2.2) else iW s e 0 []
def CX (e : List aP) (k n : Nat) : Prop := ∃ rs, fv (bH e).1 k rs ∧ rs.length = n
theorem xx {e : List aP} {k n : Nat} (h : (bH e).2.2 = 0) (hk : k < e.length) (hh : CX e k n) : 0 ≤ bp e[k].1 ∧ bp e[k].1 ≤ n ∧ n ≤ 12 + 3 ∧ CX e (k + 1) ((n - bp e[k].1).toNat + 1) := by
  obtain ⟨rs, h1, rfl⟩ := hh
  obtain ⟨_, _, _, _, hops⟩ := fL h
  obtain ⟨h0, rs', h2, h3, frm, h4, _, _, h5⟩ := hops k hk
  have := mA h2 h1
  subst this
  have := nT e[k].1
  simp only [List.length_drop] at h5
  exact ⟨h0, h3, by omega, _, h4, by simp; omega⟩
theorem AD {e : List aP} {n : Nat} (h : (bH e).2.2 = 0) (hh : CX e e.length n) : n = 1 := by
  obtain ⟨rs, h1, rfl⟩ := hh
  obtain ⟨_, h0, _, ⟨rs', h2, h3⟩, _⟩ := fL h
  have := mA h2 h1
  subst this
  cases rs' with
  | nil => have h2 : (e.length : Int) = 0 := h2; omega
  | cons a r => simp at h3 ⊢; exact h3
theorem qS (e : List aP) (s : a6) (hn : ∀ d ∈ e, d.2 ≤ 9223372036854775807) : Ct prog 69 [.tv (ab bX) e, .tv bS s] (svTI (dR e s)) := by
  refine ay func69 rfl rfl ntmps69 rfl rfl ?_
  intro w0 ok0
  refine eE 0 rfl (fun hl0 => ?_)
  refine zR (zb (.tv (.b rfl)) (zl z90 (zA rfl (zY rfl (aa (zR (zM rfl (zJ (an (mF _) (.cons (.b rfl) .nil) rfl rfl) (zM rfl (zJ (d7 (.b rfl)) (zJ (d6 (.b rfl)) (zJ (d5 (.b rfl)) (zA rfl (zA rfl (zY rfl (aa (ae (zR (zM rfl (zJ (bQ (.b rfl) (.b rfl)) (zZ ?_)))))))))))))))))))))
  refine af rfl (fun h2 => ?_) (fun h2 => ?_)
  · try simp at h2
    refine zR (zJ (aI z90 rfl d4 .nil) (zM rfl (zM rfl (zC aE rfl rfl rfl (Lens.id _) (.tv (.b rfl)) (zA rfl (zY rfl (aa (am (ai ?_)))))))))
    exact cS results69 (ax aE rfl rfl rfl (Lens.id aX)) (aw rfl) (aw rfl) ⟨rfl, rfl, rfl⟩ (o8 (by unfold dR; rw [if_pos h2]))
  try simp at h2
  refine ah (aa (zR (zY rfl (aa (ae (zR (zM rfl (zN fB rfl (zM rfl (zZ (aq ?_)))))))))))
  refine eO 70 10 aX rfl rfl rfl ?_
  refine aZ (ι := (Nat × List bE)) (fun (k, st) => ⟨[(3, .optr 3 bS.n 0 0), (4, .optr 4 aX.n 0 0), (10, .own 70 aX.n 0 st.length), (27, .tv (ab bX) e), (28, .raw (.int .i64 (e.length))), (29, .raw (.int .i64 ((k : Nat))))], [(3, ⟨bS, [s]⟩), (4, ⟨aX, [(0, 0)]⟩), (70, ⟨aX, st⟩)]⟩) (fun (k, st) => k ≤ e.length ∧ CX e k st.length ∧ iW s (e.drop k) k st = dR e s) (fun (k, st) => e.length - k) (0, []) (⟨Nat.zero_le _, ⟨[], rfl, rfl⟩, by unfold dR; rw [if_neg (by simp [h2])]; rfl⟩) (fun a w hi => (zI hi)) ?_
  rintro ⟨k, st⟩ ⟨hk, hh, hp⟩
  refine zR (zt rfl rfl (zZ (ae ?_)))
  refine af rfl (fun h6 => ?_) (fun h6 => ?_)
  · try simp at h6
    refine ah (aa (ae (aq (ae ?_))))
    obtain ⟨ha0, ha1, ha2, hh2⟩ := xx h2 h6 hh
    refine ac (zM rfl ?_)
    refine bc _ rfl _ rfl rfl (al fB cl (.b rfl) (.b rfl) rfl zg) ?_
    refine zD cl rfl (zl kT (zA rfl (zC cl rfl rfl rfl (Lens.id _) (.tv (.b rfl)) (zZ (ae (zR (zF bT rfl (zL ty3 rfl rfl rfl ce (zJ (bQ (.b rfl) (.b rfl)) (zM rfl (zG rfl rfl (fun hg => ao bU (.b rfl)) (zG rfl rfl (fun hg => aj ty3 (.gd rfl hg) rfl rfl cb) (zG rfl rfl (fun hg => an (sX _) (.cons (.gd rfl hg) .nil) rfl rfl) (zG rfl rfl (fun hg => b6 (.gd rfl hg)) (zJ (aF (.b rfl) (.b rfl) rfl zp) (zZ ?_))))))))))))))))
    refine af rfl (fun h8 => ?_) (fun h8 => ?_)
    · try simp at h8
      refine zR (zJ (aI z90 rfl d4 .nil) (zM rfl (zC aE rfl rfl rfl (Lens.id _) (.tv (.b rfl)) (zA rfl (zY rfl (aa (am (ai (av (ai (bL (av (ai ?_)))))))))))))
      exact cS results69 (ax aE rfl rfl rfl (Lens.id aX)) (aw rfl) (aw rfl) ⟨rfl, rfl, rfl⟩ (o8 (by rw [← hp, List.drop_eq_getElem_cons h6, iW, if_pos h8]))
    try simp at h8
    refine ah (aa (zR (zM rfl (zJ (ci cK (.b rfl)) (zF bU rfl (zL ty3 rfl rfl rfl cb (zJ (an (km _) (.cons (.b rfl) .nil) rfl rfl) (zJ (da (.b rfl) (.b rfl) zw) (zY rfl (aa (ae ?_)))))))))))
    have hx : 0 ≤ (st.length : Int) - bp e[k].1 := zo
    refine bZ mo zk ( zE [12] (aj cl (.b rfl) rfl rfl (Lens.id _)) ( zE [70] (ag (.b rfl)) ( zE [] (ag (.b rfl)) ( zE [70] (gH cK aE (.b rfl) ⟨_, _, (.b rfl), (Int.toNat_of_nonneg hx).symm⟩ rfl zo zo) ( zE [3] (aj eV (.b rfl) rfl rfl (Lens.id _)) ( zE [70] (tF (tH _ _ _ (hn _ (List.getElem_mem _)) (by simp; omega)) (.cons (.b rfl) rfl (.own (.b rfl) rfl (by first | omega | (simp; try omega)) (.cons (.b rfl) rfl .nil))) (xK (Cv (ke (ip _) (ip _))) io)) ( zE [] (ag (.b rfl)) ( zE [] (bj (.b rfl)) ( zE [] (bi (.b rfl)) ( AE.cons _ _ _ rfl (d9 _ z90 rfl) ( AE.cons _ _ _ rfl (bF aE (.b rfl) rfl rfl (Lens.id _) (.tv (.b rfl))) ( zE [] (aU (.b rfl)) ( AE.nil))))))))))))) zk ?_
    refine aa (ae (ae ?_))
    have el : (st.drop (st.length - bp e[k].1).toNat).take (st.length - (st.length - bp e[k].1).toNat) = st.drop (iX e[k] st) := by rw [List.take_of_length_le (by simp)]; rfl
    refine ac (zM rfl (zJ (bQ (.b rfl) (.b rfl)) (zZ ?_)))
    refine af rfl (fun h12 => ?_) (fun h12 => ?_)
    · simp at h12; rw [el] at h12
      refine zR (zJ (aI z90 rfl d4 .nil) (zM rfl (zM rfl (zC aE rfl rfl rfl (Lens.id _) (.tv (.b rfl)) (zA rfl (zY rfl (aa (am (ai (av (ai (bL (av (ai ?_))))))))))))))
      exact cS results69 (ax aE rfl rfl rfl (Lens.id aX)) (aw rfl) (aw rfl) ⟨rfl, rfl, rfl⟩ (o8 (by simp only [Nat.zero_add, el]; rw [← hp, List.drop_eq_getElem_cons h6, iW, if_neg (fun q => by rw [h8 q.1] at q; exact absurd q.2 (by simp)), if_pos h12]))
    simp at h12; rw [el] at h12
    refine ah (aa ?_)
    refine gP 5 mo zk zk ( zS (ag (.b rfl)) ( zS (ag (.b rfl)) ( zS (gH cK aE (.b rfl) rfl ⟨_, _, (.b rfl), (Int.toNat_of_nonneg hx).symm⟩ zo zo) ( zS (aj aE (.b rfl) rfl rfl (Lens.id _)) ( zS (bq (rt := aX) cK aE z90 rfl (.cons (.tv (.b rfl)) .nil) rfl rfl) ( AS.nil)))))) rfl rfl (dn [3, 4, 27, 28, 29] cK aE z90 rfl by90 (.b rfl) rfl (by (try simp); try omega) (.tv (.b rfl)) (by unfold maxLen; (try simp); try omega) (by (try simp); try omega) rfl (.cons rfl (.cons rfl (.cons rfl (.cons rfl (.cons rfl .nil))))) rfl) ( zS (aU (.b rfl)) ( AS.nil)) ?_
    refine aG (aa (ac (zU rfl rfl zw (zM rfl (zQ [3,4,10,27,28,29] [3,4,70] ?_)))))
    exact aD (fun a w hi => ⟨(k + 1, st.take (iX e[k] st) ++ [(bG e[k] (st.drop (iX e[k] st)) s).1]), (by simp only []; omega), ⟨by omega, by rw [show (st.take (iX e[k] st) ++ [(bG e[k] (st.drop (iX e[k] st)) s).1]).length = (st.length - bp e[k].1).toNat + 1 by simp [iX]; omega]; exact hh2, by rw [← hp, List.drop_eq_getElem_cons h6, iW, if_neg (fun q => by rw [h8 q.1] at q; exact absurd q.2 (by simp)), if_neg (by simp [h12])]⟩, Sub.inv ⟨(by repeat (first | exact aQ | refine aM rfl (by first | rfl | exact congrArg (SV.own 70 aX.n 0) (by simp [iX]; omega)) ?_)), (by repeat (first | exact bn | refine aL rfl (by first | rfl | (exact congrArg (HB.mk aX) (by simp only [Nat.zero_add, List.drop_zero, Nat.sub_zero, el]; rfl))) ?_))⟩ hi⟩)
  try simp at h6
  refine bg (be (aY (bf (aa (ae ?_)))))
  have hk2 : k = e.length := by omega
  subst hk2
  have h1 := AD h2 hh
  refine ac (zM rfl (zJ (bu cK aE (.b rfl) (.b rfl) (show (0 : Int) = ((0 : Nat) : Int) from rfl) zh) ?_))
  refine bc _ rfl _ rfl rfl (aj aE (.b rfl) rfl zg (Lens.id _)) ?_
  refine zC aE rfl rfl rfl (Lens.id _) (.tv (.b rfl)) (zA rfl (zY rfl (aa (am ?_))))
  exact cS results69 (ax aE rfl rfl rfl (Lens.id aX)) (aw rfl) (aw rfl) ⟨rfl, rfl, rfl⟩ (o8 (by rw [← hp, List.drop_of_length_le (Nat.le_refl _), iW, List.getElem?_eq_getElem zo]; rfl))
end Go.Proofs.YtehcaebnijlhgaaGreatDoor
/- The contracts of the library's functions at this program. -/
namespace Go.Proofs
open Go.Shelf
def Tryz.lays144_ren : Go.Shelf.Ren := ⟨fun | 144 => 222 | 143 => 244 | 219 => 261 | 217 => 277 | 225 => 278 | 224 => 279 | 267 => 280 | 266 => 293 | 314 => 294 | n => n, fun | 9 => 9 | 4 => 4 | 3 => 3 | 5 => 5 | 46 => 234 | 146 => 378 | 51 => 278 | n => n, fun | 1 => 0 | n => n⟩
theorem Tryz.lays144 : Go.Proofs.Lays.n144 Tryz.prog Tryz.lays144_ren := {
  mixed := by kernel_rfl
  f143 := Tryz.func244.trans (congrArg some (by kernel_rfl))
  f144 := Tryz.func222.trans (congrArg some (by kernel_rfl))
  f217 := Tryz.func277.trans (congrArg some (by kernel_rfl))
  f219 := Tryz.func261.trans (congrArg some (by kernel_rfl))
  f224 := Tryz.func279.trans (congrArg some (by kernel_rfl))
  f225 := Tryz.func278.trans (congrArg some (by kernel_rfl))
  f266 := Tryz.func293.trans (congrArg some (by kernel_rfl))
  f267 := Tryz.func280.trans (congrArg some (by kernel_rfl))
  f314 := Tryz.func294.trans (congrArg some (by kernel_rfl))
  t3 := Tryz.underlying3
  a3 := Tryz.isAgg3
  z3 := Tryz.sizeOf3
  v3 := Tryz.zeroValue3
  t4 := Tryz.underlying4
  a4 := Tryz.isAgg4
  z4 := Tryz.sizeOf4
  v4 := Tryz.zeroValue4
  t5 := Tryz.underlying5
  a5 := Tryz.isAgg5
  z5 := Tryz.sizeOf5
  v5 := Tryz.zeroValue5
  t9 := Tryz.underlying9
  a9 := Tryz.isAgg9
  z9 := Tryz.sizeOf9
  v9 := Tryz.zeroValue9
  t46 := Tryz.underlying234
  a46 := Tryz.isAgg234
  z46 := Tryz.sizeOf234
  v46 := Tryz.zeroValue234
  t51 := Tryz.underlying278
  a51 := Tryz.isAgg278
  z51 := Tryz.sizeOf278
  v51 := Tryz.zeroValue278
  t146 := Tryz.underlying378
  a146 := Tryz.isAgg378
  z146 := Tryz.sizeOf378
  v146 := Tryz.zeroValue378
  g1 := by kernel_rfl }
def Tryz.lays189_ren : Go.Shelf.Ren := ⟨fun | 189 => 76 | 125 => 120 | 257 => 119 | 128 => 170 | 129 => 171 | 294 => 161 | 295 => 162 | 296 => 163 | 297 => 164 | 298 => 165 | 299 => 166 | 216 => 167 | 300 => 168 | 301 => 169 | 328 => 210 | 329 => 211 | 330 => 212 | 331 => 213 | 332 => 214 | 215 => 215 | 343 => 243 | n => n, fun | 28 => 37 | 3 => 3 | 46 => 234 | 0 => 0 | 51 => 278 | 53 => 280 | 4 => 4 | 183 => 271 | 182 => 270 | 131 => 209 | 5 => 5 | 9 => 9 | 218 => 317 | 222 => 321 | 228 => 345 | 229 => 173 | n => n, fun | n => n⟩
theorem Tryz.lays189 : Go.Proofs.Lays.n189 Tryz.prog Tryz.lays189_ren := {
  mixed := by kernel_rfl
  f125 := Tryz.func120.trans (congrArg some (by kernel_rfl))
  f128 := Tryz.func170.trans (congrArg some (by kernel_rfl))
  f129 := Tryz.func171.trans (congrArg some (by kernel_rfl))
  f189 := Tryz.func76.trans (congrArg some (by kernel_rfl))
  f215 := Tryz.func215.trans (congrArg some (by kernel_rfl))
  f216 := Tryz.func167.trans (congrArg some (by kernel_rfl))
  f257 := Tryz.func119.trans (congrArg some (by kernel_rfl))
  f294 := Tryz.func161.trans (congrArg some (by kernel_rfl))
  f295 := Tryz.func162.trans (congrArg some (by kernel_rfl))
  f296 := Tryz.func163.trans (congrArg some (by kernel_rfl))
  f297 := Tryz.func164.trans (congrArg some (by kernel_rfl))
  f298 := Tryz.func165.trans (congrArg some (by kernel_rfl))
  f299 := Tryz.func166.trans (congrArg some (by kernel_rfl))
  f300 := Tryz.func168.trans (congrArg some (by kernel_rfl))
  f301 := Tryz.func169.trans (congrArg some (by kernel_rfl))
  f328 := Tryz.func210.trans (congrArg some (by kernel_rfl))
  f329 := Tryz.func211.trans (congrArg some (by kernel_rfl))
  f330 := Tryz.func212.trans (congrArg some (by kernel_rfl))
  f331 := Tryz.func213.trans (congrArg some (by kernel_rfl))
  f332 := Tryz.func214.trans (congrArg some (by kernel_rfl))
  f343 := Tryz.func243.trans (congrArg some (by kernel_rfl))
  t0 := Tryz.underlying0
  a0 := Tryz.isAgg0
  z0 := Tryz.sizeOf0
  v0 := Tryz.zeroValue0
  t3 := Tryz.underlying3
  a3 := Tryz.isAgg3
  z3 := Tryz.sizeOf3
  v3 := Tryz.zeroValue3
  t4 := Tryz.underlying4
  a4 := Tryz.isAgg4
  z4 := Tryz.sizeOf4
  v4 := Tryz.zeroValue4
  t5 := Tryz.underlying5
  a5 := Tryz.isAgg5
  z5 := Tryz.sizeOf5
  v5 := Tryz.zeroValue5
  t9 := Tryz.underlying9
  a9 := Tryz.isAgg9
  z9 := Tryz.sizeOf9
  v9 := Tryz.zeroValue9
  t28 := Tryz.underlying37
  a28 := Tryz.isAgg37
  z28 := Tryz.sizeOf37
  v28 := Tryz.zeroValue37
  t46 := Tryz.underlying234
  a46 := Tryz.isAgg234
  z46 := Tryz.sizeOf234
  v46 := Tryz.zeroValue234
  t51 := Tryz.underlying278
  a51 := Tryz.isAgg278
  z51 := Tryz.sizeOf278
  v51 := Tryz.zeroValue278
  t53 := Tryz.underlying280
  a53 := Tryz.isAgg280
  z53 := Tryz.sizeOf280
  v53 := Tryz.zeroValue280
  t131 := Tryz.underlying209
  a131 := Tryz.isAgg209
  z131 := Tryz.sizeOf209
  v131 := Tryz.zeroValue209
  t182 := Tryz.underlying270
  a182 := Tryz.isAgg270
  z182 := Tryz.sizeOf270
  v182 := Tryz.zeroValue270
  t183 := Tryz.underlying271
  a183 := Tryz.isAgg271
  z183 := Tryz.sizeOf271
  v183 := Tryz.zeroValue271
  t218 := Tryz.underlying317
  a218 := Tryz.isAgg317
  z218 := Tryz.sizeOf317
  v218 := Tryz.zeroValue317
  t222 := Tryz.underlying321
  a222 := Tryz.isAgg321
  z222 := Tryz.sizeOf321
  v222 := Tryz.zeroValue321
  t228 := Tryz.underlying345
  a228 := Tryz.isAgg345
  z228 := Tryz.sizeOf345
  v228 := Tryz.zeroValue345
  t229 := Tryz.underlying173
  a229 := Tryz.isAgg173
  z229 := Tryz.sizeOf173
  v229 := Tryz.zeroValue173 }
def Tryz.laysNm220_ren : Go.Shelf.Ren := ⟨fun | 20 => 77 | n => n, fun | 22 => 37 | 3 => 3 | 4 => 4 | 0 => 0 | n => n, fun | n => n⟩
theorem Tryz.laysNm220 : Go.Proofs.Lays2.n20 Tryz.prog Tryz.laysNm220_ren := {
  mixed := by kernel_rfl
  f20 := Tryz.func77.trans (congrArg some (by kernel_rfl))
  t0 := Tryz.underlying0
  a0 := Tryz.isAgg0
  z0 := Tryz.sizeOf0
  v0 := Tryz.zeroValue0
  t3 := Tryz.underlying3
  a3 := Tryz.isAgg3
  z3 := Tryz.sizeOf3
  v3 := Tryz.zeroValue3
  t4 := Tryz.underlying4
  a4 := Tryz.isAgg4
  z4 := Tryz.sizeOf4
  v4 := Tryz.zeroValue4
  t22 := Tryz.underlying37
  a22 := Tryz.isAgg37
  z22 := Tryz.sizeOf37
  v22 := Tryz.zeroValue37
  i3 := by kernel_rfl }
open Go.RowKit Go.Lib in
theorem Tryz.strings_Contains_one (s : ByteArray) (c : UInt8) (w : World) :
    Calls Tryz.prog 222 #[.string s, .string ⟨#[c]⟩] w fun e w' => e = .returned (.bool (decide (0 ≤ Lib.indexByte s.data.toList c))) ∧ w' = w := Any.strings_Contains_one Tryz.lays144 s c w
open Go.Sort Go.RowKit in
theorem Tryz.slices_Sort_int (blk off cap : Nat) (zs : List Int) (w : World) (hH : Holds (Value.int .i64) w blk off zs.toArray) (hblk : blk < w.heap.size) (hsz : zs.length < 4611686018427387904) :
    Calls Tryz.prog 76 #[.slice (some ⟨blk, off, none⟩) zs.length cap] w fun e w' =>
      e = .returned (.tuple #[]) ∧ ∃ n os, w' = grow (putRow (Value.int .i64) (Sort.ahead w n) blk off (zs.mergeSort fun x y => decide (x ≤ y)).toArray) os := Any.slices_Sort_int Tryz.lays189 blk off cap zs w hH hblk hsz
open Go.RowKit Go.Lib Go.Sort in
theorem Tryz.slices_Compact_int (blk off cap : Nat) (zs : List Int) (w : World) (hH : Holds (Value.int .i64) w blk off zs.toArray) (hsz : zs.length ≤ 9223372036854775807) (hcap : zs.length ≤ cap) :
    Calls Tryz.prog 77 #[.slice (some ⟨blk, off, none⟩) zs.length cap] w fun e w' => e = .returned (.slice (some ⟨blk, off, none⟩) (Lib.compact zs).length cap) ∧ ∃ q, w' = putRow (Value.int .i64) (Sort.ahead w q) blk off (Lib.compact zs ++ List.replicate (zs.length - (Lib.compact zs).length) 0).toArray := Any.slices_Compact_int Tryz.laysNm220 blk off cap zs w hH hsz hcap
open Go.RowKit Go.Lib Go.Sort in
theorem Tryz.slices_Compact_int_empty (a : Option Addr) (cap : Nat) (w : World) :
    Calls Tryz.prog 77 #[.slice a 0 cap] w fun e w' => e = .returned (.slice a 0 cap) ∧ w' = w := Any.slices_Compact_int_empty Tryz.laysNm220 a cap w
open Go.RowKit Go.Sort in
theorem Tryz.slices_Sort_int_none (p : Option Addr) (cap : Nat) (w : World) :
    Calls Tryz.prog 76 #[.slice p 0 cap] w fun e w' => e = .returned (.tuple #[]) ∧ w' = w := Any.slices_Sort_int_none Tryz.lays189 p cap w
end Go.Proofs
namespace Go.Proofs.YtehcaebnijlhgaaGreatDoor
open Go.Eng Tryz
set_option maxRecDepth 100000
set_option maxHeartbeats 4000000
def resL : List (List UInt8) := [[105, 102], [116, 104, 101, 110], [101, 108, 115, 101], [111, 114], [97, 110, 100], [110, 111, 116], [116, 114, 117, 101], [102, 97, 108, 115, 101], [116, 111, 100, 97, 121], [115, 104, 97, 114, 101], [100, 105, 118], [114, 111, 117, 110, 100], [109, 105, 110], [109, 97, 120], [112, 108, 117, 115], [109, 111, 110, 116, 104, 115], [100, 97, 121, 115], [121, 101, 97, 114, 115], [121, 101, 97, 114], [109, 111, 110, 116, 104], [116, 97, 98], [98, 97, 110, 100], [99, 111, 117, 110, 116], [115, 117, 109], [97, 108, 108], [97, 110, 121], [109, 111, 115, 116], [101, 110, 117, 109], [116, 97, 98, 108, 101], [114, 111, 119], [115, 99, 111, 112, 101], [109, 101, 109, 98, 101, 114, 115], [105, 110, 112, 117, 116], [100, 101, 102], [114, 117, 108, 101], [111, 102], [111, 118, 101, 114], [112, 114, 105, 111], [102, 114, 111, 109], [116, 111], [101, 110, 100], [119, 104, 101, 110], [105, 115], [115, 114, 99], [98, 111, 111, 108], [105, 110, 116], [109, 111, 110, 101, 121], [114, 97, 116, 101], [100, 97, 116, 101], [100, 111, 119, 110], [117, 112], [122, 101, 114, 111], [97, 119, 97, 121], [104, 97, 108, 102], [101, 118, 101, 110]]
def yM (s : List UInt8) : Bool := resL.contains s
theorem BT (s : List UInt8) : Ct prog 134 [.raw (fZ s)] (.raw (.bool (yM s))) := by
  refine ay func134 rfl rfl ntmps134 rfl rfl ?_
  intro w0 ok0
  refine zR (zY rfl (aa (ae (zR (zM rfl (zZ (aq (ae ?_))))))))
  iterate 54 (
    refine zR (zJ (dW uT9 (.b rfl) (.b rfl)) (zY rfl (aa ?_)))
    refine af rfl (fun h => ?_) (fun h => ?_)
    · have g := h
      have hx : yM s = true := by simp at h; subst h; rfl
      refine ah (aa ?_)
      refine bz rfl g (ae ?_)
      refine ac (zY rfl (aa (am (av (ai ?_)))))
      exact z1 results134 rfl (rb hx.symm)
    simp at h)
  refine ac (zJ (dW uT9 (.b rfl) (.b rfl)) (zY rfl (aa ?_)))
  refine af rfl (fun h => ?_) (fun h => ?_)
  · have hx : yM s = true := by simp at h; subst h; rfl
    refine zR (zY rfl (aa (am (av (ai ?_)))))
    exact z1 results134 rfl (rb hx.symm)
  simp at h
  refine ah (aG (aa (zR (zY rfl (aa (am ?_))))))
  exact z1 results134 rfl (rb (by symm; unfold yM resL; simp [*]))
def sa (s : List UInt8) : Bool := ((((s != []) && rh (s.getD 0 0)) && ((B2 s : Int) == (s.length : Int))) && decide ((s.length : Int) ≤ 16)) && !yM s
theorem id_ok0 (s : List UInt8) (hl : s.length ≤ 9223372036854775807) : Ct prog 95 [.raw (fZ s)] (.raw (.bool (sa s))) := by
  refine ay func95 rfl rfl ntmps95 rfl rfl ?_
  intro w0 ok0
  refine zR (zY rfl (aa (zR (zM rfl (zJ (qL uT9 (.b rfl) (.b rfl)) (zM rfl (zG rfl rfl (fun hg => ag (.b rfl)) (zG rfl rfl (fun hg => iO uT9 (.gd rfl hg) (.b rfl) (show (0 : Int) = ((0 : Nat) : Int) from rfl) (getD_some (z := (0 : UInt8)) (by cases s with | nil => simp at hg | cons a r => simp))) (zG rfl rfl (fun hg => an (tR _) (.cons (.gd rfl hg) .nil) rfl rfl) (zJ (aF (.b rfl) (.b rfl) rfl zp) (zM rfl (zG rfl rfl (fun hg => ag (.b rfl)) (zG rfl rfl (fun hg => an (B0 _ hl) (.cons (.gd rfl hg) .nil) rfl rfl) (zG rfl rfl (fun hg => ag (.b rfl)) (zG rfl rfl (fun hg => dy uT9 (.gd rfl hg)) (zG rfl rfl (fun hg => ca (.gd rfl hg) (.gd rfl hg)) (zJ (aF (.b rfl) (.b rfl) rfl zp) (zM rfl (zG rfl rfl (fun hg => ag (.b rfl)) (zG rfl rfl (fun hg => dy uT9 (.gd rfl hg)) (zG rfl rfl (fun hg => ew (.gd rfl hg) (.b rfl)) (zJ (aF (.b rfl) (.b rfl) rfl zp) (zM rfl (zG rfl rfl (fun hg => ag (.b rfl)) (zG rfl rfl (fun hg => an (BT _) (.cons (.gd rfl hg) .nil) rfl rfl) (zG rfl rfl (fun hg => b6 (.gd rfl hg)) (zJ (aF (.b rfl) (.b rfl) rfl zp) (zY rfl (aa (am ?_))))))))))))))))))))))))))))))
  exact z1 results95 rfl (rb (by first | rfl | (unfold sa; cases s <;> simp)))
theorem ur (s : List UInt8) (c : UInt8) : Ct prog 222 [.raw (fZ s), .raw (fZ [c])] (.raw (.bool (decide (0 ≤ Lib.indexByte s c)))) :=
  ⟨bJ func222 rfl zk, fun w ok0 vs hok ⟨v, vr, e, h1, v2, vr2, e2, h2, h3⟩ => by
    have h1 : v = fZ s := h1
    have h2 : v2 = fZ [c] := h2
    have h3 : vr2 = [] := h3
    subst h1 h2 h3 e2 e
    refine (Go.Proofs.Tryz.strings_Contains_one ⟨s.toArray⟩ c w).mono ?_
    rintro e w' ⟨rfl, rfl⟩
    exact ⟨_, rfl, (Go.Eng.Below.refl _ _).toX, rfl⟩⟩
def chB (b : UInt8) : Bool := decide (b.toNat < 32) || decide (126 < b.toNat)
def tc (s : List UInt8) : Bool := !(decide (64 < s.length) || decide (0 ≤ Lib.indexByte s 34)) && !s.any chB
theorem src_ok (s : List UInt8) : Ct prog 188 [.raw (fZ s)] (.raw (.bool (tc s))) := by
  refine ay func188 rfl rfl ntmps188 rfl rfl ?_
  intro w0 ok0
  refine zR (zY rfl (aa (ae (zR (zM rfl (zJ (dy uT9 (.b rfl)) (zJ (bY (.b rfl) (.b rfl)) (zM rfl (zG rfl rfl (fun hg => ag (.b rfl)) (zG rfl rfl (fun hg => an (ur _ _) (.cons (.gd rfl hg) (.cons (.b rfl) .nil)) rfl rfl) (zJ (aB (.b rfl) (.b rfl) rfl zp) (zZ ?_))))))))))))
  refine af rfl (fun h1 => ?_) (fun h1 => ?_)
  · have h1 : (decide (64 < s.length) || decide (0 ≤ Lib.indexByte s 34)) = true := by simp at h1 ⊢; omega
    refine zR (zY rfl (aa (am (ai ?_))))
    exact z1 results188 rfl (rb (by unfold tc; rw [h1]; rfl))
  have h1 : (decide (64 < s.length) || decide (0 ≤ Lib.indexByte s 34)) = false := by simp at h1 ⊢; omega
  have hl : s.length ≤ 64 := by simp at h1; omega
  refine ah (aa (ae (zR (zM rfl (zJ (dy uT9 (.b rfl)) (zM rfl (zZ (aq ?_))))))))
  refine aZ (ι := Nat) (fun k => ⟨[(0, .raw (fZ s)), (12, .raw (.int .i64 ((s.length : Int)))), (13, .raw (.int .i64 ((k : Nat))))], []⟩) (fun k => k ≤ s.length ∧ ∀ i, (h : i < s.length) → i < k → chB s[i] = false) (fun k => s.length - k) 0 (⟨Nat.zero_le _, fun i h g => by omega⟩) (fun a w hi => (zI hi)) ?_
  rintro k ⟨hk, hy⟩
  refine zR (zt rfl rfl (zZ (ae ?_)))
  refine af rfl (fun h4 => ?_) (fun h4 => ?_)
  · have h4 : k < s.length := by simp at h4; omega
    refine ah (aa (ae (aq (zR (zM rfl (zY rfl (aa (zR (zM rfl (zM rfl ?_))))))))))
    refine bc _ rfl _ rfl rfl (iO uT9 (.b rfl) (.b rfl) rfl (List.getElem?_eq_getElem (by first | omega | (simp at hg; omega) | (simp_all; omega)))) ?_
    refine zt rfl rfl (zM rfl (zG rfl rfl (fun hg => ag (.b rfl)) (zG rfl rfl (fun hg => ag (.b rfl)) (zG rfl rfl (fun hg => iO uT9 (.gd rfl hg) (.gd rfl hg) rfl (getD_some (z := (0 : UInt8)) (by first | omega | (simp at hg; omega) | (simp_all; omega)))) (zG rfl rfl (fun hg => bY (.gd rfl hg) (.b rfl)) (zJ (aB (.b rfl) (.b rfl) rfl zp) (zZ ?_)))))))
    refine af rfl (fun h6 => ?_) (fun h6 => ?_)
    · have h6 : chB s[k] = true := by unfold chB; simp [h4, List.getD_eq_getElem?_getD] at h6 ⊢; omega
      refine zR (zY rfl (aa (am (av (ai (bL (av (ai ?_))))))))
      exact z1 results188 rfl (rb (by unfold tc; rw [List.any_eq_true.2 ⟨_, List.getElem_mem h4, h6⟩]; simp))
    have h6 : chB s[k] = false := by unfold chB; simp [h4, List.getD_eq_getElem?_getD] at h6 ⊢; omega
    have hy1 : ∀ i, (h : i < s.length) → i < k + 1 → chB s[i] = false := fun i hi g => by
      by_cases e : i = k
      · subst e; exact h6
      exact hy i hi zo
    refine ah (aG (aa (ac (zU rfl rfl zw (zM rfl (aN ?_))))))
    exact aD (fun a w hi => ⟨k + 1, zj, (⟨by omega, hy1⟩), (zI hi)⟩)
  have h4 : k = s.length := by simp at h4; omega
  refine bg (be (aY (bf (aa (ae (ac (zY rfl (aa (am ?_)))))))))
  exact z1 results188 rfl (rb (by unfold tc; rw [h1, show s.any chB = false from List.any_eq_false.2 (fun x hx => by obtain ⟨i, hi, rfl⟩ := List.mem_iff_getElem.1 hx; rw [hy i hi zo]; decide)]; rfl))
theorem rm (s : List UInt8) (hl : s.length ≤ 80) : Ct prog 95 [.raw (fZ s)] (.raw (.bool (sa s))) := id_ok0 s zo
theorem Bm (x : bV) (c : List UInt8) : Ct prog 136 [.tv cX x, .eptr dG c] (.raw (.bool (decide (x.1 = c)))) := by
  refine ay func136 rfl rfl ntmps136 rfl rfl ?_
  intro w0 ok0
  refine zR (zb (.tv (.b rfl)) (zY rfl (aa (zR (zF lz rfl (zL ty9 rfl rfl rfl lQ (zD ty9 rfl (zJ (dW uT9 (.b rfl) (.b rfl)) (zY rfl (aa (am ?_)))))))))))
  exact z1 results136 rfl (rb (by first | rfl | (rw [Bool.eq_iff_iff]; simp)))
theorem x6 (x : cy) (c : List UInt8) : Ct prog 138 [.tv ch x, .eptr dG c] (.raw (.bool (decide (x.1 = c)))) := by
  refine ay func138 rfl rfl ntmps138 rfl rfl ?_
  intro w0 ok0
  refine zR (zb (.tv (.b rfl)) (zY rfl (aa (zR (zF ly rfl (zL ty9 rfl rfl rfl mS (zD ty9 rfl (zJ (dW uT9 (.b rfl) (.b rfl)) (zY rfl (aa (am ?_)))))))))))
  exact z1 results138 rfl (rb (by first | rfl | (rw [Bool.eq_iff_iff]; simp)))
theorem x7 (x : ba) (c : ba) : Ct prog 140 [.tv bx x, .eptr bx c] (.raw (.bool (decide (x.1 = c.1)))) := by
  refine ay func140 rfl rfl ntmps140 rfl rfl ?_
  intro w0 ok0
  refine zR (zb (.tv (.b rfl)) (zY rfl (aa (zR (zF lX rfl (zL ty9 rfl rfl rfl lp (zB lX lp rfl (zD ty9 rfl (zJ (dW uT9 (.b rfl) (.b rfl)) (zY rfl (aa (am ?_))))))))))))
  exact z1 results140 rfl (rb (by first | rfl | (rw [Bool.eq_iff_iff]; simp)))
theorem x8 (x : cf) (c : cf) : Ct prog 184 [.tv cq x, .eptr cq c] (.raw (.bool (decide (x.1 = c.1)))) := by
  refine ay func184 rfl rfl ntmps184 rfl rfl ?_
  intro w0 ok0
  refine zR (zb (.tv (.b rfl)) (zY rfl (aa (zR (zF nC rfl (zL ty9 rfl rfl rfl kD (zB nC kD rfl (zD ty9 rfl (zJ (dW uT9 (.b rfl) (.b rfl)) (zY rfl (aa (am ?_))))))))))))
  exact z1 results184 rfl (rb (by first | rfl | (rw [Bool.eq_iff_iff]; simp)))
theorem Bl (x : bB) (c : bB) : Ct prog 187 [.tv cZ x, .eptr cZ c] (.raw (.bool (decide (x.1 = c.1)))) := by
  refine ay func187 rfl rfl ntmps187 rfl rfl ?_
  intro w0 ok0
  refine zR (zb (.tv (.b rfl)) (zY rfl (aa (zR (zF nN rfl (zL ty9 rfl rfl rfl lT (zB nN lT rfl (zD ty9 rfl (zJ (dW uT9 (.b rfl) (.b rfl)) (zY rfl (aa (am ?_))))))))))))
  exact z1 results187 rfl (rb (by first | rfl | (rw [Bool.eq_iff_iff]; simp)))
def Cl (l : List bV) (nm : List UInt8) : Bool := l.any (fun x => decide (x.1 = nm))
def hasT (l : List cy) (nm : List UInt8) : Bool := l.any (fun x => decide (x.1 = nm))
theorem sh (l : List bV) (nm : List UInt8) : Ct prog 96 [.tv (ab cX) l, .raw (fZ nm)] (.raw (.bool (Cl l nm))) := by
  refine ay func96 rfl rfl ntmps96 rfl rfl ?_
  intro w0 ok0
  refine zR (zJ (kv (rt := dG) (.raw (.b rfl) rfl)) (zY rfl (aa (zR (zM rfl (zJ (ie (A := cX) (B := bP) (aS := [.eptr dG nm]) (φ := fun _ => True) (fun x => decide (x.1 = nm)) (bJ func136 rfl zk) (fun x _ => Bm x nm) (.cons (.b rfl) .nil) rfl) (zJ (an (xD _ _) (.cons (.b rfl) (.cons (.b rfl) .nil)) rfl rfl) (zY rfl (aa (am ?_))))))))))
  exact z1 results96 rfl (rfl)
theorem wu (l : List cy) (nm : List UInt8) : Ct prog 97 [.tv (ab ch) l, .raw (fZ nm)] (.raw (.bool (hasT l nm))) := by
  refine ay func97 rfl rfl ntmps97 rfl rfl ?_
  intro w0 ok0
  refine zR (zJ (kv (rt := dG) (.raw (.b rfl) rfl)) (zY rfl (aa (zR (zM rfl (zJ (ie (A := ch) (B := bP) (aS := [.eptr dG nm]) (φ := fun _ => True) (fun x => decide (x.1 = nm)) (bJ func138 rfl zk) (fun x _ => x6 x nm) (.cons (.b rfl) .nil) rfl) (zJ (an (xC _ _) (.cons (.b rfl) (.cons (.b rfl) .nil)) rfl rfl) (zY rfl (aa (am ?_))))))))))
  exact z1 results97 rfl (rfl)
def AG (l : List cf) (nm : List UInt8) : Bool := l.any (fun x => decide (x.1 = nm))
def oG (en : List bV) (f : cf) (a b : List cf) : Int := if (!sa f.1) = true then 2 else if (AG a f.1 || AG b f.1) = true then 7 else if (!au f.2 en) = true then 8 else 0
theorem chkF_0 {en : List bV} {f : cf} {a b : List cf} (h : oG en f a b = 0) : au f.2 en = true := by
  unfold oG at h
  split at h
  · cases h
  split at h
  · cases h
  split at h
  · cases h
  rename_i c; simpa using c
theorem wM (l : cA) (f : cf) (a b : List cf) (hl : f.1.length ≤ 80) : Ct prog 141 [.tv cz l, .tv cq f, .tv (ab cq) a, .tv (ab cq) b] (.raw (.int .i64 (oG l.1 f a b))) := by
  refine ay func141 rfl rfl ntmps141 rfl rfl ?_
  intro w0 ok0
  refine zR (zb (.tv (.b rfl)) (zJ (kv (rt := cq) (.tv (.b rfl))) (zY rfl (aa (zR (zJ (ie (A := cq) (B := bP) (aS := [.eptr cq f]) (φ := fun _ => True) (fun x => decide (x.1 = f.1)) (bJ func184 rfl zk) (fun x _ => x8 x f) (.cons (.b rfl) .nil) rfl) (zY rfl (aa (ae (aq (zR (zB nC kD rfl (zD ty9 rfl (zJ (an (rm _ zo) (.cons (.b rfl) .nil) rfl rfl) (zJ (b6 (.b rfl)) (zY rfl (aa ?_)))))))))))))))))
  refine af rfl (fun h2 => ?_) (fun h2 => ?_)
  · skip
    refine zR (zY rfl (aa (am (av (ai ?_)))))
    exact z1 results141 rfl (ri (by unfold oG; rw [if_pos h2]))
  skip
  refine zR (zM rfl (zM rfl (zJ (an (rn _ _) (.cons (.b rfl) (.cons (.b rfl) .nil)) rfl rfl) (zM rfl (zG rfl rfl (fun hg => ag (.b rfl)) (zG rfl rfl (fun hg => ag (.b rfl)) (zG rfl rfl (fun hg => an (rn _ _) (.cons (.gd rfl hg) (.cons (.gd rfl hg) .nil)) rfl rfl) (zJ (aB (.b rfl) (.b rfl) rfl zp) (zY rfl (aa ?_))))))))))
  refine af rfl (fun h4 => ?_) (fun h4 => ?_)
  · skip
    refine zR (zY rfl (aa (am (av (ai ?_)))))
    exact z1 results141 rfl (ri (by unfold oG AG; rw [if_neg (by rw [h2]; decide), if_pos h4]))
  skip
  refine zR (zB gq fN rfl (zD aE rfl (zF es rfl (zL hU rfl rfl rfl fy (zJ (an (db _ _) (.cons (.b rfl) (.cons (.b rfl) .nil)) rfl rfl) (zJ (b6 (.b rfl)) (zY rfl (aa ?_))))))))
  refine af rfl (fun h6 => ?_) (fun h6 => ?_)
  · skip
    refine zR (zY rfl (aa (am (av (ai ?_)))))
    exact z1 results141 rfl (ri (by unfold oG AG; rw [if_neg (by rw [h2]; decide), if_neg (by rw [h4]; decide), if_pos h6]))
  skip
  refine ah (aG (aa (zR (zY rfl (aa (am ?_))))))
  exact z1 results141 rfl (ri (by unfold oG AG; rw [if_neg (by rw [h2]; decide), if_neg (by rw [h4]; decide), if_neg (by rw [h6]; decide)]))
def sI (e : List aP) (sg : a6) (t : bE) : Int := if ((dR e sg).2.2 != 0) = true then (dR e sg).2.2 else if ((dR e sg).1 != t) = true then 8 else 0
theorem sH (e : List aP) (sg : a6) (t : bE) (hn : ∀ d ∈ e, d.2 ≤ 9223372036854775807) : Ct prog 189 [.tv (ab bX) e, .tv bS sg, .tv aX t] (.raw (.int .i64 (sI e sg t))) := by
  refine ay func189 rfl rfl ntmps189 rfl rfl ?_
  intro w0 ok0
  refine zR (zb (.tv (.b rfl)) (zb (.tv (.b rfl)) (zY rfl (aa (zR (zM rfl (zL eV rfl rfl rfl (Lens.id _) (zJ (an (qS _ _ hn) (.cons (.b rfl) (.cons (.b rfl) .nil)) rfl rfl) (zM rfl (zJ (d7 (.b rfl)) (zJ (d6 (.b rfl)) (zJ (d5 (.b rfl)) (zl z90 (zC aE rfl rfl rfl (Lens.id _) (.tv (.b rfl)) (zA rfl (zY rfl (aa (ae (zR (zM rfl (zJ (bQ (.b rfl) (.b rfl)) (zZ ?_))))))))))))))))))))))
  refine af rfl (fun h2 => ?_) (fun h2 => ?_)
  · skip
    refine zR (zM rfl (zY rfl (aa (am (ai ?_)))))
    exact z1 results189 rfl (ri (by unfold sI; rw [if_pos h2]))
  skip
  refine ah (aa (ae (zR (zL aE rfl rfl rfl (Lens.id _) (zL aE rfl rfl rfl (Lens.id _) (zJ (mO oD rfl rfl oE (.tv (.b rfl)) (.tv (.b rfl))) (zZ ?_)))))))
  refine af rfl (fun h4 => ?_) (fun h4 => ?_)
  · skip
    refine zR (zY rfl (aa (am (ai ?_))))
    exact z1 results189 rfl (ri (by unfold sI; rw [if_neg (by rw [h2]; decide), if_pos h4]))
  skip
  refine ah (aa (zR (zY rfl (aa (am ?_)))))
  exact z1 results189 rfl (ri (by unfold sI; rw [if_neg (by rw [h2]; decide), if_neg (by rw [h4]; decide)]))
end Go.Proofs.YtehcaebnijlhgaaGreatDoor
namespace Go.Proofs.YtehcaebnijlhgaaGreatDoor.C05
open Go.Eng
set_option maxRecDepth 100000
set_option maxHeartbeats 1000000
abbrev Rg := Int × Int
def kn (r : Rg) : Bool := decide (0 ≤ r.1) && decide (r.1 ≤ r.2) && decide (r.2 ≤ 109573)
def si (r : Rg) : Bool := kn r && decide (r.1 < r.2)
def wJ (r : Rg) (d : Int) : Bool := kn r && decide (r.1 ≤ d) && decide (d < r.2)
def qg (a b : Rg) : Rg × Bool :=
  if si a = false ∨ si b = false then ((0, 0), false) else if (if b.2 < a.2 then b.2 else a.2) ≤ (if a.1 < b.1 then b.1 else a.1) then ((0, 0), false)
  else ((if a.1 < b.1 then b.1 else a.1, if b.2 < a.2 then b.2 else a.2), true)
end Go.Proofs.YtehcaebnijlhgaaGreatDoor.C05
namespace Go.Eng
theorem qX : ∀ {a b : List Int}, a.Pairwise (· < ·) → b.Pairwise (· < ·) → (∀ x, x ∈ a ↔ x ∈ b) → a = b
  | [], [], _, _, _ => rfl
  | [], y :: b, _, _, h => by have := (h y).2 (by simp); simp at this
  | x :: a, [], _, _, h => by have := (h x).1 (by simp); simp at this
  | x :: a, y :: b, ha, hb, h => by
    rw [List.pairwise_cons] at ha hb
    have hxy : x = y := by
      have h1 := (h x).1 (by simp)
      have h2 := (h y).2 (by simp)
      rcases List.mem_cons.1 h1 with h1 | h1
      · exact h1
      rcases List.mem_cons.1 h2 with h2 | h2
      · exact h2.symm
      have := ha.1 y h2; have := hb.1 x h1; omega
    subst hxy
    rw [qX ha.2 hb.2 fun z => ⟨fun hz => ?_, fun hz => ?_⟩]
    · rcases List.mem_cons.1 ((h z).1 (List.mem_cons_of_mem _ hz)) with e | e
      · subst e; exact absurd (ha.1 z hz) (by omega)
      exact e
    rcases List.mem_cons.1 ((h z).2 (List.mem_cons_of_mem _ hz)) with e | e
    · subst e; exact absurd (hb.1 z hz) (by omega)
    exact e
def cj (l : List Int) : List Int := Lib.compact (l.mergeSort fun x y => decide (x ≤ y))
theorem jf {d : Array Int} (hs : d.toList.Pairwise (· ≤ ·)) : ∀ m, m ≤ d.size → (Lib.compactUpTo d m).Pairwise (· < ·) ∧ ∀ x, x ∈ Lib.compactUpTo d m ↔ ∃ j, ∃ h : j < d.size, j < m ∧ d[j] = x
  | 0, _ => by simp [Lib.compactUpTo]
  | m + 1, hm => by
    obtain ⟨h1, h2⟩ := jf hs m (by omega)
    have hle : ∀ i j, ∀ (hi : i < d.size) (hj : j < d.size), i ≤ j → d[i] ≤ d[j] := fun i j hi hj hij => by
      rcases Nat.lt_or_ge i j with h | h
      · have := List.pairwise_iff_getElem.1 hs i j (by simpa using hi) (by simpa using hj) h; simpa using this
      have : i = j := by omega
      subst this; exact Int.le_refl _
    rw [Lib.compactUpTo_succ]
    have gm : d[m]! = d[m] := getElem!_pos d m (by omega)
    by_cases hk : Lib.keeps d m = true
    · rw [if_pos hk, gm]
      refine ⟨List.pairwise_append.2 ⟨h1, by simp, fun a ha b hb => ?_⟩, fun x => ?_⟩
      · obtain rfl := List.mem_singleton.1 hb
        obtain ⟨j, hj, hjm, rfl⟩ := (h2 a).1 ha
        simp only [Lib.keeps, decide_eq_true_eq] at hk
        rcases hk with hk | hk
        · omega
        rw [gm, getElem!_pos d (m - 1) (by omega)] at hk
        have a1 := hle j (m - 1) hj (by omega) (by omega)
        have a2 := hle (m - 1) m (by omega) (by omega) (by omega)
        omega
      rw [List.mem_append, h2, List.mem_singleton]
      constructor
      · rintro (⟨j, hj, hjm, e⟩ | e)
        · exact ⟨j, hj, by omega, e⟩
        exact ⟨m, by omega, by omega, e.symm⟩
      rintro ⟨j, hj, hjm, e⟩
      by_cases hjm' : j = m
      · subst hjm'; exact .inr e.symm
      exact .inl ⟨j, hj, by omega, e⟩
    rw [if_neg hk, List.append_nil]
    refine ⟨h1, fun x => ?_⟩
    rw [h2]
    simp only [Lib.keeps, decide_eq_true_eq, not_or, ne_eq, Classical.not_not] at hk
    constructor
    · rintro ⟨j, hj, hjm, e⟩; exact ⟨j, hj, by omega, e⟩
    rintro ⟨j, hj, hjm, e⟩
    by_cases hjm' : j = m
    · subst hjm'
      refine ⟨j - 1, by omega, by omega, ?_⟩
      have := hk.2
      rw [gm, getElem!_pos d (j - 1) (by omega)] at this
      rw [← this]; exact e
    exact ⟨j, hj, by omega, e⟩
theorem wY (l : List Int) : (l.mergeSort fun x y => decide (x ≤ y)).Pairwise (· ≤ ·) := by
  have := List.pairwise_mergeSort (le := fun x y : Int => decide (x ≤ y)) (fun a b c h1 h2 => by simp at h1 h2 ⊢; omega) (fun a b => by simp; omega) l
  exact this.imp (fun h => by simpa using h)
theorem eu (l : List Int) : (cj l).Pairwise (· < ·) ∧ ∀ x, x ∈ cj l ↔ x ∈ l := by
  have hs := wY l
  obtain ⟨h1, h2⟩ := jf (d := (l.mergeSort fun x y => decide (x ≤ y)).toArray) (by simpa using hs) _ (Nat.le_refl _)
  have e : cj l = Lib.compactUpTo (l.mergeSort fun x y => decide (x ≤ y)).toArray (l.mergeSort fun x y => decide (x ≤ y)).toArray.size := by simp [cj, Lib.compact]
  rw [e]
  refine ⟨h1, fun x => ?_⟩
  rw [h2, ← List.mem_mergeSort (le := fun x y => decide (x ≤ y)), List.mem_iff_getElem]
  constructor
  · rintro ⟨j, hj, _, e⟩; exact ⟨j, by simpa using hj, by simpa using e⟩
  rintro ⟨j, hj, e⟩; exact ⟨j, by simpa using hj, by simpa using hj, by simpa using e⟩
theorem yh {l m : List Int} (h1 : m.Pairwise (· < ·)) (h2 : ∀ x, x ∈ m ↔ x ∈ l) : cj l = m :=
  qX (eu l).1 h1 (fun x => by rw [(eu l).2, h2])
def sd (x : Int) : List Int → List Int
  | [] => [x]
  | y :: r => if x < y then x :: y :: r else if x = y then y :: r else y :: sd x r
theorem qh (x : Int) : ∀ (l : List Int) (z : Int), z ∈ sd x l ↔ z = x ∨ z ∈ l
  | [], z => by simp [sd]
  | y :: r, z => by
    unfold sd; split
    · simp
    split
    · rename_i h1 h2; subst h2; simp
    simp only [List.mem_cons, qh x r z]; constructor <;> (rintro (h | h | h) <;> simp [h])
theorem oO (x : Int) : ∀ (l : List Int), l.Pairwise (· < ·) → (sd x l).Pairwise (· < ·)
  | [], _ => by simp [sd]
  | y :: r, h => by
    rw [List.pairwise_cons] at h
    unfold sd; split
    · rename_i h1
      refine List.pairwise_cons.2 ⟨fun z hz => ?_, List.pairwise_cons.2 h⟩
      rcases List.mem_cons.1 hz with e | e
      · omega
      have := h.1 z e; omega
    split
    · exact List.pairwise_cons.2 h
    refine List.pairwise_cons.2 ⟨fun z hz => ?_, oO x r h.2⟩
    rcases (qh x r z).1 hz with e | e
    · omega
    exact h.1 z e
def qR (l : List Int) : List Int := l.foldr sd []
theorem pH : ∀ (l : List Int), (qR l).Pairwise (· < ·) ∧ ∀ z, z ∈ qR l ↔ z ∈ l
  | [] => by simp [qR]
  | x :: r => by
    obtain ⟨h1, h2⟩ := pH r
    exact ⟨oO x _ h1, fun z => by rw [show qR (x :: r) = sd x (qR r) from rfl, qh, h2]; simp⟩
theorem vy (l : List Int) : cj l = qR l := yh (pH l).1 (pH l).2
theorem dI (l : List Int) : (cj l).length ≤ l.length := by
  have := Lib.compact_length_le (l.mergeSort fun x y => decide (x ≤ y))
  rw [List.length_mergeSort] at this; exact this
end Go.Eng
namespace Go.Proofs.YtehcaebnijlhgaaGreatDoor.C05
open Go.Eng
set_option maxRecDepth 100000
set_option maxHeartbeats 1000000
end Go.Proofs.YtehcaebnijlhgaaGreatDoor.C05
namespace Go.Proofs.YtehcaebnijlhgaaGreatDoor.C15
open Go.Eng
open Go.Proofs.YtehcaebnijlhgaaGreatDoor.C05
set_option maxRecDepth 100000
set_option maxHeartbeats 1000000
def eC (f : bB → Bool) (l : List bB) (i : Nat) : Bool := match l[i]? with | some r => f r | none => false
def vQ (l : List bB) (i : Nat) : Int := match l[i]? with | some r => r.2.2.1 | none => 0
def eY (f : bB → Bool) (l : List bB) (k : Nat) : List Nat := (List.range k).filter (eC f l)
def ik (f : bB → Bool) (l : List bB) (k : Nat) : List Int := (eY f l k).map (fun i : Nat => (i : Int))
def CS (near : List Int) (k : Nat) (p : Int) : Int := if 0 ≤ p ∧ p < k then near.getD p.toNat 0 else -1
def i8 (f : bB → Bool) (l : List bB) : Nat → List Int
  | 0 => []
  | k + 1 => i8 f l k ++ [if eC f l k = true then ((eY f l k).length : Int) else CS (i8 f l k) k (vQ l k)]
def anc (f : bB → Bool) (l : List bB) (k : Nat) : Int := CS (i8 f l k) k (vQ l k)
def kX (f : bB → Bool) (l : List bB) (k : Nat) : List Int := (eY f l k).map (anc f l)
theorem uZ {f : bB → Bool} {l : List bB} {i : Nat} (h : i < l.length) : eC f l i = f l[i] := by simp [eC, h]
theorem w9 {l : List bB} {i : Nat} (h : i < l.length) : vQ l i = l[i].2.2.1 := by simp [vQ, h]
theorem iP {f : bB → Bool} {l : List bB} {i : Nat} (h : eC f l i = true) : i < l.length := by
  unfold eC at h; split at h
  · rename_i e; exact (List.getElem?_eq_some_iff.1 e).1
  cases h
theorem lV (f : bB → Bool) (l : List bB) (k : Nat) : eY f l (k + 1) = eY f l k ++ if eC f l k = true then [k] else [] := by
  unfold eY; rw [List.range_succ, List.filter_append]; by_cases h : eC f l k = true <;> simp [h]
theorem ja (f : bB → Bool) (l : List bB) (k : Nat) : (eY f l k).length ≤ k := by
  unfold eY; have := List.length_filter_le (eC f l) (List.range k); simpa using this
theorem j5 {f : bB → Bool} {l : List bB} {k i : Nat} : i ∈ eY f l k ↔ i < k ∧ eC f l i = true := by simp [eY]
theorem qj (f : bB → Bool) (l : List bB) (k : Nat) : (ik f l k).length = (eY f l k).length := by simp [ik]
theorem tz (f : bB → Bool) (l : List bB) (k : Nat) : (kX f l k).length = (eY f l k).length := by simp [kX]
theorem rd (f : bB → Bool) (l : List bB) : ∀ k, (i8 f l k).length = k
  | 0 => rfl
  | k + 1 => by rw [i8, List.length_append, rd f l k]; rfl
theorem AA {f : bB → Bool} {l : List bB} {k : Nat} (h : eC f l k = true) : ik f l (k + 1) = ik f l k ++ [(k : Int)] := by
  unfold ik; rw [lV, if_pos h, List.map_append]; rfl
theorem AB {f : bB → Bool} {l : List bB} {k : Nat} (h : ¬ eC f l k = true) : ik f l (k + 1) = ik f l k := by
  unfold ik; rw [lV, if_neg h, List.append_nil]
theorem yU {f : bB → Bool} {l : List bB} {k : Nat} (h : eC f l k = true) : kX f l (k + 1) = kX f l k ++ [anc f l k] := by
  unfold kX; rw [lV, if_pos h, List.map_append]; rfl
theorem yV {f : bB → Bool} {l : List bB} {k : Nat} (h : ¬ eC f l k = true) : kX f l (k + 1) = kX f l k := by
  unfold kX; rw [lV, if_neg h, List.append_nil]
theorem vR {f : bB → Bool} {l : List bB} {k : Nat} (h : eC f l k = true) : i8 f l (k + 1) = i8 f l k ++ [((eY f l k).length : Int)] := by rw [i8, if_pos h]
theorem vS {f : bB → Bool} {l : List bB} {k : Nat} (h : ¬ eC f l k = true) : i8 f l (k + 1) = i8 f l k ++ [anc f l k] := by rw [i8, if_neg h]; rfl
def qM (near : List Int) (n : Nat) : List Int := near ++ List.replicate (n - near.length) 0
theorem y8 {near : List Int} {n : Nat} (h : near.length ≤ n) : (qM near n).length = n := by simp [qM]; omega
theorem ln {near : List Int} {n k : Nat} {x : Int} (hk : near.length = k) (h : k < n) : (qM near n).set (0 + k) x = qM (near ++ [x]) n := by
  unfold qM
  obtain ⟨d, hd⟩ : ∃ d, n - near.length = d + 1 := ⟨n - near.length - 1, by omega⟩
  rw [Nat.zero_add, List.set_append_right _ _ zo, hd, show k - near.length = 0 by omega]
  rw [List.replicate_succ, List.set_cons_zero, List.length_append, List.append_assoc, show n - (near.length + [x].length) = d by simp; omega]; rfl
theorem lO {near : List Int} {n k : Nat} {x y : Int} (hk : near.length = k) (h : k < n) : ((qM near n).set (0 + k) x).set (0 + k) y = qM (near ++ [y]) n := by
  rw [List.set_set, ln hk h]
theorem y9 {near : List Int} {n k : Nat} (h : k < near.length) : (qM near n)[0 + k]? = some (near.getD k 0) := by
  unfold qM; rw [Nat.zero_add, List.getElem?_append_left h, List.getD_eq_getElem?_getD, List.getElem?_eq_getElem h]; rfl
def fD (d date : Int) (r : bB) : Bool := decide (r.2.1 = d) && wJ r.2.2.2.2.1 date
def uI (f : bB → Bool) (l : List bB) (k : Nat) : List Int := (eY f l k).map (fun i => match l[i]? with | some r => r.2.2.2.1 | none => 0)
end Go.Proofs.YtehcaebnijlhgaaGreatDoor.C15
namespace Go.Proofs.YtehcaebnijlhgaaGreatDoor.C15
open Go.Eng Tryz
open Go.Proofs.YtehcaebnijlhgaaGreatDoor.C05
set_option maxRecDepth 100000
set_option maxHeartbeats 4000000
theorem l5 (r : Rg) : Ct prog 121 [.tv co r] (.raw (.bool (kn r))) := by
  refine ay func121 rfl rfl ntmps121 rfl rfl ?_
  intro w0 ok0
  refine zR (zb (.tv (.b rfl)) (zY rfl (aa (zR (zF fI rfl (zL ty3 rfl rfl rfl fQ (zJ (ew (.b rfl) (.b rfl)) (zM rfl (zG rfl rfl (fun hg => ao fI (.b rfl)) (zG rfl rfl (fun hg => aj ty3 (.gd rfl hg) rfl rfl fQ) (zG rfl rfl (fun hg => ao fH (.b rfl)) (zG rfl rfl (fun hg => aj ty3 (.gd rfl hg) rfl rfl fP) (zG rfl rfl (fun hg => ew (.gd rfl hg) (.gd rfl hg)) (zJ (aF (.b rfl) (.b rfl) rfl zp) (zM rfl (zG rfl rfl (fun hg => ao fH (.b rfl)) (zG rfl rfl (fun hg => aj ty3 (.gd rfl hg) rfl rfl fP) (zG rfl rfl (fun hg => ew (.gd rfl hg) (.b rfl)) (zJ (aF (.b rfl) (.b rfl) rfl zp) (zY rfl (aa (am ?_))))))))))))))))))))))
  exact z1 results121 rfl (rb (by first | rfl | (simp [kn]; done) | (rw [Bool.eq_iff_iff]; simp [kn]; omega)))
theorem uo (r : Rg) (d : Int) : Ct prog 81 [.tv co r, .raw (.int .i64 d)] (.raw (.bool (wJ r d))) := by
  refine ay func81 rfl rfl ntmps81 rfl rfl ?_
  intro w0 ok0
  refine zR (zb (.tv (.b rfl)) (zY rfl (aa (zR (zL ji rfl rfl rfl (Lens.id _) (zJ (an (l5 _) (.cons (.b rfl) .nil) rfl rfl) (zM rfl (zG rfl rfl (fun hg => ao fI (.b rfl)) (zG rfl rfl (fun hg => aj ty3 (.gd rfl hg) rfl rfl fQ) (zG rfl rfl (fun hg => ag (.b rfl)) (zG rfl rfl (fun hg => ew (.gd rfl hg) (.gd rfl hg)) (zJ (aF (.b rfl) (.b rfl) rfl zp) (zM rfl (zG rfl rfl (fun hg => ag (.b rfl)) (zG rfl rfl (fun hg => ao fH (.b rfl)) (zG rfl rfl (fun hg => aj ty3 (.gd rfl hg) rfl rfl fP) (zG rfl rfl (fun hg => dS (.gd rfl hg) (.gd rfl hg)) (zJ (aF (.b rfl) (.b rfl) rfl zp) (zY rfl (aa (am ?_)))))))))))))))))))))
  exact z1 results81 rfl (rb (by first | rfl | (simp [wJ]; done) | (rw [Bool.eq_iff_iff]; simp [wJ]; omega)))
theorem dl {P : Program} {cx : Cx} {st : St} {α : Type} {rt : RT α} {t : Nat} (h : a8 st.slots t = some (.raw (.slice none 0 0))) : Res P cx st (.tmp t) (.tv (ab rt) []) := fun β a w hi => by
  obtain ⟨v, h1, h2⟩ := aw h β a w hi
  have h2 : v = .slice none 0 0 := h2
  subst h2
  exact ⟨_, h1, kz⟩
theorem xZ (l : List (List UInt8)) (hlm : l.length ≤ 1000000) : Ct prog 111 [.tv (ab dG) l] (.tv (ab dG) l) := by
  refine ay func111 rfl rfl ntmps111 rfl rfl ?_
  intro w0 ok0
  refine zR (zY rfl (aa (ae (zR (zM rfl ?_)))))
  refine Ab 3 rfl (fun A cap hA => ?_)
  refine zJ (ra iD (.b rfl) (.b rfl)) (zZ ?_)
  refine af rfl (fun h1 => ?_) (fun h1 => ?_)
  · have hl : l = [] := hA (Option.isNone_iff_eq_none.1 h1)
    refine zR (zY rfl (aa (am (ai ?_))))
    exact cv results111 (dl rfl) rfl (by rw [hl])
  skip
  refine ah (aa (zR (zO (gI (rt := dG) (ds := []) iD ty9 z9 rfl .nil rfl rfl rfl rfl rfl) (zM rfl (zV [] iD ty9 z9 by9 rfl rfl (.tv (.b rfl)) ?_)))))
  refine zY rfl (aa (am ?_))
  refine cY (rt := dG) 5 2 (b8 5 _) rfl rfl (by simp) (bl 5 _) (bC 5 _) ?_
  exact z1 results111 rfl (congrArg (SV.tv (ab dG)) (by simp))
theorem w6 (x : bB) (d date : Int) : Ct prog 88 [.tv cZ x, .eptr (ak .i64) d, .eptr (ak .i64) date] (.raw (.bool (fD d date x))) := by
  refine ay func88 rfl rfl ntmps88 rfl rfl ?_
  intro w0 ok0
  refine zR (zb (.tv (.b rfl)) (zY rfl (aa (zR (zF ec rfl (zL ty3 rfl rfl rfl eK (zD ty3 rfl (ze rfl rfl (zM rfl (zG rfl rfl (fun hg => ao kd (.b rfl)) (zG rfl rfl (fun hg => aj ji (.gd rfl hg) rfl rfl jw) (zG rfl rfl (fun hg => aA ty3 (.b rfl)) (zG rfl rfl (fun hg => an (uo _ _) (.cons (.gd rfl hg) (.cons (.gd rfl hg) .nil)) rfl rfl) (zJ (aF (.b rfl) (.b rfl) rfl zp) (zY rfl (aa (am ?_)))))))))))))))))
  exact z1 results88 rfl (rb (by first | rfl | (unfold fD; rfl) | (simp [fD]; done)))
theorem yn (x : bB) (d date : Int) : Ct prog 80 [.tv cZ x, .eptr (ak .i64) d, .eptr (ak .i64) date] (.raw (.bool (fD d date x))) := by
  refine ay func80 rfl rfl ntmps80 rfl rfl ?_
  intro w0 ok0
  refine zR (zb (.tv (.b rfl)) (zY rfl (aa (zR (zF ec rfl (zL ty3 rfl rfl rfl eK (zD ty3 rfl (ze rfl rfl (zM rfl (zG rfl rfl (fun hg => ao kd (.b rfl)) (zG rfl rfl (fun hg => aj ji (.gd rfl hg) rfl rfl jw) (zG rfl rfl (fun hg => aA ty3 (.b rfl)) (zG rfl rfl (fun hg => an (uo _ _) (.cons (.gd rfl hg) (.cons (.gd rfl hg) .nil)) rfl rfl) (zJ (aF (.b rfl) (.b rfl) rfl zp) (zY rfl (aa (am ?_)))))))))))))))))
  exact z1 results80 rfl (rb (by first | rfl | (unfold fD; rfl) | (simp [fD]; done)))
theorem mI (l : List bB) (f : bB → Bool) (hlm : l.length ≤ 1000000) : Ct prog 79 [.tv (ab cZ) l, .tv (gC prog cZ bP (fun _ => True)) f] (.tup2 (.tv (ab (ak .i64)) (ik f l l.length)) (.tv (ab (ak .i64)) (kX f l l.length))) := by
  refine ay func79 rfl rfl ntmps79 rfl rfl ?_
  intro w0 ok0
  refine zR (zA rfl (zY rfl (aa (zR (zA rfl (zY rfl (aa (zR (zM rfl (zN ga rfl (zO (dL bd ty3 z3 rfl by3 (.b rfl) (.b rfl) zo (by unfold maxLen; omega) rfl rfl rfl) (zY rfl (aa (ae (zR (zM rfl (zN ga rfl (zM rfl (zZ (aq ?_))))))))))))))))))))
  refine eO 70 6 (ak .i64) rfl rfl rfl ?_
  refine eO 71 7 (ak .i64) rfl rfl rfl ?_
  refine aZ (ι := Nat) (fun k => ⟨[(1, .tv (gC prog cZ bP (fun _ => True)) f), (6, .own 70 (ak .i64).n 0 (ik f l k).length), (7, .own 71 (ak .i64).n 0 (kX f l k).length), (8, .own 14 (ak .i64).n 0 l.length), (15, .tv (ab cZ) l), (16, .raw (.int .i64 (l.length))), (17, .raw (.int .i64 ((k : Nat))))], [(70, ⟨ak .i64, ik f l k⟩), (71, ⟨ak .i64, kX f l k⟩), (14, ⟨ak .i64, (qM (i8 f l k) l.length)⟩)]⟩) (fun k => k ≤ l.length) (fun k => l.length - k) 0 (Nat.zero_le _) (fun a w hi => (zI hi)) ?_
  rintro k hk
  have q1 := qj f l k
  have q2 := tz f l k
  have q3 := ja f l k
  have q4 := rd f l k
  have q5 := y8 (near := i8 f l k) (n := l.length) zo
  refine zR (zt rfl rfl (zZ (ae ?_)))
  refine af rfl (fun h4 => ?_) (fun h4 => ?_)
  · simp at h4
    have hka := uZ (f := f) h4
    have hpa := w9 h4
    refine ah (aa (ae (aq (zR (zM rfl ?_)))))
    refine bc _ rfl _ rfl rfl (al ga dp (.b rfl) (.b rfl) rfl zg) ?_
    refine zD dp rfl (zl pC (zA rfl (zC dp rfl rfl rfl (Lens.id _) (.tv (.b rfl)) (zZ (zR (zY rfl (aa (ae (zR (zF jd rfl (zL ty3 rfl rfl rfl iI (zJ (bW (.b rfl) (.b rfl)) (zM rfl (zG rfl rfl (fun hg => ao jd (.b rfl)) (zG rfl rfl (fun hg => aj ty3 (.gd rfl hg) rfl rfl iI) (zG rfl rfl (fun hg => ag (.b rfl)) (zG rfl rfl (fun hg => dS (.gd rfl hg) (.gd rfl hg)) (zJ (aF (.b rfl) (.b rfl) rfl zp) (zZ ?_)))))))))))))))))))
    refine af rfl (fun h7 => ?_) (fun h7 => ?_)
    · have h7 : 0 ≤ l[k].2.2.1 ∧ l[k].2.2.1 < (k : Int) := by simpa using h7
      have ha : anc f l k = (i8 f l k).getD l[k].2.2.1.toNat 0 := by unfold anc CS; rw [hpa, if_pos h7]
      have hgt := y9 (near := i8 f l k) (n := l.length) (k := l[k].2.2.1.toNat) zo
      refine ac (zM rfl (zF jd rfl (zL ty3 rfl rfl rfl iI (zJ (bu bd ty3 (.b rfl) (.b rfl) (Int.toNat_of_nonneg h7.1).symm zh) (zJ (aj ty3 (.b rfl) rfl hgt (Lens.id _)) (zY rfl (aa (zR (zM rfl (zM rfl (zM rfl (zJ (bu bd ty3 (.b rfl) (.b rfl) rfl zh) ?_))))))))))))
      refine eN _ rfl (bK ty3 (.b rfl) rfl zg (Lens.id _) (.raw (.b rfl) rfl)) ?_
      refine zZ (zR (zM rfl (zL dp rfl rfl rfl (Lens.id _) (zJ (gj (.b rfl) (.tv (.b rfl)) trivial) (zZ ?_)))))
      refine af rfl (fun h10 => ?_) (fun h10 => ?_)
      · have h10 : eC f l k = true := by rw [hka]; exact h10
        have ht1 := AA h10
        have ht2 := yU h10
        have ht3 := vR h10
        rw [ha] at ht2
        rw [← q1] at ht3
        refine zR (zM rfl (zM rfl (zM rfl (zJ (ci bd (.b rfl)) (zJ (bu bd ty3 (.b rfl) (.b rfl) rfl zh) ?_)))))
        refine eN _ rfl (bK ty3 (.b rfl) rfl zg (Lens.id _) (.raw (.b rfl) rfl)) ?_
        refine zZ (zR (zM rfl (zM rfl (zJ (bq (rt := (ak .i64)) bd ty3 z3 rfl (.cons (.raw (.b rfl) rfl) .nil) rfl rfl) (zV [1,7,8,11,15,16,17] bd ty3 z3 by3 rfl rfl (.tv (.b rfl)) ?_)))))
        refine zY rfl (aa (ac (zM rfl (zM rfl (zJ (bq (rt := (ak .i64)) bd ty3 z3 rfl (.cons (.raw (.b rfl) rfl) .nil) rfl rfl) (zV [1,6,8,15,16,17] bd ty3 z3 by3 rfl rfl (.tv (.b rfl)) ?_))))))
        refine zY rfl (aG (aa (ac (zU rfl rfl zw (zM rfl (aN ?_))))))
        first | exact aD (fun a w hi => ⟨k + 1, zo, zo, Sub.inv ⟨(by repeat (first | exact aQ | refine aM rfl (by first | rfl | (refine congrArg (SV.own 70 (ak .i64).n 0) ?_; first | (rw [ht1]; simp; done) | (rw [hf1]; done)) | (refine congrArg (SV.own 71 (ak .i64).n 0) ?_; first | (rw [ht2]; simp; done) | (rw [hf2]; done))) ?_)), (by repeat (first | exact bn | refine aL rfl (by first | rfl | (refine congrArg (HB.mk (ak .i64)) ?_; first | rfl | (rw [ht1]; (try simp only [List.drop_zero, List.take_of_length_le (Nat.le_refl _)]); first | done | rfl | (simp; done); done) | (rw [hf1]; done) | (rw [ht2]; (try simp only [List.drop_zero, List.take_of_length_le (Nat.le_refl _)]); first | done | rfl | (simp; done); done) | (rw [hf2]; done) | (rw [ht3]; exact lO q4 h4; done) | (rw [hf3]; exact ln q4 h4; done))) ?_))⟩ hi⟩)
      have h10 : ¬ eC f l k = true := by rw [hka, h10]; simp
      have hf1 := AB h10
      have hf2 := yV h10
      have hf3 := vS h10
      rw [ha] at hf3
      refine ah (aG (aa (ac (zU rfl rfl zw (zM rfl (zQ [1,6,7,8,15,16,17] [14,70,71] ?_))))))
      first | exact aD (fun a w hi => ⟨k + 1, zo, zo, Sub.inv ⟨(by repeat (first | exact aQ | refine aM rfl (by first | rfl | (refine congrArg (SV.own 70 (ak .i64).n 0) ?_; first | (rw [ht1]; simp; done) | (rw [hf1]; done)) | (refine congrArg (SV.own 71 (ak .i64).n 0) ?_; first | (rw [ht2]; simp; done) | (rw [hf2]; done))) ?_)), (by repeat (first | exact bn | refine aL rfl (by first | rfl | (refine congrArg (HB.mk (ak .i64)) ?_; first | rfl | (rw [ht1]; (try simp only [List.drop_zero, List.take_of_length_le (Nat.le_refl _)]); first | done | rfl | (simp; done); done) | (rw [hf1]; done) | (rw [ht2]; (try simp only [List.drop_zero, List.take_of_length_le (Nat.le_refl _)]); first | done | rfl | (simp; done); done) | (rw [hf2]; done) | (rw [ht3]; exact lO q4 h4; done) | (rw [hf3]; exact ln q4 h4; done))) ?_))⟩ hi⟩)
    have h7 : ¬ (0 ≤ l[k].2.2.1 ∧ l[k].2.2.1 < (k : Int)) := by intro q; simp [q.1] at h7; omega
    have ha : anc f l k = -1 := by unfold anc CS; rw [hpa, if_neg h7]
    refine ah (aa (zR (zM rfl (zM rfl (zM rfl (zJ (bu bd ty3 (.b rfl) (.b rfl) rfl zh) ?_))))))
    refine eN _ rfl (bK ty3 (.b rfl) rfl zg (Lens.id _) (.raw (.b rfl) rfl)) ?_
    refine zZ (zR (zM rfl (zL dp rfl rfl rfl (Lens.id _) (zJ (gj (.b rfl) (.tv (.b rfl)) trivial) (zZ ?_)))))
    refine af rfl (fun h10 => ?_) (fun h10 => ?_)
    · have h10 : eC f l k = true := by rw [hka]; exact h10
      have ht1 := AA h10
      have ht2 := yU h10
      have ht3 := vR h10
      rw [ha] at ht2
      rw [← q1] at ht3
      refine zR (zM rfl (zM rfl (zM rfl (zJ (ci bd (.b rfl)) (zJ (bu bd ty3 (.b rfl) (.b rfl) rfl zh) ?_)))))
      refine eN _ rfl (bK ty3 (.b rfl) rfl zg (Lens.id _) (.raw (.b rfl) rfl)) ?_
      refine zZ (zR (zM rfl (zM rfl (zJ (bq (rt := (ak .i64)) bd ty3 z3 rfl (.cons (.raw (.b rfl) rfl) .nil) rfl rfl) (zV [1,7,8,11,15,16,17] bd ty3 z3 by3 rfl rfl (.tv (.b rfl)) ?_)))))
      refine zY rfl (aa (ac (zM rfl (zM rfl (zJ (bq (rt := (ak .i64)) bd ty3 z3 rfl (.cons (.raw (.b rfl) rfl) .nil) rfl rfl) (zV [1,6,8,15,16,17] bd ty3 z3 by3 rfl rfl (.tv (.b rfl)) ?_))))))
      refine zY rfl (aG (aa (ac (zU rfl rfl zw (zM rfl (aN ?_))))))
      first | exact aD (fun a w hi => ⟨k + 1, zo, zo, Sub.inv ⟨(by repeat (first | exact aQ | refine aM rfl (by first | rfl | (refine congrArg (SV.own 70 (ak .i64).n 0) ?_; first | (rw [ht1]; simp; done) | (rw [hf1]; done)) | (refine congrArg (SV.own 71 (ak .i64).n 0) ?_; first | (rw [ht2]; simp; done) | (rw [hf2]; done))) ?_)), (by repeat (first | exact bn | refine aL rfl (by first | rfl | (refine congrArg (HB.mk (ak .i64)) ?_; first | rfl | (rw [ht1]; (try simp only [List.drop_zero, List.take_of_length_le (Nat.le_refl _)]); first | done | rfl | (simp; done); done) | (rw [hf1]; done) | (rw [ht2]; (try simp only [List.drop_zero, List.take_of_length_le (Nat.le_refl _)]); first | done | rfl | (simp; done); done) | (rw [hf2]; done) | (rw [ht3]; exact lO q4 h4; done) | (rw [hf3]; exact ln q4 h4; done))) ?_))⟩ hi⟩)
    have h10 : ¬ eC f l k = true := by rw [hka, h10]; simp
    have hf1 := AB h10
    have hf2 := yV h10
    have hf3 := vS h10
    rw [ha] at hf3
    refine ah (aG (aa (ac (zU rfl rfl zw (zM rfl (aN ?_))))))
    first | exact aD (fun a w hi => ⟨k + 1, zo, zo, Sub.inv ⟨(by repeat (first | exact aQ | refine aM rfl (by first | rfl | (refine congrArg (SV.own 70 (ak .i64).n 0) ?_; first | (rw [ht1]; simp; done) | (rw [hf1]; done)) | (refine congrArg (SV.own 71 (ak .i64).n 0) ?_; first | (rw [ht2]; simp; done) | (rw [hf2]; done))) ?_)), (by repeat (first | exact bn | refine aL rfl (by first | rfl | (refine congrArg (HB.mk (ak .i64)) ?_; first | rfl | (rw [ht1]; (try simp only [List.drop_zero, List.take_of_length_le (Nat.le_refl _)]); first | done | rfl | (simp; done); done) | (rw [hf1]; done) | (rw [ht2]; (try simp only [List.drop_zero, List.take_of_length_le (Nat.le_refl _)]); first | done | rfl | (simp; done); done) | (rw [hf2]; done) | (rw [ht3]; exact lO q4 h4; done) | (rw [hf3]; exact ln q4 h4; done))) ?_))⟩ hi⟩)
  simp at h4
  refine bg (be (aY (bf (aa (ae ?_)))))
  obtain rfl : k = l.length := by omega
  refine ac (zM rfl (zM rfl (zA rfl (zY rfl (aa (am ?_))))))
  refine cY (rt := ak .i64) 70 4 (b8 70 _) rfl rfl (by simp) (bl 70 _) (bC 70 _) ?_
  refine cY (rt := ak .i64) 71 5 (b8 71 _) rfl rfl (by simp) (bl 71 _) (bC 71 _) ?_
  exact z2 results79 rfl rfl (by simp only [List.drop_zero, List.take_of_length_le (Nat.le_refl _)])
theorem pP (s : ba) (d date : Int) (hlm : s.2.2.2.2.length ≤ 1000000) : Ct prog 44 [.tv bx s, .raw (.int .i64 d), .raw (.int .i64 date)] (.tv (ab (ak .i64)) (ik (fD d date) s.2.2.2.2 s.2.2.2.2.length)) := by
  refine ay func44 rfl rfl ntmps44 rfl rfl ?_
  intro w0 ok0
  refine zR (zb (.tv (.b rfl)) (zJ (kv (rt := ak .i64) (.raw (.b rfl) rfl)) (zJ (kv (rt := ak .i64) (.raw (.b rfl) rfl)) (zY rfl (aa (zR (zF dw rfl (zL jh rfl rfl rfl dT (zJ (ie (A := cZ) (B := bP) (aS := [.eptr (ak .i64) d, .eptr (ak .i64) date]) (φ := fun _ => True) (fD d date) (bJ func88 rfl zk) (fun x _ => w6 x d date) (.cons (.b rfl) (.cons (.b rfl) .nil)) rfl) (zJ (an (mI _ _ zo) (.cons (.b rfl) (.cons (.b rfl) .nil)) rfl rfl) (zM rfl (zJ (bj (.b rfl)) (zJ (bi (.b rfl)) (zA rfl (zY rfl (aa (zR (zM rfl (zY rfl (aa (am ?_)))))))))))))))))))))
  exact z1 results44 rfl (rfl)
def rP (f : bB → Bool) (l : List bB) (n k : Nat) : List Int := ((eY f l n).take k).map (fun i => match l[i]? with | some r => r.2.2.2.1 | none => 0)
theorem w8 {f : bB → Bool} {l : List bB} {n k : Nat} {r : bB} (h : k < (eY f l n).length) (hr : l[(eY f l n)[k]]? = some r) : rP f l n (k + 1) = rP f l n k ++ [r.2.2.2.1] := by
  unfold rP; rw [List.take_succ_eq_append_getElem h, List.map_append]; simp [hr]
theorem yQ {f : bB → Bool} {l : List bB} {n k : Nat} : (rP f l n k).length ≤ k := by unfold rP; simp; omega
theorem priK_n (f : bB → Bool) (l : List bB) (n : Nat) : rP f l n (eY f l n).length = uI f l n := by unfold rP uI; rw [List.take_length] <;> rfl
theorem tU {f : bB → Bool} {l : List bB} {n k : Nat} (h : k < (eY f l n).length) : (ik f l n)[k]? = some (((eY f l n)[k] : Nat) : Int) := by unfold ik; simp [h]
theorem se {f : bB → Bool} {l : List bB} {n k : Nat} (h : k < (eY f l n).length) {h' : k < (ik f l n).length} : (ik f l n)[k]' h' = (((eY f l n)[k] : Nat) : Int) := by
  have := tU h; rw [List.getElem?_eq_getElem h'] at this; injection this
theorem oP {f : bB → Bool} {l : List bB} {n k : Nat} (h : k < (eY f l n).length) : (eY f l n)[k] < l.length := iP (j5.1 (List.getElem_mem h)).2
theorem nY (s : ba) (d date : Int) (hlm : s.2.2.2.2.length ≤ 100000) : Ct prog 29 [.tv bx s, .raw (.int .i64 d), .raw (.int .i64 date)] (.tup3 (.tv (ab (ak .i64)) (ik (fD d date) s.2.2.2.2 s.2.2.2.2.length)) (.tv (ab (ak .i64)) (kX (fD d date) s.2.2.2.2 s.2.2.2.2.length)) (.tv (ab (ak .i64)) (uI (fD d date) s.2.2.2.2 s.2.2.2.2.length))) := by
  refine ay func29 rfl rfl ntmps29 rfl rfl ?_
  intro w0 ok0
  refine zR (zb (.tv (.b rfl)) (zJ (kv (rt := ak .i64) (.raw (.b rfl) rfl)) (zJ (kv (rt := ak .i64) (.raw (.b rfl) rfl)) (zA rfl (zA rfl (zY rfl (aa (zR (zF dw rfl (zL jh rfl rfl rfl dT (zJ (ie (A := cZ) (B := bP) (aS := [.eptr (ak .i64) d, .eptr (ak .i64) date]) (φ := fun _ => True) (fD d date) (bJ func80 rfl zk) (fun x _ => yn x d date) (.cons (.b rfl) (.cons (.b rfl) .nil)) rfl) (zJ (an (mI _ _ zo) (.cons (.b rfl) (.cons (.b rfl) .nil)) rfl rfl) (zM rfl (zJ (bj (.b rfl)) (zJ (bi (.b rfl)) (zA rfl (zY rfl (aa (zR (zY rfl (aa (ae (ae ?_)))))))))))))))))))))))
  have q1 := qj (fD d date) s.2.2.2.2 s.2.2.2.2.length
  have q2 := ja (fD d date) s.2.2.2.2 s.2.2.2.2.length
  refine ac (zM rfl (zN bd rfl (zM rfl (zZ (aq ?_)))))
  refine eO 70 11 (ak .i64) rfl rfl rfl ?_
  refine aZ (ι := Nat) (fun k => ⟨[(3, .optr 3 bx.n 0 0), (9, .tv (ab (ak .i64)) (ik (fD d date) s.2.2.2.2 s.2.2.2.2.length)), (10, .tv (ab (ak .i64)) (kX (fD d date) s.2.2.2.2 s.2.2.2.2.length)), (11, .own 70 (ak .i64).n 0 (rP (fD d date) s.2.2.2.2 s.2.2.2.2.length k).length), (21, .tv (ab (ak .i64)) (ik (fD d date) s.2.2.2.2 s.2.2.2.2.length)), (22, .raw (.int .i64 ((ik (fD d date) s.2.2.2.2 s.2.2.2.2.length).length))), (23, .raw (.int .i64 ((k : Nat))))], [(3, ⟨bx, [s]⟩), (70, ⟨ak .i64, (rP (fD d date) s.2.2.2.2 s.2.2.2.2.length k)⟩)]⟩) (fun k => k ≤ (eY (fD d date) s.2.2.2.2 s.2.2.2.2.length).length) (fun k => (eY (fD d date) s.2.2.2.2 s.2.2.2.2.length).length - k) 0 (Nat.zero_le _) (fun a w hi => (zI hi)) ?_
  rintro k hk
  have q3 := yQ (f := (fD d date)) (l := s.2.2.2.2) (n := s.2.2.2.2.length) (k := k)
  refine zR (zt rfl rfl (zZ (ae ?_)))
  refine af rfl (fun h4 => ?_) (fun h4 => ?_)
  · have h4 : k < (eY (fD d date) s.2.2.2.2 s.2.2.2.2.length).length := by simp at h4; omega
    have g1 := tU h4
    have g2 := oP h4
    have hs := w8 h4 (List.getElem?_eq_getElem g2)
    refine ah (aa (ae (aq (zR ?_))))
    refine bc _ rfl _ rfl rfl (al bd ty3 (.b rfl) (.b rfl) rfl zg) ?_
    refine zD ty3 rfl (zY rfl (aa (ac (zM rfl (zF dw rfl (zL jh rfl rfl rfl dT (zM rfl ?_)))))))
    refine bc _ rfl _ rfl rfl (al ga dp (.b rfl) (.b rfl) (se h4) zg) ?_
    refine zB qq r7 rfl (zD ty3 rfl (zJ (bq (rt := (ak .i64)) bd ty3 z3 rfl (.cons (.raw (.b rfl) rfl) .nil) rfl rfl) (zV [3,9,10,21,22,23] bd ty3 z3 by3 rfl rfl (.tv (.b rfl)) ?_)))
    refine zY rfl (aG (aa (ac (zU rfl rfl zw (zM rfl (aN ?_))))))
    exact aD (fun a w hi => ⟨k + 1, zo, zo, zW hi⟩)
  simp at h4
  refine bg (be (aY (bf (aa (ae ?_)))))
  obtain rfl : k = (eY (fD d date) s.2.2.2.2 s.2.2.2.2.length).length := by omega
  rw [priK_n]
  refine ac (zM rfl (zM rfl (zM rfl (zA rfl (zA rfl (zY rfl (aa (am ?_))))))))
  refine cY (rt := ak .i64) 70 8 (b8 70 _) rfl rfl (by simp) (bl 70 _) (bC 70 _) ?_
  exact cS results29 (aw rfl) (aw rfl) (aw rfl) ⟨rfl, rfl, rfl⟩ (by simp only [List.drop_zero, List.take_of_length_le (Nat.le_refl _)])
abbrev ixS (s : ba) (d t : Int) := eY (fD d t) s.2.2.2.2 s.2.2.2.2.length
end Go.Proofs.YtehcaebnijlhgaaGreatDoor.C15
