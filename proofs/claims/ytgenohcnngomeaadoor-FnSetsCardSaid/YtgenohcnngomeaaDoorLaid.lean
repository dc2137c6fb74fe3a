/- What the listed tables of the library's give: each as its contract asks for it. -/
import Derived.Test.YtgenohcnngomeaaDoorRows
import Derived.ProofKit
import Derived.LaidMore
import Derived.OpenShut
import Derived.Stop.Joined
import Derived.Lib.LaidTab
import Derived.Lib.ItoaNum
import Derived.Shelf.Spec.TrailingZeros
namespace Go.Proofs.YtgenohcnngomeaaDoor.Laid
open Go.ChangeShapes Go.WideShapes Go.ChangeAt Go.WideMaps Go.WideElems Go.RowKit
set_option maxRecDepth 100000
def laid2 : List (String × DataW Unit) := [("math/bits.deBruijn32tab", Rows.laid_math_bits_deBruijn32tab), ("math/bits.deBruijn64tab", Rows.laid_math_bits_deBruijn64tab)]
theorem own : ownKnob Tryd.prog.godebug = none := by kernel_rfl
theorem g64 : Tryd.prog.globalNamed "math/bits.deBruijn64tab" = some 5 := by kernel_rfl
theorem t64 : (Tryd.prog.globals[5]?).map (·.type) = some 135 := by kernel_rfl
theorem c131 : Tryd.prog.cellsOf 135 = 64 := by kernel_rfl
theorem c5 : Tryd.prog.cellsOf 5 = 1 := by kernel_rfl
theorem is64 : (Rows.laid_math_bits_deBruijn64tab : DataW Unit) = Lib.tabData .u8 (Lib.deBruijn64tab.map fun (n : Nat) => (n : Int)) := by rfl
/-- The door's own heap meets the condition: three closed facts. -/
theorem door_met2 (os : Os) (args : Array Value) : laidMetH Tryd.prog laid2 ((World.doorLaid Tryd.prog 400 os).forCall (fun _ _ => 0) ⟨#[], args, []⟩).memory :=
  laidMetH_of_parts3 (fuel := 8) (laidMet_of_run' 8 (by kernel_rfl) (by kernel_rfl)) (by kernel_rfl) (by kernel_rfl)
theorem tab_of_cells {W : World} {cs : Array Value} (hv : W.var? Tryd.prog "math/bits.deBruijn64tab" = some cs) (hc : cs.toList = (Lib.deBruijn64tab.map fun (n : Nat) => (n : Int)).map fun z => Value.int .u8 z) : TabAt 5 Lib.deBruijn64tab W := by
  intro j hj
  have := World.var?_cell g64 hv j
  rw [this]
  have h2 : cs[j]? = cs.toList[j]? := by simp
  rw [h2, hc]
  simp [hj]
theorem of_laid2 {W : World} (h : laidMetH Tryd.prog laid2 W) : TabAt 5 Lib.deBruijn64tab W := by
  rw [MakeChecks.laidMetH_plain _ _ _ (by kernel_rfl)] at h
  obtain ⟨ps, ⟨g0, t0, cs0, f0, p0, q0, hg0, ht0, hv0, hd0, ⟨g1, t1, cs1, f1, p1, q1, hg1, ht1, hv1, hd1, _, _⟩, _⟩, _, _⟩ := h
  obtain rfl := Option.some.inj (g64.symm.trans hg1)
  obtain rfl := Option.some.inj (t64.symm.trans ht1)
  rw [is64] at hd1
  exact tab_of_cells hv1 (Lib.cells_of_tab Tryd.underlying135 Tryd.underlying5 c5 c131 hd1)
/-! ### With the powers of ten -/
def laid3 : List (String × DataW Unit) := [("math/bits.deBruijn32tab", Rows.laid_math_bits_deBruijn32tab), ("math/bits.deBruijn64tab", Rows.laid_math_bits_deBruijn64tab), ("internal/strconv.uint64pow10", Rows.laid_internal_strconv_uint64pow10)]
theorem g10 : Tryd.prog.globalNamed "internal/strconv.uint64pow10" = some 3 := by kernel_rfl
theorem t10 : (Tryd.prog.globals[3]?).map (·.type) = some 129 := by kernel_rfl
theorem c20 : Tryd.prog.cellsOf 129 = 20 := by kernel_rfl
theorem c8 : Tryd.prog.cellsOf 110 = 1 := by kernel_rfl
theorem is10 : (Rows.laid_internal_strconv_uint64pow10 : DataW Unit) = Lib.tabData .u64 Lib.pow10Tab := by rfl
theorem door_met3 (os : Os) (args : Array Value) : laidMetH Tryd.prog laid3 ((World.doorLaid Tryd.prog 400 os).forCall (fun _ _ => 0) ⟨#[], args, []⟩).memory :=
  laidMetH_of_parts3 (fuel := 8) (laidMet_of_run' 8 (by kernel_rfl) (by kernel_rfl)) (by kernel_rfl) (by kernel_rfl)
theorem of_laid3 {W : World} (h : laidMetH Tryd.prog laid3 W) : Lib.TabIs Tryd.prog W "internal/strconv.uint64pow10" .u64 Lib.pow10Tab ∧ TabAt 5 Lib.deBruijn64tab W := by
  rw [MakeChecks.laidMetH_plain _ _ _ (by kernel_rfl)] at h
  obtain ⟨ps, ⟨g0, t0, cs0, f0, p0, q0, hg0, ht0, hv0, hd0, ⟨g1, t1, cs1, f1, p1, q1, hg1, ht1, hv1, hd1, ⟨g2, t2, cs2, f2, p2, q2, hg2, ht2, hv2, hd2, _, _⟩, _⟩, _⟩, _, _⟩ := h
  obtain rfl := Option.some.inj (g64.symm.trans hg1)
  obtain rfl := Option.some.inj (t64.symm.trans ht1)
  obtain rfl := Option.some.inj (g10.symm.trans hg2)
  obtain rfl := Option.some.inj (t10.symm.trans ht2)
  rw [is64] at hd1
  rw [is10] at hd2
  refine ⟨?_, tab_of_cells hv1 (Lib.cells_of_tab Tryd.underlying135 Tryd.underlying5 c5 c131 hd1)⟩
  have e := Lib.cells_of_tab Tryd.underlying129 Tryd.underlying110 c8 c20 hd2
  unfold Lib.TabIs
  rw [hv2, ← e]
end Go.Proofs.YtgenohcnngomeaaDoor.Laid
