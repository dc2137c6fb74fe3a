/-
  No cell of these rows narrows 'for every input' (looked for: loops, veiled, ifaces, maps, wideKeys, modest, calm, conditions, laid).
  DERIVED. THE GIVEN ROWS OF THIS SEAT. 6 by the template 'for every input the law returns true; each argument reads behind the call as it read before'; 0 by the template 'total and deterministic' (their statements: YtfknjoebomicnaaTotals.lean).
  GIVEN WITH THE SEED: the statements are not yours to turn. If you find one false, say at which input.
  Laid BY PROGRAM, IN A SANDBOX (cutbox-rows.mjs): the forced cells as the released guide's own fill.sh prints them over the translation 8ca9e5c531c17cd6… (all of the seat's roots in one cut). By AI agents, Wed Nov 11 2026. No macro, syntax, notation, axiom, sorry.
-/
import Derived.Test.YtfknjoebomicnaaChecked
import GoSem.Claim
import GoSem.ClaimJoined
import GoSem.ClaimMapViews
import Derived.JoinedTies
import Derived.KernelRfl
namespace Go.Proofs.Ytfknjoebomicnaa
/- THE CELL 'sum', in the pinned program and in every row, IS THE sha256 OF THE DUMP (.gsa) THAT YtfknjoebomicnaaProg.lean LOADS. Nothing in Lean hashes anything: it is a label: what it is worth is what the hold of that sum in a sandbox is worth. -/
noncomputable def Try.pinned : Pinned := { name := "ytfknjoebomicnaa", sum := "8ca9e5c531c17cd6edf6ef584e50784cbdefb1f8c1c234690a9647bbb3e444de", checked := Try.checked }
namespace Rows
def none {H : Type} : Left H := { results := [], args := [] }

/-- 'laws.FnExactSketchOf': WHATEVER THE INPUT: true; the input reads as it did. -/
def fnExactSketchOfSpec : ChangeSpec := { name := "fnExactSketchOf", fn := fun _ => fun
  | [d] => { results := [.lit (.bool true)], args := [d] }
  | _ => none }
def fnExactSketchOfRow : OpenClaim := { program := "ytfknjoebomicnaa", sum := "8ca9e5c531c17cd6edf6ef584e50784cbdefb1f8c1c234690a9647bbb3e444de", func := "loop.example/g00491/laws.FnExactSketchOf", spec := "fnExactSketchOf", apart := false }
def FnExactSketchOfSaid : Prop := fnExactSketchOfRow.holds Try.pinned (OpenSpec.ofChange fnExactSketchOfSpec)

/-- ITS FALSE NEIGHBOUR: 'it returns false'. Refute it at one input. -/
def fnExactSketchOfWrong : ChangeSpec := { name := "fnExactSketchOf", fn := fun _ => fun
  | [d] => { results := [.lit (.bool false)], args := [d] }
  | _ => none }
def FnExactSketchOfWrongFalsely : Prop := fnExactSketchOfRow.holds Try.pinned (OpenSpec.ofChange fnExactSketchOfWrong)

/-- 'laws.FnExactMerge': WHATEVER THE INPUT: true; the input reads as it did. -/
def fnExactMergeSpec : ChangeSpec := { name := "fnExactMerge", fn := fun _ => fun
  | [d1, d2] => { results := [.lit (.bool true)], args := [d1, d2] }
  | _ => none }
def fnExactMergeRow : OpenClaim := { program := "ytfknjoebomicnaa", sum := "8ca9e5c531c17cd6edf6ef584e50784cbdefb1f8c1c234690a9647bbb3e444de", func := "loop.example/g00491/laws.FnExactMerge", spec := "fnExactMerge", apart := false }
def FnExactMergeSaid : Prop := fnExactMergeRow.holds Try.pinned (OpenSpec.ofChange fnExactMergeSpec)

/-- ITS FALSE NEIGHBOUR: 'it returns false'. Refute it at one input. -/
def fnExactMergeWrong : ChangeSpec := { name := "fnExactMerge", fn := fun _ => fun
  | [d1, d2] => { results := [.lit (.bool false)], args := [d1, d2] }
  | _ => none }
def FnExactMergeWrongFalsely : Prop := fnExactMergeRow.holds Try.pinned (OpenSpec.ofChange fnExactMergeWrong)

/-- 'laws.FnExactSetJoin': WHATEVER THE INPUT: true; the input reads as it did. -/
def fnExactSetJoinSpec : ChangeSpec := { name := "fnExactSetJoin", fn := fun _ => fun
  | [d1, d2] => { results := [.lit (.bool true)], args := [d1, d2] }
  | _ => none }
def fnExactSetJoinRow : OpenClaim := { program := "ytfknjoebomicnaa", sum := "8ca9e5c531c17cd6edf6ef584e50784cbdefb1f8c1c234690a9647bbb3e444de", func := "loop.example/g00491/laws.FnExactSetJoin", spec := "fnExactSetJoin", unfollowed := true, recurses := true, apart := false }
def FnExactSetJoinSaid : Prop := fnExactSetJoinRow.holds Try.pinned (OpenSpec.ofChange fnExactSetJoinSpec)

/-- ITS FALSE NEIGHBOUR: 'it returns false'. Refute it at one input. -/
def fnExactSetJoinWrong : ChangeSpec := { name := "fnExactSetJoin", fn := fun _ => fun
  | [d1, d2] => { results := [.lit (.bool false)], args := [d1, d2] }
  | _ => none }
def FnExactSetJoinWrongFalsely : Prop := fnExactSetJoinRow.holds Try.pinned (OpenSpec.ofChange fnExactSetJoinWrong)

/-- 'laws.FnExactSetAdd': WHATEVER THE INPUT: true; the input reads as it did. -/
def fnExactSetAddSpec : ChangeSpec := { name := "fnExactSetAdd", fn := fun _ => fun
  | [d1, d2] => { results := [.lit (.bool true)], args := [d1, d2] }
  | _ => none }
def fnExactSetAddRow : OpenClaim := { program := "ytfknjoebomicnaa", sum := "8ca9e5c531c17cd6edf6ef584e50784cbdefb1f8c1c234690a9647bbb3e444de", func := "loop.example/g00491/laws.FnExactSetAdd", spec := "fnExactSetAdd", unfollowed := true, recurses := true, apart := false }
def FnExactSetAddSaid : Prop := fnExactSetAddRow.holds Try.pinned (OpenSpec.ofChange fnExactSetAddSpec)

/-- ITS FALSE NEIGHBOUR: 'it returns false'. Refute it at one input. -/
def fnExactSetAddWrong : ChangeSpec := { name := "fnExactSetAdd", fn := fun _ => fun
  | [d1, d2] => { results := [.lit (.bool false)], args := [d1, d2] }
  | _ => none }
def FnExactSetAddWrongFalsely : Prop := fnExactSetAddRow.holds Try.pinned (OpenSpec.ofChange fnExactSetAddWrong)

/-- 'laws.FnMerged': WHATEVER THE INPUT: true; the input reads as it did. -/
def fnMergedSpec : ChangeSpec := { name := "fnMerged", fn := fun _ => fun
  | [d] => { results := [.lit (.bool true)], args := [d] }
  | _ => none }
def fnMergedRow : OpenClaim := { program := "ytfknjoebomicnaa", sum := "8ca9e5c531c17cd6edf6ef584e50784cbdefb1f8c1c234690a9647bbb3e444de", func := "loop.example/g00491/laws.FnMerged", spec := "fnMerged", unfollowed := true, recurses := true, apart := false }
def FnMergedSaid : Prop := fnMergedRow.holds Try.pinned (OpenSpec.ofChange fnMergedSpec)

/-- ITS FALSE NEIGHBOUR: 'it returns false'. Refute it at one input. -/
def fnMergedWrong : ChangeSpec := { name := "fnMerged", fn := fun _ => fun
  | [d] => { results := [.lit (.bool false)], args := [d] }
  | _ => none }
def FnMergedWrongFalsely : Prop := fnMergedRow.holds Try.pinned (OpenSpec.ofChange fnMergedWrong)

/-- 'laws.FnQuantiles': WHATEVER THE INPUT: true; the input reads as it did. -/
def fnQuantilesSpec : ChangeSpec := { name := "fnQuantiles", fn := fun _ => fun
  | [d] => { results := [.lit (.bool true)], args := [d] }
  | _ => none }
def fnQuantilesRow : OpenClaim := { program := "ytfknjoebomicnaa", sum := "8ca9e5c531c17cd6edf6ef584e50784cbdefb1f8c1c234690a9647bbb3e444de", func := "loop.example/g00491/laws.FnQuantiles", spec := "fnQuantiles", apart := false }
def FnQuantilesSaid : Prop := fnQuantilesRow.holds Try.pinned (OpenSpec.ofChange fnQuantilesSpec)

/-- ITS FALSE NEIGHBOUR: 'it returns false'. Refute it at one input. -/
def fnQuantilesWrong : ChangeSpec := { name := "fnQuantiles", fn := fun _ => fun
  | [d] => { results := [.lit (.bool false)], args := [d] }
  | _ => none }
def FnQuantilesWrongFalsely : Prop := fnQuantilesRow.holds Try.pinned (OpenSpec.ofChange fnQuantilesWrong)

/- THE SECOND FORM. 'bulk': how many values and letters a reading holds, each counted each time it is reached (what is shared counts as often as it is met; a slice's spare places count too). A statement '..UptoSaid' is the law's where the arguments, and the package variables that the reading takes, are together of bulk at most 1048576: NARROWER than '..Said'. Prove '..Said' where nothing that the law and all that it calls make is longer than what came in: it says more and counts as full. Else prove '..UptoSaid'. A law counts once. -/
mutual
def uptoBulk {H : Type} : DataW H → Nat
  | .lit (.string bytes) => bytes.length + 1
  | .lit _ => 1
  | .nil => 1
  | .ptr d => uptoBulk d + 1
  | .slice elems spare => uptoBulkAll elems + uptoBulkAll spare + 1
  | .agg parts => uptoBulkAll parts + 1
  | .iface _ d => uptoBulk d + 1
  | .map entries => uptoBulkEntries entries + 1
  | .held _ => 1
def uptoBulkAll {H : Type} : List (DataW H) → Nat
  | [] => 0
  | d :: r => uptoBulk d + uptoBulkAll r
def uptoBulkEntries {H : Type} : List (Lit × DataW H) → Nat
  | [] => 0
  | x :: r => uptoBulkEntry x + uptoBulkEntries r
def uptoBulkEntry {H : Type} : Lit × DataW H → Nat
  | (.string bytes, d) => bytes.length + uptoBulk d + 1
  | (_, d) => uptoBulk d + 1
 end
def uptoSmall : (H : Type) → List (DataW H) → Bool := fun _ ds => decide (uptoBulkAll ds ≤ 1048576)
def OpenSpec.upto (s : _root_.Go.ChangeSpec) : _root_.Go.OpenSpec := { _root_.Go.OpenSpec.ofChange s with cond := some uptoSmall }

/-- 'laws.FnExactSketchOf', WHERE WHAT IT READS IS OF BULK AT MOST 1048576: true; the input reads as it did. -/
def fnExactSketchOfUptoRow : OpenClaim := { program := "ytfknjoebomicnaa", sum := "8ca9e5c531c17cd6edf6ef584e50784cbdefb1f8c1c234690a9647bbb3e444de", func := "loop.example/g00491/laws.FnExactSketchOf", spec := "fnExactSketchOf", apart := false, narrowed := true }
def FnExactSketchOfUptoSaid : Prop := fnExactSketchOfUptoRow.holds Try.pinned (OpenSpec.upto fnExactSketchOfSpec)

/-- 'laws.FnExactMerge', WHERE WHAT IT READS IS OF BULK AT MOST 1048576: true; the input reads as it did. -/
def fnExactMergeUptoRow : OpenClaim := { program := "ytfknjoebomicnaa", sum := "8ca9e5c531c17cd6edf6ef584e50784cbdefb1f8c1c234690a9647bbb3e444de", func := "loop.example/g00491/laws.FnExactMerge", spec := "fnExactMerge", apart := false, narrowed := true }
def FnExactMergeUptoSaid : Prop := fnExactMergeUptoRow.holds Try.pinned (OpenSpec.upto fnExactMergeSpec)

/-- 'laws.FnExactSetJoin', WHERE WHAT IT READS IS OF BULK AT MOST 1048576: true; the input reads as it did. -/
def fnExactSetJoinUptoRow : OpenClaim := { program := "ytfknjoebomicnaa", sum := "8ca9e5c531c17cd6edf6ef584e50784cbdefb1f8c1c234690a9647bbb3e444de", func := "loop.example/g00491/laws.FnExactSetJoin", spec := "fnExactSetJoin", unfollowed := true, recurses := true, apart := false, narrowed := true }
def FnExactSetJoinUptoSaid : Prop := fnExactSetJoinUptoRow.holds Try.pinned (OpenSpec.upto fnExactSetJoinSpec)

/-- 'laws.FnExactSetAdd', WHERE WHAT IT READS IS OF BULK AT MOST 1048576: true; the input reads as it did. -/
def fnExactSetAddUptoRow : OpenClaim := { program := "ytfknjoebomicnaa", sum := "8ca9e5c531c17cd6edf6ef584e50784cbdefb1f8c1c234690a9647bbb3e444de", func := "loop.example/g00491/laws.FnExactSetAdd", spec := "fnExactSetAdd", unfollowed := true, recurses := true, apart := false, narrowed := true }
def FnExactSetAddUptoSaid : Prop := fnExactSetAddUptoRow.holds Try.pinned (OpenSpec.upto fnExactSetAddSpec)

/-- 'laws.FnMerged', WHERE WHAT IT READS IS OF BULK AT MOST 1048576: true; the input reads as it did. -/
def fnMergedUptoRow : OpenClaim := { program := "ytfknjoebomicnaa", sum := "8ca9e5c531c17cd6edf6ef584e50784cbdefb1f8c1c234690a9647bbb3e444de", func := "loop.example/g00491/laws.FnMerged", spec := "fnMerged", unfollowed := true, recurses := true, apart := false, narrowed := true }
def FnMergedUptoSaid : Prop := fnMergedUptoRow.holds Try.pinned (OpenSpec.upto fnMergedSpec)

/-- 'laws.FnQuantiles', WHERE WHAT IT READS IS OF BULK AT MOST 1048576: true; the input reads as it did. -/
def fnQuantilesUptoRow : OpenClaim := { program := "ytfknjoebomicnaa", sum := "8ca9e5c531c17cd6edf6ef584e50784cbdefb1f8c1c234690a9647bbb3e444de", func := "loop.example/g00491/laws.FnQuantiles", spec := "fnQuantiles", apart := false, narrowed := true }
def FnQuantilesUptoSaid : Prop := fnQuantilesUptoRow.holds Try.pinned (OpenSpec.upto fnQuantilesSpec)

end Rows
end Go.Proofs.Ytfknjoebomicnaa
