/-
  No cell of these rows narrows 'for every input' (looked for: loops, veiled, ifaces, maps, wideKeys, modest, calm, conditions, laid).
  DERIVED. THE GIVEN ROWS OF THIS SEAT. 9 by the template 'for every input the law returns true; each argument reads behind the call as it read before'; 0 by the template 'total and deterministic' (their statements: YthmggcdjagiigaaTotals.lean).
  GIVEN WITH THE SEED: the statements are not yours to turn. If you find one false, say at which input.
  Laid BY PROGRAM, IN A SANDBOX (cutbox-rows.mjs): the forced cells as the released guide's own fill.sh prints them over the translation 46cdd73778e6d3d7… (all of the seat's roots in one cut). By AI agents, Wed Nov 11 2026. No macro, syntax, notation, axiom, sorry.
-/
import Derived.Test.YthmggcdjagiigaaChecked
import GoSem.Claim
import GoSem.ClaimJoined
import GoSem.ClaimMapViews
import Derived.JoinedTies
import Derived.KernelRfl
namespace Go.Proofs.Ythmggcdjagiigaa
/- THE CELL 'sum', in the pinned program and in every row, IS THE sha256 OF THE DUMP (.gsa) THAT YthmggcdjagiigaaProg.lean LOADS. Nothing in Lean hashes anything: it is a label: what it is worth is what the hold of that sum in a sandbox is worth. -/
noncomputable def Try.pinned : Pinned := { name := "ythmggcdjagiigaa", sum := "46cdd73778e6d3d773212de46453c87221f8f47d628024959c0152ca77584092", checked := Try.checked }
namespace Rows
def none {H : Type} : Left H := { results := [], args := [] }

/-- 'laws.FnExactDifferent': WHATEVER THE INPUT: true; the input reads as it did. -/
def fnExactDifferentSpec : ChangeSpec := { name := "fnExactDifferent", fn := fun _ => fun
  | [d] => { results := [.lit (.bool true)], args := [d] }
  | _ => none }
def fnExactDifferentRow : OpenClaim := { program := "ythmggcdjagiigaa", sum := "46cdd73778e6d3d773212de46453c87221f8f47d628024959c0152ca77584092", func := "loop.example/g00491/laws.FnExactDifferent", spec := "fnExactDifferent", apart := false }
def FnExactDifferentSaid : Prop := fnExactDifferentRow.holds Try.pinned (OpenSpec.ofChange fnExactDifferentSpec)

/-- ITS FALSE NEIGHBOUR: 'it returns false'. Refute it at one input. -/
def fnExactDifferentWrong : ChangeSpec := { name := "fnExactDifferent", fn := fun _ => fun
  | [d] => { results := [.lit (.bool false)], args := [d] }
  | _ => none }
def FnExactDifferentWrongFalsely : Prop := fnExactDifferentRow.holds Try.pinned (OpenSpec.ofChange fnExactDifferentWrong)

/-- 'laws.FnExactOften': WHATEVER THE INPUT: true; the input reads as it did. -/
def fnExactOftenSpec : ChangeSpec := { name := "fnExactOften", fn := fun _ => fun
  | [d1, d2] => { results := [.lit (.bool true)], args := [d1, d2] }
  | _ => none }
def fnExactOftenRow : OpenClaim := { program := "ythmggcdjagiigaa", sum := "46cdd73778e6d3d773212de46453c87221f8f47d628024959c0152ca77584092", func := "loop.example/g00491/laws.FnExactOften", spec := "fnExactOften", apart := false }
def FnExactOftenSaid : Prop := fnExactOftenRow.holds Try.pinned (OpenSpec.ofChange fnExactOftenSpec)

/-- ITS FALSE NEIGHBOUR: 'it returns false'. Refute it at one input. -/
def fnExactOftenWrong : ChangeSpec := { name := "fnExactOften", fn := fun _ => fun
  | [d1, d2] => { results := [.lit (.bool false)], args := [d1, d2] }
  | _ => none }
def FnExactOftenWrongFalsely : Prop := fnExactOftenRow.holds Try.pinned (OpenSpec.ofChange fnExactOftenWrong)

/-- 'laws.FnExactItemOk': WHATEVER THE INPUT: true; the input reads as it did. -/
def fnExactItemOkSpec : ChangeSpec := { name := "fnExactItemOk", fn := fun _ => fun
  | [d] => { results := [.lit (.bool true)], args := [d] }
  | _ => none }
def fnExactItemOkRow : OpenClaim := { program := "ythmggcdjagiigaa", sum := "46cdd73778e6d3d773212de46453c87221f8f47d628024959c0152ca77584092", func := "loop.example/g00491/laws.FnExactItemOk", spec := "fnExactItemOk", apart := false }
def FnExactItemOkSaid : Prop := fnExactItemOkRow.holds Try.pinned (OpenSpec.ofChange fnExactItemOkSpec)

/-- ITS FALSE NEIGHBOUR: 'it returns false'. Refute it at one input. -/
def fnExactItemOkWrong : ChangeSpec := { name := "fnExactItemOk", fn := fun _ => fun
  | [d] => { results := [.lit (.bool false)], args := [d] }
  | _ => none }
def FnExactItemOkWrongFalsely : Prop := fnExactItemOkRow.holds Try.pinned (OpenSpec.ofChange fnExactItemOkWrong)

/-- 'laws.FnExactQuantile': WHATEVER THE INPUT: true; the input reads as it did. -/
def fnExactQuantileSpec : ChangeSpec := { name := "fnExactQuantile", fn := fun _ => fun
  | [d1, d2] => { results := [.lit (.bool true)], args := [d1, d2] }
  | _ => none }
def fnExactQuantileRow : OpenClaim := { program := "ythmggcdjagiigaa", sum := "46cdd73778e6d3d773212de46453c87221f8f47d628024959c0152ca77584092", func := "loop.example/g00491/laws.FnExactQuantile", spec := "fnExactQuantile", apart := false }
def FnExactQuantileSaid : Prop := fnExactQuantileRow.holds Try.pinned (OpenSpec.ofChange fnExactQuantileSpec)

/-- ITS FALSE NEIGHBOUR: 'it returns false'. Refute it at one input. -/
def fnExactQuantileWrong : ChangeSpec := { name := "fnExactQuantile", fn := fun _ => fun
  | [d1, d2] => { results := [.lit (.bool false)], args := [d1, d2] }
  | _ => none }
def FnExactQuantileWrongFalsely : Prop := fnExactQuantileRow.holds Try.pinned (OpenSpec.ofChange fnExactQuantileWrong)

/-- 'laws.FnExactEntrySame': WHATEVER THE INPUT: true; the input reads as it did. -/
def fnExactEntrySameSpec : ChangeSpec := { name := "fnExactEntrySame", fn := fun _ => fun
  | [d1, d2] => { results := [.lit (.bool true)], args := [d1, d2] }
  | _ => none }
def fnExactEntrySameRow : OpenClaim := { program := "ythmggcdjagiigaa", sum := "46cdd73778e6d3d773212de46453c87221f8f47d628024959c0152ca77584092", func := "loop.example/g00491/laws.FnExactEntrySame", spec := "fnExactEntrySame", unfollowed := true, recurses := true, apart := false }
def FnExactEntrySameSaid : Prop := fnExactEntrySameRow.holds Try.pinned (OpenSpec.ofChange fnExactEntrySameSpec)

/-- ITS FALSE NEIGHBOUR: 'it returns false'. Refute it at one input. -/
def fnExactEntrySameWrong : ChangeSpec := { name := "fnExactEntrySame", fn := fun _ => fun
  | [d1, d2] => { results := [.lit (.bool false)], args := [d1, d2] }
  | _ => none }
def FnExactEntrySameWrongFalsely : Prop := fnExactEntrySameRow.holds Try.pinned (OpenSpec.ofChange fnExactEntrySameWrong)

/-- 'laws.FnExactEntryOk': WHATEVER THE INPUT: true; the input reads as it did. -/
def fnExactEntryOkSpec : ChangeSpec := { name := "fnExactEntryOk", fn := fun _ => fun
  | [d] => { results := [.lit (.bool true)], args := [d] }
  | _ => none }
def fnExactEntryOkRow : OpenClaim := { program := "ythmggcdjagiigaa", sum := "46cdd73778e6d3d773212de46453c87221f8f47d628024959c0152ca77584092", func := "loop.example/g00491/laws.FnExactEntryOk", spec := "fnExactEntryOk", apart := false }
def FnExactEntryOkSaid : Prop := fnExactEntryOkRow.holds Try.pinned (OpenSpec.ofChange fnExactEntryOkSpec)

/-- ITS FALSE NEIGHBOUR: 'it returns false'. Refute it at one input. -/
def fnExactEntryOkWrong : ChangeSpec := { name := "fnExactEntryOk", fn := fun _ => fun
  | [d] => { results := [.lit (.bool false)], args := [d] }
  | _ => none }
def FnExactEntryOkWrongFalsely : Prop := fnExactEntryOkRow.holds Try.pinned (OpenSpec.ofChange fnExactEntryOkWrong)

/-- 'laws.FnExactSketchBytes': WHATEVER THE INPUT: true; the input reads as it did. -/
def fnExactSketchBytesSpec : ChangeSpec := { name := "fnExactSketchBytes", fn := fun _ => fun
  | [d] => { results := [.lit (.bool true)], args := [d] }
  | _ => none }
def fnExactSketchBytesRow : OpenClaim := { program := "ythmggcdjagiigaa", sum := "46cdd73778e6d3d773212de46453c87221f8f47d628024959c0152ca77584092", func := "loop.example/g00491/laws.FnExactSketchBytes", spec := "fnExactSketchBytes", apart := false }
def FnExactSketchBytesSaid : Prop := fnExactSketchBytesRow.holds Try.pinned (OpenSpec.ofChange fnExactSketchBytesSpec)

/-- ITS FALSE NEIGHBOUR: 'it returns false'. Refute it at one input. -/
def fnExactSketchBytesWrong : ChangeSpec := { name := "fnExactSketchBytes", fn := fun _ => fun
  | [d] => { results := [.lit (.bool false)], args := [d] }
  | _ => none }
def FnExactSketchBytesWrongFalsely : Prop := fnExactSketchBytesRow.holds Try.pinned (OpenSpec.ofChange fnExactSketchBytesWrong)

/-- 'laws.FnExactSketchOf': WHATEVER THE INPUT: true; the input reads as it did. -/
def fnExactSketchOfSpec : ChangeSpec := { name := "fnExactSketchOf", fn := fun _ => fun
  | [d] => { results := [.lit (.bool true)], args := [d] }
  | _ => none }
def fnExactSketchOfRow : OpenClaim := { program := "ythmggcdjagiigaa", sum := "46cdd73778e6d3d773212de46453c87221f8f47d628024959c0152ca77584092", func := "loop.example/g00491/laws.FnExactSketchOf", spec := "fnExactSketchOf", apart := false }
def FnExactSketchOfSaid : Prop := fnExactSketchOfRow.holds Try.pinned (OpenSpec.ofChange fnExactSketchOfSpec)

/-- ITS FALSE NEIGHBOUR: 'it returns false'. Refute it at one input. -/
def fnExactSketchOfWrong : ChangeSpec := { name := "fnExactSketchOf", fn := fun _ => fun
  | [d] => { results := [.lit (.bool false)], args := [d] }
  | _ => none }
def FnExactSketchOfWrongFalsely : Prop := fnExactSketchOfRow.holds Try.pinned (OpenSpec.ofChange fnExactSketchOfWrong)

/-- 'laws.FnExactEntrySize': WHATEVER THE INPUT: true; the input reads as it did. -/
def fnExactEntrySizeSpec : ChangeSpec := { name := "fnExactEntrySize", fn := fun _ => fun
  | [d] => { results := [.lit (.bool true)], args := [d] }
  | _ => none }
def fnExactEntrySizeRow : OpenClaim := { program := "ythmggcdjagiigaa", sum := "46cdd73778e6d3d773212de46453c87221f8f47d628024959c0152ca77584092", func := "loop.example/g00491/laws.FnExactEntrySize", spec := "fnExactEntrySize", apart := false }
def FnExactEntrySizeSaid : Prop := fnExactEntrySizeRow.holds Try.pinned (OpenSpec.ofChange fnExactEntrySizeSpec)

/-- ITS FALSE NEIGHBOUR: 'it returns false'. Refute it at one input. -/
def fnExactEntrySizeWrong : ChangeSpec := { name := "fnExactEntrySize", fn := fun _ => fun
  | [d] => { results := [.lit (.bool false)], args := [d] }
  | _ => none }
def FnExactEntrySizeWrongFalsely : Prop := fnExactEntrySizeRow.holds Try.pinned (OpenSpec.ofChange fnExactEntrySizeWrong)

/- THE SECOND FORM. 'bulk': how many values and letters a reading holds, each counted each time it is reached (what is shared counts as often as it is met; a slice's spare places count too). A statement '..UptoSaid' is the law's where the arguments, and the package variables that the reading takes, are together of bulk at most 1048576: NARROWER than '..Said'. Prove '..Said' where nothing that the law and all that it calls make is longer than what came in: it says more and counts as full. Else prove '..UptoSaid'. A law counts once. -/
mutual
def uptoBulk {H : Type} : DataW H → Nat
  | .lit (.string bytes) => bytes.length + 1
  | .lit _ => 1
  | .nil => 1
  | .ptr d => uptoBulk d + 1
  | .slice elems spare => uptoBulkAll elems + uptoBulkAll spare + 1
  | .agg parts => uptoBulkAll parts + 1
  | .iface _ d => uptoBulk d + 1
  | .map entries => uptoBulkEntries entries + 1
  | .held _ => 1
def uptoBulkAll {H : Type} : List (DataW H) → Nat
  | [] => 0
  | d :: r => uptoBulk d + uptoBulkAll r
def uptoBulkEntries {H : Type} : List (Lit × DataW H) → Nat
  | [] => 0
  | x :: r => uptoBulkEntry x + uptoBulkEntries r
def uptoBulkEntry {H : Type} : Lit × DataW H → Nat
  | (.string bytes, d) => bytes.length + uptoBulk d + 1
  | (_, d) => uptoBulk d + 1
 end
def uptoSmall : (H : Type) → List (DataW H) → Bool := fun _ ds => decide (uptoBulkAll ds ≤ 1048576)
def OpenSpec.upto (s : _root_.Go.ChangeSpec) : _root_.Go.OpenSpec := { _root_.Go.OpenSpec.ofChange s with cond := some uptoSmall }

/-- 'laws.FnExactDifferent', WHERE WHAT IT READS IS OF BULK AT MOST 1048576: true; the input reads as it did. -/
def fnExactDifferentUptoRow : OpenClaim := { program := "ythmggcdjagiigaa", sum := "46cdd73778e6d3d773212de46453c87221f8f47d628024959c0152ca77584092", func := "loop.example/g00491/laws.FnExactDifferent", spec := "fnExactDifferent", apart := false, narrowed := true }
def FnExactDifferentUptoSaid : Prop := fnExactDifferentUptoRow.holds Try.pinned (OpenSpec.upto fnExactDifferentSpec)

/-- 'laws.FnExactOften', WHERE WHAT IT READS IS OF BULK AT MOST 1048576: true; the input reads as it did. -/
def fnExactOftenUptoRow : OpenClaim := { program := "ythmggcdjagiigaa", sum := "46cdd73778e6d3d773212de46453c87221f8f47d628024959c0152ca77584092", func := "loop.example/g00491/laws.FnExactOften", spec := "fnExactOften", apart := false, narrowed := true }
def FnExactOftenUptoSaid : Prop := fnExactOftenUptoRow.holds Try.pinned (OpenSpec.upto fnExactOftenSpec)

/-- 'laws.FnExactItemOk', WHERE WHAT IT READS IS OF BULK AT MOST 1048576: true; the input reads as it did. -/
def fnExactItemOkUptoRow : OpenClaim := { program := "ythmggcdjagiigaa", sum := "46cdd73778e6d3d773212de46453c87221f8f47d628024959c0152ca77584092", func := "loop.example/g00491/laws.FnExactItemOk", spec := "fnExactItemOk", apart := false, narrowed := true }
def FnExactItemOkUptoSaid : Prop := fnExactItemOkUptoRow.holds Try.pinned (OpenSpec.upto fnExactItemOkSpec)

/-- 'laws.FnExactQuantile', WHERE WHAT IT READS IS OF BULK AT MOST 1048576: true; the input reads as it did. -/
def fnExactQuantileUptoRow : OpenClaim := { program := "ythmggcdjagiigaa", sum := "46cdd73778e6d3d773212de46453c87221f8f47d628024959c0152ca77584092", func := "loop.example/g00491/laws.FnExactQuantile", spec := "fnExactQuantile", apart := false, narrowed := true }
def FnExactQuantileUptoSaid : Prop := fnExactQuantileUptoRow.holds Try.pinned (OpenSpec.upto fnExactQuantileSpec)

/-- 'laws.FnExactEntrySame', WHERE WHAT IT READS IS OF BULK AT MOST 1048576: true; the input reads as it did. -/
def fnExactEntrySameUptoRow : OpenClaim := { program := "ythmggcdjagiigaa", sum := "46cdd73778e6d3d773212de46453c87221f8f47d628024959c0152ca77584092", func := "loop.example/g00491/laws.FnExactEntrySame", spec := "fnExactEntrySame", unfollowed := true, recurses := true, apart := false, narrowed := true }
def FnExactEntrySameUptoSaid : Prop := fnExactEntrySameUptoRow.holds Try.pinned (OpenSpec.upto fnExactEntrySameSpec)

/-- 'laws.FnExactEntryOk', WHERE WHAT IT READS IS OF BULK AT MOST 1048576: true; the input reads as it did. -/
def fnExactEntryOkUptoRow : OpenClaim := { program := "ythmggcdjagiigaa", sum := "46cdd73778e6d3d773212de46453c87221f8f47d628024959c0152ca77584092", func := "loop.example/g00491/laws.FnExactEntryOk", spec := "fnExactEntryOk", apart := false, narrowed := true }
def FnExactEntryOkUptoSaid : Prop := fnExactEntryOkUptoRow.holds Try.pinned (OpenSpec.upto fnExactEntryOkSpec)

/-- 'laws.FnExactSketchBytes', WHERE WHAT IT READS IS OF BULK AT MOST 1048576: true; the input reads as it did. -/
def fnExactSketchBytesUptoRow : OpenClaim := { program := "ythmggcdjagiigaa", sum := "46cdd73778e6d3d773212de46453c87221f8f47d628024959c0152ca77584092", func := "loop.example/g00491/laws.FnExactSketchBytes", spec := "fnExactSketchBytes", apart := false, narrowed := true }
def FnExactSketchBytesUptoSaid : Prop := fnExactSketchBytesUptoRow.holds Try.pinned (OpenSpec.upto fnExactSketchBytesSpec)

/-- 'laws.FnExactSketchOf', WHERE WHAT IT READS IS OF BULK AT MOST 1048576: true; the input reads as it did. -/
def fnExactSketchOfUptoRow : OpenClaim := { program := "ythmggcdjagiigaa", sum := "46cdd73778e6d3d773212de46453c87221f8f47d628024959c0152ca77584092", func := "loop.example/g00491/laws.FnExactSketchOf", spec := "fnExactSketchOf", apart := false, narrowed := true }
def FnExactSketchOfUptoSaid : Prop := fnExactSketchOfUptoRow.holds Try.pinned (OpenSpec.upto fnExactSketchOfSpec)

/-- 'laws.FnExactEntrySize', WHERE WHAT IT READS IS OF BULK AT MOST 1048576: true; the input reads as it did. -/
def fnExactEntrySizeUptoRow : OpenClaim := { program := "ythmggcdjagiigaa", sum := "46cdd73778e6d3d773212de46453c87221f8f47d628024959c0152ca77584092", func := "loop.example/g00491/laws.FnExactEntrySize", spec := "fnExactEntrySize", apart := false, narrowed := true }
def FnExactEntrySizeUptoSaid : Prop := fnExactEntrySizeUptoRow.holds Try.pinned (OpenSpec.upto fnExactEntrySizeSpec)

end Rows
end Go.Proofs.Ythmggcdjagiigaa
