/-
  No cell of these rows narrows 'for every input' (looked for: loops, veiled, ifaces, maps, wideKeys, modest, calm, conditions, laid).
  DERIVED. THE GIVEN ROWS OF THIS SEAT. 9 by the template 'for every input the law returns true; each argument reads behind the call as it read before'; 0 by the template 'total and deterministic' (their statements: YtpmgajcjanihhaaTotals.lean).
  GIVEN WITH THE SEED: the statements are not yours to turn. If you find one false, say at which input.
  Laid BY PROGRAM, IN A SANDBOX (cutbox-rows.mjs): the forced cells as the released guide's own fill.sh prints them over the translation 23ebb47cc78254aa… (all of the seat's roots in one cut). By AI agents, Wed Nov 11 2026. No macro, syntax, notation, axiom, sorry.
-/
import Derived.Test.YtpmgajcjanihhaaChecked
import GoSem.Claim
import GoSem.ClaimJoined
import GoSem.ClaimMapViews
import Derived.JoinedTies
import Derived.KernelRfl
namespace Go.Proofs.Ytpmgajcjanihhaa
/- THE CELL 'sum', in the pinned program and in every row, IS THE sha256 OF THE DUMP (.gsa) THAT YtpmgajcjanihhaaProg.lean LOADS. Nothing in Lean hashes anything: it is a label: what it is worth is what the hold of that sum in a sandbox is worth. -/
noncomputable def Try.pinned : Pinned := { name := "ytpmgajcjanihhaa", sum := "23ebb47cc78254aae70e1b7add5cc520c8a7aaeebf1389730b0b9a1c2ab90d9e", checked := Try.checked }
namespace Rows
def none {H : Type} : Left H := { results := [], args := [] }

/-- 'laws.FnExactSetHas': WHATEVER THE INPUT: true; the input reads as it did. -/
def fnExactSetHasSpec : ChangeSpec := { name := "fnExactSetHas", fn := fun _ => fun
  | [d1, d2] => { results := [.lit (.bool true)], args := [d1, d2] }
  | _ => none }
def fnExactSetHasRow : OpenClaim := { program := "ytpmgajcjanihhaa", sum := "23ebb47cc78254aae70e1b7add5cc520c8a7aaeebf1389730b0b9a1c2ab90d9e", func := "loop.example/g00491/laws.FnExactSetHas", spec := "fnExactSetHas", unfollowed := true, recurses := true, apart := false }
def FnExactSetHasSaid : Prop := fnExactSetHasRow.holds Try.pinned (OpenSpec.ofChange fnExactSetHasSpec)

/-- ITS FALSE NEIGHBOUR: 'it returns false'. Refute it at one input. -/
def fnExactSetHasWrong : ChangeSpec := { name := "fnExactSetHas", fn := fun _ => fun
  | [d1, d2] => { results := [.lit (.bool false)], args := [d1, d2] }
  | _ => none }
def FnExactSetHasWrongFalsely : Prop := fnExactSetHasRow.holds Try.pinned (OpenSpec.ofChange fnExactSetHasWrong)

/-- 'laws.FnExactGetText': WHATEVER THE INPUT: true; the input reads as it did. -/
def fnExactGetTextSpec : ChangeSpec := { name := "fnExactGetText", fn := fun _ => fun
  | [d1, d2] => { results := [.lit (.bool true)], args := [d1, d2] }
  | _ => none }
def fnExactGetTextRow : OpenClaim := { program := "ytpmgajcjanihhaa", sum := "23ebb47cc78254aae70e1b7add5cc520c8a7aaeebf1389730b0b9a1c2ab90d9e", func := "loop.example/g00491/laws.FnExactGetText", spec := "fnExactGetText", apart := false }
def FnExactGetTextSaid : Prop := fnExactGetTextRow.holds Try.pinned (OpenSpec.ofChange fnExactGetTextSpec)

/-- ITS FALSE NEIGHBOUR: 'it returns false'. Refute it at one input. -/
def fnExactGetTextWrong : ChangeSpec := { name := "fnExactGetText", fn := fun _ => fun
  | [d1, d2] => { results := [.lit (.bool false)], args := [d1, d2] }
  | _ => none }
def FnExactGetTextWrongFalsely : Prop := fnExactGetTextRow.holds Try.pinned (OpenSpec.ofChange fnExactGetTextWrong)

/-- 'laws.FnExactSetSize': WHATEVER THE INPUT: true; the input reads as it did. -/
def fnExactSetSizeSpec : ChangeSpec := { name := "fnExactSetSize", fn := fun _ => fun
  | [d] => { results := [.lit (.bool true)], args := [d] }
  | _ => none }
def fnExactSetSizeRow : OpenClaim := { program := "ytpmgajcjanihhaa", sum := "23ebb47cc78254aae70e1b7add5cc520c8a7aaeebf1389730b0b9a1c2ab90d9e", func := "loop.example/g00491/laws.FnExactSetSize", spec := "fnExactSetSize", apart := false }
def FnExactSetSizeSaid : Prop := fnExactSetSizeRow.holds Try.pinned (OpenSpec.ofChange fnExactSetSizeSpec)

/-- ITS FALSE NEIGHBOUR: 'it returns false'. Refute it at one input. -/
def fnExactSetSizeWrong : ChangeSpec := { name := "fnExactSetSize", fn := fun _ => fun
  | [d] => { results := [.lit (.bool false)], args := [d] }
  | _ => none }
def FnExactSetSizeWrongFalsely : Prop := fnExactSetSizeRow.holds Try.pinned (OpenSpec.ofChange fnExactSetSizeWrong)

/-- 'laws.FnExactSetApart': WHATEVER THE INPUT: true; the input reads as it did. -/
def fnExactSetApartSpec : ChangeSpec := { name := "fnExactSetApart", fn := fun _ => fun
  | [d1, d2] => { results := [.lit (.bool true)], args := [d1, d2] }
  | _ => none }
def fnExactSetApartRow : OpenClaim := { program := "ytpmgajcjanihhaa", sum := "23ebb47cc78254aae70e1b7add5cc520c8a7aaeebf1389730b0b9a1c2ab90d9e", func := "loop.example/g00491/laws.FnExactSetApart", spec := "fnExactSetApart", apart := false }
def FnExactSetApartSaid : Prop := fnExactSetApartRow.holds Try.pinned (OpenSpec.ofChange fnExactSetApartSpec)

/-- ITS FALSE NEIGHBOUR: 'it returns false'. Refute it at one input. -/
def fnExactSetApartWrong : ChangeSpec := { name := "fnExactSetApart", fn := fun _ => fun
  | [d1, d2] => { results := [.lit (.bool false)], args := [d1, d2] }
  | _ => none }
def FnExactSetApartWrongFalsely : Prop := fnExactSetApartRow.holds Try.pinned (OpenSpec.ofChange fnExactSetApartWrong)

/-- 'laws.FnExactSketchNew': WHATEVER THE INPUT: true; the input reads as it did. -/
def fnExactSketchNewSpec : ChangeSpec := { name := "fnExactSketchNew", fn := fun _ => fun
  | [] => { results := [.lit (.bool true)], args := [] }
  | _ => none }
def fnExactSketchNewRow : OpenClaim := { program := "ytpmgajcjanihhaa", sum := "23ebb47cc78254aae70e1b7add5cc520c8a7aaeebf1389730b0b9a1c2ab90d9e", func := "loop.example/g00491/laws.FnExactSketchNew", spec := "fnExactSketchNew", apart := false }
def FnExactSketchNewSaid : Prop := fnExactSketchNewRow.holds Try.pinned (OpenSpec.ofChange fnExactSketchNewSpec)

/-- ITS FALSE NEIGHBOUR: 'it returns false'. Refute it at one input. -/
def fnExactSketchNewWrong : ChangeSpec := { name := "fnExactSketchNew", fn := fun _ => fun
  | [] => { results := [.lit (.bool false)], args := [] }
  | _ => none }
def FnExactSketchNewWrongFalsely : Prop := fnExactSketchNewRow.holds Try.pinned (OpenSpec.ofChange fnExactSketchNewWrong)

/-- 'laws.FnNumbers': WHATEVER THE INPUT: true; the input reads as it did. -/
def fnNumbersSpec : ChangeSpec := { name := "fnNumbers", fn := fun _ => fun
  | [d] => { results := [.lit (.bool true)], args := [d] }
  | _ => none }
def fnNumbersRow : OpenClaim := { program := "ytpmgajcjanihhaa", sum := "23ebb47cc78254aae70e1b7add5cc520c8a7aaeebf1389730b0b9a1c2ab90d9e", func := "loop.example/g00491/laws.FnNumbers", spec := "fnNumbers", apart := false }
def FnNumbersSaid : Prop := fnNumbersRow.holds Try.pinned (OpenSpec.ofChange fnNumbersSpec)

/-- ITS FALSE NEIGHBOUR: 'it returns false'. Refute it at one input. -/
def fnNumbersWrong : ChangeSpec := { name := "fnNumbers", fn := fun _ => fun
  | [d] => { results := [.lit (.bool false)], args := [d] }
  | _ => none }
def FnNumbersWrongFalsely : Prop := fnNumbersRow.holds Try.pinned (OpenSpec.ofChange fnNumbersWrong)

/-- 'laws.FnExactSketchSame': WHATEVER THE INPUT: true; the input reads as it did. -/
def fnExactSketchSameSpec : ChangeSpec := { name := "fnExactSketchSame", fn := fun _ => fun
  | [d1, d2] => { results := [.lit (.bool true)], args := [d1, d2] }
  | _ => none }
def fnExactSketchSameRow : OpenClaim := { program := "ytpmgajcjanihhaa", sum := "23ebb47cc78254aae70e1b7add5cc520c8a7aaeebf1389730b0b9a1c2ab90d9e", func := "loop.example/g00491/laws.FnExactSketchSame", spec := "fnExactSketchSame", unfollowed := true, recurses := true, apart := false }
def FnExactSketchSameSaid : Prop := fnExactSketchSameRow.holds Try.pinned (OpenSpec.ofChange fnExactSketchSameSpec)

/-- ITS FALSE NEIGHBOUR: 'it returns false'. Refute it at one input. -/
def fnExactSketchSameWrong : ChangeSpec := { name := "fnExactSketchSame", fn := fun _ => fun
  | [d1, d2] => { results := [.lit (.bool false)], args := [d1, d2] }
  | _ => none }
def FnExactSketchSameWrongFalsely : Prop := fnExactSketchSameRow.holds Try.pinned (OpenSpec.ofChange fnExactSketchSameWrong)

/-- 'laws.FnExactSketchOk': WHATEVER THE INPUT: true; the input reads as it did. -/
def fnExactSketchOkSpec : ChangeSpec := { name := "fnExactSketchOk", fn := fun _ => fun
  | [d] => { results := [.lit (.bool true)], args := [d] }
  | _ => none }
def fnExactSketchOkRow : OpenClaim := { program := "ytpmgajcjanihhaa", sum := "23ebb47cc78254aae70e1b7add5cc520c8a7aaeebf1389730b0b9a1c2ab90d9e", func := "loop.example/g00491/laws.FnExactSketchOk", spec := "fnExactSketchOk", apart := false }
def FnExactSketchOkSaid : Prop := fnExactSketchOkRow.holds Try.pinned (OpenSpec.ofChange fnExactSketchOkSpec)

/-- ITS FALSE NEIGHBOUR: 'it returns false'. Refute it at one input. -/
def fnExactSketchOkWrong : ChangeSpec := { name := "fnExactSketchOk", fn := fun _ => fun
  | [d] => { results := [.lit (.bool false)], args := [d] }
  | _ => none }
def FnExactSketchOkWrongFalsely : Prop := fnExactSketchOkRow.holds Try.pinned (OpenSpec.ofChange fnExactSketchOkWrong)

/-- 'laws.FnExactMean': WHATEVER THE INPUT: true; the input reads as it did. -/
def fnExactMeanSpec : ChangeSpec := { name := "fnExactMean", fn := fun _ => fun
  | [d] => { results := [.lit (.bool true)], args := [d] }
  | _ => none }
def fnExactMeanRow : OpenClaim := { program := "ytpmgajcjanihhaa", sum := "23ebb47cc78254aae70e1b7add5cc520c8a7aaeebf1389730b0b9a1c2ab90d9e", func := "loop.example/g00491/laws.FnExactMean", spec := "fnExactMean", apart := false }
def FnExactMeanSaid : Prop := fnExactMeanRow.holds Try.pinned (OpenSpec.ofChange fnExactMeanSpec)

/-- ITS FALSE NEIGHBOUR: 'it returns false'. Refute it at one input. -/
def fnExactMeanWrong : ChangeSpec := { name := "fnExactMean", fn := fun _ => fun
  | [d] => { results := [.lit (.bool false)], args := [d] }
  | _ => none }
def FnExactMeanWrongFalsely : Prop := fnExactMeanRow.holds Try.pinned (OpenSpec.ofChange fnExactMeanWrong)

/- THE SECOND FORM. 'bulk': how many values and letters a reading holds, each counted each time it is reached (what is shared counts as often as it is met; a slice's spare places count too). A statement '..UptoSaid' is the law's where the arguments, and the package variables that the reading takes, are together of bulk at most 1048576: NARROWER than '..Said'. Prove '..Said' where nothing that the law and all that it calls make is longer than what came in: it says more and counts as full. Else prove '..UptoSaid'. A law counts once. -/
mutual
def uptoBulk {H : Type} : DataW H → Nat
  | .lit (.string bytes) => bytes.length + 1
  | .lit _ => 1
  | .nil => 1
  | .ptr d => uptoBulk d + 1
  | .slice elems spare => uptoBulkAll elems + uptoBulkAll spare + 1
  | .agg parts => uptoBulkAll parts + 1
  | .iface _ d => uptoBulk d + 1
  | .map entries => uptoBulkEntries entries + 1
  | .held _ => 1
def uptoBulkAll {H : Type} : List (DataW H) → Nat
  | [] => 0
  | d :: r => uptoBulk d + uptoBulkAll r
def uptoBulkEntries {H : Type} : List (Lit × DataW H) → Nat
  | [] => 0
  | x :: r => uptoBulkEntry x + uptoBulkEntries r
def uptoBulkEntry {H : Type} : Lit × DataW H → Nat
  | (.string bytes, d) => bytes.length + uptoBulk d + 1
  | (_, d) => uptoBulk d + 1
 end
def uptoSmall : (H : Type) → List (DataW H) → Bool := fun _ ds => decide (uptoBulkAll ds ≤ 1048576)
def OpenSpec.upto (s : _root_.Go.ChangeSpec) : _root_.Go.OpenSpec := { _root_.Go.OpenSpec.ofChange s with cond := some uptoSmall }

/-- 'laws.FnExactSetHas', WHERE WHAT IT READS IS OF BULK AT MOST 1048576: true; the input reads as it did. -/
def fnExactSetHasUptoRow : OpenClaim := { program := "ytpmgajcjanihhaa", sum := "23ebb47cc78254aae70e1b7add5cc520c8a7aaeebf1389730b0b9a1c2ab90d9e", func := "loop.example/g00491/laws.FnExactSetHas", spec := "fnExactSetHas", unfollowed := true, recurses := true, apart := false, narrowed := true }
def FnExactSetHasUptoSaid : Prop := fnExactSetHasUptoRow.holds Try.pinned (OpenSpec.upto fnExactSetHasSpec)

/-- 'laws.FnExactGetText', WHERE WHAT IT READS IS OF BULK AT MOST 1048576: true; the input reads as it did. -/
def fnExactGetTextUptoRow : OpenClaim := { program := "ytpmgajcjanihhaa", sum := "23ebb47cc78254aae70e1b7add5cc520c8a7aaeebf1389730b0b9a1c2ab90d9e", func := "loop.example/g00491/laws.FnExactGetText", spec := "fnExactGetText", apart := false, narrowed := true }
def FnExactGetTextUptoSaid : Prop := fnExactGetTextUptoRow.holds Try.pinned (OpenSpec.upto fnExactGetTextSpec)

/-- 'laws.FnExactSetSize', WHERE WHAT IT READS IS OF BULK AT MOST 1048576: true; the input reads as it did. -/
def fnExactSetSizeUptoRow : OpenClaim := { program := "ytpmgajcjanihhaa", sum := "23ebb47cc78254aae70e1b7add5cc520c8a7aaeebf1389730b0b9a1c2ab90d9e", func := "loop.example/g00491/laws.FnExactSetSize", spec := "fnExactSetSize", apart := false, narrowed := true }
def FnExactSetSizeUptoSaid : Prop := fnExactSetSizeUptoRow.holds Try.pinned (OpenSpec.upto fnExactSetSizeSpec)

/-- 'laws.FnExactSetApart', WHERE WHAT IT READS IS OF BULK AT MOST 1048576: true; the input reads as it did. -/
def fnExactSetApartUptoRow : OpenClaim := { program := "ytpmgajcjanihhaa", sum := "23ebb47cc78254aae70e1b7add5cc520c8a7aaeebf1389730b0b9a1c2ab90d9e", func := "loop.example/g00491/laws.FnExactSetApart", spec := "fnExactSetApart", apart := false, narrowed := true }
def FnExactSetApartUptoSaid : Prop := fnExactSetApartUptoRow.holds Try.pinned (OpenSpec.upto fnExactSetApartSpec)

/-- 'laws.FnExactSketchNew', WHERE WHAT IT READS IS OF BULK AT MOST 1048576: true; the input reads as it did. -/
def fnExactSketchNewUptoRow : OpenClaim := { program := "ytpmgajcjanihhaa", sum := "23ebb47cc78254aae70e1b7add5cc520c8a7aaeebf1389730b0b9a1c2ab90d9e", func := "loop.example/g00491/laws.FnExactSketchNew", spec := "fnExactSketchNew", apart := false, narrowed := true }
def FnExactSketchNewUptoSaid : Prop := fnExactSketchNewUptoRow.holds Try.pinned (OpenSpec.upto fnExactSketchNewSpec)

/-- 'laws.FnNumbers', WHERE WHAT IT READS IS OF BULK AT MOST 1048576: true; the input reads as it did. -/
def fnNumbersUptoRow : OpenClaim := { program := "ytpmgajcjanihhaa", sum := "23ebb47cc78254aae70e1b7add5cc520c8a7aaeebf1389730b0b9a1c2ab90d9e", func := "loop.example/g00491/laws.FnNumbers", spec := "fnNumbers", apart := false, narrowed := true }
def FnNumbersUptoSaid : Prop := fnNumbersUptoRow.holds Try.pinned (OpenSpec.upto fnNumbersSpec)

/-- 'laws.FnExactSketchSame', WHERE WHAT IT READS IS OF BULK AT MOST 1048576: true; the input reads as it did. -/
def fnExactSketchSameUptoRow : OpenClaim := { program := "ytpmgajcjanihhaa", sum := "23ebb47cc78254aae70e1b7add5cc520c8a7aaeebf1389730b0b9a1c2ab90d9e", func := "loop.example/g00491/laws.FnExactSketchSame", spec := "fnExactSketchSame", unfollowed := true, recurses := true, apart := false, narrowed := true }
def FnExactSketchSameUptoSaid : Prop := fnExactSketchSameUptoRow.holds Try.pinned (OpenSpec.upto fnExactSketchSameSpec)

/-- 'laws.FnExactSketchOk', WHERE WHAT IT READS IS OF BULK AT MOST 1048576: true; the input reads as it did. -/
def fnExactSketchOkUptoRow : OpenClaim := { program := "ytpmgajcjanihhaa", sum := "23ebb47cc78254aae70e1b7add5cc520c8a7aaeebf1389730b0b9a1c2ab90d9e", func := "loop.example/g00491/laws.FnExactSketchOk", spec := "fnExactSketchOk", apart := false, narrowed := true }
def FnExactSketchOkUptoSaid : Prop := fnExactSketchOkUptoRow.holds Try.pinned (OpenSpec.upto fnExactSketchOkSpec)

/-- 'laws.FnExactMean', WHERE WHAT IT READS IS OF BULK AT MOST 1048576: true; the input reads as it did. -/
def fnExactMeanUptoRow : OpenClaim := { program := "ytpmgajcjanihhaa", sum := "23ebb47cc78254aae70e1b7add5cc520c8a7aaeebf1389730b0b9a1c2ab90d9e", func := "loop.example/g00491/laws.FnExactMean", spec := "fnExactMean", apart := false, narrowed := true }
def FnExactMeanUptoSaid : Prop := fnExactMeanUptoRow.holds Try.pinned (OpenSpec.upto fnExactMeanSpec)

end Rows
end Go.Proofs.Ytpmgajcjanihhaa
