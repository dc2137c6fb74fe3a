/-
  No cell of these rows narrows 'for every input' (looked for: loops, veiled, ifaces, maps, wideKeys, modest, calm, conditions, laid).
  DERIVED. THE GIVEN ROWS OF THIS SEAT. 4 by the template 'for every input the law returns true; each argument reads behind the call as it read before'; 0 by the template 'total and deterministic' (their statements: YtdciagkholijlaaTotals.lean).
  GIVEN WITH THE SEED: the statements are not yours to turn. If you find one false, say at which input.
  Laid BY PROGRAM, IN A SANDBOX (cutbox-rows.mjs): the forced cells as the released guide's own fill.sh prints them over the translation 5409a4587a2950f6… (all of the seat's roots in one cut). By AI agents, Wed Nov 11 2026. No macro, syntax, notation, axiom, sorry.
-/
import Derived.Test.YtdciagkholijlaaChecked
import GoSem.Claim
import GoSem.ClaimJoined
import GoSem.ClaimMapViews
import Derived.JoinedTies
import Derived.KernelRfl
namespace Go.Proofs.Ytdciagkholijlaa
/- THE CELL 'sum', in the pinned program and in every row, IS THE sha256 OF THE DUMP (.gsa) THAT YtdciagkholijlaaProg.lean LOADS. Nothing in Lean hashes anything: it is a label: what it is worth is what the hold of that sum in a sandbox is worth. -/
noncomputable def Try.pinned : Pinned := { name := "ytdciagkholijlaa", sum := "5409a4587a2950f66a554afe94f0291bacbe5825dc717c3068df17016b22dc42", checked := Try.checked }
namespace Rows
def none {H : Type} : Left H := { results := [], args := [] }

/-- 'laws.FnItems': WHATEVER THE INPUT: true; the input reads as it did. -/
def fnItemsSpec : ChangeSpec := { name := "fnItems", fn := fun _ => fun
  | [d] => { results := [.lit (.bool true)], args := [d] }
  | _ => none }
def fnItemsRow : OpenClaim := { program := "ytdciagkholijlaa", sum := "5409a4587a2950f66a554afe94f0291bacbe5825dc717c3068df17016b22dc42", func := "loop.example/g00491/laws.FnItems", spec := "fnItems", unfollowed := true, recurses := true, apart := false }
def FnItemsSaid : Prop := fnItemsRow.holds Try.pinned (OpenSpec.ofChange fnItemsSpec)

/-- ITS FALSE NEIGHBOUR: 'it returns false'. Refute it at one input. -/
def fnItemsWrong : ChangeSpec := { name := "fnItems", fn := fun _ => fun
  | [d] => { results := [.lit (.bool false)], args := [d] }
  | _ => none }
def FnItemsWrongFalsely : Prop := fnItemsRow.holds Try.pinned (OpenSpec.ofChange fnItemsWrong)

/-- 'laws.FnExactEntryOf': WHATEVER THE INPUT: true; the input reads as it did. -/
def fnExactEntryOfSpec : ChangeSpec := { name := "fnExactEntryOf", fn := fun _ => fun
  | [d1, d2] => { results := [.lit (.bool true)], args := [d1, d2] }
  | _ => none }
def fnExactEntryOfRow : OpenClaim := { program := "ytdciagkholijlaa", sum := "5409a4587a2950f66a554afe94f0291bacbe5825dc717c3068df17016b22dc42", func := "loop.example/g00491/laws.FnExactEntryOf", spec := "fnExactEntryOf", apart := false }
def FnExactEntryOfSaid : Prop := fnExactEntryOfRow.holds Try.pinned (OpenSpec.ofChange fnExactEntryOfSpec)

/-- ITS FALSE NEIGHBOUR: 'it returns false'. Refute it at one input. -/
def fnExactEntryOfWrong : ChangeSpec := { name := "fnExactEntryOf", fn := fun _ => fun
  | [d1, d2] => { results := [.lit (.bool false)], args := [d1, d2] }
  | _ => none }
def FnExactEntryOfWrongFalsely : Prop := fnExactEntryOfRow.holds Try.pinned (OpenSpec.ofChange fnExactEntryOfWrong)

/-- 'laws.FnEntries': WHATEVER THE INPUT: true; the input reads as it did. -/
def fnEntriesSpec : ChangeSpec := { name := "fnEntries", fn := fun _ => fun
  | [d] => { results := [.lit (.bool true)], args := [d] }
  | _ => none }
def fnEntriesRow : OpenClaim := { program := "ytdciagkholijlaa", sum := "5409a4587a2950f66a554afe94f0291bacbe5825dc717c3068df17016b22dc42", func := "loop.example/g00491/laws.FnEntries", spec := "fnEntries", unfollowed := true, recurses := true, apart := false }
def FnEntriesSaid : Prop := fnEntriesRow.holds Try.pinned (OpenSpec.ofChange fnEntriesSpec)

/-- ITS FALSE NEIGHBOUR: 'it returns false'. Refute it at one input. -/
def fnEntriesWrong : ChangeSpec := { name := "fnEntries", fn := fun _ => fun
  | [d] => { results := [.lit (.bool false)], args := [d] }
  | _ => none }
def FnEntriesWrongFalsely : Prop := fnEntriesRow.holds Try.pinned (OpenSpec.ofChange fnEntriesWrong)

/-- 'laws.FnExactEntryAdd': WHATEVER THE INPUT: true; the input reads as it did. -/
def fnExactEntryAddSpec : ChangeSpec := { name := "fnExactEntryAdd", fn := fun _ => fun
  | [d1, d2] => { results := [.lit (.bool true)], args := [d1, d2] }
  | _ => none }
def fnExactEntryAddRow : OpenClaim := { program := "ytdciagkholijlaa", sum := "5409a4587a2950f66a554afe94f0291bacbe5825dc717c3068df17016b22dc42", func := "loop.example/g00491/laws.FnExactEntryAdd", spec := "fnExactEntryAdd", unfollowed := true, recurses := true, apart := false }
def FnExactEntryAddSaid : Prop := fnExactEntryAddRow.holds Try.pinned (OpenSpec.ofChange fnExactEntryAddSpec)

/-- ITS FALSE NEIGHBOUR: 'it returns false'. Refute it at one input. -/
def fnExactEntryAddWrong : ChangeSpec := { name := "fnExactEntryAdd", fn := fun _ => fun
  | [d1, d2] => { results := [.lit (.bool false)], args := [d1, d2] }
  | _ => none }
def FnExactEntryAddWrongFalsely : Prop := fnExactEntryAddRow.holds Try.pinned (OpenSpec.ofChange fnExactEntryAddWrong)

/- THE SECOND FORM. 'bulk': how many values and letters a reading holds, each counted each time it is reached (what is shared counts as often as it is met; a slice's spare places count too). A statement '..UptoSaid' is the law's where the arguments, and the package variables that the reading takes, are together of bulk at most 1048576: NARROWER than '..Said'. Prove '..Said' where nothing that the law and all that it calls make is longer than what came in: it says more and counts as full. Else prove '..UptoSaid'. A law counts once. -/
mutual
def uptoBulk {H : Type} : DataW H → Nat
  | .lit (.string bytes) => bytes.length + 1
  | .lit _ => 1
  | .nil => 1
  | .ptr d => uptoBulk d + 1
  | .slice elems spare => uptoBulkAll elems + uptoBulkAll spare + 1
  | .agg parts => uptoBulkAll parts + 1
  | .iface _ d => uptoBulk d + 1
  | .map entries => uptoBulkEntries entries + 1
  | .held _ => 1
def uptoBulkAll {H : Type} : List (DataW H) → Nat
  | [] => 0
  | d :: r => uptoBulk d + uptoBulkAll r
def uptoBulkEntries {H : Type} : List (Lit × DataW H) → Nat
  | [] => 0
  | x :: r => uptoBulkEntry x + uptoBulkEntries r
def uptoBulkEntry {H : Type} : Lit × DataW H → Nat
  | (.string bytes, d) => bytes.length + uptoBulk d + 1
  | (_, d) => uptoBulk d + 1
 end
def uptoSmall : (H : Type) → List (DataW H) → Bool := fun _ ds => decide (uptoBulkAll ds ≤ 1048576)
def OpenSpec.upto (s : _root_.Go.ChangeSpec) : _root_.Go.OpenSpec := { _root_.Go.OpenSpec.ofChange s with cond := some uptoSmall }

/-- 'laws.FnItems', WHERE WHAT IT READS IS OF BULK AT MOST 1048576: true; the input reads as it did. -/
def fnItemsUptoRow : OpenClaim := { program := "ytdciagkholijlaa", sum := "5409a4587a2950f66a554afe94f0291bacbe5825dc717c3068df17016b22dc42", func := "loop.example/g00491/laws.FnItems", spec := "fnItems", unfollowed := true, recurses := true, apart := false, narrowed := true }
def FnItemsUptoSaid : Prop := fnItemsUptoRow.holds Try.pinned (OpenSpec.upto fnItemsSpec)

/-- 'laws.FnExactEntryOf', WHERE WHAT IT READS IS OF BULK AT MOST 1048576: true; the input reads as it did. -/
def fnExactEntryOfUptoRow : OpenClaim := { program := "ytdciagkholijlaa", sum := "5409a4587a2950f66a554afe94f0291bacbe5825dc717c3068df17016b22dc42", func := "loop.example/g00491/laws.FnExactEntryOf", spec := "fnExactEntryOf", apart := false, narrowed := true }
def FnExactEntryOfUptoSaid : Prop := fnExactEntryOfUptoRow.holds Try.pinned (OpenSpec.upto fnExactEntryOfSpec)

/-- 'laws.FnEntries', WHERE WHAT IT READS IS OF BULK AT MOST 1048576: true; the input reads as it did. -/
def fnEntriesUptoRow : OpenClaim := { program := "ytdciagkholijlaa", sum := "5409a4587a2950f66a554afe94f0291bacbe5825dc717c3068df17016b22dc42", func := "loop.example/g00491/laws.FnEntries", spec := "fnEntries", unfollowed := true, recurses := true, apart := false, narrowed := true }
def FnEntriesUptoSaid : Prop := fnEntriesUptoRow.holds Try.pinned (OpenSpec.upto fnEntriesSpec)

/-- 'laws.FnExactEntryAdd', WHERE WHAT IT READS IS OF BULK AT MOST 1048576: true; the input reads as it did. -/
def fnExactEntryAddUptoRow : OpenClaim := { program := "ytdciagkholijlaa", sum := "5409a4587a2950f66a554afe94f0291bacbe5825dc717c3068df17016b22dc42", func := "loop.example/g00491/laws.FnExactEntryAdd", spec := "fnExactEntryAdd", unfollowed := true, recurses := true, apart := false, narrowed := true }
def FnExactEntryAddUptoSaid : Prop := fnExactEntryAddUptoRow.holds Try.pinned (OpenSpec.upto fnExactEntryAddSpec)

end Rows
end Go.Proofs.Ytdciagkholijlaa
