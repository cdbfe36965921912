/-
  No cell of these rows narrows 'for every input' (looked for: loops, veiled, ifaces, maps, wideKeys, modest, calm, conditions, laid).
  DERIVED. THE GIVEN ROWS OF THIS SEAT. 4 by the template 'for every input the law returns true; each argument reads behind the call as it read before'; 0 by the template 'total and deterministic' (their statements: YteglmkbkjaeijabTotals.lean).
  GIVEN WITH THE SEED: the statements are not yours to turn. If you find one false, say at which input.
  Laid BY PROGRAM, IN A SANDBOX (cutbox-rows.mjs): the forced cells as the released guide's own fill.sh prints them over the translation 7198e18ba5072593… (all of the seat's roots in one cut). By AI agents, Wed Nov 11 2026. No macro, syntax, notation, axiom, sorry.
-/
import Derived.Test.YteglmkbkjaeijabChecked
import GoSem.Claim
import GoSem.ClaimJoined
import GoSem.ClaimMapViews
import Derived.JoinedTies
import Derived.KernelRfl
namespace Go.Proofs.Yteglmkbkjaeijab
/- THE CELL 'sum', in the pinned program and in every row, IS THE sha256 OF THE DUMP (.gsa) THAT YteglmkbkjaeijabProg.lean LOADS. Nothing in Lean hashes anything: it is a label: what it is worth is what the hold of that sum in a sandbox is worth. -/
noncomputable def Try.pinned : Pinned := { name := "yteglmkbkjaeijab", sum := "7198e18ba5072593a22bbc5efd977cff5ef868a492a465c2ab69a75be57bcb2d", checked := Try.checked }
namespace Rows
def none {H : Type} : Left H := { results := [], args := [] }

/-- 'laws.FnExactBoardsFor': WHATEVER THE INPUT: true; the input reads as it did. -/
def fnExactBoardsForSpec : ChangeSpec := { name := "fnExactBoardsFor", fn := fun _ => fun
  | [d1, d2, d3] => { results := [.lit (.bool true)], args := [d1, d2, d3] }
  | _ => none }
def fnExactBoardsForRow : OpenClaim := { program := "yteglmkbkjaeijab", sum := "7198e18ba5072593a22bbc5efd977cff5ef868a492a465c2ab69a75be57bcb2d", func := "loop.example/g00956/laws.FnExactBoardsFor", spec := "fnExactBoardsFor", apart := false }
def FnExactBoardsForSaid : Prop := fnExactBoardsForRow.holds Try.pinned (OpenSpec.ofChange fnExactBoardsForSpec)

/-- ITS FALSE NEIGHBOUR: 'it returns false'. Refute it at one input. -/
def fnExactBoardsForWrong : ChangeSpec := { name := "fnExactBoardsFor", fn := fun _ => fun
  | [d1, d2, d3] => { results := [.lit (.bool false)], args := [d1, d2, d3] }
  | _ => none }
def FnExactBoardsForWrongFalsely : Prop := fnExactBoardsForRow.holds Try.pinned (OpenSpec.ofChange fnExactBoardsForWrong)

/-- 'laws.FnExactGreedyFloor': WHATEVER THE INPUT: true; the input reads as it did. -/
def fnExactGreedyFloorSpec : ChangeSpec := { name := "fnExactGreedyFloor", fn := fun _ => fun
  | [d1, d2] => { results := [.lit (.bool true)], args := [d1, d2] }
  | _ => none }
def fnExactGreedyFloorRow : OpenClaim := { program := "yteglmkbkjaeijab", sum := "7198e18ba5072593a22bbc5efd977cff5ef868a492a465c2ab69a75be57bcb2d", func := "loop.example/g00956/laws.FnExactGreedyFloor", spec := "fnExactGreedyFloor", apart := false }
def FnExactGreedyFloorSaid : Prop := fnExactGreedyFloorRow.holds Try.pinned (OpenSpec.ofChange fnExactGreedyFloorSpec)

/-- ITS FALSE NEIGHBOUR: 'it returns false'. Refute it at one input. -/
def fnExactGreedyFloorWrong : ChangeSpec := { name := "fnExactGreedyFloor", fn := fun _ => fun
  | [d1, d2] => { results := [.lit (.bool false)], args := [d1, d2] }
  | _ => none }
def FnExactGreedyFloorWrongFalsely : Prop := fnExactGreedyFloorRow.holds Try.pinned (OpenSpec.ofChange fnExactGreedyFloorWrong)

/-- 'laws.FnExactWasteShare': WHATEVER THE INPUT: true; the input reads as it did. -/
def fnExactWasteShareSpec : ChangeSpec := { name := "fnExactWasteShare", fn := fun _ => fun
  | [d1, d2, d3] => { results := [.lit (.bool true)], args := [d1, d2, d3] }
  | _ => none }
def fnExactWasteShareRow : OpenClaim := { program := "yteglmkbkjaeijab", sum := "7198e18ba5072593a22bbc5efd977cff5ef868a492a465c2ab69a75be57bcb2d", func := "loop.example/g00956/laws.FnExactWasteShare", spec := "fnExactWasteShare", apart := false }
def FnExactWasteShareSaid : Prop := fnExactWasteShareRow.holds Try.pinned (OpenSpec.ofChange fnExactWasteShareSpec)

/-- ITS FALSE NEIGHBOUR: 'it returns false'. Refute it at one input. -/
def fnExactWasteShareWrong : ChangeSpec := { name := "fnExactWasteShare", fn := fun _ => fun
  | [d1, d2, d3] => { results := [.lit (.bool false)], args := [d1, d2, d3] }
  | _ => none }
def FnExactWasteShareWrongFalsely : Prop := fnExactWasteShareRow.holds Try.pinned (OpenSpec.ofChange fnExactWasteShareWrong)

/-- 'laws.FnExactBestFloor': WHATEVER THE INPUT: true; the input reads as it did. -/
def fnExactBestFloorSpec : ChangeSpec := { name := "fnExactBestFloor", fn := fun _ => fun
  | [d1, d2, d3, d4] => { results := [.lit (.bool true)], args := [d1, d2, d3, d4] }
  | _ => none }
def fnExactBestFloorRow : OpenClaim := { program := "yteglmkbkjaeijab", sum := "7198e18ba5072593a22bbc5efd977cff5ef868a492a465c2ab69a75be57bcb2d", func := "loop.example/g00956/laws.FnExactBestFloor", spec := "fnExactBestFloor", recurses := true, apart := false }
def FnExactBestFloorSaid : Prop := fnExactBestFloorRow.holds Try.pinned (OpenSpec.ofChange fnExactBestFloorSpec)

/-- ITS FALSE NEIGHBOUR: 'it returns false'. Refute it at one input. -/
def fnExactBestFloorWrong : ChangeSpec := { name := "fnExactBestFloor", fn := fun _ => fun
  | [d1, d2, d3, d4] => { results := [.lit (.bool false)], args := [d1, d2, d3, d4] }
  | _ => none }
def FnExactBestFloorWrongFalsely : Prop := fnExactBestFloorRow.holds Try.pinned (OpenSpec.ofChange fnExactBestFloorWrong)

/- THE SECOND FORM. 'bulk': how many values and letters a reading holds, each counted each time it is reached (what is shared counts as often as it is met; a slice's spare places count too). A statement '..UptoSaid' is the law's where the arguments, and the package variables that the reading takes, are together of bulk at most 1048576: NARROWER than '..Said'. Prove '..Said' where nothing that the law and all that it calls make is longer than what came in: it says more and counts as full. Else prove '..UptoSaid'. A law counts once. -/
mutual
def uptoBulk {H : Type} : DataW H → Nat
  | .lit (.string bytes) => bytes.length + 1
  | .lit _ => 1
  | .nil => 1
  | .ptr d => uptoBulk d + 1
  | .slice elems spare => uptoBulkAll elems + uptoBulkAll spare + 1
  | .agg parts => uptoBulkAll parts + 1
  | .iface _ d => uptoBulk d + 1
  | .map entries => uptoBulkEntries entries + 1
  | .held _ => 1
def uptoBulkAll {H : Type} : List (DataW H) → Nat
  | [] => 0
  | d :: r => uptoBulk d + uptoBulkAll r
def uptoBulkEntries {H : Type} : List (Lit × DataW H) → Nat
  | [] => 0
  | x :: r => uptoBulkEntry x + uptoBulkEntries r
def uptoBulkEntry {H : Type} : Lit × DataW H → Nat
  | (.string bytes, d) => bytes.length + uptoBulk d + 1
  | (_, d) => uptoBulk d + 1
 end
def uptoSmall : (H : Type) → List (DataW H) → Bool := fun _ ds => decide (uptoBulkAll ds ≤ 1048576)
def OpenSpec.upto (s : _root_.Go.ChangeSpec) : _root_.Go.OpenSpec := { _root_.Go.OpenSpec.ofChange s with cond := some uptoSmall }

/-- 'laws.FnExactBoardsFor', WHERE WHAT IT READS IS OF BULK AT MOST 1048576: true; the input reads as it did. -/
def fnExactBoardsForUptoRow : OpenClaim := { program := "yteglmkbkjaeijab", sum := "7198e18ba5072593a22bbc5efd977cff5ef868a492a465c2ab69a75be57bcb2d", func := "loop.example/g00956/laws.FnExactBoardsFor", spec := "fnExactBoardsFor", apart := false, narrowed := true }
def FnExactBoardsForUptoSaid : Prop := fnExactBoardsForUptoRow.holds Try.pinned (OpenSpec.upto fnExactBoardsForSpec)

/-- 'laws.FnExactGreedyFloor', WHERE WHAT IT READS IS OF BULK AT MOST 1048576: true; the input reads as it did. -/
def fnExactGreedyFloorUptoRow : OpenClaim := { program := "yteglmkbkjaeijab", sum := "7198e18ba5072593a22bbc5efd977cff5ef868a492a465c2ab69a75be57bcb2d", func := "loop.example/g00956/laws.FnExactGreedyFloor", spec := "fnExactGreedyFloor", apart := false, narrowed := true }
def FnExactGreedyFloorUptoSaid : Prop := fnExactGreedyFloorUptoRow.holds Try.pinned (OpenSpec.upto fnExactGreedyFloorSpec)

/-- 'laws.FnExactWasteShare', WHERE WHAT IT READS IS OF BULK AT MOST 1048576: true; the input reads as it did. -/
def fnExactWasteShareUptoRow : OpenClaim := { program := "yteglmkbkjaeijab", sum := "7198e18ba5072593a22bbc5efd977cff5ef868a492a465c2ab69a75be57bcb2d", func := "loop.example/g00956/laws.FnExactWasteShare", spec := "fnExactWasteShare", apart := false, narrowed := true }
def FnExactWasteShareUptoSaid : Prop := fnExactWasteShareUptoRow.holds Try.pinned (OpenSpec.upto fnExactWasteShareSpec)

/-- 'laws.FnExactBestFloor', WHERE WHAT IT READS IS OF BULK AT MOST 1048576: true; the input reads as it did. -/
def fnExactBestFloorUptoRow : OpenClaim := { program := "yteglmkbkjaeijab", sum := "7198e18ba5072593a22bbc5efd977cff5ef868a492a465c2ab69a75be57bcb2d", func := "loop.example/g00956/laws.FnExactBestFloor", spec := "fnExactBestFloor", recurses := true, apart := false, narrowed := true }
def FnExactBestFloorUptoSaid : Prop := fnExactBestFloorUptoRow.holds Try.pinned (OpenSpec.upto fnExactBestFloorSpec)

end Rows
end Go.Proofs.Yteglmkbkjaeijab
