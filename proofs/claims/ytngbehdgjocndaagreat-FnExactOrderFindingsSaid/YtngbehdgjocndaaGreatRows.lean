/-
  No cell of these rows narrows 'for every input' (looked for: loops, veiled, ifaces, maps, wideKeys, modest, calm, conditions, laid).
  DERIVED. THE GIVEN ROWS OF THIS SEAT. 3 by the template 'for every input the law returns true; each argument reads behind the call as it read before'; 0 by the template 'total and deterministic' (their statements: YtngbehdgjocndaaGreatTotals.lean).
  GIVEN WITH THE SEED: the statements are not yours to turn. If you find one false, say at which input.
  Laid BY PROGRAM, IN A SANDBOX (cutbox-rows.mjs): the forced cells as the released guide's own fill.sh prints them over the translation d3ae10bd7ec7f28c… (all of the seat's roots in one cut). By AI agents, Wed Nov 11 2026. No macro, syntax, notation, axiom, sorry.
-/
import Derived.Test.YtngbehdgjocndaaGreatChecked
import GoSem.Claim
import GoSem.ClaimJoined
import GoSem.ClaimMapViews
import Derived.JoinedTies
import Derived.KernelRfl
namespace Go.Proofs.YtngbehdgjocndaaGreat
/- THE CELL 'sum', in the pinned program and in every row, IS THE sha256 OF THE DUMP (.gsa) THAT YtngbehdgjocndaaGreatProg.lean LOADS. Nothing in Lean hashes anything: it is a label: what it is worth is what the hold of that sum in a sandbox is worth. -/
noncomputable def Tryz.pinned : Pinned := { name := "ytngbehdgjocndaagreat", sum := "d3ae10bd7ec7f28c1f568ee6cd502a78435e84a2877a2e80a8c321a5e1defa70", checked := Tryz.checked }
namespace Rows
def none {H : Type} : Left H := { results := [], args := [] }

/-- 'laws.FnExactNestFindings': WHATEVER THE INPUT: true; the input reads as it did. -/
def fnExactNestFindingsSpec : ChangeSpec := { name := "fnExactNestFindings", fn := fun _ => fun
  | [d] => { results := [.lit (.bool true)], args := [d] }
  | _ => none }
def fnExactNestFindingsRow : OpenClaim := { program := "ytngbehdgjocndaagreat", sum := "d3ae10bd7ec7f28c1f568ee6cd502a78435e84a2877a2e80a8c321a5e1defa70", func := "loop.example/g00956/laws.FnExactNestFindings", spec := "fnExactNestFindings", unfollowed := true, recurses := true, named := ["math/bits.divideError", "math/bits.overflowError"], apart := false }
def FnExactNestFindingsSaid : Prop := fnExactNestFindingsRow.holds Tryz.pinned (OpenSpec.ofChange fnExactNestFindingsSpec)

/-- ITS FALSE NEIGHBOUR: 'it returns false'. Refute it at one input. -/
def fnExactNestFindingsWrong : ChangeSpec := { name := "fnExactNestFindings", fn := fun _ => fun
  | [d] => { results := [.lit (.bool false)], args := [d] }
  | _ => none }
def FnExactNestFindingsWrongFalsely : Prop := fnExactNestFindingsRow.holds Tryz.pinned (OpenSpec.ofChange fnExactNestFindingsWrong)

/-- 'laws.FnExactCoverFindings': WHATEVER THE INPUT: true; the input reads as it did. -/
def fnExactCoverFindingsSpec : ChangeSpec := { name := "fnExactCoverFindings", fn := fun _ => fun
  | [d] => { results := [.lit (.bool true)], args := [d] }
  | _ => none }
def fnExactCoverFindingsRow : OpenClaim := { program := "ytngbehdgjocndaagreat", sum := "d3ae10bd7ec7f28c1f568ee6cd502a78435e84a2877a2e80a8c321a5e1defa70", func := "loop.example/g00956/laws.FnExactCoverFindings", spec := "fnExactCoverFindings", unfollowed := true, recurses := true, apart := false }
def FnExactCoverFindingsSaid : Prop := fnExactCoverFindingsRow.holds Tryz.pinned (OpenSpec.ofChange fnExactCoverFindingsSpec)

/-- ITS FALSE NEIGHBOUR: 'it returns false'. Refute it at one input. -/
def fnExactCoverFindingsWrong : ChangeSpec := { name := "fnExactCoverFindings", fn := fun _ => fun
  | [d] => { results := [.lit (.bool false)], args := [d] }
  | _ => none }
def FnExactCoverFindingsWrongFalsely : Prop := fnExactCoverFindingsRow.holds Tryz.pinned (OpenSpec.ofChange fnExactCoverFindingsWrong)

/-- 'laws.FnExactOrderFindings': WHATEVER THE INPUT: true; the input reads as it did. -/
def fnExactOrderFindingsSpec : ChangeSpec := { name := "fnExactOrderFindings", fn := fun _ => fun
  | [d] => { results := [.lit (.bool true)], args := [d] }
  | _ => none }
def fnExactOrderFindingsRow : OpenClaim := { program := "ytngbehdgjocndaagreat", sum := "d3ae10bd7ec7f28c1f568ee6cd502a78435e84a2877a2e80a8c321a5e1defa70", func := "loop.example/g00956/laws.FnExactOrderFindings", spec := "fnExactOrderFindings", unfollowed := true, recurses := true, apart := false }
def FnExactOrderFindingsSaid : Prop := fnExactOrderFindingsRow.holds Tryz.pinned (OpenSpec.ofChange fnExactOrderFindingsSpec)

/-- ITS FALSE NEIGHBOUR: 'it returns false'. Refute it at one input. -/
def fnExactOrderFindingsWrong : ChangeSpec := { name := "fnExactOrderFindings", fn := fun _ => fun
  | [d] => { results := [.lit (.bool false)], args := [d] }
  | _ => none }
def FnExactOrderFindingsWrongFalsely : Prop := fnExactOrderFindingsRow.holds Tryz.pinned (OpenSpec.ofChange fnExactOrderFindingsWrong)

/- THE SECOND FORM. 'bulk': how many values and letters a reading holds, each counted each time it is reached (what is shared counts as often as it is met; a slice's spare places count too). A statement '..UptoSaid' is the law's where the arguments, and the package variables that the reading takes, are together of bulk at most 1048576: NARROWER than '..Said'. Prove '..Said' where nothing that the law and all that it calls make is longer than what came in: it says more and counts as full. Else prove '..UptoSaid'. A law counts once. -/
mutual
def uptoBulk {H : Type} : DataW H → Nat
  | .lit (.string bytes) => bytes.length + 1
  | .lit _ => 1
  | .nil => 1
  | .ptr d => uptoBulk d + 1
  | .slice elems spare => uptoBulkAll elems + uptoBulkAll spare + 1
  | .agg parts => uptoBulkAll parts + 1
  | .iface _ d => uptoBulk d + 1
  | .map entries => uptoBulkEntries entries + 1
  | .held _ => 1
def uptoBulkAll {H : Type} : List (DataW H) → Nat
  | [] => 0
  | d :: r => uptoBulk d + uptoBulkAll r
def uptoBulkEntries {H : Type} : List (Lit × DataW H) → Nat
  | [] => 0
  | x :: r => uptoBulkEntry x + uptoBulkEntries r
def uptoBulkEntry {H : Type} : Lit × DataW H → Nat
  | (.string bytes, d) => bytes.length + uptoBulk d + 1
  | (_, d) => uptoBulk d + 1
 end
def uptoSmall : (H : Type) → List (DataW H) → Bool := fun _ ds => decide (uptoBulkAll ds ≤ 1048576)
def OpenSpec.upto (s : _root_.Go.ChangeSpec) : _root_.Go.OpenSpec := { _root_.Go.OpenSpec.ofChange s with cond := some uptoSmall }

/-- 'laws.FnExactNestFindings', WHERE WHAT IT READS IS OF BULK AT MOST 1048576: true; the input reads as it did. -/
def fnExactNestFindingsUptoRow : OpenClaim := { program := "ytngbehdgjocndaagreat", sum := "d3ae10bd7ec7f28c1f568ee6cd502a78435e84a2877a2e80a8c321a5e1defa70", func := "loop.example/g00956/laws.FnExactNestFindings", spec := "fnExactNestFindings", unfollowed := true, recurses := true, named := ["math/bits.divideError", "math/bits.overflowError"], apart := false, narrowed := true }
def FnExactNestFindingsUptoSaid : Prop := fnExactNestFindingsUptoRow.holds Tryz.pinned (OpenSpec.upto fnExactNestFindingsSpec)

/-- 'laws.FnExactCoverFindings', WHERE WHAT IT READS IS OF BULK AT MOST 1048576: true; the input reads as it did. -/
def fnExactCoverFindingsUptoRow : OpenClaim := { program := "ytngbehdgjocndaagreat", sum := "d3ae10bd7ec7f28c1f568ee6cd502a78435e84a2877a2e80a8c321a5e1defa70", func := "loop.example/g00956/laws.FnExactCoverFindings", spec := "fnExactCoverFindings", unfollowed := true, recurses := true, apart := false, narrowed := true }
def FnExactCoverFindingsUptoSaid : Prop := fnExactCoverFindingsUptoRow.holds Tryz.pinned (OpenSpec.upto fnExactCoverFindingsSpec)

/-- 'laws.FnExactOrderFindings', WHERE WHAT IT READS IS OF BULK AT MOST 1048576: true; the input reads as it did. -/
def fnExactOrderFindingsUptoRow : OpenClaim := { program := "ytngbehdgjocndaagreat", sum := "d3ae10bd7ec7f28c1f568ee6cd502a78435e84a2877a2e80a8c321a5e1defa70", func := "loop.example/g00956/laws.FnExactOrderFindings", spec := "fnExactOrderFindings", unfollowed := true, recurses := true, apart := false, narrowed := true }
def FnExactOrderFindingsUptoSaid : Prop := fnExactOrderFindingsUptoRow.holds Tryz.pinned (OpenSpec.upto fnExactOrderFindingsSpec)

end Rows
end Go.Proofs.YtngbehdgjocndaaGreat
