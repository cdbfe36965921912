/-
  No cell of these rows narrows 'for every input' (looked for: loops, veiled, ifaces, maps, wideKeys, modest, calm, conditions, laid).
  DERIVED. THE GIVEN ROWS OF THIS SEAT. 3 by the template 'for every input the law returns true; each argument reads behind the call as it read before'; 0 by the template 'total and deterministic' (their statements: YtnjgcdpleghciaaGreatTotals.lean).
  GIVEN WITH THE SEED: the statements are not yours to turn. If you find one false, say at which input.
  Laid BY PROGRAM, IN A SANDBOX (cutbox-rows.mjs): the forced cells as the released guide's own fill.sh prints them over the translation 36919823fb3509d4… (all of the seat's roots in one cut). By AI agents, Wed Nov 11 2026. No macro, syntax, notation, axiom, sorry.
-/
import Derived.Test.YtnjgcdpleghciaaGreatChecked
import GoSem.Claim
import GoSem.ClaimJoined
import GoSem.ClaimMapViews
import Derived.JoinedTies
import Derived.KernelRfl
namespace Go.Proofs.YtnjgcdpleghciaaGreat
/- THE CELL 'sum', in the pinned program and in every row, IS THE sha256 OF THE DUMP (.gsa) THAT YtnjgcdpleghciaaGreatProg.lean LOADS. Nothing in Lean hashes anything: it is a label: what it is worth is what the hold of that sum in a sandbox is worth. -/
noncomputable def Tryz.pinned : Pinned := { name := "ytnjgcdpleghciaagreat", sum := "36919823fb3509d490e754505448d5c2dbdbf38c62767747a8cdfbf7d1dbc57d", checked := Tryz.checked }
namespace Rows
def none {H : Type} : Left H := { results := [], args := [] }

/-- 'laws.FnExactFirstColoring': WHATEVER THE INPUT: true; the input reads as it did. -/
def fnExactFirstColoringSpec : ChangeSpec := { name := "fnExactFirstColoring", fn := fun _ => fun
  | [d1, d2, d3, d4] => { results := [.lit (.bool true)], args := [d1, d2, d3, d4] }
  | _ => none }
def fnExactFirstColoringRow : OpenClaim := { program := "ytnjgcdpleghciaagreat", sum := "36919823fb3509d490e754505448d5c2dbdbf38c62767747a8cdfbf7d1dbc57d", func := "loop.example/g00956/laws.FnExactFirstColoring", spec := "fnExactFirstColoring", unfollowed := true, recurses := true, apart := false }
def FnExactFirstColoringSaid : Prop := fnExactFirstColoringRow.holds Tryz.pinned (OpenSpec.ofChange fnExactFirstColoringSpec)

/-- ITS FALSE NEIGHBOUR: 'it returns false'. Refute it at one input. -/
def fnExactFirstColoringWrong : ChangeSpec := { name := "fnExactFirstColoring", fn := fun _ => fun
  | [d1, d2, d3, d4] => { results := [.lit (.bool false)], args := [d1, d2, d3, d4] }
  | _ => none }
def FnExactFirstColoringWrongFalsely : Prop := fnExactFirstColoringRow.holds Tryz.pinned (OpenSpec.ofChange fnExactFirstColoringWrong)

/-- 'laws.FnExactBestColoring': WHATEVER THE INPUT: true; the input reads as it did. -/
def fnExactBestColoringSpec : ChangeSpec := { name := "fnExactBestColoring", fn := fun _ => fun
  | [d1, d2, d3] => { results := [.lit (.bool true)], args := [d1, d2, d3] }
  | _ => none }
def fnExactBestColoringRow : OpenClaim := { program := "ytnjgcdpleghciaagreat", sum := "36919823fb3509d490e754505448d5c2dbdbf38c62767747a8cdfbf7d1dbc57d", func := "loop.example/g00956/laws.FnExactBestColoring", spec := "fnExactBestColoring", unfollowed := true, recurses := true, apart := false }
def FnExactBestColoringSaid : Prop := fnExactBestColoringRow.holds Tryz.pinned (OpenSpec.ofChange fnExactBestColoringSpec)

/-- ITS FALSE NEIGHBOUR: 'it returns false'. Refute it at one input. -/
def fnExactBestColoringWrong : ChangeSpec := { name := "fnExactBestColoring", fn := fun _ => fun
  | [d1, d2, d3] => { results := [.lit (.bool false)], args := [d1, d2, d3] }
  | _ => none }
def FnExactBestColoringWrongFalsely : Prop := fnExactBestColoringRow.holds Tryz.pinned (OpenSpec.ofChange fnExactBestColoringWrong)

/-- 'laws.FnExactFewestVeneers': WHATEVER THE INPUT: true; the input reads as it did. -/
def fnExactFewestVeneersSpec : ChangeSpec := { name := "fnExactFewestVeneers", fn := fun _ => fun
  | [d1, d2, d3, d4] => { results := [.lit (.bool true)], args := [d1, d2, d3, d4] }
  | _ => none }
def fnExactFewestVeneersRow : OpenClaim := { program := "ytnjgcdpleghciaagreat", sum := "36919823fb3509d490e754505448d5c2dbdbf38c62767747a8cdfbf7d1dbc57d", func := "loop.example/g00956/laws.FnExactFewestVeneers", spec := "fnExactFewestVeneers", unfollowed := true, recurses := true, apart := false }
def FnExactFewestVeneersSaid : Prop := fnExactFewestVeneersRow.holds Tryz.pinned (OpenSpec.ofChange fnExactFewestVeneersSpec)

/-- ITS FALSE NEIGHBOUR: 'it returns false'. Refute it at one input. -/
def fnExactFewestVeneersWrong : ChangeSpec := { name := "fnExactFewestVeneers", fn := fun _ => fun
  | [d1, d2, d3, d4] => { results := [.lit (.bool false)], args := [d1, d2, d3, d4] }
  | _ => none }
def FnExactFewestVeneersWrongFalsely : Prop := fnExactFewestVeneersRow.holds Tryz.pinned (OpenSpec.ofChange fnExactFewestVeneersWrong)

/- THE SECOND FORM. 'bulk': how many values and letters a reading holds, each counted each time it is reached (what is shared counts as often as it is met; a slice's spare places count too). A statement '..UptoSaid' is the law's where the arguments, and the package variables that the reading takes, are together of bulk at most 1048576: NARROWER than '..Said'. Prove '..Said' where nothing that the law and all that it calls make is longer than what came in: it says more and counts as full. Else prove '..UptoSaid'. A law counts once. -/
mutual
def uptoBulk {H : Type} : DataW H → Nat
  | .lit (.string bytes) => bytes.length + 1
  | .lit _ => 1
  | .nil => 1
  | .ptr d => uptoBulk d + 1
  | .slice elems spare => uptoBulkAll elems + uptoBulkAll spare + 1
  | .agg parts => uptoBulkAll parts + 1
  | .iface _ d => uptoBulk d + 1
  | .map entries => uptoBulkEntries entries + 1
  | .held _ => 1
def uptoBulkAll {H : Type} : List (DataW H) → Nat
  | [] => 0
  | d :: r => uptoBulk d + uptoBulkAll r
def uptoBulkEntries {H : Type} : List (Lit × DataW H) → Nat
  | [] => 0
  | x :: r => uptoBulkEntry x + uptoBulkEntries r
def uptoBulkEntry {H : Type} : Lit × DataW H → Nat
  | (.string bytes, d) => bytes.length + uptoBulk d + 1
  | (_, d) => uptoBulk d + 1
 end
def uptoSmall : (H : Type) → List (DataW H) → Bool := fun _ ds => decide (uptoBulkAll ds ≤ 1048576)
def OpenSpec.upto (s : _root_.Go.ChangeSpec) : _root_.Go.OpenSpec := { _root_.Go.OpenSpec.ofChange s with cond := some uptoSmall }

/-- 'laws.FnExactFirstColoring', WHERE WHAT IT READS IS OF BULK AT MOST 1048576: true; the input reads as it did. -/
def fnExactFirstColoringUptoRow : OpenClaim := { program := "ytnjgcdpleghciaagreat", sum := "36919823fb3509d490e754505448d5c2dbdbf38c62767747a8cdfbf7d1dbc57d", func := "loop.example/g00956/laws.FnExactFirstColoring", spec := "fnExactFirstColoring", unfollowed := true, recurses := true, apart := false, narrowed := true }
def FnExactFirstColoringUptoSaid : Prop := fnExactFirstColoringUptoRow.holds Tryz.pinned (OpenSpec.upto fnExactFirstColoringSpec)

/-- 'laws.FnExactBestColoring', WHERE WHAT IT READS IS OF BULK AT MOST 1048576: true; the input reads as it did. -/
def fnExactBestColoringUptoRow : OpenClaim := { program := "ytnjgcdpleghciaagreat", sum := "36919823fb3509d490e754505448d5c2dbdbf38c62767747a8cdfbf7d1dbc57d", func := "loop.example/g00956/laws.FnExactBestColoring", spec := "fnExactBestColoring", unfollowed := true, recurses := true, apart := false, narrowed := true }
def FnExactBestColoringUptoSaid : Prop := fnExactBestColoringUptoRow.holds Tryz.pinned (OpenSpec.upto fnExactBestColoringSpec)

/-- 'laws.FnExactFewestVeneers', WHERE WHAT IT READS IS OF BULK AT MOST 1048576: true; the input reads as it did. -/
def fnExactFewestVeneersUptoRow : OpenClaim := { program := "ytnjgcdpleghciaagreat", sum := "36919823fb3509d490e754505448d5c2dbdbf38c62767747a8cdfbf7d1dbc57d", func := "loop.example/g00956/laws.FnExactFewestVeneers", spec := "fnExactFewestVeneers", unfollowed := true, recurses := true, apart := false, narrowed := true }
def FnExactFewestVeneersUptoSaid : Prop := fnExactFewestVeneersUptoRow.holds Tryz.pinned (OpenSpec.upto fnExactFewestVeneersSpec)

end Rows
end Go.Proofs.YtnjgcdpleghciaaGreat
