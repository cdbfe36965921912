/-
  No cell of these rows narrows 'for every input' (looked for: loops, veiled, ifaces, maps, wideKeys, modest, calm, conditions, laid).
  DERIVED. THE GIVEN ROWS OF THIS SEAT. 4 by the template 'for every input the law returns true; each argument reads behind the call as it read before'; 0 by the template 'total and deterministic' (their statements: YtdibfdcmbjaejaaTotals.lean).
  GIVEN WITH THE SEED: the statements are not yours to turn. If you find one false, say at which input.
  Laid BY PROGRAM, IN A SANDBOX (cutbox-rows.mjs): the forced cells as the released guide's own fill.sh prints them over the translation 6820e5b5fa735cd0… (all of the seat's roots in one cut). By AI agents, Wed Nov 11 2026. No macro, syntax, notation, axiom, sorry.
-/
import Derived.Test.YtdibfdcmbjaejaaChecked
import GoSem.Claim
import GoSem.ClaimJoined
import GoSem.ClaimMapViews
import Derived.JoinedTies
import Derived.KernelRfl
namespace Go.Proofs.Ytdibfdcmbjaejaa
/- THE CELL 'sum', in the pinned program and in every row, IS THE sha256 OF THE DUMP (.gsa) THAT YtdibfdcmbjaejaaProg.lean LOADS. Nothing in Lean hashes anything: it is a label: what it is worth is what the hold of that sum in a sandbox is worth. -/
noncomputable def Try.pinned : Pinned := { name := "ytdibfdcmbjaejaa", sum := "6820e5b5fa735cd0e0d9f69f7572dfb60d35c0e823a48fe6f70b06ddfb79f82c", checked := Try.checked }
namespace Rows
def none {H : Type} : Left H := { results := [], args := [] }

/-- 'laws.FnTrapped': WHATEVER THE INPUT: true; the input reads as it did. -/
def fnTrappedSpec : ChangeSpec := { name := "fnTrapped", fn := fun _ => fun
  | [d] => { results := [.lit (.bool true)], args := [d] }
  | _ => none }
def fnTrappedRow : OpenClaim := { program := "ytdibfdcmbjaejaa", sum := "6820e5b5fa735cd0e0d9f69f7572dfb60d35c0e823a48fe6f70b06ddfb79f82c", func := "loop.example/g00956/laws.FnTrapped", spec := "fnTrapped", unfollowed := true, recurses := true, apart := false }
def FnTrappedSaid : Prop := fnTrappedRow.holds Try.pinned (OpenSpec.ofChange fnTrappedSpec)

/-- ITS FALSE NEIGHBOUR: 'it returns false'. Refute it at one input. -/
def fnTrappedWrong : ChangeSpec := { name := "fnTrapped", fn := fun _ => fun
  | [d] => { results := [.lit (.bool false)], args := [d] }
  | _ => none }
def FnTrappedWrongFalsely : Prop := fnTrappedRow.holds Try.pinned (OpenSpec.ofChange fnTrappedWrong)

/-- 'laws.FnContrast': WHATEVER THE INPUT: true; the input reads as it did. -/
def fnContrastSpec : ChangeSpec := { name := "fnContrast", fn := fun _ => fun
  | [d1, d2] => { results := [.lit (.bool true)], args := [d1, d2] }
  | _ => none }
def fnContrastRow : OpenClaim := { program := "ytdibfdcmbjaejaa", sum := "6820e5b5fa735cd0e0d9f69f7572dfb60d35c0e823a48fe6f70b06ddfb79f82c", func := "loop.example/g00956/laws.FnContrast", spec := "fnContrast", unfollowed := true, recurses := true, apart := false }
def FnContrastSaid : Prop := fnContrastRow.holds Try.pinned (OpenSpec.ofChange fnContrastSpec)

/-- ITS FALSE NEIGHBOUR: 'it returns false'. Refute it at one input. -/
def fnContrastWrong : ChangeSpec := { name := "fnContrast", fn := fun _ => fun
  | [d1, d2] => { results := [.lit (.bool false)], args := [d1, d2] }
  | _ => none }
def FnContrastWrongFalsely : Prop := fnContrastRow.holds Try.pinned (OpenSpec.ofChange fnContrastWrong)

/-- 'laws.FnSpecies': WHATEVER THE INPUT: true; the input reads as it did. -/
def fnSpeciesSpec : ChangeSpec := { name := "fnSpecies", fn := fun _ => fun
  | [d1, d2] => { results := [.lit (.bool true)], args := [d1, d2] }
  | _ => none }
def fnSpeciesRow : OpenClaim := { program := "ytdibfdcmbjaejaa", sum := "6820e5b5fa735cd0e0d9f69f7572dfb60d35c0e823a48fe6f70b06ddfb79f82c", func := "loop.example/g00956/laws.FnSpecies", spec := "fnSpecies", unfollowed := true, recurses := true, apart := false }
def FnSpeciesSaid : Prop := fnSpeciesRow.holds Try.pinned (OpenSpec.ofChange fnSpeciesSpec)

/-- ITS FALSE NEIGHBOUR: 'it returns false'. Refute it at one input. -/
def fnSpeciesWrong : ChangeSpec := { name := "fnSpecies", fn := fun _ => fun
  | [d1, d2] => { results := [.lit (.bool false)], args := [d1, d2] }
  | _ => none }
def FnSpeciesWrongFalsely : Prop := fnSpeciesRow.holds Try.pinned (OpenSpec.ofChange fnSpeciesWrong)

/-- 'laws.FnRepairs': WHATEVER THE INPUT: true; the input reads as it did. -/
def fnRepairsSpec : ChangeSpec := { name := "fnRepairs", fn := fun _ => fun
  | [d1, d2] => { results := [.lit (.bool true)], args := [d1, d2] }
  | _ => none }
def fnRepairsRow : OpenClaim := { program := "ytdibfdcmbjaejaa", sum := "6820e5b5fa735cd0e0d9f69f7572dfb60d35c0e823a48fe6f70b06ddfb79f82c", func := "loop.example/g00956/laws.FnRepairs", spec := "fnRepairs", unfollowed := true, recurses := true, apart := false }
def FnRepairsSaid : Prop := fnRepairsRow.holds Try.pinned (OpenSpec.ofChange fnRepairsSpec)

/-- ITS FALSE NEIGHBOUR: 'it returns false'. Refute it at one input. -/
def fnRepairsWrong : ChangeSpec := { name := "fnRepairs", fn := fun _ => fun
  | [d1, d2] => { results := [.lit (.bool false)], args := [d1, d2] }
  | _ => none }
def FnRepairsWrongFalsely : Prop := fnRepairsRow.holds Try.pinned (OpenSpec.ofChange fnRepairsWrong)

/- THE SECOND FORM. 'bulk': how many values and letters a reading holds, each counted each time it is reached (what is shared counts as often as it is met; a slice's spare places count too). A statement '..UptoSaid' is the law's where the arguments, and the package variables that the reading takes, are together of bulk at most 1048576: NARROWER than '..Said'. Prove '..Said' where nothing that the law and all that it calls make is longer than what came in: it says more and counts as full. Else prove '..UptoSaid'. A law counts once. -/
mutual
def uptoBulk {H : Type} : DataW H → Nat
  | .lit (.string bytes) => bytes.length + 1
  | .lit _ => 1
  | .nil => 1
  | .ptr d => uptoBulk d + 1
  | .slice elems spare => uptoBulkAll elems + uptoBulkAll spare + 1
  | .agg parts => uptoBulkAll parts + 1
  | .iface _ d => uptoBulk d + 1
  | .map entries => uptoBulkEntries entries + 1
  | .held _ => 1
def uptoBulkAll {H : Type} : List (DataW H) → Nat
  | [] => 0
  | d :: r => uptoBulk d + uptoBulkAll r
def uptoBulkEntries {H : Type} : List (Lit × DataW H) → Nat
  | [] => 0
  | x :: r => uptoBulkEntry x + uptoBulkEntries r
def uptoBulkEntry {H : Type} : Lit × DataW H → Nat
  | (.string bytes, d) => bytes.length + uptoBulk d + 1
  | (_, d) => uptoBulk d + 1
 end
def uptoSmall : (H : Type) → List (DataW H) → Bool := fun _ ds => decide (uptoBulkAll ds ≤ 1048576)
def OpenSpec.upto (s : _root_.Go.ChangeSpec) : _root_.Go.OpenSpec := { _root_.Go.OpenSpec.ofChange s with cond := some uptoSmall }

/-- 'laws.FnTrapped', WHERE WHAT IT READS IS OF BULK AT MOST 1048576: true; the input reads as it did. -/
def fnTrappedUptoRow : OpenClaim := { program := "ytdibfdcmbjaejaa", sum := "6820e5b5fa735cd0e0d9f69f7572dfb60d35c0e823a48fe6f70b06ddfb79f82c", func := "loop.example/g00956/laws.FnTrapped", spec := "fnTrapped", unfollowed := true, recurses := true, apart := false, narrowed := true }
def FnTrappedUptoSaid : Prop := fnTrappedUptoRow.holds Try.pinned (OpenSpec.upto fnTrappedSpec)

/-- 'laws.FnContrast', WHERE WHAT IT READS IS OF BULK AT MOST 1048576: true; the input reads as it did. -/
def fnContrastUptoRow : OpenClaim := { program := "ytdibfdcmbjaejaa", sum := "6820e5b5fa735cd0e0d9f69f7572dfb60d35c0e823a48fe6f70b06ddfb79f82c", func := "loop.example/g00956/laws.FnContrast", spec := "fnContrast", unfollowed := true, recurses := true, apart := false, narrowed := true }
def FnContrastUptoSaid : Prop := fnContrastUptoRow.holds Try.pinned (OpenSpec.upto fnContrastSpec)

/-- 'laws.FnSpecies', WHERE WHAT IT READS IS OF BULK AT MOST 1048576: true; the input reads as it did. -/
def fnSpeciesUptoRow : OpenClaim := { program := "ytdibfdcmbjaejaa", sum := "6820e5b5fa735cd0e0d9f69f7572dfb60d35c0e823a48fe6f70b06ddfb79f82c", func := "loop.example/g00956/laws.FnSpecies", spec := "fnSpecies", unfollowed := true, recurses := true, apart := false, narrowed := true }
def FnSpeciesUptoSaid : Prop := fnSpeciesUptoRow.holds Try.pinned (OpenSpec.upto fnSpeciesSpec)

/-- 'laws.FnRepairs', WHERE WHAT IT READS IS OF BULK AT MOST 1048576: true; the input reads as it did. -/
def fnRepairsUptoRow : OpenClaim := { program := "ytdibfdcmbjaejaa", sum := "6820e5b5fa735cd0e0d9f69f7572dfb60d35c0e823a48fe6f70b06ddfb79f82c", func := "loop.example/g00956/laws.FnRepairs", spec := "fnRepairs", unfollowed := true, recurses := true, apart := false, narrowed := true }
def FnRepairsUptoSaid : Prop := fnRepairsUptoRow.holds Try.pinned (OpenSpec.upto fnRepairsSpec)

end Rows
end Go.Proofs.Ytdibfdcmbjaejaa
