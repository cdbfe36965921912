/-
  No cell of these rows narrows 'for every input' (looked for: loops, veiled, ifaces, maps, wideKeys, modest, calm, conditions, laid).
  DERIVED. THE GIVEN ROWS OF THIS SEAT. 12 by the template 'for every input the law returns true; each argument reads behind the call as it read before'; 0 by the template 'total and deterministic' (their statements: YtambonpepalofaaTotals.lean).
  GIVEN WITH THE SEED: the statements are not yours to turn. If you find one false, say at which input.
  Laid BY PROGRAM, IN A SANDBOX (cutbox-rows.mjs): the forced cells as the released guide's own fill.sh prints them over the translation 7b08490b4b683e15… (all of the seat's roots in one cut). By AI agents, Wed Nov 11 2026. No macro, syntax, notation, axiom, sorry.
-/
import Derived.Test.YtambonpepalofaaChecked
import GoSem.Claim
import GoSem.ClaimJoined
import GoSem.ClaimMapViews
import Derived.JoinedTies
import Derived.KernelRfl
namespace Go.Proofs.Ytambonpepalofaa
/- THE CELL 'sum', in the pinned program and in every row, IS THE sha256 OF THE DUMP (.gsa) THAT YtambonpepalofaaProg.lean LOADS. Nothing in Lean hashes anything: it is a label: what it is worth is what the hold of that sum in a sandbox is worth. -/
noncomputable def Try.pinned : Pinned := { name := "ytambonpepalofaa", sum := "7b08490b4b683e15ec2198736da0f598cadb9bc4a4fe8fd5718fd3a9d8fa7b56", checked := Try.checked }
namespace Rows
def none {H : Type} : Left H := { results := [], args := [] }

/-- 'laws.FnAssembly': WHATEVER THE INPUT: true; the input reads as it did. -/
def fnAssemblySpec : ChangeSpec := { name := "fnAssembly", fn := fun _ => fun
  | [d] => { results := [.lit (.bool true)], args := [d] }
  | _ => none }
def fnAssemblyRow : OpenClaim := { program := "ytambonpepalofaa", sum := "7b08490b4b683e15ec2198736da0f598cadb9bc4a4fe8fd5718fd3a9d8fa7b56", func := "loop.example/g00956/laws.FnAssembly", spec := "fnAssembly", unfollowed := true, recurses := true, apart := false }
def FnAssemblySaid : Prop := fnAssemblyRow.holds Try.pinned (OpenSpec.ofChange fnAssemblySpec)

/-- ITS FALSE NEIGHBOUR: 'it returns false'. Refute it at one input. -/
def fnAssemblyWrong : ChangeSpec := { name := "fnAssembly", fn := fun _ => fun
  | [d] => { results := [.lit (.bool false)], args := [d] }
  | _ => none }
def FnAssemblyWrongFalsely : Prop := fnAssemblyRow.holds Try.pinned (OpenSpec.ofChange fnAssemblyWrong)

/-- 'laws.FnExactBestPairs': WHATEVER THE INPUT: true; the input reads as it did. -/
def fnExactBestPairsSpec : ChangeSpec := { name := "fnExactBestPairs", fn := fun _ => fun
  | [d1, d2, d3] => { results := [.lit (.bool true)], args := [d1, d2, d3] }
  | _ => none }
def fnExactBestPairsRow : OpenClaim := { program := "ytambonpepalofaa", sum := "7b08490b4b683e15ec2198736da0f598cadb9bc4a4fe8fd5718fd3a9d8fa7b56", func := "loop.example/g00956/laws.FnExactBestPairs", spec := "fnExactBestPairs", unfollowed := true, recurses := true, apart := false }
def FnExactBestPairsSaid : Prop := fnExactBestPairsRow.holds Try.pinned (OpenSpec.ofChange fnExactBestPairsSpec)

/-- ITS FALSE NEIGHBOUR: 'it returns false'. Refute it at one input. -/
def fnExactBestPairsWrong : ChangeSpec := { name := "fnExactBestPairs", fn := fun _ => fun
  | [d1, d2, d3] => { results := [.lit (.bool false)], args := [d1, d2, d3] }
  | _ => none }
def FnExactBestPairsWrongFalsely : Prop := fnExactBestPairsRow.holds Try.pinned (OpenSpec.ofChange fnExactBestPairsWrong)

/-- 'laws.FnTrapped': WHATEVER THE INPUT: true; the input reads as it did. -/
def fnTrappedSpec : ChangeSpec := { name := "fnTrapped", fn := fun _ => fun
  | [d] => { results := [.lit (.bool true)], args := [d] }
  | _ => none }
def fnTrappedRow : OpenClaim := { program := "ytambonpepalofaa", sum := "7b08490b4b683e15ec2198736da0f598cadb9bc4a4fe8fd5718fd3a9d8fa7b56", func := "loop.example/g00956/laws.FnTrapped", spec := "fnTrapped", unfollowed := true, recurses := true, apart := false }
def FnTrappedSaid : Prop := fnTrappedRow.holds Try.pinned (OpenSpec.ofChange fnTrappedSpec)

/-- ITS FALSE NEIGHBOUR: 'it returns false'. Refute it at one input. -/
def fnTrappedWrong : ChangeSpec := { name := "fnTrapped", fn := fun _ => fun
  | [d] => { results := [.lit (.bool false)], args := [d] }
  | _ => none }
def FnTrappedWrongFalsely : Prop := fnTrappedRow.holds Try.pinned (OpenSpec.ofChange fnTrappedWrong)

/-- 'laws.FnExactCountAssemblies': WHATEVER THE INPUT: true; the input reads as it did. -/
def fnExactCountAssembliesSpec : ChangeSpec := { name := "fnExactCountAssemblies", fn := fun _ => fun
  | [d1, d2] => { results := [.lit (.bool true)], args := [d1, d2] }
  | _ => none }
def fnExactCountAssembliesRow : OpenClaim := { program := "ytambonpepalofaa", sum := "7b08490b4b683e15ec2198736da0f598cadb9bc4a4fe8fd5718fd3a9d8fa7b56", func := "loop.example/g00956/laws.FnExactCountAssemblies", spec := "fnExactCountAssemblies", unfollowed := true, recurses := true, apart := false }
def FnExactCountAssembliesSaid : Prop := fnExactCountAssembliesRow.holds Try.pinned (OpenSpec.ofChange fnExactCountAssembliesSpec)

/-- ITS FALSE NEIGHBOUR: 'it returns false'. Refute it at one input. -/
def fnExactCountAssembliesWrong : ChangeSpec := { name := "fnExactCountAssemblies", fn := fun _ => fun
  | [d1, d2] => { results := [.lit (.bool false)], args := [d1, d2] }
  | _ => none }
def FnExactCountAssembliesWrongFalsely : Prop := fnExactCountAssembliesRow.holds Try.pinned (OpenSpec.ofChange fnExactCountAssembliesWrong)

/-- 'laws.FnExactFirstAssembly': WHATEVER THE INPUT: true; the input reads as it did. -/
def fnExactFirstAssemblySpec : ChangeSpec := { name := "fnExactFirstAssembly", fn := fun _ => fun
  | [d1, d2] => { results := [.lit (.bool true)], args := [d1, d2] }
  | _ => none }
def fnExactFirstAssemblyRow : OpenClaim := { program := "ytambonpepalofaa", sum := "7b08490b4b683e15ec2198736da0f598cadb9bc4a4fe8fd5718fd3a9d8fa7b56", func := "loop.example/g00956/laws.FnExactFirstAssembly", spec := "fnExactFirstAssembly", unfollowed := true, recurses := true, apart := false }
def FnExactFirstAssemblySaid : Prop := fnExactFirstAssemblyRow.holds Try.pinned (OpenSpec.ofChange fnExactFirstAssemblySpec)

/-- ITS FALSE NEIGHBOUR: 'it returns false'. Refute it at one input. -/
def fnExactFirstAssemblyWrong : ChangeSpec := { name := "fnExactFirstAssembly", fn := fun _ => fun
  | [d1, d2] => { results := [.lit (.bool false)], args := [d1, d2] }
  | _ => none }
def FnExactFirstAssemblyWrongFalsely : Prop := fnExactFirstAssemblyRow.holds Try.pinned (OpenSpec.ofChange fnExactFirstAssemblyWrong)

/-- 'laws.FnColours': WHATEVER THE INPUT: true; the input reads as it did. -/
def fnColoursSpec : ChangeSpec := { name := "fnColours", fn := fun _ => fun
  | [d1, d2] => { results := [.lit (.bool true)], args := [d1, d2] }
  | _ => none }
def fnColoursRow : OpenClaim := { program := "ytambonpepalofaa", sum := "7b08490b4b683e15ec2198736da0f598cadb9bc4a4fe8fd5718fd3a9d8fa7b56", func := "loop.example/g00956/laws.FnColours", spec := "fnColours", unfollowed := true, recurses := true, apart := false }
def FnColoursSaid : Prop := fnColoursRow.holds Try.pinned (OpenSpec.ofChange fnColoursSpec)

/-- ITS FALSE NEIGHBOUR: 'it returns false'. Refute it at one input. -/
def fnColoursWrong : ChangeSpec := { name := "fnColours", fn := fun _ => fun
  | [d1, d2] => { results := [.lit (.bool false)], args := [d1, d2] }
  | _ => none }
def FnColoursWrongFalsely : Prop := fnColoursRow.holds Try.pinned (OpenSpec.ofChange fnColoursWrong)

/-- 'laws.FnExactFewestColours': WHATEVER THE INPUT: true; the input reads as it did. -/
def fnExactFewestColoursSpec : ChangeSpec := { name := "fnExactFewestColours", fn := fun _ => fun
  | [d1, d2] => { results := [.lit (.bool true)], args := [d1, d2] }
  | _ => none }
def fnExactFewestColoursRow : OpenClaim := { program := "ytambonpepalofaa", sum := "7b08490b4b683e15ec2198736da0f598cadb9bc4a4fe8fd5718fd3a9d8fa7b56", func := "loop.example/g00956/laws.FnExactFewestColours", spec := "fnExactFewestColours", unfollowed := true, recurses := true, apart := false }
def FnExactFewestColoursSaid : Prop := fnExactFewestColoursRow.holds Try.pinned (OpenSpec.ofChange fnExactFewestColoursSpec)

/-- ITS FALSE NEIGHBOUR: 'it returns false'. Refute it at one input. -/
def fnExactFewestColoursWrong : ChangeSpec := { name := "fnExactFewestColours", fn := fun _ => fun
  | [d1, d2] => { results := [.lit (.bool false)], args := [d1, d2] }
  | _ => none }
def FnExactFewestColoursWrongFalsely : Prop := fnExactFewestColoursRow.holds Try.pinned (OpenSpec.ofChange fnExactFewestColoursWrong)

/-- 'laws.FnExactCountShifts': WHATEVER THE INPUT: true; the input reads as it did. -/
def fnExactCountShiftsSpec : ChangeSpec := { name := "fnExactCountShifts", fn := fun _ => fun
  | [d1, d2, d3, d4] => { results := [.lit (.bool true)], args := [d1, d2, d3, d4] }
  | _ => none }
def fnExactCountShiftsRow : OpenClaim := { program := "ytambonpepalofaa", sum := "7b08490b4b683e15ec2198736da0f598cadb9bc4a4fe8fd5718fd3a9d8fa7b56", func := "loop.example/g00956/laws.FnExactCountShifts", spec := "fnExactCountShifts", unfollowed := true, recurses := true, apart := false }
def FnExactCountShiftsSaid : Prop := fnExactCountShiftsRow.holds Try.pinned (OpenSpec.ofChange fnExactCountShiftsSpec)

/-- ITS FALSE NEIGHBOUR: 'it returns false'. Refute it at one input. -/
def fnExactCountShiftsWrong : ChangeSpec := { name := "fnExactCountShifts", fn := fun _ => fun
  | [d1, d2, d3, d4] => { results := [.lit (.bool false)], args := [d1, d2, d3, d4] }
  | _ => none }
def FnExactCountShiftsWrongFalsely : Prop := fnExactCountShiftsRow.holds Try.pinned (OpenSpec.ofChange fnExactCountShiftsWrong)

/-- 'laws.FnContrast': WHATEVER THE INPUT: true; the input reads as it did. -/
def fnContrastSpec : ChangeSpec := { name := "fnContrast", fn := fun _ => fun
  | [d1, d2] => { results := [.lit (.bool true)], args := [d1, d2] }
  | _ => none }
def fnContrastRow : OpenClaim := { program := "ytambonpepalofaa", sum := "7b08490b4b683e15ec2198736da0f598cadb9bc4a4fe8fd5718fd3a9d8fa7b56", func := "loop.example/g00956/laws.FnContrast", spec := "fnContrast", unfollowed := true, recurses := true, apart := false }
def FnContrastSaid : Prop := fnContrastRow.holds Try.pinned (OpenSpec.ofChange fnContrastSpec)

/-- ITS FALSE NEIGHBOUR: 'it returns false'. Refute it at one input. -/
def fnContrastWrong : ChangeSpec := { name := "fnContrast", fn := fun _ => fun
  | [d1, d2] => { results := [.lit (.bool false)], args := [d1, d2] }
  | _ => none }
def FnContrastWrongFalsely : Prop := fnContrastRow.holds Try.pinned (OpenSpec.ofChange fnContrastWrong)

/-- 'laws.FnPairs': WHATEVER THE INPUT: true; the input reads as it did. -/
def fnPairsSpec : ChangeSpec := { name := "fnPairs", fn := fun _ => fun
  | [d1, d2] => { results := [.lit (.bool true)], args := [d1, d2] }
  | _ => none }
def fnPairsRow : OpenClaim := { program := "ytambonpepalofaa", sum := "7b08490b4b683e15ec2198736da0f598cadb9bc4a4fe8fd5718fd3a9d8fa7b56", func := "loop.example/g00956/laws.FnPairs", spec := "fnPairs", unfollowed := true, recurses := true, apart := false }
def FnPairsSaid : Prop := fnPairsRow.holds Try.pinned (OpenSpec.ofChange fnPairsSpec)

/-- ITS FALSE NEIGHBOUR: 'it returns false'. Refute it at one input. -/
def fnPairsWrong : ChangeSpec := { name := "fnPairs", fn := fun _ => fun
  | [d1, d2] => { results := [.lit (.bool false)], args := [d1, d2] }
  | _ => none }
def FnPairsWrongFalsely : Prop := fnPairsRow.holds Try.pinned (OpenSpec.ofChange fnPairsWrong)

/-- 'laws.FnExactFirstShifts': WHATEVER THE INPUT: true; the input reads as it did. -/
def fnExactFirstShiftsSpec : ChangeSpec := { name := "fnExactFirstShifts", fn := fun _ => fun
  | [d1, d2, d3, d4] => { results := [.lit (.bool true)], args := [d1, d2, d3, d4] }
  | _ => none }
def fnExactFirstShiftsRow : OpenClaim := { program := "ytambonpepalofaa", sum := "7b08490b4b683e15ec2198736da0f598cadb9bc4a4fe8fd5718fd3a9d8fa7b56", func := "loop.example/g00956/laws.FnExactFirstShifts", spec := "fnExactFirstShifts", unfollowed := true, recurses := true, apart := false }
def FnExactFirstShiftsSaid : Prop := fnExactFirstShiftsRow.holds Try.pinned (OpenSpec.ofChange fnExactFirstShiftsSpec)

/-- ITS FALSE NEIGHBOUR: 'it returns false'. Refute it at one input. -/
def fnExactFirstShiftsWrong : ChangeSpec := { name := "fnExactFirstShifts", fn := fun _ => fun
  | [d1, d2, d3, d4] => { results := [.lit (.bool false)], args := [d1, d2, d3, d4] }
  | _ => none }
def FnExactFirstShiftsWrongFalsely : Prop := fnExactFirstShiftsRow.holds Try.pinned (OpenSpec.ofChange fnExactFirstShiftsWrong)

/-- 'laws.FnExactSameDesk': WHATEVER THE INPUT: true; the input reads as it did. -/
def fnExactSameDeskSpec : ChangeSpec := { name := "fnExactSameDesk", fn := fun _ => fun
  | [d1, d2] => { results := [.lit (.bool true)], args := [d1, d2] }
  | _ => none }
def fnExactSameDeskRow : OpenClaim := { program := "ytambonpepalofaa", sum := "7b08490b4b683e15ec2198736da0f598cadb9bc4a4fe8fd5718fd3a9d8fa7b56", func := "loop.example/g00956/laws.FnExactSameDesk", spec := "fnExactSameDesk", unfollowed := true, recurses := true, apart := false }
def FnExactSameDeskSaid : Prop := fnExactSameDeskRow.holds Try.pinned (OpenSpec.ofChange fnExactSameDeskSpec)

/-- ITS FALSE NEIGHBOUR: 'it returns false'. Refute it at one input. -/
def fnExactSameDeskWrong : ChangeSpec := { name := "fnExactSameDesk", fn := fun _ => fun
  | [d1, d2] => { results := [.lit (.bool false)], args := [d1, d2] }
  | _ => none }
def FnExactSameDeskWrongFalsely : Prop := fnExactSameDeskRow.holds Try.pinned (OpenSpec.ofChange fnExactSameDeskWrong)

/- THE SECOND FORM. 'bulk': how many values and letters a reading holds, each counted each time it is reached (what is shared counts as often as it is met; a slice's spare places count too). A statement '..UptoSaid' is the law's where the arguments, and the package variables that the reading takes, are together of bulk at most 1048576: NARROWER than '..Said'. Prove '..Said' where nothing that the law and all that it calls make is longer than what came in: it says more and counts as full. Else prove '..UptoSaid'. A law counts once. -/
mutual
def uptoBulk {H : Type} : DataW H → Nat
  | .lit (.string bytes) => bytes.length + 1
  | .lit _ => 1
  | .nil => 1
  | .ptr d => uptoBulk d + 1
  | .slice elems spare => uptoBulkAll elems + uptoBulkAll spare + 1
  | .agg parts => uptoBulkAll parts + 1
  | .iface _ d => uptoBulk d + 1
  | .map entries => uptoBulkEntries entries + 1
  | .held _ => 1
def uptoBulkAll {H : Type} : List (DataW H) → Nat
  | [] => 0
  | d :: r => uptoBulk d + uptoBulkAll r
def uptoBulkEntries {H : Type} : List (Lit × DataW H) → Nat
  | [] => 0
  | x :: r => uptoBulkEntry x + uptoBulkEntries r
def uptoBulkEntry {H : Type} : Lit × DataW H → Nat
  | (.string bytes, d) => bytes.length + uptoBulk d + 1
  | (_, d) => uptoBulk d + 1
 end
def uptoSmall : (H : Type) → List (DataW H) → Bool := fun _ ds => decide (uptoBulkAll ds ≤ 1048576)
def OpenSpec.upto (s : _root_.Go.ChangeSpec) : _root_.Go.OpenSpec := { _root_.Go.OpenSpec.ofChange s with cond := some uptoSmall }

/-- 'laws.FnAssembly', WHERE WHAT IT READS IS OF BULK AT MOST 1048576: true; the input reads as it did. -/
def fnAssemblyUptoRow : OpenClaim := { program := "ytambonpepalofaa", sum := "7b08490b4b683e15ec2198736da0f598cadb9bc4a4fe8fd5718fd3a9d8fa7b56", func := "loop.example/g00956/laws.FnAssembly", spec := "fnAssembly", unfollowed := true, recurses := true, apart := false, narrowed := true }
def FnAssemblyUptoSaid : Prop := fnAssemblyUptoRow.holds Try.pinned (OpenSpec.upto fnAssemblySpec)

/-- 'laws.FnExactBestPairs', WHERE WHAT IT READS IS OF BULK AT MOST 1048576: true; the input reads as it did. -/
def fnExactBestPairsUptoRow : OpenClaim := { program := "ytambonpepalofaa", sum := "7b08490b4b683e15ec2198736da0f598cadb9bc4a4fe8fd5718fd3a9d8fa7b56", func := "loop.example/g00956/laws.FnExactBestPairs", spec := "fnExactBestPairs", unfollowed := true, recurses := true, apart := false, narrowed := true }
def FnExactBestPairsUptoSaid : Prop := fnExactBestPairsUptoRow.holds Try.pinned (OpenSpec.upto fnExactBestPairsSpec)

/-- 'laws.FnTrapped', WHERE WHAT IT READS IS OF BULK AT MOST 1048576: true; the input reads as it did. -/
def fnTrappedUptoRow : OpenClaim := { program := "ytambonpepalofaa", sum := "7b08490b4b683e15ec2198736da0f598cadb9bc4a4fe8fd5718fd3a9d8fa7b56", func := "loop.example/g00956/laws.FnTrapped", spec := "fnTrapped", unfollowed := true, recurses := true, apart := false, narrowed := true }
def FnTrappedUptoSaid : Prop := fnTrappedUptoRow.holds Try.pinned (OpenSpec.upto fnTrappedSpec)

/-- 'laws.FnExactCountAssemblies', WHERE WHAT IT READS IS OF BULK AT MOST 1048576: true; the input reads as it did. -/
def fnExactCountAssembliesUptoRow : OpenClaim := { program := "ytambonpepalofaa", sum := "7b08490b4b683e15ec2198736da0f598cadb9bc4a4fe8fd5718fd3a9d8fa7b56", func := "loop.example/g00956/laws.FnExactCountAssemblies", spec := "fnExactCountAssemblies", unfollowed := true, recurses := true, apart := false, narrowed := true }
def FnExactCountAssembliesUptoSaid : Prop := fnExactCountAssembliesUptoRow.holds Try.pinned (OpenSpec.upto fnExactCountAssembliesSpec)

/-- 'laws.FnExactFirstAssembly', WHERE WHAT IT READS IS OF BULK AT MOST 1048576: true; the input reads as it did. -/
def fnExactFirstAssemblyUptoRow : OpenClaim := { program := "ytambonpepalofaa", sum := "7b08490b4b683e15ec2198736da0f598cadb9bc4a4fe8fd5718fd3a9d8fa7b56", func := "loop.example/g00956/laws.FnExactFirstAssembly", spec := "fnExactFirstAssembly", unfollowed := true, recurses := true, apart := false, narrowed := true }
def FnExactFirstAssemblyUptoSaid : Prop := fnExactFirstAssemblyUptoRow.holds Try.pinned (OpenSpec.upto fnExactFirstAssemblySpec)

/-- 'laws.FnColours', WHERE WHAT IT READS IS OF BULK AT MOST 1048576: true; the input reads as it did. -/
def fnColoursUptoRow : OpenClaim := { program := "ytambonpepalofaa", sum := "7b08490b4b683e15ec2198736da0f598cadb9bc4a4fe8fd5718fd3a9d8fa7b56", func := "loop.example/g00956/laws.FnColours", spec := "fnColours", unfollowed := true, recurses := true, apart := false, narrowed := true }
def FnColoursUptoSaid : Prop := fnColoursUptoRow.holds Try.pinned (OpenSpec.upto fnColoursSpec)

/-- 'laws.FnExactFewestColours', WHERE WHAT IT READS IS OF BULK AT MOST 1048576: true; the input reads as it did. -/
def fnExactFewestColoursUptoRow : OpenClaim := { program := "ytambonpepalofaa", sum := "7b08490b4b683e15ec2198736da0f598cadb9bc4a4fe8fd5718fd3a9d8fa7b56", func := "loop.example/g00956/laws.FnExactFewestColours", spec := "fnExactFewestColours", unfollowed := true, recurses := true, apart := false, narrowed := true }
def FnExactFewestColoursUptoSaid : Prop := fnExactFewestColoursUptoRow.holds Try.pinned (OpenSpec.upto fnExactFewestColoursSpec)

/-- 'laws.FnExactCountShifts', WHERE WHAT IT READS IS OF BULK AT MOST 1048576: true; the input reads as it did. -/
def fnExactCountShiftsUptoRow : OpenClaim := { program := "ytambonpepalofaa", sum := "7b08490b4b683e15ec2198736da0f598cadb9bc4a4fe8fd5718fd3a9d8fa7b56", func := "loop.example/g00956/laws.FnExactCountShifts", spec := "fnExactCountShifts", unfollowed := true, recurses := true, apart := false, narrowed := true }
def FnExactCountShiftsUptoSaid : Prop := fnExactCountShiftsUptoRow.holds Try.pinned (OpenSpec.upto fnExactCountShiftsSpec)

/-- 'laws.FnContrast', WHERE WHAT IT READS IS OF BULK AT MOST 1048576: true; the input reads as it did. -/
def fnContrastUptoRow : OpenClaim := { program := "ytambonpepalofaa", sum := "7b08490b4b683e15ec2198736da0f598cadb9bc4a4fe8fd5718fd3a9d8fa7b56", func := "loop.example/g00956/laws.FnContrast", spec := "fnContrast", unfollowed := true, recurses := true, apart := false, narrowed := true }
def FnContrastUptoSaid : Prop := fnContrastUptoRow.holds Try.pinned (OpenSpec.upto fnContrastSpec)

/-- 'laws.FnPairs', WHERE WHAT IT READS IS OF BULK AT MOST 1048576: true; the input reads as it did. -/
def fnPairsUptoRow : OpenClaim := { program := "ytambonpepalofaa", sum := "7b08490b4b683e15ec2198736da0f598cadb9bc4a4fe8fd5718fd3a9d8fa7b56", func := "loop.example/g00956/laws.FnPairs", spec := "fnPairs", unfollowed := true, recurses := true, apart := false, narrowed := true }
def FnPairsUptoSaid : Prop := fnPairsUptoRow.holds Try.pinned (OpenSpec.upto fnPairsSpec)

/-- 'laws.FnExactFirstShifts', WHERE WHAT IT READS IS OF BULK AT MOST 1048576: true; the input reads as it did. -/
def fnExactFirstShiftsUptoRow : OpenClaim := { program := "ytambonpepalofaa", sum := "7b08490b4b683e15ec2198736da0f598cadb9bc4a4fe8fd5718fd3a9d8fa7b56", func := "loop.example/g00956/laws.FnExactFirstShifts", spec := "fnExactFirstShifts", unfollowed := true, recurses := true, apart := false, narrowed := true }
def FnExactFirstShiftsUptoSaid : Prop := fnExactFirstShiftsUptoRow.holds Try.pinned (OpenSpec.upto fnExactFirstShiftsSpec)

/-- 'laws.FnExactSameDesk', WHERE WHAT IT READS IS OF BULK AT MOST 1048576: true; the input reads as it did. -/
def fnExactSameDeskUptoRow : OpenClaim := { program := "ytambonpepalofaa", sum := "7b08490b4b683e15ec2198736da0f598cadb9bc4a4fe8fd5718fd3a9d8fa7b56", func := "loop.example/g00956/laws.FnExactSameDesk", spec := "fnExactSameDesk", unfollowed := true, recurses := true, apart := false, narrowed := true }
def FnExactSameDeskUptoSaid : Prop := fnExactSameDeskUptoRow.holds Try.pinned (OpenSpec.upto fnExactSameDeskSpec)

end Rows
end Go.Proofs.Ytambonpepalofaa
