/-
  No cell of these rows narrows 'for every input' (looked for: loops, veiled, ifaces, maps, wideKeys, modest, calm, conditions, laid).
  DERIVED. THE GIVEN ROWS OF THIS SEAT. 6 by the template 'for every input the law returns true; each argument reads behind the call as it read before'; 0 by the template 'total and deterministic' (their statements: YteglmkbkjaeijaaTotals.lean).
  GIVEN WITH THE SEED: the statements are not yours to turn. If you find one false, say at which input.
  Laid BY PROGRAM, IN A SANDBOX (cutbox-rows.mjs): the forced cells as the released guide's own fill.sh prints them over the translation 1d203609a2969cb9… (all of the seat's roots in one cut). By AI agents, Wed Nov 11 2026. No macro, syntax, notation, axiom, sorry.
-/
import Derived.Test.YteglmkbkjaeijaaChecked
import GoSem.Claim
import GoSem.ClaimJoined
import GoSem.ClaimMapViews
import Derived.JoinedTies
import Derived.KernelRfl
namespace Go.Proofs.Yteglmkbkjaeijaa
/- THE CELL 'sum', in the pinned program and in every row, IS THE sha256 OF THE DUMP (.gsa) THAT YteglmkbkjaeijaaProg.lean LOADS. Nothing in Lean hashes anything: it is a label: what it is worth is what the hold of that sum in a sandbox is worth. -/
noncomputable def Try.pinned : Pinned := { name := "yteglmkbkjaeijaa", sum := "1d203609a2969cb97ad43ef1c14e08a39182f9a246daf1061940c7fd778a8f93", checked := Try.checked }
namespace Rows
def none {H : Type} : Left H := { results := [], args := [] }

/-- 'laws.FnExactFindingName': WHATEVER THE INPUT: true; the input reads as it did. -/
def fnExactFindingNameSpec : ChangeSpec := { name := "fnExactFindingName", fn := fun _ => fun
  | [d] => { results := [.lit (.bool true)], args := [d] }
  | _ => none }
def fnExactFindingNameRow : OpenClaim := { program := "yteglmkbkjaeijaa", sum := "1d203609a2969cb97ad43ef1c14e08a39182f9a246daf1061940c7fd778a8f93", func := "loop.example/g00956/laws.FnExactFindingName", spec := "fnExactFindingName", apart := false }
def FnExactFindingNameSaid : Prop := fnExactFindingNameRow.holds Try.pinned (OpenSpec.ofChange fnExactFindingNameSpec)

/-- ITS FALSE NEIGHBOUR: 'it returns false'. Refute it at one input. -/
def fnExactFindingNameWrong : ChangeSpec := { name := "fnExactFindingName", fn := fun _ => fun
  | [d] => { results := [.lit (.bool false)], args := [d] }
  | _ => none }
def FnExactFindingNameWrongFalsely : Prop := fnExactFindingNameRow.holds Try.pinned (OpenSpec.ofChange fnExactFindingNameWrong)

/-- 'laws.FnExactNestName': WHATEVER THE INPUT: true; the input reads as it did. -/
def fnExactNestNameSpec : ChangeSpec := { name := "fnExactNestName", fn := fun _ => fun
  | [d] => { results := [.lit (.bool true)], args := [d] }
  | _ => none }
def fnExactNestNameRow : OpenClaim := { program := "yteglmkbkjaeijaa", sum := "1d203609a2969cb97ad43ef1c14e08a39182f9a246daf1061940c7fd778a8f93", func := "loop.example/g00956/laws.FnExactNestName", spec := "fnExactNestName", apart := false }
def FnExactNestNameSaid : Prop := fnExactNestNameRow.holds Try.pinned (OpenSpec.ofChange fnExactNestNameSpec)

/-- ITS FALSE NEIGHBOUR: 'it returns false'. Refute it at one input. -/
def fnExactNestNameWrong : ChangeSpec := { name := "fnExactNestName", fn := fun _ => fun
  | [d] => { results := [.lit (.bool false)], args := [d] }
  | _ => none }
def FnExactNestNameWrongFalsely : Prop := fnExactNestNameRow.holds Try.pinned (OpenSpec.ofChange fnExactNestNameWrong)

/-- 'laws.FnExactCommandNames': WHATEVER THE INPUT: true; the input reads as it did. -/
def fnExactCommandNamesSpec : ChangeSpec := { name := "fnExactCommandNames", fn := fun _ => fun
  | [] => { results := [.lit (.bool true)], args := [] }
  | _ => none }
def fnExactCommandNamesRow : OpenClaim := { program := "yteglmkbkjaeijaa", sum := "1d203609a2969cb97ad43ef1c14e08a39182f9a246daf1061940c7fd778a8f93", func := "loop.example/g00956/laws.FnExactCommandNames", spec := "fnExactCommandNames", apart := false }
def FnExactCommandNamesSaid : Prop := fnExactCommandNamesRow.holds Try.pinned (OpenSpec.ofChange fnExactCommandNamesSpec)

/-- ITS FALSE NEIGHBOUR: 'it returns false'. Refute it at one input. -/
def fnExactCommandNamesWrong : ChangeSpec := { name := "fnExactCommandNames", fn := fun _ => fun
  | [] => { results := [.lit (.bool false)], args := [] }
  | _ => none }
def FnExactCommandNamesWrongFalsely : Prop := fnExactCommandNamesRow.holds Try.pinned (OpenSpec.ofChange fnExactCommandNamesWrong)

/-- 'laws.FnExactFindingText': WHATEVER THE INPUT: true; the input reads as it did. -/
def fnExactFindingTextSpec : ChangeSpec := { name := "fnExactFindingText", fn := fun _ => fun
  | [d] => { results := [.lit (.bool true)], args := [d] }
  | _ => none }
def fnExactFindingTextRow : OpenClaim := { program := "yteglmkbkjaeijaa", sum := "1d203609a2969cb97ad43ef1c14e08a39182f9a246daf1061940c7fd778a8f93", func := "loop.example/g00956/laws.FnExactFindingText", spec := "fnExactFindingText", apart := false }
def FnExactFindingTextSaid : Prop := fnExactFindingTextRow.holds Try.pinned (OpenSpec.ofChange fnExactFindingTextSpec)

/-- ITS FALSE NEIGHBOUR: 'it returns false'. Refute it at one input. -/
def fnExactFindingTextWrong : ChangeSpec := { name := "fnExactFindingText", fn := fun _ => fun
  | [d] => { results := [.lit (.bool false)], args := [d] }
  | _ => none }
def FnExactFindingTextWrongFalsely : Prop := fnExactFindingTextRow.holds Try.pinned (OpenSpec.ofChange fnExactFindingTextWrong)

/-- 'laws.FnExactCountFindings': WHATEVER THE INPUT: true; the input reads as it did. -/
def fnExactCountFindingsSpec : ChangeSpec := { name := "fnExactCountFindings", fn := fun _ => fun
  | [d] => { results := [.lit (.bool true)], args := [d] }
  | _ => none }
def fnExactCountFindingsRow : OpenClaim := { program := "yteglmkbkjaeijaa", sum := "1d203609a2969cb97ad43ef1c14e08a39182f9a246daf1061940c7fd778a8f93", func := "loop.example/g00956/laws.FnExactCountFindings", spec := "fnExactCountFindings", apart := false }
def FnExactCountFindingsSaid : Prop := fnExactCountFindingsRow.holds Try.pinned (OpenSpec.ofChange fnExactCountFindingsSpec)

/-- ITS FALSE NEIGHBOUR: 'it returns false'. Refute it at one input. -/
def fnExactCountFindingsWrong : ChangeSpec := { name := "fnExactCountFindings", fn := fun _ => fun
  | [d] => { results := [.lit (.bool false)], args := [d] }
  | _ => none }
def FnExactCountFindingsWrongFalsely : Prop := fnExactCountFindingsRow.holds Try.pinned (OpenSpec.ofChange fnExactCountFindingsWrong)

/-- 'laws.FnExactIsFloor': WHATEVER THE INPUT: true; the input reads as it did. -/
def fnExactIsFloorSpec : ChangeSpec := { name := "fnExactIsFloor", fn := fun _ => fun
  | [d1, d2, d3] => { results := [.lit (.bool true)], args := [d1, d2, d3] }
  | _ => none }
def fnExactIsFloorRow : OpenClaim := { program := "yteglmkbkjaeijaa", sum := "1d203609a2969cb97ad43ef1c14e08a39182f9a246daf1061940c7fd778a8f93", func := "loop.example/g00956/laws.FnExactIsFloor", spec := "fnExactIsFloor", apart := false }
def FnExactIsFloorSaid : Prop := fnExactIsFloorRow.holds Try.pinned (OpenSpec.ofChange fnExactIsFloorSpec)

/-- ITS FALSE NEIGHBOUR: 'it returns false'. Refute it at one input. -/
def fnExactIsFloorWrong : ChangeSpec := { name := "fnExactIsFloor", fn := fun _ => fun
  | [d1, d2, d3] => { results := [.lit (.bool false)], args := [d1, d2, d3] }
  | _ => none }
def FnExactIsFloorWrongFalsely : Prop := fnExactIsFloorRow.holds Try.pinned (OpenSpec.ofChange fnExactIsFloorWrong)

/- THE SECOND FORM. 'bulk': how many values and letters a reading holds, each counted each time it is reached (what is shared counts as often as it is met; a slice's spare places count too). A statement '..UptoSaid' is the law's where the arguments, and the package variables that the reading takes, are together of bulk at most 1048576: NARROWER than '..Said'. Prove '..Said' where nothing that the law and all that it calls make is longer than what came in: it says more and counts as full. Else prove '..UptoSaid'. A law counts once. -/
mutual
def uptoBulk {H : Type} : DataW H → Nat
  | .lit (.string bytes) => bytes.length + 1
  | .lit _ => 1
  | .nil => 1
  | .ptr d => uptoBulk d + 1
  | .slice elems spare => uptoBulkAll elems + uptoBulkAll spare + 1
  | .agg parts => uptoBulkAll parts + 1
  | .iface _ d => uptoBulk d + 1
  | .map entries => uptoBulkEntries entries + 1
  | .held _ => 1
def uptoBulkAll {H : Type} : List (DataW H) → Nat
  | [] => 0
  | d :: r => uptoBulk d + uptoBulkAll r
def uptoBulkEntries {H : Type} : List (Lit × DataW H) → Nat
  | [] => 0
  | x :: r => uptoBulkEntry x + uptoBulkEntries r
def uptoBulkEntry {H : Type} : Lit × DataW H → Nat
  | (.string bytes, d) => bytes.length + uptoBulk d + 1
  | (_, d) => uptoBulk d + 1
 end
def uptoSmall : (H : Type) → List (DataW H) → Bool := fun _ ds => decide (uptoBulkAll ds ≤ 1048576)
def OpenSpec.upto (s : _root_.Go.ChangeSpec) : _root_.Go.OpenSpec := { _root_.Go.OpenSpec.ofChange s with cond := some uptoSmall }

/-- 'laws.FnExactFindingName', WHERE WHAT IT READS IS OF BULK AT MOST 1048576: true; the input reads as it did. -/
def fnExactFindingNameUptoRow : OpenClaim := { program := "yteglmkbkjaeijaa", sum := "1d203609a2969cb97ad43ef1c14e08a39182f9a246daf1061940c7fd778a8f93", func := "loop.example/g00956/laws.FnExactFindingName", spec := "fnExactFindingName", apart := false, narrowed := true }
def FnExactFindingNameUptoSaid : Prop := fnExactFindingNameUptoRow.holds Try.pinned (OpenSpec.upto fnExactFindingNameSpec)

/-- 'laws.FnExactNestName', WHERE WHAT IT READS IS OF BULK AT MOST 1048576: true; the input reads as it did. -/
def fnExactNestNameUptoRow : OpenClaim := { program := "yteglmkbkjaeijaa", sum := "1d203609a2969cb97ad43ef1c14e08a39182f9a246daf1061940c7fd778a8f93", func := "loop.example/g00956/laws.FnExactNestName", spec := "fnExactNestName", apart := false, narrowed := true }
def FnExactNestNameUptoSaid : Prop := fnExactNestNameUptoRow.holds Try.pinned (OpenSpec.upto fnExactNestNameSpec)

/-- 'laws.FnExactCommandNames', WHERE WHAT IT READS IS OF BULK AT MOST 1048576: true; the input reads as it did. -/
def fnExactCommandNamesUptoRow : OpenClaim := { program := "yteglmkbkjaeijaa", sum := "1d203609a2969cb97ad43ef1c14e08a39182f9a246daf1061940c7fd778a8f93", func := "loop.example/g00956/laws.FnExactCommandNames", spec := "fnExactCommandNames", apart := false, narrowed := true }
def FnExactCommandNamesUptoSaid : Prop := fnExactCommandNamesUptoRow.holds Try.pinned (OpenSpec.upto fnExactCommandNamesSpec)

/-- 'laws.FnExactFindingText', WHERE WHAT IT READS IS OF BULK AT MOST 1048576: true; the input reads as it did. -/
def fnExactFindingTextUptoRow : OpenClaim := { program := "yteglmkbkjaeijaa", sum := "1d203609a2969cb97ad43ef1c14e08a39182f9a246daf1061940c7fd778a8f93", func := "loop.example/g00956/laws.FnExactFindingText", spec := "fnExactFindingText", apart := false, narrowed := true }
def FnExactFindingTextUptoSaid : Prop := fnExactFindingTextUptoRow.holds Try.pinned (OpenSpec.upto fnExactFindingTextSpec)

/-- 'laws.FnExactCountFindings', WHERE WHAT IT READS IS OF BULK AT MOST 1048576: true; the input reads as it did. -/
def fnExactCountFindingsUptoRow : OpenClaim := { program := "yteglmkbkjaeijaa", sum := "1d203609a2969cb97ad43ef1c14e08a39182f9a246daf1061940c7fd778a8f93", func := "loop.example/g00956/laws.FnExactCountFindings", spec := "fnExactCountFindings", apart := false, narrowed := true }
def FnExactCountFindingsUptoSaid : Prop := fnExactCountFindingsUptoRow.holds Try.pinned (OpenSpec.upto fnExactCountFindingsSpec)

/-- 'laws.FnExactIsFloor', WHERE WHAT IT READS IS OF BULK AT MOST 1048576: true; the input reads as it did. -/
def fnExactIsFloorUptoRow : OpenClaim := { program := "yteglmkbkjaeijaa", sum := "1d203609a2969cb97ad43ef1c14e08a39182f9a246daf1061940c7fd778a8f93", func := "loop.example/g00956/laws.FnExactIsFloor", spec := "fnExactIsFloor", apart := false, narrowed := true }
def FnExactIsFloorUptoSaid : Prop := fnExactIsFloorUptoRow.holds Try.pinned (OpenSpec.upto fnExactIsFloorSpec)

end Rows
end Go.Proofs.Yteglmkbkjaeijaa
