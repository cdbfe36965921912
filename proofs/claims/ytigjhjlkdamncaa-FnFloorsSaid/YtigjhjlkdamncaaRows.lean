/-
  No cell of these rows narrows 'for every input' (looked for: loops, veiled, ifaces, maps, wideKeys, modest, calm, conditions, laid).
  DERIVED. THE GIVEN ROWS OF THIS SEAT. 11 by the template 'for every input the law returns true; each argument reads behind the call as it read before'; 0 by the template 'total and deterministic' (their statements: YtigjhjlkdamncaaTotals.lean).
  GIVEN WITH THE SEED: the statements are not yours to turn. If you find one false, say at which input.
  Laid BY PROGRAM, IN A SANDBOX (cutbox-rows.mjs): the forced cells as the released guide's own fill.sh prints them over the translation e3ae9d810be6f4e3… (all of the seat's roots in one cut). By AI agents, Wed Nov 11 2026. No macro, syntax, notation, axiom, sorry.
-/
import Derived.Test.YtigjhjlkdamncaaChecked
import GoSem.Claim
import GoSem.ClaimJoined
import GoSem.ClaimMapViews
import Derived.JoinedTies
import Derived.KernelRfl
namespace Go.Proofs.Ytigjhjlkdamncaa
/- THE CELL 'sum', in the pinned program and in every row, IS THE sha256 OF THE DUMP (.gsa) THAT YtigjhjlkdamncaaProg.lean LOADS. Nothing in Lean hashes anything: it is a label: what it is worth is what the hold of that sum in a sandbox is worth. -/
noncomputable def Try.pinned : Pinned := { name := "ytigjhjlkdamncaa", sum := "e3ae9d810be6f4e3be0f6c20ddf057b426a7f2d55940188da57b182181a81a65", checked := Try.checked }
namespace Rows
def none {H : Type} : Left H := { results := [], args := [] }

/-- 'laws.FnPolish': WHATEVER THE INPUT: true; the input reads as it did. -/
def fnPolishSpec : ChangeSpec := { name := "fnPolish", fn := fun _ => fun
  | [d1, d2] => { results := [.lit (.bool true)], args := [d1, d2] }
  | _ => none }
def fnPolishRow : OpenClaim := { program := "ytigjhjlkdamncaa", sum := "e3ae9d810be6f4e3be0f6c20ddf057b426a7f2d55940188da57b182181a81a65", func := "loop.example/g00956/laws.FnPolish", spec := "fnPolish", unfollowed := true, recurses := true, apart := false }
def FnPolishSaid : Prop := fnPolishRow.holds Try.pinned (OpenSpec.ofChange fnPolishSpec)

/-- ITS FALSE NEIGHBOUR: 'it returns false'. Refute it at one input. -/
def fnPolishWrong : ChangeSpec := { name := "fnPolish", fn := fun _ => fun
  | [d1, d2] => { results := [.lit (.bool false)], args := [d1, d2] }
  | _ => none }
def FnPolishWrongFalsely : Prop := fnPolishRow.holds Try.pinned (OpenSpec.ofChange fnPolishWrong)

/-- 'laws.FnExactFirstCoatPlan': WHATEVER THE INPUT: true; the input reads as it did. -/
def fnExactFirstCoatPlanSpec : ChangeSpec := { name := "fnExactFirstCoatPlan", fn := fun _ => fun
  | [d1, d2, d3, d4, d5] => { results := [.lit (.bool true)], args := [d1, d2, d3, d4, d5] }
  | _ => none }
def fnExactFirstCoatPlanRow : OpenClaim := { program := "ytigjhjlkdamncaa", sum := "e3ae9d810be6f4e3be0f6c20ddf057b426a7f2d55940188da57b182181a81a65", func := "loop.example/g00956/laws.FnExactFirstCoatPlan", spec := "fnExactFirstCoatPlan", unfollowed := true, recurses := true, apart := false }
def FnExactFirstCoatPlanSaid : Prop := fnExactFirstCoatPlanRow.holds Try.pinned (OpenSpec.ofChange fnExactFirstCoatPlanSpec)

/-- ITS FALSE NEIGHBOUR: 'it returns false'. Refute it at one input. -/
def fnExactFirstCoatPlanWrong : ChangeSpec := { name := "fnExactFirstCoatPlan", fn := fun _ => fun
  | [d1, d2, d3, d4, d5] => { results := [.lit (.bool false)], args := [d1, d2, d3, d4, d5] }
  | _ => none }
def FnExactFirstCoatPlanWrongFalsely : Prop := fnExactFirstCoatPlanRow.holds Try.pinned (OpenSpec.ofChange fnExactFirstCoatPlanWrong)

/-- 'laws.FnExactFewestBlades': WHATEVER THE INPUT: true; the input reads as it did. -/
def fnExactFewestBladesSpec : ChangeSpec := { name := "fnExactFewestBlades", fn := fun _ => fun
  | [d1, d2, d3] => { results := [.lit (.bool true)], args := [d1, d2, d3] }
  | _ => none }
def fnExactFewestBladesRow : OpenClaim := { program := "ytigjhjlkdamncaa", sum := "e3ae9d810be6f4e3be0f6c20ddf057b426a7f2d55940188da57b182181a81a65", func := "loop.example/g00956/laws.FnExactFewestBlades", spec := "fnExactFewestBlades", recurses := true, apart := false }
def FnExactFewestBladesSaid : Prop := fnExactFewestBladesRow.holds Try.pinned (OpenSpec.ofChange fnExactFewestBladesSpec)

/-- ITS FALSE NEIGHBOUR: 'it returns false'. Refute it at one input. -/
def fnExactFewestBladesWrong : ChangeSpec := { name := "fnExactFewestBlades", fn := fun _ => fun
  | [d1, d2, d3] => { results := [.lit (.bool false)], args := [d1, d2, d3] }
  | _ => none }
def FnExactFewestBladesWrongFalsely : Prop := fnExactFewestBladesRow.holds Try.pinned (OpenSpec.ofChange fnExactFewestBladesWrong)

/-- 'laws.FnExactFewestSteps': WHATEVER THE INPUT: true; the input reads as it did. -/
def fnExactFewestStepsSpec : ChangeSpec := { name := "fnExactFewestSteps", fn := fun _ => fun
  | [d1, d2, d3, d4, d5, d6] => { results := [.lit (.bool true)], args := [d1, d2, d3, d4, d5, d6] }
  | _ => none }
def fnExactFewestStepsRow : OpenClaim := { program := "ytigjhjlkdamncaa", sum := "e3ae9d810be6f4e3be0f6c20ddf057b426a7f2d55940188da57b182181a81a65", func := "loop.example/g00956/laws.FnExactFewestSteps", spec := "fnExactFewestSteps", unfollowed := true, recurses := true, apart := false }
def FnExactFewestStepsSaid : Prop := fnExactFewestStepsRow.holds Try.pinned (OpenSpec.ofChange fnExactFewestStepsSpec)

/-- ITS FALSE NEIGHBOUR: 'it returns false'. Refute it at one input. -/
def fnExactFewestStepsWrong : ChangeSpec := { name := "fnExactFewestSteps", fn := fun _ => fun
  | [d1, d2, d3, d4, d5, d6] => { results := [.lit (.bool false)], args := [d1, d2, d3, d4, d5, d6] }
  | _ => none }
def FnExactFewestStepsWrongFalsely : Prop := fnExactFewestStepsRow.holds Try.pinned (OpenSpec.ofChange fnExactFewestStepsWrong)

/-- 'laws.FnExactBestMatches': WHATEVER THE INPUT: true; the input reads as it did. -/
def fnExactBestMatchesSpec : ChangeSpec := { name := "fnExactBestMatches", fn := fun _ => fun
  | [d1, d2, d3] => { results := [.lit (.bool true)], args := [d1, d2, d3] }
  | _ => none }
def fnExactBestMatchesRow : OpenClaim := { program := "ytigjhjlkdamncaa", sum := "e3ae9d810be6f4e3be0f6c20ddf057b426a7f2d55940188da57b182181a81a65", func := "loop.example/g00956/laws.FnExactBestMatches", spec := "fnExactBestMatches", unfollowed := true, recurses := true, apart := false }
def FnExactBestMatchesSaid : Prop := fnExactBestMatchesRow.holds Try.pinned (OpenSpec.ofChange fnExactBestMatchesSpec)

/-- ITS FALSE NEIGHBOUR: 'it returns false'. Refute it at one input. -/
def fnExactBestMatchesWrong : ChangeSpec := { name := "fnExactBestMatches", fn := fun _ => fun
  | [d1, d2, d3] => { results := [.lit (.bool false)], args := [d1, d2, d3] }
  | _ => none }
def FnExactBestMatchesWrongFalsely : Prop := fnExactBestMatchesRow.holds Try.pinned (OpenSpec.ofChange fnExactBestMatchesWrong)

/-- 'laws.FnExactBestGlueOrder': WHATEVER THE INPUT: true; the input reads as it did. -/
def fnExactBestGlueOrderSpec : ChangeSpec := { name := "fnExactBestGlueOrder", fn := fun _ => fun
  | [d1, d2, d3] => { results := [.lit (.bool true)], args := [d1, d2, d3] }
  | _ => none }
def fnExactBestGlueOrderRow : OpenClaim := { program := "ytigjhjlkdamncaa", sum := "e3ae9d810be6f4e3be0f6c20ddf057b426a7f2d55940188da57b182181a81a65", func := "loop.example/g00956/laws.FnExactBestGlueOrder", spec := "fnExactBestGlueOrder", recurses := true, apart := false }
def FnExactBestGlueOrderSaid : Prop := fnExactBestGlueOrderRow.holds Try.pinned (OpenSpec.ofChange fnExactBestGlueOrderSpec)

/-- ITS FALSE NEIGHBOUR: 'it returns false'. Refute it at one input. -/
def fnExactBestGlueOrderWrong : ChangeSpec := { name := "fnExactBestGlueOrder", fn := fun _ => fun
  | [d1, d2, d3] => { results := [.lit (.bool false)], args := [d1, d2, d3] }
  | _ => none }
def FnExactBestGlueOrderWrongFalsely : Prop := fnExactBestGlueOrderRow.holds Try.pinned (OpenSpec.ofChange fnExactBestGlueOrderWrong)

/-- 'laws.FnExactBestRepairs': WHATEVER THE INPUT: true; the input reads as it did. -/
def fnExactBestRepairsSpec : ChangeSpec := { name := "fnExactBestRepairs", fn := fun _ => fun
  | [d1, d2, d3, d4] => { results := [.lit (.bool true)], args := [d1, d2, d3, d4] }
  | _ => none }
def fnExactBestRepairsRow : OpenClaim := { program := "ytigjhjlkdamncaa", sum := "e3ae9d810be6f4e3be0f6c20ddf057b426a7f2d55940188da57b182181a81a65", func := "loop.example/g00956/laws.FnExactBestRepairs", spec := "fnExactBestRepairs", recurses := true, apart := false }
def FnExactBestRepairsSaid : Prop := fnExactBestRepairsRow.holds Try.pinned (OpenSpec.ofChange fnExactBestRepairsSpec)

/-- ITS FALSE NEIGHBOUR: 'it returns false'. Refute it at one input. -/
def fnExactBestRepairsWrong : ChangeSpec := { name := "fnExactBestRepairs", fn := fun _ => fun
  | [d1, d2, d3, d4] => { results := [.lit (.bool false)], args := [d1, d2, d3, d4] }
  | _ => none }
def FnExactBestRepairsWrongFalsely : Prop := fnExactBestRepairsRow.holds Try.pinned (OpenSpec.ofChange fnExactBestRepairsWrong)

/-- 'laws.FnMatches': WHATEVER THE INPUT: true; the input reads as it did. -/
def fnMatchesSpec : ChangeSpec := { name := "fnMatches", fn := fun _ => fun
  | [d] => { results := [.lit (.bool true)], args := [d] }
  | _ => none }
def fnMatchesRow : OpenClaim := { program := "ytigjhjlkdamncaa", sum := "e3ae9d810be6f4e3be0f6c20ddf057b426a7f2d55940188da57b182181a81a65", func := "loop.example/g00956/laws.FnMatches", spec := "fnMatches", unfollowed := true, recurses := true, apart := false }
def FnMatchesSaid : Prop := fnMatchesRow.holds Try.pinned (OpenSpec.ofChange fnMatchesSpec)

/-- ITS FALSE NEIGHBOUR: 'it returns false'. Refute it at one input. -/
def fnMatchesWrong : ChangeSpec := { name := "fnMatches", fn := fun _ => fun
  | [d] => { results := [.lit (.bool false)], args := [d] }
  | _ => none }
def FnMatchesWrongFalsely : Prop := fnMatchesRow.holds Try.pinned (OpenSpec.ofChange fnMatchesWrong)

/-- 'laws.FnFloors': WHATEVER THE INPUT: true; the input reads as it did. -/
def fnFloorsSpec : ChangeSpec := { name := "fnFloors", fn := fun _ => fun
  | [d1, d2] => { results := [.lit (.bool true)], args := [d1, d2] }
  | _ => none }
def fnFloorsRow : OpenClaim := { program := "ytigjhjlkdamncaa", sum := "e3ae9d810be6f4e3be0f6c20ddf057b426a7f2d55940188da57b182181a81a65", func := "loop.example/g00956/laws.FnFloors", spec := "fnFloors", recurses := true, apart := false }
def FnFloorsSaid : Prop := fnFloorsRow.holds Try.pinned (OpenSpec.ofChange fnFloorsSpec)

/-- ITS FALSE NEIGHBOUR: 'it returns false'. Refute it at one input. -/
def fnFloorsWrong : ChangeSpec := { name := "fnFloors", fn := fun _ => fun
  | [d1, d2] => { results := [.lit (.bool false)], args := [d1, d2] }
  | _ => none }
def FnFloorsWrongFalsely : Prop := fnFloorsRow.holds Try.pinned (OpenSpec.ofChange fnFloorsWrong)

/-- 'laws.FnBins': WHATEVER THE INPUT: true; the input reads as it did. -/
def fnBinsSpec : ChangeSpec := { name := "fnBins", fn := fun _ => fun
  | [d] => { results := [.lit (.bool true)], args := [d] }
  | _ => none }
def fnBinsRow : OpenClaim := { program := "ytigjhjlkdamncaa", sum := "e3ae9d810be6f4e3be0f6c20ddf057b426a7f2d55940188da57b182181a81a65", func := "loop.example/g00956/laws.FnBins", spec := "fnBins", unfollowed := true, recurses := true, apart := false }
def FnBinsSaid : Prop := fnBinsRow.holds Try.pinned (OpenSpec.ofChange fnBinsSpec)

/-- ITS FALSE NEIGHBOUR: 'it returns false'. Refute it at one input. -/
def fnBinsWrong : ChangeSpec := { name := "fnBins", fn := fun _ => fun
  | [d] => { results := [.lit (.bool false)], args := [d] }
  | _ => none }
def FnBinsWrongFalsely : Prop := fnBinsRow.holds Try.pinned (OpenSpec.ofChange fnBinsWrong)

/-- 'laws.FnGlueOrder': WHATEVER THE INPUT: true; the input reads as it did. -/
def fnGlueOrderSpec : ChangeSpec := { name := "fnGlueOrder", fn := fun _ => fun
  | [d1, d2] => { results := [.lit (.bool true)], args := [d1, d2] }
  | _ => none }
def fnGlueOrderRow : OpenClaim := { program := "ytigjhjlkdamncaa", sum := "e3ae9d810be6f4e3be0f6c20ddf057b426a7f2d55940188da57b182181a81a65", func := "loop.example/g00956/laws.FnGlueOrder", spec := "fnGlueOrder", unfollowed := true, recurses := true, apart := false }
def FnGlueOrderSaid : Prop := fnGlueOrderRow.holds Try.pinned (OpenSpec.ofChange fnGlueOrderSpec)

/-- ITS FALSE NEIGHBOUR: 'it returns false'. Refute it at one input. -/
def fnGlueOrderWrong : ChangeSpec := { name := "fnGlueOrder", fn := fun _ => fun
  | [d1, d2] => { results := [.lit (.bool false)], args := [d1, d2] }
  | _ => none }
def FnGlueOrderWrongFalsely : Prop := fnGlueOrderRow.holds Try.pinned (OpenSpec.ofChange fnGlueOrderWrong)

/- THE SECOND FORM. 'bulk': how many values and letters a reading holds, each counted each time it is reached (what is shared counts as often as it is met; a slice's spare places count too). A statement '..UptoSaid' is the law's where the arguments, and the package variables that the reading takes, are together of bulk at most 1048576: NARROWER than '..Said'. Prove '..Said' where nothing that the law and all that it calls make is longer than what came in: it says more and counts as full. Else prove '..UptoSaid'. A law counts once. -/
mutual
def uptoBulk {H : Type} : DataW H → Nat
  | .lit (.string bytes) => bytes.length + 1
  | .lit _ => 1
  | .nil => 1
  | .ptr d => uptoBulk d + 1
  | .slice elems spare => uptoBulkAll elems + uptoBulkAll spare + 1
  | .agg parts => uptoBulkAll parts + 1
  | .iface _ d => uptoBulk d + 1
  | .map entries => uptoBulkEntries entries + 1
  | .held _ => 1
def uptoBulkAll {H : Type} : List (DataW H) → Nat
  | [] => 0
  | d :: r => uptoBulk d + uptoBulkAll r
def uptoBulkEntries {H : Type} : List (Lit × DataW H) → Nat
  | [] => 0
  | x :: r => uptoBulkEntry x + uptoBulkEntries r
def uptoBulkEntry {H : Type} : Lit × DataW H → Nat
  | (.string bytes, d) => bytes.length + uptoBulk d + 1
  | (_, d) => uptoBulk d + 1
 end
def uptoSmall : (H : Type) → List (DataW H) → Bool := fun _ ds => decide (uptoBulkAll ds ≤ 1048576)
def OpenSpec.upto (s : _root_.Go.ChangeSpec) : _root_.Go.OpenSpec := { _root_.Go.OpenSpec.ofChange s with cond := some uptoSmall }

/-- 'laws.FnPolish', WHERE WHAT IT READS IS OF BULK AT MOST 1048576: true; the input reads as it did. -/
def fnPolishUptoRow : OpenClaim := { program := "ytigjhjlkdamncaa", sum := "e3ae9d810be6f4e3be0f6c20ddf057b426a7f2d55940188da57b182181a81a65", func := "loop.example/g00956/laws.FnPolish", spec := "fnPolish", unfollowed := true, recurses := true, apart := false, narrowed := true }
def FnPolishUptoSaid : Prop := fnPolishUptoRow.holds Try.pinned (OpenSpec.upto fnPolishSpec)

/-- 'laws.FnExactFirstCoatPlan', WHERE WHAT IT READS IS OF BULK AT MOST 1048576: true; the input reads as it did. -/
def fnExactFirstCoatPlanUptoRow : OpenClaim := { program := "ytigjhjlkdamncaa", sum := "e3ae9d810be6f4e3be0f6c20ddf057b426a7f2d55940188da57b182181a81a65", func := "loop.example/g00956/laws.FnExactFirstCoatPlan", spec := "fnExactFirstCoatPlan", unfollowed := true, recurses := true, apart := false, narrowed := true }
def FnExactFirstCoatPlanUptoSaid : Prop := fnExactFirstCoatPlanUptoRow.holds Try.pinned (OpenSpec.upto fnExactFirstCoatPlanSpec)

/-- 'laws.FnExactFewestBlades', WHERE WHAT IT READS IS OF BULK AT MOST 1048576: true; the input reads as it did. -/
def fnExactFewestBladesUptoRow : OpenClaim := { program := "ytigjhjlkdamncaa", sum := "e3ae9d810be6f4e3be0f6c20ddf057b426a7f2d55940188da57b182181a81a65", func := "loop.example/g00956/laws.FnExactFewestBlades", spec := "fnExactFewestBlades", recurses := true, apart := false, narrowed := true }
def FnExactFewestBladesUptoSaid : Prop := fnExactFewestBladesUptoRow.holds Try.pinned (OpenSpec.upto fnExactFewestBladesSpec)

/-- 'laws.FnExactFewestSteps', WHERE WHAT IT READS IS OF BULK AT MOST 1048576: true; the input reads as it did. -/
def fnExactFewestStepsUptoRow : OpenClaim := { program := "ytigjhjlkdamncaa", sum := "e3ae9d810be6f4e3be0f6c20ddf057b426a7f2d55940188da57b182181a81a65", func := "loop.example/g00956/laws.FnExactFewestSteps", spec := "fnExactFewestSteps", unfollowed := true, recurses := true, apart := false, narrowed := true }
def FnExactFewestStepsUptoSaid : Prop := fnExactFewestStepsUptoRow.holds Try.pinned (OpenSpec.upto fnExactFewestStepsSpec)

/-- 'laws.FnExactBestMatches', WHERE WHAT IT READS IS OF BULK AT MOST 1048576: true; the input reads as it did. -/
def fnExactBestMatchesUptoRow : OpenClaim := { program := "ytigjhjlkdamncaa", sum := "e3ae9d810be6f4e3be0f6c20ddf057b426a7f2d55940188da57b182181a81a65", func := "loop.example/g00956/laws.FnExactBestMatches", spec := "fnExactBestMatches", unfollowed := true, recurses := true, apart := false, narrowed := true }
def FnExactBestMatchesUptoSaid : Prop := fnExactBestMatchesUptoRow.holds Try.pinned (OpenSpec.upto fnExactBestMatchesSpec)

/-- 'laws.FnExactBestGlueOrder', WHERE WHAT IT READS IS OF BULK AT MOST 1048576: true; the input reads as it did. -/
def fnExactBestGlueOrderUptoRow : OpenClaim := { program := "ytigjhjlkdamncaa", sum := "e3ae9d810be6f4e3be0f6c20ddf057b426a7f2d55940188da57b182181a81a65", func := "loop.example/g00956/laws.FnExactBestGlueOrder", spec := "fnExactBestGlueOrder", recurses := true, apart := false, narrowed := true }
def FnExactBestGlueOrderUptoSaid : Prop := fnExactBestGlueOrderUptoRow.holds Try.pinned (OpenSpec.upto fnExactBestGlueOrderSpec)

/-- 'laws.FnExactBestRepairs', WHERE WHAT IT READS IS OF BULK AT MOST 1048576: true; the input reads as it did. -/
def fnExactBestRepairsUptoRow : OpenClaim := { program := "ytigjhjlkdamncaa", sum := "e3ae9d810be6f4e3be0f6c20ddf057b426a7f2d55940188da57b182181a81a65", func := "loop.example/g00956/laws.FnExactBestRepairs", spec := "fnExactBestRepairs", recurses := true, apart := false, narrowed := true }
def FnExactBestRepairsUptoSaid : Prop := fnExactBestRepairsUptoRow.holds Try.pinned (OpenSpec.upto fnExactBestRepairsSpec)

/-- 'laws.FnMatches', WHERE WHAT IT READS IS OF BULK AT MOST 1048576: true; the input reads as it did. -/
def fnMatchesUptoRow : OpenClaim := { program := "ytigjhjlkdamncaa", sum := "e3ae9d810be6f4e3be0f6c20ddf057b426a7f2d55940188da57b182181a81a65", func := "loop.example/g00956/laws.FnMatches", spec := "fnMatches", unfollowed := true, recurses := true, apart := false, narrowed := true }
def FnMatchesUptoSaid : Prop := fnMatchesUptoRow.holds Try.pinned (OpenSpec.upto fnMatchesSpec)

/-- 'laws.FnFloors', WHERE WHAT IT READS IS OF BULK AT MOST 1048576: true; the input reads as it did. -/
def fnFloorsUptoRow : OpenClaim := { program := "ytigjhjlkdamncaa", sum := "e3ae9d810be6f4e3be0f6c20ddf057b426a7f2d55940188da57b182181a81a65", func := "loop.example/g00956/laws.FnFloors", spec := "fnFloors", recurses := true, apart := false, narrowed := true }
def FnFloorsUptoSaid : Prop := fnFloorsUptoRow.holds Try.pinned (OpenSpec.upto fnFloorsSpec)

/-- 'laws.FnBins', WHERE WHAT IT READS IS OF BULK AT MOST 1048576: true; the input reads as it did. -/
def fnBinsUptoRow : OpenClaim := { program := "ytigjhjlkdamncaa", sum := "e3ae9d810be6f4e3be0f6c20ddf057b426a7f2d55940188da57b182181a81a65", func := "loop.example/g00956/laws.FnBins", spec := "fnBins", unfollowed := true, recurses := true, apart := false, narrowed := true }
def FnBinsUptoSaid : Prop := fnBinsUptoRow.holds Try.pinned (OpenSpec.upto fnBinsSpec)

/-- 'laws.FnGlueOrder', WHERE WHAT IT READS IS OF BULK AT MOST 1048576: true; the input reads as it did. -/
def fnGlueOrderUptoRow : OpenClaim := { program := "ytigjhjlkdamncaa", sum := "e3ae9d810be6f4e3be0f6c20ddf057b426a7f2d55940188da57b182181a81a65", func := "loop.example/g00956/laws.FnGlueOrder", spec := "fnGlueOrder", unfollowed := true, recurses := true, apart := false, narrowed := true }
def FnGlueOrderUptoSaid : Prop := fnGlueOrderUptoRow.holds Try.pinned (OpenSpec.upto fnGlueOrderSpec)

end Rows
end Go.Proofs.Ytigjhjlkdamncaa
