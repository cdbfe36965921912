/-
  DERIVED. GIVEN WITH THE SEED: THE CARDS: each row of YthdegfgajfgggaaDoorRows.lean that lists a variable, with what it lists TIED to the program's text (the seventh form; the later family's looks); each row that meets fmt, with fmt's text TOLD by the authors' own Lean function (tested against real Go, not proved from fmt's source: count such statements apart). THE CARD IS WHAT COUNTS. Prove the row's statement (the work); the ties are given (YthdegfgajfgggaaDoorTie.lean); close each card by the builder's one call (the guide's Derived/Test/ToyasCard.lean, 'card_holds'). Laid BY PROGRAM, IN A SANDBOX (cutbox-door.mjs). By AI agents, Wed Nov 11 2026. No macro, syntax, notation, axiom, sorry.
-/
import Derived.Test.YthdegfgajfgggaaDoorRows
import GoSem.ClaimSeven
namespace Go.Proofs.YthdegfgajfgggaaDoor
namespace Rows

/-- THE TIED CARD OF 'laws.FnExactRoomText'. -/
def fnExactRoomTextCard : Claim7 := { stood := { row := fnExactRoomTextRow, standIns := [], harness := (true, "82bacd93c32bfa08e171199e3dafb5e22c28db5e4da28904a4a5e7c0470e4967"), looks := false }, kinds := [], alts := [], laidByText := true, laidKinds := [.data, .data, .data], laidTests := true, laidLooks := .later }
def FnExactRoomTextCardSaid : Prop := Claim7.holds Tryd.pinned (.plain (OpenSpec.ofChange fnExactRoomTextSpec)) fnExactRoomTextCard

/-- THE TIED CARD OF 'laws.FnExactReadRoom'. -/
def fnExactReadRoomCard : Claim7 := { stood := { row := fnExactReadRoomRow, standIns := [], harness := (true, "82bacd93c32bfa08e171199e3dafb5e22c28db5e4da28904a4a5e7c0470e4967"), looks := false }, kinds := [], alts := [], laidByText := true, laidKinds := [.data, .data, .data], laidTests := true, laidLooks := .later }
def FnExactReadRoomCardSaid : Prop := Claim7.holds Tryd.pinned (.plain (OpenSpec.ofChange fnExactReadRoomSpec)) fnExactReadRoomCard

/-- THE TIED CARD OF 'laws.FnRooms'. -/
def fnRoomsCard : Claim7 := { stood := { row := fnRoomsRow, standIns := [], harness := (true, "82bacd93c32bfa08e171199e3dafb5e22c28db5e4da28904a4a5e7c0470e4967"), looks := false }, kinds := [], alts := [], laidByText := true, laidKinds := [.data, .data, .data], laidTests := true, laidLooks := .later }
def FnRoomsCardSaid : Prop := Claim7.holds Tryd.pinned (.plain (OpenSpec.ofChange fnRoomsSpec)) fnRoomsCard

/-- THE SECOND FORM's CARD OF 'laws.FnExactRoomText'. -/
def fnExactRoomTextUptoCard : Claim7 := { stood := { row := fnExactRoomTextUptoRow, standIns := [], harness := (true, "82bacd93c32bfa08e171199e3dafb5e22c28db5e4da28904a4a5e7c0470e4967"), looks := false }, kinds := [], alts := [], laidByText := true, laidKinds := [.data, .data, .data], laidTests := true, laidLooks := .later }
def FnExactRoomTextUptoCardSaid : Prop := Claim7.holds Tryd.pinned (.plain (OpenSpec.upto fnExactRoomTextSpec)) fnExactRoomTextUptoCard

/-- THE SECOND FORM's CARD OF 'laws.FnExactReadRoom'. -/
def fnExactReadRoomUptoCard : Claim7 := { stood := { row := fnExactReadRoomUptoRow, standIns := [], harness := (true, "82bacd93c32bfa08e171199e3dafb5e22c28db5e4da28904a4a5e7c0470e4967"), looks := false }, kinds := [], alts := [], laidByText := true, laidKinds := [.data, .data, .data], laidTests := true, laidLooks := .later }
def FnExactReadRoomUptoCardSaid : Prop := Claim7.holds Tryd.pinned (.plain (OpenSpec.upto fnExactReadRoomSpec)) fnExactReadRoomUptoCard

/-- THE SECOND FORM's CARD OF 'laws.FnRooms'. -/
def fnRoomsUptoCard : Claim7 := { stood := { row := fnRoomsUptoRow, standIns := [], harness := (true, "82bacd93c32bfa08e171199e3dafb5e22c28db5e4da28904a4a5e7c0470e4967"), looks := false }, kinds := [], alts := [], laidByText := true, laidKinds := [.data, .data, .data], laidTests := true, laidLooks := .later }
def FnRoomsUptoCardSaid : Prop := Claim7.holds Tryd.pinned (.plain (OpenSpec.upto fnRoomsSpec)) fnRoomsUptoCard
end Rows
end Go.Proofs.YthdegfgajfgggaaDoor
