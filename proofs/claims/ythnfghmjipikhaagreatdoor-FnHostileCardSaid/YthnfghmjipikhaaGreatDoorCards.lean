/-
  DERIVED. GIVEN WITH THE SEED: THE CARDS: each row of YthnfghmjipikhaaGreatDoorRows.lean that lists a variable, with what it lists TIED to the program's text (the seventh form; the later family's looks); each row that meets fmt, with fmt's text TOLD by the authors' own Lean function (tested against real Go, not proved from fmt's source: count such statements apart). THE CARD IS WHAT COUNTS. Prove the row's statement (the work); the ties are given (YthnfghmjipikhaaGreatDoorTie.lean); close each card by the builder's one call (the guide's Derived/Test/ToyasCard.lean, 'card_holds'). Laid BY PROGRAM, IN A SANDBOX (cutbox-door.mjs). By AI agents, Wed Nov 11 2026. No macro, syntax, notation, axiom, sorry.
-/
import Derived.Test.YthnfghmjipikhaaGreatDoorRows
import GoSem.ClaimSeven
namespace Go.Proofs.YthnfghmjipikhaaGreatDoor
namespace Rows

/-- THE TIED CARD OF 'laws.FnExactAskWith'. -/
def fnExactAskWithCard : Claim7 := { stood := { row := fnExactAskWithRow, standIns := [], harness := (true, "3e82aea829f7c8076b756f5276c789a940943d046b7d84f3aac2f508f7b80f88"), looks := true }, kinds := [], alts := [], laidByText := true, laidKinds := [.data, .data, .data, .data, .sentinel, .sentinel, .pinned], laidTests := true, laidLooks := .later }
def FnExactAskWithCardSaid : Prop := Claim7.holds Tryz.pinned (.plain (OpenSpec.ofChange fnExactAskWithSpec)) fnExactAskWithCard

/-- THE TIED CARD OF 'laws.FnExactAnswerWith'. -/
def fnExactAnswerWithCard : Claim7 := { stood := { row := fnExactAnswerWithRow, standIns := [], harness := (true, "3e82aea829f7c8076b756f5276c789a940943d046b7d84f3aac2f508f7b80f88"), looks := true }, kinds := [], alts := [], laidByText := true, laidKinds := [.data, .data, .data, .data, .sentinel, .sentinel, .pinned], laidTests := true, laidLooks := .later }
def FnExactAnswerWithCardSaid : Prop := Claim7.holds Tryz.pinned (.plain (OpenSpec.ofChange fnExactAnswerWithSpec)) fnExactAnswerWithCard

/-- THE TIED CARD OF 'laws.FnWhole'. -/
def fnWholeCard : Claim7 := { stood := { row := fnWholeRow, standIns := [], harness := (true, "3e82aea829f7c8076b756f5276c789a940943d046b7d84f3aac2f508f7b80f88"), looks := true }, kinds := [], alts := [], laidByText := true, laidKinds := [.data, .data, .data, .data, .sentinel, .sentinel, .pinned], laidTests := true, laidLooks := .later }
def FnWholeCardSaid : Prop := Claim7.holds Tryz.pinned (.plain (OpenSpec.ofChange fnWholeSpec)) fnWholeCard

/-- THE TIED CARD OF 'laws.FnSpoken'. -/
def fnSpokenCard : Claim7 := { stood := { row := fnSpokenRow, standIns := [], harness := (true, "3e82aea829f7c8076b756f5276c789a940943d046b7d84f3aac2f508f7b80f88"), looks := true }, kinds := [], alts := [], laidByText := true, laidKinds := [.data, .data, .data, .data, .sentinel, .sentinel, .pinned], laidTests := true, laidLooks := .later }
def FnSpokenCardSaid : Prop := Claim7.holds Tryz.pinned (.plain (OpenSpec.ofChange fnSpokenSpec)) fnSpokenCard

/-- THE TIED CARD OF 'laws.FnHostile'. -/
def fnHostileCard : Claim7 := { stood := { row := fnHostileRow, standIns := [], harness := (true, "3e82aea829f7c8076b756f5276c789a940943d046b7d84f3aac2f508f7b80f88"), looks := true }, kinds := [], alts := [], laidByText := true, laidKinds := [.data, .data, .data, .data, .sentinel, .sentinel, .pinned], laidTests := true, laidLooks := .later }
def FnHostileCardSaid : Prop := Claim7.holds Tryz.pinned (.plain (OpenSpec.ofChange fnHostileSpec)) fnHostileCard

/-- THE TIED CARD OF 'laws.FnExactHearBytes'. -/
def fnExactHearBytesCard : Claim7 := { stood := { row := fnExactHearBytesRow, standIns := [], harness := (true, "3e82aea829f7c8076b756f5276c789a940943d046b7d84f3aac2f508f7b80f88"), looks := true }, kinds := [], alts := [], laidByText := true, laidKinds := [.data, .data, .data, .data, .sentinel, .sentinel, .pinned], laidTests := true, laidLooks := .later }
def FnExactHearBytesCardSaid : Prop := Claim7.holds Tryz.pinned (.plain (OpenSpec.ofChange fnExactHearBytesSpec)) fnExactHearBytesCard

/-- THE SECOND FORM's CARD OF 'laws.FnExactAskWith'. -/
def fnExactAskWithUptoCard : Claim7 := { stood := { row := fnExactAskWithUptoRow, standIns := [], harness := (true, "3e82aea829f7c8076b756f5276c789a940943d046b7d84f3aac2f508f7b80f88"), looks := true }, kinds := [], alts := [], laidByText := true, laidKinds := [.data, .data, .data, .data, .sentinel, .sentinel, .pinned], laidTests := true, laidLooks := .later }
def FnExactAskWithUptoCardSaid : Prop := Claim7.holds Tryz.pinned (.plain (OpenSpec.upto fnExactAskWithSpec)) fnExactAskWithUptoCard

/-- THE SECOND FORM's CARD OF 'laws.FnExactAnswerWith'. -/
def fnExactAnswerWithUptoCard : Claim7 := { stood := { row := fnExactAnswerWithUptoRow, standIns := [], harness := (true, "3e82aea829f7c8076b756f5276c789a940943d046b7d84f3aac2f508f7b80f88"), looks := true }, kinds := [], alts := [], laidByText := true, laidKinds := [.data, .data, .data, .data, .sentinel, .sentinel, .pinned], laidTests := true, laidLooks := .later }
def FnExactAnswerWithUptoCardSaid : Prop := Claim7.holds Tryz.pinned (.plain (OpenSpec.upto fnExactAnswerWithSpec)) fnExactAnswerWithUptoCard

/-- THE SECOND FORM's CARD OF 'laws.FnWhole'. -/
def fnWholeUptoCard : Claim7 := { stood := { row := fnWholeUptoRow, standIns := [], harness := (true, "3e82aea829f7c8076b756f5276c789a940943d046b7d84f3aac2f508f7b80f88"), looks := true }, kinds := [], alts := [], laidByText := true, laidKinds := [.data, .data, .data, .data, .sentinel, .sentinel, .pinned], laidTests := true, laidLooks := .later }
def FnWholeUptoCardSaid : Prop := Claim7.holds Tryz.pinned (.plain (OpenSpec.upto fnWholeSpec)) fnWholeUptoCard

/-- THE SECOND FORM's CARD OF 'laws.FnSpoken'. -/
def fnSpokenUptoCard : Claim7 := { stood := { row := fnSpokenUptoRow, standIns := [], harness := (true, "3e82aea829f7c8076b756f5276c789a940943d046b7d84f3aac2f508f7b80f88"), looks := true }, kinds := [], alts := [], laidByText := true, laidKinds := [.data, .data, .data, .data, .sentinel, .sentinel, .pinned], laidTests := true, laidLooks := .later }
def FnSpokenUptoCardSaid : Prop := Claim7.holds Tryz.pinned (.plain (OpenSpec.upto fnSpokenSpec)) fnSpokenUptoCard

/-- THE SECOND FORM's CARD OF 'laws.FnHostile'. -/
def fnHostileUptoCard : Claim7 := { stood := { row := fnHostileUptoRow, standIns := [], harness := (true, "3e82aea829f7c8076b756f5276c789a940943d046b7d84f3aac2f508f7b80f88"), looks := true }, kinds := [], alts := [], laidByText := true, laidKinds := [.data, .data, .data, .data, .sentinel, .sentinel, .pinned], laidTests := true, laidLooks := .later }
def FnHostileUptoCardSaid : Prop := Claim7.holds Tryz.pinned (.plain (OpenSpec.upto fnHostileSpec)) fnHostileUptoCard

/-- THE SECOND FORM's CARD OF 'laws.FnExactHearBytes'. -/
def fnExactHearBytesUptoCard : Claim7 := { stood := { row := fnExactHearBytesUptoRow, standIns := [], harness := (true, "3e82aea829f7c8076b756f5276c789a940943d046b7d84f3aac2f508f7b80f88"), looks := true }, kinds := [], alts := [], laidByText := true, laidKinds := [.data, .data, .data, .data, .sentinel, .sentinel, .pinned], laidTests := true, laidLooks := .later }
def FnExactHearBytesUptoCardSaid : Prop := Claim7.holds Tryz.pinned (.plain (OpenSpec.upto fnExactHearBytesSpec)) fnExactHearBytesUptoCard
end Rows
end Go.Proofs.YthnfghmjipikhaaGreatDoor
