/-
  DERIVED. GIVEN WITH THE SEED: THE CARDS: each row of YtjhpgkjnkgknnaaGreatDoorRows.lean that lists a variable, with what it lists TIED to the program's text (the seventh form; the later family's looks); each row that meets fmt, with fmt's text TOLD by the authors' own Lean function (tested against real Go, not proved from fmt's source: count such statements apart). THE CARD IS WHAT COUNTS. Prove the row's statement (the work); the ties are given (YtjhpgkjnkgknnaaGreatDoorTie.lean); close each card by the builder's one call (the guide's Derived/Test/ToyasCard.lean, 'card_holds'). Laid BY PROGRAM, IN A SANDBOX (cutbox-door.mjs). By AI agents, Wed Nov 11 2026. No macro, syntax, notation, axiom, sorry.
-/
import Derived.Test.YtjhpgkjnkgknnaaGreatDoorRows
import GoSem.ClaimSeven
namespace Go.Proofs.YtjhpgkjnkgknnaaGreatDoor
namespace Rows

/-- THE TIED CARD OF 'triadlaw14.ParseKnown'. -/
def parseKnownCard : Claim7 := { stood := { row := parseKnownRow, standIns := [], harness := (true, "f27e5d40293831b16dd52342e714506650ada3aedaa8f65721ec4f6ec9faad69"), looks := true }, kinds := [], alts := [], laidByText := true, laidKinds := [.data, .data, .data, .data, .sentinel, .sentinel, .data, .data, .pinned, .pinned], laidTests := true, laidLooks := .later }
def ParseKnownCardSaid : Prop := Claim7.holds Tryz.pinned (.plain (OpenSpec.ofChange parseKnownSpec)) parseKnownCard

/-- THE TIED CARD OF 'triadlaw14.ParseDeep'. -/
def parseDeepCard : Claim7 := { stood := { row := parseDeepRow, standIns := [], harness := (true, "f27e5d40293831b16dd52342e714506650ada3aedaa8f65721ec4f6ec9faad69"), looks := true }, kinds := [], alts := [], laidByText := true, laidKinds := [.data, .data, .data, .data, .sentinel, .sentinel, .data, .data, .pinned, .pinned], laidTests := true, laidLooks := .later }
def ParseDeepCardSaid : Prop := Claim7.holds Tryz.pinned (.plain (OpenSpec.ofChange parseDeepSpec)) parseDeepCard

/-- THE TIED CARD OF 'triadlaw14.ParseTimes'. -/
def parseTimesCard : Claim7 := { stood := { row := parseTimesRow, standIns := [], harness := (true, "f27e5d40293831b16dd52342e714506650ada3aedaa8f65721ec4f6ec9faad69"), looks := true }, kinds := [], alts := [], laidByText := true, laidKinds := [.data, .data, .data, .data, .sentinel, .sentinel, .data, .data, .pinned, .pinned], laidTests := true, laidLooks := .later }
def ParseTimesCardSaid : Prop := Claim7.holds Tryz.pinned (.plain (OpenSpec.ofChange parseTimesSpec)) parseTimesCard

/-- THE TIED CARD OF 'triadlaw14.ParseChanges'. -/
def parseChangesCard : Claim7 := { stood := { row := parseChangesRow, standIns := [], harness := (true, "f27e5d40293831b16dd52342e714506650ada3aedaa8f65721ec4f6ec9faad69"), looks := true }, kinds := [], alts := [], laidByText := true, laidKinds := [.data, .data, .data, .data, .sentinel, .sentinel, .data, .data, .pinned, .pinned], laidTests := true, laidLooks := .later }
def ParseChangesCardSaid : Prop := Claim7.holds Tryz.pinned (.plain (OpenSpec.ofChange parseChangesSpec)) parseChangesCard

/-- THE SECOND FORM's CARD OF 'triadlaw14.ParseKnown'. -/
def parseKnownUptoCard : Claim7 := { stood := { row := parseKnownUptoRow, standIns := [], harness := (true, "f27e5d40293831b16dd52342e714506650ada3aedaa8f65721ec4f6ec9faad69"), looks := true }, kinds := [], alts := [], laidByText := true, laidKinds := [.data, .data, .data, .data, .sentinel, .sentinel, .data, .data, .pinned, .pinned], laidTests := true, laidLooks := .later }
def ParseKnownUptoCardSaid : Prop := Claim7.holds Tryz.pinned (.plain (OpenSpec.upto parseKnownSpec)) parseKnownUptoCard

/-- THE SECOND FORM's CARD OF 'triadlaw14.ParseDeep'. -/
def parseDeepUptoCard : Claim7 := { stood := { row := parseDeepUptoRow, standIns := [], harness := (true, "f27e5d40293831b16dd52342e714506650ada3aedaa8f65721ec4f6ec9faad69"), looks := true }, kinds := [], alts := [], laidByText := true, laidKinds := [.data, .data, .data, .data, .sentinel, .sentinel, .data, .data, .pinned, .pinned], laidTests := true, laidLooks := .later }
def ParseDeepUptoCardSaid : Prop := Claim7.holds Tryz.pinned (.plain (OpenSpec.upto parseDeepSpec)) parseDeepUptoCard

/-- THE SECOND FORM's CARD OF 'triadlaw14.ParseTimes'. -/
def parseTimesUptoCard : Claim7 := { stood := { row := parseTimesUptoRow, standIns := [], harness := (true, "f27e5d40293831b16dd52342e714506650ada3aedaa8f65721ec4f6ec9faad69"), looks := true }, kinds := [], alts := [], laidByText := true, laidKinds := [.data, .data, .data, .data, .sentinel, .sentinel, .data, .data, .pinned, .pinned], laidTests := true, laidLooks := .later }
def ParseTimesUptoCardSaid : Prop := Claim7.holds Tryz.pinned (.plain (OpenSpec.upto parseTimesSpec)) parseTimesUptoCard

/-- THE SECOND FORM's CARD OF 'triadlaw14.ParseChanges'. -/
def parseChangesUptoCard : Claim7 := { stood := { row := parseChangesUptoRow, standIns := [], harness := (true, "f27e5d40293831b16dd52342e714506650ada3aedaa8f65721ec4f6ec9faad69"), looks := true }, kinds := [], alts := [], laidByText := true, laidKinds := [.data, .data, .data, .data, .sentinel, .sentinel, .data, .data, .pinned, .pinned], laidTests := true, laidLooks := .later }
def ParseChangesUptoCardSaid : Prop := Claim7.holds Tryz.pinned (.plain (OpenSpec.upto parseChangesSpec)) parseChangesUptoCard
end Rows
end Go.Proofs.YtjhpgkjnkgknnaaGreatDoor
