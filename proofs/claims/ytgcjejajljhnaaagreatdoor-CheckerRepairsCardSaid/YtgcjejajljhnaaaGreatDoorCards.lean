/-
  DERIVED. GIVEN WITH THE SEED: THE CARDS: each row of YtgcjejajljhnaaaGreatDoorRows.lean that lists a variable, with what it lists TIED to the program's text (the seventh form; the later family's looks); each row that meets fmt, with fmt's text TOLD by the authors' own Lean function (tested against real Go, not proved from fmt's source: count such statements apart). THE CARD IS WHAT COUNTS. Prove the row's statement (the work); the ties are given (YtgcjejajljhnaaaGreatDoorTie.lean); close each card by the builder's one call (the guide's Derived/Test/ToyasCard.lean, 'card_holds'). Laid BY PROGRAM, IN A SANDBOX (cutbox-door.mjs). By AI agents, Wed Nov 11 2026. No macro, syntax, notation, axiom, sorry.
-/
import Derived.Test.YtgcjejajljhnaaaGreatDoorRows
import GoSem.ClaimSeven
namespace Go.Proofs.YtgcjejajljhnaaaGreatDoor
namespace Rows

/-- THE TIED CARD OF 'depositorylaw31.CheckerErrors'. -/
def checkerErrorsCard : Claim7 := { stood := { row := checkerErrorsRow, standIns := [], harness := (true, "6dde09899633823b21f2c621839bdab30954a2fabd34d7769f5aec2b7835f755"), looks := true }, kinds := [], alts := [], laidByText := true, laidKinds := [.data, .data, .data], laidTests := true, laidLooks := .later }
def CheckerErrorsCardSaid : Prop := Claim7.holds Tryz.pinned (.plain (OpenSpec.ofChange checkerErrorsSpec)) checkerErrorsCard

/-- THE TIED CARD OF 'depositorylaw31.CheckerPaths'. -/
def checkerPathsCard : Claim7 := { stood := { row := checkerPathsRow, standIns := [], harness := (true, "6dde09899633823b21f2c621839bdab30954a2fabd34d7769f5aec2b7835f755"), looks := true }, kinds := [], alts := [], laidByText := true, laidKinds := [.data, .data, .data], laidTests := true, laidLooks := .later }
def CheckerPathsCardSaid : Prop := Claim7.holds Tryz.pinned (.plain (OpenSpec.ofChange checkerPathsSpec)) checkerPathsCard

/-- THE TIED CARD OF 'depositorylaw31.CheckerRepairs'. -/
def checkerRepairsCard : Claim7 := { stood := { row := checkerRepairsRow, standIns := [], harness := (true, "6dde09899633823b21f2c621839bdab30954a2fabd34d7769f5aec2b7835f755"), looks := true }, kinds := [], alts := [], laidByText := true, laidKinds := [.data, .data, .data], laidTests := true, laidLooks := .later }
def CheckerRepairsCardSaid : Prop := Claim7.holds Tryz.pinned (.plain (OpenSpec.ofChange checkerRepairsSpec)) checkerRepairsCard

/-- THE TIED CARD OF 'depositorylaw31.CheckerKeeps'. -/
def checkerKeepsCard : Claim7 := { stood := { row := checkerKeepsRow, standIns := [], harness := (true, "6dde09899633823b21f2c621839bdab30954a2fabd34d7769f5aec2b7835f755"), looks := true }, kinds := [], alts := [], laidByText := true, laidKinds := [.data, .data, .data], laidTests := true, laidLooks := .later }
def CheckerKeepsCardSaid : Prop := Claim7.holds Tryz.pinned (.plain (OpenSpec.ofChange checkerKeepsSpec)) checkerKeepsCard

/-- THE TIED CARD OF 'depositorylaw31.CheckerSecond'. -/
def checkerSecondCard : Claim7 := { stood := { row := checkerSecondRow, standIns := [], harness := (true, "6dde09899633823b21f2c621839bdab30954a2fabd34d7769f5aec2b7835f755"), looks := true }, kinds := [], alts := [], laidByText := true, laidKinds := [.data, .data, .data], laidTests := true, laidLooks := .later }
def CheckerSecondCardSaid : Prop := Claim7.holds Tryz.pinned (.plain (OpenSpec.ofChange checkerSecondSpec)) checkerSecondCard

/-- THE TIED CARD OF 'depositorylaw31.CheckerLooks'. -/
def checkerLooksCard : Claim7 := { stood := { row := checkerLooksRow, standIns := [], harness := (true, "6dde09899633823b21f2c621839bdab30954a2fabd34d7769f5aec2b7835f755"), looks := true }, kinds := [], alts := [], laidByText := true, laidKinds := [.data, .data, .data], laidTests := true, laidLooks := .later }
def CheckerLooksCardSaid : Prop := Claim7.holds Tryz.pinned (.plain (OpenSpec.ofChange checkerLooksSpec)) checkerLooksCard

/-- THE TIED CARD OF 'depositorylaw31.CheckerStrings'. -/
def checkerStringsCard : Claim7 := { stood := { row := checkerStringsRow, standIns := [], harness := (true, "6dde09899633823b21f2c621839bdab30954a2fabd34d7769f5aec2b7835f755"), looks := true }, kinds := [], alts := [], laidByText := true, laidKinds := [.data, .data, .data, .data, .sentinel, .sentinel, .pinned], laidTests := true, laidLooks := .later }
def CheckerStringsCardSaid : Prop := Claim7.holds Tryz.pinned (.plain (OpenSpec.ofChange checkerStringsSpec)) checkerStringsCard

/-- THE SECOND FORM's CARD OF 'depositorylaw31.CheckerErrors'. -/
def checkerErrorsUptoCard : Claim7 := { stood := { row := checkerErrorsUptoRow, standIns := [], harness := (true, "6dde09899633823b21f2c621839bdab30954a2fabd34d7769f5aec2b7835f755"), looks := true }, kinds := [], alts := [], laidByText := true, laidKinds := [.data, .data, .data], laidTests := true, laidLooks := .later }
def CheckerErrorsUptoCardSaid : Prop := Claim7.holds Tryz.pinned (.plain (OpenSpec.upto checkerErrorsSpec)) checkerErrorsUptoCard

/-- THE SECOND FORM's CARD OF 'depositorylaw31.CheckerPaths'. -/
def checkerPathsUptoCard : Claim7 := { stood := { row := checkerPathsUptoRow, standIns := [], harness := (true, "6dde09899633823b21f2c621839bdab30954a2fabd34d7769f5aec2b7835f755"), looks := true }, kinds := [], alts := [], laidByText := true, laidKinds := [.data, .data, .data], laidTests := true, laidLooks := .later }
def CheckerPathsUptoCardSaid : Prop := Claim7.holds Tryz.pinned (.plain (OpenSpec.upto checkerPathsSpec)) checkerPathsUptoCard

/-- THE SECOND FORM's CARD OF 'depositorylaw31.CheckerRepairs'. -/
def checkerRepairsUptoCard : Claim7 := { stood := { row := checkerRepairsUptoRow, standIns := [], harness := (true, "6dde09899633823b21f2c621839bdab30954a2fabd34d7769f5aec2b7835f755"), looks := true }, kinds := [], alts := [], laidByText := true, laidKinds := [.data, .data, .data], laidTests := true, laidLooks := .later }
def CheckerRepairsUptoCardSaid : Prop := Claim7.holds Tryz.pinned (.plain (OpenSpec.upto checkerRepairsSpec)) checkerRepairsUptoCard

/-- THE SECOND FORM's CARD OF 'depositorylaw31.CheckerKeeps'. -/
def checkerKeepsUptoCard : Claim7 := { stood := { row := checkerKeepsUptoRow, standIns := [], harness := (true, "6dde09899633823b21f2c621839bdab30954a2fabd34d7769f5aec2b7835f755"), looks := true }, kinds := [], alts := [], laidByText := true, laidKinds := [.data, .data, .data], laidTests := true, laidLooks := .later }
def CheckerKeepsUptoCardSaid : Prop := Claim7.holds Tryz.pinned (.plain (OpenSpec.upto checkerKeepsSpec)) checkerKeepsUptoCard

/-- THE SECOND FORM's CARD OF 'depositorylaw31.CheckerSecond'. -/
def checkerSecondUptoCard : Claim7 := { stood := { row := checkerSecondUptoRow, standIns := [], harness := (true, "6dde09899633823b21f2c621839bdab30954a2fabd34d7769f5aec2b7835f755"), looks := true }, kinds := [], alts := [], laidByText := true, laidKinds := [.data, .data, .data], laidTests := true, laidLooks := .later }
def CheckerSecondUptoCardSaid : Prop := Claim7.holds Tryz.pinned (.plain (OpenSpec.upto checkerSecondSpec)) checkerSecondUptoCard

/-- THE SECOND FORM's CARD OF 'depositorylaw31.CheckerLooks'. -/
def checkerLooksUptoCard : Claim7 := { stood := { row := checkerLooksUptoRow, standIns := [], harness := (true, "6dde09899633823b21f2c621839bdab30954a2fabd34d7769f5aec2b7835f755"), looks := true }, kinds := [], alts := [], laidByText := true, laidKinds := [.data, .data, .data], laidTests := true, laidLooks := .later }
def CheckerLooksUptoCardSaid : Prop := Claim7.holds Tryz.pinned (.plain (OpenSpec.upto checkerLooksSpec)) checkerLooksUptoCard

/-- THE SECOND FORM's CARD OF 'depositorylaw31.CheckerStrings'. -/
def checkerStringsUptoCard : Claim7 := { stood := { row := checkerStringsUptoRow, standIns := [], harness := (true, "6dde09899633823b21f2c621839bdab30954a2fabd34d7769f5aec2b7835f755"), looks := true }, kinds := [], alts := [], laidByText := true, laidKinds := [.data, .data, .data, .data, .sentinel, .sentinel, .pinned], laidTests := true, laidLooks := .later }
def CheckerStringsUptoCardSaid : Prop := Claim7.holds Tryz.pinned (.plain (OpenSpec.upto checkerStringsSpec)) checkerStringsUptoCard
end Rows
end Go.Proofs.YtgcjejajljhnaaaGreatDoor
