/-
  DERIVED. GIVEN WITH THE SEED: THE CARDS: each row of YtppjhccdgbheiaaGreatDoorRows.lean that lists a variable, with what it lists TIED to the program's text (the seventh form; the later family's looks); each row that meets fmt, with fmt's text TOLD by the authors' own Lean function (tested against real Go, not proved from fmt's source: count such statements apart). THE CARD IS WHAT COUNTS. Prove the row's statement (the work); the ties are given (YtppjhccdgbheiaaGreatDoorTie.lean); close each card by the builder's one call (the guide's Derived/Test/ToyasCard.lean, 'card_holds'). Laid BY PROGRAM, IN A SANDBOX (cutbox-door.mjs). By AI agents, Wed Nov 11 2026. No macro, syntax, notation, axiom, sorry.
-/
import Derived.Test.YtppjhccdgbheiaaGreatDoorRows
import GoSem.ClaimSeven
namespace Go.Proofs.YtppjhccdgbheiaaGreatDoor
namespace Rows

/-- THE TIED CARD OF 'depositorylaw16.AclReaches'. -/
def aclReachesCard : Claim7 := { stood := { row := aclReachesRow, standIns := [], harness := (true, "08c42e9c085e1437c869bc6cd1be150ac2304968525486f775f5bced7371d301"), looks := true }, kinds := [], alts := [], laidByText := true, laidKinds := [.data, .data, .data], laidTests := true, laidLooks := .later }
def AclReachesCardSaid : Prop := Claim7.holds Tryz.pinned (.plain (OpenSpec.ofChange aclReachesSpec)) aclReachesCard

/-- THE TIED CARD OF 'depositorylaw16.AclTrees'. -/
def aclTreesCard : Claim7 := { stood := { row := aclTreesRow, standIns := [], harness := (true, "08c42e9c085e1437c869bc6cd1be150ac2304968525486f775f5bced7371d301"), looks := true }, kinds := [], alts := [], laidByText := true, laidKinds := [.data, .data, .data], laidTests := true, laidLooks := .later }
def AclTreesCardSaid : Prop := Claim7.holds Tryz.pinned (.plain (OpenSpec.ofChange aclTreesSpec)) aclTreesCard

/-- THE TIED CARD OF 'depositorylaw16.AclStrings'. -/
def aclStringsCard : Claim7 := { stood := { row := aclStringsRow, standIns := [], harness := (true, "08c42e9c085e1437c869bc6cd1be150ac2304968525486f775f5bced7371d301"), looks := true }, kinds := [], alts := [], laidByText := true, laidKinds := [.data, .data, .data, .data, .sentinel, .sentinel, .pinned], laidTests := true, laidLooks := .later }
def AclStringsCardSaid : Prop := Claim7.holds Tryz.pinned (.plain (OpenSpec.ofChange aclStringsSpec)) aclStringsCard

/-- THE SECOND FORM's CARD OF 'depositorylaw16.AclReaches'. -/
def aclReachesUptoCard : Claim7 := { stood := { row := aclReachesUptoRow, standIns := [], harness := (true, "08c42e9c085e1437c869bc6cd1be150ac2304968525486f775f5bced7371d301"), looks := true }, kinds := [], alts := [], laidByText := true, laidKinds := [.data, .data, .data], laidTests := true, laidLooks := .later }
def AclReachesUptoCardSaid : Prop := Claim7.holds Tryz.pinned (.plain (OpenSpec.upto aclReachesSpec)) aclReachesUptoCard

/-- THE SECOND FORM's CARD OF 'depositorylaw16.AclTrees'. -/
def aclTreesUptoCard : Claim7 := { stood := { row := aclTreesUptoRow, standIns := [], harness := (true, "08c42e9c085e1437c869bc6cd1be150ac2304968525486f775f5bced7371d301"), looks := true }, kinds := [], alts := [], laidByText := true, laidKinds := [.data, .data, .data], laidTests := true, laidLooks := .later }
def AclTreesUptoCardSaid : Prop := Claim7.holds Tryz.pinned (.plain (OpenSpec.upto aclTreesSpec)) aclTreesUptoCard

/-- THE SECOND FORM's CARD OF 'depositorylaw16.AclStrings'. -/
def aclStringsUptoCard : Claim7 := { stood := { row := aclStringsUptoRow, standIns := [], harness := (true, "08c42e9c085e1437c869bc6cd1be150ac2304968525486f775f5bced7371d301"), looks := true }, kinds := [], alts := [], laidByText := true, laidKinds := [.data, .data, .data, .data, .sentinel, .sentinel, .pinned], laidTests := true, laidLooks := .later }
def AclStringsUptoCardSaid : Prop := Claim7.holds Tryz.pinned (.plain (OpenSpec.upto aclStringsSpec)) aclStringsUptoCard
end Rows
end Go.Proofs.YtppjhccdgbheiaaGreatDoor
