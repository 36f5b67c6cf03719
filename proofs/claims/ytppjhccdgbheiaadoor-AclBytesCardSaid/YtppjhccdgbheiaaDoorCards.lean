/-
  DERIVED. GIVEN WITH THE SEED: THE CARDS: each row of YtppjhccdgbheiaaDoorRows.lean that lists a variable, with what it lists TIED to the program's text (the seventh form; the later family's looks); each row that meets fmt, with fmt's text TOLD by the authors' own Lean function (tested against real Go, not proved from fmt's source: count such statements apart). THE CARD IS WHAT COUNTS. Prove the row's statement (the work); the ties are given (YtppjhccdgbheiaaDoorTie.lean); close each card by the builder's one call (the guide's Derived/Test/ToyasCard.lean, 'card_holds'). Laid BY PROGRAM, IN A SANDBOX (cutbox-door.mjs). By AI agents, Wed Nov 11 2026. No macro, syntax, notation, axiom, sorry.
-/
import Derived.Test.YtppjhccdgbheiaaDoorRows
import GoSem.ClaimSeven
namespace Go.Proofs.YtppjhccdgbheiaaDoor
namespace Rows

/-- THE TIED CARD OF 'depositorylaw16.AclChecks'. -/
def aclChecksCard : Claim7 := { stood := { row := aclChecksRow, standIns := [], harness := (true, "7b58f35dfa9e08ea00186690e530b63ca1eaa6542b58d38336e5d9b585ab7f7d"), looks := false }, kinds := [], alts := [], laidByText := true, laidKinds := [.data, .data, .data], laidTests := true, laidLooks := .later }
def AclChecksCardSaid : Prop := Claim7.holds Tryd.pinned (.plain (OpenSpec.ofChange aclChecksSpec)) aclChecksCard

/-- THE TIED CARD OF 'depositorylaw16.AclInherits'. -/
def aclInheritsCard : Claim7 := { stood := { row := aclInheritsRow, standIns := [], harness := (true, "7b58f35dfa9e08ea00186690e530b63ca1eaa6542b58d38336e5d9b585ab7f7d"), looks := false }, kinds := [], alts := [], laidByText := true, laidKinds := [.data, .data, .data], laidTests := true, laidLooks := .later }
def AclInheritsCardSaid : Prop := Claim7.holds Tryd.pinned (.plain (OpenSpec.ofChange aclInheritsSpec)) aclInheritsCard

/-- THE TIED CARD OF 'depositorylaw16.AclChildren'. -/
def aclChildrenCard : Claim7 := { stood := { row := aclChildrenRow, standIns := [], harness := (true, "7b58f35dfa9e08ea00186690e530b63ca1eaa6542b58d38336e5d9b585ab7f7d"), looks := false }, kinds := [], alts := [], laidByText := true, laidKinds := [.data, .data, .data], laidTests := true, laidLooks := .later }
def AclChildrenCardSaid : Prop := Claim7.holds Tryd.pinned (.plain (OpenSpec.ofChange aclChildrenSpec)) aclChildrenCard

/-- THE TIED CARD OF 'depositorylaw16.AclOrders'. -/
def aclOrdersCard : Claim7 := { stood := { row := aclOrdersRow, standIns := [], harness := (true, "7b58f35dfa9e08ea00186690e530b63ca1eaa6542b58d38336e5d9b585ab7f7d"), looks := false }, kinds := [], alts := [], laidByText := true, laidKinds := [.data, .data, .data], laidTests := true, laidLooks := .later }
def AclOrdersCardSaid : Prop := Claim7.holds Tryd.pinned (.plain (OpenSpec.ofChange aclOrdersSpec)) aclOrdersCard

/-- THE TIED CARD OF 'depositorylaw16.AclBytes'. -/
def aclBytesCard : Claim7 := { stood := { row := aclBytesRow, standIns := [], harness := (true, "7b58f35dfa9e08ea00186690e530b63ca1eaa6542b58d38336e5d9b585ab7f7d"), looks := false }, kinds := [], alts := [], laidByText := true, laidKinds := [.data, .data, .data], laidTests := true, laidLooks := .later }
def AclBytesCardSaid : Prop := Claim7.holds Tryd.pinned (.plain (OpenSpec.ofChange aclBytesSpec)) aclBytesCard

/-- THE SECOND FORM's CARD OF 'depositorylaw16.AclChecks'. -/
def aclChecksUptoCard : Claim7 := { stood := { row := aclChecksUptoRow, standIns := [], harness := (true, "7b58f35dfa9e08ea00186690e530b63ca1eaa6542b58d38336e5d9b585ab7f7d"), looks := false }, kinds := [], alts := [], laidByText := true, laidKinds := [.data, .data, .data], laidTests := true, laidLooks := .later }
def AclChecksUptoCardSaid : Prop := Claim7.holds Tryd.pinned (.plain (OpenSpec.upto aclChecksSpec)) aclChecksUptoCard

/-- THE SECOND FORM's CARD OF 'depositorylaw16.AclInherits'. -/
def aclInheritsUptoCard : Claim7 := { stood := { row := aclInheritsUptoRow, standIns := [], harness := (true, "7b58f35dfa9e08ea00186690e530b63ca1eaa6542b58d38336e5d9b585ab7f7d"), looks := false }, kinds := [], alts := [], laidByText := true, laidKinds := [.data, .data, .data], laidTests := true, laidLooks := .later }
def AclInheritsUptoCardSaid : Prop := Claim7.holds Tryd.pinned (.plain (OpenSpec.upto aclInheritsSpec)) aclInheritsUptoCard

/-- THE SECOND FORM's CARD OF 'depositorylaw16.AclChildren'. -/
def aclChildrenUptoCard : Claim7 := { stood := { row := aclChildrenUptoRow, standIns := [], harness := (true, "7b58f35dfa9e08ea00186690e530b63ca1eaa6542b58d38336e5d9b585ab7f7d"), looks := false }, kinds := [], alts := [], laidByText := true, laidKinds := [.data, .data, .data], laidTests := true, laidLooks := .later }
def AclChildrenUptoCardSaid : Prop := Claim7.holds Tryd.pinned (.plain (OpenSpec.upto aclChildrenSpec)) aclChildrenUptoCard

/-- THE SECOND FORM's CARD OF 'depositorylaw16.AclOrders'. -/
def aclOrdersUptoCard : Claim7 := { stood := { row := aclOrdersUptoRow, standIns := [], harness := (true, "7b58f35dfa9e08ea00186690e530b63ca1eaa6542b58d38336e5d9b585ab7f7d"), looks := false }, kinds := [], alts := [], laidByText := true, laidKinds := [.data, .data, .data], laidTests := true, laidLooks := .later }
def AclOrdersUptoCardSaid : Prop := Claim7.holds Tryd.pinned (.plain (OpenSpec.upto aclOrdersSpec)) aclOrdersUptoCard

/-- THE SECOND FORM's CARD OF 'depositorylaw16.AclBytes'. -/
def aclBytesUptoCard : Claim7 := { stood := { row := aclBytesUptoRow, standIns := [], harness := (true, "7b58f35dfa9e08ea00186690e530b63ca1eaa6542b58d38336e5d9b585ab7f7d"), looks := false }, kinds := [], alts := [], laidByText := true, laidKinds := [.data, .data, .data], laidTests := true, laidLooks := .later }
def AclBytesUptoCardSaid : Prop := Claim7.holds Tryd.pinned (.plain (OpenSpec.upto aclBytesSpec)) aclBytesUptoCard
end Rows
end Go.Proofs.YtppjhccdgbheiaaDoor
