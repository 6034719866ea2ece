/-
  DERIVED. GIVEN WITH THE SEED: THE CARDS: each row of YtibgjojeppijfaaGreatDoorRows.lean that lists a variable, with what it lists TIED to the program's text (the seventh form; the later family's looks); each row that meets fmt, with fmt's text TOLD by the authors' own Lean function (tested against real Go, not proved from fmt's source: count such statements apart). THE CARD IS WHAT COUNTS. Prove the row's statement (the work); the ties are given (YtibgjojeppijfaaGreatDoorTie.lean); close each card by the builder's one call (the guide's Derived/Test/ToyasCard.lean, 'card_holds'). Laid BY PROGRAM, IN A SANDBOX (cutbox-door.mjs). By AI agents, Wed Nov 11 2026. No macro, syntax, notation, axiom, sorry.
-/
import Derived.Test.YtibgjojeppijfaaGreatDoorRows
import GoSem.ClaimSeven
namespace Go.Proofs.YtibgjojeppijfaaGreatDoor
namespace Rows

/-- THE TIED CARD OF 'codicillaw16.MatchFields'. -/
def matchFieldsCard : Claim7 := { stood := { row := matchFieldsRow, standIns := [], harness := (true, "29107c6aa61716f110a59a82015978511c54b80a42459714d9a47881d8e1dde6"), looks := true }, kinds := [], alts := [], laidByText := true, laidKinds := [.data, .data, .data, .data, .sentinel, .sentinel, .pinned], laidTests := true, laidLooks := .later }
def MatchFieldsCardSaid : Prop := Claim7.holds Tryz.pinned (.plain (OpenSpec.ofChange matchFieldsSpec)) matchFieldsCard

/-- THE TIED CARD OF 'codicillaw16.MatchMakes'. -/
def matchMakesCard : Claim7 := { stood := { row := matchMakesRow, standIns := [], harness := (true, "29107c6aa61716f110a59a82015978511c54b80a42459714d9a47881d8e1dde6"), looks := true }, kinds := [], alts := [], laidByText := true, laidKinds := [.data, .data, .data, .data, .sentinel, .sentinel, .pinned], laidTests := true, laidLooks := .later }
def MatchMakesCardSaid : Prop := Claim7.holds Tryz.pinned (.plain (OpenSpec.ofChange matchMakesSpec)) matchMakesCard

/-- THE TIED CARD OF 'codicillaw17.PolicyNames'. -/
def policyNamesCard : Claim7 := { stood := { row := policyNamesRow, standIns := [], harness := (true, "29107c6aa61716f110a59a82015978511c54b80a42459714d9a47881d8e1dde6"), looks := true }, kinds := [], alts := [], laidByText := true, laidKinds := [.data, .data, .data, .data, .sentinel, .sentinel, .pinned], laidTests := true, laidLooks := .later }
def PolicyNamesCardSaid : Prop := Claim7.holds Tryz.pinned (.plain (OpenSpec.ofChange policyNamesSpec)) policyNamesCard

/-- THE TIED CARD OF 'codicillaw17.PolicyChecks'. -/
def policyChecksCard : Claim7 := { stood := { row := policyChecksRow, standIns := [], harness := (true, "29107c6aa61716f110a59a82015978511c54b80a42459714d9a47881d8e1dde6"), looks := true }, kinds := [], alts := [], laidByText := true, laidKinds := [.data, .data, .data, .data, .sentinel, .sentinel, .pinned], laidTests := true, laidLooks := .later }
def PolicyChecksCardSaid : Prop := Claim7.holds Tryz.pinned (.plain (OpenSpec.ofChange policyChecksSpec)) policyChecksCard

/-- THE TIED CARD OF 'codicillaw17.PolicyOrder'. -/
def policyOrderCard : Claim7 := { stood := { row := policyOrderRow, standIns := [], harness := (true, "29107c6aa61716f110a59a82015978511c54b80a42459714d9a47881d8e1dde6"), looks := true }, kinds := [], alts := [], laidByText := true, laidKinds := [.data, .data, .data, .data, .sentinel, .sentinel, .pinned], laidTests := true, laidLooks := .later }
def PolicyOrderCardSaid : Prop := Claim7.holds Tryz.pinned (.plain (OpenSpec.ofChange policyOrderSpec)) policyOrderCard

/-- THE TIED CARD OF 'codicillaw12.SchemaReads'. -/
def schemaReadsCard : Claim7 := { stood := { row := schemaReadsRow, standIns := [], harness := (true, "29107c6aa61716f110a59a82015978511c54b80a42459714d9a47881d8e1dde6"), looks := true }, kinds := [], alts := [], laidByText := true, laidKinds := [.data, .data, .data, .data, .sentinel, .sentinel, .pinned], laidTests := true, laidLooks := .later }
def SchemaReadsCardSaid : Prop := Claim7.holds Tryz.pinned (.plain (OpenSpec.ofChange schemaReadsSpec)) schemaReadsCard

/-- THE TIED CARD OF 'codicillaw12.SchemaWrites'. -/
def schemaWritesCard : Claim7 := { stood := { row := schemaWritesRow, standIns := [], harness := (true, "29107c6aa61716f110a59a82015978511c54b80a42459714d9a47881d8e1dde6"), looks := true }, kinds := [], alts := [], laidByText := true, laidKinds := [.data, .data, .data, .data, .sentinel, .sentinel, .pinned], laidTests := true, laidLooks := .later }
def SchemaWritesCardSaid : Prop := Claim7.holds Tryz.pinned (.plain (OpenSpec.ofChange schemaWritesSpec)) schemaWritesCard

/-- THE TIED CARD OF 'codicillaw12.SchemaTells'. -/
def schemaTellsCard : Claim7 := { stood := { row := schemaTellsRow, standIns := [], harness := (true, "29107c6aa61716f110a59a82015978511c54b80a42459714d9a47881d8e1dde6"), looks := true }, kinds := [], alts := [], laidByText := true, laidKinds := [.data, .data, .data, .data, .sentinel, .sentinel, .pinned], laidTests := true, laidLooks := .later }
def SchemaTellsCardSaid : Prop := Claim7.holds Tryz.pinned (.plain (OpenSpec.ofChange schemaTellsSpec)) schemaTellsCard

/-- THE TIED CARD OF 'codicillaw12.SchemaCopies'. -/
def schemaCopiesCard : Claim7 := { stood := { row := schemaCopiesRow, standIns := [], harness := (true, "29107c6aa61716f110a59a82015978511c54b80a42459714d9a47881d8e1dde6"), looks := true }, kinds := [], alts := [], laidByText := true, laidKinds := [.data, .data, .data, .data, .sentinel, .sentinel, .pinned], laidTests := true, laidLooks := .later }
def SchemaCopiesCardSaid : Prop := Claim7.holds Tryz.pinned (.plain (OpenSpec.ofChange schemaCopiesSpec)) schemaCopiesCard

/-- THE TIED CARD OF 'codicillaw12.SchemaBack'. -/
def schemaBackCard : Claim7 := { stood := { row := schemaBackRow, standIns := [], harness := (true, "29107c6aa61716f110a59a82015978511c54b80a42459714d9a47881d8e1dde6"), looks := true }, kinds := [], alts := [], laidByText := true, laidKinds := [.data, .data, .data, .data, .sentinel, .sentinel, .pinned], laidTests := true, laidLooks := .later }
def SchemaBackCardSaid : Prop := Claim7.holds Tryz.pinned (.plain (OpenSpec.ofChange schemaBackSpec)) schemaBackCard

/-- THE TIED CARD OF 'codicillaw12.SchemaFar'. -/
def schemaFarCard : Claim7 := { stood := { row := schemaFarRow, standIns := [], harness := (true, "29107c6aa61716f110a59a82015978511c54b80a42459714d9a47881d8e1dde6"), looks := true }, kinds := [], alts := [], laidByText := true, laidKinds := [.data, .data, .data, .data, .sentinel, .sentinel, .pinned], laidTests := true, laidLooks := .later }
def SchemaFarCardSaid : Prop := Claim7.holds Tryz.pinned (.plain (OpenSpec.ofChange schemaFarSpec)) schemaFarCard

/-- THE TIED CARD OF 'codicillaw12.SchemaUnions'. -/
def schemaUnionsCard : Claim7 := { stood := { row := schemaUnionsRow, standIns := [], harness := (true, "29107c6aa61716f110a59a82015978511c54b80a42459714d9a47881d8e1dde6"), looks := true }, kinds := [], alts := [], laidByText := true, laidKinds := [.data, .data, .data, .data, .sentinel, .sentinel, .pinned], laidTests := true, laidLooks := .later }
def SchemaUnionsCardSaid : Prop := Claim7.holds Tryz.pinned (.plain (OpenSpec.ofChange schemaUnionsSpec)) schemaUnionsCard

/-- THE SECOND FORM's CARD OF 'codicillaw16.MatchFields'. -/
def matchFieldsUptoCard : Claim7 := { stood := { row := matchFieldsUptoRow, standIns := [], harness := (true, "29107c6aa61716f110a59a82015978511c54b80a42459714d9a47881d8e1dde6"), looks := true }, kinds := [], alts := [], laidByText := true, laidKinds := [.data, .data, .data, .data, .sentinel, .sentinel, .pinned], laidTests := true, laidLooks := .later }
def MatchFieldsUptoCardSaid : Prop := Claim7.holds Tryz.pinned (.plain (OpenSpec.upto matchFieldsSpec)) matchFieldsUptoCard

/-- THE SECOND FORM's CARD OF 'codicillaw16.MatchMakes'. -/
def matchMakesUptoCard : Claim7 := { stood := { row := matchMakesUptoRow, standIns := [], harness := (true, "29107c6aa61716f110a59a82015978511c54b80a42459714d9a47881d8e1dde6"), looks := true }, kinds := [], alts := [], laidByText := true, laidKinds := [.data, .data, .data, .data, .sentinel, .sentinel, .pinned], laidTests := true, laidLooks := .later }
def MatchMakesUptoCardSaid : Prop := Claim7.holds Tryz.pinned (.plain (OpenSpec.upto matchMakesSpec)) matchMakesUptoCard

/-- THE SECOND FORM's CARD OF 'codicillaw17.PolicyNames'. -/
def policyNamesUptoCard : Claim7 := { stood := { row := policyNamesUptoRow, standIns := [], harness := (true, "29107c6aa61716f110a59a82015978511c54b80a42459714d9a47881d8e1dde6"), looks := true }, kinds := [], alts := [], laidByText := true, laidKinds := [.data, .data, .data, .data, .sentinel, .sentinel, .pinned], laidTests := true, laidLooks := .later }
def PolicyNamesUptoCardSaid : Prop := Claim7.holds Tryz.pinned (.plain (OpenSpec.upto policyNamesSpec)) policyNamesUptoCard

/-- THE SECOND FORM's CARD OF 'codicillaw17.PolicyChecks'. -/
def policyChecksUptoCard : Claim7 := { stood := { row := policyChecksUptoRow, standIns := [], harness := (true, "29107c6aa61716f110a59a82015978511c54b80a42459714d9a47881d8e1dde6"), looks := true }, kinds := [], alts := [], laidByText := true, laidKinds := [.data, .data, .data, .data, .sentinel, .sentinel, .pinned], laidTests := true, laidLooks := .later }
def PolicyChecksUptoCardSaid : Prop := Claim7.holds Tryz.pinned (.plain (OpenSpec.upto policyChecksSpec)) policyChecksUptoCard

/-- THE SECOND FORM's CARD OF 'codicillaw17.PolicyOrder'. -/
def policyOrderUptoCard : Claim7 := { stood := { row := policyOrderUptoRow, standIns := [], harness := (true, "29107c6aa61716f110a59a82015978511c54b80a42459714d9a47881d8e1dde6"), looks := true }, kinds := [], alts := [], laidByText := true, laidKinds := [.data, .data, .data, .data, .sentinel, .sentinel, .pinned], laidTests := true, laidLooks := .later }
def PolicyOrderUptoCardSaid : Prop := Claim7.holds Tryz.pinned (.plain (OpenSpec.upto policyOrderSpec)) policyOrderUptoCard

/-- THE SECOND FORM's CARD OF 'codicillaw12.SchemaReads'. -/
def schemaReadsUptoCard : Claim7 := { stood := { row := schemaReadsUptoRow, standIns := [], harness := (true, "29107c6aa61716f110a59a82015978511c54b80a42459714d9a47881d8e1dde6"), looks := true }, kinds := [], alts := [], laidByText := true, laidKinds := [.data, .data, .data, .data, .sentinel, .sentinel, .pinned], laidTests := true, laidLooks := .later }
def SchemaReadsUptoCardSaid : Prop := Claim7.holds Tryz.pinned (.plain (OpenSpec.upto schemaReadsSpec)) schemaReadsUptoCard

/-- THE SECOND FORM's CARD OF 'codicillaw12.SchemaWrites'. -/
def schemaWritesUptoCard : Claim7 := { stood := { row := schemaWritesUptoRow, standIns := [], harness := (true, "29107c6aa61716f110a59a82015978511c54b80a42459714d9a47881d8e1dde6"), looks := true }, kinds := [], alts := [], laidByText := true, laidKinds := [.data, .data, .data, .data, .sentinel, .sentinel, .pinned], laidTests := true, laidLooks := .later }
def SchemaWritesUptoCardSaid : Prop := Claim7.holds Tryz.pinned (.plain (OpenSpec.upto schemaWritesSpec)) schemaWritesUptoCard

/-- THE SECOND FORM's CARD OF 'codicillaw12.SchemaTells'. -/
def schemaTellsUptoCard : Claim7 := { stood := { row := schemaTellsUptoRow, standIns := [], harness := (true, "29107c6aa61716f110a59a82015978511c54b80a42459714d9a47881d8e1dde6"), looks := true }, kinds := [], alts := [], laidByText := true, laidKinds := [.data, .data, .data, .data, .sentinel, .sentinel, .pinned], laidTests := true, laidLooks := .later }
def SchemaTellsUptoCardSaid : Prop := Claim7.holds Tryz.pinned (.plain (OpenSpec.upto schemaTellsSpec)) schemaTellsUptoCard

/-- THE SECOND FORM's CARD OF 'codicillaw12.SchemaCopies'. -/
def schemaCopiesUptoCard : Claim7 := { stood := { row := schemaCopiesUptoRow, standIns := [], harness := (true, "29107c6aa61716f110a59a82015978511c54b80a42459714d9a47881d8e1dde6"), looks := true }, kinds := [], alts := [], laidByText := true, laidKinds := [.data, .data, .data, .data, .sentinel, .sentinel, .pinned], laidTests := true, laidLooks := .later }
def SchemaCopiesUptoCardSaid : Prop := Claim7.holds Tryz.pinned (.plain (OpenSpec.upto schemaCopiesSpec)) schemaCopiesUptoCard

/-- THE SECOND FORM's CARD OF 'codicillaw12.SchemaBack'. -/
def schemaBackUptoCard : Claim7 := { stood := { row := schemaBackUptoRow, standIns := [], harness := (true, "29107c6aa61716f110a59a82015978511c54b80a42459714d9a47881d8e1dde6"), looks := true }, kinds := [], alts := [], laidByText := true, laidKinds := [.data, .data, .data, .data, .sentinel, .sentinel, .pinned], laidTests := true, laidLooks := .later }
def SchemaBackUptoCardSaid : Prop := Claim7.holds Tryz.pinned (.plain (OpenSpec.upto schemaBackSpec)) schemaBackUptoCard

/-- THE SECOND FORM's CARD OF 'codicillaw12.SchemaFar'. -/
def schemaFarUptoCard : Claim7 := { stood := { row := schemaFarUptoRow, standIns := [], harness := (true, "29107c6aa61716f110a59a82015978511c54b80a42459714d9a47881d8e1dde6"), looks := true }, kinds := [], alts := [], laidByText := true, laidKinds := [.data, .data, .data, .data, .sentinel, .sentinel, .pinned], laidTests := true, laidLooks := .later }
def SchemaFarUptoCardSaid : Prop := Claim7.holds Tryz.pinned (.plain (OpenSpec.upto schemaFarSpec)) schemaFarUptoCard

/-- THE SECOND FORM's CARD OF 'codicillaw12.SchemaUnions'. -/
def schemaUnionsUptoCard : Claim7 := { stood := { row := schemaUnionsUptoRow, standIns := [], harness := (true, "29107c6aa61716f110a59a82015978511c54b80a42459714d9a47881d8e1dde6"), looks := true }, kinds := [], alts := [], laidByText := true, laidKinds := [.data, .data, .data, .data, .sentinel, .sentinel, .pinned], laidTests := true, laidLooks := .later }
def SchemaUnionsUptoCardSaid : Prop := Claim7.holds Tryz.pinned (.plain (OpenSpec.upto schemaUnionsSpec)) schemaUnionsUptoCard
end Rows
end Go.Proofs.YtibgjojeppijfaaGreatDoor
