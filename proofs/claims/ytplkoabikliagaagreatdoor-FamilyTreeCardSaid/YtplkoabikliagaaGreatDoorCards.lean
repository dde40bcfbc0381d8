/-
  DERIVED. GIVEN WITH THE SEED: THE CARDS: each row of YtplkoabikliagaaGreatDoorRows.lean that lists a variable, with what it lists TIED to the program's text (the seventh form; the later family's looks); each row that meets fmt, with fmt's text TOLD by the authors' own Lean function (tested against real Go, not proved from fmt's source: count such statements apart). THE CARD IS WHAT COUNTS. Prove the row's statement (the work); the ties are given (YtplkoabikliagaaGreatDoorTie.lean); close each card by the builder's one call (the guide's Derived/Test/ToyasCard.lean, 'card_holds'). Laid BY PROGRAM, IN A SANDBOX (cutbox-door.mjs). By AI agents, Wed Nov 11 2026. No macro, syntax, notation, axiom, sorry.
-/
import Derived.Test.YtplkoabikliagaaGreatDoorRows
import GoSem.ClaimSeven
namespace Go.Proofs.YtplkoabikliagaaGreatDoor
namespace Rows

/-- THE TIED CARD OF 'cognatelaw27.FamilyTree'. -/
def familyTreeCard : Claim7 := { stood := { row := familyTreeRow, standIns := [], harness := (true, "8bd359c578a2fa150971e828b31b69331b47cabd29741825f17f8b609b2d965e"), looks := false }, kinds := [], alts := [], laidByText := true, laidKinds := [.data, .pinned], laidTests := true, laidLooks := .later }
def FamilyTreeCardSaid : Prop := Claim7.holds Tryz.pinned (.plain (OpenSpec.ofChange familyTreeSpec)) familyTreeCard

/-- THE TIED CARD OF 'cognatelaw28.CorrCounts'. -/
def corrCountsCard : Claim7 := { stood := { row := corrCountsRow, standIns := [], harness := (true, "8bd359c578a2fa150971e828b31b69331b47cabd29741825f17f8b609b2d965e"), looks := false }, kinds := [], alts := [], laidByText := true, laidKinds := [.data, .pinned], laidTests := true, laidLooks := .later }
def CorrCountsCardSaid : Prop := Claim7.holds Tryz.pinned (.plain (OpenSpec.ofChange corrCountsSpec)) corrCountsCard

/-- THE TIED CARD OF 'cognatelaw27.FamilyDown'. -/
def familyDownCard : Claim7 := { stood := { row := familyDownRow, standIns := [], harness := (true, "8bd359c578a2fa150971e828b31b69331b47cabd29741825f17f8b609b2d965e"), looks := false }, kinds := [], alts := [], laidByText := true, laidKinds := [.data, .pinned], laidTests := true, laidLooks := .later }
def FamilyDownCardSaid : Prop := Claim7.holds Tryz.pinned (.plain (OpenSpec.ofChange familyDownSpec)) familyDownCard

/-- THE TIED CARD OF 'cognatelaw27.FamilySteps'. -/
def familyStepsCard : Claim7 := { stood := { row := familyStepsRow, standIns := [], harness := (true, "8bd359c578a2fa150971e828b31b69331b47cabd29741825f17f8b609b2d965e"), looks := false }, kinds := [], alts := [], laidByText := true, laidKinds := [.data, .pinned], laidTests := true, laidLooks := .later }
def FamilyStepsCardSaid : Prop := Claim7.holds Tryz.pinned (.plain (OpenSpec.ofChange familyStepsSpec)) familyStepsCard

/-- THE TIED CARD OF 'cognatelaw28.CorrFamilies'. -/
def corrFamiliesCard : Claim7 := { stood := { row := corrFamiliesRow, standIns := [], harness := (true, "8bd359c578a2fa150971e828b31b69331b47cabd29741825f17f8b609b2d965e"), looks := false }, kinds := [], alts := [], laidByText := true, laidKinds := [.data, .pinned], laidTests := true, laidLooks := .later }
def CorrFamiliesCardSaid : Prop := Claim7.holds Tryz.pinned (.plain (OpenSpec.ofChange corrFamiliesSpec)) corrFamiliesCard

/-- THE TIED CARD OF 'cognatelaw28.CorrFamily'. -/
def corrFamilyCard : Claim7 := { stood := { row := corrFamilyRow, standIns := [], harness := (true, "8bd359c578a2fa150971e828b31b69331b47cabd29741825f17f8b609b2d965e"), looks := false }, kinds := [], alts := [], laidByText := true, laidKinds := [.data, .pinned], laidTests := true, laidLooks := .later }
def CorrFamilyCardSaid : Prop := Claim7.holds Tryz.pinned (.plain (OpenSpec.ofChange corrFamilySpec)) corrFamilyCard

/-- THE TIED CARD OF 'cognatelaw28.CorrNames'. -/
def corrNamesCard : Claim7 := { stood := { row := corrNamesRow, standIns := [], harness := (true, "8bd359c578a2fa150971e828b31b69331b47cabd29741825f17f8b609b2d965e"), looks := false }, kinds := [], alts := [], laidByText := true, laidKinds := [.data, .pinned], laidTests := true, laidLooks := .later }
def CorrNamesCardSaid : Prop := Claim7.holds Tryz.pinned (.plain (OpenSpec.ofChange corrNamesSpec)) corrNamesCard

/-- THE SECOND FORM's CARD OF 'cognatelaw27.FamilyTree'. -/
def familyTreeUptoCard : Claim7 := { stood := { row := familyTreeUptoRow, standIns := [], harness := (true, "8bd359c578a2fa150971e828b31b69331b47cabd29741825f17f8b609b2d965e"), looks := false }, kinds := [], alts := [], laidByText := true, laidKinds := [.data, .pinned], laidTests := true, laidLooks := .later }
def FamilyTreeUptoCardSaid : Prop := Claim7.holds Tryz.pinned (.plain (OpenSpec.upto familyTreeSpec)) familyTreeUptoCard

/-- THE SECOND FORM's CARD OF 'cognatelaw28.CorrCounts'. -/
def corrCountsUptoCard : Claim7 := { stood := { row := corrCountsUptoRow, standIns := [], harness := (true, "8bd359c578a2fa150971e828b31b69331b47cabd29741825f17f8b609b2d965e"), looks := false }, kinds := [], alts := [], laidByText := true, laidKinds := [.data, .pinned], laidTests := true, laidLooks := .later }
def CorrCountsUptoCardSaid : Prop := Claim7.holds Tryz.pinned (.plain (OpenSpec.upto corrCountsSpec)) corrCountsUptoCard

/-- THE SECOND FORM's CARD OF 'cognatelaw27.FamilyDown'. -/
def familyDownUptoCard : Claim7 := { stood := { row := familyDownUptoRow, standIns := [], harness := (true, "8bd359c578a2fa150971e828b31b69331b47cabd29741825f17f8b609b2d965e"), looks := false }, kinds := [], alts := [], laidByText := true, laidKinds := [.data, .pinned], laidTests := true, laidLooks := .later }
def FamilyDownUptoCardSaid : Prop := Claim7.holds Tryz.pinned (.plain (OpenSpec.upto familyDownSpec)) familyDownUptoCard

/-- THE SECOND FORM's CARD OF 'cognatelaw27.FamilySteps'. -/
def familyStepsUptoCard : Claim7 := { stood := { row := familyStepsUptoRow, standIns := [], harness := (true, "8bd359c578a2fa150971e828b31b69331b47cabd29741825f17f8b609b2d965e"), looks := false }, kinds := [], alts := [], laidByText := true, laidKinds := [.data, .pinned], laidTests := true, laidLooks := .later }
def FamilyStepsUptoCardSaid : Prop := Claim7.holds Tryz.pinned (.plain (OpenSpec.upto familyStepsSpec)) familyStepsUptoCard

/-- THE SECOND FORM's CARD OF 'cognatelaw28.CorrFamilies'. -/
def corrFamiliesUptoCard : Claim7 := { stood := { row := corrFamiliesUptoRow, standIns := [], harness := (true, "8bd359c578a2fa150971e828b31b69331b47cabd29741825f17f8b609b2d965e"), looks := false }, kinds := [], alts := [], laidByText := true, laidKinds := [.data, .pinned], laidTests := true, laidLooks := .later }
def CorrFamiliesUptoCardSaid : Prop := Claim7.holds Tryz.pinned (.plain (OpenSpec.upto corrFamiliesSpec)) corrFamiliesUptoCard

/-- THE SECOND FORM's CARD OF 'cognatelaw28.CorrFamily'. -/
def corrFamilyUptoCard : Claim7 := { stood := { row := corrFamilyUptoRow, standIns := [], harness := (true, "8bd359c578a2fa150971e828b31b69331b47cabd29741825f17f8b609b2d965e"), looks := false }, kinds := [], alts := [], laidByText := true, laidKinds := [.data, .pinned], laidTests := true, laidLooks := .later }
def CorrFamilyUptoCardSaid : Prop := Claim7.holds Tryz.pinned (.plain (OpenSpec.upto corrFamilySpec)) corrFamilyUptoCard

/-- THE SECOND FORM's CARD OF 'cognatelaw28.CorrNames'. -/
def corrNamesUptoCard : Claim7 := { stood := { row := corrNamesUptoRow, standIns := [], harness := (true, "8bd359c578a2fa150971e828b31b69331b47cabd29741825f17f8b609b2d965e"), looks := false }, kinds := [], alts := [], laidByText := true, laidKinds := [.data, .pinned], laidTests := true, laidLooks := .later }
def CorrNamesUptoCardSaid : Prop := Claim7.holds Tryz.pinned (.plain (OpenSpec.upto corrNamesSpec)) corrNamesUptoCard
end Rows
end Go.Proofs.YtplkoabikliagaaGreatDoor
