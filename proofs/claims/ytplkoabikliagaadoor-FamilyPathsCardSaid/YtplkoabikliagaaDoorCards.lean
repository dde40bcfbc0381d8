/-
  DERIVED. GIVEN WITH THE SEED: THE CARDS: each row of YtplkoabikliagaaDoorRows.lean that lists a variable, with what it lists TIED to the program's text (the seventh form; the later family's looks); each row that meets fmt, with fmt's text TOLD by the authors' own Lean function (tested against real Go, not proved from fmt's source: count such statements apart). THE CARD IS WHAT COUNTS. Prove the row's statement (the work); the ties are given (YtplkoabikliagaaDoorTie.lean); close each card by the builder's one call (the guide's Derived/Test/ToyasCard.lean, 'card_holds'). Laid BY PROGRAM, IN A SANDBOX (cutbox-door.mjs). By AI agents, Wed Nov 11 2026. No macro, syntax, notation, axiom, sorry.
-/
import Derived.Test.YtplkoabikliagaaDoorRows
import GoSem.ClaimSeven
namespace Go.Proofs.YtplkoabikliagaaDoor
namespace Rows

/-- THE TIED CARD OF 'cognatelaw27.FamilyPaths'. -/
def familyPathsCard : Claim7 := { stood := { row := familyPathsRow, standIns := [], harness := (true, "4018a8e7abd1e520e83164fa94c179d280551cc35e2f9e9d0220d51ec9ce8f78"), looks := false }, kinds := [], alts := [], laidByText := true, laidKinds := [.data, .pinned], laidTests := true, laidLooks := .later }
def FamilyPathsCardSaid : Prop := Claim7.holds Tryd.pinned (.plain (OpenSpec.ofChange familyPathsSpec)) familyPathsCard

/-- THE TIED CARD OF 'cognatelaw28.CorrAll'. -/
def corrAllCard : Claim7 := { stood := { row := corrAllRow, standIns := [], harness := (true, "4018a8e7abd1e520e83164fa94c179d280551cc35e2f9e9d0220d51ec9ce8f78"), looks := false }, kinds := [], alts := [], laidByText := true, laidKinds := [.data, .pinned], laidTests := true, laidLooks := .later }
def CorrAllCardSaid : Prop := Claim7.holds Tryd.pinned (.plain (OpenSpec.ofChange corrAllSpec)) corrAllCard

/-- THE SECOND FORM's CARD OF 'cognatelaw27.FamilyPaths'. -/
def familyPathsUptoCard : Claim7 := { stood := { row := familyPathsUptoRow, standIns := [], harness := (true, "4018a8e7abd1e520e83164fa94c179d280551cc35e2f9e9d0220d51ec9ce8f78"), looks := false }, kinds := [], alts := [], laidByText := true, laidKinds := [.data, .pinned], laidTests := true, laidLooks := .later }
def FamilyPathsUptoCardSaid : Prop := Claim7.holds Tryd.pinned (.plain (OpenSpec.upto familyPathsSpec)) familyPathsUptoCard

/-- THE SECOND FORM's CARD OF 'cognatelaw28.CorrAll'. -/
def corrAllUptoCard : Claim7 := { stood := { row := corrAllUptoRow, standIns := [], harness := (true, "4018a8e7abd1e520e83164fa94c179d280551cc35e2f9e9d0220d51ec9ce8f78"), looks := false }, kinds := [], alts := [], laidByText := true, laidKinds := [.data, .pinned], laidTests := true, laidLooks := .later }
def CorrAllUptoCardSaid : Prop := Claim7.holds Tryd.pinned (.plain (OpenSpec.upto corrAllSpec)) corrAllUptoCard
end Rows
end Go.Proofs.YtplkoabikliagaaDoor
