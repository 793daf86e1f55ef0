/-
  DERIVED. GIVEN WITH THE SEED: THE CARDS: each row of YtoilfakpgcjjpaaDoorRows.lean that lists a variable, with what it lists TIED to the program's text (the seventh form; the later family's looks); each row that meets fmt, with fmt's text TOLD by the authors' own Lean function (tested against real Go, not proved from fmt's source: count such statements apart). THE CARD IS WHAT COUNTS. Prove the row's statement (the work); the ties are given (YtoilfakpgcjjpaaDoorTie.lean); close each card by the builder's one call (the guide's Derived/Test/ToyasCard.lean, 'card_holds'). Laid BY PROGRAM, IN A SANDBOX (cutbox-door.mjs). By AI agents, Wed Nov 11 2026. No macro, syntax, notation, axiom, sorry.
-/
import Derived.Test.YtoilfakpgcjjpaaDoorRows
import GoSem.ClaimSeven
namespace Go.Proofs.YtoilfakpgcjjpaaDoor
namespace Rows

/-- THE TIED CARD OF 'turndownlaw04.LogicClassical'. -/
def logicClassicalCard : Claim7 := { stood := { row := logicClassicalRow, standIns := [], harness := (true, "66d8a7d6c21dbc4c2189cf199939abe6f41982707b0fa5edfb9c32b2d1b9ae15"), looks := true }, kinds := [], alts := [], laidByText := true, laidKinds := [.data], laidTests := true, laidLooks := .later }
def LogicClassicalCardSaid : Prop := Claim7.holds Tryd.pinned (.plain (OpenSpec.ofChange logicClassicalSpec)) logicClassicalCard

/-- THE TIED CARD OF 'turndownlaw04.LogicGlivenko'. -/
def logicGlivenkoCard : Claim7 := { stood := { row := logicGlivenkoRow, standIns := [], harness := (true, "66d8a7d6c21dbc4c2189cf199939abe6f41982707b0fa5edfb9c32b2d1b9ae15"), looks := true }, kinds := [], alts := [], laidByText := true, laidKinds := [.data], laidTests := true, laidLooks := .later }
def LogicGlivenkoCardSaid : Prop := Claim7.holds Tryd.pinned (.plain (OpenSpec.ofChange logicGlivenkoSpec)) logicGlivenkoCard

/-- THE TIED CARD OF 'turndownlaw04.LogicDisjunction'. -/
def logicDisjunctionCard : Claim7 := { stood := { row := logicDisjunctionRow, standIns := [], harness := (true, "66d8a7d6c21dbc4c2189cf199939abe6f41982707b0fa5edfb9c32b2d1b9ae15"), looks := true }, kinds := [], alts := [], laidByText := true, laidKinds := [.data], laidTests := true, laidLooks := .later }
def LogicDisjunctionCardSaid : Prop := Claim7.holds Tryd.pinned (.plain (OpenSpec.ofChange logicDisjunctionSpec)) logicDisjunctionCard

/-- THE TIED CARD OF 'turndownlaw04.LogicRenames'. -/
def logicRenamesCard : Claim7 := { stood := { row := logicRenamesRow, standIns := [], harness := (true, "66d8a7d6c21dbc4c2189cf199939abe6f41982707b0fa5edfb9c32b2d1b9ae15"), looks := true }, kinds := [], alts := [], laidByText := true, laidKinds := [.data], laidTests := true, laidLooks := .later }
def LogicRenamesCardSaid : Prop := Claim7.holds Tryd.pinned (.plain (OpenSpec.ofChange logicRenamesSpec)) logicRenamesCard

/-- THE TIED CARD OF 'turndownlaw04.LogicLaws'. -/
def logicLawsCard : Claim7 := { stood := { row := logicLawsRow, standIns := [], harness := (true, "66d8a7d6c21dbc4c2189cf199939abe6f41982707b0fa5edfb9c32b2d1b9ae15"), looks := true }, kinds := [], alts := [], laidByText := true, laidKinds := [.data], laidTests := true, laidLooks := .later }
def LogicLawsCardSaid : Prop := Claim7.holds Tryd.pinned (.plain (OpenSpec.ofChange logicLawsSpec)) logicLawsCard

/-- THE TIED CARD OF 'turndownlaw04.LogicForces'. -/
def logicForcesCard : Claim7 := { stood := { row := logicForcesRow, standIns := [], harness := (true, "66d8a7d6c21dbc4c2189cf199939abe6f41982707b0fa5edfb9c32b2d1b9ae15"), looks := true }, kinds := [], alts := [], laidByText := true, laidKinds := [.data], laidTests := true, laidLooks := .later }
def LogicForcesCardSaid : Prop := Claim7.holds Tryd.pinned (.plain (OpenSpec.ofChange logicForcesSpec)) logicForcesCard

/-- THE TIED CARD OF 'turndownlaw04.LogicPersists'. -/
def logicPersistsCard : Claim7 := { stood := { row := logicPersistsRow, standIns := [], harness := (true, "66d8a7d6c21dbc4c2189cf199939abe6f41982707b0fa5edfb9c32b2d1b9ae15"), looks := true }, kinds := [], alts := [], laidByText := true, laidKinds := [.data], laidTests := true, laidLooks := .later }
def LogicPersistsCardSaid : Prop := Claim7.holds Tryd.pinned (.plain (OpenSpec.ofChange logicPersistsSpec)) logicPersistsCard

/-- THE TIED CARD OF 'turndownlaw04.LogicOwn'. -/
def logicOwnCard : Claim7 := { stood := { row := logicOwnRow, standIns := [], harness := (true, "66d8a7d6c21dbc4c2189cf199939abe6f41982707b0fa5edfb9c32b2d1b9ae15"), looks := true }, kinds := [], alts := [], laidByText := true, laidKinds := [.data], laidTests := true, laidLooks := .later }
def LogicOwnCardSaid : Prop := Claim7.holds Tryd.pinned (.plain (OpenSpec.ofChange logicOwnSpec)) logicOwnCard

/-- THE TIED CARD OF 'turndownlaw04.LogicDecides'. -/
def logicDecidesCard : Claim7 := { stood := { row := logicDecidesRow, standIns := [], harness := (true, "66d8a7d6c21dbc4c2189cf199939abe6f41982707b0fa5edfb9c32b2d1b9ae15"), looks := true }, kinds := [], alts := [], laidByText := true, laidKinds := [.data], laidTests := true, laidLooks := .later }
def LogicDecidesCardSaid : Prop := Claim7.holds Tryd.pinned (.plain (OpenSpec.ofChange logicDecidesSpec)) logicDecidesCard

/-- THE TIED CARD OF 'turndownlaw04.LogicChecks'. -/
def logicChecksCard : Claim7 := { stood := { row := logicChecksRow, standIns := [], harness := (true, "66d8a7d6c21dbc4c2189cf199939abe6f41982707b0fa5edfb9c32b2d1b9ae15"), looks := true }, kinds := [], alts := [], laidByText := true, laidKinds := [.data], laidTests := true, laidLooks := .later }
def LogicChecksCardSaid : Prop := Claim7.holds Tryd.pinned (.plain (OpenSpec.ofChange logicChecksSpec)) logicChecksCard

/-- THE TIED CARD OF 'turndownlaw04.LogicOnce'. -/
def logicOnceCard : Claim7 := { stood := { row := logicOnceRow, standIns := [], harness := (true, "66d8a7d6c21dbc4c2189cf199939abe6f41982707b0fa5edfb9c32b2d1b9ae15"), looks := true }, kinds := [], alts := [], laidByText := true, laidKinds := [.data], laidTests := true, laidLooks := .later }
def LogicOnceCardSaid : Prop := Claim7.holds Tryd.pinned (.plain (OpenSpec.ofChange logicOnceSpec)) logicOnceCard

/-- THE SECOND FORM's CARD OF 'turndownlaw04.LogicClassical'. -/
def logicClassicalUptoCard : Claim7 := { stood := { row := logicClassicalUptoRow, standIns := [], harness := (true, "66d8a7d6c21dbc4c2189cf199939abe6f41982707b0fa5edfb9c32b2d1b9ae15"), looks := true }, kinds := [], alts := [], laidByText := true, laidKinds := [.data], laidTests := true, laidLooks := .later }
def LogicClassicalUptoCardSaid : Prop := Claim7.holds Tryd.pinned (.plain (OpenSpec.upto logicClassicalSpec)) logicClassicalUptoCard

/-- THE SECOND FORM's CARD OF 'turndownlaw04.LogicGlivenko'. -/
def logicGlivenkoUptoCard : Claim7 := { stood := { row := logicGlivenkoUptoRow, standIns := [], harness := (true, "66d8a7d6c21dbc4c2189cf199939abe6f41982707b0fa5edfb9c32b2d1b9ae15"), looks := true }, kinds := [], alts := [], laidByText := true, laidKinds := [.data], laidTests := true, laidLooks := .later }
def LogicGlivenkoUptoCardSaid : Prop := Claim7.holds Tryd.pinned (.plain (OpenSpec.upto logicGlivenkoSpec)) logicGlivenkoUptoCard

/-- THE SECOND FORM's CARD OF 'turndownlaw04.LogicDisjunction'. -/
def logicDisjunctionUptoCard : Claim7 := { stood := { row := logicDisjunctionUptoRow, standIns := [], harness := (true, "66d8a7d6c21dbc4c2189cf199939abe6f41982707b0fa5edfb9c32b2d1b9ae15"), looks := true }, kinds := [], alts := [], laidByText := true, laidKinds := [.data], laidTests := true, laidLooks := .later }
def LogicDisjunctionUptoCardSaid : Prop := Claim7.holds Tryd.pinned (.plain (OpenSpec.upto logicDisjunctionSpec)) logicDisjunctionUptoCard

/-- THE SECOND FORM's CARD OF 'turndownlaw04.LogicRenames'. -/
def logicRenamesUptoCard : Claim7 := { stood := { row := logicRenamesUptoRow, standIns := [], harness := (true, "66d8a7d6c21dbc4c2189cf199939abe6f41982707b0fa5edfb9c32b2d1b9ae15"), looks := true }, kinds := [], alts := [], laidByText := true, laidKinds := [.data], laidTests := true, laidLooks := .later }
def LogicRenamesUptoCardSaid : Prop := Claim7.holds Tryd.pinned (.plain (OpenSpec.upto logicRenamesSpec)) logicRenamesUptoCard

/-- THE SECOND FORM's CARD OF 'turndownlaw04.LogicLaws'. -/
def logicLawsUptoCard : Claim7 := { stood := { row := logicLawsUptoRow, standIns := [], harness := (true, "66d8a7d6c21dbc4c2189cf199939abe6f41982707b0fa5edfb9c32b2d1b9ae15"), looks := true }, kinds := [], alts := [], laidByText := true, laidKinds := [.data], laidTests := true, laidLooks := .later }
def LogicLawsUptoCardSaid : Prop := Claim7.holds Tryd.pinned (.plain (OpenSpec.upto logicLawsSpec)) logicLawsUptoCard

/-- THE SECOND FORM's CARD OF 'turndownlaw04.LogicForces'. -/
def logicForcesUptoCard : Claim7 := { stood := { row := logicForcesUptoRow, standIns := [], harness := (true, "66d8a7d6c21dbc4c2189cf199939abe6f41982707b0fa5edfb9c32b2d1b9ae15"), looks := true }, kinds := [], alts := [], laidByText := true, laidKinds := [.data], laidTests := true, laidLooks := .later }
def LogicForcesUptoCardSaid : Prop := Claim7.holds Tryd.pinned (.plain (OpenSpec.upto logicForcesSpec)) logicForcesUptoCard

/-- THE SECOND FORM's CARD OF 'turndownlaw04.LogicPersists'. -/
def logicPersistsUptoCard : Claim7 := { stood := { row := logicPersistsUptoRow, standIns := [], harness := (true, "66d8a7d6c21dbc4c2189cf199939abe6f41982707b0fa5edfb9c32b2d1b9ae15"), looks := true }, kinds := [], alts := [], laidByText := true, laidKinds := [.data], laidTests := true, laidLooks := .later }
def LogicPersistsUptoCardSaid : Prop := Claim7.holds Tryd.pinned (.plain (OpenSpec.upto logicPersistsSpec)) logicPersistsUptoCard

/-- THE SECOND FORM's CARD OF 'turndownlaw04.LogicOwn'. -/
def logicOwnUptoCard : Claim7 := { stood := { row := logicOwnUptoRow, standIns := [], harness := (true, "66d8a7d6c21dbc4c2189cf199939abe6f41982707b0fa5edfb9c32b2d1b9ae15"), looks := true }, kinds := [], alts := [], laidByText := true, laidKinds := [.data], laidTests := true, laidLooks := .later }
def LogicOwnUptoCardSaid : Prop := Claim7.holds Tryd.pinned (.plain (OpenSpec.upto logicOwnSpec)) logicOwnUptoCard

/-- THE SECOND FORM's CARD OF 'turndownlaw04.LogicDecides'. -/
def logicDecidesUptoCard : Claim7 := { stood := { row := logicDecidesUptoRow, standIns := [], harness := (true, "66d8a7d6c21dbc4c2189cf199939abe6f41982707b0fa5edfb9c32b2d1b9ae15"), looks := true }, kinds := [], alts := [], laidByText := true, laidKinds := [.data], laidTests := true, laidLooks := .later }
def LogicDecidesUptoCardSaid : Prop := Claim7.holds Tryd.pinned (.plain (OpenSpec.upto logicDecidesSpec)) logicDecidesUptoCard

/-- THE SECOND FORM's CARD OF 'turndownlaw04.LogicChecks'. -/
def logicChecksUptoCard : Claim7 := { stood := { row := logicChecksUptoRow, standIns := [], harness := (true, "66d8a7d6c21dbc4c2189cf199939abe6f41982707b0fa5edfb9c32b2d1b9ae15"), looks := true }, kinds := [], alts := [], laidByText := true, laidKinds := [.data], laidTests := true, laidLooks := .later }
def LogicChecksUptoCardSaid : Prop := Claim7.holds Tryd.pinned (.plain (OpenSpec.upto logicChecksSpec)) logicChecksUptoCard

/-- THE SECOND FORM's CARD OF 'turndownlaw04.LogicOnce'. -/
def logicOnceUptoCard : Claim7 := { stood := { row := logicOnceUptoRow, standIns := [], harness := (true, "66d8a7d6c21dbc4c2189cf199939abe6f41982707b0fa5edfb9c32b2d1b9ae15"), looks := true }, kinds := [], alts := [], laidByText := true, laidKinds := [.data], laidTests := true, laidLooks := .later }
def LogicOnceUptoCardSaid : Prop := Claim7.holds Tryd.pinned (.plain (OpenSpec.upto logicOnceSpec)) logicOnceUptoCard
end Rows
end Go.Proofs.YtoilfakpgcjjpaaDoor
