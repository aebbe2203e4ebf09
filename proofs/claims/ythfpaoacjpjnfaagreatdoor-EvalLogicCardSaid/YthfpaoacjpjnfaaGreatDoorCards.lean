/-
  DERIVED. GIVEN WITH THE SEED: THE CARDS: each row of YthfpaoacjpjnfaaGreatDoorRows.lean that lists a variable, with what it lists TIED to the program's text (the seventh form; the later family's looks); each row that meets fmt, with fmt's text TOLD by the authors' own Lean function (tested against real Go, not proved from fmt's source: count such statements apart). THE CARD IS WHAT COUNTS. Prove the row's statement (the work); the ties are given (YthfpaoacjpjnfaaGreatDoorTie.lean); close each card by the builder's one call (the guide's Derived/Test/ToyasCard.lean, 'card_holds'). Laid BY PROGRAM, IN A SANDBOX (cutbox-door.mjs). By AI agents, Wed Nov 11 2026. No macro, syntax, notation, axiom, sorry.
-/
import Derived.Test.YthfpaoacjpjnfaaGreatDoorRows
import GoSem.ClaimSeven
namespace Go.Proofs.YthfpaoacjpjnfaaGreatDoor
namespace Rows

/-- THE TIED CARD OF 'brooklaw7.EvalAll'. -/
def evalAllCard : Claim7 := { stood := { row := evalAllRow, standIns := [], harness := (true, "2ba5e87d3b0fdeaad9e0ec2fc9af7672910ceaaf0a3e1b5dcd9174c8142de3a8"), looks := true }, kinds := [], alts := [], laidByText := true, laidKinds := [.data, .data, .data, .data, .sentinel, .sentinel, .pinned], laidTests := true, laidLooks := .later }
def EvalAllCardSaid : Prop := Claim7.holds Tryz.pinned (.plain (OpenSpec.ofChange evalAllSpec)) evalAllCard

/-- THE TIED CARD OF 'brooklaw7.EvalMade'. -/
def evalMadeCard : Claim7 := { stood := { row := evalMadeRow, standIns := [], harness := (true, "2ba5e87d3b0fdeaad9e0ec2fc9af7672910ceaaf0a3e1b5dcd9174c8142de3a8"), looks := true }, kinds := [], alts := [], laidByText := true, laidKinds := [.data, .data, .data, .data, .sentinel, .sentinel, .pinned], laidTests := true, laidLooks := .later }
def EvalMadeCardSaid : Prop := Claim7.holds Tryz.pinned (.plain (OpenSpec.ofChange evalMadeSpec)) evalMadeCard

/-- THE TIED CARD OF 'brooklaw7.EvalNots'. -/
def evalNotsCard : Claim7 := { stood := { row := evalNotsRow, standIns := [], harness := (true, "2ba5e87d3b0fdeaad9e0ec2fc9af7672910ceaaf0a3e1b5dcd9174c8142de3a8"), looks := true }, kinds := [], alts := [], laidByText := true, laidKinds := [.data, .data, .data, .data, .sentinel, .sentinel, .pinned], laidTests := true, laidLooks := .later }
def EvalNotsCardSaid : Prop := Claim7.holds Tryz.pinned (.plain (OpenSpec.ofChange evalNotsSpec)) evalNotsCard

/-- THE TIED CARD OF 'brooklaw7.EvalLogic'. -/
def evalLogicCard : Claim7 := { stood := { row := evalLogicRow, standIns := [], harness := (true, "2ba5e87d3b0fdeaad9e0ec2fc9af7672910ceaaf0a3e1b5dcd9174c8142de3a8"), looks := true }, kinds := [], alts := [], laidByText := true, laidKinds := [.data, .data, .data, .data, .sentinel, .sentinel, .pinned], laidTests := true, laidLooks := .later }
def EvalLogicCardSaid : Prop := Claim7.holds Tryz.pinned (.plain (OpenSpec.ofChange evalLogicSpec)) evalLogicCard

/-- THE TIED CARD OF 'brooklaw7.EvalParts'. -/
def evalPartsCard : Claim7 := { stood := { row := evalPartsRow, standIns := [], harness := (true, "2ba5e87d3b0fdeaad9e0ec2fc9af7672910ceaaf0a3e1b5dcd9174c8142de3a8"), looks := true }, kinds := [], alts := [], laidByText := true, laidKinds := [.data, .data, .data, .data, .sentinel, .sentinel, .pinned], laidTests := true, laidLooks := .later }
def EvalPartsCardSaid : Prop := Claim7.holds Tryz.pinned (.plain (OpenSpec.ofChange evalPartsSpec)) evalPartsCard

/-- THE TIED CARD OF 'brooklaw7.EvalTypes'. -/
def evalTypesCard : Claim7 := { stood := { row := evalTypesRow, standIns := [], harness := (true, "2ba5e87d3b0fdeaad9e0ec2fc9af7672910ceaaf0a3e1b5dcd9174c8142de3a8"), looks := true }, kinds := [], alts := [], laidByText := true, laidKinds := [.data, .data, .data, .data, .sentinel, .sentinel, .pinned], laidTests := true, laidLooks := .later }
def EvalTypesCardSaid : Prop := Claim7.holds Tryz.pinned (.plain (OpenSpec.ofChange evalTypesSpec)) evalTypesCard

/-- THE TIED CARD OF 'brooklaw7.EvalOrder'. -/
def evalOrderCard : Claim7 := { stood := { row := evalOrderRow, standIns := [], harness := (true, "2ba5e87d3b0fdeaad9e0ec2fc9af7672910ceaaf0a3e1b5dcd9174c8142de3a8"), looks := true }, kinds := [], alts := [], laidByText := true, laidKinds := [.data, .data, .data, .data, .sentinel, .sentinel, .pinned], laidTests := true, laidLooks := .later }
def EvalOrderCardSaid : Prop := Claim7.holds Tryz.pinned (.plain (OpenSpec.ofChange evalOrderSpec)) evalOrderCard

/-- THE TIED CARD OF 'brooklaw7.EvalHas'. -/
def evalHasCard : Claim7 := { stood := { row := evalHasRow, standIns := [], harness := (true, "2ba5e87d3b0fdeaad9e0ec2fc9af7672910ceaaf0a3e1b5dcd9174c8142de3a8"), looks := true }, kinds := [], alts := [], laidByText := true, laidKinds := [.data, .data, .data, .data, .sentinel, .sentinel, .pinned], laidTests := true, laidLooks := .later }
def EvalHasCardSaid : Prop := Claim7.holds Tryz.pinned (.plain (OpenSpec.ofChange evalHasSpec)) evalHasCard

/-- THE SECOND FORM's CARD OF 'brooklaw7.EvalAll'. -/
def evalAllUptoCard : Claim7 := { stood := { row := evalAllUptoRow, standIns := [], harness := (true, "2ba5e87d3b0fdeaad9e0ec2fc9af7672910ceaaf0a3e1b5dcd9174c8142de3a8"), looks := true }, kinds := [], alts := [], laidByText := true, laidKinds := [.data, .data, .data, .data, .sentinel, .sentinel, .pinned], laidTests := true, laidLooks := .later }
def EvalAllUptoCardSaid : Prop := Claim7.holds Tryz.pinned (.plain (OpenSpec.upto evalAllSpec)) evalAllUptoCard

/-- THE SECOND FORM's CARD OF 'brooklaw7.EvalMade'. -/
def evalMadeUptoCard : Claim7 := { stood := { row := evalMadeUptoRow, standIns := [], harness := (true, "2ba5e87d3b0fdeaad9e0ec2fc9af7672910ceaaf0a3e1b5dcd9174c8142de3a8"), looks := true }, kinds := [], alts := [], laidByText := true, laidKinds := [.data, .data, .data, .data, .sentinel, .sentinel, .pinned], laidTests := true, laidLooks := .later }
def EvalMadeUptoCardSaid : Prop := Claim7.holds Tryz.pinned (.plain (OpenSpec.upto evalMadeSpec)) evalMadeUptoCard

/-- THE SECOND FORM's CARD OF 'brooklaw7.EvalNots'. -/
def evalNotsUptoCard : Claim7 := { stood := { row := evalNotsUptoRow, standIns := [], harness := (true, "2ba5e87d3b0fdeaad9e0ec2fc9af7672910ceaaf0a3e1b5dcd9174c8142de3a8"), looks := true }, kinds := [], alts := [], laidByText := true, laidKinds := [.data, .data, .data, .data, .sentinel, .sentinel, .pinned], laidTests := true, laidLooks := .later }
def EvalNotsUptoCardSaid : Prop := Claim7.holds Tryz.pinned (.plain (OpenSpec.upto evalNotsSpec)) evalNotsUptoCard

/-- THE SECOND FORM's CARD OF 'brooklaw7.EvalLogic'. -/
def evalLogicUptoCard : Claim7 := { stood := { row := evalLogicUptoRow, standIns := [], harness := (true, "2ba5e87d3b0fdeaad9e0ec2fc9af7672910ceaaf0a3e1b5dcd9174c8142de3a8"), looks := true }, kinds := [], alts := [], laidByText := true, laidKinds := [.data, .data, .data, .data, .sentinel, .sentinel, .pinned], laidTests := true, laidLooks := .later }
def EvalLogicUptoCardSaid : Prop := Claim7.holds Tryz.pinned (.plain (OpenSpec.upto evalLogicSpec)) evalLogicUptoCard

/-- THE SECOND FORM's CARD OF 'brooklaw7.EvalParts'. -/
def evalPartsUptoCard : Claim7 := { stood := { row := evalPartsUptoRow, standIns := [], harness := (true, "2ba5e87d3b0fdeaad9e0ec2fc9af7672910ceaaf0a3e1b5dcd9174c8142de3a8"), looks := true }, kinds := [], alts := [], laidByText := true, laidKinds := [.data, .data, .data, .data, .sentinel, .sentinel, .pinned], laidTests := true, laidLooks := .later }
def EvalPartsUptoCardSaid : Prop := Claim7.holds Tryz.pinned (.plain (OpenSpec.upto evalPartsSpec)) evalPartsUptoCard

/-- THE SECOND FORM's CARD OF 'brooklaw7.EvalTypes'. -/
def evalTypesUptoCard : Claim7 := { stood := { row := evalTypesUptoRow, standIns := [], harness := (true, "2ba5e87d3b0fdeaad9e0ec2fc9af7672910ceaaf0a3e1b5dcd9174c8142de3a8"), looks := true }, kinds := [], alts := [], laidByText := true, laidKinds := [.data, .data, .data, .data, .sentinel, .sentinel, .pinned], laidTests := true, laidLooks := .later }
def EvalTypesUptoCardSaid : Prop := Claim7.holds Tryz.pinned (.plain (OpenSpec.upto evalTypesSpec)) evalTypesUptoCard

/-- THE SECOND FORM's CARD OF 'brooklaw7.EvalOrder'. -/
def evalOrderUptoCard : Claim7 := { stood := { row := evalOrderUptoRow, standIns := [], harness := (true, "2ba5e87d3b0fdeaad9e0ec2fc9af7672910ceaaf0a3e1b5dcd9174c8142de3a8"), looks := true }, kinds := [], alts := [], laidByText := true, laidKinds := [.data, .data, .data, .data, .sentinel, .sentinel, .pinned], laidTests := true, laidLooks := .later }
def EvalOrderUptoCardSaid : Prop := Claim7.holds Tryz.pinned (.plain (OpenSpec.upto evalOrderSpec)) evalOrderUptoCard

/-- THE SECOND FORM's CARD OF 'brooklaw7.EvalHas'. -/
def evalHasUptoCard : Claim7 := { stood := { row := evalHasUptoRow, standIns := [], harness := (true, "2ba5e87d3b0fdeaad9e0ec2fc9af7672910ceaaf0a3e1b5dcd9174c8142de3a8"), looks := true }, kinds := [], alts := [], laidByText := true, laidKinds := [.data, .data, .data, .data, .sentinel, .sentinel, .pinned], laidTests := true, laidLooks := .later }
def EvalHasUptoCardSaid : Prop := Claim7.holds Tryz.pinned (.plain (OpenSpec.upto evalHasSpec)) evalHasUptoCard
end Rows
end Go.Proofs.YthfpaoacjpjnfaaGreatDoor
