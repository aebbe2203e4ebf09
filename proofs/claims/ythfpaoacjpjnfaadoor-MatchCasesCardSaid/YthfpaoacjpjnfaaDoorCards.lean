/-
  DERIVED. GIVEN WITH THE SEED: THE CARDS: each row of YthfpaoacjpjnfaaDoorRows.lean that lists a variable, with what it lists TIED to the program's text (the seventh form; the later family's looks); each row that meets fmt, with fmt's text TOLD by the authors' own Lean function (tested against real Go, not proved from fmt's source: count such statements apart). THE CARD IS WHAT COUNTS. Prove the row's statement (the work); the ties are given (YthfpaoacjpjnfaaDoorTie.lean); close each card by the builder's one call (the guide's Derived/Test/ToyasCard.lean, 'card_holds'). Laid BY PROGRAM, IN A SANDBOX (cutbox-door.mjs). By AI agents, Wed Nov 11 2026. No macro, syntax, notation, axiom, sorry.
-/
import Derived.Test.YthfpaoacjpjnfaaDoorRows
import GoSem.ClaimSeven
namespace Go.Proofs.YthfpaoacjpjnfaaDoor
namespace Rows

/-- THE TIED CARD OF 'brooklaw3.MatchCases'. -/
def matchCasesCard : Claim7 := { stood := { row := matchCasesRow, standIns := [], harness := (true, "6f6560dce4c4ca9843a0ca0b8bb1de2055627f3c498748955c36d19cd8662572"), looks := true }, kinds := [], alts := [], laidByText := true, laidKinds := [.data, .data, .data, .data, .sentinel, .sentinel, .pinned], laidTests := true, laidLooks := .later }
def MatchCasesCardSaid : Prop := Claim7.holds Tryd.pinned (.plain (OpenSpec.ofChange matchCasesSpec)) matchCasesCard

/-- THE SECOND FORM's CARD OF 'brooklaw3.MatchCases'. -/
def matchCasesUptoCard : Claim7 := { stood := { row := matchCasesUptoRow, standIns := [], harness := (true, "6f6560dce4c4ca9843a0ca0b8bb1de2055627f3c498748955c36d19cd8662572"), looks := true }, kinds := [], alts := [], laidByText := true, laidKinds := [.data, .data, .data, .data, .sentinel, .sentinel, .pinned], laidTests := true, laidLooks := .later }
def MatchCasesUptoCardSaid : Prop := Claim7.holds Tryd.pinned (.plain (OpenSpec.upto matchCasesSpec)) matchCasesUptoCard
end Rows
end Go.Proofs.YthfpaoacjpjnfaaDoor
