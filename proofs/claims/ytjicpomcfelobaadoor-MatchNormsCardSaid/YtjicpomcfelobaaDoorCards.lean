/-
  DERIVED. GIVEN WITH THE SEED: THE CARDS: each row of YtjicpomcfelobaaDoorRows.lean that lists a variable, with what it lists TIED to the program's text (the seventh form; the later family's looks); each row that meets fmt, with fmt's text TOLD by the authors' own Lean function (tested against real Go, not proved from fmt's source: count such statements apart). THE CARD IS WHAT COUNTS. Prove the row's statement (the work); the ties are given (YtjicpomcfelobaaDoorTie.lean); close each card by the builder's one call (the guide's Derived/Test/ToyasCard.lean, 'card_holds'). Laid BY PROGRAM, IN A SANDBOX (cutbox-door.mjs). By AI agents, Wed Nov 11 2026. No macro, syntax, notation, axiom, sorry.
-/
import Derived.Test.YtjicpomcfelobaaDoorRows
import GoSem.ClaimSeven
namespace Go.Proofs.YtjicpomcfelobaaDoor
namespace Rows

/-- THE TIED CARD OF 'brooklaw3.MatchNorms'. -/
def matchNormsCard : Claim7 := { stood := { row := matchNormsRow, standIns := [], harness := (true, "fcf50fc008a9ea5a25201cd186160692004f0448fdcc3ac426903fa209155e18"), looks := true }, kinds := [], alts := [], laidByText := true, laidKinds := [.data, .data, .data, .data, .sentinel, .sentinel, .pinned], laidTests := true, laidLooks := .later }
def MatchNormsCardSaid : Prop := Claim7.holds Tryd.pinned (.plain (OpenSpec.ofChange matchNormsSpec)) matchNormsCard

/-- THE TIED CARD OF 'brooklaw3.MatchNumbers'. -/
def matchNumbersCard : Claim7 := { stood := { row := matchNumbersRow, standIns := [], harness := (true, "fcf50fc008a9ea5a25201cd186160692004f0448fdcc3ac426903fa209155e18"), looks := true }, kinds := [], alts := [], laidByText := true, laidKinds := [.data, .data, .data, .data, .sentinel, .sentinel, .pinned], laidTests := true, laidLooks := .later }
def MatchNumbersCardSaid : Prop := Claim7.holds Tryd.pinned (.plain (OpenSpec.ofChange matchNumbersSpec)) matchNumbersCard

/-- THE TIED CARD OF 'brooklaw3.MatchCases'. -/
def matchCasesCard : Claim7 := { stood := { row := matchCasesRow, standIns := [], harness := (true, "fcf50fc008a9ea5a25201cd186160692004f0448fdcc3ac426903fa209155e18"), looks := true }, kinds := [], alts := [], laidByText := true, laidKinds := [.data, .data, .data, .data, .sentinel, .sentinel, .pinned], laidTests := true, laidLooks := .later }
def MatchCasesCardSaid : Prop := Claim7.holds Tryd.pinned (.plain (OpenSpec.ofChange matchCasesSpec)) matchCasesCard

/-- THE SECOND FORM's CARD OF 'brooklaw3.MatchNorms'. -/
def matchNormsUptoCard : Claim7 := { stood := { row := matchNormsUptoRow, standIns := [], harness := (true, "fcf50fc008a9ea5a25201cd186160692004f0448fdcc3ac426903fa209155e18"), looks := true }, kinds := [], alts := [], laidByText := true, laidKinds := [.data, .data, .data, .data, .sentinel, .sentinel, .pinned], laidTests := true, laidLooks := .later }
def MatchNormsUptoCardSaid : Prop := Claim7.holds Tryd.pinned (.plain (OpenSpec.upto matchNormsSpec)) matchNormsUptoCard

/-- THE SECOND FORM's CARD OF 'brooklaw3.MatchNumbers'. -/
def matchNumbersUptoCard : Claim7 := { stood := { row := matchNumbersUptoRow, standIns := [], harness := (true, "fcf50fc008a9ea5a25201cd186160692004f0448fdcc3ac426903fa209155e18"), looks := true }, kinds := [], alts := [], laidByText := true, laidKinds := [.data, .data, .data, .data, .sentinel, .sentinel, .pinned], laidTests := true, laidLooks := .later }
def MatchNumbersUptoCardSaid : Prop := Claim7.holds Tryd.pinned (.plain (OpenSpec.upto matchNumbersSpec)) matchNumbersUptoCard

/-- THE SECOND FORM's CARD OF 'brooklaw3.MatchCases'. -/
def matchCasesUptoCard : Claim7 := { stood := { row := matchCasesUptoRow, standIns := [], harness := (true, "fcf50fc008a9ea5a25201cd186160692004f0448fdcc3ac426903fa209155e18"), looks := true }, kinds := [], alts := [], laidByText := true, laidKinds := [.data, .data, .data, .data, .sentinel, .sentinel, .pinned], laidTests := true, laidLooks := .later }
def MatchCasesUptoCardSaid : Prop := Claim7.holds Tryd.pinned (.plain (OpenSpec.upto matchCasesSpec)) matchCasesUptoCard
end Rows
end Go.Proofs.YtjicpomcfelobaaDoor
