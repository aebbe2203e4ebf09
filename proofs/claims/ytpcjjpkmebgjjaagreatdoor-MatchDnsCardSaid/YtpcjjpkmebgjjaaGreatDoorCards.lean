/-
  DERIVED. GIVEN WITH THE SEED: THE CARDS: each row of YtpcjjpkmebgjjaaGreatDoorRows.lean that lists a variable, with what it lists TIED to the program's text (the seventh form; the later family's looks); each row that meets fmt, with fmt's text TOLD by the authors' own Lean function (tested against real Go, not proved from fmt's source: count such statements apart). THE CARD IS WHAT COUNTS. Prove the row's statement (the work); the ties are given (YtpcjjpkmebgjjaaGreatDoorTie.lean); close each card by the builder's one call (the guide's Derived/Test/ToyasCard.lean, 'card_holds'). Laid BY PROGRAM, IN A SANDBOX (cutbox-door.mjs). By AI agents, Wed Nov 11 2026. No macro, syntax, notation, axiom, sorry.
-/
import Derived.Test.YtpcjjpkmebgjjaaGreatDoorRows
import GoSem.ClaimSeven
namespace Go.Proofs.YtpcjjpkmebgjjaaGreatDoor
namespace Rows

/-- THE TIED CARD OF 'brooklaw3.MatchAll'. -/
def matchAllCard : Claim7 := { stood := { row := matchAllRow, standIns := [], harness := (true, "f27209944ff761bf91c37660b3f0cfae38ed4583a14406b6a6bbaa9485a38e7e"), looks := true }, kinds := [], alts := [], laidByText := true, laidKinds := [.data, .data, .data, .data, .sentinel, .sentinel, .pinned], laidTests := true, laidLooks := .later }
def MatchAllCardSaid : Prop := Claim7.holds Tryz.pinned (.plain (OpenSpec.ofChange matchAllSpec)) matchAllCard

/-- THE TIED CARD OF 'brooklaw3.MatchTypes'. -/
def matchTypesCard : Claim7 := { stood := { row := matchTypesRow, standIns := [], harness := (true, "f27209944ff761bf91c37660b3f0cfae38ed4583a14406b6a6bbaa9485a38e7e"), looks := true }, kinds := [], alts := [], laidByText := true, laidKinds := [.data, .data, .data, .data, .sentinel, .sentinel, .pinned], laidTests := true, laidLooks := .later }
def MatchTypesCardSaid : Prop := Claim7.holds Tryz.pinned (.plain (OpenSpec.ofChange matchTypesSpec)) matchTypesCard

/-- THE TIED CARD OF 'brooklaw3.MatchDns'. -/
def matchDnsCard : Claim7 := { stood := { row := matchDnsRow, standIns := [], harness := (true, "f27209944ff761bf91c37660b3f0cfae38ed4583a14406b6a6bbaa9485a38e7e"), looks := true }, kinds := [], alts := [], laidByText := true, laidKinds := [.data, .data, .data, .data, .sentinel, .sentinel, .pinned], laidTests := true, laidLooks := .later }
def MatchDnsCardSaid : Prop := Claim7.holds Tryz.pinned (.plain (OpenSpec.ofChange matchDnsSpec)) matchDnsCard

/-- THE SECOND FORM's CARD OF 'brooklaw3.MatchAll'. -/
def matchAllUptoCard : Claim7 := { stood := { row := matchAllUptoRow, standIns := [], harness := (true, "f27209944ff761bf91c37660b3f0cfae38ed4583a14406b6a6bbaa9485a38e7e"), looks := true }, kinds := [], alts := [], laidByText := true, laidKinds := [.data, .data, .data, .data, .sentinel, .sentinel, .pinned], laidTests := true, laidLooks := .later }
def MatchAllUptoCardSaid : Prop := Claim7.holds Tryz.pinned (.plain (OpenSpec.upto matchAllSpec)) matchAllUptoCard

/-- THE SECOND FORM's CARD OF 'brooklaw3.MatchTypes'. -/
def matchTypesUptoCard : Claim7 := { stood := { row := matchTypesUptoRow, standIns := [], harness := (true, "f27209944ff761bf91c37660b3f0cfae38ed4583a14406b6a6bbaa9485a38e7e"), looks := true }, kinds := [], alts := [], laidByText := true, laidKinds := [.data, .data, .data, .data, .sentinel, .sentinel, .pinned], laidTests := true, laidLooks := .later }
def MatchTypesUptoCardSaid : Prop := Claim7.holds Tryz.pinned (.plain (OpenSpec.upto matchTypesSpec)) matchTypesUptoCard

/-- THE SECOND FORM's CARD OF 'brooklaw3.MatchDns'. -/
def matchDnsUptoCard : Claim7 := { stood := { row := matchDnsUptoRow, standIns := [], harness := (true, "f27209944ff761bf91c37660b3f0cfae38ed4583a14406b6a6bbaa9485a38e7e"), looks := true }, kinds := [], alts := [], laidByText := true, laidKinds := [.data, .data, .data, .data, .sentinel, .sentinel, .pinned], laidTests := true, laidLooks := .later }
def MatchDnsUptoCardSaid : Prop := Claim7.holds Tryz.pinned (.plain (OpenSpec.upto matchDnsSpec)) matchDnsUptoCard
end Rows
end Go.Proofs.YtpcjjpkmebgjjaaGreatDoor
