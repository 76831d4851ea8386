/-
  DERIVED. GIVEN WITH THE SEED: THE CARDS: each row of YtjleeadiadpiaaaGreatDoorRows.lean that lists a variable, with what it lists TIED to the program's text (the seventh form; the later family's looks); each row that meets fmt, with fmt's text TOLD by the authors' own Lean function (tested against real Go, not proved from fmt's source: count such statements apart). THE CARD IS WHAT COUNTS. Prove the row's statement (the work); the ties are given (YtjleeadiadpiaaaGreatDoorTie.lean); close each card by the builder's one call (the guide's Derived/Test/ToyasCard.lean, 'card_holds'). Laid BY PROGRAM, IN A SANDBOX (cutbox-door.mjs). By AI agents, Wed Nov 11 2026. No macro, syntax, notation, axiom, sorry.
-/
import Derived.Test.YtjleeadiadpiaaaGreatDoorRows
import GoSem.ClaimSeven
namespace Go.Proofs.YtjleeadiadpiaaaGreatDoor
namespace Rows

/-- THE TIED CARD OF 'cardcaselaw20.PairsPlay'. -/
def pairsPlayCard : Claim7 := { stood := { row := pairsPlayRow, standIns := [], harness := (true, "4cc07c7a04e9e91e1d317c36d301d3f5bb128666ea8918434c46e141cfbdb9c9"), looks := true }, kinds := [], alts := [], laidByText := true, laidKinds := [.data, .data, .data], laidTests := true, laidLooks := .later }
def PairsPlayCardSaid : Prop := Claim7.holds Tryz.pinned (.plain (OpenSpec.ofChange pairsPlaySpec)) pairsPlayCard

/-- THE TIED CARD OF 'cardcaselaw20.PairsCopies'. -/
def pairsCopiesCard : Claim7 := { stood := { row := pairsCopiesRow, standIns := [], harness := (true, "4cc07c7a04e9e91e1d317c36d301d3f5bb128666ea8918434c46e141cfbdb9c9"), looks := true }, kinds := [], alts := [], laidByText := true, laidKinds := [.data, .data, .data], laidTests := true, laidLooks := .later }
def PairsCopiesCardSaid : Prop := Claim7.holds Tryz.pinned (.plain (OpenSpec.ofChange pairsCopiesSpec)) pairsCopiesCard

/-- THE TIED CARD OF 'cardcaselaw20.PairsNil'. -/
def pairsNilCard : Claim7 := { stood := { row := pairsNilRow, standIns := [], harness := (true, "4cc07c7a04e9e91e1d317c36d301d3f5bb128666ea8918434c46e141cfbdb9c9"), looks := true }, kinds := [], alts := [], laidByText := true, laidKinds := [.data, .data, .data], laidTests := true, laidLooks := .later }
def PairsNilCardSaid : Prop := Claim7.holds Tryz.pinned (.plain (OpenSpec.ofChange pairsNilSpec)) pairsNilCard

/-- THE TIED CARD OF 'cardcaselaw20.PairsReads'. -/
def pairsReadsCard : Claim7 := { stood := { row := pairsReadsRow, standIns := [], harness := (true, "4cc07c7a04e9e91e1d317c36d301d3f5bb128666ea8918434c46e141cfbdb9c9"), looks := true }, kinds := [], alts := [], laidByText := true, laidKinds := [.data, .data, .data, .data, .sentinel, .sentinel, .pinned], laidTests := true, laidLooks := .later }
def PairsReadsCardSaid : Prop := Claim7.holds Tryz.pinned (.plain (OpenSpec.ofChange pairsReadsSpec)) pairsReadsCard

/-- THE TIED CARD OF 'cardcaselaw20.PairsPromise'. -/
def pairsPromiseCard : Claim7 := { stood := { row := pairsPromiseRow, standIns := [], harness := (true, "4cc07c7a04e9e91e1d317c36d301d3f5bb128666ea8918434c46e141cfbdb9c9"), looks := true }, kinds := [], alts := [], laidByText := true, laidKinds := [.data, .data, .data, .data, .sentinel, .sentinel, .pinned], laidTests := true, laidLooks := .later }
def PairsPromiseCardSaid : Prop := Claim7.holds Tryz.pinned (.plain (OpenSpec.ofChange pairsPromiseSpec)) pairsPromiseCard

/-- THE TIED CARD OF 'cardcaselaw20.PairsRows'. -/
def pairsRowsCard : Claim7 := { stood := { row := pairsRowsRow, standIns := [], harness := (true, "4cc07c7a04e9e91e1d317c36d301d3f5bb128666ea8918434c46e141cfbdb9c9"), looks := true }, kinds := [], alts := [], laidByText := true, laidKinds := [.data, .data, .data, .data, .sentinel, .sentinel, .pinned], laidTests := true, laidLooks := .later }
def PairsRowsCardSaid : Prop := Claim7.holds Tryz.pinned (.plain (OpenSpec.ofChange pairsRowsSpec)) pairsRowsCard

/-- THE SECOND FORM's CARD OF 'cardcaselaw20.PairsPlay'. -/
def pairsPlayUptoCard : Claim7 := { stood := { row := pairsPlayUptoRow, standIns := [], harness := (true, "4cc07c7a04e9e91e1d317c36d301d3f5bb128666ea8918434c46e141cfbdb9c9"), looks := true }, kinds := [], alts := [], laidByText := true, laidKinds := [.data, .data, .data], laidTests := true, laidLooks := .later }
def PairsPlayUptoCardSaid : Prop := Claim7.holds Tryz.pinned (.plain (OpenSpec.upto pairsPlaySpec)) pairsPlayUptoCard

/-- THE SECOND FORM's CARD OF 'cardcaselaw20.PairsCopies'. -/
def pairsCopiesUptoCard : Claim7 := { stood := { row := pairsCopiesUptoRow, standIns := [], harness := (true, "4cc07c7a04e9e91e1d317c36d301d3f5bb128666ea8918434c46e141cfbdb9c9"), looks := true }, kinds := [], alts := [], laidByText := true, laidKinds := [.data, .data, .data], laidTests := true, laidLooks := .later }
def PairsCopiesUptoCardSaid : Prop := Claim7.holds Tryz.pinned (.plain (OpenSpec.upto pairsCopiesSpec)) pairsCopiesUptoCard

/-- THE SECOND FORM's CARD OF 'cardcaselaw20.PairsNil'. -/
def pairsNilUptoCard : Claim7 := { stood := { row := pairsNilUptoRow, standIns := [], harness := (true, "4cc07c7a04e9e91e1d317c36d301d3f5bb128666ea8918434c46e141cfbdb9c9"), looks := true }, kinds := [], alts := [], laidByText := true, laidKinds := [.data, .data, .data], laidTests := true, laidLooks := .later }
def PairsNilUptoCardSaid : Prop := Claim7.holds Tryz.pinned (.plain (OpenSpec.upto pairsNilSpec)) pairsNilUptoCard

/-- THE SECOND FORM's CARD OF 'cardcaselaw20.PairsReads'. -/
def pairsReadsUptoCard : Claim7 := { stood := { row := pairsReadsUptoRow, standIns := [], harness := (true, "4cc07c7a04e9e91e1d317c36d301d3f5bb128666ea8918434c46e141cfbdb9c9"), looks := true }, kinds := [], alts := [], laidByText := true, laidKinds := [.data, .data, .data, .data, .sentinel, .sentinel, .pinned], laidTests := true, laidLooks := .later }
def PairsReadsUptoCardSaid : Prop := Claim7.holds Tryz.pinned (.plain (OpenSpec.upto pairsReadsSpec)) pairsReadsUptoCard

/-- THE SECOND FORM's CARD OF 'cardcaselaw20.PairsPromise'. -/
def pairsPromiseUptoCard : Claim7 := { stood := { row := pairsPromiseUptoRow, standIns := [], harness := (true, "4cc07c7a04e9e91e1d317c36d301d3f5bb128666ea8918434c46e141cfbdb9c9"), looks := true }, kinds := [], alts := [], laidByText := true, laidKinds := [.data, .data, .data, .data, .sentinel, .sentinel, .pinned], laidTests := true, laidLooks := .later }
def PairsPromiseUptoCardSaid : Prop := Claim7.holds Tryz.pinned (.plain (OpenSpec.upto pairsPromiseSpec)) pairsPromiseUptoCard

/-- THE SECOND FORM's CARD OF 'cardcaselaw20.PairsRows'. -/
def pairsRowsUptoCard : Claim7 := { stood := { row := pairsRowsUptoRow, standIns := [], harness := (true, "4cc07c7a04e9e91e1d317c36d301d3f5bb128666ea8918434c46e141cfbdb9c9"), looks := true }, kinds := [], alts := [], laidByText := true, laidKinds := [.data, .data, .data, .data, .sentinel, .sentinel, .pinned], laidTests := true, laidLooks := .later }
def PairsRowsUptoCardSaid : Prop := Claim7.holds Tryz.pinned (.plain (OpenSpec.upto pairsRowsSpec)) pairsRowsUptoCard
end Rows
end Go.Proofs.YtjleeadiadpiaaaGreatDoor
