/-
  DERIVED. GIVEN WITH THE SEED: THE CARDS: each row of YtebfcckaicgcfaaDoorRows.lean that lists a variable, with what it lists TIED to the program's text (the seventh form; the later family's looks); each row that meets fmt, with fmt's text TOLD by the authors' own Lean function (tested against real Go, not proved from fmt's source: count such statements apart). THE CARD IS WHAT COUNTS. Prove the row's statement (the work); the ties are given (YtebfcckaicgcfaaDoorTie.lean); close each card by the builder's one call (the guide's Derived/Test/ToyasCard.lean, 'card_holds'). Laid BY PROGRAM, IN A SANDBOX (cutbox-door.mjs). By AI agents, Wed Nov 11 2026. No macro, syntax, notation, axiom, sorry.
-/
import Derived.Test.YtebfcckaicgcfaaDoorRows
import GoSem.ClaimSeven
namespace Go.Proofs.YtebfcckaicgcfaaDoor
namespace Rows

/-- THE TIED CARD OF 'fastilaw46.FactsSpec'. -/
def factsSpecCard : Claim7 := { stood := { row := factsSpecRow, standIns := [], harness := (true, "25e62b46fb574479bbaa49f574636e523fa3f10f860c20300a91c53940a2b552"), looks := false }, kinds := [], alts := [], laidByText := true, laidKinds := [.data], laidTests := true, laidLooks := .later }
def FactsSpecCardSaid : Prop := Claim7.holds Tryd.pinned (.plain (OpenSpec.ofChange factsSpecSpec)) factsSpecCard

/-- THE TIED CARD OF 'fastilaw46.FactsStandingSpec'. -/
def factsStandingSpecCard : Claim7 := { stood := { row := factsStandingSpecRow, standIns := [], harness := (true, "25e62b46fb574479bbaa49f574636e523fa3f10f860c20300a91c53940a2b552"), looks := false }, kinds := [], alts := [], laidByText := true, laidKinds := [.data], laidTests := true, laidLooks := .later }
def FactsStandingSpecCardSaid : Prop := Claim7.holds Tryd.pinned (.plain (OpenSpec.ofChange factsStandingSpecSpec)) factsStandingSpecCard

/-- THE TIED CARD OF 'fastilaw46.FactsLatest'. -/
def factsLatestCard : Claim7 := { stood := { row := factsLatestRow, standIns := [], harness := (true, "25e62b46fb574479bbaa49f574636e523fa3f10f860c20300a91c53940a2b552"), looks := false }, kinds := [], alts := [], laidByText := true, laidKinds := [.data], laidTests := true, laidLooks := .later }
def FactsLatestCardSaid : Prop := Claim7.holds Tryd.pinned (.plain (OpenSpec.ofChange factsLatestSpec)) factsLatestCard

/-- THE TIED CARD OF 'fastilaw46.FactsOrder'. -/
def factsOrderCard : Claim7 := { stood := { row := factsOrderRow, standIns := [], harness := (true, "25e62b46fb574479bbaa49f574636e523fa3f10f860c20300a91c53940a2b552"), looks := false }, kinds := [], alts := [], laidByText := true, laidKinds := [.data], laidTests := true, laidLooks := .later }
def FactsOrderCardSaid : Prop := Claim7.holds Tryd.pinned (.plain (OpenSpec.ofChange factsOrderSpec)) factsOrderCard

/-- THE TIED CARD OF 'fastilaw46.FactsEarly'. -/
def factsEarlyCard : Claim7 := { stood := { row := factsEarlyRow, standIns := [], harness := (true, "25e62b46fb574479bbaa49f574636e523fa3f10f860c20300a91c53940a2b552"), looks := false }, kinds := [], alts := [], laidByText := true, laidKinds := [.data], laidTests := true, laidLooks := .later }
def FactsEarlyCardSaid : Prop := Claim7.holds Tryd.pinned (.plain (OpenSpec.ofChange factsEarlySpec)) factsEarlyCard

/-- THE TIED CARD OF 'fastilaw46.FactsDue'. -/
def factsDueCard : Claim7 := { stood := { row := factsDueRow, standIns := [], harness := (true, "25e62b46fb574479bbaa49f574636e523fa3f10f860c20300a91c53940a2b552"), looks := false }, kinds := [], alts := [], laidByText := true, laidKinds := [.data], laidTests := true, laidLooks := .later }
def FactsDueCardSaid : Prop := Claim7.holds Tryd.pinned (.plain (OpenSpec.ofChange factsDueSpec)) factsDueCard

/-- THE TIED CARD OF 'fastilaw46.FactsWithdrawn'. -/
def factsWithdrawnCard : Claim7 := { stood := { row := factsWithdrawnRow, standIns := [], harness := (true, "25e62b46fb574479bbaa49f574636e523fa3f10f860c20300a91c53940a2b552"), looks := false }, kinds := [], alts := [], laidByText := true, laidKinds := [.data], laidTests := true, laidLooks := .later }
def FactsWithdrawnCardSaid : Prop := Claim7.holds Tryd.pinned (.plain (OpenSpec.ofChange factsWithdrawnSpec)) factsWithdrawnCard

/-- THE SECOND FORM's CARD OF 'fastilaw46.FactsSpec'. -/
def factsSpecUptoCard : Claim7 := { stood := { row := factsSpecUptoRow, standIns := [], harness := (true, "25e62b46fb574479bbaa49f574636e523fa3f10f860c20300a91c53940a2b552"), looks := false }, kinds := [], alts := [], laidByText := true, laidKinds := [.data], laidTests := true, laidLooks := .later }
def FactsSpecUptoCardSaid : Prop := Claim7.holds Tryd.pinned (.plain (OpenSpec.upto factsSpecSpec)) factsSpecUptoCard

/-- THE SECOND FORM's CARD OF 'fastilaw46.FactsStandingSpec'. -/
def factsStandingSpecUptoCard : Claim7 := { stood := { row := factsStandingSpecUptoRow, standIns := [], harness := (true, "25e62b46fb574479bbaa49f574636e523fa3f10f860c20300a91c53940a2b552"), looks := false }, kinds := [], alts := [], laidByText := true, laidKinds := [.data], laidTests := true, laidLooks := .later }
def FactsStandingSpecUptoCardSaid : Prop := Claim7.holds Tryd.pinned (.plain (OpenSpec.upto factsStandingSpecSpec)) factsStandingSpecUptoCard

/-- THE SECOND FORM's CARD OF 'fastilaw46.FactsLatest'. -/
def factsLatestUptoCard : Claim7 := { stood := { row := factsLatestUptoRow, standIns := [], harness := (true, "25e62b46fb574479bbaa49f574636e523fa3f10f860c20300a91c53940a2b552"), looks := false }, kinds := [], alts := [], laidByText := true, laidKinds := [.data], laidTests := true, laidLooks := .later }
def FactsLatestUptoCardSaid : Prop := Claim7.holds Tryd.pinned (.plain (OpenSpec.upto factsLatestSpec)) factsLatestUptoCard

/-- THE SECOND FORM's CARD OF 'fastilaw46.FactsOrder'. -/
def factsOrderUptoCard : Claim7 := { stood := { row := factsOrderUptoRow, standIns := [], harness := (true, "25e62b46fb574479bbaa49f574636e523fa3f10f860c20300a91c53940a2b552"), looks := false }, kinds := [], alts := [], laidByText := true, laidKinds := [.data], laidTests := true, laidLooks := .later }
def FactsOrderUptoCardSaid : Prop := Claim7.holds Tryd.pinned (.plain (OpenSpec.upto factsOrderSpec)) factsOrderUptoCard

/-- THE SECOND FORM's CARD OF 'fastilaw46.FactsEarly'. -/
def factsEarlyUptoCard : Claim7 := { stood := { row := factsEarlyUptoRow, standIns := [], harness := (true, "25e62b46fb574479bbaa49f574636e523fa3f10f860c20300a91c53940a2b552"), looks := false }, kinds := [], alts := [], laidByText := true, laidKinds := [.data], laidTests := true, laidLooks := .later }
def FactsEarlyUptoCardSaid : Prop := Claim7.holds Tryd.pinned (.plain (OpenSpec.upto factsEarlySpec)) factsEarlyUptoCard

/-- THE SECOND FORM's CARD OF 'fastilaw46.FactsDue'. -/
def factsDueUptoCard : Claim7 := { stood := { row := factsDueUptoRow, standIns := [], harness := (true, "25e62b46fb574479bbaa49f574636e523fa3f10f860c20300a91c53940a2b552"), looks := false }, kinds := [], alts := [], laidByText := true, laidKinds := [.data], laidTests := true, laidLooks := .later }
def FactsDueUptoCardSaid : Prop := Claim7.holds Tryd.pinned (.plain (OpenSpec.upto factsDueSpec)) factsDueUptoCard

/-- THE SECOND FORM's CARD OF 'fastilaw46.FactsWithdrawn'. -/
def factsWithdrawnUptoCard : Claim7 := { stood := { row := factsWithdrawnUptoRow, standIns := [], harness := (true, "25e62b46fb574479bbaa49f574636e523fa3f10f860c20300a91c53940a2b552"), looks := false }, kinds := [], alts := [], laidByText := true, laidKinds := [.data], laidTests := true, laidLooks := .later }
def FactsWithdrawnUptoCardSaid : Prop := Claim7.holds Tryd.pinned (.plain (OpenSpec.upto factsWithdrawnSpec)) factsWithdrawnUptoCard
end Rows
end Go.Proofs.YtebfcckaicgcfaaDoor
