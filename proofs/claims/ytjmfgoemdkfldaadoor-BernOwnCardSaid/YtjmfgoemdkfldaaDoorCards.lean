/-
  DERIVED. GIVEN WITH THE SEED: THE CARDS: each row of YtjmfgoemdkfldaaDoorRows.lean that lists a variable, with what it lists TIED to the program's text (the seventh form; the later family's looks); each row that meets fmt, with fmt's text TOLD by the authors' own Lean function (tested against real Go, not proved from fmt's source: count such statements apart). THE CARD IS WHAT COUNTS. Prove the row's statement (the work); the ties are given (YtjmfgoemdkfldaaDoorTie.lean); close each card by the builder's one call (the guide's Derived/Test/ToyasCard.lean, 'card_holds'). Laid BY PROGRAM, IN A SANDBOX (cutbox-door.mjs). By AI agents, Wed Nov 11 2026. No macro, syntax, notation, axiom, sorry.
-/
import Derived.Test.YtjmfgoemdkfldaaDoorRows
import GoSem.ClaimSeven
namespace Go.Proofs.YtjmfgoemdkfldaaDoor
namespace Rows

/-- THE TIED CARD OF 'girouettelaw08.BernCorners'. -/
def bernCornersCard : Claim7 := { stood := { row := bernCornersRow, standIns := [], harness := (true, "3819f32a9c9c6e281b534e33fbe8147536c351aaac837b130a42b063caba00ac"), looks := false }, kinds := [], alts := [], laidByText := true, laidKinds := [.data], laidTests := true, laidLooks := .later }
def BernCornersCardSaid : Prop := Claim7.holds Tryd.pinned (.plain (OpenSpec.ofChange bernCornersSpec)) bernCornersCard

/-- THE TIED CARD OF 'girouettelaw08.BernRoots'. -/
def bernRootsCard : Claim7 := { stood := { row := bernRootsRow, standIns := [], harness := (true, "3819f32a9c9c6e281b534e33fbe8147536c351aaac837b130a42b063caba00ac"), looks := false }, kinds := [], alts := [], laidByText := true, laidKinds := [.data], laidTests := true, laidLooks := .later }
def BernRootsCardSaid : Prop := Claim7.holds Tryd.pinned (.plain (OpenSpec.ofChange bernRootsSpec)) bernRootsCard

/-- THE TIED CARD OF 'girouettelaw08.BernPositive'. -/
def bernPositiveCard : Claim7 := { stood := { row := bernPositiveRow, standIns := [], harness := (true, "3819f32a9c9c6e281b534e33fbe8147536c351aaac837b130a42b063caba00ac"), looks := false }, kinds := [], alts := [], laidByText := true, laidKinds := [.data], laidTests := true, laidLooks := .later }
def BernPositiveCardSaid : Prop := Claim7.holds Tryd.pinned (.plain (OpenSpec.ofChange bernPositiveSpec)) bernPositiveCard

/-- THE TIED CARD OF 'girouettelaw08.BernDescartes'. -/
def bernDescartesCard : Claim7 := { stood := { row := bernDescartesRow, standIns := [], harness := (true, "3819f32a9c9c6e281b534e33fbe8147536c351aaac837b130a42b063caba00ac"), looks := false }, kinds := [], alts := [], laidByText := true, laidKinds := [.data], laidTests := true, laidLooks := .later }
def BernDescartesCardSaid : Prop := Claim7.holds Tryd.pinned (.plain (OpenSpec.ofChange bernDescartesSpec)) bernDescartesCard

/-- THE TIED CARD OF 'girouettelaw08.BernLists'. -/
def bernListsCard : Claim7 := { stood := { row := bernListsRow, standIns := [], harness := (true, "3819f32a9c9c6e281b534e33fbe8147536c351aaac837b130a42b063caba00ac"), looks := false }, kinds := [], alts := [], laidByText := true, laidKinds := [.data], laidTests := true, laidLooks := .later }
def BernListsCardSaid : Prop := Claim7.holds Tryd.pinned (.plain (OpenSpec.ofChange bernListsSpec)) bernListsCard

/-- THE TIED CARD OF 'girouettelaw08.BernLorentz'. -/
def bernLorentzCard : Claim7 := { stood := { row := bernLorentzRow, standIns := [], harness := (true, "3819f32a9c9c6e281b534e33fbe8147536c351aaac837b130a42b063caba00ac"), looks := false }, kinds := [], alts := [], laidByText := true, laidKinds := [.data], laidTests := true, laidLooks := .later }
def BernLorentzCardSaid : Prop := Claim7.holds Tryd.pinned (.plain (OpenSpec.ofChange bernLorentzSpec)) bernLorentzCard

/-- THE TIED CARD OF 'girouettelaw08.BernOwn'. -/
def bernOwnCard : Claim7 := { stood := { row := bernOwnRow, standIns := [], harness := (true, "3819f32a9c9c6e281b534e33fbe8147536c351aaac837b130a42b063caba00ac"), looks := false }, kinds := [], alts := [], laidByText := true, laidKinds := [.data], laidTests := true, laidLooks := .later }
def BernOwnCardSaid : Prop := Claim7.holds Tryd.pinned (.plain (OpenSpec.ofChange bernOwnSpec)) bernOwnCard

/-- THE TIED CARD OF 'girouettelaw08.BernValues'. -/
def bernValuesCard : Claim7 := { stood := { row := bernValuesRow, standIns := [], harness := (true, "3819f32a9c9c6e281b534e33fbe8147536c351aaac837b130a42b063caba00ac"), looks := false }, kinds := [], alts := [], laidByText := true, laidKinds := [.data], laidTests := true, laidLooks := .later }
def BernValuesCardSaid : Prop := Claim7.holds Tryd.pinned (.plain (OpenSpec.ofChange bernValuesSpec)) bernValuesCard

/-- THE TIED CARD OF 'girouettelaw08.BernChecks'. -/
def bernChecksCard : Claim7 := { stood := { row := bernChecksRow, standIns := [], harness := (true, "3819f32a9c9c6e281b534e33fbe8147536c351aaac837b130a42b063caba00ac"), looks := false }, kinds := [], alts := [], laidByText := true, laidKinds := [.data], laidTests := true, laidLooks := .later }
def BernChecksCardSaid : Prop := Claim7.holds Tryd.pinned (.plain (OpenSpec.ofChange bernChecksSpec)) bernChecksCard

/-- THE SECOND FORM's CARD OF 'girouettelaw08.BernCorners'. -/
def bernCornersUptoCard : Claim7 := { stood := { row := bernCornersUptoRow, standIns := [], harness := (true, "3819f32a9c9c6e281b534e33fbe8147536c351aaac837b130a42b063caba00ac"), looks := false }, kinds := [], alts := [], laidByText := true, laidKinds := [.data], laidTests := true, laidLooks := .later }
def BernCornersUptoCardSaid : Prop := Claim7.holds Tryd.pinned (.plain (OpenSpec.upto bernCornersSpec)) bernCornersUptoCard

/-- THE SECOND FORM's CARD OF 'girouettelaw08.BernRoots'. -/
def bernRootsUptoCard : Claim7 := { stood := { row := bernRootsUptoRow, standIns := [], harness := (true, "3819f32a9c9c6e281b534e33fbe8147536c351aaac837b130a42b063caba00ac"), looks := false }, kinds := [], alts := [], laidByText := true, laidKinds := [.data], laidTests := true, laidLooks := .later }
def BernRootsUptoCardSaid : Prop := Claim7.holds Tryd.pinned (.plain (OpenSpec.upto bernRootsSpec)) bernRootsUptoCard

/-- THE SECOND FORM's CARD OF 'girouettelaw08.BernPositive'. -/
def bernPositiveUptoCard : Claim7 := { stood := { row := bernPositiveUptoRow, standIns := [], harness := (true, "3819f32a9c9c6e281b534e33fbe8147536c351aaac837b130a42b063caba00ac"), looks := false }, kinds := [], alts := [], laidByText := true, laidKinds := [.data], laidTests := true, laidLooks := .later }
def BernPositiveUptoCardSaid : Prop := Claim7.holds Tryd.pinned (.plain (OpenSpec.upto bernPositiveSpec)) bernPositiveUptoCard

/-- THE SECOND FORM's CARD OF 'girouettelaw08.BernDescartes'. -/
def bernDescartesUptoCard : Claim7 := { stood := { row := bernDescartesUptoRow, standIns := [], harness := (true, "3819f32a9c9c6e281b534e33fbe8147536c351aaac837b130a42b063caba00ac"), looks := false }, kinds := [], alts := [], laidByText := true, laidKinds := [.data], laidTests := true, laidLooks := .later }
def BernDescartesUptoCardSaid : Prop := Claim7.holds Tryd.pinned (.plain (OpenSpec.upto bernDescartesSpec)) bernDescartesUptoCard

/-- THE SECOND FORM's CARD OF 'girouettelaw08.BernLists'. -/
def bernListsUptoCard : Claim7 := { stood := { row := bernListsUptoRow, standIns := [], harness := (true, "3819f32a9c9c6e281b534e33fbe8147536c351aaac837b130a42b063caba00ac"), looks := false }, kinds := [], alts := [], laidByText := true, laidKinds := [.data], laidTests := true, laidLooks := .later }
def BernListsUptoCardSaid : Prop := Claim7.holds Tryd.pinned (.plain (OpenSpec.upto bernListsSpec)) bernListsUptoCard

/-- THE SECOND FORM's CARD OF 'girouettelaw08.BernLorentz'. -/
def bernLorentzUptoCard : Claim7 := { stood := { row := bernLorentzUptoRow, standIns := [], harness := (true, "3819f32a9c9c6e281b534e33fbe8147536c351aaac837b130a42b063caba00ac"), looks := false }, kinds := [], alts := [], laidByText := true, laidKinds := [.data], laidTests := true, laidLooks := .later }
def BernLorentzUptoCardSaid : Prop := Claim7.holds Tryd.pinned (.plain (OpenSpec.upto bernLorentzSpec)) bernLorentzUptoCard

/-- THE SECOND FORM's CARD OF 'girouettelaw08.BernOwn'. -/
def bernOwnUptoCard : Claim7 := { stood := { row := bernOwnUptoRow, standIns := [], harness := (true, "3819f32a9c9c6e281b534e33fbe8147536c351aaac837b130a42b063caba00ac"), looks := false }, kinds := [], alts := [], laidByText := true, laidKinds := [.data], laidTests := true, laidLooks := .later }
def BernOwnUptoCardSaid : Prop := Claim7.holds Tryd.pinned (.plain (OpenSpec.upto bernOwnSpec)) bernOwnUptoCard

/-- THE SECOND FORM's CARD OF 'girouettelaw08.BernValues'. -/
def bernValuesUptoCard : Claim7 := { stood := { row := bernValuesUptoRow, standIns := [], harness := (true, "3819f32a9c9c6e281b534e33fbe8147536c351aaac837b130a42b063caba00ac"), looks := false }, kinds := [], alts := [], laidByText := true, laidKinds := [.data], laidTests := true, laidLooks := .later }
def BernValuesUptoCardSaid : Prop := Claim7.holds Tryd.pinned (.plain (OpenSpec.upto bernValuesSpec)) bernValuesUptoCard

/-- THE SECOND FORM's CARD OF 'girouettelaw08.BernChecks'. -/
def bernChecksUptoCard : Claim7 := { stood := { row := bernChecksUptoRow, standIns := [], harness := (true, "3819f32a9c9c6e281b534e33fbe8147536c351aaac837b130a42b063caba00ac"), looks := false }, kinds := [], alts := [], laidByText := true, laidKinds := [.data], laidTests := true, laidLooks := .later }
def BernChecksUptoCardSaid : Prop := Claim7.holds Tryd.pinned (.plain (OpenSpec.upto bernChecksSpec)) bernChecksUptoCard
end Rows
end Go.Proofs.YtjmfgoemdkfldaaDoor
