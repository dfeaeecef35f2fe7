/-
  DERIVED. GIVEN WITH THE SEED: THE CARDS: each row of YtfdlhbdcejlopaaGreatDoorRows.lean that lists a variable, with what it lists TIED to the program's text (the seventh form; the later family's looks); each row that meets fmt, with fmt's text TOLD by the authors' own Lean function (tested against real Go, not proved from fmt's source: count such statements apart). THE CARD IS WHAT COUNTS. Prove the row's statement (the work); the ties are given (YtfdlhbdcejlopaaGreatDoorTie.lean); close each card by the builder's one call (the guide's Derived/Test/ToyasCard.lean, 'card_holds'). Laid BY PROGRAM, IN A SANDBOX (cutbox-door.mjs). By AI agents, Wed Nov 11 2026. No macro, syntax, notation, axiom, sorry.
-/
import Derived.Test.YtfdlhbdcejlopaaGreatDoorRows
import GoSem.ClaimSeven
namespace Go.Proofs.YtfdlhbdcejlopaaGreatDoor
namespace Rows

/-- THE TIED CARD OF 'nacellelaw08.MarketChecks'. -/
def marketChecksCard : Claim7 := { stood := { row := marketChecksRow, standIns := [], harness := (true, "79f366469f940c89362884395cc7173ec48ecff25fbd27ebfd1c884a9a1663df"), looks := false }, kinds := [], alts := [], laidByText := true, laidKinds := [.data, .data, .data], laidTests := true, laidLooks := .later }
def MarketChecksCardSaid : Prop := Claim7.holds Tryz.pinned (.plain (OpenSpec.ofChange marketChecksSpec)) marketChecksCard

/-- THE TIED CARD OF 'nacellelaw08.MarketOffers'. -/
def marketOffersCard : Claim7 := { stood := { row := marketOffersRow, standIns := [], harness := (true, "79f366469f940c89362884395cc7173ec48ecff25fbd27ebfd1c884a9a1663df"), looks := false }, kinds := [], alts := [], laidByText := true, laidKinds := [.data, .data, .data], laidTests := true, laidLooks := .later }
def MarketOffersCardSaid : Prop := Claim7.holds Tryz.pinned (.plain (OpenSpec.ofChange marketOffersSpec)) marketOffersCard

/-- THE TIED CARD OF 'nacellelaw08.MarketCurtails'. -/
def marketCurtailsCard : Claim7 := { stood := { row := marketCurtailsRow, standIns := [], harness := (true, "79f366469f940c89362884395cc7173ec48ecff25fbd27ebfd1c884a9a1663df"), looks := false }, kinds := [], alts := [], laidByText := true, laidKinds := [.data, .data, .data], laidTests := true, laidLooks := .later }
def MarketCurtailsCardSaid : Prop := Claim7.holds Tryz.pinned (.plain (OpenSpec.ofChange marketCurtailsSpec)) marketCurtailsCard

/-- THE TIED CARD OF 'nacellelaw08.MarketClears'. -/
def marketClearsCard : Claim7 := { stood := { row := marketClearsRow, standIns := [], harness := (true, "79f366469f940c89362884395cc7173ec48ecff25fbd27ebfd1c884a9a1663df"), looks := false }, kinds := [], alts := [], laidByText := true, laidKinds := [.data, .data, .data], laidTests := true, laidLooks := .later }
def MarketClearsCardSaid : Prop := Claim7.holds Tryz.pinned (.plain (OpenSpec.ofChange marketClearsSpec)) marketClearsCard

/-- THE TIED CARD OF 'nacellelaw08.MarketCritical'. -/
def marketCriticalCard : Claim7 := { stood := { row := marketCriticalRow, standIns := [], harness := (true, "79f366469f940c89362884395cc7173ec48ecff25fbd27ebfd1c884a9a1663df"), looks := false }, kinds := [], alts := [], laidByText := true, laidKinds := [.data, .data, .data], laidTests := true, laidLooks := .later }
def MarketCriticalCardSaid : Prop := Claim7.holds Tryz.pinned (.plain (OpenSpec.ofChange marketCriticalSpec)) marketCriticalCard

/-- THE TIED CARD OF 'nacellelaw08.MarketShares'. -/
def marketSharesCard : Claim7 := { stood := { row := marketSharesRow, standIns := [], harness := (true, "79f366469f940c89362884395cc7173ec48ecff25fbd27ebfd1c884a9a1663df"), looks := false }, kinds := [], alts := [], laidByText := true, laidKinds := [.data, .data, .data], laidTests := true, laidLooks := .later }
def MarketSharesCardSaid : Prop := Claim7.holds Tryz.pinned (.plain (OpenSpec.ofChange marketSharesSpec)) marketSharesCard

/-- THE TIED CARD OF 'nacellelaw08.MarketMerit'. -/
def marketMeritCard : Claim7 := { stood := { row := marketMeritRow, standIns := [], harness := (true, "79f366469f940c89362884395cc7173ec48ecff25fbd27ebfd1c884a9a1663df"), looks := false }, kinds := [], alts := [], laidByText := true, laidKinds := [.data, .data, .data], laidTests := true, laidLooks := .later }
def MarketMeritCardSaid : Prop := Claim7.holds Tryz.pinned (.plain (OpenSpec.ofChange marketMeritSpec)) marketMeritCard

/-- THE TIED CARD OF 'nacellelaw08.MarketSettles'. -/
def marketSettlesCard : Claim7 := { stood := { row := marketSettlesRow, standIns := [], harness := (true, "79f366469f940c89362884395cc7173ec48ecff25fbd27ebfd1c884a9a1663df"), looks := false }, kinds := [], alts := [], laidByText := true, laidKinds := [.data, .data, .data], laidTests := true, laidLooks := .later }
def MarketSettlesCardSaid : Prop := Claim7.holds Tryz.pinned (.plain (OpenSpec.ofChange marketSettlesSpec)) marketSettlesCard

/-- THE TIED CARD OF 'nacellelaw08.MarketBooks'. -/
def marketBooksCard : Claim7 := { stood := { row := marketBooksRow, standIns := [], harness := (true, "79f366469f940c89362884395cc7173ec48ecff25fbd27ebfd1c884a9a1663df"), looks := false }, kinds := [], alts := [], laidByText := true, laidKinds := [.data, .data, .data], laidTests := true, laidLooks := .later }
def MarketBooksCardSaid : Prop := Claim7.holds Tryz.pinned (.plain (OpenSpec.ofChange marketBooksSpec)) marketBooksCard

/-- THE TIED CARD OF 'nacellelaw08.MarketStores'. -/
def marketStoresCard : Claim7 := { stood := { row := marketStoresRow, standIns := [], harness := (true, "79f366469f940c89362884395cc7173ec48ecff25fbd27ebfd1c884a9a1663df"), looks := false }, kinds := [], alts := [], laidByText := true, laidKinds := [.data, .data, .data], laidTests := true, laidLooks := .later }
def MarketStoresCardSaid : Prop := Claim7.holds Tryz.pinned (.plain (OpenSpec.ofChange marketStoresSpec)) marketStoresCard

/-- THE TIED CARD OF 'nacellelaw08.MarketKeeps'. -/
def marketKeepsCard : Claim7 := { stood := { row := marketKeepsRow, standIns := [], harness := (true, "79f366469f940c89362884395cc7173ec48ecff25fbd27ebfd1c884a9a1663df"), looks := false }, kinds := [], alts := [], laidByText := true, laidKinds := [.data, .data, .data], laidTests := true, laidLooks := .later }
def MarketKeepsCardSaid : Prop := Claim7.holds Tryz.pinned (.plain (OpenSpec.ofChange marketKeepsSpec)) marketKeepsCard

/-- THE TIED CARD OF 'nacellelaw08.MarketQuantiles'. -/
def marketQuantilesCard : Claim7 := { stood := { row := marketQuantilesRow, standIns := [], harness := (true, "79f366469f940c89362884395cc7173ec48ecff25fbd27ebfd1c884a9a1663df"), looks := false }, kinds := [], alts := [], laidByText := true, laidKinds := [.data, .data, .data], laidTests := true, laidLooks := .later }
def MarketQuantilesCardSaid : Prop := Claim7.holds Tryz.pinned (.plain (OpenSpec.ofChange marketQuantilesSpec)) marketQuantilesCard

/-- THE TIED CARD OF 'nacellelaw08.MarketTexts'. -/
def marketTextsCard : Claim7 := { stood := { row := marketTextsRow, standIns := [], harness := (true, "79f366469f940c89362884395cc7173ec48ecff25fbd27ebfd1c884a9a1663df"), looks := false }, kinds := [], alts := [], laidByText := true, laidKinds := [.data, .data, .data, .data, .pinned], laidTests := true, laidLooks := .later }
def MarketTextsCardSaid : Prop := Claim7.holds Tryz.pinned (.plain (OpenSpec.ofChange marketTextsSpec)) marketTextsCard

/-- THE TIED CARD OF 'nacellelaw08.MarketReads'. -/
def marketReadsCard : Claim7 := { stood := { row := marketReadsRow, standIns := [], harness := (true, "79f366469f940c89362884395cc7173ec48ecff25fbd27ebfd1c884a9a1663df"), looks := false }, kinds := [], alts := [], laidByText := true, laidKinds := [.data, .data, .data, .data, .pinned], laidTests := true, laidLooks := .later }
def MarketReadsCardSaid : Prop := Claim7.holds Tryz.pinned (.plain (OpenSpec.ofChange marketReadsSpec)) marketReadsCard

/-- THE SECOND FORM's CARD OF 'nacellelaw08.MarketChecks'. -/
def marketChecksUptoCard : Claim7 := { stood := { row := marketChecksUptoRow, standIns := [], harness := (true, "79f366469f940c89362884395cc7173ec48ecff25fbd27ebfd1c884a9a1663df"), looks := false }, kinds := [], alts := [], laidByText := true, laidKinds := [.data, .data, .data], laidTests := true, laidLooks := .later }
def MarketChecksUptoCardSaid : Prop := Claim7.holds Tryz.pinned (.plain (OpenSpec.upto marketChecksSpec)) marketChecksUptoCard

/-- THE SECOND FORM's CARD OF 'nacellelaw08.MarketOffers'. -/
def marketOffersUptoCard : Claim7 := { stood := { row := marketOffersUptoRow, standIns := [], harness := (true, "79f366469f940c89362884395cc7173ec48ecff25fbd27ebfd1c884a9a1663df"), looks := false }, kinds := [], alts := [], laidByText := true, laidKinds := [.data, .data, .data], laidTests := true, laidLooks := .later }
def MarketOffersUptoCardSaid : Prop := Claim7.holds Tryz.pinned (.plain (OpenSpec.upto marketOffersSpec)) marketOffersUptoCard

/-- THE SECOND FORM's CARD OF 'nacellelaw08.MarketCurtails'. -/
def marketCurtailsUptoCard : Claim7 := { stood := { row := marketCurtailsUptoRow, standIns := [], harness := (true, "79f366469f940c89362884395cc7173ec48ecff25fbd27ebfd1c884a9a1663df"), looks := false }, kinds := [], alts := [], laidByText := true, laidKinds := [.data, .data, .data], laidTests := true, laidLooks := .later }
def MarketCurtailsUptoCardSaid : Prop := Claim7.holds Tryz.pinned (.plain (OpenSpec.upto marketCurtailsSpec)) marketCurtailsUptoCard

/-- THE SECOND FORM's CARD OF 'nacellelaw08.MarketClears'. -/
def marketClearsUptoCard : Claim7 := { stood := { row := marketClearsUptoRow, standIns := [], harness := (true, "79f366469f940c89362884395cc7173ec48ecff25fbd27ebfd1c884a9a1663df"), looks := false }, kinds := [], alts := [], laidByText := true, laidKinds := [.data, .data, .data], laidTests := true, laidLooks := .later }
def MarketClearsUptoCardSaid : Prop := Claim7.holds Tryz.pinned (.plain (OpenSpec.upto marketClearsSpec)) marketClearsUptoCard

/-- THE SECOND FORM's CARD OF 'nacellelaw08.MarketCritical'. -/
def marketCriticalUptoCard : Claim7 := { stood := { row := marketCriticalUptoRow, standIns := [], harness := (true, "79f366469f940c89362884395cc7173ec48ecff25fbd27ebfd1c884a9a1663df"), looks := false }, kinds := [], alts := [], laidByText := true, laidKinds := [.data, .data, .data], laidTests := true, laidLooks := .later }
def MarketCriticalUptoCardSaid : Prop := Claim7.holds Tryz.pinned (.plain (OpenSpec.upto marketCriticalSpec)) marketCriticalUptoCard

/-- THE SECOND FORM's CARD OF 'nacellelaw08.MarketShares'. -/
def marketSharesUptoCard : Claim7 := { stood := { row := marketSharesUptoRow, standIns := [], harness := (true, "79f366469f940c89362884395cc7173ec48ecff25fbd27ebfd1c884a9a1663df"), looks := false }, kinds := [], alts := [], laidByText := true, laidKinds := [.data, .data, .data], laidTests := true, laidLooks := .later }
def MarketSharesUptoCardSaid : Prop := Claim7.holds Tryz.pinned (.plain (OpenSpec.upto marketSharesSpec)) marketSharesUptoCard

/-- THE SECOND FORM's CARD OF 'nacellelaw08.MarketMerit'. -/
def marketMeritUptoCard : Claim7 := { stood := { row := marketMeritUptoRow, standIns := [], harness := (true, "79f366469f940c89362884395cc7173ec48ecff25fbd27ebfd1c884a9a1663df"), looks := false }, kinds := [], alts := [], laidByText := true, laidKinds := [.data, .data, .data], laidTests := true, laidLooks := .later }
def MarketMeritUptoCardSaid : Prop := Claim7.holds Tryz.pinned (.plain (OpenSpec.upto marketMeritSpec)) marketMeritUptoCard

/-- THE SECOND FORM's CARD OF 'nacellelaw08.MarketSettles'. -/
def marketSettlesUptoCard : Claim7 := { stood := { row := marketSettlesUptoRow, standIns := [], harness := (true, "79f366469f940c89362884395cc7173ec48ecff25fbd27ebfd1c884a9a1663df"), looks := false }, kinds := [], alts := [], laidByText := true, laidKinds := [.data, .data, .data], laidTests := true, laidLooks := .later }
def MarketSettlesUptoCardSaid : Prop := Claim7.holds Tryz.pinned (.plain (OpenSpec.upto marketSettlesSpec)) marketSettlesUptoCard

/-- THE SECOND FORM's CARD OF 'nacellelaw08.MarketBooks'. -/
def marketBooksUptoCard : Claim7 := { stood := { row := marketBooksUptoRow, standIns := [], harness := (true, "79f366469f940c89362884395cc7173ec48ecff25fbd27ebfd1c884a9a1663df"), looks := false }, kinds := [], alts := [], laidByText := true, laidKinds := [.data, .data, .data], laidTests := true, laidLooks := .later }
def MarketBooksUptoCardSaid : Prop := Claim7.holds Tryz.pinned (.plain (OpenSpec.upto marketBooksSpec)) marketBooksUptoCard

/-- THE SECOND FORM's CARD OF 'nacellelaw08.MarketStores'. -/
def marketStoresUptoCard : Claim7 := { stood := { row := marketStoresUptoRow, standIns := [], harness := (true, "79f366469f940c89362884395cc7173ec48ecff25fbd27ebfd1c884a9a1663df"), looks := false }, kinds := [], alts := [], laidByText := true, laidKinds := [.data, .data, .data], laidTests := true, laidLooks := .later }
def MarketStoresUptoCardSaid : Prop := Claim7.holds Tryz.pinned (.plain (OpenSpec.upto marketStoresSpec)) marketStoresUptoCard

/-- THE SECOND FORM's CARD OF 'nacellelaw08.MarketKeeps'. -/
def marketKeepsUptoCard : Claim7 := { stood := { row := marketKeepsUptoRow, standIns := [], harness := (true, "79f366469f940c89362884395cc7173ec48ecff25fbd27ebfd1c884a9a1663df"), looks := false }, kinds := [], alts := [], laidByText := true, laidKinds := [.data, .data, .data], laidTests := true, laidLooks := .later }
def MarketKeepsUptoCardSaid : Prop := Claim7.holds Tryz.pinned (.plain (OpenSpec.upto marketKeepsSpec)) marketKeepsUptoCard

/-- THE SECOND FORM's CARD OF 'nacellelaw08.MarketQuantiles'. -/
def marketQuantilesUptoCard : Claim7 := { stood := { row := marketQuantilesUptoRow, standIns := [], harness := (true, "79f366469f940c89362884395cc7173ec48ecff25fbd27ebfd1c884a9a1663df"), looks := false }, kinds := [], alts := [], laidByText := true, laidKinds := [.data, .data, .data], laidTests := true, laidLooks := .later }
def MarketQuantilesUptoCardSaid : Prop := Claim7.holds Tryz.pinned (.plain (OpenSpec.upto marketQuantilesSpec)) marketQuantilesUptoCard

/-- THE SECOND FORM's CARD OF 'nacellelaw08.MarketTexts'. -/
def marketTextsUptoCard : Claim7 := { stood := { row := marketTextsUptoRow, standIns := [], harness := (true, "79f366469f940c89362884395cc7173ec48ecff25fbd27ebfd1c884a9a1663df"), looks := false }, kinds := [], alts := [], laidByText := true, laidKinds := [.data, .data, .data, .data, .pinned], laidTests := true, laidLooks := .later }
def MarketTextsUptoCardSaid : Prop := Claim7.holds Tryz.pinned (.plain (OpenSpec.upto marketTextsSpec)) marketTextsUptoCard

/-- THE SECOND FORM's CARD OF 'nacellelaw08.MarketReads'. -/
def marketReadsUptoCard : Claim7 := { stood := { row := marketReadsUptoRow, standIns := [], harness := (true, "79f366469f940c89362884395cc7173ec48ecff25fbd27ebfd1c884a9a1663df"), looks := false }, kinds := [], alts := [], laidByText := true, laidKinds := [.data, .data, .data, .data, .pinned], laidTests := true, laidLooks := .later }
def MarketReadsUptoCardSaid : Prop := Claim7.holds Tryz.pinned (.plain (OpenSpec.upto marketReadsSpec)) marketReadsUptoCard
end Rows
end Go.Proofs.YtfdlhbdcejlopaaGreatDoor
