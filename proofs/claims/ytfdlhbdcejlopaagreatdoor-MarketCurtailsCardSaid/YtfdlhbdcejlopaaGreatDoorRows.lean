/-
  NARROWER THAN 'FOR EVERY INPUT', by the rows' own cells (each row's printed sentence says how): MarketChecks: laid · MarketOffers: laid · MarketCurtails: laid · MarketClears: laid · MarketCritical: laid · MarketShares: laid · MarketMerit: laid · MarketSettles: laid · MarketBooks: laid · MarketStores: laid · MarketKeeps: laid · MarketQuantiles: laid · MarketTexts: laid · MarketReads: laid.
  DERIVED. THE GIVEN ROWS OF THIS SEAT. 14 by the template 'for every input the law returns true; each argument reads behind the call as it read before'; 0 by the template 'total and deterministic' (their statements: YtfdlhbdcejlopaaGreatDoorTotals.lean).
  GIVEN WITH THE SEED: the statements are not yours to turn. If you find one false, say at which input.
  Laid BY PROGRAM, IN A SANDBOX (cutbox-rows.mjs): the forced cells as the released guide's own fill.sh prints them over the translation 2b7fb9b8ff97132c… (all of the seat's roots in one cut). By AI agents, Wed Nov 11 2026. No macro, syntax, notation, axiom, sorry.
-/
import Derived.Test.YtfdlhbdcejlopaaGreatDoorChecked
import GoSem.PinnedTables
import GoSem.Claim
import GoSem.ClaimJoined
import GoSem.ClaimMapViews
import Derived.JoinedTies
import Derived.KernelRfl
namespace Go.Proofs.YtfdlhbdcejlopaaGreatDoor
/- THE CELL 'sum', in the pinned program and in every row, IS THE sha256 OF THE DUMP (.gsa) THAT YtfdlhbdcejlopaaGreatDoorProg.lean LOADS. Nothing in Lean hashes anything: it is a label: what it is worth is what the hold of that sum in a sandbox is worth. -/
noncomputable def Tryz.pinned : Pinned := { name := "ytfdlhbdcejlopaagreatdoor", sum := "2b7fb9b8ff97132c512932022718dad1186b6a4d1abfe19062a46f4699c83271", checked := Tryz.checked }
namespace Rows
def none {H : Type} : Left H := { results := [], args := [] }

/- WHAT THE LISTED PACKAGE-LEVEL VARIABLES READ AS WHEN THE CALL BEGINS. Each datum BY PROGRAM (the guide's laid-datum.mjs) off the statement by which the dump's own 'gosem.cut.vars' lays the variable. In a bare row this is a premise. The card (YtfdlhbdcejlopaaGreatDoorCards.lean) ties it to the program's text. -/
def laid_math_bits_deBruijn32tab {H : Type} : DataW H := .agg [.lit (.int .u8 0), .lit (.int .u8 1), .lit (.int .u8 28), .lit (.int .u8 2), .lit (.int .u8 29), .lit (.int .u8 14), .lit (.int .u8 24), .lit (.int .u8 3), .lit (.int .u8 30), .lit (.int .u8 22), .lit (.int .u8 20), .lit (.int .u8 15), .lit (.int .u8 25), .lit (.int .u8 17), .lit (.int .u8 4), .lit (.int .u8 8), .lit (.int .u8 31), .lit (.int .u8 27), .lit (.int .u8 13), .lit (.int .u8 23), .lit (.int .u8 21), .lit (.int .u8 19), .lit (.int .u8 16), .lit (.int .u8 7), .lit (.int .u8 26), .lit (.int .u8 12), .lit (.int .u8 18), .lit (.int .u8 6), .lit (.int .u8 11), .lit (.int .u8 5), .lit (.int .u8 10), .lit (.int .u8 9)]
def laid_math_bits_deBruijn64tab {H : Type} : DataW H := .agg [.lit (.int .u8 0), .lit (.int .u8 1), .lit (.int .u8 56), .lit (.int .u8 2), .lit (.int .u8 57), .lit (.int .u8 49), .lit (.int .u8 28), .lit (.int .u8 3), .lit (.int .u8 61), .lit (.int .u8 58), .lit (.int .u8 42), .lit (.int .u8 50), .lit (.int .u8 38), .lit (.int .u8 29), .lit (.int .u8 17), .lit (.int .u8 4), .lit (.int .u8 62), .lit (.int .u8 47), .lit (.int .u8 59), .lit (.int .u8 36), .lit (.int .u8 45), .lit (.int .u8 43), .lit (.int .u8 51), .lit (.int .u8 22), .lit (.int .u8 53), .lit (.int .u8 39), .lit (.int .u8 33), .lit (.int .u8 30), .lit (.int .u8 24), .lit (.int .u8 18), .lit (.int .u8 12), .lit (.int .u8 5), .lit (.int .u8 63), .lit (.int .u8 55), .lit (.int .u8 48), .lit (.int .u8 27), .lit (.int .u8 60), .lit (.int .u8 41), .lit (.int .u8 37), .lit (.int .u8 16), .lit (.int .u8 46), .lit (.int .u8 35), .lit (.int .u8 44), .lit (.int .u8 21), .lit (.int .u8 52), .lit (.int .u8 32), .lit (.int .u8 23), .lit (.int .u8 11), .lit (.int .u8 54), .lit (.int .u8 26), .lit (.int .u8 40), .lit (.int .u8 15), .lit (.int .u8 34), .lit (.int .u8 20), .lit (.int .u8 31), .lit (.int .u8 10), .lit (.int .u8 25), .lit (.int .u8 14), .lit (.int .u8 19), .lit (.int .u8 9), .lit (.int .u8 13), .lit (.int .u8 8), .lit (.int .u8 7), .lit (.int .u8 6)]
def laid_internal_strconv_uint64pow10 {H : Type} : DataW H := .agg [.lit (.int .u64 1), .lit (.int .u64 10), .lit (.int .u64 100), .lit (.int .u64 1000), .lit (.int .u64 10000), .lit (.int .u64 100000), .lit (.int .u64 1000000), .lit (.int .u64 10000000), .lit (.int .u64 100000000), .lit (.int .u64 1000000000), .lit (.int .u64 10000000000), .lit (.int .u64 100000000000), .lit (.int .u64 1000000000000), .lit (.int .u64 10000000000000), .lit (.int .u64 100000000000000), .lit (.int .u64 1000000000000000), .lit (.int .u64 10000000000000000), .lit (.int .u64 100000000000000000), .lit (.int .u64 1000000000000000000), .lit (.int .u64 10000000000000000000)]
def laid_unicode_utf8_acceptRanges {H : Type} : DataW H := .agg [.agg [.lit (.int .u8 128), .lit (.int .u8 191)], .agg [.lit (.int .u8 160), .lit (.int .u8 191)], .agg [.lit (.int .u8 128), .lit (.int .u8 159)], .agg [.lit (.int .u8 144), .lit (.int .u8 191)], .agg [.lit (.int .u8 128), .lit (.int .u8 143)], .agg [.lit (.int .u8 0), .lit (.int .u8 0)], .agg [.lit (.int .u8 0), .lit (.int .u8 0)], .agg [.lit (.int .u8 0), .lit (.int .u8 0)], .agg [.lit (.int .u8 0), .lit (.int .u8 0)], .agg [.lit (.int .u8 0), .lit (.int .u8 0)], .agg [.lit (.int .u8 0), .lit (.int .u8 0)], .agg [.lit (.int .u8 0), .lit (.int .u8 0)], .agg [.lit (.int .u8 0), .lit (.int .u8 0)], .agg [.lit (.int .u8 0), .lit (.int .u8 0)], .agg [.lit (.int .u8 0), .lit (.int .u8 0)], .agg [.lit (.int .u8 0), .lit (.int .u8 0)]]
/-- One of Go's own tables, pinned by name: the form's constant. -/
def laid_unicode_utf8_first : DataW Unit := Go.Pinned.utf8First

/-- 'nacellelaw08.MarketChecks': WHATEVER THE INPUT: true; the input reads as it did. -/
def marketChecksSpec : ChangeSpec := { name := "marketChecks", fn := fun _ => fun
  | [d1, d2, d3] => { results := [.lit (.bool true)], args := [d1, d2, d3] }
  | _ => none }
def marketChecksRow : OpenClaim := { program := "ytfdlhbdcejlopaagreatdoor", sum := "2b7fb9b8ff97132c512932022718dad1186b6a4d1abfe19062a46f4699c83271", func := "nacelle/nacellelaw08.MarketChecks", spec := "marketChecks", inPlace := ["internal/abi.NoEscape", "internal/bytealg.MakeNoZero"], unfollowed := true, recurses := true, named := ["internal/strconv.uint64pow10", "math/bits.deBruijn32tab", "math/bits.deBruijn64tab"], plainKeys := false, apart := false, laid := [("math/bits.deBruijn32tab", laid_math_bits_deBruijn32tab), ("math/bits.deBruijn64tab", laid_math_bits_deBruijn64tab), ("internal/strconv.uint64pow10", laid_internal_strconv_uint64pow10)] }
def MarketChecksSaid : Prop := marketChecksRow.holds Tryz.pinned (OpenSpec.ofChange marketChecksSpec)

/-- ITS FALSE NEIGHBOUR: 'it returns false'. Refute it at one input. -/
def marketChecksWrong : ChangeSpec := { name := "marketChecks", fn := fun _ => fun
  | [d1, d2, d3] => { results := [.lit (.bool false)], args := [d1, d2, d3] }
  | _ => none }
def MarketChecksWrongFalsely : Prop := marketChecksRow.holds Tryz.pinned (OpenSpec.ofChange marketChecksWrong)

/-- 'nacellelaw08.MarketOffers': WHATEVER THE INPUT: true; the input reads as it did. -/
def marketOffersSpec : ChangeSpec := { name := "marketOffers", fn := fun _ => fun
  | [d1, d2, d3] => { results := [.lit (.bool true)], args := [d1, d2, d3] }
  | _ => none }
def marketOffersRow : OpenClaim := { program := "ytfdlhbdcejlopaagreatdoor", sum := "2b7fb9b8ff97132c512932022718dad1186b6a4d1abfe19062a46f4699c83271", func := "nacelle/nacellelaw08.MarketOffers", spec := "marketOffers", inPlace := ["internal/abi.NoEscape", "internal/bytealg.MakeNoZero"], unfollowed := true, recurses := true, named := ["internal/strconv.uint64pow10", "math/bits.deBruijn32tab", "math/bits.deBruijn64tab"], plainKeys := false, apart := false, laid := [("math/bits.deBruijn32tab", laid_math_bits_deBruijn32tab), ("math/bits.deBruijn64tab", laid_math_bits_deBruijn64tab), ("internal/strconv.uint64pow10", laid_internal_strconv_uint64pow10)] }
def MarketOffersSaid : Prop := marketOffersRow.holds Tryz.pinned (OpenSpec.ofChange marketOffersSpec)

/-- ITS FALSE NEIGHBOUR: 'it returns false'. Refute it at one input. -/
def marketOffersWrong : ChangeSpec := { name := "marketOffers", fn := fun _ => fun
  | [d1, d2, d3] => { results := [.lit (.bool false)], args := [d1, d2, d3] }
  | _ => none }
def MarketOffersWrongFalsely : Prop := marketOffersRow.holds Tryz.pinned (OpenSpec.ofChange marketOffersWrong)

/-- 'nacellelaw08.MarketCurtails': WHATEVER THE INPUT: true; the input reads as it did. -/
def marketCurtailsSpec : ChangeSpec := { name := "marketCurtails", fn := fun _ => fun
  | [d1, d2] => { results := [.lit (.bool true)], args := [d1, d2] }
  | _ => none }
def marketCurtailsRow : OpenClaim := { program := "ytfdlhbdcejlopaagreatdoor", sum := "2b7fb9b8ff97132c512932022718dad1186b6a4d1abfe19062a46f4699c83271", func := "nacelle/nacellelaw08.MarketCurtails", spec := "marketCurtails", inPlace := ["internal/abi.NoEscape", "internal/bytealg.MakeNoZero"], unfollowed := true, recurses := true, named := ["internal/strconv.uint64pow10", "math/bits.deBruijn32tab", "math/bits.deBruijn64tab"], plainKeys := false, apart := false, laid := [("math/bits.deBruijn32tab", laid_math_bits_deBruijn32tab), ("math/bits.deBruijn64tab", laid_math_bits_deBruijn64tab), ("internal/strconv.uint64pow10", laid_internal_strconv_uint64pow10)] }
def MarketCurtailsSaid : Prop := marketCurtailsRow.holds Tryz.pinned (OpenSpec.ofChange marketCurtailsSpec)

/-- ITS FALSE NEIGHBOUR: 'it returns false'. Refute it at one input. -/
def marketCurtailsWrong : ChangeSpec := { name := "marketCurtails", fn := fun _ => fun
  | [d1, d2] => { results := [.lit (.bool false)], args := [d1, d2] }
  | _ => none }
def MarketCurtailsWrongFalsely : Prop := marketCurtailsRow.holds Tryz.pinned (OpenSpec.ofChange marketCurtailsWrong)

/-- 'nacellelaw08.MarketClears': WHATEVER THE INPUT: true; the input reads as it did. -/
def marketClearsSpec : ChangeSpec := { name := "marketClears", fn := fun _ => fun
  | [d1, d2] => { results := [.lit (.bool true)], args := [d1, d2] }
  | _ => none }
def marketClearsRow : OpenClaim := { program := "ytfdlhbdcejlopaagreatdoor", sum := "2b7fb9b8ff97132c512932022718dad1186b6a4d1abfe19062a46f4699c83271", func := "nacelle/nacellelaw08.MarketClears", spec := "marketClears", inPlace := ["internal/abi.NoEscape", "internal/bytealg.MakeNoZero"], unfollowed := true, recurses := true, named := ["internal/strconv.uint64pow10", "math/bits.deBruijn32tab", "math/bits.deBruijn64tab"], plainKeys := false, apart := false, laid := [("math/bits.deBruijn32tab", laid_math_bits_deBruijn32tab), ("math/bits.deBruijn64tab", laid_math_bits_deBruijn64tab), ("internal/strconv.uint64pow10", laid_internal_strconv_uint64pow10)] }
def MarketClearsSaid : Prop := marketClearsRow.holds Tryz.pinned (OpenSpec.ofChange marketClearsSpec)

/-- ITS FALSE NEIGHBOUR: 'it returns false'. Refute it at one input. -/
def marketClearsWrong : ChangeSpec := { name := "marketClears", fn := fun _ => fun
  | [d1, d2] => { results := [.lit (.bool false)], args := [d1, d2] }
  | _ => none }
def MarketClearsWrongFalsely : Prop := marketClearsRow.holds Tryz.pinned (OpenSpec.ofChange marketClearsWrong)

/-- 'nacellelaw08.MarketCritical': WHATEVER THE INPUT: true; the input reads as it did. -/
def marketCriticalSpec : ChangeSpec := { name := "marketCritical", fn := fun _ => fun
  | [d1, d2, d3] => { results := [.lit (.bool true)], args := [d1, d2, d3] }
  | _ => none }
def marketCriticalRow : OpenClaim := { program := "ytfdlhbdcejlopaagreatdoor", sum := "2b7fb9b8ff97132c512932022718dad1186b6a4d1abfe19062a46f4699c83271", func := "nacelle/nacellelaw08.MarketCritical", spec := "marketCritical", inPlace := ["internal/abi.NoEscape", "internal/bytealg.MakeNoZero"], unfollowed := true, recurses := true, named := ["internal/strconv.uint64pow10", "math/bits.deBruijn32tab", "math/bits.deBruijn64tab"], plainKeys := false, apart := false, laid := [("math/bits.deBruijn32tab", laid_math_bits_deBruijn32tab), ("math/bits.deBruijn64tab", laid_math_bits_deBruijn64tab), ("internal/strconv.uint64pow10", laid_internal_strconv_uint64pow10)] }
def MarketCriticalSaid : Prop := marketCriticalRow.holds Tryz.pinned (OpenSpec.ofChange marketCriticalSpec)

/-- ITS FALSE NEIGHBOUR: 'it returns false'. Refute it at one input. -/
def marketCriticalWrong : ChangeSpec := { name := "marketCritical", fn := fun _ => fun
  | [d1, d2, d3] => { results := [.lit (.bool false)], args := [d1, d2, d3] }
  | _ => none }
def MarketCriticalWrongFalsely : Prop := marketCriticalRow.holds Tryz.pinned (OpenSpec.ofChange marketCriticalWrong)

/-- 'nacellelaw08.MarketShares': WHATEVER THE INPUT: true; the input reads as it did. -/
def marketSharesSpec : ChangeSpec := { name := "marketShares", fn := fun _ => fun
  | [d1, d2] => { results := [.lit (.bool true)], args := [d1, d2] }
  | _ => none }
def marketSharesRow : OpenClaim := { program := "ytfdlhbdcejlopaagreatdoor", sum := "2b7fb9b8ff97132c512932022718dad1186b6a4d1abfe19062a46f4699c83271", func := "nacelle/nacellelaw08.MarketShares", spec := "marketShares", inPlace := ["internal/abi.NoEscape", "internal/bytealg.MakeNoZero"], unfollowed := true, recurses := true, named := ["internal/strconv.uint64pow10", "math/bits.deBruijn32tab", "math/bits.deBruijn64tab"], plainKeys := false, apart := false, laid := [("math/bits.deBruijn32tab", laid_math_bits_deBruijn32tab), ("math/bits.deBruijn64tab", laid_math_bits_deBruijn64tab), ("internal/strconv.uint64pow10", laid_internal_strconv_uint64pow10)] }
def MarketSharesSaid : Prop := marketSharesRow.holds Tryz.pinned (OpenSpec.ofChange marketSharesSpec)

/-- ITS FALSE NEIGHBOUR: 'it returns false'. Refute it at one input. -/
def marketSharesWrong : ChangeSpec := { name := "marketShares", fn := fun _ => fun
  | [d1, d2] => { results := [.lit (.bool false)], args := [d1, d2] }
  | _ => none }
def MarketSharesWrongFalsely : Prop := marketSharesRow.holds Tryz.pinned (OpenSpec.ofChange marketSharesWrong)

/-- 'nacellelaw08.MarketMerit': WHATEVER THE INPUT: true; the input reads as it did. -/
def marketMeritSpec : ChangeSpec := { name := "marketMerit", fn := fun _ => fun
  | [d1, d2] => { results := [.lit (.bool true)], args := [d1, d2] }
  | _ => none }
def marketMeritRow : OpenClaim := { program := "ytfdlhbdcejlopaagreatdoor", sum := "2b7fb9b8ff97132c512932022718dad1186b6a4d1abfe19062a46f4699c83271", func := "nacelle/nacellelaw08.MarketMerit", spec := "marketMerit", inPlace := ["internal/abi.NoEscape", "internal/bytealg.MakeNoZero"], unfollowed := true, recurses := true, named := ["internal/strconv.uint64pow10", "math/bits.deBruijn32tab", "math/bits.deBruijn64tab"], plainKeys := false, apart := false, laid := [("math/bits.deBruijn32tab", laid_math_bits_deBruijn32tab), ("math/bits.deBruijn64tab", laid_math_bits_deBruijn64tab), ("internal/strconv.uint64pow10", laid_internal_strconv_uint64pow10)] }
def MarketMeritSaid : Prop := marketMeritRow.holds Tryz.pinned (OpenSpec.ofChange marketMeritSpec)

/-- ITS FALSE NEIGHBOUR: 'it returns false'. Refute it at one input. -/
def marketMeritWrong : ChangeSpec := { name := "marketMerit", fn := fun _ => fun
  | [d1, d2] => { results := [.lit (.bool false)], args := [d1, d2] }
  | _ => none }
def MarketMeritWrongFalsely : Prop := marketMeritRow.holds Tryz.pinned (OpenSpec.ofChange marketMeritWrong)

/-- 'nacellelaw08.MarketSettles': WHATEVER THE INPUT: true; the input reads as it did. -/
def marketSettlesSpec : ChangeSpec := { name := "marketSettles", fn := fun _ => fun
  | [d1, d2, d3] => { results := [.lit (.bool true)], args := [d1, d2, d3] }
  | _ => none }
def marketSettlesRow : OpenClaim := { program := "ytfdlhbdcejlopaagreatdoor", sum := "2b7fb9b8ff97132c512932022718dad1186b6a4d1abfe19062a46f4699c83271", func := "nacelle/nacellelaw08.MarketSettles", spec := "marketSettles", inPlace := ["internal/abi.NoEscape", "internal/bytealg.MakeNoZero"], unfollowed := true, recurses := true, named := ["internal/strconv.uint64pow10", "math/bits.deBruijn32tab", "math/bits.deBruijn64tab"], plainKeys := false, apart := false, laid := [("math/bits.deBruijn32tab", laid_math_bits_deBruijn32tab), ("math/bits.deBruijn64tab", laid_math_bits_deBruijn64tab), ("internal/strconv.uint64pow10", laid_internal_strconv_uint64pow10)] }
def MarketSettlesSaid : Prop := marketSettlesRow.holds Tryz.pinned (OpenSpec.ofChange marketSettlesSpec)

/-- ITS FALSE NEIGHBOUR: 'it returns false'. Refute it at one input. -/
def marketSettlesWrong : ChangeSpec := { name := "marketSettles", fn := fun _ => fun
  | [d1, d2, d3] => { results := [.lit (.bool false)], args := [d1, d2, d3] }
  | _ => none }
def MarketSettlesWrongFalsely : Prop := marketSettlesRow.holds Tryz.pinned (OpenSpec.ofChange marketSettlesWrong)

/-- 'nacellelaw08.MarketBooks': WHATEVER THE INPUT: true; the input reads as it did. -/
def marketBooksSpec : ChangeSpec := { name := "marketBooks", fn := fun _ => fun
  | [d1, d2, d3] => { results := [.lit (.bool true)], args := [d1, d2, d3] }
  | _ => none }
def marketBooksRow : OpenClaim := { program := "ytfdlhbdcejlopaagreatdoor", sum := "2b7fb9b8ff97132c512932022718dad1186b6a4d1abfe19062a46f4699c83271", func := "nacelle/nacellelaw08.MarketBooks", spec := "marketBooks", inPlace := ["internal/abi.NoEscape", "internal/bytealg.MakeNoZero"], unfollowed := true, recurses := true, named := ["internal/strconv.uint64pow10", "math/bits.deBruijn32tab", "math/bits.deBruijn64tab"], plainKeys := false, apart := false, laid := [("math/bits.deBruijn32tab", laid_math_bits_deBruijn32tab), ("math/bits.deBruijn64tab", laid_math_bits_deBruijn64tab), ("internal/strconv.uint64pow10", laid_internal_strconv_uint64pow10)] }
def MarketBooksSaid : Prop := marketBooksRow.holds Tryz.pinned (OpenSpec.ofChange marketBooksSpec)

/-- ITS FALSE NEIGHBOUR: 'it returns false'. Refute it at one input. -/
def marketBooksWrong : ChangeSpec := { name := "marketBooks", fn := fun _ => fun
  | [d1, d2, d3] => { results := [.lit (.bool false)], args := [d1, d2, d3] }
  | _ => none }
def MarketBooksWrongFalsely : Prop := marketBooksRow.holds Tryz.pinned (OpenSpec.ofChange marketBooksWrong)

/-- 'nacellelaw08.MarketStores': WHATEVER THE INPUT: true; the input reads as it did. -/
def marketStoresSpec : ChangeSpec := { name := "marketStores", fn := fun _ => fun
  | [d1, d2, d3] => { results := [.lit (.bool true)], args := [d1, d2, d3] }
  | _ => none }
def marketStoresRow : OpenClaim := { program := "ytfdlhbdcejlopaagreatdoor", sum := "2b7fb9b8ff97132c512932022718dad1186b6a4d1abfe19062a46f4699c83271", func := "nacelle/nacellelaw08.MarketStores", spec := "marketStores", inPlace := ["internal/abi.NoEscape", "internal/bytealg.MakeNoZero"], unfollowed := true, recurses := true, named := ["internal/strconv.uint64pow10", "math/bits.deBruijn32tab", "math/bits.deBruijn64tab"], plainKeys := false, apart := false, laid := [("math/bits.deBruijn32tab", laid_math_bits_deBruijn32tab), ("math/bits.deBruijn64tab", laid_math_bits_deBruijn64tab), ("internal/strconv.uint64pow10", laid_internal_strconv_uint64pow10)] }
def MarketStoresSaid : Prop := marketStoresRow.holds Tryz.pinned (OpenSpec.ofChange marketStoresSpec)

/-- ITS FALSE NEIGHBOUR: 'it returns false'. Refute it at one input. -/
def marketStoresWrong : ChangeSpec := { name := "marketStores", fn := fun _ => fun
  | [d1, d2, d3] => { results := [.lit (.bool false)], args := [d1, d2, d3] }
  | _ => none }
def MarketStoresWrongFalsely : Prop := marketStoresRow.holds Tryz.pinned (OpenSpec.ofChange marketStoresWrong)

/-- 'nacellelaw08.MarketKeeps': WHATEVER THE INPUT: true; the input reads as it did. -/
def marketKeepsSpec : ChangeSpec := { name := "marketKeeps", fn := fun _ => fun
  | [d1, d2, d3] => { results := [.lit (.bool true)], args := [d1, d2, d3] }
  | _ => none }
def marketKeepsRow : OpenClaim := { program := "ytfdlhbdcejlopaagreatdoor", sum := "2b7fb9b8ff97132c512932022718dad1186b6a4d1abfe19062a46f4699c83271", func := "nacelle/nacellelaw08.MarketKeeps", spec := "marketKeeps", inPlace := ["internal/abi.NoEscape", "internal/bytealg.MakeNoZero"], unfollowed := true, recurses := true, named := ["internal/strconv.uint64pow10", "math/bits.deBruijn32tab", "math/bits.deBruijn64tab"], plainKeys := false, apart := false, laid := [("math/bits.deBruijn32tab", laid_math_bits_deBruijn32tab), ("math/bits.deBruijn64tab", laid_math_bits_deBruijn64tab), ("internal/strconv.uint64pow10", laid_internal_strconv_uint64pow10)] }
def MarketKeepsSaid : Prop := marketKeepsRow.holds Tryz.pinned (OpenSpec.ofChange marketKeepsSpec)

/-- ITS FALSE NEIGHBOUR: 'it returns false'. Refute it at one input. -/
def marketKeepsWrong : ChangeSpec := { name := "marketKeeps", fn := fun _ => fun
  | [d1, d2, d3] => { results := [.lit (.bool false)], args := [d1, d2, d3] }
  | _ => none }
def MarketKeepsWrongFalsely : Prop := marketKeepsRow.holds Tryz.pinned (OpenSpec.ofChange marketKeepsWrong)

/-- 'nacellelaw08.MarketQuantiles': WHATEVER THE INPUT: true; the input reads as it did. -/
def marketQuantilesSpec : ChangeSpec := { name := "marketQuantiles", fn := fun _ => fun
  | [d1, d2, d3] => { results := [.lit (.bool true)], args := [d1, d2, d3] }
  | _ => none }
def marketQuantilesRow : OpenClaim := { program := "ytfdlhbdcejlopaagreatdoor", sum := "2b7fb9b8ff97132c512932022718dad1186b6a4d1abfe19062a46f4699c83271", func := "nacelle/nacellelaw08.MarketQuantiles", spec := "marketQuantiles", inPlace := ["internal/abi.NoEscape", "internal/bytealg.MakeNoZero"], unfollowed := true, recurses := true, named := ["internal/strconv.uint64pow10", "math/bits.deBruijn32tab", "math/bits.deBruijn64tab"], plainKeys := false, apart := false, laid := [("math/bits.deBruijn32tab", laid_math_bits_deBruijn32tab), ("math/bits.deBruijn64tab", laid_math_bits_deBruijn64tab), ("internal/strconv.uint64pow10", laid_internal_strconv_uint64pow10)] }
def MarketQuantilesSaid : Prop := marketQuantilesRow.holds Tryz.pinned (OpenSpec.ofChange marketQuantilesSpec)

/-- ITS FALSE NEIGHBOUR: 'it returns false'. Refute it at one input. -/
def marketQuantilesWrong : ChangeSpec := { name := "marketQuantiles", fn := fun _ => fun
  | [d1, d2, d3] => { results := [.lit (.bool false)], args := [d1, d2, d3] }
  | _ => none }
def MarketQuantilesWrongFalsely : Prop := marketQuantilesRow.holds Tryz.pinned (OpenSpec.ofChange marketQuantilesWrong)

/-- 'nacellelaw08.MarketTexts': WHATEVER THE INPUT: true; the input reads as it did. -/
def marketTextsSpec : ChangeSpec := { name := "marketTexts", fn := fun _ => fun
  | [d1, d2] => { results := [.lit (.bool true)], args := [d1, d2] }
  | _ => none }
def marketTextsRow : OpenClaim := { program := "ytfdlhbdcejlopaagreatdoor", sum := "2b7fb9b8ff97132c512932022718dad1186b6a4d1abfe19062a46f4699c83271", func := "nacelle/nacellelaw08.MarketTexts", spec := "marketTexts", inPlace := ["internal/abi.NoEscape", "internal/bytealg.MakeNoZero", "internal/bytealg.IndexByteString", "internal/bytealg.CountString", "internal/bytealg.IndexString"], unfollowed := true, recurses := true, named := ["internal/strconv.uint64pow10", "math/bits.deBruijn32tab", "math/bits.deBruijn64tab", "unicode/utf8.first", "unicode/utf8.acceptRanges", "internal/bytealg.MaxLen"], plainKeys := false, apart := false, laid := [("math/bits.deBruijn32tab", laid_math_bits_deBruijn32tab), ("math/bits.deBruijn64tab", laid_math_bits_deBruijn64tab), ("internal/strconv.uint64pow10", laid_internal_strconv_uint64pow10), ("unicode/utf8.acceptRanges", laid_unicode_utf8_acceptRanges), ("unicode/utf8.first", laid_unicode_utf8_first)] }
def MarketTextsSaid : Prop := marketTextsRow.holds Tryz.pinned (OpenSpec.ofChange marketTextsSpec)

/-- ITS FALSE NEIGHBOUR: 'it returns false'. Refute it at one input. -/
def marketTextsWrong : ChangeSpec := { name := "marketTexts", fn := fun _ => fun
  | [d1, d2] => { results := [.lit (.bool false)], args := [d1, d2] }
  | _ => none }
def MarketTextsWrongFalsely : Prop := marketTextsRow.holds Tryz.pinned (OpenSpec.ofChange marketTextsWrong)

/-- 'nacellelaw08.MarketReads': WHATEVER THE INPUT: true; the input reads as it did. -/
def marketReadsSpec : ChangeSpec := { name := "marketReads", fn := fun _ => fun
  | [d1, d2] => { results := [.lit (.bool true)], args := [d1, d2] }
  | _ => none }
def marketReadsRow : OpenClaim := { program := "ytfdlhbdcejlopaagreatdoor", sum := "2b7fb9b8ff97132c512932022718dad1186b6a4d1abfe19062a46f4699c83271", func := "nacelle/nacellelaw08.MarketReads", spec := "marketReads", inPlace := ["internal/abi.NoEscape", "internal/bytealg.MakeNoZero", "internal/bytealg.IndexByteString", "internal/bytealg.CountString", "internal/bytealg.IndexString"], unfollowed := true, recurses := true, named := ["internal/strconv.uint64pow10", "math/bits.deBruijn32tab", "math/bits.deBruijn64tab", "unicode/utf8.first", "unicode/utf8.acceptRanges", "internal/bytealg.MaxLen"], plainKeys := false, apart := false, laid := [("math/bits.deBruijn32tab", laid_math_bits_deBruijn32tab), ("math/bits.deBruijn64tab", laid_math_bits_deBruijn64tab), ("internal/strconv.uint64pow10", laid_internal_strconv_uint64pow10), ("unicode/utf8.acceptRanges", laid_unicode_utf8_acceptRanges), ("unicode/utf8.first", laid_unicode_utf8_first)] }
def MarketReadsSaid : Prop := marketReadsRow.holds Tryz.pinned (OpenSpec.ofChange marketReadsSpec)

/-- ITS FALSE NEIGHBOUR: 'it returns false'. Refute it at one input. -/
def marketReadsWrong : ChangeSpec := { name := "marketReads", fn := fun _ => fun
  | [d1, d2] => { results := [.lit (.bool false)], args := [d1, d2] }
  | _ => none }
def MarketReadsWrongFalsely : Prop := marketReadsRow.holds Tryz.pinned (OpenSpec.ofChange marketReadsWrong)

/- THE SECOND FORM. 'bulk': how many values and letters a reading holds, each counted each time it is reached (what is shared counts as often as it is met; a slice's spare places count too). A statement '..UptoSaid' is the law's where the arguments, and the package variables that the reading takes, are together of bulk at most 1048576: NARROWER than '..Said'. Prove '..Said' where nothing that the law and all that it calls make is longer than what came in: it says more and counts as full. Else prove '..UptoSaid'. A law counts once. -/
mutual
def uptoBulk {H : Type} : DataW H → Nat
  | .lit (.string bytes) => bytes.length + 1
  | .lit _ => 1
  | .nil => 1
  | .ptr d => uptoBulk d + 1
  | .slice elems spare => uptoBulkAll elems + uptoBulkAll spare + 1
  | .agg parts => uptoBulkAll parts + 1
  | .iface _ d => uptoBulk d + 1
  | .map entries => uptoBulkEntries entries + 1
  | .held _ => 1
def uptoBulkAll {H : Type} : List (DataW H) → Nat
  | [] => 0
  | d :: r => uptoBulk d + uptoBulkAll r
def uptoBulkEntries {H : Type} : List (Lit × DataW H) → Nat
  | [] => 0
  | x :: r => uptoBulkEntry x + uptoBulkEntries r
def uptoBulkEntry {H : Type} : Lit × DataW H → Nat
  | (.string bytes, d) => bytes.length + uptoBulk d + 1
  | (_, d) => uptoBulk d + 1
 end
def uptoSmall : (H : Type) → List (DataW H) → Bool := fun _ ds => decide (uptoBulkAll ds ≤ 1048576)
def OpenSpec.upto (s : _root_.Go.ChangeSpec) : _root_.Go.OpenSpec := { _root_.Go.OpenSpec.ofChange s with cond := some uptoSmall }

/-- 'nacellelaw08.MarketChecks', WHERE WHAT IT READS IS OF BULK AT MOST 1048576: true; the input reads as it did. -/
def marketChecksUptoRow : OpenClaim := { program := "ytfdlhbdcejlopaagreatdoor", sum := "2b7fb9b8ff97132c512932022718dad1186b6a4d1abfe19062a46f4699c83271", func := "nacelle/nacellelaw08.MarketChecks", spec := "marketChecks", inPlace := ["internal/abi.NoEscape", "internal/bytealg.MakeNoZero"], unfollowed := true, recurses := true, named := ["internal/strconv.uint64pow10", "math/bits.deBruijn32tab", "math/bits.deBruijn64tab"], plainKeys := false, apart := false, laid := [("math/bits.deBruijn32tab", laid_math_bits_deBruijn32tab), ("math/bits.deBruijn64tab", laid_math_bits_deBruijn64tab), ("internal/strconv.uint64pow10", laid_internal_strconv_uint64pow10)], narrowed := true }
def MarketChecksUptoSaid : Prop := marketChecksUptoRow.holds Tryz.pinned (OpenSpec.upto marketChecksSpec)

/-- 'nacellelaw08.MarketOffers', WHERE WHAT IT READS IS OF BULK AT MOST 1048576: true; the input reads as it did. -/
def marketOffersUptoRow : OpenClaim := { program := "ytfdlhbdcejlopaagreatdoor", sum := "2b7fb9b8ff97132c512932022718dad1186b6a4d1abfe19062a46f4699c83271", func := "nacelle/nacellelaw08.MarketOffers", spec := "marketOffers", inPlace := ["internal/abi.NoEscape", "internal/bytealg.MakeNoZero"], unfollowed := true, recurses := true, named := ["internal/strconv.uint64pow10", "math/bits.deBruijn32tab", "math/bits.deBruijn64tab"], plainKeys := false, apart := false, laid := [("math/bits.deBruijn32tab", laid_math_bits_deBruijn32tab), ("math/bits.deBruijn64tab", laid_math_bits_deBruijn64tab), ("internal/strconv.uint64pow10", laid_internal_strconv_uint64pow10)], narrowed := true }
def MarketOffersUptoSaid : Prop := marketOffersUptoRow.holds Tryz.pinned (OpenSpec.upto marketOffersSpec)

/-- 'nacellelaw08.MarketCurtails', WHERE WHAT IT READS IS OF BULK AT MOST 1048576: true; the input reads as it did. -/
def marketCurtailsUptoRow : OpenClaim := { program := "ytfdlhbdcejlopaagreatdoor", sum := "2b7fb9b8ff97132c512932022718dad1186b6a4d1abfe19062a46f4699c83271", func := "nacelle/nacellelaw08.MarketCurtails", spec := "marketCurtails", inPlace := ["internal/abi.NoEscape", "internal/bytealg.MakeNoZero"], unfollowed := true, recurses := true, named := ["internal/strconv.uint64pow10", "math/bits.deBruijn32tab", "math/bits.deBruijn64tab"], plainKeys := false, apart := false, laid := [("math/bits.deBruijn32tab", laid_math_bits_deBruijn32tab), ("math/bits.deBruijn64tab", laid_math_bits_deBruijn64tab), ("internal/strconv.uint64pow10", laid_internal_strconv_uint64pow10)], narrowed := true }
def MarketCurtailsUptoSaid : Prop := marketCurtailsUptoRow.holds Tryz.pinned (OpenSpec.upto marketCurtailsSpec)

/-- 'nacellelaw08.MarketClears', WHERE WHAT IT READS IS OF BULK AT MOST 1048576: true; the input reads as it did. -/
def marketClearsUptoRow : OpenClaim := { program := "ytfdlhbdcejlopaagreatdoor", sum := "2b7fb9b8ff97132c512932022718dad1186b6a4d1abfe19062a46f4699c83271", func := "nacelle/nacellelaw08.MarketClears", spec := "marketClears", inPlace := ["internal/abi.NoEscape", "internal/bytealg.MakeNoZero"], unfollowed := true, recurses := true, named := ["internal/strconv.uint64pow10", "math/bits.deBruijn32tab", "math/bits.deBruijn64tab"], plainKeys := false, apart := false, laid := [("math/bits.deBruijn32tab", laid_math_bits_deBruijn32tab), ("math/bits.deBruijn64tab", laid_math_bits_deBruijn64tab), ("internal/strconv.uint64pow10", laid_internal_strconv_uint64pow10)], narrowed := true }
def MarketClearsUptoSaid : Prop := marketClearsUptoRow.holds Tryz.pinned (OpenSpec.upto marketClearsSpec)

/-- 'nacellelaw08.MarketCritical', WHERE WHAT IT READS IS OF BULK AT MOST 1048576: true; the input reads as it did. -/
def marketCriticalUptoRow : OpenClaim := { program := "ytfdlhbdcejlopaagreatdoor", sum := "2b7fb9b8ff97132c512932022718dad1186b6a4d1abfe19062a46f4699c83271", func := "nacelle/nacellelaw08.MarketCritical", spec := "marketCritical", inPlace := ["internal/abi.NoEscape", "internal/bytealg.MakeNoZero"], unfollowed := true, recurses := true, named := ["internal/strconv.uint64pow10", "math/bits.deBruijn32tab", "math/bits.deBruijn64tab"], plainKeys := false, apart := false, laid := [("math/bits.deBruijn32tab", laid_math_bits_deBruijn32tab), ("math/bits.deBruijn64tab", laid_math_bits_deBruijn64tab), ("internal/strconv.uint64pow10", laid_internal_strconv_uint64pow10)], narrowed := true }
def MarketCriticalUptoSaid : Prop := marketCriticalUptoRow.holds Tryz.pinned (OpenSpec.upto marketCriticalSpec)

/-- 'nacellelaw08.MarketShares', WHERE WHAT IT READS IS OF BULK AT MOST 1048576: true; the input reads as it did. -/
def marketSharesUptoRow : OpenClaim := { program := "ytfdlhbdcejlopaagreatdoor", sum := "2b7fb9b8ff97132c512932022718dad1186b6a4d1abfe19062a46f4699c83271", func := "nacelle/nacellelaw08.MarketShares", spec := "marketShares", inPlace := ["internal/abi.NoEscape", "internal/bytealg.MakeNoZero"], unfollowed := true, recurses := true, named := ["internal/strconv.uint64pow10", "math/bits.deBruijn32tab", "math/bits.deBruijn64tab"], plainKeys := false, apart := false, laid := [("math/bits.deBruijn32tab", laid_math_bits_deBruijn32tab), ("math/bits.deBruijn64tab", laid_math_bits_deBruijn64tab), ("internal/strconv.uint64pow10", laid_internal_strconv_uint64pow10)], narrowed := true }
def MarketSharesUptoSaid : Prop := marketSharesUptoRow.holds Tryz.pinned (OpenSpec.upto marketSharesSpec)

/-- 'nacellelaw08.MarketMerit', WHERE WHAT IT READS IS OF BULK AT MOST 1048576: true; the input reads as it did. -/
def marketMeritUptoRow : OpenClaim := { program := "ytfdlhbdcejlopaagreatdoor", sum := "2b7fb9b8ff97132c512932022718dad1186b6a4d1abfe19062a46f4699c83271", func := "nacelle/nacellelaw08.MarketMerit", spec := "marketMerit", inPlace := ["internal/abi.NoEscape", "internal/bytealg.MakeNoZero"], unfollowed := true, recurses := true, named := ["internal/strconv.uint64pow10", "math/bits.deBruijn32tab", "math/bits.deBruijn64tab"], plainKeys := false, apart := false, laid := [("math/bits.deBruijn32tab", laid_math_bits_deBruijn32tab), ("math/bits.deBruijn64tab", laid_math_bits_deBruijn64tab), ("internal/strconv.uint64pow10", laid_internal_strconv_uint64pow10)], narrowed := true }
def MarketMeritUptoSaid : Prop := marketMeritUptoRow.holds Tryz.pinned (OpenSpec.upto marketMeritSpec)

/-- 'nacellelaw08.MarketSettles', WHERE WHAT IT READS IS OF BULK AT MOST 1048576: true; the input reads as it did. -/
def marketSettlesUptoRow : OpenClaim := { program := "ytfdlhbdcejlopaagreatdoor", sum := "2b7fb9b8ff97132c512932022718dad1186b6a4d1abfe19062a46f4699c83271", func := "nacelle/nacellelaw08.MarketSettles", spec := "marketSettles", inPlace := ["internal/abi.NoEscape", "internal/bytealg.MakeNoZero"], unfollowed := true, recurses := true, named := ["internal/strconv.uint64pow10", "math/bits.deBruijn32tab", "math/bits.deBruijn64tab"], plainKeys := false, apart := false, laid := [("math/bits.deBruijn32tab", laid_math_bits_deBruijn32tab), ("math/bits.deBruijn64tab", laid_math_bits_deBruijn64tab), ("internal/strconv.uint64pow10", laid_internal_strconv_uint64pow10)], narrowed := true }
def MarketSettlesUptoSaid : Prop := marketSettlesUptoRow.holds Tryz.pinned (OpenSpec.upto marketSettlesSpec)

/-- 'nacellelaw08.MarketBooks', WHERE WHAT IT READS IS OF BULK AT MOST 1048576: true; the input reads as it did. -/
def marketBooksUptoRow : OpenClaim := { program := "ytfdlhbdcejlopaagreatdoor", sum := "2b7fb9b8ff97132c512932022718dad1186b6a4d1abfe19062a46f4699c83271", func := "nacelle/nacellelaw08.MarketBooks", spec := "marketBooks", inPlace := ["internal/abi.NoEscape", "internal/bytealg.MakeNoZero"], unfollowed := true, recurses := true, named := ["internal/strconv.uint64pow10", "math/bits.deBruijn32tab", "math/bits.deBruijn64tab"], plainKeys := false, apart := false, laid := [("math/bits.deBruijn32tab", laid_math_bits_deBruijn32tab), ("math/bits.deBruijn64tab", laid_math_bits_deBruijn64tab), ("internal/strconv.uint64pow10", laid_internal_strconv_uint64pow10)], narrowed := true }
def MarketBooksUptoSaid : Prop := marketBooksUptoRow.holds Tryz.pinned (OpenSpec.upto marketBooksSpec)

/-- 'nacellelaw08.MarketStores', WHERE WHAT IT READS IS OF BULK AT MOST 1048576: true; the input reads as it did. -/
def marketStoresUptoRow : OpenClaim := { program := "ytfdlhbdcejlopaagreatdoor", sum := "2b7fb9b8ff97132c512932022718dad1186b6a4d1abfe19062a46f4699c83271", func := "nacelle/nacellelaw08.MarketStores", spec := "marketStores", inPlace := ["internal/abi.NoEscape", "internal/bytealg.MakeNoZero"], unfollowed := true, recurses := true, named := ["internal/strconv.uint64pow10", "math/bits.deBruijn32tab", "math/bits.deBruijn64tab"], plainKeys := false, apart := false, laid := [("math/bits.deBruijn32tab", laid_math_bits_deBruijn32tab), ("math/bits.deBruijn64tab", laid_math_bits_deBruijn64tab), ("internal/strconv.uint64pow10", laid_internal_strconv_uint64pow10)], narrowed := true }
def MarketStoresUptoSaid : Prop := marketStoresUptoRow.holds Tryz.pinned (OpenSpec.upto marketStoresSpec)

/-- 'nacellelaw08.MarketKeeps', WHERE WHAT IT READS IS OF BULK AT MOST 1048576: true; the input reads as it did. -/
def marketKeepsUptoRow : OpenClaim := { program := "ytfdlhbdcejlopaagreatdoor", sum := "2b7fb9b8ff97132c512932022718dad1186b6a4d1abfe19062a46f4699c83271", func := "nacelle/nacellelaw08.MarketKeeps", spec := "marketKeeps", inPlace := ["internal/abi.NoEscape", "internal/bytealg.MakeNoZero"], unfollowed := true, recurses := true, named := ["internal/strconv.uint64pow10", "math/bits.deBruijn32tab", "math/bits.deBruijn64tab"], plainKeys := false, apart := false, laid := [("math/bits.deBruijn32tab", laid_math_bits_deBruijn32tab), ("math/bits.deBruijn64tab", laid_math_bits_deBruijn64tab), ("internal/strconv.uint64pow10", laid_internal_strconv_uint64pow10)], narrowed := true }
def MarketKeepsUptoSaid : Prop := marketKeepsUptoRow.holds Tryz.pinned (OpenSpec.upto marketKeepsSpec)

/-- 'nacellelaw08.MarketQuantiles', WHERE WHAT IT READS IS OF BULK AT MOST 1048576: true; the input reads as it did. -/
def marketQuantilesUptoRow : OpenClaim := { program := "ytfdlhbdcejlopaagreatdoor", sum := "2b7fb9b8ff97132c512932022718dad1186b6a4d1abfe19062a46f4699c83271", func := "nacelle/nacellelaw08.MarketQuantiles", spec := "marketQuantiles", inPlace := ["internal/abi.NoEscape", "internal/bytealg.MakeNoZero"], unfollowed := true, recurses := true, named := ["internal/strconv.uint64pow10", "math/bits.deBruijn32tab", "math/bits.deBruijn64tab"], plainKeys := false, apart := false, laid := [("math/bits.deBruijn32tab", laid_math_bits_deBruijn32tab), ("math/bits.deBruijn64tab", laid_math_bits_deBruijn64tab), ("internal/strconv.uint64pow10", laid_internal_strconv_uint64pow10)], narrowed := true }
def MarketQuantilesUptoSaid : Prop := marketQuantilesUptoRow.holds Tryz.pinned (OpenSpec.upto marketQuantilesSpec)

/-- 'nacellelaw08.MarketTexts', WHERE WHAT IT READS IS OF BULK AT MOST 1048576: true; the input reads as it did. -/
def marketTextsUptoRow : OpenClaim := { program := "ytfdlhbdcejlopaagreatdoor", sum := "2b7fb9b8ff97132c512932022718dad1186b6a4d1abfe19062a46f4699c83271", func := "nacelle/nacellelaw08.MarketTexts", spec := "marketTexts", inPlace := ["internal/abi.NoEscape", "internal/bytealg.MakeNoZero", "internal/bytealg.IndexByteString", "internal/bytealg.CountString", "internal/bytealg.IndexString"], unfollowed := true, recurses := true, named := ["internal/strconv.uint64pow10", "math/bits.deBruijn32tab", "math/bits.deBruijn64tab", "unicode/utf8.first", "unicode/utf8.acceptRanges", "internal/bytealg.MaxLen"], plainKeys := false, apart := false, laid := [("math/bits.deBruijn32tab", laid_math_bits_deBruijn32tab), ("math/bits.deBruijn64tab", laid_math_bits_deBruijn64tab), ("internal/strconv.uint64pow10", laid_internal_strconv_uint64pow10), ("unicode/utf8.acceptRanges", laid_unicode_utf8_acceptRanges), ("unicode/utf8.first", laid_unicode_utf8_first)], narrowed := true }
def MarketTextsUptoSaid : Prop := marketTextsUptoRow.holds Tryz.pinned (OpenSpec.upto marketTextsSpec)

/-- 'nacellelaw08.MarketReads', WHERE WHAT IT READS IS OF BULK AT MOST 1048576: true; the input reads as it did. -/
def marketReadsUptoRow : OpenClaim := { program := "ytfdlhbdcejlopaagreatdoor", sum := "2b7fb9b8ff97132c512932022718dad1186b6a4d1abfe19062a46f4699c83271", func := "nacelle/nacellelaw08.MarketReads", spec := "marketReads", inPlace := ["internal/abi.NoEscape", "internal/bytealg.MakeNoZero", "internal/bytealg.IndexByteString", "internal/bytealg.CountString", "internal/bytealg.IndexString"], unfollowed := true, recurses := true, named := ["internal/strconv.uint64pow10", "math/bits.deBruijn32tab", "math/bits.deBruijn64tab", "unicode/utf8.first", "unicode/utf8.acceptRanges", "internal/bytealg.MaxLen"], plainKeys := false, apart := false, laid := [("math/bits.deBruijn32tab", laid_math_bits_deBruijn32tab), ("math/bits.deBruijn64tab", laid_math_bits_deBruijn64tab), ("internal/strconv.uint64pow10", laid_internal_strconv_uint64pow10), ("unicode/utf8.acceptRanges", laid_unicode_utf8_acceptRanges), ("unicode/utf8.first", laid_unicode_utf8_first)], narrowed := true }
def MarketReadsUptoSaid : Prop := marketReadsUptoRow.holds Tryz.pinned (OpenSpec.upto marketReadsSpec)

end Rows
end Go.Proofs.YtfdlhbdcejlopaaGreatDoor
