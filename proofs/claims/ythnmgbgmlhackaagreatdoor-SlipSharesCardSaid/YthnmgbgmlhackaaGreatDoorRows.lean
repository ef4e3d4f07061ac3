/-
  NARROWER THAN 'FOR EVERY INPUT', by the rows' own cells (each row's printed sentence says how): SlipComes: laid · SlipSures: laid · SlipPlaces: laid · SlipNeeds: laid · SlipHands: laid · SlipNearer: laid · SlipProves: laid · SlipMended: laid · SlipTrue: laid · SlipCheapest: laid · SlipShares: laid · SlipCuts: laid · SlipBetween: laid · SlipReads: laid · SlipMends: laid · SlipFurther: laid.
  DERIVED. THE GIVEN ROWS OF THIS SEAT. 16 by the template 'for every input the law returns true; each argument reads behind the call as it read before'; 0 by the template 'total and deterministic' (their statements: YthnmgbgmlhackaaGreatDoorTotals.lean).
  GIVEN WITH THE SEED: the statements are not yours to turn. If you find one false, say at which input.
  Laid BY PROGRAM, IN A SANDBOX (cutbox-rows.mjs): the forced cells as the released guide's own fill.sh prints them over the translation bc16eaeba955de8c… (all of the seat's roots in one cut). By AI agents, Wed Nov 11 2026. No macro, syntax, notation, axiom, sorry.
-/
import Derived.Test.YthnmgbgmlhackaaGreatDoorChecked
import GoSem.Claim
import GoSem.ClaimJoined
import GoSem.ClaimMapViews
import Derived.JoinedTies
import Derived.KernelRfl
namespace Go.Proofs.YthnmgbgmlhackaaGreatDoor
/- THE CELL 'sum', in the pinned program and in every row, IS THE sha256 OF THE DUMP (.gsa) THAT YthnmgbgmlhackaaGreatDoorProg.lean LOADS. Nothing in Lean hashes anything: it is a label: what it is worth is what the hold of that sum in a sandbox is worth. -/
noncomputable def Tryz.pinned : Pinned := { name := "ythnmgbgmlhackaagreatdoor", sum := "bc16eaeba955de8cd06af9640732ce4b31a8ce1dd96a3b19c665aa776c2ccab7", checked := Tryz.checked }
namespace Rows
def none {H : Type} : Left H := { results := [], args := [] }

/- WHAT THE LISTED PACKAGE-LEVEL VARIABLES READ AS WHEN THE CALL BEGINS. Each datum BY PROGRAM (the guide's laid-datum.mjs) off the statement by which the dump's own 'gosem.cut.vars' lays the variable. In a bare row this is a premise. The card (YthnmgbgmlhackaaGreatDoorCards.lean) ties it to the program's text. -/
def laid_math_bits_deBruijn32tab {H : Type} : DataW H := .agg [.lit (.int .u8 0), .lit (.int .u8 1), .lit (.int .u8 28), .lit (.int .u8 2), .lit (.int .u8 29), .lit (.int .u8 14), .lit (.int .u8 24), .lit (.int .u8 3), .lit (.int .u8 30), .lit (.int .u8 22), .lit (.int .u8 20), .lit (.int .u8 15), .lit (.int .u8 25), .lit (.int .u8 17), .lit (.int .u8 4), .lit (.int .u8 8), .lit (.int .u8 31), .lit (.int .u8 27), .lit (.int .u8 13), .lit (.int .u8 23), .lit (.int .u8 21), .lit (.int .u8 19), .lit (.int .u8 16), .lit (.int .u8 7), .lit (.int .u8 26), .lit (.int .u8 12), .lit (.int .u8 18), .lit (.int .u8 6), .lit (.int .u8 11), .lit (.int .u8 5), .lit (.int .u8 10), .lit (.int .u8 9)]
def laid_math_bits_deBruijn64tab {H : Type} : DataW H := .agg [.lit (.int .u8 0), .lit (.int .u8 1), .lit (.int .u8 56), .lit (.int .u8 2), .lit (.int .u8 57), .lit (.int .u8 49), .lit (.int .u8 28), .lit (.int .u8 3), .lit (.int .u8 61), .lit (.int .u8 58), .lit (.int .u8 42), .lit (.int .u8 50), .lit (.int .u8 38), .lit (.int .u8 29), .lit (.int .u8 17), .lit (.int .u8 4), .lit (.int .u8 62), .lit (.int .u8 47), .lit (.int .u8 59), .lit (.int .u8 36), .lit (.int .u8 45), .lit (.int .u8 43), .lit (.int .u8 51), .lit (.int .u8 22), .lit (.int .u8 53), .lit (.int .u8 39), .lit (.int .u8 33), .lit (.int .u8 30), .lit (.int .u8 24), .lit (.int .u8 18), .lit (.int .u8 12), .lit (.int .u8 5), .lit (.int .u8 63), .lit (.int .u8 55), .lit (.int .u8 48), .lit (.int .u8 27), .lit (.int .u8 60), .lit (.int .u8 41), .lit (.int .u8 37), .lit (.int .u8 16), .lit (.int .u8 46), .lit (.int .u8 35), .lit (.int .u8 44), .lit (.int .u8 21), .lit (.int .u8 52), .lit (.int .u8 32), .lit (.int .u8 23), .lit (.int .u8 11), .lit (.int .u8 54), .lit (.int .u8 26), .lit (.int .u8 40), .lit (.int .u8 15), .lit (.int .u8 34), .lit (.int .u8 20), .lit (.int .u8 31), .lit (.int .u8 10), .lit (.int .u8 25), .lit (.int .u8 14), .lit (.int .u8 19), .lit (.int .u8 9), .lit (.int .u8 13), .lit (.int .u8 8), .lit (.int .u8 7), .lit (.int .u8 6)]
def laid_internal_strconv_uint64pow10 {H : Type} : DataW H := .agg [.lit (.int .u64 1), .lit (.int .u64 10), .lit (.int .u64 100), .lit (.int .u64 1000), .lit (.int .u64 10000), .lit (.int .u64 100000), .lit (.int .u64 1000000), .lit (.int .u64 10000000), .lit (.int .u64 100000000), .lit (.int .u64 1000000000), .lit (.int .u64 10000000000), .lit (.int .u64 100000000000), .lit (.int .u64 1000000000000), .lit (.int .u64 10000000000000), .lit (.int .u64 100000000000000), .lit (.int .u64 1000000000000000), .lit (.int .u64 10000000000000000), .lit (.int .u64 100000000000000000), .lit (.int .u64 1000000000000000000), .lit (.int .u64 10000000000000000000)]
def laid_pecia_slip_names {H : Type} : DataW H := .agg [.lit (.string []), .lit (.string [109, 105, 120]), .lit (.string [111, 109, 105, 116]), .lit (.string [108, 101, 97, 112]), .lit (.string [116, 119, 105, 99, 101]), .lit (.string [103, 108, 111, 115, 115]), .lit (.string [97, 100, 100])]

/-- 'pecialaw02.SlipComes': WHATEVER THE INPUT: true; the input reads as it did. -/
def slipComesSpec : ChangeSpec := { name := "slipComes", fn := fun _ => fun
  | [d] => { results := [.lit (.bool true)], args := [d] }
  | _ => none }
def slipComesRow : OpenClaim := { program := "ythnmgbgmlhackaagreatdoor", sum := "bc16eaeba955de8cd06af9640732ce4b31a8ce1dd96a3b19c665aa776c2ccab7", func := "pecia/pecialaw02.SlipComes", spec := "slipComes", inPlace := ["internal/abi.NoEscape", "internal/bytealg.MakeNoZero"], unfollowed := true, recurses := true, named := ["pecia/slip.names", "internal/strconv.uint64pow10", "math/bits.deBruijn32tab", "math/bits.deBruijn64tab"], plainKeys := false, apart := false, laid := [("math/bits.deBruijn32tab", laid_math_bits_deBruijn32tab), ("math/bits.deBruijn64tab", laid_math_bits_deBruijn64tab), ("internal/strconv.uint64pow10", laid_internal_strconv_uint64pow10), ("pecia/slip.names", laid_pecia_slip_names)] }
def SlipComesSaid : Prop := slipComesRow.holds Tryz.pinned (OpenSpec.ofChange slipComesSpec)

/-- ITS FALSE NEIGHBOUR: 'it returns false'. Refute it at one input. -/
def slipComesWrong : ChangeSpec := { name := "slipComes", fn := fun _ => fun
  | [d] => { results := [.lit (.bool false)], args := [d] }
  | _ => none }
def SlipComesWrongFalsely : Prop := slipComesRow.holds Tryz.pinned (OpenSpec.ofChange slipComesWrong)

/-- 'pecialaw02.SlipSures': WHATEVER THE INPUT: true; the input reads as it did. -/
def slipSuresSpec : ChangeSpec := { name := "slipSures", fn := fun _ => fun
  | [d1, d2] => { results := [.lit (.bool true)], args := [d1, d2] }
  | _ => none }
def slipSuresRow : OpenClaim := { program := "ythnmgbgmlhackaagreatdoor", sum := "bc16eaeba955de8cd06af9640732ce4b31a8ce1dd96a3b19c665aa776c2ccab7", func := "pecia/pecialaw02.SlipSures", spec := "slipSures", inPlace := ["internal/abi.NoEscape", "internal/bytealg.MakeNoZero"], unfollowed := true, recurses := true, named := ["pecia/slip.names", "internal/strconv.uint64pow10", "math/bits.deBruijn32tab", "math/bits.deBruijn64tab"], plainKeys := false, apart := false, laid := [("math/bits.deBruijn32tab", laid_math_bits_deBruijn32tab), ("math/bits.deBruijn64tab", laid_math_bits_deBruijn64tab), ("internal/strconv.uint64pow10", laid_internal_strconv_uint64pow10), ("pecia/slip.names", laid_pecia_slip_names)] }
def SlipSuresSaid : Prop := slipSuresRow.holds Tryz.pinned (OpenSpec.ofChange slipSuresSpec)

/-- ITS FALSE NEIGHBOUR: 'it returns false'. Refute it at one input. -/
def slipSuresWrong : ChangeSpec := { name := "slipSures", fn := fun _ => fun
  | [d1, d2] => { results := [.lit (.bool false)], args := [d1, d2] }
  | _ => none }
def SlipSuresWrongFalsely : Prop := slipSuresRow.holds Tryz.pinned (OpenSpec.ofChange slipSuresWrong)

/-- 'pecialaw02.SlipPlaces': WHATEVER THE INPUT: true; the input reads as it did. -/
def slipPlacesSpec : ChangeSpec := { name := "slipPlaces", fn := fun _ => fun
  | [d1, d2] => { results := [.lit (.bool true)], args := [d1, d2] }
  | _ => none }
def slipPlacesRow : OpenClaim := { program := "ythnmgbgmlhackaagreatdoor", sum := "bc16eaeba955de8cd06af9640732ce4b31a8ce1dd96a3b19c665aa776c2ccab7", func := "pecia/pecialaw02.SlipPlaces", spec := "slipPlaces", inPlace := ["internal/abi.NoEscape", "internal/bytealg.MakeNoZero"], unfollowed := true, recurses := true, named := ["pecia/slip.names", "internal/strconv.uint64pow10", "math/bits.deBruijn32tab", "math/bits.deBruijn64tab"], plainKeys := false, apart := false, laid := [("math/bits.deBruijn32tab", laid_math_bits_deBruijn32tab), ("math/bits.deBruijn64tab", laid_math_bits_deBruijn64tab), ("internal/strconv.uint64pow10", laid_internal_strconv_uint64pow10), ("pecia/slip.names", laid_pecia_slip_names)] }
def SlipPlacesSaid : Prop := slipPlacesRow.holds Tryz.pinned (OpenSpec.ofChange slipPlacesSpec)

/-- ITS FALSE NEIGHBOUR: 'it returns false'. Refute it at one input. -/
def slipPlacesWrong : ChangeSpec := { name := "slipPlaces", fn := fun _ => fun
  | [d1, d2] => { results := [.lit (.bool false)], args := [d1, d2] }
  | _ => none }
def SlipPlacesWrongFalsely : Prop := slipPlacesRow.holds Tryz.pinned (OpenSpec.ofChange slipPlacesWrong)

/-- 'pecialaw02.SlipNeeds': WHATEVER THE INPUT: true; the input reads as it did. -/
def slipNeedsSpec : ChangeSpec := { name := "slipNeeds", fn := fun _ => fun
  | [d1, d2, d3, d4] => { results := [.lit (.bool true)], args := [d1, d2, d3, d4] }
  | _ => none }
def slipNeedsRow : OpenClaim := { program := "ythnmgbgmlhackaagreatdoor", sum := "bc16eaeba955de8cd06af9640732ce4b31a8ce1dd96a3b19c665aa776c2ccab7", func := "pecia/pecialaw02.SlipNeeds", spec := "slipNeeds", inPlace := ["internal/abi.NoEscape", "internal/bytealg.MakeNoZero"], unfollowed := true, recurses := true, named := ["pecia/slip.names", "internal/strconv.uint64pow10", "math/bits.deBruijn32tab", "math/bits.deBruijn64tab"], plainKeys := false, apart := false, laid := [("math/bits.deBruijn32tab", laid_math_bits_deBruijn32tab), ("math/bits.deBruijn64tab", laid_math_bits_deBruijn64tab), ("internal/strconv.uint64pow10", laid_internal_strconv_uint64pow10), ("pecia/slip.names", laid_pecia_slip_names)] }
def SlipNeedsSaid : Prop := slipNeedsRow.holds Tryz.pinned (OpenSpec.ofChange slipNeedsSpec)

/-- ITS FALSE NEIGHBOUR: 'it returns false'. Refute it at one input. -/
def slipNeedsWrong : ChangeSpec := { name := "slipNeeds", fn := fun _ => fun
  | [d1, d2, d3, d4] => { results := [.lit (.bool false)], args := [d1, d2, d3, d4] }
  | _ => none }
def SlipNeedsWrongFalsely : Prop := slipNeedsRow.holds Tryz.pinned (OpenSpec.ofChange slipNeedsWrong)

/-- 'pecialaw02.SlipHands': WHATEVER THE INPUT: true; the input reads as it did. -/
def slipHandsSpec : ChangeSpec := { name := "slipHands", fn := fun _ => fun
  | [d1, d2, d3] => { results := [.lit (.bool true)], args := [d1, d2, d3] }
  | _ => none }
def slipHandsRow : OpenClaim := { program := "ythnmgbgmlhackaagreatdoor", sum := "bc16eaeba955de8cd06af9640732ce4b31a8ce1dd96a3b19c665aa776c2ccab7", func := "pecia/pecialaw02.SlipHands", spec := "slipHands", inPlace := ["internal/abi.NoEscape", "internal/bytealg.MakeNoZero"], unfollowed := true, recurses := true, named := ["pecia/slip.names", "internal/strconv.uint64pow10", "math/bits.deBruijn32tab", "math/bits.deBruijn64tab"], plainKeys := false, apart := false, laid := [("math/bits.deBruijn32tab", laid_math_bits_deBruijn32tab), ("math/bits.deBruijn64tab", laid_math_bits_deBruijn64tab), ("internal/strconv.uint64pow10", laid_internal_strconv_uint64pow10), ("pecia/slip.names", laid_pecia_slip_names)] }
def SlipHandsSaid : Prop := slipHandsRow.holds Tryz.pinned (OpenSpec.ofChange slipHandsSpec)

/-- ITS FALSE NEIGHBOUR: 'it returns false'. Refute it at one input. -/
def slipHandsWrong : ChangeSpec := { name := "slipHands", fn := fun _ => fun
  | [d1, d2, d3] => { results := [.lit (.bool false)], args := [d1, d2, d3] }
  | _ => none }
def SlipHandsWrongFalsely : Prop := slipHandsRow.holds Tryz.pinned (OpenSpec.ofChange slipHandsWrong)

/-- 'pecialaw02.SlipNearer': WHATEVER THE INPUT: true; the input reads as it did. -/
def slipNearerSpec : ChangeSpec := { name := "slipNearer", fn := fun _ => fun
  | [d1, d2] => { results := [.lit (.bool true)], args := [d1, d2] }
  | _ => none }
def slipNearerRow : OpenClaim := { program := "ythnmgbgmlhackaagreatdoor", sum := "bc16eaeba955de8cd06af9640732ce4b31a8ce1dd96a3b19c665aa776c2ccab7", func := "pecia/pecialaw02.SlipNearer", spec := "slipNearer", inPlace := ["internal/abi.NoEscape", "internal/bytealg.MakeNoZero"], unfollowed := true, recurses := true, named := ["pecia/slip.names", "internal/strconv.uint64pow10", "math/bits.deBruijn32tab", "math/bits.deBruijn64tab"], plainKeys := false, apart := false, laid := [("math/bits.deBruijn32tab", laid_math_bits_deBruijn32tab), ("math/bits.deBruijn64tab", laid_math_bits_deBruijn64tab), ("internal/strconv.uint64pow10", laid_internal_strconv_uint64pow10), ("pecia/slip.names", laid_pecia_slip_names)] }
def SlipNearerSaid : Prop := slipNearerRow.holds Tryz.pinned (OpenSpec.ofChange slipNearerSpec)

/-- ITS FALSE NEIGHBOUR: 'it returns false'. Refute it at one input. -/
def slipNearerWrong : ChangeSpec := { name := "slipNearer", fn := fun _ => fun
  | [d1, d2] => { results := [.lit (.bool false)], args := [d1, d2] }
  | _ => none }
def SlipNearerWrongFalsely : Prop := slipNearerRow.holds Tryz.pinned (OpenSpec.ofChange slipNearerWrong)

/-- 'pecialaw02.SlipProves': WHATEVER THE INPUT: true; the input reads as it did. -/
def slipProvesSpec : ChangeSpec := { name := "slipProves", fn := fun _ => fun
  | [d1, d2] => { results := [.lit (.bool true)], args := [d1, d2] }
  | _ => none }
def slipProvesRow : OpenClaim := { program := "ythnmgbgmlhackaagreatdoor", sum := "bc16eaeba955de8cd06af9640732ce4b31a8ce1dd96a3b19c665aa776c2ccab7", func := "pecia/pecialaw02.SlipProves", spec := "slipProves", inPlace := ["internal/abi.NoEscape", "internal/bytealg.MakeNoZero"], unfollowed := true, recurses := true, named := ["pecia/slip.names", "internal/strconv.uint64pow10", "math/bits.deBruijn32tab", "math/bits.deBruijn64tab"], plainKeys := false, apart := false, laid := [("math/bits.deBruijn32tab", laid_math_bits_deBruijn32tab), ("math/bits.deBruijn64tab", laid_math_bits_deBruijn64tab), ("internal/strconv.uint64pow10", laid_internal_strconv_uint64pow10), ("pecia/slip.names", laid_pecia_slip_names)] }
def SlipProvesSaid : Prop := slipProvesRow.holds Tryz.pinned (OpenSpec.ofChange slipProvesSpec)

/-- ITS FALSE NEIGHBOUR: 'it returns false'. Refute it at one input. -/
def slipProvesWrong : ChangeSpec := { name := "slipProves", fn := fun _ => fun
  | [d1, d2] => { results := [.lit (.bool false)], args := [d1, d2] }
  | _ => none }
def SlipProvesWrongFalsely : Prop := slipProvesRow.holds Tryz.pinned (OpenSpec.ofChange slipProvesWrong)

/-- 'pecialaw02.SlipMended': WHATEVER THE INPUT: true; the input reads as it did. -/
def slipMendedSpec : ChangeSpec := { name := "slipMended", fn := fun _ => fun
  | [d1, d2, d3] => { results := [.lit (.bool true)], args := [d1, d2, d3] }
  | _ => none }
def slipMendedRow : OpenClaim := { program := "ythnmgbgmlhackaagreatdoor", sum := "bc16eaeba955de8cd06af9640732ce4b31a8ce1dd96a3b19c665aa776c2ccab7", func := "pecia/pecialaw02.SlipMended", spec := "slipMended", inPlace := ["internal/abi.NoEscape", "internal/bytealg.MakeNoZero"], unfollowed := true, recurses := true, named := ["pecia/slip.names", "internal/strconv.uint64pow10", "math/bits.deBruijn32tab", "math/bits.deBruijn64tab"], plainKeys := false, apart := false, laid := [("math/bits.deBruijn32tab", laid_math_bits_deBruijn32tab), ("math/bits.deBruijn64tab", laid_math_bits_deBruijn64tab), ("internal/strconv.uint64pow10", laid_internal_strconv_uint64pow10), ("pecia/slip.names", laid_pecia_slip_names)] }
def SlipMendedSaid : Prop := slipMendedRow.holds Tryz.pinned (OpenSpec.ofChange slipMendedSpec)

/-- ITS FALSE NEIGHBOUR: 'it returns false'. Refute it at one input. -/
def slipMendedWrong : ChangeSpec := { name := "slipMended", fn := fun _ => fun
  | [d1, d2, d3] => { results := [.lit (.bool false)], args := [d1, d2, d3] }
  | _ => none }
def SlipMendedWrongFalsely : Prop := slipMendedRow.holds Tryz.pinned (OpenSpec.ofChange slipMendedWrong)

/-- 'pecialaw02.SlipTrue': WHATEVER THE INPUT: true; the input reads as it did. -/
def slipTrueSpec : ChangeSpec := { name := "slipTrue", fn := fun _ => fun
  | [d1, d2, d3, d4] => { results := [.lit (.bool true)], args := [d1, d2, d3, d4] }
  | _ => none }
def slipTrueRow : OpenClaim := { program := "ythnmgbgmlhackaagreatdoor", sum := "bc16eaeba955de8cd06af9640732ce4b31a8ce1dd96a3b19c665aa776c2ccab7", func := "pecia/pecialaw02.SlipTrue", spec := "slipTrue", inPlace := ["internal/abi.NoEscape", "internal/bytealg.MakeNoZero"], unfollowed := true, recurses := true, named := ["pecia/slip.names", "internal/strconv.uint64pow10", "math/bits.deBruijn32tab", "math/bits.deBruijn64tab"], plainKeys := false, apart := false, laid := [("math/bits.deBruijn32tab", laid_math_bits_deBruijn32tab), ("math/bits.deBruijn64tab", laid_math_bits_deBruijn64tab), ("internal/strconv.uint64pow10", laid_internal_strconv_uint64pow10), ("pecia/slip.names", laid_pecia_slip_names)] }
def SlipTrueSaid : Prop := slipTrueRow.holds Tryz.pinned (OpenSpec.ofChange slipTrueSpec)

/-- ITS FALSE NEIGHBOUR: 'it returns false'. Refute it at one input. -/
def slipTrueWrong : ChangeSpec := { name := "slipTrue", fn := fun _ => fun
  | [d1, d2, d3, d4] => { results := [.lit (.bool false)], args := [d1, d2, d3, d4] }
  | _ => none }
def SlipTrueWrongFalsely : Prop := slipTrueRow.holds Tryz.pinned (OpenSpec.ofChange slipTrueWrong)

/-- 'pecialaw02.SlipCheapest': WHATEVER THE INPUT: true; the input reads as it did. -/
def slipCheapestSpec : ChangeSpec := { name := "slipCheapest", fn := fun _ => fun
  | [d1, d2, d3] => { results := [.lit (.bool true)], args := [d1, d2, d3] }
  | _ => none }
def slipCheapestRow : OpenClaim := { program := "ythnmgbgmlhackaagreatdoor", sum := "bc16eaeba955de8cd06af9640732ce4b31a8ce1dd96a3b19c665aa776c2ccab7", func := "pecia/pecialaw02.SlipCheapest", spec := "slipCheapest", inPlace := ["internal/abi.NoEscape", "internal/bytealg.MakeNoZero"], unfollowed := true, recurses := true, named := ["pecia/slip.names", "internal/strconv.uint64pow10", "math/bits.deBruijn32tab", "math/bits.deBruijn64tab"], plainKeys := false, apart := false, laid := [("math/bits.deBruijn32tab", laid_math_bits_deBruijn32tab), ("math/bits.deBruijn64tab", laid_math_bits_deBruijn64tab), ("internal/strconv.uint64pow10", laid_internal_strconv_uint64pow10), ("pecia/slip.names", laid_pecia_slip_names)] }
def SlipCheapestSaid : Prop := slipCheapestRow.holds Tryz.pinned (OpenSpec.ofChange slipCheapestSpec)

/-- ITS FALSE NEIGHBOUR: 'it returns false'. Refute it at one input. -/
def slipCheapestWrong : ChangeSpec := { name := "slipCheapest", fn := fun _ => fun
  | [d1, d2, d3] => { results := [.lit (.bool false)], args := [d1, d2, d3] }
  | _ => none }
def SlipCheapestWrongFalsely : Prop := slipCheapestRow.holds Tryz.pinned (OpenSpec.ofChange slipCheapestWrong)

/-- 'pecialaw02.SlipShares': WHATEVER THE INPUT: true; the input reads as it did. -/
def slipSharesSpec : ChangeSpec := { name := "slipShares", fn := fun _ => fun
  | [d1, d2] => { results := [.lit (.bool true)], args := [d1, d2] }
  | _ => none }
def slipSharesRow : OpenClaim := { program := "ythnmgbgmlhackaagreatdoor", sum := "bc16eaeba955de8cd06af9640732ce4b31a8ce1dd96a3b19c665aa776c2ccab7", func := "pecia/pecialaw02.SlipShares", spec := "slipShares", inPlace := ["internal/abi.NoEscape", "internal/bytealg.MakeNoZero"], unfollowed := true, recurses := true, named := ["pecia/slip.names", "internal/strconv.uint64pow10", "math/bits.deBruijn32tab", "math/bits.deBruijn64tab"], plainKeys := false, apart := false, laid := [("math/bits.deBruijn32tab", laid_math_bits_deBruijn32tab), ("math/bits.deBruijn64tab", laid_math_bits_deBruijn64tab), ("internal/strconv.uint64pow10", laid_internal_strconv_uint64pow10), ("pecia/slip.names", laid_pecia_slip_names)] }
def SlipSharesSaid : Prop := slipSharesRow.holds Tryz.pinned (OpenSpec.ofChange slipSharesSpec)

/-- ITS FALSE NEIGHBOUR: 'it returns false'. Refute it at one input. -/
def slipSharesWrong : ChangeSpec := { name := "slipShares", fn := fun _ => fun
  | [d1, d2] => { results := [.lit (.bool false)], args := [d1, d2] }
  | _ => none }
def SlipSharesWrongFalsely : Prop := slipSharesRow.holds Tryz.pinned (OpenSpec.ofChange slipSharesWrong)

/-- 'pecialaw02.SlipCuts': WHATEVER THE INPUT: true; the input reads as it did. -/
def slipCutsSpec : ChangeSpec := { name := "slipCuts", fn := fun _ => fun
  | [d1, d2, d3] => { results := [.lit (.bool true)], args := [d1, d2, d3] }
  | _ => none }
def slipCutsRow : OpenClaim := { program := "ythnmgbgmlhackaagreatdoor", sum := "bc16eaeba955de8cd06af9640732ce4b31a8ce1dd96a3b19c665aa776c2ccab7", func := "pecia/pecialaw02.SlipCuts", spec := "slipCuts", inPlace := ["internal/abi.NoEscape", "internal/bytealg.MakeNoZero"], unfollowed := true, recurses := true, named := ["pecia/slip.names", "internal/strconv.uint64pow10", "math/bits.deBruijn32tab", "math/bits.deBruijn64tab"], plainKeys := false, apart := false, laid := [("math/bits.deBruijn32tab", laid_math_bits_deBruijn32tab), ("math/bits.deBruijn64tab", laid_math_bits_deBruijn64tab), ("internal/strconv.uint64pow10", laid_internal_strconv_uint64pow10), ("pecia/slip.names", laid_pecia_slip_names)] }
def SlipCutsSaid : Prop := slipCutsRow.holds Tryz.pinned (OpenSpec.ofChange slipCutsSpec)

/-- ITS FALSE NEIGHBOUR: 'it returns false'. Refute it at one input. -/
def slipCutsWrong : ChangeSpec := { name := "slipCuts", fn := fun _ => fun
  | [d1, d2, d3] => { results := [.lit (.bool false)], args := [d1, d2, d3] }
  | _ => none }
def SlipCutsWrongFalsely : Prop := slipCutsRow.holds Tryz.pinned (OpenSpec.ofChange slipCutsWrong)

/-- 'pecialaw02.SlipBetween': WHATEVER THE INPUT: true; the input reads as it did. -/
def slipBetweenSpec : ChangeSpec := { name := "slipBetween", fn := fun _ => fun
  | [d1, d2, d3] => { results := [.lit (.bool true)], args := [d1, d2, d3] }
  | _ => none }
def slipBetweenRow : OpenClaim := { program := "ythnmgbgmlhackaagreatdoor", sum := "bc16eaeba955de8cd06af9640732ce4b31a8ce1dd96a3b19c665aa776c2ccab7", func := "pecia/pecialaw02.SlipBetween", spec := "slipBetween", inPlace := ["internal/abi.NoEscape", "internal/bytealg.MakeNoZero"], unfollowed := true, recurses := true, named := ["pecia/slip.names", "internal/strconv.uint64pow10", "math/bits.deBruijn32tab", "math/bits.deBruijn64tab"], plainKeys := false, apart := false, laid := [("math/bits.deBruijn32tab", laid_math_bits_deBruijn32tab), ("math/bits.deBruijn64tab", laid_math_bits_deBruijn64tab), ("internal/strconv.uint64pow10", laid_internal_strconv_uint64pow10), ("pecia/slip.names", laid_pecia_slip_names)] }
def SlipBetweenSaid : Prop := slipBetweenRow.holds Tryz.pinned (OpenSpec.ofChange slipBetweenSpec)

/-- ITS FALSE NEIGHBOUR: 'it returns false'. Refute it at one input. -/
def slipBetweenWrong : ChangeSpec := { name := "slipBetween", fn := fun _ => fun
  | [d1, d2, d3] => { results := [.lit (.bool false)], args := [d1, d2, d3] }
  | _ => none }
def SlipBetweenWrongFalsely : Prop := slipBetweenRow.holds Tryz.pinned (OpenSpec.ofChange slipBetweenWrong)

/-- 'pecialaw02.SlipReads': WHATEVER THE INPUT: true; the input reads as it did. -/
def slipReadsSpec : ChangeSpec := { name := "slipReads", fn := fun _ => fun
  | [d1, d2, d3, d4, d5] => { results := [.lit (.bool true)], args := [d1, d2, d3, d4, d5] }
  | _ => none }
def slipReadsRow : OpenClaim := { program := "ythnmgbgmlhackaagreatdoor", sum := "bc16eaeba955de8cd06af9640732ce4b31a8ce1dd96a3b19c665aa776c2ccab7", func := "pecia/pecialaw02.SlipReads", spec := "slipReads", inPlace := ["internal/abi.NoEscape", "internal/bytealg.MakeNoZero"], unfollowed := true, recurses := true, named := ["pecia/slip.names", "internal/strconv.uint64pow10", "math/bits.deBruijn32tab", "math/bits.deBruijn64tab"], plainKeys := false, apart := false, laid := [("math/bits.deBruijn32tab", laid_math_bits_deBruijn32tab), ("math/bits.deBruijn64tab", laid_math_bits_deBruijn64tab), ("internal/strconv.uint64pow10", laid_internal_strconv_uint64pow10), ("pecia/slip.names", laid_pecia_slip_names)] }
def SlipReadsSaid : Prop := slipReadsRow.holds Tryz.pinned (OpenSpec.ofChange slipReadsSpec)

/-- ITS FALSE NEIGHBOUR: 'it returns false'. Refute it at one input. -/
def slipReadsWrong : ChangeSpec := { name := "slipReads", fn := fun _ => fun
  | [d1, d2, d3, d4, d5] => { results := [.lit (.bool false)], args := [d1, d2, d3, d4, d5] }
  | _ => none }
def SlipReadsWrongFalsely : Prop := slipReadsRow.holds Tryz.pinned (OpenSpec.ofChange slipReadsWrong)

/-- 'pecialaw02.SlipMends': WHATEVER THE INPUT: true; the input reads as it did. -/
def slipMendsSpec : ChangeSpec := { name := "slipMends", fn := fun _ => fun
  | [d1, d2, d3, d4, d5, d6] => { results := [.lit (.bool true)], args := [d1, d2, d3, d4, d5, d6] }
  | _ => none }
def slipMendsRow : OpenClaim := { program := "ythnmgbgmlhackaagreatdoor", sum := "bc16eaeba955de8cd06af9640732ce4b31a8ce1dd96a3b19c665aa776c2ccab7", func := "pecia/pecialaw02.SlipMends", spec := "slipMends", inPlace := ["internal/abi.NoEscape", "internal/bytealg.MakeNoZero"], unfollowed := true, recurses := true, named := ["pecia/slip.names", "internal/strconv.uint64pow10", "math/bits.deBruijn32tab", "math/bits.deBruijn64tab"], plainKeys := false, apart := false, laid := [("math/bits.deBruijn32tab", laid_math_bits_deBruijn32tab), ("math/bits.deBruijn64tab", laid_math_bits_deBruijn64tab), ("internal/strconv.uint64pow10", laid_internal_strconv_uint64pow10), ("pecia/slip.names", laid_pecia_slip_names)] }
def SlipMendsSaid : Prop := slipMendsRow.holds Tryz.pinned (OpenSpec.ofChange slipMendsSpec)

/-- ITS FALSE NEIGHBOUR: 'it returns false'. Refute it at one input. -/
def slipMendsWrong : ChangeSpec := { name := "slipMends", fn := fun _ => fun
  | [d1, d2, d3, d4, d5, d6] => { results := [.lit (.bool false)], args := [d1, d2, d3, d4, d5, d6] }
  | _ => none }
def SlipMendsWrongFalsely : Prop := slipMendsRow.holds Tryz.pinned (OpenSpec.ofChange slipMendsWrong)

/-- 'pecialaw02.SlipFurther': WHATEVER THE INPUT: true; the input reads as it did. -/
def slipFurtherSpec : ChangeSpec := { name := "slipFurther", fn := fun _ => fun
  | [d1, d2, d3, d4] => { results := [.lit (.bool true)], args := [d1, d2, d3, d4] }
  | _ => none }
def slipFurtherRow : OpenClaim := { program := "ythnmgbgmlhackaagreatdoor", sum := "bc16eaeba955de8cd06af9640732ce4b31a8ce1dd96a3b19c665aa776c2ccab7", func := "pecia/pecialaw02.SlipFurther", spec := "slipFurther", inPlace := ["internal/abi.NoEscape", "internal/bytealg.MakeNoZero"], unfollowed := true, recurses := true, named := ["pecia/slip.names", "internal/strconv.uint64pow10", "math/bits.deBruijn32tab", "math/bits.deBruijn64tab"], plainKeys := false, apart := false, laid := [("math/bits.deBruijn32tab", laid_math_bits_deBruijn32tab), ("math/bits.deBruijn64tab", laid_math_bits_deBruijn64tab), ("internal/strconv.uint64pow10", laid_internal_strconv_uint64pow10), ("pecia/slip.names", laid_pecia_slip_names)] }
def SlipFurtherSaid : Prop := slipFurtherRow.holds Tryz.pinned (OpenSpec.ofChange slipFurtherSpec)

/-- ITS FALSE NEIGHBOUR: 'it returns false'. Refute it at one input. -/
def slipFurtherWrong : ChangeSpec := { name := "slipFurther", fn := fun _ => fun
  | [d1, d2, d3, d4] => { results := [.lit (.bool false)], args := [d1, d2, d3, d4] }
  | _ => none }
def SlipFurtherWrongFalsely : Prop := slipFurtherRow.holds Tryz.pinned (OpenSpec.ofChange slipFurtherWrong)

/- THE SECOND FORM. 'bulk': how many values and letters a reading holds, each counted each time it is reached (what is shared counts as often as it is met; a slice's spare places count too). A statement '..UptoSaid' is the law's where the arguments, and the package variables that the reading takes, are together of bulk at most 1048576: NARROWER than '..Said'. Prove '..Said' where nothing that the law and all that it calls make is longer than what came in: it says more and counts as full. Else prove '..UptoSaid'. A law counts once. -/
mutual
def uptoBulk {H : Type} : DataW H → Nat
  | .lit (.string bytes) => bytes.length + 1
  | .lit _ => 1
  | .nil => 1
  | .ptr d => uptoBulk d + 1
  | .slice elems spare => uptoBulkAll elems + uptoBulkAll spare + 1
  | .agg parts => uptoBulkAll parts + 1
  | .iface _ d => uptoBulk d + 1
  | .map entries => uptoBulkEntries entries + 1
  | .held _ => 1
def uptoBulkAll {H : Type} : List (DataW H) → Nat
  | [] => 0
  | d :: r => uptoBulk d + uptoBulkAll r
def uptoBulkEntries {H : Type} : List (Lit × DataW H) → Nat
  | [] => 0
  | x :: r => uptoBulkEntry x + uptoBulkEntries r
def uptoBulkEntry {H : Type} : Lit × DataW H → Nat
  | (.string bytes, d) => bytes.length + uptoBulk d + 1
  | (_, d) => uptoBulk d + 1
 end
def uptoSmall : (H : Type) → List (DataW H) → Bool := fun _ ds => decide (uptoBulkAll ds ≤ 1048576)
def OpenSpec.upto (s : _root_.Go.ChangeSpec) : _root_.Go.OpenSpec := { _root_.Go.OpenSpec.ofChange s with cond := some uptoSmall }

/-- 'pecialaw02.SlipComes', WHERE WHAT IT READS IS OF BULK AT MOST 1048576: true; the input reads as it did. -/
def slipComesUptoRow : OpenClaim := { program := "ythnmgbgmlhackaagreatdoor", sum := "bc16eaeba955de8cd06af9640732ce4b31a8ce1dd96a3b19c665aa776c2ccab7", func := "pecia/pecialaw02.SlipComes", spec := "slipComes", inPlace := ["internal/abi.NoEscape", "internal/bytealg.MakeNoZero"], unfollowed := true, recurses := true, named := ["pecia/slip.names", "internal/strconv.uint64pow10", "math/bits.deBruijn32tab", "math/bits.deBruijn64tab"], plainKeys := false, apart := false, laid := [("math/bits.deBruijn32tab", laid_math_bits_deBruijn32tab), ("math/bits.deBruijn64tab", laid_math_bits_deBruijn64tab), ("internal/strconv.uint64pow10", laid_internal_strconv_uint64pow10), ("pecia/slip.names", laid_pecia_slip_names)], narrowed := true }
def SlipComesUptoSaid : Prop := slipComesUptoRow.holds Tryz.pinned (OpenSpec.upto slipComesSpec)

/-- 'pecialaw02.SlipSures', WHERE WHAT IT READS IS OF BULK AT MOST 1048576: true; the input reads as it did. -/
def slipSuresUptoRow : OpenClaim := { program := "ythnmgbgmlhackaagreatdoor", sum := "bc16eaeba955de8cd06af9640732ce4b31a8ce1dd96a3b19c665aa776c2ccab7", func := "pecia/pecialaw02.SlipSures", spec := "slipSures", inPlace := ["internal/abi.NoEscape", "internal/bytealg.MakeNoZero"], unfollowed := true, recurses := true, named := ["pecia/slip.names", "internal/strconv.uint64pow10", "math/bits.deBruijn32tab", "math/bits.deBruijn64tab"], plainKeys := false, apart := false, laid := [("math/bits.deBruijn32tab", laid_math_bits_deBruijn32tab), ("math/bits.deBruijn64tab", laid_math_bits_deBruijn64tab), ("internal/strconv.uint64pow10", laid_internal_strconv_uint64pow10), ("pecia/slip.names", laid_pecia_slip_names)], narrowed := true }
def SlipSuresUptoSaid : Prop := slipSuresUptoRow.holds Tryz.pinned (OpenSpec.upto slipSuresSpec)

/-- 'pecialaw02.SlipPlaces', WHERE WHAT IT READS IS OF BULK AT MOST 1048576: true; the input reads as it did. -/
def slipPlacesUptoRow : OpenClaim := { program := "ythnmgbgmlhackaagreatdoor", sum := "bc16eaeba955de8cd06af9640732ce4b31a8ce1dd96a3b19c665aa776c2ccab7", func := "pecia/pecialaw02.SlipPlaces", spec := "slipPlaces", inPlace := ["internal/abi.NoEscape", "internal/bytealg.MakeNoZero"], unfollowed := true, recurses := true, named := ["pecia/slip.names", "internal/strconv.uint64pow10", "math/bits.deBruijn32tab", "math/bits.deBruijn64tab"], plainKeys := false, apart := false, laid := [("math/bits.deBruijn32tab", laid_math_bits_deBruijn32tab), ("math/bits.deBruijn64tab", laid_math_bits_deBruijn64tab), ("internal/strconv.uint64pow10", laid_internal_strconv_uint64pow10), ("pecia/slip.names", laid_pecia_slip_names)], narrowed := true }
def SlipPlacesUptoSaid : Prop := slipPlacesUptoRow.holds Tryz.pinned (OpenSpec.upto slipPlacesSpec)

/-- 'pecialaw02.SlipNeeds', WHERE WHAT IT READS IS OF BULK AT MOST 1048576: true; the input reads as it did. -/
def slipNeedsUptoRow : OpenClaim := { program := "ythnmgbgmlhackaagreatdoor", sum := "bc16eaeba955de8cd06af9640732ce4b31a8ce1dd96a3b19c665aa776c2ccab7", func := "pecia/pecialaw02.SlipNeeds", spec := "slipNeeds", inPlace := ["internal/abi.NoEscape", "internal/bytealg.MakeNoZero"], unfollowed := true, recurses := true, named := ["pecia/slip.names", "internal/strconv.uint64pow10", "math/bits.deBruijn32tab", "math/bits.deBruijn64tab"], plainKeys := false, apart := false, laid := [("math/bits.deBruijn32tab", laid_math_bits_deBruijn32tab), ("math/bits.deBruijn64tab", laid_math_bits_deBruijn64tab), ("internal/strconv.uint64pow10", laid_internal_strconv_uint64pow10), ("pecia/slip.names", laid_pecia_slip_names)], narrowed := true }
def SlipNeedsUptoSaid : Prop := slipNeedsUptoRow.holds Tryz.pinned (OpenSpec.upto slipNeedsSpec)

/-- 'pecialaw02.SlipHands', WHERE WHAT IT READS IS OF BULK AT MOST 1048576: true; the input reads as it did. -/
def slipHandsUptoRow : OpenClaim := { program := "ythnmgbgmlhackaagreatdoor", sum := "bc16eaeba955de8cd06af9640732ce4b31a8ce1dd96a3b19c665aa776c2ccab7", func := "pecia/pecialaw02.SlipHands", spec := "slipHands", inPlace := ["internal/abi.NoEscape", "internal/bytealg.MakeNoZero"], unfollowed := true, recurses := true, named := ["pecia/slip.names", "internal/strconv.uint64pow10", "math/bits.deBruijn32tab", "math/bits.deBruijn64tab"], plainKeys := false, apart := false, laid := [("math/bits.deBruijn32tab", laid_math_bits_deBruijn32tab), ("math/bits.deBruijn64tab", laid_math_bits_deBruijn64tab), ("internal/strconv.uint64pow10", laid_internal_strconv_uint64pow10), ("pecia/slip.names", laid_pecia_slip_names)], narrowed := true }
def SlipHandsUptoSaid : Prop := slipHandsUptoRow.holds Tryz.pinned (OpenSpec.upto slipHandsSpec)

/-- 'pecialaw02.SlipNearer', WHERE WHAT IT READS IS OF BULK AT MOST 1048576: true; the input reads as it did. -/
def slipNearerUptoRow : OpenClaim := { program := "ythnmgbgmlhackaagreatdoor", sum := "bc16eaeba955de8cd06af9640732ce4b31a8ce1dd96a3b19c665aa776c2ccab7", func := "pecia/pecialaw02.SlipNearer", spec := "slipNearer", inPlace := ["internal/abi.NoEscape", "internal/bytealg.MakeNoZero"], unfollowed := true, recurses := true, named := ["pecia/slip.names", "internal/strconv.uint64pow10", "math/bits.deBruijn32tab", "math/bits.deBruijn64tab"], plainKeys := false, apart := false, laid := [("math/bits.deBruijn32tab", laid_math_bits_deBruijn32tab), ("math/bits.deBruijn64tab", laid_math_bits_deBruijn64tab), ("internal/strconv.uint64pow10", laid_internal_strconv_uint64pow10), ("pecia/slip.names", laid_pecia_slip_names)], narrowed := true }
def SlipNearerUptoSaid : Prop := slipNearerUptoRow.holds Tryz.pinned (OpenSpec.upto slipNearerSpec)

/-- 'pecialaw02.SlipProves', WHERE WHAT IT READS IS OF BULK AT MOST 1048576: true; the input reads as it did. -/
def slipProvesUptoRow : OpenClaim := { program := "ythnmgbgmlhackaagreatdoor", sum := "bc16eaeba955de8cd06af9640732ce4b31a8ce1dd96a3b19c665aa776c2ccab7", func := "pecia/pecialaw02.SlipProves", spec := "slipProves", inPlace := ["internal/abi.NoEscape", "internal/bytealg.MakeNoZero"], unfollowed := true, recurses := true, named := ["pecia/slip.names", "internal/strconv.uint64pow10", "math/bits.deBruijn32tab", "math/bits.deBruijn64tab"], plainKeys := false, apart := false, laid := [("math/bits.deBruijn32tab", laid_math_bits_deBruijn32tab), ("math/bits.deBruijn64tab", laid_math_bits_deBruijn64tab), ("internal/strconv.uint64pow10", laid_internal_strconv_uint64pow10), ("pecia/slip.names", laid_pecia_slip_names)], narrowed := true }
def SlipProvesUptoSaid : Prop := slipProvesUptoRow.holds Tryz.pinned (OpenSpec.upto slipProvesSpec)

/-- 'pecialaw02.SlipMended', WHERE WHAT IT READS IS OF BULK AT MOST 1048576: true; the input reads as it did. -/
def slipMendedUptoRow : OpenClaim := { program := "ythnmgbgmlhackaagreatdoor", sum := "bc16eaeba955de8cd06af9640732ce4b31a8ce1dd96a3b19c665aa776c2ccab7", func := "pecia/pecialaw02.SlipMended", spec := "slipMended", inPlace := ["internal/abi.NoEscape", "internal/bytealg.MakeNoZero"], unfollowed := true, recurses := true, named := ["pecia/slip.names", "internal/strconv.uint64pow10", "math/bits.deBruijn32tab", "math/bits.deBruijn64tab"], plainKeys := false, apart := false, laid := [("math/bits.deBruijn32tab", laid_math_bits_deBruijn32tab), ("math/bits.deBruijn64tab", laid_math_bits_deBruijn64tab), ("internal/strconv.uint64pow10", laid_internal_strconv_uint64pow10), ("pecia/slip.names", laid_pecia_slip_names)], narrowed := true }
def SlipMendedUptoSaid : Prop := slipMendedUptoRow.holds Tryz.pinned (OpenSpec.upto slipMendedSpec)

/-- 'pecialaw02.SlipTrue', WHERE WHAT IT READS IS OF BULK AT MOST 1048576: true; the input reads as it did. -/
def slipTrueUptoRow : OpenClaim := { program := "ythnmgbgmlhackaagreatdoor", sum := "bc16eaeba955de8cd06af9640732ce4b31a8ce1dd96a3b19c665aa776c2ccab7", func := "pecia/pecialaw02.SlipTrue", spec := "slipTrue", inPlace := ["internal/abi.NoEscape", "internal/bytealg.MakeNoZero"], unfollowed := true, recurses := true, named := ["pecia/slip.names", "internal/strconv.uint64pow10", "math/bits.deBruijn32tab", "math/bits.deBruijn64tab"], plainKeys := false, apart := false, laid := [("math/bits.deBruijn32tab", laid_math_bits_deBruijn32tab), ("math/bits.deBruijn64tab", laid_math_bits_deBruijn64tab), ("internal/strconv.uint64pow10", laid_internal_strconv_uint64pow10), ("pecia/slip.names", laid_pecia_slip_names)], narrowed := true }
def SlipTrueUptoSaid : Prop := slipTrueUptoRow.holds Tryz.pinned (OpenSpec.upto slipTrueSpec)

/-- 'pecialaw02.SlipCheapest', WHERE WHAT IT READS IS OF BULK AT MOST 1048576: true; the input reads as it did. -/
def slipCheapestUptoRow : OpenClaim := { program := "ythnmgbgmlhackaagreatdoor", sum := "bc16eaeba955de8cd06af9640732ce4b31a8ce1dd96a3b19c665aa776c2ccab7", func := "pecia/pecialaw02.SlipCheapest", spec := "slipCheapest", inPlace := ["internal/abi.NoEscape", "internal/bytealg.MakeNoZero"], unfollowed := true, recurses := true, named := ["pecia/slip.names", "internal/strconv.uint64pow10", "math/bits.deBruijn32tab", "math/bits.deBruijn64tab"], plainKeys := false, apart := false, laid := [("math/bits.deBruijn32tab", laid_math_bits_deBruijn32tab), ("math/bits.deBruijn64tab", laid_math_bits_deBruijn64tab), ("internal/strconv.uint64pow10", laid_internal_strconv_uint64pow10), ("pecia/slip.names", laid_pecia_slip_names)], narrowed := true }
def SlipCheapestUptoSaid : Prop := slipCheapestUptoRow.holds Tryz.pinned (OpenSpec.upto slipCheapestSpec)

/-- 'pecialaw02.SlipShares', WHERE WHAT IT READS IS OF BULK AT MOST 1048576: true; the input reads as it did. -/
def slipSharesUptoRow : OpenClaim := { program := "ythnmgbgmlhackaagreatdoor", sum := "bc16eaeba955de8cd06af9640732ce4b31a8ce1dd96a3b19c665aa776c2ccab7", func := "pecia/pecialaw02.SlipShares", spec := "slipShares", inPlace := ["internal/abi.NoEscape", "internal/bytealg.MakeNoZero"], unfollowed := true, recurses := true, named := ["pecia/slip.names", "internal/strconv.uint64pow10", "math/bits.deBruijn32tab", "math/bits.deBruijn64tab"], plainKeys := false, apart := false, laid := [("math/bits.deBruijn32tab", laid_math_bits_deBruijn32tab), ("math/bits.deBruijn64tab", laid_math_bits_deBruijn64tab), ("internal/strconv.uint64pow10", laid_internal_strconv_uint64pow10), ("pecia/slip.names", laid_pecia_slip_names)], narrowed := true }
def SlipSharesUptoSaid : Prop := slipSharesUptoRow.holds Tryz.pinned (OpenSpec.upto slipSharesSpec)

/-- 'pecialaw02.SlipCuts', WHERE WHAT IT READS IS OF BULK AT MOST 1048576: true; the input reads as it did. -/
def slipCutsUptoRow : OpenClaim := { program := "ythnmgbgmlhackaagreatdoor", sum := "bc16eaeba955de8cd06af9640732ce4b31a8ce1dd96a3b19c665aa776c2ccab7", func := "pecia/pecialaw02.SlipCuts", spec := "slipCuts", inPlace := ["internal/abi.NoEscape", "internal/bytealg.MakeNoZero"], unfollowed := true, recurses := true, named := ["pecia/slip.names", "internal/strconv.uint64pow10", "math/bits.deBruijn32tab", "math/bits.deBruijn64tab"], plainKeys := false, apart := false, laid := [("math/bits.deBruijn32tab", laid_math_bits_deBruijn32tab), ("math/bits.deBruijn64tab", laid_math_bits_deBruijn64tab), ("internal/strconv.uint64pow10", laid_internal_strconv_uint64pow10), ("pecia/slip.names", laid_pecia_slip_names)], narrowed := true }
def SlipCutsUptoSaid : Prop := slipCutsUptoRow.holds Tryz.pinned (OpenSpec.upto slipCutsSpec)

/-- 'pecialaw02.SlipBetween', WHERE WHAT IT READS IS OF BULK AT MOST 1048576: true; the input reads as it did. -/
def slipBetweenUptoRow : OpenClaim := { program := "ythnmgbgmlhackaagreatdoor", sum := "bc16eaeba955de8cd06af9640732ce4b31a8ce1dd96a3b19c665aa776c2ccab7", func := "pecia/pecialaw02.SlipBetween", spec := "slipBetween", inPlace := ["internal/abi.NoEscape", "internal/bytealg.MakeNoZero"], unfollowed := true, recurses := true, named := ["pecia/slip.names", "internal/strconv.uint64pow10", "math/bits.deBruijn32tab", "math/bits.deBruijn64tab"], plainKeys := false, apart := false, laid := [("math/bits.deBruijn32tab", laid_math_bits_deBruijn32tab), ("math/bits.deBruijn64tab", laid_math_bits_deBruijn64tab), ("internal/strconv.uint64pow10", laid_internal_strconv_uint64pow10), ("pecia/slip.names", laid_pecia_slip_names)], narrowed := true }
def SlipBetweenUptoSaid : Prop := slipBetweenUptoRow.holds Tryz.pinned (OpenSpec.upto slipBetweenSpec)

/-- 'pecialaw02.SlipReads', WHERE WHAT IT READS IS OF BULK AT MOST 1048576: true; the input reads as it did. -/
def slipReadsUptoRow : OpenClaim := { program := "ythnmgbgmlhackaagreatdoor", sum := "bc16eaeba955de8cd06af9640732ce4b31a8ce1dd96a3b19c665aa776c2ccab7", func := "pecia/pecialaw02.SlipReads", spec := "slipReads", inPlace := ["internal/abi.NoEscape", "internal/bytealg.MakeNoZero"], unfollowed := true, recurses := true, named := ["pecia/slip.names", "internal/strconv.uint64pow10", "math/bits.deBruijn32tab", "math/bits.deBruijn64tab"], plainKeys := false, apart := false, laid := [("math/bits.deBruijn32tab", laid_math_bits_deBruijn32tab), ("math/bits.deBruijn64tab", laid_math_bits_deBruijn64tab), ("internal/strconv.uint64pow10", laid_internal_strconv_uint64pow10), ("pecia/slip.names", laid_pecia_slip_names)], narrowed := true }
def SlipReadsUptoSaid : Prop := slipReadsUptoRow.holds Tryz.pinned (OpenSpec.upto slipReadsSpec)

/-- 'pecialaw02.SlipMends', WHERE WHAT IT READS IS OF BULK AT MOST 1048576: true; the input reads as it did. -/
def slipMendsUptoRow : OpenClaim := { program := "ythnmgbgmlhackaagreatdoor", sum := "bc16eaeba955de8cd06af9640732ce4b31a8ce1dd96a3b19c665aa776c2ccab7", func := "pecia/pecialaw02.SlipMends", spec := "slipMends", inPlace := ["internal/abi.NoEscape", "internal/bytealg.MakeNoZero"], unfollowed := true, recurses := true, named := ["pecia/slip.names", "internal/strconv.uint64pow10", "math/bits.deBruijn32tab", "math/bits.deBruijn64tab"], plainKeys := false, apart := false, laid := [("math/bits.deBruijn32tab", laid_math_bits_deBruijn32tab), ("math/bits.deBruijn64tab", laid_math_bits_deBruijn64tab), ("internal/strconv.uint64pow10", laid_internal_strconv_uint64pow10), ("pecia/slip.names", laid_pecia_slip_names)], narrowed := true }
def SlipMendsUptoSaid : Prop := slipMendsUptoRow.holds Tryz.pinned (OpenSpec.upto slipMendsSpec)

/-- 'pecialaw02.SlipFurther', WHERE WHAT IT READS IS OF BULK AT MOST 1048576: true; the input reads as it did. -/
def slipFurtherUptoRow : OpenClaim := { program := "ythnmgbgmlhackaagreatdoor", sum := "bc16eaeba955de8cd06af9640732ce4b31a8ce1dd96a3b19c665aa776c2ccab7", func := "pecia/pecialaw02.SlipFurther", spec := "slipFurther", inPlace := ["internal/abi.NoEscape", "internal/bytealg.MakeNoZero"], unfollowed := true, recurses := true, named := ["pecia/slip.names", "internal/strconv.uint64pow10", "math/bits.deBruijn32tab", "math/bits.deBruijn64tab"], plainKeys := false, apart := false, laid := [("math/bits.deBruijn32tab", laid_math_bits_deBruijn32tab), ("math/bits.deBruijn64tab", laid_math_bits_deBruijn64tab), ("internal/strconv.uint64pow10", laid_internal_strconv_uint64pow10), ("pecia/slip.names", laid_pecia_slip_names)], narrowed := true }
def SlipFurtherUptoSaid : Prop := slipFurtherUptoRow.holds Tryz.pinned (OpenSpec.upto slipFurtherSpec)

end Rows
end Go.Proofs.YthnmgbgmlhackaaGreatDoor
