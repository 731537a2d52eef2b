/-
  NARROWER THAN 'FOR EVERY INPUT', by the rows' own cells (each row's printed sentence says how): NetworkPlaces: laid · NetworkReaches: laid · NetworkMaps: laid · NetworkNamed: laid · NetworkForms: laid · NetworkDates: laid · NetworkUndoes: laid · NetworkSince: laid · NetworkWays: laid · NetworkLeast: laid · NetworkPosts: laid · NetworkTexts: laid · NetworkBack: laid.
  DERIVED. THE GIVEN ROWS OF THIS SEAT. 13 by the template 'for every input the law returns true; each argument reads behind the call as it read before'; 0 by the template 'total and deterministic' (their statements: YtepaopekeidlmaaGreatDoorTotals.lean).
  GIVEN WITH THE SEED: the statements are not yours to turn. If you find one false, say at which input.
  Laid BY PROGRAM, IN A SANDBOX (cutbox-rows.mjs): the forced cells as the released guide's own fill.sh prints them over the translation a1ee31c4cf048f98… (all of the seat's roots in one cut). By AI agents, Wed Nov 11 2026. No macro, syntax, notation, axiom, sorry.
-/
import Derived.Test.YtepaopekeidlmaaGreatDoorChecked
import GoSem.PinnedTables
import GoSem.Claim
import GoSem.ClaimJoined
import GoSem.ClaimMapViews
import Derived.JoinedTies
import Derived.KernelRfl
namespace Go.Proofs.YtepaopekeidlmaaGreatDoor
/- THE CELL 'sum', in the pinned program and in every row, IS THE sha256 OF THE DUMP (.gsa) THAT YtepaopekeidlmaaGreatDoorProg.lean LOADS. Nothing in Lean hashes anything: it is a label: what it is worth is what the hold of that sum in a sandbox is worth. -/
noncomputable def Tryz.pinned : Pinned := { name := "ytepaopekeidlmaagreatdoor", sum := "a1ee31c4cf048f9825318a9d97bb4b684199cf78ab95b6a0457e00581149d7bf", checked := Tryz.checked }
namespace Rows
def none {H : Type} : Left H := { results := [], args := [] }

/- WHAT THE LISTED PACKAGE-LEVEL VARIABLES READ AS WHEN THE CALL BEGINS. Each datum BY PROGRAM (the guide's laid-datum.mjs) off the statement by which the dump's own 'gosem.cut.vars' lays the variable. In a bare row this is a premise. The card (YtepaopekeidlmaaGreatDoorCards.lean) ties it to the program's text. -/
def laid_math_bits_deBruijn32tab {H : Type} : DataW H := .agg [.lit (.int .u8 0), .lit (.int .u8 1), .lit (.int .u8 28), .lit (.int .u8 2), .lit (.int .u8 29), .lit (.int .u8 14), .lit (.int .u8 24), .lit (.int .u8 3), .lit (.int .u8 30), .lit (.int .u8 22), .lit (.int .u8 20), .lit (.int .u8 15), .lit (.int .u8 25), .lit (.int .u8 17), .lit (.int .u8 4), .lit (.int .u8 8), .lit (.int .u8 31), .lit (.int .u8 27), .lit (.int .u8 13), .lit (.int .u8 23), .lit (.int .u8 21), .lit (.int .u8 19), .lit (.int .u8 16), .lit (.int .u8 7), .lit (.int .u8 26), .lit (.int .u8 12), .lit (.int .u8 18), .lit (.int .u8 6), .lit (.int .u8 11), .lit (.int .u8 5), .lit (.int .u8 10), .lit (.int .u8 9)]
def laid_math_bits_deBruijn64tab {H : Type} : DataW H := .agg [.lit (.int .u8 0), .lit (.int .u8 1), .lit (.int .u8 56), .lit (.int .u8 2), .lit (.int .u8 57), .lit (.int .u8 49), .lit (.int .u8 28), .lit (.int .u8 3), .lit (.int .u8 61), .lit (.int .u8 58), .lit (.int .u8 42), .lit (.int .u8 50), .lit (.int .u8 38), .lit (.int .u8 29), .lit (.int .u8 17), .lit (.int .u8 4), .lit (.int .u8 62), .lit (.int .u8 47), .lit (.int .u8 59), .lit (.int .u8 36), .lit (.int .u8 45), .lit (.int .u8 43), .lit (.int .u8 51), .lit (.int .u8 22), .lit (.int .u8 53), .lit (.int .u8 39), .lit (.int .u8 33), .lit (.int .u8 30), .lit (.int .u8 24), .lit (.int .u8 18), .lit (.int .u8 12), .lit (.int .u8 5), .lit (.int .u8 63), .lit (.int .u8 55), .lit (.int .u8 48), .lit (.int .u8 27), .lit (.int .u8 60), .lit (.int .u8 41), .lit (.int .u8 37), .lit (.int .u8 16), .lit (.int .u8 46), .lit (.int .u8 35), .lit (.int .u8 44), .lit (.int .u8 21), .lit (.int .u8 52), .lit (.int .u8 32), .lit (.int .u8 23), .lit (.int .u8 11), .lit (.int .u8 54), .lit (.int .u8 26), .lit (.int .u8 40), .lit (.int .u8 15), .lit (.int .u8 34), .lit (.int .u8 20), .lit (.int .u8 31), .lit (.int .u8 10), .lit (.int .u8 25), .lit (.int .u8 14), .lit (.int .u8 19), .lit (.int .u8 9), .lit (.int .u8 13), .lit (.int .u8 8), .lit (.int .u8 7), .lit (.int .u8 6)]
def laid_internal_strconv_uint64pow10 {H : Type} : DataW H := .agg [.lit (.int .u64 1), .lit (.int .u64 10), .lit (.int .u64 100), .lit (.int .u64 1000), .lit (.int .u64 10000), .lit (.int .u64 100000), .lit (.int .u64 1000000), .lit (.int .u64 10000000), .lit (.int .u64 100000000), .lit (.int .u64 1000000000), .lit (.int .u64 10000000000), .lit (.int .u64 100000000000), .lit (.int .u64 1000000000000), .lit (.int .u64 10000000000000), .lit (.int .u64 100000000000000), .lit (.int .u64 1000000000000000), .lit (.int .u64 10000000000000000), .lit (.int .u64 100000000000000000), .lit (.int .u64 1000000000000000000), .lit (.int .u64 10000000000000000000)]
def laid_versine_network_ways {H : Type} : DataW H := .agg [.lit (.string [117, 112]), .lit (.string [100, 111, 119, 110])]
def laid_versine_network_sides {H : Type} : DataW H := .agg [.lit (.string [102, 105, 114, 115, 116]), .lit (.string [108, 97, 115, 116])]
def laid_unicode_utf8_acceptRanges {H : Type} : DataW H := .agg [.agg [.lit (.int .u8 128), .lit (.int .u8 191)], .agg [.lit (.int .u8 160), .lit (.int .u8 191)], .agg [.lit (.int .u8 128), .lit (.int .u8 159)], .agg [.lit (.int .u8 144), .lit (.int .u8 191)], .agg [.lit (.int .u8 128), .lit (.int .u8 143)], .agg [.lit (.int .u8 0), .lit (.int .u8 0)], .agg [.lit (.int .u8 0), .lit (.int .u8 0)], .agg [.lit (.int .u8 0), .lit (.int .u8 0)], .agg [.lit (.int .u8 0), .lit (.int .u8 0)], .agg [.lit (.int .u8 0), .lit (.int .u8 0)], .agg [.lit (.int .u8 0), .lit (.int .u8 0)], .agg [.lit (.int .u8 0), .lit (.int .u8 0)], .agg [.lit (.int .u8 0), .lit (.int .u8 0)], .agg [.lit (.int .u8 0), .lit (.int .u8 0)], .agg [.lit (.int .u8 0), .lit (.int .u8 0)], .agg [.lit (.int .u8 0), .lit (.int .u8 0)]]
/-- One of Go's own tables, pinned by name: the form's constant. -/
def laid_unicode_utf8_first : DataW Unit := Go.Pinned.utf8First

/-- 'versinelaw02.NetworkPlaces': WHATEVER THE INPUT: true; the input reads as it did. -/
def networkPlacesSpec : ChangeSpec := { name := "networkPlaces", fn := fun _ => fun
  | [d1, d2, d3] => { results := [.lit (.bool true)], args := [d1, d2, d3] }
  | _ => none }
def networkPlacesRow : OpenClaim := { program := "ytepaopekeidlmaagreatdoor", sum := "a1ee31c4cf048f9825318a9d97bb4b684199cf78ab95b6a0457e00581149d7bf", func := "versine/versinelaw02.NetworkPlaces", spec := "networkPlaces", inPlace := ["internal/bytealg.abigen_runtime_cmpstring", "internal/abi.NoEscape", "internal/bytealg.MakeNoZero"], unfollowed := true, recurses := true, named := ["versine/network.ways", "versine/network.sides", "internal/strconv.uint64pow10", "math/bits.deBruijn32tab", "math/bits.deBruijn64tab"], plainKeys := false, apart := false, laid := [("math/bits.deBruijn32tab", laid_math_bits_deBruijn32tab), ("math/bits.deBruijn64tab", laid_math_bits_deBruijn64tab), ("internal/strconv.uint64pow10", laid_internal_strconv_uint64pow10), ("versine/network.ways", laid_versine_network_ways), ("versine/network.sides", laid_versine_network_sides)] }
def NetworkPlacesSaid : Prop := networkPlacesRow.holds Tryz.pinned (OpenSpec.ofChange networkPlacesSpec)

/-- ITS FALSE NEIGHBOUR: 'it returns false'. Refute it at one input. -/
def networkPlacesWrong : ChangeSpec := { name := "networkPlaces", fn := fun _ => fun
  | [d1, d2, d3] => { results := [.lit (.bool false)], args := [d1, d2, d3] }
  | _ => none }
def NetworkPlacesWrongFalsely : Prop := networkPlacesRow.holds Tryz.pinned (OpenSpec.ofChange networkPlacesWrong)

/-- 'versinelaw02.NetworkReaches': WHATEVER THE INPUT: true; the input reads as it did. -/
def networkReachesSpec : ChangeSpec := { name := "networkReaches", fn := fun _ => fun
  | [d1, d2, d3] => { results := [.lit (.bool true)], args := [d1, d2, d3] }
  | _ => none }
def networkReachesRow : OpenClaim := { program := "ytepaopekeidlmaagreatdoor", sum := "a1ee31c4cf048f9825318a9d97bb4b684199cf78ab95b6a0457e00581149d7bf", func := "versine/versinelaw02.NetworkReaches", spec := "networkReaches", inPlace := ["internal/bytealg.abigen_runtime_cmpstring", "internal/abi.NoEscape", "internal/bytealg.MakeNoZero"], unfollowed := true, recurses := true, named := ["versine/network.ways", "versine/network.sides", "internal/strconv.uint64pow10", "math/bits.deBruijn32tab", "math/bits.deBruijn64tab"], plainKeys := false, apart := false, laid := [("math/bits.deBruijn32tab", laid_math_bits_deBruijn32tab), ("math/bits.deBruijn64tab", laid_math_bits_deBruijn64tab), ("internal/strconv.uint64pow10", laid_internal_strconv_uint64pow10), ("versine/network.ways", laid_versine_network_ways), ("versine/network.sides", laid_versine_network_sides)] }
def NetworkReachesSaid : Prop := networkReachesRow.holds Tryz.pinned (OpenSpec.ofChange networkReachesSpec)

/-- ITS FALSE NEIGHBOUR: 'it returns false'. Refute it at one input. -/
def networkReachesWrong : ChangeSpec := { name := "networkReaches", fn := fun _ => fun
  | [d1, d2, d3] => { results := [.lit (.bool false)], args := [d1, d2, d3] }
  | _ => none }
def NetworkReachesWrongFalsely : Prop := networkReachesRow.holds Tryz.pinned (OpenSpec.ofChange networkReachesWrong)

/-- 'versinelaw02.NetworkMaps': WHATEVER THE INPUT: true; the input reads as it did. -/
def networkMapsSpec : ChangeSpec := { name := "networkMaps", fn := fun _ => fun
  | [d1, d2, d3] => { results := [.lit (.bool true)], args := [d1, d2, d3] }
  | _ => none }
def networkMapsRow : OpenClaim := { program := "ytepaopekeidlmaagreatdoor", sum := "a1ee31c4cf048f9825318a9d97bb4b684199cf78ab95b6a0457e00581149d7bf", func := "versine/versinelaw02.NetworkMaps", spec := "networkMaps", inPlace := ["internal/bytealg.abigen_runtime_cmpstring", "internal/abi.NoEscape", "internal/bytealg.MakeNoZero"], unfollowed := true, recurses := true, named := ["versine/network.ways", "versine/network.sides", "internal/strconv.uint64pow10", "math/bits.deBruijn32tab", "math/bits.deBruijn64tab"], plainKeys := false, apart := false, laid := [("math/bits.deBruijn32tab", laid_math_bits_deBruijn32tab), ("math/bits.deBruijn64tab", laid_math_bits_deBruijn64tab), ("internal/strconv.uint64pow10", laid_internal_strconv_uint64pow10), ("versine/network.ways", laid_versine_network_ways), ("versine/network.sides", laid_versine_network_sides)] }
def NetworkMapsSaid : Prop := networkMapsRow.holds Tryz.pinned (OpenSpec.ofChange networkMapsSpec)

/-- ITS FALSE NEIGHBOUR: 'it returns false'. Refute it at one input. -/
def networkMapsWrong : ChangeSpec := { name := "networkMaps", fn := fun _ => fun
  | [d1, d2, d3] => { results := [.lit (.bool false)], args := [d1, d2, d3] }
  | _ => none }
def NetworkMapsWrongFalsely : Prop := networkMapsRow.holds Tryz.pinned (OpenSpec.ofChange networkMapsWrong)

/-- 'versinelaw02.NetworkNamed': WHATEVER THE INPUT: true; the input reads as it did. -/
def networkNamedSpec : ChangeSpec := { name := "networkNamed", fn := fun _ => fun
  | [d1, d2] => { results := [.lit (.bool true)], args := [d1, d2] }
  | _ => none }
def networkNamedRow : OpenClaim := { program := "ytepaopekeidlmaagreatdoor", sum := "a1ee31c4cf048f9825318a9d97bb4b684199cf78ab95b6a0457e00581149d7bf", func := "versine/versinelaw02.NetworkNamed", spec := "networkNamed", inPlace := ["internal/bytealg.abigen_runtime_cmpstring", "internal/abi.NoEscape", "internal/bytealg.MakeNoZero"], unfollowed := true, recurses := true, named := ["versine/network.ways", "versine/network.sides", "internal/strconv.uint64pow10", "math/bits.deBruijn32tab", "math/bits.deBruijn64tab"], plainKeys := false, apart := false, laid := [("math/bits.deBruijn32tab", laid_math_bits_deBruijn32tab), ("math/bits.deBruijn64tab", laid_math_bits_deBruijn64tab), ("internal/strconv.uint64pow10", laid_internal_strconv_uint64pow10), ("versine/network.ways", laid_versine_network_ways), ("versine/network.sides", laid_versine_network_sides)] }
def NetworkNamedSaid : Prop := networkNamedRow.holds Tryz.pinned (OpenSpec.ofChange networkNamedSpec)

/-- ITS FALSE NEIGHBOUR: 'it returns false'. Refute it at one input. -/
def networkNamedWrong : ChangeSpec := { name := "networkNamed", fn := fun _ => fun
  | [d1, d2] => { results := [.lit (.bool false)], args := [d1, d2] }
  | _ => none }
def NetworkNamedWrongFalsely : Prop := networkNamedRow.holds Tryz.pinned (OpenSpec.ofChange networkNamedWrong)

/-- 'versinelaw02.NetworkForms': WHATEVER THE INPUT: true; the input reads as it did. -/
def networkFormsSpec : ChangeSpec := { name := "networkForms", fn := fun _ => fun
  | [d1, d2] => { results := [.lit (.bool true)], args := [d1, d2] }
  | _ => none }
def networkFormsRow : OpenClaim := { program := "ytepaopekeidlmaagreatdoor", sum := "a1ee31c4cf048f9825318a9d97bb4b684199cf78ab95b6a0457e00581149d7bf", func := "versine/versinelaw02.NetworkForms", spec := "networkForms", inPlace := ["internal/bytealg.abigen_runtime_cmpstring", "internal/abi.NoEscape", "internal/bytealg.MakeNoZero"], unfollowed := true, recurses := true, named := ["versine/network.ways", "versine/network.sides", "internal/strconv.uint64pow10", "math/bits.deBruijn32tab", "math/bits.deBruijn64tab"], plainKeys := false, apart := false, laid := [("math/bits.deBruijn32tab", laid_math_bits_deBruijn32tab), ("math/bits.deBruijn64tab", laid_math_bits_deBruijn64tab), ("internal/strconv.uint64pow10", laid_internal_strconv_uint64pow10), ("versine/network.ways", laid_versine_network_ways), ("versine/network.sides", laid_versine_network_sides)] }
def NetworkFormsSaid : Prop := networkFormsRow.holds Tryz.pinned (OpenSpec.ofChange networkFormsSpec)

/-- ITS FALSE NEIGHBOUR: 'it returns false'. Refute it at one input. -/
def networkFormsWrong : ChangeSpec := { name := "networkForms", fn := fun _ => fun
  | [d1, d2] => { results := [.lit (.bool false)], args := [d1, d2] }
  | _ => none }
def NetworkFormsWrongFalsely : Prop := networkFormsRow.holds Tryz.pinned (OpenSpec.ofChange networkFormsWrong)

/-- 'versinelaw02.NetworkDates': WHATEVER THE INPUT: true; the input reads as it did. -/
def networkDatesSpec : ChangeSpec := { name := "networkDates", fn := fun _ => fun
  | [d1, d2, d3] => { results := [.lit (.bool true)], args := [d1, d2, d3] }
  | _ => none }
def networkDatesRow : OpenClaim := { program := "ytepaopekeidlmaagreatdoor", sum := "a1ee31c4cf048f9825318a9d97bb4b684199cf78ab95b6a0457e00581149d7bf", func := "versine/versinelaw02.NetworkDates", spec := "networkDates", inPlace := ["internal/bytealg.abigen_runtime_cmpstring", "internal/abi.NoEscape", "internal/bytealg.MakeNoZero"], unfollowed := true, recurses := true, named := ["versine/network.ways", "versine/network.sides", "internal/strconv.uint64pow10", "math/bits.deBruijn32tab", "math/bits.deBruijn64tab"], plainKeys := false, apart := false, laid := [("math/bits.deBruijn32tab", laid_math_bits_deBruijn32tab), ("math/bits.deBruijn64tab", laid_math_bits_deBruijn64tab), ("internal/strconv.uint64pow10", laid_internal_strconv_uint64pow10), ("versine/network.ways", laid_versine_network_ways), ("versine/network.sides", laid_versine_network_sides)] }
def NetworkDatesSaid : Prop := networkDatesRow.holds Tryz.pinned (OpenSpec.ofChange networkDatesSpec)

/-- ITS FALSE NEIGHBOUR: 'it returns false'. Refute it at one input. -/
def networkDatesWrong : ChangeSpec := { name := "networkDates", fn := fun _ => fun
  | [d1, d2, d3] => { results := [.lit (.bool false)], args := [d1, d2, d3] }
  | _ => none }
def NetworkDatesWrongFalsely : Prop := networkDatesRow.holds Tryz.pinned (OpenSpec.ofChange networkDatesWrong)

/-- 'versinelaw02.NetworkUndoes': WHATEVER THE INPUT: true; the input reads as it did. -/
def networkUndoesSpec : ChangeSpec := { name := "networkUndoes", fn := fun _ => fun
  | [d1, d2] => { results := [.lit (.bool true)], args := [d1, d2] }
  | _ => none }
def networkUndoesRow : OpenClaim := { program := "ytepaopekeidlmaagreatdoor", sum := "a1ee31c4cf048f9825318a9d97bb4b684199cf78ab95b6a0457e00581149d7bf", func := "versine/versinelaw02.NetworkUndoes", spec := "networkUndoes", inPlace := ["internal/bytealg.abigen_runtime_cmpstring", "internal/abi.NoEscape", "internal/bytealg.MakeNoZero"], unfollowed := true, recurses := true, named := ["versine/network.ways", "versine/network.sides", "internal/strconv.uint64pow10", "math/bits.deBruijn32tab", "math/bits.deBruijn64tab"], plainKeys := false, apart := false, laid := [("math/bits.deBruijn32tab", laid_math_bits_deBruijn32tab), ("math/bits.deBruijn64tab", laid_math_bits_deBruijn64tab), ("internal/strconv.uint64pow10", laid_internal_strconv_uint64pow10), ("versine/network.ways", laid_versine_network_ways), ("versine/network.sides", laid_versine_network_sides)] }
def NetworkUndoesSaid : Prop := networkUndoesRow.holds Tryz.pinned (OpenSpec.ofChange networkUndoesSpec)

/-- ITS FALSE NEIGHBOUR: 'it returns false'. Refute it at one input. -/
def networkUndoesWrong : ChangeSpec := { name := "networkUndoes", fn := fun _ => fun
  | [d1, d2] => { results := [.lit (.bool false)], args := [d1, d2] }
  | _ => none }
def NetworkUndoesWrongFalsely : Prop := networkUndoesRow.holds Tryz.pinned (OpenSpec.ofChange networkUndoesWrong)

/-- 'versinelaw02.NetworkSince': WHATEVER THE INPUT: true; the input reads as it did. -/
def networkSinceSpec : ChangeSpec := { name := "networkSince", fn := fun _ => fun
  | [d1, d2, d3] => { results := [.lit (.bool true)], args := [d1, d2, d3] }
  | _ => none }
def networkSinceRow : OpenClaim := { program := "ytepaopekeidlmaagreatdoor", sum := "a1ee31c4cf048f9825318a9d97bb4b684199cf78ab95b6a0457e00581149d7bf", func := "versine/versinelaw02.NetworkSince", spec := "networkSince", inPlace := ["internal/bytealg.abigen_runtime_cmpstring", "internal/abi.NoEscape", "internal/bytealg.MakeNoZero"], unfollowed := true, recurses := true, named := ["versine/network.ways", "versine/network.sides", "internal/strconv.uint64pow10", "math/bits.deBruijn32tab", "math/bits.deBruijn64tab"], plainKeys := false, apart := false, laid := [("math/bits.deBruijn32tab", laid_math_bits_deBruijn32tab), ("math/bits.deBruijn64tab", laid_math_bits_deBruijn64tab), ("internal/strconv.uint64pow10", laid_internal_strconv_uint64pow10), ("versine/network.ways", laid_versine_network_ways), ("versine/network.sides", laid_versine_network_sides)] }
def NetworkSinceSaid : Prop := networkSinceRow.holds Tryz.pinned (OpenSpec.ofChange networkSinceSpec)

/-- ITS FALSE NEIGHBOUR: 'it returns false'. Refute it at one input. -/
def networkSinceWrong : ChangeSpec := { name := "networkSince", fn := fun _ => fun
  | [d1, d2, d3] => { results := [.lit (.bool false)], args := [d1, d2, d3] }
  | _ => none }
def NetworkSinceWrongFalsely : Prop := networkSinceRow.holds Tryz.pinned (OpenSpec.ofChange networkSinceWrong)

/-- 'versinelaw02.NetworkWays': WHATEVER THE INPUT: true; the input reads as it did. -/
def networkWaysSpec : ChangeSpec := { name := "networkWays", fn := fun _ => fun
  | [d1, d2, d3] => { results := [.lit (.bool true)], args := [d1, d2, d3] }
  | _ => none }
def networkWaysRow : OpenClaim := { program := "ytepaopekeidlmaagreatdoor", sum := "a1ee31c4cf048f9825318a9d97bb4b684199cf78ab95b6a0457e00581149d7bf", func := "versine/versinelaw02.NetworkWays", spec := "networkWays", inPlace := ["internal/bytealg.abigen_runtime_cmpstring", "internal/abi.NoEscape", "internal/bytealg.MakeNoZero"], unfollowed := true, recurses := true, named := ["versine/network.ways", "versine/network.sides", "internal/strconv.uint64pow10", "math/bits.deBruijn32tab", "math/bits.deBruijn64tab"], plainKeys := false, apart := false, laid := [("math/bits.deBruijn32tab", laid_math_bits_deBruijn32tab), ("math/bits.deBruijn64tab", laid_math_bits_deBruijn64tab), ("internal/strconv.uint64pow10", laid_internal_strconv_uint64pow10), ("versine/network.ways", laid_versine_network_ways), ("versine/network.sides", laid_versine_network_sides)] }
def NetworkWaysSaid : Prop := networkWaysRow.holds Tryz.pinned (OpenSpec.ofChange networkWaysSpec)

/-- ITS FALSE NEIGHBOUR: 'it returns false'. Refute it at one input. -/
def networkWaysWrong : ChangeSpec := { name := "networkWays", fn := fun _ => fun
  | [d1, d2, d3] => { results := [.lit (.bool false)], args := [d1, d2, d3] }
  | _ => none }
def NetworkWaysWrongFalsely : Prop := networkWaysRow.holds Tryz.pinned (OpenSpec.ofChange networkWaysWrong)

/-- 'versinelaw02.NetworkLeast': WHATEVER THE INPUT: true; the input reads as it did. -/
def networkLeastSpec : ChangeSpec := { name := "networkLeast", fn := fun _ => fun
  | [d1, d2, d3] => { results := [.lit (.bool true)], args := [d1, d2, d3] }
  | _ => none }
def networkLeastRow : OpenClaim := { program := "ytepaopekeidlmaagreatdoor", sum := "a1ee31c4cf048f9825318a9d97bb4b684199cf78ab95b6a0457e00581149d7bf", func := "versine/versinelaw02.NetworkLeast", spec := "networkLeast", inPlace := ["internal/bytealg.abigen_runtime_cmpstring", "internal/abi.NoEscape", "internal/bytealg.MakeNoZero"], unfollowed := true, recurses := true, named := ["versine/network.ways", "versine/network.sides", "internal/strconv.uint64pow10", "math/bits.deBruijn32tab", "math/bits.deBruijn64tab"], plainKeys := false, apart := false, laid := [("math/bits.deBruijn32tab", laid_math_bits_deBruijn32tab), ("math/bits.deBruijn64tab", laid_math_bits_deBruijn64tab), ("internal/strconv.uint64pow10", laid_internal_strconv_uint64pow10), ("versine/network.ways", laid_versine_network_ways), ("versine/network.sides", laid_versine_network_sides)] }
def NetworkLeastSaid : Prop := networkLeastRow.holds Tryz.pinned (OpenSpec.ofChange networkLeastSpec)

/-- ITS FALSE NEIGHBOUR: 'it returns false'. Refute it at one input. -/
def networkLeastWrong : ChangeSpec := { name := "networkLeast", fn := fun _ => fun
  | [d1, d2, d3] => { results := [.lit (.bool false)], args := [d1, d2, d3] }
  | _ => none }
def NetworkLeastWrongFalsely : Prop := networkLeastRow.holds Tryz.pinned (OpenSpec.ofChange networkLeastWrong)

/-- 'versinelaw02.NetworkPosts': WHATEVER THE INPUT: true; the input reads as it did. -/
def networkPostsSpec : ChangeSpec := { name := "networkPosts", fn := fun _ => fun
  | [d1, d2, d3] => { results := [.lit (.bool true)], args := [d1, d2, d3] }
  | _ => none }
def networkPostsRow : OpenClaim := { program := "ytepaopekeidlmaagreatdoor", sum := "a1ee31c4cf048f9825318a9d97bb4b684199cf78ab95b6a0457e00581149d7bf", func := "versine/versinelaw02.NetworkPosts", spec := "networkPosts", inPlace := ["internal/bytealg.abigen_runtime_cmpstring", "internal/abi.NoEscape", "internal/bytealg.MakeNoZero"], unfollowed := true, recurses := true, named := ["versine/network.ways", "versine/network.sides", "internal/strconv.uint64pow10", "math/bits.deBruijn32tab", "math/bits.deBruijn64tab"], plainKeys := false, apart := false, laid := [("math/bits.deBruijn32tab", laid_math_bits_deBruijn32tab), ("math/bits.deBruijn64tab", laid_math_bits_deBruijn64tab), ("internal/strconv.uint64pow10", laid_internal_strconv_uint64pow10), ("versine/network.ways", laid_versine_network_ways), ("versine/network.sides", laid_versine_network_sides)] }
def NetworkPostsSaid : Prop := networkPostsRow.holds Tryz.pinned (OpenSpec.ofChange networkPostsSpec)

/-- ITS FALSE NEIGHBOUR: 'it returns false'. Refute it at one input. -/
def networkPostsWrong : ChangeSpec := { name := "networkPosts", fn := fun _ => fun
  | [d1, d2, d3] => { results := [.lit (.bool false)], args := [d1, d2, d3] }
  | _ => none }
def NetworkPostsWrongFalsely : Prop := networkPostsRow.holds Tryz.pinned (OpenSpec.ofChange networkPostsWrong)

/-- 'versinelaw02.NetworkTexts': WHATEVER THE INPUT: true; the input reads as it did. -/
def networkTextsSpec : ChangeSpec := { name := "networkTexts", fn := fun _ => fun
  | [d1, d2] => { results := [.lit (.bool true)], args := [d1, d2] }
  | _ => none }
def networkTextsRow : OpenClaim := { program := "ytepaopekeidlmaagreatdoor", sum := "a1ee31c4cf048f9825318a9d97bb4b684199cf78ab95b6a0457e00581149d7bf", func := "versine/versinelaw02.NetworkTexts", spec := "networkTexts", inPlace := ["internal/bytealg.abigen_runtime_cmpstring", "internal/abi.NoEscape", "internal/bytealg.MakeNoZero", "internal/bytealg.IndexByteString", "internal/bytealg.CountString", "internal/bytealg.IndexString"], unfollowed := true, recurses := true, named := ["versine/network.ways", "versine/network.sides", "internal/strconv.uint64pow10", "math/bits.deBruijn32tab", "math/bits.deBruijn64tab", "unicode/utf8.first", "unicode/utf8.acceptRanges", "internal/bytealg.MaxLen"], plainKeys := false, apart := false, laid := [("math/bits.deBruijn32tab", laid_math_bits_deBruijn32tab), ("math/bits.deBruijn64tab", laid_math_bits_deBruijn64tab), ("internal/strconv.uint64pow10", laid_internal_strconv_uint64pow10), ("unicode/utf8.acceptRanges", laid_unicode_utf8_acceptRanges), ("versine/network.ways", laid_versine_network_ways), ("versine/network.sides", laid_versine_network_sides), ("unicode/utf8.first", laid_unicode_utf8_first)] }
def NetworkTextsSaid : Prop := networkTextsRow.holds Tryz.pinned (OpenSpec.ofChange networkTextsSpec)

/-- ITS FALSE NEIGHBOUR: 'it returns false'. Refute it at one input. -/
def networkTextsWrong : ChangeSpec := { name := "networkTexts", fn := fun _ => fun
  | [d1, d2] => { results := [.lit (.bool false)], args := [d1, d2] }
  | _ => none }
def NetworkTextsWrongFalsely : Prop := networkTextsRow.holds Tryz.pinned (OpenSpec.ofChange networkTextsWrong)

/-- 'versinelaw02.NetworkBack': WHATEVER THE INPUT: true; the input reads as it did. -/
def networkBackSpec : ChangeSpec := { name := "networkBack", fn := fun _ => fun
  | [d1, d2] => { results := [.lit (.bool true)], args := [d1, d2] }
  | _ => none }
def networkBackRow : OpenClaim := { program := "ytepaopekeidlmaagreatdoor", sum := "a1ee31c4cf048f9825318a9d97bb4b684199cf78ab95b6a0457e00581149d7bf", func := "versine/versinelaw02.NetworkBack", spec := "networkBack", inPlace := ["internal/bytealg.abigen_runtime_cmpstring", "internal/abi.NoEscape", "internal/bytealg.MakeNoZero", "internal/bytealg.IndexByteString", "internal/bytealg.CountString", "internal/bytealg.IndexString"], unfollowed := true, recurses := true, named := ["versine/network.ways", "versine/network.sides", "internal/strconv.uint64pow10", "math/bits.deBruijn32tab", "math/bits.deBruijn64tab", "unicode/utf8.first", "unicode/utf8.acceptRanges", "internal/bytealg.MaxLen"], plainKeys := false, apart := false, laid := [("math/bits.deBruijn32tab", laid_math_bits_deBruijn32tab), ("math/bits.deBruijn64tab", laid_math_bits_deBruijn64tab), ("internal/strconv.uint64pow10", laid_internal_strconv_uint64pow10), ("unicode/utf8.acceptRanges", laid_unicode_utf8_acceptRanges), ("versine/network.ways", laid_versine_network_ways), ("versine/network.sides", laid_versine_network_sides), ("unicode/utf8.first", laid_unicode_utf8_first)] }
def NetworkBackSaid : Prop := networkBackRow.holds Tryz.pinned (OpenSpec.ofChange networkBackSpec)

/-- ITS FALSE NEIGHBOUR: 'it returns false'. Refute it at one input. -/
def networkBackWrong : ChangeSpec := { name := "networkBack", fn := fun _ => fun
  | [d1, d2] => { results := [.lit (.bool false)], args := [d1, d2] }
  | _ => none }
def NetworkBackWrongFalsely : Prop := networkBackRow.holds Tryz.pinned (OpenSpec.ofChange networkBackWrong)

/- THE SECOND FORM. 'bulk': how many values and letters a reading holds, each counted each time it is reached (what is shared counts as often as it is met; a slice's spare places count too). A statement '..UptoSaid' is the law's where the arguments, and the package variables that the reading takes, are together of bulk at most 1048576: NARROWER than '..Said'. Prove '..Said' where nothing that the law and all that it calls make is longer than what came in: it says more and counts as full. Else prove '..UptoSaid'. A law counts once. -/
mutual
def uptoBulk {H : Type} : DataW H → Nat
  | .lit (.string bytes) => bytes.length + 1
  | .lit _ => 1
  | .nil => 1
  | .ptr d => uptoBulk d + 1
  | .slice elems spare => uptoBulkAll elems + uptoBulkAll spare + 1
  | .agg parts => uptoBulkAll parts + 1
  | .iface _ d => uptoBulk d + 1
  | .map entries => uptoBulkEntries entries + 1
  | .held _ => 1
def uptoBulkAll {H : Type} : List (DataW H) → Nat
  | [] => 0
  | d :: r => uptoBulk d + uptoBulkAll r
def uptoBulkEntries {H : Type} : List (Lit × DataW H) → Nat
  | [] => 0
  | x :: r => uptoBulkEntry x + uptoBulkEntries r
def uptoBulkEntry {H : Type} : Lit × DataW H → Nat
  | (.string bytes, d) => bytes.length + uptoBulk d + 1
  | (_, d) => uptoBulk d + 1
 end
def uptoSmall : (H : Type) → List (DataW H) → Bool := fun _ ds => decide (uptoBulkAll ds ≤ 1048576)
def OpenSpec.upto (s : _root_.Go.ChangeSpec) : _root_.Go.OpenSpec := { _root_.Go.OpenSpec.ofChange s with cond := some uptoSmall }

/-- 'versinelaw02.NetworkPlaces', WHERE WHAT IT READS IS OF BULK AT MOST 1048576: true; the input reads as it did. -/
def networkPlacesUptoRow : OpenClaim := { program := "ytepaopekeidlmaagreatdoor", sum := "a1ee31c4cf048f9825318a9d97bb4b684199cf78ab95b6a0457e00581149d7bf", func := "versine/versinelaw02.NetworkPlaces", spec := "networkPlaces", inPlace := ["internal/bytealg.abigen_runtime_cmpstring", "internal/abi.NoEscape", "internal/bytealg.MakeNoZero"], unfollowed := true, recurses := true, named := ["versine/network.ways", "versine/network.sides", "internal/strconv.uint64pow10", "math/bits.deBruijn32tab", "math/bits.deBruijn64tab"], plainKeys := false, apart := false, laid := [("math/bits.deBruijn32tab", laid_math_bits_deBruijn32tab), ("math/bits.deBruijn64tab", laid_math_bits_deBruijn64tab), ("internal/strconv.uint64pow10", laid_internal_strconv_uint64pow10), ("versine/network.ways", laid_versine_network_ways), ("versine/network.sides", laid_versine_network_sides)], narrowed := true }
def NetworkPlacesUptoSaid : Prop := networkPlacesUptoRow.holds Tryz.pinned (OpenSpec.upto networkPlacesSpec)

/-- 'versinelaw02.NetworkReaches', WHERE WHAT IT READS IS OF BULK AT MOST 1048576: true; the input reads as it did. -/
def networkReachesUptoRow : OpenClaim := { program := "ytepaopekeidlmaagreatdoor", sum := "a1ee31c4cf048f9825318a9d97bb4b684199cf78ab95b6a0457e00581149d7bf", func := "versine/versinelaw02.NetworkReaches", spec := "networkReaches", inPlace := ["internal/bytealg.abigen_runtime_cmpstring", "internal/abi.NoEscape", "internal/bytealg.MakeNoZero"], unfollowed := true, recurses := true, named := ["versine/network.ways", "versine/network.sides", "internal/strconv.uint64pow10", "math/bits.deBruijn32tab", "math/bits.deBruijn64tab"], plainKeys := false, apart := false, laid := [("math/bits.deBruijn32tab", laid_math_bits_deBruijn32tab), ("math/bits.deBruijn64tab", laid_math_bits_deBruijn64tab), ("internal/strconv.uint64pow10", laid_internal_strconv_uint64pow10), ("versine/network.ways", laid_versine_network_ways), ("versine/network.sides", laid_versine_network_sides)], narrowed := true }
def NetworkReachesUptoSaid : Prop := networkReachesUptoRow.holds Tryz.pinned (OpenSpec.upto networkReachesSpec)

/-- 'versinelaw02.NetworkMaps', WHERE WHAT IT READS IS OF BULK AT MOST 1048576: true; the input reads as it did. -/
def networkMapsUptoRow : OpenClaim := { program := "ytepaopekeidlmaagreatdoor", sum := "a1ee31c4cf048f9825318a9d97bb4b684199cf78ab95b6a0457e00581149d7bf", func := "versine/versinelaw02.NetworkMaps", spec := "networkMaps", inPlace := ["internal/bytealg.abigen_runtime_cmpstring", "internal/abi.NoEscape", "internal/bytealg.MakeNoZero"], unfollowed := true, recurses := true, named := ["versine/network.ways", "versine/network.sides", "internal/strconv.uint64pow10", "math/bits.deBruijn32tab", "math/bits.deBruijn64tab"], plainKeys := false, apart := false, laid := [("math/bits.deBruijn32tab", laid_math_bits_deBruijn32tab), ("math/bits.deBruijn64tab", laid_math_bits_deBruijn64tab), ("internal/strconv.uint64pow10", laid_internal_strconv_uint64pow10), ("versine/network.ways", laid_versine_network_ways), ("versine/network.sides", laid_versine_network_sides)], narrowed := true }
def NetworkMapsUptoSaid : Prop := networkMapsUptoRow.holds Tryz.pinned (OpenSpec.upto networkMapsSpec)

/-- 'versinelaw02.NetworkNamed', WHERE WHAT IT READS IS OF BULK AT MOST 1048576: true; the input reads as it did. -/
def networkNamedUptoRow : OpenClaim := { program := "ytepaopekeidlmaagreatdoor", sum := "a1ee31c4cf048f9825318a9d97bb4b684199cf78ab95b6a0457e00581149d7bf", func := "versine/versinelaw02.NetworkNamed", spec := "networkNamed", inPlace := ["internal/bytealg.abigen_runtime_cmpstring", "internal/abi.NoEscape", "internal/bytealg.MakeNoZero"], unfollowed := true, recurses := true, named := ["versine/network.ways", "versine/network.sides", "internal/strconv.uint64pow10", "math/bits.deBruijn32tab", "math/bits.deBruijn64tab"], plainKeys := false, apart := false, laid := [("math/bits.deBruijn32tab", laid_math_bits_deBruijn32tab), ("math/bits.deBruijn64tab", laid_math_bits_deBruijn64tab), ("internal/strconv.uint64pow10", laid_internal_strconv_uint64pow10), ("versine/network.ways", laid_versine_network_ways), ("versine/network.sides", laid_versine_network_sides)], narrowed := true }
def NetworkNamedUptoSaid : Prop := networkNamedUptoRow.holds Tryz.pinned (OpenSpec.upto networkNamedSpec)

/-- 'versinelaw02.NetworkForms', WHERE WHAT IT READS IS OF BULK AT MOST 1048576: true; the input reads as it did. -/
def networkFormsUptoRow : OpenClaim := { program := "ytepaopekeidlmaagreatdoor", sum := "a1ee31c4cf048f9825318a9d97bb4b684199cf78ab95b6a0457e00581149d7bf", func := "versine/versinelaw02.NetworkForms", spec := "networkForms", inPlace := ["internal/bytealg.abigen_runtime_cmpstring", "internal/abi.NoEscape", "internal/bytealg.MakeNoZero"], unfollowed := true, recurses := true, named := ["versine/network.ways", "versine/network.sides", "internal/strconv.uint64pow10", "math/bits.deBruijn32tab", "math/bits.deBruijn64tab"], plainKeys := false, apart := false, laid := [("math/bits.deBruijn32tab", laid_math_bits_deBruijn32tab), ("math/bits.deBruijn64tab", laid_math_bits_deBruijn64tab), ("internal/strconv.uint64pow10", laid_internal_strconv_uint64pow10), ("versine/network.ways", laid_versine_network_ways), ("versine/network.sides", laid_versine_network_sides)], narrowed := true }
def NetworkFormsUptoSaid : Prop := networkFormsUptoRow.holds Tryz.pinned (OpenSpec.upto networkFormsSpec)

/-- 'versinelaw02.NetworkDates', WHERE WHAT IT READS IS OF BULK AT MOST 1048576: true; the input reads as it did. -/
def networkDatesUptoRow : OpenClaim := { program := "ytepaopekeidlmaagreatdoor", sum := "a1ee31c4cf048f9825318a9d97bb4b684199cf78ab95b6a0457e00581149d7bf", func := "versine/versinelaw02.NetworkDates", spec := "networkDates", inPlace := ["internal/bytealg.abigen_runtime_cmpstring", "internal/abi.NoEscape", "internal/bytealg.MakeNoZero"], unfollowed := true, recurses := true, named := ["versine/network.ways", "versine/network.sides", "internal/strconv.uint64pow10", "math/bits.deBruijn32tab", "math/bits.deBruijn64tab"], plainKeys := false, apart := false, laid := [("math/bits.deBruijn32tab", laid_math_bits_deBruijn32tab), ("math/bits.deBruijn64tab", laid_math_bits_deBruijn64tab), ("internal/strconv.uint64pow10", laid_internal_strconv_uint64pow10), ("versine/network.ways", laid_versine_network_ways), ("versine/network.sides", laid_versine_network_sides)], narrowed := true }
def NetworkDatesUptoSaid : Prop := networkDatesUptoRow.holds Tryz.pinned (OpenSpec.upto networkDatesSpec)

/-- 'versinelaw02.NetworkUndoes', WHERE WHAT IT READS IS OF BULK AT MOST 1048576: true; the input reads as it did. -/
def networkUndoesUptoRow : OpenClaim := { program := "ytepaopekeidlmaagreatdoor", sum := "a1ee31c4cf048f9825318a9d97bb4b684199cf78ab95b6a0457e00581149d7bf", func := "versine/versinelaw02.NetworkUndoes", spec := "networkUndoes", inPlace := ["internal/bytealg.abigen_runtime_cmpstring", "internal/abi.NoEscape", "internal/bytealg.MakeNoZero"], unfollowed := true, recurses := true, named := ["versine/network.ways", "versine/network.sides", "internal/strconv.uint64pow10", "math/bits.deBruijn32tab", "math/bits.deBruijn64tab"], plainKeys := false, apart := false, laid := [("math/bits.deBruijn32tab", laid_math_bits_deBruijn32tab), ("math/bits.deBruijn64tab", laid_math_bits_deBruijn64tab), ("internal/strconv.uint64pow10", laid_internal_strconv_uint64pow10), ("versine/network.ways", laid_versine_network_ways), ("versine/network.sides", laid_versine_network_sides)], narrowed := true }
def NetworkUndoesUptoSaid : Prop := networkUndoesUptoRow.holds Tryz.pinned (OpenSpec.upto networkUndoesSpec)

/-- 'versinelaw02.NetworkSince', WHERE WHAT IT READS IS OF BULK AT MOST 1048576: true; the input reads as it did. -/
def networkSinceUptoRow : OpenClaim := { program := "ytepaopekeidlmaagreatdoor", sum := "a1ee31c4cf048f9825318a9d97bb4b684199cf78ab95b6a0457e00581149d7bf", func := "versine/versinelaw02.NetworkSince", spec := "networkSince", inPlace := ["internal/bytealg.abigen_runtime_cmpstring", "internal/abi.NoEscape", "internal/bytealg.MakeNoZero"], unfollowed := true, recurses := true, named := ["versine/network.ways", "versine/network.sides", "internal/strconv.uint64pow10", "math/bits.deBruijn32tab", "math/bits.deBruijn64tab"], plainKeys := false, apart := false, laid := [("math/bits.deBruijn32tab", laid_math_bits_deBruijn32tab), ("math/bits.deBruijn64tab", laid_math_bits_deBruijn64tab), ("internal/strconv.uint64pow10", laid_internal_strconv_uint64pow10), ("versine/network.ways", laid_versine_network_ways), ("versine/network.sides", laid_versine_network_sides)], narrowed := true }
def NetworkSinceUptoSaid : Prop := networkSinceUptoRow.holds Tryz.pinned (OpenSpec.upto networkSinceSpec)

/-- 'versinelaw02.NetworkWays', WHERE WHAT IT READS IS OF BULK AT MOST 1048576: true; the input reads as it did. -/
def networkWaysUptoRow : OpenClaim := { program := "ytepaopekeidlmaagreatdoor", sum := "a1ee31c4cf048f9825318a9d97bb4b684199cf78ab95b6a0457e00581149d7bf", func := "versine/versinelaw02.NetworkWays", spec := "networkWays", inPlace := ["internal/bytealg.abigen_runtime_cmpstring", "internal/abi.NoEscape", "internal/bytealg.MakeNoZero"], unfollowed := true, recurses := true, named := ["versine/network.ways", "versine/network.sides", "internal/strconv.uint64pow10", "math/bits.deBruijn32tab", "math/bits.deBruijn64tab"], plainKeys := false, apart := false, laid := [("math/bits.deBruijn32tab", laid_math_bits_deBruijn32tab), ("math/bits.deBruijn64tab", laid_math_bits_deBruijn64tab), ("internal/strconv.uint64pow10", laid_internal_strconv_uint64pow10), ("versine/network.ways", laid_versine_network_ways), ("versine/network.sides", laid_versine_network_sides)], narrowed := true }
def NetworkWaysUptoSaid : Prop := networkWaysUptoRow.holds Tryz.pinned (OpenSpec.upto networkWaysSpec)

/-- 'versinelaw02.NetworkLeast', WHERE WHAT IT READS IS OF BULK AT MOST 1048576: true; the input reads as it did. -/
def networkLeastUptoRow : OpenClaim := { program := "ytepaopekeidlmaagreatdoor", sum := "a1ee31c4cf048f9825318a9d97bb4b684199cf78ab95b6a0457e00581149d7bf", func := "versine/versinelaw02.NetworkLeast", spec := "networkLeast", inPlace := ["internal/bytealg.abigen_runtime_cmpstring", "internal/abi.NoEscape", "internal/bytealg.MakeNoZero"], unfollowed := true, recurses := true, named := ["versine/network.ways", "versine/network.sides", "internal/strconv.uint64pow10", "math/bits.deBruijn32tab", "math/bits.deBruijn64tab"], plainKeys := false, apart := false, laid := [("math/bits.deBruijn32tab", laid_math_bits_deBruijn32tab), ("math/bits.deBruijn64tab", laid_math_bits_deBruijn64tab), ("internal/strconv.uint64pow10", laid_internal_strconv_uint64pow10), ("versine/network.ways", laid_versine_network_ways), ("versine/network.sides", laid_versine_network_sides)], narrowed := true }
def NetworkLeastUptoSaid : Prop := networkLeastUptoRow.holds Tryz.pinned (OpenSpec.upto networkLeastSpec)

/-- 'versinelaw02.NetworkPosts', WHERE WHAT IT READS IS OF BULK AT MOST 1048576: true; the input reads as it did. -/
def networkPostsUptoRow : OpenClaim := { program := "ytepaopekeidlmaagreatdoor", sum := "a1ee31c4cf048f9825318a9d97bb4b684199cf78ab95b6a0457e00581149d7bf", func := "versine/versinelaw02.NetworkPosts", spec := "networkPosts", inPlace := ["internal/bytealg.abigen_runtime_cmpstring", "internal/abi.NoEscape", "internal/bytealg.MakeNoZero"], unfollowed := true, recurses := true, named := ["versine/network.ways", "versine/network.sides", "internal/strconv.uint64pow10", "math/bits.deBruijn32tab", "math/bits.deBruijn64tab"], plainKeys := false, apart := false, laid := [("math/bits.deBruijn32tab", laid_math_bits_deBruijn32tab), ("math/bits.deBruijn64tab", laid_math_bits_deBruijn64tab), ("internal/strconv.uint64pow10", laid_internal_strconv_uint64pow10), ("versine/network.ways", laid_versine_network_ways), ("versine/network.sides", laid_versine_network_sides)], narrowed := true }
def NetworkPostsUptoSaid : Prop := networkPostsUptoRow.holds Tryz.pinned (OpenSpec.upto networkPostsSpec)

/-- 'versinelaw02.NetworkTexts', WHERE WHAT IT READS IS OF BULK AT MOST 1048576: true; the input reads as it did. -/
def networkTextsUptoRow : OpenClaim := { program := "ytepaopekeidlmaagreatdoor", sum := "a1ee31c4cf048f9825318a9d97bb4b684199cf78ab95b6a0457e00581149d7bf", func := "versine/versinelaw02.NetworkTexts", spec := "networkTexts", inPlace := ["internal/bytealg.abigen_runtime_cmpstring", "internal/abi.NoEscape", "internal/bytealg.MakeNoZero", "internal/bytealg.IndexByteString", "internal/bytealg.CountString", "internal/bytealg.IndexString"], unfollowed := true, recurses := true, named := ["versine/network.ways", "versine/network.sides", "internal/strconv.uint64pow10", "math/bits.deBruijn32tab", "math/bits.deBruijn64tab", "unicode/utf8.first", "unicode/utf8.acceptRanges", "internal/bytealg.MaxLen"], plainKeys := false, apart := false, laid := [("math/bits.deBruijn32tab", laid_math_bits_deBruijn32tab), ("math/bits.deBruijn64tab", laid_math_bits_deBruijn64tab), ("internal/strconv.uint64pow10", laid_internal_strconv_uint64pow10), ("unicode/utf8.acceptRanges", laid_unicode_utf8_acceptRanges), ("versine/network.ways", laid_versine_network_ways), ("versine/network.sides", laid_versine_network_sides), ("unicode/utf8.first", laid_unicode_utf8_first)], narrowed := true }
def NetworkTextsUptoSaid : Prop := networkTextsUptoRow.holds Tryz.pinned (OpenSpec.upto networkTextsSpec)

/-- 'versinelaw02.NetworkBack', WHERE WHAT IT READS IS OF BULK AT MOST 1048576: true; the input reads as it did. -/
def networkBackUptoRow : OpenClaim := { program := "ytepaopekeidlmaagreatdoor", sum := "a1ee31c4cf048f9825318a9d97bb4b684199cf78ab95b6a0457e00581149d7bf", func := "versine/versinelaw02.NetworkBack", spec := "networkBack", inPlace := ["internal/bytealg.abigen_runtime_cmpstring", "internal/abi.NoEscape", "internal/bytealg.MakeNoZero", "internal/bytealg.IndexByteString", "internal/bytealg.CountString", "internal/bytealg.IndexString"], unfollowed := true, recurses := true, named := ["versine/network.ways", "versine/network.sides", "internal/strconv.uint64pow10", "math/bits.deBruijn32tab", "math/bits.deBruijn64tab", "unicode/utf8.first", "unicode/utf8.acceptRanges", "internal/bytealg.MaxLen"], plainKeys := false, apart := false, laid := [("math/bits.deBruijn32tab", laid_math_bits_deBruijn32tab), ("math/bits.deBruijn64tab", laid_math_bits_deBruijn64tab), ("internal/strconv.uint64pow10", laid_internal_strconv_uint64pow10), ("unicode/utf8.acceptRanges", laid_unicode_utf8_acceptRanges), ("versine/network.ways", laid_versine_network_ways), ("versine/network.sides", laid_versine_network_sides), ("unicode/utf8.first", laid_unicode_utf8_first)], narrowed := true }
def NetworkBackUptoSaid : Prop := networkBackUptoRow.holds Tryz.pinned (OpenSpec.upto networkBackSpec)

end Rows
end Go.Proofs.YtepaopekeidlmaaGreatDoor
