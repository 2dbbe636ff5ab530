/-
  NARROWER THAN 'FOR EVERY INPUT', by the rows' own cells (each row's printed sentence says how): TopHawseMeasured: laid · WakePowers: laid · WakePlans: laid · WakeBounds: laid · WakeChoices: laid · TopBuoyFed: laid · WakeRelations: laid · WakeDeficits: laid · WakeEnergies: laid · WakeTurns: laid · WakeLess: laid · WakeMoves: laid · WakeImproves: laid · WakeSteps: laid · WakeCurves: laid · WakeBack: laid · TopHawseTurned: laid.
  DERIVED. THE GIVEN ROWS OF THIS SEAT. 17 by the template 'for every input the law returns true; each argument reads behind the call as it read before'; 0 by the template 'total and deterministic' (their statements: YtojkhldombndpaaGreatDoorTotals.lean).
  GIVEN WITH THE SEED: the statements are not yours to turn. If you find one false, say at which input.
  Laid BY PROGRAM, IN A SANDBOX (cutbox-rows.mjs): the forced cells as the released guide's own fill.sh prints them over the translation cf6fee0490920a65… (all of the seat's roots in one cut). By AI agents, Wed Nov 11 2026. No macro, syntax, notation, axiom, sorry.
-/
import Derived.Test.YtojkhldombndpaaGreatDoorChecked
import GoSem.PinnedTables
import GoSem.Claim
import GoSem.ClaimJoined
import GoSem.ClaimMapViews
import Derived.JoinedTies
import Derived.KernelRfl
namespace Go.Proofs.YtojkhldombndpaaGreatDoor
/- THE CELL 'sum', in the pinned program and in every row, IS THE sha256 OF THE DUMP (.gsa) THAT YtojkhldombndpaaGreatDoorProg.lean LOADS. Nothing in Lean hashes anything: it is a label: what it is worth is what the hold of that sum in a sandbox is worth. -/
noncomputable def Tryz.pinned : Pinned := { name := "ytojkhldombndpaagreatdoor", sum := "cf6fee0490920a65080f3296d136b2ed75edb2ae051d85c102df7ee7ba8753ea", checked := Tryz.checked }
namespace Rows
def none {H : Type} : Left H := { results := [], args := [] }

/- WHAT THE LISTED PACKAGE-LEVEL VARIABLES READ AS WHEN THE CALL BEGINS. Each datum BY PROGRAM (the guide's laid-datum.mjs) off the statement by which the dump's own 'gosem.cut.vars' lays the variable. In a bare row this is a premise. The card (YtojkhldombndpaaGreatDoorCards.lean) ties it to the program's text. -/
def laid_nacelle_site_steps {H : Type} : DataW H := .agg [.agg [.lit (.int .i64 0), .lit (.int .i64 (-1))], .agg [.lit (.int .i64 (-1)), .lit (.int .i64 (-1))], .agg [.lit (.int .i64 (-1)), .lit (.int .i64 0)], .agg [.lit (.int .i64 (-1)), .lit (.int .i64 1)], .agg [.lit (.int .i64 0), .lit (.int .i64 1)], .agg [.lit (.int .i64 1), .lit (.int .i64 1)], .agg [.lit (.int .i64 1), .lit (.int .i64 0)], .agg [.lit (.int .i64 1), .lit (.int .i64 (-1))]]
def laid_math_bits_deBruijn32tab {H : Type} : DataW H := .agg [.lit (.int .u8 0), .lit (.int .u8 1), .lit (.int .u8 28), .lit (.int .u8 2), .lit (.int .u8 29), .lit (.int .u8 14), .lit (.int .u8 24), .lit (.int .u8 3), .lit (.int .u8 30), .lit (.int .u8 22), .lit (.int .u8 20), .lit (.int .u8 15), .lit (.int .u8 25), .lit (.int .u8 17), .lit (.int .u8 4), .lit (.int .u8 8), .lit (.int .u8 31), .lit (.int .u8 27), .lit (.int .u8 13), .lit (.int .u8 23), .lit (.int .u8 21), .lit (.int .u8 19), .lit (.int .u8 16), .lit (.int .u8 7), .lit (.int .u8 26), .lit (.int .u8 12), .lit (.int .u8 18), .lit (.int .u8 6), .lit (.int .u8 11), .lit (.int .u8 5), .lit (.int .u8 10), .lit (.int .u8 9)]
def laid_math_bits_deBruijn64tab {H : Type} : DataW H := .agg [.lit (.int .u8 0), .lit (.int .u8 1), .lit (.int .u8 56), .lit (.int .u8 2), .lit (.int .u8 57), .lit (.int .u8 49), .lit (.int .u8 28), .lit (.int .u8 3), .lit (.int .u8 61), .lit (.int .u8 58), .lit (.int .u8 42), .lit (.int .u8 50), .lit (.int .u8 38), .lit (.int .u8 29), .lit (.int .u8 17), .lit (.int .u8 4), .lit (.int .u8 62), .lit (.int .u8 47), .lit (.int .u8 59), .lit (.int .u8 36), .lit (.int .u8 45), .lit (.int .u8 43), .lit (.int .u8 51), .lit (.int .u8 22), .lit (.int .u8 53), .lit (.int .u8 39), .lit (.int .u8 33), .lit (.int .u8 30), .lit (.int .u8 24), .lit (.int .u8 18), .lit (.int .u8 12), .lit (.int .u8 5), .lit (.int .u8 63), .lit (.int .u8 55), .lit (.int .u8 48), .lit (.int .u8 27), .lit (.int .u8 60), .lit (.int .u8 41), .lit (.int .u8 37), .lit (.int .u8 16), .lit (.int .u8 46), .lit (.int .u8 35), .lit (.int .u8 44), .lit (.int .u8 21), .lit (.int .u8 52), .lit (.int .u8 32), .lit (.int .u8 23), .lit (.int .u8 11), .lit (.int .u8 54), .lit (.int .u8 26), .lit (.int .u8 40), .lit (.int .u8 15), .lit (.int .u8 34), .lit (.int .u8 20), .lit (.int .u8 31), .lit (.int .u8 10), .lit (.int .u8 25), .lit (.int .u8 14), .lit (.int .u8 19), .lit (.int .u8 9), .lit (.int .u8 13), .lit (.int .u8 8), .lit (.int .u8 7), .lit (.int .u8 6)]
def laid_internal_strconv_uint64pow10 {H : Type} : DataW H := .agg [.lit (.int .u64 1), .lit (.int .u64 10), .lit (.int .u64 100), .lit (.int .u64 1000), .lit (.int .u64 10000), .lit (.int .u64 100000), .lit (.int .u64 1000000), .lit (.int .u64 10000000), .lit (.int .u64 100000000), .lit (.int .u64 1000000000), .lit (.int .u64 10000000000), .lit (.int .u64 100000000000), .lit (.int .u64 1000000000000), .lit (.int .u64 10000000000000), .lit (.int .u64 100000000000000), .lit (.int .u64 1000000000000000), .lit (.int .u64 10000000000000000), .lit (.int .u64 100000000000000000), .lit (.int .u64 1000000000000000000), .lit (.int .u64 10000000000000000000)]
def laid_unicode_utf8_acceptRanges {H : Type} : DataW H := .agg [.agg [.lit (.int .u8 128), .lit (.int .u8 191)], .agg [.lit (.int .u8 160), .lit (.int .u8 191)], .agg [.lit (.int .u8 128), .lit (.int .u8 159)], .agg [.lit (.int .u8 144), .lit (.int .u8 191)], .agg [.lit (.int .u8 128), .lit (.int .u8 143)], .agg [.lit (.int .u8 0), .lit (.int .u8 0)], .agg [.lit (.int .u8 0), .lit (.int .u8 0)], .agg [.lit (.int .u8 0), .lit (.int .u8 0)], .agg [.lit (.int .u8 0), .lit (.int .u8 0)], .agg [.lit (.int .u8 0), .lit (.int .u8 0)], .agg [.lit (.int .u8 0), .lit (.int .u8 0)], .agg [.lit (.int .u8 0), .lit (.int .u8 0)], .agg [.lit (.int .u8 0), .lit (.int .u8 0)], .agg [.lit (.int .u8 0), .lit (.int .u8 0)], .agg [.lit (.int .u8 0), .lit (.int .u8 0)], .agg [.lit (.int .u8 0), .lit (.int .u8 0)]]
def laid_strconv_ErrRange {H : Type} : DataW H := .iface "*errors.errorString" (.ptr (.agg [.lit (.string [118, 97, 108, 117, 101, 32, 111, 117, 116, 32, 111, 102, 32, 114, 97, 110, 103, 101])]))
def laid_strconv_ErrSyntax {H : Type} : DataW H := .iface "*errors.errorString" (.ptr (.agg [.lit (.string [105, 110, 118, 97, 108, 105, 100, 32, 115, 121, 110, 116, 97, 120])]))
/-- One of Go's own tables, pinned by name: the form's constant. -/
def laid_unicode_utf8_first : DataW Unit := Go.Pinned.utf8First

/-- 'nacelletop.TopHawseMeasured': WHATEVER THE INPUT: true; the input reads as it did. -/
def topHawseMeasuredSpec : ChangeSpec := { name := "topHawseMeasured", fn := fun _ => fun
  | [d1, d2, d3] => { results := [.lit (.bool true)], args := [d1, d2, d3] }
  | _ => none }
def topHawseMeasuredRow : OpenClaim := { program := "ytojkhldombndpaagreatdoor", sum := "cf6fee0490920a65080f3296d136b2ed75edb2ae051d85c102df7ee7ba8753ea", func := "nacelle/nacelletop.TopHawseMeasured", spec := "topHawseMeasured", inPlace := ["math.archFloor", "math.Float64bits", "math.Float64frombits", "math.archTrunc", "math.Float32bits", "math.Float32frombits"], unfollowed := true, recurses := true, named := ["nacelle/site.steps"], apart := false, laid := [("nacelle/site.steps", laid_nacelle_site_steps)] }
def TopHawseMeasuredSaid : Prop := topHawseMeasuredRow.holds Tryz.pinned (OpenSpec.ofChange topHawseMeasuredSpec)

/-- ITS FALSE NEIGHBOUR: 'it returns false'. Refute it at one input. -/
def topHawseMeasuredWrong : ChangeSpec := { name := "topHawseMeasured", fn := fun _ => fun
  | [d1, d2, d3] => { results := [.lit (.bool false)], args := [d1, d2, d3] }
  | _ => none }
def TopHawseMeasuredWrongFalsely : Prop := topHawseMeasuredRow.holds Tryz.pinned (OpenSpec.ofChange topHawseMeasuredWrong)

/-- 'nacellelaw02.WakePowers': WHATEVER THE INPUT: true; the input reads as it did. -/
def wakePowersSpec : ChangeSpec := { name := "wakePowers", fn := fun _ => fun
  | [d1, d2] => { results := [.lit (.bool true)], args := [d1, d2] }
  | _ => none }
def wakePowersRow : OpenClaim := { program := "ytojkhldombndpaagreatdoor", sum := "cf6fee0490920a65080f3296d136b2ed75edb2ae051d85c102df7ee7ba8753ea", func := "nacelle/nacellelaw02.WakePowers", spec := "wakePowers", inPlace := ["internal/abi.NoEscape", "internal/bytealg.MakeNoZero"], unfollowed := true, recurses := true, named := ["nacelle/site.steps", "internal/strconv.uint64pow10", "math/bits.deBruijn32tab", "math/bits.deBruijn64tab"], apart := false, laid := [("math/bits.deBruijn32tab", laid_math_bits_deBruijn32tab), ("math/bits.deBruijn64tab", laid_math_bits_deBruijn64tab), ("internal/strconv.uint64pow10", laid_internal_strconv_uint64pow10), ("nacelle/site.steps", laid_nacelle_site_steps)] }
def WakePowersSaid : Prop := wakePowersRow.holds Tryz.pinned (OpenSpec.ofChange wakePowersSpec)

/-- ITS FALSE NEIGHBOUR: 'it returns false'. Refute it at one input. -/
def wakePowersWrong : ChangeSpec := { name := "wakePowers", fn := fun _ => fun
  | [d1, d2] => { results := [.lit (.bool false)], args := [d1, d2] }
  | _ => none }
def WakePowersWrongFalsely : Prop := wakePowersRow.holds Tryz.pinned (OpenSpec.ofChange wakePowersWrong)

/-- 'nacellelaw02.WakePlans': WHATEVER THE INPUT: true; the input reads as it did. -/
def wakePlansSpec : ChangeSpec := { name := "wakePlans", fn := fun _ => fun
  | [d1, d2] => { results := [.lit (.bool true)], args := [d1, d2] }
  | _ => none }
def wakePlansRow : OpenClaim := { program := "ytojkhldombndpaagreatdoor", sum := "cf6fee0490920a65080f3296d136b2ed75edb2ae051d85c102df7ee7ba8753ea", func := "nacelle/nacellelaw02.WakePlans", spec := "wakePlans", inPlace := ["internal/abi.NoEscape", "internal/bytealg.MakeNoZero"], unfollowed := true, recurses := true, named := ["nacelle/site.steps", "internal/strconv.uint64pow10", "math/bits.deBruijn32tab", "math/bits.deBruijn64tab"], apart := false, laid := [("math/bits.deBruijn32tab", laid_math_bits_deBruijn32tab), ("math/bits.deBruijn64tab", laid_math_bits_deBruijn64tab), ("internal/strconv.uint64pow10", laid_internal_strconv_uint64pow10), ("nacelle/site.steps", laid_nacelle_site_steps)] }
def WakePlansSaid : Prop := wakePlansRow.holds Tryz.pinned (OpenSpec.ofChange wakePlansSpec)

/-- ITS FALSE NEIGHBOUR: 'it returns false'. Refute it at one input. -/
def wakePlansWrong : ChangeSpec := { name := "wakePlans", fn := fun _ => fun
  | [d1, d2] => { results := [.lit (.bool false)], args := [d1, d2] }
  | _ => none }
def WakePlansWrongFalsely : Prop := wakePlansRow.holds Tryz.pinned (OpenSpec.ofChange wakePlansWrong)

/-- 'nacellelaw02.WakeBounds': WHATEVER THE INPUT: true; the input reads as it did. -/
def wakeBoundsSpec : ChangeSpec := { name := "wakeBounds", fn := fun _ => fun
  | [d1, d2, d3] => { results := [.lit (.bool true)], args := [d1, d2, d3] }
  | _ => none }
def wakeBoundsRow : OpenClaim := { program := "ytojkhldombndpaagreatdoor", sum := "cf6fee0490920a65080f3296d136b2ed75edb2ae051d85c102df7ee7ba8753ea", func := "nacelle/nacellelaw02.WakeBounds", spec := "wakeBounds", inPlace := ["internal/abi.NoEscape", "internal/bytealg.MakeNoZero"], unfollowed := true, recurses := true, named := ["nacelle/site.steps", "internal/strconv.uint64pow10", "math/bits.deBruijn32tab", "math/bits.deBruijn64tab"], apart := false, laid := [("math/bits.deBruijn32tab", laid_math_bits_deBruijn32tab), ("math/bits.deBruijn64tab", laid_math_bits_deBruijn64tab), ("internal/strconv.uint64pow10", laid_internal_strconv_uint64pow10), ("nacelle/site.steps", laid_nacelle_site_steps)] }
def WakeBoundsSaid : Prop := wakeBoundsRow.holds Tryz.pinned (OpenSpec.ofChange wakeBoundsSpec)

/-- ITS FALSE NEIGHBOUR: 'it returns false'. Refute it at one input. -/
def wakeBoundsWrong : ChangeSpec := { name := "wakeBounds", fn := fun _ => fun
  | [d1, d2, d3] => { results := [.lit (.bool false)], args := [d1, d2, d3] }
  | _ => none }
def WakeBoundsWrongFalsely : Prop := wakeBoundsRow.holds Tryz.pinned (OpenSpec.ofChange wakeBoundsWrong)

/-- 'nacellelaw02.WakeChoices': WHATEVER THE INPUT: true; the input reads as it did. -/
def wakeChoicesSpec : ChangeSpec := { name := "wakeChoices", fn := fun _ => fun
  | [d1, d2, d3] => { results := [.lit (.bool true)], args := [d1, d2, d3] }
  | _ => none }
def wakeChoicesRow : OpenClaim := { program := "ytojkhldombndpaagreatdoor", sum := "cf6fee0490920a65080f3296d136b2ed75edb2ae051d85c102df7ee7ba8753ea", func := "nacelle/nacellelaw02.WakeChoices", spec := "wakeChoices", inPlace := ["internal/abi.NoEscape", "internal/bytealg.MakeNoZero"], unfollowed := true, recurses := true, named := ["nacelle/site.steps", "internal/strconv.uint64pow10", "math/bits.deBruijn32tab", "math/bits.deBruijn64tab"], apart := false, laid := [("math/bits.deBruijn32tab", laid_math_bits_deBruijn32tab), ("math/bits.deBruijn64tab", laid_math_bits_deBruijn64tab), ("internal/strconv.uint64pow10", laid_internal_strconv_uint64pow10), ("nacelle/site.steps", laid_nacelle_site_steps)] }
def WakeChoicesSaid : Prop := wakeChoicesRow.holds Tryz.pinned (OpenSpec.ofChange wakeChoicesSpec)

/-- ITS FALSE NEIGHBOUR: 'it returns false'. Refute it at one input. -/
def wakeChoicesWrong : ChangeSpec := { name := "wakeChoices", fn := fun _ => fun
  | [d1, d2, d3] => { results := [.lit (.bool false)], args := [d1, d2, d3] }
  | _ => none }
def WakeChoicesWrongFalsely : Prop := wakeChoicesRow.holds Tryz.pinned (OpenSpec.ofChange wakeChoicesWrong)

/-- 'nacelletop.TopBuoyFed': WHATEVER THE INPUT: true; the input reads as it did. -/
def topBuoyFedSpec : ChangeSpec := { name := "topBuoyFed", fn := fun _ => fun
  | [d1, d2] => { results := [.lit (.bool true)], args := [d1, d2] }
  | _ => none }
def topBuoyFedRow : OpenClaim := { program := "ytojkhldombndpaagreatdoor", sum := "cf6fee0490920a65080f3296d136b2ed75edb2ae051d85c102df7ee7ba8753ea", func := "nacelle/nacelletop.TopBuoyFed", spec := "topBuoyFed", unfollowed := true, recurses := true, named := ["nacelle/site.steps"], apart := false, laid := [("nacelle/site.steps", laid_nacelle_site_steps)] }
def TopBuoyFedSaid : Prop := topBuoyFedRow.holds Tryz.pinned (OpenSpec.ofChange topBuoyFedSpec)

/-- ITS FALSE NEIGHBOUR: 'it returns false'. Refute it at one input. -/
def topBuoyFedWrong : ChangeSpec := { name := "topBuoyFed", fn := fun _ => fun
  | [d1, d2] => { results := [.lit (.bool false)], args := [d1, d2] }
  | _ => none }
def TopBuoyFedWrongFalsely : Prop := topBuoyFedRow.holds Tryz.pinned (OpenSpec.ofChange topBuoyFedWrong)

/-- 'nacellelaw02.WakeRelations': WHATEVER THE INPUT: true; the input reads as it did. -/
def wakeRelationsSpec : ChangeSpec := { name := "wakeRelations", fn := fun _ => fun
  | [d1, d2, d3] => { results := [.lit (.bool true)], args := [d1, d2, d3] }
  | _ => none }
def wakeRelationsRow : OpenClaim := { program := "ytojkhldombndpaagreatdoor", sum := "cf6fee0490920a65080f3296d136b2ed75edb2ae051d85c102df7ee7ba8753ea", func := "nacelle/nacellelaw02.WakeRelations", spec := "wakeRelations", inPlace := ["internal/abi.NoEscape", "internal/bytealg.MakeNoZero"], unfollowed := true, recurses := true, named := ["nacelle/site.steps", "internal/strconv.uint64pow10", "math/bits.deBruijn32tab", "math/bits.deBruijn64tab"], apart := false, laid := [("math/bits.deBruijn32tab", laid_math_bits_deBruijn32tab), ("math/bits.deBruijn64tab", laid_math_bits_deBruijn64tab), ("internal/strconv.uint64pow10", laid_internal_strconv_uint64pow10), ("nacelle/site.steps", laid_nacelle_site_steps)] }
def WakeRelationsSaid : Prop := wakeRelationsRow.holds Tryz.pinned (OpenSpec.ofChange wakeRelationsSpec)

/-- ITS FALSE NEIGHBOUR: 'it returns false'. Refute it at one input. -/
def wakeRelationsWrong : ChangeSpec := { name := "wakeRelations", fn := fun _ => fun
  | [d1, d2, d3] => { results := [.lit (.bool false)], args := [d1, d2, d3] }
  | _ => none }
def WakeRelationsWrongFalsely : Prop := wakeRelationsRow.holds Tryz.pinned (OpenSpec.ofChange wakeRelationsWrong)

/-- 'nacellelaw02.WakeDeficits': WHATEVER THE INPUT: true; the input reads as it did. -/
def wakeDeficitsSpec : ChangeSpec := { name := "wakeDeficits", fn := fun _ => fun
  | [d1, d2, d3] => { results := [.lit (.bool true)], args := [d1, d2, d3] }
  | _ => none }
def wakeDeficitsRow : OpenClaim := { program := "ytojkhldombndpaagreatdoor", sum := "cf6fee0490920a65080f3296d136b2ed75edb2ae051d85c102df7ee7ba8753ea", func := "nacelle/nacellelaw02.WakeDeficits", spec := "wakeDeficits", inPlace := ["internal/abi.NoEscape", "internal/bytealg.MakeNoZero"], unfollowed := true, recurses := true, named := ["nacelle/site.steps", "internal/strconv.uint64pow10", "math/bits.deBruijn32tab", "math/bits.deBruijn64tab"], apart := false, laid := [("math/bits.deBruijn32tab", laid_math_bits_deBruijn32tab), ("math/bits.deBruijn64tab", laid_math_bits_deBruijn64tab), ("internal/strconv.uint64pow10", laid_internal_strconv_uint64pow10), ("nacelle/site.steps", laid_nacelle_site_steps)] }
def WakeDeficitsSaid : Prop := wakeDeficitsRow.holds Tryz.pinned (OpenSpec.ofChange wakeDeficitsSpec)

/-- ITS FALSE NEIGHBOUR: 'it returns false'. Refute it at one input. -/
def wakeDeficitsWrong : ChangeSpec := { name := "wakeDeficits", fn := fun _ => fun
  | [d1, d2, d3] => { results := [.lit (.bool false)], args := [d1, d2, d3] }
  | _ => none }
def WakeDeficitsWrongFalsely : Prop := wakeDeficitsRow.holds Tryz.pinned (OpenSpec.ofChange wakeDeficitsWrong)

/-- 'nacellelaw02.WakeEnergies': WHATEVER THE INPUT: true; the input reads as it did. -/
def wakeEnergiesSpec : ChangeSpec := { name := "wakeEnergies", fn := fun _ => fun
  | [d] => { results := [.lit (.bool true)], args := [d] }
  | _ => none }
def wakeEnergiesRow : OpenClaim := { program := "ytojkhldombndpaagreatdoor", sum := "cf6fee0490920a65080f3296d136b2ed75edb2ae051d85c102df7ee7ba8753ea", func := "nacelle/nacellelaw02.WakeEnergies", spec := "wakeEnergies", inPlace := ["internal/abi.NoEscape", "internal/bytealg.MakeNoZero"], unfollowed := true, recurses := true, named := ["nacelle/site.steps", "internal/strconv.uint64pow10", "math/bits.deBruijn32tab", "math/bits.deBruijn64tab"], apart := false, laid := [("math/bits.deBruijn32tab", laid_math_bits_deBruijn32tab), ("math/bits.deBruijn64tab", laid_math_bits_deBruijn64tab), ("internal/strconv.uint64pow10", laid_internal_strconv_uint64pow10), ("nacelle/site.steps", laid_nacelle_site_steps)] }
def WakeEnergiesSaid : Prop := wakeEnergiesRow.holds Tryz.pinned (OpenSpec.ofChange wakeEnergiesSpec)

/-- ITS FALSE NEIGHBOUR: 'it returns false'. Refute it at one input. -/
def wakeEnergiesWrong : ChangeSpec := { name := "wakeEnergies", fn := fun _ => fun
  | [d] => { results := [.lit (.bool false)], args := [d] }
  | _ => none }
def WakeEnergiesWrongFalsely : Prop := wakeEnergiesRow.holds Tryz.pinned (OpenSpec.ofChange wakeEnergiesWrong)

/-- 'nacellelaw02.WakeTurns': WHATEVER THE INPUT: true; the input reads as it did. -/
def wakeTurnsSpec : ChangeSpec := { name := "wakeTurns", fn := fun _ => fun
  | [d1, d2, d3] => { results := [.lit (.bool true)], args := [d1, d2, d3] }
  | _ => none }
def wakeTurnsRow : OpenClaim := { program := "ytojkhldombndpaagreatdoor", sum := "cf6fee0490920a65080f3296d136b2ed75edb2ae051d85c102df7ee7ba8753ea", func := "nacelle/nacellelaw02.WakeTurns", spec := "wakeTurns", inPlace := ["internal/abi.NoEscape", "internal/bytealg.MakeNoZero"], unfollowed := true, recurses := true, named := ["nacelle/site.steps", "internal/strconv.uint64pow10", "math/bits.deBruijn32tab", "math/bits.deBruijn64tab"], apart := false, laid := [("math/bits.deBruijn32tab", laid_math_bits_deBruijn32tab), ("math/bits.deBruijn64tab", laid_math_bits_deBruijn64tab), ("internal/strconv.uint64pow10", laid_internal_strconv_uint64pow10), ("nacelle/site.steps", laid_nacelle_site_steps)] }
def WakeTurnsSaid : Prop := wakeTurnsRow.holds Tryz.pinned (OpenSpec.ofChange wakeTurnsSpec)

/-- ITS FALSE NEIGHBOUR: 'it returns false'. Refute it at one input. -/
def wakeTurnsWrong : ChangeSpec := { name := "wakeTurns", fn := fun _ => fun
  | [d1, d2, d3] => { results := [.lit (.bool false)], args := [d1, d2, d3] }
  | _ => none }
def WakeTurnsWrongFalsely : Prop := wakeTurnsRow.holds Tryz.pinned (OpenSpec.ofChange wakeTurnsWrong)

/-- 'nacellelaw02.WakeLess': WHATEVER THE INPUT: true; the input reads as it did. -/
def wakeLessSpec : ChangeSpec := { name := "wakeLess", fn := fun _ => fun
  | [d1, d2] => { results := [.lit (.bool true)], args := [d1, d2] }
  | _ => none }
def wakeLessRow : OpenClaim := { program := "ytojkhldombndpaagreatdoor", sum := "cf6fee0490920a65080f3296d136b2ed75edb2ae051d85c102df7ee7ba8753ea", func := "nacelle/nacellelaw02.WakeLess", spec := "wakeLess", inPlace := ["internal/abi.NoEscape", "internal/bytealg.MakeNoZero"], unfollowed := true, recurses := true, named := ["nacelle/site.steps", "internal/strconv.uint64pow10", "math/bits.deBruijn32tab", "math/bits.deBruijn64tab"], apart := false, laid := [("math/bits.deBruijn32tab", laid_math_bits_deBruijn32tab), ("math/bits.deBruijn64tab", laid_math_bits_deBruijn64tab), ("internal/strconv.uint64pow10", laid_internal_strconv_uint64pow10), ("nacelle/site.steps", laid_nacelle_site_steps)] }
def WakeLessSaid : Prop := wakeLessRow.holds Tryz.pinned (OpenSpec.ofChange wakeLessSpec)

/-- ITS FALSE NEIGHBOUR: 'it returns false'. Refute it at one input. -/
def wakeLessWrong : ChangeSpec := { name := "wakeLess", fn := fun _ => fun
  | [d1, d2] => { results := [.lit (.bool false)], args := [d1, d2] }
  | _ => none }
def WakeLessWrongFalsely : Prop := wakeLessRow.holds Tryz.pinned (OpenSpec.ofChange wakeLessWrong)

/-- 'nacellelaw02.WakeMoves': WHATEVER THE INPUT: true; the input reads as it did. -/
def wakeMovesSpec : ChangeSpec := { name := "wakeMoves", fn := fun _ => fun
  | [d1, d2, d3] => { results := [.lit (.bool true)], args := [d1, d2, d3] }
  | _ => none }
def wakeMovesRow : OpenClaim := { program := "ytojkhldombndpaagreatdoor", sum := "cf6fee0490920a65080f3296d136b2ed75edb2ae051d85c102df7ee7ba8753ea", func := "nacelle/nacellelaw02.WakeMoves", spec := "wakeMoves", inPlace := ["internal/abi.NoEscape", "internal/bytealg.MakeNoZero"], unfollowed := true, recurses := true, named := ["nacelle/site.steps", "internal/strconv.uint64pow10", "math/bits.deBruijn32tab", "math/bits.deBruijn64tab"], apart := false, laid := [("math/bits.deBruijn32tab", laid_math_bits_deBruijn32tab), ("math/bits.deBruijn64tab", laid_math_bits_deBruijn64tab), ("internal/strconv.uint64pow10", laid_internal_strconv_uint64pow10), ("nacelle/site.steps", laid_nacelle_site_steps)] }
def WakeMovesSaid : Prop := wakeMovesRow.holds Tryz.pinned (OpenSpec.ofChange wakeMovesSpec)

/-- ITS FALSE NEIGHBOUR: 'it returns false'. Refute it at one input. -/
def wakeMovesWrong : ChangeSpec := { name := "wakeMoves", fn := fun _ => fun
  | [d1, d2, d3] => { results := [.lit (.bool false)], args := [d1, d2, d3] }
  | _ => none }
def WakeMovesWrongFalsely : Prop := wakeMovesRow.holds Tryz.pinned (OpenSpec.ofChange wakeMovesWrong)

/-- 'nacellelaw02.WakeImproves': WHATEVER THE INPUT: true; the input reads as it did. -/
def wakeImprovesSpec : ChangeSpec := { name := "wakeImproves", fn := fun _ => fun
  | [d1, d2] => { results := [.lit (.bool true)], args := [d1, d2] }
  | _ => none }
def wakeImprovesRow : OpenClaim := { program := "ytojkhldombndpaagreatdoor", sum := "cf6fee0490920a65080f3296d136b2ed75edb2ae051d85c102df7ee7ba8753ea", func := "nacelle/nacellelaw02.WakeImproves", spec := "wakeImproves", inPlace := ["internal/abi.NoEscape", "internal/bytealg.MakeNoZero"], unfollowed := true, recurses := true, named := ["nacelle/site.steps", "internal/strconv.uint64pow10", "math/bits.deBruijn32tab", "math/bits.deBruijn64tab"], apart := false, laid := [("math/bits.deBruijn32tab", laid_math_bits_deBruijn32tab), ("math/bits.deBruijn64tab", laid_math_bits_deBruijn64tab), ("internal/strconv.uint64pow10", laid_internal_strconv_uint64pow10), ("nacelle/site.steps", laid_nacelle_site_steps)] }
def WakeImprovesSaid : Prop := wakeImprovesRow.holds Tryz.pinned (OpenSpec.ofChange wakeImprovesSpec)

/-- ITS FALSE NEIGHBOUR: 'it returns false'. Refute it at one input. -/
def wakeImprovesWrong : ChangeSpec := { name := "wakeImproves", fn := fun _ => fun
  | [d1, d2] => { results := [.lit (.bool false)], args := [d1, d2] }
  | _ => none }
def WakeImprovesWrongFalsely : Prop := wakeImprovesRow.holds Tryz.pinned (OpenSpec.ofChange wakeImprovesWrong)

/-- 'nacellelaw02.WakeSteps': WHATEVER THE INPUT: true; the input reads as it did. -/
def wakeStepsSpec : ChangeSpec := { name := "wakeSteps", fn := fun _ => fun
  | [d1, d2, d3] => { results := [.lit (.bool true)], args := [d1, d2, d3] }
  | _ => none }
def wakeStepsRow : OpenClaim := { program := "ytojkhldombndpaagreatdoor", sum := "cf6fee0490920a65080f3296d136b2ed75edb2ae051d85c102df7ee7ba8753ea", func := "nacelle/nacellelaw02.WakeSteps", spec := "wakeSteps", inPlace := ["internal/abi.NoEscape", "internal/bytealg.MakeNoZero"], unfollowed := true, recurses := true, named := ["nacelle/site.steps", "internal/strconv.uint64pow10", "math/bits.deBruijn32tab", "math/bits.deBruijn64tab"], apart := false, laid := [("math/bits.deBruijn32tab", laid_math_bits_deBruijn32tab), ("math/bits.deBruijn64tab", laid_math_bits_deBruijn64tab), ("internal/strconv.uint64pow10", laid_internal_strconv_uint64pow10), ("nacelle/site.steps", laid_nacelle_site_steps)] }
def WakeStepsSaid : Prop := wakeStepsRow.holds Tryz.pinned (OpenSpec.ofChange wakeStepsSpec)

/-- ITS FALSE NEIGHBOUR: 'it returns false'. Refute it at one input. -/
def wakeStepsWrong : ChangeSpec := { name := "wakeSteps", fn := fun _ => fun
  | [d1, d2, d3] => { results := [.lit (.bool false)], args := [d1, d2, d3] }
  | _ => none }
def WakeStepsWrongFalsely : Prop := wakeStepsRow.holds Tryz.pinned (OpenSpec.ofChange wakeStepsWrong)

/-- 'nacellelaw02.WakeCurves': WHATEVER THE INPUT: true; the input reads as it did. -/
def wakeCurvesSpec : ChangeSpec := { name := "wakeCurves", fn := fun _ => fun
  | [d1, d2, d3] => { results := [.lit (.bool true)], args := [d1, d2, d3] }
  | _ => none }
def wakeCurvesRow : OpenClaim := { program := "ytojkhldombndpaagreatdoor", sum := "cf6fee0490920a65080f3296d136b2ed75edb2ae051d85c102df7ee7ba8753ea", func := "nacelle/nacellelaw02.WakeCurves", spec := "wakeCurves", inPlace := ["internal/abi.NoEscape", "internal/bytealg.MakeNoZero", "internal/bytealg.CountString", "internal/bytealg.IndexByteString", "internal/bytealg.IndexString"], unfollowed := true, recurses := true, named := ["nacelle/site.steps", "internal/strconv.uint64pow10", "math/bits.deBruijn32tab", "math/bits.deBruijn64tab", "unicode/utf8.first", "unicode/utf8.acceptRanges", "internal/bytealg.MaxLen", "strconv.ErrSyntax", "strconv.ErrRange"], apart := false, laid := [("math/bits.deBruijn32tab", laid_math_bits_deBruijn32tab), ("math/bits.deBruijn64tab", laid_math_bits_deBruijn64tab), ("internal/strconv.uint64pow10", laid_internal_strconv_uint64pow10), ("unicode/utf8.acceptRanges", laid_unicode_utf8_acceptRanges), ("strconv.ErrRange", laid_strconv_ErrRange), ("strconv.ErrSyntax", laid_strconv_ErrSyntax), ("nacelle/site.steps", laid_nacelle_site_steps), ("unicode/utf8.first", laid_unicode_utf8_first)] }
def WakeCurvesSaid : Prop := wakeCurvesRow.holds Tryz.pinned (OpenSpec.ofChange wakeCurvesSpec)

/-- ITS FALSE NEIGHBOUR: 'it returns false'. Refute it at one input. -/
def wakeCurvesWrong : ChangeSpec := { name := "wakeCurves", fn := fun _ => fun
  | [d1, d2, d3] => { results := [.lit (.bool false)], args := [d1, d2, d3] }
  | _ => none }
def WakeCurvesWrongFalsely : Prop := wakeCurvesRow.holds Tryz.pinned (OpenSpec.ofChange wakeCurvesWrong)

/-- 'nacellelaw02.WakeBack': WHATEVER THE INPUT: true; the input reads as it did. -/
def wakeBackSpec : ChangeSpec := { name := "wakeBack", fn := fun _ => fun
  | [d1, d2, d3] => { results := [.lit (.bool true)], args := [d1, d2, d3] }
  | _ => none }
def wakeBackRow : OpenClaim := { program := "ytojkhldombndpaagreatdoor", sum := "cf6fee0490920a65080f3296d136b2ed75edb2ae051d85c102df7ee7ba8753ea", func := "nacelle/nacellelaw02.WakeBack", spec := "wakeBack", inPlace := ["internal/abi.NoEscape", "internal/bytealg.MakeNoZero", "internal/bytealg.CountString", "internal/bytealg.IndexByteString", "internal/bytealg.IndexString"], unfollowed := true, recurses := true, named := ["nacelle/site.steps", "internal/strconv.uint64pow10", "math/bits.deBruijn32tab", "math/bits.deBruijn64tab", "unicode/utf8.first", "unicode/utf8.acceptRanges", "internal/bytealg.MaxLen", "strconv.ErrSyntax", "strconv.ErrRange"], apart := false, laid := [("math/bits.deBruijn32tab", laid_math_bits_deBruijn32tab), ("math/bits.deBruijn64tab", laid_math_bits_deBruijn64tab), ("internal/strconv.uint64pow10", laid_internal_strconv_uint64pow10), ("unicode/utf8.acceptRanges", laid_unicode_utf8_acceptRanges), ("strconv.ErrRange", laid_strconv_ErrRange), ("strconv.ErrSyntax", laid_strconv_ErrSyntax), ("nacelle/site.steps", laid_nacelle_site_steps), ("unicode/utf8.first", laid_unicode_utf8_first)] }
def WakeBackSaid : Prop := wakeBackRow.holds Tryz.pinned (OpenSpec.ofChange wakeBackSpec)

/-- ITS FALSE NEIGHBOUR: 'it returns false'. Refute it at one input. -/
def wakeBackWrong : ChangeSpec := { name := "wakeBack", fn := fun _ => fun
  | [d1, d2, d3] => { results := [.lit (.bool false)], args := [d1, d2, d3] }
  | _ => none }
def WakeBackWrongFalsely : Prop := wakeBackRow.holds Tryz.pinned (OpenSpec.ofChange wakeBackWrong)

/-- 'nacelletop.TopHawseTurned': WHATEVER THE INPUT: true; the input reads as it did. -/
def topHawseTurnedSpec : ChangeSpec := { name := "topHawseTurned", fn := fun _ => fun
  | [d1, d2, d3] => { results := [.lit (.bool true)], args := [d1, d2, d3] }
  | _ => none }
def topHawseTurnedRow : OpenClaim := { program := "ytojkhldombndpaagreatdoor", sum := "cf6fee0490920a65080f3296d136b2ed75edb2ae051d85c102df7ee7ba8753ea", func := "nacelle/nacelletop.TopHawseTurned", spec := "topHawseTurned", inPlace := ["internal/abi.NoEscape", "internal/bytealg.MakeNoZero", "internal/bytealg.IndexByteString", "internal/bytealg.IndexString", "internal/bytealg.CountString"], unfollowed := true, recurses := true, named := ["nacelle/site.steps", "internal/strconv.uint64pow10", "math/bits.deBruijn32tab", "math/bits.deBruijn64tab", "internal/bytealg.MaxLen", "unicode/utf8.first", "unicode/utf8.acceptRanges", "strconv.ErrSyntax", "strconv.ErrRange"], apart := false, laid := [("math/bits.deBruijn32tab", laid_math_bits_deBruijn32tab), ("math/bits.deBruijn64tab", laid_math_bits_deBruijn64tab), ("internal/strconv.uint64pow10", laid_internal_strconv_uint64pow10), ("unicode/utf8.acceptRanges", laid_unicode_utf8_acceptRanges), ("strconv.ErrRange", laid_strconv_ErrRange), ("strconv.ErrSyntax", laid_strconv_ErrSyntax), ("nacelle/site.steps", laid_nacelle_site_steps), ("unicode/utf8.first", laid_unicode_utf8_first)] }
def TopHawseTurnedSaid : Prop := topHawseTurnedRow.holds Tryz.pinned (OpenSpec.ofChange topHawseTurnedSpec)

/-- ITS FALSE NEIGHBOUR: 'it returns false'. Refute it at one input. -/
def topHawseTurnedWrong : ChangeSpec := { name := "topHawseTurned", fn := fun _ => fun
  | [d1, d2, d3] => { results := [.lit (.bool false)], args := [d1, d2, d3] }
  | _ => none }
def TopHawseTurnedWrongFalsely : Prop := topHawseTurnedRow.holds Tryz.pinned (OpenSpec.ofChange topHawseTurnedWrong)

/- THE SECOND FORM. 'bulk': how many values and letters a reading holds, each counted each time it is reached (what is shared counts as often as it is met; a slice's spare places count too). A statement '..UptoSaid' is the law's where the arguments, and the package variables that the reading takes, are together of bulk at most 1048576: NARROWER than '..Said'. Prove '..Said' where nothing that the law and all that it calls make is longer than what came in: it says more and counts as full. Else prove '..UptoSaid'. A law counts once. -/
mutual
def uptoBulk {H : Type} : DataW H → Nat
  | .lit (.string bytes) => bytes.length + 1
  | .lit _ => 1
  | .nil => 1
  | .ptr d => uptoBulk d + 1
  | .slice elems spare => uptoBulkAll elems + uptoBulkAll spare + 1
  | .agg parts => uptoBulkAll parts + 1
  | .iface _ d => uptoBulk d + 1
  | .map entries => uptoBulkEntries entries + 1
  | .held _ => 1
def uptoBulkAll {H : Type} : List (DataW H) → Nat
  | [] => 0
  | d :: r => uptoBulk d + uptoBulkAll r
def uptoBulkEntries {H : Type} : List (Lit × DataW H) → Nat
  | [] => 0
  | x :: r => uptoBulkEntry x + uptoBulkEntries r
def uptoBulkEntry {H : Type} : Lit × DataW H → Nat
  | (.string bytes, d) => bytes.length + uptoBulk d + 1
  | (_, d) => uptoBulk d + 1
 end
def uptoSmall : (H : Type) → List (DataW H) → Bool := fun _ ds => decide (uptoBulkAll ds ≤ 1048576)
def OpenSpec.upto (s : _root_.Go.ChangeSpec) : _root_.Go.OpenSpec := { _root_.Go.OpenSpec.ofChange s with cond := some uptoSmall }

/-- 'nacelletop.TopHawseMeasured', WHERE WHAT IT READS IS OF BULK AT MOST 1048576: true; the input reads as it did. -/
def topHawseMeasuredUptoRow : OpenClaim := { program := "ytojkhldombndpaagreatdoor", sum := "cf6fee0490920a65080f3296d136b2ed75edb2ae051d85c102df7ee7ba8753ea", func := "nacelle/nacelletop.TopHawseMeasured", spec := "topHawseMeasured", inPlace := ["math.archFloor", "math.Float64bits", "math.Float64frombits", "math.archTrunc", "math.Float32bits", "math.Float32frombits"], unfollowed := true, recurses := true, named := ["nacelle/site.steps"], apart := false, laid := [("nacelle/site.steps", laid_nacelle_site_steps)], narrowed := true }
def TopHawseMeasuredUptoSaid : Prop := topHawseMeasuredUptoRow.holds Tryz.pinned (OpenSpec.upto topHawseMeasuredSpec)

/-- 'nacellelaw02.WakePowers', WHERE WHAT IT READS IS OF BULK AT MOST 1048576: true; the input reads as it did. -/
def wakePowersUptoRow : OpenClaim := { program := "ytojkhldombndpaagreatdoor", sum := "cf6fee0490920a65080f3296d136b2ed75edb2ae051d85c102df7ee7ba8753ea", func := "nacelle/nacellelaw02.WakePowers", spec := "wakePowers", inPlace := ["internal/abi.NoEscape", "internal/bytealg.MakeNoZero"], unfollowed := true, recurses := true, named := ["nacelle/site.steps", "internal/strconv.uint64pow10", "math/bits.deBruijn32tab", "math/bits.deBruijn64tab"], apart := false, laid := [("math/bits.deBruijn32tab", laid_math_bits_deBruijn32tab), ("math/bits.deBruijn64tab", laid_math_bits_deBruijn64tab), ("internal/strconv.uint64pow10", laid_internal_strconv_uint64pow10), ("nacelle/site.steps", laid_nacelle_site_steps)], narrowed := true }
def WakePowersUptoSaid : Prop := wakePowersUptoRow.holds Tryz.pinned (OpenSpec.upto wakePowersSpec)

/-- 'nacellelaw02.WakePlans', WHERE WHAT IT READS IS OF BULK AT MOST 1048576: true; the input reads as it did. -/
def wakePlansUptoRow : OpenClaim := { program := "ytojkhldombndpaagreatdoor", sum := "cf6fee0490920a65080f3296d136b2ed75edb2ae051d85c102df7ee7ba8753ea", func := "nacelle/nacellelaw02.WakePlans", spec := "wakePlans", inPlace := ["internal/abi.NoEscape", "internal/bytealg.MakeNoZero"], unfollowed := true, recurses := true, named := ["nacelle/site.steps", "internal/strconv.uint64pow10", "math/bits.deBruijn32tab", "math/bits.deBruijn64tab"], apart := false, laid := [("math/bits.deBruijn32tab", laid_math_bits_deBruijn32tab), ("math/bits.deBruijn64tab", laid_math_bits_deBruijn64tab), ("internal/strconv.uint64pow10", laid_internal_strconv_uint64pow10), ("nacelle/site.steps", laid_nacelle_site_steps)], narrowed := true }
def WakePlansUptoSaid : Prop := wakePlansUptoRow.holds Tryz.pinned (OpenSpec.upto wakePlansSpec)

/-- 'nacellelaw02.WakeBounds', WHERE WHAT IT READS IS OF BULK AT MOST 1048576: true; the input reads as it did. -/
def wakeBoundsUptoRow : OpenClaim := { program := "ytojkhldombndpaagreatdoor", sum := "cf6fee0490920a65080f3296d136b2ed75edb2ae051d85c102df7ee7ba8753ea", func := "nacelle/nacellelaw02.WakeBounds", spec := "wakeBounds", inPlace := ["internal/abi.NoEscape", "internal/bytealg.MakeNoZero"], unfollowed := true, recurses := true, named := ["nacelle/site.steps", "internal/strconv.uint64pow10", "math/bits.deBruijn32tab", "math/bits.deBruijn64tab"], apart := false, laid := [("math/bits.deBruijn32tab", laid_math_bits_deBruijn32tab), ("math/bits.deBruijn64tab", laid_math_bits_deBruijn64tab), ("internal/strconv.uint64pow10", laid_internal_strconv_uint64pow10), ("nacelle/site.steps", laid_nacelle_site_steps)], narrowed := true }
def WakeBoundsUptoSaid : Prop := wakeBoundsUptoRow.holds Tryz.pinned (OpenSpec.upto wakeBoundsSpec)

/-- 'nacellelaw02.WakeChoices', WHERE WHAT IT READS IS OF BULK AT MOST 1048576: true; the input reads as it did. -/
def wakeChoicesUptoRow : OpenClaim := { program := "ytojkhldombndpaagreatdoor", sum := "cf6fee0490920a65080f3296d136b2ed75edb2ae051d85c102df7ee7ba8753ea", func := "nacelle/nacellelaw02.WakeChoices", spec := "wakeChoices", inPlace := ["internal/abi.NoEscape", "internal/bytealg.MakeNoZero"], unfollowed := true, recurses := true, named := ["nacelle/site.steps", "internal/strconv.uint64pow10", "math/bits.deBruijn32tab", "math/bits.deBruijn64tab"], apart := false, laid := [("math/bits.deBruijn32tab", laid_math_bits_deBruijn32tab), ("math/bits.deBruijn64tab", laid_math_bits_deBruijn64tab), ("internal/strconv.uint64pow10", laid_internal_strconv_uint64pow10), ("nacelle/site.steps", laid_nacelle_site_steps)], narrowed := true }
def WakeChoicesUptoSaid : Prop := wakeChoicesUptoRow.holds Tryz.pinned (OpenSpec.upto wakeChoicesSpec)

/-- 'nacelletop.TopBuoyFed', WHERE WHAT IT READS IS OF BULK AT MOST 1048576: true; the input reads as it did. -/
def topBuoyFedUptoRow : OpenClaim := { program := "ytojkhldombndpaagreatdoor", sum := "cf6fee0490920a65080f3296d136b2ed75edb2ae051d85c102df7ee7ba8753ea", func := "nacelle/nacelletop.TopBuoyFed", spec := "topBuoyFed", unfollowed := true, recurses := true, named := ["nacelle/site.steps"], apart := false, laid := [("nacelle/site.steps", laid_nacelle_site_steps)], narrowed := true }
def TopBuoyFedUptoSaid : Prop := topBuoyFedUptoRow.holds Tryz.pinned (OpenSpec.upto topBuoyFedSpec)

/-- 'nacellelaw02.WakeRelations', WHERE WHAT IT READS IS OF BULK AT MOST 1048576: true; the input reads as it did. -/
def wakeRelationsUptoRow : OpenClaim := { program := "ytojkhldombndpaagreatdoor", sum := "cf6fee0490920a65080f3296d136b2ed75edb2ae051d85c102df7ee7ba8753ea", func := "nacelle/nacellelaw02.WakeRelations", spec := "wakeRelations", inPlace := ["internal/abi.NoEscape", "internal/bytealg.MakeNoZero"], unfollowed := true, recurses := true, named := ["nacelle/site.steps", "internal/strconv.uint64pow10", "math/bits.deBruijn32tab", "math/bits.deBruijn64tab"], apart := false, laid := [("math/bits.deBruijn32tab", laid_math_bits_deBruijn32tab), ("math/bits.deBruijn64tab", laid_math_bits_deBruijn64tab), ("internal/strconv.uint64pow10", laid_internal_strconv_uint64pow10), ("nacelle/site.steps", laid_nacelle_site_steps)], narrowed := true }
def WakeRelationsUptoSaid : Prop := wakeRelationsUptoRow.holds Tryz.pinned (OpenSpec.upto wakeRelationsSpec)

/-- 'nacellelaw02.WakeDeficits', WHERE WHAT IT READS IS OF BULK AT MOST 1048576: true; the input reads as it did. -/
def wakeDeficitsUptoRow : OpenClaim := { program := "ytojkhldombndpaagreatdoor", sum := "cf6fee0490920a65080f3296d136b2ed75edb2ae051d85c102df7ee7ba8753ea", func := "nacelle/nacellelaw02.WakeDeficits", spec := "wakeDeficits", inPlace := ["internal/abi.NoEscape", "internal/bytealg.MakeNoZero"], unfollowed := true, recurses := true, named := ["nacelle/site.steps", "internal/strconv.uint64pow10", "math/bits.deBruijn32tab", "math/bits.deBruijn64tab"], apart := false, laid := [("math/bits.deBruijn32tab", laid_math_bits_deBruijn32tab), ("math/bits.deBruijn64tab", laid_math_bits_deBruijn64tab), ("internal/strconv.uint64pow10", laid_internal_strconv_uint64pow10), ("nacelle/site.steps", laid_nacelle_site_steps)], narrowed := true }
def WakeDeficitsUptoSaid : Prop := wakeDeficitsUptoRow.holds Tryz.pinned (OpenSpec.upto wakeDeficitsSpec)

/-- 'nacellelaw02.WakeEnergies', WHERE WHAT IT READS IS OF BULK AT MOST 1048576: true; the input reads as it did. -/
def wakeEnergiesUptoRow : OpenClaim := { program := "ytojkhldombndpaagreatdoor", sum := "cf6fee0490920a65080f3296d136b2ed75edb2ae051d85c102df7ee7ba8753ea", func := "nacelle/nacellelaw02.WakeEnergies", spec := "wakeEnergies", inPlace := ["internal/abi.NoEscape", "internal/bytealg.MakeNoZero"], unfollowed := true, recurses := true, named := ["nacelle/site.steps", "internal/strconv.uint64pow10", "math/bits.deBruijn32tab", "math/bits.deBruijn64tab"], apart := false, laid := [("math/bits.deBruijn32tab", laid_math_bits_deBruijn32tab), ("math/bits.deBruijn64tab", laid_math_bits_deBruijn64tab), ("internal/strconv.uint64pow10", laid_internal_strconv_uint64pow10), ("nacelle/site.steps", laid_nacelle_site_steps)], narrowed := true }
def WakeEnergiesUptoSaid : Prop := wakeEnergiesUptoRow.holds Tryz.pinned (OpenSpec.upto wakeEnergiesSpec)

/-- 'nacellelaw02.WakeTurns', WHERE WHAT IT READS IS OF BULK AT MOST 1048576: true; the input reads as it did. -/
def wakeTurnsUptoRow : OpenClaim := { program := "ytojkhldombndpaagreatdoor", sum := "cf6fee0490920a65080f3296d136b2ed75edb2ae051d85c102df7ee7ba8753ea", func := "nacelle/nacellelaw02.WakeTurns", spec := "wakeTurns", inPlace := ["internal/abi.NoEscape", "internal/bytealg.MakeNoZero"], unfollowed := true, recurses := true, named := ["nacelle/site.steps", "internal/strconv.uint64pow10", "math/bits.deBruijn32tab", "math/bits.deBruijn64tab"], apart := false, laid := [("math/bits.deBruijn32tab", laid_math_bits_deBruijn32tab), ("math/bits.deBruijn64tab", laid_math_bits_deBruijn64tab), ("internal/strconv.uint64pow10", laid_internal_strconv_uint64pow10), ("nacelle/site.steps", laid_nacelle_site_steps)], narrowed := true }
def WakeTurnsUptoSaid : Prop := wakeTurnsUptoRow.holds Tryz.pinned (OpenSpec.upto wakeTurnsSpec)

/-- 'nacellelaw02.WakeLess', WHERE WHAT IT READS IS OF BULK AT MOST 1048576: true; the input reads as it did. -/
def wakeLessUptoRow : OpenClaim := { program := "ytojkhldombndpaagreatdoor", sum := "cf6fee0490920a65080f3296d136b2ed75edb2ae051d85c102df7ee7ba8753ea", func := "nacelle/nacellelaw02.WakeLess", spec := "wakeLess", inPlace := ["internal/abi.NoEscape", "internal/bytealg.MakeNoZero"], unfollowed := true, recurses := true, named := ["nacelle/site.steps", "internal/strconv.uint64pow10", "math/bits.deBruijn32tab", "math/bits.deBruijn64tab"], apart := false, laid := [("math/bits.deBruijn32tab", laid_math_bits_deBruijn32tab), ("math/bits.deBruijn64tab", laid_math_bits_deBruijn64tab), ("internal/strconv.uint64pow10", laid_internal_strconv_uint64pow10), ("nacelle/site.steps", laid_nacelle_site_steps)], narrowed := true }
def WakeLessUptoSaid : Prop := wakeLessUptoRow.holds Tryz.pinned (OpenSpec.upto wakeLessSpec)

/-- 'nacellelaw02.WakeMoves', WHERE WHAT IT READS IS OF BULK AT MOST 1048576: true; the input reads as it did. -/
def wakeMovesUptoRow : OpenClaim := { program := "ytojkhldombndpaagreatdoor", sum := "cf6fee0490920a65080f3296d136b2ed75edb2ae051d85c102df7ee7ba8753ea", func := "nacelle/nacellelaw02.WakeMoves", spec := "wakeMoves", inPlace := ["internal/abi.NoEscape", "internal/bytealg.MakeNoZero"], unfollowed := true, recurses := true, named := ["nacelle/site.steps", "internal/strconv.uint64pow10", "math/bits.deBruijn32tab", "math/bits.deBruijn64tab"], apart := false, laid := [("math/bits.deBruijn32tab", laid_math_bits_deBruijn32tab), ("math/bits.deBruijn64tab", laid_math_bits_deBruijn64tab), ("internal/strconv.uint64pow10", laid_internal_strconv_uint64pow10), ("nacelle/site.steps", laid_nacelle_site_steps)], narrowed := true }
def WakeMovesUptoSaid : Prop := wakeMovesUptoRow.holds Tryz.pinned (OpenSpec.upto wakeMovesSpec)

/-- 'nacellelaw02.WakeImproves', WHERE WHAT IT READS IS OF BULK AT MOST 1048576: true; the input reads as it did. -/
def wakeImprovesUptoRow : OpenClaim := { program := "ytojkhldombndpaagreatdoor", sum := "cf6fee0490920a65080f3296d136b2ed75edb2ae051d85c102df7ee7ba8753ea", func := "nacelle/nacellelaw02.WakeImproves", spec := "wakeImproves", inPlace := ["internal/abi.NoEscape", "internal/bytealg.MakeNoZero"], unfollowed := true, recurses := true, named := ["nacelle/site.steps", "internal/strconv.uint64pow10", "math/bits.deBruijn32tab", "math/bits.deBruijn64tab"], apart := false, laid := [("math/bits.deBruijn32tab", laid_math_bits_deBruijn32tab), ("math/bits.deBruijn64tab", laid_math_bits_deBruijn64tab), ("internal/strconv.uint64pow10", laid_internal_strconv_uint64pow10), ("nacelle/site.steps", laid_nacelle_site_steps)], narrowed := true }
def WakeImprovesUptoSaid : Prop := wakeImprovesUptoRow.holds Tryz.pinned (OpenSpec.upto wakeImprovesSpec)

/-- 'nacellelaw02.WakeSteps', WHERE WHAT IT READS IS OF BULK AT MOST 1048576: true; the input reads as it did. -/
def wakeStepsUptoRow : OpenClaim := { program := "ytojkhldombndpaagreatdoor", sum := "cf6fee0490920a65080f3296d136b2ed75edb2ae051d85c102df7ee7ba8753ea", func := "nacelle/nacellelaw02.WakeSteps", spec := "wakeSteps", inPlace := ["internal/abi.NoEscape", "internal/bytealg.MakeNoZero"], unfollowed := true, recurses := true, named := ["nacelle/site.steps", "internal/strconv.uint64pow10", "math/bits.deBruijn32tab", "math/bits.deBruijn64tab"], apart := false, laid := [("math/bits.deBruijn32tab", laid_math_bits_deBruijn32tab), ("math/bits.deBruijn64tab", laid_math_bits_deBruijn64tab), ("internal/strconv.uint64pow10", laid_internal_strconv_uint64pow10), ("nacelle/site.steps", laid_nacelle_site_steps)], narrowed := true }
def WakeStepsUptoSaid : Prop := wakeStepsUptoRow.holds Tryz.pinned (OpenSpec.upto wakeStepsSpec)

/-- 'nacellelaw02.WakeCurves', WHERE WHAT IT READS IS OF BULK AT MOST 1048576: true; the input reads as it did. -/
def wakeCurvesUptoRow : OpenClaim := { program := "ytojkhldombndpaagreatdoor", sum := "cf6fee0490920a65080f3296d136b2ed75edb2ae051d85c102df7ee7ba8753ea", func := "nacelle/nacellelaw02.WakeCurves", spec := "wakeCurves", inPlace := ["internal/abi.NoEscape", "internal/bytealg.MakeNoZero", "internal/bytealg.CountString", "internal/bytealg.IndexByteString", "internal/bytealg.IndexString"], unfollowed := true, recurses := true, named := ["nacelle/site.steps", "internal/strconv.uint64pow10", "math/bits.deBruijn32tab", "math/bits.deBruijn64tab", "unicode/utf8.first", "unicode/utf8.acceptRanges", "internal/bytealg.MaxLen", "strconv.ErrSyntax", "strconv.ErrRange"], apart := false, laid := [("math/bits.deBruijn32tab", laid_math_bits_deBruijn32tab), ("math/bits.deBruijn64tab", laid_math_bits_deBruijn64tab), ("internal/strconv.uint64pow10", laid_internal_strconv_uint64pow10), ("unicode/utf8.acceptRanges", laid_unicode_utf8_acceptRanges), ("strconv.ErrRange", laid_strconv_ErrRange), ("strconv.ErrSyntax", laid_strconv_ErrSyntax), ("nacelle/site.steps", laid_nacelle_site_steps), ("unicode/utf8.first", laid_unicode_utf8_first)], narrowed := true }
def WakeCurvesUptoSaid : Prop := wakeCurvesUptoRow.holds Tryz.pinned (OpenSpec.upto wakeCurvesSpec)

/-- 'nacellelaw02.WakeBack', WHERE WHAT IT READS IS OF BULK AT MOST 1048576: true; the input reads as it did. -/
def wakeBackUptoRow : OpenClaim := { program := "ytojkhldombndpaagreatdoor", sum := "cf6fee0490920a65080f3296d136b2ed75edb2ae051d85c102df7ee7ba8753ea", func := "nacelle/nacellelaw02.WakeBack", spec := "wakeBack", inPlace := ["internal/abi.NoEscape", "internal/bytealg.MakeNoZero", "internal/bytealg.CountString", "internal/bytealg.IndexByteString", "internal/bytealg.IndexString"], unfollowed := true, recurses := true, named := ["nacelle/site.steps", "internal/strconv.uint64pow10", "math/bits.deBruijn32tab", "math/bits.deBruijn64tab", "unicode/utf8.first", "unicode/utf8.acceptRanges", "internal/bytealg.MaxLen", "strconv.ErrSyntax", "strconv.ErrRange"], apart := false, laid := [("math/bits.deBruijn32tab", laid_math_bits_deBruijn32tab), ("math/bits.deBruijn64tab", laid_math_bits_deBruijn64tab), ("internal/strconv.uint64pow10", laid_internal_strconv_uint64pow10), ("unicode/utf8.acceptRanges", laid_unicode_utf8_acceptRanges), ("strconv.ErrRange", laid_strconv_ErrRange), ("strconv.ErrSyntax", laid_strconv_ErrSyntax), ("nacelle/site.steps", laid_nacelle_site_steps), ("unicode/utf8.first", laid_unicode_utf8_first)], narrowed := true }
def WakeBackUptoSaid : Prop := wakeBackUptoRow.holds Tryz.pinned (OpenSpec.upto wakeBackSpec)

/-- 'nacelletop.TopHawseTurned', WHERE WHAT IT READS IS OF BULK AT MOST 1048576: true; the input reads as it did. -/
def topHawseTurnedUptoRow : OpenClaim := { program := "ytojkhldombndpaagreatdoor", sum := "cf6fee0490920a65080f3296d136b2ed75edb2ae051d85c102df7ee7ba8753ea", func := "nacelle/nacelletop.TopHawseTurned", spec := "topHawseTurned", inPlace := ["internal/abi.NoEscape", "internal/bytealg.MakeNoZero", "internal/bytealg.IndexByteString", "internal/bytealg.IndexString", "internal/bytealg.CountString"], unfollowed := true, recurses := true, named := ["nacelle/site.steps", "internal/strconv.uint64pow10", "math/bits.deBruijn32tab", "math/bits.deBruijn64tab", "internal/bytealg.MaxLen", "unicode/utf8.first", "unicode/utf8.acceptRanges", "strconv.ErrSyntax", "strconv.ErrRange"], apart := false, laid := [("math/bits.deBruijn32tab", laid_math_bits_deBruijn32tab), ("math/bits.deBruijn64tab", laid_math_bits_deBruijn64tab), ("internal/strconv.uint64pow10", laid_internal_strconv_uint64pow10), ("unicode/utf8.acceptRanges", laid_unicode_utf8_acceptRanges), ("strconv.ErrRange", laid_strconv_ErrRange), ("strconv.ErrSyntax", laid_strconv_ErrSyntax), ("nacelle/site.steps", laid_nacelle_site_steps), ("unicode/utf8.first", laid_unicode_utf8_first)], narrowed := true }
def TopHawseTurnedUptoSaid : Prop := topHawseTurnedUptoRow.holds Tryz.pinned (OpenSpec.upto topHawseTurnedSpec)

end Rows
end Go.Proofs.YtojkhldombndpaaGreatDoor
