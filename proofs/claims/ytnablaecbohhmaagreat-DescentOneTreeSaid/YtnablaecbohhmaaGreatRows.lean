/-
  No cell of these rows narrows 'for every input' (looked for: loops, veiled, ifaces, maps, wideKeys, modest, calm, conditions, laid).
  DERIVED. THE GIVEN ROWS OF THIS SEAT. 18 by the template 'for every input the law returns true; each argument reads behind the call as it read before'; 0 by the template 'total and deterministic' (their statements: YtnablaecbohhmaaGreatTotals.lean).
  GIVEN WITH THE SEED: the statements are not yours to turn. If you find one false, say at which input.
  Laid BY PROGRAM, IN A SANDBOX (cutbox-rows.mjs): the forced cells as the released guide's own fill.sh prints them over the translation b515c421a940559a… (all of the seat's roots in one cut). By AI agents, Wed Nov 11 2026. No macro, syntax, notation, axiom, sorry.
-/
import Derived.Test.YtnablaecbohhmaaGreatChecked
import GoSem.Claim
import GoSem.ClaimJoined
import GoSem.ClaimMapViews
import Derived.JoinedTies
import Derived.KernelRfl
namespace Go.Proofs.YtnablaecbohhmaaGreat
/- THE CELL 'sum', in the pinned program and in every row, IS THE sha256 OF THE DUMP (.gsa) THAT YtnablaecbohhmaaGreatProg.lean LOADS. Nothing in Lean hashes anything: it is a label: what it is worth is what the hold of that sum in a sandbox is worth. -/
noncomputable def Tryz.pinned : Pinned := { name := "ytnablaecbohhmaagreat", sum := "b515c421a940559a927758fd2c26155a2779683a3d1c97f8d21b70a850e256bf", checked := Tryz.checked }
namespace Rows
def none {H : Type} : Left H := { results := [], args := [] }

/-- 'pecialaw05.DescentDrops': WHATEVER THE INPUT: true; the input reads as it did. -/
def descentDropsSpec : ChangeSpec := { name := "descentDrops", fn := fun _ => fun
  | [d1, d2] => { results := [.lit (.bool true)], args := [d1, d2] }
  | _ => none }
def descentDropsRow : OpenClaim := { program := "ytnablaecbohhmaagreat", sum := "b515c421a940559a927758fd2c26155a2779683a3d1c97f8d21b70a850e256bf", func := "pecia/pecialaw05.DescentDrops", spec := "descentDrops", unfollowed := true, recurses := true, apart := false }
def DescentDropsSaid : Prop := descentDropsRow.holds Tryz.pinned (OpenSpec.ofChange descentDropsSpec)

/-- ITS FALSE NEIGHBOUR: 'it returns false'. Refute it at one input. -/
def descentDropsWrong : ChangeSpec := { name := "descentDrops", fn := fun _ => fun
  | [d1, d2] => { results := [.lit (.bool false)], args := [d1, d2] }
  | _ => none }
def DescentDropsWrongFalsely : Prop := descentDropsRow.holds Tryz.pinned (OpenSpec.ofChange descentDropsWrong)

/-- 'pecialaw05.DescentModels': WHATEVER THE INPUT: true; the input reads as it did. -/
def descentModelsSpec : ChangeSpec := { name := "descentModels", fn := fun _ => fun
  | [d1, d2, d3] => { results := [.lit (.bool true)], args := [d1, d2, d3] }
  | _ => none }
def descentModelsRow : OpenClaim := { program := "ytnablaecbohhmaagreat", sum := "b515c421a940559a927758fd2c26155a2779683a3d1c97f8d21b70a850e256bf", func := "pecia/pecialaw05.DescentModels", spec := "descentModels", unfollowed := true, recurses := true, apart := false }
def DescentModelsSaid : Prop := descentModelsRow.holds Tryz.pinned (OpenSpec.ofChange descentModelsSpec)

/-- ITS FALSE NEIGHBOUR: 'it returns false'. Refute it at one input. -/
def descentModelsWrong : ChangeSpec := { name := "descentModels", fn := fun _ => fun
  | [d1, d2, d3] => { results := [.lit (.bool false)], args := [d1, d2, d3] }
  | _ => none }
def DescentModelsWrongFalsely : Prop := descentModelsRow.holds Tryz.pinned (OpenSpec.ofChange descentModelsWrong)

/-- 'pecialaw05.DescentLess': WHATEVER THE INPUT: true; the input reads as it did. -/
def descentLessSpec : ChangeSpec := { name := "descentLess", fn := fun _ => fun
  | [d1, d2, d3, d4] => { results := [.lit (.bool true)], args := [d1, d2, d3, d4] }
  | _ => none }
def descentLessRow : OpenClaim := { program := "ytnablaecbohhmaagreat", sum := "b515c421a940559a927758fd2c26155a2779683a3d1c97f8d21b70a850e256bf", func := "pecia/pecialaw05.DescentLess", spec := "descentLess", unfollowed := true, recurses := true, apart := false }
def DescentLessSaid : Prop := descentLessRow.holds Tryz.pinned (OpenSpec.ofChange descentLessSpec)

/-- ITS FALSE NEIGHBOUR: 'it returns false'. Refute it at one input. -/
def descentLessWrong : ChangeSpec := { name := "descentLess", fn := fun _ => fun
  | [d1, d2, d3, d4] => { results := [.lit (.bool false)], args := [d1, d2, d3, d4] }
  | _ => none }
def DescentLessWrongFalsely : Prop := descentLessRow.holds Tryz.pinned (OpenSpec.ofChange descentLessWrong)

/-- 'pecialaw05.DescentParts': WHATEVER THE INPUT: true; the input reads as it did. -/
def descentPartsSpec : ChangeSpec := { name := "descentParts", fn := fun _ => fun
  | [d1, d2, d3] => { results := [.lit (.bool true)], args := [d1, d2, d3] }
  | _ => none }
def descentPartsRow : OpenClaim := { program := "ytnablaecbohhmaagreat", sum := "b515c421a940559a927758fd2c26155a2779683a3d1c97f8d21b70a850e256bf", func := "pecia/pecialaw05.DescentParts", spec := "descentParts", unfollowed := true, recurses := true, apart := false }
def DescentPartsSaid : Prop := descentPartsRow.holds Tryz.pinned (OpenSpec.ofChange descentPartsSpec)

/-- ITS FALSE NEIGHBOUR: 'it returns false'. Refute it at one input. -/
def descentPartsWrong : ChangeSpec := { name := "descentParts", fn := fun _ => fun
  | [d1, d2, d3] => { results := [.lit (.bool false)], args := [d1, d2, d3] }
  | _ => none }
def DescentPartsWrongFalsely : Prop := descentPartsRow.holds Tryz.pinned (OpenSpec.ofChange descentPartsWrong)

/-- 'pecialaw05.DescentChoices': WHATEVER THE INPUT: true; the input reads as it did. -/
def descentChoicesSpec : ChangeSpec := { name := "descentChoices", fn := fun _ => fun
  | [d1, d2, d3] => { results := [.lit (.bool true)], args := [d1, d2, d3] }
  | _ => none }
def descentChoicesRow : OpenClaim := { program := "ytnablaecbohhmaagreat", sum := "b515c421a940559a927758fd2c26155a2779683a3d1c97f8d21b70a850e256bf", func := "pecia/pecialaw05.DescentChoices", spec := "descentChoices", unfollowed := true, recurses := true, apart := false }
def DescentChoicesSaid : Prop := descentChoicesRow.holds Tryz.pinned (OpenSpec.ofChange descentChoicesSpec)

/-- ITS FALSE NEIGHBOUR: 'it returns false'. Refute it at one input. -/
def descentChoicesWrong : ChangeSpec := { name := "descentChoices", fn := fun _ => fun
  | [d1, d2, d3] => { results := [.lit (.bool false)], args := [d1, d2, d3] }
  | _ => none }
def DescentChoicesWrongFalsely : Prop := descentChoicesRow.holds Tryz.pinned (OpenSpec.ofChange descentChoicesWrong)

/-- 'pecialaw05.DescentSets': WHATEVER THE INPUT: true; the input reads as it did. -/
def descentSetsSpec : ChangeSpec := { name := "descentSets", fn := fun _ => fun
  | [d1, d2, d3] => { results := [.lit (.bool true)], args := [d1, d2, d3] }
  | _ => none }
def descentSetsRow : OpenClaim := { program := "ytnablaecbohhmaagreat", sum := "b515c421a940559a927758fd2c26155a2779683a3d1c97f8d21b70a850e256bf", func := "pecia/pecialaw05.DescentSets", spec := "descentSets", unfollowed := true, recurses := true, apart := false }
def DescentSetsSaid : Prop := descentSetsRow.holds Tryz.pinned (OpenSpec.ofChange descentSetsSpec)

/-- ITS FALSE NEIGHBOUR: 'it returns false'. Refute it at one input. -/
def descentSetsWrong : ChangeSpec := { name := "descentSets", fn := fun _ => fun
  | [d1, d2, d3] => { results := [.lit (.bool false)], args := [d1, d2, d3] }
  | _ => none }
def DescentSetsWrongFalsely : Prop := descentSetsRow.holds Tryz.pinned (OpenSpec.ofChange descentSetsWrong)

/-- 'pecialaw05.DescentTrue': WHATEVER THE INPUT: true; the input reads as it did. -/
def descentTrueSpec : ChangeSpec := { name := "descentTrue", fn := fun _ => fun
  | [d] => { results := [.lit (.bool true)], args := [d] }
  | _ => none }
def descentTrueRow : OpenClaim := { program := "ytnablaecbohhmaagreat", sum := "b515c421a940559a927758fd2c26155a2779683a3d1c97f8d21b70a850e256bf", func := "pecia/pecialaw05.DescentTrue", spec := "descentTrue", unfollowed := true, recurses := true, apart := false }
def DescentTrueSaid : Prop := descentTrueRow.holds Tryz.pinned (OpenSpec.ofChange descentTrueSpec)

/-- ITS FALSE NEIGHBOUR: 'it returns false'. Refute it at one input. -/
def descentTrueWrong : ChangeSpec := { name := "descentTrue", fn := fun _ => fun
  | [d] => { results := [.lit (.bool false)], args := [d] }
  | _ => none }
def DescentTrueWrongFalsely : Prop := descentTrueRow.holds Tryz.pinned (OpenSpec.ofChange descentTrueWrong)

/-- 'pecialaw05.DescentRests': WHATEVER THE INPUT: true; the input reads as it did. -/
def descentRestsSpec : ChangeSpec := { name := "descentRests", fn := fun _ => fun
  | [d1, d2, d3, d4] => { results := [.lit (.bool true)], args := [d1, d2, d3, d4] }
  | _ => none }
def descentRestsRow : OpenClaim := { program := "ytnablaecbohhmaagreat", sum := "b515c421a940559a927758fd2c26155a2779683a3d1c97f8d21b70a850e256bf", func := "pecia/pecialaw05.DescentRests", spec := "descentRests", unfollowed := true, recurses := true, apart := false }
def DescentRestsSaid : Prop := descentRestsRow.holds Tryz.pinned (OpenSpec.ofChange descentRestsSpec)

/-- ITS FALSE NEIGHBOUR: 'it returns false'. Refute it at one input. -/
def descentRestsWrong : ChangeSpec := { name := "descentRests", fn := fun _ => fun
  | [d1, d2, d3, d4] => { results := [.lit (.bool false)], args := [d1, d2, d3, d4] }
  | _ => none }
def DescentRestsWrongFalsely : Prop := descentRestsRow.holds Tryz.pinned (OpenSpec.ofChange descentRestsWrong)

/-- 'pecialaw05.DescentBests': WHATEVER THE INPUT: true; the input reads as it did. -/
def descentBestsSpec : ChangeSpec := { name := "descentBests", fn := fun _ => fun
  | [d1, d2] => { results := [.lit (.bool true)], args := [d1, d2] }
  | _ => none }
def descentBestsRow : OpenClaim := { program := "ytnablaecbohhmaagreat", sum := "b515c421a940559a927758fd2c26155a2779683a3d1c97f8d21b70a850e256bf", func := "pecia/pecialaw05.DescentBests", spec := "descentBests", unfollowed := true, recurses := true, apart := false }
def DescentBestsSaid : Prop := descentBestsRow.holds Tryz.pinned (OpenSpec.ofChange descentBestsSpec)

/-- ITS FALSE NEIGHBOUR: 'it returns false'. Refute it at one input. -/
def descentBestsWrong : ChangeSpec := { name := "descentBests", fn := fun _ => fun
  | [d1, d2] => { results := [.lit (.bool false)], args := [d1, d2] }
  | _ => none }
def DescentBestsWrongFalsely : Prop := descentBestsRow.holds Tryz.pinned (OpenSpec.ofChange descentBestsWrong)

/-- 'pecialaw05.DescentArises': WHATEVER THE INPUT: true; the input reads as it did. -/
def descentArisesSpec : ChangeSpec := { name := "descentArises", fn := fun _ => fun
  | [d1, d2] => { results := [.lit (.bool true)], args := [d1, d2] }
  | _ => none }
def descentArisesRow : OpenClaim := { program := "ytnablaecbohhmaagreat", sum := "b515c421a940559a927758fd2c26155a2779683a3d1c97f8d21b70a850e256bf", func := "pecia/pecialaw05.DescentArises", spec := "descentArises", unfollowed := true, recurses := true, apart := false }
def DescentArisesSaid : Prop := descentArisesRow.holds Tryz.pinned (OpenSpec.ofChange descentArisesSpec)

/-- ITS FALSE NEIGHBOUR: 'it returns false'. Refute it at one input. -/
def descentArisesWrong : ChangeSpec := { name := "descentArises", fn := fun _ => fun
  | [d1, d2] => { results := [.lit (.bool false)], args := [d1, d2] }
  | _ => none }
def DescentArisesWrongFalsely : Prop := descentArisesRow.holds Tryz.pinned (OpenSpec.ofChange descentArisesWrong)

/-- 'pecialaw05.DescentOrphans': WHATEVER THE INPUT: true; the input reads as it did. -/
def descentOrphansSpec : ChangeSpec := { name := "descentOrphans", fn := fun _ => fun
  | [d] => { results := [.lit (.bool true)], args := [d] }
  | _ => none }
def descentOrphansRow : OpenClaim := { program := "ytnablaecbohhmaagreat", sum := "b515c421a940559a927758fd2c26155a2779683a3d1c97f8d21b70a850e256bf", func := "pecia/pecialaw05.DescentOrphans", spec := "descentOrphans", unfollowed := true, recurses := true, apart := false }
def DescentOrphansSaid : Prop := descentOrphansRow.holds Tryz.pinned (OpenSpec.ofChange descentOrphansSpec)

/-- ITS FALSE NEIGHBOUR: 'it returns false'. Refute it at one input. -/
def descentOrphansWrong : ChangeSpec := { name := "descentOrphans", fn := fun _ => fun
  | [d] => { results := [.lit (.bool false)], args := [d] }
  | _ => none }
def DescentOrphansWrongFalsely : Prop := descentOrphansRow.holds Tryz.pinned (OpenSpec.ofChange descentOrphansWrong)

/-- 'pecialaw05.DescentFewest': WHATEVER THE INPUT: true; the input reads as it did. -/
def descentFewestSpec : ChangeSpec := { name := "descentFewest", fn := fun _ => fun
  | [d1, d2] => { results := [.lit (.bool true)], args := [d1, d2] }
  | _ => none }
def descentFewestRow : OpenClaim := { program := "ytnablaecbohhmaagreat", sum := "b515c421a940559a927758fd2c26155a2779683a3d1c97f8d21b70a850e256bf", func := "pecia/pecialaw05.DescentFewest", spec := "descentFewest", unfollowed := true, recurses := true, apart := false }
def DescentFewestSaid : Prop := descentFewestRow.holds Tryz.pinned (OpenSpec.ofChange descentFewestSpec)

/-- ITS FALSE NEIGHBOUR: 'it returns false'. Refute it at one input. -/
def descentFewestWrong : ChangeSpec := { name := "descentFewest", fn := fun _ => fun
  | [d1, d2] => { results := [.lit (.bool false)], args := [d1, d2] }
  | _ => none }
def DescentFewestWrongFalsely : Prop := descentFewestRow.holds Tryz.pinned (OpenSpec.ofChange descentFewestWrong)

/-- 'pecialaw05.DescentLines': WHATEVER THE INPUT: true; the input reads as it did. -/
def descentLinesSpec : ChangeSpec := { name := "descentLines", fn := fun _ => fun
  | [d1, d2, d3] => { results := [.lit (.bool true)], args := [d1, d2, d3] }
  | _ => none }
def descentLinesRow : OpenClaim := { program := "ytnablaecbohhmaagreat", sum := "b515c421a940559a927758fd2c26155a2779683a3d1c97f8d21b70a850e256bf", func := "pecia/pecialaw05.DescentLines", spec := "descentLines", unfollowed := true, recurses := true, apart := false }
def DescentLinesSaid : Prop := descentLinesRow.holds Tryz.pinned (OpenSpec.ofChange descentLinesSpec)

/-- ITS FALSE NEIGHBOUR: 'it returns false'. Refute it at one input. -/
def descentLinesWrong : ChangeSpec := { name := "descentLines", fn := fun _ => fun
  | [d1, d2, d3] => { results := [.lit (.bool false)], args := [d1, d2, d3] }
  | _ => none }
def DescentLinesWrongFalsely : Prop := descentLinesRow.holds Tryz.pinned (OpenSpec.ofChange descentLinesWrong)

/-- 'pecialaw05.DescentPaths': WHATEVER THE INPUT: true; the input reads as it did. -/
def descentPathsSpec : ChangeSpec := { name := "descentPaths", fn := fun _ => fun
  | [d1, d2, d3, d4] => { results := [.lit (.bool true)], args := [d1, d2, d3, d4] }
  | _ => none }
def descentPathsRow : OpenClaim := { program := "ytnablaecbohhmaagreat", sum := "b515c421a940559a927758fd2c26155a2779683a3d1c97f8d21b70a850e256bf", func := "pecia/pecialaw05.DescentPaths", spec := "descentPaths", unfollowed := true, recurses := true, apart := false }
def DescentPathsSaid : Prop := descentPathsRow.holds Tryz.pinned (OpenSpec.ofChange descentPathsSpec)

/-- ITS FALSE NEIGHBOUR: 'it returns false'. Refute it at one input. -/
def descentPathsWrong : ChangeSpec := { name := "descentPaths", fn := fun _ => fun
  | [d1, d2, d3, d4] => { results := [.lit (.bool false)], args := [d1, d2, d3, d4] }
  | _ => none }
def DescentPathsWrongFalsely : Prop := descentPathsRow.holds Tryz.pinned (OpenSpec.ofChange descentPathsWrong)

/-- 'pecialaw05.DescentMeets': WHATEVER THE INPUT: true; the input reads as it did. -/
def descentMeetsSpec : ChangeSpec := { name := "descentMeets", fn := fun _ => fun
  | [d1, d2, d3, d4] => { results := [.lit (.bool true)], args := [d1, d2, d3, d4] }
  | _ => none }
def descentMeetsRow : OpenClaim := { program := "ytnablaecbohhmaagreat", sum := "b515c421a940559a927758fd2c26155a2779683a3d1c97f8d21b70a850e256bf", func := "pecia/pecialaw05.DescentMeets", spec := "descentMeets", unfollowed := true, recurses := true, apart := false }
def DescentMeetsSaid : Prop := descentMeetsRow.holds Tryz.pinned (OpenSpec.ofChange descentMeetsSpec)

/-- ITS FALSE NEIGHBOUR: 'it returns false'. Refute it at one input. -/
def descentMeetsWrong : ChangeSpec := { name := "descentMeets", fn := fun _ => fun
  | [d1, d2, d3, d4] => { results := [.lit (.bool false)], args := [d1, d2, d3, d4] }
  | _ => none }
def DescentMeetsWrongFalsely : Prop := descentMeetsRow.holds Tryz.pinned (OpenSpec.ofChange descentMeetsWrong)

/-- 'pecialaw05.DescentTrees': WHATEVER THE INPUT: true; the input reads as it did. -/
def descentTreesSpec : ChangeSpec := { name := "descentTrees", fn := fun _ => fun
  | [d1, d2, d3, d4] => { results := [.lit (.bool true)], args := [d1, d2, d3, d4] }
  | _ => none }
def descentTreesRow : OpenClaim := { program := "ytnablaecbohhmaagreat", sum := "b515c421a940559a927758fd2c26155a2779683a3d1c97f8d21b70a850e256bf", func := "pecia/pecialaw05.DescentTrees", spec := "descentTrees", unfollowed := true, recurses := true, apart := false }
def DescentTreesSaid : Prop := descentTreesRow.holds Tryz.pinned (OpenSpec.ofChange descentTreesSpec)

/-- ITS FALSE NEIGHBOUR: 'it returns false'. Refute it at one input. -/
def descentTreesWrong : ChangeSpec := { name := "descentTrees", fn := fun _ => fun
  | [d1, d2, d3, d4] => { results := [.lit (.bool false)], args := [d1, d2, d3, d4] }
  | _ => none }
def DescentTreesWrongFalsely : Prop := descentTreesRow.holds Tryz.pinned (OpenSpec.ofChange descentTreesWrong)

/-- 'pecialaw05.DescentOneTree': WHATEVER THE INPUT: true; the input reads as it did. -/
def descentOneTreeSpec : ChangeSpec := { name := "descentOneTree", fn := fun _ => fun
  | [d1, d2, d3] => { results := [.lit (.bool true)], args := [d1, d2, d3] }
  | _ => none }
def descentOneTreeRow : OpenClaim := { program := "ytnablaecbohhmaagreat", sum := "b515c421a940559a927758fd2c26155a2779683a3d1c97f8d21b70a850e256bf", func := "pecia/pecialaw05.DescentOneTree", spec := "descentOneTree", unfollowed := true, recurses := true, apart := false }
def DescentOneTreeSaid : Prop := descentOneTreeRow.holds Tryz.pinned (OpenSpec.ofChange descentOneTreeSpec)

/-- ITS FALSE NEIGHBOUR: 'it returns false'. Refute it at one input. -/
def descentOneTreeWrong : ChangeSpec := { name := "descentOneTree", fn := fun _ => fun
  | [d1, d2, d3] => { results := [.lit (.bool false)], args := [d1, d2, d3] }
  | _ => none }
def DescentOneTreeWrongFalsely : Prop := descentOneTreeRow.holds Tryz.pinned (OpenSpec.ofChange descentOneTreeWrong)

/-- 'pecialaw05.DescentMore': WHATEVER THE INPUT: true; the input reads as it did. -/
def descentMoreSpec : ChangeSpec := { name := "descentMore", fn := fun _ => fun
  | [d1, d2, d3, d4, d5] => { results := [.lit (.bool true)], args := [d1, d2, d3, d4, d5] }
  | _ => none }
def descentMoreRow : OpenClaim := { program := "ytnablaecbohhmaagreat", sum := "b515c421a940559a927758fd2c26155a2779683a3d1c97f8d21b70a850e256bf", func := "pecia/pecialaw05.DescentMore", spec := "descentMore", unfollowed := true, recurses := true, apart := false }
def DescentMoreSaid : Prop := descentMoreRow.holds Tryz.pinned (OpenSpec.ofChange descentMoreSpec)

/-- ITS FALSE NEIGHBOUR: 'it returns false'. Refute it at one input. -/
def descentMoreWrong : ChangeSpec := { name := "descentMore", fn := fun _ => fun
  | [d1, d2, d3, d4, d5] => { results := [.lit (.bool false)], args := [d1, d2, d3, d4, d5] }
  | _ => none }
def DescentMoreWrongFalsely : Prop := descentMoreRow.holds Tryz.pinned (OpenSpec.ofChange descentMoreWrong)

/- THE SECOND FORM. 'bulk': how many values and letters a reading holds, each counted each time it is reached (what is shared counts as often as it is met; a slice's spare places count too). A statement '..UptoSaid' is the law's where the arguments, and the package variables that the reading takes, are together of bulk at most 1048576: NARROWER than '..Said'. Prove '..Said' where nothing that the law and all that it calls make is longer than what came in: it says more and counts as full. Else prove '..UptoSaid'. A law counts once. -/
mutual
def uptoBulk {H : Type} : DataW H → Nat
  | .lit (.string bytes) => bytes.length + 1
  | .lit _ => 1
  | .nil => 1
  | .ptr d => uptoBulk d + 1
  | .slice elems spare => uptoBulkAll elems + uptoBulkAll spare + 1
  | .agg parts => uptoBulkAll parts + 1
  | .iface _ d => uptoBulk d + 1
  | .map entries => uptoBulkEntries entries + 1
  | .held _ => 1
def uptoBulkAll {H : Type} : List (DataW H) → Nat
  | [] => 0
  | d :: r => uptoBulk d + uptoBulkAll r
def uptoBulkEntries {H : Type} : List (Lit × DataW H) → Nat
  | [] => 0
  | x :: r => uptoBulkEntry x + uptoBulkEntries r
def uptoBulkEntry {H : Type} : Lit × DataW H → Nat
  | (.string bytes, d) => bytes.length + uptoBulk d + 1
  | (_, d) => uptoBulk d + 1
 end
def uptoSmall : (H : Type) → List (DataW H) → Bool := fun _ ds => decide (uptoBulkAll ds ≤ 1048576)
def OpenSpec.upto (s : _root_.Go.ChangeSpec) : _root_.Go.OpenSpec := { _root_.Go.OpenSpec.ofChange s with cond := some uptoSmall }

/-- 'pecialaw05.DescentDrops', WHERE WHAT IT READS IS OF BULK AT MOST 1048576: true; the input reads as it did. -/
def descentDropsUptoRow : OpenClaim := { program := "ytnablaecbohhmaagreat", sum := "b515c421a940559a927758fd2c26155a2779683a3d1c97f8d21b70a850e256bf", func := "pecia/pecialaw05.DescentDrops", spec := "descentDrops", unfollowed := true, recurses := true, apart := false, narrowed := true }
def DescentDropsUptoSaid : Prop := descentDropsUptoRow.holds Tryz.pinned (OpenSpec.upto descentDropsSpec)

/-- 'pecialaw05.DescentModels', WHERE WHAT IT READS IS OF BULK AT MOST 1048576: true; the input reads as it did. -/
def descentModelsUptoRow : OpenClaim := { program := "ytnablaecbohhmaagreat", sum := "b515c421a940559a927758fd2c26155a2779683a3d1c97f8d21b70a850e256bf", func := "pecia/pecialaw05.DescentModels", spec := "descentModels", unfollowed := true, recurses := true, apart := false, narrowed := true }
def DescentModelsUptoSaid : Prop := descentModelsUptoRow.holds Tryz.pinned (OpenSpec.upto descentModelsSpec)

/-- 'pecialaw05.DescentLess', WHERE WHAT IT READS IS OF BULK AT MOST 1048576: true; the input reads as it did. -/
def descentLessUptoRow : OpenClaim := { program := "ytnablaecbohhmaagreat", sum := "b515c421a940559a927758fd2c26155a2779683a3d1c97f8d21b70a850e256bf", func := "pecia/pecialaw05.DescentLess", spec := "descentLess", unfollowed := true, recurses := true, apart := false, narrowed := true }
def DescentLessUptoSaid : Prop := descentLessUptoRow.holds Tryz.pinned (OpenSpec.upto descentLessSpec)

/-- 'pecialaw05.DescentParts', WHERE WHAT IT READS IS OF BULK AT MOST 1048576: true; the input reads as it did. -/
def descentPartsUptoRow : OpenClaim := { program := "ytnablaecbohhmaagreat", sum := "b515c421a940559a927758fd2c26155a2779683a3d1c97f8d21b70a850e256bf", func := "pecia/pecialaw05.DescentParts", spec := "descentParts", unfollowed := true, recurses := true, apart := false, narrowed := true }
def DescentPartsUptoSaid : Prop := descentPartsUptoRow.holds Tryz.pinned (OpenSpec.upto descentPartsSpec)

/-- 'pecialaw05.DescentChoices', WHERE WHAT IT READS IS OF BULK AT MOST 1048576: true; the input reads as it did. -/
def descentChoicesUptoRow : OpenClaim := { program := "ytnablaecbohhmaagreat", sum := "b515c421a940559a927758fd2c26155a2779683a3d1c97f8d21b70a850e256bf", func := "pecia/pecialaw05.DescentChoices", spec := "descentChoices", unfollowed := true, recurses := true, apart := false, narrowed := true }
def DescentChoicesUptoSaid : Prop := descentChoicesUptoRow.holds Tryz.pinned (OpenSpec.upto descentChoicesSpec)

/-- 'pecialaw05.DescentSets', WHERE WHAT IT READS IS OF BULK AT MOST 1048576: true; the input reads as it did. -/
def descentSetsUptoRow : OpenClaim := { program := "ytnablaecbohhmaagreat", sum := "b515c421a940559a927758fd2c26155a2779683a3d1c97f8d21b70a850e256bf", func := "pecia/pecialaw05.DescentSets", spec := "descentSets", unfollowed := true, recurses := true, apart := false, narrowed := true }
def DescentSetsUptoSaid : Prop := descentSetsUptoRow.holds Tryz.pinned (OpenSpec.upto descentSetsSpec)

/-- 'pecialaw05.DescentTrue', WHERE WHAT IT READS IS OF BULK AT MOST 1048576: true; the input reads as it did. -/
def descentTrueUptoRow : OpenClaim := { program := "ytnablaecbohhmaagreat", sum := "b515c421a940559a927758fd2c26155a2779683a3d1c97f8d21b70a850e256bf", func := "pecia/pecialaw05.DescentTrue", spec := "descentTrue", unfollowed := true, recurses := true, apart := false, narrowed := true }
def DescentTrueUptoSaid : Prop := descentTrueUptoRow.holds Tryz.pinned (OpenSpec.upto descentTrueSpec)

/-- 'pecialaw05.DescentRests', WHERE WHAT IT READS IS OF BULK AT MOST 1048576: true; the input reads as it did. -/
def descentRestsUptoRow : OpenClaim := { program := "ytnablaecbohhmaagreat", sum := "b515c421a940559a927758fd2c26155a2779683a3d1c97f8d21b70a850e256bf", func := "pecia/pecialaw05.DescentRests", spec := "descentRests", unfollowed := true, recurses := true, apart := false, narrowed := true }
def DescentRestsUptoSaid : Prop := descentRestsUptoRow.holds Tryz.pinned (OpenSpec.upto descentRestsSpec)

/-- 'pecialaw05.DescentBests', WHERE WHAT IT READS IS OF BULK AT MOST 1048576: true; the input reads as it did. -/
def descentBestsUptoRow : OpenClaim := { program := "ytnablaecbohhmaagreat", sum := "b515c421a940559a927758fd2c26155a2779683a3d1c97f8d21b70a850e256bf", func := "pecia/pecialaw05.DescentBests", spec := "descentBests", unfollowed := true, recurses := true, apart := false, narrowed := true }
def DescentBestsUptoSaid : Prop := descentBestsUptoRow.holds Tryz.pinned (OpenSpec.upto descentBestsSpec)

/-- 'pecialaw05.DescentArises', WHERE WHAT IT READS IS OF BULK AT MOST 1048576: true; the input reads as it did. -/
def descentArisesUptoRow : OpenClaim := { program := "ytnablaecbohhmaagreat", sum := "b515c421a940559a927758fd2c26155a2779683a3d1c97f8d21b70a850e256bf", func := "pecia/pecialaw05.DescentArises", spec := "descentArises", unfollowed := true, recurses := true, apart := false, narrowed := true }
def DescentArisesUptoSaid : Prop := descentArisesUptoRow.holds Tryz.pinned (OpenSpec.upto descentArisesSpec)

/-- 'pecialaw05.DescentOrphans', WHERE WHAT IT READS IS OF BULK AT MOST 1048576: true; the input reads as it did. -/
def descentOrphansUptoRow : OpenClaim := { program := "ytnablaecbohhmaagreat", sum := "b515c421a940559a927758fd2c26155a2779683a3d1c97f8d21b70a850e256bf", func := "pecia/pecialaw05.DescentOrphans", spec := "descentOrphans", unfollowed := true, recurses := true, apart := false, narrowed := true }
def DescentOrphansUptoSaid : Prop := descentOrphansUptoRow.holds Tryz.pinned (OpenSpec.upto descentOrphansSpec)

/-- 'pecialaw05.DescentFewest', WHERE WHAT IT READS IS OF BULK AT MOST 1048576: true; the input reads as it did. -/
def descentFewestUptoRow : OpenClaim := { program := "ytnablaecbohhmaagreat", sum := "b515c421a940559a927758fd2c26155a2779683a3d1c97f8d21b70a850e256bf", func := "pecia/pecialaw05.DescentFewest", spec := "descentFewest", unfollowed := true, recurses := true, apart := false, narrowed := true }
def DescentFewestUptoSaid : Prop := descentFewestUptoRow.holds Tryz.pinned (OpenSpec.upto descentFewestSpec)

/-- 'pecialaw05.DescentLines', WHERE WHAT IT READS IS OF BULK AT MOST 1048576: true; the input reads as it did. -/
def descentLinesUptoRow : OpenClaim := { program := "ytnablaecbohhmaagreat", sum := "b515c421a940559a927758fd2c26155a2779683a3d1c97f8d21b70a850e256bf", func := "pecia/pecialaw05.DescentLines", spec := "descentLines", unfollowed := true, recurses := true, apart := false, narrowed := true }
def DescentLinesUptoSaid : Prop := descentLinesUptoRow.holds Tryz.pinned (OpenSpec.upto descentLinesSpec)

/-- 'pecialaw05.DescentPaths', WHERE WHAT IT READS IS OF BULK AT MOST 1048576: true; the input reads as it did. -/
def descentPathsUptoRow : OpenClaim := { program := "ytnablaecbohhmaagreat", sum := "b515c421a940559a927758fd2c26155a2779683a3d1c97f8d21b70a850e256bf", func := "pecia/pecialaw05.DescentPaths", spec := "descentPaths", unfollowed := true, recurses := true, apart := false, narrowed := true }
def DescentPathsUptoSaid : Prop := descentPathsUptoRow.holds Tryz.pinned (OpenSpec.upto descentPathsSpec)

/-- 'pecialaw05.DescentMeets', WHERE WHAT IT READS IS OF BULK AT MOST 1048576: true; the input reads as it did. -/
def descentMeetsUptoRow : OpenClaim := { program := "ytnablaecbohhmaagreat", sum := "b515c421a940559a927758fd2c26155a2779683a3d1c97f8d21b70a850e256bf", func := "pecia/pecialaw05.DescentMeets", spec := "descentMeets", unfollowed := true, recurses := true, apart := false, narrowed := true }
def DescentMeetsUptoSaid : Prop := descentMeetsUptoRow.holds Tryz.pinned (OpenSpec.upto descentMeetsSpec)

/-- 'pecialaw05.DescentTrees', WHERE WHAT IT READS IS OF BULK AT MOST 1048576: true; the input reads as it did. -/
def descentTreesUptoRow : OpenClaim := { program := "ytnablaecbohhmaagreat", sum := "b515c421a940559a927758fd2c26155a2779683a3d1c97f8d21b70a850e256bf", func := "pecia/pecialaw05.DescentTrees", spec := "descentTrees", unfollowed := true, recurses := true, apart := false, narrowed := true }
def DescentTreesUptoSaid : Prop := descentTreesUptoRow.holds Tryz.pinned (OpenSpec.upto descentTreesSpec)

/-- 'pecialaw05.DescentOneTree', WHERE WHAT IT READS IS OF BULK AT MOST 1048576: true; the input reads as it did. -/
def descentOneTreeUptoRow : OpenClaim := { program := "ytnablaecbohhmaagreat", sum := "b515c421a940559a927758fd2c26155a2779683a3d1c97f8d21b70a850e256bf", func := "pecia/pecialaw05.DescentOneTree", spec := "descentOneTree", unfollowed := true, recurses := true, apart := false, narrowed := true }
def DescentOneTreeUptoSaid : Prop := descentOneTreeUptoRow.holds Tryz.pinned (OpenSpec.upto descentOneTreeSpec)

/-- 'pecialaw05.DescentMore', WHERE WHAT IT READS IS OF BULK AT MOST 1048576: true; the input reads as it did. -/
def descentMoreUptoRow : OpenClaim := { program := "ytnablaecbohhmaagreat", sum := "b515c421a940559a927758fd2c26155a2779683a3d1c97f8d21b70a850e256bf", func := "pecia/pecialaw05.DescentMore", spec := "descentMore", unfollowed := true, recurses := true, apart := false, narrowed := true }
def DescentMoreUptoSaid : Prop := descentMoreUptoRow.holds Tryz.pinned (OpenSpec.upto descentMoreSpec)

end Rows
end Go.Proofs.YtnablaecbohhmaaGreat
