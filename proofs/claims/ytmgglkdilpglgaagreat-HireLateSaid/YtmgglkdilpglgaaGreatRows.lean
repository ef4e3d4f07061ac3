/-
  No cell of these rows narrows 'for every input' (looked for: loops, veiled, ifaces, maps, wideKeys, modest, calm, conditions, laid).
  DERIVED. THE GIVEN ROWS OF THIS SEAT. 11 by the template 'for every input the law returns true; each argument reads behind the call as it read before'; 0 by the template 'total and deterministic' (their statements: YtmgglkdilpglgaaGreatTotals.lean).
  GIVEN WITH THE SEED: the statements are not yours to turn. If you find one false, say at which input.
  Laid BY PROGRAM, IN A SANDBOX (cutbox-rows.mjs): the forced cells as the released guide's own fill.sh prints them over the translation 1c543892219d1ee3… (all of the seat's roots in one cut). By AI agents, Wed Nov 11 2026. No macro, syntax, notation, axiom, sorry.
-/
import Derived.Test.YtmgglkdilpglgaaGreatChecked
import GoSem.Claim
import GoSem.ClaimJoined
import GoSem.ClaimMapViews
import Derived.JoinedTies
import Derived.KernelRfl
namespace Go.Proofs.YtmgglkdilpglgaaGreat
/- THE CELL 'sum', in the pinned program and in every row, IS THE sha256 OF THE DUMP (.gsa) THAT YtmgglkdilpglgaaGreatProg.lean LOADS. Nothing in Lean hashes anything: it is a label: what it is worth is what the hold of that sum in a sandbox is worth. -/
noncomputable def Tryz.pinned : Pinned := { name := "ytmgglkdilpglgaagreat", sum := "1c543892219d1ee317d63d91e35a80ade503eacb42f2e53ec51b7565613a19b8", checked := Tryz.checked }
namespace Rows
def none {H : Type} : Left H := { results := [], args := [] }

/-- 'pecialaw04.HireHolds': WHATEVER THE INPUT: true; the input reads as it did. -/
def hireHoldsSpec : ChangeSpec := { name := "hireHolds", fn := fun _ => fun
  | [d1, d2, d3] => { results := [.lit (.bool true)], args := [d1, d2, d3] }
  | _ => none }
def hireHoldsRow : OpenClaim := { program := "ytmgglkdilpglgaagreat", sum := "1c543892219d1ee317d63d91e35a80ade503eacb42f2e53ec51b7565613a19b8", func := "pecia/pecialaw04.HireHolds", spec := "hireHolds", unfollowed := true, recurses := true, apart := false }
def HireHoldsSaid : Prop := hireHoldsRow.holds Tryz.pinned (OpenSpec.ofChange hireHoldsSpec)

/-- ITS FALSE NEIGHBOUR: 'it returns false'. Refute it at one input. -/
def hireHoldsWrong : ChangeSpec := { name := "hireHolds", fn := fun _ => fun
  | [d1, d2, d3] => { results := [.lit (.bool false)], args := [d1, d2, d3] }
  | _ => none }
def HireHoldsWrongFalsely : Prop := hireHoldsRow.holds Tryz.pinned (OpenSpec.ofChange hireHoldsWrong)

/-- 'pecialaw04.HireOneHand': WHATEVER THE INPUT: true; the input reads as it did. -/
def hireOneHandSpec : ChangeSpec := { name := "hireOneHand", fn := fun _ => fun
  | [d1, d2] => { results := [.lit (.bool true)], args := [d1, d2] }
  | _ => none }
def hireOneHandRow : OpenClaim := { program := "ytmgglkdilpglgaagreat", sum := "1c543892219d1ee317d63d91e35a80ade503eacb42f2e53ec51b7565613a19b8", func := "pecia/pecialaw04.HireOneHand", spec := "hireOneHand", unfollowed := true, recurses := true, apart := false }
def HireOneHandSaid : Prop := hireOneHandRow.holds Tryz.pinned (OpenSpec.ofChange hireOneHandSpec)

/-- ITS FALSE NEIGHBOUR: 'it returns false'. Refute it at one input. -/
def hireOneHandWrong : ChangeSpec := { name := "hireOneHand", fn := fun _ => fun
  | [d1, d2] => { results := [.lit (.bool false)], args := [d1, d2] }
  | _ => none }
def HireOneHandWrongFalsely : Prop := hireOneHandRow.holds Tryz.pinned (OpenSpec.ofChange hireOneHandWrong)

/-- 'pecialaw04.HireHonest': WHATEVER THE INPUT: true; the input reads as it did. -/
def hireHonestSpec : ChangeSpec := { name := "hireHonest", fn := fun _ => fun
  | [d1, d2, d3] => { results := [.lit (.bool true)], args := [d1, d2, d3] }
  | _ => none }
def hireHonestRow : OpenClaim := { program := "ytmgglkdilpglgaagreat", sum := "1c543892219d1ee317d63d91e35a80ade503eacb42f2e53ec51b7565613a19b8", func := "pecia/pecialaw04.HireHonest", spec := "hireHonest", unfollowed := true, recurses := true, apart := false }
def HireHonestSaid : Prop := hireHonestRow.holds Tryz.pinned (OpenSpec.ofChange hireHonestSpec)

/-- ITS FALSE NEIGHBOUR: 'it returns false'. Refute it at one input. -/
def hireHonestWrong : ChangeSpec := { name := "hireHonest", fn := fun _ => fun
  | [d1, d2, d3] => { results := [.lit (.bool false)], args := [d1, d2, d3] }
  | _ => none }
def HireHonestWrongFalsely : Prop := hireHonestRow.holds Tryz.pinned (OpenSpec.ofChange hireHonestWrong)

/-- 'pecialaw04.HireBlocked': WHATEVER THE INPUT: true; the input reads as it did. -/
def hireBlockedSpec : ChangeSpec := { name := "hireBlocked", fn := fun _ => fun
  | [d1, d2, d3] => { results := [.lit (.bool true)], args := [d1, d2, d3] }
  | _ => none }
def hireBlockedRow : OpenClaim := { program := "ytmgglkdilpglgaagreat", sum := "1c543892219d1ee317d63d91e35a80ade503eacb42f2e53ec51b7565613a19b8", func := "pecia/pecialaw04.HireBlocked", spec := "hireBlocked", unfollowed := true, recurses := true, apart := false }
def HireBlockedSaid : Prop := hireBlockedRow.holds Tryz.pinned (OpenSpec.ofChange hireBlockedSpec)

/-- ITS FALSE NEIGHBOUR: 'it returns false'. Refute it at one input. -/
def hireBlockedWrong : ChangeSpec := { name := "hireBlocked", fn := fun _ => fun
  | [d1, d2, d3] => { results := [.lit (.bool false)], args := [d1, d2, d3] }
  | _ => none }
def HireBlockedWrongFalsely : Prop := hireBlockedRow.holds Tryz.pinned (OpenSpec.ofChange hireBlockedWrong)

/-- 'pecialaw04.HireDeals': WHATEVER THE INPUT: true; the input reads as it did. -/
def hireDealsSpec : ChangeSpec := { name := "hireDeals", fn := fun _ => fun
  | [d1, d2, d3, d4] => { results := [.lit (.bool true)], args := [d1, d2, d3, d4] }
  | _ => none }
def hireDealsRow : OpenClaim := { program := "ytmgglkdilpglgaagreat", sum := "1c543892219d1ee317d63d91e35a80ade503eacb42f2e53ec51b7565613a19b8", func := "pecia/pecialaw04.HireDeals", spec := "hireDeals", unfollowed := true, recurses := true, apart := false }
def HireDealsSaid : Prop := hireDealsRow.holds Tryz.pinned (OpenSpec.ofChange hireDealsSpec)

/-- ITS FALSE NEIGHBOUR: 'it returns false'. Refute it at one input. -/
def hireDealsWrong : ChangeSpec := { name := "hireDeals", fn := fun _ => fun
  | [d1, d2, d3, d4] => { results := [.lit (.bool false)], args := [d1, d2, d3, d4] }
  | _ => none }
def HireDealsWrongFalsely : Prop := hireDealsRow.holds Tryz.pinned (OpenSpec.ofChange hireDealsWrong)

/-- 'pecialaw04.HireCases': WHATEVER THE INPUT: true; the input reads as it did. -/
def hireCasesSpec : ChangeSpec := { name := "hireCases", fn := fun _ => fun
  | [d1, d2, d3, d4] => { results := [.lit (.bool true)], args := [d1, d2, d3, d4] }
  | _ => none }
def hireCasesRow : OpenClaim := { program := "ytmgglkdilpglgaagreat", sum := "1c543892219d1ee317d63d91e35a80ade503eacb42f2e53ec51b7565613a19b8", func := "pecia/pecialaw04.HireCases", spec := "hireCases", unfollowed := true, recurses := true, apart := false }
def HireCasesSaid : Prop := hireCasesRow.holds Tryz.pinned (OpenSpec.ofChange hireCasesSpec)

/-- ITS FALSE NEIGHBOUR: 'it returns false'. Refute it at one input. -/
def hireCasesWrong : ChangeSpec := { name := "hireCases", fn := fun _ => fun
  | [d1, d2, d3, d4] => { results := [.lit (.bool false)], args := [d1, d2, d3, d4] }
  | _ => none }
def HireCasesWrongFalsely : Prop := hireCasesRow.holds Tryz.pinned (OpenSpec.ofChange hireCasesWrong)

/-- 'pecialaw04.HireRestores': WHATEVER THE INPUT: true; the input reads as it did. -/
def hireRestoresSpec : ChangeSpec := { name := "hireRestores", fn := fun _ => fun
  | [d1, d2] => { results := [.lit (.bool true)], args := [d1, d2] }
  | _ => none }
def hireRestoresRow : OpenClaim := { program := "ytmgglkdilpglgaagreat", sum := "1c543892219d1ee317d63d91e35a80ade503eacb42f2e53ec51b7565613a19b8", func := "pecia/pecialaw04.HireRestores", spec := "hireRestores", unfollowed := true, recurses := true, apart := false }
def HireRestoresSaid : Prop := hireRestoresRow.holds Tryz.pinned (OpenSpec.ofChange hireRestoresSpec)

/-- ITS FALSE NEIGHBOUR: 'it returns false'. Refute it at one input. -/
def hireRestoresWrong : ChangeSpec := { name := "hireRestores", fn := fun _ => fun
  | [d1, d2] => { results := [.lit (.bool false)], args := [d1, d2] }
  | _ => none }
def HireRestoresWrongFalsely : Prop := hireRestoresRow.holds Tryz.pinned (OpenSpec.ofChange hireRestoresWrong)

/-- 'pecialaw04.HireLate': WHATEVER THE INPUT: true; the input reads as it did. -/
def hireLateSpec : ChangeSpec := { name := "hireLate", fn := fun _ => fun
  | [d1, d2, d3] => { results := [.lit (.bool true)], args := [d1, d2, d3] }
  | _ => none }
def hireLateRow : OpenClaim := { program := "ytmgglkdilpglgaagreat", sum := "1c543892219d1ee317d63d91e35a80ade503eacb42f2e53ec51b7565613a19b8", func := "pecia/pecialaw04.HireLate", spec := "hireLate", unfollowed := true, recurses := true, apart := false }
def HireLateSaid : Prop := hireLateRow.holds Tryz.pinned (OpenSpec.ofChange hireLateSpec)

/-- ITS FALSE NEIGHBOUR: 'it returns false'. Refute it at one input. -/
def hireLateWrong : ChangeSpec := { name := "hireLate", fn := fun _ => fun
  | [d1, d2, d3] => { results := [.lit (.bool false)], args := [d1, d2, d3] }
  | _ => none }
def HireLateWrongFalsely : Prop := hireLateRow.holds Tryz.pinned (OpenSpec.ofChange hireLateWrong)

/-- 'pecialaw04.HireObjects': WHATEVER THE INPUT: true; the input reads as it did. -/
def hireObjectsSpec : ChangeSpec := { name := "hireObjects", fn := fun _ => fun
  | [d1, d2, d3, d4, d5, d6, d7] => { results := [.lit (.bool true)], args := [d1, d2, d3, d4, d5, d6, d7] }
  | _ => none }
def hireObjectsRow : OpenClaim := { program := "ytmgglkdilpglgaagreat", sum := "1c543892219d1ee317d63d91e35a80ade503eacb42f2e53ec51b7565613a19b8", func := "pecia/pecialaw04.HireObjects", spec := "hireObjects", unfollowed := true, recurses := true, apart := false }
def HireObjectsSaid : Prop := hireObjectsRow.holds Tryz.pinned (OpenSpec.ofChange hireObjectsSpec)

/-- ITS FALSE NEIGHBOUR: 'it returns false'. Refute it at one input. -/
def hireObjectsWrong : ChangeSpec := { name := "hireObjects", fn := fun _ => fun
  | [d1, d2, d3, d4, d5, d6, d7] => { results := [.lit (.bool false)], args := [d1, d2, d3, d4, d5, d6, d7] }
  | _ => none }
def HireObjectsWrongFalsely : Prop := hireObjectsRow.holds Tryz.pinned (OpenSpec.ofChange hireObjectsWrong)

/-- 'pecialaw04.HireStuck': WHATEVER THE INPUT: true; the input reads as it did. -/
def hireStuckSpec : ChangeSpec := { name := "hireStuck", fn := fun _ => fun
  | [d1, d2, d3] => { results := [.lit (.bool true)], args := [d1, d2, d3] }
  | _ => none }
def hireStuckRow : OpenClaim := { program := "ytmgglkdilpglgaagreat", sum := "1c543892219d1ee317d63d91e35a80ade503eacb42f2e53ec51b7565613a19b8", func := "pecia/pecialaw04.HireStuck", spec := "hireStuck", unfollowed := true, recurses := true, apart := false }
def HireStuckSaid : Prop := hireStuckRow.holds Tryz.pinned (OpenSpec.ofChange hireStuckSpec)

/-- ITS FALSE NEIGHBOUR: 'it returns false'. Refute it at one input. -/
def hireStuckWrong : ChangeSpec := { name := "hireStuck", fn := fun _ => fun
  | [d1, d2, d3] => { results := [.lit (.bool false)], args := [d1, d2, d3] }
  | _ => none }
def HireStuckWrongFalsely : Prop := hireStuckRow.holds Tryz.pinned (OpenSpec.ofChange hireStuckWrong)

/-- 'pecialaw04.HireCore': WHATEVER THE INPUT: true; the input reads as it did. -/
def hireCoreSpec : ChangeSpec := { name := "hireCore", fn := fun _ => fun
  | [d1, d2, d3, d4] => { results := [.lit (.bool true)], args := [d1, d2, d3, d4] }
  | _ => none }
def hireCoreRow : OpenClaim := { program := "ytmgglkdilpglgaagreat", sum := "1c543892219d1ee317d63d91e35a80ade503eacb42f2e53ec51b7565613a19b8", func := "pecia/pecialaw04.HireCore", spec := "hireCore", unfollowed := true, recurses := true, apart := false }
def HireCoreSaid : Prop := hireCoreRow.holds Tryz.pinned (OpenSpec.ofChange hireCoreSpec)

/-- ITS FALSE NEIGHBOUR: 'it returns false'. Refute it at one input. -/
def hireCoreWrong : ChangeSpec := { name := "hireCore", fn := fun _ => fun
  | [d1, d2, d3, d4] => { results := [.lit (.bool false)], args := [d1, d2, d3, d4] }
  | _ => none }
def HireCoreWrongFalsely : Prop := hireCoreRow.holds Tryz.pinned (OpenSpec.ofChange hireCoreWrong)

/- THE SECOND FORM. 'bulk': how many values and letters a reading holds, each counted each time it is reached (what is shared counts as often as it is met; a slice's spare places count too). A statement '..UptoSaid' is the law's where the arguments, and the package variables that the reading takes, are together of bulk at most 1048576: NARROWER than '..Said'. Prove '..Said' where nothing that the law and all that it calls make is longer than what came in: it says more and counts as full. Else prove '..UptoSaid'. A law counts once. -/
mutual
def uptoBulk {H : Type} : DataW H → Nat
  | .lit (.string bytes) => bytes.length + 1
  | .lit _ => 1
  | .nil => 1
  | .ptr d => uptoBulk d + 1
  | .slice elems spare => uptoBulkAll elems + uptoBulkAll spare + 1
  | .agg parts => uptoBulkAll parts + 1
  | .iface _ d => uptoBulk d + 1
  | .map entries => uptoBulkEntries entries + 1
  | .held _ => 1
def uptoBulkAll {H : Type} : List (DataW H) → Nat
  | [] => 0
  | d :: r => uptoBulk d + uptoBulkAll r
def uptoBulkEntries {H : Type} : List (Lit × DataW H) → Nat
  | [] => 0
  | x :: r => uptoBulkEntry x + uptoBulkEntries r
def uptoBulkEntry {H : Type} : Lit × DataW H → Nat
  | (.string bytes, d) => bytes.length + uptoBulk d + 1
  | (_, d) => uptoBulk d + 1
 end
def uptoSmall : (H : Type) → List (DataW H) → Bool := fun _ ds => decide (uptoBulkAll ds ≤ 1048576)
def OpenSpec.upto (s : _root_.Go.ChangeSpec) : _root_.Go.OpenSpec := { _root_.Go.OpenSpec.ofChange s with cond := some uptoSmall }

/-- 'pecialaw04.HireHolds', WHERE WHAT IT READS IS OF BULK AT MOST 1048576: true; the input reads as it did. -/
def hireHoldsUptoRow : OpenClaim := { program := "ytmgglkdilpglgaagreat", sum := "1c543892219d1ee317d63d91e35a80ade503eacb42f2e53ec51b7565613a19b8", func := "pecia/pecialaw04.HireHolds", spec := "hireHolds", unfollowed := true, recurses := true, apart := false, narrowed := true }
def HireHoldsUptoSaid : Prop := hireHoldsUptoRow.holds Tryz.pinned (OpenSpec.upto hireHoldsSpec)

/-- 'pecialaw04.HireOneHand', WHERE WHAT IT READS IS OF BULK AT MOST 1048576: true; the input reads as it did. -/
def hireOneHandUptoRow : OpenClaim := { program := "ytmgglkdilpglgaagreat", sum := "1c543892219d1ee317d63d91e35a80ade503eacb42f2e53ec51b7565613a19b8", func := "pecia/pecialaw04.HireOneHand", spec := "hireOneHand", unfollowed := true, recurses := true, apart := false, narrowed := true }
def HireOneHandUptoSaid : Prop := hireOneHandUptoRow.holds Tryz.pinned (OpenSpec.upto hireOneHandSpec)

/-- 'pecialaw04.HireHonest', WHERE WHAT IT READS IS OF BULK AT MOST 1048576: true; the input reads as it did. -/
def hireHonestUptoRow : OpenClaim := { program := "ytmgglkdilpglgaagreat", sum := "1c543892219d1ee317d63d91e35a80ade503eacb42f2e53ec51b7565613a19b8", func := "pecia/pecialaw04.HireHonest", spec := "hireHonest", unfollowed := true, recurses := true, apart := false, narrowed := true }
def HireHonestUptoSaid : Prop := hireHonestUptoRow.holds Tryz.pinned (OpenSpec.upto hireHonestSpec)

/-- 'pecialaw04.HireBlocked', WHERE WHAT IT READS IS OF BULK AT MOST 1048576: true; the input reads as it did. -/
def hireBlockedUptoRow : OpenClaim := { program := "ytmgglkdilpglgaagreat", sum := "1c543892219d1ee317d63d91e35a80ade503eacb42f2e53ec51b7565613a19b8", func := "pecia/pecialaw04.HireBlocked", spec := "hireBlocked", unfollowed := true, recurses := true, apart := false, narrowed := true }
def HireBlockedUptoSaid : Prop := hireBlockedUptoRow.holds Tryz.pinned (OpenSpec.upto hireBlockedSpec)

/-- 'pecialaw04.HireDeals', WHERE WHAT IT READS IS OF BULK AT MOST 1048576: true; the input reads as it did. -/
def hireDealsUptoRow : OpenClaim := { program := "ytmgglkdilpglgaagreat", sum := "1c543892219d1ee317d63d91e35a80ade503eacb42f2e53ec51b7565613a19b8", func := "pecia/pecialaw04.HireDeals", spec := "hireDeals", unfollowed := true, recurses := true, apart := false, narrowed := true }
def HireDealsUptoSaid : Prop := hireDealsUptoRow.holds Tryz.pinned (OpenSpec.upto hireDealsSpec)

/-- 'pecialaw04.HireCases', WHERE WHAT IT READS IS OF BULK AT MOST 1048576: true; the input reads as it did. -/
def hireCasesUptoRow : OpenClaim := { program := "ytmgglkdilpglgaagreat", sum := "1c543892219d1ee317d63d91e35a80ade503eacb42f2e53ec51b7565613a19b8", func := "pecia/pecialaw04.HireCases", spec := "hireCases", unfollowed := true, recurses := true, apart := false, narrowed := true }
def HireCasesUptoSaid : Prop := hireCasesUptoRow.holds Tryz.pinned (OpenSpec.upto hireCasesSpec)

/-- 'pecialaw04.HireRestores', WHERE WHAT IT READS IS OF BULK AT MOST 1048576: true; the input reads as it did. -/
def hireRestoresUptoRow : OpenClaim := { program := "ytmgglkdilpglgaagreat", sum := "1c543892219d1ee317d63d91e35a80ade503eacb42f2e53ec51b7565613a19b8", func := "pecia/pecialaw04.HireRestores", spec := "hireRestores", unfollowed := true, recurses := true, apart := false, narrowed := true }
def HireRestoresUptoSaid : Prop := hireRestoresUptoRow.holds Tryz.pinned (OpenSpec.upto hireRestoresSpec)

/-- 'pecialaw04.HireLate', WHERE WHAT IT READS IS OF BULK AT MOST 1048576: true; the input reads as it did. -/
def hireLateUptoRow : OpenClaim := { program := "ytmgglkdilpglgaagreat", sum := "1c543892219d1ee317d63d91e35a80ade503eacb42f2e53ec51b7565613a19b8", func := "pecia/pecialaw04.HireLate", spec := "hireLate", unfollowed := true, recurses := true, apart := false, narrowed := true }
def HireLateUptoSaid : Prop := hireLateUptoRow.holds Tryz.pinned (OpenSpec.upto hireLateSpec)

/-- 'pecialaw04.HireObjects', WHERE WHAT IT READS IS OF BULK AT MOST 1048576: true; the input reads as it did. -/
def hireObjectsUptoRow : OpenClaim := { program := "ytmgglkdilpglgaagreat", sum := "1c543892219d1ee317d63d91e35a80ade503eacb42f2e53ec51b7565613a19b8", func := "pecia/pecialaw04.HireObjects", spec := "hireObjects", unfollowed := true, recurses := true, apart := false, narrowed := true }
def HireObjectsUptoSaid : Prop := hireObjectsUptoRow.holds Tryz.pinned (OpenSpec.upto hireObjectsSpec)

/-- 'pecialaw04.HireStuck', WHERE WHAT IT READS IS OF BULK AT MOST 1048576: true; the input reads as it did. -/
def hireStuckUptoRow : OpenClaim := { program := "ytmgglkdilpglgaagreat", sum := "1c543892219d1ee317d63d91e35a80ade503eacb42f2e53ec51b7565613a19b8", func := "pecia/pecialaw04.HireStuck", spec := "hireStuck", unfollowed := true, recurses := true, apart := false, narrowed := true }
def HireStuckUptoSaid : Prop := hireStuckUptoRow.holds Tryz.pinned (OpenSpec.upto hireStuckSpec)

/-- 'pecialaw04.HireCore', WHERE WHAT IT READS IS OF BULK AT MOST 1048576: true; the input reads as it did. -/
def hireCoreUptoRow : OpenClaim := { program := "ytmgglkdilpglgaagreat", sum := "1c543892219d1ee317d63d91e35a80ade503eacb42f2e53ec51b7565613a19b8", func := "pecia/pecialaw04.HireCore", spec := "hireCore", unfollowed := true, recurses := true, apart := false, narrowed := true }
def HireCoreUptoSaid : Prop := hireCoreUptoRow.holds Tryz.pinned (OpenSpec.upto hireCoreSpec)

end Rows
end Go.Proofs.YtmgglkdilpglgaaGreat
