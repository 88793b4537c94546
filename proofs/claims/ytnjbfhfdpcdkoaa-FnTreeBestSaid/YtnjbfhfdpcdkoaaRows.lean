/-
  No cell of these rows narrows 'for every input' (looked for: loops, veiled, ifaces, maps, wideKeys, modest, calm, conditions, laid).
  DERIVED. THE GIVEN ROWS OF THIS SEAT. 19 by the template 'for every input the law returns true; each argument reads behind the call as it read before'; 0 by the template 'total and deterministic' (their statements: YtnjbfhfdpcdkoaaTotals.lean).
  GIVEN WITH THE SEED: the statements are not yours to turn. If you find one false, say at which input.
  Laid BY PROGRAM, IN A SANDBOX (cutbox-rows.mjs): the forced cells as the released guide's own fill.sh prints them over the translation 11164b73dec1d391… (all of the seat's roots in one cut). By AI agents, Wed Nov 11 2026. No macro, syntax, notation, axiom, sorry.
-/
import Derived.Test.YtnjbfhfdpcdkoaaChecked
import GoSem.Claim
import GoSem.ClaimJoined
import GoSem.ClaimMapViews
import Derived.JoinedTies
import Derived.KernelRfl
namespace Go.Proofs.Ytnjbfhfdpcdkoaa
/- THE CELL 'sum', in the pinned program and in every row, IS THE sha256 OF THE DUMP (.gsa) THAT YtnjbfhfdpcdkoaaProg.lean LOADS. Nothing in Lean hashes anything: it is a label: what it is worth is what the hold of that sum in a sandbox is worth. -/
noncomputable def Try.pinned : Pinned := { name := "ytnjbfhfdpcdkoaa", sum := "11164b73dec1d39162e01dd27d84534ca8ae8ebc15274c549b6fe973aa35b8db", checked := Try.checked }
namespace Rows
def none {H : Type} : Left H := { results := [], args := [] }

/-- 'laws.FnExactHubCount': WHATEVER THE INPUT: true; the input reads as it did. -/
def fnExactHubCountSpec : ChangeSpec := { name := "fnExactHubCount", fn := fun _ => fun
  | [d] => { results := [.lit (.bool true)], args := [d] }
  | _ => none }
def fnExactHubCountRow : OpenClaim := { program := "ytnjbfhfdpcdkoaa", sum := "11164b73dec1d39162e01dd27d84534ca8ae8ebc15274c549b6fe973aa35b8db", func := "loop.example/waymark/laws.FnExactHubCount", spec := "fnExactHubCount", unfollowed := true, recurses := true, apart := false }
def FnExactHubCountSaid : Prop := fnExactHubCountRow.holds Try.pinned (OpenSpec.ofChange fnExactHubCountSpec)

/-- ITS FALSE NEIGHBOUR: 'it returns false'. Refute it at one input. -/
def fnExactHubCountWrong : ChangeSpec := { name := "fnExactHubCount", fn := fun _ => fun
  | [d] => { results := [.lit (.bool false)], args := [d] }
  | _ => none }
def FnExactHubCountWrongFalsely : Prop := fnExactHubCountRow.holds Try.pinned (OpenSpec.ofChange fnExactHubCountWrong)

/-- 'laws.FnTreeBest': WHATEVER THE INPUT: true; the input reads as it did. -/
def fnTreeBestSpec : ChangeSpec := { name := "fnTreeBest", fn := fun _ => fun
  | [d] => { results := [.lit (.bool true)], args := [d] }
  | _ => none }
def fnTreeBestRow : OpenClaim := { program := "ytnjbfhfdpcdkoaa", sum := "11164b73dec1d39162e01dd27d84534ca8ae8ebc15274c549b6fe973aa35b8db", func := "loop.example/waymark/laws.FnTreeBest", spec := "fnTreeBest", unfollowed := true, recurses := true, apart := false }
def FnTreeBestSaid : Prop := fnTreeBestRow.holds Try.pinned (OpenSpec.ofChange fnTreeBestSpec)

/-- ITS FALSE NEIGHBOUR: 'it returns false'. Refute it at one input. -/
def fnTreeBestWrong : ChangeSpec := { name := "fnTreeBest", fn := fun _ => fun
  | [d] => { results := [.lit (.bool false)], args := [d] }
  | _ => none }
def FnTreeBestWrongFalsely : Prop := fnTreeBestRow.holds Try.pinned (OpenSpec.ofChange fnTreeBestWrong)

/-- 'laws.FnFlowMost': WHATEVER THE INPUT: true; the input reads as it did. -/
def fnFlowMostSpec : ChangeSpec := { name := "fnFlowMost", fn := fun _ => fun
  | [d] => { results := [.lit (.bool true)], args := [d] }
  | _ => none }
def fnFlowMostRow : OpenClaim := { program := "ytnjbfhfdpcdkoaa", sum := "11164b73dec1d39162e01dd27d84534ca8ae8ebc15274c549b6fe973aa35b8db", func := "loop.example/waymark/laws.FnFlowMost", spec := "fnFlowMost", unfollowed := true, recurses := true, apart := false }
def FnFlowMostSaid : Prop := fnFlowMostRow.holds Try.pinned (OpenSpec.ofChange fnFlowMostSpec)

/-- ITS FALSE NEIGHBOUR: 'it returns false'. Refute it at one input. -/
def fnFlowMostWrong : ChangeSpec := { name := "fnFlowMost", fn := fun _ => fun
  | [d] => { results := [.lit (.bool false)], args := [d] }
  | _ => none }
def FnFlowMostWrongFalsely : Prop := fnFlowMostRow.holds Try.pinned (OpenSpec.ofChange fnFlowMostWrong)

/-- 'laws.FnRingWay': WHATEVER THE INPUT: true; the input reads as it did. -/
def fnRingWaySpec : ChangeSpec := { name := "fnRingWay", fn := fun _ => fun
  | [d] => { results := [.lit (.bool true)], args := [d] }
  | _ => none }
def fnRingWayRow : OpenClaim := { program := "ytnjbfhfdpcdkoaa", sum := "11164b73dec1d39162e01dd27d84534ca8ae8ebc15274c549b6fe973aa35b8db", func := "loop.example/waymark/laws.FnRingWay", spec := "fnRingWay", unfollowed := true, recurses := true, apart := false }
def FnRingWaySaid : Prop := fnRingWayRow.holds Try.pinned (OpenSpec.ofChange fnRingWaySpec)

/-- ITS FALSE NEIGHBOUR: 'it returns false'. Refute it at one input. -/
def fnRingWayWrong : ChangeSpec := { name := "fnRingWay", fn := fun _ => fun
  | [d] => { results := [.lit (.bool false)], args := [d] }
  | _ => none }
def FnRingWayWrongFalsely : Prop := fnRingWayRow.holds Try.pinned (OpenSpec.ofChange fnRingWayWrong)

/-- 'laws.FnJobAt': WHATEVER THE INPUT: true; the input reads as it did. -/
def fnJobAtSpec : ChangeSpec := { name := "fnJobAt", fn := fun _ => fun
  | [d] => { results := [.lit (.bool true)], args := [d] }
  | _ => none }
def fnJobAtRow : OpenClaim := { program := "ytnjbfhfdpcdkoaa", sum := "11164b73dec1d39162e01dd27d84534ca8ae8ebc15274c549b6fe973aa35b8db", func := "loop.example/waymark/laws.FnJobAt", spec := "fnJobAt", unfollowed := true, recurses := true, apart := false }
def FnJobAtSaid : Prop := fnJobAtRow.holds Try.pinned (OpenSpec.ofChange fnJobAtSpec)

/-- ITS FALSE NEIGHBOUR: 'it returns false'. Refute it at one input. -/
def fnJobAtWrong : ChangeSpec := { name := "fnJobAt", fn := fun _ => fun
  | [d] => { results := [.lit (.bool false)], args := [d] }
  | _ => none }
def FnJobAtWrongFalsely : Prop := fnJobAtRow.holds Try.pinned (OpenSpec.ofChange fnJobAtWrong)

/-- 'laws.FnExactRingBest': WHATEVER THE INPUT: true; the input reads as it did. -/
def fnExactRingBestSpec : ChangeSpec := { name := "fnExactRingBest", fn := fun _ => fun
  | [d] => { results := [.lit (.bool true)], args := [d] }
  | _ => none }
def fnExactRingBestRow : OpenClaim := { program := "ytnjbfhfdpcdkoaa", sum := "11164b73dec1d39162e01dd27d84534ca8ae8ebc15274c549b6fe973aa35b8db", func := "loop.example/waymark/laws.FnExactRingBest", spec := "fnExactRingBest", unfollowed := true, recurses := true, apart := false }
def FnExactRingBestSaid : Prop := fnExactRingBestRow.holds Try.pinned (OpenSpec.ofChange fnExactRingBestSpec)

/-- ITS FALSE NEIGHBOUR: 'it returns false'. Refute it at one input. -/
def fnExactRingBestWrong : ChangeSpec := { name := "fnExactRingBest", fn := fun _ => fun
  | [d] => { results := [.lit (.bool false)], args := [d] }
  | _ => none }
def FnExactRingBestWrongFalsely : Prop := fnExactRingBestRow.holds Try.pinned (OpenSpec.ofChange fnExactRingBestWrong)

/-- 'laws.FnExactTreeBest': WHATEVER THE INPUT: true; the input reads as it did. -/
def fnExactTreeBestSpec : ChangeSpec := { name := "fnExactTreeBest", fn := fun _ => fun
  | [d] => { results := [.lit (.bool true)], args := [d] }
  | _ => none }
def fnExactTreeBestRow : OpenClaim := { program := "ytnjbfhfdpcdkoaa", sum := "11164b73dec1d39162e01dd27d84534ca8ae8ebc15274c549b6fe973aa35b8db", func := "loop.example/waymark/laws.FnExactTreeBest", spec := "fnExactTreeBest", unfollowed := true, recurses := true, apart := false }
def FnExactTreeBestSaid : Prop := fnExactTreeBestRow.holds Try.pinned (OpenSpec.ofChange fnExactTreeBestSpec)

/-- ITS FALSE NEIGHBOUR: 'it returns false'. Refute it at one input. -/
def fnExactTreeBestWrong : ChangeSpec := { name := "fnExactTreeBest", fn := fun _ => fun
  | [d] => { results := [.lit (.bool false)], args := [d] }
  | _ => none }
def FnExactTreeBestWrongFalsely : Prop := fnExactTreeBestRow.holds Try.pinned (OpenSpec.ofChange fnExactTreeBestWrong)

/-- 'laws.FnExactJobBest': WHATEVER THE INPUT: true; the input reads as it did. -/
def fnExactJobBestSpec : ChangeSpec := { name := "fnExactJobBest", fn := fun _ => fun
  | [d1, d2, d3] => { results := [.lit (.bool true)], args := [d1, d2, d3] }
  | _ => none }
def fnExactJobBestRow : OpenClaim := { program := "ytnjbfhfdpcdkoaa", sum := "11164b73dec1d39162e01dd27d84534ca8ae8ebc15274c549b6fe973aa35b8db", func := "loop.example/waymark/laws.FnExactJobBest", spec := "fnExactJobBest", unfollowed := true, recurses := true, apart := false }
def FnExactJobBestSaid : Prop := fnExactJobBestRow.holds Try.pinned (OpenSpec.ofChange fnExactJobBestSpec)

/-- ITS FALSE NEIGHBOUR: 'it returns false'. Refute it at one input. -/
def fnExactJobBestWrong : ChangeSpec := { name := "fnExactJobBest", fn := fun _ => fun
  | [d1, d2, d3] => { results := [.lit (.bool false)], args := [d1, d2, d3] }
  | _ => none }
def FnExactJobBestWrongFalsely : Prop := fnExactJobBestRow.holds Try.pinned (OpenSpec.ofChange fnExactJobBestWrong)

/-- 'laws.FnRingBest': WHATEVER THE INPUT: true; the input reads as it did. -/
def fnRingBestSpec : ChangeSpec := { name := "fnRingBest", fn := fun _ => fun
  | [d] => { results := [.lit (.bool true)], args := [d] }
  | _ => none }
def fnRingBestRow : OpenClaim := { program := "ytnjbfhfdpcdkoaa", sum := "11164b73dec1d39162e01dd27d84534ca8ae8ebc15274c549b6fe973aa35b8db", func := "loop.example/waymark/laws.FnRingBest", spec := "fnRingBest", unfollowed := true, recurses := true, apart := false }
def FnRingBestSaid : Prop := fnRingBestRow.holds Try.pinned (OpenSpec.ofChange fnRingBestSpec)

/-- ITS FALSE NEIGHBOUR: 'it returns false'. Refute it at one input. -/
def fnRingBestWrong : ChangeSpec := { name := "fnRingBest", fn := fun _ => fun
  | [d] => { results := [.lit (.bool false)], args := [d] }
  | _ => none }
def FnRingBestWrongFalsely : Prop := fnRingBestRow.holds Try.pinned (OpenSpec.ofChange fnRingBestWrong)

/-- 'laws.FnLiveDo': WHATEVER THE INPUT: true; the input reads as it did. -/
def fnLiveDoSpec : ChangeSpec := { name := "fnLiveDo", fn := fun _ => fun
  | [d] => { results := [.lit (.bool true)], args := [d] }
  | _ => none }
def fnLiveDoRow : OpenClaim := { program := "ytnjbfhfdpcdkoaa", sum := "11164b73dec1d39162e01dd27d84534ca8ae8ebc15274c549b6fe973aa35b8db", func := "loop.example/waymark/laws.FnLiveDo", spec := "fnLiveDo", inPlace := ["slices.overlaps[loop.example/waymark/impl.News]"], unfollowed := true, recurses := true, apart := false }
def FnLiveDoSaid : Prop := fnLiveDoRow.holds Try.pinned (OpenSpec.ofChange fnLiveDoSpec)

/-- ITS FALSE NEIGHBOUR: 'it returns false'. Refute it at one input. -/
def fnLiveDoWrong : ChangeSpec := { name := "fnLiveDo", fn := fun _ => fun
  | [d] => { results := [.lit (.bool false)], args := [d] }
  | _ => none }
def FnLiveDoWrongFalsely : Prop := fnLiveDoRow.holds Try.pinned (OpenSpec.ofChange fnLiveDoWrong)

/-- 'laws.FnTreeReach': WHATEVER THE INPUT: true; the input reads as it did. -/
def fnTreeReachSpec : ChangeSpec := { name := "fnTreeReach", fn := fun _ => fun
  | [d] => { results := [.lit (.bool true)], args := [d] }
  | _ => none }
def fnTreeReachRow : OpenClaim := { program := "ytnjbfhfdpcdkoaa", sum := "11164b73dec1d39162e01dd27d84534ca8ae8ebc15274c549b6fe973aa35b8db", func := "loop.example/waymark/laws.FnTreeReach", spec := "fnTreeReach", unfollowed := true, recurses := true, apart := false }
def FnTreeReachSaid : Prop := fnTreeReachRow.holds Try.pinned (OpenSpec.ofChange fnTreeReachSpec)

/-- ITS FALSE NEIGHBOUR: 'it returns false'. Refute it at one input. -/
def fnTreeReachWrong : ChangeSpec := { name := "fnTreeReach", fn := fun _ => fun
  | [d] => { results := [.lit (.bool false)], args := [d] }
  | _ => none }
def FnTreeReachWrongFalsely : Prop := fnTreeReachRow.holds Try.pinned (OpenSpec.ofChange fnTreeReachWrong)

/-- 'laws.FnTreeCost': WHATEVER THE INPUT: true; the input reads as it did. -/
def fnTreeCostSpec : ChangeSpec := { name := "fnTreeCost", fn := fun _ => fun
  | [d] => { results := [.lit (.bool true)], args := [d] }
  | _ => none }
def fnTreeCostRow : OpenClaim := { program := "ytnjbfhfdpcdkoaa", sum := "11164b73dec1d39162e01dd27d84534ca8ae8ebc15274c549b6fe973aa35b8db", func := "loop.example/waymark/laws.FnTreeCost", spec := "fnTreeCost", unfollowed := true, recurses := true, apart := false }
def FnTreeCostSaid : Prop := fnTreeCostRow.holds Try.pinned (OpenSpec.ofChange fnTreeCostSpec)

/-- ITS FALSE NEIGHBOUR: 'it returns false'. Refute it at one input. -/
def fnTreeCostWrong : ChangeSpec := { name := "fnTreeCost", fn := fun _ => fun
  | [d] => { results := [.lit (.bool false)], args := [d] }
  | _ => none }
def FnTreeCostWrongFalsely : Prop := fnTreeCostRow.holds Try.pinned (OpenSpec.ofChange fnTreeCostWrong)

/-- 'laws.FnExactTreeCost': WHATEVER THE INPUT: true; the input reads as it did. -/
def fnExactTreeCostSpec : ChangeSpec := { name := "fnExactTreeCost", fn := fun _ => fun
  | [d1, d2] => { results := [.lit (.bool true)], args := [d1, d2] }
  | _ => none }
def fnExactTreeCostRow : OpenClaim := { program := "ytnjbfhfdpcdkoaa", sum := "11164b73dec1d39162e01dd27d84534ca8ae8ebc15274c549b6fe973aa35b8db", func := "loop.example/waymark/laws.FnExactTreeCost", spec := "fnExactTreeCost", unfollowed := true, recurses := true, apart := false }
def FnExactTreeCostSaid : Prop := fnExactTreeCostRow.holds Try.pinned (OpenSpec.ofChange fnExactTreeCostSpec)

/-- ITS FALSE NEIGHBOUR: 'it returns false'. Refute it at one input. -/
def fnExactTreeCostWrong : ChangeSpec := { name := "fnExactTreeCost", fn := fun _ => fun
  | [d1, d2] => { results := [.lit (.bool false)], args := [d1, d2] }
  | _ => none }
def FnExactTreeCostWrongFalsely : Prop := fnExactTreeCostRow.holds Try.pinned (OpenSpec.ofChange fnExactTreeCostWrong)

/-- 'laws.FnExactLiveDo': WHATEVER THE INPUT: true; the input reads as it did. -/
def fnExactLiveDoSpec : ChangeSpec := { name := "fnExactLiveDo", fn := fun _ => fun
  | [d1, d2] => { results := [.lit (.bool true)], args := [d1, d2] }
  | _ => none }
def fnExactLiveDoRow : OpenClaim := { program := "ytnjbfhfdpcdkoaa", sum := "11164b73dec1d39162e01dd27d84534ca8ae8ebc15274c549b6fe973aa35b8db", func := "loop.example/waymark/laws.FnExactLiveDo", spec := "fnExactLiveDo", inPlace := ["slices.overlaps[loop.example/waymark/impl.News]"], unfollowed := true, recurses := true, apart := false }
def FnExactLiveDoSaid : Prop := fnExactLiveDoRow.holds Try.pinned (OpenSpec.ofChange fnExactLiveDoSpec)

/-- ITS FALSE NEIGHBOUR: 'it returns false'. Refute it at one input. -/
def fnExactLiveDoWrong : ChangeSpec := { name := "fnExactLiveDo", fn := fun _ => fun
  | [d1, d2] => { results := [.lit (.bool false)], args := [d1, d2] }
  | _ => none }
def FnExactLiveDoWrongFalsely : Prop := fnExactLiveDoRow.holds Try.pinned (OpenSpec.ofChange fnExactLiveDoWrong)

/-- 'laws.FnExactJobCost': WHATEVER THE INPUT: true; the input reads as it did. -/
def fnExactJobCostSpec : ChangeSpec := { name := "fnExactJobCost", fn := fun _ => fun
  | [d1, d2, d3, d4] => { results := [.lit (.bool true)], args := [d1, d2, d3, d4] }
  | _ => none }
def fnExactJobCostRow : OpenClaim := { program := "ytnjbfhfdpcdkoaa", sum := "11164b73dec1d39162e01dd27d84534ca8ae8ebc15274c549b6fe973aa35b8db", func := "loop.example/waymark/laws.FnExactJobCost", spec := "fnExactJobCost", unfollowed := true, recurses := true, apart := false }
def FnExactJobCostSaid : Prop := fnExactJobCostRow.holds Try.pinned (OpenSpec.ofChange fnExactJobCostSpec)

/-- ITS FALSE NEIGHBOUR: 'it returns false'. Refute it at one input. -/
def fnExactJobCostWrong : ChangeSpec := { name := "fnExactJobCost", fn := fun _ => fun
  | [d1, d2, d3, d4] => { results := [.lit (.bool false)], args := [d1, d2, d3, d4] }
  | _ => none }
def FnExactJobCostWrongFalsely : Prop := fnExactJobCostRow.holds Try.pinned (OpenSpec.ofChange fnExactJobCostWrong)

/-- 'laws.FnTreeSwap': WHATEVER THE INPUT: true; the input reads as it did. -/
def fnTreeSwapSpec : ChangeSpec := { name := "fnTreeSwap", fn := fun _ => fun
  | [d1, d2] => { results := [.lit (.bool true)], args := [d1, d2] }
  | _ => none }
def fnTreeSwapRow : OpenClaim := { program := "ytnjbfhfdpcdkoaa", sum := "11164b73dec1d39162e01dd27d84534ca8ae8ebc15274c549b6fe973aa35b8db", func := "loop.example/waymark/laws.FnTreeSwap", spec := "fnTreeSwap", unfollowed := true, recurses := true, apart := false }
def FnTreeSwapSaid : Prop := fnTreeSwapRow.holds Try.pinned (OpenSpec.ofChange fnTreeSwapSpec)

/-- ITS FALSE NEIGHBOUR: 'it returns false'. Refute it at one input. -/
def fnTreeSwapWrong : ChangeSpec := { name := "fnTreeSwap", fn := fun _ => fun
  | [d1, d2] => { results := [.lit (.bool false)], args := [d1, d2] }
  | _ => none }
def FnTreeSwapWrongFalsely : Prop := fnTreeSwapRow.holds Try.pinned (OpenSpec.ofChange fnTreeSwapWrong)

/-- 'laws.FnJobCost': WHATEVER THE INPUT: true; the input reads as it did. -/
def fnJobCostSpec : ChangeSpec := { name := "fnJobCost", fn := fun _ => fun
  | [d] => { results := [.lit (.bool true)], args := [d] }
  | _ => none }
def fnJobCostRow : OpenClaim := { program := "ytnjbfhfdpcdkoaa", sum := "11164b73dec1d39162e01dd27d84534ca8ae8ebc15274c549b6fe973aa35b8db", func := "loop.example/waymark/laws.FnJobCost", spec := "fnJobCost", unfollowed := true, recurses := true, apart := false }
def FnJobCostSaid : Prop := fnJobCostRow.holds Try.pinned (OpenSpec.ofChange fnJobCostSpec)

/-- ITS FALSE NEIGHBOUR: 'it returns false'. Refute it at one input. -/
def fnJobCostWrong : ChangeSpec := { name := "fnJobCost", fn := fun _ => fun
  | [d] => { results := [.lit (.bool false)], args := [d] }
  | _ => none }
def FnJobCostWrongFalsely : Prop := fnJobCostRow.holds Try.pinned (OpenSpec.ofChange fnJobCostWrong)

/-- 'laws.FnJobBest': WHATEVER THE INPUT: true; the input reads as it did. -/
def fnJobBestSpec : ChangeSpec := { name := "fnJobBest", fn := fun _ => fun
  | [d1, d2] => { results := [.lit (.bool true)], args := [d1, d2] }
  | _ => none }
def fnJobBestRow : OpenClaim := { program := "ytnjbfhfdpcdkoaa", sum := "11164b73dec1d39162e01dd27d84534ca8ae8ebc15274c549b6fe973aa35b8db", func := "loop.example/waymark/laws.FnJobBest", spec := "fnJobBest", unfollowed := true, recurses := true, apart := false }
def FnJobBestSaid : Prop := fnJobBestRow.holds Try.pinned (OpenSpec.ofChange fnJobBestSpec)

/-- ITS FALSE NEIGHBOUR: 'it returns false'. Refute it at one input. -/
def fnJobBestWrong : ChangeSpec := { name := "fnJobBest", fn := fun _ => fun
  | [d1, d2] => { results := [.lit (.bool false)], args := [d1, d2] }
  | _ => none }
def FnJobBestWrongFalsely : Prop := fnJobBestRow.holds Try.pinned (OpenSpec.ofChange fnJobBestWrong)

/-- 'laws.FnRankNear': WHATEVER THE INPUT: true; the input reads as it did. -/
def fnRankNearSpec : ChangeSpec := { name := "fnRankNear", fn := fun _ => fun
  | [d] => { results := [.lit (.bool true)], args := [d] }
  | _ => none }
def fnRankNearRow : OpenClaim := { program := "ytnjbfhfdpcdkoaa", sum := "11164b73dec1d39162e01dd27d84534ca8ae8ebc15274c549b6fe973aa35b8db", func := "loop.example/waymark/laws.FnRankNear", spec := "fnRankNear", unfollowed := true, recurses := true, apart := false }
def FnRankNearSaid : Prop := fnRankNearRow.holds Try.pinned (OpenSpec.ofChange fnRankNearSpec)

/-- ITS FALSE NEIGHBOUR: 'it returns false'. Refute it at one input. -/
def fnRankNearWrong : ChangeSpec := { name := "fnRankNear", fn := fun _ => fun
  | [d] => { results := [.lit (.bool false)], args := [d] }
  | _ => none }
def FnRankNearWrongFalsely : Prop := fnRankNearRow.holds Try.pinned (OpenSpec.ofChange fnRankNearWrong)

/- THE SECOND FORM. 'bulk': how many values and letters a reading holds, each counted each time it is reached (what is shared counts as often as it is met; a slice's spare places count too). A statement '..UptoSaid' is the law's where the arguments, and the package variables that the reading takes, are together of bulk at most 1048576: NARROWER than '..Said'. Prove '..Said' where nothing that the law and all that it calls make is longer than what came in: it says more and counts as full. Else prove '..UptoSaid'. A law counts once. -/
mutual
def uptoBulk {H : Type} : DataW H → Nat
  | .lit (.string bytes) => bytes.length + 1
  | .lit _ => 1
  | .nil => 1
  | .ptr d => uptoBulk d + 1
  | .slice elems spare => uptoBulkAll elems + uptoBulkAll spare + 1
  | .agg parts => uptoBulkAll parts + 1
  | .iface _ d => uptoBulk d + 1
  | .map entries => uptoBulkEntries entries + 1
  | .held _ => 1
def uptoBulkAll {H : Type} : List (DataW H) → Nat
  | [] => 0
  | d :: r => uptoBulk d + uptoBulkAll r
def uptoBulkEntries {H : Type} : List (Lit × DataW H) → Nat
  | [] => 0
  | x :: r => uptoBulkEntry x + uptoBulkEntries r
def uptoBulkEntry {H : Type} : Lit × DataW H → Nat
  | (.string bytes, d) => bytes.length + uptoBulk d + 1
  | (_, d) => uptoBulk d + 1
 end
def uptoSmall : (H : Type) → List (DataW H) → Bool := fun _ ds => decide (uptoBulkAll ds ≤ 1048576)
def OpenSpec.upto (s : _root_.Go.ChangeSpec) : _root_.Go.OpenSpec := { _root_.Go.OpenSpec.ofChange s with cond := some uptoSmall }

/-- 'laws.FnExactHubCount', WHERE WHAT IT READS IS OF BULK AT MOST 1048576: true; the input reads as it did. -/
def fnExactHubCountUptoRow : OpenClaim := { program := "ytnjbfhfdpcdkoaa", sum := "11164b73dec1d39162e01dd27d84534ca8ae8ebc15274c549b6fe973aa35b8db", func := "loop.example/waymark/laws.FnExactHubCount", spec := "fnExactHubCount", unfollowed := true, recurses := true, apart := false, narrowed := true }
def FnExactHubCountUptoSaid : Prop := fnExactHubCountUptoRow.holds Try.pinned (OpenSpec.upto fnExactHubCountSpec)

/-- 'laws.FnTreeBest', WHERE WHAT IT READS IS OF BULK AT MOST 1048576: true; the input reads as it did. -/
def fnTreeBestUptoRow : OpenClaim := { program := "ytnjbfhfdpcdkoaa", sum := "11164b73dec1d39162e01dd27d84534ca8ae8ebc15274c549b6fe973aa35b8db", func := "loop.example/waymark/laws.FnTreeBest", spec := "fnTreeBest", unfollowed := true, recurses := true, apart := false, narrowed := true }
def FnTreeBestUptoSaid : Prop := fnTreeBestUptoRow.holds Try.pinned (OpenSpec.upto fnTreeBestSpec)

/-- 'laws.FnFlowMost', WHERE WHAT IT READS IS OF BULK AT MOST 1048576: true; the input reads as it did. -/
def fnFlowMostUptoRow : OpenClaim := { program := "ytnjbfhfdpcdkoaa", sum := "11164b73dec1d39162e01dd27d84534ca8ae8ebc15274c549b6fe973aa35b8db", func := "loop.example/waymark/laws.FnFlowMost", spec := "fnFlowMost", unfollowed := true, recurses := true, apart := false, narrowed := true }
def FnFlowMostUptoSaid : Prop := fnFlowMostUptoRow.holds Try.pinned (OpenSpec.upto fnFlowMostSpec)

/-- 'laws.FnRingWay', WHERE WHAT IT READS IS OF BULK AT MOST 1048576: true; the input reads as it did. -/
def fnRingWayUptoRow : OpenClaim := { program := "ytnjbfhfdpcdkoaa", sum := "11164b73dec1d39162e01dd27d84534ca8ae8ebc15274c549b6fe973aa35b8db", func := "loop.example/waymark/laws.FnRingWay", spec := "fnRingWay", unfollowed := true, recurses := true, apart := false, narrowed := true }
def FnRingWayUptoSaid : Prop := fnRingWayUptoRow.holds Try.pinned (OpenSpec.upto fnRingWaySpec)

/-- 'laws.FnJobAt', WHERE WHAT IT READS IS OF BULK AT MOST 1048576: true; the input reads as it did. -/
def fnJobAtUptoRow : OpenClaim := { program := "ytnjbfhfdpcdkoaa", sum := "11164b73dec1d39162e01dd27d84534ca8ae8ebc15274c549b6fe973aa35b8db", func := "loop.example/waymark/laws.FnJobAt", spec := "fnJobAt", unfollowed := true, recurses := true, apart := false, narrowed := true }
def FnJobAtUptoSaid : Prop := fnJobAtUptoRow.holds Try.pinned (OpenSpec.upto fnJobAtSpec)

/-- 'laws.FnExactRingBest', WHERE WHAT IT READS IS OF BULK AT MOST 1048576: true; the input reads as it did. -/
def fnExactRingBestUptoRow : OpenClaim := { program := "ytnjbfhfdpcdkoaa", sum := "11164b73dec1d39162e01dd27d84534ca8ae8ebc15274c549b6fe973aa35b8db", func := "loop.example/waymark/laws.FnExactRingBest", spec := "fnExactRingBest", unfollowed := true, recurses := true, apart := false, narrowed := true }
def FnExactRingBestUptoSaid : Prop := fnExactRingBestUptoRow.holds Try.pinned (OpenSpec.upto fnExactRingBestSpec)

/-- 'laws.FnExactTreeBest', WHERE WHAT IT READS IS OF BULK AT MOST 1048576: true; the input reads as it did. -/
def fnExactTreeBestUptoRow : OpenClaim := { program := "ytnjbfhfdpcdkoaa", sum := "11164b73dec1d39162e01dd27d84534ca8ae8ebc15274c549b6fe973aa35b8db", func := "loop.example/waymark/laws.FnExactTreeBest", spec := "fnExactTreeBest", unfollowed := true, recurses := true, apart := false, narrowed := true }
def FnExactTreeBestUptoSaid : Prop := fnExactTreeBestUptoRow.holds Try.pinned (OpenSpec.upto fnExactTreeBestSpec)

/-- 'laws.FnExactJobBest', WHERE WHAT IT READS IS OF BULK AT MOST 1048576: true; the input reads as it did. -/
def fnExactJobBestUptoRow : OpenClaim := { program := "ytnjbfhfdpcdkoaa", sum := "11164b73dec1d39162e01dd27d84534ca8ae8ebc15274c549b6fe973aa35b8db", func := "loop.example/waymark/laws.FnExactJobBest", spec := "fnExactJobBest", unfollowed := true, recurses := true, apart := false, narrowed := true }
def FnExactJobBestUptoSaid : Prop := fnExactJobBestUptoRow.holds Try.pinned (OpenSpec.upto fnExactJobBestSpec)

/-- 'laws.FnRingBest', WHERE WHAT IT READS IS OF BULK AT MOST 1048576: true; the input reads as it did. -/
def fnRingBestUptoRow : OpenClaim := { program := "ytnjbfhfdpcdkoaa", sum := "11164b73dec1d39162e01dd27d84534ca8ae8ebc15274c549b6fe973aa35b8db", func := "loop.example/waymark/laws.FnRingBest", spec := "fnRingBest", unfollowed := true, recurses := true, apart := false, narrowed := true }
def FnRingBestUptoSaid : Prop := fnRingBestUptoRow.holds Try.pinned (OpenSpec.upto fnRingBestSpec)

/-- 'laws.FnLiveDo', WHERE WHAT IT READS IS OF BULK AT MOST 1048576: true; the input reads as it did. -/
def fnLiveDoUptoRow : OpenClaim := { program := "ytnjbfhfdpcdkoaa", sum := "11164b73dec1d39162e01dd27d84534ca8ae8ebc15274c549b6fe973aa35b8db", func := "loop.example/waymark/laws.FnLiveDo", spec := "fnLiveDo", inPlace := ["slices.overlaps[loop.example/waymark/impl.News]"], unfollowed := true, recurses := true, apart := false, narrowed := true }
def FnLiveDoUptoSaid : Prop := fnLiveDoUptoRow.holds Try.pinned (OpenSpec.upto fnLiveDoSpec)

/-- 'laws.FnTreeReach', WHERE WHAT IT READS IS OF BULK AT MOST 1048576: true; the input reads as it did. -/
def fnTreeReachUptoRow : OpenClaim := { program := "ytnjbfhfdpcdkoaa", sum := "11164b73dec1d39162e01dd27d84534ca8ae8ebc15274c549b6fe973aa35b8db", func := "loop.example/waymark/laws.FnTreeReach", spec := "fnTreeReach", unfollowed := true, recurses := true, apart := false, narrowed := true }
def FnTreeReachUptoSaid : Prop := fnTreeReachUptoRow.holds Try.pinned (OpenSpec.upto fnTreeReachSpec)

/-- 'laws.FnTreeCost', WHERE WHAT IT READS IS OF BULK AT MOST 1048576: true; the input reads as it did. -/
def fnTreeCostUptoRow : OpenClaim := { program := "ytnjbfhfdpcdkoaa", sum := "11164b73dec1d39162e01dd27d84534ca8ae8ebc15274c549b6fe973aa35b8db", func := "loop.example/waymark/laws.FnTreeCost", spec := "fnTreeCost", unfollowed := true, recurses := true, apart := false, narrowed := true }
def FnTreeCostUptoSaid : Prop := fnTreeCostUptoRow.holds Try.pinned (OpenSpec.upto fnTreeCostSpec)

/-- 'laws.FnExactTreeCost', WHERE WHAT IT READS IS OF BULK AT MOST 1048576: true; the input reads as it did. -/
def fnExactTreeCostUptoRow : OpenClaim := { program := "ytnjbfhfdpcdkoaa", sum := "11164b73dec1d39162e01dd27d84534ca8ae8ebc15274c549b6fe973aa35b8db", func := "loop.example/waymark/laws.FnExactTreeCost", spec := "fnExactTreeCost", unfollowed := true, recurses := true, apart := false, narrowed := true }
def FnExactTreeCostUptoSaid : Prop := fnExactTreeCostUptoRow.holds Try.pinned (OpenSpec.upto fnExactTreeCostSpec)

/-- 'laws.FnExactLiveDo', WHERE WHAT IT READS IS OF BULK AT MOST 1048576: true; the input reads as it did. -/
def fnExactLiveDoUptoRow : OpenClaim := { program := "ytnjbfhfdpcdkoaa", sum := "11164b73dec1d39162e01dd27d84534ca8ae8ebc15274c549b6fe973aa35b8db", func := "loop.example/waymark/laws.FnExactLiveDo", spec := "fnExactLiveDo", inPlace := ["slices.overlaps[loop.example/waymark/impl.News]"], unfollowed := true, recurses := true, apart := false, narrowed := true }
def FnExactLiveDoUptoSaid : Prop := fnExactLiveDoUptoRow.holds Try.pinned (OpenSpec.upto fnExactLiveDoSpec)

/-- 'laws.FnExactJobCost', WHERE WHAT IT READS IS OF BULK AT MOST 1048576: true; the input reads as it did. -/
def fnExactJobCostUptoRow : OpenClaim := { program := "ytnjbfhfdpcdkoaa", sum := "11164b73dec1d39162e01dd27d84534ca8ae8ebc15274c549b6fe973aa35b8db", func := "loop.example/waymark/laws.FnExactJobCost", spec := "fnExactJobCost", unfollowed := true, recurses := true, apart := false, narrowed := true }
def FnExactJobCostUptoSaid : Prop := fnExactJobCostUptoRow.holds Try.pinned (OpenSpec.upto fnExactJobCostSpec)

/-- 'laws.FnTreeSwap', WHERE WHAT IT READS IS OF BULK AT MOST 1048576: true; the input reads as it did. -/
def fnTreeSwapUptoRow : OpenClaim := { program := "ytnjbfhfdpcdkoaa", sum := "11164b73dec1d39162e01dd27d84534ca8ae8ebc15274c549b6fe973aa35b8db", func := "loop.example/waymark/laws.FnTreeSwap", spec := "fnTreeSwap", unfollowed := true, recurses := true, apart := false, narrowed := true }
def FnTreeSwapUptoSaid : Prop := fnTreeSwapUptoRow.holds Try.pinned (OpenSpec.upto fnTreeSwapSpec)

/-- 'laws.FnJobCost', WHERE WHAT IT READS IS OF BULK AT MOST 1048576: true; the input reads as it did. -/
def fnJobCostUptoRow : OpenClaim := { program := "ytnjbfhfdpcdkoaa", sum := "11164b73dec1d39162e01dd27d84534ca8ae8ebc15274c549b6fe973aa35b8db", func := "loop.example/waymark/laws.FnJobCost", spec := "fnJobCost", unfollowed := true, recurses := true, apart := false, narrowed := true }
def FnJobCostUptoSaid : Prop := fnJobCostUptoRow.holds Try.pinned (OpenSpec.upto fnJobCostSpec)

/-- 'laws.FnJobBest', WHERE WHAT IT READS IS OF BULK AT MOST 1048576: true; the input reads as it did. -/
def fnJobBestUptoRow : OpenClaim := { program := "ytnjbfhfdpcdkoaa", sum := "11164b73dec1d39162e01dd27d84534ca8ae8ebc15274c549b6fe973aa35b8db", func := "loop.example/waymark/laws.FnJobBest", spec := "fnJobBest", unfollowed := true, recurses := true, apart := false, narrowed := true }
def FnJobBestUptoSaid : Prop := fnJobBestUptoRow.holds Try.pinned (OpenSpec.upto fnJobBestSpec)

/-- 'laws.FnRankNear', WHERE WHAT IT READS IS OF BULK AT MOST 1048576: true; the input reads as it did. -/
def fnRankNearUptoRow : OpenClaim := { program := "ytnjbfhfdpcdkoaa", sum := "11164b73dec1d39162e01dd27d84534ca8ae8ebc15274c549b6fe973aa35b8db", func := "loop.example/waymark/laws.FnRankNear", spec := "fnRankNear", unfollowed := true, recurses := true, apart := false, narrowed := true }
def FnRankNearUptoSaid : Prop := fnRankNearUptoRow.holds Try.pinned (OpenSpec.upto fnRankNearSpec)

end Rows
end Go.Proofs.Ytnjbfhfdpcdkoaa
