/-
  No cell of these rows narrows 'for every input' (looked for: loops, veiled, ifaces, maps, wideKeys, modest, calm, conditions, laid).
  DERIVED. THE GIVEN ROWS OF THIS SEAT. 12 by the template 'for every input the law returns true; each argument reads behind the call as it read before'; 0 by the template 'total and deterministic' (their statements: YtpkjgcafbkfbgabTotals.lean).
  GIVEN WITH THE SEED: the statements are not yours to turn. If you find one false, say at which input.
  Laid BY PROGRAM, IN A SANDBOX (cutbox-rows.mjs): the forced cells as the released guide's own fill.sh prints them over the translation 6b5232a65e7c2311… (all of the seat's roots in one cut). By AI agents, Wed Nov 11 2026. No macro, syntax, notation, axiom, sorry.
-/
import Derived.Test.YtpkjgcafbkfbgabChecked
import GoSem.Claim
import GoSem.ClaimJoined
import GoSem.ClaimMapViews
import Derived.JoinedTies
import Derived.KernelRfl
namespace Go.Proofs.Ytpkjgcafbkfbgab
/- THE CELL 'sum', in the pinned program and in every row, IS THE sha256 OF THE DUMP (.gsa) THAT YtpkjgcafbkfbgabProg.lean LOADS. Nothing in Lean hashes anything: it is a label: what it is worth is what the hold of that sum in a sandbox is worth. -/
noncomputable def Try.pinned : Pinned := { name := "ytpkjgcafbkfbgab", sum := "6b5232a65e7c2311949519dfcba920b412abc8d7326b44e73bb9ddf94a14dc1e", checked := Try.checked }
namespace Rows
def none {H : Type} : Left H := { results := [], args := [] }

/-- 'laws.FnExactPowerMat': WHATEVER THE INPUT: true; the input reads as it did. -/
def fnExactPowerMatSpec : ChangeSpec := { name := "fnExactPowerMat", fn := fun _ => fun
  | [d1, d2] => { results := [.lit (.bool true)], args := [d1, d2] }
  | _ => none }
def fnExactPowerMatRow : OpenClaim := { program := "ytpkjgcafbkfbgab", sum := "6b5232a65e7c2311949519dfcba920b412abc8d7326b44e73bb9ddf94a14dc1e", func := "loop.example/g00943/laws.FnExactPowerMat", spec := "fnExactPowerMat", apart := false }
def FnExactPowerMatSaid : Prop := fnExactPowerMatRow.holds Try.pinned (OpenSpec.ofChange fnExactPowerMatSpec)

/-- ITS FALSE NEIGHBOUR: 'it returns false'. Refute it at one input. -/
def fnExactPowerMatWrong : ChangeSpec := { name := "fnExactPowerMat", fn := fun _ => fun
  | [d1, d2] => { results := [.lit (.bool false)], args := [d1, d2] }
  | _ => none }
def FnExactPowerMatWrongFalsely : Prop := fnExactPowerMatRow.holds Try.pinned (OpenSpec.ofChange fnExactPowerMatWrong)

/-- 'laws.FnExactSublatticesOf': WHATEVER THE INPUT: true; the input reads as it did. -/
def fnExactSublatticesOfSpec : ChangeSpec := { name := "fnExactSublatticesOf", fn := fun _ => fun
  | [d] => { results := [.lit (.bool true)], args := [d] }
  | _ => none }
def fnExactSublatticesOfRow : OpenClaim := { program := "ytpkjgcafbkfbgab", sum := "6b5232a65e7c2311949519dfcba920b412abc8d7326b44e73bb9ddf94a14dc1e", func := "loop.example/g00943/laws.FnExactSublatticesOf", spec := "fnExactSublatticesOf", apart := false }
def FnExactSublatticesOfSaid : Prop := fnExactSublatticesOfRow.holds Try.pinned (OpenSpec.ofChange fnExactSublatticesOfSpec)

/-- ITS FALSE NEIGHBOUR: 'it returns false'. Refute it at one input. -/
def fnExactSublatticesOfWrong : ChangeSpec := { name := "fnExactSublatticesOf", fn := fun _ => fun
  | [d] => { results := [.lit (.bool false)], args := [d] }
  | _ => none }
def FnExactSublatticesOfWrongFalsely : Prop := fnExactSublatticesOfRow.holds Try.pinned (OpenSpec.ofChange fnExactSublatticesOfWrong)

/-- 'laws.FnExactIsMotion': WHATEVER THE INPUT: true; the input reads as it did. -/
def fnExactIsMotionSpec : ChangeSpec := { name := "fnExactIsMotion", fn := fun _ => fun
  | [d] => { results := [.lit (.bool true)], args := [d] }
  | _ => none }
def fnExactIsMotionRow : OpenClaim := { program := "ytpkjgcafbkfbgab", sum := "6b5232a65e7c2311949519dfcba920b412abc8d7326b44e73bb9ddf94a14dc1e", func := "loop.example/g00943/laws.FnExactIsMotion", spec := "fnExactIsMotion", apart := false }
def FnExactIsMotionSaid : Prop := fnExactIsMotionRow.holds Try.pinned (OpenSpec.ofChange fnExactIsMotionSpec)

/-- ITS FALSE NEIGHBOUR: 'it returns false'. Refute it at one input. -/
def fnExactIsMotionWrong : ChangeSpec := { name := "fnExactIsMotion", fn := fun _ => fun
  | [d] => { results := [.lit (.bool false)], args := [d] }
  | _ => none }
def FnExactIsMotionWrongFalsely : Prop := fnExactIsMotionRow.holds Try.pinned (OpenSpec.ofChange fnExactIsMotionWrong)

/-- 'laws.FnExactMatKind': WHATEVER THE INPUT: true; the input reads as it did. -/
def fnExactMatKindSpec : ChangeSpec := { name := "fnExactMatKind", fn := fun _ => fun
  | [d] => { results := [.lit (.bool true)], args := [d] }
  | _ => none }
def fnExactMatKindRow : OpenClaim := { program := "ytpkjgcafbkfbgab", sum := "6b5232a65e7c2311949519dfcba920b412abc8d7326b44e73bb9ddf94a14dc1e", func := "loop.example/g00943/laws.FnExactMatKind", spec := "fnExactMatKind", apart := false }
def FnExactMatKindSaid : Prop := fnExactMatKindRow.holds Try.pinned (OpenSpec.ofChange fnExactMatKindSpec)

/-- ITS FALSE NEIGHBOUR: 'it returns false'. Refute it at one input. -/
def fnExactMatKindWrong : ChangeSpec := { name := "fnExactMatKind", fn := fun _ => fun
  | [d] => { results := [.lit (.bool false)], args := [d] }
  | _ => none }
def FnExactMatKindWrongFalsely : Prop := fnExactMatKindRow.holds Try.pinned (OpenSpec.ofChange fnExactMatKindWrong)

/-- 'laws.FnExactCellsOf': WHATEVER THE INPUT: true; the input reads as it did. -/
def fnExactCellsOfSpec : ChangeSpec := { name := "fnExactCellsOf", fn := fun _ => fun
  | [d] => { results := [.lit (.bool true)], args := [d] }
  | _ => none }
def fnExactCellsOfRow : OpenClaim := { program := "ytpkjgcafbkfbgab", sum := "6b5232a65e7c2311949519dfcba920b412abc8d7326b44e73bb9ddf94a14dc1e", func := "loop.example/g00943/laws.FnExactCellsOf", spec := "fnExactCellsOf", apart := false }
def FnExactCellsOfSaid : Prop := fnExactCellsOfRow.holds Try.pinned (OpenSpec.ofChange fnExactCellsOfSpec)

/-- ITS FALSE NEIGHBOUR: 'it returns false'. Refute it at one input. -/
def fnExactCellsOfWrong : ChangeSpec := { name := "fnExactCellsOf", fn := fun _ => fun
  | [d] => { results := [.lit (.bool false)], args := [d] }
  | _ => none }
def FnExactCellsOfWrongFalsely : Prop := fnExactCellsOfRow.holds Try.pinned (OpenSpec.ofChange fnExactCellsOfWrong)

/-- 'laws.FnExactJoinLattices': WHATEVER THE INPUT: true; the input reads as it did. -/
def fnExactJoinLatticesSpec : ChangeSpec := { name := "fnExactJoinLattices", fn := fun _ => fun
  | [d1, d2] => { results := [.lit (.bool true)], args := [d1, d2] }
  | _ => none }
def fnExactJoinLatticesRow : OpenClaim := { program := "ytpkjgcafbkfbgab", sum := "6b5232a65e7c2311949519dfcba920b412abc8d7326b44e73bb9ddf94a14dc1e", func := "loop.example/g00943/laws.FnExactJoinLattices", spec := "fnExactJoinLattices", recurses := true, apart := false }
def FnExactJoinLatticesSaid : Prop := fnExactJoinLatticesRow.holds Try.pinned (OpenSpec.ofChange fnExactJoinLatticesSpec)

/-- ITS FALSE NEIGHBOUR: 'it returns false'. Refute it at one input. -/
def fnExactJoinLatticesWrong : ChangeSpec := { name := "fnExactJoinLattices", fn := fun _ => fun
  | [d1, d2] => { results := [.lit (.bool false)], args := [d1, d2] }
  | _ => none }
def FnExactJoinLatticesWrongFalsely : Prop := fnExactJoinLatticesRow.holds Try.pinned (OpenSpec.ofChange fnExactJoinLatticesWrong)

/-- 'laws.FnExactPointMats': WHATEVER THE INPUT: true; the input reads as it did. -/
def fnExactPointMatsSpec : ChangeSpec := { name := "fnExactPointMats", fn := fun _ => fun
  | [d] => { results := [.lit (.bool true)], args := [d] }
  | _ => none }
def fnExactPointMatsRow : OpenClaim := { program := "ytpkjgcafbkfbgab", sum := "6b5232a65e7c2311949519dfcba920b412abc8d7326b44e73bb9ddf94a14dc1e", func := "loop.example/g00943/laws.FnExactPointMats", spec := "fnExactPointMats", apart := false }
def FnExactPointMatsSaid : Prop := fnExactPointMatsRow.holds Try.pinned (OpenSpec.ofChange fnExactPointMatsSpec)

/-- ITS FALSE NEIGHBOUR: 'it returns false'. Refute it at one input. -/
def fnExactPointMatsWrong : ChangeSpec := { name := "fnExactPointMats", fn := fun _ => fun
  | [d] => { results := [.lit (.bool false)], args := [d] }
  | _ => none }
def FnExactPointMatsWrongFalsely : Prop := fnExactPointMatsRow.holds Try.pinned (OpenSpec.ofChange fnExactPointMatsWrong)

/-- 'laws.FnExactNearVecs': WHATEVER THE INPUT: true; the input reads as it did. -/
def fnExactNearVecsSpec : ChangeSpec := { name := "fnExactNearVecs", fn := fun _ => fun
  | [d1, d2] => { results := [.lit (.bool true)], args := [d1, d2] }
  | _ => none }
def fnExactNearVecsRow : OpenClaim := { program := "ytpkjgcafbkfbgab", sum := "6b5232a65e7c2311949519dfcba920b412abc8d7326b44e73bb9ddf94a14dc1e", func := "loop.example/g00943/laws.FnExactNearVecs", spec := "fnExactNearVecs", unfollowed := true, recurses := true, apart := false }
def FnExactNearVecsSaid : Prop := fnExactNearVecsRow.holds Try.pinned (OpenSpec.ofChange fnExactNearVecsSpec)

/-- ITS FALSE NEIGHBOUR: 'it returns false'. Refute it at one input. -/
def fnExactNearVecsWrong : ChangeSpec := { name := "fnExactNearVecs", fn := fun _ => fun
  | [d1, d2] => { results := [.lit (.bool false)], args := [d1, d2] }
  | _ => none }
def FnExactNearVecsWrongFalsely : Prop := fnExactNearVecsRow.holds Try.pinned (OpenSpec.ofChange fnExactNearVecsWrong)

/-- 'laws.FnExactMeetLattices': WHATEVER THE INPUT: true; the input reads as it did. -/
def fnExactMeetLatticesSpec : ChangeSpec := { name := "fnExactMeetLattices", fn := fun _ => fun
  | [d1, d2] => { results := [.lit (.bool true)], args := [d1, d2] }
  | _ => none }
def fnExactMeetLatticesRow : OpenClaim := { program := "ytpkjgcafbkfbgab", sum := "6b5232a65e7c2311949519dfcba920b412abc8d7326b44e73bb9ddf94a14dc1e", func := "loop.example/g00943/laws.FnExactMeetLattices", spec := "fnExactMeetLattices", apart := false }
def FnExactMeetLatticesSaid : Prop := fnExactMeetLatticesRow.holds Try.pinned (OpenSpec.ofChange fnExactMeetLatticesSpec)

/-- ITS FALSE NEIGHBOUR: 'it returns false'. Refute it at one input. -/
def fnExactMeetLatticesWrong : ChangeSpec := { name := "fnExactMeetLattices", fn := fun _ => fun
  | [d1, d2] => { results := [.lit (.bool false)], args := [d1, d2] }
  | _ => none }
def FnExactMeetLatticesWrongFalsely : Prop := fnExactMeetLatticesRow.holds Try.pinned (OpenSpec.ofChange fnExactMeetLatticesWrong)

/-- 'laws.FnExactLatticeOf': WHATEVER THE INPUT: true; the input reads as it did. -/
def fnExactLatticeOfSpec : ChangeSpec := { name := "fnExactLatticeOf", fn := fun _ => fun
  | [d1, d2] => { results := [.lit (.bool true)], args := [d1, d2] }
  | _ => none }
def fnExactLatticeOfRow : OpenClaim := { program := "ytpkjgcafbkfbgab", sum := "6b5232a65e7c2311949519dfcba920b412abc8d7326b44e73bb9ddf94a14dc1e", func := "loop.example/g00943/laws.FnExactLatticeOf", spec := "fnExactLatticeOf", recurses := true, apart := false }
def FnExactLatticeOfSaid : Prop := fnExactLatticeOfRow.holds Try.pinned (OpenSpec.ofChange fnExactLatticeOfSpec)

/-- ITS FALSE NEIGHBOUR: 'it returns false'. Refute it at one input. -/
def fnExactLatticeOfWrong : ChangeSpec := { name := "fnExactLatticeOf", fn := fun _ => fun
  | [d1, d2] => { results := [.lit (.bool false)], args := [d1, d2] }
  | _ => none }
def FnExactLatticeOfWrongFalsely : Prop := fnExactLatticeOfRow.holds Try.pinned (OpenSpec.ofChange fnExactLatticeOfWrong)

/-- 'laws.FnExactApplyMotion': WHATEVER THE INPUT: true; the input reads as it did. -/
def fnExactApplyMotionSpec : ChangeSpec := { name := "fnExactApplyMotion", fn := fun _ => fun
  | [d1, d2] => { results := [.lit (.bool true)], args := [d1, d2] }
  | _ => none }
def fnExactApplyMotionRow : OpenClaim := { program := "ytpkjgcafbkfbgab", sum := "6b5232a65e7c2311949519dfcba920b412abc8d7326b44e73bb9ddf94a14dc1e", func := "loop.example/g00943/laws.FnExactApplyMotion", spec := "fnExactApplyMotion", apart := false }
def FnExactApplyMotionSaid : Prop := fnExactApplyMotionRow.holds Try.pinned (OpenSpec.ofChange fnExactApplyMotionSpec)

/-- ITS FALSE NEIGHBOUR: 'it returns false'. Refute it at one input. -/
def fnExactApplyMotionWrong : ChangeSpec := { name := "fnExactApplyMotion", fn := fun _ => fun
  | [d1, d2] => { results := [.lit (.bool false)], args := [d1, d2] }
  | _ => none }
def FnExactApplyMotionWrongFalsely : Prop := fnExactApplyMotionRow.holds Try.pinned (OpenSpec.ofChange fnExactApplyMotionWrong)

/-- 'laws.FnExactKindOfMotion': WHATEVER THE INPUT: true; the input reads as it did. -/
def fnExactKindOfMotionSpec : ChangeSpec := { name := "fnExactKindOfMotion", fn := fun _ => fun
  | [d] => { results := [.lit (.bool true)], args := [d] }
  | _ => none }
def fnExactKindOfMotionRow : OpenClaim := { program := "ytpkjgcafbkfbgab", sum := "6b5232a65e7c2311949519dfcba920b412abc8d7326b44e73bb9ddf94a14dc1e", func := "loop.example/g00943/laws.FnExactKindOfMotion", spec := "fnExactKindOfMotion", apart := false }
def FnExactKindOfMotionSaid : Prop := fnExactKindOfMotionRow.holds Try.pinned (OpenSpec.ofChange fnExactKindOfMotionSpec)

/-- ITS FALSE NEIGHBOUR: 'it returns false'. Refute it at one input. -/
def fnExactKindOfMotionWrong : ChangeSpec := { name := "fnExactKindOfMotion", fn := fun _ => fun
  | [d] => { results := [.lit (.bool false)], args := [d] }
  | _ => none }
def FnExactKindOfMotionWrongFalsely : Prop := fnExactKindOfMotionRow.holds Try.pinned (OpenSpec.ofChange fnExactKindOfMotionWrong)

/- THE SECOND FORM. 'bulk': how many values and letters a reading holds, each counted each time it is reached (what is shared counts as often as it is met; a slice's spare places count too). A statement '..UptoSaid' is the law's where the arguments, and the package variables that the reading takes, are together of bulk at most 1048576: NARROWER than '..Said'. Prove '..Said' where nothing that the law and all that it calls make is longer than what came in: it says more and counts as full. Else prove '..UptoSaid'. A law counts once. -/
mutual
def uptoBulk {H : Type} : DataW H → Nat
  | .lit (.string bytes) => bytes.length + 1
  | .lit _ => 1
  | .nil => 1
  | .ptr d => uptoBulk d + 1
  | .slice elems spare => uptoBulkAll elems + uptoBulkAll spare + 1
  | .agg parts => uptoBulkAll parts + 1
  | .iface _ d => uptoBulk d + 1
  | .map entries => uptoBulkEntries entries + 1
  | .held _ => 1
def uptoBulkAll {H : Type} : List (DataW H) → Nat
  | [] => 0
  | d :: r => uptoBulk d + uptoBulkAll r
def uptoBulkEntries {H : Type} : List (Lit × DataW H) → Nat
  | [] => 0
  | x :: r => uptoBulkEntry x + uptoBulkEntries r
def uptoBulkEntry {H : Type} : Lit × DataW H → Nat
  | (.string bytes, d) => bytes.length + uptoBulk d + 1
  | (_, d) => uptoBulk d + 1
 end
def uptoSmall : (H : Type) → List (DataW H) → Bool := fun _ ds => decide (uptoBulkAll ds ≤ 1048576)
def OpenSpec.upto (s : _root_.Go.ChangeSpec) : _root_.Go.OpenSpec := { _root_.Go.OpenSpec.ofChange s with cond := some uptoSmall }

/-- 'laws.FnExactPowerMat', WHERE WHAT IT READS IS OF BULK AT MOST 1048576: true; the input reads as it did. -/
def fnExactPowerMatUptoRow : OpenClaim := { program := "ytpkjgcafbkfbgab", sum := "6b5232a65e7c2311949519dfcba920b412abc8d7326b44e73bb9ddf94a14dc1e", func := "loop.example/g00943/laws.FnExactPowerMat", spec := "fnExactPowerMat", apart := false, narrowed := true }
def FnExactPowerMatUptoSaid : Prop := fnExactPowerMatUptoRow.holds Try.pinned (OpenSpec.upto fnExactPowerMatSpec)

/-- 'laws.FnExactSublatticesOf', WHERE WHAT IT READS IS OF BULK AT MOST 1048576: true; the input reads as it did. -/
def fnExactSublatticesOfUptoRow : OpenClaim := { program := "ytpkjgcafbkfbgab", sum := "6b5232a65e7c2311949519dfcba920b412abc8d7326b44e73bb9ddf94a14dc1e", func := "loop.example/g00943/laws.FnExactSublatticesOf", spec := "fnExactSublatticesOf", apart := false, narrowed := true }
def FnExactSublatticesOfUptoSaid : Prop := fnExactSublatticesOfUptoRow.holds Try.pinned (OpenSpec.upto fnExactSublatticesOfSpec)

/-- 'laws.FnExactIsMotion', WHERE WHAT IT READS IS OF BULK AT MOST 1048576: true; the input reads as it did. -/
def fnExactIsMotionUptoRow : OpenClaim := { program := "ytpkjgcafbkfbgab", sum := "6b5232a65e7c2311949519dfcba920b412abc8d7326b44e73bb9ddf94a14dc1e", func := "loop.example/g00943/laws.FnExactIsMotion", spec := "fnExactIsMotion", apart := false, narrowed := true }
def FnExactIsMotionUptoSaid : Prop := fnExactIsMotionUptoRow.holds Try.pinned (OpenSpec.upto fnExactIsMotionSpec)

/-- 'laws.FnExactMatKind', WHERE WHAT IT READS IS OF BULK AT MOST 1048576: true; the input reads as it did. -/
def fnExactMatKindUptoRow : OpenClaim := { program := "ytpkjgcafbkfbgab", sum := "6b5232a65e7c2311949519dfcba920b412abc8d7326b44e73bb9ddf94a14dc1e", func := "loop.example/g00943/laws.FnExactMatKind", spec := "fnExactMatKind", apart := false, narrowed := true }
def FnExactMatKindUptoSaid : Prop := fnExactMatKindUptoRow.holds Try.pinned (OpenSpec.upto fnExactMatKindSpec)

/-- 'laws.FnExactCellsOf', WHERE WHAT IT READS IS OF BULK AT MOST 1048576: true; the input reads as it did. -/
def fnExactCellsOfUptoRow : OpenClaim := { program := "ytpkjgcafbkfbgab", sum := "6b5232a65e7c2311949519dfcba920b412abc8d7326b44e73bb9ddf94a14dc1e", func := "loop.example/g00943/laws.FnExactCellsOf", spec := "fnExactCellsOf", apart := false, narrowed := true }
def FnExactCellsOfUptoSaid : Prop := fnExactCellsOfUptoRow.holds Try.pinned (OpenSpec.upto fnExactCellsOfSpec)

/-- 'laws.FnExactJoinLattices', WHERE WHAT IT READS IS OF BULK AT MOST 1048576: true; the input reads as it did. -/
def fnExactJoinLatticesUptoRow : OpenClaim := { program := "ytpkjgcafbkfbgab", sum := "6b5232a65e7c2311949519dfcba920b412abc8d7326b44e73bb9ddf94a14dc1e", func := "loop.example/g00943/laws.FnExactJoinLattices", spec := "fnExactJoinLattices", recurses := true, apart := false, narrowed := true }
def FnExactJoinLatticesUptoSaid : Prop := fnExactJoinLatticesUptoRow.holds Try.pinned (OpenSpec.upto fnExactJoinLatticesSpec)

/-- 'laws.FnExactPointMats', WHERE WHAT IT READS IS OF BULK AT MOST 1048576: true; the input reads as it did. -/
def fnExactPointMatsUptoRow : OpenClaim := { program := "ytpkjgcafbkfbgab", sum := "6b5232a65e7c2311949519dfcba920b412abc8d7326b44e73bb9ddf94a14dc1e", func := "loop.example/g00943/laws.FnExactPointMats", spec := "fnExactPointMats", apart := false, narrowed := true }
def FnExactPointMatsUptoSaid : Prop := fnExactPointMatsUptoRow.holds Try.pinned (OpenSpec.upto fnExactPointMatsSpec)

/-- 'laws.FnExactNearVecs', WHERE WHAT IT READS IS OF BULK AT MOST 1048576: true; the input reads as it did. -/
def fnExactNearVecsUptoRow : OpenClaim := { program := "ytpkjgcafbkfbgab", sum := "6b5232a65e7c2311949519dfcba920b412abc8d7326b44e73bb9ddf94a14dc1e", func := "loop.example/g00943/laws.FnExactNearVecs", spec := "fnExactNearVecs", unfollowed := true, recurses := true, apart := false, narrowed := true }
def FnExactNearVecsUptoSaid : Prop := fnExactNearVecsUptoRow.holds Try.pinned (OpenSpec.upto fnExactNearVecsSpec)

/-- 'laws.FnExactMeetLattices', WHERE WHAT IT READS IS OF BULK AT MOST 1048576: true; the input reads as it did. -/
def fnExactMeetLatticesUptoRow : OpenClaim := { program := "ytpkjgcafbkfbgab", sum := "6b5232a65e7c2311949519dfcba920b412abc8d7326b44e73bb9ddf94a14dc1e", func := "loop.example/g00943/laws.FnExactMeetLattices", spec := "fnExactMeetLattices", apart := false, narrowed := true }
def FnExactMeetLatticesUptoSaid : Prop := fnExactMeetLatticesUptoRow.holds Try.pinned (OpenSpec.upto fnExactMeetLatticesSpec)

/-- 'laws.FnExactLatticeOf', WHERE WHAT IT READS IS OF BULK AT MOST 1048576: true; the input reads as it did. -/
def fnExactLatticeOfUptoRow : OpenClaim := { program := "ytpkjgcafbkfbgab", sum := "6b5232a65e7c2311949519dfcba920b412abc8d7326b44e73bb9ddf94a14dc1e", func := "loop.example/g00943/laws.FnExactLatticeOf", spec := "fnExactLatticeOf", recurses := true, apart := false, narrowed := true }
def FnExactLatticeOfUptoSaid : Prop := fnExactLatticeOfUptoRow.holds Try.pinned (OpenSpec.upto fnExactLatticeOfSpec)

/-- 'laws.FnExactApplyMotion', WHERE WHAT IT READS IS OF BULK AT MOST 1048576: true; the input reads as it did. -/
def fnExactApplyMotionUptoRow : OpenClaim := { program := "ytpkjgcafbkfbgab", sum := "6b5232a65e7c2311949519dfcba920b412abc8d7326b44e73bb9ddf94a14dc1e", func := "loop.example/g00943/laws.FnExactApplyMotion", spec := "fnExactApplyMotion", apart := false, narrowed := true }
def FnExactApplyMotionUptoSaid : Prop := fnExactApplyMotionUptoRow.holds Try.pinned (OpenSpec.upto fnExactApplyMotionSpec)

/-- 'laws.FnExactKindOfMotion', WHERE WHAT IT READS IS OF BULK AT MOST 1048576: true; the input reads as it did. -/
def fnExactKindOfMotionUptoRow : OpenClaim := { program := "ytpkjgcafbkfbgab", sum := "6b5232a65e7c2311949519dfcba920b412abc8d7326b44e73bb9ddf94a14dc1e", func := "loop.example/g00943/laws.FnExactKindOfMotion", spec := "fnExactKindOfMotion", apart := false, narrowed := true }
def FnExactKindOfMotionUptoSaid : Prop := fnExactKindOfMotionUptoRow.holds Try.pinned (OpenSpec.upto fnExactKindOfMotionSpec)

end Rows
end Go.Proofs.Ytpkjgcafbkfbgab
