/-
  No cell of these rows narrows 'for every input' (looked for: loops, veiled, ifaces, maps, wideKeys, modest, calm, conditions, laid).
  DERIVED. THE GIVEN ROWS OF THIS SEAT. 12 by the template 'for every input the law returns true; each argument reads behind the call as it read before'; 0 by the template 'total and deterministic' (their statements: YtpkjgcafbkfbgaaTotals.lean).
  GIVEN WITH THE SEED: the statements are not yours to turn. If you find one false, say at which input.
  Laid BY PROGRAM, IN A SANDBOX (cutbox-rows.mjs): the forced cells as the released guide's own fill.sh prints them over the translation 53771284dc7e5763… (all of the seat's roots in one cut). By AI agents, Wed Nov 11 2026. No macro, syntax, notation, axiom, sorry.
-/
import Derived.Test.YtpkjgcafbkfbgaaChecked
import GoSem.Claim
import GoSem.ClaimJoined
import GoSem.ClaimMapViews
import Derived.JoinedTies
import Derived.KernelRfl
namespace Go.Proofs.Ytpkjgcafbkfbgaa
/- THE CELL 'sum', in the pinned program and in every row, IS THE sha256 OF THE DUMP (.gsa) THAT YtpkjgcafbkfbgaaProg.lean LOADS. Nothing in Lean hashes anything: it is a label: what it is worth is what the hold of that sum in a sandbox is worth. -/
noncomputable def Try.pinned : Pinned := { name := "ytpkjgcafbkfbgaa", sum := "53771284dc7e5763c78c66f16472b9d2ca43a1ecaa902fb3f0662ce6a38c199b", checked := Try.checked }
namespace Rows
def none {H : Type} : Left H := { results := [], args := [] }

/-- 'laws.FnExactNormOf': WHATEVER THE INPUT: true; the input reads as it did. -/
def fnExactNormOfSpec : ChangeSpec := { name := "fnExactNormOf", fn := fun _ => fun
  | [d1, d2] => { results := [.lit (.bool true)], args := [d1, d2] }
  | _ => none }
def fnExactNormOfRow : OpenClaim := { program := "ytpkjgcafbkfbgaa", sum := "53771284dc7e5763c78c66f16472b9d2ca43a1ecaa902fb3f0662ce6a38c199b", func := "loop.example/g00943/laws.FnExactNormOf", spec := "fnExactNormOf", apart := false }
def FnExactNormOfSaid : Prop := fnExactNormOfRow.holds Try.pinned (OpenSpec.ofChange fnExactNormOfSpec)

/-- ITS FALSE NEIGHBOUR: 'it returns false'. Refute it at one input. -/
def fnExactNormOfWrong : ChangeSpec := { name := "fnExactNormOf", fn := fun _ => fun
  | [d1, d2] => { results := [.lit (.bool false)], args := [d1, d2] }
  | _ => none }
def FnExactNormOfWrongFalsely : Prop := fnExactNormOfRow.holds Try.pinned (OpenSpec.ofChange fnExactNormOfWrong)

/-- 'laws.FnExactCompareVecs': WHATEVER THE INPUT: true; the input reads as it did. -/
def fnExactCompareVecsSpec : ChangeSpec := { name := "fnExactCompareVecs", fn := fun _ => fun
  | [d1, d2] => { results := [.lit (.bool true)], args := [d1, d2] }
  | _ => none }
def fnExactCompareVecsRow : OpenClaim := { program := "ytpkjgcafbkfbgaa", sum := "53771284dc7e5763c78c66f16472b9d2ca43a1ecaa902fb3f0662ce6a38c199b", func := "loop.example/g00943/laws.FnExactCompareVecs", spec := "fnExactCompareVecs", apart := false }
def FnExactCompareVecsSaid : Prop := fnExactCompareVecsRow.holds Try.pinned (OpenSpec.ofChange fnExactCompareVecsSpec)

/-- ITS FALSE NEIGHBOUR: 'it returns false'. Refute it at one input. -/
def fnExactCompareVecsWrong : ChangeSpec := { name := "fnExactCompareVecs", fn := fun _ => fun
  | [d1, d2] => { results := [.lit (.bool false)], args := [d1, d2] }
  | _ => none }
def FnExactCompareVecsWrongFalsely : Prop := fnExactCompareVecsRow.holds Try.pinned (OpenSpec.ofChange fnExactCompareVecsWrong)

/-- 'laws.FnExactAddVecs': WHATEVER THE INPUT: true; the input reads as it did. -/
def fnExactAddVecsSpec : ChangeSpec := { name := "fnExactAddVecs", fn := fun _ => fun
  | [d1, d2] => { results := [.lit (.bool true)], args := [d1, d2] }
  | _ => none }
def fnExactAddVecsRow : OpenClaim := { program := "ytpkjgcafbkfbgaa", sum := "53771284dc7e5763c78c66f16472b9d2ca43a1ecaa902fb3f0662ce6a38c199b", func := "loop.example/g00943/laws.FnExactAddVecs", spec := "fnExactAddVecs", apart := false }
def FnExactAddVecsSaid : Prop := fnExactAddVecsRow.holds Try.pinned (OpenSpec.ofChange fnExactAddVecsSpec)

/-- ITS FALSE NEIGHBOUR: 'it returns false'. Refute it at one input. -/
def fnExactAddVecsWrong : ChangeSpec := { name := "fnExactAddVecs", fn := fun _ => fun
  | [d1, d2] => { results := [.lit (.bool false)], args := [d1, d2] }
  | _ => none }
def FnExactAddVecsWrongFalsely : Prop := fnExactAddVecsRow.holds Try.pinned (OpenSpec.ofChange fnExactAddVecsWrong)

/-- 'laws.FnExactPrimitiveVec': WHATEVER THE INPUT: true; the input reads as it did. -/
def fnExactPrimitiveVecSpec : ChangeSpec := { name := "fnExactPrimitiveVec", fn := fun _ => fun
  | [d] => { results := [.lit (.bool true)], args := [d] }
  | _ => none }
def fnExactPrimitiveVecRow : OpenClaim := { program := "ytpkjgcafbkfbgaa", sum := "53771284dc7e5763c78c66f16472b9d2ca43a1ecaa902fb3f0662ce6a38c199b", func := "loop.example/g00943/laws.FnExactPrimitiveVec", spec := "fnExactPrimitiveVec", recurses := true, apart := false }
def FnExactPrimitiveVecSaid : Prop := fnExactPrimitiveVecRow.holds Try.pinned (OpenSpec.ofChange fnExactPrimitiveVecSpec)

/-- ITS FALSE NEIGHBOUR: 'it returns false'. Refute it at one input. -/
def fnExactPrimitiveVecWrong : ChangeSpec := { name := "fnExactPrimitiveVec", fn := fun _ => fun
  | [d] => { results := [.lit (.bool false)], args := [d] }
  | _ => none }
def FnExactPrimitiveVecWrongFalsely : Prop := fnExactPrimitiveVecRow.holds Try.pinned (OpenSpec.ofChange fnExactPrimitiveVecWrong)

/-- 'laws.FnExactScaleVec': WHATEVER THE INPUT: true; the input reads as it did. -/
def fnExactScaleVecSpec : ChangeSpec := { name := "fnExactScaleVec", fn := fun _ => fun
  | [d1, d2] => { results := [.lit (.bool true)], args := [d1, d2] }
  | _ => none }
def fnExactScaleVecRow : OpenClaim := { program := "ytpkjgcafbkfbgaa", sum := "53771284dc7e5763c78c66f16472b9d2ca43a1ecaa902fb3f0662ce6a38c199b", func := "loop.example/g00943/laws.FnExactScaleVec", spec := "fnExactScaleVec", apart := false }
def FnExactScaleVecSaid : Prop := fnExactScaleVecRow.holds Try.pinned (OpenSpec.ofChange fnExactScaleVecSpec)

/-- ITS FALSE NEIGHBOUR: 'it returns false'. Refute it at one input. -/
def fnExactScaleVecWrong : ChangeSpec := { name := "fnExactScaleVec", fn := fun _ => fun
  | [d1, d2] => { results := [.lit (.bool false)], args := [d1, d2] }
  | _ => none }
def FnExactScaleVecWrongFalsely : Prop := fnExactScaleVecRow.holds Try.pinned (OpenSpec.ofChange fnExactScaleVecWrong)

/-- 'laws.FnExactInverseMat': WHATEVER THE INPUT: true; the input reads as it did. -/
def fnExactInverseMatSpec : ChangeSpec := { name := "fnExactInverseMat", fn := fun _ => fun
  | [d] => { results := [.lit (.bool true)], args := [d] }
  | _ => none }
def fnExactInverseMatRow : OpenClaim := { program := "ytpkjgcafbkfbgaa", sum := "53771284dc7e5763c78c66f16472b9d2ca43a1ecaa902fb3f0662ce6a38c199b", func := "loop.example/g00943/laws.FnExactInverseMat", spec := "fnExactInverseMat", apart := false }
def FnExactInverseMatSaid : Prop := fnExactInverseMatRow.holds Try.pinned (OpenSpec.ofChange fnExactInverseMatSpec)

/-- ITS FALSE NEIGHBOUR: 'it returns false'. Refute it at one input. -/
def fnExactInverseMatWrong : ChangeSpec := { name := "fnExactInverseMat", fn := fun _ => fun
  | [d] => { results := [.lit (.bool false)], args := [d] }
  | _ => none }
def FnExactInverseMatWrongFalsely : Prop := fnExactInverseMatRow.holds Try.pinned (OpenSpec.ofChange fnExactInverseMatWrong)

/-- 'laws.FnExactIsPointMat': WHATEVER THE INPUT: true; the input reads as it did. -/
def fnExactIsPointMatSpec : ChangeSpec := { name := "fnExactIsPointMat", fn := fun _ => fun
  | [d1, d2] => { results := [.lit (.bool true)], args := [d1, d2] }
  | _ => none }
def fnExactIsPointMatRow : OpenClaim := { program := "ytpkjgcafbkfbgaa", sum := "53771284dc7e5763c78c66f16472b9d2ca43a1ecaa902fb3f0662ce6a38c199b", func := "loop.example/g00943/laws.FnExactIsPointMat", spec := "fnExactIsPointMat", apart := false }
def FnExactIsPointMatSaid : Prop := fnExactIsPointMatRow.holds Try.pinned (OpenSpec.ofChange fnExactIsPointMatSpec)

/-- ITS FALSE NEIGHBOUR: 'it returns false'. Refute it at one input. -/
def fnExactIsPointMatWrong : ChangeSpec := { name := "fnExactIsPointMat", fn := fun _ => fun
  | [d1, d2] => { results := [.lit (.bool false)], args := [d1, d2] }
  | _ => none }
def FnExactIsPointMatWrongFalsely : Prop := fnExactIsPointMatRow.holds Try.pinned (OpenSpec.ofChange fnExactIsPointMatWrong)

/-- 'laws.FnExactMultiplyMats': WHATEVER THE INPUT: true; the input reads as it did. -/
def fnExactMultiplyMatsSpec : ChangeSpec := { name := "fnExactMultiplyMats", fn := fun _ => fun
  | [d1, d2] => { results := [.lit (.bool true)], args := [d1, d2] }
  | _ => none }
def fnExactMultiplyMatsRow : OpenClaim := { program := "ytpkjgcafbkfbgaa", sum := "53771284dc7e5763c78c66f16472b9d2ca43a1ecaa902fb3f0662ce6a38c199b", func := "loop.example/g00943/laws.FnExactMultiplyMats", spec := "fnExactMultiplyMats", apart := false }
def FnExactMultiplyMatsSaid : Prop := fnExactMultiplyMatsRow.holds Try.pinned (OpenSpec.ofChange fnExactMultiplyMatsSpec)

/-- ITS FALSE NEIGHBOUR: 'it returns false'. Refute it at one input. -/
def fnExactMultiplyMatsWrong : ChangeSpec := { name := "fnExactMultiplyMats", fn := fun _ => fun
  | [d1, d2] => { results := [.lit (.bool false)], args := [d1, d2] }
  | _ => none }
def FnExactMultiplyMatsWrongFalsely : Prop := fnExactMultiplyMatsRow.holds Try.pinned (OpenSpec.ofChange fnExactMultiplyMatsWrong)

/-- 'laws.FnExactApplyMat': WHATEVER THE INPUT: true; the input reads as it did. -/
def fnExactApplyMatSpec : ChangeSpec := { name := "fnExactApplyMat", fn := fun _ => fun
  | [d1, d2] => { results := [.lit (.bool true)], args := [d1, d2] }
  | _ => none }
def fnExactApplyMatRow : OpenClaim := { program := "ytpkjgcafbkfbgaa", sum := "53771284dc7e5763c78c66f16472b9d2ca43a1ecaa902fb3f0662ce6a38c199b", func := "loop.example/g00943/laws.FnExactApplyMat", spec := "fnExactApplyMat", apart := false }
def FnExactApplyMatSaid : Prop := fnExactApplyMatRow.holds Try.pinned (OpenSpec.ofChange fnExactApplyMatSpec)

/-- ITS FALSE NEIGHBOUR: 'it returns false'. Refute it at one input. -/
def fnExactApplyMatWrong : ChangeSpec := { name := "fnExactApplyMat", fn := fun _ => fun
  | [d1, d2] => { results := [.lit (.bool false)], args := [d1, d2] }
  | _ => none }
def FnExactApplyMatWrongFalsely : Prop := fnExactApplyMatRow.holds Try.pinned (OpenSpec.ofChange fnExactApplyMatWrong)

/-- 'laws.FnExactOrderOf': WHATEVER THE INPUT: true; the input reads as it did. -/
def fnExactOrderOfSpec : ChangeSpec := { name := "fnExactOrderOf", fn := fun _ => fun
  | [d] => { results := [.lit (.bool true)], args := [d] }
  | _ => none }
def fnExactOrderOfRow : OpenClaim := { program := "ytpkjgcafbkfbgaa", sum := "53771284dc7e5763c78c66f16472b9d2ca43a1ecaa902fb3f0662ce6a38c199b", func := "loop.example/g00943/laws.FnExactOrderOf", spec := "fnExactOrderOf", apart := false }
def FnExactOrderOfSaid : Prop := fnExactOrderOfRow.holds Try.pinned (OpenSpec.ofChange fnExactOrderOfSpec)

/-- ITS FALSE NEIGHBOUR: 'it returns false'. Refute it at one input. -/
def fnExactOrderOfWrong : ChangeSpec := { name := "fnExactOrderOf", fn := fun _ => fun
  | [d] => { results := [.lit (.bool false)], args := [d] }
  | _ => none }
def FnExactOrderOfWrongFalsely : Prop := fnExactOrderOfRow.holds Try.pinned (OpenSpec.ofChange fnExactOrderOfWrong)

/-- 'laws.FnExactIsInLattice': WHATEVER THE INPUT: true; the input reads as it did. -/
def fnExactIsInLatticeSpec : ChangeSpec := { name := "fnExactIsInLattice", fn := fun _ => fun
  | [d1, d2] => { results := [.lit (.bool true)], args := [d1, d2] }
  | _ => none }
def fnExactIsInLatticeRow : OpenClaim := { program := "ytpkjgcafbkfbgaa", sum := "53771284dc7e5763c78c66f16472b9d2ca43a1ecaa902fb3f0662ce6a38c199b", func := "loop.example/g00943/laws.FnExactIsInLattice", spec := "fnExactIsInLattice", apart := false }
def FnExactIsInLatticeSaid : Prop := fnExactIsInLatticeRow.holds Try.pinned (OpenSpec.ofChange fnExactIsInLatticeSpec)

/-- ITS FALSE NEIGHBOUR: 'it returns false'. Refute it at one input. -/
def fnExactIsInLatticeWrong : ChangeSpec := { name := "fnExactIsInLattice", fn := fun _ => fun
  | [d1, d2] => { results := [.lit (.bool false)], args := [d1, d2] }
  | _ => none }
def FnExactIsInLatticeWrongFalsely : Prop := fnExactIsInLatticeRow.holds Try.pinned (OpenSpec.ofChange fnExactIsInLatticeWrong)

/-- 'laws.FnExactReduceVec': WHATEVER THE INPUT: true; the input reads as it did. -/
def fnExactReduceVecSpec : ChangeSpec := { name := "fnExactReduceVec", fn := fun _ => fun
  | [d1, d2] => { results := [.lit (.bool true)], args := [d1, d2] }
  | _ => none }
def fnExactReduceVecRow : OpenClaim := { program := "ytpkjgcafbkfbgaa", sum := "53771284dc7e5763c78c66f16472b9d2ca43a1ecaa902fb3f0662ce6a38c199b", func := "loop.example/g00943/laws.FnExactReduceVec", spec := "fnExactReduceVec", apart := false }
def FnExactReduceVecSaid : Prop := fnExactReduceVecRow.holds Try.pinned (OpenSpec.ofChange fnExactReduceVecSpec)

/-- ITS FALSE NEIGHBOUR: 'it returns false'. Refute it at one input. -/
def fnExactReduceVecWrong : ChangeSpec := { name := "fnExactReduceVec", fn := fun _ => fun
  | [d1, d2] => { results := [.lit (.bool false)], args := [d1, d2] }
  | _ => none }
def FnExactReduceVecWrongFalsely : Prop := fnExactReduceVecRow.holds Try.pinned (OpenSpec.ofChange fnExactReduceVecWrong)

/- THE SECOND FORM. 'bulk': how many values and letters a reading holds, each counted each time it is reached (what is shared counts as often as it is met; a slice's spare places count too). A statement '..UptoSaid' is the law's where the arguments, and the package variables that the reading takes, are together of bulk at most 1048576: NARROWER than '..Said'. Prove '..Said' where nothing that the law and all that it calls make is longer than what came in: it says more and counts as full. Else prove '..UptoSaid'. A law counts once. -/
mutual
def uptoBulk {H : Type} : DataW H → Nat
  | .lit (.string bytes) => bytes.length + 1
  | .lit _ => 1
  | .nil => 1
  | .ptr d => uptoBulk d + 1
  | .slice elems spare => uptoBulkAll elems + uptoBulkAll spare + 1
  | .agg parts => uptoBulkAll parts + 1
  | .iface _ d => uptoBulk d + 1
  | .map entries => uptoBulkEntries entries + 1
  | .held _ => 1
def uptoBulkAll {H : Type} : List (DataW H) → Nat
  | [] => 0
  | d :: r => uptoBulk d + uptoBulkAll r
def uptoBulkEntries {H : Type} : List (Lit × DataW H) → Nat
  | [] => 0
  | x :: r => uptoBulkEntry x + uptoBulkEntries r
def uptoBulkEntry {H : Type} : Lit × DataW H → Nat
  | (.string bytes, d) => bytes.length + uptoBulk d + 1
  | (_, d) => uptoBulk d + 1
 end
def uptoSmall : (H : Type) → List (DataW H) → Bool := fun _ ds => decide (uptoBulkAll ds ≤ 1048576)
def OpenSpec.upto (s : _root_.Go.ChangeSpec) : _root_.Go.OpenSpec := { _root_.Go.OpenSpec.ofChange s with cond := some uptoSmall }

/-- 'laws.FnExactNormOf', WHERE WHAT IT READS IS OF BULK AT MOST 1048576: true; the input reads as it did. -/
def fnExactNormOfUptoRow : OpenClaim := { program := "ytpkjgcafbkfbgaa", sum := "53771284dc7e5763c78c66f16472b9d2ca43a1ecaa902fb3f0662ce6a38c199b", func := "loop.example/g00943/laws.FnExactNormOf", spec := "fnExactNormOf", apart := false, narrowed := true }
def FnExactNormOfUptoSaid : Prop := fnExactNormOfUptoRow.holds Try.pinned (OpenSpec.upto fnExactNormOfSpec)

/-- 'laws.FnExactCompareVecs', WHERE WHAT IT READS IS OF BULK AT MOST 1048576: true; the input reads as it did. -/
def fnExactCompareVecsUptoRow : OpenClaim := { program := "ytpkjgcafbkfbgaa", sum := "53771284dc7e5763c78c66f16472b9d2ca43a1ecaa902fb3f0662ce6a38c199b", func := "loop.example/g00943/laws.FnExactCompareVecs", spec := "fnExactCompareVecs", apart := false, narrowed := true }
def FnExactCompareVecsUptoSaid : Prop := fnExactCompareVecsUptoRow.holds Try.pinned (OpenSpec.upto fnExactCompareVecsSpec)

/-- 'laws.FnExactAddVecs', WHERE WHAT IT READS IS OF BULK AT MOST 1048576: true; the input reads as it did. -/
def fnExactAddVecsUptoRow : OpenClaim := { program := "ytpkjgcafbkfbgaa", sum := "53771284dc7e5763c78c66f16472b9d2ca43a1ecaa902fb3f0662ce6a38c199b", func := "loop.example/g00943/laws.FnExactAddVecs", spec := "fnExactAddVecs", apart := false, narrowed := true }
def FnExactAddVecsUptoSaid : Prop := fnExactAddVecsUptoRow.holds Try.pinned (OpenSpec.upto fnExactAddVecsSpec)

/-- 'laws.FnExactPrimitiveVec', WHERE WHAT IT READS IS OF BULK AT MOST 1048576: true; the input reads as it did. -/
def fnExactPrimitiveVecUptoRow : OpenClaim := { program := "ytpkjgcafbkfbgaa", sum := "53771284dc7e5763c78c66f16472b9d2ca43a1ecaa902fb3f0662ce6a38c199b", func := "loop.example/g00943/laws.FnExactPrimitiveVec", spec := "fnExactPrimitiveVec", recurses := true, apart := false, narrowed := true }
def FnExactPrimitiveVecUptoSaid : Prop := fnExactPrimitiveVecUptoRow.holds Try.pinned (OpenSpec.upto fnExactPrimitiveVecSpec)

/-- 'laws.FnExactScaleVec', WHERE WHAT IT READS IS OF BULK AT MOST 1048576: true; the input reads as it did. -/
def fnExactScaleVecUptoRow : OpenClaim := { program := "ytpkjgcafbkfbgaa", sum := "53771284dc7e5763c78c66f16472b9d2ca43a1ecaa902fb3f0662ce6a38c199b", func := "loop.example/g00943/laws.FnExactScaleVec", spec := "fnExactScaleVec", apart := false, narrowed := true }
def FnExactScaleVecUptoSaid : Prop := fnExactScaleVecUptoRow.holds Try.pinned (OpenSpec.upto fnExactScaleVecSpec)

/-- 'laws.FnExactInverseMat', WHERE WHAT IT READS IS OF BULK AT MOST 1048576: true; the input reads as it did. -/
def fnExactInverseMatUptoRow : OpenClaim := { program := "ytpkjgcafbkfbgaa", sum := "53771284dc7e5763c78c66f16472b9d2ca43a1ecaa902fb3f0662ce6a38c199b", func := "loop.example/g00943/laws.FnExactInverseMat", spec := "fnExactInverseMat", apart := false, narrowed := true }
def FnExactInverseMatUptoSaid : Prop := fnExactInverseMatUptoRow.holds Try.pinned (OpenSpec.upto fnExactInverseMatSpec)

/-- 'laws.FnExactIsPointMat', WHERE WHAT IT READS IS OF BULK AT MOST 1048576: true; the input reads as it did. -/
def fnExactIsPointMatUptoRow : OpenClaim := { program := "ytpkjgcafbkfbgaa", sum := "53771284dc7e5763c78c66f16472b9d2ca43a1ecaa902fb3f0662ce6a38c199b", func := "loop.example/g00943/laws.FnExactIsPointMat", spec := "fnExactIsPointMat", apart := false, narrowed := true }
def FnExactIsPointMatUptoSaid : Prop := fnExactIsPointMatUptoRow.holds Try.pinned (OpenSpec.upto fnExactIsPointMatSpec)

/-- 'laws.FnExactMultiplyMats', WHERE WHAT IT READS IS OF BULK AT MOST 1048576: true; the input reads as it did. -/
def fnExactMultiplyMatsUptoRow : OpenClaim := { program := "ytpkjgcafbkfbgaa", sum := "53771284dc7e5763c78c66f16472b9d2ca43a1ecaa902fb3f0662ce6a38c199b", func := "loop.example/g00943/laws.FnExactMultiplyMats", spec := "fnExactMultiplyMats", apart := false, narrowed := true }
def FnExactMultiplyMatsUptoSaid : Prop := fnExactMultiplyMatsUptoRow.holds Try.pinned (OpenSpec.upto fnExactMultiplyMatsSpec)

/-- 'laws.FnExactApplyMat', WHERE WHAT IT READS IS OF BULK AT MOST 1048576: true; the input reads as it did. -/
def fnExactApplyMatUptoRow : OpenClaim := { program := "ytpkjgcafbkfbgaa", sum := "53771284dc7e5763c78c66f16472b9d2ca43a1ecaa902fb3f0662ce6a38c199b", func := "loop.example/g00943/laws.FnExactApplyMat", spec := "fnExactApplyMat", apart := false, narrowed := true }
def FnExactApplyMatUptoSaid : Prop := fnExactApplyMatUptoRow.holds Try.pinned (OpenSpec.upto fnExactApplyMatSpec)

/-- 'laws.FnExactOrderOf', WHERE WHAT IT READS IS OF BULK AT MOST 1048576: true; the input reads as it did. -/
def fnExactOrderOfUptoRow : OpenClaim := { program := "ytpkjgcafbkfbgaa", sum := "53771284dc7e5763c78c66f16472b9d2ca43a1ecaa902fb3f0662ce6a38c199b", func := "loop.example/g00943/laws.FnExactOrderOf", spec := "fnExactOrderOf", apart := false, narrowed := true }
def FnExactOrderOfUptoSaid : Prop := fnExactOrderOfUptoRow.holds Try.pinned (OpenSpec.upto fnExactOrderOfSpec)

/-- 'laws.FnExactIsInLattice', WHERE WHAT IT READS IS OF BULK AT MOST 1048576: true; the input reads as it did. -/
def fnExactIsInLatticeUptoRow : OpenClaim := { program := "ytpkjgcafbkfbgaa", sum := "53771284dc7e5763c78c66f16472b9d2ca43a1ecaa902fb3f0662ce6a38c199b", func := "loop.example/g00943/laws.FnExactIsInLattice", spec := "fnExactIsInLattice", apart := false, narrowed := true }
def FnExactIsInLatticeUptoSaid : Prop := fnExactIsInLatticeUptoRow.holds Try.pinned (OpenSpec.upto fnExactIsInLatticeSpec)

/-- 'laws.FnExactReduceVec', WHERE WHAT IT READS IS OF BULK AT MOST 1048576: true; the input reads as it did. -/
def fnExactReduceVecUptoRow : OpenClaim := { program := "ytpkjgcafbkfbgaa", sum := "53771284dc7e5763c78c66f16472b9d2ca43a1ecaa902fb3f0662ce6a38c199b", func := "loop.example/g00943/laws.FnExactReduceVec", spec := "fnExactReduceVec", apart := false, narrowed := true }
def FnExactReduceVecUptoSaid : Prop := fnExactReduceVecUptoRow.holds Try.pinned (OpenSpec.upto fnExactReduceVecSpec)

end Rows
end Go.Proofs.Ytpkjgcafbkfbgaa
