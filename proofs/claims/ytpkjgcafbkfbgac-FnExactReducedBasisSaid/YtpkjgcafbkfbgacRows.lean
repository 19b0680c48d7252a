/-
  No cell of these rows narrows 'for every input' (looked for: loops, veiled, ifaces, maps, wideKeys, modest, calm, conditions, laid).
  DERIVED. THE GIVEN ROWS OF THIS SEAT. 10 by the template 'for every input the law returns true; each argument reads behind the call as it read before'; 0 by the template 'total and deterministic' (their statements: YtpkjgcafbkfbgacTotals.lean).
  GIVEN WITH THE SEED: the statements are not yours to turn. If you find one false, say at which input.
  Laid BY PROGRAM, IN A SANDBOX (cutbox-rows.mjs): the forced cells as the released guide's own fill.sh prints them over the translation 34f8c76c532bc386… (all of the seat's roots in one cut). By AI agents, Wed Nov 11 2026. No macro, syntax, notation, axiom, sorry.
-/
import Derived.Test.YtpkjgcafbkfbgacChecked
import GoSem.Claim
import GoSem.ClaimJoined
import GoSem.ClaimMapViews
import Derived.JoinedTies
import Derived.KernelRfl
namespace Go.Proofs.Ytpkjgcafbkfbgac
/- THE CELL 'sum', in the pinned program and in every row, IS THE sha256 OF THE DUMP (.gsa) THAT YtpkjgcafbkfbgacProg.lean LOADS. Nothing in Lean hashes anything: it is a label: what it is worth is what the hold of that sum in a sandbox is worth. -/
noncomputable def Try.pinned : Pinned := { name := "ytpkjgcafbkfbgac", sum := "34f8c76c532bc386a863dd002eeec357ca3ab62e3ba685a74128bf5691b8e2ae", checked := Try.checked }
namespace Rows
def none {H : Type} : Left H := { results := [], args := [] }

/-- 'laws.FnExactTwiceGlide': WHATEVER THE INPUT: true; the input reads as it did. -/
def fnExactTwiceGlideSpec : ChangeSpec := { name := "fnExactTwiceGlide", fn := fun _ => fun
  | [d] => { results := [.lit (.bool true)], args := [d] }
  | _ => none }
def fnExactTwiceGlideRow : OpenClaim := { program := "ytpkjgcafbkfbgac", sum := "34f8c76c532bc386a863dd002eeec357ca3ab62e3ba685a74128bf5691b8e2ae", func := "loop.example/g00943/laws.FnExactTwiceGlide", spec := "fnExactTwiceGlide", apart := false }
def FnExactTwiceGlideSaid : Prop := fnExactTwiceGlideRow.holds Try.pinned (OpenSpec.ofChange fnExactTwiceGlideSpec)

/-- ITS FALSE NEIGHBOUR: 'it returns false'. Refute it at one input. -/
def fnExactTwiceGlideWrong : ChangeSpec := { name := "fnExactTwiceGlide", fn := fun _ => fun
  | [d] => { results := [.lit (.bool false)], args := [d] }
  | _ => none }
def FnExactTwiceGlideWrongFalsely : Prop := fnExactTwiceGlideRow.holds Try.pinned (OpenSpec.ofChange fnExactTwiceGlideWrong)

/-- 'laws.FnExactOrderOfMotion': WHATEVER THE INPUT: true; the input reads as it did. -/
def fnExactOrderOfMotionSpec : ChangeSpec := { name := "fnExactOrderOfMotion", fn := fun _ => fun
  | [d] => { results := [.lit (.bool true)], args := [d] }
  | _ => none }
def fnExactOrderOfMotionRow : OpenClaim := { program := "ytpkjgcafbkfbgac", sum := "34f8c76c532bc386a863dd002eeec357ca3ab62e3ba685a74128bf5691b8e2ae", func := "loop.example/g00943/laws.FnExactOrderOfMotion", spec := "fnExactOrderOfMotion", apart := false }
def FnExactOrderOfMotionSaid : Prop := fnExactOrderOfMotionRow.holds Try.pinned (OpenSpec.ofChange fnExactOrderOfMotionSpec)

/-- ITS FALSE NEIGHBOUR: 'it returns false'. Refute it at one input. -/
def fnExactOrderOfMotionWrong : ChangeSpec := { name := "fnExactOrderOfMotion", fn := fun _ => fun
  | [d] => { results := [.lit (.bool false)], args := [d] }
  | _ => none }
def FnExactOrderOfMotionWrongFalsely : Prop := fnExactOrderOfMotionRow.holds Try.pinned (OpenSpec.ofChange fnExactOrderOfMotionWrong)

/-- 'laws.FnExactReducedBasis': WHATEVER THE INPUT: true; the input reads as it did. -/
def fnExactReducedBasisSpec : ChangeSpec := { name := "fnExactReducedBasis", fn := fun _ => fun
  | [d1, d2] => { results := [.lit (.bool true)], args := [d1, d2] }
  | _ => none }
def fnExactReducedBasisRow : OpenClaim := { program := "ytpkjgcafbkfbgac", sum := "34f8c76c532bc386a863dd002eeec357ca3ab62e3ba685a74128bf5691b8e2ae", func := "loop.example/g00943/laws.FnExactReducedBasis", spec := "fnExactReducedBasis", apart := false }
def FnExactReducedBasisSaid : Prop := fnExactReducedBasisRow.holds Try.pinned (OpenSpec.ofChange fnExactReducedBasisSpec)

/-- ITS FALSE NEIGHBOUR: 'it returns false'. Refute it at one input. -/
def fnExactReducedBasisWrong : ChangeSpec := { name := "fnExactReducedBasis", fn := fun _ => fun
  | [d1, d2] => { results := [.lit (.bool false)], args := [d1, d2] }
  | _ => none }
def FnExactReducedBasisWrongFalsely : Prop := fnExactReducedBasisRow.holds Try.pinned (OpenSpec.ofChange fnExactReducedBasisWrong)

/-- 'laws.FnExactAxisOf': WHATEVER THE INPUT: true; the input reads as it did. -/
def fnExactAxisOfSpec : ChangeSpec := { name := "fnExactAxisOf", fn := fun _ => fun
  | [d] => { results := [.lit (.bool true)], args := [d] }
  | _ => none }
def fnExactAxisOfRow : OpenClaim := { program := "ytpkjgcafbkfbgac", sum := "34f8c76c532bc386a863dd002eeec357ca3ab62e3ba685a74128bf5691b8e2ae", func := "loop.example/g00943/laws.FnExactAxisOf", spec := "fnExactAxisOf", recurses := true, apart := false }
def FnExactAxisOfSaid : Prop := fnExactAxisOfRow.holds Try.pinned (OpenSpec.ofChange fnExactAxisOfSpec)

/-- ITS FALSE NEIGHBOUR: 'it returns false'. Refute it at one input. -/
def fnExactAxisOfWrong : ChangeSpec := { name := "fnExactAxisOf", fn := fun _ => fun
  | [d] => { results := [.lit (.bool false)], args := [d] }
  | _ => none }
def FnExactAxisOfWrongFalsely : Prop := fnExactAxisOfRow.holds Try.pinned (OpenSpec.ofChange fnExactAxisOfWrong)

/-- 'laws.FnExactComposeMotions': WHATEVER THE INPUT: true; the input reads as it did. -/
def fnExactComposeMotionsSpec : ChangeSpec := { name := "fnExactComposeMotions", fn := fun _ => fun
  | [d1, d2] => { results := [.lit (.bool true)], args := [d1, d2] }
  | _ => none }
def fnExactComposeMotionsRow : OpenClaim := { program := "ytpkjgcafbkfbgac", sum := "34f8c76c532bc386a863dd002eeec357ca3ab62e3ba685a74128bf5691b8e2ae", func := "loop.example/g00943/laws.FnExactComposeMotions", spec := "fnExactComposeMotions", apart := false }
def FnExactComposeMotionsSaid : Prop := fnExactComposeMotionsRow.holds Try.pinned (OpenSpec.ofChange fnExactComposeMotionsSpec)

/-- ITS FALSE NEIGHBOUR: 'it returns false'. Refute it at one input. -/
def fnExactComposeMotionsWrong : ChangeSpec := { name := "fnExactComposeMotions", fn := fun _ => fun
  | [d1, d2] => { results := [.lit (.bool false)], args := [d1, d2] }
  | _ => none }
def FnExactComposeMotionsWrongFalsely : Prop := fnExactComposeMotionsRow.holds Try.pinned (OpenSpec.ofChange fnExactComposeMotionsWrong)

/-- 'laws.FnExactInverseMotion': WHATEVER THE INPUT: true; the input reads as it did. -/
def fnExactInverseMotionSpec : ChangeSpec := { name := "fnExactInverseMotion", fn := fun _ => fun
  | [d] => { results := [.lit (.bool true)], args := [d] }
  | _ => none }
def fnExactInverseMotionRow : OpenClaim := { program := "ytpkjgcafbkfbgac", sum := "34f8c76c532bc386a863dd002eeec357ca3ab62e3ba685a74128bf5691b8e2ae", func := "loop.example/g00943/laws.FnExactInverseMotion", spec := "fnExactInverseMotion", apart := false }
def FnExactInverseMotionSaid : Prop := fnExactInverseMotionRow.holds Try.pinned (OpenSpec.ofChange fnExactInverseMotionSpec)

/-- ITS FALSE NEIGHBOUR: 'it returns false'. Refute it at one input. -/
def fnExactInverseMotionWrong : ChangeSpec := { name := "fnExactInverseMotion", fn := fun _ => fun
  | [d] => { results := [.lit (.bool false)], args := [d] }
  | _ => none }
def FnExactInverseMotionWrongFalsely : Prop := fnExactInverseMotionRow.holds Try.pinned (OpenSpec.ofChange fnExactInverseMotionWrong)

/-- 'laws.FnExactShortestVecs': WHATEVER THE INPUT: true; the input reads as it did. -/
def fnExactShortestVecsSpec : ChangeSpec := { name := "fnExactShortestVecs", fn := fun _ => fun
  | [d1, d2] => { results := [.lit (.bool true)], args := [d1, d2] }
  | _ => none }
def fnExactShortestVecsRow : OpenClaim := { program := "ytpkjgcafbkfbgac", sum := "34f8c76c532bc386a863dd002eeec357ca3ab62e3ba685a74128bf5691b8e2ae", func := "loop.example/g00943/laws.FnExactShortestVecs", spec := "fnExactShortestVecs", apart := false }
def FnExactShortestVecsSaid : Prop := fnExactShortestVecsRow.holds Try.pinned (OpenSpec.ofChange fnExactShortestVecsSpec)

/-- ITS FALSE NEIGHBOUR: 'it returns false'. Refute it at one input. -/
def fnExactShortestVecsWrong : ChangeSpec := { name := "fnExactShortestVecs", fn := fun _ => fun
  | [d1, d2] => { results := [.lit (.bool false)], args := [d1, d2] }
  | _ => none }
def FnExactShortestVecsWrongFalsely : Prop := fnExactShortestVecsRow.holds Try.pinned (OpenSpec.ofChange fnExactShortestVecsWrong)

/-- 'laws.FnExactCentreOf': WHATEVER THE INPUT: true; the input reads as it did. -/
def fnExactCentreOfSpec : ChangeSpec := { name := "fnExactCentreOf", fn := fun _ => fun
  | [d] => { results := [.lit (.bool true)], args := [d] }
  | _ => none }
def fnExactCentreOfRow : OpenClaim := { program := "ytpkjgcafbkfbgac", sum := "34f8c76c532bc386a863dd002eeec357ca3ab62e3ba685a74128bf5691b8e2ae", func := "loop.example/g00943/laws.FnExactCentreOf", spec := "fnExactCentreOf", recurses := true, apart := false }
def FnExactCentreOfSaid : Prop := fnExactCentreOfRow.holds Try.pinned (OpenSpec.ofChange fnExactCentreOfSpec)

/-- ITS FALSE NEIGHBOUR: 'it returns false'. Refute it at one input. -/
def fnExactCentreOfWrong : ChangeSpec := { name := "fnExactCentreOf", fn := fun _ => fun
  | [d] => { results := [.lit (.bool false)], args := [d] }
  | _ => none }
def FnExactCentreOfWrongFalsely : Prop := fnExactCentreOfRow.holds Try.pinned (OpenSpec.ofChange fnExactCentreOfWrong)

/-- 'laws.FnExactMapLattice': WHATEVER THE INPUT: true; the input reads as it did. -/
def fnExactMapLatticeSpec : ChangeSpec := { name := "fnExactMapLattice", fn := fun _ => fun
  | [d1, d2, d3] => { results := [.lit (.bool true)], args := [d1, d2, d3] }
  | _ => none }
def fnExactMapLatticeRow : OpenClaim := { program := "ytpkjgcafbkfbgac", sum := "34f8c76c532bc386a863dd002eeec357ca3ab62e3ba685a74128bf5691b8e2ae", func := "loop.example/g00943/laws.FnExactMapLattice", spec := "fnExactMapLattice", recurses := true, apart := false }
def FnExactMapLatticeSaid : Prop := fnExactMapLatticeRow.holds Try.pinned (OpenSpec.ofChange fnExactMapLatticeSpec)

/-- ITS FALSE NEIGHBOUR: 'it returns false'. Refute it at one input. -/
def fnExactMapLatticeWrong : ChangeSpec := { name := "fnExactMapLattice", fn := fun _ => fun
  | [d1, d2, d3] => { results := [.lit (.bool false)], args := [d1, d2, d3] }
  | _ => none }
def FnExactMapLatticeWrongFalsely : Prop := fnExactMapLatticeRow.holds Try.pinned (OpenSpec.ofChange fnExactMapLatticeWrong)

/-- 'laws.FnExactLatticeMats': WHATEVER THE INPUT: true; the input reads as it did. -/
def fnExactLatticeMatsSpec : ChangeSpec := { name := "fnExactLatticeMats", fn := fun _ => fun
  | [d1, d2] => { results := [.lit (.bool true)], args := [d1, d2] }
  | _ => none }
def fnExactLatticeMatsRow : OpenClaim := { program := "ytpkjgcafbkfbgac", sum := "34f8c76c532bc386a863dd002eeec357ca3ab62e3ba685a74128bf5691b8e2ae", func := "loop.example/g00943/laws.FnExactLatticeMats", spec := "fnExactLatticeMats", unfollowed := true, recurses := true, apart := false }
def FnExactLatticeMatsSaid : Prop := fnExactLatticeMatsRow.holds Try.pinned (OpenSpec.ofChange fnExactLatticeMatsSpec)

/-- ITS FALSE NEIGHBOUR: 'it returns false'. Refute it at one input. -/
def fnExactLatticeMatsWrong : ChangeSpec := { name := "fnExactLatticeMats", fn := fun _ => fun
  | [d1, d2] => { results := [.lit (.bool false)], args := [d1, d2] }
  | _ => none }
def FnExactLatticeMatsWrongFalsely : Prop := fnExactLatticeMatsRow.holds Try.pinned (OpenSpec.ofChange fnExactLatticeMatsWrong)

/- THE SECOND FORM. 'bulk': how many values and letters a reading holds, each counted each time it is reached (what is shared counts as often as it is met; a slice's spare places count too). A statement '..UptoSaid' is the law's where the arguments, and the package variables that the reading takes, are together of bulk at most 1048576: NARROWER than '..Said'. Prove '..Said' where nothing that the law and all that it calls make is longer than what came in: it says more and counts as full. Else prove '..UptoSaid'. A law counts once. -/
mutual
def uptoBulk {H : Type} : DataW H → Nat
  | .lit (.string bytes) => bytes.length + 1
  | .lit _ => 1
  | .nil => 1
  | .ptr d => uptoBulk d + 1
  | .slice elems spare => uptoBulkAll elems + uptoBulkAll spare + 1
  | .agg parts => uptoBulkAll parts + 1
  | .iface _ d => uptoBulk d + 1
  | .map entries => uptoBulkEntries entries + 1
  | .held _ => 1
def uptoBulkAll {H : Type} : List (DataW H) → Nat
  | [] => 0
  | d :: r => uptoBulk d + uptoBulkAll r
def uptoBulkEntries {H : Type} : List (Lit × DataW H) → Nat
  | [] => 0
  | x :: r => uptoBulkEntry x + uptoBulkEntries r
def uptoBulkEntry {H : Type} : Lit × DataW H → Nat
  | (.string bytes, d) => bytes.length + uptoBulk d + 1
  | (_, d) => uptoBulk d + 1
 end
def uptoSmall : (H : Type) → List (DataW H) → Bool := fun _ ds => decide (uptoBulkAll ds ≤ 1048576)
def OpenSpec.upto (s : _root_.Go.ChangeSpec) : _root_.Go.OpenSpec := { _root_.Go.OpenSpec.ofChange s with cond := some uptoSmall }

/-- 'laws.FnExactTwiceGlide', WHERE WHAT IT READS IS OF BULK AT MOST 1048576: true; the input reads as it did. -/
def fnExactTwiceGlideUptoRow : OpenClaim := { program := "ytpkjgcafbkfbgac", sum := "34f8c76c532bc386a863dd002eeec357ca3ab62e3ba685a74128bf5691b8e2ae", func := "loop.example/g00943/laws.FnExactTwiceGlide", spec := "fnExactTwiceGlide", apart := false, narrowed := true }
def FnExactTwiceGlideUptoSaid : Prop := fnExactTwiceGlideUptoRow.holds Try.pinned (OpenSpec.upto fnExactTwiceGlideSpec)

/-- 'laws.FnExactOrderOfMotion', WHERE WHAT IT READS IS OF BULK AT MOST 1048576: true; the input reads as it did. -/
def fnExactOrderOfMotionUptoRow : OpenClaim := { program := "ytpkjgcafbkfbgac", sum := "34f8c76c532bc386a863dd002eeec357ca3ab62e3ba685a74128bf5691b8e2ae", func := "loop.example/g00943/laws.FnExactOrderOfMotion", spec := "fnExactOrderOfMotion", apart := false, narrowed := true }
def FnExactOrderOfMotionUptoSaid : Prop := fnExactOrderOfMotionUptoRow.holds Try.pinned (OpenSpec.upto fnExactOrderOfMotionSpec)

/-- 'laws.FnExactReducedBasis', WHERE WHAT IT READS IS OF BULK AT MOST 1048576: true; the input reads as it did. -/
def fnExactReducedBasisUptoRow : OpenClaim := { program := "ytpkjgcafbkfbgac", sum := "34f8c76c532bc386a863dd002eeec357ca3ab62e3ba685a74128bf5691b8e2ae", func := "loop.example/g00943/laws.FnExactReducedBasis", spec := "fnExactReducedBasis", apart := false, narrowed := true }
def FnExactReducedBasisUptoSaid : Prop := fnExactReducedBasisUptoRow.holds Try.pinned (OpenSpec.upto fnExactReducedBasisSpec)

/-- 'laws.FnExactAxisOf', WHERE WHAT IT READS IS OF BULK AT MOST 1048576: true; the input reads as it did. -/
def fnExactAxisOfUptoRow : OpenClaim := { program := "ytpkjgcafbkfbgac", sum := "34f8c76c532bc386a863dd002eeec357ca3ab62e3ba685a74128bf5691b8e2ae", func := "loop.example/g00943/laws.FnExactAxisOf", spec := "fnExactAxisOf", recurses := true, apart := false, narrowed := true }
def FnExactAxisOfUptoSaid : Prop := fnExactAxisOfUptoRow.holds Try.pinned (OpenSpec.upto fnExactAxisOfSpec)

/-- 'laws.FnExactComposeMotions', WHERE WHAT IT READS IS OF BULK AT MOST 1048576: true; the input reads as it did. -/
def fnExactComposeMotionsUptoRow : OpenClaim := { program := "ytpkjgcafbkfbgac", sum := "34f8c76c532bc386a863dd002eeec357ca3ab62e3ba685a74128bf5691b8e2ae", func := "loop.example/g00943/laws.FnExactComposeMotions", spec := "fnExactComposeMotions", apart := false, narrowed := true }
def FnExactComposeMotionsUptoSaid : Prop := fnExactComposeMotionsUptoRow.holds Try.pinned (OpenSpec.upto fnExactComposeMotionsSpec)

/-- 'laws.FnExactInverseMotion', WHERE WHAT IT READS IS OF BULK AT MOST 1048576: true; the input reads as it did. -/
def fnExactInverseMotionUptoRow : OpenClaim := { program := "ytpkjgcafbkfbgac", sum := "34f8c76c532bc386a863dd002eeec357ca3ab62e3ba685a74128bf5691b8e2ae", func := "loop.example/g00943/laws.FnExactInverseMotion", spec := "fnExactInverseMotion", apart := false, narrowed := true }
def FnExactInverseMotionUptoSaid : Prop := fnExactInverseMotionUptoRow.holds Try.pinned (OpenSpec.upto fnExactInverseMotionSpec)

/-- 'laws.FnExactShortestVecs', WHERE WHAT IT READS IS OF BULK AT MOST 1048576: true; the input reads as it did. -/
def fnExactShortestVecsUptoRow : OpenClaim := { program := "ytpkjgcafbkfbgac", sum := "34f8c76c532bc386a863dd002eeec357ca3ab62e3ba685a74128bf5691b8e2ae", func := "loop.example/g00943/laws.FnExactShortestVecs", spec := "fnExactShortestVecs", apart := false, narrowed := true }
def FnExactShortestVecsUptoSaid : Prop := fnExactShortestVecsUptoRow.holds Try.pinned (OpenSpec.upto fnExactShortestVecsSpec)

/-- 'laws.FnExactCentreOf', WHERE WHAT IT READS IS OF BULK AT MOST 1048576: true; the input reads as it did. -/
def fnExactCentreOfUptoRow : OpenClaim := { program := "ytpkjgcafbkfbgac", sum := "34f8c76c532bc386a863dd002eeec357ca3ab62e3ba685a74128bf5691b8e2ae", func := "loop.example/g00943/laws.FnExactCentreOf", spec := "fnExactCentreOf", recurses := true, apart := false, narrowed := true }
def FnExactCentreOfUptoSaid : Prop := fnExactCentreOfUptoRow.holds Try.pinned (OpenSpec.upto fnExactCentreOfSpec)

/-- 'laws.FnExactMapLattice', WHERE WHAT IT READS IS OF BULK AT MOST 1048576: true; the input reads as it did. -/
def fnExactMapLatticeUptoRow : OpenClaim := { program := "ytpkjgcafbkfbgac", sum := "34f8c76c532bc386a863dd002eeec357ca3ab62e3ba685a74128bf5691b8e2ae", func := "loop.example/g00943/laws.FnExactMapLattice", spec := "fnExactMapLattice", recurses := true, apart := false, narrowed := true }
def FnExactMapLatticeUptoSaid : Prop := fnExactMapLatticeUptoRow.holds Try.pinned (OpenSpec.upto fnExactMapLatticeSpec)

/-- 'laws.FnExactLatticeMats', WHERE WHAT IT READS IS OF BULK AT MOST 1048576: true; the input reads as it did. -/
def fnExactLatticeMatsUptoRow : OpenClaim := { program := "ytpkjgcafbkfbgac", sum := "34f8c76c532bc386a863dd002eeec357ca3ab62e3ba685a74128bf5691b8e2ae", func := "loop.example/g00943/laws.FnExactLatticeMats", spec := "fnExactLatticeMats", unfollowed := true, recurses := true, apart := false, narrowed := true }
def FnExactLatticeMatsUptoSaid : Prop := fnExactLatticeMatsUptoRow.holds Try.pinned (OpenSpec.upto fnExactLatticeMatsSpec)

end Rows
end Go.Proofs.Ytpkjgcafbkfbgac
