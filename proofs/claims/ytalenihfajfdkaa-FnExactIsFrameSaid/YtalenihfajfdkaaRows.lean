/-
  No cell of these rows narrows 'for every input' (looked for: loops, veiled, ifaces, maps, wideKeys, modest, calm, conditions, laid).
  DERIVED. THE GIVEN ROWS OF THIS SEAT. 6 by the template 'for every input the law returns true; each argument reads behind the call as it read before'; 0 by the template 'total and deterministic' (their statements: YtalenihfajfdkaaTotals.lean).
  GIVEN WITH THE SEED: the statements are not yours to turn. If you find one false, say at which input.
  Laid BY PROGRAM, IN A SANDBOX (cutbox-rows.mjs): the forced cells as the released guide's own fill.sh prints them over the translation c9da32063afa4f62… (all of the seat's roots in one cut). By AI agents, Wed Nov 11 2026. No macro, syntax, notation, axiom, sorry.
-/
import Derived.Test.YtalenihfajfdkaaChecked
import GoSem.Claim
import GoSem.ClaimJoined
import GoSem.ClaimMapViews
import Derived.JoinedTies
import Derived.KernelRfl
namespace Go.Proofs.Ytalenihfajfdkaa
/- THE CELL 'sum', in the pinned program and in every row, IS THE sha256 OF THE DUMP (.gsa) THAT YtalenihfajfdkaaProg.lean LOADS. Nothing in Lean hashes anything: it is a label: what it is worth is what the hold of that sum in a sandbox is worth. -/
noncomputable def Try.pinned : Pinned := { name := "ytalenihfajfdkaa", sum := "c9da32063afa4f62c8563e54279c05fe1be1b1fa94a3dd1e69ebaf255c1ad6cc", checked := Try.checked }
namespace Rows
def none {H : Type} : Left H := { results := [], args := [] }

/-- 'laws.FnExactConstants': WHATEVER THE INPUT: true; the input reads as it did. -/
def fnExactConstantsSpec : ChangeSpec := { name := "fnExactConstants", fn := fun _ => fun
  | [] => { results := [.lit (.bool true)], args := [] }
  | _ => none }
def fnExactConstantsRow : OpenClaim := { program := "ytalenihfajfdkaa", sum := "c9da32063afa4f62c8563e54279c05fe1be1b1fa94a3dd1e69ebaf255c1ad6cc", func := "loop.example/g00943/laws.FnExactConstants", spec := "fnExactConstants", apart := false }
def FnExactConstantsSaid : Prop := fnExactConstantsRow.holds Try.pinned (OpenSpec.ofChange fnExactConstantsSpec)

/-- ITS FALSE NEIGHBOUR: 'it returns false'. Refute it at one input. -/
def fnExactConstantsWrong : ChangeSpec := { name := "fnExactConstants", fn := fun _ => fun
  | [] => { results := [.lit (.bool false)], args := [] }
  | _ => none }
def FnExactConstantsWrongFalsely : Prop := fnExactConstantsRow.holds Try.pinned (OpenSpec.ofChange fnExactConstantsWrong)

/-- 'laws.FnExactIsFrame': WHATEVER THE INPUT: true; the input reads as it did. -/
def fnExactIsFrameSpec : ChangeSpec := { name := "fnExactIsFrame", fn := fun _ => fun
  | [d] => { results := [.lit (.bool true)], args := [d] }
  | _ => none }
def fnExactIsFrameRow : OpenClaim := { program := "ytalenihfajfdkaa", sum := "c9da32063afa4f62c8563e54279c05fe1be1b1fa94a3dd1e69ebaf255c1ad6cc", func := "loop.example/g00943/laws.FnExactIsFrame", spec := "fnExactIsFrame", apart := false }
def FnExactIsFrameSaid : Prop := fnExactIsFrameRow.holds Try.pinned (OpenSpec.ofChange fnExactIsFrameSpec)

/-- ITS FALSE NEIGHBOUR: 'it returns false'. Refute it at one input. -/
def fnExactIsFrameWrong : ChangeSpec := { name := "fnExactIsFrame", fn := fun _ => fun
  | [d] => { results := [.lit (.bool false)], args := [d] }
  | _ => none }
def FnExactIsFrameWrongFalsely : Prop := fnExactIsFrameRow.holds Try.pinned (OpenSpec.ofChange fnExactIsFrameWrong)

/-- 'laws.FnExactIsVec': WHATEVER THE INPUT: true; the input reads as it did. -/
def fnExactIsVecSpec : ChangeSpec := { name := "fnExactIsVec", fn := fun _ => fun
  | [d] => { results := [.lit (.bool true)], args := [d] }
  | _ => none }
def fnExactIsVecRow : OpenClaim := { program := "ytalenihfajfdkaa", sum := "c9da32063afa4f62c8563e54279c05fe1be1b1fa94a3dd1e69ebaf255c1ad6cc", func := "loop.example/g00943/laws.FnExactIsVec", spec := "fnExactIsVec", apart := false }
def FnExactIsVecSaid : Prop := fnExactIsVecRow.holds Try.pinned (OpenSpec.ofChange fnExactIsVecSpec)

/-- ITS FALSE NEIGHBOUR: 'it returns false'. Refute it at one input. -/
def fnExactIsVecWrong : ChangeSpec := { name := "fnExactIsVec", fn := fun _ => fun
  | [d] => { results := [.lit (.bool false)], args := [d] }
  | _ => none }
def FnExactIsVecWrongFalsely : Prop := fnExactIsVecRow.holds Try.pinned (OpenSpec.ofChange fnExactIsVecWrong)

/-- 'laws.FnExactIsLattice': WHATEVER THE INPUT: true; the input reads as it did. -/
def fnExactIsLatticeSpec : ChangeSpec := { name := "fnExactIsLattice", fn := fun _ => fun
  | [d] => { results := [.lit (.bool true)], args := [d] }
  | _ => none }
def fnExactIsLatticeRow : OpenClaim := { program := "ytalenihfajfdkaa", sum := "c9da32063afa4f62c8563e54279c05fe1be1b1fa94a3dd1e69ebaf255c1ad6cc", func := "loop.example/g00943/laws.FnExactIsLattice", spec := "fnExactIsLattice", apart := false }
def FnExactIsLatticeSaid : Prop := fnExactIsLatticeRow.holds Try.pinned (OpenSpec.ofChange fnExactIsLatticeSpec)

/-- ITS FALSE NEIGHBOUR: 'it returns false'. Refute it at one input. -/
def fnExactIsLatticeWrong : ChangeSpec := { name := "fnExactIsLattice", fn := fun _ => fun
  | [d] => { results := [.lit (.bool false)], args := [d] }
  | _ => none }
def FnExactIsLatticeWrongFalsely : Prop := fnExactIsLatticeRow.holds Try.pinned (OpenSpec.ofChange fnExactIsLatticeWrong)

/-- 'laws.FnExactDivisorOf': WHATEVER THE INPUT: true; the input reads as it did. -/
def fnExactDivisorOfSpec : ChangeSpec := { name := "fnExactDivisorOf", fn := fun _ => fun
  | [d1, d2] => { results := [.lit (.bool true)], args := [d1, d2] }
  | _ => none }
def fnExactDivisorOfRow : OpenClaim := { program := "ytalenihfajfdkaa", sum := "c9da32063afa4f62c8563e54279c05fe1be1b1fa94a3dd1e69ebaf255c1ad6cc", func := "loop.example/g00943/laws.FnExactDivisorOf", spec := "fnExactDivisorOf", recurses := true, apart := false }
def FnExactDivisorOfSaid : Prop := fnExactDivisorOfRow.holds Try.pinned (OpenSpec.ofChange fnExactDivisorOfSpec)

/-- ITS FALSE NEIGHBOUR: 'it returns false'. Refute it at one input. -/
def fnExactDivisorOfWrong : ChangeSpec := { name := "fnExactDivisorOf", fn := fun _ => fun
  | [d1, d2] => { results := [.lit (.bool false)], args := [d1, d2] }
  | _ => none }
def FnExactDivisorOfWrongFalsely : Prop := fnExactDivisorOfRow.holds Try.pinned (OpenSpec.ofChange fnExactDivisorOfWrong)

/-- 'laws.FnExactIsMat': WHATEVER THE INPUT: true; the input reads as it did. -/
def fnExactIsMatSpec : ChangeSpec := { name := "fnExactIsMat", fn := fun _ => fun
  | [d] => { results := [.lit (.bool true)], args := [d] }
  | _ => none }
def fnExactIsMatRow : OpenClaim := { program := "ytalenihfajfdkaa", sum := "c9da32063afa4f62c8563e54279c05fe1be1b1fa94a3dd1e69ebaf255c1ad6cc", func := "loop.example/g00943/laws.FnExactIsMat", spec := "fnExactIsMat", apart := false }
def FnExactIsMatSaid : Prop := fnExactIsMatRow.holds Try.pinned (OpenSpec.ofChange fnExactIsMatSpec)

/-- ITS FALSE NEIGHBOUR: 'it returns false'. Refute it at one input. -/
def fnExactIsMatWrong : ChangeSpec := { name := "fnExactIsMat", fn := fun _ => fun
  | [d] => { results := [.lit (.bool false)], args := [d] }
  | _ => none }
def FnExactIsMatWrongFalsely : Prop := fnExactIsMatRow.holds Try.pinned (OpenSpec.ofChange fnExactIsMatWrong)

/- THE SECOND FORM. 'bulk': how many values and letters a reading holds, each counted each time it is reached (what is shared counts as often as it is met; a slice's spare places count too). A statement '..UptoSaid' is the law's where the arguments, and the package variables that the reading takes, are together of bulk at most 1048576: NARROWER than '..Said'. Prove '..Said' where nothing that the law and all that it calls make is longer than what came in: it says more and counts as full. Else prove '..UptoSaid'. A law counts once. -/
mutual
def uptoBulk {H : Type} : DataW H → Nat
  | .lit (.string bytes) => bytes.length + 1
  | .lit _ => 1
  | .nil => 1
  | .ptr d => uptoBulk d + 1
  | .slice elems spare => uptoBulkAll elems + uptoBulkAll spare + 1
  | .agg parts => uptoBulkAll parts + 1
  | .iface _ d => uptoBulk d + 1
  | .map entries => uptoBulkEntries entries + 1
  | .held _ => 1
def uptoBulkAll {H : Type} : List (DataW H) → Nat
  | [] => 0
  | d :: r => uptoBulk d + uptoBulkAll r
def uptoBulkEntries {H : Type} : List (Lit × DataW H) → Nat
  | [] => 0
  | x :: r => uptoBulkEntry x + uptoBulkEntries r
def uptoBulkEntry {H : Type} : Lit × DataW H → Nat
  | (.string bytes, d) => bytes.length + uptoBulk d + 1
  | (_, d) => uptoBulk d + 1
 end
def uptoSmall : (H : Type) → List (DataW H) → Bool := fun _ ds => decide (uptoBulkAll ds ≤ 1048576)
def OpenSpec.upto (s : _root_.Go.ChangeSpec) : _root_.Go.OpenSpec := { _root_.Go.OpenSpec.ofChange s with cond := some uptoSmall }

/-- 'laws.FnExactConstants', WHERE WHAT IT READS IS OF BULK AT MOST 1048576: true; the input reads as it did. -/
def fnExactConstantsUptoRow : OpenClaim := { program := "ytalenihfajfdkaa", sum := "c9da32063afa4f62c8563e54279c05fe1be1b1fa94a3dd1e69ebaf255c1ad6cc", func := "loop.example/g00943/laws.FnExactConstants", spec := "fnExactConstants", apart := false, narrowed := true }
def FnExactConstantsUptoSaid : Prop := fnExactConstantsUptoRow.holds Try.pinned (OpenSpec.upto fnExactConstantsSpec)

/-- 'laws.FnExactIsFrame', WHERE WHAT IT READS IS OF BULK AT MOST 1048576: true; the input reads as it did. -/
def fnExactIsFrameUptoRow : OpenClaim := { program := "ytalenihfajfdkaa", sum := "c9da32063afa4f62c8563e54279c05fe1be1b1fa94a3dd1e69ebaf255c1ad6cc", func := "loop.example/g00943/laws.FnExactIsFrame", spec := "fnExactIsFrame", apart := false, narrowed := true }
def FnExactIsFrameUptoSaid : Prop := fnExactIsFrameUptoRow.holds Try.pinned (OpenSpec.upto fnExactIsFrameSpec)

/-- 'laws.FnExactIsVec', WHERE WHAT IT READS IS OF BULK AT MOST 1048576: true; the input reads as it did. -/
def fnExactIsVecUptoRow : OpenClaim := { program := "ytalenihfajfdkaa", sum := "c9da32063afa4f62c8563e54279c05fe1be1b1fa94a3dd1e69ebaf255c1ad6cc", func := "loop.example/g00943/laws.FnExactIsVec", spec := "fnExactIsVec", apart := false, narrowed := true }
def FnExactIsVecUptoSaid : Prop := fnExactIsVecUptoRow.holds Try.pinned (OpenSpec.upto fnExactIsVecSpec)

/-- 'laws.FnExactIsLattice', WHERE WHAT IT READS IS OF BULK AT MOST 1048576: true; the input reads as it did. -/
def fnExactIsLatticeUptoRow : OpenClaim := { program := "ytalenihfajfdkaa", sum := "c9da32063afa4f62c8563e54279c05fe1be1b1fa94a3dd1e69ebaf255c1ad6cc", func := "loop.example/g00943/laws.FnExactIsLattice", spec := "fnExactIsLattice", apart := false, narrowed := true }
def FnExactIsLatticeUptoSaid : Prop := fnExactIsLatticeUptoRow.holds Try.pinned (OpenSpec.upto fnExactIsLatticeSpec)

/-- 'laws.FnExactDivisorOf', WHERE WHAT IT READS IS OF BULK AT MOST 1048576: true; the input reads as it did. -/
def fnExactDivisorOfUptoRow : OpenClaim := { program := "ytalenihfajfdkaa", sum := "c9da32063afa4f62c8563e54279c05fe1be1b1fa94a3dd1e69ebaf255c1ad6cc", func := "loop.example/g00943/laws.FnExactDivisorOf", spec := "fnExactDivisorOf", recurses := true, apart := false, narrowed := true }
def FnExactDivisorOfUptoSaid : Prop := fnExactDivisorOfUptoRow.holds Try.pinned (OpenSpec.upto fnExactDivisorOfSpec)

/-- 'laws.FnExactIsMat', WHERE WHAT IT READS IS OF BULK AT MOST 1048576: true; the input reads as it did. -/
def fnExactIsMatUptoRow : OpenClaim := { program := "ytalenihfajfdkaa", sum := "c9da32063afa4f62c8563e54279c05fe1be1b1fa94a3dd1e69ebaf255c1ad6cc", func := "loop.example/g00943/laws.FnExactIsMat", spec := "fnExactIsMat", apart := false, narrowed := true }
def FnExactIsMatUptoSaid : Prop := fnExactIsMatUptoRow.holds Try.pinned (OpenSpec.upto fnExactIsMatSpec)

end Rows
end Go.Proofs.Ytalenihfajfdkaa
