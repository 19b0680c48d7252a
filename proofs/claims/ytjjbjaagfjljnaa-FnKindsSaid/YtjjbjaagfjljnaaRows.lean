/-
  No cell of these rows narrows 'for every input' (looked for: loops, veiled, ifaces, maps, wideKeys, modest, calm, conditions, laid).
  DERIVED. THE GIVEN ROWS OF THIS SEAT. 11 by the template 'for every input the law returns true; each argument reads behind the call as it read before'; 0 by the template 'total and deterministic' (their statements: YtjjbjaagfjljnaaTotals.lean).
  GIVEN WITH THE SEED: the statements are not yours to turn. If you find one false, say at which input.
  Laid BY PROGRAM, IN A SANDBOX (cutbox-rows.mjs): the forced cells as the released guide's own fill.sh prints them over the translation 460771e8def38b55… (all of the seat's roots in one cut). By AI agents, Wed Nov 11 2026. No macro, syntax, notation, axiom, sorry.
-/
import Derived.Test.YtjjbjaagfjljnaaChecked
import GoSem.Claim
import GoSem.ClaimJoined
import GoSem.ClaimMapViews
import Derived.JoinedTies
import Derived.KernelRfl
namespace Go.Proofs.Ytjjbjaagfjljnaa
/- THE CELL 'sum', in the pinned program and in every row, IS THE sha256 OF THE DUMP (.gsa) THAT YtjjbjaagfjljnaaProg.lean LOADS. Nothing in Lean hashes anything: it is a label: what it is worth is what the hold of that sum in a sandbox is worth. -/
noncomputable def Try.pinned : Pinned := { name := "ytjjbjaagfjljnaa", sum := "460771e8def38b55b4e4183ec388bc8b369a22441fec690003b69a887e06085f", checked := Try.checked }
namespace Rows
def none {H : Type} : Left H := { results := [], args := [] }

/-- 'laws.FnDivisors': WHATEVER THE INPUT: true; the input reads as it did. -/
def fnDivisorsSpec : ChangeSpec := { name := "fnDivisors", fn := fun _ => fun
  | [d] => { results := [.lit (.bool true)], args := [d] }
  | _ => none }
def fnDivisorsRow : OpenClaim := { program := "ytjjbjaagfjljnaa", sum := "460771e8def38b55b4e4183ec388bc8b369a22441fec690003b69a887e06085f", func := "loop.example/g00943/laws.FnDivisors", spec := "fnDivisors", recurses := true, apart := false }
def FnDivisorsSaid : Prop := fnDivisorsRow.holds Try.pinned (OpenSpec.ofChange fnDivisorsSpec)

/-- ITS FALSE NEIGHBOUR: 'it returns false'. Refute it at one input. -/
def fnDivisorsWrong : ChangeSpec := { name := "fnDivisors", fn := fun _ => fun
  | [d] => { results := [.lit (.bool false)], args := [d] }
  | _ => none }
def FnDivisorsWrongFalsely : Prop := fnDivisorsRow.holds Try.pinned (OpenSpec.ofChange fnDivisorsWrong)

/-- 'laws.FnVectors': WHATEVER THE INPUT: true; the input reads as it did. -/
def fnVectorsSpec : ChangeSpec := { name := "fnVectors", fn := fun _ => fun
  | [d] => { results := [.lit (.bool true)], args := [d] }
  | _ => none }
def fnVectorsRow : OpenClaim := { program := "ytjjbjaagfjljnaa", sum := "460771e8def38b55b4e4183ec388bc8b369a22441fec690003b69a887e06085f", func := "loop.example/g00943/laws.FnVectors", spec := "fnVectors", apart := false }
def FnVectorsSaid : Prop := fnVectorsRow.holds Try.pinned (OpenSpec.ofChange fnVectorsSpec)

/-- ITS FALSE NEIGHBOUR: 'it returns false'. Refute it at one input. -/
def fnVectorsWrong : ChangeSpec := { name := "fnVectors", fn := fun _ => fun
  | [d] => { results := [.lit (.bool false)], args := [d] }
  | _ => none }
def FnVectorsWrongFalsely : Prop := fnVectorsRow.holds Try.pinned (OpenSpec.ofChange fnVectorsWrong)

/-- 'laws.FnNear': WHATEVER THE INPUT: true; the input reads as it did. -/
def fnNearSpec : ChangeSpec := { name := "fnNear", fn := fun _ => fun
  | [d] => { results := [.lit (.bool true)], args := [d] }
  | _ => none }
def fnNearRow : OpenClaim := { program := "ytjjbjaagfjljnaa", sum := "460771e8def38b55b4e4183ec388bc8b369a22441fec690003b69a887e06085f", func := "loop.example/g00943/laws.FnNear", spec := "fnNear", unfollowed := true, recurses := true, apart := false }
def FnNearSaid : Prop := fnNearRow.holds Try.pinned (OpenSpec.ofChange fnNearSpec)

/-- ITS FALSE NEIGHBOUR: 'it returns false'. Refute it at one input. -/
def fnNearWrong : ChangeSpec := { name := "fnNear", fn := fun _ => fun
  | [d] => { results := [.lit (.bool false)], args := [d] }
  | _ => none }
def FnNearWrongFalsely : Prop := fnNearRow.holds Try.pinned (OpenSpec.ofChange fnNearWrong)

/-- 'laws.FnMatrices': WHATEVER THE INPUT: true; the input reads as it did. -/
def fnMatricesSpec : ChangeSpec := { name := "fnMatrices", fn := fun _ => fun
  | [d] => { results := [.lit (.bool true)], args := [d] }
  | _ => none }
def fnMatricesRow : OpenClaim := { program := "ytjjbjaagfjljnaa", sum := "460771e8def38b55b4e4183ec388bc8b369a22441fec690003b69a887e06085f", func := "loop.example/g00943/laws.FnMatrices", spec := "fnMatrices", apart := false }
def FnMatricesSaid : Prop := fnMatricesRow.holds Try.pinned (OpenSpec.ofChange fnMatricesSpec)

/-- ITS FALSE NEIGHBOUR: 'it returns false'. Refute it at one input. -/
def fnMatricesWrong : ChangeSpec := { name := "fnMatrices", fn := fun _ => fun
  | [d] => { results := [.lit (.bool false)], args := [d] }
  | _ => none }
def FnMatricesWrongFalsely : Prop := fnMatricesRow.holds Try.pinned (OpenSpec.ofChange fnMatricesWrong)

/-- 'laws.FnOrders': WHATEVER THE INPUT: true; the input reads as it did. -/
def fnOrdersSpec : ChangeSpec := { name := "fnOrders", fn := fun _ => fun
  | [d] => { results := [.lit (.bool true)], args := [d] }
  | _ => none }
def fnOrdersRow : OpenClaim := { program := "ytjjbjaagfjljnaa", sum := "460771e8def38b55b4e4183ec388bc8b369a22441fec690003b69a887e06085f", func := "loop.example/g00943/laws.FnOrders", spec := "fnOrders", apart := false }
def FnOrdersSaid : Prop := fnOrdersRow.holds Try.pinned (OpenSpec.ofChange fnOrdersSpec)

/-- ITS FALSE NEIGHBOUR: 'it returns false'. Refute it at one input. -/
def fnOrdersWrong : ChangeSpec := { name := "fnOrders", fn := fun _ => fun
  | [d] => { results := [.lit (.bool false)], args := [d] }
  | _ => none }
def FnOrdersWrongFalsely : Prop := fnOrdersRow.holds Try.pinned (OpenSpec.ofChange fnOrdersWrong)

/-- 'laws.FnJoins': WHATEVER THE INPUT: true; the input reads as it did. -/
def fnJoinsSpec : ChangeSpec := { name := "fnJoins", fn := fun _ => fun
  | [d] => { results := [.lit (.bool true)], args := [d] }
  | _ => none }
def fnJoinsRow : OpenClaim := { program := "ytjjbjaagfjljnaa", sum := "460771e8def38b55b4e4183ec388bc8b369a22441fec690003b69a887e06085f", func := "loop.example/g00943/laws.FnJoins", spec := "fnJoins", recurses := true, apart := false }
def FnJoinsSaid : Prop := fnJoinsRow.holds Try.pinned (OpenSpec.ofChange fnJoinsSpec)

/-- ITS FALSE NEIGHBOUR: 'it returns false'. Refute it at one input. -/
def fnJoinsWrong : ChangeSpec := { name := "fnJoins", fn := fun _ => fun
  | [d] => { results := [.lit (.bool false)], args := [d] }
  | _ => none }
def FnJoinsWrongFalsely : Prop := fnJoinsRow.holds Try.pinned (OpenSpec.ofChange fnJoinsWrong)

/-- 'laws.FnLattices': WHATEVER THE INPUT: true; the input reads as it did. -/
def fnLatticesSpec : ChangeSpec := { name := "fnLattices", fn := fun _ => fun
  | [d] => { results := [.lit (.bool true)], args := [d] }
  | _ => none }
def fnLatticesRow : OpenClaim := { program := "ytjjbjaagfjljnaa", sum := "460771e8def38b55b4e4183ec388bc8b369a22441fec690003b69a887e06085f", func := "loop.example/g00943/laws.FnLattices", spec := "fnLattices", recurses := true, apart := false }
def FnLatticesSaid : Prop := fnLatticesRow.holds Try.pinned (OpenSpec.ofChange fnLatticesSpec)

/-- ITS FALSE NEIGHBOUR: 'it returns false'. Refute it at one input. -/
def fnLatticesWrong : ChangeSpec := { name := "fnLattices", fn := fun _ => fun
  | [d] => { results := [.lit (.bool false)], args := [d] }
  | _ => none }
def FnLatticesWrongFalsely : Prop := fnLatticesRow.holds Try.pinned (OpenSpec.ofChange fnLatticesWrong)

/-- 'laws.FnMotions': WHATEVER THE INPUT: true; the input reads as it did. -/
def fnMotionsSpec : ChangeSpec := { name := "fnMotions", fn := fun _ => fun
  | [d] => { results := [.lit (.bool true)], args := [d] }
  | _ => none }
def fnMotionsRow : OpenClaim := { program := "ytjjbjaagfjljnaa", sum := "460771e8def38b55b4e4183ec388bc8b369a22441fec690003b69a887e06085f", func := "loop.example/g00943/laws.FnMotions", spec := "fnMotions", apart := false }
def FnMotionsSaid : Prop := fnMotionsRow.holds Try.pinned (OpenSpec.ofChange fnMotionsSpec)

/-- ITS FALSE NEIGHBOUR: 'it returns false'. Refute it at one input. -/
def fnMotionsWrong : ChangeSpec := { name := "fnMotions", fn := fun _ => fun
  | [d] => { results := [.lit (.bool false)], args := [d] }
  | _ => none }
def FnMotionsWrongFalsely : Prop := fnMotionsRow.holds Try.pinned (OpenSpec.ofChange fnMotionsWrong)

/-- 'laws.FnKinds': WHATEVER THE INPUT: true; the input reads as it did. -/
def fnKindsSpec : ChangeSpec := { name := "fnKinds", fn := fun _ => fun
  | [d] => { results := [.lit (.bool true)], args := [d] }
  | _ => none }
def fnKindsRow : OpenClaim := { program := "ytjjbjaagfjljnaa", sum := "460771e8def38b55b4e4183ec388bc8b369a22441fec690003b69a887e06085f", func := "loop.example/g00943/laws.FnKinds", spec := "fnKinds", apart := false }
def FnKindsSaid : Prop := fnKindsRow.holds Try.pinned (OpenSpec.ofChange fnKindsSpec)

/-- ITS FALSE NEIGHBOUR: 'it returns false'. Refute it at one input. -/
def fnKindsWrong : ChangeSpec := { name := "fnKinds", fn := fun _ => fun
  | [d] => { results := [.lit (.bool false)], args := [d] }
  | _ => none }
def FnKindsWrongFalsely : Prop := fnKindsRow.holds Try.pinned (OpenSpec.ofChange fnKindsWrong)

/-- 'laws.FnPointMats': WHATEVER THE INPUT: true; the input reads as it did. -/
def fnPointMatsSpec : ChangeSpec := { name := "fnPointMats", fn := fun _ => fun
  | [d] => { results := [.lit (.bool true)], args := [d] }
  | _ => none }
def fnPointMatsRow : OpenClaim := { program := "ytjjbjaagfjljnaa", sum := "460771e8def38b55b4e4183ec388bc8b369a22441fec690003b69a887e06085f", func := "loop.example/g00943/laws.FnPointMats", spec := "fnPointMats", recurses := true, apart := false }
def FnPointMatsSaid : Prop := fnPointMatsRow.holds Try.pinned (OpenSpec.ofChange fnPointMatsSpec)

/-- ITS FALSE NEIGHBOUR: 'it returns false'. Refute it at one input. -/
def fnPointMatsWrong : ChangeSpec := { name := "fnPointMats", fn := fun _ => fun
  | [d] => { results := [.lit (.bool false)], args := [d] }
  | _ => none }
def FnPointMatsWrongFalsely : Prop := fnPointMatsRow.holds Try.pinned (OpenSpec.ofChange fnPointMatsWrong)

/-- 'laws.FnBases': WHATEVER THE INPUT: true; the input reads as it did. -/
def fnBasesSpec : ChangeSpec := { name := "fnBases", fn := fun _ => fun
  | [d] => { results := [.lit (.bool true)], args := [d] }
  | _ => none }
def fnBasesRow : OpenClaim := { program := "ytjjbjaagfjljnaa", sum := "460771e8def38b55b4e4183ec388bc8b369a22441fec690003b69a887e06085f", func := "loop.example/g00943/laws.FnBases", spec := "fnBases", unfollowed := true, recurses := true, apart := false }
def FnBasesSaid : Prop := fnBasesRow.holds Try.pinned (OpenSpec.ofChange fnBasesSpec)

/-- ITS FALSE NEIGHBOUR: 'it returns false'. Refute it at one input. -/
def fnBasesWrong : ChangeSpec := { name := "fnBases", fn := fun _ => fun
  | [d] => { results := [.lit (.bool false)], args := [d] }
  | _ => none }
def FnBasesWrongFalsely : Prop := fnBasesRow.holds Try.pinned (OpenSpec.ofChange fnBasesWrong)

/- THE SECOND FORM. 'bulk': how many values and letters a reading holds, each counted each time it is reached (what is shared counts as often as it is met; a slice's spare places count too). A statement '..UptoSaid' is the law's where the arguments, and the package variables that the reading takes, are together of bulk at most 1048576: NARROWER than '..Said'. Prove '..Said' where nothing that the law and all that it calls make is longer than what came in: it says more and counts as full. Else prove '..UptoSaid'. A law counts once. -/
mutual
def uptoBulk {H : Type} : DataW H → Nat
  | .lit (.string bytes) => bytes.length + 1
  | .lit _ => 1
  | .nil => 1
  | .ptr d => uptoBulk d + 1
  | .slice elems spare => uptoBulkAll elems + uptoBulkAll spare + 1
  | .agg parts => uptoBulkAll parts + 1
  | .iface _ d => uptoBulk d + 1
  | .map entries => uptoBulkEntries entries + 1
  | .held _ => 1
def uptoBulkAll {H : Type} : List (DataW H) → Nat
  | [] => 0
  | d :: r => uptoBulk d + uptoBulkAll r
def uptoBulkEntries {H : Type} : List (Lit × DataW H) → Nat
  | [] => 0
  | x :: r => uptoBulkEntry x + uptoBulkEntries r
def uptoBulkEntry {H : Type} : Lit × DataW H → Nat
  | (.string bytes, d) => bytes.length + uptoBulk d + 1
  | (_, d) => uptoBulk d + 1
 end
def uptoSmall : (H : Type) → List (DataW H) → Bool := fun _ ds => decide (uptoBulkAll ds ≤ 1048576)
def OpenSpec.upto (s : _root_.Go.ChangeSpec) : _root_.Go.OpenSpec := { _root_.Go.OpenSpec.ofChange s with cond := some uptoSmall }

/-- 'laws.FnDivisors', WHERE WHAT IT READS IS OF BULK AT MOST 1048576: true; the input reads as it did. -/
def fnDivisorsUptoRow : OpenClaim := { program := "ytjjbjaagfjljnaa", sum := "460771e8def38b55b4e4183ec388bc8b369a22441fec690003b69a887e06085f", func := "loop.example/g00943/laws.FnDivisors", spec := "fnDivisors", recurses := true, apart := false, narrowed := true }
def FnDivisorsUptoSaid : Prop := fnDivisorsUptoRow.holds Try.pinned (OpenSpec.upto fnDivisorsSpec)

/-- 'laws.FnVectors', WHERE WHAT IT READS IS OF BULK AT MOST 1048576: true; the input reads as it did. -/
def fnVectorsUptoRow : OpenClaim := { program := "ytjjbjaagfjljnaa", sum := "460771e8def38b55b4e4183ec388bc8b369a22441fec690003b69a887e06085f", func := "loop.example/g00943/laws.FnVectors", spec := "fnVectors", apart := false, narrowed := true }
def FnVectorsUptoSaid : Prop := fnVectorsUptoRow.holds Try.pinned (OpenSpec.upto fnVectorsSpec)

/-- 'laws.FnNear', WHERE WHAT IT READS IS OF BULK AT MOST 1048576: true; the input reads as it did. -/
def fnNearUptoRow : OpenClaim := { program := "ytjjbjaagfjljnaa", sum := "460771e8def38b55b4e4183ec388bc8b369a22441fec690003b69a887e06085f", func := "loop.example/g00943/laws.FnNear", spec := "fnNear", unfollowed := true, recurses := true, apart := false, narrowed := true }
def FnNearUptoSaid : Prop := fnNearUptoRow.holds Try.pinned (OpenSpec.upto fnNearSpec)

/-- 'laws.FnMatrices', WHERE WHAT IT READS IS OF BULK AT MOST 1048576: true; the input reads as it did. -/
def fnMatricesUptoRow : OpenClaim := { program := "ytjjbjaagfjljnaa", sum := "460771e8def38b55b4e4183ec388bc8b369a22441fec690003b69a887e06085f", func := "loop.example/g00943/laws.FnMatrices", spec := "fnMatrices", apart := false, narrowed := true }
def FnMatricesUptoSaid : Prop := fnMatricesUptoRow.holds Try.pinned (OpenSpec.upto fnMatricesSpec)

/-- 'laws.FnOrders', WHERE WHAT IT READS IS OF BULK AT MOST 1048576: true; the input reads as it did. -/
def fnOrdersUptoRow : OpenClaim := { program := "ytjjbjaagfjljnaa", sum := "460771e8def38b55b4e4183ec388bc8b369a22441fec690003b69a887e06085f", func := "loop.example/g00943/laws.FnOrders", spec := "fnOrders", apart := false, narrowed := true }
def FnOrdersUptoSaid : Prop := fnOrdersUptoRow.holds Try.pinned (OpenSpec.upto fnOrdersSpec)

/-- 'laws.FnJoins', WHERE WHAT IT READS IS OF BULK AT MOST 1048576: true; the input reads as it did. -/
def fnJoinsUptoRow : OpenClaim := { program := "ytjjbjaagfjljnaa", sum := "460771e8def38b55b4e4183ec388bc8b369a22441fec690003b69a887e06085f", func := "loop.example/g00943/laws.FnJoins", spec := "fnJoins", recurses := true, apart := false, narrowed := true }
def FnJoinsUptoSaid : Prop := fnJoinsUptoRow.holds Try.pinned (OpenSpec.upto fnJoinsSpec)

/-- 'laws.FnLattices', WHERE WHAT IT READS IS OF BULK AT MOST 1048576: true; the input reads as it did. -/
def fnLatticesUptoRow : OpenClaim := { program := "ytjjbjaagfjljnaa", sum := "460771e8def38b55b4e4183ec388bc8b369a22441fec690003b69a887e06085f", func := "loop.example/g00943/laws.FnLattices", spec := "fnLattices", recurses := true, apart := false, narrowed := true }
def FnLatticesUptoSaid : Prop := fnLatticesUptoRow.holds Try.pinned (OpenSpec.upto fnLatticesSpec)

/-- 'laws.FnMotions', WHERE WHAT IT READS IS OF BULK AT MOST 1048576: true; the input reads as it did. -/
def fnMotionsUptoRow : OpenClaim := { program := "ytjjbjaagfjljnaa", sum := "460771e8def38b55b4e4183ec388bc8b369a22441fec690003b69a887e06085f", func := "loop.example/g00943/laws.FnMotions", spec := "fnMotions", apart := false, narrowed := true }
def FnMotionsUptoSaid : Prop := fnMotionsUptoRow.holds Try.pinned (OpenSpec.upto fnMotionsSpec)

/-- 'laws.FnKinds', WHERE WHAT IT READS IS OF BULK AT MOST 1048576: true; the input reads as it did. -/
def fnKindsUptoRow : OpenClaim := { program := "ytjjbjaagfjljnaa", sum := "460771e8def38b55b4e4183ec388bc8b369a22441fec690003b69a887e06085f", func := "loop.example/g00943/laws.FnKinds", spec := "fnKinds", apart := false, narrowed := true }
def FnKindsUptoSaid : Prop := fnKindsUptoRow.holds Try.pinned (OpenSpec.upto fnKindsSpec)

/-- 'laws.FnPointMats', WHERE WHAT IT READS IS OF BULK AT MOST 1048576: true; the input reads as it did. -/
def fnPointMatsUptoRow : OpenClaim := { program := "ytjjbjaagfjljnaa", sum := "460771e8def38b55b4e4183ec388bc8b369a22441fec690003b69a887e06085f", func := "loop.example/g00943/laws.FnPointMats", spec := "fnPointMats", recurses := true, apart := false, narrowed := true }
def FnPointMatsUptoSaid : Prop := fnPointMatsUptoRow.holds Try.pinned (OpenSpec.upto fnPointMatsSpec)

/-- 'laws.FnBases', WHERE WHAT IT READS IS OF BULK AT MOST 1048576: true; the input reads as it did. -/
def fnBasesUptoRow : OpenClaim := { program := "ytjjbjaagfjljnaa", sum := "460771e8def38b55b4e4183ec388bc8b369a22441fec690003b69a887e06085f", func := "loop.example/g00943/laws.FnBases", spec := "fnBases", unfollowed := true, recurses := true, apart := false, narrowed := true }
def FnBasesUptoSaid : Prop := fnBasesUptoRow.holds Try.pinned (OpenSpec.upto fnBasesSpec)

end Rows
end Go.Proofs.Ytjjbjaagfjljnaa
