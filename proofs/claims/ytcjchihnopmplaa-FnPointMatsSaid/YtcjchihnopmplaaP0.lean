import Derived.Test.YtcjchihnopmplaaProg
import Derived.Below
import Derived.Deep.Draws
import Derived.Deep.AppendLies
import Derived.Maps.AppendAt
import Derived.OwnWalk
import Derived.Laws.BytesArg
import Derived.Laws.MakeOwn
import Derived.Laws.OwnMore
import Derived.Deep.OwnRows
import Derived.Tactics
import Derived.Lib.ConvBytes
import Derived.Laws.Slices
import Derived.WalkKit
import Derived.KernelRfl
import Derived.RowKit3
import Derived.Deep.LoopGhost
import Derived.Deep.QuietTactic
import Derived.BigQuiet
import Derived.WideLaws
import Derived.Deep.DeepCutAuto
import Derived.Deep.CutBlock
import Derived.Deep.RegionHeld3
import Derived.Laws.Rows
import Derived.Lib.AppendStr
import Derived.ArgAppend
import Derived.Laws.IdiomCopy
import Derived.OrdersHeld
import Derived.Laws.BitsLemmas
import Derived.RowKit
import Derived.Test.YtcjchihnopmplaaWWords
import Derived.Test.YtcjchihnopmplaaWLast
import Derived.Test.YtcjchihnopmplaaWTab
import Derived.Test.YtcjchihnopmplaaWFour
import Derived.Test.YtcjchihnopmplaaWQPut
import Derived.Test.YtcjchihnopmplaaWApart
import Derived.Test.YtcjchihnopmplaaWArr
import Derived.Test.YtcjchihnopmplaaWZeros
import Derived.Test.YtcjchihnopmplaaWFoot
import Derived.Test.YtcjchihnopmplaaWKept
import Derived.Test.YtcjchihnopmplaaWShare
import Derived.Test.YtcjchihnopmplaaWN
import Derived.Test.YtcjchihnopmplaaWFootNe
import Derived.Test.YtcjchihnopmplaaWAt
import Derived.Test.YtcjchihnopmplaaWEqStruct
import Derived.Test.YtcjchihnopmplaaWRepsOne
import Derived.Test.YtcjchihnopmplaaWInv
import Derived.Test.YtcjchihnopmplaaWInvWords
import Derived.Test.YtcjchihnopmplaaWGuard
import Derived.Test.YtcjchihnopmplaaWNEv
import Derived.Test.YtcjchihnopmplaaWMore
namespace Go.Proofs.Ytcjchihnopmplaa.F
open Go.RowKit Go.Proofs.YtcjchihnopmplaaW.PrintWords Go.Proofs.YtcjchihnopmplaaW.PrintLast Go.Proofs.YtcjchihnopmplaaW.PrintMore
attribute [local go_sem] max2_int min2_int max_two min_two max_three min_three max_four min_four   -- for this text's walks alone
set_option linter.unusedVariables false
set_option linter.unusedSimpArgs false



def errW : Option Int → Value
  | none => .nilIface
  | some c => .iface 0 (.int .i64 c)
theorem errW_none : errW none = .nilIface := rfl
theorem errW_some (c : Int) : errW (some c) = .iface 0 (.int .i64 c) := rfl

theorem info2 : (Try.prog.info? 2).map (fun i => (i.zero, i.size, i.bytes)) = some (some (.int .i64 0), 1, 8) := by kernel_rfl
theorem info47 : (Try.prog.info? 47).map (fun i => (i.zero, i.size, i.bytes)) = some (some (.agg #[(.int .i64 0), (.int .i64 0)]), 2, 16) := by kernel_rfl
theorem info51 : (Try.prog.info? 51).map (fun i => (i.zero, i.size, i.bytes)) = some (some (.agg #[(.int .i64 0), (.int .i64 0), (.int .i64 0), (.int .i64 0)]), 4, 32) := by kernel_rfl
-- the values' own types
/-! #### struct type 51 -/
structure S51 where
  f0 : Int
  f1 : Int
  f2 : Int
  f3 : Int
def z51 : S51 := ⟨(0 : Int), (0 : Int), (0 : Int), (0 : Int)⟩
def k51 : Kd S51 := Kd.iso (Kd.pair (Kd.int .i64) (Kd.pair (Kd.int .i64) (Kd.pair (Kd.int .i64) (Kd.int .i64)))) (fun x : S51 => (x.f0, x.f1, x.f2, x.f3))
theorem k51_open {w : World} {x : S51} {cs : List Value} (h : k51.K w x cs) : cs = [.int .i64 x.f0, .int .i64 x.f1, .int .i64 x.f2, .int .i64 x.f3] := by
  obtain ⟨_, _, rfl, rfl, ⟨_, _, rfl, rfl, ⟨_, _, rfl, rfl, rfl⟩⟩⟩ := h
  exact rfl
theorem k51_openM {w : World} {base : Nat} {ok : Nat → Prop} {x : S51} {cs : List Value} (h : k51.M w base ok x cs) : cs = [.int .i64 x.f0, .int .i64 x.f1, .int .i64 x.f2, .int .i64 x.f3] := by
  obtain ⟨_, _, rfl, rfl, ⟨_, _, rfl, rfl, ⟨_, _, rfl, rfl, rfl⟩⟩⟩ := h
  exact rfl
theorem k51_mk (w : World) (x : S51)  : k51.K w x [.int .i64 x.f0, .int .i64 x.f1, .int .i64 x.f2, .int .i64 x.f3] := ⟨[.int .i64 x.f0], [.int .i64 x.f1, .int .i64 x.f2, .int .i64 x.f3], rfl, rfl, ⟨[.int .i64 x.f1], [.int .i64 x.f2, .int .i64 x.f3], rfl, rfl, ⟨[.int .i64 x.f2], [.int .i64 x.f3], rfl, rfl, rfl⟩⟩⟩
theorem k51_mkM (w : World) (base : Nat) (ok : Nat → Prop) (x : S51)  : k51.M w base ok x [.int .i64 x.f0, .int .i64 x.f1, .int .i64 x.f2, .int .i64 x.f3] := ⟨[.int .i64 x.f0], [.int .i64 x.f1, .int .i64 x.f2, .int .i64 x.f3], rfl, rfl, ⟨[.int .i64 x.f1], [.int .i64 x.f2, .int .i64 x.f3], rfl, rfl, ⟨[.int .i64 x.f2], [.int .i64 x.f3], rfl, rfl, rfl⟩⟩⟩
def rd_T51 (xs : List S51) (i : Int) : S51 := xs.getD i.toNat z51
theorem at_T51 {w : World} {A : Option Addr} {n : Nat} {xs : List S51} (h : Kd.C k51 w A n xs) (i : Int) (h0 : 0 ≤ i) (h1 : i < n) : ∃ ad , A = some ad ∧ w.cell? (ad.add (i.toNat * 4)) = some (.int .i64 (rd_T51 xs i).f0) ∧ w.cell? ⟨(ad.add (i.toNat * 4)).block, (ad.add (i.toNat * 4)).off + 1, none⟩ = some (.int .i64 (rd_T51 xs i).f1) ∧ w.cell? ⟨(ad.add (i.toNat * 4)).block, (ad.add (i.toNat * 4)).off + 2, none⟩ = some (.int .i64 (rd_T51 xs i).f2) ∧ w.cell? ⟨(ad.add (i.toNat * 4)).block, (ad.add (i.toNat * 4)).off + 3, none⟩ = some (.int .i64 (rd_T51 xs i).f3) := by
  obtain ⟨ad, c, e, _, hK, hc0⟩ := Kd.C_get h z51 i h0 h1
  have hc : ∀ j u, c[j]? = some u → w.cell? (ad.add (i.toNat * 4 + j)) = some u := hc0
  obtain rfl := k51_open hK
  exact ⟨ad, e, hc 0 _ rfl, by rw [← add_field _ _ 1 (by omega)]; exact hc 1 _ rfl, by rw [← add_field _ _ 2 (by omega)]; exact hc 2 _ rfl, by rw [← add_field _ _ 3 (by omega)]; exact hc 3 _ rfl⟩

/-! #### struct type 47 -/
structure S47 where
  f0 : Int
  f1 : Int
def z47 : S47 := ⟨(0 : Int), (0 : Int)⟩
def k47 : Kd S47 := Kd.iso (Kd.pair (Kd.int .i64) (Kd.int .i64)) (fun x : S47 => (x.f0, x.f1))
theorem k47_open {w : World} {x : S47} {cs : List Value} (h : k47.K w x cs) : cs = [.int .i64 x.f0, .int .i64 x.f1] := by
  obtain ⟨_, _, rfl, rfl, rfl⟩ := h
  exact rfl
theorem k47_openM {w : World} {base : Nat} {ok : Nat → Prop} {x : S47} {cs : List Value} (h : k47.M w base ok x cs) : cs = [.int .i64 x.f0, .int .i64 x.f1] := by
  obtain ⟨_, _, rfl, rfl, rfl⟩ := h
  exact rfl
theorem k47_mk (w : World) (x : S47)  : k47.K w x [.int .i64 x.f0, .int .i64 x.f1] := ⟨[.int .i64 x.f0], [.int .i64 x.f1], rfl, rfl, rfl⟩
theorem k47_mkM (w : World) (base : Nat) (ok : Nat → Prop) (x : S47)  : k47.M w base ok x [.int .i64 x.f0, .int .i64 x.f1] := ⟨[.int .i64 x.f0], [.int .i64 x.f1], rfl, rfl, rfl⟩
def rd_T47 (xs : List S47) (i : Int) : S47 := xs.getD i.toNat z47
theorem at_T47 {w : World} {A : Option Addr} {n : Nat} {xs : List S47} (h : Kd.C k47 w A n xs) (i : Int) (h0 : 0 ≤ i) (h1 : i < n) : ∃ ad , A = some ad ∧ w.cell? (ad.add (i.toNat * 2)) = some (.int .i64 (rd_T47 xs i).f0) ∧ w.cell? ⟨(ad.add (i.toNat * 2)).block, (ad.add (i.toNat * 2)).off + 1, none⟩ = some (.int .i64 (rd_T47 xs i).f1) := by
  obtain ⟨ad, c, e, _, hK, hc0⟩ := Kd.C_get h z47 i h0 h1
  have hc : ∀ j u, c[j]? = some u → w.cell? (ad.add (i.toNat * 2 + j)) = some u := hc0
  obtain rfl := k47_open hK
  exact ⟨ad, e, hc 0 _ rfl, by rw [← add_field _ _ 1 (by omega)]; exact hc 1 _ rfl⟩

theorem eqA33 (d : Nat) (w : World) (x0 y0 : Int) (x1 y1 : Int) (x2 y2 : Int) :
    (Op.equalIn (d + 2) 33 (.agg #[.int .i64 x0, .int .i64 x1, .int .i64 x2]) (.agg #[.int .i64 y0, .int .i64 y1, .int .i64 y2])).run Try.prog w = .ok (x0 == y0 && (x1 == y1 && (x2 == y2))) w := by
  refine eqA_of Try.underlying33 (by kernel_rfl) ?_
  refine eqf_cons (by rfl) (by go_simp; rfl) (by go_simp; rfl) (by go_simp) ?_
  refine eqf_cons (by rfl) (by go_simp; rfl) (by go_simp; rfl) (by go_simp) ?_
  exact eqf_last (by rfl) (by go_simp; rfl) (by go_simp; rfl) (by go_simp)
theorem eqA47 (d : Nat) (w : World) (x0 y0 : Int) (x1 y1 : Int) :
    (Op.equalIn (d + 2) 47 (.agg #[.int .i64 x0, .int .i64 x1]) (.agg #[.int .i64 y0, .int .i64 y1])).run Try.prog w = .ok (x0 == y0 && (x1 == y1)) w := by
  refine eqA_of Try.underlying47 (by kernel_rfl) ?_
  refine eqf_cons (by rfl) (by go_simp; rfl) (by go_simp; rfl) (by go_simp) ?_
  exact eqf_last (by rfl) (by go_simp; rfl) (by go_simp; rfl) (by go_simp)
theorem eqA51 (d : Nat) (w : World) (x0 y0 : Int) (x1 y1 : Int) (x2 y2 : Int) (x3 y3 : Int) :
    (Op.equalIn (d + 2) 51 (.agg #[.int .i64 x0, .int .i64 x1, .int .i64 x2, .int .i64 x3]) (.agg #[.int .i64 y0, .int .i64 y1, .int .i64 y2, .int .i64 y3])).run Try.prog w = .ok (x0 == y0 && (x1 == y1 && (x2 == y2 && (x3 == y3)))) w := by
  refine eqA_of Try.underlying51 (by kernel_rfl) ?_
  refine eqf_cons (by rfl) (by go_simp; rfl) (by go_simp; rfl) (by go_simp) ?_
  refine eqf_cons (by rfl) (by go_simp; rfl) (by go_simp; rfl) (by go_simp) ?_
  refine eqf_cons (by rfl) (by go_simp; rfl) (by go_simp; rfl) (by go_simp) ?_
  exact eqf_last (by rfl) (by go_simp; rfl) (by go_simp; rfl) (by go_simp)
-- NOT PRINTED: function 154 (impl_Mat_154)

-- NOT PRINTED: function 134 (impl_Mat_134)


set_option linter.defProp false
def bA := @below_alloc
def bN := @pw_below_drewN
def b1 := @below_drew1
def kN := @blk_drewN
def kD := @blk_drew
def kA := @blk_alloc
def eS := @KeepBut.set_
def eN := @keep_drewN
def eD := @keep_drew
def eA := @keep_alloc

def aM := @Aside0.mk

theorem bB {g : Nat} {o : Obj} {w W w' : World} (BK : Aside0 (w.heap[g]? = some o)) (hb : Below W.heap.size W w')
    (h : w.heap[g]? = some o → W.heap[g]? = some o := by intro h_; (with_reducible repeat (first|apply kN|apply kD|apply kA)); exact h_) : Aside0 (w'.heap[g]? = some o) := aM (blk_below (g := g) (o := o) (h BK.out) hb)
theorem nL {g gb : Nat} {o : Obj} {w W : World} (hg : gb = W.heap.size) (BK : Aside0 (w.heap[g]? = some o))
    (h : w.heap[g]? = some o → W.heap[g]? = some o := by intro h_; (with_reducible repeat (first|apply kN|apply kD|apply kA)); exact h_) : Aside0 (g ≠ gb) := aM (by rw [hg]; exact Nat.ne_of_lt (blk_lt (g := g) (o := o) (h BK.out)))
theorem nG {g gb : Nat} {o : Obj} {w W : World} (hg : gb = W.heap.size) (BK : Aside0 (w.heap[g]? = some o))
    (h : w.heap[g]? = some o → W.heap[g]? = some o := by intro h_; (with_reducible repeat (first|apply kN|apply kD|apply kA)); exact h_) : Aside0 (gb ≠ g) := aM (by rw [hg]; exact Nat.ne_of_gt (blk_lt (g := g) (o := o) (h BK.out)))
theorem bS {w W0 W w' : World} (HB : Aside0 (Below w.heap.size w W0)) (hb : Below W.heap.size W w')
    (h : Below w.heap.size w W0 → Below w.heap.size w W := by intro h_; repeat (first | (with_reducible first | exact h_ | apply bA|apply bN|apply b1 | refine below_set ?_ (Aside0.out (by assumption))) | exact h_)) : Aside0 (Below w.heap.size w w') := aM (below_step (h HB.out) hb)
theorem bZ {gb : Nat} {w W0 W : World} (hg : gb = W.heap.size) (HB : Aside0 (Below w.heap.size w W0))
    (h : Below w.heap.size w W0 → Below w.heap.size w W := by intro h_; repeat (first | (with_reducible first | exact h_ | apply bA|apply bN|apply b1 | refine below_set ?_ (Aside0.out (by assumption))) | exact h_)) : Aside0 (w.heap.size ≤ gb) := aM (by rw [hg]; exact below_size (h HB.out))
theorem z2 {g : Nat} {a b : Value} {t : TypeId} {w : World} (BK : Aside0 (w.heap[g]? = some (.cells #[a, b] t (0, 0)))) : w.cell? ⟨g, 0, none⟩ = some a ∧ w.cell? ⟨g, 1, none⟩ = some b :=
  ⟨(blk_cell BK.out 0).trans rfl, (blk_cell BK.out 1).trans rfl⟩
theorem y2 {g : Nat} {cs : Array Value} {t : TypeId} {w : World} (BK : Aside0 (w.heap[g]? = some (.cells cs t (0, 0)))) : w.frozen? ⟨g, 0, none⟩ = false ∧ w.frozen? ⟨g, 1, none⟩ = false :=
  ⟨blk_frozen BK.out 0, blk_frozen BK.out 1⟩
theorem z3 {g : Nat} {a b c : Value} {t : TypeId} {w : World} (BK : Aside0 (w.heap[g]? = some (.cells #[a, b, c] t (0, 0)))) : w.cell? ⟨g, 0, none⟩ = some a ∧ w.cell? ⟨g, 1, none⟩ = some b ∧ w.cell? ⟨g, 2, none⟩ = some c :=
  ⟨(blk_cell BK.out 0).trans rfl, (blk_cell BK.out 1).trans rfl, (blk_cell BK.out 2).trans rfl⟩
theorem y3 {g : Nat} {cs : Array Value} {t : TypeId} {w : World} (BK : Aside0 (w.heap[g]? = some (.cells cs t (0, 0)))) : w.frozen? ⟨g, 0, none⟩ = false ∧ w.frozen? ⟨g, 1, none⟩ = false ∧ w.frozen? ⟨g, 2, none⟩ = false :=
  ⟨blk_frozen BK.out 0, blk_frozen BK.out 1, blk_frozen BK.out 2⟩
theorem z4 {g : Nat} {a b c d : Value} {t : TypeId} {w : World} (BK : Aside0 (w.heap[g]? = some (.cells #[a, b, c, d] t (0, 0)))) : w.cell? ⟨g, 0, none⟩ = some a ∧ w.cell? ⟨g, 1, none⟩ = some b ∧ w.cell? ⟨g, 2, none⟩ = some c ∧ w.cell? ⟨g, 3, none⟩ = some d :=
  ⟨(blk_cell BK.out 0).trans rfl, (blk_cell BK.out 1).trans rfl, (blk_cell BK.out 2).trans rfl, (blk_cell BK.out 3).trans rfl⟩
theorem y4 {g : Nat} {cs : Array Value} {t : TypeId} {w : World} (BK : Aside0 (w.heap[g]? = some (.cells cs t (0, 0)))) : w.frozen? ⟨g, 0, none⟩ = false ∧ w.frozen? ⟨g, 1, none⟩ = false ∧ w.frozen? ⟨g, 2, none⟩ = false ∧ w.frozen? ⟨g, 3, none⟩ = false :=
  ⟨blk_frozen BK.out 0, blk_frozen BK.out 1, blk_frozen BK.out 2, blk_frozen BK.out 3⟩
theorem z6 {g : Nat} {a b c d e f : Value} {t : TypeId} {w : World} (BK : Aside0 (w.heap[g]? = some (.cells #[a, b, c, d, e, f] t (0, 0)))) : w.cell? ⟨g, 0, none⟩ = some a ∧ w.cell? ⟨g, 1, none⟩ = some b ∧ w.cell? ⟨g, 2, none⟩ = some c ∧ w.cell? ⟨g, 3, none⟩ = some d ∧ w.cell? ⟨g, 4, none⟩ = some e ∧ w.cell? ⟨g, 5, none⟩ = some f :=
  ⟨(blk_cell BK.out 0).trans rfl, (blk_cell BK.out 1).trans rfl, (blk_cell BK.out 2).trans rfl, (blk_cell BK.out 3).trans rfl, (blk_cell BK.out 4).trans rfl, (blk_cell BK.out 5).trans rfl⟩
theorem y6 {g : Nat} {cs : Array Value} {t : TypeId} {w : World} (BK : Aside0 (w.heap[g]? = some (.cells cs t (0, 0)))) : w.frozen? ⟨g, 0, none⟩ = false ∧ w.frozen? ⟨g, 1, none⟩ = false ∧ w.frozen? ⟨g, 2, none⟩ = false ∧ w.frozen? ⟨g, 3, none⟩ = false ∧ w.frozen? ⟨g, 4, none⟩ = false ∧ w.frozen? ⟨g, 5, none⟩ = false :=
  ⟨blk_frozen BK.out 0, blk_frozen BK.out 1, blk_frozen BK.out 2, blk_frozen BK.out 3, blk_frozen BK.out 4, blk_frozen BK.out 5⟩

/-! words of squeeze5 -/
def bzL : Nat → Nat → List Bool
  | 0, _ => []
  | n + 1, m => Nat.beq (m % 2) 1 :: bzL n (m / 2)
def bz (n m : Nat) : Array Bool := ⟨bzL n m⟩
section
variable {P : Program} {ops : Array Oper} {Q : Exit → Act → World → Prop} {md : Region.Mode} {S : World → Prop} {ds : List Nat}
theorem pU (i : Nat) (N : Option Tmp) (m' : Nat) {T : Bool × List (List Nat × List Nat)} {n m fuel : Nat} {oi : Oper} {v : Value} {a a' : Act} {w : World} (HT_ : Aside0 (rtab md ops = T))
    (h : wpAnyLast P md ops Q S ds fuel (bz n m') a' w)
    (hi : ops[i]? = some oi := by rfl) (hN : oi.dst = N := by rfl) (hc : anyT T (bz n m).toList (bz n m').toList i = true := by kernel_rfl)
    (hQ : ∀ c a w, Q (.panic c) (a.put oi.dst v) w → Q (.panic c) a w := by exact fun _ _ _ h => h)
    (hw : Region.wanted oi (yielded ops a.tmps) = true := by rfl)
    (hy : ∀ w, (execOp a.eval oi).run P w = .ok (.value v) w := by intro w'; go_simp; with_reducible rfl)
    (ha : a.put N v = a' := by simp only [Act.put, List.setIfInBounds_toArray, List.set_cons_zero, List.set_cons_succ, i64_w, i32_w]; rfl) :
    wpAnyLast P md ops Q S ds (fuel + 1) (bz n m) a w := pure_ (bz n m') hi hN (any_of HT_.out hc) hQ (Or.inl ⟨hw, hy⟩) ha h
theorem pV (i : Nat) (N : Option Tmp) (m' : Nat) {T : Bool × List (List Nat × List Nat)} {n m fuel : Nat} {oi : Oper} {a a' : Act} {w : World} (HT_ : Aside0 (rtab md ops = T))
    (h : wpAnyLast P md ops Q S ds fuel (bz n m') a' w)
    (hi : ops[i]? = some oi := by rfl) (hN : oi.dst = N := by rfl) (hc : anyT T (bz n m).toList (bz n m').toList i = true := by kernel_rfl)
    (hQ : ∀ c a w, Q (.panic c) (a.put oi.dst undef) w → Q (.panic c) a w := by exact fun _ _ _ h => h)
    (hw : Region.wanted oi (yielded ops a.tmps) = false := by rfl)
    (ha : a.put N undef = a' := by simp only [Act.put, List.setIfInBounds_toArray, List.set_cons_zero, List.set_cons_succ, i64_w, i32_w]; rfl) :
    wpAnyLast P md ops Q S ds (fuel + 1) (bz n m) a w := pure_ (bz n m') hi hN (any_of HT_.out hc) hQ (Or.inr ⟨hw, rfl⟩) ha h
theorem tU (i : Nat) (N : Option Tmp) (m' : Nat) {T : Bool × List (List Nat × List Nat)} {B : List Nat} {n m fuel : Nat} {oi : Oper} {v : Value} {a a' : Act} {w : World} (HT_ : Aside0 (rtab md ops = T)) (HW_ : Aside0 (waitsOk T.2 B = true)) (hS : S w)
    (h : wpAnyLast P md ops Q S ds fuel (bz n m') a' w)
    (hi : ops[i]? = some oi := by rfl) (hN : oi.dst = N := by rfl) (hc : takeW T B ds (bz n m).toList (bz n m').toList i = true := by kernel_rfl)
    (hQ : ∀ c a w, Q (.panic c) (a.put oi.dst v) w → Q (.panic c) a w := by exact fun _ _ _ h => h)
    (hw : Region.wanted oi (yielded ops a.tmps) = true := by rfl)
    (hy : ∀ w, S w → (execOp a.eval oi).run P w = .ok (.value v) w := by intro w' s; (try dsimp only at s); (repeat (have s0 := s.1; replace s := s.2)); go_simp; with_reducible rfl)
    (ha : a.put N v = a' := by simp only [Act.put, List.setIfInBounds_toArray, List.set_cons_zero, List.set_cons_succ, i64_w, i32_w]; rfl) :
    wpAnyLast P md ops Q S ds (fuel + 1) (bz n m) a w := take_ (bz n m') hi hN (take_ofW HT_.out HW_.out hc) hQ (Or.inl ⟨hw, hy⟩) hS ha h
theorem oU (i : Nat) (N : Option Tmp) (m' : Nat) {T : Bool × List (List Nat × List Nat)} {n m fuel : Nat} {oi : Oper} {a : Act} {w : World} (HT_ : Aside0 (rtab md ops = T))
    (h : ∀ K : Act → World → Prop, Shut (∀ a' w', S w' → (S w' → wpAnyLast P md ops Q S ds fuel (bz n m') a' w') → K a' w') → if Region.wanted oi (yielded ops a.tmps) = true then Oper.wp P oi a w K Q else K (a.put N undef) w)
    (hi : ops[i]? = some oi := by rfl) (hN : oi.dst = N := by rfl) (hc : (readyT T.2 (bz n m).toList == [i] && (bz n m).toList.set i true == (bz n m').toList) = true := by kernel_rfl) (hd : i ∉ ds := by decide) :
    wpAnyLast P md ops Q S ds (fuel + 1) (bz n m) a w := one_ (bz n m') hi hN (one_of HT_.out hc) hd h
theorem nM {fuel : Nat} {l : Array Bool} {a0 a' : Act} {v : Value} {w : World} (N : Nat) (h : wpAnyLast P md ops Q S ds fuel l a' w)
    (ha : Act.put a0 (some N) v = a' := by simp only [Act.put, List.setIfInBounds_toArray, List.set_cons_zero, List.set_cons_succ, i64_w, i32_w]; rfl) :
    wpAnyLast P md ops Q S ds fuel l (Act.put a0 (some N) v) w := norm_ ha h
theorem sT {id n : Nat} {a : Act} {w : World} (S : World → Prop) (ds : List Nat) (hS : S w.drew) (h : S w.drew → wpAnyLast P .any ops Q S ds n (bz n 0) a w.drew)
    (hm : P.follows .mixedOrders = true := by kernel_rfl) (hn : ops.size = n := by rfl) (hl : Array.replicate n false = bz n 0 := by kernel_rfl) : (Code.region id ops true).wp P Q a w := start_ (bz n 0) hm hn hl hS h
theorem dN {T : Bool × List (List Nat × List Nat)} {n m k : Nat} {a : Act} {w : World} (HT_ : Aside0 (rtab md ops = T)) (h : Q .normal a w) (hc : (readyT T.2 (bz n m).toList == []) = true := by kernel_rfl) : wpAnyLast P md ops Q S ds k (bz n m) a w := done_ (done_of HT_.out hc) h
end
section
variable {P : Program} {ops : Array Oper} {o : Oper} {rest : List Oper} {a : Act} {Q : Exit → Act → World → Prop}
theorem bE {W : World} (N : Tmp) (cs : Array Value) (t : TypeId)
    (h : ∀ g, g = W.heap.size → ∀ w1, w1.heap[g]? = some (.cells cs t (0, 0)) → Below W.heap.size W w1 → wpList P ops Q rest (a.put o.dst (.pointer (some ⟨g, 0, none⟩))) w1)
    (gate : o.dst = some N := by with_reducible rfl) (hgd : o.guard = none := by rfl)
    (hrun : (execOp a.eval o).run P W = .ok (.value (.pointer (some ⟨W.heap.size, 0, none⟩))) (W.alloc (.cells cs t (0, 0))) := by first | (go_simp; done) | (go_simp; rfl)) : wpList P ops Q (o :: rest) a W := box_event hgd gate hrun h
theorem xS {W : World} {Kc : Act → World → Prop} (N : Tmp) (cs : Array Value) (t : TypeId)
    (h : ∀ g, g = W.heap.size → ∀ w1, w1.heap[g]? = some (.cells cs t (0, 0)) → Below W.heap.size W w1 → Kc (a.put o.dst (.pointer (some ⟨g, 0, none⟩))) w1)
    (hw : Region.wanted o (yielded ops a.tmps) = true := by rfl) (hd : o.dst = some N := by rfl)
    (hrun : (execOp a.eval o).run P W = .ok (.value (.pointer (some ⟨W.heap.size, 0, none⟩))) (W.alloc (.cells cs t (0, 0))) := by first | (go_simp; done) | (go_simp; rfl)) :
    if Region.wanted o (yielded ops a.tmps) = true then Oper.wp P o a W Kc Q else Kc (a.put o.dst undef) W := box_step hw hd hrun h
end
theorem qR {P : Prop} (h : P := by first|rfl|(simp [*, errW_none, errW_some] <;> rfl)) : P := h
theorem qB {P : Prop} (h : P := by repeat (first | (with_reducible first | exact HB.out | apply bA|apply bN|apply b1 | refine below_set ?_ (Aside0.out (by assumption)) | refine below_set ?_ (IsS144.ge HI0.out)) | exact HB.out)) : P := h
theorem qI {P : Prop} (h : P := by repeat (first | (with_reducible first | exact HI0.out | apply sA|apply sN|apply sD|apply s1|apply s2 | refine sF ?_ (Aside0.out (by assumption)) _) | exact HI0.out)) : P := h
theorem qK {P : Prop} (h : P := by repeat (first | (with_reducible first | exact HK.out | apply eS|apply eN|apply eD|apply eA | refine keep_far ?_ (Aside0.out (by assumption)) _) | exact HK.out)) : P := h
theorem bk {g : Nat} {o : Obj} {w W : World} (BK : Aside0 (w.heap[g]? = some o)) (h : w.heap[g]? = some o → W.heap[g]? = some o := by intro h_; (with_reducible repeat (first|apply kN|apply kD|apply kA)); exact h_) : W.heap[g]? = some o := h BK.out
theorem cB {w : World} {g : Nat} {t : TypeId} {cs : Array Value} {i : Nat} {v : Value} (BK : Aside0 (w.heap[g]? = some (.cells cs t (0, 0)))) (h : cs[i]? = some v := by rfl) : w.cell? ⟨g, i, none⟩ = some v := (blk_cell BK.out i).trans h
theorem kT {w w1 w2 W : World} {g : Nat} (HK : Aside0 (KeepBut w W g none)) (hk : KeepBut w1 w2 g none) (h : KeepBut w w1 g none := by repeat (first | (with_reducible first | exact HK.out | apply eS|apply eN|apply eD|apply eA | refine keep_far ?_ (Aside0.out (by assumption)) _) | exact HK.out)) : Aside0 (KeepBut w w2 g none) := aM (KeepBut.trans h hk (.inl rfl))
theorem kU {w w1 w2 W : World} {g : Nat} (HK : Aside0 (KeepBut w W g none)) (hb : Below w1.heap.size w1 w2) (h : KeepBut w w1 g none := by repeat (first | (with_reducible first | exact HK.out | apply eS|apply eN|apply eD|apply eA | refine keep_far ?_ (Aside0.out (by assumption)) _) | exact HK.out)) : Aside0 (KeepBut w w2 g none) := aM (KeepBut.trans h (KeepBut.of_below hb g none) (.inl rfl))
theorem kB {w W w1 : World} {g g' : Nat} {o : Obj} (hk : KeepBut W w1 g none) (BK : Aside0 (w.heap[g']? = some o)) (hg : Aside0 (g' ≠ g)) (h : w.heap[g']? = some o → W.heap[g']? = some o := by intro h_; (repeat (first|(with_reducible first|apply kN|apply kD|apply kA)|refine blk_far ?_ (Aside0.out (by assumption)) _)); exact h_) : Aside0 (w1.heap[g']? = some o) := aM (KeepBut.blk hk (h BK.out) hg.out (by simp))
theorem oB {α β : Type} {o : Option α} {f : α → Option β} {r : β} (H : o.bind f = some r) : ∃ a, Aside0 (o = some a) ∧ f a = some r := by
  obtain ⟨a, h, h'⟩ := Option.bind_eq_some_iff.mp H
  exact ⟨a, ⟨h⟩, h'⟩
theorem bF {g : Nat} {o : Obj} {w W w' : World} (BK : Aside0 (w.heap[g]? = some o)) (hb : Below W.heap.size W w')
    (h : w.heap[g]? = some o → W.heap[g]? = some o := by intro h_; (repeat (first|(with_reducible first|apply kN|apply kD|apply kA)|refine blk_far ?_ (Aside0.out (by assumption)) _)); exact h_) : Aside0 (w'.heap[g]? = some o) := aM (blk_below (g := g) (o := o) (h BK.out) hb)
theorem bW {g : Nat} (o' : Obj) {o : Obj} {w W w' : World} (BK : Aside0 (w.heap[g]? = some o)) (hb : Below W.heap.size W w')
    (h : w.heap[g]? = some o → W.heap[g]? = some o' := by intro h_; (repeat (first|(with_reducible first|apply kN|apply kD|apply kA)|refine Eq.trans (Below.heap_setCell _ _ _ _ (Aside0.out (by assumption))) ?_|apply blk_put)); exact h_; all_goals rfl) : Aside0 (w'.heap[g]? = some o') := aM (blk_below (g := g) (o := o') (h BK.out) hb)
theorem kP {w W w1 : World} {g g' : Nat} (o' : Obj) {o : Obj} (hk : KeepBut W w1 g none) (BK : Aside0 (w.heap[g']? = some o)) (hg : Aside0 (g' ≠ g))
    (h : w.heap[g']? = some o → W.heap[g']? = some o' := by intro h_; (repeat (first|(with_reducible first|apply kN|apply kD|apply kA)|refine Eq.trans (Below.heap_setCell _ _ _ _ (Aside0.out (by assumption))) ?_|apply blk_put)); exact h_; all_goals rfl) : Aside0 (w1.heap[g']? = some o') := aM (KeepBut.blk hk (h BK.out) hg.out (by simp))
theorem kZ {w W W0 : World} {g gb : Nat} (hg : gb = W.heap.size) (HK : Aside0 (KeepBut w W0 g none)) (h : KeepBut w W g none := by repeat (first | (with_reducible first | exact HK.out | apply eS|apply eN|apply eD|apply eA | refine keep_far ?_ (Aside0.out (by assumption)) _) | exact HK.out)) : Aside0 (w.heap.size ≤ gb) := aM (by rw [hg]; exact keep_size h)
theorem kY {w0 w W W0 : World} {g gb : Nat} (HW0 : Aside0 (w0.heap.size ≤ w.heap.size)) (hg : gb = W.heap.size) (HK : Aside0 (KeepBut w W0 g none)) (h : KeepBut w W g none := by repeat (first | (with_reducible first | exact HK.out | apply eS|apply eN|apply eD|apply eA | refine keep_far ?_ (Aside0.out (by assumption)) _) | exact HK.out)) : Aside0 (w0.heap.size ≤ gb) := aM (Nat.le_trans HW0.out (by rw [hg]; exact keep_size h))
theorem gC {P : Program} {ops : Array Oper} {o : Oper} {rest : List Oper} {a : Act} {Q : Exit → Act → World → Prop} {W : World} {f : FuncId} {az : Array Operand} {ts : Array TypeId} (_ho : o.op = .call { callee := .value (.func f), args := az, argTypes := ts }) (h : wpList P ops Q (o :: rest) a W) : wpList P ops Q (o :: rest) a W := h
theorem gM {P : Program} {ops : Array Oper} {o : Oper} {rest : List Oper} {a : Act} {Q : Exit → Act → World → Prop} {w : World} (N : Tmp) {f : FuncId} {fn : Func} {az : Array Operand} {ts : Array TypeId} {args : Array Value} {v : Value} {R : World → Prop} (hc : Calls P f args w fun e w' => e = .returned v ∧ R w') (hf : P.funcs[f]? = some fn)
    (h : ∀ w', R w' → wpList P ops Q rest (a.put (some N) v) w')
    (hop : o.op = .call { callee := .value (.func f), args := az, argTypes := ts } := by rfl)
    (hd : o.dst = some N := by rfl) (hg : o.guard = none := by rfl) (hname : (fn.name == "runtime.NumGoroutine") = false := by kernel_rfl) (hb : fn.body.isSome = true := by rfl)
    (hargs : az.map a.eval = args := by first|rfl|(simp only [List.map_toArray, List.map_cons, List.map_nil]; try rfl)) : wpList P ops Q (o :: rest) a w :=
  goesL_ (some N) hd hg hf hname hb args hop hargs (hc.mono fun e w' ⟨he, hr⟩ => ⟨v, he, h w' hr⟩)
theorem cD {α : Type} {d : Kd α} {w W : World} {A : Option Addr} {n : Nat} {xs : List α} (HR : Kd.C d w A n xs) (h : Kd.C d w A n xs → Kd.C d W A n xs := by intro h_; repeat (first | exact h_ | (with_reducible refine Kd.C_alloc ?_ _) | (with_reducible refine Kd.C_drewN ?_ _) | (with_reducible refine Kd.C_drew ?_))) : Kd.C d W A n xs := h HR
theorem gO {P : Program} {ops : Array Oper} {o : Oper} {a : Act} {Q : Exit → Act → World → Prop} {w : World} {N : Option Tmp} {K : Act → World → Prop} {f : FuncId} {fn : Func} {az : Array Operand} {ts : Array TypeId} (hf : P.funcs[f]? = some fn) (args : Array Value)
    (h : Calls P f args w fun e w' => ∃ v, e = .returned v ∧ K (a.put N v) w') (hname : (fn.name == "runtime.NumGoroutine") = false := by kernel_rfl) (hb : fn.body.isSome = true := by rfl)
    (hw : Region.wanted o (yielded ops a.tmps) = true := by rfl) (hN : o.dst = N := by rfl) (hop : o.op = .call { callee := .value (.func f), args := az, argTypes := ts } := by rfl) (hargs : az.map a.eval = args := by first|rfl|(simp only [List.map_toArray, List.map_cons, List.map_nil]; try rfl)) :
    if Region.wanted o (yielded ops a.tmps) = true then Oper.wp P o a w K Q else K (a.put N undef) w := goes_ hf hname hb args hw hN hop hargs h
theorem gD {P : Program} {ops : Array Oper} {o : Oper} {rest : List Oper} {a : Act} {Q : Exit → Act → World → Prop} {W : World} {N : Tmp} (_hN : o.dst = some N) (h : wpList P ops Q (o :: rest) a W) : wpList P ops Q (o :: rest) a W := h

end Go.Proofs.Ytcjchihnopmplaa.F
