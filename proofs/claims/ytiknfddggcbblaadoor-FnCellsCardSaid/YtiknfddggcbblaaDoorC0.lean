import Derived.Test.YtiknfddggcbblaaDoorProg
import Derived.Test.YtiknfddggcbblaaDoorShelf
import Derived.Lib.AppendIntMem
import Derived.Below
import Derived.Deep.Draws
import Derived.Deep.AppendLies
import Derived.Maps.AppendAt
import Derived.OwnWalk
import Derived.Laws.BytesArg
import Derived.Laws.MakeOwn
import Derived.Laws.OwnMore
import Derived.Deep.OwnRows
import Derived.Tactics
import Derived.Lib.ConvBytes
import Derived.Laws.Slices
import Derived.WalkKit
import Derived.KernelRfl
import Derived.RowKit3
import Derived.Deep.LoopGhost
import Derived.Deep.QuietTactic
import Derived.BigQuiet
import Derived.WideLaws
import Derived.Deep.DeepCutAuto
import Derived.Deep.CutBlock
import Derived.Deep.RegionHeld3
import Derived.Laws.Rows
import Derived.Lib.AppendStr
import Derived.ArgAppend
import Derived.Laws.IdiomCopy
import Derived.OrdersHeld
import Derived.Laws.BitsLemmas
import Derived.RowKit
import Derived.Test.YtiknfddggcbblaaDoorWWords
import Derived.Test.YtiknfddggcbblaaDoorWLast
import Derived.Test.YtiknfddggcbblaaDoorWTab
import Derived.Test.YtiknfddggcbblaaDoorWFour
import Derived.Test.YtiknfddggcbblaaDoorWQPut
import Derived.Test.YtiknfddggcbblaaDoorWApart
import Derived.Test.YtiknfddggcbblaaDoorWArr
import Derived.Test.YtiknfddggcbblaaDoorWZeros
import Derived.Test.YtiknfddggcbblaaDoorWFoot
import Derived.Test.YtiknfddggcbblaaDoorWKept
import Derived.Test.YtiknfddggcbblaaDoorWShare
import Derived.Test.YtiknfddggcbblaaDoorWN
import Derived.Test.YtiknfddggcbblaaDoorWFootNe
import Derived.Test.YtiknfddggcbblaaDoorWAt
import Derived.Test.YtiknfddggcbblaaDoorWEqStruct
import Derived.Test.YtiknfddggcbblaaDoorWRepsOne
import Derived.Test.YtiknfddggcbblaaDoorWInv
import Derived.Test.YtiknfddggcbblaaDoorWInvWords
import Derived.Test.YtiknfddggcbblaaDoorWGuard
import Derived.Test.YtiknfddggcbblaaDoorWNEv
import Derived.Test.YtiknfddggcbblaaDoorWMore
namespace Go.Proofs.YtiknfddggcbblaaDoor.F
open Go.RowKit Go.Proofs.YtiknfddggcbblaaDoorW.PrintWords Go.Proofs.YtiknfddggcbblaaDoorW.PrintLast Go.Proofs.YtiknfddggcbblaaDoorW.PrintMore
attribute [local go_sem] max2_int min2_int max_two min_two max_three min_three max_four min_four   -- for this text's walks alone
set_option linter.unusedVariables false
set_option linter.unusedSimpArgs false



def errW : Option Int → Value
  | none => .nilIface
  | some c => .iface 122 (.int .i64 c)
theorem errW_none : errW none = .nilIface := rfl
theorem errW_some (c : Int) : errW (some c) = .iface 122 (.int .i64 c) := rfl

theorem info2 : (Tryd.prog.info? 2).map (fun i => (i.zero, i.size, i.bytes)) = some (some (.int .i64 0), 1, 8) := by kernel_rfl
theorem info5 : (Tryd.prog.info? 5).map (fun i => (i.zero, i.size, i.bytes)) = some (some (.int .u8 0), 1, 1) := by kernel_rfl
theorem info9 : (Tryd.prog.info? 9).map (fun i => (i.zero, i.size, i.bytes)) = some (some (.string ⟨#[]⟩), 1, 16) := by kernel_rfl
theorem info31 : (Tryd.prog.info? 31).map (fun i => (i.zero, i.size, i.bytes)) = some (some (.agg #[(.int .i64 0), (.int .i64 0)]), 2, 16) := by kernel_rfl
-- the values' own types
/-! #### struct type 31 -/
structure S31 where
  f0 : Int
  f1 : Int
def z31 : S31 := ⟨(0 : Int), (0 : Int)⟩
def k31 : Kd S31 := Kd.iso (Kd.pair (Kd.int .i64) (Kd.int .i64)) (fun x : S31 => (x.f0, x.f1))
theorem k31_open {w : World} {x : S31} {cs : List Value} (h : k31.K w x cs) : cs = [.int .i64 x.f0, .int .i64 x.f1] := by
  obtain ⟨_, _, rfl, rfl, rfl⟩ := h
  exact rfl
theorem k31_openM {w : World} {base : Nat} {ok : Nat → Prop} {x : S31} {cs : List Value} (h : k31.M w base ok x cs) : cs = [.int .i64 x.f0, .int .i64 x.f1] := by
  obtain ⟨_, _, rfl, rfl, rfl⟩ := h
  exact rfl
theorem k31_mk (w : World) (x : S31)  : k31.K w x [.int .i64 x.f0, .int .i64 x.f1] := ⟨[.int .i64 x.f0], [.int .i64 x.f1], rfl, rfl, rfl⟩
theorem k31_mkM (w : World) (base : Nat) (ok : Nat → Prop) (x : S31)  : k31.M w base ok x [.int .i64 x.f0, .int .i64 x.f1] := ⟨[.int .i64 x.f0], [.int .i64 x.f1], rfl, rfl, rfl⟩
def rd_T31 (xs : List S31) (i : Int) : S31 := xs.getD i.toNat z31
theorem at_T31 {w : World} {A : Option Addr} {n : Nat} {xs : List S31} (h : Kd.C k31 w A n xs) (i : Int) (h0 : 0 ≤ i) (h1 : i < n) : ∃ ad , A = some ad ∧ w.cell? (ad.add (i.toNat * 2)) = some (.int .i64 (rd_T31 xs i).f0) ∧ w.cell? ⟨(ad.add (i.toNat * 2)).block, (ad.add (i.toNat * 2)).off + 1, none⟩ = some (.int .i64 (rd_T31 xs i).f1) := by
  obtain ⟨ad, c, e, _, hK, hc0⟩ := Kd.C_get h z31 i h0 h1
  have hc : ∀ j u, c[j]? = some u → w.cell? (ad.add (i.toNat * 2 + j)) = some u := hc0
  obtain rfl := k31_open hK
  exact ⟨ad, e, hc 0 _ rfl, by rw [← add_field _ _ 1 (by omega)]; exact hc 1 _ rfl⟩

theorem eqA31 (d : Nat) (w : World) (x0 y0 : Int) (x1 y1 : Int) :
    (Op.equalIn (d + 2) 31 (.agg #[.int .i64 x0, .int .i64 x1]) (.agg #[.int .i64 y0, .int .i64 y1])).run Tryd.prog w = .ok (x0 == y0 && (x1 == y1)) w := by
  refine eqA_of Tryd.underlying31 (by kernel_rfl) ?_
  refine eqf_cons (by rfl) (by go_simp; rfl) (by go_simp; rfl) (by go_simp) ?_
  exact eqf_last (by rfl) (by go_simp; rfl) (by go_simp; rfl) (by go_simp)
theorem eqA38 (d : Nat) (w : World) (x0 y0 : Int) (x1 y1 : Int) (x2 y2 : Int) :
    (Op.equalIn (d + 2) 38 (.agg #[.int .i64 x0, .int .i64 x1, .int .i64 x2]) (.agg #[.int .i64 y0, .int .i64 y1, .int .i64 y2])).run Tryd.prog w = .ok (x0 == y0 && (x1 == y1 && (x2 == y2))) w := by
  refine eqA_of Tryd.underlying38 (by kernel_rfl) ?_
  refine eqf_cons (by rfl) (by go_simp; rfl) (by go_simp; rfl) (by go_simp) ?_
  refine eqf_cons (by rfl) (by go_simp; rfl) (by go_simp; rfl) (by go_simp) ?_
  exact eqf_last (by rfl) (by go_simp; rfl) (by go_simp; rfl) (by go_simp)
-- NOT PRINTED: function 94 (utf8_RuneCountInString)

-- NOT PRINTED: function 109 (utf8_decodeRuneInStringSlow)

-- NOT PRINTED: function 95 (utf8_DecodeRuneInString)

-- NOT PRINTED: function 86 (strings_explode)

-- NOT PRINTED: function 124 (bytealg_IndexByteString)

-- NOT PRINTED: function 110 (stringslite_IndexByte)

-- NOT PRINTED: function 111 (bytealg_IndexString)

-- NOT PRINTED: function 97 (stringslite_Index)

-- NOT PRINTED: function 88 (strings_Index)

-- NOT PRINTED: function 96 (bytealg_CountString)

-- NOT PRINTED: function 87 (strings_Count)

-- NOT PRINTED: function 80 (strings_genSplit)

-- NOT PRINTED: function 104 (strconv_numDigits)

-- NOT PRINTED: function 105 (strconv_formatBase10)

-- NOT PRINTED: function 127 (bits_TrailingZeros32)

-- NOT PRINTED: function 128 (bits_TrailingZeros64)

-- NOT PRINTED: function 123 (bits_TrailingZeros)

-- NOT PRINTED: function 106 (strconv_formatBits)

-- NOT PRINTED: function 91 (strconv_FormatInt_91)

-- NOT PRINTED: function 82 (strconv_FormatInt_82)

-- NOT PRINTED: function 98 (strconv_ParseUint)

-- NOT PRINTED: function 89 (strconv_ParseInt_89)

-- NOT PRINTED: function 116 (stringslite_Clone)

-- NOT PRINTED: function 99 (strconv_syntaxError)

-- NOT PRINTED: function 100 (strconv_rangeError)

-- NOT PRINTED: function 117 (errors_New)

-- NOT PRINTED: function 126 (strconv_Itoa_126)

-- NOT PRINTED: function 118 (strconv_Itoa_118)

-- NOT PRINTED: function 101 (strconv_baseError)

-- NOT PRINTED: function 102 (strconv_bitSizeError)

-- NOT PRINTED: function 90 (strconv_toError)

-- NOT PRINTED: function 81 (strconv_ParseInt_81)

-- NOT PRINTED: function 107 (abi_NoEscape)

-- NOT PRINTED: function 92 (strings_Builder_copyCheck)

-- NOT PRINTED: function 108 (bytealg_MakeNoZero)

-- NOT PRINTED: function 93 (strings_Builder_grow)

-- NOT PRINTED: function 83 (strings_Builder_Grow)

-- NOT PRINTED: function 84 (strings_Builder_WriteString)

-- NOT PRINTED: function 85 (strings_Builder_String)


/-- What the walks ask of the library's table of powers. -/
def TB (w : World) : Prop := Lib.TabIs Tryd.prog w "internal/strconv.uint64pow10" .u64 Lib.pow10Tab
theorem TB_below {w w' : World} (h : TB w) (hb : Below w.heap.size w w') : TB w' := Lib.tabBelow_of_tabIs h w' hb
/-- What the walks ask of all the library's variables. -/
def TR (w : World) : Prop := TB w ∧ (∃ tp p, w.var? Tryd.prog "strconv.ErrSyntax" = some #[.iface tp p]) ∧ (∃ tp p, w.var? Tryd.prog "strconv.ErrRange" = some #[.iface tp p]) ∧ ∃ m, w.cell? ⟨0, 0, none⟩ = some (.int .i64 m)
theorem var_below {P : Program} {w w' : World} {n : String} {cs : Array Value} (h : w.var? P n = some cs) (hb : Below w.heap.size w w') : w'.var? P n = some cs := by
  unfold World.var? at h ⊢
  cases hg : P.globalNamed n with
  | none => rw [hg] at h; cases h
  | some g =>
    rw [hg] at h
    simp only [Option.bind_some] at h ⊢
    have hlt : g < w.heap.size := by
      rcases Nat.lt_or_ge g w.heap.size with q | q
      · exact q
      · rw [Array.getElem?_eq_none q] at h; cases h
    rw [hb.block g hlt]; exact h
theorem TR_below {w w' : World} (h : TR w) (hb : Below w.heap.size w w') : TR w' := by
  obtain ⟨h1, ⟨t1, p1, h2⟩, ⟨t2, p2, h3⟩, m, h4⟩ := h
  exact ⟨TB_below h1 hb, ⟨t1, p1, var_below h2 hb⟩, ⟨t2, p2, var_below h3 hb⟩, m, (hb.cell (p := ⟨0, 0, none⟩) (World.block_lt_of_cell? w _ h4)).trans h4⟩
theorem TR.tb {w : World} (h : TR w) : TB w := by obtain ⟨h1, _⟩ := h; exact h1

set_option linter.defProp false
def bA := @below_alloc
def bN := @pw_below_drewN
def b1 := @below_drew1
def kN := @blk_drewN
def kD := @blk_drew
def kA := @blk_alloc
def eS := @KeepBut.set_
def eN := @keep_drewN
def eD := @keep_drew
def eA := @keep_alloc

def aM := @Aside0.mk

theorem bB {g : Nat} {o : Obj} {w W w' : World} (BK : Aside0 (w.heap[g]? = some o)) (hb : Below W.heap.size W w')
    (h : w.heap[g]? = some o → W.heap[g]? = some o := by intro h_; (with_reducible repeat (first|apply kN|apply kD|apply kA)); exact h_) : Aside0 (w'.heap[g]? = some o) := aM (blk_below (g := g) (o := o) (h BK.out) hb)
theorem nL {g gb : Nat} {o : Obj} {w W : World} (hg : gb = W.heap.size) (BK : Aside0 (w.heap[g]? = some o))
    (h : w.heap[g]? = some o → W.heap[g]? = some o := by intro h_; (with_reducible repeat (first|apply kN|apply kD|apply kA)); exact h_) : Aside0 (g ≠ gb) := aM (by rw [hg]; exact Nat.ne_of_lt (blk_lt (g := g) (o := o) (h BK.out)))
theorem nG {g gb : Nat} {o : Obj} {w W : World} (hg : gb = W.heap.size) (BK : Aside0 (w.heap[g]? = some o))
    (h : w.heap[g]? = some o → W.heap[g]? = some o := by intro h_; (with_reducible repeat (first|apply kN|apply kD|apply kA)); exact h_) : Aside0 (gb ≠ g) := aM (by rw [hg]; exact Nat.ne_of_gt (blk_lt (g := g) (o := o) (h BK.out)))
theorem bS {w W0 W w' : World} (HB : Aside0 (Below w.heap.size w W0)) (hb : Below W.heap.size W w')
    (h : Below w.heap.size w W0 → Below w.heap.size w W := by intro h_; repeat (first | (with_reducible first | exact h_ | apply bA|apply bN|apply b1 | refine below_set ?_ (Aside0.out (by assumption))) | exact h_)) : Aside0 (Below w.heap.size w w') := aM (below_step (h HB.out) hb)
theorem bZ {gb : Nat} {w W0 W : World} (hg : gb = W.heap.size) (HB : Aside0 (Below w.heap.size w W0))
    (h : Below w.heap.size w W0 → Below w.heap.size w W := by intro h_; repeat (first | (with_reducible first | exact h_ | apply bA|apply bN|apply b1 | refine below_set ?_ (Aside0.out (by assumption))) | exact h_)) : Aside0 (w.heap.size ≤ gb) := aM (by rw [hg]; exact below_size (h HB.out))
theorem z2 {g : Nat} {a b : Value} {t : TypeId} {w : World} (BK : Aside0 (w.heap[g]? = some (.cells #[a, b] t (0, 0)))) : w.cell? ⟨g, 0, none⟩ = some a ∧ w.cell? ⟨g, 1, none⟩ = some b :=
  ⟨(blk_cell BK.out 0).trans rfl, (blk_cell BK.out 1).trans rfl⟩
theorem y2 {g : Nat} {cs : Array Value} {t : TypeId} {w : World} (BK : Aside0 (w.heap[g]? = some (.cells cs t (0, 0)))) : w.frozen? ⟨g, 0, none⟩ = false ∧ w.frozen? ⟨g, 1, none⟩ = false :=
  ⟨blk_frozen BK.out 0, blk_frozen BK.out 1⟩
theorem z3 {g : Nat} {a b c : Value} {t : TypeId} {w : World} (BK : Aside0 (w.heap[g]? = some (.cells #[a, b, c] t (0, 0)))) : w.cell? ⟨g, 0, none⟩ = some a ∧ w.cell? ⟨g, 1, none⟩ = some b ∧ w.cell? ⟨g, 2, none⟩ = some c :=
  ⟨(blk_cell BK.out 0).trans rfl, (blk_cell BK.out 1).trans rfl, (blk_cell BK.out 2).trans rfl⟩
theorem y3 {g : Nat} {cs : Array Value} {t : TypeId} {w : World} (BK : Aside0 (w.heap[g]? = some (.cells cs t (0, 0)))) : w.frozen? ⟨g, 0, none⟩ = false ∧ w.frozen? ⟨g, 1, none⟩ = false ∧ w.frozen? ⟨g, 2, none⟩ = false :=
  ⟨blk_frozen BK.out 0, blk_frozen BK.out 1, blk_frozen BK.out 2⟩
theorem z4 {g : Nat} {a b c d : Value} {t : TypeId} {w : World} (BK : Aside0 (w.heap[g]? = some (.cells #[a, b, c, d] t (0, 0)))) : w.cell? ⟨g, 0, none⟩ = some a ∧ w.cell? ⟨g, 1, none⟩ = some b ∧ w.cell? ⟨g, 2, none⟩ = some c ∧ w.cell? ⟨g, 3, none⟩ = some d :=
  ⟨(blk_cell BK.out 0).trans rfl, (blk_cell BK.out 1).trans rfl, (blk_cell BK.out 2).trans rfl, (blk_cell BK.out 3).trans rfl⟩
theorem y4 {g : Nat} {cs : Array Value} {t : TypeId} {w : World} (BK : Aside0 (w.heap[g]? = some (.cells cs t (0, 0)))) : w.frozen? ⟨g, 0, none⟩ = false ∧ w.frozen? ⟨g, 1, none⟩ = false ∧ w.frozen? ⟨g, 2, none⟩ = false ∧ w.frozen? ⟨g, 3, none⟩ = false :=
  ⟨blk_frozen BK.out 0, blk_frozen BK.out 1, blk_frozen BK.out 2, blk_frozen BK.out 3⟩
theorem z6 {g : Nat} {a b c d e f : Value} {t : TypeId} {w : World} (BK : Aside0 (w.heap[g]? = some (.cells #[a, b, c, d, e, f] t (0, 0)))) : w.cell? ⟨g, 0, none⟩ = some a ∧ w.cell? ⟨g, 1, none⟩ = some b ∧ w.cell? ⟨g, 2, none⟩ = some c ∧ w.cell? ⟨g, 3, none⟩ = some d ∧ w.cell? ⟨g, 4, none⟩ = some e ∧ w.cell? ⟨g, 5, none⟩ = some f :=
  ⟨(blk_cell BK.out 0).trans rfl, (blk_cell BK.out 1).trans rfl, (blk_cell BK.out 2).trans rfl, (blk_cell BK.out 3).trans rfl, (blk_cell BK.out 4).trans rfl, (blk_cell BK.out 5).trans rfl⟩
theorem y6 {g : Nat} {cs : Array Value} {t : TypeId} {w : World} (BK : Aside0 (w.heap[g]? = some (.cells cs t (0, 0)))) : w.frozen? ⟨g, 0, none⟩ = false ∧ w.frozen? ⟨g, 1, none⟩ = false ∧ w.frozen? ⟨g, 2, none⟩ = false ∧ w.frozen? ⟨g, 3, none⟩ = false ∧ w.frozen? ⟨g, 4, none⟩ = false ∧ w.frozen? ⟨g, 5, none⟩ = false :=
  ⟨blk_frozen BK.out 0, blk_frozen BK.out 1, blk_frozen BK.out 2, blk_frozen BK.out 3, blk_frozen BK.out 4, blk_frozen BK.out 5⟩

end Go.Proofs.YtiknfddggcbblaaDoor.F
