import Derived.Lib.SmallJoins
import Derived.OpenShut
import Derived.ShutString
import Derived.WalkKit
import Derived.ProofKit
namespace Go.Proofs.YtiknfddggcbblaaDoor.Agg
open Go.Joins Go.ChangeShapes Go.WideShapes Go.RowKit Go.Deep

section
variable {H : Type} {enc : TypeId × Value → H} {P : Program} {w : World} {base : Nat} {spare : Nat → Bool} {held : Bool}

/-- A struct of two int64 fields by value, opened. -/
theorem open_i2 {r : Reach} {b0 : Nat} {t : TypeId} {f0 f1 : Field} {v : Value} {d : DataW H} {p : List MemPlace} (hs : P.underlying t = some (.struct #[f0, f1])) (hone : oneCellFields P #[f0, f1] = true) (hC : P.cellsOf t = 2)
    (k0 : P.underlying f0.type = some (.int .i64)) (k1 : P.underlying f1.type = some (.int .i64)) (hv : Value.okWide P w r b0 t v) (h : DataW.Trod enc P w base spare held t v d p) :
    ∃ x0 x1 : Int, v = .agg #[.int .i64 x0, .int .i64 x1] ∧ d = .agg [.lit (.int .i64 x0), .lit (.int .i64 x1)] ∧ p = [] ∧ (Lit.int .i64 x0).wf = true ∧ (Lit.int .i64 x1).wf = true := by
  obtain ⟨v0, v1, y0, y1, n, rfl, rfl, rfl, h0, h1⟩ := open_agg2 hs hone hC hv h
  obtain ⟨x0, e0, rfl, w0⟩ := DataW.trod_int k0 h0
  obtain ⟨x1, e1, rfl, w1⟩ := DataW.trod_int k1 h1
  simp only [List.cons.injEq, and_true] at e0 e1
  subst e0; subst e1
  exact ⟨x0, x1, rfl, rfl, rfl, w0, w1⟩

theorem shut_i2 {t : TypeId} {f0 f1 : Field} {x0 x1 : Int} (hs : P.underlying t = some (.struct #[f0, f1])) (hone : oneCellFields P #[f0, f1] = true) (hC : P.cellsOf t = 2)
    (k0 : P.underlying f0.type = some (.int .i64)) (k1 : P.underlying f1.type = some (.int .i64)) (w0 : (Lit.int .i64 x0).wf = true) (w1 : (Lit.int .i64 x1).wf = true) :
    DataW.Trod enc P w base spare held t (.agg #[.int .i64 x0, .int .i64 x1]) (.agg [.lit (.int .i64 x0), .lit (.int .i64 x1)]) [] :=
  shut_agg2 (y0 := (.lit (.int .i64 x0), [])) (y1 := (.lit (.int .i64 x1), [])) hs hone hC ⟨1, by simp [DataW.trod, k0, w0]⟩ ⟨1, by simp [DataW.trod, k1, w1]⟩

/-- A struct of three int64 fields by value, opened. -/
theorem open_i3 {r : Reach} {b0 : Nat} {t : TypeId} {f0 f1 f2 : Field} {v : Value} {d : DataW H} {p : List MemPlace} (hs : P.underlying t = some (.struct #[f0, f1, f2])) (hone : oneCellFields P #[f0, f1, f2] = true) (hC : P.cellsOf t = 3)
    (k0 : P.underlying f0.type = some (.int .i64)) (k1 : P.underlying f1.type = some (.int .i64)) (k2 : P.underlying f2.type = some (.int .i64)) (hv : Value.okWide P w r b0 t v) (h : DataW.Trod enc P w base spare held t v d p) :
    ∃ x0 x1 x2 : Int, v = .agg #[.int .i64 x0, .int .i64 x1, .int .i64 x2] ∧ d = .agg [.lit (.int .i64 x0), .lit (.int .i64 x1), .lit (.int .i64 x2)] ∧ p = [] ∧ (Lit.int .i64 x0).wf = true ∧ (Lit.int .i64 x1).wf = true ∧ (Lit.int .i64 x2).wf = true := by
  obtain ⟨v0, v1, v2, y0, y1, y2, n, rfl, rfl, rfl, h0, h1, h2⟩ := open_agg3 hs hone hC hv h
  obtain ⟨x0, e0, rfl, w0⟩ := DataW.trod_int k0 h0
  obtain ⟨x1, e1, rfl, w1⟩ := DataW.trod_int k1 h1
  obtain ⟨x2, e2, rfl, w2⟩ := DataW.trod_int k2 h2
  simp only [List.cons.injEq, and_true] at e0 e1 e2
  subst e0; subst e1; subst e2
  exact ⟨x0, x1, x2, rfl, rfl, rfl, w0, w1, w2⟩

theorem shut_i3 {t : TypeId} {f0 f1 f2 : Field} {x0 x1 x2 : Int} (hs : P.underlying t = some (.struct #[f0, f1, f2])) (hone : oneCellFields P #[f0, f1, f2] = true) (hC : P.cellsOf t = 3)
    (k0 : P.underlying f0.type = some (.int .i64)) (k1 : P.underlying f1.type = some (.int .i64)) (k2 : P.underlying f2.type = some (.int .i64)) (w0 : (Lit.int .i64 x0).wf = true) (w1 : (Lit.int .i64 x1).wf = true) (w2 : (Lit.int .i64 x2).wf = true) :
    DataW.Trod enc P w base spare held t (.agg #[.int .i64 x0, .int .i64 x1, .int .i64 x2]) (.agg [.lit (.int .i64 x0), .lit (.int .i64 x1), .lit (.int .i64 x2)]) [] :=
  shut_agg3 (y0 := (.lit (.int .i64 x0), [])) (y1 := (.lit (.int .i64 x1), [])) (y2 := (.lit (.int .i64 x2), [])) hs hone hC ⟨1, by simp [DataW.trod, k0, w0]⟩ ⟨1, by simp [DataW.trod, k1, w1]⟩ ⟨1, by simp [DataW.trod, k2, w2]⟩

/-- A struct of four int64 fields by value, opened. -/
theorem open_i4 {r : Reach} {b0 : Nat} {t : TypeId} {f0 f1 f2 f3 : Field} {v : Value} {d : DataW H} {p : List MemPlace} (hs : P.underlying t = some (.struct #[f0, f1, f2, f3])) (hone : oneCellFields P #[f0, f1, f2, f3] = true) (hC : P.cellsOf t = 4)
    (k0 : P.underlying f0.type = some (.int .i64)) (k1 : P.underlying f1.type = some (.int .i64)) (k2 : P.underlying f2.type = some (.int .i64)) (k3 : P.underlying f3.type = some (.int .i64)) (hv : Value.okWide P w r b0 t v) (h : DataW.Trod enc P w base spare held t v d p) :
    ∃ x0 x1 x2 x3 : Int, v = .agg #[.int .i64 x0, .int .i64 x1, .int .i64 x2, .int .i64 x3] ∧ d = .agg [.lit (.int .i64 x0), .lit (.int .i64 x1), .lit (.int .i64 x2), .lit (.int .i64 x3)] ∧ p = [] ∧ (Lit.int .i64 x0).wf = true ∧ (Lit.int .i64 x1).wf = true ∧ (Lit.int .i64 x2).wf = true ∧ (Lit.int .i64 x3).wf = true := by
  obtain ⟨v0, v1, v2, v3, y0, y1, y2, y3, n, rfl, rfl, rfl, h0, h1, h2, h3⟩ := open_agg4 hs hone hC hv h
  obtain ⟨x0, e0, rfl, w0⟩ := DataW.trod_int k0 h0
  obtain ⟨x1, e1, rfl, w1⟩ := DataW.trod_int k1 h1
  obtain ⟨x2, e2, rfl, w2⟩ := DataW.trod_int k2 h2
  obtain ⟨x3, e3, rfl, w3⟩ := DataW.trod_int k3 h3
  simp only [List.cons.injEq, and_true] at e0 e1 e2 e3
  subst e0; subst e1; subst e2; subst e3
  exact ⟨x0, x1, x2, x3, rfl, rfl, rfl, w0, w1, w2, w3⟩

theorem shut_i4 {t : TypeId} {f0 f1 f2 f3 : Field} {x0 x1 x2 x3 : Int} (hs : P.underlying t = some (.struct #[f0, f1, f2, f3])) (hone : oneCellFields P #[f0, f1, f2, f3] = true) (hC : P.cellsOf t = 4)
    (k0 : P.underlying f0.type = some (.int .i64)) (k1 : P.underlying f1.type = some (.int .i64)) (k2 : P.underlying f2.type = some (.int .i64)) (k3 : P.underlying f3.type = some (.int .i64)) (w0 : (Lit.int .i64 x0).wf = true) (w1 : (Lit.int .i64 x1).wf = true) (w2 : (Lit.int .i64 x2).wf = true) (w3 : (Lit.int .i64 x3).wf = true) :
    DataW.Trod enc P w base spare held t (.agg #[.int .i64 x0, .int .i64 x1, .int .i64 x2, .int .i64 x3]) (.agg [.lit (.int .i64 x0), .lit (.int .i64 x1), .lit (.int .i64 x2), .lit (.int .i64 x3)]) [] :=
  shut_agg4 (y0 := (.lit (.int .i64 x0), [])) (y1 := (.lit (.int .i64 x1), [])) (y2 := (.lit (.int .i64 x2), [])) (y3 := (.lit (.int .i64 x3), [])) hs hone hC ⟨1, by simp [DataW.trod, k0, w0]⟩ ⟨1, by simp [DataW.trod, k1, w1]⟩ ⟨1, by simp [DataW.trod, k2, w2]⟩ ⟨1, by simp [DataW.trod, k3, w3]⟩

theorem array6 {α : Type} {cs : Array α} (h : cs.size = 6) : ∃ c0 c1 c2 c3 c4 c5, cs = #[c0, c1, c2, c3, c4, c5] := by
  obtain ⟨l⟩ := cs
  match l, h with
  | [c0, c1, c2, c3, c4, c5], _ => exact ⟨c0, c1, c2, c3, c4, c5, rfl⟩

/-- A struct of a struct of four int64 fields and a struct of two by value, opened. -/
theorem open_i42 {r : Reach} {b0 : Nat} {t : TypeId} {g0 g1 f0 f1 f2 f3 e0 e1 : Field} {v : Value} {d : DataW H} {p : List MemPlace} (hs : P.underlying t = some (.struct #[g0, g1])) (hC : P.cellsOf t = 6)
    (hs0 : P.underlying g0.type = some (.struct #[f0, f1, f2, f3])) (hs1 : P.underlying g1.type = some (.struct #[e0, e1])) (o0 : g0.offset = 0) (o1 : g1.offset = 4) (c0 : P.cellsOf g0.type = 4) (c1 : P.cellsOf g1.type = 2)
    (hone0 : oneCellFields P #[f0, f1, f2, f3] = true) (hone1 : oneCellFields P #[e0, e1] = true)
    (k0 : P.underlying f0.type = some (.int .i64)) (k1 : P.underlying f1.type = some (.int .i64)) (k2 : P.underlying f2.type = some (.int .i64)) (k3 : P.underlying f3.type = some (.int .i64))
    (k4 : P.underlying e0.type = some (.int .i64)) (k5 : P.underlying e1.type = some (.int .i64)) (hv : Value.okWide P w r b0 t v) (h : DataW.Trod enc P w base spare held t v d p) :
    ∃ x0 x1 x2 x3 x4 x5 : Int, v = .agg #[.int .i64 x0, .int .i64 x1, .int .i64 x2, .int .i64 x3, .int .i64 x4, .int .i64 x5] ∧
      d = .agg [.agg [.lit (.int .i64 x0), .lit (.int .i64 x1), .lit (.int .i64 x2), .lit (.int .i64 x3)], .agg [.lit (.int .i64 x4), .lit (.int .i64 x5)]] ∧ p = [] ∧
      (Lit.int .i64 x0).wf = true ∧ (Lit.int .i64 x1).wf = true ∧ (Lit.int .i64 x2).wf = true ∧ (Lit.int .i64 x3).wf = true ∧ (Lit.int .i64 x4).wf = true ∧ (Lit.int .i64 x5).wf = true := by
  obtain ⟨cs, rfl, hsz⟩ := okWide_struct hs hv
  obtain ⟨a0, a1, a2, a3, a4, a5, rfl⟩ := array6 (hsz.trans hC)
  obtain ⟨fuel, hf⟩ := h
  obtain ⟨y0, y1, n, hx, _, h0, h1⟩ := trod_struct2 hs hf
  rw [o0, c0] at h0
  rw [o1, c1] at h1
  obtain ⟨z0, z1, z2, z3, n', hy0, _, q0, q1, q2, q3⟩ := trod_struct4 hs0 h0
  obtain ⟨z4, z5, n'', hy1, _, q4, q5⟩ := trod_struct2 hs1 h1
  obtain ⟨p0, i0⟩ := hone_of hone0 0 f0 rfl
  obtain ⟨p1, i1⟩ := hone_of hone0 1 f1 rfl
  obtain ⟨p2, i2⟩ := hone_of hone0 2 f2 rfl
  obtain ⟨p3, i3⟩ := hone_of hone0 3 f3 rfl
  obtain ⟨p4, i4⟩ := hone_of hone1 0 e0 rfl
  obtain ⟨p5, i5⟩ := hone_of hone1 1 e1 rfl
  obtain ⟨x0, t0, rfl, w0⟩ := DataW.trod_int k0 q0
  obtain ⟨x1, t1, rfl, w1⟩ := DataW.trod_int k1 q1
  obtain ⟨x2, t2, rfl, w2⟩ := DataW.trod_int k2 q2
  obtain ⟨x3, t3, rfl, w3⟩ := DataW.trod_int k3 q3
  obtain ⟨x4, t4, rfl, w4⟩ := DataW.trod_int k4 q4
  obtain ⟨x5, t5, rfl, w5⟩ := DataW.trod_int k5 q5
  simp [Value.cells, p0, i0] at t0
  simp [Value.cells, p1, i1] at t1
  simp [Value.cells, p2, i2] at t2
  simp [Value.cells, p3, i3] at t3
  simp [Value.cells, p4, i4] at t4
  simp [Value.cells, p5, i5] at t5
  subst t0; subst t1; subst t2; subst t3; subst t4; subst t5
  subst hy0; subst hy1
  simp only [Prod.mk.injEq] at hx
  exact ⟨x0, x1, x2, x3, x4, x5, rfl, hx.1, hx.2, w0, w1, w2, w3, w4, w5⟩

theorem shut_i42 {t : TypeId} {g0 g1 f0 f1 f2 f3 e0 e1 : Field} {x0 x1 x2 x3 x4 x5 : Int} (hs : P.underlying t = some (.struct #[g0, g1])) (hC : P.cellsOf t = 6)
    (hs0 : P.underlying g0.type = some (.struct #[f0, f1, f2, f3])) (hs1 : P.underlying g1.type = some (.struct #[e0, e1])) (o0 : g0.offset = 0) (o1 : g1.offset = 4) (c0 : P.cellsOf g0.type = 4) (c1 : P.cellsOf g1.type = 2)
    (hone0 : oneCellFields P #[f0, f1, f2, f3] = true) (hone1 : oneCellFields P #[e0, e1] = true)
    (k0 : P.underlying f0.type = some (.int .i64)) (k1 : P.underlying f1.type = some (.int .i64)) (k2 : P.underlying f2.type = some (.int .i64)) (k3 : P.underlying f3.type = some (.int .i64))
    (k4 : P.underlying e0.type = some (.int .i64)) (k5 : P.underlying e1.type = some (.int .i64))
    (w0 : (Lit.int .i64 x0).wf = true) (w1 : (Lit.int .i64 x1).wf = true) (w2 : (Lit.int .i64 x2).wf = true) (w3 : (Lit.int .i64 x3).wf = true) (w4 : (Lit.int .i64 x4).wf = true) (w5 : (Lit.int .i64 x5).wf = true) :
    DataW.Trod enc P w base spare held t (.agg #[.int .i64 x0, .int .i64 x1, .int .i64 x2, .int .i64 x3, .int .i64 x4, .int .i64 x5]) (.agg [.agg [.lit (.int .i64 x0), .lit (.int .i64 x1), .lit (.int .i64 x2), .lit (.int .i64 x3)], .agg [.lit (.int .i64 x4), .lit (.int .i64 x5)]]) [] := by
  obtain ⟨n0, s0⟩ := shut_i4 (enc := enc) (w := w) (base := base) (spare := spare) (held := held) hs0 hone0 c0 k0 k1 k2 k3 w0 w1 w2 w3
  obtain ⟨n1, s1⟩ := shut_i2 (enc := enc) (w := w) (base := base) (spare := spare) (held := held) hs1 hone1 c1 k4 k5 w4 w5
  have ts := trod_struct2_mk (enc := enc) (w := w) (base := base) (spare := spare) (held := held) (n := max n0 n1) (cs := [.int .i64 x0, .int .i64 x1, .int .i64 x2, .int .i64 x3, .int .i64 x4, .int .i64 x5]) hs (by simp [hC])
    (by rw [o0, c0]; simpa [Value.cells] using DataW.trod_le (Nat.le_max_left n0 n1) s0) (by rw [o1, c1]; simpa [Value.cells] using DataW.trod_le (Nat.le_max_right n0 n1) s1)
  exact ⟨_, by simpa [Value.cells] using ts⟩
end
end Go.Proofs.YtiknfddggcbblaaDoor.Agg
