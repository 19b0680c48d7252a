import Derived.Test.YtpkjgcafbkfbgacWMore
import Derived.RowKit
import GoSem.Claim
import Derived.Test.YtpkjgcafbkfbgacMth
namespace Go.Proofs.Ytpkjgcafbkfbgac.Sem
open Go.RowKit Go.Proofs.YtpkjgcafbkfbgacW.PrintWords Go.Proofs.YtpkjgcafbkfbgacW.PrintMore
open Go.Proofs.Ytpkjgcafbkfbgac
set_option linter.unusedVariables false
/-! ### the plain answers -/
def vecB (x y : Int) : Bool := decide (-1000 ≤ x ∧ x ≤ 1000 ∧ -1000 ≤ y ∧ y ≤ 1000)
def smallB (a b c d : Int) : Bool := decide ((-1000 ≤ a ∧ a ≤ 1000 ∧ -1000 ≤ b ∧ b ≤ 1000) ∧ -1000 ≤ c ∧ c ≤ 1000 ∧ -1000 ≤ d ∧ d ≤ 1000)
def matB (a b c d : Int) : Bool := smallB a b c d && (a * d - b * c == 1 || a * d - b * c == -1)
def latB (a b c : Int) : Bool := decide ((1 ≤ a ∧ a ≤ 64) ∧ (1 ≤ c ∧ c ≤ 64) ∧ (0 ≤ b ∧ b ≤ a - 1) ∧ a * c ≤ 64)
def lim (x y : Int) : Int × Int × Int := if vecB x y = true then (x, y, 0) else (0, 0, 3)
theorem wrap_id {x : Int} (h1 : -9223372036854775808 ≤ x) (h2 : x < 9223372036854775808) : wrap64 x = x := by unfold wrap64; omega
theorem wrap_bd (x : Int) : -9223372036854775808 ≤ wrap64 x ∧ wrap64 x < 9223372036854775808 := by unfold wrap64; omega
theorem prod_bd {a b A B : Int} (ha : -A ≤ a) (ha' : a ≤ A) (hb : -B ≤ b) (hb' : b ≤ B) (hA : 0 ≤ A) : -(A * B) ≤ a * b ∧ a * b ≤ A * B := by
  have h1 : (a * b).natAbs ≤ A.natAbs * B.natAbs := by rw [Int.natAbs_mul]; exact Nat.mul_le_mul (by omega) (by omega)
  have h2 : (A * B).natAbs = A.natAbs * B.natAbs := Int.natAbs_mul A B
  have h3 : 0 ≤ A * B := Int.mul_nonneg hA (by omega)
  omega
theorem vecB_iff {x y : Int} : vecB x y = true ↔ (-1000 ≤ x ∧ x ≤ 1000) ∧ (-1000 ≤ y ∧ y ≤ 1000) := by unfold vecB; rw [decide_eq_true_iff]; omega
theorem smallB_iff {a b c d : Int} : smallB a b c d = true ↔ ((-1000 ≤ a ∧ a ≤ 1000) ∧ (-1000 ≤ b ∧ b ≤ 1000)) ∧ (-1000 ≤ c ∧ c ≤ 1000) ∧ (-1000 ≤ d ∧ d ≤ 1000) := by unfold smallB; rw [decide_eq_true_iff]; omega
theorem matB_iff {a b c d : Int} : matB a b c d = true ↔ smallB a b c d = true ∧ (a * d - b * c = 1 ∨ a * d - b * c = -1) := by unfold matB; simp
theorem latB_iff {a b c : Int} : latB a b c = true ↔ (1 ≤ a ∧ a ≤ 64) ∧ (1 ≤ c ∧ c ≤ 64) ∧ (0 ≤ b ∧ b ≤ a - 1) ∧ a * c ≤ 64 := by unfold latB; rw [decide_eq_true_iff]
/-- Products of small numbers need no wrapping. -/
theorem wrap_mul {a b A B : Int} (ha : -A ≤ a) (ha' : a ≤ A) (hb : -B ≤ b) (hb' : b ≤ B) (hA : 0 ≤ A) (h : A * B < 9223372036854775808) : wrap64 (a * b) = a * b := by
  have := prod_bd ha ha' hb hb' hA; exact wrap_id (by omega) (by omega)
theorem det_wrap {a b c d : Int} (h : smallB a b c d = true) : wrap64 (wrap64 (a * d) - wrap64 (b * c)) = a * d - b * c ∧ (-2000000 ≤ a * d - b * c ∧ a * d - b * c ≤ 2000000) := by
  rw [smallB_iff] at h
  have h1 := prod_bd (A := 1000) (B := 1000) h.1.1.1 h.1.1.2 h.2.2.1 h.2.2.2 (by omega)
  have h2 := prod_bd (A := 1000) (B := 1000) h.1.2.1 h.1.2.2 h.2.1.1 h.2.1.2 (by omega)
  rw [wrap_id (x := a * d) (by omega) (by omega), wrap_id (x := b * c) (by omega) (by omega), wrap_id (by omega) (by omega)]
  omega
/-- a x + b y for small numbers. -/
theorem lin_wrap {a b x y : Int} (A : Int) (ha : -A ≤ a ∧ a ≤ A) (hb : -A ≤ b ∧ b ≤ A) (hx : -A ≤ x ∧ x ≤ A) (hy : -A ≤ y ∧ y ≤ A) (hA : 0 ≤ A) (hA2 : A ≤ 1000000000) :
    wrap64 (wrap64 (a * x) + wrap64 (b * y)) = a * x + b * y ∧ (-(2 * (A * A)) ≤ a * x + b * y ∧ a * x + b * y ≤ 2 * (A * A)) := by
  have h1 := prod_bd ha.1 ha.2 hx.1 hx.2 hA
  have h2 := prod_bd hb.1 hb.2 hy.1 hy.2 hA
  have h3 : A * A ≤ 1000000000 * 1000000000 := Int.mul_le_mul hA2 hA2 hA (by omega)
  rw [wrap_id (x := a * x) (by omega) (by omega), wrap_id (x := b * y) (by omega) (by omega), wrap_id (by omega) (by omega)]
  omega
theorem mx_abs {a : Int} (h1 : -9223372036854775808 < a) (h2 : a < 9223372036854775808) : mx a (wrap64 (-a)) = (a.natAbs : Int) := by
  rw [wrap_id (by omega) (by omega)]; unfold mx; split <;> omega

def addR (ux uy vx vy : Int) : Int × Int × Int := if vecB ux uy = true ∧ vecB vx vy = true then lim (ux + vx) (uy + vy) else (0, 0, 1)
def scaleR (x y n : Int) : Int × Int × Int := if vecB x y = true then (if -1000 ≤ n ∧ n ≤ 1000 then lim (n * x) (n * y) else (0, 0, 2)) else (0, 0, 1)
def detR (ux uy vx vy : Int) : Int × Int := if vecB ux uy = true ∧ vecB vx vy = true then (ux * vy - uy * vx, 0) else (0, 1)
def cmpv (ux uy vx vy : Int) : Int := if ux < vx ∨ (ux = vx ∧ uy < vy) then -1 else if ux = vx ∧ uy = vy then 0 else 1
def cmpR (ux uy vx vy : Int) : Int × Int := if vecB ux uy = true ∧ vecB vx vy = true then (cmpv ux uy vx vy, 0) else (0, 1)
def divR (a b : Int) : Int × Int := if (-1000000 ≤ a ∧ a ≤ 1000000) ∧ (-1000000 ≤ b ∧ b ≤ 1000000) then ((Int.gcd a b : Int), 0) else (0, 2)
def primR (x y : Int) : Int × Int × Int × Int := if vecB x y = true then (if x = 0 ∧ y = 0 then (0, 0, 0, 5) else (x / Int.gcd x y, y / Int.gcd x y, (Int.gcd x y : Int), 0)) else (0, 0, 0, 1)
def invR (a b c d : Int) : Int × Int × Int × Int × Int := if matB a b c d = true then ((a * d - b * c) * d, -(a * d - b * c) * b, -(a * d - b * c) * c, (a * d - b * c) * a, 0) else (0, 0, 0, 0, 1)
def mul1 (a b c d a' b' c' d' : Int) : Int × Int × Int × Int := (a * a' + b * c', a * b' + b * d', c * a' + d * c', c * b' + d * d')
def limM (m : Int × Int × Int × Int) : Int × Int × Int × Int × Int := if smallB m.1 m.2.1 m.2.2.1 m.2.2.2 = true then (m.1, m.2.1, m.2.2.1, m.2.2.2, 0) else (0, 0, 0, 0, 3)
def mulR (a b c d a' b' c' d' : Int) : Int × Int × Int × Int × Int := if matB a b c d = true ∧ matB a' b' c' d' = true then limM (mul1 a b c d a' b' c' d') else (0, 0, 0, 0, 1)
def appR (a b c d x y : Int) : Int × Int × Int := if matB a b c d = true ∧ vecB x y = true then lim (a * x + b * y) (c * x + d * y) else (0, 0, 1)
def frameB (f : Int) : Bool := decide (f = 0 ∨ f = 1)
def normR (f x y : Int) : Int × Int := if frameB f = true ∧ vecB x y = true then (Mth.Nf f x y, 0) else (0, 1)

def ordV (a b c d : Int) : Int := if a = 1 ∧ b = 0 ∧ c = 0 ∧ d = 1 then 1 else if (a * d - b * c = -1 ∧ a + d = 0) ∨ (a = -1 ∧ b = 0 ∧ c = 0 ∧ d = -1) then 2
  else if a * d - b * c = 1 ∧ a + d = -1 then 3 else if a * d - b * c = 1 ∧ a + d = 0 then 4 else if a * d - b * c = 1 ∧ a + d = 1 then 6 else 0
def ordR (a b c d : Int) : Int × Int := if matB a b c d = true then (ordV a b c d, 0) else (0, 1)
def kindV (a b c d : Int) : Int := if a * d - b * c = 1 then ordV a b c d else if ordV a b c d = 2 then -2 else 0
def kindR (a b c d : Int) : Int × Int := if matB a b c d = true then (kindV a b c d, 0) else (0, 1)
theorem ordV_nonneg (a b c d : Int) : 0 ≤ ordV a b c d := by
  unfold ordV
  repeat' split
  all_goals omega
/-- One factor more, by the characteristic polynomial: the product of m and x m + y. -/
theorem ch1 (a b c d x y : Int) : mul1 a b c d (x * a + y) (x * b) (x * c) (x * d + y) =
    (((a + d) * x + y) * a + -((a * d - b * c) * x), ((a + d) * x + y) * b, ((a + d) * x + y) * c, ((a + d) * x + y) * d + -((a * d - b * c) * x)) := by
  unfold mul1; simp only [Prod.mk.injEq]; refine ⟨?_, ?_, ?_, ?_⟩ <;> grind

def motB (a b c d x y : Int) : Bool := matB a b c d && (kindV a b c d != 0) && vecB x y
theorem motB_iff {a b c d x y : Int} : motB a b c d x y = true ↔ matB a b c d = true ∧ kindV a b c d ≠ 0 ∧ vecB x y = true := by unfold motB; simp [and_assoc]
def twice (a b c d x y : Int) : Int × Int := (a * x + b * y + x, c * x + d * y + y)
def kinM (a b c d x y : Int) : Int := if a * d - b * c = -1 then (if (twice a b c d x y).1 = 0 ∧ (twice a b c d x y).2 = 0 then 3 else 4) else if ¬ (a = 1 ∧ b = 0 ∧ c = 0 ∧ d = 1) then 2 else if ¬ (x = 0 ∧ y = 0) then 1 else 0
def kinR (a b c d x y : Int) : Int × Int := if motB a b c d x y = true then (kinM a b c d x y, 0) else (0, 1)
def ordmR (a b c d x y : Int) : Int × Int := if motB a b c d x y = true then (if kinM a b c d x y = 1 ∨ kinM a b c d x y = 4 then (0, 0) else (ordV a b c d, 0)) else (0, 1)
def appmR (a b c d x y vx vy : Int) : Int × Int × Int := if motB a b c d x y = true ∧ vecB vx vy = true then lim (a * vx + b * vy + x) (c * vx + d * vy + y) else (0, 0, 1)
def twiR (a b c d x y : Int) : Int × Int × Int := if motB a b c d x y = true then (if a * d - b * c = -1 then lim (twice a b c d x y).1 (twice a b c d x y).2 else (0, 0, 5)) else (0, 0, 1)
def cmp1 (a b c d x y a' b' c' d' x' y' : Int) : Int × Int × Int × Int × Int × Int := (a * a' + b * c', a * b' + b * d', c * a' + d * c', c * b' + d * d', a * x' + b * y' + x, c * x' + d * y' + y)
def cmpmR (a b c d x y a' b' c' d' x' y' : Int) : Int × Int × Int × Int × Int × Int × Int :=
  if motB a b c d x y = true ∧ motB a' b' c' d' x' y' = true then
    (if smallB (a * a' + b * c') (a * b' + b * d') (c * a' + d * c') (c * b' + d * d') = true ∧ vecB (a * x' + b * y' + x) (c * x' + d * y' + y) = true then
      (if kindV (a * a' + b * c') (a * b' + b * d') (c * a' + d * c') (c * b' + d * d') ≠ 0 then (a * a' + b * c', a * b' + b * d', c * a' + d * c', c * b' + d * d', a * x' + b * y' + x, c * x' + d * y' + y, 0) else (0, 0, 0, 0, 0, 0, 5))
    else (0, 0, 0, 0, 0, 0, 3)) else (0, 0, 0, 0, 0, 0, 1)
def invmR (a b c d x y : Int) : Int × Int × Int × Int × Int × Int × Int :=
  if motB a b c d x y = true then
    (if vecB (-((a * d - b * c) * d * x + -(a * d - b * c) * b * y)) (-(-(a * d - b * c) * c * x + (a * d - b * c) * a * y)) = true then
      ((a * d - b * c) * d, -(a * d - b * c) * b, -(a * d - b * c) * c, (a * d - b * c) * a, -((a * d - b * c) * d * x + -(a * d - b * c) * b * y), -(-(a * d - b * c) * c * x + (a * d - b * c) * a * y), 0)
    else (0, 0, 0, 0, 0, 0, 3)) else (0, 0, 0, 0, 0, 0, 1)
/-- A valid matrix keeps numbers within 2,000,000. -/
theorem lin_bd {a b x y : Int} (ha : -1000 ≤ a ∧ a ≤ 1000) (hb : -1000 ≤ b ∧ b ≤ 1000) (hx : -1000 ≤ x ∧ x ≤ 1000) (hy : -1000 ≤ y ∧ y ≤ 1000) : -2000000 ≤ a * x + b * y ∧ a * x + b * y ≤ 2000000 := by
  have h1 := prod_bd ha.1 ha.2 hx.1 hx.2 (by omega)
  have h2 := prod_bd hb.1 hb.2 hy.1 hy.2 (by omega)
  omega
theorem ordV_two {a b c d : Int} (h : a * d - b * c = -1) : ordV a b c d = 2 ↔ a + d = 0 := by
  unfold ordV
  constructor
  · intro h2
    split at h2
    · omega
    · split at h2
      · rename_i h3
        rcases h3 with h3 | ⟨rfl, rfl, rfl, rfl⟩
        · exact h3.2
        · omega
      · split at h2 <;> (try omega)
  · intro h2
    rw [if_neg (by omega), if_pos (Or.inl ⟨h, h2⟩)]
theorem det_mul {a b c d a' b' c' d' : Int} : (a * a' + b * c') * (c * b' + d * d') - (a * b' + b * d') * (c * a' + d * c') = (a * d - b * c) * (a' * d' - b' * c') := by grind
theorem matB_mul {a b c d a' b' c' d' : Int} (h : matB a b c d = true) (h' : matB a' b' c' d' = true) (hs : smallB (a * a' + b * c') (a * b' + b * d') (c * a' + d * c') (c * b' + d * d') = true) :
    matB (a * a' + b * c') (a * b' + b * d') (c * a' + d * c') (c * b' + d * d') = true := by
  rw [matB_iff]
  refine ⟨hs, ?_⟩
  rw [det_mul]
  rcases (matB_iff.mp h).2 with e | e <;> rcases (matB_iff.mp h').2 with e' | e' <;> rw [e, e'] <;> omega

theorem kind_refl' {a b c d : Int} (h : a * d - b * c = -1) (hk : kindV a b c d ≠ 0) : a + d = 0 := by
  unfold kindV at hk
  rw [if_neg (by omega)] at hk
  by_cases h2 : ordV a b c d = 2
  · exact (ordV_two h).mp h2
  · rw [if_neg h2] at hk; exact absurd rfl hk
/-- A vector divided by its divisor, turned so that it does not come before 0. -/
def norm1 (x y : Int) : Int × Int := let p := x / Int.gcd x y; let q := y / Int.gcd x y; if p < 0 ∨ (p = 0 ∧ q < 0) then (-p, -q) else (p, q)
def axisV (a b c d : Int) : Int × Int := if a + 1 = 0 ∧ c = 0 then norm1 b (d + 1) else norm1 (a + 1) c
def axisR (a b c d : Int) : Int × Int × Int := if matB a b c d = true then (if kindV a b c d = -2 then lim (axisV a b c d).1 (axisV a b c d).2 else (0, 0, 5)) else (0, 0, 1)
theorem norm1_par {x1 y1 x2 y2 : Int} (h1 : ¬ (x1 = 0 ∧ y1 = 0)) (h2 : ¬ (x2 = 0 ∧ y2 = 0)) (hp : x1 * y2 = y1 * x2) : norm1 x1 y1 = norm1 x2 y2 := by
  have hz : ¬ (x1 / Int.gcd x1 y1 = 0 ∧ y1 / Int.gcd x1 y1 = 0) := by
    rintro ⟨z1, z2⟩
    have d1 := Int.mul_ediv_cancel' (Int.gcd_dvd_left x1 y1)
    have d2 := Int.mul_ediv_cancel' (Int.gcd_dvd_right x1 y1)
    rw [z1, Int.mul_zero] at d1
    rw [z2, Int.mul_zero] at d2
    exact h1 ⟨d1.symm, d2.symm⟩
  obtain ⟨e, he, e1, e2⟩ := Mth.parallel h1 h2 hp
  unfold norm1
  simp only
  rw [e1, e2]
  generalize x1 / Int.gcd x1 y1 = p at *
  generalize y1 / Int.gcd x1 y1 = q at *
  rcases he with rfl | rfl
  · rw [Int.one_mul, Int.one_mul]
  · rw [Int.neg_one_mul, Int.neg_one_mul]
    by_cases hc : p < 0 ∨ (p = 0 ∧ q < 0)
    · rw [if_pos hc, if_neg (by omega)]
    · rw [if_neg hc, if_pos (by omega)]; simp
theorem axis_par {a b c d : Int} (h : a * d - b * c = -1) (t : a + d = 0) : (a + 1) * (1 - a) = c * b := by
  have e : d = -a := by omega
  subst e; grind
def centN (a b c d x y : Int) : Int × Int := ((1 - d) * x + b * y, c * x + (1 - a) * y)
def centG (a b c d x y : Int) : Int := Int.gcd (Int.gcd (centN a b c d x y).1 (centN a b c d x y).2) (2 - a - d)
def centV (a b c d x y : Int) : Int × Int × Int := ((centN a b c d x y).1 / centG a b c d x y, (centN a b c d x y).2 / centG a b c d x y, (2 - a - d) / centG a b c d x y)
def centR (a b c d x y : Int) : Int × Int × Int × Int := if motB a b c d x y = true then (if kinM a b c d x y = 2 then
  (if vecB (centV a b c d x y).1 (centV a b c d x y).2.1 = true then ((centV a b c d x y).1, (centV a b c d x y).2.1, (centV a b c d x y).2.2, 0) else (0, 0, 0, 3)) else (0, 0, 0, 5)) else (0, 0, 0, 1)
theorem rot_trace {a b c d : Int} (h : a * d - b * c = 1) (hk : kindV a b c d ≠ 0) (hu : ¬ (a = 1 ∧ b = 0 ∧ c = 0 ∧ d = 1)) : -2 ≤ a + d ∧ a + d ≤ 1 := by
  unfold kindV at hk
  rw [if_pos h] at hk
  unfold ordV at hk
  rw [if_neg hu] at hk
  split at hk
  · rename_i h2
    rcases h2 with h2 | h2 <;> omega
  · split at hk
    · omega
    · split at hk
      · omega
      · split at hk <;> omega

def powL (a b c d : Int) : Nat → Int × Int × Int × Int → Int × Int × Int × Int × Int
  | 0, p => (p.1, p.2.1, p.2.2.1, p.2.2.2, 0)
  | n + 1, p => if smallB (mul1 a b c d p.1 p.2.1 p.2.2.1 p.2.2.2).1 (mul1 a b c d p.1 p.2.1 p.2.2.1 p.2.2.2).2.1 (mul1 a b c d p.1 p.2.1 p.2.2.1 p.2.2.2).2.2.1 (mul1 a b c d p.1 p.2.1 p.2.2.1 p.2.2.2).2.2.2 = true
      then powL a b c d n (mul1 a b c d p.1 p.2.1 p.2.2.1 p.2.2.2) else (0, 0, 0, 0, 3)
def powR (a b c d n : Int) : Int × Int × Int × Int × Int := if matB a b c d = true then (if 0 ≤ n ∧ n ≤ 100 then powL a b c d n.toNat (1, 0, 0, 1) else (0, 0, 0, 0, 2)) else (0, 0, 0, 0, 1)
theorem mul_comm1 (a b c d x y : Int) : mul1 a b c d (x * a + y) (x * b) (x * c) (x * d + y) = mul1 (x * a + y) (x * b) (x * c) (x * d + y) a b c d := by
  unfold mul1; simp only [Prod.mk.injEq]; refine ⟨?_, ?_, ?_, ?_⟩ <;> grind

/-- The cell of a vector. -/
def redV (a b c x y : Int) : Int × Int := ((x - y / c * b) % a, y % c)
def hasB (a b c x y : Int) : Bool := (redV a b c x y).1 == 0 && (redV a b c x y).2 == 0
def reduceR (a b c x y : Int) : Int × Int × Int := if latB a b c = true ∧ vecB x y = true then ((redV a b c x y).1, (redV a b c x y).2, 0) else (0, 0, 1)
def inR (a b c x y : Int) : Bool × Int := if latB a b c = true ∧ vecB x y = true then (hasB a b c x y, 0) else (false, 1)
theorem hasB_iff {a b c x y : Int} (hc : c ≠ 0) : hasB a b c x y = true ↔ Mth.L a b c x y := by
  rw [Mth.L_iff hc]; unfold hasB redV; simp [and_comm]
theorem wf_bd {a : Int} (h : (Go.Lit.int .i64 a).wf = true) : -9223372036854775808 ≤ a ∧ a < 9223372036854775808 := by
  simp only [Go.Lit.wf, Bool.and_eq_true, decide_eq_true_eq] at h
  obtain ⟨h1, h2⟩ := h
  have e1 : Go.IntKind.min .i64 = -9223372036854775808 := by decide
  have e2 : Go.IntKind.max .i64 = 9223372036854775807 := by decide
  omega
end Go.Proofs.Ytpkjgcafbkfbgac.Sem
