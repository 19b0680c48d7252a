import Derived.Test.YtcjchihnopmplaaP0
import Derived.Test.YtcjchihnopmplaaP2
import Derived.Test.YtcjchihnopmplaaP6
import Derived.Test.YtcjchihnopmplaaP8
namespace Go.Proofs.Ytcjchihnopmplaa.F
open Go.RowKit Go.Proofs.YtcjchihnopmplaaW.PrintWords Go.Proofs.YtcjchihnopmplaaW.PrintLast Go.Proofs.YtcjchihnopmplaaW.PrintMore
attribute [local go_sem] max2_int min2_int max_two min_two max_three min_three max_four min_four   -- for this text's walks alone
set_option linter.unusedVariables false
set_option linter.unusedSimpArgs false

def spec_l02Unit.f  : Option (Int × Int × Int × Int) := some (1, 0, 0, 1)
set_option maxHeartbeats 8000000 in
set_option maxRecDepth 100000 in
theorem spec_l02Unit.calls  (r1 : Int) (r2 : Int) (r3 : Int) (r4 : Int) (w : World) (h : spec_l02Unit.f  = some (r1, r2, r3, r4)) :
  Calls Try.prog 139 #[] w fun e w' => e = .returned (.agg #[.int .i64 r1, .int .i64 r2, .int .i64 r3, .int .i64 r4]) ∧ Below w.heap.size w w' := by
 have hu51 := Try.underlying51
 have HB := aM (Below.refl w.heap.size w)
 have H : (some (1, 0, 0, 1)) = some (r1, r2, r3, r4) := h
 clear h
 simp only [Option.some.injEq, Prod.mk.injEq] at H
 obtain ⟨rfl, rfl, rfl, rfl⟩ := H
 go_enter Try.func139, Try.ntmps139
 go_wp2_with (first | ((with_reducible refine gD (N:=0) rfl ?_); refine bE 0 #[.int .i64 0, .int .i64 0, .int .i64 0, .int .i64 0] 51 ?_; intro gb311 hg w1 hbox hb; have BK311 := aM hbox; have GW311 := bZ hg HB; have GE311 := bZ hg HB; replace HB := bS HB hb; clear hb hbox hg; obtain ⟨hcz2_0, hcz2_1, hcz2_2, hcz2_3⟩ := z4 BK311; obtain ⟨hfz2_0, hfz2_1, hfz2_2, hfz2_3⟩ := y4 BK311))
 refine bodyPost_ret (results_cell_row rfl _ _ gb311 51 #[.int .i64 1, .int .i64 0, .int .i64 0, .int .i64 1] (0, 0) _ rfl (by (with_reducible repeat (first|apply kN|apply kD|apply kA)); refine blk_put (cs := #[.int .i64 1, .int .i64 0, .int .i64 0, .int .i64 0]) ?_ 3 _ rfl; (with_reducible repeat (first|apply kN|apply kD|apply kA)); refine blk_put (cs := #[.int .i64 1, .int .i64 0, .int .i64 0, .int .i64 0]) ?_ 2 _ rfl; (with_reducible repeat (first|apply kN|apply kD|apply kA)); refine blk_put (cs := #[.int .i64 1, .int .i64 0, .int .i64 0, .int .i64 0]) ?_ 1 _ rfl; (with_reducible repeat (first|apply kN|apply kD|apply kA)); refine blk_put (cs := #[.int .i64 0, .int .i64 0, .int .i64 0, .int .i64 0]) ?_ 0 _ rfl; (with_reducible repeat (first|apply kN|apply kD|apply kA)); exact BK311.out) Try.underlying51 rfl (by kernel_rfl)) rfl ?_
 exact ⟨qR, qB⟩

def spec_l02Draw.l0 : Nat → Int → List Int → Int → Int → Int → Int → Int → Int → Option (Int × Int × Int × Int × Int × Int)
 | 0, _, _, _, _, _, _, _, _ => none
 | k + 1, x4, x1000, x1001, x1002, x327000, x327001, x327002, x327003 => if x4 > 0 then ((some (([(⟨1, 1, 0, 1⟩ : S51), (⟨1, 0, 1, 1⟩ : S51), (⟨1, (-2), 0, 1⟩ : S51), (⟨0, 1, 1, 0⟩ : S51), (⟨(-1), 0, 0, 1⟩ : S51)] : List (S51)) : List (S51))).bind fun y330 => ((spec_l01Next.f x1000 x1001 x1002 5).bind fun bt333 => (if 0 ≤ bt333.1 then (if bt333.1 < (y330.length : Int) then ((spec_l02Multiply.f x327000 x327001 x327002 x327003 ((rd_T51 y330 bt333.1).f0) ((rd_T51 y330 bt333.1).f1) ((rd_T51 y330 bt333.1).f2) ((rd_T51 y330 bt333.1).f3)).bind fun bt337 => (spec_l02Draw.l0 k (wrap64 (x4 - 1)) x1000 bt333.2.1 bt333.2.2 bt337.1 bt337.2.1 bt337.2.2.1 bt337.2.2.2)) else (none)) else (none)))) else ((spec_l01Next.f x1000 x1001 x1002 20).bind fun bt341 => (if bt341.1 = 0 then (some (wrap64 (x327000 + 1), x327001, x327002, x327003, bt341.2.1, bt341.2.2)) else (if bt341.1 = 1 then ((spec_l01Pick.f x1000 bt341.2.1 bt341.2.2 (([999, 1000, 1001] : List Int))).bind fun bt347 => (some (1, bt347.1, 0, 1, bt347.2.1, bt347.2.2))) else (some (x327000, x327001, x327002, x327003, bt341.2.1, bt341.2.2)))))
def spec_l02Draw.f (k : Nat) (s0_0 : List Int) (s0_1 : Int) (s0_2 : Int) : Option (Int × Int × Int × Int × Int × Int) := (spec_l01Next.f s0_0 s0_1 s0_2 3).bind fun bt313 => (if bt313.1 > 0 then ((spec_l02DrawFinite.f k s0_0 bt313.2.1 bt313.2.2).bind fun bt316 => (some (bt316.1, bt316.2.1, bt316.2.2.1, bt316.2.2.2.1, bt316.2.2.2.2.1, bt316.2.2.2.2.2))) else ((spec_l02Unit.f).bind fun bt322 => ((spec_l01Next.f s0_0 bt313.2.1 bt313.2.2 5).bind fun bt327 => (spec_l02Draw.l0 k bt327.1 s0_0 bt327.2.1 bt327.2.2 bt322.1 bt322.2.1 bt322.2.2.1 bt322.2.2.2))))
def spec_l02Draw.T7 : Bool × List (List Nat × List Nat) := (true, [([], []), ([], []), ([], []), ([], []), ([], []), ([], []), ([1, 2, 3, 4, 5], [1, 2, 3, 4, 5]), ([], []), ([7], [7]), ([6, 8], [6, 8]), ([9], [9]), ([0, 10, 8], [0, 10]), ([11, 11, 0, 1, 2, 3, 4, 5, 6, 7, 8, 9, 10, 11], [11])])
def spec_l02Draw.B7 : List Nat := [0, 0, 0, 0, 0, 0, 62, 0, 128, 510, 1022, 2047, 4095]
theorem spec_l02Draw.tab7 : rtab .any (opsOf Try.f88 7) = spec_l02Draw.T7 := by kernel_rfl
theorem spec_l02Draw.bits7 : waitsOk spec_l02Draw.T7.2 spec_l02Draw.B7 = true := by kernel_rfl
set_option maxHeartbeats 8000000 in
set_option maxRecDepth 100000 in
theorem spec_l02Draw.calls (k : Nat) (g : Nat) (s0_0 : List Int) (s0_1 : Int) (s0_2 : Int) (r1 : Int) (r2 : Int) (r3 : Int) (r4 : Int) (r5 : Int) (r6 : Int) (w0 w : World) (hI : IsS144 w0 w g s0_0 s0_1 s0_2) (hB : Below w0.heap.size w0 w) (h : spec_l02Draw.f k s0_0 s0_1 s0_2 = some (r1, r2, r3, r4, r5, r6)) :
  Calls Try.prog 88 #[.pointer (some ⟨g, 0, none⟩)] w fun e w' => e = .returned (.agg #[.int .i64 r1, .int .i64 r2, .int .i64 r3, .int .i64 r4]) ∧ IsS144 w0 w' g s0_0 r5 r6 ∧ Below w0.heap.size w0 w' ∧ KeepBut w w' g none := by
 have hu51 := Try.underlying51
 have HI0 := aM hI
 have HK := aM (KeepBut.refl w g none)
 have HL := aM hB.size
 clear hI
 have HW0 := aM hB.size
 have HB := aM hB
 clear hB
 have H : ((spec_l01Next.f s0_0 s0_1 s0_2 3).bind fun bt313 => (if bt313.1 > 0 then ((spec_l02DrawFinite.f k s0_0 bt313.2.1 bt313.2.2).bind fun bt316 => (some (bt316.1, bt316.2.1, bt316.2.2.1, bt316.2.2.2.1, bt316.2.2.2.2.1, bt316.2.2.2.2.2))) else ((spec_l02Unit.f).bind fun bt322 => ((spec_l01Next.f s0_0 bt313.2.1 bt313.2.2 5).bind fun bt327 => (spec_l02Draw.l0 k bt327.1 s0_0 bt327.2.1 bt327.2.2 bt322.1 bt322.2.1 bt322.2.2.1 bt322.2.2.2))))) = some (r1, r2, r3, r4, r5, r6) := h
 clear h
 obtain ⟨⟨t313, t314, t315⟩, A2, H⟩ := oB H
 try dsimp only at H
 by_cases c3 : t313 > 0
 ·rw [if_pos c3] at H
  have c3b0 : decide (0 < t313) = true := decide_eq_true c3
  clear c3
  obtain ⟨⟨t316, t317, t318, t319, t320, t321⟩, A4, H⟩ := oB H
  try dsimp only at H
  simp only [Option.some.injEq, Prod.mk.injEq] at H
  obtain ⟨rfl, rfl, rfl, rfl, rfl, rfl⟩ := H
  go_enter Try.func88, Try.ntmps88
  go_wp2_with (first | ((with_reducible refine gD (N:=2) rfl ?_); refine bE 2 #[.int .i64 0, .int .i64 0, .int .i64 0, .int .i64 0] 51 ?_; intro gb312 hg w5 hbox hb; have BK312 := aM hbox; have GW312 := kZ hg HK; have GE312 := kY HW0 hg HK; have NB0_312 := iL g hg; have NB312_0 := iG g hg; replace HI0 := iB g hb; replace HK := kU HK hb; replace HB := bS HB hb; clear hb hbox hg) | ((with_reducible refine gC (f:=84) rfl ?_); refine gM 6 (spec_l01Next.calls g s0_0 s0_1 s0_2 3 t313 t314 t315 w0 _ qI qB A2.out) Try.func84 ?_; rintro w6 ⟨hi, hb, hk⟩; replace BK312 := kB hk BK312 NB312_0; replace HK := kT HK hk; replace HB := aM hb; replace HI0 := aM hi; (try clear hb)) | ((with_reducible refine gC (f:=138) rfl ?_); refine gM 9 (spec_l02DrawFinite.calls k g s0_0 t314 t315 t316 t317 t318 t319 t320 t321 w0 _ qI qB A4.out) Try.func138 ?_; rintro w7 ⟨hi, hb, hk⟩; replace BK312 := kB hk BK312 NB312_0; replace HK := kT HK hk; replace HB := aM hb; replace HI0 := aM hi; (try clear hb); have hnb8 := NB312_0.out; have hnc8 := NB0_312.out; obtain ⟨hcz9_0, hcz9_1, hcz9_2, hcz9_3⟩ := z4 BK312; obtain ⟨hfz9_0, hfz9_1, hfz9_2, hfz9_3⟩ := y4 BK312))
  refine bodyPost_ret (results_cell_row rfl _ _ gb312 51 #[.int .i64 t316, .int .i64 t317, .int .i64 t318, .int .i64 t319] (0, 0) _ rfl (by (with_reducible repeat (first|apply kN|apply kD|apply kA)); refine blk_put (cs := #[.int .i64 t316, .int .i64 t317, .int .i64 t318, .int .i64 0]) ?_ 3 _ rfl; (with_reducible repeat (first|apply kN|apply kD|apply kA)); refine blk_put (cs := #[.int .i64 t316, .int .i64 t317, .int .i64 0, .int .i64 0]) ?_ 2 _ rfl; (with_reducible repeat (first|apply kN|apply kD|apply kA)); refine blk_put (cs := #[.int .i64 t316, .int .i64 0, .int .i64 0, .int .i64 0]) ?_ 1 _ rfl; (with_reducible repeat (first|apply kN|apply kD|apply kA)); refine blk_put (cs := #[.int .i64 0, .int .i64 0, .int .i64 0, .int .i64 0]) ?_ 0 _ rfl; (with_reducible repeat (first|apply kN|apply kD|apply kA)); exact BK312.out) Try.underlying51 rfl (by kernel_rfl)) rfl ?_
  exact ⟨qR, qI, qB, qK⟩
 ·rw [if_neg c3] at H
  have c3b0 : decide (0 < t313) = false := decide_eq_false c3
  clear c3
  obtain ⟨⟨t322, t323, t324, t325⟩, A10, H⟩ := oB H
  try dsimp only at H
  obtain ⟨⟨t327, t328, t329⟩, A11, H⟩ := oB H
  try dsimp only at H
  have H' := aM H
  clear H
  go_enter Try.func88, Try.ntmps88
  go_wp2_with (first | ((with_reducible refine gD (N:=2) rfl ?_); refine bE 2 #[.int .i64 0, .int .i64 0, .int .i64 0, .int .i64 0] 51 ?_; intro gb312 hg w12 hbox hb; have BK312 := aM hbox; have GW312 := kZ hg HK; have GE312 := kY HW0 hg HK; have NB0_312 := iL g hg; have NB312_0 := iG g hg; replace HI0 := iB g hb; replace HK := kU HK hb; replace HB := bS HB hb; clear hb hbox hg) | ((with_reducible refine gC (f:=84) rfl ?_); refine gM 6 (spec_l01Next.calls g s0_0 s0_1 s0_2 3 t313 t314 t315 w0 _ qI qB A2.out) Try.func84 ?_; rintro w13 ⟨hi, hb, hk⟩; replace BK312 := kB hk BK312 NB312_0; replace HK := kT HK hk; replace HB := aM hb; replace HI0 := aM hi; (try clear hb)) | ((with_reducible refine gC (f:=139) rfl ?_); refine gM 10 (spec_l02Unit.calls  t322 t323 t324 t325 _ A10.out) Try.func139 ?_; rintro w14 hb; replace HI0 := iB g hb; replace BK312 := bB BK312 hb; replace HK := kU HK hb; replace HB := bS HB hb; (try clear hb)) | ((with_reducible refine gD (N:=3) rfl ?_); refine bE 3 #[.int .i64 0, .int .i64 0, .int .i64 0, .int .i64 0] 51 ?_; intro gb326 hg w15 hbox hb; have BK326 := aM hbox; have GW326 := kZ hg HK; have GE326 := kY HW0 hg HK; have NB312_326 := nL hg BK312; have NB326_312 := nG hg BK312; have NB0_326 := iL g hg; have NB326_0 := iG g hg; replace HI0 := iB g hb; replace BK312 := bB BK312 hb; replace HK := kU HK hb; replace HB := bS HB hb; clear hb hbox hg; have hnb16 := NB326_312.out; have hnc16 := NB312_326.out; have hnb17 := NB326_0.out; have hnc17 := NB0_326.out; obtain ⟨hcz18_0, hcz18_1, hcz18_2, hcz18_3⟩ := z4 BK326; obtain ⟨hfz18_0, hfz18_1, hfz18_2, hfz18_3⟩ := y4 BK326) | ((with_reducible refine gC (f:=84) rfl ?_); refine gM 12 (spec_l01Next.calls g s0_0 t314 t315 5 t327 t328 t329 w0 _ qI qB A11.out) Try.func84 ?_; rintro w19 ⟨hi, hb, hk⟩; replace BK312 := kB hk BK312 NB312_0; replace BK326 := kP (.cells #[.int .i64 t322, .int .i64 t323, .int .i64 t324, .int .i64 t325] 51 (0, 0)) hk BK326 NB326_0; replace HK := kT HK hk; replace HB := aM hb; replace HI0 := aM hi; (try clear hb)))
  go_loopg [4] k (fun kq v4 w' => ∃ (x4_1 : Int) (x1001_1 : Int) (x1002_1 : Int) (x327000_1 : Int) (x327001_1 : Int) (x327002_1 : Int) (x327003_1 : Int), v4 = .int .i64 x4_1 ∧ Aside0 (spec_l02Draw.l0 kq x4_1 s0_0 x1001_1 x1002_1 x327000_1 x327001_1 x327002_1 x327003_1 = some (r1, r2, r3, r4, r5, r6)) ∧ Aside0 (kq ≤ k) ∧ Aside0 (w'.heap[gb312]? = some (.cells #[.int .i64 0, .int .i64 0, .int .i64 0, .int .i64 0] 51 (0, 0))) ∧ Aside0 (w'.heap[gb326]? = some (.cells #[.int .i64 x327000_1, .int .i64 x327001_1, .int .i64 x327002_1, .int .i64 x327003_1] 51 (0, 0))) ∧ Aside0 (IsS144 w0 w' g s0_0 x1001_1 x1002_1) ∧ Aside0 (KeepBut w w' g none) ∧ Aside0 (Below w0.heap.size w0 w'))
  case atStart => exact ⟨(t327), (t328), (t329), (t322), (t323), (t324), (t325), (by first | rfl | (simp; done) | (simp [*]; done)), H', ⟨Nat.le_refl _⟩, ⟨bk BK312⟩, ⟨bk BK326⟩, ⟨by repeat (first | (with_reducible first | exact HI0.out | apply sA|apply sN|apply sD|apply s1|apply s2 | refine IsS144.far ?_ NB0_312.out _ | refine IsS144.far ?_ NB0_326.out _) | exact HI0.out)⟩, ⟨by repeat (first | (with_reducible first | exact HK.out | apply eS|apply eN|apply eD|apply eA | refine keep_far ?_ GW312.out _ | refine keep_far ?_ GW326.out _) | exact HK.out)⟩, ⟨qB⟩⟩
  case round =>
   clear H'
   try clear c1
   try clear p2
   try clear c3
   try clear c3b0
   try clear c8
   try clear c13
   try clear c16
   try clear c17
   try clear hcz18_0
   try clear hcz18_1
   try clear hcz18_2
   try clear hcz18_3
   try clear hcz9_0
   try clear hcz9_1
   try clear hcz9_2
   try clear hcz9_3
   try clear hfz18_0
   try clear hfz18_1
   try clear hfz18_2
   try clear hfz18_3
   try clear hfz9_0
   try clear hfz9_1
   try clear hfz9_2
   try clear hfz9_3
   obtain ⟨x4_1, x1001_1, x1002_1, x327000_1, x327001_1, x327002_1, x327003_1, rfl, HA, HK1, BK312, BK326, HI0, HK, HB⟩ := hrel
   cases gk with
   | zero => exact absurd HA.out (by simp [spec_l02Draw.l0])
   | succ k1 =>
    have H := HA.out
    clear HA
    simp only [spec_l02Draw.l0] at H
    by_cases c20 : x4_1 > 0
    ·rw [if_pos c20] at H
     have c20b0 : decide (0 < x4_1) = true := decide_eq_true c20
     clear c20
     obtain ⟨y330, hy330⟩ : ∃ y_ : List (S51), y_ = (([(⟨1, 1, 0, 1⟩ : S51), (⟨1, 0, 1, 1⟩ : S51), (⟨1, (-2), 0, 1⟩ : S51), (⟨0, 1, 1, 0⟩ : S51), (⟨(-1), 0, 0, 1⟩ : S51)] : List (S51))) := ⟨_, rfl⟩
     replace H : ((spec_l01Next.f s0_0 x1001_1 x1002_1 5).bind fun bt333 => (if 0 ≤ bt333.1 then (if bt333.1 < (y330.length : Int) then ((spec_l02Multiply.f x327000_1 x327001_1 x327002_1 x327003_1 ((rd_T51 y330 bt333.1).f0) ((rd_T51 y330 bt333.1).f1) ((rd_T51 y330 bt333.1).f2) ((rd_T51 y330 bt333.1).f3)).bind fun bt337 => (spec_l02Draw.l0 k1 (wrap64 (x4_1 - 1)) s0_0 bt333.2.1 bt333.2.2 bt337.1 bt337.2.1 bt337.2.2.1 bt337.2.2.2)) else (none)) else (none))) = some (r1, r2, r3, r4, r5, r6) := by first | (rw [hy330]; with_reducible exact H) | (have H2_ := (Option.bind_some _ _).symm.trans H; rw [hy330]; with_reducible exact H2_) | (have H2_ := (Option.bind_some _ _).symm.trans H; with_reducible exact H2_) | with_reducible exact H | (rw [hy330]; exact H) | exact H
     have Ny330 := aM hy330
     clear hy330
     obtain ⟨⟨t333, t334, t335⟩, A21, H⟩ := oB H
     try dsimp only at H
     by_cases c22 : 0 ≤ t333
     ·rw [if_pos c22] at H
      have c22b0 : decide (0 ≤ t333) = true := decide_eq_true c22
      clear c22
      by_cases c23 : t333 < (y330.length : Int)
      ·rw [if_pos c23] at H
       have c23b0 : decide (t333 < (y330.length : Int)) = true := decide_eq_true c23
       clear c23
       obtain ⟨⟨t337, t338, t339, t340⟩, A24, H⟩ := oB H
       try dsimp only at H
       have H' := aM H
       clear H
       try go_wp2
       have pi336 : (0 ≤ (t333 : Int)) = True := eq_true (of_decide_eq_true (by first | (with_reducible assumption) | assumption))
       have qi336 : (t333 < (y330.length : Int)) = True := eq_true (of_decide_eq_true (by first | (with_reducible assumption) | assumption))
       replace BK312 := aM (blk_drew BK312.out)
       replace BK326 := aM (blk_drew BK326.out)
       replace HI0 := aM (IsS144.drew HI0.out)
       replace HK := aM (keep_drew HK.out)
       replace HB := aM (below_drew1 HB.out)
       refine sT (fun w' => w'.cell? ⟨gb326, 0, none⟩ = some (.int .i64 x327000_1) ∧ w'.cell? ⟨gb326, 1, none⟩ = some (.int .i64 x327001_1) ∧ w'.cell? ⟨gb326, 2, none⟩ = some (.int .i64 x327002_1) ∧ w'.cell? ⟨gb326, 3, none⟩ = some (.int .i64 x327003_1)) [12] ⟨cB BK326, cB BK326, cB BK326, cB BK326⟩ (fun hHeld => ?_); refine with_tabW spec_l02Draw.tab7 spec_l02Draw.bits7 (fun HT_ HW_ => ?_)
       generalize wr.drew = w25 at BK312 BK326 HI0 HK HB hHeld ⊢
       refine pU 1 (some 18) 2 HT_ ?_
       refine pU 2 (some 19) 6 HT_ ?_
       refine pU 3 (some 20) 14 HT_ ?_
       refine pU 4 (some 21) 30 HT_ ?_
       refine pU 5 (some 22) 62 HT_ ?_
       refine pU 7 (some 24) 190 HT_ ?_
       refine tU 0 (some 17) 191 HT_ HW_ hHeld ?_
       refine join_ (σ := Value × Addr) 4 (bz 13 511) (fun s_ => [(23, s_.1), (25, .int .i64 t333)]) (fun s_ w' => (w'.cell? ⟨gb326, 0, none⟩ = some (.int .i64 x327000_1) ∧ w'.cell? ⟨gb326, 1, none⟩ = some (.int .i64 x327001_1) ∧ w'.cell? ⟨gb326, 2, none⟩ = some (.int .i64 x327002_1) ∧ w'.cell? ⟨gb326, 3, none⟩ = some (.int .i64 x327003_1)) ∧ (Kd.R k51 51 w' w.heap.size (fun k_ => k_ ≠ gb312 ∧ k_ ≠ gb326) s_.1 y330) ∧ (∃ c_, (s_.1 : Value) = .slice (some s_.2) y330.length c_) ∧ (w'.heap[gb312]? = some (.cells #[.int .i64 0, .int .i64 0, .int .i64 0, .int .i64 0] 51 (0, 0))) ∧ (w'.heap[gb326]? = some (.cells #[.int .i64 x327000_1, .int .i64 x327001_1, .int .i64 x327002_1, .int .i64 x327003_1] 51 (0, 0))) ∧ (IsS144 w0 w' g s0_0 t334 t335) ∧ (KeepBut w w' g none) ∧ (Below w0.heap.size w0 w')) ?_ ?_
       rotate_left
       ·intro hCont
        refine two_ (i := 6) (j := 8) (Ni := some 23) (Nj := some 25) (bz 13 255) (bz 13 447) rfl rfl rfl rfl (two_of HT_.out (by kernel_rfl)) (by decide) (by decide) (fun K hK => ?_) (fun K hK => ?_)
        ·skip
         refine Kd.R_lit_step k51 _ 51 ?hg (N := 23) ?hd (xs := ([(⟨1, 1, 0, 1⟩ : S51), (⟨1, 0, 1, 1⟩ : S51), (⟨1, (-2), 0, 1⟩ : S51), (⟨0, 1, 1, 0⟩ : S51), (⟨(-1), 0, 0, 1⟩ : S51)] : List (S51))) (inner := [.int .i64 1, .int .i64 1, .int .i64 0, .int .i64 1, .int .i64 1, .int .i64 0, .int .i64 1, .int .i64 1, .int .i64 1, .int .i64 (-2), .int .i64 0, .int .i64 1, .int .i64 0, .int .i64 1, .int .i64 1, .int .i64 0, .int .i64 (-1), .int .i64 0, .int .i64 0, .int .i64 1]) (ok := fun _ => True) (okp := fun _ => True) ?hr ?hp (fun _ hk => hk) trivial (Below.refl _ _) (Nat.le_refl _) (by simp) ?_; (case hd => rfl); (case hg => rfl); (case hr => first | (go_simp; done) | (go_simp; rfl)); (case hp => exact (Reps.c4 (show Kd.M k51 _ _ _ (⟨1, 1, 0, 1⟩ : S51) [.int .i64 1, .int .i64 1, .int .i64 0, .int .i64 1] from (k51_mkM _ _ _ (⟨1, 1, 0, 1⟩ : S51) )) (Reps.c4 (show Kd.M k51 _ _ _ (⟨1, 0, 1, 1⟩ : S51) [.int .i64 1, .int .i64 0, .int .i64 1, .int .i64 1] from (k51_mkM _ _ _ (⟨1, 0, 1, 1⟩ : S51) )) (Reps.c4 (show Kd.M k51 _ _ _ (⟨1, (-2), 0, 1⟩ : S51) [.int .i64 1, .int .i64 (-2), .int .i64 0, .int .i64 1] from (k51_mkM _ _ _ (⟨1, (-2), 0, 1⟩ : S51) )) (Reps.c4 (show Kd.M k51 _ _ _ (⟨0, 1, 1, 0⟩ : S51) [.int .i64 0, .int .i64 1, .int .i64 1, .int .i64 0] from (k51_mkM _ _ _ (⟨0, 1, 1, 0⟩ : S51) )) (Reps.c4 (show Kd.M k51 _ _ _ (⟨(-1), 0, 0, 1⟩ : S51) [.int .i64 (-1), .int .i64 0, .int .i64 0, .int .i64 1] from (k51_mkM _ _ _ (⟨(-1), 0, 0, 1⟩ : S51) )) (Reps.none _ _)))))))
         intro v331 w26 ho27 hb hg_ hnew_
         clear hg_ hnew_
         (first | rw [← Ny330.out] at ho27 | (simp only [Int.reduceToNat] at ho27; rw [← Ny330.out] at ho27))
         have HO332 := aM (Kd.R_lower (Kd.R_newB (Kd.R_newB ho27 (g := gb312) (o := .cells #[.int .i64 0, .int .i64 0, .int .i64 0, .int .i64 0] 51 (0, 0)) (bk BK312)) (g := gb326) (o := .cells #[.int .i64 x327000_1, .int .i64 x327001_1, .int .i64 x327002_1, .int .i64 x327003_1] 51 (0, 0)) (bk BK326)) (keep_size (w := w) (g := g) (row := none) qK))
         replace BK312 := bB BK312 hb
         replace BK326 := bB BK326 hb
         replace HI0 := iB g hb
         replace HK := kU HK hb
         replace HB := bS HB hb
         clear hb ho27
         obtain ⟨Ao28, co28, eo28⟩ := Kd.R_slice HO332.out
         subst eo28
         obtain ⟨ado28, fo28, _⟩ := at_T51 (Kd.R_reads' HO332.out).2.2 0 (by decide) (by rw [Ny330.out]; simp)
         cases fo28
         refine hK.out _ _ ⟨cB BK326, cB BK326, cB BK326, cB BK326⟩ (fun hHeld => ?_)
         clear hK K
         refine nM 23 ?_
         refine oU 8 (some 25) 511 HT_ (fun K hK => ?_)
         refine gO Try.func84 #[.pointer (some ⟨g, 0, none⟩), .int .i64 5] ?_
         with_reducible refine (spec_l01Next.calls g s0_0 x1001_1 x1002_1 5 t333 t334 t335 w0 _ ?side1 ?side2 A21.out).mono ?_
         (case side1 => repeat (first | (with_reducible first | exact HI0.out | apply sA|apply sN|apply sD|apply s1|apply s2 | refine IsS144.far ?_ NB0_312.out _ | refine IsS144.far ?_ NB0_326.out _) | exact HI0.out))
         (case side2 => repeat (first | (with_reducible first | exact HB.out | apply bA|apply bN|apply b1 | refine below_set ?_ (IsS144.ge HI0.out) | refine below_set ?_ (Aside0.out (by assumption))) | exact HB.out))
         rintro e w29 ⟨rfl, hi, hb, hk⟩
         refine ⟨_, rfl, ?_⟩
         replace BK312 := kB hk BK312 NB312_0
         replace BK326 := kB hk BK326 NB326_0
         replace HO332 := aM (Kd.R_mono (Kd.R_keep (IsS144.apart (show IsS144 w0 _ g s0_0 x1001_1 x1002_1 from by repeat (first | (with_reducible first | exact HI0.out | apply sA|apply sN|apply sD|apply s1|apply s2 | refine IsS144.far ?_ NB0_312.out _ | refine IsS144.far ?_ NB0_326.out _) | exact HI0.out)) (by (with_reducible repeat (first | apply Kd.R_alloc | apply Kd.R_drewN | apply Kd.R_drew)); exact HO332.out) (by decide)) hk (fun _ h => h.2)) (fun _ h => h.1))
         replace HK := kT HK hk
         replace HB := aM hb
         replace HI0 := aM hi
         (try clear hb)
         (try clear hb2)
         (try clear hk)
         (try clear hi)
         refine hK.out _ _ ⟨cB BK326, cB BK326, cB BK326, cB BK326⟩ (fun hHeld => ?_)
         clear hK K
         refine nM 25 ?_
         exact norm_ (by simp only [putAll, Act.put, List.setIfInBounds_toArray, List.set_cons_zero, List.set_cons_succ]) (hCont (.slice (some ado28) y330.length co28, ado28) _ ⟨hHeld, (by (with_reducible repeat (first | apply Kd.R_alloc | apply Kd.R_drewN | apply Kd.R_drew)); exact Kd.R_mono HO332.out (fun _ hk => ⟨hk.1.2, hk.2⟩)), ⟨_, rfl⟩, (bk BK312), (bk BK326), qI, qK, qB⟩)
        ·skip
         refine gO Try.func84 #[.pointer (some ⟨g, 0, none⟩), .int .i64 5] ?_
         with_reducible refine (spec_l01Next.calls g s0_0 x1001_1 x1002_1 5 t333 t334 t335 w0 _ ?side1 ?side2 A21.out).mono ?_
         (case side1 => repeat (first | (with_reducible first | exact HI0.out | apply sA|apply sN|apply sD|apply s1|apply s2 | refine IsS144.far ?_ NB0_312.out _ | refine IsS144.far ?_ NB0_326.out _) | exact HI0.out))
         (case side2 => repeat (first | (with_reducible first | exact HB.out | apply bA|apply bN|apply b1 | refine below_set ?_ (IsS144.ge HI0.out) | refine below_set ?_ (Aside0.out (by assumption))) | exact HB.out))
         rintro e w26 ⟨rfl, hi, hb, hk⟩
         refine ⟨_, rfl, ?_⟩
         replace BK312 := kB hk BK312 NB312_0
         replace BK326 := kB hk BK326 NB326_0
         replace HK := kT HK hk
         replace HB := aM hb
         replace HI0 := aM hi
         (try clear hb)
         (try clear hb2)
         (try clear hk)
         (try clear hi)
         refine hK.out _ _ ⟨cB BK326, cB BK326, cB BK326, cB BK326⟩ (fun hHeld => ?_)
         clear hK K
         refine nM 25 ?_
         refine oU 6 (some 23) 511 HT_ (fun K hK => ?_)
         refine Kd.R_lit_step k51 _ 51 ?hg (N := 23) ?hd (xs := ([(⟨1, 1, 0, 1⟩ : S51), (⟨1, 0, 1, 1⟩ : S51), (⟨1, (-2), 0, 1⟩ : S51), (⟨0, 1, 1, 0⟩ : S51), (⟨(-1), 0, 0, 1⟩ : S51)] : List (S51))) (inner := [.int .i64 1, .int .i64 1, .int .i64 0, .int .i64 1, .int .i64 1, .int .i64 0, .int .i64 1, .int .i64 1, .int .i64 1, .int .i64 (-2), .int .i64 0, .int .i64 1, .int .i64 0, .int .i64 1, .int .i64 1, .int .i64 0, .int .i64 (-1), .int .i64 0, .int .i64 0, .int .i64 1]) (ok := fun _ => True) (okp := fun _ => True) ?hr ?hp (fun _ hk => hk) trivial (Below.refl _ _) (Nat.le_refl _) (by simp) ?_; (case hd => rfl); (case hg => rfl); (case hr => first | (go_simp; done) | (go_simp; rfl)); (case hp => exact (Reps.c4 (show Kd.M k51 _ _ _ (⟨1, 1, 0, 1⟩ : S51) [.int .i64 1, .int .i64 1, .int .i64 0, .int .i64 1] from (k51_mkM _ _ _ (⟨1, 1, 0, 1⟩ : S51) )) (Reps.c4 (show Kd.M k51 _ _ _ (⟨1, 0, 1, 1⟩ : S51) [.int .i64 1, .int .i64 0, .int .i64 1, .int .i64 1] from (k51_mkM _ _ _ (⟨1, 0, 1, 1⟩ : S51) )) (Reps.c4 (show Kd.M k51 _ _ _ (⟨1, (-2), 0, 1⟩ : S51) [.int .i64 1, .int .i64 (-2), .int .i64 0, .int .i64 1] from (k51_mkM _ _ _ (⟨1, (-2), 0, 1⟩ : S51) )) (Reps.c4 (show Kd.M k51 _ _ _ (⟨0, 1, 1, 0⟩ : S51) [.int .i64 0, .int .i64 1, .int .i64 1, .int .i64 0] from (k51_mkM _ _ _ (⟨0, 1, 1, 0⟩ : S51) )) (Reps.c4 (show Kd.M k51 _ _ _ (⟨(-1), 0, 0, 1⟩ : S51) [.int .i64 (-1), .int .i64 0, .int .i64 0, .int .i64 1] from (k51_mkM _ _ _ (⟨(-1), 0, 0, 1⟩ : S51) )) (Reps.none _ _)))))))
         intro v331 w27 ho28 hb hg_ hnew_
         clear hg_ hnew_
         (first | rw [← Ny330.out] at ho28 | (simp only [Int.reduceToNat] at ho28; rw [← Ny330.out] at ho28))
         have HO332 := aM (Kd.R_lower (Kd.R_newB (Kd.R_newB ho28 (g := gb312) (o := .cells #[.int .i64 0, .int .i64 0, .int .i64 0, .int .i64 0] 51 (0, 0)) (bk BK312)) (g := gb326) (o := .cells #[.int .i64 x327000_1, .int .i64 x327001_1, .int .i64 x327002_1, .int .i64 x327003_1] 51 (0, 0)) (bk BK326)) (keep_size (w := w) (g := g) (row := none) qK))
         replace BK312 := bB BK312 hb
         replace BK326 := bB BK326 hb
         replace HI0 := iB g hb
         replace HK := kU HK hb
         replace HB := bS HB hb
         clear hb ho28
         obtain ⟨Ao29, co29, eo29⟩ := Kd.R_slice HO332.out
         subst eo29
         obtain ⟨ado29, fo29, _⟩ := at_T51 (Kd.R_reads' HO332.out).2.2 0 (by decide) (by rw [Ny330.out]; simp)
         cases fo29
         refine hK.out _ _ ⟨cB BK326, cB BK326, cB BK326, cB BK326⟩ (fun hHeld => ?_)
         clear hK K
         refine nM 23 ?_
         exact norm_ (by simp only [putAll, Act.put, List.setIfInBounds_toArray, List.set_cons_zero, List.set_cons_succ]) (hCont (.slice (some ado29) y330.length co29, ado29) _ ⟨hHeld, (by (with_reducible repeat (first | apply Kd.R_alloc | apply Kd.R_drewN | apply Kd.R_drew)); exact Kd.R_mono HO332.out (fun _ hk => ⟨hk.1.2, hk.2⟩)), ⟨_, rfl⟩, (bk BK312), (bk BK326), qI, qK, qB⟩)
       rintro ⟨v331, adz_v331⟩ w30 ⟨hS_, h0_, h1_, h2_, h3_, h4_, h5_, h6_⟩
       have n0_ : Aside0 (Kd.R k51 51 w30 w.heap.size (fun k_ => k_ ≠ gb312 ∧ k_ ≠ gb326) v331 y330) := ⟨h0_⟩
       have n1_ : Aside0 (∃ c_, (v331 : Value) = .slice (some adz_v331) y330.length c_) := ⟨h1_⟩
       have n2_ : Aside0 (w30.heap[gb312]? = some (.cells #[.int .i64 0, .int .i64 0, .int .i64 0, .int .i64 0] 51 (0, 0))) := ⟨h2_⟩
       have n3_ : Aside0 (w30.heap[gb326]? = some (.cells #[.int .i64 x327000_1, .int .i64 x327001_1, .int .i64 x327002_1, .int .i64 x327003_1] 51 (0, 0))) := ⟨h3_⟩
       have n4_ : Aside0 (IsS144 w0 w30 g s0_0 t334 t335) := ⟨h4_⟩
       have n5_ : Aside0 (KeepBut w w30 g none) := ⟨h5_⟩
       have n6_ : Aside0 (Below w0.heap.size w0 w30) := ⟨h6_⟩
       clear BK312
       clear BK326
       clear HI0
       clear HK
       clear HB
       clear h0_ h1_ h2_ h3_ h4_ h5_ h6_
       have HO332 := n0_
       have HA_HO332 := n1_
       have BK312 := n2_
       have BK326 := n3_
       have HI0 := n4_
       have HK := n5_
       have HB := n6_
       clear n0_ n1_ n2_ n3_ n4_ n5_ n6_
       have hHeld : w30.cell? ⟨gb326, 0, none⟩ = some (.int .i64 x327000_1) ∧ w30.cell? ⟨gb326, 1, none⟩ = some (.int .i64 x327001_1) ∧ w30.cell? ⟨gb326, 2, none⟩ = some (.int .i64 x327002_1) ∧ w30.cell? ⟨gb326, 3, none⟩ = some (.int .i64 x327003_1) := hS_
       obtain ⟨co31, eo31⟩ := HA_HO332.out
       clear HA_HO332
       subst eo31
       refine norm_ (a' := ?_) ?_ ?_
       rotate_left
       ·simp only [putAll, Act.put, List.setIfInBounds_toArray, List.set_cons_zero, List.set_cons_succ]
        rfl
       refine pU 9 (some 26) 1023 HT_ ?_
       refine oU 10 (some 27) 2047 HT_ (fun K hK => ?_)
       (have p336 : 0 ≤ (t333 : Int) := of_decide_eq_true (by first | (with_reducible assumption) | assumption); have q336 : t333 < (y330.length : Int) := of_decide_eq_true (by first | (with_reducible assumption) | assumption); obtain ⟨ad336, e336, hx336_0, hx336_1, hx336_2, hx336_3⟩ := at_T51 (Kd.R_reads' HO332.out).2.2 t333 p336 q336; obtain rfl : adz_v331 = ad336 := (by injection e336))
       refine value_ (w1 := ?_) (v := ?_) (by rfl) rfl ?_ ?_
       rotate_left 2
       ·go_simp
        constructor
        ·rfl
        ·rfl
       clear hx336_0 hx336_1 hx336_2 hx336_3
       refine hK.out _ _ ⟨cB BK326, cB BK326, cB BK326, cB BK326⟩ (fun hHeld => ?_)
       clear hK K
       refine nM 27 ?_
       refine oU 11 (some 28) 4095 HT_ (fun K hK => ?_)
       refine gO Try.func92 #[.agg #[.int .i64 x327000_1, .int .i64 x327001_1, .int .i64 x327002_1, .int .i64 x327003_1], .agg #[.int .i64 ((rd_T51 y330 t333).f0), .int .i64 ((rd_T51 y330 t333).f1), .int .i64 ((rd_T51 y330 t333).f2), .int .i64 ((rd_T51 y330 t333).f3)]] ?_
       with_reducible refine (spec_l02Multiply.calls x327000_1 x327001_1 x327002_1 x327003_1 ((rd_T51 y330 t333).f0) ((rd_T51 y330 t333).f1) ((rd_T51 y330 t333).f2) ((rd_T51 y330 t333).f3) t337 t338 t339 t340 _ A24.out).mono ?_
       rintro e w32 ⟨rfl, hb⟩
       refine ⟨_, rfl, ?_⟩
       have n0_ := aM (Kd.R_below (by (with_reducible repeat (first | apply Kd.R_alloc | apply Kd.R_drewN | apply Kd.R_drew)); exact HO332.out) hb)
       have n1_ := bB BK312 hb
       have n2_ := bB BK326 hb
       have n3_ := iB g hb
       have n4_ := kU HK hb
       have n5_ := bS HB hb
       clear HO332
       clear BK312
       clear BK326
       clear HI0
       clear HK
       clear HB
       have HO332 := n0_
       have BK312 := n1_
       have BK326 := n2_
       have HI0 := n3_
       have HK := n4_
       have HB := n5_
       clear n0_ n1_ n2_ n3_ n4_ n5_
       (try clear hb)
       (try clear hb2)
       (try clear hk)
       (try clear hi)
       refine hK.out _ _ ⟨cB BK326, cB BK326, cB BK326, cB BK326⟩ (fun hHeld => ?_)
       clear hK K
       refine nM 28 ?_
       refine last_ (i := 12) (N := none) (bz 13 8191) rfl rfl (one_of HT_.out (by kernel_rfl)) (by decide) (fun K hK => ?_)
       have hs33 : w32.cell? ⟨gb326, 0, none⟩ = some (.int .i64 x327000_1) := cB BK326
       have hfs33 := blk_frozen BK326.out 0
       have hns33_0 := NB312_326.out
       have hms33_0 := NB326_312.out
       have hs34 : w32.cell? ⟨gb326, 1, none⟩ = some (.int .i64 x327001_1) := cB BK326
       have hfs34 := blk_frozen BK326.out 1
       have hns34_0 := NB312_326.out
       have hms34_0 := NB326_312.out
       have hs35 : w32.cell? ⟨gb326, 2, none⟩ = some (.int .i64 x327002_1) := cB BK326
       have hfs35 := blk_frozen BK326.out 2
       have hns35_0 := NB312_326.out
       have hms35_0 := NB326_312.out
       have hs36 : w32.cell? ⟨gb326, 3, none⟩ = some (.int .i64 x327003_1) := cB BK326
       have hfs36 := blk_frozen BK326.out 3
       have hns36_0 := NB312_326.out
       have hms36_0 := NB326_312.out
       refine skip_ (w1 := ?_) (by rfl) rfl ?_ ?_
       rotate_left
       ·go_simp
        rfl
       refine hK.out _ _ ?_
       clear hK K
       refine dN HT_ ?_
       try go_wp2
       go_roundg k1
       case measure => have := HK1.out; omega
       case rel => exact ⟨(wrap64 (x4_1 - 1)), (t334), (t335), (t337), (t338), (t339), (t340), (by first | rfl | (simp; done) | (simp [*]; done)), H', ⟨by have := HK1.out; omega⟩, ⟨by (repeat (first|(with_reducible first|apply kN|apply kD|apply kA)|refine blk_far ?_ NB312_326.out _)); exact BK312.out⟩, ⟨by (with_reducible repeat (first|apply kN|apply kD|apply kA)); refine blk_put (cs := #[.int .i64 t337, .int .i64 t338, .int .i64 t339, .int .i64 x327003_1]) ?_ 3 _ rfl; (with_reducible repeat (first|apply kN|apply kD|apply kA)); refine blk_put (cs := #[.int .i64 t337, .int .i64 t338, .int .i64 x327002_1, .int .i64 x327003_1]) ?_ 2 _ rfl; (with_reducible repeat (first|apply kN|apply kD|apply kA)); refine blk_put (cs := #[.int .i64 t337, .int .i64 x327001_1, .int .i64 x327002_1, .int .i64 x327003_1]) ?_ 1 _ rfl; (with_reducible repeat (first|apply kN|apply kD|apply kA)); refine blk_put (cs := #[.int .i64 x327000_1, .int .i64 x327001_1, .int .i64 x327002_1, .int .i64 x327003_1]) ?_ 0 _ rfl; (with_reducible repeat (first|apply kN|apply kD|apply kA)); exact BK326.out⟩, ⟨by repeat (first | (with_reducible first | exact HI0.out | apply sA|apply sN|apply sD|apply s1|apply s2 | refine IsS144.far ?_ NB0_312.out _ | refine IsS144.far ?_ NB0_326.out _) | exact HI0.out)⟩, ⟨by repeat (first | (with_reducible first | exact HK.out | apply eS|apply eN|apply eD|apply eA | refine keep_far ?_ GW312.out _ | refine keep_far ?_ GW326.out _) | exact HK.out)⟩, ⟨qB⟩⟩
      ·rw [if_neg c23] at H
       exact absurd H (by simp)
     ·rw [if_neg c22] at H
      exact absurd H (by simp)
    ·rw [if_neg c20] at H
     have c20b0 : decide (0 < x4_1) = false := decide_eq_false c20
     clear c20
     obtain ⟨⟨t341, t342, t343⟩, A37, H⟩ := oB H
     try dsimp only at H
     by_cases c38 : t341 = 0
     ·rw [if_pos c38] at H
      have c38b0 : (t341 == 0) = true := beq_iff_eq.mpr c38
      have c38b1 : (t341 != 0) = false := bne_eq_false_iff_eq.mpr c38
      clear c38
      simp only [Option.some.injEq, Prod.mk.injEq] at H
      obtain ⟨rfl, rfl, rfl, rfl, rfl, rfl⟩ := H
      go_wp2_with (first | ((with_reducible refine gC (f:=84) rfl ?_); refine gM 30 (spec_l01Next.calls g s0_0 x1001_1 x1002_1 20 t341 t342 t343 w0 _ qI qB A37.out) Try.func84 ?_; rintro w39 ⟨hi, hb, hk⟩; replace BK312 := kB hk BK312 NB312_0; replace BK326 := kB hk BK326 NB326_0; replace HK := kT HK hk; replace HB := aM hb; replace HI0 := aM hi; (try clear hb); have hnb40 := NB326_312.out; have hnc40 := NB312_326.out; have hnb41 := NB326_0.out; have hnc41 := NB0_326.out; obtain ⟨hcz42_0, hcz42_1, hcz42_2, hcz42_3⟩ := z4 BK326; obtain ⟨hfz42_0, hfz42_1, hfz42_2, hfz42_3⟩ := y4 BK326; have hnb43 := NB312_0.out; have hnc43 := NB0_312.out; obtain ⟨hcz44_0, hcz44_1, hcz44_2, hcz44_3⟩ := z4 BK312; obtain ⟨hfz44_0, hfz44_1, hfz44_2, hfz44_3⟩ := y4 BK312))
      refine bodyPost_ret (results_cell_row rfl _ _ gb312 51 #[.int .i64 (wrap64 (x327000_1 + 1)), .int .i64 x327001_1, .int .i64 x327002_1, .int .i64 x327003_1] (0, 0) _ rfl (by (with_reducible repeat (first|apply kN|apply kD|apply kA)); refine blk_put (cs := #[.int .i64 (wrap64 (x327000_1 + 1)), .int .i64 x327001_1, .int .i64 x327002_1, .int .i64 0]) ?_ 3 _ rfl; (with_reducible repeat (first|apply kN|apply kD|apply kA)); refine blk_put (cs := #[.int .i64 (wrap64 (x327000_1 + 1)), .int .i64 x327001_1, .int .i64 0, .int .i64 0]) ?_ 2 _ rfl; (with_reducible repeat (first|apply kN|apply kD|apply kA)); refine blk_put (cs := #[.int .i64 (wrap64 (x327000_1 + 1)), .int .i64 0, .int .i64 0, .int .i64 0]) ?_ 1 _ rfl; (with_reducible repeat (first|apply kN|apply kD|apply kA)); refine blk_put (cs := #[.int .i64 0, .int .i64 0, .int .i64 0, .int .i64 0]) ?_ 0 _ rfl; (repeat (first|(with_reducible first|apply kN|apply kD|apply kA)|refine blk_far ?_ NB312_326.out _)); exact BK312.out) Try.underlying51 rfl (by kernel_rfl)) rfl ?_
      exact ⟨qR, qI, qB, qK⟩
     ·rw [if_neg c38] at H
      have c38b0 : (t341 == 0) = false := beq_eq_false_iff_ne.mpr c38
      have c38b1 : (t341 != 0) = true := bne_iff_ne.mpr c38
      by_cases c45 : t341 = 1
      ·rw [if_pos c45] at H
       have c45b0 : (t341 == 1) = true := beq_iff_eq.mpr c45
       have c45b1 : (t341 != 1) = false := bne_eq_false_iff_eq.mpr c45
       clear c45
       obtain ⟨y344, hy344⟩ : ∃ y_ : List Int, y_ = (([999, 1000, 1001] : List Int)) := ⟨_, rfl⟩
       replace H : ((spec_l01Pick.f s0_0 t342 t343 y344).bind fun bt347 => (some (1, bt347.1, 0, 1, bt347.2.1, bt347.2.2))) = some (r1, r2, r3, r4, r5, r6) := by first | (rw [hy344]; with_reducible exact H) | (have H2_ := (Option.bind_some _ _).symm.trans H; rw [hy344]; with_reducible exact H2_) | (have H2_ := (Option.bind_some _ _).symm.trans H; with_reducible exact H2_) | with_reducible exact H | (rw [hy344]; exact H) | exact H
       have Ny344 := aM hy344
       clear hy344
       obtain ⟨⟨t347, t348, t349⟩, A46, H⟩ := oB H
       try dsimp only at H
       simp only [Option.some.injEq, Prod.mk.injEq] at H
       obtain ⟨rfl, rfl, rfl, rfl, rfl, rfl⟩ := H
       go_wp2_with (first | ((with_reducible refine gC (f:=84) rfl ?_); refine gM 30 (spec_l01Next.calls g s0_0 x1001_1 x1002_1 20 t341 t342 t343 w0 _ qI qB A37.out) Try.func84 ?_; rintro w47 ⟨hi, hb, hk⟩; replace BK312 := kB hk BK312 NB312_0; replace BK326 := kB hk BK326 NB326_0; replace HK := kT HK hk; replace HB := aM hb; replace HI0 := aM hi; (try clear hb)) | ((with_reducible refine gate_dst (N := 40) rfl ?_); refine Kd.R_lit (Kd.int .i64) _ 2 ?hg (N := 40) ?hd (xs := ([999, 1000, 1001] : List Int)) (inner := [.int .i64 999, .int .i64 1000, .int .i64 1001]) (ok := fun _ => True) (okp := fun _ => True) ?hr ?hp (fun _ hk => hk) trivial (Below.refl _ _) (Nat.le_refl _) (by simp) ?_; (case hd => rfl); (case hg => rfl); (case hr => first | (go_simp; done) | (go_simp; rfl)); (case hp => exact (Reps.one (show Kd.M (Kd.int .i64) _ _ _ 999 [.int .i64 999] from rfl) (Reps.one (show Kd.M (Kd.int .i64) _ _ _ 1000 [.int .i64 1000] from rfl) (Reps.one (show Kd.M (Kd.int .i64) _ _ _ 1001 [.int .i64 1001] from rfl) (Reps.none _ _))))); intro v345 w48 ho49 hb hg_ hnew_; clear hg_ hnew_; (first | rw [← Ny344.out] at ho49 | (simp only [Int.reduceToNat] at ho49; rw [← Ny344.out] at ho49)); have HO346 := aM (Kd.R_lower ho49 (keep_size (w := w) (g := g) (row := none) qK)); replace BK312 := bB BK312 hb; replace BK326 := bB BK326 hb; replace HI0 := iB g hb; replace HK := kU HK hb; replace HB := bS HB hb; clear hb ho49; obtain ⟨Ao50, co50, eo50⟩ := Kd.R_slice HO346.out; subst eo50) | ((with_reducible refine gC (f:=86) rfl ?_); refine gM 41 (spec_l01Pick.calls g s0_0 t342 t343 _ _ y344 t347 t348 t349 w0 _ qI qB (cD (Kd.R_reads' HO346.out).2.2) (Kd.R_reads' HO346.out).2.1 (by exact far_slice (IsS144.own_ne HI0.out HO346.out (by decide))) A46.out) Try.func86 ?_; rintro w51 ⟨hi, hb, hk⟩; replace BK312 := kB hk BK312 NB312_0; replace BK326 := kB hk BK326 NB326_0; replace HO346 := aM (Kd.R_mono (Kd.R_keep (IsS144.apart (show IsS144 w0 _ g s0_0 t342 t343 from by repeat (first | (with_reducible first | exact HI0.out | apply sA|apply sN|apply sD|apply s1|apply s2 | refine IsS144.far ?_ NB0_312.out _ | refine IsS144.far ?_ NB0_326.out _) | exact HI0.out)) (by (with_reducible repeat (first | apply Kd.R_alloc | apply Kd.R_drewN | apply Kd.R_drew)); exact HO346.out) (by decide)) hk (fun _ h => h.2)) (fun _ h => h.1)); replace HK := kT HK hk; replace HB := aM hb; replace HI0 := aM hi; (try clear hb); have hnb52 := NB326_312.out; have hnc52 := NB312_326.out; have hnb53 := NB326_0.out; have hnc53 := NB0_326.out; obtain ⟨hcz54_0, hcz54_1, hcz54_2, hcz54_3⟩ := z4 BK326; obtain ⟨hfz54_0, hfz54_1, hfz54_2, hfz54_3⟩ := y4 BK326; have hnb55 := NB312_0.out; have hnc55 := NB0_312.out; obtain ⟨hcz56_0, hcz56_1, hcz56_2, hcz56_3⟩ := z4 BK312; obtain ⟨hfz56_0, hfz56_1, hfz56_2, hfz56_3⟩ := y4 BK312))
       refine bodyPost_ret (results_cell_row rfl _ _ gb312 51 #[.int .i64 1, .int .i64 t347, .int .i64 0, .int .i64 1] (0, 0) _ rfl (by (with_reducible repeat (first|apply kN|apply kD|apply kA)); refine blk_put (cs := #[.int .i64 1, .int .i64 t347, .int .i64 0, .int .i64 0]) ?_ 3 _ rfl; (with_reducible repeat (first|apply kN|apply kD|apply kA)); refine blk_put (cs := #[.int .i64 1, .int .i64 t347, .int .i64 0, .int .i64 0]) ?_ 2 _ rfl; (with_reducible repeat (first|apply kN|apply kD|apply kA)); refine blk_put (cs := #[.int .i64 1, .int .i64 0, .int .i64 0, .int .i64 0]) ?_ 1 _ rfl; (with_reducible repeat (first|apply kN|apply kD|apply kA)); refine blk_put (cs := #[.int .i64 0, .int .i64 0, .int .i64 0, .int .i64 0]) ?_ 0 _ rfl; (repeat (first|(with_reducible first|apply kN|apply kD|apply kA)|refine blk_far ?_ NB312_326.out _)); exact BK312.out) Try.underlying51 rfl (by kernel_rfl)) rfl ?_
       exact ⟨qR, qI, qB, qK⟩
      ·rw [if_neg c45] at H
       have c45b0 : (t341 == 1) = false := beq_eq_false_iff_ne.mpr c45
       have c45b1 : (t341 != 1) = true := bne_iff_ne.mpr c45
       simp only [Option.some.injEq, Prod.mk.injEq] at H
       obtain ⟨rfl, rfl, rfl, rfl, rfl, rfl⟩ := H
       go_wp2_with (first | ((with_reducible refine gC (f:=84) rfl ?_); refine gM 30 (spec_l01Next.calls g s0_0 x1001_1 x1002_1 20 t341 t342 t343 w0 _ qI qB A37.out) Try.func84 ?_; rintro w57 ⟨hi, hb, hk⟩; replace BK312 := kB hk BK312 NB312_0; replace BK326 := kB hk BK326 NB326_0; replace HK := kT HK hk; replace HB := aM hb; replace HI0 := aM hi; (try clear hb); have hnb58 := NB326_312.out; have hnc58 := NB312_326.out; have hnb59 := NB326_0.out; have hnc59 := NB0_326.out; obtain ⟨hcz60_0, hcz60_1, hcz60_2, hcz60_3⟩ := z4 BK326; obtain ⟨hfz60_0, hfz60_1, hfz60_2, hfz60_3⟩ := y4 BK326; have hnb61 := NB312_0.out; have hnc61 := NB0_312.out; obtain ⟨hcz62_0, hcz62_1, hcz62_2, hcz62_3⟩ := z4 BK312; obtain ⟨hfz62_0, hfz62_1, hfz62_2, hfz62_3⟩ := y4 BK312))
       refine bodyPost_ret (results_cell_row rfl _ _ gb312 51 #[.int .i64 x327000_1, .int .i64 x327001_1, .int .i64 x327002_1, .int .i64 x327003_1] (0, 0) _ rfl (by (with_reducible repeat (first|apply kN|apply kD|apply kA)); refine blk_put (cs := #[.int .i64 x327000_1, .int .i64 x327001_1, .int .i64 x327002_1, .int .i64 0]) ?_ 3 _ rfl; (with_reducible repeat (first|apply kN|apply kD|apply kA)); refine blk_put (cs := #[.int .i64 x327000_1, .int .i64 x327001_1, .int .i64 0, .int .i64 0]) ?_ 2 _ rfl; (with_reducible repeat (first|apply kN|apply kD|apply kA)); refine blk_put (cs := #[.int .i64 x327000_1, .int .i64 0, .int .i64 0, .int .i64 0]) ?_ 1 _ rfl; (with_reducible repeat (first|apply kN|apply kD|apply kA)); refine blk_put (cs := #[.int .i64 0, .int .i64 0, .int .i64 0, .int .i64 0]) ?_ 0 _ rfl; (with_reducible repeat (first|apply kN|apply kD|apply kA)); exact BK312.out) Try.underlying51 rfl (by kernel_rfl)) rfl ?_
       exact ⟨qR, qI, qB, qK⟩

end Go.Proofs.Ytcjchihnopmplaa.F
