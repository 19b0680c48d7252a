import Derived.Test.YtcjchihnopmplaaP0
import Derived.Test.YtcjchihnopmplaaP2
import Derived.Test.YtcjchihnopmplaaP6
import Derived.Test.YtcjchihnopmplaaP7
namespace Go.Proofs.Ytcjchihnopmplaa.F
open Go.RowKit Go.Proofs.YtcjchihnopmplaaW.PrintWords Go.Proofs.YtcjchihnopmplaaW.PrintLast Go.Proofs.YtcjchihnopmplaaW.PrintMore
attribute [local go_sem] max2_int min2_int max_two min_two max_three min_three max_four min_four   -- for this text's walks alone
set_option linter.unusedVariables false
set_option linter.unusedSimpArgs false

def spec_l02DrawFinite.l0 : Nat → Int → List Int → Int → Int → Int → Int → Int → Int → Option (Int × Int × Int × Int × Int × Int)
 | 0, _, _, _, _, _, _, _, _ => none
 | k + 1, x4, x1000, x1001, x1002, x274000, x274001, x274002, x274003 => if x4 > 0 then ((spec_l01Next.f x1000 x1001 x1002 5).bind fun bt277 => ((spec_l01Next.f x1000 bt277.2.1 bt277.2.2 2).bind fun bt281 => (if bt281.1 = 0 then ((spec_l01Next.f x1000 bt281.2.1 bt281.2.2 5).bind fun bt284 => ((spec_l02Multiply.f 1 0 (wrap64 (bt284.1 - 2)) 1 x274000 x274001 x274002 x274003).bind fun bt287 => ((spec_l02Inverse.f 1 0 (wrap64 (bt284.1 - 2)) 1).bind fun bt291 => ((spec_l02Multiply.f bt287.1 bt287.2.1 bt287.2.2.1 bt287.2.2.2 bt291.1 bt291.2.1 bt291.2.2.1 bt291.2.2.2).bind fun bt295 => (spec_l02DrawFinite.l0 k (wrap64 (x4 - 1)) x1000 bt284.2.1 bt284.2.2 bt295.1 bt295.2.1 bt295.2.2.1 bt295.2.2.2))))) else ((spec_l02Multiply.f 1 (wrap64 (bt277.1 - 2)) 0 1 x274000 x274001 x274002 x274003).bind fun bt299 => ((spec_l02Inverse.f 1 (wrap64 (bt277.1 - 2)) 0 1).bind fun bt303 => ((spec_l02Multiply.f bt299.1 bt299.2.1 bt299.2.2.1 bt299.2.2.2 bt303.1 bt303.2.1 bt303.2.2.1 bt303.2.2.2).bind fun bt307 => (spec_l02DrawFinite.l0 k (wrap64 (x4 - 1)) x1000 bt281.2.1 bt281.2.2 bt307.1 bt307.2.1 bt307.2.2.1 bt307.2.2.2))))))) else (some (x274000, x274001, x274002, x274003, x1001, x1002))
def spec_l02DrawFinite.f (k : Nat) (s0_0 : List Int) (s0_1 : Int) (s0_2 : Int) : Option (Int × Int × Int × Int × Int × Int) := (some (([(⟨1, 0, 0, 1⟩ : S51), (⟨(-1), 0, 0, (-1)⟩ : S51), (⟨0, (-1), 1, 0⟩ : S51), (⟨0, (-1), 1, 1⟩ : S51), (⟨(-1), (-1), 1, 0⟩ : S51), (⟨1, 0, 0, (-1)⟩ : S51), (⟨0, 1, 1, 0⟩ : S51), (⟨1, 1, 0, (-1)⟩ : S51)] : List (S51)) : List (S51))).bind fun y266 => ((spec_l01Next.f s0_0 s0_1 s0_2 8).bind fun bt269 => (if 0 ≤ bt269.1 then (if bt269.1 < (y266.length : Int) then ((spec_l01Next.f s0_0 bt269.2.1 bt269.2.2 3).bind fun bt274 => (spec_l02DrawFinite.l0 k bt274.1 s0_0 bt274.2.1 bt274.2.2 ((rd_T51 y266 bt269.1).f0) ((rd_T51 y266 bt269.1).f1) ((rd_T51 y266 bt269.1).f2) ((rd_T51 y266 bt269.1).f3))) else (none)) else (none)))
set_option maxHeartbeats 8000000 in
set_option maxRecDepth 100000 in
theorem spec_l02DrawFinite.calls (k : Nat) (g : Nat) (s0_0 : List Int) (s0_1 : Int) (s0_2 : Int) (r1 : Int) (r2 : Int) (r3 : Int) (r4 : Int) (r5 : Int) (r6 : Int) (w0 w : World) (hI : IsS144 w0 w g s0_0 s0_1 s0_2) (hB : Below w0.heap.size w0 w) (h : spec_l02DrawFinite.f k s0_0 s0_1 s0_2 = some (r1, r2, r3, r4, r5, r6)) :
  Calls Try.prog 138 #[.pointer (some ⟨g, 0, none⟩)] w fun e w' => e = .returned (.agg #[.int .i64 r1, .int .i64 r2, .int .i64 r3, .int .i64 r4]) ∧ IsS144 w0 w' g s0_0 r5 r6 ∧ Below w0.heap.size w0 w' ∧ KeepBut w w' g none := by
 have hu51 := Try.underlying51
 have HI0 := aM hI
 have HK := aM (KeepBut.refl w g none)
 have HL := aM hB.size
 clear hI
 have HW0 := aM hB.size
 have HB := aM hB
 clear hB
 have H : ((some (([(⟨1, 0, 0, 1⟩ : S51), (⟨(-1), 0, 0, (-1)⟩ : S51), (⟨0, (-1), 1, 0⟩ : S51), (⟨0, (-1), 1, 1⟩ : S51), (⟨(-1), (-1), 1, 0⟩ : S51), (⟨1, 0, 0, (-1)⟩ : S51), (⟨0, 1, 1, 0⟩ : S51), (⟨1, 1, 0, (-1)⟩ : S51)] : List (S51)) : List (S51))).bind fun y266 => ((spec_l01Next.f s0_0 s0_1 s0_2 8).bind fun bt269 => (if 0 ≤ bt269.1 then (if bt269.1 < (y266.length : Int) then ((spec_l01Next.f s0_0 bt269.2.1 bt269.2.2 3).bind fun bt274 => (spec_l02DrawFinite.l0 k bt274.1 s0_0 bt274.2.1 bt274.2.2 ((rd_T51 y266 bt269.1).f0) ((rd_T51 y266 bt269.1).f1) ((rd_T51 y266 bt269.1).f2) ((rd_T51 y266 bt269.1).f3))) else (none)) else (none)))) = some (r1, r2, r3, r4, r5, r6) := h
 clear h
 obtain ⟨y266, hy266⟩ : ∃ y_ : List (S51), y_ = (([(⟨1, 0, 0, 1⟩ : S51), (⟨(-1), 0, 0, (-1)⟩ : S51), (⟨0, (-1), 1, 0⟩ : S51), (⟨0, (-1), 1, 1⟩ : S51), (⟨(-1), (-1), 1, 0⟩ : S51), (⟨1, 0, 0, (-1)⟩ : S51), (⟨0, 1, 1, 0⟩ : S51), (⟨1, 1, 0, (-1)⟩ : S51)] : List (S51))) := ⟨_, rfl⟩
 replace H : ((spec_l01Next.f s0_0 s0_1 s0_2 8).bind fun bt269 => (if 0 ≤ bt269.1 then (if bt269.1 < (y266.length : Int) then ((spec_l01Next.f s0_0 bt269.2.1 bt269.2.2 3).bind fun bt274 => (spec_l02DrawFinite.l0 k bt274.1 s0_0 bt274.2.1 bt274.2.2 ((rd_T51 y266 bt269.1).f0) ((rd_T51 y266 bt269.1).f1) ((rd_T51 y266 bt269.1).f2) ((rd_T51 y266 bt269.1).f3))) else (none)) else (none))) = some (r1, r2, r3, r4, r5, r6) := by first | (rw [hy266]; with_reducible exact H) | (have H2_ := (Option.bind_some _ _).symm.trans H; rw [hy266]; with_reducible exact H2_) | (have H2_ := (Option.bind_some _ _).symm.trans H; with_reducible exact H2_) | with_reducible exact H | (rw [hy266]; exact H) | exact H
 have Ny266 := aM hy266
 clear hy266
 obtain ⟨⟨t269, t270, t271⟩, A2, H⟩ := oB H
 try dsimp only at H
 by_cases c3 : 0 ≤ t269
 ·rw [if_pos c3] at H
  have c3b0 : decide (0 ≤ t269) = true := decide_eq_true c3
  clear c3
  by_cases c4 : t269 < (y266.length : Int)
  ·rw [if_pos c4] at H
   have c4b0 : decide (t269 < (y266.length : Int)) = true := decide_eq_true c4
   clear c4
   obtain ⟨⟨t274, t275, t276⟩, A5, H⟩ := oB H
   try dsimp only at H
   have H' := aM H
   clear H
   go_enter Try.func138, Try.ntmps138
   go_wp2_with (first | ((with_reducible refine gD (N:=2) rfl ?_); refine bE 2 #[.int .i64 0, .int .i64 0, .int .i64 0, .int .i64 0] 51 ?_; intro gb265 hg w6 hbox hb; have BK265 := aM hbox; have GW265 := kZ hg HK; have GE265 := kY HW0 hg HK; have NB0_265 := iL g hg; have NB265_0 := iG g hg; replace HI0 := iB g hb; replace HK := kU HK hb; replace HB := bS HB hb; clear hb hbox hg) | ((with_reducible refine gate_dst (N := 14) rfl ?_); refine Kd.R_lit k51 _ 51 ?hg (N := 14) ?hd (xs := ([(⟨1, 0, 0, 1⟩ : S51), (⟨(-1), 0, 0, (-1)⟩ : S51), (⟨0, (-1), 1, 0⟩ : S51), (⟨0, (-1), 1, 1⟩ : S51), (⟨(-1), (-1), 1, 0⟩ : S51), (⟨1, 0, 0, (-1)⟩ : S51), (⟨0, 1, 1, 0⟩ : S51), (⟨1, 1, 0, (-1)⟩ : S51)] : List (S51))) (inner := [.int .i64 1, .int .i64 0, .int .i64 0, .int .i64 1, .int .i64 (-1), .int .i64 0, .int .i64 0, .int .i64 (-1), .int .i64 0, .int .i64 (-1), .int .i64 1, .int .i64 0, .int .i64 0, .int .i64 (-1), .int .i64 1, .int .i64 1, .int .i64 (-1), .int .i64 (-1), .int .i64 1, .int .i64 0, .int .i64 1, .int .i64 0, .int .i64 0, .int .i64 (-1), .int .i64 0, .int .i64 1, .int .i64 1, .int .i64 0, .int .i64 1, .int .i64 1, .int .i64 0, .int .i64 (-1)]) (ok := fun _ => True) (okp := fun _ => True) ?hr ?hp (fun _ hk => hk) trivial (Below.refl _ _) (Nat.le_refl _) (by simp) ?_; (case hd => rfl); (case hg => rfl); (case hr => first | (go_simp; done) | (go_simp; rfl)); (case hp => exact (Reps.c4 (show Kd.M k51 _ _ _ (⟨1, 0, 0, 1⟩ : S51) [.int .i64 1, .int .i64 0, .int .i64 0, .int .i64 1] from (k51_mkM _ _ _ (⟨1, 0, 0, 1⟩ : S51) )) (Reps.c4 (show Kd.M k51 _ _ _ (⟨(-1), 0, 0, (-1)⟩ : S51) [.int .i64 (-1), .int .i64 0, .int .i64 0, .int .i64 (-1)] from (k51_mkM _ _ _ (⟨(-1), 0, 0, (-1)⟩ : S51) )) (Reps.c4 (show Kd.M k51 _ _ _ (⟨0, (-1), 1, 0⟩ : S51) [.int .i64 0, .int .i64 (-1), .int .i64 1, .int .i64 0] from (k51_mkM _ _ _ (⟨0, (-1), 1, 0⟩ : S51) )) (Reps.c4 (show Kd.M k51 _ _ _ (⟨0, (-1), 1, 1⟩ : S51) [.int .i64 0, .int .i64 (-1), .int .i64 1, .int .i64 1] from (k51_mkM _ _ _ (⟨0, (-1), 1, 1⟩ : S51) )) (Reps.c4 (show Kd.M k51 _ _ _ (⟨(-1), (-1), 1, 0⟩ : S51) [.int .i64 (-1), .int .i64 (-1), .int .i64 1, .int .i64 0] from (k51_mkM _ _ _ (⟨(-1), (-1), 1, 0⟩ : S51) )) (Reps.c4 (show Kd.M k51 _ _ _ (⟨1, 0, 0, (-1)⟩ : S51) [.int .i64 1, .int .i64 0, .int .i64 0, .int .i64 (-1)] from (k51_mkM _ _ _ (⟨1, 0, 0, (-1)⟩ : S51) )) (Reps.c4 (show Kd.M k51 _ _ _ (⟨0, 1, 1, 0⟩ : S51) [.int .i64 0, .int .i64 1, .int .i64 1, .int .i64 0] from (k51_mkM _ _ _ (⟨0, 1, 1, 0⟩ : S51) )) (Reps.c4 (show Kd.M k51 _ _ _ (⟨1, 1, 0, (-1)⟩ : S51) [.int .i64 1, .int .i64 1, .int .i64 0, .int .i64 (-1)] from (k51_mkM _ _ _ (⟨1, 1, 0, (-1)⟩ : S51) )) (Reps.none _ _)))))))))); intro v267 w7 ho8 hb hg_ hnew_; clear hg_ hnew_; (first | rw [← Ny266.out] at ho8 | (simp only [Int.reduceToNat] at ho8; rw [← Ny266.out] at ho8)); have HO268 := aM (Kd.R_lower (Kd.R_newB ho8 (g := gb265) (o := .cells #[.int .i64 0, .int .i64 0, .int .i64 0, .int .i64 0] 51 (0, 0)) (bk BK265)) (keep_size (w := w) (g := g) (row := none) qK)); replace HI0 := iB g hb; replace BK265 := bB BK265 hb; replace HK := kU HK hb; replace HB := bS HB hb; clear hb ho8) | ((with_reducible refine gC (f:=84) rfl ?_); refine gM 16 (spec_l01Next.calls g s0_0 s0_1 s0_2 8 t269 t270 t271 w0 _ qI qB A2.out) Try.func84 ?_; rintro w9 ⟨hi, hb, hk⟩; replace BK265 := kB hk BK265 NB265_0; replace HO268 := aM (Kd.R_mono (Kd.R_keep (IsS144.apart (show IsS144 w0 _ g s0_0 s0_1 s0_2 from by repeat (first | (with_reducible first | exact HI0.out | apply sA|apply sN|apply sD|apply s1|apply s2 | refine IsS144.far ?_ NB0_265.out _) | exact HI0.out)) (by (with_reducible repeat (first | apply Kd.R_alloc | apply Kd.R_drewN | apply Kd.R_drew)); exact HO268.out) (by decide)) hk (fun _ h => h.2)) (fun _ h => h.1)); replace HK := kT HK hk; replace HB := aM hb; replace HI0 := aM hi; (try clear hb); obtain ⟨Ao10, co10, eo10⟩ := Kd.R_slice HO268.out; subst eo10; have p272 : 0 ≤ (t269 : Int) := of_decide_eq_true (by first | (with_reducible assumption) | assumption); have q272 : t269 < (y266.length : Int) := of_decide_eq_true (by first | (with_reducible assumption) | assumption); obtain ⟨ad272, e272, hx272_0, hx272_1, hx272_2, hx272_3⟩ := at_T51 (Kd.R_reads' HO268.out).2.2 t269 p272 q272; cases e272; replace p272 := eq_true p272; replace q272 := eq_true q272) | ((with_reducible refine gD (N:=3) rfl ?_); refine bE 3 #[.int .i64 0, .int .i64 0, .int .i64 0, .int .i64 0] 51 ?_; intro gb273 hg w11 hbox hb; have BK273 := aM hbox; have GW273 := kZ hg HK; have GE273 := kY HW0 hg HK; have NB265_273 := nL hg BK265; have NB273_265 := nG hg BK265; have NB0_273 := iL g hg; have NB273_0 := iG g hg; replace HO268 := aM (Kd.R_below (Kd.R_elderB (by (with_reducible repeat (first | apply Kd.R_alloc | apply Kd.R_drewN | apply Kd.R_drew)); exact HO268.out) gb273 (Nat.le_of_eq hg.symm)) hb); replace HI0 := iB g hb; replace BK265 := bB BK265 hb; replace HK := kU HK hb; replace HB := bS HB hb; clear hb hbox hg; have hnb12 := NB273_265.out; have hnc12 := NB265_273.out; have hnb13 := NB273_0.out; have hnc13 := NB0_273.out; obtain ⟨hcz14_0, hcz14_1, hcz14_2, hcz14_3⟩ := z4 BK273; obtain ⟨hfz14_0, hfz14_1, hfz14_2, hfz14_3⟩ := y4 BK273) | ((with_reducible refine gC (f:=84) rfl ?_); refine gM 20 (spec_l01Next.calls g s0_0 t270 t271 3 t274 t275 t276 w0 _ qI qB A5.out) Try.func84 ?_; rintro w15 ⟨hi, hb, hk⟩; replace BK265 := kB hk BK265 NB265_0; replace HO268 := aM (Kd.R_mono (Kd.R_keep (IsS144.apart (show IsS144 w0 _ g s0_0 t270 t271 from by repeat (first | (with_reducible first | exact HI0.out | apply sA|apply sN|apply sD|apply s1|apply s2 | refine IsS144.far ?_ NB0_265.out _ | refine IsS144.far ?_ NB0_273.out _) | exact HI0.out)) (by (with_reducible repeat (first | apply Kd.R_alloc | apply Kd.R_drewN | apply Kd.R_drew)); exact (Kd.R_mono (Kd.R_far (p := ⟨gb273, 3, none⟩) (Kd.R_far (p := ⟨gb273, 2, none⟩) (Kd.R_far (p := ⟨gb273, 1, none⟩) (Kd.R_far (p := ⟨gb273, 0, none⟩) (Kd.R_mono HO268.out (fun k_ hk => (⟨hk, hk.2⟩ : _ ∧ k_ ≠ gb273))) (fun _ hk => hk.2) (.int .i64 ((rd_T51 y266 t269).f0))) (fun _ hk => hk.2) (.int .i64 ((rd_T51 y266 t269).f1))) (fun _ hk => hk.2) (.int .i64 ((rd_T51 y266 t269).f2))) (fun _ hk => hk.2) (.int .i64 ((rd_T51 y266 t269).f3))) (fun _ h_ => h_.1))) (by decide)) hk (fun _ h => h.2)) (fun _ h => h.1)); replace BK273 := kP (.cells #[.int .i64 ((rd_T51 y266 t269).f0), .int .i64 ((rd_T51 y266 t269).f1), .int .i64 ((rd_T51 y266 t269).f2), .int .i64 ((rd_T51 y266 t269).f3)] 51 (0, 0)) hk BK273 NB273_0; replace HK := kT HK hk; replace HB := aM hb; replace HI0 := aM hi; (try clear hb)))
   go_loopg [4] k (fun kq v4 w' => ∃ (x4_1 : Int) (x1001_1 : Int) (x1002_1 : Int) (x274000_1 : Int) (x274001_1 : Int) (x274002_1 : Int) (x274003_1 : Int), v4 = .int .i64 x4_1 ∧ Aside0 (spec_l02DrawFinite.l0 kq x4_1 s0_0 x1001_1 x1002_1 x274000_1 x274001_1 x274002_1 x274003_1 = some (r1, r2, r3, r4, r5, r6)) ∧ Aside0 (kq ≤ k) ∧ Aside0 (w'.heap[gb265]? = some (.cells #[.int .i64 0, .int .i64 0, .int .i64 0, .int .i64 0] 51 (0, 0))) ∧ Aside0 (w'.heap[gb273]? = some (.cells #[.int .i64 x274000_1, .int .i64 x274001_1, .int .i64 x274002_1, .int .i64 x274003_1] 51 (0, 0))) ∧ Aside0 (IsS144 w0 w' g s0_0 x1001_1 x1002_1) ∧ Aside0 (KeepBut w w' g none) ∧ Aside0 (Below w0.heap.size w0 w'))
   case atStart => exact ⟨(t274), (t275), (t276), ((rd_T51 y266 t269).f0), ((rd_T51 y266 t269).f1), ((rd_T51 y266 t269).f2), ((rd_T51 y266 t269).f3), (by first | rfl | (simp; done) | (simp [*]; done)), H', ⟨Nat.le_refl _⟩, ⟨bk BK265⟩, ⟨bk BK273⟩, ⟨by repeat (first | (with_reducible first | exact HI0.out | apply sA|apply sN|apply sD|apply s1|apply s2 | refine IsS144.far ?_ NB0_265.out _ | refine IsS144.far ?_ NB0_273.out _) | exact HI0.out)⟩, ⟨by repeat (first | (with_reducible first | exact HK.out | apply eS|apply eN|apply eD|apply eA | refine keep_far ?_ GW265.out _ | refine keep_far ?_ GW273.out _) | exact HK.out)⟩, ⟨qB⟩⟩
   case round =>
    clear H'
    try clear c1
    try clear p2
    try clear q2
    try clear hx2
    try clear c3
    try clear c3b0
    try clear c4
    try clear c4b0
    try clear c8
    try clear c12
    try clear c13
    try clear hcz14_0
    try clear hcz14_1
    try clear hcz14_2
    try clear hcz14_3
    try clear hfz14_0
    try clear hfz14_1
    try clear hfz14_2
    try clear hfz14_3
    try clear hx272_0
    try clear hx272_1
    try clear hx272_2
    try clear hx272_3
    try clear p272
    try clear q272
    obtain ⟨x4_1, x1001_1, x1002_1, x274000_1, x274001_1, x274002_1, x274003_1, rfl, HA, HK1, BK265, BK273, HI0, HK, HB⟩ := hrel
    cases gk with
    | zero => exact absurd HA.out (by simp [spec_l02DrawFinite.l0])
    | succ k1 =>
     have H := HA.out
     clear HA
     simp only [spec_l02DrawFinite.l0] at H
     by_cases c16 : x4_1 > 0
     ·rw [if_pos c16] at H
      have c16b0 : decide (0 < x4_1) = true := decide_eq_true c16
      clear c16
      obtain ⟨⟨t277, t278, t279⟩, A17, H⟩ := oB H
      try dsimp only at H
      obtain ⟨⟨t281, t282, t283⟩, A18, H⟩ := oB H
      try dsimp only at H
      by_cases c19 : t281 = 0
      ·rw [if_pos c19] at H
       have c19b0 : (t281 == 0) = true := beq_iff_eq.mpr c19
       have c19b1 : (t281 != 0) = false := bne_eq_false_iff_eq.mpr c19
       clear c19
       obtain ⟨⟨t284, t285, t286⟩, A20, H⟩ := oB H
       try dsimp only at H
       obtain ⟨⟨t287, t288, t289, t290⟩, A21, H⟩ := oB H
       try dsimp only at H
       obtain ⟨⟨t291, t292, t293, t294⟩, A22, H⟩ := oB H
       try dsimp only at H
       obtain ⟨⟨t295, t296, t297, t298⟩, A23, H⟩ := oB H
       try dsimp only at H
       have H' := aM H
       clear H
       try go_wp2_with (first | ((with_reducible refine gC (f:=84) rfl ?_); refine gM 26 (spec_l01Next.calls g s0_0 x1001_1 x1002_1 5 t277 t278 t279 w0 _ qI qB A17.out) Try.func84 ?_; rintro w24 ⟨hi, hb, hk⟩; replace BK265 := kB hk BK265 NB265_0; replace BK273 := kB hk BK273 NB273_0; replace HK := kT HK hk; replace HB := aM hb; replace HI0 := aM hi; (try clear hb)) | ((with_reducible refine gD (N:=5) rfl ?_); refine bE 5 #[.int .i64 0, .int .i64 0, .int .i64 0, .int .i64 0] 51 ?_; intro gb280 hg w25 hbox hb; have BK280 := aM hbox; have GW280 := kZ hg HK; have GE280 := kY HW0 hg HK; have NB265_280 := nL hg BK265; have NB280_265 := nG hg BK265; have NB273_280 := nL hg BK273; have NB280_273 := nG hg BK273; have NB0_280 := iL g hg; have NB280_0 := iG g hg; replace BK265 := bB BK265 hb; replace BK273 := bB BK273 hb; replace HI0 := iB g hb; replace HK := kU HK hb; replace HB := bS HB hb; clear hb hbox hg; have hnb26 := NB280_265.out; have hnc26 := NB265_280.out; have hnb27 := NB280_273.out; have hnc27 := NB273_280.out; have hnb28 := NB280_0.out; have hnc28 := NB0_280.out; obtain ⟨hcz29_0, hcz29_1, hcz29_2, hcz29_3⟩ := z4 BK280; obtain ⟨hfz29_0, hfz29_1, hfz29_2, hfz29_3⟩ := y4 BK280) | ((with_reducible refine gC (f:=84) rfl ?_); refine gM 30 (spec_l01Next.calls g s0_0 t278 t279 2 t281 t282 t283 w0 _ qI qB A18.out) Try.func84 ?_; rintro w30 ⟨hi, hb, hk⟩; replace BK265 := kB hk BK265 NB265_0; replace BK273 := kB hk BK273 NB273_0; replace BK280 := kP (.cells #[.int .i64 1, .int .i64 (wrap64 (t277 - 2)), .int .i64 0, .int .i64 1] 51 (0, 0)) hk BK280 NB280_0; replace HK := kT HK hk; replace HB := aM hb; replace HI0 := aM hi; (try clear hb)) | ((with_reducible refine gC (f:=84) rfl ?_); refine gM 33 (spec_l01Next.calls g s0_0 t282 t283 5 t284 t285 t286 w0 _ qI qB A20.out) Try.func84 ?_; rintro w31 ⟨hi, hb, hk⟩; replace BK265 := kB hk BK265 NB265_0; replace BK273 := kB hk BK273 NB273_0; replace BK280 := kB hk BK280 NB280_0; replace HK := kT HK hk; replace HB := aM hb; replace HI0 := aM hi; (try clear hb); obtain ⟨hcz32_0, hcz32_1, hcz32_2, hcz32_3⟩ := z4 BK280; obtain ⟨hfz32_0, hfz32_1, hfz32_2, hfz32_3⟩ := y4 BK280))
       have n0_ : Aside0 (((((w31.setCell ⟨gb280, 0, none⟩ (.int .i64 1)).setCell ⟨gb280, 1, none⟩ (.int .i64 0)).setCell ⟨gb280, 2, none⟩ (.int .i64 (wrap64 (t284 - 2)))).setCell ⟨gb280, 3, none⟩ (.int .i64 1)).heap[gb265]? = some (.cells #[.int .i64 0, .int .i64 0, .int .i64 0, .int .i64 0] 51 (0, 0))) := ⟨by (repeat (first|(with_reducible first|apply kN|apply kD|apply kA)|refine blk_far ?_ NB265_280.out _)); exact BK265.out⟩
       have n1_ : Aside0 (((((w31.setCell ⟨gb280, 0, none⟩ (.int .i64 1)).setCell ⟨gb280, 1, none⟩ (.int .i64 0)).setCell ⟨gb280, 2, none⟩ (.int .i64 (wrap64 (t284 - 2)))).setCell ⟨gb280, 3, none⟩ (.int .i64 1)).heap[gb273]? = some (.cells #[.int .i64 x274000_1, .int .i64 x274001_1, .int .i64 x274002_1, .int .i64 x274003_1] 51 (0, 0))) := ⟨by (repeat (first|(with_reducible first|apply kN|apply kD|apply kA)|refine blk_far ?_ NB273_280.out _)); exact BK273.out⟩
       have n2_ : Aside0 (((((w31.setCell ⟨gb280, 0, none⟩ (.int .i64 1)).setCell ⟨gb280, 1, none⟩ (.int .i64 0)).setCell ⟨gb280, 2, none⟩ (.int .i64 (wrap64 (t284 - 2)))).setCell ⟨gb280, 3, none⟩ (.int .i64 1)).heap[gb280]? = some (.cells #[.int .i64 1, .int .i64 0, .int .i64 (wrap64 (t284 - 2)), .int .i64 1] 51 (0, 0))) := ⟨by (with_reducible repeat (first|apply kN|apply kD|apply kA)); refine blk_put (cs := #[.int .i64 1, .int .i64 0, .int .i64 (wrap64 (t284 - 2)), .int .i64 1]) ?_ 3 _ rfl; (with_reducible repeat (first|apply kN|apply kD|apply kA)); refine blk_put (cs := #[.int .i64 1, .int .i64 0, .int .i64 0, .int .i64 1]) ?_ 2 _ rfl; (with_reducible repeat (first|apply kN|apply kD|apply kA)); refine blk_put (cs := #[.int .i64 1, .int .i64 (wrap64 (t277 - 2)), .int .i64 0, .int .i64 1]) ?_ 1 _ rfl; (with_reducible repeat (first|apply kN|apply kD|apply kA)); refine blk_put (cs := #[.int .i64 1, .int .i64 (wrap64 (t277 - 2)), .int .i64 0, .int .i64 1]) ?_ 0 _ rfl; (with_reducible repeat (first|apply kN|apply kD|apply kA)); exact BK280.out⟩
       have n3_ : Aside0 (IsS144 w0 ((((w31.setCell ⟨gb280, 0, none⟩ (.int .i64 1)).setCell ⟨gb280, 1, none⟩ (.int .i64 0)).setCell ⟨gb280, 2, none⟩ (.int .i64 (wrap64 (t284 - 2)))).setCell ⟨gb280, 3, none⟩ (.int .i64 1)) g s0_0 t285 t286) := ⟨by repeat (first | (with_reducible first | exact HI0.out | apply sA|apply sN|apply sD|apply s1|apply s2 | refine IsS144.far ?_ NB0_265.out _ | refine IsS144.far ?_ NB0_273.out _ | refine IsS144.far ?_ NB0_280.out _) | exact HI0.out)⟩
       have n4_ : Aside0 (KeepBut w ((((w31.setCell ⟨gb280, 0, none⟩ (.int .i64 1)).setCell ⟨gb280, 1, none⟩ (.int .i64 0)).setCell ⟨gb280, 2, none⟩ (.int .i64 (wrap64 (t284 - 2)))).setCell ⟨gb280, 3, none⟩ (.int .i64 1)) g none) := ⟨by repeat (first | (with_reducible first | exact HK.out | apply eS|apply eN|apply eD|apply eA | refine keep_far ?_ GW265.out _ | refine keep_far ?_ GW273.out _ | refine keep_far ?_ GW280.out _) | exact HK.out)⟩
       have n5_ : Aside0 (Below w0.heap.size w0 ((((w31.setCell ⟨gb280, 0, none⟩ (.int .i64 1)).setCell ⟨gb280, 1, none⟩ (.int .i64 0)).setCell ⟨gb280, 2, none⟩ (.int .i64 (wrap64 (t284 - 2)))).setCell ⟨gb280, 3, none⟩ (.int .i64 1))) := ⟨qB⟩
       (try clear BK265)
       (try clear BK273)
       (try clear BK280)
       (try clear HI0)
       (try clear HK)
       (try clear HB)
       generalize ((((w31.setCell ⟨gb280, 0, none⟩ (.int .i64 1)).setCell ⟨gb280, 1, none⟩ (.int .i64 0)).setCell ⟨gb280, 2, none⟩ (.int .i64 (wrap64 (t284 - 2)))).setCell ⟨gb280, 3, none⟩ (.int .i64 1)) = w33 at n0_ n1_ n2_ n3_ n4_ n5_ ⊢
       have BK265 := n0_
       have BK273 := n1_
       have BK280 := n2_
       have HI0 := n3_
       have HK := n4_
       have HB := n5_
       clear n0_ n1_ n2_ n3_ n4_ n5_
       replace BK265 := aM (blk_drew BK265.out)
       replace BK273 := aM (blk_drew BK273.out)
       replace BK280 := aM (blk_drew BK280.out)
       replace HI0 := aM (IsS144.drew HI0.out)
       replace HK := aM (keep_drew HK.out)
       replace HB := aM (below_drew1 HB.out)
       refine sT (fun w' => w'.cell? ⟨gb280, 0, none⟩ = some (.int .i64 1) ∧ w'.cell? ⟨gb280, 1, none⟩ = some (.int .i64 0) ∧ w'.cell? ⟨gb280, 2, none⟩ = some (.int .i64 (wrap64 (t284 - 2))) ∧ w'.cell? ⟨gb280, 3, none⟩ = some (.int .i64 1) ∧ w'.cell? ⟨gb273, 0, none⟩ = some (.int .i64 x274000_1) ∧ w'.cell? ⟨gb273, 1, none⟩ = some (.int .i64 x274001_1) ∧ w'.cell? ⟨gb273, 2, none⟩ = some (.int .i64 x274002_1) ∧ w'.cell? ⟨gb273, 3, none⟩ = some (.int .i64 x274003_1)) [6] ⟨cB BK280, cB BK280, cB BK280, cB BK280, cB BK273, cB BK273, cB BK273, cB BK273⟩ (fun hHeld => ?_)
       generalize w33.drew = w34 at BK265 BK273 BK280 HI0 HK HB hHeld ⊢
       refine take_ (i := 0) (N := some 36) (v := ?_) (a' := ?_) (bz 7 1) rfl rfl (by kernel_rfl) (fun _ _ _ h => h) (Or.inl ⟨by rfl, ?_⟩) hHeld ?_ ?_
       rotate_left
       ·rintro w' ⟨s0, s1, s2, s3, s4, s5, s6, s7⟩
        go_simp
        with_reducible rfl
       rotate_left
       ·simp only [Act.put, List.setIfInBounds_toArray, List.set_cons_zero, List.set_cons_succ, i64_w, i32_w]
        rfl
       refine take_ (i := 1) (N := some 37) (v := ?_) (a' := ?_) (bz 7 3) rfl rfl (by kernel_rfl) (fun _ _ _ h => h) (Or.inl ⟨by rfl, ?_⟩) hHeld ?_ ?_
       rotate_left
       ·rintro w' ⟨s0, s1, s2, s3, s4, s5, s6, s7⟩
        go_simp
        with_reducible rfl
       rotate_left
       ·simp only [Act.put, List.setIfInBounds_toArray, List.set_cons_zero, List.set_cons_succ, i64_w, i32_w]
        rfl
       refine take_ (i := 3) (N := some 39) (v := ?_) (a' := ?_) (bz 7 11) rfl rfl (by kernel_rfl) (fun _ _ _ h => h) (Or.inl ⟨by rfl, ?_⟩) hHeld ?_ ?_
       rotate_left
       ·rintro w' ⟨s0, s1, s2, s3, s4, s5, s6, s7⟩
        go_simp
        with_reducible rfl
       rotate_left
       ·simp only [Act.put, List.setIfInBounds_toArray, List.set_cons_zero, List.set_cons_succ, i64_w, i32_w]
        rfl
       refine one_ (i := 2) (N := some 38) (bz 7 15) rfl rfl (by kernel_rfl) (by decide) (fun K hK => ?_)
       refine gO Try.func92 #[.agg #[.int .i64 1, .int .i64 0, .int .i64 (wrap64 (t284 - 2)), .int .i64 1], .agg #[.int .i64 x274000_1, .int .i64 x274001_1, .int .i64 x274002_1, .int .i64 x274003_1]] ?_
       with_reducible refine (spec_l02Multiply.calls 1 0 (wrap64 (t284 - 2)) 1 x274000_1 x274001_1 x274002_1 x274003_1 t287 t288 t289 t290 _ A21.out).mono ?_
       rintro e w35 ⟨rfl, hb⟩
       refine ⟨_, rfl, ?_⟩
       replace BK265 := bB BK265 hb
       replace BK273 := bB BK273 hb
       replace HI0 := iB g hb
       replace BK280 := bB BK280 hb
       replace HK := kU HK hb
       replace HB := bS HB hb
       (try clear hb)
       (try clear hb2)
       (try clear hk)
       (try clear hi)
       refine hK.out _ _ ⟨cB BK280, cB BK280, cB BK280, cB BK280, cB BK273, cB BK273, cB BK273, cB BK273⟩ (fun hHeld => ?_)
       clear hK K
       refine nM 38 ?_
       refine one_ (i := 4) (N := some 40) (bz 7 31) rfl rfl (by kernel_rfl) (by decide) (fun K hK => ?_)
       refine gO Try.func94 #[.agg #[.int .i64 1, .int .i64 0, .int .i64 (wrap64 (t284 - 2)), .int .i64 1]] ?_
       with_reducible refine (spec_l02Inverse.calls 1 0 (wrap64 (t284 - 2)) 1 t291 t292 t293 t294 _ A22.out).mono ?_
       rintro e w36 ⟨rfl, hb⟩
       refine ⟨_, rfl, ?_⟩
       replace BK265 := bB BK265 hb
       replace BK273 := bB BK273 hb
       replace HI0 := iB g hb
       replace BK280 := bB BK280 hb
       replace HK := kU HK hb
       replace HB := bS HB hb
       (try clear hb)
       (try clear hb2)
       (try clear hk)
       (try clear hi)
       refine hK.out _ _ ⟨cB BK280, cB BK280, cB BK280, cB BK280, cB BK273, cB BK273, cB BK273, cB BK273⟩ (fun hHeld => ?_)
       clear hK K
       refine nM 40 ?_
       refine one_ (i := 5) (N := some 41) (bz 7 63) rfl rfl (by kernel_rfl) (by decide) (fun K hK => ?_)
       refine gO Try.func92 #[.agg #[.int .i64 t287, .int .i64 t288, .int .i64 t289, .int .i64 t290], .agg #[.int .i64 t291, .int .i64 t292, .int .i64 t293, .int .i64 t294]] ?_
       with_reducible refine (spec_l02Multiply.calls t287 t288 t289 t290 t291 t292 t293 t294 t295 t296 t297 t298 _ A23.out).mono ?_
       rintro e w37 ⟨rfl, hb⟩
       refine ⟨_, rfl, ?_⟩
       replace BK265 := bB BK265 hb
       replace BK273 := bB BK273 hb
       replace HI0 := iB g hb
       replace BK280 := bB BK280 hb
       replace HK := kU HK hb
       replace HB := bS HB hb
       (try clear hb)
       (try clear hb2)
       (try clear hk)
       (try clear hi)
       refine hK.out _ _ ⟨cB BK280, cB BK280, cB BK280, cB BK280, cB BK273, cB BK273, cB BK273, cB BK273⟩ (fun hHeld => ?_)
       clear hK K
       refine nM 41 ?_
       refine last_ (i := 6) (N := none) (bz 7 127) rfl rfl (by kernel_rfl) (by decide) (fun K hK => ?_)
       have hs38 : w37.cell? ⟨gb273, 0, none⟩ = some (.int .i64 x274000_1) := cB BK273
       have hfs38 := blk_frozen BK273.out 0
       have hns38_0 := NB265_273.out
       have hns38_2 := NB280_273.out
       have hms38_0 := NB273_265.out
       have hms38_2 := NB273_280.out
       have hs39 : w37.cell? ⟨gb273, 1, none⟩ = some (.int .i64 x274001_1) := cB BK273
       have hfs39 := blk_frozen BK273.out 1
       have hns39_0 := NB265_273.out
       have hns39_2 := NB280_273.out
       have hms39_0 := NB273_265.out
       have hms39_2 := NB273_280.out
       have hs40 : w37.cell? ⟨gb273, 2, none⟩ = some (.int .i64 x274002_1) := cB BK273
       have hfs40 := blk_frozen BK273.out 2
       have hns40_0 := NB265_273.out
       have hns40_2 := NB280_273.out
       have hms40_0 := NB273_265.out
       have hms40_2 := NB273_280.out
       have hs41 : w37.cell? ⟨gb273, 3, none⟩ = some (.int .i64 x274003_1) := cB BK273
       have hfs41 := blk_frozen BK273.out 3
       have hns41_0 := NB265_273.out
       have hns41_2 := NB280_273.out
       have hms41_0 := NB273_265.out
       have hms41_2 := NB273_280.out
       refine skip_ (w1 := ?_) (by rfl) rfl ?_ ?_
       rotate_left
       ·go_simp
        rfl
       refine hK.out _ _ ?_
       clear hK K
       refine done_ (by kernel_rfl) ?_
       try go_wp2
       go_roundg k1
       case measure => have := HK1.out; omega
       case rel => exact ⟨(wrap64 (x4_1 - 1)), (t285), (t286), (t295), (t296), (t297), (t298), (by first | rfl | (simp; done) | (simp [*]; done)), H', ⟨by have := HK1.out; omega⟩, ⟨by (repeat (first|(with_reducible first|apply kN|apply kD|apply kA)|refine blk_far ?_ NB265_273.out _)); exact BK265.out⟩, ⟨by (with_reducible repeat (first|apply kN|apply kD|apply kA)); refine blk_put (cs := #[.int .i64 t295, .int .i64 t296, .int .i64 t297, .int .i64 x274003_1]) ?_ 3 _ rfl; (with_reducible repeat (first|apply kN|apply kD|apply kA)); refine blk_put (cs := #[.int .i64 t295, .int .i64 t296, .int .i64 x274002_1, .int .i64 x274003_1]) ?_ 2 _ rfl; (with_reducible repeat (first|apply kN|apply kD|apply kA)); refine blk_put (cs := #[.int .i64 t295, .int .i64 x274001_1, .int .i64 x274002_1, .int .i64 x274003_1]) ?_ 1 _ rfl; (with_reducible repeat (first|apply kN|apply kD|apply kA)); refine blk_put (cs := #[.int .i64 x274000_1, .int .i64 x274001_1, .int .i64 x274002_1, .int .i64 x274003_1]) ?_ 0 _ rfl; (with_reducible repeat (first|apply kN|apply kD|apply kA)); exact BK273.out⟩, ⟨by repeat (first | (with_reducible first | exact HI0.out | apply sA|apply sN|apply sD|apply s1|apply s2 | refine IsS144.far ?_ NB0_265.out _ | refine IsS144.far ?_ NB0_273.out _ | refine IsS144.far ?_ NB0_280.out _) | exact HI0.out)⟩, ⟨by repeat (first | (with_reducible first | exact HK.out | apply eS|apply eN|apply eD|apply eA | refine keep_far ?_ GW265.out _ | refine keep_far ?_ GW273.out _ | refine keep_far ?_ GW280.out _) | exact HK.out)⟩, ⟨qB⟩⟩
      ·rw [if_neg c19] at H
       have c19b0 : (t281 == 0) = false := beq_eq_false_iff_ne.mpr c19
       have c19b1 : (t281 != 0) = true := bne_iff_ne.mpr c19
       obtain ⟨⟨t299, t300, t301, t302⟩, A42, H⟩ := oB H
       try dsimp only at H
       obtain ⟨⟨t303, t304, t305, t306⟩, A43, H⟩ := oB H
       try dsimp only at H
       obtain ⟨⟨t307, t308, t309, t310⟩, A44, H⟩ := oB H
       try dsimp only at H
       have H' := aM H
       clear H
       try go_wp2_with (first | ((with_reducible refine gC (f:=84) rfl ?_); refine gM 26 (spec_l01Next.calls g s0_0 x1001_1 x1002_1 5 t277 t278 t279 w0 _ qI qB A17.out) Try.func84 ?_; rintro w45 ⟨hi, hb, hk⟩; replace BK265 := kB hk BK265 NB265_0; replace BK273 := kB hk BK273 NB273_0; replace HK := kT HK hk; replace HB := aM hb; replace HI0 := aM hi; (try clear hb)) | ((with_reducible refine gD (N:=5) rfl ?_); refine bE 5 #[.int .i64 0, .int .i64 0, .int .i64 0, .int .i64 0] 51 ?_; intro gb280 hg w46 hbox hb; have BK280 := aM hbox; have GW280 := kZ hg HK; have GE280 := kY HW0 hg HK; have NB265_280 := nL hg BK265; have NB280_265 := nG hg BK265; have NB273_280 := nL hg BK273; have NB280_273 := nG hg BK273; have NB0_280 := iL g hg; have NB280_0 := iG g hg; replace BK265 := bB BK265 hb; replace BK273 := bB BK273 hb; replace HI0 := iB g hb; replace HK := kU HK hb; replace HB := bS HB hb; clear hb hbox hg; have hnb47 := NB280_265.out; have hnc47 := NB265_280.out; have hnb48 := NB280_273.out; have hnc48 := NB273_280.out; have hnb49 := NB280_0.out; have hnc49 := NB0_280.out; obtain ⟨hcz50_0, hcz50_1, hcz50_2, hcz50_3⟩ := z4 BK280; obtain ⟨hfz50_0, hfz50_1, hfz50_2, hfz50_3⟩ := y4 BK280) | ((with_reducible refine gC (f:=84) rfl ?_); refine gM 30 (spec_l01Next.calls g s0_0 t278 t279 2 t281 t282 t283 w0 _ qI qB A18.out) Try.func84 ?_; rintro w51 ⟨hi, hb, hk⟩; replace BK265 := kB hk BK265 NB265_0; replace BK273 := kB hk BK273 NB273_0; replace BK280 := kP (.cells #[.int .i64 1, .int .i64 (wrap64 (t277 - 2)), .int .i64 0, .int .i64 1] 51 (0, 0)) hk BK280 NB280_0; replace HK := kT HK hk; replace HB := aM hb; replace HI0 := aM hi; (try clear hb)))
       replace BK265 := aM (blk_drew BK265.out)
       replace BK273 := aM (blk_drew BK273.out)
       replace BK280 := aM (blk_drew BK280.out)
       replace HI0 := aM (IsS144.drew HI0.out)
       replace HK := aM (keep_drew HK.out)
       replace HB := aM (below_drew1 HB.out)
       refine sT (fun w' => w'.cell? ⟨gb280, 0, none⟩ = some (.int .i64 1) ∧ w'.cell? ⟨gb280, 1, none⟩ = some (.int .i64 (wrap64 (t277 - 2))) ∧ w'.cell? ⟨gb280, 2, none⟩ = some (.int .i64 0) ∧ w'.cell? ⟨gb280, 3, none⟩ = some (.int .i64 1) ∧ w'.cell? ⟨gb273, 0, none⟩ = some (.int .i64 x274000_1) ∧ w'.cell? ⟨gb273, 1, none⟩ = some (.int .i64 x274001_1) ∧ w'.cell? ⟨gb273, 2, none⟩ = some (.int .i64 x274002_1) ∧ w'.cell? ⟨gb273, 3, none⟩ = some (.int .i64 x274003_1)) [6] ⟨cB BK280, cB BK280, cB BK280, cB BK280, cB BK273, cB BK273, cB BK273, cB BK273⟩ (fun hHeld => ?_)
       generalize w51.drew = w52 at BK265 BK273 BK280 HI0 HK HB hHeld ⊢
       refine take_ (i := 0) (N := some 36) (v := ?_) (a' := ?_) (bz 7 1) rfl rfl (by kernel_rfl) (fun _ _ _ h => h) (Or.inl ⟨by rfl, ?_⟩) hHeld ?_ ?_
       rotate_left
       ·rintro w' ⟨s0, s1, s2, s3, s4, s5, s6, s7⟩
        go_simp
        with_reducible rfl
       rotate_left
       ·simp only [Act.put, List.setIfInBounds_toArray, List.set_cons_zero, List.set_cons_succ, i64_w, i32_w]
        rfl
       refine take_ (i := 1) (N := some 37) (v := ?_) (a' := ?_) (bz 7 3) rfl rfl (by kernel_rfl) (fun _ _ _ h => h) (Or.inl ⟨by rfl, ?_⟩) hHeld ?_ ?_
       rotate_left
       ·rintro w' ⟨s0, s1, s2, s3, s4, s5, s6, s7⟩
        go_simp
        with_reducible rfl
       rotate_left
       ·simp only [Act.put, List.setIfInBounds_toArray, List.set_cons_zero, List.set_cons_succ, i64_w, i32_w]
        rfl
       refine take_ (i := 3) (N := some 39) (v := ?_) (a' := ?_) (bz 7 11) rfl rfl (by kernel_rfl) (fun _ _ _ h => h) (Or.inl ⟨by rfl, ?_⟩) hHeld ?_ ?_
       rotate_left
       ·rintro w' ⟨s0, s1, s2, s3, s4, s5, s6, s7⟩
        go_simp
        with_reducible rfl
       rotate_left
       ·simp only [Act.put, List.setIfInBounds_toArray, List.set_cons_zero, List.set_cons_succ, i64_w, i32_w]
        rfl
       refine one_ (i := 2) (N := some 38) (bz 7 15) rfl rfl (by kernel_rfl) (by decide) (fun K hK => ?_)
       refine gO Try.func92 #[.agg #[.int .i64 1, .int .i64 (wrap64 (t277 - 2)), .int .i64 0, .int .i64 1], .agg #[.int .i64 x274000_1, .int .i64 x274001_1, .int .i64 x274002_1, .int .i64 x274003_1]] ?_
       with_reducible refine (spec_l02Multiply.calls 1 (wrap64 (t277 - 2)) 0 1 x274000_1 x274001_1 x274002_1 x274003_1 t299 t300 t301 t302 _ A42.out).mono ?_
       rintro e w53 ⟨rfl, hb⟩
       refine ⟨_, rfl, ?_⟩
       replace BK265 := bB BK265 hb
       replace BK273 := bB BK273 hb
       replace HI0 := iB g hb
       replace BK280 := bB BK280 hb
       replace HK := kU HK hb
       replace HB := bS HB hb
       (try clear hb)
       (try clear hb2)
       (try clear hk)
       (try clear hi)
       refine hK.out _ _ ⟨cB BK280, cB BK280, cB BK280, cB BK280, cB BK273, cB BK273, cB BK273, cB BK273⟩ (fun hHeld => ?_)
       clear hK K
       refine nM 38 ?_
       refine one_ (i := 4) (N := some 40) (bz 7 31) rfl rfl (by kernel_rfl) (by decide) (fun K hK => ?_)
       refine gO Try.func94 #[.agg #[.int .i64 1, .int .i64 (wrap64 (t277 - 2)), .int .i64 0, .int .i64 1]] ?_
       with_reducible refine (spec_l02Inverse.calls 1 (wrap64 (t277 - 2)) 0 1 t303 t304 t305 t306 _ A43.out).mono ?_
       rintro e w54 ⟨rfl, hb⟩
       refine ⟨_, rfl, ?_⟩
       replace BK265 := bB BK265 hb
       replace BK273 := bB BK273 hb
       replace HI0 := iB g hb
       replace BK280 := bB BK280 hb
       replace HK := kU HK hb
       replace HB := bS HB hb
       (try clear hb)
       (try clear hb2)
       (try clear hk)
       (try clear hi)
       refine hK.out _ _ ⟨cB BK280, cB BK280, cB BK280, cB BK280, cB BK273, cB BK273, cB BK273, cB BK273⟩ (fun hHeld => ?_)
       clear hK K
       refine nM 40 ?_
       refine one_ (i := 5) (N := some 41) (bz 7 63) rfl rfl (by kernel_rfl) (by decide) (fun K hK => ?_)
       refine gO Try.func92 #[.agg #[.int .i64 t299, .int .i64 t300, .int .i64 t301, .int .i64 t302], .agg #[.int .i64 t303, .int .i64 t304, .int .i64 t305, .int .i64 t306]] ?_
       with_reducible refine (spec_l02Multiply.calls t299 t300 t301 t302 t303 t304 t305 t306 t307 t308 t309 t310 _ A44.out).mono ?_
       rintro e w55 ⟨rfl, hb⟩
       refine ⟨_, rfl, ?_⟩
       replace BK265 := bB BK265 hb
       replace BK273 := bB BK273 hb
       replace HI0 := iB g hb
       replace BK280 := bB BK280 hb
       replace HK := kU HK hb
       replace HB := bS HB hb
       (try clear hb)
       (try clear hb2)
       (try clear hk)
       (try clear hi)
       refine hK.out _ _ ⟨cB BK280, cB BK280, cB BK280, cB BK280, cB BK273, cB BK273, cB BK273, cB BK273⟩ (fun hHeld => ?_)
       clear hK K
       refine nM 41 ?_
       refine last_ (i := 6) (N := none) (bz 7 127) rfl rfl (by kernel_rfl) (by decide) (fun K hK => ?_)
       have hs56 : w55.cell? ⟨gb273, 0, none⟩ = some (.int .i64 x274000_1) := cB BK273
       have hfs56 := blk_frozen BK273.out 0
       have hns56_0 := NB265_273.out
       have hns56_2 := NB280_273.out
       have hms56_0 := NB273_265.out
       have hms56_2 := NB273_280.out
       have hs57 : w55.cell? ⟨gb273, 1, none⟩ = some (.int .i64 x274001_1) := cB BK273
       have hfs57 := blk_frozen BK273.out 1
       have hns57_0 := NB265_273.out
       have hns57_2 := NB280_273.out
       have hms57_0 := NB273_265.out
       have hms57_2 := NB273_280.out
       have hs58 : w55.cell? ⟨gb273, 2, none⟩ = some (.int .i64 x274002_1) := cB BK273
       have hfs58 := blk_frozen BK273.out 2
       have hns58_0 := NB265_273.out
       have hns58_2 := NB280_273.out
       have hms58_0 := NB273_265.out
       have hms58_2 := NB273_280.out
       have hs59 : w55.cell? ⟨gb273, 3, none⟩ = some (.int .i64 x274003_1) := cB BK273
       have hfs59 := blk_frozen BK273.out 3
       have hns59_0 := NB265_273.out
       have hns59_2 := NB280_273.out
       have hms59_0 := NB273_265.out
       have hms59_2 := NB273_280.out
       refine skip_ (w1 := ?_) (by rfl) rfl ?_ ?_
       rotate_left
       ·go_simp
        rfl
       refine hK.out _ _ ?_
       clear hK K
       refine done_ (by kernel_rfl) ?_
       try go_wp2
       go_roundg k1
       case measure => have := HK1.out; omega
       case rel => exact ⟨(wrap64 (x4_1 - 1)), (t282), (t283), (t307), (t308), (t309), (t310), (by first | rfl | (simp; done) | (simp [*]; done)), H', ⟨by have := HK1.out; omega⟩, ⟨by (repeat (first|(with_reducible first|apply kN|apply kD|apply kA)|refine blk_far ?_ NB265_273.out _)); exact BK265.out⟩, ⟨by (with_reducible repeat (first|apply kN|apply kD|apply kA)); refine blk_put (cs := #[.int .i64 t307, .int .i64 t308, .int .i64 t309, .int .i64 x274003_1]) ?_ 3 _ rfl; (with_reducible repeat (first|apply kN|apply kD|apply kA)); refine blk_put (cs := #[.int .i64 t307, .int .i64 t308, .int .i64 x274002_1, .int .i64 x274003_1]) ?_ 2 _ rfl; (with_reducible repeat (first|apply kN|apply kD|apply kA)); refine blk_put (cs := #[.int .i64 t307, .int .i64 x274001_1, .int .i64 x274002_1, .int .i64 x274003_1]) ?_ 1 _ rfl; (with_reducible repeat (first|apply kN|apply kD|apply kA)); refine blk_put (cs := #[.int .i64 x274000_1, .int .i64 x274001_1, .int .i64 x274002_1, .int .i64 x274003_1]) ?_ 0 _ rfl; (with_reducible repeat (first|apply kN|apply kD|apply kA)); exact BK273.out⟩, ⟨by repeat (first | (with_reducible first | exact HI0.out | apply sA|apply sN|apply sD|apply s1|apply s2 | refine IsS144.far ?_ NB0_265.out _ | refine IsS144.far ?_ NB0_273.out _ | refine IsS144.far ?_ NB0_280.out _) | exact HI0.out)⟩, ⟨by repeat (first | (with_reducible first | exact HK.out | apply eS|apply eN|apply eD|apply eA | refine keep_far ?_ GW265.out _ | refine keep_far ?_ GW273.out _ | refine keep_far ?_ GW280.out _) | exact HK.out)⟩, ⟨qB⟩⟩
     ·rw [if_neg c16] at H
      have c16b0 : decide (0 < x4_1) = false := decide_eq_false c16
      clear c16
      simp only [Option.some.injEq, Prod.mk.injEq] at H
      obtain ⟨rfl, rfl, rfl, rfl, rfl, rfl⟩ := H
      have hnb60 := NB273_265.out
      have hnc60 := NB265_273.out
      have hnb61 := NB273_0.out
      have hnc61 := NB0_273.out
      obtain ⟨hcz62_0, hcz62_1, hcz62_2, hcz62_3⟩ := z4 BK273
      obtain ⟨hfz62_0, hfz62_1, hfz62_2, hfz62_3⟩ := y4 BK273
      have hnb63 := NB265_0.out
      have hnc63 := NB0_265.out
      obtain ⟨hcz64_0, hcz64_1, hcz64_2, hcz64_3⟩ := z4 BK265
      obtain ⟨hfz64_0, hfz64_1, hfz64_2, hfz64_3⟩ := y4 BK265
      go_wp2
      refine bodyPost_ret (results_cell_row rfl _ _ gb265 51 #[.int .i64 x274000_1, .int .i64 x274001_1, .int .i64 x274002_1, .int .i64 x274003_1] (0, 0) _ rfl (by (with_reducible repeat (first|apply kN|apply kD|apply kA)); refine blk_put (cs := #[.int .i64 x274000_1, .int .i64 x274001_1, .int .i64 x274002_1, .int .i64 0]) ?_ 3 _ rfl; (with_reducible repeat (first|apply kN|apply kD|apply kA)); refine blk_put (cs := #[.int .i64 x274000_1, .int .i64 x274001_1, .int .i64 0, .int .i64 0]) ?_ 2 _ rfl; (with_reducible repeat (first|apply kN|apply kD|apply kA)); refine blk_put (cs := #[.int .i64 x274000_1, .int .i64 0, .int .i64 0, .int .i64 0]) ?_ 1 _ rfl; (with_reducible repeat (first|apply kN|apply kD|apply kA)); refine blk_put (cs := #[.int .i64 0, .int .i64 0, .int .i64 0, .int .i64 0]) ?_ 0 _ rfl; (with_reducible repeat (first|apply kN|apply kD|apply kA)); exact BK265.out) Try.underlying51 rfl (by kernel_rfl)) rfl ?_
      exact ⟨qR, qI, qB, qK⟩
  ·rw [if_neg c4] at H
   exact absurd H (by simp)
 ·rw [if_neg c3] at H
  exact absurd H (by simp)

end Go.Proofs.Ytcjchihnopmplaa.F
