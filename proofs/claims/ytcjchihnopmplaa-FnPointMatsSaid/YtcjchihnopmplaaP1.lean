import Derived.Test.YtcjchihnopmplaaP0
namespace Go.Proofs.Ytcjchihnopmplaa.F
open Go.RowKit Go.Proofs.YtcjchihnopmplaaW.PrintWords Go.Proofs.YtcjchihnopmplaaW.PrintLast Go.Proofs.YtcjchihnopmplaaW.PrintMore
attribute [local go_sem] max2_int min2_int max_two min_two max_three min_three max_four min_four   -- for this text's walks alone
set_option linter.unusedVariables false
set_option linter.unusedSimpArgs false

def laws_big.f (l0 : List Int) : Option (Bool) := some (decide ((l0.length : Int) > 4096))
set_option maxHeartbeats 8000000 in
set_option maxRecDepth 100000 in
theorem laws_big.calls (A0 : Option Addr) (c0 : Nat) (l0 : List Int) (r : Bool) (w : World) (hr0 : Kd.C (Kd.int .u8) w A0 l0.length l0) (hc0 : l0.length ≤ c0) (h : laws_big.f l0 = some r) :
  Calls Try.prog 21 #[.slice A0 l0.length c0] w fun e w' => e = .returned (.bool r) ∧ Drawn0 w w' := by
 have HR0 := aM hr0
 have HC0 := aM hc0
 clear hr0 hc0
 have H : (some (decide ((l0.length : Int) > 4096))) = some r := h
 clear h
 obtain rfl := Option.some.inj H
 go_enter Try.func21, Try.ntmps21
 go_wp2
 go_ret
 exact ⟨by first | rfl | (simp; done) | (simp [*]; done), by repeat (first | exact Drawn0.refl _ | apply Drawn0.step)⟩

def impl_within.f (a0 : Int) (a1 : Int) (a2 : Int) : Option (Bool) := if a0 ≥ a1 then (some (decide (a0 ≤ a2))) else (some false)
set_option maxHeartbeats 8000000 in
set_option maxRecDepth 100000 in
theorem impl_within.calls (a0 : Int) (a1 : Int) (a2 : Int) (r : Bool) (w : World) (h : impl_within.f a0 a1 a2 = some r) :
  Calls Try.prog 72 #[.int .i64 a0, .int .i64 a1, .int .i64 a2] w fun e w' => e = .returned (.bool r) ∧ Drawn0 w w' := by
 have H : (if a0 ≥ a1 then (some (decide (a0 ≤ a2))) else (some false)) = some r := h
 clear h
 by_cases c4 : a0 ≥ a1
 ·rw [if_pos c4] at H
  have c4b0 : decide (a1 ≤ a0) = true := decide_eq_true c4
  clear c4
  obtain rfl := Option.some.inj H
  go_enter Try.func72, Try.ntmps72
  go_wp2
  go_ret
  exact ⟨by first | rfl | (simp; done) | (simp [*]; done), by repeat (first | exact Drawn0.refl _ | apply Drawn0.step)⟩
 ·rw [if_neg c4] at H
  have c4b0 : decide (a1 ≤ a0) = false := decide_eq_false c4
  clear c4
  obtain rfl := Option.some.inj H
  go_enter Try.func72, Try.ntmps72
  go_wp2
  go_ret
  exact ⟨by first | rfl | (simp; done) | (simp [*]; done), by repeat (first | exact Drawn0.refl _ | apply Drawn0.step)⟩

def impl_IsFrame.f (a0 : Int) : Option (Bool) := (impl_within.f a0 0 1).bind fun t101 => (some t101)
set_option maxHeartbeats 8000000 in
set_option maxRecDepth 100000 in
theorem impl_IsFrame.calls (a0 : Int) (r : Bool) (w : World) (h : impl_IsFrame.f a0 = some r) :
  Calls Try.prog 62 #[.int .i64 a0] w fun e w' => e = .returned (.bool r) ∧ Drawn0 w w' := by
 have H : ((impl_within.f a0 0 1).bind fun t101 => (some t101)) = some r := h
 clear h
 obtain ⟨t101, A2, H⟩ := oB H
 try dsimp only at H
 obtain rfl := Option.some.inj H
 go_enter Try.func62, Try.ntmps62
 go_wp2_with (first | ((with_reducible refine gC (f:=72) rfl ?_); refine gM 4 (impl_within.calls a0 0 1 t101 _ A2.out) Try.func72 ?_; rintro w' ⟨⟨nd, rfl⟩⟩))
 go_ret
 exact ⟨by first | rfl | (simp; done) | (simp [*]; done), by repeat (first | exact Drawn0.refl _ | apply Drawn0.step)⟩

def impl_norm.f (a0 : Int) (a1_0 : Int) (a1_1 : Int) : Option (Int) := some (wrap64 ((wrap64 ((wrap64 (a1_0 * a1_0)) + (wrap64 ((wrap64 (a0 * a1_0)) * a1_1)))) + (wrap64 (a1_1 * a1_1))))
set_option maxHeartbeats 8000000 in
set_option maxRecDepth 100000 in
theorem impl_norm.calls (a0 : Int) (a1_0 : Int) (a1_1 : Int) (r : Int) (w : World) (h : impl_norm.f a0 a1_0 a1_1 = some r) :
  Calls Try.prog 76 #[.int .i64 a0, .agg #[.int .i64 a1_0, .int .i64 a1_1]] w fun e w' => e = .returned (.int .i64 r) ∧ Below w.heap.size w w' := by
 have hu47 := Try.underlying47
 have HB := aM (Below.refl w.heap.size w)
 have H : (some (wrap64 ((wrap64 ((wrap64 (a1_0 * a1_0)) + (wrap64 ((wrap64 (a0 * a1_0)) * a1_1)))) + (wrap64 (a1_1 * a1_1))))) = some r := h
 clear h
 obtain rfl := Option.some.inj H
 go_enter Try.func76, Try.ntmps76
 go_wp2_with (first | ((with_reducible refine gD (N:=3) rfl ?_); refine bE 3 #[.int .i64 a1_0, .int .i64 a1_1] 47 ?_; intro gb102 hg w3 hbox hb; have BK102 := aM hbox; have GW102 := bZ hg HB; have GE102 := bZ hg HB; replace HB := bS HB hb; clear hb hbox hg; obtain ⟨hcz4_0, hcz4_1⟩ := z2 BK102; obtain ⟨hfz4_0, hfz4_1⟩ := y2 BK102))
 go_ret
 exact ⟨qR, qB⟩

def impl_isCoordinate.f (a0 : Int) : Option (Bool) := (impl_within.f a0 (-1000) 1000).bind fun t103 => (some t103)
set_option maxHeartbeats 8000000 in
set_option maxRecDepth 100000 in
theorem impl_isCoordinate.calls (a0 : Int) (r : Bool) (w : World) (h : impl_isCoordinate.f a0 = some r) :
  Calls Try.prog 137 #[.int .i64 a0] w fun e w' => e = .returned (.bool r) ∧ Drawn0 w w' := by
 have H : ((impl_within.f a0 (-1000) 1000).bind fun t103 => (some t103)) = some r := h
 clear h
 obtain ⟨t103, A2, H⟩ := oB H
 try dsimp only at H
 obtain rfl := Option.some.inj H
 go_enter Try.func137, Try.ntmps137
 go_wp2_with (first | ((with_reducible refine gC (f:=72) rfl ?_); refine gM 4 (impl_within.calls a0 (-1000) 1000 t103 _ A2.out) Try.func72 ?_; rintro w' ⟨⟨nd, rfl⟩⟩))
 go_ret
 exact ⟨by first | rfl | (simp; done) | (simp [*]; done), by repeat (first | exact Drawn0.refl _ | apply Drawn0.step)⟩

def impl_IsVec.f (a0_0 : Int) (a0_1 : Int) : Option (Bool) := (impl_isCoordinate.f a0_0).bind fun t105 => (if t105 = true then ((impl_isCoordinate.f a0_1).bind fun t106 => (some t106)) else (some false))
set_option maxHeartbeats 8000000 in
set_option maxRecDepth 100000 in
theorem impl_IsVec.calls (a0_0 : Int) (a0_1 : Int) (r : Bool) (w : World) (h : impl_IsVec.f a0_0 a0_1 = some r) :
  Calls Try.prog 87 #[.agg #[.int .i64 a0_0, .int .i64 a0_1]] w fun e w' => e = .returned (.bool r) ∧ Below w.heap.size w w' := by
 have hu47 := Try.underlying47
 have HB := aM (Below.refl w.heap.size w)
 have H : ((impl_isCoordinate.f a0_0).bind fun t105 => (if t105 = true then ((impl_isCoordinate.f a0_1).bind fun t106 => (some t106)) else (some false))) = some r := h
 clear h
 obtain ⟨t105, A2, H⟩ := oB H
 try dsimp only at H
 by_cases c3 : t105 = true
 ·subst c3
  have H1 : ((impl_isCoordinate.f a0_1).bind fun t106 => (some t106)) = some r := by rw [if_pos rfl] at H; exact H
  clear H
  have H := H1
  clear H1
  obtain ⟨t106, A4, H⟩ := oB H
  try dsimp only at H
  obtain rfl := Option.some.inj H
  go_enter Try.func87, Try.ntmps87
  go_wp2_with (first | ((with_reducible refine gD (N:=1) rfl ?_); refine bE 1 #[.int .i64 a0_0, .int .i64 a0_1] 47 ?_; intro gb104 hg w5 hbox hb; have BK104 := aM hbox; have GW104 := bZ hg HB; have GE104 := bZ hg HB; replace HB := bS HB hb; clear hb hbox hg; obtain ⟨hcz6_0, hcz6_1⟩ := z2 BK104; obtain ⟨hfz6_0, hfz6_1⟩ := y2 BK104) | ((with_reducible refine gC (f:=137) rfl ?_); refine gM 5 (impl_isCoordinate.calls a0_0 true _ A2.out) Try.func137 ?_; rintro w' ⟨⟨nd, rfl⟩⟩) | (go_at_call 137; (with_reducible refine (impl_isCoordinate.calls a0_1 t106 _ A4.out).mono ?_); rintro e w' ⟨rfl, ⟨nd, rfl⟩⟩))
  go_ret
  exact ⟨qR, qB⟩
 ·replace c3 := Bool.eq_false_iff.mpr c3
  subst c3
  have H1 : (some false) = some r := by rw [if_neg (show ¬ (false = true) by decide)] at H; exact H
  clear H
  have H := H1
  clear H1
  obtain rfl := Option.some.inj H
  go_enter Try.func87, Try.ntmps87
  go_wp2_with (first | ((with_reducible refine gD (N:=1) rfl ?_); refine bE 1 #[.int .i64 a0_0, .int .i64 a0_1] 47 ?_; intro gb104 hg w7 hbox hb; have BK104 := aM hbox; have GW104 := bZ hg HB; have GE104 := bZ hg HB; replace HB := bS HB hb; clear hb hbox hg; obtain ⟨hcz8_0, hcz8_1⟩ := z2 BK104; obtain ⟨hfz8_0, hfz8_1⟩ := y2 BK104) | ((with_reducible refine gC (f:=137) rfl ?_); refine gM 5 (impl_isCoordinate.calls a0_0 false _ A2.out) Try.func137 ?_; rintro w' ⟨⟨nd, rfl⟩⟩))
  go_ret
  exact ⟨qR, qB⟩

def impl_NormOf.f (a0 : Int) (a1_0 : Int) (a1_1 : Int) : Option (Int × Int) := (impl_IsFrame.f a0).bind fun t108 => (if t108 = true then ((impl_IsVec.f a1_0 a1_1).bind fun t109 => (if t109 = true then ((impl_norm.f a0 a1_0 a1_1).bind fun t110 => (some (t110, 0))) else (some (0, 1)))) else (some (0, 1)))
set_option maxHeartbeats 8000000 in
set_option maxRecDepth 100000 in
theorem impl_NormOf.calls (a0 : Int) (a1_0 : Int) (a1_1 : Int) (r1 : Int) (r2 : Int) (w : World) (h : impl_NormOf.f a0 a1_0 a1_1 = some (r1, r2)) :
  Calls Try.prog 26 #[.int .i64 a0, .agg #[.int .i64 a1_0, .int .i64 a1_1]] w fun e w' => e = .returned (.tuple #[.int .i64 r1, .int .i64 r2]) ∧ Below w.heap.size w w' := by
 have hu47 := Try.underlying47
 have HB := aM (Below.refl w.heap.size w)
 have H : ((impl_IsFrame.f a0).bind fun t108 => (if t108 = true then ((impl_IsVec.f a1_0 a1_1).bind fun t109 => (if t109 = true then ((impl_norm.f a0 a1_0 a1_1).bind fun t110 => (some (t110, 0))) else (some (0, 1)))) else (some (0, 1)))) = some (r1, r2) := h
 clear h
 obtain ⟨t108, A3, H⟩ := oB H
 try dsimp only at H
 by_cases c4 : t108 = true
 ·subst c4
  have H1 : ((impl_IsVec.f a1_0 a1_1).bind fun t109 => (if t109 = true then ((impl_norm.f a0 a1_0 a1_1).bind fun t110 => (some (t110, 0))) else (some (0, 1)))) = some (r1, r2) := by rw [if_pos rfl] at H; exact H
  clear H
  have H := H1
  clear H1
  obtain ⟨t109, A5, H⟩ := oB H
  try dsimp only at H
  by_cases c6 : t109 = true
  ·subst c6
   have H1 : ((impl_norm.f a0 a1_0 a1_1).bind fun t110 => (some (t110, 0))) = some (r1, r2) := by rw [if_pos rfl] at H; exact H
   clear H
   have H := H1
   clear H1
   obtain ⟨t110, A7, H⟩ := oB H
   try dsimp only at H
   simp only [Option.some.injEq, Prod.mk.injEq] at H
   obtain ⟨rfl, rfl⟩ := H
   go_enter Try.func26, Try.ntmps26
   go_wp2_with (first | ((with_reducible refine gD (N:=3) rfl ?_); refine bE 3 #[.int .i64 a1_0, .int .i64 a1_1] 47 ?_; intro gb107 hg w8 hbox hb; have BK107 := aM hbox; have GW107 := bZ hg HB; have GE107 := bZ hg HB; replace HB := bS HB hb; clear hb hbox hg) | ((with_reducible refine gC (f:=62) rfl ?_); refine gM 7 (impl_IsFrame.calls a0 true _ A3.out) Try.func62 ?_; rintro w' ⟨⟨nd, rfl⟩⟩; obtain ⟨hcz9_0, hcz9_1⟩ := z2 BK107; obtain ⟨hfz9_0, hfz9_1⟩ := y2 BK107) | (go_at_call 87; (with_reducible refine (impl_IsVec.calls a1_0 a1_1 true _ A5.out).mono ?_); rintro e w10 ⟨rfl, hb⟩; replace BK107 := bB BK107 hb; replace HB := bS HB hb; (try clear hb); obtain ⟨hcz11_0, hcz11_1⟩ := z2 BK107; obtain ⟨hfz11_0, hfz11_1⟩ := y2 BK107) | ((with_reducible refine gC (f:=76) rfl ?_); refine gM 16 (impl_norm.calls a0 a1_0 a1_1 t110 _ A7.out) Try.func76 ?_; rintro w12 hb; replace BK107 := bB BK107 hb; replace HB := bS HB hb; (try clear hb)))
   go_ret2
   exact ⟨qR, qB⟩
  ·replace c6 := Bool.eq_false_iff.mpr c6
   subst c6
   have H1 : (some (0, 1)) = some (r1, r2) := by rw [if_neg (show ¬ (false = true) by decide)] at H; exact H
   clear H
   have H := H1
   clear H1
   simp only [Option.some.injEq, Prod.mk.injEq] at H
   obtain ⟨rfl, rfl⟩ := H
   go_enter Try.func26, Try.ntmps26
   go_wp2_with (first | ((with_reducible refine gD (N:=3) rfl ?_); refine bE 3 #[.int .i64 a1_0, .int .i64 a1_1] 47 ?_; intro gb107 hg w13 hbox hb; have BK107 := aM hbox; have GW107 := bZ hg HB; have GE107 := bZ hg HB; replace HB := bS HB hb; clear hb hbox hg) | ((with_reducible refine gC (f:=62) rfl ?_); refine gM 7 (impl_IsFrame.calls a0 true _ A3.out) Try.func62 ?_; rintro w' ⟨⟨nd, rfl⟩⟩; obtain ⟨hcz14_0, hcz14_1⟩ := z2 BK107; obtain ⟨hfz14_0, hfz14_1⟩ := y2 BK107) | (go_at_call 87; (with_reducible refine (impl_IsVec.calls a1_0 a1_1 false _ A5.out).mono ?_); rintro e w15 ⟨rfl, hb⟩; replace BK107 := bB BK107 hb; replace HB := bS HB hb; (try clear hb)))
   go_ret2
   exact ⟨qR, qB⟩
 ·replace c4 := Bool.eq_false_iff.mpr c4
  subst c4
  have H1 : (some (0, 1)) = some (r1, r2) := by rw [if_neg (show ¬ (false = true) by decide)] at H; exact H
  clear H
  have H := H1
  clear H1
  simp only [Option.some.injEq, Prod.mk.injEq] at H
  obtain ⟨rfl, rfl⟩ := H
  go_enter Try.func26, Try.ntmps26
  go_wp2_with (first | ((with_reducible refine gD (N:=3) rfl ?_); refine bE 3 #[.int .i64 a1_0, .int .i64 a1_1] 47 ?_; intro gb107 hg w16 hbox hb; have BK107 := aM hbox; have GW107 := bZ hg HB; have GE107 := bZ hg HB; replace HB := bS HB hb; clear hb hbox hg) | ((with_reducible refine gC (f:=62) rfl ?_); refine gM 7 (impl_IsFrame.calls a0 false _ A3.out) Try.func62 ?_; rintro w' ⟨⟨nd, rfl⟩⟩))
  go_ret2
  exact ⟨qR, qB⟩

def impl_Mat_isSmall.f (a0_0 : Int) (a0_1 : Int) (a0_2 : Int) (a0_3 : Int) : Option (Bool) := (impl_isCoordinate.f a0_0).bind fun t112 => (if t112 = true then ((impl_isCoordinate.f a0_1).bind fun t113 => (if t113 = true then ((impl_isCoordinate.f a0_2).bind fun t114 => (if t114 = true then ((impl_isCoordinate.f a0_3).bind fun t115 => (some t115)) else (some false))) else (some false))) else (some false))
set_option maxHeartbeats 8000000 in
set_option maxRecDepth 100000 in
theorem impl_Mat_isSmall.calls (a0_0 : Int) (a0_1 : Int) (a0_2 : Int) (a0_3 : Int) (r : Bool) (w : World) (h : impl_Mat_isSmall.f a0_0 a0_1 a0_2 a0_3 = some r) :
  Calls Try.prog 90 #[.agg #[.int .i64 a0_0, .int .i64 a0_1, .int .i64 a0_2, .int .i64 a0_3]] w fun e w' => e = .returned (.bool r) ∧ Below w.heap.size w w' := by
 have hu51 := Try.underlying51
 have HB := aM (Below.refl w.heap.size w)
 have H : ((impl_isCoordinate.f a0_0).bind fun t112 => (if t112 = true then ((impl_isCoordinate.f a0_1).bind fun t113 => (if t113 = true then ((impl_isCoordinate.f a0_2).bind fun t114 => (if t114 = true then ((impl_isCoordinate.f a0_3).bind fun t115 => (some t115)) else (some false))) else (some false))) else (some false))) = some r := h
 clear h
 obtain ⟨t112, A2, H⟩ := oB H
 try dsimp only at H
 by_cases c3 : t112 = true
 ·subst c3
  have H1 : ((impl_isCoordinate.f a0_1).bind fun t113 => (if t113 = true then ((impl_isCoordinate.f a0_2).bind fun t114 => (if t114 = true then ((impl_isCoordinate.f a0_3).bind fun t115 => (some t115)) else (some false))) else (some false))) = some r := by rw [if_pos rfl] at H; exact H
  clear H
  have H := H1
  clear H1
  obtain ⟨t113, A4, H⟩ := oB H
  try dsimp only at H
  by_cases c5 : t113 = true
  ·subst c5
   have H1 : ((impl_isCoordinate.f a0_2).bind fun t114 => (if t114 = true then ((impl_isCoordinate.f a0_3).bind fun t115 => (some t115)) else (some false))) = some r := by rw [if_pos rfl] at H; exact H
   clear H
   have H := H1
   clear H1
   obtain ⟨t114, A6, H⟩ := oB H
   try dsimp only at H
   by_cases c7 : t114 = true
   ·subst c7
    have H1 : ((impl_isCoordinate.f a0_3).bind fun t115 => (some t115)) = some r := by rw [if_pos rfl] at H; exact H
    clear H
    have H := H1
    clear H1
    obtain ⟨t115, A8, H⟩ := oB H
    try dsimp only at H
    obtain rfl := Option.some.inj H
    go_enter Try.func90, Try.ntmps90
    go_wp2_with (first | ((with_reducible refine gD (N:=1) rfl ?_); refine bE 1 #[.int .i64 a0_0, .int .i64 a0_1, .int .i64 a0_2, .int .i64 a0_3] 51 ?_; intro gb111 hg w9 hbox hb; have BK111 := aM hbox; have GW111 := bZ hg HB; have GE111 := bZ hg HB; replace HB := bS HB hb; clear hb hbox hg; obtain ⟨hcz10_0, hcz10_1, hcz10_2, hcz10_3⟩ := z4 BK111; obtain ⟨hfz10_0, hfz10_1, hfz10_2, hfz10_3⟩ := y4 BK111) | ((with_reducible refine gC (f:=137) rfl ?_); refine gM 5 (impl_isCoordinate.calls a0_0 true _ A2.out) Try.func137 ?_; rintro w' ⟨⟨nd, rfl⟩⟩) | (go_at_call 137; (with_reducible refine (impl_isCoordinate.calls a0_1 true _ A4.out).mono ?_); rintro e w' ⟨rfl, ⟨nd, rfl⟩⟩) | (go_at_call 137; (with_reducible refine (impl_isCoordinate.calls a0_2 true _ A6.out).mono ?_); rintro e w' ⟨rfl, ⟨nd, rfl⟩⟩) | (go_at_call 137; (with_reducible refine (impl_isCoordinate.calls a0_3 t115 _ A8.out).mono ?_); rintro e w' ⟨rfl, ⟨nd, rfl⟩⟩))
    go_ret
    exact ⟨qR, qB⟩
   ·replace c7 := Bool.eq_false_iff.mpr c7
    subst c7
    have H1 : (some false) = some r := by rw [if_neg (show ¬ (false = true) by decide)] at H; exact H
    clear H
    have H := H1
    clear H1
    obtain rfl := Option.some.inj H
    go_enter Try.func90, Try.ntmps90
    go_wp2_with (first | ((with_reducible refine gD (N:=1) rfl ?_); refine bE 1 #[.int .i64 a0_0, .int .i64 a0_1, .int .i64 a0_2, .int .i64 a0_3] 51 ?_; intro gb111 hg w11 hbox hb; have BK111 := aM hbox; have GW111 := bZ hg HB; have GE111 := bZ hg HB; replace HB := bS HB hb; clear hb hbox hg; obtain ⟨hcz12_0, hcz12_1, hcz12_2, hcz12_3⟩ := z4 BK111; obtain ⟨hfz12_0, hfz12_1, hfz12_2, hfz12_3⟩ := y4 BK111) | ((with_reducible refine gC (f:=137) rfl ?_); refine gM 5 (impl_isCoordinate.calls a0_0 true _ A2.out) Try.func137 ?_; rintro w' ⟨⟨nd, rfl⟩⟩) | (go_at_call 137; (with_reducible refine (impl_isCoordinate.calls a0_1 true _ A4.out).mono ?_); rintro e w' ⟨rfl, ⟨nd, rfl⟩⟩) | (go_at_call 137; (with_reducible refine (impl_isCoordinate.calls a0_2 false _ A6.out).mono ?_); rintro e w' ⟨rfl, ⟨nd, rfl⟩⟩))
    go_ret
    exact ⟨qR, qB⟩
  ·replace c5 := Bool.eq_false_iff.mpr c5
   subst c5
   have H1 : (some false) = some r := by rw [if_neg (show ¬ (false = true) by decide)] at H; exact H
   clear H
   have H := H1
   clear H1
   obtain rfl := Option.some.inj H
   go_enter Try.func90, Try.ntmps90
   go_wp2_with (first | ((with_reducible refine gD (N:=1) rfl ?_); refine bE 1 #[.int .i64 a0_0, .int .i64 a0_1, .int .i64 a0_2, .int .i64 a0_3] 51 ?_; intro gb111 hg w13 hbox hb; have BK111 := aM hbox; have GW111 := bZ hg HB; have GE111 := bZ hg HB; replace HB := bS HB hb; clear hb hbox hg; obtain ⟨hcz14_0, hcz14_1, hcz14_2, hcz14_3⟩ := z4 BK111; obtain ⟨hfz14_0, hfz14_1, hfz14_2, hfz14_3⟩ := y4 BK111) | ((with_reducible refine gC (f:=137) rfl ?_); refine gM 5 (impl_isCoordinate.calls a0_0 true _ A2.out) Try.func137 ?_; rintro w' ⟨⟨nd, rfl⟩⟩) | (go_at_call 137; (with_reducible refine (impl_isCoordinate.calls a0_1 false _ A4.out).mono ?_); rintro e w' ⟨rfl, ⟨nd, rfl⟩⟩))
   go_ret
   exact ⟨qR, qB⟩
 ·replace c3 := Bool.eq_false_iff.mpr c3
  subst c3
  have H1 : (some false) = some r := by rw [if_neg (show ¬ (false = true) by decide)] at H; exact H
  clear H
  have H := H1
  clear H1
  obtain rfl := Option.some.inj H
  go_enter Try.func90, Try.ntmps90
  go_wp2_with (first | ((with_reducible refine gD (N:=1) rfl ?_); refine bE 1 #[.int .i64 a0_0, .int .i64 a0_1, .int .i64 a0_2, .int .i64 a0_3] 51 ?_; intro gb111 hg w15 hbox hb; have BK111 := aM hbox; have GW111 := bZ hg HB; have GE111 := bZ hg HB; replace HB := bS HB hb; clear hb hbox hg; obtain ⟨hcz16_0, hcz16_1, hcz16_2, hcz16_3⟩ := z4 BK111; obtain ⟨hfz16_0, hfz16_1, hfz16_2, hfz16_3⟩ := y4 BK111) | ((with_reducible refine gC (f:=137) rfl ?_); refine gM 5 (impl_isCoordinate.calls a0_0 false _ A2.out) Try.func137 ?_; rintro w' ⟨⟨nd, rfl⟩⟩))
  go_ret
  exact ⟨qR, qB⟩

def impl_Mat_det.f (a0_0 : Int) (a0_1 : Int) (a0_2 : Int) (a0_3 : Int) : Option (Int) := some (wrap64 ((wrap64 (a0_0 * a0_3)) - (wrap64 (a0_1 * a0_2))))
set_option maxHeartbeats 8000000 in
set_option maxRecDepth 100000 in
theorem impl_Mat_det.calls (a0_0 : Int) (a0_1 : Int) (a0_2 : Int) (a0_3 : Int) (r : Int) (w : World) (h : impl_Mat_det.f a0_0 a0_1 a0_2 a0_3 = some r) :
  Calls Try.prog 101 #[.agg #[.int .i64 a0_0, .int .i64 a0_1, .int .i64 a0_2, .int .i64 a0_3]] w fun e w' => e = .returned (.int .i64 r) ∧ Below w.heap.size w w' := by
 have hu51 := Try.underlying51
 have HB := aM (Below.refl w.heap.size w)
 have H : (some (wrap64 ((wrap64 (a0_0 * a0_3)) - (wrap64 (a0_1 * a0_2))))) = some r := h
 clear h
 obtain rfl := Option.some.inj H
 go_enter Try.func101, Try.ntmps101
 go_wp2_with (first | ((with_reducible refine gD (N:=1) rfl ?_); refine bE 1 #[.int .i64 a0_0, .int .i64 a0_1, .int .i64 a0_2, .int .i64 a0_3] 51 ?_; intro gb116 hg w2 hbox hb; have BK116 := aM hbox; have GW116 := bZ hg HB; have GE116 := bZ hg HB; replace HB := bS HB hb; clear hb hbox hg; obtain ⟨hcz3_0, hcz3_1, hcz3_2, hcz3_3⟩ := z4 BK116; obtain ⟨hfz3_0, hfz3_1, hfz3_2, hfz3_3⟩ := y4 BK116))
 go_ret
 exact ⟨qR, qB⟩

def impl_IsMat.f (a0_0 : Int) (a0_1 : Int) (a0_2 : Int) (a0_3 : Int) : Option (Bool) := (impl_Mat_isSmall.f a0_0 a0_1 a0_2 a0_3).bind fun t118 => (if t118 = true then ((impl_Mat_det.f a0_0 a0_1 a0_2 a0_3).bind fun t119 => (if t119 = 1 then (some true) else ((impl_Mat_det.f a0_0 a0_1 a0_2 a0_3).bind fun t120 => (some (t120 == (-1)))))) else (some false))
set_option maxHeartbeats 8000000 in
set_option maxRecDepth 100000 in
theorem impl_IsMat.calls (a0_0 : Int) (a0_1 : Int) (a0_2 : Int) (a0_3 : Int) (r : Bool) (w : World) (h : impl_IsMat.f a0_0 a0_1 a0_2 a0_3 = some r) :
  Calls Try.prog 37 #[.agg #[.int .i64 a0_0, .int .i64 a0_1, .int .i64 a0_2, .int .i64 a0_3]] w fun e w' => e = .returned (.bool r) ∧ Below w.heap.size w w' := by
 have hu51 := Try.underlying51
 have HB := aM (Below.refl w.heap.size w)
 have H : ((impl_Mat_isSmall.f a0_0 a0_1 a0_2 a0_3).bind fun t118 => (if t118 = true then ((impl_Mat_det.f a0_0 a0_1 a0_2 a0_3).bind fun t119 => (if t119 = 1 then (some true) else ((impl_Mat_det.f a0_0 a0_1 a0_2 a0_3).bind fun t120 => (some (t120 == (-1)))))) else (some false))) = some r := h
 clear h
 obtain ⟨t118, A2, H⟩ := oB H
 try dsimp only at H
 by_cases c3 : t118 = true
 ·subst c3
  have H1 : ((impl_Mat_det.f a0_0 a0_1 a0_2 a0_3).bind fun t119 => (if t119 = 1 then (some true) else ((impl_Mat_det.f a0_0 a0_1 a0_2 a0_3).bind fun t120 => (some (t120 == (-1)))))) = some r := by rw [if_pos rfl] at H; exact H
  clear H
  have H := H1
  clear H1
  obtain ⟨t119, A4, H⟩ := oB H
  try dsimp only at H
  by_cases c5 : t119 = 1
  ·rw [if_pos c5] at H
   have c5b0 : (t119 == 1) = true := beq_iff_eq.mpr c5
   have c5b1 : (t119 != 1) = false := bne_eq_false_iff_eq.mpr c5
   clear c5
   obtain rfl := Option.some.inj H
   go_enter Try.func37, Try.ntmps37
   go_wp2_with (first | ((with_reducible refine gD (N:=1) rfl ?_); refine bE 1 #[.int .i64 a0_0, .int .i64 a0_1, .int .i64 a0_2, .int .i64 a0_3] 51 ?_; intro gb117 hg w6 hbox hb; have BK117 := aM hbox; have GW117 := bZ hg HB; have GE117 := bZ hg HB; replace HB := bS HB hb; clear hb hbox hg; obtain ⟨hcz7_0, hcz7_1, hcz7_2, hcz7_3⟩ := z4 BK117; obtain ⟨hfz7_0, hfz7_1, hfz7_2, hfz7_3⟩ := y4 BK117) | ((with_reducible refine gC (f:=90) rfl ?_); refine gM 4 (impl_Mat_isSmall.calls a0_0 a0_1 a0_2 a0_3 true _ A2.out) Try.func90 ?_; rintro w8 hb; replace BK117 := bB BK117 hb; replace HB := bS HB hb; (try clear hb); obtain ⟨hcz9_0, hcz9_1, hcz9_2, hcz9_3⟩ := z4 BK117; obtain ⟨hfz9_0, hfz9_1, hfz9_2, hfz9_3⟩ := y4 BK117) | (go_at_call 101; (with_reducible refine (impl_Mat_det.calls a0_0 a0_1 a0_2 a0_3 t119 _ A4.out).mono ?_); rintro e w10 ⟨rfl, hb⟩; replace BK117 := bB BK117 hb; replace HB := bS HB hb; (try clear hb)))
   go_ret
   exact ⟨qR, qB⟩
  ·rw [if_neg c5] at H
   have c5b0 : (t119 == 1) = false := beq_eq_false_iff_ne.mpr c5
   have c5b1 : (t119 != 1) = true := bne_iff_ne.mpr c5
   rw [A4.out] at H
   try dsimp only at H
   obtain rfl := Option.some.inj H
   go_enter Try.func37, Try.ntmps37
   go_wp2_with (first | ((with_reducible refine gD (N:=1) rfl ?_); refine bE 1 #[.int .i64 a0_0, .int .i64 a0_1, .int .i64 a0_2, .int .i64 a0_3] 51 ?_; intro gb117 hg w12 hbox hb; have BK117 := aM hbox; have GW117 := bZ hg HB; have GE117 := bZ hg HB; replace HB := bS HB hb; clear hb hbox hg; obtain ⟨hcz13_0, hcz13_1, hcz13_2, hcz13_3⟩ := z4 BK117; obtain ⟨hfz13_0, hfz13_1, hfz13_2, hfz13_3⟩ := y4 BK117) | ((with_reducible refine gC (f:=90) rfl ?_); refine gM 4 (impl_Mat_isSmall.calls a0_0 a0_1 a0_2 a0_3 true _ A2.out) Try.func90 ?_; rintro w14 hb; replace BK117 := bB BK117 hb; replace HB := bS HB hb; (try clear hb); obtain ⟨hcz15_0, hcz15_1, hcz15_2, hcz15_3⟩ := z4 BK117; obtain ⟨hfz15_0, hfz15_1, hfz15_2, hfz15_3⟩ := y4 BK117) | (go_at_call 101; (with_reducible refine (impl_Mat_det.calls a0_0 a0_1 a0_2 a0_3 t119 _ A4.out).mono ?_); rintro e w16 ⟨rfl, hb⟩; replace BK117 := bB BK117 hb; replace HB := bS HB hb; (try clear hb); obtain ⟨hcz17_0, hcz17_1, hcz17_2, hcz17_3⟩ := z4 BK117; obtain ⟨hfz17_0, hfz17_1, hfz17_2, hfz17_3⟩ := y4 BK117) | (go_at_call 101; (with_reducible refine (impl_Mat_det.calls a0_0 a0_1 a0_2 a0_3 t119 _ A4.out).mono ?_); rintro e w18 ⟨rfl, hb⟩; replace BK117 := bB BK117 hb; replace HB := bS HB hb; (try clear hb)))
   go_ret
   exact ⟨qR, qB⟩
 ·replace c3 := Bool.eq_false_iff.mpr c3
  subst c3
  have H1 : (some false) = some r := by rw [if_neg (show ¬ (false = true) by decide)] at H; exact H
  clear H
  have H := H1
  clear H1
  obtain rfl := Option.some.inj H
  go_enter Try.func37, Try.ntmps37
  go_wp2_with (first | ((with_reducible refine gD (N:=1) rfl ?_); refine bE 1 #[.int .i64 a0_0, .int .i64 a0_1, .int .i64 a0_2, .int .i64 a0_3] 51 ?_; intro gb117 hg w19 hbox hb; have BK117 := aM hbox; have GW117 := bZ hg HB; have GE117 := bZ hg HB; replace HB := bS HB hb; clear hb hbox hg; obtain ⟨hcz20_0, hcz20_1, hcz20_2, hcz20_3⟩ := z4 BK117; obtain ⟨hfz20_0, hfz20_1, hfz20_2, hfz20_3⟩ := y4 BK117) | ((with_reducible refine gC (f:=90) rfl ?_); refine gM 4 (impl_Mat_isSmall.calls a0_0 a0_1 a0_2 a0_3 false _ A2.out) Try.func90 ?_; rintro w21 hb; replace BK117 := bB BK117 hb; replace HB := bS HB hb; (try clear hb)))
  go_ret
  exact ⟨qR, qB⟩

def impl_limited.f (a0_0 : Int) (a0_1 : Int) : Option (Int × Int × Int) := (impl_IsVec.f a0_0 a0_1).bind fun t123 => (if t123 = true then (some (a0_0, a0_1, 0)) else (some (0, 0, 3)))
set_option maxHeartbeats 8000000 in
set_option maxRecDepth 100000 in
theorem impl_limited.calls (a0_0 : Int) (a0_1 : Int) (r1 : Int) (r2 : Int) (r3 : Int) (w : World) (h : impl_limited.f a0_0 a0_1 = some (r1, r2, r3)) :
  Calls Try.prog 96 #[.agg #[.int .i64 a0_0, .int .i64 a0_1]] w fun e w' => e = .returned (.tuple #[.agg #[.int .i64 r1, .int .i64 r2], .int .i64 r3]) ∧ Below w.heap.size w w' := by
 have hu47 := Try.underlying47
 have HB := aM (Below.refl w.heap.size w)
 have H : ((impl_IsVec.f a0_0 a0_1).bind fun t123 => (if t123 = true then (some (a0_0, a0_1, 0)) else (some (0, 0, 3)))) = some (r1, r2, r3) := h
 clear h
 obtain ⟨t123, A2, H⟩ := oB H
 try dsimp only at H
 by_cases c3 : t123 = true
 ·subst c3
  have H1 : (some (a0_0, a0_1, 0)) = some (r1, r2, r3) := by rw [if_pos rfl] at H; exact H
  clear H
  have H := H1
  clear H1
  simp only [Option.some.injEq, Prod.mk.injEq] at H
  obtain ⟨rfl, rfl, rfl⟩ := H
  go_enter Try.func96, Try.ntmps96
  go_wp2_with (first | ((with_reducible refine gD (N:=1) rfl ?_); refine bE 1 #[.int .i64 a0_0, .int .i64 a0_1] 47 ?_; intro gb121 hg w4 hbox hb; have BK121 := aM hbox; have GW121 := bZ hg HB; have GE121 := bZ hg HB; replace HB := bS HB hb; clear hb hbox hg) | ((with_reducible refine gD (N:=2) rfl ?_); refine bE 2 #[.int .i64 0, .int .i64 0] 47 ?_; intro gb122 hg w5 hbox hb; have BK122 := aM hbox; have GW122 := bZ hg HB; have GE122 := bZ hg HB; have NB121_122 := nL hg BK121; have NB122_121 := nG hg BK121; replace BK121 := bB BK121 hb; replace HB := bS HB hb; clear hb hbox hg; have hnb6 := NB121_122.out; have hnc6 := NB122_121.out; obtain ⟨hcz7_0, hcz7_1⟩ := z2 BK121; obtain ⟨hfz7_0, hfz7_1⟩ := y2 BK121) | ((with_reducible refine gC (f:=87) rfl ?_); refine gM 5 (impl_IsVec.calls a0_0 a0_1 true _ A2.out) Try.func87 ?_; rintro w8 hb; replace BK121 := bB BK121 hb; replace BK122 := bB BK122 hb; replace HB := bS HB hb; (try clear hb); obtain ⟨hcz9_0, hcz9_1⟩ := z2 BK121; obtain ⟨hfz9_0, hfz9_1⟩ := y2 BK121; obtain ⟨hcz10_0, hcz10_1⟩ := z2 BK122; obtain ⟨hfz10_0, hfz10_1⟩ := y2 BK122))
  refine bodyPost_ret (results_ct rfl _ _ gb122 47 #[.int .i64 a0_0, .int .i64 a0_1] (0, 0) _ rfl (by (with_reducible repeat (first|apply kN|apply kD|apply kA)); refine blk_put (cs := #[.int .i64 a0_0, .int .i64 0]) ?_ 1 _ rfl; (with_reducible repeat (first|apply kN|apply kD|apply kA)); refine blk_put (cs := #[.int .i64 0, .int .i64 0]) ?_ 0 _ rfl; (with_reducible repeat (first|apply kN|apply kD|apply kA)); exact BK122.out) Try.underlying47 rfl (by kernel_rfl)) rfl ?_
  exact ⟨qR, qB⟩
 ·replace c3 := Bool.eq_false_iff.mpr c3
  subst c3
  have H1 : (some (0, 0, 3)) = some (r1, r2, r3) := by rw [if_neg (show ¬ (false = true) by decide)] at H; exact H
  clear H
  have H := H1
  clear H1
  simp only [Option.some.injEq, Prod.mk.injEq] at H
  obtain ⟨rfl, rfl, rfl⟩ := H
  go_enter Try.func96, Try.ntmps96
  go_wp2_with (first | ((with_reducible refine gD (N:=1) rfl ?_); refine bE 1 #[.int .i64 a0_0, .int .i64 a0_1] 47 ?_; intro gb121 hg w11 hbox hb; have BK121 := aM hbox; have GW121 := bZ hg HB; have GE121 := bZ hg HB; replace HB := bS HB hb; clear hb hbox hg) | ((with_reducible refine gD (N:=2) rfl ?_); refine bE 2 #[.int .i64 0, .int .i64 0] 47 ?_; intro gb122 hg w12 hbox hb; have BK122 := aM hbox; have GW122 := bZ hg HB; have GE122 := bZ hg HB; have NB121_122 := nL hg BK121; have NB122_121 := nG hg BK121; replace BK121 := bB BK121 hb; replace HB := bS HB hb; clear hb hbox hg; have hnb13 := NB121_122.out; have hnc13 := NB122_121.out; obtain ⟨hcz14_0, hcz14_1⟩ := z2 BK121; obtain ⟨hfz14_0, hfz14_1⟩ := y2 BK121) | ((with_reducible refine gC (f:=87) rfl ?_); refine gM 5 (impl_IsVec.calls a0_0 a0_1 false _ A2.out) Try.func87 ?_; rintro w15 hb; replace BK121 := bB BK121 hb; replace BK122 := bB BK122 hb; replace HB := bS HB hb; (try clear hb); obtain ⟨hcz16_0, hcz16_1⟩ := z2 BK122; obtain ⟨hfz16_0, hfz16_1⟩ := y2 BK122))
  refine bodyPost_ret (results_ct rfl _ _ gb122 47 #[.int .i64 0, .int .i64 0] (0, 0) _ rfl (by (with_reducible repeat (first|apply kN|apply kD|apply kA)); refine blk_put (cs := #[.int .i64 0, .int .i64 0]) ?_ 1 _ rfl; (with_reducible repeat (first|apply kN|apply kD|apply kA)); refine blk_put (cs := #[.int .i64 0, .int .i64 0]) ?_ 0 _ rfl; (with_reducible repeat (first|apply kN|apply kD|apply kA)); exact BK122.out) Try.underlying47 rfl (by kernel_rfl)) rfl ?_
  exact ⟨qR, qB⟩

def impl_Mat_apply.f (a0_0 : Int) (a0_1 : Int) (a0_2 : Int) (a0_3 : Int) (a1_0 : Int) (a1_1 : Int) : Option (Int × Int) := some (wrap64 ((wrap64 (a0_0 * a1_0)) + (wrap64 (a0_1 * a1_1))), wrap64 ((wrap64 (a0_2 * a1_0)) + (wrap64 (a0_3 * a1_1))))
set_option maxHeartbeats 8000000 in
set_option maxRecDepth 100000 in
theorem impl_Mat_apply.calls (a0_0 : Int) (a0_1 : Int) (a0_2 : Int) (a0_3 : Int) (a1_0 : Int) (a1_1 : Int) (r1 : Int) (r2 : Int) (w : World) (h : impl_Mat_apply.f a0_0 a0_1 a0_2 a0_3 a1_0 a1_1 = some (r1, r2)) :
  Calls Try.prog 97 #[.agg #[.int .i64 a0_0, .int .i64 a0_1, .int .i64 a0_2, .int .i64 a0_3], .agg #[.int .i64 a1_0, .int .i64 a1_1]] w fun e w' => e = .returned (.agg #[.int .i64 r1, .int .i64 r2]) ∧ Below w.heap.size w w' := by
 have hu51 := Try.underlying51
 have hu47 := Try.underlying47
 have HB := aM (Below.refl w.heap.size w)
 have H : (some (wrap64 ((wrap64 (a0_0 * a1_0)) + (wrap64 (a0_1 * a1_1))), wrap64 ((wrap64 (a0_2 * a1_0)) + (wrap64 (a0_3 * a1_1))))) = some (r1, r2) := h
 clear h
 simp only [Option.some.injEq, Prod.mk.injEq] at H
 obtain ⟨rfl, rfl⟩ := H
 go_enter Try.func97, Try.ntmps97
 go_wp2_with (first | ((with_reducible refine gD (N:=2) rfl ?_); refine bE 2 #[.int .i64 a0_0, .int .i64 a0_1, .int .i64 a0_2, .int .i64 a0_3] 51 ?_; intro gb124 hg w3 hbox hb; have BK124 := aM hbox; have GW124 := bZ hg HB; have GE124 := bZ hg HB; replace HB := bS HB hb; clear hb hbox hg) | ((with_reducible refine gD (N:=3) rfl ?_); refine bE 3 #[.int .i64 a1_0, .int .i64 a1_1] 47 ?_; intro gb125 hg w4 hbox hb; have BK125 := aM hbox; have GW125 := bZ hg HB; have GE125 := bZ hg HB; have NB124_125 := nL hg BK124; have NB125_124 := nG hg BK124; replace BK124 := bB BK124 hb; replace HB := bS HB hb; clear hb hbox hg) | ((with_reducible refine gD (N:=4) rfl ?_); refine bE 4 #[.int .i64 0, .int .i64 0] 47 ?_; intro gb126 hg w5 hbox hb; have BK126 := aM hbox; have GW126 := bZ hg HB; have GE126 := bZ hg HB; have NB124_126 := nL hg BK124; have NB126_124 := nG hg BK124; have NB125_126 := nL hg BK125; have NB126_125 := nG hg BK125; replace BK124 := bB BK124 hb; replace BK125 := bB BK125 hb; replace HB := bS HB hb; clear hb hbox hg; have hnb6 := NB124_125.out; have hnc6 := NB125_124.out; have hnb7 := NB124_126.out; have hnc7 := NB126_124.out; obtain ⟨hcz8_0, hcz8_1, hcz8_2, hcz8_3⟩ := z4 BK124; obtain ⟨hfz8_0, hfz8_1, hfz8_2, hfz8_3⟩ := y4 BK124; have hnb9 := NB125_126.out; have hnc9 := NB126_125.out; obtain ⟨hcz10_0, hcz10_1⟩ := z2 BK125; obtain ⟨hfz10_0, hfz10_1⟩ := y2 BK125; obtain ⟨hcz11_0, hcz11_1⟩ := z2 BK126; obtain ⟨hfz11_0, hfz11_1⟩ := y2 BK126))
 refine bodyPost_ret (results_cell_row rfl _ _ gb126 47 #[.int .i64 (wrap64 ((wrap64 (a0_0 * a1_0)) + (wrap64 (a0_1 * a1_1)))), .int .i64 (wrap64 ((wrap64 (a0_2 * a1_0)) + (wrap64 (a0_3 * a1_1))))] (0, 0) _ rfl (by (with_reducible repeat (first|apply kN|apply kD|apply kA)); refine blk_put (cs := #[.int .i64 (wrap64 ((wrap64 (a0_0 * a1_0)) + (wrap64 (a0_1 * a1_1)))), .int .i64 0]) ?_ 1 _ rfl; (with_reducible repeat (first|apply kN|apply kD|apply kA)); refine blk_put (cs := #[.int .i64 0, .int .i64 0]) ?_ 0 _ rfl; (with_reducible repeat (first|apply kN|apply kD|apply kA)); exact BK126.out) Try.underlying47 rfl (by kernel_rfl)) rfl ?_
 exact ⟨qR, qB⟩

end Go.Proofs.Ytcjchihnopmplaa.F
