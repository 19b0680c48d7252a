import Derived.Test.YtcjchihnopmplaaP0
import Derived.Test.YtcjchihnopmplaaP4
import Derived.Test.YtcjchihnopmplaaP5
import Derived.Test.YtcjchihnopmplaaP6
import Derived.Test.YtcjchihnopmplaaP14
namespace Go.Proofs.Ytcjchihnopmplaa.F
open Go.RowKit Go.Proofs.YtcjchihnopmplaaW.PrintWords Go.Proofs.YtcjchihnopmplaaW.PrintLast Go.Proofs.YtcjchihnopmplaaW.PrintMore
attribute [local go_sem] max2_int min2_int max_two min_two max_three min_three max_four min_four   -- for this text's walks alone
set_option linter.unusedVariables false
set_option linter.unusedSimpArgs false

def spec_IsPointMat.f (a0 : Int) (a1_0 : Int) (a1_1 : Int) (a1_2 : Int) (a1_3 : Int) : Option (Bool) := (spec_IsFrame.f a0).bind fun t521 => (if t521 = true then ((spec_IsMat.f a1_0 a1_1 a1_2 a1_3).bind fun t522 => (if t522 = true then ((spec_l04Keeps.f a0 a1_0 a1_1 a1_2 a1_3).bind fun t523 => (some t523)) else (some false))) else (some false))
set_option maxHeartbeats 8000000 in
set_option maxRecDepth 100000 in
theorem spec_IsPointMat.calls (a0 : Int) (a1_0 : Int) (a1_1 : Int) (a1_2 : Int) (a1_3 : Int) (r : Bool) (w : World) (h : spec_IsPointMat.f a0 a1_0 a1_1 a1_2 a1_3 = some r) :
  Calls Try.prog 61 #[.int .i64 a0, .agg #[.int .i64 a1_0, .int .i64 a1_1, .int .i64 a1_2, .int .i64 a1_3]] w fun e w' => e = .returned (.bool r) ∧ Below w.heap.size w w' := by
 have hu51 := Try.underlying51
 have HB := aM (Below.refl w.heap.size w)
 have H : ((spec_IsFrame.f a0).bind fun t521 => (if t521 = true then ((spec_IsMat.f a1_0 a1_1 a1_2 a1_3).bind fun t522 => (if t522 = true then ((spec_l04Keeps.f a0 a1_0 a1_1 a1_2 a1_3).bind fun t523 => (some t523)) else (some false))) else (some false))) = some r := h
 clear h
 obtain ⟨t521, A3, H⟩ := oB H
 try dsimp only at H
 by_cases c4 : t521 = true
 ·subst c4
  have H1 : ((spec_IsMat.f a1_0 a1_1 a1_2 a1_3).bind fun t522 => (if t522 = true then ((spec_l04Keeps.f a0 a1_0 a1_1 a1_2 a1_3).bind fun t523 => (some t523)) else (some false))) = some r := by rw [if_pos rfl] at H; exact H
  clear H
  have H := H1
  clear H1
  obtain ⟨t522, A5, H⟩ := oB H
  try dsimp only at H
  by_cases c6 : t522 = true
  ·subst c6
   have H1 : ((spec_l04Keeps.f a0 a1_0 a1_1 a1_2 a1_3).bind fun t523 => (some t523)) = some r := by rw [if_pos rfl] at H; exact H
   clear H
   have H := H1
   clear H1
   obtain ⟨t523, A7, H⟩ := oB H
   try dsimp only at H
   obtain rfl := Option.some.inj H
   go_enter Try.func61, Try.ntmps61
   go_wp2_with (first | ((with_reducible refine gD (N:=3) rfl ?_); refine bE 3 #[.int .i64 a1_0, .int .i64 a1_1, .int .i64 a1_2, .int .i64 a1_3] 51 ?_; intro gb520 hg w8 hbox hb; have BK520 := aM hbox; have GW520 := bZ hg HB; have GE520 := bZ hg HB; replace HB := bS HB hb; clear hb hbox hg) | ((with_reducible refine gC (f:=63) rfl ?_); refine gM 6 (spec_IsFrame.calls a0 true _ A3.out) Try.func63 ?_; rintro w' ⟨⟨nd, rfl⟩⟩; obtain ⟨hcz9_0, hcz9_1, hcz9_2, hcz9_3⟩ := z4 BK520; obtain ⟨hfz9_0, hfz9_1, hfz9_2, hfz9_3⟩ := y4 BK520) | (go_at_call 38; (with_reducible refine (spec_IsMat.calls a1_0 a1_1 a1_2 a1_3 true _ A5.out).mono ?_); rintro e w10 ⟨rfl, hb⟩; replace BK520 := bB BK520 hb; replace HB := bS HB hb; (try clear hb); obtain ⟨hcz11_0, hcz11_1, hcz11_2, hcz11_3⟩ := z4 BK520; obtain ⟨hfz11_0, hfz11_1, hfz11_2, hfz11_3⟩ := y4 BK520) | (go_at_call 123; (with_reducible refine (spec_l04Keeps.calls a0 a1_0 a1_1 a1_2 a1_3 t523 _ A7.out).mono ?_); rintro e w12 ⟨rfl, hb⟩; replace BK520 := bB BK520 hb; replace HB := bS HB hb; (try clear hb)))
   go_ret
   exact ⟨qR, qB⟩
  ·replace c6 := Bool.eq_false_iff.mpr c6
   subst c6
   have H1 : (some false) = some r := by rw [if_neg (show ¬ (false = true) by decide)] at H; exact H
   clear H
   have H := H1
   clear H1
   obtain rfl := Option.some.inj H
   go_enter Try.func61, Try.ntmps61
   go_wp2_with (first | ((with_reducible refine gD (N:=3) rfl ?_); refine bE 3 #[.int .i64 a1_0, .int .i64 a1_1, .int .i64 a1_2, .int .i64 a1_3] 51 ?_; intro gb520 hg w13 hbox hb; have BK520 := aM hbox; have GW520 := bZ hg HB; have GE520 := bZ hg HB; replace HB := bS HB hb; clear hb hbox hg) | ((with_reducible refine gC (f:=63) rfl ?_); refine gM 6 (spec_IsFrame.calls a0 true _ A3.out) Try.func63 ?_; rintro w' ⟨⟨nd, rfl⟩⟩; obtain ⟨hcz14_0, hcz14_1, hcz14_2, hcz14_3⟩ := z4 BK520; obtain ⟨hfz14_0, hfz14_1, hfz14_2, hfz14_3⟩ := y4 BK520) | (go_at_call 38; (with_reducible refine (spec_IsMat.calls a1_0 a1_1 a1_2 a1_3 false _ A5.out).mono ?_); rintro e w15 ⟨rfl, hb⟩; replace BK520 := bB BK520 hb; replace HB := bS HB hb; (try clear hb)))
   go_ret
   exact ⟨qR, qB⟩
 ·replace c4 := Bool.eq_false_iff.mpr c4
  subst c4
  have H1 : (some false) = some r := by rw [if_neg (show ¬ (false = true) by decide)] at H; exact H
  clear H
  have H := H1
  clear H1
  obtain rfl := Option.some.inj H
  go_enter Try.func61, Try.ntmps61
  go_wp2_with (first | ((with_reducible refine gD (N:=3) rfl ?_); refine bE 3 #[.int .i64 a1_0, .int .i64 a1_1, .int .i64 a1_2, .int .i64 a1_3] 51 ?_; intro gb520 hg w16 hbox hb; have BK520 := aM hbox; have GW520 := bZ hg HB; have GE520 := bZ hg HB; replace HB := bS HB hb; clear hb hbox hg) | ((with_reducible refine gC (f:=63) rfl ?_); refine gM 6 (spec_IsFrame.calls a0 false _ A3.out) Try.func63 ?_; rintro w' ⟨⟨nd, rfl⟩⟩))
  go_ret
  exact ⟨qR, qB⟩

def spec_IsLattice.f (a0_0 : Int) (a0_1 : Int) (a0_2 : Int) : Option (Bool) := (spec_l01In.f a0_0 1 64).bind fun t525 => (if t525 = true then ((spec_l01In.f a0_2 1 64).bind fun t526 => (if t526 = true then ((spec_l01In.f a0_1 0 (wrap64 (a0_0 - 1))).bind fun t527 => (if t527 = true then (some (decide ((wrap64 (a0_0 * a0_2)) ≤ 64))) else (some false))) else (some false))) else (some false))
set_option maxHeartbeats 8000000 in
set_option maxRecDepth 100000 in
theorem spec_IsLattice.calls (a0_0 : Int) (a0_1 : Int) (a0_2 : Int) (r : Bool) (w : World) (h : spec_IsLattice.f a0_0 a0_1 a0_2 = some r) :
  Calls Try.prog 132 #[.agg #[.int .i64 a0_0, .int .i64 a0_1, .int .i64 a0_2]] w fun e w' => e = .returned (.bool r) ∧ Below w.heap.size w w' := by
 have hu33 := Try.underlying33
 have HB := aM (Below.refl w.heap.size w)
 have H : ((spec_l01In.f a0_0 1 64).bind fun t525 => (if t525 = true then ((spec_l01In.f a0_2 1 64).bind fun t526 => (if t526 = true then ((spec_l01In.f a0_1 0 (wrap64 (a0_0 - 1))).bind fun t527 => (if t527 = true then (some (decide ((wrap64 (a0_0 * a0_2)) ≤ 64))) else (some false))) else (some false))) else (some false))) = some r := h
 clear h
 obtain ⟨t525, A2, H⟩ := oB H
 try dsimp only at H
 by_cases c3 : t525 = true
 ·subst c3
  have H1 : ((spec_l01In.f a0_2 1 64).bind fun t526 => (if t526 = true then ((spec_l01In.f a0_1 0 (wrap64 (a0_0 - 1))).bind fun t527 => (if t527 = true then (some (decide ((wrap64 (a0_0 * a0_2)) ≤ 64))) else (some false))) else (some false))) = some r := by rw [if_pos rfl] at H; exact H
  clear H
  have H := H1
  clear H1
  obtain ⟨t526, A4, H⟩ := oB H
  try dsimp only at H
  by_cases c5 : t526 = true
  ·subst c5
   have H1 : ((spec_l01In.f a0_1 0 (wrap64 (a0_0 - 1))).bind fun t527 => (if t527 = true then (some (decide ((wrap64 (a0_0 * a0_2)) ≤ 64))) else (some false))) = some r := by rw [if_pos rfl] at H; exact H
   clear H
   have H := H1
   clear H1
   obtain ⟨t527, A6, H⟩ := oB H
   try dsimp only at H
   by_cases c7 : t527 = true
   ·subst c7
    have H1 : (some (decide ((wrap64 (a0_0 * a0_2)) ≤ 64))) = some r := by rw [if_pos rfl] at H; exact H
    clear H
    have H := H1
    clear H1
    obtain rfl := Option.some.inj H
    go_enter Try.func132, Try.ntmps132
    go_wp2_with (first | ((with_reducible refine gD (N:=1) rfl ?_); refine bE 1 #[.int .i64 a0_0, .int .i64 a0_1, .int .i64 a0_2] 33 ?_; intro gb524 hg w8 hbox hb; have BK524 := aM hbox; have GW524 := bZ hg HB; have GE524 := bZ hg HB; replace HB := bS HB hb; clear hb hbox hg; obtain ⟨hcz9_0, hcz9_1, hcz9_2⟩ := z3 BK524; obtain ⟨hfz9_0, hfz9_1, hfz9_2⟩ := y3 BK524) | ((with_reducible refine gC (f:=70) rfl ?_); refine gM 5 (spec_l01In.calls a0_0 1 64 true _ A2.out) Try.func70 ?_; rintro w' ⟨⟨nd, rfl⟩⟩) | (go_at_call 70; (with_reducible refine (spec_l01In.calls a0_2 1 64 true _ A4.out).mono ?_); rintro e w' ⟨rfl, ⟨nd, rfl⟩⟩) | (go_at_call 70; (with_reducible refine (spec_l01In.calls a0_1 0 (wrap64 (a0_0 - 1)) true _ A6.out).mono ?_); rintro e w' ⟨rfl, ⟨nd, rfl⟩⟩))
    go_ret
    exact ⟨qR, qB⟩
   ·replace c7 := Bool.eq_false_iff.mpr c7
    subst c7
    have H1 : (some false) = some r := by rw [if_neg (show ¬ (false = true) by decide)] at H; exact H
    clear H
    have H := H1
    clear H1
    obtain rfl := Option.some.inj H
    go_enter Try.func132, Try.ntmps132
    go_wp2_with (first | ((with_reducible refine gD (N:=1) rfl ?_); refine bE 1 #[.int .i64 a0_0, .int .i64 a0_1, .int .i64 a0_2] 33 ?_; intro gb524 hg w10 hbox hb; have BK524 := aM hbox; have GW524 := bZ hg HB; have GE524 := bZ hg HB; replace HB := bS HB hb; clear hb hbox hg; obtain ⟨hcz11_0, hcz11_1, hcz11_2⟩ := z3 BK524; obtain ⟨hfz11_0, hfz11_1, hfz11_2⟩ := y3 BK524) | ((with_reducible refine gC (f:=70) rfl ?_); refine gM 5 (spec_l01In.calls a0_0 1 64 true _ A2.out) Try.func70 ?_; rintro w' ⟨⟨nd, rfl⟩⟩) | (go_at_call 70; (with_reducible refine (spec_l01In.calls a0_2 1 64 true _ A4.out).mono ?_); rintro e w' ⟨rfl, ⟨nd, rfl⟩⟩) | (go_at_call 70; (with_reducible refine (spec_l01In.calls a0_1 0 (wrap64 (a0_0 - 1)) false _ A6.out).mono ?_); rintro e w' ⟨rfl, ⟨nd, rfl⟩⟩))
    go_ret
    exact ⟨qR, qB⟩
  ·replace c5 := Bool.eq_false_iff.mpr c5
   subst c5
   have H1 : (some false) = some r := by rw [if_neg (show ¬ (false = true) by decide)] at H; exact H
   clear H
   have H := H1
   clear H1
   obtain rfl := Option.some.inj H
   go_enter Try.func132, Try.ntmps132
   go_wp2_with (first | ((with_reducible refine gD (N:=1) rfl ?_); refine bE 1 #[.int .i64 a0_0, .int .i64 a0_1, .int .i64 a0_2] 33 ?_; intro gb524 hg w12 hbox hb; have BK524 := aM hbox; have GW524 := bZ hg HB; have GE524 := bZ hg HB; replace HB := bS HB hb; clear hb hbox hg; obtain ⟨hcz13_0, hcz13_1, hcz13_2⟩ := z3 BK524; obtain ⟨hfz13_0, hfz13_1, hfz13_2⟩ := y3 BK524) | ((with_reducible refine gC (f:=70) rfl ?_); refine gM 5 (spec_l01In.calls a0_0 1 64 true _ A2.out) Try.func70 ?_; rintro w' ⟨⟨nd, rfl⟩⟩) | (go_at_call 70; (with_reducible refine (spec_l01In.calls a0_2 1 64 false _ A4.out).mono ?_); rintro e w' ⟨rfl, ⟨nd, rfl⟩⟩))
   go_ret
   exact ⟨qR, qB⟩
 ·replace c3 := Bool.eq_false_iff.mpr c3
  subst c3
  have H1 : (some false) = some r := by rw [if_neg (show ¬ (false = true) by decide)] at H; exact H
  clear H
  have H := H1
  clear H1
  obtain rfl := Option.some.inj H
  go_enter Try.func132, Try.ntmps132
  go_wp2_with (first | ((with_reducible refine gD (N:=1) rfl ?_); refine bE 1 #[.int .i64 a0_0, .int .i64 a0_1, .int .i64 a0_2] 33 ?_; intro gb524 hg w14 hbox hb; have BK524 := aM hbox; have GW524 := bZ hg HB; have GE524 := bZ hg HB; replace HB := bS HB hb; clear hb hbox hg; obtain ⟨hcz15_0, hcz15_1, hcz15_2⟩ := z3 BK524; obtain ⟨hfz15_0, hfz15_1, hfz15_2⟩ := y3 BK524) | ((with_reducible refine gC (f:=70) rfl ?_); refine gM 5 (spec_l01In.calls a0_0 1 64 false _ A2.out) Try.func70 ?_; rintro w' ⟨⟨nd, rfl⟩⟩))
  go_ret
  exact ⟨qR, qB⟩

def spec_l04Code.f (a0 : Int) (a1_0 : Int) (a1_1 : Int) (a1_2 : Int) : Option (Int) := (spec_IsFrame.f a0).bind fun t529 => (if t529 = true then ((spec_IsLattice.f a1_0 a1_1 a1_2).bind fun t530 => (if t530 = true then (some 0) else (some 1))) else (some 1))
set_option maxHeartbeats 8000000 in
set_option maxRecDepth 100000 in
theorem spec_l04Code.calls (a0 : Int) (a1_0 : Int) (a1_1 : Int) (a1_2 : Int) (r : Int) (w : World) (h : spec_l04Code.f a0 a1_0 a1_1 a1_2 = some r) :
  Calls Try.prog 78 #[.int .i64 a0, .agg #[.int .i64 a1_0, .int .i64 a1_1, .int .i64 a1_2]] w fun e w' => e = .returned (.int .i64 r) ∧ Below w.heap.size w w' := by
 have hu33 := Try.underlying33
 have HB := aM (Below.refl w.heap.size w)
 have H : ((spec_IsFrame.f a0).bind fun t529 => (if t529 = true then ((spec_IsLattice.f a1_0 a1_1 a1_2).bind fun t530 => (if t530 = true then (some 0) else (some 1))) else (some 1))) = some r := h
 clear h
 obtain ⟨t529, A3, H⟩ := oB H
 try dsimp only at H
 by_cases c4 : t529 = true
 ·subst c4
  have H1 : ((spec_IsLattice.f a1_0 a1_1 a1_2).bind fun t530 => (if t530 = true then (some 0) else (some 1))) = some r := by rw [if_pos rfl] at H; exact H
  clear H
  have H := H1
  clear H1
  obtain ⟨t530, A5, H⟩ := oB H
  try dsimp only at H
  by_cases c6 : t530 = true
  ·subst c6
   have H1 : (some 0) = some r := by rw [if_pos rfl] at H; exact H
   clear H
   have H := H1
   clear H1
   obtain rfl := Option.some.inj H
   go_enter Try.func78, Try.ntmps78
   go_wp2_with (first | ((with_reducible refine gD (N:=3) rfl ?_); refine bE 3 #[.int .i64 a1_0, .int .i64 a1_1, .int .i64 a1_2] 33 ?_; intro gb528 hg w7 hbox hb; have BK528 := aM hbox; have GW528 := bZ hg HB; have GE528 := bZ hg HB; replace HB := bS HB hb; clear hb hbox hg) | ((with_reducible refine gC (f:=63) rfl ?_); refine gM 6 (spec_IsFrame.calls a0 true _ A3.out) Try.func63 ?_; rintro w' ⟨⟨nd, rfl⟩⟩; obtain ⟨hcz8_0, hcz8_1, hcz8_2⟩ := z3 BK528; obtain ⟨hfz8_0, hfz8_1, hfz8_2⟩ := y3 BK528) | (go_at_call 132; (with_reducible refine (spec_IsLattice.calls a1_0 a1_1 a1_2 true _ A5.out).mono ?_); rintro e w9 ⟨rfl, hb⟩; replace BK528 := bB BK528 hb; replace HB := bS HB hb; (try clear hb)))
   go_ret
   exact ⟨qR, qB⟩
  ·replace c6 := Bool.eq_false_iff.mpr c6
   subst c6
   have H1 : (some 1) = some r := by rw [if_neg (show ¬ (false = true) by decide)] at H; exact H
   clear H
   have H := H1
   clear H1
   obtain rfl := Option.some.inj H
   go_enter Try.func78, Try.ntmps78
   go_wp2_with (first | ((with_reducible refine gD (N:=3) rfl ?_); refine bE 3 #[.int .i64 a1_0, .int .i64 a1_1, .int .i64 a1_2] 33 ?_; intro gb528 hg w10 hbox hb; have BK528 := aM hbox; have GW528 := bZ hg HB; have GE528 := bZ hg HB; replace HB := bS HB hb; clear hb hbox hg) | ((with_reducible refine gC (f:=63) rfl ?_); refine gM 6 (spec_IsFrame.calls a0 true _ A3.out) Try.func63 ?_; rintro w' ⟨⟨nd, rfl⟩⟩; obtain ⟨hcz11_0, hcz11_1, hcz11_2⟩ := z3 BK528; obtain ⟨hfz11_0, hfz11_1, hfz11_2⟩ := y3 BK528) | (go_at_call 132; (with_reducible refine (spec_IsLattice.calls a1_0 a1_1 a1_2 false _ A5.out).mono ?_); rintro e w12 ⟨rfl, hb⟩; replace BK528 := bB BK528 hb; replace HB := bS HB hb; (try clear hb)))
   go_ret
   exact ⟨qR, qB⟩
 ·replace c4 := Bool.eq_false_iff.mpr c4
  subst c4
  have H1 : (some 1) = some r := by rw [if_neg (show ¬ (false = true) by decide)] at H; exact H
  clear H
  have H := H1
  clear H1
  obtain rfl := Option.some.inj H
  go_enter Try.func78, Try.ntmps78
  go_wp2_with (first | ((with_reducible refine gD (N:=3) rfl ?_); refine bE 3 #[.int .i64 a1_0, .int .i64 a1_1, .int .i64 a1_2] 33 ?_; intro gb528 hg w13 hbox hb; have BK528 := aM hbox; have GW528 := bZ hg HB; have GE528 := bZ hg HB; replace HB := bS HB hb; clear hb hbox hg) | ((with_reducible refine gC (f:=63) rfl ?_); refine gM 6 (spec_IsFrame.calls a0 false _ A3.out) Try.func63 ?_; rintro w' ⟨⟨nd, rfl⟩⟩))
  go_ret
  exact ⟨qR, qB⟩

def spec_l03Result.f (a0_0 : Int) (a0_1 : Int) (a0_2 : Int) : Option (Int × Int × Int × Int) := (spec_IsLattice.f a0_0 a0_1 a0_2).bind fun t533 => (if t533 = true then (some (a0_0, a0_1, a0_2, 0)) else (some (0, 0, 0, 3)))
set_option maxHeartbeats 8000000 in
set_option maxRecDepth 100000 in
theorem spec_l03Result.calls (a0_0 : Int) (a0_1 : Int) (a0_2 : Int) (r1 : Int) (r2 : Int) (r3 : Int) (r4 : Int) (w : World) (h : spec_l03Result.f a0_0 a0_1 a0_2 = some (r1, r2, r3, r4)) :
  Calls Try.prog 120 #[.agg #[.int .i64 a0_0, .int .i64 a0_1, .int .i64 a0_2]] w fun e w' => e = .returned (.tuple #[.agg #[.int .i64 r1, .int .i64 r2, .int .i64 r3], .int .i64 r4]) ∧ Below w.heap.size w w' := by
 have hu33 := Try.underlying33
 have HB := aM (Below.refl w.heap.size w)
 have H : ((spec_IsLattice.f a0_0 a0_1 a0_2).bind fun t533 => (if t533 = true then (some (a0_0, a0_1, a0_2, 0)) else (some (0, 0, 0, 3)))) = some (r1, r2, r3, r4) := h
 clear h
 obtain ⟨t533, A2, H⟩ := oB H
 try dsimp only at H
 by_cases c3 : t533 = true
 ·subst c3
  have H1 : (some (a0_0, a0_1, a0_2, 0)) = some (r1, r2, r3, r4) := by rw [if_pos rfl] at H; exact H
  clear H
  have H := H1
  clear H1
  simp only [Option.some.injEq, Prod.mk.injEq] at H
  obtain ⟨rfl, rfl, rfl, rfl⟩ := H
  go_enter Try.func120, Try.ntmps120
  go_wp2_with (first | ((with_reducible refine gD (N:=1) rfl ?_); refine bE 1 #[.int .i64 a0_0, .int .i64 a0_1, .int .i64 a0_2] 33 ?_; intro gb531 hg w4 hbox hb; have BK531 := aM hbox; have GW531 := bZ hg HB; have GE531 := bZ hg HB; replace HB := bS HB hb; clear hb hbox hg) | ((with_reducible refine gD (N:=2) rfl ?_); refine bE 2 #[.int .i64 0, .int .i64 0, .int .i64 0] 33 ?_; intro gb532 hg w5 hbox hb; have BK532 := aM hbox; have GW532 := bZ hg HB; have GE532 := bZ hg HB; have NB531_532 := nL hg BK531; have NB532_531 := nG hg BK531; replace BK531 := bB BK531 hb; replace HB := bS HB hb; clear hb hbox hg; have hnb6 := NB531_532.out; have hnc6 := NB532_531.out; obtain ⟨hcz7_0, hcz7_1, hcz7_2⟩ := z3 BK531; obtain ⟨hfz7_0, hfz7_1, hfz7_2⟩ := y3 BK531) | ((with_reducible refine gC (f:=132) rfl ?_); refine gM 5 (spec_IsLattice.calls a0_0 a0_1 a0_2 true _ A2.out) Try.func132 ?_; rintro w8 hb; replace BK531 := bB BK531 hb; replace BK532 := bB BK532 hb; replace HB := bS HB hb; (try clear hb); obtain ⟨hcz9_0, hcz9_1, hcz9_2⟩ := z3 BK531; obtain ⟨hfz9_0, hfz9_1, hfz9_2⟩ := y3 BK531; obtain ⟨hcz10_0, hcz10_1, hcz10_2⟩ := z3 BK532; obtain ⟨hfz10_0, hfz10_1, hfz10_2⟩ := y3 BK532))
  refine bodyPost_ret (results_ct rfl _ _ gb532 33 #[.int .i64 a0_0, .int .i64 a0_1, .int .i64 a0_2] (0, 0) _ rfl (by (with_reducible repeat (first|apply kN|apply kD|apply kA)); refine blk_put (cs := #[.int .i64 a0_0, .int .i64 a0_1, .int .i64 0]) ?_ 2 _ rfl; (with_reducible repeat (first|apply kN|apply kD|apply kA)); refine blk_put (cs := #[.int .i64 a0_0, .int .i64 0, .int .i64 0]) ?_ 1 _ rfl; (with_reducible repeat (first|apply kN|apply kD|apply kA)); refine blk_put (cs := #[.int .i64 0, .int .i64 0, .int .i64 0]) ?_ 0 _ rfl; (with_reducible repeat (first|apply kN|apply kD|apply kA)); exact BK532.out) Try.underlying33 rfl (by kernel_rfl)) rfl ?_
  exact ⟨qR, qB⟩
 ·replace c3 := Bool.eq_false_iff.mpr c3
  subst c3
  have H1 : (some (0, 0, 0, 3)) = some (r1, r2, r3, r4) := by rw [if_neg (show ¬ (false = true) by decide)] at H; exact H
  clear H
  have H := H1
  clear H1
  simp only [Option.some.injEq, Prod.mk.injEq] at H
  obtain ⟨rfl, rfl, rfl, rfl⟩ := H
  go_enter Try.func120, Try.ntmps120
  go_wp2_with (first | ((with_reducible refine gD (N:=1) rfl ?_); refine bE 1 #[.int .i64 a0_0, .int .i64 a0_1, .int .i64 a0_2] 33 ?_; intro gb531 hg w11 hbox hb; have BK531 := aM hbox; have GW531 := bZ hg HB; have GE531 := bZ hg HB; replace HB := bS HB hb; clear hb hbox hg) | ((with_reducible refine gD (N:=2) rfl ?_); refine bE 2 #[.int .i64 0, .int .i64 0, .int .i64 0] 33 ?_; intro gb532 hg w12 hbox hb; have BK532 := aM hbox; have GW532 := bZ hg HB; have GE532 := bZ hg HB; have NB531_532 := nL hg BK531; have NB532_531 := nG hg BK531; replace BK531 := bB BK531 hb; replace HB := bS HB hb; clear hb hbox hg; have hnb13 := NB531_532.out; have hnc13 := NB532_531.out; obtain ⟨hcz14_0, hcz14_1, hcz14_2⟩ := z3 BK531; obtain ⟨hfz14_0, hfz14_1, hfz14_2⟩ := y3 BK531) | ((with_reducible refine gC (f:=132) rfl ?_); refine gM 5 (spec_IsLattice.calls a0_0 a0_1 a0_2 false _ A2.out) Try.func132 ?_; rintro w15 hb; replace BK531 := bB BK531 hb; replace BK532 := bB BK532 hb; replace HB := bS HB hb; (try clear hb); obtain ⟨hcz16_0, hcz16_1, hcz16_2⟩ := z3 BK532; obtain ⟨hfz16_0, hfz16_1, hfz16_2⟩ := y3 BK532))
  refine bodyPost_ret (results_ct rfl _ _ gb532 33 #[.int .i64 0, .int .i64 0, .int .i64 0] (0, 0) _ rfl (by (with_reducible repeat (first|apply kN|apply kD|apply kA)); refine blk_put (cs := #[.int .i64 0, .int .i64 0, .int .i64 0]) ?_ 2 _ rfl; (with_reducible repeat (first|apply kN|apply kD|apply kA)); refine blk_put (cs := #[.int .i64 0, .int .i64 0, .int .i64 0]) ?_ 1 _ rfl; (with_reducible repeat (first|apply kN|apply kD|apply kA)); refine blk_put (cs := #[.int .i64 0, .int .i64 0, .int .i64 0]) ?_ 0 _ rfl; (with_reducible repeat (first|apply kN|apply kD|apply kA)); exact BK532.out) Try.underlying33 rfl (by kernel_rfl)) rfl ?_
  exact ⟨qR, qB⟩

def spec_l02Apply.f (a0_0 : Int) (a0_1 : Int) (a0_2 : Int) (a0_3 : Int) (a1_0 : Int) (a1_1 : Int) : Option (Int × Int) := some (wrap64 ((wrap64 (a0_0 * a1_0)) + (wrap64 (a0_1 * a1_1))), wrap64 ((wrap64 (a0_2 * a1_0)) + (wrap64 (a0_3 * a1_1))))
set_option maxHeartbeats 8000000 in
set_option maxRecDepth 100000 in
theorem spec_l02Apply.calls (a0_0 : Int) (a0_1 : Int) (a0_2 : Int) (a0_3 : Int) (a1_0 : Int) (a1_1 : Int) (r1 : Int) (r2 : Int) (w : World) (h : spec_l02Apply.f a0_0 a0_1 a0_2 a0_3 a1_0 a1_1 = some (r1, r2)) :
  Calls Try.prog 100 #[.agg #[.int .i64 a0_0, .int .i64 a0_1, .int .i64 a0_2, .int .i64 a0_3], .agg #[.int .i64 a1_0, .int .i64 a1_1]] w fun e w' => e = .returned (.agg #[.int .i64 r1, .int .i64 r2]) ∧ Below w.heap.size w w' := by
 have hu51 := Try.underlying51
 have hu47 := Try.underlying47
 have HB := aM (Below.refl w.heap.size w)
 have H : (some (wrap64 ((wrap64 (a0_0 * a1_0)) + (wrap64 (a0_1 * a1_1))), wrap64 ((wrap64 (a0_2 * a1_0)) + (wrap64 (a0_3 * a1_1))))) = some (r1, r2) := h
 clear h
 simp only [Option.some.injEq, Prod.mk.injEq] at H
 obtain ⟨rfl, rfl⟩ := H
 go_enter Try.func100, Try.ntmps100
 go_wp2_with (first | ((with_reducible refine gD (N:=2) rfl ?_); refine bE 2 #[.int .i64 a0_0, .int .i64 a0_1, .int .i64 a0_2, .int .i64 a0_3] 51 ?_; intro gb534 hg w3 hbox hb; have BK534 := aM hbox; have GW534 := bZ hg HB; have GE534 := bZ hg HB; replace HB := bS HB hb; clear hb hbox hg) | ((with_reducible refine gD (N:=3) rfl ?_); refine bE 3 #[.int .i64 a1_0, .int .i64 a1_1] 47 ?_; intro gb535 hg w4 hbox hb; have BK535 := aM hbox; have GW535 := bZ hg HB; have GE535 := bZ hg HB; have NB534_535 := nL hg BK534; have NB535_534 := nG hg BK534; replace BK534 := bB BK534 hb; replace HB := bS HB hb; clear hb hbox hg) | ((with_reducible refine gD (N:=4) rfl ?_); refine bE 4 #[.int .i64 0, .int .i64 0] 47 ?_; intro gb536 hg w5 hbox hb; have BK536 := aM hbox; have GW536 := bZ hg HB; have GE536 := bZ hg HB; have NB534_536 := nL hg BK534; have NB536_534 := nG hg BK534; have NB535_536 := nL hg BK535; have NB536_535 := nG hg BK535; replace BK534 := bB BK534 hb; replace BK535 := bB BK535 hb; replace HB := bS HB hb; clear hb hbox hg; have hnb6 := NB534_535.out; have hnc6 := NB535_534.out; have hnb7 := NB534_536.out; have hnc7 := NB536_534.out; obtain ⟨hcz8_0, hcz8_1, hcz8_2, hcz8_3⟩ := z4 BK534; obtain ⟨hfz8_0, hfz8_1, hfz8_2, hfz8_3⟩ := y4 BK534; have hnb9 := NB535_536.out; have hnc9 := NB536_535.out; obtain ⟨hcz10_0, hcz10_1⟩ := z2 BK535; obtain ⟨hfz10_0, hfz10_1⟩ := y2 BK535; obtain ⟨hcz11_0, hcz11_1⟩ := z2 BK536; obtain ⟨hfz11_0, hfz11_1⟩ := y2 BK536))
 refine bodyPost_ret (results_cell_row rfl _ _ gb536 47 #[.int .i64 (wrap64 ((wrap64 (a0_0 * a1_0)) + (wrap64 (a0_1 * a1_1)))), .int .i64 (wrap64 ((wrap64 (a0_2 * a1_0)) + (wrap64 (a0_3 * a1_1))))] (0, 0) _ rfl (by (with_reducible repeat (first|apply kN|apply kD|apply kA)); refine blk_put (cs := #[.int .i64 (wrap64 ((wrap64 (a0_0 * a1_0)) + (wrap64 (a0_1 * a1_1)))), .int .i64 0]) ?_ 1 _ rfl; (with_reducible repeat (first|apply kN|apply kD|apply kA)); refine blk_put (cs := #[.int .i64 0, .int .i64 0]) ?_ 0 _ rfl; (with_reducible repeat (first|apply kN|apply kD|apply kA)); exact BK536.out) Try.underlying47 rfl (by kernel_rfl)) rfl ?_
 exact ⟨qR, qB⟩

def spec_l03Basis.f (a0_0 : Int) (a0_1 : Int) (a0_2 : Int) : Option ((List (S47))) := some (([(⟨a0_0, 0⟩ : S47), (⟨a0_1, a0_2⟩ : S47)] : List (S47)))
set_option maxHeartbeats 8000000 in
set_option maxRecDepth 100000 in
theorem spec_l03Basis.calls (a0_0 : Int) (a0_1 : Int) (a0_2 : Int) (r : List (S47)) (w : World) (h : spec_l03Basis.f a0_0 a0_1 a0_2 = some r) :
  Calls Try.prog 149 #[.agg #[.int .i64 a0_0, .int .i64 a0_1, .int .i64 a0_2]] w fun e w' => ∃ v0_ : Value, e = .returned (v0_) ∧ Kd.R k47 47 w' w.heap.size (fun _ => True) v0_ r ∧ Below w.heap.size w w' := by
 have hu33 := Try.underlying33
 have hu47 := Try.underlying47
 have HB := aM (Below.refl w.heap.size w)
 have H : (some (([(⟨a0_0, 0⟩ : S47), (⟨a0_1, a0_2⟩ : S47)] : List (S47)))) = some r := h
 clear h
 obtain ⟨y538, hy538⟩ : ∃ y_ : List (S47), y_ = (([(⟨a0_0, 0⟩ : S47), (⟨a0_1, a0_2⟩ : S47)] : List (S47))) := ⟨_, rfl⟩
 replace H : (some y538) = some r := by first | (rw [hy538]; with_reducible exact H) | (have H2_ := (Option.bind_some _ _).symm.trans H; rw [hy538]; with_reducible exact H2_) | (have H2_ := (Option.bind_some _ _).symm.trans H; with_reducible exact H2_) | with_reducible exact H | (rw [hy538]; exact H) | exact H
 have Ny538 := aM hy538
 clear hy538
 obtain rfl := Option.some.inj H
 go_enter Try.func149, Try.ntmps149
 go_wp2_with (first | ((with_reducible refine gD (N:=1) rfl ?_); refine bE 1 #[.int .i64 a0_0, .int .i64 a0_1, .int .i64 a0_2] 33 ?_; intro gb537 hg w2 hbox hb; have BK537 := aM hbox; have GW537 := bZ hg HB; have GE537 := bZ hg HB; replace HB := bS HB hb; clear hb hbox hg; obtain ⟨hcz3_0, hcz3_1, hcz3_2⟩ := z3 BK537; obtain ⟨hfz3_0, hfz3_1, hfz3_2⟩ := y3 BK537) | ((with_reducible refine gate_dst (N := 11) rfl ?_); refine Kd.R_lit k47 _ 47 ?hg (N := 11) ?hd (xs := ([(⟨a0_0, 0⟩ : S47), (⟨a0_1, a0_2⟩ : S47)] : List (S47))) (inner := [.int .i64 a0_0, .int .i64 0, .int .i64 a0_1, .int .i64 a0_2]) (ok := fun _ => True) (okp := fun _ => True) ?hr ?hp (fun _ hk => hk) trivial (Below.refl _ _) (Nat.le_refl _) (by simp) ?_; (case hd => rfl); (case hg => rfl); (case hr => first | (go_simp; done) | (go_simp; rfl)); (case hp => exact (Reps.c2 (show Kd.M k47 _ _ _ (⟨a0_0, 0⟩ : S47) [.int .i64 a0_0, .int .i64 0] from (k47_mkM _ _ _ (⟨a0_0, 0⟩ : S47) )) (Reps.c2 (show Kd.M k47 _ _ _ (⟨a0_1, a0_2⟩ : S47) [.int .i64 a0_1, .int .i64 a0_2] from (k47_mkM _ _ _ (⟨a0_1, a0_2⟩ : S47) )) (Reps.none _ _)))); intro v539 w4 ho5 hb hg_ hnew_; clear hg_ hnew_; (first | rw [← Ny538.out] at ho5 | (simp only [Int.reduceToNat] at ho5; rw [← Ny538.out] at ho5)); have HO540 := aM (Kd.R_lower ho5 (below_size qB)); replace BK537 := bB BK537 hb; replace HB := bS HB hb; clear hb ho5))
 go_ret
 exact ⟨_, qR, by (with_reducible repeat (first | apply Kd.R_alloc | apply Kd.R_drewN | apply Kd.R_drew)); exact HO540.out, qB⟩

def spec_l01Scale.f (a0_0 : Int) (a0_1 : Int) (a1 : Int) : Option (Int × Int) := some (wrap64 (a1 * a0_0), wrap64 (a1 * a0_1))
set_option maxHeartbeats 8000000 in
set_option maxRecDepth 100000 in
theorem spec_l01Scale.calls (a0_0 : Int) (a0_1 : Int) (a1 : Int) (r1 : Int) (r2 : Int) (w : World) (h : spec_l01Scale.f a0_0 a0_1 a1 = some (r1, r2)) :
  Calls Try.prog 145 #[.agg #[.int .i64 a0_0, .int .i64 a0_1], .int .i64 a1] w fun e w' => e = .returned (.agg #[.int .i64 r1, .int .i64 r2]) ∧ Below w.heap.size w w' := by
 have hu47 := Try.underlying47
 have HB := aM (Below.refl w.heap.size w)
 have H : (some (wrap64 (a1 * a0_0), wrap64 (a1 * a0_1))) = some (r1, r2) := h
 clear h
 simp only [Option.some.injEq, Prod.mk.injEq] at H
 obtain ⟨rfl, rfl⟩ := H
 go_enter Try.func145, Try.ntmps145
 go_wp2_with (first | ((with_reducible refine gD (N:=2) rfl ?_); refine bE 2 #[.int .i64 a0_0, .int .i64 a0_1] 47 ?_; intro gb541 hg w3 hbox hb; have BK541 := aM hbox; have GW541 := bZ hg HB; have GE541 := bZ hg HB; replace HB := bS HB hb; clear hb hbox hg) | ((with_reducible refine gD (N:=4) rfl ?_); refine bE 4 #[.int .i64 0, .int .i64 0] 47 ?_; intro gb542 hg w4 hbox hb; have BK542 := aM hbox; have GW542 := bZ hg HB; have GE542 := bZ hg HB; have NB541_542 := nL hg BK541; have NB542_541 := nG hg BK541; replace BK541 := bB BK541 hb; replace HB := bS HB hb; clear hb hbox hg; have hnb5 := NB541_542.out; have hnc5 := NB542_541.out; obtain ⟨hcz6_0, hcz6_1⟩ := z2 BK541; obtain ⟨hfz6_0, hfz6_1⟩ := y2 BK541; obtain ⟨hcz7_0, hcz7_1⟩ := z2 BK542; obtain ⟨hfz7_0, hfz7_1⟩ := y2 BK542))
 refine bodyPost_ret (results_cell_row rfl _ _ gb542 47 #[.int .i64 (wrap64 (a1 * a0_0)), .int .i64 (wrap64 (a1 * a0_1))] (0, 0) _ rfl (by (with_reducible repeat (first|apply kN|apply kD|apply kA)); refine blk_put (cs := #[.int .i64 (wrap64 (a1 * a0_0)), .int .i64 0]) ?_ 1 _ rfl; (with_reducible repeat (first|apply kN|apply kD|apply kA)); refine blk_put (cs := #[.int .i64 0, .int .i64 0]) ?_ 0 _ rfl; (with_reducible repeat (first|apply kN|apply kD|apply kA)); exact BK542.out) Try.underlying47 rfl (by kernel_rfl)) rfl ?_
 exact ⟨qR, qB⟩

def spec_l01Divisor.f : Nat → Int → Int → Option (Int)
 | 0, _, _ => none
 | k + 1, a0, a1 => if a1 = 0 then (some (mx a0 (wrap64 (-a0)))) else ((spec_l01Divisor.f k a1 (Int.tmod a0 a1)).bind fun t543 => (some t543))
set_option maxHeartbeats 8000000 in
set_option maxRecDepth 100000 in
theorem spec_l01Divisor.calls (k : Nat) : ∀ (a0 : Int) (a1 : Int) (r : Int) (w : World) (h : spec_l01Divisor.f k a0 a1 = some r),
  Calls Try.prog 157 #[.int .i64 a0, .int .i64 a1] w fun e w' => e = .returned (.int .i64 r) ∧ Below w.heap.size w w' := by
 induction k using Nat.strongRecOn with
 | _ k ih =>
 intro a0 a1 r w h
 cases k with
 | zero => exact absurd h (by simp [spec_l01Divisor.f])
 | succ k =>
 simp only [spec_l01Divisor.f] at h
 have HB := aM (Below.refl w.heap.size w)
 have H : (if a1 = 0 then (some (mx a0 (wrap64 (-a0)))) else ((spec_l01Divisor.f k a1 (Int.tmod a0 a1)).bind fun t543 => (some t543))) = some r := h
 clear h
 by_cases c3 : a1 = 0
 ·rw [if_pos c3] at H
  have c3b0 : (a1 == 0) = true := beq_iff_eq.mpr c3
  have c3b1 : (a1 != 0) = false := bne_eq_false_iff_eq.mpr c3
  clear c3
  obtain ⟨ji4, hji4⟩ : ∃ j_ : Int, (mx a0 (wrap64 (-a0))) = j_ := ⟨_, rfl⟩
  replace H : (some ji4) = some r := by first | (rw [hji4] at H; exact H) | (simp only [hji4] at H ⊢; exact H)
  have hji4_ : (if a0 < (wrap64 (-a0)) then (wrap64 (-a0)) else a0) = ji4 := hji4
  obtain rfl := Option.some.inj H
  go_enter Try.func157, Try.ntmps157
  go_wp2
  go_ret
  exact ⟨by first | rfl | (simp [errW_none, errW_some] <;> rfl) | (simp only [← hji4]; first | rfl | (simp [errW_none, errW_some] <;> rfl)) | (simp [*, errW_none, errW_some] <;> rfl), qB⟩
 ·rw [if_neg c3] at H
  have c3b0 : (a1 == 0) = false := beq_eq_false_iff_ne.mpr c3
  have c3b1 : (a1 != 0) = true := bne_iff_ne.mpr c3
  obtain ⟨t543, A5, H⟩ := oB H
  try dsimp only at H
  obtain rfl := Option.some.inj H
  go_enter Try.func157, Try.ntmps157
  go_wp2_with (first | ((with_reducible refine gC (f:=157) rfl ?_); refine gM 15 (ih k (by omega) a1 (Int.tmod a0 a1) t543 _ A5.out) Try.func157 ?_; rintro w6 hb; replace HB := bS HB hb; (try clear hb)))
  go_ret
  exact ⟨qR, qB⟩

def spec_l01Mod.f (a0 : Int) (a1 : Int) : Option (Int) := if a1 = 0 then (none) else (if (Int.tmod a0 a1) < 0 then (some (wrap64 ((Int.tmod a0 a1) + a1))) else (some (Int.tmod a0 a1)))
set_option maxHeartbeats 8000000 in
set_option maxRecDepth 100000 in
theorem spec_l01Mod.calls (a0 : Int) (a1 : Int) (r : Int) (w : World) (h : spec_l01Mod.f a0 a1 = some r) :
  Calls Try.prog 158 #[.int .i64 a0, .int .i64 a1] w fun e w' => e = .returned (.int .i64 r) ∧ Drawn0 w w' := by
 have H : (if a1 = 0 then (none) else (if (Int.tmod a0 a1) < 0 then (some (wrap64 ((Int.tmod a0 a1) + a1))) else (some (Int.tmod a0 a1)))) = some r := h
 clear h
 by_cases c3 : a1 = 0
 ·rw [if_pos c3] at H
  exact absurd H (by simp)
 ·rw [if_neg c3] at H
  have c3b0 : (a1 == 0) = false := beq_eq_false_iff_ne.mpr c3
  have c3b1 : (a1 != 0) = true := bne_iff_ne.mpr c3
  by_cases c4 : (Int.tmod a0 a1) < 0
  ·rw [if_pos c4] at H
   have c4b0 : decide ((Int.tmod a0 a1) < 0) = true := decide_eq_true c4
   clear c4
   obtain rfl := Option.some.inj H
   go_enter Try.func158, Try.ntmps158
   go_wp2
   go_ret
   exact ⟨by first | rfl | (simp; done) | (simp [*]; done), by repeat (first | exact Drawn0.refl _ | apply Drawn0.step)⟩
  ·rw [if_neg c4] at H
   have c4b0 : decide ((Int.tmod a0 a1) < 0) = false := decide_eq_false c4
   clear c4
   obtain rfl := Option.some.inj H
   go_enter Try.func158, Try.ntmps158
   go_wp2
   go_ret
   exact ⟨by first | rfl | (simp; done) | (simp [*]; done), by repeat (first | exact Drawn0.refl _ | apply Drawn0.step)⟩

end Go.Proofs.Ytcjchihnopmplaa.F
