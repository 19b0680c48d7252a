import Derived.Test.YtcjchihnopmplaaN0
import Derived.Test.YtcjchihnopmplaaN1
import Derived.Test.YtcjchihnopmplaaN4
import Derived.Test.YtcjchihnopmplaaN5
namespace Go.Proofs.Ytcjchihnopmplaa.F
open Go.RowKit Go.Proofs.YtcjchihnopmplaaW.PrintWords Go.Proofs.YtcjchihnopmplaaW.PrintLast Go.Proofs.YtcjchihnopmplaaW.PrintMore
attribute [local go_sem] max2_int min2_int max_two min_two max_three min_three max_four min_four   -- for this text's walks alone
set_option linter.unusedVariables false
set_option linter.unusedSimpArgs false

/-! ### laws_FnNear: function 5 -/
def laws_FnNear.j0 : Nat → List Int → Int → Int → List (S47) → Int → Bool → Option (Bool)
  | 0, _, _, _, _, _, _ => none
  | k + 1, x0, x3, x4, x5, x6, x40 => if x40 = true then (some false) else (if x6 = 0 then ((laws_roll.f k x0 401).bind fun bt407 => ((laws_dice_below.f bt407.1 bt407.2.1 bt407.2.2 15).bind fun bt411 => ((laws_dice_below.f bt407.1 bt411.2.1 bt411.2.2 15).bind fun bt414 => ((impl_NormOf.f x3 (wrap64 (bt411.1 - 7)) (wrap64 (bt414.1 - 7))).bind fun bt418 => (if bt418.2 = 0 then ((laws_hasVec9.f k x5 (wrap64 (bt411.1 - 7)) (wrap64 (bt414.1 - 7))).bind fun t420 => (some (t420 == (decide (bt418.1 ≤ x4))))) else (some false)))))) else (some true))
def laws_FnNear.f (k : Nat) (l0 : List Int) : Option (Bool) := (laws_big.f l0).bind fun t395 => (if t395 = true then (some true) else ((spec_DrawNearVecs.f k l0).bind fun bt396 => ((impl_NearVecs.f k bt396.1 bt396.2).bind fun bt398 => ((spec_NearVecs.f k bt396.1 bt396.2).bind fun bt402 => (if bt398.2 = bt402.2 then ((laws_likeVecs9.f k bt398.1 bt402.1).bind fun t406 => (laws_FnNear.j0 k l0 bt396.1 bt396.2 bt398.1 bt398.2 (!t406))) else (laws_FnNear.j0 k l0 bt396.1 bt396.2 bt398.1 bt398.2 true))))))
theorem laws_FnNear.mono_l : ∀ k, (∀ y0 y1 y2 y3 y4 y5, LeO (laws_FnNear.j0 k y0 y1 y2 y3 y4 y5) (laws_FnNear.j0 (k + 1) y0 y1 y2 y3 y4 y5))
  | 0 => fun _ _ _ _ _ _ r h => by simp [laws_FnNear.j0] at h
  | k + 1 => by
    have ih0 := laws_FnNear.mono_l k
    · intro y0 y1 y2 y3 y4 y5
      unfold laws_FnNear.j0
      repeat' first
      | (with_reducible exact ih0 _ _ _ _ _ _)
      | (with_reducible exact impl_NearVecs.mono _ _ _)
      | (with_reducible exact laws_hasVec9.mono _ _ _ _)
      | (with_reducible exact laws_likeVecs9.mono _ _ _)
      | (with_reducible exact laws_roll.mono _ _ _)
      | (with_reducible exact spec_DrawNearVecs.mono _ _)
      | (with_reducible exact spec_NearVecs.mono _ _ _)
      | (with_reducible exact LeO.refl _)
      | (with_reducible exact LeO.none _)
      | (with_reducible refine LeO.ite ?_ ?_)
      | (with_reducible refine LeO.bind ?_ (fun _ => ?_))
      | exact ih0 _ _ _ _ _ _
      | exact impl_NearVecs.mono _ _ _
      | exact laws_hasVec9.mono _ _ _ _
      | exact laws_likeVecs9.mono _ _ _
      | exact laws_roll.mono _ _ _
      | exact spec_DrawNearVecs.mono _ _
      | exact spec_NearVecs.mono _ _ _
      | exact LeO.none _
      | refine LeO.ite ?_ ?_
      | refine LeO.bind ?_ (fun _ => ?_)
theorem laws_FnNear.mono : ∀ a0 k, LeO (laws_FnNear.f k a0) (laws_FnNear.f (k + 1) a0) := by
  intro a0 k
  have ih0 := laws_FnNear.mono_l k
  unfold laws_FnNear.f
  repeat' first
      | (with_reducible exact ih0 _ _ _ _ _ _)
      | (with_reducible exact impl_NearVecs.mono _ _ _)
      | (with_reducible exact laws_hasVec9.mono _ _ _ _)
      | (with_reducible exact laws_likeVecs9.mono _ _ _)
      | (with_reducible exact laws_roll.mono _ _ _)
      | (with_reducible exact spec_DrawNearVecs.mono _ _)
      | (with_reducible exact spec_NearVecs.mono _ _ _)
      | (with_reducible exact LeO.refl _)
      | (with_reducible exact LeO.none _)
      | (with_reducible refine LeO.ite ?_ ?_)
      | (with_reducible refine LeO.bind ?_ (fun _ => ?_))
      | exact ih0 _ _ _ _ _ _
      | exact impl_NearVecs.mono _ _ _
      | exact laws_hasVec9.mono _ _ _ _
      | exact laws_likeVecs9.mono _ _ _
      | exact laws_roll.mono _ _ _
      | exact spec_DrawNearVecs.mono _ _
      | exact spec_NearVecs.mono _ _ _
      | exact LeO.none _
      | refine LeO.ite ?_ ?_
      | refine LeO.bind ?_ (fun _ => ?_)
set_option maxHeartbeats 8000000 in
set_option maxRecDepth 100000 in
theorem laws_FnNear.calls (k : Nat) (A0 : Option Addr) (c0 : Nat) (l0 : List Int) (w : World) (hr0 : Kd.C (Kd.int .u8) w A0 l0.length l0) (hc0 : l0.length ≤ c0) (h : laws_FnNear.f k l0 = some true) :
    Calls Try.prog 5 #[.slice A0 l0.length c0] w fun e w' => e = .returned (.bool true) ∧ Below w.heap.size w w' := by
  have hu47 := Try.underlying47
  have HR0 := Aside0.mk hr0
  have HC0 := Aside0.mk hc0
  clear hr0 hc0
  have HB := Aside0.mk (Below.refl w.heap.size w)
  have H : ((laws_big.f l0).bind fun t395 => (if t395 = true then (some true) else ((spec_DrawNearVecs.f k l0).bind fun bt396 => ((impl_NearVecs.f k bt396.1 bt396.2).bind fun bt398 => ((spec_NearVecs.f k bt396.1 bt396.2).bind fun bt402 => (if bt398.2 = bt402.2 then ((laws_likeVecs9.f k bt398.1 bt402.1).bind fun t406 => (laws_FnNear.j0 k l0 bt396.1 bt396.2 bt398.1 bt398.2 (!t406))) else (laws_FnNear.j0 k l0 bt396.1 bt396.2 bt398.1 bt398.2 true))))))) = some true := h
  clear h
  replace H := Option.bind_eq_some_iff.mp H
  obtain ⟨t395, A20, H⟩ := H
  replace H : (if t395 = true then (some true) else ((spec_DrawNearVecs.f k l0).bind fun bt396 => ((impl_NearVecs.f k bt396.1 bt396.2).bind fun bt398 => ((spec_NearVecs.f k bt396.1 bt396.2).bind fun bt402 => (if bt398.2 = bt402.2 then ((laws_likeVecs9.f k bt398.1 bt402.1).bind fun t406 => (laws_FnNear.j0 k l0 bt396.1 bt396.2 bt398.1 bt398.2 (!t406))) else (laws_FnNear.j0 k l0 bt396.1 bt396.2 bt398.1 bt398.2 true)))))) = some true := H
  have A2 := Aside0.mk A20
  clear A20
  by_cases c3 : t395 = true
  · subst c3
    have H1 : (some true) = some true := rfl
    clear H
    have H := H1
    clear H1
    clear H
    go_enter Try.func5, Try.ntmps5
    go_wp2_with (first | ((with_reducible refine gate_callee (f := 21) rfl ?_); refine goesL_ (some 14) rfl rfl Try.func21 (by kernel_rfl) rfl #[.slice A0 l0.length c0] rfl (by (try simp only [List.map_toArray, List.map_cons, List.map_nil]); first | done | rfl | (simp only [List.length_drop, List.length_take]; rfl)) ?_; (with_reducible refine (laws_big.calls _ _ l0 true _ ?side1 ?side2 A2.out).mono ?_); (case side1 => repeat (first | exact HR0.out | (with_reducible refine Kd.C_alloc ?_ _) | (with_reducible refine Kd.C_drewN ?_ _) | (with_reducible refine Kd.C_drew ?_))); (case side2 => exact HC0.out); rintro e w' ⟨rfl, ⟨nd, rfl⟩⟩; refine ⟨_, rfl, ?_⟩))
    go_ret
    exact ⟨by first | rfl | (simp [errW_none, errW_some] <;> rfl) | (simp [*, errW_none, errW_some] <;> rfl), by repeat (first | (with_reducible first | exact HB.out | apply below_alloc | apply pw_below_drewN | apply below_drew1) | exact HB.out)⟩
  · replace c3 := Bool.eq_false_iff.mpr c3
    subst c3
    have H1 : ((spec_DrawNearVecs.f k l0).bind fun bt396 => ((impl_NearVecs.f k bt396.1 bt396.2).bind fun bt398 => ((spec_NearVecs.f k bt396.1 bt396.2).bind fun bt402 => (if bt398.2 = bt402.2 then ((laws_likeVecs9.f k bt398.1 bt402.1).bind fun t406 => (laws_FnNear.j0 k l0 bt396.1 bt396.2 bt398.1 bt398.2 (!t406))) else (laws_FnNear.j0 k l0 bt396.1 bt396.2 bt398.1 bt398.2 true))))) = some true := by rw [if_neg (show ¬ (false = true) by decide)] at H; exact H
    clear H
    have H := H1
    clear H1
    replace H := Option.bind_eq_some_iff.mp H
    obtain ⟨⟨t396, t397⟩, A40, H⟩ := H
    replace H : ((impl_NearVecs.f k t396 t397).bind fun bt398 => ((spec_NearVecs.f k t396 t397).bind fun bt402 => (if bt398.2 = bt402.2 then ((laws_likeVecs9.f k bt398.1 bt402.1).bind fun t406 => (laws_FnNear.j0 k l0 t396 t397 bt398.1 bt398.2 (!t406))) else (laws_FnNear.j0 k l0 t396 t397 bt398.1 bt398.2 true)))) = some true := H
    have A4 := Aside0.mk A40
    clear A40
    replace H := Option.bind_eq_some_iff.mp H
    obtain ⟨⟨t398, t399⟩, A50, H⟩ := H
    replace H : ((spec_NearVecs.f k t396 t397).bind fun bt402 => (if t399 = bt402.2 then ((laws_likeVecs9.f k t398 bt402.1).bind fun t406 => (laws_FnNear.j0 k l0 t396 t397 t398 t399 (!t406))) else (laws_FnNear.j0 k l0 t396 t397 t398 t399 true))) = some true := H
    have A5 := Aside0.mk A50
    clear A50
    replace H := Option.bind_eq_some_iff.mp H
    obtain ⟨⟨t402, t403⟩, A60, H⟩ := H
    replace H : (if t399 = t403 then ((laws_likeVecs9.f k t398 t402).bind fun t406 => (laws_FnNear.j0 k l0 t396 t397 t398 t399 (!t406))) else (laws_FnNear.j0 k l0 t396 t397 t398 t399 true)) = some true := H
    have A6 := Aside0.mk A60
    clear A60
    have HC7 := Aside0.mk H
    clear H
    go_enter Try.func5, Try.ntmps5
    go_upto_region 6 with (first | ((with_reducible refine gate_callee (f := 21) rfl ?_); refine goesL_ (some 14) rfl rfl Try.func21 (by kernel_rfl) rfl #[.slice A0 l0.length c0] rfl (by (try simp only [List.map_toArray, List.map_cons, List.map_nil]); first | done | rfl | (simp only [List.length_drop, List.length_take]; rfl)) ?_; (with_reducible refine (laws_big.calls _ _ l0 false _ ?side1 ?side2 A2.out).mono ?_); (case side1 => repeat (first | exact HR0.out | (with_reducible refine Kd.C_alloc ?_ _) | (with_reducible refine Kd.C_drewN ?_ _) | (with_reducible refine Kd.C_drew ?_))); (case side2 => exact HC0.out); rintro e w' ⟨rfl, ⟨nd, rfl⟩⟩; refine ⟨_, rfl, ?_⟩) | ((with_reducible refine gate_callee (f := 22) rfl ?_); refine goesL_ (some 17) rfl rfl Try.func22 (by kernel_rfl) rfl #[.slice A0 l0.length c0] rfl (by (try simp only [List.map_toArray, List.map_cons, List.map_nil]); first | done | rfl | (simp only [List.length_drop, List.length_take]; rfl)) ?_; (with_reducible refine (spec_DrawNearVecs.calls k _ _ l0 t396 t397 _ ?side1 ?side2 A4.out).mono ?_); (case side1 => repeat (first | exact HR0.out | (with_reducible refine Kd.C_alloc ?_ _) | (with_reducible refine Kd.C_drewN ?_ _) | (with_reducible refine Kd.C_drew ?_))); (case side2 => exact HC0.out); rintro e w8 ⟨rfl, hb⟩; refine ⟨_, rfl, ?_⟩; have n0_ := Aside0.mk (below_step (by repeat (first | (with_reducible first | exact HB.out | apply below_alloc | apply pw_below_drewN | apply below_drew1) | exact HB.out)) hb); clear HB; have HB := n0_; clear n0_; (try clear hb); (try clear hb2); (try clear hk); (try clear hi)) | ((with_reducible refine gate_callee (f := 11) rfl ?_); refine goesL_ (some 23) rfl rfl Try.func11 (by kernel_rfl) rfl #[.int .i64 t396, .int .i64 t397] rfl (by (try simp only [List.map_toArray, List.map_cons, List.map_nil]); first | done | rfl | (simp only [List.length_drop, List.length_take]; rfl)) ?_; (with_reducible refine (impl_NearVecs.calls k t396 t397 t398 t399 _ A5.out).mono ?_); rintro e w9 ⟨v400, rfl, ho0, hb⟩; refine ⟨_, rfl, ?_⟩; have n0_ := Aside0.mk (Kd.R_lower ho0 (below_size (by repeat (first | (with_reducible first | exact HB.out | apply below_alloc | apply pw_below_drewN | apply below_drew1) | exact HB.out)))); have n1_ := Aside0.mk (below_step (by repeat (first | (with_reducible first | exact HB.out | apply below_alloc | apply pw_below_drewN | apply below_drew1) | exact HB.out)) hb); clear HB; have HO401 := n0_; have HB := n1_; clear n0_ n1_; (try clear hb); (try clear hb2); (try clear hk); (try clear hi); (try clear ho0)) | ((with_reducible refine gate_callee (f := 10) rfl ?_); refine goesL_ (some 29) rfl rfl Try.func10 (by kernel_rfl) rfl #[.int .i64 t396, .int .i64 t397] rfl (by (try simp only [List.map_toArray, List.map_cons, List.map_nil]); first | done | rfl | (simp only [List.length_drop, List.length_take]; rfl)) ?_; (with_reducible refine (spec_NearVecs.calls k t396 t397 t402 t403 _ A6.out).mono ?_); rintro e w10 ⟨v404, rfl, ho0, hb⟩; refine ⟨_, rfl, ?_⟩; have n0_ := Aside0.mk (Kd.R_elder' (by (with_reducible repeat (first | apply Kd.R_alloc | apply Kd.R_drewN | apply Kd.R_drew)); exact HO401.out) (Kd.R_base ho0) hb); have n1_ := Aside0.mk (Kd.R_lower (Kd.R_new' ho0 (Kd.R_lt (by (with_reducible repeat (first | apply Kd.R_alloc | apply Kd.R_drewN | apply Kd.R_drew)); exact HO401.out))) (below_size (by repeat (first | (with_reducible first | exact HB.out | apply below_alloc | apply pw_below_drewN | apply below_drew1) | exact HB.out)))); have n2_ := Aside0.mk (below_step (by repeat (first | (with_reducible first | exact HB.out | apply below_alloc | apply pw_below_drewN | apply below_drew1) | exact HB.out)) hb); clear HO401; clear HB; have HO401 := n0_; have HO405 := n1_; have HB := n2_; clear n0_ n1_ n2_; (try clear hb); (try clear hb2); (try clear hk); (try clear hi); (try clear ho0)))
    (try simp only [Act.put, List.setIfInBounds_toArray, List.set_cons_zero, List.set_cons_succ])
    go_cut [40] (fun v40 wc => ∃ (kq : Nat) (x40_6 : Bool), v40 = .bool x40_6 ∧ Aside0 (laws_FnNear.j0 kq l0 t396 t397 t398 t399 x40_6 = some true) ∧ Aside0 (kq ≤ k) ∧ Aside0 (Kd.R k47 47 wc w.heap.size (fun _ => True) v400 t398) ∧ Aside0 (Below w.heap.size w wc))
    case first =>
      have H := HC7.out
      clear HC7
      by_cases c11 : t399 = t403
      · rw [if_pos c11] at H
        have c11b0 : (t399 == t403) = true := beq_iff_eq.mpr c11
        have c11b1 : (t399 != t403) = false := bne_eq_false_iff_eq.mpr c11
        clear c11
        (first | rw [c11b0] | (simp only [i64_w, i32_w]; rw [c11b0]) | skip)
        replace H := Option.bind_eq_some_iff.mp H
        obtain ⟨t406, A120, H⟩ := H
        replace H : (laws_FnNear.j0 k l0 t396 t397 t398 t399 (!t406)) = some true := H
        have A12 := Aside0.mk A120
        clear A120
        have H' := Aside0.mk H
        clear H
        obtain ⟨Ao13, co13, eo13⟩ := Kd.R_slice HO401.out
        subst eo13
        obtain ⟨Ao14, co14, eo14⟩ := Kd.R_slice HO405.out
        subst eo14
        go_wp2_with (first | (go_at_call 23; (with_reducible refine (laws_likeVecs9.calls k _ _ t398 _ _ t402 t406 _ ?side1 ?side2 ?side3 ?side4 A12.out).mono ?_); (case side1 => repeat (first | exact (Kd.R_reads' HO401.out).2.2 | (with_reducible refine Kd.C_alloc ?_ _) | (with_reducible refine Kd.C_drewN ?_ _) | (with_reducible refine Kd.C_drew ?_))); (case side2 => exact (Kd.R_reads' HO401.out).2.1); (case side3 => repeat (first | exact (Kd.R_reads' HO405.out).2.2 | (with_reducible refine Kd.C_alloc ?_ _) | (with_reducible refine Kd.C_drewN ?_ _) | (with_reducible refine Kd.C_drew ?_))); (case side4 => exact (Kd.R_reads' HO405.out).2.1); rintro e w' ⟨rfl, ⟨nd, rfl⟩⟩))
        go_meet
        case rel => exact ⟨_, (!t406), (by first | rfl | (simp; done) | (simp [*]; done)), H', ⟨by first | omega | exact Nat.le_refl _⟩, ⟨by (with_reducible repeat (first | apply Kd.R_alloc | apply Kd.R_drewN | apply Kd.R_drew)); exact Kd.R_mono HO401.out (fun _ hk => trivial)⟩, ⟨by repeat (first | (with_reducible first | exact HB.out | apply below_alloc | apply pw_below_drewN | apply below_drew1) | exact HB.out)⟩⟩
      · rw [if_neg c11] at H
        exact absurd H (by cases k <;> simp [laws_FnNear.j0])
    case rest =>
      clear HC7
      try clear c1
      try clear c2
      try clear p2
      try clear c3
      try clear c5
      try clear c10
      try clear c11
      try clear c11b0
      try clear c11b1
      obtain ⟨kq, x40_6, rfl, HA, HJ6, HO_5, HB⟩ := hcut
      cases kq with
      | zero => exact absurd HA.out (by simp [laws_FnNear.j0])
      | succ kj6 =>
        have H := HA.out
        clear HA
        simp only [laws_FnNear.j0] at H
        by_cases c15 : x40_6 = true
        · subst c15
          have H1 : (some false) = some true := by rw [if_pos rfl] at H; exact H
          clear H
          have H := H1
          clear H1
          exact absurd (Option.some.inj H) (by decide)
        · replace c15 := Bool.eq_false_iff.mpr c15
          subst c15
          have H1 : (if t399 = 0 then ((laws_roll.f kj6 l0 401).bind fun bt407 => ((laws_dice_below.f bt407.1 bt407.2.1 bt407.2.2 15).bind fun bt411 => ((laws_dice_below.f bt407.1 bt411.2.1 bt411.2.2 15).bind fun bt414 => ((impl_NormOf.f t396 (wrap64 (bt411.1 - 7)) (wrap64 (bt414.1 - 7))).bind fun bt418 => (if bt418.2 = 0 then ((laws_hasVec9.f kj6 t398 (wrap64 (bt411.1 - 7)) (wrap64 (bt414.1 - 7))).bind fun t420 => (some (t420 == (decide (bt418.1 ≤ t397))))) else (some false)))))) else (some true)) = some true := by rw [if_neg (show ¬ (false = true) by decide)] at H; exact H
          clear H
          have H := H1
          clear H1
          by_cases c16 : t399 = 0
          · rw [if_pos c16] at H
            have c16b0 : (t399 == 0) = true := beq_iff_eq.mpr c16
            have c16b1 : (t399 != 0) = false := bne_eq_false_iff_eq.mpr c16
            clear c16
            replace H := Option.bind_eq_some_iff.mp H
            obtain ⟨⟨t407, t408, t409⟩, A170, H⟩ := H
            replace H : ((laws_dice_below.f t407 t408 t409 15).bind fun bt411 => ((laws_dice_below.f t407 bt411.2.1 bt411.2.2 15).bind fun bt414 => ((impl_NormOf.f t396 (wrap64 (bt411.1 - 7)) (wrap64 (bt414.1 - 7))).bind fun bt418 => (if bt418.2 = 0 then ((laws_hasVec9.f kj6 t398 (wrap64 (bt411.1 - 7)) (wrap64 (bt414.1 - 7))).bind fun t420 => (some (t420 == (decide (bt418.1 ≤ t397))))) else (some false))))) = some true := H
            have A17 := Aside0.mk A170
            clear A170
            replace H := Option.bind_eq_some_iff.mp H
            obtain ⟨⟨t411, t412, t413⟩, A180, H⟩ := H
            replace H : ((laws_dice_below.f t407 t412 t413 15).bind fun bt414 => ((impl_NormOf.f t396 (wrap64 (t411 - 7)) (wrap64 (bt414.1 - 7))).bind fun bt418 => (if bt418.2 = 0 then ((laws_hasVec9.f kj6 t398 (wrap64 (t411 - 7)) (wrap64 (bt414.1 - 7))).bind fun t420 => (some (t420 == (decide (bt418.1 ≤ t397))))) else (some false)))) = some true := H
            have A18 := Aside0.mk A180
            clear A180
            replace H := Option.bind_eq_some_iff.mp H
            obtain ⟨⟨t414, t415, t416⟩, A190, H⟩ := H
            replace H : ((impl_NormOf.f t396 (wrap64 (t411 - 7)) (wrap64 (t414 - 7))).bind fun bt418 => (if bt418.2 = 0 then ((laws_hasVec9.f kj6 t398 (wrap64 (t411 - 7)) (wrap64 (t414 - 7))).bind fun t420 => (some (t420 == (decide (bt418.1 ≤ t397))))) else (some false))) = some true := H
            have A19 := Aside0.mk A190
            clear A190
            replace H := Option.bind_eq_some_iff.mp H
            obtain ⟨⟨t418, t419⟩, A200, H⟩ := H
            replace H : (if t419 = 0 then ((laws_hasVec9.f kj6 t398 (wrap64 (t411 - 7)) (wrap64 (t414 - 7))).bind fun t420 => (some (t420 == (decide (t418 ≤ t397))))) else (some false)) = some true := H
            have A20 := Aside0.mk A200
            clear A200
            by_cases c21 : t419 = 0
            · rw [if_pos c21] at H
              have c21b0 : (t419 == 0) = true := beq_iff_eq.mpr c21
              have c21b1 : (t419 != 0) = false := bne_eq_false_iff_eq.mpr c21
              clear c21
              replace H := Option.bind_eq_some_iff.mp H
              obtain ⟨t420, A220, H⟩ := H
              replace H : (some (t420 == (decide (t418 ≤ t397)))) = some true := H
              have A22 := Aside0.mk A220
              clear A220
              have hrT_ := Option.some.inj H
              go_wp2_with (first | ((with_reducible refine gate_callee (f := 24) rfl ?_); refine goesL_ (some 44) rfl rfl Try.func24 (by kernel_rfl) rfl #[.slice A0 l0.length c0, .int .u64 401] rfl (by (try simp only [List.map_toArray, List.map_cons, List.map_nil]); first | done | rfl | (simp only [List.length_drop, List.length_take]; rfl)) ?_; (with_reducible refine (laws_roll.calls kj6 _ _ l0 401 t407 t408 t409 w _ ?side1 ?side2 ?side3 A17.out).mono ?_); (case side1 => repeat (first | (with_reducible first | exact HB.out | apply below_alloc | apply pw_below_drewN | apply below_drew1) | exact HB.out)); (case side2 => exact HR0.out); (case side3 => exact HC0.out); rintro e w23 ⟨g410, rfl, hi, hb, hb2⟩; refine ⟨_, rfl, ?_⟩; have n0_ := Aside0.mk (Kd.R_below (by (with_reducible repeat (first | apply Kd.R_alloc | apply Kd.R_drewN | apply Kd.R_drew)); exact HO_5.out) hb2); have n1_ := Aside0.mk (hb); have n2_ := Aside0.mk (hi); clear HO_5; clear HB; have HO_5 := n0_; have HB := n1_; have HI410 := n2_; clear n0_ n1_ n2_; (try clear hb); (try clear hb2); (try clear hk); (try clear hi)) | ((with_reducible refine gate_callee (f := 25) rfl ?_); refine goesL_ (some 46) rfl rfl Try.func25 (by kernel_rfl) rfl #[.pointer (some ⟨g410, 0, none⟩), .int .i64 15] rfl (by (try simp only [List.map_toArray, List.map_cons, List.map_nil]); first | done | rfl | (simp only [List.length_drop, List.length_take]; rfl)) ?_; (with_reducible refine (laws_dice_below.calls g410 t407 t408 t409 15 t411 t412 t413 w _ ?side1 ?side2 A18.out).mono ?_); (case side1 => repeat (first | (with_reducible first | exact HI410.out | apply IsS109.alloc | apply IsS109.drewN | apply IsS109.drew | apply IsS109.set_1 | apply IsS109.set_2) | exact HI410.out)); (case side2 => repeat (first | (with_reducible first | exact HB.out | apply below_alloc | apply pw_below_drewN | apply below_drew1 | refine below_set ?_ (IsS109.ge HI410.out)) | exact HB.out)); rintro e w24 ⟨rfl, hi, hb, hk⟩; refine ⟨_, rfl, ?_⟩; have n0_ := Aside0.mk (Kd.R_mono (Kd.R_keep (IsS109.apart (show IsS109 w _ g410 t407 t408 t409 from by repeat (first | (with_reducible first | exact HI410.out | apply IsS109.alloc | apply IsS109.drewN | apply IsS109.drew | apply IsS109.set_1 | apply IsS109.set_2) | exact HI410.out)) (by (with_reducible repeat (first | apply Kd.R_alloc | apply Kd.R_drewN | apply Kd.R_drew)); exact HO_5.out) (by decide)) hk (fun _ h => h.2)) (fun _ h => h.1)); have n1_ := Aside0.mk (hb); have n2_ := Aside0.mk (hi); clear HO_5; clear HB; clear HI410; have HO_5 := n0_; have HB := n1_; have HI410 := n2_; clear n0_ n1_ n2_; (try clear hb); (try clear hb2); (try clear hk); (try clear hi)) | ((with_reducible refine gate_callee (f := 25) rfl ?_); refine goesL_ (some 49) rfl rfl Try.func25 (by kernel_rfl) rfl #[.pointer (some ⟨g410, 0, none⟩), .int .i64 15] rfl (by (try simp only [List.map_toArray, List.map_cons, List.map_nil]); first | done | rfl | (simp only [List.length_drop, List.length_take]; rfl)) ?_; (with_reducible refine (laws_dice_below.calls g410 t407 t412 t413 15 t414 t415 t416 w _ ?side1 ?side2 A19.out).mono ?_); (case side1 => repeat (first | (with_reducible first | exact HI410.out | apply IsS109.alloc | apply IsS109.drewN | apply IsS109.drew | apply IsS109.set_1 | apply IsS109.set_2) | exact HI410.out)); (case side2 => repeat (first | (with_reducible first | exact HB.out | apply below_alloc | apply pw_below_drewN | apply below_drew1 | refine below_set ?_ (IsS109.ge HI410.out)) | exact HB.out)); rintro e w25 ⟨rfl, hi, hb, hk⟩; refine ⟨_, rfl, ?_⟩; have n0_ := Aside0.mk (Kd.R_mono (Kd.R_keep (IsS109.apart (show IsS109 w _ g410 t407 t412 t413 from by repeat (first | (with_reducible first | exact HI410.out | apply IsS109.alloc | apply IsS109.drewN | apply IsS109.drew | apply IsS109.set_1 | apply IsS109.set_2) | exact HI410.out)) (by (with_reducible repeat (first | apply Kd.R_alloc | apply Kd.R_drewN | apply Kd.R_drew)); exact HO_5.out) (by decide)) hk (fun _ h => h.2)) (fun _ h => h.1)); have n1_ := Aside0.mk (hb); have n2_ := Aside0.mk (hi); clear HO_5; clear HB; clear HI410; have HO_5 := n0_; have HB := n1_; have HI410 := n2_; clear n0_ n1_ n2_; (try clear hb); (try clear hb2); (try clear hk); (try clear hi)) | ((with_reducible refine gate_dst (N := 10) rfl ?_); refine box_event ?hg (N := 10) ?hd (cs := #[.int .i64 0, .int .i64 0]) (t := 47) ?hr ?_; (case hd => rfl); (case hg => rfl); (case hr => first | (go_simp; done) | (go_simp; rfl)); intro gb417 hg w26 hbox hb; have n0_ := Aside0.mk (Kd.R_below (Kd.R_elderB (by (with_reducible repeat (first | apply Kd.R_alloc | apply Kd.R_drewN | apply Kd.R_drew)); exact HO_5.out) gb417 (Nat.le_of_eq hg.symm)) hb); have n1_ := Aside0.mk (IsS109.below (by repeat (first | (with_reducible first | exact HI410.out | apply IsS109.alloc | apply IsS109.drewN | apply IsS109.drew | apply IsS109.set_1 | apply IsS109.set_2) | exact HI410.out)) hb); have n2_ := Aside0.mk (below_step (by repeat (first | (with_reducible first | exact HB.out | apply below_alloc | apply pw_below_drewN | apply below_drew1 | refine below_set ?_ (IsS109.ge HI410.out)) | exact HB.out)) hb); have n3_ := Aside0.mk (hbox); have n4_ := Aside0.mk ((by rw [hg]; exact (below_size (by repeat (first | (with_reducible first | exact HB.out | apply below_alloc | apply pw_below_drewN | apply below_drew1 | refine below_set ?_ (IsS109.ge HI410.out)) | exact HB.out))) : w.heap.size ≤ gb417)); have n5_ := Aside0.mk ((by rw [hg]; exact (below_size (by repeat (first | (with_reducible first | exact HB.out | apply below_alloc | apply pw_below_drewN | apply below_drew1 | refine below_set ?_ (IsS109.ge HI410.out)) | exact HB.out))) : w.heap.size ≤ gb417)); have n6_ := Aside0.mk ((by rw [hg]; exact Nat.ne_of_lt (IsS109.lt (show IsS109 w _ g410 t407 t415 t416 from by repeat (first | (with_reducible first | exact HI410.out | apply IsS109.alloc | apply IsS109.drewN | apply IsS109.drew | apply IsS109.set_1 | apply IsS109.set_2) | exact HI410.out))) : g410 ≠ gb417)); have n7_ := Aside0.mk ((by rw [hg]; exact Nat.ne_of_gt (IsS109.lt (show IsS109 w _ g410 t407 t415 t416 from by repeat (first | (with_reducible first | exact HI410.out | apply IsS109.alloc | apply IsS109.drewN | apply IsS109.drew | apply IsS109.set_1 | apply IsS109.set_2) | exact HI410.out))) : gb417 ≠ g410)); clear HO_5; clear HI410; clear HB; have HO_5 := n0_; have HI410 := n1_; have HB := n2_; have BK417 := n3_; have GW417 := n4_; have GE417 := n5_; have NB410_417 := n6_; have NB417_410 := n7_; clear n0_ n1_ n2_ n3_ n4_ n5_ n6_ n7_; clear hb hbox hg; have hnb27 := NB417_410.out; have hnc27 := NB410_417.out; have hcz28_0 : w26.cell? ⟨gb417, 0, none⟩ = some (.int .i64 0) := (blk_cell BK417.out 0).trans rfl; have hcz28_1 : w26.cell? ⟨gb417, 1, none⟩ = some (.int .i64 0) := (blk_cell BK417.out 1).trans rfl; have hfz28_0 := blk_frozen BK417.out 0; have hfz28_1 := blk_frozen BK417.out 1) | ((with_reducible refine gate_callee (f := 26) rfl ?_); refine goesL_ (some 55) rfl rfl Try.func26 (by kernel_rfl) rfl #[.int .i64 t396, .agg #[.int .i64 (wrap64 (t411 - 7)), .int .i64 (wrap64 (t414 - 7))]] rfl (by (try simp only [List.map_toArray, List.map_cons, List.map_nil]); first | done | rfl | (simp only [List.length_drop, List.length_take]; rfl)) ?_; (with_reducible refine (impl_NormOf.calls t396 (wrap64 (t411 - 7)) (wrap64 (t414 - 7)) t418 t419 _ A20.out).mono ?_); rintro e w29 ⟨rfl, hb⟩; refine ⟨_, rfl, ?_⟩; have n0_ := Aside0.mk (Kd.R_below (by (with_reducible repeat (first | apply Kd.R_alloc | apply Kd.R_drewN | apply Kd.R_drew)); exact (Kd.R_mono (Kd.R_far (p := ⟨gb417, 1, none⟩) (Kd.R_far (p := ⟨gb417, 0, none⟩) (Kd.R_mono HO_5.out (fun k_ hk => (⟨hk, hk.2⟩ : _ ∧ k_ ≠ gb417))) (fun _ hk => hk.2) (.int .i64 (wrap64 (t411 - 7)))) (fun _ hk => hk.2) (.int .i64 (wrap64 (t414 - 7)))) (fun _ h_ => h_.1))) hb); have n1_ := Aside0.mk (IsS109.below (show IsS109 w ((w26.setCell ⟨gb417, 0, none⟩ (.int .i64 (wrap64 (t411 - 7)))).setCell ⟨gb417, 1, none⟩ (.int .i64 (wrap64 (t414 - 7)))) g410 t407 t415 t416 from by repeat (first | (with_reducible first | exact HI410.out | apply IsS109.alloc | apply IsS109.drewN | apply IsS109.drew | apply IsS109.set_1 | apply IsS109.set_2 | refine IsS109.far ?_ NB410_417.out _) | exact HI410.out)) hb); have n2_ := Aside0.mk (blk_below (g := gb417) (o := .cells #[.int .i64 (wrap64 (t411 - 7)), .int .i64 (wrap64 (t414 - 7))] 47 (0, 0)) (by (with_reducible repeat (first | refine blk_drewN ?_ _ | refine blk_drew ?_ | refine blk_alloc ?_ _)); refine blk_put (cs := #[.int .i64 (wrap64 (t411 - 7)), .int .i64 0]) ?_ 1 _ rfl; (with_reducible repeat (first | refine blk_drewN ?_ _ | refine blk_drew ?_ | refine blk_alloc ?_ _)); refine blk_put (cs := #[.int .i64 0, .int .i64 0]) ?_ 0 _ rfl; (with_reducible repeat (first | refine blk_drewN ?_ _ | refine blk_drew ?_ | refine blk_alloc ?_ _)); exact BK417.out) hb); have n3_ := Aside0.mk (below_step (by repeat (first | (with_reducible first | exact HB.out | apply below_alloc | apply pw_below_drewN | apply below_drew1 | refine below_set ?_ (IsS109.ge HI410.out) | refine below_set ?_ GE417.out) | exact HB.out)) hb); clear HO_5; clear HI410; clear BK417; clear HB; have HO_5 := n0_; have HI410 := n1_; have BK417 := n2_; have HB := n3_; clear n0_ n1_ n2_ n3_; (try clear hb); (try clear hb2); (try clear hk); (try clear hi); have hcz30_0 : w29.cell? ⟨gb417, 0, none⟩ = some (.int .i64 (wrap64 (t411 - 7))) := (blk_cell BK417.out 0).trans rfl; have hcz30_1 : w29.cell? ⟨gb417, 1, none⟩ = some (.int .i64 (wrap64 (t414 - 7))) := (blk_cell BK417.out 1).trans rfl; have hfz30_0 := blk_frozen BK417.out 0; have hfz30_1 := blk_frozen BK417.out 1; obtain ⟨Ao31, co31, eo31⟩ := Kd.R_slice HO_5.out; subst eo31) | (go_at_call 27; (with_reducible refine (laws_hasVec9.calls kj6 _ _ t398 (wrap64 (t411 - 7)) (wrap64 (t414 - 7)) t420 _ ?side1 ?side2 A22.out).mono ?_); (case side1 => repeat (first | exact (Kd.R_reads' HO_5.out).2.2 | (with_reducible refine Kd.C_alloc ?_ _) | (with_reducible refine Kd.C_drewN ?_ _) | (with_reducible refine Kd.C_drew ?_))); (case side2 => exact (Kd.R_reads' HO_5.out).2.1); rintro e w32 ⟨rfl, hb⟩; have n0_ := Aside0.mk (Kd.R_below (by (with_reducible repeat (first | apply Kd.R_alloc | apply Kd.R_drewN | apply Kd.R_drew)); exact HO_5.out) hb); have n1_ := Aside0.mk (IsS109.below (by repeat (first | (with_reducible first | exact HI410.out | apply IsS109.alloc | apply IsS109.drewN | apply IsS109.drew | apply IsS109.set_1 | apply IsS109.set_2 | refine IsS109.far ?_ NB410_417.out _) | exact HI410.out)) hb); have n2_ := Aside0.mk (blk_below (g := gb417) (o := .cells #[.int .i64 (wrap64 (t411 - 7)), .int .i64 (wrap64 (t414 - 7))] 47 (0, 0)) (by (with_reducible repeat (first | refine blk_drewN ?_ _ | refine blk_drew ?_ | refine blk_alloc ?_ _)); exact BK417.out) hb); have n3_ := Aside0.mk (below_step (by repeat (first | (with_reducible first | exact HB.out | apply below_alloc | apply pw_below_drewN | apply below_drew1 | refine below_set ?_ (IsS109.ge HI410.out) | refine below_set ?_ GE417.out) | exact HB.out)) hb); clear HO_5; clear HI410; clear BK417; clear HB; have HO_5 := n0_; have HI410 := n1_; have BK417 := n2_; have HB := n3_; clear n0_ n1_ n2_ n3_; (try clear hb); (try clear hb2); (try clear hk); (try clear hi)))
              all_goals go_ret
              all_goals exact ⟨by first | rfl | (simp [errW_none, errW_some] <;> rfl) | (simp [*, errW_none, errW_some] <;> rfl), by repeat (first | (with_reducible first | exact HB.out | apply below_alloc | apply pw_below_drewN | apply below_drew1 | refine below_set ?_ (IsS109.ge HI410.out) | refine below_set ?_ GE417.out) | exact HB.out)⟩
            · rw [if_neg c21] at H
              have c21b0 : (t419 == 0) = false := beq_eq_false_iff_ne.mpr c21
              have c21b1 : (t419 != 0) = true := bne_iff_ne.mpr c21
              exact absurd (Option.some.inj H) (by decide)
          · rw [if_neg c16] at H
            have c16b0 : (t399 == 0) = false := beq_eq_false_iff_ne.mpr c16
            have c16b1 : (t399 != 0) = true := bne_iff_ne.mpr c16
            clear H
            go_wp2
            go_ret
            exact ⟨by first | rfl | (simp [errW_none, errW_some] <;> rfl) | (simp [*, errW_none, errW_some] <;> rfl), by repeat (first | (with_reducible first | exact HB.out | apply below_alloc | apply pw_below_drewN | apply below_drew1) | exact HB.out)⟩


end Go.Proofs.Ytcjchihnopmplaa.F
