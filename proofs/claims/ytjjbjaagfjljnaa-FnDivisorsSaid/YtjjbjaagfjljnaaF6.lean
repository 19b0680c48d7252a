import Derived.Test.YtjjbjaagfjljnaaF0
import Derived.Test.YtjjbjaagfjljnaaF1
import Derived.Test.YtjjbjaagfjljnaaF2
import Derived.Test.YtjjbjaagfjljnaaF4
import Derived.Test.YtjjbjaagfjljnaaF5
namespace Go.Proofs.Ytjjbjaagfjljnaa.F
open Go.RowKit Go.Proofs.YtjjbjaagfjljnaaW.PrintWords Go.Proofs.YtjjbjaagfjljnaaW.PrintLast Go.Proofs.YtjjbjaagfjljnaaW.PrintMore
attribute [local go_sem] max2_int min2_int max_two min_two max_three min_three max_four min_four   -- for this text's walks alone
set_option linter.unusedVariables false
set_option linter.unusedSimpArgs false
attribute [local go_sem high] eqA25

/-! ### laws_FnDivisors: function 3 -/
mutual
def laws_FnDivisors.j0 : Nat → Int → Int → Int → Int → Int → Int → Bool → Int → Int → Int → Int → Option (Bool)
  | 0, _, _, _, _, _, _, _, _, _, _, _ => none
  | k + 1, x5, x6, x10, x11, x12, x13, x75, x217000, x217001, x222000, x222001 => if x75 = true then (some false) else (if x13 = 0 then (if x12 > 0 then (if x12 = 0 then (none) else (if (Int.tmod x10 x12) = 0 then (laws_FnDivisors.j1 k x5 x6 ((Int.tmod x11 x12) != 0) x217000 x217001 x222000 x222001) else (laws_FnDivisors.j1 k x5 x6 true x217000 x217001 x222000 x222001))) else (laws_FnDivisors.j1 k x5 x6 false x217000 x217001 x222000 x222001)) else (laws_FnDivisors.j1 k x5 x6 false x217000 x217001 x222000 x222001))
def laws_FnDivisors.j1 : Nat → Int → Int → Bool → Int → Int → Int → Int → Option (Bool)
  | 0, _, _, _, _, _, _, _ => none
  | k + 1, x5, x6, x93, x217000, x217001, x222000, x222001 => if x93 = true then (some false) else (if x6 = 0 then ((impl_ScaleVec.f x222000 x222001 x5).bind fun bt233 => ((impl_DivisorOf.f k x222000 x222001).bind fun bt237 => (if bt233.2.2 = 0 then (if (bt233.1 == x217000 && (bt233.2.1 == x217001)) = true then (if bt237.2 = 0 then (some (bt237.1 == 1)) else (some false)) else (some false)) else (some false)))) else (some true))
end
def laws_FnDivisors.f (k : Nat) (l0 : List Int) : Option (Bool) := (laws_big.f l0).bind fun t213 => (if t213 = true then (some true) else ((spec_DrawPrimitiveVec.f k l0).bind fun bt214 => ((impl_PrimitiveVec.f k bt214.1 bt214.2).bind fun bt217 => ((spec_PrimitiveVec.f k bt214.1 bt214.2).bind fun bt222 => ((spec_DrawDivisorOf.f k l0).bind fun bt227 => ((impl_DivisorOf.f k bt227.1 bt227.2).bind fun bt229 => ((spec_DivisorOf.f k bt227.1 bt227.2).bind fun bt231 => (if bt217.2.2.2 = bt222.2.2.2 then (if (!(bt217.1 == bt222.1) || (!(bt217.2.1 == bt222.2.1))) = true then (laws_FnDivisors.j0 k bt217.2.2.1 bt217.2.2.2 bt227.1 bt227.2 bt229.1 bt229.2 true bt214.1 bt214.2 bt217.1 bt217.2.1) else (if bt217.2.2.1 = bt222.2.2.1 then (if bt229.2 = bt231.2 then (laws_FnDivisors.j0 k bt217.2.2.1 bt217.2.2.2 bt227.1 bt227.2 bt229.1 bt229.2 (bt229.1 != bt231.1) bt214.1 bt214.2 bt217.1 bt217.2.1) else (laws_FnDivisors.j0 k bt217.2.2.1 bt217.2.2.2 bt227.1 bt227.2 bt229.1 bt229.2 true bt214.1 bt214.2 bt217.1 bt217.2.1)) else (laws_FnDivisors.j0 k bt217.2.2.1 bt217.2.2.2 bt227.1 bt227.2 bt229.1 bt229.2 true bt214.1 bt214.2 bt217.1 bt217.2.1))) else (laws_FnDivisors.j0 k bt217.2.2.1 bt217.2.2.2 bt227.1 bt227.2 bt229.1 bt229.2 true bt214.1 bt214.2 bt217.1 bt217.2.1)))))))))
theorem laws_FnDivisors.mono_l : ∀ k, (∀ y0 y1 y2 y3 y4 y5 y6 y7 y8 y9 y10, LeO (laws_FnDivisors.j0 k y0 y1 y2 y3 y4 y5 y6 y7 y8 y9 y10) (laws_FnDivisors.j0 (k + 1) y0 y1 y2 y3 y4 y5 y6 y7 y8 y9 y10)) ∧ (∀ y0 y1 y2 y3 y4 y5 y6, LeO (laws_FnDivisors.j1 k y0 y1 y2 y3 y4 y5 y6) (laws_FnDivisors.j1 (k + 1) y0 y1 y2 y3 y4 y5 y6))
  | 0 => ⟨fun _ _ _ _ _ _ _ _ _ _ _ r h => by simp [laws_FnDivisors.j0] at h, fun _ _ _ _ _ _ _ r h => by simp [laws_FnDivisors.j1] at h⟩
  | k + 1 => by
    obtain ⟨ih0, ih1⟩ := laws_FnDivisors.mono_l k
    refine ⟨?_, ?_⟩
    · intro y0 y1 y2 y3 y4 y5 y6 y7 y8 y9 y10
      unfold laws_FnDivisors.j0
      repeat' first
      | (with_reducible exact ih0 _ _ _ _ _ _ _ _ _ _ _)
      | (with_reducible exact ih1 _ _ _ _ _ _ _)
      | (with_reducible exact impl_DivisorOf.mono _ _ _)
      | (with_reducible exact impl_PrimitiveVec.mono _ _ _)
      | (with_reducible exact spec_DivisorOf.mono _ _ _)
      | (with_reducible exact spec_DrawDivisorOf.mono _ _)
      | (with_reducible exact spec_DrawPrimitiveVec.mono _ _)
      | (with_reducible exact spec_PrimitiveVec.mono _ _ _)
      | (with_reducible exact LeO.refl _)
      | (with_reducible exact LeO.none _)
      | (with_reducible refine LeO.ite ?_ ?_)
      | (with_reducible refine LeO.bind ?_ (fun _ => ?_))
      | exact ih0 _ _ _ _ _ _ _ _ _ _ _
      | exact ih1 _ _ _ _ _ _ _
      | exact impl_DivisorOf.mono _ _ _
      | exact impl_PrimitiveVec.mono _ _ _
      | exact spec_DivisorOf.mono _ _ _
      | exact spec_DrawDivisorOf.mono _ _
      | exact spec_DrawPrimitiveVec.mono _ _
      | exact spec_PrimitiveVec.mono _ _ _
      | exact LeO.none _
      | refine LeO.ite ?_ ?_
      | refine LeO.bind ?_ (fun _ => ?_)
    · intro y0 y1 y2 y3 y4 y5 y6
      unfold laws_FnDivisors.j1
      repeat' first
      | (with_reducible exact ih0 _ _ _ _ _ _ _ _ _ _ _)
      | (with_reducible exact ih1 _ _ _ _ _ _ _)
      | (with_reducible exact impl_DivisorOf.mono _ _ _)
      | (with_reducible exact impl_PrimitiveVec.mono _ _ _)
      | (with_reducible exact spec_DivisorOf.mono _ _ _)
      | (with_reducible exact spec_DrawDivisorOf.mono _ _)
      | (with_reducible exact spec_DrawPrimitiveVec.mono _ _)
      | (with_reducible exact spec_PrimitiveVec.mono _ _ _)
      | (with_reducible exact LeO.refl _)
      | (with_reducible exact LeO.none _)
      | (with_reducible refine LeO.ite ?_ ?_)
      | (with_reducible refine LeO.bind ?_ (fun _ => ?_))
      | exact ih0 _ _ _ _ _ _ _ _ _ _ _
      | exact ih1 _ _ _ _ _ _ _
      | exact impl_DivisorOf.mono _ _ _
      | exact impl_PrimitiveVec.mono _ _ _
      | exact spec_DivisorOf.mono _ _ _
      | exact spec_DrawDivisorOf.mono _ _
      | exact spec_DrawPrimitiveVec.mono _ _
      | exact spec_PrimitiveVec.mono _ _ _
      | exact LeO.none _
      | refine LeO.ite ?_ ?_
      | refine LeO.bind ?_ (fun _ => ?_)
theorem laws_FnDivisors.mono : ∀ a0 k, LeO (laws_FnDivisors.f k a0) (laws_FnDivisors.f (k + 1) a0) := by
  intro a0 k
  obtain ⟨ih0, ih1⟩ := laws_FnDivisors.mono_l k
  unfold laws_FnDivisors.f
  repeat' first
      | (with_reducible exact ih0 _ _ _ _ _ _ _ _ _ _ _)
      | (with_reducible exact ih1 _ _ _ _ _ _ _)
      | (with_reducible exact impl_DivisorOf.mono _ _ _)
      | (with_reducible exact impl_PrimitiveVec.mono _ _ _)
      | (with_reducible exact spec_DivisorOf.mono _ _ _)
      | (with_reducible exact spec_DrawDivisorOf.mono _ _)
      | (with_reducible exact spec_DrawPrimitiveVec.mono _ _)
      | (with_reducible exact spec_PrimitiveVec.mono _ _ _)
      | (with_reducible exact LeO.refl _)
      | (with_reducible exact LeO.none _)
      | (with_reducible refine LeO.ite ?_ ?_)
      | (with_reducible refine LeO.bind ?_ (fun _ => ?_))
      | exact ih0 _ _ _ _ _ _ _ _ _ _ _
      | exact ih1 _ _ _ _ _ _ _
      | exact impl_DivisorOf.mono _ _ _
      | exact impl_PrimitiveVec.mono _ _ _
      | exact spec_DivisorOf.mono _ _ _
      | exact spec_DrawDivisorOf.mono _ _
      | exact spec_DrawPrimitiveVec.mono _ _
      | exact spec_PrimitiveVec.mono _ _ _
      | exact LeO.none _
      | refine LeO.ite ?_ ?_
      | refine LeO.bind ?_ (fun _ => ?_)
set_option maxHeartbeats 8000000 in
set_option maxRecDepth 100000 in
theorem laws_FnDivisors.calls (k : Nat) (A0 : Option Addr) (c0 : Nat) (l0 : List Int) (w : World) (hr0 : Kd.C (Kd.int .u8) w A0 l0.length l0) (hc0 : l0.length ≤ c0) (h : laws_FnDivisors.f k l0 = some true) :
    Calls Try.prog 3 #[.slice A0 l0.length c0] w fun e w' => e = .returned (.bool true) ∧ Below w.heap.size w w' := by
  have hu25 := Try.underlying25
  have HR0 := Aside0.mk hr0
  have HC0 := Aside0.mk hc0
  clear hr0 hc0
  have HB := Aside0.mk (Below.refl w.heap.size w)
  have H : ((laws_big.f l0).bind fun t213 => (if t213 = true then (some true) else ((spec_DrawPrimitiveVec.f k l0).bind fun bt214 => ((impl_PrimitiveVec.f k bt214.1 bt214.2).bind fun bt217 => ((spec_PrimitiveVec.f k bt214.1 bt214.2).bind fun bt222 => ((spec_DrawDivisorOf.f k l0).bind fun bt227 => ((impl_DivisorOf.f k bt227.1 bt227.2).bind fun bt229 => ((spec_DivisorOf.f k bt227.1 bt227.2).bind fun bt231 => (if bt217.2.2.2 = bt222.2.2.2 then (if (!(bt217.1 == bt222.1) || (!(bt217.2.1 == bt222.2.1))) = true then (laws_FnDivisors.j0 k bt217.2.2.1 bt217.2.2.2 bt227.1 bt227.2 bt229.1 bt229.2 true bt214.1 bt214.2 bt217.1 bt217.2.1) else (if bt217.2.2.1 = bt222.2.2.1 then (if bt229.2 = bt231.2 then (laws_FnDivisors.j0 k bt217.2.2.1 bt217.2.2.2 bt227.1 bt227.2 bt229.1 bt229.2 (bt229.1 != bt231.1) bt214.1 bt214.2 bt217.1 bt217.2.1) else (laws_FnDivisors.j0 k bt217.2.2.1 bt217.2.2.2 bt227.1 bt227.2 bt229.1 bt229.2 true bt214.1 bt214.2 bt217.1 bt217.2.1)) else (laws_FnDivisors.j0 k bt217.2.2.1 bt217.2.2.2 bt227.1 bt227.2 bt229.1 bt229.2 true bt214.1 bt214.2 bt217.1 bt217.2.1))) else (laws_FnDivisors.j0 k bt217.2.2.1 bt217.2.2.2 bt227.1 bt227.2 bt229.1 bt229.2 true bt214.1 bt214.2 bt217.1 bt217.2.1)))))))))) = some true := h
  clear h
  replace H := Option.bind_eq_some_iff.mp H
  obtain ⟨t213, A20, H⟩ := H
  replace H : (if t213 = true then (some true) else ((spec_DrawPrimitiveVec.f k l0).bind fun bt214 => ((impl_PrimitiveVec.f k bt214.1 bt214.2).bind fun bt217 => ((spec_PrimitiveVec.f k bt214.1 bt214.2).bind fun bt222 => ((spec_DrawDivisorOf.f k l0).bind fun bt227 => ((impl_DivisorOf.f k bt227.1 bt227.2).bind fun bt229 => ((spec_DivisorOf.f k bt227.1 bt227.2).bind fun bt231 => (if bt217.2.2.2 = bt222.2.2.2 then (if (!(bt217.1 == bt222.1) || (!(bt217.2.1 == bt222.2.1))) = true then (laws_FnDivisors.j0 k bt217.2.2.1 bt217.2.2.2 bt227.1 bt227.2 bt229.1 bt229.2 true bt214.1 bt214.2 bt217.1 bt217.2.1) else (if bt217.2.2.1 = bt222.2.2.1 then (if bt229.2 = bt231.2 then (laws_FnDivisors.j0 k bt217.2.2.1 bt217.2.2.2 bt227.1 bt227.2 bt229.1 bt229.2 (bt229.1 != bt231.1) bt214.1 bt214.2 bt217.1 bt217.2.1) else (laws_FnDivisors.j0 k bt217.2.2.1 bt217.2.2.2 bt227.1 bt227.2 bt229.1 bt229.2 true bt214.1 bt214.2 bt217.1 bt217.2.1)) else (laws_FnDivisors.j0 k bt217.2.2.1 bt217.2.2.2 bt227.1 bt227.2 bt229.1 bt229.2 true bt214.1 bt214.2 bt217.1 bt217.2.1))) else (laws_FnDivisors.j0 k bt217.2.2.1 bt217.2.2.2 bt227.1 bt227.2 bt229.1 bt229.2 true bt214.1 bt214.2 bt217.1 bt217.2.1))))))))) = some true := H
  have A2 := Aside0.mk A20
  clear A20
  by_cases c3 : t213 = true
  · subst c3
    have H1 : (some true) = some true := rfl
    clear H
    have H := H1
    clear H1
    clear H
    go_enter Try.func3, Try.ntmps3
    go_wp2_with (first | ((with_reducible refine gate_callee (f := 14) rfl ?_); refine goesL_ (some 21) rfl rfl Try.func14 (by kernel_rfl) rfl #[.slice A0 l0.length c0] rfl (by (try simp only [List.map_toArray, List.map_cons, List.map_nil]); first | done | rfl | (simp only [List.length_drop, List.length_take]; rfl)) ?_; (with_reducible refine (laws_big.calls _ _ l0 true _ ?side1 ?side2 A2.out).mono ?_); (case side1 => repeat (first | exact HR0.out | (with_reducible refine Kd.C_alloc ?_ _) | (with_reducible refine Kd.C_drewN ?_ _) | (with_reducible refine Kd.C_drew ?_))); (case side2 => exact HC0.out); rintro e w' ⟨rfl, ⟨nd, rfl⟩⟩; refine ⟨_, rfl, ?_⟩))
    go_ret
    exact ⟨by first | rfl | (simp [errW_none, errW_some] <;> rfl) | (simp [*, errW_none, errW_some] <;> rfl), by repeat (first | (with_reducible first | exact HB.out | apply below_alloc | apply pw_below_drewN | apply below_drew1) | exact HB.out)⟩
  · replace c3 := Bool.eq_false_iff.mpr c3
    subst c3
    have H1 : ((spec_DrawPrimitiveVec.f k l0).bind fun bt214 => ((impl_PrimitiveVec.f k bt214.1 bt214.2).bind fun bt217 => ((spec_PrimitiveVec.f k bt214.1 bt214.2).bind fun bt222 => ((spec_DrawDivisorOf.f k l0).bind fun bt227 => ((impl_DivisorOf.f k bt227.1 bt227.2).bind fun bt229 => ((spec_DivisorOf.f k bt227.1 bt227.2).bind fun bt231 => (if bt217.2.2.2 = bt222.2.2.2 then (if (!(bt217.1 == bt222.1) || (!(bt217.2.1 == bt222.2.1))) = true then (laws_FnDivisors.j0 k bt217.2.2.1 bt217.2.2.2 bt227.1 bt227.2 bt229.1 bt229.2 true bt214.1 bt214.2 bt217.1 bt217.2.1) else (if bt217.2.2.1 = bt222.2.2.1 then (if bt229.2 = bt231.2 then (laws_FnDivisors.j0 k bt217.2.2.1 bt217.2.2.2 bt227.1 bt227.2 bt229.1 bt229.2 (bt229.1 != bt231.1) bt214.1 bt214.2 bt217.1 bt217.2.1) else (laws_FnDivisors.j0 k bt217.2.2.1 bt217.2.2.2 bt227.1 bt227.2 bt229.1 bt229.2 true bt214.1 bt214.2 bt217.1 bt217.2.1)) else (laws_FnDivisors.j0 k bt217.2.2.1 bt217.2.2.2 bt227.1 bt227.2 bt229.1 bt229.2 true bt214.1 bt214.2 bt217.1 bt217.2.1))) else (laws_FnDivisors.j0 k bt217.2.2.1 bt217.2.2.2 bt227.1 bt227.2 bt229.1 bt229.2 true bt214.1 bt214.2 bt217.1 bt217.2.1)))))))) = some true := by rw [if_neg (show ¬ (false = true) by decide)] at H; exact H
    clear H
    have H := H1
    clear H1
    replace H := Option.bind_eq_some_iff.mp H
    obtain ⟨⟨t214, t215⟩, A40, H⟩ := H
    replace H : ((impl_PrimitiveVec.f k t214 t215).bind fun bt217 => ((spec_PrimitiveVec.f k t214 t215).bind fun bt222 => ((spec_DrawDivisorOf.f k l0).bind fun bt227 => ((impl_DivisorOf.f k bt227.1 bt227.2).bind fun bt229 => ((spec_DivisorOf.f k bt227.1 bt227.2).bind fun bt231 => (if bt217.2.2.2 = bt222.2.2.2 then (if (!(bt217.1 == bt222.1) || (!(bt217.2.1 == bt222.2.1))) = true then (laws_FnDivisors.j0 k bt217.2.2.1 bt217.2.2.2 bt227.1 bt227.2 bt229.1 bt229.2 true t214 t215 bt217.1 bt217.2.1) else (if bt217.2.2.1 = bt222.2.2.1 then (if bt229.2 = bt231.2 then (laws_FnDivisors.j0 k bt217.2.2.1 bt217.2.2.2 bt227.1 bt227.2 bt229.1 bt229.2 (bt229.1 != bt231.1) t214 t215 bt217.1 bt217.2.1) else (laws_FnDivisors.j0 k bt217.2.2.1 bt217.2.2.2 bt227.1 bt227.2 bt229.1 bt229.2 true t214 t215 bt217.1 bt217.2.1)) else (laws_FnDivisors.j0 k bt217.2.2.1 bt217.2.2.2 bt227.1 bt227.2 bt229.1 bt229.2 true t214 t215 bt217.1 bt217.2.1))) else (laws_FnDivisors.j0 k bt217.2.2.1 bt217.2.2.2 bt227.1 bt227.2 bt229.1 bt229.2 true t214 t215 bt217.1 bt217.2.1))))))) = some true := H
    have A4 := Aside0.mk A40
    clear A40
    replace H := Option.bind_eq_some_iff.mp H
    obtain ⟨⟨t217, t218, t219, t220⟩, A50, H⟩ := H
    replace H : ((spec_PrimitiveVec.f k t214 t215).bind fun bt222 => ((spec_DrawDivisorOf.f k l0).bind fun bt227 => ((impl_DivisorOf.f k bt227.1 bt227.2).bind fun bt229 => ((spec_DivisorOf.f k bt227.1 bt227.2).bind fun bt231 => (if t220 = bt222.2.2.2 then (if (!(t217 == bt222.1) || (!(t218 == bt222.2.1))) = true then (laws_FnDivisors.j0 k t219 t220 bt227.1 bt227.2 bt229.1 bt229.2 true t214 t215 t217 t218) else (if t219 = bt222.2.2.1 then (if bt229.2 = bt231.2 then (laws_FnDivisors.j0 k t219 t220 bt227.1 bt227.2 bt229.1 bt229.2 (bt229.1 != bt231.1) t214 t215 t217 t218) else (laws_FnDivisors.j0 k t219 t220 bt227.1 bt227.2 bt229.1 bt229.2 true t214 t215 t217 t218)) else (laws_FnDivisors.j0 k t219 t220 bt227.1 bt227.2 bt229.1 bt229.2 true t214 t215 t217 t218))) else (laws_FnDivisors.j0 k t219 t220 bt227.1 bt227.2 bt229.1 bt229.2 true t214 t215 t217 t218)))))) = some true := H
    have A5 := Aside0.mk A50
    clear A50
    replace H := Option.bind_eq_some_iff.mp H
    obtain ⟨⟨t222, t223, t224, t225⟩, A60, H⟩ := H
    replace H : ((spec_DrawDivisorOf.f k l0).bind fun bt227 => ((impl_DivisorOf.f k bt227.1 bt227.2).bind fun bt229 => ((spec_DivisorOf.f k bt227.1 bt227.2).bind fun bt231 => (if t220 = t225 then (if (!(t217 == t222) || (!(t218 == t223))) = true then (laws_FnDivisors.j0 k t219 t220 bt227.1 bt227.2 bt229.1 bt229.2 true t214 t215 t217 t218) else (if t219 = t224 then (if bt229.2 = bt231.2 then (laws_FnDivisors.j0 k t219 t220 bt227.1 bt227.2 bt229.1 bt229.2 (bt229.1 != bt231.1) t214 t215 t217 t218) else (laws_FnDivisors.j0 k t219 t220 bt227.1 bt227.2 bt229.1 bt229.2 true t214 t215 t217 t218)) else (laws_FnDivisors.j0 k t219 t220 bt227.1 bt227.2 bt229.1 bt229.2 true t214 t215 t217 t218))) else (laws_FnDivisors.j0 k t219 t220 bt227.1 bt227.2 bt229.1 bt229.2 true t214 t215 t217 t218))))) = some true := H
    have A6 := Aside0.mk A60
    clear A60
    replace H := Option.bind_eq_some_iff.mp H
    obtain ⟨⟨t227, t228⟩, A70, H⟩ := H
    replace H : ((impl_DivisorOf.f k t227 t228).bind fun bt229 => ((spec_DivisorOf.f k t227 t228).bind fun bt231 => (if t220 = t225 then (if (!(t217 == t222) || (!(t218 == t223))) = true then (laws_FnDivisors.j0 k t219 t220 t227 t228 bt229.1 bt229.2 true t214 t215 t217 t218) else (if t219 = t224 then (if bt229.2 = bt231.2 then (laws_FnDivisors.j0 k t219 t220 t227 t228 bt229.1 bt229.2 (bt229.1 != bt231.1) t214 t215 t217 t218) else (laws_FnDivisors.j0 k t219 t220 t227 t228 bt229.1 bt229.2 true t214 t215 t217 t218)) else (laws_FnDivisors.j0 k t219 t220 t227 t228 bt229.1 bt229.2 true t214 t215 t217 t218))) else (laws_FnDivisors.j0 k t219 t220 t227 t228 bt229.1 bt229.2 true t214 t215 t217 t218)))) = some true := H
    have A7 := Aside0.mk A70
    clear A70
    replace H := Option.bind_eq_some_iff.mp H
    obtain ⟨⟨t229, t230⟩, A80, H⟩ := H
    replace H : ((spec_DivisorOf.f k t227 t228).bind fun bt231 => (if t220 = t225 then (if (!(t217 == t222) || (!(t218 == t223))) = true then (laws_FnDivisors.j0 k t219 t220 t227 t228 t229 t230 true t214 t215 t217 t218) else (if t219 = t224 then (if t230 = bt231.2 then (laws_FnDivisors.j0 k t219 t220 t227 t228 t229 t230 (t229 != bt231.1) t214 t215 t217 t218) else (laws_FnDivisors.j0 k t219 t220 t227 t228 t229 t230 true t214 t215 t217 t218)) else (laws_FnDivisors.j0 k t219 t220 t227 t228 t229 t230 true t214 t215 t217 t218))) else (laws_FnDivisors.j0 k t219 t220 t227 t228 t229 t230 true t214 t215 t217 t218))) = some true := H
    have A8 := Aside0.mk A80
    clear A80
    replace H := Option.bind_eq_some_iff.mp H
    obtain ⟨⟨t231, t232⟩, A90, H⟩ := H
    replace H : (if t220 = t225 then (if (!(t217 == t222) || (!(t218 == t223))) = true then (laws_FnDivisors.j0 k t219 t220 t227 t228 t229 t230 true t214 t215 t217 t218) else (if t219 = t224 then (if t230 = t232 then (laws_FnDivisors.j0 k t219 t220 t227 t228 t229 t230 (t229 != t231) t214 t215 t217 t218) else (laws_FnDivisors.j0 k t219 t220 t227 t228 t229 t230 true t214 t215 t217 t218)) else (laws_FnDivisors.j0 k t219 t220 t227 t228 t229 t230 true t214 t215 t217 t218))) else (laws_FnDivisors.j0 k t219 t220 t227 t228 t229 t230 true t214 t215 t217 t218)) = some true := H
    have A9 := Aside0.mk A90
    clear A90
    have HC10 := Aside0.mk H
    clear H
    go_enter Try.func3, Try.ntmps3
    go_upto_region 9 with (first | ((with_reducible refine gate_callee (f := 14) rfl ?_); refine goesL_ (some 21) rfl rfl Try.func14 (by kernel_rfl) rfl #[.slice A0 l0.length c0] rfl (by (try simp only [List.map_toArray, List.map_cons, List.map_nil]); first | done | rfl | (simp only [List.length_drop, List.length_take]; rfl)) ?_; (with_reducible refine (laws_big.calls _ _ l0 false _ ?side1 ?side2 A2.out).mono ?_); (case side1 => repeat (first | exact HR0.out | (with_reducible refine Kd.C_alloc ?_ _) | (with_reducible refine Kd.C_drewN ?_ _) | (with_reducible refine Kd.C_drew ?_))); (case side2 => exact HC0.out); rintro e w' ⟨rfl, ⟨nd, rfl⟩⟩; refine ⟨_, rfl, ?_⟩) | ((with_reducible refine gate_callee (f := 15) rfl ?_); refine goesL_ (some 23) rfl rfl Try.func15 (by kernel_rfl) rfl #[.slice A0 l0.length c0] rfl (by (try simp only [List.map_toArray, List.map_cons, List.map_nil]); first | done | rfl | (simp only [List.length_drop, List.length_take]; rfl)) ?_; (with_reducible refine (spec_DrawPrimitiveVec.calls k _ _ l0 t214 t215 _ ?side1 ?side2 A4.out).mono ?_); (case side1 => repeat (first | exact HR0.out | (with_reducible refine Kd.C_alloc ?_ _) | (with_reducible refine Kd.C_drewN ?_ _) | (with_reducible refine Kd.C_drew ?_))); (case side2 => exact HC0.out); rintro e w11 ⟨rfl, hb⟩; refine ⟨_, rfl, ?_⟩; have n0_ := Aside0.mk (below_step (by repeat (first | (with_reducible first | exact HB.out | apply below_alloc | apply pw_below_drewN | apply below_drew1) | exact HB.out)) hb); clear HB; have HB := n0_; clear n0_; (try clear hb); (try clear hb2); (try clear hk); (try clear hi)) | ((with_reducible refine gate_dst (N := 3) rfl ?_); refine box_event ?hg (N := 3) ?hd (cs := #[.int .i64 0, .int .i64 0]) (t := 25) ?hr ?_; (case hd => rfl); (case hg => rfl); (case hr => first | (go_simp; done) | (go_simp; rfl)); intro gb216 hg w12 hbox hb; have n0_ := Aside0.mk (below_step (by repeat (first | (with_reducible first | exact HB.out | apply below_alloc | apply pw_below_drewN | apply below_drew1) | exact HB.out)) hb); have n1_ := Aside0.mk (hbox); have n2_ := Aside0.mk ((by rw [hg]; exact (below_size (by repeat (first | (with_reducible first | exact HB.out | apply below_alloc | apply pw_below_drewN | apply below_drew1) | exact HB.out))) : w.heap.size ≤ gb216)); have n3_ := Aside0.mk ((by rw [hg]; exact (below_size (by repeat (first | (with_reducible first | exact HB.out | apply below_alloc | apply pw_below_drewN | apply below_drew1) | exact HB.out))) : w.heap.size ≤ gb216)); clear HB; have HB := n0_; have BK216 := n1_; have GW216 := n2_; have GE216 := n3_; clear n0_ n1_ n2_ n3_; clear hb hbox hg; have hcz13_0 : w12.cell? ⟨gb216, 0, none⟩ = some (.int .i64 0) := (blk_cell BK216.out 0).trans rfl; have hcz13_1 : w12.cell? ⟨gb216, 1, none⟩ = some (.int .i64 0) := (blk_cell BK216.out 1).trans rfl; have hfz13_0 := blk_frozen BK216.out 0; have hfz13_1 := blk_frozen BK216.out 1) | ((with_reducible refine gate_callee (f := 16) rfl ?_); refine goesL_ (some 26) rfl rfl Try.func16 (by kernel_rfl) rfl #[.agg #[.int .i64 t214, .int .i64 t215]] rfl (by (try simp only [List.map_toArray, List.map_cons, List.map_nil]); first | done | rfl | (simp only [List.length_drop, List.length_take]; rfl)) ?_; (with_reducible refine (impl_PrimitiveVec.calls k t214 t215 t217 t218 t219 t220 _ A5.out).mono ?_); rintro e w14 ⟨rfl, hb⟩; refine ⟨_, rfl, ?_⟩; have n0_ := Aside0.mk (blk_below (g := gb216) (o := .cells #[.int .i64 t214, .int .i64 t215] 25 (0, 0)) (by (with_reducible repeat (first | refine blk_drewN ?_ _ | refine blk_drew ?_ | refine blk_alloc ?_ _)); refine blk_put (cs := #[.int .i64 t214, .int .i64 0]) ?_ 1 _ rfl; (with_reducible repeat (first | refine blk_drewN ?_ _ | refine blk_drew ?_ | refine blk_alloc ?_ _)); refine blk_put (cs := #[.int .i64 0, .int .i64 0]) ?_ 0 _ rfl; (with_reducible repeat (first | refine blk_drewN ?_ _ | refine blk_drew ?_ | refine blk_alloc ?_ _)); exact BK216.out) hb); have n1_ := Aside0.mk (below_step (by repeat (first | (with_reducible first | exact HB.out | apply below_alloc | apply pw_below_drewN | apply below_drew1 | refine below_set ?_ GE216.out) | exact HB.out)) hb); clear BK216; clear HB; have BK216 := n0_; have HB := n1_; clear n0_ n1_; (try clear hb); (try clear hb2); (try clear hk); (try clear hi)) | ((with_reducible refine gate_dst (N := 4) rfl ?_); refine box_event ?hg (N := 4) ?hd (cs := #[.int .i64 0, .int .i64 0]) (t := 25) ?hr ?_; (case hd => rfl); (case hg => rfl); (case hr => first | (go_simp; done) | (go_simp; rfl)); intro gb221 hg w15 hbox hb; have n0_ := Aside0.mk (blk_below (g := gb216) (o := .cells #[.int .i64 t214, .int .i64 t215] 25 (0, 0)) (by (with_reducible repeat (first | refine blk_drewN ?_ _ | refine blk_drew ?_ | refine blk_alloc ?_ _)); exact BK216.out) hb); have n1_ := Aside0.mk (below_step (by repeat (first | (with_reducible first | exact HB.out | apply below_alloc | apply pw_below_drewN | apply below_drew1 | refine below_set ?_ GE216.out) | exact HB.out)) hb); have n2_ := Aside0.mk (hbox); have n3_ := Aside0.mk ((by rw [hg]; exact (below_size (by repeat (first | (with_reducible first | exact HB.out | apply below_alloc | apply pw_below_drewN | apply below_drew1 | refine below_set ?_ GE216.out) | exact HB.out))) : w.heap.size ≤ gb221)); have n4_ := Aside0.mk ((by rw [hg]; exact (below_size (by repeat (first | (with_reducible first | exact HB.out | apply below_alloc | apply pw_below_drewN | apply below_drew1 | refine below_set ?_ GE216.out) | exact HB.out))) : w.heap.size ≤ gb221)); have n5_ := Aside0.mk ((by rw [hg]; exact Nat.ne_of_lt (blk_lt (g := gb216) (o := .cells #[.int .i64 t214, .int .i64 t215] 25 (0, 0)) (by (with_reducible repeat (first | refine blk_drewN ?_ _ | refine blk_drew ?_ | refine blk_alloc ?_ _)); exact BK216.out)) : gb216 ≠ gb221)); have n6_ := Aside0.mk ((by rw [hg]; exact Nat.ne_of_gt (blk_lt (g := gb216) (o := .cells #[.int .i64 t214, .int .i64 t215] 25 (0, 0)) (by (with_reducible repeat (first | refine blk_drewN ?_ _ | refine blk_drew ?_ | refine blk_alloc ?_ _)); exact BK216.out)) : gb221 ≠ gb216)); clear BK216; clear HB; have BK216 := n0_; have HB := n1_; have BK221 := n2_; have GW221 := n3_; have GE221 := n4_; have NB216_221 := n5_; have NB221_216 := n6_; clear n0_ n1_ n2_ n3_ n4_ n5_ n6_; clear hb hbox hg; have hnb16 := NB221_216.out; have hnc16 := NB216_221.out; have hcz17_0 : w15.cell? ⟨gb221, 0, none⟩ = some (.int .i64 0) := (blk_cell BK221.out 0).trans rfl; have hcz17_1 : w15.cell? ⟨gb221, 1, none⟩ = some (.int .i64 0) := (blk_cell BK221.out 1).trans rfl; have hfz17_0 := blk_frozen BK221.out 0; have hfz17_1 := blk_frozen BK221.out 1; have hcz18_0 : w15.cell? ⟨gb216, 0, none⟩ = some (.int .i64 t214) := (blk_cell BK216.out 0).trans rfl; have hcz18_1 : w15.cell? ⟨gb216, 1, none⟩ = some (.int .i64 t215) := (blk_cell BK216.out 1).trans rfl; have hfz18_0 := blk_frozen BK216.out 0; have hfz18_1 := blk_frozen BK216.out 1) | ((with_reducible refine gate_callee (f := 17) rfl ?_); refine goesL_ (some 32) rfl rfl Try.func17 (by kernel_rfl) rfl #[.agg #[.int .i64 t214, .int .i64 t215]] rfl (by (try simp only [List.map_toArray, List.map_cons, List.map_nil]); first | done | rfl | (simp only [List.length_drop, List.length_take]; rfl)) ?_; (with_reducible refine (spec_PrimitiveVec.calls k t214 t215 t222 t223 t224 t225 _ A6.out).mono ?_); rintro e w19 ⟨rfl, hb⟩; refine ⟨_, rfl, ?_⟩; have n0_ := Aside0.mk (blk_below (g := gb216) (o := .cells #[.int .i64 t214, .int .i64 t215] 25 (0, 0)) (by (with_reducible repeat (first | refine blk_drewN ?_ _ | refine blk_drew ?_ | refine blk_alloc ?_ _)); refine blk_far ?_ NB216_221.out _; (with_reducible repeat (first | refine blk_drewN ?_ _ | refine blk_drew ?_ | refine blk_alloc ?_ _)); refine blk_far ?_ NB216_221.out _; (with_reducible repeat (first | refine blk_drewN ?_ _ | refine blk_drew ?_ | refine blk_alloc ?_ _)); exact BK216.out) hb); have n1_ := Aside0.mk (blk_below (g := gb221) (o := .cells #[.int .i64 t217, .int .i64 t218] 25 (0, 0)) (by (with_reducible repeat (first | refine blk_drewN ?_ _ | refine blk_drew ?_ | refine blk_alloc ?_ _)); refine blk_put (cs := #[.int .i64 t217, .int .i64 0]) ?_ 1 _ rfl; (with_reducible repeat (first | refine blk_drewN ?_ _ | refine blk_drew ?_ | refine blk_alloc ?_ _)); refine blk_put (cs := #[.int .i64 0, .int .i64 0]) ?_ 0 _ rfl; (with_reducible repeat (first | refine blk_drewN ?_ _ | refine blk_drew ?_ | refine blk_alloc ?_ _)); exact BK221.out) hb); have n2_ := Aside0.mk (below_step (by repeat (first | (with_reducible first | exact HB.out | apply below_alloc | apply pw_below_drewN | apply below_drew1 | refine below_set ?_ GE216.out | refine below_set ?_ GE221.out) | exact HB.out)) hb); clear BK216; clear BK221; clear HB; have BK216 := n0_; have BK221 := n1_; have HB := n2_; clear n0_ n1_ n2_; (try clear hb); (try clear hb2); (try clear hk); (try clear hi)) | ((with_reducible refine gate_dst (N := 7) rfl ?_); refine box_event ?hg (N := 7) ?hd (cs := #[.int .i64 0, .int .i64 0]) (t := 25) ?hr ?_; (case hd => rfl); (case hg => rfl); (case hr => first | (go_simp; done) | (go_simp; rfl)); intro gb226 hg w20 hbox hb; have n0_ := Aside0.mk (blk_below (g := gb216) (o := .cells #[.int .i64 t214, .int .i64 t215] 25 (0, 0)) (by (with_reducible repeat (first | refine blk_drewN ?_ _ | refine blk_drew ?_ | refine blk_alloc ?_ _)); exact BK216.out) hb); have n1_ := Aside0.mk (blk_below (g := gb221) (o := .cells #[.int .i64 t217, .int .i64 t218] 25 (0, 0)) (by (with_reducible repeat (first | refine blk_drewN ?_ _ | refine blk_drew ?_ | refine blk_alloc ?_ _)); exact BK221.out) hb); have n2_ := Aside0.mk (below_step (by repeat (first | (with_reducible first | exact HB.out | apply below_alloc | apply pw_below_drewN | apply below_drew1 | refine below_set ?_ GE216.out | refine below_set ?_ GE221.out) | exact HB.out)) hb); have n3_ := Aside0.mk (hbox); have n4_ := Aside0.mk ((by rw [hg]; exact (below_size (by repeat (first | (with_reducible first | exact HB.out | apply below_alloc | apply pw_below_drewN | apply below_drew1 | refine below_set ?_ GE216.out | refine below_set ?_ GE221.out) | exact HB.out))) : w.heap.size ≤ gb226)); have n5_ := Aside0.mk ((by rw [hg]; exact (below_size (by repeat (first | (with_reducible first | exact HB.out | apply below_alloc | apply pw_below_drewN | apply below_drew1 | refine below_set ?_ GE216.out | refine below_set ?_ GE221.out) | exact HB.out))) : w.heap.size ≤ gb226)); have n6_ := Aside0.mk ((by rw [hg]; exact Nat.ne_of_lt (blk_lt (g := gb216) (o := .cells #[.int .i64 t214, .int .i64 t215] 25 (0, 0)) (by (with_reducible repeat (first | refine blk_drewN ?_ _ | refine blk_drew ?_ | refine blk_alloc ?_ _)); exact BK216.out)) : gb216 ≠ gb226)); have n7_ := Aside0.mk ((by rw [hg]; exact Nat.ne_of_gt (blk_lt (g := gb216) (o := .cells #[.int .i64 t214, .int .i64 t215] 25 (0, 0)) (by (with_reducible repeat (first | refine blk_drewN ?_ _ | refine blk_drew ?_ | refine blk_alloc ?_ _)); exact BK216.out)) : gb226 ≠ gb216)); have n8_ := Aside0.mk ((by rw [hg]; exact Nat.ne_of_lt (blk_lt (g := gb221) (o := .cells #[.int .i64 t217, .int .i64 t218] 25 (0, 0)) (by (with_reducible repeat (first | refine blk_drewN ?_ _ | refine blk_drew ?_ | refine blk_alloc ?_ _)); exact BK221.out)) : gb221 ≠ gb226)); have n9_ := Aside0.mk ((by rw [hg]; exact Nat.ne_of_gt (blk_lt (g := gb221) (o := .cells #[.int .i64 t217, .int .i64 t218] 25 (0, 0)) (by (with_reducible repeat (first | refine blk_drewN ?_ _ | refine blk_drew ?_ | refine blk_alloc ?_ _)); exact BK221.out)) : gb226 ≠ gb221)); clear BK216; clear BK221; clear HB; have BK216 := n0_; have BK221 := n1_; have HB := n2_; have BK226 := n3_; have GW226 := n4_; have GE226 := n5_; have NB216_226 := n6_; have NB226_216 := n7_; have NB221_226 := n8_; have NB226_221 := n9_; clear n0_ n1_ n2_ n3_ n4_ n5_ n6_ n7_ n8_ n9_; clear hb hbox hg; have hnb21 := NB226_216.out; have hnc21 := NB216_226.out; have hnb22 := NB226_221.out; have hnc22 := NB221_226.out; have hcz23_0 : w20.cell? ⟨gb226, 0, none⟩ = some (.int .i64 0) := (blk_cell BK226.out 0).trans rfl; have hcz23_1 : w20.cell? ⟨gb226, 1, none⟩ = some (.int .i64 0) := (blk_cell BK226.out 1).trans rfl; have hfz23_0 := blk_frozen BK226.out 0; have hfz23_1 := blk_frozen BK226.out 1) | ((with_reducible refine gate_callee (f := 18) rfl ?_); refine goesL_ (some 38) rfl rfl Try.func18 (by kernel_rfl) rfl #[.slice A0 l0.length c0] rfl (by (try simp only [List.map_toArray, List.map_cons, List.map_nil]); first | done | rfl | (simp only [List.length_drop, List.length_take]; rfl)) ?_; (with_reducible refine (spec_DrawDivisorOf.calls k _ _ l0 t227 t228 _ ?side1 ?side2 A7.out).mono ?_); (case side1 => exact Kd.C_below HR0.out (by repeat (first | (with_reducible first | exact HB.out | apply below_alloc | apply pw_below_drewN | apply below_drew1 | refine below_set ?_ GE216.out | refine below_set ?_ GE221.out | refine below_set ?_ GE226.out) | exact HB.out))); (case side2 => exact HC0.out); rintro e w24 ⟨rfl, hb⟩; refine ⟨_, rfl, ?_⟩; have n0_ := Aside0.mk (blk_below (g := gb216) (o := .cells #[.int .i64 t214, .int .i64 t215] 25 (0, 0)) (by (with_reducible repeat (first | refine blk_drewN ?_ _ | refine blk_drew ?_ | refine blk_alloc ?_ _)); refine blk_far ?_ NB216_226.out _; (with_reducible repeat (first | refine blk_drewN ?_ _ | refine blk_drew ?_ | refine blk_alloc ?_ _)); refine blk_far ?_ NB216_226.out _; (with_reducible repeat (first | refine blk_drewN ?_ _ | refine blk_drew ?_ | refine blk_alloc ?_ _)); exact BK216.out) hb); have n1_ := Aside0.mk (blk_below (g := gb221) (o := .cells #[.int .i64 t217, .int .i64 t218] 25 (0, 0)) (by (with_reducible repeat (first | refine blk_drewN ?_ _ | refine blk_drew ?_ | refine blk_alloc ?_ _)); refine blk_far ?_ NB221_226.out _; (with_reducible repeat (first | refine blk_drewN ?_ _ | refine blk_drew ?_ | refine blk_alloc ?_ _)); refine blk_far ?_ NB221_226.out _; (with_reducible repeat (first | refine blk_drewN ?_ _ | refine blk_drew ?_ | refine blk_alloc ?_ _)); exact BK221.out) hb); have n2_ := Aside0.mk (blk_below (g := gb226) (o := .cells #[.int .i64 t222, .int .i64 t223] 25 (0, 0)) (by (with_reducible repeat (first | refine blk_drewN ?_ _ | refine blk_drew ?_ | refine blk_alloc ?_ _)); refine blk_put (cs := #[.int .i64 t222, .int .i64 0]) ?_ 1 _ rfl; (with_reducible repeat (first | refine blk_drewN ?_ _ | refine blk_drew ?_ | refine blk_alloc ?_ _)); refine blk_put (cs := #[.int .i64 0, .int .i64 0]) ?_ 0 _ rfl; (with_reducible repeat (first | refine blk_drewN ?_ _ | refine blk_drew ?_ | refine blk_alloc ?_ _)); exact BK226.out) hb); have n3_ := Aside0.mk (below_step (by repeat (first | (with_reducible first | exact HB.out | apply below_alloc | apply pw_below_drewN | apply below_drew1 | refine below_set ?_ GE216.out | refine below_set ?_ GE221.out | refine below_set ?_ GE226.out) | exact HB.out)) hb); clear BK216; clear BK221; clear BK226; clear HB; have BK216 := n0_; have BK221 := n1_; have BK226 := n2_; have HB := n3_; clear n0_ n1_ n2_ n3_; (try clear hb); (try clear hb2); (try clear hk); (try clear hi)) | ((with_reducible refine gate_callee (f := 19) rfl ?_); refine goesL_ (some 44) rfl rfl Try.func19 (by kernel_rfl) rfl #[.int .i64 t227, .int .i64 t228] rfl (by (try simp only [List.map_toArray, List.map_cons, List.map_nil]); first | done | rfl | (simp only [List.length_drop, List.length_take]; rfl)) ?_; (with_reducible refine (impl_DivisorOf.calls k t227 t228 t229 t230 _ A8.out).mono ?_); rintro e w25 ⟨rfl, hb⟩; refine ⟨_, rfl, ?_⟩; have n0_ := Aside0.mk (blk_below (g := gb216) (o := .cells #[.int .i64 t214, .int .i64 t215] 25 (0, 0)) (by (with_reducible repeat (first | refine blk_drewN ?_ _ | refine blk_drew ?_ | refine blk_alloc ?_ _)); exact BK216.out) hb); have n1_ := Aside0.mk (blk_below (g := gb221) (o := .cells #[.int .i64 t217, .int .i64 t218] 25 (0, 0)) (by (with_reducible repeat (first | refine blk_drewN ?_ _ | refine blk_drew ?_ | refine blk_alloc ?_ _)); exact BK221.out) hb); have n2_ := Aside0.mk (blk_below (g := gb226) (o := .cells #[.int .i64 t222, .int .i64 t223] 25 (0, 0)) (by (with_reducible repeat (first | refine blk_drewN ?_ _ | refine blk_drew ?_ | refine blk_alloc ?_ _)); exact BK226.out) hb); have n3_ := Aside0.mk (below_step (by repeat (first | (with_reducible first | exact HB.out | apply below_alloc | apply pw_below_drewN | apply below_drew1 | refine below_set ?_ GE216.out | refine below_set ?_ GE221.out | refine below_set ?_ GE226.out) | exact HB.out)) hb); clear BK216; clear BK221; clear BK226; clear HB; have BK216 := n0_; have BK221 := n1_; have BK226 := n2_; have HB := n3_; clear n0_ n1_ n2_ n3_; (try clear hb); (try clear hb2); (try clear hk); (try clear hi)) | ((with_reducible refine gate_callee (f := 20) rfl ?_); refine goesL_ (some 50) rfl rfl Try.func20 (by kernel_rfl) rfl #[.int .i64 t227, .int .i64 t228] rfl (by (try simp only [List.map_toArray, List.map_cons, List.map_nil]); first | done | rfl | (simp only [List.length_drop, List.length_take]; rfl)) ?_; (with_reducible refine (spec_DivisorOf.calls k t227 t228 t231 t232 _ A9.out).mono ?_); rintro e w26 ⟨rfl, hb⟩; refine ⟨_, rfl, ?_⟩; have n0_ := Aside0.mk (blk_below (g := gb216) (o := .cells #[.int .i64 t214, .int .i64 t215] 25 (0, 0)) (by (with_reducible repeat (first | refine blk_drewN ?_ _ | refine blk_drew ?_ | refine blk_alloc ?_ _)); exact BK216.out) hb); have n1_ := Aside0.mk (blk_below (g := gb221) (o := .cells #[.int .i64 t217, .int .i64 t218] 25 (0, 0)) (by (with_reducible repeat (first | refine blk_drewN ?_ _ | refine blk_drew ?_ | refine blk_alloc ?_ _)); exact BK221.out) hb); have n2_ := Aside0.mk (blk_below (g := gb226) (o := .cells #[.int .i64 t222, .int .i64 t223] 25 (0, 0)) (by (with_reducible repeat (first | refine blk_drewN ?_ _ | refine blk_drew ?_ | refine blk_alloc ?_ _)); exact BK226.out) hb); have n3_ := Aside0.mk (below_step (by repeat (first | (with_reducible first | exact HB.out | apply below_alloc | apply pw_below_drewN | apply below_drew1 | refine below_set ?_ GE216.out | refine below_set ?_ GE221.out | refine below_set ?_ GE226.out) | exact HB.out)) hb); clear BK216; clear BK221; clear BK226; clear HB; have BK216 := n0_; have BK221 := n1_; have BK226 := n2_; have HB := n3_; clear n0_ n1_ n2_ n3_; (try clear hb); (try clear hb2); (try clear hk); (try clear hi)))
    (try simp only [Act.put, List.setIfInBounds_toArray, List.set_cons_zero, List.set_cons_succ])
    go_cut [75] (fun v75 wc => ∃ (kq : Nat) (x75_9 : Bool), v75 = .bool x75_9 ∧ Aside0 (laws_FnDivisors.j0 kq t219 t220 t227 t228 t229 t230 x75_9 t214 t215 t217 t218 = some true) ∧ Aside0 (kq ≤ k) ∧ Aside0 (wc.heap[gb216]? = some (.cells #[.int .i64 t214, .int .i64 t215] 25 (0, 0))) ∧ Aside0 (wc.heap[gb221]? = some (.cells #[.int .i64 t217, .int .i64 t218] 25 (0, 0))) ∧ Aside0 (wc.heap[gb226]? = some (.cells #[.int .i64 t222, .int .i64 t223] 25 (0, 0))) ∧ Aside0 (Below w.heap.size w wc))
    case first =>
      have H := HC10.out
      clear HC10
      by_cases c27 : t220 = t225
      · rw [if_pos c27] at H
        have c27b0 : (t220 == t225) = true := beq_iff_eq.mpr c27
        have c27b1 : (t220 != t225) = false := bne_eq_false_iff_eq.mpr c27
        clear c27
        (first | rw [c27b0] | (simp only [i64_w, i32_w]; rw [c27b0]) | skip)
        by_cases c28 : (!(t217 == t222) || (!(t218 == t223))) = true
        · rw [if_pos c28] at H
          have c28b0 : (!(t217 == t222) || (!(t218 == t223))) = true := c28
          clear c28
          have H' := Aside0.mk H
          clear H
          have hnb29 := NB221_216.out
          have hnc29 := NB216_221.out
          have hnb30 := NB221_226.out
          have hnc30 := NB226_221.out
          have hcz31_0 : w26.cell? ⟨gb221, 0, none⟩ = some (.int .i64 t217) := (blk_cell BK221.out 0).trans rfl
          have hcz31_1 : w26.cell? ⟨gb221, 1, none⟩ = some (.int .i64 t218) := (blk_cell BK221.out 1).trans rfl
          have hfz31_0 := blk_frozen BK221.out 0
          have hfz31_1 := blk_frozen BK221.out 1
          have hnb32 := NB226_216.out
          have hnc32 := NB216_226.out
          have hcz33_0 : w26.cell? ⟨gb226, 0, none⟩ = some (.int .i64 t222) := (blk_cell BK226.out 0).trans rfl
          have hcz33_1 : w26.cell? ⟨gb226, 1, none⟩ = some (.int .i64 t223) := (blk_cell BK226.out 1).trans rfl
          have hfz33_0 := blk_frozen BK226.out 0
          have hfz33_1 := blk_frozen BK226.out 1
          go_wp2
          go_meet
          case rel => exact ⟨_, (true), (by first | rfl | (simp; done) | (simp [*]; done)), H', ⟨by first | omega | exact Nat.le_refl _⟩, ⟨by (with_reducible repeat (first | refine blk_drewN ?_ _ | refine blk_drew ?_ | refine blk_alloc ?_ _)); exact BK216.out⟩, ⟨by (with_reducible repeat (first | refine blk_drewN ?_ _ | refine blk_drew ?_ | refine blk_alloc ?_ _)); exact BK221.out⟩, ⟨by (with_reducible repeat (first | refine blk_drewN ?_ _ | refine blk_drew ?_ | refine blk_alloc ?_ _)); exact BK226.out⟩, ⟨by repeat (first | (with_reducible first | exact HB.out | apply below_alloc | apply pw_below_drewN | apply below_drew1 | refine below_set ?_ GE216.out | refine below_set ?_ GE221.out | refine below_set ?_ GE226.out) | exact HB.out)⟩⟩
        · rw [if_neg c28] at H
          have c28b0 : (!(t217 == t222) || (!(t218 == t223))) = false := by simpa using c28
          clear c28
          by_cases c34 : t219 = t224
          · rw [if_pos c34] at H
            have c34b0 : (t219 == t224) = true := beq_iff_eq.mpr c34
            have c34b1 : (t219 != t224) = false := bne_eq_false_iff_eq.mpr c34
            clear c34
            by_cases c35 : t230 = t232
            · rw [if_pos c35] at H
              have c35b0 : (t230 == t232) = true := beq_iff_eq.mpr c35
              have c35b1 : (t230 != t232) = false := bne_eq_false_iff_eq.mpr c35
              clear c35
              have H' := Aside0.mk H
              clear H
              have hnb36 := NB221_216.out
              have hnc36 := NB216_221.out
              have hnb37 := NB221_226.out
              have hnc37 := NB226_221.out
              have hcz38_0 : w26.cell? ⟨gb221, 0, none⟩ = some (.int .i64 t217) := (blk_cell BK221.out 0).trans rfl
              have hcz38_1 : w26.cell? ⟨gb221, 1, none⟩ = some (.int .i64 t218) := (blk_cell BK221.out 1).trans rfl
              have hfz38_0 := blk_frozen BK221.out 0
              have hfz38_1 := blk_frozen BK221.out 1
              have hnb39 := NB226_216.out
              have hnc39 := NB216_226.out
              have hcz40_0 : w26.cell? ⟨gb226, 0, none⟩ = some (.int .i64 t222) := (blk_cell BK226.out 0).trans rfl
              have hcz40_1 : w26.cell? ⟨gb226, 1, none⟩ = some (.int .i64 t223) := (blk_cell BK226.out 1).trans rfl
              have hfz40_0 := blk_frozen BK226.out 0
              have hfz40_1 := blk_frozen BK226.out 1
              go_wp2
              go_meet
              case rel => exact ⟨_, ((t229 != t231)), (by first | rfl | (simp; done) | (simp [*]; done)), H', ⟨by first | omega | exact Nat.le_refl _⟩, ⟨by (with_reducible repeat (first | refine blk_drewN ?_ _ | refine blk_drew ?_ | refine blk_alloc ?_ _)); exact BK216.out⟩, ⟨by (with_reducible repeat (first | refine blk_drewN ?_ _ | refine blk_drew ?_ | refine blk_alloc ?_ _)); exact BK221.out⟩, ⟨by (with_reducible repeat (first | refine blk_drewN ?_ _ | refine blk_drew ?_ | refine blk_alloc ?_ _)); exact BK226.out⟩, ⟨by repeat (first | (with_reducible first | exact HB.out | apply below_alloc | apply pw_below_drewN | apply below_drew1 | refine below_set ?_ GE216.out | refine below_set ?_ GE221.out | refine below_set ?_ GE226.out) | exact HB.out)⟩⟩
            · rw [if_neg c35] at H
              have c35b0 : (t230 == t232) = false := beq_eq_false_iff_ne.mpr c35
              have c35b1 : (t230 != t232) = true := bne_iff_ne.mpr c35
              have H' := Aside0.mk H
              clear H
              have hnb41 := NB221_216.out
              have hnc41 := NB216_221.out
              have hnb42 := NB221_226.out
              have hnc42 := NB226_221.out
              have hcz43_0 : w26.cell? ⟨gb221, 0, none⟩ = some (.int .i64 t217) := (blk_cell BK221.out 0).trans rfl
              have hcz43_1 : w26.cell? ⟨gb221, 1, none⟩ = some (.int .i64 t218) := (blk_cell BK221.out 1).trans rfl
              have hfz43_0 := blk_frozen BK221.out 0
              have hfz43_1 := blk_frozen BK221.out 1
              have hnb44 := NB226_216.out
              have hnc44 := NB216_226.out
              have hcz45_0 : w26.cell? ⟨gb226, 0, none⟩ = some (.int .i64 t222) := (blk_cell BK226.out 0).trans rfl
              have hcz45_1 : w26.cell? ⟨gb226, 1, none⟩ = some (.int .i64 t223) := (blk_cell BK226.out 1).trans rfl
              have hfz45_0 := blk_frozen BK226.out 0
              have hfz45_1 := blk_frozen BK226.out 1
              go_wp2
              go_meet
              case rel => exact ⟨_, (true), (by first | rfl | (simp; done) | (simp [*]; done)), H', ⟨by first | omega | exact Nat.le_refl _⟩, ⟨by (with_reducible repeat (first | refine blk_drewN ?_ _ | refine blk_drew ?_ | refine blk_alloc ?_ _)); exact BK216.out⟩, ⟨by (with_reducible repeat (first | refine blk_drewN ?_ _ | refine blk_drew ?_ | refine blk_alloc ?_ _)); exact BK221.out⟩, ⟨by (with_reducible repeat (first | refine blk_drewN ?_ _ | refine blk_drew ?_ | refine blk_alloc ?_ _)); exact BK226.out⟩, ⟨by repeat (first | (with_reducible first | exact HB.out | apply below_alloc | apply pw_below_drewN | apply below_drew1 | refine below_set ?_ GE216.out | refine below_set ?_ GE221.out | refine below_set ?_ GE226.out) | exact HB.out)⟩⟩
          · rw [if_neg c34] at H
            have c34b0 : (t219 == t224) = false := beq_eq_false_iff_ne.mpr c34
            have c34b1 : (t219 != t224) = true := bne_iff_ne.mpr c34
            have H' := Aside0.mk H
            clear H
            have hnb46 := NB221_216.out
            have hnc46 := NB216_221.out
            have hnb47 := NB221_226.out
            have hnc47 := NB226_221.out
            have hcz48_0 : w26.cell? ⟨gb221, 0, none⟩ = some (.int .i64 t217) := (blk_cell BK221.out 0).trans rfl
            have hcz48_1 : w26.cell? ⟨gb221, 1, none⟩ = some (.int .i64 t218) := (blk_cell BK221.out 1).trans rfl
            have hfz48_0 := blk_frozen BK221.out 0
            have hfz48_1 := blk_frozen BK221.out 1
            have hnb49 := NB226_216.out
            have hnc49 := NB216_226.out
            have hcz50_0 : w26.cell? ⟨gb226, 0, none⟩ = some (.int .i64 t222) := (blk_cell BK226.out 0).trans rfl
            have hcz50_1 : w26.cell? ⟨gb226, 1, none⟩ = some (.int .i64 t223) := (blk_cell BK226.out 1).trans rfl
            have hfz50_0 := blk_frozen BK226.out 0
            have hfz50_1 := blk_frozen BK226.out 1
            go_wp2
            go_meet
            case rel => exact ⟨_, (true), (by first | rfl | (simp; done) | (simp [*]; done)), H', ⟨by first | omega | exact Nat.le_refl _⟩, ⟨by (with_reducible repeat (first | refine blk_drewN ?_ _ | refine blk_drew ?_ | refine blk_alloc ?_ _)); exact BK216.out⟩, ⟨by (with_reducible repeat (first | refine blk_drewN ?_ _ | refine blk_drew ?_ | refine blk_alloc ?_ _)); exact BK221.out⟩, ⟨by (with_reducible repeat (first | refine blk_drewN ?_ _ | refine blk_drew ?_ | refine blk_alloc ?_ _)); exact BK226.out⟩, ⟨by repeat (first | (with_reducible first | exact HB.out | apply below_alloc | apply pw_below_drewN | apply below_drew1 | refine below_set ?_ GE216.out | refine below_set ?_ GE221.out | refine below_set ?_ GE226.out) | exact HB.out)⟩⟩
      · rw [if_neg c27] at H
        have c27b0 : (t220 == t225) = false := beq_eq_false_iff_ne.mpr c27
        have c27b1 : (t220 != t225) = true := bne_iff_ne.mpr c27
        (first | rw [c27b0] | (simp only [i64_w, i32_w]; rw [c27b0]) | skip)
        have H' := Aside0.mk H
        clear H
        go_wp2
        go_meet
        case rel => exact ⟨_, (true), (by first | rfl | (simp; done) | (simp [*]; done)), H', ⟨by first | omega | exact Nat.le_refl _⟩, ⟨by (with_reducible repeat (first | refine blk_drewN ?_ _ | refine blk_drew ?_ | refine blk_alloc ?_ _)); exact BK216.out⟩, ⟨by (with_reducible repeat (first | refine blk_drewN ?_ _ | refine blk_drew ?_ | refine blk_alloc ?_ _)); exact BK221.out⟩, ⟨by (with_reducible repeat (first | refine blk_drewN ?_ _ | refine blk_drew ?_ | refine blk_alloc ?_ _)); exact BK226.out⟩, ⟨by repeat (first | (with_reducible first | exact HB.out | apply below_alloc | apply pw_below_drewN | apply below_drew1 | refine below_set ?_ GE216.out | refine below_set ?_ GE221.out | refine below_set ?_ GE226.out) | exact HB.out)⟩⟩
    case rest =>
      clear HC10
      try clear c1
      try clear c2
      try clear p2
      try clear c3
      try clear c4
      try clear c14
      try clear c15
      try clear c16
      try clear c17
      try clear c18
      try clear c19
      try clear c20
      try clear c21
      try clear c22
      try clear c27
      try clear c27b0
      try clear c27b1
      try clear c28
      try clear c28b0
      try clear c29
      try clear c30
      try clear c32
      try clear c34
      try clear c34b0
      try clear c34b1
      try clear c35
      try clear c35b0
      try clear c35b1
      try clear c36
      try clear c37
      try clear c39
      try clear c41
      try clear c42
      try clear c44
      try clear c46
      try clear c47
      try clear c49
      try clear hcz13_0
      try clear hcz13_1
      try clear hcz17_0
      try clear hcz17_1
      try clear hcz18_0
      try clear hcz18_1
      try clear hcz23_0
      try clear hcz23_1
      try clear hcz31_0
      try clear hcz31_1
      try clear hcz33_0
      try clear hcz33_1
      try clear hcz38_0
      try clear hcz38_1
      try clear hcz40_0
      try clear hcz40_1
      try clear hcz43_0
      try clear hcz43_1
      try clear hcz45_0
      try clear hcz45_1
      try clear hcz48_0
      try clear hcz48_1
      try clear hcz50_0
      try clear hcz50_1
      try clear hfz13_0
      try clear hfz13_1
      try clear hfz17_0
      try clear hfz17_1
      try clear hfz18_0
      try clear hfz18_1
      try clear hfz23_0
      try clear hfz23_1
      try clear hfz31_0
      try clear hfz31_1
      try clear hfz33_0
      try clear hfz33_1
      try clear hfz38_0
      try clear hfz38_1
      try clear hfz40_0
      try clear hfz40_1
      try clear hfz43_0
      try clear hfz43_1
      try clear hfz45_0
      try clear hfz45_1
      try clear hfz48_0
      try clear hfz48_1
      try clear hfz50_0
      try clear hfz50_1
      obtain ⟨kq, x75_9, rfl, HA, HJ9, BK216, BK221, BK226, HB⟩ := hcut
      cases kq with
      | zero => exact absurd HA.out (by simp [laws_FnDivisors.j0])
      | succ kj9 =>
        have H := HA.out
        clear HA
        simp only [laws_FnDivisors.j0] at H
        by_cases c51 : x75_9 = true
        · subst c51
          have H1 : (some false) = some true := by rw [if_pos rfl] at H; exact H
          clear H
          have H := H1
          clear H1
          exact absurd (Option.some.inj H) (by decide)
        · replace c51 := Bool.eq_false_iff.mpr c51
          subst c51
          have H1 : (if t230 = 0 then (if t229 > 0 then (if t229 = 0 then (none) else (if (Int.tmod t227 t229) = 0 then (laws_FnDivisors.j1 kj9 t219 t220 ((Int.tmod t228 t229) != 0) t214 t215 t217 t218) else (laws_FnDivisors.j1 kj9 t219 t220 true t214 t215 t217 t218))) else (laws_FnDivisors.j1 kj9 t219 t220 false t214 t215 t217 t218)) else (laws_FnDivisors.j1 kj9 t219 t220 false t214 t215 t217 t218)) = some true := by rw [if_neg (show ¬ (false = true) by decide)] at H; exact H
          clear H
          have H := H1
          clear H1
          have HC52 := Aside0.mk H
          clear H
          go_upto_region 11 with (fail)
          go_cut [93] (fun v93 wc => ∃ (kq : Nat) (x93_51 : Bool), v93 = .bool x93_51 ∧ Aside0 (laws_FnDivisors.j1 kq t219 t220 x93_51 t214 t215 t217 t218 = some true) ∧ Aside0 (kq ≤ kj9) ∧ Aside0 (wc.heap[gb216]? = some (.cells #[.int .i64 t214, .int .i64 t215] 25 (0, 0))) ∧ Aside0 (wc.heap[gb221]? = some (.cells #[.int .i64 t217, .int .i64 t218] 25 (0, 0))) ∧ Aside0 (wc.heap[gb226]? = some (.cells #[.int .i64 t222, .int .i64 t223] 25 (0, 0))) ∧ Aside0 (Below w.heap.size w wc))
          case first =>
            have H := HC52.out
            clear HC52
            by_cases c53 : t230 = 0
            · rw [if_pos c53] at H
              have c53b0 : (t230 == 0) = true := beq_iff_eq.mpr c53
              have c53b1 : (t230 != 0) = false := bne_eq_false_iff_eq.mpr c53
              clear c53
              (first | rw [c53b0] | (simp only [i64_w, i32_w]; rw [c53b0]) | skip)
              by_cases c54 : t229 > 0
              · rw [if_pos c54] at H
                have c54b0 : decide (0 < t229) = true := decide_eq_true c54
                clear c54
                by_cases c55 : t229 = 0
                · rw [if_pos c55] at H
                  exact absurd H (by simp)
                · rw [if_neg c55] at H
                  have c55b0 : (t229 == 0) = false := beq_eq_false_iff_ne.mpr c55
                  have c55b1 : (t229 != 0) = true := bne_iff_ne.mpr c55
                  by_cases c56 : (Int.tmod t227 t229) = 0
                  · rw [if_pos c56] at H
                    have c56b0 : ((Int.tmod t227 t229) == 0) = true := beq_iff_eq.mpr c56
                    have c56b1 : ((Int.tmod t227 t229) != 0) = false := bne_eq_false_iff_eq.mpr c56
                    clear c56
                    have H' := Aside0.mk H
                    clear H
                    go_wp2
                    go_meet
                    case rel => exact ⟨_, (((Int.tmod t228 t229) != 0)), (by first | rfl | (simp; done) | (simp [*]; done)), H', ⟨by have := HJ9.out; first | omega | exact Nat.le_refl _⟩, ⟨by (with_reducible repeat (first | refine blk_drewN ?_ _ | refine blk_drew ?_ | refine blk_alloc ?_ _)); exact BK216.out⟩, ⟨by (with_reducible repeat (first | refine blk_drewN ?_ _ | refine blk_drew ?_ | refine blk_alloc ?_ _)); exact BK221.out⟩, ⟨by (with_reducible repeat (first | refine blk_drewN ?_ _ | refine blk_drew ?_ | refine blk_alloc ?_ _)); exact BK226.out⟩, ⟨by repeat (first | (with_reducible first | exact HB.out | apply below_alloc | apply pw_below_drewN | apply below_drew1 | refine below_set ?_ GE216.out | refine below_set ?_ GE221.out | refine below_set ?_ GE226.out) | exact HB.out)⟩⟩
                  · rw [if_neg c56] at H
                    have c56b0 : ((Int.tmod t227 t229) == 0) = false := beq_eq_false_iff_ne.mpr c56
                    have c56b1 : ((Int.tmod t227 t229) != 0) = true := bne_iff_ne.mpr c56
                    have H' := Aside0.mk H
                    clear H
                    go_wp2
                    go_meet
                    case rel => exact ⟨_, (true), (by first | rfl | (simp; done) | (simp [*]; done)), H', ⟨by have := HJ9.out; first | omega | exact Nat.le_refl _⟩, ⟨by (with_reducible repeat (first | refine blk_drewN ?_ _ | refine blk_drew ?_ | refine blk_alloc ?_ _)); exact BK216.out⟩, ⟨by (with_reducible repeat (first | refine blk_drewN ?_ _ | refine blk_drew ?_ | refine blk_alloc ?_ _)); exact BK221.out⟩, ⟨by (with_reducible repeat (first | refine blk_drewN ?_ _ | refine blk_drew ?_ | refine blk_alloc ?_ _)); exact BK226.out⟩, ⟨by repeat (first | (with_reducible first | exact HB.out | apply below_alloc | apply pw_below_drewN | apply below_drew1 | refine below_set ?_ GE216.out | refine below_set ?_ GE221.out | refine below_set ?_ GE226.out) | exact HB.out)⟩⟩
              · rw [if_neg c54] at H
                have c54b0 : decide (0 < t229) = false := decide_eq_false c54
                clear c54
                have H' := Aside0.mk H
                clear H
                go_wp2
                go_meet
                case rel => exact ⟨_, (false), (by first | rfl | (simp; done) | (simp [*]; done)), H', ⟨by have := HJ9.out; first | omega | exact Nat.le_refl _⟩, ⟨by (with_reducible repeat (first | refine blk_drewN ?_ _ | refine blk_drew ?_ | refine blk_alloc ?_ _)); exact BK216.out⟩, ⟨by (with_reducible repeat (first | refine blk_drewN ?_ _ | refine blk_drew ?_ | refine blk_alloc ?_ _)); exact BK221.out⟩, ⟨by (with_reducible repeat (first | refine blk_drewN ?_ _ | refine blk_drew ?_ | refine blk_alloc ?_ _)); exact BK226.out⟩, ⟨by repeat (first | (with_reducible first | exact HB.out | apply below_alloc | apply pw_below_drewN | apply below_drew1 | refine below_set ?_ GE216.out | refine below_set ?_ GE221.out | refine below_set ?_ GE226.out) | exact HB.out)⟩⟩
            · rw [if_neg c53] at H
              have c53b0 : (t230 == 0) = false := beq_eq_false_iff_ne.mpr c53
              have c53b1 : (t230 != 0) = true := bne_iff_ne.mpr c53
              (first | rw [c53b0] | (simp only [i64_w, i32_w]; rw [c53b0]) | skip)
              have H' := Aside0.mk H
              clear H
              go_wp2
              go_meet
              case rel => exact ⟨_, (false), (by first | rfl | (simp; done) | (simp [*]; done)), H', ⟨by have := HJ9.out; first | omega | exact Nat.le_refl _⟩, ⟨by (with_reducible repeat (first | refine blk_drewN ?_ _ | refine blk_drew ?_ | refine blk_alloc ?_ _)); exact BK216.out⟩, ⟨by (with_reducible repeat (first | refine blk_drewN ?_ _ | refine blk_drew ?_ | refine blk_alloc ?_ _)); exact BK221.out⟩, ⟨by (with_reducible repeat (first | refine blk_drewN ?_ _ | refine blk_drew ?_ | refine blk_alloc ?_ _)); exact BK226.out⟩, ⟨by repeat (first | (with_reducible first | exact HB.out | apply below_alloc | apply pw_below_drewN | apply below_drew1 | refine below_set ?_ GE216.out | refine below_set ?_ GE221.out | refine below_set ?_ GE226.out) | exact HB.out)⟩⟩
          case rest =>
            clear HC52
            try clear c1
            try clear c2
            try clear p2
            try clear c3
            try clear c4
            try clear c5
            try clear c14
            try clear c15
            try clear c16
            try clear c17
            try clear c18
            try clear c19
            try clear c20
            try clear c21
            try clear c22
            try clear c27
            try clear c27b0
            try clear c27b1
            try clear c28
            try clear c28b0
            try clear c29
            try clear c30
            try clear c32
            try clear c34
            try clear c34b0
            try clear c34b1
            try clear c35
            try clear c35b0
            try clear c35b1
            try clear c36
            try clear c37
            try clear c39
            try clear c41
            try clear c42
            try clear c44
            try clear c46
            try clear c47
            try clear c49
            try clear c51
            try clear c53
            try clear c53b0
            try clear c53b1
            try clear c54
            try clear c54b0
            try clear c55
            try clear c55b0
            try clear c55b1
            try clear c56
            try clear c56b0
            try clear c56b1
            try clear hcz13_0
            try clear hcz13_1
            try clear hcz17_0
            try clear hcz17_1
            try clear hcz18_0
            try clear hcz18_1
            try clear hcz23_0
            try clear hcz23_1
            try clear hcz31_0
            try clear hcz31_1
            try clear hcz33_0
            try clear hcz33_1
            try clear hcz38_0
            try clear hcz38_1
            try clear hcz40_0
            try clear hcz40_1
            try clear hcz43_0
            try clear hcz43_1
            try clear hcz45_0
            try clear hcz45_1
            try clear hcz48_0
            try clear hcz48_1
            try clear hcz50_0
            try clear hcz50_1
            try clear hfz13_0
            try clear hfz13_1
            try clear hfz17_0
            try clear hfz17_1
            try clear hfz18_0
            try clear hfz18_1
            try clear hfz23_0
            try clear hfz23_1
            try clear hfz31_0
            try clear hfz31_1
            try clear hfz33_0
            try clear hfz33_1
            try clear hfz38_0
            try clear hfz38_1
            try clear hfz40_0
            try clear hfz40_1
            try clear hfz43_0
            try clear hfz43_1
            try clear hfz45_0
            try clear hfz45_1
            try clear hfz48_0
            try clear hfz48_1
            try clear hfz50_0
            try clear hfz50_1
            try clear p2
            obtain ⟨kq, x93_51, rfl, HA, HJ51, BK216, BK221, BK226, HB⟩ := hcut
            cases kq with
            | zero => exact absurd HA.out (by simp [laws_FnDivisors.j1])
            | succ kj51 =>
              have H := HA.out
              clear HA
              simp only [laws_FnDivisors.j1] at H
              by_cases c57 : x93_51 = true
              · subst c57
                have H1 : (some false) = some true := by rw [if_pos rfl] at H; exact H
                clear H
                have H := H1
                clear H1
                exact absurd (Option.some.inj H) (by decide)
              · replace c57 := Bool.eq_false_iff.mpr c57
                subst c57
                have H1 : (if t220 = 0 then ((impl_ScaleVec.f t217 t218 t219).bind fun bt233 => ((impl_DivisorOf.f kj51 t217 t218).bind fun bt237 => (if bt233.2.2 = 0 then (if (bt233.1 == t214 && (bt233.2.1 == t215)) = true then (if bt237.2 = 0 then (some (bt237.1 == 1)) else (some false)) else (some false)) else (some false)))) else (some true)) = some true := by rw [if_neg (show ¬ (false = true) by decide)] at H; exact H
                clear H
                have H := H1
                clear H1
                by_cases c58 : t220 = 0
                · rw [if_pos c58] at H
                  have c58b0 : (t220 == 0) = true := beq_iff_eq.mpr c58
                  have c58b1 : (t220 != 0) = false := bne_eq_false_iff_eq.mpr c58
                  clear c58
                  replace H := Option.bind_eq_some_iff.mp H
                  obtain ⟨⟨t233, t234, t235⟩, A590, H⟩ := H
                  replace H : ((impl_DivisorOf.f kj51 t217 t218).bind fun bt237 => (if t235 = 0 then (if (t233 == t214 && (t234 == t215)) = true then (if bt237.2 = 0 then (some (bt237.1 == 1)) else (some false)) else (some false)) else (some false))) = some true := H
                  have A59 := Aside0.mk A590
                  clear A590
                  replace H := Option.bind_eq_some_iff.mp H
                  obtain ⟨⟨t237, t238⟩, A600, H⟩ := H
                  replace H : (if t235 = 0 then (if (t233 == t214 && (t234 == t215)) = true then (if t238 = 0 then (some (t237 == 1)) else (some false)) else (some false)) else (some false)) = some true := H
                  have A60 := Aside0.mk A600
                  clear A600
                  by_cases c61 : t235 = 0
                  · rw [if_pos c61] at H
                    have c61b0 : (t235 == 0) = true := beq_iff_eq.mpr c61
                    have c61b1 : (t235 != 0) = false := bne_eq_false_iff_eq.mpr c61
                    clear c61
                    by_cases c62 : (t233 == t214 && (t234 == t215)) = true
                    · rw [if_pos c62] at H
                      have c62b0 : (t233 == t214 && (t234 == t215)) = true := c62
                      (try (have c62b1 : decide (t233 = t214 && (t234 == t215)) = true := by simpa using c62))
                      (try (have c62b2 : (t233 == t214 && (t234 == t215)) = true := by simpa using c62))
                      clear c62
                      by_cases c63 : t238 = 0
                      · rw [if_pos c63] at H
                        have c63b0 : (t238 == 0) = true := beq_iff_eq.mpr c63
                        have c63b1 : (t238 != 0) = false := bne_eq_false_iff_eq.mpr c63
                        clear c63
                        have hrT_ := Option.some.inj H
                        have hnb64 := NB221_216.out
                        have hnc64 := NB216_221.out
                        have hnb65 := NB221_226.out
                        have hnc65 := NB226_221.out
                        have hcz66_0 : wc.cell? ⟨gb221, 0, none⟩ = some (.int .i64 t217) := (blk_cell BK221.out 0).trans rfl
                        have hcz66_1 : wc.cell? ⟨gb221, 1, none⟩ = some (.int .i64 t218) := (blk_cell BK221.out 1).trans rfl
                        have hfz66_0 := blk_frozen BK221.out 0
                        have hfz66_1 := blk_frozen BK221.out 1
                        go_wp2_with (first | ((with_reducible refine gate_callee (f := 21) rfl ?_); refine goesL_ (some 99) rfl rfl Try.func21 (by kernel_rfl) rfl #[.agg #[.int .i64 t217, .int .i64 t218], .int .i64 t219] rfl (by (try simp only [List.map_toArray, List.map_cons, List.map_nil]); first | done | rfl | (simp only [List.length_drop, List.length_take]; rfl)) ?_; (with_reducible refine (impl_ScaleVec.calls t217 t218 t219 t233 t234 t235 _ A59.out).mono ?_); rintro e w67 ⟨rfl, hb⟩; refine ⟨_, rfl, ?_⟩; have n0_ := Aside0.mk (blk_below (g := gb216) (o := .cells #[.int .i64 t214, .int .i64 t215] 25 (0, 0)) (by (with_reducible repeat (first | refine blk_drewN ?_ _ | refine blk_drew ?_ | refine blk_alloc ?_ _)); exact BK216.out) hb); have n1_ := Aside0.mk (blk_below (g := gb221) (o := .cells #[.int .i64 t217, .int .i64 t218] 25 (0, 0)) (by (with_reducible repeat (first | refine blk_drewN ?_ _ | refine blk_drew ?_ | refine blk_alloc ?_ _)); exact BK221.out) hb); have n2_ := Aside0.mk (blk_below (g := gb226) (o := .cells #[.int .i64 t222, .int .i64 t223] 25 (0, 0)) (by (with_reducible repeat (first | refine blk_drewN ?_ _ | refine blk_drew ?_ | refine blk_alloc ?_ _)); exact BK226.out) hb); have n3_ := Aside0.mk (below_step (by repeat (first | (with_reducible first | exact HB.out | apply below_alloc | apply pw_below_drewN | apply below_drew1 | refine below_set ?_ GE216.out | refine below_set ?_ GE221.out | refine below_set ?_ GE226.out) | exact HB.out)) hb); clear BK216; clear BK221; clear BK226; clear HB; have BK216 := n0_; have BK221 := n1_; have BK226 := n2_; have HB := n3_; clear n0_ n1_ n2_ n3_; (try clear hb); (try clear hb2); (try clear hk); (try clear hi)) | ((with_reducible refine gate_dst (N := 16) rfl ?_); refine box_event ?hg (N := 16) ?hd (cs := #[.int .i64 0, .int .i64 0]) (t := 25) ?hr ?_; (case hd => rfl); (case hg => rfl); (case hr => first | (go_simp; done) | (go_simp; rfl)); intro gb236 hg w68 hbox hb; have n0_ := Aside0.mk (blk_below (g := gb216) (o := .cells #[.int .i64 t214, .int .i64 t215] 25 (0, 0)) (by (with_reducible repeat (first | refine blk_drewN ?_ _ | refine blk_drew ?_ | refine blk_alloc ?_ _)); exact BK216.out) hb); have n1_ := Aside0.mk (blk_below (g := gb221) (o := .cells #[.int .i64 t217, .int .i64 t218] 25 (0, 0)) (by (with_reducible repeat (first | refine blk_drewN ?_ _ | refine blk_drew ?_ | refine blk_alloc ?_ _)); exact BK221.out) hb); have n2_ := Aside0.mk (blk_below (g := gb226) (o := .cells #[.int .i64 t222, .int .i64 t223] 25 (0, 0)) (by (with_reducible repeat (first | refine blk_drewN ?_ _ | refine blk_drew ?_ | refine blk_alloc ?_ _)); exact BK226.out) hb); have n3_ := Aside0.mk (below_step (by repeat (first | (with_reducible first | exact HB.out | apply below_alloc | apply pw_below_drewN | apply below_drew1 | refine below_set ?_ GE216.out | refine below_set ?_ GE221.out | refine below_set ?_ GE226.out) | exact HB.out)) hb); have n4_ := Aside0.mk (hbox); have n5_ := Aside0.mk ((by rw [hg]; exact (below_size (by repeat (first | (with_reducible first | exact HB.out | apply below_alloc | apply pw_below_drewN | apply below_drew1 | refine below_set ?_ GE216.out | refine below_set ?_ GE221.out | refine below_set ?_ GE226.out) | exact HB.out))) : w.heap.size ≤ gb236)); have n6_ := Aside0.mk ((by rw [hg]; exact (below_size (by repeat (first | (with_reducible first | exact HB.out | apply below_alloc | apply pw_below_drewN | apply below_drew1 | refine below_set ?_ GE216.out | refine below_set ?_ GE221.out | refine below_set ?_ GE226.out) | exact HB.out))) : w.heap.size ≤ gb236)); have n7_ := Aside0.mk ((by rw [hg]; exact Nat.ne_of_lt (blk_lt (g := gb216) (o := .cells #[.int .i64 t214, .int .i64 t215] 25 (0, 0)) (by (with_reducible repeat (first | refine blk_drewN ?_ _ | refine blk_drew ?_ | refine blk_alloc ?_ _)); exact BK216.out)) : gb216 ≠ gb236)); have n8_ := Aside0.mk ((by rw [hg]; exact Nat.ne_of_gt (blk_lt (g := gb216) (o := .cells #[.int .i64 t214, .int .i64 t215] 25 (0, 0)) (by (with_reducible repeat (first | refine blk_drewN ?_ _ | refine blk_drew ?_ | refine blk_alloc ?_ _)); exact BK216.out)) : gb236 ≠ gb216)); have n9_ := Aside0.mk ((by rw [hg]; exact Nat.ne_of_lt (blk_lt (g := gb221) (o := .cells #[.int .i64 t217, .int .i64 t218] 25 (0, 0)) (by (with_reducible repeat (first | refine blk_drewN ?_ _ | refine blk_drew ?_ | refine blk_alloc ?_ _)); exact BK221.out)) : gb221 ≠ gb236)); have n10_ := Aside0.mk ((by rw [hg]; exact Nat.ne_of_gt (blk_lt (g := gb221) (o := .cells #[.int .i64 t217, .int .i64 t218] 25 (0, 0)) (by (with_reducible repeat (first | refine blk_drewN ?_ _ | refine blk_drew ?_ | refine blk_alloc ?_ _)); exact BK221.out)) : gb236 ≠ gb221)); have n11_ := Aside0.mk ((by rw [hg]; exact Nat.ne_of_lt (blk_lt (g := gb226) (o := .cells #[.int .i64 t222, .int .i64 t223] 25 (0, 0)) (by (with_reducible repeat (first | refine blk_drewN ?_ _ | refine blk_drew ?_ | refine blk_alloc ?_ _)); exact BK226.out)) : gb226 ≠ gb236)); have n12_ := Aside0.mk ((by rw [hg]; exact Nat.ne_of_gt (blk_lt (g := gb226) (o := .cells #[.int .i64 t222, .int .i64 t223] 25 (0, 0)) (by (with_reducible repeat (first | refine blk_drewN ?_ _ | refine blk_drew ?_ | refine blk_alloc ?_ _)); exact BK226.out)) : gb236 ≠ gb226)); clear BK216; clear BK221; clear BK226; clear HB; have BK216 := n0_; have BK221 := n1_; have BK226 := n2_; have HB := n3_; have BK236 := n4_; have GW236 := n5_; have GE236 := n6_; have NB216_236 := n7_; have NB236_216 := n8_; have NB221_236 := n9_; have NB236_221 := n10_; have NB226_236 := n11_; have NB236_226 := n12_; clear n0_ n1_ n2_ n3_ n4_ n5_ n6_ n7_ n8_ n9_ n10_ n11_ n12_; clear hb hbox hg; have hnb69 := NB236_216.out; have hnc69 := NB216_236.out; have hnb70 := NB236_221.out; have hnc70 := NB221_236.out; have hnb71 := NB236_226.out; have hnc71 := NB226_236.out; have hcz72_0 : w68.cell? ⟨gb236, 0, none⟩ = some (.int .i64 0) := (blk_cell BK236.out 0).trans rfl; have hcz72_1 : w68.cell? ⟨gb236, 1, none⟩ = some (.int .i64 0) := (blk_cell BK236.out 1).trans rfl; have hfz72_0 := blk_frozen BK236.out 0; have hfz72_1 := blk_frozen BK236.out 1; have hcz73_0 : w68.cell? ⟨gb221, 0, none⟩ = some (.int .i64 t217) := (blk_cell BK221.out 0).trans rfl; have hcz73_1 : w68.cell? ⟨gb221, 1, none⟩ = some (.int .i64 t218) := (blk_cell BK221.out 1).trans rfl; have hfz73_0 := blk_frozen BK221.out 0; have hfz73_1 := blk_frozen BK221.out 1) | ((with_reducible refine gate_callee (f := 19) rfl ?_); refine goesL_ (some 107) rfl rfl Try.func19 (by kernel_rfl) rfl #[.int .i64 t217, .int .i64 t218] rfl (by (try simp only [List.map_toArray, List.map_cons, List.map_nil]); first | done | rfl | (simp only [List.length_drop, List.length_take]; rfl)) ?_; (with_reducible refine (impl_DivisorOf.calls kj51 t217 t218 t237 t238 _ A60.out).mono ?_); rintro e w74 ⟨rfl, hb⟩; refine ⟨_, rfl, ?_⟩; have n0_ := Aside0.mk (blk_below (g := gb216) (o := .cells #[.int .i64 t214, .int .i64 t215] 25 (0, 0)) (by (with_reducible repeat (first | refine blk_drewN ?_ _ | refine blk_drew ?_ | refine blk_alloc ?_ _)); refine blk_far ?_ NB216_236.out _; (with_reducible repeat (first | refine blk_drewN ?_ _ | refine blk_drew ?_ | refine blk_alloc ?_ _)); refine blk_far ?_ NB216_236.out _; (with_reducible repeat (first | refine blk_drewN ?_ _ | refine blk_drew ?_ | refine blk_alloc ?_ _)); exact BK216.out) hb); have n1_ := Aside0.mk (blk_below (g := gb221) (o := .cells #[.int .i64 t217, .int .i64 t218] 25 (0, 0)) (by (with_reducible repeat (first | refine blk_drewN ?_ _ | refine blk_drew ?_ | refine blk_alloc ?_ _)); refine blk_far ?_ NB221_236.out _; (with_reducible repeat (first | refine blk_drewN ?_ _ | refine blk_drew ?_ | refine blk_alloc ?_ _)); refine blk_far ?_ NB221_236.out _; (with_reducible repeat (first | refine blk_drewN ?_ _ | refine blk_drew ?_ | refine blk_alloc ?_ _)); exact BK221.out) hb); have n2_ := Aside0.mk (blk_below (g := gb226) (o := .cells #[.int .i64 t222, .int .i64 t223] 25 (0, 0)) (by (with_reducible repeat (first | refine blk_drewN ?_ _ | refine blk_drew ?_ | refine blk_alloc ?_ _)); refine blk_far ?_ NB226_236.out _; (with_reducible repeat (first | refine blk_drewN ?_ _ | refine blk_drew ?_ | refine blk_alloc ?_ _)); refine blk_far ?_ NB226_236.out _; (with_reducible repeat (first | refine blk_drewN ?_ _ | refine blk_drew ?_ | refine blk_alloc ?_ _)); exact BK226.out) hb); have n3_ := Aside0.mk (blk_below (g := gb236) (o := .cells #[.int .i64 t233, .int .i64 t234] 25 (0, 0)) (by (with_reducible repeat (first | refine blk_drewN ?_ _ | refine blk_drew ?_ | refine blk_alloc ?_ _)); refine blk_put (cs := #[.int .i64 t233, .int .i64 0]) ?_ 1 _ rfl; (with_reducible repeat (first | refine blk_drewN ?_ _ | refine blk_drew ?_ | refine blk_alloc ?_ _)); refine blk_put (cs := #[.int .i64 0, .int .i64 0]) ?_ 0 _ rfl; (with_reducible repeat (first | refine blk_drewN ?_ _ | refine blk_drew ?_ | refine blk_alloc ?_ _)); exact BK236.out) hb); have n4_ := Aside0.mk (below_step (by repeat (first | (with_reducible first | exact HB.out | apply below_alloc | apply pw_below_drewN | apply below_drew1 | refine below_set ?_ GE216.out | refine below_set ?_ GE221.out | refine below_set ?_ GE226.out | refine below_set ?_ GE236.out) | exact HB.out)) hb); clear BK216; clear BK221; clear BK226; clear BK236; clear HB; have BK216 := n0_; have BK221 := n1_; have BK226 := n2_; have BK236 := n3_; have HB := n4_; clear n0_ n1_ n2_ n3_ n4_; (try clear hb); (try clear hb2); (try clear hk); (try clear hi); have hcz75_0 : w74.cell? ⟨gb236, 0, none⟩ = some (.int .i64 t233) := (blk_cell BK236.out 0).trans rfl; have hcz75_1 : w74.cell? ⟨gb236, 1, none⟩ = some (.int .i64 t234) := (blk_cell BK236.out 1).trans rfl; have hfz75_0 := blk_frozen BK236.out 0; have hfz75_1 := blk_frozen BK236.out 1; have hnb76 := NB216_226.out; have hnc76 := NB226_216.out; have hcz77_0 : w74.cell? ⟨gb216, 0, none⟩ = some (.int .i64 t214) := (blk_cell BK216.out 0).trans rfl; have hcz77_1 : w74.cell? ⟨gb216, 1, none⟩ = some (.int .i64 t215) := (blk_cell BK216.out 1).trans rfl; have hfz77_0 := blk_frozen BK216.out 0; have hfz77_1 := blk_frozen BK216.out 1))
                        go_ret
                        exact ⟨by first | rfl | (simp [errW_none, errW_some] <;> rfl) | (simp [*, errW_none, errW_some] <;> rfl), by repeat (first | (with_reducible first | exact HB.out | apply below_alloc | apply pw_below_drewN | apply below_drew1 | refine below_set ?_ GE216.out | refine below_set ?_ GE221.out | refine below_set ?_ GE226.out | refine below_set ?_ GE236.out) | exact HB.out)⟩
                      · rw [if_neg c63] at H
                        have c63b0 : (t238 == 0) = false := beq_eq_false_iff_ne.mpr c63
                        have c63b1 : (t238 != 0) = true := bne_iff_ne.mpr c63
                        exact absurd (Option.some.inj H) (by decide)
                    · rw [if_neg c62] at H
                      have c62b0 : (t233 == t214 && (t234 == t215)) = false := by simpa using c62
                      (try (have c62b1 : decide (t233 = t214 && (t234 == t215)) = false := by simpa using c62))
                      (try (have c62b2 : (t233 == t214 && (t234 == t215)) = false := by simpa using c62))
                      (try (have c62b3 : ¬ (t233 = t214 && (t234 == t215)) := by simpa using c62))
                      clear c62
                      exact absurd (Option.some.inj H) (by decide)
                  · rw [if_neg c61] at H
                    have c61b0 : (t235 == 0) = false := beq_eq_false_iff_ne.mpr c61
                    have c61b1 : (t235 != 0) = true := bne_iff_ne.mpr c61
                    exact absurd (Option.some.inj H) (by decide)
                · rw [if_neg c58] at H
                  have c58b0 : (t220 == 0) = false := beq_eq_false_iff_ne.mpr c58
                  have c58b1 : (t220 != 0) = true := bne_iff_ne.mpr c58
                  clear H
                  go_wp2
                  go_ret
                  exact ⟨by first | rfl | (simp [errW_none, errW_some] <;> rfl) | (simp [*, errW_none, errW_some] <;> rfl), by repeat (first | (with_reducible first | exact HB.out | apply below_alloc | apply pw_below_drewN | apply below_drew1 | refine below_set ?_ GE216.out | refine below_set ?_ GE221.out | refine below_set ?_ GE226.out) | exact HB.out)⟩


end Go.Proofs.Ytjjbjaagfjljnaa.F
