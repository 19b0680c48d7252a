import Derived.Test.YtjjbjaagfjljnaaG0
import Derived.Test.YtjjbjaagfjljnaaG1
import Derived.Test.YtjjbjaagfjljnaaG28
import Derived.Test.YtjjbjaagfjljnaaG35
import Derived.Test.YtjjbjaagfjljnaaG36
import Derived.Test.YtjjbjaagfjljnaaG37
namespace Go.Proofs.Ytjjbjaagfjljnaa.F
open Go.RowKit Go.Proofs.YtjjbjaagfjljnaaW.PrintWords Go.Proofs.YtjjbjaagfjljnaaW.PrintLast Go.Proofs.YtjjbjaagfjljnaaW.PrintMore
attribute [local go_sem] max2_int min2_int max_two min_two max_three min_three max_four min_four   -- for this text's walks alone
set_option linter.unusedVariables false
set_option linter.unusedSimpArgs false
attribute [local go_sem high] eqA51

/-! ### laws_FnOrders: function 7 -/
mutual
def laws_FnOrders.j0 : Nat → Int → Int → Int → Int → Bool → Int → Int → Int → Int → Int → Int → Int → Int → Int → Int → Int → Int → Option (Bool)
  | 0, _, _, _, _, _, _, _, _, _, _, _, _, _, _, _, _, _ => none
  | k + 1, x4, x5, x9, x11, x95, x943000, x943001, x943002, x943003, x953000, x953001, x953002, x953003, x959000, x959001, x959002, x959003 => if x95 = true then (some false) else (if x11 = 0 then (laws_FnOrders.j1 k x4 x5 x9 (decide (x9 > 0)) x943000 x943001 x943002 x943003 x953000 x953001 x953002 x953003 x959000 x959001 x959002 x959003) else (laws_FnOrders.j1 k x4 x5 x9 false x943000 x943001 x943002 x943003 x953000 x953001 x953002 x953003 x959000 x959001 x959002 x959003))
def laws_FnOrders.j1 : Nat → Int → Int → Int → Bool → Int → Int → Int → Int → Int → Int → Int → Int → Int → Int → Int → Int → Option (Bool)
  | 0, _, _, _, _, _, _, _, _, _, _, _, _, _, _, _, _ => none
  | k + 1, x4, x5, x9, x101, x943000, x943001, x943002, x943003, x953000, x953001, x953002, x953003, x959000, x959001, x959002, x959003 => if x101 = true then ((impl_PowerMat.f k x953000 x953001 x953002 x953003 (wrap64 (x9 - 1))).bind fun bt974 => ((impl_MultiplyMats.f k x953000 x953001 x953002 x953003 bt974.1 bt974.2.1 bt974.2.2.1 bt974.2.2.2.1).bind fun bt980 => (if bt974.2.2.2.2 = 0 then (if bt980.2.2.2.2 = 0 then (laws_FnOrders.j2 k x4 x5 (!(bt980.1 == x959000) || (!(bt980.2.1 == x959001) || (!(bt980.2.2.1 == x959002) || (!(bt980.2.2.2.1 == x959003))))) x943000 x943001 x943002 x943003) else (laws_FnOrders.j2 k x4 x5 true x943000 x943001 x943002 x943003)) else (laws_FnOrders.j2 k x4 x5 true x943000 x943001 x943002 x943003)))) else (if x5 = 0 then (if x4 = 0 then (some true) else ((impl_PowerMat.f k x943000 x943001 x943002 x943003 x4).bind fun bt992 => (if bt992.2.2.2.2 = 0 then (some (bt992.1 == 1 && (bt992.2.1 == 0 && (bt992.2.2.1 == 0 && (bt992.2.2.2.1 == 1))))) else (some false)))) else (some true))
def laws_FnOrders.j2 : Nat → Int → Int → Bool → Int → Int → Int → Int → Option (Bool)
  | 0, _, _, _, _, _, _, _ => none
  | k + 1, x4, x5, x125, x943000, x943001, x943002, x943003 => if x125 = true then (some false) else (if x5 = 0 then (if x4 = 0 then (some true) else ((impl_PowerMat.f k x943000 x943001 x943002 x943003 x4).bind fun bt986 => (if bt986.2.2.2.2 = 0 then (some (bt986.1 == 1 && (bt986.2.1 == 0 && (bt986.2.2.1 == 0 && (bt986.2.2.2.1 == 1))))) else (some false)))) else (some true))
end
def laws_FnOrders.f (k : Nat) (l0 : List Int) : Option (Bool) := (laws_big.f l0).bind fun t937 => (if t937 = true then (some true) else ((spec_DrawOrderOf.f k l0).bind fun bt938 => ((impl_OrderOf.f k bt938.1 bt938.2.1 bt938.2.2.1 bt938.2.2.2).bind fun bt943 => ((spec_OrderOf.f k bt938.1 bt938.2.1 bt938.2.2.1 bt938.2.2.2).bind fun bt945 => ((spec_DrawPowerMat.f k l0).bind fun bt947 => ((impl_PowerMat.f k bt947.1 bt947.2.1 bt947.2.2.1 bt947.2.2.2.1 bt947.2.2.2.2).bind fun bt953 => ((spec_PowerMat.f k bt947.1 bt947.2.1 bt947.2.2.1 bt947.2.2.2.1 bt947.2.2.2.2).bind fun bt959 => ((spec_DrawMatKind.f k l0).bind fun bt965 => ((impl_MatKind.f k bt965.1 bt965.2.1 bt965.2.2.1 bt965.2.2.2).bind fun bt970 => ((spec_MatKind.f k bt965.1 bt965.2.1 bt965.2.2.1 bt965.2.2.2).bind fun bt972 => (if bt943.2 = bt945.2 then (if bt943.1 = bt945.1 then (if bt953.2.2.2.2 = bt959.2.2.2.2 then (if (!(bt953.1 == bt959.1) || (!(bt953.2.1 == bt959.2.1) || (!(bt953.2.2.1 == bt959.2.2.1) || (!(bt953.2.2.2.1 == bt959.2.2.2.1))))) = true then (laws_FnOrders.j0 k bt943.1 bt943.2 bt947.2.2.2.2 bt953.2.2.2.2 true bt938.1 bt938.2.1 bt938.2.2.1 bt938.2.2.2 bt947.1 bt947.2.1 bt947.2.2.1 bt947.2.2.2.1 bt953.1 bt953.2.1 bt953.2.2.1 bt953.2.2.2.1) else (if bt970.2 = bt972.2 then (laws_FnOrders.j0 k bt943.1 bt943.2 bt947.2.2.2.2 bt953.2.2.2.2 (bt970.1 != bt972.1) bt938.1 bt938.2.1 bt938.2.2.1 bt938.2.2.2 bt947.1 bt947.2.1 bt947.2.2.1 bt947.2.2.2.1 bt953.1 bt953.2.1 bt953.2.2.1 bt953.2.2.2.1) else (laws_FnOrders.j0 k bt943.1 bt943.2 bt947.2.2.2.2 bt953.2.2.2.2 true bt938.1 bt938.2.1 bt938.2.2.1 bt938.2.2.2 bt947.1 bt947.2.1 bt947.2.2.1 bt947.2.2.2.1 bt953.1 bt953.2.1 bt953.2.2.1 bt953.2.2.2.1))) else (laws_FnOrders.j0 k bt943.1 bt943.2 bt947.2.2.2.2 bt953.2.2.2.2 true bt938.1 bt938.2.1 bt938.2.2.1 bt938.2.2.2 bt947.1 bt947.2.1 bt947.2.2.1 bt947.2.2.2.1 bt953.1 bt953.2.1 bt953.2.2.1 bt953.2.2.2.1)) else (laws_FnOrders.j0 k bt943.1 bt943.2 bt947.2.2.2.2 bt953.2.2.2.2 true bt938.1 bt938.2.1 bt938.2.2.1 bt938.2.2.2 bt947.1 bt947.2.1 bt947.2.2.1 bt947.2.2.2.1 bt953.1 bt953.2.1 bt953.2.2.1 bt953.2.2.2.1)) else (laws_FnOrders.j0 k bt943.1 bt943.2 bt947.2.2.2.2 bt953.2.2.2.2 true bt938.1 bt938.2.1 bt938.2.2.1 bt938.2.2.2 bt947.1 bt947.2.1 bt947.2.2.1 bt947.2.2.2.1 bt953.1 bt953.2.1 bt953.2.2.1 bt953.2.2.2.1))))))))))))
theorem laws_FnOrders.mono_l : ∀ k, (∀ y0 y1 y2 y3 y4 y5 y6 y7 y8 y9 y10 y11 y12 y13 y14 y15 y16, LeO (laws_FnOrders.j0 k y0 y1 y2 y3 y4 y5 y6 y7 y8 y9 y10 y11 y12 y13 y14 y15 y16) (laws_FnOrders.j0 (k + 1) y0 y1 y2 y3 y4 y5 y6 y7 y8 y9 y10 y11 y12 y13 y14 y15 y16)) ∧ (∀ y0 y1 y2 y3 y4 y5 y6 y7 y8 y9 y10 y11 y12 y13 y14 y15, LeO (laws_FnOrders.j1 k y0 y1 y2 y3 y4 y5 y6 y7 y8 y9 y10 y11 y12 y13 y14 y15) (laws_FnOrders.j1 (k + 1) y0 y1 y2 y3 y4 y5 y6 y7 y8 y9 y10 y11 y12 y13 y14 y15)) ∧ (∀ y0 y1 y2 y3 y4 y5 y6, LeO (laws_FnOrders.j2 k y0 y1 y2 y3 y4 y5 y6) (laws_FnOrders.j2 (k + 1) y0 y1 y2 y3 y4 y5 y6))
  | 0 => ⟨fun _ _ _ _ _ _ _ _ _ _ _ _ _ _ _ _ _ r h => by simp [laws_FnOrders.j0] at h, fun _ _ _ _ _ _ _ _ _ _ _ _ _ _ _ _ r h => by simp [laws_FnOrders.j1] at h, fun _ _ _ _ _ _ _ r h => by simp [laws_FnOrders.j2] at h⟩
  | k + 1 => by
    obtain ⟨ih0, ih1, ih2⟩ := laws_FnOrders.mono_l k
    refine ⟨?_, ?_, ?_⟩
    · intro y0 y1 y2 y3 y4 y5 y6 y7 y8 y9 y10 y11 y12 y13 y14 y15 y16
      unfold laws_FnOrders.j0
      repeat' first
      | (with_reducible exact ih0 _ _ _ _ _ _ _ _ _ _ _ _ _ _ _ _ _)
      | (with_reducible exact ih1 _ _ _ _ _ _ _ _ _ _ _ _ _ _ _ _)
      | (with_reducible exact ih2 _ _ _ _ _ _ _)
      | (with_reducible exact impl_MatKind.mono _ _ _ _ _)
      | (with_reducible exact impl_MultiplyMats.mono _ _ _ _ _ _ _ _ _)
      | (with_reducible exact impl_OrderOf.mono _ _ _ _ _)
      | (with_reducible exact impl_PowerMat.mono _ _ _ _ _ _)
      | (with_reducible exact spec_DrawMatKind.mono _ _)
      | (with_reducible exact spec_DrawOrderOf.mono _ _)
      | (with_reducible exact spec_DrawPowerMat.mono _ _)
      | (with_reducible exact spec_MatKind.mono _ _ _ _ _)
      | (with_reducible exact spec_OrderOf.mono _ _ _ _ _)
      | (with_reducible exact spec_PowerMat.mono _ _ _ _ _ _)
      | (with_reducible exact LeO.refl _)
      | (with_reducible exact LeO.none _)
      | (with_reducible refine LeO.ite ?_ ?_)
      | (with_reducible refine LeO.bind ?_ (fun _ => ?_))
      | exact ih0 _ _ _ _ _ _ _ _ _ _ _ _ _ _ _ _ _
      | exact ih1 _ _ _ _ _ _ _ _ _ _ _ _ _ _ _ _
      | exact ih2 _ _ _ _ _ _ _
      | exact impl_MatKind.mono _ _ _ _ _
      | exact impl_MultiplyMats.mono _ _ _ _ _ _ _ _ _
      | exact impl_OrderOf.mono _ _ _ _ _
      | exact impl_PowerMat.mono _ _ _ _ _ _
      | exact spec_DrawMatKind.mono _ _
      | exact spec_DrawOrderOf.mono _ _
      | exact spec_DrawPowerMat.mono _ _
      | exact spec_MatKind.mono _ _ _ _ _
      | exact spec_OrderOf.mono _ _ _ _ _
      | exact spec_PowerMat.mono _ _ _ _ _ _
      | exact LeO.none _
      | refine LeO.ite ?_ ?_
      | refine LeO.bind ?_ (fun _ => ?_)
    · intro y0 y1 y2 y3 y4 y5 y6 y7 y8 y9 y10 y11 y12 y13 y14 y15
      unfold laws_FnOrders.j1
      repeat' first
      | (with_reducible exact ih0 _ _ _ _ _ _ _ _ _ _ _ _ _ _ _ _ _)
      | (with_reducible exact ih1 _ _ _ _ _ _ _ _ _ _ _ _ _ _ _ _)
      | (with_reducible exact ih2 _ _ _ _ _ _ _)
      | (with_reducible exact impl_MatKind.mono _ _ _ _ _)
      | (with_reducible exact impl_MultiplyMats.mono _ _ _ _ _ _ _ _ _)
      | (with_reducible exact impl_OrderOf.mono _ _ _ _ _)
      | (with_reducible exact impl_PowerMat.mono _ _ _ _ _ _)
      | (with_reducible exact spec_DrawMatKind.mono _ _)
      | (with_reducible exact spec_DrawOrderOf.mono _ _)
      | (with_reducible exact spec_DrawPowerMat.mono _ _)
      | (with_reducible exact spec_MatKind.mono _ _ _ _ _)
      | (with_reducible exact spec_OrderOf.mono _ _ _ _ _)
      | (with_reducible exact spec_PowerMat.mono _ _ _ _ _ _)
      | (with_reducible exact LeO.refl _)
      | (with_reducible exact LeO.none _)
      | (with_reducible refine LeO.ite ?_ ?_)
      | (with_reducible refine LeO.bind ?_ (fun _ => ?_))
      | exact ih0 _ _ _ _ _ _ _ _ _ _ _ _ _ _ _ _ _
      | exact ih1 _ _ _ _ _ _ _ _ _ _ _ _ _ _ _ _
      | exact ih2 _ _ _ _ _ _ _
      | exact impl_MatKind.mono _ _ _ _ _
      | exact impl_MultiplyMats.mono _ _ _ _ _ _ _ _ _
      | exact impl_OrderOf.mono _ _ _ _ _
      | exact impl_PowerMat.mono _ _ _ _ _ _
      | exact spec_DrawMatKind.mono _ _
      | exact spec_DrawOrderOf.mono _ _
      | exact spec_DrawPowerMat.mono _ _
      | exact spec_MatKind.mono _ _ _ _ _
      | exact spec_OrderOf.mono _ _ _ _ _
      | exact spec_PowerMat.mono _ _ _ _ _ _
      | exact LeO.none _
      | refine LeO.ite ?_ ?_
      | refine LeO.bind ?_ (fun _ => ?_)
    · intro y0 y1 y2 y3 y4 y5 y6
      unfold laws_FnOrders.j2
      repeat' first
      | (with_reducible exact ih0 _ _ _ _ _ _ _ _ _ _ _ _ _ _ _ _ _)
      | (with_reducible exact ih1 _ _ _ _ _ _ _ _ _ _ _ _ _ _ _ _)
      | (with_reducible exact ih2 _ _ _ _ _ _ _)
      | (with_reducible exact impl_MatKind.mono _ _ _ _ _)
      | (with_reducible exact impl_MultiplyMats.mono _ _ _ _ _ _ _ _ _)
      | (with_reducible exact impl_OrderOf.mono _ _ _ _ _)
      | (with_reducible exact impl_PowerMat.mono _ _ _ _ _ _)
      | (with_reducible exact spec_DrawMatKind.mono _ _)
      | (with_reducible exact spec_DrawOrderOf.mono _ _)
      | (with_reducible exact spec_DrawPowerMat.mono _ _)
      | (with_reducible exact spec_MatKind.mono _ _ _ _ _)
      | (with_reducible exact spec_OrderOf.mono _ _ _ _ _)
      | (with_reducible exact spec_PowerMat.mono _ _ _ _ _ _)
      | (with_reducible exact LeO.refl _)
      | (with_reducible exact LeO.none _)
      | (with_reducible refine LeO.ite ?_ ?_)
      | (with_reducible refine LeO.bind ?_ (fun _ => ?_))
      | exact ih0 _ _ _ _ _ _ _ _ _ _ _ _ _ _ _ _ _
      | exact ih1 _ _ _ _ _ _ _ _ _ _ _ _ _ _ _ _
      | exact ih2 _ _ _ _ _ _ _
      | exact impl_MatKind.mono _ _ _ _ _
      | exact impl_MultiplyMats.mono _ _ _ _ _ _ _ _ _
      | exact impl_OrderOf.mono _ _ _ _ _
      | exact impl_PowerMat.mono _ _ _ _ _ _
      | exact spec_DrawMatKind.mono _ _
      | exact spec_DrawOrderOf.mono _ _
      | exact spec_DrawPowerMat.mono _ _
      | exact spec_MatKind.mono _ _ _ _ _
      | exact spec_OrderOf.mono _ _ _ _ _
      | exact spec_PowerMat.mono _ _ _ _ _ _
      | exact LeO.none _
      | refine LeO.ite ?_ ?_
      | refine LeO.bind ?_ (fun _ => ?_)
theorem laws_FnOrders.mono : ∀ a0 k, LeO (laws_FnOrders.f k a0) (laws_FnOrders.f (k + 1) a0) := by
  intro a0 k
  obtain ⟨ih0, ih1, ih2⟩ := laws_FnOrders.mono_l k
  unfold laws_FnOrders.f
  repeat' first
      | (with_reducible exact ih0 _ _ _ _ _ _ _ _ _ _ _ _ _ _ _ _ _)
      | (with_reducible exact ih1 _ _ _ _ _ _ _ _ _ _ _ _ _ _ _ _)
      | (with_reducible exact ih2 _ _ _ _ _ _ _)
      | (with_reducible exact impl_MatKind.mono _ _ _ _ _)
      | (with_reducible exact impl_MultiplyMats.mono _ _ _ _ _ _ _ _ _)
      | (with_reducible exact impl_OrderOf.mono _ _ _ _ _)
      | (with_reducible exact impl_PowerMat.mono _ _ _ _ _ _)
      | (with_reducible exact spec_DrawMatKind.mono _ _)
      | (with_reducible exact spec_DrawOrderOf.mono _ _)
      | (with_reducible exact spec_DrawPowerMat.mono _ _)
      | (with_reducible exact spec_MatKind.mono _ _ _ _ _)
      | (with_reducible exact spec_OrderOf.mono _ _ _ _ _)
      | (with_reducible exact spec_PowerMat.mono _ _ _ _ _ _)
      | (with_reducible exact LeO.refl _)
      | (with_reducible exact LeO.none _)
      | (with_reducible refine LeO.ite ?_ ?_)
      | (with_reducible refine LeO.bind ?_ (fun _ => ?_))
      | exact ih0 _ _ _ _ _ _ _ _ _ _ _ _ _ _ _ _ _
      | exact ih1 _ _ _ _ _ _ _ _ _ _ _ _ _ _ _ _
      | exact ih2 _ _ _ _ _ _ _
      | exact impl_MatKind.mono _ _ _ _ _
      | exact impl_MultiplyMats.mono _ _ _ _ _ _ _ _ _
      | exact impl_OrderOf.mono _ _ _ _ _
      | exact impl_PowerMat.mono _ _ _ _ _ _
      | exact spec_DrawMatKind.mono _ _
      | exact spec_DrawOrderOf.mono _ _
      | exact spec_DrawPowerMat.mono _ _
      | exact spec_MatKind.mono _ _ _ _ _
      | exact spec_OrderOf.mono _ _ _ _ _
      | exact spec_PowerMat.mono _ _ _ _ _ _
      | exact LeO.none _
      | refine LeO.ite ?_ ?_
      | refine LeO.bind ?_ (fun _ => ?_)
set_option maxHeartbeats 8000000 in
set_option maxRecDepth 100000 in
theorem laws_FnOrders.calls (k : Nat) (A0 : Option Addr) (c0 : Nat) (l0 : List Int) (w : World) (hr0 : Kd.C (Kd.int .u8) w A0 l0.length l0) (hc0 : l0.length ≤ c0) (h : laws_FnOrders.f k l0 = some true) :
    Calls Try.prog 7 #[.slice A0 l0.length c0] w fun e w' => e = .returned (.bool true) ∧ Below w.heap.size w w' := by
  have hu51 := Try.underlying51
  have HR0 := Aside0.mk hr0
  have HC0 := Aside0.mk hc0
  clear hr0 hc0
  have HB := Aside0.mk (Below.refl w.heap.size w)
  have H : ((laws_big.f l0).bind fun t937 => (if t937 = true then (some true) else ((spec_DrawOrderOf.f k l0).bind fun bt938 => ((impl_OrderOf.f k bt938.1 bt938.2.1 bt938.2.2.1 bt938.2.2.2).bind fun bt943 => ((spec_OrderOf.f k bt938.1 bt938.2.1 bt938.2.2.1 bt938.2.2.2).bind fun bt945 => ((spec_DrawPowerMat.f k l0).bind fun bt947 => ((impl_PowerMat.f k bt947.1 bt947.2.1 bt947.2.2.1 bt947.2.2.2.1 bt947.2.2.2.2).bind fun bt953 => ((spec_PowerMat.f k bt947.1 bt947.2.1 bt947.2.2.1 bt947.2.2.2.1 bt947.2.2.2.2).bind fun bt959 => ((spec_DrawMatKind.f k l0).bind fun bt965 => ((impl_MatKind.f k bt965.1 bt965.2.1 bt965.2.2.1 bt965.2.2.2).bind fun bt970 => ((spec_MatKind.f k bt965.1 bt965.2.1 bt965.2.2.1 bt965.2.2.2).bind fun bt972 => (if bt943.2 = bt945.2 then (if bt943.1 = bt945.1 then (if bt953.2.2.2.2 = bt959.2.2.2.2 then (if (!(bt953.1 == bt959.1) || (!(bt953.2.1 == bt959.2.1) || (!(bt953.2.2.1 == bt959.2.2.1) || (!(bt953.2.2.2.1 == bt959.2.2.2.1))))) = true then (laws_FnOrders.j0 k bt943.1 bt943.2 bt947.2.2.2.2 bt953.2.2.2.2 true bt938.1 bt938.2.1 bt938.2.2.1 bt938.2.2.2 bt947.1 bt947.2.1 bt947.2.2.1 bt947.2.2.2.1 bt953.1 bt953.2.1 bt953.2.2.1 bt953.2.2.2.1) else (if bt970.2 = bt972.2 then (laws_FnOrders.j0 k bt943.1 bt943.2 bt947.2.2.2.2 bt953.2.2.2.2 (bt970.1 != bt972.1) bt938.1 bt938.2.1 bt938.2.2.1 bt938.2.2.2 bt947.1 bt947.2.1 bt947.2.2.1 bt947.2.2.2.1 bt953.1 bt953.2.1 bt953.2.2.1 bt953.2.2.2.1) else (laws_FnOrders.j0 k bt943.1 bt943.2 bt947.2.2.2.2 bt953.2.2.2.2 true bt938.1 bt938.2.1 bt938.2.2.1 bt938.2.2.2 bt947.1 bt947.2.1 bt947.2.2.1 bt947.2.2.2.1 bt953.1 bt953.2.1 bt953.2.2.1 bt953.2.2.2.1))) else (laws_FnOrders.j0 k bt943.1 bt943.2 bt947.2.2.2.2 bt953.2.2.2.2 true bt938.1 bt938.2.1 bt938.2.2.1 bt938.2.2.2 bt947.1 bt947.2.1 bt947.2.2.1 bt947.2.2.2.1 bt953.1 bt953.2.1 bt953.2.2.1 bt953.2.2.2.1)) else (laws_FnOrders.j0 k bt943.1 bt943.2 bt947.2.2.2.2 bt953.2.2.2.2 true bt938.1 bt938.2.1 bt938.2.2.1 bt938.2.2.2 bt947.1 bt947.2.1 bt947.2.2.1 bt947.2.2.2.1 bt953.1 bt953.2.1 bt953.2.2.1 bt953.2.2.2.1)) else (laws_FnOrders.j0 k bt943.1 bt943.2 bt947.2.2.2.2 bt953.2.2.2.2 true bt938.1 bt938.2.1 bt938.2.2.1 bt938.2.2.2 bt947.1 bt947.2.1 bt947.2.2.1 bt947.2.2.2.1 bt953.1 bt953.2.1 bt953.2.2.1 bt953.2.2.2.1))))))))))))) = some true := h
  clear h
  replace H := Option.bind_eq_some_iff.mp H
  obtain ⟨t937, A20, H⟩ := H
  replace H : (if t937 = true then (some true) else ((spec_DrawOrderOf.f k l0).bind fun bt938 => ((impl_OrderOf.f k bt938.1 bt938.2.1 bt938.2.2.1 bt938.2.2.2).bind fun bt943 => ((spec_OrderOf.f k bt938.1 bt938.2.1 bt938.2.2.1 bt938.2.2.2).bind fun bt945 => ((spec_DrawPowerMat.f k l0).bind fun bt947 => ((impl_PowerMat.f k bt947.1 bt947.2.1 bt947.2.2.1 bt947.2.2.2.1 bt947.2.2.2.2).bind fun bt953 => ((spec_PowerMat.f k bt947.1 bt947.2.1 bt947.2.2.1 bt947.2.2.2.1 bt947.2.2.2.2).bind fun bt959 => ((spec_DrawMatKind.f k l0).bind fun bt965 => ((impl_MatKind.f k bt965.1 bt965.2.1 bt965.2.2.1 bt965.2.2.2).bind fun bt970 => ((spec_MatKind.f k bt965.1 bt965.2.1 bt965.2.2.1 bt965.2.2.2).bind fun bt972 => (if bt943.2 = bt945.2 then (if bt943.1 = bt945.1 then (if bt953.2.2.2.2 = bt959.2.2.2.2 then (if (!(bt953.1 == bt959.1) || (!(bt953.2.1 == bt959.2.1) || (!(bt953.2.2.1 == bt959.2.2.1) || (!(bt953.2.2.2.1 == bt959.2.2.2.1))))) = true then (laws_FnOrders.j0 k bt943.1 bt943.2 bt947.2.2.2.2 bt953.2.2.2.2 true bt938.1 bt938.2.1 bt938.2.2.1 bt938.2.2.2 bt947.1 bt947.2.1 bt947.2.2.1 bt947.2.2.2.1 bt953.1 bt953.2.1 bt953.2.2.1 bt953.2.2.2.1) else (if bt970.2 = bt972.2 then (laws_FnOrders.j0 k bt943.1 bt943.2 bt947.2.2.2.2 bt953.2.2.2.2 (bt970.1 != bt972.1) bt938.1 bt938.2.1 bt938.2.2.1 bt938.2.2.2 bt947.1 bt947.2.1 bt947.2.2.1 bt947.2.2.2.1 bt953.1 bt953.2.1 bt953.2.2.1 bt953.2.2.2.1) else (laws_FnOrders.j0 k bt943.1 bt943.2 bt947.2.2.2.2 bt953.2.2.2.2 true bt938.1 bt938.2.1 bt938.2.2.1 bt938.2.2.2 bt947.1 bt947.2.1 bt947.2.2.1 bt947.2.2.2.1 bt953.1 bt953.2.1 bt953.2.2.1 bt953.2.2.2.1))) else (laws_FnOrders.j0 k bt943.1 bt943.2 bt947.2.2.2.2 bt953.2.2.2.2 true bt938.1 bt938.2.1 bt938.2.2.1 bt938.2.2.2 bt947.1 bt947.2.1 bt947.2.2.1 bt947.2.2.2.1 bt953.1 bt953.2.1 bt953.2.2.1 bt953.2.2.2.1)) else (laws_FnOrders.j0 k bt943.1 bt943.2 bt947.2.2.2.2 bt953.2.2.2.2 true bt938.1 bt938.2.1 bt938.2.2.1 bt938.2.2.2 bt947.1 bt947.2.1 bt947.2.2.1 bt947.2.2.2.1 bt953.1 bt953.2.1 bt953.2.2.1 bt953.2.2.2.1)) else (laws_FnOrders.j0 k bt943.1 bt943.2 bt947.2.2.2.2 bt953.2.2.2.2 true bt938.1 bt938.2.1 bt938.2.2.1 bt938.2.2.2 bt947.1 bt947.2.1 bt947.2.2.1 bt947.2.2.2.1 bt953.1 bt953.2.1 bt953.2.2.1 bt953.2.2.2.1)))))))))))) = some true := H
  have A2 := Aside0.mk A20
  clear A20
  by_cases c3 : t937 = true
  · subst c3
    have H1 : (some true) = some true := rfl
    clear H
    have H := H1
    clear H1
    clear H
    go_enter Try.func7, Try.ntmps7
    go_wp2_with (first | ((with_reducible refine gate_callee (f := 14) rfl ?_); refine goesL_ (some 26) rfl rfl Try.func14 (by kernel_rfl) rfl #[.slice A0 l0.length c0] rfl (by (try simp only [List.map_toArray, List.map_cons, List.map_nil]); first | done | rfl | (simp only [List.length_drop, List.length_take]; rfl)) ?_; (with_reducible refine (laws_big.calls _ _ l0 true _ ?side1 ?side2 A2.out).mono ?_); (case side1 => repeat (first | exact HR0.out | (with_reducible refine Kd.C_alloc ?_ _) | (with_reducible refine Kd.C_drewN ?_ _) | (with_reducible refine Kd.C_drew ?_))); (case side2 => exact HC0.out); rintro e w' ⟨rfl, ⟨nd, rfl⟩⟩; refine ⟨_, rfl, ?_⟩))
    go_ret
    exact ⟨by first | rfl | (simp [errW_none, errW_some] <;> rfl) | (simp [*, errW_none, errW_some] <;> rfl), by repeat (first | (with_reducible first | exact HB.out | apply below_alloc | apply pw_below_drewN | apply below_drew1) | exact HB.out)⟩
  · replace c3 := Bool.eq_false_iff.mpr c3
    subst c3
    have H1 : ((spec_DrawOrderOf.f k l0).bind fun bt938 => ((impl_OrderOf.f k bt938.1 bt938.2.1 bt938.2.2.1 bt938.2.2.2).bind fun bt943 => ((spec_OrderOf.f k bt938.1 bt938.2.1 bt938.2.2.1 bt938.2.2.2).bind fun bt945 => ((spec_DrawPowerMat.f k l0).bind fun bt947 => ((impl_PowerMat.f k bt947.1 bt947.2.1 bt947.2.2.1 bt947.2.2.2.1 bt947.2.2.2.2).bind fun bt953 => ((spec_PowerMat.f k bt947.1 bt947.2.1 bt947.2.2.1 bt947.2.2.2.1 bt947.2.2.2.2).bind fun bt959 => ((spec_DrawMatKind.f k l0).bind fun bt965 => ((impl_MatKind.f k bt965.1 bt965.2.1 bt965.2.2.1 bt965.2.2.2).bind fun bt970 => ((spec_MatKind.f k bt965.1 bt965.2.1 bt965.2.2.1 bt965.2.2.2).bind fun bt972 => (if bt943.2 = bt945.2 then (if bt943.1 = bt945.1 then (if bt953.2.2.2.2 = bt959.2.2.2.2 then (if (!(bt953.1 == bt959.1) || (!(bt953.2.1 == bt959.2.1) || (!(bt953.2.2.1 == bt959.2.2.1) || (!(bt953.2.2.2.1 == bt959.2.2.2.1))))) = true then (laws_FnOrders.j0 k bt943.1 bt943.2 bt947.2.2.2.2 bt953.2.2.2.2 true bt938.1 bt938.2.1 bt938.2.2.1 bt938.2.2.2 bt947.1 bt947.2.1 bt947.2.2.1 bt947.2.2.2.1 bt953.1 bt953.2.1 bt953.2.2.1 bt953.2.2.2.1) else (if bt970.2 = bt972.2 then (laws_FnOrders.j0 k bt943.1 bt943.2 bt947.2.2.2.2 bt953.2.2.2.2 (bt970.1 != bt972.1) bt938.1 bt938.2.1 bt938.2.2.1 bt938.2.2.2 bt947.1 bt947.2.1 bt947.2.2.1 bt947.2.2.2.1 bt953.1 bt953.2.1 bt953.2.2.1 bt953.2.2.2.1) else (laws_FnOrders.j0 k bt943.1 bt943.2 bt947.2.2.2.2 bt953.2.2.2.2 true bt938.1 bt938.2.1 bt938.2.2.1 bt938.2.2.2 bt947.1 bt947.2.1 bt947.2.2.1 bt947.2.2.2.1 bt953.1 bt953.2.1 bt953.2.2.1 bt953.2.2.2.1))) else (laws_FnOrders.j0 k bt943.1 bt943.2 bt947.2.2.2.2 bt953.2.2.2.2 true bt938.1 bt938.2.1 bt938.2.2.1 bt938.2.2.2 bt947.1 bt947.2.1 bt947.2.2.1 bt947.2.2.2.1 bt953.1 bt953.2.1 bt953.2.2.1 bt953.2.2.2.1)) else (laws_FnOrders.j0 k bt943.1 bt943.2 bt947.2.2.2.2 bt953.2.2.2.2 true bt938.1 bt938.2.1 bt938.2.2.1 bt938.2.2.2 bt947.1 bt947.2.1 bt947.2.2.1 bt947.2.2.2.1 bt953.1 bt953.2.1 bt953.2.2.1 bt953.2.2.2.1)) else (laws_FnOrders.j0 k bt943.1 bt943.2 bt947.2.2.2.2 bt953.2.2.2.2 true bt938.1 bt938.2.1 bt938.2.2.1 bt938.2.2.2 bt947.1 bt947.2.1 bt947.2.2.1 bt947.2.2.2.1 bt953.1 bt953.2.1 bt953.2.2.1 bt953.2.2.2.1))))))))))) = some true := by rw [if_neg (show ¬ (false = true) by decide)] at H; exact H
    clear H
    have H := H1
    clear H1
    replace H := Option.bind_eq_some_iff.mp H
    obtain ⟨⟨t938, t939, t940, t941⟩, A40, H⟩ := H
    replace H : ((impl_OrderOf.f k t938 t939 t940 t941).bind fun bt943 => ((spec_OrderOf.f k t938 t939 t940 t941).bind fun bt945 => ((spec_DrawPowerMat.f k l0).bind fun bt947 => ((impl_PowerMat.f k bt947.1 bt947.2.1 bt947.2.2.1 bt947.2.2.2.1 bt947.2.2.2.2).bind fun bt953 => ((spec_PowerMat.f k bt947.1 bt947.2.1 bt947.2.2.1 bt947.2.2.2.1 bt947.2.2.2.2).bind fun bt959 => ((spec_DrawMatKind.f k l0).bind fun bt965 => ((impl_MatKind.f k bt965.1 bt965.2.1 bt965.2.2.1 bt965.2.2.2).bind fun bt970 => ((spec_MatKind.f k bt965.1 bt965.2.1 bt965.2.2.1 bt965.2.2.2).bind fun bt972 => (if bt943.2 = bt945.2 then (if bt943.1 = bt945.1 then (if bt953.2.2.2.2 = bt959.2.2.2.2 then (if (!(bt953.1 == bt959.1) || (!(bt953.2.1 == bt959.2.1) || (!(bt953.2.2.1 == bt959.2.2.1) || (!(bt953.2.2.2.1 == bt959.2.2.2.1))))) = true then (laws_FnOrders.j0 k bt943.1 bt943.2 bt947.2.2.2.2 bt953.2.2.2.2 true t938 t939 t940 t941 bt947.1 bt947.2.1 bt947.2.2.1 bt947.2.2.2.1 bt953.1 bt953.2.1 bt953.2.2.1 bt953.2.2.2.1) else (if bt970.2 = bt972.2 then (laws_FnOrders.j0 k bt943.1 bt943.2 bt947.2.2.2.2 bt953.2.2.2.2 (bt970.1 != bt972.1) t938 t939 t940 t941 bt947.1 bt947.2.1 bt947.2.2.1 bt947.2.2.2.1 bt953.1 bt953.2.1 bt953.2.2.1 bt953.2.2.2.1) else (laws_FnOrders.j0 k bt943.1 bt943.2 bt947.2.2.2.2 bt953.2.2.2.2 true t938 t939 t940 t941 bt947.1 bt947.2.1 bt947.2.2.1 bt947.2.2.2.1 bt953.1 bt953.2.1 bt953.2.2.1 bt953.2.2.2.1))) else (laws_FnOrders.j0 k bt943.1 bt943.2 bt947.2.2.2.2 bt953.2.2.2.2 true t938 t939 t940 t941 bt947.1 bt947.2.1 bt947.2.2.1 bt947.2.2.2.1 bt953.1 bt953.2.1 bt953.2.2.1 bt953.2.2.2.1)) else (laws_FnOrders.j0 k bt943.1 bt943.2 bt947.2.2.2.2 bt953.2.2.2.2 true t938 t939 t940 t941 bt947.1 bt947.2.1 bt947.2.2.1 bt947.2.2.2.1 bt953.1 bt953.2.1 bt953.2.2.1 bt953.2.2.2.1)) else (laws_FnOrders.j0 k bt943.1 bt943.2 bt947.2.2.2.2 bt953.2.2.2.2 true t938 t939 t940 t941 bt947.1 bt947.2.1 bt947.2.2.1 bt947.2.2.2.1 bt953.1 bt953.2.1 bt953.2.2.1 bt953.2.2.2.1)))))))))) = some true := H
    have A4 := Aside0.mk A40
    clear A40
    replace H := Option.bind_eq_some_iff.mp H
    obtain ⟨⟨t943, t944⟩, A50, H⟩ := H
    replace H : ((spec_OrderOf.f k t938 t939 t940 t941).bind fun bt945 => ((spec_DrawPowerMat.f k l0).bind fun bt947 => ((impl_PowerMat.f k bt947.1 bt947.2.1 bt947.2.2.1 bt947.2.2.2.1 bt947.2.2.2.2).bind fun bt953 => ((spec_PowerMat.f k bt947.1 bt947.2.1 bt947.2.2.1 bt947.2.2.2.1 bt947.2.2.2.2).bind fun bt959 => ((spec_DrawMatKind.f k l0).bind fun bt965 => ((impl_MatKind.f k bt965.1 bt965.2.1 bt965.2.2.1 bt965.2.2.2).bind fun bt970 => ((spec_MatKind.f k bt965.1 bt965.2.1 bt965.2.2.1 bt965.2.2.2).bind fun bt972 => (if t944 = bt945.2 then (if t943 = bt945.1 then (if bt953.2.2.2.2 = bt959.2.2.2.2 then (if (!(bt953.1 == bt959.1) || (!(bt953.2.1 == bt959.2.1) || (!(bt953.2.2.1 == bt959.2.2.1) || (!(bt953.2.2.2.1 == bt959.2.2.2.1))))) = true then (laws_FnOrders.j0 k t943 t944 bt947.2.2.2.2 bt953.2.2.2.2 true t938 t939 t940 t941 bt947.1 bt947.2.1 bt947.2.2.1 bt947.2.2.2.1 bt953.1 bt953.2.1 bt953.2.2.1 bt953.2.2.2.1) else (if bt970.2 = bt972.2 then (laws_FnOrders.j0 k t943 t944 bt947.2.2.2.2 bt953.2.2.2.2 (bt970.1 != bt972.1) t938 t939 t940 t941 bt947.1 bt947.2.1 bt947.2.2.1 bt947.2.2.2.1 bt953.1 bt953.2.1 bt953.2.2.1 bt953.2.2.2.1) else (laws_FnOrders.j0 k t943 t944 bt947.2.2.2.2 bt953.2.2.2.2 true t938 t939 t940 t941 bt947.1 bt947.2.1 bt947.2.2.1 bt947.2.2.2.1 bt953.1 bt953.2.1 bt953.2.2.1 bt953.2.2.2.1))) else (laws_FnOrders.j0 k t943 t944 bt947.2.2.2.2 bt953.2.2.2.2 true t938 t939 t940 t941 bt947.1 bt947.2.1 bt947.2.2.1 bt947.2.2.2.1 bt953.1 bt953.2.1 bt953.2.2.1 bt953.2.2.2.1)) else (laws_FnOrders.j0 k t943 t944 bt947.2.2.2.2 bt953.2.2.2.2 true t938 t939 t940 t941 bt947.1 bt947.2.1 bt947.2.2.1 bt947.2.2.2.1 bt953.1 bt953.2.1 bt953.2.2.1 bt953.2.2.2.1)) else (laws_FnOrders.j0 k t943 t944 bt947.2.2.2.2 bt953.2.2.2.2 true t938 t939 t940 t941 bt947.1 bt947.2.1 bt947.2.2.1 bt947.2.2.2.1 bt953.1 bt953.2.1 bt953.2.2.1 bt953.2.2.2.1))))))))) = some true := H
    have A5 := Aside0.mk A50
    clear A50
    replace H := Option.bind_eq_some_iff.mp H
    obtain ⟨⟨t945, t946⟩, A60, H⟩ := H
    replace H : ((spec_DrawPowerMat.f k l0).bind fun bt947 => ((impl_PowerMat.f k bt947.1 bt947.2.1 bt947.2.2.1 bt947.2.2.2.1 bt947.2.2.2.2).bind fun bt953 => ((spec_PowerMat.f k bt947.1 bt947.2.1 bt947.2.2.1 bt947.2.2.2.1 bt947.2.2.2.2).bind fun bt959 => ((spec_DrawMatKind.f k l0).bind fun bt965 => ((impl_MatKind.f k bt965.1 bt965.2.1 bt965.2.2.1 bt965.2.2.2).bind fun bt970 => ((spec_MatKind.f k bt965.1 bt965.2.1 bt965.2.2.1 bt965.2.2.2).bind fun bt972 => (if t944 = t946 then (if t943 = t945 then (if bt953.2.2.2.2 = bt959.2.2.2.2 then (if (!(bt953.1 == bt959.1) || (!(bt953.2.1 == bt959.2.1) || (!(bt953.2.2.1 == bt959.2.2.1) || (!(bt953.2.2.2.1 == bt959.2.2.2.1))))) = true then (laws_FnOrders.j0 k t943 t944 bt947.2.2.2.2 bt953.2.2.2.2 true t938 t939 t940 t941 bt947.1 bt947.2.1 bt947.2.2.1 bt947.2.2.2.1 bt953.1 bt953.2.1 bt953.2.2.1 bt953.2.2.2.1) else (if bt970.2 = bt972.2 then (laws_FnOrders.j0 k t943 t944 bt947.2.2.2.2 bt953.2.2.2.2 (bt970.1 != bt972.1) t938 t939 t940 t941 bt947.1 bt947.2.1 bt947.2.2.1 bt947.2.2.2.1 bt953.1 bt953.2.1 bt953.2.2.1 bt953.2.2.2.1) else (laws_FnOrders.j0 k t943 t944 bt947.2.2.2.2 bt953.2.2.2.2 true t938 t939 t940 t941 bt947.1 bt947.2.1 bt947.2.2.1 bt947.2.2.2.1 bt953.1 bt953.2.1 bt953.2.2.1 bt953.2.2.2.1))) else (laws_FnOrders.j0 k t943 t944 bt947.2.2.2.2 bt953.2.2.2.2 true t938 t939 t940 t941 bt947.1 bt947.2.1 bt947.2.2.1 bt947.2.2.2.1 bt953.1 bt953.2.1 bt953.2.2.1 bt953.2.2.2.1)) else (laws_FnOrders.j0 k t943 t944 bt947.2.2.2.2 bt953.2.2.2.2 true t938 t939 t940 t941 bt947.1 bt947.2.1 bt947.2.2.1 bt947.2.2.2.1 bt953.1 bt953.2.1 bt953.2.2.1 bt953.2.2.2.1)) else (laws_FnOrders.j0 k t943 t944 bt947.2.2.2.2 bt953.2.2.2.2 true t938 t939 t940 t941 bt947.1 bt947.2.1 bt947.2.2.1 bt947.2.2.2.1 bt953.1 bt953.2.1 bt953.2.2.1 bt953.2.2.2.1)))))))) = some true := H
    have A6 := Aside0.mk A60
    clear A60
    replace H := Option.bind_eq_some_iff.mp H
    obtain ⟨⟨t947, t948, t949, t950, t951⟩, A70, H⟩ := H
    replace H : ((impl_PowerMat.f k t947 t948 t949 t950 t951).bind fun bt953 => ((spec_PowerMat.f k t947 t948 t949 t950 t951).bind fun bt959 => ((spec_DrawMatKind.f k l0).bind fun bt965 => ((impl_MatKind.f k bt965.1 bt965.2.1 bt965.2.2.1 bt965.2.2.2).bind fun bt970 => ((spec_MatKind.f k bt965.1 bt965.2.1 bt965.2.2.1 bt965.2.2.2).bind fun bt972 => (if t944 = t946 then (if t943 = t945 then (if bt953.2.2.2.2 = bt959.2.2.2.2 then (if (!(bt953.1 == bt959.1) || (!(bt953.2.1 == bt959.2.1) || (!(bt953.2.2.1 == bt959.2.2.1) || (!(bt953.2.2.2.1 == bt959.2.2.2.1))))) = true then (laws_FnOrders.j0 k t943 t944 t951 bt953.2.2.2.2 true t938 t939 t940 t941 t947 t948 t949 t950 bt953.1 bt953.2.1 bt953.2.2.1 bt953.2.2.2.1) else (if bt970.2 = bt972.2 then (laws_FnOrders.j0 k t943 t944 t951 bt953.2.2.2.2 (bt970.1 != bt972.1) t938 t939 t940 t941 t947 t948 t949 t950 bt953.1 bt953.2.1 bt953.2.2.1 bt953.2.2.2.1) else (laws_FnOrders.j0 k t943 t944 t951 bt953.2.2.2.2 true t938 t939 t940 t941 t947 t948 t949 t950 bt953.1 bt953.2.1 bt953.2.2.1 bt953.2.2.2.1))) else (laws_FnOrders.j0 k t943 t944 t951 bt953.2.2.2.2 true t938 t939 t940 t941 t947 t948 t949 t950 bt953.1 bt953.2.1 bt953.2.2.1 bt953.2.2.2.1)) else (laws_FnOrders.j0 k t943 t944 t951 bt953.2.2.2.2 true t938 t939 t940 t941 t947 t948 t949 t950 bt953.1 bt953.2.1 bt953.2.2.1 bt953.2.2.2.1)) else (laws_FnOrders.j0 k t943 t944 t951 bt953.2.2.2.2 true t938 t939 t940 t941 t947 t948 t949 t950 bt953.1 bt953.2.1 bt953.2.2.1 bt953.2.2.2.1))))))) = some true := H
    have A7 := Aside0.mk A70
    clear A70
    replace H := Option.bind_eq_some_iff.mp H
    obtain ⟨⟨t953, t954, t955, t956, t957⟩, A80, H⟩ := H
    replace H : ((spec_PowerMat.f k t947 t948 t949 t950 t951).bind fun bt959 => ((spec_DrawMatKind.f k l0).bind fun bt965 => ((impl_MatKind.f k bt965.1 bt965.2.1 bt965.2.2.1 bt965.2.2.2).bind fun bt970 => ((spec_MatKind.f k bt965.1 bt965.2.1 bt965.2.2.1 bt965.2.2.2).bind fun bt972 => (if t944 = t946 then (if t943 = t945 then (if t957 = bt959.2.2.2.2 then (if (!(t953 == bt959.1) || (!(t954 == bt959.2.1) || (!(t955 == bt959.2.2.1) || (!(t956 == bt959.2.2.2.1))))) = true then (laws_FnOrders.j0 k t943 t944 t951 t957 true t938 t939 t940 t941 t947 t948 t949 t950 t953 t954 t955 t956) else (if bt970.2 = bt972.2 then (laws_FnOrders.j0 k t943 t944 t951 t957 (bt970.1 != bt972.1) t938 t939 t940 t941 t947 t948 t949 t950 t953 t954 t955 t956) else (laws_FnOrders.j0 k t943 t944 t951 t957 true t938 t939 t940 t941 t947 t948 t949 t950 t953 t954 t955 t956))) else (laws_FnOrders.j0 k t943 t944 t951 t957 true t938 t939 t940 t941 t947 t948 t949 t950 t953 t954 t955 t956)) else (laws_FnOrders.j0 k t943 t944 t951 t957 true t938 t939 t940 t941 t947 t948 t949 t950 t953 t954 t955 t956)) else (laws_FnOrders.j0 k t943 t944 t951 t957 true t938 t939 t940 t941 t947 t948 t949 t950 t953 t954 t955 t956)))))) = some true := H
    have A8 := Aside0.mk A80
    clear A80
    replace H := Option.bind_eq_some_iff.mp H
    obtain ⟨⟨t959, t960, t961, t962, t963⟩, A90, H⟩ := H
    replace H : ((spec_DrawMatKind.f k l0).bind fun bt965 => ((impl_MatKind.f k bt965.1 bt965.2.1 bt965.2.2.1 bt965.2.2.2).bind fun bt970 => ((spec_MatKind.f k bt965.1 bt965.2.1 bt965.2.2.1 bt965.2.2.2).bind fun bt972 => (if t944 = t946 then (if t943 = t945 then (if t957 = t963 then (if (!(t953 == t959) || (!(t954 == t960) || (!(t955 == t961) || (!(t956 == t962))))) = true then (laws_FnOrders.j0 k t943 t944 t951 t957 true t938 t939 t940 t941 t947 t948 t949 t950 t953 t954 t955 t956) else (if bt970.2 = bt972.2 then (laws_FnOrders.j0 k t943 t944 t951 t957 (bt970.1 != bt972.1) t938 t939 t940 t941 t947 t948 t949 t950 t953 t954 t955 t956) else (laws_FnOrders.j0 k t943 t944 t951 t957 true t938 t939 t940 t941 t947 t948 t949 t950 t953 t954 t955 t956))) else (laws_FnOrders.j0 k t943 t944 t951 t957 true t938 t939 t940 t941 t947 t948 t949 t950 t953 t954 t955 t956)) else (laws_FnOrders.j0 k t943 t944 t951 t957 true t938 t939 t940 t941 t947 t948 t949 t950 t953 t954 t955 t956)) else (laws_FnOrders.j0 k t943 t944 t951 t957 true t938 t939 t940 t941 t947 t948 t949 t950 t953 t954 t955 t956))))) = some true := H
    have A9 := Aside0.mk A90
    clear A90
    replace H := Option.bind_eq_some_iff.mp H
    obtain ⟨⟨t965, t966, t967, t968⟩, A100, H⟩ := H
    replace H : ((impl_MatKind.f k t965 t966 t967 t968).bind fun bt970 => ((spec_MatKind.f k t965 t966 t967 t968).bind fun bt972 => (if t944 = t946 then (if t943 = t945 then (if t957 = t963 then (if (!(t953 == t959) || (!(t954 == t960) || (!(t955 == t961) || (!(t956 == t962))))) = true then (laws_FnOrders.j0 k t943 t944 t951 t957 true t938 t939 t940 t941 t947 t948 t949 t950 t953 t954 t955 t956) else (if bt970.2 = bt972.2 then (laws_FnOrders.j0 k t943 t944 t951 t957 (bt970.1 != bt972.1) t938 t939 t940 t941 t947 t948 t949 t950 t953 t954 t955 t956) else (laws_FnOrders.j0 k t943 t944 t951 t957 true t938 t939 t940 t941 t947 t948 t949 t950 t953 t954 t955 t956))) else (laws_FnOrders.j0 k t943 t944 t951 t957 true t938 t939 t940 t941 t947 t948 t949 t950 t953 t954 t955 t956)) else (laws_FnOrders.j0 k t943 t944 t951 t957 true t938 t939 t940 t941 t947 t948 t949 t950 t953 t954 t955 t956)) else (laws_FnOrders.j0 k t943 t944 t951 t957 true t938 t939 t940 t941 t947 t948 t949 t950 t953 t954 t955 t956)))) = some true := H
    have A10 := Aside0.mk A100
    clear A100
    replace H := Option.bind_eq_some_iff.mp H
    obtain ⟨⟨t970, t971⟩, A110, H⟩ := H
    replace H : ((spec_MatKind.f k t965 t966 t967 t968).bind fun bt972 => (if t944 = t946 then (if t943 = t945 then (if t957 = t963 then (if (!(t953 == t959) || (!(t954 == t960) || (!(t955 == t961) || (!(t956 == t962))))) = true then (laws_FnOrders.j0 k t943 t944 t951 t957 true t938 t939 t940 t941 t947 t948 t949 t950 t953 t954 t955 t956) else (if t971 = bt972.2 then (laws_FnOrders.j0 k t943 t944 t951 t957 (t970 != bt972.1) t938 t939 t940 t941 t947 t948 t949 t950 t953 t954 t955 t956) else (laws_FnOrders.j0 k t943 t944 t951 t957 true t938 t939 t940 t941 t947 t948 t949 t950 t953 t954 t955 t956))) else (laws_FnOrders.j0 k t943 t944 t951 t957 true t938 t939 t940 t941 t947 t948 t949 t950 t953 t954 t955 t956)) else (laws_FnOrders.j0 k t943 t944 t951 t957 true t938 t939 t940 t941 t947 t948 t949 t950 t953 t954 t955 t956)) else (laws_FnOrders.j0 k t943 t944 t951 t957 true t938 t939 t940 t941 t947 t948 t949 t950 t953 t954 t955 t956))) = some true := H
    have A11 := Aside0.mk A110
    clear A110
    replace H := Option.bind_eq_some_iff.mp H
    obtain ⟨⟨t972, t973⟩, A120, H⟩ := H
    replace H : (if t944 = t946 then (if t943 = t945 then (if t957 = t963 then (if (!(t953 == t959) || (!(t954 == t960) || (!(t955 == t961) || (!(t956 == t962))))) = true then (laws_FnOrders.j0 k t943 t944 t951 t957 true t938 t939 t940 t941 t947 t948 t949 t950 t953 t954 t955 t956) else (if t971 = t973 then (laws_FnOrders.j0 k t943 t944 t951 t957 (t970 != t972) t938 t939 t940 t941 t947 t948 t949 t950 t953 t954 t955 t956) else (laws_FnOrders.j0 k t943 t944 t951 t957 true t938 t939 t940 t941 t947 t948 t949 t950 t953 t954 t955 t956))) else (laws_FnOrders.j0 k t943 t944 t951 t957 true t938 t939 t940 t941 t947 t948 t949 t950 t953 t954 t955 t956)) else (laws_FnOrders.j0 k t943 t944 t951 t957 true t938 t939 t940 t941 t947 t948 t949 t950 t953 t954 t955 t956)) else (laws_FnOrders.j0 k t943 t944 t951 t957 true t938 t939 t940 t941 t947 t948 t949 t950 t953 t954 t955 t956)) = some true := H
    have A12 := Aside0.mk A120
    clear A120
    have HC13 := Aside0.mk H
    clear H
    go_enter Try.func7, Try.ntmps7
    go_upto_region 12 with (first | ((with_reducible refine gate_callee (f := 14) rfl ?_); refine goesL_ (some 26) rfl rfl Try.func14 (by kernel_rfl) rfl #[.slice A0 l0.length c0] rfl (by (try simp only [List.map_toArray, List.map_cons, List.map_nil]); first | done | rfl | (simp only [List.length_drop, List.length_take]; rfl)) ?_; (with_reducible refine (laws_big.calls _ _ l0 false _ ?side1 ?side2 A2.out).mono ?_); (case side1 => repeat (first | exact HR0.out | (with_reducible refine Kd.C_alloc ?_ _) | (with_reducible refine Kd.C_drewN ?_ _) | (with_reducible refine Kd.C_drew ?_))); (case side2 => exact HC0.out); rintro e w' ⟨rfl, ⟨nd, rfl⟩⟩; refine ⟨_, rfl, ?_⟩) | ((with_reducible refine gate_callee (f := 53) rfl ?_); refine goesL_ (some 28) rfl rfl Try.func53 (by kernel_rfl) rfl #[.slice A0 l0.length c0] rfl (by (try simp only [List.map_toArray, List.map_cons, List.map_nil]); first | done | rfl | (simp only [List.length_drop, List.length_take]; rfl)) ?_; (with_reducible refine (spec_DrawOrderOf.calls k _ _ l0 t938 t939 t940 t941 _ ?side1 ?side2 A4.out).mono ?_); (case side1 => repeat (first | exact HR0.out | (with_reducible refine Kd.C_alloc ?_ _) | (with_reducible refine Kd.C_drewN ?_ _) | (with_reducible refine Kd.C_drew ?_))); (case side2 => exact HC0.out); rintro e w14 ⟨rfl, hb⟩; refine ⟨_, rfl, ?_⟩; have n0_ := Aside0.mk (below_step (by repeat (first | (with_reducible first | exact HB.out | apply below_alloc | apply pw_below_drewN | apply below_drew1) | exact HB.out)) hb); clear HB; have HB := n0_; clear n0_; (try clear hb); (try clear hb2); (try clear hk); (try clear hi)) | ((with_reducible refine gate_dst (N := 3) rfl ?_); refine box_event ?hg (N := 3) ?hd (cs := #[.int .i64 0, .int .i64 0, .int .i64 0, .int .i64 0]) (t := 51) ?hr ?_; (case hd => rfl); (case hg => rfl); (case hr => first | (go_simp; done) | (go_simp; rfl)); intro gb942 hg w15 hbox hb; have n0_ := Aside0.mk (below_step (by repeat (first | (with_reducible first | exact HB.out | apply below_alloc | apply pw_below_drewN | apply below_drew1) | exact HB.out)) hb); have n1_ := Aside0.mk (hbox); have n2_ := Aside0.mk ((by rw [hg]; exact (below_size (by repeat (first | (with_reducible first | exact HB.out | apply below_alloc | apply pw_below_drewN | apply below_drew1) | exact HB.out))) : w.heap.size ≤ gb942)); have n3_ := Aside0.mk ((by rw [hg]; exact (below_size (by repeat (first | (with_reducible first | exact HB.out | apply below_alloc | apply pw_below_drewN | apply below_drew1) | exact HB.out))) : w.heap.size ≤ gb942)); clear HB; have HB := n0_; have BK942 := n1_; have GW942 := n2_; have GE942 := n3_; clear n0_ n1_ n2_ n3_; clear hb hbox hg; have hcz16_0 : w15.cell? ⟨gb942, 0, none⟩ = some (.int .i64 0) := (blk_cell BK942.out 0).trans rfl; have hcz16_1 : w15.cell? ⟨gb942, 1, none⟩ = some (.int .i64 0) := (blk_cell BK942.out 1).trans rfl; have hcz16_2 : w15.cell? ⟨gb942, 2, none⟩ = some (.int .i64 0) := (blk_cell BK942.out 2).trans rfl; have hcz16_3 : w15.cell? ⟨gb942, 3, none⟩ = some (.int .i64 0) := (blk_cell BK942.out 3).trans rfl; have hfz16_0 := blk_frozen BK942.out 0; have hfz16_1 := blk_frozen BK942.out 1; have hfz16_2 := blk_frozen BK942.out 2; have hfz16_3 := blk_frozen BK942.out 3) | ((with_reducible refine gate_callee (f := 54) rfl ?_); refine goesL_ (some 31) rfl rfl Try.func54 (by kernel_rfl) rfl #[.agg #[.int .i64 t938, .int .i64 t939, .int .i64 t940, .int .i64 t941]] rfl (by (try simp only [List.map_toArray, List.map_cons, List.map_nil]); first | done | rfl | (simp only [List.length_drop, List.length_take]; rfl)) ?_; (with_reducible refine (impl_OrderOf.calls k t938 t939 t940 t941 t943 t944 _ A5.out).mono ?_); rintro e w17 ⟨rfl, hb⟩; refine ⟨_, rfl, ?_⟩; have n0_ := Aside0.mk (blk_below (g := gb942) (o := .cells #[.int .i64 t938, .int .i64 t939, .int .i64 t940, .int .i64 t941] 51 (0, 0)) (by (with_reducible repeat (first | refine blk_drewN ?_ _ | refine blk_drew ?_ | refine blk_alloc ?_ _)); refine blk_put (cs := #[.int .i64 t938, .int .i64 t939, .int .i64 t940, .int .i64 0]) ?_ 3 _ rfl; (with_reducible repeat (first | refine blk_drewN ?_ _ | refine blk_drew ?_ | refine blk_alloc ?_ _)); refine blk_put (cs := #[.int .i64 t938, .int .i64 t939, .int .i64 0, .int .i64 0]) ?_ 2 _ rfl; (with_reducible repeat (first | refine blk_drewN ?_ _ | refine blk_drew ?_ | refine blk_alloc ?_ _)); refine blk_put (cs := #[.int .i64 t938, .int .i64 0, .int .i64 0, .int .i64 0]) ?_ 1 _ rfl; (with_reducible repeat (first | refine blk_drewN ?_ _ | refine blk_drew ?_ | refine blk_alloc ?_ _)); refine blk_put (cs := #[.int .i64 0, .int .i64 0, .int .i64 0, .int .i64 0]) ?_ 0 _ rfl; (with_reducible repeat (first | refine blk_drewN ?_ _ | refine blk_drew ?_ | refine blk_alloc ?_ _)); exact BK942.out) hb); have n1_ := Aside0.mk (below_step (by repeat (first | (with_reducible first | exact HB.out | apply below_alloc | apply pw_below_drewN | apply below_drew1 | refine below_set ?_ GE942.out) | exact HB.out)) hb); clear BK942; clear HB; have BK942 := n0_; have HB := n1_; clear n0_ n1_; (try clear hb); (try clear hb2); (try clear hk); (try clear hi); have hcz18_0 : w17.cell? ⟨gb942, 0, none⟩ = some (.int .i64 t938) := (blk_cell BK942.out 0).trans rfl; have hcz18_1 : w17.cell? ⟨gb942, 1, none⟩ = some (.int .i64 t939) := (blk_cell BK942.out 1).trans rfl; have hcz18_2 : w17.cell? ⟨gb942, 2, none⟩ = some (.int .i64 t940) := (blk_cell BK942.out 2).trans rfl; have hcz18_3 : w17.cell? ⟨gb942, 3, none⟩ = some (.int .i64 t941) := (blk_cell BK942.out 3).trans rfl; have hfz18_0 := blk_frozen BK942.out 0; have hfz18_1 := blk_frozen BK942.out 1; have hfz18_2 := blk_frozen BK942.out 2; have hfz18_3 := blk_frozen BK942.out 3) | ((with_reducible refine gate_callee (f := 55) rfl ?_); refine goesL_ (some 36) rfl rfl Try.func55 (by kernel_rfl) rfl #[.agg #[.int .i64 t938, .int .i64 t939, .int .i64 t940, .int .i64 t941]] rfl (by (try simp only [List.map_toArray, List.map_cons, List.map_nil]); first | done | rfl | (simp only [List.length_drop, List.length_take]; rfl)) ?_; (with_reducible refine (spec_OrderOf.calls k t938 t939 t940 t941 t945 t946 _ A6.out).mono ?_); rintro e w19 ⟨rfl, hb⟩; refine ⟨_, rfl, ?_⟩; have n0_ := Aside0.mk (blk_below (g := gb942) (o := .cells #[.int .i64 t938, .int .i64 t939, .int .i64 t940, .int .i64 t941] 51 (0, 0)) (by (with_reducible repeat (first | refine blk_drewN ?_ _ | refine blk_drew ?_ | refine blk_alloc ?_ _)); exact BK942.out) hb); have n1_ := Aside0.mk (below_step (by repeat (first | (with_reducible first | exact HB.out | apply below_alloc | apply pw_below_drewN | apply below_drew1 | refine below_set ?_ GE942.out) | exact HB.out)) hb); clear BK942; clear HB; have BK942 := n0_; have HB := n1_; clear n0_ n1_; (try clear hb); (try clear hb2); (try clear hk); (try clear hi)) | ((with_reducible refine gate_callee (f := 56) rfl ?_); refine goesL_ (some 41) rfl rfl Try.func56 (by kernel_rfl) rfl #[.slice A0 l0.length c0] rfl (by (try simp only [List.map_toArray, List.map_cons, List.map_nil]); first | done | rfl | (simp only [List.length_drop, List.length_take]; rfl)) ?_; (with_reducible refine (spec_DrawPowerMat.calls k _ _ l0 t947 t948 t949 t950 t951 _ ?side1 ?side2 A7.out).mono ?_); (case side1 => repeat (first | exact (Kd.C_below HR0.out HB.out) | (with_reducible refine Kd.C_alloc ?_ _) | (with_reducible refine Kd.C_drewN ?_ _) | (with_reducible refine Kd.C_drew ?_))); (case side2 => exact HC0.out); rintro e w20 ⟨rfl, hb⟩; refine ⟨_, rfl, ?_⟩; have n0_ := Aside0.mk (blk_below (g := gb942) (o := .cells #[.int .i64 t938, .int .i64 t939, .int .i64 t940, .int .i64 t941] 51 (0, 0)) (by (with_reducible repeat (first | refine blk_drewN ?_ _ | refine blk_drew ?_ | refine blk_alloc ?_ _)); exact BK942.out) hb); have n1_ := Aside0.mk (below_step (by repeat (first | (with_reducible first | exact HB.out | apply below_alloc | apply pw_below_drewN | apply below_drew1 | refine below_set ?_ GE942.out) | exact HB.out)) hb); clear BK942; clear HB; have BK942 := n0_; have HB := n1_; clear n0_ n1_; (try clear hb); (try clear hb2); (try clear hk); (try clear hi)) | ((with_reducible refine gate_dst (N := 8) rfl ?_); refine box_event ?hg (N := 8) ?hd (cs := #[.int .i64 0, .int .i64 0, .int .i64 0, .int .i64 0]) (t := 51) ?hr ?_; (case hd => rfl); (case hg => rfl); (case hr => first | (go_simp; done) | (go_simp; rfl)); intro gb952 hg w21 hbox hb; have n0_ := Aside0.mk (blk_below (g := gb942) (o := .cells #[.int .i64 t938, .int .i64 t939, .int .i64 t940, .int .i64 t941] 51 (0, 0)) (by (with_reducible repeat (first | refine blk_drewN ?_ _ | refine blk_drew ?_ | refine blk_alloc ?_ _)); exact BK942.out) hb); have n1_ := Aside0.mk (below_step (by repeat (first | (with_reducible first | exact HB.out | apply below_alloc | apply pw_below_drewN | apply below_drew1 | refine below_set ?_ GE942.out) | exact HB.out)) hb); have n2_ := Aside0.mk (hbox); have n3_ := Aside0.mk ((by rw [hg]; exact (below_size (by repeat (first | (with_reducible first | exact HB.out | apply below_alloc | apply pw_below_drewN | apply below_drew1 | refine below_set ?_ GE942.out) | exact HB.out))) : w.heap.size ≤ gb952)); have n4_ := Aside0.mk ((by rw [hg]; exact (below_size (by repeat (first | (with_reducible first | exact HB.out | apply below_alloc | apply pw_below_drewN | apply below_drew1 | refine below_set ?_ GE942.out) | exact HB.out))) : w.heap.size ≤ gb952)); have n5_ := Aside0.mk ((by rw [hg]; exact Nat.ne_of_lt (blk_lt (g := gb942) (o := .cells #[.int .i64 t938, .int .i64 t939, .int .i64 t940, .int .i64 t941] 51 (0, 0)) (by (with_reducible repeat (first | refine blk_drewN ?_ _ | refine blk_drew ?_ | refine blk_alloc ?_ _)); exact BK942.out)) : gb942 ≠ gb952)); have n6_ := Aside0.mk ((by rw [hg]; exact Nat.ne_of_gt (blk_lt (g := gb942) (o := .cells #[.int .i64 t938, .int .i64 t939, .int .i64 t940, .int .i64 t941] 51 (0, 0)) (by (with_reducible repeat (first | refine blk_drewN ?_ _ | refine blk_drew ?_ | refine blk_alloc ?_ _)); exact BK942.out)) : gb952 ≠ gb942)); clear BK942; clear HB; have BK942 := n0_; have HB := n1_; have BK952 := n2_; have GW952 := n3_; have GE952 := n4_; have NB942_952 := n5_; have NB952_942 := n6_; clear n0_ n1_ n2_ n3_ n4_ n5_ n6_; clear hb hbox hg; have hnb22 := NB952_942.out; have hnc22 := NB942_952.out; have hcz23_0 : w21.cell? ⟨gb952, 0, none⟩ = some (.int .i64 0) := (blk_cell BK952.out 0).trans rfl; have hcz23_1 : w21.cell? ⟨gb952, 1, none⟩ = some (.int .i64 0) := (blk_cell BK952.out 1).trans rfl; have hcz23_2 : w21.cell? ⟨gb952, 2, none⟩ = some (.int .i64 0) := (blk_cell BK952.out 2).trans rfl; have hcz23_3 : w21.cell? ⟨gb952, 3, none⟩ = some (.int .i64 0) := (blk_cell BK952.out 3).trans rfl; have hfz23_0 := blk_frozen BK952.out 0; have hfz23_1 := blk_frozen BK952.out 1; have hfz23_2 := blk_frozen BK952.out 2; have hfz23_3 := blk_frozen BK952.out 3) | ((with_reducible refine gate_callee (f := 57) rfl ?_); refine goesL_ (some 47) rfl rfl Try.func57 (by kernel_rfl) rfl #[.agg #[.int .i64 t947, .int .i64 t948, .int .i64 t949, .int .i64 t950], .int .i64 t951] rfl (by (try simp only [List.map_toArray, List.map_cons, List.map_nil]); first | done | rfl | (simp only [List.length_drop, List.length_take]; rfl)) ?_; (with_reducible refine (impl_PowerMat.calls k t947 t948 t949 t950 t951 t953 t954 t955 t956 t957 _ A8.out).mono ?_); rintro e w24 ⟨rfl, hb⟩; refine ⟨_, rfl, ?_⟩; have n0_ := Aside0.mk (blk_below (g := gb942) (o := .cells #[.int .i64 t938, .int .i64 t939, .int .i64 t940, .int .i64 t941] 51 (0, 0)) (by (with_reducible repeat (first | refine blk_drewN ?_ _ | refine blk_drew ?_ | refine blk_alloc ?_ _)); refine blk_far ?_ NB942_952.out _; (with_reducible repeat (first | refine blk_drewN ?_ _ | refine blk_drew ?_ | refine blk_alloc ?_ _)); refine blk_far ?_ NB942_952.out _; (with_reducible repeat (first | refine blk_drewN ?_ _ | refine blk_drew ?_ | refine blk_alloc ?_ _)); refine blk_far ?_ NB942_952.out _; (with_reducible repeat (first | refine blk_drewN ?_ _ | refine blk_drew ?_ | refine blk_alloc ?_ _)); refine blk_far ?_ NB942_952.out _; (with_reducible repeat (first | refine blk_drewN ?_ _ | refine blk_drew ?_ | refine blk_alloc ?_ _)); exact BK942.out) hb); have n1_ := Aside0.mk (blk_below (g := gb952) (o := .cells #[.int .i64 t947, .int .i64 t948, .int .i64 t949, .int .i64 t950] 51 (0, 0)) (by (with_reducible repeat (first | refine blk_drewN ?_ _ | refine blk_drew ?_ | refine blk_alloc ?_ _)); refine blk_put (cs := #[.int .i64 t947, .int .i64 t948, .int .i64 t949, .int .i64 0]) ?_ 3 _ rfl; (with_reducible repeat (first | refine blk_drewN ?_ _ | refine blk_drew ?_ | refine blk_alloc ?_ _)); refine blk_put (cs := #[.int .i64 t947, .int .i64 t948, .int .i64 0, .int .i64 0]) ?_ 2 _ rfl; (with_reducible repeat (first | refine blk_drewN ?_ _ | refine blk_drew ?_ | refine blk_alloc ?_ _)); refine blk_put (cs := #[.int .i64 t947, .int .i64 0, .int .i64 0, .int .i64 0]) ?_ 1 _ rfl; (with_reducible repeat (first | refine blk_drewN ?_ _ | refine blk_drew ?_ | refine blk_alloc ?_ _)); refine blk_put (cs := #[.int .i64 0, .int .i64 0, .int .i64 0, .int .i64 0]) ?_ 0 _ rfl; (with_reducible repeat (first | refine blk_drewN ?_ _ | refine blk_drew ?_ | refine blk_alloc ?_ _)); exact BK952.out) hb); have n2_ := Aside0.mk (below_step (by repeat (first | (with_reducible first | exact HB.out | apply below_alloc | apply pw_below_drewN | apply below_drew1 | refine below_set ?_ GE942.out | refine below_set ?_ GE952.out) | exact HB.out)) hb); clear BK942; clear BK952; clear HB; have BK942 := n0_; have BK952 := n1_; have HB := n2_; clear n0_ n1_ n2_; (try clear hb); (try clear hb2); (try clear hk); (try clear hi)) | ((with_reducible refine gate_dst (N := 10) rfl ?_); refine box_event ?hg (N := 10) ?hd (cs := #[.int .i64 0, .int .i64 0, .int .i64 0, .int .i64 0]) (t := 51) ?hr ?_; (case hd => rfl); (case hg => rfl); (case hr => first | (go_simp; done) | (go_simp; rfl)); intro gb958 hg w25 hbox hb; have n0_ := Aside0.mk (blk_below (g := gb942) (o := .cells #[.int .i64 t938, .int .i64 t939, .int .i64 t940, .int .i64 t941] 51 (0, 0)) (by (with_reducible repeat (first | refine blk_drewN ?_ _ | refine blk_drew ?_ | refine blk_alloc ?_ _)); exact BK942.out) hb); have n1_ := Aside0.mk (blk_below (g := gb952) (o := .cells #[.int .i64 t947, .int .i64 t948, .int .i64 t949, .int .i64 t950] 51 (0, 0)) (by (with_reducible repeat (first | refine blk_drewN ?_ _ | refine blk_drew ?_ | refine blk_alloc ?_ _)); exact BK952.out) hb); have n2_ := Aside0.mk (below_step (by repeat (first | (with_reducible first | exact HB.out | apply below_alloc | apply pw_below_drewN | apply below_drew1 | refine below_set ?_ GE942.out | refine below_set ?_ GE952.out) | exact HB.out)) hb); have n3_ := Aside0.mk (hbox); have n4_ := Aside0.mk ((by rw [hg]; exact (below_size (by repeat (first | (with_reducible first | exact HB.out | apply below_alloc | apply pw_below_drewN | apply below_drew1 | refine below_set ?_ GE942.out | refine below_set ?_ GE952.out) | exact HB.out))) : w.heap.size ≤ gb958)); have n5_ := Aside0.mk ((by rw [hg]; exact (below_size (by repeat (first | (with_reducible first | exact HB.out | apply below_alloc | apply pw_below_drewN | apply below_drew1 | refine below_set ?_ GE942.out | refine below_set ?_ GE952.out) | exact HB.out))) : w.heap.size ≤ gb958)); have n6_ := Aside0.mk ((by rw [hg]; exact Nat.ne_of_lt (blk_lt (g := gb942) (o := .cells #[.int .i64 t938, .int .i64 t939, .int .i64 t940, .int .i64 t941] 51 (0, 0)) (by (with_reducible repeat (first | refine blk_drewN ?_ _ | refine blk_drew ?_ | refine blk_alloc ?_ _)); exact BK942.out)) : gb942 ≠ gb958)); have n7_ := Aside0.mk ((by rw [hg]; exact Nat.ne_of_gt (blk_lt (g := gb942) (o := .cells #[.int .i64 t938, .int .i64 t939, .int .i64 t940, .int .i64 t941] 51 (0, 0)) (by (with_reducible repeat (first | refine blk_drewN ?_ _ | refine blk_drew ?_ | refine blk_alloc ?_ _)); exact BK942.out)) : gb958 ≠ gb942)); have n8_ := Aside0.mk ((by rw [hg]; exact Nat.ne_of_lt (blk_lt (g := gb952) (o := .cells #[.int .i64 t947, .int .i64 t948, .int .i64 t949, .int .i64 t950] 51 (0, 0)) (by (with_reducible repeat (first | refine blk_drewN ?_ _ | refine blk_drew ?_ | refine blk_alloc ?_ _)); exact BK952.out)) : gb952 ≠ gb958)); have n9_ := Aside0.mk ((by rw [hg]; exact Nat.ne_of_gt (blk_lt (g := gb952) (o := .cells #[.int .i64 t947, .int .i64 t948, .int .i64 t949, .int .i64 t950] 51 (0, 0)) (by (with_reducible repeat (first | refine blk_drewN ?_ _ | refine blk_drew ?_ | refine blk_alloc ?_ _)); exact BK952.out)) : gb958 ≠ gb952)); clear BK942; clear BK952; clear HB; have BK942 := n0_; have BK952 := n1_; have HB := n2_; have BK958 := n3_; have GW958 := n4_; have GE958 := n5_; have NB942_958 := n6_; have NB958_942 := n7_; have NB952_958 := n8_; have NB958_952 := n9_; clear n0_ n1_ n2_ n3_ n4_ n5_ n6_ n7_ n8_ n9_; clear hb hbox hg; have hnb26 := NB958_942.out; have hnc26 := NB942_958.out; have hnb27 := NB958_952.out; have hnc27 := NB952_958.out; have hcz28_0 : w25.cell? ⟨gb958, 0, none⟩ = some (.int .i64 0) := (blk_cell BK958.out 0).trans rfl; have hcz28_1 : w25.cell? ⟨gb958, 1, none⟩ = some (.int .i64 0) := (blk_cell BK958.out 1).trans rfl; have hcz28_2 : w25.cell? ⟨gb958, 2, none⟩ = some (.int .i64 0) := (blk_cell BK958.out 2).trans rfl; have hcz28_3 : w25.cell? ⟨gb958, 3, none⟩ = some (.int .i64 0) := (blk_cell BK958.out 3).trans rfl; have hfz28_0 := blk_frozen BK958.out 0; have hfz28_1 := blk_frozen BK958.out 1; have hfz28_2 := blk_frozen BK958.out 2; have hfz28_3 := blk_frozen BK958.out 3; have hcz29_0 : w25.cell? ⟨gb952, 0, none⟩ = some (.int .i64 t947) := (blk_cell BK952.out 0).trans rfl; have hcz29_1 : w25.cell? ⟨gb952, 1, none⟩ = some (.int .i64 t948) := (blk_cell BK952.out 1).trans rfl; have hcz29_2 : w25.cell? ⟨gb952, 2, none⟩ = some (.int .i64 t949) := (blk_cell BK952.out 2).trans rfl; have hcz29_3 : w25.cell? ⟨gb952, 3, none⟩ = some (.int .i64 t950) := (blk_cell BK952.out 3).trans rfl; have hfz29_0 := blk_frozen BK952.out 0; have hfz29_1 := blk_frozen BK952.out 1; have hfz29_2 := blk_frozen BK952.out 2; have hfz29_3 := blk_frozen BK952.out 3) | ((with_reducible refine gate_callee (f := 58) rfl ?_); refine goesL_ (some 53) rfl rfl Try.func58 (by kernel_rfl) rfl #[.agg #[.int .i64 t947, .int .i64 t948, .int .i64 t949, .int .i64 t950], .int .i64 t951] rfl (by (try simp only [List.map_toArray, List.map_cons, List.map_nil]); first | done | rfl | (simp only [List.length_drop, List.length_take]; rfl)) ?_; (with_reducible refine (spec_PowerMat.calls k t947 t948 t949 t950 t951 t959 t960 t961 t962 t963 _ A9.out).mono ?_); rintro e w30 ⟨rfl, hb⟩; refine ⟨_, rfl, ?_⟩; have n0_ := Aside0.mk (blk_below (g := gb942) (o := .cells #[.int .i64 t938, .int .i64 t939, .int .i64 t940, .int .i64 t941] 51 (0, 0)) (by (with_reducible repeat (first | refine blk_drewN ?_ _ | refine blk_drew ?_ | refine blk_alloc ?_ _)); refine blk_far ?_ NB942_958.out _; (with_reducible repeat (first | refine blk_drewN ?_ _ | refine blk_drew ?_ | refine blk_alloc ?_ _)); refine blk_far ?_ NB942_958.out _; (with_reducible repeat (first | refine blk_drewN ?_ _ | refine blk_drew ?_ | refine blk_alloc ?_ _)); refine blk_far ?_ NB942_958.out _; (with_reducible repeat (first | refine blk_drewN ?_ _ | refine blk_drew ?_ | refine blk_alloc ?_ _)); refine blk_far ?_ NB942_958.out _; (with_reducible repeat (first | refine blk_drewN ?_ _ | refine blk_drew ?_ | refine blk_alloc ?_ _)); exact BK942.out) hb); have n1_ := Aside0.mk (blk_below (g := gb952) (o := .cells #[.int .i64 t947, .int .i64 t948, .int .i64 t949, .int .i64 t950] 51 (0, 0)) (by (with_reducible repeat (first | refine blk_drewN ?_ _ | refine blk_drew ?_ | refine blk_alloc ?_ _)); refine blk_far ?_ NB952_958.out _; (with_reducible repeat (first | refine blk_drewN ?_ _ | refine blk_drew ?_ | refine blk_alloc ?_ _)); refine blk_far ?_ NB952_958.out _; (with_reducible repeat (first | refine blk_drewN ?_ _ | refine blk_drew ?_ | refine blk_alloc ?_ _)); refine blk_far ?_ NB952_958.out _; (with_reducible repeat (first | refine blk_drewN ?_ _ | refine blk_drew ?_ | refine blk_alloc ?_ _)); refine blk_far ?_ NB952_958.out _; (with_reducible repeat (first | refine blk_drewN ?_ _ | refine blk_drew ?_ | refine blk_alloc ?_ _)); exact BK952.out) hb); have n2_ := Aside0.mk (blk_below (g := gb958) (o := .cells #[.int .i64 t953, .int .i64 t954, .int .i64 t955, .int .i64 t956] 51 (0, 0)) (by (with_reducible repeat (first | refine blk_drewN ?_ _ | refine blk_drew ?_ | refine blk_alloc ?_ _)); refine blk_put (cs := #[.int .i64 t953, .int .i64 t954, .int .i64 t955, .int .i64 0]) ?_ 3 _ rfl; (with_reducible repeat (first | refine blk_drewN ?_ _ | refine blk_drew ?_ | refine blk_alloc ?_ _)); refine blk_put (cs := #[.int .i64 t953, .int .i64 t954, .int .i64 0, .int .i64 0]) ?_ 2 _ rfl; (with_reducible repeat (first | refine blk_drewN ?_ _ | refine blk_drew ?_ | refine blk_alloc ?_ _)); refine blk_put (cs := #[.int .i64 t953, .int .i64 0, .int .i64 0, .int .i64 0]) ?_ 1 _ rfl; (with_reducible repeat (first | refine blk_drewN ?_ _ | refine blk_drew ?_ | refine blk_alloc ?_ _)); refine blk_put (cs := #[.int .i64 0, .int .i64 0, .int .i64 0, .int .i64 0]) ?_ 0 _ rfl; (with_reducible repeat (first | refine blk_drewN ?_ _ | refine blk_drew ?_ | refine blk_alloc ?_ _)); exact BK958.out) hb); have n3_ := Aside0.mk (below_step (by repeat (first | (with_reducible first | exact HB.out | apply below_alloc | apply pw_below_drewN | apply below_drew1 | refine below_set ?_ GE942.out | refine below_set ?_ GE952.out | refine below_set ?_ GE958.out) | exact HB.out)) hb); clear BK942; clear BK952; clear BK958; clear HB; have BK942 := n0_; have BK952 := n1_; have BK958 := n2_; have HB := n3_; clear n0_ n1_ n2_ n3_; (try clear hb); (try clear hb2); (try clear hk); (try clear hi)) | ((with_reducible refine gate_dst (N := 12) rfl ?_); refine box_event ?hg (N := 12) ?hd (cs := #[.int .i64 0, .int .i64 0, .int .i64 0, .int .i64 0]) (t := 51) ?hr ?_; (case hd => rfl); (case hg => rfl); (case hr => first | (go_simp; done) | (go_simp; rfl)); intro gb964 hg w31 hbox hb; have n0_ := Aside0.mk (blk_below (g := gb942) (o := .cells #[.int .i64 t938, .int .i64 t939, .int .i64 t940, .int .i64 t941] 51 (0, 0)) (by (with_reducible repeat (first | refine blk_drewN ?_ _ | refine blk_drew ?_ | refine blk_alloc ?_ _)); exact BK942.out) hb); have n1_ := Aside0.mk (blk_below (g := gb952) (o := .cells #[.int .i64 t947, .int .i64 t948, .int .i64 t949, .int .i64 t950] 51 (0, 0)) (by (with_reducible repeat (first | refine blk_drewN ?_ _ | refine blk_drew ?_ | refine blk_alloc ?_ _)); exact BK952.out) hb); have n2_ := Aside0.mk (blk_below (g := gb958) (o := .cells #[.int .i64 t953, .int .i64 t954, .int .i64 t955, .int .i64 t956] 51 (0, 0)) (by (with_reducible repeat (first | refine blk_drewN ?_ _ | refine blk_drew ?_ | refine blk_alloc ?_ _)); exact BK958.out) hb); have n3_ := Aside0.mk (below_step (by repeat (first | (with_reducible first | exact HB.out | apply below_alloc | apply pw_below_drewN | apply below_drew1 | refine below_set ?_ GE942.out | refine below_set ?_ GE952.out | refine below_set ?_ GE958.out) | exact HB.out)) hb); have n4_ := Aside0.mk (hbox); have n5_ := Aside0.mk ((by rw [hg]; exact (below_size (by repeat (first | (with_reducible first | exact HB.out | apply below_alloc | apply pw_below_drewN | apply below_drew1 | refine below_set ?_ GE942.out | refine below_set ?_ GE952.out | refine below_set ?_ GE958.out) | exact HB.out))) : w.heap.size ≤ gb964)); have n6_ := Aside0.mk ((by rw [hg]; exact (below_size (by repeat (first | (with_reducible first | exact HB.out | apply below_alloc | apply pw_below_drewN | apply below_drew1 | refine below_set ?_ GE942.out | refine below_set ?_ GE952.out | refine below_set ?_ GE958.out) | exact HB.out))) : w.heap.size ≤ gb964)); have n7_ := Aside0.mk ((by rw [hg]; exact Nat.ne_of_lt (blk_lt (g := gb942) (o := .cells #[.int .i64 t938, .int .i64 t939, .int .i64 t940, .int .i64 t941] 51 (0, 0)) (by (with_reducible repeat (first | refine blk_drewN ?_ _ | refine blk_drew ?_ | refine blk_alloc ?_ _)); exact BK942.out)) : gb942 ≠ gb964)); have n8_ := Aside0.mk ((by rw [hg]; exact Nat.ne_of_gt (blk_lt (g := gb942) (o := .cells #[.int .i64 t938, .int .i64 t939, .int .i64 t940, .int .i64 t941] 51 (0, 0)) (by (with_reducible repeat (first | refine blk_drewN ?_ _ | refine blk_drew ?_ | refine blk_alloc ?_ _)); exact BK942.out)) : gb964 ≠ gb942)); have n9_ := Aside0.mk ((by rw [hg]; exact Nat.ne_of_lt (blk_lt (g := gb952) (o := .cells #[.int .i64 t947, .int .i64 t948, .int .i64 t949, .int .i64 t950] 51 (0, 0)) (by (with_reducible repeat (first | refine blk_drewN ?_ _ | refine blk_drew ?_ | refine blk_alloc ?_ _)); exact BK952.out)) : gb952 ≠ gb964)); have n10_ := Aside0.mk ((by rw [hg]; exact Nat.ne_of_gt (blk_lt (g := gb952) (o := .cells #[.int .i64 t947, .int .i64 t948, .int .i64 t949, .int .i64 t950] 51 (0, 0)) (by (with_reducible repeat (first | refine blk_drewN ?_ _ | refine blk_drew ?_ | refine blk_alloc ?_ _)); exact BK952.out)) : gb964 ≠ gb952)); have n11_ := Aside0.mk ((by rw [hg]; exact Nat.ne_of_lt (blk_lt (g := gb958) (o := .cells #[.int .i64 t953, .int .i64 t954, .int .i64 t955, .int .i64 t956] 51 (0, 0)) (by (with_reducible repeat (first | refine blk_drewN ?_ _ | refine blk_drew ?_ | refine blk_alloc ?_ _)); exact BK958.out)) : gb958 ≠ gb964)); have n12_ := Aside0.mk ((by rw [hg]; exact Nat.ne_of_gt (blk_lt (g := gb958) (o := .cells #[.int .i64 t953, .int .i64 t954, .int .i64 t955, .int .i64 t956] 51 (0, 0)) (by (with_reducible repeat (first | refine blk_drewN ?_ _ | refine blk_drew ?_ | refine blk_alloc ?_ _)); exact BK958.out)) : gb964 ≠ gb958)); clear BK942; clear BK952; clear BK958; clear HB; have BK942 := n0_; have BK952 := n1_; have BK958 := n2_; have HB := n3_; have BK964 := n4_; have GW964 := n5_; have GE964 := n6_; have NB942_964 := n7_; have NB964_942 := n8_; have NB952_964 := n9_; have NB964_952 := n10_; have NB958_964 := n11_; have NB964_958 := n12_; clear n0_ n1_ n2_ n3_ n4_ n5_ n6_ n7_ n8_ n9_ n10_ n11_ n12_; clear hb hbox hg; have hnb32 := NB964_942.out; have hnc32 := NB942_964.out; have hnb33 := NB964_952.out; have hnc33 := NB952_964.out; have hnb34 := NB964_958.out; have hnc34 := NB958_964.out; have hcz35_0 : w31.cell? ⟨gb964, 0, none⟩ = some (.int .i64 0) := (blk_cell BK964.out 0).trans rfl; have hcz35_1 : w31.cell? ⟨gb964, 1, none⟩ = some (.int .i64 0) := (blk_cell BK964.out 1).trans rfl; have hcz35_2 : w31.cell? ⟨gb964, 2, none⟩ = some (.int .i64 0) := (blk_cell BK964.out 2).trans rfl; have hcz35_3 : w31.cell? ⟨gb964, 3, none⟩ = some (.int .i64 0) := (blk_cell BK964.out 3).trans rfl; have hfz35_0 := blk_frozen BK964.out 0; have hfz35_1 := blk_frozen BK964.out 1; have hfz35_2 := blk_frozen BK964.out 2; have hfz35_3 := blk_frozen BK964.out 3) | ((with_reducible refine gate_callee (f := 59) rfl ?_); refine goesL_ (some 57) rfl rfl Try.func59 (by kernel_rfl) rfl #[.slice A0 l0.length c0] rfl (by (try simp only [List.map_toArray, List.map_cons, List.map_nil]); first | done | rfl | (simp only [List.length_drop, List.length_take]; rfl)) ?_; (with_reducible refine (spec_DrawMatKind.calls k _ _ l0 t965 t966 t967 t968 _ ?side1 ?side2 A10.out).mono ?_); (case side1 => exact Kd.C_below HR0.out (by repeat (first | (with_reducible first | exact HB.out | apply below_alloc | apply pw_below_drewN | apply below_drew1 | refine below_set ?_ GE942.out | refine below_set ?_ GE952.out | refine below_set ?_ GE958.out | refine below_set ?_ GE964.out) | exact HB.out))); (case side2 => exact HC0.out); rintro e w36 ⟨rfl, hb⟩; refine ⟨_, rfl, ?_⟩; have n0_ := Aside0.mk (blk_below (g := gb942) (o := .cells #[.int .i64 t938, .int .i64 t939, .int .i64 t940, .int .i64 t941] 51 (0, 0)) (by (with_reducible repeat (first | refine blk_drewN ?_ _ | refine blk_drew ?_ | refine blk_alloc ?_ _)); refine blk_far ?_ NB942_964.out _; (with_reducible repeat (first | refine blk_drewN ?_ _ | refine blk_drew ?_ | refine blk_alloc ?_ _)); refine blk_far ?_ NB942_964.out _; (with_reducible repeat (first | refine blk_drewN ?_ _ | refine blk_drew ?_ | refine blk_alloc ?_ _)); refine blk_far ?_ NB942_964.out _; (with_reducible repeat (first | refine blk_drewN ?_ _ | refine blk_drew ?_ | refine blk_alloc ?_ _)); refine blk_far ?_ NB942_964.out _; (with_reducible repeat (first | refine blk_drewN ?_ _ | refine blk_drew ?_ | refine blk_alloc ?_ _)); exact BK942.out) hb); have n1_ := Aside0.mk (blk_below (g := gb952) (o := .cells #[.int .i64 t947, .int .i64 t948, .int .i64 t949, .int .i64 t950] 51 (0, 0)) (by (with_reducible repeat (first | refine blk_drewN ?_ _ | refine blk_drew ?_ | refine blk_alloc ?_ _)); refine blk_far ?_ NB952_964.out _; (with_reducible repeat (first | refine blk_drewN ?_ _ | refine blk_drew ?_ | refine blk_alloc ?_ _)); refine blk_far ?_ NB952_964.out _; (with_reducible repeat (first | refine blk_drewN ?_ _ | refine blk_drew ?_ | refine blk_alloc ?_ _)); refine blk_far ?_ NB952_964.out _; (with_reducible repeat (first | refine blk_drewN ?_ _ | refine blk_drew ?_ | refine blk_alloc ?_ _)); refine blk_far ?_ NB952_964.out _; (with_reducible repeat (first | refine blk_drewN ?_ _ | refine blk_drew ?_ | refine blk_alloc ?_ _)); exact BK952.out) hb); have n2_ := Aside0.mk (blk_below (g := gb958) (o := .cells #[.int .i64 t953, .int .i64 t954, .int .i64 t955, .int .i64 t956] 51 (0, 0)) (by (with_reducible repeat (first | refine blk_drewN ?_ _ | refine blk_drew ?_ | refine blk_alloc ?_ _)); refine blk_far ?_ NB958_964.out _; (with_reducible repeat (first | refine blk_drewN ?_ _ | refine blk_drew ?_ | refine blk_alloc ?_ _)); refine blk_far ?_ NB958_964.out _; (with_reducible repeat (first | refine blk_drewN ?_ _ | refine blk_drew ?_ | refine blk_alloc ?_ _)); refine blk_far ?_ NB958_964.out _; (with_reducible repeat (first | refine blk_drewN ?_ _ | refine blk_drew ?_ | refine blk_alloc ?_ _)); refine blk_far ?_ NB958_964.out _; (with_reducible repeat (first | refine blk_drewN ?_ _ | refine blk_drew ?_ | refine blk_alloc ?_ _)); exact BK958.out) hb); have n3_ := Aside0.mk (blk_below (g := gb964) (o := .cells #[.int .i64 t959, .int .i64 t960, .int .i64 t961, .int .i64 t962] 51 (0, 0)) (by (with_reducible repeat (first | refine blk_drewN ?_ _ | refine blk_drew ?_ | refine blk_alloc ?_ _)); refine blk_put (cs := #[.int .i64 t959, .int .i64 t960, .int .i64 t961, .int .i64 0]) ?_ 3 _ rfl; (with_reducible repeat (first | refine blk_drewN ?_ _ | refine blk_drew ?_ | refine blk_alloc ?_ _)); refine blk_put (cs := #[.int .i64 t959, .int .i64 t960, .int .i64 0, .int .i64 0]) ?_ 2 _ rfl; (with_reducible repeat (first | refine blk_drewN ?_ _ | refine blk_drew ?_ | refine blk_alloc ?_ _)); refine blk_put (cs := #[.int .i64 t959, .int .i64 0, .int .i64 0, .int .i64 0]) ?_ 1 _ rfl; (with_reducible repeat (first | refine blk_drewN ?_ _ | refine blk_drew ?_ | refine blk_alloc ?_ _)); refine blk_put (cs := #[.int .i64 0, .int .i64 0, .int .i64 0, .int .i64 0]) ?_ 0 _ rfl; (with_reducible repeat (first | refine blk_drewN ?_ _ | refine blk_drew ?_ | refine blk_alloc ?_ _)); exact BK964.out) hb); have n4_ := Aside0.mk (below_step (by repeat (first | (with_reducible first | exact HB.out | apply below_alloc | apply pw_below_drewN | apply below_drew1 | refine below_set ?_ GE942.out | refine below_set ?_ GE952.out | refine below_set ?_ GE958.out | refine below_set ?_ GE964.out) | exact HB.out)) hb); clear BK942; clear BK952; clear BK958; clear BK964; clear HB; have BK942 := n0_; have BK952 := n1_; have BK958 := n2_; have BK964 := n3_; have HB := n4_; clear n0_ n1_ n2_ n3_ n4_; (try clear hb); (try clear hb2); (try clear hk); (try clear hi)) | ((with_reducible refine gate_dst (N := 14) rfl ?_); refine box_event ?hg (N := 14) ?hd (cs := #[.int .i64 0, .int .i64 0, .int .i64 0, .int .i64 0]) (t := 51) ?hr ?_; (case hd => rfl); (case hg => rfl); (case hr => first | (go_simp; done) | (go_simp; rfl)); intro gb969 hg w37 hbox hb; have n0_ := Aside0.mk (blk_below (g := gb942) (o := .cells #[.int .i64 t938, .int .i64 t939, .int .i64 t940, .int .i64 t941] 51 (0, 0)) (by (with_reducible repeat (first | refine blk_drewN ?_ _ | refine blk_drew ?_ | refine blk_alloc ?_ _)); exact BK942.out) hb); have n1_ := Aside0.mk (blk_below (g := gb952) (o := .cells #[.int .i64 t947, .int .i64 t948, .int .i64 t949, .int .i64 t950] 51 (0, 0)) (by (with_reducible repeat (first | refine blk_drewN ?_ _ | refine blk_drew ?_ | refine blk_alloc ?_ _)); exact BK952.out) hb); have n2_ := Aside0.mk (blk_below (g := gb958) (o := .cells #[.int .i64 t953, .int .i64 t954, .int .i64 t955, .int .i64 t956] 51 (0, 0)) (by (with_reducible repeat (first | refine blk_drewN ?_ _ | refine blk_drew ?_ | refine blk_alloc ?_ _)); exact BK958.out) hb); have n3_ := Aside0.mk (blk_below (g := gb964) (o := .cells #[.int .i64 t959, .int .i64 t960, .int .i64 t961, .int .i64 t962] 51 (0, 0)) (by (with_reducible repeat (first | refine blk_drewN ?_ _ | refine blk_drew ?_ | refine blk_alloc ?_ _)); exact BK964.out) hb); have n4_ := Aside0.mk (below_step (by repeat (first | (with_reducible first | exact HB.out | apply below_alloc | apply pw_below_drewN | apply below_drew1 | refine below_set ?_ GE942.out | refine below_set ?_ GE952.out | refine below_set ?_ GE958.out | refine below_set ?_ GE964.out) | exact HB.out)) hb); have n5_ := Aside0.mk (hbox); have n6_ := Aside0.mk ((by rw [hg]; exact (below_size (by repeat (first | (with_reducible first | exact HB.out | apply below_alloc | apply pw_below_drewN | apply below_drew1 | refine below_set ?_ GE942.out | refine below_set ?_ GE952.out | refine below_set ?_ GE958.out | refine below_set ?_ GE964.out) | exact HB.out))) : w.heap.size ≤ gb969)); have n7_ := Aside0.mk ((by rw [hg]; exact (below_size (by repeat (first | (with_reducible first | exact HB.out | apply below_alloc | apply pw_below_drewN | apply below_drew1 | refine below_set ?_ GE942.out | refine below_set ?_ GE952.out | refine below_set ?_ GE958.out | refine below_set ?_ GE964.out) | exact HB.out))) : w.heap.size ≤ gb969)); have n8_ := Aside0.mk ((by rw [hg]; exact Nat.ne_of_lt (blk_lt (g := gb942) (o := .cells #[.int .i64 t938, .int .i64 t939, .int .i64 t940, .int .i64 t941] 51 (0, 0)) (by (with_reducible repeat (first | refine blk_drewN ?_ _ | refine blk_drew ?_ | refine blk_alloc ?_ _)); exact BK942.out)) : gb942 ≠ gb969)); have n9_ := Aside0.mk ((by rw [hg]; exact Nat.ne_of_gt (blk_lt (g := gb942) (o := .cells #[.int .i64 t938, .int .i64 t939, .int .i64 t940, .int .i64 t941] 51 (0, 0)) (by (with_reducible repeat (first | refine blk_drewN ?_ _ | refine blk_drew ?_ | refine blk_alloc ?_ _)); exact BK942.out)) : gb969 ≠ gb942)); have n10_ := Aside0.mk ((by rw [hg]; exact Nat.ne_of_lt (blk_lt (g := gb952) (o := .cells #[.int .i64 t947, .int .i64 t948, .int .i64 t949, .int .i64 t950] 51 (0, 0)) (by (with_reducible repeat (first | refine blk_drewN ?_ _ | refine blk_drew ?_ | refine blk_alloc ?_ _)); exact BK952.out)) : gb952 ≠ gb969)); have n11_ := Aside0.mk ((by rw [hg]; exact Nat.ne_of_gt (blk_lt (g := gb952) (o := .cells #[.int .i64 t947, .int .i64 t948, .int .i64 t949, .int .i64 t950] 51 (0, 0)) (by (with_reducible repeat (first | refine blk_drewN ?_ _ | refine blk_drew ?_ | refine blk_alloc ?_ _)); exact BK952.out)) : gb969 ≠ gb952)); have n12_ := Aside0.mk ((by rw [hg]; exact Nat.ne_of_lt (blk_lt (g := gb958) (o := .cells #[.int .i64 t953, .int .i64 t954, .int .i64 t955, .int .i64 t956] 51 (0, 0)) (by (with_reducible repeat (first | refine blk_drewN ?_ _ | refine blk_drew ?_ | refine blk_alloc ?_ _)); exact BK958.out)) : gb958 ≠ gb969)); have n13_ := Aside0.mk ((by rw [hg]; exact Nat.ne_of_gt (blk_lt (g := gb958) (o := .cells #[.int .i64 t953, .int .i64 t954, .int .i64 t955, .int .i64 t956] 51 (0, 0)) (by (with_reducible repeat (first | refine blk_drewN ?_ _ | refine blk_drew ?_ | refine blk_alloc ?_ _)); exact BK958.out)) : gb969 ≠ gb958)); have n14_ := Aside0.mk ((by rw [hg]; exact Nat.ne_of_lt (blk_lt (g := gb964) (o := .cells #[.int .i64 t959, .int .i64 t960, .int .i64 t961, .int .i64 t962] 51 (0, 0)) (by (with_reducible repeat (first | refine blk_drewN ?_ _ | refine blk_drew ?_ | refine blk_alloc ?_ _)); exact BK964.out)) : gb964 ≠ gb969)); have n15_ := Aside0.mk ((by rw [hg]; exact Nat.ne_of_gt (blk_lt (g := gb964) (o := .cells #[.int .i64 t959, .int .i64 t960, .int .i64 t961, .int .i64 t962] 51 (0, 0)) (by (with_reducible repeat (first | refine blk_drewN ?_ _ | refine blk_drew ?_ | refine blk_alloc ?_ _)); exact BK964.out)) : gb969 ≠ gb964)); clear BK942; clear BK952; clear BK958; clear BK964; clear HB; have BK942 := n0_; have BK952 := n1_; have BK958 := n2_; have BK964 := n3_; have HB := n4_; have BK969 := n5_; have GW969 := n6_; have GE969 := n7_; have NB942_969 := n8_; have NB969_942 := n9_; have NB952_969 := n10_; have NB969_952 := n11_; have NB958_969 := n12_; have NB969_958 := n13_; have NB964_969 := n14_; have NB969_964 := n15_; clear n0_ n1_ n2_ n3_ n4_ n5_ n6_ n7_ n8_ n9_ n10_ n11_ n12_ n13_ n14_ n15_; clear hb hbox hg; have hnb38 := NB969_942.out; have hnc38 := NB942_969.out; have hnb39 := NB969_952.out; have hnc39 := NB952_969.out; have hnb40 := NB969_958.out; have hnc40 := NB958_969.out; have hnb41 := NB969_964.out; have hnc41 := NB964_969.out; have hcz42_0 : w37.cell? ⟨gb969, 0, none⟩ = some (.int .i64 0) := (blk_cell BK969.out 0).trans rfl; have hcz42_1 : w37.cell? ⟨gb969, 1, none⟩ = some (.int .i64 0) := (blk_cell BK969.out 1).trans rfl; have hcz42_2 : w37.cell? ⟨gb969, 2, none⟩ = some (.int .i64 0) := (blk_cell BK969.out 2).trans rfl; have hcz42_3 : w37.cell? ⟨gb969, 3, none⟩ = some (.int .i64 0) := (blk_cell BK969.out 3).trans rfl; have hfz42_0 := blk_frozen BK969.out 0; have hfz42_1 := blk_frozen BK969.out 1; have hfz42_2 := blk_frozen BK969.out 2; have hfz42_3 := blk_frozen BK969.out 3) | ((with_reducible refine gate_callee (f := 60) rfl ?_); refine goesL_ (some 60) rfl rfl Try.func60 (by kernel_rfl) rfl #[.agg #[.int .i64 t965, .int .i64 t966, .int .i64 t967, .int .i64 t968]] rfl (by (try simp only [List.map_toArray, List.map_cons, List.map_nil]); first | done | rfl | (simp only [List.length_drop, List.length_take]; rfl)) ?_; (with_reducible refine (impl_MatKind.calls k t965 t966 t967 t968 t970 t971 _ A11.out).mono ?_); rintro e w43 ⟨rfl, hb⟩; refine ⟨_, rfl, ?_⟩; have n0_ := Aside0.mk (blk_below (g := gb942) (o := .cells #[.int .i64 t938, .int .i64 t939, .int .i64 t940, .int .i64 t941] 51 (0, 0)) (by (with_reducible repeat (first | refine blk_drewN ?_ _ | refine blk_drew ?_ | refine blk_alloc ?_ _)); refine blk_far ?_ NB942_969.out _; (with_reducible repeat (first | refine blk_drewN ?_ _ | refine blk_drew ?_ | refine blk_alloc ?_ _)); refine blk_far ?_ NB942_969.out _; (with_reducible repeat (first | refine blk_drewN ?_ _ | refine blk_drew ?_ | refine blk_alloc ?_ _)); refine blk_far ?_ NB942_969.out _; (with_reducible repeat (first | refine blk_drewN ?_ _ | refine blk_drew ?_ | refine blk_alloc ?_ _)); refine blk_far ?_ NB942_969.out _; (with_reducible repeat (first | refine blk_drewN ?_ _ | refine blk_drew ?_ | refine blk_alloc ?_ _)); exact BK942.out) hb); have n1_ := Aside0.mk (blk_below (g := gb952) (o := .cells #[.int .i64 t947, .int .i64 t948, .int .i64 t949, .int .i64 t950] 51 (0, 0)) (by (with_reducible repeat (first | refine blk_drewN ?_ _ | refine blk_drew ?_ | refine blk_alloc ?_ _)); refine blk_far ?_ NB952_969.out _; (with_reducible repeat (first | refine blk_drewN ?_ _ | refine blk_drew ?_ | refine blk_alloc ?_ _)); refine blk_far ?_ NB952_969.out _; (with_reducible repeat (first | refine blk_drewN ?_ _ | refine blk_drew ?_ | refine blk_alloc ?_ _)); refine blk_far ?_ NB952_969.out _; (with_reducible repeat (first | refine blk_drewN ?_ _ | refine blk_drew ?_ | refine blk_alloc ?_ _)); refine blk_far ?_ NB952_969.out _; (with_reducible repeat (first | refine blk_drewN ?_ _ | refine blk_drew ?_ | refine blk_alloc ?_ _)); exact BK952.out) hb); have n2_ := Aside0.mk (blk_below (g := gb958) (o := .cells #[.int .i64 t953, .int .i64 t954, .int .i64 t955, .int .i64 t956] 51 (0, 0)) (by (with_reducible repeat (first | refine blk_drewN ?_ _ | refine blk_drew ?_ | refine blk_alloc ?_ _)); refine blk_far ?_ NB958_969.out _; (with_reducible repeat (first | refine blk_drewN ?_ _ | refine blk_drew ?_ | refine blk_alloc ?_ _)); refine blk_far ?_ NB958_969.out _; (with_reducible repeat (first | refine blk_drewN ?_ _ | refine blk_drew ?_ | refine blk_alloc ?_ _)); refine blk_far ?_ NB958_969.out _; (with_reducible repeat (first | refine blk_drewN ?_ _ | refine blk_drew ?_ | refine blk_alloc ?_ _)); refine blk_far ?_ NB958_969.out _; (with_reducible repeat (first | refine blk_drewN ?_ _ | refine blk_drew ?_ | refine blk_alloc ?_ _)); exact BK958.out) hb); have n3_ := Aside0.mk (blk_below (g := gb964) (o := .cells #[.int .i64 t959, .int .i64 t960, .int .i64 t961, .int .i64 t962] 51 (0, 0)) (by (with_reducible repeat (first | refine blk_drewN ?_ _ | refine blk_drew ?_ | refine blk_alloc ?_ _)); refine blk_far ?_ NB964_969.out _; (with_reducible repeat (first | refine blk_drewN ?_ _ | refine blk_drew ?_ | refine blk_alloc ?_ _)); refine blk_far ?_ NB964_969.out _; (with_reducible repeat (first | refine blk_drewN ?_ _ | refine blk_drew ?_ | refine blk_alloc ?_ _)); refine blk_far ?_ NB964_969.out _; (with_reducible repeat (first | refine blk_drewN ?_ _ | refine blk_drew ?_ | refine blk_alloc ?_ _)); refine blk_far ?_ NB964_969.out _; (with_reducible repeat (first | refine blk_drewN ?_ _ | refine blk_drew ?_ | refine blk_alloc ?_ _)); exact BK964.out) hb); have n4_ := Aside0.mk (blk_below (g := gb969) (o := .cells #[.int .i64 t965, .int .i64 t966, .int .i64 t967, .int .i64 t968] 51 (0, 0)) (by (with_reducible repeat (first | refine blk_drewN ?_ _ | refine blk_drew ?_ | refine blk_alloc ?_ _)); refine blk_put (cs := #[.int .i64 t965, .int .i64 t966, .int .i64 t967, .int .i64 0]) ?_ 3 _ rfl; (with_reducible repeat (first | refine blk_drewN ?_ _ | refine blk_drew ?_ | refine blk_alloc ?_ _)); refine blk_put (cs := #[.int .i64 t965, .int .i64 t966, .int .i64 0, .int .i64 0]) ?_ 2 _ rfl; (with_reducible repeat (first | refine blk_drewN ?_ _ | refine blk_drew ?_ | refine blk_alloc ?_ _)); refine blk_put (cs := #[.int .i64 t965, .int .i64 0, .int .i64 0, .int .i64 0]) ?_ 1 _ rfl; (with_reducible repeat (first | refine blk_drewN ?_ _ | refine blk_drew ?_ | refine blk_alloc ?_ _)); refine blk_put (cs := #[.int .i64 0, .int .i64 0, .int .i64 0, .int .i64 0]) ?_ 0 _ rfl; (with_reducible repeat (first | refine blk_drewN ?_ _ | refine blk_drew ?_ | refine blk_alloc ?_ _)); exact BK969.out) hb); have n5_ := Aside0.mk (below_step (by repeat (first | (with_reducible first | exact HB.out | apply below_alloc | apply pw_below_drewN | apply below_drew1 | refine below_set ?_ GE942.out | refine below_set ?_ GE952.out | refine below_set ?_ GE958.out | refine below_set ?_ GE964.out | refine below_set ?_ GE969.out) | exact HB.out)) hb); clear BK942; clear BK952; clear BK958; clear BK964; clear BK969; clear HB; have BK942 := n0_; have BK952 := n1_; have BK958 := n2_; have BK964 := n3_; have BK969 := n4_; have HB := n5_; clear n0_ n1_ n2_ n3_ n4_ n5_; (try clear hb); (try clear hb2); (try clear hk); (try clear hi); have hcz44_0 : w43.cell? ⟨gb969, 0, none⟩ = some (.int .i64 t965) := (blk_cell BK969.out 0).trans rfl; have hcz44_1 : w43.cell? ⟨gb969, 1, none⟩ = some (.int .i64 t966) := (blk_cell BK969.out 1).trans rfl; have hcz44_2 : w43.cell? ⟨gb969, 2, none⟩ = some (.int .i64 t967) := (blk_cell BK969.out 2).trans rfl; have hcz44_3 : w43.cell? ⟨gb969, 3, none⟩ = some (.int .i64 t968) := (blk_cell BK969.out 3).trans rfl; have hfz44_0 := blk_frozen BK969.out 0; have hfz44_1 := blk_frozen BK969.out 1; have hfz44_2 := blk_frozen BK969.out 2; have hfz44_3 := blk_frozen BK969.out 3) | ((with_reducible refine gate_callee (f := 61) rfl ?_); refine goesL_ (some 65) rfl rfl Try.func61 (by kernel_rfl) rfl #[.agg #[.int .i64 t965, .int .i64 t966, .int .i64 t967, .int .i64 t968]] rfl (by (try simp only [List.map_toArray, List.map_cons, List.map_nil]); first | done | rfl | (simp only [List.length_drop, List.length_take]; rfl)) ?_; (with_reducible refine (spec_MatKind.calls k t965 t966 t967 t968 t972 t973 _ A12.out).mono ?_); rintro e w45 ⟨rfl, hb⟩; refine ⟨_, rfl, ?_⟩; have n0_ := Aside0.mk (blk_below (g := gb942) (o := .cells #[.int .i64 t938, .int .i64 t939, .int .i64 t940, .int .i64 t941] 51 (0, 0)) (by (with_reducible repeat (first | refine blk_drewN ?_ _ | refine blk_drew ?_ | refine blk_alloc ?_ _)); exact BK942.out) hb); have n1_ := Aside0.mk (blk_below (g := gb952) (o := .cells #[.int .i64 t947, .int .i64 t948, .int .i64 t949, .int .i64 t950] 51 (0, 0)) (by (with_reducible repeat (first | refine blk_drewN ?_ _ | refine blk_drew ?_ | refine blk_alloc ?_ _)); exact BK952.out) hb); have n2_ := Aside0.mk (blk_below (g := gb958) (o := .cells #[.int .i64 t953, .int .i64 t954, .int .i64 t955, .int .i64 t956] 51 (0, 0)) (by (with_reducible repeat (first | refine blk_drewN ?_ _ | refine blk_drew ?_ | refine blk_alloc ?_ _)); exact BK958.out) hb); have n3_ := Aside0.mk (blk_below (g := gb964) (o := .cells #[.int .i64 t959, .int .i64 t960, .int .i64 t961, .int .i64 t962] 51 (0, 0)) (by (with_reducible repeat (first | refine blk_drewN ?_ _ | refine blk_drew ?_ | refine blk_alloc ?_ _)); exact BK964.out) hb); have n4_ := Aside0.mk (blk_below (g := gb969) (o := .cells #[.int .i64 t965, .int .i64 t966, .int .i64 t967, .int .i64 t968] 51 (0, 0)) (by (with_reducible repeat (first | refine blk_drewN ?_ _ | refine blk_drew ?_ | refine blk_alloc ?_ _)); exact BK969.out) hb); have n5_ := Aside0.mk (below_step (by repeat (first | (with_reducible first | exact HB.out | apply below_alloc | apply pw_below_drewN | apply below_drew1 | refine below_set ?_ GE942.out | refine below_set ?_ GE952.out | refine below_set ?_ GE958.out | refine below_set ?_ GE964.out | refine below_set ?_ GE969.out) | exact HB.out)) hb); clear BK942; clear BK952; clear BK958; clear BK964; clear BK969; clear HB; have BK942 := n0_; have BK952 := n1_; have BK958 := n2_; have BK964 := n3_; have BK969 := n4_; have HB := n5_; clear n0_ n1_ n2_ n3_ n4_ n5_; (try clear hb); (try clear hb2); (try clear hk); (try clear hi)))
    (try simp only [Act.put, List.setIfInBounds_toArray, List.set_cons_zero, List.set_cons_succ])
    go_cut [95] (fun v95 wc => ∃ (kq : Nat) (x95_12 : Bool), v95 = .bool x95_12 ∧ Aside0 (laws_FnOrders.j0 kq t943 t944 t951 t957 x95_12 t938 t939 t940 t941 t947 t948 t949 t950 t953 t954 t955 t956 = some true) ∧ Aside0 (kq ≤ k) ∧ Aside0 (wc.heap[gb942]? = some (.cells #[.int .i64 t938, .int .i64 t939, .int .i64 t940, .int .i64 t941] 51 (0, 0))) ∧ Aside0 (wc.heap[gb952]? = some (.cells #[.int .i64 t947, .int .i64 t948, .int .i64 t949, .int .i64 t950] 51 (0, 0))) ∧ Aside0 (wc.heap[gb958]? = some (.cells #[.int .i64 t953, .int .i64 t954, .int .i64 t955, .int .i64 t956] 51 (0, 0))) ∧ Aside0 (wc.heap[gb964]? = some (.cells #[.int .i64 t959, .int .i64 t960, .int .i64 t961, .int .i64 t962] 51 (0, 0))) ∧ Aside0 (wc.heap[gb969]? = some (.cells #[.int .i64 t965, .int .i64 t966, .int .i64 t967, .int .i64 t968] 51 (0, 0))) ∧ Aside0 (Below w.heap.size w wc))
    case first =>
      have H := HC13.out
      clear HC13
      by_cases c46 : t944 = t946
      · rw [if_pos c46] at H
        have c46b0 : (t944 == t946) = true := beq_iff_eq.mpr c46
        have c46b1 : (t944 != t946) = false := bne_eq_false_iff_eq.mpr c46
        clear c46
        (first | rw [c46b0] | (simp only [i64_w, i32_w]; rw [c46b0]) | skip)
        by_cases c47 : t943 = t945
        · rw [if_pos c47] at H
          have c47b0 : (t943 == t945) = true := beq_iff_eq.mpr c47
          have c47b1 : (t943 != t945) = false := bne_eq_false_iff_eq.mpr c47
          clear c47
          by_cases c48 : t957 = t963
          · rw [if_pos c48] at H
            have c48b0 : (t957 == t963) = true := beq_iff_eq.mpr c48
            have c48b1 : (t957 != t963) = false := bne_eq_false_iff_eq.mpr c48
            clear c48
            by_cases c49 : (!(t953 == t959) || (!(t954 == t960) || (!(t955 == t961) || (!(t956 == t962))))) = true
            · rw [if_pos c49] at H
              exact absurd H (by cases k <;> simp [laws_FnOrders.j0])
            · rw [if_neg c49] at H
              have c49b0 : (!(t953 == t959) || (!(t954 == t960) || (!(t955 == t961) || (!(t956 == t962))))) = false := by simpa using c49
              clear c49
              by_cases c59 : t971 = t973
              · rw [if_pos c59] at H
                have c59b0 : (t971 == t973) = true := beq_iff_eq.mpr c59
                have c59b1 : (t971 != t973) = false := bne_eq_false_iff_eq.mpr c59
                clear c59
                have H' := Aside0.mk H
                clear H
                have hnb60 := NB958_942.out
                have hnc60 := NB942_958.out
                have hnb61 := NB958_952.out
                have hnc61 := NB952_958.out
                have hnb62 := NB958_964.out
                have hnc62 := NB964_958.out
                have hnb63 := NB958_969.out
                have hnc63 := NB969_958.out
                have hcz64_0 : w45.cell? ⟨gb958, 0, none⟩ = some (.int .i64 t953) := (blk_cell BK958.out 0).trans rfl
                have hcz64_1 : w45.cell? ⟨gb958, 1, none⟩ = some (.int .i64 t954) := (blk_cell BK958.out 1).trans rfl
                have hcz64_2 : w45.cell? ⟨gb958, 2, none⟩ = some (.int .i64 t955) := (blk_cell BK958.out 2).trans rfl
                have hcz64_3 : w45.cell? ⟨gb958, 3, none⟩ = some (.int .i64 t956) := (blk_cell BK958.out 3).trans rfl
                have hfz64_0 := blk_frozen BK958.out 0
                have hfz64_1 := blk_frozen BK958.out 1
                have hfz64_2 := blk_frozen BK958.out 2
                have hfz64_3 := blk_frozen BK958.out 3
                have hnb65 := NB964_942.out
                have hnc65 := NB942_964.out
                have hnb66 := NB964_952.out
                have hnc66 := NB952_964.out
                have hnb67 := NB964_969.out
                have hnc67 := NB969_964.out
                have hcz68_0 : w45.cell? ⟨gb964, 0, none⟩ = some (.int .i64 t959) := (blk_cell BK964.out 0).trans rfl
                have hcz68_1 : w45.cell? ⟨gb964, 1, none⟩ = some (.int .i64 t960) := (blk_cell BK964.out 1).trans rfl
                have hcz68_2 : w45.cell? ⟨gb964, 2, none⟩ = some (.int .i64 t961) := (blk_cell BK964.out 2).trans rfl
                have hcz68_3 : w45.cell? ⟨gb964, 3, none⟩ = some (.int .i64 t962) := (blk_cell BK964.out 3).trans rfl
                have hfz68_0 := blk_frozen BK964.out 0
                have hfz68_1 := blk_frozen BK964.out 1
                have hfz68_2 := blk_frozen BK964.out 2
                have hfz68_3 := blk_frozen BK964.out 3
                go_wp2
                go_meet
                case rel => exact ⟨_, ((t970 != t972)), (by first | rfl | (simp; done) | (simp [*]; done)), H', ⟨by first | omega | exact Nat.le_refl _⟩, ⟨by (with_reducible repeat (first | refine blk_drewN ?_ _ | refine blk_drew ?_ | refine blk_alloc ?_ _)); exact BK942.out⟩, ⟨by (with_reducible repeat (first | refine blk_drewN ?_ _ | refine blk_drew ?_ | refine blk_alloc ?_ _)); exact BK952.out⟩, ⟨by (with_reducible repeat (first | refine blk_drewN ?_ _ | refine blk_drew ?_ | refine blk_alloc ?_ _)); exact BK958.out⟩, ⟨by (with_reducible repeat (first | refine blk_drewN ?_ _ | refine blk_drew ?_ | refine blk_alloc ?_ _)); exact BK964.out⟩, ⟨by (with_reducible repeat (first | refine blk_drewN ?_ _ | refine blk_drew ?_ | refine blk_alloc ?_ _)); exact BK969.out⟩, ⟨by repeat (first | (with_reducible first | exact HB.out | apply below_alloc | apply pw_below_drewN | apply below_drew1 | refine below_set ?_ GE942.out | refine below_set ?_ GE952.out | refine below_set ?_ GE958.out | refine below_set ?_ GE964.out | refine below_set ?_ GE969.out) | exact HB.out)⟩⟩
              · rw [if_neg c59] at H
                exact absurd H (by cases k <;> simp [laws_FnOrders.j0])
          · rw [if_neg c48] at H
            exact absurd H (by cases k <;> simp [laws_FnOrders.j0])
        · rw [if_neg c47] at H
          exact absurd H (by cases k <;> simp [laws_FnOrders.j0])
      · rw [if_neg c46] at H
        exact absurd H (by cases k <;> simp [laws_FnOrders.j0])
    case rest =>
      clear HC13
      try clear c1
      try clear c2
      try clear p2
      try clear c3
      try clear c4
      try clear c5
      try clear c6
      try clear c7
      try clear c14
      try clear c22
      try clear c26
      try clear c27
      try clear c32
      try clear c33
      try clear c34
      try clear c38
      try clear c39
      try clear c40
      try clear c41
      try clear c46
      try clear c46b0
      try clear c46b1
      try clear c47
      try clear c47b0
      try clear c47b1
      try clear c48
      try clear c48b0
      try clear c48b1
      try clear c49
      try clear c49b0
      try clear c50
      try clear c51
      try clear c52
      try clear c53
      try clear c54
      try clear c55
      try clear c56
      try clear c57
      try clear c58
      try clear c59
      try clear c59b0
      try clear c59b1
      try clear c60
      try clear c61
      try clear c62
      try clear c63
      try clear c65
      try clear c66
      try clear c67
      try clear c69
      try clear c70
      try clear c71
      try clear c72
      try clear c74
      try clear c75
      try clear c76
      try clear hcz16_0
      try clear hcz16_1
      try clear hcz16_2
      try clear hcz16_3
      try clear hcz18_0
      try clear hcz18_1
      try clear hcz18_2
      try clear hcz18_3
      try clear hcz23_0
      try clear hcz23_1
      try clear hcz23_2
      try clear hcz23_3
      try clear hcz28_0
      try clear hcz28_1
      try clear hcz28_2
      try clear hcz28_3
      try clear hcz29_0
      try clear hcz29_1
      try clear hcz29_2
      try clear hcz29_3
      try clear hcz35_0
      try clear hcz35_1
      try clear hcz35_2
      try clear hcz35_3
      try clear hcz42_0
      try clear hcz42_1
      try clear hcz42_2
      try clear hcz42_3
      try clear hcz44_0
      try clear hcz44_1
      try clear hcz44_2
      try clear hcz44_3
      try clear hcz54_0
      try clear hcz54_1
      try clear hcz54_2
      try clear hcz54_3
      try clear hcz58_0
      try clear hcz58_1
      try clear hcz58_2
      try clear hcz58_3
      try clear hcz64_0
      try clear hcz64_1
      try clear hcz64_2
      try clear hcz64_3
      try clear hcz68_0
      try clear hcz68_1
      try clear hcz68_2
      try clear hcz68_3
      try clear hcz73_0
      try clear hcz73_1
      try clear hcz73_2
      try clear hcz73_3
      try clear hcz77_0
      try clear hcz77_1
      try clear hcz77_2
      try clear hcz77_3
      try clear hfz16_0
      try clear hfz16_1
      try clear hfz16_2
      try clear hfz16_3
      try clear hfz18_0
      try clear hfz18_1
      try clear hfz18_2
      try clear hfz18_3
      try clear hfz23_0
      try clear hfz23_1
      try clear hfz23_2
      try clear hfz23_3
      try clear hfz28_0
      try clear hfz28_1
      try clear hfz28_2
      try clear hfz28_3
      try clear hfz29_0
      try clear hfz29_1
      try clear hfz29_2
      try clear hfz29_3
      try clear hfz35_0
      try clear hfz35_1
      try clear hfz35_2
      try clear hfz35_3
      try clear hfz42_0
      try clear hfz42_1
      try clear hfz42_2
      try clear hfz42_3
      try clear hfz44_0
      try clear hfz44_1
      try clear hfz44_2
      try clear hfz44_3
      try clear hfz54_0
      try clear hfz54_1
      try clear hfz54_2
      try clear hfz54_3
      try clear hfz58_0
      try clear hfz58_1
      try clear hfz58_2
      try clear hfz58_3
      try clear hfz64_0
      try clear hfz64_1
      try clear hfz64_2
      try clear hfz64_3
      try clear hfz68_0
      try clear hfz68_1
      try clear hfz68_2
      try clear hfz68_3
      try clear hfz73_0
      try clear hfz73_1
      try clear hfz73_2
      try clear hfz73_3
      try clear hfz77_0
      try clear hfz77_1
      try clear hfz77_2
      try clear hfz77_3
      obtain ⟨kq, x95_12, rfl, HA, HJ12, BK942, BK952, BK958, BK964, BK969, HB⟩ := hcut
      cases kq with
      | zero => exact absurd HA.out (by simp [laws_FnOrders.j0])
      | succ kj12 =>
        have H := HA.out
        clear HA
        simp only [laws_FnOrders.j0] at H
        by_cases c78 : x95_12 = true
        · subst c78
          have H1 : (some false) = some true := by rw [if_pos rfl] at H; exact H
          clear H
          have H := H1
          clear H1
          exact absurd (Option.some.inj H) (by decide)
        · replace c78 := Bool.eq_false_iff.mpr c78
          subst c78
          have H1 : (if t957 = 0 then (laws_FnOrders.j1 kj12 t943 t944 t951 (decide (t951 > 0)) t938 t939 t940 t941 t947 t948 t949 t950 t953 t954 t955 t956) else (laws_FnOrders.j1 kj12 t943 t944 t951 false t938 t939 t940 t941 t947 t948 t949 t950 t953 t954 t955 t956)) = some true := by rw [if_neg (show ¬ (false = true) by decide)] at H; exact H
          clear H
          have H := H1
          clear H1
          have HC79 := Aside0.mk H
          clear H
          go_upto_region 14 with (fail)
          go_cut [101] (fun v101 wc => ∃ (kq : Nat) (x101_78 : Bool), v101 = .bool x101_78 ∧ Aside0 (laws_FnOrders.j1 kq t943 t944 t951 x101_78 t938 t939 t940 t941 t947 t948 t949 t950 t953 t954 t955 t956 = some true) ∧ Aside0 (kq ≤ kj12) ∧ Aside0 (wc.heap[gb942]? = some (.cells #[.int .i64 t938, .int .i64 t939, .int .i64 t940, .int .i64 t941] 51 (0, 0))) ∧ Aside0 (wc.heap[gb952]? = some (.cells #[.int .i64 t947, .int .i64 t948, .int .i64 t949, .int .i64 t950] 51 (0, 0))) ∧ Aside0 (wc.heap[gb958]? = some (.cells #[.int .i64 t953, .int .i64 t954, .int .i64 t955, .int .i64 t956] 51 (0, 0))) ∧ Aside0 (wc.heap[gb964]? = some (.cells #[.int .i64 t959, .int .i64 t960, .int .i64 t961, .int .i64 t962] 51 (0, 0))) ∧ Aside0 (wc.heap[gb969]? = some (.cells #[.int .i64 t965, .int .i64 t966, .int .i64 t967, .int .i64 t968] 51 (0, 0))) ∧ Aside0 (Below w.heap.size w wc))
          case first =>
            have H := HC79.out
            clear HC79
            by_cases c80 : t957 = 0
            · rw [if_pos c80] at H
              have c80b0 : (t957 == 0) = true := beq_iff_eq.mpr c80
              have c80b1 : (t957 != 0) = false := bne_eq_false_iff_eq.mpr c80
              clear c80
              (first | rw [c80b0] | (simp only [i64_w, i32_w]; rw [c80b0]) | skip)
              have H' := Aside0.mk H
              clear H
              go_wp2
              go_meet
              case rel => exact ⟨_, (decide (t951 > 0)), (by first | rfl | (simp; done) | (simp [*]; done)), H', ⟨by have := HJ12.out; first | omega | exact Nat.le_refl _⟩, ⟨by (with_reducible repeat (first | refine blk_drewN ?_ _ | refine blk_drew ?_ | refine blk_alloc ?_ _)); exact BK942.out⟩, ⟨by (with_reducible repeat (first | refine blk_drewN ?_ _ | refine blk_drew ?_ | refine blk_alloc ?_ _)); exact BK952.out⟩, ⟨by (with_reducible repeat (first | refine blk_drewN ?_ _ | refine blk_drew ?_ | refine blk_alloc ?_ _)); exact BK958.out⟩, ⟨by (with_reducible repeat (first | refine blk_drewN ?_ _ | refine blk_drew ?_ | refine blk_alloc ?_ _)); exact BK964.out⟩, ⟨by (with_reducible repeat (first | refine blk_drewN ?_ _ | refine blk_drew ?_ | refine blk_alloc ?_ _)); exact BK969.out⟩, ⟨by repeat (first | (with_reducible first | exact HB.out | apply below_alloc | apply pw_below_drewN | apply below_drew1 | refine below_set ?_ GE942.out | refine below_set ?_ GE952.out | refine below_set ?_ GE958.out | refine below_set ?_ GE964.out | refine below_set ?_ GE969.out) | exact HB.out)⟩⟩
            · rw [if_neg c80] at H
              have c80b0 : (t957 == 0) = false := beq_eq_false_iff_ne.mpr c80
              have c80b1 : (t957 != 0) = true := bne_iff_ne.mpr c80
              (first | rw [c80b0] | (simp only [i64_w, i32_w]; rw [c80b0]) | skip)
              have H' := Aside0.mk H
              clear H
              go_wp2
              go_meet
              case rel => exact ⟨_, (false), (by first | rfl | (simp; done) | (simp [*]; done)), H', ⟨by have := HJ12.out; first | omega | exact Nat.le_refl _⟩, ⟨by (with_reducible repeat (first | refine blk_drewN ?_ _ | refine blk_drew ?_ | refine blk_alloc ?_ _)); exact BK942.out⟩, ⟨by (with_reducible repeat (first | refine blk_drewN ?_ _ | refine blk_drew ?_ | refine blk_alloc ?_ _)); exact BK952.out⟩, ⟨by (with_reducible repeat (first | refine blk_drewN ?_ _ | refine blk_drew ?_ | refine blk_alloc ?_ _)); exact BK958.out⟩, ⟨by (with_reducible repeat (first | refine blk_drewN ?_ _ | refine blk_drew ?_ | refine blk_alloc ?_ _)); exact BK964.out⟩, ⟨by (with_reducible repeat (first | refine blk_drewN ?_ _ | refine blk_drew ?_ | refine blk_alloc ?_ _)); exact BK969.out⟩, ⟨by repeat (first | (with_reducible first | exact HB.out | apply below_alloc | apply pw_below_drewN | apply below_drew1 | refine below_set ?_ GE942.out | refine below_set ?_ GE952.out | refine below_set ?_ GE958.out | refine below_set ?_ GE964.out | refine below_set ?_ GE969.out) | exact HB.out)⟩⟩
          case rest =>
            clear HC79
            try clear c1
            try clear c2
            try clear p2
            try clear c3
            try clear c4
            try clear c5
            try clear c6
            try clear c7
            try clear c8
            try clear c14
            try clear c22
            try clear c26
            try clear c27
            try clear c32
            try clear c33
            try clear c34
            try clear c38
            try clear c39
            try clear c40
            try clear c41
            try clear c46
            try clear c46b0
            try clear c46b1
            try clear c47
            try clear c47b0
            try clear c47b1
            try clear c48
            try clear c48b0
            try clear c48b1
            try clear c49
            try clear c49b0
            try clear c50
            try clear c51
            try clear c52
            try clear c53
            try clear c54
            try clear c55
            try clear c56
            try clear c57
            try clear c58
            try clear c59
            try clear c59b0
            try clear c59b1
            try clear c60
            try clear c61
            try clear c62
            try clear c63
            try clear c65
            try clear c66
            try clear c67
            try clear c69
            try clear c70
            try clear c71
            try clear c72
            try clear c74
            try clear c75
            try clear c76
            try clear c78
            try clear c80
            try clear c80b0
            try clear c80b1
            try clear hcz16_0
            try clear hcz16_1
            try clear hcz16_2
            try clear hcz16_3
            try clear hcz18_0
            try clear hcz18_1
            try clear hcz18_2
            try clear hcz18_3
            try clear hcz23_0
            try clear hcz23_1
            try clear hcz23_2
            try clear hcz23_3
            try clear hcz28_0
            try clear hcz28_1
            try clear hcz28_2
            try clear hcz28_3
            try clear hcz29_0
            try clear hcz29_1
            try clear hcz29_2
            try clear hcz29_3
            try clear hcz35_0
            try clear hcz35_1
            try clear hcz35_2
            try clear hcz35_3
            try clear hcz42_0
            try clear hcz42_1
            try clear hcz42_2
            try clear hcz42_3
            try clear hcz44_0
            try clear hcz44_1
            try clear hcz44_2
            try clear hcz44_3
            try clear hcz54_0
            try clear hcz54_1
            try clear hcz54_2
            try clear hcz54_3
            try clear hcz58_0
            try clear hcz58_1
            try clear hcz58_2
            try clear hcz58_3
            try clear hcz64_0
            try clear hcz64_1
            try clear hcz64_2
            try clear hcz64_3
            try clear hcz68_0
            try clear hcz68_1
            try clear hcz68_2
            try clear hcz68_3
            try clear hcz73_0
            try clear hcz73_1
            try clear hcz73_2
            try clear hcz73_3
            try clear hcz77_0
            try clear hcz77_1
            try clear hcz77_2
            try clear hcz77_3
            try clear hfz16_0
            try clear hfz16_1
            try clear hfz16_2
            try clear hfz16_3
            try clear hfz18_0
            try clear hfz18_1
            try clear hfz18_2
            try clear hfz18_3
            try clear hfz23_0
            try clear hfz23_1
            try clear hfz23_2
            try clear hfz23_3
            try clear hfz28_0
            try clear hfz28_1
            try clear hfz28_2
            try clear hfz28_3
            try clear hfz29_0
            try clear hfz29_1
            try clear hfz29_2
            try clear hfz29_3
            try clear hfz35_0
            try clear hfz35_1
            try clear hfz35_2
            try clear hfz35_3
            try clear hfz42_0
            try clear hfz42_1
            try clear hfz42_2
            try clear hfz42_3
            try clear hfz44_0
            try clear hfz44_1
            try clear hfz44_2
            try clear hfz44_3
            try clear hfz54_0
            try clear hfz54_1
            try clear hfz54_2
            try clear hfz54_3
            try clear hfz58_0
            try clear hfz58_1
            try clear hfz58_2
            try clear hfz58_3
            try clear hfz64_0
            try clear hfz64_1
            try clear hfz64_2
            try clear hfz64_3
            try clear hfz68_0
            try clear hfz68_1
            try clear hfz68_2
            try clear hfz68_3
            try clear hfz73_0
            try clear hfz73_1
            try clear hfz73_2
            try clear hfz73_3
            try clear hfz77_0
            try clear hfz77_1
            try clear hfz77_2
            try clear hfz77_3
            try clear p2
            obtain ⟨kq, x101_78, rfl, HA, HJ78, BK942, BK952, BK958, BK964, BK969, HB⟩ := hcut
            cases kq with
            | zero => exact absurd HA.out (by simp [laws_FnOrders.j1])
            | succ kj78 =>
              have H := HA.out
              clear HA
              simp only [laws_FnOrders.j1] at H
              by_cases c81 : x101_78 = true
              · subst c81
                have H1 : ((impl_PowerMat.f kj78 t947 t948 t949 t950 (wrap64 (t951 - 1))).bind fun bt974 => ((impl_MultiplyMats.f kj78 t947 t948 t949 t950 bt974.1 bt974.2.1 bt974.2.2.1 bt974.2.2.2.1).bind fun bt980 => (if bt974.2.2.2.2 = 0 then (if bt980.2.2.2.2 = 0 then (laws_FnOrders.j2 kj78 t943 t944 (!(bt980.1 == t953) || (!(bt980.2.1 == t954) || (!(bt980.2.2.1 == t955) || (!(bt980.2.2.2.1 == t956))))) t938 t939 t940 t941) else (laws_FnOrders.j2 kj78 t943 t944 true t938 t939 t940 t941)) else (laws_FnOrders.j2 kj78 t943 t944 true t938 t939 t940 t941)))) = some true := by rw [if_pos rfl] at H; exact H
                clear H
                have H := H1
                clear H1
                replace H := Option.bind_eq_some_iff.mp H
                obtain ⟨⟨t974, t975, t976, t977, t978⟩, A820, H⟩ := H
                replace H : ((impl_MultiplyMats.f kj78 t947 t948 t949 t950 t974 t975 t976 t977).bind fun bt980 => (if t978 = 0 then (if bt980.2.2.2.2 = 0 then (laws_FnOrders.j2 kj78 t943 t944 (!(bt980.1 == t953) || (!(bt980.2.1 == t954) || (!(bt980.2.2.1 == t955) || (!(bt980.2.2.2.1 == t956))))) t938 t939 t940 t941) else (laws_FnOrders.j2 kj78 t943 t944 true t938 t939 t940 t941)) else (laws_FnOrders.j2 kj78 t943 t944 true t938 t939 t940 t941))) = some true := H
                have A82 := Aside0.mk A820
                clear A820
                replace H := Option.bind_eq_some_iff.mp H
                obtain ⟨⟨t980, t981, t982, t983, t984⟩, A830, H⟩ := H
                replace H : (if t978 = 0 then (if t984 = 0 then (laws_FnOrders.j2 kj78 t943 t944 (!(t980 == t953) || (!(t981 == t954) || (!(t982 == t955) || (!(t983 == t956))))) t938 t939 t940 t941) else (laws_FnOrders.j2 kj78 t943 t944 true t938 t939 t940 t941)) else (laws_FnOrders.j2 kj78 t943 t944 true t938 t939 t940 t941)) = some true := H
                have A83 := Aside0.mk A830
                clear A830
                have HC84 := Aside0.mk H
                clear H
                have hnb85 := NB952_942.out
                have hnc85 := NB942_952.out
                have hnb86 := NB952_958.out
                have hnc86 := NB958_952.out
                have hnb87 := NB952_964.out
                have hnc87 := NB964_952.out
                have hnb88 := NB952_969.out
                have hnc88 := NB969_952.out
                have hcz89_0 : wc.cell? ⟨gb952, 0, none⟩ = some (.int .i64 t947) := (blk_cell BK952.out 0).trans rfl
                have hcz89_1 : wc.cell? ⟨gb952, 1, none⟩ = some (.int .i64 t948) := (blk_cell BK952.out 1).trans rfl
                have hcz89_2 : wc.cell? ⟨gb952, 2, none⟩ = some (.int .i64 t949) := (blk_cell BK952.out 2).trans rfl
                have hcz89_3 : wc.cell? ⟨gb952, 3, none⟩ = some (.int .i64 t950) := (blk_cell BK952.out 3).trans rfl
                have hfz89_0 := blk_frozen BK952.out 0
                have hfz89_1 := blk_frozen BK952.out 1
                have hfz89_2 := blk_frozen BK952.out 2
                have hfz89_3 := blk_frozen BK952.out 3
                go_upto_region 17 with (first | ((with_reducible refine gate_callee (f := 57) rfl ?_); refine goesL_ (some 106) rfl rfl Try.func57 (by kernel_rfl) rfl #[.agg #[.int .i64 t947, .int .i64 t948, .int .i64 t949, .int .i64 t950], .int .i64 (wrap64 (t951 - 1))] rfl (by (try simp only [List.map_toArray, List.map_cons, List.map_nil]); first | done | rfl | (simp only [List.length_drop, List.length_take]; rfl)) ?_; (with_reducible refine (impl_PowerMat.calls kj78 t947 t948 t949 t950 (wrap64 (t951 - 1)) t974 t975 t976 t977 t978 _ A82.out).mono ?_); rintro e w90 ⟨rfl, hb⟩; refine ⟨_, rfl, ?_⟩; have n0_ := Aside0.mk (blk_below (g := gb942) (o := .cells #[.int .i64 t938, .int .i64 t939, .int .i64 t940, .int .i64 t941] 51 (0, 0)) (by (with_reducible repeat (first | refine blk_drewN ?_ _ | refine blk_drew ?_ | refine blk_alloc ?_ _)); exact BK942.out) hb); have n1_ := Aside0.mk (blk_below (g := gb952) (o := .cells #[.int .i64 t947, .int .i64 t948, .int .i64 t949, .int .i64 t950] 51 (0, 0)) (by (with_reducible repeat (first | refine blk_drewN ?_ _ | refine blk_drew ?_ | refine blk_alloc ?_ _)); exact BK952.out) hb); have n2_ := Aside0.mk (blk_below (g := gb958) (o := .cells #[.int .i64 t953, .int .i64 t954, .int .i64 t955, .int .i64 t956] 51 (0, 0)) (by (with_reducible repeat (first | refine blk_drewN ?_ _ | refine blk_drew ?_ | refine blk_alloc ?_ _)); exact BK958.out) hb); have n3_ := Aside0.mk (blk_below (g := gb964) (o := .cells #[.int .i64 t959, .int .i64 t960, .int .i64 t961, .int .i64 t962] 51 (0, 0)) (by (with_reducible repeat (first | refine blk_drewN ?_ _ | refine blk_drew ?_ | refine blk_alloc ?_ _)); exact BK964.out) hb); have n4_ := Aside0.mk (blk_below (g := gb969) (o := .cells #[.int .i64 t965, .int .i64 t966, .int .i64 t967, .int .i64 t968] 51 (0, 0)) (by (with_reducible repeat (first | refine blk_drewN ?_ _ | refine blk_drew ?_ | refine blk_alloc ?_ _)); exact BK969.out) hb); have n5_ := Aside0.mk (below_step (by repeat (first | (with_reducible first | exact HB.out | apply below_alloc | apply pw_below_drewN | apply below_drew1 | refine below_set ?_ GE942.out | refine below_set ?_ GE952.out | refine below_set ?_ GE958.out | refine below_set ?_ GE964.out | refine below_set ?_ GE969.out) | exact HB.out)) hb); clear BK942; clear BK952; clear BK958; clear BK964; clear BK969; clear HB; have BK942 := n0_; have BK952 := n1_; have BK958 := n2_; have BK964 := n3_; have BK969 := n4_; have HB := n5_; clear n0_ n1_ n2_ n3_ n4_ n5_; (try clear hb); (try clear hb2); (try clear hk); (try clear hi)) | ((with_reducible refine gate_dst (N := 19) rfl ?_); refine box_event ?hg (N := 19) ?hd (cs := #[.int .i64 0, .int .i64 0, .int .i64 0, .int .i64 0]) (t := 51) ?hr ?_; (case hd => rfl); (case hg => rfl); (case hr => first | (go_simp; done) | (go_simp; rfl)); intro gb979 hg w91 hbox hb; have n0_ := Aside0.mk (blk_below (g := gb942) (o := .cells #[.int .i64 t938, .int .i64 t939, .int .i64 t940, .int .i64 t941] 51 (0, 0)) (by (with_reducible repeat (first | refine blk_drewN ?_ _ | refine blk_drew ?_ | refine blk_alloc ?_ _)); exact BK942.out) hb); have n1_ := Aside0.mk (blk_below (g := gb952) (o := .cells #[.int .i64 t947, .int .i64 t948, .int .i64 t949, .int .i64 t950] 51 (0, 0)) (by (with_reducible repeat (first | refine blk_drewN ?_ _ | refine blk_drew ?_ | refine blk_alloc ?_ _)); exact BK952.out) hb); have n2_ := Aside0.mk (blk_below (g := gb958) (o := .cells #[.int .i64 t953, .int .i64 t954, .int .i64 t955, .int .i64 t956] 51 (0, 0)) (by (with_reducible repeat (first | refine blk_drewN ?_ _ | refine blk_drew ?_ | refine blk_alloc ?_ _)); exact BK958.out) hb); have n3_ := Aside0.mk (blk_below (g := gb964) (o := .cells #[.int .i64 t959, .int .i64 t960, .int .i64 t961, .int .i64 t962] 51 (0, 0)) (by (with_reducible repeat (first | refine blk_drewN ?_ _ | refine blk_drew ?_ | refine blk_alloc ?_ _)); exact BK964.out) hb); have n4_ := Aside0.mk (blk_below (g := gb969) (o := .cells #[.int .i64 t965, .int .i64 t966, .int .i64 t967, .int .i64 t968] 51 (0, 0)) (by (with_reducible repeat (first | refine blk_drewN ?_ _ | refine blk_drew ?_ | refine blk_alloc ?_ _)); exact BK969.out) hb); have n5_ := Aside0.mk (below_step (by repeat (first | (with_reducible first | exact HB.out | apply below_alloc | apply pw_below_drewN | apply below_drew1 | refine below_set ?_ GE942.out | refine below_set ?_ GE952.out | refine below_set ?_ GE958.out | refine below_set ?_ GE964.out | refine below_set ?_ GE969.out) | exact HB.out)) hb); have n6_ := Aside0.mk (hbox); have n7_ := Aside0.mk ((by rw [hg]; exact (below_size (by repeat (first | (with_reducible first | exact HB.out | apply below_alloc | apply pw_below_drewN | apply below_drew1 | refine below_set ?_ GE942.out | refine below_set ?_ GE952.out | refine below_set ?_ GE958.out | refine below_set ?_ GE964.out | refine below_set ?_ GE969.out) | exact HB.out))) : w.heap.size ≤ gb979)); have n8_ := Aside0.mk ((by rw [hg]; exact (below_size (by repeat (first | (with_reducible first | exact HB.out | apply below_alloc | apply pw_below_drewN | apply below_drew1 | refine below_set ?_ GE942.out | refine below_set ?_ GE952.out | refine below_set ?_ GE958.out | refine below_set ?_ GE964.out | refine below_set ?_ GE969.out) | exact HB.out))) : w.heap.size ≤ gb979)); have n9_ := Aside0.mk ((by rw [hg]; exact Nat.ne_of_lt (blk_lt (g := gb942) (o := .cells #[.int .i64 t938, .int .i64 t939, .int .i64 t940, .int .i64 t941] 51 (0, 0)) (by (with_reducible repeat (first | refine blk_drewN ?_ _ | refine blk_drew ?_ | refine blk_alloc ?_ _)); exact BK942.out)) : gb942 ≠ gb979)); have n10_ := Aside0.mk ((by rw [hg]; exact Nat.ne_of_gt (blk_lt (g := gb942) (o := .cells #[.int .i64 t938, .int .i64 t939, .int .i64 t940, .int .i64 t941] 51 (0, 0)) (by (with_reducible repeat (first | refine blk_drewN ?_ _ | refine blk_drew ?_ | refine blk_alloc ?_ _)); exact BK942.out)) : gb979 ≠ gb942)); have n11_ := Aside0.mk ((by rw [hg]; exact Nat.ne_of_lt (blk_lt (g := gb952) (o := .cells #[.int .i64 t947, .int .i64 t948, .int .i64 t949, .int .i64 t950] 51 (0, 0)) (by (with_reducible repeat (first | refine blk_drewN ?_ _ | refine blk_drew ?_ | refine blk_alloc ?_ _)); exact BK952.out)) : gb952 ≠ gb979)); have n12_ := Aside0.mk ((by rw [hg]; exact Nat.ne_of_gt (blk_lt (g := gb952) (o := .cells #[.int .i64 t947, .int .i64 t948, .int .i64 t949, .int .i64 t950] 51 (0, 0)) (by (with_reducible repeat (first | refine blk_drewN ?_ _ | refine blk_drew ?_ | refine blk_alloc ?_ _)); exact BK952.out)) : gb979 ≠ gb952)); have n13_ := Aside0.mk ((by rw [hg]; exact Nat.ne_of_lt (blk_lt (g := gb958) (o := .cells #[.int .i64 t953, .int .i64 t954, .int .i64 t955, .int .i64 t956] 51 (0, 0)) (by (with_reducible repeat (first | refine blk_drewN ?_ _ | refine blk_drew ?_ | refine blk_alloc ?_ _)); exact BK958.out)) : gb958 ≠ gb979)); have n14_ := Aside0.mk ((by rw [hg]; exact Nat.ne_of_gt (blk_lt (g := gb958) (o := .cells #[.int .i64 t953, .int .i64 t954, .int .i64 t955, .int .i64 t956] 51 (0, 0)) (by (with_reducible repeat (first | refine blk_drewN ?_ _ | refine blk_drew ?_ | refine blk_alloc ?_ _)); exact BK958.out)) : gb979 ≠ gb958)); have n15_ := Aside0.mk ((by rw [hg]; exact Nat.ne_of_lt (blk_lt (g := gb964) (o := .cells #[.int .i64 t959, .int .i64 t960, .int .i64 t961, .int .i64 t962] 51 (0, 0)) (by (with_reducible repeat (first | refine blk_drewN ?_ _ | refine blk_drew ?_ | refine blk_alloc ?_ _)); exact BK964.out)) : gb964 ≠ gb979)); have n16_ := Aside0.mk ((by rw [hg]; exact Nat.ne_of_gt (blk_lt (g := gb964) (o := .cells #[.int .i64 t959, .int .i64 t960, .int .i64 t961, .int .i64 t962] 51 (0, 0)) (by (with_reducible repeat (first | refine blk_drewN ?_ _ | refine blk_drew ?_ | refine blk_alloc ?_ _)); exact BK964.out)) : gb979 ≠ gb964)); have n17_ := Aside0.mk ((by rw [hg]; exact Nat.ne_of_lt (blk_lt (g := gb969) (o := .cells #[.int .i64 t965, .int .i64 t966, .int .i64 t967, .int .i64 t968] 51 (0, 0)) (by (with_reducible repeat (first | refine blk_drewN ?_ _ | refine blk_drew ?_ | refine blk_alloc ?_ _)); exact BK969.out)) : gb969 ≠ gb979)); have n18_ := Aside0.mk ((by rw [hg]; exact Nat.ne_of_gt (blk_lt (g := gb969) (o := .cells #[.int .i64 t965, .int .i64 t966, .int .i64 t967, .int .i64 t968] 51 (0, 0)) (by (with_reducible repeat (first | refine blk_drewN ?_ _ | refine blk_drew ?_ | refine blk_alloc ?_ _)); exact BK969.out)) : gb979 ≠ gb969)); clear BK942; clear BK952; clear BK958; clear BK964; clear BK969; clear HB; have BK942 := n0_; have BK952 := n1_; have BK958 := n2_; have BK964 := n3_; have BK969 := n4_; have HB := n5_; have BK979 := n6_; have GW979 := n7_; have GE979 := n8_; have NB942_979 := n9_; have NB979_942 := n10_; have NB952_979 := n11_; have NB979_952 := n12_; have NB958_979 := n13_; have NB979_958 := n14_; have NB964_979 := n15_; have NB979_964 := n16_; have NB969_979 := n17_; have NB979_969 := n18_; clear n0_ n1_ n2_ n3_ n4_ n5_ n6_ n7_ n8_ n9_ n10_ n11_ n12_ n13_ n14_ n15_ n16_ n17_ n18_; clear hb hbox hg; have hnb92 := NB979_942.out; have hnc92 := NB942_979.out; have hnb93 := NB979_952.out; have hnc93 := NB952_979.out; have hnb94 := NB979_958.out; have hnc94 := NB958_979.out; have hnb95 := NB979_964.out; have hnc95 := NB964_979.out; have hnb96 := NB979_969.out; have hnc96 := NB969_979.out; have hcz97_0 : w91.cell? ⟨gb979, 0, none⟩ = some (.int .i64 0) := (blk_cell BK979.out 0).trans rfl; have hcz97_1 : w91.cell? ⟨gb979, 1, none⟩ = some (.int .i64 0) := (blk_cell BK979.out 1).trans rfl; have hcz97_2 : w91.cell? ⟨gb979, 2, none⟩ = some (.int .i64 0) := (blk_cell BK979.out 2).trans rfl; have hcz97_3 : w91.cell? ⟨gb979, 3, none⟩ = some (.int .i64 0) := (blk_cell BK979.out 3).trans rfl; have hfz97_0 := blk_frozen BK979.out 0; have hfz97_1 := blk_frozen BK979.out 1; have hfz97_2 := blk_frozen BK979.out 2; have hfz97_3 := blk_frozen BK979.out 3; have hcz98_0 : w91.cell? ⟨gb952, 0, none⟩ = some (.int .i64 t947) := (blk_cell BK952.out 0).trans rfl; have hcz98_1 : w91.cell? ⟨gb952, 1, none⟩ = some (.int .i64 t948) := (blk_cell BK952.out 1).trans rfl; have hcz98_2 : w91.cell? ⟨gb952, 2, none⟩ = some (.int .i64 t949) := (blk_cell BK952.out 2).trans rfl; have hcz98_3 : w91.cell? ⟨gb952, 3, none⟩ = some (.int .i64 t950) := (blk_cell BK952.out 3).trans rfl; have hfz98_0 := blk_frozen BK952.out 0; have hfz98_1 := blk_frozen BK952.out 1; have hfz98_2 := blk_frozen BK952.out 2; have hfz98_3 := blk_frozen BK952.out 3) | ((with_reducible refine gate_callee (f := 43) rfl ?_); refine goesL_ (some 112) rfl rfl Try.func43 (by kernel_rfl) rfl #[.agg #[.int .i64 t947, .int .i64 t948, .int .i64 t949, .int .i64 t950], .agg #[.int .i64 t974, .int .i64 t975, .int .i64 t976, .int .i64 t977]] rfl (by (try simp only [List.map_toArray, List.map_cons, List.map_nil]); first | done | rfl | (simp only [List.length_drop, List.length_take]; rfl)) ?_; (with_reducible refine (impl_MultiplyMats.calls kj78 t947 t948 t949 t950 t974 t975 t976 t977 t980 t981 t982 t983 t984 _ A83.out).mono ?_); rintro e w99 ⟨rfl, hb⟩; refine ⟨_, rfl, ?_⟩; have n0_ := Aside0.mk (blk_below (g := gb942) (o := .cells #[.int .i64 t938, .int .i64 t939, .int .i64 t940, .int .i64 t941] 51 (0, 0)) (by (with_reducible repeat (first | refine blk_drewN ?_ _ | refine blk_drew ?_ | refine blk_alloc ?_ _)); refine blk_far ?_ NB942_979.out _; (with_reducible repeat (first | refine blk_drewN ?_ _ | refine blk_drew ?_ | refine blk_alloc ?_ _)); refine blk_far ?_ NB942_979.out _; (with_reducible repeat (first | refine blk_drewN ?_ _ | refine blk_drew ?_ | refine blk_alloc ?_ _)); refine blk_far ?_ NB942_979.out _; (with_reducible repeat (first | refine blk_drewN ?_ _ | refine blk_drew ?_ | refine blk_alloc ?_ _)); refine blk_far ?_ NB942_979.out _; (with_reducible repeat (first | refine blk_drewN ?_ _ | refine blk_drew ?_ | refine blk_alloc ?_ _)); exact BK942.out) hb); have n1_ := Aside0.mk (blk_below (g := gb952) (o := .cells #[.int .i64 t947, .int .i64 t948, .int .i64 t949, .int .i64 t950] 51 (0, 0)) (by (with_reducible repeat (first | refine blk_drewN ?_ _ | refine blk_drew ?_ | refine blk_alloc ?_ _)); refine blk_far ?_ NB952_979.out _; (with_reducible repeat (first | refine blk_drewN ?_ _ | refine blk_drew ?_ | refine blk_alloc ?_ _)); refine blk_far ?_ NB952_979.out _; (with_reducible repeat (first | refine blk_drewN ?_ _ | refine blk_drew ?_ | refine blk_alloc ?_ _)); refine blk_far ?_ NB952_979.out _; (with_reducible repeat (first | refine blk_drewN ?_ _ | refine blk_drew ?_ | refine blk_alloc ?_ _)); refine blk_far ?_ NB952_979.out _; (with_reducible repeat (first | refine blk_drewN ?_ _ | refine blk_drew ?_ | refine blk_alloc ?_ _)); exact BK952.out) hb); have n2_ := Aside0.mk (blk_below (g := gb958) (o := .cells #[.int .i64 t953, .int .i64 t954, .int .i64 t955, .int .i64 t956] 51 (0, 0)) (by (with_reducible repeat (first | refine blk_drewN ?_ _ | refine blk_drew ?_ | refine blk_alloc ?_ _)); refine blk_far ?_ NB958_979.out _; (with_reducible repeat (first | refine blk_drewN ?_ _ | refine blk_drew ?_ | refine blk_alloc ?_ _)); refine blk_far ?_ NB958_979.out _; (with_reducible repeat (first | refine blk_drewN ?_ _ | refine blk_drew ?_ | refine blk_alloc ?_ _)); refine blk_far ?_ NB958_979.out _; (with_reducible repeat (first | refine blk_drewN ?_ _ | refine blk_drew ?_ | refine blk_alloc ?_ _)); refine blk_far ?_ NB958_979.out _; (with_reducible repeat (first | refine blk_drewN ?_ _ | refine blk_drew ?_ | refine blk_alloc ?_ _)); exact BK958.out) hb); have n3_ := Aside0.mk (blk_below (g := gb964) (o := .cells #[.int .i64 t959, .int .i64 t960, .int .i64 t961, .int .i64 t962] 51 (0, 0)) (by (with_reducible repeat (first | refine blk_drewN ?_ _ | refine blk_drew ?_ | refine blk_alloc ?_ _)); refine blk_far ?_ NB964_979.out _; (with_reducible repeat (first | refine blk_drewN ?_ _ | refine blk_drew ?_ | refine blk_alloc ?_ _)); refine blk_far ?_ NB964_979.out _; (with_reducible repeat (first | refine blk_drewN ?_ _ | refine blk_drew ?_ | refine blk_alloc ?_ _)); refine blk_far ?_ NB964_979.out _; (with_reducible repeat (first | refine blk_drewN ?_ _ | refine blk_drew ?_ | refine blk_alloc ?_ _)); refine blk_far ?_ NB964_979.out _; (with_reducible repeat (first | refine blk_drewN ?_ _ | refine blk_drew ?_ | refine blk_alloc ?_ _)); exact BK964.out) hb); have n4_ := Aside0.mk (blk_below (g := gb969) (o := .cells #[.int .i64 t965, .int .i64 t966, .int .i64 t967, .int .i64 t968] 51 (0, 0)) (by (with_reducible repeat (first | refine blk_drewN ?_ _ | refine blk_drew ?_ | refine blk_alloc ?_ _)); refine blk_far ?_ NB969_979.out _; (with_reducible repeat (first | refine blk_drewN ?_ _ | refine blk_drew ?_ | refine blk_alloc ?_ _)); refine blk_far ?_ NB969_979.out _; (with_reducible repeat (first | refine blk_drewN ?_ _ | refine blk_drew ?_ | refine blk_alloc ?_ _)); refine blk_far ?_ NB969_979.out _; (with_reducible repeat (first | refine blk_drewN ?_ _ | refine blk_drew ?_ | refine blk_alloc ?_ _)); refine blk_far ?_ NB969_979.out _; (with_reducible repeat (first | refine blk_drewN ?_ _ | refine blk_drew ?_ | refine blk_alloc ?_ _)); exact BK969.out) hb); have n5_ := Aside0.mk (blk_below (g := gb979) (o := .cells #[.int .i64 t974, .int .i64 t975, .int .i64 t976, .int .i64 t977] 51 (0, 0)) (by (with_reducible repeat (first | refine blk_drewN ?_ _ | refine blk_drew ?_ | refine blk_alloc ?_ _)); refine blk_put (cs := #[.int .i64 t974, .int .i64 t975, .int .i64 t976, .int .i64 0]) ?_ 3 _ rfl; (with_reducible repeat (first | refine blk_drewN ?_ _ | refine blk_drew ?_ | refine blk_alloc ?_ _)); refine blk_put (cs := #[.int .i64 t974, .int .i64 t975, .int .i64 0, .int .i64 0]) ?_ 2 _ rfl; (with_reducible repeat (first | refine blk_drewN ?_ _ | refine blk_drew ?_ | refine blk_alloc ?_ _)); refine blk_put (cs := #[.int .i64 t974, .int .i64 0, .int .i64 0, .int .i64 0]) ?_ 1 _ rfl; (with_reducible repeat (first | refine blk_drewN ?_ _ | refine blk_drew ?_ | refine blk_alloc ?_ _)); refine blk_put (cs := #[.int .i64 0, .int .i64 0, .int .i64 0, .int .i64 0]) ?_ 0 _ rfl; (with_reducible repeat (first | refine blk_drewN ?_ _ | refine blk_drew ?_ | refine blk_alloc ?_ _)); exact BK979.out) hb); have n6_ := Aside0.mk (below_step (by repeat (first | (with_reducible first | exact HB.out | apply below_alloc | apply pw_below_drewN | apply below_drew1 | refine below_set ?_ GE942.out | refine below_set ?_ GE952.out | refine below_set ?_ GE958.out | refine below_set ?_ GE964.out | refine below_set ?_ GE969.out | refine below_set ?_ GE979.out) | exact HB.out)) hb); clear BK942; clear BK952; clear BK958; clear BK964; clear BK969; clear BK979; clear HB; have BK942 := n0_; have BK952 := n1_; have BK958 := n2_; have BK964 := n3_; have BK969 := n4_; have BK979 := n5_; have HB := n6_; clear n0_ n1_ n2_ n3_ n4_ n5_ n6_; (try clear hb); (try clear hb2); (try clear hk); (try clear hi)) | ((with_reducible refine gate_dst (N := 21) rfl ?_); refine box_event ?hg (N := 21) ?hd (cs := #[.int .i64 0, .int .i64 0, .int .i64 0, .int .i64 0]) (t := 51) ?hr ?_; (case hd => rfl); (case hg => rfl); (case hr => first | (go_simp; done) | (go_simp; rfl)); intro gb985 hg w100 hbox hb; have n0_ := Aside0.mk (blk_below (g := gb942) (o := .cells #[.int .i64 t938, .int .i64 t939, .int .i64 t940, .int .i64 t941] 51 (0, 0)) (by (with_reducible repeat (first | refine blk_drewN ?_ _ | refine blk_drew ?_ | refine blk_alloc ?_ _)); exact BK942.out) hb); have n1_ := Aside0.mk (blk_below (g := gb952) (o := .cells #[.int .i64 t947, .int .i64 t948, .int .i64 t949, .int .i64 t950] 51 (0, 0)) (by (with_reducible repeat (first | refine blk_drewN ?_ _ | refine blk_drew ?_ | refine blk_alloc ?_ _)); exact BK952.out) hb); have n2_ := Aside0.mk (blk_below (g := gb958) (o := .cells #[.int .i64 t953, .int .i64 t954, .int .i64 t955, .int .i64 t956] 51 (0, 0)) (by (with_reducible repeat (first | refine blk_drewN ?_ _ | refine blk_drew ?_ | refine blk_alloc ?_ _)); exact BK958.out) hb); have n3_ := Aside0.mk (blk_below (g := gb964) (o := .cells #[.int .i64 t959, .int .i64 t960, .int .i64 t961, .int .i64 t962] 51 (0, 0)) (by (with_reducible repeat (first | refine blk_drewN ?_ _ | refine blk_drew ?_ | refine blk_alloc ?_ _)); exact BK964.out) hb); have n4_ := Aside0.mk (blk_below (g := gb969) (o := .cells #[.int .i64 t965, .int .i64 t966, .int .i64 t967, .int .i64 t968] 51 (0, 0)) (by (with_reducible repeat (first | refine blk_drewN ?_ _ | refine blk_drew ?_ | refine blk_alloc ?_ _)); exact BK969.out) hb); have n5_ := Aside0.mk (blk_below (g := gb979) (o := .cells #[.int .i64 t974, .int .i64 t975, .int .i64 t976, .int .i64 t977] 51 (0, 0)) (by (with_reducible repeat (first | refine blk_drewN ?_ _ | refine blk_drew ?_ | refine blk_alloc ?_ _)); exact BK979.out) hb); have n6_ := Aside0.mk (below_step (by repeat (first | (with_reducible first | exact HB.out | apply below_alloc | apply pw_below_drewN | apply below_drew1 | refine below_set ?_ GE942.out | refine below_set ?_ GE952.out | refine below_set ?_ GE958.out | refine below_set ?_ GE964.out | refine below_set ?_ GE969.out | refine below_set ?_ GE979.out) | exact HB.out)) hb); have n7_ := Aside0.mk (hbox); have n8_ := Aside0.mk ((by rw [hg]; exact (below_size (by repeat (first | (with_reducible first | exact HB.out | apply below_alloc | apply pw_below_drewN | apply below_drew1 | refine below_set ?_ GE942.out | refine below_set ?_ GE952.out | refine below_set ?_ GE958.out | refine below_set ?_ GE964.out | refine below_set ?_ GE969.out | refine below_set ?_ GE979.out) | exact HB.out))) : w.heap.size ≤ gb985)); have n9_ := Aside0.mk ((by rw [hg]; exact (below_size (by repeat (first | (with_reducible first | exact HB.out | apply below_alloc | apply pw_below_drewN | apply below_drew1 | refine below_set ?_ GE942.out | refine below_set ?_ GE952.out | refine below_set ?_ GE958.out | refine below_set ?_ GE964.out | refine below_set ?_ GE969.out | refine below_set ?_ GE979.out) | exact HB.out))) : w.heap.size ≤ gb985)); have n10_ := Aside0.mk ((by rw [hg]; exact Nat.ne_of_lt (blk_lt (g := gb942) (o := .cells #[.int .i64 t938, .int .i64 t939, .int .i64 t940, .int .i64 t941] 51 (0, 0)) (by (with_reducible repeat (first | refine blk_drewN ?_ _ | refine blk_drew ?_ | refine blk_alloc ?_ _)); exact BK942.out)) : gb942 ≠ gb985)); have n11_ := Aside0.mk ((by rw [hg]; exact Nat.ne_of_gt (blk_lt (g := gb942) (o := .cells #[.int .i64 t938, .int .i64 t939, .int .i64 t940, .int .i64 t941] 51 (0, 0)) (by (with_reducible repeat (first | refine blk_drewN ?_ _ | refine blk_drew ?_ | refine blk_alloc ?_ _)); exact BK942.out)) : gb985 ≠ gb942)); have n12_ := Aside0.mk ((by rw [hg]; exact Nat.ne_of_lt (blk_lt (g := gb952) (o := .cells #[.int .i64 t947, .int .i64 t948, .int .i64 t949, .int .i64 t950] 51 (0, 0)) (by (with_reducible repeat (first | refine blk_drewN ?_ _ | refine blk_drew ?_ | refine blk_alloc ?_ _)); exact BK952.out)) : gb952 ≠ gb985)); have n13_ := Aside0.mk ((by rw [hg]; exact Nat.ne_of_gt (blk_lt (g := gb952) (o := .cells #[.int .i64 t947, .int .i64 t948, .int .i64 t949, .int .i64 t950] 51 (0, 0)) (by (with_reducible repeat (first | refine blk_drewN ?_ _ | refine blk_drew ?_ | refine blk_alloc ?_ _)); exact BK952.out)) : gb985 ≠ gb952)); have n14_ := Aside0.mk ((by rw [hg]; exact Nat.ne_of_lt (blk_lt (g := gb958) (o := .cells #[.int .i64 t953, .int .i64 t954, .int .i64 t955, .int .i64 t956] 51 (0, 0)) (by (with_reducible repeat (first | refine blk_drewN ?_ _ | refine blk_drew ?_ | refine blk_alloc ?_ _)); exact BK958.out)) : gb958 ≠ gb985)); have n15_ := Aside0.mk ((by rw [hg]; exact Nat.ne_of_gt (blk_lt (g := gb958) (o := .cells #[.int .i64 t953, .int .i64 t954, .int .i64 t955, .int .i64 t956] 51 (0, 0)) (by (with_reducible repeat (first | refine blk_drewN ?_ _ | refine blk_drew ?_ | refine blk_alloc ?_ _)); exact BK958.out)) : gb985 ≠ gb958)); have n16_ := Aside0.mk ((by rw [hg]; exact Nat.ne_of_lt (blk_lt (g := gb964) (o := .cells #[.int .i64 t959, .int .i64 t960, .int .i64 t961, .int .i64 t962] 51 (0, 0)) (by (with_reducible repeat (first | refine blk_drewN ?_ _ | refine blk_drew ?_ | refine blk_alloc ?_ _)); exact BK964.out)) : gb964 ≠ gb985)); have n17_ := Aside0.mk ((by rw [hg]; exact Nat.ne_of_gt (blk_lt (g := gb964) (o := .cells #[.int .i64 t959, .int .i64 t960, .int .i64 t961, .int .i64 t962] 51 (0, 0)) (by (with_reducible repeat (first | refine blk_drewN ?_ _ | refine blk_drew ?_ | refine blk_alloc ?_ _)); exact BK964.out)) : gb985 ≠ gb964)); have n18_ := Aside0.mk ((by rw [hg]; exact Nat.ne_of_lt (blk_lt (g := gb969) (o := .cells #[.int .i64 t965, .int .i64 t966, .int .i64 t967, .int .i64 t968] 51 (0, 0)) (by (with_reducible repeat (first | refine blk_drewN ?_ _ | refine blk_drew ?_ | refine blk_alloc ?_ _)); exact BK969.out)) : gb969 ≠ gb985)); have n19_ := Aside0.mk ((by rw [hg]; exact Nat.ne_of_gt (blk_lt (g := gb969) (o := .cells #[.int .i64 t965, .int .i64 t966, .int .i64 t967, .int .i64 t968] 51 (0, 0)) (by (with_reducible repeat (first | refine blk_drewN ?_ _ | refine blk_drew ?_ | refine blk_alloc ?_ _)); exact BK969.out)) : gb985 ≠ gb969)); have n20_ := Aside0.mk ((by rw [hg]; exact Nat.ne_of_lt (blk_lt (g := gb979) (o := .cells #[.int .i64 t974, .int .i64 t975, .int .i64 t976, .int .i64 t977] 51 (0, 0)) (by (with_reducible repeat (first | refine blk_drewN ?_ _ | refine blk_drew ?_ | refine blk_alloc ?_ _)); exact BK979.out)) : gb979 ≠ gb985)); have n21_ := Aside0.mk ((by rw [hg]; exact Nat.ne_of_gt (blk_lt (g := gb979) (o := .cells #[.int .i64 t974, .int .i64 t975, .int .i64 t976, .int .i64 t977] 51 (0, 0)) (by (with_reducible repeat (first | refine blk_drewN ?_ _ | refine blk_drew ?_ | refine blk_alloc ?_ _)); exact BK979.out)) : gb985 ≠ gb979)); clear BK942; clear BK952; clear BK958; clear BK964; clear BK969; clear BK979; clear HB; have BK942 := n0_; have BK952 := n1_; have BK958 := n2_; have BK964 := n3_; have BK969 := n4_; have BK979 := n5_; have HB := n6_; have BK985 := n7_; have GW985 := n8_; have GE985 := n9_; have NB942_985 := n10_; have NB985_942 := n11_; have NB952_985 := n12_; have NB985_952 := n13_; have NB958_985 := n14_; have NB985_958 := n15_; have NB964_985 := n16_; have NB985_964 := n17_; have NB969_985 := n18_; have NB985_969 := n19_; have NB979_985 := n20_; have NB985_979 := n21_; clear n0_ n1_ n2_ n3_ n4_ n5_ n6_ n7_ n8_ n9_ n10_ n11_ n12_ n13_ n14_ n15_ n16_ n17_ n18_ n19_ n20_ n21_; clear hb hbox hg; have hnb101 := NB985_942.out; have hnc101 := NB942_985.out; have hnb102 := NB985_952.out; have hnc102 := NB952_985.out; have hnb103 := NB985_958.out; have hnc103 := NB958_985.out; have hnb104 := NB985_964.out; have hnc104 := NB964_985.out; have hnb105 := NB985_969.out; have hnc105 := NB969_985.out; have hnb106 := NB985_979.out; have hnc106 := NB979_985.out; have hcz107_0 : w100.cell? ⟨gb985, 0, none⟩ = some (.int .i64 0) := (blk_cell BK985.out 0).trans rfl; have hcz107_1 : w100.cell? ⟨gb985, 1, none⟩ = some (.int .i64 0) := (blk_cell BK985.out 1).trans rfl; have hcz107_2 : w100.cell? ⟨gb985, 2, none⟩ = some (.int .i64 0) := (blk_cell BK985.out 2).trans rfl; have hcz107_3 : w100.cell? ⟨gb985, 3, none⟩ = some (.int .i64 0) := (blk_cell BK985.out 3).trans rfl; have hfz107_0 := blk_frozen BK985.out 0; have hfz107_1 := blk_frozen BK985.out 1; have hfz107_2 := blk_frozen BK985.out 2; have hfz107_3 := blk_frozen BK985.out 3))
                (try simp only [Act.put, List.setIfInBounds_toArray, List.set_cons_zero, List.set_cons_succ])
                go_cut [125] (fun v125 wc => ∃ (kq : Nat) (x125_83 : Bool), v125 = .bool x125_83 ∧ Aside0 (laws_FnOrders.j2 kq t943 t944 x125_83 t938 t939 t940 t941 = some true) ∧ Aside0 (kq ≤ kj78) ∧ Aside0 (wc.heap[gb942]? = some (.cells #[.int .i64 t938, .int .i64 t939, .int .i64 t940, .int .i64 t941] 51 (0, 0))) ∧ Aside0 (wc.heap[gb952]? = some (.cells #[.int .i64 t947, .int .i64 t948, .int .i64 t949, .int .i64 t950] 51 (0, 0))) ∧ Aside0 (wc.heap[gb958]? = some (.cells #[.int .i64 t953, .int .i64 t954, .int .i64 t955, .int .i64 t956] 51 (0, 0))) ∧ Aside0 (wc.heap[gb964]? = some (.cells #[.int .i64 t959, .int .i64 t960, .int .i64 t961, .int .i64 t962] 51 (0, 0))) ∧ Aside0 (wc.heap[gb969]? = some (.cells #[.int .i64 t965, .int .i64 t966, .int .i64 t967, .int .i64 t968] 51 (0, 0))) ∧ Aside0 (wc.heap[gb979]? = some (.cells #[.int .i64 t974, .int .i64 t975, .int .i64 t976, .int .i64 t977] 51 (0, 0))) ∧ Aside0 (wc.heap[gb985]? = some (.cells #[.int .i64 t980, .int .i64 t981, .int .i64 t982, .int .i64 t983] 51 (0, 0))) ∧ Aside0 (Below w.heap.size w wc))
                case first =>
                  have H := HC84.out
                  clear HC84
                  by_cases c108 : t978 = 0
                  · rw [if_pos c108] at H
                    have c108b0 : (t978 == 0) = true := beq_iff_eq.mpr c108
                    have c108b1 : (t978 != 0) = false := bne_eq_false_iff_eq.mpr c108
                    clear c108
                    (first | rw [c108b0] | (simp only [i64_w, i32_w]; rw [c108b0]) | skip)
                    by_cases c109 : t984 = 0
                    · rw [if_pos c109] at H
                      have c109b0 : (t984 == 0) = true := beq_iff_eq.mpr c109
                      have c109b1 : (t984 != 0) = false := bne_eq_false_iff_eq.mpr c109
                      clear c109
                      have H' := Aside0.mk H
                      clear H
                      have hnb110 := NB985_942.out
                      have hnc110 := NB942_985.out
                      have hnb111 := NB985_952.out
                      have hnc111 := NB952_985.out
                      have hnb112 := NB985_958.out
                      have hnc112 := NB958_985.out
                      have hnb113 := NB985_964.out
                      have hnc113 := NB964_985.out
                      have hnb114 := NB985_969.out
                      have hnc114 := NB969_985.out
                      have hnb115 := NB985_979.out
                      have hnc115 := NB979_985.out
                      have hcz116_0 : w100.cell? ⟨gb985, 0, none⟩ = some (.int .i64 0) := (blk_cell BK985.out 0).trans rfl
                      have hcz116_1 : w100.cell? ⟨gb985, 1, none⟩ = some (.int .i64 0) := (blk_cell BK985.out 1).trans rfl
                      have hcz116_2 : w100.cell? ⟨gb985, 2, none⟩ = some (.int .i64 0) := (blk_cell BK985.out 2).trans rfl
                      have hcz116_3 : w100.cell? ⟨gb985, 3, none⟩ = some (.int .i64 0) := (blk_cell BK985.out 3).trans rfl
                      have hfz116_0 := blk_frozen BK985.out 0
                      have hfz116_1 := blk_frozen BK985.out 1
                      have hfz116_2 := blk_frozen BK985.out 2
                      have hfz116_3 := blk_frozen BK985.out 3
                      have hnb117 := NB958_942.out
                      have hnc117 := NB942_958.out
                      have hnb118 := NB958_952.out
                      have hnc118 := NB952_958.out
                      have hnb119 := NB958_964.out
                      have hnc119 := NB964_958.out
                      have hnb120 := NB958_969.out
                      have hnc120 := NB969_958.out
                      have hnb121 := NB958_979.out
                      have hnc121 := NB979_958.out
                      have hcz122_0 : w100.cell? ⟨gb958, 0, none⟩ = some (.int .i64 t953) := (blk_cell BK958.out 0).trans rfl
                      have hcz122_1 : w100.cell? ⟨gb958, 1, none⟩ = some (.int .i64 t954) := (blk_cell BK958.out 1).trans rfl
                      have hcz122_2 : w100.cell? ⟨gb958, 2, none⟩ = some (.int .i64 t955) := (blk_cell BK958.out 2).trans rfl
                      have hcz122_3 : w100.cell? ⟨gb958, 3, none⟩ = some (.int .i64 t956) := (blk_cell BK958.out 3).trans rfl
                      have hfz122_0 := blk_frozen BK958.out 0
                      have hfz122_1 := blk_frozen BK958.out 1
                      have hfz122_2 := blk_frozen BK958.out 2
                      have hfz122_3 := blk_frozen BK958.out 3
                      go_wp2
                      go_meet
                      case rel => exact ⟨_, ((!(t980 == t953) || (!(t981 == t954) || (!(t982 == t955) || (!(t983 == t956)))))), (by first | rfl | (simp; done) | (simp [*]; done)), H', ⟨by have := HJ12.out; have := HJ78.out; first | omega | exact Nat.le_refl _⟩, ⟨by (with_reducible repeat (first | refine blk_drewN ?_ _ | refine blk_drew ?_ | refine blk_alloc ?_ _)); refine blk_far ?_ NB942_985.out _; (with_reducible repeat (first | refine blk_drewN ?_ _ | refine blk_drew ?_ | refine blk_alloc ?_ _)); refine blk_far ?_ NB942_985.out _; (with_reducible repeat (first | refine blk_drewN ?_ _ | refine blk_drew ?_ | refine blk_alloc ?_ _)); refine blk_far ?_ NB942_985.out _; (with_reducible repeat (first | refine blk_drewN ?_ _ | refine blk_drew ?_ | refine blk_alloc ?_ _)); refine blk_far ?_ NB942_985.out _; (with_reducible repeat (first | refine blk_drewN ?_ _ | refine blk_drew ?_ | refine blk_alloc ?_ _)); exact BK942.out⟩, ⟨by (with_reducible repeat (first | refine blk_drewN ?_ _ | refine blk_drew ?_ | refine blk_alloc ?_ _)); refine blk_far ?_ NB952_985.out _; (with_reducible repeat (first | refine blk_drewN ?_ _ | refine blk_drew ?_ | refine blk_alloc ?_ _)); refine blk_far ?_ NB952_985.out _; (with_reducible repeat (first | refine blk_drewN ?_ _ | refine blk_drew ?_ | refine blk_alloc ?_ _)); refine blk_far ?_ NB952_985.out _; (with_reducible repeat (first | refine blk_drewN ?_ _ | refine blk_drew ?_ | refine blk_alloc ?_ _)); refine blk_far ?_ NB952_985.out _; (with_reducible repeat (first | refine blk_drewN ?_ _ | refine blk_drew ?_ | refine blk_alloc ?_ _)); exact BK952.out⟩, ⟨by (with_reducible repeat (first | refine blk_drewN ?_ _ | refine blk_drew ?_ | refine blk_alloc ?_ _)); refine blk_far ?_ NB958_985.out _; (with_reducible repeat (first | refine blk_drewN ?_ _ | refine blk_drew ?_ | refine blk_alloc ?_ _)); refine blk_far ?_ NB958_985.out _; (with_reducible repeat (first | refine blk_drewN ?_ _ | refine blk_drew ?_ | refine blk_alloc ?_ _)); refine blk_far ?_ NB958_985.out _; (with_reducible repeat (first | refine blk_drewN ?_ _ | refine blk_drew ?_ | refine blk_alloc ?_ _)); refine blk_far ?_ NB958_985.out _; (with_reducible repeat (first | refine blk_drewN ?_ _ | refine blk_drew ?_ | refine blk_alloc ?_ _)); exact BK958.out⟩, ⟨by (with_reducible repeat (first | refine blk_drewN ?_ _ | refine blk_drew ?_ | refine blk_alloc ?_ _)); refine blk_far ?_ NB964_985.out _; (with_reducible repeat (first | refine blk_drewN ?_ _ | refine blk_drew ?_ | refine blk_alloc ?_ _)); refine blk_far ?_ NB964_985.out _; (with_reducible repeat (first | refine blk_drewN ?_ _ | refine blk_drew ?_ | refine blk_alloc ?_ _)); refine blk_far ?_ NB964_985.out _; (with_reducible repeat (first | refine blk_drewN ?_ _ | refine blk_drew ?_ | refine blk_alloc ?_ _)); refine blk_far ?_ NB964_985.out _; (with_reducible repeat (first | refine blk_drewN ?_ _ | refine blk_drew ?_ | refine blk_alloc ?_ _)); exact BK964.out⟩, ⟨by (with_reducible repeat (first | refine blk_drewN ?_ _ | refine blk_drew ?_ | refine blk_alloc ?_ _)); refine blk_far ?_ NB969_985.out _; (with_reducible repeat (first | refine blk_drewN ?_ _ | refine blk_drew ?_ | refine blk_alloc ?_ _)); refine blk_far ?_ NB969_985.out _; (with_reducible repeat (first | refine blk_drewN ?_ _ | refine blk_drew ?_ | refine blk_alloc ?_ _)); refine blk_far ?_ NB969_985.out _; (with_reducible repeat (first | refine blk_drewN ?_ _ | refine blk_drew ?_ | refine blk_alloc ?_ _)); refine blk_far ?_ NB969_985.out _; (with_reducible repeat (first | refine blk_drewN ?_ _ | refine blk_drew ?_ | refine blk_alloc ?_ _)); exact BK969.out⟩, ⟨by (with_reducible repeat (first | refine blk_drewN ?_ _ | refine blk_drew ?_ | refine blk_alloc ?_ _)); refine blk_far ?_ NB979_985.out _; (with_reducible repeat (first | refine blk_drewN ?_ _ | refine blk_drew ?_ | refine blk_alloc ?_ _)); refine blk_far ?_ NB979_985.out _; (with_reducible repeat (first | refine blk_drewN ?_ _ | refine blk_drew ?_ | refine blk_alloc ?_ _)); refine blk_far ?_ NB979_985.out _; (with_reducible repeat (first | refine blk_drewN ?_ _ | refine blk_drew ?_ | refine blk_alloc ?_ _)); refine blk_far ?_ NB979_985.out _; (with_reducible repeat (first | refine blk_drewN ?_ _ | refine blk_drew ?_ | refine blk_alloc ?_ _)); exact BK979.out⟩, ⟨by (with_reducible repeat (first | refine blk_drewN ?_ _ | refine blk_drew ?_ | refine blk_alloc ?_ _)); refine blk_put (cs := #[.int .i64 t980, .int .i64 t981, .int .i64 t982, .int .i64 0]) ?_ 3 _ rfl; (with_reducible repeat (first | refine blk_drewN ?_ _ | refine blk_drew ?_ | refine blk_alloc ?_ _)); refine blk_put (cs := #[.int .i64 t980, .int .i64 t981, .int .i64 0, .int .i64 0]) ?_ 2 _ rfl; (with_reducible repeat (first | refine blk_drewN ?_ _ | refine blk_drew ?_ | refine blk_alloc ?_ _)); refine blk_put (cs := #[.int .i64 t980, .int .i64 0, .int .i64 0, .int .i64 0]) ?_ 1 _ rfl; (with_reducible repeat (first | refine blk_drewN ?_ _ | refine blk_drew ?_ | refine blk_alloc ?_ _)); refine blk_put (cs := #[.int .i64 0, .int .i64 0, .int .i64 0, .int .i64 0]) ?_ 0 _ rfl; (with_reducible repeat (first | refine blk_drewN ?_ _ | refine blk_drew ?_ | refine blk_alloc ?_ _)); exact BK985.out⟩, ⟨by repeat (first | (with_reducible first | exact HB.out | apply below_alloc | apply pw_below_drewN | apply below_drew1 | refine below_set ?_ GE942.out | refine below_set ?_ GE952.out | refine below_set ?_ GE958.out | refine below_set ?_ GE964.out | refine below_set ?_ GE969.out | refine below_set ?_ GE979.out | refine below_set ?_ GE985.out) | exact HB.out)⟩⟩
                    · rw [if_neg c109] at H
                      exact absurd H (by cases kj78 <;> simp [laws_FnOrders.j2])
                  · rw [if_neg c108] at H
                    exact absurd H (by cases kj78 <;> simp [laws_FnOrders.j2])
                case rest =>
                  clear HC84
                  try clear c1
                  try clear c2
                  try clear p2
                  try clear c3
                  try clear c4
                  try clear c5
                  try clear c6
                  try clear p6
                  try clear c7
                  try clear c8
                  try clear c9
                  try clear c10
                  try clear c11
                  try clear c12
                  try clear c14
                  try clear c22
                  try clear c26
                  try clear c27
                  try clear c32
                  try clear c33
                  try clear c34
                  try clear c38
                  try clear c39
                  try clear c40
                  try clear c41
                  try clear c43
                  try clear c46
                  try clear c46b0
                  try clear c46b1
                  try clear c47
                  try clear c47b0
                  try clear c47b1
                  try clear c48
                  try clear c48b0
                  try clear c48b1
                  try clear c49
                  try clear c49b0
                  try clear c50
                  try clear c51
                  try clear c52
                  try clear c53
                  try clear c54
                  try clear c55
                  try clear c56
                  try clear c57
                  try clear c58
                  try clear c59
                  try clear c59b0
                  try clear c59b1
                  try clear c60
                  try clear c61
                  try clear c62
                  try clear c63
                  try clear p64
                  try clear c65
                  try clear c66
                  try clear c67
                  try clear c69
                  try clear c70
                  try clear c71
                  try clear c72
                  try clear c74
                  try clear c75
                  try clear c76
                  try clear c78
                  try clear c80
                  try clear c80b0
                  try clear c80b1
                  try clear c81
                  try clear c85
                  try clear c86
                  try clear c87
                  try clear c88
                  try clear c92
                  try clear c93
                  try clear c94
                  try clear c95
                  try clear c96
                  try clear c101
                  try clear c102
                  try clear c103
                  try clear c104
                  try clear c105
                  try clear c106
                  try clear c108
                  try clear c108b0
                  try clear c108b1
                  try clear c109
                  try clear c109b0
                  try clear c109b1
                  try clear c110
                  try clear c111
                  try clear c112
                  try clear c113
                  try clear c114
                  try clear c115
                  try clear c117
                  try clear c118
                  try clear c119
                  try clear c120
                  try clear c121
                  try clear hcz107_0
                  try clear hcz107_1
                  try clear hcz107_2
                  try clear hcz107_3
                  try clear hcz116_0
                  try clear hcz116_1
                  try clear hcz116_2
                  try clear hcz116_3
                  try clear hcz122_0
                  try clear hcz122_1
                  try clear hcz122_2
                  try clear hcz122_3
                  try clear hcz16_0
                  try clear hcz16_1
                  try clear hcz16_2
                  try clear hcz16_3
                  try clear hcz18_0
                  try clear hcz18_1
                  try clear hcz18_2
                  try clear hcz18_3
                  try clear hcz23_0
                  try clear hcz23_1
                  try clear hcz23_2
                  try clear hcz23_3
                  try clear hcz28_0
                  try clear hcz28_1
                  try clear hcz28_2
                  try clear hcz28_3
                  try clear hcz29_0
                  try clear hcz29_1
                  try clear hcz29_2
                  try clear hcz29_3
                  try clear hcz35_0
                  try clear hcz35_1
                  try clear hcz35_2
                  try clear hcz35_3
                  try clear hcz42_0
                  try clear hcz42_1
                  try clear hcz42_2
                  try clear hcz42_3
                  try clear hcz44_0
                  try clear hcz44_1
                  try clear hcz44_2
                  try clear hcz44_3
                  try clear hcz54_0
                  try clear hcz54_1
                  try clear hcz54_2
                  try clear hcz54_3
                  try clear hcz58_0
                  try clear hcz58_1
                  try clear hcz58_2
                  try clear hcz58_3
                  try clear hcz64_0
                  try clear hcz64_1
                  try clear hcz64_2
                  try clear hcz64_3
                  try clear hcz68_0
                  try clear hcz68_1
                  try clear hcz68_2
                  try clear hcz68_3
                  try clear hcz73_0
                  try clear hcz73_1
                  try clear hcz73_2
                  try clear hcz73_3
                  try clear hcz77_0
                  try clear hcz77_1
                  try clear hcz77_2
                  try clear hcz77_3
                  try clear hcz89_0
                  try clear hcz89_1
                  try clear hcz89_2
                  try clear hcz89_3
                  try clear hcz97_0
                  try clear hcz97_1
                  try clear hcz97_2
                  try clear hcz97_3
                  try clear hcz98_0
                  try clear hcz98_1
                  try clear hcz98_2
                  try clear hcz98_3
                  try clear hfz107_0
                  try clear hfz107_1
                  try clear hfz107_2
                  try clear hfz107_3
                  try clear hfz116_0
                  try clear hfz116_1
                  try clear hfz116_2
                  try clear hfz116_3
                  try clear hfz122_0
                  try clear hfz122_1
                  try clear hfz122_2
                  try clear hfz122_3
                  try clear hfz16_0
                  try clear hfz16_1
                  try clear hfz16_2
                  try clear hfz16_3
                  try clear hfz18_0
                  try clear hfz18_1
                  try clear hfz18_2
                  try clear hfz18_3
                  try clear hfz23_0
                  try clear hfz23_1
                  try clear hfz23_2
                  try clear hfz23_3
                  try clear hfz28_0
                  try clear hfz28_1
                  try clear hfz28_2
                  try clear hfz28_3
                  try clear hfz29_0
                  try clear hfz29_1
                  try clear hfz29_2
                  try clear hfz29_3
                  try clear hfz35_0
                  try clear hfz35_1
                  try clear hfz35_2
                  try clear hfz35_3
                  try clear hfz42_0
                  try clear hfz42_1
                  try clear hfz42_2
                  try clear hfz42_3
                  try clear hfz44_0
                  try clear hfz44_1
                  try clear hfz44_2
                  try clear hfz44_3
                  try clear hfz54_0
                  try clear hfz54_1
                  try clear hfz54_2
                  try clear hfz54_3
                  try clear hfz58_0
                  try clear hfz58_1
                  try clear hfz58_2
                  try clear hfz58_3
                  try clear hfz64_0
                  try clear hfz64_1
                  try clear hfz64_2
                  try clear hfz64_3
                  try clear hfz68_0
                  try clear hfz68_1
                  try clear hfz68_2
                  try clear hfz68_3
                  try clear hfz73_0
                  try clear hfz73_1
                  try clear hfz73_2
                  try clear hfz73_3
                  try clear hfz77_0
                  try clear hfz77_1
                  try clear hfz77_2
                  try clear hfz77_3
                  try clear hfz89_0
                  try clear hfz89_1
                  try clear hfz89_2
                  try clear hfz89_3
                  try clear hfz97_0
                  try clear hfz97_1
                  try clear hfz97_2
                  try clear hfz97_3
                  try clear hfz98_0
                  try clear hfz98_1
                  try clear hfz98_2
                  try clear hfz98_3
                  try clear p2
                  obtain ⟨kq, x125_83, rfl, HA, HJ83, BK942, BK952, BK958, BK964, BK969, BK979, BK985, HB⟩ := hcut
                  cases kq with
                  | zero => exact absurd HA.out (by simp [laws_FnOrders.j2])
                  | succ kj83 =>
                    have H := HA.out
                    clear HA
                    simp only [laws_FnOrders.j2] at H
                    by_cases c123 : x125_83 = true
                    · subst c123
                      have H1 : (some false) = some true := by rw [if_pos rfl] at H; exact H
                      clear H
                      have H := H1
                      clear H1
                      exact absurd (Option.some.inj H) (by decide)
                    · replace c123 := Bool.eq_false_iff.mpr c123
                      subst c123
                      have H1 : (if t944 = 0 then (if t943 = 0 then (some true) else ((impl_PowerMat.f kj83 t938 t939 t940 t941 t943).bind fun bt986 => (if bt986.2.2.2.2 = 0 then (some (bt986.1 == 1 && (bt986.2.1 == 0 && (bt986.2.2.1 == 0 && (bt986.2.2.2.1 == 1))))) else (some false)))) else (some true)) = some true := by rw [if_neg (show ¬ (false = true) by decide)] at H; exact H
                      clear H
                      have H := H1
                      clear H1
                      by_cases c124 : t944 = 0
                      · rw [if_pos c124] at H
                        have c124b0 : (t944 == 0) = true := beq_iff_eq.mpr c124
                        have c124b1 : (t944 != 0) = false := bne_eq_false_iff_eq.mpr c124
                        clear c124
                        by_cases c125 : t943 = 0
                        · rw [if_pos c125] at H
                          have c125b0 : (t943 == 0) = true := beq_iff_eq.mpr c125
                          have c125b1 : (t943 != 0) = false := bne_eq_false_iff_eq.mpr c125
                          clear c125
                          clear H
                          go_wp2
                          go_ret
                          exact ⟨by first | rfl | (simp [errW_none, errW_some] <;> rfl) | (simp [*, errW_none, errW_some] <;> rfl), by repeat (first | (with_reducible first | exact HB.out | apply below_alloc | apply pw_below_drewN | apply below_drew1 | refine below_set ?_ GE942.out | refine below_set ?_ GE952.out | refine below_set ?_ GE958.out | refine below_set ?_ GE964.out | refine below_set ?_ GE969.out | refine below_set ?_ GE979.out | refine below_set ?_ GE985.out) | exact HB.out)⟩
                        · rw [if_neg c125] at H
                          have c125b0 : (t943 == 0) = false := beq_eq_false_iff_ne.mpr c125
                          have c125b1 : (t943 != 0) = true := bne_iff_ne.mpr c125
                          replace H := Option.bind_eq_some_iff.mp H
                          obtain ⟨⟨t986, t987, t988, t989, t990⟩, A1260, H⟩ := H
                          replace H : (if t990 = 0 then (some (t986 == 1 && (t987 == 0 && (t988 == 0 && (t989 == 1))))) else (some false)) = some true := H
                          have A126 := Aside0.mk A1260
                          clear A1260
                          by_cases c127 : t990 = 0
                          · rw [if_pos c127] at H
                            have c127b0 : (t990 == 0) = true := beq_iff_eq.mpr c127
                            have c127b1 : (t990 != 0) = false := bne_eq_false_iff_eq.mpr c127
                            clear c127
                            have hrT_ := Option.some.inj H
                            have hnb128 := NB942_952.out
                            have hnc128 := NB952_942.out
                            have hnb129 := NB942_958.out
                            have hnc129 := NB958_942.out
                            have hnb130 := NB942_964.out
                            have hnc130 := NB964_942.out
                            have hnb131 := NB942_969.out
                            have hnc131 := NB969_942.out
                            have hnb132 := NB942_979.out
                            have hnc132 := NB979_942.out
                            have hnb133 := NB942_985.out
                            have hnc133 := NB985_942.out
                            have hcz134_0 : wc.cell? ⟨gb942, 0, none⟩ = some (.int .i64 t938) := (blk_cell BK942.out 0).trans rfl
                            have hcz134_1 : wc.cell? ⟨gb942, 1, none⟩ = some (.int .i64 t939) := (blk_cell BK942.out 1).trans rfl
                            have hcz134_2 : wc.cell? ⟨gb942, 2, none⟩ = some (.int .i64 t940) := (blk_cell BK942.out 2).trans rfl
                            have hcz134_3 : wc.cell? ⟨gb942, 3, none⟩ = some (.int .i64 t941) := (blk_cell BK942.out 3).trans rfl
                            have hfz134_0 := blk_frozen BK942.out 0
                            have hfz134_1 := blk_frozen BK942.out 1
                            have hfz134_2 := blk_frozen BK942.out 2
                            have hfz134_3 := blk_frozen BK942.out 3
                            go_wp2_with (first | ((with_reducible refine gate_callee (f := 57) rfl ?_); refine goesL_ (some 135) rfl rfl Try.func57 (by kernel_rfl) rfl #[.agg #[.int .i64 t938, .int .i64 t939, .int .i64 t940, .int .i64 t941], .int .i64 t943] rfl (by (try simp only [List.map_toArray, List.map_cons, List.map_nil]); first | done | rfl | (simp only [List.length_drop, List.length_take]; rfl)) ?_; (with_reducible refine (impl_PowerMat.calls kj83 t938 t939 t940 t941 t943 t986 t987 t988 t989 t990 _ A126.out).mono ?_); rintro e w135 ⟨rfl, hb⟩; refine ⟨_, rfl, ?_⟩; have n0_ := Aside0.mk (blk_below (g := gb942) (o := .cells #[.int .i64 t938, .int .i64 t939, .int .i64 t940, .int .i64 t941] 51 (0, 0)) (by (with_reducible repeat (first | refine blk_drewN ?_ _ | refine blk_drew ?_ | refine blk_alloc ?_ _)); exact BK942.out) hb); have n1_ := Aside0.mk (blk_below (g := gb952) (o := .cells #[.int .i64 t947, .int .i64 t948, .int .i64 t949, .int .i64 t950] 51 (0, 0)) (by (with_reducible repeat (first | refine blk_drewN ?_ _ | refine blk_drew ?_ | refine blk_alloc ?_ _)); exact BK952.out) hb); have n2_ := Aside0.mk (blk_below (g := gb958) (o := .cells #[.int .i64 t953, .int .i64 t954, .int .i64 t955, .int .i64 t956] 51 (0, 0)) (by (with_reducible repeat (first | refine blk_drewN ?_ _ | refine blk_drew ?_ | refine blk_alloc ?_ _)); exact BK958.out) hb); have n3_ := Aside0.mk (blk_below (g := gb964) (o := .cells #[.int .i64 t959, .int .i64 t960, .int .i64 t961, .int .i64 t962] 51 (0, 0)) (by (with_reducible repeat (first | refine blk_drewN ?_ _ | refine blk_drew ?_ | refine blk_alloc ?_ _)); exact BK964.out) hb); have n4_ := Aside0.mk (blk_below (g := gb969) (o := .cells #[.int .i64 t965, .int .i64 t966, .int .i64 t967, .int .i64 t968] 51 (0, 0)) (by (with_reducible repeat (first | refine blk_drewN ?_ _ | refine blk_drew ?_ | refine blk_alloc ?_ _)); exact BK969.out) hb); have n5_ := Aside0.mk (blk_below (g := gb979) (o := .cells #[.int .i64 t974, .int .i64 t975, .int .i64 t976, .int .i64 t977] 51 (0, 0)) (by (with_reducible repeat (first | refine blk_drewN ?_ _ | refine blk_drew ?_ | refine blk_alloc ?_ _)); exact BK979.out) hb); have n6_ := Aside0.mk (blk_below (g := gb985) (o := .cells #[.int .i64 t980, .int .i64 t981, .int .i64 t982, .int .i64 t983] 51 (0, 0)) (by (with_reducible repeat (first | refine blk_drewN ?_ _ | refine blk_drew ?_ | refine blk_alloc ?_ _)); exact BK985.out) hb); have n7_ := Aside0.mk (below_step (by repeat (first | (with_reducible first | exact HB.out | apply below_alloc | apply pw_below_drewN | apply below_drew1 | refine below_set ?_ GE942.out | refine below_set ?_ GE952.out | refine below_set ?_ GE958.out | refine below_set ?_ GE964.out | refine below_set ?_ GE969.out | refine below_set ?_ GE979.out | refine below_set ?_ GE985.out) | exact HB.out)) hb); clear BK942; clear BK952; clear BK958; clear BK964; clear BK969; clear BK979; clear BK985; clear HB; have BK942 := n0_; have BK952 := n1_; have BK958 := n2_; have BK964 := n3_; have BK969 := n4_; have BK979 := n5_; have BK985 := n6_; have HB := n7_; clear n0_ n1_ n2_ n3_ n4_ n5_ n6_ n7_; (try clear hb); (try clear hb2); (try clear hk); (try clear hi)) | ((with_reducible refine gate_dst (N := 23) rfl ?_); refine box_event ?hg (N := 23) ?hd (cs := #[.int .i64 0, .int .i64 0, .int .i64 0, .int .i64 0]) (t := 51) ?hr ?_; (case hd => rfl); (case hg => rfl); (case hr => first | (go_simp; done) | (go_simp; rfl)); intro gb991 hg w136 hbox hb; have n0_ := Aside0.mk (blk_below (g := gb942) (o := .cells #[.int .i64 t938, .int .i64 t939, .int .i64 t940, .int .i64 t941] 51 (0, 0)) (by (with_reducible repeat (first | refine blk_drewN ?_ _ | refine blk_drew ?_ | refine blk_alloc ?_ _)); exact BK942.out) hb); have n1_ := Aside0.mk (blk_below (g := gb952) (o := .cells #[.int .i64 t947, .int .i64 t948, .int .i64 t949, .int .i64 t950] 51 (0, 0)) (by (with_reducible repeat (first | refine blk_drewN ?_ _ | refine blk_drew ?_ | refine blk_alloc ?_ _)); exact BK952.out) hb); have n2_ := Aside0.mk (blk_below (g := gb958) (o := .cells #[.int .i64 t953, .int .i64 t954, .int .i64 t955, .int .i64 t956] 51 (0, 0)) (by (with_reducible repeat (first | refine blk_drewN ?_ _ | refine blk_drew ?_ | refine blk_alloc ?_ _)); exact BK958.out) hb); have n3_ := Aside0.mk (blk_below (g := gb964) (o := .cells #[.int .i64 t959, .int .i64 t960, .int .i64 t961, .int .i64 t962] 51 (0, 0)) (by (with_reducible repeat (first | refine blk_drewN ?_ _ | refine blk_drew ?_ | refine blk_alloc ?_ _)); exact BK964.out) hb); have n4_ := Aside0.mk (blk_below (g := gb969) (o := .cells #[.int .i64 t965, .int .i64 t966, .int .i64 t967, .int .i64 t968] 51 (0, 0)) (by (with_reducible repeat (first | refine blk_drewN ?_ _ | refine blk_drew ?_ | refine blk_alloc ?_ _)); exact BK969.out) hb); have n5_ := Aside0.mk (blk_below (g := gb979) (o := .cells #[.int .i64 t974, .int .i64 t975, .int .i64 t976, .int .i64 t977] 51 (0, 0)) (by (with_reducible repeat (first | refine blk_drewN ?_ _ | refine blk_drew ?_ | refine blk_alloc ?_ _)); exact BK979.out) hb); have n6_ := Aside0.mk (blk_below (g := gb985) (o := .cells #[.int .i64 t980, .int .i64 t981, .int .i64 t982, .int .i64 t983] 51 (0, 0)) (by (with_reducible repeat (first | refine blk_drewN ?_ _ | refine blk_drew ?_ | refine blk_alloc ?_ _)); exact BK985.out) hb); have n7_ := Aside0.mk (below_step (by repeat (first | (with_reducible first | exact HB.out | apply below_alloc | apply pw_below_drewN | apply below_drew1 | refine below_set ?_ GE942.out | refine below_set ?_ GE952.out | refine below_set ?_ GE958.out | refine below_set ?_ GE964.out | refine below_set ?_ GE969.out | refine below_set ?_ GE979.out | refine below_set ?_ GE985.out) | exact HB.out)) hb); have n8_ := Aside0.mk (hbox); have n9_ := Aside0.mk ((by rw [hg]; exact (below_size (by repeat (first | (with_reducible first | exact HB.out | apply below_alloc | apply pw_below_drewN | apply below_drew1 | refine below_set ?_ GE942.out | refine below_set ?_ GE952.out | refine below_set ?_ GE958.out | refine below_set ?_ GE964.out | refine below_set ?_ GE969.out | refine below_set ?_ GE979.out | refine below_set ?_ GE985.out) | exact HB.out))) : w.heap.size ≤ gb991)); have n10_ := Aside0.mk ((by rw [hg]; exact (below_size (by repeat (first | (with_reducible first | exact HB.out | apply below_alloc | apply pw_below_drewN | apply below_drew1 | refine below_set ?_ GE942.out | refine below_set ?_ GE952.out | refine below_set ?_ GE958.out | refine below_set ?_ GE964.out | refine below_set ?_ GE969.out | refine below_set ?_ GE979.out | refine below_set ?_ GE985.out) | exact HB.out))) : w.heap.size ≤ gb991)); have n11_ := Aside0.mk ((by rw [hg]; exact Nat.ne_of_lt (blk_lt (g := gb942) (o := .cells #[.int .i64 t938, .int .i64 t939, .int .i64 t940, .int .i64 t941] 51 (0, 0)) (by (with_reducible repeat (first | refine blk_drewN ?_ _ | refine blk_drew ?_ | refine blk_alloc ?_ _)); exact BK942.out)) : gb942 ≠ gb991)); have n12_ := Aside0.mk ((by rw [hg]; exact Nat.ne_of_gt (blk_lt (g := gb942) (o := .cells #[.int .i64 t938, .int .i64 t939, .int .i64 t940, .int .i64 t941] 51 (0, 0)) (by (with_reducible repeat (first | refine blk_drewN ?_ _ | refine blk_drew ?_ | refine blk_alloc ?_ _)); exact BK942.out)) : gb991 ≠ gb942)); have n13_ := Aside0.mk ((by rw [hg]; exact Nat.ne_of_lt (blk_lt (g := gb952) (o := .cells #[.int .i64 t947, .int .i64 t948, .int .i64 t949, .int .i64 t950] 51 (0, 0)) (by (with_reducible repeat (first | refine blk_drewN ?_ _ | refine blk_drew ?_ | refine blk_alloc ?_ _)); exact BK952.out)) : gb952 ≠ gb991)); have n14_ := Aside0.mk ((by rw [hg]; exact Nat.ne_of_gt (blk_lt (g := gb952) (o := .cells #[.int .i64 t947, .int .i64 t948, .int .i64 t949, .int .i64 t950] 51 (0, 0)) (by (with_reducible repeat (first | refine blk_drewN ?_ _ | refine blk_drew ?_ | refine blk_alloc ?_ _)); exact BK952.out)) : gb991 ≠ gb952)); have n15_ := Aside0.mk ((by rw [hg]; exact Nat.ne_of_lt (blk_lt (g := gb958) (o := .cells #[.int .i64 t953, .int .i64 t954, .int .i64 t955, .int .i64 t956] 51 (0, 0)) (by (with_reducible repeat (first | refine blk_drewN ?_ _ | refine blk_drew ?_ | refine blk_alloc ?_ _)); exact BK958.out)) : gb958 ≠ gb991)); have n16_ := Aside0.mk ((by rw [hg]; exact Nat.ne_of_gt (blk_lt (g := gb958) (o := .cells #[.int .i64 t953, .int .i64 t954, .int .i64 t955, .int .i64 t956] 51 (0, 0)) (by (with_reducible repeat (first | refine blk_drewN ?_ _ | refine blk_drew ?_ | refine blk_alloc ?_ _)); exact BK958.out)) : gb991 ≠ gb958)); have n17_ := Aside0.mk ((by rw [hg]; exact Nat.ne_of_lt (blk_lt (g := gb964) (o := .cells #[.int .i64 t959, .int .i64 t960, .int .i64 t961, .int .i64 t962] 51 (0, 0)) (by (with_reducible repeat (first | refine blk_drewN ?_ _ | refine blk_drew ?_ | refine blk_alloc ?_ _)); exact BK964.out)) : gb964 ≠ gb991)); have n18_ := Aside0.mk ((by rw [hg]; exact Nat.ne_of_gt (blk_lt (g := gb964) (o := .cells #[.int .i64 t959, .int .i64 t960, .int .i64 t961, .int .i64 t962] 51 (0, 0)) (by (with_reducible repeat (first | refine blk_drewN ?_ _ | refine blk_drew ?_ | refine blk_alloc ?_ _)); exact BK964.out)) : gb991 ≠ gb964)); have n19_ := Aside0.mk ((by rw [hg]; exact Nat.ne_of_lt (blk_lt (g := gb969) (o := .cells #[.int .i64 t965, .int .i64 t966, .int .i64 t967, .int .i64 t968] 51 (0, 0)) (by (with_reducible repeat (first | refine blk_drewN ?_ _ | refine blk_drew ?_ | refine blk_alloc ?_ _)); exact BK969.out)) : gb969 ≠ gb991)); have n20_ := Aside0.mk ((by rw [hg]; exact Nat.ne_of_gt (blk_lt (g := gb969) (o := .cells #[.int .i64 t965, .int .i64 t966, .int .i64 t967, .int .i64 t968] 51 (0, 0)) (by (with_reducible repeat (first | refine blk_drewN ?_ _ | refine blk_drew ?_ | refine blk_alloc ?_ _)); exact BK969.out)) : gb991 ≠ gb969)); have n21_ := Aside0.mk ((by rw [hg]; exact Nat.ne_of_lt (blk_lt (g := gb979) (o := .cells #[.int .i64 t974, .int .i64 t975, .int .i64 t976, .int .i64 t977] 51 (0, 0)) (by (with_reducible repeat (first | refine blk_drewN ?_ _ | refine blk_drew ?_ | refine blk_alloc ?_ _)); exact BK979.out)) : gb979 ≠ gb991)); have n22_ := Aside0.mk ((by rw [hg]; exact Nat.ne_of_gt (blk_lt (g := gb979) (o := .cells #[.int .i64 t974, .int .i64 t975, .int .i64 t976, .int .i64 t977] 51 (0, 0)) (by (with_reducible repeat (first | refine blk_drewN ?_ _ | refine blk_drew ?_ | refine blk_alloc ?_ _)); exact BK979.out)) : gb991 ≠ gb979)); have n23_ := Aside0.mk ((by rw [hg]; exact Nat.ne_of_lt (blk_lt (g := gb985) (o := .cells #[.int .i64 t980, .int .i64 t981, .int .i64 t982, .int .i64 t983] 51 (0, 0)) (by (with_reducible repeat (first | refine blk_drewN ?_ _ | refine blk_drew ?_ | refine blk_alloc ?_ _)); exact BK985.out)) : gb985 ≠ gb991)); have n24_ := Aside0.mk ((by rw [hg]; exact Nat.ne_of_gt (blk_lt (g := gb985) (o := .cells #[.int .i64 t980, .int .i64 t981, .int .i64 t982, .int .i64 t983] 51 (0, 0)) (by (with_reducible repeat (first | refine blk_drewN ?_ _ | refine blk_drew ?_ | refine blk_alloc ?_ _)); exact BK985.out)) : gb991 ≠ gb985)); clear BK942; clear BK952; clear BK958; clear BK964; clear BK969; clear BK979; clear BK985; clear HB; have BK942 := n0_; have BK952 := n1_; have BK958 := n2_; have BK964 := n3_; have BK969 := n4_; have BK979 := n5_; have BK985 := n6_; have HB := n7_; have BK991 := n8_; have GW991 := n9_; have GE991 := n10_; have NB942_991 := n11_; have NB991_942 := n12_; have NB952_991 := n13_; have NB991_952 := n14_; have NB958_991 := n15_; have NB991_958 := n16_; have NB964_991 := n17_; have NB991_964 := n18_; have NB969_991 := n19_; have NB991_969 := n20_; have NB979_991 := n21_; have NB991_979 := n22_; have NB985_991 := n23_; have NB991_985 := n24_; clear n0_ n1_ n2_ n3_ n4_ n5_ n6_ n7_ n8_ n9_ n10_ n11_ n12_ n13_ n14_ n15_ n16_ n17_ n18_ n19_ n20_ n21_ n22_ n23_ n24_; clear hb hbox hg; have hnb137 := NB991_942.out; have hnc137 := NB942_991.out; have hnb138 := NB991_952.out; have hnc138 := NB952_991.out; have hnb139 := NB991_958.out; have hnc139 := NB958_991.out; have hnb140 := NB991_964.out; have hnc140 := NB964_991.out; have hnb141 := NB991_969.out; have hnc141 := NB969_991.out; have hnb142 := NB991_979.out; have hnc142 := NB979_991.out; have hnb143 := NB991_985.out; have hnc143 := NB985_991.out; have hcz144_0 : w136.cell? ⟨gb991, 0, none⟩ = some (.int .i64 0) := (blk_cell BK991.out 0).trans rfl; have hcz144_1 : w136.cell? ⟨gb991, 1, none⟩ = some (.int .i64 0) := (blk_cell BK991.out 1).trans rfl; have hcz144_2 : w136.cell? ⟨gb991, 2, none⟩ = some (.int .i64 0) := (blk_cell BK991.out 2).trans rfl; have hcz144_3 : w136.cell? ⟨gb991, 3, none⟩ = some (.int .i64 0) := (blk_cell BK991.out 3).trans rfl; have hfz144_0 := blk_frozen BK991.out 0; have hfz144_1 := blk_frozen BK991.out 1; have hfz144_2 := blk_frozen BK991.out 2; have hfz144_3 := blk_frozen BK991.out 3))
                            all_goals go_ret
                            all_goals exact ⟨by first | rfl | (simp [errW_none, errW_some] <;> rfl) | (simp [*, errW_none, errW_some] <;> rfl), by repeat (first | (with_reducible first | exact HB.out | apply below_alloc | apply pw_below_drewN | apply below_drew1 | refine below_set ?_ GE942.out | refine below_set ?_ GE952.out | refine below_set ?_ GE958.out | refine below_set ?_ GE964.out | refine below_set ?_ GE969.out | refine below_set ?_ GE979.out | refine below_set ?_ GE985.out | refine below_set ?_ GE991.out) | exact HB.out)⟩
                          · rw [if_neg c127] at H
                            have c127b0 : (t990 == 0) = false := beq_eq_false_iff_ne.mpr c127
                            have c127b1 : (t990 != 0) = true := bne_iff_ne.mpr c127
                            exact absurd (Option.some.inj H) (by decide)
                      · rw [if_neg c124] at H
                        have c124b0 : (t944 == 0) = false := beq_eq_false_iff_ne.mpr c124
                        have c124b1 : (t944 != 0) = true := bne_iff_ne.mpr c124
                        clear H
                        go_wp2
                        go_ret
                        exact ⟨by first | rfl | (simp [errW_none, errW_some] <;> rfl) | (simp [*, errW_none, errW_some] <;> rfl), by repeat (first | (with_reducible first | exact HB.out | apply below_alloc | apply pw_below_drewN | apply below_drew1 | refine below_set ?_ GE942.out | refine below_set ?_ GE952.out | refine below_set ?_ GE958.out | refine below_set ?_ GE964.out | refine below_set ?_ GE969.out | refine below_set ?_ GE979.out | refine below_set ?_ GE985.out) | exact HB.out)⟩
              · replace c81 := Bool.eq_false_iff.mpr c81
                subst c81
                have H1 : (if t944 = 0 then (if t943 = 0 then (some true) else ((impl_PowerMat.f kj78 t938 t939 t940 t941 t943).bind fun bt992 => (if bt992.2.2.2.2 = 0 then (some (bt992.1 == 1 && (bt992.2.1 == 0 && (bt992.2.2.1 == 0 && (bt992.2.2.2.1 == 1))))) else (some false)))) else (some true)) = some true := by rw [if_neg (show ¬ (false = true) by decide)] at H; exact H
                clear H
                have H := H1
                clear H1
                by_cases c162 : t944 = 0
                · rw [if_pos c162] at H
                  have c162b0 : (t944 == 0) = true := beq_iff_eq.mpr c162
                  have c162b1 : (t944 != 0) = false := bne_eq_false_iff_eq.mpr c162
                  clear c162
                  by_cases c163 : t943 = 0
                  · rw [if_pos c163] at H
                    have c163b0 : (t943 == 0) = true := beq_iff_eq.mpr c163
                    have c163b1 : (t943 != 0) = false := bne_eq_false_iff_eq.mpr c163
                    clear c163
                    clear H
                    go_wp2
                    go_ret
                    exact ⟨by first | rfl | (simp [errW_none, errW_some] <;> rfl) | (simp [*, errW_none, errW_some] <;> rfl), by repeat (first | (with_reducible first | exact HB.out | apply below_alloc | apply pw_below_drewN | apply below_drew1 | refine below_set ?_ GE942.out | refine below_set ?_ GE952.out | refine below_set ?_ GE958.out | refine below_set ?_ GE964.out | refine below_set ?_ GE969.out) | exact HB.out)⟩
                  · rw [if_neg c163] at H
                    have c163b0 : (t943 == 0) = false := beq_eq_false_iff_ne.mpr c163
                    have c163b1 : (t943 != 0) = true := bne_iff_ne.mpr c163
                    replace H := Option.bind_eq_some_iff.mp H
                    obtain ⟨⟨t992, t993, t994, t995, t996⟩, A1640, H⟩ := H
                    replace H : (if t996 = 0 then (some (t992 == 1 && (t993 == 0 && (t994 == 0 && (t995 == 1))))) else (some false)) = some true := H
                    have A164 := Aside0.mk A1640
                    clear A1640
                    by_cases c165 : t996 = 0
                    · rw [if_pos c165] at H
                      have c165b0 : (t996 == 0) = true := beq_iff_eq.mpr c165
                      have c165b1 : (t996 != 0) = false := bne_eq_false_iff_eq.mpr c165
                      clear c165
                      have hrT_ := Option.some.inj H
                      have hnb166 := NB942_952.out
                      have hnc166 := NB952_942.out
                      have hnb167 := NB942_958.out
                      have hnc167 := NB958_942.out
                      have hnb168 := NB942_964.out
                      have hnc168 := NB964_942.out
                      have hnb169 := NB942_969.out
                      have hnc169 := NB969_942.out
                      have hcz170_0 : wc.cell? ⟨gb942, 0, none⟩ = some (.int .i64 t938) := (blk_cell BK942.out 0).trans rfl
                      have hcz170_1 : wc.cell? ⟨gb942, 1, none⟩ = some (.int .i64 t939) := (blk_cell BK942.out 1).trans rfl
                      have hcz170_2 : wc.cell? ⟨gb942, 2, none⟩ = some (.int .i64 t940) := (blk_cell BK942.out 2).trans rfl
                      have hcz170_3 : wc.cell? ⟨gb942, 3, none⟩ = some (.int .i64 t941) := (blk_cell BK942.out 3).trans rfl
                      have hfz170_0 := blk_frozen BK942.out 0
                      have hfz170_1 := blk_frozen BK942.out 1
                      have hfz170_2 := blk_frozen BK942.out 2
                      have hfz170_3 := blk_frozen BK942.out 3
                      go_wp2_with (first | ((with_reducible refine gate_callee (f := 57) rfl ?_); refine goesL_ (some 135) rfl rfl Try.func57 (by kernel_rfl) rfl #[.agg #[.int .i64 t938, .int .i64 t939, .int .i64 t940, .int .i64 t941], .int .i64 t943] rfl (by (try simp only [List.map_toArray, List.map_cons, List.map_nil]); first | done | rfl | (simp only [List.length_drop, List.length_take]; rfl)) ?_; (with_reducible refine (impl_PowerMat.calls kj78 t938 t939 t940 t941 t943 t992 t993 t994 t995 t996 _ A164.out).mono ?_); rintro e w171 ⟨rfl, hb⟩; refine ⟨_, rfl, ?_⟩; have n0_ := Aside0.mk (blk_below (g := gb942) (o := .cells #[.int .i64 t938, .int .i64 t939, .int .i64 t940, .int .i64 t941] 51 (0, 0)) (by (with_reducible repeat (first | refine blk_drewN ?_ _ | refine blk_drew ?_ | refine blk_alloc ?_ _)); exact BK942.out) hb); have n1_ := Aside0.mk (blk_below (g := gb952) (o := .cells #[.int .i64 t947, .int .i64 t948, .int .i64 t949, .int .i64 t950] 51 (0, 0)) (by (with_reducible repeat (first | refine blk_drewN ?_ _ | refine blk_drew ?_ | refine blk_alloc ?_ _)); exact BK952.out) hb); have n2_ := Aside0.mk (blk_below (g := gb958) (o := .cells #[.int .i64 t953, .int .i64 t954, .int .i64 t955, .int .i64 t956] 51 (0, 0)) (by (with_reducible repeat (first | refine blk_drewN ?_ _ | refine blk_drew ?_ | refine blk_alloc ?_ _)); exact BK958.out) hb); have n3_ := Aside0.mk (blk_below (g := gb964) (o := .cells #[.int .i64 t959, .int .i64 t960, .int .i64 t961, .int .i64 t962] 51 (0, 0)) (by (with_reducible repeat (first | refine blk_drewN ?_ _ | refine blk_drew ?_ | refine blk_alloc ?_ _)); exact BK964.out) hb); have n4_ := Aside0.mk (blk_below (g := gb969) (o := .cells #[.int .i64 t965, .int .i64 t966, .int .i64 t967, .int .i64 t968] 51 (0, 0)) (by (with_reducible repeat (first | refine blk_drewN ?_ _ | refine blk_drew ?_ | refine blk_alloc ?_ _)); exact BK969.out) hb); have n5_ := Aside0.mk (below_step (by repeat (first | (with_reducible first | exact HB.out | apply below_alloc | apply pw_below_drewN | apply below_drew1 | refine below_set ?_ GE942.out | refine below_set ?_ GE952.out | refine below_set ?_ GE958.out | refine below_set ?_ GE964.out | refine below_set ?_ GE969.out) | exact HB.out)) hb); clear BK942; clear BK952; clear BK958; clear BK964; clear BK969; clear HB; have BK942 := n0_; have BK952 := n1_; have BK958 := n2_; have BK964 := n3_; have BK969 := n4_; have HB := n5_; clear n0_ n1_ n2_ n3_ n4_ n5_; (try clear hb); (try clear hb2); (try clear hk); (try clear hi)) | ((with_reducible refine gate_dst (N := 23) rfl ?_); refine box_event ?hg (N := 23) ?hd (cs := #[.int .i64 0, .int .i64 0, .int .i64 0, .int .i64 0]) (t := 51) ?hr ?_; (case hd => rfl); (case hg => rfl); (case hr => first | (go_simp; done) | (go_simp; rfl)); intro gb997 hg w172 hbox hb; have n0_ := Aside0.mk (blk_below (g := gb942) (o := .cells #[.int .i64 t938, .int .i64 t939, .int .i64 t940, .int .i64 t941] 51 (0, 0)) (by (with_reducible repeat (first | refine blk_drewN ?_ _ | refine blk_drew ?_ | refine blk_alloc ?_ _)); exact BK942.out) hb); have n1_ := Aside0.mk (blk_below (g := gb952) (o := .cells #[.int .i64 t947, .int .i64 t948, .int .i64 t949, .int .i64 t950] 51 (0, 0)) (by (with_reducible repeat (first | refine blk_drewN ?_ _ | refine blk_drew ?_ | refine blk_alloc ?_ _)); exact BK952.out) hb); have n2_ := Aside0.mk (blk_below (g := gb958) (o := .cells #[.int .i64 t953, .int .i64 t954, .int .i64 t955, .int .i64 t956] 51 (0, 0)) (by (with_reducible repeat (first | refine blk_drewN ?_ _ | refine blk_drew ?_ | refine blk_alloc ?_ _)); exact BK958.out) hb); have n3_ := Aside0.mk (blk_below (g := gb964) (o := .cells #[.int .i64 t959, .int .i64 t960, .int .i64 t961, .int .i64 t962] 51 (0, 0)) (by (with_reducible repeat (first | refine blk_drewN ?_ _ | refine blk_drew ?_ | refine blk_alloc ?_ _)); exact BK964.out) hb); have n4_ := Aside0.mk (blk_below (g := gb969) (o := .cells #[.int .i64 t965, .int .i64 t966, .int .i64 t967, .int .i64 t968] 51 (0, 0)) (by (with_reducible repeat (first | refine blk_drewN ?_ _ | refine blk_drew ?_ | refine blk_alloc ?_ _)); exact BK969.out) hb); have n5_ := Aside0.mk (below_step (by repeat (first | (with_reducible first | exact HB.out | apply below_alloc | apply pw_below_drewN | apply below_drew1 | refine below_set ?_ GE942.out | refine below_set ?_ GE952.out | refine below_set ?_ GE958.out | refine below_set ?_ GE964.out | refine below_set ?_ GE969.out) | exact HB.out)) hb); have n6_ := Aside0.mk (hbox); have n7_ := Aside0.mk ((by rw [hg]; exact (below_size (by repeat (first | (with_reducible first | exact HB.out | apply below_alloc | apply pw_below_drewN | apply below_drew1 | refine below_set ?_ GE942.out | refine below_set ?_ GE952.out | refine below_set ?_ GE958.out | refine below_set ?_ GE964.out | refine below_set ?_ GE969.out) | exact HB.out))) : w.heap.size ≤ gb997)); have n8_ := Aside0.mk ((by rw [hg]; exact (below_size (by repeat (first | (with_reducible first | exact HB.out | apply below_alloc | apply pw_below_drewN | apply below_drew1 | refine below_set ?_ GE942.out | refine below_set ?_ GE952.out | refine below_set ?_ GE958.out | refine below_set ?_ GE964.out | refine below_set ?_ GE969.out) | exact HB.out))) : w.heap.size ≤ gb997)); have n9_ := Aside0.mk ((by rw [hg]; exact Nat.ne_of_lt (blk_lt (g := gb942) (o := .cells #[.int .i64 t938, .int .i64 t939, .int .i64 t940, .int .i64 t941] 51 (0, 0)) (by (with_reducible repeat (first | refine blk_drewN ?_ _ | refine blk_drew ?_ | refine blk_alloc ?_ _)); exact BK942.out)) : gb942 ≠ gb997)); have n10_ := Aside0.mk ((by rw [hg]; exact Nat.ne_of_gt (blk_lt (g := gb942) (o := .cells #[.int .i64 t938, .int .i64 t939, .int .i64 t940, .int .i64 t941] 51 (0, 0)) (by (with_reducible repeat (first | refine blk_drewN ?_ _ | refine blk_drew ?_ | refine blk_alloc ?_ _)); exact BK942.out)) : gb997 ≠ gb942)); have n11_ := Aside0.mk ((by rw [hg]; exact Nat.ne_of_lt (blk_lt (g := gb952) (o := .cells #[.int .i64 t947, .int .i64 t948, .int .i64 t949, .int .i64 t950] 51 (0, 0)) (by (with_reducible repeat (first | refine blk_drewN ?_ _ | refine blk_drew ?_ | refine blk_alloc ?_ _)); exact BK952.out)) : gb952 ≠ gb997)); have n12_ := Aside0.mk ((by rw [hg]; exact Nat.ne_of_gt (blk_lt (g := gb952) (o := .cells #[.int .i64 t947, .int .i64 t948, .int .i64 t949, .int .i64 t950] 51 (0, 0)) (by (with_reducible repeat (first | refine blk_drewN ?_ _ | refine blk_drew ?_ | refine blk_alloc ?_ _)); exact BK952.out)) : gb997 ≠ gb952)); have n13_ := Aside0.mk ((by rw [hg]; exact Nat.ne_of_lt (blk_lt (g := gb958) (o := .cells #[.int .i64 t953, .int .i64 t954, .int .i64 t955, .int .i64 t956] 51 (0, 0)) (by (with_reducible repeat (first | refine blk_drewN ?_ _ | refine blk_drew ?_ | refine blk_alloc ?_ _)); exact BK958.out)) : gb958 ≠ gb997)); have n14_ := Aside0.mk ((by rw [hg]; exact Nat.ne_of_gt (blk_lt (g := gb958) (o := .cells #[.int .i64 t953, .int .i64 t954, .int .i64 t955, .int .i64 t956] 51 (0, 0)) (by (with_reducible repeat (first | refine blk_drewN ?_ _ | refine blk_drew ?_ | refine blk_alloc ?_ _)); exact BK958.out)) : gb997 ≠ gb958)); have n15_ := Aside0.mk ((by rw [hg]; exact Nat.ne_of_lt (blk_lt (g := gb964) (o := .cells #[.int .i64 t959, .int .i64 t960, .int .i64 t961, .int .i64 t962] 51 (0, 0)) (by (with_reducible repeat (first | refine blk_drewN ?_ _ | refine blk_drew ?_ | refine blk_alloc ?_ _)); exact BK964.out)) : gb964 ≠ gb997)); have n16_ := Aside0.mk ((by rw [hg]; exact Nat.ne_of_gt (blk_lt (g := gb964) (o := .cells #[.int .i64 t959, .int .i64 t960, .int .i64 t961, .int .i64 t962] 51 (0, 0)) (by (with_reducible repeat (first | refine blk_drewN ?_ _ | refine blk_drew ?_ | refine blk_alloc ?_ _)); exact BK964.out)) : gb997 ≠ gb964)); have n17_ := Aside0.mk ((by rw [hg]; exact Nat.ne_of_lt (blk_lt (g := gb969) (o := .cells #[.int .i64 t965, .int .i64 t966, .int .i64 t967, .int .i64 t968] 51 (0, 0)) (by (with_reducible repeat (first | refine blk_drewN ?_ _ | refine blk_drew ?_ | refine blk_alloc ?_ _)); exact BK969.out)) : gb969 ≠ gb997)); have n18_ := Aside0.mk ((by rw [hg]; exact Nat.ne_of_gt (blk_lt (g := gb969) (o := .cells #[.int .i64 t965, .int .i64 t966, .int .i64 t967, .int .i64 t968] 51 (0, 0)) (by (with_reducible repeat (first | refine blk_drewN ?_ _ | refine blk_drew ?_ | refine blk_alloc ?_ _)); exact BK969.out)) : gb997 ≠ gb969)); clear BK942; clear BK952; clear BK958; clear BK964; clear BK969; clear HB; have BK942 := n0_; have BK952 := n1_; have BK958 := n2_; have BK964 := n3_; have BK969 := n4_; have HB := n5_; have BK997 := n6_; have GW997 := n7_; have GE997 := n8_; have NB942_997 := n9_; have NB997_942 := n10_; have NB952_997 := n11_; have NB997_952 := n12_; have NB958_997 := n13_; have NB997_958 := n14_; have NB964_997 := n15_; have NB997_964 := n16_; have NB969_997 := n17_; have NB997_969 := n18_; clear n0_ n1_ n2_ n3_ n4_ n5_ n6_ n7_ n8_ n9_ n10_ n11_ n12_ n13_ n14_ n15_ n16_ n17_ n18_; clear hb hbox hg; have hnb173 := NB997_942.out; have hnc173 := NB942_997.out; have hnb174 := NB997_952.out; have hnc174 := NB952_997.out; have hnb175 := NB997_958.out; have hnc175 := NB958_997.out; have hnb176 := NB997_964.out; have hnc176 := NB964_997.out; have hnb177 := NB997_969.out; have hnc177 := NB969_997.out; have hcz178_0 : w172.cell? ⟨gb997, 0, none⟩ = some (.int .i64 0) := (blk_cell BK997.out 0).trans rfl; have hcz178_1 : w172.cell? ⟨gb997, 1, none⟩ = some (.int .i64 0) := (blk_cell BK997.out 1).trans rfl; have hcz178_2 : w172.cell? ⟨gb997, 2, none⟩ = some (.int .i64 0) := (blk_cell BK997.out 2).trans rfl; have hcz178_3 : w172.cell? ⟨gb997, 3, none⟩ = some (.int .i64 0) := (blk_cell BK997.out 3).trans rfl; have hfz178_0 := blk_frozen BK997.out 0; have hfz178_1 := blk_frozen BK997.out 1; have hfz178_2 := blk_frozen BK997.out 2; have hfz178_3 := blk_frozen BK997.out 3))
                      all_goals go_ret
                      all_goals exact ⟨by first | rfl | (simp [errW_none, errW_some] <;> rfl) | (simp [*, errW_none, errW_some] <;> rfl), by repeat (first | (with_reducible first | exact HB.out | apply below_alloc | apply pw_below_drewN | apply below_drew1 | refine below_set ?_ GE942.out | refine below_set ?_ GE952.out | refine below_set ?_ GE958.out | refine below_set ?_ GE964.out | refine below_set ?_ GE969.out | refine below_set ?_ GE997.out) | exact HB.out)⟩
                    · rw [if_neg c165] at H
                      have c165b0 : (t996 == 0) = false := beq_eq_false_iff_ne.mpr c165
                      have c165b1 : (t996 != 0) = true := bne_iff_ne.mpr c165
                      exact absurd (Option.some.inj H) (by decide)
                · rw [if_neg c162] at H
                  have c162b0 : (t944 == 0) = false := beq_eq_false_iff_ne.mpr c162
                  have c162b1 : (t944 != 0) = true := bne_iff_ne.mpr c162
                  clear H
                  go_wp2
                  go_ret
                  exact ⟨by first | rfl | (simp [errW_none, errW_some] <;> rfl) | (simp [*, errW_none, errW_some] <;> rfl), by repeat (first | (with_reducible first | exact HB.out | apply below_alloc | apply pw_below_drewN | apply below_drew1 | refine below_set ?_ GE942.out | refine below_set ?_ GE952.out | refine below_set ?_ GE958.out | refine below_set ?_ GE964.out | refine below_set ?_ GE969.out) | exact HB.out)⟩


end Go.Proofs.Ytjjbjaagfjljnaa.F
