import Derived.Test.YtjjbjaagfjljnaaK0
import Derived.Test.YtjjbjaagfjljnaaK1
import Derived.Test.YtjjbjaagfjljnaaK12
import Derived.Test.YtjjbjaagfjljnaaK13
import Derived.Test.YtjjbjaagfjljnaaK14
import Derived.Test.YtjjbjaagfjljnaaK15
import Derived.Test.YtjjbjaagfjljnaaK16
namespace Go.Proofs.Ytjjbjaagfjljnaa.F
open Go.RowKit Go.Proofs.YtjjbjaagfjljnaaW.PrintWords Go.Proofs.YtjjbjaagfjljnaaW.PrintLast Go.Proofs.YtjjbjaagfjljnaaW.PrintMore
attribute [local go_sem] max2_int min2_int max_two min_two max_three min_three max_four min_four   -- for this text's walks alone
set_option linter.unusedVariables false
set_option linter.unusedSimpArgs false
attribute [local go_sem high] eqA25

mutual
def laws_FnKinds.j0 : Nat → Int → Int → Int → Int → Bool → Int → Int → Int → Int → Int → Int → Int → Int → Option (Bool)
 | 0, _, _, _, _, _, _, _, _, _, _, _, _, _ => none
 | k + 1, x4, x5, x8, x14, x87, x1983000, x1983001, x1983002, x1983003, x1983004, x1983005, x1987000, x1987001 => if x87 = true then (some false) else (if x14 = 0 then ((impl_KindOfMotion.f k x1983000 x1983001 x1983002 x1983003 x1983004 x1983005).bind fun bt1991 => (if bt1991.2 = 0 then (if ((bt1991.1 == 3) != (x1987000 == 0 && (x1987001 == 0))) = true then (some false) else (if bt1991.1 = 3 then (laws_FnKinds.j1 k x4 x5 x8) else (if bt1991.1 = 4 then (laws_FnKinds.j1 k x4 x5 x8) else (some false)))) else (some false))) else (laws_FnKinds.j1 k x4 x5 x8))
def laws_FnKinds.j1 : Nat → Int → Int → Int → Option (Bool)
 | 0, _, _, _ => none
 | k + 1, x4, x5, x8 => if x5 = 0 then (if x4 = 0 then (some (x8 == 1)) else (if x4 = 3 then (some (x8 == 2)) else (if x4 = 2 then (if x8 = 2 then (some true) else (if x8 = 3 then (some true) else (if x8 = 4 then (some true) else (some (x8 == 6))))) else (some (x8 == 0))))) else (some true)
end
def laws_FnKinds.f (k : Nat) (l0 : List Int) : Option (Bool) := (laws_big.f l0).bind fun t1960 => (if t1960 = true then (some true) else ((spec_DrawKindOfMotion.f k l0).bind fun bt1961 => ((impl_KindOfMotion.f k bt1961.1 bt1961.2.1 bt1961.2.2.1 bt1961.2.2.2.1 bt1961.2.2.2.2.1 bt1961.2.2.2.2.2).bind fun bt1968 => ((spec_KindOfMotion.f k bt1961.1 bt1961.2.1 bt1961.2.2.1 bt1961.2.2.2.1 bt1961.2.2.2.2.1 bt1961.2.2.2.2.2).bind fun bt1970 => ((impl_OrderOfMotion.f k bt1961.1 bt1961.2.1 bt1961.2.2.1 bt1961.2.2.2.1 bt1961.2.2.2.2.1 bt1961.2.2.2.2.2).bind fun bt1972 => ((spec_OrderOfMotion.f k bt1961.1 bt1961.2.1 bt1961.2.2.1 bt1961.2.2.2.1 bt1961.2.2.2.2.1 bt1961.2.2.2.2.2).bind fun bt1974 => ((spec_DrawTwiceGlide.f k l0).bind fun bt1976 => ((impl_TwiceGlide.f k bt1976.1 bt1976.2.1 bt1976.2.2.1 bt1976.2.2.2.1 bt1976.2.2.2.2.1 bt1976.2.2.2.2.2).bind fun bt1983 => ((spec_TwiceGlide.f k bt1976.1 bt1976.2.1 bt1976.2.2.1 bt1976.2.2.2.1 bt1976.2.2.2.2.1 bt1976.2.2.2.2.2).bind fun bt1987 => (if bt1968.2 = bt1970.2 then (if bt1968.1 = bt1970.1 then (if bt1972.2 = bt1974.2 then (if bt1972.1 = bt1974.1 then (if bt1983.2.2 = bt1987.2.2 then (if (!(bt1983.1 == bt1987.1) || (!(bt1983.2.1 == bt1987.2.1))) = true then (laws_FnKinds.j0 k bt1968.1 bt1968.2 bt1972.1 bt1983.2.2 true bt1976.1 bt1976.2.1 bt1976.2.2.1 bt1976.2.2.2.1 bt1976.2.2.2.2.1 bt1976.2.2.2.2.2 bt1983.1 bt1983.2.1) else (laws_FnKinds.j0 k bt1968.1 bt1968.2 bt1972.1 bt1983.2.2 (bt1972.2 != bt1968.2) bt1976.1 bt1976.2.1 bt1976.2.2.1 bt1976.2.2.2.1 bt1976.2.2.2.2.1 bt1976.2.2.2.2.2 bt1983.1 bt1983.2.1)) else (laws_FnKinds.j0 k bt1968.1 bt1968.2 bt1972.1 bt1983.2.2 true bt1976.1 bt1976.2.1 bt1976.2.2.1 bt1976.2.2.2.1 bt1976.2.2.2.2.1 bt1976.2.2.2.2.2 bt1983.1 bt1983.2.1)) else (laws_FnKinds.j0 k bt1968.1 bt1968.2 bt1972.1 bt1983.2.2 true bt1976.1 bt1976.2.1 bt1976.2.2.1 bt1976.2.2.2.1 bt1976.2.2.2.2.1 bt1976.2.2.2.2.2 bt1983.1 bt1983.2.1)) else (laws_FnKinds.j0 k bt1968.1 bt1968.2 bt1972.1 bt1983.2.2 true bt1976.1 bt1976.2.1 bt1976.2.2.1 bt1976.2.2.2.1 bt1976.2.2.2.2.1 bt1976.2.2.2.2.2 bt1983.1 bt1983.2.1)) else (laws_FnKinds.j0 k bt1968.1 bt1968.2 bt1972.1 bt1983.2.2 true bt1976.1 bt1976.2.1 bt1976.2.2.1 bt1976.2.2.2.1 bt1976.2.2.2.2.1 bt1976.2.2.2.2.2 bt1983.1 bt1983.2.1)) else (laws_FnKinds.j0 k bt1968.1 bt1968.2 bt1972.1 bt1983.2.2 true bt1976.1 bt1976.2.1 bt1976.2.2.1 bt1976.2.2.2.1 bt1976.2.2.2.2.1 bt1976.2.2.2.2.2 bt1983.1 bt1983.2.1)))))))))))
set_option maxHeartbeats 40000000 in
set_option maxRecDepth 100000 in
theorem laws_FnKinds.calls (k : Nat) (A0 : Option Addr) (c0 : Nat) (l0 : List Int) (w : World) (hr0 : Kd.C (Kd.int .u8) w A0 l0.length l0) (hc0 : l0.length ≤ c0) (h : laws_FnKinds.f k l0 = some true) :
  Calls Try.prog 11 #[.slice A0 l0.length c0] w fun e w' => e = .returned (.bool true) ∧ Below w.heap.size w w' := by
 have hu84 := Try.underlying84
 have hu25 := Try.underlying25
 have HR0 := aM hr0
 have HC0 := aM hc0
 clear hr0 hc0
 have HB := aM (Below.refl w.heap.size w)
 have H : ((laws_big.f l0).bind fun t1960 => (if t1960 = true then (some true) else ((spec_DrawKindOfMotion.f k l0).bind fun bt1961 => ((impl_KindOfMotion.f k bt1961.1 bt1961.2.1 bt1961.2.2.1 bt1961.2.2.2.1 bt1961.2.2.2.2.1 bt1961.2.2.2.2.2).bind fun bt1968 => ((spec_KindOfMotion.f k bt1961.1 bt1961.2.1 bt1961.2.2.1 bt1961.2.2.2.1 bt1961.2.2.2.2.1 bt1961.2.2.2.2.2).bind fun bt1970 => ((impl_OrderOfMotion.f k bt1961.1 bt1961.2.1 bt1961.2.2.1 bt1961.2.2.2.1 bt1961.2.2.2.2.1 bt1961.2.2.2.2.2).bind fun bt1972 => ((spec_OrderOfMotion.f k bt1961.1 bt1961.2.1 bt1961.2.2.1 bt1961.2.2.2.1 bt1961.2.2.2.2.1 bt1961.2.2.2.2.2).bind fun bt1974 => ((spec_DrawTwiceGlide.f k l0).bind fun bt1976 => ((impl_TwiceGlide.f k bt1976.1 bt1976.2.1 bt1976.2.2.1 bt1976.2.2.2.1 bt1976.2.2.2.2.1 bt1976.2.2.2.2.2).bind fun bt1983 => ((spec_TwiceGlide.f k bt1976.1 bt1976.2.1 bt1976.2.2.1 bt1976.2.2.2.1 bt1976.2.2.2.2.1 bt1976.2.2.2.2.2).bind fun bt1987 => (if bt1968.2 = bt1970.2 then (if bt1968.1 = bt1970.1 then (if bt1972.2 = bt1974.2 then (if bt1972.1 = bt1974.1 then (if bt1983.2.2 = bt1987.2.2 then (if (!(bt1983.1 == bt1987.1) || (!(bt1983.2.1 == bt1987.2.1))) = true then (laws_FnKinds.j0 k bt1968.1 bt1968.2 bt1972.1 bt1983.2.2 true bt1976.1 bt1976.2.1 bt1976.2.2.1 bt1976.2.2.2.1 bt1976.2.2.2.2.1 bt1976.2.2.2.2.2 bt1983.1 bt1983.2.1) else (laws_FnKinds.j0 k bt1968.1 bt1968.2 bt1972.1 bt1983.2.2 (bt1972.2 != bt1968.2) bt1976.1 bt1976.2.1 bt1976.2.2.1 bt1976.2.2.2.1 bt1976.2.2.2.2.1 bt1976.2.2.2.2.2 bt1983.1 bt1983.2.1)) else (laws_FnKinds.j0 k bt1968.1 bt1968.2 bt1972.1 bt1983.2.2 true bt1976.1 bt1976.2.1 bt1976.2.2.1 bt1976.2.2.2.1 bt1976.2.2.2.2.1 bt1976.2.2.2.2.2 bt1983.1 bt1983.2.1)) else (laws_FnKinds.j0 k bt1968.1 bt1968.2 bt1972.1 bt1983.2.2 true bt1976.1 bt1976.2.1 bt1976.2.2.1 bt1976.2.2.2.1 bt1976.2.2.2.2.1 bt1976.2.2.2.2.2 bt1983.1 bt1983.2.1)) else (laws_FnKinds.j0 k bt1968.1 bt1968.2 bt1972.1 bt1983.2.2 true bt1976.1 bt1976.2.1 bt1976.2.2.1 bt1976.2.2.2.1 bt1976.2.2.2.2.1 bt1976.2.2.2.2.2 bt1983.1 bt1983.2.1)) else (laws_FnKinds.j0 k bt1968.1 bt1968.2 bt1972.1 bt1983.2.2 true bt1976.1 bt1976.2.1 bt1976.2.2.1 bt1976.2.2.2.1 bt1976.2.2.2.2.1 bt1976.2.2.2.2.2 bt1983.1 bt1983.2.1)) else (laws_FnKinds.j0 k bt1968.1 bt1968.2 bt1972.1 bt1983.2.2 true bt1976.1 bt1976.2.1 bt1976.2.2.1 bt1976.2.2.2.1 bt1976.2.2.2.2.1 bt1976.2.2.2.2.2 bt1983.1 bt1983.2.1)))))))))))) = some true := h
 clear h
 replace H := Option.bind_eq_some_iff.mp H
 obtain ⟨t1960, A20, H⟩ := H
 try dsimp only at H
 have A2 := aM A20
 clear A20
 by_cases c3 : t1960 = true
 ·subst c3
  have H1 : (some true) = some true := rfl
  clear H
  have H := H1
  clear H1
  clear H
  go_enter Try.func11, Try.ntmps11
  go_wp2_with (first | ((with_reducible refine gate_callee (f := 14) rfl ?_); refine goesL_ (some 20) rfl rfl Try.func14 (by kernel_rfl) rfl #[.slice A0 l0.length c0] rfl (by first|rfl|(simp only [List.map_toArray, List.map_cons, List.map_nil]; try rfl)) ?_; (with_reducible refine (laws_big.calls _ _ l0 true _ ?side1 ?side2 A2.out).mono ?_); (case side1 => repeat (first | exact HR0.out | (with_reducible refine Kd.C_alloc ?_ _) | (with_reducible refine Kd.C_drewN ?_ _) | (with_reducible refine Kd.C_drew ?_))); (case side2 => exact HC0.out); rintro e w' ⟨rfl, ⟨nd, rfl⟩⟩; refine ⟨_, rfl, ?_⟩))
  go_ret
  exact ⟨by first|rfl|(simp [*, errW_none, errW_some] <;> rfl), by repeat (first | (with_reducible first | exact HB.out | apply bA|apply bN|apply b1) | exact HB.out)⟩
 ·replace c3 := Bool.eq_false_iff.mpr c3
  subst c3
  have H1 : ((spec_DrawKindOfMotion.f k l0).bind fun bt1961 => ((impl_KindOfMotion.f k bt1961.1 bt1961.2.1 bt1961.2.2.1 bt1961.2.2.2.1 bt1961.2.2.2.2.1 bt1961.2.2.2.2.2).bind fun bt1968 => ((spec_KindOfMotion.f k bt1961.1 bt1961.2.1 bt1961.2.2.1 bt1961.2.2.2.1 bt1961.2.2.2.2.1 bt1961.2.2.2.2.2).bind fun bt1970 => ((impl_OrderOfMotion.f k bt1961.1 bt1961.2.1 bt1961.2.2.1 bt1961.2.2.2.1 bt1961.2.2.2.2.1 bt1961.2.2.2.2.2).bind fun bt1972 => ((spec_OrderOfMotion.f k bt1961.1 bt1961.2.1 bt1961.2.2.1 bt1961.2.2.2.1 bt1961.2.2.2.2.1 bt1961.2.2.2.2.2).bind fun bt1974 => ((spec_DrawTwiceGlide.f k l0).bind fun bt1976 => ((impl_TwiceGlide.f k bt1976.1 bt1976.2.1 bt1976.2.2.1 bt1976.2.2.2.1 bt1976.2.2.2.2.1 bt1976.2.2.2.2.2).bind fun bt1983 => ((spec_TwiceGlide.f k bt1976.1 bt1976.2.1 bt1976.2.2.1 bt1976.2.2.2.1 bt1976.2.2.2.2.1 bt1976.2.2.2.2.2).bind fun bt1987 => (if bt1968.2 = bt1970.2 then (if bt1968.1 = bt1970.1 then (if bt1972.2 = bt1974.2 then (if bt1972.1 = bt1974.1 then (if bt1983.2.2 = bt1987.2.2 then (if (!(bt1983.1 == bt1987.1) || (!(bt1983.2.1 == bt1987.2.1))) = true then (laws_FnKinds.j0 k bt1968.1 bt1968.2 bt1972.1 bt1983.2.2 true bt1976.1 bt1976.2.1 bt1976.2.2.1 bt1976.2.2.2.1 bt1976.2.2.2.2.1 bt1976.2.2.2.2.2 bt1983.1 bt1983.2.1) else (laws_FnKinds.j0 k bt1968.1 bt1968.2 bt1972.1 bt1983.2.2 (bt1972.2 != bt1968.2) bt1976.1 bt1976.2.1 bt1976.2.2.1 bt1976.2.2.2.1 bt1976.2.2.2.2.1 bt1976.2.2.2.2.2 bt1983.1 bt1983.2.1)) else (laws_FnKinds.j0 k bt1968.1 bt1968.2 bt1972.1 bt1983.2.2 true bt1976.1 bt1976.2.1 bt1976.2.2.1 bt1976.2.2.2.1 bt1976.2.2.2.2.1 bt1976.2.2.2.2.2 bt1983.1 bt1983.2.1)) else (laws_FnKinds.j0 k bt1968.1 bt1968.2 bt1972.1 bt1983.2.2 true bt1976.1 bt1976.2.1 bt1976.2.2.1 bt1976.2.2.2.1 bt1976.2.2.2.2.1 bt1976.2.2.2.2.2 bt1983.1 bt1983.2.1)) else (laws_FnKinds.j0 k bt1968.1 bt1968.2 bt1972.1 bt1983.2.2 true bt1976.1 bt1976.2.1 bt1976.2.2.1 bt1976.2.2.2.1 bt1976.2.2.2.2.1 bt1976.2.2.2.2.2 bt1983.1 bt1983.2.1)) else (laws_FnKinds.j0 k bt1968.1 bt1968.2 bt1972.1 bt1983.2.2 true bt1976.1 bt1976.2.1 bt1976.2.2.1 bt1976.2.2.2.1 bt1976.2.2.2.2.1 bt1976.2.2.2.2.2 bt1983.1 bt1983.2.1)) else (laws_FnKinds.j0 k bt1968.1 bt1968.2 bt1972.1 bt1983.2.2 true bt1976.1 bt1976.2.1 bt1976.2.2.1 bt1976.2.2.2.1 bt1976.2.2.2.2.1 bt1976.2.2.2.2.2 bt1983.1 bt1983.2.1)))))))))) = some true := by rw [if_neg (show ¬ (false = true) by decide)] at H; exact H
  clear H
  have H := H1
  clear H1
  replace H := Option.bind_eq_some_iff.mp H
  obtain ⟨⟨t1961, t1962, t1963, t1964, t1965, t1966⟩, A40, H⟩ := H
  try dsimp only at H
  have A4 := aM A40
  clear A40
  replace H := Option.bind_eq_some_iff.mp H
  obtain ⟨⟨t1968, t1969⟩, A50, H⟩ := H
  try dsimp only at H
  have A5 := aM A50
  clear A50
  replace H := Option.bind_eq_some_iff.mp H
  obtain ⟨⟨t1970, t1971⟩, A60, H⟩ := H
  try dsimp only at H
  have A6 := aM A60
  clear A60
  replace H := Option.bind_eq_some_iff.mp H
  obtain ⟨⟨t1972, t1973⟩, A70, H⟩ := H
  try dsimp only at H
  have A7 := aM A70
  clear A70
  replace H := Option.bind_eq_some_iff.mp H
  obtain ⟨⟨t1974, t1975⟩, A80, H⟩ := H
  try dsimp only at H
  have A8 := aM A80
  clear A80
  replace H := Option.bind_eq_some_iff.mp H
  obtain ⟨⟨t1976, t1977, t1978, t1979, t1980, t1981⟩, A90, H⟩ := H
  try dsimp only at H
  have A9 := aM A90
  clear A90
  replace H := Option.bind_eq_some_iff.mp H
  obtain ⟨⟨t1983, t1984, t1985⟩, A100, H⟩ := H
  try dsimp only at H
  have A10 := aM A100
  clear A100
  replace H := Option.bind_eq_some_iff.mp H
  obtain ⟨⟨t1987, t1988, t1989⟩, A110, H⟩ := H
  try dsimp only at H
  have A11 := aM A110
  clear A110
  have HC12 := aM H
  clear H
  go_enter Try.func11, Try.ntmps11
  go_upto_region 11 with (first | ((with_reducible refine gate_callee (f := 14) rfl ?_); refine goesL_ (some 20) rfl rfl Try.func14 (by kernel_rfl) rfl #[.slice A0 l0.length c0] rfl (by first|rfl|(simp only [List.map_toArray, List.map_cons, List.map_nil]; try rfl)) ?_; (with_reducible refine (laws_big.calls _ _ l0 false _ ?side1 ?side2 A2.out).mono ?_); (case side1 => repeat (first | exact HR0.out | (with_reducible refine Kd.C_alloc ?_ _) | (with_reducible refine Kd.C_drewN ?_ _) | (with_reducible refine Kd.C_drew ?_))); (case side2 => exact HC0.out); rintro e w' ⟨rfl, ⟨nd, rfl⟩⟩; refine ⟨_, rfl, ?_⟩) | ((with_reducible refine gate_callee (f := 93) rfl ?_); refine goesL_ (some 22) rfl rfl Try.func93 (by kernel_rfl) rfl #[.slice A0 l0.length c0] rfl (by first|rfl|(simp only [List.map_toArray, List.map_cons, List.map_nil]; try rfl)) ?_; (with_reducible refine (spec_DrawKindOfMotion.calls k _ _ l0 t1961 t1962 t1963 t1964 t1965 t1966 _ ?side1 ?side2 A4.out).mono ?_); (case side1 => repeat (first | exact HR0.out | (with_reducible refine Kd.C_alloc ?_ _) | (with_reducible refine Kd.C_drewN ?_ _) | (with_reducible refine Kd.C_drew ?_))); (case side2 => exact HC0.out); rintro e w13 ⟨rfl, hb⟩; refine ⟨_, rfl, ?_⟩; have n0_ := aM (below_step (by repeat (first | (with_reducible first | exact HB.out | apply bA|apply bN|apply b1) | exact HB.out)) hb); clear HB; have HB := n0_; clear n0_; (try clear hb)) | ((with_reducible refine gate_dst (N := 3) rfl ?_); refine box_event ?hg (N := 3) ?hd (cs := #[.int .i64 0, .int .i64 0, .int .i64 0, .int .i64 0, .int .i64 0, .int .i64 0]) (t := 84) ?hr ?_; (case hd => rfl); (case hg => rfl); (case hr => first | (go_simp; done) | (go_simp; rfl)); intro gb1967 hg w14 hbox hb; have n0_ := aM (below_step (by repeat (first | (with_reducible first | exact HB.out | apply bA|apply bN|apply b1) | exact HB.out)) hb); have n1_ := aM (hbox); have n2_ := aM ((by rw [hg]; exact (below_size (by repeat (first | (with_reducible first | exact HB.out | apply bA|apply bN|apply b1) | exact HB.out))) : w.heap.size ≤ gb1967)); have n3_ := aM ((by rw [hg]; exact (below_size (by repeat (first | (with_reducible first | exact HB.out | apply bA|apply bN|apply b1) | exact HB.out))) : w.heap.size ≤ gb1967)); clear HB; have HB := n0_; have BK1967 := n1_; have GW1967 := n2_; have GE1967 := n3_; clear n0_ n1_ n2_ n3_; clear hb hbox hg; have hcz15_0 : w14.cell? ⟨gb1967, 0, none⟩ = some (.int .i64 0) := (blk_cell BK1967.out 0).trans rfl; have hcz15_1 : w14.cell? ⟨gb1967, 1, none⟩ = some (.int .i64 0) := (blk_cell BK1967.out 1).trans rfl; have hcz15_2 : w14.cell? ⟨gb1967, 2, none⟩ = some (.int .i64 0) := (blk_cell BK1967.out 2).trans rfl; have hcz15_3 : w14.cell? ⟨gb1967, 3, none⟩ = some (.int .i64 0) := (blk_cell BK1967.out 3).trans rfl; have hcz15_4 : w14.cell? ⟨gb1967, 4, none⟩ = some (.int .i64 0) := (blk_cell BK1967.out 4).trans rfl; have hcz15_5 : w14.cell? ⟨gb1967, 5, none⟩ = some (.int .i64 0) := (blk_cell BK1967.out 5).trans rfl; have hfz15_0 := blk_frozen BK1967.out 0; have hfz15_1 := blk_frozen BK1967.out 1; have hfz15_2 := blk_frozen BK1967.out 2; have hfz15_3 := blk_frozen BK1967.out 3; have hfz15_4 := blk_frozen BK1967.out 4; have hfz15_5 := blk_frozen BK1967.out 5) | ((with_reducible refine gate_callee (f := 94) rfl ?_); refine goesL_ (some 25) rfl rfl Try.func94 (by kernel_rfl) rfl #[.agg #[.int .i64 t1961, .int .i64 t1962, .int .i64 t1963, .int .i64 t1964, .int .i64 t1965, .int .i64 t1966]] rfl (by first|rfl|(simp only [List.map_toArray, List.map_cons, List.map_nil]; try rfl)) ?_; (with_reducible refine (impl_KindOfMotion.calls k t1961 t1962 t1963 t1964 t1965 t1966 t1968 t1969 _ A5.out).mono ?_); rintro e w16 ⟨rfl, hb⟩; refine ⟨_, rfl, ?_⟩; have n0_ := aM (blk_below (g := gb1967) (o := .cells #[.int .i64 t1961, .int .i64 t1962, .int .i64 t1963, .int .i64 t1964, .int .i64 t1965, .int .i64 t1966] 84 (0, 0)) (by (with_reducible repeat (first|apply kN|apply kD|apply kA)); refine blk_put (cs := #[.int .i64 t1961, .int .i64 t1962, .int .i64 t1963, .int .i64 t1964, .int .i64 t1965, .int .i64 0]) ?_ 5 _ rfl; (with_reducible repeat (first|apply kN|apply kD|apply kA)); refine blk_put (cs := #[.int .i64 t1961, .int .i64 t1962, .int .i64 t1963, .int .i64 t1964, .int .i64 0, .int .i64 0]) ?_ 4 _ rfl; (with_reducible repeat (first|apply kN|apply kD|apply kA)); refine blk_put (cs := #[.int .i64 t1961, .int .i64 t1962, .int .i64 t1963, .int .i64 0, .int .i64 0, .int .i64 0]) ?_ 3 _ rfl; (with_reducible repeat (first|apply kN|apply kD|apply kA)); refine blk_put (cs := #[.int .i64 t1961, .int .i64 t1962, .int .i64 0, .int .i64 0, .int .i64 0, .int .i64 0]) ?_ 2 _ rfl; (with_reducible repeat (first|apply kN|apply kD|apply kA)); refine blk_put (cs := #[.int .i64 t1961, .int .i64 0, .int .i64 0, .int .i64 0, .int .i64 0, .int .i64 0]) ?_ 1 _ rfl; (with_reducible repeat (first|apply kN|apply kD|apply kA)); refine blk_put (cs := #[.int .i64 0, .int .i64 0, .int .i64 0, .int .i64 0, .int .i64 0, .int .i64 0]) ?_ 0 _ rfl; (with_reducible repeat (first|apply kN|apply kD|apply kA)); exact BK1967.out) hb); have n1_ := aM (below_step (by repeat (first | (with_reducible first | exact HB.out | apply bA|apply bN|apply b1 | refine below_set ?_ GE1967.out) | exact HB.out)) hb); clear BK1967; clear HB; have BK1967 := n0_; have HB := n1_; clear n0_ n1_; (try clear hb); have hcz17_0 : w16.cell? ⟨gb1967, 0, none⟩ = some (.int .i64 t1961) := (blk_cell BK1967.out 0).trans rfl; have hcz17_1 : w16.cell? ⟨gb1967, 1, none⟩ = some (.int .i64 t1962) := (blk_cell BK1967.out 1).trans rfl; have hcz17_2 : w16.cell? ⟨gb1967, 2, none⟩ = some (.int .i64 t1963) := (blk_cell BK1967.out 2).trans rfl; have hcz17_3 : w16.cell? ⟨gb1967, 3, none⟩ = some (.int .i64 t1964) := (blk_cell BK1967.out 3).trans rfl; have hcz17_4 : w16.cell? ⟨gb1967, 4, none⟩ = some (.int .i64 t1965) := (blk_cell BK1967.out 4).trans rfl; have hcz17_5 : w16.cell? ⟨gb1967, 5, none⟩ = some (.int .i64 t1966) := (blk_cell BK1967.out 5).trans rfl; have hfz17_0 := blk_frozen BK1967.out 0; have hfz17_1 := blk_frozen BK1967.out 1; have hfz17_2 := blk_frozen BK1967.out 2; have hfz17_3 := blk_frozen BK1967.out 3; have hfz17_4 := blk_frozen BK1967.out 4; have hfz17_5 := blk_frozen BK1967.out 5) | ((with_reducible refine gate_callee (f := 95) rfl ?_); refine goesL_ (some 30) rfl rfl Try.func95 (by kernel_rfl) rfl #[.agg #[.int .i64 t1961, .int .i64 t1962, .int .i64 t1963, .int .i64 t1964, .int .i64 t1965, .int .i64 t1966]] rfl (by first|rfl|(simp only [List.map_toArray, List.map_cons, List.map_nil]; try rfl)) ?_; (with_reducible refine (spec_KindOfMotion.calls k t1961 t1962 t1963 t1964 t1965 t1966 t1970 t1971 _ A6.out).mono ?_); rintro e w18 ⟨rfl, hb⟩; refine ⟨_, rfl, ?_⟩; have n0_ := aM (blk_below (g := gb1967) (o := .cells #[.int .i64 t1961, .int .i64 t1962, .int .i64 t1963, .int .i64 t1964, .int .i64 t1965, .int .i64 t1966] 84 (0, 0)) (by (with_reducible repeat (first|apply kN|apply kD|apply kA)); exact BK1967.out) hb); have n1_ := aM (below_step (by repeat (first | (with_reducible first | exact HB.out | apply bA|apply bN|apply b1 | refine below_set ?_ GE1967.out) | exact HB.out)) hb); clear BK1967; clear HB; have BK1967 := n0_; have HB := n1_; clear n0_ n1_; (try clear hb); have hcz19_0 : w18.cell? ⟨gb1967, 0, none⟩ = some (.int .i64 t1961) := (blk_cell BK1967.out 0).trans rfl; have hcz19_1 : w18.cell? ⟨gb1967, 1, none⟩ = some (.int .i64 t1962) := (blk_cell BK1967.out 1).trans rfl; have hcz19_2 : w18.cell? ⟨gb1967, 2, none⟩ = some (.int .i64 t1963) := (blk_cell BK1967.out 2).trans rfl; have hcz19_3 : w18.cell? ⟨gb1967, 3, none⟩ = some (.int .i64 t1964) := (blk_cell BK1967.out 3).trans rfl; have hcz19_4 : w18.cell? ⟨gb1967, 4, none⟩ = some (.int .i64 t1965) := (blk_cell BK1967.out 4).trans rfl; have hcz19_5 : w18.cell? ⟨gb1967, 5, none⟩ = some (.int .i64 t1966) := (blk_cell BK1967.out 5).trans rfl; have hfz19_0 := blk_frozen BK1967.out 0; have hfz19_1 := blk_frozen BK1967.out 1; have hfz19_2 := blk_frozen BK1967.out 2; have hfz19_3 := blk_frozen BK1967.out 3; have hfz19_4 := blk_frozen BK1967.out 4; have hfz19_5 := blk_frozen BK1967.out 5) | ((with_reducible refine gate_callee (f := 96) rfl ?_); refine goesL_ (some 35) rfl rfl Try.func96 (by kernel_rfl) rfl #[.agg #[.int .i64 t1961, .int .i64 t1962, .int .i64 t1963, .int .i64 t1964, .int .i64 t1965, .int .i64 t1966]] rfl (by first|rfl|(simp only [List.map_toArray, List.map_cons, List.map_nil]; try rfl)) ?_; (with_reducible refine (impl_OrderOfMotion.calls k t1961 t1962 t1963 t1964 t1965 t1966 t1972 t1973 _ A7.out).mono ?_); rintro e w20 ⟨rfl, hb⟩; refine ⟨_, rfl, ?_⟩; have n0_ := aM (blk_below (g := gb1967) (o := .cells #[.int .i64 t1961, .int .i64 t1962, .int .i64 t1963, .int .i64 t1964, .int .i64 t1965, .int .i64 t1966] 84 (0, 0)) (by (with_reducible repeat (first|apply kN|apply kD|apply kA)); exact BK1967.out) hb); have n1_ := aM (below_step (by repeat (first | (with_reducible first | exact HB.out | apply bA|apply bN|apply b1 | refine below_set ?_ GE1967.out) | exact HB.out)) hb); clear BK1967; clear HB; have BK1967 := n0_; have HB := n1_; clear n0_ n1_; (try clear hb); have hcz21_0 : w20.cell? ⟨gb1967, 0, none⟩ = some (.int .i64 t1961) := (blk_cell BK1967.out 0).trans rfl; have hcz21_1 : w20.cell? ⟨gb1967, 1, none⟩ = some (.int .i64 t1962) := (blk_cell BK1967.out 1).trans rfl; have hcz21_2 : w20.cell? ⟨gb1967, 2, none⟩ = some (.int .i64 t1963) := (blk_cell BK1967.out 2).trans rfl; have hcz21_3 : w20.cell? ⟨gb1967, 3, none⟩ = some (.int .i64 t1964) := (blk_cell BK1967.out 3).trans rfl; have hcz21_4 : w20.cell? ⟨gb1967, 4, none⟩ = some (.int .i64 t1965) := (blk_cell BK1967.out 4).trans rfl; have hcz21_5 : w20.cell? ⟨gb1967, 5, none⟩ = some (.int .i64 t1966) := (blk_cell BK1967.out 5).trans rfl; have hfz21_0 := blk_frozen BK1967.out 0; have hfz21_1 := blk_frozen BK1967.out 1; have hfz21_2 := blk_frozen BK1967.out 2; have hfz21_3 := blk_frozen BK1967.out 3; have hfz21_4 := blk_frozen BK1967.out 4; have hfz21_5 := blk_frozen BK1967.out 5) | ((with_reducible refine gate_callee (f := 97) rfl ?_); refine goesL_ (some 40) rfl rfl Try.func97 (by kernel_rfl) rfl #[.agg #[.int .i64 t1961, .int .i64 t1962, .int .i64 t1963, .int .i64 t1964, .int .i64 t1965, .int .i64 t1966]] rfl (by first|rfl|(simp only [List.map_toArray, List.map_cons, List.map_nil]; try rfl)) ?_; (with_reducible refine (spec_OrderOfMotion.calls k t1961 t1962 t1963 t1964 t1965 t1966 t1974 t1975 _ A8.out).mono ?_); rintro e w22 ⟨rfl, hb⟩; refine ⟨_, rfl, ?_⟩; have n0_ := aM (blk_below (g := gb1967) (o := .cells #[.int .i64 t1961, .int .i64 t1962, .int .i64 t1963, .int .i64 t1964, .int .i64 t1965, .int .i64 t1966] 84 (0, 0)) (by (with_reducible repeat (first|apply kN|apply kD|apply kA)); exact BK1967.out) hb); have n1_ := aM (below_step (by repeat (first | (with_reducible first | exact HB.out | apply bA|apply bN|apply b1 | refine below_set ?_ GE1967.out) | exact HB.out)) hb); clear BK1967; clear HB; have BK1967 := n0_; have HB := n1_; clear n0_ n1_; (try clear hb)) | ((with_reducible refine gate_callee (f := 98) rfl ?_); refine goesL_ (some 44) rfl rfl Try.func98 (by kernel_rfl) rfl #[.slice A0 l0.length c0] rfl (by first|rfl|(simp only [List.map_toArray, List.map_cons, List.map_nil]; try rfl)) ?_; (with_reducible refine (spec_DrawTwiceGlide.calls k _ _ l0 t1976 t1977 t1978 t1979 t1980 t1981 _ ?side1 ?side2 A9.out).mono ?_); (case side1 => repeat (first | exact (Kd.C_below HR0.out HB.out) | (with_reducible refine Kd.C_alloc ?_ _) | (with_reducible refine Kd.C_drewN ?_ _) | (with_reducible refine Kd.C_drew ?_))); (case side2 => exact HC0.out); rintro e w23 ⟨rfl, hb⟩; refine ⟨_, rfl, ?_⟩; have n0_ := aM (blk_below (g := gb1967) (o := .cells #[.int .i64 t1961, .int .i64 t1962, .int .i64 t1963, .int .i64 t1964, .int .i64 t1965, .int .i64 t1966] 84 (0, 0)) (by (with_reducible repeat (first|apply kN|apply kD|apply kA)); exact BK1967.out) hb); have n1_ := aM (below_step (by repeat (first | (with_reducible first | exact HB.out | apply bA|apply bN|apply b1 | refine below_set ?_ GE1967.out) | exact HB.out)) hb); clear BK1967; clear HB; have BK1967 := n0_; have HB := n1_; clear n0_ n1_; (try clear hb)) | ((with_reducible refine gate_dst (N := 12) rfl ?_); refine box_event ?hg (N := 12) ?hd (cs := #[.int .i64 0, .int .i64 0, .int .i64 0, .int .i64 0, .int .i64 0, .int .i64 0]) (t := 84) ?hr ?_; (case hd => rfl); (case hg => rfl); (case hr => first | (go_simp; done) | (go_simp; rfl)); intro gb1982 hg w24 hbox hb; have n0_ := aM (blk_below (g := gb1967) (o := .cells #[.int .i64 t1961, .int .i64 t1962, .int .i64 t1963, .int .i64 t1964, .int .i64 t1965, .int .i64 t1966] 84 (0, 0)) (by (with_reducible repeat (first|apply kN|apply kD|apply kA)); exact BK1967.out) hb); have n1_ := aM (below_step (by repeat (first | (with_reducible first | exact HB.out | apply bA|apply bN|apply b1 | refine below_set ?_ GE1967.out) | exact HB.out)) hb); have n2_ := aM (hbox); have n3_ := aM ((by rw [hg]; exact (below_size (by repeat (first | (with_reducible first | exact HB.out | apply bA|apply bN|apply b1 | refine below_set ?_ GE1967.out) | exact HB.out))) : w.heap.size ≤ gb1982)); have n4_ := aM ((by rw [hg]; exact (below_size (by repeat (first | (with_reducible first | exact HB.out | apply bA|apply bN|apply b1 | refine below_set ?_ GE1967.out) | exact HB.out))) : w.heap.size ≤ gb1982)); have n5_ := aM ((by rw [hg]; exact Nat.ne_of_lt (blk_lt (g := gb1967) (o := .cells #[.int .i64 t1961, .int .i64 t1962, .int .i64 t1963, .int .i64 t1964, .int .i64 t1965, .int .i64 t1966] 84 (0, 0)) (by (with_reducible repeat (first|apply kN|apply kD|apply kA)); exact BK1967.out)) : gb1967 ≠ gb1982)); have n6_ := aM ((by rw [hg]; exact Nat.ne_of_gt (blk_lt (g := gb1967) (o := .cells #[.int .i64 t1961, .int .i64 t1962, .int .i64 t1963, .int .i64 t1964, .int .i64 t1965, .int .i64 t1966] 84 (0, 0)) (by (with_reducible repeat (first|apply kN|apply kD|apply kA)); exact BK1967.out)) : gb1982 ≠ gb1967)); clear BK1967; clear HB; have BK1967 := n0_; have HB := n1_; have BK1982 := n2_; have GW1982 := n3_; have GE1982 := n4_; have NB1967_1982 := n5_; have NB1982_1967 := n6_; clear n0_ n1_ n2_ n3_ n4_ n5_ n6_; clear hb hbox hg; have hnb25 := NB1982_1967.out; have hnc25 := NB1967_1982.out; have hcz26_0 : w24.cell? ⟨gb1982, 0, none⟩ = some (.int .i64 0) := (blk_cell BK1982.out 0).trans rfl; have hcz26_1 : w24.cell? ⟨gb1982, 1, none⟩ = some (.int .i64 0) := (blk_cell BK1982.out 1).trans rfl; have hcz26_2 : w24.cell? ⟨gb1982, 2, none⟩ = some (.int .i64 0) := (blk_cell BK1982.out 2).trans rfl; have hcz26_3 : w24.cell? ⟨gb1982, 3, none⟩ = some (.int .i64 0) := (blk_cell BK1982.out 3).trans rfl; have hcz26_4 : w24.cell? ⟨gb1982, 4, none⟩ = some (.int .i64 0) := (blk_cell BK1982.out 4).trans rfl; have hcz26_5 : w24.cell? ⟨gb1982, 5, none⟩ = some (.int .i64 0) := (blk_cell BK1982.out 5).trans rfl; have hfz26_0 := blk_frozen BK1982.out 0; have hfz26_1 := blk_frozen BK1982.out 1; have hfz26_2 := blk_frozen BK1982.out 2; have hfz26_3 := blk_frozen BK1982.out 3; have hfz26_4 := blk_frozen BK1982.out 4; have hfz26_5 := blk_frozen BK1982.out 5) | ((with_reducible refine gate_callee (f := 99) rfl ?_); refine goesL_ (some 47) rfl rfl Try.func99 (by kernel_rfl) rfl #[.agg #[.int .i64 t1976, .int .i64 t1977, .int .i64 t1978, .int .i64 t1979, .int .i64 t1980, .int .i64 t1981]] rfl (by first|rfl|(simp only [List.map_toArray, List.map_cons, List.map_nil]; try rfl)) ?_; (with_reducible refine (impl_TwiceGlide.calls k t1976 t1977 t1978 t1979 t1980 t1981 t1983 t1984 t1985 _ A10.out).mono ?_); rintro e w27 ⟨rfl, hb⟩; refine ⟨_, rfl, ?_⟩; have n0_ := aM (blk_below (g := gb1967) (o := .cells #[.int .i64 t1961, .int .i64 t1962, .int .i64 t1963, .int .i64 t1964, .int .i64 t1965, .int .i64 t1966] 84 (0, 0)) (by (repeat (first|(with_reducible first|apply kN|apply kD|apply kA)|refine blk_far ?_ NB1967_1982.out _)); exact BK1967.out) hb); have n1_ := aM (blk_below (g := gb1982) (o := .cells #[.int .i64 t1976, .int .i64 t1977, .int .i64 t1978, .int .i64 t1979, .int .i64 t1980, .int .i64 t1981] 84 (0, 0)) (by (with_reducible repeat (first|apply kN|apply kD|apply kA)); refine blk_put (cs := #[.int .i64 t1976, .int .i64 t1977, .int .i64 t1978, .int .i64 t1979, .int .i64 t1980, .int .i64 0]) ?_ 5 _ rfl; (with_reducible repeat (first|apply kN|apply kD|apply kA)); refine blk_put (cs := #[.int .i64 t1976, .int .i64 t1977, .int .i64 t1978, .int .i64 t1979, .int .i64 0, .int .i64 0]) ?_ 4 _ rfl; (with_reducible repeat (first|apply kN|apply kD|apply kA)); refine blk_put (cs := #[.int .i64 t1976, .int .i64 t1977, .int .i64 t1978, .int .i64 0, .int .i64 0, .int .i64 0]) ?_ 3 _ rfl; (with_reducible repeat (first|apply kN|apply kD|apply kA)); refine blk_put (cs := #[.int .i64 t1976, .int .i64 t1977, .int .i64 0, .int .i64 0, .int .i64 0, .int .i64 0]) ?_ 2 _ rfl; (with_reducible repeat (first|apply kN|apply kD|apply kA)); refine blk_put (cs := #[.int .i64 t1976, .int .i64 0, .int .i64 0, .int .i64 0, .int .i64 0, .int .i64 0]) ?_ 1 _ rfl; (with_reducible repeat (first|apply kN|apply kD|apply kA)); refine blk_put (cs := #[.int .i64 0, .int .i64 0, .int .i64 0, .int .i64 0, .int .i64 0, .int .i64 0]) ?_ 0 _ rfl; (with_reducible repeat (first|apply kN|apply kD|apply kA)); exact BK1982.out) hb); have n2_ := aM (below_step (by repeat (first | (with_reducible first | exact HB.out | apply bA|apply bN|apply b1 | refine below_set ?_ (Aside0.out (by assumption))) | exact HB.out)) hb); clear BK1967; clear BK1982; clear HB; have BK1967 := n0_; have BK1982 := n1_; have HB := n2_; clear n0_ n1_ n2_; (try clear hb)) | ((with_reducible refine gate_dst (N := 13) rfl ?_); refine box_event ?hg (N := 13) ?hd (cs := #[.int .i64 0, .int .i64 0]) (t := 25) ?hr ?_; (case hd => rfl); (case hg => rfl); (case hr => first | (go_simp; done) | (go_simp; rfl)); intro gb1986 hg w28 hbox hb; have n0_ := aM (blk_below (g := gb1967) (o := .cells #[.int .i64 t1961, .int .i64 t1962, .int .i64 t1963, .int .i64 t1964, .int .i64 t1965, .int .i64 t1966] 84 (0, 0)) (by (with_reducible repeat (first|apply kN|apply kD|apply kA)); exact BK1967.out) hb); have n1_ := aM (blk_below (g := gb1982) (o := .cells #[.int .i64 t1976, .int .i64 t1977, .int .i64 t1978, .int .i64 t1979, .int .i64 t1980, .int .i64 t1981] 84 (0, 0)) (by (with_reducible repeat (first|apply kN|apply kD|apply kA)); exact BK1982.out) hb); have n2_ := aM (below_step (by repeat (first | (with_reducible first | exact HB.out | apply bA|apply bN|apply b1 | refine below_set ?_ (Aside0.out (by assumption))) | exact HB.out)) hb); have n3_ := aM (hbox); have n4_ := aM ((by rw [hg]; exact (below_size (by repeat (first | (with_reducible first | exact HB.out | apply bA|apply bN|apply b1 | refine below_set ?_ (Aside0.out (by assumption))) | exact HB.out))) : w.heap.size ≤ gb1986)); have n5_ := aM ((by rw [hg]; exact (below_size (by repeat (first | (with_reducible first | exact HB.out | apply bA|apply bN|apply b1 | refine below_set ?_ (Aside0.out (by assumption))) | exact HB.out))) : w.heap.size ≤ gb1986)); have n6_ := aM ((by rw [hg]; exact Nat.ne_of_lt (blk_lt (g := gb1967) (o := .cells #[.int .i64 t1961, .int .i64 t1962, .int .i64 t1963, .int .i64 t1964, .int .i64 t1965, .int .i64 t1966] 84 (0, 0)) (by (with_reducible repeat (first|apply kN|apply kD|apply kA)); exact BK1967.out)) : gb1967 ≠ gb1986)); have n7_ := aM ((by rw [hg]; exact Nat.ne_of_gt (blk_lt (g := gb1967) (o := .cells #[.int .i64 t1961, .int .i64 t1962, .int .i64 t1963, .int .i64 t1964, .int .i64 t1965, .int .i64 t1966] 84 (0, 0)) (by (with_reducible repeat (first|apply kN|apply kD|apply kA)); exact BK1967.out)) : gb1986 ≠ gb1967)); have n8_ := aM ((by rw [hg]; exact Nat.ne_of_lt (blk_lt (g := gb1982) (o := .cells #[.int .i64 t1976, .int .i64 t1977, .int .i64 t1978, .int .i64 t1979, .int .i64 t1980, .int .i64 t1981] 84 (0, 0)) (by (with_reducible repeat (first|apply kN|apply kD|apply kA)); exact BK1982.out)) : gb1982 ≠ gb1986)); have n9_ := aM ((by rw [hg]; exact Nat.ne_of_gt (blk_lt (g := gb1982) (o := .cells #[.int .i64 t1976, .int .i64 t1977, .int .i64 t1978, .int .i64 t1979, .int .i64 t1980, .int .i64 t1981] 84 (0, 0)) (by (with_reducible repeat (first|apply kN|apply kD|apply kA)); exact BK1982.out)) : gb1986 ≠ gb1982)); clear BK1967; clear BK1982; clear HB; have BK1967 := n0_; have BK1982 := n1_; have HB := n2_; have BK1986 := n3_; have GW1986 := n4_; have GE1986 := n5_; have NB1967_1986 := n6_; have NB1986_1967 := n7_; have NB1982_1986 := n8_; have NB1986_1982 := n9_; clear n0_ n1_ n2_ n3_ n4_ n5_ n6_ n7_ n8_ n9_; clear hb hbox hg; have hnb29 := NB1986_1967.out; have hnc29 := NB1967_1986.out; have hnb30 := NB1986_1982.out; have hnc30 := NB1982_1986.out; have hcz31_0 : w28.cell? ⟨gb1986, 0, none⟩ = some (.int .i64 0) := (blk_cell BK1986.out 0).trans rfl; have hcz31_1 : w28.cell? ⟨gb1986, 1, none⟩ = some (.int .i64 0) := (blk_cell BK1986.out 1).trans rfl; have hfz31_0 := blk_frozen BK1986.out 0; have hfz31_1 := blk_frozen BK1986.out 1; have hcz32_0 : w28.cell? ⟨gb1982, 0, none⟩ = some (.int .i64 t1976) := (blk_cell BK1982.out 0).trans rfl; have hcz32_1 : w28.cell? ⟨gb1982, 1, none⟩ = some (.int .i64 t1977) := (blk_cell BK1982.out 1).trans rfl; have hcz32_2 : w28.cell? ⟨gb1982, 2, none⟩ = some (.int .i64 t1978) := (blk_cell BK1982.out 2).trans rfl; have hcz32_3 : w28.cell? ⟨gb1982, 3, none⟩ = some (.int .i64 t1979) := (blk_cell BK1982.out 3).trans rfl; have hcz32_4 : w28.cell? ⟨gb1982, 4, none⟩ = some (.int .i64 t1980) := (blk_cell BK1982.out 4).trans rfl; have hcz32_5 : w28.cell? ⟨gb1982, 5, none⟩ = some (.int .i64 t1981) := (blk_cell BK1982.out 5).trans rfl; have hfz32_0 := blk_frozen BK1982.out 0; have hfz32_1 := blk_frozen BK1982.out 1; have hfz32_2 := blk_frozen BK1982.out 2; have hfz32_3 := blk_frozen BK1982.out 3; have hfz32_4 := blk_frozen BK1982.out 4; have hfz32_5 := blk_frozen BK1982.out 5) | ((with_reducible refine gate_callee (f := 100) rfl ?_); refine goesL_ (some 52) rfl rfl Try.func100 (by kernel_rfl) rfl #[.agg #[.int .i64 t1976, .int .i64 t1977, .int .i64 t1978, .int .i64 t1979, .int .i64 t1980, .int .i64 t1981]] rfl (by first|rfl|(simp only [List.map_toArray, List.map_cons, List.map_nil]; try rfl)) ?_; (with_reducible refine (spec_TwiceGlide.calls k t1976 t1977 t1978 t1979 t1980 t1981 t1987 t1988 t1989 _ A11.out).mono ?_); rintro e w33 ⟨rfl, hb⟩; refine ⟨_, rfl, ?_⟩; have n0_ := aM (blk_below (g := gb1967) (o := .cells #[.int .i64 t1961, .int .i64 t1962, .int .i64 t1963, .int .i64 t1964, .int .i64 t1965, .int .i64 t1966] 84 (0, 0)) (by (repeat (first|(with_reducible first|apply kN|apply kD|apply kA)|refine blk_far ?_ NB1967_1986.out _)); exact BK1967.out) hb); have n1_ := aM (blk_below (g := gb1982) (o := .cells #[.int .i64 t1976, .int .i64 t1977, .int .i64 t1978, .int .i64 t1979, .int .i64 t1980, .int .i64 t1981] 84 (0, 0)) (by (repeat (first|(with_reducible first|apply kN|apply kD|apply kA)|refine blk_far ?_ NB1982_1986.out _)); exact BK1982.out) hb); have n2_ := aM (blk_below (g := gb1986) (o := .cells #[.int .i64 t1983, .int .i64 t1984] 25 (0, 0)) (by (with_reducible repeat (first|apply kN|apply kD|apply kA)); refine blk_put (cs := #[.int .i64 t1983, .int .i64 0]) ?_ 1 _ rfl; (with_reducible repeat (first|apply kN|apply kD|apply kA)); refine blk_put (cs := #[.int .i64 0, .int .i64 0]) ?_ 0 _ rfl; (with_reducible repeat (first|apply kN|apply kD|apply kA)); exact BK1986.out) hb); have n3_ := aM (below_step (by repeat (first | (with_reducible first | exact HB.out | apply bA|apply bN|apply b1 | refine below_set ?_ (Aside0.out (by assumption))) | exact HB.out)) hb); clear BK1967; clear BK1982; clear BK1986; clear HB; have BK1967 := n0_; have BK1982 := n1_; have BK1986 := n2_; have HB := n3_; clear n0_ n1_ n2_ n3_; (try clear hb)) | ((with_reducible refine gate_dst (N := 15) rfl ?_); refine box_event ?hg (N := 15) ?hd (cs := #[.int .i64 0, .int .i64 0]) (t := 25) ?hr ?_; (case hd => rfl); (case hg => rfl); (case hr => first | (go_simp; done) | (go_simp; rfl)); intro gb1990 hg w34 hbox hb; have n0_ := aM (blk_below (g := gb1967) (o := .cells #[.int .i64 t1961, .int .i64 t1962, .int .i64 t1963, .int .i64 t1964, .int .i64 t1965, .int .i64 t1966] 84 (0, 0)) (by (with_reducible repeat (first|apply kN|apply kD|apply kA)); exact BK1967.out) hb); have n1_ := aM (blk_below (g := gb1982) (o := .cells #[.int .i64 t1976, .int .i64 t1977, .int .i64 t1978, .int .i64 t1979, .int .i64 t1980, .int .i64 t1981] 84 (0, 0)) (by (with_reducible repeat (first|apply kN|apply kD|apply kA)); exact BK1982.out) hb); have n2_ := aM (blk_below (g := gb1986) (o := .cells #[.int .i64 t1983, .int .i64 t1984] 25 (0, 0)) (by (with_reducible repeat (first|apply kN|apply kD|apply kA)); exact BK1986.out) hb); have n3_ := aM (below_step (by repeat (first | (with_reducible first | exact HB.out | apply bA|apply bN|apply b1 | refine below_set ?_ (Aside0.out (by assumption))) | exact HB.out)) hb); have n4_ := aM (hbox); have n5_ := aM ((by rw [hg]; exact (below_size (by repeat (first | (with_reducible first | exact HB.out | apply bA|apply bN|apply b1 | refine below_set ?_ (Aside0.out (by assumption))) | exact HB.out))) : w.heap.size ≤ gb1990)); have n6_ := aM ((by rw [hg]; exact (below_size (by repeat (first | (with_reducible first | exact HB.out | apply bA|apply bN|apply b1 | refine below_set ?_ (Aside0.out (by assumption))) | exact HB.out))) : w.heap.size ≤ gb1990)); have n7_ := aM ((by rw [hg]; exact Nat.ne_of_lt (blk_lt (g := gb1967) (o := .cells #[.int .i64 t1961, .int .i64 t1962, .int .i64 t1963, .int .i64 t1964, .int .i64 t1965, .int .i64 t1966] 84 (0, 0)) (by (with_reducible repeat (first|apply kN|apply kD|apply kA)); exact BK1967.out)) : gb1967 ≠ gb1990)); have n8_ := aM ((by rw [hg]; exact Nat.ne_of_gt (blk_lt (g := gb1967) (o := .cells #[.int .i64 t1961, .int .i64 t1962, .int .i64 t1963, .int .i64 t1964, .int .i64 t1965, .int .i64 t1966] 84 (0, 0)) (by (with_reducible repeat (first|apply kN|apply kD|apply kA)); exact BK1967.out)) : gb1990 ≠ gb1967)); have n9_ := aM ((by rw [hg]; exact Nat.ne_of_lt (blk_lt (g := gb1982) (o := .cells #[.int .i64 t1976, .int .i64 t1977, .int .i64 t1978, .int .i64 t1979, .int .i64 t1980, .int .i64 t1981] 84 (0, 0)) (by (with_reducible repeat (first|apply kN|apply kD|apply kA)); exact BK1982.out)) : gb1982 ≠ gb1990)); have n10_ := aM ((by rw [hg]; exact Nat.ne_of_gt (blk_lt (g := gb1982) (o := .cells #[.int .i64 t1976, .int .i64 t1977, .int .i64 t1978, .int .i64 t1979, .int .i64 t1980, .int .i64 t1981] 84 (0, 0)) (by (with_reducible repeat (first|apply kN|apply kD|apply kA)); exact BK1982.out)) : gb1990 ≠ gb1982)); have n11_ := aM ((by rw [hg]; exact Nat.ne_of_lt (blk_lt (g := gb1986) (o := .cells #[.int .i64 t1983, .int .i64 t1984] 25 (0, 0)) (by (with_reducible repeat (first|apply kN|apply kD|apply kA)); exact BK1986.out)) : gb1986 ≠ gb1990)); have n12_ := aM ((by rw [hg]; exact Nat.ne_of_gt (blk_lt (g := gb1986) (o := .cells #[.int .i64 t1983, .int .i64 t1984] 25 (0, 0)) (by (with_reducible repeat (first|apply kN|apply kD|apply kA)); exact BK1986.out)) : gb1990 ≠ gb1986)); clear BK1967; clear BK1982; clear BK1986; clear HB; have BK1967 := n0_; have BK1982 := n1_; have BK1986 := n2_; have HB := n3_; have BK1990 := n4_; have GW1990 := n5_; have GE1990 := n6_; have NB1967_1990 := n7_; have NB1990_1967 := n8_; have NB1982_1990 := n9_; have NB1990_1982 := n10_; have NB1986_1990 := n11_; have NB1990_1986 := n12_; clear n0_ n1_ n2_ n3_ n4_ n5_ n6_ n7_ n8_ n9_ n10_ n11_ n12_; clear hb hbox hg; have hnb35 := NB1990_1967.out; have hnc35 := NB1967_1990.out; have hnb36 := NB1990_1982.out; have hnc36 := NB1982_1990.out; have hnb37 := NB1990_1986.out; have hnc37 := NB1986_1990.out; have hcz38_0 : w34.cell? ⟨gb1990, 0, none⟩ = some (.int .i64 0) := (blk_cell BK1990.out 0).trans rfl; have hcz38_1 : w34.cell? ⟨gb1990, 1, none⟩ = some (.int .i64 0) := (blk_cell BK1990.out 1).trans rfl; have hfz38_0 := blk_frozen BK1990.out 0; have hfz38_1 := blk_frozen BK1990.out 1))
  (try simp only [Act.put, List.setIfInBounds_toArray, List.set_cons_zero, List.set_cons_succ])
  go_cut [87] (fun v87 wc => ∃ (kq : Nat) (x87_11 : Bool), v87 = .bool x87_11 ∧ Aside0 (laws_FnKinds.j0 kq t1968 t1969 t1972 t1985 x87_11 t1976 t1977 t1978 t1979 t1980 t1981 t1983 t1984 = some true) ∧ Aside0 (kq ≤ k) ∧ Aside0 (wc.heap[gb1967]? = some (.cells #[.int .i64 t1961, .int .i64 t1962, .int .i64 t1963, .int .i64 t1964, .int .i64 t1965, .int .i64 t1966] 84 (0, 0))) ∧ Aside0 (wc.heap[gb1982]? = some (.cells #[.int .i64 t1976, .int .i64 t1977, .int .i64 t1978, .int .i64 t1979, .int .i64 t1980, .int .i64 t1981] 84 (0, 0))) ∧ Aside0 (wc.heap[gb1986]? = some (.cells #[.int .i64 t1983, .int .i64 t1984] 25 (0, 0))) ∧ Aside0 (wc.heap[gb1990]? = some (.cells #[.int .i64 t1987, .int .i64 t1988] 25 (0, 0))) ∧ Aside0 (Below w.heap.size w wc))
  case first =>
   have H := HC12.out
   clear HC12
   by_cases c39 : t1969 = t1971
   ·rw [if_pos c39] at H
    have c39b0 : (t1969 == t1971) = true := beq_iff_eq.mpr c39
    have c39b1 : (t1969 != t1971) = false := bne_eq_false_iff_eq.mpr c39
    clear c39
    (first | rw [c39b0] | (simp only [i64_w, i32_w]; rw [c39b0]) | skip)
    by_cases c40 : t1968 = t1970
    ·rw [if_pos c40] at H
     have c40b0 : (t1968 == t1970) = true := beq_iff_eq.mpr c40
     have c40b1 : (t1968 != t1970) = false := bne_eq_false_iff_eq.mpr c40
     clear c40
     by_cases c41 : t1973 = t1975
     ·rw [if_pos c41] at H
      have c41b0 : (t1973 == t1975) = true := beq_iff_eq.mpr c41
      have c41b1 : (t1973 != t1975) = false := bne_eq_false_iff_eq.mpr c41
      clear c41
      by_cases c42 : t1972 = t1974
      ·rw [if_pos c42] at H
       have c42b0 : (t1972 == t1974) = true := beq_iff_eq.mpr c42
       have c42b1 : (t1972 != t1974) = false := bne_eq_false_iff_eq.mpr c42
       clear c42
       by_cases c43 : t1985 = t1989
       ·rw [if_pos c43] at H
        have c43b0 : (t1985 == t1989) = true := beq_iff_eq.mpr c43
        have c43b1 : (t1985 != t1989) = false := bne_eq_false_iff_eq.mpr c43
        clear c43
        by_cases c44 : (!(t1983 == t1987) || (!(t1984 == t1988))) = true
        ·rw [if_pos c44] at H
         exact absurd H (by cases k <;> simp [laws_FnKinds.j0])
        ·rw [if_neg c44] at H
         have c44b0 : (!(t1983 == t1987) || (!(t1984 == t1988))) = false := by simpa using c44
         clear c44
         have H' := aM H
         clear H
         have hnb52 := NB1986_1967.out
         have hnc52 := NB1967_1986.out
         have hnb53 := NB1986_1982.out
         have hnc53 := NB1982_1986.out
         have hnb54 := NB1986_1990.out
         have hnc54 := NB1990_1986.out
         have hcz55_0 : w34.cell? ⟨gb1986, 0, none⟩ = some (.int .i64 t1983) := (blk_cell BK1986.out 0).trans rfl
         have hcz55_1 : w34.cell? ⟨gb1986, 1, none⟩ = some (.int .i64 t1984) := (blk_cell BK1986.out 1).trans rfl
         have hfz55_0 := blk_frozen BK1986.out 0
         have hfz55_1 := blk_frozen BK1986.out 1
         have hnb56 := NB1990_1967.out
         have hnc56 := NB1967_1990.out
         have hnb57 := NB1990_1982.out
         have hnc57 := NB1982_1990.out
         have hcz58_0 : w34.cell? ⟨gb1990, 0, none⟩ = some (.int .i64 0) := (blk_cell BK1990.out 0).trans rfl
         have hcz58_1 : w34.cell? ⟨gb1990, 1, none⟩ = some (.int .i64 0) := (blk_cell BK1990.out 1).trans rfl
         have hfz58_0 := blk_frozen BK1990.out 0
         have hfz58_1 := blk_frozen BK1990.out 1
         go_wp2
         go_meet
         case rel => exact ⟨_, ((t1973 != t1969)), (by first | rfl | (simp; done) | (simp [*]; done)), H', ⟨by first | omega | exact Nat.le_refl _⟩, ⟨by (repeat (first|(with_reducible first|apply kN|apply kD|apply kA)|refine blk_far ?_ NB1967_1990.out _)); exact BK1967.out⟩, ⟨by (repeat (first|(with_reducible first|apply kN|apply kD|apply kA)|refine blk_far ?_ NB1982_1990.out _)); exact BK1982.out⟩, ⟨by (repeat (first|(with_reducible first|apply kN|apply kD|apply kA)|refine blk_far ?_ NB1986_1990.out _)); exact BK1986.out⟩, ⟨by (with_reducible repeat (first|apply kN|apply kD|apply kA)); refine blk_put (cs := #[.int .i64 t1987, .int .i64 0]) ?_ 1 _ rfl; (with_reducible repeat (first|apply kN|apply kD|apply kA)); refine blk_put (cs := #[.int .i64 0, .int .i64 0]) ?_ 0 _ rfl; (with_reducible repeat (first|apply kN|apply kD|apply kA)); exact BK1990.out⟩, ⟨by repeat (first | (with_reducible first | exact HB.out | apply bA|apply bN|apply b1 | refine below_set ?_ (Aside0.out (by assumption))) | exact HB.out)⟩⟩
       ·rw [if_neg c43] at H
        exact absurd H (by cases k <;> simp [laws_FnKinds.j0])
      ·rw [if_neg c42] at H
       exact absurd H (by cases k <;> simp [laws_FnKinds.j0])
     ·rw [if_neg c41] at H
      exact absurd H (by cases k <;> simp [laws_FnKinds.j0])
    ·rw [if_neg c40] at H
     exact absurd H (by cases k <;> simp [laws_FnKinds.j0])
   ·rw [if_neg c39] at H
    exact absurd H (by cases k <;> simp [laws_FnKinds.j0])
  case rest =>
   clear HC12
   try clear c1
   try clear c2
   try clear p2
   try clear c3
   try clear c4
   try clear c5
   try clear c9
   try clear c10
   try clear c11
   try clear c14
   try clear c25
   try clear c29
   try clear c30
   try clear c35
   try clear c36
   try clear c37
   try clear c39
   try clear c39b0
   try clear c39b1
   try clear c40
   try clear c40b0
   try clear c40b1
   try clear c41
   try clear c41b0
   try clear c41b1
   try clear c42
   try clear c42b0
   try clear c42b1
   try clear c43
   try clear c43b0
   try clear c43b1
   try clear c44
   try clear c44b0
   try clear c45
   try clear c46
   try clear c47
   try clear c49
   try clear c50
   try clear c52
   try clear c53
   try clear c54
   try clear c56
   try clear c57
   try clear hcz15_0
   try clear hcz15_1
   try clear hcz15_2
   try clear hcz15_3
   try clear hcz15_4
   try clear hcz15_5
   try clear hcz17_0
   try clear hcz17_1
   try clear hcz17_2
   try clear hcz17_3
   try clear hcz17_4
   try clear hcz17_5
   try clear hcz19_0
   try clear hcz19_1
   try clear hcz19_2
   try clear hcz19_3
   try clear hcz19_4
   try clear hcz19_5
   try clear hcz21_0
   try clear hcz21_1
   try clear hcz21_2
   try clear hcz21_3
   try clear hcz21_4
   try clear hcz21_5
   try clear hcz26_0
   try clear hcz26_1
   try clear hcz26_2
   try clear hcz26_3
   try clear hcz26_4
   try clear hcz26_5
   try clear hcz31_0
   try clear hcz31_1
   try clear hcz32_0
   try clear hcz32_1
   try clear hcz32_2
   try clear hcz32_3
   try clear hcz32_4
   try clear hcz32_5
   try clear hcz38_0
   try clear hcz38_1
   try clear hcz48_0
   try clear hcz48_1
   try clear hcz51_0
   try clear hcz51_1
   try clear hcz55_0
   try clear hcz55_1
   try clear hcz58_0
   try clear hcz58_1
   try clear hfz15_0
   try clear hfz15_1
   try clear hfz15_2
   try clear hfz15_3
   try clear hfz15_4
   try clear hfz15_5
   try clear hfz17_0
   try clear hfz17_1
   try clear hfz17_2
   try clear hfz17_3
   try clear hfz17_4
   try clear hfz17_5
   try clear hfz19_0
   try clear hfz19_1
   try clear hfz19_2
   try clear hfz19_3
   try clear hfz19_4
   try clear hfz19_5
   try clear hfz21_0
   try clear hfz21_1
   try clear hfz21_2
   try clear hfz21_3
   try clear hfz21_4
   try clear hfz21_5
   try clear hfz26_0
   try clear hfz26_1
   try clear hfz26_2
   try clear hfz26_3
   try clear hfz26_4
   try clear hfz26_5
   try clear hfz31_0
   try clear hfz31_1
   try clear hfz32_0
   try clear hfz32_1
   try clear hfz32_2
   try clear hfz32_3
   try clear hfz32_4
   try clear hfz32_5
   try clear hfz38_0
   try clear hfz38_1
   try clear hfz48_0
   try clear hfz48_1
   try clear hfz51_0
   try clear hfz51_1
   try clear hfz55_0
   try clear hfz55_1
   try clear hfz58_0
   try clear hfz58_1
   obtain ⟨kq, x87_11, rfl, HA, HJ11, BK1967, BK1982, BK1986, BK1990, HB⟩ := hcut
   cases kq with
   | zero => exact absurd HA.out (by simp [laws_FnKinds.j0])
   | succ kj11 =>
    have H := HA.out
    clear HA
    simp only [laws_FnKinds.j0] at H
    by_cases c59 : x87_11 = true
    ·subst c59
     have H1 : (some false) = some true := by rw [if_pos rfl] at H; exact H
     clear H
     have H := H1
     clear H1
     exact absurd (Option.some.inj H) (by decide)
    ·replace c59 := Bool.eq_false_iff.mpr c59
     subst c59
     have H1 : (if t1985 = 0 then ((impl_KindOfMotion.f kj11 t1976 t1977 t1978 t1979 t1980 t1981).bind fun bt1991 => (if bt1991.2 = 0 then (if ((bt1991.1 == 3) != (t1983 == 0 && (t1984 == 0))) = true then (some false) else (if bt1991.1 = 3 then (laws_FnKinds.j1 kj11 t1968 t1969 t1972) else (if bt1991.1 = 4 then (laws_FnKinds.j1 kj11 t1968 t1969 t1972) else (some false)))) else (some false))) else (laws_FnKinds.j1 kj11 t1968 t1969 t1972)) = some true := by rw [if_neg (show ¬ (false = true) by decide)] at H; exact H
     clear H
     have H := H1
     clear H1
     have HC60 := aM H
     clear H
     go_upto_if 89 with (fail)
     go_cut [] (fun wc => ∃ (kq : Nat), Aside0 (laws_FnKinds.j1 kq t1968 t1969 t1972 = some true) ∧ Aside0 (kq ≤ kj11) ∧ Aside0 (wc.heap[gb1967]? = some (.cells #[.int .i64 t1961, .int .i64 t1962, .int .i64 t1963, .int .i64 t1964, .int .i64 t1965, .int .i64 t1966] 84 (0, 0))) ∧ Aside0 (wc.heap[gb1982]? = some (.cells #[.int .i64 t1976, .int .i64 t1977, .int .i64 t1978, .int .i64 t1979, .int .i64 t1980, .int .i64 t1981] 84 (0, 0))) ∧ Aside0 (wc.heap[gb1986]? = some (.cells #[.int .i64 t1983, .int .i64 t1984] 25 (0, 0))) ∧ Aside0 (wc.heap[gb1990]? = some (.cells #[.int .i64 t1987, .int .i64 t1988] 25 (0, 0))) ∧ Aside0 (Below w.heap.size w wc))
     case first =>
      have H := HC60.out
      clear HC60
      by_cases c61 : t1985 = 0
      ·rw [if_pos c61] at H
       have c61b0 : (t1985 == 0) = true := beq_iff_eq.mpr c61
       have c61b1 : (t1985 != 0) = false := bne_eq_false_iff_eq.mpr c61
       clear c61
       (first | rw [c61b0] | (simp only [i64_w, i32_w]; rw [c61b0]) | skip)
       replace H := Option.bind_eq_some_iff.mp H
       obtain ⟨⟨t1991, t1992⟩, A620, H⟩ := H
       try dsimp only at H
       have A62 := aM A620
       clear A620
       by_cases c63 : t1992 = 0
       ·rw [if_pos c63] at H
        have c63b0 : (t1992 == 0) = true := beq_iff_eq.mpr c63
        have c63b1 : (t1992 != 0) = false := bne_eq_false_iff_eq.mpr c63
        clear c63
        by_cases c64 : ((t1991 == 3) != (t1983 == 0 && (t1984 == 0))) = true
        ·rw [if_pos c64] at H
         have c64b0 : ((t1991 == 3) != (t1983 == 0 && (t1984 == 0))) = true := c64
         (try (have c64b1 : decide ((t1991 == 3) = (t1983 == 0 && (t1984 == 0))) = false := by simpa using c64))
         (try (have c64b2 : ((t1991 == 3) == (t1983 == 0 && (t1984 == 0))) = false := by simpa using c64))
         (try (have c64b3 : ¬ ((t1991 == 3) = (t1983 == 0 && (t1984 == 0))) := by simpa using c64))
         clear c64
         exact absurd (Option.some.inj H) (by decide)
        ·rw [if_neg c64] at H
         have c64b0 : ((t1991 == 3) != (t1983 == 0 && (t1984 == 0))) = false := by simpa using c64
         (try (have c64b1 : decide ((t1991 == 3) = (t1983 == 0 && (t1984 == 0))) = true := by simpa using c64))
         (try (have c64b2 : ((t1991 == 3) == (t1983 == 0 && (t1984 == 0))) = true := by simpa using c64))
         clear c64
         by_cases c73 : t1991 = 3
         ·rw [if_pos c73] at H
          have c73b0 : (t1991 == 3) = true := beq_iff_eq.mpr c73
          have c73b1 : (t1991 != 3) = false := bne_eq_false_iff_eq.mpr c73
          have cX73 : (t1983 == 0 && (t1984 == 0)) = true := by have q_ := c64b0; rw [c73b0] at q_; revert q_; cases (t1983 == 0 && (t1984 == 0)) <;> decide
          clear c73
          have H' := aM H
          clear H
          have hnb74 := NB1982_1967.out
          have hnc74 := NB1967_1982.out
          have hnb75 := NB1982_1986.out
          have hnc75 := NB1986_1982.out
          have hnb76 := NB1982_1990.out
          have hnc76 := NB1990_1982.out
          have hcz77_0 : wc.cell? ⟨gb1982, 0, none⟩ = some (.int .i64 t1976) := (blk_cell BK1982.out 0).trans rfl
          have hcz77_1 : wc.cell? ⟨gb1982, 1, none⟩ = some (.int .i64 t1977) := (blk_cell BK1982.out 1).trans rfl
          have hcz77_2 : wc.cell? ⟨gb1982, 2, none⟩ = some (.int .i64 t1978) := (blk_cell BK1982.out 2).trans rfl
          have hcz77_3 : wc.cell? ⟨gb1982, 3, none⟩ = some (.int .i64 t1979) := (blk_cell BK1982.out 3).trans rfl
          have hcz77_4 : wc.cell? ⟨gb1982, 4, none⟩ = some (.int .i64 t1980) := (blk_cell BK1982.out 4).trans rfl
          have hcz77_5 : wc.cell? ⟨gb1982, 5, none⟩ = some (.int .i64 t1981) := (blk_cell BK1982.out 5).trans rfl
          have hfz77_0 := blk_frozen BK1982.out 0
          have hfz77_1 := blk_frozen BK1982.out 1
          have hfz77_2 := blk_frozen BK1982.out 2
          have hfz77_3 := blk_frozen BK1982.out 3
          have hfz77_4 := blk_frozen BK1982.out 4
          have hfz77_5 := blk_frozen BK1982.out 5
          go_wp2_with (first | ((with_reducible refine gate_callee (f := 94) rfl ?_); refine goesL_ (some 92) rfl rfl Try.func94 (by kernel_rfl) rfl #[.agg #[.int .i64 t1976, .int .i64 t1977, .int .i64 t1978, .int .i64 t1979, .int .i64 t1980, .int .i64 t1981]] rfl (by first|rfl|(simp only [List.map_toArray, List.map_cons, List.map_nil]; try rfl)) ?_; (with_reducible refine (impl_KindOfMotion.calls kj11 t1976 t1977 t1978 t1979 t1980 t1981 t1991 t1992 _ A62.out).mono ?_); rintro e w78 ⟨rfl, hb⟩; refine ⟨_, rfl, ?_⟩; have n0_ := aM (blk_below (g := gb1967) (o := .cells #[.int .i64 t1961, .int .i64 t1962, .int .i64 t1963, .int .i64 t1964, .int .i64 t1965, .int .i64 t1966] 84 (0, 0)) (by (with_reducible repeat (first|apply kN|apply kD|apply kA)); exact BK1967.out) hb); have n1_ := aM (blk_below (g := gb1982) (o := .cells #[.int .i64 t1976, .int .i64 t1977, .int .i64 t1978, .int .i64 t1979, .int .i64 t1980, .int .i64 t1981] 84 (0, 0)) (by (with_reducible repeat (first|apply kN|apply kD|apply kA)); exact BK1982.out) hb); have n2_ := aM (blk_below (g := gb1986) (o := .cells #[.int .i64 t1983, .int .i64 t1984] 25 (0, 0)) (by (with_reducible repeat (first|apply kN|apply kD|apply kA)); exact BK1986.out) hb); have n3_ := aM (blk_below (g := gb1990) (o := .cells #[.int .i64 t1987, .int .i64 t1988] 25 (0, 0)) (by (with_reducible repeat (first|apply kN|apply kD|apply kA)); exact BK1990.out) hb); have n4_ := aM (below_step (by repeat (first | (with_reducible first | exact HB.out | apply bA|apply bN|apply b1 | refine below_set ?_ (Aside0.out (by assumption))) | exact HB.out)) hb); clear BK1967; clear BK1982; clear BK1986; clear BK1990; clear HB; have BK1967 := n0_; have BK1982 := n1_; have BK1986 := n2_; have BK1990 := n3_; have HB := n4_; clear n0_ n1_ n2_ n3_ n4_; (try clear hb); have hnb79 := NB1986_1967.out; have hnc79 := NB1967_1986.out; have hnb80 := NB1986_1990.out; have hnc80 := NB1990_1986.out; have hcz81_0 : w78.cell? ⟨gb1986, 0, none⟩ = some (.int .i64 t1983) := (blk_cell BK1986.out 0).trans rfl; have hcz81_1 : w78.cell? ⟨gb1986, 1, none⟩ = some (.int .i64 t1984) := (blk_cell BK1986.out 1).trans rfl; have hfz81_0 := blk_frozen BK1986.out 0; have hfz81_1 := blk_frozen BK1986.out 1))
          go_meet
          case rel => exact ⟨_, H', ⟨by have := HJ11.out; first | omega | exact Nat.le_refl _⟩, ⟨by (with_reducible repeat (first|apply kN|apply kD|apply kA)); exact BK1967.out⟩, ⟨by (with_reducible repeat (first|apply kN|apply kD|apply kA)); exact BK1982.out⟩, ⟨by (with_reducible repeat (first|apply kN|apply kD|apply kA)); exact BK1986.out⟩, ⟨by (with_reducible repeat (first|apply kN|apply kD|apply kA)); exact BK1990.out⟩, ⟨by repeat (first | (with_reducible first | exact HB.out | apply bA|apply bN|apply b1 | refine below_set ?_ (Aside0.out (by assumption))) | exact HB.out)⟩⟩
         ·rw [if_neg c73] at H
          have c73b0 : (t1991 == 3) = false := beq_eq_false_iff_ne.mpr c73
          have c73b1 : (t1991 != 3) = true := bne_iff_ne.mpr c73
          have cX73 : (t1983 == 0 && (t1984 == 0)) = false := by have q_ := c64b0; rw [c73b0] at q_; revert q_; cases (t1983 == 0 && (t1984 == 0)) <;> decide
          by_cases c82 : t1991 = 4
          ·rw [if_pos c82] at H
           have c82b0 : (t1991 == 4) = true := beq_iff_eq.mpr c82
           have c82b1 : (t1991 != 4) = false := bne_eq_false_iff_eq.mpr c82
           clear c82
           have H' := aM H
           clear H
           have hnb83 := NB1982_1967.out
           have hnc83 := NB1967_1982.out
           have hnb84 := NB1982_1986.out
           have hnc84 := NB1986_1982.out
           have hnb85 := NB1982_1990.out
           have hnc85 := NB1990_1982.out
           have hcz86_0 : wc.cell? ⟨gb1982, 0, none⟩ = some (.int .i64 t1976) := (blk_cell BK1982.out 0).trans rfl
           have hcz86_1 : wc.cell? ⟨gb1982, 1, none⟩ = some (.int .i64 t1977) := (blk_cell BK1982.out 1).trans rfl
           have hcz86_2 : wc.cell? ⟨gb1982, 2, none⟩ = some (.int .i64 t1978) := (blk_cell BK1982.out 2).trans rfl
           have hcz86_3 : wc.cell? ⟨gb1982, 3, none⟩ = some (.int .i64 t1979) := (blk_cell BK1982.out 3).trans rfl
           have hcz86_4 : wc.cell? ⟨gb1982, 4, none⟩ = some (.int .i64 t1980) := (blk_cell BK1982.out 4).trans rfl
           have hcz86_5 : wc.cell? ⟨gb1982, 5, none⟩ = some (.int .i64 t1981) := (blk_cell BK1982.out 5).trans rfl
           have hfz86_0 := blk_frozen BK1982.out 0
           have hfz86_1 := blk_frozen BK1982.out 1
           have hfz86_2 := blk_frozen BK1982.out 2
           have hfz86_3 := blk_frozen BK1982.out 3
           have hfz86_4 := blk_frozen BK1982.out 4
           have hfz86_5 := blk_frozen BK1982.out 5
           go_wp2_with (first | ((with_reducible refine gate_callee (f := 94) rfl ?_); refine goesL_ (some 92) rfl rfl Try.func94 (by kernel_rfl) rfl #[.agg #[.int .i64 t1976, .int .i64 t1977, .int .i64 t1978, .int .i64 t1979, .int .i64 t1980, .int .i64 t1981]] rfl (by first|rfl|(simp only [List.map_toArray, List.map_cons, List.map_nil]; try rfl)) ?_; (with_reducible refine (impl_KindOfMotion.calls kj11 t1976 t1977 t1978 t1979 t1980 t1981 t1991 t1992 _ A62.out).mono ?_); rintro e w87 ⟨rfl, hb⟩; refine ⟨_, rfl, ?_⟩; have n0_ := aM (blk_below (g := gb1967) (o := .cells #[.int .i64 t1961, .int .i64 t1962, .int .i64 t1963, .int .i64 t1964, .int .i64 t1965, .int .i64 t1966] 84 (0, 0)) (by (with_reducible repeat (first|apply kN|apply kD|apply kA)); exact BK1967.out) hb); have n1_ := aM (blk_below (g := gb1982) (o := .cells #[.int .i64 t1976, .int .i64 t1977, .int .i64 t1978, .int .i64 t1979, .int .i64 t1980, .int .i64 t1981] 84 (0, 0)) (by (with_reducible repeat (first|apply kN|apply kD|apply kA)); exact BK1982.out) hb); have n2_ := aM (blk_below (g := gb1986) (o := .cells #[.int .i64 t1983, .int .i64 t1984] 25 (0, 0)) (by (with_reducible repeat (first|apply kN|apply kD|apply kA)); exact BK1986.out) hb); have n3_ := aM (blk_below (g := gb1990) (o := .cells #[.int .i64 t1987, .int .i64 t1988] 25 (0, 0)) (by (with_reducible repeat (first|apply kN|apply kD|apply kA)); exact BK1990.out) hb); have n4_ := aM (below_step (by repeat (first | (with_reducible first | exact HB.out | apply bA|apply bN|apply b1 | refine below_set ?_ (Aside0.out (by assumption))) | exact HB.out)) hb); clear BK1967; clear BK1982; clear BK1986; clear BK1990; clear HB; have BK1967 := n0_; have BK1982 := n1_; have BK1986 := n2_; have BK1990 := n3_; have HB := n4_; clear n0_ n1_ n2_ n3_ n4_; (try clear hb); have hnb88 := NB1986_1967.out; have hnc88 := NB1967_1986.out; have hnb89 := NB1986_1990.out; have hnc89 := NB1990_1986.out; have hcz90_0 : w87.cell? ⟨gb1986, 0, none⟩ = some (.int .i64 t1983) := (blk_cell BK1986.out 0).trans rfl; have hcz90_1 : w87.cell? ⟨gb1986, 1, none⟩ = some (.int .i64 t1984) := (blk_cell BK1986.out 1).trans rfl; have hfz90_0 := blk_frozen BK1986.out 0; have hfz90_1 := blk_frozen BK1986.out 1))
           go_meet
           case rel => exact ⟨_, H', ⟨by have := HJ11.out; first | omega | exact Nat.le_refl _⟩, ⟨by (with_reducible repeat (first|apply kN|apply kD|apply kA)); exact BK1967.out⟩, ⟨by (with_reducible repeat (first|apply kN|apply kD|apply kA)); exact BK1982.out⟩, ⟨by (with_reducible repeat (first|apply kN|apply kD|apply kA)); exact BK1986.out⟩, ⟨by (with_reducible repeat (first|apply kN|apply kD|apply kA)); exact BK1990.out⟩, ⟨by repeat (first | (with_reducible first | exact HB.out | apply bA|apply bN|apply b1 | refine below_set ?_ (Aside0.out (by assumption))) | exact HB.out)⟩⟩
          ·rw [if_neg c82] at H
           have c82b0 : (t1991 == 4) = false := beq_eq_false_iff_ne.mpr c82
           have c82b1 : (t1991 != 4) = true := bne_iff_ne.mpr c82
           exact absurd (Option.some.inj H) (by decide)
       ·rw [if_neg c63] at H
        have c63b0 : (t1992 == 0) = false := beq_eq_false_iff_ne.mpr c63
        have c63b1 : (t1992 != 0) = true := bne_iff_ne.mpr c63
        exact absurd (Option.some.inj H) (by decide)
      ·rw [if_neg c61] at H
       have c61b0 : (t1985 == 0) = false := beq_eq_false_iff_ne.mpr c61
       have c61b1 : (t1985 != 0) = true := bne_iff_ne.mpr c61
       (first | rw [c61b0] | (simp only [i64_w, i32_w]; rw [c61b0]) | skip)
       have H' := aM H
       clear H
       go_wp2
       go_meet
       case rel => exact ⟨_, H', ⟨by have := HJ11.out; first | omega | exact Nat.le_refl _⟩, ⟨by (with_reducible repeat (first|apply kN|apply kD|apply kA)); exact BK1967.out⟩, ⟨by (with_reducible repeat (first|apply kN|apply kD|apply kA)); exact BK1982.out⟩, ⟨by (with_reducible repeat (first|apply kN|apply kD|apply kA)); exact BK1986.out⟩, ⟨by (with_reducible repeat (first|apply kN|apply kD|apply kA)); exact BK1990.out⟩, ⟨by repeat (first | (with_reducible first | exact HB.out | apply bA|apply bN|apply b1 | refine below_set ?_ (Aside0.out (by assumption))) | exact HB.out)⟩⟩
     case rest =>
      clear HC60
      try clear c1
      try clear c2
      try clear p2
      try clear c3
      try clear c4
      try clear c5
      try clear c6
      try clear c7
      try clear c8
      try clear c9
      try clear c10
      try clear c11
      try clear c14
      try clear c25
      try clear c29
      try clear c30
      try clear c35
      try clear c36
      try clear c37
      try clear c39
      try clear c39b0
      try clear c39b1
      try clear c40
      try clear c40b0
      try clear c40b1
      try clear c41
      try clear c41b0
      try clear c41b1
      try clear c42
      try clear c42b0
      try clear c42b1
      try clear c43
      try clear c43b0
      try clear c43b1
      try clear c44
      try clear c44b0
      try clear c45
      try clear c46
      try clear c47
      try clear c49
      try clear c50
      try clear c52
      try clear c53
      try clear c54
      try clear c56
      try clear c57
      try clear c59
      try clear c61
      try clear c61b0
      try clear c61b1
      try clear c63
      try clear c63b0
      try clear c63b1
      try clear c64
      try clear c64b0
      try clear c64b1
      try clear c64b2
      try clear c65
      try clear c66
      try clear c67
      try clear c70
      try clear c71
      try clear c73
      try clear c73b0
      try clear c73b1
      try clear c74
      try clear c75
      try clear c76
      try clear c79
      try clear c80
      try clear c82
      try clear c82b0
      try clear c82b1
      try clear c83
      try clear c84
      try clear c85
      try clear c88
      try clear c89
      try clear c91
      try clear c92
      try clear c93
      try clear c94
      try clear c95
      try clear c96
      try clear c97
      try clear c98
      try clear c99
      try clear c100
      try clear c101
      try clear hcz102_0
      try clear hcz102_1
      try clear hcz102_2
      try clear hcz102_3
      try clear hcz102_4
      try clear hcz102_5
      try clear hcz15_0
      try clear hcz15_1
      try clear hcz15_2
      try clear hcz15_3
      try clear hcz15_4
      try clear hcz15_5
      try clear hcz17_0
      try clear hcz17_1
      try clear hcz17_2
      try clear hcz17_3
      try clear hcz17_4
      try clear hcz17_5
      try clear hcz19_0
      try clear hcz19_1
      try clear hcz19_2
      try clear hcz19_3
      try clear hcz19_4
      try clear hcz19_5
      try clear hcz21_0
      try clear hcz21_1
      try clear hcz21_2
      try clear hcz21_3
      try clear hcz21_4
      try clear hcz21_5
      try clear hcz26_0
      try clear hcz26_1
      try clear hcz26_2
      try clear hcz26_3
      try clear hcz26_4
      try clear hcz26_5
      try clear hcz31_0
      try clear hcz31_1
      try clear hcz32_0
      try clear hcz32_1
      try clear hcz32_2
      try clear hcz32_3
      try clear hcz32_4
      try clear hcz32_5
      try clear hcz38_0
      try clear hcz38_1
      try clear hcz48_0
      try clear hcz48_1
      try clear hcz51_0
      try clear hcz51_1
      try clear hcz55_0
      try clear hcz55_1
      try clear hcz58_0
      try clear hcz58_1
      try clear hcz68_0
      try clear hcz68_1
      try clear hcz68_2
      try clear hcz68_3
      try clear hcz68_4
      try clear hcz68_5
      try clear hcz72_0
      try clear hcz72_1
      try clear hcz77_0
      try clear hcz77_1
      try clear hcz77_2
      try clear hcz77_3
      try clear hcz77_4
      try clear hcz77_5
      try clear hcz81_0
      try clear hcz81_1
      try clear hcz86_0
      try clear hcz86_1
      try clear hcz86_2
      try clear hcz86_3
      try clear hcz86_4
      try clear hcz86_5
      try clear hcz90_0
      try clear hcz90_1
      try clear hcz94_0
      try clear hcz94_1
      try clear hcz94_2
      try clear hcz94_3
      try clear hcz94_4
      try clear hcz94_5
      try clear hcz98_0
      try clear hcz98_1
      try clear hfz102_0
      try clear hfz102_1
      try clear hfz102_2
      try clear hfz102_3
      try clear hfz102_4
      try clear hfz102_5
      try clear hfz15_0
      try clear hfz15_1
      try clear hfz15_2
      try clear hfz15_3
      try clear hfz15_4
      try clear hfz15_5
      try clear hfz17_0
      try clear hfz17_1
      try clear hfz17_2
      try clear hfz17_3
      try clear hfz17_4
      try clear hfz17_5
      try clear hfz19_0
      try clear hfz19_1
      try clear hfz19_2
      try clear hfz19_3
      try clear hfz19_4
      try clear hfz19_5
      try clear hfz21_0
      try clear hfz21_1
      try clear hfz21_2
      try clear hfz21_3
      try clear hfz21_4
      try clear hfz21_5
      try clear hfz26_0
      try clear hfz26_1
      try clear hfz26_2
      try clear hfz26_3
      try clear hfz26_4
      try clear hfz26_5
      try clear hfz31_0
      try clear hfz31_1
      try clear hfz32_0
      try clear hfz32_1
      try clear hfz32_2
      try clear hfz32_3
      try clear hfz32_4
      try clear hfz32_5
      try clear hfz38_0
      try clear hfz38_1
      try clear hfz48_0
      try clear hfz48_1
      try clear hfz51_0
      try clear hfz51_1
      try clear hfz55_0
      try clear hfz55_1
      try clear hfz58_0
      try clear hfz58_1
      try clear hfz68_0
      try clear hfz68_1
      try clear hfz68_2
      try clear hfz68_3
      try clear hfz68_4
      try clear hfz68_5
      try clear hfz72_0
      try clear hfz72_1
      try clear hfz77_0
      try clear hfz77_1
      try clear hfz77_2
      try clear hfz77_3
      try clear hfz77_4
      try clear hfz77_5
      try clear hfz81_0
      try clear hfz81_1
      try clear hfz86_0
      try clear hfz86_1
      try clear hfz86_2
      try clear hfz86_3
      try clear hfz86_4
      try clear hfz86_5
      try clear hfz90_0
      try clear hfz90_1
      try clear hfz94_0
      try clear hfz94_1
      try clear hfz94_2
      try clear hfz94_3
      try clear hfz94_4
      try clear hfz94_5
      try clear hfz98_0
      try clear hfz98_1
      try clear p2
      obtain ⟨kq, HA, HJ59, BK1967, BK1982, BK1986, BK1990, HB⟩ := hcut
      cases kq with
      | zero => exact absurd HA.out (by simp [laws_FnKinds.j1])
      | succ kj59 =>
       have H := HA.out
       clear HA
       simp only [laws_FnKinds.j1] at H
       by_cases c104 : t1969 = 0
       ·rw [if_pos c104] at H
        have c104b0 : (t1969 == 0) = true := beq_iff_eq.mpr c104
        have c104b1 : (t1969 != 0) = false := bne_eq_false_iff_eq.mpr c104
        clear c104
        by_cases c105 : t1968 = 0
        ·rw [if_pos c105] at H
         have c105b0 : (t1968 == 0) = true := beq_iff_eq.mpr c105
         have c105b1 : (t1968 != 0) = false := bne_eq_false_iff_eq.mpr c105
         clear c105
         have hrT_ := Option.some.inj H
         go_wp2
         all_goals go_ret
         all_goals exact ⟨by first|rfl|(simp [*, errW_none, errW_some] <;> rfl), by repeat (first | (with_reducible first | exact HB.out | apply bA|apply bN|apply b1 | refine below_set ?_ (Aside0.out (by assumption))) | exact HB.out)⟩
        ·rw [if_neg c105] at H
         have c105b0 : (t1968 == 0) = false := beq_eq_false_iff_ne.mpr c105
         have c105b1 : (t1968 != 0) = true := bne_iff_ne.mpr c105
         by_cases c106 : t1968 = 3
         ·rw [if_pos c106] at H
          have c106b0 : (t1968 == 3) = true := beq_iff_eq.mpr c106
          have c106b1 : (t1968 != 3) = false := bne_eq_false_iff_eq.mpr c106
          clear c106
          have hrT_ := Option.some.inj H
          go_wp2
          all_goals go_ret
          all_goals exact ⟨by first|rfl|(simp [*, errW_none, errW_some] <;> rfl), by repeat (first | (with_reducible first | exact HB.out | apply bA|apply bN|apply b1 | refine below_set ?_ (Aside0.out (by assumption))) | exact HB.out)⟩
         ·rw [if_neg c106] at H
          have c106b0 : (t1968 == 3) = false := beq_eq_false_iff_ne.mpr c106
          have c106b1 : (t1968 != 3) = true := bne_iff_ne.mpr c106
          by_cases c107 : t1968 = 2
          ·rw [if_pos c107] at H
           have c107b0 : (t1968 == 2) = true := beq_iff_eq.mpr c107
           have c107b1 : (t1968 != 2) = false := bne_eq_false_iff_eq.mpr c107
           clear c107
           by_cases c108 : t1972 = 2
           ·rw [if_pos c108] at H
            have c108b0 : (t1972 == 2) = true := beq_iff_eq.mpr c108
            have c108b1 : (t1972 != 2) = false := bne_eq_false_iff_eq.mpr c108
            clear c108
            have hrT_ := Option.some.inj H
            go_wp2
            all_goals go_ret
            all_goals exact ⟨by first|rfl|(simp [*, errW_none, errW_some] <;> rfl), by repeat (first | (with_reducible first | exact HB.out | apply bA|apply bN|apply b1 | refine below_set ?_ (Aside0.out (by assumption))) | exact HB.out)⟩
           ·rw [if_neg c108] at H
            have c108b0 : (t1972 == 2) = false := beq_eq_false_iff_ne.mpr c108
            have c108b1 : (t1972 != 2) = true := bne_iff_ne.mpr c108
            by_cases c109 : t1972 = 3
            ·rw [if_pos c109] at H
             have c109b0 : (t1972 == 3) = true := beq_iff_eq.mpr c109
             have c109b1 : (t1972 != 3) = false := bne_eq_false_iff_eq.mpr c109
             clear c109
             have hrT_ := Option.some.inj H
             go_wp2
             all_goals go_ret
             all_goals exact ⟨by first|rfl|(simp [*, errW_none, errW_some] <;> rfl), by repeat (first | (with_reducible first | exact HB.out | apply bA|apply bN|apply b1 | refine below_set ?_ (Aside0.out (by assumption))) | exact HB.out)⟩
            ·rw [if_neg c109] at H
             have c109b0 : (t1972 == 3) = false := beq_eq_false_iff_ne.mpr c109
             have c109b1 : (t1972 != 3) = true := bne_iff_ne.mpr c109
             by_cases c110 : t1972 = 4
             ·rw [if_pos c110] at H
              have c110b0 : (t1972 == 4) = true := beq_iff_eq.mpr c110
              have c110b1 : (t1972 != 4) = false := bne_eq_false_iff_eq.mpr c110
              clear c110
              have hrT_ := Option.some.inj H
              go_wp2
              all_goals go_ret
              all_goals exact ⟨by first|rfl|(simp [*, errW_none, errW_some] <;> rfl), by repeat (first | (with_reducible first | exact HB.out | apply bA|apply bN|apply b1 | refine below_set ?_ (Aside0.out (by assumption))) | exact HB.out)⟩
             ·rw [if_neg c110] at H
              have c110b0 : (t1972 == 4) = false := beq_eq_false_iff_ne.mpr c110
              have c110b1 : (t1972 != 4) = true := bne_iff_ne.mpr c110
              have hrT_ := Option.some.inj H
              go_wp2
              all_goals go_ret
              all_goals exact ⟨by first|rfl|(simp [*, errW_none, errW_some] <;> rfl), by repeat (first | (with_reducible first | exact HB.out | apply bA|apply bN|apply b1 | refine below_set ?_ (Aside0.out (by assumption))) | exact HB.out)⟩
          ·rw [if_neg c107] at H
           have c107b0 : (t1968 == 2) = false := beq_eq_false_iff_ne.mpr c107
           have c107b1 : (t1968 != 2) = true := bne_iff_ne.mpr c107
           have hrT_ := Option.some.inj H
           go_wp2
           all_goals go_ret
           all_goals exact ⟨by first|rfl|(simp [*, errW_none, errW_some] <;> rfl), by repeat (first | (with_reducible first | exact HB.out | apply bA|apply bN|apply b1 | refine below_set ?_ (Aside0.out (by assumption))) | exact HB.out)⟩
       ·rw [if_neg c104] at H
        have c104b0 : (t1969 == 0) = false := beq_eq_false_iff_ne.mpr c104
        have c104b1 : (t1969 != 0) = true := bne_iff_ne.mpr c104
        have hrT_ := Option.some.inj H
        go_wp2
        all_goals go_ret
        all_goals exact ⟨by first|rfl|(simp [*, errW_none, errW_some] <;> rfl), by repeat (first | (with_reducible first | exact HB.out | apply bA|apply bN|apply b1 | refine below_set ?_ (Aside0.out (by assumption))) | exact HB.out)⟩


end Go.Proofs.Ytjjbjaagfjljnaa.F
