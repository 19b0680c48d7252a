import Derived.Test.YtjjbjaagfjljnaaF0
import Derived.Test.YtjjbjaagfjljnaaF1
import Derived.Test.YtjjbjaagfjljnaaF27
import Derived.Test.YtjjbjaagfjljnaaF29
import Derived.Test.YtjjbjaagfjljnaaF31
import Derived.Test.YtjjbjaagfjljnaaF33
import Derived.Test.YtjjbjaagfjljnaaF34
namespace Go.Proofs.Ytjjbjaagfjljnaa.F
open Go.RowKit Go.Proofs.YtjjbjaagfjljnaaW.PrintWords Go.Proofs.YtjjbjaagfjljnaaW.PrintLast Go.Proofs.YtjjbjaagfjljnaaW.PrintMore
attribute [local go_sem] max2_int min2_int max_two min_two max_three min_three max_four min_four   -- for this text's walks alone
set_option linter.unusedVariables false
set_option linter.unusedSimpArgs false
attribute [local go_sem high] eqA66

/-! ### laws_FnJoins: function 8 -/
mutual
def laws_FnJoins.j0 : Nat → Int → Int → Int → List (S66) → Int → Bool → Int → Int → Int → Int → Int → Int → Int → Int → Int → Int → Int → Int → Option (Bool)
  | 0, _, _, _, _, _, _, _, _, _, _, _, _, _, _, _, _, _, _ => none
  | k + 1, x6, x10, x13, x14, x15, x91, x1043000, x1043001, x1043002, x1044000, x1044001, x1044002, x1049000, x1049001, x1049002, x1059000, x1059001, x1059002 => if x91 = true then (some false) else (if x15 = 0 then (laws_FnJoins.l0 k x6 x10 x13 x14 0 1 x1043000 x1043001 x1043002 x1044000 x1044001 x1044002 x1049000 x1049001 x1049002 x1059000 x1059001 x1059002) else (if x10 = 0 then (if x6 = 0 then (some ((wrap64 ((wrap64 ((wrap64 (x1049000 * x1049002)) * x1059000)) * x1059002)) == (wrap64 ((wrap64 ((wrap64 (x1043000 * x1043002)) * x1044000)) * x1044002)))) else (some false)) else (some true)))
def laws_FnJoins.l0 : Nat → Int → Int → Int → List (S66) → Int → Int → Int → Int → Int → Int → Int → Int → Int → Int → Int → Int → Int → Int → Option (Bool)
  | 0, _, _, _, _, _, _, _, _, _, _, _, _, _, _, _, _, _, _ => none
  | k + 1, x6, x10, x13, x14, x18, x19, x1043000, x1043001, x1043002, x1044000, x1044001, x1044002, x1049000, x1049001, x1049002, x1059000, x1059001, x1059002 => if x19 ≤ x13 then (if x19 = 0 then (none) else (if (Int.tmod x13 x19) = 0 then (laws_FnJoins.l0 k x6 x10 x13 x14 (wrap64 (x18 + x19)) (wrap64 (x19 + 1)) x1043000 x1043001 x1043002 x1044000 x1044001 x1044002 x1049000 x1049001 x1049002 x1059000 x1059001 x1059002) else (laws_FnJoins.l0 k x6 x10 x13 x14 x18 (wrap64 (x19 + 1)) x1043000 x1043001 x1043002 x1044000 x1044001 x1044002 x1049000 x1049001 x1049002 x1059000 x1059001 x1059002))) else (if (x14.length : Int) = x18 then (if x10 = 0 then (if x6 = 0 then (some ((wrap64 ((wrap64 ((wrap64 (x1049000 * x1049002)) * x1059000)) * x1059002)) == (wrap64 ((wrap64 ((wrap64 (x1043000 * x1043002)) * x1044000)) * x1044002)))) else (some false)) else (some true)) else (some false))
end
def laws_FnJoins.f (k : Nat) (l0 : List Int) : Option (Bool) := (laws_big.f l0).bind fun t1035 => (if t1035 = true then (some true) else ((spec_DrawMeetLattices.f k l0).bind fun bt1036 => ((impl_JoinLattices.f k bt1036.1 bt1036.2.1 bt1036.2.2.1 bt1036.2.2.2.1 bt1036.2.2.2.2.1 bt1036.2.2.2.2.2).bind fun bt1044 => ((spec_JoinLattices.f k bt1036.1 bt1036.2.1 bt1036.2.2.1 bt1036.2.2.2.1 bt1036.2.2.2.2.1 bt1036.2.2.2.2.2).bind fun bt1049 => ((impl_MeetLattices.f k bt1036.1 bt1036.2.1 bt1036.2.2.1 bt1036.2.2.2.1 bt1036.2.2.2.2.1 bt1036.2.2.2.2.2).bind fun bt1054 => ((spec_MeetLattices.f k bt1036.1 bt1036.2.1 bt1036.2.2.1 bt1036.2.2.2.1 bt1036.2.2.2.2.1 bt1036.2.2.2.2.2).bind fun bt1059 => ((spec_DrawSublatticesOf.f k l0).bind fun t1064 => ((impl_SublatticesOf.f k t1064).bind fun bt1065 => ((spec_SublatticesOf.f k t1064).bind fun bt1069 => (if bt1044.2.2.2 = bt1049.2.2.2 then (if (!(bt1044.1 == bt1049.1) || (!(bt1044.2.1 == bt1049.2.1) || (!(bt1044.2.2.1 == bt1049.2.2.1)))) = true then (laws_FnJoins.j0 k bt1044.2.2.2 bt1054.2.2.2 t1064 bt1065.1 bt1065.2 true bt1036.1 bt1036.2.1 bt1036.2.2.1 bt1036.2.2.2.1 bt1036.2.2.2.2.1 bt1036.2.2.2.2.2 bt1044.1 bt1044.2.1 bt1044.2.2.1 bt1054.1 bt1054.2.1 bt1054.2.2.1) else (if bt1054.2.2.2 = bt1059.2.2.2 then (if (!(bt1054.1 == bt1059.1) || (!(bt1054.2.1 == bt1059.2.1) || (!(bt1054.2.2.1 == bt1059.2.2.1)))) = true then (laws_FnJoins.j0 k bt1044.2.2.2 bt1054.2.2.2 t1064 bt1065.1 bt1065.2 true bt1036.1 bt1036.2.1 bt1036.2.2.1 bt1036.2.2.2.1 bt1036.2.2.2.2.1 bt1036.2.2.2.2.2 bt1044.1 bt1044.2.1 bt1044.2.2.1 bt1054.1 bt1054.2.1 bt1054.2.2.1) else (if bt1065.2 = bt1069.2 then ((laws_likeLattices9.f k bt1065.1 bt1069.1).bind fun t1073 => (laws_FnJoins.j0 k bt1044.2.2.2 bt1054.2.2.2 t1064 bt1065.1 bt1065.2 (!t1073) bt1036.1 bt1036.2.1 bt1036.2.2.1 bt1036.2.2.2.1 bt1036.2.2.2.2.1 bt1036.2.2.2.2.2 bt1044.1 bt1044.2.1 bt1044.2.2.1 bt1054.1 bt1054.2.1 bt1054.2.2.1)) else (laws_FnJoins.j0 k bt1044.2.2.2 bt1054.2.2.2 t1064 bt1065.1 bt1065.2 true bt1036.1 bt1036.2.1 bt1036.2.2.1 bt1036.2.2.2.1 bt1036.2.2.2.2.1 bt1036.2.2.2.2.2 bt1044.1 bt1044.2.1 bt1044.2.2.1 bt1054.1 bt1054.2.1 bt1054.2.2.1))) else (laws_FnJoins.j0 k bt1044.2.2.2 bt1054.2.2.2 t1064 bt1065.1 bt1065.2 true bt1036.1 bt1036.2.1 bt1036.2.2.1 bt1036.2.2.2.1 bt1036.2.2.2.2.1 bt1036.2.2.2.2.2 bt1044.1 bt1044.2.1 bt1044.2.2.1 bt1054.1 bt1054.2.1 bt1054.2.2.1))) else (laws_FnJoins.j0 k bt1044.2.2.2 bt1054.2.2.2 t1064 bt1065.1 bt1065.2 true bt1036.1 bt1036.2.1 bt1036.2.2.1 bt1036.2.2.2.1 bt1036.2.2.2.2.1 bt1036.2.2.2.2.2 bt1044.1 bt1044.2.1 bt1044.2.2.1 bt1054.1 bt1054.2.1 bt1054.2.2.1)))))))))))
theorem laws_FnJoins.mono_l : ∀ k, (∀ y0 y1 y2 y3 y4 y5 y6 y7 y8 y9 y10 y11 y12 y13 y14 y15 y16 y17, LeO (laws_FnJoins.j0 k y0 y1 y2 y3 y4 y5 y6 y7 y8 y9 y10 y11 y12 y13 y14 y15 y16 y17) (laws_FnJoins.j0 (k + 1) y0 y1 y2 y3 y4 y5 y6 y7 y8 y9 y10 y11 y12 y13 y14 y15 y16 y17)) ∧ (∀ y0 y1 y2 y3 y4 y5 y6 y7 y8 y9 y10 y11 y12 y13 y14 y15 y16 y17, LeO (laws_FnJoins.l0 k y0 y1 y2 y3 y4 y5 y6 y7 y8 y9 y10 y11 y12 y13 y14 y15 y16 y17) (laws_FnJoins.l0 (k + 1) y0 y1 y2 y3 y4 y5 y6 y7 y8 y9 y10 y11 y12 y13 y14 y15 y16 y17))
  | 0 => ⟨fun _ _ _ _ _ _ _ _ _ _ _ _ _ _ _ _ _ _ r h => by simp [laws_FnJoins.j0] at h, fun _ _ _ _ _ _ _ _ _ _ _ _ _ _ _ _ _ _ r h => by simp [laws_FnJoins.l0] at h⟩
  | k + 1 => by
    obtain ⟨ih0, ih1⟩ := laws_FnJoins.mono_l k
    refine ⟨?_, ?_⟩
    · intro y0 y1 y2 y3 y4 y5 y6 y7 y8 y9 y10 y11 y12 y13 y14 y15 y16 y17
      unfold laws_FnJoins.j0
      repeat' first
      | (with_reducible exact ih0 _ _ _ _ _ _ _ _ _ _ _ _ _ _ _ _ _ _)
      | (with_reducible exact ih1 _ _ _ _ _ _ _ _ _ _ _ _ _ _ _ _ _ _)
      | (with_reducible exact impl_JoinLattices.mono _ _ _ _ _ _ _)
      | (with_reducible exact impl_MeetLattices.mono _ _ _ _ _ _ _)
      | (with_reducible exact impl_SublatticesOf.mono _ _)
      | (with_reducible exact laws_likeLattices9.mono _ _ _)
      | (with_reducible exact spec_DrawMeetLattices.mono _ _)
      | (with_reducible exact spec_DrawSublatticesOf.mono _ _)
      | (with_reducible exact spec_JoinLattices.mono _ _ _ _ _ _ _)
      | (with_reducible exact spec_MeetLattices.mono _ _ _ _ _ _ _)
      | (with_reducible exact spec_SublatticesOf.mono _ _)
      | (with_reducible exact LeO.refl _)
      | (with_reducible exact LeO.none _)
      | (with_reducible refine LeO.ite ?_ ?_)
      | (with_reducible refine LeO.bind ?_ (fun _ => ?_))
      | exact ih0 _ _ _ _ _ _ _ _ _ _ _ _ _ _ _ _ _ _
      | exact ih1 _ _ _ _ _ _ _ _ _ _ _ _ _ _ _ _ _ _
      | exact impl_JoinLattices.mono _ _ _ _ _ _ _
      | exact impl_MeetLattices.mono _ _ _ _ _ _ _
      | exact impl_SublatticesOf.mono _ _
      | exact laws_likeLattices9.mono _ _ _
      | exact spec_DrawMeetLattices.mono _ _
      | exact spec_DrawSublatticesOf.mono _ _
      | exact spec_JoinLattices.mono _ _ _ _ _ _ _
      | exact spec_MeetLattices.mono _ _ _ _ _ _ _
      | exact spec_SublatticesOf.mono _ _
      | exact LeO.none _
      | refine LeO.ite ?_ ?_
      | refine LeO.bind ?_ (fun _ => ?_)
    · intro y0 y1 y2 y3 y4 y5 y6 y7 y8 y9 y10 y11 y12 y13 y14 y15 y16 y17
      unfold laws_FnJoins.l0
      repeat' first
      | (with_reducible exact ih0 _ _ _ _ _ _ _ _ _ _ _ _ _ _ _ _ _ _)
      | (with_reducible exact ih1 _ _ _ _ _ _ _ _ _ _ _ _ _ _ _ _ _ _)
      | (with_reducible exact impl_JoinLattices.mono _ _ _ _ _ _ _)
      | (with_reducible exact impl_MeetLattices.mono _ _ _ _ _ _ _)
      | (with_reducible exact impl_SublatticesOf.mono _ _)
      | (with_reducible exact laws_likeLattices9.mono _ _ _)
      | (with_reducible exact spec_DrawMeetLattices.mono _ _)
      | (with_reducible exact spec_DrawSublatticesOf.mono _ _)
      | (with_reducible exact spec_JoinLattices.mono _ _ _ _ _ _ _)
      | (with_reducible exact spec_MeetLattices.mono _ _ _ _ _ _ _)
      | (with_reducible exact spec_SublatticesOf.mono _ _)
      | (with_reducible exact LeO.refl _)
      | (with_reducible exact LeO.none _)
      | (with_reducible refine LeO.ite ?_ ?_)
      | (with_reducible refine LeO.bind ?_ (fun _ => ?_))
      | exact ih0 _ _ _ _ _ _ _ _ _ _ _ _ _ _ _ _ _ _
      | exact ih1 _ _ _ _ _ _ _ _ _ _ _ _ _ _ _ _ _ _
      | exact impl_JoinLattices.mono _ _ _ _ _ _ _
      | exact impl_MeetLattices.mono _ _ _ _ _ _ _
      | exact impl_SublatticesOf.mono _ _
      | exact laws_likeLattices9.mono _ _ _
      | exact spec_DrawMeetLattices.mono _ _
      | exact spec_DrawSublatticesOf.mono _ _
      | exact spec_JoinLattices.mono _ _ _ _ _ _ _
      | exact spec_MeetLattices.mono _ _ _ _ _ _ _
      | exact spec_SublatticesOf.mono _ _
      | exact LeO.none _
      | refine LeO.ite ?_ ?_
      | refine LeO.bind ?_ (fun _ => ?_)
theorem laws_FnJoins.mono : ∀ a0 k, LeO (laws_FnJoins.f k a0) (laws_FnJoins.f (k + 1) a0) := by
  intro a0 k
  obtain ⟨ih0, ih1⟩ := laws_FnJoins.mono_l k
  unfold laws_FnJoins.f
  repeat' first
      | (with_reducible exact ih0 _ _ _ _ _ _ _ _ _ _ _ _ _ _ _ _ _ _)
      | (with_reducible exact ih1 _ _ _ _ _ _ _ _ _ _ _ _ _ _ _ _ _ _)
      | (with_reducible exact impl_JoinLattices.mono _ _ _ _ _ _ _)
      | (with_reducible exact impl_MeetLattices.mono _ _ _ _ _ _ _)
      | (with_reducible exact impl_SublatticesOf.mono _ _)
      | (with_reducible exact laws_likeLattices9.mono _ _ _)
      | (with_reducible exact spec_DrawMeetLattices.mono _ _)
      | (with_reducible exact spec_DrawSublatticesOf.mono _ _)
      | (with_reducible exact spec_JoinLattices.mono _ _ _ _ _ _ _)
      | (with_reducible exact spec_MeetLattices.mono _ _ _ _ _ _ _)
      | (with_reducible exact spec_SublatticesOf.mono _ _)
      | (with_reducible exact LeO.refl _)
      | (with_reducible exact LeO.none _)
      | (with_reducible refine LeO.ite ?_ ?_)
      | (with_reducible refine LeO.bind ?_ (fun _ => ?_))
      | exact ih0 _ _ _ _ _ _ _ _ _ _ _ _ _ _ _ _ _ _
      | exact ih1 _ _ _ _ _ _ _ _ _ _ _ _ _ _ _ _ _ _
      | exact impl_JoinLattices.mono _ _ _ _ _ _ _
      | exact impl_MeetLattices.mono _ _ _ _ _ _ _
      | exact impl_SublatticesOf.mono _ _
      | exact laws_likeLattices9.mono _ _ _
      | exact spec_DrawMeetLattices.mono _ _
      | exact spec_DrawSublatticesOf.mono _ _
      | exact spec_JoinLattices.mono _ _ _ _ _ _ _
      | exact spec_MeetLattices.mono _ _ _ _ _ _ _
      | exact spec_SublatticesOf.mono _ _
      | exact LeO.none _
      | refine LeO.ite ?_ ?_
      | refine LeO.bind ?_ (fun _ => ?_)
set_option maxHeartbeats 8000000 in
set_option maxRecDepth 100000 in
theorem laws_FnJoins.calls (k : Nat) (A0 : Option Addr) (c0 : Nat) (l0 : List Int) (w : World) (hr0 : Kd.C (Kd.int .u8) w A0 l0.length l0) (hc0 : l0.length ≤ c0) (h : laws_FnJoins.f k l0 = some true) :
    Calls Try.prog 8 #[.slice A0 l0.length c0] w fun e w' => e = .returned (.bool true) ∧ Below w.heap.size w w' := by
  have hu66 := Try.underlying66
  have HR0 := Aside0.mk hr0
  have HC0 := Aside0.mk hc0
  clear hr0 hc0
  have HB := Aside0.mk (Below.refl w.heap.size w)
  have H : ((laws_big.f l0).bind fun t1035 => (if t1035 = true then (some true) else ((spec_DrawMeetLattices.f k l0).bind fun bt1036 => ((impl_JoinLattices.f k bt1036.1 bt1036.2.1 bt1036.2.2.1 bt1036.2.2.2.1 bt1036.2.2.2.2.1 bt1036.2.2.2.2.2).bind fun bt1044 => ((spec_JoinLattices.f k bt1036.1 bt1036.2.1 bt1036.2.2.1 bt1036.2.2.2.1 bt1036.2.2.2.2.1 bt1036.2.2.2.2.2).bind fun bt1049 => ((impl_MeetLattices.f k bt1036.1 bt1036.2.1 bt1036.2.2.1 bt1036.2.2.2.1 bt1036.2.2.2.2.1 bt1036.2.2.2.2.2).bind fun bt1054 => ((spec_MeetLattices.f k bt1036.1 bt1036.2.1 bt1036.2.2.1 bt1036.2.2.2.1 bt1036.2.2.2.2.1 bt1036.2.2.2.2.2).bind fun bt1059 => ((spec_DrawSublatticesOf.f k l0).bind fun t1064 => ((impl_SublatticesOf.f k t1064).bind fun bt1065 => ((spec_SublatticesOf.f k t1064).bind fun bt1069 => (if bt1044.2.2.2 = bt1049.2.2.2 then (if (!(bt1044.1 == bt1049.1) || (!(bt1044.2.1 == bt1049.2.1) || (!(bt1044.2.2.1 == bt1049.2.2.1)))) = true then (laws_FnJoins.j0 k bt1044.2.2.2 bt1054.2.2.2 t1064 bt1065.1 bt1065.2 true bt1036.1 bt1036.2.1 bt1036.2.2.1 bt1036.2.2.2.1 bt1036.2.2.2.2.1 bt1036.2.2.2.2.2 bt1044.1 bt1044.2.1 bt1044.2.2.1 bt1054.1 bt1054.2.1 bt1054.2.2.1) else (if bt1054.2.2.2 = bt1059.2.2.2 then (if (!(bt1054.1 == bt1059.1) || (!(bt1054.2.1 == bt1059.2.1) || (!(bt1054.2.2.1 == bt1059.2.2.1)))) = true then (laws_FnJoins.j0 k bt1044.2.2.2 bt1054.2.2.2 t1064 bt1065.1 bt1065.2 true bt1036.1 bt1036.2.1 bt1036.2.2.1 bt1036.2.2.2.1 bt1036.2.2.2.2.1 bt1036.2.2.2.2.2 bt1044.1 bt1044.2.1 bt1044.2.2.1 bt1054.1 bt1054.2.1 bt1054.2.2.1) else (if bt1065.2 = bt1069.2 then ((laws_likeLattices9.f k bt1065.1 bt1069.1).bind fun t1073 => (laws_FnJoins.j0 k bt1044.2.2.2 bt1054.2.2.2 t1064 bt1065.1 bt1065.2 (!t1073) bt1036.1 bt1036.2.1 bt1036.2.2.1 bt1036.2.2.2.1 bt1036.2.2.2.2.1 bt1036.2.2.2.2.2 bt1044.1 bt1044.2.1 bt1044.2.2.1 bt1054.1 bt1054.2.1 bt1054.2.2.1)) else (laws_FnJoins.j0 k bt1044.2.2.2 bt1054.2.2.2 t1064 bt1065.1 bt1065.2 true bt1036.1 bt1036.2.1 bt1036.2.2.1 bt1036.2.2.2.1 bt1036.2.2.2.2.1 bt1036.2.2.2.2.2 bt1044.1 bt1044.2.1 bt1044.2.2.1 bt1054.1 bt1054.2.1 bt1054.2.2.1))) else (laws_FnJoins.j0 k bt1044.2.2.2 bt1054.2.2.2 t1064 bt1065.1 bt1065.2 true bt1036.1 bt1036.2.1 bt1036.2.2.1 bt1036.2.2.2.1 bt1036.2.2.2.2.1 bt1036.2.2.2.2.2 bt1044.1 bt1044.2.1 bt1044.2.2.1 bt1054.1 bt1054.2.1 bt1054.2.2.1))) else (laws_FnJoins.j0 k bt1044.2.2.2 bt1054.2.2.2 t1064 bt1065.1 bt1065.2 true bt1036.1 bt1036.2.1 bt1036.2.2.1 bt1036.2.2.2.1 bt1036.2.2.2.2.1 bt1036.2.2.2.2.2 bt1044.1 bt1044.2.1 bt1044.2.2.1 bt1054.1 bt1054.2.1 bt1054.2.2.1)))))))))))) = some true := h
  clear h
  replace H := Option.bind_eq_some_iff.mp H
  obtain ⟨t1035, A20, H⟩ := H
  replace H : (if t1035 = true then (some true) else ((spec_DrawMeetLattices.f k l0).bind fun bt1036 => ((impl_JoinLattices.f k bt1036.1 bt1036.2.1 bt1036.2.2.1 bt1036.2.2.2.1 bt1036.2.2.2.2.1 bt1036.2.2.2.2.2).bind fun bt1044 => ((spec_JoinLattices.f k bt1036.1 bt1036.2.1 bt1036.2.2.1 bt1036.2.2.2.1 bt1036.2.2.2.2.1 bt1036.2.2.2.2.2).bind fun bt1049 => ((impl_MeetLattices.f k bt1036.1 bt1036.2.1 bt1036.2.2.1 bt1036.2.2.2.1 bt1036.2.2.2.2.1 bt1036.2.2.2.2.2).bind fun bt1054 => ((spec_MeetLattices.f k bt1036.1 bt1036.2.1 bt1036.2.2.1 bt1036.2.2.2.1 bt1036.2.2.2.2.1 bt1036.2.2.2.2.2).bind fun bt1059 => ((spec_DrawSublatticesOf.f k l0).bind fun t1064 => ((impl_SublatticesOf.f k t1064).bind fun bt1065 => ((spec_SublatticesOf.f k t1064).bind fun bt1069 => (if bt1044.2.2.2 = bt1049.2.2.2 then (if (!(bt1044.1 == bt1049.1) || (!(bt1044.2.1 == bt1049.2.1) || (!(bt1044.2.2.1 == bt1049.2.2.1)))) = true then (laws_FnJoins.j0 k bt1044.2.2.2 bt1054.2.2.2 t1064 bt1065.1 bt1065.2 true bt1036.1 bt1036.2.1 bt1036.2.2.1 bt1036.2.2.2.1 bt1036.2.2.2.2.1 bt1036.2.2.2.2.2 bt1044.1 bt1044.2.1 bt1044.2.2.1 bt1054.1 bt1054.2.1 bt1054.2.2.1) else (if bt1054.2.2.2 = bt1059.2.2.2 then (if (!(bt1054.1 == bt1059.1) || (!(bt1054.2.1 == bt1059.2.1) || (!(bt1054.2.2.1 == bt1059.2.2.1)))) = true then (laws_FnJoins.j0 k bt1044.2.2.2 bt1054.2.2.2 t1064 bt1065.1 bt1065.2 true bt1036.1 bt1036.2.1 bt1036.2.2.1 bt1036.2.2.2.1 bt1036.2.2.2.2.1 bt1036.2.2.2.2.2 bt1044.1 bt1044.2.1 bt1044.2.2.1 bt1054.1 bt1054.2.1 bt1054.2.2.1) else (if bt1065.2 = bt1069.2 then ((laws_likeLattices9.f k bt1065.1 bt1069.1).bind fun t1073 => (laws_FnJoins.j0 k bt1044.2.2.2 bt1054.2.2.2 t1064 bt1065.1 bt1065.2 (!t1073) bt1036.1 bt1036.2.1 bt1036.2.2.1 bt1036.2.2.2.1 bt1036.2.2.2.2.1 bt1036.2.2.2.2.2 bt1044.1 bt1044.2.1 bt1044.2.2.1 bt1054.1 bt1054.2.1 bt1054.2.2.1)) else (laws_FnJoins.j0 k bt1044.2.2.2 bt1054.2.2.2 t1064 bt1065.1 bt1065.2 true bt1036.1 bt1036.2.1 bt1036.2.2.1 bt1036.2.2.2.1 bt1036.2.2.2.2.1 bt1036.2.2.2.2.2 bt1044.1 bt1044.2.1 bt1044.2.2.1 bt1054.1 bt1054.2.1 bt1054.2.2.1))) else (laws_FnJoins.j0 k bt1044.2.2.2 bt1054.2.2.2 t1064 bt1065.1 bt1065.2 true bt1036.1 bt1036.2.1 bt1036.2.2.1 bt1036.2.2.2.1 bt1036.2.2.2.2.1 bt1036.2.2.2.2.2 bt1044.1 bt1044.2.1 bt1044.2.2.1 bt1054.1 bt1054.2.1 bt1054.2.2.1))) else (laws_FnJoins.j0 k bt1044.2.2.2 bt1054.2.2.2 t1064 bt1065.1 bt1065.2 true bt1036.1 bt1036.2.1 bt1036.2.2.1 bt1036.2.2.2.1 bt1036.2.2.2.2.1 bt1036.2.2.2.2.2 bt1044.1 bt1044.2.1 bt1044.2.2.1 bt1054.1 bt1054.2.1 bt1054.2.2.1))))))))))) = some true := H
  have A2 := Aside0.mk A20
  clear A20
  by_cases c3 : t1035 = true
  · subst c3
    have H1 : (some true) = some true := rfl
    clear H
    have H := H1
    clear H1
    clear H
    go_enter Try.func8, Try.ntmps8
    go_wp2_with (first | ((with_reducible refine gate_callee (f := 14) rfl ?_); refine goesL_ (some 21) rfl rfl Try.func14 (by kernel_rfl) rfl #[.slice A0 l0.length c0] rfl (by (try simp only [List.map_toArray, List.map_cons, List.map_nil]); first | done | rfl | (simp only [List.length_drop, List.length_take]; rfl)) ?_; (with_reducible refine (laws_big.calls _ _ l0 true _ ?side1 ?side2 A2.out).mono ?_); (case side1 => repeat (first | exact HR0.out | (with_reducible refine Kd.C_alloc ?_ _) | (with_reducible refine Kd.C_drewN ?_ _) | (with_reducible refine Kd.C_drew ?_))); (case side2 => exact HC0.out); rintro e w' ⟨rfl, ⟨nd, rfl⟩⟩; refine ⟨_, rfl, ?_⟩))
    go_ret
    exact ⟨by first | rfl | (simp [errW_none, errW_some] <;> rfl) | (simp [*, errW_none, errW_some] <;> rfl), by repeat (first | (with_reducible first | exact HB.out | apply below_alloc | apply pw_below_drewN | apply below_drew1) | exact HB.out)⟩
  · replace c3 := Bool.eq_false_iff.mpr c3
    subst c3
    have H1 : ((spec_DrawMeetLattices.f k l0).bind fun bt1036 => ((impl_JoinLattices.f k bt1036.1 bt1036.2.1 bt1036.2.2.1 bt1036.2.2.2.1 bt1036.2.2.2.2.1 bt1036.2.2.2.2.2).bind fun bt1044 => ((spec_JoinLattices.f k bt1036.1 bt1036.2.1 bt1036.2.2.1 bt1036.2.2.2.1 bt1036.2.2.2.2.1 bt1036.2.2.2.2.2).bind fun bt1049 => ((impl_MeetLattices.f k bt1036.1 bt1036.2.1 bt1036.2.2.1 bt1036.2.2.2.1 bt1036.2.2.2.2.1 bt1036.2.2.2.2.2).bind fun bt1054 => ((spec_MeetLattices.f k bt1036.1 bt1036.2.1 bt1036.2.2.1 bt1036.2.2.2.1 bt1036.2.2.2.2.1 bt1036.2.2.2.2.2).bind fun bt1059 => ((spec_DrawSublatticesOf.f k l0).bind fun t1064 => ((impl_SublatticesOf.f k t1064).bind fun bt1065 => ((spec_SublatticesOf.f k t1064).bind fun bt1069 => (if bt1044.2.2.2 = bt1049.2.2.2 then (if (!(bt1044.1 == bt1049.1) || (!(bt1044.2.1 == bt1049.2.1) || (!(bt1044.2.2.1 == bt1049.2.2.1)))) = true then (laws_FnJoins.j0 k bt1044.2.2.2 bt1054.2.2.2 t1064 bt1065.1 bt1065.2 true bt1036.1 bt1036.2.1 bt1036.2.2.1 bt1036.2.2.2.1 bt1036.2.2.2.2.1 bt1036.2.2.2.2.2 bt1044.1 bt1044.2.1 bt1044.2.2.1 bt1054.1 bt1054.2.1 bt1054.2.2.1) else (if bt1054.2.2.2 = bt1059.2.2.2 then (if (!(bt1054.1 == bt1059.1) || (!(bt1054.2.1 == bt1059.2.1) || (!(bt1054.2.2.1 == bt1059.2.2.1)))) = true then (laws_FnJoins.j0 k bt1044.2.2.2 bt1054.2.2.2 t1064 bt1065.1 bt1065.2 true bt1036.1 bt1036.2.1 bt1036.2.2.1 bt1036.2.2.2.1 bt1036.2.2.2.2.1 bt1036.2.2.2.2.2 bt1044.1 bt1044.2.1 bt1044.2.2.1 bt1054.1 bt1054.2.1 bt1054.2.2.1) else (if bt1065.2 = bt1069.2 then ((laws_likeLattices9.f k bt1065.1 bt1069.1).bind fun t1073 => (laws_FnJoins.j0 k bt1044.2.2.2 bt1054.2.2.2 t1064 bt1065.1 bt1065.2 (!t1073) bt1036.1 bt1036.2.1 bt1036.2.2.1 bt1036.2.2.2.1 bt1036.2.2.2.2.1 bt1036.2.2.2.2.2 bt1044.1 bt1044.2.1 bt1044.2.2.1 bt1054.1 bt1054.2.1 bt1054.2.2.1)) else (laws_FnJoins.j0 k bt1044.2.2.2 bt1054.2.2.2 t1064 bt1065.1 bt1065.2 true bt1036.1 bt1036.2.1 bt1036.2.2.1 bt1036.2.2.2.1 bt1036.2.2.2.2.1 bt1036.2.2.2.2.2 bt1044.1 bt1044.2.1 bt1044.2.2.1 bt1054.1 bt1054.2.1 bt1054.2.2.1))) else (laws_FnJoins.j0 k bt1044.2.2.2 bt1054.2.2.2 t1064 bt1065.1 bt1065.2 true bt1036.1 bt1036.2.1 bt1036.2.2.1 bt1036.2.2.2.1 bt1036.2.2.2.2.1 bt1036.2.2.2.2.2 bt1044.1 bt1044.2.1 bt1044.2.2.1 bt1054.1 bt1054.2.1 bt1054.2.2.1))) else (laws_FnJoins.j0 k bt1044.2.2.2 bt1054.2.2.2 t1064 bt1065.1 bt1065.2 true bt1036.1 bt1036.2.1 bt1036.2.2.1 bt1036.2.2.2.1 bt1036.2.2.2.2.1 bt1036.2.2.2.2.2 bt1044.1 bt1044.2.1 bt1044.2.2.1 bt1054.1 bt1054.2.1 bt1054.2.2.1)))))))))) = some true := by rw [if_neg (show ¬ (false = true) by decide)] at H; exact H
    clear H
    have H := H1
    clear H1
    replace H := Option.bind_eq_some_iff.mp H
    obtain ⟨⟨t1036, t1037, t1038, t1039, t1040, t1041⟩, A40, H⟩ := H
    replace H : ((impl_JoinLattices.f k t1036 t1037 t1038 t1039 t1040 t1041).bind fun bt1044 => ((spec_JoinLattices.f k t1036 t1037 t1038 t1039 t1040 t1041).bind fun bt1049 => ((impl_MeetLattices.f k t1036 t1037 t1038 t1039 t1040 t1041).bind fun bt1054 => ((spec_MeetLattices.f k t1036 t1037 t1038 t1039 t1040 t1041).bind fun bt1059 => ((spec_DrawSublatticesOf.f k l0).bind fun t1064 => ((impl_SublatticesOf.f k t1064).bind fun bt1065 => ((spec_SublatticesOf.f k t1064).bind fun bt1069 => (if bt1044.2.2.2 = bt1049.2.2.2 then (if (!(bt1044.1 == bt1049.1) || (!(bt1044.2.1 == bt1049.2.1) || (!(bt1044.2.2.1 == bt1049.2.2.1)))) = true then (laws_FnJoins.j0 k bt1044.2.2.2 bt1054.2.2.2 t1064 bt1065.1 bt1065.2 true t1036 t1037 t1038 t1039 t1040 t1041 bt1044.1 bt1044.2.1 bt1044.2.2.1 bt1054.1 bt1054.2.1 bt1054.2.2.1) else (if bt1054.2.2.2 = bt1059.2.2.2 then (if (!(bt1054.1 == bt1059.1) || (!(bt1054.2.1 == bt1059.2.1) || (!(bt1054.2.2.1 == bt1059.2.2.1)))) = true then (laws_FnJoins.j0 k bt1044.2.2.2 bt1054.2.2.2 t1064 bt1065.1 bt1065.2 true t1036 t1037 t1038 t1039 t1040 t1041 bt1044.1 bt1044.2.1 bt1044.2.2.1 bt1054.1 bt1054.2.1 bt1054.2.2.1) else (if bt1065.2 = bt1069.2 then ((laws_likeLattices9.f k bt1065.1 bt1069.1).bind fun t1073 => (laws_FnJoins.j0 k bt1044.2.2.2 bt1054.2.2.2 t1064 bt1065.1 bt1065.2 (!t1073) t1036 t1037 t1038 t1039 t1040 t1041 bt1044.1 bt1044.2.1 bt1044.2.2.1 bt1054.1 bt1054.2.1 bt1054.2.2.1)) else (laws_FnJoins.j0 k bt1044.2.2.2 bt1054.2.2.2 t1064 bt1065.1 bt1065.2 true t1036 t1037 t1038 t1039 t1040 t1041 bt1044.1 bt1044.2.1 bt1044.2.2.1 bt1054.1 bt1054.2.1 bt1054.2.2.1))) else (laws_FnJoins.j0 k bt1044.2.2.2 bt1054.2.2.2 t1064 bt1065.1 bt1065.2 true t1036 t1037 t1038 t1039 t1040 t1041 bt1044.1 bt1044.2.1 bt1044.2.2.1 bt1054.1 bt1054.2.1 bt1054.2.2.1))) else (laws_FnJoins.j0 k bt1044.2.2.2 bt1054.2.2.2 t1064 bt1065.1 bt1065.2 true t1036 t1037 t1038 t1039 t1040 t1041 bt1044.1 bt1044.2.1 bt1044.2.2.1 bt1054.1 bt1054.2.1 bt1054.2.2.1))))))))) = some true := H
    have A4 := Aside0.mk A40
    clear A40
    replace H := Option.bind_eq_some_iff.mp H
    obtain ⟨⟨t1044, t1045, t1046, t1047⟩, A50, H⟩ := H
    replace H : ((spec_JoinLattices.f k t1036 t1037 t1038 t1039 t1040 t1041).bind fun bt1049 => ((impl_MeetLattices.f k t1036 t1037 t1038 t1039 t1040 t1041).bind fun bt1054 => ((spec_MeetLattices.f k t1036 t1037 t1038 t1039 t1040 t1041).bind fun bt1059 => ((spec_DrawSublatticesOf.f k l0).bind fun t1064 => ((impl_SublatticesOf.f k t1064).bind fun bt1065 => ((spec_SublatticesOf.f k t1064).bind fun bt1069 => (if t1047 = bt1049.2.2.2 then (if (!(t1044 == bt1049.1) || (!(t1045 == bt1049.2.1) || (!(t1046 == bt1049.2.2.1)))) = true then (laws_FnJoins.j0 k t1047 bt1054.2.2.2 t1064 bt1065.1 bt1065.2 true t1036 t1037 t1038 t1039 t1040 t1041 t1044 t1045 t1046 bt1054.1 bt1054.2.1 bt1054.2.2.1) else (if bt1054.2.2.2 = bt1059.2.2.2 then (if (!(bt1054.1 == bt1059.1) || (!(bt1054.2.1 == bt1059.2.1) || (!(bt1054.2.2.1 == bt1059.2.2.1)))) = true then (laws_FnJoins.j0 k t1047 bt1054.2.2.2 t1064 bt1065.1 bt1065.2 true t1036 t1037 t1038 t1039 t1040 t1041 t1044 t1045 t1046 bt1054.1 bt1054.2.1 bt1054.2.2.1) else (if bt1065.2 = bt1069.2 then ((laws_likeLattices9.f k bt1065.1 bt1069.1).bind fun t1073 => (laws_FnJoins.j0 k t1047 bt1054.2.2.2 t1064 bt1065.1 bt1065.2 (!t1073) t1036 t1037 t1038 t1039 t1040 t1041 t1044 t1045 t1046 bt1054.1 bt1054.2.1 bt1054.2.2.1)) else (laws_FnJoins.j0 k t1047 bt1054.2.2.2 t1064 bt1065.1 bt1065.2 true t1036 t1037 t1038 t1039 t1040 t1041 t1044 t1045 t1046 bt1054.1 bt1054.2.1 bt1054.2.2.1))) else (laws_FnJoins.j0 k t1047 bt1054.2.2.2 t1064 bt1065.1 bt1065.2 true t1036 t1037 t1038 t1039 t1040 t1041 t1044 t1045 t1046 bt1054.1 bt1054.2.1 bt1054.2.2.1))) else (laws_FnJoins.j0 k t1047 bt1054.2.2.2 t1064 bt1065.1 bt1065.2 true t1036 t1037 t1038 t1039 t1040 t1041 t1044 t1045 t1046 bt1054.1 bt1054.2.1 bt1054.2.2.1)))))))) = some true := H
    have A5 := Aside0.mk A50
    clear A50
    replace H := Option.bind_eq_some_iff.mp H
    obtain ⟨⟨t1049, t1050, t1051, t1052⟩, A60, H⟩ := H
    replace H : ((impl_MeetLattices.f k t1036 t1037 t1038 t1039 t1040 t1041).bind fun bt1054 => ((spec_MeetLattices.f k t1036 t1037 t1038 t1039 t1040 t1041).bind fun bt1059 => ((spec_DrawSublatticesOf.f k l0).bind fun t1064 => ((impl_SublatticesOf.f k t1064).bind fun bt1065 => ((spec_SublatticesOf.f k t1064).bind fun bt1069 => (if t1047 = t1052 then (if (!(t1044 == t1049) || (!(t1045 == t1050) || (!(t1046 == t1051)))) = true then (laws_FnJoins.j0 k t1047 bt1054.2.2.2 t1064 bt1065.1 bt1065.2 true t1036 t1037 t1038 t1039 t1040 t1041 t1044 t1045 t1046 bt1054.1 bt1054.2.1 bt1054.2.2.1) else (if bt1054.2.2.2 = bt1059.2.2.2 then (if (!(bt1054.1 == bt1059.1) || (!(bt1054.2.1 == bt1059.2.1) || (!(bt1054.2.2.1 == bt1059.2.2.1)))) = true then (laws_FnJoins.j0 k t1047 bt1054.2.2.2 t1064 bt1065.1 bt1065.2 true t1036 t1037 t1038 t1039 t1040 t1041 t1044 t1045 t1046 bt1054.1 bt1054.2.1 bt1054.2.2.1) else (if bt1065.2 = bt1069.2 then ((laws_likeLattices9.f k bt1065.1 bt1069.1).bind fun t1073 => (laws_FnJoins.j0 k t1047 bt1054.2.2.2 t1064 bt1065.1 bt1065.2 (!t1073) t1036 t1037 t1038 t1039 t1040 t1041 t1044 t1045 t1046 bt1054.1 bt1054.2.1 bt1054.2.2.1)) else (laws_FnJoins.j0 k t1047 bt1054.2.2.2 t1064 bt1065.1 bt1065.2 true t1036 t1037 t1038 t1039 t1040 t1041 t1044 t1045 t1046 bt1054.1 bt1054.2.1 bt1054.2.2.1))) else (laws_FnJoins.j0 k t1047 bt1054.2.2.2 t1064 bt1065.1 bt1065.2 true t1036 t1037 t1038 t1039 t1040 t1041 t1044 t1045 t1046 bt1054.1 bt1054.2.1 bt1054.2.2.1))) else (laws_FnJoins.j0 k t1047 bt1054.2.2.2 t1064 bt1065.1 bt1065.2 true t1036 t1037 t1038 t1039 t1040 t1041 t1044 t1045 t1046 bt1054.1 bt1054.2.1 bt1054.2.2.1))))))) = some true := H
    have A6 := Aside0.mk A60
    clear A60
    replace H := Option.bind_eq_some_iff.mp H
    obtain ⟨⟨t1054, t1055, t1056, t1057⟩, A70, H⟩ := H
    replace H : ((spec_MeetLattices.f k t1036 t1037 t1038 t1039 t1040 t1041).bind fun bt1059 => ((spec_DrawSublatticesOf.f k l0).bind fun t1064 => ((impl_SublatticesOf.f k t1064).bind fun bt1065 => ((spec_SublatticesOf.f k t1064).bind fun bt1069 => (if t1047 = t1052 then (if (!(t1044 == t1049) || (!(t1045 == t1050) || (!(t1046 == t1051)))) = true then (laws_FnJoins.j0 k t1047 t1057 t1064 bt1065.1 bt1065.2 true t1036 t1037 t1038 t1039 t1040 t1041 t1044 t1045 t1046 t1054 t1055 t1056) else (if t1057 = bt1059.2.2.2 then (if (!(t1054 == bt1059.1) || (!(t1055 == bt1059.2.1) || (!(t1056 == bt1059.2.2.1)))) = true then (laws_FnJoins.j0 k t1047 t1057 t1064 bt1065.1 bt1065.2 true t1036 t1037 t1038 t1039 t1040 t1041 t1044 t1045 t1046 t1054 t1055 t1056) else (if bt1065.2 = bt1069.2 then ((laws_likeLattices9.f k bt1065.1 bt1069.1).bind fun t1073 => (laws_FnJoins.j0 k t1047 t1057 t1064 bt1065.1 bt1065.2 (!t1073) t1036 t1037 t1038 t1039 t1040 t1041 t1044 t1045 t1046 t1054 t1055 t1056)) else (laws_FnJoins.j0 k t1047 t1057 t1064 bt1065.1 bt1065.2 true t1036 t1037 t1038 t1039 t1040 t1041 t1044 t1045 t1046 t1054 t1055 t1056))) else (laws_FnJoins.j0 k t1047 t1057 t1064 bt1065.1 bt1065.2 true t1036 t1037 t1038 t1039 t1040 t1041 t1044 t1045 t1046 t1054 t1055 t1056))) else (laws_FnJoins.j0 k t1047 t1057 t1064 bt1065.1 bt1065.2 true t1036 t1037 t1038 t1039 t1040 t1041 t1044 t1045 t1046 t1054 t1055 t1056)))))) = some true := H
    have A7 := Aside0.mk A70
    clear A70
    replace H := Option.bind_eq_some_iff.mp H
    obtain ⟨⟨t1059, t1060, t1061, t1062⟩, A80, H⟩ := H
    replace H : ((spec_DrawSublatticesOf.f k l0).bind fun t1064 => ((impl_SublatticesOf.f k t1064).bind fun bt1065 => ((spec_SublatticesOf.f k t1064).bind fun bt1069 => (if t1047 = t1052 then (if (!(t1044 == t1049) || (!(t1045 == t1050) || (!(t1046 == t1051)))) = true then (laws_FnJoins.j0 k t1047 t1057 t1064 bt1065.1 bt1065.2 true t1036 t1037 t1038 t1039 t1040 t1041 t1044 t1045 t1046 t1054 t1055 t1056) else (if t1057 = t1062 then (if (!(t1054 == t1059) || (!(t1055 == t1060) || (!(t1056 == t1061)))) = true then (laws_FnJoins.j0 k t1047 t1057 t1064 bt1065.1 bt1065.2 true t1036 t1037 t1038 t1039 t1040 t1041 t1044 t1045 t1046 t1054 t1055 t1056) else (if bt1065.2 = bt1069.2 then ((laws_likeLattices9.f k bt1065.1 bt1069.1).bind fun t1073 => (laws_FnJoins.j0 k t1047 t1057 t1064 bt1065.1 bt1065.2 (!t1073) t1036 t1037 t1038 t1039 t1040 t1041 t1044 t1045 t1046 t1054 t1055 t1056)) else (laws_FnJoins.j0 k t1047 t1057 t1064 bt1065.1 bt1065.2 true t1036 t1037 t1038 t1039 t1040 t1041 t1044 t1045 t1046 t1054 t1055 t1056))) else (laws_FnJoins.j0 k t1047 t1057 t1064 bt1065.1 bt1065.2 true t1036 t1037 t1038 t1039 t1040 t1041 t1044 t1045 t1046 t1054 t1055 t1056))) else (laws_FnJoins.j0 k t1047 t1057 t1064 bt1065.1 bt1065.2 true t1036 t1037 t1038 t1039 t1040 t1041 t1044 t1045 t1046 t1054 t1055 t1056))))) = some true := H
    have A8 := Aside0.mk A80
    clear A80
    replace H := Option.bind_eq_some_iff.mp H
    obtain ⟨t1064, A90, H⟩ := H
    replace H : ((impl_SublatticesOf.f k t1064).bind fun bt1065 => ((spec_SublatticesOf.f k t1064).bind fun bt1069 => (if t1047 = t1052 then (if (!(t1044 == t1049) || (!(t1045 == t1050) || (!(t1046 == t1051)))) = true then (laws_FnJoins.j0 k t1047 t1057 t1064 bt1065.1 bt1065.2 true t1036 t1037 t1038 t1039 t1040 t1041 t1044 t1045 t1046 t1054 t1055 t1056) else (if t1057 = t1062 then (if (!(t1054 == t1059) || (!(t1055 == t1060) || (!(t1056 == t1061)))) = true then (laws_FnJoins.j0 k t1047 t1057 t1064 bt1065.1 bt1065.2 true t1036 t1037 t1038 t1039 t1040 t1041 t1044 t1045 t1046 t1054 t1055 t1056) else (if bt1065.2 = bt1069.2 then ((laws_likeLattices9.f k bt1065.1 bt1069.1).bind fun t1073 => (laws_FnJoins.j0 k t1047 t1057 t1064 bt1065.1 bt1065.2 (!t1073) t1036 t1037 t1038 t1039 t1040 t1041 t1044 t1045 t1046 t1054 t1055 t1056)) else (laws_FnJoins.j0 k t1047 t1057 t1064 bt1065.1 bt1065.2 true t1036 t1037 t1038 t1039 t1040 t1041 t1044 t1045 t1046 t1054 t1055 t1056))) else (laws_FnJoins.j0 k t1047 t1057 t1064 bt1065.1 bt1065.2 true t1036 t1037 t1038 t1039 t1040 t1041 t1044 t1045 t1046 t1054 t1055 t1056))) else (laws_FnJoins.j0 k t1047 t1057 t1064 bt1065.1 bt1065.2 true t1036 t1037 t1038 t1039 t1040 t1041 t1044 t1045 t1046 t1054 t1055 t1056)))) = some true := H
    have A9 := Aside0.mk A90
    clear A90
    replace H := Option.bind_eq_some_iff.mp H
    obtain ⟨⟨t1065, t1066⟩, A100, H⟩ := H
    replace H : ((spec_SublatticesOf.f k t1064).bind fun bt1069 => (if t1047 = t1052 then (if (!(t1044 == t1049) || (!(t1045 == t1050) || (!(t1046 == t1051)))) = true then (laws_FnJoins.j0 k t1047 t1057 t1064 t1065 t1066 true t1036 t1037 t1038 t1039 t1040 t1041 t1044 t1045 t1046 t1054 t1055 t1056) else (if t1057 = t1062 then (if (!(t1054 == t1059) || (!(t1055 == t1060) || (!(t1056 == t1061)))) = true then (laws_FnJoins.j0 k t1047 t1057 t1064 t1065 t1066 true t1036 t1037 t1038 t1039 t1040 t1041 t1044 t1045 t1046 t1054 t1055 t1056) else (if t1066 = bt1069.2 then ((laws_likeLattices9.f k t1065 bt1069.1).bind fun t1073 => (laws_FnJoins.j0 k t1047 t1057 t1064 t1065 t1066 (!t1073) t1036 t1037 t1038 t1039 t1040 t1041 t1044 t1045 t1046 t1054 t1055 t1056)) else (laws_FnJoins.j0 k t1047 t1057 t1064 t1065 t1066 true t1036 t1037 t1038 t1039 t1040 t1041 t1044 t1045 t1046 t1054 t1055 t1056))) else (laws_FnJoins.j0 k t1047 t1057 t1064 t1065 t1066 true t1036 t1037 t1038 t1039 t1040 t1041 t1044 t1045 t1046 t1054 t1055 t1056))) else (laws_FnJoins.j0 k t1047 t1057 t1064 t1065 t1066 true t1036 t1037 t1038 t1039 t1040 t1041 t1044 t1045 t1046 t1054 t1055 t1056))) = some true := H
    have A10 := Aside0.mk A100
    clear A100
    replace H := Option.bind_eq_some_iff.mp H
    obtain ⟨⟨t1069, t1070⟩, A110, H⟩ := H
    replace H : (if t1047 = t1052 then (if (!(t1044 == t1049) || (!(t1045 == t1050) || (!(t1046 == t1051)))) = true then (laws_FnJoins.j0 k t1047 t1057 t1064 t1065 t1066 true t1036 t1037 t1038 t1039 t1040 t1041 t1044 t1045 t1046 t1054 t1055 t1056) else (if t1057 = t1062 then (if (!(t1054 == t1059) || (!(t1055 == t1060) || (!(t1056 == t1061)))) = true then (laws_FnJoins.j0 k t1047 t1057 t1064 t1065 t1066 true t1036 t1037 t1038 t1039 t1040 t1041 t1044 t1045 t1046 t1054 t1055 t1056) else (if t1066 = t1070 then ((laws_likeLattices9.f k t1065 t1069).bind fun t1073 => (laws_FnJoins.j0 k t1047 t1057 t1064 t1065 t1066 (!t1073) t1036 t1037 t1038 t1039 t1040 t1041 t1044 t1045 t1046 t1054 t1055 t1056)) else (laws_FnJoins.j0 k t1047 t1057 t1064 t1065 t1066 true t1036 t1037 t1038 t1039 t1040 t1041 t1044 t1045 t1046 t1054 t1055 t1056))) else (laws_FnJoins.j0 k t1047 t1057 t1064 t1065 t1066 true t1036 t1037 t1038 t1039 t1040 t1041 t1044 t1045 t1046 t1054 t1055 t1056))) else (laws_FnJoins.j0 k t1047 t1057 t1064 t1065 t1066 true t1036 t1037 t1038 t1039 t1040 t1041 t1044 t1045 t1046 t1054 t1055 t1056)) = some true := H
    have A11 := Aside0.mk A110
    clear A110
    have HC12 := Aside0.mk H
    clear H
    go_enter Try.func8, Try.ntmps8
    go_upto_region 11 with (first | ((with_reducible refine gate_callee (f := 14) rfl ?_); refine goesL_ (some 21) rfl rfl Try.func14 (by kernel_rfl) rfl #[.slice A0 l0.length c0] rfl (by (try simp only [List.map_toArray, List.map_cons, List.map_nil]); first | done | rfl | (simp only [List.length_drop, List.length_take]; rfl)) ?_; (with_reducible refine (laws_big.calls _ _ l0 false _ ?side1 ?side2 A2.out).mono ?_); (case side1 => repeat (first | exact HR0.out | (with_reducible refine Kd.C_alloc ?_ _) | (with_reducible refine Kd.C_drewN ?_ _) | (with_reducible refine Kd.C_drew ?_))); (case side2 => exact HC0.out); rintro e w' ⟨rfl, ⟨nd, rfl⟩⟩; refine ⟨_, rfl, ?_⟩) | ((with_reducible refine gate_callee (f := 62) rfl ?_); refine goesL_ (some 24) rfl rfl Try.func62 (by kernel_rfl) rfl #[.slice A0 l0.length c0] rfl (by (try simp only [List.map_toArray, List.map_cons, List.map_nil]); first | done | rfl | (simp only [List.length_drop, List.length_take]; rfl)) ?_; (with_reducible refine (spec_DrawMeetLattices.calls k _ _ l0 t1036 t1037 t1038 t1039 t1040 t1041 _ ?side1 ?side2 A4.out).mono ?_); (case side1 => repeat (first | exact HR0.out | (with_reducible refine Kd.C_alloc ?_ _) | (with_reducible refine Kd.C_drewN ?_ _) | (with_reducible refine Kd.C_drew ?_))); (case side2 => exact HC0.out); rintro e w13 ⟨rfl, hb⟩; refine ⟨_, rfl, ?_⟩; have n0_ := Aside0.mk (below_step (by repeat (first | (with_reducible first | exact HB.out | apply below_alloc | apply pw_below_drewN | apply below_drew1) | exact HB.out)) hb); clear HB; have HB := n0_; clear n0_; (try clear hb); (try clear hb2); (try clear hk); (try clear hi)) | ((with_reducible refine gate_dst (N := 3) rfl ?_); refine box_event ?hg (N := 3) ?hd (cs := #[.int .i64 0, .int .i64 0, .int .i64 0]) (t := 66) ?hr ?_; (case hd => rfl); (case hg => rfl); (case hr => first | (go_simp; done) | (go_simp; rfl)); intro gb1042 hg w14 hbox hb; have n0_ := Aside0.mk (below_step (by repeat (first | (with_reducible first | exact HB.out | apply below_alloc | apply pw_below_drewN | apply below_drew1) | exact HB.out)) hb); have n1_ := Aside0.mk (hbox); have n2_ := Aside0.mk ((by rw [hg]; exact (below_size (by repeat (first | (with_reducible first | exact HB.out | apply below_alloc | apply pw_below_drewN | apply below_drew1) | exact HB.out))) : w.heap.size ≤ gb1042)); have n3_ := Aside0.mk ((by rw [hg]; exact (below_size (by repeat (first | (with_reducible first | exact HB.out | apply below_alloc | apply pw_below_drewN | apply below_drew1) | exact HB.out))) : w.heap.size ≤ gb1042)); clear HB; have HB := n0_; have BK1042 := n1_; have GW1042 := n2_; have GE1042 := n3_; clear n0_ n1_ n2_ n3_; clear hb hbox hg) | ((with_reducible refine gate_dst (N := 4) rfl ?_); refine box_event ?hg (N := 4) ?hd (cs := #[.int .i64 0, .int .i64 0, .int .i64 0]) (t := 66) ?hr ?_; (case hd => rfl); (case hg => rfl); (case hr => first | (go_simp; done) | (go_simp; rfl)); intro gb1043 hg w15 hbox hb; have n0_ := Aside0.mk (blk_below (g := gb1042) (o := .cells #[.int .i64 0, .int .i64 0, .int .i64 0] 66 (0, 0)) (by (with_reducible repeat (first | refine blk_drewN ?_ _ | refine blk_drew ?_ | refine blk_alloc ?_ _)); exact BK1042.out) hb); have n1_ := Aside0.mk (below_step (by repeat (first | (with_reducible first | exact HB.out | apply below_alloc | apply pw_below_drewN | apply below_drew1 | refine below_set ?_ GE1042.out) | exact HB.out)) hb); have n2_ := Aside0.mk (hbox); have n3_ := Aside0.mk ((by rw [hg]; exact (below_size (by repeat (first | (with_reducible first | exact HB.out | apply below_alloc | apply pw_below_drewN | apply below_drew1 | refine below_set ?_ GE1042.out) | exact HB.out))) : w.heap.size ≤ gb1043)); have n4_ := Aside0.mk ((by rw [hg]; exact (below_size (by repeat (first | (with_reducible first | exact HB.out | apply below_alloc | apply pw_below_drewN | apply below_drew1 | refine below_set ?_ GE1042.out) | exact HB.out))) : w.heap.size ≤ gb1043)); have n5_ := Aside0.mk ((by rw [hg]; exact Nat.ne_of_lt (blk_lt (g := gb1042) (o := .cells #[.int .i64 0, .int .i64 0, .int .i64 0] 66 (0, 0)) (by (with_reducible repeat (first | refine blk_drewN ?_ _ | refine blk_drew ?_ | refine blk_alloc ?_ _)); exact BK1042.out)) : gb1042 ≠ gb1043)); have n6_ := Aside0.mk ((by rw [hg]; exact Nat.ne_of_gt (blk_lt (g := gb1042) (o := .cells #[.int .i64 0, .int .i64 0, .int .i64 0] 66 (0, 0)) (by (with_reducible repeat (first | refine blk_drewN ?_ _ | refine blk_drew ?_ | refine blk_alloc ?_ _)); exact BK1042.out)) : gb1043 ≠ gb1042)); clear BK1042; clear HB; have BK1042 := n0_; have HB := n1_; have BK1043 := n2_; have GW1043 := n3_; have GE1043 := n4_; have NB1042_1043 := n5_; have NB1043_1042 := n6_; clear n0_ n1_ n2_ n3_ n4_ n5_ n6_; clear hb hbox hg; have hnb16 := NB1042_1043.out; have hnc16 := NB1043_1042.out; have hcz17_0 : w15.cell? ⟨gb1042, 0, none⟩ = some (.int .i64 0) := (blk_cell BK1042.out 0).trans rfl; have hcz17_1 : w15.cell? ⟨gb1042, 1, none⟩ = some (.int .i64 0) := (blk_cell BK1042.out 1).trans rfl; have hcz17_2 : w15.cell? ⟨gb1042, 2, none⟩ = some (.int .i64 0) := (blk_cell BK1042.out 2).trans rfl; have hfz17_0 := blk_frozen BK1042.out 0; have hfz17_1 := blk_frozen BK1042.out 1; have hfz17_2 := blk_frozen BK1042.out 2; have hcz18_0 : w15.cell? ⟨gb1043, 0, none⟩ = some (.int .i64 0) := (blk_cell BK1043.out 0).trans rfl; have hcz18_1 : w15.cell? ⟨gb1043, 1, none⟩ = some (.int .i64 0) := (blk_cell BK1043.out 1).trans rfl; have hcz18_2 : w15.cell? ⟨gb1043, 2, none⟩ = some (.int .i64 0) := (blk_cell BK1043.out 2).trans rfl; have hfz18_0 := blk_frozen BK1043.out 0; have hfz18_1 := blk_frozen BK1043.out 1; have hfz18_2 := blk_frozen BK1043.out 2) | ((with_reducible refine gate_callee (f := 63) rfl ?_); refine goesL_ (some 30) rfl rfl Try.func63 (by kernel_rfl) rfl #[.agg #[.int .i64 t1036, .int .i64 t1037, .int .i64 t1038], .agg #[.int .i64 t1039, .int .i64 t1040, .int .i64 t1041]] rfl (by (try simp only [List.map_toArray, List.map_cons, List.map_nil]); first | done | rfl | (simp only [List.length_drop, List.length_take]; rfl)) ?_; (with_reducible refine (impl_JoinLattices.calls k t1036 t1037 t1038 t1039 t1040 t1041 t1044 t1045 t1046 t1047 _ A5.out).mono ?_); rintro e w19 ⟨rfl, hb⟩; refine ⟨_, rfl, ?_⟩; have n0_ := Aside0.mk (blk_below (g := gb1042) (o := .cells #[.int .i64 t1036, .int .i64 t1037, .int .i64 t1038] 66 (0, 0)) (by (with_reducible repeat (first | refine blk_drewN ?_ _ | refine blk_drew ?_ | refine blk_alloc ?_ _)); refine blk_far ?_ NB1042_1043.out _; (with_reducible repeat (first | refine blk_drewN ?_ _ | refine blk_drew ?_ | refine blk_alloc ?_ _)); refine blk_far ?_ NB1042_1043.out _; (with_reducible repeat (first | refine blk_drewN ?_ _ | refine blk_drew ?_ | refine blk_alloc ?_ _)); refine blk_far ?_ NB1042_1043.out _; (with_reducible repeat (first | refine blk_drewN ?_ _ | refine blk_drew ?_ | refine blk_alloc ?_ _)); refine blk_put (cs := #[.int .i64 t1036, .int .i64 t1037, .int .i64 0]) ?_ 2 _ rfl; (with_reducible repeat (first | refine blk_drewN ?_ _ | refine blk_drew ?_ | refine blk_alloc ?_ _)); refine blk_put (cs := #[.int .i64 t1036, .int .i64 0, .int .i64 0]) ?_ 1 _ rfl; (with_reducible repeat (first | refine blk_drewN ?_ _ | refine blk_drew ?_ | refine blk_alloc ?_ _)); refine blk_put (cs := #[.int .i64 0, .int .i64 0, .int .i64 0]) ?_ 0 _ rfl; (with_reducible repeat (first | refine blk_drewN ?_ _ | refine blk_drew ?_ | refine blk_alloc ?_ _)); exact BK1042.out) hb); have n1_ := Aside0.mk (blk_below (g := gb1043) (o := .cells #[.int .i64 t1039, .int .i64 t1040, .int .i64 t1041] 66 (0, 0)) (by (with_reducible repeat (first | refine blk_drewN ?_ _ | refine blk_drew ?_ | refine blk_alloc ?_ _)); refine blk_put (cs := #[.int .i64 t1039, .int .i64 t1040, .int .i64 0]) ?_ 2 _ rfl; (with_reducible repeat (first | refine blk_drewN ?_ _ | refine blk_drew ?_ | refine blk_alloc ?_ _)); refine blk_put (cs := #[.int .i64 t1039, .int .i64 0, .int .i64 0]) ?_ 1 _ rfl; (with_reducible repeat (first | refine blk_drewN ?_ _ | refine blk_drew ?_ | refine blk_alloc ?_ _)); refine blk_put (cs := #[.int .i64 0, .int .i64 0, .int .i64 0]) ?_ 0 _ rfl; (with_reducible repeat (first | refine blk_drewN ?_ _ | refine blk_drew ?_ | refine blk_alloc ?_ _)); refine blk_far ?_ NB1043_1042.out _; (with_reducible repeat (first | refine blk_drewN ?_ _ | refine blk_drew ?_ | refine blk_alloc ?_ _)); refine blk_far ?_ NB1043_1042.out _; (with_reducible repeat (first | refine blk_drewN ?_ _ | refine blk_drew ?_ | refine blk_alloc ?_ _)); refine blk_far ?_ NB1043_1042.out _; (with_reducible repeat (first | refine blk_drewN ?_ _ | refine blk_drew ?_ | refine blk_alloc ?_ _)); exact BK1043.out) hb); have n2_ := Aside0.mk (below_step (by repeat (first | (with_reducible first | exact HB.out | apply below_alloc | apply pw_below_drewN | apply below_drew1 | refine below_set ?_ GE1042.out | refine below_set ?_ GE1043.out) | exact HB.out)) hb); clear BK1042; clear BK1043; clear HB; have BK1042 := n0_; have BK1043 := n1_; have HB := n2_; clear n0_ n1_ n2_; (try clear hb); (try clear hb2); (try clear hk); (try clear hi)) | ((with_reducible refine gate_dst (N := 5) rfl ?_); refine box_event ?hg (N := 5) ?hd (cs := #[.int .i64 0, .int .i64 0, .int .i64 0]) (t := 66) ?hr ?_; (case hd => rfl); (case hg => rfl); (case hr => first | (go_simp; done) | (go_simp; rfl)); intro gb1048 hg w20 hbox hb; have n0_ := Aside0.mk (blk_below (g := gb1042) (o := .cells #[.int .i64 t1036, .int .i64 t1037, .int .i64 t1038] 66 (0, 0)) (by (with_reducible repeat (first | refine blk_drewN ?_ _ | refine blk_drew ?_ | refine blk_alloc ?_ _)); exact BK1042.out) hb); have n1_ := Aside0.mk (blk_below (g := gb1043) (o := .cells #[.int .i64 t1039, .int .i64 t1040, .int .i64 t1041] 66 (0, 0)) (by (with_reducible repeat (first | refine blk_drewN ?_ _ | refine blk_drew ?_ | refine blk_alloc ?_ _)); exact BK1043.out) hb); have n2_ := Aside0.mk (below_step (by repeat (first | (with_reducible first | exact HB.out | apply below_alloc | apply pw_below_drewN | apply below_drew1 | refine below_set ?_ GE1042.out | refine below_set ?_ GE1043.out) | exact HB.out)) hb); have n3_ := Aside0.mk (hbox); have n4_ := Aside0.mk ((by rw [hg]; exact (below_size (by repeat (first | (with_reducible first | exact HB.out | apply below_alloc | apply pw_below_drewN | apply below_drew1 | refine below_set ?_ GE1042.out | refine below_set ?_ GE1043.out) | exact HB.out))) : w.heap.size ≤ gb1048)); have n5_ := Aside0.mk ((by rw [hg]; exact (below_size (by repeat (first | (with_reducible first | exact HB.out | apply below_alloc | apply pw_below_drewN | apply below_drew1 | refine below_set ?_ GE1042.out | refine below_set ?_ GE1043.out) | exact HB.out))) : w.heap.size ≤ gb1048)); have n6_ := Aside0.mk ((by rw [hg]; exact Nat.ne_of_lt (blk_lt (g := gb1042) (o := .cells #[.int .i64 t1036, .int .i64 t1037, .int .i64 t1038] 66 (0, 0)) (by (with_reducible repeat (first | refine blk_drewN ?_ _ | refine blk_drew ?_ | refine blk_alloc ?_ _)); exact BK1042.out)) : gb1042 ≠ gb1048)); have n7_ := Aside0.mk ((by rw [hg]; exact Nat.ne_of_gt (blk_lt (g := gb1042) (o := .cells #[.int .i64 t1036, .int .i64 t1037, .int .i64 t1038] 66 (0, 0)) (by (with_reducible repeat (first | refine blk_drewN ?_ _ | refine blk_drew ?_ | refine blk_alloc ?_ _)); exact BK1042.out)) : gb1048 ≠ gb1042)); have n8_ := Aside0.mk ((by rw [hg]; exact Nat.ne_of_lt (blk_lt (g := gb1043) (o := .cells #[.int .i64 t1039, .int .i64 t1040, .int .i64 t1041] 66 (0, 0)) (by (with_reducible repeat (first | refine blk_drewN ?_ _ | refine blk_drew ?_ | refine blk_alloc ?_ _)); exact BK1043.out)) : gb1043 ≠ gb1048)); have n9_ := Aside0.mk ((by rw [hg]; exact Nat.ne_of_gt (blk_lt (g := gb1043) (o := .cells #[.int .i64 t1039, .int .i64 t1040, .int .i64 t1041] 66 (0, 0)) (by (with_reducible repeat (first | refine blk_drewN ?_ _ | refine blk_drew ?_ | refine blk_alloc ?_ _)); exact BK1043.out)) : gb1048 ≠ gb1043)); clear BK1042; clear BK1043; clear HB; have BK1042 := n0_; have BK1043 := n1_; have HB := n2_; have BK1048 := n3_; have GW1048 := n4_; have GE1048 := n5_; have NB1042_1048 := n6_; have NB1048_1042 := n7_; have NB1043_1048 := n8_; have NB1048_1043 := n9_; clear n0_ n1_ n2_ n3_ n4_ n5_ n6_ n7_ n8_ n9_; clear hb hbox hg; have hnb21 := NB1048_1042.out; have hnc21 := NB1042_1048.out; have hnb22 := NB1048_1043.out; have hnc22 := NB1043_1048.out; have hcz23_0 : w20.cell? ⟨gb1048, 0, none⟩ = some (.int .i64 0) := (blk_cell BK1048.out 0).trans rfl; have hcz23_1 : w20.cell? ⟨gb1048, 1, none⟩ = some (.int .i64 0) := (blk_cell BK1048.out 1).trans rfl; have hcz23_2 : w20.cell? ⟨gb1048, 2, none⟩ = some (.int .i64 0) := (blk_cell BK1048.out 2).trans rfl; have hfz23_0 := blk_frozen BK1048.out 0; have hfz23_1 := blk_frozen BK1048.out 1; have hfz23_2 := blk_frozen BK1048.out 2; have hcz24_0 : w20.cell? ⟨gb1042, 0, none⟩ = some (.int .i64 t1036) := (blk_cell BK1042.out 0).trans rfl; have hcz24_1 : w20.cell? ⟨gb1042, 1, none⟩ = some (.int .i64 t1037) := (blk_cell BK1042.out 1).trans rfl; have hcz24_2 : w20.cell? ⟨gb1042, 2, none⟩ = some (.int .i64 t1038) := (blk_cell BK1042.out 2).trans rfl; have hfz24_0 := blk_frozen BK1042.out 0; have hfz24_1 := blk_frozen BK1042.out 1; have hfz24_2 := blk_frozen BK1042.out 2; have hcz25_0 : w20.cell? ⟨gb1043, 0, none⟩ = some (.int .i64 t1039) := (blk_cell BK1043.out 0).trans rfl; have hcz25_1 : w20.cell? ⟨gb1043, 1, none⟩ = some (.int .i64 t1040) := (blk_cell BK1043.out 1).trans rfl; have hcz25_2 : w20.cell? ⟨gb1043, 2, none⟩ = some (.int .i64 t1041) := (blk_cell BK1043.out 2).trans rfl; have hfz25_0 := blk_frozen BK1043.out 0; have hfz25_1 := blk_frozen BK1043.out 1; have hfz25_2 := blk_frozen BK1043.out 2) | ((with_reducible refine gate_callee (f := 64) rfl ?_); refine goesL_ (some 36) rfl rfl Try.func64 (by kernel_rfl) rfl #[.agg #[.int .i64 t1036, .int .i64 t1037, .int .i64 t1038], .agg #[.int .i64 t1039, .int .i64 t1040, .int .i64 t1041]] rfl (by (try simp only [List.map_toArray, List.map_cons, List.map_nil]); first | done | rfl | (simp only [List.length_drop, List.length_take]; rfl)) ?_; (with_reducible refine (spec_JoinLattices.calls k t1036 t1037 t1038 t1039 t1040 t1041 t1049 t1050 t1051 t1052 _ A6.out).mono ?_); rintro e w26 ⟨rfl, hb⟩; refine ⟨_, rfl, ?_⟩; have n0_ := Aside0.mk (blk_below (g := gb1042) (o := .cells #[.int .i64 t1036, .int .i64 t1037, .int .i64 t1038] 66 (0, 0)) (by (with_reducible repeat (first | refine blk_drewN ?_ _ | refine blk_drew ?_ | refine blk_alloc ?_ _)); refine blk_far ?_ NB1042_1048.out _; (with_reducible repeat (first | refine blk_drewN ?_ _ | refine blk_drew ?_ | refine blk_alloc ?_ _)); refine blk_far ?_ NB1042_1048.out _; (with_reducible repeat (first | refine blk_drewN ?_ _ | refine blk_drew ?_ | refine blk_alloc ?_ _)); refine blk_far ?_ NB1042_1048.out _; (with_reducible repeat (first | refine blk_drewN ?_ _ | refine blk_drew ?_ | refine blk_alloc ?_ _)); exact BK1042.out) hb); have n1_ := Aside0.mk (blk_below (g := gb1043) (o := .cells #[.int .i64 t1039, .int .i64 t1040, .int .i64 t1041] 66 (0, 0)) (by (with_reducible repeat (first | refine blk_drewN ?_ _ | refine blk_drew ?_ | refine blk_alloc ?_ _)); refine blk_far ?_ NB1043_1048.out _; (with_reducible repeat (first | refine blk_drewN ?_ _ | refine blk_drew ?_ | refine blk_alloc ?_ _)); refine blk_far ?_ NB1043_1048.out _; (with_reducible repeat (first | refine blk_drewN ?_ _ | refine blk_drew ?_ | refine blk_alloc ?_ _)); refine blk_far ?_ NB1043_1048.out _; (with_reducible repeat (first | refine blk_drewN ?_ _ | refine blk_drew ?_ | refine blk_alloc ?_ _)); exact BK1043.out) hb); have n2_ := Aside0.mk (blk_below (g := gb1048) (o := .cells #[.int .i64 t1044, .int .i64 t1045, .int .i64 t1046] 66 (0, 0)) (by (with_reducible repeat (first | refine blk_drewN ?_ _ | refine blk_drew ?_ | refine blk_alloc ?_ _)); refine blk_put (cs := #[.int .i64 t1044, .int .i64 t1045, .int .i64 0]) ?_ 2 _ rfl; (with_reducible repeat (first | refine blk_drewN ?_ _ | refine blk_drew ?_ | refine blk_alloc ?_ _)); refine blk_put (cs := #[.int .i64 t1044, .int .i64 0, .int .i64 0]) ?_ 1 _ rfl; (with_reducible repeat (first | refine blk_drewN ?_ _ | refine blk_drew ?_ | refine blk_alloc ?_ _)); refine blk_put (cs := #[.int .i64 0, .int .i64 0, .int .i64 0]) ?_ 0 _ rfl; (with_reducible repeat (first | refine blk_drewN ?_ _ | refine blk_drew ?_ | refine blk_alloc ?_ _)); exact BK1048.out) hb); have n3_ := Aside0.mk (below_step (by repeat (first | (with_reducible first | exact HB.out | apply below_alloc | apply pw_below_drewN | apply below_drew1 | refine below_set ?_ GE1042.out | refine below_set ?_ GE1043.out | refine below_set ?_ GE1048.out) | exact HB.out)) hb); clear BK1042; clear BK1043; clear BK1048; clear HB; have BK1042 := n0_; have BK1043 := n1_; have BK1048 := n2_; have HB := n3_; clear n0_ n1_ n2_ n3_; (try clear hb); (try clear hb2); (try clear hk); (try clear hi)) | ((with_reducible refine gate_dst (N := 7) rfl ?_); refine box_event ?hg (N := 7) ?hd (cs := #[.int .i64 0, .int .i64 0, .int .i64 0]) (t := 66) ?hr ?_; (case hd => rfl); (case hg => rfl); (case hr => first | (go_simp; done) | (go_simp; rfl)); intro gb1053 hg w27 hbox hb; have n0_ := Aside0.mk (blk_below (g := gb1042) (o := .cells #[.int .i64 t1036, .int .i64 t1037, .int .i64 t1038] 66 (0, 0)) (by (with_reducible repeat (first | refine blk_drewN ?_ _ | refine blk_drew ?_ | refine blk_alloc ?_ _)); exact BK1042.out) hb); have n1_ := Aside0.mk (blk_below (g := gb1043) (o := .cells #[.int .i64 t1039, .int .i64 t1040, .int .i64 t1041] 66 (0, 0)) (by (with_reducible repeat (first | refine blk_drewN ?_ _ | refine blk_drew ?_ | refine blk_alloc ?_ _)); exact BK1043.out) hb); have n2_ := Aside0.mk (blk_below (g := gb1048) (o := .cells #[.int .i64 t1044, .int .i64 t1045, .int .i64 t1046] 66 (0, 0)) (by (with_reducible repeat (first | refine blk_drewN ?_ _ | refine blk_drew ?_ | refine blk_alloc ?_ _)); exact BK1048.out) hb); have n3_ := Aside0.mk (below_step (by repeat (first | (with_reducible first | exact HB.out | apply below_alloc | apply pw_below_drewN | apply below_drew1 | refine below_set ?_ GE1042.out | refine below_set ?_ GE1043.out | refine below_set ?_ GE1048.out) | exact HB.out)) hb); have n4_ := Aside0.mk (hbox); have n5_ := Aside0.mk ((by rw [hg]; exact (below_size (by repeat (first | (with_reducible first | exact HB.out | apply below_alloc | apply pw_below_drewN | apply below_drew1 | refine below_set ?_ GE1042.out | refine below_set ?_ GE1043.out | refine below_set ?_ GE1048.out) | exact HB.out))) : w.heap.size ≤ gb1053)); have n6_ := Aside0.mk ((by rw [hg]; exact (below_size (by repeat (first | (with_reducible first | exact HB.out | apply below_alloc | apply pw_below_drewN | apply below_drew1 | refine below_set ?_ GE1042.out | refine below_set ?_ GE1043.out | refine below_set ?_ GE1048.out) | exact HB.out))) : w.heap.size ≤ gb1053)); have n7_ := Aside0.mk ((by rw [hg]; exact Nat.ne_of_lt (blk_lt (g := gb1042) (o := .cells #[.int .i64 t1036, .int .i64 t1037, .int .i64 t1038] 66 (0, 0)) (by (with_reducible repeat (first | refine blk_drewN ?_ _ | refine blk_drew ?_ | refine blk_alloc ?_ _)); exact BK1042.out)) : gb1042 ≠ gb1053)); have n8_ := Aside0.mk ((by rw [hg]; exact Nat.ne_of_gt (blk_lt (g := gb1042) (o := .cells #[.int .i64 t1036, .int .i64 t1037, .int .i64 t1038] 66 (0, 0)) (by (with_reducible repeat (first | refine blk_drewN ?_ _ | refine blk_drew ?_ | refine blk_alloc ?_ _)); exact BK1042.out)) : gb1053 ≠ gb1042)); have n9_ := Aside0.mk ((by rw [hg]; exact Nat.ne_of_lt (blk_lt (g := gb1043) (o := .cells #[.int .i64 t1039, .int .i64 t1040, .int .i64 t1041] 66 (0, 0)) (by (with_reducible repeat (first | refine blk_drewN ?_ _ | refine blk_drew ?_ | refine blk_alloc ?_ _)); exact BK1043.out)) : gb1043 ≠ gb1053)); have n10_ := Aside0.mk ((by rw [hg]; exact Nat.ne_of_gt (blk_lt (g := gb1043) (o := .cells #[.int .i64 t1039, .int .i64 t1040, .int .i64 t1041] 66 (0, 0)) (by (with_reducible repeat (first | refine blk_drewN ?_ _ | refine blk_drew ?_ | refine blk_alloc ?_ _)); exact BK1043.out)) : gb1053 ≠ gb1043)); have n11_ := Aside0.mk ((by rw [hg]; exact Nat.ne_of_lt (blk_lt (g := gb1048) (o := .cells #[.int .i64 t1044, .int .i64 t1045, .int .i64 t1046] 66 (0, 0)) (by (with_reducible repeat (first | refine blk_drewN ?_ _ | refine blk_drew ?_ | refine blk_alloc ?_ _)); exact BK1048.out)) : gb1048 ≠ gb1053)); have n12_ := Aside0.mk ((by rw [hg]; exact Nat.ne_of_gt (blk_lt (g := gb1048) (o := .cells #[.int .i64 t1044, .int .i64 t1045, .int .i64 t1046] 66 (0, 0)) (by (with_reducible repeat (first | refine blk_drewN ?_ _ | refine blk_drew ?_ | refine blk_alloc ?_ _)); exact BK1048.out)) : gb1053 ≠ gb1048)); clear BK1042; clear BK1043; clear BK1048; clear HB; have BK1042 := n0_; have BK1043 := n1_; have BK1048 := n2_; have HB := n3_; have BK1053 := n4_; have GW1053 := n5_; have GE1053 := n6_; have NB1042_1053 := n7_; have NB1053_1042 := n8_; have NB1043_1053 := n9_; have NB1053_1043 := n10_; have NB1048_1053 := n11_; have NB1053_1048 := n12_; clear n0_ n1_ n2_ n3_ n4_ n5_ n6_ n7_ n8_ n9_ n10_ n11_ n12_; clear hb hbox hg; have hnb28 := NB1053_1042.out; have hnc28 := NB1042_1053.out; have hnb29 := NB1053_1043.out; have hnc29 := NB1043_1053.out; have hnb30 := NB1053_1048.out; have hnc30 := NB1048_1053.out; have hcz31_0 : w27.cell? ⟨gb1053, 0, none⟩ = some (.int .i64 0) := (blk_cell BK1053.out 0).trans rfl; have hcz31_1 : w27.cell? ⟨gb1053, 1, none⟩ = some (.int .i64 0) := (blk_cell BK1053.out 1).trans rfl; have hcz31_2 : w27.cell? ⟨gb1053, 2, none⟩ = some (.int .i64 0) := (blk_cell BK1053.out 2).trans rfl; have hfz31_0 := blk_frozen BK1053.out 0; have hfz31_1 := blk_frozen BK1053.out 1; have hfz31_2 := blk_frozen BK1053.out 2; have hcz32_0 : w27.cell? ⟨gb1042, 0, none⟩ = some (.int .i64 t1036) := (blk_cell BK1042.out 0).trans rfl; have hcz32_1 : w27.cell? ⟨gb1042, 1, none⟩ = some (.int .i64 t1037) := (blk_cell BK1042.out 1).trans rfl; have hcz32_2 : w27.cell? ⟨gb1042, 2, none⟩ = some (.int .i64 t1038) := (blk_cell BK1042.out 2).trans rfl; have hfz32_0 := blk_frozen BK1042.out 0; have hfz32_1 := blk_frozen BK1042.out 1; have hfz32_2 := blk_frozen BK1042.out 2; have hcz33_0 : w27.cell? ⟨gb1043, 0, none⟩ = some (.int .i64 t1039) := (blk_cell BK1043.out 0).trans rfl; have hcz33_1 : w27.cell? ⟨gb1043, 1, none⟩ = some (.int .i64 t1040) := (blk_cell BK1043.out 1).trans rfl; have hcz33_2 : w27.cell? ⟨gb1043, 2, none⟩ = some (.int .i64 t1041) := (blk_cell BK1043.out 2).trans rfl; have hfz33_0 := blk_frozen BK1043.out 0; have hfz33_1 := blk_frozen BK1043.out 1; have hfz33_2 := blk_frozen BK1043.out 2) | ((with_reducible refine gate_callee (f := 65) rfl ?_); refine goesL_ (some 42) rfl rfl Try.func65 (by kernel_rfl) rfl #[.agg #[.int .i64 t1036, .int .i64 t1037, .int .i64 t1038], .agg #[.int .i64 t1039, .int .i64 t1040, .int .i64 t1041]] rfl (by (try simp only [List.map_toArray, List.map_cons, List.map_nil]); first | done | rfl | (simp only [List.length_drop, List.length_take]; rfl)) ?_; (with_reducible refine (impl_MeetLattices.calls k t1036 t1037 t1038 t1039 t1040 t1041 t1054 t1055 t1056 t1057 _ A7.out).mono ?_); rintro e w34 ⟨rfl, hb⟩; refine ⟨_, rfl, ?_⟩; have n0_ := Aside0.mk (blk_below (g := gb1042) (o := .cells #[.int .i64 t1036, .int .i64 t1037, .int .i64 t1038] 66 (0, 0)) (by (with_reducible repeat (first | refine blk_drewN ?_ _ | refine blk_drew ?_ | refine blk_alloc ?_ _)); refine blk_far ?_ NB1042_1053.out _; (with_reducible repeat (first | refine blk_drewN ?_ _ | refine blk_drew ?_ | refine blk_alloc ?_ _)); refine blk_far ?_ NB1042_1053.out _; (with_reducible repeat (first | refine blk_drewN ?_ _ | refine blk_drew ?_ | refine blk_alloc ?_ _)); refine blk_far ?_ NB1042_1053.out _; (with_reducible repeat (first | refine blk_drewN ?_ _ | refine blk_drew ?_ | refine blk_alloc ?_ _)); exact BK1042.out) hb); have n1_ := Aside0.mk (blk_below (g := gb1043) (o := .cells #[.int .i64 t1039, .int .i64 t1040, .int .i64 t1041] 66 (0, 0)) (by (with_reducible repeat (first | refine blk_drewN ?_ _ | refine blk_drew ?_ | refine blk_alloc ?_ _)); refine blk_far ?_ NB1043_1053.out _; (with_reducible repeat (first | refine blk_drewN ?_ _ | refine blk_drew ?_ | refine blk_alloc ?_ _)); refine blk_far ?_ NB1043_1053.out _; (with_reducible repeat (first | refine blk_drewN ?_ _ | refine blk_drew ?_ | refine blk_alloc ?_ _)); refine blk_far ?_ NB1043_1053.out _; (with_reducible repeat (first | refine blk_drewN ?_ _ | refine blk_drew ?_ | refine blk_alloc ?_ _)); exact BK1043.out) hb); have n2_ := Aside0.mk (blk_below (g := gb1048) (o := .cells #[.int .i64 t1044, .int .i64 t1045, .int .i64 t1046] 66 (0, 0)) (by (with_reducible repeat (first | refine blk_drewN ?_ _ | refine blk_drew ?_ | refine blk_alloc ?_ _)); refine blk_far ?_ NB1048_1053.out _; (with_reducible repeat (first | refine blk_drewN ?_ _ | refine blk_drew ?_ | refine blk_alloc ?_ _)); refine blk_far ?_ NB1048_1053.out _; (with_reducible repeat (first | refine blk_drewN ?_ _ | refine blk_drew ?_ | refine blk_alloc ?_ _)); refine blk_far ?_ NB1048_1053.out _; (with_reducible repeat (first | refine blk_drewN ?_ _ | refine blk_drew ?_ | refine blk_alloc ?_ _)); exact BK1048.out) hb); have n3_ := Aside0.mk (blk_below (g := gb1053) (o := .cells #[.int .i64 t1049, .int .i64 t1050, .int .i64 t1051] 66 (0, 0)) (by (with_reducible repeat (first | refine blk_drewN ?_ _ | refine blk_drew ?_ | refine blk_alloc ?_ _)); refine blk_put (cs := #[.int .i64 t1049, .int .i64 t1050, .int .i64 0]) ?_ 2 _ rfl; (with_reducible repeat (first | refine blk_drewN ?_ _ | refine blk_drew ?_ | refine blk_alloc ?_ _)); refine blk_put (cs := #[.int .i64 t1049, .int .i64 0, .int .i64 0]) ?_ 1 _ rfl; (with_reducible repeat (first | refine blk_drewN ?_ _ | refine blk_drew ?_ | refine blk_alloc ?_ _)); refine blk_put (cs := #[.int .i64 0, .int .i64 0, .int .i64 0]) ?_ 0 _ rfl; (with_reducible repeat (first | refine blk_drewN ?_ _ | refine blk_drew ?_ | refine blk_alloc ?_ _)); exact BK1053.out) hb); have n4_ := Aside0.mk (below_step (by repeat (first | (with_reducible first | exact HB.out | apply below_alloc | apply pw_below_drewN | apply below_drew1 | refine below_set ?_ GE1042.out | refine below_set ?_ GE1043.out | refine below_set ?_ GE1048.out | refine below_set ?_ GE1053.out) | exact HB.out)) hb); clear BK1042; clear BK1043; clear BK1048; clear BK1053; clear HB; have BK1042 := n0_; have BK1043 := n1_; have BK1048 := n2_; have BK1053 := n3_; have HB := n4_; clear n0_ n1_ n2_ n3_ n4_; (try clear hb); (try clear hb2); (try clear hk); (try clear hi)) | ((with_reducible refine gate_dst (N := 9) rfl ?_); refine box_event ?hg (N := 9) ?hd (cs := #[.int .i64 0, .int .i64 0, .int .i64 0]) (t := 66) ?hr ?_; (case hd => rfl); (case hg => rfl); (case hr => first | (go_simp; done) | (go_simp; rfl)); intro gb1058 hg w35 hbox hb; have n0_ := Aside0.mk (blk_below (g := gb1042) (o := .cells #[.int .i64 t1036, .int .i64 t1037, .int .i64 t1038] 66 (0, 0)) (by (with_reducible repeat (first | refine blk_drewN ?_ _ | refine blk_drew ?_ | refine blk_alloc ?_ _)); exact BK1042.out) hb); have n1_ := Aside0.mk (blk_below (g := gb1043) (o := .cells #[.int .i64 t1039, .int .i64 t1040, .int .i64 t1041] 66 (0, 0)) (by (with_reducible repeat (first | refine blk_drewN ?_ _ | refine blk_drew ?_ | refine blk_alloc ?_ _)); exact BK1043.out) hb); have n2_ := Aside0.mk (blk_below (g := gb1048) (o := .cells #[.int .i64 t1044, .int .i64 t1045, .int .i64 t1046] 66 (0, 0)) (by (with_reducible repeat (first | refine blk_drewN ?_ _ | refine blk_drew ?_ | refine blk_alloc ?_ _)); exact BK1048.out) hb); have n3_ := Aside0.mk (blk_below (g := gb1053) (o := .cells #[.int .i64 t1049, .int .i64 t1050, .int .i64 t1051] 66 (0, 0)) (by (with_reducible repeat (first | refine blk_drewN ?_ _ | refine blk_drew ?_ | refine blk_alloc ?_ _)); exact BK1053.out) hb); have n4_ := Aside0.mk (below_step (by repeat (first | (with_reducible first | exact HB.out | apply below_alloc | apply pw_below_drewN | apply below_drew1 | refine below_set ?_ GE1042.out | refine below_set ?_ GE1043.out | refine below_set ?_ GE1048.out | refine below_set ?_ GE1053.out) | exact HB.out)) hb); have n5_ := Aside0.mk (hbox); have n6_ := Aside0.mk ((by rw [hg]; exact (below_size (by repeat (first | (with_reducible first | exact HB.out | apply below_alloc | apply pw_below_drewN | apply below_drew1 | refine below_set ?_ GE1042.out | refine below_set ?_ GE1043.out | refine below_set ?_ GE1048.out | refine below_set ?_ GE1053.out) | exact HB.out))) : w.heap.size ≤ gb1058)); have n7_ := Aside0.mk ((by rw [hg]; exact (below_size (by repeat (first | (with_reducible first | exact HB.out | apply below_alloc | apply pw_below_drewN | apply below_drew1 | refine below_set ?_ GE1042.out | refine below_set ?_ GE1043.out | refine below_set ?_ GE1048.out | refine below_set ?_ GE1053.out) | exact HB.out))) : w.heap.size ≤ gb1058)); have n8_ := Aside0.mk ((by rw [hg]; exact Nat.ne_of_lt (blk_lt (g := gb1042) (o := .cells #[.int .i64 t1036, .int .i64 t1037, .int .i64 t1038] 66 (0, 0)) (by (with_reducible repeat (first | refine blk_drewN ?_ _ | refine blk_drew ?_ | refine blk_alloc ?_ _)); exact BK1042.out)) : gb1042 ≠ gb1058)); have n9_ := Aside0.mk ((by rw [hg]; exact Nat.ne_of_gt (blk_lt (g := gb1042) (o := .cells #[.int .i64 t1036, .int .i64 t1037, .int .i64 t1038] 66 (0, 0)) (by (with_reducible repeat (first | refine blk_drewN ?_ _ | refine blk_drew ?_ | refine blk_alloc ?_ _)); exact BK1042.out)) : gb1058 ≠ gb1042)); have n10_ := Aside0.mk ((by rw [hg]; exact Nat.ne_of_lt (blk_lt (g := gb1043) (o := .cells #[.int .i64 t1039, .int .i64 t1040, .int .i64 t1041] 66 (0, 0)) (by (with_reducible repeat (first | refine blk_drewN ?_ _ | refine blk_drew ?_ | refine blk_alloc ?_ _)); exact BK1043.out)) : gb1043 ≠ gb1058)); have n11_ := Aside0.mk ((by rw [hg]; exact Nat.ne_of_gt (blk_lt (g := gb1043) (o := .cells #[.int .i64 t1039, .int .i64 t1040, .int .i64 t1041] 66 (0, 0)) (by (with_reducible repeat (first | refine blk_drewN ?_ _ | refine blk_drew ?_ | refine blk_alloc ?_ _)); exact BK1043.out)) : gb1058 ≠ gb1043)); have n12_ := Aside0.mk ((by rw [hg]; exact Nat.ne_of_lt (blk_lt (g := gb1048) (o := .cells #[.int .i64 t1044, .int .i64 t1045, .int .i64 t1046] 66 (0, 0)) (by (with_reducible repeat (first | refine blk_drewN ?_ _ | refine blk_drew ?_ | refine blk_alloc ?_ _)); exact BK1048.out)) : gb1048 ≠ gb1058)); have n13_ := Aside0.mk ((by rw [hg]; exact Nat.ne_of_gt (blk_lt (g := gb1048) (o := .cells #[.int .i64 t1044, .int .i64 t1045, .int .i64 t1046] 66 (0, 0)) (by (with_reducible repeat (first | refine blk_drewN ?_ _ | refine blk_drew ?_ | refine blk_alloc ?_ _)); exact BK1048.out)) : gb1058 ≠ gb1048)); have n14_ := Aside0.mk ((by rw [hg]; exact Nat.ne_of_lt (blk_lt (g := gb1053) (o := .cells #[.int .i64 t1049, .int .i64 t1050, .int .i64 t1051] 66 (0, 0)) (by (with_reducible repeat (first | refine blk_drewN ?_ _ | refine blk_drew ?_ | refine blk_alloc ?_ _)); exact BK1053.out)) : gb1053 ≠ gb1058)); have n15_ := Aside0.mk ((by rw [hg]; exact Nat.ne_of_gt (blk_lt (g := gb1053) (o := .cells #[.int .i64 t1049, .int .i64 t1050, .int .i64 t1051] 66 (0, 0)) (by (with_reducible repeat (first | refine blk_drewN ?_ _ | refine blk_drew ?_ | refine blk_alloc ?_ _)); exact BK1053.out)) : gb1058 ≠ gb1053)); clear BK1042; clear BK1043; clear BK1048; clear BK1053; clear HB; have BK1042 := n0_; have BK1043 := n1_; have BK1048 := n2_; have BK1053 := n3_; have HB := n4_; have BK1058 := n5_; have GW1058 := n6_; have GE1058 := n7_; have NB1042_1058 := n8_; have NB1058_1042 := n9_; have NB1043_1058 := n10_; have NB1058_1043 := n11_; have NB1048_1058 := n12_; have NB1058_1048 := n13_; have NB1053_1058 := n14_; have NB1058_1053 := n15_; clear n0_ n1_ n2_ n3_ n4_ n5_ n6_ n7_ n8_ n9_ n10_ n11_ n12_ n13_ n14_ n15_; clear hb hbox hg; have hnb36 := NB1058_1042.out; have hnc36 := NB1042_1058.out; have hnb37 := NB1058_1043.out; have hnc37 := NB1043_1058.out; have hnb38 := NB1058_1048.out; have hnc38 := NB1048_1058.out; have hnb39 := NB1058_1053.out; have hnc39 := NB1053_1058.out; have hcz40_0 : w35.cell? ⟨gb1058, 0, none⟩ = some (.int .i64 0) := (blk_cell BK1058.out 0).trans rfl; have hcz40_1 : w35.cell? ⟨gb1058, 1, none⟩ = some (.int .i64 0) := (blk_cell BK1058.out 1).trans rfl; have hcz40_2 : w35.cell? ⟨gb1058, 2, none⟩ = some (.int .i64 0) := (blk_cell BK1058.out 2).trans rfl; have hfz40_0 := blk_frozen BK1058.out 0; have hfz40_1 := blk_frozen BK1058.out 1; have hfz40_2 := blk_frozen BK1058.out 2; have hcz41_0 : w35.cell? ⟨gb1042, 0, none⟩ = some (.int .i64 t1036) := (blk_cell BK1042.out 0).trans rfl; have hcz41_1 : w35.cell? ⟨gb1042, 1, none⟩ = some (.int .i64 t1037) := (blk_cell BK1042.out 1).trans rfl; have hcz41_2 : w35.cell? ⟨gb1042, 2, none⟩ = some (.int .i64 t1038) := (blk_cell BK1042.out 2).trans rfl; have hfz41_0 := blk_frozen BK1042.out 0; have hfz41_1 := blk_frozen BK1042.out 1; have hfz41_2 := blk_frozen BK1042.out 2; have hcz42_0 : w35.cell? ⟨gb1043, 0, none⟩ = some (.int .i64 t1039) := (blk_cell BK1043.out 0).trans rfl; have hcz42_1 : w35.cell? ⟨gb1043, 1, none⟩ = some (.int .i64 t1040) := (blk_cell BK1043.out 1).trans rfl; have hcz42_2 : w35.cell? ⟨gb1043, 2, none⟩ = some (.int .i64 t1041) := (blk_cell BK1043.out 2).trans rfl; have hfz42_0 := blk_frozen BK1043.out 0; have hfz42_1 := blk_frozen BK1043.out 1; have hfz42_2 := blk_frozen BK1043.out 2) | ((with_reducible refine gate_callee (f := 66) rfl ?_); refine goesL_ (some 48) rfl rfl Try.func66 (by kernel_rfl) rfl #[.agg #[.int .i64 t1036, .int .i64 t1037, .int .i64 t1038], .agg #[.int .i64 t1039, .int .i64 t1040, .int .i64 t1041]] rfl (by (try simp only [List.map_toArray, List.map_cons, List.map_nil]); first | done | rfl | (simp only [List.length_drop, List.length_take]; rfl)) ?_; (with_reducible refine (spec_MeetLattices.calls k t1036 t1037 t1038 t1039 t1040 t1041 t1059 t1060 t1061 t1062 _ A8.out).mono ?_); rintro e w43 ⟨rfl, hb⟩; refine ⟨_, rfl, ?_⟩; have n0_ := Aside0.mk (blk_below (g := gb1042) (o := .cells #[.int .i64 t1036, .int .i64 t1037, .int .i64 t1038] 66 (0, 0)) (by (with_reducible repeat (first | refine blk_drewN ?_ _ | refine blk_drew ?_ | refine blk_alloc ?_ _)); refine blk_far ?_ NB1042_1058.out _; (with_reducible repeat (first | refine blk_drewN ?_ _ | refine blk_drew ?_ | refine blk_alloc ?_ _)); refine blk_far ?_ NB1042_1058.out _; (with_reducible repeat (first | refine blk_drewN ?_ _ | refine blk_drew ?_ | refine blk_alloc ?_ _)); refine blk_far ?_ NB1042_1058.out _; (with_reducible repeat (first | refine blk_drewN ?_ _ | refine blk_drew ?_ | refine blk_alloc ?_ _)); exact BK1042.out) hb); have n1_ := Aside0.mk (blk_below (g := gb1043) (o := .cells #[.int .i64 t1039, .int .i64 t1040, .int .i64 t1041] 66 (0, 0)) (by (with_reducible repeat (first | refine blk_drewN ?_ _ | refine blk_drew ?_ | refine blk_alloc ?_ _)); refine blk_far ?_ NB1043_1058.out _; (with_reducible repeat (first | refine blk_drewN ?_ _ | refine blk_drew ?_ | refine blk_alloc ?_ _)); refine blk_far ?_ NB1043_1058.out _; (with_reducible repeat (first | refine blk_drewN ?_ _ | refine blk_drew ?_ | refine blk_alloc ?_ _)); refine blk_far ?_ NB1043_1058.out _; (with_reducible repeat (first | refine blk_drewN ?_ _ | refine blk_drew ?_ | refine blk_alloc ?_ _)); exact BK1043.out) hb); have n2_ := Aside0.mk (blk_below (g := gb1048) (o := .cells #[.int .i64 t1044, .int .i64 t1045, .int .i64 t1046] 66 (0, 0)) (by (with_reducible repeat (first | refine blk_drewN ?_ _ | refine blk_drew ?_ | refine blk_alloc ?_ _)); refine blk_far ?_ NB1048_1058.out _; (with_reducible repeat (first | refine blk_drewN ?_ _ | refine blk_drew ?_ | refine blk_alloc ?_ _)); refine blk_far ?_ NB1048_1058.out _; (with_reducible repeat (first | refine blk_drewN ?_ _ | refine blk_drew ?_ | refine blk_alloc ?_ _)); refine blk_far ?_ NB1048_1058.out _; (with_reducible repeat (first | refine blk_drewN ?_ _ | refine blk_drew ?_ | refine blk_alloc ?_ _)); exact BK1048.out) hb); have n3_ := Aside0.mk (blk_below (g := gb1053) (o := .cells #[.int .i64 t1049, .int .i64 t1050, .int .i64 t1051] 66 (0, 0)) (by (with_reducible repeat (first | refine blk_drewN ?_ _ | refine blk_drew ?_ | refine blk_alloc ?_ _)); refine blk_far ?_ NB1053_1058.out _; (with_reducible repeat (first | refine blk_drewN ?_ _ | refine blk_drew ?_ | refine blk_alloc ?_ _)); refine blk_far ?_ NB1053_1058.out _; (with_reducible repeat (first | refine blk_drewN ?_ _ | refine blk_drew ?_ | refine blk_alloc ?_ _)); refine blk_far ?_ NB1053_1058.out _; (with_reducible repeat (first | refine blk_drewN ?_ _ | refine blk_drew ?_ | refine blk_alloc ?_ _)); exact BK1053.out) hb); have n4_ := Aside0.mk (blk_below (g := gb1058) (o := .cells #[.int .i64 t1054, .int .i64 t1055, .int .i64 t1056] 66 (0, 0)) (by (with_reducible repeat (first | refine blk_drewN ?_ _ | refine blk_drew ?_ | refine blk_alloc ?_ _)); refine blk_put (cs := #[.int .i64 t1054, .int .i64 t1055, .int .i64 0]) ?_ 2 _ rfl; (with_reducible repeat (first | refine blk_drewN ?_ _ | refine blk_drew ?_ | refine blk_alloc ?_ _)); refine blk_put (cs := #[.int .i64 t1054, .int .i64 0, .int .i64 0]) ?_ 1 _ rfl; (with_reducible repeat (first | refine blk_drewN ?_ _ | refine blk_drew ?_ | refine blk_alloc ?_ _)); refine blk_put (cs := #[.int .i64 0, .int .i64 0, .int .i64 0]) ?_ 0 _ rfl; (with_reducible repeat (first | refine blk_drewN ?_ _ | refine blk_drew ?_ | refine blk_alloc ?_ _)); exact BK1058.out) hb); have n5_ := Aside0.mk (below_step (by repeat (first | (with_reducible first | exact HB.out | apply below_alloc | apply pw_below_drewN | apply below_drew1 | refine below_set ?_ GE1042.out | refine below_set ?_ GE1043.out | refine below_set ?_ GE1048.out | refine below_set ?_ GE1053.out | refine below_set ?_ GE1058.out) | exact HB.out)) hb); clear BK1042; clear BK1043; clear BK1048; clear BK1053; clear BK1058; clear HB; have BK1042 := n0_; have BK1043 := n1_; have BK1048 := n2_; have BK1053 := n3_; have BK1058 := n4_; have HB := n5_; clear n0_ n1_ n2_ n3_ n4_ n5_; (try clear hb); (try clear hb2); (try clear hk); (try clear hi)) | ((with_reducible refine gate_dst (N := 11) rfl ?_); refine box_event ?hg (N := 11) ?hd (cs := #[.int .i64 0, .int .i64 0, .int .i64 0]) (t := 66) ?hr ?_; (case hd => rfl); (case hg => rfl); (case hr => first | (go_simp; done) | (go_simp; rfl)); intro gb1063 hg w44 hbox hb; have n0_ := Aside0.mk (blk_below (g := gb1042) (o := .cells #[.int .i64 t1036, .int .i64 t1037, .int .i64 t1038] 66 (0, 0)) (by (with_reducible repeat (first | refine blk_drewN ?_ _ | refine blk_drew ?_ | refine blk_alloc ?_ _)); exact BK1042.out) hb); have n1_ := Aside0.mk (blk_below (g := gb1043) (o := .cells #[.int .i64 t1039, .int .i64 t1040, .int .i64 t1041] 66 (0, 0)) (by (with_reducible repeat (first | refine blk_drewN ?_ _ | refine blk_drew ?_ | refine blk_alloc ?_ _)); exact BK1043.out) hb); have n2_ := Aside0.mk (blk_below (g := gb1048) (o := .cells #[.int .i64 t1044, .int .i64 t1045, .int .i64 t1046] 66 (0, 0)) (by (with_reducible repeat (first | refine blk_drewN ?_ _ | refine blk_drew ?_ | refine blk_alloc ?_ _)); exact BK1048.out) hb); have n3_ := Aside0.mk (blk_below (g := gb1053) (o := .cells #[.int .i64 t1049, .int .i64 t1050, .int .i64 t1051] 66 (0, 0)) (by (with_reducible repeat (first | refine blk_drewN ?_ _ | refine blk_drew ?_ | refine blk_alloc ?_ _)); exact BK1053.out) hb); have n4_ := Aside0.mk (blk_below (g := gb1058) (o := .cells #[.int .i64 t1054, .int .i64 t1055, .int .i64 t1056] 66 (0, 0)) (by (with_reducible repeat (first | refine blk_drewN ?_ _ | refine blk_drew ?_ | refine blk_alloc ?_ _)); exact BK1058.out) hb); have n5_ := Aside0.mk (below_step (by repeat (first | (with_reducible first | exact HB.out | apply below_alloc | apply pw_below_drewN | apply below_drew1 | refine below_set ?_ GE1042.out | refine below_set ?_ GE1043.out | refine below_set ?_ GE1048.out | refine below_set ?_ GE1053.out | refine below_set ?_ GE1058.out) | exact HB.out)) hb); have n6_ := Aside0.mk (hbox); have n7_ := Aside0.mk ((by rw [hg]; exact (below_size (by repeat (first | (with_reducible first | exact HB.out | apply below_alloc | apply pw_below_drewN | apply below_drew1 | refine below_set ?_ GE1042.out | refine below_set ?_ GE1043.out | refine below_set ?_ GE1048.out | refine below_set ?_ GE1053.out | refine below_set ?_ GE1058.out) | exact HB.out))) : w.heap.size ≤ gb1063)); have n8_ := Aside0.mk ((by rw [hg]; exact (below_size (by repeat (first | (with_reducible first | exact HB.out | apply below_alloc | apply pw_below_drewN | apply below_drew1 | refine below_set ?_ GE1042.out | refine below_set ?_ GE1043.out | refine below_set ?_ GE1048.out | refine below_set ?_ GE1053.out | refine below_set ?_ GE1058.out) | exact HB.out))) : w.heap.size ≤ gb1063)); have n9_ := Aside0.mk ((by rw [hg]; exact Nat.ne_of_lt (blk_lt (g := gb1042) (o := .cells #[.int .i64 t1036, .int .i64 t1037, .int .i64 t1038] 66 (0, 0)) (by (with_reducible repeat (first | refine blk_drewN ?_ _ | refine blk_drew ?_ | refine blk_alloc ?_ _)); exact BK1042.out)) : gb1042 ≠ gb1063)); have n10_ := Aside0.mk ((by rw [hg]; exact Nat.ne_of_gt (blk_lt (g := gb1042) (o := .cells #[.int .i64 t1036, .int .i64 t1037, .int .i64 t1038] 66 (0, 0)) (by (with_reducible repeat (first | refine blk_drewN ?_ _ | refine blk_drew ?_ | refine blk_alloc ?_ _)); exact BK1042.out)) : gb1063 ≠ gb1042)); have n11_ := Aside0.mk ((by rw [hg]; exact Nat.ne_of_lt (blk_lt (g := gb1043) (o := .cells #[.int .i64 t1039, .int .i64 t1040, .int .i64 t1041] 66 (0, 0)) (by (with_reducible repeat (first | refine blk_drewN ?_ _ | refine blk_drew ?_ | refine blk_alloc ?_ _)); exact BK1043.out)) : gb1043 ≠ gb1063)); have n12_ := Aside0.mk ((by rw [hg]; exact Nat.ne_of_gt (blk_lt (g := gb1043) (o := .cells #[.int .i64 t1039, .int .i64 t1040, .int .i64 t1041] 66 (0, 0)) (by (with_reducible repeat (first | refine blk_drewN ?_ _ | refine blk_drew ?_ | refine blk_alloc ?_ _)); exact BK1043.out)) : gb1063 ≠ gb1043)); have n13_ := Aside0.mk ((by rw [hg]; exact Nat.ne_of_lt (blk_lt (g := gb1048) (o := .cells #[.int .i64 t1044, .int .i64 t1045, .int .i64 t1046] 66 (0, 0)) (by (with_reducible repeat (first | refine blk_drewN ?_ _ | refine blk_drew ?_ | refine blk_alloc ?_ _)); exact BK1048.out)) : gb1048 ≠ gb1063)); have n14_ := Aside0.mk ((by rw [hg]; exact Nat.ne_of_gt (blk_lt (g := gb1048) (o := .cells #[.int .i64 t1044, .int .i64 t1045, .int .i64 t1046] 66 (0, 0)) (by (with_reducible repeat (first | refine blk_drewN ?_ _ | refine blk_drew ?_ | refine blk_alloc ?_ _)); exact BK1048.out)) : gb1063 ≠ gb1048)); have n15_ := Aside0.mk ((by rw [hg]; exact Nat.ne_of_lt (blk_lt (g := gb1053) (o := .cells #[.int .i64 t1049, .int .i64 t1050, .int .i64 t1051] 66 (0, 0)) (by (with_reducible repeat (first | refine blk_drewN ?_ _ | refine blk_drew ?_ | refine blk_alloc ?_ _)); exact BK1053.out)) : gb1053 ≠ gb1063)); have n16_ := Aside0.mk ((by rw [hg]; exact Nat.ne_of_gt (blk_lt (g := gb1053) (o := .cells #[.int .i64 t1049, .int .i64 t1050, .int .i64 t1051] 66 (0, 0)) (by (with_reducible repeat (first | refine blk_drewN ?_ _ | refine blk_drew ?_ | refine blk_alloc ?_ _)); exact BK1053.out)) : gb1063 ≠ gb1053)); have n17_ := Aside0.mk ((by rw [hg]; exact Nat.ne_of_lt (blk_lt (g := gb1058) (o := .cells #[.int .i64 t1054, .int .i64 t1055, .int .i64 t1056] 66 (0, 0)) (by (with_reducible repeat (first | refine blk_drewN ?_ _ | refine blk_drew ?_ | refine blk_alloc ?_ _)); exact BK1058.out)) : gb1058 ≠ gb1063)); have n18_ := Aside0.mk ((by rw [hg]; exact Nat.ne_of_gt (blk_lt (g := gb1058) (o := .cells #[.int .i64 t1054, .int .i64 t1055, .int .i64 t1056] 66 (0, 0)) (by (with_reducible repeat (first | refine blk_drewN ?_ _ | refine blk_drew ?_ | refine blk_alloc ?_ _)); exact BK1058.out)) : gb1063 ≠ gb1058)); clear BK1042; clear BK1043; clear BK1048; clear BK1053; clear BK1058; clear HB; have BK1042 := n0_; have BK1043 := n1_; have BK1048 := n2_; have BK1053 := n3_; have BK1058 := n4_; have HB := n5_; have BK1063 := n6_; have GW1063 := n7_; have GE1063 := n8_; have NB1042_1063 := n9_; have NB1063_1042 := n10_; have NB1043_1063 := n11_; have NB1063_1043 := n12_; have NB1048_1063 := n13_; have NB1063_1048 := n14_; have NB1053_1063 := n15_; have NB1063_1053 := n16_; have NB1058_1063 := n17_; have NB1063_1058 := n18_; clear n0_ n1_ n2_ n3_ n4_ n5_ n6_ n7_ n8_ n9_ n10_ n11_ n12_ n13_ n14_ n15_ n16_ n17_ n18_; clear hb hbox hg; have hnb45 := NB1063_1042.out; have hnc45 := NB1042_1063.out; have hnb46 := NB1063_1043.out; have hnc46 := NB1043_1063.out; have hnb47 := NB1063_1048.out; have hnc47 := NB1048_1063.out; have hnb48 := NB1063_1053.out; have hnc48 := NB1053_1063.out; have hnb49 := NB1063_1058.out; have hnc49 := NB1058_1063.out; have hcz50_0 : w44.cell? ⟨gb1063, 0, none⟩ = some (.int .i64 0) := (blk_cell BK1063.out 0).trans rfl; have hcz50_1 : w44.cell? ⟨gb1063, 1, none⟩ = some (.int .i64 0) := (blk_cell BK1063.out 1).trans rfl; have hcz50_2 : w44.cell? ⟨gb1063, 2, none⟩ = some (.int .i64 0) := (blk_cell BK1063.out 2).trans rfl; have hfz50_0 := blk_frozen BK1063.out 0; have hfz50_1 := blk_frozen BK1063.out 1; have hfz50_2 := blk_frozen BK1063.out 2) | ((with_reducible refine gate_callee (f := 67) rfl ?_); refine goesL_ (some 52) rfl rfl Try.func67 (by kernel_rfl) rfl #[.slice A0 l0.length c0] rfl (by (try simp only [List.map_toArray, List.map_cons, List.map_nil]); first | done | rfl | (simp only [List.length_drop, List.length_take]; rfl)) ?_; (with_reducible refine (spec_DrawSublatticesOf.calls k _ _ l0 t1064 _ ?side1 ?side2 A9.out).mono ?_); (case side1 => exact Kd.C_below HR0.out (by repeat (first | (with_reducible first | exact HB.out | apply below_alloc | apply pw_below_drewN | apply below_drew1 | refine below_set ?_ GE1042.out | refine below_set ?_ GE1043.out | refine below_set ?_ GE1048.out | refine below_set ?_ GE1053.out | refine below_set ?_ GE1058.out | refine below_set ?_ GE1063.out) | exact HB.out))); (case side2 => exact HC0.out); rintro e w51 ⟨rfl, hb⟩; refine ⟨_, rfl, ?_⟩; have n0_ := Aside0.mk (blk_below (g := gb1042) (o := .cells #[.int .i64 t1036, .int .i64 t1037, .int .i64 t1038] 66 (0, 0)) (by (with_reducible repeat (first | refine blk_drewN ?_ _ | refine blk_drew ?_ | refine blk_alloc ?_ _)); refine blk_far ?_ NB1042_1063.out _; (with_reducible repeat (first | refine blk_drewN ?_ _ | refine blk_drew ?_ | refine blk_alloc ?_ _)); refine blk_far ?_ NB1042_1063.out _; (with_reducible repeat (first | refine blk_drewN ?_ _ | refine blk_drew ?_ | refine blk_alloc ?_ _)); refine blk_far ?_ NB1042_1063.out _; (with_reducible repeat (first | refine blk_drewN ?_ _ | refine blk_drew ?_ | refine blk_alloc ?_ _)); exact BK1042.out) hb); have n1_ := Aside0.mk (blk_below (g := gb1043) (o := .cells #[.int .i64 t1039, .int .i64 t1040, .int .i64 t1041] 66 (0, 0)) (by (with_reducible repeat (first | refine blk_drewN ?_ _ | refine blk_drew ?_ | refine blk_alloc ?_ _)); refine blk_far ?_ NB1043_1063.out _; (with_reducible repeat (first | refine blk_drewN ?_ _ | refine blk_drew ?_ | refine blk_alloc ?_ _)); refine blk_far ?_ NB1043_1063.out _; (with_reducible repeat (first | refine blk_drewN ?_ _ | refine blk_drew ?_ | refine blk_alloc ?_ _)); refine blk_far ?_ NB1043_1063.out _; (with_reducible repeat (first | refine blk_drewN ?_ _ | refine blk_drew ?_ | refine blk_alloc ?_ _)); exact BK1043.out) hb); have n2_ := Aside0.mk (blk_below (g := gb1048) (o := .cells #[.int .i64 t1044, .int .i64 t1045, .int .i64 t1046] 66 (0, 0)) (by (with_reducible repeat (first | refine blk_drewN ?_ _ | refine blk_drew ?_ | refine blk_alloc ?_ _)); refine blk_far ?_ NB1048_1063.out _; (with_reducible repeat (first | refine blk_drewN ?_ _ | refine blk_drew ?_ | refine blk_alloc ?_ _)); refine blk_far ?_ NB1048_1063.out _; (with_reducible repeat (first | refine blk_drewN ?_ _ | refine blk_drew ?_ | refine blk_alloc ?_ _)); refine blk_far ?_ NB1048_1063.out _; (with_reducible repeat (first | refine blk_drewN ?_ _ | refine blk_drew ?_ | refine blk_alloc ?_ _)); exact BK1048.out) hb); have n3_ := Aside0.mk (blk_below (g := gb1053) (o := .cells #[.int .i64 t1049, .int .i64 t1050, .int .i64 t1051] 66 (0, 0)) (by (with_reducible repeat (first | refine blk_drewN ?_ _ | refine blk_drew ?_ | refine blk_alloc ?_ _)); refine blk_far ?_ NB1053_1063.out _; (with_reducible repeat (first | refine blk_drewN ?_ _ | refine blk_drew ?_ | refine blk_alloc ?_ _)); refine blk_far ?_ NB1053_1063.out _; (with_reducible repeat (first | refine blk_drewN ?_ _ | refine blk_drew ?_ | refine blk_alloc ?_ _)); refine blk_far ?_ NB1053_1063.out _; (with_reducible repeat (first | refine blk_drewN ?_ _ | refine blk_drew ?_ | refine blk_alloc ?_ _)); exact BK1053.out) hb); have n4_ := Aside0.mk (blk_below (g := gb1058) (o := .cells #[.int .i64 t1054, .int .i64 t1055, .int .i64 t1056] 66 (0, 0)) (by (with_reducible repeat (first | refine blk_drewN ?_ _ | refine blk_drew ?_ | refine blk_alloc ?_ _)); refine blk_far ?_ NB1058_1063.out _; (with_reducible repeat (first | refine blk_drewN ?_ _ | refine blk_drew ?_ | refine blk_alloc ?_ _)); refine blk_far ?_ NB1058_1063.out _; (with_reducible repeat (first | refine blk_drewN ?_ _ | refine blk_drew ?_ | refine blk_alloc ?_ _)); refine blk_far ?_ NB1058_1063.out _; (with_reducible repeat (first | refine blk_drewN ?_ _ | refine blk_drew ?_ | refine blk_alloc ?_ _)); exact BK1058.out) hb); have n5_ := Aside0.mk (blk_below (g := gb1063) (o := .cells #[.int .i64 t1059, .int .i64 t1060, .int .i64 t1061] 66 (0, 0)) (by (with_reducible repeat (first | refine blk_drewN ?_ _ | refine blk_drew ?_ | refine blk_alloc ?_ _)); refine blk_put (cs := #[.int .i64 t1059, .int .i64 t1060, .int .i64 0]) ?_ 2 _ rfl; (with_reducible repeat (first | refine blk_drewN ?_ _ | refine blk_drew ?_ | refine blk_alloc ?_ _)); refine blk_put (cs := #[.int .i64 t1059, .int .i64 0, .int .i64 0]) ?_ 1 _ rfl; (with_reducible repeat (first | refine blk_drewN ?_ _ | refine blk_drew ?_ | refine blk_alloc ?_ _)); refine blk_put (cs := #[.int .i64 0, .int .i64 0, .int .i64 0]) ?_ 0 _ rfl; (with_reducible repeat (first | refine blk_drewN ?_ _ | refine blk_drew ?_ | refine blk_alloc ?_ _)); exact BK1063.out) hb); have n6_ := Aside0.mk (below_step (by repeat (first | (with_reducible first | exact HB.out | apply below_alloc | apply pw_below_drewN | apply below_drew1 | refine below_set ?_ GE1042.out | refine below_set ?_ GE1043.out | refine below_set ?_ GE1048.out | refine below_set ?_ GE1053.out | refine below_set ?_ GE1058.out | refine below_set ?_ GE1063.out) | exact HB.out)) hb); clear BK1042; clear BK1043; clear BK1048; clear BK1053; clear BK1058; clear BK1063; clear HB; have BK1042 := n0_; have BK1043 := n1_; have BK1048 := n2_; have BK1053 := n3_; have BK1058 := n4_; have BK1063 := n5_; have HB := n6_; clear n0_ n1_ n2_ n3_ n4_ n5_ n6_; (try clear hb); (try clear hb2); (try clear hk); (try clear hi)) | ((with_reducible refine gate_callee (f := 68) rfl ?_); refine goesL_ (some 55) rfl rfl Try.func68 (by kernel_rfl) rfl #[.int .i64 t1064] rfl (by (try simp only [List.map_toArray, List.map_cons, List.map_nil]); first | done | rfl | (simp only [List.length_drop, List.length_take]; rfl)) ?_; (with_reducible refine (impl_SublatticesOf.calls k t1064 t1065 t1066 _ A10.out).mono ?_); rintro e w52 ⟨v1067, rfl, ho0, hb⟩; refine ⟨_, rfl, ?_⟩; have n0_ := Aside0.mk (Kd.R_lower (Kd.R_newB (Kd.R_newB (Kd.R_newB (Kd.R_newB (Kd.R_newB (Kd.R_newB ho0 (g := gb1042) (o := .cells #[.int .i64 t1036, .int .i64 t1037, .int .i64 t1038] 66 (0, 0)) (by (with_reducible repeat (first | refine blk_drewN ?_ _ | refine blk_drew ?_ | refine blk_alloc ?_ _)); exact BK1042.out)) (g := gb1043) (o := .cells #[.int .i64 t1039, .int .i64 t1040, .int .i64 t1041] 66 (0, 0)) (by (with_reducible repeat (first | refine blk_drewN ?_ _ | refine blk_drew ?_ | refine blk_alloc ?_ _)); exact BK1043.out)) (g := gb1048) (o := .cells #[.int .i64 t1044, .int .i64 t1045, .int .i64 t1046] 66 (0, 0)) (by (with_reducible repeat (first | refine blk_drewN ?_ _ | refine blk_drew ?_ | refine blk_alloc ?_ _)); exact BK1048.out)) (g := gb1053) (o := .cells #[.int .i64 t1049, .int .i64 t1050, .int .i64 t1051] 66 (0, 0)) (by (with_reducible repeat (first | refine blk_drewN ?_ _ | refine blk_drew ?_ | refine blk_alloc ?_ _)); exact BK1053.out)) (g := gb1058) (o := .cells #[.int .i64 t1054, .int .i64 t1055, .int .i64 t1056] 66 (0, 0)) (by (with_reducible repeat (first | refine blk_drewN ?_ _ | refine blk_drew ?_ | refine blk_alloc ?_ _)); exact BK1058.out)) (g := gb1063) (o := .cells #[.int .i64 t1059, .int .i64 t1060, .int .i64 t1061] 66 (0, 0)) (by (with_reducible repeat (first | refine blk_drewN ?_ _ | refine blk_drew ?_ | refine blk_alloc ?_ _)); exact BK1063.out)) (below_size (by repeat (first | (with_reducible first | exact HB.out | apply below_alloc | apply pw_below_drewN | apply below_drew1 | refine below_set ?_ GE1042.out | refine below_set ?_ GE1043.out | refine below_set ?_ GE1048.out | refine below_set ?_ GE1053.out | refine below_set ?_ GE1058.out | refine below_set ?_ GE1063.out) | exact HB.out)))); have n1_ := Aside0.mk (blk_below (g := gb1042) (o := .cells #[.int .i64 t1036, .int .i64 t1037, .int .i64 t1038] 66 (0, 0)) (by (with_reducible repeat (first | refine blk_drewN ?_ _ | refine blk_drew ?_ | refine blk_alloc ?_ _)); exact BK1042.out) hb); have n2_ := Aside0.mk (blk_below (g := gb1043) (o := .cells #[.int .i64 t1039, .int .i64 t1040, .int .i64 t1041] 66 (0, 0)) (by (with_reducible repeat (first | refine blk_drewN ?_ _ | refine blk_drew ?_ | refine blk_alloc ?_ _)); exact BK1043.out) hb); have n3_ := Aside0.mk (blk_below (g := gb1048) (o := .cells #[.int .i64 t1044, .int .i64 t1045, .int .i64 t1046] 66 (0, 0)) (by (with_reducible repeat (first | refine blk_drewN ?_ _ | refine blk_drew ?_ | refine blk_alloc ?_ _)); exact BK1048.out) hb); have n4_ := Aside0.mk (blk_below (g := gb1053) (o := .cells #[.int .i64 t1049, .int .i64 t1050, .int .i64 t1051] 66 (0, 0)) (by (with_reducible repeat (first | refine blk_drewN ?_ _ | refine blk_drew ?_ | refine blk_alloc ?_ _)); exact BK1053.out) hb); have n5_ := Aside0.mk (blk_below (g := gb1058) (o := .cells #[.int .i64 t1054, .int .i64 t1055, .int .i64 t1056] 66 (0, 0)) (by (with_reducible repeat (first | refine blk_drewN ?_ _ | refine blk_drew ?_ | refine blk_alloc ?_ _)); exact BK1058.out) hb); have n6_ := Aside0.mk (blk_below (g := gb1063) (o := .cells #[.int .i64 t1059, .int .i64 t1060, .int .i64 t1061] 66 (0, 0)) (by (with_reducible repeat (first | refine blk_drewN ?_ _ | refine blk_drew ?_ | refine blk_alloc ?_ _)); exact BK1063.out) hb); have n7_ := Aside0.mk (below_step (by repeat (first | (with_reducible first | exact HB.out | apply below_alloc | apply pw_below_drewN | apply below_drew1 | refine below_set ?_ GE1042.out | refine below_set ?_ GE1043.out | refine below_set ?_ GE1048.out | refine below_set ?_ GE1053.out | refine below_set ?_ GE1058.out | refine below_set ?_ GE1063.out) | exact HB.out)) hb); clear BK1042; clear BK1043; clear BK1048; clear BK1053; clear BK1058; clear BK1063; clear HB; have HO1068 := n0_; have BK1042 := n1_; have BK1043 := n2_; have BK1048 := n3_; have BK1053 := n4_; have BK1058 := n5_; have BK1063 := n6_; have HB := n7_; clear n0_ n1_ n2_ n3_ n4_ n5_ n6_ n7_; (try clear hb); (try clear hb2); (try clear hk); (try clear hi); (try clear ho0)) | ((with_reducible refine gate_callee (f := 69) rfl ?_); refine goesL_ (some 60) rfl rfl Try.func69 (by kernel_rfl) rfl #[.int .i64 t1064] rfl (by (try simp only [List.map_toArray, List.map_cons, List.map_nil]); first | done | rfl | (simp only [List.length_drop, List.length_take]; rfl)) ?_; (with_reducible refine (spec_SublatticesOf.calls k t1064 t1069 t1070 _ A11.out).mono ?_); rintro e w53 ⟨v1071, rfl, ho0, hb⟩; refine ⟨_, rfl, ?_⟩; have n0_ := Aside0.mk (Kd.R_elder' (by (with_reducible repeat (first | apply Kd.R_alloc | apply Kd.R_drewN | apply Kd.R_drew)); exact HO1068.out) (Kd.R_base ho0) hb); have n1_ := Aside0.mk (Kd.R_lower (Kd.R_newB (Kd.R_newB (Kd.R_newB (Kd.R_newB (Kd.R_newB (Kd.R_newB (Kd.R_new' ho0 (Kd.R_lt (by (with_reducible repeat (first | apply Kd.R_alloc | apply Kd.R_drewN | apply Kd.R_drew)); exact HO1068.out))) (g := gb1042) (o := .cells #[.int .i64 t1036, .int .i64 t1037, .int .i64 t1038] 66 (0, 0)) (by (with_reducible repeat (first | refine blk_drewN ?_ _ | refine blk_drew ?_ | refine blk_alloc ?_ _)); exact BK1042.out)) (g := gb1043) (o := .cells #[.int .i64 t1039, .int .i64 t1040, .int .i64 t1041] 66 (0, 0)) (by (with_reducible repeat (first | refine blk_drewN ?_ _ | refine blk_drew ?_ | refine blk_alloc ?_ _)); exact BK1043.out)) (g := gb1048) (o := .cells #[.int .i64 t1044, .int .i64 t1045, .int .i64 t1046] 66 (0, 0)) (by (with_reducible repeat (first | refine blk_drewN ?_ _ | refine blk_drew ?_ | refine blk_alloc ?_ _)); exact BK1048.out)) (g := gb1053) (o := .cells #[.int .i64 t1049, .int .i64 t1050, .int .i64 t1051] 66 (0, 0)) (by (with_reducible repeat (first | refine blk_drewN ?_ _ | refine blk_drew ?_ | refine blk_alloc ?_ _)); exact BK1053.out)) (g := gb1058) (o := .cells #[.int .i64 t1054, .int .i64 t1055, .int .i64 t1056] 66 (0, 0)) (by (with_reducible repeat (first | refine blk_drewN ?_ _ | refine blk_drew ?_ | refine blk_alloc ?_ _)); exact BK1058.out)) (g := gb1063) (o := .cells #[.int .i64 t1059, .int .i64 t1060, .int .i64 t1061] 66 (0, 0)) (by (with_reducible repeat (first | refine blk_drewN ?_ _ | refine blk_drew ?_ | refine blk_alloc ?_ _)); exact BK1063.out)) (below_size (by repeat (first | (with_reducible first | exact HB.out | apply below_alloc | apply pw_below_drewN | apply below_drew1 | refine below_set ?_ GE1042.out | refine below_set ?_ GE1043.out | refine below_set ?_ GE1048.out | refine below_set ?_ GE1053.out | refine below_set ?_ GE1058.out | refine below_set ?_ GE1063.out) | exact HB.out)))); have n2_ := Aside0.mk (blk_below (g := gb1042) (o := .cells #[.int .i64 t1036, .int .i64 t1037, .int .i64 t1038] 66 (0, 0)) (by (with_reducible repeat (first | refine blk_drewN ?_ _ | refine blk_drew ?_ | refine blk_alloc ?_ _)); exact BK1042.out) hb); have n3_ := Aside0.mk (blk_below (g := gb1043) (o := .cells #[.int .i64 t1039, .int .i64 t1040, .int .i64 t1041] 66 (0, 0)) (by (with_reducible repeat (first | refine blk_drewN ?_ _ | refine blk_drew ?_ | refine blk_alloc ?_ _)); exact BK1043.out) hb); have n4_ := Aside0.mk (blk_below (g := gb1048) (o := .cells #[.int .i64 t1044, .int .i64 t1045, .int .i64 t1046] 66 (0, 0)) (by (with_reducible repeat (first | refine blk_drewN ?_ _ | refine blk_drew ?_ | refine blk_alloc ?_ _)); exact BK1048.out) hb); have n5_ := Aside0.mk (blk_below (g := gb1053) (o := .cells #[.int .i64 t1049, .int .i64 t1050, .int .i64 t1051] 66 (0, 0)) (by (with_reducible repeat (first | refine blk_drewN ?_ _ | refine blk_drew ?_ | refine blk_alloc ?_ _)); exact BK1053.out) hb); have n6_ := Aside0.mk (blk_below (g := gb1058) (o := .cells #[.int .i64 t1054, .int .i64 t1055, .int .i64 t1056] 66 (0, 0)) (by (with_reducible repeat (first | refine blk_drewN ?_ _ | refine blk_drew ?_ | refine blk_alloc ?_ _)); exact BK1058.out) hb); have n7_ := Aside0.mk (blk_below (g := gb1063) (o := .cells #[.int .i64 t1059, .int .i64 t1060, .int .i64 t1061] 66 (0, 0)) (by (with_reducible repeat (first | refine blk_drewN ?_ _ | refine blk_drew ?_ | refine blk_alloc ?_ _)); exact BK1063.out) hb); have n8_ := Aside0.mk (below_step (by repeat (first | (with_reducible first | exact HB.out | apply below_alloc | apply pw_below_drewN | apply below_drew1 | refine below_set ?_ GE1042.out | refine below_set ?_ GE1043.out | refine below_set ?_ GE1048.out | refine below_set ?_ GE1053.out | refine below_set ?_ GE1058.out | refine below_set ?_ GE1063.out) | exact HB.out)) hb); clear HO1068; clear BK1042; clear BK1043; clear BK1048; clear BK1053; clear BK1058; clear BK1063; clear HB; have HO1068 := n0_; have HO1072 := n1_; have BK1042 := n2_; have BK1043 := n3_; have BK1048 := n4_; have BK1053 := n5_; have BK1058 := n6_; have BK1063 := n7_; have HB := n8_; clear n0_ n1_ n2_ n3_ n4_ n5_ n6_ n7_ n8_; (try clear hb); (try clear hb2); (try clear hk); (try clear hi); (try clear ho0)))
    (try simp only [Act.put, List.setIfInBounds_toArray, List.set_cons_zero, List.set_cons_succ])
    go_cut [91] (fun v91 wc => ∃ (kq : Nat) (x91_11 : Bool), v91 = .bool x91_11 ∧ Aside0 (laws_FnJoins.j0 kq t1047 t1057 t1064 t1065 t1066 x91_11 t1036 t1037 t1038 t1039 t1040 t1041 t1044 t1045 t1046 t1054 t1055 t1056 = some true) ∧ Aside0 (kq ≤ k) ∧ Aside0 (Kd.R k66 66 wc w.heap.size (fun k_ => k_ ≠ gb1042 ∧ k_ ≠ gb1043 ∧ k_ ≠ gb1048 ∧ k_ ≠ gb1053 ∧ k_ ≠ gb1058 ∧ k_ ≠ gb1063) v1067 t1065) ∧ Aside0 (wc.heap[gb1042]? = some (.cells #[.int .i64 t1036, .int .i64 t1037, .int .i64 t1038] 66 (0, 0))) ∧ Aside0 (wc.heap[gb1043]? = some (.cells #[.int .i64 t1039, .int .i64 t1040, .int .i64 t1041] 66 (0, 0))) ∧ Aside0 (wc.heap[gb1048]? = some (.cells #[.int .i64 t1044, .int .i64 t1045, .int .i64 t1046] 66 (0, 0))) ∧ Aside0 (wc.heap[gb1053]? = some (.cells #[.int .i64 t1049, .int .i64 t1050, .int .i64 t1051] 66 (0, 0))) ∧ Aside0 (wc.heap[gb1058]? = some (.cells #[.int .i64 t1054, .int .i64 t1055, .int .i64 t1056] 66 (0, 0))) ∧ Aside0 (wc.heap[gb1063]? = some (.cells #[.int .i64 t1059, .int .i64 t1060, .int .i64 t1061] 66 (0, 0))) ∧ Aside0 (Below w.heap.size w wc))
    case first =>
      have H := HC12.out
      clear HC12
      by_cases c54 : t1047 = t1052
      · rw [if_pos c54] at H
        have c54b0 : (t1047 == t1052) = true := beq_iff_eq.mpr c54
        have c54b1 : (t1047 != t1052) = false := bne_eq_false_iff_eq.mpr c54
        clear c54
        (first | rw [c54b0] | (simp only [i64_w, i32_w]; rw [c54b0]) | skip)
        by_cases c55 : (!(t1044 == t1049) || (!(t1045 == t1050) || (!(t1046 == t1051)))) = true
        · rw [if_pos c55] at H
          have c55b0 : (!(t1044 == t1049) || (!(t1045 == t1050) || (!(t1046 == t1051)))) = true := c55
          clear c55
          have H' := Aside0.mk H
          clear H
          have hnb56 := NB1048_1042.out
          have hnc56 := NB1042_1048.out
          have hnb57 := NB1048_1043.out
          have hnc57 := NB1043_1048.out
          have hnb58 := NB1048_1053.out
          have hnc58 := NB1053_1048.out
          have hnb59 := NB1048_1058.out
          have hnc59 := NB1058_1048.out
          have hnb60 := NB1048_1063.out
          have hnc60 := NB1063_1048.out
          have hcz61_0 : w53.cell? ⟨gb1048, 0, none⟩ = some (.int .i64 t1044) := (blk_cell BK1048.out 0).trans rfl
          have hcz61_1 : w53.cell? ⟨gb1048, 1, none⟩ = some (.int .i64 t1045) := (blk_cell BK1048.out 1).trans rfl
          have hcz61_2 : w53.cell? ⟨gb1048, 2, none⟩ = some (.int .i64 t1046) := (blk_cell BK1048.out 2).trans rfl
          have hfz61_0 := blk_frozen BK1048.out 0
          have hfz61_1 := blk_frozen BK1048.out 1
          have hfz61_2 := blk_frozen BK1048.out 2
          have hnb62 := NB1053_1042.out
          have hnc62 := NB1042_1053.out
          have hnb63 := NB1053_1043.out
          have hnc63 := NB1043_1053.out
          have hnb64 := NB1053_1058.out
          have hnc64 := NB1058_1053.out
          have hnb65 := NB1053_1063.out
          have hnc65 := NB1063_1053.out
          have hcz66_0 : w53.cell? ⟨gb1053, 0, none⟩ = some (.int .i64 t1049) := (blk_cell BK1053.out 0).trans rfl
          have hcz66_1 : w53.cell? ⟨gb1053, 1, none⟩ = some (.int .i64 t1050) := (blk_cell BK1053.out 1).trans rfl
          have hcz66_2 : w53.cell? ⟨gb1053, 2, none⟩ = some (.int .i64 t1051) := (blk_cell BK1053.out 2).trans rfl
          have hfz66_0 := blk_frozen BK1053.out 0
          have hfz66_1 := blk_frozen BK1053.out 1
          have hfz66_2 := blk_frozen BK1053.out 2
          go_wp2
          go_meet
          case rel => exact ⟨_, (true), (by first | rfl | (simp; done) | (simp [*]; done)), H', ⟨by first | omega | exact Nat.le_refl _⟩, ⟨by (with_reducible repeat (first | apply Kd.R_alloc | apply Kd.R_drewN | apply Kd.R_drew)); exact Kd.R_mono HO1068.out (fun _ hk => ⟨hk.1.1.1.1.1.1.2, ⟨hk.1.1.1.1.1.2, ⟨hk.1.1.1.1.2, ⟨hk.1.1.1.2, ⟨hk.1.1.2, hk.1.2⟩⟩⟩⟩⟩)⟩, ⟨by (with_reducible repeat (first | refine blk_drewN ?_ _ | refine blk_drew ?_ | refine blk_alloc ?_ _)); exact BK1042.out⟩, ⟨by (with_reducible repeat (first | refine blk_drewN ?_ _ | refine blk_drew ?_ | refine blk_alloc ?_ _)); exact BK1043.out⟩, ⟨by (with_reducible repeat (first | refine blk_drewN ?_ _ | refine blk_drew ?_ | refine blk_alloc ?_ _)); exact BK1048.out⟩, ⟨by (with_reducible repeat (first | refine blk_drewN ?_ _ | refine blk_drew ?_ | refine blk_alloc ?_ _)); exact BK1053.out⟩, ⟨by (with_reducible repeat (first | refine blk_drewN ?_ _ | refine blk_drew ?_ | refine blk_alloc ?_ _)); exact BK1058.out⟩, ⟨by (with_reducible repeat (first | refine blk_drewN ?_ _ | refine blk_drew ?_ | refine blk_alloc ?_ _)); exact BK1063.out⟩, ⟨by repeat (first | (with_reducible first | exact HB.out | apply below_alloc | apply pw_below_drewN | apply below_drew1 | refine below_set ?_ GE1042.out | refine below_set ?_ GE1043.out | refine below_set ?_ GE1048.out | refine below_set ?_ GE1053.out | refine below_set ?_ GE1058.out | refine below_set ?_ GE1063.out) | exact HB.out)⟩⟩
        · rw [if_neg c55] at H
          have c55b0 : (!(t1044 == t1049) || (!(t1045 == t1050) || (!(t1046 == t1051)))) = false := by simpa using c55
          clear c55
          by_cases c67 : t1057 = t1062
          · rw [if_pos c67] at H
            have c67b0 : (t1057 == t1062) = true := beq_iff_eq.mpr c67
            have c67b1 : (t1057 != t1062) = false := bne_eq_false_iff_eq.mpr c67
            clear c67
            by_cases c68 : (!(t1054 == t1059) || (!(t1055 == t1060) || (!(t1056 == t1061)))) = true
            · rw [if_pos c68] at H
              have c68b0 : (!(t1054 == t1059) || (!(t1055 == t1060) || (!(t1056 == t1061)))) = true := c68
              clear c68
              have H' := Aside0.mk H
              clear H
              have hnb69 := NB1048_1042.out
              have hnc69 := NB1042_1048.out
              have hnb70 := NB1048_1043.out
              have hnc70 := NB1043_1048.out
              have hnb71 := NB1048_1053.out
              have hnc71 := NB1053_1048.out
              have hnb72 := NB1048_1058.out
              have hnc72 := NB1058_1048.out
              have hnb73 := NB1048_1063.out
              have hnc73 := NB1063_1048.out
              have hcz74_0 : w53.cell? ⟨gb1048, 0, none⟩ = some (.int .i64 t1044) := (blk_cell BK1048.out 0).trans rfl
              have hcz74_1 : w53.cell? ⟨gb1048, 1, none⟩ = some (.int .i64 t1045) := (blk_cell BK1048.out 1).trans rfl
              have hcz74_2 : w53.cell? ⟨gb1048, 2, none⟩ = some (.int .i64 t1046) := (blk_cell BK1048.out 2).trans rfl
              have hfz74_0 := blk_frozen BK1048.out 0
              have hfz74_1 := blk_frozen BK1048.out 1
              have hfz74_2 := blk_frozen BK1048.out 2
              have hnb75 := NB1053_1042.out
              have hnc75 := NB1042_1053.out
              have hnb76 := NB1053_1043.out
              have hnc76 := NB1043_1053.out
              have hnb77 := NB1053_1058.out
              have hnc77 := NB1058_1053.out
              have hnb78 := NB1053_1063.out
              have hnc78 := NB1063_1053.out
              have hcz79_0 : w53.cell? ⟨gb1053, 0, none⟩ = some (.int .i64 t1049) := (blk_cell BK1053.out 0).trans rfl
              have hcz79_1 : w53.cell? ⟨gb1053, 1, none⟩ = some (.int .i64 t1050) := (blk_cell BK1053.out 1).trans rfl
              have hcz79_2 : w53.cell? ⟨gb1053, 2, none⟩ = some (.int .i64 t1051) := (blk_cell BK1053.out 2).trans rfl
              have hfz79_0 := blk_frozen BK1053.out 0
              have hfz79_1 := blk_frozen BK1053.out 1
              have hfz79_2 := blk_frozen BK1053.out 2
              have hnb80 := NB1058_1042.out
              have hnc80 := NB1042_1058.out
              have hnb81 := NB1058_1043.out
              have hnc81 := NB1043_1058.out
              have hnb82 := NB1058_1063.out
              have hnc82 := NB1063_1058.out
              have hcz83_0 : w53.cell? ⟨gb1058, 0, none⟩ = some (.int .i64 t1054) := (blk_cell BK1058.out 0).trans rfl
              have hcz83_1 : w53.cell? ⟨gb1058, 1, none⟩ = some (.int .i64 t1055) := (blk_cell BK1058.out 1).trans rfl
              have hcz83_2 : w53.cell? ⟨gb1058, 2, none⟩ = some (.int .i64 t1056) := (blk_cell BK1058.out 2).trans rfl
              have hfz83_0 := blk_frozen BK1058.out 0
              have hfz83_1 := blk_frozen BK1058.out 1
              have hfz83_2 := blk_frozen BK1058.out 2
              have hnb84 := NB1063_1042.out
              have hnc84 := NB1042_1063.out
              have hnb85 := NB1063_1043.out
              have hnc85 := NB1043_1063.out
              have hcz86_0 : w53.cell? ⟨gb1063, 0, none⟩ = some (.int .i64 t1059) := (blk_cell BK1063.out 0).trans rfl
              have hcz86_1 : w53.cell? ⟨gb1063, 1, none⟩ = some (.int .i64 t1060) := (blk_cell BK1063.out 1).trans rfl
              have hcz86_2 : w53.cell? ⟨gb1063, 2, none⟩ = some (.int .i64 t1061) := (blk_cell BK1063.out 2).trans rfl
              have hfz86_0 := blk_frozen BK1063.out 0
              have hfz86_1 := blk_frozen BK1063.out 1
              have hfz86_2 := blk_frozen BK1063.out 2
              go_wp2
              go_meet
              case rel => exact ⟨_, (true), (by first | rfl | (simp; done) | (simp [*]; done)), H', ⟨by first | omega | exact Nat.le_refl _⟩, ⟨by (with_reducible repeat (first | apply Kd.R_alloc | apply Kd.R_drewN | apply Kd.R_drew)); exact Kd.R_mono HO1068.out (fun _ hk => ⟨hk.1.1.1.1.1.1.2, ⟨hk.1.1.1.1.1.2, ⟨hk.1.1.1.1.2, ⟨hk.1.1.1.2, ⟨hk.1.1.2, hk.1.2⟩⟩⟩⟩⟩)⟩, ⟨by (with_reducible repeat (first | refine blk_drewN ?_ _ | refine blk_drew ?_ | refine blk_alloc ?_ _)); exact BK1042.out⟩, ⟨by (with_reducible repeat (first | refine blk_drewN ?_ _ | refine blk_drew ?_ | refine blk_alloc ?_ _)); exact BK1043.out⟩, ⟨by (with_reducible repeat (first | refine blk_drewN ?_ _ | refine blk_drew ?_ | refine blk_alloc ?_ _)); exact BK1048.out⟩, ⟨by (with_reducible repeat (first | refine blk_drewN ?_ _ | refine blk_drew ?_ | refine blk_alloc ?_ _)); exact BK1053.out⟩, ⟨by (with_reducible repeat (first | refine blk_drewN ?_ _ | refine blk_drew ?_ | refine blk_alloc ?_ _)); exact BK1058.out⟩, ⟨by (with_reducible repeat (first | refine blk_drewN ?_ _ | refine blk_drew ?_ | refine blk_alloc ?_ _)); exact BK1063.out⟩, ⟨by repeat (first | (with_reducible first | exact HB.out | apply below_alloc | apply pw_below_drewN | apply below_drew1 | refine below_set ?_ GE1042.out | refine below_set ?_ GE1043.out | refine below_set ?_ GE1048.out | refine below_set ?_ GE1053.out | refine below_set ?_ GE1058.out | refine below_set ?_ GE1063.out) | exact HB.out)⟩⟩
            · rw [if_neg c68] at H
              have c68b0 : (!(t1054 == t1059) || (!(t1055 == t1060) || (!(t1056 == t1061)))) = false := by simpa using c68
              clear c68
              by_cases c87 : t1066 = t1070
              · rw [if_pos c87] at H
                have c87b0 : (t1066 == t1070) = true := beq_iff_eq.mpr c87
                have c87b1 : (t1066 != t1070) = false := bne_eq_false_iff_eq.mpr c87
                clear c87
                replace H := Option.bind_eq_some_iff.mp H
                obtain ⟨t1073, A880, H⟩ := H
                replace H : (laws_FnJoins.j0 k t1047 t1057 t1064 t1065 t1066 (!t1073) t1036 t1037 t1038 t1039 t1040 t1041 t1044 t1045 t1046 t1054 t1055 t1056) = some true := H
                have A88 := Aside0.mk A880
                clear A880
                have H' := Aside0.mk H
                clear H
                have hnb89 := NB1048_1042.out
                have hnc89 := NB1042_1048.out
                have hnb90 := NB1048_1043.out
                have hnc90 := NB1043_1048.out
                have hnb91 := NB1048_1053.out
                have hnc91 := NB1053_1048.out
                have hnb92 := NB1048_1058.out
                have hnc92 := NB1058_1048.out
                have hnb93 := NB1048_1063.out
                have hnc93 := NB1063_1048.out
                have hcz94_0 : w53.cell? ⟨gb1048, 0, none⟩ = some (.int .i64 t1044) := (blk_cell BK1048.out 0).trans rfl
                have hcz94_1 : w53.cell? ⟨gb1048, 1, none⟩ = some (.int .i64 t1045) := (blk_cell BK1048.out 1).trans rfl
                have hcz94_2 : w53.cell? ⟨gb1048, 2, none⟩ = some (.int .i64 t1046) := (blk_cell BK1048.out 2).trans rfl
                have hfz94_0 := blk_frozen BK1048.out 0
                have hfz94_1 := blk_frozen BK1048.out 1
                have hfz94_2 := blk_frozen BK1048.out 2
                have hnb95 := NB1053_1042.out
                have hnc95 := NB1042_1053.out
                have hnb96 := NB1053_1043.out
                have hnc96 := NB1043_1053.out
                have hnb97 := NB1053_1058.out
                have hnc97 := NB1058_1053.out
                have hnb98 := NB1053_1063.out
                have hnc98 := NB1063_1053.out
                have hcz99_0 : w53.cell? ⟨gb1053, 0, none⟩ = some (.int .i64 t1049) := (blk_cell BK1053.out 0).trans rfl
                have hcz99_1 : w53.cell? ⟨gb1053, 1, none⟩ = some (.int .i64 t1050) := (blk_cell BK1053.out 1).trans rfl
                have hcz99_2 : w53.cell? ⟨gb1053, 2, none⟩ = some (.int .i64 t1051) := (blk_cell BK1053.out 2).trans rfl
                have hfz99_0 := blk_frozen BK1053.out 0
                have hfz99_1 := blk_frozen BK1053.out 1
                have hfz99_2 := blk_frozen BK1053.out 2
                have hnb100 := NB1058_1042.out
                have hnc100 := NB1042_1058.out
                have hnb101 := NB1058_1043.out
                have hnc101 := NB1043_1058.out
                have hnb102 := NB1058_1063.out
                have hnc102 := NB1063_1058.out
                have hcz103_0 : w53.cell? ⟨gb1058, 0, none⟩ = some (.int .i64 t1054) := (blk_cell BK1058.out 0).trans rfl
                have hcz103_1 : w53.cell? ⟨gb1058, 1, none⟩ = some (.int .i64 t1055) := (blk_cell BK1058.out 1).trans rfl
                have hcz103_2 : w53.cell? ⟨gb1058, 2, none⟩ = some (.int .i64 t1056) := (blk_cell BK1058.out 2).trans rfl
                have hfz103_0 := blk_frozen BK1058.out 0
                have hfz103_1 := blk_frozen BK1058.out 1
                have hfz103_2 := blk_frozen BK1058.out 2
                have hnb104 := NB1063_1042.out
                have hnc104 := NB1042_1063.out
                have hnb105 := NB1063_1043.out
                have hnc105 := NB1043_1063.out
                have hcz106_0 : w53.cell? ⟨gb1063, 0, none⟩ = some (.int .i64 t1059) := (blk_cell BK1063.out 0).trans rfl
                have hcz106_1 : w53.cell? ⟨gb1063, 1, none⟩ = some (.int .i64 t1060) := (blk_cell BK1063.out 1).trans rfl
                have hcz106_2 : w53.cell? ⟨gb1063, 2, none⟩ = some (.int .i64 t1061) := (blk_cell BK1063.out 2).trans rfl
                have hfz106_0 := blk_frozen BK1063.out 0
                have hfz106_1 := blk_frozen BK1063.out 1
                have hfz106_2 := blk_frozen BK1063.out 2
                obtain ⟨Ao107, co107, eo107⟩ := Kd.R_slice HO1068.out
                subst eo107
                obtain ⟨Ao108, co108, eo108⟩ := Kd.R_slice HO1072.out
                subst eo108
                go_wp2_with (first | (go_at_call 70; (with_reducible refine (laws_likeLattices9.calls k _ _ t1065 _ _ t1069 t1073 _ ?side1 ?side2 ?side3 ?side4 A88.out).mono ?_); (case side1 => repeat (first | exact (Kd.R_reads' HO1068.out).2.2 | (with_reducible refine Kd.C_alloc ?_ _) | (with_reducible refine Kd.C_drewN ?_ _) | (with_reducible refine Kd.C_drew ?_))); (case side2 => exact (Kd.R_reads' HO1068.out).2.1); (case side3 => repeat (first | exact (Kd.R_reads' HO1072.out).2.2 | (with_reducible refine Kd.C_alloc ?_ _) | (with_reducible refine Kd.C_drewN ?_ _) | (with_reducible refine Kd.C_drew ?_))); (case side4 => exact (Kd.R_reads' HO1072.out).2.1); rintro e w' ⟨rfl, ⟨nd, rfl⟩⟩))
                go_meet
                case rel => exact ⟨_, (!t1073), (by first | rfl | (simp; done) | (simp [*]; done)), H', ⟨by first | omega | exact Nat.le_refl _⟩, ⟨by (with_reducible repeat (first | apply Kd.R_alloc | apply Kd.R_drewN | apply Kd.R_drew)); exact Kd.R_mono HO1068.out (fun _ hk => ⟨hk.1.1.1.1.1.1.2, ⟨hk.1.1.1.1.1.2, ⟨hk.1.1.1.1.2, ⟨hk.1.1.1.2, ⟨hk.1.1.2, hk.1.2⟩⟩⟩⟩⟩)⟩, ⟨by (with_reducible repeat (first | refine blk_drewN ?_ _ | refine blk_drew ?_ | refine blk_alloc ?_ _)); exact BK1042.out⟩, ⟨by (with_reducible repeat (first | refine blk_drewN ?_ _ | refine blk_drew ?_ | refine blk_alloc ?_ _)); exact BK1043.out⟩, ⟨by (with_reducible repeat (first | refine blk_drewN ?_ _ | refine blk_drew ?_ | refine blk_alloc ?_ _)); exact BK1048.out⟩, ⟨by (with_reducible repeat (first | refine blk_drewN ?_ _ | refine blk_drew ?_ | refine blk_alloc ?_ _)); exact BK1053.out⟩, ⟨by (with_reducible repeat (first | refine blk_drewN ?_ _ | refine blk_drew ?_ | refine blk_alloc ?_ _)); exact BK1058.out⟩, ⟨by (with_reducible repeat (first | refine blk_drewN ?_ _ | refine blk_drew ?_ | refine blk_alloc ?_ _)); exact BK1063.out⟩, ⟨by repeat (first | (with_reducible first | exact HB.out | apply below_alloc | apply pw_below_drewN | apply below_drew1 | refine below_set ?_ GE1042.out | refine below_set ?_ GE1043.out | refine below_set ?_ GE1048.out | refine below_set ?_ GE1053.out | refine below_set ?_ GE1058.out | refine below_set ?_ GE1063.out) | exact HB.out)⟩⟩
              · rw [if_neg c87] at H
                have c87b0 : (t1066 == t1070) = false := beq_eq_false_iff_ne.mpr c87
                have c87b1 : (t1066 != t1070) = true := bne_iff_ne.mpr c87
                have H' := Aside0.mk H
                clear H
                have hnb109 := NB1048_1042.out
                have hnc109 := NB1042_1048.out
                have hnb110 := NB1048_1043.out
                have hnc110 := NB1043_1048.out
                have hnb111 := NB1048_1053.out
                have hnc111 := NB1053_1048.out
                have hnb112 := NB1048_1058.out
                have hnc112 := NB1058_1048.out
                have hnb113 := NB1048_1063.out
                have hnc113 := NB1063_1048.out
                have hcz114_0 : w53.cell? ⟨gb1048, 0, none⟩ = some (.int .i64 t1044) := (blk_cell BK1048.out 0).trans rfl
                have hcz114_1 : w53.cell? ⟨gb1048, 1, none⟩ = some (.int .i64 t1045) := (blk_cell BK1048.out 1).trans rfl
                have hcz114_2 : w53.cell? ⟨gb1048, 2, none⟩ = some (.int .i64 t1046) := (blk_cell BK1048.out 2).trans rfl
                have hfz114_0 := blk_frozen BK1048.out 0
                have hfz114_1 := blk_frozen BK1048.out 1
                have hfz114_2 := blk_frozen BK1048.out 2
                have hnb115 := NB1053_1042.out
                have hnc115 := NB1042_1053.out
                have hnb116 := NB1053_1043.out
                have hnc116 := NB1043_1053.out
                have hnb117 := NB1053_1058.out
                have hnc117 := NB1058_1053.out
                have hnb118 := NB1053_1063.out
                have hnc118 := NB1063_1053.out
                have hcz119_0 : w53.cell? ⟨gb1053, 0, none⟩ = some (.int .i64 t1049) := (blk_cell BK1053.out 0).trans rfl
                have hcz119_1 : w53.cell? ⟨gb1053, 1, none⟩ = some (.int .i64 t1050) := (blk_cell BK1053.out 1).trans rfl
                have hcz119_2 : w53.cell? ⟨gb1053, 2, none⟩ = some (.int .i64 t1051) := (blk_cell BK1053.out 2).trans rfl
                have hfz119_0 := blk_frozen BK1053.out 0
                have hfz119_1 := blk_frozen BK1053.out 1
                have hfz119_2 := blk_frozen BK1053.out 2
                have hnb120 := NB1058_1042.out
                have hnc120 := NB1042_1058.out
                have hnb121 := NB1058_1043.out
                have hnc121 := NB1043_1058.out
                have hnb122 := NB1058_1063.out
                have hnc122 := NB1063_1058.out
                have hcz123_0 : w53.cell? ⟨gb1058, 0, none⟩ = some (.int .i64 t1054) := (blk_cell BK1058.out 0).trans rfl
                have hcz123_1 : w53.cell? ⟨gb1058, 1, none⟩ = some (.int .i64 t1055) := (blk_cell BK1058.out 1).trans rfl
                have hcz123_2 : w53.cell? ⟨gb1058, 2, none⟩ = some (.int .i64 t1056) := (blk_cell BK1058.out 2).trans rfl
                have hfz123_0 := blk_frozen BK1058.out 0
                have hfz123_1 := blk_frozen BK1058.out 1
                have hfz123_2 := blk_frozen BK1058.out 2
                have hnb124 := NB1063_1042.out
                have hnc124 := NB1042_1063.out
                have hnb125 := NB1063_1043.out
                have hnc125 := NB1043_1063.out
                have hcz126_0 : w53.cell? ⟨gb1063, 0, none⟩ = some (.int .i64 t1059) := (blk_cell BK1063.out 0).trans rfl
                have hcz126_1 : w53.cell? ⟨gb1063, 1, none⟩ = some (.int .i64 t1060) := (blk_cell BK1063.out 1).trans rfl
                have hcz126_2 : w53.cell? ⟨gb1063, 2, none⟩ = some (.int .i64 t1061) := (blk_cell BK1063.out 2).trans rfl
                have hfz126_0 := blk_frozen BK1063.out 0
                have hfz126_1 := blk_frozen BK1063.out 1
                have hfz126_2 := blk_frozen BK1063.out 2
                go_wp2
                go_meet
                case rel => exact ⟨_, (true), (by first | rfl | (simp; done) | (simp [*]; done)), H', ⟨by first | omega | exact Nat.le_refl _⟩, ⟨by (with_reducible repeat (first | apply Kd.R_alloc | apply Kd.R_drewN | apply Kd.R_drew)); exact Kd.R_mono HO1068.out (fun _ hk => ⟨hk.1.1.1.1.1.1.2, ⟨hk.1.1.1.1.1.2, ⟨hk.1.1.1.1.2, ⟨hk.1.1.1.2, ⟨hk.1.1.2, hk.1.2⟩⟩⟩⟩⟩)⟩, ⟨by (with_reducible repeat (first | refine blk_drewN ?_ _ | refine blk_drew ?_ | refine blk_alloc ?_ _)); exact BK1042.out⟩, ⟨by (with_reducible repeat (first | refine blk_drewN ?_ _ | refine blk_drew ?_ | refine blk_alloc ?_ _)); exact BK1043.out⟩, ⟨by (with_reducible repeat (first | refine blk_drewN ?_ _ | refine blk_drew ?_ | refine blk_alloc ?_ _)); exact BK1048.out⟩, ⟨by (with_reducible repeat (first | refine blk_drewN ?_ _ | refine blk_drew ?_ | refine blk_alloc ?_ _)); exact BK1053.out⟩, ⟨by (with_reducible repeat (first | refine blk_drewN ?_ _ | refine blk_drew ?_ | refine blk_alloc ?_ _)); exact BK1058.out⟩, ⟨by (with_reducible repeat (first | refine blk_drewN ?_ _ | refine blk_drew ?_ | refine blk_alloc ?_ _)); exact BK1063.out⟩, ⟨by repeat (first | (with_reducible first | exact HB.out | apply below_alloc | apply pw_below_drewN | apply below_drew1 | refine below_set ?_ GE1042.out | refine below_set ?_ GE1043.out | refine below_set ?_ GE1048.out | refine below_set ?_ GE1053.out | refine below_set ?_ GE1058.out | refine below_set ?_ GE1063.out) | exact HB.out)⟩⟩
          · rw [if_neg c67] at H
            have c67b0 : (t1057 == t1062) = false := beq_eq_false_iff_ne.mpr c67
            have c67b1 : (t1057 != t1062) = true := bne_iff_ne.mpr c67
            have H' := Aside0.mk H
            clear H
            have hnb127 := NB1048_1042.out
            have hnc127 := NB1042_1048.out
            have hnb128 := NB1048_1043.out
            have hnc128 := NB1043_1048.out
            have hnb129 := NB1048_1053.out
            have hnc129 := NB1053_1048.out
            have hnb130 := NB1048_1058.out
            have hnc130 := NB1058_1048.out
            have hnb131 := NB1048_1063.out
            have hnc131 := NB1063_1048.out
            have hcz132_0 : w53.cell? ⟨gb1048, 0, none⟩ = some (.int .i64 t1044) := (blk_cell BK1048.out 0).trans rfl
            have hcz132_1 : w53.cell? ⟨gb1048, 1, none⟩ = some (.int .i64 t1045) := (blk_cell BK1048.out 1).trans rfl
            have hcz132_2 : w53.cell? ⟨gb1048, 2, none⟩ = some (.int .i64 t1046) := (blk_cell BK1048.out 2).trans rfl
            have hfz132_0 := blk_frozen BK1048.out 0
            have hfz132_1 := blk_frozen BK1048.out 1
            have hfz132_2 := blk_frozen BK1048.out 2
            have hnb133 := NB1053_1042.out
            have hnc133 := NB1042_1053.out
            have hnb134 := NB1053_1043.out
            have hnc134 := NB1043_1053.out
            have hnb135 := NB1053_1058.out
            have hnc135 := NB1058_1053.out
            have hnb136 := NB1053_1063.out
            have hnc136 := NB1063_1053.out
            have hcz137_0 : w53.cell? ⟨gb1053, 0, none⟩ = some (.int .i64 t1049) := (blk_cell BK1053.out 0).trans rfl
            have hcz137_1 : w53.cell? ⟨gb1053, 1, none⟩ = some (.int .i64 t1050) := (blk_cell BK1053.out 1).trans rfl
            have hcz137_2 : w53.cell? ⟨gb1053, 2, none⟩ = some (.int .i64 t1051) := (blk_cell BK1053.out 2).trans rfl
            have hfz137_0 := blk_frozen BK1053.out 0
            have hfz137_1 := blk_frozen BK1053.out 1
            have hfz137_2 := blk_frozen BK1053.out 2
            go_wp2
            go_meet
            case rel => exact ⟨_, (true), (by first | rfl | (simp; done) | (simp [*]; done)), H', ⟨by first | omega | exact Nat.le_refl _⟩, ⟨by (with_reducible repeat (first | apply Kd.R_alloc | apply Kd.R_drewN | apply Kd.R_drew)); exact Kd.R_mono HO1068.out (fun _ hk => ⟨hk.1.1.1.1.1.1.2, ⟨hk.1.1.1.1.1.2, ⟨hk.1.1.1.1.2, ⟨hk.1.1.1.2, ⟨hk.1.1.2, hk.1.2⟩⟩⟩⟩⟩)⟩, ⟨by (with_reducible repeat (first | refine blk_drewN ?_ _ | refine blk_drew ?_ | refine blk_alloc ?_ _)); exact BK1042.out⟩, ⟨by (with_reducible repeat (first | refine blk_drewN ?_ _ | refine blk_drew ?_ | refine blk_alloc ?_ _)); exact BK1043.out⟩, ⟨by (with_reducible repeat (first | refine blk_drewN ?_ _ | refine blk_drew ?_ | refine blk_alloc ?_ _)); exact BK1048.out⟩, ⟨by (with_reducible repeat (first | refine blk_drewN ?_ _ | refine blk_drew ?_ | refine blk_alloc ?_ _)); exact BK1053.out⟩, ⟨by (with_reducible repeat (first | refine blk_drewN ?_ _ | refine blk_drew ?_ | refine blk_alloc ?_ _)); exact BK1058.out⟩, ⟨by (with_reducible repeat (first | refine blk_drewN ?_ _ | refine blk_drew ?_ | refine blk_alloc ?_ _)); exact BK1063.out⟩, ⟨by repeat (first | (with_reducible first | exact HB.out | apply below_alloc | apply pw_below_drewN | apply below_drew1 | refine below_set ?_ GE1042.out | refine below_set ?_ GE1043.out | refine below_set ?_ GE1048.out | refine below_set ?_ GE1053.out | refine below_set ?_ GE1058.out | refine below_set ?_ GE1063.out) | exact HB.out)⟩⟩
      · rw [if_neg c54] at H
        have c54b0 : (t1047 == t1052) = false := beq_eq_false_iff_ne.mpr c54
        have c54b1 : (t1047 != t1052) = true := bne_iff_ne.mpr c54
        (first | rw [c54b0] | (simp only [i64_w, i32_w]; rw [c54b0]) | skip)
        have H' := Aside0.mk H
        clear H
        go_wp2
        go_meet
        case rel => exact ⟨_, (true), (by first | rfl | (simp; done) | (simp [*]; done)), H', ⟨by first | omega | exact Nat.le_refl _⟩, ⟨by (with_reducible repeat (first | apply Kd.R_alloc | apply Kd.R_drewN | apply Kd.R_drew)); exact Kd.R_mono HO1068.out (fun _ hk => ⟨hk.1.1.1.1.1.1.2, ⟨hk.1.1.1.1.1.2, ⟨hk.1.1.1.1.2, ⟨hk.1.1.1.2, ⟨hk.1.1.2, hk.1.2⟩⟩⟩⟩⟩)⟩, ⟨by (with_reducible repeat (first | refine blk_drewN ?_ _ | refine blk_drew ?_ | refine blk_alloc ?_ _)); exact BK1042.out⟩, ⟨by (with_reducible repeat (first | refine blk_drewN ?_ _ | refine blk_drew ?_ | refine blk_alloc ?_ _)); exact BK1043.out⟩, ⟨by (with_reducible repeat (first | refine blk_drewN ?_ _ | refine blk_drew ?_ | refine blk_alloc ?_ _)); exact BK1048.out⟩, ⟨by (with_reducible repeat (first | refine blk_drewN ?_ _ | refine blk_drew ?_ | refine blk_alloc ?_ _)); exact BK1053.out⟩, ⟨by (with_reducible repeat (first | refine blk_drewN ?_ _ | refine blk_drew ?_ | refine blk_alloc ?_ _)); exact BK1058.out⟩, ⟨by (with_reducible repeat (first | refine blk_drewN ?_ _ | refine blk_drew ?_ | refine blk_alloc ?_ _)); exact BK1063.out⟩, ⟨by repeat (first | (with_reducible first | exact HB.out | apply below_alloc | apply pw_below_drewN | apply below_drew1 | refine below_set ?_ GE1042.out | refine below_set ?_ GE1043.out | refine below_set ?_ GE1048.out | refine below_set ?_ GE1053.out | refine below_set ?_ GE1058.out | refine below_set ?_ GE1063.out) | exact HB.out)⟩⟩
    case rest =>
      clear HC12
      try clear c1
      try clear c2
      try clear p2
      try clear c3
      try clear c4
      try clear c5
      try clear c6
      try clear c7
      try clear c8
      try clear c9
      try clear c10
      try clear c11
      try clear c12
      try clear c13
      try clear c14
      try clear c16
      try clear c21
      try clear c22
      try clear c28
      try clear c29
      try clear c30
      try clear c36
      try clear c37
      try clear c38
      try clear c39
      try clear c45
      try clear c46
      try clear c47
      try clear c48
      try clear c49
      try clear c54
      try clear c54b0
      try clear c54b1
      try clear c55
      try clear c55b0
      try clear c56
      try clear c57
      try clear c58
      try clear c59
      try clear c60
      try clear c62
      try clear c63
      try clear c64
      try clear c65
      try clear c66
      try clear c67
      try clear c67b0
      try clear c67b1
      try clear c68
      try clear c68b0
      try clear c69
      try clear c70
      try clear c71
      try clear c72
      try clear c73
      try clear c75
      try clear c76
      try clear c77
      try clear c78
      try clear c80
      try clear c81
      try clear c82
      try clear c84
      try clear c85
      try clear c87
      try clear c87b0
      try clear c87b1
      try clear c89
      try clear c90
      try clear c91
      try clear c92
      try clear c93
      try clear c95
      try clear c96
      try clear c97
      try clear c98
      try clear c100
      try clear c101
      try clear c102
      try clear c104
      try clear c105
      try clear c109
      try clear c110
      try clear c111
      try clear c112
      try clear c113
      try clear c115
      try clear c116
      try clear c117
      try clear c118
      try clear c120
      try clear c121
      try clear c122
      try clear c124
      try clear c125
      try clear c127
      try clear c128
      try clear c129
      try clear c130
      try clear c131
      try clear c133
      try clear c134
      try clear c135
      try clear c136
      try clear hcz103_0
      try clear hcz103_1
      try clear hcz103_2
      try clear hcz106_0
      try clear hcz106_1
      try clear hcz106_2
      try clear hcz114_0
      try clear hcz114_1
      try clear hcz114_2
      try clear hcz119_0
      try clear hcz119_1
      try clear hcz119_2
      try clear hcz123_0
      try clear hcz123_1
      try clear hcz123_2
      try clear hcz126_0
      try clear hcz126_1
      try clear hcz126_2
      try clear hcz132_0
      try clear hcz132_1
      try clear hcz132_2
      try clear hcz137_0
      try clear hcz137_1
      try clear hcz137_2
      try clear hcz17_0
      try clear hcz17_1
      try clear hcz17_2
      try clear hcz18_0
      try clear hcz18_1
      try clear hcz18_2
      try clear hcz23_0
      try clear hcz23_1
      try clear hcz23_2
      try clear hcz24_0
      try clear hcz24_1
      try clear hcz24_2
      try clear hcz25_0
      try clear hcz25_1
      try clear hcz25_2
      try clear hcz31_0
      try clear hcz31_1
      try clear hcz31_2
      try clear hcz32_0
      try clear hcz32_1
      try clear hcz32_2
      try clear hcz33_0
      try clear hcz33_1
      try clear hcz33_2
      try clear hcz40_0
      try clear hcz40_1
      try clear hcz40_2
      try clear hcz41_0
      try clear hcz41_1
      try clear hcz41_2
      try clear hcz42_0
      try clear hcz42_1
      try clear hcz42_2
      try clear hcz50_0
      try clear hcz50_1
      try clear hcz50_2
      try clear hcz61_0
      try clear hcz61_1
      try clear hcz61_2
      try clear hcz66_0
      try clear hcz66_1
      try clear hcz66_2
      try clear hcz74_0
      try clear hcz74_1
      try clear hcz74_2
      try clear hcz79_0
      try clear hcz79_1
      try clear hcz79_2
      try clear hcz83_0
      try clear hcz83_1
      try clear hcz83_2
      try clear hcz86_0
      try clear hcz86_1
      try clear hcz86_2
      try clear hcz94_0
      try clear hcz94_1
      try clear hcz94_2
      try clear hcz99_0
      try clear hcz99_1
      try clear hcz99_2
      try clear hfz103_0
      try clear hfz103_1
      try clear hfz103_2
      try clear hfz106_0
      try clear hfz106_1
      try clear hfz106_2
      try clear hfz114_0
      try clear hfz114_1
      try clear hfz114_2
      try clear hfz119_0
      try clear hfz119_1
      try clear hfz119_2
      try clear hfz123_0
      try clear hfz123_1
      try clear hfz123_2
      try clear hfz126_0
      try clear hfz126_1
      try clear hfz126_2
      try clear hfz132_0
      try clear hfz132_1
      try clear hfz132_2
      try clear hfz137_0
      try clear hfz137_1
      try clear hfz137_2
      try clear hfz17_0
      try clear hfz17_1
      try clear hfz17_2
      try clear hfz18_0
      try clear hfz18_1
      try clear hfz18_2
      try clear hfz23_0
      try clear hfz23_1
      try clear hfz23_2
      try clear hfz24_0
      try clear hfz24_1
      try clear hfz24_2
      try clear hfz25_0
      try clear hfz25_1
      try clear hfz25_2
      try clear hfz31_0
      try clear hfz31_1
      try clear hfz31_2
      try clear hfz32_0
      try clear hfz32_1
      try clear hfz32_2
      try clear hfz33_0
      try clear hfz33_1
      try clear hfz33_2
      try clear hfz40_0
      try clear hfz40_1
      try clear hfz40_2
      try clear hfz41_0
      try clear hfz41_1
      try clear hfz41_2
      try clear hfz42_0
      try clear hfz42_1
      try clear hfz42_2
      try clear hfz50_0
      try clear hfz50_1
      try clear hfz50_2
      try clear hfz61_0
      try clear hfz61_1
      try clear hfz61_2
      try clear hfz66_0
      try clear hfz66_1
      try clear hfz66_2
      try clear hfz74_0
      try clear hfz74_1
      try clear hfz74_2
      try clear hfz79_0
      try clear hfz79_1
      try clear hfz79_2
      try clear hfz83_0
      try clear hfz83_1
      try clear hfz83_2
      try clear hfz86_0
      try clear hfz86_1
      try clear hfz86_2
      try clear hfz94_0
      try clear hfz94_1
      try clear hfz94_2
      try clear hfz99_0
      try clear hfz99_1
      try clear hfz99_2
      obtain ⟨kq, x91_11, rfl, HA, HJ11, HO_14, BK1042, BK1043, BK1048, BK1053, BK1058, BK1063, HB⟩ := hcut
      cases kq with
      | zero => exact absurd HA.out (by simp [laws_FnJoins.j0])
      | succ kj11 =>
        have H := HA.out
        clear HA
        simp only [laws_FnJoins.j0] at H
        by_cases c138 : x91_11 = true
        · subst c138
          have H1 : (some false) = some true := by rw [if_pos rfl] at H; exact H
          clear H
          have H := H1
          clear H1
          exact absurd (Option.some.inj H) (by decide)
        · replace c138 := Bool.eq_false_iff.mpr c138
          subst c138
          have H1 : (if t1066 = 0 then (laws_FnJoins.l0 kj11 t1047 t1057 t1064 t1065 0 1 t1036 t1037 t1038 t1039 t1040 t1041 t1044 t1045 t1046 t1054 t1055 t1056) else (if t1057 = 0 then (if t1047 = 0 then (some ((wrap64 ((wrap64 ((wrap64 (t1044 * t1046)) * t1054)) * t1056)) == (wrap64 ((wrap64 ((wrap64 (t1036 * t1038)) * t1039)) * t1041)))) else (some false)) else (some true))) = some true := by rw [if_neg (show ¬ (false = true) by decide)] at H; exact H
          clear H
          have H := H1
          clear H1
          by_cases c139 : t1066 = 0
          · rw [if_pos c139] at H
            have c139b0 : (t1066 == 0) = true := beq_iff_eq.mpr c139
            have c139b1 : (t1066 != 0) = false := bne_eq_false_iff_eq.mpr c139
            clear c139
            have H' := Aside0.mk H
            clear H
            go_wp2
            go_loopg [18, 19] kj11 (fun kq v18 v19 w' => ∃ (x18_2 : Int) (x19_2 : Int), v18 = .int .i64 x18_2 ∧ v19 = .int .i64 x19_2 ∧ Aside0 (laws_FnJoins.l0 kq t1047 t1057 t1064 t1065 x18_2 x19_2 t1036 t1037 t1038 t1039 t1040 t1041 t1044 t1045 t1046 t1054 t1055 t1056 = some true) ∧ Aside0 (kq ≤ kj11) ∧ Aside0 (Kd.R k66 66 w' w.heap.size (fun k_ => k_ ≠ gb1042 ∧ k_ ≠ gb1043 ∧ k_ ≠ gb1048 ∧ k_ ≠ gb1053 ∧ k_ ≠ gb1058 ∧ k_ ≠ gb1063) v1067 t1065) ∧ Aside0 (w'.heap[gb1042]? = some (.cells #[.int .i64 t1036, .int .i64 t1037, .int .i64 t1038] 66 (0, 0))) ∧ Aside0 (w'.heap[gb1043]? = some (.cells #[.int .i64 t1039, .int .i64 t1040, .int .i64 t1041] 66 (0, 0))) ∧ Aside0 (w'.heap[gb1048]? = some (.cells #[.int .i64 t1044, .int .i64 t1045, .int .i64 t1046] 66 (0, 0))) ∧ Aside0 (w'.heap[gb1053]? = some (.cells #[.int .i64 t1049, .int .i64 t1050, .int .i64 t1051] 66 (0, 0))) ∧ Aside0 (w'.heap[gb1058]? = some (.cells #[.int .i64 t1054, .int .i64 t1055, .int .i64 t1056] 66 (0, 0))) ∧ Aside0 (w'.heap[gb1063]? = some (.cells #[.int .i64 t1059, .int .i64 t1060, .int .i64 t1061] 66 (0, 0))) ∧ Aside0 (Below w.heap.size w w'))
            case atStart => exact ⟨(0), (1), (by first | rfl | (simp; done) | (simp [*]; done)), (by first | rfl | (simp; done) | (simp [*]; done)), H', ⟨Nat.le_refl _⟩, ⟨by (with_reducible repeat (first | apply Kd.R_alloc | apply Kd.R_drewN | apply Kd.R_drew)); exact HO_14.out⟩, ⟨by (with_reducible repeat (first | refine blk_drewN ?_ _ | refine blk_drew ?_ | refine blk_alloc ?_ _)); exact BK1042.out⟩, ⟨by (with_reducible repeat (first | refine blk_drewN ?_ _ | refine blk_drew ?_ | refine blk_alloc ?_ _)); exact BK1043.out⟩, ⟨by (with_reducible repeat (first | refine blk_drewN ?_ _ | refine blk_drew ?_ | refine blk_alloc ?_ _)); exact BK1048.out⟩, ⟨by (with_reducible repeat (first | refine blk_drewN ?_ _ | refine blk_drew ?_ | refine blk_alloc ?_ _)); exact BK1053.out⟩, ⟨by (with_reducible repeat (first | refine blk_drewN ?_ _ | refine blk_drew ?_ | refine blk_alloc ?_ _)); exact BK1058.out⟩, ⟨by (with_reducible repeat (first | refine blk_drewN ?_ _ | refine blk_drew ?_ | refine blk_alloc ?_ _)); exact BK1063.out⟩, ⟨by repeat (first | (with_reducible first | exact HB.out | apply below_alloc | apply pw_below_drewN | apply below_drew1 | refine below_set ?_ GE1042.out | refine below_set ?_ GE1043.out | refine below_set ?_ GE1048.out | refine below_set ?_ GE1053.out | refine below_set ?_ GE1058.out | refine below_set ?_ GE1063.out) | exact HB.out)⟩⟩
            case round =>
              clear H'
              try clear c1
              try clear c2
              try clear p2
              try clear c3
              try clear c4
              try clear c5
              try clear c6
              try clear p6
              try clear c7
              try clear c8
              try clear c9
              try clear c10
              try clear c11
              try clear c12
              try clear c13
              try clear c14
              try clear c16
              try clear c21
              try clear c22
              try clear c28
              try clear c29
              try clear c30
              try clear c36
              try clear c37
              try clear c38
              try clear c39
              try clear c45
              try clear c46
              try clear c47
              try clear c48
              try clear c49
              try clear c54
              try clear c54b0
              try clear c54b1
              try clear c55
              try clear c55b0
              try clear c56
              try clear c57
              try clear c58
              try clear c59
              try clear c60
              try clear c62
              try clear c63
              try clear c64
              try clear p64
              try clear c65
              try clear c66
              try clear c67
              try clear c67b0
              try clear c67b1
              try clear c68
              try clear c68b0
              try clear c69
              try clear c70
              try clear c71
              try clear c72
              try clear c73
              try clear c75
              try clear c76
              try clear c77
              try clear c78
              try clear c80
              try clear c81
              try clear c82
              try clear c84
              try clear c85
              try clear c87
              try clear c87b0
              try clear c87b1
              try clear c89
              try clear c90
              try clear c91
              try clear c92
              try clear c93
              try clear c95
              try clear c96
              try clear c97
              try clear c98
              try clear c100
              try clear c101
              try clear c102
              try clear c104
              try clear c105
              try clear c109
              try clear c110
              try clear c111
              try clear c112
              try clear c113
              try clear c115
              try clear c116
              try clear c117
              try clear c118
              try clear c120
              try clear c121
              try clear c122
              try clear c124
              try clear c125
              try clear c127
              try clear c128
              try clear c129
              try clear c130
              try clear c131
              try clear c133
              try clear c134
              try clear c135
              try clear c136
              try clear c138
              try clear c139
              try clear c139b0
              try clear c139b1
              try clear hcz103_0
              try clear hcz103_1
              try clear hcz103_2
              try clear hcz106_0
              try clear hcz106_1
              try clear hcz106_2
              try clear hcz114_0
              try clear hcz114_1
              try clear hcz114_2
              try clear hcz119_0
              try clear hcz119_1
              try clear hcz119_2
              try clear hcz123_0
              try clear hcz123_1
              try clear hcz123_2
              try clear hcz126_0
              try clear hcz126_1
              try clear hcz126_2
              try clear hcz132_0
              try clear hcz132_1
              try clear hcz132_2
              try clear hcz137_0
              try clear hcz137_1
              try clear hcz137_2
              try clear hcz17_0
              try clear hcz17_1
              try clear hcz17_2
              try clear hcz18_0
              try clear hcz18_1
              try clear hcz18_2
              try clear hcz23_0
              try clear hcz23_1
              try clear hcz23_2
              try clear hcz24_0
              try clear hcz24_1
              try clear hcz24_2
              try clear hcz25_0
              try clear hcz25_1
              try clear hcz25_2
              try clear hcz31_0
              try clear hcz31_1
              try clear hcz31_2
              try clear hcz32_0
              try clear hcz32_1
              try clear hcz32_2
              try clear hcz33_0
              try clear hcz33_1
              try clear hcz33_2
              try clear hcz40_0
              try clear hcz40_1
              try clear hcz40_2
              try clear hcz41_0
              try clear hcz41_1
              try clear hcz41_2
              try clear hcz42_0
              try clear hcz42_1
              try clear hcz42_2
              try clear hcz50_0
              try clear hcz50_1
              try clear hcz50_2
              try clear hcz61_0
              try clear hcz61_1
              try clear hcz61_2
              try clear hcz66_0
              try clear hcz66_1
              try clear hcz66_2
              try clear hcz74_0
              try clear hcz74_1
              try clear hcz74_2
              try clear hcz79_0
              try clear hcz79_1
              try clear hcz79_2
              try clear hcz83_0
              try clear hcz83_1
              try clear hcz83_2
              try clear hcz86_0
              try clear hcz86_1
              try clear hcz86_2
              try clear hcz94_0
              try clear hcz94_1
              try clear hcz94_2
              try clear hcz99_0
              try clear hcz99_1
              try clear hcz99_2
              try clear hfz103_0
              try clear hfz103_1
              try clear hfz103_2
              try clear hfz106_0
              try clear hfz106_1
              try clear hfz106_2
              try clear hfz114_0
              try clear hfz114_1
              try clear hfz114_2
              try clear hfz119_0
              try clear hfz119_1
              try clear hfz119_2
              try clear hfz123_0
              try clear hfz123_1
              try clear hfz123_2
              try clear hfz126_0
              try clear hfz126_1
              try clear hfz126_2
              try clear hfz132_0
              try clear hfz132_1
              try clear hfz132_2
              try clear hfz137_0
              try clear hfz137_1
              try clear hfz137_2
              try clear hfz17_0
              try clear hfz17_1
              try clear hfz17_2
              try clear hfz18_0
              try clear hfz18_1
              try clear hfz18_2
              try clear hfz23_0
              try clear hfz23_1
              try clear hfz23_2
              try clear hfz24_0
              try clear hfz24_1
              try clear hfz24_2
              try clear hfz25_0
              try clear hfz25_1
              try clear hfz25_2
              try clear hfz31_0
              try clear hfz31_1
              try clear hfz31_2
              try clear hfz32_0
              try clear hfz32_1
              try clear hfz32_2
              try clear hfz33_0
              try clear hfz33_1
              try clear hfz33_2
              try clear hfz40_0
              try clear hfz40_1
              try clear hfz40_2
              try clear hfz41_0
              try clear hfz41_1
              try clear hfz41_2
              try clear hfz42_0
              try clear hfz42_1
              try clear hfz42_2
              try clear hfz50_0
              try clear hfz50_1
              try clear hfz50_2
              try clear hfz61_0
              try clear hfz61_1
              try clear hfz61_2
              try clear hfz66_0
              try clear hfz66_1
              try clear hfz66_2
              try clear hfz74_0
              try clear hfz74_1
              try clear hfz74_2
              try clear hfz79_0
              try clear hfz79_1
              try clear hfz79_2
              try clear hfz83_0
              try clear hfz83_1
              try clear hfz83_2
              try clear hfz86_0
              try clear hfz86_1
              try clear hfz86_2
              try clear hfz94_0
              try clear hfz94_1
              try clear hfz94_2
              try clear hfz99_0
              try clear hfz99_1
              try clear hfz99_2
              try clear p2
              obtain ⟨x18_2, x19_2, rfl, rfl, HA, HK2, HO_14, BK1042, BK1043, BK1048, BK1053, BK1058, BK1063, HB⟩ := hrel
              cases gk with
              | zero => exact absurd HA.out (by simp [laws_FnJoins.l0])
              | succ k2 =>
                have H := HA.out
                clear HA
                simp only [laws_FnJoins.l0] at H
                by_cases c140 : x19_2 ≤ t1064
                · rw [if_pos c140] at H
                  have c140b0 : decide (x19_2 ≤ t1064) = true := decide_eq_true c140
                  clear c140
                  by_cases c141 : x19_2 = 0
                  · rw [if_pos c141] at H
                    exact absurd H (by simp)
                  · rw [if_neg c141] at H
                    have c141b0 : (x19_2 == 0) = false := beq_eq_false_iff_ne.mpr c141
                    have c141b1 : (x19_2 != 0) = true := bne_iff_ne.mpr c141
                    by_cases c142 : (Int.tmod t1064 x19_2) = 0
                    · rw [if_pos c142] at H
                      have c142b0 : ((Int.tmod t1064 x19_2) == 0) = true := beq_iff_eq.mpr c142
                      have c142b1 : ((Int.tmod t1064 x19_2) != 0) = false := bne_eq_false_iff_eq.mpr c142
                      clear c142
                      have H' := Aside0.mk H
                      clear H
                      go_wp2
                      go_roundg k2
                      case measure => have := HJ11.out; have := HK2.out; omega
                      case rel => exact ⟨(wrap64 (x18_2 + x19_2)), (wrap64 (x19_2 + 1)), (by first | rfl | (simp; done) | (simp [*]; done)), (by first | rfl | (simp; done) | (simp [*]; done)), H', ⟨by have := HJ11.out; have := HK2.out; omega⟩, ⟨by (with_reducible repeat (first | apply Kd.R_alloc | apply Kd.R_drewN | apply Kd.R_drew)); exact HO_14.out⟩, ⟨by (with_reducible repeat (first | refine blk_drewN ?_ _ | refine blk_drew ?_ | refine blk_alloc ?_ _)); exact BK1042.out⟩, ⟨by (with_reducible repeat (first | refine blk_drewN ?_ _ | refine blk_drew ?_ | refine blk_alloc ?_ _)); exact BK1043.out⟩, ⟨by (with_reducible repeat (first | refine blk_drewN ?_ _ | refine blk_drew ?_ | refine blk_alloc ?_ _)); exact BK1048.out⟩, ⟨by (with_reducible repeat (first | refine blk_drewN ?_ _ | refine blk_drew ?_ | refine blk_alloc ?_ _)); exact BK1053.out⟩, ⟨by (with_reducible repeat (first | refine blk_drewN ?_ _ | refine blk_drew ?_ | refine blk_alloc ?_ _)); exact BK1058.out⟩, ⟨by (with_reducible repeat (first | refine blk_drewN ?_ _ | refine blk_drew ?_ | refine blk_alloc ?_ _)); exact BK1063.out⟩, ⟨by repeat (first | (with_reducible first | exact HB.out | apply below_alloc | apply pw_below_drewN | apply below_drew1 | refine below_set ?_ GE1042.out | refine below_set ?_ GE1043.out | refine below_set ?_ GE1048.out | refine below_set ?_ GE1053.out | refine below_set ?_ GE1058.out | refine below_set ?_ GE1063.out) | exact HB.out)⟩⟩
                    · rw [if_neg c142] at H
                      have c142b0 : ((Int.tmod t1064 x19_2) == 0) = false := beq_eq_false_iff_ne.mpr c142
                      have c142b1 : ((Int.tmod t1064 x19_2) != 0) = true := bne_iff_ne.mpr c142
                      have H' := Aside0.mk H
                      clear H
                      go_wp2
                      go_roundg k2
                      case measure => have := HJ11.out; have := HK2.out; omega
                      case rel => exact ⟨(x18_2), (wrap64 (x19_2 + 1)), (by first | rfl | (simp; done) | (simp [*]; done)), (by first | rfl | (simp; done) | (simp [*]; done)), H', ⟨by have := HJ11.out; have := HK2.out; omega⟩, ⟨by (with_reducible repeat (first | apply Kd.R_alloc | apply Kd.R_drewN | apply Kd.R_drew)); exact HO_14.out⟩, ⟨by (with_reducible repeat (first | refine blk_drewN ?_ _ | refine blk_drew ?_ | refine blk_alloc ?_ _)); exact BK1042.out⟩, ⟨by (with_reducible repeat (first | refine blk_drewN ?_ _ | refine blk_drew ?_ | refine blk_alloc ?_ _)); exact BK1043.out⟩, ⟨by (with_reducible repeat (first | refine blk_drewN ?_ _ | refine blk_drew ?_ | refine blk_alloc ?_ _)); exact BK1048.out⟩, ⟨by (with_reducible repeat (first | refine blk_drewN ?_ _ | refine blk_drew ?_ | refine blk_alloc ?_ _)); exact BK1053.out⟩, ⟨by (with_reducible repeat (first | refine blk_drewN ?_ _ | refine blk_drew ?_ | refine blk_alloc ?_ _)); exact BK1058.out⟩, ⟨by (with_reducible repeat (first | refine blk_drewN ?_ _ | refine blk_drew ?_ | refine blk_alloc ?_ _)); exact BK1063.out⟩, ⟨by repeat (first | (with_reducible first | exact HB.out | apply below_alloc | apply pw_below_drewN | apply below_drew1 | refine below_set ?_ GE1042.out | refine below_set ?_ GE1043.out | refine below_set ?_ GE1048.out | refine below_set ?_ GE1053.out | refine below_set ?_ GE1058.out | refine below_set ?_ GE1063.out) | exact HB.out)⟩⟩
                · rw [if_neg c140] at H
                  have c140b0 : decide (x19_2 ≤ t1064) = false := decide_eq_false c140
                  clear c140
                  by_cases c143 : (t1065.length : Int) = x18_2
                  · rw [if_pos c143] at H
                    have c143b0 : ((t1065.length : Int) == x18_2) = true := beq_iff_eq.mpr c143
                    have c143b1 : ((t1065.length : Int) != x18_2) = false := bne_eq_false_iff_eq.mpr c143
                    clear c143
                    by_cases c144 : t1057 = 0
                    · rw [if_pos c144] at H
                      have c144b0 : (t1057 == 0) = true := beq_iff_eq.mpr c144
                      have c144b1 : (t1057 != 0) = false := bne_eq_false_iff_eq.mpr c144
                      clear c144
                      by_cases c145 : t1047 = 0
                      · rw [if_pos c145] at H
                        have c145b0 : (t1047 == 0) = true := beq_iff_eq.mpr c145
                        have c145b1 : (t1047 != 0) = false := bne_eq_false_iff_eq.mpr c145
                        clear c145
                        have hrT_ := Option.some.inj H
                        obtain ⟨Ao146, co146, eo146⟩ := Kd.R_slice HO_14.out
                        subst eo146
                        have hnb147 := NB1048_1042.out
                        have hnc147 := NB1042_1048.out
                        have hnb148 := NB1048_1043.out
                        have hnc148 := NB1043_1048.out
                        have hnb149 := NB1048_1053.out
                        have hnc149 := NB1053_1048.out
                        have hnb150 := NB1048_1058.out
                        have hnc150 := NB1058_1048.out
                        have hnb151 := NB1048_1063.out
                        have hnc151 := NB1063_1048.out
                        have hcz152_0 : wr.cell? ⟨gb1048, 0, none⟩ = some (.int .i64 t1044) := (blk_cell BK1048.out 0).trans rfl
                        have hcz152_1 : wr.cell? ⟨gb1048, 1, none⟩ = some (.int .i64 t1045) := (blk_cell BK1048.out 1).trans rfl
                        have hcz152_2 : wr.cell? ⟨gb1048, 2, none⟩ = some (.int .i64 t1046) := (blk_cell BK1048.out 2).trans rfl
                        have hfz152_0 := blk_frozen BK1048.out 0
                        have hfz152_1 := blk_frozen BK1048.out 1
                        have hfz152_2 := blk_frozen BK1048.out 2
                        have hnb153 := NB1058_1042.out
                        have hnc153 := NB1042_1058.out
                        have hnb154 := NB1058_1043.out
                        have hnc154 := NB1043_1058.out
                        have hnb155 := NB1058_1053.out
                        have hnc155 := NB1053_1058.out
                        have hnb156 := NB1058_1063.out
                        have hnc156 := NB1063_1058.out
                        have hcz157_0 : wr.cell? ⟨gb1058, 0, none⟩ = some (.int .i64 t1054) := (blk_cell BK1058.out 0).trans rfl
                        have hcz157_1 : wr.cell? ⟨gb1058, 1, none⟩ = some (.int .i64 t1055) := (blk_cell BK1058.out 1).trans rfl
                        have hcz157_2 : wr.cell? ⟨gb1058, 2, none⟩ = some (.int .i64 t1056) := (blk_cell BK1058.out 2).trans rfl
                        have hfz157_0 := blk_frozen BK1058.out 0
                        have hfz157_1 := blk_frozen BK1058.out 1
                        have hfz157_2 := blk_frozen BK1058.out 2
                        have hnb158 := NB1042_1043.out
                        have hnc158 := NB1043_1042.out
                        have hnb159 := NB1042_1053.out
                        have hnc159 := NB1053_1042.out
                        have hnb160 := NB1042_1063.out
                        have hnc160 := NB1063_1042.out
                        have hcz161_0 : wr.cell? ⟨gb1042, 0, none⟩ = some (.int .i64 t1036) := (blk_cell BK1042.out 0).trans rfl
                        have hcz161_1 : wr.cell? ⟨gb1042, 1, none⟩ = some (.int .i64 t1037) := (blk_cell BK1042.out 1).trans rfl
                        have hcz161_2 : wr.cell? ⟨gb1042, 2, none⟩ = some (.int .i64 t1038) := (blk_cell BK1042.out 2).trans rfl
                        have hfz161_0 := blk_frozen BK1042.out 0
                        have hfz161_1 := blk_frozen BK1042.out 1
                        have hfz161_2 := blk_frozen BK1042.out 2
                        have hnb162 := NB1043_1053.out
                        have hnc162 := NB1053_1043.out
                        have hnb163 := NB1043_1063.out
                        have hnc163 := NB1063_1043.out
                        have hcz164_0 : wr.cell? ⟨gb1043, 0, none⟩ = some (.int .i64 t1039) := (blk_cell BK1043.out 0).trans rfl
                        have hcz164_1 : wr.cell? ⟨gb1043, 1, none⟩ = some (.int .i64 t1040) := (blk_cell BK1043.out 1).trans rfl
                        have hcz164_2 : wr.cell? ⟨gb1043, 2, none⟩ = some (.int .i64 t1041) := (blk_cell BK1043.out 2).trans rfl
                        have hfz164_0 := blk_frozen BK1043.out 0
                        have hfz164_1 := blk_frozen BK1043.out 1
                        have hfz164_2 := blk_frozen BK1043.out 2
                        go_wp2
                        all_goals go_ret
                        all_goals exact ⟨by first | rfl | (simp [errW_none, errW_some] <;> rfl) | (simp [*, errW_none, errW_some] <;> rfl), by repeat (first | (with_reducible first | exact HB.out | apply below_alloc | apply pw_below_drewN | apply below_drew1 | refine below_set ?_ GE1042.out | refine below_set ?_ GE1043.out | refine below_set ?_ GE1048.out | refine below_set ?_ GE1053.out | refine below_set ?_ GE1058.out | refine below_set ?_ GE1063.out) | exact HB.out)⟩
                      · rw [if_neg c145] at H
                        have c145b0 : (t1047 == 0) = false := beq_eq_false_iff_ne.mpr c145
                        have c145b1 : (t1047 != 0) = true := bne_iff_ne.mpr c145
                        have hrT_ := Option.some.inj H
                        obtain ⟨Ao165, co165, eo165⟩ := Kd.R_slice HO_14.out
                        subst eo165
                        go_wp2
                        all_goals go_ret
                        all_goals exact ⟨by first | rfl | (simp [errW_none, errW_some] <;> rfl) | (simp [*, errW_none, errW_some] <;> rfl), by repeat (first | (with_reducible first | exact HB.out | apply below_alloc | apply pw_below_drewN | apply below_drew1 | refine below_set ?_ GE1042.out | refine below_set ?_ GE1043.out | refine below_set ?_ GE1048.out | refine below_set ?_ GE1053.out | refine below_set ?_ GE1058.out | refine below_set ?_ GE1063.out) | exact HB.out)⟩
                    · rw [if_neg c144] at H
                      have c144b0 : (t1057 == 0) = false := beq_eq_false_iff_ne.mpr c144
                      have c144b1 : (t1057 != 0) = true := bne_iff_ne.mpr c144
                      have hrT_ := Option.some.inj H
                      obtain ⟨Ao166, co166, eo166⟩ := Kd.R_slice HO_14.out
                      subst eo166
                      go_wp2
                      all_goals go_ret
                      all_goals exact ⟨by first | rfl | (simp [errW_none, errW_some] <;> rfl) | (simp [*, errW_none, errW_some] <;> rfl), by repeat (first | (with_reducible first | exact HB.out | apply below_alloc | apply pw_below_drewN | apply below_drew1 | refine below_set ?_ GE1042.out | refine below_set ?_ GE1043.out | refine below_set ?_ GE1048.out | refine below_set ?_ GE1053.out | refine below_set ?_ GE1058.out | refine below_set ?_ GE1063.out) | exact HB.out)⟩
                  · rw [if_neg c143] at H
                    have c143b0 : ((t1065.length : Int) == x18_2) = false := beq_eq_false_iff_ne.mpr c143
                    have c143b1 : ((t1065.length : Int) != x18_2) = true := bne_iff_ne.mpr c143
                    have hrT_ := Option.some.inj H
                    obtain ⟨Ao167, co167, eo167⟩ := Kd.R_slice HO_14.out
                    subst eo167
                    go_wp2
                    all_goals go_ret
                    all_goals exact ⟨by first | rfl | (simp [errW_none, errW_some] <;> rfl) | (simp [*, errW_none, errW_some] <;> rfl), by repeat (first | (with_reducible first | exact HB.out | apply below_alloc | apply pw_below_drewN | apply below_drew1 | refine below_set ?_ GE1042.out | refine below_set ?_ GE1043.out | refine below_set ?_ GE1048.out | refine below_set ?_ GE1053.out | refine below_set ?_ GE1058.out | refine below_set ?_ GE1063.out) | exact HB.out)⟩
          · rw [if_neg c139] at H
            have c139b0 : (t1066 == 0) = false := beq_eq_false_iff_ne.mpr c139
            have c139b1 : (t1066 != 0) = true := bne_iff_ne.mpr c139
            by_cases c168 : t1057 = 0
            · rw [if_pos c168] at H
              have c168b0 : (t1057 == 0) = true := beq_iff_eq.mpr c168
              have c168b1 : (t1057 != 0) = false := bne_eq_false_iff_eq.mpr c168
              clear c168
              by_cases c169 : t1047 = 0
              · rw [if_pos c169] at H
                have c169b0 : (t1047 == 0) = true := beq_iff_eq.mpr c169
                have c169b1 : (t1047 != 0) = false := bne_eq_false_iff_eq.mpr c169
                clear c169
                have hrT_ := Option.some.inj H
                have hnb170 := NB1048_1042.out
                have hnc170 := NB1042_1048.out
                have hnb171 := NB1048_1043.out
                have hnc171 := NB1043_1048.out
                have hnb172 := NB1048_1053.out
                have hnc172 := NB1053_1048.out
                have hnb173 := NB1048_1058.out
                have hnc173 := NB1058_1048.out
                have hnb174 := NB1048_1063.out
                have hnc174 := NB1063_1048.out
                have hcz175_0 : wc.cell? ⟨gb1048, 0, none⟩ = some (.int .i64 t1044) := (blk_cell BK1048.out 0).trans rfl
                have hcz175_1 : wc.cell? ⟨gb1048, 1, none⟩ = some (.int .i64 t1045) := (blk_cell BK1048.out 1).trans rfl
                have hcz175_2 : wc.cell? ⟨gb1048, 2, none⟩ = some (.int .i64 t1046) := (blk_cell BK1048.out 2).trans rfl
                have hfz175_0 := blk_frozen BK1048.out 0
                have hfz175_1 := blk_frozen BK1048.out 1
                have hfz175_2 := blk_frozen BK1048.out 2
                have hnb176 := NB1058_1042.out
                have hnc176 := NB1042_1058.out
                have hnb177 := NB1058_1043.out
                have hnc177 := NB1043_1058.out
                have hnb178 := NB1058_1053.out
                have hnc178 := NB1053_1058.out
                have hnb179 := NB1058_1063.out
                have hnc179 := NB1063_1058.out
                have hcz180_0 : wc.cell? ⟨gb1058, 0, none⟩ = some (.int .i64 t1054) := (blk_cell BK1058.out 0).trans rfl
                have hcz180_1 : wc.cell? ⟨gb1058, 1, none⟩ = some (.int .i64 t1055) := (blk_cell BK1058.out 1).trans rfl
                have hcz180_2 : wc.cell? ⟨gb1058, 2, none⟩ = some (.int .i64 t1056) := (blk_cell BK1058.out 2).trans rfl
                have hfz180_0 := blk_frozen BK1058.out 0
                have hfz180_1 := blk_frozen BK1058.out 1
                have hfz180_2 := blk_frozen BK1058.out 2
                have hnb181 := NB1042_1043.out
                have hnc181 := NB1043_1042.out
                have hnb182 := NB1042_1053.out
                have hnc182 := NB1053_1042.out
                have hnb183 := NB1042_1063.out
                have hnc183 := NB1063_1042.out
                have hcz184_0 : wc.cell? ⟨gb1042, 0, none⟩ = some (.int .i64 t1036) := (blk_cell BK1042.out 0).trans rfl
                have hcz184_1 : wc.cell? ⟨gb1042, 1, none⟩ = some (.int .i64 t1037) := (blk_cell BK1042.out 1).trans rfl
                have hcz184_2 : wc.cell? ⟨gb1042, 2, none⟩ = some (.int .i64 t1038) := (blk_cell BK1042.out 2).trans rfl
                have hfz184_0 := blk_frozen BK1042.out 0
                have hfz184_1 := blk_frozen BK1042.out 1
                have hfz184_2 := blk_frozen BK1042.out 2
                have hnb185 := NB1043_1053.out
                have hnc185 := NB1053_1043.out
                have hnb186 := NB1043_1063.out
                have hnc186 := NB1063_1043.out
                have hcz187_0 : wc.cell? ⟨gb1043, 0, none⟩ = some (.int .i64 t1039) := (blk_cell BK1043.out 0).trans rfl
                have hcz187_1 : wc.cell? ⟨gb1043, 1, none⟩ = some (.int .i64 t1040) := (blk_cell BK1043.out 1).trans rfl
                have hcz187_2 : wc.cell? ⟨gb1043, 2, none⟩ = some (.int .i64 t1041) := (blk_cell BK1043.out 2).trans rfl
                have hfz187_0 := blk_frozen BK1043.out 0
                have hfz187_1 := blk_frozen BK1043.out 1
                have hfz187_2 := blk_frozen BK1043.out 2
                go_wp2
                all_goals go_ret
                all_goals exact ⟨by first | rfl | (simp [errW_none, errW_some] <;> rfl) | (simp [*, errW_none, errW_some] <;> rfl), by repeat (first | (with_reducible first | exact HB.out | apply below_alloc | apply pw_below_drewN | apply below_drew1 | refine below_set ?_ GE1042.out | refine below_set ?_ GE1043.out | refine below_set ?_ GE1048.out | refine below_set ?_ GE1053.out | refine below_set ?_ GE1058.out | refine below_set ?_ GE1063.out) | exact HB.out)⟩
              · rw [if_neg c169] at H
                have c169b0 : (t1047 == 0) = false := beq_eq_false_iff_ne.mpr c169
                have c169b1 : (t1047 != 0) = true := bne_iff_ne.mpr c169
                exact absurd (Option.some.inj H) (by decide)
            · rw [if_neg c168] at H
              have c168b0 : (t1057 == 0) = false := beq_eq_false_iff_ne.mpr c168
              have c168b1 : (t1057 != 0) = true := bne_iff_ne.mpr c168
              clear H
              go_wp2
              go_ret
              exact ⟨by first | rfl | (simp [errW_none, errW_some] <;> rfl) | (simp [*, errW_none, errW_some] <;> rfl), by repeat (first | (with_reducible first | exact HB.out | apply below_alloc | apply pw_below_drewN | apply below_drew1 | refine below_set ?_ GE1042.out | refine below_set ?_ GE1043.out | refine below_set ?_ GE1048.out | refine below_set ?_ GE1053.out | refine below_set ?_ GE1058.out | refine below_set ?_ GE1063.out) | exact HB.out)⟩


end Go.Proofs.Ytjjbjaagfjljnaa.F
