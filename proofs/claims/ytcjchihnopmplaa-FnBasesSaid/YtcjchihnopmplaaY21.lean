import Derived.Test.YtcjchihnopmplaaY0
import Derived.Test.YtcjchihnopmplaaY1
import Derived.Test.YtcjchihnopmplaaY9
import Derived.Test.YtcjchihnopmplaaY11
import Derived.Test.YtcjchihnopmplaaY13
import Derived.Test.YtcjchihnopmplaaY16
import Derived.Test.YtcjchihnopmplaaY19
import Derived.Test.YtcjchihnopmplaaY20
namespace Go.Proofs.Ytcjchihnopmplaa.F
open Go.RowKit Go.Proofs.YtcjchihnopmplaaW.PrintWords Go.Proofs.YtcjchihnopmplaaW.PrintLast Go.Proofs.YtcjchihnopmplaaW.PrintMore
attribute [local go_sem] max2_int min2_int max_two min_two max_three min_three max_four min_four   -- for this text's walks alone
set_option linter.unusedVariables false
set_option linter.unusedSimpArgs false
attribute [local go_sem high] eqA33 eqA47

mutual
def laws_FnBases.j0 : Nat → Int → Int → List (S47) → List (S47) → List (S51) → Bool → Int → Int → Int → Int → Int → Int → Int → Option (Bool)
 | 0, _, _, _, _, _, _, _, _, _, _, _, _, _ => none
 | k + 1, x3, x7, x11, x13, x15, x103, x864000, x864001, x864002, x870000, x870001, x871000, x871001 => if x103 = true then (some false) else (if x7 = 0 then ((impl_LatticeOf.f k x870000 x870001 x871000 x871001).bind fun bt896 => (if bt896.2.2.2 = 0 then (if (!(bt896.1 == x864000) || (!(bt896.2.1 == x864001) || (!(bt896.2.2.1 == x864002)))) = true then (laws_FnBases.j1 k x3 x15 true x864000 x864001 x864002) else (if 0 ≤ (wrap64 ((x13.length : Int) - 1)) then (if (wrap64 ((x13.length : Int) - 1)) < (x11.length : Int) then (laws_FnBases.j1 k x3 x15 (!(x870000 == ((rd_T47 x11 (wrap64 ((x13.length : Int) - 1))).f0)) || (!(x870001 == ((rd_T47 x11 (wrap64 ((x13.length : Int) - 1))).f1)))) x864000 x864001 x864002) else (none)) else (none))) else (laws_FnBases.j1 k x3 x15 true x864000 x864001 x864002))) else (some true))
def laws_FnBases.j1 : Nat → Int → List (S51) → Bool → Int → Int → Int → Option (Bool)
 | 0, _, _, _, _, _, _ => none
 | k + 1, x3, x15, x128, x864000, x864001, x864002 => if x128 = true then (some false) else (laws_FnBases.l0 k x3 x15 0 x864000 x864001 x864002)
def laws_FnBases.l0 : Nat → Int → List (S51) → Int → Int → Int → Int → Option (Bool)
 | 0, _, _, _, _, _, _ => none
 | k + 1, x3, x15, x21, x864000, x864001, x864002 => if x21 < (x15.length : Int) then (if 0 ≤ x21 then ((impl_MapLattice.f k x3 ((rd_T51 x15 x21).f0) ((rd_T51 x15 x21).f1) ((rd_T51 x15 x21).f2) ((rd_T51 x15 x21).f3) x864000 x864001 x864002).bind fun bt903 => (if bt903.2.2.2 = 0 then (if (!(bt903.1 == x864000) || (!(bt903.2.1 == x864001) || (!(bt903.2.2.1 == x864002)))) = true then (some false) else (laws_FnBases.l0 k x3 x15 (wrap64 (x21 + 1)) x864000 x864001 x864002)) else (some false))) else (none)) else (some true)
end
def laws_FnBases.f (k : Nat) (l0 : List Int) : Option (Bool) := (laws_big.f l0).bind fun t858 => (if t858 = true then (some true) else ((spec_DrawReducedBasis.f k l0).bind fun bt859 => ((impl_ReducedBasis.f k bt859.1 bt859.2.1 bt859.2.2.1 bt859.2.2.2).bind fun bt864 => ((spec_ReducedBasis.f k bt859.1 bt859.2.1 bt859.2.2.1 bt859.2.2.2).bind fun bt871 => ((impl_ShortestVecs.f k bt859.1 bt859.2.1 bt859.2.2.1 bt859.2.2.2).bind fun bt878 => ((spec_ShortestVecs.f k bt859.1 bt859.2.1 bt859.2.2.1 bt859.2.2.2).bind fun bt882 => ((impl_LatticeMats.f k bt859.1 bt859.2.1 bt859.2.2.1 bt859.2.2.2).bind fun bt886 => ((spec_LatticeMats.f k bt859.1 bt859.2.1 bt859.2.2.1 bt859.2.2.2).bind fun bt890 => (if bt864.2.2.2.2 = bt871.2.2.2.2 then (if (!(bt864.1 == bt871.1) || (!(bt864.2.1 == bt871.2.1))) = true then (laws_FnBases.j0 k bt859.1 bt864.2.2.2.2 bt878.1 bt882.1 bt886.1 true bt859.2.1 bt859.2.2.1 bt859.2.2.2 bt864.1 bt864.2.1 bt864.2.2.1 bt864.2.2.2.1) else (if (!(bt864.2.2.1 == bt871.2.2.1) || (!(bt864.2.2.2.1 == bt871.2.2.2.1))) = true then (laws_FnBases.j0 k bt859.1 bt864.2.2.2.2 bt878.1 bt882.1 bt886.1 true bt859.2.1 bt859.2.2.1 bt859.2.2.2 bt864.1 bt864.2.1 bt864.2.2.1 bt864.2.2.2.1) else (if bt878.2 = bt882.2 then ((laws_likeVecs9.f k bt878.1 bt882.1).bind fun t894 => (if t894 = true then (if bt886.2 = bt890.2 then ((laws_likeMats9.f k bt886.1 bt890.1).bind fun t895 => (laws_FnBases.j0 k bt859.1 bt864.2.2.2.2 bt878.1 bt882.1 bt886.1 (!t895) bt859.2.1 bt859.2.2.1 bt859.2.2.2 bt864.1 bt864.2.1 bt864.2.2.1 bt864.2.2.2.1)) else (laws_FnBases.j0 k bt859.1 bt864.2.2.2.2 bt878.1 bt882.1 bt886.1 true bt859.2.1 bt859.2.2.1 bt859.2.2.2 bt864.1 bt864.2.1 bt864.2.2.1 bt864.2.2.2.1)) else (laws_FnBases.j0 k bt859.1 bt864.2.2.2.2 bt878.1 bt882.1 bt886.1 true bt859.2.1 bt859.2.2.1 bt859.2.2.2 bt864.1 bt864.2.1 bt864.2.2.1 bt864.2.2.2.1))) else (laws_FnBases.j0 k bt859.1 bt864.2.2.2.2 bt878.1 bt882.1 bt886.1 true bt859.2.1 bt859.2.2.1 bt859.2.2.2 bt864.1 bt864.2.1 bt864.2.2.1 bt864.2.2.2.1)))) else (laws_FnBases.j0 k bt859.1 bt864.2.2.2.2 bt878.1 bt882.1 bt886.1 true bt859.2.1 bt859.2.2.1 bt859.2.2.2 bt864.1 bt864.2.1 bt864.2.2.1 bt864.2.2.2.1))))))))))
def laws_FnBases.T15 : Bool × List (List Nat × List Nat) := (true, [([], []), ([0], [0]), ([1], [1]), ([2], [2]), ([2], [2]), ([3, 4, 2], [2, 3, 4]), ([2, 5], [2, 5]), ([6, 2], [6]), ([7], [7]), ([7], [7]), ([7], [7]), ([10, 7], [7, 10]), ([11, 7], [7, 11]), ([9, 12, 7], [7, 9, 12]), ([13, 7], [7, 13]), ([8, 14, 7], [7, 8, 14]), ([7, 15], [7, 15])])
def laws_FnBases.B15 : List Nat := [0, 1, 3, 7, 7, 31, 63, 127, 255, 255, 255, 1279, 3327, 7935, 16127, 32767, 65535]
theorem laws_FnBases.tab15 : rtab .any (opsOf Try.f9 15) = laws_FnBases.T15 := by kernel_rfl
theorem laws_FnBases.bits15 : waitsOk laws_FnBases.T15.2 laws_FnBases.B15 = true := by kernel_rfl
def laws_FnBases.T20 : Bool × List (List Nat × List Nat) := (true, [([], []), ([], []), ([], []), ([1, 2], [1, 2]), ([3], [3]), ([], []), ([0, 4, 5], [0, 4, 5]), ([6], [6]), ([7], [7]), ([7], [7]), ([], []), ([10, 8, 6, 0, 1, 2, 3, 4, 5, 6, 7, 8, 10], [8, 10]), ([9, 11, 0, 1, 2, 3, 4, 5, 6, 7, 8, 9, 10, 11], [9])])
def laws_FnBases.B20 : List Nat := [0, 0, 0, 6, 14, 0, 63, 127, 255, 255, 0, 1535, 4095]
theorem laws_FnBases.tab20 : rtab .any (opsOf Try.f9 20) = laws_FnBases.T20 := by kernel_rfl
theorem laws_FnBases.bits20 : waitsOk laws_FnBases.T20.2 laws_FnBases.B20 = true := by kernel_rfl
set_option maxHeartbeats 8000000 in
set_option maxRecDepth 100000 in
theorem laws_FnBases.calls (k : Nat) (A0 : Option Addr) (c0 : Nat) (l0 : List Int) (w : World) (hr0 : Kd.C (Kd.int .u8) w A0 l0.length l0) (hc0 : l0.length ≤ c0) (h : laws_FnBases.f k l0 = some true) :
  Calls Try.prog 9 #[.slice A0 l0.length c0] w fun e w' => e = .returned (.bool true) ∧ Below w.heap.size w w' := by
 have hu33 := Try.underlying33
 have hu47 := Try.underlying47
 have hu51 := Try.underlying51
 have HR0 := aM hr0
 have HC0 := aM hc0
 clear hr0 hc0
 have HB := aM (Below.refl w.heap.size w)
 have H : ((laws_big.f l0).bind fun t858 => (if t858 = true then (some true) else ((spec_DrawReducedBasis.f k l0).bind fun bt859 => ((impl_ReducedBasis.f k bt859.1 bt859.2.1 bt859.2.2.1 bt859.2.2.2).bind fun bt864 => ((spec_ReducedBasis.f k bt859.1 bt859.2.1 bt859.2.2.1 bt859.2.2.2).bind fun bt871 => ((impl_ShortestVecs.f k bt859.1 bt859.2.1 bt859.2.2.1 bt859.2.2.2).bind fun bt878 => ((spec_ShortestVecs.f k bt859.1 bt859.2.1 bt859.2.2.1 bt859.2.2.2).bind fun bt882 => ((impl_LatticeMats.f k bt859.1 bt859.2.1 bt859.2.2.1 bt859.2.2.2).bind fun bt886 => ((spec_LatticeMats.f k bt859.1 bt859.2.1 bt859.2.2.1 bt859.2.2.2).bind fun bt890 => (if bt864.2.2.2.2 = bt871.2.2.2.2 then (if (!(bt864.1 == bt871.1) || (!(bt864.2.1 == bt871.2.1))) = true then (laws_FnBases.j0 k bt859.1 bt864.2.2.2.2 bt878.1 bt882.1 bt886.1 true bt859.2.1 bt859.2.2.1 bt859.2.2.2 bt864.1 bt864.2.1 bt864.2.2.1 bt864.2.2.2.1) else (if (!(bt864.2.2.1 == bt871.2.2.1) || (!(bt864.2.2.2.1 == bt871.2.2.2.1))) = true then (laws_FnBases.j0 k bt859.1 bt864.2.2.2.2 bt878.1 bt882.1 bt886.1 true bt859.2.1 bt859.2.2.1 bt859.2.2.2 bt864.1 bt864.2.1 bt864.2.2.1 bt864.2.2.2.1) else (if bt878.2 = bt882.2 then ((laws_likeVecs9.f k bt878.1 bt882.1).bind fun t894 => (if t894 = true then (if bt886.2 = bt890.2 then ((laws_likeMats9.f k bt886.1 bt890.1).bind fun t895 => (laws_FnBases.j0 k bt859.1 bt864.2.2.2.2 bt878.1 bt882.1 bt886.1 (!t895) bt859.2.1 bt859.2.2.1 bt859.2.2.2 bt864.1 bt864.2.1 bt864.2.2.1 bt864.2.2.2.1)) else (laws_FnBases.j0 k bt859.1 bt864.2.2.2.2 bt878.1 bt882.1 bt886.1 true bt859.2.1 bt859.2.2.1 bt859.2.2.2 bt864.1 bt864.2.1 bt864.2.2.1 bt864.2.2.2.1)) else (laws_FnBases.j0 k bt859.1 bt864.2.2.2.2 bt878.1 bt882.1 bt886.1 true bt859.2.1 bt859.2.2.1 bt859.2.2.2 bt864.1 bt864.2.1 bt864.2.2.1 bt864.2.2.2.1))) else (laws_FnBases.j0 k bt859.1 bt864.2.2.2.2 bt878.1 bt882.1 bt886.1 true bt859.2.1 bt859.2.2.1 bt859.2.2.2 bt864.1 bt864.2.1 bt864.2.2.1 bt864.2.2.2.1)))) else (laws_FnBases.j0 k bt859.1 bt864.2.2.2.2 bt878.1 bt882.1 bt886.1 true bt859.2.1 bt859.2.2.1 bt859.2.2.2 bt864.1 bt864.2.1 bt864.2.2.1 bt864.2.2.2.1))))))))))) = some true := h
 clear h
 obtain ⟨t858, A2, H⟩ := oB H
 try dsimp only at H
 by_cases c3 : t858 = true
 ·subst c3
  have H1 : (some true) = some true := rfl
  clear H
  have H := H1
  clear H1
  clear H
  go_enter Try.func9, Try.ntmps9
  go_wp2_with (first | (refine gC 21 ?_; refine gM 25 (laws_big.calls _ _ l0 true _ (cD HR0.out) HC0.out A2.out) Try.func21 ?_; rintro w' ⟨⟨nd, rfl⟩⟩))
  go_ret
  exact ⟨qR, qB⟩
 ·replace c3 := Bool.eq_false_iff.mpr c3
  subst c3
  have H1 : ((spec_DrawReducedBasis.f k l0).bind fun bt859 => ((impl_ReducedBasis.f k bt859.1 bt859.2.1 bt859.2.2.1 bt859.2.2.2).bind fun bt864 => ((spec_ReducedBasis.f k bt859.1 bt859.2.1 bt859.2.2.1 bt859.2.2.2).bind fun bt871 => ((impl_ShortestVecs.f k bt859.1 bt859.2.1 bt859.2.2.1 bt859.2.2.2).bind fun bt878 => ((spec_ShortestVecs.f k bt859.1 bt859.2.1 bt859.2.2.1 bt859.2.2.2).bind fun bt882 => ((impl_LatticeMats.f k bt859.1 bt859.2.1 bt859.2.2.1 bt859.2.2.2).bind fun bt886 => ((spec_LatticeMats.f k bt859.1 bt859.2.1 bt859.2.2.1 bt859.2.2.2).bind fun bt890 => (if bt864.2.2.2.2 = bt871.2.2.2.2 then (if (!(bt864.1 == bt871.1) || (!(bt864.2.1 == bt871.2.1))) = true then (laws_FnBases.j0 k bt859.1 bt864.2.2.2.2 bt878.1 bt882.1 bt886.1 true bt859.2.1 bt859.2.2.1 bt859.2.2.2 bt864.1 bt864.2.1 bt864.2.2.1 bt864.2.2.2.1) else (if (!(bt864.2.2.1 == bt871.2.2.1) || (!(bt864.2.2.2.1 == bt871.2.2.2.1))) = true then (laws_FnBases.j0 k bt859.1 bt864.2.2.2.2 bt878.1 bt882.1 bt886.1 true bt859.2.1 bt859.2.2.1 bt859.2.2.2 bt864.1 bt864.2.1 bt864.2.2.1 bt864.2.2.2.1) else (if bt878.2 = bt882.2 then ((laws_likeVecs9.f k bt878.1 bt882.1).bind fun t894 => (if t894 = true then (if bt886.2 = bt890.2 then ((laws_likeMats9.f k bt886.1 bt890.1).bind fun t895 => (laws_FnBases.j0 k bt859.1 bt864.2.2.2.2 bt878.1 bt882.1 bt886.1 (!t895) bt859.2.1 bt859.2.2.1 bt859.2.2.2 bt864.1 bt864.2.1 bt864.2.2.1 bt864.2.2.2.1)) else (laws_FnBases.j0 k bt859.1 bt864.2.2.2.2 bt878.1 bt882.1 bt886.1 true bt859.2.1 bt859.2.2.1 bt859.2.2.2 bt864.1 bt864.2.1 bt864.2.2.1 bt864.2.2.2.1)) else (laws_FnBases.j0 k bt859.1 bt864.2.2.2.2 bt878.1 bt882.1 bt886.1 true bt859.2.1 bt859.2.2.1 bt859.2.2.2 bt864.1 bt864.2.1 bt864.2.2.1 bt864.2.2.2.1))) else (laws_FnBases.j0 k bt859.1 bt864.2.2.2.2 bt878.1 bt882.1 bt886.1 true bt859.2.1 bt859.2.2.1 bt859.2.2.2 bt864.1 bt864.2.1 bt864.2.2.1 bt864.2.2.2.1)))) else (laws_FnBases.j0 k bt859.1 bt864.2.2.2.2 bt878.1 bt882.1 bt886.1 true bt859.2.1 bt859.2.2.1 bt859.2.2.2 bt864.1 bt864.2.1 bt864.2.2.1 bt864.2.2.2.1))))))))) = some true := by rw [if_neg (show ¬ (false = true) by decide)] at H; exact H
  clear H
  have H := H1
  clear H1
  obtain ⟨⟨t859, t860, t861, t862⟩, A4, H⟩ := oB H
  try dsimp only at H
  obtain ⟨⟨t864, t865, t866, t867, t868⟩, A5, H⟩ := oB H
  try dsimp only at H
  obtain ⟨⟨t871, t872, t873, t874, t875⟩, A6, H⟩ := oB H
  try dsimp only at H
  obtain ⟨⟨t878, t881⟩, A7, H⟩ := oB H
  try dsimp only at H
  obtain ⟨⟨t882, t885⟩, A8, H⟩ := oB H
  try dsimp only at H
  obtain ⟨⟨t886, t889⟩, A9, H⟩ := oB H
  try dsimp only at H
  obtain ⟨⟨t890, t893⟩, A10, H⟩ := oB H
  try dsimp only at H
  have HC11 := aM H
  clear H
  go_enter Try.func9, Try.ntmps9
  go_upto_region 10 with (first | (refine gC 21 ?_; refine gM 25 (laws_big.calls _ _ l0 false _ (cD HR0.out) HC0.out A2.out) Try.func21 ?_; rintro w' ⟨⟨nd, rfl⟩⟩) | (refine gC 64 ?_; refine gM 28 (spec_DrawReducedBasis.calls k _ _ l0 t859 t860 t861 t862 _ (cD HR0.out) HC0.out A4.out) Try.func64 ?_; rintro w12 hb; replace HB := bS HB hb; (try clear hb)) | ((with_reducible refine gate_dst (N := 4) rfl ?_); (try (refine gate_guard (by rfl) ?_; dsimp only)); refine box_event ?hg (N := 4) ?hd (cs := #[.int .i64 0, .int .i64 0, .int .i64 0]) (t := 33) ?hr ?_; (case hd => rfl); (case hg => rfl); (case hr => first | (go_simp; done) | (go_simp; rfl)); intro gb863 hg w13 hbox hb; have BK863 := aM hbox; have GW863 := bZ hg HB; have GE863 := bZ hg HB; replace HB := bS HB hb; clear hb hbox hg; obtain ⟨hcz14_0, hcz14_1, hcz14_2⟩ := z3 BK863; obtain ⟨hfz14_0, hfz14_1, hfz14_2⟩ := y3 BK863) | (refine gC 65 ?_; refine gM 34 (impl_ReducedBasis.calls k t859 t860 t861 t862 t864 t865 t866 t867 t868 _ A5.out) Try.func65 ?_; rintro w15 hb; replace BK863 := bW (.cells #[.int .i64 t860, .int .i64 t861, .int .i64 t862] 33 (0, 0)) BK863 hb; replace HB := bS HB hb; (try clear hb)) | ((with_reducible refine gate_dst (N := 5) rfl ?_); (try (refine gate_guard (by rfl) ?_; dsimp only)); refine box_event ?hg (N := 5) ?hd (cs := #[.int .i64 0, .int .i64 0]) (t := 47) ?hr ?_; (case hd => rfl); (case hg => rfl); (case hr => first | (go_simp; done) | (go_simp; rfl)); intro gb869 hg w16 hbox hb; have BK869 := aM hbox; have GW869 := bZ hg HB; have GE869 := bZ hg HB; have NB863_869 := nL hg BK863; have NB869_863 := nG hg BK863; replace BK863 := bB BK863 hb; replace HB := bS HB hb; clear hb hbox hg) | ((with_reducible refine gate_dst (N := 6) rfl ?_); (try (refine gate_guard (by rfl) ?_; dsimp only)); refine box_event ?hg (N := 6) ?hd (cs := #[.int .i64 0, .int .i64 0]) (t := 47) ?hr ?_; (case hd => rfl); (case hg => rfl); (case hr => first | (go_simp; done) | (go_simp; rfl)); intro gb870 hg w17 hbox hb; have BK870 := aM hbox; have GW870 := bZ hg HB; have GE870 := bZ hg HB; have NB863_870 := nL hg BK863; have NB870_863 := nG hg BK863; have NB869_870 := nL hg BK869; have NB870_869 := nG hg BK869; replace BK863 := bB BK863 hb; replace BK869 := bB BK869 hb; replace HB := bS HB hb; clear hb hbox hg; have hnb18 := NB869_863.out; have hnc18 := NB863_869.out; have hnb19 := NB869_870.out; have hnc19 := NB870_869.out; obtain ⟨hcz20_0, hcz20_1⟩ := z2 BK869; obtain ⟨hfz20_0, hfz20_1⟩ := y2 BK869; have hnb21 := NB870_863.out; have hnc21 := NB863_870.out; obtain ⟨hcz22_0, hcz22_1⟩ := z2 BK870; obtain ⟨hfz22_0, hfz22_1⟩ := y2 BK870; obtain ⟨hcz23_0, hcz23_1, hcz23_2⟩ := z3 BK863; obtain ⟨hfz23_0, hfz23_1, hfz23_2⟩ := y3 BK863) | (refine gC 66 ?_; refine gM 41 (spec_ReducedBasis.calls k t859 t860 t861 t862 t871 t872 t873 t874 t875 _ A6.out) Try.func66 ?_; rintro w24 hb; replace BK863 := bF BK863 hb; replace BK869 := bW (.cells #[.int .i64 t864, .int .i64 t865] 47 (0, 0)) BK869 hb; replace BK870 := bW (.cells #[.int .i64 t866, .int .i64 t867] 47 (0, 0)) BK870 hb; replace HB := bS HB hb; (try clear hb)) | ((with_reducible refine gate_dst (N := 8) rfl ?_); (try (refine gate_guard (by rfl) ?_; dsimp only)); refine box_event ?hg (N := 8) ?hd (cs := #[.int .i64 0, .int .i64 0]) (t := 47) ?hr ?_; (case hd => rfl); (case hg => rfl); (case hr => first | (go_simp; done) | (go_simp; rfl)); intro gb876 hg w25 hbox hb; have BK876 := aM hbox; have GW876 := bZ hg HB; have GE876 := bZ hg HB; have NB863_876 := nL hg BK863; have NB876_863 := nG hg BK863; have NB869_876 := nL hg BK869; have NB876_869 := nG hg BK869; have NB870_876 := nL hg BK870; have NB876_870 := nG hg BK870; replace BK863 := bB BK863 hb; replace BK869 := bB BK869 hb; replace BK870 := bB BK870 hb; replace HB := bS HB hb; clear hb hbox hg) | ((with_reducible refine gate_dst (N := 9) rfl ?_); (try (refine gate_guard (by rfl) ?_; dsimp only)); refine box_event ?hg (N := 9) ?hd (cs := #[.int .i64 0, .int .i64 0]) (t := 47) ?hr ?_; (case hd => rfl); (case hg => rfl); (case hr => first | (go_simp; done) | (go_simp; rfl)); intro gb877 hg w26 hbox hb; have BK877 := aM hbox; have GW877 := bZ hg HB; have GE877 := bZ hg HB; have NB863_877 := nL hg BK863; have NB877_863 := nG hg BK863; have NB869_877 := nL hg BK869; have NB877_869 := nG hg BK869; have NB870_877 := nL hg BK870; have NB877_870 := nG hg BK870; have NB876_877 := nL hg BK876; have NB877_876 := nG hg BK876; replace BK863 := bB BK863 hb; replace BK869 := bB BK869 hb; replace BK870 := bB BK870 hb; replace BK876 := bB BK876 hb; replace HB := bS HB hb; clear hb hbox hg; have hnb27 := NB876_863.out; have hnc27 := NB863_876.out; have hnb28 := NB876_869.out; have hnc28 := NB869_876.out; have hnb29 := NB876_870.out; have hnc29 := NB870_876.out; have hnb30 := NB876_877.out; have hnc30 := NB877_876.out; obtain ⟨hcz31_0, hcz31_1⟩ := z2 BK876; obtain ⟨hfz31_0, hfz31_1⟩ := y2 BK876; have hnb32 := NB877_863.out; have hnc32 := NB863_877.out; have hnb33 := NB877_869.out; have hnc33 := NB869_877.out; have hnb34 := NB877_870.out; have hnc34 := NB870_877.out; obtain ⟨hcz35_0, hcz35_1⟩ := z2 BK877; obtain ⟨hfz35_0, hfz35_1⟩ := y2 BK877; obtain ⟨hcz36_0, hcz36_1, hcz36_2⟩ := z3 BK863; obtain ⟨hfz36_0, hfz36_1, hfz36_2⟩ := y3 BK863) | ((with_reducible refine gate_callee (f := 67) rfl ?_); refine goesL_ (some 48) rfl rfl Try.func67 (by kernel_rfl) rfl #[.int .i64 t859, .agg #[.int .i64 t860, .int .i64 t861, .int .i64 t862]] rfl (by first|rfl|(simp only [List.map_toArray, List.map_cons, List.map_nil]; try rfl)) ?_; (with_reducible refine (impl_ShortestVecs.calls k t859 t860 t861 t862 t878 t881 _ A7.out).mono ?_); rintro e w37 ⟨v879, rfl, ho0, hb⟩; refine ⟨_, rfl, ?_⟩; have HO880 := aM (Kd.R_lower (Kd.R_newB (Kd.R_newB (Kd.R_newB (Kd.R_newB ho0 (g := gb869) (o := .cells #[.int .i64 t864, .int .i64 t865] 47 (0, 0)) (by (repeat (first|(with_reducible first|apply kN|apply kD|apply kA)|refine blk_far ?_ NB869_877.out _|refine blk_far ?_ NB869_876.out _)); exact BK869.out)) (g := gb870) (o := .cells #[.int .i64 t866, .int .i64 t867] 47 (0, 0)) (by (repeat (first|(with_reducible first|apply kN|apply kD|apply kA)|refine blk_far ?_ NB870_877.out _|refine blk_far ?_ NB870_876.out _)); exact BK870.out)) (g := gb876) (o := .cells #[.int .i64 t871, .int .i64 t872] 47 (0, 0)) (by (repeat (first|(with_reducible first|apply kN|apply kD|apply kA)|refine blk_far ?_ NB876_877.out _)); refine blk_put (cs := #[.int .i64 t871, .int .i64 0]) ?_ 1 _ rfl; (with_reducible repeat (first|apply kN|apply kD|apply kA)); refine blk_put (cs := #[.int .i64 0, .int .i64 0]) ?_ 0 _ rfl; (with_reducible repeat (first|apply kN|apply kD|apply kA)); exact BK876.out)) (g := gb877) (o := .cells #[.int .i64 t873, .int .i64 t874] 47 (0, 0)) (by (with_reducible repeat (first|apply kN|apply kD|apply kA)); refine blk_put (cs := #[.int .i64 t873, .int .i64 0]) ?_ 1 _ rfl; (with_reducible repeat (first|apply kN|apply kD|apply kA)); refine blk_put (cs := #[.int .i64 0, .int .i64 0]) ?_ 0 _ rfl; (repeat (first|(with_reducible first|apply kN|apply kD|apply kA)|refine blk_far ?_ NB877_876.out _)); exact BK877.out)) (below_size qB)); replace BK863 := bF BK863 hb; replace BK869 := bF BK869 hb; replace BK870 := bF BK870 hb; replace BK876 := bW (.cells #[.int .i64 t871, .int .i64 t872] 47 (0, 0)) BK876 hb; replace BK877 := bW (.cells #[.int .i64 t873, .int .i64 t874] 47 (0, 0)) BK877 hb; replace HB := bS HB hb; (try clear hb); (try clear ho0); obtain ⟨hcz38_0, hcz38_1, hcz38_2⟩ := z3 BK863; obtain ⟨hfz38_0, hfz38_1, hfz38_2⟩ := y3 BK863) | ((with_reducible refine gate_callee (f := 68) rfl ?_); refine goesL_ (some 54) rfl rfl Try.func68 (by kernel_rfl) rfl #[.int .i64 t859, .agg #[.int .i64 t860, .int .i64 t861, .int .i64 t862]] rfl (by first|rfl|(simp only [List.map_toArray, List.map_cons, List.map_nil]; try rfl)) ?_; (with_reducible refine (spec_ShortestVecs.calls k t859 t860 t861 t862 t882 t885 _ A8.out).mono ?_); rintro e w39 ⟨v883, rfl, ho0, hb⟩; refine ⟨_, rfl, ?_⟩; have HO884 := aM (Kd.R_lower (Kd.R_newB (Kd.R_newB (Kd.R_newB (Kd.R_newB (Kd.R_new' ho0 (Kd.R_lt (by (with_reducible repeat (first | apply Kd.R_alloc | apply Kd.R_drewN | apply Kd.R_drew)); exact HO880.out))) (g := gb869) (o := .cells #[.int .i64 t864, .int .i64 t865] 47 (0, 0)) (bk BK869)) (g := gb870) (o := .cells #[.int .i64 t866, .int .i64 t867] 47 (0, 0)) (bk BK870)) (g := gb876) (o := .cells #[.int .i64 t871, .int .i64 t872] 47 (0, 0)) (bk BK876)) (g := gb877) (o := .cells #[.int .i64 t873, .int .i64 t874] 47 (0, 0)) (bk BK877)) (below_size qB)); replace HO880 := aM (Kd.R_elder' (by (with_reducible repeat (first | apply Kd.R_alloc | apply Kd.R_drewN | apply Kd.R_drew)); exact HO880.out) (Kd.R_base ho0) hb); replace BK863 := bB BK863 hb; replace BK869 := bB BK869 hb; replace BK870 := bB BK870 hb; replace BK876 := bB BK876 hb; replace BK877 := bB BK877 hb; replace HB := bS HB hb; (try clear hb); (try clear ho0); obtain ⟨hcz40_0, hcz40_1, hcz40_2⟩ := z3 BK863; obtain ⟨hfz40_0, hfz40_1, hfz40_2⟩ := y3 BK863) | ((with_reducible refine gate_callee (f := 17) rfl ?_); refine goesL_ (some 60) rfl rfl Try.func17 (by kernel_rfl) rfl #[.int .i64 t859, .agg #[.int .i64 t860, .int .i64 t861, .int .i64 t862]] rfl (by first|rfl|(simp only [List.map_toArray, List.map_cons, List.map_nil]; try rfl)) ?_; (with_reducible refine (impl_LatticeMats.calls k t859 t860 t861 t862 t886 t889 _ A9.out).mono ?_); rintro e w41 ⟨v887, rfl, ho0, hb⟩; refine ⟨_, rfl, ?_⟩; have HO888 := aM (Kd.R_lower ho0 (below_size qB)); replace HO880 := aM (Kd.R_below (by (with_reducible repeat (first | apply Kd.R_alloc | apply Kd.R_drewN | apply Kd.R_drew)); exact HO880.out) hb); replace HO884 := aM (Kd.R_below (by (with_reducible repeat (first | apply Kd.R_alloc | apply Kd.R_drewN | apply Kd.R_drew)); exact HO884.out) hb); replace BK863 := bB BK863 hb; replace BK869 := bB BK869 hb; replace BK870 := bB BK870 hb; replace BK876 := bB BK876 hb; replace BK877 := bB BK877 hb; replace HB := bS HB hb; (try clear hb); (try clear ho0); obtain ⟨hcz42_0, hcz42_1, hcz42_2⟩ := z3 BK863; obtain ⟨hfz42_0, hfz42_1, hfz42_2⟩ := y3 BK863) | ((with_reducible refine gate_callee (f := 15) rfl ?_); refine goesL_ (some 66) rfl rfl Try.func15 (by kernel_rfl) rfl #[.int .i64 t859, .agg #[.int .i64 t860, .int .i64 t861, .int .i64 t862]] rfl (by first|rfl|(simp only [List.map_toArray, List.map_cons, List.map_nil]; try rfl)) ?_; (with_reducible refine (spec_LatticeMats.calls k t859 t860 t861 t862 t890 t893 _ A10.out).mono ?_); rintro e w43 ⟨v891, rfl, ho0, hb⟩; refine ⟨_, rfl, ?_⟩; have HO892 := aM (Kd.R_lower (Kd.R_new' ho0 (Kd.R_lt (by (with_reducible repeat (first | apply Kd.R_alloc | apply Kd.R_drewN | apply Kd.R_drew)); exact HO888.out))) (below_size qB)); replace HO880 := aM (Kd.R_below (by (with_reducible repeat (first | apply Kd.R_alloc | apply Kd.R_drewN | apply Kd.R_drew)); exact HO880.out) hb); replace HO884 := aM (Kd.R_below (by (with_reducible repeat (first | apply Kd.R_alloc | apply Kd.R_drewN | apply Kd.R_drew)); exact HO884.out) hb); replace HO888 := aM (Kd.R_elder' (by (with_reducible repeat (first | apply Kd.R_alloc | apply Kd.R_drewN | apply Kd.R_drew)); exact HO888.out) (Kd.R_base ho0) hb); replace BK863 := bB BK863 hb; replace BK869 := bB BK869 hb; replace BK870 := bB BK870 hb; replace BK876 := bB BK876 hb; replace BK877 := bB BK877 hb; replace HB := bS HB hb; (try clear hb); (try clear ho0)))
  (try simp only [Act.put, List.setIfInBounds_toArray, List.set_cons_zero, List.set_cons_succ])
  go_cut [103] (fun v103 wc => ∃ (kq : Nat) (x103_10 : Bool), v103 = .bool x103_10 ∧ Aside0 (laws_FnBases.j0 kq t859 t868 t878 t882 t886 x103_10 t860 t861 t862 t864 t865 t866 t867 = some true) ∧ Aside0 (kq ≤ k) ∧ Aside0 (Kd.R k47 47 wc w.heap.size (fun k_ => some k_ ≠ (v883 : Value).ownBlock ∧ k_ ≠ gb869 ∧ k_ ≠ gb870 ∧ k_ ≠ gb876 ∧ k_ ≠ gb877) v879 t878) ∧ Aside0 (Kd.R k47 47 wc w.heap.size (fun k_ => some k_ ≠ (v879 : Value).ownBlock ∧ k_ ≠ gb869 ∧ k_ ≠ gb870 ∧ k_ ≠ gb876 ∧ k_ ≠ gb877) v883 t882) ∧ Aside0 (Kd.R k51 51 wc w.heap.size (fun _ => True) v887 t886) ∧ Aside0 (wc.heap[gb863]? = some (.cells #[.int .i64 t860, .int .i64 t861, .int .i64 t862] 33 (0, 0))) ∧ Aside0 (wc.heap[gb869]? = some (.cells #[.int .i64 t864, .int .i64 t865] 47 (0, 0))) ∧ Aside0 (wc.heap[gb870]? = some (.cells #[.int .i64 t866, .int .i64 t867] 47 (0, 0))) ∧ Aside0 (wc.heap[gb876]? = some (.cells #[.int .i64 t871, .int .i64 t872] 47 (0, 0))) ∧ Aside0 (wc.heap[gb877]? = some (.cells #[.int .i64 t873, .int .i64 t874] 47 (0, 0))) ∧ Aside0 (Below w.heap.size w wc))
  case first =>
   have H := HC11.out
   clear HC11
   by_cases c44 : t868 = t875
   ·rw [if_pos c44] at H
    have c44b0 : (t868 == t875) = true := beq_iff_eq.mpr c44
    have c44b1 : (t868 != t875) = false := bne_eq_false_iff_eq.mpr c44
    clear c44
    (first | rw [c44b0] | (simp only [i64_w, i32_w]; rw [c44b0]) | skip)
    by_cases c45 : (!(t864 == t871) || (!(t865 == t872))) = true
    ·rw [if_pos c45] at H
     exact absurd H (by cases k <;> simp [laws_FnBases.j0])
    ·rw [if_neg c45] at H
     have c45b0 : (!(t864 == t871) || (!(t865 == t872))) = false := by simpa using c45
     clear c45
     by_cases c55 : (!(t866 == t873) || (!(t867 == t874))) = true
     ·rw [if_pos c55] at H
      exact absurd H (by cases k <;> simp [laws_FnBases.j0])
     ·rw [if_neg c55] at H
      have c55b0 : (!(t866 == t873) || (!(t867 == t874))) = false := by simpa using c55
      clear c55
      by_cases c70 : t881 = t885
      ·rw [if_pos c70] at H
       have c70b0 : (t881 == t885) = true := beq_iff_eq.mpr c70
       have c70b1 : (t881 != t885) = false := bne_eq_false_iff_eq.mpr c70
       clear c70
       obtain ⟨t894, A71, H⟩ := oB H
       try dsimp only at H
       by_cases c72 : t894 = true
       ·subst c72
        have H1 : (if t889 = t893 then ((laws_likeMats9.f k t886 t890).bind fun t895 => (laws_FnBases.j0 k t859 t868 t878 t882 t886 (!t895) t860 t861 t862 t864 t865 t866 t867)) else (laws_FnBases.j0 k t859 t868 t878 t882 t886 true t860 t861 t862 t864 t865 t866 t867)) = some true := by rw [if_pos rfl] at H; exact H
        clear H
        have H := H1
        clear H1
        by_cases c73 : t889 = t893
        ·rw [if_pos c73] at H
         have c73b0 : (t889 == t893) = true := beq_iff_eq.mpr c73
         have c73b1 : (t889 != t893) = false := bne_eq_false_iff_eq.mpr c73
         clear c73
         obtain ⟨t895, A74, H⟩ := oB H
         try dsimp only at H
         have H' := aM H
         clear H
         have hnb75 := NB869_863.out
         have hnc75 := NB863_869.out
         have hnb76 := NB869_870.out
         have hnc76 := NB870_869.out
         have hnb77 := NB869_876.out
         have hnc77 := NB876_869.out
         have hnb78 := NB869_877.out
         have hnc78 := NB877_869.out
         obtain ⟨hcz79_0, hcz79_1⟩ := z2 BK869
         obtain ⟨hfz79_0, hfz79_1⟩ := y2 BK869
         have hnb80 := NB876_863.out
         have hnc80 := NB863_876.out
         have hnb81 := NB876_870.out
         have hnc81 := NB870_876.out
         have hnb82 := NB876_877.out
         have hnc82 := NB877_876.out
         obtain ⟨hcz83_0, hcz83_1⟩ := z2 BK876
         obtain ⟨hfz83_0, hfz83_1⟩ := y2 BK876
         have hnb84 := NB870_863.out
         have hnc84 := NB863_870.out
         have hnb85 := NB870_877.out
         have hnc85 := NB877_870.out
         obtain ⟨hcz86_0, hcz86_1⟩ := z2 BK870
         obtain ⟨hfz86_0, hfz86_1⟩ := y2 BK870
         have hnb87 := NB877_863.out
         have hnc87 := NB863_877.out
         obtain ⟨hcz88_0, hcz88_1⟩ := z2 BK877
         obtain ⟨hfz88_0, hfz88_1⟩ := y2 BK877
         obtain ⟨Ao89, co89, eo89⟩ := Kd.R_slice HO880.out
         subst eo89
         obtain ⟨Ao90, co90, eo90⟩ := Kd.R_slice HO884.out
         subst eo90
         go_wp2_with (first | (go_at_call 23; (with_reducible refine (laws_likeVecs9.calls k _ _ t878 _ _ t882 true _ ?side1 ?side2 ?side3 ?side4 A71.out).mono ?_); (case side1 => repeat (first | exact (Kd.R_reads' HO880.out).2.2 | (with_reducible refine Kd.C_alloc ?_ _) | (with_reducible refine Kd.C_drewN ?_ _) | (with_reducible refine Kd.C_drew ?_))); (case side2 => exact (Kd.R_reads' HO880.out).2.1); (case side3 => repeat (first | exact (Kd.R_reads' HO884.out).2.2 | (with_reducible refine Kd.C_alloc ?_ _) | (with_reducible refine Kd.C_drewN ?_ _) | (with_reducible refine Kd.C_drew ?_))); (case side4 => exact (Kd.R_reads' HO884.out).2.1); rintro e w' ⟨rfl, ⟨nd, rfl⟩⟩; obtain ⟨Ao91, co91, eo91⟩ := Kd.R_slice HO888.out; subst eo91; obtain ⟨Ao92, co92, eo92⟩ := Kd.R_slice HO892.out; subst eo92) | (go_at_call 59; (with_reducible refine (laws_likeMats9.calls k _ _ t886 _ _ t890 t895 _ ?side1 ?side2 ?side3 ?side4 A74.out).mono ?_); (case side1 => repeat (first | exact (Kd.R_reads' HO888.out).2.2 | (with_reducible refine Kd.C_alloc ?_ _) | (with_reducible refine Kd.C_drewN ?_ _) | (with_reducible refine Kd.C_drew ?_))); (case side2 => exact (Kd.R_reads' HO888.out).2.1); (case side3 => repeat (first | exact (Kd.R_reads' HO892.out).2.2 | (with_reducible refine Kd.C_alloc ?_ _) | (with_reducible refine Kd.C_drewN ?_ _) | (with_reducible refine Kd.C_drew ?_))); (case side4 => exact (Kd.R_reads' HO892.out).2.1); rintro e w' ⟨rfl, ⟨nd, rfl⟩⟩))
         go_meet
         case rel => exact ⟨_, (!t895), (by first | rfl | (simp; done) | (simp [*]; done)), H', ⟨by first | omega | exact Nat.le_refl _⟩, ⟨by (with_reducible repeat (first | apply Kd.R_alloc | apply Kd.R_drewN | apply Kd.R_drew)); exact Kd.R_mono HO880.out (fun _ hk => ⟨hk.2, ⟨hk.1.1.1.1.2, ⟨hk.1.1.1.2, ⟨hk.1.1.2, hk.1.2⟩⟩⟩⟩)⟩, ⟨by (with_reducible repeat (first | apply Kd.R_alloc | apply Kd.R_drewN | apply Kd.R_drew)); exact Kd.R_mono HO884.out (fun _ hk => ⟨hk.1.1.1.1.2, ⟨hk.1.1.1.2, ⟨hk.1.1.2, ⟨hk.1.2, hk.2⟩⟩⟩⟩)⟩, ⟨by (with_reducible repeat (first | apply Kd.R_alloc | apply Kd.R_drewN | apply Kd.R_drew)); exact Kd.R_mono HO888.out (fun _ hk => trivial)⟩, ⟨bk BK863⟩, ⟨bk BK869⟩, ⟨bk BK870⟩, ⟨bk BK876⟩, ⟨bk BK877⟩, ⟨qB⟩⟩
        ·rw [if_neg c73] at H
         exact absurd H (by cases k <;> simp [laws_FnBases.j0])
       ·replace c72 := Bool.eq_false_iff.mpr c72
        subst c72
        have H1 : (laws_FnBases.j0 k t859 t868 t878 t882 t886 true t860 t861 t862 t864 t865 t866 t867) = some true := by rw [if_neg (show ¬ (false = true) by decide)] at H; exact H
        clear H
        have H := H1
        clear H1
        have H' := aM H
        clear H
        have hnb109 := NB869_863.out
        have hnc109 := NB863_869.out
        have hnb110 := NB869_870.out
        have hnc110 := NB870_869.out
        have hnb111 := NB869_876.out
        have hnc111 := NB876_869.out
        have hnb112 := NB869_877.out
        have hnc112 := NB877_869.out
        obtain ⟨hcz113_0, hcz113_1⟩ := z2 BK869
        obtain ⟨hfz113_0, hfz113_1⟩ := y2 BK869
        have hnb114 := NB876_863.out
        have hnc114 := NB863_876.out
        have hnb115 := NB876_870.out
        have hnc115 := NB870_876.out
        have hnb116 := NB876_877.out
        have hnc116 := NB877_876.out
        obtain ⟨hcz117_0, hcz117_1⟩ := z2 BK876
        obtain ⟨hfz117_0, hfz117_1⟩ := y2 BK876
        have hnb118 := NB870_863.out
        have hnc118 := NB863_870.out
        have hnb119 := NB870_877.out
        have hnc119 := NB877_870.out
        obtain ⟨hcz120_0, hcz120_1⟩ := z2 BK870
        obtain ⟨hfz120_0, hfz120_1⟩ := y2 BK870
        have hnb121 := NB877_863.out
        have hnc121 := NB863_877.out
        obtain ⟨hcz122_0, hcz122_1⟩ := z2 BK877
        obtain ⟨hfz122_0, hfz122_1⟩ := y2 BK877
        obtain ⟨Ao123, co123, eo123⟩ := Kd.R_slice HO880.out
        subst eo123
        obtain ⟨Ao124, co124, eo124⟩ := Kd.R_slice HO884.out
        subst eo124
        go_wp2_with (first | (go_at_call 23; (with_reducible refine (laws_likeVecs9.calls k _ _ t878 _ _ t882 false _ ?side1 ?side2 ?side3 ?side4 A71.out).mono ?_); (case side1 => repeat (first | exact (Kd.R_reads' HO880.out).2.2 | (with_reducible refine Kd.C_alloc ?_ _) | (with_reducible refine Kd.C_drewN ?_ _) | (with_reducible refine Kd.C_drew ?_))); (case side2 => exact (Kd.R_reads' HO880.out).2.1); (case side3 => repeat (first | exact (Kd.R_reads' HO884.out).2.2 | (with_reducible refine Kd.C_alloc ?_ _) | (with_reducible refine Kd.C_drewN ?_ _) | (with_reducible refine Kd.C_drew ?_))); (case side4 => exact (Kd.R_reads' HO884.out).2.1); rintro e w' ⟨rfl, ⟨nd, rfl⟩⟩))
        go_meet
        case rel => exact ⟨_, (true), (by first | rfl | (simp; done) | (simp [*]; done)), H', ⟨by first | omega | exact Nat.le_refl _⟩, ⟨by (with_reducible repeat (first | apply Kd.R_alloc | apply Kd.R_drewN | apply Kd.R_drew)); exact Kd.R_mono HO880.out (fun _ hk => ⟨hk.2, ⟨hk.1.1.1.1.2, ⟨hk.1.1.1.2, ⟨hk.1.1.2, hk.1.2⟩⟩⟩⟩)⟩, ⟨by (with_reducible repeat (first | apply Kd.R_alloc | apply Kd.R_drewN | apply Kd.R_drew)); exact Kd.R_mono HO884.out (fun _ hk => ⟨hk.1.1.1.1.2, ⟨hk.1.1.1.2, ⟨hk.1.1.2, ⟨hk.1.2, hk.2⟩⟩⟩⟩)⟩, ⟨by (with_reducible repeat (first | apply Kd.R_alloc | apply Kd.R_drewN | apply Kd.R_drew)); exact Kd.R_mono HO888.out (fun _ hk => trivial)⟩, ⟨bk BK863⟩, ⟨bk BK869⟩, ⟨bk BK870⟩, ⟨bk BK876⟩, ⟨bk BK877⟩, ⟨qB⟩⟩
      ·rw [if_neg c70] at H
       exact absurd H (by cases k <;> simp [laws_FnBases.j0])
   ·rw [if_neg c44] at H
    exact absurd H (by cases k <;> simp [laws_FnBases.j0])
  case rest =>
   clear HC11
   try clear c1
   try clear c2
   try clear p2
   try clear c3
   try clear c4
   try clear c5
   try clear c6
   try clear c7
   try clear c8
   try clear c9
   try clear c10
   try clear c11
   try clear c12
   try clear c13
   try clear c15
   try clear c17
   try clear c18
   try clear c19
   try clear c21
   try clear c27
   try clear c28
   try clear c29
   try clear c30
   try clear c32
   try clear c33
   try clear c34
   try clear c44
   try clear c44b0
   try clear c44b1
   try clear c45
   try clear c45b0
   try clear c46
   try clear c47
   try clear c48
   try clear c49
   try clear c51
   try clear c52
   try clear c53
   try clear c55
   try clear c55b0
   try clear c56
   try clear c57
   try clear c58
   try clear c59
   try clear c61
   try clear c62
   try clear c63
   try clear c64
   try clear c65
   try clear c66
   try clear c67
   try clear c68
   try clear c70
   try clear c70b0
   try clear c70b1
   try clear c72
   try clear c73
   try clear c73b0
   try clear c73b1
   try clear c75
   try clear c76
   try clear c77
   try clear c78
   try clear c80
   try clear c81
   try clear c82
   try clear c84
   try clear c85
   try clear c87
   try clear c93
   try clear c94
   try clear c95
   try clear c96
   try clear c98
   try clear c99
   try clear c100
   try clear c102
   try clear c103
   try clear c105
   try clear c109
   try clear c110
   try clear c111
   try clear c112
   try clear c114
   try clear c115
   try clear c116
   try clear c118
   try clear c119
   try clear c121
   try clear c125
   try clear c126
   try clear c127
   try clear c128
   try clear c130
   try clear c131
   try clear c132
   try clear c134
   try clear c135
   try clear c137
   try clear hcz101_0
   try clear hcz101_1
   try clear hcz104_0
   try clear hcz104_1
   try clear hcz106_0
   try clear hcz106_1
   try clear hcz113_0
   try clear hcz113_1
   try clear hcz117_0
   try clear hcz117_1
   try clear hcz120_0
   try clear hcz120_1
   try clear hcz122_0
   try clear hcz122_1
   try clear hcz129_0
   try clear hcz129_1
   try clear hcz133_0
   try clear hcz133_1
   try clear hcz136_0
   try clear hcz136_1
   try clear hcz138_0
   try clear hcz138_1
   try clear hcz14_0
   try clear hcz14_1
   try clear hcz14_2
   try clear hcz20_0
   try clear hcz20_1
   try clear hcz22_0
   try clear hcz22_1
   try clear hcz23_0
   try clear hcz23_1
   try clear hcz23_2
   try clear hcz31_0
   try clear hcz31_1
   try clear hcz35_0
   try clear hcz35_1
   try clear hcz36_0
   try clear hcz36_1
   try clear hcz36_2
   try clear hcz38_0
   try clear hcz38_1
   try clear hcz38_2
   try clear hcz40_0
   try clear hcz40_1
   try clear hcz40_2
   try clear hcz42_0
   try clear hcz42_1
   try clear hcz42_2
   try clear hcz50_0
   try clear hcz50_1
   try clear hcz54_0
   try clear hcz54_1
   try clear hcz60_0
   try clear hcz60_1
   try clear hcz64_0
   try clear hcz64_1
   try clear hcz67_0
   try clear hcz67_1
   try clear hcz69_0
   try clear hcz69_1
   try clear hcz79_0
   try clear hcz79_1
   try clear hcz83_0
   try clear hcz83_1
   try clear hcz86_0
   try clear hcz86_1
   try clear hcz88_0
   try clear hcz88_1
   try clear hcz97_0
   try clear hcz97_1
   try clear hfz101_0
   try clear hfz101_1
   try clear hfz104_0
   try clear hfz104_1
   try clear hfz106_0
   try clear hfz106_1
   try clear hfz113_0
   try clear hfz113_1
   try clear hfz117_0
   try clear hfz117_1
   try clear hfz120_0
   try clear hfz120_1
   try clear hfz122_0
   try clear hfz122_1
   try clear hfz129_0
   try clear hfz129_1
   try clear hfz133_0
   try clear hfz133_1
   try clear hfz136_0
   try clear hfz136_1
   try clear hfz138_0
   try clear hfz138_1
   try clear hfz14_0
   try clear hfz14_1
   try clear hfz14_2
   try clear hfz20_0
   try clear hfz20_1
   try clear hfz22_0
   try clear hfz22_1
   try clear hfz23_0
   try clear hfz23_1
   try clear hfz23_2
   try clear hfz31_0
   try clear hfz31_1
   try clear hfz35_0
   try clear hfz35_1
   try clear hfz36_0
   try clear hfz36_1
   try clear hfz36_2
   try clear hfz38_0
   try clear hfz38_1
   try clear hfz38_2
   try clear hfz40_0
   try clear hfz40_1
   try clear hfz40_2
   try clear hfz42_0
   try clear hfz42_1
   try clear hfz42_2
   try clear hfz50_0
   try clear hfz50_1
   try clear hfz54_0
   try clear hfz54_1
   try clear hfz60_0
   try clear hfz60_1
   try clear hfz64_0
   try clear hfz64_1
   try clear hfz67_0
   try clear hfz67_1
   try clear hfz69_0
   try clear hfz69_1
   try clear hfz79_0
   try clear hfz79_1
   try clear hfz83_0
   try clear hfz83_1
   try clear hfz86_0
   try clear hfz86_1
   try clear hfz88_0
   try clear hfz88_1
   try clear hfz97_0
   try clear hfz97_1
   obtain ⟨kq, x103_10, rfl, HA, HJ10, HO_11, HO_13, HO_15, BK863, BK869, BK870, BK876, BK877, HB⟩ := hcut
   cases kq with
   | zero => exact absurd HA.out (by simp [laws_FnBases.j0])
   | succ kj10 =>
    have H := HA.out
    clear HA
    simp only [laws_FnBases.j0] at H
    by_cases c139 : x103_10 = true
    ·subst c139
     have H1 : (some false) = some true := by rw [if_pos rfl] at H; exact H
     clear H
     have H := H1
     clear H1
     exact absurd (Option.some.inj H) (by decide)
    ·replace c139 := Bool.eq_false_iff.mpr c139
     subst c139
     have H1 : (if t868 = 0 then ((impl_LatticeOf.f kj10 t864 t865 t866 t867).bind fun bt896 => (if bt896.2.2.2 = 0 then (if (!(bt896.1 == t860) || (!(bt896.2.1 == t861) || (!(bt896.2.2.1 == t862)))) = true then (laws_FnBases.j1 kj10 t859 t886 true t860 t861 t862) else (if 0 ≤ (wrap64 ((t882.length : Int) - 1)) then (if (wrap64 ((t882.length : Int) - 1)) < (t878.length : Int) then (laws_FnBases.j1 kj10 t859 t886 (!(t864 == ((rd_T47 t878 (wrap64 ((t882.length : Int) - 1))).f0)) || (!(t865 == ((rd_T47 t878 (wrap64 ((t882.length : Int) - 1))).f1)))) t860 t861 t862) else (none)) else (none))) else (laws_FnBases.j1 kj10 t859 t886 true t860 t861 t862))) else (some true)) = some true := by rw [if_neg (show ¬ (false = true) by decide)] at H; exact H
     clear H
     have H := H1
     clear H1
     by_cases c140 : t868 = 0
     ·rw [if_pos c140] at H
      have c140b0 : (t868 == 0) = true := beq_iff_eq.mpr c140
      have c140b1 : (t868 != 0) = false := bne_eq_false_iff_eq.mpr c140
      clear c140
      obtain ⟨⟨t896, t897, t898, t899⟩, A141, H⟩ := oB H
      try dsimp only at H
      have HC142 := aM H
      clear H
      have hnb143 := NB869_863.out
      have hnc143 := NB863_869.out
      have hnb144 := NB869_870.out
      have hnc144 := NB870_869.out
      have hnb145 := NB869_876.out
      have hnc145 := NB876_869.out
      have hnb146 := NB869_877.out
      have hnc146 := NB877_869.out
      obtain ⟨hcz147_0, hcz147_1⟩ := z2 BK869
      obtain ⟨hfz147_0, hfz147_1⟩ := y2 BK869
      have hnb148 := NB870_863.out
      have hnc148 := NB863_870.out
      have hnb149 := NB870_876.out
      have hnc149 := NB876_870.out
      have hnb150 := NB870_877.out
      have hnc150 := NB877_870.out
      obtain ⟨hcz151_0, hcz151_1⟩ := z2 BK870
      obtain ⟨hfz151_0, hfz151_1⟩ := y2 BK870
      go_upto_region 15 with (first | (refine gC 69 ?_; refine gM 109 (impl_LatticeOf.calls kj10 t864 t865 t866 t867 t896 t897 t898 t899 _ A141.out) Try.func69 ?_; rintro w152 hb; replace HO_11 := aM (Kd.R_below (by (with_reducible repeat (first | apply Kd.R_alloc | apply Kd.R_drewN | apply Kd.R_drew)); exact HO_11.out) hb); replace HO_13 := aM (Kd.R_below (by (with_reducible repeat (first | apply Kd.R_alloc | apply Kd.R_drewN | apply Kd.R_drew)); exact HO_13.out) hb); replace HO_15 := aM (Kd.R_below (by (with_reducible repeat (first | apply Kd.R_alloc | apply Kd.R_drewN | apply Kd.R_drew)); exact HO_15.out) hb); replace BK863 := bB BK863 hb; replace BK869 := bB BK869 hb; replace BK870 := bB BK870 hb; replace BK876 := bB BK876 hb; replace BK877 := bB BK877 hb; replace HB := bS HB hb; (try clear hb)) | ((with_reducible refine gate_dst (N := 19) rfl ?_); (try (refine gate_guard (by rfl) ?_; dsimp only)); refine box_event ?hg (N := 19) ?hd (cs := #[.int .i64 0, .int .i64 0, .int .i64 0]) (t := 33) ?hr ?_; (case hd => rfl); (case hg => rfl); (case hr => first | (go_simp; done) | (go_simp; rfl)); intro gb900 hg w153 hbox hb; have BK900 := aM hbox; have GW900 := bZ hg HB; have GE900 := bZ hg HB; have NB863_900 := nL hg BK863; have NB900_863 := nG hg BK863; have NB869_900 := nL hg BK869; have NB900_869 := nG hg BK869; have NB870_900 := nL hg BK870; have NB900_870 := nG hg BK870; have NB876_900 := nL hg BK876; have NB900_876 := nG hg BK876; have NB877_900 := nL hg BK877; have NB900_877 := nG hg BK877; replace HO_11 := aM (Kd.R_below (by (with_reducible repeat (first | apply Kd.R_alloc | apply Kd.R_drewN | apply Kd.R_drew)); exact HO_11.out) hb); replace HO_13 := aM (Kd.R_below (by (with_reducible repeat (first | apply Kd.R_alloc | apply Kd.R_drewN | apply Kd.R_drew)); exact HO_13.out) hb); replace HO_15 := aM (Kd.R_below (by (with_reducible repeat (first | apply Kd.R_alloc | apply Kd.R_drewN | apply Kd.R_drew)); exact HO_15.out) hb); replace BK863 := bB BK863 hb; replace BK869 := bB BK869 hb; replace BK870 := bB BK870 hb; replace BK876 := bB BK876 hb; replace BK877 := bB BK877 hb; replace HB := bS HB hb; clear hb hbox hg; have hnb154 := NB900_863.out; have hnc154 := NB863_900.out; have hnb155 := NB900_869.out; have hnc155 := NB869_900.out; have hnb156 := NB900_870.out; have hnc156 := NB870_900.out; have hnb157 := NB900_876.out; have hnc157 := NB876_900.out; have hnb158 := NB900_877.out; have hnc158 := NB877_900.out; obtain ⟨hcz159_0, hcz159_1, hcz159_2⟩ := z3 BK900; obtain ⟨hfz159_0, hfz159_1, hfz159_2⟩ := y3 BK900))
      (try simp only [Act.put, List.setIfInBounds_toArray, List.set_cons_zero, List.set_cons_succ])
      go_cut [128] (fun v128 wc => ∃ (kq : Nat) (x128_141 : Bool), v128 = .bool x128_141 ∧ Aside0 (laws_FnBases.j1 kq t859 t886 x128_141 t860 t861 t862 = some true) ∧ Aside0 (kq ≤ kj10) ∧ Aside0 (Kd.R k51 51 wc w.heap.size (fun _ => True) v887 t886) ∧ Aside0 (wc.heap[gb863]? = some (.cells #[.int .i64 t860, .int .i64 t861, .int .i64 t862] 33 (0, 0))) ∧ Aside0 (wc.heap[gb869]? = some (.cells #[.int .i64 t864, .int .i64 t865] 47 (0, 0))) ∧ Aside0 (wc.heap[gb870]? = some (.cells #[.int .i64 t866, .int .i64 t867] 47 (0, 0))) ∧ Aside0 (wc.heap[gb876]? = some (.cells #[.int .i64 t871, .int .i64 t872] 47 (0, 0))) ∧ Aside0 (wc.heap[gb877]? = some (.cells #[.int .i64 t873, .int .i64 t874] 47 (0, 0))) ∧ Aside0 (wc.heap[gb900]? = some (.cells #[.int .i64 t896, .int .i64 t897, .int .i64 t898] 33 (0, 0))) ∧ Aside0 (Below w.heap.size w wc))
      case first =>
       have H := HC142.out
       clear HC142
       by_cases c160 : t899 = 0
       ·rw [if_pos c160] at H
        have c160b0 : (t899 == 0) = true := beq_iff_eq.mpr c160
        have c160b1 : (t899 != 0) = false := bne_eq_false_iff_eq.mpr c160
        clear c160
        (first | rw [c160b0] | (simp only [i64_w, i32_w]; rw [c160b0]) | skip)
        by_cases c161 : (!(t896 == t860) || (!(t897 == t861) || (!(t898 == t862)))) = true
        ·rw [if_pos c161] at H
         exact absurd H (by cases kj10 <;> simp [laws_FnBases.j1])
        ·rw [if_neg c161] at H
         have c161b0 : (!(t896 == t860) || (!(t897 == t861) || (!(t898 == t862)))) = false := by simpa using c161
         clear c161
         obtain ⟨ji164, hji164⟩ : ∃ j_ : Int, (wrap64 ((t882.length : Int) - 1)) = j_ := ⟨_, rfl⟩
         replace H : (if 0 ≤ (ji164) then (if (ji164) < (t878.length : Int) then (laws_FnBases.j1 kj10 t859 t886 (!(t864 == ((rd_T47 t878 (ji164)).f0)) || (!(t865 == ((rd_T47 t878 (ji164)).f1)))) t860 t861 t862) else (none)) else (none)) = some true := by first | (rw [hji164] at H; exact H) | (simp only [hji164] at H ⊢; exact H)
         have hji164w : (IntKind.i64.wrap ((t882.length : Int) - 1)) = ji164 := (i64_w _).trans hji164
         by_cases c165 : 0 ≤ (ji164)
         ·rw [if_pos c165] at H
          have c165b0 : decide (0 ≤ (ji164)) = true := decide_eq_true c165
          clear c165
          by_cases c166 : (ji164) < (t878.length : Int)
          ·rw [if_pos c166] at H
           have c166b0 : decide ((ji164) < (t878.length : Int)) = true := decide_eq_true c166
           clear c166
           have H' := aM H
           clear H
           try go_wp2
           have n0_ : Aside0 (Kd.R k47 47 (((w153.setCell ⟨gb900, 0, none⟩ (.int .i64 t896)).setCell ⟨gb900, 1, none⟩ (.int .i64 t897)).setCell ⟨gb900, 2, none⟩ (.int .i64 t898)) w.heap.size (fun k_ => some k_ ≠ (v883 : Value).ownBlock ∧ k_ ≠ gb869 ∧ k_ ≠ gb870 ∧ k_ ≠ gb876 ∧ k_ ≠ gb877) v879 t878) := ⟨by (with_reducible repeat (first | apply Kd.R_alloc | apply Kd.R_drewN | apply Kd.R_drew)); exact Kd.R_mono (Kd.R_far (p := ⟨gb900, 2, none⟩) (Kd.R_far (p := ⟨gb900, 1, none⟩) (Kd.R_far (p := ⟨gb900, 0, none⟩) (Kd.R_types HO_11.out BK900.out (by decide)) (fun _ hk => hk.2) (.int .i64 t896)) (fun _ hk => hk.2) (.int .i64 t897)) (fun _ hk => hk.2) (.int .i64 t898)) (fun _ hk => ⟨hk.1.1, ⟨hk.1.2.1, ⟨hk.1.2.2.1, ⟨hk.1.2.2.2.1, hk.1.2.2.2.2⟩⟩⟩⟩)⟩
           have n1_ : Aside0 (Kd.R k47 47 (((w153.setCell ⟨gb900, 0, none⟩ (.int .i64 t896)).setCell ⟨gb900, 1, none⟩ (.int .i64 t897)).setCell ⟨gb900, 2, none⟩ (.int .i64 t898)) w.heap.size (fun k_ => some k_ ≠ (v879 : Value).ownBlock ∧ k_ ≠ gb869 ∧ k_ ≠ gb870 ∧ k_ ≠ gb876 ∧ k_ ≠ gb877) v883 t882) := ⟨by (with_reducible repeat (first | apply Kd.R_alloc | apply Kd.R_drewN | apply Kd.R_drew)); exact Kd.R_mono (Kd.R_far (p := ⟨gb900, 2, none⟩) (Kd.R_far (p := ⟨gb900, 1, none⟩) (Kd.R_far (p := ⟨gb900, 0, none⟩) (Kd.R_types HO_13.out BK900.out (by decide)) (fun _ hk => hk.2) (.int .i64 t896)) (fun _ hk => hk.2) (.int .i64 t897)) (fun _ hk => hk.2) (.int .i64 t898)) (fun _ hk => ⟨hk.1.1, ⟨hk.1.2.1, ⟨hk.1.2.2.1, ⟨hk.1.2.2.2.1, hk.1.2.2.2.2⟩⟩⟩⟩)⟩
           have n2_ : Aside0 (Kd.R k51 51 (((w153.setCell ⟨gb900, 0, none⟩ (.int .i64 t896)).setCell ⟨gb900, 1, none⟩ (.int .i64 t897)).setCell ⟨gb900, 2, none⟩ (.int .i64 t898)) w.heap.size (fun _ => True) v887 t886) := ⟨by (with_reducible repeat (first | apply Kd.R_alloc | apply Kd.R_drewN | apply Kd.R_drew)); exact Kd.R_mono (Kd.R_far (p := ⟨gb900, 2, none⟩) (Kd.R_far (p := ⟨gb900, 1, none⟩) (Kd.R_far (p := ⟨gb900, 0, none⟩) (Kd.R_types HO_15.out BK900.out (by decide)) (fun _ hk => hk.2) (.int .i64 t896)) (fun _ hk => hk.2) (.int .i64 t897)) (fun _ hk => hk.2) (.int .i64 t898)) (fun _ hk => trivial)⟩
           have n3_ : Aside0 ((((w153.setCell ⟨gb900, 0, none⟩ (.int .i64 t896)).setCell ⟨gb900, 1, none⟩ (.int .i64 t897)).setCell ⟨gb900, 2, none⟩ (.int .i64 t898)).heap[gb863]? = some (.cells #[.int .i64 t860, .int .i64 t861, .int .i64 t862] 33 (0, 0))) := ⟨by (repeat (first|(with_reducible first|apply kN|apply kD|apply kA)|refine blk_far ?_ NB863_900.out _)); exact BK863.out⟩
           have n4_ : Aside0 ((((w153.setCell ⟨gb900, 0, none⟩ (.int .i64 t896)).setCell ⟨gb900, 1, none⟩ (.int .i64 t897)).setCell ⟨gb900, 2, none⟩ (.int .i64 t898)).heap[gb869]? = some (.cells #[.int .i64 t864, .int .i64 t865] 47 (0, 0))) := ⟨by (repeat (first|(with_reducible first|apply kN|apply kD|apply kA)|refine blk_far ?_ NB869_900.out _)); exact BK869.out⟩
           have n5_ : Aside0 ((((w153.setCell ⟨gb900, 0, none⟩ (.int .i64 t896)).setCell ⟨gb900, 1, none⟩ (.int .i64 t897)).setCell ⟨gb900, 2, none⟩ (.int .i64 t898)).heap[gb870]? = some (.cells #[.int .i64 t866, .int .i64 t867] 47 (0, 0))) := ⟨by (repeat (first|(with_reducible first|apply kN|apply kD|apply kA)|refine blk_far ?_ NB870_900.out _)); exact BK870.out⟩
           have n6_ : Aside0 ((((w153.setCell ⟨gb900, 0, none⟩ (.int .i64 t896)).setCell ⟨gb900, 1, none⟩ (.int .i64 t897)).setCell ⟨gb900, 2, none⟩ (.int .i64 t898)).heap[gb876]? = some (.cells #[.int .i64 t871, .int .i64 t872] 47 (0, 0))) := ⟨by (repeat (first|(with_reducible first|apply kN|apply kD|apply kA)|refine blk_far ?_ NB876_900.out _)); exact BK876.out⟩
           have n7_ : Aside0 ((((w153.setCell ⟨gb900, 0, none⟩ (.int .i64 t896)).setCell ⟨gb900, 1, none⟩ (.int .i64 t897)).setCell ⟨gb900, 2, none⟩ (.int .i64 t898)).heap[gb877]? = some (.cells #[.int .i64 t873, .int .i64 t874] 47 (0, 0))) := ⟨by (repeat (first|(with_reducible first|apply kN|apply kD|apply kA)|refine blk_far ?_ NB877_900.out _)); exact BK877.out⟩
           have n8_ : Aside0 ((((w153.setCell ⟨gb900, 0, none⟩ (.int .i64 t896)).setCell ⟨gb900, 1, none⟩ (.int .i64 t897)).setCell ⟨gb900, 2, none⟩ (.int .i64 t898)).heap[gb900]? = some (.cells #[.int .i64 t896, .int .i64 t897, .int .i64 t898] 33 (0, 0))) := ⟨by (with_reducible repeat (first|apply kN|apply kD|apply kA)); refine blk_put (cs := #[.int .i64 t896, .int .i64 t897, .int .i64 0]) ?_ 2 _ rfl; (with_reducible repeat (first|apply kN|apply kD|apply kA)); refine blk_put (cs := #[.int .i64 t896, .int .i64 0, .int .i64 0]) ?_ 1 _ rfl; (with_reducible repeat (first|apply kN|apply kD|apply kA)); refine blk_put (cs := #[.int .i64 0, .int .i64 0, .int .i64 0]) ?_ 0 _ rfl; (with_reducible repeat (first|apply kN|apply kD|apply kA)); exact BK900.out⟩
           have n9_ : Aside0 (Below w.heap.size w (((w153.setCell ⟨gb900, 0, none⟩ (.int .i64 t896)).setCell ⟨gb900, 1, none⟩ (.int .i64 t897)).setCell ⟨gb900, 2, none⟩ (.int .i64 t898))) := ⟨qB⟩
           (try clear HO_11)
           (try clear HO_13)
           (try clear HO_15)
           (try clear BK863)
           (try clear BK869)
           (try clear BK870)
           (try clear BK876)
           (try clear BK877)
           (try clear BK900)
           (try clear HB)
           generalize (((w153.setCell ⟨gb900, 0, none⟩ (.int .i64 t896)).setCell ⟨gb900, 1, none⟩ (.int .i64 t897)).setCell ⟨gb900, 2, none⟩ (.int .i64 t898)) = w167 at n0_ n1_ n2_ n3_ n4_ n5_ n6_ n7_ n8_ n9_ ⊢
           have HO_11 := n0_
           have HO_13 := n1_
           have HO_15 := n2_
           have BK863 := n3_
           have BK869 := n4_
           have BK870 := n5_
           have BK876 := n6_
           have BK877 := n7_
           have BK900 := n8_
           have HB := n9_
           clear n0_ n1_ n2_ n3_ n4_ n5_ n6_ n7_ n8_ n9_
           replace HO_11 := aM (Kd.R_drew HO_11.out)
           replace HO_13 := aM (Kd.R_drew HO_13.out)
           replace HO_15 := aM (Kd.R_drew HO_15.out)
           replace BK863 := aM (blk_drew BK863.out)
           replace BK869 := aM (blk_drew BK869.out)
           replace BK870 := aM (blk_drew BK870.out)
           replace BK876 := aM (blk_drew BK876.out)
           replace BK877 := aM (blk_drew BK877.out)
           replace BK900 := aM (blk_drew BK900.out)
           replace HB := aM (below_drew1 HB.out)
           obtain ⟨Ao169, co169, eo169⟩ := Kd.R_slice HO_13.out
           (first | subst eo169 | (injection eo169 with f1_ f2_ f3_; have f4_ := f1_.symm; have f5_ := f3_.symm; clear f1_ f2_ f3_; subst f4_; subst f5_))
           obtain ⟨Ao170, co170, eo170⟩ := Kd.R_slice HO_11.out
           (first | subst eo170 | (injection eo170 with f1_ f2_ f3_; have f4_ := f1_.symm; have f5_ := f3_.symm; clear f1_ f2_ f3_; subst f4_; subst f5_))
           have p901 : 0 ≤ ((ji164) : Int) := of_decide_eq_true (by first | (with_reducible assumption) | assumption)
           have q901 : (ji164) < (t878.length : Int) := of_decide_eq_true (by first | (with_reducible assumption) | assumption)
           obtain ⟨ad901, e901, hx901_0, hx901_1⟩ := at_T47 (Kd.R_reads' HO_11.out).2.2 (ji164) p901 q901
           cases e901
           replace p901 := eq_true p901
           replace q901 := eq_true q901
           refine sT (fun w' => w'.cell? ⟨gb900, 0, none⟩ = some (.int .i64 t896) ∧ w'.cell? ⟨gb900, 1, none⟩ = some (.int .i64 t897) ∧ w'.cell? ⟨gb900, 2, none⟩ = some (.int .i64 t898) ∧ w'.cell? ⟨gb863, 0, none⟩ = some (.int .i64 t860) ∧ w'.cell? ⟨gb863, 1, none⟩ = some (.int .i64 t861) ∧ w'.cell? ⟨gb863, 2, none⟩ = some (.int .i64 t862) ∧ w'.cell? ⟨gb869, 0, none⟩ = some (.int .i64 t864) ∧ w'.cell? ⟨gb869, 1, none⟩ = some (.int .i64 t865) ∧ w'.cell? (ad901.add (((ji164)).toNat * 2)) = some (.int .i64 ((rd_T47 t878 (ji164)).f0)) ∧ w'.cell? ⟨(ad901.add (((ji164)).toNat * 2)).block, (ad901.add (((ji164)).toNat * 2)).off + 1, none⟩ = some (.int .i64 ((rd_T47 t878 (ji164)).f1))) [] ⟨cB BK900, cB BK900, cB BK900, cB BK863, cB BK863, cB BK863, cB BK869, cB BK869, hx901_0, hx901_1⟩ (fun hHeld => ?_); refine with_tabW laws_FnBases.tab15 laws_FnBases.bits15 (fun HT_ HW_ => ?_)
           generalize w167.drew = w168 at HO_11 HO_13 HO_15 BK863 BK869 BK870 BK876 BK877 BK900 HB hx901_0 hx901_1 hHeld ⊢
           refine pU 0 (some 112) 1 HT_ ?_
           refine pU 1 (some 113) 3 HT_ ?_
           refine pU 2 (some 114) 7 HT_ ?_
           refine tU 3 (some 115) 15 HT_ HW_ hHeld ?_
           refine tU 4 (some 116) 31 HT_ HW_ hHeld ?_
           refine pU 5 (some 117) 63 HT_ ?_
           refine pU 6 (some 118) 127 HT_ ?_
           refine pU 7 (some 119) 255 HT_ ?_
           refine pU 9 (some 121) 767 HT_ ?_
           refine pU 10 (some 122) 1791 HT_ ?_
           refine pU 11 (some 123) 3839 HT_ ?_
           refine pU 12 (some 124) 7935 HT_ ?_
           refine pU 13 (some 125) 16127 HT_ ?_
           refine tU 8 (some 120) 16383 HT_ HW_ hHeld ?_
           refine tU 14 (some 126) 32767 HT_ HW_ hHeld ?_
           refine pU 15 (some 127) 65535 HT_ ?_
           refine pU 16 (some 128) 131071 HT_ ?_
           refine dN HT_ ?_
           try go_wp2
           go_meet
           case rel => exact ⟨_, ((!(t864 == ((rd_T47 t878 (ji164)).f0)) || (!(t865 == ((rd_T47 t878 (ji164)).f1))))), (by first | rfl | (simp; done) | (simp only [← hji164] <;> (first | rfl | simp)) | (simp [*]; done)), H', ⟨by have := HJ10.out; first | omega | exact Nat.le_refl _⟩, ⟨by (with_reducible repeat (first | apply Kd.R_alloc | apply Kd.R_drewN | apply Kd.R_drew)); exact HO_15.out⟩, ⟨bk BK863⟩, ⟨bk BK869⟩, ⟨bk BK870⟩, ⟨bk BK876⟩, ⟨bk BK877⟩, ⟨bk BK900⟩, ⟨qB⟩⟩
          ·rw [if_neg c166] at H
           exact absurd H (by simp)
         ·rw [if_neg c165] at H
          exact absurd H (by simp)
       ·rw [if_neg c160] at H
        exact absurd H (by cases kj10 <;> simp [laws_FnBases.j1])
      case rest =>
       clear HC142
       try clear c1
       try clear p2
       try clear c6
       try clear p6
       try clear p9
       try clear q9
       try clear hx9
       try clear c15
       try clear c16
       try clear p64
       try clear c69
       try clear p90
       try clear q90
       try clear hx90
       try clear c154
       try clear c155
       try clear c156
       try clear c157
       try clear c158
       try clear c160
       try clear c160b0
       try clear c160b1
       try clear c161
       try clear c161b0
       try clear c165
       try clear c165b0
       try clear c166
       try clear c166b0
       try clear hcz159_0
       try clear hcz159_1
       try clear hcz159_2
       try clear hfz151_0
       try clear hfz151_1
       try clear hfz159_0
       try clear hfz159_1
       try clear hfz159_2
       try clear hx901_0
       try clear hx901_1
       try clear p901
       try clear q901
       obtain ⟨kq, x128_141, rfl, HA, HJ141, HO_15, BK863, BK869, BK870, BK876, BK877, BK900, HB⟩ := hcut
       cases kq with
       | zero => exact absurd HA.out (by simp [laws_FnBases.j1])
       | succ kj141 =>
        have H := HA.out
        clear HA
        simp only [laws_FnBases.j1] at H
        by_cases c173 : x128_141 = true
        ·subst c173
         have H1 : (some false) = some true := by rw [if_pos rfl] at H; exact H
         clear H
         have H := H1
         clear H1
         exact absurd (Option.some.inj H) (by decide)
        ·replace c173 := Bool.eq_false_iff.mpr c173
         subst c173
         have H1 : (laws_FnBases.l0 kj141 t859 t886 0 t860 t861 t862) = some true := by rw [if_neg (show ¬ (false = true) by decide)] at H; exact H
         clear H
         have H := H1
         clear H1
         have H' := aM H
         clear H
         go_wp2
         go_loopg [21] kj141 (fun kq v21 w' => ∃ (x21_3 : Int), v21 = .int .i64 x21_3 ∧ Aside0 (laws_FnBases.l0 kq t859 t886 x21_3 t860 t861 t862 = some true) ∧ Aside0 (kq ≤ kj141) ∧ Aside0 (Kd.R k51 51 w' w.heap.size (fun _ => True) v887 t886) ∧ Aside0 (w'.heap[gb863]? = some (.cells #[.int .i64 t860, .int .i64 t861, .int .i64 t862] 33 (0, 0))) ∧ Aside0 (w'.heap[gb869]? = some (.cells #[.int .i64 t864, .int .i64 t865] 47 (0, 0))) ∧ Aside0 (w'.heap[gb870]? = some (.cells #[.int .i64 t866, .int .i64 t867] 47 (0, 0))) ∧ Aside0 (w'.heap[gb876]? = some (.cells #[.int .i64 t871, .int .i64 t872] 47 (0, 0))) ∧ Aside0 (w'.heap[gb877]? = some (.cells #[.int .i64 t873, .int .i64 t874] 47 (0, 0))) ∧ Aside0 (w'.heap[gb900]? = some (.cells #[.int .i64 t896, .int .i64 t897, .int .i64 t898] 33 (0, 0))) ∧ Aside0 (Below w.heap.size w w'))
         case atStart => exact ⟨(0), (by first | rfl | (simp; done) | (simp [*]; done)), H', ⟨Nat.le_refl _⟩, ⟨by (with_reducible repeat (first | apply Kd.R_alloc | apply Kd.R_drewN | apply Kd.R_drew)); exact HO_15.out⟩, ⟨bk BK863⟩, ⟨bk BK869⟩, ⟨bk BK870⟩, ⟨bk BK876⟩, ⟨bk BK877⟩, ⟨bk BK900⟩, ⟨qB⟩⟩
         case round =>
          clear H'
          try clear c1
          try clear p2
          try clear c6
          try clear p6
          try clear p9
          try clear q9
          try clear hx9
          try clear c15
          try clear c16
          try clear c17
          try clear p64
          try clear c69
          try clear p90
          try clear q90
          try clear hx90
          try clear c154
          try clear c155
          try clear c156
          try clear c157
          try clear c158
          try clear c160
          try clear c160b0
          try clear c160b1
          try clear c161
          try clear c161b0
          try clear c165
          try clear c165b0
          try clear c166
          try clear c166b0
          try clear c173
          try clear hcz159_0
          try clear hcz159_1
          try clear hcz159_2
          try clear hfz151_0
          try clear hfz151_1
          try clear hfz159_0
          try clear hfz159_1
          try clear hfz159_2
          try clear hx901_0
          try clear hx901_1
          try clear p2
          try clear p6
          try clear p64
          try clear p9
          try clear p90
          try clear p901
          try clear q9
          try clear q90
          try clear q901
          obtain ⟨x21_3, rfl, HA, HK3, HO_15, BK863, BK869, BK870, BK876, BK877, BK900, HB⟩ := hrel
          cases gk with
          | zero => exact absurd HA.out (by simp [laws_FnBases.l0])
          | succ k3 =>
           have H := HA.out
           clear HA
           simp only [laws_FnBases.l0] at H
           by_cases c174 : x21_3 < (t886.length : Int)
           ·rw [if_pos c174] at H
            have c174b0 : decide (x21_3 < (t886.length : Int)) = true := decide_eq_true c174
            clear c174
            by_cases c175 : 0 ≤ x21_3
            ·rw [if_pos c175] at H
             have c175b0 : decide (0 ≤ x21_3) = true := decide_eq_true c175
             clear c175
             obtain ⟨⟨t903, t904, t905, t906⟩, A176, H⟩ := oB H
             try dsimp only at H
             by_cases c177 : t906 = 0
             ·rw [if_pos c177] at H
              have c177b0 : (t906 == 0) = true := beq_iff_eq.mpr c177
              have c177b1 : (t906 != 0) = false := bne_eq_false_iff_eq.mpr c177
              clear c177
              by_cases c178 : (!(t903 == t860) || (!(t904 == t861) || (!(t905 == t862)))) = true
              ·rw [if_pos c178] at H
               have c178b0 : (!(t903 == t860) || (!(t904 == t861) || (!(t905 == t862)))) = true := c178
               clear c178
               exact absurd (Option.some.inj H) (by decide)
              ·rw [if_neg c178] at H
               have c178b0 : (!(t903 == t860) || (!(t904 == t861) || (!(t905 == t862)))) = false := by simpa using c178
               clear c178
               have H' := aM H
               clear H
               obtain ⟨Ao200, co200, eo200⟩ := Kd.R_slice HO_15.out
               subst eo200
               try go_wp2
               replace HO_15 := aM (Kd.R_drew HO_15.out)
               replace BK863 := aM (blk_drew BK863.out)
               replace BK869 := aM (blk_drew BK869.out)
               replace BK870 := aM (blk_drew BK870.out)
               replace BK876 := aM (blk_drew BK876.out)
               replace BK877 := aM (blk_drew BK877.out)
               replace BK900 := aM (blk_drew BK900.out)
               replace HB := aM (below_drew1 HB.out)
               have p902 : 0 ≤ (x21_3 : Int) := of_decide_eq_true (by first | (with_reducible assumption) | assumption)
               have q902 : x21_3 < (t886.length : Int) := of_decide_eq_true (by first | (with_reducible assumption) | assumption)
               obtain ⟨ad902, e902, hx902_0, hx902_1, hx902_2, hx902_3⟩ := at_T51 (Kd.R_reads' HO_15.out).2.2 x21_3 p902 q902
               cases e902
               replace p902 := eq_true p902
               replace q902 := eq_true q902
               refine sT (fun w' => w'.cell? ⟨gb863, 0, none⟩ = some (.int .i64 t860) ∧ w'.cell? ⟨gb863, 1, none⟩ = some (.int .i64 t861) ∧ w'.cell? ⟨gb863, 2, none⟩ = some (.int .i64 t862) ∧ w'.cell? (ad902.add ((x21_3).toNat * 4)) = some (.int .i64 ((rd_T51 t886 x21_3).f0)) ∧ w'.cell? ⟨(ad902.add ((x21_3).toNat * 4)).block, (ad902.add ((x21_3).toNat * 4)).off + 1, none⟩ = some (.int .i64 ((rd_T51 t886 x21_3).f1)) ∧ w'.cell? ⟨(ad902.add ((x21_3).toNat * 4)).block, (ad902.add ((x21_3).toNat * 4)).off + 2, none⟩ = some (.int .i64 ((rd_T51 t886 x21_3).f2)) ∧ w'.cell? ⟨(ad902.add ((x21_3).toNat * 4)).block, (ad902.add ((x21_3).toNat * 4)).off + 3, none⟩ = some (.int .i64 ((rd_T51 t886 x21_3).f3))) [] ⟨cB BK863, cB BK863, cB BK863, hx902_0, hx902_1, hx902_2, hx902_3⟩ (fun hHeld => ?_); refine with_tabW laws_FnBases.tab20 laws_FnBases.bits20 (fun HT_ HW_ => ?_)
               generalize wr.drew = w201 at HO_15 BK863 BK869 BK870 BK876 BK877 BK900 HB hx902_0 hx902_1 hx902_2 hx902_3 hHeld ⊢
               refine pU 0 (some 136) 1 HT_ ?_
               refine pU 1 (some 137) 3 HT_ ?_
               refine pU 2 (some 138) 7 HT_ ?_
               refine pU 3 (some 139) 15 HT_ ?_
               refine tU 4 (some 140) 31 HT_ HW_ hHeld ?_
               refine tU 5 (some 141) 63 HT_ HW_ hHeld ?_
               refine join_ (σ := Nat) 2 (bz 13 2047) (fun s_ => [(142, .tuple #[.agg #[.int .i64 t903, .int .i64 t904, .int .i64 t905], .int .i64 t906]), (22, .pointer (some ⟨s_, 0, none⟩)), (135, .tuple #[.agg #[.int .i64 t903, .int .i64 t904, .int .i64 t905], .int .i64 t906]), (143, .agg #[.int .i64 t903, .int .i64 t904, .int .i64 t905]), (144, .int .i64 t906)]) (fun s_ w' => (w'.cell? ⟨gb863, 0, none⟩ = some (.int .i64 t860) ∧ w'.cell? ⟨gb863, 1, none⟩ = some (.int .i64 t861) ∧ w'.cell? ⟨gb863, 2, none⟩ = some (.int .i64 t862) ∧ w'.cell? (ad902.add ((x21_3).toNat * 4)) = some (.int .i64 ((rd_T51 t886 x21_3).f0)) ∧ w'.cell? ⟨(ad902.add ((x21_3).toNat * 4)).block, (ad902.add ((x21_3).toNat * 4)).off + 1, none⟩ = some (.int .i64 ((rd_T51 t886 x21_3).f1)) ∧ w'.cell? ⟨(ad902.add ((x21_3).toNat * 4)).block, (ad902.add ((x21_3).toNat * 4)).off + 2, none⟩ = some (.int .i64 ((rd_T51 t886 x21_3).f2)) ∧ w'.cell? ⟨(ad902.add ((x21_3).toNat * 4)).block, (ad902.add ((x21_3).toNat * 4)).off + 3, none⟩ = some (.int .i64 ((rd_T51 t886 x21_3).f3))) ∧ (Kd.R k51 51 w' w.heap.size (fun _ => True) (.slice (some ad902) t886.length co200) t886) ∧ (w'.heap[gb863]? = some (.cells #[.int .i64 t860, .int .i64 t861, .int .i64 t862] 33 (0, 0))) ∧ (w'.heap[gb869]? = some (.cells #[.int .i64 t864, .int .i64 t865] 47 (0, 0))) ∧ (w'.heap[gb870]? = some (.cells #[.int .i64 t866, .int .i64 t867] 47 (0, 0))) ∧ (w'.heap[gb876]? = some (.cells #[.int .i64 t871, .int .i64 t872] 47 (0, 0))) ∧ (w'.heap[gb877]? = some (.cells #[.int .i64 t873, .int .i64 t874] 47 (0, 0))) ∧ (w'.heap[gb900]? = some (.cells #[.int .i64 t896, .int .i64 t897, .int .i64 t898] 33 (0, 0))) ∧ (w'.heap[s_]? = some (.cells #[.int .i64 0, .int .i64 0, .int .i64 0] 33 (0, 0))) ∧ (w.heap.size ≤ s_) ∧ (w.heap.size ≤ s_) ∧ (gb863 ≠ s_) ∧ (s_ ≠ gb863) ∧ (gb869 ≠ s_) ∧ (s_ ≠ gb869) ∧ (gb870 ≠ s_) ∧ (s_ ≠ gb870) ∧ (gb876 ≠ s_) ∧ (s_ ≠ gb876) ∧ (gb877 ≠ s_) ∧ (s_ ≠ gb877) ∧ (gb900 ≠ s_) ∧ (s_ ≠ gb900) ∧ (Below w.heap.size w w')) ?_ ?_
               rotate_left
               ·intro hCont
                refine two_ (i := 6) (j := 10) (Ni := some 142) (Nj := some 22) (bz 13 127) (bz 13 1087) rfl rfl rfl rfl (two_of HT_.out (by kernel_rfl)) (by decide) (by decide) (fun K hK => ?_) (fun K hK => ?_)
                ·skip
                 refine gO Try.func57 #[.int .i64 t859, .agg #[.int .i64 ((rd_T51 t886 x21_3).f0), .int .i64 ((rd_T51 t886 x21_3).f1), .int .i64 ((rd_T51 t886 x21_3).f2), .int .i64 ((rd_T51 t886 x21_3).f3)], .agg #[.int .i64 t860, .int .i64 t861, .int .i64 t862]] ?_
                 with_reducible refine (impl_MapLattice.calls k3 t859 ((rd_T51 t886 x21_3).f0) ((rd_T51 t886 x21_3).f1) ((rd_T51 t886 x21_3).f2) ((rd_T51 t886 x21_3).f3) t860 t861 t862 t903 t904 t905 t906 _ A176.out).mono ?_
                 rintro e w202 ⟨rfl, hb⟩
                 have HS3_ := (hb.cell (World.block_lt_of_cell? _ _ (hHeld.2.2.2.1))).trans (hHeld.2.2.2.1)
                 have HS4_ := (hb.cell (World.block_lt_of_cell? _ _ (hHeld.2.2.2.2.1))).trans (hHeld.2.2.2.2.1)
                 have HS5_ := (hb.cell (World.block_lt_of_cell? _ _ (hHeld.2.2.2.2.2.1))).trans (hHeld.2.2.2.2.2.1)
                 have HS6_ := (hb.cell (World.block_lt_of_cell? _ _ (hHeld.2.2.2.2.2.2))).trans (hHeld.2.2.2.2.2.2)
                 refine ⟨_, rfl, ?_⟩
                 have n0_ := aM (Kd.R_below (by (with_reducible repeat (first | apply Kd.R_alloc | apply Kd.R_drewN | apply Kd.R_drew)); exact HO_15.out) hb)
                 have n1_ := bB BK863 hb
                 have n2_ := bB BK869 hb
                 have n3_ := bB BK870 hb
                 have n4_ := bB BK876 hb
                 have n5_ := bB BK877 hb
                 have n6_ := bB BK900 hb
                 have n7_ := bS HB hb
                 clear HO_15
                 clear BK863
                 clear BK869
                 clear BK870
                 clear BK876
                 clear BK877
                 clear BK900
                 clear HB
                 have HO_15 := n0_
                 have BK863 := n1_
                 have BK869 := n2_
                 have BK870 := n3_
                 have BK876 := n4_
                 have BK877 := n5_
                 have BK900 := n6_
                 have HB := n7_
                 clear n0_ n1_ n2_ n3_ n4_ n5_ n6_ n7_
                 (try clear hb)
                 (try clear hb2)
                 (try clear hk)
                 (try clear hi)
                 refine hK.out _ _ ⟨cB BK863, cB BK863, cB BK863, HS3_, HS4_, HS5_, HS6_⟩ (fun hHeld => ?_)
                 clear hK K
                 refine nM 142 ?_
                 refine pU 7 (some 135) 255 HT_ ?_
                 refine pU 8 (some 143) 511 HT_ ?_
                 refine pU 9 (some 144) 1023 HT_ ?_
                 refine oU 10 (some 22) 2047 HT_ (fun K hK => ?_)
                 refine xS 22 #[.int .i64 0, .int .i64 0, .int .i64 0] 33 ?_
                 intro gb907 hg w203 hbox hb
                 have HS3_ := (hb.cell (World.block_lt_of_cell? _ _ (hHeld.2.2.2.1))).trans (hHeld.2.2.2.1)
                 have HS4_ := (hb.cell (World.block_lt_of_cell? _ _ (hHeld.2.2.2.2.1))).trans (hHeld.2.2.2.2.1)
                 have HS5_ := (hb.cell (World.block_lt_of_cell? _ _ (hHeld.2.2.2.2.2.1))).trans (hHeld.2.2.2.2.2.1)
                 have HS6_ := (hb.cell (World.block_lt_of_cell? _ _ (hHeld.2.2.2.2.2.2))).trans (hHeld.2.2.2.2.2.2)
                 have n0_ := aM (Kd.R_below (by (with_reducible repeat (first | apply Kd.R_alloc | apply Kd.R_drewN | apply Kd.R_drew)); exact HO_15.out) hb)
                 have n1_ := bB BK863 hb
                 have n2_ := bB BK869 hb
                 have n3_ := bB BK870 hb
                 have n4_ := bB BK876 hb
                 have n5_ := bB BK877 hb
                 have n6_ := bB BK900 hb
                 have n7_ := bS HB hb
                 have n8_ := aM hbox
                 have n9_ := bZ hg HB
                 have n10_ := bZ hg HB
                 have n11_ := nL hg BK863
                 have n12_ := nG hg BK863
                 have n13_ := nL hg BK869
                 have n14_ := nG hg BK869
                 have n15_ := nL hg BK870
                 have n16_ := nG hg BK870
                 have n17_ := nL hg BK876
                 have n18_ := nG hg BK876
                 have n19_ := nL hg BK877
                 have n20_ := nG hg BK877
                 have n21_ := nL hg BK900
                 have n22_ := nG hg BK900
                 clear HO_15
                 clear BK863
                 clear BK869
                 clear BK870
                 clear BK876
                 clear BK877
                 clear BK900
                 clear HB
                 have HO_15 := n0_
                 have BK863 := n1_
                 have BK869 := n2_
                 have BK870 := n3_
                 have BK876 := n4_
                 have BK877 := n5_
                 have BK900 := n6_
                 have HB := n7_
                 have BK907 := n8_
                 have GW907 := n9_
                 have GE907 := n10_
                 have NB863_907 := n11_
                 have NB907_863 := n12_
                 have NB869_907 := n13_
                 have NB907_869 := n14_
                 have NB870_907 := n15_
                 have NB907_870 := n16_
                 have NB876_907 := n17_
                 have NB907_876 := n18_
                 have NB877_907 := n19_
                 have NB907_877 := n20_
                 have NB900_907 := n21_
                 have NB907_900 := n22_
                 clear n0_ n1_ n2_ n3_ n4_ n5_ n6_ n7_ n8_ n9_ n10_ n11_ n12_ n13_ n14_ n15_ n16_ n17_ n18_ n19_ n20_ n21_ n22_
                 clear hb hbox hg
                 refine hK.out _ _ ⟨cB BK863, cB BK863, cB BK863, HS3_, HS4_, HS5_, HS6_⟩ (fun hHeld => ?_)
                 clear hK K
                 refine nM 22 ?_
                 exact norm_ (by simp only [putAll, Act.put, List.setIfInBounds_toArray, List.set_cons_zero, List.set_cons_succ]) (hCont (gb907) _ ⟨hHeld, (by (with_reducible repeat (first | apply Kd.R_alloc | apply Kd.R_drewN | apply Kd.R_drew)); exact HO_15.out), (bk BK863), (bk BK869), (bk BK870), (bk BK876), (bk BK877), (bk BK900), (bk BK907), GW907.out, GE907.out, NB863_907.out, NB907_863.out, NB869_907.out, NB907_869.out, NB870_907.out, NB907_870.out, NB876_907.out, NB907_876.out, NB877_907.out, NB907_877.out, NB900_907.out, NB907_900.out, qB⟩)
                ·skip
                 refine xS 22 #[.int .i64 0, .int .i64 0, .int .i64 0] 33 ?_
                 intro gb907 hg w202 hbox hb
                 have HS3_ := (hb.cell (World.block_lt_of_cell? _ _ (hHeld.2.2.2.1))).trans (hHeld.2.2.2.1)
                 have HS4_ := (hb.cell (World.block_lt_of_cell? _ _ (hHeld.2.2.2.2.1))).trans (hHeld.2.2.2.2.1)
                 have HS5_ := (hb.cell (World.block_lt_of_cell? _ _ (hHeld.2.2.2.2.2.1))).trans (hHeld.2.2.2.2.2.1)
                 have HS6_ := (hb.cell (World.block_lt_of_cell? _ _ (hHeld.2.2.2.2.2.2))).trans (hHeld.2.2.2.2.2.2)
                 have n0_ := aM (Kd.R_below (by (with_reducible repeat (first | apply Kd.R_alloc | apply Kd.R_drewN | apply Kd.R_drew)); exact HO_15.out) hb)
                 have n1_ := bB BK863 hb
                 have n2_ := bB BK869 hb
                 have n3_ := bB BK870 hb
                 have n4_ := bB BK876 hb
                 have n5_ := bB BK877 hb
                 have n6_ := bB BK900 hb
                 have n7_ := bS HB hb
                 have n8_ := aM hbox
                 have n9_ := bZ hg HB
                 have n10_ := bZ hg HB
                 have n11_ := nL hg BK863
                 have n12_ := nG hg BK863
                 have n13_ := nL hg BK869
                 have n14_ := nG hg BK869
                 have n15_ := nL hg BK870
                 have n16_ := nG hg BK870
                 have n17_ := nL hg BK876
                 have n18_ := nG hg BK876
                 have n19_ := nL hg BK877
                 have n20_ := nG hg BK877
                 have n21_ := nL hg BK900
                 have n22_ := nG hg BK900
                 clear HO_15
                 clear BK863
                 clear BK869
                 clear BK870
                 clear BK876
                 clear BK877
                 clear BK900
                 clear HB
                 have HO_15 := n0_
                 have BK863 := n1_
                 have BK869 := n2_
                 have BK870 := n3_
                 have BK876 := n4_
                 have BK877 := n5_
                 have BK900 := n6_
                 have HB := n7_
                 have BK907 := n8_
                 have GW907 := n9_
                 have GE907 := n10_
                 have NB863_907 := n11_
                 have NB907_863 := n12_
                 have NB869_907 := n13_
                 have NB907_869 := n14_
                 have NB870_907 := n15_
                 have NB907_870 := n16_
                 have NB876_907 := n17_
                 have NB907_876 := n18_
                 have NB877_907 := n19_
                 have NB907_877 := n20_
                 have NB900_907 := n21_
                 have NB907_900 := n22_
                 clear n0_ n1_ n2_ n3_ n4_ n5_ n6_ n7_ n8_ n9_ n10_ n11_ n12_ n13_ n14_ n15_ n16_ n17_ n18_ n19_ n20_ n21_ n22_
                 clear hb hbox hg
                 refine hK.out _ _ ⟨cB BK863, cB BK863, cB BK863, HS3_, HS4_, HS5_, HS6_⟩ (fun hHeld => ?_)
                 clear hK K
                 refine nM 22 ?_
                 refine oU 6 (some 142) 1151 HT_ (fun K hK => ?_)
                 refine gO Try.func57 #[.int .i64 t859, .agg #[.int .i64 ((rd_T51 t886 x21_3).f0), .int .i64 ((rd_T51 t886 x21_3).f1), .int .i64 ((rd_T51 t886 x21_3).f2), .int .i64 ((rd_T51 t886 x21_3).f3)], .agg #[.int .i64 t860, .int .i64 t861, .int .i64 t862]] ?_
                 with_reducible refine (impl_MapLattice.calls k3 t859 ((rd_T51 t886 x21_3).f0) ((rd_T51 t886 x21_3).f1) ((rd_T51 t886 x21_3).f2) ((rd_T51 t886 x21_3).f3) t860 t861 t862 t903 t904 t905 t906 _ A176.out).mono ?_
                 rintro e w203 ⟨rfl, hb⟩
                 have HS3_ := (hb.cell (World.block_lt_of_cell? _ _ (hHeld.2.2.2.1))).trans (hHeld.2.2.2.1)
                 have HS4_ := (hb.cell (World.block_lt_of_cell? _ _ (hHeld.2.2.2.2.1))).trans (hHeld.2.2.2.2.1)
                 have HS5_ := (hb.cell (World.block_lt_of_cell? _ _ (hHeld.2.2.2.2.2.1))).trans (hHeld.2.2.2.2.2.1)
                 have HS6_ := (hb.cell (World.block_lt_of_cell? _ _ (hHeld.2.2.2.2.2.2))).trans (hHeld.2.2.2.2.2.2)
                 refine ⟨_, rfl, ?_⟩
                 have n0_ := aM (Kd.R_below (by (with_reducible repeat (first | apply Kd.R_alloc | apply Kd.R_drewN | apply Kd.R_drew)); exact HO_15.out) hb)
                 have n1_ := bB BK863 hb
                 have n2_ := bB BK869 hb
                 have n3_ := bB BK870 hb
                 have n4_ := bB BK876 hb
                 have n5_ := bB BK877 hb
                 have n6_ := bB BK900 hb
                 have n7_ := bB BK907 hb
                 have n8_ := bS HB hb
                 clear HO_15
                 clear BK863
                 clear BK869
                 clear BK870
                 clear BK876
                 clear BK877
                 clear BK900
                 clear BK907
                 clear HB
                 have HO_15 := n0_
                 have BK863 := n1_
                 have BK869 := n2_
                 have BK870 := n3_
                 have BK876 := n4_
                 have BK877 := n5_
                 have BK900 := n6_
                 have BK907 := n7_
                 have HB := n8_
                 clear n0_ n1_ n2_ n3_ n4_ n5_ n6_ n7_ n8_
                 (try clear hb)
                 (try clear hb2)
                 (try clear hk)
                 (try clear hi)
                 refine hK.out _ _ ⟨cB BK863, cB BK863, cB BK863, HS3_, HS4_, HS5_, HS6_⟩ (fun hHeld => ?_)
                 clear hK K
                 refine nM 142 ?_
                 refine pU 7 (some 135) 1279 HT_ ?_
                 refine pU 8 (some 143) 1535 HT_ ?_
                 refine pU 9 (some 144) 2047 HT_ ?_
                 exact norm_ (by simp only [putAll, Act.put, List.setIfInBounds_toArray, List.set_cons_zero, List.set_cons_succ]) (hCont (gb907) _ ⟨hHeld, (by (with_reducible repeat (first | apply Kd.R_alloc | apply Kd.R_drewN | apply Kd.R_drew)); exact HO_15.out), (bk BK863), (bk BK869), (bk BK870), (bk BK876), (bk BK877), (bk BK900), (bk BK907), GW907.out, GE907.out, NB863_907.out, NB907_863.out, NB869_907.out, NB907_869.out, NB870_907.out, NB907_870.out, NB876_907.out, NB907_876.out, NB877_907.out, NB907_877.out, NB900_907.out, NB907_900.out, qB⟩)
               rintro gb907 w204 ⟨hS_, h0_, h1_, h2_, h3_, h4_, h5_, h6_, h7_, h8_, h9_, h10_, h11_, h12_, h13_, h14_, h15_, h16_, h17_, h18_, h19_, h20_, h21_, h22_⟩
               have n0_ : Aside0 (Kd.R k51 51 w204 w.heap.size (fun _ => True) (.slice (some ad902) t886.length co200) t886) := ⟨h0_⟩
               have n1_ : Aside0 (w204.heap[gb863]? = some (.cells #[.int .i64 t860, .int .i64 t861, .int .i64 t862] 33 (0, 0))) := ⟨h1_⟩
               have n2_ : Aside0 (w204.heap[gb869]? = some (.cells #[.int .i64 t864, .int .i64 t865] 47 (0, 0))) := ⟨h2_⟩
               have n3_ : Aside0 (w204.heap[gb870]? = some (.cells #[.int .i64 t866, .int .i64 t867] 47 (0, 0))) := ⟨h3_⟩
               have n4_ : Aside0 (w204.heap[gb876]? = some (.cells #[.int .i64 t871, .int .i64 t872] 47 (0, 0))) := ⟨h4_⟩
               have n5_ : Aside0 (w204.heap[gb877]? = some (.cells #[.int .i64 t873, .int .i64 t874] 47 (0, 0))) := ⟨h5_⟩
               have n6_ : Aside0 (w204.heap[gb900]? = some (.cells #[.int .i64 t896, .int .i64 t897, .int .i64 t898] 33 (0, 0))) := ⟨h6_⟩
               have n7_ : Aside0 (w204.heap[gb907]? = some (.cells #[.int .i64 0, .int .i64 0, .int .i64 0] 33 (0, 0))) := ⟨h7_⟩
               have n8_ : Aside0 (w.heap.size ≤ gb907) := ⟨h8_⟩
               have n9_ : Aside0 (w.heap.size ≤ gb907) := ⟨h9_⟩
               have n10_ : Aside0 (gb863 ≠ gb907) := ⟨h10_⟩
               have n11_ : Aside0 (gb907 ≠ gb863) := ⟨h11_⟩
               have n12_ : Aside0 (gb869 ≠ gb907) := ⟨h12_⟩
               have n13_ : Aside0 (gb907 ≠ gb869) := ⟨h13_⟩
               have n14_ : Aside0 (gb870 ≠ gb907) := ⟨h14_⟩
               have n15_ : Aside0 (gb907 ≠ gb870) := ⟨h15_⟩
               have n16_ : Aside0 (gb876 ≠ gb907) := ⟨h16_⟩
               have n17_ : Aside0 (gb907 ≠ gb876) := ⟨h17_⟩
               have n18_ : Aside0 (gb877 ≠ gb907) := ⟨h18_⟩
               have n19_ : Aside0 (gb907 ≠ gb877) := ⟨h19_⟩
               have n20_ : Aside0 (gb900 ≠ gb907) := ⟨h20_⟩
               have n21_ : Aside0 (gb907 ≠ gb900) := ⟨h21_⟩
               have n22_ : Aside0 (Below w.heap.size w w204) := ⟨h22_⟩
               clear HO_15
               clear BK863
               clear BK869
               clear BK870
               clear BK876
               clear BK877
               clear BK900
               clear HB
               clear h0_ h1_ h2_ h3_ h4_ h5_ h6_ h7_ h8_ h9_ h10_ h11_ h12_ h13_ h14_ h15_ h16_ h17_ h18_ h19_ h20_ h21_ h22_
               have HO_15 := n0_
               have BK863 := n1_
               have BK869 := n2_
               have BK870 := n3_
               have BK876 := n4_
               have BK877 := n5_
               have BK900 := n6_
               have BK907 := n7_
               have GW907 := n8_
               have GE907 := n9_
               have NB863_907 := n10_
               have NB907_863 := n11_
               have NB869_907 := n12_
               have NB907_869 := n13_
               have NB870_907 := n14_
               have NB907_870 := n15_
               have NB876_907 := n16_
               have NB907_876 := n17_
               have NB877_907 := n18_
               have NB907_877 := n19_
               have NB900_907 := n20_
               have NB907_900 := n21_
               have HB := n22_
               clear n0_ n1_ n2_ n3_ n4_ n5_ n6_ n7_ n8_ n9_ n10_ n11_ n12_ n13_ n14_ n15_ n16_ n17_ n18_ n19_ n20_ n21_ n22_
               have hHeld : w204.cell? ⟨gb863, 0, none⟩ = some (.int .i64 t860) ∧ w204.cell? ⟨gb863, 1, none⟩ = some (.int .i64 t861) ∧ w204.cell? ⟨gb863, 2, none⟩ = some (.int .i64 t862) ∧ w204.cell? (ad902.add ((x21_3).toNat * 4)) = some (.int .i64 ((rd_T51 t886 x21_3).f0)) ∧ w204.cell? ⟨(ad902.add ((x21_3).toNat * 4)).block, (ad902.add ((x21_3).toNat * 4)).off + 1, none⟩ = some (.int .i64 ((rd_T51 t886 x21_3).f1)) ∧ w204.cell? ⟨(ad902.add ((x21_3).toNat * 4)).block, (ad902.add ((x21_3).toNat * 4)).off + 2, none⟩ = some (.int .i64 ((rd_T51 t886 x21_3).f2)) ∧ w204.cell? ⟨(ad902.add ((x21_3).toNat * 4)).block, (ad902.add ((x21_3).toNat * 4)).off + 3, none⟩ = some (.int .i64 ((rd_T51 t886 x21_3).f3)) := hS_
               refine norm_ (a' := ?_) ?_ ?_
               rotate_left
               ·simp only [putAll, Act.put, List.setIfInBounds_toArray, List.set_cons_zero, List.set_cons_succ]
                rfl
               refine oU 11 none 4095 HT_ (fun K hK => ?_)
               have hs205 : w204.cell? ⟨gb907, 0, none⟩ = some (.int .i64 0) := cB BK907
               have hfs205 := blk_frozen BK907.out 0
               have hns205_0 := NB863_907.out
               have hns205_1 := NB869_907.out
               have hns205_2 := NB870_907.out
               have hns205_3 := NB876_907.out
               have hns205_4 := NB877_907.out
               have hns205_5 := NB900_907.out
               have hms205_0 := NB907_863.out
               have hms205_1 := NB907_869.out
               have hms205_2 := NB907_870.out
               have hms205_3 := NB907_876.out
               have hms205_4 := NB907_877.out
               have hms205_5 := NB907_900.out
               have hs206 : w204.cell? ⟨gb907, 1, none⟩ = some (.int .i64 0) := cB BK907
               have hfs206 := blk_frozen BK907.out 1
               have hns206_0 := NB863_907.out
               have hns206_1 := NB869_907.out
               have hns206_2 := NB870_907.out
               have hns206_3 := NB876_907.out
               have hns206_4 := NB877_907.out
               have hns206_5 := NB900_907.out
               have hms206_0 := NB907_863.out
               have hms206_1 := NB907_869.out
               have hms206_2 := NB907_870.out
               have hms206_3 := NB907_876.out
               have hms206_4 := NB907_877.out
               have hms206_5 := NB907_900.out
               have hs207 : w204.cell? ⟨gb907, 2, none⟩ = some (.int .i64 0) := cB BK907
               have hfs207 := blk_frozen BK907.out 2
               have hns207_0 := NB863_907.out
               have hns207_1 := NB869_907.out
               have hns207_2 := NB870_907.out
               have hns207_3 := NB876_907.out
               have hns207_4 := NB877_907.out
               have hns207_5 := NB900_907.out
               have hms207_0 := NB907_863.out
               have hms207_1 := NB907_869.out
               have hms207_2 := NB907_870.out
               have hms207_3 := NB907_876.out
               have hms207_4 := NB907_877.out
               have hms207_5 := NB907_900.out
               refine skip_ (w1 := ?_) (by rfl) rfl ?_ ?_
               rotate_left
               ·go_simp
                rfl
               refine hK.out _ _ ⟨((cell_far (p := ⟨gb907, _, none⟩) NB863_907.out _).trans (((cell_far (p := ⟨gb907, _, none⟩) NB863_907.out _).trans (((cell_far (p := ⟨gb907, _, none⟩) NB863_907.out _).trans (hHeld.1)))))), ((cell_far (p := ⟨gb907, _, none⟩) NB863_907.out _).trans (((cell_far (p := ⟨gb907, _, none⟩) NB863_907.out _).trans (((cell_far (p := ⟨gb907, _, none⟩) NB863_907.out _).trans (hHeld.2.1)))))), ((cell_far (p := ⟨gb907, _, none⟩) NB863_907.out _).trans (((cell_far (p := ⟨gb907, _, none⟩) NB863_907.out _).trans (((cell_far (p := ⟨gb907, _, none⟩) NB863_907.out _).trans (hHeld.2.2.1)))))), ((cell_far (p := ⟨gb907, _, none⟩) (by first | exact Kd.own_blk (Kd.R_ne HO_15.out BK907.out (by decide)) | (rw [add_block]; exact Kd.own_blk (Kd.R_ne HO_15.out BK907.out (by decide))) | (show (Addr.add _ _).block ≠ _; rw [add_block]; exact Kd.own_blk (Kd.R_ne HO_15.out BK907.out (by decide))) | (dsimp only; exact Kd.own_blk (Kd.R_ne HO_15.out BK907.out (by decide)))) _).trans (((cell_far (p := ⟨gb907, _, none⟩) (by first | exact Kd.own_blk (Kd.R_ne HO_15.out BK907.out (by decide)) | (rw [add_block]; exact Kd.own_blk (Kd.R_ne HO_15.out BK907.out (by decide))) | (show (Addr.add _ _).block ≠ _; rw [add_block]; exact Kd.own_blk (Kd.R_ne HO_15.out BK907.out (by decide))) | (dsimp only; exact Kd.own_blk (Kd.R_ne HO_15.out BK907.out (by decide)))) _).trans (((cell_far (p := ⟨gb907, _, none⟩) (by first | exact Kd.own_blk (Kd.R_ne HO_15.out BK907.out (by decide)) | (rw [add_block]; exact Kd.own_blk (Kd.R_ne HO_15.out BK907.out (by decide))) | (show (Addr.add _ _).block ≠ _; rw [add_block]; exact Kd.own_blk (Kd.R_ne HO_15.out BK907.out (by decide))) | (dsimp only; exact Kd.own_blk (Kd.R_ne HO_15.out BK907.out (by decide)))) _).trans (hHeld.2.2.2.1)))))), ((cell_far (p := ⟨gb907, _, none⟩) (by first | exact Kd.own_blk (Kd.R_ne HO_15.out BK907.out (by decide)) | (rw [add_block]; exact Kd.own_blk (Kd.R_ne HO_15.out BK907.out (by decide))) | (show (Addr.add _ _).block ≠ _; rw [add_block]; exact Kd.own_blk (Kd.R_ne HO_15.out BK907.out (by decide))) | (dsimp only; exact Kd.own_blk (Kd.R_ne HO_15.out BK907.out (by decide)))) _).trans (((cell_far (p := ⟨gb907, _, none⟩) (by first | exact Kd.own_blk (Kd.R_ne HO_15.out BK907.out (by decide)) | (rw [add_block]; exact Kd.own_blk (Kd.R_ne HO_15.out BK907.out (by decide))) | (show (Addr.add _ _).block ≠ _; rw [add_block]; exact Kd.own_blk (Kd.R_ne HO_15.out BK907.out (by decide))) | (dsimp only; exact Kd.own_blk (Kd.R_ne HO_15.out BK907.out (by decide)))) _).trans (((cell_far (p := ⟨gb907, _, none⟩) (by first | exact Kd.own_blk (Kd.R_ne HO_15.out BK907.out (by decide)) | (rw [add_block]; exact Kd.own_blk (Kd.R_ne HO_15.out BK907.out (by decide))) | (show (Addr.add _ _).block ≠ _; rw [add_block]; exact Kd.own_blk (Kd.R_ne HO_15.out BK907.out (by decide))) | (dsimp only; exact Kd.own_blk (Kd.R_ne HO_15.out BK907.out (by decide)))) _).trans (hHeld.2.2.2.2.1)))))), ((cell_far (p := ⟨gb907, _, none⟩) (by first | exact Kd.own_blk (Kd.R_ne HO_15.out BK907.out (by decide)) | (rw [add_block]; exact Kd.own_blk (Kd.R_ne HO_15.out BK907.out (by decide))) | (show (Addr.add _ _).block ≠ _; rw [add_block]; exact Kd.own_blk (Kd.R_ne HO_15.out BK907.out (by decide))) | (dsimp only; exact Kd.own_blk (Kd.R_ne HO_15.out BK907.out (by decide)))) _).trans (((cell_far (p := ⟨gb907, _, none⟩) (by first | exact Kd.own_blk (Kd.R_ne HO_15.out BK907.out (by decide)) | (rw [add_block]; exact Kd.own_blk (Kd.R_ne HO_15.out BK907.out (by decide))) | (show (Addr.add _ _).block ≠ _; rw [add_block]; exact Kd.own_blk (Kd.R_ne HO_15.out BK907.out (by decide))) | (dsimp only; exact Kd.own_blk (Kd.R_ne HO_15.out BK907.out (by decide)))) _).trans (((cell_far (p := ⟨gb907, _, none⟩) (by first | exact Kd.own_blk (Kd.R_ne HO_15.out BK907.out (by decide)) | (rw [add_block]; exact Kd.own_blk (Kd.R_ne HO_15.out BK907.out (by decide))) | (show (Addr.add _ _).block ≠ _; rw [add_block]; exact Kd.own_blk (Kd.R_ne HO_15.out BK907.out (by decide))) | (dsimp only; exact Kd.own_blk (Kd.R_ne HO_15.out BK907.out (by decide)))) _).trans (hHeld.2.2.2.2.2.1)))))), ((cell_far (p := ⟨gb907, _, none⟩) (by first | exact Kd.own_blk (Kd.R_ne HO_15.out BK907.out (by decide)) | (rw [add_block]; exact Kd.own_blk (Kd.R_ne HO_15.out BK907.out (by decide))) | (show (Addr.add _ _).block ≠ _; rw [add_block]; exact Kd.own_blk (Kd.R_ne HO_15.out BK907.out (by decide))) | (dsimp only; exact Kd.own_blk (Kd.R_ne HO_15.out BK907.out (by decide)))) _).trans (((cell_far (p := ⟨gb907, _, none⟩) (by first | exact Kd.own_blk (Kd.R_ne HO_15.out BK907.out (by decide)) | (rw [add_block]; exact Kd.own_blk (Kd.R_ne HO_15.out BK907.out (by decide))) | (show (Addr.add _ _).block ≠ _; rw [add_block]; exact Kd.own_blk (Kd.R_ne HO_15.out BK907.out (by decide))) | (dsimp only; exact Kd.own_blk (Kd.R_ne HO_15.out BK907.out (by decide)))) _).trans (((cell_far (p := ⟨gb907, _, none⟩) (by first | exact Kd.own_blk (Kd.R_ne HO_15.out BK907.out (by decide)) | (rw [add_block]; exact Kd.own_blk (Kd.R_ne HO_15.out BK907.out (by decide))) | (show (Addr.add _ _).block ≠ _; rw [add_block]; exact Kd.own_blk (Kd.R_ne HO_15.out BK907.out (by decide))) | (dsimp only; exact Kd.own_blk (Kd.R_ne HO_15.out BK907.out (by decide)))) _).trans (hHeld.2.2.2.2.2.2))))))⟩ (fun hHeld => ?_)
               clear hK K
               refine pU 12 (some 23) 8191 HT_ ?_
               refine dN HT_ ?_
               have hnb208 := NB907_863.out
               have hnc208 := NB863_907.out
               have hnb209 := NB907_869.out
               have hnc209 := NB869_907.out
               have hnb210 := NB907_870.out
               have hnc210 := NB870_907.out
               have hnb211 := NB907_876.out
               have hnc211 := NB876_907.out
               have hnb212 := NB907_877.out
               have hnc212 := NB877_907.out
               have hnb213 := NB907_900.out
               have hnc213 := NB900_907.out
               obtain ⟨hcz214_0, hcz214_1, hcz214_2⟩ := z3 BK907
               obtain ⟨hfz214_0, hfz214_1, hfz214_2⟩ := y3 BK907
               have hnb215 := NB863_869.out
               have hnc215 := NB869_863.out
               have hnb216 := NB863_870.out
               have hnc216 := NB870_863.out
               have hnb217 := NB863_876.out
               have hnc217 := NB876_863.out
               have hnb218 := NB863_877.out
               have hnc218 := NB877_863.out
               have hnb219 := NB863_900.out
               have hnc219 := NB900_863.out
               obtain ⟨hcz220_0, hcz220_1, hcz220_2⟩ := z3 BK863
               obtain ⟨hfz220_0, hfz220_1, hfz220_2⟩ := y3 BK863
               try go_wp2
               go_roundg k3
               case measure => have := HJ10.out; have := HJ141.out; have := HK3.out; omega
               case rel => exact ⟨(wrap64 (x21_3 + 1)), (by first | rfl | (simp; done) | (simp [*]; done)), H', ⟨by have := HJ10.out; have := HJ141.out; have := HK3.out; omega⟩, ⟨by (with_reducible repeat (first | apply Kd.R_alloc | apply Kd.R_drewN | apply Kd.R_drew)); exact Kd.R_mono (Kd.R_far (p := ⟨gb907, 2, none⟩) (Kd.R_far (p := ⟨gb907, 1, none⟩) (Kd.R_far (p := ⟨gb907, 0, none⟩) (Kd.R_types HO_15.out BK907.out (by decide)) (fun _ hk => hk.2) (.int .i64 t903)) (fun _ hk => hk.2) (.int .i64 t904)) (fun _ hk => hk.2) (.int .i64 t905)) (fun _ hk => trivial)⟩, ⟨by (repeat (first|(with_reducible first|apply kN|apply kD|apply kA)|refine blk_far ?_ NB863_907.out _)); exact BK863.out⟩, ⟨by (repeat (first|(with_reducible first|apply kN|apply kD|apply kA)|refine blk_far ?_ NB869_907.out _)); exact BK869.out⟩, ⟨by (repeat (first|(with_reducible first|apply kN|apply kD|apply kA)|refine blk_far ?_ NB870_907.out _)); exact BK870.out⟩, ⟨by (repeat (first|(with_reducible first|apply kN|apply kD|apply kA)|refine blk_far ?_ NB876_907.out _)); exact BK876.out⟩, ⟨by (repeat (first|(with_reducible first|apply kN|apply kD|apply kA)|refine blk_far ?_ NB877_907.out _)); exact BK877.out⟩, ⟨by (repeat (first|(with_reducible first|apply kN|apply kD|apply kA)|refine blk_far ?_ NB900_907.out _)); exact BK900.out⟩, ⟨qB⟩⟩
             ·rw [if_neg c177] at H
              have c177b0 : (t906 == 0) = false := beq_eq_false_iff_ne.mpr c177
              have c177b1 : (t906 != 0) = true := bne_iff_ne.mpr c177
              exact absurd (Option.some.inj H) (by decide)
            ·rw [if_neg c175] at H
             exact absurd H (by simp)
           ·rw [if_neg c174] at H
            have c174b0 : decide (x21_3 < (t886.length : Int)) = false := decide_eq_false c174
            clear c174
            have hrT_ := Option.some.inj H
            obtain ⟨Ao229, co229, eo229⟩ := Kd.R_slice HO_15.out
            subst eo229
            go_wp2
            all_goals go_ret
            all_goals exact ⟨qR, qB⟩
     ·rw [if_neg c140] at H
      have c140b0 : (t868 == 0) = false := beq_eq_false_iff_ne.mpr c140
      have c140b1 : (t868 != 0) = true := bne_iff_ne.mpr c140
      clear H
      go_wp2
      go_ret
      exact ⟨qR, qB⟩


end Go.Proofs.Ytcjchihnopmplaa.F
