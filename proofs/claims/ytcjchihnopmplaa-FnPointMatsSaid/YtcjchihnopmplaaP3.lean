import Derived.Test.YtcjchihnopmplaaP0
import Derived.Test.YtcjchihnopmplaaP1
namespace Go.Proofs.Ytcjchihnopmplaa.F
open Go.RowKit Go.Proofs.YtcjchihnopmplaaW.PrintWords Go.Proofs.YtcjchihnopmplaaW.PrintLast Go.Proofs.YtcjchihnopmplaaW.PrintMore
attribute [local go_sem] max2_int min2_int max_two min_two max_three min_three max_four min_four   -- for this text's walks alone
set_option linter.unusedVariables false
set_option linter.unusedSimpArgs false

def impl_pointMats.l0 : Nat → Int → List (S51) → Int → Option ((List (S51)))
 | 0, _, _, _ => none
 | k + 1, x0, x3, x10 => if x10 < 81 then ((impl_Mat_apply.f (wrap64 ((wrap64 (Int.tdiv x10 27)) - 1)) (wrap64 ((Int.tmod (wrap64 (Int.tdiv x10 9)) 3) - 1)) (wrap64 ((Int.tmod (wrap64 (Int.tdiv x10 3)) 3) - 1)) (wrap64 ((Int.tmod x10 3) - 1)) 1 0).bind fun bt208 => ((impl_Mat_apply.f (wrap64 ((wrap64 (Int.tdiv x10 27)) - 1)) (wrap64 ((Int.tmod (wrap64 (Int.tdiv x10 9)) 3) - 1)) (wrap64 ((Int.tmod (wrap64 (Int.tdiv x10 3)) 3) - 1)) (wrap64 ((Int.tmod x10 3) - 1)) 0 1).bind fun bt210 => ((impl_Mat_apply.f (wrap64 ((wrap64 (Int.tdiv x10 27)) - 1)) (wrap64 ((Int.tmod (wrap64 (Int.tdiv x10 9)) 3) - 1)) (wrap64 ((Int.tmod (wrap64 (Int.tdiv x10 3)) 3) - 1)) (wrap64 ((Int.tmod x10 3) - 1)) 1 1).bind fun bt212 => ((impl_norm.f x0 bt208.1 bt208.2).bind fun t217 => (if t217 = 1 then ((impl_norm.f x0 bt210.1 bt210.2).bind fun t218 => (if t218 = 1 then ((impl_norm.f x0 bt212.1 bt212.2).bind fun t219 => (if t219 = (wrap64 (2 + x0)) then (if x3.length < 4398046511104 then (impl_pointMats.l0 k x0 (x3 ++ [(⟨wrap64 ((wrap64 (Int.tdiv x10 27)) - 1), wrap64 ((Int.tmod (wrap64 (Int.tdiv x10 9)) 3) - 1), wrap64 ((Int.tmod (wrap64 (Int.tdiv x10 3)) 3) - 1), wrap64 ((Int.tmod x10 3) - 1)⟩ : S51)]) (wrap64 (x10 + 1))) else (none)) else (impl_pointMats.l0 k x0 x3 (wrap64 (x10 + 1))))) else (impl_pointMats.l0 k x0 x3 (wrap64 (x10 + 1))))) else (impl_pointMats.l0 k x0 x3 (wrap64 (x10 + 1)))))))) else (some x3)
def impl_pointMats.f (k : Nat) (a0 : Int) : Option ((List (S51))) := impl_pointMats.l0 k a0 (([] : List (S51))) 0
def impl_pointMats.T6 : Bool × List (List Nat × List Nat) := (true, [([], []), ([], []), ([0, 1], [0, 1]), ([], []), ([], []), ([3, 4, 2], [3, 4]), ([], []), ([], []), ([6, 7, 5], [6, 7]), ([], []), ([], []), ([], []), ([9, 2, 8, 0, 1, 2, 9, 10, 11], [2, 9]), ([10, 5, 12, 0, 1, 2, 3, 4, 5, 9, 10, 11, 12], [5, 10]), ([11, 8, 13, 0, 1, 2, 3, 4, 5, 6, 7, 8, 9, 10, 11, 12, 13], [8, 11])])
def impl_pointMats.B6 : List Nat := [0, 0, 3, 0, 0, 31, 0, 0, 255, 0, 0, 0, 4095, 8191, 16383]
theorem impl_pointMats.tab6 : rtab .any (opsOf Try.f114 6) = impl_pointMats.T6 := by kernel_rfl
theorem impl_pointMats.bits6 : waitsOk impl_pointMats.T6.2 impl_pointMats.B6 = true := by kernel_rfl
set_option maxHeartbeats 8000000 in
set_option maxRecDepth 100000 in
theorem impl_pointMats.calls (k : Nat) (a0 : Int) (r : List (S51)) (w : World) (h : impl_pointMats.f k a0 = some r) :
  Calls Try.prog 114 #[.int .i64 a0] w fun e w' => ∃ v0_ : Value, e = .returned (v0_) ∧ Kd.R k51 51 w' w.heap.size (fun _ => True) v0_ r ∧ Below w.heap.size w w' := by
 have hu51 := Try.underlying51
 have hu47 := Try.underlying47
 have HB := aM (Below.refl w.heap.size w)
 have H : (impl_pointMats.l0 k a0 (([] : List (S51))) 0) = some r := h
 clear h
 obtain ⟨y204, hy204⟩ : ∃ y_ : List (S51), y_ = (([] : List (S51))) := ⟨_, rfl⟩
 replace H : (impl_pointMats.l0 k a0 y204 0) = some r := by first | (rw [hy204]; with_reducible exact H) | (have H2_ := (Option.bind_some _ _).symm.trans H; rw [hy204]; with_reducible exact H2_) | (have H2_ := (Option.bind_some _ _).symm.trans H; with_reducible exact H2_) | with_reducible exact H | (rw [hy204]; exact H) | exact H
 have Ny204 := aM hy204
 clear hy204
 have H' := aM H
 clear H
 go_enter Try.func114, Try.ntmps114
 go_wp2_with (first | ((with_reducible refine gate_dst (N := 9) rfl ?_); refine Kd.R_lit k51 _ 51 ?hg (N := 9) ?hd (xs := ([] : List (S51))) (inner := []) (ok := fun _ => True) (okp := fun _ => True) ?hr ?hp (fun _ hk => hk) trivial (Below.refl _ _) (Nat.le_refl _) (by simp) ?_; (case hd => rfl); (case hg => rfl); (case hr => first | (go_simp; done) | (go_simp; rfl)); (case hp => exact (Reps.none _ _)); intro v205 w2 ho3 hb hg_ hnew_; clear hg_ hnew_; (first | rw [← Ny204.out] at ho3 | (simp only [Int.reduceToNat] at ho3; rw [← Ny204.out] at ho3)); have HO206 := aM (Kd.R_lower ho3 (below_size qB)); replace HB := bS HB hb; clear hb ho3))
 go_loopg [3, 10] k (fun kq v3 v10 w' => ∃ (x3_1 : List (S51)) (x10_1 : Int), v10 = .int .i64 x10_1 ∧ Aside0 (impl_pointMats.l0 kq a0 x3_1 x10_1 = some r) ∧ Aside0 (kq ≤ k) ∧ Aside0 (Kd.R k51 51 w' w.heap.size (fun _ => True) v3 x3_1) ∧ Aside0 (Below w.heap.size w w'))
 case atStart => exact ⟨(y204), (0), (by first | rfl | (simp; done) | (simp [*]; done)), H', ⟨Nat.le_refl _⟩, ⟨by (with_reducible repeat (first | apply Kd.R_alloc | apply Kd.R_drewN | apply Kd.R_drew)); exact HO206.out⟩, ⟨qB⟩⟩
 case round =>
  clear H'
  try clear c1
  try clear p2
  obtain ⟨x3_1, x10_1, rfl, HA, HK1, HO_3, HB⟩ := hrel
  cases gk with
  | zero => exact absurd HA.out (by simp [impl_pointMats.l0])
  | succ k1 =>
   have H := HA.out
   clear HA
   simp only [impl_pointMats.l0] at H
   by_cases c4 : x10_1 < 81
   ·rw [if_pos c4] at H
    have c4b0 : decide (x10_1 < 81) = true := decide_eq_true c4
    clear c4
    obtain ⟨⟨t208, t209⟩, A5, H⟩ := oB H
    try dsimp only at H
    obtain ⟨⟨t210, t211⟩, A6, H⟩ := oB H
    try dsimp only at H
    obtain ⟨⟨t212, t213⟩, A7, H⟩ := oB H
    try dsimp only at H
    obtain ⟨t217, A8, H⟩ := oB H
    try dsimp only at H
    have HH := aM H
    clear H
    try go_wp2_with (first | ((with_reducible refine gD (N:=5) rfl ?_); refine bE 5 #[.int .i64 0, .int .i64 0, .int .i64 0, .int .i64 0] 51 ?_; intro gb207 hg w101 hbox hb; have BK207 := aM hbox; have GW207 := bZ hg HB; have GE207 := bZ hg HB; replace HO_3 := aM (Kd.R_below (Kd.R_elderB (by (with_reducible repeat (first | apply Kd.R_alloc | apply Kd.R_drewN | apply Kd.R_drew)); exact HO_3.out) gb207 (Nat.le_of_eq hg.symm)) hb); replace HB := bS HB hb; clear hb hbox hg; obtain ⟨hcz102_0, hcz102_1, hcz102_2, hcz102_3⟩ := z4 BK207; obtain ⟨hfz102_0, hfz102_1, hfz102_2, hfz102_3⟩ := y4 BK207))
    have n0_ : Aside0 (Kd.R k51 51 ((((w101.setCell ⟨gb207, 0, none⟩ (.int .i64 (wrap64 ((wrap64 (Int.tdiv x10_1 27)) - 1)))).setCell ⟨gb207, 1, none⟩ (.int .i64 (wrap64 ((Int.tmod (wrap64 (Int.tdiv x10_1 9)) 3) - 1)))).setCell ⟨gb207, 2, none⟩ (.int .i64 (wrap64 ((Int.tmod (wrap64 (Int.tdiv x10_1 3)) 3) - 1)))).setCell ⟨gb207, 3, none⟩ (.int .i64 (wrap64 ((Int.tmod x10_1 3) - 1)))) w.heap.size (fun k_ => k_ ≠ gb207) u3 x3_1) := ⟨by (with_reducible repeat (first | apply Kd.R_alloc | apply Kd.R_drewN | apply Kd.R_drew)); exact Kd.R_mono (Kd.R_far (p := ⟨gb207, 3, none⟩) (Kd.R_far (p := ⟨gb207, 2, none⟩) (Kd.R_far (p := ⟨gb207, 1, none⟩) (Kd.R_far (p := ⟨gb207, 0, none⟩) (Kd.R_mono HO_3.out (fun k_ hk => (⟨hk, hk.2⟩ : _ ∧ k_ ≠ gb207))) (fun _ hk => hk.2) (.int .i64 (wrap64 ((wrap64 (Int.tdiv x10_1 27)) - 1)))) (fun _ hk => hk.2) (.int .i64 (wrap64 ((Int.tmod (wrap64 (Int.tdiv x10_1 9)) 3) - 1)))) (fun _ hk => hk.2) (.int .i64 (wrap64 ((Int.tmod (wrap64 (Int.tdiv x10_1 3)) 3) - 1)))) (fun _ hk => hk.2) (.int .i64 (wrap64 ((Int.tmod x10_1 3) - 1)))) (fun _ hk => hk.1.2)⟩
    have n1_ : Aside0 (((((w101.setCell ⟨gb207, 0, none⟩ (.int .i64 (wrap64 ((wrap64 (Int.tdiv x10_1 27)) - 1)))).setCell ⟨gb207, 1, none⟩ (.int .i64 (wrap64 ((Int.tmod (wrap64 (Int.tdiv x10_1 9)) 3) - 1)))).setCell ⟨gb207, 2, none⟩ (.int .i64 (wrap64 ((Int.tmod (wrap64 (Int.tdiv x10_1 3)) 3) - 1)))).setCell ⟨gb207, 3, none⟩ (.int .i64 (wrap64 ((Int.tmod x10_1 3) - 1)))).heap[gb207]? = some (.cells #[.int .i64 (wrap64 ((wrap64 (Int.tdiv x10_1 27)) - 1)), .int .i64 (wrap64 ((Int.tmod (wrap64 (Int.tdiv x10_1 9)) 3) - 1)), .int .i64 (wrap64 ((Int.tmod (wrap64 (Int.tdiv x10_1 3)) 3) - 1)), .int .i64 (wrap64 ((Int.tmod x10_1 3) - 1))] 51 (0, 0))) := ⟨by (with_reducible repeat (first|apply kN|apply kD|apply kA)); refine blk_put (cs := #[.int .i64 (wrap64 ((wrap64 (Int.tdiv x10_1 27)) - 1)), .int .i64 (wrap64 ((Int.tmod (wrap64 (Int.tdiv x10_1 9)) 3) - 1)), .int .i64 (wrap64 ((Int.tmod (wrap64 (Int.tdiv x10_1 3)) 3) - 1)), .int .i64 0]) ?_ 3 _ rfl; (with_reducible repeat (first|apply kN|apply kD|apply kA)); refine blk_put (cs := #[.int .i64 (wrap64 ((wrap64 (Int.tdiv x10_1 27)) - 1)), .int .i64 (wrap64 ((Int.tmod (wrap64 (Int.tdiv x10_1 9)) 3) - 1)), .int .i64 0, .int .i64 0]) ?_ 2 _ rfl; (with_reducible repeat (first|apply kN|apply kD|apply kA)); refine blk_put (cs := #[.int .i64 (wrap64 ((wrap64 (Int.tdiv x10_1 27)) - 1)), .int .i64 0, .int .i64 0, .int .i64 0]) ?_ 1 _ rfl; (with_reducible repeat (first|apply kN|apply kD|apply kA)); refine blk_put (cs := #[.int .i64 0, .int .i64 0, .int .i64 0, .int .i64 0]) ?_ 0 _ rfl; (with_reducible repeat (first|apply kN|apply kD|apply kA)); exact BK207.out⟩
    have n2_ : Aside0 (Below w.heap.size w ((((w101.setCell ⟨gb207, 0, none⟩ (.int .i64 (wrap64 ((wrap64 (Int.tdiv x10_1 27)) - 1)))).setCell ⟨gb207, 1, none⟩ (.int .i64 (wrap64 ((Int.tmod (wrap64 (Int.tdiv x10_1 9)) 3) - 1)))).setCell ⟨gb207, 2, none⟩ (.int .i64 (wrap64 ((Int.tmod (wrap64 (Int.tdiv x10_1 3)) 3) - 1)))).setCell ⟨gb207, 3, none⟩ (.int .i64 (wrap64 ((Int.tmod x10_1 3) - 1))))) := ⟨qB⟩
    (try clear HO_3)
    (try clear BK207)
    (try clear HB)
    generalize ((((w101.setCell ⟨gb207, 0, none⟩ (.int .i64 (wrap64 ((wrap64 (Int.tdiv x10_1 27)) - 1)))).setCell ⟨gb207, 1, none⟩ (.int .i64 (wrap64 ((Int.tmod (wrap64 (Int.tdiv x10_1 9)) 3) - 1)))).setCell ⟨gb207, 2, none⟩ (.int .i64 (wrap64 ((Int.tmod (wrap64 (Int.tdiv x10_1 3)) 3) - 1)))).setCell ⟨gb207, 3, none⟩ (.int .i64 (wrap64 ((Int.tmod x10_1 3) - 1)))) = w103 at n0_ n1_ n2_ ⊢
    have HO_3 := n0_
    have BK207 := n1_
    have HB := n2_
    clear n0_ n1_ n2_
    replace HO_3 := aM (Kd.R_drew HO_3.out)
    replace BK207 := aM (blk_drew BK207.out)
    replace HB := aM (below_drew1 HB.out)
    refine start_ (n := 15) (S := fun w' => True) (ds := []) (bz 15 0) (by kernel_rfl) rfl rfl trivial (fun hHeld => ?_); refine with_tabW impl_pointMats.tab6 impl_pointMats.bits6 (fun HT_ HW_ => ?_)
    generalize w103.drew = w104 at HO_3 BK207 HB hHeld ⊢
    refine inv_at [0, 1, 2, 3, 4, 5, 6, 7, 8, 9, 10, 11, 12, 13, 14] (fun a0_ b a w' => ∃ (gb214 : Nat) (gb215 : Nat) (gb216 : Nat) (m9_ : Value) (m10_ : Value) (m11_ : Value), a = putSel a0_ b [(0, 28, .agg #[.int .i64 (wrap64 ((wrap64 (Int.tdiv x10_1 27)) - 1)), .int .i64 (wrap64 ((Int.tmod (wrap64 (Int.tdiv x10_1 9)) 3) - 1)), .int .i64 (wrap64 ((Int.tmod (wrap64 (Int.tdiv x10_1 3)) 3) - 1)), .int .i64 (wrap64 ((Int.tmod x10_1 3) - 1))]), (1, 29, .agg #[.int .i64 1, .int .i64 0]), (2, 30, .agg #[.int .i64 t208, .int .i64 t209]), (3, 31, .agg #[.int .i64 (wrap64 ((wrap64 (Int.tdiv x10_1 27)) - 1)), .int .i64 (wrap64 ((Int.tmod (wrap64 (Int.tdiv x10_1 9)) 3) - 1)), .int .i64 (wrap64 ((Int.tmod (wrap64 (Int.tdiv x10_1 3)) 3) - 1)), .int .i64 (wrap64 ((Int.tmod x10_1 3) - 1))]), (4, 32, .agg #[.int .i64 0, .int .i64 1]), (5, 33, .agg #[.int .i64 t210, .int .i64 t211]), (6, 34, .agg #[.int .i64 (wrap64 ((wrap64 (Int.tdiv x10_1 27)) - 1)), .int .i64 (wrap64 ((Int.tmod (wrap64 (Int.tdiv x10_1 9)) 3) - 1)), .int .i64 (wrap64 ((Int.tmod (wrap64 (Int.tdiv x10_1 3)) 3) - 1)), .int .i64 (wrap64 ((Int.tmod x10_1 3) - 1))]), (7, 35, .agg #[.int .i64 1, .int .i64 1]), (8, 36, .agg #[.int .i64 t212, .int .i64 t213]), (9, 6, m9_), (10, 7, m10_), (11, 8, m11_)] ∧ (Kd.R k51 51 w' w.heap.size (fun k_ => k_ ≠ gb207) u3 x3_1) ∧ (w'.heap[gb207]? = some (.cells #[.int .i64 (wrap64 ((wrap64 (Int.tdiv x10_1 27)) - 1)), .int .i64 (wrap64 ((Int.tmod (wrap64 (Int.tdiv x10_1 9)) 3) - 1)), .int .i64 (wrap64 ((Int.tmod (wrap64 (Int.tdiv x10_1 3)) 3) - 1)), .int .i64 (wrap64 ((Int.tmod x10_1 3) - 1))] 51 (0, 0))) ∧ (Below w.heap.size w w') ∧ (b 9 = true → b 10 = true → gb215 ≠ gb214) ∧ (b 9 = true → b 10 = true → gb214 ≠ gb215) ∧ (b 9 = true → b 11 = true → gb216 ≠ gb214) ∧ (b 9 = true → b 11 = true → gb214 ≠ gb216) ∧ (b 10 = true → b 11 = true → gb216 ≠ gb215) ∧ (b 10 = true → b 11 = true → gb215 ≠ gb216) ∧ (b 9 = true → b 12 = false → w'.heap[gb214]? = some (.cells #[.int .i64 0, .int .i64 0] 47 (0, 0))) ∧ (b 9 = true → w.heap.size ≤ gb214) ∧ (b 9 = true → w.heap.size ≤ gb214) ∧ (b 9 = true → gb207 ≠ gb214) ∧ (b 9 = true → gb214 ≠ gb207) ∧ (b 10 = true → b 13 = false → w'.heap[gb215]? = some (.cells #[.int .i64 0, .int .i64 0] 47 (0, 0))) ∧ (b 10 = true → w.heap.size ≤ gb215) ∧ (b 10 = true → w.heap.size ≤ gb215) ∧ (b 10 = true → gb207 ≠ gb215) ∧ (b 10 = true → gb215 ≠ gb207) ∧ (b 11 = true → b 14 = false → w'.heap[gb216]? = some (.cells #[.int .i64 0, .int .i64 0] 47 (0, 0))) ∧ (b 11 = true → w.heap.size ≤ gb216) ∧ (b 11 = true → w.heap.size ≤ gb216) ∧ (b 11 = true → gb207 ≠ gb216) ∧ (b 11 = true → gb216 ≠ gb207) ∧ (b 12 = true → w'.heap[gb214]? = some (.cells #[.int .i64 t208, .int .i64 t209] 47 (0, 0))) ∧ (b 13 = true → w'.heap[gb215]? = some (.cells #[.int .i64 t210, .int .i64 t211] 47 (0, 0))) ∧ (b 14 = true → w'.heap[gb216]? = some (.cells #[.int .i64 t212, .int .i64 t213] 47 (0, 0))) ∧ (b 9 = true → (m9_ : Value) = .pointer (some ⟨gb214, 0, none⟩)) ∧ (b 10 = true → (m10_ : Value) = .pointer (some ⟨gb215, 0, none⟩)) ∧ (b 11 = true → (m11_ : Value) = .pointer (some ⟨gb216, 0, none⟩))) HT_.out HW_.out (by kernel_rfl) (by kernel_rfl) ?_ ?_ ?_
    ·exact ⟨0, 0, 0, .bool false, .bool false, .bool false, by simp only [putSel, Bool.false_eq_true, if_false], HO_3.out, BK207.out, HB.out, fun h_ => absurd h_ (by decide), fun h_ => absurd h_ (by decide), fun h_ => absurd h_ (by decide), fun h_ => absurd h_ (by decide), fun h_ => absurd h_ (by decide), fun h_ => absurd h_ (by decide), fun h_ => absurd h_ (by decide), fun h_ => absurd h_ (by decide), fun h_ => absurd h_ (by decide), fun h_ => absurd h_ (by decide), fun h_ => absurd h_ (by decide), fun h_ => absurd h_ (by decide), fun h_ => absurd h_ (by decide), fun h_ => absurd h_ (by decide), fun h_ => absurd h_ (by decide), fun h_ => absurd h_ (by decide), fun h_ => absurd h_ (by decide), fun h_ => absurd h_ (by decide), fun h_ => absurd h_ (by decide), fun h_ => absurd h_ (by decide), fun h_ => absurd h_ (by decide), fun h_ => absurd h_ (by decide), fun h_ => absurd h_ (by decide), fun h_ => absurd h_ (by decide), fun h_ => absurd h_ (by decide), fun h_ => absurd h_ (by decide), fun h_ => absurd h_ (by decide)⟩
    ·skip
     clear BK207 HB HO_3
     refine steps_cons ?_ ?_
     ·rintro b a w' ⟨gb214, gb215, gb216, m9_, m10_, m11_, ha, Q_HO_3, Q_BK207, Q_HB, Q_NB215_214, Q_NB214_215, Q_NB216_214, Q_NB214_216, Q_NB216_215, Q_NB215_216, Q_BK214, Q_GW214, Q_GE214, Q_NB207_214, Q_NB214_207, Q_BK215, Q_GW215, Q_GE215, Q_NB207_215, Q_NB215_207, Q_BK216, Q_GW216, Q_GE216, Q_NB207_216, Q_NB216_207, Q_BK214_e12, Q_BK215_e13, Q_BK216_e14, Q_X9_, Q_X10_, Q_X11_⟩ hb_ hon hoff
      refine ⟨_, rfl, fun K hK => ?_⟩
      have e5 : a.tmps[5]? = some (.pointer (some ⟨gb207, 0, none⟩)) := by rw [ha]; exact (putSel_off rfl).trans rfl
      replace ha := aM ha
      have HO_3 := aM Q_HO_3
      have BK207 := aM Q_BK207
      have HB := aM Q_HB
      have hc0_ : w'.cell? ⟨gb207, 0, none⟩ = some (.int .i64 (wrap64 ((wrap64 (Int.tdiv x10_1 27)) - 1))) := cB BK207
      have hc1_ : w'.cell? ⟨gb207, 1, none⟩ = some (.int .i64 (wrap64 ((Int.tmod (wrap64 (Int.tdiv x10_1 9)) 3) - 1))) := cB BK207
      have hc2_ : w'.cell? ⟨gb207, 2, none⟩ = some (.int .i64 (wrap64 ((Int.tmod (wrap64 (Int.tdiv x10_1 3)) 3) - 1))) := cB BK207
      have hc3_ : w'.cell? ⟨gb207, 3, none⟩ = some (.int .i64 (wrap64 ((Int.tmod x10_1 3) - 1))) := cB BK207
      refine value_ (w1 := w') (v := .agg #[.int .i64 (wrap64 ((wrap64 (Int.tdiv x10_1 27)) - 1)), .int .i64 (wrap64 ((Int.tmod (wrap64 (Int.tdiv x10_1 9)) 3) - 1)), .int .i64 (wrap64 ((Int.tmod (wrap64 (Int.tdiv x10_1 3)) 3) - 1)), .int .i64 (wrap64 ((Int.tmod x10_1 3) - 1))]) (by rfl) rfl ?_ ?_
      ·go_simp
       (try simp only [i64_w])
       try rfl
      refine hK.out _ _ ⟨gb214, gb215, gb216, m9_, m10_, m11_, (by rw [ha.out]; exact putSel_upk 0 hb_ rfl rfl rfl), Q_HO_3, Q_BK207, Q_HB, Q_NB215_214, Q_NB214_215, Q_NB216_214, Q_NB214_216, Q_NB216_215, Q_NB215_216, Q_BK214, Q_GW214, Q_GE214, Q_NB207_214, Q_NB214_207, Q_BK215, Q_GW215, Q_GE215, Q_NB207_215, Q_NB215_207, Q_BK216, Q_GW216, Q_GE216, Q_NB207_216, Q_NB216_207, fun h0_ => absurd ((hoff 12 (by kernel_rfl)).symm.trans h0_) (by decide), fun h0_ => absurd ((hoff 13 (by kernel_rfl)).symm.trans h0_) (by decide), fun h0_ => absurd ((hoff 14 (by kernel_rfl)).symm.trans h0_) (by decide), Q_X9_, Q_X10_, Q_X11_⟩
     refine steps_cons ?_ ?_
     ·rintro b a w' ⟨gb214, gb215, gb216, m9_, m10_, m11_, ha, Q_HO_3, Q_BK207, Q_HB, Q_NB215_214, Q_NB214_215, Q_NB216_214, Q_NB214_216, Q_NB216_215, Q_NB215_216, Q_BK214, Q_GW214, Q_GE214, Q_NB207_214, Q_NB214_207, Q_BK215, Q_GW215, Q_GE215, Q_NB207_215, Q_NB215_207, Q_BK216, Q_GW216, Q_GE216, Q_NB207_216, Q_NB216_207, Q_BK214_e12, Q_BK215_e13, Q_BK216_e14, Q_X9_, Q_X10_, Q_X11_⟩ hb_ hon hoff
      refine ⟨_, rfl, fun K hK => ?_⟩
      replace ha := aM ha
      have HO_3 := aM Q_HO_3
      have BK207 := aM Q_BK207
      have HB := aM Q_HB
      refine value_ (w1 := w') (v := .agg #[.int .i64 1, .int .i64 0]) (by rfl) rfl ?_ ?_
      ·go_simp
       (try simp only [i64_w])
       try rfl
      refine hK.out _ _ ⟨gb214, gb215, gb216, m9_, m10_, m11_, (by rw [ha.out]; exact putSel_upk 1 hb_ rfl rfl rfl), Q_HO_3, Q_BK207, Q_HB, Q_NB215_214, Q_NB214_215, Q_NB216_214, Q_NB214_216, Q_NB216_215, Q_NB215_216, Q_BK214, Q_GW214, Q_GE214, Q_NB207_214, Q_NB214_207, Q_BK215, Q_GW215, Q_GE215, Q_NB207_215, Q_NB215_207, Q_BK216, Q_GW216, Q_GE216, Q_NB207_216, Q_NB216_207, fun h0_ => absurd ((hoff 12 (by kernel_rfl)).symm.trans h0_) (by decide), fun h0_ => absurd ((hoff 13 (by kernel_rfl)).symm.trans h0_) (by decide), fun h0_ => absurd ((hoff 14 (by kernel_rfl)).symm.trans h0_) (by decide), Q_X9_, Q_X10_, Q_X11_⟩
     refine steps_cons ?_ ?_
     ·rintro b a w' ⟨gb214, gb215, gb216, m9_, m10_, m11_, ha, Q_HO_3, Q_BK207, Q_HB, Q_NB215_214, Q_NB214_215, Q_NB216_214, Q_NB214_216, Q_NB216_215, Q_NB215_216, Q_BK214, Q_GW214, Q_GE214, Q_NB207_214, Q_NB214_207, Q_BK215, Q_GW215, Q_GE215, Q_NB207_215, Q_NB215_207, Q_BK216, Q_GW216, Q_GE216, Q_NB207_216, Q_NB216_207, Q_BK214_e12, Q_BK215_e13, Q_BK216_e14, Q_X9_, Q_X10_, Q_X11_⟩ hb_ hon hoff
      refine ⟨_, rfl, fun K hK => ?_⟩
      have e28 : a.tmps[28]? = some (.agg #[.int .i64 (wrap64 ((wrap64 (Int.tdiv x10_1 27)) - 1)), .int .i64 (wrap64 ((Int.tmod (wrap64 (Int.tdiv x10_1 9)) 3) - 1)), .int .i64 (wrap64 ((Int.tmod (wrap64 (Int.tdiv x10_1 3)) 3) - 1)), .int .i64 (wrap64 ((Int.tmod x10_1 3) - 1))]) := by rw [ha]; exact putSel_on (e := (0, 28, .agg #[.int .i64 (wrap64 ((wrap64 (Int.tdiv x10_1 27)) - 1)), .int .i64 (wrap64 ((Int.tmod (wrap64 (Int.tdiv x10_1 9)) 3) - 1)), .int .i64 (wrap64 ((Int.tmod (wrap64 (Int.tdiv x10_1 3)) 3) - 1)), .int .i64 (wrap64 ((Int.tmod x10_1 3) - 1))])) 0 rfl rfl (hon 0 (by kernel_rfl)) rfl
      have e29 : a.tmps[29]? = some (.agg #[.int .i64 1, .int .i64 0]) := by rw [ha]; exact putSel_on (e := (1, 29, .agg #[.int .i64 1, .int .i64 0])) 1 rfl rfl (hon 1 (by kernel_rfl)) rfl
      replace ha := aM ha
      have HO_3 := aM Q_HO_3
      have BK207 := aM Q_BK207
      have HB := aM Q_HB
      refine goes_ Try.func97 (by kernel_rfl) rfl #[.agg #[.int .i64 (wrap64 ((wrap64 (Int.tdiv x10_1 27)) - 1)), .int .i64 (wrap64 ((Int.tmod (wrap64 (Int.tdiv x10_1 9)) 3) - 1)), .int .i64 (wrap64 ((Int.tmod (wrap64 (Int.tdiv x10_1 3)) 3) - 1)), .int .i64 (wrap64 ((Int.tmod x10_1 3) - 1))], .agg #[.int .i64 1, .int .i64 0]] (by rfl) rfl rfl (by first | (simp only [List.map_toArray, List.map_cons, List.map_nil, Act.eval, Array.getD_eq_getD_getElem?, Option.getD_some, e28, e29]; done) | (simp only [List.map_toArray, List.map_cons, List.map_nil, Act.eval, Array.getD_eq_getD_getElem?, Option.getD_some, e28, e29]; rfl)) ?_
      with_reducible refine (impl_Mat_apply.calls (wrap64 ((wrap64 (Int.tdiv x10_1 27)) - 1)) (wrap64 ((Int.tmod (wrap64 (Int.tdiv x10_1 9)) 3) - 1)) (wrap64 ((Int.tmod (wrap64 (Int.tdiv x10_1 3)) 3) - 1)) (wrap64 ((Int.tmod x10_1 3) - 1)) 1 0 t208 t209 _ A5.out).mono ?_
      rintro e w105 ⟨rfl, hb⟩
      refine ⟨_, rfl, ?_⟩
      have n0_ := aM (Kd.R_below (by (with_reducible repeat (first | apply Kd.R_alloc | apply Kd.R_drewN | apply Kd.R_drew)); exact HO_3.out) hb)
      have n1_ := bB BK207 hb
      have n2_ := bS HB hb
      have z_BK214 := fun (h0_ : b 9 = true) (h1_ : b 12 = false) => (show w105.heap[gb214]? = some (.cells #[.int .i64 0, .int .i64 0] 47 (0, 0)) from by first | exact (blk_below (g := gb214) (o := .cells #[.int .i64 0, .int .i64 0] 47 (0, 0)) (by (with_reducible repeat (first|apply kN|apply kD|apply kA)); exact (Q_BK214 h0_ h1_)) hb))
      have z_BK215 := fun (h0_ : b 10 = true) (h1_ : b 13 = false) => (show w105.heap[gb215]? = some (.cells #[.int .i64 0, .int .i64 0] 47 (0, 0)) from by first | exact (blk_below (g := gb215) (o := .cells #[.int .i64 0, .int .i64 0] 47 (0, 0)) (by (with_reducible repeat (first|apply kN|apply kD|apply kA)); exact (Q_BK215 h0_ h1_)) hb))
      have z_BK216 := fun (h0_ : b 11 = true) (h1_ : b 14 = false) => (show w105.heap[gb216]? = some (.cells #[.int .i64 0, .int .i64 0] 47 (0, 0)) from by first | exact (blk_below (g := gb216) (o := .cells #[.int .i64 0, .int .i64 0] 47 (0, 0)) (by (with_reducible repeat (first|apply kN|apply kD|apply kA)); exact (Q_BK216 h0_ h1_)) hb))
      clear HO_3
      clear BK207
      clear HB
      have HO_3 := n0_
      have BK207 := n1_
      have HB := n2_
      clear n0_ n1_ n2_
      (try clear hb)
      (try clear hb2)
      (try clear hk)
      (try clear hi)
      refine hK.out _ _ ⟨gb214, gb215, gb216, m9_, m10_, m11_, (by rw [ha.out]; exact putSel_upk 2 hb_ rfl rfl rfl), (by (with_reducible repeat (first | apply Kd.R_alloc | apply Kd.R_drewN | apply Kd.R_drew)); exact HO_3.out), (bk BK207), qB, Q_NB215_214, Q_NB214_215, Q_NB216_214, Q_NB214_216, Q_NB216_215, Q_NB215_216, z_BK214, Q_GW214, Q_GE214, Q_NB207_214, Q_NB214_207, z_BK215, Q_GW215, Q_GE215, Q_NB207_215, Q_NB215_207, z_BK216, Q_GW216, Q_GE216, Q_NB207_216, Q_NB216_207, fun h0_ => absurd ((hoff 12 (by kernel_rfl)).symm.trans h0_) (by decide), fun h0_ => absurd ((hoff 13 (by kernel_rfl)).symm.trans h0_) (by decide), fun h0_ => absurd ((hoff 14 (by kernel_rfl)).symm.trans h0_) (by decide), Q_X9_, Q_X10_, Q_X11_⟩
     refine steps_cons ?_ ?_
     ·rintro b a w' ⟨gb214, gb215, gb216, m9_, m10_, m11_, ha, Q_HO_3, Q_BK207, Q_HB, Q_NB215_214, Q_NB214_215, Q_NB216_214, Q_NB214_216, Q_NB216_215, Q_NB215_216, Q_BK214, Q_GW214, Q_GE214, Q_NB207_214, Q_NB214_207, Q_BK215, Q_GW215, Q_GE215, Q_NB207_215, Q_NB215_207, Q_BK216, Q_GW216, Q_GE216, Q_NB207_216, Q_NB216_207, Q_BK214_e12, Q_BK215_e13, Q_BK216_e14, Q_X9_, Q_X10_, Q_X11_⟩ hb_ hon hoff
      refine ⟨_, rfl, fun K hK => ?_⟩
      have e5 : a.tmps[5]? = some (.pointer (some ⟨gb207, 0, none⟩)) := by rw [ha]; exact (putSel_off rfl).trans rfl
      replace ha := aM ha
      have HO_3 := aM Q_HO_3
      have BK207 := aM Q_BK207
      have HB := aM Q_HB
      have hc0_ : w'.cell? ⟨gb207, 0, none⟩ = some (.int .i64 (wrap64 ((wrap64 (Int.tdiv x10_1 27)) - 1))) := cB BK207
      have hc1_ : w'.cell? ⟨gb207, 1, none⟩ = some (.int .i64 (wrap64 ((Int.tmod (wrap64 (Int.tdiv x10_1 9)) 3) - 1))) := cB BK207
      have hc2_ : w'.cell? ⟨gb207, 2, none⟩ = some (.int .i64 (wrap64 ((Int.tmod (wrap64 (Int.tdiv x10_1 3)) 3) - 1))) := cB BK207
      have hc3_ : w'.cell? ⟨gb207, 3, none⟩ = some (.int .i64 (wrap64 ((Int.tmod x10_1 3) - 1))) := cB BK207
      refine value_ (w1 := w') (v := .agg #[.int .i64 (wrap64 ((wrap64 (Int.tdiv x10_1 27)) - 1)), .int .i64 (wrap64 ((Int.tmod (wrap64 (Int.tdiv x10_1 9)) 3) - 1)), .int .i64 (wrap64 ((Int.tmod (wrap64 (Int.tdiv x10_1 3)) 3) - 1)), .int .i64 (wrap64 ((Int.tmod x10_1 3) - 1))]) (by rfl) rfl ?_ ?_
      ·go_simp
       (try simp only [i64_w])
       try rfl
      refine hK.out _ _ ⟨gb214, gb215, gb216, m9_, m10_, m11_, (by rw [ha.out]; exact putSel_upk 3 hb_ rfl rfl rfl), Q_HO_3, Q_BK207, Q_HB, Q_NB215_214, Q_NB214_215, Q_NB216_214, Q_NB214_216, Q_NB216_215, Q_NB215_216, Q_BK214, Q_GW214, Q_GE214, Q_NB207_214, Q_NB214_207, Q_BK215, Q_GW215, Q_GE215, Q_NB207_215, Q_NB215_207, Q_BK216, Q_GW216, Q_GE216, Q_NB207_216, Q_NB216_207, fun h0_ => absurd ((hoff 12 (by kernel_rfl)).symm.trans h0_) (by decide), fun h0_ => absurd ((hoff 13 (by kernel_rfl)).symm.trans h0_) (by decide), fun h0_ => absurd ((hoff 14 (by kernel_rfl)).symm.trans h0_) (by decide), Q_X9_, Q_X10_, Q_X11_⟩
     refine steps_cons ?_ ?_
     ·rintro b a w' ⟨gb214, gb215, gb216, m9_, m10_, m11_, ha, Q_HO_3, Q_BK207, Q_HB, Q_NB215_214, Q_NB214_215, Q_NB216_214, Q_NB214_216, Q_NB216_215, Q_NB215_216, Q_BK214, Q_GW214, Q_GE214, Q_NB207_214, Q_NB214_207, Q_BK215, Q_GW215, Q_GE215, Q_NB207_215, Q_NB215_207, Q_BK216, Q_GW216, Q_GE216, Q_NB207_216, Q_NB216_207, Q_BK214_e12, Q_BK215_e13, Q_BK216_e14, Q_X9_, Q_X10_, Q_X11_⟩ hb_ hon hoff
      refine ⟨_, rfl, fun K hK => ?_⟩
      replace ha := aM ha
      have HO_3 := aM Q_HO_3
      have BK207 := aM Q_BK207
      have HB := aM Q_HB
      refine value_ (w1 := w') (v := .agg #[.int .i64 0, .int .i64 1]) (by rfl) rfl ?_ ?_
      ·go_simp
       (try simp only [i64_w])
       try rfl
      refine hK.out _ _ ⟨gb214, gb215, gb216, m9_, m10_, m11_, (by rw [ha.out]; exact putSel_upk 4 hb_ rfl rfl rfl), Q_HO_3, Q_BK207, Q_HB, Q_NB215_214, Q_NB214_215, Q_NB216_214, Q_NB214_216, Q_NB216_215, Q_NB215_216, Q_BK214, Q_GW214, Q_GE214, Q_NB207_214, Q_NB214_207, Q_BK215, Q_GW215, Q_GE215, Q_NB207_215, Q_NB215_207, Q_BK216, Q_GW216, Q_GE216, Q_NB207_216, Q_NB216_207, fun h0_ => absurd ((hoff 12 (by kernel_rfl)).symm.trans h0_) (by decide), fun h0_ => absurd ((hoff 13 (by kernel_rfl)).symm.trans h0_) (by decide), fun h0_ => absurd ((hoff 14 (by kernel_rfl)).symm.trans h0_) (by decide), Q_X9_, Q_X10_, Q_X11_⟩
     refine steps_cons ?_ ?_
     ·rintro b a w' ⟨gb214, gb215, gb216, m9_, m10_, m11_, ha, Q_HO_3, Q_BK207, Q_HB, Q_NB215_214, Q_NB214_215, Q_NB216_214, Q_NB214_216, Q_NB216_215, Q_NB215_216, Q_BK214, Q_GW214, Q_GE214, Q_NB207_214, Q_NB214_207, Q_BK215, Q_GW215, Q_GE215, Q_NB207_215, Q_NB215_207, Q_BK216, Q_GW216, Q_GE216, Q_NB207_216, Q_NB216_207, Q_BK214_e12, Q_BK215_e13, Q_BK216_e14, Q_X9_, Q_X10_, Q_X11_⟩ hb_ hon hoff
      refine ⟨_, rfl, fun K hK => ?_⟩
      have e31 : a.tmps[31]? = some (.agg #[.int .i64 (wrap64 ((wrap64 (Int.tdiv x10_1 27)) - 1)), .int .i64 (wrap64 ((Int.tmod (wrap64 (Int.tdiv x10_1 9)) 3) - 1)), .int .i64 (wrap64 ((Int.tmod (wrap64 (Int.tdiv x10_1 3)) 3) - 1)), .int .i64 (wrap64 ((Int.tmod x10_1 3) - 1))]) := by rw [ha]; exact putSel_on (e := (3, 31, .agg #[.int .i64 (wrap64 ((wrap64 (Int.tdiv x10_1 27)) - 1)), .int .i64 (wrap64 ((Int.tmod (wrap64 (Int.tdiv x10_1 9)) 3) - 1)), .int .i64 (wrap64 ((Int.tmod (wrap64 (Int.tdiv x10_1 3)) 3) - 1)), .int .i64 (wrap64 ((Int.tmod x10_1 3) - 1))])) 3 rfl rfl (hon 3 (by kernel_rfl)) rfl
      have e32 : a.tmps[32]? = some (.agg #[.int .i64 0, .int .i64 1]) := by rw [ha]; exact putSel_on (e := (4, 32, .agg #[.int .i64 0, .int .i64 1])) 4 rfl rfl (hon 4 (by kernel_rfl)) rfl
      replace ha := aM ha
      have HO_3 := aM Q_HO_3
      have BK207 := aM Q_BK207
      have HB := aM Q_HB
      refine goes_ Try.func97 (by kernel_rfl) rfl #[.agg #[.int .i64 (wrap64 ((wrap64 (Int.tdiv x10_1 27)) - 1)), .int .i64 (wrap64 ((Int.tmod (wrap64 (Int.tdiv x10_1 9)) 3) - 1)), .int .i64 (wrap64 ((Int.tmod (wrap64 (Int.tdiv x10_1 3)) 3) - 1)), .int .i64 (wrap64 ((Int.tmod x10_1 3) - 1))], .agg #[.int .i64 0, .int .i64 1]] (by rfl) rfl rfl (by first | (simp only [List.map_toArray, List.map_cons, List.map_nil, Act.eval, Array.getD_eq_getD_getElem?, Option.getD_some, e31, e32]; done) | (simp only [List.map_toArray, List.map_cons, List.map_nil, Act.eval, Array.getD_eq_getD_getElem?, Option.getD_some, e31, e32]; rfl)) ?_
      with_reducible refine (impl_Mat_apply.calls (wrap64 ((wrap64 (Int.tdiv x10_1 27)) - 1)) (wrap64 ((Int.tmod (wrap64 (Int.tdiv x10_1 9)) 3) - 1)) (wrap64 ((Int.tmod (wrap64 (Int.tdiv x10_1 3)) 3) - 1)) (wrap64 ((Int.tmod x10_1 3) - 1)) 0 1 t210 t211 _ A6.out).mono ?_
      rintro e w107 ⟨rfl, hb⟩
      refine ⟨_, rfl, ?_⟩
      have n0_ := aM (Kd.R_below (by (with_reducible repeat (first | apply Kd.R_alloc | apply Kd.R_drewN | apply Kd.R_drew)); exact HO_3.out) hb)
      have n1_ := bB BK207 hb
      have n2_ := bS HB hb
      have z_BK214 := fun (h0_ : b 9 = true) (h1_ : b 12 = false) => (show w107.heap[gb214]? = some (.cells #[.int .i64 0, .int .i64 0] 47 (0, 0)) from by first | exact (blk_below (g := gb214) (o := .cells #[.int .i64 0, .int .i64 0] 47 (0, 0)) (by (with_reducible repeat (first|apply kN|apply kD|apply kA)); exact (Q_BK214 h0_ h1_)) hb))
      have z_BK215 := fun (h0_ : b 10 = true) (h1_ : b 13 = false) => (show w107.heap[gb215]? = some (.cells #[.int .i64 0, .int .i64 0] 47 (0, 0)) from by first | exact (blk_below (g := gb215) (o := .cells #[.int .i64 0, .int .i64 0] 47 (0, 0)) (by (with_reducible repeat (first|apply kN|apply kD|apply kA)); exact (Q_BK215 h0_ h1_)) hb))
      have z_BK216 := fun (h0_ : b 11 = true) (h1_ : b 14 = false) => (show w107.heap[gb216]? = some (.cells #[.int .i64 0, .int .i64 0] 47 (0, 0)) from by first | exact (blk_below (g := gb216) (o := .cells #[.int .i64 0, .int .i64 0] 47 (0, 0)) (by (with_reducible repeat (first|apply kN|apply kD|apply kA)); exact (Q_BK216 h0_ h1_)) hb))
      clear HO_3
      clear BK207
      clear HB
      have HO_3 := n0_
      have BK207 := n1_
      have HB := n2_
      clear n0_ n1_ n2_
      (try clear hb)
      (try clear hb2)
      (try clear hk)
      (try clear hi)
      refine hK.out _ _ ⟨gb214, gb215, gb216, m9_, m10_, m11_, (by rw [ha.out]; exact putSel_upk 5 hb_ rfl rfl rfl), (by (with_reducible repeat (first | apply Kd.R_alloc | apply Kd.R_drewN | apply Kd.R_drew)); exact HO_3.out), (bk BK207), qB, Q_NB215_214, Q_NB214_215, Q_NB216_214, Q_NB214_216, Q_NB216_215, Q_NB215_216, z_BK214, Q_GW214, Q_GE214, Q_NB207_214, Q_NB214_207, z_BK215, Q_GW215, Q_GE215, Q_NB207_215, Q_NB215_207, z_BK216, Q_GW216, Q_GE216, Q_NB207_216, Q_NB216_207, fun h0_ => absurd ((hoff 12 (by kernel_rfl)).symm.trans h0_) (by decide), fun h0_ => absurd ((hoff 13 (by kernel_rfl)).symm.trans h0_) (by decide), fun h0_ => absurd ((hoff 14 (by kernel_rfl)).symm.trans h0_) (by decide), Q_X9_, Q_X10_, Q_X11_⟩
     refine steps_cons ?_ ?_
     ·rintro b a w' ⟨gb214, gb215, gb216, m9_, m10_, m11_, ha, Q_HO_3, Q_BK207, Q_HB, Q_NB215_214, Q_NB214_215, Q_NB216_214, Q_NB214_216, Q_NB216_215, Q_NB215_216, Q_BK214, Q_GW214, Q_GE214, Q_NB207_214, Q_NB214_207, Q_BK215, Q_GW215, Q_GE215, Q_NB207_215, Q_NB215_207, Q_BK216, Q_GW216, Q_GE216, Q_NB207_216, Q_NB216_207, Q_BK214_e12, Q_BK215_e13, Q_BK216_e14, Q_X9_, Q_X10_, Q_X11_⟩ hb_ hon hoff
      refine ⟨_, rfl, fun K hK => ?_⟩
      have e5 : a.tmps[5]? = some (.pointer (some ⟨gb207, 0, none⟩)) := by rw [ha]; exact (putSel_off rfl).trans rfl
      replace ha := aM ha
      have HO_3 := aM Q_HO_3
      have BK207 := aM Q_BK207
      have HB := aM Q_HB
      have hc0_ : w'.cell? ⟨gb207, 0, none⟩ = some (.int .i64 (wrap64 ((wrap64 (Int.tdiv x10_1 27)) - 1))) := cB BK207
      have hc1_ : w'.cell? ⟨gb207, 1, none⟩ = some (.int .i64 (wrap64 ((Int.tmod (wrap64 (Int.tdiv x10_1 9)) 3) - 1))) := cB BK207
      have hc2_ : w'.cell? ⟨gb207, 2, none⟩ = some (.int .i64 (wrap64 ((Int.tmod (wrap64 (Int.tdiv x10_1 3)) 3) - 1))) := cB BK207
      have hc3_ : w'.cell? ⟨gb207, 3, none⟩ = some (.int .i64 (wrap64 ((Int.tmod x10_1 3) - 1))) := cB BK207
      refine value_ (w1 := w') (v := .agg #[.int .i64 (wrap64 ((wrap64 (Int.tdiv x10_1 27)) - 1)), .int .i64 (wrap64 ((Int.tmod (wrap64 (Int.tdiv x10_1 9)) 3) - 1)), .int .i64 (wrap64 ((Int.tmod (wrap64 (Int.tdiv x10_1 3)) 3) - 1)), .int .i64 (wrap64 ((Int.tmod x10_1 3) - 1))]) (by rfl) rfl ?_ ?_
      ·go_simp
       (try simp only [i64_w])
       try rfl
      refine hK.out _ _ ⟨gb214, gb215, gb216, m9_, m10_, m11_, (by rw [ha.out]; exact putSel_upk 6 hb_ rfl rfl rfl), Q_HO_3, Q_BK207, Q_HB, Q_NB215_214, Q_NB214_215, Q_NB216_214, Q_NB214_216, Q_NB216_215, Q_NB215_216, Q_BK214, Q_GW214, Q_GE214, Q_NB207_214, Q_NB214_207, Q_BK215, Q_GW215, Q_GE215, Q_NB207_215, Q_NB215_207, Q_BK216, Q_GW216, Q_GE216, Q_NB207_216, Q_NB216_207, fun h0_ => absurd ((hoff 12 (by kernel_rfl)).symm.trans h0_) (by decide), fun h0_ => absurd ((hoff 13 (by kernel_rfl)).symm.trans h0_) (by decide), fun h0_ => absurd ((hoff 14 (by kernel_rfl)).symm.trans h0_) (by decide), Q_X9_, Q_X10_, Q_X11_⟩
     refine steps_cons ?_ ?_
     ·rintro b a w' ⟨gb214, gb215, gb216, m9_, m10_, m11_, ha, Q_HO_3, Q_BK207, Q_HB, Q_NB215_214, Q_NB214_215, Q_NB216_214, Q_NB214_216, Q_NB216_215, Q_NB215_216, Q_BK214, Q_GW214, Q_GE214, Q_NB207_214, Q_NB214_207, Q_BK215, Q_GW215, Q_GE215, Q_NB207_215, Q_NB215_207, Q_BK216, Q_GW216, Q_GE216, Q_NB207_216, Q_NB216_207, Q_BK214_e12, Q_BK215_e13, Q_BK216_e14, Q_X9_, Q_X10_, Q_X11_⟩ hb_ hon hoff
      refine ⟨_, rfl, fun K hK => ?_⟩
      replace ha := aM ha
      have HO_3 := aM Q_HO_3
      have BK207 := aM Q_BK207
      have HB := aM Q_HB
      refine value_ (w1 := w') (v := .agg #[.int .i64 1, .int .i64 1]) (by rfl) rfl ?_ ?_
      ·go_simp
       (try simp only [i64_w])
       try rfl
      refine hK.out _ _ ⟨gb214, gb215, gb216, m9_, m10_, m11_, (by rw [ha.out]; exact putSel_upk 7 hb_ rfl rfl rfl), Q_HO_3, Q_BK207, Q_HB, Q_NB215_214, Q_NB214_215, Q_NB216_214, Q_NB214_216, Q_NB216_215, Q_NB215_216, Q_BK214, Q_GW214, Q_GE214, Q_NB207_214, Q_NB214_207, Q_BK215, Q_GW215, Q_GE215, Q_NB207_215, Q_NB215_207, Q_BK216, Q_GW216, Q_GE216, Q_NB207_216, Q_NB216_207, fun h0_ => absurd ((hoff 12 (by kernel_rfl)).symm.trans h0_) (by decide), fun h0_ => absurd ((hoff 13 (by kernel_rfl)).symm.trans h0_) (by decide), fun h0_ => absurd ((hoff 14 (by kernel_rfl)).symm.trans h0_) (by decide), Q_X9_, Q_X10_, Q_X11_⟩
     refine steps_cons ?_ ?_
     ·rintro b a w' ⟨gb214, gb215, gb216, m9_, m10_, m11_, ha, Q_HO_3, Q_BK207, Q_HB, Q_NB215_214, Q_NB214_215, Q_NB216_214, Q_NB214_216, Q_NB216_215, Q_NB215_216, Q_BK214, Q_GW214, Q_GE214, Q_NB207_214, Q_NB214_207, Q_BK215, Q_GW215, Q_GE215, Q_NB207_215, Q_NB215_207, Q_BK216, Q_GW216, Q_GE216, Q_NB207_216, Q_NB216_207, Q_BK214_e12, Q_BK215_e13, Q_BK216_e14, Q_X9_, Q_X10_, Q_X11_⟩ hb_ hon hoff
      refine ⟨_, rfl, fun K hK => ?_⟩
      have e34 : a.tmps[34]? = some (.agg #[.int .i64 (wrap64 ((wrap64 (Int.tdiv x10_1 27)) - 1)), .int .i64 (wrap64 ((Int.tmod (wrap64 (Int.tdiv x10_1 9)) 3) - 1)), .int .i64 (wrap64 ((Int.tmod (wrap64 (Int.tdiv x10_1 3)) 3) - 1)), .int .i64 (wrap64 ((Int.tmod x10_1 3) - 1))]) := by rw [ha]; exact putSel_on (e := (6, 34, .agg #[.int .i64 (wrap64 ((wrap64 (Int.tdiv x10_1 27)) - 1)), .int .i64 (wrap64 ((Int.tmod (wrap64 (Int.tdiv x10_1 9)) 3) - 1)), .int .i64 (wrap64 ((Int.tmod (wrap64 (Int.tdiv x10_1 3)) 3) - 1)), .int .i64 (wrap64 ((Int.tmod x10_1 3) - 1))])) 6 rfl rfl (hon 6 (by kernel_rfl)) rfl
      have e35 : a.tmps[35]? = some (.agg #[.int .i64 1, .int .i64 1]) := by rw [ha]; exact putSel_on (e := (7, 35, .agg #[.int .i64 1, .int .i64 1])) 7 rfl rfl (hon 7 (by kernel_rfl)) rfl
      replace ha := aM ha
      have HO_3 := aM Q_HO_3
      have BK207 := aM Q_BK207
      have HB := aM Q_HB
      refine goes_ Try.func97 (by kernel_rfl) rfl #[.agg #[.int .i64 (wrap64 ((wrap64 (Int.tdiv x10_1 27)) - 1)), .int .i64 (wrap64 ((Int.tmod (wrap64 (Int.tdiv x10_1 9)) 3) - 1)), .int .i64 (wrap64 ((Int.tmod (wrap64 (Int.tdiv x10_1 3)) 3) - 1)), .int .i64 (wrap64 ((Int.tmod x10_1 3) - 1))], .agg #[.int .i64 1, .int .i64 1]] (by rfl) rfl rfl (by first | (simp only [List.map_toArray, List.map_cons, List.map_nil, Act.eval, Array.getD_eq_getD_getElem?, Option.getD_some, e34, e35]; done) | (simp only [List.map_toArray, List.map_cons, List.map_nil, Act.eval, Array.getD_eq_getD_getElem?, Option.getD_some, e34, e35]; rfl)) ?_
      with_reducible refine (impl_Mat_apply.calls (wrap64 ((wrap64 (Int.tdiv x10_1 27)) - 1)) (wrap64 ((Int.tmod (wrap64 (Int.tdiv x10_1 9)) 3) - 1)) (wrap64 ((Int.tmod (wrap64 (Int.tdiv x10_1 3)) 3) - 1)) (wrap64 ((Int.tmod x10_1 3) - 1)) 1 1 t212 t213 _ A7.out).mono ?_
      rintro e w108 ⟨rfl, hb⟩
      refine ⟨_, rfl, ?_⟩
      have n0_ := aM (Kd.R_below (by (with_reducible repeat (first | apply Kd.R_alloc | apply Kd.R_drewN | apply Kd.R_drew)); exact HO_3.out) hb)
      have n1_ := bB BK207 hb
      have n2_ := bS HB hb
      have z_BK214 := fun (h0_ : b 9 = true) (h1_ : b 12 = false) => (show w108.heap[gb214]? = some (.cells #[.int .i64 0, .int .i64 0] 47 (0, 0)) from by first | exact (blk_below (g := gb214) (o := .cells #[.int .i64 0, .int .i64 0] 47 (0, 0)) (by (with_reducible repeat (first|apply kN|apply kD|apply kA)); exact (Q_BK214 h0_ h1_)) hb))
      have z_BK215 := fun (h0_ : b 10 = true) (h1_ : b 13 = false) => (show w108.heap[gb215]? = some (.cells #[.int .i64 0, .int .i64 0] 47 (0, 0)) from by first | exact (blk_below (g := gb215) (o := .cells #[.int .i64 0, .int .i64 0] 47 (0, 0)) (by (with_reducible repeat (first|apply kN|apply kD|apply kA)); exact (Q_BK215 h0_ h1_)) hb))
      have z_BK216 := fun (h0_ : b 11 = true) (h1_ : b 14 = false) => (show w108.heap[gb216]? = some (.cells #[.int .i64 0, .int .i64 0] 47 (0, 0)) from by first | exact (blk_below (g := gb216) (o := .cells #[.int .i64 0, .int .i64 0] 47 (0, 0)) (by (with_reducible repeat (first|apply kN|apply kD|apply kA)); exact (Q_BK216 h0_ h1_)) hb))
      clear HO_3
      clear BK207
      clear HB
      have HO_3 := n0_
      have BK207 := n1_
      have HB := n2_
      clear n0_ n1_ n2_
      (try clear hb)
      (try clear hb2)
      (try clear hk)
      (try clear hi)
      refine hK.out _ _ ⟨gb214, gb215, gb216, m9_, m10_, m11_, (by rw [ha.out]; exact putSel_upk 8 hb_ rfl rfl rfl), (by (with_reducible repeat (first | apply Kd.R_alloc | apply Kd.R_drewN | apply Kd.R_drew)); exact HO_3.out), (bk BK207), qB, Q_NB215_214, Q_NB214_215, Q_NB216_214, Q_NB214_216, Q_NB216_215, Q_NB215_216, z_BK214, Q_GW214, Q_GE214, Q_NB207_214, Q_NB214_207, z_BK215, Q_GW215, Q_GE215, Q_NB207_215, Q_NB215_207, z_BK216, Q_GW216, Q_GE216, Q_NB207_216, Q_NB216_207, fun h0_ => absurd ((hoff 12 (by kernel_rfl)).symm.trans h0_) (by decide), fun h0_ => absurd ((hoff 13 (by kernel_rfl)).symm.trans h0_) (by decide), fun h0_ => absurd ((hoff 14 (by kernel_rfl)).symm.trans h0_) (by decide), Q_X9_, Q_X10_, Q_X11_⟩
     refine steps_cons ?_ ?_
     ·rintro b a w' ⟨gb214, gb215, gb216, m9_, m10_, m11_, ha, Q_HO_3, Q_BK207, Q_HB, Q_NB215_214, Q_NB214_215, Q_NB216_214, Q_NB214_216, Q_NB216_215, Q_NB215_216, Q_BK214, Q_GW214, Q_GE214, Q_NB207_214, Q_NB214_207, Q_BK215, Q_GW215, Q_GE215, Q_NB207_215, Q_NB215_207, Q_BK216, Q_GW216, Q_GE216, Q_NB207_216, Q_NB216_207, Q_BK214_e12, Q_BK215_e13, Q_BK216_e14, Q_X9_, Q_X10_, Q_X11_⟩ hb_ hon hoff
      refine ⟨_, rfl, fun K hK => ?_⟩
      replace ha := aM ha
      have HO_3 := aM Q_HO_3
      have BK207 := aM Q_BK207
      have HB := aM Q_HB
      refine xS 6 #[.int .i64 0, .int .i64 0] 47 ?_
      intro gb214 hg w105 hbox hb
      have n0_ := aM (Kd.R_below (by (with_reducible repeat (first | apply Kd.R_alloc | apply Kd.R_drewN | apply Kd.R_drew)); exact HO_3.out) hb)
      have n1_ := bB BK207 hb
      have n2_ := bS HB hb
      have n3_ := aM hbox
      have n4_ := bZ hg HB
      have n5_ := bZ hg HB
      have n6_ := nL hg BK207
      have n7_ := nG hg BK207
      have z_NB215_214 := fun (h0_ : up b 9 9 = true) (h1_ : up b 9 10 = true) => (show gb215 ≠ gb214 from (by rw [hg]; have h2_ : b 10 = true := (up_ne (by decide)).symm.trans h1_; rcases hq_ : b 13 with _ | _ <;> first | exact Nat.ne_of_lt (blk_lt (Q_BK215 h2_ hq_)) | exact Nat.ne_of_lt (blk_lt (Q_BK215_e13 hq_))))
      have z_NB214_215 := fun (h0_ : up b 9 9 = true) (h1_ : up b 9 10 = true) => (show gb214 ≠ gb215 from (by rw [hg]; have h2_ : b 10 = true := (up_ne (by decide)).symm.trans h1_; rcases hq_ : b 13 with _ | _ <;> first | exact Nat.ne_of_gt (blk_lt (Q_BK215 h2_ hq_)) | exact Nat.ne_of_gt (blk_lt (Q_BK215_e13 hq_))))
      have z_NB216_214 := fun (h0_ : up b 9 9 = true) (h1_ : up b 9 11 = true) => (show gb216 ≠ gb214 from (by rw [hg]; have h2_ : b 11 = true := (up_ne (by decide)).symm.trans h1_; rcases hq_ : b 14 with _ | _ <;> first | exact Nat.ne_of_lt (blk_lt (Q_BK216 h2_ hq_)) | exact Nat.ne_of_lt (blk_lt (Q_BK216_e14 hq_))))
      have z_NB214_216 := fun (h0_ : up b 9 9 = true) (h1_ : up b 9 11 = true) => (show gb214 ≠ gb216 from (by rw [hg]; have h2_ : b 11 = true := (up_ne (by decide)).symm.trans h1_; rcases hq_ : b 14 with _ | _ <;> first | exact Nat.ne_of_gt (blk_lt (Q_BK216 h2_ hq_)) | exact Nat.ne_of_gt (blk_lt (Q_BK216_e14 hq_))))
      have z_BK215 := fun (h0_ : b 10 = true) (h1_ : b 13 = false) => (show w105.heap[gb215]? = some (.cells #[.int .i64 0, .int .i64 0] 47 (0, 0)) from by first | exact (blk_below (g := gb215) (o := .cells #[.int .i64 0, .int .i64 0] 47 (0, 0)) (by (with_reducible repeat (first|apply kN|apply kD|apply kA)); exact (Q_BK215 h0_ h1_)) hb))
      have z_BK216 := fun (h0_ : b 11 = true) (h1_ : b 14 = false) => (show w105.heap[gb216]? = some (.cells #[.int .i64 0, .int .i64 0] 47 (0, 0)) from by first | exact (blk_below (g := gb216) (o := .cells #[.int .i64 0, .int .i64 0] 47 (0, 0)) (by (with_reducible repeat (first|apply kN|apply kD|apply kA)); exact (Q_BK216 h0_ h1_)) hb))
      clear HO_3
      clear BK207
      clear HB
      have HO_3 := n0_
      have BK207 := n1_
      have HB := n2_
      have BK214 := n3_
      have GW214 := n4_
      have GE214 := n5_
      have NB207_214 := n6_
      have NB214_207 := n7_
      clear n0_ n1_ n2_ n3_ n4_ n5_ n6_ n7_
      clear hb hbox hg
      refine hK.out _ _ ⟨gb214, gb215, gb216, (.pointer (some ⟨gb214, 0, none⟩)), m10_, m11_, (by rw [ha.out]; exact putSel_upk 9 hb_ rfl rfl rfl), (by (with_reducible repeat (first | apply Kd.R_alloc | apply Kd.R_drewN | apply Kd.R_drew)); exact HO_3.out), (bk BK207), qB, @z_NB215_214, @z_NB214_215, @z_NB216_214, @z_NB214_216, Q_NB216_215, Q_NB215_216, fun _ _ => (bk BK214), fun _ => GW214.out, fun _ => GE214.out, fun _ => NB207_214.out, fun _ => NB214_207.out, z_BK215, Q_GW215, Q_GE215, Q_NB207_215, Q_NB215_207, z_BK216, Q_GW216, Q_GE216, Q_NB207_216, Q_NB216_207, fun h0_ => absurd ((hoff 12 (by kernel_rfl)).symm.trans h0_) (by decide), fun h0_ => absurd ((hoff 13 (by kernel_rfl)).symm.trans h0_) (by decide), fun h0_ => absurd ((hoff 14 (by kernel_rfl)).symm.trans h0_) (by decide), fun _ => rfl, Q_X10_, Q_X11_⟩
     refine steps_cons ?_ ?_
     ·rintro b a w' ⟨gb214, gb215, gb216, m9_, m10_, m11_, ha, Q_HO_3, Q_BK207, Q_HB, Q_NB215_214, Q_NB214_215, Q_NB216_214, Q_NB214_216, Q_NB216_215, Q_NB215_216, Q_BK214, Q_GW214, Q_GE214, Q_NB207_214, Q_NB214_207, Q_BK215, Q_GW215, Q_GE215, Q_NB207_215, Q_NB215_207, Q_BK216, Q_GW216, Q_GE216, Q_NB207_216, Q_NB216_207, Q_BK214_e12, Q_BK215_e13, Q_BK216_e14, Q_X9_, Q_X10_, Q_X11_⟩ hb_ hon hoff
      refine ⟨_, rfl, fun K hK => ?_⟩
      replace ha := aM ha
      have HO_3 := aM Q_HO_3
      have BK207 := aM Q_BK207
      have HB := aM Q_HB
      refine xS 7 #[.int .i64 0, .int .i64 0] 47 ?_
      intro gb215 hg w105 hbox hb
      have n0_ := aM (Kd.R_below (by (with_reducible repeat (first | apply Kd.R_alloc | apply Kd.R_drewN | apply Kd.R_drew)); exact HO_3.out) hb)
      have n1_ := bB BK207 hb
      have n2_ := bS HB hb
      have n3_ := aM hbox
      have n4_ := bZ hg HB
      have n5_ := bZ hg HB
      have n6_ := nL hg BK207
      have n7_ := nG hg BK207
      have z_NB215_214 := fun (h0_ : up b 10 9 = true) (h1_ : up b 10 10 = true) => (show gb215 ≠ gb214 from (by rw [hg]; have h2_ : b 9 = true := (up_ne (by decide)).symm.trans h0_; rcases hq_ : b 12 with _ | _ <;> first | exact Nat.ne_of_gt (blk_lt (Q_BK214 h2_ hq_)) | exact Nat.ne_of_gt (blk_lt (Q_BK214_e12 hq_))))
      have z_NB214_215 := fun (h0_ : up b 10 9 = true) (h1_ : up b 10 10 = true) => (show gb214 ≠ gb215 from (by rw [hg]; have h2_ : b 9 = true := (up_ne (by decide)).symm.trans h0_; rcases hq_ : b 12 with _ | _ <;> first | exact Nat.ne_of_lt (blk_lt (Q_BK214 h2_ hq_)) | exact Nat.ne_of_lt (blk_lt (Q_BK214_e12 hq_))))
      have z_NB216_215 := fun (h0_ : up b 10 10 = true) (h1_ : up b 10 11 = true) => (show gb216 ≠ gb215 from (by rw [hg]; have h2_ : b 11 = true := (up_ne (by decide)).symm.trans h1_; rcases hq_ : b 14 with _ | _ <;> first | exact Nat.ne_of_lt (blk_lt (Q_BK216 h2_ hq_)) | exact Nat.ne_of_lt (blk_lt (Q_BK216_e14 hq_))))
      have z_NB215_216 := fun (h0_ : up b 10 10 = true) (h1_ : up b 10 11 = true) => (show gb215 ≠ gb216 from (by rw [hg]; have h2_ : b 11 = true := (up_ne (by decide)).symm.trans h1_; rcases hq_ : b 14 with _ | _ <;> first | exact Nat.ne_of_gt (blk_lt (Q_BK216 h2_ hq_)) | exact Nat.ne_of_gt (blk_lt (Q_BK216_e14 hq_))))
      have z_BK214 := fun (h0_ : b 9 = true) (h1_ : b 12 = false) => (show w105.heap[gb214]? = some (.cells #[.int .i64 0, .int .i64 0] 47 (0, 0)) from by first | exact (blk_below (g := gb214) (o := .cells #[.int .i64 0, .int .i64 0] 47 (0, 0)) (by (with_reducible repeat (first|apply kN|apply kD|apply kA)); exact (Q_BK214 h0_ h1_)) hb))
      have z_BK216 := fun (h0_ : b 11 = true) (h1_ : b 14 = false) => (show w105.heap[gb216]? = some (.cells #[.int .i64 0, .int .i64 0] 47 (0, 0)) from by first | exact (blk_below (g := gb216) (o := .cells #[.int .i64 0, .int .i64 0] 47 (0, 0)) (by (with_reducible repeat (first|apply kN|apply kD|apply kA)); exact (Q_BK216 h0_ h1_)) hb))
      clear HO_3
      clear BK207
      clear HB
      have HO_3 := n0_
      have BK207 := n1_
      have HB := n2_
      have BK215 := n3_
      have GW215 := n4_
      have GE215 := n5_
      have NB207_215 := n6_
      have NB215_207 := n7_
      clear n0_ n1_ n2_ n3_ n4_ n5_ n6_ n7_
      clear hb hbox hg
      refine hK.out _ _ ⟨gb214, gb215, gb216, m9_, (.pointer (some ⟨gb215, 0, none⟩)), m11_, (by rw [ha.out]; exact putSel_upk 10 hb_ rfl rfl rfl), (by (with_reducible repeat (first | apply Kd.R_alloc | apply Kd.R_drewN | apply Kd.R_drew)); exact HO_3.out), (bk BK207), qB, @z_NB215_214, @z_NB214_215, Q_NB216_214, Q_NB214_216, @z_NB216_215, @z_NB215_216, z_BK214, Q_GW214, Q_GE214, Q_NB207_214, Q_NB214_207, fun _ _ => (bk BK215), fun _ => GW215.out, fun _ => GE215.out, fun _ => NB207_215.out, fun _ => NB215_207.out, z_BK216, Q_GW216, Q_GE216, Q_NB207_216, Q_NB216_207, fun h0_ => absurd ((hoff 12 (by kernel_rfl)).symm.trans h0_) (by decide), fun h0_ => absurd ((hoff 13 (by kernel_rfl)).symm.trans h0_) (by decide), fun h0_ => absurd ((hoff 14 (by kernel_rfl)).symm.trans h0_) (by decide), Q_X9_, fun _ => rfl, Q_X11_⟩
     refine steps_cons ?_ ?_
     ·rintro b a w' ⟨gb214, gb215, gb216, m9_, m10_, m11_, ha, Q_HO_3, Q_BK207, Q_HB, Q_NB215_214, Q_NB214_215, Q_NB216_214, Q_NB214_216, Q_NB216_215, Q_NB215_216, Q_BK214, Q_GW214, Q_GE214, Q_NB207_214, Q_NB214_207, Q_BK215, Q_GW215, Q_GE215, Q_NB207_215, Q_NB215_207, Q_BK216, Q_GW216, Q_GE216, Q_NB207_216, Q_NB216_207, Q_BK214_e12, Q_BK215_e13, Q_BK216_e14, Q_X9_, Q_X10_, Q_X11_⟩ hb_ hon hoff
      refine ⟨_, rfl, fun K hK => ?_⟩
      replace ha := aM ha
      have HO_3 := aM Q_HO_3
      have BK207 := aM Q_BK207
      have HB := aM Q_HB
      refine xS 8 #[.int .i64 0, .int .i64 0] 47 ?_
      intro gb216 hg w105 hbox hb
      have n0_ := aM (Kd.R_below (by (with_reducible repeat (first | apply Kd.R_alloc | apply Kd.R_drewN | apply Kd.R_drew)); exact HO_3.out) hb)
      have n1_ := bB BK207 hb
      have n2_ := bS HB hb
      have n3_ := aM hbox
      have n4_ := bZ hg HB
      have n5_ := bZ hg HB
      have n6_ := nL hg BK207
      have n7_ := nG hg BK207
      have z_NB216_214 := fun (h0_ : up b 11 9 = true) (h1_ : up b 11 11 = true) => (show gb216 ≠ gb214 from (by rw [hg]; have h2_ : b 9 = true := (up_ne (by decide)).symm.trans h0_; rcases hq_ : b 12 with _ | _ <;> first | exact Nat.ne_of_gt (blk_lt (Q_BK214 h2_ hq_)) | exact Nat.ne_of_gt (blk_lt (Q_BK214_e12 hq_))))
      have z_NB214_216 := fun (h0_ : up b 11 9 = true) (h1_ : up b 11 11 = true) => (show gb214 ≠ gb216 from (by rw [hg]; have h2_ : b 9 = true := (up_ne (by decide)).symm.trans h0_; rcases hq_ : b 12 with _ | _ <;> first | exact Nat.ne_of_lt (blk_lt (Q_BK214 h2_ hq_)) | exact Nat.ne_of_lt (blk_lt (Q_BK214_e12 hq_))))
      have z_NB216_215 := fun (h0_ : up b 11 10 = true) (h1_ : up b 11 11 = true) => (show gb216 ≠ gb215 from (by rw [hg]; have h2_ : b 10 = true := (up_ne (by decide)).symm.trans h0_; rcases hq_ : b 13 with _ | _ <;> first | exact Nat.ne_of_gt (blk_lt (Q_BK215 h2_ hq_)) | exact Nat.ne_of_gt (blk_lt (Q_BK215_e13 hq_))))
      have z_NB215_216 := fun (h0_ : up b 11 10 = true) (h1_ : up b 11 11 = true) => (show gb215 ≠ gb216 from (by rw [hg]; have h2_ : b 10 = true := (up_ne (by decide)).symm.trans h0_; rcases hq_ : b 13 with _ | _ <;> first | exact Nat.ne_of_lt (blk_lt (Q_BK215 h2_ hq_)) | exact Nat.ne_of_lt (blk_lt (Q_BK215_e13 hq_))))
      have z_BK214 := fun (h0_ : b 9 = true) (h1_ : b 12 = false) => (show w105.heap[gb214]? = some (.cells #[.int .i64 0, .int .i64 0] 47 (0, 0)) from by first | exact (blk_below (g := gb214) (o := .cells #[.int .i64 0, .int .i64 0] 47 (0, 0)) (by (with_reducible repeat (first|apply kN|apply kD|apply kA)); exact (Q_BK214 h0_ h1_)) hb))
      have z_BK215 := fun (h0_ : b 10 = true) (h1_ : b 13 = false) => (show w105.heap[gb215]? = some (.cells #[.int .i64 0, .int .i64 0] 47 (0, 0)) from by first | exact (blk_below (g := gb215) (o := .cells #[.int .i64 0, .int .i64 0] 47 (0, 0)) (by (with_reducible repeat (first|apply kN|apply kD|apply kA)); exact (Q_BK215 h0_ h1_)) hb))
      clear HO_3
      clear BK207
      clear HB
      have HO_3 := n0_
      have BK207 := n1_
      have HB := n2_
      have BK216 := n3_
      have GW216 := n4_
      have GE216 := n5_
      have NB207_216 := n6_
      have NB216_207 := n7_
      clear n0_ n1_ n2_ n3_ n4_ n5_ n6_ n7_
      clear hb hbox hg
      refine hK.out _ _ ⟨gb214, gb215, gb216, m9_, m10_, (.pointer (some ⟨gb216, 0, none⟩)), (by rw [ha.out]; exact putSel_upk 11 hb_ rfl rfl rfl), (by (with_reducible repeat (first | apply Kd.R_alloc | apply Kd.R_drewN | apply Kd.R_drew)); exact HO_3.out), (bk BK207), qB, Q_NB215_214, Q_NB214_215, @z_NB216_214, @z_NB214_216, @z_NB216_215, @z_NB215_216, z_BK214, Q_GW214, Q_GE214, Q_NB207_214, Q_NB214_207, z_BK215, Q_GW215, Q_GE215, Q_NB207_215, Q_NB215_207, fun _ _ => (bk BK216), fun _ => GW216.out, fun _ => GE216.out, fun _ => NB207_216.out, fun _ => NB216_207.out, fun h0_ => absurd ((hoff 12 (by kernel_rfl)).symm.trans h0_) (by decide), fun h0_ => absurd ((hoff 13 (by kernel_rfl)).symm.trans h0_) (by decide), fun h0_ => absurd ((hoff 14 (by kernel_rfl)).symm.trans h0_) (by decide), Q_X9_, Q_X10_, fun _ => rfl⟩
     refine steps_cons ?_ ?_
     ·rintro b a w' ⟨gb214, gb215, gb216, m9_, m10_, m11_, ha, Q_HO_3, Q_BK207, Q_HB, Q_NB215_214, Q_NB214_215, Q_NB216_214, Q_NB214_216, Q_NB216_215, Q_NB215_216, Q_BK214, Q_GW214, Q_GE214, Q_NB207_214, Q_NB214_207, Q_BK215, Q_GW215, Q_GE215, Q_NB207_215, Q_NB215_207, Q_BK216, Q_GW216, Q_GE216, Q_NB207_216, Q_NB216_207, Q_BK214_e12, Q_BK215_e13, Q_BK216_e14, Q_X9_, Q_X10_, Q_X11_⟩ hb_ hon hoff
      refine ⟨_, rfl, fun K hK => ?_⟩
      have e6 : a.tmps[6]? = some (m9_) := by rw [ha]; exact putSel_on (e := (9, 6, m9_)) 9 rfl rfl (hon 9 (by kernel_rfl)) rfl
      rw [Q_X9_ (hon 9 (by kernel_rfl))] at e6
      have e30 : a.tmps[30]? = some (.agg #[.int .i64 t208, .int .i64 t209]) := by rw [ha]; exact putSel_on (e := (2, 30, .agg #[.int .i64 t208, .int .i64 t209])) 2 rfl rfl (hon 2 (by kernel_rfl)) rfl
      replace ha := aM ha
      have HO_3 := aM Q_HO_3
      have BK207 := aM Q_BK207
      have HB := aM Q_HB
      have NB215_214 := aM (Q_NB215_214 (hon 9 (by kernel_rfl)) (hon 10 (by kernel_rfl)))
      have NB214_215 := aM (Q_NB214_215 (hon 9 (by kernel_rfl)) (hon 10 (by kernel_rfl)))
      have NB216_214 := aM (Q_NB216_214 (hon 9 (by kernel_rfl)) (hon 11 (by kernel_rfl)))
      have NB214_216 := aM (Q_NB214_216 (hon 9 (by kernel_rfl)) (hon 11 (by kernel_rfl)))
      have NB216_215 := aM (Q_NB216_215 (hon 10 (by kernel_rfl)) (hon 11 (by kernel_rfl)))
      have NB215_216 := aM (Q_NB215_216 (hon 10 (by kernel_rfl)) (hon 11 (by kernel_rfl)))
      have BK214 := aM (Q_BK214 (hon 9 (by kernel_rfl)) hb_)
      have GW214 := aM (Q_GW214 (hon 9 (by kernel_rfl)))
      have GE214 := aM (Q_GE214 (hon 9 (by kernel_rfl)))
      have NB207_214 := aM (Q_NB207_214 (hon 9 (by kernel_rfl)))
      have NB214_207 := aM (Q_NB214_207 (hon 9 (by kernel_rfl)))
      have BK215 := aM (Q_BK215 (hon 10 (by kernel_rfl)) (hoff 13 (by kernel_rfl)))
      have GW215 := aM (Q_GW215 (hon 10 (by kernel_rfl)))
      have GE215 := aM (Q_GE215 (hon 10 (by kernel_rfl)))
      have NB207_215 := aM (Q_NB207_215 (hon 10 (by kernel_rfl)))
      have NB215_207 := aM (Q_NB215_207 (hon 10 (by kernel_rfl)))
      have BK216 := aM (Q_BK216 (hon 11 (by kernel_rfl)) (hoff 14 (by kernel_rfl)))
      have GW216 := aM (Q_GW216 (hon 11 (by kernel_rfl)))
      have GE216 := aM (Q_GE216 (hon 11 (by kernel_rfl)))
      have NB207_216 := aM (Q_NB207_216 (hon 11 (by kernel_rfl)))
      have NB216_207 := aM (Q_NB216_207 (hon 11 (by kernel_rfl)))
      have hs112 : w'.cell? ⟨gb214, 0, none⟩ = some (.int .i64 0) := cB BK214
      have hfs112 := blk_frozen BK214.out 0
      have hns112_0 := NB207_214.out
      have hns112_2 := NB215_214.out
      have hns112_3 := NB216_214.out
      have hms112_0 := NB214_207.out
      have hms112_2 := NB214_215.out
      have hms112_3 := NB214_216.out
      have hs113 : w'.cell? ⟨gb214, 1, none⟩ = some (.int .i64 0) := cB BK214
      have hfs113 := blk_frozen BK214.out 1
      have hns113_0 := NB207_214.out
      have hns113_2 := NB215_214.out
      have hns113_3 := NB216_214.out
      have hms113_0 := NB214_207.out
      have hms113_2 := NB214_215.out
      have hms113_3 := NB214_216.out
      refine skip_ (w1 := ?_) (by rfl) rfl ?_ ?_
      rotate_left
      ·go_simp
       rfl
      refine hK.out _ _ ⟨gb214, gb215, gb216, m9_, m10_, m11_, (by rw [ha.out]; exact putSel_none (v := undef) rfl), (by (with_reducible repeat (first | apply Kd.R_alloc | apply Kd.R_drewN | apply Kd.R_drew)); exact Kd.R_mono (Kd.R_far (p := ⟨gb214, 1, none⟩) (Kd.R_far (p := ⟨gb214, 0, none⟩) (Kd.R_types HO_3.out BK214.out (by decide)) (fun _ hk => hk.2) (.int .i64 t208)) (fun _ hk => hk.2) (.int .i64 t209)) (fun _ hk => hk.1)), (by (repeat (first|(with_reducible first|apply kN|apply kD|apply kA)|refine blk_far ?_ NB207_214.out _)); exact BK207.out), qB, fun _ _ => NB215_214.out, fun _ _ => NB214_215.out, fun _ _ => NB216_214.out, fun _ _ => NB214_216.out, fun _ _ => NB216_215.out, fun _ _ => NB215_216.out, fun _ h1_ => absurd ((up_self b 12).symm.trans h1_) (by decide), fun _ => GW214.out, fun _ => GE214.out, fun _ => NB207_214.out, fun _ => NB214_207.out, fun _ _ => (by (repeat (first|(with_reducible first|apply kN|apply kD|apply kA)|refine blk_far ?_ NB215_214.out _)); exact BK215.out), fun _ => GW215.out, fun _ => GE215.out, fun _ => NB207_215.out, fun _ => NB215_207.out, fun _ _ => (by (repeat (first|(with_reducible first|apply kN|apply kD|apply kA)|refine blk_far ?_ NB216_214.out _)); exact BK216.out), fun _ => GW216.out, fun _ => GE216.out, fun _ => NB207_216.out, fun _ => NB216_207.out, fun _ => (by (with_reducible repeat (first|apply kN|apply kD|apply kA)); refine blk_put (cs := #[.int .i64 t208, .int .i64 0]) ?_ 1 _ rfl; (with_reducible repeat (first|apply kN|apply kD|apply kA)); refine blk_put (cs := #[.int .i64 0, .int .i64 0]) ?_ 0 _ rfl; (with_reducible repeat (first|apply kN|apply kD|apply kA)); exact BK214.out), fun h0_ => absurd ((hoff 13 (by kernel_rfl)).symm.trans h0_) (by decide), fun h0_ => absurd ((hoff 14 (by kernel_rfl)).symm.trans h0_) (by decide), Q_X9_, Q_X10_, Q_X11_⟩
     refine steps_cons ?_ ?_
     ·rintro b a w' ⟨gb214, gb215, gb216, m9_, m10_, m11_, ha, Q_HO_3, Q_BK207, Q_HB, Q_NB215_214, Q_NB214_215, Q_NB216_214, Q_NB214_216, Q_NB216_215, Q_NB215_216, Q_BK214, Q_GW214, Q_GE214, Q_NB207_214, Q_NB214_207, Q_BK215, Q_GW215, Q_GE215, Q_NB207_215, Q_NB215_207, Q_BK216, Q_GW216, Q_GE216, Q_NB207_216, Q_NB216_207, Q_BK214_e12, Q_BK215_e13, Q_BK216_e14, Q_X9_, Q_X10_, Q_X11_⟩ hb_ hon hoff
      refine ⟨_, rfl, fun K hK => ?_⟩
      have e7 : a.tmps[7]? = some (m10_) := by rw [ha]; exact putSel_on (e := (10, 7, m10_)) 10 rfl rfl (hon 10 (by kernel_rfl)) rfl
      rw [Q_X10_ (hon 10 (by kernel_rfl))] at e7
      have e33 : a.tmps[33]? = some (.agg #[.int .i64 t210, .int .i64 t211]) := by rw [ha]; exact putSel_on (e := (5, 33, .agg #[.int .i64 t210, .int .i64 t211])) 5 rfl rfl (hon 5 (by kernel_rfl)) rfl
      replace ha := aM ha
      have HO_3 := aM Q_HO_3
      have BK207 := aM Q_BK207
      have HB := aM Q_HB
      have NB215_214 := aM (Q_NB215_214 (hon 9 (by kernel_rfl)) (hon 10 (by kernel_rfl)))
      have NB214_215 := aM (Q_NB214_215 (hon 9 (by kernel_rfl)) (hon 10 (by kernel_rfl)))
      have NB216_214 := aM (Q_NB216_214 (hon 9 (by kernel_rfl)) (hon 11 (by kernel_rfl)))
      have NB214_216 := aM (Q_NB214_216 (hon 9 (by kernel_rfl)) (hon 11 (by kernel_rfl)))
      have NB216_215 := aM (Q_NB216_215 (hon 10 (by kernel_rfl)) (hon 11 (by kernel_rfl)))
      have NB215_216 := aM (Q_NB215_216 (hon 10 (by kernel_rfl)) (hon 11 (by kernel_rfl)))
      have GW214 := aM (Q_GW214 (hon 9 (by kernel_rfl)))
      have GE214 := aM (Q_GE214 (hon 9 (by kernel_rfl)))
      have NB207_214 := aM (Q_NB207_214 (hon 9 (by kernel_rfl)))
      have NB214_207 := aM (Q_NB214_207 (hon 9 (by kernel_rfl)))
      have BK215 := aM (Q_BK215 (hon 10 (by kernel_rfl)) hb_)
      have GW215 := aM (Q_GW215 (hon 10 (by kernel_rfl)))
      have GE215 := aM (Q_GE215 (hon 10 (by kernel_rfl)))
      have NB207_215 := aM (Q_NB207_215 (hon 10 (by kernel_rfl)))
      have NB215_207 := aM (Q_NB215_207 (hon 10 (by kernel_rfl)))
      have BK216 := aM (Q_BK216 (hon 11 (by kernel_rfl)) (hoff 14 (by kernel_rfl)))
      have GW216 := aM (Q_GW216 (hon 11 (by kernel_rfl)))
      have GE216 := aM (Q_GE216 (hon 11 (by kernel_rfl)))
      have NB207_216 := aM (Q_NB207_216 (hon 11 (by kernel_rfl)))
      have NB216_207 := aM (Q_NB216_207 (hon 11 (by kernel_rfl)))
      have BK214 := aM (Q_BK214_e12 (hon 12 (by kernel_rfl)))
      have hs114 : w'.cell? ⟨gb215, 0, none⟩ = some (.int .i64 0) := cB BK215
      have hfs114 := blk_frozen BK215.out 0
      have hns114_0 := NB207_215.out
      have hns114_1 := NB214_215.out
      have hns114_3 := NB216_215.out
      have hms114_0 := NB215_207.out
      have hms114_1 := NB215_214.out
      have hms114_3 := NB215_216.out
      have hs115 : w'.cell? ⟨gb215, 1, none⟩ = some (.int .i64 0) := cB BK215
      have hfs115 := blk_frozen BK215.out 1
      have hns115_0 := NB207_215.out
      have hns115_1 := NB214_215.out
      have hns115_3 := NB216_215.out
      have hms115_0 := NB215_207.out
      have hms115_1 := NB215_214.out
      have hms115_3 := NB215_216.out
      refine skip_ (w1 := ?_) (by rfl) rfl ?_ ?_
      rotate_left
      ·go_simp
       rfl
      refine hK.out _ _ ⟨gb214, gb215, gb216, m9_, m10_, m11_, (by rw [ha.out]; exact putSel_none (v := undef) rfl), (by (with_reducible repeat (first | apply Kd.R_alloc | apply Kd.R_drewN | apply Kd.R_drew)); exact Kd.R_mono (Kd.R_far (p := ⟨gb215, 1, none⟩) (Kd.R_far (p := ⟨gb215, 0, none⟩) (Kd.R_types HO_3.out BK215.out (by decide)) (fun _ hk => hk.2) (.int .i64 t210)) (fun _ hk => hk.2) (.int .i64 t211)) (fun _ hk => hk.1)), (by (repeat (first|(with_reducible first|apply kN|apply kD|apply kA)|refine blk_far ?_ NB207_215.out _)); exact BK207.out), qB, fun _ _ => NB215_214.out, fun _ _ => NB214_215.out, fun _ _ => NB216_214.out, fun _ _ => NB214_216.out, fun _ _ => NB216_215.out, fun _ _ => NB215_216.out, fun _ h1_ => absurd ((hon 12 (by kernel_rfl)).symm.trans h1_) (by decide), fun _ => GW214.out, fun _ => GE214.out, fun _ => NB207_214.out, fun _ => NB214_207.out, fun _ h1_ => absurd ((up_self b 13).symm.trans h1_) (by decide), fun _ => GW215.out, fun _ => GE215.out, fun _ => NB207_215.out, fun _ => NB215_207.out, fun _ _ => (by (repeat (first|(with_reducible first|apply kN|apply kD|apply kA)|refine blk_far ?_ NB216_215.out _)); exact BK216.out), fun _ => GW216.out, fun _ => GE216.out, fun _ => NB207_216.out, fun _ => NB216_207.out, fun _ => (by (repeat (first|(with_reducible first|apply kN|apply kD|apply kA)|refine blk_far ?_ NB214_215.out _)); exact BK214.out), fun _ => (by (with_reducible repeat (first|apply kN|apply kD|apply kA)); refine blk_put (cs := #[.int .i64 t210, .int .i64 0]) ?_ 1 _ rfl; (with_reducible repeat (first|apply kN|apply kD|apply kA)); refine blk_put (cs := #[.int .i64 0, .int .i64 0]) ?_ 0 _ rfl; (with_reducible repeat (first|apply kN|apply kD|apply kA)); exact BK215.out), fun h0_ => absurd ((hoff 14 (by kernel_rfl)).symm.trans h0_) (by decide), Q_X9_, Q_X10_, Q_X11_⟩
     refine steps_cons ?_ ?_
     ·rintro b a w' ⟨gb214, gb215, gb216, m9_, m10_, m11_, ha, Q_HO_3, Q_BK207, Q_HB, Q_NB215_214, Q_NB214_215, Q_NB216_214, Q_NB214_216, Q_NB216_215, Q_NB215_216, Q_BK214, Q_GW214, Q_GE214, Q_NB207_214, Q_NB214_207, Q_BK215, Q_GW215, Q_GE215, Q_NB207_215, Q_NB215_207, Q_BK216, Q_GW216, Q_GE216, Q_NB207_216, Q_NB216_207, Q_BK214_e12, Q_BK215_e13, Q_BK216_e14, Q_X9_, Q_X10_, Q_X11_⟩ hb_ hon hoff
      refine ⟨_, rfl, fun K hK => ?_⟩
      have e8 : a.tmps[8]? = some (m11_) := by rw [ha]; exact putSel_on (e := (11, 8, m11_)) 11 rfl rfl (hon 11 (by kernel_rfl)) rfl
      rw [Q_X11_ (hon 11 (by kernel_rfl))] at e8
      have e36 : a.tmps[36]? = some (.agg #[.int .i64 t212, .int .i64 t213]) := by rw [ha]; exact putSel_on (e := (8, 36, .agg #[.int .i64 t212, .int .i64 t213])) 8 rfl rfl (hon 8 (by kernel_rfl)) rfl
      replace ha := aM ha
      have HO_3 := aM Q_HO_3
      have BK207 := aM Q_BK207
      have HB := aM Q_HB
      have NB215_214 := aM (Q_NB215_214 (hon 9 (by kernel_rfl)) (hon 10 (by kernel_rfl)))
      have NB214_215 := aM (Q_NB214_215 (hon 9 (by kernel_rfl)) (hon 10 (by kernel_rfl)))
      have NB216_214 := aM (Q_NB216_214 (hon 9 (by kernel_rfl)) (hon 11 (by kernel_rfl)))
      have NB214_216 := aM (Q_NB214_216 (hon 9 (by kernel_rfl)) (hon 11 (by kernel_rfl)))
      have NB216_215 := aM (Q_NB216_215 (hon 10 (by kernel_rfl)) (hon 11 (by kernel_rfl)))
      have NB215_216 := aM (Q_NB215_216 (hon 10 (by kernel_rfl)) (hon 11 (by kernel_rfl)))
      have GW214 := aM (Q_GW214 (hon 9 (by kernel_rfl)))
      have GE214 := aM (Q_GE214 (hon 9 (by kernel_rfl)))
      have NB207_214 := aM (Q_NB207_214 (hon 9 (by kernel_rfl)))
      have NB214_207 := aM (Q_NB214_207 (hon 9 (by kernel_rfl)))
      have GW215 := aM (Q_GW215 (hon 10 (by kernel_rfl)))
      have GE215 := aM (Q_GE215 (hon 10 (by kernel_rfl)))
      have NB207_215 := aM (Q_NB207_215 (hon 10 (by kernel_rfl)))
      have NB215_207 := aM (Q_NB215_207 (hon 10 (by kernel_rfl)))
      have BK216 := aM (Q_BK216 (hon 11 (by kernel_rfl)) hb_)
      have GW216 := aM (Q_GW216 (hon 11 (by kernel_rfl)))
      have GE216 := aM (Q_GE216 (hon 11 (by kernel_rfl)))
      have NB207_216 := aM (Q_NB207_216 (hon 11 (by kernel_rfl)))
      have NB216_207 := aM (Q_NB216_207 (hon 11 (by kernel_rfl)))
      have BK214 := aM (Q_BK214_e12 (hon 12 (by kernel_rfl)))
      have BK215 := aM (Q_BK215_e13 (hon 13 (by kernel_rfl)))
      have hs116 : w'.cell? ⟨gb216, 0, none⟩ = some (.int .i64 0) := cB BK216
      have hfs116 := blk_frozen BK216.out 0
      have hns116_0 := NB207_216.out
      have hns116_1 := NB214_216.out
      have hns116_2 := NB215_216.out
      have hms116_0 := NB216_207.out
      have hms116_1 := NB216_214.out
      have hms116_2 := NB216_215.out
      have hs117 : w'.cell? ⟨gb216, 1, none⟩ = some (.int .i64 0) := cB BK216
      have hfs117 := blk_frozen BK216.out 1
      have hns117_0 := NB207_216.out
      have hns117_1 := NB214_216.out
      have hns117_2 := NB215_216.out
      have hms117_0 := NB216_207.out
      have hms117_1 := NB216_214.out
      have hms117_2 := NB216_215.out
      refine skip_ (w1 := ?_) (by rfl) rfl ?_ ?_
      rotate_left
      ·go_simp
       rfl
      refine hK.out _ _ ⟨gb214, gb215, gb216, m9_, m10_, m11_, (by rw [ha.out]; exact putSel_none (v := undef) rfl), (by (with_reducible repeat (first | apply Kd.R_alloc | apply Kd.R_drewN | apply Kd.R_drew)); exact Kd.R_mono (Kd.R_far (p := ⟨gb216, 1, none⟩) (Kd.R_far (p := ⟨gb216, 0, none⟩) (Kd.R_types HO_3.out BK216.out (by decide)) (fun _ hk => hk.2) (.int .i64 t212)) (fun _ hk => hk.2) (.int .i64 t213)) (fun _ hk => hk.1)), (by (repeat (first|(with_reducible first|apply kN|apply kD|apply kA)|refine blk_far ?_ NB207_216.out _)); exact BK207.out), qB, fun _ _ => NB215_214.out, fun _ _ => NB214_215.out, fun _ _ => NB216_214.out, fun _ _ => NB214_216.out, fun _ _ => NB216_215.out, fun _ _ => NB215_216.out, fun _ h1_ => absurd ((hon 12 (by kernel_rfl)).symm.trans h1_) (by decide), fun _ => GW214.out, fun _ => GE214.out, fun _ => NB207_214.out, fun _ => NB214_207.out, fun _ h1_ => absurd ((hon 13 (by kernel_rfl)).symm.trans h1_) (by decide), fun _ => GW215.out, fun _ => GE215.out, fun _ => NB207_215.out, fun _ => NB215_207.out, fun _ h1_ => absurd ((up_self b 14).symm.trans h1_) (by decide), fun _ => GW216.out, fun _ => GE216.out, fun _ => NB207_216.out, fun _ => NB216_207.out, fun _ => (by (repeat (first|(with_reducible first|apply kN|apply kD|apply kA)|refine blk_far ?_ NB214_216.out _)); exact BK214.out), fun _ => (by (repeat (first|(with_reducible first|apply kN|apply kD|apply kA)|refine blk_far ?_ NB215_216.out _)); exact BK215.out), fun _ => (by (with_reducible repeat (first|apply kN|apply kD|apply kA)); refine blk_put (cs := #[.int .i64 t212, .int .i64 0]) ?_ 1 _ rfl; (with_reducible repeat (first|apply kN|apply kD|apply kA)); refine blk_put (cs := #[.int .i64 0, .int .i64 0]) ?_ 0 _ rfl; (with_reducible repeat (first|apply kN|apply kD|apply kA)); exact BK216.out), Q_X9_, Q_X10_, Q_X11_⟩
     exact steps_nil
    rintro b a w117 hall ⟨gb214, gb215, gb216, m9_, m10_, m11_, ha, Q_HO_3, Q_BK207, Q_HB, Q_NB215_214, Q_NB214_215, Q_NB216_214, Q_NB214_216, Q_NB216_215, Q_NB215_216, Q_BK214, Q_GW214, Q_GE214, Q_NB207_214, Q_NB214_207, Q_BK215, Q_GW215, Q_GE215, Q_NB207_215, Q_NB215_207, Q_BK216, Q_GW216, Q_GE216, Q_NB207_216, Q_NB216_207, Q_BK214_e12, Q_BK215_e13, Q_BK216_e14, Q_X9_, Q_X10_, Q_X11_⟩
    clear BK207 HB HO_3
    have hb0_ := hall 0 (by kernel_rfl)
    have hb1_ := hall 1 (by kernel_rfl)
    have hb2_ := hall 2 (by kernel_rfl)
    have hb3_ := hall 3 (by kernel_rfl)
    have hb4_ := hall 4 (by kernel_rfl)
    have hb5_ := hall 5 (by kernel_rfl)
    have hb6_ := hall 6 (by kernel_rfl)
    have hb7_ := hall 7 (by kernel_rfl)
    have hb8_ := hall 8 (by kernel_rfl)
    have hb9_ := hall 9 (by kernel_rfl)
    have hb10_ := hall 10 (by kernel_rfl)
    have hb11_ := hall 11 (by kernel_rfl)
    have hb12_ := hall 12 (by kernel_rfl)
    have hb13_ := hall 13 (by kernel_rfl)
    have hb14_ := hall 14 (by kernel_rfl)
    subst ha
    obtain rfl := Q_X9_ hb9_
    obtain rfl := Q_X10_ hb10_
    obtain rfl := Q_X11_ hb11_
    simp only [putSel, hb0_, hb1_, hb2_, hb3_, hb4_, hb5_, hb6_, hb7_, hb8_, hb9_, hb10_, hb11_, hb12_, hb13_, hb14_, if_true, Act.put, List.setIfInBounds_toArray, List.set_cons_zero, List.set_cons_succ]
    have HO_3 := aM Q_HO_3
    clear Q_HO_3
    have BK207 := aM Q_BK207
    clear Q_BK207
    have HB := aM Q_HB
    clear Q_HB
    have NB215_214 := aM (Q_NB215_214 hb9_ hb10_)
    clear Q_NB215_214
    have NB214_215 := aM (Q_NB214_215 hb9_ hb10_)
    clear Q_NB214_215
    have NB216_214 := aM (Q_NB216_214 hb9_ hb11_)
    clear Q_NB216_214
    have NB214_216 := aM (Q_NB214_216 hb9_ hb11_)
    clear Q_NB214_216
    have NB216_215 := aM (Q_NB216_215 hb10_ hb11_)
    clear Q_NB216_215
    have NB215_216 := aM (Q_NB215_216 hb10_ hb11_)
    clear Q_NB215_216
    clear Q_BK214
    have GW214 := aM (Q_GW214 hb9_)
    clear Q_GW214
    have GE214 := aM (Q_GE214 hb9_)
    clear Q_GE214
    have NB207_214 := aM (Q_NB207_214 hb9_)
    clear Q_NB207_214
    have NB214_207 := aM (Q_NB214_207 hb9_)
    clear Q_NB214_207
    clear Q_BK215
    have GW215 := aM (Q_GW215 hb10_)
    clear Q_GW215
    have GE215 := aM (Q_GE215 hb10_)
    clear Q_GE215
    have NB207_215 := aM (Q_NB207_215 hb10_)
    clear Q_NB207_215
    have NB215_207 := aM (Q_NB215_207 hb10_)
    clear Q_NB215_207
    clear Q_BK216
    have GW216 := aM (Q_GW216 hb11_)
    clear Q_GW216
    have GE216 := aM (Q_GE216 hb11_)
    clear Q_GE216
    have NB207_216 := aM (Q_NB207_216 hb11_)
    clear Q_NB207_216
    have NB216_207 := aM (Q_NB216_207 hb11_)
    clear Q_NB216_207
    have BK214 := aM (Q_BK214_e12 hb12_)
    clear Q_BK214_e12
    have BK215 := aM (Q_BK215_e13 hb13_)
    clear Q_BK215_e13
    have BK216 := aM (Q_BK216_e14 hb14_)
    clear Q_BK216_e14
    clear hall hb0_ hb1_ hb2_ hb3_ hb4_ hb5_ hb6_ hb7_ hb8_ hb9_ hb10_ hb11_ hb12_ hb13_ hb14_
    have hnb118 := NB214_207.out
    have hnc118 := NB207_214.out
    have hnb119 := NB214_215.out
    have hnc119 := NB215_214.out
    have hnb120 := NB214_216.out
    have hnc120 := NB216_214.out
    obtain ⟨hcz121_0, hcz121_1⟩ := z2 BK214
    obtain ⟨hfz121_0, hfz121_1⟩ := y2 BK214
    have H := HH.out
    clear HH
    by_cases c9 : t217 = 1
    ·rw [if_pos c9] at H
     have c9b0 : (t217 == 1) = true := beq_iff_eq.mpr c9
     have c9b1 : (t217 != 1) = false := bne_eq_false_iff_eq.mpr c9
     clear c9
     obtain ⟨t218, A10, H⟩ := oB H
     try dsimp only at H
     by_cases c11 : t218 = 1
     ·rw [if_pos c11] at H
      have c11b0 : (t218 == 1) = true := beq_iff_eq.mpr c11
      have c11b1 : (t218 != 1) = false := bne_eq_false_iff_eq.mpr c11
      clear c11
      obtain ⟨t219, A12, H⟩ := oB H
      try dsimp only at H
      by_cases c13 : t219 = (wrap64 (2 + a0))
      ·rw [if_pos c13] at H
       have c13b0 : (t219 == (wrap64 (2 + a0))) = true := beq_iff_eq.mpr c13
       have c13b1 : (t219 != (wrap64 (2 + a0))) = false := bne_eq_false_iff_eq.mpr c13
       clear c13
       by_cases c14 : x3_1.length < 4398046511104
       ·rw [if_pos c14] at H
        have LMc14 := aM c14
        clear c14
        obtain ⟨y220, hy220⟩ : ∃ y_ : List (S51), y_ = (x3_1 ++ [(⟨wrap64 ((wrap64 (Int.tdiv x10_1 27)) - 1), wrap64 ((Int.tmod (wrap64 (Int.tdiv x10_1 9)) 3) - 1), wrap64 ((Int.tmod (wrap64 (Int.tdiv x10_1 3)) 3) - 1), wrap64 ((Int.tmod x10_1 3) - 1)⟩ : S51)]) := ⟨_, rfl⟩
        replace H : (impl_pointMats.l0 k1 a0 y220 (wrap64 (x10_1 + 1))) = some r := by first | (rw [hy220]; with_reducible exact H) | (have H2_ := (Option.bind_some _ _).symm.trans H; rw [hy220]; with_reducible exact H2_) | (have H2_ := (Option.bind_some _ _).symm.trans H; with_reducible exact H2_) | with_reducible exact H | (rw [hy220]; exact H) | exact H
        have Ny220 := aM hy220
        clear hy220
        have H' := aM H
        clear H
        try go_wp2_with (first | ((with_reducible refine gC (f:=76) rfl ?_); refine gM 39 (impl_norm.calls a0 t208 t209 t217 _ A8.out) Try.func76 ?_; rintro w36 hb; replace HO_3 := aM (Kd.R_below (by (with_reducible repeat (first | apply Kd.R_alloc | apply Kd.R_drewN | apply Kd.R_drew)); exact HO_3.out) hb); replace BK207 := bB BK207 hb; replace BK214 := bB BK214 hb; replace BK215 := bB BK215 hb; replace BK216 := bB BK216 hb; replace HB := bS HB hb; (try clear hb); have hnb37 := NB215_207.out; have hnc37 := NB207_215.out; have hnb38 := NB215_216.out; have hnc38 := NB216_215.out; obtain ⟨hcz39_0, hcz39_1⟩ := z2 BK215; obtain ⟨hfz39_0, hfz39_1⟩ := y2 BK215) | (go_at_call 76; (with_reducible refine (impl_norm.calls a0 t210 t211 t218 _ A10.out).mono ?_); rintro e w40 ⟨rfl, hb⟩; replace HO_3 := aM (Kd.R_below (by (with_reducible repeat (first | apply Kd.R_alloc | apply Kd.R_drewN | apply Kd.R_drew)); exact HO_3.out) hb); replace BK207 := bB BK207 hb; replace BK214 := bB BK214 hb; replace BK215 := bB BK215 hb; replace BK216 := bB BK216 hb; replace HB := bS HB hb; (try clear hb); have hnb41 := NB216_207.out; have hnc41 := NB207_216.out; obtain ⟨hcz42_0, hcz42_1⟩ := z2 BK216; obtain ⟨hfz42_0, hfz42_1⟩ := y2 BK216) | (go_at_call 76; (with_reducible refine (impl_norm.calls a0 t212 t213 t219 _ A12.out).mono ?_); rintro e w43 ⟨rfl, hb⟩; replace HO_3 := aM (Kd.R_below (by (with_reducible repeat (first | apply Kd.R_alloc | apply Kd.R_drewN | apply Kd.R_drew)); exact HO_3.out) hb); replace BK207 := bB BK207 hb; replace BK214 := bB BK214 hb; replace BK215 := bB BK215 hb; replace BK216 := bB BK216 hb; replace HB := bS HB hb; (try clear hb); obtain ⟨hcz44_0, hcz44_1, hcz44_2, hcz44_3⟩ := z4 BK207; obtain ⟨hfz44_0, hfz44_1, hfz44_2, hfz44_3⟩ := y4 BK207) | ((with_reducible refine gate_builtin (b := .append) (xs := #[.tmp 55, .tmp 57]) rfl ?_); at_builtin; refine Kd.R_append k51 (w0 := w) w.heap.size rfl (.tmp 55) (.tmp 57) 30 51 (.agg #[(.int .i64 0), (.int .i64 0), (.int .i64 0), (.int .i64 0)]) 32 rfl Try.underlying30 info51 rfl (by decide) (by omega) u3 x3_1 (⟨wrap64 ((wrap64 (Int.tdiv x10_1 27)) - 1), wrap64 ((Int.tmod (wrap64 (Int.tdiv x10_1 9)) 3) - 1), wrap64 ((Int.tmod (wrap64 (Int.tdiv x10_1 3)) 3) - 1), wrap64 ((Int.tmod x10_1 3) - 1)⟩ : S51) [.int .i64 (wrap64 ((wrap64 (Int.tdiv x10_1 27)) - 1)), .int .i64 (wrap64 ((Int.tmod (wrap64 (Int.tdiv x10_1 9)) 3) - 1)), .int .i64 (wrap64 ((Int.tmod (wrap64 (Int.tdiv x10_1 3)) 3) - 1)), .int .i64 (wrap64 ((Int.tmod x10_1 3) - 1))] (fun k_ => k_ ≠ gb207) (fun _ => False) rfl rfl ?aP (fun _ hk => hk.elim) ?aF ?aO ?aB ?aS ?aL ?_; (case aP => exact k51_mkM _ _ _ (⟨wrap64 ((wrap64 (Int.tdiv x10_1 27)) - 1), wrap64 ((Int.tmod (wrap64 (Int.tdiv x10_1 9)) 3) - 1), wrap64 ((Int.tmod (wrap64 (Int.tdiv x10_1 3)) 3) - 1), wrap64 ((Int.tmod x10_1 3) - 1)⟩ : S51)); (case aB => exact qB); (case aF => exact (fun k_ hk => Kd.freshB (g := gb207) (o := .cells #[.int .i64 (wrap64 ((wrap64 (Int.tdiv x10_1 27)) - 1)), .int .i64 (wrap64 ((Int.tmod (wrap64 (Int.tdiv x10_1 9)) 3) - 1)), .int .i64 (wrap64 ((Int.tmod (wrap64 (Int.tdiv x10_1 3)) 3) - 1)), .int .i64 (wrap64 ((Int.tmod x10_1 3) - 1))] 51 (0, 0)) (bk BK207) k_ hk)); (case aO => exact (by (with_reducible repeat (first | apply Kd.R_alloc | apply Kd.R_drewN | apply Kd.R_drew)); exact HO_3.out)); (case aS => exact (below_size qB)); (case aL => have := LMc14.out; omega); intro v221 w45 ho hb hg hat; rw [← Ny220.out] at ho; have HO222 := aM ho; replace BK207 := aM (blk_grown (g := gb207) (o := .cells #[.int .i64 (wrap64 ((wrap64 (Int.tdiv x10_1 27)) - 1)), .int .i64 (wrap64 ((Int.tmod (wrap64 (Int.tdiv x10_1 9)) 3) - 1)), .int .i64 (wrap64 ((Int.tmod (wrap64 (Int.tdiv x10_1 3)) 3) - 1)), .int .i64 (wrap64 ((Int.tmod x10_1 3) - 1))] 51 (0, 0)) (bk BK207) hg (Kd.R_away HO_3.out (fun _ hk => hk))); replace BK214 := aM (blk_grown (g := gb214) (o := .cells #[.int .i64 t208, .int .i64 t209] 47 (0, 0)) (bk BK214) hg (Kd.R_ne HO_3.out BK214.out (by decide))); replace BK215 := aM (blk_grown (g := gb215) (o := .cells #[.int .i64 t210, .int .i64 t211] 47 (0, 0)) (bk BK215) hg (Kd.R_ne HO_3.out BK215.out (by decide))); replace BK216 := aM (blk_grown (g := gb216) (o := .cells #[.int .i64 t212, .int .i64 t213] 47 (0, 0)) (bk BK216) hg (Kd.R_ne HO_3.out BK216.out (by decide))); replace HB := aM hb; clear HO_3; clear ho hb hg hat))
        go_roundg k1
        case measure => have := HK1.out; omega
        case rel => exact ⟨(y220), (wrap64 (x10_1 + 1)), (by first | rfl | (simp; done) | (simp [*]; done)), H', ⟨by have := HK1.out; omega⟩, ⟨by (with_reducible repeat (first | apply Kd.R_alloc | apply Kd.R_drewN | apply Kd.R_drew)); exact Kd.R_mono HO222.out (fun _ hk => trivial)⟩, ⟨qB⟩⟩
       ·rw [if_neg c14] at H
        exact absurd H (by simp)
      ·rw [if_neg c13] at H
       have c13b0 : (t219 == (wrap64 (2 + a0))) = false := beq_eq_false_iff_ne.mpr c13
       have c13b1 : (t219 != (wrap64 (2 + a0))) = true := bne_iff_ne.mpr c13
       have H' := aM H
       clear H
       try go_wp2_with (first | ((with_reducible refine gC (f:=76) rfl ?_); refine gM 39 (impl_norm.calls a0 t208 t209 t217 _ A8.out) Try.func76 ?_; rintro w67 hb; replace HO_3 := aM (Kd.R_below (by (with_reducible repeat (first | apply Kd.R_alloc | apply Kd.R_drewN | apply Kd.R_drew)); exact HO_3.out) hb); replace BK207 := bB BK207 hb; replace BK214 := bB BK214 hb; replace BK215 := bB BK215 hb; replace BK216 := bB BK216 hb; replace HB := bS HB hb; (try clear hb); have hnb68 := NB215_207.out; have hnc68 := NB207_215.out; have hnb69 := NB215_216.out; have hnc69 := NB216_215.out; obtain ⟨hcz70_0, hcz70_1⟩ := z2 BK215; obtain ⟨hfz70_0, hfz70_1⟩ := y2 BK215) | (go_at_call 76; (with_reducible refine (impl_norm.calls a0 t210 t211 t218 _ A10.out).mono ?_); rintro e w71 ⟨rfl, hb⟩; replace HO_3 := aM (Kd.R_below (by (with_reducible repeat (first | apply Kd.R_alloc | apply Kd.R_drewN | apply Kd.R_drew)); exact HO_3.out) hb); replace BK207 := bB BK207 hb; replace BK214 := bB BK214 hb; replace BK215 := bB BK215 hb; replace BK216 := bB BK216 hb; replace HB := bS HB hb; (try clear hb); have hnb72 := NB216_207.out; have hnc72 := NB207_216.out; obtain ⟨hcz73_0, hcz73_1⟩ := z2 BK216; obtain ⟨hfz73_0, hfz73_1⟩ := y2 BK216) | (go_at_call 76; (with_reducible refine (impl_norm.calls a0 t212 t213 t219 _ A12.out).mono ?_); rintro e w74 ⟨rfl, hb⟩; replace HO_3 := aM (Kd.R_below (by (with_reducible repeat (first | apply Kd.R_alloc | apply Kd.R_drewN | apply Kd.R_drew)); exact HO_3.out) hb); replace BK207 := bB BK207 hb; replace BK214 := bB BK214 hb; replace BK215 := bB BK215 hb; replace BK216 := bB BK216 hb; replace HB := bS HB hb; (try clear hb)))
       go_roundg k1
       case measure => have := HK1.out; omega
       case rel => exact ⟨(x3_1), (wrap64 (x10_1 + 1)), (by first | rfl | (simp; done) | (simp [*]; done)), H', ⟨by have := HK1.out; omega⟩, ⟨by (with_reducible repeat (first | apply Kd.R_alloc | apply Kd.R_drewN | apply Kd.R_drew)); exact Kd.R_mono HO_3.out (fun _ hk => trivial)⟩, ⟨qB⟩⟩
     ·rw [if_neg c11] at H
      have c11b0 : (t218 == 1) = false := beq_eq_false_iff_ne.mpr c11
      have c11b1 : (t218 != 1) = true := bne_iff_ne.mpr c11
      have H' := aM H
      clear H
      try go_wp2_with (first | ((with_reducible refine gC (f:=76) rfl ?_); refine gM 39 (impl_norm.calls a0 t208 t209 t217 _ A8.out) Try.func76 ?_; rintro w96 hb; replace HO_3 := aM (Kd.R_below (by (with_reducible repeat (first | apply Kd.R_alloc | apply Kd.R_drewN | apply Kd.R_drew)); exact HO_3.out) hb); replace BK207 := bB BK207 hb; replace BK214 := bB BK214 hb; replace BK215 := bB BK215 hb; replace BK216 := bB BK216 hb; replace HB := bS HB hb; (try clear hb); have hnb97 := NB215_207.out; have hnc97 := NB207_215.out; have hnb98 := NB215_216.out; have hnc98 := NB216_215.out; obtain ⟨hcz99_0, hcz99_1⟩ := z2 BK215; obtain ⟨hfz99_0, hfz99_1⟩ := y2 BK215) | (go_at_call 76; (with_reducible refine (impl_norm.calls a0 t210 t211 t218 _ A10.out).mono ?_); rintro e w100 ⟨rfl, hb⟩; replace HO_3 := aM (Kd.R_below (by (with_reducible repeat (first | apply Kd.R_alloc | apply Kd.R_drewN | apply Kd.R_drew)); exact HO_3.out) hb); replace BK207 := bB BK207 hb; replace BK214 := bB BK214 hb; replace BK215 := bB BK215 hb; replace BK216 := bB BK216 hb; replace HB := bS HB hb; (try clear hb)))
      go_roundg k1
      case measure => have := HK1.out; omega
      case rel => exact ⟨(x3_1), (wrap64 (x10_1 + 1)), (by first | rfl | (simp; done) | (simp [*]; done)), H', ⟨by have := HK1.out; omega⟩, ⟨by (with_reducible repeat (first | apply Kd.R_alloc | apply Kd.R_drewN | apply Kd.R_drew)); exact Kd.R_mono HO_3.out (fun _ hk => trivial)⟩, ⟨qB⟩⟩
    ·rw [if_neg c9] at H
     have c9b0 : (t217 == 1) = false := beq_eq_false_iff_ne.mpr c9
     have c9b1 : (t217 != 1) = true := bne_iff_ne.mpr c9
     have H' := aM H
     clear H
     try go_wp2_with (first | ((with_reducible refine gC (f:=76) rfl ?_); refine gM 39 (impl_norm.calls a0 t208 t209 t217 _ A8.out) Try.func76 ?_; rintro w122 hb; replace HO_3 := aM (Kd.R_below (by (with_reducible repeat (first | apply Kd.R_alloc | apply Kd.R_drewN | apply Kd.R_drew)); exact HO_3.out) hb); replace BK207 := bB BK207 hb; replace BK214 := bB BK214 hb; replace BK215 := bB BK215 hb; replace BK216 := bB BK216 hb; replace HB := bS HB hb; (try clear hb)))
     go_roundg k1
     case measure => have := HK1.out; omega
     case rel => exact ⟨(x3_1), (wrap64 (x10_1 + 1)), (by first | rfl | (simp; done) | (simp [*]; done)), H', ⟨by have := HK1.out; omega⟩, ⟨by (with_reducible repeat (first | apply Kd.R_alloc | apply Kd.R_drewN | apply Kd.R_drew)); exact Kd.R_mono HO_3.out (fun _ hk => trivial)⟩, ⟨qB⟩⟩
   ·rw [if_neg c4] at H
    have c4b0 : decide (x10_1 < 81) = false := decide_eq_false c4
    clear c4
    obtain rfl := Option.some.inj H
    go_wp2
    go_ret
    exact ⟨_, qR, by (with_reducible repeat (first | apply Kd.R_alloc | apply Kd.R_drewN | apply Kd.R_drew)); exact HO_3.out, qB⟩

end Go.Proofs.Ytcjchihnopmplaa.F
