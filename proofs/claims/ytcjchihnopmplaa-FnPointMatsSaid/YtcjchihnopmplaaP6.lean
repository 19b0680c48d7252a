import Derived.Test.YtcjchihnopmplaaP0
import Derived.Test.YtcjchihnopmplaaP2
import Derived.Test.YtcjchihnopmplaaP4
import Derived.Test.YtcjchihnopmplaaP5
namespace Go.Proofs.Ytcjchihnopmplaa.F
open Go.RowKit Go.Proofs.YtcjchihnopmplaaW.PrintWords Go.Proofs.YtcjchihnopmplaaW.PrintLast Go.Proofs.YtcjchihnopmplaaW.PrintMore
attribute [local go_sem] max2_int min2_int max_two min_two max_three min_three max_four min_four   -- for this text's walks alone
set_option linter.unusedVariables false
set_option linter.unusedSimpArgs false

def spec_l04Mats.l0 : Nat → Int → List (S51) → Int → Option ((List (S51)))
 | 0, _, _, _ => none
 | k + 1, x0, x3, x4 => if x4 < 81 then ((spec_l04Keeps.f x0 (wrap64 ((wrap64 (Int.tdiv x4 27)) - 1)) (wrap64 ((Int.tmod (wrap64 (Int.tdiv x4 9)) 3) - 1)) (wrap64 ((Int.tmod (wrap64 (Int.tdiv x4 3)) 3) - 1)) (wrap64 ((Int.tmod x4 3) - 1))).bind fun t203 => (if t203 = true then (if x3.length < 4398046511104 then (spec_l04Mats.l0 k x0 (x3 ++ [(⟨wrap64 ((wrap64 (Int.tdiv x4 27)) - 1), wrap64 ((Int.tmod (wrap64 (Int.tdiv x4 9)) 3) - 1), wrap64 ((Int.tmod (wrap64 (Int.tdiv x4 3)) 3) - 1), wrap64 ((Int.tmod x4 3) - 1)⟩ : S51)]) (wrap64 (x4 + 1))) else (none)) else (spec_l04Mats.l0 k x0 x3 (wrap64 (x4 + 1))))) else (some x3)
def spec_l04Mats.f (k : Nat) (a0 : Int) : Option ((List (S51))) := spec_l04Mats.l0 k a0 (([] : List (S51))) 0
set_option maxHeartbeats 8000000 in
set_option maxRecDepth 100000 in
theorem spec_l04Mats.calls (k : Nat) (a0 : Int) (r : List (S51)) (w : World) (h : spec_l04Mats.f k a0 = some r) :
  Calls Try.prog 115 #[.int .i64 a0] w fun e w' => ∃ v0_ : Value, e = .returned (v0_) ∧ Kd.R k51 51 w' w.heap.size (fun _ => True) v0_ r ∧ Below w.heap.size w w' := by
 have hu51 := Try.underlying51
 have HB := aM (Below.refl w.heap.size w)
 have H : (spec_l04Mats.l0 k a0 (([] : List (S51))) 0) = some r := h
 clear h
 obtain ⟨y199, hy199⟩ : ∃ y_ : List (S51), y_ = (([] : List (S51))) := ⟨_, rfl⟩
 replace H : (spec_l04Mats.l0 k a0 y199 0) = some r := by first | (rw [hy199]; with_reducible exact H) | (have H2_ := (Option.bind_some _ _).symm.trans H; rw [hy199]; with_reducible exact H2_) | (have H2_ := (Option.bind_some _ _).symm.trans H; with_reducible exact H2_) | with_reducible exact H | (rw [hy199]; exact H) | exact H
 have Ny199 := aM hy199
 clear hy199
 have H' := aM H
 clear H
 go_enter Try.func115, Try.ntmps115
 go_wp2_with (first | ((with_reducible refine gate_dst (N := 6) rfl ?_); refine Kd.R_lit k51 _ 51 ?hg (N := 6) ?hd (xs := ([] : List (S51))) (inner := []) (ok := fun _ => True) (okp := fun _ => True) ?hr ?hp (fun _ hk => hk) trivial (Below.refl _ _) (Nat.le_refl _) (by simp) ?_; (case hd => rfl); (case hg => rfl); (case hr => first | (go_simp; done) | (go_simp; rfl)); (case hp => exact (Reps.none _ _)); intro v200 w2 ho3 hb hg_ hnew_; clear hg_ hnew_; (first | rw [← Ny199.out] at ho3 | (simp only [Int.reduceToNat] at ho3; rw [← Ny199.out] at ho3)); have HO201 := aM (Kd.R_lower ho3 (below_size qB)); replace HB := bS HB hb; clear hb ho3))
 go_loopg [3, 4] k (fun kq v3 v4 w' => ∃ (x3_1 : List (S51)) (x4_1 : Int), v4 = .int .i64 x4_1 ∧ Aside0 (spec_l04Mats.l0 kq a0 x3_1 x4_1 = some r) ∧ Aside0 (kq ≤ k) ∧ Aside0 (Kd.R k51 51 w' w.heap.size (fun _ => True) v3 x3_1) ∧ Aside0 (Below w.heap.size w w'))
 case atStart => exact ⟨(y199), (0), (by first | rfl | (simp; done) | (simp [*]; done)), H', ⟨Nat.le_refl _⟩, ⟨by (with_reducible repeat (first | apply Kd.R_alloc | apply Kd.R_drewN | apply Kd.R_drew)); exact HO201.out⟩, ⟨qB⟩⟩
 case round =>
  clear H'
  try clear c1
  try clear p2
  obtain ⟨x3_1, x4_1, rfl, HA, HK1, HO_3, HB⟩ := hrel
  cases gk with
  | zero => exact absurd HA.out (by simp [spec_l04Mats.l0])
  | succ k1 =>
   have H := HA.out
   clear HA
   simp only [spec_l04Mats.l0] at H
   by_cases c4 : x4_1 < 81
   ·rw [if_pos c4] at H
    have c4b0 : decide (x4_1 < 81) = true := decide_eq_true c4
    clear c4
    obtain ⟨t203, A5, H⟩ := oB H
    try dsimp only at H
    by_cases c6 : t203 = true
    ·subst c6
     have H1 : (if x3_1.length < 4398046511104 then (spec_l04Mats.l0 k1 a0 (x3_1 ++ [(⟨wrap64 ((wrap64 (Int.tdiv x4_1 27)) - 1), wrap64 ((Int.tmod (wrap64 (Int.tdiv x4_1 9)) 3) - 1), wrap64 ((Int.tmod (wrap64 (Int.tdiv x4_1 3)) 3) - 1), wrap64 ((Int.tmod x4_1 3) - 1)⟩ : S51)]) (wrap64 (x4_1 + 1))) else (none)) = some r := by rw [if_pos rfl] at H; exact H
     clear H
     have H := H1
     clear H1
     by_cases c7 : x3_1.length < 4398046511104
     ·rw [if_pos c7] at H
      have LMc7 := aM c7
      clear c7
      obtain ⟨y204, hy204⟩ : ∃ y_ : List (S51), y_ = (x3_1 ++ [(⟨wrap64 ((wrap64 (Int.tdiv x4_1 27)) - 1), wrap64 ((Int.tmod (wrap64 (Int.tdiv x4_1 9)) 3) - 1), wrap64 ((Int.tmod (wrap64 (Int.tdiv x4_1 3)) 3) - 1), wrap64 ((Int.tmod x4_1 3) - 1)⟩ : S51)]) := ⟨_, rfl⟩
      replace H : (spec_l04Mats.l0 k1 a0 y204 (wrap64 (x4_1 + 1))) = some r := by first | (rw [hy204]; with_reducible exact H) | (have H2_ := (Option.bind_some _ _).symm.trans H; rw [hy204]; with_reducible exact H2_) | (have H2_ := (Option.bind_some _ _).symm.trans H; with_reducible exact H2_) | with_reducible exact H | (rw [hy204]; exact H) | exact H
      have Ny204 := aM hy204
      clear hy204
      have H' := aM H
      clear H
      go_wp2_with (first | ((with_reducible refine gD (N:=5) rfl ?_); refine bE 5 #[.int .i64 0, .int .i64 0, .int .i64 0, .int .i64 0] 51 ?_; intro gb202 hg w8 hbox hb; have BK202 := aM hbox; have GW202 := bZ hg HB; have GE202 := bZ hg HB; replace HO_3 := aM (Kd.R_below (Kd.R_elderB (by (with_reducible repeat (first | apply Kd.R_alloc | apply Kd.R_drewN | apply Kd.R_drew)); exact HO_3.out) gb202 (Nat.le_of_eq hg.symm)) hb); replace HB := bS HB hb; clear hb hbox hg; obtain ⟨hcz9_0, hcz9_1, hcz9_2, hcz9_3⟩ := z4 BK202; obtain ⟨hfz9_0, hfz9_1, hfz9_2, hfz9_3⟩ := y4 BK202) | ((with_reducible refine gate_callee (f := 123) rfl ?_); refine goesL_ (some 28) rfl rfl Try.func123 (by kernel_rfl) rfl #[.int .i64 a0, .agg #[.int .i64 (wrap64 ((wrap64 (Int.tdiv x4_1 27)) - 1)), .int .i64 (wrap64 ((Int.tmod (wrap64 (Int.tdiv x4_1 9)) 3) - 1)), .int .i64 (wrap64 ((Int.tmod (wrap64 (Int.tdiv x4_1 3)) 3) - 1)), .int .i64 (wrap64 ((Int.tmod x4_1 3) - 1))]] rfl (by first|rfl|(simp only [List.map_toArray, List.map_cons, List.map_nil]; try rfl)) ?_; (with_reducible refine (spec_l04Keeps.calls a0 (wrap64 ((wrap64 (Int.tdiv x4_1 27)) - 1)) (wrap64 ((Int.tmod (wrap64 (Int.tdiv x4_1 9)) 3) - 1)) (wrap64 ((Int.tmod (wrap64 (Int.tdiv x4_1 3)) 3) - 1)) (wrap64 ((Int.tmod x4_1 3) - 1)) true _ A5.out).mono ?_); rintro e w10 ⟨rfl, hb⟩; refine ⟨_, rfl, ?_⟩; replace HO_3 := aM (Kd.R_below (by (with_reducible repeat (first | apply Kd.R_alloc | apply Kd.R_drewN | apply Kd.R_drew)); exact (Kd.R_mono (Kd.R_far (p := ⟨gb202, 3, none⟩) (Kd.R_far (p := ⟨gb202, 2, none⟩) (Kd.R_far (p := ⟨gb202, 1, none⟩) (Kd.R_far (p := ⟨gb202, 0, none⟩) (Kd.R_mono HO_3.out (fun k_ hk => (⟨hk, hk.2⟩ : _ ∧ k_ ≠ gb202))) (fun _ hk => hk.2) (.int .i64 (wrap64 ((wrap64 (Int.tdiv x4_1 27)) - 1)))) (fun _ hk => hk.2) (.int .i64 (wrap64 ((Int.tmod (wrap64 (Int.tdiv x4_1 9)) 3) - 1)))) (fun _ hk => hk.2) (.int .i64 (wrap64 ((Int.tmod (wrap64 (Int.tdiv x4_1 3)) 3) - 1)))) (fun _ hk => hk.2) (.int .i64 (wrap64 ((Int.tmod x4_1 3) - 1)))) (fun _ h_ => h_.1))) hb); replace BK202 := bW (.cells #[.int .i64 (wrap64 ((wrap64 (Int.tdiv x4_1 27)) - 1)), .int .i64 (wrap64 ((Int.tmod (wrap64 (Int.tdiv x4_1 9)) 3) - 1)), .int .i64 (wrap64 ((Int.tmod (wrap64 (Int.tdiv x4_1 3)) 3) - 1)), .int .i64 (wrap64 ((Int.tmod x4_1 3) - 1))] 51 (0, 0)) BK202 hb; replace HB := bS HB hb; (try clear hb); obtain ⟨hcz11_0, hcz11_1, hcz11_2, hcz11_3⟩ := z4 BK202; obtain ⟨hfz11_0, hfz11_1, hfz11_2, hfz11_3⟩ := y4 BK202) | ((with_reducible refine gate_builtin (b := .append) (xs := #[.tmp 29, .tmp 31]) rfl ?_); at_builtin; refine Kd.R_append k51 (w0 := w) w.heap.size rfl (.tmp 29) (.tmp 31) 30 51 (.agg #[(.int .i64 0), (.int .i64 0), (.int .i64 0), (.int .i64 0)]) 32 rfl Try.underlying30 info51 rfl (by decide) (by omega) u3 x3_1 (⟨wrap64 ((wrap64 (Int.tdiv x4_1 27)) - 1), wrap64 ((Int.tmod (wrap64 (Int.tdiv x4_1 9)) 3) - 1), wrap64 ((Int.tmod (wrap64 (Int.tdiv x4_1 3)) 3) - 1), wrap64 ((Int.tmod x4_1 3) - 1)⟩ : S51) [.int .i64 (wrap64 ((wrap64 (Int.tdiv x4_1 27)) - 1)), .int .i64 (wrap64 ((Int.tmod (wrap64 (Int.tdiv x4_1 9)) 3) - 1)), .int .i64 (wrap64 ((Int.tmod (wrap64 (Int.tdiv x4_1 3)) 3) - 1)), .int .i64 (wrap64 ((Int.tmod x4_1 3) - 1))] (fun k_ => k_ ≠ gb202) (fun _ => False) rfl rfl ?aP (fun _ hk => hk.elim) ?aF ?aO ?aB ?aS ?aL ?_; (case aP => exact k51_mkM _ _ _ (⟨wrap64 ((wrap64 (Int.tdiv x4_1 27)) - 1), wrap64 ((Int.tmod (wrap64 (Int.tdiv x4_1 9)) 3) - 1), wrap64 ((Int.tmod (wrap64 (Int.tdiv x4_1 3)) 3) - 1), wrap64 ((Int.tmod x4_1 3) - 1)⟩ : S51)); (case aB => exact qB); (case aF => exact (fun k_ hk => Kd.freshB (g := gb202) (o := .cells #[.int .i64 (wrap64 ((wrap64 (Int.tdiv x4_1 27)) - 1)), .int .i64 (wrap64 ((Int.tmod (wrap64 (Int.tdiv x4_1 9)) 3) - 1)), .int .i64 (wrap64 ((Int.tmod (wrap64 (Int.tdiv x4_1 3)) 3) - 1)), .int .i64 (wrap64 ((Int.tmod x4_1 3) - 1))] 51 (0, 0)) (bk BK202) k_ hk)); (case aO => exact (by (with_reducible repeat (first | apply Kd.R_alloc | apply Kd.R_drewN | apply Kd.R_drew)); exact Kd.R_mono HO_3.out (fun _ hk => hk.2))); (case aS => exact (below_size qB)); (case aL => have := LMc7.out; omega); intro v205 w12 ho hb hg hat; rw [← Ny204.out] at ho; have HO206 := aM ho; replace BK202 := aM (blk_grown (g := gb202) (o := .cells #[.int .i64 (wrap64 ((wrap64 (Int.tdiv x4_1 27)) - 1)), .int .i64 (wrap64 ((Int.tmod (wrap64 (Int.tdiv x4_1 9)) 3) - 1)), .int .i64 (wrap64 ((Int.tmod (wrap64 (Int.tdiv x4_1 3)) 3) - 1)), .int .i64 (wrap64 ((Int.tmod x4_1 3) - 1))] 51 (0, 0)) (bk BK202) hg (Kd.R_away HO_3.out (fun _ hk => hk.2))); replace HB := aM hb; clear HO_3; clear ho hb hg hat))
      go_roundg k1
      case measure => have := HK1.out; omega
      case rel => exact ⟨(y204), (wrap64 (x4_1 + 1)), (by first | rfl | (simp; done) | (simp [*]; done)), H', ⟨by have := HK1.out; omega⟩, ⟨by (with_reducible repeat (first | apply Kd.R_alloc | apply Kd.R_drewN | apply Kd.R_drew)); exact Kd.R_mono HO206.out (fun _ hk => trivial)⟩, ⟨qB⟩⟩
     ·rw [if_neg c7] at H
      exact absurd H (by simp)
    ·replace c6 := Bool.eq_false_iff.mpr c6
     subst c6
     have H1 : (spec_l04Mats.l0 k1 a0 x3_1 (wrap64 (x4_1 + 1))) = some r := by rw [if_neg (show ¬ (false = true) by decide)] at H; exact H
     clear H
     have H := H1
     clear H1
     have H' := aM H
     clear H
     go_wp2_with (first | ((with_reducible refine gD (N:=5) rfl ?_); refine bE 5 #[.int .i64 0, .int .i64 0, .int .i64 0, .int .i64 0] 51 ?_; intro gb202 hg w13 hbox hb; have BK202 := aM hbox; have GW202 := bZ hg HB; have GE202 := bZ hg HB; replace HO_3 := aM (Kd.R_below (Kd.R_elderB (by (with_reducible repeat (first | apply Kd.R_alloc | apply Kd.R_drewN | apply Kd.R_drew)); exact HO_3.out) gb202 (Nat.le_of_eq hg.symm)) hb); replace HB := bS HB hb; clear hb hbox hg; obtain ⟨hcz14_0, hcz14_1, hcz14_2, hcz14_3⟩ := z4 BK202; obtain ⟨hfz14_0, hfz14_1, hfz14_2, hfz14_3⟩ := y4 BK202) | ((with_reducible refine gate_callee (f := 123) rfl ?_); refine goesL_ (some 28) rfl rfl Try.func123 (by kernel_rfl) rfl #[.int .i64 a0, .agg #[.int .i64 (wrap64 ((wrap64 (Int.tdiv x4_1 27)) - 1)), .int .i64 (wrap64 ((Int.tmod (wrap64 (Int.tdiv x4_1 9)) 3) - 1)), .int .i64 (wrap64 ((Int.tmod (wrap64 (Int.tdiv x4_1 3)) 3) - 1)), .int .i64 (wrap64 ((Int.tmod x4_1 3) - 1))]] rfl (by first|rfl|(simp only [List.map_toArray, List.map_cons, List.map_nil]; try rfl)) ?_; (with_reducible refine (spec_l04Keeps.calls a0 (wrap64 ((wrap64 (Int.tdiv x4_1 27)) - 1)) (wrap64 ((Int.tmod (wrap64 (Int.tdiv x4_1 9)) 3) - 1)) (wrap64 ((Int.tmod (wrap64 (Int.tdiv x4_1 3)) 3) - 1)) (wrap64 ((Int.tmod x4_1 3) - 1)) false _ A5.out).mono ?_); rintro e w15 ⟨rfl, hb⟩; refine ⟨_, rfl, ?_⟩; replace HO_3 := aM (Kd.R_below (by (with_reducible repeat (first | apply Kd.R_alloc | apply Kd.R_drewN | apply Kd.R_drew)); exact (Kd.R_mono (Kd.R_far (p := ⟨gb202, 3, none⟩) (Kd.R_far (p := ⟨gb202, 2, none⟩) (Kd.R_far (p := ⟨gb202, 1, none⟩) (Kd.R_far (p := ⟨gb202, 0, none⟩) (Kd.R_mono HO_3.out (fun k_ hk => (⟨hk, hk.2⟩ : _ ∧ k_ ≠ gb202))) (fun _ hk => hk.2) (.int .i64 (wrap64 ((wrap64 (Int.tdiv x4_1 27)) - 1)))) (fun _ hk => hk.2) (.int .i64 (wrap64 ((Int.tmod (wrap64 (Int.tdiv x4_1 9)) 3) - 1)))) (fun _ hk => hk.2) (.int .i64 (wrap64 ((Int.tmod (wrap64 (Int.tdiv x4_1 3)) 3) - 1)))) (fun _ hk => hk.2) (.int .i64 (wrap64 ((Int.tmod x4_1 3) - 1)))) (fun _ h_ => h_.1))) hb); replace BK202 := bW (.cells #[.int .i64 (wrap64 ((wrap64 (Int.tdiv x4_1 27)) - 1)), .int .i64 (wrap64 ((Int.tmod (wrap64 (Int.tdiv x4_1 9)) 3) - 1)), .int .i64 (wrap64 ((Int.tmod (wrap64 (Int.tdiv x4_1 3)) 3) - 1)), .int .i64 (wrap64 ((Int.tmod x4_1 3) - 1))] 51 (0, 0)) BK202 hb; replace HB := bS HB hb; (try clear hb)))
     go_roundg k1
     case measure => have := HK1.out; omega
     case rel => exact ⟨(x3_1), (wrap64 (x4_1 + 1)), (by first | rfl | (simp; done) | (simp [*]; done)), H', ⟨by have := HK1.out; omega⟩, ⟨by (with_reducible repeat (first | apply Kd.R_alloc | apply Kd.R_drewN | apply Kd.R_drew)); exact Kd.R_mono HO_3.out (fun _ hk => trivial)⟩, ⟨qB⟩⟩
   ·rw [if_neg c4] at H
    have c4b0 : decide (x4_1 < 81) = false := decide_eq_false c4
    clear c4
    obtain rfl := Option.some.inj H
    go_wp2
    go_ret
    exact ⟨_, qR, by (with_reducible repeat (first | apply Kd.R_alloc | apply Kd.R_drewN | apply Kd.R_drew)); exact HO_3.out, qB⟩

def spec_PointMats.f (k : Nat) (a0 : Int) : Option ((List (S51)) × Int) := (spec_IsFrame.f a0).bind fun t207 => (if t207 = true then ((spec_l04Mats.f k a0).bind fun t208 => (some (t208, 0))) else (some (([] : List (S51)), 1)))
set_option maxHeartbeats 8000000 in
set_option maxRecDepth 100000 in
theorem spec_PointMats.calls (k : Nat) (a0 : Int) (r1 : List (S51)) (r2 : Int) (w : World) (h : spec_PointMats.f k a0 = some (r1, r2)) :
  Calls Try.prog 52 #[.int .i64 a0] w fun e w' => ∃ v0_ : Value, e = .returned (.tuple #[v0_, .int .i64 r2]) ∧ Kd.R k51 51 w' w.heap.size (fun _ => True) v0_ r1 ∧ Below w.heap.size w w' := by
 have HB := aM (Below.refl w.heap.size w)
 have H : ((spec_IsFrame.f a0).bind fun t207 => (if t207 = true then ((spec_l04Mats.f k a0).bind fun t208 => (some (t208, 0))) else (some (([] : List (S51)), 1)))) = some (r1, r2) := h
 clear h
 obtain ⟨t207, A2, H⟩ := oB H
 try dsimp only at H
 by_cases c3 : t207 = true
 ·subst c3
  have H1 : ((spec_l04Mats.f k a0).bind fun t208 => (some (t208, 0))) = some (r1, r2) := by rw [if_pos rfl] at H; exact H
  clear H
  have H := H1
  clear H1
  obtain ⟨t208, A4, H⟩ := oB H
  try dsimp only at H
  simp only [Option.some.injEq, Prod.mk.injEq] at H
  obtain ⟨rfl, rfl⟩ := H
  go_enter Try.func52, Try.ntmps52
  go_wp2_with (first | ((with_reducible refine gC (f:=63) rfl ?_); refine gM 5 (spec_IsFrame.calls a0 true _ A2.out) Try.func63 ?_; rintro w' ⟨⟨nd, rfl⟩⟩) | ((with_reducible refine gate_callee (f := 115) rfl ?_); refine goesL_ (some 8) rfl rfl Try.func115 (by kernel_rfl) rfl #[.int .i64 a0] rfl (by first|rfl|(simp only [List.map_toArray, List.map_cons, List.map_nil]; try rfl)) ?_; (with_reducible refine (spec_l04Mats.calls k a0 t208 _ A4.out).mono ?_); rintro e w5 ⟨v209, rfl, ho0, hb⟩; refine ⟨_, rfl, ?_⟩; have HO210 := aM (Kd.R_lower ho0 (below_size qB)); replace HB := bS HB hb; (try clear hb); (try clear ho0)))
  go_ret2
  exact ⟨_, qR, by (with_reducible repeat (first | apply Kd.R_alloc | apply Kd.R_drewN | apply Kd.R_drew)); exact HO210.out, qB⟩
 ·replace c3 := Bool.eq_false_iff.mpr c3
  subst c3
  have H1 : (some (([] : List (S51)), 1)) = some (r1, r2) := by rw [if_neg (show ¬ (false = true) by decide)] at H; exact H
  clear H
  have H := H1
  clear H1
  simp only [Option.some.injEq, Prod.mk.injEq] at H
  obtain ⟨rfl, rfl⟩ := H
  go_enter Try.func52, Try.ntmps52
  go_wp2_with (first | ((with_reducible refine gC (f:=63) rfl ?_); refine gM 5 (spec_IsFrame.calls a0 false _ A2.out) Try.func63 ?_; rintro w' ⟨⟨nd, rfl⟩⟩))
  go_ret2
  exact ⟨_, qR, by first | exact Kd.R_nil _ _ _ _ _ | exact Kd.N_nil _ _ _ _ _ | exact Kd.V_nil _ _ _ _ _ | exact Kd.Q_nil _ _ _ _ _ | exact Kd.S_nil _ _ _ _ _, qB⟩

def spec_l01Draw.f (s0_0 : List Int) (s0_1 : Int) (s0_2 : Int) : Option (Int × Int × Int × Int) := (spec_l01Next.f s0_0 s0_1 s0_2 40).bind fun bt212 => (if bt212.1 = 0 then ((spec_l01Pick.f s0_0 bt212.2.1 bt212.2.2 (([(-1000), 1000, 1001, 0] : List Int))).bind fun bt218 => ((spec_l01Pick.f s0_0 bt218.2.1 bt218.2.2 (([(-1001), 1000, 0] : List Int))).bind fun bt224 => (some (bt218.1, bt224.1, bt224.2.1, bt224.2.2)))) else ((spec_l01Pick.f s0_0 bt212.2.1 bt212.2.2 (([4, 9, 30] : List Int))).bind fun bt230 => ((spec_l01Next.f s0_0 bt230.2.1 bt230.2.2 (wrap64 ((wrap64 (2 * bt230.1)) + 1))).bind fun bt233 => ((spec_l01Next.f s0_0 bt233.2.1 bt233.2.2 (wrap64 ((wrap64 (2 * bt230.1)) + 1))).bind fun bt236 => (some (wrap64 (bt233.1 - bt230.1), wrap64 (bt236.1 - bt230.1), bt236.2.1, bt236.2.2))))))
set_option maxHeartbeats 8000000 in
set_option maxRecDepth 100000 in
theorem spec_l01Draw.calls (g : Nat) (s0_0 : List Int) (s0_1 : Int) (s0_2 : Int) (r1 : Int) (r2 : Int) (r3 : Int) (r4 : Int) (w0 w : World) (hI : IsS144 w0 w g s0_0 s0_1 s0_2) (hB : Below w0.heap.size w0 w) (h : spec_l01Draw.f s0_0 s0_1 s0_2 = some (r1, r2, r3, r4)) :
  Calls Try.prog 95 #[.pointer (some ⟨g, 0, none⟩)] w fun e w' => e = .returned (.agg #[.int .i64 r1, .int .i64 r2]) ∧ IsS144 w0 w' g s0_0 r3 r4 ∧ Below w0.heap.size w0 w' ∧ KeepBut w w' g none := by
 have hu47 := Try.underlying47
 have HI0 := aM hI
 have HK := aM (KeepBut.refl w g none)
 have HL := aM hB.size
 clear hI
 have HW0 := aM hB.size
 have HB := aM hB
 clear hB
 have H : ((spec_l01Next.f s0_0 s0_1 s0_2 40).bind fun bt212 => (if bt212.1 = 0 then ((spec_l01Pick.f s0_0 bt212.2.1 bt212.2.2 (([(-1000), 1000, 1001, 0] : List Int))).bind fun bt218 => ((spec_l01Pick.f s0_0 bt218.2.1 bt218.2.2 (([(-1001), 1000, 0] : List Int))).bind fun bt224 => (some (bt218.1, bt224.1, bt224.2.1, bt224.2.2)))) else ((spec_l01Pick.f s0_0 bt212.2.1 bt212.2.2 (([4, 9, 30] : List Int))).bind fun bt230 => ((spec_l01Next.f s0_0 bt230.2.1 bt230.2.2 (wrap64 ((wrap64 (2 * bt230.1)) + 1))).bind fun bt233 => ((spec_l01Next.f s0_0 bt233.2.1 bt233.2.2 (wrap64 ((wrap64 (2 * bt230.1)) + 1))).bind fun bt236 => (some (wrap64 (bt233.1 - bt230.1), wrap64 (bt236.1 - bt230.1), bt236.2.1, bt236.2.2))))))) = some (r1, r2, r3, r4) := h
 clear h
 obtain ⟨⟨t212, t213, t214⟩, A2, H⟩ := oB H
 try dsimp only at H
 by_cases c3 : t212 = 0
 ·rw [if_pos c3] at H
  have c3b0 : (t212 == 0) = true := beq_iff_eq.mpr c3
  have c3b1 : (t212 != 0) = false := bne_eq_false_iff_eq.mpr c3
  clear c3
  obtain ⟨y215, hy215⟩ : ∃ y_ : List Int, y_ = (([(-1000), 1000, 1001, 0] : List Int)) := ⟨_, rfl⟩
  replace H : ((spec_l01Pick.f s0_0 t213 t214 y215).bind fun bt218 => ((spec_l01Pick.f s0_0 bt218.2.1 bt218.2.2 (([(-1001), 1000, 0] : List Int))).bind fun bt224 => (some (bt218.1, bt224.1, bt224.2.1, bt224.2.2)))) = some (r1, r2, r3, r4) := by first | (rw [hy215]; with_reducible exact H) | (have H2_ := (Option.bind_some _ _).symm.trans H; rw [hy215]; with_reducible exact H2_) | (have H2_ := (Option.bind_some _ _).symm.trans H; with_reducible exact H2_) | with_reducible exact H | (rw [hy215]; exact H) | exact H
  have Ny215 := aM hy215
  clear hy215
  obtain ⟨⟨t218, t219, t220⟩, A4, H⟩ := oB H
  try dsimp only at H
  obtain ⟨y221, hy221⟩ : ∃ y_ : List Int, y_ = (([(-1001), 1000, 0] : List Int)) := ⟨_, rfl⟩
  replace H : ((spec_l01Pick.f s0_0 t219 t220 y221).bind fun bt224 => (some (t218, bt224.1, bt224.2.1, bt224.2.2))) = some (r1, r2, r3, r4) := by first | (rw [hy221]; with_reducible exact H) | (have H2_ := (Option.bind_some _ _).symm.trans H; rw [hy221]; with_reducible exact H2_) | (have H2_ := (Option.bind_some _ _).symm.trans H; with_reducible exact H2_) | with_reducible exact H | (rw [hy221]; exact H) | exact H
  have Ny221 := aM hy221
  clear hy221
  obtain ⟨⟨t224, t225, t226⟩, A5, H⟩ := oB H
  try dsimp only at H
  simp only [Option.some.injEq, Prod.mk.injEq] at H
  obtain ⟨rfl, rfl, rfl, rfl⟩ := H
  go_enter Try.func95, Try.ntmps95
  go_wp2_with (first | ((with_reducible refine gD (N:=2) rfl ?_); refine bE 2 #[.int .i64 0, .int .i64 0] 47 ?_; intro gb211 hg w6 hbox hb; have BK211 := aM hbox; have GW211 := kZ hg HK; have GE211 := kY HW0 hg HK; have NB0_211 := iL g hg; have NB211_0 := iG g hg; replace HI0 := iB g hb; replace HK := kU HK hb; replace HB := bS HB hb; clear hb hbox hg) | ((with_reducible refine gC (f:=84) rfl ?_); refine gM 5 (spec_l01Next.calls g s0_0 s0_1 s0_2 40 t212 t213 t214 w0 _ qI qB A2.out) Try.func84 ?_; rintro w7 ⟨hi, hb, hk⟩; replace BK211 := kB hk BK211 NB211_0; replace HK := kT HK hk; replace HB := aM hb; replace HI0 := aM hi; (try clear hb)) | ((with_reducible refine gate_dst (N := 8) rfl ?_); refine Kd.R_lit (Kd.int .i64) _ 2 ?hg (N := 8) ?hd (xs := ([(-1000), 1000, 1001, 0] : List Int)) (inner := [.int .i64 (-1000), .int .i64 1000, .int .i64 1001, .int .i64 0]) (ok := fun _ => True) (okp := fun _ => True) ?hr ?hp (fun _ hk => hk) trivial (Below.refl _ _) (Nat.le_refl _) (by simp) ?_; (case hd => rfl); (case hg => rfl); (case hr => first | (go_simp; done) | (go_simp; rfl)); (case hp => exact (Reps.one (show Kd.M (Kd.int .i64) _ _ _ (-1000) [.int .i64 (-1000)] from rfl) (Reps.one (show Kd.M (Kd.int .i64) _ _ _ 1000 [.int .i64 1000] from rfl) (Reps.one (show Kd.M (Kd.int .i64) _ _ _ 1001 [.int .i64 1001] from rfl) (Reps.one (show Kd.M (Kd.int .i64) _ _ _ 0 [.int .i64 0] from rfl) (Reps.none _ _)))))); intro v216 w8 ho9 hb hg_ hnew_; clear hg_ hnew_; (first | rw [← Ny215.out] at ho9 | (simp only [Int.reduceToNat] at ho9; rw [← Ny215.out] at ho9)); have HO217 := aM (Kd.R_lower ho9 (keep_size (w := w) (g := g) (row := none) qK)); replace HI0 := iB g hb; replace BK211 := bB BK211 hb; replace HK := kU HK hb; replace HB := bS HB hb; clear hb ho9; obtain ⟨Ao10, co10, eo10⟩ := Kd.R_slice HO217.out; subst eo10) | ((with_reducible refine gC (f:=86) rfl ?_); refine gM 9 (spec_l01Pick.calls g s0_0 t213 t214 _ _ y215 t218 t219 t220 w0 _ qI qB (cD (Kd.R_reads' HO217.out).2.2) (Kd.R_reads' HO217.out).2.1 (by exact far_slice (IsS144.own_ne HI0.out HO217.out (by decide))) A4.out) Try.func86 ?_; rintro w11 ⟨hi, hb, hk⟩; replace BK211 := kB hk BK211 NB211_0; replace HO217 := aM (Kd.R_mono (Kd.R_keep (IsS144.apart (show IsS144 w0 _ g s0_0 t213 t214 from by repeat (first | (with_reducible first | exact HI0.out | apply sA|apply sN|apply sD|apply s1|apply s2 | refine IsS144.far ?_ NB0_211.out _) | exact HI0.out)) (by (with_reducible repeat (first | apply Kd.R_alloc | apply Kd.R_drewN | apply Kd.R_drew)); exact HO217.out) (by decide)) hk (fun _ h => h.2)) (fun _ h => h.1)); replace HK := kT HK hk; replace HB := aM hb; replace HI0 := aM hi; (try clear hb)) | ((with_reducible refine gate_dst (N := 11) rfl ?_); refine Kd.R_lit (Kd.int .i64) _ 2 ?hg (N := 11) ?hd (xs := ([(-1001), 1000, 0] : List Int)) (inner := [.int .i64 (-1001), .int .i64 1000, .int .i64 0]) (ok := fun _ => True) (okp := fun _ => True) ?hr ?hp (fun _ hk => hk) trivial (Below.refl _ _) (Nat.le_refl _) (by simp) ?_; (case hd => rfl); (case hg => rfl); (case hr => first | (go_simp; done) | (go_simp; rfl)); (case hp => exact (Reps.one (show Kd.M (Kd.int .i64) _ _ _ (-1001) [.int .i64 (-1001)] from rfl) (Reps.one (show Kd.M (Kd.int .i64) _ _ _ 1000 [.int .i64 1000] from rfl) (Reps.one (show Kd.M (Kd.int .i64) _ _ _ 0 [.int .i64 0] from rfl) (Reps.none _ _))))); intro v222 w12 ho13 hb hg_ hnew_; clear hg_ hnew_; (first | rw [← Ny221.out] at ho13 | (simp only [Int.reduceToNat] at ho13; rw [← Ny221.out] at ho13)); have HO223 := aM (Kd.R_lower (Kd.R_new' ho13 (Kd.R_lt (by (with_reducible repeat (first | apply Kd.R_alloc | apply Kd.R_drewN | apply Kd.R_drew)); exact HO217.out))) (keep_size (w := w) (g := g) (row := none) qK)); replace HO217 := aM (Kd.R_elder' (by (with_reducible repeat (first | apply Kd.R_alloc | apply Kd.R_drewN | apply Kd.R_drew)); exact HO217.out) (Kd.R_base ho13) hb); replace HI0 := iB g hb; replace BK211 := bB BK211 hb; replace HK := kU HK hb; replace HB := bS HB hb; clear hb ho13; obtain ⟨Ao14, co14, eo14⟩ := Kd.R_slice HO223.out; subst eo14) | ((with_reducible refine gC (f:=86) rfl ?_); refine gM 12 (spec_l01Pick.calls g s0_0 t219 t220 _ _ y221 t224 t225 t226 w0 _ qI qB (cD (Kd.R_reads' HO223.out).2.2) (Kd.R_reads' HO223.out).2.1 (by exact far_slice (IsS144.own_ne HI0.out HO223.out (by decide))) A5.out) Try.func86 ?_; rintro w15 ⟨hi, hb, hk⟩; replace BK211 := kB hk BK211 NB211_0; replace HO217 := aM (Kd.R_mono (Kd.R_keep (IsS144.apart (show IsS144 w0 _ g s0_0 t219 t220 from by repeat (first | (with_reducible first | exact HI0.out | apply sA|apply sN|apply sD|apply s1|apply s2 | refine IsS144.far ?_ NB0_211.out _) | exact HI0.out)) (by (with_reducible repeat (first | apply Kd.R_alloc | apply Kd.R_drewN | apply Kd.R_drew)); exact HO217.out) (by decide)) hk (fun _ h => h.2)) (fun _ h => h.1)); replace HO223 := aM (Kd.R_mono (Kd.R_keep (IsS144.apart (show IsS144 w0 _ g s0_0 t219 t220 from by repeat (first | (with_reducible first | exact HI0.out | apply sA|apply sN|apply sD|apply s1|apply s2 | refine IsS144.far ?_ NB0_211.out _) | exact HI0.out)) (by (with_reducible repeat (first | apply Kd.R_alloc | apply Kd.R_drewN | apply Kd.R_drew)); exact HO223.out) (by decide)) hk (fun _ h => h.2)) (fun _ h => h.1)); replace HK := kT HK hk; replace HB := aM hb; replace HI0 := aM hi; (try clear hb); have hnb16 := NB211_0.out; have hnc16 := NB0_211.out; obtain ⟨hcz17_0, hcz17_1⟩ := z2 BK211; obtain ⟨hfz17_0, hfz17_1⟩ := y2 BK211))
  refine bodyPost_ret (results_cell_row rfl _ _ gb211 47 #[.int .i64 t218, .int .i64 t224] (0, 0) _ rfl (by (with_reducible repeat (first|apply kN|apply kD|apply kA)); refine blk_put (cs := #[.int .i64 t218, .int .i64 0]) ?_ 1 _ rfl; (with_reducible repeat (first|apply kN|apply kD|apply kA)); refine blk_put (cs := #[.int .i64 0, .int .i64 0]) ?_ 0 _ rfl; (with_reducible repeat (first|apply kN|apply kD|apply kA)); exact BK211.out) Try.underlying47 rfl (by kernel_rfl)) rfl ?_
  exact ⟨qR, qI, qB, qK⟩
 ·rw [if_neg c3] at H
  have c3b0 : (t212 == 0) = false := beq_eq_false_iff_ne.mpr c3
  have c3b1 : (t212 != 0) = true := bne_iff_ne.mpr c3
  obtain ⟨y227, hy227⟩ : ∃ y_ : List Int, y_ = (([4, 9, 30] : List Int)) := ⟨_, rfl⟩
  replace H : ((spec_l01Pick.f s0_0 t213 t214 y227).bind fun bt230 => ((spec_l01Next.f s0_0 bt230.2.1 bt230.2.2 (wrap64 ((wrap64 (2 * bt230.1)) + 1))).bind fun bt233 => ((spec_l01Next.f s0_0 bt233.2.1 bt233.2.2 (wrap64 ((wrap64 (2 * bt230.1)) + 1))).bind fun bt236 => (some (wrap64 (bt233.1 - bt230.1), wrap64 (bt236.1 - bt230.1), bt236.2.1, bt236.2.2))))) = some (r1, r2, r3, r4) := by first | (rw [hy227]; with_reducible exact H) | (have H2_ := (Option.bind_some _ _).symm.trans H; rw [hy227]; with_reducible exact H2_) | (have H2_ := (Option.bind_some _ _).symm.trans H; with_reducible exact H2_) | with_reducible exact H | (rw [hy227]; exact H) | exact H
  have Ny227 := aM hy227
  clear hy227
  obtain ⟨⟨t230, t231, t232⟩, A18, H⟩ := oB H
  try dsimp only at H
  obtain ⟨⟨t233, t234, t235⟩, A19, H⟩ := oB H
  try dsimp only at H
  obtain ⟨⟨t236, t237, t238⟩, A20, H⟩ := oB H
  try dsimp only at H
  simp only [Option.some.injEq, Prod.mk.injEq] at H
  obtain ⟨rfl, rfl, rfl, rfl⟩ := H
  go_enter Try.func95, Try.ntmps95
  go_wp2_with (first | ((with_reducible refine gD (N:=2) rfl ?_); refine bE 2 #[.int .i64 0, .int .i64 0] 47 ?_; intro gb211 hg w21 hbox hb; have BK211 := aM hbox; have GW211 := kZ hg HK; have GE211 := kY HW0 hg HK; have NB0_211 := iL g hg; have NB211_0 := iG g hg; replace HI0 := iB g hb; replace HK := kU HK hb; replace HB := bS HB hb; clear hb hbox hg) | ((with_reducible refine gC (f:=84) rfl ?_); refine gM 5 (spec_l01Next.calls g s0_0 s0_1 s0_2 40 t212 t213 t214 w0 _ qI qB A2.out) Try.func84 ?_; rintro w22 ⟨hi, hb, hk⟩; replace BK211 := kB hk BK211 NB211_0; replace HK := kT HK hk; replace HB := aM hb; replace HI0 := aM hi; (try clear hb)) | ((with_reducible refine gate_dst (N := 15) rfl ?_); refine Kd.R_lit (Kd.int .i64) _ 2 ?hg (N := 15) ?hd (xs := ([4, 9, 30] : List Int)) (inner := [.int .i64 4, .int .i64 9, .int .i64 30]) (ok := fun _ => True) (okp := fun _ => True) ?hr ?hp (fun _ hk => hk) trivial (Below.refl _ _) (Nat.le_refl _) (by simp) ?_; (case hd => rfl); (case hg => rfl); (case hr => first | (go_simp; done) | (go_simp; rfl)); (case hp => exact (Reps.one (show Kd.M (Kd.int .i64) _ _ _ 4 [.int .i64 4] from rfl) (Reps.one (show Kd.M (Kd.int .i64) _ _ _ 9 [.int .i64 9] from rfl) (Reps.one (show Kd.M (Kd.int .i64) _ _ _ 30 [.int .i64 30] from rfl) (Reps.none _ _))))); intro v228 w23 ho24 hb hg_ hnew_; clear hg_ hnew_; (first | rw [← Ny227.out] at ho24 | (simp only [Int.reduceToNat] at ho24; rw [← Ny227.out] at ho24)); have HO229 := aM (Kd.R_lower ho24 (keep_size (w := w) (g := g) (row := none) qK)); replace HI0 := iB g hb; replace BK211 := bB BK211 hb; replace HK := kU HK hb; replace HB := bS HB hb; clear hb ho24; obtain ⟨Ao25, co25, eo25⟩ := Kd.R_slice HO229.out; subst eo25) | ((with_reducible refine gC (f:=86) rfl ?_); refine gM 16 (spec_l01Pick.calls g s0_0 t213 t214 _ _ y227 t230 t231 t232 w0 _ qI qB (cD (Kd.R_reads' HO229.out).2.2) (Kd.R_reads' HO229.out).2.1 (by exact far_slice (IsS144.own_ne HI0.out HO229.out (by decide))) A18.out) Try.func86 ?_; rintro w26 ⟨hi, hb, hk⟩; replace BK211 := kB hk BK211 NB211_0; replace HO229 := aM (Kd.R_mono (Kd.R_keep (IsS144.apart (show IsS144 w0 _ g s0_0 t213 t214 from by repeat (first | (with_reducible first | exact HI0.out | apply sA|apply sN|apply sD|apply s1|apply s2 | refine IsS144.far ?_ NB0_211.out _) | exact HI0.out)) (by (with_reducible repeat (first | apply Kd.R_alloc | apply Kd.R_drewN | apply Kd.R_drew)); exact HO229.out) (by decide)) hk (fun _ h => h.2)) (fun _ h => h.1)); replace HK := kT HK hk; replace HB := aM hb; replace HI0 := aM hi; (try clear hb)) | ((with_reducible refine gate_callee (f := 84) rfl ?_); refine goesL_ (some 21) rfl rfl Try.func84 (by kernel_rfl) rfl #[.pointer (some ⟨g, 0, none⟩), .int .i64 (wrap64 ((wrap64 (2 * t230)) + 1))] rfl (by first|rfl|(simp only [List.map_toArray, List.map_cons, List.map_nil]; try rfl)) ?_; (with_reducible refine (spec_l01Next.calls g s0_0 t231 t232 (wrap64 ((wrap64 (2 * t230)) + 1)) t233 t234 t235 w0 _ ?side1 ?side2 A19.out).mono ?_); (case side1 => repeat (first | (with_reducible first | exact HI0.out | apply sA|apply sN|apply sD|apply s1|apply s2 | refine IsS144.far ?_ NB0_211.out _) | exact HI0.out)); (case side2 => repeat (first | (with_reducible first | exact HB.out | apply bA|apply bN|apply b1 | refine below_set ?_ (IsS144.ge HI0.out) | refine below_set ?_ GE211.out) | exact HB.out)); rintro e w27 ⟨rfl, hi, hb, hk⟩; refine ⟨_, rfl, ?_⟩; replace BK211 := kB hk BK211 NB211_0; replace HO229 := aM (Kd.R_mono (Kd.R_keep (IsS144.apart (show IsS144 w0 _ g s0_0 t231 t232 from by repeat (first | (with_reducible first | exact HI0.out | apply sA|apply sN|apply sD|apply s1|apply s2 | refine IsS144.far ?_ NB0_211.out _) | exact HI0.out)) (by (with_reducible repeat (first | apply Kd.R_alloc | apply Kd.R_drewN | apply Kd.R_drew)); exact HO229.out) (by decide)) hk (fun _ h => h.2)) (fun _ h => h.1)); replace HK := kT HK hk; replace HB := aM hb; replace HI0 := aM hi; (try clear hb)) | ((with_reducible refine gate_callee (f := 84) rfl ?_); refine goesL_ (some 28) rfl rfl Try.func84 (by kernel_rfl) rfl #[.pointer (some ⟨g, 0, none⟩), .int .i64 (wrap64 ((wrap64 (2 * t230)) + 1))] rfl (by first|rfl|(simp only [List.map_toArray, List.map_cons, List.map_nil]; try rfl)) ?_; (with_reducible refine (spec_l01Next.calls g s0_0 t234 t235 (wrap64 ((wrap64 (2 * t230)) + 1)) t236 t237 t238 w0 _ ?side1 ?side2 A20.out).mono ?_); (case side1 => repeat (first | (with_reducible first | exact HI0.out | apply sA|apply sN|apply sD|apply s1|apply s2 | refine IsS144.far ?_ NB0_211.out _) | exact HI0.out)); (case side2 => repeat (first | (with_reducible first | exact HB.out | apply bA|apply bN|apply b1 | refine below_set ?_ (IsS144.ge HI0.out) | refine below_set ?_ GE211.out) | exact HB.out)); rintro e w28 ⟨rfl, hi, hb, hk⟩; refine ⟨_, rfl, ?_⟩; replace BK211 := kB hk BK211 NB211_0; replace HO229 := aM (Kd.R_mono (Kd.R_keep (IsS144.apart (show IsS144 w0 _ g s0_0 t234 t235 from by repeat (first | (with_reducible first | exact HI0.out | apply sA|apply sN|apply sD|apply s1|apply s2 | refine IsS144.far ?_ NB0_211.out _) | exact HI0.out)) (by (with_reducible repeat (first | apply Kd.R_alloc | apply Kd.R_drewN | apply Kd.R_drew)); exact HO229.out) (by decide)) hk (fun _ h => h.2)) (fun _ h => h.1)); replace HK := kT HK hk; replace HB := aM hb; replace HI0 := aM hi; (try clear hb); have hnb29 := NB211_0.out; have hnc29 := NB0_211.out; obtain ⟨hcz30_0, hcz30_1⟩ := z2 BK211; obtain ⟨hfz30_0, hfz30_1⟩ := y2 BK211))
  refine bodyPost_ret (results_cell_row rfl _ _ gb211 47 #[.int .i64 (wrap64 (t233 - t230)), .int .i64 (wrap64 (t236 - t230))] (0, 0) _ rfl (by (with_reducible repeat (first|apply kN|apply kD|apply kA)); refine blk_put (cs := #[.int .i64 (wrap64 (t233 - t230)), .int .i64 0]) ?_ 1 _ rfl; (with_reducible repeat (first|apply kN|apply kD|apply kA)); refine blk_put (cs := #[.int .i64 0, .int .i64 0]) ?_ 0 _ rfl; (with_reducible repeat (first|apply kN|apply kD|apply kA)); exact BK211.out) Try.underlying47 rfl (by kernel_rfl)) rfl ?_
  exact ⟨qR, qI, qB, qK⟩

def spec_DrawNormOf.f (k : Nat) (l0 : List Int) : Option (Int × Int × Int) := (spec_l01From.f k l0).bind fun bt240 => ((spec_l04DrawFrame.f bt240.1 bt240.2.1 bt240.2.2).bind fun bt244 => ((spec_l01Draw.f bt240.1 bt244.2.1 bt244.2.2).bind fun bt247 => (some (bt244.1, bt247.1, bt247.2.1))))
set_option maxHeartbeats 8000000 in
set_option maxRecDepth 100000 in
theorem spec_DrawNormOf.calls (k : Nat) (A0 : Option Addr) (c0 : Nat) (l0 : List Int) (r1 : Int) (r2 : Int) (r3 : Int) (w : World) (hr0 : Kd.C (Kd.int .u8) w A0 l0.length l0) (hc0 : l0.length ≤ c0) (h : spec_DrawNormOf.f k l0 = some (r1, r2, r3)) :
  Calls Try.prog 53 #[.slice A0 l0.length c0] w fun e w' => e = .returned (.tuple #[.int .i64 r1, .agg #[.int .i64 r2, .int .i64 r3]]) ∧ Below w.heap.size w w' := by
 have hu47 := Try.underlying47
 have HR0 := aM hr0
 have HC0 := aM hc0
 clear hr0 hc0
 have HB := aM (Below.refl w.heap.size w)
 have H : ((spec_l01From.f k l0).bind fun bt240 => ((spec_l04DrawFrame.f bt240.1 bt240.2.1 bt240.2.2).bind fun bt244 => ((spec_l01Draw.f bt240.1 bt244.2.1 bt244.2.2).bind fun bt247 => (some (bt244.1, bt247.1, bt247.2.1))))) = some (r1, r2, r3) := h
 clear h
 obtain ⟨⟨t240, t241, t242⟩, A2, H⟩ := oB H
 try dsimp only at H
 obtain ⟨⟨t244, t245, t246⟩, A3, H⟩ := oB H
 try dsimp only at H
 obtain ⟨⟨t247, t248, t249, t250⟩, A4, H⟩ := oB H
 try dsimp only at H
 simp only [Option.some.injEq, Prod.mk.injEq] at H
 obtain ⟨rfl, rfl, rfl⟩ := H
 go_enter Try.func53, Try.ntmps53
 go_wp2_with (first | ((with_reducible refine gD (N:=3) rfl ?_); refine bE 3 #[.int .i64 0, .int .i64 0] 47 ?_; intro gb239 hg w5 hbox hb; have BK239 := aM hbox; have GW239 := bZ hg HB; have GE239 := bZ hg HB; replace HB := bS HB hb; clear hb hbox hg) | ((with_reducible refine gate_callee (f := 83) rfl ?_); refine goesL_ (some 6) rfl rfl Try.func83 (by kernel_rfl) rfl #[.slice A0 l0.length c0] rfl (by first|rfl|(simp only [List.map_toArray, List.map_cons, List.map_nil]; try rfl)) ?_; (with_reducible refine (spec_l01From.calls k _ _ l0 t240 t241 t242 w _ ?side1 ?side2 ?side3 A2.out).mono ?_); (case side1 => repeat (first | (with_reducible first | exact HB.out | apply bA|apply bN|apply b1 | refine below_set ?_ GE239.out) | exact HB.out)); (case side2 => exact HR0.out); (case side3 => exact HC0.out); rintro e w6 ⟨g243, rfl, hi, hb, hb2⟩; refine ⟨_, rfl, ?_⟩; have HI243 := aM hi; have NB243_239 := aM (IsS144.ne_blk hi (blk_below (g := gb239) (o := .cells #[.int .i64 0, .int .i64 0] 47 (0, 0)) (bk BK239) hb2) (by decide)); have NB239_243 := aM (Ne.symm (IsS144.ne_blk hi (blk_below (g := gb239) (o := .cells #[.int .i64 0, .int .i64 0] 47 (0, 0)) (bk BK239) hb2) (by decide))); replace BK239 := aM (blk_below (g := gb239) (o := .cells #[.int .i64 0, .int .i64 0] 47 (0, 0)) (bk BK239) hb2); replace HB := aM hb; (try clear hb)) | ((with_reducible refine gC (f:=85) rfl ?_); refine gM 8 (spec_l04DrawFrame.calls g243 t240 t241 t242 t244 t245 t246 w _ (by repeat (first | (with_reducible first | exact HI243.out | apply sA|apply sN|apply sD|apply s1|apply s2 | refine IsS144.far ?_ NB243_239.out _) | exact HI243.out)) (by repeat (first | (with_reducible first | exact HB.out | apply bA|apply bN|apply b1 | refine below_set ?_ (IsS144.ge HI243.out) | refine below_set ?_ GE239.out) | exact HB.out)) A3.out) Try.func85 ?_; rintro w7 ⟨hi, hb, hk⟩; replace BK239 := kB hk BK239 NB239_243; replace HB := aM hb; replace HI243 := aM hi; (try clear hb)) | ((with_reducible refine gC (f:=95) rfl ?_); refine gM 10 (spec_l01Draw.calls g243 t240 t245 t246 t247 t248 t249 t250 w _ (by repeat (first | (with_reducible first | exact HI243.out | apply sA|apply sN|apply sD|apply s1|apply s2 | refine IsS144.far ?_ NB243_239.out _) | exact HI243.out)) (by repeat (first | (with_reducible first | exact HB.out | apply bA|apply bN|apply b1 | refine below_set ?_ (IsS144.ge HI243.out) | refine below_set ?_ GE239.out) | exact HB.out)) A4.out) Try.func95 ?_; rintro w8 ⟨hi, hb, hk⟩; replace BK239 := kB hk BK239 NB239_243; replace HB := aM hb; replace HI243 := aM hi; (try clear hb); have hnb9 := NB239_243.out; have hnc9 := NB243_239.out; obtain ⟨hcz10_0, hcz10_1⟩ := z2 BK239; obtain ⟨hfz10_0, hfz10_1⟩ := y2 BK239))
 refine bodyPost_ret (results_tc rfl _ _ gb239 47 #[.int .i64 t247, .int .i64 t248] (0, 0) _ rfl (by (with_reducible repeat (first|apply kN|apply kD|apply kA)); refine blk_put (cs := #[.int .i64 t247, .int .i64 0]) ?_ 1 _ rfl; (with_reducible repeat (first|apply kN|apply kD|apply kA)); refine blk_put (cs := #[.int .i64 0, .int .i64 0]) ?_ 0 _ rfl; (with_reducible repeat (first|apply kN|apply kD|apply kA)); exact BK239.out) Try.underlying47 rfl (by kernel_rfl)) rfl ?_
 exact ⟨qR, by repeat (first | (with_reducible first | exact HB.out | apply bA|apply bN|apply b1 | refine below_set ?_ (IsS144.ge HI243.out) | refine below_set ?_ GE239.out) | exact HB.out)⟩

def spec_l01In.f (a0 : Int) (a1 : Int) (a2 : Int) : Option (Bool) := if a0 ≥ a1 then (some (decide (a0 ≤ a2))) else (some false)
set_option maxHeartbeats 8000000 in
set_option maxRecDepth 100000 in
theorem spec_l01In.calls (a0 : Int) (a1 : Int) (a2 : Int) (r : Bool) (w : World) (h : spec_l01In.f a0 a1 a2 = some r) :
  Calls Try.prog 70 #[.int .i64 a0, .int .i64 a1, .int .i64 a2] w fun e w' => e = .returned (.bool r) ∧ Drawn0 w w' := by
 have H : (if a0 ≥ a1 then (some (decide (a0 ≤ a2))) else (some false)) = some r := h
 clear h
 by_cases c4 : a0 ≥ a1
 ·rw [if_pos c4] at H
  have c4b0 : decide (a1 ≤ a0) = true := decide_eq_true c4
  clear c4
  obtain rfl := Option.some.inj H
  go_enter Try.func70, Try.ntmps70
  go_wp2
  go_ret
  exact ⟨by first | rfl | (simp; done) | (simp [*]; done), by repeat (first | exact Drawn0.refl _ | apply Drawn0.step)⟩
 ·rw [if_neg c4] at H
  have c4b0 : decide (a1 ≤ a0) = false := decide_eq_false c4
  clear c4
  obtain rfl := Option.some.inj H
  go_enter Try.func70, Try.ntmps70
  go_wp2
  go_ret
  exact ⟨by first | rfl | (simp; done) | (simp [*]; done), by repeat (first | exact Drawn0.refl _ | apply Drawn0.step)⟩

def spec_IsVec.f (a0_0 : Int) (a0_1 : Int) : Option (Bool) := (spec_l01In.f a0_0 (-1000) 1000).bind fun t252 => (if t252 = true then ((spec_l01In.f a0_1 (-1000) 1000).bind fun t253 => (some t253)) else (some false))
set_option maxHeartbeats 8000000 in
set_option maxRecDepth 100000 in
theorem spec_IsVec.calls (a0_0 : Int) (a0_1 : Int) (r : Bool) (w : World) (h : spec_IsVec.f a0_0 a0_1 = some r) :
  Calls Try.prog 98 #[.agg #[.int .i64 a0_0, .int .i64 a0_1]] w fun e w' => e = .returned (.bool r) ∧ Below w.heap.size w w' := by
 have hu47 := Try.underlying47
 have HB := aM (Below.refl w.heap.size w)
 have H : ((spec_l01In.f a0_0 (-1000) 1000).bind fun t252 => (if t252 = true then ((spec_l01In.f a0_1 (-1000) 1000).bind fun t253 => (some t253)) else (some false))) = some r := h
 clear h
 obtain ⟨t252, A2, H⟩ := oB H
 try dsimp only at H
 by_cases c3 : t252 = true
 ·subst c3
  have H1 : ((spec_l01In.f a0_1 (-1000) 1000).bind fun t253 => (some t253)) = some r := by rw [if_pos rfl] at H; exact H
  clear H
  have H := H1
  clear H1
  obtain ⟨t253, A4, H⟩ := oB H
  try dsimp only at H
  obtain rfl := Option.some.inj H
  go_enter Try.func98, Try.ntmps98
  go_wp2_with (first | ((with_reducible refine gD (N:=1) rfl ?_); refine bE 1 #[.int .i64 a0_0, .int .i64 a0_1] 47 ?_; intro gb251 hg w5 hbox hb; have BK251 := aM hbox; have GW251 := bZ hg HB; have GE251 := bZ hg HB; replace HB := bS HB hb; clear hb hbox hg; obtain ⟨hcz6_0, hcz6_1⟩ := z2 BK251; obtain ⟨hfz6_0, hfz6_1⟩ := y2 BK251) | ((with_reducible refine gC (f:=70) rfl ?_); refine gM 5 (spec_l01In.calls a0_0 (-1000) 1000 true _ A2.out) Try.func70 ?_; rintro w' ⟨⟨nd, rfl⟩⟩) | (go_at_call 70; (with_reducible refine (spec_l01In.calls a0_1 (-1000) 1000 t253 _ A4.out).mono ?_); rintro e w' ⟨rfl, ⟨nd, rfl⟩⟩))
  go_ret
  exact ⟨qR, qB⟩
 ·replace c3 := Bool.eq_false_iff.mpr c3
  subst c3
  have H1 : (some false) = some r := by rw [if_neg (show ¬ (false = true) by decide)] at H; exact H
  clear H
  have H := H1
  clear H1
  obtain rfl := Option.some.inj H
  go_enter Try.func98, Try.ntmps98
  go_wp2_with (first | ((with_reducible refine gD (N:=1) rfl ?_); refine bE 1 #[.int .i64 a0_0, .int .i64 a0_1] 47 ?_; intro gb251 hg w7 hbox hb; have BK251 := aM hbox; have GW251 := bZ hg HB; have GE251 := bZ hg HB; replace HB := bS HB hb; clear hb hbox hg; obtain ⟨hcz8_0, hcz8_1⟩ := z2 BK251; obtain ⟨hfz8_0, hfz8_1⟩ := y2 BK251) | ((with_reducible refine gC (f:=70) rfl ?_); refine gM 5 (spec_l01In.calls a0_0 (-1000) 1000 false _ A2.out) Try.func70 ?_; rintro w' ⟨⟨nd, rfl⟩⟩))
  go_ret
  exact ⟨qR, qB⟩

def spec_NormOf.f (a0 : Int) (a1_0 : Int) (a1_1 : Int) : Option (Int × Int) := (spec_IsFrame.f a0).bind fun t255 => (if t255 = true then ((spec_IsVec.f a1_0 a1_1).bind fun t256 => (if t256 = true then ((spec_l04Norm.f a0 a1_0 a1_1).bind fun t257 => (some (t257, 0))) else (some (0, 1)))) else (some (0, 1)))
set_option maxHeartbeats 8000000 in
set_option maxRecDepth 100000 in
theorem spec_NormOf.calls (a0 : Int) (a1_0 : Int) (a1_1 : Int) (r1 : Int) (r2 : Int) (w : World) (h : spec_NormOf.f a0 a1_0 a1_1 = some (r1, r2)) :
  Calls Try.prog 54 #[.int .i64 a0, .agg #[.int .i64 a1_0, .int .i64 a1_1]] w fun e w' => e = .returned (.tuple #[.int .i64 r1, .int .i64 r2]) ∧ Below w.heap.size w w' := by
 have hu47 := Try.underlying47
 have HB := aM (Below.refl w.heap.size w)
 have H : ((spec_IsFrame.f a0).bind fun t255 => (if t255 = true then ((spec_IsVec.f a1_0 a1_1).bind fun t256 => (if t256 = true then ((spec_l04Norm.f a0 a1_0 a1_1).bind fun t257 => (some (t257, 0))) else (some (0, 1)))) else (some (0, 1)))) = some (r1, r2) := h
 clear h
 obtain ⟨t255, A3, H⟩ := oB H
 try dsimp only at H
 by_cases c4 : t255 = true
 ·subst c4
  have H1 : ((spec_IsVec.f a1_0 a1_1).bind fun t256 => (if t256 = true then ((spec_l04Norm.f a0 a1_0 a1_1).bind fun t257 => (some (t257, 0))) else (some (0, 1)))) = some (r1, r2) := by rw [if_pos rfl] at H; exact H
  clear H
  have H := H1
  clear H1
  obtain ⟨t256, A5, H⟩ := oB H
  try dsimp only at H
  by_cases c6 : t256 = true
  ·subst c6
   have H1 : ((spec_l04Norm.f a0 a1_0 a1_1).bind fun t257 => (some (t257, 0))) = some (r1, r2) := by rw [if_pos rfl] at H; exact H
   clear H
   have H := H1
   clear H1
   obtain ⟨t257, A7, H⟩ := oB H
   try dsimp only at H
   simp only [Option.some.injEq, Prod.mk.injEq] at H
   obtain ⟨rfl, rfl⟩ := H
   go_enter Try.func54, Try.ntmps54
   go_wp2_with (first | ((with_reducible refine gD (N:=3) rfl ?_); refine bE 3 #[.int .i64 a1_0, .int .i64 a1_1] 47 ?_; intro gb254 hg w8 hbox hb; have BK254 := aM hbox; have GW254 := bZ hg HB; have GE254 := bZ hg HB; replace HB := bS HB hb; clear hb hbox hg) | ((with_reducible refine gC (f:=63) rfl ?_); refine gM 7 (spec_IsFrame.calls a0 true _ A3.out) Try.func63 ?_; rintro w' ⟨⟨nd, rfl⟩⟩; obtain ⟨hcz9_0, hcz9_1⟩ := z2 BK254; obtain ⟨hfz9_0, hfz9_1⟩ := y2 BK254) | (go_at_call 98; (with_reducible refine (spec_IsVec.calls a1_0 a1_1 true _ A5.out).mono ?_); rintro e w10 ⟨rfl, hb⟩; replace BK254 := bB BK254 hb; replace HB := bS HB hb; (try clear hb); obtain ⟨hcz11_0, hcz11_1⟩ := z2 BK254; obtain ⟨hfz11_0, hfz11_1⟩ := y2 BK254) | ((with_reducible refine gC (f:=116) rfl ?_); refine gM 16 (spec_l04Norm.calls a0 a1_0 a1_1 t257 _ A7.out) Try.func116 ?_; rintro w12 hb; replace BK254 := bB BK254 hb; replace HB := bS HB hb; (try clear hb)))
   go_ret2
   exact ⟨qR, qB⟩
  ·replace c6 := Bool.eq_false_iff.mpr c6
   subst c6
   have H1 : (some (0, 1)) = some (r1, r2) := by rw [if_neg (show ¬ (false = true) by decide)] at H; exact H
   clear H
   have H := H1
   clear H1
   simp only [Option.some.injEq, Prod.mk.injEq] at H
   obtain ⟨rfl, rfl⟩ := H
   go_enter Try.func54, Try.ntmps54
   go_wp2_with (first | ((with_reducible refine gD (N:=3) rfl ?_); refine bE 3 #[.int .i64 a1_0, .int .i64 a1_1] 47 ?_; intro gb254 hg w13 hbox hb; have BK254 := aM hbox; have GW254 := bZ hg HB; have GE254 := bZ hg HB; replace HB := bS HB hb; clear hb hbox hg) | ((with_reducible refine gC (f:=63) rfl ?_); refine gM 7 (spec_IsFrame.calls a0 true _ A3.out) Try.func63 ?_; rintro w' ⟨⟨nd, rfl⟩⟩; obtain ⟨hcz14_0, hcz14_1⟩ := z2 BK254; obtain ⟨hfz14_0, hfz14_1⟩ := y2 BK254) | (go_at_call 98; (with_reducible refine (spec_IsVec.calls a1_0 a1_1 false _ A5.out).mono ?_); rintro e w15 ⟨rfl, hb⟩; replace BK254 := bB BK254 hb; replace HB := bS HB hb; (try clear hb)))
   go_ret2
   exact ⟨qR, qB⟩
 ·replace c4 := Bool.eq_false_iff.mpr c4
  subst c4
  have H1 : (some (0, 1)) = some (r1, r2) := by rw [if_neg (show ¬ (false = true) by decide)] at H; exact H
  clear H
  have H := H1
  clear H1
  simp only [Option.some.injEq, Prod.mk.injEq] at H
  obtain ⟨rfl, rfl⟩ := H
  go_enter Try.func54, Try.ntmps54
  go_wp2_with (first | ((with_reducible refine gD (N:=3) rfl ?_); refine bE 3 #[.int .i64 a1_0, .int .i64 a1_1] 47 ?_; intro gb254 hg w16 hbox hb; have BK254 := aM hbox; have GW254 := bZ hg HB; have GE254 := bZ hg HB; replace HB := bS HB hb; clear hb hbox hg) | ((with_reducible refine gC (f:=63) rfl ?_); refine gM 7 (spec_IsFrame.calls a0 false _ A3.out) Try.func63 ?_; rintro w' ⟨⟨nd, rfl⟩⟩))
  go_ret2
  exact ⟨qR, qB⟩

def spec_l02Multiply.f (a0_0 : Int) (a0_1 : Int) (a0_2 : Int) (a0_3 : Int) (a1_0 : Int) (a1_1 : Int) (a1_2 : Int) (a1_3 : Int) : Option (Int × Int × Int × Int) := some (wrap64 ((wrap64 (a0_0 * a1_0)) + (wrap64 (a0_1 * a1_2))), wrap64 ((wrap64 (a0_0 * a1_1)) + (wrap64 (a0_1 * a1_3))), wrap64 ((wrap64 (a0_2 * a1_0)) + (wrap64 (a0_3 * a1_2))), wrap64 ((wrap64 (a0_2 * a1_1)) + (wrap64 (a0_3 * a1_3))))
set_option maxHeartbeats 8000000 in
set_option maxRecDepth 100000 in
theorem spec_l02Multiply.calls (a0_0 : Int) (a0_1 : Int) (a0_2 : Int) (a0_3 : Int) (a1_0 : Int) (a1_1 : Int) (a1_2 : Int) (a1_3 : Int) (r1 : Int) (r2 : Int) (r3 : Int) (r4 : Int) (w : World) (h : spec_l02Multiply.f a0_0 a0_1 a0_2 a0_3 a1_0 a1_1 a1_2 a1_3 = some (r1, r2, r3, r4)) :
  Calls Try.prog 92 #[.agg #[.int .i64 a0_0, .int .i64 a0_1, .int .i64 a0_2, .int .i64 a0_3], .agg #[.int .i64 a1_0, .int .i64 a1_1, .int .i64 a1_2, .int .i64 a1_3]] w fun e w' => e = .returned (.agg #[.int .i64 r1, .int .i64 r2, .int .i64 r3, .int .i64 r4]) ∧ Below w.heap.size w w' := by
 have hu51 := Try.underlying51
 have HB := aM (Below.refl w.heap.size w)
 have H : (some (wrap64 ((wrap64 (a0_0 * a1_0)) + (wrap64 (a0_1 * a1_2))), wrap64 ((wrap64 (a0_0 * a1_1)) + (wrap64 (a0_1 * a1_3))), wrap64 ((wrap64 (a0_2 * a1_0)) + (wrap64 (a0_3 * a1_2))), wrap64 ((wrap64 (a0_2 * a1_1)) + (wrap64 (a0_3 * a1_3))))) = some (r1, r2, r3, r4) := h
 clear h
 simp only [Option.some.injEq, Prod.mk.injEq] at H
 obtain ⟨rfl, rfl, rfl, rfl⟩ := H
 go_enter Try.func92, Try.ntmps92
 go_wp2_with (first | ((with_reducible refine gD (N:=2) rfl ?_); refine bE 2 #[.int .i64 a0_0, .int .i64 a0_1, .int .i64 a0_2, .int .i64 a0_3] 51 ?_; intro gb258 hg w3 hbox hb; have BK258 := aM hbox; have GW258 := bZ hg HB; have GE258 := bZ hg HB; replace HB := bS HB hb; clear hb hbox hg) | ((with_reducible refine gD (N:=3) rfl ?_); refine bE 3 #[.int .i64 a1_0, .int .i64 a1_1, .int .i64 a1_2, .int .i64 a1_3] 51 ?_; intro gb259 hg w4 hbox hb; have BK259 := aM hbox; have GW259 := bZ hg HB; have GE259 := bZ hg HB; have NB258_259 := nL hg BK258; have NB259_258 := nG hg BK258; replace BK258 := bB BK258 hb; replace HB := bS HB hb; clear hb hbox hg) | ((with_reducible refine gD (N:=4) rfl ?_); refine bE 4 #[.int .i64 0, .int .i64 0, .int .i64 0, .int .i64 0] 51 ?_; intro gb260 hg w5 hbox hb; have BK260 := aM hbox; have GW260 := bZ hg HB; have GE260 := bZ hg HB; have NB258_260 := nL hg BK258; have NB260_258 := nG hg BK258; have NB259_260 := nL hg BK259; have NB260_259 := nG hg BK259; replace BK258 := bB BK258 hb; replace BK259 := bB BK259 hb; replace HB := bS HB hb; clear hb hbox hg; have hnb6 := NB258_259.out; have hnc6 := NB259_258.out; have hnb7 := NB258_260.out; have hnc7 := NB260_258.out; obtain ⟨hcz8_0, hcz8_1, hcz8_2, hcz8_3⟩ := z4 BK258; obtain ⟨hfz8_0, hfz8_1, hfz8_2, hfz8_3⟩ := y4 BK258; have hnb9 := NB259_260.out; have hnc9 := NB260_259.out; obtain ⟨hcz10_0, hcz10_1, hcz10_2, hcz10_3⟩ := z4 BK259; obtain ⟨hfz10_0, hfz10_1, hfz10_2, hfz10_3⟩ := y4 BK259; obtain ⟨hcz11_0, hcz11_1, hcz11_2, hcz11_3⟩ := z4 BK260; obtain ⟨hfz11_0, hfz11_1, hfz11_2, hfz11_3⟩ := y4 BK260))
 refine bodyPost_ret (results_cell_row rfl _ _ gb260 51 #[.int .i64 (wrap64 ((wrap64 (a0_0 * a1_0)) + (wrap64 (a0_1 * a1_2)))), .int .i64 (wrap64 ((wrap64 (a0_0 * a1_1)) + (wrap64 (a0_1 * a1_3)))), .int .i64 (wrap64 ((wrap64 (a0_2 * a1_0)) + (wrap64 (a0_3 * a1_2)))), .int .i64 (wrap64 ((wrap64 (a0_2 * a1_1)) + (wrap64 (a0_3 * a1_3))))] (0, 0) _ rfl (by (with_reducible repeat (first|apply kN|apply kD|apply kA)); refine blk_put (cs := #[.int .i64 (wrap64 ((wrap64 (a0_0 * a1_0)) + (wrap64 (a0_1 * a1_2)))), .int .i64 (wrap64 ((wrap64 (a0_0 * a1_1)) + (wrap64 (a0_1 * a1_3)))), .int .i64 (wrap64 ((wrap64 (a0_2 * a1_0)) + (wrap64 (a0_3 * a1_2)))), .int .i64 0]) ?_ 3 _ rfl; (with_reducible repeat (first|apply kN|apply kD|apply kA)); refine blk_put (cs := #[.int .i64 (wrap64 ((wrap64 (a0_0 * a1_0)) + (wrap64 (a0_1 * a1_2)))), .int .i64 (wrap64 ((wrap64 (a0_0 * a1_1)) + (wrap64 (a0_1 * a1_3)))), .int .i64 0, .int .i64 0]) ?_ 2 _ rfl; (with_reducible repeat (first|apply kN|apply kD|apply kA)); refine blk_put (cs := #[.int .i64 (wrap64 ((wrap64 (a0_0 * a1_0)) + (wrap64 (a0_1 * a1_2)))), .int .i64 0, .int .i64 0, .int .i64 0]) ?_ 1 _ rfl; (with_reducible repeat (first|apply kN|apply kD|apply kA)); refine blk_put (cs := #[.int .i64 0, .int .i64 0, .int .i64 0, .int .i64 0]) ?_ 0 _ rfl; (with_reducible repeat (first|apply kN|apply kD|apply kA)); exact BK260.out) Try.underlying51 rfl (by kernel_rfl)) rfl ?_
 exact ⟨qR, qB⟩

end Go.Proofs.Ytcjchihnopmplaa.F
