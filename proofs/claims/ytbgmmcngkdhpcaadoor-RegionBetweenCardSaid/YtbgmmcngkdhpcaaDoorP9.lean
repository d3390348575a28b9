/- The walks of the functions that these statements reach: each Go function as a plain Lean function, and the proof that its call comes to that. Written by the session's program wip/pp.py. -/
import Derived.Test.YtbgmmcngkdhpcaaDoorP0
import Derived.Test.YtbgmmcngkdhpcaaDoorP2
import Derived.Test.YtbgmmcngkdhpcaaDoorP4
namespace Go.Proofs.YtbgmmcngkdhpcaaDoor.P
open Go.Proofs.YtbgmmcngkdhpcaaDoor
open Go.RowKit Go.Proofs.YtbgmmcngkdhpcaaDoorW.PrintWords Go.Proofs.YtbgmmcngkdhpcaaDoorW.PrintLast Go.Proofs.YtbgmmcngkdhpcaaDoorW.PrintMore
attribute [local go_sem] cell_isSome max2_int min2_int max_two min_two max_three min_three max_four min_four   -- for this text's walks alone
set_option linter.unusedVariables false
set_option linter.unusedSimpArgs false

/-! ### seek_Find: function 89 -/
mutual
def seek_Find.j0 : Nat → ByteArray → Int → Int → Int → Int → Bool → Option (Int × Int)
  | 0, _, _, _, _, _, _ => none
  | k + 1, x0, x1, x2, x3, x4, x32 => if x32 = true then (some (0, 1)) else ((text_Of.f k x0).bind fun bt228 => ((text_Map_Is.f bt228.1 bt228.2 x1).bind fun t235 => (if t235 = true then ((text_Map_Row.f k bt228.1 bt228.2 x1).bind fun t236 => (if x2 = 70 then (seek_Find.j1 k x1 x2 x3 x4 t236 1 0 true bt228.1 bt228.2) else (seek_Find.j1 k x1 x2 x3 x4 t236 1 0 (x2 == 84) bt228.1 bt228.2))) else (some (0, 1)))))
def seek_Find.j1 : Nat → Int → Int → Int → Int → Int → Int → Int → Bool → List Int → List Int → Option (Int × Int)
  | 0, _, _, _, _, _, _, _, _, _, _ => none
  | k + 1, x1, x2, x3, x4, x13, x14, x15, x47, v0, v1 => if x47 = true then (seek_Find.j2 k x1 x2 x3 x4 x13 (-1) x15 v0 v1) else (seek_Find.j2 k x1 x2 x3 x4 x13 x14 x15 v0 v1)
def seek_Find.j2 : Nat → Int → Int → Int → Int → Int → Int → Int → List Int → List Int → Option (Int × Int)
  | 0, _, _, _, _, _, _, _, _, _ => none
  | k + 1, x1, x2, x3, x4, x13, x14, x15, v0, v1 => if x2 = 116 then (seek_Find.j3 k x1 x3 x4 x13 x14 x15 true v0 v1) else (seek_Find.j3 k x1 x3 x4 x13 x14 x15 (x2 == 84) v0 v1)
def seek_Find.j3 : Nat → Int → Int → Int → Int → Int → Int → Bool → List Int → List Int → Option (Int × Int)
  | 0, _, _, _, _, _, _, _, _, _ => none
  | k + 1, x1, x3, x4, x13, x14, x15, x53, v0, v1 => if x53 = true then (seek_Find.j4 k x1 x3 x4 x13 x14 x14 v0 v1) else (seek_Find.j4 k x1 x3 x4 x13 x14 x15 v0 v1)
def seek_Find.j4 : Nat → Int → Int → Int → Int → Int → Int → List Int → List Int → Option (Int × Int)
  | 0, _, _, _, _, _, _, _, _ => none
  | k + 1, x1, x3, x4, x13, x14, x15, v0, v1 => seek_Find.l0 k x3 x4 x13 x14 x15 (wrap64 (x1 + x14)) v0 v1
def seek_Find.l0 : Nat → Int → Int → Int → Int → Int → Int → List Int → List Int → Option (Int × Int)
  | 0, _, _, _, _, _, _, _, _ => none
  | k + 1, x3, x4, x13, x14, x15, x16, v0, v1 => if 0 ≤ x13 then (if x13 < (v1.length : Int) then (if x16 ≥ (rd v1 x13) then ((text_Map_End.f v0 v1 x13).bind fun t238 => (seek_Find.j6 k x3 x4 x13 x14 x15 x16 (decide (x16 < t238)) v0 v1)) else (seek_Find.j6 k x3 x4 x13 x14 x15 x16 false v0 v1)) else (none)) else (none)
def seek_Find.j6 : Nat → Int → Int → Int → Int → Int → Int → Bool → List Int → List Int → Option (Int × Int)
  | 0, _, _, _, _, _, _, _, _, _ => none
  | k + 1, x3, x4, x13, x14, x15, x16, x73, v0, v1 => if x73 = true then (if 0 ≤ x16 then (if x16 < (v0.length : Int) then (if (wrap64 (rd v0 x16)) = x3 then (if (wrap64 (x4 - 1)) = 0 then (some (wrap64 (x16 - x15), 0)) else (seek_Find.l0 k x3 (wrap64 (x4 - 1)) x13 x14 x15 (wrap64 (x16 + x14)) v0 v1)) else (if x4 = 0 then (some (wrap64 (x16 - x15), 0)) else (seek_Find.l0 k x3 x4 x13 x14 x15 (wrap64 (x16 + x14)) v0 v1))) else (none)) else (none)) else (some (0, 6))
end
def seek_Find.f (k : Nat) (a0 : ByteArray) (a1 : Int) (a2 : Int) (a3 : Int) (a4 : Int) : Option (Int × Int) := (text_May.f a0).bind fun t226 => (if t226 = true then ((seek_Is.f a2).bind fun t227 => (if t227 = true then (if a4 < 1 then (seek_Find.j0 k a0 a1 a2 a3 a4 true) else (seek_Find.j0 k a0 a1 a2 a3 a4 (decide (a4 > 999)))) else (seek_Find.j0 k a0 a1 a2 a3 a4 true))) else (seek_Find.j0 k a0 a1 a2 a3 a4 true))
theorem seek_Find.mono_l : ∀ k, (∀ y0 y1 y2 y3 y4 y5, LeO (seek_Find.j0 k y0 y1 y2 y3 y4 y5) (seek_Find.j0 (k + 1) y0 y1 y2 y3 y4 y5)) ∧ (∀ y0 y1 y2 y3 y4 y5 y6 y7 y8 y9, LeO (seek_Find.j1 k y0 y1 y2 y3 y4 y5 y6 y7 y8 y9) (seek_Find.j1 (k + 1) y0 y1 y2 y3 y4 y5 y6 y7 y8 y9)) ∧ (∀ y0 y1 y2 y3 y4 y5 y6 y7 y8, LeO (seek_Find.j2 k y0 y1 y2 y3 y4 y5 y6 y7 y8) (seek_Find.j2 (k + 1) y0 y1 y2 y3 y4 y5 y6 y7 y8)) ∧ (∀ y0 y1 y2 y3 y4 y5 y6 y7 y8, LeO (seek_Find.j3 k y0 y1 y2 y3 y4 y5 y6 y7 y8) (seek_Find.j3 (k + 1) y0 y1 y2 y3 y4 y5 y6 y7 y8)) ∧ (∀ y0 y1 y2 y3 y4 y5 y6 y7, LeO (seek_Find.j4 k y0 y1 y2 y3 y4 y5 y6 y7) (seek_Find.j4 (k + 1) y0 y1 y2 y3 y4 y5 y6 y7)) ∧ (∀ y0 y1 y2 y3 y4 y5 y6 y7, LeO (seek_Find.l0 k y0 y1 y2 y3 y4 y5 y6 y7) (seek_Find.l0 (k + 1) y0 y1 y2 y3 y4 y5 y6 y7)) ∧ (∀ y0 y1 y2 y3 y4 y5 y6 y7 y8, LeO (seek_Find.j6 k y0 y1 y2 y3 y4 y5 y6 y7 y8) (seek_Find.j6 (k + 1) y0 y1 y2 y3 y4 y5 y6 y7 y8))
  | 0 => ⟨fun _ _ _ _ _ _ r h => by simp [seek_Find.j0] at h, fun _ _ _ _ _ _ _ _ _ _ r h => by simp [seek_Find.j1] at h, fun _ _ _ _ _ _ _ _ _ r h => by simp [seek_Find.j2] at h, fun _ _ _ _ _ _ _ _ _ r h => by simp [seek_Find.j3] at h, fun _ _ _ _ _ _ _ _ r h => by simp [seek_Find.j4] at h, fun _ _ _ _ _ _ _ _ r h => by simp [seek_Find.l0] at h, fun _ _ _ _ _ _ _ _ _ r h => by simp [seek_Find.j6] at h⟩
  | k + 1 => by
    obtain ⟨ih0, ih1, ih2, ih3, ih4, ih5, ih6⟩ := seek_Find.mono_l k
    refine ⟨?_, ?_, ?_, ?_, ?_, ?_, ?_⟩
    all_goals intros
    all_goals first | unfold seek_Find.j0 | unfold seek_Find.j1 | unfold seek_Find.j2 | unfold seek_Find.j3 | unfold seek_Find.j4 | unfold seek_Find.l0 | unfold seek_Find.j6
    all_goals repeat' first | (with_reducible first | exact ih0 _ _ _ _ _ _ | exact ih1 _ _ _ _ _ _ _ _ _ _ | exact ih2 _ _ _ _ _ _ _ _ _ | exact ih3 _ _ _ _ _ _ _ _ _ | exact ih4 _ _ _ _ _ _ _ _ | exact ih5 _ _ _ _ _ _ _ _ | exact ih6 _ _ _ _ _ _ _ _ _ | exact text_Map_Row.mono _ _ _ _ | exact text_Of.mono _ _ | exact LeO.refl _ | exact LeO.none _ | refine LeO.ite ?_ ?_ | refine LeO.bind ?_ (fun _ => ?_)) | exact ih0 _ _ _ _ _ _ | exact ih1 _ _ _ _ _ _ _ _ _ _ | exact ih2 _ _ _ _ _ _ _ _ _ | exact ih3 _ _ _ _ _ _ _ _ _ | exact ih4 _ _ _ _ _ _ _ _ | exact ih5 _ _ _ _ _ _ _ _ | exact ih6 _ _ _ _ _ _ _ _ _ | exact text_Map_Row.mono _ _ _ _ | exact text_Of.mono _ _ | exact LeO.refl _ | exact LeO.none _ | refine LeO.ite ?_ ?_ | refine LeO.bind ?_ (fun _ => ?_)
theorem seek_Find.mono : ∀ a0 a1 a2 a3 a4 k, LeO (seek_Find.f k a0 a1 a2 a3 a4) (seek_Find.f (k + 1) a0 a1 a2 a3 a4) := by
  intro a0 a1 a2 a3 a4 k
  obtain ⟨ih0, ih1, ih2, ih3, ih4, ih5, ih6⟩ := seek_Find.mono_l k
  unfold seek_Find.f
  repeat' first | (with_reducible first | exact ih0 _ _ _ _ _ _ | exact ih1 _ _ _ _ _ _ _ _ _ _ | exact ih2 _ _ _ _ _ _ _ _ _ | exact ih3 _ _ _ _ _ _ _ _ _ | exact ih4 _ _ _ _ _ _ _ _ | exact ih5 _ _ _ _ _ _ _ _ | exact ih6 _ _ _ _ _ _ _ _ _ | exact text_Map_Row.mono _ _ _ _ | exact text_Of.mono _ _ | exact LeO.refl _ | exact LeO.none _ | refine LeO.ite ?_ ?_ | refine LeO.bind ?_ (fun _ => ?_)) | exact ih0 _ _ _ _ _ _ | exact ih1 _ _ _ _ _ _ _ _ _ _ | exact ih2 _ _ _ _ _ _ _ _ _ | exact ih3 _ _ _ _ _ _ _ _ _ | exact ih4 _ _ _ _ _ _ _ _ | exact ih5 _ _ _ _ _ _ _ _ | exact ih6 _ _ _ _ _ _ _ _ _ | exact text_Map_Row.mono _ _ _ _ | exact text_Of.mono _ _ | exact LeO.refl _ | exact LeO.none _ | refine LeO.ite ?_ ?_ | refine LeO.bind ?_ (fun _ => ?_)
set_option maxHeartbeats 8000000 in
set_option maxRecDepth 100000 in
theorem seek_Find.calls (k : Nat) (a0 : ByteArray) (a1 : Int) (a2 : Int) (a3 : Int) (a4 : Int) (r1 : Int) (r2 : Int) (w : World) (hT : Tabs w) (h : seek_Find.f k a0 a1 a2 a3 a4 = some (r1, r2)) :
  Calls Tryd.prog 89 #[.string a0, .int .i64 a1, .int .i64 a2, .int .i64 a3, .int .i64 a4] w fun e w' => e = .returned (.tuple #[.int .i64 r1, .int .i64 r2]) ∧ Below w.heap.size w w' := by
 have HT := Aside0.mk hT
 clear hT
 have HB := Aside0.mk (Below.refl w.heap.size w)
 have H : ((text_May.f a0).bind fun t226 => (if t226 = true then ((seek_Is.f a2).bind fun t227 => (if t227 = true then (if a4 < 1 then (seek_Find.j0 k a0 a1 a2 a3 a4 true) else (seek_Find.j0 k a0 a1 a2 a3 a4 (decide (a4 > 999)))) else (seek_Find.j0 k a0 a1 a2 a3 a4 true))) else (seek_Find.j0 k a0 a1 a2 a3 a4 true))) = some (r1, r2) := h
 clear h
 have HC6 := Aside0.mk H
 clear H
 go_enter Tryd.func89, Tryd.ntmps89
 go_upto_region 1 with (fail)
 go_cut [32] (fun v32 wc => ∃ (kq : Nat) (x32_5 : Bool), v32 = .bool x32_5 ∧ Aside0 (seek_Find.j0 kq a0 a1 a2 a3 a4 x32_5 = some (r1, r2)) ∧ Aside0 (kq ≤ k) ∧ Aside0 (Below w.heap.size w wc))
 case first =>
  have H := HC6.out
  clear HC6
  replace H := Option.bind_eq_some_iff.mp H
  obtain ⟨t226, A70, H⟩ := H
  (try dsimp only at H)
  have A7 := Aside0.mk A70
  clear A70
  by_cases c8 : t226 = true
  rotate_left
  ·
   replace c8 := Bool.eq_false_iff.mpr c8
   subst c8
   have H1 : (seek_Find.j0 k a0 a1 a2 a3 a4 true) = some (r1, r2) := by rw [if_neg (show ¬ (false = true) by decide)] at H; exact H
   clear H
   have H := H1
   clear H1
   have H' := Aside0.mk H
   clear H
   go_wp2_with (first | ((with_reducible refine gate_callee (f := 27) rfl ?_); refine goesL_ (some 18) rfl rfl Tryd.func27 (by kernel_rfl) rfl #[.string a0] rfl (map1 rfl) ?_; (with_reducible refine (text_May.calls a0 false _ ?side1 A7.out).mono ?_); (case side1 => exact Tabs.below HT.out (by repeat with_reducible first | exact HB.out | apply pw_below_drewN | apply below_drew1 | apply below_alloc)); rintro e w18 ⟨rfl, hb⟩; refine ⟨_, rfl, ?_⟩; have n0_ := Aside0.mk (below_step (by repeat with_reducible first | exact HB.out | apply pw_below_drewN | apply below_drew1 | apply below_alloc) hb); clear HB; have HB := n0_; clear n0_; (try clear hb); (try clear hb2); (try clear hk); (try clear hi)))
   go_meet
   case rel => exact ⟨_, (true), (by first | rfl | (simp; done) | (simp [*]; done)), H', ⟨by first | omega | exact Nat.le_refl _⟩, ⟨by repeat with_reducible first | exact HB.out | apply pw_below_drewN | apply below_drew1 | apply below_alloc⟩⟩
  subst c8
  have H1 : ((seek_Is.f a2).bind fun t227 => (if t227 = true then (if a4 < 1 then (seek_Find.j0 k a0 a1 a2 a3 a4 true) else (seek_Find.j0 k a0 a1 a2 a3 a4 (decide (a4 > 999)))) else (seek_Find.j0 k a0 a1 a2 a3 a4 true))) = some (r1, r2) := by rw [if_pos rfl] at H; exact H
  clear H
  have H := H1
  clear H1
  replace H := Option.bind_eq_some_iff.mp H
  obtain ⟨t227, A90, H⟩ := H
  (try dsimp only at H)
  have A9 := Aside0.mk A90
  clear A90
  by_cases c10 : t227 = true
  rotate_left
  ·
   replace c10 := Bool.eq_false_iff.mpr c10
   subst c10
   have H1 : (seek_Find.j0 k a0 a1 a2 a3 a4 true) = some (r1, r2) := by rw [if_neg (show ¬ (false = true) by decide)] at H; exact H
   clear H
   have H := H1
   clear H1
   have H' := Aside0.mk H
   clear H
   go_wp2_with (first | ((with_reducible refine gate_callee (f := 27) rfl ?_); refine goesL_ (some 18) rfl rfl Tryd.func27 (by kernel_rfl) rfl #[.string a0] rfl (map1 rfl) ?_; (with_reducible refine (text_May.calls a0 true _ ?side1 A7.out).mono ?_); (case side1 => exact Tabs.below HT.out (by repeat with_reducible first | exact HB.out | apply pw_below_drewN | apply below_drew1 | apply below_alloc)); rintro e w16 ⟨rfl, hb⟩; refine ⟨_, rfl, ?_⟩; have n0_ := Aside0.mk (below_step (by repeat with_reducible first | exact HB.out | apply pw_below_drewN | apply below_drew1 | apply below_alloc) hb); clear HB; have HB := n0_; clear n0_; (try clear hb); (try clear hb2); (try clear hk); (try clear hi)) | (go_at_call 39; (with_reducible refine (seek_Is.calls a2 false _ A9.out).mono ?_); rintro e w17 ⟨rfl, hb⟩; have n0_ := Aside0.mk (below_step (by repeat with_reducible first | exact HB.out | apply pw_below_drewN | apply below_drew1 | apply below_alloc) hb); clear HB; have HB := n0_; clear n0_; (try clear hb); (try clear hb2); (try clear hk); (try clear hi)))
   go_meet
   case rel => exact ⟨_, (true), (by first | rfl | (simp; done) | (simp [*]; done)), H', ⟨by first | omega | exact Nat.le_refl _⟩, ⟨by repeat with_reducible first | exact HB.out | apply pw_below_drewN | apply below_drew1 | apply below_alloc⟩⟩
  subst c10
  have H1 : (if a4 < 1 then (seek_Find.j0 k a0 a1 a2 a3 a4 true) else (seek_Find.j0 k a0 a1 a2 a3 a4 (decide (a4 > 999)))) = some (r1, r2) := by rw [if_pos rfl] at H; exact H
  clear H
  have H := H1
  clear H1
  by_cases c11 : a4 < 1
  ·
   rw [if_pos c11] at H
   have c11b0 := decide_eq_true c11
   clear c11
   (first | rw [c11b0] | (simp only [i64_w, i32_w]; rw [c11b0]) | skip)
   have H' := Aside0.mk H
   clear H
   go_wp2_with (first | ((with_reducible refine gate_callee (f := 27) rfl ?_); refine goesL_ (some 18) rfl rfl Tryd.func27 (by kernel_rfl) rfl #[.string a0] rfl (map1 rfl) ?_; (with_reducible refine (text_May.calls a0 true _ ?side1 A7.out).mono ?_); (case side1 => exact Tabs.below HT.out (by repeat with_reducible first | exact HB.out | apply pw_below_drewN | apply below_drew1 | apply below_alloc)); rintro e w12 ⟨rfl, hb⟩; refine ⟨_, rfl, ?_⟩; have n0_ := Aside0.mk (below_step (by repeat with_reducible first | exact HB.out | apply pw_below_drewN | apply below_drew1 | apply below_alloc) hb); clear HB; have HB := n0_; clear n0_; (try clear hb); (try clear hb2); (try clear hk); (try clear hi)) | (go_at_call 39; (with_reducible refine (seek_Is.calls a2 true _ A9.out).mono ?_); rintro e w13 ⟨rfl, hb⟩; have n0_ := Aside0.mk (below_step (by repeat with_reducible first | exact HB.out | apply pw_below_drewN | apply below_drew1 | apply below_alloc) hb); clear HB; have HB := n0_; clear n0_; (try clear hb); (try clear hb2); (try clear hk); (try clear hi)))
   go_meet
   case rel => exact ⟨_, (true), (by first | rfl | (simp; done) | (simp [*]; done)), H', ⟨by first | omega | exact Nat.le_refl _⟩, ⟨by repeat with_reducible first | exact HB.out | apply pw_below_drewN | apply below_drew1 | apply below_alloc⟩⟩
  rw [if_neg c11] at H
  have c11b0 := decide_eq_false c11
  clear c11
  (first | rw [c11b0] | (simp only [i64_w, i32_w]; rw [c11b0]) | skip)
  have H' := Aside0.mk H
  clear H
  go_wp2_with (first | ((with_reducible refine gate_callee (f := 27) rfl ?_); refine goesL_ (some 18) rfl rfl Tryd.func27 (by kernel_rfl) rfl #[.string a0] rfl (map1 rfl) ?_; (with_reducible refine (text_May.calls a0 true _ ?side1 A7.out).mono ?_); (case side1 => exact Tabs.below HT.out (by repeat with_reducible first | exact HB.out | apply pw_below_drewN | apply below_drew1 | apply below_alloc)); rintro e w14 ⟨rfl, hb⟩; refine ⟨_, rfl, ?_⟩; have n0_ := Aside0.mk (below_step (by repeat with_reducible first | exact HB.out | apply pw_below_drewN | apply below_drew1 | apply below_alloc) hb); clear HB; have HB := n0_; clear n0_; (try clear hb); (try clear hb2); (try clear hk); (try clear hi)) | (go_at_call 39; (with_reducible refine (seek_Is.calls a2 true _ A9.out).mono ?_); rintro e w15 ⟨rfl, hb⟩; have n0_ := Aside0.mk (below_step (by repeat with_reducible first | exact HB.out | apply pw_below_drewN | apply below_drew1 | apply below_alloc) hb); clear HB; have HB := n0_; clear n0_; (try clear hb); (try clear hb2); (try clear hk); (try clear hi)))
  go_meet
  case rel => exact ⟨_, (decide (a4 > 999)), (by first | rfl | (simp; done) | (simp [*]; done)), H', ⟨by first | omega | exact Nat.le_refl _⟩, ⟨by repeat with_reducible first | exact HB.out | apply pw_below_drewN | apply below_drew1 | apply below_alloc⟩⟩
 case rest =>
  clear HC6
  obtain ⟨kq, x32_5, rfl, HA, HJ5, HB⟩ := hcut
  cases kq with
  | zero => exact absurd HA.out (by simp [seek_Find.j0])
  | succ kj5 =>
   have H := HA.out
   clear HA
   simp only [seek_Find.j0] at H
   by_cases c19 : x32_5 = true
   ·
    subst c19
    have H1 : (some (0, 1)) = some (r1, r2) := by rw [if_pos rfl] at H; exact H
    clear H
    have H := H1
    clear H1
    simp only [Option.some.injEq, Prod.mk.injEq] at H
    obtain ⟨rfl, rfl⟩ := H
    go_wp2
    go_ret2
    exact ⟨by first | rfl | (simp [errW_none, errW_some] <;> rfl) | (simp [*, errW_none, errW_some] <;> rfl), by repeat with_reducible first | exact HB.out | apply pw_below_drewN | apply below_drew1 | apply below_alloc⟩
   replace c19 := Bool.eq_false_iff.mpr c19
   subst c19
   have H1 : ((text_Of.f kj5 a0).bind fun bt228 => ((text_Map_Is.f bt228.1 bt228.2 a1).bind fun t235 => (if t235 = true then ((text_Map_Row.f kj5 bt228.1 bt228.2 a1).bind fun t236 => (if a2 = 70 then (seek_Find.j1 kj5 a1 a2 a3 a4 t236 1 0 true bt228.1 bt228.2) else (seek_Find.j1 kj5 a1 a2 a3 a4 t236 1 0 (a2 == 84) bt228.1 bt228.2))) else (some (0, 1))))) = some (r1, r2) := by rw [if_neg (show ¬ (false = true) by decide)] at H; exact H
   clear H
   have H := H1
   clear H1
   replace H := Option.bind_eq_some_iff.mp H
   obtain ⟨⟨t228, t231⟩, A200, H⟩ := H
   (try dsimp only at H)
   have A20 := Aside0.mk A200
   clear A200
   replace H := Option.bind_eq_some_iff.mp H
   obtain ⟨t235, A210, H⟩ := H
   (try dsimp only at H)
   have A21 := Aside0.mk A210
   clear A210
   by_cases c22 : t235 = true
   rotate_left
   ·
    replace c22 := Bool.eq_false_iff.mpr c22
    subst c22
    have H1 : (some (0, 1)) = some (r1, r2) := by rw [if_neg (show ¬ (false = true) by decide)] at H; exact H
    clear H
    have H := H1
    clear H1
    simp only [Option.some.injEq, Prod.mk.injEq] at H
    obtain ⟨rfl, rfl⟩ := H
    go_wp2_with (first | ((with_reducible refine gate_callee (f := 28) rfl ?_); refine goesL_ (some 34) rfl rfl Tryd.func28 (by kernel_rfl) rfl #[.string a0] rfl (map1 rfl) ?_; (with_reducible refine (text_Of.calls kj5 a0 t228 t231 _ A20.out).mono ?_); rintro e w52 ⟨v229, v232, gb234, rfl, ho0, ho1, ⟨hx234_, hz234_⟩, hb⟩; refine ⟨_, rfl, ?_⟩; have n0_ := Aside0.mk (Kd.R_lower ho0 (below_size (by repeat with_reducible first | exact HB.out | apply pw_below_drewN | apply below_drew1 | apply below_alloc))); have n1_ := Aside0.mk (Kd.R_lower ho1 (below_size (by repeat with_reducible first | exact HB.out | apply pw_below_drewN | apply below_drew1 | apply below_alloc))); have n2_ := Aside0.mk (hx234_); have n3_ := Aside0.mk ((Nat.le_trans (below_size (by repeat with_reducible first | exact HB.out | apply pw_below_drewN | apply below_drew1 | apply below_alloc)) hz234_ : w.heap.size ≤ gb234)); have n4_ := Aside0.mk ((Nat.le_trans (below_size (by repeat with_reducible first | exact HB.out | apply pw_below_drewN | apply below_drew1 | apply below_alloc)) hz234_ : w.heap.size ≤ gb234)); have n5_ := Aside0.mk (below_step (by repeat with_reducible first | exact HB.out | apply pw_below_drewN | apply below_drew1 | apply below_alloc) hb); clear HB; have HO230 := n0_; have HO233 := n1_; have BK234 := n2_; have GW234 := n3_; have GE234 := n4_; have HB := n5_; clear n0_ n1_ n2_ n3_ n4_ n5_; (try clear hb); (try clear hb2); (try clear hk); (try clear hi); (try clear ho0); (try clear ho1); (try clear hx234_ hz234_); obtain ⟨Ao53, co53, eo53⟩ := Kd.R_slice HO230.out; subst eo53; obtain ⟨Ao54, co54, eo54⟩ := Kd.R_slice HO233.out; subst eo54) | ((with_reducible refine gate_callee (f := 29) rfl ?_); refine goesL_ (some 37) rfl rfl Tryd.func29 (by kernel_rfl) rfl #[.pointer (some ⟨gb234, 0, none⟩), .int .i64 a1] rfl (map2 rfl rfl) ?_; (with_reducible refine (text_Map_Is.calls gb234 Ao53 co53 t228 Ao54 co54 t231 a1 false _ ?side1 ?side2 ?side3 ?side4 ?side5 A21.out).mono ?_); (case side1 => exact BK234.out); (case side2 => repeat (first | exact (Kd.R_reads' HO230.out).2.2 | with_reducible first | refine Kd.C_drewN ?_ _ | refine Kd.C_drew ?_ | refine Kd.C_alloc ?_ _)); (case side3 => exact (Kd.R_reads' HO230.out).2.1); (case side4 => repeat (first | exact (Kd.R_reads' HO233.out).2.2 | with_reducible first | refine Kd.C_drewN ?_ _ | refine Kd.C_drew ?_ | refine Kd.C_alloc ?_ _)); (case side5 => exact (Kd.R_reads' HO233.out).2.1); rintro e w' ⟨rfl, ⟨nd, rfl⟩⟩; refine ⟨_, rfl, ?_⟩))
    go_ret2
    exact ⟨by first | rfl | (simp [errW_none, errW_some] <;> rfl) | (simp [*, errW_none, errW_some] <;> rfl), by repeat with_reducible first | exact HB.out | apply pw_below_drewN | apply below_drew1 | apply below_alloc⟩
   subst c22
   have H1 : ((text_Map_Row.f kj5 t228 t231 a1).bind fun t236 => (if a2 = 70 then (seek_Find.j1 kj5 a1 a2 a3 a4 t236 1 0 true t228 t231) else (seek_Find.j1 kj5 a1 a2 a3 a4 t236 1 0 (a2 == 84) t228 t231))) = some (r1, r2) := by rw [if_pos rfl] at H; exact H
   clear H
   have H := H1
   clear H1
   replace H := Option.bind_eq_some_iff.mp H
   obtain ⟨t236, A230, H⟩ := H
   (try dsimp only at H)
   have A23 := Aside0.mk A230
   clear A230
   have HC24 := Aside0.mk H
   clear H
   go_upto_region 8 with (first | ((with_reducible refine gate_callee (f := 28) rfl ?_); refine goesL_ (some 34) rfl rfl Tryd.func28 (by kernel_rfl) rfl #[.string a0] rfl (map1 rfl) ?_; (with_reducible refine (text_Of.calls kj5 a0 t228 t231 _ A20.out).mono ?_); rintro e w25 ⟨v229, v232, gb234, rfl, ho0, ho1, ⟨hx234_, hz234_⟩, hb⟩; refine ⟨_, rfl, ?_⟩; have n0_ := Aside0.mk (Kd.R_lower ho0 (below_size (by repeat with_reducible first | exact HB.out | apply pw_below_drewN | apply below_drew1 | apply below_alloc))); have n1_ := Aside0.mk (Kd.R_lower ho1 (below_size (by repeat with_reducible first | exact HB.out | apply pw_below_drewN | apply below_drew1 | apply below_alloc))); have n2_ := Aside0.mk (hx234_); have n3_ := Aside0.mk ((Nat.le_trans (below_size (by repeat with_reducible first | exact HB.out | apply pw_below_drewN | apply below_drew1 | apply below_alloc)) hz234_ : w.heap.size ≤ gb234)); have n4_ := Aside0.mk ((Nat.le_trans (below_size (by repeat with_reducible first | exact HB.out | apply pw_below_drewN | apply below_drew1 | apply below_alloc)) hz234_ : w.heap.size ≤ gb234)); have n5_ := Aside0.mk (below_step (by repeat with_reducible first | exact HB.out | apply pw_below_drewN | apply below_drew1 | apply below_alloc) hb); clear HB; have HO230 := n0_; have HO233 := n1_; have BK234 := n2_; have GW234 := n3_; have GE234 := n4_; have HB := n5_; clear n0_ n1_ n2_ n3_ n4_ n5_; (try clear hb); (try clear hb2); (try clear hk); (try clear hi); (try clear ho0); (try clear ho1); (try clear hx234_ hz234_); obtain ⟨Ao26, co26, eo26⟩ := Kd.R_slice HO230.out; subst eo26; obtain ⟨Ao27, co27, eo27⟩ := Kd.R_slice HO233.out; subst eo27) | ((with_reducible refine gate_callee (f := 29) rfl ?_); refine goesL_ (some 37) rfl rfl Tryd.func29 (by kernel_rfl) rfl #[.pointer (some ⟨gb234, 0, none⟩), .int .i64 a1] rfl (map2 rfl rfl) ?_; (with_reducible refine (text_Map_Is.calls gb234 Ao26 co26 t228 Ao27 co27 t231 a1 true _ ?side1 ?side2 ?side3 ?side4 ?side5 A21.out).mono ?_); (case side1 => exact BK234.out); (case side2 => repeat (first | exact (Kd.R_reads' HO230.out).2.2 | with_reducible first | refine Kd.C_drewN ?_ _ | refine Kd.C_drew ?_ | refine Kd.C_alloc ?_ _)); (case side3 => exact (Kd.R_reads' HO230.out).2.1); (case side4 => repeat (first | exact (Kd.R_reads' HO233.out).2.2 | with_reducible first | refine Kd.C_drewN ?_ _ | refine Kd.C_drew ?_ | refine Kd.C_alloc ?_ _)); (case side5 => exact (Kd.R_reads' HO233.out).2.1); rintro e w' ⟨rfl, ⟨nd, rfl⟩⟩; refine ⟨_, rfl, ?_⟩) | ((with_reducible refine gate_callee (f := 49) rfl ?_); refine goesL_ (some 41) rfl rfl Tryd.func49 (by kernel_rfl) rfl #[.pointer (some ⟨gb234, 0, none⟩), .int .i64 a1] rfl (map2 rfl rfl) ?_; (with_reducible refine (text_Map_Row.calls kj5 gb234 Ao26 co26 t228 Ao27 co27 t231 a1 t236 _ ?side1 ?side2 ?side3 ?side4 ?side5 A23.out).mono ?_); (case side1 => exact BK234.out); (case side2 => repeat (first | exact (Kd.R_reads' HO230.out).2.2 | with_reducible first | refine Kd.C_drewN ?_ _ | refine Kd.C_drew ?_ | refine Kd.C_alloc ?_ _)); (case side3 => exact (Kd.R_reads' HO230.out).2.1); (case side4 => repeat (first | exact (Kd.R_reads' HO233.out).2.2 | with_reducible first | refine Kd.C_drewN ?_ _ | refine Kd.C_drew ?_ | refine Kd.C_alloc ?_ _)); (case side5 => exact (Kd.R_reads' HO233.out).2.1); rintro e w' ⟨rfl, ⟨nd, rfl⟩⟩; refine ⟨_, rfl, ?_⟩))
   (try simp only [Act.put, List.setIfInBounds_toArray, List.set_cons_zero, List.set_cons_succ])
   go_cut [47] (fun v47 wc => ∃ (kq : Nat) (x47_23 : Bool), v47 = .bool x47_23 ∧ Aside0 (seek_Find.j1 kq a1 a2 a3 a4 t236 1 0 x47_23 t228 t231 = some (r1, r2)) ∧ Aside0 (kq ≤ kj5) ∧ Aside0 (Kd.R (Kd.int .i32) 21 wc w.heap.size (fun _ => True) (.slice Ao26 t228.length co26) t228) ∧ Aside0 (Kd.R (Kd.int .i64) 3 wc w.heap.size (fun _ => True) (.slice Ao27 t231.length co27) t231) ∧ Aside0 (wc.heap[gb234]? = some (.cells #[(.slice Ao26 t228.length co26), (.slice Ao27 t231.length co27)] 79 (0, 0))) ∧ Aside0 (Below w.heap.size w wc))
   case first =>
    have H := HC24.out
    clear HC24
    by_cases c28 : a2 = 70
    rotate_left
    ·
     rw [if_neg c28] at H
     have c28b0 : (a2 == 70) = false := beq_eq_false_iff_ne.mpr c28
     have c28b1 : (a2 != 70) = true := bne_iff_ne.mpr c28
     (first | rw [c28b0] | (simp only [i64_w, i32_w]; rw [c28b0]) | skip)
     have H' := Aside0.mk H
     clear H
     go_wp2
     go_meet
     case rel => exact ⟨_, ((a2 == 84)), (by first | rfl | (simp; done) | (simp [*]; done)), H', ⟨by have := HJ5.out; first | omega | exact Nat.le_refl _⟩, ⟨by (with_reducible repeat (first | apply Kd.R_alloc | apply Kd.R_drewN | apply Kd.R_drew)); exact HO230.out⟩, ⟨by (with_reducible repeat (first | apply Kd.R_alloc | apply Kd.R_drewN | apply Kd.R_drew)); exact HO233.out⟩, ⟨BK234.out⟩, ⟨by repeat with_reducible first | exact HB.out | apply pw_below_drewN | apply below_drew1 | apply below_alloc⟩⟩
    rw [if_pos c28] at H
    have c28b0 : (a2 == 70) = true := beq_iff_eq.mpr c28
    have c28b1 : (a2 != 70) = false := bne_eq_false_iff_eq.mpr c28
    clear c28
    (first | rw [c28b0] | (simp only [i64_w, i32_w]; rw [c28b0]) | skip)
    have H' := Aside0.mk H
    clear H
    go_wp2
    go_meet
    case rel => exact ⟨_, (true), (by first | rfl | (simp; done) | (simp [*]; done)), H', ⟨by have := HJ5.out; first | omega | exact Nat.le_refl _⟩, ⟨by (with_reducible repeat (first | apply Kd.R_alloc | apply Kd.R_drewN | apply Kd.R_drew)); exact HO230.out⟩, ⟨by (with_reducible repeat (first | apply Kd.R_alloc | apply Kd.R_drewN | apply Kd.R_drew)); exact HO233.out⟩, ⟨BK234.out⟩, ⟨by repeat with_reducible first | exact HB.out | apply pw_below_drewN | apply below_drew1 | apply below_alloc⟩⟩
   case rest =>
    clear HC24
    try clear c19
    try clear c22
    obtain ⟨kq, x47_23, rfl, HA, HJ23, HO_235000, HO_235001, BK234, HB⟩ := hcut
    cases kq with
    | zero => exact absurd HA.out (by simp [seek_Find.j1])
    | succ kj23 =>
     have H := HA.out
     clear HA
     simp only [seek_Find.j1] at H
     have HC29 := Aside0.mk H
     clear H
     go_upto_if 47 with (fail)
     go_cut [14] (fun v14 wc => ∃ (kq : Nat) (x14_28 : Int), v14 = .int .i64 x14_28 ∧ Aside0 (seek_Find.j2 kq a1 a2 a3 a4 t236 x14_28 0 t228 t231 = some (r1, r2)) ∧ Aside0 (kq ≤ kj23) ∧ Aside0 (Kd.R (Kd.int .i32) 21 wc w.heap.size (fun _ => True) (.slice Ao26 t228.length co26) t228) ∧ Aside0 (Kd.R (Kd.int .i64) 3 wc w.heap.size (fun _ => True) (.slice Ao27 t231.length co27) t231) ∧ Aside0 (wc.heap[gb234]? = some (.cells #[(.slice Ao26 t228.length co26), (.slice Ao27 t231.length co27)] 79 (0, 0))) ∧ Aside0 (Below w.heap.size w wc))
     case first =>
      have H := HC29.out
      clear HC29
      by_cases c30 : x47_23 = true
      ·
       subst c30
       have H1 : (seek_Find.j2 kj23 a1 a2 a3 a4 t236 (-1) 0 t228 t231) = some (r1, r2) := by rw [if_pos rfl] at H; exact H
       clear H
       have H := H1
       clear H1
       have H' := Aside0.mk H
       clear H
       go_wp2
       go_meet
       case rel => exact ⟨_, ((-1)), (by first | rfl | (simp; done) | (simp [*]; done)), H', ⟨by have := HJ5.out; have := HJ23.out; first | omega | exact Nat.le_refl _⟩, ⟨by (with_reducible repeat (first | apply Kd.R_alloc | apply Kd.R_drewN | apply Kd.R_drew)); exact HO_235000.out⟩, ⟨by (with_reducible repeat (first | apply Kd.R_alloc | apply Kd.R_drewN | apply Kd.R_drew)); exact HO_235001.out⟩, ⟨BK234.out⟩, ⟨by repeat with_reducible first | exact HB.out | apply pw_below_drewN | apply below_drew1 | apply below_alloc⟩⟩
      replace c30 := Bool.eq_false_iff.mpr c30
      subst c30
      have H1 : (seek_Find.j2 kj23 a1 a2 a3 a4 t236 1 0 t228 t231) = some (r1, r2) := by rw [if_neg (show ¬ (false = true) by decide)] at H; exact H
      clear H
      have H := H1
      clear H1
      have H' := Aside0.mk H
      clear H
      go_wp2
      go_meet
      case rel => exact ⟨_, (1), (by first | rfl | (simp; done) | (simp [*]; done)), H', ⟨by have := HJ5.out; have := HJ23.out; first | omega | exact Nat.le_refl _⟩, ⟨by (with_reducible repeat (first | apply Kd.R_alloc | apply Kd.R_drewN | apply Kd.R_drew)); exact HO_235000.out⟩, ⟨by (with_reducible repeat (first | apply Kd.R_alloc | apply Kd.R_drewN | apply Kd.R_drew)); exact HO_235001.out⟩, ⟨BK234.out⟩, ⟨by repeat with_reducible first | exact HB.out | apply pw_below_drewN | apply below_drew1 | apply below_alloc⟩⟩
     case rest =>
      clear HC29
      try clear c19
      try clear c22
      obtain ⟨kq, x14_28, rfl, HA, HJ28, HO_235000, HO_235001, BK234, HB⟩ := hcut
      cases kq with
      | zero => exact absurd HA.out (by simp [seek_Find.j2])
      | succ kj28 =>
       have H := HA.out
       clear HA
       simp only [seek_Find.j2] at H
       have HC31 := Aside0.mk H
       clear H
       go_upto_region 10 with (fail)
       go_cut [53] (fun v53 wc => ∃ (kq : Nat) (x53_30 : Bool), v53 = .bool x53_30 ∧ Aside0 (seek_Find.j3 kq a1 a3 a4 t236 x14_28 0 x53_30 t228 t231 = some (r1, r2)) ∧ Aside0 (kq ≤ kj28) ∧ Aside0 (Kd.R (Kd.int .i32) 21 wc w.heap.size (fun _ => True) (.slice Ao26 t228.length co26) t228) ∧ Aside0 (Kd.R (Kd.int .i64) 3 wc w.heap.size (fun _ => True) (.slice Ao27 t231.length co27) t231) ∧ Aside0 (wc.heap[gb234]? = some (.cells #[(.slice Ao26 t228.length co26), (.slice Ao27 t231.length co27)] 79 (0, 0))) ∧ Aside0 (Below w.heap.size w wc))
       case first =>
        have H := HC31.out
        clear HC31
        by_cases c32 : a2 = 116
        rotate_left
        ·
         rw [if_neg c32] at H
         have c32b0 : (a2 == 116) = false := beq_eq_false_iff_ne.mpr c32
         have c32b1 : (a2 != 116) = true := bne_iff_ne.mpr c32
         (first | rw [c32b0] | (simp only [i64_w, i32_w]; rw [c32b0]) | skip)
         have H' := Aside0.mk H
         clear H
         go_wp2
         go_meet
         case rel => exact ⟨_, ((a2 == 84)), (by first | rfl | (simp; done) | (simp [*]; done)), H', ⟨by have := HJ5.out; have := HJ23.out; have := HJ28.out; first | omega | exact Nat.le_refl _⟩, ⟨by (with_reducible repeat (first | apply Kd.R_alloc | apply Kd.R_drewN | apply Kd.R_drew)); exact HO_235000.out⟩, ⟨by (with_reducible repeat (first | apply Kd.R_alloc | apply Kd.R_drewN | apply Kd.R_drew)); exact HO_235001.out⟩, ⟨BK234.out⟩, ⟨by repeat with_reducible first | exact HB.out | apply pw_below_drewN | apply below_drew1 | apply below_alloc⟩⟩
        rw [if_pos c32] at H
        have c32b0 : (a2 == 116) = true := beq_iff_eq.mpr c32
        have c32b1 : (a2 != 116) = false := bne_eq_false_iff_eq.mpr c32
        clear c32
        (first | rw [c32b0] | (simp only [i64_w, i32_w]; rw [c32b0]) | skip)
        have H' := Aside0.mk H
        clear H
        go_wp2
        go_meet
        case rel => exact ⟨_, (true), (by first | rfl | (simp; done) | (simp [*]; done)), H', ⟨by have := HJ5.out; have := HJ23.out; have := HJ28.out; first | omega | exact Nat.le_refl _⟩, ⟨by (with_reducible repeat (first | apply Kd.R_alloc | apply Kd.R_drewN | apply Kd.R_drew)); exact HO_235000.out⟩, ⟨by (with_reducible repeat (first | apply Kd.R_alloc | apply Kd.R_drewN | apply Kd.R_drew)); exact HO_235001.out⟩, ⟨BK234.out⟩, ⟨by repeat with_reducible first | exact HB.out | apply pw_below_drewN | apply below_drew1 | apply below_alloc⟩⟩
       case rest =>
        clear HC31
        try clear c19
        try clear c22
        obtain ⟨kq, x53_30, rfl, HA, HJ30, HO_235000, HO_235001, BK234, HB⟩ := hcut
        cases kq with
        | zero => exact absurd HA.out (by simp [seek_Find.j3])
        | succ kj30 =>
         have H := HA.out
         clear HA
         simp only [seek_Find.j3] at H
         have HC33 := Aside0.mk H
         clear H
         go_upto_if 53 with (fail)
         go_cut [15] (fun v15 wc => ∃ (kq : Nat) (x15_32 : Int), v15 = .int .i64 x15_32 ∧ Aside0 (seek_Find.j4 kq a1 a3 a4 t236 x14_28 x15_32 t228 t231 = some (r1, r2)) ∧ Aside0 (kq ≤ kj30) ∧ Aside0 (Kd.R (Kd.int .i32) 21 wc w.heap.size (fun _ => True) (.slice Ao26 t228.length co26) t228) ∧ Aside0 (Kd.R (Kd.int .i64) 3 wc w.heap.size (fun _ => True) (.slice Ao27 t231.length co27) t231) ∧ Aside0 (wc.heap[gb234]? = some (.cells #[(.slice Ao26 t228.length co26), (.slice Ao27 t231.length co27)] 79 (0, 0))) ∧ Aside0 (Below w.heap.size w wc))
         case first =>
          have H := HC33.out
          clear HC33
          by_cases c34 : x53_30 = true
          ·
           subst c34
           have H1 : (seek_Find.j4 kj30 a1 a3 a4 t236 x14_28 x14_28 t228 t231) = some (r1, r2) := by rw [if_pos rfl] at H; exact H
           clear H
           have H := H1
           clear H1
           have H' := Aside0.mk H
           clear H
           go_wp2
           go_meet
           case rel => exact ⟨_, (x14_28), (by first | rfl | (simp; done) | (simp [*]; done)), H', ⟨by have := HJ5.out; have := HJ23.out; have := HJ28.out; have := HJ30.out; first | omega | exact Nat.le_refl _⟩, ⟨by (with_reducible repeat (first | apply Kd.R_alloc | apply Kd.R_drewN | apply Kd.R_drew)); exact HO_235000.out⟩, ⟨by (with_reducible repeat (first | apply Kd.R_alloc | apply Kd.R_drewN | apply Kd.R_drew)); exact HO_235001.out⟩, ⟨BK234.out⟩, ⟨by repeat with_reducible first | exact HB.out | apply pw_below_drewN | apply below_drew1 | apply below_alloc⟩⟩
          replace c34 := Bool.eq_false_iff.mpr c34
          subst c34
          have H1 : (seek_Find.j4 kj30 a1 a3 a4 t236 x14_28 0 t228 t231) = some (r1, r2) := by rw [if_neg (show ¬ (false = true) by decide)] at H; exact H
          clear H
          have H := H1
          clear H1
          have H' := Aside0.mk H
          clear H
          go_wp2
          go_meet
          case rel => exact ⟨_, (0), (by first | rfl | (simp; done) | (simp [*]; done)), H', ⟨by have := HJ5.out; have := HJ23.out; have := HJ28.out; have := HJ30.out; first | omega | exact Nat.le_refl _⟩, ⟨by (with_reducible repeat (first | apply Kd.R_alloc | apply Kd.R_drewN | apply Kd.R_drew)); exact HO_235000.out⟩, ⟨by (with_reducible repeat (first | apply Kd.R_alloc | apply Kd.R_drewN | apply Kd.R_drew)); exact HO_235001.out⟩, ⟨BK234.out⟩, ⟨by repeat with_reducible first | exact HB.out | apply pw_below_drewN | apply below_drew1 | apply below_alloc⟩⟩
         case rest =>
          clear HC33
          try clear c19
          try clear c22
          obtain ⟨kq, x15_32, rfl, HA, HJ32, HO_235000, HO_235001, BK234, HB⟩ := hcut
          cases kq with
          | zero => exact absurd HA.out (by simp [seek_Find.j4])
          | succ kj32 =>
           have H := HA.out
           clear HA
           simp only [seek_Find.j4] at H
           have H' := Aside0.mk H
           clear H
           go_wp2
           go_loopg [4, 16] kj32 (fun kq v4 v16 w' => ∃ (x4_6 : Int) (x16_6 : Int), v4 = .int .i64 x4_6 ∧ v16 = .int .i64 x16_6 ∧ Aside0 (seek_Find.l0 kq a3 x4_6 t236 x14_28 x15_32 x16_6 t228 t231 = some (r1, r2)) ∧ Aside0 (kq ≤ kj32) ∧ Aside0 (Kd.R (Kd.int .i32) 21 w' w.heap.size (fun _ => True) (.slice Ao26 t228.length co26) t228) ∧ Aside0 (Kd.R (Kd.int .i64) 3 w' w.heap.size (fun _ => True) (.slice Ao27 t231.length co27) t231) ∧ Aside0 (w'.heap[gb234]? = some (.cells #[(.slice Ao26 t228.length co26), (.slice Ao27 t231.length co27)] 79 (0, 0))) ∧ Aside0 (Below w.heap.size w w'))
           case atStart => exact ⟨(a4), (wrap64 (a1 + x14_28)), (by first | rfl | (simp; done) | (simp [*]; done)), (by first | rfl | (simp; done) | (simp [*]; done)), H', ⟨Nat.le_refl _⟩, ⟨by (with_reducible repeat (first | apply Kd.R_alloc | apply Kd.R_drewN | apply Kd.R_drew)); exact HO_235000.out⟩, ⟨by (with_reducible repeat (first | apply Kd.R_alloc | apply Kd.R_drewN | apply Kd.R_drew)); exact HO_235001.out⟩, ⟨BK234.out⟩, ⟨by repeat with_reducible first | exact HB.out | apply pw_below_drewN | apply below_drew1 | apply below_alloc⟩⟩
           case round =>
            clear H'
            try clear c19
            try clear c22
            obtain ⟨x4_6, x16_6, rfl, rfl, HA, HK6, HO_235000, HO_235001, BK234, HB⟩ := hrel
            cases gk with
            | zero => exact absurd HA.out (by simp [seek_Find.l0])
            | succ k6 =>
             have H := HA.out
             clear HA
             simp only [seek_Find.l0] at H
             have HC35 := Aside0.mk H
             clear H
             go_upto_region 13 with (fail)
             go_cut [73] (fun v73 wc => ∃ (kq : Nat) (x73_34 : Bool), v73 = .bool x73_34 ∧ Aside0 (seek_Find.j6 kq a3 x4_6 t236 x14_28 x15_32 x16_6 x73_34 t228 t231 = some (r1, r2)) ∧ Aside0 (kq ≤ k6) ∧ Aside0 (Kd.R (Kd.int .i32) 21 wc w.heap.size (fun _ => True) (.slice Ao26 t228.length co26) t228) ∧ Aside0 (Kd.R (Kd.int .i64) 3 wc w.heap.size (fun _ => True) (.slice Ao27 t231.length co27) t231) ∧ Aside0 (wc.heap[gb234]? = some (.cells #[(.slice Ao26 t228.length co26), (.slice Ao27 t231.length co27)] 79 (0, 0))) ∧ Aside0 (Below w.heap.size w wc))
             case first =>
              have H := HC35.out
              clear HC35
              by_cases c36 : 0 ≤ t236
              rotate_left
              ·
               rw [if_neg c36] at H
               exact absurd H (by simp)
              rw [if_pos c36] at H
              have c36b0 := decide_eq_true c36
              clear c36
              (first | rw [c36b0] | (simp only [i64_w, i32_w]; rw [c36b0]) | skip)
              by_cases c37 : t236 < (t231.length : Int)
              rotate_left
              ·
               rw [if_neg c37] at H
               exact absurd H (by simp)
              rw [if_pos c37] at H
              have c37b0 := decide_eq_true c37
              clear c37
              by_cases c38 : x16_6 ≥ (rd t231 t236)
              rotate_left
              ·
               rw [if_neg c38] at H
               have c38b0 := decide_eq_false c38
               clear c38
               have H' := Aside0.mk H
               clear H
               have hcz41_0 := cz0 BK234.out
               have hcz41_1 := cz1 BK234.out
               have hfz41_0 := blk_frozen BK234.out 0
               have hfz41_1 := blk_frozen BK234.out 1
               have p237 : 0 ≤ (t236 : Int) := of_decide_eq_true (by assumption)
               have q237 : t236 < (t231.length : Int) := of_decide_eq_true (by assumption)
               obtain ⟨ad237, e237, hx237_0⟩ := Kd.at_int (Kd.R_reads' HO_235001.out).2.2 t236 p237 q237
               cases e237
               replace p237 := eq_true p237
               replace q237 := eq_true q237
               go_wp2
               go_meet
               case rel => exact ⟨_, (false), (by first | rfl | (simp; done) | (simp [*]; done)), H', ⟨by have := HJ5.out; have := HJ23.out; have := HJ28.out; have := HJ30.out; have := HJ32.out; have := HK6.out; first | omega | exact Nat.le_refl _⟩, ⟨by (with_reducible repeat (first | apply Kd.R_alloc | apply Kd.R_drewN | apply Kd.R_drew)); exact HO_235000.out⟩, ⟨by (with_reducible repeat (first | apply Kd.R_alloc | apply Kd.R_drewN | apply Kd.R_drew)); exact HO_235001.out⟩, ⟨BK234.out⟩, ⟨by repeat with_reducible first | exact HB.out | apply pw_below_drewN | apply below_drew1 | apply below_alloc⟩⟩
              rw [if_pos c38] at H
              have c38b0 := decide_eq_true c38
              clear c38
              replace H := Option.bind_eq_some_iff.mp H
              obtain ⟨t238, A390, H⟩ := H
              (try dsimp only at H)
              have A39 := Aside0.mk A390
              clear A390
              have H' := Aside0.mk H
              clear H
              have hcz40_0 := cz0 BK234.out
              have hcz40_1 := cz1 BK234.out
              have hfz40_0 := blk_frozen BK234.out 0
              have hfz40_1 := blk_frozen BK234.out 1
              have p237 : 0 ≤ (t236 : Int) := of_decide_eq_true (by assumption)
              have q237 : t236 < (t231.length : Int) := of_decide_eq_true (by assumption)
              obtain ⟨ad237, e237, hx237_0⟩ := Kd.at_int (Kd.R_reads' HO_235001.out).2.2 t236 p237 q237
              cases e237
              replace p237 := eq_true p237
              replace q237 := eq_true q237
              go_wp2_with (first | (go_at_call 50; (with_reducible refine (text_Map_End.calls gb234 Ao26 co26 t228 (some ad237) co27 t231 t236 t238 _ ?side1 ?side2 ?side3 ?side4 ?side5 A39.out).mono ?_); (case side1 => exact BK234.out); (case side2 => repeat (first | exact (Kd.R_reads' HO_235000.out).2.2 | with_reducible first | refine Kd.C_drewN ?_ _ | refine Kd.C_drew ?_ | refine Kd.C_alloc ?_ _)); (case side3 => exact (Kd.R_reads' HO_235000.out).2.1); (case side4 => repeat (first | exact (Kd.R_reads' HO_235001.out).2.2 | with_reducible first | refine Kd.C_drewN ?_ _ | refine Kd.C_drew ?_ | refine Kd.C_alloc ?_ _)); (case side5 => exact (Kd.R_reads' HO_235001.out).2.1); rintro e w' ⟨rfl, ⟨nd, rfl⟩⟩))
              go_meet
              case rel => exact ⟨_, (decide (x16_6 < t238)), (by first | rfl | (simp; done) | (simp [*]; done)), H', ⟨by have := HJ5.out; have := HJ23.out; have := HJ28.out; have := HJ30.out; have := HJ32.out; have := HK6.out; first | omega | exact Nat.le_refl _⟩, ⟨by (with_reducible repeat (first | apply Kd.R_alloc | apply Kd.R_drewN | apply Kd.R_drew)); exact HO_235000.out⟩, ⟨by (with_reducible repeat (first | apply Kd.R_alloc | apply Kd.R_drewN | apply Kd.R_drew)); exact HO_235001.out⟩, ⟨BK234.out⟩, ⟨by repeat with_reducible first | exact HB.out | apply pw_below_drewN | apply below_drew1 | apply below_alloc⟩⟩
             case rest =>
              clear HC35
              try clear c19
              try clear c22
              obtain ⟨kq, x73_34, rfl, HA, HJ34, HO_235000, HO_235001, BK234, HB⟩ := hcut
              cases kq with
              | zero => exact absurd HA.out (by simp [seek_Find.j6])
              | succ kj34 =>
               have H := HA.out
               clear HA
               simp only [seek_Find.j6] at H
               by_cases c42 : x73_34 = true
               rotate_left
               ·
                replace c42 := Bool.eq_false_iff.mpr c42
                subst c42
                have H1 : (some (0, 6)) = some (r1, r2) := by rw [if_neg (show ¬ (false = true) by decide)] at H; exact H
                clear H
                have H := H1
                clear H1
                simp only [Option.some.injEq, Prod.mk.injEq] at H
                obtain ⟨rfl, rfl⟩ := H
                go_wp2
                go_ret2
                exact ⟨by first | rfl | (simp [errW_none, errW_some] <;> rfl) | (simp [*, errW_none, errW_some] <;> rfl), by repeat with_reducible first | exact HB.out | apply pw_below_drewN | apply below_drew1 | apply below_alloc⟩
               subst c42
               have H1 : (if 0 ≤ x16_6 then (if x16_6 < (t228.length : Int) then (if (wrap64 (rd t228 x16_6)) = a3 then (if (wrap64 (x4_6 - 1)) = 0 then (some (wrap64 (x16_6 - x15_32), 0)) else (seek_Find.l0 kj34 a3 (wrap64 (x4_6 - 1)) t236 x14_28 x15_32 (wrap64 (x16_6 + x14_28)) t228 t231)) else (if x4_6 = 0 then (some (wrap64 (x16_6 - x15_32), 0)) else (seek_Find.l0 kj34 a3 x4_6 t236 x14_28 x15_32 (wrap64 (x16_6 + x14_28)) t228 t231))) else (none)) else (none)) = some (r1, r2) := by rw [if_pos rfl] at H; exact H
               clear H
               have H := H1
               clear H1
               by_cases c43 : 0 ≤ x16_6
               rotate_left
               ·
                rw [if_neg c43] at H
                exact absurd H (by simp)
               rw [if_pos c43] at H
               have c43b0 := decide_eq_true c43
               clear c43
               by_cases c44 : x16_6 < (t228.length : Int)
               rotate_left
               ·
                rw [if_neg c44] at H
                exact absurd H (by simp)
               rw [if_pos c44] at H
               have c44b0 := decide_eq_true c44
               clear c44
               by_cases c45 : (wrap64 (rd t228 x16_6)) = a3
               rotate_left
               ·
                rw [if_neg c45] at H
                have c45b0 : ((wrap64 (rd t228 x16_6)) == a3) = false := beq_eq_false_iff_ne.mpr c45
                have c45b1 : ((wrap64 (rd t228 x16_6)) != a3) = true := bne_iff_ne.mpr c45
                by_cases c49 : x4_6 = 0
                ·
                 rw [if_pos c49] at H
                 have c49b0 : (x4_6 == 0) = true := beq_iff_eq.mpr c49
                 have c49b1 : (x4_6 != 0) = false := bne_eq_false_iff_eq.mpr c49
                 clear c49
                 simp only [Option.some.injEq, Prod.mk.injEq] at H
                 obtain ⟨rfl, rfl⟩ := H
                 have hcz50_0 := cz0 BK234.out
                 have hcz50_1 := cz1 BK234.out
                 have hfz50_0 := blk_frozen BK234.out 0
                 have hfz50_1 := blk_frozen BK234.out 1
                 have p239 : 0 ≤ (x16_6 : Int) := of_decide_eq_true (by assumption)
                 have q239 : x16_6 < (t228.length : Int) := of_decide_eq_true (by assumption)
                 obtain ⟨ad239, e239, hx239_0⟩ := Kd.at_int (Kd.R_reads' HO_235000.out).2.2 x16_6 p239 q239
                 cases e239
                 replace p239 := eq_true p239
                 replace q239 := eq_true q239
                 go_wp2
                 go_ret2
                 exact ⟨by first | rfl | (simp [errW_none, errW_some] <;> rfl) | (simp [*, errW_none, errW_some] <;> rfl), by repeat with_reducible first | exact HB.out | apply pw_below_drewN | apply below_drew1 | apply below_alloc⟩
                rw [if_neg c49] at H
                have c49b0 : (x4_6 == 0) = false := beq_eq_false_iff_ne.mpr c49
                have c49b1 : (x4_6 != 0) = true := bne_iff_ne.mpr c49
                have H' := Aside0.mk H
                clear H
                have hcz51_0 := cz0 BK234.out
                have hcz51_1 := cz1 BK234.out
                have hfz51_0 := blk_frozen BK234.out 0
                have hfz51_1 := blk_frozen BK234.out 1
                have p239 : 0 ≤ (x16_6 : Int) := of_decide_eq_true (by assumption)
                have q239 : x16_6 < (t228.length : Int) := of_decide_eq_true (by assumption)
                obtain ⟨ad239, e239, hx239_0⟩ := Kd.at_int (Kd.R_reads' HO_235000.out).2.2 x16_6 p239 q239
                cases e239
                replace p239 := eq_true p239
                replace q239 := eq_true q239
                go_wp2
                go_roundg kj34
                case measure => have := HJ5.out; have := HJ23.out; have := HJ28.out; have := HJ30.out; have := HJ32.out; have := HK6.out; have := HJ34.out; omega
                case rel => exact ⟨(x4_6), (wrap64 (x16_6 + x14_28)), (by first | rfl | (simp; done) | (simp [*]; done)), (by first | rfl | (simp; done) | (simp [*]; done)), H', ⟨by have := HJ5.out; have := HJ23.out; have := HJ28.out; have := HJ30.out; have := HJ32.out; have := HK6.out; have := HJ34.out; omega⟩, ⟨by (with_reducible repeat (first | apply Kd.R_alloc | apply Kd.R_drewN | apply Kd.R_drew)); exact HO_235000.out⟩, ⟨by (with_reducible repeat (first | apply Kd.R_alloc | apply Kd.R_drewN | apply Kd.R_drew)); exact HO_235001.out⟩, ⟨BK234.out⟩, ⟨by repeat with_reducible first | exact HB.out | apply pw_below_drewN | apply below_drew1 | apply below_alloc⟩⟩
               rw [if_pos c45] at H
               have c45b0 : ((wrap64 (rd t228 x16_6)) == a3) = true := beq_iff_eq.mpr c45
               have c45b1 : ((wrap64 (rd t228 x16_6)) != a3) = false := bne_eq_false_iff_eq.mpr c45
               clear c45
               by_cases c46 : (wrap64 (x4_6 - 1)) = 0
               ·
                rw [if_pos c46] at H
                have c46b0 : ((wrap64 (x4_6 - 1)) == 0) = true := beq_iff_eq.mpr c46
                have c46b1 : ((wrap64 (x4_6 - 1)) != 0) = false := bne_eq_false_iff_eq.mpr c46
                clear c46
                simp only [Option.some.injEq, Prod.mk.injEq] at H
                obtain ⟨rfl, rfl⟩ := H
                have hcz47_0 := cz0 BK234.out
                have hcz47_1 := cz1 BK234.out
                have hfz47_0 := blk_frozen BK234.out 0
                have hfz47_1 := blk_frozen BK234.out 1
                have p239 : 0 ≤ (x16_6 : Int) := of_decide_eq_true (by assumption)
                have q239 : x16_6 < (t228.length : Int) := of_decide_eq_true (by assumption)
                obtain ⟨ad239, e239, hx239_0⟩ := Kd.at_int (Kd.R_reads' HO_235000.out).2.2 x16_6 p239 q239
                cases e239
                replace p239 := eq_true p239
                replace q239 := eq_true q239
                go_wp2
                go_ret2
                exact ⟨by first | rfl | (simp [errW_none, errW_some] <;> rfl) | (simp [*, errW_none, errW_some] <;> rfl), by repeat with_reducible first | exact HB.out | apply pw_below_drewN | apply below_drew1 | apply below_alloc⟩
               rw [if_neg c46] at H
               have c46b0 : ((wrap64 (x4_6 - 1)) == 0) = false := beq_eq_false_iff_ne.mpr c46
               have c46b1 : ((wrap64 (x4_6 - 1)) != 0) = true := bne_iff_ne.mpr c46
               have H' := Aside0.mk H
               clear H
               have hcz48_0 := cz0 BK234.out
               have hcz48_1 := cz1 BK234.out
               have hfz48_0 := blk_frozen BK234.out 0
               have hfz48_1 := blk_frozen BK234.out 1
               have p239 : 0 ≤ (x16_6 : Int) := of_decide_eq_true (by assumption)
               have q239 : x16_6 < (t228.length : Int) := of_decide_eq_true (by assumption)
               obtain ⟨ad239, e239, hx239_0⟩ := Kd.at_int (Kd.R_reads' HO_235000.out).2.2 x16_6 p239 q239
               cases e239
               replace p239 := eq_true p239
               replace q239 := eq_true q239
               go_wp2
               go_roundg kj34
               case measure => have := HJ5.out; have := HJ23.out; have := HJ28.out; have := HJ30.out; have := HJ32.out; have := HK6.out; have := HJ34.out; omega
               case rel => exact ⟨(wrap64 (x4_6 - 1)), (wrap64 (x16_6 + x14_28)), (by first | rfl | (simp; done) | (simp [*]; done)), (by first | rfl | (simp; done) | (simp [*]; done)), H', ⟨by have := HJ5.out; have := HJ23.out; have := HJ28.out; have := HJ30.out; have := HJ32.out; have := HK6.out; have := HJ34.out; omega⟩, ⟨by (with_reducible repeat (first | apply Kd.R_alloc | apply Kd.R_drewN | apply Kd.R_drew)); exact HO_235000.out⟩, ⟨by (with_reducible repeat (first | apply Kd.R_alloc | apply Kd.R_drewN | apply Kd.R_drew)); exact HO_235001.out⟩, ⟨BK234.out⟩, ⟨by repeat with_reducible first | exact HB.out | apply pw_below_drewN | apply below_drew1 | apply below_alloc⟩⟩

/-! ### move_found: function 65 -/
def move_found.f (k : Nat) (a0 : ByteArray) (a1 : Int) (a2_0 : Int) (a2_1 : Int) (a3 : Int) : Option (Int × Int × Int) := (seek_Find.f k a0 a1 a2_0 a2_1 a3).bind fun bt242 => (if a2_0 = 102 then (some (bt242.1, 1, bt242.2)) else (if a2_0 = 116 then (some (bt242.1, 1, bt242.2)) else (some (bt242.1, 0, bt242.2))))
theorem move_found.mono : ∀ a0 a1 a2 a3 a4 k, LeO (move_found.f k a0 a1 a2 a3 a4) (move_found.f (k + 1) a0 a1 a2 a3 a4) := by
  intro a0 a1 a2 a3 a4 k
  unfold move_found.f
  repeat' first | (with_reducible first | exact seek_Find.mono _ _ _ _ _ _ | exact LeO.refl _ | exact LeO.none _ | refine LeO.ite ?_ ?_ | refine LeO.bind ?_ (fun _ => ?_)) | exact seek_Find.mono _ _ _ _ _ _ | exact LeO.refl _ | exact LeO.none _ | refine LeO.ite ?_ ?_ | refine LeO.bind ?_ (fun _ => ?_)
set_option maxHeartbeats 8000000 in
set_option maxRecDepth 100000 in
theorem move_found.calls (k : Nat) (a0 : ByteArray) (a1 : Int) (a2_0 : Int) (a2_1 : Int) (a3 : Int) (r1 : Int) (r2 : Int) (r3 : Int) (w : World) (hT : Tabs w) (h : move_found.f k a0 a1 a2_0 a2_1 a3 = some (r1, r2, r3)) :
  Calls Tryd.prog 65 #[.string a0, .int .i64 a1, .agg #[.int .i64 a2_0, .int .i64 a2_1], .int .i64 a3] w fun e w' => e = .returned (.tuple #[.agg #[.int .i64 r1, .int .i64 r2], .int .i64 r3]) ∧ Below w.heap.size w w' := by
 have hu31 := Tryd.underlying31
 have hu54 := Tryd.underlying54
 have HT := Aside0.mk hT
 clear hT
 have HB := Aside0.mk (Below.refl w.heap.size w)
 have H : ((seek_Find.f k a0 a1 a2_0 a2_1 a3).bind fun bt242 => (if a2_0 = 102 then (some (bt242.1, 1, bt242.2)) else (if a2_0 = 116 then (some (bt242.1, 1, bt242.2)) else (some (bt242.1, 0, bt242.2))))) = some (r1, r2, r3) := h
 clear h
 replace H := Option.bind_eq_some_iff.mp H
 obtain ⟨⟨t242, t243⟩, A50, H⟩ := H
 (try dsimp only at H)
 have A5 := Aside0.mk A50
 clear A50
 by_cases c6 : a2_0 = 102
 ·
  rw [if_pos c6] at H
  have c6b0 : (a2_0 == 102) = true := beq_iff_eq.mpr c6
  have c6b1 : (a2_0 != 102) = false := bne_eq_false_iff_eq.mpr c6
  clear c6
  simp only [Option.some.injEq, Prod.mk.injEq] at H
  obtain ⟨rfl, rfl, rfl⟩ := H
  go_enter Tryd.func65, Tryd.ntmps65
  go_wp2_with (first | ((with_reducible refine gate_dst (N := 6) rfl ?_); refine box_event ?hg (N := 6) ?hd (cs := #[.int .i64 a2_0, .int .i64 a2_1]) (t := 31) ?hr ?_; (case hd => rfl); (case hg => rfl); (case hr => first | (go_simp; done) | (go_simp; rfl)); intro gb240 hg w7 hbox hb; have n0_ := Aside0.mk (below_step (by repeat with_reducible first | exact HB.out | apply pw_below_drewN | apply below_drew1 | apply below_alloc) hb); have n1_ := Aside0.mk (hbox); have n2_ := Aside0.mk (geb hg (by repeat with_reducible first | exact HB.out | apply pw_below_drewN | apply below_drew1 | apply below_alloc)); have n3_ := n2_; clear HB; have HB := n0_; have BK240 := n1_; have GW240 := n2_; have GE240 := n3_; clear n0_ n1_ n2_ n3_; clear hb hbox hg) | ((with_reducible refine gate_dst (N := 8) rfl ?_); refine box_event ?hg (N := 8) ?hd (cs := #[.int .i64 0, .int .i64 0]) (t := 54) ?hr ?_; (case hd => rfl); (case hg => rfl); (case hr => first | (go_simp; done) | (go_simp; rfl)); intro gb241 hg w8 hbox hb; have n0_ := Aside0.mk (blb hb BK240.out); have n1_ := Aside0.mk (below_step (by repeat with_reducible first | exact HB.out | apply pw_below_drewN | apply below_drew1 | apply below_alloc) hb); have n2_ := Aside0.mk (hbox); have n3_ := Aside0.mk (geb hg (by repeat with_reducible first | exact HB.out | apply pw_below_drewN | apply below_drew1 | apply below_alloc)); have n4_ := n3_; have n5_ := Aside0.mk ((nbl hg BK240.out)); have n6_ := Aside0.mk ((nbr hg BK240.out)); clear BK240; clear HB; have BK240 := n0_; have HB := n1_; have BK241 := n2_; have GW241 := n3_; have GE241 := n4_; have NB240_241 := n5_; have NB241_240 := n6_; clear n0_ n1_ n2_ n3_ n4_ n5_ n6_; clear hb hbox hg; have hnb9 := NB240_241.out; have hnc9 := NB241_240.out; have hcz10_0 := cz0 BK240.out; have hcz10_1 := cz1 BK240.out; have hfz10_0 := blk_frozen BK240.out 0; have hfz10_1 := blk_frozen BK240.out 1) | ((with_reducible refine gate_callee (f := 89) rfl ?_); refine goesL_ (some 21) rfl rfl Tryd.func89 (by kernel_rfl) rfl #[.string a0, .int .i64 a1, .int .i64 a2_0, .int .i64 a2_1, .int .i64 a3] rfl (map5 rfl rfl rfl rfl rfl) ?_; (with_reducible refine (seek_Find.calls k a0 a1 a2_0 a2_1 a3 t242 t243 _ ?side1 A5.out).mono ?_); (case side1 => exact Tabs.below HT.out (by repeat with_reducible first | exact HB.out | apply pw_below_drewN | apply below_drew1 | apply below_alloc)); rintro e w11 ⟨rfl, hb⟩; refine ⟨_, rfl, ?_⟩; have n0_ := Aside0.mk (blb hb BK240.out); have n1_ := Aside0.mk (blb hb BK241.out); have n2_ := Aside0.mk (below_step (by repeat with_reducible first | exact HB.out | apply pw_below_drewN | apply below_drew1 | apply below_alloc) hb); clear BK240; clear BK241; clear HB; have BK240 := n0_; have BK241 := n1_; have HB := n2_; clear n0_ n1_ n2_; (try clear hb); (try clear hb2); (try clear hk); (try clear hi)) | ((with_reducible refine gate_dst (N := 12) rfl ?_); refine box_event ?hg (N := 12) ?hd (cs := #[.int .i64 0, .int .i64 0]) (t := 54) ?hr ?_; (case hd => rfl); (case hg => rfl); (case hr => first | (go_simp; done) | (go_simp; rfl)); intro gb244 hg w12 hbox hb; have n0_ := Aside0.mk (blb hb BK240.out); have n1_ := Aside0.mk (blb hb BK241.out); have n2_ := Aside0.mk (below_step (by repeat with_reducible first | exact HB.out | apply pw_below_drewN | apply below_drew1 | apply below_alloc) hb); have n3_ := Aside0.mk (hbox); have n4_ := Aside0.mk (geb hg (by repeat with_reducible first | exact HB.out | apply pw_below_drewN | apply below_drew1 | apply below_alloc)); have n5_ := n4_; have n6_ := Aside0.mk ((nbl hg BK240.out)); have n7_ := Aside0.mk ((nbr hg BK240.out)); have n8_ := Aside0.mk ((nbl hg BK241.out)); have n9_ := Aside0.mk ((nbr hg BK241.out)); clear BK240; clear BK241; clear HB; have BK240 := n0_; have BK241 := n1_; have HB := n2_; have BK244 := n3_; have GW244 := n4_; have GE244 := n5_; have NB240_244 := n6_; have NB244_240 := n7_; have NB241_244 := n8_; have NB244_241 := n9_; clear n0_ n1_ n2_ n3_ n4_ n5_ n6_ n7_ n8_ n9_; clear hb hbox hg; have hnb13 := NB244_240.out; have hnc13 := NB240_244.out; have hnb14 := NB244_241.out; have hnc14 := NB241_244.out; have hcz15_0 := cz0 BK244.out; have hcz15_1 := cz1 BK244.out; have hfz15_0 := blk_frozen BK244.out 0; have hfz15_1 := blk_frozen BK244.out 1; have hcz16_0 := cz0 BK240.out; have hcz16_1 := cz1 BK240.out; have hfz16_0 := blk_frozen BK240.out 0; have hfz16_1 := blk_frozen BK240.out 1; have hcz17_0 := cz0 BK241.out; have hcz17_1 := cz1 BK241.out; have hfz17_0 := blk_frozen BK241.out 0; have hfz17_1 := blk_frozen BK241.out 1))
  refine bodyPost_ret (results_ct rfl _ _ gb241 54 #[.int .i64 t242, .int .i64 1] (0, 0) _ rfl (by (with_reducible repeat (first | refine blk_drewN ?_ _ | refine blk_drew ?_ | refine blk_alloc ?_ _)); refine blk_put (cs := #[.int .i64 t242, .int .i64 0]) ?_ 1 _ rfl; (with_reducible repeat (first | refine blk_drewN ?_ _ | refine blk_drew ?_ | refine blk_alloc ?_ _)); refine blk_put (cs := #[.int .i64 0, .int .i64 0]) ?_ 0 _ rfl; (with_reducible repeat (first | refine blk_drewN ?_ _ | refine blk_drew ?_ | refine blk_alloc ?_ _)); refine blk_far ?_ NB241_244.out _; (with_reducible repeat (first | refine blk_drewN ?_ _ | refine blk_drew ?_ | refine blk_alloc ?_ _)); refine blk_far ?_ NB241_244.out _; (with_reducible repeat (first | refine blk_drewN ?_ _ | refine blk_drew ?_ | refine blk_alloc ?_ _)); refine blk_far ?_ NB241_244.out _; (with_reducible repeat (first | refine blk_drewN ?_ _ | refine blk_drew ?_ | refine blk_alloc ?_ _)); exact BK241.out) Tryd.underlying54 rfl (by kernel_rfl)) rfl ?_
  exact ⟨by first | rfl | (simp [errW_none, errW_some] <;> rfl) | (simp [*, errW_none, errW_some] <;> rfl), by repeat with_reducible first | exact HB.out | apply pw_below_drewN | refine below_set ?_ GE241.out | refine below_set ?_ GE244.out | apply below_drew1 | apply below_alloc⟩
 rw [if_neg c6] at H
 have c6b0 : (a2_0 == 102) = false := beq_eq_false_iff_ne.mpr c6
 have c6b1 : (a2_0 != 102) = true := bne_iff_ne.mpr c6
 by_cases c18 : a2_0 = 116
 rotate_left
 ·
  rw [if_neg c18] at H
  have c18b0 : (a2_0 == 116) = false := beq_eq_false_iff_ne.mpr c18
  have c18b1 : (a2_0 != 116) = true := bne_iff_ne.mpr c18
  simp only [Option.some.injEq, Prod.mk.injEq] at H
  obtain ⟨rfl, rfl, rfl⟩ := H
  go_enter Tryd.func65, Tryd.ntmps65
  go_wp2_with (first | ((with_reducible refine gate_dst (N := 6) rfl ?_); refine box_event ?hg (N := 6) ?hd (cs := #[.int .i64 a2_0, .int .i64 a2_1]) (t := 31) ?hr ?_; (case hd => rfl); (case hg => rfl); (case hr => first | (go_simp; done) | (go_simp; rfl)); intro gb240 hg w30 hbox hb; have n0_ := Aside0.mk (below_step (by repeat with_reducible first | exact HB.out | apply pw_below_drewN | apply below_drew1 | apply below_alloc) hb); have n1_ := Aside0.mk (hbox); have n2_ := Aside0.mk (geb hg (by repeat with_reducible first | exact HB.out | apply pw_below_drewN | apply below_drew1 | apply below_alloc)); have n3_ := n2_; clear HB; have HB := n0_; have BK240 := n1_; have GW240 := n2_; have GE240 := n3_; clear n0_ n1_ n2_ n3_; clear hb hbox hg) | ((with_reducible refine gate_dst (N := 8) rfl ?_); refine box_event ?hg (N := 8) ?hd (cs := #[.int .i64 0, .int .i64 0]) (t := 54) ?hr ?_; (case hd => rfl); (case hg => rfl); (case hr => first | (go_simp; done) | (go_simp; rfl)); intro gb241 hg w31 hbox hb; have n0_ := Aside0.mk (blb hb BK240.out); have n1_ := Aside0.mk (below_step (by repeat with_reducible first | exact HB.out | apply pw_below_drewN | apply below_drew1 | apply below_alloc) hb); have n2_ := Aside0.mk (hbox); have n3_ := Aside0.mk (geb hg (by repeat with_reducible first | exact HB.out | apply pw_below_drewN | apply below_drew1 | apply below_alloc)); have n4_ := n3_; have n5_ := Aside0.mk ((nbl hg BK240.out)); have n6_ := Aside0.mk ((nbr hg BK240.out)); clear BK240; clear HB; have BK240 := n0_; have HB := n1_; have BK241 := n2_; have GW241 := n3_; have GE241 := n4_; have NB240_241 := n5_; have NB241_240 := n6_; clear n0_ n1_ n2_ n3_ n4_ n5_ n6_; clear hb hbox hg; have hnb32 := NB240_241.out; have hnc32 := NB241_240.out; have hcz33_0 := cz0 BK240.out; have hcz33_1 := cz1 BK240.out; have hfz33_0 := blk_frozen BK240.out 0; have hfz33_1 := blk_frozen BK240.out 1) | ((with_reducible refine gate_callee (f := 89) rfl ?_); refine goesL_ (some 21) rfl rfl Tryd.func89 (by kernel_rfl) rfl #[.string a0, .int .i64 a1, .int .i64 a2_0, .int .i64 a2_1, .int .i64 a3] rfl (map5 rfl rfl rfl rfl rfl) ?_; (with_reducible refine (seek_Find.calls k a0 a1 a2_0 a2_1 a3 t242 t243 _ ?side1 A5.out).mono ?_); (case side1 => exact Tabs.below HT.out (by repeat with_reducible first | exact HB.out | apply pw_below_drewN | apply below_drew1 | apply below_alloc)); rintro e w34 ⟨rfl, hb⟩; refine ⟨_, rfl, ?_⟩; have n0_ := Aside0.mk (blb hb BK240.out); have n1_ := Aside0.mk (blb hb BK241.out); have n2_ := Aside0.mk (below_step (by repeat with_reducible first | exact HB.out | apply pw_below_drewN | apply below_drew1 | apply below_alloc) hb); clear BK240; clear BK241; clear HB; have BK240 := n0_; have BK241 := n1_; have HB := n2_; clear n0_ n1_ n2_; (try clear hb); (try clear hb2); (try clear hk); (try clear hi)) | ((with_reducible refine gate_dst (N := 12) rfl ?_); refine box_event ?hg (N := 12) ?hd (cs := #[.int .i64 0, .int .i64 0]) (t := 54) ?hr ?_; (case hd => rfl); (case hg => rfl); (case hr => first | (go_simp; done) | (go_simp; rfl)); intro gb244 hg w35 hbox hb; have n0_ := Aside0.mk (blb hb BK240.out); have n1_ := Aside0.mk (blb hb BK241.out); have n2_ := Aside0.mk (below_step (by repeat with_reducible first | exact HB.out | apply pw_below_drewN | apply below_drew1 | apply below_alloc) hb); have n3_ := Aside0.mk (hbox); have n4_ := Aside0.mk (geb hg (by repeat with_reducible first | exact HB.out | apply pw_below_drewN | apply below_drew1 | apply below_alloc)); have n5_ := n4_; have n6_ := Aside0.mk ((nbl hg BK240.out)); have n7_ := Aside0.mk ((nbr hg BK240.out)); have n8_ := Aside0.mk ((nbl hg BK241.out)); have n9_ := Aside0.mk ((nbr hg BK241.out)); clear BK240; clear BK241; clear HB; have BK240 := n0_; have BK241 := n1_; have HB := n2_; have BK244 := n3_; have GW244 := n4_; have GE244 := n5_; have NB240_244 := n6_; have NB244_240 := n7_; have NB241_244 := n8_; have NB244_241 := n9_; clear n0_ n1_ n2_ n3_ n4_ n5_ n6_ n7_ n8_ n9_; clear hb hbox hg; have hnb36 := NB244_240.out; have hnc36 := NB240_244.out; have hnb37 := NB244_241.out; have hnc37 := NB241_244.out; have hcz38_0 := cz0 BK244.out; have hcz38_1 := cz1 BK244.out; have hfz38_0 := blk_frozen BK244.out 0; have hfz38_1 := blk_frozen BK244.out 1; have hcz39_0 := cz0 BK240.out; have hcz39_1 := cz1 BK240.out; have hfz39_0 := blk_frozen BK240.out 0; have hfz39_1 := blk_frozen BK240.out 1; have hcz40_0 := cz0 BK241.out; have hcz40_1 := cz1 BK241.out; have hfz40_0 := blk_frozen BK241.out 0; have hfz40_1 := blk_frozen BK241.out 1))
  refine bodyPost_ret (results_ct rfl _ _ gb241 54 #[.int .i64 t242, .int .i64 0] (0, 0) _ rfl (by (with_reducible repeat (first | refine blk_drewN ?_ _ | refine blk_drew ?_ | refine blk_alloc ?_ _)); refine blk_put (cs := #[.int .i64 t242, .int .i64 0]) ?_ 1 _ rfl; (with_reducible repeat (first | refine blk_drewN ?_ _ | refine blk_drew ?_ | refine blk_alloc ?_ _)); refine blk_put (cs := #[.int .i64 0, .int .i64 0]) ?_ 0 _ rfl; (with_reducible repeat (first | refine blk_drewN ?_ _ | refine blk_drew ?_ | refine blk_alloc ?_ _)); refine blk_far ?_ NB241_244.out _; (with_reducible repeat (first | refine blk_drewN ?_ _ | refine blk_drew ?_ | refine blk_alloc ?_ _)); refine blk_far ?_ NB241_244.out _; (with_reducible repeat (first | refine blk_drewN ?_ _ | refine blk_drew ?_ | refine blk_alloc ?_ _)); exact BK241.out) Tryd.underlying54 rfl (by kernel_rfl)) rfl ?_
  exact ⟨by first | rfl | (simp [errW_none, errW_some] <;> rfl) | (simp [*, errW_none, errW_some] <;> rfl), by repeat with_reducible first | exact HB.out | apply pw_below_drewN | refine below_set ?_ GE241.out | refine below_set ?_ GE244.out | apply below_drew1 | apply below_alloc⟩
 rw [if_pos c18] at H
 have c18b0 : (a2_0 == 116) = true := beq_iff_eq.mpr c18
 have c18b1 : (a2_0 != 116) = false := bne_eq_false_iff_eq.mpr c18
 clear c18
 simp only [Option.some.injEq, Prod.mk.injEq] at H
 obtain ⟨rfl, rfl, rfl⟩ := H
 go_enter Tryd.func65, Tryd.ntmps65
 go_wp2_with (first | ((with_reducible refine gate_dst (N := 6) rfl ?_); refine box_event ?hg (N := 6) ?hd (cs := #[.int .i64 a2_0, .int .i64 a2_1]) (t := 31) ?hr ?_; (case hd => rfl); (case hg => rfl); (case hr => first | (go_simp; done) | (go_simp; rfl)); intro gb240 hg w19 hbox hb; have n0_ := Aside0.mk (below_step (by repeat with_reducible first | exact HB.out | apply pw_below_drewN | apply below_drew1 | apply below_alloc) hb); have n1_ := Aside0.mk (hbox); have n2_ := Aside0.mk (geb hg (by repeat with_reducible first | exact HB.out | apply pw_below_drewN | apply below_drew1 | apply below_alloc)); have n3_ := n2_; clear HB; have HB := n0_; have BK240 := n1_; have GW240 := n2_; have GE240 := n3_; clear n0_ n1_ n2_ n3_; clear hb hbox hg) | ((with_reducible refine gate_dst (N := 8) rfl ?_); refine box_event ?hg (N := 8) ?hd (cs := #[.int .i64 0, .int .i64 0]) (t := 54) ?hr ?_; (case hd => rfl); (case hg => rfl); (case hr => first | (go_simp; done) | (go_simp; rfl)); intro gb241 hg w20 hbox hb; have n0_ := Aside0.mk (blb hb BK240.out); have n1_ := Aside0.mk (below_step (by repeat with_reducible first | exact HB.out | apply pw_below_drewN | apply below_drew1 | apply below_alloc) hb); have n2_ := Aside0.mk (hbox); have n3_ := Aside0.mk (geb hg (by repeat with_reducible first | exact HB.out | apply pw_below_drewN | apply below_drew1 | apply below_alloc)); have n4_ := n3_; have n5_ := Aside0.mk ((nbl hg BK240.out)); have n6_ := Aside0.mk ((nbr hg BK240.out)); clear BK240; clear HB; have BK240 := n0_; have HB := n1_; have BK241 := n2_; have GW241 := n3_; have GE241 := n4_; have NB240_241 := n5_; have NB241_240 := n6_; clear n0_ n1_ n2_ n3_ n4_ n5_ n6_; clear hb hbox hg; have hnb21 := NB240_241.out; have hnc21 := NB241_240.out; have hcz22_0 := cz0 BK240.out; have hcz22_1 := cz1 BK240.out; have hfz22_0 := blk_frozen BK240.out 0; have hfz22_1 := blk_frozen BK240.out 1) | ((with_reducible refine gate_callee (f := 89) rfl ?_); refine goesL_ (some 21) rfl rfl Tryd.func89 (by kernel_rfl) rfl #[.string a0, .int .i64 a1, .int .i64 a2_0, .int .i64 a2_1, .int .i64 a3] rfl (map5 rfl rfl rfl rfl rfl) ?_; (with_reducible refine (seek_Find.calls k a0 a1 a2_0 a2_1 a3 t242 t243 _ ?side1 A5.out).mono ?_); (case side1 => exact Tabs.below HT.out (by repeat with_reducible first | exact HB.out | apply pw_below_drewN | apply below_drew1 | apply below_alloc)); rintro e w23 ⟨rfl, hb⟩; refine ⟨_, rfl, ?_⟩; have n0_ := Aside0.mk (blb hb BK240.out); have n1_ := Aside0.mk (blb hb BK241.out); have n2_ := Aside0.mk (below_step (by repeat with_reducible first | exact HB.out | apply pw_below_drewN | apply below_drew1 | apply below_alloc) hb); clear BK240; clear BK241; clear HB; have BK240 := n0_; have BK241 := n1_; have HB := n2_; clear n0_ n1_ n2_; (try clear hb); (try clear hb2); (try clear hk); (try clear hi)) | ((with_reducible refine gate_dst (N := 12) rfl ?_); refine box_event ?hg (N := 12) ?hd (cs := #[.int .i64 0, .int .i64 0]) (t := 54) ?hr ?_; (case hd => rfl); (case hg => rfl); (case hr => first | (go_simp; done) | (go_simp; rfl)); intro gb244 hg w24 hbox hb; have n0_ := Aside0.mk (blb hb BK240.out); have n1_ := Aside0.mk (blb hb BK241.out); have n2_ := Aside0.mk (below_step (by repeat with_reducible first | exact HB.out | apply pw_below_drewN | apply below_drew1 | apply below_alloc) hb); have n3_ := Aside0.mk (hbox); have n4_ := Aside0.mk (geb hg (by repeat with_reducible first | exact HB.out | apply pw_below_drewN | apply below_drew1 | apply below_alloc)); have n5_ := n4_; have n6_ := Aside0.mk ((nbl hg BK240.out)); have n7_ := Aside0.mk ((nbr hg BK240.out)); have n8_ := Aside0.mk ((nbl hg BK241.out)); have n9_ := Aside0.mk ((nbr hg BK241.out)); clear BK240; clear BK241; clear HB; have BK240 := n0_; have BK241 := n1_; have HB := n2_; have BK244 := n3_; have GW244 := n4_; have GE244 := n5_; have NB240_244 := n6_; have NB244_240 := n7_; have NB241_244 := n8_; have NB244_241 := n9_; clear n0_ n1_ n2_ n3_ n4_ n5_ n6_ n7_ n8_ n9_; clear hb hbox hg; have hnb25 := NB244_240.out; have hnc25 := NB240_244.out; have hnb26 := NB244_241.out; have hnc26 := NB241_244.out; have hcz27_0 := cz0 BK244.out; have hcz27_1 := cz1 BK244.out; have hfz27_0 := blk_frozen BK244.out 0; have hfz27_1 := blk_frozen BK244.out 1; have hcz28_0 := cz0 BK240.out; have hcz28_1 := cz1 BK240.out; have hfz28_0 := blk_frozen BK240.out 0; have hfz28_1 := blk_frozen BK240.out 1; have hcz29_0 := cz0 BK241.out; have hcz29_1 := cz1 BK241.out; have hfz29_0 := blk_frozen BK241.out 0; have hfz29_1 := blk_frozen BK241.out 1))
 refine bodyPost_ret (results_ct rfl _ _ gb241 54 #[.int .i64 t242, .int .i64 1] (0, 0) _ rfl (by (with_reducible repeat (first | refine blk_drewN ?_ _ | refine blk_drew ?_ | refine blk_alloc ?_ _)); refine blk_put (cs := #[.int .i64 t242, .int .i64 0]) ?_ 1 _ rfl; (with_reducible repeat (first | refine blk_drewN ?_ _ | refine blk_drew ?_ | refine blk_alloc ?_ _)); refine blk_put (cs := #[.int .i64 0, .int .i64 0]) ?_ 0 _ rfl; (with_reducible repeat (first | refine blk_drewN ?_ _ | refine blk_drew ?_ | refine blk_alloc ?_ _)); refine blk_far ?_ NB241_244.out _; (with_reducible repeat (first | refine blk_drewN ?_ _ | refine blk_drew ?_ | refine blk_alloc ?_ _)); refine blk_far ?_ NB241_244.out _; (with_reducible repeat (first | refine blk_drewN ?_ _ | refine blk_drew ?_ | refine blk_alloc ?_ _)); refine blk_far ?_ NB241_244.out _; (with_reducible repeat (first | refine blk_drewN ?_ _ | refine blk_drew ?_ | refine blk_alloc ?_ _)); exact BK241.out) Tryd.underlying54 rfl (by kernel_rfl)) rfl ?_
 exact ⟨by first | rfl | (simp [errW_none, errW_some] <;> rfl) | (simp [*, errW_none, errW_some] <;> rfl), by repeat with_reducible first | exact HB.out | apply pw_below_drewN | refine below_set ?_ GE241.out | refine below_set ?_ GE244.out | apply below_drew1 | apply below_alloc⟩

/-! ### seek_Turned: function 90 -/
def seek_Turned.f (a0 : Int) : Option (Int × Int) := (seek_Is.f a0).bind fun t245 => (if t245 = true then (some (Go.bits .xor .i64 a0 32, 0)) else (some (0, 1)))
set_option maxHeartbeats 8000000 in
set_option maxRecDepth 100000 in
theorem seek_Turned.calls (a0 : Int) (r1 : Int) (r2 : Int) (w : World) (h : seek_Turned.f a0 = some (r1, r2)) :
  Calls Tryd.prog 90 #[.int .i64 a0] w fun e w' => e = .returned (.tuple #[.int .i64 r1, .int .i64 r2]) ∧ Below w.heap.size w w' := by
 have HB := Aside0.mk (Below.refl w.heap.size w)
 have H : ((seek_Is.f a0).bind fun t245 => (if t245 = true then (some (Go.bits .xor .i64 a0 32, 0)) else (some (0, 1)))) = some (r1, r2) := h
 clear h
 replace H := Option.bind_eq_some_iff.mp H
 obtain ⟨t245, A20, H⟩ := H
 (try dsimp only at H)
 have A2 := Aside0.mk A20
 clear A20
 by_cases c3 : t245 = true
 ·
  subst c3
  have H1 : (some (Go.bits .xor .i64 a0 32, 0)) = some (r1, r2) := by rw [if_pos rfl] at H; exact H
  clear H
  have H := H1
  clear H1
  simp only [Option.some.injEq, Prod.mk.injEq] at H
  obtain ⟨rfl, rfl⟩ := H
  go_enter Tryd.func90, Tryd.ntmps90
  go_wp2_with (first | ((with_reducible refine gate_callee (f := 39) rfl ?_); refine goesL_ (some 5) rfl rfl Tryd.func39 (by kernel_rfl) rfl #[.int .i64 a0] rfl (map1 rfl) ?_; (with_reducible refine (seek_Is.calls a0 true _ A2.out).mono ?_); rintro e w4 ⟨rfl, hb⟩; refine ⟨_, rfl, ?_⟩; have n0_ := Aside0.mk (below_step (by repeat with_reducible first | exact HB.out | apply pw_below_drewN | apply below_drew1 | apply below_alloc) hb); clear HB; have HB := n0_; clear n0_; (try clear hb); (try clear hb2); (try clear hk); (try clear hi)))
  go_ret2
  exact ⟨by first | rfl | (simp [errW_none, errW_some] <;> rfl) | (simp [*, errW_none, errW_some] <;> rfl), by repeat with_reducible first | exact HB.out | apply pw_below_drewN | apply below_drew1 | apply below_alloc⟩
 replace c3 := Bool.eq_false_iff.mpr c3
 subst c3
 have H1 : (some (0, 1)) = some (r1, r2) := by rw [if_neg (show ¬ (false = true) by decide)] at H; exact H
 clear H
 have H := H1
 clear H1
 simp only [Option.some.injEq, Prod.mk.injEq] at H
 obtain ⟨rfl, rfl⟩ := H
 go_enter Tryd.func90, Tryd.ntmps90
 go_wp2_with (first | ((with_reducible refine gate_callee (f := 39) rfl ?_); refine goesL_ (some 5) rfl rfl Tryd.func39 (by kernel_rfl) rfl #[.int .i64 a0] rfl (map1 rfl) ?_; (with_reducible refine (seek_Is.calls a0 false _ A2.out).mono ?_); rintro e w5 ⟨rfl, hb⟩; refine ⟨_, rfl, ?_⟩; have n0_ := Aside0.mk (below_step (by repeat with_reducible first | exact HB.out | apply pw_below_drewN | apply below_drew1 | apply below_alloc) hb); clear HB; have HB := n0_; clear n0_; (try clear hb); (try clear hb2); (try clear hk); (try clear hi)))
 go_ret2
 exact ⟨by first | rfl | (simp [errW_none, errW_some] <;> rfl) | (simp [*, errW_none, errW_some] <;> rfl), by repeat with_reducible first | exact HB.out | apply pw_below_drewN | apply below_drew1 | apply below_alloc⟩

/-! ### move_again: function 66 -/
def move_again.f (k : Nat) (a0 : ByteArray) (a1 : Int) (a2 : Int) (a3_0 : Int) (a3_1 : Int) (a4 : Int) : Option (Int × Int × Int) := if a3_0 = 0 then (some (0, 0, 6)) else (if a2 = 44 then ((seek_Turned.f a3_0).bind fun bt248 => ((move_found.f k a0 a1 bt248.1 a3_1 a4).bind fun bt250 => (some (bt250.1, bt250.2.1, bt250.2.2)))) else ((move_found.f k a0 a1 a3_0 a3_1 a4).bind fun bt253 => (some (bt253.1, bt253.2.1, bt253.2.2))))
theorem move_again.mono : ∀ a0 a1 a2 a3 a4 a5 k, LeO (move_again.f k a0 a1 a2 a3 a4 a5) (move_again.f (k + 1) a0 a1 a2 a3 a4 a5) := by
  intro a0 a1 a2 a3 a4 a5 k
  unfold move_again.f
  repeat' first | (with_reducible first | exact move_found.mono _ _ _ _ _ _ | exact LeO.refl _ | exact LeO.none _ | refine LeO.ite ?_ ?_ | refine LeO.bind ?_ (fun _ => ?_)) | exact move_found.mono _ _ _ _ _ _ | exact LeO.refl _ | exact LeO.none _ | refine LeO.ite ?_ ?_ | refine LeO.bind ?_ (fun _ => ?_)
set_option maxHeartbeats 8000000 in
set_option maxRecDepth 100000 in
theorem move_again.calls (k : Nat) (a0 : ByteArray) (a1 : Int) (a2 : Int) (a3_0 : Int) (a3_1 : Int) (a4 : Int) (r1 : Int) (r2 : Int) (r3 : Int) (w : World) (hT : Tabs w) (h : move_again.f k a0 a1 a2 a3_0 a3_1 a4 = some (r1, r2, r3)) :
  Calls Tryd.prog 66 #[.string a0, .int .i64 a1, .int .i64 a2, .agg #[.int .i64 a3_0, .int .i64 a3_1], .int .i64 a4] w fun e w' => e = .returned (.tuple #[.agg #[.int .i64 r1, .int .i64 r2], .int .i64 r3]) ∧ Below w.heap.size w w' := by
 have hu31 := Tryd.underlying31
 have hu54 := Tryd.underlying54
 have HT := Aside0.mk hT
 clear hT
 have HB := Aside0.mk (Below.refl w.heap.size w)
 have H : (if a3_0 = 0 then (some (0, 0, 6)) else (if a2 = 44 then ((seek_Turned.f a3_0).bind fun bt248 => ((move_found.f k a0 a1 bt248.1 a3_1 a4).bind fun bt250 => (some (bt250.1, bt250.2.1, bt250.2.2)))) else ((move_found.f k a0 a1 a3_0 a3_1 a4).bind fun bt253 => (some (bt253.1, bt253.2.1, bt253.2.2))))) = some (r1, r2, r3) := h
 clear h
 by_cases c6 : a3_0 = 0
 ·
  rw [if_pos c6] at H
  have c6b0 : (a3_0 == 0) = true := beq_iff_eq.mpr c6
  have c6b1 : (a3_0 != 0) = false := bne_eq_false_iff_eq.mpr c6
  clear c6
  simp only [Option.some.injEq, Prod.mk.injEq] at H
  obtain ⟨rfl, rfl, rfl⟩ := H
  go_enter Tryd.func66, Tryd.ntmps66
  go_wp2_with (first | ((with_reducible refine gate_dst (N := 8) rfl ?_); refine box_event ?hg (N := 8) ?hd (cs := #[.int .i64 a3_0, .int .i64 a3_1]) (t := 31) ?hr ?_; (case hd => rfl); (case hg => rfl); (case hr => first | (go_simp; done) | (go_simp; rfl)); intro gb246 hg w7 hbox hb; have n0_ := Aside0.mk (below_step (by repeat with_reducible first | exact HB.out | apply pw_below_drewN | apply below_drew1 | apply below_alloc) hb); have n1_ := Aside0.mk (hbox); have n2_ := Aside0.mk (geb hg (by repeat with_reducible first | exact HB.out | apply pw_below_drewN | apply below_drew1 | apply below_alloc)); have n3_ := n2_; clear HB; have HB := n0_; have BK246 := n1_; have GW246 := n2_; have GE246 := n3_; clear n0_ n1_ n2_ n3_; clear hb hbox hg) | ((with_reducible refine gate_dst (N := 10) rfl ?_); refine box_event ?hg (N := 10) ?hd (cs := #[.int .i64 0, .int .i64 0]) (t := 54) ?hr ?_; (case hd => rfl); (case hg => rfl); (case hr => first | (go_simp; done) | (go_simp; rfl)); intro gb247 hg w8 hbox hb; have n0_ := Aside0.mk (blb hb BK246.out); have n1_ := Aside0.mk (below_step (by repeat with_reducible first | exact HB.out | apply pw_below_drewN | apply below_drew1 | apply below_alloc) hb); have n2_ := Aside0.mk (hbox); have n3_ := Aside0.mk (geb hg (by repeat with_reducible first | exact HB.out | apply pw_below_drewN | apply below_drew1 | apply below_alloc)); have n4_ := n3_; have n5_ := Aside0.mk ((nbl hg BK246.out)); have n6_ := Aside0.mk ((nbr hg BK246.out)); clear BK246; clear HB; have BK246 := n0_; have HB := n1_; have BK247 := n2_; have GW247 := n3_; have GE247 := n4_; have NB246_247 := n5_; have NB247_246 := n6_; clear n0_ n1_ n2_ n3_ n4_ n5_ n6_; clear hb hbox hg; have hnb9 := NB246_247.out; have hnc9 := NB247_246.out; have hcz10_0 := cz0 BK246.out; have hcz10_1 := cz1 BK246.out; have hfz10_0 := blk_frozen BK246.out 0; have hfz10_1 := blk_frozen BK246.out 1; have hcz11_0 := cz0 BK247.out; have hcz11_1 := cz1 BK247.out; have hfz11_0 := blk_frozen BK247.out 0; have hfz11_1 := blk_frozen BK247.out 1))
  refine bodyPost_ret (results_ct rfl _ _ gb247 54 #[.int .i64 0, .int .i64 0] (0, 0) _ rfl (by (with_reducible repeat (first | refine blk_drewN ?_ _ | refine blk_drew ?_ | refine blk_alloc ?_ _)); refine blk_put (cs := #[.int .i64 0, .int .i64 0]) ?_ 1 _ rfl; (with_reducible repeat (first | refine blk_drewN ?_ _ | refine blk_drew ?_ | refine blk_alloc ?_ _)); refine blk_put (cs := #[.int .i64 0, .int .i64 0]) ?_ 0 _ rfl; (with_reducible repeat (first | refine blk_drewN ?_ _ | refine blk_drew ?_ | refine blk_alloc ?_ _)); exact BK247.out) Tryd.underlying54 rfl (by kernel_rfl)) rfl ?_
  exact ⟨by first | rfl | (simp [errW_none, errW_some] <;> rfl) | (simp [*, errW_none, errW_some] <;> rfl), by repeat with_reducible first | exact HB.out | apply pw_below_drewN | refine below_set ?_ GE247.out | apply below_drew1 | apply below_alloc⟩
 rw [if_neg c6] at H
 have c6b0 : (a3_0 == 0) = false := beq_eq_false_iff_ne.mpr c6
 have c6b1 : (a3_0 != 0) = true := bne_iff_ne.mpr c6
 by_cases c12 : a2 = 44
 rotate_left
 ·
  rw [if_neg c12] at H
  have c12b0 : (a2 == 44) = false := beq_eq_false_iff_ne.mpr c12
  have c12b1 : (a2 != 44) = true := bne_iff_ne.mpr c12
  replace H := Option.bind_eq_some_iff.mp H
  obtain ⟨⟨t253, t254, t255⟩, A230, H⟩ := H
  (try dsimp only at H)
  have A23 := Aside0.mk A230
  clear A230
  simp only [Option.some.injEq, Prod.mk.injEq] at H
  obtain ⟨rfl, rfl, rfl⟩ := H
  go_enter Tryd.func66, Tryd.ntmps66
  go_wp2_with (first | ((with_reducible refine gate_dst (N := 8) rfl ?_); refine box_event ?hg (N := 8) ?hd (cs := #[.int .i64 a3_0, .int .i64 a3_1]) (t := 31) ?hr ?_; (case hd => rfl); (case hg => rfl); (case hr => first | (go_simp; done) | (go_simp; rfl)); intro gb246 hg w24 hbox hb; have n0_ := Aside0.mk (below_step (by repeat with_reducible first | exact HB.out | apply pw_below_drewN | apply below_drew1 | apply below_alloc) hb); have n1_ := Aside0.mk (hbox); have n2_ := Aside0.mk (geb hg (by repeat with_reducible first | exact HB.out | apply pw_below_drewN | apply below_drew1 | apply below_alloc)); have n3_ := n2_; clear HB; have HB := n0_; have BK246 := n1_; have GW246 := n2_; have GE246 := n3_; clear n0_ n1_ n2_ n3_; clear hb hbox hg) | ((with_reducible refine gate_dst (N := 10) rfl ?_); refine box_event ?hg (N := 10) ?hd (cs := #[.int .i64 0, .int .i64 0]) (t := 54) ?hr ?_; (case hd => rfl); (case hg => rfl); (case hr => first | (go_simp; done) | (go_simp; rfl)); intro gb247 hg w25 hbox hb; have n0_ := Aside0.mk (blb hb BK246.out); have n1_ := Aside0.mk (below_step (by repeat with_reducible first | exact HB.out | apply pw_below_drewN | apply below_drew1 | apply below_alloc) hb); have n2_ := Aside0.mk (hbox); have n3_ := Aside0.mk (geb hg (by repeat with_reducible first | exact HB.out | apply pw_below_drewN | apply below_drew1 | apply below_alloc)); have n4_ := n3_; have n5_ := Aside0.mk ((nbl hg BK246.out)); have n6_ := Aside0.mk ((nbr hg BK246.out)); clear BK246; clear HB; have BK246 := n0_; have HB := n1_; have BK247 := n2_; have GW247 := n3_; have GE247 := n4_; have NB246_247 := n5_; have NB247_246 := n6_; clear n0_ n1_ n2_ n3_ n4_ n5_ n6_; clear hb hbox hg; have hnb26 := NB246_247.out; have hnc26 := NB247_246.out; have hcz27_0 := cz0 BK246.out; have hcz27_1 := cz1 BK246.out; have hfz27_0 := blk_frozen BK246.out 0; have hfz27_1 := blk_frozen BK246.out 1) | ((with_reducible refine gate_callee (f := 65) rfl ?_); refine goesL_ (some 29) rfl rfl Tryd.func65 (by kernel_rfl) rfl #[.string a0, .int .i64 a1, .agg #[.int .i64 a3_0, .int .i64 a3_1], .int .i64 a4] rfl (map4 rfl rfl rfl rfl) ?_; (with_reducible refine (move_found.calls k a0 a1 a3_0 a3_1 a4 t253 t254 t255 _ ?side1 A23.out).mono ?_); (case side1 => exact Tabs.below HT.out (by repeat with_reducible first | exact HB.out | apply pw_below_drewN | apply below_drew1 | apply below_alloc)); rintro e w28 ⟨rfl, hb⟩; refine ⟨_, rfl, ?_⟩; have n0_ := Aside0.mk (blb hb BK246.out); have n1_ := Aside0.mk (blb hb BK247.out); have n2_ := Aside0.mk (below_step (by repeat with_reducible first | exact HB.out | apply pw_below_drewN | apply below_drew1 | apply below_alloc) hb); clear BK246; clear BK247; clear HB; have BK246 := n0_; have BK247 := n1_; have HB := n2_; clear n0_ n1_ n2_; (try clear hb); (try clear hb2); (try clear hk); (try clear hi); have hcz29_0 := cz0 BK247.out; have hcz29_1 := cz1 BK247.out; have hfz29_0 := blk_frozen BK247.out 0; have hfz29_1 := blk_frozen BK247.out 1))
  refine bodyPost_ret (results_ct rfl _ _ gb247 54 #[.int .i64 t253, .int .i64 t254] (0, 0) _ rfl (by (with_reducible repeat (first | refine blk_drewN ?_ _ | refine blk_drew ?_ | refine blk_alloc ?_ _)); refine blk_put (cs := #[.int .i64 t253, .int .i64 0]) ?_ 1 _ rfl; (with_reducible repeat (first | refine blk_drewN ?_ _ | refine blk_drew ?_ | refine blk_alloc ?_ _)); refine blk_put (cs := #[.int .i64 0, .int .i64 0]) ?_ 0 _ rfl; (with_reducible repeat (first | refine blk_drewN ?_ _ | refine blk_drew ?_ | refine blk_alloc ?_ _)); exact BK247.out) Tryd.underlying54 rfl (by kernel_rfl)) rfl ?_
  exact ⟨by first | rfl | (simp [errW_none, errW_some] <;> rfl) | (simp [*, errW_none, errW_some] <;> rfl), by repeat with_reducible first | exact HB.out | apply pw_below_drewN | refine below_set ?_ GE247.out | apply below_drew1 | apply below_alloc⟩
 rw [if_pos c12] at H
 have c12b0 : (a2 == 44) = true := beq_iff_eq.mpr c12
 have c12b1 : (a2 != 44) = false := bne_eq_false_iff_eq.mpr c12
 clear c12
 replace H := Option.bind_eq_some_iff.mp H
 obtain ⟨⟨t248, t249⟩, A130, H⟩ := H
 (try dsimp only at H)
 have A13 := Aside0.mk A130
 clear A130
 replace H := Option.bind_eq_some_iff.mp H
 obtain ⟨⟨t250, t251, t252⟩, A140, H⟩ := H
 (try dsimp only at H)
 have A14 := Aside0.mk A140
 clear A140
 simp only [Option.some.injEq, Prod.mk.injEq] at H
 obtain ⟨rfl, rfl, rfl⟩ := H
 go_enter Tryd.func66, Tryd.ntmps66
 go_wp2_with (first | ((with_reducible refine gate_dst (N := 8) rfl ?_); refine box_event ?hg (N := 8) ?hd (cs := #[.int .i64 a3_0, .int .i64 a3_1]) (t := 31) ?hr ?_; (case hd => rfl); (case hg => rfl); (case hr => first | (go_simp; done) | (go_simp; rfl)); intro gb246 hg w15 hbox hb; have n0_ := Aside0.mk (below_step (by repeat with_reducible first | exact HB.out | apply pw_below_drewN | apply below_drew1 | apply below_alloc) hb); have n1_ := Aside0.mk (hbox); have n2_ := Aside0.mk (geb hg (by repeat with_reducible first | exact HB.out | apply pw_below_drewN | apply below_drew1 | apply below_alloc)); have n3_ := n2_; clear HB; have HB := n0_; have BK246 := n1_; have GW246 := n2_; have GE246 := n3_; clear n0_ n1_ n2_ n3_; clear hb hbox hg) | ((with_reducible refine gate_dst (N := 10) rfl ?_); refine box_event ?hg (N := 10) ?hd (cs := #[.int .i64 0, .int .i64 0]) (t := 54) ?hr ?_; (case hd => rfl); (case hg => rfl); (case hr => first | (go_simp; done) | (go_simp; rfl)); intro gb247 hg w16 hbox hb; have n0_ := Aside0.mk (blb hb BK246.out); have n1_ := Aside0.mk (below_step (by repeat with_reducible first | exact HB.out | apply pw_below_drewN | apply below_drew1 | apply below_alloc) hb); have n2_ := Aside0.mk (hbox); have n3_ := Aside0.mk (geb hg (by repeat with_reducible first | exact HB.out | apply pw_below_drewN | apply below_drew1 | apply below_alloc)); have n4_ := n3_; have n5_ := Aside0.mk ((nbl hg BK246.out)); have n6_ := Aside0.mk ((nbr hg BK246.out)); clear BK246; clear HB; have BK246 := n0_; have HB := n1_; have BK247 := n2_; have GW247 := n3_; have GE247 := n4_; have NB246_247 := n5_; have NB247_246 := n6_; clear n0_ n1_ n2_ n3_ n4_ n5_ n6_; clear hb hbox hg; have hnb17 := NB246_247.out; have hnc17 := NB247_246.out; have hcz18_0 := cz0 BK246.out; have hcz18_1 := cz1 BK246.out; have hfz18_0 := blk_frozen BK246.out 0; have hfz18_1 := blk_frozen BK246.out 1) | ((with_reducible refine gate_callee (f := 90) rfl ?_); refine goesL_ (some 21) rfl rfl Tryd.func90 (by kernel_rfl) rfl #[.int .i64 a3_0] rfl (map1 rfl) ?_; (with_reducible refine (seek_Turned.calls a3_0 t248 t249 _ A13.out).mono ?_); rintro e w19 ⟨rfl, hb⟩; refine ⟨_, rfl, ?_⟩; have n0_ := Aside0.mk (blb hb BK246.out); have n1_ := Aside0.mk (blb hb BK247.out); have n2_ := Aside0.mk (below_step (by repeat with_reducible first | exact HB.out | apply pw_below_drewN | apply below_drew1 | apply below_alloc) hb); clear BK246; clear BK247; clear HB; have BK246 := n0_; have BK247 := n1_; have HB := n2_; clear n0_ n1_ n2_; (try clear hb); (try clear hb2); (try clear hk); (try clear hi); have hcz20_0 := cz0 BK246.out; have hcz20_1 := cz1 BK246.out; have hfz20_0 := blk_frozen BK246.out 0; have hfz20_1 := blk_frozen BK246.out 1) | ((with_reducible refine gate_callee (f := 65) rfl ?_); refine goesL_ (some 29) rfl rfl Tryd.func65 (by kernel_rfl) rfl #[.string a0, .int .i64 a1, .agg #[.int .i64 t248, .int .i64 a3_1], .int .i64 a4] rfl (map4 rfl rfl rfl rfl) ?_; (with_reducible refine (move_found.calls k a0 a1 t248 a3_1 a4 t250 t251 t252 _ ?side1 A14.out).mono ?_); (case side1 => exact Tabs.below HT.out (by repeat with_reducible first | exact HB.out | apply pw_below_drewN | refine below_set ?_ GE246.out | apply below_drew1 | apply below_alloc)); rintro e w21 ⟨rfl, hb⟩; refine ⟨_, rfl, ?_⟩; have n0_ := Aside0.mk (blk_below (g := gb246) (o := .cells #[.int .i64 t248, .int .i64 a3_1] 31 (0, 0)) (by (with_reducible repeat (first | refine blk_drewN ?_ _ | refine blk_drew ?_ | refine blk_alloc ?_ _)); refine blk_put (cs := #[.int .i64 a3_0, .int .i64 a3_1]) ?_ 0 _ rfl; (with_reducible repeat (first | refine blk_drewN ?_ _ | refine blk_drew ?_ | refine blk_alloc ?_ _)); exact BK246.out) hb); have n1_ := Aside0.mk (blk_below (g := gb247) (o := .cells #[.int .i64 0, .int .i64 0] 54 (0, 0)) (by (with_reducible repeat (first | refine blk_drewN ?_ _ | refine blk_drew ?_ | refine blk_alloc ?_ _)); refine blk_far ?_ NB247_246.out _; (with_reducible repeat (first | refine blk_drewN ?_ _ | refine blk_drew ?_ | refine blk_alloc ?_ _)); exact BK247.out) hb); have n2_ := Aside0.mk (below_step (by repeat with_reducible first | exact HB.out | apply pw_below_drewN | refine below_set ?_ GE246.out | apply below_drew1 | apply below_alloc) hb); clear BK246; clear BK247; clear HB; have BK246 := n0_; have BK247 := n1_; have HB := n2_; clear n0_ n1_ n2_; (try clear hb); (try clear hb2); (try clear hk); (try clear hi); have hcz22_0 := cz0 BK247.out; have hcz22_1 := cz1 BK247.out; have hfz22_0 := blk_frozen BK247.out 0; have hfz22_1 := blk_frozen BK247.out 1))
 refine bodyPost_ret (results_ct rfl _ _ gb247 54 #[.int .i64 t250, .int .i64 t251] (0, 0) _ rfl (by (with_reducible repeat (first | refine blk_drewN ?_ _ | refine blk_drew ?_ | refine blk_alloc ?_ _)); refine blk_put (cs := #[.int .i64 t250, .int .i64 0]) ?_ 1 _ rfl; (with_reducible repeat (first | refine blk_drewN ?_ _ | refine blk_drew ?_ | refine blk_alloc ?_ _)); refine blk_put (cs := #[.int .i64 0, .int .i64 0]) ?_ 0 _ rfl; (with_reducible repeat (first | refine blk_drewN ?_ _ | refine blk_drew ?_ | refine blk_alloc ?_ _)); exact BK247.out) Tryd.underlying54 rfl (by kernel_rfl)) rfl ?_
 exact ⟨by first | rfl | (simp [errW_none, errW_some] <;> rfl) | (simp [*, errW_none, errW_some] <;> rfl), by repeat with_reducible first | exact HB.out | apply pw_below_drewN | refine below_set ?_ GE247.out | apply below_drew1 | apply below_alloc⟩

/-! ### paras_Move: function 67 -/
def paras_Move.f (a0 : ByteArray) (a1 : Int) (a2 : Int) (a3 : Int) : Option (Int × Int) := none
set_option maxHeartbeats 8000000 in
set_option maxRecDepth 100000 in
theorem paras_Move.calls (a0 : ByteArray) (a1 : Int) (a2 : Int) (a3 : Int) (r1 : Int) (r2 : Int) (w : World) (h : paras_Move.f a0 a1 a2 a3 = some (r1, r2)) :
  Calls Tryd.prog 67 #[.string a0, .int .i64 a1, .int .i64 a2, .int .i64 a3] w fun e w' => e = .returned (.tuple #[.int .i64 r1, .int .i64 r2]) ∧ Below w.heap.size w w' := by
 have HB := Aside0.mk (Below.refl w.heap.size w)
 have H : (none) = some (r1, r2) := h
 clear h
 exact absurd H (by simp)

/-! ### pairs_Move: function 68 -/
def pairs_Move.f (a0 : ByteArray) (a1 : Int) : Option (Int × Int) := none
set_option maxHeartbeats 8000000 in
set_option maxRecDepth 100000 in
theorem pairs_Move.calls (a0 : ByteArray) (a1 : Int) (r1 : Int) (r2 : Int) (w : World) (h : pairs_Move.f a0 a1 = some (r1, r2)) :
  Calls Tryd.prog 68 #[.string a0, .int .i64 a1] w fun e w' => e = .returned (.tuple #[.int .i64 r1, .int .i64 r2]) ∧ Below w.heap.size w w' := by
 have HB := Aside0.mk (Below.refl w.heap.size w)
 have H : (none) = some (r1, r2) := h
 clear h
 exact absurd H (by simp)

/-! ### move_marked: function 69 -/
def move_marked.f (a0 : ByteArray) (a1_0 : Int) (a1_1 : Int) (a1_2 : Int) (a1_3 : Int) (a1_4 : Int) (a1_5 : Int) (l2 : List (S89)) : Option (Int × Int × Int) := none
set_option maxHeartbeats 8000000 in
set_option maxRecDepth 100000 in
theorem move_marked.calls (a0 : ByteArray) (a1_0 : Int) (a1_1 : Int) (a1_2 : Int) (a1_3 : Int) (a1_4 : Int) (a1_5 : Int) (A2 : Option Addr) (c2 : Nat) (l2 : List (S89)) (r1 : Int) (r2 : Int) (r3 : Int) (w : World) (hr2 : Kd.C k89 w A2 l2.length l2) (hc2 : l2.length ≤ c2) (h : move_marked.f a0 a1_0 a1_1 a1_2 a1_3 a1_4 a1_5 l2 = some (r1, r2, r3)) :
  Calls Tryd.prog 69 #[.string a0, .agg #[.int .i64 a1_0, .int .i64 a1_1, .int .i64 a1_2, .int .i64 a1_3, .int .i64 a1_4, .int .i64 a1_5], .slice A2 l2.length c2] w fun e w' => e = .returned (.tuple #[.agg #[.int .i64 r1, .int .i64 r2], .int .i64 r3]) ∧ Below w.heap.size w w' := by
 have HR2 := Aside0.mk hr2
 have HC2 := Aside0.mk hc2
 clear hr2 hc2
 have HB := Aside0.mk (Below.refl w.heap.size w)
 have H : (none) = some (r1, r2, r3) := h
 clear h
 exact absurd H (by simp)

/-! ### lines_Move: function 70 -/
def lines_Move.f (a0 : ByteArray) (a1 : Int) (a2 : Int) (a3 : Int) : Option (Int × Int × Int) := none
set_option maxHeartbeats 8000000 in
set_option maxRecDepth 100000 in
theorem lines_Move.calls (a0 : ByteArray) (a1 : Int) (a2 : Int) (a3 : Int) (r1 : Int) (r2 : Int) (r3 : Int) (w : World) (h : lines_Move.f a0 a1 a2 a3 = some (r1, r2, r3)) :
  Calls Tryd.prog 70 #[.string a0, .int .i64 a1, .int .i64 a2, .int .i64 a3] w fun e w' => e = .returned (.tuple #[.agg #[.int .i64 r1, .int .i64 r2], .int .i64 r3]) ∧ Below w.heap.size w w' := by
 have HB := Aside0.mk (Below.refl w.heap.size w)
 have H : (none) = some (r1, r2, r3) := h
 clear h
 exact absurd H (by simp)

end Go.Proofs.YtbgmmcngkdhpcaaDoor.P
