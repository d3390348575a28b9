/- The walks of the functions that these statements reach: each Go function as a plain Lean function, and the proof that its call comes to that. Written by the session's program wip/pp.py. -/
import Derived.Test.YtbgmmcngkdhpcaaDoorP0
import Derived.Test.YtbgmmcngkdhpcaaDoorP2
namespace Go.Proofs.YtbgmmcngkdhpcaaDoor.P
open Go.Proofs.YtbgmmcngkdhpcaaDoor
open Go.RowKit Go.Proofs.YtbgmmcngkdhpcaaDoorW.PrintWords Go.Proofs.YtbgmmcngkdhpcaaDoorW.PrintLast Go.Proofs.YtbgmmcngkdhpcaaDoorW.PrintMore
attribute [local go_sem] cell_isSome max2_int min2_int max_two min_two max_three min_three max_four min_four   -- for this text's walks alone
set_option linter.unusedVariables false
set_option linter.unusedSimpArgs false

/-! ### text_made: function 126 -/
def text_made.j0 : Nat → Int → Bool → Option (Int)
  | 0, _, _ => none
  | k + 1, x0, x3 => if x3 = true then (some 0) else (if x0 = 95 then (some 1) else (if x0 ≥ 48 then (if x0 ≤ 57 then (some 1) else (if x0 ≥ 97 then (if x0 ≤ 122 then (some 1) else (if x0 ≥ 65 then (if x0 ≤ 90 then (some 1) else (some 2)) else (some 2))) else (if x0 ≥ 65 then (if x0 ≤ 90 then (some 1) else (some 2)) else (some 2)))) else (if x0 ≥ 97 then (if x0 ≤ 122 then (some 1) else (if x0 ≥ 65 then (if x0 ≤ 90 then (some 1) else (some 2)) else (some 2))) else (if x0 ≥ 65 then (if x0 ≤ 90 then (some 1) else (some 2)) else (some 2)))))
def text_made.f (k : Nat) (a0 : Int) : Option (Int) := if a0 = 32 then (text_made.j0 k a0 true) else (text_made.j0 k a0 (a0 == 9))
theorem text_made.mono_l : ∀ k, (∀ y0 y1, LeO (text_made.j0 k y0 y1) (text_made.j0 (k + 1) y0 y1))
  | 0 => fun _ _ r h => by simp [text_made.j0] at h
  | k + 1 => by
    have ih0 := text_made.mono_l k
    all_goals intros
    all_goals first | unfold text_made.j0
    all_goals repeat' first | (with_reducible first | exact ih0 _ _ | exact LeO.refl _ | exact LeO.none _ | refine LeO.ite ?_ ?_ | refine LeO.bind ?_ (fun _ => ?_)) | exact ih0 _ _ | exact LeO.refl _ | exact LeO.none _ | refine LeO.ite ?_ ?_ | refine LeO.bind ?_ (fun _ => ?_)
theorem text_made.mono : ∀ a0 k, LeO (text_made.f k a0) (text_made.f (k + 1) a0) := by
  intro a0 k
  have ih0 := text_made.mono_l k
  unfold text_made.f
  repeat' first | (with_reducible first | exact ih0 _ _ | exact LeO.refl _ | exact LeO.none _ | refine LeO.ite ?_ ?_ | refine LeO.bind ?_ (fun _ => ?_)) | exact ih0 _ _ | exact LeO.refl _ | exact LeO.none _ | refine LeO.ite ?_ ?_ | refine LeO.bind ?_ (fun _ => ?_)
set_option maxHeartbeats 8000000 in
set_option maxRecDepth 100000 in
theorem text_made.calls (k : Nat) (a0 : Int) (r : Int) (w : World) (h : text_made.f k a0 = some r) :
  Calls Tryd.prog 126 #[.int .i64 a0] w fun e w' => e = .returned (.int .i64 r) ∧ Drawn0 w w' := by
 have H : (if a0 = 32 then (text_made.j0 k a0 true) else (text_made.j0 k a0 (a0 == 9))) = some r := h
 clear h
 have HC2 := Aside0.mk H
 clear H
 go_enter Tryd.func126, Tryd.ntmps126
 go_upto_region 1 with (fail)
 go_cut [3] (fun v3 wc => ∃ (kq : Nat) (x3_1 : Bool), v3 = .bool x3_1 ∧ Aside0 (text_made.j0 kq a0 x3_1 = some r) ∧ Aside0 (kq ≤ k) ∧ Drawn0 w wc)
 case first =>
  have H := HC2.out
  clear HC2
  by_cases c3 : a0 = 32
  rotate_left
  ·
   rw [if_neg c3] at H
   have c3b0 : (a0 == 32) = false := beq_eq_false_iff_ne.mpr c3
   have c3b1 : (a0 != 32) = true := bne_iff_ne.mpr c3
   (first | rw [c3b0] | (simp only [i64_w, i32_w]; rw [c3b0]) | skip)
   have H' := Aside0.mk H
   clear H
   go_wp2
   go_meet
   case rel => exact ⟨_, ((a0 == 9)), (by first | rfl | (simp; done) | (simp [*]; done)), H', ⟨by first | omega | exact Nat.le_refl _⟩, by repeat (first | exact Drawn0.refl _ | apply Drawn0.step)⟩
  rw [if_pos c3] at H
  have c3b0 : (a0 == 32) = true := beq_iff_eq.mpr c3
  have c3b1 : (a0 != 32) = false := bne_eq_false_iff_eq.mpr c3
  clear c3
  (first | rw [c3b0] | (simp only [i64_w, i32_w]; rw [c3b0]) | skip)
  have H' := Aside0.mk H
  clear H
  go_wp2
  go_meet
  case rel => exact ⟨_, (true), (by first | rfl | (simp; done) | (simp [*]; done)), H', ⟨by first | omega | exact Nat.le_refl _⟩, by repeat (first | exact Drawn0.refl _ | apply Drawn0.step)⟩
 case rest =>
  clear HC2
  obtain ⟨kq, x3_1, rfl, HA, HJ1, ⟨mc1, rfl⟩⟩ := hcut
  cases kq with
  | zero => exact absurd HA.out (by simp [text_made.j0])
  | succ kj1 =>
   have H := HA.out
   clear HA
   simp only [text_made.j0] at H
   by_cases c4 : x3_1 = true
   ·
    subst c4
    have H1 : (some 0) = some r := by rw [if_pos rfl] at H; exact H
    clear H
    have H := H1
    clear H1
    obtain rfl := Option.some.inj H
    go_wp2
    go_ret
    exact ⟨by first | rfl | (simp; done) | (simp [*]; done), by repeat (first | exact Drawn0.refl _ | apply Drawn0.step)⟩
   replace c4 := Bool.eq_false_iff.mpr c4
   subst c4
   have H1 : (if a0 = 95 then (some 1) else (if a0 ≥ 48 then (if a0 ≤ 57 then (some 1) else (if a0 ≥ 97 then (if a0 ≤ 122 then (some 1) else (if a0 ≥ 65 then (if a0 ≤ 90 then (some 1) else (some 2)) else (some 2))) else (if a0 ≥ 65 then (if a0 ≤ 90 then (some 1) else (some 2)) else (some 2)))) else (if a0 ≥ 97 then (if a0 ≤ 122 then (some 1) else (if a0 ≥ 65 then (if a0 ≤ 90 then (some 1) else (some 2)) else (some 2))) else (if a0 ≥ 65 then (if a0 ≤ 90 then (some 1) else (some 2)) else (some 2))))) = some r := by rw [if_neg (show ¬ (false = true) by decide)] at H; exact H
   clear H
   have H := H1
   clear H1
   by_cases c5 : a0 = 95
   ·
    rw [if_pos c5] at H
    have c5b0 : (a0 == 95) = true := beq_iff_eq.mpr c5
    have c5b1 : (a0 != 95) = false := bne_eq_false_iff_eq.mpr c5
    clear c5
    obtain rfl := Option.some.inj H
    go_wp2
    go_ret
    exact ⟨by first | rfl | (simp; done) | (simp [*]; done), by repeat (first | exact Drawn0.refl _ | apply Drawn0.step)⟩
   rw [if_neg c5] at H
   have c5b0 : (a0 == 95) = false := beq_eq_false_iff_ne.mpr c5
   have c5b1 : (a0 != 95) = true := bne_iff_ne.mpr c5
   by_cases c6 : a0 ≥ 48
   rotate_left
   ·
    rw [if_neg c6] at H
    have c6b0 := decide_eq_false c6
    clear c6
    by_cases c14 : a0 ≥ 97
    rotate_left
    ·
     rw [if_neg c14] at H
     have c14b0 := decide_eq_false c14
     clear c14
     by_cases c18 : a0 ≥ 65
     rotate_left
     ·
      rw [if_neg c18] at H
      have c18b0 := decide_eq_false c18
      clear c18
      obtain rfl := Option.some.inj H
      go_wp2
      go_ret
      exact ⟨by first | rfl | (simp; done) | (simp [*]; done), by repeat (first | exact Drawn0.refl _ | apply Drawn0.step)⟩
     rw [if_pos c18] at H
     have c18b0 := decide_eq_true c18
     clear c18
     by_cases c19 : a0 ≤ 90
     ·
      rw [if_pos c19] at H
      have c19b0 := decide_eq_true c19
      clear c19
      obtain rfl := Option.some.inj H
      go_wp2
      go_ret
      exact ⟨by first | rfl | (simp; done) | (simp [*]; done), by repeat (first | exact Drawn0.refl _ | apply Drawn0.step)⟩
     rw [if_neg c19] at H
     have c19b0 := decide_eq_false c19
     clear c19
     obtain rfl := Option.some.inj H
     go_wp2
     go_ret
     exact ⟨by first | rfl | (simp; done) | (simp [*]; done), by repeat (first | exact Drawn0.refl _ | apply Drawn0.step)⟩
    rw [if_pos c14] at H
    have c14b0 := decide_eq_true c14
    clear c14
    by_cases c15 : a0 ≤ 122
    ·
     rw [if_pos c15] at H
     have c15b0 := decide_eq_true c15
     clear c15
     obtain rfl := Option.some.inj H
     go_wp2
     go_ret
     exact ⟨by first | rfl | (simp; done) | (simp [*]; done), by repeat (first | exact Drawn0.refl _ | apply Drawn0.step)⟩
    rw [if_neg c15] at H
    have c15b0 := decide_eq_false c15
    clear c15
    by_cases c16 : a0 ≥ 65
    rotate_left
    ·
     rw [if_neg c16] at H
     have c16b0 := decide_eq_false c16
     clear c16
     obtain rfl := Option.some.inj H
     go_wp2
     go_ret
     exact ⟨by first | rfl | (simp; done) | (simp [*]; done), by repeat (first | exact Drawn0.refl _ | apply Drawn0.step)⟩
    rw [if_pos c16] at H
    have c16b0 := decide_eq_true c16
    clear c16
    by_cases c17 : a0 ≤ 90
    ·
     rw [if_pos c17] at H
     have c17b0 := decide_eq_true c17
     clear c17
     obtain rfl := Option.some.inj H
     go_wp2
     go_ret
     exact ⟨by first | rfl | (simp; done) | (simp [*]; done), by repeat (first | exact Drawn0.refl _ | apply Drawn0.step)⟩
    rw [if_neg c17] at H
    have c17b0 := decide_eq_false c17
    clear c17
    obtain rfl := Option.some.inj H
    go_wp2
    go_ret
    exact ⟨by first | rfl | (simp; done) | (simp [*]; done), by repeat (first | exact Drawn0.refl _ | apply Drawn0.step)⟩
   rw [if_pos c6] at H
   have c6b0 := decide_eq_true c6
   clear c6
   by_cases c7 : a0 ≤ 57
   ·
    rw [if_pos c7] at H
    have c7b0 := decide_eq_true c7
    clear c7
    obtain rfl := Option.some.inj H
    go_wp2
    go_ret
    exact ⟨by first | rfl | (simp; done) | (simp [*]; done), by repeat (first | exact Drawn0.refl _ | apply Drawn0.step)⟩
   rw [if_neg c7] at H
   have c7b0 := decide_eq_false c7
   clear c7
   by_cases c8 : a0 ≥ 97
   rotate_left
   ·
    rw [if_neg c8] at H
    have c8b0 := decide_eq_false c8
    clear c8
    by_cases c12 : a0 ≥ 65
    rotate_left
    ·
     rw [if_neg c12] at H
     have c12b0 := decide_eq_false c12
     clear c12
     obtain rfl := Option.some.inj H
     go_wp2
     go_ret
     exact ⟨by first | rfl | (simp; done) | (simp [*]; done), by repeat (first | exact Drawn0.refl _ | apply Drawn0.step)⟩
    rw [if_pos c12] at H
    have c12b0 := decide_eq_true c12
    clear c12
    by_cases c13 : a0 ≤ 90
    ·
     rw [if_pos c13] at H
     have c13b0 := decide_eq_true c13
     clear c13
     obtain rfl := Option.some.inj H
     go_wp2
     go_ret
     exact ⟨by first | rfl | (simp; done) | (simp [*]; done), by repeat (first | exact Drawn0.refl _ | apply Drawn0.step)⟩
    rw [if_neg c13] at H
    have c13b0 := decide_eq_false c13
    clear c13
    obtain rfl := Option.some.inj H
    go_wp2
    go_ret
    exact ⟨by first | rfl | (simp; done) | (simp [*]; done), by repeat (first | exact Drawn0.refl _ | apply Drawn0.step)⟩
   rw [if_pos c8] at H
   have c8b0 := decide_eq_true c8
   clear c8
   by_cases c9 : a0 ≤ 122
   ·
    rw [if_pos c9] at H
    have c9b0 := decide_eq_true c9
    clear c9
    obtain rfl := Option.some.inj H
    go_wp2
    go_ret
    exact ⟨by first | rfl | (simp; done) | (simp [*]; done), by repeat (first | exact Drawn0.refl _ | apply Drawn0.step)⟩
   rw [if_neg c9] at H
   have c9b0 := decide_eq_false c9
   clear c9
   by_cases c10 : a0 ≥ 65
   rotate_left
   ·
    rw [if_neg c10] at H
    have c10b0 := decide_eq_false c10
    clear c10
    obtain rfl := Option.some.inj H
    go_wp2
    go_ret
    exact ⟨by first | rfl | (simp; done) | (simp [*]; done), by repeat (first | exact Drawn0.refl _ | apply Drawn0.step)⟩
   rw [if_pos c10] at H
   have c10b0 := decide_eq_true c10
   clear c10
   by_cases c11 : a0 ≤ 90
   ·
    rw [if_pos c11] at H
    have c11b0 := decide_eq_true c11
    clear c11
    obtain rfl := Option.some.inj H
    go_wp2
    go_ret
    exact ⟨by first | rfl | (simp; done) | (simp [*]; done), by repeat (first | exact Drawn0.refl _ | apply Drawn0.step)⟩
   rw [if_neg c11] at H
   have c11b0 := decide_eq_false c11
   clear c11
   obtain rfl := Option.some.inj H
   go_wp2
   go_ret
   exact ⟨by first | rfl | (simp; done) | (simp [*]; done), by repeat (first | exact Drawn0.refl _ | apply Drawn0.step)⟩

/-! ### text_Class: function 120 -/
def text_Class.f (k : Nat) (a0 : Int) : Option (Int) := if a0 < 0 then (some 2) else (if a0 ≥ 128 then (some 1) else ((text_made.f k a0).bind fun t167 => (some t167)))
theorem text_Class.mono : ∀ a0 k, LeO (text_Class.f k a0) (text_Class.f (k + 1) a0) := by
  intro a0 k
  unfold text_Class.f
  repeat' first | (with_reducible first | exact text_made.mono _ _ | exact LeO.refl _ | exact LeO.none _ | refine LeO.ite ?_ ?_ | refine LeO.bind ?_ (fun _ => ?_)) | exact text_made.mono _ _ | exact LeO.refl _ | exact LeO.none _ | refine LeO.ite ?_ ?_ | refine LeO.bind ?_ (fun _ => ?_)
set_option maxHeartbeats 8000000 in
set_option maxRecDepth 100000 in
theorem text_Class.calls (k : Nat) (a0 : Int) (r : Int) (w : World) (h : text_Class.f k a0 = some r) :
  Calls Tryd.prog 120 #[.int .i64 a0] w fun e w' => e = .returned (.int .i64 r) ∧ Drawn0 w w' := by
 have H : (if a0 < 0 then (some 2) else (if a0 ≥ 128 then (some 1) else ((text_made.f k a0).bind fun t167 => (some t167)))) = some r := h
 clear h
 by_cases c2 : a0 < 0
 ·
  rw [if_pos c2] at H
  have c2b0 := decide_eq_true c2
  clear c2
  obtain rfl := Option.some.inj H
  go_enter Tryd.func120, Tryd.ntmps120
  go_wp2
  go_ret
  exact ⟨by first | rfl | (simp; done) | (simp [*]; done), by repeat (first | exact Drawn0.refl _ | apply Drawn0.step)⟩
 rw [if_neg c2] at H
 have c2b0 := decide_eq_false c2
 clear c2
 by_cases c3 : a0 ≥ 128
 ·
  rw [if_pos c3] at H
  have c3b0 := decide_eq_true c3
  clear c3
  obtain rfl := Option.some.inj H
  go_enter Tryd.func120, Tryd.ntmps120
  go_wp2
  go_ret
  exact ⟨by first | rfl | (simp; done) | (simp [*]; done), by repeat (first | exact Drawn0.refl _ | apply Drawn0.step)⟩
 rw [if_neg c3] at H
 have c3b0 := decide_eq_false c3
 clear c3
 replace H := Option.bind_eq_some_iff.mp H
 obtain ⟨t167, A40, H⟩ := H
 (try dsimp only at H)
 have A4 := Aside0.mk A40
 clear A40
 obtain rfl := Option.some.inj H
 go_enter Tryd.func120, Tryd.ntmps120
 go_wp2_with (first | ((with_reducible refine gate_callee (f := 126) rfl ?_); refine goesL_ (some 10) rfl rfl Tryd.func126 (by kernel_rfl) rfl #[.int .i64 a0] rfl (map1 rfl) ?_; (with_reducible refine (text_made.calls k a0 t167 _ A4.out).mono ?_); rintro e w' ⟨rfl, ⟨nd, rfl⟩⟩; refine ⟨_, rfl, ?_⟩))
 go_ret
 exact ⟨by first | rfl | (simp; done) | (simp [*]; done), by repeat (first | exact Drawn0.refl _ | apply Drawn0.step)⟩

/-! ### words_Class: function 104 -/
def words_Class.f (k : Nat) (a0 : Int) (a1 : Bool) : Option (Int) := (text_Class.f k (wrap64 (a0))).bind fun t168 => (if a1 = true then (if t168 = 2 then (some 1) else (some t168)) else (some t168))
theorem words_Class.mono : ∀ a0 a1 k, LeO (words_Class.f k a0 a1) (words_Class.f (k + 1) a0 a1) := by
  intro a0 a1 k
  unfold words_Class.f
  repeat' first | (with_reducible first | exact text_Class.mono _ _ | exact LeO.refl _ | exact LeO.none _ | refine LeO.ite ?_ ?_ | refine LeO.bind ?_ (fun _ => ?_)) | exact text_Class.mono _ _ | exact LeO.refl _ | exact LeO.none _ | refine LeO.ite ?_ ?_ | refine LeO.bind ?_ (fun _ => ?_)
set_option maxHeartbeats 8000000 in
set_option maxRecDepth 100000 in
theorem words_Class.calls (k : Nat) (a0 : Int) (a1 : Bool) (r : Int) (w : World) (h : words_Class.f k a0 a1 = some r) :
  Calls Tryd.prog 104 #[.int .i32 a0, .bool a1] w fun e w' => e = .returned (.int .i64 r) ∧ Drawn0 w w' := by
 have H : ((text_Class.f k (wrap64 (a0))).bind fun t168 => (if a1 = true then (if t168 = 2 then (some 1) else (some t168)) else (some t168))) = some r := h
 clear h
 replace H := Option.bind_eq_some_iff.mp H
 obtain ⟨t168, A30, H⟩ := H
 (try dsimp only at H)
 have A3 := Aside0.mk A30
 clear A30
 by_cases c4 : a1 = true
 rotate_left
 ·
  replace c4 := Bool.eq_false_iff.mpr c4
  subst c4
  have H1 : (some t168) = some r := by rw [if_neg (show ¬ (false = true) by decide)] at H; exact H
  clear H
  have H := H1
  clear H1
  obtain rfl := Option.some.inj H
  go_enter Tryd.func104, Tryd.ntmps104
  go_wp2_with (first | ((with_reducible refine gate_callee (f := 120) rfl ?_); refine goesL_ (some 8) rfl rfl Tryd.func120 (by kernel_rfl) rfl #[.int .i64 (wrap64 (a0))] rfl (map1 rfl) ?_; (with_reducible refine (text_Class.calls k (wrap64 (a0)) t168 _ A3.out).mono ?_); rintro e w' ⟨rfl, ⟨nd, rfl⟩⟩; refine ⟨_, rfl, ?_⟩))
  go_ret
  exact ⟨by first | rfl | (simp; done) | (simp [*]; done), by repeat (first | exact Drawn0.refl _ | apply Drawn0.step)⟩
 subst c4
 have H1 : (if t168 = 2 then (some 1) else (some t168)) = some r := by rw [if_pos rfl] at H; exact H
 clear H
 have H := H1
 clear H1
 by_cases c5 : t168 = 2
 rotate_left
 ·
  rw [if_neg c5] at H
  have c5b0 : (t168 == 2) = false := beq_eq_false_iff_ne.mpr c5
  have c5b1 : (t168 != 2) = true := bne_iff_ne.mpr c5
  obtain rfl := Option.some.inj H
  go_enter Tryd.func104, Tryd.ntmps104
  go_wp2_with (first | ((with_reducible refine gate_callee (f := 120) rfl ?_); refine goesL_ (some 8) rfl rfl Tryd.func120 (by kernel_rfl) rfl #[.int .i64 (wrap64 (a0))] rfl (map1 rfl) ?_; (with_reducible refine (text_Class.calls k (wrap64 (a0)) t168 _ A3.out).mono ?_); rintro e w' ⟨rfl, ⟨nd, rfl⟩⟩; refine ⟨_, rfl, ?_⟩))
  go_ret
  exact ⟨by first | rfl | (simp; done) | (simp [*]; done), by repeat (first | exact Drawn0.refl _ | apply Drawn0.step)⟩
 rw [if_pos c5] at H
 have c5b0 : (t168 == 2) = true := beq_iff_eq.mpr c5
 have c5b1 : (t168 != 2) = false := bne_eq_false_iff_eq.mpr c5
 clear c5
 obtain rfl := Option.some.inj H
 go_enter Tryd.func104, Tryd.ntmps104
 go_wp2_with (first | ((with_reducible refine gate_callee (f := 120) rfl ?_); refine goesL_ (some 8) rfl rfl Tryd.func120 (by kernel_rfl) rfl #[.int .i64 (wrap64 (a0))] rfl (map1 rfl) ?_; (with_reducible refine (text_Class.calls k (wrap64 (a0)) t168 _ A3.out).mono ?_); rintro e w' ⟨rfl, ⟨nd, rfl⟩⟩; refine ⟨_, rfl, ?_⟩))
 go_ret
 exact ⟨by first | rfl | (simp; done) | (simp [*]; done), by repeat (first | exact Drawn0.refl _ | apply Drawn0.step)⟩

/-! ### words_cells: function 112 -/
mutual
def words_cells.l0 : Nat → Bool → List (S142) → List Int → Int → Int → List Int → List Int → Option ((List (S142)))
  | 0, _, _, _, _, _, _, _ => none
  | k + 1, x1, x4, x15, x16, x17, v0, v1 => if x17 < x16 then (if 0 ≤ x17 then (if x17 < (x15.length : Int) then ((text_Map_End.f v0 v1 x17).bind fun t177 => (if (rd x15 x17) = t177 then (if x4.length < 5864062014805 then (words_cells.j1 k x1 (x4 ++ [(⟨rd x15 x17, 3, true, true⟩ : S142)]) (rd x15 x17) t177 x15 x16 x17 v0 v1) else (none)) else (words_cells.j1 k x1 x4 (rd x15 x17) t177 x15 x16 x17 v0 v1))) else (none)) else (none)) else (some x4)
def words_cells.j1 : Nat → Bool → List (S142) → Int → Int → List Int → Int → Int → List Int → List Int → Option ((List (S142)))
  | 0, _, _, _, _, _, _, _, _, _ => none
  | k + 1, x1, x4, x7, x8, x15, x16, x17, v0, v1 => words_cells.l1 k x1 x4 x7 x8 x7 x15 x16 x17 v0 v1
def words_cells.l1 : Nat → Bool → List (S142) → Int → Int → Int → List Int → Int → Int → List Int → List Int → Option ((List (S142)))
  | 0, _, _, _, _, _, _, _, _, _, _ => none
  | k + 1, x1, x4, x7, x8, x9, x15, x16, x17, v0, v1 => if x9 < x8 then (if 0 ≤ x9 then (if x9 < (v0.length : Int) then ((words_Class.f k (rd v0 x9) x1).bind fun t182 => (if x4.length < 5864062014805 then (words_cells.l1 k x1 (x4 ++ [(⟨x9, t182, (x9 == x7), (x9 == (wrap64 (x8 - 1)))⟩ : S142)]) x7 x8 (wrap64 (x9 + 1)) x15 x16 x17 v0 v1) else (none))) else (none)) else (none)) else (words_cells.l0 k x1 x4 x15 x16 (wrap64 (x17 + 1)) v0 v1)
end
def words_cells.f (k : Nat) (a0 : ByteArray) (a1 : Bool) : Option ((List (S142))) := (text_Of.f k a0).bind fun bt169 => (words_cells.l0 k a1 ([] : List (S142)) bt169.2 (bt169.2.length : Int) 0 bt169.1 bt169.2)
theorem words_cells.mono_l : ∀ k, (∀ y0 y1 y2 y3 y4 y5 y6, LeO (words_cells.l0 k y0 y1 y2 y3 y4 y5 y6) (words_cells.l0 (k + 1) y0 y1 y2 y3 y4 y5 y6)) ∧ (∀ y0 y1 y2 y3 y4 y5 y6 y7 y8, LeO (words_cells.j1 k y0 y1 y2 y3 y4 y5 y6 y7 y8) (words_cells.j1 (k + 1) y0 y1 y2 y3 y4 y5 y6 y7 y8)) ∧ (∀ y0 y1 y2 y3 y4 y5 y6 y7 y8 y9, LeO (words_cells.l1 k y0 y1 y2 y3 y4 y5 y6 y7 y8 y9) (words_cells.l1 (k + 1) y0 y1 y2 y3 y4 y5 y6 y7 y8 y9))
  | 0 => ⟨fun _ _ _ _ _ _ _ r h => by simp [words_cells.l0] at h, fun _ _ _ _ _ _ _ _ _ r h => by simp [words_cells.j1] at h, fun _ _ _ _ _ _ _ _ _ _ r h => by simp [words_cells.l1] at h⟩
  | k + 1 => by
    obtain ⟨ih0, ih1, ih2⟩ := words_cells.mono_l k
    refine ⟨?_, ?_, ?_⟩
    all_goals intros
    all_goals first | unfold words_cells.l0 | unfold words_cells.j1 | unfold words_cells.l1
    all_goals repeat' first | (with_reducible first | exact ih0 _ _ _ _ _ _ _ | exact ih1 _ _ _ _ _ _ _ _ _ | exact ih2 _ _ _ _ _ _ _ _ _ _ | exact text_Of.mono _ _ | exact words_Class.mono _ _ _ | exact LeO.refl _ | exact LeO.none _ | refine LeO.ite ?_ ?_ | refine LeO.bind ?_ (fun _ => ?_)) | exact ih0 _ _ _ _ _ _ _ | exact ih1 _ _ _ _ _ _ _ _ _ | exact ih2 _ _ _ _ _ _ _ _ _ _ | exact text_Of.mono _ _ | exact words_Class.mono _ _ _ | exact LeO.refl _ | exact LeO.none _ | refine LeO.ite ?_ ?_ | refine LeO.bind ?_ (fun _ => ?_)
theorem words_cells.mono : ∀ a0 a1 k, LeO (words_cells.f k a0 a1) (words_cells.f (k + 1) a0 a1) := by
  intro a0 a1 k
  obtain ⟨ih0, ih1, ih2⟩ := words_cells.mono_l k
  unfold words_cells.f
  repeat' first | (with_reducible first | exact ih0 _ _ _ _ _ _ _ | exact ih1 _ _ _ _ _ _ _ _ _ | exact ih2 _ _ _ _ _ _ _ _ _ _ | exact text_Of.mono _ _ | exact words_Class.mono _ _ _ | exact LeO.refl _ | exact LeO.none _ | refine LeO.ite ?_ ?_ | refine LeO.bind ?_ (fun _ => ?_)) | exact ih0 _ _ _ _ _ _ _ | exact ih1 _ _ _ _ _ _ _ _ _ | exact ih2 _ _ _ _ _ _ _ _ _ _ | exact text_Of.mono _ _ | exact words_Class.mono _ _ _ | exact LeO.refl _ | exact LeO.none _ | refine LeO.ite ?_ ?_ | refine LeO.bind ?_ (fun _ => ?_)
set_option maxHeartbeats 8000000 in
set_option maxRecDepth 100000 in
theorem words_cells.calls (k : Nat) (a0 : ByteArray) (a1 : Bool) (r : List (S142)) (w : World) (h : words_cells.f k a0 a1 = some r) :
  Calls Tryd.prog 112 #[.string a0, .bool a1] w fun e w' => ∃ v0_ : Value, e = .returned (v0_) ∧ Kd.R k142 142 w' w.heap.size (fun _ => True) v0_ r ∧ Below w.heap.size w w' := by
 have hu142 := Tryd.underlying142
 have HB := Aside0.mk (Below.refl w.heap.size w)
 have H : ((text_Of.f k a0).bind fun bt169 => (words_cells.l0 k a1 ([] : List (S142)) bt169.2 (bt169.2.length : Int) 0 bt169.1 bt169.2)) = some r := h
 clear h
 replace H := Option.bind_eq_some_iff.mp H
 obtain ⟨⟨t169, t172⟩, A30, H⟩ := H
 (try dsimp only at H)
 have A3 := Aside0.mk A30
 clear A30
 have H' := Aside0.mk H
 clear H
 go_enter Tryd.func112, Tryd.ntmps112
 go_wp2_with (first | ((with_reducible refine gate_callee (f := 28) rfl ?_); refine goesL_ (some 11) rfl rfl Tryd.func28 (by kernel_rfl) rfl #[.string a0] rfl (map1 rfl) ?_; (with_reducible refine (text_Of.calls k a0 t169 t172 _ A3.out).mono ?_); rintro e w4 ⟨v170, v173, gb175, rfl, ho0, ho1, ⟨hx175_, hz175_⟩, hb⟩; refine ⟨_, rfl, ?_⟩; have n0_ := Aside0.mk (Kd.R_lower ho0 (below_size (by repeat with_reducible first | exact HB.out | apply pw_below_drewN | apply below_drew1 | apply below_alloc))); have n1_ := Aside0.mk (Kd.R_lower ho1 (below_size (by repeat with_reducible first | exact HB.out | apply pw_below_drewN | apply below_drew1 | apply below_alloc))); have n2_ := Aside0.mk (hx175_); have n3_ := Aside0.mk ((Nat.le_trans (below_size (by repeat with_reducible first | exact HB.out | apply pw_below_drewN | apply below_drew1 | apply below_alloc)) hz175_ : w.heap.size ≤ gb175)); have n4_ := Aside0.mk ((Nat.le_trans (below_size (by repeat with_reducible first | exact HB.out | apply pw_below_drewN | apply below_drew1 | apply below_alloc)) hz175_ : w.heap.size ≤ gb175)); have n5_ := Aside0.mk (below_step (by repeat with_reducible first | exact HB.out | apply pw_below_drewN | apply below_drew1 | apply below_alloc) hb); clear HB; have HO171 := n0_; have HO174 := n1_; have BK175 := n2_; have GW175 := n3_; have GE175 := n4_; have HB := n5_; clear n0_ n1_ n2_ n3_ n4_ n5_; (try clear hb); (try clear hb2); (try clear hk); (try clear hi); (try clear ho0); (try clear ho1); (try clear hx175_ hz175_); have hcz5_0 := cz0 BK175.out; have hcz5_1 := cz1 BK175.out; have hfz5_0 := blk_frozen BK175.out 0; have hfz5_1 := blk_frozen BK175.out 1; obtain ⟨Ao6, co6, eo6⟩ := Kd.R_slice HO174.out; subst eo6))
 go_loopg [4, 17] k (fun kq v4 v17 w' => ∃ (x4_1 : List (S142)) (x17_1 : Int), v17 = .int .i64 x17_1 ∧ Aside0 (words_cells.l0 kq a1 x4_1 t172 (t172.length : Int) x17_1 t169 t172 = some r) ∧ Aside0 (kq ≤ k) ∧ Aside0 (Kd.R k142 142 w' w.heap.size (fun _ => True) v4 x4_1) ∧ Aside0 (Kd.R (Kd.int .i64) 3 w' w.heap.size (fun _ => True) (.slice Ao6 t172.length co6) t172) ∧ Aside0 (Kd.R (Kd.int .i32) 21 w' w.heap.size (fun _ => True) v170 t169) ∧ Aside0 (Kd.R (Kd.int .i64) 3 w' w.heap.size (fun _ => True) (.slice Ao6 t172.length co6) t172) ∧ Aside0 (w'.heap[gb175]? = some (.cells #[v170, (.slice Ao6 t172.length co6)] 79 (0, 0))) ∧ Aside0 (Below w.heap.size w w'))
 case atStart => exact ⟨(([] : List (S142))), (0), (by first | rfl | (simp; done) | (simp [*]; done)), H', ⟨Nat.le_refl _⟩, ⟨by first | exact Kd.R_nil _ _ _ _ _ | exact Kd.N_nil _ _ _ _ _ | exact Kd.V_nil _ _ _ _ _ | exact Kd.Q_nil _ _ _ _ _ | exact Kd.S_nil _ _ _ _ _⟩, ⟨by (with_reducible repeat (first | apply Kd.R_alloc | apply Kd.R_drewN | apply Kd.R_drew)); exact HO174.out⟩, ⟨by (with_reducible repeat (first | apply Kd.R_alloc | apply Kd.R_drewN | apply Kd.R_drew)); exact HO171.out⟩, ⟨by (with_reducible repeat (first | apply Kd.R_alloc | apply Kd.R_drewN | apply Kd.R_drew)); exact HO174.out⟩, ⟨BK175.out⟩, ⟨by repeat with_reducible first | exact HB.out | apply pw_below_drewN | apply below_drew1 | apply below_alloc⟩⟩
 case round =>
  clear H'
  try clear hcz5_0
  try clear hcz5_1
  try clear hfz5_0
  try clear hfz5_1
  obtain ⟨x4_1, x17_1, rfl, HA, HK1, HO_4, HO_15, HO_176000, HO_176001, BK175, HB⟩ := hrel
  cases gk with
  | zero => exact absurd HA.out (by simp [words_cells.l0])
  | succ k1 =>
   have H := HA.out
   clear HA
   simp only [words_cells.l0] at H
   by_cases c7 : x17_1 < (t172.length : Int)
   rotate_left
   ·
    rw [if_neg c7] at H
    have c7b0 := decide_eq_false c7
    clear c7
    obtain rfl := Option.some.inj H
    go_wp2
    go_ret
    exact ⟨_, by first | rfl | (simp [errW_none, errW_some] <;> rfl) | (simp [*, errW_none, errW_some] <;> rfl), by (with_reducible repeat (first | apply Kd.R_alloc | apply Kd.R_drewN | apply Kd.R_drew)); exact HO_4.out, by repeat with_reducible first | exact HB.out | apply pw_below_drewN | apply below_drew1 | apply below_alloc⟩
   rw [if_pos c7] at H
   have c7b0 := decide_eq_true c7
   clear c7
   by_cases c8 : 0 ≤ x17_1
   rotate_left
   ·
    rw [if_neg c8] at H
    exact absurd H (by simp)
   rw [if_pos c8] at H
   have c8b0 := decide_eq_true c8
   clear c8
   by_cases c9 : x17_1 < (t172.length : Int)
   rotate_left
   ·
    rw [if_neg c9] at H
    exact absurd H (by simp)
   rw [if_pos c9] at H
   have c9b0 := decide_eq_true c9
   clear c9
   replace H := Option.bind_eq_some_iff.mp H
   obtain ⟨t177, A100, H⟩ := H
   (try dsimp only at H)
   have A10 := Aside0.mk A100
   clear A100
   have HC11 := Aside0.mk H
   clear H
   have p176 : 0 ≤ (x17_1 : Int) := of_decide_eq_true (by assumption)
   have q176 : x17_1 < (t172.length : Int) := of_decide_eq_true (by assumption)
   obtain ⟨ad176, e176, hx176_0⟩ := Kd.at_int (Kd.R_reads' HO_15.out).2.2 x17_1 p176 q176
   cases e176
   replace p176 := eq_true p176
   replace q176 := eq_true q176
   obtain ⟨Ao12, co12, eo12⟩ := Kd.R_slice HO_176000.out
   subst eo12
   go_upto_if 27 with (first | ((with_reducible refine gate_callee (f := 50) rfl ?_); refine goesL_ (some 24) rfl rfl Tryd.func50 (by kernel_rfl) rfl #[.pointer (some ⟨gb175, 0, none⟩), .int .i64 x17_1] rfl (map2 rfl rfl) ?_; (with_reducible refine (text_Map_End.calls gb175 Ao12 co12 t169 (some ad176) co6 t172 x17_1 t177 _ ?side1 ?side2 ?side3 ?side4 ?side5 A10.out).mono ?_); (case side1 => exact BK175.out); (case side2 => repeat (first | exact (Kd.R_reads' HO_176000.out).2.2 | with_reducible first | refine Kd.C_drewN ?_ _ | refine Kd.C_drew ?_ | refine Kd.C_alloc ?_ _)); (case side3 => exact (Kd.R_reads' HO_176000.out).2.1); (case side4 => repeat (first | exact (Kd.R_reads' HO_176001.out).2.2 | with_reducible first | refine Kd.C_drewN ?_ _ | refine Kd.C_drew ?_ | refine Kd.C_alloc ?_ _)); (case side5 => exact (Kd.R_reads' HO_176001.out).2.1); rintro e w' ⟨rfl, ⟨nd, rfl⟩⟩; refine ⟨_, rfl, ?_⟩))
   (try simp only [Act.put, List.setIfInBounds_toArray, List.set_cons_zero, List.set_cons_succ])
   go_cut [4] (fun v4 wc => ∃ (kq : Nat) (x4_10 : List (S142)), Aside0 (words_cells.j1 kq a1 x4_10 (rd t172 x17_1) t177 t172 (t172.length : Int) x17_1 t169 t172 = some r) ∧ Aside0 (kq ≤ k1) ∧ Aside0 (Kd.R k142 142 wc w.heap.size (fun _ => True) v4 x4_10) ∧ Aside0 (Kd.R (Kd.int .i64) 3 wc w.heap.size (fun _ => True) (.slice (some ad176) t172.length co6) t172) ∧ Aside0 (Kd.R (Kd.int .i32) 21 wc w.heap.size (fun _ => True) (.slice Ao12 t169.length co12) t169) ∧ Aside0 (Kd.R (Kd.int .i64) 3 wc w.heap.size (fun _ => True) (.slice (some ad176) t172.length co6) t172) ∧ Aside0 (wc.heap[gb175]? = some (.cells #[(.slice Ao12 t169.length co12), (.slice (some ad176) t172.length co6)] 79 (0, 0))) ∧ Aside0 (Below w.heap.size w wc))
   case first =>
    have H := HC11.out
    clear HC11
    by_cases c13 : (rd t172 x17_1) = t177
    rotate_left
    ·
     rw [if_neg c13] at H
     have c13b0 : ((rd t172 x17_1) == t177) = false := beq_eq_false_iff_ne.mpr c13
     have c13b1 : ((rd t172 x17_1) != t177) = true := bne_iff_ne.mpr c13
     (first | rw [c13b0] | (simp only [i64_w, i32_w]; rw [c13b0]) | skip)
     have H' := Aside0.mk H
     clear H
     go_wp2
     go_meet
     case rel => exact ⟨_, (x4_1), H', ⟨by have := HK1.out; first | omega | exact Nat.le_refl _⟩, ⟨by (with_reducible repeat (first | apply Kd.R_alloc | apply Kd.R_drewN | apply Kd.R_drew)); exact HO_4.out⟩, ⟨by (with_reducible repeat (first | apply Kd.R_alloc | apply Kd.R_drewN | apply Kd.R_drew)); exact HO_15.out⟩, ⟨by (with_reducible repeat (first | apply Kd.R_alloc | apply Kd.R_drewN | apply Kd.R_drew)); exact HO_176000.out⟩, ⟨by (with_reducible repeat (first | apply Kd.R_alloc | apply Kd.R_drewN | apply Kd.R_drew)); exact HO_176001.out⟩, ⟨BK175.out⟩, ⟨by repeat with_reducible first | exact HB.out | apply pw_below_drewN | apply below_drew1 | apply below_alloc⟩⟩
    rw [if_pos c13] at H
    have c13b0 : ((rd t172 x17_1) == t177) = true := beq_iff_eq.mpr c13
    have c13b1 : ((rd t172 x17_1) != t177) = false := bne_eq_false_iff_eq.mpr c13
    clear c13
    (first | rw [c13b0] | (simp only [i64_w, i32_w]; rw [c13b0]) | skip)
    by_cases c14 : x4_1.length < 5864062014805
    rotate_left
    ·
     rw [if_neg c14] at H
     exact absurd H (by simp)
    rw [if_pos c14] at H
    have LMc14 := Aside0.mk c14
    clear c14
    obtain ⟨y178, hy178⟩ : ∃ y_ : List (S142), y_ = (x4_1 ++ [(⟨rd t172 x17_1, 3, true, true⟩ : S142)]) := ⟨_, rfl⟩
    replace H : (words_cells.j1 k1 a1 y178 (rd t172 x17_1) t177 t172 (t172.length : Int) x17_1 t169 t172) = some r := by first | (rw [hy178]; with_reducible exact H) | (have H2_ := (Option.bind_some _ _).symm.trans H; rw [hy178]; with_reducible exact H2_) | (have H2_ := (Option.bind_some _ _).symm.trans H; with_reducible exact H2_) | with_reducible exact H | (rw [hy178]; exact H) | exact H
    have Ny178 := Aside0.mk hy178
    clear hy178
    have H' := Aside0.mk H
    clear H
    go_wp2_with (first | ((with_reducible refine gate_builtin (b := .append) (xs := #[.tmp 28, .tmp 31]) rfl ?_); at_builtin; refine Kd.R_append k142 (w0 := w) w.heap.size rfl (.tmp 28) (.tmp 31) 134 142 (.agg #[(.int .i64 0), (.int .i64 0), (.bool false), (.bool false)]) 24 rfl Tryd.underlying134 info142 rfl (by decide) (by omega) u4 x4_1 (⟨rd t172 x17_1, 3, true, true⟩ : S142) [.int .i64 (rd t172 x17_1), .int .i64 3, .bool true, .bool true] (fun _ => True) (fun _ => False) rfl rfl ?aP (fun _ hk => hk.elim) ?aF ?aO ?aB ?aS ?aL ?_; (case aP => exact k142_mkM _ _ _ (⟨rd t172 x17_1, 3, true, true⟩ : S142)); (case aB => exact (by repeat with_reducible first | exact HB.out | apply pw_below_drewN | apply below_drew1 | apply below_alloc)); (case aF => exact (fun _ _ => trivial)); (case aO => exact (by (with_reducible repeat (first | apply Kd.R_alloc | apply Kd.R_drewN | apply Kd.R_drew)); exact HO_4.out)); (case aS => exact (below_size (by repeat with_reducible first | exact HB.out | apply pw_below_drewN | apply below_drew1 | apply below_alloc))); (case aL => have := LMc14.out; omega); intro v179 w15 ho hb hg hat; rw [← Ny178.out] at ho; have n0_ := Aside0.mk (Kd.R_over' (by (with_reducible repeat (first | apply Kd.R_alloc | apply Kd.R_drewN | apply Kd.R_drew)); exact HO_15.out) (Kd.R_typed (by (with_reducible repeat (first | apply Kd.R_alloc | apply Kd.R_drewN | apply Kd.R_drew)); exact HO_4.out)) (by decide) hg); have n1_ := Aside0.mk (Kd.R_over' (by (with_reducible repeat (first | apply Kd.R_alloc | apply Kd.R_drewN | apply Kd.R_drew)); exact HO_176000.out) (Kd.R_typed (by (with_reducible repeat (first | apply Kd.R_alloc | apply Kd.R_drewN | apply Kd.R_drew)); exact HO_4.out)) (by decide) hg); have n2_ := Aside0.mk (Kd.R_over' (by (with_reducible repeat (first | apply Kd.R_alloc | apply Kd.R_drewN | apply Kd.R_drew)); exact HO_176001.out) (Kd.R_typed (by (with_reducible repeat (first | apply Kd.R_alloc | apply Kd.R_drewN | apply Kd.R_drew)); exact HO_4.out)) (by decide) hg); have n3_ := Aside0.mk (blk_grown (g := gb175) (o := .cells #[.slice Ao12 t169.length co12, .slice (some ad176) t172.length co6] 79 (0, 0)) (by exact BK175.out) hg (Kd.R_ne HO_4.out BK175.out (by decide))); have n4_ := Aside0.mk (hb); have n5_ := Aside0.mk (ho); clear HO_15; clear HO_176000; clear HO_176001; clear BK175; clear HB; clear HO_4; have HO_15 := n0_; have HO_176000 := n1_; have HO_176001 := n2_; have BK175 := n3_; have HB := n4_; have HO180 := n5_; clear n0_ n1_ n2_ n3_ n4_ n5_; clear ho hb hg hat))
    go_meet
    case rel => exact ⟨_, (y178), H', ⟨by have := HK1.out; first | omega | exact Nat.le_refl _⟩, ⟨by (with_reducible repeat (first | apply Kd.R_alloc | apply Kd.R_drewN | apply Kd.R_drew)); exact HO180.out⟩, ⟨by (with_reducible repeat (first | apply Kd.R_alloc | apply Kd.R_drewN | apply Kd.R_drew)); exact HO_15.out⟩, ⟨by (with_reducible repeat (first | apply Kd.R_alloc | apply Kd.R_drewN | apply Kd.R_drew)); exact HO_176000.out⟩, ⟨by (with_reducible repeat (first | apply Kd.R_alloc | apply Kd.R_drewN | apply Kd.R_drew)); exact HO_176001.out⟩, ⟨BK175.out⟩, ⟨by repeat with_reducible first | exact HB.out | apply pw_below_drewN | apply below_drew1 | apply below_alloc⟩⟩
   case rest =>
    clear HC11
    try clear c7
    try clear c7b0
    try clear c8
    try clear c8b0
    try clear c9
    try clear c9b0
    try clear hcz5_0
    try clear hcz5_1
    try clear hfz5_0
    try clear hfz5_1
    try clear hx176_0
    try clear p176
    try clear q176
    obtain ⟨kq, x4_10, HA, HJ10, HO_4, HO_15, HO_176000, HO_176001, BK175, HB⟩ := hcut
    cases kq with
    | zero => exact absurd HA.out (by simp [words_cells.j1])
    | succ kj10 =>
     have H := HA.out
     clear HA
     simp only [words_cells.j1] at H
     have H' := Aside0.mk H
     clear H
     go_wp2
     go_loopg [4, 9] kj10 (fun kq v4 v9 w' => ∃ (x4_3 : List (S142)) (x9_3 : Int), v9 = .int .i64 x9_3 ∧ Aside0 (words_cells.l1 kq a1 x4_3 (rd t172 x17_1) t177 x9_3 t172 (t172.length : Int) x17_1 t169 t172 = some r) ∧ Aside0 (kq ≤ kj10) ∧ Aside0 (Kd.R k142 142 w' w.heap.size (fun _ => True) v4 x4_3) ∧ Aside0 (Kd.R (Kd.int .i64) 3 w' w.heap.size (fun _ => True) (.slice (some ad176) t172.length co6) t172) ∧ Aside0 (Kd.R (Kd.int .i32) 21 w' w.heap.size (fun _ => True) (.slice Ao12 t169.length co12) t169) ∧ Aside0 (Kd.R (Kd.int .i64) 3 w' w.heap.size (fun _ => True) (.slice (some ad176) t172.length co6) t172) ∧ Aside0 (w'.heap[gb175]? = some (.cells #[(.slice Ao12 t169.length co12), (.slice (some ad176) t172.length co6)] 79 (0, 0))) ∧ Aside0 (Below w.heap.size w w'))
     case atStart => exact ⟨(x4_10), ((rd t172 x17_1)), (by first | rfl | (simp; done) | (simp [*]; done)), H', ⟨Nat.le_refl _⟩, ⟨by (with_reducible repeat (first | apply Kd.R_alloc | apply Kd.R_drewN | apply Kd.R_drew)); exact HO_4.out⟩, ⟨by (with_reducible repeat (first | apply Kd.R_alloc | apply Kd.R_drewN | apply Kd.R_drew)); exact HO_15.out⟩, ⟨by (with_reducible repeat (first | apply Kd.R_alloc | apply Kd.R_drewN | apply Kd.R_drew)); exact HO_176000.out⟩, ⟨by (with_reducible repeat (first | apply Kd.R_alloc | apply Kd.R_drewN | apply Kd.R_drew)); exact HO_176001.out⟩, ⟨BK175.out⟩, ⟨by repeat with_reducible first | exact HB.out | apply pw_below_drewN | apply below_drew1 | apply below_alloc⟩⟩
     case round =>
      clear H'
      try clear c7
      try clear c7b0
      try clear c8
      try clear c8b0
      try clear c9
      try clear c9b0
      try clear hcz5_0
      try clear hcz5_1
      try clear hfz5_0
      try clear hfz5_1
      try clear hx176_0
      try clear p176
      try clear q176
      obtain ⟨x4_3, x9_3, rfl, HA, HK3, HO_4, HO_15, HO_176000, HO_176001, BK175, HB⟩ := hrel
      cases gk with
      | zero => exact absurd HA.out (by simp [words_cells.l1])
      | succ k3 =>
       have H := HA.out
       clear HA
       simp only [words_cells.l1] at H
       by_cases c16 : x9_3 < t177
       rotate_left
       ·
        rw [if_neg c16] at H
        have c16b0 := decide_eq_false c16
        clear c16
        have H' := Aside0.mk H
        clear H
        go_wp2
        go_roundg k3
        case measure => have := HK1.out; have := HJ10.out; have := HK3.out; omega
        case rel => exact ⟨(x4_3), (wrap64 (x17_1 + 1)), (by first | rfl | (simp; done) | (simp [*]; done)), H', ⟨by have := HK1.out; have := HJ10.out; have := HK3.out; omega⟩, ⟨by (with_reducible repeat (first | apply Kd.R_alloc | apply Kd.R_drewN | apply Kd.R_drew)); exact HO_4.out⟩, ⟨by (with_reducible repeat (first | apply Kd.R_alloc | apply Kd.R_drewN | apply Kd.R_drew)); exact HO_15.out⟩, ⟨by (with_reducible repeat (first | apply Kd.R_alloc | apply Kd.R_drewN | apply Kd.R_drew)); exact HO_176000.out⟩, ⟨by (with_reducible repeat (first | apply Kd.R_alloc | apply Kd.R_drewN | apply Kd.R_drew)); exact HO_176001.out⟩, ⟨BK175.out⟩, ⟨by repeat with_reducible first | exact HB.out | apply pw_below_drewN | apply below_drew1 | apply below_alloc⟩⟩
       rw [if_pos c16] at H
       have c16b0 := decide_eq_true c16
       clear c16
       by_cases c17 : 0 ≤ x9_3
       rotate_left
       ·
        rw [if_neg c17] at H
        exact absurd H (by simp)
       rw [if_pos c17] at H
       have c17b0 := decide_eq_true c17
       clear c17
       by_cases c18 : x9_3 < (t169.length : Int)
       rotate_left
       ·
        rw [if_neg c18] at H
        exact absurd H (by simp)
       rw [if_pos c18] at H
       have c18b0 := decide_eq_true c18
       clear c18
       replace H := Option.bind_eq_some_iff.mp H
       obtain ⟨t182, A190, H⟩ := H
       (try dsimp only at H)
       have A19 := Aside0.mk A190
       clear A190
       by_cases c20 : x4_3.length < 5864062014805
       rotate_left
       ·
        rw [if_neg c20] at H
        exact absurd H (by simp)
       rw [if_pos c20] at H
       have LMc20 := Aside0.mk c20
       clear c20
       obtain ⟨y183, hy183⟩ : ∃ y_ : List (S142), y_ = (x4_3 ++ [(⟨x9_3, t182, (x9_3 == (rd t172 x17_1)), (x9_3 == (wrap64 (t177 - 1)))⟩ : S142)]) := ⟨_, rfl⟩
       replace H : (words_cells.l1 k3 a1 y183 (rd t172 x17_1) t177 (wrap64 (x9_3 + 1)) t172 (t172.length : Int) x17_1 t169 t172) = some r := by first | (rw [hy183]; with_reducible exact H) | (have H2_ := (Option.bind_some _ _).symm.trans H; rw [hy183]; with_reducible exact H2_) | (have H2_ := (Option.bind_some _ _).symm.trans H; with_reducible exact H2_) | with_reducible exact H | (rw [hy183]; exact H) | exact H
       have Ny183 := Aside0.mk hy183
       clear hy183
       have H' := Aside0.mk H
       clear H
       have hcz21_0 := cz0 BK175.out
       have hcz21_1 := cz1 BK175.out
       have hfz21_0 := blk_frozen BK175.out 0
       have hfz21_1 := blk_frozen BK175.out 1
       have p181 : 0 ≤ (x9_3 : Int) := of_decide_eq_true (by assumption)
       have q181 : x9_3 < (t169.length : Int) := of_decide_eq_true (by assumption)
       obtain ⟨ad181, e181, hx181_0⟩ := Kd.at_int (Kd.R_reads' HO_176000.out).2.2 x9_3 p181 q181
       cases e181
       replace p181 := eq_true p181
       replace q181 := eq_true q181
       go_wp2_with (first | ((with_reducible refine gate_callee (f := 104) rfl ?_); refine goesL_ (some 49) rfl rfl Tryd.func104 (by kernel_rfl) rfl #[.int .i32 (rd t169 x9_3), .bool a1] rfl (map2 rfl rfl) ?_; (with_reducible refine (words_Class.calls k3 (rd t169 x9_3) a1 t182 _ A19.out).mono ?_); rintro e w' ⟨rfl, ⟨nd, rfl⟩⟩; refine ⟨_, rfl, ?_⟩) | ((with_reducible refine gate_builtin (b := .append) (xs := #[.tmp 39, .tmp 58]) rfl ?_); at_builtin; refine Kd.R_append k142 (w0 := w) w.heap.size rfl (.tmp 39) (.tmp 58) 134 142 (.agg #[(.int .i64 0), (.int .i64 0), (.bool false), (.bool false)]) 24 rfl Tryd.underlying134 info142 rfl (by decide) (by omega) u4 x4_3 (⟨x9_3, t182, (x9_3 == (rd t172 x17_1)), (x9_3 == (wrap64 (t177 - 1)))⟩ : S142) [.int .i64 x9_3, .int .i64 t182, .bool (x9_3 == (rd t172 x17_1)), .bool (x9_3 == (wrap64 (t177 - 1)))] (fun _ => True) (fun _ => False) rfl rfl ?aP (fun _ hk => hk.elim) ?aF ?aO ?aB ?aS ?aL ?_; (case aP => exact k142_mkM _ _ _ (⟨x9_3, t182, (x9_3 == (rd t172 x17_1)), (x9_3 == (wrap64 (t177 - 1)))⟩ : S142)); (case aB => exact (by repeat with_reducible first | exact HB.out | apply pw_below_drewN | apply below_drew1 | apply below_alloc)); (case aF => exact (fun _ _ => trivial)); (case aO => exact (by (with_reducible repeat (first | apply Kd.R_alloc | apply Kd.R_drewN | apply Kd.R_drew)); exact HO_4.out)); (case aS => exact (below_size (by repeat with_reducible first | exact HB.out | apply pw_below_drewN | apply below_drew1 | apply below_alloc))); (case aL => have := LMc20.out; omega); intro v184 w22 ho hb hg hat; rw [← Ny183.out] at ho; have n0_ := Aside0.mk (Kd.R_over' (by (with_reducible repeat (first | apply Kd.R_alloc | apply Kd.R_drewN | apply Kd.R_drew)); exact HO_15.out) (Kd.R_typed (by (with_reducible repeat (first | apply Kd.R_alloc | apply Kd.R_drewN | apply Kd.R_drew)); exact HO_4.out)) (by decide) hg); have n1_ := Aside0.mk (Kd.R_over' (by (with_reducible repeat (first | apply Kd.R_alloc | apply Kd.R_drewN | apply Kd.R_drew)); exact HO_176000.out) (Kd.R_typed (by (with_reducible repeat (first | apply Kd.R_alloc | apply Kd.R_drewN | apply Kd.R_drew)); exact HO_4.out)) (by decide) hg); have n2_ := Aside0.mk (Kd.R_over' (by (with_reducible repeat (first | apply Kd.R_alloc | apply Kd.R_drewN | apply Kd.R_drew)); exact HO_176001.out) (Kd.R_typed (by (with_reducible repeat (first | apply Kd.R_alloc | apply Kd.R_drewN | apply Kd.R_drew)); exact HO_4.out)) (by decide) hg); have n3_ := Aside0.mk (blk_grown (g := gb175) (o := .cells #[.slice (some ad181) t169.length co12, .slice (some ad176) t172.length co6] 79 (0, 0)) (by exact BK175.out) hg (Kd.R_ne HO_4.out BK175.out (by decide))); have n4_ := Aside0.mk (hb); have n5_ := Aside0.mk (ho); clear HO_15; clear HO_176000; clear HO_176001; clear BK175; clear HB; clear HO_4; have HO_15 := n0_; have HO_176000 := n1_; have HO_176001 := n2_; have BK175 := n3_; have HB := n4_; have HO185 := n5_; clear n0_ n1_ n2_ n3_ n4_ n5_; clear ho hb hg hat))
       go_roundg k3
       case measure => have := HK1.out; have := HJ10.out; have := HK3.out; omega
       case rel => exact ⟨(y183), (wrap64 (x9_3 + 1)), (by first | rfl | (simp; done) | (simp [*]; done)), H', ⟨by have := HK1.out; have := HJ10.out; have := HK3.out; omega⟩, ⟨by (with_reducible repeat (first | apply Kd.R_alloc | apply Kd.R_drewN | apply Kd.R_drew)); exact HO185.out⟩, ⟨by (with_reducible repeat (first | apply Kd.R_alloc | apply Kd.R_drewN | apply Kd.R_drew)); exact HO_15.out⟩, ⟨by (with_reducible repeat (first | apply Kd.R_alloc | apply Kd.R_drewN | apply Kd.R_drew)); exact HO_176000.out⟩, ⟨by (with_reducible repeat (first | apply Kd.R_alloc | apply Kd.R_drewN | apply Kd.R_drew)); exact HO_176001.out⟩, ⟨BK175.out⟩, ⟨by repeat with_reducible first | exact HB.out | apply pw_below_drewN | apply below_drew1 | apply below_alloc⟩⟩

/-! ### words_begins: function 114 -/
def words_begins.f (l0 : List (S142)) (a1 : Int) : Option (Bool) := if 0 ≤ a1 then (if a1 < (l0.length : Int) then (if ((rd_T142 l0 a1).f1) = 0 then (some false) else (if (rd_T142 l0 a1).f2 = true then (some true) else (if 0 ≤ (wrap64 (a1 - 1)) then (if (wrap64 (a1 - 1)) < (l0.length : Int) then (some (((rd_T142 l0 (wrap64 (a1 - 1))).f1) != ((rd_T142 l0 a1).f1))) else (none)) else (none)))) else (none)) else (none)
set_option maxHeartbeats 8000000 in
set_option maxRecDepth 100000 in
theorem words_begins.calls (A0 : Option Addr) (c0 : Nat) (l0 : List (S142)) (a1 : Int) (r : Bool) (w : World) (hr0 : Kd.C k142 w A0 l0.length l0) (hc0 : l0.length ≤ c0) (h : words_begins.f l0 a1 = some r) :
  Calls Tryd.prog 114 #[.slice A0 l0.length c0, .int .i64 a1] w fun e w' => e = .returned (.bool r) ∧ Drawn0 w w' := by
 have HR0 := Aside0.mk hr0
 have HC0 := Aside0.mk hc0
 clear hr0 hc0
 have H : (if 0 ≤ a1 then (if a1 < (l0.length : Int) then (if ((rd_T142 l0 a1).f1) = 0 then (some false) else (if (rd_T142 l0 a1).f2 = true then (some true) else (if 0 ≤ (wrap64 (a1 - 1)) then (if (wrap64 (a1 - 1)) < (l0.length : Int) then (some (((rd_T142 l0 (wrap64 (a1 - 1))).f1) != ((rd_T142 l0 a1).f1))) else (none)) else (none)))) else (none)) else (none)) = some r := h
 clear h
 by_cases c3 : 0 ≤ a1
 rotate_left
 ·
  rw [if_neg c3] at H
  exact absurd H (by simp)
 rw [if_pos c3] at H
 have c3b0 := decide_eq_true c3
 clear c3
 by_cases c4 : a1 < (l0.length : Int)
 rotate_left
 ·
  rw [if_neg c4] at H
  exact absurd H (by simp)
 rw [if_pos c4] at H
 have c4b0 := decide_eq_true c4
 clear c4
 by_cases c5 : ((rd_T142 l0 a1).f1) = 0
 ·
  rw [if_pos c5] at H
  have c5b0 : (((rd_T142 l0 a1).f1) == 0) = true := beq_iff_eq.mpr c5
  have c5b1 : (((rd_T142 l0 a1).f1) != 0) = false := bne_eq_false_iff_eq.mpr c5
  clear c5
  obtain rfl := Option.some.inj H
  have p186 : 0 ≤ (a1 : Int) := of_decide_eq_true (by assumption)
  have q186 : a1 < (l0.length : Int) := of_decide_eq_true (by assumption)
  obtain ⟨ad186, e186, hx186_0, hx186_1, hx186_2, hx186_3⟩ := at_T142 HR0.out a1 p186 q186
  cases e186
  replace p186 := eq_true p186
  replace q186 := eq_true q186
  go_enter Tryd.func114, Tryd.ntmps114
  go_wp2
  repeat (go_quiet (fail); try go_wp2)
  go_ret
  exact ⟨by first | rfl | (simp; done) | (simp [*]; done), by repeat (first | exact Drawn0.refl _ | apply Drawn0.step)⟩
 rw [if_neg c5] at H
 have c5b0 : (((rd_T142 l0 a1).f1) == 0) = false := beq_eq_false_iff_ne.mpr c5
 have c5b1 : (((rd_T142 l0 a1).f1) != 0) = true := bne_iff_ne.mpr c5
 obtain ⟨bq6, hbq6⟩ : ∃ b_ : Bool, b_ = ((rd_T142 l0 a1).f2) := ⟨_, rfl⟩
 replace H : (if bq6 = true then (some true) else (if 0 ≤ (wrap64 (a1 - 1)) then (if (wrap64 (a1 - 1)) < (l0.length : Int) then (some (((rd_T142 l0 (wrap64 (a1 - 1))).f1) != ((rd_T142 l0 a1).f1))) else (none)) else (none))) = some r := by rw [← hbq6] at H; exact H
 have Nbq6 := Aside0.mk hbq6
 clear hbq6
 by_cases c7 : bq6 = true
 ·
  subst c7
  have H1 : (some true) = some r := by rw [if_pos rfl] at H; exact H
  clear H
  have H := H1
  clear H1
  obtain rfl := Option.some.inj H
  have p186 : 0 ≤ (a1 : Int) := of_decide_eq_true (by assumption)
  have q186 : a1 < (l0.length : Int) := of_decide_eq_true (by assumption)
  obtain ⟨ad186, e186, hx186_0, hx186_1, hx186_2, hx186_3⟩ := at_T142 HR0.out a1 p186 q186
  (try rw [← Nbq6.out] at hx186_2)
  (try rw [← Nbq6.out] at hx186_3)
  cases e186
  replace p186 := eq_true p186
  replace q186 := eq_true q186
  have p187 : 0 ≤ (a1 : Int) := of_decide_eq_true (by assumption)
  have q187 : a1 < (l0.length : Int) := of_decide_eq_true (by assumption)
  obtain ⟨ad187, e187, hx187_0, hx187_1, hx187_2, hx187_3⟩ := at_T142 HR0.out a1 p187 q187
  (try rw [← Nbq6.out] at hx187_2)
  (try rw [← Nbq6.out] at hx187_3)
  obtain rfl : ad186 = ad187 := (by injection e187)
  replace p187 := eq_true p187
  replace q187 := eq_true q187
  go_enter Tryd.func114, Tryd.ntmps114
  go_wp2
  repeat (go_quiet (fail); try go_wp2)
  go_ret
  exact ⟨by first | rfl | (simp; done) | (simp [*]; done), by repeat (first | exact Drawn0.refl _ | apply Drawn0.step)⟩
 replace c7 := Bool.eq_false_iff.mpr c7
 subst c7
 have H1 : (if 0 ≤ (wrap64 (a1 - 1)) then (if (wrap64 (a1 - 1)) < (l0.length : Int) then (some (((rd_T142 l0 (wrap64 (a1 - 1))).f1) != ((rd_T142 l0 a1).f1))) else (none)) else (none)) = some r := by rw [if_neg (show ¬ (false = true) by decide)] at H; exact H
 clear H
 have H := H1
 clear H1
 obtain ⟨ji8, hji8⟩ : ∃ j_ : Int, (wrap64 (a1 - 1)) = j_ := ⟨_, rfl⟩
 replace H : (if 0 ≤ (ji8) then (if (ji8) < (l0.length : Int) then (some (((rd_T142 l0 (ji8)).f1) != ((rd_T142 l0 a1).f1))) else (none)) else (none)) = some r := by first | (rw [hji8] at H; exact H) | (simp only [hji8] at H ⊢; exact H)
 have hji8w : (IntKind.i64.wrap (a1 - 1)) = ji8 := (i64_w _).trans hji8
 by_cases c9 : 0 ≤ (ji8)
 rotate_left
 ·
  rw [if_neg c9] at H
  exact absurd H (by simp)
 rw [if_pos c9] at H
 have c9b0 := decide_eq_true c9
 clear c9
 by_cases c10 : (ji8) < (l0.length : Int)
 rotate_left
 ·
  rw [if_neg c10] at H
  exact absurd H (by simp)
 rw [if_pos c10] at H
 have c10b0 := decide_eq_true c10
 clear c10
 obtain rfl := Option.some.inj H
 have p186 : 0 ≤ (a1 : Int) := of_decide_eq_true (by assumption)
 have q186 : a1 < (l0.length : Int) := of_decide_eq_true (by assumption)
 obtain ⟨ad186, e186, hx186_0, hx186_1, hx186_2, hx186_3⟩ := at_T142 HR0.out a1 p186 q186
 (try rw [← Nbq6.out] at hx186_2)
 (try rw [← Nbq6.out] at hx186_3)
 cases e186
 replace p186 := eq_true p186
 replace q186 := eq_true q186
 have p187 : 0 ≤ (a1 : Int) := of_decide_eq_true (by assumption)
 have q187 : a1 < (l0.length : Int) := of_decide_eq_true (by assumption)
 obtain ⟨ad187, e187, hx187_0, hx187_1, hx187_2, hx187_3⟩ := at_T142 HR0.out a1 p187 q187
 (try rw [← Nbq6.out] at hx187_2)
 (try rw [← Nbq6.out] at hx187_3)
 obtain rfl : ad186 = ad187 := (by injection e187)
 replace p187 := eq_true p187
 replace q187 := eq_true q187
 have p188 : 0 ≤ ((ji8) : Int) := of_decide_eq_true (by assumption)
 have q188 : (ji8) < (l0.length : Int) := of_decide_eq_true (by assumption)
 obtain ⟨ad188, e188, hx188_0, hx188_1, hx188_2, hx188_3⟩ := at_T142 HR0.out (ji8) p188 q188
 (try rw [← Nbq6.out] at hx188_2)
 (try rw [← Nbq6.out] at hx188_3)
 obtain rfl : ad186 = ad188 := (by injection e188)
 replace p188 := eq_true p188
 replace q188 := eq_true q188
 have p189 : 0 ≤ (a1 : Int) := of_decide_eq_true (by assumption)
 have q189 : a1 < (l0.length : Int) := of_decide_eq_true (by assumption)
 obtain ⟨ad189, e189, hx189_0, hx189_1, hx189_2, hx189_3⟩ := at_T142 HR0.out a1 p189 q189
 (try rw [← Nbq6.out] at hx189_2)
 (try rw [← Nbq6.out] at hx189_3)
 obtain rfl : ad186 = ad189 := (by injection e189)
 replace p189 := eq_true p189
 replace q189 := eq_true q189
 go_enter Tryd.func114, Tryd.ntmps114
 go_wp2
 repeat (go_quiet (fail); try go_wp2)
 go_ret
 exact ⟨by first | rfl | (simp; done) | (simp only [← hji8] <;> (first | rfl | simp)) | (simp [*]; done), by repeat (first | exact Drawn0.refl _ | apply Drawn0.step)⟩

/-! ### words_ends: function 116 -/
def words_ends.f (l0 : List (S142)) (a1 : Int) : Option (Bool) := if 0 ≤ a1 then (if a1 < (l0.length : Int) then (if ((rd_T142 l0 a1).f1) = 0 then (some false) else (if (rd_T142 l0 a1).f3 = true then (some true) else (if 0 ≤ (wrap64 (a1 + 1)) then (if (wrap64 (a1 + 1)) < (l0.length : Int) then (some (((rd_T142 l0 (wrap64 (a1 + 1))).f1) != ((rd_T142 l0 a1).f1))) else (none)) else (none)))) else (none)) else (none)
set_option maxHeartbeats 8000000 in
set_option maxRecDepth 100000 in
theorem words_ends.calls (A0 : Option Addr) (c0 : Nat) (l0 : List (S142)) (a1 : Int) (r : Bool) (w : World) (hr0 : Kd.C k142 w A0 l0.length l0) (hc0 : l0.length ≤ c0) (h : words_ends.f l0 a1 = some r) :
  Calls Tryd.prog 116 #[.slice A0 l0.length c0, .int .i64 a1] w fun e w' => e = .returned (.bool r) ∧ Drawn0 w w' := by
 have HR0 := Aside0.mk hr0
 have HC0 := Aside0.mk hc0
 clear hr0 hc0
 have H : (if 0 ≤ a1 then (if a1 < (l0.length : Int) then (if ((rd_T142 l0 a1).f1) = 0 then (some false) else (if (rd_T142 l0 a1).f3 = true then (some true) else (if 0 ≤ (wrap64 (a1 + 1)) then (if (wrap64 (a1 + 1)) < (l0.length : Int) then (some (((rd_T142 l0 (wrap64 (a1 + 1))).f1) != ((rd_T142 l0 a1).f1))) else (none)) else (none)))) else (none)) else (none)) = some r := h
 clear h
 by_cases c3 : 0 ≤ a1
 rotate_left
 ·
  rw [if_neg c3] at H
  exact absurd H (by simp)
 rw [if_pos c3] at H
 have c3b0 := decide_eq_true c3
 clear c3
 by_cases c4 : a1 < (l0.length : Int)
 rotate_left
 ·
  rw [if_neg c4] at H
  exact absurd H (by simp)
 rw [if_pos c4] at H
 have c4b0 := decide_eq_true c4
 clear c4
 by_cases c5 : ((rd_T142 l0 a1).f1) = 0
 ·
  rw [if_pos c5] at H
  have c5b0 : (((rd_T142 l0 a1).f1) == 0) = true := beq_iff_eq.mpr c5
  have c5b1 : (((rd_T142 l0 a1).f1) != 0) = false := bne_eq_false_iff_eq.mpr c5
  clear c5
  obtain rfl := Option.some.inj H
  have p190 : 0 ≤ (a1 : Int) := of_decide_eq_true (by assumption)
  have q190 : a1 < (l0.length : Int) := of_decide_eq_true (by assumption)
  obtain ⟨ad190, e190, hx190_0, hx190_1, hx190_2, hx190_3⟩ := at_T142 HR0.out a1 p190 q190
  cases e190
  replace p190 := eq_true p190
  replace q190 := eq_true q190
  go_enter Tryd.func116, Tryd.ntmps116
  go_wp2
  repeat (go_quiet (fail); try go_wp2)
  go_ret
  exact ⟨by first | rfl | (simp; done) | (simp [*]; done), by repeat (first | exact Drawn0.refl _ | apply Drawn0.step)⟩
 rw [if_neg c5] at H
 have c5b0 : (((rd_T142 l0 a1).f1) == 0) = false := beq_eq_false_iff_ne.mpr c5
 have c5b1 : (((rd_T142 l0 a1).f1) != 0) = true := bne_iff_ne.mpr c5
 obtain ⟨bq6, hbq6⟩ : ∃ b_ : Bool, b_ = ((rd_T142 l0 a1).f3) := ⟨_, rfl⟩
 replace H : (if bq6 = true then (some true) else (if 0 ≤ (wrap64 (a1 + 1)) then (if (wrap64 (a1 + 1)) < (l0.length : Int) then (some (((rd_T142 l0 (wrap64 (a1 + 1))).f1) != ((rd_T142 l0 a1).f1))) else (none)) else (none))) = some r := by rw [← hbq6] at H; exact H
 have Nbq6 := Aside0.mk hbq6
 clear hbq6
 by_cases c7 : bq6 = true
 ·
  subst c7
  have H1 : (some true) = some r := by rw [if_pos rfl] at H; exact H
  clear H
  have H := H1
  clear H1
  obtain rfl := Option.some.inj H
  have p190 : 0 ≤ (a1 : Int) := of_decide_eq_true (by assumption)
  have q190 : a1 < (l0.length : Int) := of_decide_eq_true (by assumption)
  obtain ⟨ad190, e190, hx190_0, hx190_1, hx190_2, hx190_3⟩ := at_T142 HR0.out a1 p190 q190
  (try rw [← Nbq6.out] at hx190_2)
  (try rw [← Nbq6.out] at hx190_3)
  cases e190
  replace p190 := eq_true p190
  replace q190 := eq_true q190
  have p191 : 0 ≤ (a1 : Int) := of_decide_eq_true (by assumption)
  have q191 : a1 < (l0.length : Int) := of_decide_eq_true (by assumption)
  obtain ⟨ad191, e191, hx191_0, hx191_1, hx191_2, hx191_3⟩ := at_T142 HR0.out a1 p191 q191
  (try rw [← Nbq6.out] at hx191_2)
  (try rw [← Nbq6.out] at hx191_3)
  obtain rfl : ad190 = ad191 := (by injection e191)
  replace p191 := eq_true p191
  replace q191 := eq_true q191
  go_enter Tryd.func116, Tryd.ntmps116
  go_wp2
  repeat (go_quiet (fail); try go_wp2)
  go_ret
  exact ⟨by first | rfl | (simp; done) | (simp [*]; done), by repeat (first | exact Drawn0.refl _ | apply Drawn0.step)⟩
 replace c7 := Bool.eq_false_iff.mpr c7
 subst c7
 have H1 : (if 0 ≤ (wrap64 (a1 + 1)) then (if (wrap64 (a1 + 1)) < (l0.length : Int) then (some (((rd_T142 l0 (wrap64 (a1 + 1))).f1) != ((rd_T142 l0 a1).f1))) else (none)) else (none)) = some r := by rw [if_neg (show ¬ (false = true) by decide)] at H; exact H
 clear H
 have H := H1
 clear H1
 obtain ⟨ji8, hji8⟩ : ∃ j_ : Int, (wrap64 (a1 + 1)) = j_ := ⟨_, rfl⟩
 replace H : (if 0 ≤ (ji8) then (if (ji8) < (l0.length : Int) then (some (((rd_T142 l0 (ji8)).f1) != ((rd_T142 l0 a1).f1))) else (none)) else (none)) = some r := by first | (rw [hji8] at H; exact H) | (simp only [hji8] at H ⊢; exact H)
 have hji8w : (IntKind.i64.wrap (a1 + 1)) = ji8 := (i64_w _).trans hji8
 by_cases c9 : 0 ≤ (ji8)
 rotate_left
 ·
  rw [if_neg c9] at H
  exact absurd H (by simp)
 rw [if_pos c9] at H
 have c9b0 := decide_eq_true c9
 clear c9
 by_cases c10 : (ji8) < (l0.length : Int)
 rotate_left
 ·
  rw [if_neg c10] at H
  exact absurd H (by simp)
 rw [if_pos c10] at H
 have c10b0 := decide_eq_true c10
 clear c10
 obtain rfl := Option.some.inj H
 have p190 : 0 ≤ (a1 : Int) := of_decide_eq_true (by assumption)
 have q190 : a1 < (l0.length : Int) := of_decide_eq_true (by assumption)
 obtain ⟨ad190, e190, hx190_0, hx190_1, hx190_2, hx190_3⟩ := at_T142 HR0.out a1 p190 q190
 (try rw [← Nbq6.out] at hx190_2)
 (try rw [← Nbq6.out] at hx190_3)
 cases e190
 replace p190 := eq_true p190
 replace q190 := eq_true q190
 have p191 : 0 ≤ (a1 : Int) := of_decide_eq_true (by assumption)
 have q191 : a1 < (l0.length : Int) := of_decide_eq_true (by assumption)
 obtain ⟨ad191, e191, hx191_0, hx191_1, hx191_2, hx191_3⟩ := at_T142 HR0.out a1 p191 q191
 (try rw [← Nbq6.out] at hx191_2)
 (try rw [← Nbq6.out] at hx191_3)
 obtain rfl : ad190 = ad191 := (by injection e191)
 replace p191 := eq_true p191
 replace q191 := eq_true q191
 have p192 : 0 ≤ ((ji8) : Int) := of_decide_eq_true (by assumption)
 have q192 : (ji8) < (l0.length : Int) := of_decide_eq_true (by assumption)
 obtain ⟨ad192, e192, hx192_0, hx192_1, hx192_2, hx192_3⟩ := at_T142 HR0.out (ji8) p192 q192
 (try rw [← Nbq6.out] at hx192_2)
 (try rw [← Nbq6.out] at hx192_3)
 obtain rfl : ad190 = ad192 := (by injection e192)
 replace p192 := eq_true p192
 replace q192 := eq_true q192
 have p193 : 0 ≤ (a1 : Int) := of_decide_eq_true (by assumption)
 have q193 : a1 < (l0.length : Int) := of_decide_eq_true (by assumption)
 obtain ⟨ad193, e193, hx193_0, hx193_1, hx193_2, hx193_3⟩ := at_T142 HR0.out a1 p193 q193
 (try rw [← Nbq6.out] at hx193_2)
 (try rw [← Nbq6.out] at hx193_3)
 obtain rfl : ad190 = ad193 := (by injection e193)
 replace p193 := eq_true p193
 replace q193 := eq_true q193
 go_enter Tryd.func116, Tryd.ntmps116
 go_wp2
 repeat (go_quiet (fail); try go_wp2)
 go_ret
 exact ⟨by first | rfl | (simp; done) | (simp only [← hji8] <;> (first | rfl | simp)) | (simp [*]; done), by repeat (first | exact Drawn0.refl _ | apply Drawn0.step)⟩

end Go.Proofs.YtbgmmcngkdhpcaaDoor.P
