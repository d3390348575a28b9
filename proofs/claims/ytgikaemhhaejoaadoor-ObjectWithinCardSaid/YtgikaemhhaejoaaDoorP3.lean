/- The walks of the functions that these statements reach: each Go function as a plain Lean function, and the proof that its call comes to that. Written by the session's program wip/pp.py. -/
import Derived.Test.YtgikaemhhaejoaaDoorP0
import Derived.Test.YtgikaemhhaejoaaDoorP2
namespace Go.Proofs.YtgikaemhhaejoaaDoor.P
open Go.Proofs.YtgikaemhhaejoaaDoor
open Go.RowKit Go.Proofs.YtgikaemhhaejoaaDoorW.PrintWords Go.Proofs.YtgikaemhhaejoaaDoorW.PrintLast Go.Proofs.YtgikaemhhaejoaaDoorW.PrintMore
attribute [local go_sem] max2_int min2_int max_two min_two max_three min_three max_four min_four   -- for this text's walks alone
set_option linter.unusedVariables false
set_option linter.unusedSimpArgs false

/-! ### text_made: function 73 -/
def text_made.j0 : Nat → Int → Bool → Option (Int)
  | 0, _, _ => none
  | k + 1, x0, x3 => if x3 = true then (some 0) else (if x0 = 95 then (some 1) else (if x0 ≥ 48 then (if x0 ≤ 57 then (some 1) else (if x0 ≥ 97 then (if x0 ≤ 122 then (some 1) else (if x0 ≥ 65 then (if x0 ≤ 90 then (some 1) else (some 2)) else (some 2))) else (if x0 ≥ 65 then (if x0 ≤ 90 then (some 1) else (some 2)) else (some 2)))) else (if x0 ≥ 97 then (if x0 ≤ 122 then (some 1) else (if x0 ≥ 65 then (if x0 ≤ 90 then (some 1) else (some 2)) else (some 2))) else (if x0 ≥ 65 then (if x0 ≤ 90 then (some 1) else (some 2)) else (some 2)))))
def text_made.f (k : Nat) (a0 : Int) : Option (Int) := if a0 = 32 then (text_made.j0 k a0 true) else (text_made.j0 k a0 (a0 == 9))
theorem text_made.mono_l : ∀ k, (∀ y0 y1, LeO (text_made.j0 k y0 y1) (text_made.j0 (k + 1) y0 y1))
  | 0 => fun _ _ r h => by simp [text_made.j0] at h
  | k + 1 => by
    have ih0 := text_made.mono_l k
    all_goals intros
    all_goals first | unfold text_made.j0
    all_goals repeat' first | (with_reducible first | exact ih0 _ _ | exact LeO.refl _ | exact LeO.none _ | refine LeO.ite ?_ ?_ | refine LeO.bind ?_ (fun _ => ?_)) | exact ih0 _ _ | exact LeO.refl _ | exact LeO.none _ | refine LeO.ite ?_ ?_ | refine LeO.bind ?_ (fun _ => ?_)
theorem text_made.mono : ∀ a0 k, LeO (text_made.f k a0) (text_made.f (k + 1) a0) := by
  intro a0 k
  have ih0 := text_made.mono_l k
  unfold text_made.f
  repeat' first | (with_reducible first | exact ih0 _ _ | exact LeO.refl _ | exact LeO.none _ | refine LeO.ite ?_ ?_ | refine LeO.bind ?_ (fun _ => ?_)) | exact ih0 _ _ | exact LeO.refl _ | exact LeO.none _ | refine LeO.ite ?_ ?_ | refine LeO.bind ?_ (fun _ => ?_)
set_option maxHeartbeats 8000000 in
set_option maxRecDepth 100000 in
theorem text_made.calls (k : Nat) (a0 : Int) (r : Int) (w : World) (h : text_made.f k a0 = some r) :
  Calls Tryd.prog 73 #[.int .i64 a0] w fun e w' => e = .returned (.int .i64 r) ∧ Drawn0 w w' := by
 have H : (if a0 = 32 then (text_made.j0 k a0 true) else (text_made.j0 k a0 (a0 == 9))) = some r := h
 clear h
 have HC2 := Aside0.mk H
 clear H
 go_enter Tryd.func73, Tryd.ntmps73
 go_upto_region 1 with (fail)
 go_cut [3] (fun v3 wc => ∃ (kq : Nat) (x3_1 : Bool), v3 = .bool x3_1 ∧ Aside0 (text_made.j0 kq a0 x3_1 = some r) ∧ Aside0 (kq ≤ k) ∧ Drawn0 w wc)
 case first =>
  have H := HC2.out
  clear HC2
  by_cases c3 : a0 = 32
  rotate_left
  ·
   rw [if_neg c3] at H
   have c3b0 : (a0 == 32) = false := beq_eq_false_iff_ne.mpr c3
   have c3b1 : (a0 != 32) = true := bne_iff_ne.mpr c3
   (first | rw [c3b0] | (simp only [i64_w, i32_w]; rw [c3b0]) | skip)
   have H' := Aside0.mk H
   clear H
   go_wp2
   go_meet
   case rel => exact ⟨_, ((a0 == 9)), (by first | rfl | (simp; done) | (simp [*]; done)), H', ⟨by first | omega | exact Nat.le_refl _⟩, by repeat (first | exact Drawn0.refl _ | apply Drawn0.step)⟩
  rw [if_pos c3] at H
  have c3b0 : (a0 == 32) = true := beq_iff_eq.mpr c3
  have c3b1 : (a0 != 32) = false := bne_eq_false_iff_eq.mpr c3
  clear c3
  (first | rw [c3b0] | (simp only [i64_w, i32_w]; rw [c3b0]) | skip)
  have H' := Aside0.mk H
  clear H
  go_wp2
  go_meet
  case rel => exact ⟨_, (true), (by first | rfl | (simp; done) | (simp [*]; done)), H', ⟨by first | omega | exact Nat.le_refl _⟩, by repeat (first | exact Drawn0.refl _ | apply Drawn0.step)⟩
 case rest =>
  clear HC2
  obtain ⟨kq, x3_1, rfl, HA, HJ1, ⟨mc1, rfl⟩⟩ := hcut
  cases kq with
  | zero => exact absurd HA.out (by simp [text_made.j0])
  | succ kj1 =>
   have H := HA.out
   clear HA
   simp only [text_made.j0] at H
   by_cases c4 : x3_1 = true
   ·
    subst c4
    have H1 : (some 0) = some r := by rw [if_pos rfl] at H; exact H
    clear H
    have H := H1
    clear H1
    obtain rfl := Option.some.inj H
    go_wp2
    go_ret
    exact ⟨by first | rfl | (simp; done) | (simp [*]; done), by repeat (first | exact Drawn0.refl _ | apply Drawn0.step)⟩
   replace c4 := Bool.eq_false_iff.mpr c4
   subst c4
   have H1 : (if a0 = 95 then (some 1) else (if a0 ≥ 48 then (if a0 ≤ 57 then (some 1) else (if a0 ≥ 97 then (if a0 ≤ 122 then (some 1) else (if a0 ≥ 65 then (if a0 ≤ 90 then (some 1) else (some 2)) else (some 2))) else (if a0 ≥ 65 then (if a0 ≤ 90 then (some 1) else (some 2)) else (some 2)))) else (if a0 ≥ 97 then (if a0 ≤ 122 then (some 1) else (if a0 ≥ 65 then (if a0 ≤ 90 then (some 1) else (some 2)) else (some 2))) else (if a0 ≥ 65 then (if a0 ≤ 90 then (some 1) else (some 2)) else (some 2))))) = some r := by rw [if_neg (show ¬ (false = true) by decide)] at H; exact H
   clear H
   have H := H1
   clear H1
   by_cases c5 : a0 = 95
   ·
    rw [if_pos c5] at H
    have c5b0 : (a0 == 95) = true := beq_iff_eq.mpr c5
    have c5b1 : (a0 != 95) = false := bne_eq_false_iff_eq.mpr c5
    clear c5
    obtain rfl := Option.some.inj H
    go_wp2
    go_ret
    exact ⟨by first | rfl | (simp; done) | (simp [*]; done), by repeat (first | exact Drawn0.refl _ | apply Drawn0.step)⟩
   rw [if_neg c5] at H
   have c5b0 : (a0 == 95) = false := beq_eq_false_iff_ne.mpr c5
   have c5b1 : (a0 != 95) = true := bne_iff_ne.mpr c5
   by_cases c6 : a0 ≥ 48
   rotate_left
   ·
    rw [if_neg c6] at H
    have c6b0 := decide_eq_false c6
    clear c6
    by_cases c14 : a0 ≥ 97
    rotate_left
    ·
     rw [if_neg c14] at H
     have c14b0 := decide_eq_false c14
     clear c14
     by_cases c18 : a0 ≥ 65
     rotate_left
     ·
      rw [if_neg c18] at H
      have c18b0 := decide_eq_false c18
      clear c18
      obtain rfl := Option.some.inj H
      go_wp2
      go_ret
      exact ⟨by first | rfl | (simp; done) | (simp [*]; done), by repeat (first | exact Drawn0.refl _ | apply Drawn0.step)⟩
     rw [if_pos c18] at H
     have c18b0 := decide_eq_true c18
     clear c18
     by_cases c19 : a0 ≤ 90
     ·
      rw [if_pos c19] at H
      have c19b0 := decide_eq_true c19
      clear c19
      obtain rfl := Option.some.inj H
      go_wp2
      go_ret
      exact ⟨by first | rfl | (simp; done) | (simp [*]; done), by repeat (first | exact Drawn0.refl _ | apply Drawn0.step)⟩
     rw [if_neg c19] at H
     have c19b0 := decide_eq_false c19
     clear c19
     obtain rfl := Option.some.inj H
     go_wp2
     go_ret
     exact ⟨by first | rfl | (simp; done) | (simp [*]; done), by repeat (first | exact Drawn0.refl _ | apply Drawn0.step)⟩
    rw [if_pos c14] at H
    have c14b0 := decide_eq_true c14
    clear c14
    by_cases c15 : a0 ≤ 122
    ·
     rw [if_pos c15] at H
     have c15b0 := decide_eq_true c15
     clear c15
     obtain rfl := Option.some.inj H
     go_wp2
     go_ret
     exact ⟨by first | rfl | (simp; done) | (simp [*]; done), by repeat (first | exact Drawn0.refl _ | apply Drawn0.step)⟩
    rw [if_neg c15] at H
    have c15b0 := decide_eq_false c15
    clear c15
    by_cases c16 : a0 ≥ 65
    rotate_left
    ·
     rw [if_neg c16] at H
     have c16b0 := decide_eq_false c16
     clear c16
     obtain rfl := Option.some.inj H
     go_wp2
     go_ret
     exact ⟨by first | rfl | (simp; done) | (simp [*]; done), by repeat (first | exact Drawn0.refl _ | apply Drawn0.step)⟩
    rw [if_pos c16] at H
    have c16b0 := decide_eq_true c16
    clear c16
    by_cases c17 : a0 ≤ 90
    ·
     rw [if_pos c17] at H
     have c17b0 := decide_eq_true c17
     clear c17
     obtain rfl := Option.some.inj H
     go_wp2
     go_ret
     exact ⟨by first | rfl | (simp; done) | (simp [*]; done), by repeat (first | exact Drawn0.refl _ | apply Drawn0.step)⟩
    rw [if_neg c17] at H
    have c17b0 := decide_eq_false c17
    clear c17
    obtain rfl := Option.some.inj H
    go_wp2
    go_ret
    exact ⟨by first | rfl | (simp; done) | (simp [*]; done), by repeat (first | exact Drawn0.refl _ | apply Drawn0.step)⟩
   rw [if_pos c6] at H
   have c6b0 := decide_eq_true c6
   clear c6
   by_cases c7 : a0 ≤ 57
   ·
    rw [if_pos c7] at H
    have c7b0 := decide_eq_true c7
    clear c7
    obtain rfl := Option.some.inj H
    go_wp2
    go_ret
    exact ⟨by first | rfl | (simp; done) | (simp [*]; done), by repeat (first | exact Drawn0.refl _ | apply Drawn0.step)⟩
   rw [if_neg c7] at H
   have c7b0 := decide_eq_false c7
   clear c7
   by_cases c8 : a0 ≥ 97
   rotate_left
   ·
    rw [if_neg c8] at H
    have c8b0 := decide_eq_false c8
    clear c8
    by_cases c12 : a0 ≥ 65
    rotate_left
    ·
     rw [if_neg c12] at H
     have c12b0 := decide_eq_false c12
     clear c12
     obtain rfl := Option.some.inj H
     go_wp2
     go_ret
     exact ⟨by first | rfl | (simp; done) | (simp [*]; done), by repeat (first | exact Drawn0.refl _ | apply Drawn0.step)⟩
    rw [if_pos c12] at H
    have c12b0 := decide_eq_true c12
    clear c12
    by_cases c13 : a0 ≤ 90
    ·
     rw [if_pos c13] at H
     have c13b0 := decide_eq_true c13
     clear c13
     obtain rfl := Option.some.inj H
     go_wp2
     go_ret
     exact ⟨by first | rfl | (simp; done) | (simp [*]; done), by repeat (first | exact Drawn0.refl _ | apply Drawn0.step)⟩
    rw [if_neg c13] at H
    have c13b0 := decide_eq_false c13
    clear c13
    obtain rfl := Option.some.inj H
    go_wp2
    go_ret
    exact ⟨by first | rfl | (simp; done) | (simp [*]; done), by repeat (first | exact Drawn0.refl _ | apply Drawn0.step)⟩
   rw [if_pos c8] at H
   have c8b0 := decide_eq_true c8
   clear c8
   by_cases c9 : a0 ≤ 122
   ·
    rw [if_pos c9] at H
    have c9b0 := decide_eq_true c9
    clear c9
    obtain rfl := Option.some.inj H
    go_wp2
    go_ret
    exact ⟨by first | rfl | (simp; done) | (simp [*]; done), by repeat (first | exact Drawn0.refl _ | apply Drawn0.step)⟩
   rw [if_neg c9] at H
   have c9b0 := decide_eq_false c9
   clear c9
   by_cases c10 : a0 ≥ 65
   rotate_left
   ·
    rw [if_neg c10] at H
    have c10b0 := decide_eq_false c10
    clear c10
    obtain rfl := Option.some.inj H
    go_wp2
    go_ret
    exact ⟨by first | rfl | (simp; done) | (simp [*]; done), by repeat (first | exact Drawn0.refl _ | apply Drawn0.step)⟩
   rw [if_pos c10] at H
   have c10b0 := decide_eq_true c10
   clear c10
   by_cases c11 : a0 ≤ 90
   ·
    rw [if_pos c11] at H
    have c11b0 := decide_eq_true c11
    clear c11
    obtain rfl := Option.some.inj H
    go_wp2
    go_ret
    exact ⟨by first | rfl | (simp; done) | (simp [*]; done), by repeat (first | exact Drawn0.refl _ | apply Drawn0.step)⟩
   rw [if_neg c11] at H
   have c11b0 := decide_eq_false c11
   clear c11
   obtain rfl := Option.some.inj H
   go_wp2
   go_ret
   exact ⟨by first | rfl | (simp; done) | (simp [*]; done), by repeat (first | exact Drawn0.refl _ | apply Drawn0.step)⟩

/-! ### text_Class: function 63 -/
def text_Class.f (k : Nat) (a0 : Int) : Option (Int) := if a0 < 0 then (some 2) else (if a0 ≥ 128 then (some 1) else ((text_made.f k a0).bind fun t131 => (some t131)))
theorem text_Class.mono : ∀ a0 k, LeO (text_Class.f k a0) (text_Class.f (k + 1) a0) := by
  intro a0 k
  unfold text_Class.f
  repeat' first | (with_reducible first | exact text_made.mono _ _ | exact LeO.refl _ | exact LeO.none _ | refine LeO.ite ?_ ?_ | refine LeO.bind ?_ (fun _ => ?_)) | exact text_made.mono _ _ | exact LeO.refl _ | exact LeO.none _ | refine LeO.ite ?_ ?_ | refine LeO.bind ?_ (fun _ => ?_)
set_option maxHeartbeats 8000000 in
set_option maxRecDepth 100000 in
theorem text_Class.calls (k : Nat) (a0 : Int) (r : Int) (w : World) (h : text_Class.f k a0 = some r) :
  Calls Tryd.prog 63 #[.int .i64 a0] w fun e w' => e = .returned (.int .i64 r) ∧ Drawn0 w w' := by
 have H : (if a0 < 0 then (some 2) else (if a0 ≥ 128 then (some 1) else ((text_made.f k a0).bind fun t131 => (some t131)))) = some r := h
 clear h
 by_cases c2 : a0 < 0
 ·
  rw [if_pos c2] at H
  have c2b0 := decide_eq_true c2
  clear c2
  obtain rfl := Option.some.inj H
  go_enter Tryd.func63, Tryd.ntmps63
  go_wp2
  go_ret
  exact ⟨by first | rfl | (simp; done) | (simp [*]; done), by repeat (first | exact Drawn0.refl _ | apply Drawn0.step)⟩
 rw [if_neg c2] at H
 have c2b0 := decide_eq_false c2
 clear c2
 by_cases c3 : a0 ≥ 128
 ·
  rw [if_pos c3] at H
  have c3b0 := decide_eq_true c3
  clear c3
  obtain rfl := Option.some.inj H
  go_enter Tryd.func63, Tryd.ntmps63
  go_wp2
  go_ret
  exact ⟨by first | rfl | (simp; done) | (simp [*]; done), by repeat (first | exact Drawn0.refl _ | apply Drawn0.step)⟩
 rw [if_neg c3] at H
 have c3b0 := decide_eq_false c3
 clear c3
 replace H := Option.bind_eq_some_iff.mp H
 obtain ⟨t131, A40, H⟩ := H
 (try dsimp only at H)
 have A4 := Aside0.mk A40
 clear A40
 obtain rfl := Option.some.inj H
 go_enter Tryd.func63, Tryd.ntmps63
 go_wp2_with (first | ((with_reducible refine gate_callee (f := 73) rfl ?_); refine goesL_ (some 10) rfl rfl Tryd.func73 (by kernel_rfl) rfl #[.int .i64 a0] rfl (map1 rfl) ?_; (with_reducible refine (text_made.calls k a0 t131 _ A4.out).mono ?_); rintro e w' ⟨rfl, ⟨nd, rfl⟩⟩; refine ⟨_, rfl, ?_⟩))
 go_ret
 exact ⟨by first | rfl | (simp; done) | (simp [*]; done), by repeat (first | exact Drawn0.refl _ | apply Drawn0.step)⟩

/-! ### words_Class: function 47 -/
def words_Class.f (k : Nat) (a0 : Int) (a1 : Bool) : Option (Int) := (text_Class.f k (wrap64 (a0))).bind fun t132 => (if a1 = true then (if t132 = 2 then (some 1) else (some t132)) else (some t132))
theorem words_Class.mono : ∀ a0 a1 k, LeO (words_Class.f k a0 a1) (words_Class.f (k + 1) a0 a1) := by
  intro a0 a1 k
  unfold words_Class.f
  repeat' first | (with_reducible first | exact text_Class.mono _ _ | exact LeO.refl _ | exact LeO.none _ | refine LeO.ite ?_ ?_ | refine LeO.bind ?_ (fun _ => ?_)) | exact text_Class.mono _ _ | exact LeO.refl _ | exact LeO.none _ | refine LeO.ite ?_ ?_ | refine LeO.bind ?_ (fun _ => ?_)
set_option maxHeartbeats 8000000 in
set_option maxRecDepth 100000 in
theorem words_Class.calls (k : Nat) (a0 : Int) (a1 : Bool) (r : Int) (w : World) (h : words_Class.f k a0 a1 = some r) :
  Calls Tryd.prog 47 #[.int .i32 a0, .bool a1] w fun e w' => e = .returned (.int .i64 r) ∧ Drawn0 w w' := by
 have H : ((text_Class.f k (wrap64 (a0))).bind fun t132 => (if a1 = true then (if t132 = 2 then (some 1) else (some t132)) else (some t132))) = some r := h
 clear h
 replace H := Option.bind_eq_some_iff.mp H
 obtain ⟨t132, A30, H⟩ := H
 (try dsimp only at H)
 have A3 := Aside0.mk A30
 clear A30
 by_cases c4 : a1 = true
 rotate_left
 ·
  replace c4 := Bool.eq_false_iff.mpr c4
  subst c4
  have H1 : (some t132) = some r := by rw [if_neg (show ¬ (false = true) by decide)] at H; exact H
  clear H
  have H := H1
  clear H1
  obtain rfl := Option.some.inj H
  go_enter Tryd.func47, Tryd.ntmps47
  go_wp2_with (first | ((with_reducible refine gate_callee (f := 63) rfl ?_); refine goesL_ (some 8) rfl rfl Tryd.func63 (by kernel_rfl) rfl #[.int .i64 (wrap64 (a0))] rfl (map1 rfl) ?_; (with_reducible refine (text_Class.calls k (wrap64 (a0)) t132 _ A3.out).mono ?_); rintro e w' ⟨rfl, ⟨nd, rfl⟩⟩; refine ⟨_, rfl, ?_⟩))
  go_ret
  exact ⟨by first | rfl | (simp; done) | (simp [*]; done), by repeat (first | exact Drawn0.refl _ | apply Drawn0.step)⟩
 subst c4
 have H1 : (if t132 = 2 then (some 1) else (some t132)) = some r := by rw [if_pos rfl] at H; exact H
 clear H
 have H := H1
 clear H1
 by_cases c5 : t132 = 2
 rotate_left
 ·
  rw [if_neg c5] at H
  have c5b0 : (t132 == 2) = false := beq_eq_false_iff_ne.mpr c5
  have c5b1 : (t132 != 2) = true := bne_iff_ne.mpr c5
  obtain rfl := Option.some.inj H
  go_enter Tryd.func47, Tryd.ntmps47
  go_wp2_with (first | ((with_reducible refine gate_callee (f := 63) rfl ?_); refine goesL_ (some 8) rfl rfl Tryd.func63 (by kernel_rfl) rfl #[.int .i64 (wrap64 (a0))] rfl (map1 rfl) ?_; (with_reducible refine (text_Class.calls k (wrap64 (a0)) t132 _ A3.out).mono ?_); rintro e w' ⟨rfl, ⟨nd, rfl⟩⟩; refine ⟨_, rfl, ?_⟩))
  go_ret
  exact ⟨by first | rfl | (simp; done) | (simp [*]; done), by repeat (first | exact Drawn0.refl _ | apply Drawn0.step)⟩
 rw [if_pos c5] at H
 have c5b0 : (t132 == 2) = true := beq_iff_eq.mpr c5
 have c5b1 : (t132 != 2) = false := bne_eq_false_iff_eq.mpr c5
 clear c5
 obtain rfl := Option.some.inj H
 go_enter Tryd.func47, Tryd.ntmps47
 go_wp2_with (first | ((with_reducible refine gate_callee (f := 63) rfl ?_); refine goesL_ (some 8) rfl rfl Tryd.func63 (by kernel_rfl) rfl #[.int .i64 (wrap64 (a0))] rfl (map1 rfl) ?_; (with_reducible refine (text_Class.calls k (wrap64 (a0)) t132 _ A3.out).mono ?_); rintro e w' ⟨rfl, ⟨nd, rfl⟩⟩; refine ⟨_, rfl, ?_⟩))
 go_ret
 exact ⟨by first | rfl | (simp; done) | (simp [*]; done), by repeat (first | exact Drawn0.refl _ | apply Drawn0.step)⟩

/-! ### object_word_1: function 46 -/
def object_word_1.f (k : Nat) (a0 : Int) (l1_0 : List Int) (l1_1 : List Int) (a2_0 : Bool) : Option (Int) := if 0 ≤ a0 then (if a0 < (l1_0.length : Int) then ((words_Class.f k (rd l1_0 a0) a2_0).bind fun t134 => (some t134)) else (none)) else (none)
theorem object_word_1.mono : ∀ a0 a1 a2 a3 k, LeO (object_word_1.f k a0 a1 a2 a3) (object_word_1.f (k + 1) a0 a1 a2 a3) := by
  intro a0 a1 a2 a3 k
  unfold object_word_1.f
  repeat' first | (with_reducible first | exact words_Class.mono _ _ _ | exact LeO.refl _ | exact LeO.none _ | refine LeO.ite ?_ ?_ | refine LeO.bind ?_ (fun _ => ?_)) | exact words_Class.mono _ _ _ | exact LeO.refl _ | exact LeO.none _ | refine LeO.ite ?_ ?_ | refine LeO.bind ?_ (fun _ => ?_)
set_option maxHeartbeats 8000000 in
set_option maxRecDepth 100000 in
theorem object_word_1.calls (k : Nat) (a0 : Int) (g1 : Nat) (g1m : Nat) (A1_0 : Option Addr) (c1_0 : Nat) (l1_0 : List Int) (A1_1 : Option Addr) (c1_1 : Nat) (l1_1 : List Int) (g2b : Nat) (a2_0 : Bool) (r : Int) (w : World) (hg1 : w.heap[g1]? = some (.cells #[.slice A1_0 l1_0.length c1_0, .slice A1_1 l1_1.length c1_1] 66 (0, 0))) (hg1m : w.heap[g1m]? = some (.cells #[.pointer (some ⟨g1, 0, none⟩)] 49 (0, 0))) (hr1_0 : Kd.C (Kd.int .i32) w A1_0 l1_0.length l1_0) (hc1_0 : l1_0.length ≤ c1_0) (hr1_1 : Kd.C (Kd.int .i64) w A1_1 l1_1.length l1_1) (hc1_1 : l1_1.length ≤ c1_1) (hg2b : w.heap[g2b]? = some (.cells #[.bool a2_0] 4 (0, 0))) (h : object_word_1.f k a0 l1_0 l1_1 a2_0 = some r) :
  Calls Tryd.prog 46 #[.int .i64 a0, .pointer (some ⟨g1m, 0, none⟩), .pointer (some ⟨g2b, 0, none⟩)] w fun e w' => e = .returned (.int .i64 r) ∧ Drawn0 w w' := by
 have BK1 := Aside0.mk hg1
 clear hg1
 have BK90001 := Aside0.mk hg1m
 clear hg1m
 have BK91002 := Aside0.mk hg2b
 clear hg2b
 have HR1_0 := Aside0.mk hr1_0
 have HC1_0 := Aside0.mk hc1_0
 clear hr1_0 hc1_0
 have HR1_1 := Aside0.mk hr1_1
 have HC1_1 := Aside0.mk hc1_1
 clear hr1_1 hc1_1
 have H : (if 0 ≤ a0 then (if a0 < (l1_0.length : Int) then ((words_Class.f k (rd l1_0 a0) a2_0).bind fun t134 => (some t134)) else (none)) else (none)) = some r := h
 clear h
 by_cases c4 : 0 ≤ a0
 rotate_left
 ·
  rw [if_neg c4] at H
  exact absurd H (by simp)
 rw [if_pos c4] at H
 have c4b0 := decide_eq_true c4
 clear c4
 by_cases c5 : a0 < (l1_0.length : Int)
 rotate_left
 ·
  rw [if_neg c5] at H
  exact absurd H (by simp)
 rw [if_pos c5] at H
 have c5b0 := decide_eq_true c5
 clear c5
 replace H := Option.bind_eq_some_iff.mp H
 obtain ⟨t134, A60, H⟩ := H
 (try dsimp only at H)
 have A6 := Aside0.mk A60
 clear A60
 obtain rfl := Option.some.inj H
 have hcz7_0 := cz0 BK90001.out
 have hfz7_0 := blk_frozen BK90001.out 0
 have hcz8_0 := cz0 BK1.out
 have hcz8_1 := cz1 BK1.out
 have hfz8_0 := blk_frozen BK1.out 0
 have hfz8_1 := blk_frozen BK1.out 1
 have p133 : 0 ≤ (a0 : Int) := of_decide_eq_true (by assumption)
 have q133 : a0 < (l1_0.length : Int) := of_decide_eq_true (by assumption)
 obtain ⟨ad133, e133, hx133_0⟩ := Kd.at_int HR1_0.out a0 p133 q133
 cases e133
 replace p133 := eq_true p133
 replace q133 := eq_true q133
 have hcz9_0 := cz0 BK91002.out
 have hfz9_0 := blk_frozen BK91002.out 0
 go_enter Tryd.func46, Tryd.ntmps46
 go_wp2_with (first | (go_at_call 47; (with_reducible refine (words_Class.calls k (rd l1_0 a0) a2_0 t134 _ A6.out).mono ?_); rintro e w' ⟨rfl, ⟨nd, rfl⟩⟩; (try first | exact ⟨rfl, _, World.drewN_drewN _ _ _⟩ | exact ⟨rfl, _, Eq.trans (World.drewN_drewN _ _ _) (congrArg (World.drewN _) (Nat.add_assoc _ _ _))⟩)))
 repeat (go_quiet (first | (go_at_call 47; (with_reducible refine (words_Class.calls k (rd l1_0 a0) a2_0 t134 _ A6.out).mono ?_); rintro e w' ⟨rfl, ⟨nd, rfl⟩⟩; (try first | exact ⟨rfl, _, World.drewN_drewN _ _ _⟩ | exact ⟨rfl, _, Eq.trans (World.drewN_drewN _ _ _) (congrArg (World.drewN _) (Nat.add_assoc _ _ _))⟩))); try go_wp2_with (first | (go_at_call 47; (with_reducible refine (words_Class.calls k (rd l1_0 a0) a2_0 t134 _ A6.out).mono ?_); rintro e w' ⟨rfl, ⟨nd, rfl⟩⟩; (try first | exact ⟨rfl, _, World.drewN_drewN _ _ _⟩ | exact ⟨rfl, _, Eq.trans (World.drewN_drewN _ _ _) (congrArg (World.drewN _) (Nat.add_assoc _ _ _))⟩))))
 go_ret
 exact ⟨by first | rfl | (simp; done) | (simp [*]; done), by repeat (first | exact Drawn0.refl _ | apply Drawn0.step)⟩

/-! ### object_run: function 48 -/
mutual
def object_run.j1 : Nat → Int → Int → Int → Int → List Int → List Int → List Int → List Int → Bool → Option (Int × Int)
  | 0, _, _, _, _, _, _, _, _, _ => none
  | k + 1, x1, x2, x8, x9, v0, v1, v2, v3, v4 => object_run.l1 k x1 x2 x8 x9 v0 v1 v2 v3 v4
def object_run.l1 : Nat → Int → Int → Int → Int → List Int → List Int → List Int → List Int → Bool → Option (Int × Int)
  | 0, _, _, _, _, _, _, _, _, _ => none
  | k + 1, x1, x2, x8, x9, v0, v1, v2, v3, v4 => (text_Map_End.f v0 v1 x1).bind fun t138 => (if x9 < t138 then ((object_word_1.f k x9 v2 v3 v4).bind fun t139 => ((object_word_1.f k x2 v2 v3 v4).bind fun t140 => (if t139 = t140 then (object_run.l1 k x1 x2 x8 (wrap64 (x9 + 1)) v0 v1 v2 v3 v4) else (some (x8, x9))))) else (some (x8, x9)))
def object_run.l0 : Nat → Int → Int → Int → Int → List Int → List Int → List Int → List Int → Bool → Option (Int × Int)
  | 0, _, _, _, _, _, _, _, _, _ => none
  | k + 1, x1, x2, x8, x9, v0, v1, v2, v3, v4 => if 0 ≤ x1 then (if x1 < (v1.length : Int) then (if x8 > (rd v1 x1) then ((object_word_1.f k (wrap64 (x8 - 1)) v2 v3 v4).bind fun t136 => ((object_word_1.f k x2 v2 v3 v4).bind fun t137 => (if t136 = t137 then (object_run.l0 k x1 x2 (wrap64 (x8 - 1)) x9 v0 v1 v2 v3 v4) else (object_run.j1 k x1 x2 x8 x9 v0 v1 v2 v3 v4)))) else (object_run.j1 k x1 x2 x8 x9 v0 v1 v2 v3 v4)) else (none)) else (none)
end
def object_run.f (k : Nat) (l0_0 : List Int) (l0_1 : List Int) (a1 : Int) (a2 : Int) (l3_0 : List Int) (l3_1 : List Int) (a3_2 : Bool) : Option (Int × Int) := object_run.l0 k a1 a2 a2 (wrap64 (a2 + 1)) l0_0 l0_1 l3_0 l3_1 a3_2
theorem object_run.mono_l : ∀ k, (∀ y0 y1 y2 y3 y4 y5 y6 y7 y8, LeO (object_run.j1 k y0 y1 y2 y3 y4 y5 y6 y7 y8) (object_run.j1 (k + 1) y0 y1 y2 y3 y4 y5 y6 y7 y8)) ∧ (∀ y0 y1 y2 y3 y4 y5 y6 y7 y8, LeO (object_run.l1 k y0 y1 y2 y3 y4 y5 y6 y7 y8) (object_run.l1 (k + 1) y0 y1 y2 y3 y4 y5 y6 y7 y8)) ∧ (∀ y0 y1 y2 y3 y4 y5 y6 y7 y8, LeO (object_run.l0 k y0 y1 y2 y3 y4 y5 y6 y7 y8) (object_run.l0 (k + 1) y0 y1 y2 y3 y4 y5 y6 y7 y8))
  | 0 => ⟨fun _ _ _ _ _ _ _ _ _ r h => by simp [object_run.j1] at h, fun _ _ _ _ _ _ _ _ _ r h => by simp [object_run.l1] at h, fun _ _ _ _ _ _ _ _ _ r h => by simp [object_run.l0] at h⟩
  | k + 1 => by
    obtain ⟨ih0, ih1, ih2⟩ := object_run.mono_l k
    refine ⟨?_, ?_, ?_⟩
    all_goals intros
    all_goals first | unfold object_run.j1 | unfold object_run.l1 | unfold object_run.l0
    all_goals repeat' first | (with_reducible first | exact ih0 _ _ _ _ _ _ _ _ _ | exact ih1 _ _ _ _ _ _ _ _ _ | exact ih2 _ _ _ _ _ _ _ _ _ | exact object_word_1.mono _ _ _ _ _ | exact LeO.refl _ | exact LeO.none _ | refine LeO.ite ?_ ?_ | refine LeO.bind ?_ (fun _ => ?_)) | exact ih0 _ _ _ _ _ _ _ _ _ | exact ih1 _ _ _ _ _ _ _ _ _ | exact ih2 _ _ _ _ _ _ _ _ _ | exact object_word_1.mono _ _ _ _ _ | exact LeO.refl _ | exact LeO.none _ | refine LeO.ite ?_ ?_ | refine LeO.bind ?_ (fun _ => ?_)
theorem object_run.mono : ∀ a0 a1 a2 a3 a4 a5 a6 k, LeO (object_run.f k a0 a1 a2 a3 a4 a5 a6) (object_run.f (k + 1) a0 a1 a2 a3 a4 a5 a6) := by
  intro a0 a1 a2 a3 a4 a5 a6 k
  obtain ⟨ih0, ih1, ih2⟩ := object_run.mono_l k
  unfold object_run.f
  repeat' first | (with_reducible first | exact ih0 _ _ _ _ _ _ _ _ _ | exact ih1 _ _ _ _ _ _ _ _ _ | exact ih2 _ _ _ _ _ _ _ _ _ | exact object_word_1.mono _ _ _ _ _ | exact LeO.refl _ | exact LeO.none _ | refine LeO.ite ?_ ?_ | refine LeO.bind ?_ (fun _ => ?_)) | exact ih0 _ _ _ _ _ _ _ _ _ | exact ih1 _ _ _ _ _ _ _ _ _ | exact ih2 _ _ _ _ _ _ _ _ _ | exact object_word_1.mono _ _ _ _ _ | exact LeO.refl _ | exact LeO.none _ | refine LeO.ite ?_ ?_ | refine LeO.bind ?_ (fun _ => ?_)
set_option maxHeartbeats 8000000 in
set_option maxRecDepth 100000 in
theorem object_run.calls (k : Nat) (g0 : Nat) (A0_0 : Option Addr) (c0_0 : Nat) (l0_0 : List Int) (A0_1 : Option Addr) (c0_1 : Nat) (l0_1 : List Int) (a1 : Int) (a2 : Int) (g3 : Nat) (g3m : Nat) (g3b : Nat) (A3_0 : Option Addr) (c3_0 : Nat) (l3_0 : List Int) (A3_1 : Option Addr) (c3_1 : Nat) (l3_1 : List Int) (a3_2 : Bool) (r1 : Int) (r2 : Int) (w : World) (hg0 : w.heap[g0]? = some (.cells #[.slice A0_0 l0_0.length c0_0, .slice A0_1 l0_1.length c0_1] 66 (0, 0))) (hr0_0 : Kd.C (Kd.int .i32) w A0_0 l0_0.length l0_0) (hc0_0 : l0_0.length ≤ c0_0) (hr0_1 : Kd.C (Kd.int .i64) w A0_1 l0_1.length l0_1) (hc0_1 : l0_1.length ≤ c0_1) (hg3 : w.heap[g3]? = some (.cells #[.slice A3_0 l3_0.length c3_0, .slice A3_1 l3_1.length c3_1] 66 (0, 0))) (hg3m : w.heap[g3m]? = some (.cells #[.pointer (some ⟨g3, 0, none⟩)] 49 (0, 0))) (hg3b : w.heap[g3b]? = some (.cells #[.bool a3_2] 4 (0, 0))) (hr3_0 : Kd.C (Kd.int .i32) w A3_0 l3_0.length l3_0) (hc3_0 : l3_0.length ≤ c3_0) (hr3_1 : Kd.C (Kd.int .i64) w A3_1 l3_1.length l3_1) (hc3_1 : l3_1.length ≤ c3_1) (h : object_run.f k l0_0 l0_1 a1 a2 l3_0 l3_1 a3_2 = some (r1, r2)) :
  Calls Tryd.prog 48 #[.pointer (some ⟨g0, 0, none⟩), .int .i64 a1, .int .i64 a2, .func (.func 46) #[] #[.pointer (some ⟨g3m, 0, none⟩), .pointer (some ⟨g3b, 0, none⟩)]] w fun e w' => e = .returned (.tuple #[.int .i64 r1, .int .i64 r2]) ∧ Drawn0 w w' := by
 have BK0 := Aside0.mk hg0
 clear hg0
 have BK3 := Aside0.mk hg3
 clear hg3
 have BK90003 := Aside0.mk hg3m
 clear hg3m
 have BK91003 := Aside0.mk hg3b
 clear hg3b
 have HR0_0 := Aside0.mk hr0_0
 have HC0_0 := Aside0.mk hc0_0
 clear hr0_0 hc0_0
 have HR0_1 := Aside0.mk hr0_1
 have HC0_1 := Aside0.mk hc0_1
 clear hr0_1 hc0_1
 have HR3_0 := Aside0.mk hr3_0
 have HC3_0 := Aside0.mk hc3_0
 clear hr3_0 hc3_0
 have HR3_1 := Aside0.mk hr3_1
 have HC3_1 := Aside0.mk hc3_1
 clear hr3_1 hc3_1
 have H : (object_run.l0 k a1 a2 a2 (wrap64 (a2 + 1)) l0_0 l0_1 l3_0 l3_1 a3_2) = some (r1, r2) := h
 clear h
 have HC5 := Aside0.mk H
 clear H
 go_enter Tryd.func48, Tryd.ntmps48
 go_upto_block 0 with (fail)
 go_cut [8] (fun v8 wc => ∃ (kq : Nat) (x8_4 : Int), v8 = .int .i64 x8_4 ∧ Aside0 (object_run.j1 kq a1 a2 x8_4 (wrap64 (a2 + 1)) l0_0 l0_1 l3_0 l3_1 a3_2 = some (r1, r2)) ∧ Aside0 (kq ≤ k) ∧ Aside0 (wc.heap[g0]? = some (.cells #[(.slice A0_0 l0_0.length c0_0), (.slice A0_1 l0_1.length c0_1)] 66 (0, 0))) ∧ Aside0 (wc.heap[g3]? = some (.cells #[(.slice A3_0 l3_0.length c3_0), (.slice A3_1 l3_1.length c3_1)] 66 (0, 0))) ∧ Aside0 (wc.heap[g3m]? = some (.cells #[.pointer (some ⟨g3, 0, none⟩)] 49 (0, 0))) ∧ Aside0 (wc.heap[g3b]? = some (.cells #[.bool a3_2] 4 (0, 0))) ∧ Drawn0 w wc)
 case first =>
  have H := HC5.out
  clear HC5
  have H' := Aside0.mk H
  clear H
  go_wp2
  go_loopg [8] k (fun kq v8 w' => ∃ (x8_1 : Int), v8 = .int .i64 x8_1 ∧ Aside0 (object_run.l0 kq a1 a2 x8_1 (wrap64 (a2 + 1)) l0_0 l0_1 l3_0 l3_1 a3_2 = some (r1, r2)) ∧ Aside0 (kq ≤ k) ∧ Aside0 (w'.heap[g0]? = some (.cells #[(.slice A0_0 l0_0.length c0_0), (.slice A0_1 l0_1.length c0_1)] 66 (0, 0))) ∧ Aside0 (w'.heap[g3]? = some (.cells #[(.slice A3_0 l3_0.length c3_0), (.slice A3_1 l3_1.length c3_1)] 66 (0, 0))) ∧ Aside0 (w'.heap[g3m]? = some (.cells #[.pointer (some ⟨g3, 0, none⟩)] 49 (0, 0))) ∧ Aside0 (w'.heap[g3b]? = some (.cells #[.bool a3_2] 4 (0, 0))) ∧ Drawn0 w w')
  case atStart => exact ⟨(a2), (by first | rfl | (simp; done) | (simp [*]; done)), H', ⟨Nat.le_refl _⟩, ⟨BK0.out⟩, ⟨BK3.out⟩, ⟨BK90003.out⟩, ⟨BK91003.out⟩, by repeat (first | exact Drawn0.refl _ | apply Drawn0.step)⟩
  case round =>
   clear H'
   obtain ⟨x8_1, rfl, HA, HK1, BK0, BK3, BK90003, BK91003, ⟨m1, rfl⟩⟩ := hrel
   cases gk with
   | zero => exact absurd HA.out (by simp [object_run.l0])
   | succ k1 =>
    have H := HA.out
    clear HA
    simp only [object_run.l0] at H
    by_cases c6 : 0 ≤ a1
    rotate_left
    ·
     rw [if_neg c6] at H
     exact absurd H (by simp)
    rw [if_pos c6] at H
    have c6b0 := decide_eq_true c6
    clear c6
    (first | rw [c6b0] | (simp only [i64_w, i32_w]; rw [c6b0]) | skip)
    by_cases c7 : a1 < (l0_1.length : Int)
    rotate_left
    ·
     rw [if_neg c7] at H
     exact absurd H (by simp)
    rw [if_pos c7] at H
    have c7b0 := decide_eq_true c7
    clear c7
    by_cases c8 : x8_1 > (rd l0_1 a1)
    rotate_left
    ·
     rw [if_neg c8] at H
     have c8b0 := decide_eq_false c8
     clear c8
     have H' := Aside0.mk H
     clear H
     have hcz14_0 := cz0 BK0.out
     have hcz14_1 := cz1 BK0.out
     have hfz14_0 := blk_frozen BK0.out 0
     have hfz14_1 := blk_frozen BK0.out 1
     have p135 : 0 ≤ (a1 : Int) := of_decide_eq_true (by assumption)
     have q135 : a1 < (l0_1.length : Int) := of_decide_eq_true (by assumption)
     obtain ⟨ad135, e135, hx135_0⟩ := Kd.at_int HR0_1.out a1 p135 q135
     cases e135
     replace p135 := eq_true p135
     replace q135 := eq_true q135
     go_wp2
     go_meet
     case rel => exact ⟨_, (x8_1), (by first | rfl | (simp; done) | (simp [*]; done)), H', ⟨by have := HK1.out; first | omega | exact Nat.le_refl _⟩, ⟨BK0.out⟩, ⟨BK3.out⟩, ⟨BK90003.out⟩, ⟨BK91003.out⟩, by repeat (first | exact Drawn0.refl _ | apply Drawn0.step)⟩
    rw [if_pos c8] at H
    have c8b0 := decide_eq_true c8
    clear c8
    replace H := Option.bind_eq_some_iff.mp H
    obtain ⟨t136, A90, H⟩ := H
    (try dsimp only at H)
    have A9 := Aside0.mk A90
    clear A90
    replace H := Option.bind_eq_some_iff.mp H
    obtain ⟨t137, A100, H⟩ := H
    (try dsimp only at H)
    have A10 := Aside0.mk A100
    clear A100
    by_cases c11 : t136 = t137
    rotate_left
    ·
     rw [if_neg c11] at H
     have c11b0 : (t136 == t137) = false := beq_eq_false_iff_ne.mpr c11
     have c11b1 : (t136 != t137) = true := bne_iff_ne.mpr c11
     have H' := Aside0.mk H
     clear H
     have hcz13_0 := cz0 BK0.out
     have hcz13_1 := cz1 BK0.out
     have hfz13_0 := blk_frozen BK0.out 0
     have hfz13_1 := blk_frozen BK0.out 1
     have p135 : 0 ≤ (a1 : Int) := of_decide_eq_true (by assumption)
     have q135 : a1 < (l0_1.length : Int) := of_decide_eq_true (by assumption)
     obtain ⟨ad135, e135, hx135_0⟩ := Kd.at_int HR0_1.out a1 p135 q135
     cases e135
     replace p135 := eq_true p135
     replace q135 := eq_true q135
     go_wp2_with (first | (go_at_call 46; (with_reducible refine (object_word_1.calls k1 (wrap64 (x8_1 - 1)) g3 g3m A3_0 c3_0 l3_0 A3_1 c3_1 l3_1 g3b a3_2 t136 _ ?side1 ?side2 ?side3 ?side4 ?side5 ?side6 ?side7 A9.out).mono ?_); (case side1 => exact BK3.out); (case side2 => exact BK90003.out); (case side3 => repeat (first | exact HR3_0.out | with_reducible first | refine Kd.C_drewN ?_ _ | refine Kd.C_drew ?_ | refine Kd.C_alloc ?_ _)); (case side4 => exact HC3_0.out); (case side5 => repeat (first | exact HR3_1.out | with_reducible first | refine Kd.C_drewN ?_ _ | refine Kd.C_drew ?_ | refine Kd.C_alloc ?_ _)); (case side6 => exact HC3_1.out); (case side7 => exact BK91003.out); rintro e w' ⟨rfl, ⟨nd, rfl⟩⟩) | (go_at_call 46; (with_reducible refine (object_word_1.calls k1 a2 g3 g3m A3_0 c3_0 l3_0 A3_1 c3_1 l3_1 g3b a3_2 t137 _ ?side1 ?side2 ?side3 ?side4 ?side5 ?side6 ?side7 A10.out).mono ?_); (case side1 => exact BK3.out); (case side2 => exact BK90003.out); (case side3 => repeat (first | exact HR3_0.out | with_reducible first | refine Kd.C_drewN ?_ _ | refine Kd.C_drew ?_ | refine Kd.C_alloc ?_ _)); (case side4 => exact HC3_0.out); (case side5 => repeat (first | exact HR3_1.out | with_reducible first | refine Kd.C_drewN ?_ _ | refine Kd.C_drew ?_ | refine Kd.C_alloc ?_ _)); (case side6 => exact HC3_1.out); (case side7 => exact BK91003.out); rintro e w' ⟨rfl, ⟨nd, rfl⟩⟩))
     go_meet
     case rel => exact ⟨_, (x8_1), (by first | rfl | (simp; done) | (simp [*]; done)), H', ⟨by have := HK1.out; first | omega | exact Nat.le_refl _⟩, ⟨BK0.out⟩, ⟨BK3.out⟩, ⟨BK90003.out⟩, ⟨BK91003.out⟩, by repeat (first | exact Drawn0.refl _ | apply Drawn0.step)⟩
    rw [if_pos c11] at H
    have c11b0 : (t136 == t137) = true := beq_iff_eq.mpr c11
    have c11b1 : (t136 != t137) = false := bne_eq_false_iff_eq.mpr c11
    clear c11
    have H' := Aside0.mk H
    clear H
    have hcz12_0 := cz0 BK0.out
    have hcz12_1 := cz1 BK0.out
    have hfz12_0 := blk_frozen BK0.out 0
    have hfz12_1 := blk_frozen BK0.out 1
    have p135 : 0 ≤ (a1 : Int) := of_decide_eq_true (by assumption)
    have q135 : a1 < (l0_1.length : Int) := of_decide_eq_true (by assumption)
    obtain ⟨ad135, e135, hx135_0⟩ := Kd.at_int HR0_1.out a1 p135 q135
    cases e135
    replace p135 := eq_true p135
    replace q135 := eq_true q135
    go_wp2_with (first | (go_at_call 46; (with_reducible refine (object_word_1.calls k1 (wrap64 (x8_1 - 1)) g3 g3m A3_0 c3_0 l3_0 A3_1 c3_1 l3_1 g3b a3_2 t136 _ ?side1 ?side2 ?side3 ?side4 ?side5 ?side6 ?side7 A9.out).mono ?_); (case side1 => exact BK3.out); (case side2 => exact BK90003.out); (case side3 => repeat (first | exact HR3_0.out | with_reducible first | refine Kd.C_drewN ?_ _ | refine Kd.C_drew ?_ | refine Kd.C_alloc ?_ _)); (case side4 => exact HC3_0.out); (case side5 => repeat (first | exact HR3_1.out | with_reducible first | refine Kd.C_drewN ?_ _ | refine Kd.C_drew ?_ | refine Kd.C_alloc ?_ _)); (case side6 => exact HC3_1.out); (case side7 => exact BK91003.out); rintro e w' ⟨rfl, ⟨nd, rfl⟩⟩) | (go_at_call 46; (with_reducible refine (object_word_1.calls k1 a2 g3 g3m A3_0 c3_0 l3_0 A3_1 c3_1 l3_1 g3b a3_2 t137 _ ?side1 ?side2 ?side3 ?side4 ?side5 ?side6 ?side7 A10.out).mono ?_); (case side1 => exact BK3.out); (case side2 => exact BK90003.out); (case side3 => repeat (first | exact HR3_0.out | with_reducible first | refine Kd.C_drewN ?_ _ | refine Kd.C_drew ?_ | refine Kd.C_alloc ?_ _)); (case side4 => exact HC3_0.out); (case side5 => repeat (first | exact HR3_1.out | with_reducible first | refine Kd.C_drewN ?_ _ | refine Kd.C_drew ?_ | refine Kd.C_alloc ?_ _)); (case side6 => exact HC3_1.out); (case side7 => exact BK91003.out); rintro e w' ⟨rfl, ⟨nd, rfl⟩⟩))
    go_roundg k1
    case measure => have := HK1.out; omega
    case rel => exact ⟨(wrap64 (x8_1 - 1)), (by first | rfl | (simp; done) | (simp [*]; done)), H', ⟨by have := HK1.out; omega⟩, ⟨BK0.out⟩, ⟨BK3.out⟩, ⟨BK90003.out⟩, ⟨BK91003.out⟩, by repeat (first | exact Drawn0.refl _ | apply Drawn0.step)⟩
 case rest =>
  clear HC5
  obtain ⟨kq, x8_4, rfl, HA, HJ4, BK0, BK3, BK90003, BK91003, ⟨mc4, rfl⟩⟩ := hcut
  cases kq with
  | zero => exact absurd HA.out (by simp [object_run.j1])
  | succ kj4 =>
   have H := HA.out
   clear HA
   simp only [object_run.j1] at H
   have H' := Aside0.mk H
   clear H
   go_wp2
   go_loopg [9] kj4 (fun kq v9 w' => ∃ (x9_2 : Int), v9 = .int .i64 x9_2 ∧ Aside0 (object_run.l1 kq a1 a2 x8_4 x9_2 l0_0 l0_1 l3_0 l3_1 a3_2 = some (r1, r2)) ∧ Aside0 (kq ≤ kj4) ∧ Aside0 (w'.heap[g0]? = some (.cells #[(.slice A0_0 l0_0.length c0_0), (.slice A0_1 l0_1.length c0_1)] 66 (0, 0))) ∧ Aside0 (w'.heap[g3]? = some (.cells #[(.slice A3_0 l3_0.length c3_0), (.slice A3_1 l3_1.length c3_1)] 66 (0, 0))) ∧ Aside0 (w'.heap[g3m]? = some (.cells #[.pointer (some ⟨g3, 0, none⟩)] 49 (0, 0))) ∧ Aside0 (w'.heap[g3b]? = some (.cells #[.bool a3_2] 4 (0, 0))) ∧ Drawn0 w w')
   case atStart => exact ⟨((wrap64 (a2 + 1))), (by first | rfl | (simp; done) | (simp [*]; done)), H', ⟨Nat.le_refl _⟩, ⟨BK0.out⟩, ⟨BK3.out⟩, ⟨BK90003.out⟩, ⟨BK91003.out⟩, by repeat (first | exact Drawn0.refl _ | apply Drawn0.step)⟩
   case round =>
    clear H'
    obtain ⟨x9_2, rfl, HA, HK2, BK0, BK3, BK90003, BK91003, ⟨m2, rfl⟩⟩ := hrel
    cases gk with
    | zero => exact absurd HA.out (by simp [object_run.l1])
    | succ k2 =>
     have H := HA.out
     clear HA
     simp only [object_run.l1] at H
     replace H := Option.bind_eq_some_iff.mp H
     obtain ⟨t138, A150, H⟩ := H
     (try dsimp only at H)
     have A15 := Aside0.mk A150
     clear A150
     by_cases c16 : x9_2 < t138
     rotate_left
     ·
      rw [if_neg c16] at H
      have c16b0 := decide_eq_false c16
      clear c16
      simp only [Option.some.injEq, Prod.mk.injEq] at H
      obtain ⟨rfl, rfl⟩ := H
      go_wp2_with (first | ((with_reducible refine gate_callee (f := 45) rfl ?_); refine goesL_ (some 37) rfl rfl Tryd.func45 (by kernel_rfl) rfl #[.pointer (some ⟨g0, 0, none⟩), .int .i64 a1] rfl (map2 rfl rfl) ?_; (with_reducible refine (text_Map_End.calls g0 A0_0 c0_0 l0_0 A0_1 c0_1 l0_1 a1 t138 _ ?side1 ?side2 ?side3 ?side4 ?side5 A15.out).mono ?_); (case side1 => exact BK0.out); (case side2 => repeat (first | exact HR0_0.out | with_reducible first | refine Kd.C_drewN ?_ _ | refine Kd.C_drew ?_ | refine Kd.C_alloc ?_ _)); (case side3 => exact HC0_0.out); (case side4 => repeat (first | exact HR0_1.out | with_reducible first | refine Kd.C_drewN ?_ _ | refine Kd.C_drew ?_ | refine Kd.C_alloc ?_ _)); (case side5 => exact HC0_1.out); rintro e w' ⟨rfl, ⟨nd, rfl⟩⟩; refine ⟨_, rfl, ?_⟩))
      go_ret2
      exact ⟨by first | rfl | (simp; done) | (simp [*]; done), by repeat (first | exact Drawn0.refl _ | apply Drawn0.step)⟩
     rw [if_pos c16] at H
     have c16b0 := decide_eq_true c16
     clear c16
     replace H := Option.bind_eq_some_iff.mp H
     obtain ⟨t139, A170, H⟩ := H
     (try dsimp only at H)
     have A17 := Aside0.mk A170
     clear A170
     replace H := Option.bind_eq_some_iff.mp H
     obtain ⟨t140, A180, H⟩ := H
     (try dsimp only at H)
     have A18 := Aside0.mk A180
     clear A180
     by_cases c19 : t139 = t140
     rotate_left
     ·
      rw [if_neg c19] at H
      have c19b0 : (t139 == t140) = false := beq_eq_false_iff_ne.mpr c19
      have c19b1 : (t139 != t140) = true := bne_iff_ne.mpr c19
      simp only [Option.some.injEq, Prod.mk.injEq] at H
      obtain ⟨rfl, rfl⟩ := H
      go_wp2_with (first | ((with_reducible refine gate_callee (f := 45) rfl ?_); refine goesL_ (some 37) rfl rfl Tryd.func45 (by kernel_rfl) rfl #[.pointer (some ⟨g0, 0, none⟩), .int .i64 a1] rfl (map2 rfl rfl) ?_; (with_reducible refine (text_Map_End.calls g0 A0_0 c0_0 l0_0 A0_1 c0_1 l0_1 a1 t138 _ ?side1 ?side2 ?side3 ?side4 ?side5 A15.out).mono ?_); (case side1 => exact BK0.out); (case side2 => repeat (first | exact HR0_0.out | with_reducible first | refine Kd.C_drewN ?_ _ | refine Kd.C_drew ?_ | refine Kd.C_alloc ?_ _)); (case side3 => exact HC0_0.out); (case side4 => repeat (first | exact HR0_1.out | with_reducible first | refine Kd.C_drewN ?_ _ | refine Kd.C_drew ?_ | refine Kd.C_alloc ?_ _)); (case side5 => exact HC0_1.out); rintro e w' ⟨rfl, ⟨nd, rfl⟩⟩; refine ⟨_, rfl, ?_⟩) | (go_at_call 46; (with_reducible refine (object_word_1.calls k2 x9_2 g3 g3m A3_0 c3_0 l3_0 A3_1 c3_1 l3_1 g3b a3_2 t139 _ ?side1 ?side2 ?side3 ?side4 ?side5 ?side6 ?side7 A17.out).mono ?_); (case side1 => exact BK3.out); (case side2 => exact BK90003.out); (case side3 => repeat (first | exact HR3_0.out | with_reducible first | refine Kd.C_drewN ?_ _ | refine Kd.C_drew ?_ | refine Kd.C_alloc ?_ _)); (case side4 => exact HC3_0.out); (case side5 => repeat (first | exact HR3_1.out | with_reducible first | refine Kd.C_drewN ?_ _ | refine Kd.C_drew ?_ | refine Kd.C_alloc ?_ _)); (case side6 => exact HC3_1.out); (case side7 => exact BK91003.out); rintro e w' ⟨rfl, ⟨nd, rfl⟩⟩) | (go_at_call 46; (with_reducible refine (object_word_1.calls k2 a2 g3 g3m A3_0 c3_0 l3_0 A3_1 c3_1 l3_1 g3b a3_2 t140 _ ?side1 ?side2 ?side3 ?side4 ?side5 ?side6 ?side7 A18.out).mono ?_); (case side1 => exact BK3.out); (case side2 => exact BK90003.out); (case side3 => repeat (first | exact HR3_0.out | with_reducible first | refine Kd.C_drewN ?_ _ | refine Kd.C_drew ?_ | refine Kd.C_alloc ?_ _)); (case side4 => exact HC3_0.out); (case side5 => repeat (first | exact HR3_1.out | with_reducible first | refine Kd.C_drewN ?_ _ | refine Kd.C_drew ?_ | refine Kd.C_alloc ?_ _)); (case side6 => exact HC3_1.out); (case side7 => exact BK91003.out); rintro e w' ⟨rfl, ⟨nd, rfl⟩⟩))
      go_ret2
      exact ⟨by first | rfl | (simp; done) | (simp [*]; done), by repeat (first | exact Drawn0.refl _ | apply Drawn0.step)⟩
     rw [if_pos c19] at H
     have c19b0 : (t139 == t140) = true := beq_iff_eq.mpr c19
     have c19b1 : (t139 != t140) = false := bne_eq_false_iff_eq.mpr c19
     clear c19
     have H' := Aside0.mk H
     clear H
     go_wp2_with (first | ((with_reducible refine gate_callee (f := 45) rfl ?_); refine goesL_ (some 37) rfl rfl Tryd.func45 (by kernel_rfl) rfl #[.pointer (some ⟨g0, 0, none⟩), .int .i64 a1] rfl (map2 rfl rfl) ?_; (with_reducible refine (text_Map_End.calls g0 A0_0 c0_0 l0_0 A0_1 c0_1 l0_1 a1 t138 _ ?side1 ?side2 ?side3 ?side4 ?side5 A15.out).mono ?_); (case side1 => exact BK0.out); (case side2 => repeat (first | exact HR0_0.out | with_reducible first | refine Kd.C_drewN ?_ _ | refine Kd.C_drew ?_ | refine Kd.C_alloc ?_ _)); (case side3 => exact HC0_0.out); (case side4 => repeat (first | exact HR0_1.out | with_reducible first | refine Kd.C_drewN ?_ _ | refine Kd.C_drew ?_ | refine Kd.C_alloc ?_ _)); (case side5 => exact HC0_1.out); rintro e w' ⟨rfl, ⟨nd, rfl⟩⟩; refine ⟨_, rfl, ?_⟩) | (go_at_call 46; (with_reducible refine (object_word_1.calls k2 x9_2 g3 g3m A3_0 c3_0 l3_0 A3_1 c3_1 l3_1 g3b a3_2 t139 _ ?side1 ?side2 ?side3 ?side4 ?side5 ?side6 ?side7 A17.out).mono ?_); (case side1 => exact BK3.out); (case side2 => exact BK90003.out); (case side3 => repeat (first | exact HR3_0.out | with_reducible first | refine Kd.C_drewN ?_ _ | refine Kd.C_drew ?_ | refine Kd.C_alloc ?_ _)); (case side4 => exact HC3_0.out); (case side5 => repeat (first | exact HR3_1.out | with_reducible first | refine Kd.C_drewN ?_ _ | refine Kd.C_drew ?_ | refine Kd.C_alloc ?_ _)); (case side6 => exact HC3_1.out); (case side7 => exact BK91003.out); rintro e w' ⟨rfl, ⟨nd, rfl⟩⟩) | (go_at_call 46; (with_reducible refine (object_word_1.calls k2 a2 g3 g3m A3_0 c3_0 l3_0 A3_1 c3_1 l3_1 g3b a3_2 t140 _ ?side1 ?side2 ?side3 ?side4 ?side5 ?side6 ?side7 A18.out).mono ?_); (case side1 => exact BK3.out); (case side2 => exact BK90003.out); (case side3 => repeat (first | exact HR3_0.out | with_reducible first | refine Kd.C_drewN ?_ _ | refine Kd.C_drew ?_ | refine Kd.C_alloc ?_ _)); (case side4 => exact HC3_0.out); (case side5 => repeat (first | exact HR3_1.out | with_reducible first | refine Kd.C_drewN ?_ _ | refine Kd.C_drew ?_ | refine Kd.C_alloc ?_ _)); (case side6 => exact HC3_1.out); (case side7 => exact BK91003.out); rintro e w' ⟨rfl, ⟨nd, rfl⟩⟩))
     go_roundg k2
     case measure => have := HJ4.out; have := HK2.out; omega
     case rel => exact ⟨(wrap64 (x9_2 + 1)), (by first | rfl | (simp; done) | (simp [*]; done)), H', ⟨by have := HJ4.out; have := HK2.out; omega⟩, ⟨BK0.out⟩, ⟨BK3.out⟩, ⟨BK90003.out⟩, ⟨BK91003.out⟩, by repeat (first | exact Drawn0.refl _ | apply Drawn0.step)⟩

end Go.Proofs.YtgikaemhhaejoaaDoor.P
