/- The walks of the functions that these statements reach: each Go function as a plain Lean function, and the proof that its call comes to that. Written by the session's program wip/pp.py. -/
import Derived.Test.YtgikaemhhaejoaaDoorP0
import Derived.Test.YtgikaemhhaejoaaDoorP2
import Derived.Test.YtgikaemhhaejoaaDoorP7
namespace Go.Proofs.YtgikaemhhaejoaaDoor.P
open Go.Proofs.YtgikaemhhaejoaaDoor
open Go.RowKit Go.Proofs.YtgikaemhhaejoaaDoorW.PrintWords Go.Proofs.YtgikaemhhaejoaaDoorW.PrintLast Go.Proofs.YtgikaemhhaejoaaDoorW.PrintMore
attribute [local go_sem] max2_int min2_int max_two min_two max_three min_three max_four min_four   -- for this text's walks alone
set_option linter.unusedVariables false
set_option linter.unusedSimpArgs false

/-! ### pairs_mate: function 53 -/
mutual
def pairs_mate.l0 : Nat → List Int → Int → Int → Int → Int → Option (Int)
  | 0, _, _, _, _, _ => none
  | k + 1, x0, x5, x6, x7, x8 => if x8 ≥ 0 then (pairs_mate.j1 k x0 x5 x6 x7 x8 (decide (x8 < (x0.length : Int)))) else (pairs_mate.j1 k x0 x5 x6 x7 x8 false)
def pairs_mate.j1 : Nat → List Int → Int → Int → Int → Int → Bool → Option (Int)
  | 0, _, _, _, _, _, _ => none
  | k + 1, x0, x5, x6, x7, x8, x33 => if x33 = true then (if 0 ≤ x8 then (if x8 < (x0.length : Int) then ((pairs_kind.f (rd x0 x8)).bind fun bt201 => (if bt201.2 = 0 then (pairs_mate.j2 k x0 x5 x6 x7 x8 bt201.2 false) else (pairs_mate.j2 k x0 x5 x6 x7 x8 bt201.2 (bt201.1 == x5)))) else (none)) else (none)) else (some (-1))
def pairs_mate.j2 : Nat → List Int → Int → Int → Int → Int → Int → Bool → Option (Int)
  | 0, _, _, _, _, _, _, _ => none
  | k + 1, x0, x5, x6, x7, x8, x10, x51 => if x51 = true then (if (wrap64 (x7 + x10)) = 0 then (some x8) else (pairs_mate.l0 k x0 x5 x6 (wrap64 (x7 + x10)) (wrap64 (x8 + x6)))) else (if x7 = 0 then (some x8) else (pairs_mate.l0 k x0 x5 x6 x7 (wrap64 (x8 + x6))))
end
def pairs_mate.f (k : Nat) (l0 : List Int) (a1 : Int) : Option (Int) := if a1 ≥ (l0.length : Int) then (some (-1)) else (if 0 ≤ a1 then (if a1 < (l0.length : Int) then ((pairs_kind.f (rd l0 a1)).bind fun bt198 => (if bt198.2 = 0 then (some (-1)) else (pairs_mate.l0 k l0 bt198.1 bt198.2 0 a1))) else (none)) else (none))
theorem pairs_mate.mono_l : ∀ k, (∀ y0 y1 y2 y3 y4, LeO (pairs_mate.l0 k y0 y1 y2 y3 y4) (pairs_mate.l0 (k + 1) y0 y1 y2 y3 y4)) ∧ (∀ y0 y1 y2 y3 y4 y5, LeO (pairs_mate.j1 k y0 y1 y2 y3 y4 y5) (pairs_mate.j1 (k + 1) y0 y1 y2 y3 y4 y5)) ∧ (∀ y0 y1 y2 y3 y4 y5 y6, LeO (pairs_mate.j2 k y0 y1 y2 y3 y4 y5 y6) (pairs_mate.j2 (k + 1) y0 y1 y2 y3 y4 y5 y6))
  | 0 => ⟨fun _ _ _ _ _ r h => by simp [pairs_mate.l0] at h, fun _ _ _ _ _ _ r h => by simp [pairs_mate.j1] at h, fun _ _ _ _ _ _ _ r h => by simp [pairs_mate.j2] at h⟩
  | k + 1 => by
    obtain ⟨ih0, ih1, ih2⟩ := pairs_mate.mono_l k
    refine ⟨?_, ?_, ?_⟩
    all_goals intros
    all_goals first | unfold pairs_mate.l0 | unfold pairs_mate.j1 | unfold pairs_mate.j2
    all_goals repeat' first | (with_reducible first | exact ih0 _ _ _ _ _ | exact ih1 _ _ _ _ _ _ | exact ih2 _ _ _ _ _ _ _ | exact LeO.refl _ | exact LeO.none _ | refine LeO.ite ?_ ?_ | refine LeO.bind ?_ (fun _ => ?_)) | exact ih0 _ _ _ _ _ | exact ih1 _ _ _ _ _ _ | exact ih2 _ _ _ _ _ _ _ | exact LeO.refl _ | exact LeO.none _ | refine LeO.ite ?_ ?_ | refine LeO.bind ?_ (fun _ => ?_)
theorem pairs_mate.mono : ∀ a0 a1 k, LeO (pairs_mate.f k a0 a1) (pairs_mate.f (k + 1) a0 a1) := by
  intro a0 a1 k
  obtain ⟨ih0, ih1, ih2⟩ := pairs_mate.mono_l k
  unfold pairs_mate.f
  repeat' first | (with_reducible first | exact ih0 _ _ _ _ _ | exact ih1 _ _ _ _ _ _ | exact ih2 _ _ _ _ _ _ _ | exact LeO.refl _ | exact LeO.none _ | refine LeO.ite ?_ ?_ | refine LeO.bind ?_ (fun _ => ?_)) | exact ih0 _ _ _ _ _ | exact ih1 _ _ _ _ _ _ | exact ih2 _ _ _ _ _ _ _ | exact LeO.refl _ | exact LeO.none _ | refine LeO.ite ?_ ?_ | refine LeO.bind ?_ (fun _ => ?_)
set_option maxHeartbeats 8000000 in
set_option maxRecDepth 100000 in
theorem pairs_mate.calls (k : Nat) (A0 : Option Addr) (c0 : Nat) (l0 : List Int) (a1 : Int) (r : Int) (w : World) (hr0 : Kd.C (Kd.int .i32) w A0 l0.length l0) (hc0 : l0.length ≤ c0) (h : pairs_mate.f k l0 a1 = some r) :
  Calls Tryd.prog 53 #[.slice A0 l0.length c0, .int .i64 a1] w fun e w' => e = .returned (.int .i64 r) ∧ Below w.heap.size w w' := by
 have HR0 := Aside0.mk hr0
 have HC0 := Aside0.mk hc0
 clear hr0 hc0
 have HB := Aside0.mk (Below.refl w.heap.size w)
 have H : (if a1 ≥ (l0.length : Int) then (some (-1)) else (if 0 ≤ a1 then (if a1 < (l0.length : Int) then ((pairs_kind.f (rd l0 a1)).bind fun bt198 => (if bt198.2 = 0 then (some (-1)) else (pairs_mate.l0 k l0 bt198.1 bt198.2 0 a1))) else (none)) else (none))) = some r := h
 clear h
 by_cases c3 : a1 ≥ (l0.length : Int)
 ·
  rw [if_pos c3] at H
  have c3b0 := decide_eq_true c3
  clear c3
  obtain rfl := Option.some.inj H
  go_enter Tryd.func53, Tryd.ntmps53
  go_wp2
  go_ret
  exact ⟨by first | rfl | (simp [errW_none, errW_some] <;> rfl) | (simp [*, errW_none, errW_some] <;> rfl), by repeat with_reducible first | exact HB.out | apply pw_below_drewN | apply below_drew1 | apply below_alloc⟩
 rw [if_neg c3] at H
 have c3b0 := decide_eq_false c3
 clear c3
 by_cases c4 : 0 ≤ a1
 rotate_left
 ·
  rw [if_neg c4] at H
  exact absurd H (by simp)
 rw [if_pos c4] at H
 have c4b0 := decide_eq_true c4
 clear c4
 by_cases c5 : a1 < (l0.length : Int)
 rotate_left
 ·
  rw [if_neg c5] at H
  exact absurd H (by simp)
 rw [if_pos c5] at H
 have c5b0 := decide_eq_true c5
 clear c5
 replace H := Option.bind_eq_some_iff.mp H
 obtain ⟨⟨t198, t199⟩, A60, H⟩ := H
 (try dsimp only at H)
 have A6 := Aside0.mk A60
 clear A60
 by_cases c7 : t199 = 0
 ·
  rw [if_pos c7] at H
  have c7b0 : (t199 == 0) = true := beq_iff_eq.mpr c7
  have c7b1 : (t199 != 0) = false := bne_eq_false_iff_eq.mpr c7
  clear c7
  obtain rfl := Option.some.inj H
  have p197 : 0 ≤ (a1 : Int) := of_decide_eq_true (by assumption)
  have q197 : a1 < (l0.length : Int) := of_decide_eq_true (by assumption)
  obtain ⟨ad197, e197, hx197_0⟩ := Kd.at_int HR0.out a1 p197 q197
  cases e197
  replace p197 := eq_true p197
  replace q197 := eq_true q197
  go_enter Tryd.func53, Tryd.ntmps53
  go_wp2_with (first | ((with_reducible refine gate_callee (f := 64) rfl ?_); refine goesL_ (some 20) rfl rfl Tryd.func64 (by kernel_rfl) rfl #[.int .i32 (rd l0 a1)] rfl (map1 rfl) ?_; (with_reducible refine (pairs_kind.calls (rd l0 a1) t198 t199 _ A6.out).mono ?_); rintro e w8 ⟨rfl, hb⟩; refine ⟨_, rfl, ?_⟩; have n0_ := Aside0.mk (below_step (by repeat with_reducible first | exact HB.out | apply pw_below_drewN | apply below_drew1 | apply below_alloc) hb); clear HB; have HB := n0_; clear n0_; (try clear hb); (try clear hb2); (try clear hk); (try clear hi)))
  go_ret
  exact ⟨by first | rfl | (simp [errW_none, errW_some] <;> rfl) | (simp [*, errW_none, errW_some] <;> rfl), by repeat with_reducible first | exact HB.out | apply pw_below_drewN | apply below_drew1 | apply below_alloc⟩
 rw [if_neg c7] at H
 have c7b0 : (t199 == 0) = false := beq_eq_false_iff_ne.mpr c7
 have c7b1 : (t199 != 0) = true := bne_iff_ne.mpr c7
 have H' := Aside0.mk H
 clear H
 have p197 : 0 ≤ (a1 : Int) := of_decide_eq_true (by assumption)
 have q197 : a1 < (l0.length : Int) := of_decide_eq_true (by assumption)
 obtain ⟨ad197, e197, hx197_0⟩ := Kd.at_int HR0.out a1 p197 q197
 cases e197
 replace p197 := eq_true p197
 replace q197 := eq_true q197
 go_enter Tryd.func53, Tryd.ntmps53
 go_wp2_with (first | ((with_reducible refine gate_callee (f := 64) rfl ?_); refine goesL_ (some 20) rfl rfl Tryd.func64 (by kernel_rfl) rfl #[.int .i32 (rd l0 a1)] rfl (map1 rfl) ?_; (with_reducible refine (pairs_kind.calls (rd l0 a1) t198 t199 _ A6.out).mono ?_); rintro e w9 ⟨rfl, hb⟩; refine ⟨_, rfl, ?_⟩; have n0_ := Aside0.mk (below_step (by repeat with_reducible first | exact HB.out | apply pw_below_drewN | apply below_drew1 | apply below_alloc) hb); clear HB; have HB := n0_; clear n0_; (try clear hb); (try clear hb2); (try clear hk); (try clear hi)))
 go_loopg [7, 8] k (fun kq v7 v8 w' => ∃ (x7_1 : Int) (x8_1 : Int), v7 = .int .i64 x7_1 ∧ v8 = .int .i64 x8_1 ∧ Aside0 (pairs_mate.l0 kq l0 t198 t199 x7_1 x8_1 = some r) ∧ Aside0 (kq ≤ k) ∧ Aside0 (Below w.heap.size w w'))
 case atStart => exact ⟨(0), (a1), (by first | rfl | (simp; done) | (simp [*]; done)), (by first | rfl | (simp; done) | (simp [*]; done)), H', ⟨Nat.le_refl _⟩, ⟨by repeat with_reducible first | exact HB.out | apply pw_below_drewN | apply below_drew1 | apply below_alloc⟩⟩
 case round =>
  clear H'
  try clear c3
  try clear c3b0
  try clear c4
  try clear c4b0
  try clear c5
  try clear c5b0
  try clear c7
  try clear c7b0
  try clear c7b1
  try clear hx197_0
  try clear p197
  try clear q197
  obtain ⟨x7_1, x8_1, rfl, rfl, HA, HK1, HB⟩ := hrel
  cases gk with
  | zero => exact absurd HA.out (by simp [pairs_mate.l0])
  | succ k1 =>
   have H := HA.out
   clear HA
   simp only [pairs_mate.l0] at H
   have HC10 := Aside0.mk H
   clear H
   go_upto_region 8 with (fail)
   go_cut [33] (fun v33 wc => ∃ (kq : Nat) (x33_9 : Bool), v33 = .bool x33_9 ∧ Aside0 (pairs_mate.j1 kq l0 t198 t199 x7_1 x8_1 x33_9 = some r) ∧ Aside0 (kq ≤ k1) ∧ Aside0 (Below w.heap.size w wc))
   case first =>
    have H := HC10.out
    clear HC10
    by_cases c11 : x8_1 ≥ 0
    rotate_left
    ·
     rw [if_neg c11] at H
     have c11b0 := decide_eq_false c11
     clear c11
     (first | rw [c11b0] | (simp only [i64_w, i32_w]; rw [c11b0]) | skip)
     have H' := Aside0.mk H
     clear H
     go_wp2
     go_meet
     case rel => exact ⟨_, (false), (by first | rfl | (simp; done) | (simp [*]; done)), H', ⟨by have := HK1.out; first | omega | exact Nat.le_refl _⟩, ⟨by repeat with_reducible first | exact HB.out | apply pw_below_drewN | apply below_drew1 | apply below_alloc⟩⟩
    rw [if_pos c11] at H
    have c11b0 := decide_eq_true c11
    clear c11
    (first | rw [c11b0] | (simp only [i64_w, i32_w]; rw [c11b0]) | skip)
    have H' := Aside0.mk H
    clear H
    go_wp2
    go_meet
    case rel => exact ⟨_, (decide (x8_1 < (l0.length : Int))), (by first | rfl | (simp; done) | (simp [*]; done)), H', ⟨by have := HK1.out; first | omega | exact Nat.le_refl _⟩, ⟨by repeat with_reducible first | exact HB.out | apply pw_below_drewN | apply below_drew1 | apply below_alloc⟩⟩
   case rest =>
    clear HC10
    try clear c3
    try clear c3b0
    try clear c4
    try clear c4b0
    try clear c5
    try clear c5b0
    try clear c7
    try clear c7b0
    try clear c7b1
    try clear hx197_0
    try clear p197
    try clear q197
    obtain ⟨kq, x33_9, rfl, HA, HJ9, HB⟩ := hcut
    cases kq with
    | zero => exact absurd HA.out (by simp [pairs_mate.j1])
    | succ kj9 =>
     have H := HA.out
     clear HA
     simp only [pairs_mate.j1] at H
     by_cases c12 : x33_9 = true
     rotate_left
     ·
      replace c12 := Bool.eq_false_iff.mpr c12
      subst c12
      have H1 : (some (-1)) = some r := by rw [if_neg (show ¬ (false = true) by decide)] at H; exact H
      clear H
      have H := H1
      clear H1
      obtain rfl := Option.some.inj H
      go_wp2
      go_ret
      exact ⟨by first | rfl | (simp [errW_none, errW_some] <;> rfl) | (simp [*, errW_none, errW_some] <;> rfl), by repeat with_reducible first | exact HB.out | apply pw_below_drewN | apply below_drew1 | apply below_alloc⟩
     subst c12
     have H1 : (if 0 ≤ x8_1 then (if x8_1 < (l0.length : Int) then ((pairs_kind.f (rd l0 x8_1)).bind fun bt201 => (if bt201.2 = 0 then (pairs_mate.j2 kj9 l0 t198 t199 x7_1 x8_1 bt201.2 false) else (pairs_mate.j2 kj9 l0 t198 t199 x7_1 x8_1 bt201.2 (bt201.1 == t198)))) else (none)) else (none)) = some r := by rw [if_pos rfl] at H; exact H
     clear H
     have H := H1
     clear H1
     by_cases c13 : 0 ≤ x8_1
     rotate_left
     ·
      rw [if_neg c13] at H
      exact absurd H (by simp)
     rw [if_pos c13] at H
     have c13b0 := decide_eq_true c13
     clear c13
     by_cases c14 : x8_1 < (l0.length : Int)
     rotate_left
     ·
      rw [if_neg c14] at H
      exact absurd H (by simp)
     rw [if_pos c14] at H
     have c14b0 := decide_eq_true c14
     clear c14
     replace H := Option.bind_eq_some_iff.mp H
     obtain ⟨⟨t201, t202⟩, A150, H⟩ := H
     (try dsimp only at H)
     have A15 := Aside0.mk A150
     clear A150
     have HC16 := Aside0.mk H
     clear H
     have p200 : 0 ≤ (x8_1 : Int) := of_decide_eq_true (by assumption)
     have q200 : x8_1 < (l0.length : Int) := of_decide_eq_true (by assumption)
     obtain ⟨ad200, e200, hx200_0⟩ := Kd.at_int HR0.out x8_1 p200 q200
     obtain rfl : ad197 = ad200 := (by injection e200)
     replace hx200_0 := (HB.out.cell (World.block_lt_of_cell? w _ hx200_0)).trans hx200_0
     replace p200 := eq_true p200
     replace q200 := eq_true q200
     go_upto_region 11 with (first | ((with_reducible refine gate_callee (f := 64) rfl ?_); refine goesL_ (some 42) rfl rfl Tryd.func64 (by kernel_rfl) rfl #[.int .i32 (rd l0 x8_1)] rfl (map1 rfl) ?_; (with_reducible refine (pairs_kind.calls (rd l0 x8_1) t201 t202 _ A15.out).mono ?_); rintro e w17 ⟨rfl, hb⟩; refine ⟨_, rfl, ?_⟩; have n0_ := Aside0.mk (below_step (by repeat with_reducible first | exact HB.out | apply pw_below_drewN | apply below_drew1 | apply below_alloc) hb); clear HB; have HB := n0_; clear n0_; (try clear hb); (try clear hb2); (try clear hk); (try clear hi)))
     (try simp only [Act.put, List.setIfInBounds_toArray, List.set_cons_zero, List.set_cons_succ])
     go_cut [51] (fun v51 wc => ∃ (kq : Nat) (x51_15 : Bool), v51 = .bool x51_15 ∧ Aside0 (pairs_mate.j2 kq l0 t198 t199 x7_1 x8_1 t202 x51_15 = some r) ∧ Aside0 (kq ≤ kj9) ∧ Aside0 (Below w.heap.size w wc))
     case first =>
      have H := HC16.out
      clear HC16
      by_cases c18 : t202 = 0
      rotate_left
      ·
       rw [if_neg c18] at H
       have c18b0 : (t202 == 0) = false := beq_eq_false_iff_ne.mpr c18
       have c18b1 : (t202 != 0) = true := bne_iff_ne.mpr c18
       (first | rw [c18b0] | (simp only [i64_w, i32_w]; rw [c18b0]) | skip)
       have H' := Aside0.mk H
       clear H
       go_wp2
       go_meet
       case rel => exact ⟨_, ((t201 == t198)), (by first | rfl | (simp; done) | (simp [*]; done)), H', ⟨by have := HK1.out; have := HJ9.out; first | omega | exact Nat.le_refl _⟩, ⟨by repeat with_reducible first | exact HB.out | apply pw_below_drewN | apply below_drew1 | apply below_alloc⟩⟩
      rw [if_pos c18] at H
      have c18b0 : (t202 == 0) = true := beq_iff_eq.mpr c18
      have c18b1 : (t202 != 0) = false := bne_eq_false_iff_eq.mpr c18
      clear c18
      (first | rw [c18b0] | (simp only [i64_w, i32_w]; rw [c18b0]) | skip)
      have H' := Aside0.mk H
      clear H
      go_wp2
      go_meet
      case rel => exact ⟨_, (false), (by first | rfl | (simp; done) | (simp [*]; done)), H', ⟨by have := HK1.out; have := HJ9.out; first | omega | exact Nat.le_refl _⟩, ⟨by repeat with_reducible first | exact HB.out | apply pw_below_drewN | apply below_drew1 | apply below_alloc⟩⟩
     case rest =>
      clear HC16
      try clear c3
      try clear c3b0
      try clear c4
      try clear c4b0
      try clear c5
      try clear c5b0
      try clear c7
      try clear c7b0
      try clear c7b1
      try clear c12
      try clear c13
      try clear c13b0
      try clear c14
      try clear c14b0
      try clear hx197_0
      try clear hx200_0
      try clear p197
      try clear p200
      try clear q197
      try clear q200
      obtain ⟨kq, x51_15, rfl, HA, HJ15, HB⟩ := hcut
      cases kq with
      | zero => exact absurd HA.out (by simp [pairs_mate.j2])
      | succ kj15 =>
       have H := HA.out
       clear HA
       simp only [pairs_mate.j2] at H
       by_cases c19 : x51_15 = true
       rotate_left
       ·
        replace c19 := Bool.eq_false_iff.mpr c19
        subst c19
        have H1 : (if x7_1 = 0 then (some x8_1) else (pairs_mate.l0 kj15 l0 t198 t199 x7_1 (wrap64 (x8_1 + t199)))) = some r := by rw [if_neg (show ¬ (false = true) by decide)] at H; exact H
        clear H
        have H := H1
        clear H1
        by_cases c21 : x7_1 = 0
        ·
         rw [if_pos c21] at H
         have c21b0 : (x7_1 == 0) = true := beq_iff_eq.mpr c21
         have c21b1 : (x7_1 != 0) = false := bne_eq_false_iff_eq.mpr c21
         clear c21
         obtain rfl := Option.some.inj H
         go_wp2
         go_ret
         exact ⟨by first | rfl | (simp [errW_none, errW_some] <;> rfl) | (simp [*, errW_none, errW_some] <;> rfl), by repeat with_reducible first | exact HB.out | apply pw_below_drewN | apply below_drew1 | apply below_alloc⟩
        rw [if_neg c21] at H
        have c21b0 : (x7_1 == 0) = false := beq_eq_false_iff_ne.mpr c21
        have c21b1 : (x7_1 != 0) = true := bne_iff_ne.mpr c21
        have H' := Aside0.mk H
        clear H
        go_wp2
        go_roundg kj15
        case measure => have := HK1.out; have := HJ9.out; have := HJ15.out; omega
        case rel => exact ⟨(x7_1), (wrap64 (x8_1 + t199)), (by first | rfl | (simp; done) | (simp [*]; done)), (by first | rfl | (simp; done) | (simp [*]; done)), H', ⟨by have := HK1.out; have := HJ9.out; have := HJ15.out; omega⟩, ⟨by repeat with_reducible first | exact HB.out | apply pw_below_drewN | apply below_drew1 | apply below_alloc⟩⟩
       subst c19
       have H1 : (if (wrap64 (x7_1 + t202)) = 0 then (some x8_1) else (pairs_mate.l0 kj15 l0 t198 t199 (wrap64 (x7_1 + t202)) (wrap64 (x8_1 + t199)))) = some r := by rw [if_pos rfl] at H; exact H
       clear H
       have H := H1
       clear H1
       by_cases c20 : (wrap64 (x7_1 + t202)) = 0
       ·
        rw [if_pos c20] at H
        have c20b0 : ((wrap64 (x7_1 + t202)) == 0) = true := beq_iff_eq.mpr c20
        have c20b1 : ((wrap64 (x7_1 + t202)) != 0) = false := bne_eq_false_iff_eq.mpr c20
        clear c20
        obtain rfl := Option.some.inj H
        go_wp2
        go_ret
        exact ⟨by first | rfl | (simp [errW_none, errW_some] <;> rfl) | (simp [*, errW_none, errW_some] <;> rfl), by repeat with_reducible first | exact HB.out | apply pw_below_drewN | apply below_drew1 | apply below_alloc⟩
       rw [if_neg c20] at H
       have c20b0 : ((wrap64 (x7_1 + t202)) == 0) = false := beq_eq_false_iff_ne.mpr c20
       have c20b1 : ((wrap64 (x7_1 + t202)) != 0) = true := bne_iff_ne.mpr c20
       have H' := Aside0.mk H
       clear H
       go_wp2
       go_roundg kj15
       case measure => have := HK1.out; have := HJ9.out; have := HJ15.out; omega
       case rel => exact ⟨(wrap64 (x7_1 + t202)), (wrap64 (x8_1 + t199)), (by first | rfl | (simp; done) | (simp [*]; done)), (by first | rfl | (simp; done) | (simp [*]; done)), H', ⟨by have := HK1.out; have := HJ9.out; have := HJ15.out; omega⟩, ⟨by repeat with_reducible first | exact HB.out | apply pw_below_drewN | apply below_drew1 | apply below_alloc⟩⟩

/-! ### pairs_Around: function 32 -/
mutual
def pairs_Around.j0 : Nat → ByteArray → Int → Int → Int → Bool → Option (Int × Int × Int)
  | 0, _, _, _, _, _ => none
  | k + 1, x0, x1, x2, x3, x36 => if x36 = true then (some (0, 0, 1)) else ((text_Of.f k x0).bind fun bt204 => ((text_Map_Is.f bt204.1 bt204.2 x1).bind fun t211 => (if t211 = true then (pairs_Around.l0 k x1 x2 x3 (mn x1 (wrap64 ((bt204.1.length : Int) - 1))) bt204.1 bt204.2) else (some (0, 0, 1)))))
def pairs_Around.l0 : Nat → Int → Int → Int → Int → List Int → List Int → Option (Int × Int × Int)
  | 0, _, _, _, _, _, _ => none
  | k + 1, x1, x2, x3, x12, v0, v1 => if x12 ≥ 0 then (if 0 ≤ x12 then (if x12 < (v0.length : Int) then (if (rd v0 x12) = (wrap32 (x2)) then ((pairs_mate.f k v0 x12).bind fun t213 => (if t213 ≥ x1 then (if (wrap64 (x3 - 1)) = 0 then (some (x12, t213, 0)) else (pairs_Around.l0 k x1 x2 (wrap64 (x3 - 1)) (wrap64 (x12 - 1)) v0 v1)) else (pairs_Around.l0 k x1 x2 x3 (wrap64 (x12 - 1)) v0 v1))) else (pairs_Around.l0 k x1 x2 x3 (wrap64 (x12 - 1)) v0 v1)) else (none)) else (none)) else (some (0, 0, 6))
end
def pairs_Around.f (k : Nat) (a0 : ByteArray) (a1 : Int) (a2 : Int) (a3 : Int) : Option (Int × Int × Int) := (text_May.f a0).bind fun t203 => (if t203 = true then (if a2 = 40 then (if a3 < 1 then (pairs_Around.j0 k a0 a1 a2 a3 true) else (pairs_Around.j0 k a0 a1 a2 a3 (decide (a3 > 999)))) else (if a2 = 91 then (if a3 < 1 then (pairs_Around.j0 k a0 a1 a2 a3 true) else (pairs_Around.j0 k a0 a1 a2 a3 (decide (a3 > 999)))) else (if a2 = 123 then (if a3 < 1 then (pairs_Around.j0 k a0 a1 a2 a3 true) else (pairs_Around.j0 k a0 a1 a2 a3 (decide (a3 > 999)))) else (pairs_Around.j0 k a0 a1 a2 a3 true)))) else (pairs_Around.j0 k a0 a1 a2 a3 true))
theorem pairs_Around.mono_l : ∀ k, (∀ y0 y1 y2 y3 y4, LeO (pairs_Around.j0 k y0 y1 y2 y3 y4) (pairs_Around.j0 (k + 1) y0 y1 y2 y3 y4)) ∧ (∀ y0 y1 y2 y3 y4 y5, LeO (pairs_Around.l0 k y0 y1 y2 y3 y4 y5) (pairs_Around.l0 (k + 1) y0 y1 y2 y3 y4 y5))
  | 0 => ⟨fun _ _ _ _ _ r h => by simp [pairs_Around.j0] at h, fun _ _ _ _ _ _ r h => by simp [pairs_Around.l0] at h⟩
  | k + 1 => by
    obtain ⟨ih0, ih1⟩ := pairs_Around.mono_l k
    refine ⟨?_, ?_⟩
    all_goals intros
    all_goals first | unfold pairs_Around.j0 | unfold pairs_Around.l0
    all_goals repeat' first | (with_reducible first | exact ih0 _ _ _ _ _ | exact ih1 _ _ _ _ _ _ | exact pairs_mate.mono _ _ _ | exact text_Of.mono _ _ | exact LeO.refl _ | exact LeO.none _ | refine LeO.ite ?_ ?_ | refine LeO.bind ?_ (fun _ => ?_)) | exact ih0 _ _ _ _ _ | exact ih1 _ _ _ _ _ _ | exact pairs_mate.mono _ _ _ | exact text_Of.mono _ _ | exact LeO.refl _ | exact LeO.none _ | refine LeO.ite ?_ ?_ | refine LeO.bind ?_ (fun _ => ?_)
theorem pairs_Around.mono : ∀ a0 a1 a2 a3 k, LeO (pairs_Around.f k a0 a1 a2 a3) (pairs_Around.f (k + 1) a0 a1 a2 a3) := by
  intro a0 a1 a2 a3 k
  obtain ⟨ih0, ih1⟩ := pairs_Around.mono_l k
  unfold pairs_Around.f
  repeat' first | (with_reducible first | exact ih0 _ _ _ _ _ | exact ih1 _ _ _ _ _ _ | exact pairs_mate.mono _ _ _ | exact text_Of.mono _ _ | exact LeO.refl _ | exact LeO.none _ | refine LeO.ite ?_ ?_ | refine LeO.bind ?_ (fun _ => ?_)) | exact ih0 _ _ _ _ _ | exact ih1 _ _ _ _ _ _ | exact pairs_mate.mono _ _ _ | exact text_Of.mono _ _ | exact LeO.refl _ | exact LeO.none _ | refine LeO.ite ?_ ?_ | refine LeO.bind ?_ (fun _ => ?_)
set_option maxHeartbeats 8000000 in
set_option maxRecDepth 100000 in
theorem pairs_Around.calls (k : Nat) (a0 : ByteArray) (a1 : Int) (a2 : Int) (a3 : Int) (r1 : Int) (r2 : Int) (r3 : Int) (w : World) (hT : Tabs w) (h : pairs_Around.f k a0 a1 a2 a3 = some (r1, r2, r3)) :
  Calls Tryd.prog 32 #[.string a0, .int .i64 a1, .int .i64 a2, .int .i64 a3] w fun e w' => e = .returned (.tuple #[.int .i64 r1, .int .i64 r2, .int .i64 r3]) ∧ Below w.heap.size w w' := by
 have HT := Aside0.mk hT
 clear hT
 have HB := Aside0.mk (Below.refl w.heap.size w)
 have H : ((text_May.f a0).bind fun t203 => (if t203 = true then (if a2 = 40 then (if a3 < 1 then (pairs_Around.j0 k a0 a1 a2 a3 true) else (pairs_Around.j0 k a0 a1 a2 a3 (decide (a3 > 999)))) else (if a2 = 91 then (if a3 < 1 then (pairs_Around.j0 k a0 a1 a2 a3 true) else (pairs_Around.j0 k a0 a1 a2 a3 (decide (a3 > 999)))) else (if a2 = 123 then (if a3 < 1 then (pairs_Around.j0 k a0 a1 a2 a3 true) else (pairs_Around.j0 k a0 a1 a2 a3 (decide (a3 > 999)))) else (pairs_Around.j0 k a0 a1 a2 a3 true)))) else (pairs_Around.j0 k a0 a1 a2 a3 true))) = some (r1, r2, r3) := h
 clear h
 have HC5 := Aside0.mk H
 clear H
 go_enter Tryd.func32, Tryd.ntmps32
 go_upto_region 1 with (fail)
 go_cut [36] (fun v36 wc => ∃ (kq : Nat) (x36_4 : Bool), v36 = .bool x36_4 ∧ Aside0 (pairs_Around.j0 kq a0 a1 a2 a3 x36_4 = some (r1, r2, r3)) ∧ Aside0 (kq ≤ k) ∧ Aside0 (Below w.heap.size w wc))
 case first =>
  have H := HC5.out
  clear HC5
  replace H := Option.bind_eq_some_iff.mp H
  obtain ⟨t203, A60, H⟩ := H
  (try dsimp only at H)
  have A6 := Aside0.mk A60
  clear A60
  by_cases c7 : t203 = true
  rotate_left
  ·
   replace c7 := Bool.eq_false_iff.mpr c7
   subst c7
   have H1 : (pairs_Around.j0 k a0 a1 a2 a3 true) = some (r1, r2, r3) := by rw [if_neg (show ¬ (false = true) by decide)] at H; exact H
   clear H
   have H := H1
   clear H1
   have H' := Aside0.mk H
   clear H
   go_wp2_with (first | ((with_reducible refine gate_callee (f := 25) rfl ?_); refine goesL_ (some 15) rfl rfl Tryd.func25 (by kernel_rfl) rfl #[.string a0] rfl (map1 rfl) ?_; (with_reducible refine (text_May.calls a0 false _ ?side1 A6.out).mono ?_); (case side1 => exact Tabs.below HT.out (by repeat with_reducible first | exact HB.out | apply pw_below_drewN | apply below_drew1 | apply below_alloc)); rintro e w21 ⟨rfl, hb⟩; refine ⟨_, rfl, ?_⟩; have n0_ := Aside0.mk (below_step (by repeat with_reducible first | exact HB.out | apply pw_below_drewN | apply below_drew1 | apply below_alloc) hb); clear HB; have HB := n0_; clear n0_; (try clear hb); (try clear hb2); (try clear hk); (try clear hi)))
   go_meet
   case rel => exact ⟨_, (true), (by first | rfl | (simp; done) | (simp [*]; done)), H', ⟨by first | omega | exact Nat.le_refl _⟩, ⟨by repeat with_reducible first | exact HB.out | apply pw_below_drewN | apply below_drew1 | apply below_alloc⟩⟩
  subst c7
  have H1 : (if a2 = 40 then (if a3 < 1 then (pairs_Around.j0 k a0 a1 a2 a3 true) else (pairs_Around.j0 k a0 a1 a2 a3 (decide (a3 > 999)))) else (if a2 = 91 then (if a3 < 1 then (pairs_Around.j0 k a0 a1 a2 a3 true) else (pairs_Around.j0 k a0 a1 a2 a3 (decide (a3 > 999)))) else (if a2 = 123 then (if a3 < 1 then (pairs_Around.j0 k a0 a1 a2 a3 true) else (pairs_Around.j0 k a0 a1 a2 a3 (decide (a3 > 999)))) else (pairs_Around.j0 k a0 a1 a2 a3 true)))) = some (r1, r2, r3) := by rw [if_pos rfl] at H; exact H
  clear H
  have H := H1
  clear H1
  by_cases c8 : a2 = 40
  ·
   rw [if_pos c8] at H
   have c8b0 : (a2 == 40) = true := beq_iff_eq.mpr c8
   have c8b1 : (a2 != 40) = false := bne_eq_false_iff_eq.mpr c8
   clear c8
   (first | rw [c8b0] | (simp only [i64_w, i32_w]; rw [c8b0]) | skip)
   by_cases c9 : a3 < 1
   ·
    rw [if_pos c9] at H
    have c9b0 := decide_eq_true c9
    clear c9
    have H' := Aside0.mk H
    clear H
    go_wp2_with (first | ((with_reducible refine gate_callee (f := 25) rfl ?_); refine goesL_ (some 15) rfl rfl Tryd.func25 (by kernel_rfl) rfl #[.string a0] rfl (map1 rfl) ?_; (with_reducible refine (text_May.calls a0 true _ ?side1 A6.out).mono ?_); (case side1 => exact Tabs.below HT.out (by repeat with_reducible first | exact HB.out | apply pw_below_drewN | apply below_drew1 | apply below_alloc)); rintro e w10 ⟨rfl, hb⟩; refine ⟨_, rfl, ?_⟩; have n0_ := Aside0.mk (below_step (by repeat with_reducible first | exact HB.out | apply pw_below_drewN | apply below_drew1 | apply below_alloc) hb); clear HB; have HB := n0_; clear n0_; (try clear hb); (try clear hb2); (try clear hk); (try clear hi)))
    go_meet
    case rel => exact ⟨_, (true), (by first | rfl | (simp; done) | (simp [*]; done)), H', ⟨by first | omega | exact Nat.le_refl _⟩, ⟨by repeat with_reducible first | exact HB.out | apply pw_below_drewN | apply below_drew1 | apply below_alloc⟩⟩
   rw [if_neg c9] at H
   have c9b0 := decide_eq_false c9
   clear c9
   have H' := Aside0.mk H
   clear H
   go_wp2_with (first | ((with_reducible refine gate_callee (f := 25) rfl ?_); refine goesL_ (some 15) rfl rfl Tryd.func25 (by kernel_rfl) rfl #[.string a0] rfl (map1 rfl) ?_; (with_reducible refine (text_May.calls a0 true _ ?side1 A6.out).mono ?_); (case side1 => exact Tabs.below HT.out (by repeat with_reducible first | exact HB.out | apply pw_below_drewN | apply below_drew1 | apply below_alloc)); rintro e w11 ⟨rfl, hb⟩; refine ⟨_, rfl, ?_⟩; have n0_ := Aside0.mk (below_step (by repeat with_reducible first | exact HB.out | apply pw_below_drewN | apply below_drew1 | apply below_alloc) hb); clear HB; have HB := n0_; clear n0_; (try clear hb); (try clear hb2); (try clear hk); (try clear hi)))
   go_meet
   case rel => exact ⟨_, (decide (a3 > 999)), (by first | rfl | (simp; done) | (simp [*]; done)), H', ⟨by first | omega | exact Nat.le_refl _⟩, ⟨by repeat with_reducible first | exact HB.out | apply pw_below_drewN | apply below_drew1 | apply below_alloc⟩⟩
  rw [if_neg c8] at H
  have c8b0 : (a2 == 40) = false := beq_eq_false_iff_ne.mpr c8
  have c8b1 : (a2 != 40) = true := bne_iff_ne.mpr c8
  (first | rw [c8b0] | (simp only [i64_w, i32_w]; rw [c8b0]) | skip)
  by_cases c12 : a2 = 91
  ·
   rw [if_pos c12] at H
   have c12b0 : (a2 == 91) = true := beq_iff_eq.mpr c12
   have c12b1 : (a2 != 91) = false := bne_eq_false_iff_eq.mpr c12
   clear c12
   by_cases c13 : a3 < 1
   ·
    rw [if_pos c13] at H
    have c13b0 := decide_eq_true c13
    clear c13
    have H' := Aside0.mk H
    clear H
    go_wp2_with (first | ((with_reducible refine gate_callee (f := 25) rfl ?_); refine goesL_ (some 15) rfl rfl Tryd.func25 (by kernel_rfl) rfl #[.string a0] rfl (map1 rfl) ?_; (with_reducible refine (text_May.calls a0 true _ ?side1 A6.out).mono ?_); (case side1 => exact Tabs.below HT.out (by repeat with_reducible first | exact HB.out | apply pw_below_drewN | apply below_drew1 | apply below_alloc)); rintro e w14 ⟨rfl, hb⟩; refine ⟨_, rfl, ?_⟩; have n0_ := Aside0.mk (below_step (by repeat with_reducible first | exact HB.out | apply pw_below_drewN | apply below_drew1 | apply below_alloc) hb); clear HB; have HB := n0_; clear n0_; (try clear hb); (try clear hb2); (try clear hk); (try clear hi)))
    go_meet
    case rel => exact ⟨_, (true), (by first | rfl | (simp; done) | (simp [*]; done)), H', ⟨by first | omega | exact Nat.le_refl _⟩, ⟨by repeat with_reducible first | exact HB.out | apply pw_below_drewN | apply below_drew1 | apply below_alloc⟩⟩
   rw [if_neg c13] at H
   have c13b0 := decide_eq_false c13
   clear c13
   have H' := Aside0.mk H
   clear H
   go_wp2_with (first | ((with_reducible refine gate_callee (f := 25) rfl ?_); refine goesL_ (some 15) rfl rfl Tryd.func25 (by kernel_rfl) rfl #[.string a0] rfl (map1 rfl) ?_; (with_reducible refine (text_May.calls a0 true _ ?side1 A6.out).mono ?_); (case side1 => exact Tabs.below HT.out (by repeat with_reducible first | exact HB.out | apply pw_below_drewN | apply below_drew1 | apply below_alloc)); rintro e w15 ⟨rfl, hb⟩; refine ⟨_, rfl, ?_⟩; have n0_ := Aside0.mk (below_step (by repeat with_reducible first | exact HB.out | apply pw_below_drewN | apply below_drew1 | apply below_alloc) hb); clear HB; have HB := n0_; clear n0_; (try clear hb); (try clear hb2); (try clear hk); (try clear hi)))
   go_meet
   case rel => exact ⟨_, (decide (a3 > 999)), (by first | rfl | (simp; done) | (simp [*]; done)), H', ⟨by first | omega | exact Nat.le_refl _⟩, ⟨by repeat with_reducible first | exact HB.out | apply pw_below_drewN | apply below_drew1 | apply below_alloc⟩⟩
  rw [if_neg c12] at H
  have c12b0 : (a2 == 91) = false := beq_eq_false_iff_ne.mpr c12
  have c12b1 : (a2 != 91) = true := bne_iff_ne.mpr c12
  by_cases c16 : a2 = 123
  rotate_left
  ·
   rw [if_neg c16] at H
   have c16b0 : (a2 == 123) = false := beq_eq_false_iff_ne.mpr c16
   have c16b1 : (a2 != 123) = true := bne_iff_ne.mpr c16
   have H' := Aside0.mk H
   clear H
   go_wp2_with (first | ((with_reducible refine gate_callee (f := 25) rfl ?_); refine goesL_ (some 15) rfl rfl Tryd.func25 (by kernel_rfl) rfl #[.string a0] rfl (map1 rfl) ?_; (with_reducible refine (text_May.calls a0 true _ ?side1 A6.out).mono ?_); (case side1 => exact Tabs.below HT.out (by repeat with_reducible first | exact HB.out | apply pw_below_drewN | apply below_drew1 | apply below_alloc)); rintro e w20 ⟨rfl, hb⟩; refine ⟨_, rfl, ?_⟩; have n0_ := Aside0.mk (below_step (by repeat with_reducible first | exact HB.out | apply pw_below_drewN | apply below_drew1 | apply below_alloc) hb); clear HB; have HB := n0_; clear n0_; (try clear hb); (try clear hb2); (try clear hk); (try clear hi)))
   go_meet
   case rel => exact ⟨_, (true), (by first | rfl | (simp; done) | (simp [*]; done)), H', ⟨by first | omega | exact Nat.le_refl _⟩, ⟨by repeat with_reducible first | exact HB.out | apply pw_below_drewN | apply below_drew1 | apply below_alloc⟩⟩
  rw [if_pos c16] at H
  have c16b0 : (a2 == 123) = true := beq_iff_eq.mpr c16
  have c16b1 : (a2 != 123) = false := bne_eq_false_iff_eq.mpr c16
  clear c16
  by_cases c17 : a3 < 1
  ·
   rw [if_pos c17] at H
   have c17b0 := decide_eq_true c17
   clear c17
   have H' := Aside0.mk H
   clear H
   go_wp2_with (first | ((with_reducible refine gate_callee (f := 25) rfl ?_); refine goesL_ (some 15) rfl rfl Tryd.func25 (by kernel_rfl) rfl #[.string a0] rfl (map1 rfl) ?_; (with_reducible refine (text_May.calls a0 true _ ?side1 A6.out).mono ?_); (case side1 => exact Tabs.below HT.out (by repeat with_reducible first | exact HB.out | apply pw_below_drewN | apply below_drew1 | apply below_alloc)); rintro e w18 ⟨rfl, hb⟩; refine ⟨_, rfl, ?_⟩; have n0_ := Aside0.mk (below_step (by repeat with_reducible first | exact HB.out | apply pw_below_drewN | apply below_drew1 | apply below_alloc) hb); clear HB; have HB := n0_; clear n0_; (try clear hb); (try clear hb2); (try clear hk); (try clear hi)))
   go_meet
   case rel => exact ⟨_, (true), (by first | rfl | (simp; done) | (simp [*]; done)), H', ⟨by first | omega | exact Nat.le_refl _⟩, ⟨by repeat with_reducible first | exact HB.out | apply pw_below_drewN | apply below_drew1 | apply below_alloc⟩⟩
  rw [if_neg c17] at H
  have c17b0 := decide_eq_false c17
  clear c17
  have H' := Aside0.mk H
  clear H
  go_wp2_with (first | ((with_reducible refine gate_callee (f := 25) rfl ?_); refine goesL_ (some 15) rfl rfl Tryd.func25 (by kernel_rfl) rfl #[.string a0] rfl (map1 rfl) ?_; (with_reducible refine (text_May.calls a0 true _ ?side1 A6.out).mono ?_); (case side1 => exact Tabs.below HT.out (by repeat with_reducible first | exact HB.out | apply pw_below_drewN | apply below_drew1 | apply below_alloc)); rintro e w19 ⟨rfl, hb⟩; refine ⟨_, rfl, ?_⟩; have n0_ := Aside0.mk (below_step (by repeat with_reducible first | exact HB.out | apply pw_below_drewN | apply below_drew1 | apply below_alloc) hb); clear HB; have HB := n0_; clear n0_; (try clear hb); (try clear hb2); (try clear hk); (try clear hi)))
  go_meet
  case rel => exact ⟨_, (decide (a3 > 999)), (by first | rfl | (simp; done) | (simp [*]; done)), H', ⟨by first | omega | exact Nat.le_refl _⟩, ⟨by repeat with_reducible first | exact HB.out | apply pw_below_drewN | apply below_drew1 | apply below_alloc⟩⟩
 case rest =>
  clear HC5
  obtain ⟨kq, x36_4, rfl, HA, HJ4, HB⟩ := hcut
  cases kq with
  | zero => exact absurd HA.out (by simp [pairs_Around.j0])
  | succ kj4 =>
   have H := HA.out
   clear HA
   simp only [pairs_Around.j0] at H
   by_cases c22 : x36_4 = true
   ·
    subst c22
    have H1 : (some (0, 0, 1)) = some (r1, r2, r3) := by rw [if_pos rfl] at H; exact H
    clear H
    have H := H1
    clear H1
    simp only [Option.some.injEq, Prod.mk.injEq] at H
    obtain ⟨rfl, rfl, rfl⟩ := H
    go_wp2
    go_ret3
    exact ⟨by first | rfl | (simp [errW_none, errW_some] <;> rfl) | (simp [*, errW_none, errW_some] <;> rfl), by repeat with_reducible first | exact HB.out | apply pw_below_drewN | apply below_drew1 | apply below_alloc⟩
   replace c22 := Bool.eq_false_iff.mpr c22
   subst c22
   have H1 : ((text_Of.f kj4 a0).bind fun bt204 => ((text_Map_Is.f bt204.1 bt204.2 a1).bind fun t211 => (if t211 = true then (pairs_Around.l0 kj4 a1 a2 a3 (mn a1 (wrap64 ((bt204.1.length : Int) - 1))) bt204.1 bt204.2) else (some (0, 0, 1))))) = some (r1, r2, r3) := by rw [if_neg (show ¬ (false = true) by decide)] at H; exact H
   clear H
   have H := H1
   clear H1
   replace H := Option.bind_eq_some_iff.mp H
   obtain ⟨⟨t204, t207⟩, A230, H⟩ := H
   (try dsimp only at H)
   have A23 := Aside0.mk A230
   clear A230
   replace H := Option.bind_eq_some_iff.mp H
   obtain ⟨t211, A240, H⟩ := H
   (try dsimp only at H)
   have A24 := Aside0.mk A240
   clear A240
   by_cases c25 : t211 = true
   rotate_left
   ·
    replace c25 := Bool.eq_false_iff.mpr c25
    subst c25
    have H1 : (some (0, 0, 1)) = some (r1, r2, r3) := by rw [if_neg (show ¬ (false = true) by decide)] at H; exact H
    clear H
    have H := H1
    clear H1
    simp only [Option.some.injEq, Prod.mk.injEq] at H
    obtain ⟨rfl, rfl, rfl⟩ := H
    go_wp2_with (first | ((with_reducible refine gate_callee (f := 27) rfl ?_); refine goesL_ (some 38) rfl rfl Tryd.func27 (by kernel_rfl) rfl #[.string a0] rfl (map1 rfl) ?_; (with_reducible refine (text_Of.calls kj4 a0 t204 t207 _ A23.out).mono ?_); rintro e w45 ⟨v205, v208, gb210, rfl, ho0, ho1, ⟨hx210_, hz210_⟩, hb⟩; refine ⟨_, rfl, ?_⟩; have n0_ := Aside0.mk (Kd.R_lower ho0 (below_size (by repeat with_reducible first | exact HB.out | apply pw_below_drewN | apply below_drew1 | apply below_alloc))); have n1_ := Aside0.mk (Kd.R_lower ho1 (below_size (by repeat with_reducible first | exact HB.out | apply pw_below_drewN | apply below_drew1 | apply below_alloc))); have n2_ := Aside0.mk (hx210_); have n3_ := Aside0.mk ((Nat.le_trans (below_size (by repeat with_reducible first | exact HB.out | apply pw_below_drewN | apply below_drew1 | apply below_alloc)) hz210_ : w.heap.size ≤ gb210)); have n4_ := Aside0.mk ((Nat.le_trans (below_size (by repeat with_reducible first | exact HB.out | apply pw_below_drewN | apply below_drew1 | apply below_alloc)) hz210_ : w.heap.size ≤ gb210)); have n5_ := Aside0.mk (below_step (by repeat with_reducible first | exact HB.out | apply pw_below_drewN | apply below_drew1 | apply below_alloc) hb); clear HB; have HO206 := n0_; have HO209 := n1_; have BK210 := n2_; have GW210 := n3_; have GE210 := n4_; have HB := n5_; clear n0_ n1_ n2_ n3_ n4_ n5_; (try clear hb); (try clear hb2); (try clear hk); (try clear hi); (try clear ho0); (try clear ho1); (try clear hx210_ hz210_); obtain ⟨Ao46, co46, eo46⟩ := Kd.R_slice HO206.out; subst eo46; obtain ⟨Ao47, co47, eo47⟩ := Kd.R_slice HO209.out; subst eo47) | ((with_reducible refine gate_callee (f := 28) rfl ?_); refine goesL_ (some 41) rfl rfl Tryd.func28 (by kernel_rfl) rfl #[.pointer (some ⟨gb210, 0, none⟩), .int .i64 a1] rfl (map2 rfl rfl) ?_; (with_reducible refine (text_Map_Is.calls gb210 Ao46 co46 t204 Ao47 co47 t207 a1 false _ ?side1 ?side2 ?side3 ?side4 ?side5 A24.out).mono ?_); (case side1 => exact BK210.out); (case side2 => repeat (first | exact (Kd.R_reads' HO206.out).2.2 | with_reducible first | refine Kd.C_drewN ?_ _ | refine Kd.C_drew ?_ | refine Kd.C_alloc ?_ _)); (case side3 => exact (Kd.R_reads' HO206.out).2.1); (case side4 => repeat (first | exact (Kd.R_reads' HO209.out).2.2 | with_reducible first | refine Kd.C_drewN ?_ _ | refine Kd.C_drew ?_ | refine Kd.C_alloc ?_ _)); (case side5 => exact (Kd.R_reads' HO209.out).2.1); rintro e w' ⟨rfl, ⟨nd, rfl⟩⟩; refine ⟨_, rfl, ?_⟩))
    go_ret3
    exact ⟨by first | rfl | (simp [errW_none, errW_some] <;> rfl) | (simp [*, errW_none, errW_some] <;> rfl), by repeat with_reducible first | exact HB.out | apply pw_below_drewN | apply below_drew1 | apply below_alloc⟩
   subst c25
   have H1 : (pairs_Around.l0 kj4 a1 a2 a3 (mn a1 (wrap64 ((t204.length : Int) - 1))) t204 t207) = some (r1, r2, r3) := by rw [if_pos rfl] at H; exact H
   clear H
   have H := H1
   clear H1
   obtain ⟨ji26, hji26⟩ : ∃ j_ : Int, (mn a1 (wrap64 ((t204.length : Int) - 1))) = j_ := ⟨_, rfl⟩
   replace H : (pairs_Around.l0 kj4 a1 a2 a3 ji26 t204 t207) = some (r1, r2, r3) := by first | (rw [hji26] at H; exact H) | (simp only [hji26] at H ⊢; exact H)
   (try rw [hji26] at A23)
   (try rw [hji26] at A24)
   have hji26_ : (if (wrap64 ((t204.length : Int) - 1)) < a1 then (wrap64 ((t204.length : Int) - 1)) else a1) = ji26 := hji26
   have H' := Aside0.mk H
   clear H
   go_wp2_with (first | ((with_reducible refine gate_callee (f := 27) rfl ?_); refine goesL_ (some 38) rfl rfl Tryd.func27 (by kernel_rfl) rfl #[.string a0] rfl (map1 rfl) ?_; (with_reducible refine (text_Of.calls kj4 a0 t204 t207 _ A23.out).mono ?_); rintro e w27 ⟨v205, v208, gb210, rfl, ho0, ho1, ⟨hx210_, hz210_⟩, hb⟩; refine ⟨_, rfl, ?_⟩; have n0_ := Aside0.mk (Kd.R_lower ho0 (below_size (by repeat with_reducible first | exact HB.out | apply pw_below_drewN | apply below_drew1 | apply below_alloc))); have n1_ := Aside0.mk (Kd.R_lower ho1 (below_size (by repeat with_reducible first | exact HB.out | apply pw_below_drewN | apply below_drew1 | apply below_alloc))); have n2_ := Aside0.mk (hx210_); have n3_ := Aside0.mk ((Nat.le_trans (below_size (by repeat with_reducible first | exact HB.out | apply pw_below_drewN | apply below_drew1 | apply below_alloc)) hz210_ : w.heap.size ≤ gb210)); have n4_ := Aside0.mk ((Nat.le_trans (below_size (by repeat with_reducible first | exact HB.out | apply pw_below_drewN | apply below_drew1 | apply below_alloc)) hz210_ : w.heap.size ≤ gb210)); have n5_ := Aside0.mk (below_step (by repeat with_reducible first | exact HB.out | apply pw_below_drewN | apply below_drew1 | apply below_alloc) hb); clear HB; have HO206 := n0_; have HO209 := n1_; have BK210 := n2_; have GW210 := n3_; have GE210 := n4_; have HB := n5_; clear n0_ n1_ n2_ n3_ n4_ n5_; (try clear hb); (try clear hb2); (try clear hk); (try clear hi); (try clear ho0); (try clear ho1); (try clear hx210_ hz210_); obtain ⟨Ao28, co28, eo28⟩ := Kd.R_slice HO206.out; subst eo28; obtain ⟨Ao29, co29, eo29⟩ := Kd.R_slice HO209.out; subst eo29) | ((with_reducible refine gate_callee (f := 28) rfl ?_); refine goesL_ (some 41) rfl rfl Tryd.func28 (by kernel_rfl) rfl #[.pointer (some ⟨gb210, 0, none⟩), .int .i64 a1] rfl (map2 rfl rfl) ?_; (with_reducible refine (text_Map_Is.calls gb210 Ao28 co28 t204 Ao29 co29 t207 a1 true _ ?side1 ?side2 ?side3 ?side4 ?side5 A24.out).mono ?_); (case side1 => exact BK210.out); (case side2 => repeat (first | exact (Kd.R_reads' HO206.out).2.2 | with_reducible first | refine Kd.C_drewN ?_ _ | refine Kd.C_drew ?_ | refine Kd.C_alloc ?_ _)); (case side3 => exact (Kd.R_reads' HO206.out).2.1); (case side4 => repeat (first | exact (Kd.R_reads' HO209.out).2.2 | with_reducible first | refine Kd.C_drewN ?_ _ | refine Kd.C_drew ?_ | refine Kd.C_alloc ?_ _)); (case side5 => exact (Kd.R_reads' HO209.out).2.1); rintro e w' ⟨rfl, ⟨nd, rfl⟩⟩; refine ⟨_, rfl, ?_⟩; have hcz30_0 := cz0 BK210.out; have hcz30_1 := cz1 BK210.out; have hfz30_0 := blk_frozen BK210.out 0; have hfz30_1 := blk_frozen BK210.out 1))
   go_loopg [3, 12] kj4 (fun kq v3 v12 w' => ∃ (x3_2 : Int) (x12_2 : Int), v3 = .int .i64 x3_2 ∧ v12 = .int .i64 x12_2 ∧ Aside0 (pairs_Around.l0 kq a1 a2 x3_2 x12_2 t204 t207 = some (r1, r2, r3)) ∧ Aside0 (kq ≤ kj4) ∧ Aside0 (Kd.R (Kd.int .i32) 21 w' w.heap.size (fun _ => True) (.slice Ao28 t204.length co28) t204) ∧ Aside0 (Kd.R (Kd.int .i64) 3 w' w.heap.size (fun _ => True) (.slice Ao29 t207.length co29) t207) ∧ Aside0 (w'.heap[gb210]? = some (.cells #[(.slice Ao28 t204.length co28), (.slice Ao29 t207.length co29)] 66 (0, 0))) ∧ Aside0 (Below w.heap.size w w'))
   case atStart => exact ⟨(a3), (ji26), (by first | rfl | (simp; done) | (simp [*]; done)), (by first | rfl | (simp; done) | (simp only [← hji26] <;> (first | rfl | simp)) | (simp [*]; done)), H', ⟨Nat.le_refl _⟩, ⟨by (with_reducible repeat (first | apply Kd.R_alloc | apply Kd.R_drewN | apply Kd.R_drew)); exact HO206.out⟩, ⟨by (with_reducible repeat (first | apply Kd.R_alloc | apply Kd.R_drewN | apply Kd.R_drew)); exact HO209.out⟩, ⟨BK210.out⟩, ⟨by repeat with_reducible first | exact HB.out | apply pw_below_drewN | apply below_drew1 | apply below_alloc⟩⟩
   case round =>
    clear H'
    try clear c22
    try clear c25
    try clear hcz30_0
    try clear hcz30_1
    try clear hfz30_0
    try clear hfz30_1
    obtain ⟨x3_2, x12_2, rfl, rfl, HA, HK2, HO_211000, HO_211001, BK210, HB⟩ := hrel
    cases gk with
    | zero => exact absurd HA.out (by simp [pairs_Around.l0])
    | succ k2 =>
     have H := HA.out
     clear HA
     simp only [pairs_Around.l0] at H
     by_cases c31 : x12_2 ≥ 0
     rotate_left
     ·
      rw [if_neg c31] at H
      have c31b0 := decide_eq_false c31
      clear c31
      simp only [Option.some.injEq, Prod.mk.injEq] at H
      obtain ⟨rfl, rfl, rfl⟩ := H
      go_wp2
      go_ret3
      exact ⟨by first | rfl | (simp [errW_none, errW_some] <;> rfl) | (simp only [← hji26]; first | rfl | (simp [errW_none, errW_some] <;> rfl)) | (simp [*, errW_none, errW_some] <;> rfl), by repeat with_reducible first | exact HB.out | apply pw_below_drewN | apply below_drew1 | apply below_alloc⟩
     rw [if_pos c31] at H
     have c31b0 := decide_eq_true c31
     clear c31
     by_cases c32 : 0 ≤ x12_2
     rotate_left
     ·
      rw [if_neg c32] at H
      exact absurd H (by simp)
     rw [if_pos c32] at H
     have c32b0 := decide_eq_true c32
     clear c32
     by_cases c33 : x12_2 < (t204.length : Int)
     rotate_left
     ·
      rw [if_neg c33] at H
      exact absurd H (by simp)
     rw [if_pos c33] at H
     have c33b0 := decide_eq_true c33
     clear c33
     by_cases c34 : (rd t204 x12_2) = (wrap32 (a2))
     rotate_left
     ·
      rw [if_neg c34] at H
      have c34b0 : ((rd t204 x12_2) == (wrap32 (a2))) = false := beq_eq_false_iff_ne.mpr c34
      have c34b1 : ((rd t204 x12_2) != (wrap32 (a2))) = true := bne_iff_ne.mpr c34
      have H' := Aside0.mk H
      clear H
      have hcz44_0 := cz0 BK210.out
      have hcz44_1 := cz1 BK210.out
      have hfz44_0 := blk_frozen BK210.out 0
      have hfz44_1 := blk_frozen BK210.out 1
      have p212 : 0 ≤ (x12_2 : Int) := of_decide_eq_true (by assumption)
      have q212 : x12_2 < (t204.length : Int) := of_decide_eq_true (by assumption)
      obtain ⟨ad212, e212, hx212_0⟩ := Kd.at_int (Kd.R_reads' HO_211000.out).2.2 x12_2 p212 q212
      cases e212
      replace p212 := eq_true p212
      replace q212 := eq_true q212
      go_wp2
      go_roundg k2
      case measure => have := HJ4.out; have := HK2.out; omega
      case rel => exact ⟨(x3_2), (wrap64 (x12_2 - 1)), (by first | rfl | (simp; done) | (simp [*]; done)), (by first | rfl | (simp; done) | (simp [*]; done)), H', ⟨by have := HJ4.out; have := HK2.out; omega⟩, ⟨by (with_reducible repeat (first | apply Kd.R_alloc | apply Kd.R_drewN | apply Kd.R_drew)); exact HO_211000.out⟩, ⟨by (with_reducible repeat (first | apply Kd.R_alloc | apply Kd.R_drewN | apply Kd.R_drew)); exact HO_211001.out⟩, ⟨BK210.out⟩, ⟨by repeat with_reducible first | exact HB.out | apply pw_below_drewN | apply below_drew1 | apply below_alloc⟩⟩
     rw [if_pos c34] at H
     have c34b0 : ((rd t204 x12_2) == (wrap32 (a2))) = true := beq_iff_eq.mpr c34
     have c34b1 : ((rd t204 x12_2) != (wrap32 (a2))) = false := bne_eq_false_iff_eq.mpr c34
     clear c34
     replace H := Option.bind_eq_some_iff.mp H
     obtain ⟨t213, A350, H⟩ := H
     (try dsimp only at H)
     have A35 := Aside0.mk A350
     clear A350
     by_cases c36 : t213 ≥ a1
     rotate_left
     ·
      rw [if_neg c36] at H
      have c36b0 := decide_eq_false c36
      clear c36
      have H' := Aside0.mk H
      clear H
      have hcz42_0 := cz0 BK210.out
      have hcz42_1 := cz1 BK210.out
      have hfz42_0 := blk_frozen BK210.out 0
      have hfz42_1 := blk_frozen BK210.out 1
      have p212 : 0 ≤ (x12_2 : Int) := of_decide_eq_true (by assumption)
      have q212 : x12_2 < (t204.length : Int) := of_decide_eq_true (by assumption)
      obtain ⟨ad212, e212, hx212_0⟩ := Kd.at_int (Kd.R_reads' HO_211000.out).2.2 x12_2 p212 q212
      cases e212
      replace p212 := eq_true p212
      replace q212 := eq_true q212
      go_wp2_with (first | ((with_reducible refine gate_callee (f := 53) rfl ?_); refine goesL_ (some 70) rfl rfl Tryd.func53 (by kernel_rfl) rfl #[.slice (some ad212) t204.length co28, .int .i64 x12_2] rfl (map2 rfl rfl) ?_; (with_reducible refine (pairs_mate.calls k2 _ _ t204 x12_2 t213 _ ?side1 ?side2 A35.out).mono ?_); (case side1 => repeat (first | exact (Kd.R_reads' HO_211000.out).2.2 | with_reducible first | refine Kd.C_drewN ?_ _ | refine Kd.C_drew ?_ | refine Kd.C_alloc ?_ _)); (case side2 => exact (Kd.R_reads' HO_211000.out).2.1); rintro e w43 ⟨rfl, hb⟩; refine ⟨_, rfl, ?_⟩; have n0_ := Aside0.mk (Kd.R_below (by (with_reducible repeat (first | apply Kd.R_alloc | apply Kd.R_drewN | apply Kd.R_drew)); exact HO_211000.out) hb); have n1_ := Aside0.mk (Kd.R_below (by (with_reducible repeat (first | apply Kd.R_alloc | apply Kd.R_drewN | apply Kd.R_drew)); exact HO_211001.out) hb); have n2_ := Aside0.mk (blb hb BK210.out); have n3_ := Aside0.mk (below_step (by repeat with_reducible first | exact HB.out | apply pw_below_drewN | apply below_drew1 | apply below_alloc) hb); clear HO_211000; clear HO_211001; clear BK210; clear HB; have HO_211000 := n0_; have HO_211001 := n1_; have BK210 := n2_; have HB := n3_; clear n0_ n1_ n2_ n3_; (try clear hb); (try clear hb2); (try clear hk); (try clear hi)))
      go_roundg k2
      case measure => have := HJ4.out; have := HK2.out; omega
      case rel => exact ⟨(x3_2), (wrap64 (x12_2 - 1)), (by first | rfl | (simp; done) | (simp [*]; done)), (by first | rfl | (simp; done) | (simp [*]; done)), H', ⟨by have := HJ4.out; have := HK2.out; omega⟩, ⟨by (with_reducible repeat (first | apply Kd.R_alloc | apply Kd.R_drewN | apply Kd.R_drew)); exact HO_211000.out⟩, ⟨by (with_reducible repeat (first | apply Kd.R_alloc | apply Kd.R_drewN | apply Kd.R_drew)); exact HO_211001.out⟩, ⟨BK210.out⟩, ⟨by repeat with_reducible first | exact HB.out | apply pw_below_drewN | apply below_drew1 | apply below_alloc⟩⟩
     rw [if_pos c36] at H
     have c36b0 := decide_eq_true c36
     clear c36
     by_cases c37 : (wrap64 (x3_2 - 1)) = 0
     ·
      rw [if_pos c37] at H
      have c37b0 : ((wrap64 (x3_2 - 1)) == 0) = true := beq_iff_eq.mpr c37
      have c37b1 : ((wrap64 (x3_2 - 1)) != 0) = false := bne_eq_false_iff_eq.mpr c37
      clear c37
      simp only [Option.some.injEq, Prod.mk.injEq] at H
      obtain ⟨rfl, rfl, rfl⟩ := H
      have hcz38_0 := cz0 BK210.out
      have hcz38_1 := cz1 BK210.out
      have hfz38_0 := blk_frozen BK210.out 0
      have hfz38_1 := blk_frozen BK210.out 1
      have p212 : 0 ≤ (x12_2 : Int) := of_decide_eq_true (by assumption)
      have q212 : x12_2 < (t204.length : Int) := of_decide_eq_true (by assumption)
      obtain ⟨ad212, e212, hx212_0⟩ := Kd.at_int (Kd.R_reads' HO_211000.out).2.2 x12_2 p212 q212
      cases e212
      replace p212 := eq_true p212
      replace q212 := eq_true q212
      go_wp2_with (first | ((with_reducible refine gate_callee (f := 53) rfl ?_); refine goesL_ (some 70) rfl rfl Tryd.func53 (by kernel_rfl) rfl #[.slice (some ad212) t204.length co28, .int .i64 x12_2] rfl (map2 rfl rfl) ?_; (with_reducible refine (pairs_mate.calls k2 _ _ t204 x12_2 t213 _ ?side1 ?side2 A35.out).mono ?_); (case side1 => repeat (first | exact (Kd.R_reads' HO_211000.out).2.2 | with_reducible first | refine Kd.C_drewN ?_ _ | refine Kd.C_drew ?_ | refine Kd.C_alloc ?_ _)); (case side2 => exact (Kd.R_reads' HO_211000.out).2.1); rintro e w39 ⟨rfl, hb⟩; refine ⟨_, rfl, ?_⟩; have n0_ := Aside0.mk (Kd.R_below (by (with_reducible repeat (first | apply Kd.R_alloc | apply Kd.R_drewN | apply Kd.R_drew)); exact HO_211000.out) hb); have n1_ := Aside0.mk (Kd.R_below (by (with_reducible repeat (first | apply Kd.R_alloc | apply Kd.R_drewN | apply Kd.R_drew)); exact HO_211001.out) hb); have n2_ := Aside0.mk (blb hb BK210.out); have n3_ := Aside0.mk (below_step (by repeat with_reducible first | exact HB.out | apply pw_below_drewN | apply below_drew1 | apply below_alloc) hb); clear HO_211000; clear HO_211001; clear BK210; clear HB; have HO_211000 := n0_; have HO_211001 := n1_; have BK210 := n2_; have HB := n3_; clear n0_ n1_ n2_ n3_; (try clear hb); (try clear hb2); (try clear hk); (try clear hi)))
      go_ret3
      exact ⟨by first | rfl | (simp [errW_none, errW_some] <;> rfl) | (simp only [← hji26]; first | rfl | (simp [errW_none, errW_some] <;> rfl)) | (simp [*, errW_none, errW_some] <;> rfl), by repeat with_reducible first | exact HB.out | apply pw_below_drewN | apply below_drew1 | apply below_alloc⟩
     rw [if_neg c37] at H
     have c37b0 : ((wrap64 (x3_2 - 1)) == 0) = false := beq_eq_false_iff_ne.mpr c37
     have c37b1 : ((wrap64 (x3_2 - 1)) != 0) = true := bne_iff_ne.mpr c37
     have H' := Aside0.mk H
     clear H
     have hcz40_0 := cz0 BK210.out
     have hcz40_1 := cz1 BK210.out
     have hfz40_0 := blk_frozen BK210.out 0
     have hfz40_1 := blk_frozen BK210.out 1
     have p212 : 0 ≤ (x12_2 : Int) := of_decide_eq_true (by assumption)
     have q212 : x12_2 < (t204.length : Int) := of_decide_eq_true (by assumption)
     obtain ⟨ad212, e212, hx212_0⟩ := Kd.at_int (Kd.R_reads' HO_211000.out).2.2 x12_2 p212 q212
     cases e212
     replace p212 := eq_true p212
     replace q212 := eq_true q212
     go_wp2_with (first | ((with_reducible refine gate_callee (f := 53) rfl ?_); refine goesL_ (some 70) rfl rfl Tryd.func53 (by kernel_rfl) rfl #[.slice (some ad212) t204.length co28, .int .i64 x12_2] rfl (map2 rfl rfl) ?_; (with_reducible refine (pairs_mate.calls k2 _ _ t204 x12_2 t213 _ ?side1 ?side2 A35.out).mono ?_); (case side1 => repeat (first | exact (Kd.R_reads' HO_211000.out).2.2 | with_reducible first | refine Kd.C_drewN ?_ _ | refine Kd.C_drew ?_ | refine Kd.C_alloc ?_ _)); (case side2 => exact (Kd.R_reads' HO_211000.out).2.1); rintro e w41 ⟨rfl, hb⟩; refine ⟨_, rfl, ?_⟩; have n0_ := Aside0.mk (Kd.R_below (by (with_reducible repeat (first | apply Kd.R_alloc | apply Kd.R_drewN | apply Kd.R_drew)); exact HO_211000.out) hb); have n1_ := Aside0.mk (Kd.R_below (by (with_reducible repeat (first | apply Kd.R_alloc | apply Kd.R_drewN | apply Kd.R_drew)); exact HO_211001.out) hb); have n2_ := Aside0.mk (blb hb BK210.out); have n3_ := Aside0.mk (below_step (by repeat with_reducible first | exact HB.out | apply pw_below_drewN | apply below_drew1 | apply below_alloc) hb); clear HO_211000; clear HO_211001; clear BK210; clear HB; have HO_211000 := n0_; have HO_211001 := n1_; have BK210 := n2_; have HB := n3_; clear n0_ n1_ n2_ n3_; (try clear hb); (try clear hb2); (try clear hk); (try clear hi)))
     go_roundg k2
     case measure => have := HJ4.out; have := HK2.out; omega
     case rel => exact ⟨(wrap64 (x3_2 - 1)), (wrap64 (x12_2 - 1)), (by first | rfl | (simp; done) | (simp [*]; done)), (by first | rfl | (simp; done) | (simp [*]; done)), H', ⟨by have := HJ4.out; have := HK2.out; omega⟩, ⟨by (with_reducible repeat (first | apply Kd.R_alloc | apply Kd.R_drewN | apply Kd.R_drew)); exact HO_211000.out⟩, ⟨by (with_reducible repeat (first | apply Kd.R_alloc | apply Kd.R_drewN | apply Kd.R_drew)); exact HO_211001.out⟩, ⟨BK210.out⟩, ⟨by repeat with_reducible first | exact HB.out | apply pw_below_drewN | apply below_drew1 | apply below_alloc⟩⟩

/-! ### object_bracket: function 33 -/
def object_bracket.j0 : Nat → Int → Int → Bool → Option (Int)
  | 0, _, _, _ => none
  | k + 1, x0, x3, x4 => if x4 = true then (some 40) else (if x3 = 93 then (some 91) else (if x3 = 125 then (some 123) else (if x3 = 66 then (some 123) else (some x0))))
def object_bracket.f (k : Nat) (a0 : Int) : Option (Int) := if a0 = 41 then (object_bracket.j0 k a0 a0 (a0 == 41)) else (object_bracket.j0 k a0 a0 (a0 == 98))
theorem object_bracket.mono_l : ∀ k, (∀ y0 y1 y2, LeO (object_bracket.j0 k y0 y1 y2) (object_bracket.j0 (k + 1) y0 y1 y2))
  | 0 => fun _ _ _ r h => by simp [object_bracket.j0] at h
  | k + 1 => by
    have ih0 := object_bracket.mono_l k
    all_goals intros
    all_goals first | unfold object_bracket.j0
    all_goals repeat' first | (with_reducible first | exact ih0 _ _ _ | exact LeO.refl _ | exact LeO.none _ | refine LeO.ite ?_ ?_ | refine LeO.bind ?_ (fun _ => ?_)) | exact ih0 _ _ _ | exact LeO.refl _ | exact LeO.none _ | refine LeO.ite ?_ ?_ | refine LeO.bind ?_ (fun _ => ?_)
theorem object_bracket.mono : ∀ a0 k, LeO (object_bracket.f k a0) (object_bracket.f (k + 1) a0) := by
  intro a0 k
  have ih0 := object_bracket.mono_l k
  unfold object_bracket.f
  repeat' first | (with_reducible first | exact ih0 _ _ _ | exact LeO.refl _ | exact LeO.none _ | refine LeO.ite ?_ ?_ | refine LeO.bind ?_ (fun _ => ?_)) | exact ih0 _ _ _ | exact LeO.refl _ | exact LeO.none _ | refine LeO.ite ?_ ?_ | refine LeO.bind ?_ (fun _ => ?_)
set_option maxHeartbeats 8000000 in
set_option maxRecDepth 100000 in
theorem object_bracket.calls (k : Nat) (a0 : Int) (r : Int) (w : World) (h : object_bracket.f k a0 = some r) :
  Calls Tryd.prog 33 #[.int .i64 a0] w fun e w' => e = .returned (.int .i64 r) ∧ Drawn0 w w' := by
 have H : (if a0 = 41 then (object_bracket.j0 k a0 a0 (a0 == 41)) else (object_bracket.j0 k a0 a0 (a0 == 98))) = some r := h
 clear h
 have HC2 := Aside0.mk H
 clear H
 go_enter Tryd.func33, Tryd.ntmps33
 go_upto_if 4 with (fail)
 go_cut [4] (fun v4 wc => ∃ (kq : Nat) (x4_1 : Bool), v4 = .bool x4_1 ∧ Aside0 (object_bracket.j0 kq a0 a0 x4_1 = some r) ∧ Aside0 (kq ≤ k) ∧ Drawn0 w wc)
 case first =>
  have H := HC2.out
  clear HC2
  by_cases c3 : a0 = 41
  rotate_left
  ·
   rw [if_neg c3] at H
   have c3b0 : (a0 == 41) = false := beq_eq_false_iff_ne.mpr c3
   have c3b1 : (a0 != 41) = true := bne_iff_ne.mpr c3
   (first | rw [c3b0] | (simp only [i64_w, i32_w]; rw [c3b0]) | skip)
   have H' := Aside0.mk H
   clear H
   go_wp2
   go_meet
   case rel => exact ⟨_, ((a0 == 98)), (by first | rfl | (simp; done) | (simp [*]; done)), H', ⟨by first | omega | exact Nat.le_refl _⟩, by repeat (first | exact Drawn0.refl _ | apply Drawn0.step)⟩
  rw [if_pos c3] at H
  have c3b0 : (a0 == 41) = true := beq_iff_eq.mpr c3
  have c3b1 : (a0 != 41) = false := bne_eq_false_iff_eq.mpr c3
  clear c3
  (first | rw [c3b0] | (simp only [i64_w, i32_w]; rw [c3b0]) | skip)
  have H' := Aside0.mk H
  clear H
  go_wp2
  go_meet
  case rel => exact ⟨_, ((a0 == 41)), (by first | rfl | (simp; done) | (simp [*]; done)), H', ⟨by first | omega | exact Nat.le_refl _⟩, by repeat (first | exact Drawn0.refl _ | apply Drawn0.step)⟩
 case rest =>
  clear HC2
  obtain ⟨kq, x4_1, rfl, HA, HJ1, ⟨mc1, rfl⟩⟩ := hcut
  cases kq with
  | zero => exact absurd HA.out (by simp [object_bracket.j0])
  | succ kj1 =>
   have H := HA.out
   clear HA
   simp only [object_bracket.j0] at H
   by_cases c4 : x4_1 = true
   ·
    subst c4
    have H1 : (some 40) = some r := by rw [if_pos rfl] at H; exact H
    clear H
    have H := H1
    clear H1
    obtain rfl := Option.some.inj H
    go_wp2
    go_ret
    exact ⟨by first | rfl | (simp; done) | (simp [*]; done), by repeat (first | exact Drawn0.refl _ | apply Drawn0.step)⟩
   replace c4 := Bool.eq_false_iff.mpr c4
   subst c4
   have H1 : (if a0 = 93 then (some 91) else (if a0 = 125 then (some 123) else (if a0 = 66 then (some 123) else (some a0)))) = some r := by rw [if_neg (show ¬ (false = true) by decide)] at H; exact H
   clear H
   have H := H1
   clear H1
   by_cases c5 : a0 = 93
   ·
    rw [if_pos c5] at H
    have c5b0 : (a0 == 93) = true := beq_iff_eq.mpr c5
    have c5b1 : (a0 != 93) = false := bne_eq_false_iff_eq.mpr c5
    clear c5
    obtain rfl := Option.some.inj H
    go_wp2
    go_ret
    exact ⟨by first | rfl | (simp; done) | (simp [*]; done), by repeat (first | exact Drawn0.refl _ | apply Drawn0.step)⟩
   rw [if_neg c5] at H
   have c5b0 : (a0 == 93) = false := beq_eq_false_iff_ne.mpr c5
   have c5b1 : (a0 != 93) = true := bne_iff_ne.mpr c5
   by_cases c6 : a0 = 125
   ·
    rw [if_pos c6] at H
    have c6b0 : (a0 == 125) = true := beq_iff_eq.mpr c6
    have c6b1 : (a0 != 125) = false := bne_eq_false_iff_eq.mpr c6
    clear c6
    obtain rfl := Option.some.inj H
    go_wp2
    go_ret
    exact ⟨by first | rfl | (simp; done) | (simp [*]; done), by repeat (first | exact Drawn0.refl _ | apply Drawn0.step)⟩
   rw [if_neg c6] at H
   have c6b0 : (a0 == 125) = false := beq_eq_false_iff_ne.mpr c6
   have c6b1 : (a0 != 125) = true := bne_iff_ne.mpr c6
   by_cases c7 : a0 = 66
   rotate_left
   ·
    rw [if_neg c7] at H
    have c7b0 : (a0 == 66) = false := beq_eq_false_iff_ne.mpr c7
    have c7b1 : (a0 != 66) = true := bne_iff_ne.mpr c7
    obtain rfl := Option.some.inj H
    go_wp2
    go_ret
    exact ⟨by first | rfl | (simp; done) | (simp [*]; done), by repeat (first | exact Drawn0.refl _ | apply Drawn0.step)⟩
   rw [if_pos c7] at H
   have c7b0 : (a0 == 66) = true := beq_iff_eq.mpr c7
   have c7b1 : (a0 != 66) = false := bne_eq_false_iff_eq.mpr c7
   clear c7
   obtain rfl := Option.some.inj H
   go_wp2
   go_ret
   exact ⟨by first | rfl | (simp; done) | (simp [*]; done), by repeat (first | exact Drawn0.refl _ | apply Drawn0.step)⟩

end Go.Proofs.YtgikaemhhaejoaaDoor.P
