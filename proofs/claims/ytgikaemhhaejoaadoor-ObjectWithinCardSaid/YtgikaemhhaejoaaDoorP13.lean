/- The walks of the functions that these statements reach: each Go function as a plain Lean function, and the proof that its call comes to that. Written by the session's program wip/pp.py. -/
import Derived.Test.YtgikaemhhaejoaaDoorP0
import Derived.Test.YtgikaemhhaejoaaDoorP12
namespace Go.Proofs.YtgikaemhhaejoaaDoor.P
open Go.Proofs.YtgikaemhhaejoaaDoor
open Go.RowKit Go.Proofs.YtgikaemhhaejoaaDoorW.PrintWords Go.Proofs.YtgikaemhhaejoaaDoorW.PrintLast Go.Proofs.YtgikaemhhaejoaaDoorW.PrintMore
attribute [local go_sem] max2_int min2_int max_two min_two max_three min_three max_four min_four   -- for this text's walks alone
set_option linter.unusedVariables false
set_option linter.unusedSimpArgs false

/-! ### quillref12_Mate: function 60 -/
mutual
def quillref12_Mate.j0 : Nat → List Int → Int → Int → Int → Option (Int)
  | 0, _, _, _, _ => none
  | k + 1, x0, x1, x5, x7 => quillref12_Mate.l0 k x0 x5 x7 0 x1
def quillref12_Mate.l0 : Nat → List Int → Int → Int → Int → Int → Option (Int)
  | 0, _, _, _, _, _ => none
  | k + 1, x0, x5, x7, x8, x9 => if x9 ≥ 0 then (quillref12_Mate.j2 k x0 x5 x7 x8 x9 (decide (x9 < (x0.length : Int)))) else (quillref12_Mate.j2 k x0 x5 x7 x8 x9 false)
def quillref12_Mate.j2 : Nat → List Int → Int → Int → Int → Int → Bool → Option (Int)
  | 0, _, _, _, _, _, _ => none
  | k + 1, x0, x5, x7, x8, x9, x34 => if x34 = true then (if 0 ≤ x9 then (if x9 < (x0.length : Int) then ((quillref12_opens.f).bind fun t334 => (if 0 ≤ x5 then (if x5 < (t334.length : Int) then (if (rd x0 x9) = (rd t334 x5) then (quillref12_Mate.j3 k x0 x5 x7 (wrap64 (x8 + x7)) x9) else (quillref12_Mate.j3 k x0 x5 x7 x8 x9)) else (none)) else (none))) else (none)) else (none)) else (some (-1))
def quillref12_Mate.j3 : Nat → List Int → Int → Int → Int → Int → Option (Int)
  | 0, _, _, _, _, _ => none
  | k + 1, x0, x5, x7, x8, x9 => if 0 ≤ x9 then (if x9 < (x0.length : Int) then ((quillref12_shuts.f).bind fun t339 => (if 0 ≤ x5 then (if x5 < (t339.length : Int) then (if (rd x0 x9) = (rd t339 x5) then (if (wrap64 (x8 - x7)) = 0 then (some x9) else (quillref12_Mate.l0 k x0 x5 x7 (wrap64 (x8 - x7)) (wrap64 (x9 + x7)))) else (if x8 = 0 then (some x9) else (quillref12_Mate.l0 k x0 x5 x7 x8 (wrap64 (x9 + x7))))) else (none)) else (none))) else (none)) else (none)
end
def quillref12_Mate.f (k : Nat) (l0 : List Int) (a1 : Int) : Option (Int) := if a1 ≥ (l0.length : Int) then (some (-1)) else (if 0 ≤ a1 then (if a1 < (l0.length : Int) then ((quillref12_bracket.f k (rd l0 a1)).bind fun bt331 => (if bt331.1 < 0 then (some (-1)) else (if bt331.2 = true then (quillref12_Mate.j0 k l0 a1 bt331.1 1) else (quillref12_Mate.j0 k l0 a1 bt331.1 (-1))))) else (none)) else (none))
theorem quillref12_Mate.mono_l : ∀ k, (∀ y0 y1 y2 y3, LeO (quillref12_Mate.j0 k y0 y1 y2 y3) (quillref12_Mate.j0 (k + 1) y0 y1 y2 y3)) ∧ (∀ y0 y1 y2 y3 y4, LeO (quillref12_Mate.l0 k y0 y1 y2 y3 y4) (quillref12_Mate.l0 (k + 1) y0 y1 y2 y3 y4)) ∧ (∀ y0 y1 y2 y3 y4 y5, LeO (quillref12_Mate.j2 k y0 y1 y2 y3 y4 y5) (quillref12_Mate.j2 (k + 1) y0 y1 y2 y3 y4 y5)) ∧ (∀ y0 y1 y2 y3 y4, LeO (quillref12_Mate.j3 k y0 y1 y2 y3 y4) (quillref12_Mate.j3 (k + 1) y0 y1 y2 y3 y4))
  | 0 => ⟨fun _ _ _ _ r h => by simp [quillref12_Mate.j0] at h, fun _ _ _ _ _ r h => by simp [quillref12_Mate.l0] at h, fun _ _ _ _ _ _ r h => by simp [quillref12_Mate.j2] at h, fun _ _ _ _ _ r h => by simp [quillref12_Mate.j3] at h⟩
  | k + 1 => by
    obtain ⟨ih0, ih1, ih2, ih3⟩ := quillref12_Mate.mono_l k
    refine ⟨?_, ?_, ?_, ?_⟩
    all_goals intros
    all_goals first | unfold quillref12_Mate.j0 | unfold quillref12_Mate.l0 | unfold quillref12_Mate.j2 | unfold quillref12_Mate.j3
    all_goals repeat' first | (with_reducible first | exact ih0 _ _ _ _ | exact ih1 _ _ _ _ _ | exact ih2 _ _ _ _ _ _ | exact ih3 _ _ _ _ _ | exact quillref12_bracket.mono _ _ | exact LeO.refl _ | exact LeO.none _ | refine LeO.ite ?_ ?_ | refine LeO.bind ?_ (fun _ => ?_)) | exact ih0 _ _ _ _ | exact ih1 _ _ _ _ _ | exact ih2 _ _ _ _ _ _ | exact ih3 _ _ _ _ _ | exact quillref12_bracket.mono _ _ | exact LeO.refl _ | exact LeO.none _ | refine LeO.ite ?_ ?_ | refine LeO.bind ?_ (fun _ => ?_)
theorem quillref12_Mate.mono : ∀ a0 a1 k, LeO (quillref12_Mate.f k a0 a1) (quillref12_Mate.f (k + 1) a0 a1) := by
  intro a0 a1 k
  obtain ⟨ih0, ih1, ih2, ih3⟩ := quillref12_Mate.mono_l k
  unfold quillref12_Mate.f
  repeat' first | (with_reducible first | exact ih0 _ _ _ _ | exact ih1 _ _ _ _ _ | exact ih2 _ _ _ _ _ _ | exact ih3 _ _ _ _ _ | exact quillref12_bracket.mono _ _ | exact LeO.refl _ | exact LeO.none _ | refine LeO.ite ?_ ?_ | refine LeO.bind ?_ (fun _ => ?_)) | exact ih0 _ _ _ _ | exact ih1 _ _ _ _ _ | exact ih2 _ _ _ _ _ _ | exact ih3 _ _ _ _ _ | exact quillref12_bracket.mono _ _ | exact LeO.refl _ | exact LeO.none _ | refine LeO.ite ?_ ?_ | refine LeO.bind ?_ (fun _ => ?_)
def quillref12_Mate.T13 : Bool × List (List Nat × List Nat) := (true, [([], []), ([], []), ([0, 1], [0, 1]), ([2], [2]), ([], []), ([], []), ([4, 5], [4, 5]), ([6], [6]), ([3, 7], [3, 7])])
def quillref12_Mate.B13 : List Nat := [0, 0, 3, 7, 0, 0, 48, 112, 255]
theorem quillref12_Mate.tab13 : rtab .any (opsOf Tryd.f60 13) = quillref12_Mate.T13 := by kernel_rfl
theorem quillref12_Mate.bits13 : waitsOk quillref12_Mate.T13.2 quillref12_Mate.B13 = true := by kernel_rfl
def quillref12_Mate.T15 : Bool × List (List Nat × List Nat) := (true, [([], []), ([], []), ([0, 1], [0, 1]), ([2], [2]), ([], []), ([], []), ([4, 5], [4, 5]), ([6], [6]), ([3, 7], [3, 7])])
def quillref12_Mate.B15 : List Nat := [0, 0, 3, 7, 0, 0, 48, 112, 255]
theorem quillref12_Mate.tab15 : rtab .any (opsOf Tryd.f60 15) = quillref12_Mate.T15 := by kernel_rfl
theorem quillref12_Mate.bits15 : waitsOk quillref12_Mate.T15.2 quillref12_Mate.B15 = true := by kernel_rfl
set_option maxHeartbeats 8000000 in
set_option maxRecDepth 100000 in
theorem quillref12_Mate.calls (k : Nat) (A0 : Option Addr) (c0 : Nat) (l0 : List Int) (a1 : Int) (r : Int) (w : World) (hr0 : Kd.C (Kd.int .i32) w A0 l0.length l0) (hc0 : l0.length ≤ c0) (h : quillref12_Mate.f k l0 a1 = some r) :
  Calls Tryd.prog 60 #[.slice A0 l0.length c0, .int .i64 a1] w fun e w' => e = .returned (.int .i64 r) ∧ Below w.heap.size w w' := by
 have HR0 := Aside0.mk hr0
 have HC0 := Aside0.mk hc0
 clear hr0 hc0
 have HB := Aside0.mk (Below.refl w.heap.size w)
 have H : (if a1 ≥ (l0.length : Int) then (some (-1)) else (if 0 ≤ a1 then (if a1 < (l0.length : Int) then ((quillref12_bracket.f k (rd l0 a1)).bind fun bt331 => (if bt331.1 < 0 then (some (-1)) else (if bt331.2 = true then (quillref12_Mate.j0 k l0 a1 bt331.1 1) else (quillref12_Mate.j0 k l0 a1 bt331.1 (-1))))) else (none)) else (none))) = some r := h
 clear h
 by_cases c3 : a1 ≥ (l0.length : Int)
 ·
  rw [if_pos c3] at H
  have c3b0 := decide_eq_true c3
  clear c3
  obtain rfl := Option.some.inj H
  go_enter Tryd.func60, Tryd.ntmps60
  go_wp2
  go_ret
  exact ⟨by first | rfl | (simp [errW_none, errW_some] <;> rfl) | (simp [*, errW_none, errW_some] <;> rfl), by repeat with_reducible first | exact HB.out | apply pw_below_drewN | apply below_drew1 | apply below_alloc⟩
 rw [if_neg c3] at H
 have c3b0 := decide_eq_false c3
 clear c3
 by_cases c4 : 0 ≤ a1
 rotate_left
 ·
  rw [if_neg c4] at H
  exact absurd H (by simp)
 rw [if_pos c4] at H
 have c4b0 := decide_eq_true c4
 clear c4
 by_cases c5 : a1 < (l0.length : Int)
 rotate_left
 ·
  rw [if_neg c5] at H
  exact absurd H (by simp)
 rw [if_pos c5] at H
 have c5b0 := decide_eq_true c5
 clear c5
 replace H := Option.bind_eq_some_iff.mp H
 obtain ⟨⟨t331, t332⟩, A60, H⟩ := H
 (try dsimp only at H)
 have A6 := Aside0.mk A60
 clear A60
 by_cases c7 : t331 < 0
 ·
  rw [if_pos c7] at H
  have c7b0 := decide_eq_true c7
  clear c7
  obtain rfl := Option.some.inj H
  have p330 : 0 ≤ (a1 : Int) := of_decide_eq_true (by assumption)
  have q330 : a1 < (l0.length : Int) := of_decide_eq_true (by assumption)
  obtain ⟨ad330, e330, hx330_0⟩ := Kd.at_int HR0.out a1 p330 q330
  cases e330
  replace p330 := eq_true p330
  replace q330 := eq_true q330
  go_enter Tryd.func60, Tryd.ntmps60
  go_wp2_with (first | ((with_reducible refine gate_callee (f := 66) rfl ?_); refine goesL_ (some 19) rfl rfl Tryd.func66 (by kernel_rfl) rfl #[.int .i32 (rd l0 a1)] rfl (map1 rfl) ?_; (with_reducible refine (quillref12_bracket.calls k (rd l0 a1) t331 t332 _ A6.out).mono ?_); rintro e w8 ⟨rfl, hb⟩; refine ⟨_, rfl, ?_⟩; have n0_ := Aside0.mk (below_step (by repeat with_reducible first | exact HB.out | apply pw_below_drewN | apply below_drew1 | apply below_alloc) hb); clear HB; have HB := n0_; clear n0_; (try clear hb); (try clear hb2); (try clear hk); (try clear hi)))
  go_ret
  exact ⟨by first | rfl | (simp [errW_none, errW_some] <;> rfl) | (simp [*, errW_none, errW_some] <;> rfl), by repeat with_reducible first | exact HB.out | apply pw_below_drewN | apply below_drew1 | apply below_alloc⟩
 rw [if_neg c7] at H
 have c7b0 := decide_eq_false c7
 clear c7
 have HC9 := Aside0.mk H
 clear H
 have p330 : 0 ≤ (a1 : Int) := of_decide_eq_true (by assumption)
 have q330 : a1 < (l0.length : Int) := of_decide_eq_true (by assumption)
 obtain ⟨ad330, e330, hx330_0⟩ := Kd.at_int HR0.out a1 p330 q330
 cases e330
 replace p330 := eq_true p330
 replace q330 := eq_true q330
 go_enter Tryd.func60, Tryd.ntmps60
 go_upto_if 25 with (first | ((with_reducible refine gate_callee (f := 66) rfl ?_); refine goesL_ (some 19) rfl rfl Tryd.func66 (by kernel_rfl) rfl #[.int .i32 (rd l0 a1)] rfl (map1 rfl) ?_; (with_reducible refine (quillref12_bracket.calls k (rd l0 a1) t331 t332 _ A6.out).mono ?_); rintro e w10 ⟨rfl, hb⟩; refine ⟨_, rfl, ?_⟩; have n0_ := Aside0.mk (below_step (by repeat with_reducible first | exact HB.out | apply pw_below_drewN | apply below_drew1 | apply below_alloc) hb); clear HB; have HB := n0_; clear n0_; (try clear hb); (try clear hb2); (try clear hk); (try clear hi)))
 (try simp only [Act.put, List.setIfInBounds_toArray, List.set_cons_zero, List.set_cons_succ])
 go_cut [7] (fun v7 wc => ∃ (kq : Nat) (x7_8 : Int), v7 = .int .i64 x7_8 ∧ Aside0 (quillref12_Mate.j0 kq l0 a1 t331 x7_8 = some r) ∧ Aside0 (kq ≤ k) ∧ Aside0 (Below w.heap.size w wc))
 case first =>
  have H := HC9.out
  clear HC9
  by_cases c11 : t332 = true
  ·
   subst c11
   have H1 : (quillref12_Mate.j0 k l0 a1 t331 1) = some r := by rw [if_pos rfl] at H; exact H
   clear H
   have H := H1
   clear H1
   have H' := Aside0.mk H
   clear H
   go_wp2
   go_meet
   case rel => exact ⟨_, (1), (by first | rfl | (simp; done) | (simp [*]; done)), H', ⟨by first | omega | exact Nat.le_refl _⟩, ⟨by repeat with_reducible first | exact HB.out | apply pw_below_drewN | apply below_drew1 | apply below_alloc⟩⟩
  replace c11 := Bool.eq_false_iff.mpr c11
  subst c11
  have H1 : (quillref12_Mate.j0 k l0 a1 t331 (-1)) = some r := by rw [if_neg (show ¬ (false = true) by decide)] at H; exact H
  clear H
  have H := H1
  clear H1
  have H' := Aside0.mk H
  clear H
  go_wp2
  go_meet
  case rel => exact ⟨_, ((-1)), (by first | rfl | (simp; done) | (simp [*]; done)), H', ⟨by first | omega | exact Nat.le_refl _⟩, ⟨by repeat with_reducible first | exact HB.out | apply pw_below_drewN | apply below_drew1 | apply below_alloc⟩⟩
 case rest =>
  clear HC9
  try clear c3
  try clear c3b0
  try clear c4
  try clear c4b0
  try clear c5
  try clear c5b0
  try clear c7
  try clear c7b0
  try clear hx330_0
  try clear p330
  try clear q330
  obtain ⟨kq, x7_8, rfl, HA, HJ8, HB⟩ := hcut
  cases kq with
  | zero => exact absurd HA.out (by simp [quillref12_Mate.j0])
  | succ kj8 =>
   have H := HA.out
   clear HA
   simp only [quillref12_Mate.j0] at H
   have H' := Aside0.mk H
   clear H
   go_wp2
   go_loopg [8, 9] kj8 (fun kq v8 v9 w' => ∃ (x8_2 : Int) (x9_2 : Int), v8 = .int .i64 x8_2 ∧ v9 = .int .i64 x9_2 ∧ Aside0 (quillref12_Mate.l0 kq l0 t331 x7_8 x8_2 x9_2 = some r) ∧ Aside0 (kq ≤ kj8) ∧ Aside0 (Below w.heap.size w w'))
   case atStart => exact ⟨(0), (a1), (by first | rfl | (simp; done) | (simp [*]; done)), (by first | rfl | (simp; done) | (simp [*]; done)), H', ⟨Nat.le_refl _⟩, ⟨by repeat with_reducible first | exact HB.out | apply pw_below_drewN | apply below_drew1 | apply below_alloc⟩⟩
   case round =>
    clear H'
    try clear c3
    try clear c3b0
    try clear c4
    try clear c4b0
    try clear c5
    try clear c5b0
    try clear c7
    try clear c7b0
    try clear hx330_0
    try clear p330
    try clear q330
    obtain ⟨x8_2, x9_2, rfl, rfl, HA, HK2, HB⟩ := hrel
    cases gk with
    | zero => exact absurd HA.out (by simp [quillref12_Mate.l0])
    | succ k2 =>
     have H := HA.out
     clear HA
     simp only [quillref12_Mate.l0] at H
     have HC12 := Aside0.mk H
     clear H
     go_upto_region 11 with (fail)
     go_cut [34] (fun v34 wc => ∃ (kq : Nat) (x34_11 : Bool), v34 = .bool x34_11 ∧ Aside0 (quillref12_Mate.j2 kq l0 t331 x7_8 x8_2 x9_2 x34_11 = some r) ∧ Aside0 (kq ≤ k2) ∧ Aside0 (Below w.heap.size w wc))
     case first =>
      have H := HC12.out
      clear HC12
      by_cases c13 : x9_2 ≥ 0
      rotate_left
      ·
       rw [if_neg c13] at H
       have c13b0 := decide_eq_false c13
       clear c13
       (first | rw [c13b0] | (simp only [i64_w, i32_w]; rw [c13b0]) | skip)
       have H' := Aside0.mk H
       clear H
       go_wp2
       go_meet
       case rel => exact ⟨_, (false), (by first | rfl | (simp; done) | (simp [*]; done)), H', ⟨by have := HJ8.out; have := HK2.out; first | omega | exact Nat.le_refl _⟩, ⟨by repeat with_reducible first | exact HB.out | apply pw_below_drewN | apply below_drew1 | apply below_alloc⟩⟩
      rw [if_pos c13] at H
      have c13b0 := decide_eq_true c13
      clear c13
      (first | rw [c13b0] | (simp only [i64_w, i32_w]; rw [c13b0]) | skip)
      have H' := Aside0.mk H
      clear H
      go_wp2
      go_meet
      case rel => exact ⟨_, (decide (x9_2 < (l0.length : Int))), (by first | rfl | (simp; done) | (simp [*]; done)), H', ⟨by have := HJ8.out; have := HK2.out; first | omega | exact Nat.le_refl _⟩, ⟨by repeat with_reducible first | exact HB.out | apply pw_below_drewN | apply below_drew1 | apply below_alloc⟩⟩
     case rest =>
      clear HC12
      try clear c3
      try clear c3b0
      try clear c4
      try clear c4b0
      try clear c5
      try clear c5b0
      try clear c7
      try clear c7b0
      try clear hx330_0
      try clear p330
      try clear q330
      obtain ⟨kq, x34_11, rfl, HA, HJ11, HB⟩ := hcut
      cases kq with
      | zero => exact absurd HA.out (by simp [quillref12_Mate.j2])
      | succ kj11 =>
       have H := HA.out
       clear HA
       simp only [quillref12_Mate.j2] at H
       by_cases c14 : x34_11 = true
       rotate_left
       ·
        replace c14 := Bool.eq_false_iff.mpr c14
        subst c14
        have H1 : (some (-1)) = some r := by rw [if_neg (show ¬ (false = true) by decide)] at H; exact H
        clear H
        have H := H1
        clear H1
        obtain rfl := Option.some.inj H
        go_wp2
        go_ret
        exact ⟨by first | rfl | (simp [errW_none, errW_some] <;> rfl) | (simp [*, errW_none, errW_some] <;> rfl), by repeat with_reducible first | exact HB.out | apply pw_below_drewN | apply below_drew1 | apply below_alloc⟩
       subst c14
       have H1 : (if 0 ≤ x9_2 then (if x9_2 < (l0.length : Int) then ((quillref12_opens.f).bind fun t334 => (if 0 ≤ t331 then (if t331 < (t334.length : Int) then (if (rd l0 x9_2) = (rd t334 t331) then (quillref12_Mate.j3 kj11 l0 t331 x7_8 (wrap64 (x8_2 + x7_8)) x9_2) else (quillref12_Mate.j3 kj11 l0 t331 x7_8 x8_2 x9_2)) else (none)) else (none))) else (none)) else (none)) = some r := by rw [if_pos rfl] at H; exact H
       clear H
       have H := H1
       clear H1
       by_cases c15 : 0 ≤ x9_2
       rotate_left
       ·
        rw [if_neg c15] at H
        exact absurd H (by simp)
       rw [if_pos c15] at H
       have c15b0 := decide_eq_true c15
       clear c15
       by_cases c16 : x9_2 < (l0.length : Int)
       rotate_left
       ·
        rw [if_neg c16] at H
        exact absurd H (by simp)
       rw [if_pos c16] at H
       have c16b0 := decide_eq_true c16
       clear c16
       replace H := Option.bind_eq_some_iff.mp H
       obtain ⟨t334, A170, H⟩ := H
       (try dsimp only at H)
       have A17 := Aside0.mk A170
       clear A170
       by_cases c18 : 0 ≤ t331
       rotate_left
       ·
        rw [if_neg c18] at H
        exact absurd H (by simp)
       rw [if_pos c18] at H
       have c18b0 := decide_eq_true c18
       clear c18
       by_cases c19 : t331 < (t334.length : Int)
       rotate_left
       ·
        rw [if_neg c19] at H
        exact absurd H (by simp)
       rw [if_pos c19] at H
       have c19b0 := decide_eq_true c19
       clear c19
       have HC20 := Aside0.mk H
       clear H
       try go_wp2
       have n0_ := Aside0.mk (below_drew1 HB.out)
       clear HB
       have HB := n0_
       clear n0_
       have p333 : 0 ≤ (x9_2 : Int) := of_decide_eq_true (by assumption)
       have q333 : x9_2 < (l0.length : Int) := of_decide_eq_true (by assumption)
       obtain ⟨ad333, e333, hx333_0⟩ := Kd.at_int HR0.out x9_2 p333 q333
       have hw333_0 := hx333_0
       obtain rfl : ad330 = ad333 := (by injection e333)
       replace hx333_0 := (HB.out.cell (World.block_lt_of_cell? w _ hx333_0)).trans hx333_0
       replace p333 := eq_true p333
       replace q333 := eq_true q333
       refine start_ (n := 9) (S := fun w' => w'.cell? (ad330.add (x9_2).toNat) = some (.int .i32 (rd l0 x9_2))) (ds := []) (bs 9 0) (by kernel_rfl) rfl rfl ((HB.out.cell (World.block_lt_of_cell? w _ hw333_0)).trans hw333_0) (fun hHeld => ?_); refine with_tabW quillref12_Mate.tab13 quillref12_Mate.bits13 (fun HT_ HW_ => ?_)
       generalize wc.drew = w21 at HB hx333_0 hHeld ⊢
       refine pure_ (i := 0) (N := some 38) (v := ?_) (a' := ?_) (bs 9 1) rfl rfl (any_of HT_.out (by kernel_rfl)) (fun _ _ _ h => h) (Or.inl ⟨by rfl, ?_⟩) ?_ ?_
       rotate_left
       · intro w'; go_simp; with_reducible rfl
       rotate_left
       · simp only [Act.put, List.setIfInBounds_toArray, List.set_cons_zero, List.set_cons_succ, i64_w, i32_w]; rfl
       refine pure_ (i := 1) (N := some 39) (v := ?_) (a' := ?_) (bs 9 3) rfl rfl (any_of HT_.out (by kernel_rfl)) (fun _ _ _ h => h) (Or.inl ⟨by rfl, ?_⟩) ?_ ?_
       rotate_left
       · intro w'; go_simp; with_reducible rfl
       rotate_left
       · simp only [Act.put, List.setIfInBounds_toArray, List.set_cons_zero, List.set_cons_succ, i64_w, i32_w]; rfl
       refine pure_ (i := 2) (N := some 40) (v := ?_) (a' := ?_) (bs 9 7) rfl rfl (any_of HT_.out (by kernel_rfl)) (fun _ _ _ h => h) (Or.inl ⟨by rfl, ?_⟩) ?_ ?_
       rotate_left
       · intro w'; go_simp; with_reducible rfl
       rotate_left
       · simp only [Act.put, List.setIfInBounds_toArray, List.set_cons_zero, List.set_cons_succ, i64_w, i32_w]; rfl
       refine pure_ (i := 5) (N := some 43) (v := ?_) (a' := ?_) (bs 9 39) rfl rfl (any_of HT_.out (by kernel_rfl)) (fun _ _ _ h => h) (Or.inl ⟨by rfl, ?_⟩) ?_ ?_
       rotate_left
       · intro w'; go_simp; with_reducible rfl
       rotate_left
       · simp only [Act.put, List.setIfInBounds_toArray, List.set_cons_zero, List.set_cons_succ, i64_w, i32_w]; rfl
       refine take_ (i := 3) (N := some 41) (v := ?_) (a' := ?_) (bs 9 47) rfl rfl (take_ofW HT_.out HW_.out (by kernel_rfl)) (fun _ _ _ h => h) (Or.inl ⟨by rfl, ?_⟩) hHeld ?_ ?_
       rotate_left
       ·
        intro w' s0
        go_simp
        with_reducible rfl
       rotate_left
       · simp only [Act.put, List.setIfInBounds_toArray, List.set_cons_zero, List.set_cons_succ, i64_w, i32_w]; rfl
       refine one_ (i := 4) (N := some 42) (bs 9 63) rfl rfl (one_of HT_.out (by kernel_rfl)) (by decide) (fun K hK => ?_)
       refine goes_ Tryd.func67 (by kernel_rfl) rfl #[] (by rfl) rfl rfl (by (try simp only [List.map_toArray, List.map_cons, List.map_nil]); first | done | rfl | (simp only [List.length_drop, List.length_take]; rfl)) ?_
       with_reducible refine (quillref12_opens.calls  t334 _ A17.out).mono ?_
       rintro e w22 ⟨v335, rfl, ho0, hb⟩
       refine ⟨_, rfl, ?_⟩
       have n0_ := Aside0.mk (Kd.R_lower ho0 (below_size (by repeat with_reducible first | exact HB.out | apply pw_below_drewN | apply below_drew1 | apply below_alloc)))
       have n1_ := Aside0.mk (below_step (by repeat with_reducible first | exact HB.out | apply pw_below_drewN | apply below_drew1 | apply below_alloc) hb)
       clear HB
       have HO336 := n0_
       have HB := n1_
       clear n0_ n1_
       (try clear hb)
       (try clear hb2)
       (try clear hk)
       (try clear hi)
       (try clear ho0)
       obtain ⟨Ao23, co23, eo23⟩ := Kd.R_slice HO336.out
       (first | subst eo23 | (injection eo23 with f1_ f2_ f3_; have f4_ := f1_.symm; have f5_ := f3_.symm; clear f1_ f2_ f3_; subst f4_; subst f5_))
       have p337 : 0 ≤ (t331 : Int) := of_decide_eq_true (by assumption)
       have q337 : t331 < (t334.length : Int) := of_decide_eq_true (by assumption)
       obtain ⟨ad337, e337, hx337_0⟩ := Kd.at_int (Kd.R_reads' HO336.out).2.2 t331 p337 q337
       cases e337
       replace p337 := eq_true p337
       replace q337 := eq_true q337
       refine hK.out _ _ ((HB.out.cell (World.block_lt_of_cell? w _ hw333_0)).trans hw333_0) (fun hHeld => ?_)
       clear hK K
       refine norm_ (a' := ?_) ?_ ?_
       rotate_left
       · show Act.put _ (some 42) _ = _; simp only [Act.put, List.setIfInBounds_toArray, List.set_cons_zero, List.set_cons_succ, i64_w, i32_w]; rfl
       refine pure_ (i := 6) (N := some 44) (v := ?_) (a' := ?_) (bs 9 127) rfl rfl (any_of HT_.out (by kernel_rfl)) (fun _ _ _ h => h) (Or.inl ⟨by rfl, ?_⟩) ?_ ?_
       rotate_left
       · intro w'; go_simp; with_reducible rfl
       rotate_left
       · simp only [Act.put, List.setIfInBounds_toArray, List.set_cons_zero, List.set_cons_succ, i64_w, i32_w]; rfl
       refine one_ (i := 7) (N := some 45) (bs 9 255) rfl rfl (one_of HT_.out (by kernel_rfl)) (by decide) (fun K hK => ?_)
       refine yields_here (v := ?_) (by rfl) rfl ?_ ?_
       rotate_left
       ·
        go_simp
        with_reducible rfl
       refine hK.out _ _ ((HB.out.cell (World.block_lt_of_cell? w _ hw333_0)).trans hw333_0) (fun hHeld => ?_)
       clear hK K
       refine norm_ (a' := ?_) ?_ ?_
       rotate_left
       · show Act.put _ (some 45) _ = _; simp only [Act.put, List.setIfInBounds_toArray, List.set_cons_zero, List.set_cons_succ, i64_w, i32_w]; rfl
       refine pure_ (i := 8) (N := some 46) (v := ?_) (a' := ?_) (bs 9 511) rfl rfl (any_of HT_.out (by kernel_rfl)) (fun _ _ _ h => h) (Or.inl ⟨by rfl, ?_⟩) ?_ ?_
       rotate_left
       · intro w'; go_simp; with_reducible rfl
       rotate_left
       · simp only [Act.put, List.setIfInBounds_toArray, List.set_cons_zero, List.set_cons_succ, i64_w, i32_w]; rfl
       refine done_ (done_of HT_.out (by kernel_rfl)) ?_
       go_upto_if 46 with (fail)
       go_cut [8] (fun v8 wc => ∃ (kq : Nat) (x8_19 : Int), v8 = .int .i64 x8_19 ∧ Aside0 (quillref12_Mate.j3 kq l0 t331 x7_8 x8_19 x9_2 = some r) ∧ Aside0 (kq ≤ kj11) ∧ Aside0 (Below w.heap.size w wc))
       case first =>
        have H := HC20.out
        clear HC20
        by_cases c24 : (rd l0 x9_2) = (rd t334 t331)
        rotate_left
        ·
         rw [if_neg c24] at H
         have c24b0 : ((rd l0 x9_2) == (rd t334 t331)) = false := beq_eq_false_iff_ne.mpr c24
         have c24b1 : ((rd l0 x9_2) != (rd t334 t331)) = true := bne_iff_ne.mpr c24
         (first | rw [c24b0] | (simp only [i64_w, i32_w]; rw [c24b0]) | skip)
         have H' := Aside0.mk H
         clear H
         go_wp2
         go_meet
         case rel => exact ⟨_, (x8_2), (by first | rfl | (simp; done) | (simp [*]; done)), H', ⟨by have := HJ8.out; have := HK2.out; have := HJ11.out; first | omega | exact Nat.le_refl _⟩, ⟨by repeat with_reducible first | exact HB.out | apply pw_below_drewN | apply below_drew1 | apply below_alloc⟩⟩
        rw [if_pos c24] at H
        have c24b0 : ((rd l0 x9_2) == (rd t334 t331)) = true := beq_iff_eq.mpr c24
        have c24b1 : ((rd l0 x9_2) != (rd t334 t331)) = false := bne_eq_false_iff_eq.mpr c24
        clear c24
        (first | rw [c24b0] | (simp only [i64_w, i32_w]; rw [c24b0]) | skip)
        have H' := Aside0.mk H
        clear H
        go_wp2
        go_meet
        case rel => exact ⟨_, (wrap64 (x8_2 + x7_8)), (by first | rfl | (simp; done) | (simp [*]; done)), H', ⟨by have := HJ8.out; have := HK2.out; have := HJ11.out; first | omega | exact Nat.le_refl _⟩, ⟨by repeat with_reducible first | exact HB.out | apply pw_below_drewN | apply below_drew1 | apply below_alloc⟩⟩
       case rest =>
        clear HC20
        try clear c3
        try clear c3b0
        try clear c4
        try clear c4b0
        try clear c5
        try clear c5b0
        try clear c7
        try clear c7b0
        try clear c14
        try clear c15
        try clear c15b0
        try clear c16
        try clear c16b0
        try clear c18
        try clear c18b0
        try clear c19
        try clear c19b0
        try clear hx330_0
        try clear hx333_0
        try clear hx337_0
        try clear p330
        try clear p333
        try clear p337
        try clear q330
        try clear q333
        try clear q337
        obtain ⟨kq, x8_19, rfl, HA, HJ19, HB⟩ := hcut
        cases kq with
        | zero => exact absurd HA.out (by simp [quillref12_Mate.j3])
        | succ kj19 =>
         have H := HA.out
         clear HA
         simp only [quillref12_Mate.j3] at H
         by_cases c25 : 0 ≤ x9_2
         rotate_left
         ·
          rw [if_neg c25] at H
          exact absurd H (by simp)
         rw [if_pos c25] at H
         have c25b0 := decide_eq_true c25
         clear c25
         by_cases c26 : x9_2 < (l0.length : Int)
         rotate_left
         ·
          rw [if_neg c26] at H
          exact absurd H (by simp)
         rw [if_pos c26] at H
         have c26b0 := decide_eq_true c26
         clear c26
         replace H := Option.bind_eq_some_iff.mp H
         obtain ⟨t339, A270, H⟩ := H
         (try dsimp only at H)
         have A27 := Aside0.mk A270
         clear A270
         by_cases c28 : 0 ≤ t331
         rotate_left
         ·
          rw [if_neg c28] at H
          exact absurd H (by simp)
         rw [if_pos c28] at H
         have c28b0 := decide_eq_true c28
         clear c28
         by_cases c29 : t331 < (t339.length : Int)
         rotate_left
         ·
          rw [if_neg c29] at H
          exact absurd H (by simp)
         rw [if_pos c29] at H
         have c29b0 := decide_eq_true c29
         clear c29
         by_cases c30 : (rd l0 x9_2) = (rd t339 t331)
         rotate_left
         ·
          rw [if_neg c30] at H
          have c30b0 : ((rd l0 x9_2) == (rd t339 t331)) = false := beq_eq_false_iff_ne.mpr c30
          have c30b1 : ((rd l0 x9_2) != (rd t339 t331)) = true := bne_iff_ne.mpr c30
          by_cases c38 : x8_19 = 0
          ·
           rw [if_pos c38] at H
           have c38b0 : (x8_19 == 0) = true := beq_iff_eq.mpr c38
           have c38b1 : (x8_19 != 0) = false := bne_eq_false_iff_eq.mpr c38
           clear c38
           obtain rfl := Option.some.inj H
           try go_wp2
           have n0_ := Aside0.mk (below_drew1 HB.out)
           clear HB
           have HB := n0_
           clear n0_
           have p338 : 0 ≤ (x9_2 : Int) := of_decide_eq_true (by assumption)
           have q338 : x9_2 < (l0.length : Int) := of_decide_eq_true (by assumption)
           obtain ⟨ad338, e338, hx338_0⟩ := Kd.at_int HR0.out x9_2 p338 q338
           have hw338_0 := hx338_0
           obtain rfl : ad330 = ad338 := (by injection e338)
           replace hx338_0 := (HB.out.cell (World.block_lt_of_cell? w _ hx338_0)).trans hx338_0
           replace p338 := eq_true p338
           replace q338 := eq_true q338
           refine start_ (n := 9) (S := fun w' => w'.cell? (ad330.add (x9_2).toNat) = some (.int .i32 (rd l0 x9_2))) (ds := []) (bs 9 0) (by kernel_rfl) rfl rfl ((HB.out.cell (World.block_lt_of_cell? w _ hw338_0)).trans hw338_0) (fun hHeld => ?_); refine with_tabW quillref12_Mate.tab15 quillref12_Mate.bits15 (fun HT_ HW_ => ?_)
           generalize wc.drew = w39 at HB hx338_0 hHeld ⊢
           refine pure_ (i := 0) (N := some 50) (v := ?_) (a' := ?_) (bs 9 1) rfl rfl (any_of HT_.out (by kernel_rfl)) (fun _ _ _ h => h) (Or.inl ⟨by rfl, ?_⟩) ?_ ?_
           rotate_left
           · intro w'; go_simp; with_reducible rfl
           rotate_left
           · simp only [Act.put, List.setIfInBounds_toArray, List.set_cons_zero, List.set_cons_succ, i64_w, i32_w]; rfl
           refine pure_ (i := 1) (N := some 51) (v := ?_) (a' := ?_) (bs 9 3) rfl rfl (any_of HT_.out (by kernel_rfl)) (fun _ _ _ h => h) (Or.inl ⟨by rfl, ?_⟩) ?_ ?_
           rotate_left
           · intro w'; go_simp; with_reducible rfl
           rotate_left
           · simp only [Act.put, List.setIfInBounds_toArray, List.set_cons_zero, List.set_cons_succ, i64_w, i32_w]; rfl
           refine pure_ (i := 2) (N := some 52) (v := ?_) (a' := ?_) (bs 9 7) rfl rfl (any_of HT_.out (by kernel_rfl)) (fun _ _ _ h => h) (Or.inl ⟨by rfl, ?_⟩) ?_ ?_
           rotate_left
           · intro w'; go_simp; with_reducible rfl
           rotate_left
           · simp only [Act.put, List.setIfInBounds_toArray, List.set_cons_zero, List.set_cons_succ, i64_w, i32_w]; rfl
           refine pure_ (i := 5) (N := some 55) (v := ?_) (a' := ?_) (bs 9 39) rfl rfl (any_of HT_.out (by kernel_rfl)) (fun _ _ _ h => h) (Or.inl ⟨by rfl, ?_⟩) ?_ ?_
           rotate_left
           · intro w'; go_simp; with_reducible rfl
           rotate_left
           · simp only [Act.put, List.setIfInBounds_toArray, List.set_cons_zero, List.set_cons_succ, i64_w, i32_w]; rfl
           refine take_ (i := 3) (N := some 53) (v := ?_) (a' := ?_) (bs 9 47) rfl rfl (take_ofW HT_.out HW_.out (by kernel_rfl)) (fun _ _ _ h => h) (Or.inl ⟨by rfl, ?_⟩) hHeld ?_ ?_
           rotate_left
           ·
            intro w' s0
            go_simp
            with_reducible rfl
           rotate_left
           · simp only [Act.put, List.setIfInBounds_toArray, List.set_cons_zero, List.set_cons_succ, i64_w, i32_w]; rfl
           refine one_ (i := 4) (N := some 54) (bs 9 63) rfl rfl (one_of HT_.out (by kernel_rfl)) (by decide) (fun K hK => ?_)
           refine goes_ Tryd.func68 (by kernel_rfl) rfl #[] (by rfl) rfl rfl (by (try simp only [List.map_toArray, List.map_cons, List.map_nil]); first | done | rfl | (simp only [List.length_drop, List.length_take]; rfl)) ?_
           with_reducible refine (quillref12_shuts.calls  t339 _ A27.out).mono ?_
           rintro e w40 ⟨v340, rfl, ho0, hb⟩
           refine ⟨_, rfl, ?_⟩
           have n0_ := Aside0.mk (Kd.R_lower ho0 (below_size (by repeat with_reducible first | exact HB.out | apply pw_below_drewN | apply below_drew1 | apply below_alloc)))
           have n1_ := Aside0.mk (below_step (by repeat with_reducible first | exact HB.out | apply pw_below_drewN | apply below_drew1 | apply below_alloc) hb)
           clear HB
           have HO341 := n0_
           have HB := n1_
           clear n0_ n1_
           (try clear hb)
           (try clear hb2)
           (try clear hk)
           (try clear hi)
           (try clear ho0)
           obtain ⟨Ao41, co41, eo41⟩ := Kd.R_slice HO341.out
           (first | subst eo41 | (injection eo41 with f1_ f2_ f3_; have f4_ := f1_.symm; have f5_ := f3_.symm; clear f1_ f2_ f3_; subst f4_; subst f5_))
           have p342 : 0 ≤ (t331 : Int) := of_decide_eq_true (by assumption)
           have q342 : t331 < (t339.length : Int) := of_decide_eq_true (by assumption)
           obtain ⟨ad342, e342, hx342_0⟩ := Kd.at_int (Kd.R_reads' HO341.out).2.2 t331 p342 q342
           cases e342
           replace p342 := eq_true p342
           replace q342 := eq_true q342
           refine hK.out _ _ ((HB.out.cell (World.block_lt_of_cell? w _ hw338_0)).trans hw338_0) (fun hHeld => ?_)
           clear hK K
           refine norm_ (a' := ?_) ?_ ?_
           rotate_left
           · show Act.put _ (some 54) _ = _; simp only [Act.put, List.setIfInBounds_toArray, List.set_cons_zero, List.set_cons_succ, i64_w, i32_w]; rfl
           refine pure_ (i := 6) (N := some 56) (v := ?_) (a' := ?_) (bs 9 127) rfl rfl (any_of HT_.out (by kernel_rfl)) (fun _ _ _ h => h) (Or.inl ⟨by rfl, ?_⟩) ?_ ?_
           rotate_left
           · intro w'; go_simp; with_reducible rfl
           rotate_left
           · simp only [Act.put, List.setIfInBounds_toArray, List.set_cons_zero, List.set_cons_succ, i64_w, i32_w]; rfl
           refine one_ (i := 7) (N := some 57) (bs 9 255) rfl rfl (one_of HT_.out (by kernel_rfl)) (by decide) (fun K hK => ?_)
           refine yields_here (v := ?_) (by rfl) rfl ?_ ?_
           rotate_left
           ·
            go_simp
            with_reducible rfl
           refine hK.out _ _ ((HB.out.cell (World.block_lt_of_cell? w _ hw338_0)).trans hw338_0) (fun hHeld => ?_)
           clear hK K
           refine norm_ (a' := ?_) ?_ ?_
           rotate_left
           · show Act.put _ (some 57) _ = _; simp only [Act.put, List.setIfInBounds_toArray, List.set_cons_zero, List.set_cons_succ, i64_w, i32_w]; rfl
           refine pure_ (i := 8) (N := some 58) (v := ?_) (a' := ?_) (bs 9 511) rfl rfl (any_of HT_.out (by kernel_rfl)) (fun _ _ _ h => h) (Or.inl ⟨by rfl, ?_⟩) ?_ ?_
           rotate_left
           · intro w'; go_simp; with_reducible rfl
           rotate_left
           · simp only [Act.put, List.setIfInBounds_toArray, List.set_cons_zero, List.set_cons_succ, i64_w, i32_w]; rfl
           refine done_ (done_of HT_.out (by kernel_rfl)) ?_
           try go_wp2
           go_ret
           exact ⟨by first | rfl | (simp [errW_none, errW_some] <;> rfl) | (simp [*, errW_none, errW_some] <;> rfl), by repeat with_reducible first | exact HB.out | apply pw_below_drewN | apply below_drew1 | apply below_alloc⟩
          rw [if_neg c38] at H
          have c38b0 : (x8_19 == 0) = false := beq_eq_false_iff_ne.mpr c38
          have c38b1 : (x8_19 != 0) = true := bne_iff_ne.mpr c38
          have H' := Aside0.mk H
          clear H
          try go_wp2
          have n0_ := Aside0.mk (below_drew1 HB.out)
          clear HB
          have HB := n0_
          clear n0_
          have p338 : 0 ≤ (x9_2 : Int) := of_decide_eq_true (by assumption)
          have q338 : x9_2 < (l0.length : Int) := of_decide_eq_true (by assumption)
          obtain ⟨ad338, e338, hx338_0⟩ := Kd.at_int HR0.out x9_2 p338 q338
          have hw338_0 := hx338_0
          obtain rfl : ad330 = ad338 := (by injection e338)
          replace hx338_0 := (HB.out.cell (World.block_lt_of_cell? w _ hx338_0)).trans hx338_0
          replace p338 := eq_true p338
          replace q338 := eq_true q338
          refine start_ (n := 9) (S := fun w' => w'.cell? (ad330.add (x9_2).toNat) = some (.int .i32 (rd l0 x9_2))) (ds := []) (bs 9 0) (by kernel_rfl) rfl rfl ((HB.out.cell (World.block_lt_of_cell? w _ hw338_0)).trans hw338_0) (fun hHeld => ?_); refine with_tabW quillref12_Mate.tab15 quillref12_Mate.bits15 (fun HT_ HW_ => ?_)
          generalize wc.drew = w42 at HB hx338_0 hHeld ⊢
          refine pure_ (i := 0) (N := some 50) (v := ?_) (a' := ?_) (bs 9 1) rfl rfl (any_of HT_.out (by kernel_rfl)) (fun _ _ _ h => h) (Or.inl ⟨by rfl, ?_⟩) ?_ ?_
          rotate_left
          · intro w'; go_simp; with_reducible rfl
          rotate_left
          · simp only [Act.put, List.setIfInBounds_toArray, List.set_cons_zero, List.set_cons_succ, i64_w, i32_w]; rfl
          refine pure_ (i := 1) (N := some 51) (v := ?_) (a' := ?_) (bs 9 3) rfl rfl (any_of HT_.out (by kernel_rfl)) (fun _ _ _ h => h) (Or.inl ⟨by rfl, ?_⟩) ?_ ?_
          rotate_left
          · intro w'; go_simp; with_reducible rfl
          rotate_left
          · simp only [Act.put, List.setIfInBounds_toArray, List.set_cons_zero, List.set_cons_succ, i64_w, i32_w]; rfl
          refine pure_ (i := 2) (N := some 52) (v := ?_) (a' := ?_) (bs 9 7) rfl rfl (any_of HT_.out (by kernel_rfl)) (fun _ _ _ h => h) (Or.inl ⟨by rfl, ?_⟩) ?_ ?_
          rotate_left
          · intro w'; go_simp; with_reducible rfl
          rotate_left
          · simp only [Act.put, List.setIfInBounds_toArray, List.set_cons_zero, List.set_cons_succ, i64_w, i32_w]; rfl
          refine pure_ (i := 5) (N := some 55) (v := ?_) (a' := ?_) (bs 9 39) rfl rfl (any_of HT_.out (by kernel_rfl)) (fun _ _ _ h => h) (Or.inl ⟨by rfl, ?_⟩) ?_ ?_
          rotate_left
          · intro w'; go_simp; with_reducible rfl
          rotate_left
          · simp only [Act.put, List.setIfInBounds_toArray, List.set_cons_zero, List.set_cons_succ, i64_w, i32_w]; rfl
          refine take_ (i := 3) (N := some 53) (v := ?_) (a' := ?_) (bs 9 47) rfl rfl (take_ofW HT_.out HW_.out (by kernel_rfl)) (fun _ _ _ h => h) (Or.inl ⟨by rfl, ?_⟩) hHeld ?_ ?_
          rotate_left
          ·
           intro w' s0
           go_simp
           with_reducible rfl
          rotate_left
          · simp only [Act.put, List.setIfInBounds_toArray, List.set_cons_zero, List.set_cons_succ, i64_w, i32_w]; rfl
          refine one_ (i := 4) (N := some 54) (bs 9 63) rfl rfl (one_of HT_.out (by kernel_rfl)) (by decide) (fun K hK => ?_)
          refine goes_ Tryd.func68 (by kernel_rfl) rfl #[] (by rfl) rfl rfl (by (try simp only [List.map_toArray, List.map_cons, List.map_nil]); first | done | rfl | (simp only [List.length_drop, List.length_take]; rfl)) ?_
          with_reducible refine (quillref12_shuts.calls  t339 _ A27.out).mono ?_
          rintro e w43 ⟨v340, rfl, ho0, hb⟩
          refine ⟨_, rfl, ?_⟩
          have n0_ := Aside0.mk (Kd.R_lower ho0 (below_size (by repeat with_reducible first | exact HB.out | apply pw_below_drewN | apply below_drew1 | apply below_alloc)))
          have n1_ := Aside0.mk (below_step (by repeat with_reducible first | exact HB.out | apply pw_below_drewN | apply below_drew1 | apply below_alloc) hb)
          clear HB
          have HO341 := n0_
          have HB := n1_
          clear n0_ n1_
          (try clear hb)
          (try clear hb2)
          (try clear hk)
          (try clear hi)
          (try clear ho0)
          obtain ⟨Ao44, co44, eo44⟩ := Kd.R_slice HO341.out
          (first | subst eo44 | (injection eo44 with f1_ f2_ f3_; have f4_ := f1_.symm; have f5_ := f3_.symm; clear f1_ f2_ f3_; subst f4_; subst f5_))
          have p342 : 0 ≤ (t331 : Int) := of_decide_eq_true (by assumption)
          have q342 : t331 < (t339.length : Int) := of_decide_eq_true (by assumption)
          obtain ⟨ad342, e342, hx342_0⟩ := Kd.at_int (Kd.R_reads' HO341.out).2.2 t331 p342 q342
          cases e342
          replace p342 := eq_true p342
          replace q342 := eq_true q342
          refine hK.out _ _ ((HB.out.cell (World.block_lt_of_cell? w _ hw338_0)).trans hw338_0) (fun hHeld => ?_)
          clear hK K
          refine norm_ (a' := ?_) ?_ ?_
          rotate_left
          · show Act.put _ (some 54) _ = _; simp only [Act.put, List.setIfInBounds_toArray, List.set_cons_zero, List.set_cons_succ, i64_w, i32_w]; rfl
          refine pure_ (i := 6) (N := some 56) (v := ?_) (a' := ?_) (bs 9 127) rfl rfl (any_of HT_.out (by kernel_rfl)) (fun _ _ _ h => h) (Or.inl ⟨by rfl, ?_⟩) ?_ ?_
          rotate_left
          · intro w'; go_simp; with_reducible rfl
          rotate_left
          · simp only [Act.put, List.setIfInBounds_toArray, List.set_cons_zero, List.set_cons_succ, i64_w, i32_w]; rfl
          refine one_ (i := 7) (N := some 57) (bs 9 255) rfl rfl (one_of HT_.out (by kernel_rfl)) (by decide) (fun K hK => ?_)
          refine yields_here (v := ?_) (by rfl) rfl ?_ ?_
          rotate_left
          ·
           go_simp
           with_reducible rfl
          refine hK.out _ _ ((HB.out.cell (World.block_lt_of_cell? w _ hw338_0)).trans hw338_0) (fun hHeld => ?_)
          clear hK K
          refine norm_ (a' := ?_) ?_ ?_
          rotate_left
          · show Act.put _ (some 57) _ = _; simp only [Act.put, List.setIfInBounds_toArray, List.set_cons_zero, List.set_cons_succ, i64_w, i32_w]; rfl
          refine pure_ (i := 8) (N := some 58) (v := ?_) (a' := ?_) (bs 9 511) rfl rfl (any_of HT_.out (by kernel_rfl)) (fun _ _ _ h => h) (Or.inl ⟨by rfl, ?_⟩) ?_ ?_
          rotate_left
          · intro w'; go_simp; with_reducible rfl
          rotate_left
          · simp only [Act.put, List.setIfInBounds_toArray, List.set_cons_zero, List.set_cons_succ, i64_w, i32_w]; rfl
          refine done_ (done_of HT_.out (by kernel_rfl)) ?_
          try go_wp2
          go_roundg kj19
          case measure => have := HJ8.out; have := HK2.out; have := HJ11.out; have := HJ19.out; omega
          case rel => exact ⟨(x8_19), (wrap64 (x9_2 + x7_8)), (by first | rfl | (simp; done) | (simp [*]; done)), (by first | rfl | (simp; done) | (simp [*]; done)), H', ⟨by have := HJ8.out; have := HK2.out; have := HJ11.out; have := HJ19.out; omega⟩, ⟨by repeat with_reducible first | exact HB.out | apply pw_below_drewN | apply below_drew1 | apply below_alloc⟩⟩
         rw [if_pos c30] at H
         have c30b0 : ((rd l0 x9_2) == (rd t339 t331)) = true := beq_iff_eq.mpr c30
         have c30b1 : ((rd l0 x9_2) != (rd t339 t331)) = false := bne_eq_false_iff_eq.mpr c30
         clear c30
         by_cases c31 : (wrap64 (x8_19 - x7_8)) = 0
         ·
          rw [if_pos c31] at H
          have c31b0 : ((wrap64 (x8_19 - x7_8)) == 0) = true := beq_iff_eq.mpr c31
          have c31b1 : ((wrap64 (x8_19 - x7_8)) != 0) = false := bne_eq_false_iff_eq.mpr c31
          clear c31
          obtain rfl := Option.some.inj H
          try go_wp2
          have n0_ := Aside0.mk (below_drew1 HB.out)
          clear HB
          have HB := n0_
          clear n0_
          have p338 : 0 ≤ (x9_2 : Int) := of_decide_eq_true (by assumption)
          have q338 : x9_2 < (l0.length : Int) := of_decide_eq_true (by assumption)
          obtain ⟨ad338, e338, hx338_0⟩ := Kd.at_int HR0.out x9_2 p338 q338
          have hw338_0 := hx338_0
          obtain rfl : ad330 = ad338 := (by injection e338)
          replace hx338_0 := (HB.out.cell (World.block_lt_of_cell? w _ hx338_0)).trans hx338_0
          replace p338 := eq_true p338
          replace q338 := eq_true q338
          refine start_ (n := 9) (S := fun w' => w'.cell? (ad330.add (x9_2).toNat) = some (.int .i32 (rd l0 x9_2))) (ds := []) (bs 9 0) (by kernel_rfl) rfl rfl ((HB.out.cell (World.block_lt_of_cell? w _ hw338_0)).trans hw338_0) (fun hHeld => ?_); refine with_tabW quillref12_Mate.tab15 quillref12_Mate.bits15 (fun HT_ HW_ => ?_)
          generalize wc.drew = w32 at HB hx338_0 hHeld ⊢
          refine pure_ (i := 0) (N := some 50) (v := ?_) (a' := ?_) (bs 9 1) rfl rfl (any_of HT_.out (by kernel_rfl)) (fun _ _ _ h => h) (Or.inl ⟨by rfl, ?_⟩) ?_ ?_
          rotate_left
          · intro w'; go_simp; with_reducible rfl
          rotate_left
          · simp only [Act.put, List.setIfInBounds_toArray, List.set_cons_zero, List.set_cons_succ, i64_w, i32_w]; rfl
          refine pure_ (i := 1) (N := some 51) (v := ?_) (a' := ?_) (bs 9 3) rfl rfl (any_of HT_.out (by kernel_rfl)) (fun _ _ _ h => h) (Or.inl ⟨by rfl, ?_⟩) ?_ ?_
          rotate_left
          · intro w'; go_simp; with_reducible rfl
          rotate_left
          · simp only [Act.put, List.setIfInBounds_toArray, List.set_cons_zero, List.set_cons_succ, i64_w, i32_w]; rfl
          refine pure_ (i := 2) (N := some 52) (v := ?_) (a' := ?_) (bs 9 7) rfl rfl (any_of HT_.out (by kernel_rfl)) (fun _ _ _ h => h) (Or.inl ⟨by rfl, ?_⟩) ?_ ?_
          rotate_left
          · intro w'; go_simp; with_reducible rfl
          rotate_left
          · simp only [Act.put, List.setIfInBounds_toArray, List.set_cons_zero, List.set_cons_succ, i64_w, i32_w]; rfl
          refine pure_ (i := 5) (N := some 55) (v := ?_) (a' := ?_) (bs 9 39) rfl rfl (any_of HT_.out (by kernel_rfl)) (fun _ _ _ h => h) (Or.inl ⟨by rfl, ?_⟩) ?_ ?_
          rotate_left
          · intro w'; go_simp; with_reducible rfl
          rotate_left
          · simp only [Act.put, List.setIfInBounds_toArray, List.set_cons_zero, List.set_cons_succ, i64_w, i32_w]; rfl
          refine take_ (i := 3) (N := some 53) (v := ?_) (a' := ?_) (bs 9 47) rfl rfl (take_ofW HT_.out HW_.out (by kernel_rfl)) (fun _ _ _ h => h) (Or.inl ⟨by rfl, ?_⟩) hHeld ?_ ?_
          rotate_left
          ·
           intro w' s0
           go_simp
           with_reducible rfl
          rotate_left
          · simp only [Act.put, List.setIfInBounds_toArray, List.set_cons_zero, List.set_cons_succ, i64_w, i32_w]; rfl
          refine one_ (i := 4) (N := some 54) (bs 9 63) rfl rfl (one_of HT_.out (by kernel_rfl)) (by decide) (fun K hK => ?_)
          refine goes_ Tryd.func68 (by kernel_rfl) rfl #[] (by rfl) rfl rfl (by (try simp only [List.map_toArray, List.map_cons, List.map_nil]); first | done | rfl | (simp only [List.length_drop, List.length_take]; rfl)) ?_
          with_reducible refine (quillref12_shuts.calls  t339 _ A27.out).mono ?_
          rintro e w33 ⟨v340, rfl, ho0, hb⟩
          refine ⟨_, rfl, ?_⟩
          have n0_ := Aside0.mk (Kd.R_lower ho0 (below_size (by repeat with_reducible first | exact HB.out | apply pw_below_drewN | apply below_drew1 | apply below_alloc)))
          have n1_ := Aside0.mk (below_step (by repeat with_reducible first | exact HB.out | apply pw_below_drewN | apply below_drew1 | apply below_alloc) hb)
          clear HB
          have HO341 := n0_
          have HB := n1_
          clear n0_ n1_
          (try clear hb)
          (try clear hb2)
          (try clear hk)
          (try clear hi)
          (try clear ho0)
          obtain ⟨Ao34, co34, eo34⟩ := Kd.R_slice HO341.out
          (first | subst eo34 | (injection eo34 with f1_ f2_ f3_; have f4_ := f1_.symm; have f5_ := f3_.symm; clear f1_ f2_ f3_; subst f4_; subst f5_))
          have p342 : 0 ≤ (t331 : Int) := of_decide_eq_true (by assumption)
          have q342 : t331 < (t339.length : Int) := of_decide_eq_true (by assumption)
          obtain ⟨ad342, e342, hx342_0⟩ := Kd.at_int (Kd.R_reads' HO341.out).2.2 t331 p342 q342
          cases e342
          replace p342 := eq_true p342
          replace q342 := eq_true q342
          refine hK.out _ _ ((HB.out.cell (World.block_lt_of_cell? w _ hw338_0)).trans hw338_0) (fun hHeld => ?_)
          clear hK K
          refine norm_ (a' := ?_) ?_ ?_
          rotate_left
          · show Act.put _ (some 54) _ = _; simp only [Act.put, List.setIfInBounds_toArray, List.set_cons_zero, List.set_cons_succ, i64_w, i32_w]; rfl
          refine pure_ (i := 6) (N := some 56) (v := ?_) (a' := ?_) (bs 9 127) rfl rfl (any_of HT_.out (by kernel_rfl)) (fun _ _ _ h => h) (Or.inl ⟨by rfl, ?_⟩) ?_ ?_
          rotate_left
          · intro w'; go_simp; with_reducible rfl
          rotate_left
          · simp only [Act.put, List.setIfInBounds_toArray, List.set_cons_zero, List.set_cons_succ, i64_w, i32_w]; rfl
          refine one_ (i := 7) (N := some 57) (bs 9 255) rfl rfl (one_of HT_.out (by kernel_rfl)) (by decide) (fun K hK => ?_)
          refine yields_here (v := ?_) (by rfl) rfl ?_ ?_
          rotate_left
          ·
           go_simp
           with_reducible rfl
          refine hK.out _ _ ((HB.out.cell (World.block_lt_of_cell? w _ hw338_0)).trans hw338_0) (fun hHeld => ?_)
          clear hK K
          refine norm_ (a' := ?_) ?_ ?_
          rotate_left
          · show Act.put _ (some 57) _ = _; simp only [Act.put, List.setIfInBounds_toArray, List.set_cons_zero, List.set_cons_succ, i64_w, i32_w]; rfl
          refine pure_ (i := 8) (N := some 58) (v := ?_) (a' := ?_) (bs 9 511) rfl rfl (any_of HT_.out (by kernel_rfl)) (fun _ _ _ h => h) (Or.inl ⟨by rfl, ?_⟩) ?_ ?_
          rotate_left
          · intro w'; go_simp; with_reducible rfl
          rotate_left
          · simp only [Act.put, List.setIfInBounds_toArray, List.set_cons_zero, List.set_cons_succ, i64_w, i32_w]; rfl
          refine done_ (done_of HT_.out (by kernel_rfl)) ?_
          try go_wp2
          go_ret
          exact ⟨by first | rfl | (simp [errW_none, errW_some] <;> rfl) | (simp [*, errW_none, errW_some] <;> rfl), by repeat with_reducible first | exact HB.out | apply pw_below_drewN | apply below_drew1 | apply below_alloc⟩
         rw [if_neg c31] at H
         have c31b0 : ((wrap64 (x8_19 - x7_8)) == 0) = false := beq_eq_false_iff_ne.mpr c31
         have c31b1 : ((wrap64 (x8_19 - x7_8)) != 0) = true := bne_iff_ne.mpr c31
         have H' := Aside0.mk H
         clear H
         try go_wp2
         have n0_ := Aside0.mk (below_drew1 HB.out)
         clear HB
         have HB := n0_
         clear n0_
         have p338 : 0 ≤ (x9_2 : Int) := of_decide_eq_true (by assumption)
         have q338 : x9_2 < (l0.length : Int) := of_decide_eq_true (by assumption)
         obtain ⟨ad338, e338, hx338_0⟩ := Kd.at_int HR0.out x9_2 p338 q338
         have hw338_0 := hx338_0
         obtain rfl : ad330 = ad338 := (by injection e338)
         replace hx338_0 := (HB.out.cell (World.block_lt_of_cell? w _ hx338_0)).trans hx338_0
         replace p338 := eq_true p338
         replace q338 := eq_true q338
         refine start_ (n := 9) (S := fun w' => w'.cell? (ad330.add (x9_2).toNat) = some (.int .i32 (rd l0 x9_2))) (ds := []) (bs 9 0) (by kernel_rfl) rfl rfl ((HB.out.cell (World.block_lt_of_cell? w _ hw338_0)).trans hw338_0) (fun hHeld => ?_); refine with_tabW quillref12_Mate.tab15 quillref12_Mate.bits15 (fun HT_ HW_ => ?_)
         generalize wc.drew = w35 at HB hx338_0 hHeld ⊢
         refine pure_ (i := 0) (N := some 50) (v := ?_) (a' := ?_) (bs 9 1) rfl rfl (any_of HT_.out (by kernel_rfl)) (fun _ _ _ h => h) (Or.inl ⟨by rfl, ?_⟩) ?_ ?_
         rotate_left
         · intro w'; go_simp; with_reducible rfl
         rotate_left
         · simp only [Act.put, List.setIfInBounds_toArray, List.set_cons_zero, List.set_cons_succ, i64_w, i32_w]; rfl
         refine pure_ (i := 1) (N := some 51) (v := ?_) (a' := ?_) (bs 9 3) rfl rfl (any_of HT_.out (by kernel_rfl)) (fun _ _ _ h => h) (Or.inl ⟨by rfl, ?_⟩) ?_ ?_
         rotate_left
         · intro w'; go_simp; with_reducible rfl
         rotate_left
         · simp only [Act.put, List.setIfInBounds_toArray, List.set_cons_zero, List.set_cons_succ, i64_w, i32_w]; rfl
         refine pure_ (i := 2) (N := some 52) (v := ?_) (a' := ?_) (bs 9 7) rfl rfl (any_of HT_.out (by kernel_rfl)) (fun _ _ _ h => h) (Or.inl ⟨by rfl, ?_⟩) ?_ ?_
         rotate_left
         · intro w'; go_simp; with_reducible rfl
         rotate_left
         · simp only [Act.put, List.setIfInBounds_toArray, List.set_cons_zero, List.set_cons_succ, i64_w, i32_w]; rfl
         refine pure_ (i := 5) (N := some 55) (v := ?_) (a' := ?_) (bs 9 39) rfl rfl (any_of HT_.out (by kernel_rfl)) (fun _ _ _ h => h) (Or.inl ⟨by rfl, ?_⟩) ?_ ?_
         rotate_left
         · intro w'; go_simp; with_reducible rfl
         rotate_left
         · simp only [Act.put, List.setIfInBounds_toArray, List.set_cons_zero, List.set_cons_succ, i64_w, i32_w]; rfl
         refine take_ (i := 3) (N := some 53) (v := ?_) (a' := ?_) (bs 9 47) rfl rfl (take_ofW HT_.out HW_.out (by kernel_rfl)) (fun _ _ _ h => h) (Or.inl ⟨by rfl, ?_⟩) hHeld ?_ ?_
         rotate_left
         ·
          intro w' s0
          go_simp
          with_reducible rfl
         rotate_left
         · simp only [Act.put, List.setIfInBounds_toArray, List.set_cons_zero, List.set_cons_succ, i64_w, i32_w]; rfl
         refine one_ (i := 4) (N := some 54) (bs 9 63) rfl rfl (one_of HT_.out (by kernel_rfl)) (by decide) (fun K hK => ?_)
         refine goes_ Tryd.func68 (by kernel_rfl) rfl #[] (by rfl) rfl rfl (by (try simp only [List.map_toArray, List.map_cons, List.map_nil]); first | done | rfl | (simp only [List.length_drop, List.length_take]; rfl)) ?_
         with_reducible refine (quillref12_shuts.calls  t339 _ A27.out).mono ?_
         rintro e w36 ⟨v340, rfl, ho0, hb⟩
         refine ⟨_, rfl, ?_⟩
         have n0_ := Aside0.mk (Kd.R_lower ho0 (below_size (by repeat with_reducible first | exact HB.out | apply pw_below_drewN | apply below_drew1 | apply below_alloc)))
         have n1_ := Aside0.mk (below_step (by repeat with_reducible first | exact HB.out | apply pw_below_drewN | apply below_drew1 | apply below_alloc) hb)
         clear HB
         have HO341 := n0_
         have HB := n1_
         clear n0_ n1_
         (try clear hb)
         (try clear hb2)
         (try clear hk)
         (try clear hi)
         (try clear ho0)
         obtain ⟨Ao37, co37, eo37⟩ := Kd.R_slice HO341.out
         (first | subst eo37 | (injection eo37 with f1_ f2_ f3_; have f4_ := f1_.symm; have f5_ := f3_.symm; clear f1_ f2_ f3_; subst f4_; subst f5_))
         have p342 : 0 ≤ (t331 : Int) := of_decide_eq_true (by assumption)
         have q342 : t331 < (t339.length : Int) := of_decide_eq_true (by assumption)
         obtain ⟨ad342, e342, hx342_0⟩ := Kd.at_int (Kd.R_reads' HO341.out).2.2 t331 p342 q342
         cases e342
         replace p342 := eq_true p342
         replace q342 := eq_true q342
         refine hK.out _ _ ((HB.out.cell (World.block_lt_of_cell? w _ hw338_0)).trans hw338_0) (fun hHeld => ?_)
         clear hK K
         refine norm_ (a' := ?_) ?_ ?_
         rotate_left
         · show Act.put _ (some 54) _ = _; simp only [Act.put, List.setIfInBounds_toArray, List.set_cons_zero, List.set_cons_succ, i64_w, i32_w]; rfl
         refine pure_ (i := 6) (N := some 56) (v := ?_) (a' := ?_) (bs 9 127) rfl rfl (any_of HT_.out (by kernel_rfl)) (fun _ _ _ h => h) (Or.inl ⟨by rfl, ?_⟩) ?_ ?_
         rotate_left
         · intro w'; go_simp; with_reducible rfl
         rotate_left
         · simp only [Act.put, List.setIfInBounds_toArray, List.set_cons_zero, List.set_cons_succ, i64_w, i32_w]; rfl
         refine one_ (i := 7) (N := some 57) (bs 9 255) rfl rfl (one_of HT_.out (by kernel_rfl)) (by decide) (fun K hK => ?_)
         refine yields_here (v := ?_) (by rfl) rfl ?_ ?_
         rotate_left
         ·
          go_simp
          with_reducible rfl
         refine hK.out _ _ ((HB.out.cell (World.block_lt_of_cell? w _ hw338_0)).trans hw338_0) (fun hHeld => ?_)
         clear hK K
         refine norm_ (a' := ?_) ?_ ?_
         rotate_left
         · show Act.put _ (some 57) _ = _; simp only [Act.put, List.setIfInBounds_toArray, List.set_cons_zero, List.set_cons_succ, i64_w, i32_w]; rfl
         refine pure_ (i := 8) (N := some 58) (v := ?_) (a' := ?_) (bs 9 511) rfl rfl (any_of HT_.out (by kernel_rfl)) (fun _ _ _ h => h) (Or.inl ⟨by rfl, ?_⟩) ?_ ?_
         rotate_left
         · intro w'; go_simp; with_reducible rfl
         rotate_left
         · simp only [Act.put, List.setIfInBounds_toArray, List.set_cons_zero, List.set_cons_succ, i64_w, i32_w]; rfl
         refine done_ (done_of HT_.out (by kernel_rfl)) ?_
         try go_wp2
         go_roundg kj19
         case measure => have := HJ8.out; have := HK2.out; have := HJ11.out; have := HJ19.out; omega
         case rel => exact ⟨(wrap64 (x8_19 - x7_8)), (wrap64 (x9_2 + x7_8)), (by first | rfl | (simp; done) | (simp [*]; done)), (by first | rfl | (simp; done) | (simp [*]; done)), H', ⟨by have := HJ8.out; have := HK2.out; have := HJ11.out; have := HJ19.out; omega⟩, ⟨by repeat with_reducible first | exact HB.out | apply pw_below_drewN | apply below_drew1 | apply below_alloc⟩⟩

end Go.Proofs.YtgikaemhhaejoaaDoor.P
