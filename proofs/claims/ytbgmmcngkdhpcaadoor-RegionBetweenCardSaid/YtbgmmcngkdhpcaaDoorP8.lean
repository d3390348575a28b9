/- The walks of the functions that these statements reach: each Go function as a plain Lean function, and the proof that its call comes to that. Written by the session's program wip/pp.py. -/
import Derived.Test.YtbgmmcngkdhpcaaDoorP0
import Derived.Test.YtbgmmcngkdhpcaaDoorP2
import Derived.Test.YtbgmmcngkdhpcaaDoorP6
import Derived.Test.YtbgmmcngkdhpcaaDoorP7
namespace Go.Proofs.YtbgmmcngkdhpcaaDoor.P
open Go.Proofs.YtbgmmcngkdhpcaaDoor
open Go.RowKit Go.Proofs.YtbgmmcngkdhpcaaDoorW.PrintWords Go.Proofs.YtbgmmcngkdhpcaaDoorW.PrintLast Go.Proofs.YtbgmmcngkdhpcaaDoorW.PrintMore
attribute [local go_sem] cell_isSome max2_int min2_int max_two min_two max_three min_three max_four min_four   -- for this text's walks alone
set_option linter.unusedVariables false
set_option linter.unusedSimpArgs false

/-! ### words_Move: function 88 -/
mutual
def words_Move.j0 : Nat → ByteArray → Int → Int → Int → Bool → Option (Int × Int)
  | 0, _, _, _, _, _ => none
  | k + 1, x0, x1, x2, x3, x37 => if x37 = true then (some (0, 1)) else ((text_Of.f k x0).bind fun bt208 => ((text_Map_Is.f bt208.1 bt208.2 x1).bind fun t215 => (if t215 = true then ((words_cells.f k x0 (decide (x2 < 97))).bind fun t216 => (words_Move.l0 k x1 x2 t216 x1 x3 0)) else (some (0, 1)))))
def words_Move.l0 : Nat → Int → Int → List (S142) → Int → Int → Int → Option (Int × Int)
  | 0, _, _, _, _, _, _ => none
  | k + 1, x1, x2, x10, x11, x48, x49 => if x49 < x48 then (if x2 = 119 then (words_Move.j2 k x1 x2 x10 x11 x11 x48 x49 x2 (x2 == 119)) else (words_Move.j2 k x1 x2 x10 x11 x11 x48 x49 x2 (x2 == 87))) else (if x11 = x1 then (some (0, 6)) else (some (x11, 0)))
def words_Move.j2 : Nat → Int → Int → List (S142) → Int → Int → Int → Int → Int → Bool → Option (Int × Int)
  | 0, _, _, _, _, _, _, _, _, _ => none
  | k + 1, x1, x2, x10, x11, x12, x48, x49, x52, x56 => if x56 = true then ((words_behind_begins.f k x10 x11).bind fun t219 => (if t219 = x12 then (if t219 = x1 then (some (0, 6)) else (some (t219, 0))) else (words_Move.l0 k x1 x2 x10 t219 x48 (wrap64 (x49 + 1))))) else (if x52 = 98 then (words_Move.j3 k x1 x2 x10 x11 x12 x48 x49 (x52 == 98)) else (words_Move.j3 k x1 x2 x10 x11 x12 x48 x49 (x52 == 66)))
def words_Move.j3 : Nat → Int → Int → List (S142) → Int → Int → Int → Int → Bool → Option (Int × Int)
  | 0, _, _, _, _, _, _, _, _ => none
  | k + 1, x1, x2, x10, x11, x12, x48, x49, x62 => if x62 = true then ((words_ahead.f k x10 x11).bind fun t220 => (if t220 = x12 then (if t220 = x1 then (some (0, 6)) else (some (t220, 0))) else (words_Move.l0 k x1 x2 x10 t220 x48 (wrap64 (x49 + 1))))) else ((words_behind_ends.f k x10 x11).bind fun t221 => (if t221 = x12 then (if t221 = x1 then (some (0, 6)) else (some (t221, 0))) else (words_Move.l0 k x1 x2 x10 t221 x48 (wrap64 (x49 + 1)))))
end
def words_Move.f (k : Nat) (a0 : ByteArray) (a1 : Int) (a2 : Int) (a3 : Int) : Option (Int × Int) := (text_May.f a0).bind fun t206 => (if t206 = true then (if a3 < 1 then (words_Move.j0 k a0 a1 a2 a3 true) else (if a3 > 999 then (words_Move.j0 k a0 a1 a2 a3 true) else (if a2 < 0 then (words_Move.j0 k a0 a1 a2 a3 true) else (if a2 > 127 then (words_Move.j0 k a0 a1 a2 a3 true) else ((strings_ContainsRune.f (⟨#[119, 98, 101, 87, 66, 69]⟩ : ByteArray) (wrap32 (a2))).bind fun t207 => (words_Move.j0 k a0 a1 a2 a3 (!t207))))))) else (words_Move.j0 k a0 a1 a2 a3 true))
theorem words_Move.mono_l : ∀ k, (∀ y0 y1 y2 y3 y4, LeO (words_Move.j0 k y0 y1 y2 y3 y4) (words_Move.j0 (k + 1) y0 y1 y2 y3 y4)) ∧ (∀ y0 y1 y2 y3 y4 y5, LeO (words_Move.l0 k y0 y1 y2 y3 y4 y5) (words_Move.l0 (k + 1) y0 y1 y2 y3 y4 y5)) ∧ (∀ y0 y1 y2 y3 y4 y5 y6 y7 y8, LeO (words_Move.j2 k y0 y1 y2 y3 y4 y5 y6 y7 y8) (words_Move.j2 (k + 1) y0 y1 y2 y3 y4 y5 y6 y7 y8)) ∧ (∀ y0 y1 y2 y3 y4 y5 y6 y7, LeO (words_Move.j3 k y0 y1 y2 y3 y4 y5 y6 y7) (words_Move.j3 (k + 1) y0 y1 y2 y3 y4 y5 y6 y7))
  | 0 => ⟨fun _ _ _ _ _ r h => by simp [words_Move.j0] at h, fun _ _ _ _ _ _ r h => by simp [words_Move.l0] at h, fun _ _ _ _ _ _ _ _ _ r h => by simp [words_Move.j2] at h, fun _ _ _ _ _ _ _ _ r h => by simp [words_Move.j3] at h⟩
  | k + 1 => by
    obtain ⟨ih0, ih1, ih2, ih3⟩ := words_Move.mono_l k
    refine ⟨?_, ?_, ?_, ?_⟩
    all_goals intros
    all_goals first | unfold words_Move.j0 | unfold words_Move.l0 | unfold words_Move.j2 | unfold words_Move.j3
    all_goals repeat' first | (with_reducible first | exact ih0 _ _ _ _ _ | exact ih1 _ _ _ _ _ _ | exact ih2 _ _ _ _ _ _ _ _ _ | exact ih3 _ _ _ _ _ _ _ _ | exact text_Of.mono _ _ | exact words_ahead.mono _ _ _ | exact words_behind_begins.mono _ _ _ | exact words_behind_ends.mono _ _ _ | exact words_cells.mono _ _ _ | exact LeO.refl _ | exact LeO.none _ | refine LeO.ite ?_ ?_ | refine LeO.bind ?_ (fun _ => ?_)) | exact ih0 _ _ _ _ _ | exact ih1 _ _ _ _ _ _ | exact ih2 _ _ _ _ _ _ _ _ _ | exact ih3 _ _ _ _ _ _ _ _ | exact text_Of.mono _ _ | exact words_ahead.mono _ _ _ | exact words_behind_begins.mono _ _ _ | exact words_behind_ends.mono _ _ _ | exact words_cells.mono _ _ _ | exact LeO.refl _ | exact LeO.none _ | refine LeO.ite ?_ ?_ | refine LeO.bind ?_ (fun _ => ?_)
theorem words_Move.mono : ∀ a0 a1 a2 a3 k, LeO (words_Move.f k a0 a1 a2 a3) (words_Move.f (k + 1) a0 a1 a2 a3) := by
  intro a0 a1 a2 a3 k
  obtain ⟨ih0, ih1, ih2, ih3⟩ := words_Move.mono_l k
  unfold words_Move.f
  repeat' first | (with_reducible first | exact ih0 _ _ _ _ _ | exact ih1 _ _ _ _ _ _ | exact ih2 _ _ _ _ _ _ _ _ _ | exact ih3 _ _ _ _ _ _ _ _ | exact text_Of.mono _ _ | exact words_ahead.mono _ _ _ | exact words_behind_begins.mono _ _ _ | exact words_behind_ends.mono _ _ _ | exact words_cells.mono _ _ _ | exact LeO.refl _ | exact LeO.none _ | refine LeO.ite ?_ ?_ | refine LeO.bind ?_ (fun _ => ?_)) | exact ih0 _ _ _ _ _ | exact ih1 _ _ _ _ _ _ | exact ih2 _ _ _ _ _ _ _ _ _ | exact ih3 _ _ _ _ _ _ _ _ | exact text_Of.mono _ _ | exact words_ahead.mono _ _ _ | exact words_behind_begins.mono _ _ _ | exact words_behind_ends.mono _ _ _ | exact words_cells.mono _ _ _ | exact LeO.refl _ | exact LeO.none _ | refine LeO.ite ?_ ?_ | refine LeO.bind ?_ (fun _ => ?_)
set_option maxHeartbeats 8000000 in
set_option maxRecDepth 100000 in
theorem words_Move.calls (k : Nat) (a0 : ByteArray) (a1 : Int) (a2 : Int) (a3 : Int) (r1 : Int) (r2 : Int) (w : World) (hT : Tabs w) (h : words_Move.f k a0 a1 a2 a3 = some (r1, r2)) :
  Calls Tryd.prog 88 #[.string a0, .int .i64 a1, .int .i64 a2, .int .i64 a3] w fun e w' => e = .returned (.tuple #[.int .i64 r1, .int .i64 r2]) ∧ Below w.heap.size w w' := by
 have HT := Aside0.mk hT
 clear hT
 have HB := Aside0.mk (Below.refl w.heap.size w)
 have H : ((text_May.f a0).bind fun t206 => (if t206 = true then (if a3 < 1 then (words_Move.j0 k a0 a1 a2 a3 true) else (if a3 > 999 then (words_Move.j0 k a0 a1 a2 a3 true) else (if a2 < 0 then (words_Move.j0 k a0 a1 a2 a3 true) else (if a2 > 127 then (words_Move.j0 k a0 a1 a2 a3 true) else ((strings_ContainsRune.f (⟨#[119, 98, 101, 87, 66, 69]⟩ : ByteArray) (wrap32 (a2))).bind fun t207 => (words_Move.j0 k a0 a1 a2 a3 (!t207))))))) else (words_Move.j0 k a0 a1 a2 a3 true))) = some (r1, r2) := h
 clear h
 have HC5 := Aside0.mk H
 clear H
 go_enter Tryd.func88, Tryd.ntmps88
 go_upto_region 1 with (fail)
 go_cut [37] (fun v37 wc => ∃ (kq : Nat) (x37_4 : Bool), v37 = .bool x37_4 ∧ Aside0 (words_Move.j0 kq a0 a1 a2 a3 x37_4 = some (r1, r2)) ∧ Aside0 (kq ≤ k) ∧ Aside0 (Below w.heap.size w wc))
 case first =>
  have H := HC5.out
  clear HC5
  replace H := Option.bind_eq_some_iff.mp H
  obtain ⟨t206, A60, H⟩ := H
  (try dsimp only at H)
  have A6 := Aside0.mk A60
  clear A60
  by_cases c7 : t206 = true
  rotate_left
  ·
   replace c7 := Bool.eq_false_iff.mpr c7
   subst c7
   have H1 : (words_Move.j0 k a0 a1 a2 a3 true) = some (r1, r2) := by rw [if_neg (show ¬ (false = true) by decide)] at H; exact H
   clear H
   have H := H1
   clear H1
   have H' := Aside0.mk H
   clear H
   go_wp2_with (first | ((with_reducible refine gate_callee (f := 27) rfl ?_); refine goesL_ (some 14) rfl rfl Tryd.func27 (by kernel_rfl) rfl #[.string a0] rfl (map1 rfl) ?_; (with_reducible refine (text_May.calls a0 false _ ?side1 A6.out).mono ?_); (case side1 => exact Tabs.below HT.out (by repeat with_reducible first | exact HB.out | apply pw_below_drewN | apply below_drew1 | apply below_alloc)); rintro e w18 ⟨rfl, hb⟩; refine ⟨_, rfl, ?_⟩; have n0_ := Aside0.mk (below_step (by repeat with_reducible first | exact HB.out | apply pw_below_drewN | apply below_drew1 | apply below_alloc) hb); clear HB; have HB := n0_; clear n0_; (try clear hb); (try clear hb2); (try clear hk); (try clear hi)))
   go_meet
   case rel => exact ⟨_, (true), (by first | rfl | (simp; done) | (simp [*]; done)), H', ⟨by first | omega | exact Nat.le_refl _⟩, ⟨by repeat with_reducible first | exact HB.out | apply pw_below_drewN | apply below_drew1 | apply below_alloc⟩⟩
  subst c7
  have H1 : (if a3 < 1 then (words_Move.j0 k a0 a1 a2 a3 true) else (if a3 > 999 then (words_Move.j0 k a0 a1 a2 a3 true) else (if a2 < 0 then (words_Move.j0 k a0 a1 a2 a3 true) else (if a2 > 127 then (words_Move.j0 k a0 a1 a2 a3 true) else ((strings_ContainsRune.f (⟨#[119, 98, 101, 87, 66, 69]⟩ : ByteArray) (wrap32 (a2))).bind fun t207 => (words_Move.j0 k a0 a1 a2 a3 (!t207))))))) = some (r1, r2) := by rw [if_pos rfl] at H; exact H
  clear H
  have H := H1
  clear H1
  by_cases c8 : a3 < 1
  ·
   rw [if_pos c8] at H
   have c8b0 := decide_eq_true c8
   clear c8
   (first | rw [c8b0] | (simp only [i64_w, i32_w]; rw [c8b0]) | skip)
   have H' := Aside0.mk H
   clear H
   go_wp2_with (first | ((with_reducible refine gate_callee (f := 27) rfl ?_); refine goesL_ (some 14) rfl rfl Tryd.func27 (by kernel_rfl) rfl #[.string a0] rfl (map1 rfl) ?_; (with_reducible refine (text_May.calls a0 true _ ?side1 A6.out).mono ?_); (case side1 => exact Tabs.below HT.out (by repeat with_reducible first | exact HB.out | apply pw_below_drewN | apply below_drew1 | apply below_alloc)); rintro e w9 ⟨rfl, hb⟩; refine ⟨_, rfl, ?_⟩; have n0_ := Aside0.mk (below_step (by repeat with_reducible first | exact HB.out | apply pw_below_drewN | apply below_drew1 | apply below_alloc) hb); clear HB; have HB := n0_; clear n0_; (try clear hb); (try clear hb2); (try clear hk); (try clear hi)))
   go_meet
   case rel => exact ⟨_, (true), (by first | rfl | (simp; done) | (simp [*]; done)), H', ⟨by first | omega | exact Nat.le_refl _⟩, ⟨by repeat with_reducible first | exact HB.out | apply pw_below_drewN | apply below_drew1 | apply below_alloc⟩⟩
  rw [if_neg c8] at H
  have c8b0 := decide_eq_false c8
  clear c8
  (first | rw [c8b0] | (simp only [i64_w, i32_w]; rw [c8b0]) | skip)
  by_cases c10 : a3 > 999
  ·
   rw [if_pos c10] at H
   have c10b0 := decide_eq_true c10
   clear c10
   have H' := Aside0.mk H
   clear H
   go_wp2_with (first | ((with_reducible refine gate_callee (f := 27) rfl ?_); refine goesL_ (some 14) rfl rfl Tryd.func27 (by kernel_rfl) rfl #[.string a0] rfl (map1 rfl) ?_; (with_reducible refine (text_May.calls a0 true _ ?side1 A6.out).mono ?_); (case side1 => exact Tabs.below HT.out (by repeat with_reducible first | exact HB.out | apply pw_below_drewN | apply below_drew1 | apply below_alloc)); rintro e w11 ⟨rfl, hb⟩; refine ⟨_, rfl, ?_⟩; have n0_ := Aside0.mk (below_step (by repeat with_reducible first | exact HB.out | apply pw_below_drewN | apply below_drew1 | apply below_alloc) hb); clear HB; have HB := n0_; clear n0_; (try clear hb); (try clear hb2); (try clear hk); (try clear hi)))
   go_meet
   case rel => exact ⟨_, (true), (by first | rfl | (simp; done) | (simp [*]; done)), H', ⟨by first | omega | exact Nat.le_refl _⟩, ⟨by repeat with_reducible first | exact HB.out | apply pw_below_drewN | apply below_drew1 | apply below_alloc⟩⟩
  rw [if_neg c10] at H
  have c10b0 := decide_eq_false c10
  clear c10
  by_cases c12 : a2 < 0
  ·
   rw [if_pos c12] at H
   have c12b0 := decide_eq_true c12
   clear c12
   have H' := Aside0.mk H
   clear H
   go_wp2_with (first | ((with_reducible refine gate_callee (f := 27) rfl ?_); refine goesL_ (some 14) rfl rfl Tryd.func27 (by kernel_rfl) rfl #[.string a0] rfl (map1 rfl) ?_; (with_reducible refine (text_May.calls a0 true _ ?side1 A6.out).mono ?_); (case side1 => exact Tabs.below HT.out (by repeat with_reducible first | exact HB.out | apply pw_below_drewN | apply below_drew1 | apply below_alloc)); rintro e w13 ⟨rfl, hb⟩; refine ⟨_, rfl, ?_⟩; have n0_ := Aside0.mk (below_step (by repeat with_reducible first | exact HB.out | apply pw_below_drewN | apply below_drew1 | apply below_alloc) hb); clear HB; have HB := n0_; clear n0_; (try clear hb); (try clear hb2); (try clear hk); (try clear hi)))
   go_meet
   case rel => exact ⟨_, (true), (by first | rfl | (simp; done) | (simp [*]; done)), H', ⟨by first | omega | exact Nat.le_refl _⟩, ⟨by repeat with_reducible first | exact HB.out | apply pw_below_drewN | apply below_drew1 | apply below_alloc⟩⟩
  rw [if_neg c12] at H
  have c12b0 := decide_eq_false c12
  clear c12
  by_cases c14 : a2 > 127
  ·
   rw [if_pos c14] at H
   have c14b0 := decide_eq_true c14
   clear c14
   have H' := Aside0.mk H
   clear H
   go_wp2_with (first | ((with_reducible refine gate_callee (f := 27) rfl ?_); refine goesL_ (some 14) rfl rfl Tryd.func27 (by kernel_rfl) rfl #[.string a0] rfl (map1 rfl) ?_; (with_reducible refine (text_May.calls a0 true _ ?side1 A6.out).mono ?_); (case side1 => exact Tabs.below HT.out (by repeat with_reducible first | exact HB.out | apply pw_below_drewN | apply below_drew1 | apply below_alloc)); rintro e w15 ⟨rfl, hb⟩; refine ⟨_, rfl, ?_⟩; have n0_ := Aside0.mk (below_step (by repeat with_reducible first | exact HB.out | apply pw_below_drewN | apply below_drew1 | apply below_alloc) hb); clear HB; have HB := n0_; clear n0_; (try clear hb); (try clear hb2); (try clear hk); (try clear hi)))
   go_meet
   case rel => exact ⟨_, (true), (by first | rfl | (simp; done) | (simp [*]; done)), H', ⟨by first | omega | exact Nat.le_refl _⟩, ⟨by repeat with_reducible first | exact HB.out | apply pw_below_drewN | apply below_drew1 | apply below_alloc⟩⟩
  rw [if_neg c14] at H
  have c14b0 := decide_eq_false c14
  clear c14
  replace H := Option.bind_eq_some_iff.mp H
  obtain ⟨t207, A160, H⟩ := H
  (try dsimp only at H)
  have A16 := Aside0.mk A160
  clear A160
  have H' := Aside0.mk H
  clear H
  go_wp2_with (first | ((with_reducible refine gate_callee (f := 27) rfl ?_); refine goesL_ (some 14) rfl rfl Tryd.func27 (by kernel_rfl) rfl #[.string a0] rfl (map1 rfl) ?_; (with_reducible refine (text_May.calls a0 true _ ?side1 A6.out).mono ?_); (case side1 => exact Tabs.below HT.out (by repeat with_reducible first | exact HB.out | apply pw_below_drewN | apply below_drew1 | apply below_alloc)); rintro e w17 ⟨rfl, hb⟩; refine ⟨_, rfl, ?_⟩; have n0_ := Aside0.mk (below_step (by repeat with_reducible first | exact HB.out | apply pw_below_drewN | apply below_drew1 | apply below_alloc) hb); clear HB; have HB := n0_; clear n0_; (try clear hb); (try clear hb2); (try clear hk); (try clear hi)) | (go_at_call 102; (with_reducible refine (strings_ContainsRune.calls (⟨#[119, 98, 101, 87, 66, 69]⟩ : ByteArray) (wrap32 (a2)) t207 _ A16.out).mono ?_); rintro e w' ⟨rfl, ⟨nd, rfl⟩⟩))
  go_meet
  case rel => exact ⟨_, (!t207), (by first | rfl | (simp; done) | (simp [*]; done)), H', ⟨by first | omega | exact Nat.le_refl _⟩, ⟨by repeat with_reducible first | exact HB.out | apply pw_below_drewN | apply below_drew1 | apply below_alloc⟩⟩
 case rest =>
  clear HC5
  obtain ⟨kq, x37_4, rfl, HA, HJ4, HB⟩ := hcut
  cases kq with
  | zero => exact absurd HA.out (by simp [words_Move.j0])
  | succ kj4 =>
   have H := HA.out
   clear HA
   simp only [words_Move.j0] at H
   by_cases c19 : x37_4 = true
   ·
    subst c19
    have H1 : (some (0, 1)) = some (r1, r2) := by rw [if_pos rfl] at H; exact H
    clear H
    have H := H1
    clear H1
    simp only [Option.some.injEq, Prod.mk.injEq] at H
    obtain ⟨rfl, rfl⟩ := H
    go_wp2
    go_ret2
    exact ⟨by first | rfl | (simp [errW_none, errW_some] <;> rfl) | (simp [*, errW_none, errW_some] <;> rfl), by repeat with_reducible first | exact HB.out | apply pw_below_drewN | apply below_drew1 | apply below_alloc⟩
   replace c19 := Bool.eq_false_iff.mpr c19
   subst c19
   have H1 : ((text_Of.f kj4 a0).bind fun bt208 => ((text_Map_Is.f bt208.1 bt208.2 a1).bind fun t215 => (if t215 = true then ((words_cells.f kj4 a0 (decide (a2 < 97))).bind fun t216 => (words_Move.l0 kj4 a1 a2 t216 a1 a3 0)) else (some (0, 1))))) = some (r1, r2) := by rw [if_neg (show ¬ (false = true) by decide)] at H; exact H
   clear H
   have H := H1
   clear H1
   replace H := Option.bind_eq_some_iff.mp H
   obtain ⟨⟨t208, t211⟩, A200, H⟩ := H
   (try dsimp only at H)
   have A20 := Aside0.mk A200
   clear A200
   replace H := Option.bind_eq_some_iff.mp H
   obtain ⟨t215, A210, H⟩ := H
   (try dsimp only at H)
   have A21 := Aside0.mk A210
   clear A210
   by_cases c22 : t215 = true
   rotate_left
   ·
    replace c22 := Bool.eq_false_iff.mpr c22
    subst c22
    have H1 : (some (0, 1)) = some (r1, r2) := by rw [if_neg (show ¬ (false = true) by decide)] at H; exact H
    clear H
    have H := H1
    clear H1
    simp only [Option.some.injEq, Prod.mk.injEq] at H
    obtain ⟨rfl, rfl⟩ := H
    go_wp2_with (first | ((with_reducible refine gate_callee (f := 28) rfl ?_); refine goesL_ (some 39) rfl rfl Tryd.func28 (by kernel_rfl) rfl #[.string a0] rfl (map1 rfl) ?_; (with_reducible refine (text_Of.calls kj4 a0 t208 t211 _ A20.out).mono ?_); rintro e w60 ⟨v209, v212, gb214, rfl, ho0, ho1, ⟨hx214_, hz214_⟩, hb⟩; refine ⟨_, rfl, ?_⟩; have n0_ := Aside0.mk (Kd.R_lower ho0 (below_size (by repeat with_reducible first | exact HB.out | apply pw_below_drewN | apply below_drew1 | apply below_alloc))); have n1_ := Aside0.mk (Kd.R_lower ho1 (below_size (by repeat with_reducible first | exact HB.out | apply pw_below_drewN | apply below_drew1 | apply below_alloc))); have n2_ := Aside0.mk (hx214_); have n3_ := Aside0.mk ((Nat.le_trans (below_size (by repeat with_reducible first | exact HB.out | apply pw_below_drewN | apply below_drew1 | apply below_alloc)) hz214_ : w.heap.size ≤ gb214)); have n4_ := Aside0.mk ((Nat.le_trans (below_size (by repeat with_reducible first | exact HB.out | apply pw_below_drewN | apply below_drew1 | apply below_alloc)) hz214_ : w.heap.size ≤ gb214)); have n5_ := Aside0.mk (below_step (by repeat with_reducible first | exact HB.out | apply pw_below_drewN | apply below_drew1 | apply below_alloc) hb); clear HB; have HO210 := n0_; have HO213 := n1_; have BK214 := n2_; have GW214 := n3_; have GE214 := n4_; have HB := n5_; clear n0_ n1_ n2_ n3_ n4_ n5_; (try clear hb); (try clear hb2); (try clear hk); (try clear hi); (try clear ho0); (try clear ho1); (try clear hx214_ hz214_); obtain ⟨Ao61, co61, eo61⟩ := Kd.R_slice HO210.out; subst eo61; obtain ⟨Ao62, co62, eo62⟩ := Kd.R_slice HO213.out; subst eo62) | ((with_reducible refine gate_callee (f := 29) rfl ?_); refine goesL_ (some 41) rfl rfl Tryd.func29 (by kernel_rfl) rfl #[.pointer (some ⟨gb214, 0, none⟩), .int .i64 a1] rfl (map2 rfl rfl) ?_; (with_reducible refine (text_Map_Is.calls gb214 Ao61 co61 t208 Ao62 co62 t211 a1 false _ ?side1 ?side2 ?side3 ?side4 ?side5 A21.out).mono ?_); (case side1 => exact BK214.out); (case side2 => repeat (first | exact (Kd.R_reads' HO210.out).2.2 | with_reducible first | refine Kd.C_drewN ?_ _ | refine Kd.C_drew ?_ | refine Kd.C_alloc ?_ _)); (case side3 => exact (Kd.R_reads' HO210.out).2.1); (case side4 => repeat (first | exact (Kd.R_reads' HO213.out).2.2 | with_reducible first | refine Kd.C_drewN ?_ _ | refine Kd.C_drew ?_ | refine Kd.C_alloc ?_ _)); (case side5 => exact (Kd.R_reads' HO213.out).2.1); rintro e w' ⟨rfl, ⟨nd, rfl⟩⟩; refine ⟨_, rfl, ?_⟩))
    go_ret2
    exact ⟨by first | rfl | (simp [errW_none, errW_some] <;> rfl) | (simp [*, errW_none, errW_some] <;> rfl), by repeat with_reducible first | exact HB.out | apply pw_below_drewN | apply below_drew1 | apply below_alloc⟩
   subst c22
   have H1 : ((words_cells.f kj4 a0 (decide (a2 < 97))).bind fun t216 => (words_Move.l0 kj4 a1 a2 t216 a1 a3 0)) = some (r1, r2) := by rw [if_pos rfl] at H; exact H
   clear H
   have H := H1
   clear H1
   replace H := Option.bind_eq_some_iff.mp H
   obtain ⟨t216, A230, H⟩ := H
   (try dsimp only at H)
   have A23 := Aside0.mk A230
   clear A230
   have H' := Aside0.mk H
   clear H
   go_wp2_with (first | ((with_reducible refine gate_callee (f := 28) rfl ?_); refine goesL_ (some 39) rfl rfl Tryd.func28 (by kernel_rfl) rfl #[.string a0] rfl (map1 rfl) ?_; (with_reducible refine (text_Of.calls kj4 a0 t208 t211 _ A20.out).mono ?_); rintro e w24 ⟨v209, v212, gb214, rfl, ho0, ho1, ⟨hx214_, hz214_⟩, hb⟩; refine ⟨_, rfl, ?_⟩; have n0_ := Aside0.mk (Kd.R_lower ho0 (below_size (by repeat with_reducible first | exact HB.out | apply pw_below_drewN | apply below_drew1 | apply below_alloc))); have n1_ := Aside0.mk (Kd.R_lower ho1 (below_size (by repeat with_reducible first | exact HB.out | apply pw_below_drewN | apply below_drew1 | apply below_alloc))); have n2_ := Aside0.mk (hx214_); have n3_ := Aside0.mk ((Nat.le_trans (below_size (by repeat with_reducible first | exact HB.out | apply pw_below_drewN | apply below_drew1 | apply below_alloc)) hz214_ : w.heap.size ≤ gb214)); have n4_ := Aside0.mk ((Nat.le_trans (below_size (by repeat with_reducible first | exact HB.out | apply pw_below_drewN | apply below_drew1 | apply below_alloc)) hz214_ : w.heap.size ≤ gb214)); have n5_ := Aside0.mk (below_step (by repeat with_reducible first | exact HB.out | apply pw_below_drewN | apply below_drew1 | apply below_alloc) hb); clear HB; have HO210 := n0_; have HO213 := n1_; have BK214 := n2_; have GW214 := n3_; have GE214 := n4_; have HB := n5_; clear n0_ n1_ n2_ n3_ n4_ n5_; (try clear hb); (try clear hb2); (try clear hk); (try clear hi); (try clear ho0); (try clear ho1); (try clear hx214_ hz214_); obtain ⟨Ao25, co25, eo25⟩ := Kd.R_slice HO210.out; subst eo25; obtain ⟨Ao26, co26, eo26⟩ := Kd.R_slice HO213.out; subst eo26) | ((with_reducible refine gate_callee (f := 29) rfl ?_); refine goesL_ (some 41) rfl rfl Tryd.func29 (by kernel_rfl) rfl #[.pointer (some ⟨gb214, 0, none⟩), .int .i64 a1] rfl (map2 rfl rfl) ?_; (with_reducible refine (text_Map_Is.calls gb214 Ao25 co25 t208 Ao26 co26 t211 a1 true _ ?side1 ?side2 ?side3 ?side4 ?side5 A21.out).mono ?_); (case side1 => exact BK214.out); (case side2 => repeat (first | exact (Kd.R_reads' HO210.out).2.2 | with_reducible first | refine Kd.C_drewN ?_ _ | refine Kd.C_drew ?_ | refine Kd.C_alloc ?_ _)); (case side3 => exact (Kd.R_reads' HO210.out).2.1); (case side4 => repeat (first | exact (Kd.R_reads' HO213.out).2.2 | with_reducible first | refine Kd.C_drewN ?_ _ | refine Kd.C_drew ?_ | refine Kd.C_alloc ?_ _)); (case side5 => exact (Kd.R_reads' HO213.out).2.1); rintro e w' ⟨rfl, ⟨nd, rfl⟩⟩; refine ⟨_, rfl, ?_⟩) | ((with_reducible refine gate_callee (f := 112) rfl ?_); refine goesL_ (some 46) rfl rfl Tryd.func112 (by kernel_rfl) rfl #[.string a0, .bool (decide (a2 < 97))] rfl (map2 rfl rfl) ?_; (with_reducible refine (words_cells.calls kj4 a0 (decide (a2 < 97)) t216 _ A23.out).mono ?_); rintro e w27 ⟨v217, rfl, ho0, hb⟩; refine ⟨_, rfl, ?_⟩; have n0_ := Aside0.mk (Kd.R_below (by (with_reducible repeat (first | apply Kd.R_alloc | apply Kd.R_drewN | apply Kd.R_drew)); exact HO210.out) hb); have n1_ := Aside0.mk (Kd.R_below (by (with_reducible repeat (first | apply Kd.R_alloc | apply Kd.R_drewN | apply Kd.R_drew)); exact HO213.out) hb); have n2_ := Aside0.mk (Kd.R_lower ho0 (below_size (by repeat with_reducible first | exact HB.out | apply pw_below_drewN | apply below_drew1 | apply below_alloc))); have n3_ := Aside0.mk (blb hb BK214.out); have n4_ := Aside0.mk (below_step (by repeat with_reducible first | exact HB.out | apply pw_below_drewN | apply below_drew1 | apply below_alloc) hb); clear HO210; clear HO213; clear BK214; clear HB; have HO210 := n0_; have HO213 := n1_; have HO218 := n2_; have BK214 := n3_; have HB := n4_; clear n0_ n1_ n2_ n3_ n4_; (try clear hb); (try clear hb2); (try clear hk); (try clear hi); (try clear ho0)))
   go_loopg [11, 49] kj4 (fun kq v11 v49 w' => ∃ (x11_2 : Int) (x49_2 : Int), v11 = .int .i64 x11_2 ∧ v49 = .int .i64 x49_2 ∧ Aside0 (words_Move.l0 kq a1 a2 t216 x11_2 a3 x49_2 = some (r1, r2)) ∧ Aside0 (kq ≤ kj4) ∧ Aside0 (Kd.R k142 142 w' w.heap.size (fun _ => True) v217 t216) ∧ Aside0 (Kd.R (Kd.int .i32) 21 w' w.heap.size (fun _ => True) (.slice Ao25 t208.length co25) t208) ∧ Aside0 (Kd.R (Kd.int .i64) 3 w' w.heap.size (fun _ => True) (.slice Ao26 t211.length co26) t211) ∧ Aside0 (w'.heap[gb214]? = some (.cells #[(.slice Ao25 t208.length co25), (.slice Ao26 t211.length co26)] 79 (0, 0))) ∧ Aside0 (Below w.heap.size w w'))
   case atStart => exact ⟨(a1), (0), (by first | rfl | (simp; done) | (simp [*]; done)), (by first | rfl | (simp; done) | (simp [*]; done)), H', ⟨Nat.le_refl _⟩, ⟨by (with_reducible repeat (first | apply Kd.R_alloc | apply Kd.R_drewN | apply Kd.R_drew)); exact HO218.out⟩, ⟨by (with_reducible repeat (first | apply Kd.R_alloc | apply Kd.R_drewN | apply Kd.R_drew)); exact HO210.out⟩, ⟨by (with_reducible repeat (first | apply Kd.R_alloc | apply Kd.R_drewN | apply Kd.R_drew)); exact HO213.out⟩, ⟨BK214.out⟩, ⟨by repeat with_reducible first | exact HB.out | apply pw_below_drewN | apply below_drew1 | apply below_alloc⟩⟩
   case round =>
    clear H'
    try clear c19
    try clear c22
    obtain ⟨x11_2, x49_2, rfl, rfl, HA, HK2, HO_10, HO_215000, HO_215001, BK214, HB⟩ := hrel
    cases gk with
    | zero => exact absurd HA.out (by simp [words_Move.l0])
    | succ k2 =>
     have H := HA.out
     clear HA
     simp only [words_Move.l0] at H
     by_cases c28 : x49_2 < a3
     rotate_left
     ·
      rw [if_neg c28] at H
      have c28b0 := decide_eq_false c28
      clear c28
      by_cases c59 : x11_2 = a1
      rotate_left
      ·
       rw [if_neg c59] at H
       have c59b0 : (x11_2 == a1) = false := beq_eq_false_iff_ne.mpr c59
       have c59b1 : (x11_2 != a1) = true := bne_iff_ne.mpr c59
       simp only [Option.some.injEq, Prod.mk.injEq] at H
       obtain ⟨rfl, rfl⟩ := H
       go_wp2
       go_ret2
       exact ⟨by first | rfl | (simp [errW_none, errW_some] <;> rfl) | (simp [*, errW_none, errW_some] <;> rfl), by repeat with_reducible first | exact HB.out | apply pw_below_drewN | apply below_drew1 | apply below_alloc⟩
      rw [if_pos c59] at H
      have c59b0 : (x11_2 == a1) = true := beq_iff_eq.mpr c59
      have c59b1 : (x11_2 != a1) = false := bne_eq_false_iff_eq.mpr c59
      clear c59
      simp only [Option.some.injEq, Prod.mk.injEq] at H
      obtain ⟨rfl, rfl⟩ := H
      go_wp2
      go_ret2
      exact ⟨by first | rfl | (simp [errW_none, errW_some] <;> rfl) | (simp [*, errW_none, errW_some] <;> rfl), by repeat with_reducible first | exact HB.out | apply pw_below_drewN | apply below_drew1 | apply below_alloc⟩
     rw [if_pos c28] at H
     have c28b0 := decide_eq_true c28
     clear c28
     have HC29 := Aside0.mk H
     clear H
     go_upto_if 56 with (fail)
     go_cut [56] (fun v56 wc => ∃ (kq : Nat) (x56_28 : Bool), v56 = .bool x56_28 ∧ Aside0 (words_Move.j2 kq a1 a2 t216 x11_2 x11_2 a3 x49_2 a2 x56_28 = some (r1, r2)) ∧ Aside0 (kq ≤ k2) ∧ Aside0 (Kd.R k142 142 wc w.heap.size (fun _ => True) v217 t216) ∧ Aside0 (Kd.R (Kd.int .i32) 21 wc w.heap.size (fun _ => True) (.slice Ao25 t208.length co25) t208) ∧ Aside0 (Kd.R (Kd.int .i64) 3 wc w.heap.size (fun _ => True) (.slice Ao26 t211.length co26) t211) ∧ Aside0 (wc.heap[gb214]? = some (.cells #[(.slice Ao25 t208.length co25), (.slice Ao26 t211.length co26)] 79 (0, 0))) ∧ Aside0 (Below w.heap.size w wc))
     case first =>
      have H := HC29.out
      clear HC29
      by_cases c30 : a2 = 119
      rotate_left
      ·
       rw [if_neg c30] at H
       have c30b0 : (a2 == 119) = false := beq_eq_false_iff_ne.mpr c30
       have c30b1 : (a2 != 119) = true := bne_iff_ne.mpr c30
       (first | rw [c30b0] | (simp only [i64_w, i32_w]; rw [c30b0]) | skip)
       have H' := Aside0.mk H
       clear H
       go_wp2
       go_meet
       case rel => exact ⟨_, ((a2 == 87)), (by first | rfl | (simp; done) | (simp [*]; done)), H', ⟨by have := HJ4.out; have := HK2.out; first | omega | exact Nat.le_refl _⟩, ⟨by (with_reducible repeat (first | apply Kd.R_alloc | apply Kd.R_drewN | apply Kd.R_drew)); exact HO_10.out⟩, ⟨by (with_reducible repeat (first | apply Kd.R_alloc | apply Kd.R_drewN | apply Kd.R_drew)); exact HO_215000.out⟩, ⟨by (with_reducible repeat (first | apply Kd.R_alloc | apply Kd.R_drewN | apply Kd.R_drew)); exact HO_215001.out⟩, ⟨BK214.out⟩, ⟨by repeat with_reducible first | exact HB.out | apply pw_below_drewN | apply below_drew1 | apply below_alloc⟩⟩
      rw [if_pos c30] at H
      have c30b0 : (a2 == 119) = true := beq_iff_eq.mpr c30
      have c30b1 : (a2 != 119) = false := bne_eq_false_iff_eq.mpr c30
      clear c30
      (first | rw [c30b0] | (simp only [i64_w, i32_w]; rw [c30b0]) | skip)
      have H' := Aside0.mk H
      clear H
      go_wp2
      go_meet
      case rel => exact ⟨_, ((a2 == 119)), (by first | rfl | (simp; done) | (simp [*]; done)), H', ⟨by have := HJ4.out; have := HK2.out; first | omega | exact Nat.le_refl _⟩, ⟨by (with_reducible repeat (first | apply Kd.R_alloc | apply Kd.R_drewN | apply Kd.R_drew)); exact HO_10.out⟩, ⟨by (with_reducible repeat (first | apply Kd.R_alloc | apply Kd.R_drewN | apply Kd.R_drew)); exact HO_215000.out⟩, ⟨by (with_reducible repeat (first | apply Kd.R_alloc | apply Kd.R_drewN | apply Kd.R_drew)); exact HO_215001.out⟩, ⟨BK214.out⟩, ⟨by repeat with_reducible first | exact HB.out | apply pw_below_drewN | apply below_drew1 | apply below_alloc⟩⟩
     case rest =>
      clear HC29
      try clear c19
      try clear c22
      try clear c28
      try clear c28b0
      obtain ⟨kq, x56_28, rfl, HA, HJ28, HO_10, HO_215000, HO_215001, BK214, HB⟩ := hcut
      cases kq with
      | zero => exact absurd HA.out (by simp [words_Move.j2])
      | succ kj28 =>
       have H := HA.out
       clear HA
       simp only [words_Move.j2] at H
       by_cases c31 : x56_28 = true
       ·
        subst c31
        have H1 : ((words_behind_begins.f kj28 t216 x11_2).bind fun t219 => (if t219 = x11_2 then (if t219 = a1 then (some (0, 6)) else (some (t219, 0))) else (words_Move.l0 kj28 a1 a2 t216 t219 a3 (wrap64 (x49_2 + 1))))) = some (r1, r2) := by rw [if_pos rfl] at H; exact H
        clear H
        have H := H1
        clear H1
        replace H := Option.bind_eq_some_iff.mp H
        obtain ⟨t219, A320, H⟩ := H
        (try dsimp only at H)
        have A32 := Aside0.mk A320
        clear A320
        by_cases c33 : t219 = x11_2
        rotate_left
        ·
         rw [if_neg c33] at H
         have c33b0 : (t219 == x11_2) = false := beq_eq_false_iff_ne.mpr c33
         have c33b1 : (t219 != x11_2) = true := bne_iff_ne.mpr c33
         have H' := Aside0.mk H
         clear H
         obtain ⟨Ao39, co39, eo39⟩ := Kd.R_slice HO_10.out
         subst eo39
         go_wp2_with (first | ((with_reducible refine gate_callee (f := 113) rfl ?_); refine goesL_ (some 61) rfl rfl Tryd.func113 (by kernel_rfl) rfl #[.slice Ao39 t216.length co39, .int .i64 x11_2, .func (.func 114) #[] #[]] rfl (map3 rfl rfl rfl) ?_; (with_reducible refine (words_behind_begins.calls kj28 _ _ t216 x11_2 t219 _ ?side1 ?side2 A32.out).mono ?_); (case side1 => repeat (first | exact (Kd.R_reads' HO_10.out).2.2 | with_reducible first | refine Kd.C_drewN ?_ _ | refine Kd.C_drew ?_ | refine Kd.C_alloc ?_ _)); (case side2 => exact (Kd.R_reads' HO_10.out).2.1); rintro e w40 ⟨rfl, hb⟩; refine ⟨_, rfl, ?_⟩; have n0_ := Aside0.mk (Kd.R_below (by (with_reducible repeat (first | apply Kd.R_alloc | apply Kd.R_drewN | apply Kd.R_drew)); exact HO_10.out) hb); have n1_ := Aside0.mk (Kd.R_below (by (with_reducible repeat (first | apply Kd.R_alloc | apply Kd.R_drewN | apply Kd.R_drew)); exact HO_215000.out) hb); have n2_ := Aside0.mk (Kd.R_below (by (with_reducible repeat (first | apply Kd.R_alloc | apply Kd.R_drewN | apply Kd.R_drew)); exact HO_215001.out) hb); have n3_ := Aside0.mk (blb hb BK214.out); have n4_ := Aside0.mk (below_step (by repeat with_reducible first | exact HB.out | apply pw_below_drewN | apply below_drew1 | apply below_alloc) hb); clear HO_10; clear HO_215000; clear HO_215001; clear BK214; clear HB; have HO_10 := n0_; have HO_215000 := n1_; have HO_215001 := n2_; have BK214 := n3_; have HB := n4_; clear n0_ n1_ n2_ n3_ n4_; (try clear hb); (try clear hb2); (try clear hk); (try clear hi)))
         go_roundg kj28
         case measure => have := HJ4.out; have := HK2.out; have := HJ28.out; omega
         case rel => exact ⟨(t219), (wrap64 (x49_2 + 1)), (by first | rfl | (simp; done) | (simp [*]; done)), (by first | rfl | (simp; done) | (simp [*]; done)), H', ⟨by have := HJ4.out; have := HK2.out; have := HJ28.out; omega⟩, ⟨by (with_reducible repeat (first | apply Kd.R_alloc | apply Kd.R_drewN | apply Kd.R_drew)); exact HO_10.out⟩, ⟨by (with_reducible repeat (first | apply Kd.R_alloc | apply Kd.R_drewN | apply Kd.R_drew)); exact HO_215000.out⟩, ⟨by (with_reducible repeat (first | apply Kd.R_alloc | apply Kd.R_drewN | apply Kd.R_drew)); exact HO_215001.out⟩, ⟨BK214.out⟩, ⟨by repeat with_reducible first | exact HB.out | apply pw_below_drewN | apply below_drew1 | apply below_alloc⟩⟩
        rw [if_pos c33] at H
        have c33b0 : (t219 == x11_2) = true := beq_iff_eq.mpr c33
        have c33b1 : (t219 != x11_2) = false := bne_eq_false_iff_eq.mpr c33
        clear c33
        by_cases c34 : t219 = a1
        rotate_left
        ·
         rw [if_neg c34] at H
         have c34b0 : (t219 == a1) = false := beq_eq_false_iff_ne.mpr c34
         have c34b1 : (t219 != a1) = true := bne_iff_ne.mpr c34
         simp only [Option.some.injEq, Prod.mk.injEq] at H
         obtain ⟨rfl, rfl⟩ := H
         obtain ⟨Ao37, co37, eo37⟩ := Kd.R_slice HO_10.out
         subst eo37
         go_wp2_with (first | ((with_reducible refine gate_callee (f := 113) rfl ?_); refine goesL_ (some 61) rfl rfl Tryd.func113 (by kernel_rfl) rfl #[.slice Ao37 t216.length co37, .int .i64 x11_2, .func (.func 114) #[] #[]] rfl (map3 rfl rfl rfl) ?_; (with_reducible refine (words_behind_begins.calls kj28 _ _ t216 x11_2 t219 _ ?side1 ?side2 A32.out).mono ?_); (case side1 => repeat (first | exact (Kd.R_reads' HO_10.out).2.2 | with_reducible first | refine Kd.C_drewN ?_ _ | refine Kd.C_drew ?_ | refine Kd.C_alloc ?_ _)); (case side2 => exact (Kd.R_reads' HO_10.out).2.1); rintro e w38 ⟨rfl, hb⟩; refine ⟨_, rfl, ?_⟩; have n0_ := Aside0.mk (Kd.R_below (by (with_reducible repeat (first | apply Kd.R_alloc | apply Kd.R_drewN | apply Kd.R_drew)); exact HO_10.out) hb); have n1_ := Aside0.mk (Kd.R_below (by (with_reducible repeat (first | apply Kd.R_alloc | apply Kd.R_drewN | apply Kd.R_drew)); exact HO_215000.out) hb); have n2_ := Aside0.mk (Kd.R_below (by (with_reducible repeat (first | apply Kd.R_alloc | apply Kd.R_drewN | apply Kd.R_drew)); exact HO_215001.out) hb); have n3_ := Aside0.mk (blb hb BK214.out); have n4_ := Aside0.mk (below_step (by repeat with_reducible first | exact HB.out | apply pw_below_drewN | apply below_drew1 | apply below_alloc) hb); clear HO_10; clear HO_215000; clear HO_215001; clear BK214; clear HB; have HO_10 := n0_; have HO_215000 := n1_; have HO_215001 := n2_; have BK214 := n3_; have HB := n4_; clear n0_ n1_ n2_ n3_ n4_; (try clear hb); (try clear hb2); (try clear hk); (try clear hi)))
         go_ret2
         exact ⟨by first | rfl | (simp [errW_none, errW_some] <;> rfl) | (simp [*, errW_none, errW_some] <;> rfl), by repeat with_reducible first | exact HB.out | apply pw_below_drewN | apply below_drew1 | apply below_alloc⟩
        rw [if_pos c34] at H
        have c34b0 : (t219 == a1) = true := beq_iff_eq.mpr c34
        have c34b1 : (t219 != a1) = false := bne_eq_false_iff_eq.mpr c34
        clear c34
        simp only [Option.some.injEq, Prod.mk.injEq] at H
        obtain ⟨rfl, rfl⟩ := H
        obtain ⟨Ao35, co35, eo35⟩ := Kd.R_slice HO_10.out
        subst eo35
        go_wp2_with (first | ((with_reducible refine gate_callee (f := 113) rfl ?_); refine goesL_ (some 61) rfl rfl Tryd.func113 (by kernel_rfl) rfl #[.slice Ao35 t216.length co35, .int .i64 x11_2, .func (.func 114) #[] #[]] rfl (map3 rfl rfl rfl) ?_; (with_reducible refine (words_behind_begins.calls kj28 _ _ t216 x11_2 t219 _ ?side1 ?side2 A32.out).mono ?_); (case side1 => repeat (first | exact (Kd.R_reads' HO_10.out).2.2 | with_reducible first | refine Kd.C_drewN ?_ _ | refine Kd.C_drew ?_ | refine Kd.C_alloc ?_ _)); (case side2 => exact (Kd.R_reads' HO_10.out).2.1); rintro e w36 ⟨rfl, hb⟩; refine ⟨_, rfl, ?_⟩; have n0_ := Aside0.mk (Kd.R_below (by (with_reducible repeat (first | apply Kd.R_alloc | apply Kd.R_drewN | apply Kd.R_drew)); exact HO_10.out) hb); have n1_ := Aside0.mk (Kd.R_below (by (with_reducible repeat (first | apply Kd.R_alloc | apply Kd.R_drewN | apply Kd.R_drew)); exact HO_215000.out) hb); have n2_ := Aside0.mk (Kd.R_below (by (with_reducible repeat (first | apply Kd.R_alloc | apply Kd.R_drewN | apply Kd.R_drew)); exact HO_215001.out) hb); have n3_ := Aside0.mk (blb hb BK214.out); have n4_ := Aside0.mk (below_step (by repeat with_reducible first | exact HB.out | apply pw_below_drewN | apply below_drew1 | apply below_alloc) hb); clear HO_10; clear HO_215000; clear HO_215001; clear BK214; clear HB; have HO_10 := n0_; have HO_215000 := n1_; have HO_215001 := n2_; have BK214 := n3_; have HB := n4_; clear n0_ n1_ n2_ n3_ n4_; (try clear hb); (try clear hb2); (try clear hk); (try clear hi)))
        go_ret2
        exact ⟨by first | rfl | (simp [errW_none, errW_some] <;> rfl) | (simp [*, errW_none, errW_some] <;> rfl), by repeat with_reducible first | exact HB.out | apply pw_below_drewN | apply below_drew1 | apply below_alloc⟩
       replace c31 := Bool.eq_false_iff.mpr c31
       subst c31
       have H1 : (if a2 = 98 then (words_Move.j3 kj28 a1 a2 t216 x11_2 x11_2 a3 x49_2 (a2 == 98)) else (words_Move.j3 kj28 a1 a2 t216 x11_2 x11_2 a3 x49_2 (a2 == 66))) = some (r1, r2) := by rw [if_neg (show ¬ (false = true) by decide)] at H; exact H
       clear H
       have H := H1
       clear H1
       have HC41 := Aside0.mk H
       clear H
       go_upto_if 62 with (fail)
       go_cut [62] (fun v62 wc => ∃ (kq : Nat) (x62_40 : Bool), v62 = .bool x62_40 ∧ Aside0 (words_Move.j3 kq a1 a2 t216 x11_2 x11_2 a3 x49_2 x62_40 = some (r1, r2)) ∧ Aside0 (kq ≤ kj28) ∧ Aside0 (Kd.R k142 142 wc w.heap.size (fun _ => True) v217 t216) ∧ Aside0 (Kd.R (Kd.int .i32) 21 wc w.heap.size (fun _ => True) (.slice Ao25 t208.length co25) t208) ∧ Aside0 (Kd.R (Kd.int .i64) 3 wc w.heap.size (fun _ => True) (.slice Ao26 t211.length co26) t211) ∧ Aside0 (wc.heap[gb214]? = some (.cells #[(.slice Ao25 t208.length co25), (.slice Ao26 t211.length co26)] 79 (0, 0))) ∧ Aside0 (Below w.heap.size w wc))
       case first =>
        have H := HC41.out
        clear HC41
        by_cases c42 : a2 = 98
        rotate_left
        ·
         rw [if_neg c42] at H
         have c42b0 : (a2 == 98) = false := beq_eq_false_iff_ne.mpr c42
         have c42b1 : (a2 != 98) = true := bne_iff_ne.mpr c42
         (first | rw [c42b0] | (simp only [i64_w, i32_w]; rw [c42b0]) | skip)
         have H' := Aside0.mk H
         clear H
         go_wp2
         go_meet
         case rel => exact ⟨_, ((a2 == 66)), (by first | rfl | (simp; done) | (simp [*]; done)), H', ⟨by have := HJ4.out; have := HK2.out; have := HJ28.out; first | omega | exact Nat.le_refl _⟩, ⟨by (with_reducible repeat (first | apply Kd.R_alloc | apply Kd.R_drewN | apply Kd.R_drew)); exact HO_10.out⟩, ⟨by (with_reducible repeat (first | apply Kd.R_alloc | apply Kd.R_drewN | apply Kd.R_drew)); exact HO_215000.out⟩, ⟨by (with_reducible repeat (first | apply Kd.R_alloc | apply Kd.R_drewN | apply Kd.R_drew)); exact HO_215001.out⟩, ⟨BK214.out⟩, ⟨by repeat with_reducible first | exact HB.out | apply pw_below_drewN | apply below_drew1 | apply below_alloc⟩⟩
        rw [if_pos c42] at H
        have c42b0 : (a2 == 98) = true := beq_iff_eq.mpr c42
        have c42b1 : (a2 != 98) = false := bne_eq_false_iff_eq.mpr c42
        clear c42
        (first | rw [c42b0] | (simp only [i64_w, i32_w]; rw [c42b0]) | skip)
        have H' := Aside0.mk H
        clear H
        go_wp2
        go_meet
        case rel => exact ⟨_, ((a2 == 98)), (by first | rfl | (simp; done) | (simp [*]; done)), H', ⟨by have := HJ4.out; have := HK2.out; have := HJ28.out; first | omega | exact Nat.le_refl _⟩, ⟨by (with_reducible repeat (first | apply Kd.R_alloc | apply Kd.R_drewN | apply Kd.R_drew)); exact HO_10.out⟩, ⟨by (with_reducible repeat (first | apply Kd.R_alloc | apply Kd.R_drewN | apply Kd.R_drew)); exact HO_215000.out⟩, ⟨by (with_reducible repeat (first | apply Kd.R_alloc | apply Kd.R_drewN | apply Kd.R_drew)); exact HO_215001.out⟩, ⟨BK214.out⟩, ⟨by repeat with_reducible first | exact HB.out | apply pw_below_drewN | apply below_drew1 | apply below_alloc⟩⟩
       case rest =>
        clear HC41
        try clear c19
        try clear c22
        try clear c28
        try clear c28b0
        try clear c31
        obtain ⟨kq, x62_40, rfl, HA, HJ40, HO_10, HO_215000, HO_215001, BK214, HB⟩ := hcut
        cases kq with
        | zero => exact absurd HA.out (by simp [words_Move.j3])
        | succ kj40 =>
         have H := HA.out
         clear HA
         simp only [words_Move.j3] at H
         by_cases c43 : x62_40 = true
         ·
          subst c43
          have H1 : ((words_ahead.f kj40 t216 x11_2).bind fun t220 => (if t220 = x11_2 then (if t220 = a1 then (some (0, 6)) else (some (t220, 0))) else (words_Move.l0 kj40 a1 a2 t216 t220 a3 (wrap64 (x49_2 + 1))))) = some (r1, r2) := by rw [if_pos rfl] at H; exact H
          clear H
          have H := H1
          clear H1
          replace H := Option.bind_eq_some_iff.mp H
          obtain ⟨t220, A440, H⟩ := H
          (try dsimp only at H)
          have A44 := Aside0.mk A440
          clear A440
          by_cases c45 : t220 = x11_2
          rotate_left
          ·
           rw [if_neg c45] at H
           have c45b0 : (t220 == x11_2) = false := beq_eq_false_iff_ne.mpr c45
           have c45b1 : (t220 != x11_2) = true := bne_iff_ne.mpr c45
           have H' := Aside0.mk H
           clear H
           obtain ⟨Ao49, co49, eo49⟩ := Kd.R_slice HO_10.out
           subst eo49
           go_wp2_with (first | ((with_reducible refine gate_callee (f := 115) rfl ?_); refine goesL_ (some 67) rfl rfl Tryd.func115 (by kernel_rfl) rfl #[.slice Ao49 t216.length co49, .int .i64 x11_2] rfl (map2 rfl rfl) ?_; (with_reducible refine (words_ahead.calls kj40 _ _ t216 x11_2 t220 _ ?side1 ?side2 A44.out).mono ?_); (case side1 => repeat (first | exact (Kd.R_reads' HO_10.out).2.2 | with_reducible first | refine Kd.C_drewN ?_ _ | refine Kd.C_drew ?_ | refine Kd.C_alloc ?_ _)); (case side2 => exact (Kd.R_reads' HO_10.out).2.1); rintro e w' ⟨rfl, ⟨nd, rfl⟩⟩; refine ⟨_, rfl, ?_⟩))
           go_roundg kj40
           case measure => have := HJ4.out; have := HK2.out; have := HJ28.out; have := HJ40.out; omega
           case rel => exact ⟨(t220), (wrap64 (x49_2 + 1)), (by first | rfl | (simp; done) | (simp [*]; done)), (by first | rfl | (simp; done) | (simp [*]; done)), H', ⟨by have := HJ4.out; have := HK2.out; have := HJ28.out; have := HJ40.out; omega⟩, ⟨by (with_reducible repeat (first | apply Kd.R_alloc | apply Kd.R_drewN | apply Kd.R_drew)); exact HO_10.out⟩, ⟨by (with_reducible repeat (first | apply Kd.R_alloc | apply Kd.R_drewN | apply Kd.R_drew)); exact HO_215000.out⟩, ⟨by (with_reducible repeat (first | apply Kd.R_alloc | apply Kd.R_drewN | apply Kd.R_drew)); exact HO_215001.out⟩, ⟨BK214.out⟩, ⟨by repeat with_reducible first | exact HB.out | apply pw_below_drewN | apply below_drew1 | apply below_alloc⟩⟩
          rw [if_pos c45] at H
          have c45b0 : (t220 == x11_2) = true := beq_iff_eq.mpr c45
          have c45b1 : (t220 != x11_2) = false := bne_eq_false_iff_eq.mpr c45
          clear c45
          by_cases c46 : t220 = a1
          rotate_left
          ·
           rw [if_neg c46] at H
           have c46b0 : (t220 == a1) = false := beq_eq_false_iff_ne.mpr c46
           have c46b1 : (t220 != a1) = true := bne_iff_ne.mpr c46
           simp only [Option.some.injEq, Prod.mk.injEq] at H
           obtain ⟨rfl, rfl⟩ := H
           obtain ⟨Ao48, co48, eo48⟩ := Kd.R_slice HO_10.out
           subst eo48
           go_wp2_with (first | ((with_reducible refine gate_callee (f := 115) rfl ?_); refine goesL_ (some 67) rfl rfl Tryd.func115 (by kernel_rfl) rfl #[.slice Ao48 t216.length co48, .int .i64 x11_2] rfl (map2 rfl rfl) ?_; (with_reducible refine (words_ahead.calls kj40 _ _ t216 x11_2 t220 _ ?side1 ?side2 A44.out).mono ?_); (case side1 => repeat (first | exact (Kd.R_reads' HO_10.out).2.2 | with_reducible first | refine Kd.C_drewN ?_ _ | refine Kd.C_drew ?_ | refine Kd.C_alloc ?_ _)); (case side2 => exact (Kd.R_reads' HO_10.out).2.1); rintro e w' ⟨rfl, ⟨nd, rfl⟩⟩; refine ⟨_, rfl, ?_⟩))
           go_ret2
           exact ⟨by first | rfl | (simp [errW_none, errW_some] <;> rfl) | (simp [*, errW_none, errW_some] <;> rfl), by repeat with_reducible first | exact HB.out | apply pw_below_drewN | apply below_drew1 | apply below_alloc⟩
          rw [if_pos c46] at H
          have c46b0 : (t220 == a1) = true := beq_iff_eq.mpr c46
          have c46b1 : (t220 != a1) = false := bne_eq_false_iff_eq.mpr c46
          clear c46
          simp only [Option.some.injEq, Prod.mk.injEq] at H
          obtain ⟨rfl, rfl⟩ := H
          obtain ⟨Ao47, co47, eo47⟩ := Kd.R_slice HO_10.out
          subst eo47
          go_wp2_with (first | ((with_reducible refine gate_callee (f := 115) rfl ?_); refine goesL_ (some 67) rfl rfl Tryd.func115 (by kernel_rfl) rfl #[.slice Ao47 t216.length co47, .int .i64 x11_2] rfl (map2 rfl rfl) ?_; (with_reducible refine (words_ahead.calls kj40 _ _ t216 x11_2 t220 _ ?side1 ?side2 A44.out).mono ?_); (case side1 => repeat (first | exact (Kd.R_reads' HO_10.out).2.2 | with_reducible first | refine Kd.C_drewN ?_ _ | refine Kd.C_drew ?_ | refine Kd.C_alloc ?_ _)); (case side2 => exact (Kd.R_reads' HO_10.out).2.1); rintro e w' ⟨rfl, ⟨nd, rfl⟩⟩; refine ⟨_, rfl, ?_⟩))
          go_ret2
          exact ⟨by first | rfl | (simp [errW_none, errW_some] <;> rfl) | (simp [*, errW_none, errW_some] <;> rfl), by repeat with_reducible first | exact HB.out | apply pw_below_drewN | apply below_drew1 | apply below_alloc⟩
         replace c43 := Bool.eq_false_iff.mpr c43
         subst c43
         have H1 : ((words_behind_ends.f kj40 t216 x11_2).bind fun t221 => (if t221 = x11_2 then (if t221 = a1 then (some (0, 6)) else (some (t221, 0))) else (words_Move.l0 kj40 a1 a2 t216 t221 a3 (wrap64 (x49_2 + 1))))) = some (r1, r2) := by rw [if_neg (show ¬ (false = true) by decide)] at H; exact H
         clear H
         have H := H1
         clear H1
         replace H := Option.bind_eq_some_iff.mp H
         obtain ⟨t221, A500, H⟩ := H
         (try dsimp only at H)
         have A50 := Aside0.mk A500
         clear A500
         by_cases c51 : t221 = x11_2
         rotate_left
         ·
          rw [if_neg c51] at H
          have c51b0 : (t221 == x11_2) = false := beq_eq_false_iff_ne.mpr c51
          have c51b1 : (t221 != x11_2) = true := bne_iff_ne.mpr c51
          have H' := Aside0.mk H
          clear H
          obtain ⟨Ao57, co57, eo57⟩ := Kd.R_slice HO_10.out
          subst eo57
          go_wp2_with (first | ((with_reducible refine gate_callee (f := 113) rfl ?_); refine goesL_ (some 55) rfl rfl Tryd.func113 (by kernel_rfl) rfl #[.slice Ao57 t216.length co57, .int .i64 x11_2, .func (.func 116) #[] #[]] rfl (map3 rfl rfl rfl) ?_; (with_reducible refine (words_behind_ends.calls kj40 _ _ t216 x11_2 t221 _ ?side1 ?side2 A50.out).mono ?_); (case side1 => repeat (first | exact (Kd.R_reads' HO_10.out).2.2 | with_reducible first | refine Kd.C_drewN ?_ _ | refine Kd.C_drew ?_ | refine Kd.C_alloc ?_ _)); (case side2 => exact (Kd.R_reads' HO_10.out).2.1); rintro e w58 ⟨rfl, hb⟩; refine ⟨_, rfl, ?_⟩; have n0_ := Aside0.mk (Kd.R_below (by (with_reducible repeat (first | apply Kd.R_alloc | apply Kd.R_drewN | apply Kd.R_drew)); exact HO_10.out) hb); have n1_ := Aside0.mk (Kd.R_below (by (with_reducible repeat (first | apply Kd.R_alloc | apply Kd.R_drewN | apply Kd.R_drew)); exact HO_215000.out) hb); have n2_ := Aside0.mk (Kd.R_below (by (with_reducible repeat (first | apply Kd.R_alloc | apply Kd.R_drewN | apply Kd.R_drew)); exact HO_215001.out) hb); have n3_ := Aside0.mk (blb hb BK214.out); have n4_ := Aside0.mk (below_step (by repeat with_reducible first | exact HB.out | apply pw_below_drewN | apply below_drew1 | apply below_alloc) hb); clear HO_10; clear HO_215000; clear HO_215001; clear BK214; clear HB; have HO_10 := n0_; have HO_215000 := n1_; have HO_215001 := n2_; have BK214 := n3_; have HB := n4_; clear n0_ n1_ n2_ n3_ n4_; (try clear hb); (try clear hb2); (try clear hk); (try clear hi)))
          go_roundg kj40
          case measure => have := HJ4.out; have := HK2.out; have := HJ28.out; have := HJ40.out; omega
          case rel => exact ⟨(t221), (wrap64 (x49_2 + 1)), (by first | rfl | (simp; done) | (simp [*]; done)), (by first | rfl | (simp; done) | (simp [*]; done)), H', ⟨by have := HJ4.out; have := HK2.out; have := HJ28.out; have := HJ40.out; omega⟩, ⟨by (with_reducible repeat (first | apply Kd.R_alloc | apply Kd.R_drewN | apply Kd.R_drew)); exact HO_10.out⟩, ⟨by (with_reducible repeat (first | apply Kd.R_alloc | apply Kd.R_drewN | apply Kd.R_drew)); exact HO_215000.out⟩, ⟨by (with_reducible repeat (first | apply Kd.R_alloc | apply Kd.R_drewN | apply Kd.R_drew)); exact HO_215001.out⟩, ⟨BK214.out⟩, ⟨by repeat with_reducible first | exact HB.out | apply pw_below_drewN | apply below_drew1 | apply below_alloc⟩⟩
         rw [if_pos c51] at H
         have c51b0 : (t221 == x11_2) = true := beq_iff_eq.mpr c51
         have c51b1 : (t221 != x11_2) = false := bne_eq_false_iff_eq.mpr c51
         clear c51
         by_cases c52 : t221 = a1
         rotate_left
         ·
          rw [if_neg c52] at H
          have c52b0 : (t221 == a1) = false := beq_eq_false_iff_ne.mpr c52
          have c52b1 : (t221 != a1) = true := bne_iff_ne.mpr c52
          simp only [Option.some.injEq, Prod.mk.injEq] at H
          obtain ⟨rfl, rfl⟩ := H
          obtain ⟨Ao55, co55, eo55⟩ := Kd.R_slice HO_10.out
          subst eo55
          go_wp2_with (first | ((with_reducible refine gate_callee (f := 113) rfl ?_); refine goesL_ (some 55) rfl rfl Tryd.func113 (by kernel_rfl) rfl #[.slice Ao55 t216.length co55, .int .i64 x11_2, .func (.func 116) #[] #[]] rfl (map3 rfl rfl rfl) ?_; (with_reducible refine (words_behind_ends.calls kj40 _ _ t216 x11_2 t221 _ ?side1 ?side2 A50.out).mono ?_); (case side1 => repeat (first | exact (Kd.R_reads' HO_10.out).2.2 | with_reducible first | refine Kd.C_drewN ?_ _ | refine Kd.C_drew ?_ | refine Kd.C_alloc ?_ _)); (case side2 => exact (Kd.R_reads' HO_10.out).2.1); rintro e w56 ⟨rfl, hb⟩; refine ⟨_, rfl, ?_⟩; have n0_ := Aside0.mk (Kd.R_below (by (with_reducible repeat (first | apply Kd.R_alloc | apply Kd.R_drewN | apply Kd.R_drew)); exact HO_10.out) hb); have n1_ := Aside0.mk (Kd.R_below (by (with_reducible repeat (first | apply Kd.R_alloc | apply Kd.R_drewN | apply Kd.R_drew)); exact HO_215000.out) hb); have n2_ := Aside0.mk (Kd.R_below (by (with_reducible repeat (first | apply Kd.R_alloc | apply Kd.R_drewN | apply Kd.R_drew)); exact HO_215001.out) hb); have n3_ := Aside0.mk (blb hb BK214.out); have n4_ := Aside0.mk (below_step (by repeat with_reducible first | exact HB.out | apply pw_below_drewN | apply below_drew1 | apply below_alloc) hb); clear HO_10; clear HO_215000; clear HO_215001; clear BK214; clear HB; have HO_10 := n0_; have HO_215000 := n1_; have HO_215001 := n2_; have BK214 := n3_; have HB := n4_; clear n0_ n1_ n2_ n3_ n4_; (try clear hb); (try clear hb2); (try clear hk); (try clear hi)))
          go_ret2
          exact ⟨by first | rfl | (simp [errW_none, errW_some] <;> rfl) | (simp [*, errW_none, errW_some] <;> rfl), by repeat with_reducible first | exact HB.out | apply pw_below_drewN | apply below_drew1 | apply below_alloc⟩
         rw [if_pos c52] at H
         have c52b0 : (t221 == a1) = true := beq_iff_eq.mpr c52
         have c52b1 : (t221 != a1) = false := bne_eq_false_iff_eq.mpr c52
         clear c52
         simp only [Option.some.injEq, Prod.mk.injEq] at H
         obtain ⟨rfl, rfl⟩ := H
         obtain ⟨Ao53, co53, eo53⟩ := Kd.R_slice HO_10.out
         subst eo53
         go_wp2_with (first | ((with_reducible refine gate_callee (f := 113) rfl ?_); refine goesL_ (some 55) rfl rfl Tryd.func113 (by kernel_rfl) rfl #[.slice Ao53 t216.length co53, .int .i64 x11_2, .func (.func 116) #[] #[]] rfl (map3 rfl rfl rfl) ?_; (with_reducible refine (words_behind_ends.calls kj40 _ _ t216 x11_2 t221 _ ?side1 ?side2 A50.out).mono ?_); (case side1 => repeat (first | exact (Kd.R_reads' HO_10.out).2.2 | with_reducible first | refine Kd.C_drewN ?_ _ | refine Kd.C_drew ?_ | refine Kd.C_alloc ?_ _)); (case side2 => exact (Kd.R_reads' HO_10.out).2.1); rintro e w54 ⟨rfl, hb⟩; refine ⟨_, rfl, ?_⟩; have n0_ := Aside0.mk (Kd.R_below (by (with_reducible repeat (first | apply Kd.R_alloc | apply Kd.R_drewN | apply Kd.R_drew)); exact HO_10.out) hb); have n1_ := Aside0.mk (Kd.R_below (by (with_reducible repeat (first | apply Kd.R_alloc | apply Kd.R_drewN | apply Kd.R_drew)); exact HO_215000.out) hb); have n2_ := Aside0.mk (Kd.R_below (by (with_reducible repeat (first | apply Kd.R_alloc | apply Kd.R_drewN | apply Kd.R_drew)); exact HO_215001.out) hb); have n3_ := Aside0.mk (blb hb BK214.out); have n4_ := Aside0.mk (below_step (by repeat with_reducible first | exact HB.out | apply pw_below_drewN | apply below_drew1 | apply below_alloc) hb); clear HO_10; clear HO_215000; clear HO_215001; clear BK214; clear HB; have HO_10 := n0_; have HO_215000 := n1_; have HO_215001 := n2_; have BK214 := n3_; have HB := n4_; clear n0_ n1_ n2_ n3_ n4_; (try clear hb); (try clear hb2); (try clear hk); (try clear hi)))
         go_ret2
         exact ⟨by first | rfl | (simp [errW_none, errW_some] <;> rfl) | (simp [*, errW_none, errW_some] <;> rfl), by repeat with_reducible first | exact HB.out | apply pw_below_drewN | apply below_drew1 | apply below_alloc⟩

/-! ### move_byWord: function 64 -/
def move_byWord.f (k : Nat) (a0 : ByteArray) (a1 : Int) (a2 : Int) (a3 : Int) : Option (Int × Int × Int) := (words_Move.f k a0 a1 a2 a3).bind fun bt223 => (if a2 = 101 then (some (bt223.1, 1, bt223.2)) else (if a2 = 69 then (some (bt223.1, 1, bt223.2)) else (some (bt223.1, 0, bt223.2))))
theorem move_byWord.mono : ∀ a0 a1 a2 a3 k, LeO (move_byWord.f k a0 a1 a2 a3) (move_byWord.f (k + 1) a0 a1 a2 a3) := by
  intro a0 a1 a2 a3 k
  unfold move_byWord.f
  repeat' first | (with_reducible first | exact words_Move.mono _ _ _ _ _ | exact LeO.refl _ | exact LeO.none _ | refine LeO.ite ?_ ?_ | refine LeO.bind ?_ (fun _ => ?_)) | exact words_Move.mono _ _ _ _ _ | exact LeO.refl _ | exact LeO.none _ | refine LeO.ite ?_ ?_ | refine LeO.bind ?_ (fun _ => ?_)
set_option maxHeartbeats 8000000 in
set_option maxRecDepth 100000 in
theorem move_byWord.calls (k : Nat) (a0 : ByteArray) (a1 : Int) (a2 : Int) (a3 : Int) (r1 : Int) (r2 : Int) (r3 : Int) (w : World) (hT : Tabs w) (h : move_byWord.f k a0 a1 a2 a3 = some (r1, r2, r3)) :
  Calls Tryd.prog 64 #[.string a0, .int .i64 a1, .int .i64 a2, .int .i64 a3] w fun e w' => e = .returned (.tuple #[.agg #[.int .i64 r1, .int .i64 r2], .int .i64 r3]) ∧ Below w.heap.size w w' := by
 have hu54 := Tryd.underlying54
 have HT := Aside0.mk hT
 clear hT
 have HB := Aside0.mk (Below.refl w.heap.size w)
 have H : ((words_Move.f k a0 a1 a2 a3).bind fun bt223 => (if a2 = 101 then (some (bt223.1, 1, bt223.2)) else (if a2 = 69 then (some (bt223.1, 1, bt223.2)) else (some (bt223.1, 0, bt223.2))))) = some (r1, r2, r3) := h
 clear h
 replace H := Option.bind_eq_some_iff.mp H
 obtain ⟨⟨t223, t224⟩, A50, H⟩ := H
 (try dsimp only at H)
 have A5 := Aside0.mk A50
 clear A50
 by_cases c6 : a2 = 101
 ·
  rw [if_pos c6] at H
  have c6b0 : (a2 == 101) = true := beq_iff_eq.mpr c6
  have c6b1 : (a2 != 101) = false := bne_eq_false_iff_eq.mpr c6
  clear c6
  simp only [Option.some.injEq, Prod.mk.injEq] at H
  obtain ⟨rfl, rfl, rfl⟩ := H
  go_enter Tryd.func64, Tryd.ntmps64
  go_wp2_with (first | ((with_reducible refine gate_dst (N := 8) rfl ?_); refine box_event ?hg (N := 8) ?hd (cs := #[.int .i64 0, .int .i64 0]) (t := 54) ?hr ?_; (case hd => rfl); (case hg => rfl); (case hr => first | (go_simp; done) | (go_simp; rfl)); intro gb222 hg w7 hbox hb; have n0_ := Aside0.mk (below_step (by repeat with_reducible first | exact HB.out | apply pw_below_drewN | apply below_drew1 | apply below_alloc) hb); have n1_ := Aside0.mk (hbox); have n2_ := Aside0.mk (geb hg (by repeat with_reducible first | exact HB.out | apply pw_below_drewN | apply below_drew1 | apply below_alloc)); have n3_ := n2_; clear HB; have HB := n0_; have BK222 := n1_; have GW222 := n2_; have GE222 := n3_; clear n0_ n1_ n2_ n3_; clear hb hbox hg) | ((with_reducible refine gate_callee (f := 88) rfl ?_); refine goesL_ (some 18) rfl rfl Tryd.func88 (by kernel_rfl) rfl #[.string a0, .int .i64 a1, .int .i64 a2, .int .i64 a3] rfl (map4 rfl rfl rfl rfl) ?_; (with_reducible refine (words_Move.calls k a0 a1 a2 a3 t223 t224 _ ?side1 A5.out).mono ?_); (case side1 => exact Tabs.below HT.out (by repeat with_reducible first | exact HB.out | apply pw_below_drewN | apply below_drew1 | apply below_alloc)); rintro e w8 ⟨rfl, hb⟩; refine ⟨_, rfl, ?_⟩; have n0_ := Aside0.mk (blb hb BK222.out); have n1_ := Aside0.mk (below_step (by repeat with_reducible first | exact HB.out | apply pw_below_drewN | apply below_drew1 | apply below_alloc) hb); clear BK222; clear HB; have BK222 := n0_; have HB := n1_; clear n0_ n1_; (try clear hb); (try clear hb2); (try clear hk); (try clear hi)) | ((with_reducible refine gate_dst (N := 12) rfl ?_); refine box_event ?hg (N := 12) ?hd (cs := #[.int .i64 0, .int .i64 0]) (t := 54) ?hr ?_; (case hd => rfl); (case hg => rfl); (case hr => first | (go_simp; done) | (go_simp; rfl)); intro gb225 hg w9 hbox hb; have n0_ := Aside0.mk (blb hb BK222.out); have n1_ := Aside0.mk (below_step (by repeat with_reducible first | exact HB.out | apply pw_below_drewN | apply below_drew1 | apply below_alloc) hb); have n2_ := Aside0.mk (hbox); have n3_ := Aside0.mk (geb hg (by repeat with_reducible first | exact HB.out | apply pw_below_drewN | apply below_drew1 | apply below_alloc)); have n4_ := n3_; have n5_ := Aside0.mk ((nbl hg BK222.out)); have n6_ := Aside0.mk ((nbr hg BK222.out)); clear BK222; clear HB; have BK222 := n0_; have HB := n1_; have BK225 := n2_; have GW225 := n3_; have GE225 := n4_; have NB222_225 := n5_; have NB225_222 := n6_; clear n0_ n1_ n2_ n3_ n4_ n5_ n6_; clear hb hbox hg; have hnb10 := NB225_222.out; have hnc10 := NB222_225.out; have hcz11_0 := cz0 BK225.out; have hcz11_1 := cz1 BK225.out; have hfz11_0 := blk_frozen BK225.out 0; have hfz11_1 := blk_frozen BK225.out 1; have hcz12_0 := cz0 BK222.out; have hcz12_1 := cz1 BK222.out; have hfz12_0 := blk_frozen BK222.out 0; have hfz12_1 := blk_frozen BK222.out 1))
  refine bodyPost_ret (results_ct rfl _ _ gb222 54 #[.int .i64 t223, .int .i64 1] (0, 0) _ rfl (by (with_reducible repeat (first | refine blk_drewN ?_ _ | refine blk_drew ?_ | refine blk_alloc ?_ _)); refine blk_put (cs := #[.int .i64 t223, .int .i64 0]) ?_ 1 _ rfl; (with_reducible repeat (first | refine blk_drewN ?_ _ | refine blk_drew ?_ | refine blk_alloc ?_ _)); refine blk_put (cs := #[.int .i64 0, .int .i64 0]) ?_ 0 _ rfl; (with_reducible repeat (first | refine blk_drewN ?_ _ | refine blk_drew ?_ | refine blk_alloc ?_ _)); refine blk_far ?_ NB222_225.out _; (with_reducible repeat (first | refine blk_drewN ?_ _ | refine blk_drew ?_ | refine blk_alloc ?_ _)); refine blk_far ?_ NB222_225.out _; (with_reducible repeat (first | refine blk_drewN ?_ _ | refine blk_drew ?_ | refine blk_alloc ?_ _)); refine blk_far ?_ NB222_225.out _; (with_reducible repeat (first | refine blk_drewN ?_ _ | refine blk_drew ?_ | refine blk_alloc ?_ _)); exact BK222.out) Tryd.underlying54 rfl (by kernel_rfl)) rfl ?_
  exact ⟨by first | rfl | (simp [errW_none, errW_some] <;> rfl) | (simp [*, errW_none, errW_some] <;> rfl), by repeat with_reducible first | exact HB.out | apply pw_below_drewN | refine below_set ?_ GE222.out | refine below_set ?_ GE225.out | apply below_drew1 | apply below_alloc⟩
 rw [if_neg c6] at H
 have c6b0 : (a2 == 101) = false := beq_eq_false_iff_ne.mpr c6
 have c6b1 : (a2 != 101) = true := bne_iff_ne.mpr c6
 by_cases c13 : a2 = 69
 rotate_left
 ·
  rw [if_neg c13] at H
  have c13b0 : (a2 == 69) = false := beq_eq_false_iff_ne.mpr c13
  have c13b1 : (a2 != 69) = true := bne_iff_ne.mpr c13
  simp only [Option.some.injEq, Prod.mk.injEq] at H
  obtain ⟨rfl, rfl, rfl⟩ := H
  go_enter Tryd.func64, Tryd.ntmps64
  go_wp2_with (first | ((with_reducible refine gate_dst (N := 8) rfl ?_); refine box_event ?hg (N := 8) ?hd (cs := #[.int .i64 0, .int .i64 0]) (t := 54) ?hr ?_; (case hd => rfl); (case hg => rfl); (case hr => first | (go_simp; done) | (go_simp; rfl)); intro gb222 hg w20 hbox hb; have n0_ := Aside0.mk (below_step (by repeat with_reducible first | exact HB.out | apply pw_below_drewN | apply below_drew1 | apply below_alloc) hb); have n1_ := Aside0.mk (hbox); have n2_ := Aside0.mk (geb hg (by repeat with_reducible first | exact HB.out | apply pw_below_drewN | apply below_drew1 | apply below_alloc)); have n3_ := n2_; clear HB; have HB := n0_; have BK222 := n1_; have GW222 := n2_; have GE222 := n3_; clear n0_ n1_ n2_ n3_; clear hb hbox hg) | ((with_reducible refine gate_callee (f := 88) rfl ?_); refine goesL_ (some 18) rfl rfl Tryd.func88 (by kernel_rfl) rfl #[.string a0, .int .i64 a1, .int .i64 a2, .int .i64 a3] rfl (map4 rfl rfl rfl rfl) ?_; (with_reducible refine (words_Move.calls k a0 a1 a2 a3 t223 t224 _ ?side1 A5.out).mono ?_); (case side1 => exact Tabs.below HT.out (by repeat with_reducible first | exact HB.out | apply pw_below_drewN | apply below_drew1 | apply below_alloc)); rintro e w21 ⟨rfl, hb⟩; refine ⟨_, rfl, ?_⟩; have n0_ := Aside0.mk (blb hb BK222.out); have n1_ := Aside0.mk (below_step (by repeat with_reducible first | exact HB.out | apply pw_below_drewN | apply below_drew1 | apply below_alloc) hb); clear BK222; clear HB; have BK222 := n0_; have HB := n1_; clear n0_ n1_; (try clear hb); (try clear hb2); (try clear hk); (try clear hi)) | ((with_reducible refine gate_dst (N := 12) rfl ?_); refine box_event ?hg (N := 12) ?hd (cs := #[.int .i64 0, .int .i64 0]) (t := 54) ?hr ?_; (case hd => rfl); (case hg => rfl); (case hr => first | (go_simp; done) | (go_simp; rfl)); intro gb225 hg w22 hbox hb; have n0_ := Aside0.mk (blb hb BK222.out); have n1_ := Aside0.mk (below_step (by repeat with_reducible first | exact HB.out | apply pw_below_drewN | apply below_drew1 | apply below_alloc) hb); have n2_ := Aside0.mk (hbox); have n3_ := Aside0.mk (geb hg (by repeat with_reducible first | exact HB.out | apply pw_below_drewN | apply below_drew1 | apply below_alloc)); have n4_ := n3_; have n5_ := Aside0.mk ((nbl hg BK222.out)); have n6_ := Aside0.mk ((nbr hg BK222.out)); clear BK222; clear HB; have BK222 := n0_; have HB := n1_; have BK225 := n2_; have GW225 := n3_; have GE225 := n4_; have NB222_225 := n5_; have NB225_222 := n6_; clear n0_ n1_ n2_ n3_ n4_ n5_ n6_; clear hb hbox hg; have hnb23 := NB225_222.out; have hnc23 := NB222_225.out; have hcz24_0 := cz0 BK225.out; have hcz24_1 := cz1 BK225.out; have hfz24_0 := blk_frozen BK225.out 0; have hfz24_1 := blk_frozen BK225.out 1; have hcz25_0 := cz0 BK222.out; have hcz25_1 := cz1 BK222.out; have hfz25_0 := blk_frozen BK222.out 0; have hfz25_1 := blk_frozen BK222.out 1))
  refine bodyPost_ret (results_ct rfl _ _ gb222 54 #[.int .i64 t223, .int .i64 0] (0, 0) _ rfl (by (with_reducible repeat (first | refine blk_drewN ?_ _ | refine blk_drew ?_ | refine blk_alloc ?_ _)); refine blk_put (cs := #[.int .i64 t223, .int .i64 0]) ?_ 1 _ rfl; (with_reducible repeat (first | refine blk_drewN ?_ _ | refine blk_drew ?_ | refine blk_alloc ?_ _)); refine blk_put (cs := #[.int .i64 0, .int .i64 0]) ?_ 0 _ rfl; (with_reducible repeat (first | refine blk_drewN ?_ _ | refine blk_drew ?_ | refine blk_alloc ?_ _)); refine blk_far ?_ NB222_225.out _; (with_reducible repeat (first | refine blk_drewN ?_ _ | refine blk_drew ?_ | refine blk_alloc ?_ _)); refine blk_far ?_ NB222_225.out _; (with_reducible repeat (first | refine blk_drewN ?_ _ | refine blk_drew ?_ | refine blk_alloc ?_ _)); exact BK222.out) Tryd.underlying54 rfl (by kernel_rfl)) rfl ?_
  exact ⟨by first | rfl | (simp [errW_none, errW_some] <;> rfl) | (simp [*, errW_none, errW_some] <;> rfl), by repeat with_reducible first | exact HB.out | apply pw_below_drewN | refine below_set ?_ GE222.out | refine below_set ?_ GE225.out | apply below_drew1 | apply below_alloc⟩
 rw [if_pos c13] at H
 have c13b0 : (a2 == 69) = true := beq_iff_eq.mpr c13
 have c13b1 : (a2 != 69) = false := bne_eq_false_iff_eq.mpr c13
 clear c13
 simp only [Option.some.injEq, Prod.mk.injEq] at H
 obtain ⟨rfl, rfl, rfl⟩ := H
 go_enter Tryd.func64, Tryd.ntmps64
 go_wp2_with (first | ((with_reducible refine gate_dst (N := 8) rfl ?_); refine box_event ?hg (N := 8) ?hd (cs := #[.int .i64 0, .int .i64 0]) (t := 54) ?hr ?_; (case hd => rfl); (case hg => rfl); (case hr => first | (go_simp; done) | (go_simp; rfl)); intro gb222 hg w14 hbox hb; have n0_ := Aside0.mk (below_step (by repeat with_reducible first | exact HB.out | apply pw_below_drewN | apply below_drew1 | apply below_alloc) hb); have n1_ := Aside0.mk (hbox); have n2_ := Aside0.mk (geb hg (by repeat with_reducible first | exact HB.out | apply pw_below_drewN | apply below_drew1 | apply below_alloc)); have n3_ := n2_; clear HB; have HB := n0_; have BK222 := n1_; have GW222 := n2_; have GE222 := n3_; clear n0_ n1_ n2_ n3_; clear hb hbox hg) | ((with_reducible refine gate_callee (f := 88) rfl ?_); refine goesL_ (some 18) rfl rfl Tryd.func88 (by kernel_rfl) rfl #[.string a0, .int .i64 a1, .int .i64 a2, .int .i64 a3] rfl (map4 rfl rfl rfl rfl) ?_; (with_reducible refine (words_Move.calls k a0 a1 a2 a3 t223 t224 _ ?side1 A5.out).mono ?_); (case side1 => exact Tabs.below HT.out (by repeat with_reducible first | exact HB.out | apply pw_below_drewN | apply below_drew1 | apply below_alloc)); rintro e w15 ⟨rfl, hb⟩; refine ⟨_, rfl, ?_⟩; have n0_ := Aside0.mk (blb hb BK222.out); have n1_ := Aside0.mk (below_step (by repeat with_reducible first | exact HB.out | apply pw_below_drewN | apply below_drew1 | apply below_alloc) hb); clear BK222; clear HB; have BK222 := n0_; have HB := n1_; clear n0_ n1_; (try clear hb); (try clear hb2); (try clear hk); (try clear hi)) | ((with_reducible refine gate_dst (N := 12) rfl ?_); refine box_event ?hg (N := 12) ?hd (cs := #[.int .i64 0, .int .i64 0]) (t := 54) ?hr ?_; (case hd => rfl); (case hg => rfl); (case hr => first | (go_simp; done) | (go_simp; rfl)); intro gb225 hg w16 hbox hb; have n0_ := Aside0.mk (blb hb BK222.out); have n1_ := Aside0.mk (below_step (by repeat with_reducible first | exact HB.out | apply pw_below_drewN | apply below_drew1 | apply below_alloc) hb); have n2_ := Aside0.mk (hbox); have n3_ := Aside0.mk (geb hg (by repeat with_reducible first | exact HB.out | apply pw_below_drewN | apply below_drew1 | apply below_alloc)); have n4_ := n3_; have n5_ := Aside0.mk ((nbl hg BK222.out)); have n6_ := Aside0.mk ((nbr hg BK222.out)); clear BK222; clear HB; have BK222 := n0_; have HB := n1_; have BK225 := n2_; have GW225 := n3_; have GE225 := n4_; have NB222_225 := n5_; have NB225_222 := n6_; clear n0_ n1_ n2_ n3_ n4_ n5_ n6_; clear hb hbox hg; have hnb17 := NB225_222.out; have hnc17 := NB222_225.out; have hcz18_0 := cz0 BK225.out; have hcz18_1 := cz1 BK225.out; have hfz18_0 := blk_frozen BK225.out 0; have hfz18_1 := blk_frozen BK225.out 1; have hcz19_0 := cz0 BK222.out; have hcz19_1 := cz1 BK222.out; have hfz19_0 := blk_frozen BK222.out 0; have hfz19_1 := blk_frozen BK222.out 1))
 refine bodyPost_ret (results_ct rfl _ _ gb222 54 #[.int .i64 t223, .int .i64 1] (0, 0) _ rfl (by (with_reducible repeat (first | refine blk_drewN ?_ _ | refine blk_drew ?_ | refine blk_alloc ?_ _)); refine blk_put (cs := #[.int .i64 t223, .int .i64 0]) ?_ 1 _ rfl; (with_reducible repeat (first | refine blk_drewN ?_ _ | refine blk_drew ?_ | refine blk_alloc ?_ _)); refine blk_put (cs := #[.int .i64 0, .int .i64 0]) ?_ 0 _ rfl; (with_reducible repeat (first | refine blk_drewN ?_ _ | refine blk_drew ?_ | refine blk_alloc ?_ _)); refine blk_far ?_ NB222_225.out _; (with_reducible repeat (first | refine blk_drewN ?_ _ | refine blk_drew ?_ | refine blk_alloc ?_ _)); refine blk_far ?_ NB222_225.out _; (with_reducible repeat (first | refine blk_drewN ?_ _ | refine blk_drew ?_ | refine blk_alloc ?_ _)); refine blk_far ?_ NB222_225.out _; (with_reducible repeat (first | refine blk_drewN ?_ _ | refine blk_drew ?_ | refine blk_alloc ?_ _)); exact BK222.out) Tryd.underlying54 rfl (by kernel_rfl)) rfl ?_
 exact ⟨by first | rfl | (simp [errW_none, errW_some] <;> rfl) | (simp [*, errW_none, errW_some] <;> rfl), by repeat with_reducible first | exact HB.out | apply pw_below_drewN | refine below_set ?_ GE222.out | refine below_set ?_ GE225.out | apply below_drew1 | apply below_alloc⟩

end Go.Proofs.YtbgmmcngkdhpcaaDoor.P
