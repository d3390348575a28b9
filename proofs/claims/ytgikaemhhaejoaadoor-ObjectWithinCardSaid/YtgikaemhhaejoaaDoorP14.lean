/- The walks of the functions that these statements reach: each Go function as a plain Lean function, and the proof that its call comes to that. Written by the session's program wip/pp.py. -/
import Derived.Test.YtgikaemhhaejoaaDoorP0
import Derived.Test.YtgikaemhhaejoaaDoorP11
import Derived.Test.YtgikaemhhaejoaaDoorP12
import Derived.Test.YtgikaemhhaejoaaDoorP13
namespace Go.Proofs.YtgikaemhhaejoaaDoor.P
open Go.Proofs.YtgikaemhhaejoaaDoor
open Go.RowKit Go.Proofs.YtgikaemhhaejoaaDoorW.PrintWords Go.Proofs.YtgikaemhhaejoaaDoorW.PrintLast Go.Proofs.YtgikaemhhaejoaaDoorW.PrintMore
attribute [local go_sem] max2_int min2_int max_two min_two max_three min_three max_four min_four   -- for this text's walks alone
set_option linter.unusedVariables false
set_option linter.unusedSimpArgs false

/-! ### quillref12_Around: function 40 -/
def quillref12_Around.l0 : Nat → List Int → Int → Int → Int → Int → Option (Int × Int)
  | 0, _, _, _, _, _ => none
  | k + 1, x0, x1, x2, x3, x10 => if x10 ≥ 0 then (if 0 ≤ x10 then (if x10 < (x0.length : Int) then (if (wrap64 (rd x0 x10)) = x2 then ((quillref12_Mate.f k x0 x10).bind fun t344 => (if t344 ≥ x1 then (if (wrap64 (x3 - 1)) = 0 then (some (x10, t344)) else (quillref12_Around.l0 k x0 x1 x2 (wrap64 (x3 - 1)) (wrap64 (x10 - 1)))) else (quillref12_Around.l0 k x0 x1 x2 x3 (wrap64 (x10 - 1))))) else (quillref12_Around.l0 k x0 x1 x2 x3 (wrap64 (x10 - 1)))) else (none)) else (none)) else (some ((-1), (-1)))
def quillref12_Around.f (k : Nat) (l0 : List Int) (a1 : Int) (a2 : Int) (a3 : Int) : Option (Int × Int) := quillref12_Around.l0 k l0 a1 a2 a3 (mn a1 (wrap64 ((l0.length : Int) - 1)))
theorem quillref12_Around.mono_l : ∀ k, (∀ y0 y1 y2 y3 y4, LeO (quillref12_Around.l0 k y0 y1 y2 y3 y4) (quillref12_Around.l0 (k + 1) y0 y1 y2 y3 y4))
  | 0 => fun _ _ _ _ _ r h => by simp [quillref12_Around.l0] at h
  | k + 1 => by
    have ih0 := quillref12_Around.mono_l k
    all_goals intros
    all_goals first | unfold quillref12_Around.l0
    all_goals repeat' first | (with_reducible first | exact ih0 _ _ _ _ _ | exact quillref12_Mate.mono _ _ _ | exact LeO.refl _ | exact LeO.none _ | refine LeO.ite ?_ ?_ | refine LeO.bind ?_ (fun _ => ?_)) | exact ih0 _ _ _ _ _ | exact quillref12_Mate.mono _ _ _ | exact LeO.refl _ | exact LeO.none _ | refine LeO.ite ?_ ?_ | refine LeO.bind ?_ (fun _ => ?_)
theorem quillref12_Around.mono : ∀ a0 a1 a2 a3 k, LeO (quillref12_Around.f k a0 a1 a2 a3) (quillref12_Around.f (k + 1) a0 a1 a2 a3) := by
  intro a0 a1 a2 a3 k
  have ih0 := quillref12_Around.mono_l k
  unfold quillref12_Around.f
  repeat' first | (with_reducible first | exact ih0 _ _ _ _ _ | exact quillref12_Mate.mono _ _ _ | exact LeO.refl _ | exact LeO.none _ | refine LeO.ite ?_ ?_ | refine LeO.bind ?_ (fun _ => ?_)) | exact ih0 _ _ _ _ _ | exact quillref12_Mate.mono _ _ _ | exact LeO.refl _ | exact LeO.none _ | refine LeO.ite ?_ ?_ | refine LeO.bind ?_ (fun _ => ?_)
set_option maxHeartbeats 8000000 in
set_option maxRecDepth 100000 in
theorem quillref12_Around.calls (k : Nat) (A0 : Option Addr) (c0 : Nat) (l0 : List Int) (a1 : Int) (a2 : Int) (a3 : Int) (r1 : Int) (r2 : Int) (w : World) (hr0 : Kd.C (Kd.int .i32) w A0 l0.length l0) (hc0 : l0.length ≤ c0) (h : quillref12_Around.f k l0 a1 a2 a3 = some (r1, r2)) :
  Calls Tryd.prog 40 #[.slice A0 l0.length c0, .int .i64 a1, .int .i64 a2, .int .i64 a3] w fun e w' => e = .returned (.tuple #[.int .i64 r1, .int .i64 r2]) ∧ Below w.heap.size w w' := by
 have HR0 := Aside0.mk hr0
 have HC0 := Aside0.mk hc0
 clear hr0 hc0
 have HB := Aside0.mk (Below.refl w.heap.size w)
 have H : (quillref12_Around.l0 k l0 a1 a2 a3 (mn a1 (wrap64 ((l0.length : Int) - 1)))) = some (r1, r2) := h
 clear h
 obtain ⟨ji5, hji5⟩ : ∃ j_ : Int, (mn a1 (wrap64 ((l0.length : Int) - 1))) = j_ := ⟨_, rfl⟩
 replace H : (quillref12_Around.l0 k l0 a1 a2 a3 ji5) = some (r1, r2) := by first | (rw [hji5] at H; exact H) | (simp only [hji5] at H ⊢; exact H)
 have hji5_ : (if (wrap64 ((l0.length : Int) - 1)) < a1 then (wrap64 ((l0.length : Int) - 1)) else a1) = ji5 := hji5
 have H' := Aside0.mk H
 clear H
 go_enter Tryd.func40, Tryd.ntmps40
 go_wp2
 go_loopg [3, 10] k (fun kq v3 v10 w' => ∃ (x3_1 : Int) (x10_1 : Int), v3 = .int .i64 x3_1 ∧ v10 = .int .i64 x10_1 ∧ Aside0 (quillref12_Around.l0 kq l0 a1 a2 x3_1 x10_1 = some (r1, r2)) ∧ Aside0 (kq ≤ k) ∧ Aside0 (Below w.heap.size w w'))
 case atStart => exact ⟨(a3), (ji5), (by first | rfl | (simp; done) | (simp [*]; done)), (by first | rfl | (simp; done) | (simp only [← hji5] <;> (first | rfl | simp)) | (simp [*]; done)), H', ⟨Nat.le_refl _⟩, ⟨by repeat with_reducible first | exact HB.out | apply pw_below_drewN | apply below_drew1 | apply below_alloc⟩⟩
 case round =>
  clear H'
  obtain ⟨x3_1, x10_1, rfl, rfl, HA, HK1, HB⟩ := hrel
  cases gk with
  | zero => exact absurd HA.out (by simp [quillref12_Around.l0])
  | succ k1 =>
   have H := HA.out
   clear HA
   simp only [quillref12_Around.l0] at H
   by_cases c6 : x10_1 ≥ 0
   rotate_left
   ·
    rw [if_neg c6] at H
    have c6b0 := decide_eq_false c6
    clear c6
    simp only [Option.some.injEq, Prod.mk.injEq] at H
    obtain ⟨rfl, rfl⟩ := H
    go_wp2
    go_ret2
    exact ⟨by first | rfl | (simp [errW_none, errW_some] <;> rfl) | (simp only [← hji5]; first | rfl | (simp [errW_none, errW_some] <;> rfl)) | (simp [*, errW_none, errW_some] <;> rfl), by repeat with_reducible first | exact HB.out | apply pw_below_drewN | apply below_drew1 | apply below_alloc⟩
   rw [if_pos c6] at H
   have c6b0 := decide_eq_true c6
   clear c6
   by_cases c7 : 0 ≤ x10_1
   rotate_left
   ·
    rw [if_neg c7] at H
    exact absurd H (by simp)
   rw [if_pos c7] at H
   have c7b0 := decide_eq_true c7
   clear c7
   by_cases c8 : x10_1 < (l0.length : Int)
   rotate_left
   ·
    rw [if_neg c8] at H
    exact absurd H (by simp)
   rw [if_pos c8] at H
   have c8b0 := decide_eq_true c8
   clear c8
   by_cases c9 : (wrap64 (rd l0 x10_1)) = a2
   rotate_left
   ·
    rw [if_neg c9] at H
    have c9b0 : ((wrap64 (rd l0 x10_1)) == a2) = false := beq_eq_false_iff_ne.mpr c9
    have c9b1 : ((wrap64 (rd l0 x10_1)) != a2) = true := bne_iff_ne.mpr c9
    have H' := Aside0.mk H
    clear H
    have p343 : 0 ≤ (x10_1 : Int) := of_decide_eq_true (by assumption)
    have q343 : x10_1 < (l0.length : Int) := of_decide_eq_true (by assumption)
    obtain ⟨ad343, e343, hx343_0⟩ := Kd.at_int HR0.out x10_1 p343 q343
    cases e343
    replace hx343_0 := (HB.out.cell (World.block_lt_of_cell? w _ hx343_0)).trans hx343_0
    replace p343 := eq_true p343
    replace q343 := eq_true q343
    go_wp2
    go_roundg k1
    case measure => have := HK1.out; omega
    case rel => exact ⟨(x3_1), (wrap64 (x10_1 - 1)), (by first | rfl | (simp; done) | (simp [*]; done)), (by first | rfl | (simp; done) | (simp [*]; done)), H', ⟨by have := HK1.out; omega⟩, ⟨by repeat with_reducible first | exact HB.out | apply pw_below_drewN | apply below_drew1 | apply below_alloc⟩⟩
   rw [if_pos c9] at H
   have c9b0 : ((wrap64 (rd l0 x10_1)) == a2) = true := beq_iff_eq.mpr c9
   have c9b1 : ((wrap64 (rd l0 x10_1)) != a2) = false := bne_eq_false_iff_eq.mpr c9
   clear c9
   replace H := Option.bind_eq_some_iff.mp H
   obtain ⟨t344, A100, H⟩ := H
   (try dsimp only at H)
   have A10 := Aside0.mk A100
   clear A100
   by_cases c11 : t344 ≥ a1
   rotate_left
   ·
    rw [if_neg c11] at H
    have c11b0 := decide_eq_false c11
    clear c11
    have H' := Aside0.mk H
    clear H
    have p343 : 0 ≤ (x10_1 : Int) := of_decide_eq_true (by assumption)
    have q343 : x10_1 < (l0.length : Int) := of_decide_eq_true (by assumption)
    obtain ⟨ad343, e343, hx343_0⟩ := Kd.at_int HR0.out x10_1 p343 q343
    cases e343
    replace hx343_0 := (HB.out.cell (World.block_lt_of_cell? w _ hx343_0)).trans hx343_0
    replace p343 := eq_true p343
    replace q343 := eq_true q343
    go_wp2_with (first | ((with_reducible refine gate_callee (f := 60) rfl ?_); refine goesL_ (some 30) rfl rfl Tryd.func60 (by kernel_rfl) rfl #[.slice (some ad343) l0.length c0, .int .i64 x10_1] rfl (map2 rfl rfl) ?_; (with_reducible refine (quillref12_Mate.calls k1 _ _ l0 x10_1 t344 _ ?side1 ?side2 A10.out).mono ?_); (case side1 => repeat (first | exact (Kd.C_below HR0.out HB.out) | with_reducible first | refine Kd.C_drewN ?_ _ | refine Kd.C_drew ?_ | refine Kd.C_alloc ?_ _)); (case side2 => exact HC0.out); rintro e w15 ⟨rfl, hb⟩; refine ⟨_, rfl, ?_⟩; have n0_ := Aside0.mk (below_step (by repeat with_reducible first | exact HB.out | apply pw_below_drewN | apply below_drew1 | apply below_alloc) hb); clear HB; have HB := n0_; clear n0_; (try clear hb); (try clear hb2); (try clear hk); (try clear hi)))
    go_roundg k1
    case measure => have := HK1.out; omega
    case rel => exact ⟨(x3_1), (wrap64 (x10_1 - 1)), (by first | rfl | (simp; done) | (simp [*]; done)), (by first | rfl | (simp; done) | (simp [*]; done)), H', ⟨by have := HK1.out; omega⟩, ⟨by repeat with_reducible first | exact HB.out | apply pw_below_drewN | apply below_drew1 | apply below_alloc⟩⟩
   rw [if_pos c11] at H
   have c11b0 := decide_eq_true c11
   clear c11
   by_cases c12 : (wrap64 (x3_1 - 1)) = 0
   ·
    rw [if_pos c12] at H
    have c12b0 : ((wrap64 (x3_1 - 1)) == 0) = true := beq_iff_eq.mpr c12
    have c12b1 : ((wrap64 (x3_1 - 1)) != 0) = false := bne_eq_false_iff_eq.mpr c12
    clear c12
    simp only [Option.some.injEq, Prod.mk.injEq] at H
    obtain ⟨rfl, rfl⟩ := H
    have p343 : 0 ≤ (x10_1 : Int) := of_decide_eq_true (by assumption)
    have q343 : x10_1 < (l0.length : Int) := of_decide_eq_true (by assumption)
    obtain ⟨ad343, e343, hx343_0⟩ := Kd.at_int HR0.out x10_1 p343 q343
    cases e343
    replace hx343_0 := (HB.out.cell (World.block_lt_of_cell? w _ hx343_0)).trans hx343_0
    replace p343 := eq_true p343
    replace q343 := eq_true q343
    go_wp2_with (first | ((with_reducible refine gate_callee (f := 60) rfl ?_); refine goesL_ (some 30) rfl rfl Tryd.func60 (by kernel_rfl) rfl #[.slice (some ad343) l0.length c0, .int .i64 x10_1] rfl (map2 rfl rfl) ?_; (with_reducible refine (quillref12_Mate.calls k1 _ _ l0 x10_1 t344 _ ?side1 ?side2 A10.out).mono ?_); (case side1 => repeat (first | exact (Kd.C_below HR0.out HB.out) | with_reducible first | refine Kd.C_drewN ?_ _ | refine Kd.C_drew ?_ | refine Kd.C_alloc ?_ _)); (case side2 => exact HC0.out); rintro e w13 ⟨rfl, hb⟩; refine ⟨_, rfl, ?_⟩; have n0_ := Aside0.mk (below_step (by repeat with_reducible first | exact HB.out | apply pw_below_drewN | apply below_drew1 | apply below_alloc) hb); clear HB; have HB := n0_; clear n0_; (try clear hb); (try clear hb2); (try clear hk); (try clear hi)))
    go_ret2
    exact ⟨by first | rfl | (simp [errW_none, errW_some] <;> rfl) | (simp only [← hji5]; first | rfl | (simp [errW_none, errW_some] <;> rfl)) | (simp [*, errW_none, errW_some] <;> rfl), by repeat with_reducible first | exact HB.out | apply pw_below_drewN | apply below_drew1 | apply below_alloc⟩
   rw [if_neg c12] at H
   have c12b0 : ((wrap64 (x3_1 - 1)) == 0) = false := beq_eq_false_iff_ne.mpr c12
   have c12b1 : ((wrap64 (x3_1 - 1)) != 0) = true := bne_iff_ne.mpr c12
   have H' := Aside0.mk H
   clear H
   have p343 : 0 ≤ (x10_1 : Int) := of_decide_eq_true (by assumption)
   have q343 : x10_1 < (l0.length : Int) := of_decide_eq_true (by assumption)
   obtain ⟨ad343, e343, hx343_0⟩ := Kd.at_int HR0.out x10_1 p343 q343
   cases e343
   replace hx343_0 := (HB.out.cell (World.block_lt_of_cell? w _ hx343_0)).trans hx343_0
   replace p343 := eq_true p343
   replace q343 := eq_true q343
   go_wp2_with (first | ((with_reducible refine gate_callee (f := 60) rfl ?_); refine goesL_ (some 30) rfl rfl Tryd.func60 (by kernel_rfl) rfl #[.slice (some ad343) l0.length c0, .int .i64 x10_1] rfl (map2 rfl rfl) ?_; (with_reducible refine (quillref12_Mate.calls k1 _ _ l0 x10_1 t344 _ ?side1 ?side2 A10.out).mono ?_); (case side1 => repeat (first | exact (Kd.C_below HR0.out HB.out) | with_reducible first | refine Kd.C_drewN ?_ _ | refine Kd.C_drew ?_ | refine Kd.C_alloc ?_ _)); (case side2 => exact HC0.out); rintro e w14 ⟨rfl, hb⟩; refine ⟨_, rfl, ?_⟩; have n0_ := Aside0.mk (below_step (by repeat with_reducible first | exact HB.out | apply pw_below_drewN | apply below_drew1 | apply below_alloc) hb); clear HB; have HB := n0_; clear n0_; (try clear hb); (try clear hb2); (try clear hk); (try clear hi)))
   go_roundg k1
   case measure => have := HK1.out; omega
   case rel => exact ⟨(wrap64 (x3_1 - 1)), (wrap64 (x10_1 - 1)), (by first | rfl | (simp; done) | (simp [*]; done)), (by first | rfl | (simp; done) | (simp [*]; done)), H', ⟨by have := HK1.out; omega⟩, ⟨by repeat with_reducible first | exact HB.out | apply pw_below_drewN | apply below_drew1 | apply below_alloc⟩⟩

/-! ### quillref15_Piece: function 22 -/
mutual
def quillref15_Piece.j0 : Nat → List Int → Int → Int → Int → Int → Int → Bool → Option (Int × Int × Bool × Int)
  | 0, _, _, _, _, _, _, _ => none
  | k + 1, x0, x1, x2, x3, x4, x15, x45 => if x45 = true then (if x4 = 1 then ((quillref15_word.f k x0 x1 x2 (x3 == 87)).bind fun bt346 => (some (bt346.1, bt346.2.1, bt346.2.2.1, bt346.2.2.2))) else (some (0, 0, false, 6))) else (if x15 = 34 then (if x4 = 1 then ((quillref15_quoted.f k x0 x1 x2).bind fun bt350 => (some (bt350.1, bt350.2.1, bt350.2.2.1, bt350.2.2.2))) else (some (0, 0, false, 6))) else (if x15 = 112 then (if x4 = 1 then ((quillref15_paragraph.f k x0 x1 x2).bind fun bt354 => (some (bt354.1, bt354.2.1, bt354.2.2.1, bt354.2.2.2))) else (some (0, 0, false, 6))) else (if x3 = 91 then (quillref15_Piece.j1 k x0 x1 x2 x4 40 x3 (x3 == 91)) else (quillref15_Piece.j1 k x0 x1 x2 x4 40 x3 (x3 == 93)))))
def quillref15_Piece.j2 : Nat → List Int → Int → Int → Int → Int → Option (Int × Int × Bool × Int)
  | 0, _, _, _, _, _ => none
  | k + 1, x0, x1, x2, x4, x12 => (quillref12_Around.f k x0 x1 (wrap64 (x12)) x4).bind fun bt358 => (if bt358.1 ≥ 0 then (if x2 = 105 then (some (wrap64 (bt358.1 + 1), bt358.2, false, 0)) else (some (bt358.1, wrap64 (bt358.2 + 1), false, 0))) else (some (0, 0, false, 6)))
def quillref15_Piece.j1 : Nat → List Int → Int → Int → Int → Int → Int → Bool → Option (Int × Int × Bool × Int)
  | 0, _, _, _, _, _, _, _ => none
  | k + 1, x0, x1, x2, x4, x12, x16, x17 => if x17 = true then (quillref15_Piece.j2 k x0 x1 x2 x4 91) else (if x16 = 123 then (quillref15_Piece.j2 k x0 x1 x2 x4 123) else (if x16 = 125 then (quillref15_Piece.j2 k x0 x1 x2 x4 123) else (if x16 = 66 then (quillref15_Piece.j2 k x0 x1 x2 x4 123) else (quillref15_Piece.j2 k x0 x1 x2 x4 x12))))
end
def quillref15_Piece.f (k : Nat) (l0 : List Int) (a1 : Int) (a2 : Int) (a3 : Int) (a4 : Int) : Option (Int × Int × Bool × Int) := if a3 = 119 then (quillref15_Piece.j0 k l0 a1 a2 a3 a4 a3 (a3 == 119)) else (quillref15_Piece.j0 k l0 a1 a2 a3 a4 a3 (a3 == 87))
theorem quillref15_Piece.mono_l : ∀ k, (∀ y0 y1 y2 y3 y4 y5 y6, LeO (quillref15_Piece.j0 k y0 y1 y2 y3 y4 y5 y6) (quillref15_Piece.j0 (k + 1) y0 y1 y2 y3 y4 y5 y6)) ∧ (∀ y0 y1 y2 y3 y4, LeO (quillref15_Piece.j2 k y0 y1 y2 y3 y4) (quillref15_Piece.j2 (k + 1) y0 y1 y2 y3 y4)) ∧ (∀ y0 y1 y2 y3 y4 y5 y6, LeO (quillref15_Piece.j1 k y0 y1 y2 y3 y4 y5 y6) (quillref15_Piece.j1 (k + 1) y0 y1 y2 y3 y4 y5 y6))
  | 0 => ⟨fun _ _ _ _ _ _ _ r h => by simp [quillref15_Piece.j0] at h, fun _ _ _ _ _ r h => by simp [quillref15_Piece.j2] at h, fun _ _ _ _ _ _ _ r h => by simp [quillref15_Piece.j1] at h⟩
  | k + 1 => by
    obtain ⟨ih0, ih1, ih2⟩ := quillref15_Piece.mono_l k
    refine ⟨?_, ?_, ?_⟩
    all_goals intros
    all_goals first | unfold quillref15_Piece.j0 | unfold quillref15_Piece.j2 | unfold quillref15_Piece.j1
    all_goals repeat' first | (with_reducible first | exact ih0 _ _ _ _ _ _ _ | exact ih1 _ _ _ _ _ | exact ih2 _ _ _ _ _ _ _ | exact quillref12_Around.mono _ _ _ _ _ | exact quillref15_paragraph.mono _ _ _ _ | exact quillref15_quoted.mono _ _ _ _ | exact quillref15_word.mono _ _ _ _ _ | exact LeO.refl _ | exact LeO.none _ | refine LeO.ite ?_ ?_ | refine LeO.bind ?_ (fun _ => ?_)) | exact ih0 _ _ _ _ _ _ _ | exact ih1 _ _ _ _ _ | exact ih2 _ _ _ _ _ _ _ | exact quillref12_Around.mono _ _ _ _ _ | exact quillref15_paragraph.mono _ _ _ _ | exact quillref15_quoted.mono _ _ _ _ | exact quillref15_word.mono _ _ _ _ _ | exact LeO.refl _ | exact LeO.none _ | refine LeO.ite ?_ ?_ | refine LeO.bind ?_ (fun _ => ?_)
theorem quillref15_Piece.mono : ∀ a0 a1 a2 a3 a4 k, LeO (quillref15_Piece.f k a0 a1 a2 a3 a4) (quillref15_Piece.f (k + 1) a0 a1 a2 a3 a4) := by
  intro a0 a1 a2 a3 a4 k
  obtain ⟨ih0, ih1, ih2⟩ := quillref15_Piece.mono_l k
  unfold quillref15_Piece.f
  repeat' first | (with_reducible first | exact ih0 _ _ _ _ _ _ _ | exact ih1 _ _ _ _ _ | exact ih2 _ _ _ _ _ _ _ | exact quillref12_Around.mono _ _ _ _ _ | exact quillref15_paragraph.mono _ _ _ _ | exact quillref15_quoted.mono _ _ _ _ | exact quillref15_word.mono _ _ _ _ _ | exact LeO.refl _ | exact LeO.none _ | refine LeO.ite ?_ ?_ | refine LeO.bind ?_ (fun _ => ?_)) | exact ih0 _ _ _ _ _ _ _ | exact ih1 _ _ _ _ _ | exact ih2 _ _ _ _ _ _ _ | exact quillref12_Around.mono _ _ _ _ _ | exact quillref15_paragraph.mono _ _ _ _ | exact quillref15_quoted.mono _ _ _ _ | exact quillref15_word.mono _ _ _ _ _ | exact LeO.refl _ | exact LeO.none _ | refine LeO.ite ?_ ?_ | refine LeO.bind ?_ (fun _ => ?_)
set_option maxHeartbeats 8000000 in
set_option maxRecDepth 100000 in
theorem quillref15_Piece.calls (k : Nat) (A0 : Option Addr) (c0 : Nat) (l0 : List Int) (a1 : Int) (a2 : Int) (a3 : Int) (a4 : Int) (r1 : Int) (r2 : Int) (r3 : Bool) (r4 : Int) (w : World) (hr0 : Kd.C (Kd.int .i32) w A0 l0.length l0) (hc0 : l0.length ≤ c0) (h : quillref15_Piece.f k l0 a1 a2 a3 a4 = some (r1, r2, r3, r4)) :
  Calls Tryd.prog 22 #[.slice A0 l0.length c0, .int .i64 a1, .int .i64 a2, .int .i64 a3, .int .i64 a4] w fun e w' => e = .returned (.tuple #[.agg #[.int .i64 r1, .int .i64 r2, .bool r3], .int .i64 r4]) ∧ Below w.heap.size w w' := by
 have hu35 := Tryd.underlying35
 have HR0 := Aside0.mk hr0
 have HC0 := Aside0.mk hc0
 clear hr0 hc0
 have HB := Aside0.mk (Below.refl w.heap.size w)
 have H : (if a3 = 119 then (quillref15_Piece.j0 k l0 a1 a2 a3 a4 a3 (a3 == 119)) else (quillref15_Piece.j0 k l0 a1 a2 a3 a4 a3 (a3 == 87))) = some (r1, r2, r3, r4) := h
 clear h
 have HC6 := Aside0.mk H
 clear H
 go_enter Tryd.func22, Tryd.ntmps22
 go_upto_if 45 with (first | ((with_reducible refine gate_dst (N := 10) rfl ?_); refine box_event ?hg (N := 10) ?hd (cs := #[.int .i64 0, .int .i64 0, .bool false]) (t := 35) ?hr ?_; (case hd => rfl); (case hg => rfl); (case hr => first | (go_simp; done) | (go_simp; rfl)); intro gb345 hg w7 hbox hb; have n0_ := Aside0.mk (below_step (by repeat with_reducible first | exact HB.out | apply pw_below_drewN | apply below_drew1 | apply below_alloc) hb); have n1_ := Aside0.mk (hbox); have n2_ := Aside0.mk (geb hg (by repeat with_reducible first | exact HB.out | apply pw_below_drewN | apply below_drew1 | apply below_alloc)); have n3_ := n2_; clear HB; have HB := n0_; have BK345 := n1_; have GW345 := n2_; have GE345 := n3_; clear n0_ n1_ n2_ n3_; clear hb hbox hg))
 (try simp only [Act.put, List.setIfInBounds_toArray, List.set_cons_zero, List.set_cons_succ])
 go_cut [45] (fun v45 wc => ∃ (kq : Nat) (x45_5 : Bool), v45 = .bool x45_5 ∧ Aside0 (quillref15_Piece.j0 kq l0 a1 a2 a3 a4 a3 x45_5 = some (r1, r2, r3, r4)) ∧ Aside0 (kq ≤ k) ∧ Aside0 (wc.heap[gb345]? = some (.cells #[.int .i64 0, .int .i64 0, .bool false] 35 (0, 0))) ∧ Aside0 (Below w.heap.size w wc))
 case first =>
  have H := HC6.out
  clear HC6
  by_cases c8 : a3 = 119
  rotate_left
  ·
   rw [if_neg c8] at H
   have c8b0 : (a3 == 119) = false := beq_eq_false_iff_ne.mpr c8
   have c8b1 : (a3 != 119) = true := bne_iff_ne.mpr c8
   (first | rw [c8b0] | (simp only [i64_w, i32_w]; rw [c8b0]) | skip)
   have H' := Aside0.mk H
   clear H
   go_wp2
   go_meet
   case rel => exact ⟨_, ((a3 == 87)), (by first | rfl | (simp; done) | (simp [*]; done)), H', ⟨by first | omega | exact Nat.le_refl _⟩, ⟨BK345.out⟩, ⟨by repeat with_reducible first | exact HB.out | apply pw_below_drewN | apply below_drew1 | apply below_alloc⟩⟩
  rw [if_pos c8] at H
  have c8b0 : (a3 == 119) = true := beq_iff_eq.mpr c8
  have c8b1 : (a3 != 119) = false := bne_eq_false_iff_eq.mpr c8
  clear c8
  (first | rw [c8b0] | (simp only [i64_w, i32_w]; rw [c8b0]) | skip)
  have H' := Aside0.mk H
  clear H
  go_wp2
  go_meet
  case rel => exact ⟨_, ((a3 == 119)), (by first | rfl | (simp; done) | (simp [*]; done)), H', ⟨by first | omega | exact Nat.le_refl _⟩, ⟨BK345.out⟩, ⟨by repeat with_reducible first | exact HB.out | apply pw_below_drewN | apply below_drew1 | apply below_alloc⟩⟩
 case rest =>
  clear HC6
  obtain ⟨kq, x45_5, rfl, HA, HJ5, BK345, HB⟩ := hcut
  cases kq with
  | zero => exact absurd HA.out (by simp [quillref15_Piece.j0])
  | succ kj5 =>
   have H := HA.out
   clear HA
   simp only [quillref15_Piece.j0] at H
   by_cases c9 : x45_5 = true
   ·
    subst c9
    have H1 : (if a4 = 1 then ((quillref15_word.f kj5 l0 a1 a2 (a3 == 87)).bind fun bt346 => (some (bt346.1, bt346.2.1, bt346.2.2.1, bt346.2.2.2))) else (some (0, 0, false, 6))) = some (r1, r2, r3, r4) := by rw [if_pos rfl] at H; exact H
    clear H
    have H := H1
    clear H1
    by_cases c10 : a4 = 1
    rotate_left
    ·
     rw [if_neg c10] at H
     have c10b0 : (a4 == 1) = false := beq_eq_false_iff_ne.mpr c10
     have c10b1 : (a4 != 1) = true := bne_iff_ne.mpr c10
     simp only [Option.some.injEq, Prod.mk.injEq] at H
     obtain ⟨rfl, rfl, rfl, rfl⟩ := H
     have hcz14_0 := cz0 BK345.out
     have hcz14_1 := cz1 BK345.out
     have hcz14_2 := cz2 BK345.out
     have hfz14_0 := blk_frozen BK345.out 0
     have hfz14_1 := blk_frozen BK345.out 1
     have hfz14_2 := blk_frozen BK345.out 2
     go_wp2
     refine bodyPost_ret (results_ct rfl _ _ gb345 35 #[.int .i64 0, .int .i64 0, .bool false] (0, 0) _ rfl (by (with_reducible repeat (first | refine blk_drewN ?_ _ | refine blk_drew ?_ | refine blk_alloc ?_ _)); refine blk_put (cs := #[.int .i64 0, .int .i64 0, .bool false]) ?_ 2 _ rfl; (with_reducible repeat (first | refine blk_drewN ?_ _ | refine blk_drew ?_ | refine blk_alloc ?_ _)); refine blk_put (cs := #[.int .i64 0, .int .i64 0, .bool false]) ?_ 1 _ rfl; (with_reducible repeat (first | refine blk_drewN ?_ _ | refine blk_drew ?_ | refine blk_alloc ?_ _)); refine blk_put (cs := #[.int .i64 0, .int .i64 0, .bool false]) ?_ 0 _ rfl; (with_reducible repeat (first | refine blk_drewN ?_ _ | refine blk_drew ?_ | refine blk_alloc ?_ _)); exact BK345.out) Tryd.underlying35 rfl (by kernel_rfl)) rfl ?_
     exact ⟨by first | rfl | (simp [errW_none, errW_some] <;> rfl) | (simp [*, errW_none, errW_some] <;> rfl), by repeat with_reducible first | exact HB.out | apply pw_below_drewN | refine below_set ?_ GE345.out | apply below_drew1 | apply below_alloc⟩
    rw [if_pos c10] at H
    have c10b0 : (a4 == 1) = true := beq_iff_eq.mpr c10
    have c10b1 : (a4 != 1) = false := bne_eq_false_iff_eq.mpr c10
    clear c10
    replace H := Option.bind_eq_some_iff.mp H
    obtain ⟨⟨t346, t347, t348, t349⟩, A110, H⟩ := H
    (try dsimp only at H)
    have A11 := Aside0.mk A110
    clear A110
    simp only [Option.some.injEq, Prod.mk.injEq] at H
    obtain ⟨rfl, rfl, rfl, rfl⟩ := H
    go_wp2_with (first | ((with_reducible refine gate_callee (f := 37) rfl ?_); refine goesL_ (some 55) rfl rfl Tryd.func37 (by kernel_rfl) rfl #[.slice A0 l0.length c0, .int .i64 a1, .int .i64 a2, .bool (a3 == 87)] rfl (map4 rfl rfl rfl rfl) ?_; (with_reducible refine (quillref15_word.calls kj5 _ _ l0 a1 a2 (a3 == 87) t346 t347 t348 t349 _ ?side1 ?side2 A11.out).mono ?_); (case side1 => repeat (first | exact (Kd.C_below HR0.out HB.out) | with_reducible first | refine Kd.C_drewN ?_ _ | refine Kd.C_drew ?_ | refine Kd.C_alloc ?_ _)); (case side2 => exact HC0.out); rintro e w12 ⟨rfl, hb⟩; refine ⟨_, rfl, ?_⟩; have n0_ := Aside0.mk (blb hb BK345.out); have n1_ := Aside0.mk (below_step (by repeat with_reducible first | exact HB.out | apply pw_below_drewN | apply below_drew1 | apply below_alloc) hb); clear BK345; clear HB; have BK345 := n0_; have HB := n1_; clear n0_ n1_; (try clear hb); (try clear hb2); (try clear hk); (try clear hi); have hcz13_0 := cz0 BK345.out; have hcz13_1 := cz1 BK345.out; have hcz13_2 := cz2 BK345.out; have hfz13_0 := blk_frozen BK345.out 0; have hfz13_1 := blk_frozen BK345.out 1; have hfz13_2 := blk_frozen BK345.out 2))
    refine bodyPost_ret (results_ct rfl _ _ gb345 35 #[.int .i64 t346, .int .i64 t347, .bool t348] (0, 0) _ rfl (by (with_reducible repeat (first | refine blk_drewN ?_ _ | refine blk_drew ?_ | refine blk_alloc ?_ _)); refine blk_put (cs := #[.int .i64 t346, .int .i64 t347, .bool false]) ?_ 2 _ rfl; (with_reducible repeat (first | refine blk_drewN ?_ _ | refine blk_drew ?_ | refine blk_alloc ?_ _)); refine blk_put (cs := #[.int .i64 t346, .int .i64 0, .bool false]) ?_ 1 _ rfl; (with_reducible repeat (first | refine blk_drewN ?_ _ | refine blk_drew ?_ | refine blk_alloc ?_ _)); refine blk_put (cs := #[.int .i64 0, .int .i64 0, .bool false]) ?_ 0 _ rfl; (with_reducible repeat (first | refine blk_drewN ?_ _ | refine blk_drew ?_ | refine blk_alloc ?_ _)); exact BK345.out) Tryd.underlying35 rfl (by kernel_rfl)) rfl ?_
    exact ⟨by first | rfl | (simp [errW_none, errW_some] <;> rfl) | (simp [*, errW_none, errW_some] <;> rfl), by repeat with_reducible first | exact HB.out | apply pw_below_drewN | refine below_set ?_ GE345.out | apply below_drew1 | apply below_alloc⟩
   replace c9 := Bool.eq_false_iff.mpr c9
   subst c9
   have H1 : (if a3 = 34 then (if a4 = 1 then ((quillref15_quoted.f kj5 l0 a1 a2).bind fun bt350 => (some (bt350.1, bt350.2.1, bt350.2.2.1, bt350.2.2.2))) else (some (0, 0, false, 6))) else (if a3 = 112 then (if a4 = 1 then ((quillref15_paragraph.f kj5 l0 a1 a2).bind fun bt354 => (some (bt354.1, bt354.2.1, bt354.2.2.1, bt354.2.2.2))) else (some (0, 0, false, 6))) else (if a3 = 91 then (quillref15_Piece.j1 kj5 l0 a1 a2 a4 40 a3 (a3 == 91)) else (quillref15_Piece.j1 kj5 l0 a1 a2 a4 40 a3 (a3 == 93))))) = some (r1, r2, r3, r4) := by rw [if_neg (show ¬ (false = true) by decide)] at H; exact H
   clear H
   have H := H1
   clear H1
   by_cases c15 : a3 = 34
   ·
    rw [if_pos c15] at H
    have c15b0 : (a3 == 34) = true := beq_iff_eq.mpr c15
    have c15b1 : (a3 != 34) = false := bne_eq_false_iff_eq.mpr c15
    clear c15
    by_cases c16 : a4 = 1
    rotate_left
    ·
     rw [if_neg c16] at H
     have c16b0 : (a4 == 1) = false := beq_eq_false_iff_ne.mpr c16
     have c16b1 : (a4 != 1) = true := bne_iff_ne.mpr c16
     simp only [Option.some.injEq, Prod.mk.injEq] at H
     obtain ⟨rfl, rfl, rfl, rfl⟩ := H
     have hcz20_0 := cz0 BK345.out
     have hcz20_1 := cz1 BK345.out
     have hcz20_2 := cz2 BK345.out
     have hfz20_0 := blk_frozen BK345.out 0
     have hfz20_1 := blk_frozen BK345.out 1
     have hfz20_2 := blk_frozen BK345.out 2
     go_wp2
     refine bodyPost_ret (results_ct rfl _ _ gb345 35 #[.int .i64 0, .int .i64 0, .bool false] (0, 0) _ rfl (by (with_reducible repeat (first | refine blk_drewN ?_ _ | refine blk_drew ?_ | refine blk_alloc ?_ _)); refine blk_put (cs := #[.int .i64 0, .int .i64 0, .bool false]) ?_ 2 _ rfl; (with_reducible repeat (first | refine blk_drewN ?_ _ | refine blk_drew ?_ | refine blk_alloc ?_ _)); refine blk_put (cs := #[.int .i64 0, .int .i64 0, .bool false]) ?_ 1 _ rfl; (with_reducible repeat (first | refine blk_drewN ?_ _ | refine blk_drew ?_ | refine blk_alloc ?_ _)); refine blk_put (cs := #[.int .i64 0, .int .i64 0, .bool false]) ?_ 0 _ rfl; (with_reducible repeat (first | refine blk_drewN ?_ _ | refine blk_drew ?_ | refine blk_alloc ?_ _)); exact BK345.out) Tryd.underlying35 rfl (by kernel_rfl)) rfl ?_
     exact ⟨by first | rfl | (simp [errW_none, errW_some] <;> rfl) | (simp [*, errW_none, errW_some] <;> rfl), by repeat with_reducible first | exact HB.out | apply pw_below_drewN | refine below_set ?_ GE345.out | apply below_drew1 | apply below_alloc⟩
    rw [if_pos c16] at H
    have c16b0 : (a4 == 1) = true := beq_iff_eq.mpr c16
    have c16b1 : (a4 != 1) = false := bne_eq_false_iff_eq.mpr c16
    clear c16
    replace H := Option.bind_eq_some_iff.mp H
    obtain ⟨⟨t350, t351, t352, t353⟩, A170, H⟩ := H
    (try dsimp only at H)
    have A17 := Aside0.mk A170
    clear A170
    simp only [Option.some.injEq, Prod.mk.injEq] at H
    obtain ⟨rfl, rfl, rfl, rfl⟩ := H
    go_wp2_with (first | ((with_reducible refine gate_callee (f := 38) rfl ?_); refine goesL_ (some 65) rfl rfl Tryd.func38 (by kernel_rfl) rfl #[.slice A0 l0.length c0, .int .i64 a1, .int .i64 a2] rfl (map3 rfl rfl rfl) ?_; (with_reducible refine (quillref15_quoted.calls kj5 _ _ l0 a1 a2 t350 t351 t352 t353 _ ?side1 ?side2 A17.out).mono ?_); (case side1 => repeat (first | exact (Kd.C_below HR0.out HB.out) | with_reducible first | refine Kd.C_drewN ?_ _ | refine Kd.C_drew ?_ | refine Kd.C_alloc ?_ _)); (case side2 => exact HC0.out); rintro e w18 ⟨rfl, hb⟩; refine ⟨_, rfl, ?_⟩; have n0_ := Aside0.mk (blb hb BK345.out); have n1_ := Aside0.mk (below_step (by repeat with_reducible first | exact HB.out | apply pw_below_drewN | apply below_drew1 | apply below_alloc) hb); clear BK345; clear HB; have BK345 := n0_; have HB := n1_; clear n0_ n1_; (try clear hb); (try clear hb2); (try clear hk); (try clear hi); have hcz19_0 := cz0 BK345.out; have hcz19_1 := cz1 BK345.out; have hcz19_2 := cz2 BK345.out; have hfz19_0 := blk_frozen BK345.out 0; have hfz19_1 := blk_frozen BK345.out 1; have hfz19_2 := blk_frozen BK345.out 2))
    refine bodyPost_ret (results_ct rfl _ _ gb345 35 #[.int .i64 t350, .int .i64 t351, .bool t352] (0, 0) _ rfl (by (with_reducible repeat (first | refine blk_drewN ?_ _ | refine blk_drew ?_ | refine blk_alloc ?_ _)); refine blk_put (cs := #[.int .i64 t350, .int .i64 t351, .bool false]) ?_ 2 _ rfl; (with_reducible repeat (first | refine blk_drewN ?_ _ | refine blk_drew ?_ | refine blk_alloc ?_ _)); refine blk_put (cs := #[.int .i64 t350, .int .i64 0, .bool false]) ?_ 1 _ rfl; (with_reducible repeat (first | refine blk_drewN ?_ _ | refine blk_drew ?_ | refine blk_alloc ?_ _)); refine blk_put (cs := #[.int .i64 0, .int .i64 0, .bool false]) ?_ 0 _ rfl; (with_reducible repeat (first | refine blk_drewN ?_ _ | refine blk_drew ?_ | refine blk_alloc ?_ _)); exact BK345.out) Tryd.underlying35 rfl (by kernel_rfl)) rfl ?_
    exact ⟨by first | rfl | (simp [errW_none, errW_some] <;> rfl) | (simp [*, errW_none, errW_some] <;> rfl), by repeat with_reducible first | exact HB.out | apply pw_below_drewN | refine below_set ?_ GE345.out | apply below_drew1 | apply below_alloc⟩
   rw [if_neg c15] at H
   have c15b0 : (a3 == 34) = false := beq_eq_false_iff_ne.mpr c15
   have c15b1 : (a3 != 34) = true := bne_iff_ne.mpr c15
   by_cases c21 : a3 = 112
   ·
    rw [if_pos c21] at H
    have c21b0 : (a3 == 112) = true := beq_iff_eq.mpr c21
    have c21b1 : (a3 != 112) = false := bne_eq_false_iff_eq.mpr c21
    clear c21
    by_cases c22 : a4 = 1
    rotate_left
    ·
     rw [if_neg c22] at H
     have c22b0 : (a4 == 1) = false := beq_eq_false_iff_ne.mpr c22
     have c22b1 : (a4 != 1) = true := bne_iff_ne.mpr c22
     simp only [Option.some.injEq, Prod.mk.injEq] at H
     obtain ⟨rfl, rfl, rfl, rfl⟩ := H
     have hcz26_0 := cz0 BK345.out
     have hcz26_1 := cz1 BK345.out
     have hcz26_2 := cz2 BK345.out
     have hfz26_0 := blk_frozen BK345.out 0
     have hfz26_1 := blk_frozen BK345.out 1
     have hfz26_2 := blk_frozen BK345.out 2
     go_wp2
     refine bodyPost_ret (results_ct rfl _ _ gb345 35 #[.int .i64 0, .int .i64 0, .bool false] (0, 0) _ rfl (by (with_reducible repeat (first | refine blk_drewN ?_ _ | refine blk_drew ?_ | refine blk_alloc ?_ _)); refine blk_put (cs := #[.int .i64 0, .int .i64 0, .bool false]) ?_ 2 _ rfl; (with_reducible repeat (first | refine blk_drewN ?_ _ | refine blk_drew ?_ | refine blk_alloc ?_ _)); refine blk_put (cs := #[.int .i64 0, .int .i64 0, .bool false]) ?_ 1 _ rfl; (with_reducible repeat (first | refine blk_drewN ?_ _ | refine blk_drew ?_ | refine blk_alloc ?_ _)); refine blk_put (cs := #[.int .i64 0, .int .i64 0, .bool false]) ?_ 0 _ rfl; (with_reducible repeat (first | refine blk_drewN ?_ _ | refine blk_drew ?_ | refine blk_alloc ?_ _)); exact BK345.out) Tryd.underlying35 rfl (by kernel_rfl)) rfl ?_
     exact ⟨by first | rfl | (simp [errW_none, errW_some] <;> rfl) | (simp [*, errW_none, errW_some] <;> rfl), by repeat with_reducible first | exact HB.out | apply pw_below_drewN | refine below_set ?_ GE345.out | apply below_drew1 | apply below_alloc⟩
    rw [if_pos c22] at H
    have c22b0 : (a4 == 1) = true := beq_iff_eq.mpr c22
    have c22b1 : (a4 != 1) = false := bne_eq_false_iff_eq.mpr c22
    clear c22
    replace H := Option.bind_eq_some_iff.mp H
    obtain ⟨⟨t354, t355, t356, t357⟩, A230, H⟩ := H
    (try dsimp only at H)
    have A23 := Aside0.mk A230
    clear A230
    simp only [Option.some.injEq, Prod.mk.injEq] at H
    obtain ⟨rfl, rfl, rfl, rfl⟩ := H
    go_wp2_with (first | ((with_reducible refine gate_callee (f := 39) rfl ?_); refine goesL_ (some 75) rfl rfl Tryd.func39 (by kernel_rfl) rfl #[.slice A0 l0.length c0, .int .i64 a1, .int .i64 a2] rfl (map3 rfl rfl rfl) ?_; (with_reducible refine (quillref15_paragraph.calls kj5 _ _ l0 a1 a2 t354 t355 t356 t357 _ ?side1 ?side2 A23.out).mono ?_); (case side1 => repeat (first | exact (Kd.C_below HR0.out HB.out) | with_reducible first | refine Kd.C_drewN ?_ _ | refine Kd.C_drew ?_ | refine Kd.C_alloc ?_ _)); (case side2 => exact HC0.out); rintro e w24 ⟨rfl, hb⟩; refine ⟨_, rfl, ?_⟩; have n0_ := Aside0.mk (blb hb BK345.out); have n1_ := Aside0.mk (below_step (by repeat with_reducible first | exact HB.out | apply pw_below_drewN | apply below_drew1 | apply below_alloc) hb); clear BK345; clear HB; have BK345 := n0_; have HB := n1_; clear n0_ n1_; (try clear hb); (try clear hb2); (try clear hk); (try clear hi); have hcz25_0 := cz0 BK345.out; have hcz25_1 := cz1 BK345.out; have hcz25_2 := cz2 BK345.out; have hfz25_0 := blk_frozen BK345.out 0; have hfz25_1 := blk_frozen BK345.out 1; have hfz25_2 := blk_frozen BK345.out 2))
    refine bodyPost_ret (results_ct rfl _ _ gb345 35 #[.int .i64 t354, .int .i64 t355, .bool t356] (0, 0) _ rfl (by (with_reducible repeat (first | refine blk_drewN ?_ _ | refine blk_drew ?_ | refine blk_alloc ?_ _)); refine blk_put (cs := #[.int .i64 t354, .int .i64 t355, .bool false]) ?_ 2 _ rfl; (with_reducible repeat (first | refine blk_drewN ?_ _ | refine blk_drew ?_ | refine blk_alloc ?_ _)); refine blk_put (cs := #[.int .i64 t354, .int .i64 0, .bool false]) ?_ 1 _ rfl; (with_reducible repeat (first | refine blk_drewN ?_ _ | refine blk_drew ?_ | refine blk_alloc ?_ _)); refine blk_put (cs := #[.int .i64 0, .int .i64 0, .bool false]) ?_ 0 _ rfl; (with_reducible repeat (first | refine blk_drewN ?_ _ | refine blk_drew ?_ | refine blk_alloc ?_ _)); exact BK345.out) Tryd.underlying35 rfl (by kernel_rfl)) rfl ?_
    exact ⟨by first | rfl | (simp [errW_none, errW_some] <;> rfl) | (simp [*, errW_none, errW_some] <;> rfl), by repeat with_reducible first | exact HB.out | apply pw_below_drewN | refine below_set ?_ GE345.out | apply below_drew1 | apply below_alloc⟩
   rw [if_neg c21] at H
   have c21b0 : (a3 == 112) = false := beq_eq_false_iff_ne.mpr c21
   have c21b1 : (a3 != 112) = true := bne_iff_ne.mpr c21
   have HC27 := Aside0.mk H
   clear H
   go_upto_block 1 with (fail)
   go_cut [12] (fun v12 wc => ∃ (kq : Nat) (x12_26 : Int), v12 = .int .i32 x12_26 ∧ Aside0 (quillref15_Piece.j2 kq l0 a1 a2 a4 x12_26 = some (r1, r2, r3, r4)) ∧ Aside0 (kq ≤ kj5) ∧ Aside0 (wc.heap[gb345]? = some (.cells #[.int .i64 0, .int .i64 0, .bool false] 35 (0, 0))) ∧ Aside0 (Below w.heap.size w wc))
   case first =>
    have H := HC27.out
    clear HC27
    have HC28 := Aside0.mk H
    clear H
    go_upto_if 17 with (fail)
    go_cut [17] (fun v17 wc => ∃ (kq : Nat) (x17_27 : Bool), v17 = .bool x17_27 ∧ Aside0 (quillref15_Piece.j1 kq l0 a1 a2 a4 40 a3 x17_27 = some (r1, r2, r3, r4)) ∧ Aside0 (kq ≤ kj5) ∧ Aside0 (wc.heap[gb345]? = some (.cells #[.int .i64 0, .int .i64 0, .bool false] 35 (0, 0))) ∧ Aside0 (Below w.heap.size w wc))
    case first =>
     have H := HC28.out
     clear HC28
     by_cases c29 : a3 = 91
     rotate_left
     ·
      rw [if_neg c29] at H
      have c29b0 : (a3 == 91) = false := beq_eq_false_iff_ne.mpr c29
      have c29b1 : (a3 != 91) = true := bne_iff_ne.mpr c29
      (first | rw [c29b0] | (simp only [i64_w, i32_w]; rw [c29b0]) | skip)
      have H' := Aside0.mk H
      clear H
      go_wp2
      go_meet
      case rel => exact ⟨_, ((a3 == 93)), (by first | rfl | (simp; done) | (simp [*]; done)), H', ⟨by have := HJ5.out; first | omega | exact Nat.le_refl _⟩, ⟨BK345.out⟩, ⟨by repeat with_reducible first | exact HB.out | apply pw_below_drewN | apply below_drew1 | apply below_alloc⟩⟩
     rw [if_pos c29] at H
     have c29b0 : (a3 == 91) = true := beq_iff_eq.mpr c29
     have c29b1 : (a3 != 91) = false := bne_eq_false_iff_eq.mpr c29
     clear c29
     (first | rw [c29b0] | (simp only [i64_w, i32_w]; rw [c29b0]) | skip)
     have H' := Aside0.mk H
     clear H
     go_wp2
     go_meet
     case rel => exact ⟨_, ((a3 == 91)), (by first | rfl | (simp; done) | (simp [*]; done)), H', ⟨by have := HJ5.out; first | omega | exact Nat.le_refl _⟩, ⟨BK345.out⟩, ⟨by repeat with_reducible first | exact HB.out | apply pw_below_drewN | apply below_drew1 | apply below_alloc⟩⟩
    case rest =>
     clear HC28
     try clear c9
     try clear c15
     try clear c15b0
     try clear c15b1
     try clear c21
     try clear c21b0
     try clear c21b1
     obtain ⟨kq, x17_27, rfl, HA, HJ27, BK345, HB⟩ := hcut
     cases kq with
     | zero => exact absurd HA.out (by simp [quillref15_Piece.j1])
     | succ kj27 =>
      have H := HA.out
      clear HA
      simp only [quillref15_Piece.j1] at H
      by_cases c30 : x17_27 = true
      ·
       subst c30
       have H1 : (quillref15_Piece.j2 kj27 l0 a1 a2 a4 91) = some (r1, r2, r3, r4) := by rw [if_pos rfl] at H; exact H
       clear H
       have H := H1
       clear H1
       have H' := Aside0.mk H
       clear H
       go_wp2
       go_meet
       case rel => exact ⟨_, (91), (by first | rfl | (simp; done) | (simp [*]; done)), H', ⟨by have := HJ5.out; have := HJ27.out; first | omega | exact Nat.le_refl _⟩, ⟨BK345.out⟩, ⟨by repeat with_reducible first | exact HB.out | apply pw_below_drewN | apply below_drew1 | apply below_alloc⟩⟩
      replace c30 := Bool.eq_false_iff.mpr c30
      subst c30
      have H1 : (if a3 = 123 then (quillref15_Piece.j2 kj27 l0 a1 a2 a4 123) else (if a3 = 125 then (quillref15_Piece.j2 kj27 l0 a1 a2 a4 123) else (if a3 = 66 then (quillref15_Piece.j2 kj27 l0 a1 a2 a4 123) else (quillref15_Piece.j2 kj27 l0 a1 a2 a4 40)))) = some (r1, r2, r3, r4) := by rw [if_neg (show ¬ (false = true) by decide)] at H; exact H
      clear H
      have H := H1
      clear H1
      by_cases c31 : a3 = 123
      ·
       rw [if_pos c31] at H
       have c31b0 : (a3 == 123) = true := beq_iff_eq.mpr c31
       have c31b1 : (a3 != 123) = false := bne_eq_false_iff_eq.mpr c31
       clear c31
       have H' := Aside0.mk H
       clear H
       go_wp2
       go_meet
       case rel => exact ⟨_, (123), (by first | rfl | (simp; done) | (simp [*]; done)), H', ⟨by have := HJ5.out; have := HJ27.out; first | omega | exact Nat.le_refl _⟩, ⟨BK345.out⟩, ⟨by repeat with_reducible first | exact HB.out | apply pw_below_drewN | apply below_drew1 | apply below_alloc⟩⟩
      rw [if_neg c31] at H
      have c31b0 : (a3 == 123) = false := beq_eq_false_iff_ne.mpr c31
      have c31b1 : (a3 != 123) = true := bne_iff_ne.mpr c31
      by_cases c32 : a3 = 125
      ·
       rw [if_pos c32] at H
       have c32b0 : (a3 == 125) = true := beq_iff_eq.mpr c32
       have c32b1 : (a3 != 125) = false := bne_eq_false_iff_eq.mpr c32
       clear c32
       have H' := Aside0.mk H
       clear H
       go_wp2
       go_meet
       case rel => exact ⟨_, (123), (by first | rfl | (simp; done) | (simp [*]; done)), H', ⟨by have := HJ5.out; have := HJ27.out; first | omega | exact Nat.le_refl _⟩, ⟨BK345.out⟩, ⟨by repeat with_reducible first | exact HB.out | apply pw_below_drewN | apply below_drew1 | apply below_alloc⟩⟩
      rw [if_neg c32] at H
      have c32b0 : (a3 == 125) = false := beq_eq_false_iff_ne.mpr c32
      have c32b1 : (a3 != 125) = true := bne_iff_ne.mpr c32
      by_cases c33 : a3 = 66
      rotate_left
      ·
       rw [if_neg c33] at H
       have c33b0 : (a3 == 66) = false := beq_eq_false_iff_ne.mpr c33
       have c33b1 : (a3 != 66) = true := bne_iff_ne.mpr c33
       have H' := Aside0.mk H
       clear H
       go_wp2
       go_meet
       case rel => exact ⟨_, (40), (by first | rfl | (simp; done) | (simp [*]; done)), H', ⟨by have := HJ5.out; have := HJ27.out; first | omega | exact Nat.le_refl _⟩, ⟨BK345.out⟩, ⟨by repeat with_reducible first | exact HB.out | apply pw_below_drewN | apply below_drew1 | apply below_alloc⟩⟩
      rw [if_pos c33] at H
      have c33b0 : (a3 == 66) = true := beq_iff_eq.mpr c33
      have c33b1 : (a3 != 66) = false := bne_eq_false_iff_eq.mpr c33
      clear c33
      have H' := Aside0.mk H
      clear H
      go_wp2
      go_meet
      case rel => exact ⟨_, (123), (by first | rfl | (simp; done) | (simp [*]; done)), H', ⟨by have := HJ5.out; have := HJ27.out; first | omega | exact Nat.le_refl _⟩, ⟨BK345.out⟩, ⟨by repeat with_reducible first | exact HB.out | apply pw_below_drewN | apply below_drew1 | apply below_alloc⟩⟩
   case rest =>
    clear HC27
    try clear c9
    try clear c15
    try clear c15b0
    try clear c15b1
    try clear c21
    try clear c21b0
    try clear c21b1
    obtain ⟨kq, x12_26, rfl, HA, HJ26, BK345, HB⟩ := hcut
    cases kq with
    | zero => exact absurd HA.out (by simp [quillref15_Piece.j2])
    | succ kj26 =>
     have H := HA.out
     clear HA
     simp only [quillref15_Piece.j2] at H
     replace H := Option.bind_eq_some_iff.mp H
     obtain ⟨⟨t358, t359⟩, A340, H⟩ := H
     (try dsimp only at H)
     have A34 := Aside0.mk A340
     clear A340
     by_cases c35 : t358 ≥ 0
     rotate_left
     ·
      rw [if_neg c35] at H
      have c35b0 := decide_eq_false c35
      clear c35
      simp only [Option.some.injEq, Prod.mk.injEq] at H
      obtain ⟨rfl, rfl, rfl, rfl⟩ := H
      go_wp2_with (first | ((with_reducible refine gate_callee (f := 40) rfl ?_); refine goesL_ (some 30) rfl rfl Tryd.func40 (by kernel_rfl) rfl #[.slice A0 l0.length c0, .int .i64 a1, .int .i64 (wrap64 (x12_26)), .int .i64 a4] rfl (map4 rfl rfl rfl rfl) ?_; (with_reducible refine (quillref12_Around.calls kj26 _ _ l0 a1 (wrap64 (x12_26)) a4 t358 t359 _ ?side1 ?side2 A34.out).mono ?_); (case side1 => repeat (first | exact (Kd.C_below HR0.out HB.out) | with_reducible first | refine Kd.C_drewN ?_ _ | refine Kd.C_drew ?_ | refine Kd.C_alloc ?_ _)); (case side2 => exact HC0.out); rintro e w41 ⟨rfl, hb⟩; refine ⟨_, rfl, ?_⟩; have n0_ := Aside0.mk (blb hb BK345.out); have n1_ := Aside0.mk (below_step (by repeat with_reducible first | exact HB.out | apply pw_below_drewN | apply below_drew1 | apply below_alloc) hb); clear BK345; clear HB; have BK345 := n0_; have HB := n1_; clear n0_ n1_; (try clear hb); (try clear hb2); (try clear hk); (try clear hi); have hcz42_0 := cz0 BK345.out; have hcz42_1 := cz1 BK345.out; have hcz42_2 := cz2 BK345.out; have hfz42_0 := blk_frozen BK345.out 0; have hfz42_1 := blk_frozen BK345.out 1; have hfz42_2 := blk_frozen BK345.out 2))
      refine bodyPost_ret (results_ct rfl _ _ gb345 35 #[.int .i64 0, .int .i64 0, .bool false] (0, 0) _ rfl (by (with_reducible repeat (first | refine blk_drewN ?_ _ | refine blk_drew ?_ | refine blk_alloc ?_ _)); refine blk_put (cs := #[.int .i64 0, .int .i64 0, .bool false]) ?_ 2 _ rfl; (with_reducible repeat (first | refine blk_drewN ?_ _ | refine blk_drew ?_ | refine blk_alloc ?_ _)); refine blk_put (cs := #[.int .i64 0, .int .i64 0, .bool false]) ?_ 1 _ rfl; (with_reducible repeat (first | refine blk_drewN ?_ _ | refine blk_drew ?_ | refine blk_alloc ?_ _)); refine blk_put (cs := #[.int .i64 0, .int .i64 0, .bool false]) ?_ 0 _ rfl; (with_reducible repeat (first | refine blk_drewN ?_ _ | refine blk_drew ?_ | refine blk_alloc ?_ _)); exact BK345.out) Tryd.underlying35 rfl (by kernel_rfl)) rfl ?_
      exact ⟨by first | rfl | (simp [errW_none, errW_some] <;> rfl) | (simp [*, errW_none, errW_some] <;> rfl), by repeat with_reducible first | exact HB.out | apply pw_below_drewN | refine below_set ?_ GE345.out | apply below_drew1 | apply below_alloc⟩
     rw [if_pos c35] at H
     have c35b0 := decide_eq_true c35
     clear c35
     by_cases c36 : a2 = 105
     rotate_left
     ·
      rw [if_neg c36] at H
      have c36b0 : (a2 == 105) = false := beq_eq_false_iff_ne.mpr c36
      have c36b1 : (a2 != 105) = true := bne_iff_ne.mpr c36
      simp only [Option.some.injEq, Prod.mk.injEq] at H
      obtain ⟨rfl, rfl, rfl, rfl⟩ := H
      go_wp2_with (first | ((with_reducible refine gate_callee (f := 40) rfl ?_); refine goesL_ (some 30) rfl rfl Tryd.func40 (by kernel_rfl) rfl #[.slice A0 l0.length c0, .int .i64 a1, .int .i64 (wrap64 (x12_26)), .int .i64 a4] rfl (map4 rfl rfl rfl rfl) ?_; (with_reducible refine (quillref12_Around.calls kj26 _ _ l0 a1 (wrap64 (x12_26)) a4 t358 t359 _ ?side1 ?side2 A34.out).mono ?_); (case side1 => repeat (first | exact (Kd.C_below HR0.out HB.out) | with_reducible first | refine Kd.C_drewN ?_ _ | refine Kd.C_drew ?_ | refine Kd.C_alloc ?_ _)); (case side2 => exact HC0.out); rintro e w39 ⟨rfl, hb⟩; refine ⟨_, rfl, ?_⟩; have n0_ := Aside0.mk (blb hb BK345.out); have n1_ := Aside0.mk (below_step (by repeat with_reducible first | exact HB.out | apply pw_below_drewN | apply below_drew1 | apply below_alloc) hb); clear BK345; clear HB; have BK345 := n0_; have HB := n1_; clear n0_ n1_; (try clear hb); (try clear hb2); (try clear hk); (try clear hi); have hcz40_0 := cz0 BK345.out; have hcz40_1 := cz1 BK345.out; have hcz40_2 := cz2 BK345.out; have hfz40_0 := blk_frozen BK345.out 0; have hfz40_1 := blk_frozen BK345.out 1; have hfz40_2 := blk_frozen BK345.out 2))
      refine bodyPost_ret (results_ct rfl _ _ gb345 35 #[.int .i64 t358, .int .i64 (wrap64 (t359 + 1)), .bool false] (0, 0) _ rfl (by (with_reducible repeat (first | refine blk_drewN ?_ _ | refine blk_drew ?_ | refine blk_alloc ?_ _)); refine blk_put (cs := #[.int .i64 t358, .int .i64 (wrap64 (t359 + 1)), .bool false]) ?_ 2 _ rfl; (with_reducible repeat (first | refine blk_drewN ?_ _ | refine blk_drew ?_ | refine blk_alloc ?_ _)); refine blk_put (cs := #[.int .i64 t358, .int .i64 0, .bool false]) ?_ 1 _ rfl; (with_reducible repeat (first | refine blk_drewN ?_ _ | refine blk_drew ?_ | refine blk_alloc ?_ _)); refine blk_put (cs := #[.int .i64 0, .int .i64 0, .bool false]) ?_ 0 _ rfl; (with_reducible repeat (first | refine blk_drewN ?_ _ | refine blk_drew ?_ | refine blk_alloc ?_ _)); exact BK345.out) Tryd.underlying35 rfl (by kernel_rfl)) rfl ?_
      exact ⟨by first | rfl | (simp [errW_none, errW_some] <;> rfl) | (simp [*, errW_none, errW_some] <;> rfl), by repeat with_reducible first | exact HB.out | apply pw_below_drewN | refine below_set ?_ GE345.out | apply below_drew1 | apply below_alloc⟩
     rw [if_pos c36] at H
     have c36b0 : (a2 == 105) = true := beq_iff_eq.mpr c36
     have c36b1 : (a2 != 105) = false := bne_eq_false_iff_eq.mpr c36
     clear c36
     simp only [Option.some.injEq, Prod.mk.injEq] at H
     obtain ⟨rfl, rfl, rfl, rfl⟩ := H
     go_wp2_with (first | ((with_reducible refine gate_callee (f := 40) rfl ?_); refine goesL_ (some 30) rfl rfl Tryd.func40 (by kernel_rfl) rfl #[.slice A0 l0.length c0, .int .i64 a1, .int .i64 (wrap64 (x12_26)), .int .i64 a4] rfl (map4 rfl rfl rfl rfl) ?_; (with_reducible refine (quillref12_Around.calls kj26 _ _ l0 a1 (wrap64 (x12_26)) a4 t358 t359 _ ?side1 ?side2 A34.out).mono ?_); (case side1 => repeat (first | exact (Kd.C_below HR0.out HB.out) | with_reducible first | refine Kd.C_drewN ?_ _ | refine Kd.C_drew ?_ | refine Kd.C_alloc ?_ _)); (case side2 => exact HC0.out); rintro e w37 ⟨rfl, hb⟩; refine ⟨_, rfl, ?_⟩; have n0_ := Aside0.mk (blb hb BK345.out); have n1_ := Aside0.mk (below_step (by repeat with_reducible first | exact HB.out | apply pw_below_drewN | apply below_drew1 | apply below_alloc) hb); clear BK345; clear HB; have BK345 := n0_; have HB := n1_; clear n0_ n1_; (try clear hb); (try clear hb2); (try clear hk); (try clear hi); have hcz38_0 := cz0 BK345.out; have hcz38_1 := cz1 BK345.out; have hcz38_2 := cz2 BK345.out; have hfz38_0 := blk_frozen BK345.out 0; have hfz38_1 := blk_frozen BK345.out 1; have hfz38_2 := blk_frozen BK345.out 2))
     refine bodyPost_ret (results_ct rfl _ _ gb345 35 #[.int .i64 (wrap64 (t358 + 1)), .int .i64 t359, .bool false] (0, 0) _ rfl (by (with_reducible repeat (first | refine blk_drewN ?_ _ | refine blk_drew ?_ | refine blk_alloc ?_ _)); refine blk_put (cs := #[.int .i64 (wrap64 (t358 + 1)), .int .i64 t359, .bool false]) ?_ 2 _ rfl; (with_reducible repeat (first | refine blk_drewN ?_ _ | refine blk_drew ?_ | refine blk_alloc ?_ _)); refine blk_put (cs := #[.int .i64 (wrap64 (t358 + 1)), .int .i64 0, .bool false]) ?_ 1 _ rfl; (with_reducible repeat (first | refine blk_drewN ?_ _ | refine blk_drew ?_ | refine blk_alloc ?_ _)); refine blk_put (cs := #[.int .i64 0, .int .i64 0, .bool false]) ?_ 0 _ rfl; (with_reducible repeat (first | refine blk_drewN ?_ _ | refine blk_drew ?_ | refine blk_alloc ?_ _)); exact BK345.out) Tryd.underlying35 rfl (by kernel_rfl)) rfl ?_
     exact ⟨by first | rfl | (simp [errW_none, errW_some] <;> rfl) | (simp [*, errW_none, errW_some] <;> rfl), by repeat with_reducible first | exact HB.out | apply pw_below_drewN | refine below_set ?_ GE345.out | apply below_drew1 | apply below_alloc⟩

end Go.Proofs.YtgikaemhhaejoaaDoor.P
