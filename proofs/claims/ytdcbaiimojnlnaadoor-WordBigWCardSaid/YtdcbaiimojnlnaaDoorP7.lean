/- The walks of the functions that these statements reach: each Go function as a plain Lean function, and the proof that its call comes to that. Written by the session's program wip/pp.py. -/
import Derived.Test.YtdcbaiimojnlnaaDoorP0
import Derived.Test.YtdcbaiimojnlnaaDoorP6
namespace Go.Proofs.YtdcbaiimojnlnaaDoor.P
open Go.Proofs.YtdcbaiimojnlnaaDoor
open Go.RowKit Go.Proofs.YtdcbaiimojnlnaaDoorW.PrintWords Go.Proofs.YtdcbaiimojnlnaaDoorW.PrintLast Go.Proofs.YtdcbaiimojnlnaaDoorW.PrintMore
attribute [local go_sem] max2_int min2_int max_two min_two max_three min_three max_four min_four   -- for this text's walks alone
set_option linter.unusedVariables false
set_option linter.unusedSimpArgs false

/-! ### quillref10_Move: function 29 -/
mutual
def quillref10_Move.j0 : Nat → Int → Int → List Int → List Int → Int → Option (Int × Int)
  | 0, _, _, _, _, _ => none
  | k + 1, x1, x3, x10, x11, x12 => quillref10_Move.l0 k x1 x3 x10 x11 x12 x1 0
def quillref10_Move.l0 : Nat → Int → Int → List Int → List Int → Int → Int → Int → Option (Int × Int)
  | 0, _, _, _, _, _, _, _ => none
  | k + 1, x1, x3, x10, x11, x12, x13, x14 => if x14 < x3 then (if x12 = 119 then (quillref10_Move.j2 k x1 x3 x10 x11 x12 x13 x14 (-1) (x12 == 119)) else (quillref10_Move.j2 k x1 x3 x10 x11 x12 x13 x14 (-1) (x12 == 101))) else (if x13 = x1 then (some (0, 6)) else (some (x13, 0)))
def quillref10_Move.j2 : Nat → Int → Int → List Int → List Int → Int → Int → Int → Int → Bool → Option (Int × Int)
  | 0, _, _, _, _, _, _, _, _, _ => none
  | k + 1, x1, x3, x10, x11, x12, x13, x14, x15, x66 => if x66 = true then (if x12 = 101 then (quillref10_Move.j3 k x1 x3 x10 x11 x12 x13 x14 x15 1) else (quillref10_Move.j3 k x1 x3 x10 x11 x12 x13 x14 x15 (-1))) else (quillref10_Move.l2 k x1 x3 x10 x11 x12 x13 x14 x15 0)
def quillref10_Move.j3 : Nat → Int → Int → List Int → List Int → Int → Int → Int → Int → Int → Option (Int × Int)
  | 0, _, _, _, _, _, _, _, _, _ => none
  | k + 1, x1, x3, x10, x11, x12, x13, x14, x15, x16 => quillref10_Move.l1 k x1 x3 x10 x11 x12 x13 x14 x15 x16 (wrap64 ((x10.length : Int) - 1))
def quillref10_Move.l1 : Nat → Int → Int → List Int → List Int → Int → Int → Int → Int → Int → Int → Option (Int × Int)
  | 0, _, _, _, _, _, _, _, _, _, _ => none
  | k + 1, x1, x3, x10, x11, x12, x13, x14, x15, x16, x17 => if x17 ≥ 0 then (if 0 ≤ x17 then (if x17 < (x10.length : Int) then (if (rd x10 x17) > x13 then ((quillref10_edge.f x10 x11 x17 x16).bind fun t237 => (if t237 = true then (quillref10_Move.l1 k x1 x3 x10 x11 x12 x13 x14 (rd x10 x17) x16 (wrap64 (x17 - 1))) else (quillref10_Move.l1 k x1 x3 x10 x11 x12 x13 x14 x15 x16 (wrap64 (x17 - 1))))) else (quillref10_Move.l1 k x1 x3 x10 x11 x12 x13 x14 x15 x16 (wrap64 (x17 - 1)))) else (none)) else (none)) else (if x15 < 0 then (if 0 ≤ (wrap64 ((x10.length : Int) - 1)) then (if (wrap64 ((x10.length : Int) - 1)) < (x10.length : Int) then (if (rd x10 (wrap64 ((x10.length : Int) - 1))) = x13 then (if x13 = x1 then (some (0, 6)) else (some (x13, 0))) else (quillref10_Move.l0 k x1 x3 x10 x11 x12 (rd x10 (wrap64 ((x10.length : Int) - 1))) (wrap64 (x14 + 1)))) else (none)) else (none)) else (if x15 = x13 then (if x13 = x1 then (some (0, 6)) else (some (x13, 0))) else (quillref10_Move.l0 k x1 x3 x10 x11 x12 x15 (wrap64 (x14 + 1)))))
def quillref10_Move.l2 : Nat → Int → Int → List Int → List Int → Int → Int → Int → Int → Int → Option (Int × Int)
  | 0, _, _, _, _, _, _, _, _, _ => none
  | k + 1, x1, x3, x10, x11, x12, x13, x14, x15, x18 => if x18 < (x10.length : Int) then (if 0 ≤ x18 then (if (rd x10 x18) < x13 then ((quillref10_edge.f x10 x11 x18 (-1)).bind fun t241 => (if t241 = true then (quillref10_Move.l2 k x1 x3 x10 x11 x12 x13 x14 (rd x10 x18) (wrap64 (x18 + 1))) else (quillref10_Move.l2 k x1 x3 x10 x11 x12 x13 x14 x15 (wrap64 (x18 + 1))))) else (quillref10_Move.l2 k x1 x3 x10 x11 x12 x13 x14 x15 (wrap64 (x18 + 1)))) else (none)) else (if x15 < 0 then (if 0 < (x10.length : Int) then (if (rd x10 0) = x13 then (if x13 = x1 then (some (0, 6)) else (some (x13, 0))) else (quillref10_Move.l0 k x1 x3 x10 x11 x12 (rd x10 0) (wrap64 (x14 + 1)))) else (none)) else (if x15 = x13 then (if x13 = x1 then (some (0, 6)) else (some (x13, 0))) else (quillref10_Move.l0 k x1 x3 x10 x11 x12 x15 (wrap64 (x14 + 1)))))
end
def quillref10_Move.f (k : Nat) (l0 : List Int) (a1 : Int) (a2 : Int) (a3 : Int) : Option (Int × Int) := (quillref10_Cells.f k l0 (decide (a2 < 97))).bind fun bt230 => (if a2 < 97 then (quillref10_Move.j0 k a1 a3 bt230.1 bt230.2 (wrap64 ((wrap64 (a2 + 97)) - 65))) else (quillref10_Move.j0 k a1 a3 bt230.1 bt230.2 a2))
theorem quillref10_Move.mono_l : ∀ k, (∀ y0 y1 y2 y3 y4, LeO (quillref10_Move.j0 k y0 y1 y2 y3 y4) (quillref10_Move.j0 (k + 1) y0 y1 y2 y3 y4)) ∧ (∀ y0 y1 y2 y3 y4 y5 y6, LeO (quillref10_Move.l0 k y0 y1 y2 y3 y4 y5 y6) (quillref10_Move.l0 (k + 1) y0 y1 y2 y3 y4 y5 y6)) ∧ (∀ y0 y1 y2 y3 y4 y5 y6 y7 y8, LeO (quillref10_Move.j2 k y0 y1 y2 y3 y4 y5 y6 y7 y8) (quillref10_Move.j2 (k + 1) y0 y1 y2 y3 y4 y5 y6 y7 y8)) ∧ (∀ y0 y1 y2 y3 y4 y5 y6 y7 y8, LeO (quillref10_Move.j3 k y0 y1 y2 y3 y4 y5 y6 y7 y8) (quillref10_Move.j3 (k + 1) y0 y1 y2 y3 y4 y5 y6 y7 y8)) ∧ (∀ y0 y1 y2 y3 y4 y5 y6 y7 y8 y9, LeO (quillref10_Move.l1 k y0 y1 y2 y3 y4 y5 y6 y7 y8 y9) (quillref10_Move.l1 (k + 1) y0 y1 y2 y3 y4 y5 y6 y7 y8 y9)) ∧ (∀ y0 y1 y2 y3 y4 y5 y6 y7 y8, LeO (quillref10_Move.l2 k y0 y1 y2 y3 y4 y5 y6 y7 y8) (quillref10_Move.l2 (k + 1) y0 y1 y2 y3 y4 y5 y6 y7 y8))
  | 0 => ⟨fun _ _ _ _ _ r h => by simp [quillref10_Move.j0] at h, fun _ _ _ _ _ _ _ r h => by simp [quillref10_Move.l0] at h, fun _ _ _ _ _ _ _ _ _ r h => by simp [quillref10_Move.j2] at h, fun _ _ _ _ _ _ _ _ _ r h => by simp [quillref10_Move.j3] at h, fun _ _ _ _ _ _ _ _ _ _ r h => by simp [quillref10_Move.l1] at h, fun _ _ _ _ _ _ _ _ _ r h => by simp [quillref10_Move.l2] at h⟩
  | k + 1 => by
    obtain ⟨ih0, ih1, ih2, ih3, ih4, ih5⟩ := quillref10_Move.mono_l k
    refine ⟨?_, ?_, ?_, ?_, ?_, ?_⟩
    · intro y0 y1 y2 y3 y4
      unfold quillref10_Move.j0
      repeat' first
      | (with_reducible exact ih0 _ _ _ _ _)
      | (with_reducible exact ih1 _ _ _ _ _ _ _)
      | (with_reducible exact ih2 _ _ _ _ _ _ _ _ _)
      | (with_reducible exact ih3 _ _ _ _ _ _ _ _ _)
      | (with_reducible exact ih4 _ _ _ _ _ _ _ _ _ _)
      | (with_reducible exact ih5 _ _ _ _ _ _ _ _ _)
      | (with_reducible exact quillref10_Cells.mono _ _ _)
      | (with_reducible exact LeO.refl _)
      | (with_reducible exact LeO.none _)
      | (with_reducible refine LeO.ite ?_ ?_)
      | (with_reducible refine LeO.bind ?_ (fun _ => ?_))
      | exact ih0 _ _ _ _ _
      | exact ih1 _ _ _ _ _ _ _
      | exact ih2 _ _ _ _ _ _ _ _ _
      | exact ih3 _ _ _ _ _ _ _ _ _
      | exact ih4 _ _ _ _ _ _ _ _ _ _
      | exact ih5 _ _ _ _ _ _ _ _ _
      | exact quillref10_Cells.mono _ _ _
      | exact LeO.none _
      | refine LeO.ite ?_ ?_
      | refine LeO.bind ?_ (fun _ => ?_)
    · intro y0 y1 y2 y3 y4 y5 y6
      unfold quillref10_Move.l0
      repeat' first
      | (with_reducible exact ih0 _ _ _ _ _)
      | (with_reducible exact ih1 _ _ _ _ _ _ _)
      | (with_reducible exact ih2 _ _ _ _ _ _ _ _ _)
      | (with_reducible exact ih3 _ _ _ _ _ _ _ _ _)
      | (with_reducible exact ih4 _ _ _ _ _ _ _ _ _ _)
      | (with_reducible exact ih5 _ _ _ _ _ _ _ _ _)
      | (with_reducible exact quillref10_Cells.mono _ _ _)
      | (with_reducible exact LeO.refl _)
      | (with_reducible exact LeO.none _)
      | (with_reducible refine LeO.ite ?_ ?_)
      | (with_reducible refine LeO.bind ?_ (fun _ => ?_))
      | exact ih0 _ _ _ _ _
      | exact ih1 _ _ _ _ _ _ _
      | exact ih2 _ _ _ _ _ _ _ _ _
      | exact ih3 _ _ _ _ _ _ _ _ _
      | exact ih4 _ _ _ _ _ _ _ _ _ _
      | exact ih5 _ _ _ _ _ _ _ _ _
      | exact quillref10_Cells.mono _ _ _
      | exact LeO.none _
      | refine LeO.ite ?_ ?_
      | refine LeO.bind ?_ (fun _ => ?_)
    · intro y0 y1 y2 y3 y4 y5 y6 y7 y8
      unfold quillref10_Move.j2
      repeat' first
      | (with_reducible exact ih0 _ _ _ _ _)
      | (with_reducible exact ih1 _ _ _ _ _ _ _)
      | (with_reducible exact ih2 _ _ _ _ _ _ _ _ _)
      | (with_reducible exact ih3 _ _ _ _ _ _ _ _ _)
      | (with_reducible exact ih4 _ _ _ _ _ _ _ _ _ _)
      | (with_reducible exact ih5 _ _ _ _ _ _ _ _ _)
      | (with_reducible exact quillref10_Cells.mono _ _ _)
      | (with_reducible exact LeO.refl _)
      | (with_reducible exact LeO.none _)
      | (with_reducible refine LeO.ite ?_ ?_)
      | (with_reducible refine LeO.bind ?_ (fun _ => ?_))
      | exact ih0 _ _ _ _ _
      | exact ih1 _ _ _ _ _ _ _
      | exact ih2 _ _ _ _ _ _ _ _ _
      | exact ih3 _ _ _ _ _ _ _ _ _
      | exact ih4 _ _ _ _ _ _ _ _ _ _
      | exact ih5 _ _ _ _ _ _ _ _ _
      | exact quillref10_Cells.mono _ _ _
      | exact LeO.none _
      | refine LeO.ite ?_ ?_
      | refine LeO.bind ?_ (fun _ => ?_)
    · intro y0 y1 y2 y3 y4 y5 y6 y7 y8
      unfold quillref10_Move.j3
      repeat' first
      | (with_reducible exact ih0 _ _ _ _ _)
      | (with_reducible exact ih1 _ _ _ _ _ _ _)
      | (with_reducible exact ih2 _ _ _ _ _ _ _ _ _)
      | (with_reducible exact ih3 _ _ _ _ _ _ _ _ _)
      | (with_reducible exact ih4 _ _ _ _ _ _ _ _ _ _)
      | (with_reducible exact ih5 _ _ _ _ _ _ _ _ _)
      | (with_reducible exact quillref10_Cells.mono _ _ _)
      | (with_reducible exact LeO.refl _)
      | (with_reducible exact LeO.none _)
      | (with_reducible refine LeO.ite ?_ ?_)
      | (with_reducible refine LeO.bind ?_ (fun _ => ?_))
      | exact ih0 _ _ _ _ _
      | exact ih1 _ _ _ _ _ _ _
      | exact ih2 _ _ _ _ _ _ _ _ _
      | exact ih3 _ _ _ _ _ _ _ _ _
      | exact ih4 _ _ _ _ _ _ _ _ _ _
      | exact ih5 _ _ _ _ _ _ _ _ _
      | exact quillref10_Cells.mono _ _ _
      | exact LeO.none _
      | refine LeO.ite ?_ ?_
      | refine LeO.bind ?_ (fun _ => ?_)
    · intro y0 y1 y2 y3 y4 y5 y6 y7 y8 y9
      unfold quillref10_Move.l1
      repeat' first
      | (with_reducible exact ih0 _ _ _ _ _)
      | (with_reducible exact ih1 _ _ _ _ _ _ _)
      | (with_reducible exact ih2 _ _ _ _ _ _ _ _ _)
      | (with_reducible exact ih3 _ _ _ _ _ _ _ _ _)
      | (with_reducible exact ih4 _ _ _ _ _ _ _ _ _ _)
      | (with_reducible exact ih5 _ _ _ _ _ _ _ _ _)
      | (with_reducible exact quillref10_Cells.mono _ _ _)
      | (with_reducible exact LeO.refl _)
      | (with_reducible exact LeO.none _)
      | (with_reducible refine LeO.ite ?_ ?_)
      | (with_reducible refine LeO.bind ?_ (fun _ => ?_))
      | exact ih0 _ _ _ _ _
      | exact ih1 _ _ _ _ _ _ _
      | exact ih2 _ _ _ _ _ _ _ _ _
      | exact ih3 _ _ _ _ _ _ _ _ _
      | exact ih4 _ _ _ _ _ _ _ _ _ _
      | exact ih5 _ _ _ _ _ _ _ _ _
      | exact quillref10_Cells.mono _ _ _
      | exact LeO.none _
      | refine LeO.ite ?_ ?_
      | refine LeO.bind ?_ (fun _ => ?_)
    · intro y0 y1 y2 y3 y4 y5 y6 y7 y8
      unfold quillref10_Move.l2
      repeat' first
      | (with_reducible exact ih0 _ _ _ _ _)
      | (with_reducible exact ih1 _ _ _ _ _ _ _)
      | (with_reducible exact ih2 _ _ _ _ _ _ _ _ _)
      | (with_reducible exact ih3 _ _ _ _ _ _ _ _ _)
      | (with_reducible exact ih4 _ _ _ _ _ _ _ _ _ _)
      | (with_reducible exact ih5 _ _ _ _ _ _ _ _ _)
      | (with_reducible exact quillref10_Cells.mono _ _ _)
      | (with_reducible exact LeO.refl _)
      | (with_reducible exact LeO.none _)
      | (with_reducible refine LeO.ite ?_ ?_)
      | (with_reducible refine LeO.bind ?_ (fun _ => ?_))
      | exact ih0 _ _ _ _ _
      | exact ih1 _ _ _ _ _ _ _
      | exact ih2 _ _ _ _ _ _ _ _ _
      | exact ih3 _ _ _ _ _ _ _ _ _
      | exact ih4 _ _ _ _ _ _ _ _ _ _
      | exact ih5 _ _ _ _ _ _ _ _ _
      | exact quillref10_Cells.mono _ _ _
      | exact LeO.none _
      | refine LeO.ite ?_ ?_
      | refine LeO.bind ?_ (fun _ => ?_)
theorem quillref10_Move.mono : ∀ a0 a1 a2 a3 k, LeO (quillref10_Move.f k a0 a1 a2 a3) (quillref10_Move.f (k + 1) a0 a1 a2 a3) := by
  intro a0 a1 a2 a3 k
  obtain ⟨ih0, ih1, ih2, ih3, ih4, ih5⟩ := quillref10_Move.mono_l k
  unfold quillref10_Move.f
  repeat' first
      | (with_reducible exact ih0 _ _ _ _ _)
      | (with_reducible exact ih1 _ _ _ _ _ _ _)
      | (with_reducible exact ih2 _ _ _ _ _ _ _ _ _)
      | (with_reducible exact ih3 _ _ _ _ _ _ _ _ _)
      | (with_reducible exact ih4 _ _ _ _ _ _ _ _ _ _)
      | (with_reducible exact ih5 _ _ _ _ _ _ _ _ _)
      | (with_reducible exact quillref10_Cells.mono _ _ _)
      | (with_reducible exact LeO.refl _)
      | (with_reducible exact LeO.none _)
      | (with_reducible refine LeO.ite ?_ ?_)
      | (with_reducible refine LeO.bind ?_ (fun _ => ?_))
      | exact ih0 _ _ _ _ _
      | exact ih1 _ _ _ _ _ _ _
      | exact ih2 _ _ _ _ _ _ _ _ _
      | exact ih3 _ _ _ _ _ _ _ _ _
      | exact ih4 _ _ _ _ _ _ _ _ _ _
      | exact ih5 _ _ _ _ _ _ _ _ _
      | exact quillref10_Cells.mono _ _ _
      | exact LeO.none _
      | refine LeO.ite ?_ ?_
      | refine LeO.bind ?_ (fun _ => ?_)
set_option maxHeartbeats 8000000 in
set_option maxRecDepth 100000 in
theorem quillref10_Move.calls (k : Nat) (A0 : Option Addr) (c0 : Nat) (l0 : List Int) (a1 : Int) (a2 : Int) (a3 : Int) (r1 : Int) (r2 : Int) (w : World) (hr0 : Kd.C (Kd.int .i32) w A0 l0.length l0) (hc0 : l0.length ≤ c0) (h : quillref10_Move.f k l0 a1 a2 a3 = some (r1, r2)) :
  Calls Tryd.prog 29 #[.slice A0 l0.length c0, .int .i64 a1, .int .i64 a2, .int .i64 a3] w fun e w' => e = .returned (.tuple #[.int .i64 r1, .int .i64 r2]) ∧ Below w.heap.size w w' := by
 have HR0 := Aside0.mk hr0
 have HC0 := Aside0.mk hc0
 clear hr0 hc0
 have HB := Aside0.mk (Below.refl w.heap.size w)
 have H : ((quillref10_Cells.f k l0 (decide (a2 < 97))).bind fun bt230 => (if a2 < 97 then (quillref10_Move.j0 k a1 a3 bt230.1 bt230.2 (wrap64 ((wrap64 (a2 + 97)) - 65))) else (quillref10_Move.j0 k a1 a3 bt230.1 bt230.2 a2))) = some (r1, r2) := h
 clear h
 replace H := Option.bind_eq_some_iff.mp H
 obtain ⟨⟨t230, t231⟩, A50, H⟩ := H
 replace H : (if a2 < 97 then (quillref10_Move.j0 k a1 a3 t230 t231 (wrap64 ((wrap64 (a2 + 97)) - 65))) else (quillref10_Move.j0 k a1 a3 t230 t231 a2)) = some (r1, r2) := H
 have A5 := Aside0.mk A50
 clear A50
 have HC6 := Aside0.mk H
 clear H
 go_enter Tryd.func29, Tryd.ntmps29
 go_upto_if 28 with (first | ((with_reducible refine gate_callee (f := 18) rfl ?_); refine goesL_ (some 23) rfl rfl Tryd.func18 (by kernel_rfl) rfl #[.slice A0 l0.length c0, .bool (decide (a2 < 97))] rfl (by (try simp only [List.map_toArray, List.map_cons, List.map_nil]); first | done | rfl | (simp only [List.length_drop, List.length_take]; rfl)) ?_; (with_reducible refine (quillref10_Cells.calls k _ _ l0 (decide (a2 < 97)) t230 t231 _ ?side1 ?side2 A5.out).mono ?_); (case side1 => repeat (first | exact HR0.out | (with_reducible refine Kd.C_alloc ?_ _) | (with_reducible refine Kd.C_drewN ?_ _) | (with_reducible refine Kd.C_drew ?_))); (case side2 => exact HC0.out); rintro e w7 ⟨v232, v234, rfl, ho0, ho1, hb⟩; refine ⟨_, rfl, ?_⟩; have n0_ := Aside0.mk (Kd.R_lower ho0 (below_size (by repeat (first | (with_reducible first | exact HB.out | apply below_alloc | apply pw_below_drewN | apply below_drew1) | exact HB.out)))); have n1_ := Aside0.mk (Kd.R_lower ho1 (below_size (by repeat (first | (with_reducible first | exact HB.out | apply below_alloc | apply pw_below_drewN | apply below_drew1) | exact HB.out)))); have n2_ := Aside0.mk (below_step (by repeat (first | (with_reducible first | exact HB.out | apply below_alloc | apply pw_below_drewN | apply below_drew1) | exact HB.out)) hb); clear HB; have HO233 := n0_; have HO235 := n1_; have HB := n2_; clear n0_ n1_ n2_; (try clear hb); (try clear hb2); (try clear hk); (try clear hi); (try clear ho0); (try clear ho1)))
 (try simp only [Act.put, List.setIfInBounds_toArray, List.set_cons_zero, List.set_cons_succ])
 go_cut [12] (fun v12 wc => ∃ (kq : Nat) (x12_5 : Int), v12 = .int .i64 x12_5 ∧ Aside0 (quillref10_Move.j0 kq a1 a3 t230 t231 x12_5 = some (r1, r2)) ∧ Aside0 (kq ≤ k) ∧ Aside0 (Kd.R (Kd.int .i64) 3 wc w.heap.size (fun k_ => some k_ ≠ (v234 : Value).ownBlock) v232 t230) ∧ Aside0 (Kd.R (Kd.int .i64) 3 wc w.heap.size (fun k_ => some k_ ≠ (v232 : Value).ownBlock) v234 t231) ∧ Aside0 (Below w.heap.size w wc))
 case first =>
  have H := HC6.out
  clear HC6
  by_cases c8 : a2 < 97
  ·
   rw [if_pos c8] at H
   have c8b0 : decide (a2 < 97) = true := decide_eq_true c8
   clear c8
   (first | rw [c8b0] | (simp only [i64_w, i32_w]; rw [c8b0]) | skip)
   have H' := Aside0.mk H
   clear H
   go_wp2
   go_meet
   case rel => exact ⟨_, (wrap64 ((wrap64 (a2 + 97)) - 65)), (by first | rfl | (simp; done) | (simp [*]; done)), H', ⟨by first | omega | exact Nat.le_refl _⟩, ⟨by (with_reducible repeat (first | apply Kd.R_alloc | apply Kd.R_drewN | apply Kd.R_drew)); exact HO233.out⟩, ⟨by (with_reducible repeat (first | apply Kd.R_alloc | apply Kd.R_drewN | apply Kd.R_drew)); exact HO235.out⟩, ⟨by repeat (first | (with_reducible first | exact HB.out | apply below_alloc | apply pw_below_drewN | apply below_drew1) | exact HB.out)⟩⟩
  ·
   rw [if_neg c8] at H
   have c8b0 : decide (a2 < 97) = false := decide_eq_false c8
   clear c8
   (first | rw [c8b0] | (simp only [i64_w, i32_w]; rw [c8b0]) | skip)
   have H' := Aside0.mk H
   clear H
   go_wp2
   go_meet
   case rel => exact ⟨_, (a2), (by first | rfl | (simp; done) | (simp [*]; done)), H', ⟨by first | omega | exact Nat.le_refl _⟩, ⟨by (with_reducible repeat (first | apply Kd.R_alloc | apply Kd.R_drewN | apply Kd.R_drew)); exact HO233.out⟩, ⟨by (with_reducible repeat (first | apply Kd.R_alloc | apply Kd.R_drewN | apply Kd.R_drew)); exact HO235.out⟩, ⟨by repeat (first | (with_reducible first | exact HB.out | apply below_alloc | apply pw_below_drewN | apply below_drew1) | exact HB.out)⟩⟩
 case rest =>
  clear HC6
  try clear c1
  try clear c2
  try clear p2
  try clear p6
  try clear c8
  try clear c8b0
  obtain ⟨kq, x12_5, rfl, HA, HJ5, HO_10, HO_11, HB⟩ := hcut
  cases kq with
  | zero => exact absurd HA.out (by simp [quillref10_Move.j0])
  | succ kj5 =>
   have H := HA.out
   clear HA
   simp only [quillref10_Move.j0] at H
   have H' := Aside0.mk H
   clear H
   go_wp2
   go_loopg [13, 14] kj5 (fun kq v13 v14 w' => ∃ (x13_2 : Int) (x14_2 : Int), v13 = .int .i64 x13_2 ∧ v14 = .int .i64 x14_2 ∧ Aside0 (quillref10_Move.l0 kq a1 a3 t230 t231 x12_5 x13_2 x14_2 = some (r1, r2)) ∧ Aside0 (kq ≤ kj5) ∧ Aside0 (Kd.R (Kd.int .i64) 3 w' w.heap.size (fun k_ => some k_ ≠ (v234 : Value).ownBlock) v232 t230) ∧ Aside0 (Kd.R (Kd.int .i64) 3 w' w.heap.size (fun k_ => some k_ ≠ (v232 : Value).ownBlock) v234 t231) ∧ Aside0 (Below w.heap.size w w'))
   case atStart => exact ⟨(a1), (0), (by first | rfl | (simp; done) | (simp [*]; done)), (by first | rfl | (simp; done) | (simp [*]; done)), H', ⟨Nat.le_refl _⟩, ⟨by (with_reducible repeat (first | apply Kd.R_alloc | apply Kd.R_drewN | apply Kd.R_drew)); exact HO_10.out⟩, ⟨by (with_reducible repeat (first | apply Kd.R_alloc | apply Kd.R_drewN | apply Kd.R_drew)); exact HO_11.out⟩, ⟨by repeat (first | (with_reducible first | exact HB.out | apply below_alloc | apply pw_below_drewN | apply below_drew1) | exact HB.out)⟩⟩
   case round =>
    clear H'
    try clear c1
    try clear c2
    try clear p2
    try clear p6
    try clear c8
    try clear c8b0
    try clear p2
    try clear p6
    obtain ⟨x13_2, x14_2, rfl, rfl, HA, HK2, HO_10, HO_11, HB⟩ := hrel
    cases gk with
    | zero => exact absurd HA.out (by simp [quillref10_Move.l0])
    | succ k2 =>
     have H := HA.out
     clear HA
     simp only [quillref10_Move.l0] at H
     by_cases c9 : x14_2 < a3
     ·
      rw [if_pos c9] at H
      have c9b0 : decide (x14_2 < a3) = true := decide_eq_true c9
      clear c9
      have HC10 := Aside0.mk H
      clear H
      go_upto_if 66 with (fail)
      go_cut [66] (fun v66 wc => ∃ (kq : Nat) (x66_9 : Bool), v66 = .bool x66_9 ∧ Aside0 (quillref10_Move.j2 kq a1 a3 t230 t231 x12_5 x13_2 x14_2 (-1) x66_9 = some (r1, r2)) ∧ Aside0 (kq ≤ k2) ∧ Aside0 (Kd.R (Kd.int .i64) 3 wc w.heap.size (fun k_ => some k_ ≠ (v234 : Value).ownBlock) v232 t230) ∧ Aside0 (Kd.R (Kd.int .i64) 3 wc w.heap.size (fun k_ => some k_ ≠ (v232 : Value).ownBlock) v234 t231) ∧ Aside0 (Below w.heap.size w wc))
      case first =>
       have H := HC10.out
       clear HC10
       by_cases c11 : x12_5 = 119
       ·
        rw [if_pos c11] at H
        have c11b0 : (x12_5 == 119) = true := beq_iff_eq.mpr c11
        have c11b1 : (x12_5 != 119) = false := bne_eq_false_iff_eq.mpr c11
        clear c11
        (first | rw [c11b0] | (simp only [i64_w, i32_w]; rw [c11b0]) | skip)
        have H' := Aside0.mk H
        clear H
        go_wp2
        go_meet
        case rel => exact ⟨_, ((x12_5 == 119)), (by first | rfl | (simp; done) | (simp [*]; done)), H', ⟨by have := HJ5.out; have := HK2.out; first | omega | exact Nat.le_refl _⟩, ⟨by (with_reducible repeat (first | apply Kd.R_alloc | apply Kd.R_drewN | apply Kd.R_drew)); exact HO_10.out⟩, ⟨by (with_reducible repeat (first | apply Kd.R_alloc | apply Kd.R_drewN | apply Kd.R_drew)); exact HO_11.out⟩, ⟨by repeat (first | (with_reducible first | exact HB.out | apply below_alloc | apply pw_below_drewN | apply below_drew1) | exact HB.out)⟩⟩
       ·
        rw [if_neg c11] at H
        have c11b0 : (x12_5 == 119) = false := beq_eq_false_iff_ne.mpr c11
        have c11b1 : (x12_5 != 119) = true := bne_iff_ne.mpr c11
        (first | rw [c11b0] | (simp only [i64_w, i32_w]; rw [c11b0]) | skip)
        have H' := Aside0.mk H
        clear H
        go_wp2
        go_meet
        case rel => exact ⟨_, ((x12_5 == 101)), (by first | rfl | (simp; done) | (simp [*]; done)), H', ⟨by have := HJ5.out; have := HK2.out; first | omega | exact Nat.le_refl _⟩, ⟨by (with_reducible repeat (first | apply Kd.R_alloc | apply Kd.R_drewN | apply Kd.R_drew)); exact HO_10.out⟩, ⟨by (with_reducible repeat (first | apply Kd.R_alloc | apply Kd.R_drewN | apply Kd.R_drew)); exact HO_11.out⟩, ⟨by repeat (first | (with_reducible first | exact HB.out | apply below_alloc | apply pw_below_drewN | apply below_drew1) | exact HB.out)⟩⟩
      case rest =>
       clear HC10
       try clear c1
       try clear c2
       try clear p2
       try clear p6
       try clear c8
       try clear c8b0
       try clear c9
       try clear c9b0
       try clear c11
       try clear c11b0
       try clear c11b1
       try clear p2
       try clear p6
       obtain ⟨kq, x66_9, rfl, HA, HJ9, HO_10, HO_11, HB⟩ := hcut
       cases kq with
       | zero => exact absurd HA.out (by simp [quillref10_Move.j2])
       | succ kj9 =>
        have H := HA.out
        clear HA
        simp only [quillref10_Move.j2] at H
        by_cases c12 : x66_9 = true
        ·
         subst c12
         have H1 : (if x12_5 = 101 then (quillref10_Move.j3 kj9 a1 a3 t230 t231 x12_5 x13_2 x14_2 (-1) 1) else (quillref10_Move.j3 kj9 a1 a3 t230 t231 x12_5 x13_2 x14_2 (-1) (-1))) = some (r1, r2) := by rw [if_pos rfl] at H; exact H
         clear H
         have H := H1
         clear H1
         have HC13 := Aside0.mk H
         clear H
         go_upto_if 70 with (fail)
         go_cut [16] (fun v16 wc => ∃ (kq : Nat) (x16_12 : Int), v16 = .int .i64 x16_12 ∧ Aside0 (quillref10_Move.j3 kq a1 a3 t230 t231 x12_5 x13_2 x14_2 (-1) x16_12 = some (r1, r2)) ∧ Aside0 (kq ≤ kj9) ∧ Aside0 (Kd.R (Kd.int .i64) 3 wc w.heap.size (fun k_ => some k_ ≠ (v234 : Value).ownBlock) v232 t230) ∧ Aside0 (Kd.R (Kd.int .i64) 3 wc w.heap.size (fun k_ => some k_ ≠ (v232 : Value).ownBlock) v234 t231) ∧ Aside0 (Below w.heap.size w wc))
         case first =>
          have H := HC13.out
          clear HC13
          by_cases c14 : x12_5 = 101
          ·
           rw [if_pos c14] at H
           have c14b0 : (x12_5 == 101) = true := beq_iff_eq.mpr c14
           have c14b1 : (x12_5 != 101) = false := bne_eq_false_iff_eq.mpr c14
           clear c14
           (first | rw [c14b0] | (simp only [i64_w, i32_w]; rw [c14b0]) | skip)
           have H' := Aside0.mk H
           clear H
           go_wp2
           go_meet
           case rel => exact ⟨_, (1), (by first | rfl | (simp; done) | (simp [*]; done)), H', ⟨by have := HJ5.out; have := HK2.out; have := HJ9.out; first | omega | exact Nat.le_refl _⟩, ⟨by (with_reducible repeat (first | apply Kd.R_alloc | apply Kd.R_drewN | apply Kd.R_drew)); exact HO_10.out⟩, ⟨by (with_reducible repeat (first | apply Kd.R_alloc | apply Kd.R_drewN | apply Kd.R_drew)); exact HO_11.out⟩, ⟨by repeat (first | (with_reducible first | exact HB.out | apply below_alloc | apply pw_below_drewN | apply below_drew1) | exact HB.out)⟩⟩
          ·
           rw [if_neg c14] at H
           have c14b0 : (x12_5 == 101) = false := beq_eq_false_iff_ne.mpr c14
           have c14b1 : (x12_5 != 101) = true := bne_iff_ne.mpr c14
           (first | rw [c14b0] | (simp only [i64_w, i32_w]; rw [c14b0]) | skip)
           have H' := Aside0.mk H
           clear H
           go_wp2
           go_meet
           case rel => exact ⟨_, ((-1)), (by first | rfl | (simp; done) | (simp [*]; done)), H', ⟨by have := HJ5.out; have := HK2.out; have := HJ9.out; first | omega | exact Nat.le_refl _⟩, ⟨by (with_reducible repeat (first | apply Kd.R_alloc | apply Kd.R_drewN | apply Kd.R_drew)); exact HO_10.out⟩, ⟨by (with_reducible repeat (first | apply Kd.R_alloc | apply Kd.R_drewN | apply Kd.R_drew)); exact HO_11.out⟩, ⟨by repeat (first | (with_reducible first | exact HB.out | apply below_alloc | apply pw_below_drewN | apply below_drew1) | exact HB.out)⟩⟩
         case rest =>
          clear HC13
          try clear c1
          try clear c2
          try clear p2
          try clear p6
          try clear c8
          try clear c8b0
          try clear c9
          try clear c9b0
          try clear c11
          try clear c11b0
          try clear c11b1
          try clear c12
          try clear c14
          try clear c14b0
          try clear c14b1
          try clear p2
          try clear p6
          obtain ⟨kq, x16_12, rfl, HA, HJ12, HO_10, HO_11, HB⟩ := hcut
          cases kq with
          | zero => exact absurd HA.out (by simp [quillref10_Move.j3])
          | succ kj12 =>
           have H := HA.out
           clear HA
           simp only [quillref10_Move.j3] at H
           have H' := Aside0.mk H
           clear H
           obtain ⟨Ao15, co15, eo15⟩ := Kd.R_slice HO_10.out
           subst eo15
           go_wp2
           go_loopg [15, 17] kj12 (fun kq v15 v17 w' => ∃ (x15_5 : Int) (x17_5 : Int), v15 = .int .i64 x15_5 ∧ v17 = .int .i64 x17_5 ∧ Aside0 (quillref10_Move.l1 kq a1 a3 t230 t231 x12_5 x13_2 x14_2 x15_5 x16_12 x17_5 = some (r1, r2)) ∧ Aside0 (kq ≤ kj12) ∧ Aside0 (Kd.R (Kd.int .i64) 3 w' w.heap.size (fun k_ => some k_ ≠ (v234 : Value).ownBlock) (.slice Ao15 t230.length co15) t230) ∧ Aside0 (Kd.R (Kd.int .i64) 3 w' w.heap.size (fun k_ => some k_ ≠ ((.slice Ao15 t230.length co15) : Value).ownBlock) v234 t231) ∧ Aside0 (Below w.heap.size w w'))
           case atStart => exact ⟨((-1)), (wrap64 ((t230.length : Int) - 1)), (by first | rfl | (simp; done) | (simp [*]; done)), (by first | rfl | (simp; done) | (simp [*]; done)), H', ⟨Nat.le_refl _⟩, ⟨by (with_reducible repeat (first | apply Kd.R_alloc | apply Kd.R_drewN | apply Kd.R_drew)); exact HO_10.out⟩, ⟨by (with_reducible repeat (first | apply Kd.R_alloc | apply Kd.R_drewN | apply Kd.R_drew)); exact HO_11.out⟩, ⟨by repeat (first | (with_reducible first | exact HB.out | apply below_alloc | apply pw_below_drewN | apply below_drew1) | exact HB.out)⟩⟩
           case round =>
            clear H'
            try clear c1
            try clear c2
            try clear p2
            try clear p6
            try clear c8
            try clear c8b0
            try clear c9
            try clear c9b0
            try clear c11
            try clear c11b0
            try clear c11b1
            try clear c12
            try clear c14
            try clear c14b0
            try clear c14b1
            try clear p2
            try clear p6
            obtain ⟨x15_5, x17_5, rfl, rfl, HA, HK5, HO_10, HO_11, HB⟩ := hrel
            cases gk with
            | zero => exact absurd HA.out (by simp [quillref10_Move.l1])
            | succ k5 =>
             have H := HA.out
             clear HA
             simp only [quillref10_Move.l1] at H
             by_cases c16 : x17_5 ≥ 0
             ·
              rw [if_pos c16] at H
              have c16b0 : decide (0 ≤ x17_5) = true := decide_eq_true c16
              clear c16
              by_cases c17 : 0 ≤ x17_5
              ·
               rw [if_pos c17] at H
               have c17b0 : decide (0 ≤ x17_5) = true := decide_eq_true c17
               clear c17
               by_cases c18 : x17_5 < (t230.length : Int)
               ·
                rw [if_pos c18] at H
                have c18b0 : decide (x17_5 < (t230.length : Int)) = true := decide_eq_true c18
                clear c18
                by_cases c19 : (rd t230 x17_5) > x13_2
                ·
                 rw [if_pos c19] at H
                 have c19b0 : decide (x13_2 < (rd t230 x17_5)) = true := decide_eq_true c19
                 clear c19
                 replace H := Option.bind_eq_some_iff.mp H
                 obtain ⟨t237, A200, H⟩ := H
                 replace H : (if t237 = true then (quillref10_Move.l1 k5 a1 a3 t230 t231 x12_5 x13_2 x14_2 (rd t230 x17_5) x16_12 (wrap64 (x17_5 - 1))) else (quillref10_Move.l1 k5 a1 a3 t230 t231 x12_5 x13_2 x14_2 x15_5 x16_12 (wrap64 (x17_5 - 1)))) = some (r1, r2) := H
                 have A20 := Aside0.mk A200
                 clear A200
                 by_cases c21 : t237 = true
                 ·
                  subst c21
                  have H1 : (quillref10_Move.l1 k5 a1 a3 t230 t231 x12_5 x13_2 x14_2 (rd t230 x17_5) x16_12 (wrap64 (x17_5 - 1))) = some (r1, r2) := by rw [if_pos rfl] at H; exact H
                  clear H
                  have H := H1
                  clear H1
                  have H' := Aside0.mk H
                  clear H
                  have p236 : 0 ≤ (x17_5 : Int) := of_decide_eq_true (by first | (with_reducible assumption) | assumption)
                  have q236 : x17_5 < (t230.length : Int) := of_decide_eq_true (by first | (with_reducible assumption) | assumption)
                  obtain ⟨ad236, e236, hx236_0⟩ := Kd.at_int (Kd.R_reads' HO_10.out).2.2 x17_5 p236 q236
                  cases e236
                  replace p236 := eq_true p236
                  replace q236 := eq_true q236
                  obtain ⟨Ao22, co22, eo22⟩ := Kd.R_slice HO_11.out
                  subst eo22
                  go_wp2_with (first | (go_at_call 44; (with_reducible refine (quillref10_edge.calls _ _ t230 _ _ t231 x17_5 x16_12 true _ ?side1 ?side2 ?side3 ?side4 A20.out).mono ?_); (case side1 => repeat (first | exact (Kd.R_reads' HO_10.out).2.2 | (with_reducible refine Kd.C_alloc ?_ _) | (with_reducible refine Kd.C_drewN ?_ _) | (with_reducible refine Kd.C_drew ?_))); (case side2 => exact (Kd.R_reads' HO_10.out).2.1); (case side3 => repeat (first | exact (Kd.R_reads' HO_11.out).2.2 | (with_reducible refine Kd.C_alloc ?_ _) | (with_reducible refine Kd.C_drewN ?_ _) | (with_reducible refine Kd.C_drew ?_))); (case side4 => exact (Kd.R_reads' HO_11.out).2.1); rintro e w' ⟨rfl, ⟨nd, rfl⟩⟩; have p238 : 0 ≤ (x17_5 : Int) := of_decide_eq_true (by first | (with_reducible assumption) | assumption); have q238 : x17_5 < (t230.length : Int) := of_decide_eq_true (by first | (with_reducible assumption) | assumption); obtain ⟨ad238, e238, hx238_0⟩ := Kd.at_int (Kd.R_reads' HO_10.out).2.2 x17_5 p238 q238; obtain rfl : ad236 = ad238 := (by injection e238); replace p238 := eq_true p238; replace q238 := eq_true q238))
                  go_roundg k5
                  case measure => have := HJ5.out; have := HK2.out; have := HJ9.out; have := HJ12.out; have := HK5.out; omega
                  case rel => exact ⟨(rd t230 x17_5), (wrap64 (x17_5 - 1)), (by first | rfl | (simp; done) | (simp [*]; done)), (by first | rfl | (simp; done) | (simp [*]; done)), H', ⟨by have := HJ5.out; have := HK2.out; have := HJ9.out; have := HJ12.out; have := HK5.out; omega⟩, ⟨by (with_reducible repeat (first | apply Kd.R_alloc | apply Kd.R_drewN | apply Kd.R_drew)); exact HO_10.out⟩, ⟨by (with_reducible repeat (first | apply Kd.R_alloc | apply Kd.R_drewN | apply Kd.R_drew)); exact HO_11.out⟩, ⟨by repeat (first | (with_reducible first | exact HB.out | apply below_alloc | apply pw_below_drewN | apply below_drew1) | exact HB.out)⟩⟩
                 ·
                  replace c21 := Bool.eq_false_iff.mpr c21
                  subst c21
                  have H1 : (quillref10_Move.l1 k5 a1 a3 t230 t231 x12_5 x13_2 x14_2 x15_5 x16_12 (wrap64 (x17_5 - 1))) = some (r1, r2) := by rw [if_neg (show ¬ (false = true) by decide)] at H; exact H
                  clear H
                  have H := H1
                  clear H1
                  have H' := Aside0.mk H
                  clear H
                  have p236 : 0 ≤ (x17_5 : Int) := of_decide_eq_true (by first | (with_reducible assumption) | assumption)
                  have q236 : x17_5 < (t230.length : Int) := of_decide_eq_true (by first | (with_reducible assumption) | assumption)
                  obtain ⟨ad236, e236, hx236_0⟩ := Kd.at_int (Kd.R_reads' HO_10.out).2.2 x17_5 p236 q236
                  cases e236
                  replace p236 := eq_true p236
                  replace q236 := eq_true q236
                  obtain ⟨Ao23, co23, eo23⟩ := Kd.R_slice HO_11.out
                  subst eo23
                  go_wp2_with (first | (go_at_call 44; (with_reducible refine (quillref10_edge.calls _ _ t230 _ _ t231 x17_5 x16_12 false _ ?side1 ?side2 ?side3 ?side4 A20.out).mono ?_); (case side1 => repeat (first | exact (Kd.R_reads' HO_10.out).2.2 | (with_reducible refine Kd.C_alloc ?_ _) | (with_reducible refine Kd.C_drewN ?_ _) | (with_reducible refine Kd.C_drew ?_))); (case side2 => exact (Kd.R_reads' HO_10.out).2.1); (case side3 => repeat (first | exact (Kd.R_reads' HO_11.out).2.2 | (with_reducible refine Kd.C_alloc ?_ _) | (with_reducible refine Kd.C_drewN ?_ _) | (with_reducible refine Kd.C_drew ?_))); (case side4 => exact (Kd.R_reads' HO_11.out).2.1); rintro e w' ⟨rfl, ⟨nd, rfl⟩⟩))
                  go_roundg k5
                  case measure => have := HJ5.out; have := HK2.out; have := HJ9.out; have := HJ12.out; have := HK5.out; omega
                  case rel => exact ⟨(x15_5), (wrap64 (x17_5 - 1)), (by first | rfl | (simp; done) | (simp [*]; done)), (by first | rfl | (simp; done) | (simp [*]; done)), H', ⟨by have := HJ5.out; have := HK2.out; have := HJ9.out; have := HJ12.out; have := HK5.out; omega⟩, ⟨by (with_reducible repeat (first | apply Kd.R_alloc | apply Kd.R_drewN | apply Kd.R_drew)); exact HO_10.out⟩, ⟨by (with_reducible repeat (first | apply Kd.R_alloc | apply Kd.R_drewN | apply Kd.R_drew)); exact HO_11.out⟩, ⟨by repeat (first | (with_reducible first | exact HB.out | apply below_alloc | apply pw_below_drewN | apply below_drew1) | exact HB.out)⟩⟩
                ·
                 rw [if_neg c19] at H
                 have c19b0 : decide (x13_2 < (rd t230 x17_5)) = false := decide_eq_false c19
                 clear c19
                 have H' := Aside0.mk H
                 clear H
                 have p236 : 0 ≤ (x17_5 : Int) := of_decide_eq_true (by first | (with_reducible assumption) | assumption)
                 have q236 : x17_5 < (t230.length : Int) := of_decide_eq_true (by first | (with_reducible assumption) | assumption)
                 obtain ⟨ad236, e236, hx236_0⟩ := Kd.at_int (Kd.R_reads' HO_10.out).2.2 x17_5 p236 q236
                 cases e236
                 replace p236 := eq_true p236
                 replace q236 := eq_true q236
                 go_wp2
                 go_roundg k5
                 case measure => have := HJ5.out; have := HK2.out; have := HJ9.out; have := HJ12.out; have := HK5.out; omega
                 case rel => exact ⟨(x15_5), (wrap64 (x17_5 - 1)), (by first | rfl | (simp; done) | (simp [*]; done)), (by first | rfl | (simp; done) | (simp [*]; done)), H', ⟨by have := HJ5.out; have := HK2.out; have := HJ9.out; have := HJ12.out; have := HK5.out; omega⟩, ⟨by (with_reducible repeat (first | apply Kd.R_alloc | apply Kd.R_drewN | apply Kd.R_drew)); exact HO_10.out⟩, ⟨by (with_reducible repeat (first | apply Kd.R_alloc | apply Kd.R_drewN | apply Kd.R_drew)); exact HO_11.out⟩, ⟨by repeat (first | (with_reducible first | exact HB.out | apply below_alloc | apply pw_below_drewN | apply below_drew1) | exact HB.out)⟩⟩
               ·
                rw [if_neg c18] at H
                exact absurd H (by simp)
              ·
               rw [if_neg c17] at H
               exact absurd H (by simp)
             ·
              rw [if_neg c16] at H
              have c16b0 : decide (0 ≤ x17_5) = false := decide_eq_false c16
              clear c16
              by_cases c24 : x15_5 < 0
              ·
               rw [if_pos c24] at H
               have c24b0 : decide (x15_5 < 0) = true := decide_eq_true c24
               clear c24
               obtain ⟨ji25, hji25⟩ : ∃ j_ : Int, (wrap64 ((t230.length : Int) - 1)) = j_ := ⟨_, rfl⟩
               replace H : (if 0 ≤ (ji25) then (if (ji25) < (t230.length : Int) then (if (rd t230 (ji25)) = x13_2 then (if x13_2 = a1 then (some (0, 6)) else (some (x13_2, 0))) else (quillref10_Move.l0 k5 a1 a3 t230 t231 x12_5 (rd t230 (ji25)) (wrap64 (x14_2 + 1)))) else (none)) else (none)) = some (r1, r2) := by first | (rw [hji25] at H; exact H) | (simp only [hji25] at H ⊢; exact H)
               have hji25w : (IntKind.i64.wrap ((t230.length : Int) - 1)) = ji25 := (i64_w _).trans hji25
               by_cases c26 : 0 ≤ (ji25)
               ·
                rw [if_pos c26] at H
                have c26b0 : decide (0 ≤ (ji25)) = true := decide_eq_true c26
                clear c26
                by_cases c27 : (ji25) < (t230.length : Int)
                ·
                 rw [if_pos c27] at H
                 have c27b0 : decide ((ji25) < (t230.length : Int)) = true := decide_eq_true c27
                 clear c27
                 by_cases c28 : (rd t230 (ji25)) = x13_2
                 ·
                  rw [if_pos c28] at H
                  have c28b0 : ((rd t230 (ji25)) == x13_2) = true := beq_iff_eq.mpr c28
                  have c28b1 : ((rd t230 (ji25)) != x13_2) = false := bne_eq_false_iff_eq.mpr c28
                  clear c28
                  by_cases c29 : x13_2 = a1
                  ·
                   rw [if_pos c29] at H
                   have c29b0 : (x13_2 == a1) = true := beq_iff_eq.mpr c29
                   have c29b1 : (x13_2 != a1) = false := bne_eq_false_iff_eq.mpr c29
                   clear c29
                   simp only [Option.some.injEq, Prod.mk.injEq] at H
                   obtain ⟨rfl, rfl⟩ := H
                   have p239 : 0 ≤ ((ji25) : Int) := of_decide_eq_true (by first | (with_reducible assumption) | assumption)
                   have q239 : (ji25) < (t230.length : Int) := of_decide_eq_true (by first | (with_reducible assumption) | assumption)
                   obtain ⟨ad239, e239, hx239_0⟩ := Kd.at_int (Kd.R_reads' HO_10.out).2.2 (ji25) p239 q239
                   cases e239
                   replace p239 := eq_true p239
                   replace q239 := eq_true q239
                   go_wp2
                   go_ret2
                   exact ⟨by first | rfl | (simp [errW_none, errW_some] <;> rfl) | (simp only [← hji25]; first | rfl | (simp [errW_none, errW_some] <;> rfl)) | (simp [*, errW_none, errW_some] <;> rfl), by repeat (first | (with_reducible first | exact HB.out | apply below_alloc | apply pw_below_drewN | apply below_drew1) | exact HB.out)⟩
                  ·
                   rw [if_neg c29] at H
                   have c29b0 : (x13_2 == a1) = false := beq_eq_false_iff_ne.mpr c29
                   have c29b1 : (x13_2 != a1) = true := bne_iff_ne.mpr c29
                   simp only [Option.some.injEq, Prod.mk.injEq] at H
                   obtain ⟨rfl, rfl⟩ := H
                   have p239 : 0 ≤ ((ji25) : Int) := of_decide_eq_true (by first | (with_reducible assumption) | assumption)
                   have q239 : (ji25) < (t230.length : Int) := of_decide_eq_true (by first | (with_reducible assumption) | assumption)
                   obtain ⟨ad239, e239, hx239_0⟩ := Kd.at_int (Kd.R_reads' HO_10.out).2.2 (ji25) p239 q239
                   cases e239
                   replace p239 := eq_true p239
                   replace q239 := eq_true q239
                   go_wp2
                   go_ret2
                   exact ⟨by first | rfl | (simp [errW_none, errW_some] <;> rfl) | (simp only [← hji25]; first | rfl | (simp [errW_none, errW_some] <;> rfl)) | (simp [*, errW_none, errW_some] <;> rfl), by repeat (first | (with_reducible first | exact HB.out | apply below_alloc | apply pw_below_drewN | apply below_drew1) | exact HB.out)⟩
                 ·
                  rw [if_neg c28] at H
                  have c28b0 : ((rd t230 (ji25)) == x13_2) = false := beq_eq_false_iff_ne.mpr c28
                  have c28b1 : ((rd t230 (ji25)) != x13_2) = true := bne_iff_ne.mpr c28
                  have H' := Aside0.mk H
                  clear H
                  have p239 : 0 ≤ ((ji25) : Int) := of_decide_eq_true (by first | (with_reducible assumption) | assumption)
                  have q239 : (ji25) < (t230.length : Int) := of_decide_eq_true (by first | (with_reducible assumption) | assumption)
                  obtain ⟨ad239, e239, hx239_0⟩ := Kd.at_int (Kd.R_reads' HO_10.out).2.2 (ji25) p239 q239
                  cases e239
                  replace p239 := eq_true p239
                  replace q239 := eq_true q239
                  go_wp2
                  go_roundg k5
                  case measure => have := HJ5.out; have := HK2.out; have := HJ9.out; have := HJ12.out; have := HK5.out; omega
                  case rel => exact ⟨(rd t230 (ji25)), (wrap64 (x14_2 + 1)), (by first | rfl | (simp; done) | (simp only [← hji25] <;> (first | rfl | simp)) | (simp [*]; done)), (by first | rfl | (simp; done) | (simp [*]; done)), H', ⟨by have := HJ5.out; have := HK2.out; have := HJ9.out; have := HJ12.out; have := HK5.out; omega⟩, ⟨by (with_reducible repeat (first | apply Kd.R_alloc | apply Kd.R_drewN | apply Kd.R_drew)); exact HO_10.out⟩, ⟨by (with_reducible repeat (first | apply Kd.R_alloc | apply Kd.R_drewN | apply Kd.R_drew)); exact HO_11.out⟩, ⟨by repeat (first | (with_reducible first | exact HB.out | apply below_alloc | apply pw_below_drewN | apply below_drew1) | exact HB.out)⟩⟩
                ·
                 rw [if_neg c27] at H
                 exact absurd H (by simp)
               ·
                rw [if_neg c26] at H
                exact absurd H (by simp)
              ·
               rw [if_neg c24] at H
               have c24b0 : decide (x15_5 < 0) = false := decide_eq_false c24
               clear c24
               by_cases c30 : x15_5 = x13_2
               ·
                rw [if_pos c30] at H
                have c30b0 : (x15_5 == x13_2) = true := beq_iff_eq.mpr c30
                have c30b1 : (x15_5 != x13_2) = false := bne_eq_false_iff_eq.mpr c30
                clear c30
                by_cases c31 : x13_2 = a1
                ·
                 rw [if_pos c31] at H
                 have c31b0 : (x13_2 == a1) = true := beq_iff_eq.mpr c31
                 have c31b1 : (x13_2 != a1) = false := bne_eq_false_iff_eq.mpr c31
                 clear c31
                 simp only [Option.some.injEq, Prod.mk.injEq] at H
                 obtain ⟨rfl, rfl⟩ := H
                 go_wp2
                 go_ret2
                 exact ⟨by first | rfl | (simp [errW_none, errW_some] <;> rfl) | (simp [*, errW_none, errW_some] <;> rfl), by repeat (first | (with_reducible first | exact HB.out | apply below_alloc | apply pw_below_drewN | apply below_drew1) | exact HB.out)⟩
                ·
                 rw [if_neg c31] at H
                 have c31b0 : (x13_2 == a1) = false := beq_eq_false_iff_ne.mpr c31
                 have c31b1 : (x13_2 != a1) = true := bne_iff_ne.mpr c31
                 simp only [Option.some.injEq, Prod.mk.injEq] at H
                 obtain ⟨rfl, rfl⟩ := H
                 go_wp2
                 go_ret2
                 exact ⟨by first | rfl | (simp [errW_none, errW_some] <;> rfl) | (simp [*, errW_none, errW_some] <;> rfl), by repeat (first | (with_reducible first | exact HB.out | apply below_alloc | apply pw_below_drewN | apply below_drew1) | exact HB.out)⟩
               ·
                rw [if_neg c30] at H
                have c30b0 : (x15_5 == x13_2) = false := beq_eq_false_iff_ne.mpr c30
                have c30b1 : (x15_5 != x13_2) = true := bne_iff_ne.mpr c30
                have H' := Aside0.mk H
                clear H
                go_wp2
                go_roundg k5
                case measure => have := HJ5.out; have := HK2.out; have := HJ9.out; have := HJ12.out; have := HK5.out; omega
                case rel => exact ⟨(x15_5), (wrap64 (x14_2 + 1)), (by first | rfl | (simp; done) | (simp [*]; done)), (by first | rfl | (simp; done) | (simp [*]; done)), H', ⟨by have := HJ5.out; have := HK2.out; have := HJ9.out; have := HJ12.out; have := HK5.out; omega⟩, ⟨by (with_reducible repeat (first | apply Kd.R_alloc | apply Kd.R_drewN | apply Kd.R_drew)); exact HO_10.out⟩, ⟨by (with_reducible repeat (first | apply Kd.R_alloc | apply Kd.R_drewN | apply Kd.R_drew)); exact HO_11.out⟩, ⟨by repeat (first | (with_reducible first | exact HB.out | apply below_alloc | apply pw_below_drewN | apply below_drew1) | exact HB.out)⟩⟩
        ·
         replace c12 := Bool.eq_false_iff.mpr c12
         subst c12
         have H1 : (quillref10_Move.l2 kj9 a1 a3 t230 t231 x12_5 x13_2 x14_2 (-1) 0) = some (r1, r2) := by rw [if_neg (show ¬ (false = true) by decide)] at H; exact H
         clear H
         have H := H1
         clear H1
         have H' := Aside0.mk H
         clear H
         go_wp2
         go_loopg [15, 18] kj9 (fun kq v15 v18 w' => ∃ (x15_4 : Int) (x18_4 : Int), v15 = .int .i64 x15_4 ∧ v18 = .int .i64 x18_4 ∧ Aside0 (quillref10_Move.l2 kq a1 a3 t230 t231 x12_5 x13_2 x14_2 x15_4 x18_4 = some (r1, r2)) ∧ Aside0 (kq ≤ kj9) ∧ Aside0 (Kd.R (Kd.int .i64) 3 w' w.heap.size (fun k_ => some k_ ≠ (v234 : Value).ownBlock) v232 t230) ∧ Aside0 (Kd.R (Kd.int .i64) 3 w' w.heap.size (fun k_ => some k_ ≠ (v232 : Value).ownBlock) v234 t231) ∧ Aside0 (Below w.heap.size w w'))
         case atStart => exact ⟨((-1)), (0), (by first | rfl | (simp; done) | (simp [*]; done)), (by first | rfl | (simp; done) | (simp [*]; done)), H', ⟨Nat.le_refl _⟩, ⟨by (with_reducible repeat (first | apply Kd.R_alloc | apply Kd.R_drewN | apply Kd.R_drew)); exact HO_10.out⟩, ⟨by (with_reducible repeat (first | apply Kd.R_alloc | apply Kd.R_drewN | apply Kd.R_drew)); exact HO_11.out⟩, ⟨by repeat (first | (with_reducible first | exact HB.out | apply below_alloc | apply pw_below_drewN | apply below_drew1) | exact HB.out)⟩⟩
         case round =>
          clear H'
          try clear c1
          try clear c2
          try clear p2
          try clear q2
          try clear hx2
          try clear c3
          try clear p6
          try clear c8
          try clear c8b0
          try clear c9
          try clear c9b0
          try clear c11
          try clear c11b0
          try clear c11b1
          try clear c12
          try clear c14
          try clear c14b0
          try clear c14b1
          try clear c16
          try clear c16b0
          try clear c17
          try clear c17b0
          try clear c18
          try clear c18b0
          try clear c19
          try clear c19b0
          try clear c21
          try clear p23
          try clear q23
          try clear hx23
          try clear c24
          try clear c24b0
          try clear c26
          try clear c26b0
          try clear c27
          try clear c27b0
          try clear c28
          try clear c28b0
          try clear c28b1
          try clear c29
          try clear c29b0
          try clear c29b1
          try clear c30
          try clear c30b0
          try clear c30b1
          try clear c31
          try clear c31b0
          try clear c31b1
          try clear hx236_0
          try clear hx238_0
          try clear hx239_0
          try clear p2
          try clear p236
          try clear p238
          try clear p239
          try clear p6
          try clear q236
          try clear q238
          try clear q239
          obtain ⟨x15_4, x18_4, rfl, rfl, HA, HK4, HO_10, HO_11, HB⟩ := hrel
          cases gk with
          | zero => exact absurd HA.out (by simp [quillref10_Move.l2])
          | succ k4 =>
           have H := HA.out
           clear HA
           simp only [quillref10_Move.l2] at H
           by_cases c32 : x18_4 < (t230.length : Int)
           ·
            rw [if_pos c32] at H
            have c32b0 : decide (x18_4 < (t230.length : Int)) = true := decide_eq_true c32
            clear c32
            by_cases c33 : 0 ≤ x18_4
            ·
             rw [if_pos c33] at H
             have c33b0 : decide (0 ≤ x18_4) = true := decide_eq_true c33
             clear c33
             by_cases c34 : (rd t230 x18_4) < x13_2
             ·
              rw [if_pos c34] at H
              have c34b0 : decide ((rd t230 x18_4) < x13_2) = true := decide_eq_true c34
              clear c34
              replace H := Option.bind_eq_some_iff.mp H
              obtain ⟨t241, A350, H⟩ := H
              replace H : (if t241 = true then (quillref10_Move.l2 k4 a1 a3 t230 t231 x12_5 x13_2 x14_2 (rd t230 x18_4) (wrap64 (x18_4 + 1))) else (quillref10_Move.l2 k4 a1 a3 t230 t231 x12_5 x13_2 x14_2 x15_4 (wrap64 (x18_4 + 1)))) = some (r1, r2) := H
              have A35 := Aside0.mk A350
              clear A350
              by_cases c36 : t241 = true
              ·
               subst c36
               have H1 : (quillref10_Move.l2 k4 a1 a3 t230 t231 x12_5 x13_2 x14_2 (rd t230 x18_4) (wrap64 (x18_4 + 1))) = some (r1, r2) := by rw [if_pos rfl] at H; exact H
               clear H
               have H := H1
               clear H1
               have H' := Aside0.mk H
               clear H
               obtain ⟨Ao37, co37, eo37⟩ := Kd.R_slice HO_10.out
               subst eo37
               have p240 : 0 ≤ (x18_4 : Int) := of_decide_eq_true (by first | (with_reducible assumption) | assumption)
               have q240 : x18_4 < (t230.length : Int) := of_decide_eq_true (by first | (with_reducible assumption) | assumption)
               obtain ⟨ad240, e240, hx240_0⟩ := Kd.at_int (Kd.R_reads' HO_10.out).2.2 x18_4 p240 q240
               cases e240
               replace p240 := eq_true p240
               replace q240 := eq_true q240
               obtain ⟨Ao38, co38, eo38⟩ := Kd.R_slice HO_11.out
               subst eo38
               go_wp2_with (first | (go_at_call 44; (with_reducible refine (quillref10_edge.calls _ _ t230 _ _ t231 x18_4 (-1) true _ ?side1 ?side2 ?side3 ?side4 A35.out).mono ?_); (case side1 => repeat (first | exact (Kd.R_reads' HO_10.out).2.2 | (with_reducible refine Kd.C_alloc ?_ _) | (with_reducible refine Kd.C_drewN ?_ _) | (with_reducible refine Kd.C_drew ?_))); (case side2 => exact (Kd.R_reads' HO_10.out).2.1); (case side3 => repeat (first | exact (Kd.R_reads' HO_11.out).2.2 | (with_reducible refine Kd.C_alloc ?_ _) | (with_reducible refine Kd.C_drewN ?_ _) | (with_reducible refine Kd.C_drew ?_))); (case side4 => exact (Kd.R_reads' HO_11.out).2.1); rintro e w' ⟨rfl, ⟨nd, rfl⟩⟩; have p242 : 0 ≤ (x18_4 : Int) := of_decide_eq_true (by first | (with_reducible assumption) | assumption); have q242 : x18_4 < (t230.length : Int) := of_decide_eq_true (by first | (with_reducible assumption) | assumption); obtain ⟨ad242, e242, hx242_0⟩ := Kd.at_int (Kd.R_reads' HO_10.out).2.2 x18_4 p242 q242; obtain rfl : ad240 = ad242 := (by injection e242); replace p242 := eq_true p242; replace q242 := eq_true q242))
               go_roundg k4
               case measure => have := HJ5.out; have := HK2.out; have := HJ9.out; have := HK4.out; omega
               case rel => exact ⟨(rd t230 x18_4), (wrap64 (x18_4 + 1)), (by first | rfl | (simp; done) | (simp [*]; done)), (by first | rfl | (simp; done) | (simp [*]; done)), H', ⟨by have := HJ5.out; have := HK2.out; have := HJ9.out; have := HK4.out; omega⟩, ⟨by (with_reducible repeat (first | apply Kd.R_alloc | apply Kd.R_drewN | apply Kd.R_drew)); exact HO_10.out⟩, ⟨by (with_reducible repeat (first | apply Kd.R_alloc | apply Kd.R_drewN | apply Kd.R_drew)); exact HO_11.out⟩, ⟨by repeat (first | (with_reducible first | exact HB.out | apply below_alloc | apply pw_below_drewN | apply below_drew1) | exact HB.out)⟩⟩
              ·
               replace c36 := Bool.eq_false_iff.mpr c36
               subst c36
               have H1 : (quillref10_Move.l2 k4 a1 a3 t230 t231 x12_5 x13_2 x14_2 x15_4 (wrap64 (x18_4 + 1))) = some (r1, r2) := by rw [if_neg (show ¬ (false = true) by decide)] at H; exact H
               clear H
               have H := H1
               clear H1
               have H' := Aside0.mk H
               clear H
               obtain ⟨Ao39, co39, eo39⟩ := Kd.R_slice HO_10.out
               subst eo39
               have p240 : 0 ≤ (x18_4 : Int) := of_decide_eq_true (by first | (with_reducible assumption) | assumption)
               have q240 : x18_4 < (t230.length : Int) := of_decide_eq_true (by first | (with_reducible assumption) | assumption)
               obtain ⟨ad240, e240, hx240_0⟩ := Kd.at_int (Kd.R_reads' HO_10.out).2.2 x18_4 p240 q240
               cases e240
               replace p240 := eq_true p240
               replace q240 := eq_true q240
               obtain ⟨Ao40, co40, eo40⟩ := Kd.R_slice HO_11.out
               subst eo40
               go_wp2_with (first | (go_at_call 44; (with_reducible refine (quillref10_edge.calls _ _ t230 _ _ t231 x18_4 (-1) false _ ?side1 ?side2 ?side3 ?side4 A35.out).mono ?_); (case side1 => repeat (first | exact (Kd.R_reads' HO_10.out).2.2 | (with_reducible refine Kd.C_alloc ?_ _) | (with_reducible refine Kd.C_drewN ?_ _) | (with_reducible refine Kd.C_drew ?_))); (case side2 => exact (Kd.R_reads' HO_10.out).2.1); (case side3 => repeat (first | exact (Kd.R_reads' HO_11.out).2.2 | (with_reducible refine Kd.C_alloc ?_ _) | (with_reducible refine Kd.C_drewN ?_ _) | (with_reducible refine Kd.C_drew ?_))); (case side4 => exact (Kd.R_reads' HO_11.out).2.1); rintro e w' ⟨rfl, ⟨nd, rfl⟩⟩))
               go_roundg k4
               case measure => have := HJ5.out; have := HK2.out; have := HJ9.out; have := HK4.out; omega
               case rel => exact ⟨(x15_4), (wrap64 (x18_4 + 1)), (by first | rfl | (simp; done) | (simp [*]; done)), (by first | rfl | (simp; done) | (simp [*]; done)), H', ⟨by have := HJ5.out; have := HK2.out; have := HJ9.out; have := HK4.out; omega⟩, ⟨by (with_reducible repeat (first | apply Kd.R_alloc | apply Kd.R_drewN | apply Kd.R_drew)); exact HO_10.out⟩, ⟨by (with_reducible repeat (first | apply Kd.R_alloc | apply Kd.R_drewN | apply Kd.R_drew)); exact HO_11.out⟩, ⟨by repeat (first | (with_reducible first | exact HB.out | apply below_alloc | apply pw_below_drewN | apply below_drew1) | exact HB.out)⟩⟩
             ·
              rw [if_neg c34] at H
              have c34b0 : decide ((rd t230 x18_4) < x13_2) = false := decide_eq_false c34
              clear c34
              have H' := Aside0.mk H
              clear H
              obtain ⟨Ao41, co41, eo41⟩ := Kd.R_slice HO_10.out
              subst eo41
              have p240 : 0 ≤ (x18_4 : Int) := of_decide_eq_true (by first | (with_reducible assumption) | assumption)
              have q240 : x18_4 < (t230.length : Int) := of_decide_eq_true (by first | (with_reducible assumption) | assumption)
              obtain ⟨ad240, e240, hx240_0⟩ := Kd.at_int (Kd.R_reads' HO_10.out).2.2 x18_4 p240 q240
              cases e240
              replace p240 := eq_true p240
              replace q240 := eq_true q240
              go_wp2
              go_roundg k4
              case measure => have := HJ5.out; have := HK2.out; have := HJ9.out; have := HK4.out; omega
              case rel => exact ⟨(x15_4), (wrap64 (x18_4 + 1)), (by first | rfl | (simp; done) | (simp [*]; done)), (by first | rfl | (simp; done) | (simp [*]; done)), H', ⟨by have := HJ5.out; have := HK2.out; have := HJ9.out; have := HK4.out; omega⟩, ⟨by (with_reducible repeat (first | apply Kd.R_alloc | apply Kd.R_drewN | apply Kd.R_drew)); exact HO_10.out⟩, ⟨by (with_reducible repeat (first | apply Kd.R_alloc | apply Kd.R_drewN | apply Kd.R_drew)); exact HO_11.out⟩, ⟨by repeat (first | (with_reducible first | exact HB.out | apply below_alloc | apply pw_below_drewN | apply below_drew1) | exact HB.out)⟩⟩
            ·
             rw [if_neg c33] at H
             exact absurd H (by simp)
           ·
            rw [if_neg c32] at H
            have c32b0 : decide (x18_4 < (t230.length : Int)) = false := decide_eq_false c32
            clear c32
            by_cases c42 : x15_4 < 0
            ·
             rw [if_pos c42] at H
             have c42b0 : decide (x15_4 < 0) = true := decide_eq_true c42
             clear c42
             by_cases c43 : 0 < (t230.length : Int)
             ·
              rw [if_pos c43] at H
              have c43b0 : decide (0 < (t230.length : Int)) = true := decide_eq_true c43
              have c43b1 : decide (0 < t230.length) = true := decide_eq_true (by omega)
              clear c43
              by_cases c44 : (rd t230 0) = x13_2
              ·
               rw [if_pos c44] at H
               have c44b0 : ((rd t230 0) == x13_2) = true := beq_iff_eq.mpr c44
               have c44b1 : ((rd t230 0) != x13_2) = false := bne_eq_false_iff_eq.mpr c44
               clear c44
               by_cases c45 : x13_2 = a1
               ·
                rw [if_pos c45] at H
                have c45b0 : (x13_2 == a1) = true := beq_iff_eq.mpr c45
                have c45b1 : (x13_2 != a1) = false := bne_eq_false_iff_eq.mpr c45
                clear c45
                simp only [Option.some.injEq, Prod.mk.injEq] at H
                obtain ⟨rfl, rfl⟩ := H
                obtain ⟨Ao46, co46, eo46⟩ := Kd.R_slice HO_10.out
                subst eo46
                have p243 : 0 ≤ (0 : Int) := (by omega)
                have q243 : 0 < (t230.length : Int) := of_decide_eq_true (by first | (with_reducible assumption) | assumption)
                obtain ⟨ad243, e243, hx243_0⟩ := Kd.at_int (Kd.R_reads' HO_10.out).2.2 0 p243 q243
                cases e243
                have qi243 : (0 < t230.length) = True := eq_true (by omega)
                (try rw [show ((0 : Int)).toNat = 0 from rfl] at hx243_0)
                (try rw [Addr.add_zero'] at hx243_0)
                replace p243 := eq_true p243
                replace q243 := eq_true q243
                go_wp2
                go_ret2
                exact ⟨by first | rfl | (simp [errW_none, errW_some] <;> rfl) | (simp [*, errW_none, errW_some] <;> rfl), by repeat (first | (with_reducible first | exact HB.out | apply below_alloc | apply pw_below_drewN | apply below_drew1) | exact HB.out)⟩
               ·
                rw [if_neg c45] at H
                have c45b0 : (x13_2 == a1) = false := beq_eq_false_iff_ne.mpr c45
                have c45b1 : (x13_2 != a1) = true := bne_iff_ne.mpr c45
                simp only [Option.some.injEq, Prod.mk.injEq] at H
                obtain ⟨rfl, rfl⟩ := H
                obtain ⟨Ao47, co47, eo47⟩ := Kd.R_slice HO_10.out
                subst eo47
                have p243 : 0 ≤ (0 : Int) := (by omega)
                have q243 : 0 < (t230.length : Int) := of_decide_eq_true (by first | (with_reducible assumption) | assumption)
                obtain ⟨ad243, e243, hx243_0⟩ := Kd.at_int (Kd.R_reads' HO_10.out).2.2 0 p243 q243
                cases e243
                have qi243 : (0 < t230.length) = True := eq_true (by omega)
                (try rw [show ((0 : Int)).toNat = 0 from rfl] at hx243_0)
                (try rw [Addr.add_zero'] at hx243_0)
                replace p243 := eq_true p243
                replace q243 := eq_true q243
                go_wp2
                go_ret2
                exact ⟨by first | rfl | (simp [errW_none, errW_some] <;> rfl) | (simp [*, errW_none, errW_some] <;> rfl), by repeat (first | (with_reducible first | exact HB.out | apply below_alloc | apply pw_below_drewN | apply below_drew1) | exact HB.out)⟩
              ·
               rw [if_neg c44] at H
               have c44b0 : ((rd t230 0) == x13_2) = false := beq_eq_false_iff_ne.mpr c44
               have c44b1 : ((rd t230 0) != x13_2) = true := bne_iff_ne.mpr c44
               have H' := Aside0.mk H
               clear H
               obtain ⟨Ao48, co48, eo48⟩ := Kd.R_slice HO_10.out
               subst eo48
               have p243 : 0 ≤ (0 : Int) := (by omega)
               have q243 : 0 < (t230.length : Int) := of_decide_eq_true (by first | (with_reducible assumption) | assumption)
               obtain ⟨ad243, e243, hx243_0⟩ := Kd.at_int (Kd.R_reads' HO_10.out).2.2 0 p243 q243
               cases e243
               have qi243 : (0 < t230.length) = True := eq_true (by omega)
               (try rw [show ((0 : Int)).toNat = 0 from rfl] at hx243_0)
               (try rw [Addr.add_zero'] at hx243_0)
               replace p243 := eq_true p243
               replace q243 := eq_true q243
               go_wp2
               go_roundg k4
               case measure => have := HJ5.out; have := HK2.out; have := HJ9.out; have := HK4.out; omega
               case rel => exact ⟨(rd t230 0), (wrap64 (x14_2 + 1)), (by first | rfl | (simp; done) | (simp [*]; done)), (by first | rfl | (simp; done) | (simp [*]; done)), H', ⟨by have := HJ5.out; have := HK2.out; have := HJ9.out; have := HK4.out; omega⟩, ⟨by (with_reducible repeat (first | apply Kd.R_alloc | apply Kd.R_drewN | apply Kd.R_drew)); exact HO_10.out⟩, ⟨by (with_reducible repeat (first | apply Kd.R_alloc | apply Kd.R_drewN | apply Kd.R_drew)); exact HO_11.out⟩, ⟨by repeat (first | (with_reducible first | exact HB.out | apply below_alloc | apply pw_below_drewN | apply below_drew1) | exact HB.out)⟩⟩
             ·
              rw [if_neg c43] at H
              exact absurd H (by simp)
            ·
             rw [if_neg c42] at H
             have c42b0 : decide (x15_4 < 0) = false := decide_eq_false c42
             clear c42
             by_cases c49 : x15_4 = x13_2
             ·
              rw [if_pos c49] at H
              have c49b0 : (x15_4 == x13_2) = true := beq_iff_eq.mpr c49
              have c49b1 : (x15_4 != x13_2) = false := bne_eq_false_iff_eq.mpr c49
              clear c49
              by_cases c50 : x13_2 = a1
              ·
               rw [if_pos c50] at H
               have c50b0 : (x13_2 == a1) = true := beq_iff_eq.mpr c50
               have c50b1 : (x13_2 != a1) = false := bne_eq_false_iff_eq.mpr c50
               clear c50
               simp only [Option.some.injEq, Prod.mk.injEq] at H
               obtain ⟨rfl, rfl⟩ := H
               obtain ⟨Ao51, co51, eo51⟩ := Kd.R_slice HO_10.out
               subst eo51
               go_wp2
               go_ret2
               exact ⟨by first | rfl | (simp [errW_none, errW_some] <;> rfl) | (simp [*, errW_none, errW_some] <;> rfl), by repeat (first | (with_reducible first | exact HB.out | apply below_alloc | apply pw_below_drewN | apply below_drew1) | exact HB.out)⟩
              ·
               rw [if_neg c50] at H
               have c50b0 : (x13_2 == a1) = false := beq_eq_false_iff_ne.mpr c50
               have c50b1 : (x13_2 != a1) = true := bne_iff_ne.mpr c50
               simp only [Option.some.injEq, Prod.mk.injEq] at H
               obtain ⟨rfl, rfl⟩ := H
               obtain ⟨Ao52, co52, eo52⟩ := Kd.R_slice HO_10.out
               subst eo52
               go_wp2
               go_ret2
               exact ⟨by first | rfl | (simp [errW_none, errW_some] <;> rfl) | (simp [*, errW_none, errW_some] <;> rfl), by repeat (first | (with_reducible first | exact HB.out | apply below_alloc | apply pw_below_drewN | apply below_drew1) | exact HB.out)⟩
             ·
              rw [if_neg c49] at H
              have c49b0 : (x15_4 == x13_2) = false := beq_eq_false_iff_ne.mpr c49
              have c49b1 : (x15_4 != x13_2) = true := bne_iff_ne.mpr c49
              have H' := Aside0.mk H
              clear H
              obtain ⟨Ao53, co53, eo53⟩ := Kd.R_slice HO_10.out
              subst eo53
              go_wp2
              go_roundg k4
              case measure => have := HJ5.out; have := HK2.out; have := HJ9.out; have := HK4.out; omega
              case rel => exact ⟨(x15_4), (wrap64 (x14_2 + 1)), (by first | rfl | (simp; done) | (simp [*]; done)), (by first | rfl | (simp; done) | (simp [*]; done)), H', ⟨by have := HJ5.out; have := HK2.out; have := HJ9.out; have := HK4.out; omega⟩, ⟨by (with_reducible repeat (first | apply Kd.R_alloc | apply Kd.R_drewN | apply Kd.R_drew)); exact HO_10.out⟩, ⟨by (with_reducible repeat (first | apply Kd.R_alloc | apply Kd.R_drewN | apply Kd.R_drew)); exact HO_11.out⟩, ⟨by repeat (first | (with_reducible first | exact HB.out | apply below_alloc | apply pw_below_drewN | apply below_drew1) | exact HB.out)⟩⟩
     ·
      rw [if_neg c9] at H
      have c9b0 : decide (x14_2 < a3) = false := decide_eq_false c9
      clear c9
      by_cases c54 : x13_2 = a1
      ·
       rw [if_pos c54] at H
       have c54b0 : (x13_2 == a1) = true := beq_iff_eq.mpr c54
       have c54b1 : (x13_2 != a1) = false := bne_eq_false_iff_eq.mpr c54
       clear c54
       simp only [Option.some.injEq, Prod.mk.injEq] at H
       obtain ⟨rfl, rfl⟩ := H
       go_wp2
       go_ret2
       exact ⟨by first | rfl | (simp [errW_none, errW_some] <;> rfl) | (simp [*, errW_none, errW_some] <;> rfl), by repeat (first | (with_reducible first | exact HB.out | apply below_alloc | apply pw_below_drewN | apply below_drew1) | exact HB.out)⟩
      ·
       rw [if_neg c54] at H
       have c54b0 : (x13_2 == a1) = false := beq_eq_false_iff_ne.mpr c54
       have c54b1 : (x13_2 != a1) = true := bne_iff_ne.mpr c54
       simp only [Option.some.injEq, Prod.mk.injEq] at H
       obtain ⟨rfl, rfl⟩ := H
       go_wp2
       go_ret2
       exact ⟨by first | rfl | (simp [errW_none, errW_some] <;> rfl) | (simp [*, errW_none, errW_some] <;> rfl), by repeat (first | (with_reducible first | exact HB.out | apply below_alloc | apply pw_below_drewN | apply below_drew1) | exact HB.out)⟩

end Go.Proofs.YtdcbaiimojnlnaaDoor.P
