/- The walks of the functions that these statements reach: each Go function as a plain Lean function, and the proof that its call comes to that. Written by the session's program wip/pp.py. -/
import Derived.Test.YtbgmmcngkdhpcaaDoorP0
import Derived.Test.YtbgmmcngkdhpcaaDoorP2
import Derived.Test.YtbgmmcngkdhpcaaDoorP4
import Derived.Test.YtbgmmcngkdhpcaaDoorP5
import Derived.Test.YtbgmmcngkdhpcaaDoorP10
namespace Go.Proofs.YtbgmmcngkdhpcaaDoor.P
open Go.Proofs.YtbgmmcngkdhpcaaDoor
open Go.RowKit Go.Proofs.YtbgmmcngkdhpcaaDoorW.PrintWords Go.Proofs.YtbgmmcngkdhpcaaDoorW.PrintLast Go.Proofs.YtbgmmcngkdhpcaaDoorW.PrintMore
attribute [local go_sem] cell_isSome max2_int min2_int max_two min_two max_three min_three max_four min_four   -- for this text's walks alone
set_option linter.unusedVariables false
set_option linter.unusedSimpArgs false

/-! ### move_Go: function 18 -/
def move_Go.j0 : Nat → ByteArray → Int → List (S89) → Bool → Int → Int → Int → Int → Int → Int → Int → Int → Int → Int → Int → Int → Option (Int × Int × Int × Int × Int)
  | 0, _, _, _, _, _, _, _, _, _, _, _, _, _, _, _, _ => none
  | k + 1, x0, x1, x4, x54, v0, v1, v2, v3, v4, v5, v6, v7, v8, v9, v10, v11 => if x54 = true then (some (v8, v9, v10, v11, 1)) else ((move_goes.f k x0 x1 v0 v1 v2 v3 v4 v5 v6 v7 x4).bind fun bt296 => (if bt296.2.2 = 0 then ((seek_Is.f v3).bind fun t299 => (if t299 = true then (some (bt296.1, bt296.2.1, v3, v5, 0)) else (some (bt296.1, bt296.2.1, v6, v7, 0)))) else (some (0, 0, v10, v11, bt296.2.2))))
def move_Go.f (k : Nat) (a0 : ByteArray) (a1 : Int) (a2_0 : Int) (a2_1 : Int) (a2_2 : Int) (a2_3 : Int) (a2_4 : Int) (a2_5 : Int) (a3_0 : Int) (a3_1 : Int) (l4 : List (S89)) : Option (Int × Int × Int × Int × Int) := (text_May.f a0).bind fun t283 => (if t283 = true then ((text_Of.f k a0).bind fun bt284 => ((text_Map_Is.f bt284.1 bt284.2 a1).bind fun t291 => (if t291 = true then ((move_Is.f a2_3).bind fun t292 => (if t292 = true then (if a2_1 < 0 then (move_Go.j0 k a0 a1 l4 true a2_0 a2_1 a2_2 a2_3 a2_4 a2_5 a3_0 a3_1 0 0 0 0) else (if a2_1 > 999 then (move_Go.j0 k a0 a1 l4 true a2_0 a2_1 a2_2 a2_3 a2_4 a2_5 a3_0 a3_1 0 0 0 0) else (if a3_0 = 0 then ((marks_May.f k l4).bind fun t293 => (move_Go.j0 k a0 a1 l4 (!t293) a2_0 a2_1 a2_2 a2_3 a2_4 a2_5 a3_0 a3_1 0 0 0 0)) else ((seek_Is.f a3_0).bind fun t294 => (if t294 = true then ((marks_May.f k l4).bind fun t295 => (move_Go.j0 k a0 a1 l4 (!t295) a2_0 a2_1 a2_2 a2_3 a2_4 a2_5 a3_0 a3_1 0 0 0 0)) else (move_Go.j0 k a0 a1 l4 true a2_0 a2_1 a2_2 a2_3 a2_4 a2_5 a3_0 a3_1 0 0 0 0)))))) else (move_Go.j0 k a0 a1 l4 true a2_0 a2_1 a2_2 a2_3 a2_4 a2_5 a3_0 a3_1 0 0 0 0))) else (move_Go.j0 k a0 a1 l4 true a2_0 a2_1 a2_2 a2_3 a2_4 a2_5 a3_0 a3_1 0 0 0 0)))) else (move_Go.j0 k a0 a1 l4 true a2_0 a2_1 a2_2 a2_3 a2_4 a2_5 a3_0 a3_1 0 0 0 0))
theorem move_Go.mono_l : ∀ k, (∀ y0 y1 y2 y3 y4 y5 y6 y7 y8 y9 y10 y11 y12 y13 y14 y15, LeO (move_Go.j0 k y0 y1 y2 y3 y4 y5 y6 y7 y8 y9 y10 y11 y12 y13 y14 y15) (move_Go.j0 (k + 1) y0 y1 y2 y3 y4 y5 y6 y7 y8 y9 y10 y11 y12 y13 y14 y15))
  | 0 => fun _ _ _ _ _ _ _ _ _ _ _ _ _ _ _ _ r h => by simp [move_Go.j0] at h
  | k + 1 => by
    have ih0 := move_Go.mono_l k
    all_goals intros
    all_goals first | unfold move_Go.j0
    all_goals repeat' first | (with_reducible first | exact ih0 _ _ _ _ _ _ _ _ _ _ _ _ _ _ _ _ | exact marks_May.mono _ _ | exact move_goes.mono _ _ _ _ _ _ _ _ _ _ _ _ | exact text_Of.mono _ _ | exact LeO.refl _ | exact LeO.none _ | refine LeO.ite ?_ ?_ | refine LeO.bind ?_ (fun _ => ?_)) | exact ih0 _ _ _ _ _ _ _ _ _ _ _ _ _ _ _ _ | exact marks_May.mono _ _ | exact move_goes.mono _ _ _ _ _ _ _ _ _ _ _ _ | exact text_Of.mono _ _ | exact LeO.refl _ | exact LeO.none _ | refine LeO.ite ?_ ?_ | refine LeO.bind ?_ (fun _ => ?_)
theorem move_Go.mono : ∀ a0 a1 a2 a3 a4 a5 a6 a7 a8 a9 a10 k, LeO (move_Go.f k a0 a1 a2 a3 a4 a5 a6 a7 a8 a9 a10) (move_Go.f (k + 1) a0 a1 a2 a3 a4 a5 a6 a7 a8 a9 a10) := by
  intro a0 a1 a2 a3 a4 a5 a6 a7 a8 a9 a10 k
  have ih0 := move_Go.mono_l k
  unfold move_Go.f
  repeat' first | (with_reducible first | exact ih0 _ _ _ _ _ _ _ _ _ _ _ _ _ _ _ _ | exact marks_May.mono _ _ | exact move_goes.mono _ _ _ _ _ _ _ _ _ _ _ _ | exact text_Of.mono _ _ | exact LeO.refl _ | exact LeO.none _ | refine LeO.ite ?_ ?_ | refine LeO.bind ?_ (fun _ => ?_)) | exact ih0 _ _ _ _ _ _ _ _ _ _ _ _ _ _ _ _ | exact marks_May.mono _ _ | exact move_goes.mono _ _ _ _ _ _ _ _ _ _ _ _ | exact text_Of.mono _ _ | exact LeO.refl _ | exact LeO.none _ | refine LeO.ite ?_ ?_ | refine LeO.bind ?_ (fun _ => ?_)
set_option maxHeartbeats 8000000 in
set_option maxRecDepth 100000 in
theorem move_Go.calls (k : Nat) (a0 : ByteArray) (a1 : Int) (a2_0 : Int) (a2_1 : Int) (a2_2 : Int) (a2_3 : Int) (a2_4 : Int) (a2_5 : Int) (a3_0 : Int) (a3_1 : Int) (A4 : Option Addr) (c4 : Nat) (l4 : List (S89)) (r1 : Int) (r2 : Int) (r3 : Int) (r4 : Int) (r5 : Int) (w : World) (hT : Tabs w) (hr4 : Kd.C k89 w A4 l4.length l4) (hc4 : l4.length ≤ c4) (h : move_Go.f k a0 a1 a2_0 a2_1 a2_2 a2_3 a2_4 a2_5 a3_0 a3_1 l4 = some (r1, r2, r3, r4, r5)) :
  Calls Tryd.prog 18 #[.string a0, .int .i64 a1, .agg #[.int .i64 a2_0, .int .i64 a2_1, .int .i64 a2_2, .int .i64 a2_3, .int .i64 a2_4, .int .i64 a2_5], .agg #[.int .i64 a3_0, .int .i64 a3_1], .slice A4 l4.length c4] w fun e w' => e = .returned (.tuple #[.agg #[.int .i64 r1, .int .i64 r2], .agg #[.int .i64 r3, .int .i64 r4], .int .i64 r5]) ∧ Below w.heap.size w w' := by
 have hu52 := Tryd.underlying52
 have hu31 := Tryd.underlying31
 have hu54 := Tryd.underlying54
 have HT := Aside0.mk hT
 clear hT
 have HR4 := Aside0.mk hr4
 have HC4 := Aside0.mk hc4
 clear hr4 hc4
 have HB := Aside0.mk (Below.refl w.heap.size w)
 have H : ((text_May.f a0).bind fun t283 => (if t283 = true then ((text_Of.f k a0).bind fun bt284 => ((text_Map_Is.f bt284.1 bt284.2 a1).bind fun t291 => (if t291 = true then ((move_Is.f a2_3).bind fun t292 => (if t292 = true then (if a2_1 < 0 then (move_Go.j0 k a0 a1 l4 true a2_0 a2_1 a2_2 a2_3 a2_4 a2_5 a3_0 a3_1 0 0 0 0) else (if a2_1 > 999 then (move_Go.j0 k a0 a1 l4 true a2_0 a2_1 a2_2 a2_3 a2_4 a2_5 a3_0 a3_1 0 0 0 0) else (if a3_0 = 0 then ((marks_May.f k l4).bind fun t293 => (move_Go.j0 k a0 a1 l4 (!t293) a2_0 a2_1 a2_2 a2_3 a2_4 a2_5 a3_0 a3_1 0 0 0 0)) else ((seek_Is.f a3_0).bind fun t294 => (if t294 = true then ((marks_May.f k l4).bind fun t295 => (move_Go.j0 k a0 a1 l4 (!t295) a2_0 a2_1 a2_2 a2_3 a2_4 a2_5 a3_0 a3_1 0 0 0 0)) else (move_Go.j0 k a0 a1 l4 true a2_0 a2_1 a2_2 a2_3 a2_4 a2_5 a3_0 a3_1 0 0 0 0)))))) else (move_Go.j0 k a0 a1 l4 true a2_0 a2_1 a2_2 a2_3 a2_4 a2_5 a3_0 a3_1 0 0 0 0))) else (move_Go.j0 k a0 a1 l4 true a2_0 a2_1 a2_2 a2_3 a2_4 a2_5 a3_0 a3_1 0 0 0 0)))) else (move_Go.j0 k a0 a1 l4 true a2_0 a2_1 a2_2 a2_3 a2_4 a2_5 a3_0 a3_1 0 0 0 0))) = some (r1, r2, r3, r4, r5) := h
 clear h
 have HC6 := Aside0.mk H
 clear H
 go_enter Tryd.func18, Tryd.ntmps18
 go_upto_region 1 with (first | ((with_reducible refine gate_dst (N := 7) rfl ?_); refine box_event ?hg (N := 7) ?hd (cs := #[.int .i64 a2_0, .int .i64 a2_1, .int .i64 a2_2, .int .i64 a2_3, .int .i64 a2_4, .int .i64 a2_5]) (t := 52) ?hr ?_; (case hd => rfl); (case hg => rfl); (case hr => first | (go_simp; done) | (go_simp; rfl)); intro gb279 hg w7 hbox hb; have n0_ := Aside0.mk (below_step (by repeat with_reducible first | exact HB.out | apply pw_below_drewN | apply below_drew1 | apply below_alloc) hb); have n1_ := Aside0.mk (hbox); have n2_ := Aside0.mk (geb hg (by repeat with_reducible first | exact HB.out | apply pw_below_drewN | apply below_drew1 | apply below_alloc)); have n3_ := n2_; clear HB; have HB := n0_; have BK279 := n1_; have GW279 := n2_; have GE279 := n3_; clear n0_ n1_ n2_ n3_; clear hb hbox hg) | ((with_reducible refine gate_dst (N := 8) rfl ?_); refine box_event ?hg (N := 8) ?hd (cs := #[.int .i64 a3_0, .int .i64 a3_1]) (t := 31) ?hr ?_; (case hd => rfl); (case hg => rfl); (case hr => first | (go_simp; done) | (go_simp; rfl)); intro gb280 hg w8 hbox hb; have n0_ := Aside0.mk (blb hb BK279.out); have n1_ := Aside0.mk (below_step (by repeat with_reducible first | exact HB.out | apply pw_below_drewN | refine below_set ?_ GE279.out | apply below_drew1 | apply below_alloc) hb); have n2_ := Aside0.mk (hbox); have n3_ := Aside0.mk (geb hg (by repeat with_reducible first | exact HB.out | apply pw_below_drewN | refine below_set ?_ GE279.out | apply below_drew1 | apply below_alloc)); have n4_ := n3_; have n5_ := Aside0.mk ((nbl hg BK279.out)); have n6_ := Aside0.mk ((nbr hg BK279.out)); clear BK279; clear HB; have BK279 := n0_; have HB := n1_; have BK280 := n2_; have GW280 := n3_; have GE280 := n4_; have NB279_280 := n5_; have NB280_279 := n6_; clear n0_ n1_ n2_ n3_ n4_ n5_ n6_; clear hb hbox hg) | ((with_reducible refine gate_dst (N := 10) rfl ?_); refine box_event ?hg (N := 10) ?hd (cs := #[.int .i64 0, .int .i64 0]) (t := 54) ?hr ?_; (case hd => rfl); (case hg => rfl); (case hr => first | (go_simp; done) | (go_simp; rfl)); intro gb281 hg w9 hbox hb; have n0_ := Aside0.mk (blb hb BK279.out); have n1_ := Aside0.mk (blb hb BK280.out); have n2_ := Aside0.mk (below_step (by repeat with_reducible first | exact HB.out | apply pw_below_drewN | refine below_set ?_ GE279.out | refine below_set ?_ GE280.out | apply below_drew1 | apply below_alloc) hb); have n3_ := Aside0.mk (hbox); have n4_ := Aside0.mk (geb hg (by repeat with_reducible first | exact HB.out | apply pw_below_drewN | refine below_set ?_ GE279.out | refine below_set ?_ GE280.out | apply below_drew1 | apply below_alloc)); have n5_ := n4_; have n6_ := Aside0.mk ((nbl hg BK279.out)); have n7_ := Aside0.mk ((nbr hg BK279.out)); have n8_ := Aside0.mk ((nbl hg BK280.out)); have n9_ := Aside0.mk ((nbr hg BK280.out)); clear BK279; clear BK280; clear HB; have BK279 := n0_; have BK280 := n1_; have HB := n2_; have BK281 := n3_; have GW281 := n4_; have GE281 := n5_; have NB279_281 := n6_; have NB281_279 := n7_; have NB280_281 := n8_; have NB281_280 := n9_; clear n0_ n1_ n2_ n3_ n4_ n5_ n6_ n7_ n8_ n9_; clear hb hbox hg) | ((with_reducible refine gate_dst (N := 11) rfl ?_); refine box_event ?hg (N := 11) ?hd (cs := #[.int .i64 0, .int .i64 0]) (t := 31) ?hr ?_; (case hd => rfl); (case hg => rfl); (case hr => first | (go_simp; done) | (go_simp; rfl)); intro gb282 hg w10 hbox hb; have n0_ := Aside0.mk (blb hb BK279.out); have n1_ := Aside0.mk (blb hb BK280.out); have n2_ := Aside0.mk (blb hb BK281.out); have n3_ := Aside0.mk (below_step (by repeat with_reducible first | exact HB.out | apply pw_below_drewN | refine below_set ?_ GE279.out | refine below_set ?_ GE280.out | refine below_set ?_ GE281.out | apply below_drew1 | apply below_alloc) hb); have n4_ := Aside0.mk (hbox); have n5_ := Aside0.mk (geb hg (by repeat with_reducible first | exact HB.out | apply pw_below_drewN | refine below_set ?_ GE279.out | refine below_set ?_ GE280.out | refine below_set ?_ GE281.out | apply below_drew1 | apply below_alloc)); have n6_ := n5_; have n7_ := Aside0.mk ((nbl hg BK279.out)); have n8_ := Aside0.mk ((nbr hg BK279.out)); have n9_ := Aside0.mk ((nbl hg BK280.out)); have n10_ := Aside0.mk ((nbr hg BK280.out)); have n11_ := Aside0.mk ((nbl hg BK281.out)); have n12_ := Aside0.mk ((nbr hg BK281.out)); clear BK279; clear BK280; clear BK281; clear HB; have BK279 := n0_; have BK280 := n1_; have BK281 := n2_; have HB := n3_; have BK282 := n4_; have GW282 := n5_; have GE282 := n6_; have NB279_282 := n7_; have NB282_279 := n8_; have NB280_282 := n9_; have NB282_280 := n10_; have NB281_282 := n11_; have NB282_281 := n12_; clear n0_ n1_ n2_ n3_ n4_ n5_ n6_ n7_ n8_ n9_ n10_ n11_ n12_; clear hb hbox hg))
 (try simp only [Act.put, List.setIfInBounds_toArray, List.set_cons_zero, List.set_cons_succ])
 go_cut [54] (fun v54 wc => ∃ (kq : Nat) (x54_5 : Bool), v54 = .bool x54_5 ∧ Aside0 (move_Go.j0 kq a0 a1 l4 x54_5 a2_0 a2_1 a2_2 a2_3 a2_4 a2_5 a3_0 a3_1 0 0 0 0 = some (r1, r2, r3, r4, r5)) ∧ Aside0 (kq ≤ k) ∧ Aside0 (wc.heap[gb279]? = some (.cells #[.int .i64 a2_0, .int .i64 a2_1, .int .i64 a2_2, .int .i64 a2_3, .int .i64 a2_4, .int .i64 a2_5] 52 (0, 0))) ∧ Aside0 (wc.heap[gb280]? = some (.cells #[.int .i64 a3_0, .int .i64 a3_1] 31 (0, 0))) ∧ Aside0 (wc.heap[gb281]? = some (.cells #[.int .i64 0, .int .i64 0] 54 (0, 0))) ∧ Aside0 (wc.heap[gb282]? = some (.cells #[.int .i64 0, .int .i64 0] 31 (0, 0))) ∧ Aside0 (Below w.heap.size w wc))
 case first =>
  have H := HC6.out
  clear HC6
  replace H := Option.bind_eq_some_iff.mp H
  obtain ⟨t283, A110, H⟩ := H
  (try dsimp only at H)
  have A11 := Aside0.mk A110
  clear A110
  by_cases c12 : t283 = true
  rotate_left
  ·
   replace c12 := Bool.eq_false_iff.mpr c12
   subst c12
   have H1 : (move_Go.j0 k a0 a1 l4 true a2_0 a2_1 a2_2 a2_3 a2_4 a2_5 a3_0 a3_1 0 0 0 0) = some (r1, r2, r3, r4, r5) := by rw [if_neg (show ¬ (false = true) by decide)] at H; exact H
   clear H
   have H := H1
   clear H1
   have H' := Aside0.mk H
   clear H
   go_wp2_with (first | ((with_reducible refine gate_callee (f := 27) rfl ?_); refine goesL_ (some 14) rfl rfl Tryd.func27 (by kernel_rfl) rfl #[.string a0] rfl (map1 rfl) ?_; (with_reducible refine (text_May.calls a0 false _ ?side1 A11.out).mono ?_); (case side1 => exact Tabs.below HT.out (by repeat with_reducible first | exact HB.out | apply pw_below_drewN | refine below_set ?_ GE279.out | refine below_set ?_ GE280.out | refine below_set ?_ GE281.out | refine below_set ?_ GE282.out | apply below_drew1 | apply below_alloc)); rintro e w110 ⟨rfl, hb⟩; refine ⟨_, rfl, ?_⟩; have n0_ := Aside0.mk (blb hb BK279.out); have n1_ := Aside0.mk (blb hb BK280.out); have n2_ := Aside0.mk (blb hb BK281.out); have n3_ := Aside0.mk (blb hb BK282.out); have n4_ := Aside0.mk (below_step (by repeat with_reducible first | exact HB.out | apply pw_below_drewN | refine below_set ?_ GE279.out | refine below_set ?_ GE280.out | refine below_set ?_ GE281.out | refine below_set ?_ GE282.out | apply below_drew1 | apply below_alloc) hb); clear BK279; clear BK280; clear BK281; clear BK282; clear HB; have BK279 := n0_; have BK280 := n1_; have BK281 := n2_; have BK282 := n3_; have HB := n4_; clear n0_ n1_ n2_ n3_ n4_; (try clear hb); (try clear hb2); (try clear hk); (try clear hi)))
   go_meet
   case rel => exact ⟨_, (true), (by first | rfl | (simp; done) | (simp [*]; done)), H', ⟨by first | omega | exact Nat.le_refl _⟩, ⟨BK279.out⟩, ⟨BK280.out⟩, ⟨BK281.out⟩, ⟨BK282.out⟩, ⟨by repeat with_reducible first | exact HB.out | apply pw_below_drewN | refine below_set ?_ GE279.out | refine below_set ?_ GE280.out | refine below_set ?_ GE281.out | refine below_set ?_ GE282.out | apply below_drew1 | apply below_alloc⟩⟩
  subst c12
  have H1 : ((text_Of.f k a0).bind fun bt284 => ((text_Map_Is.f bt284.1 bt284.2 a1).bind fun t291 => (if t291 = true then ((move_Is.f a2_3).bind fun t292 => (if t292 = true then (if a2_1 < 0 then (move_Go.j0 k a0 a1 l4 true a2_0 a2_1 a2_2 a2_3 a2_4 a2_5 a3_0 a3_1 0 0 0 0) else (if a2_1 > 999 then (move_Go.j0 k a0 a1 l4 true a2_0 a2_1 a2_2 a2_3 a2_4 a2_5 a3_0 a3_1 0 0 0 0) else (if a3_0 = 0 then ((marks_May.f k l4).bind fun t293 => (move_Go.j0 k a0 a1 l4 (!t293) a2_0 a2_1 a2_2 a2_3 a2_4 a2_5 a3_0 a3_1 0 0 0 0)) else ((seek_Is.f a3_0).bind fun t294 => (if t294 = true then ((marks_May.f k l4).bind fun t295 => (move_Go.j0 k a0 a1 l4 (!t295) a2_0 a2_1 a2_2 a2_3 a2_4 a2_5 a3_0 a3_1 0 0 0 0)) else (move_Go.j0 k a0 a1 l4 true a2_0 a2_1 a2_2 a2_3 a2_4 a2_5 a3_0 a3_1 0 0 0 0)))))) else (move_Go.j0 k a0 a1 l4 true a2_0 a2_1 a2_2 a2_3 a2_4 a2_5 a3_0 a3_1 0 0 0 0))) else (move_Go.j0 k a0 a1 l4 true a2_0 a2_1 a2_2 a2_3 a2_4 a2_5 a3_0 a3_1 0 0 0 0)))) = some (r1, r2, r3, r4, r5) := by rw [if_pos rfl] at H; exact H
  clear H
  have H := H1
  clear H1
  replace H := Option.bind_eq_some_iff.mp H
  obtain ⟨⟨t284, t287⟩, A130, H⟩ := H
  (try dsimp only at H)
  have A13 := Aside0.mk A130
  clear A130
  replace H := Option.bind_eq_some_iff.mp H
  obtain ⟨t291, A140, H⟩ := H
  (try dsimp only at H)
  have A14 := Aside0.mk A140
  clear A140
  by_cases c15 : t291 = true
  rotate_left
  ·
   replace c15 := Bool.eq_false_iff.mpr c15
   subst c15
   have H1 : (move_Go.j0 k a0 a1 l4 true a2_0 a2_1 a2_2 a2_3 a2_4 a2_5 a3_0 a3_1 0 0 0 0) = some (r1, r2, r3, r4, r5) := by rw [if_neg (show ¬ (false = true) by decide)] at H; exact H
   clear H
   have H := H1
   clear H1
   have H' := Aside0.mk H
   clear H
   go_wp2_with (first | ((with_reducible refine gate_callee (f := 27) rfl ?_); refine goesL_ (some 14) rfl rfl Tryd.func27 (by kernel_rfl) rfl #[.string a0] rfl (map1 rfl) ?_; (with_reducible refine (text_May.calls a0 true _ ?side1 A11.out).mono ?_); (case side1 => exact Tabs.below HT.out (by repeat with_reducible first | exact HB.out | apply pw_below_drewN | refine below_set ?_ GE279.out | refine below_set ?_ GE280.out | refine below_set ?_ GE281.out | refine below_set ?_ GE282.out | apply below_drew1 | apply below_alloc)); rintro e w106 ⟨rfl, hb⟩; refine ⟨_, rfl, ?_⟩; have n0_ := Aside0.mk (blb hb BK279.out); have n1_ := Aside0.mk (blb hb BK280.out); have n2_ := Aside0.mk (blb hb BK281.out); have n3_ := Aside0.mk (blb hb BK282.out); have n4_ := Aside0.mk (below_step (by repeat with_reducible first | exact HB.out | apply pw_below_drewN | refine below_set ?_ GE279.out | refine below_set ?_ GE280.out | refine below_set ?_ GE281.out | refine below_set ?_ GE282.out | apply below_drew1 | apply below_alloc) hb); clear BK279; clear BK280; clear BK281; clear BK282; clear HB; have BK279 := n0_; have BK280 := n1_; have BK281 := n2_; have BK282 := n3_; have HB := n4_; clear n0_ n1_ n2_ n3_ n4_; (try clear hb); (try clear hb2); (try clear hk); (try clear hi)) | (go_at_call 28; (with_reducible refine (text_Of.calls k a0 t284 t287 _ A13.out).mono ?_); rintro e w107 ⟨v285, v288, gb290, rfl, ho0, ho1, ⟨hx290_, hz290_⟩, hb⟩; have n0_ := Aside0.mk (Kd.R_lower ho0 (below_size (by repeat with_reducible first | exact HB.out | apply pw_below_drewN | refine below_set ?_ GE279.out | refine below_set ?_ GE280.out | refine below_set ?_ GE281.out | refine below_set ?_ GE282.out | apply below_drew1 | apply below_alloc))); have n1_ := Aside0.mk (Kd.R_lower ho1 (below_size (by repeat with_reducible first | exact HB.out | apply pw_below_drewN | refine below_set ?_ GE279.out | refine below_set ?_ GE280.out | refine below_set ?_ GE281.out | refine below_set ?_ GE282.out | apply below_drew1 | apply below_alloc))); have n2_ := Aside0.mk (blb hb BK279.out); have n3_ := Aside0.mk (blb hb BK280.out); have n4_ := Aside0.mk (blb hb BK281.out); have n5_ := Aside0.mk (blb hb BK282.out); have n6_ := Aside0.mk (hx290_); have n7_ := Aside0.mk ((Nat.le_trans (below_size (by repeat with_reducible first | exact HB.out | apply pw_below_drewN | refine below_set ?_ GE279.out | refine below_set ?_ GE280.out | refine below_set ?_ GE281.out | refine below_set ?_ GE282.out | apply below_drew1 | apply below_alloc)) hz290_ : w.heap.size ≤ gb290)); have n8_ := Aside0.mk ((Nat.le_trans (below_size (by repeat with_reducible first | exact HB.out | apply pw_below_drewN | refine below_set ?_ GE279.out | refine below_set ?_ GE280.out | refine below_set ?_ GE281.out | refine below_set ?_ GE282.out | apply below_drew1 | apply below_alloc)) hz290_ : w.heap.size ≤ gb290)); have n9_ := Aside0.mk ((Nat.ne_of_lt (Nat.lt_of_lt_of_le (blk_lt (g := gb279) (o := .cells #[.int .i64 a2_0, .int .i64 a2_1, .int .i64 a2_2, .int .i64 a2_3, .int .i64 a2_4, .int .i64 a2_5] 52 (0, 0)) (by exact BK279.out)) hz290_) : gb279 ≠ gb290)); have n10_ := Aside0.mk ((Nat.ne_of_gt (Nat.lt_of_lt_of_le (blk_lt (g := gb279) (o := .cells #[.int .i64 a2_0, .int .i64 a2_1, .int .i64 a2_2, .int .i64 a2_3, .int .i64 a2_4, .int .i64 a2_5] 52 (0, 0)) (by exact BK279.out)) hz290_) : gb290 ≠ gb279)); have n11_ := Aside0.mk ((Nat.ne_of_lt (Nat.lt_of_lt_of_le (blk_lt (g := gb280) (o := .cells #[.int .i64 a3_0, .int .i64 a3_1] 31 (0, 0)) (by exact BK280.out)) hz290_) : gb280 ≠ gb290)); have n12_ := Aside0.mk ((Nat.ne_of_gt (Nat.lt_of_lt_of_le (blk_lt (g := gb280) (o := .cells #[.int .i64 a3_0, .int .i64 a3_1] 31 (0, 0)) (by exact BK280.out)) hz290_) : gb290 ≠ gb280)); have n13_ := Aside0.mk ((Nat.ne_of_lt (Nat.lt_of_lt_of_le (blk_lt (g := gb281) (o := .cells #[.int .i64 0, .int .i64 0] 54 (0, 0)) (by exact BK281.out)) hz290_) : gb281 ≠ gb290)); have n14_ := Aside0.mk ((Nat.ne_of_gt (Nat.lt_of_lt_of_le (blk_lt (g := gb281) (o := .cells #[.int .i64 0, .int .i64 0] 54 (0, 0)) (by exact BK281.out)) hz290_) : gb290 ≠ gb281)); have n15_ := Aside0.mk ((Nat.ne_of_lt (Nat.lt_of_lt_of_le (blk_lt (g := gb282) (o := .cells #[.int .i64 0, .int .i64 0] 31 (0, 0)) (by exact BK282.out)) hz290_) : gb282 ≠ gb290)); have n16_ := Aside0.mk ((Nat.ne_of_gt (Nat.lt_of_lt_of_le (blk_lt (g := gb282) (o := .cells #[.int .i64 0, .int .i64 0] 31 (0, 0)) (by exact BK282.out)) hz290_) : gb290 ≠ gb282)); have n17_ := Aside0.mk (below_step (by repeat with_reducible first | exact HB.out | apply pw_below_drewN | refine below_set ?_ GE279.out | refine below_set ?_ GE280.out | refine below_set ?_ GE281.out | refine below_set ?_ GE282.out | apply below_drew1 | apply below_alloc) hb); clear BK279; clear BK280; clear BK281; clear BK282; clear HB; have HO286 := n0_; have HO289 := n1_; have BK279 := n2_; have BK280 := n3_; have BK281 := n4_; have BK282 := n5_; have BK290 := n6_; have GW290 := n7_; have GE290 := n8_; have NB279_290 := n9_; have NB290_279 := n10_; have NB280_290 := n11_; have NB290_280 := n12_; have NB281_290 := n13_; have NB290_281 := n14_; have NB282_290 := n15_; have NB290_282 := n16_; have HB := n17_; clear n0_ n1_ n2_ n3_ n4_ n5_ n6_ n7_ n8_ n9_ n10_ n11_ n12_ n13_ n14_ n15_ n16_ n17_; (try clear hb); (try clear hb2); (try clear hk); (try clear hi); (try clear ho0); (try clear ho1); (try clear hx290_ hz290_); obtain ⟨Ao108, co108, eo108⟩ := Kd.R_slice HO286.out; subst eo108; obtain ⟨Ao109, co109, eo109⟩ := Kd.R_slice HO289.out; subst eo109) | (go_at_call 29; (with_reducible refine (text_Map_Is.calls gb290 Ao108 co108 t284 Ao109 co109 t287 a1 false _ ?side1 ?side2 ?side3 ?side4 ?side5 A14.out).mono ?_); (case side1 => exact BK290.out); (case side2 => repeat (first | exact (Kd.R_reads' HO286.out).2.2 | with_reducible first | refine Kd.C_drewN ?_ _ | refine Kd.C_drew ?_ | refine Kd.C_alloc ?_ _)); (case side3 => exact (Kd.R_reads' HO286.out).2.1); (case side4 => repeat (first | exact (Kd.R_reads' HO289.out).2.2 | with_reducible first | refine Kd.C_drewN ?_ _ | refine Kd.C_drew ?_ | refine Kd.C_alloc ?_ _)); (case side5 => exact (Kd.R_reads' HO289.out).2.1); rintro e w' ⟨rfl, ⟨nd, rfl⟩⟩))
   go_meet
   case rel => exact ⟨_, (true), (by first | rfl | (simp; done) | (simp [*]; done)), H', ⟨by first | omega | exact Nat.le_refl _⟩, ⟨BK279.out⟩, ⟨BK280.out⟩, ⟨BK281.out⟩, ⟨BK282.out⟩, ⟨by repeat with_reducible first | exact HB.out | apply pw_below_drewN | refine below_set ?_ GE279.out | refine below_set ?_ GE280.out | refine below_set ?_ GE281.out | refine below_set ?_ GE282.out | refine below_set ?_ GE290.out | apply below_drew1 | apply below_alloc⟩⟩
  subst c15
  have H1 : ((move_Is.f a2_3).bind fun t292 => (if t292 = true then (if a2_1 < 0 then (move_Go.j0 k a0 a1 l4 true a2_0 a2_1 a2_2 a2_3 a2_4 a2_5 a3_0 a3_1 0 0 0 0) else (if a2_1 > 999 then (move_Go.j0 k a0 a1 l4 true a2_0 a2_1 a2_2 a2_3 a2_4 a2_5 a3_0 a3_1 0 0 0 0) else (if a3_0 = 0 then ((marks_May.f k l4).bind fun t293 => (move_Go.j0 k a0 a1 l4 (!t293) a2_0 a2_1 a2_2 a2_3 a2_4 a2_5 a3_0 a3_1 0 0 0 0)) else ((seek_Is.f a3_0).bind fun t294 => (if t294 = true then ((marks_May.f k l4).bind fun t295 => (move_Go.j0 k a0 a1 l4 (!t295) a2_0 a2_1 a2_2 a2_3 a2_4 a2_5 a3_0 a3_1 0 0 0 0)) else (move_Go.j0 k a0 a1 l4 true a2_0 a2_1 a2_2 a2_3 a2_4 a2_5 a3_0 a3_1 0 0 0 0)))))) else (move_Go.j0 k a0 a1 l4 true a2_0 a2_1 a2_2 a2_3 a2_4 a2_5 a3_0 a3_1 0 0 0 0))) = some (r1, r2, r3, r4, r5) := by rw [if_pos rfl] at H; exact H
  clear H
  have H := H1
  clear H1
  replace H := Option.bind_eq_some_iff.mp H
  obtain ⟨t292, A160, H⟩ := H
  (try dsimp only at H)
  have A16 := Aside0.mk A160
  clear A160
  by_cases c17 : t292 = true
  rotate_left
  ·
   replace c17 := Bool.eq_false_iff.mpr c17
   subst c17
   have H1 : (move_Go.j0 k a0 a1 l4 true a2_0 a2_1 a2_2 a2_3 a2_4 a2_5 a3_0 a3_1 0 0 0 0) = some (r1, r2, r3, r4, r5) := by rw [if_neg (show ¬ (false = true) by decide)] at H; exact H
   clear H
   have H := H1
   clear H1
   have H' := Aside0.mk H
   clear H
   go_wp2_with (first | ((with_reducible refine gate_callee (f := 27) rfl ?_); refine goesL_ (some 14) rfl rfl Tryd.func27 (by kernel_rfl) rfl #[.string a0] rfl (map1 rfl) ?_; (with_reducible refine (text_May.calls a0 true _ ?side1 A11.out).mono ?_); (case side1 => exact Tabs.below HT.out (by repeat with_reducible first | exact HB.out | apply pw_below_drewN | refine below_set ?_ GE279.out | refine below_set ?_ GE280.out | refine below_set ?_ GE281.out | refine below_set ?_ GE282.out | apply below_drew1 | apply below_alloc)); rintro e w96 ⟨rfl, hb⟩; refine ⟨_, rfl, ?_⟩; have n0_ := Aside0.mk (blb hb BK279.out); have n1_ := Aside0.mk (blb hb BK280.out); have n2_ := Aside0.mk (blb hb BK281.out); have n3_ := Aside0.mk (blb hb BK282.out); have n4_ := Aside0.mk (below_step (by repeat with_reducible first | exact HB.out | apply pw_below_drewN | refine below_set ?_ GE279.out | refine below_set ?_ GE280.out | refine below_set ?_ GE281.out | refine below_set ?_ GE282.out | apply below_drew1 | apply below_alloc) hb); clear BK279; clear BK280; clear BK281; clear BK282; clear HB; have BK279 := n0_; have BK280 := n1_; have BK281 := n2_; have BK282 := n3_; have HB := n4_; clear n0_ n1_ n2_ n3_ n4_; (try clear hb); (try clear hb2); (try clear hk); (try clear hi)) | (go_at_call 28; (with_reducible refine (text_Of.calls k a0 t284 t287 _ A13.out).mono ?_); rintro e w97 ⟨v285, v288, gb290, rfl, ho0, ho1, ⟨hx290_, hz290_⟩, hb⟩; have n0_ := Aside0.mk (Kd.R_lower ho0 (below_size (by repeat with_reducible first | exact HB.out | apply pw_below_drewN | refine below_set ?_ GE279.out | refine below_set ?_ GE280.out | refine below_set ?_ GE281.out | refine below_set ?_ GE282.out | apply below_drew1 | apply below_alloc))); have n1_ := Aside0.mk (Kd.R_lower ho1 (below_size (by repeat with_reducible first | exact HB.out | apply pw_below_drewN | refine below_set ?_ GE279.out | refine below_set ?_ GE280.out | refine below_set ?_ GE281.out | refine below_set ?_ GE282.out | apply below_drew1 | apply below_alloc))); have n2_ := Aside0.mk (blb hb BK279.out); have n3_ := Aside0.mk (blb hb BK280.out); have n4_ := Aside0.mk (blb hb BK281.out); have n5_ := Aside0.mk (blb hb BK282.out); have n6_ := Aside0.mk (hx290_); have n7_ := Aside0.mk ((Nat.le_trans (below_size (by repeat with_reducible first | exact HB.out | apply pw_below_drewN | refine below_set ?_ GE279.out | refine below_set ?_ GE280.out | refine below_set ?_ GE281.out | refine below_set ?_ GE282.out | apply below_drew1 | apply below_alloc)) hz290_ : w.heap.size ≤ gb290)); have n8_ := Aside0.mk ((Nat.le_trans (below_size (by repeat with_reducible first | exact HB.out | apply pw_below_drewN | refine below_set ?_ GE279.out | refine below_set ?_ GE280.out | refine below_set ?_ GE281.out | refine below_set ?_ GE282.out | apply below_drew1 | apply below_alloc)) hz290_ : w.heap.size ≤ gb290)); have n9_ := Aside0.mk ((Nat.ne_of_lt (Nat.lt_of_lt_of_le (blk_lt (g := gb279) (o := .cells #[.int .i64 a2_0, .int .i64 a2_1, .int .i64 a2_2, .int .i64 a2_3, .int .i64 a2_4, .int .i64 a2_5] 52 (0, 0)) (by exact BK279.out)) hz290_) : gb279 ≠ gb290)); have n10_ := Aside0.mk ((Nat.ne_of_gt (Nat.lt_of_lt_of_le (blk_lt (g := gb279) (o := .cells #[.int .i64 a2_0, .int .i64 a2_1, .int .i64 a2_2, .int .i64 a2_3, .int .i64 a2_4, .int .i64 a2_5] 52 (0, 0)) (by exact BK279.out)) hz290_) : gb290 ≠ gb279)); have n11_ := Aside0.mk ((Nat.ne_of_lt (Nat.lt_of_lt_of_le (blk_lt (g := gb280) (o := .cells #[.int .i64 a3_0, .int .i64 a3_1] 31 (0, 0)) (by exact BK280.out)) hz290_) : gb280 ≠ gb290)); have n12_ := Aside0.mk ((Nat.ne_of_gt (Nat.lt_of_lt_of_le (blk_lt (g := gb280) (o := .cells #[.int .i64 a3_0, .int .i64 a3_1] 31 (0, 0)) (by exact BK280.out)) hz290_) : gb290 ≠ gb280)); have n13_ := Aside0.mk ((Nat.ne_of_lt (Nat.lt_of_lt_of_le (blk_lt (g := gb281) (o := .cells #[.int .i64 0, .int .i64 0] 54 (0, 0)) (by exact BK281.out)) hz290_) : gb281 ≠ gb290)); have n14_ := Aside0.mk ((Nat.ne_of_gt (Nat.lt_of_lt_of_le (blk_lt (g := gb281) (o := .cells #[.int .i64 0, .int .i64 0] 54 (0, 0)) (by exact BK281.out)) hz290_) : gb290 ≠ gb281)); have n15_ := Aside0.mk ((Nat.ne_of_lt (Nat.lt_of_lt_of_le (blk_lt (g := gb282) (o := .cells #[.int .i64 0, .int .i64 0] 31 (0, 0)) (by exact BK282.out)) hz290_) : gb282 ≠ gb290)); have n16_ := Aside0.mk ((Nat.ne_of_gt (Nat.lt_of_lt_of_le (blk_lt (g := gb282) (o := .cells #[.int .i64 0, .int .i64 0] 31 (0, 0)) (by exact BK282.out)) hz290_) : gb290 ≠ gb282)); have n17_ := Aside0.mk (below_step (by repeat with_reducible first | exact HB.out | apply pw_below_drewN | refine below_set ?_ GE279.out | refine below_set ?_ GE280.out | refine below_set ?_ GE281.out | refine below_set ?_ GE282.out | apply below_drew1 | apply below_alloc) hb); clear BK279; clear BK280; clear BK281; clear BK282; clear HB; have HO286 := n0_; have HO289 := n1_; have BK279 := n2_; have BK280 := n3_; have BK281 := n4_; have BK282 := n5_; have BK290 := n6_; have GW290 := n7_; have GE290 := n8_; have NB279_290 := n9_; have NB290_279 := n10_; have NB280_290 := n11_; have NB290_280 := n12_; have NB281_290 := n13_; have NB290_281 := n14_; have NB282_290 := n15_; have NB290_282 := n16_; have HB := n17_; clear n0_ n1_ n2_ n3_ n4_ n5_ n6_ n7_ n8_ n9_ n10_ n11_ n12_ n13_ n14_ n15_ n16_ n17_; (try clear hb); (try clear hb2); (try clear hk); (try clear hi); (try clear ho0); (try clear ho1); (try clear hx290_ hz290_); obtain ⟨Ao98, co98, eo98⟩ := Kd.R_slice HO286.out; subst eo98; obtain ⟨Ao99, co99, eo99⟩ := Kd.R_slice HO289.out; subst eo99) | (go_at_call 29; (with_reducible refine (text_Map_Is.calls gb290 Ao98 co98 t284 Ao99 co99 t287 a1 true _ ?side1 ?side2 ?side3 ?side4 ?side5 A14.out).mono ?_); (case side1 => exact BK290.out); (case side2 => repeat (first | exact (Kd.R_reads' HO286.out).2.2 | with_reducible first | refine Kd.C_drewN ?_ _ | refine Kd.C_drew ?_ | refine Kd.C_alloc ?_ _)); (case side3 => exact (Kd.R_reads' HO286.out).2.1); (case side4 => repeat (first | exact (Kd.R_reads' HO289.out).2.2 | with_reducible first | refine Kd.C_drewN ?_ _ | refine Kd.C_drew ?_ | refine Kd.C_alloc ?_ _)); (case side5 => exact (Kd.R_reads' HO289.out).2.1); rintro e w' ⟨rfl, ⟨nd, rfl⟩⟩; have hnb100 := NB279_280.out; have hnc100 := NB280_279.out; have hnb101 := NB279_281.out; have hnc101 := NB281_279.out; have hnb102 := NB279_282.out; have hnc102 := NB282_279.out; have hnb103 := NB279_290.out; have hnc103 := NB290_279.out; have hcz104_0 := cz0 BK279.out; have hcz104_1 := cz1 BK279.out; have hcz104_2 := cz2 BK279.out; have hcz104_3 := cz3 BK279.out; have hcz104_4 := cz4 BK279.out; have hcz104_5 := cz5 BK279.out; have hfz104_0 := blk_frozen BK279.out 0; have hfz104_1 := blk_frozen BK279.out 1; have hfz104_2 := blk_frozen BK279.out 2; have hfz104_3 := blk_frozen BK279.out 3; have hfz104_4 := blk_frozen BK279.out 4; have hfz104_5 := blk_frozen BK279.out 5) | (go_at_call 21; (with_reducible refine (move_Is.calls a2_3 false _ A16.out).mono ?_); rintro e w105 ⟨rfl, hb⟩; have n0_ := Aside0.mk (Kd.R_below (by (with_reducible repeat (first | apply Kd.R_alloc | apply Kd.R_drewN | apply Kd.R_drew)); exact HO286.out) hb); have n1_ := Aside0.mk (Kd.R_below (by (with_reducible repeat (first | apply Kd.R_alloc | apply Kd.R_drewN | apply Kd.R_drew)); exact HO289.out) hb); have n2_ := Aside0.mk (blb hb BK279.out); have n3_ := Aside0.mk (blb hb BK280.out); have n4_ := Aside0.mk (blb hb BK281.out); have n5_ := Aside0.mk (blb hb BK282.out); have n6_ := Aside0.mk (blb hb BK290.out); have n7_ := Aside0.mk (below_step (by repeat with_reducible first | exact HB.out | apply pw_below_drewN | refine below_set ?_ GE279.out | refine below_set ?_ GE280.out | refine below_set ?_ GE281.out | refine below_set ?_ GE282.out | refine below_set ?_ GE290.out | apply below_drew1 | apply below_alloc) hb); clear HO286; clear HO289; clear BK279; clear BK280; clear BK281; clear BK282; clear BK290; clear HB; have HO286 := n0_; have HO289 := n1_; have BK279 := n2_; have BK280 := n3_; have BK281 := n4_; have BK282 := n5_; have BK290 := n6_; have HB := n7_; clear n0_ n1_ n2_ n3_ n4_ n5_ n6_ n7_; (try clear hb); (try clear hb2); (try clear hk); (try clear hi)))
   go_meet
   case rel => exact ⟨_, (true), (by first | rfl | (simp; done) | (simp [*]; done)), H', ⟨by first | omega | exact Nat.le_refl _⟩, ⟨BK279.out⟩, ⟨BK280.out⟩, ⟨BK281.out⟩, ⟨BK282.out⟩, ⟨by repeat with_reducible first | exact HB.out | apply pw_below_drewN | refine below_set ?_ GE279.out | refine below_set ?_ GE280.out | refine below_set ?_ GE281.out | refine below_set ?_ GE282.out | refine below_set ?_ GE290.out | apply below_drew1 | apply below_alloc⟩⟩
  subst c17
  have H1 : (if a2_1 < 0 then (move_Go.j0 k a0 a1 l4 true a2_0 a2_1 a2_2 a2_3 a2_4 a2_5 a3_0 a3_1 0 0 0 0) else (if a2_1 > 999 then (move_Go.j0 k a0 a1 l4 true a2_0 a2_1 a2_2 a2_3 a2_4 a2_5 a3_0 a3_1 0 0 0 0) else (if a3_0 = 0 then ((marks_May.f k l4).bind fun t293 => (move_Go.j0 k a0 a1 l4 (!t293) a2_0 a2_1 a2_2 a2_3 a2_4 a2_5 a3_0 a3_1 0 0 0 0)) else ((seek_Is.f a3_0).bind fun t294 => (if t294 = true then ((marks_May.f k l4).bind fun t295 => (move_Go.j0 k a0 a1 l4 (!t295) a2_0 a2_1 a2_2 a2_3 a2_4 a2_5 a3_0 a3_1 0 0 0 0)) else (move_Go.j0 k a0 a1 l4 true a2_0 a2_1 a2_2 a2_3 a2_4 a2_5 a3_0 a3_1 0 0 0 0)))))) = some (r1, r2, r3, r4, r5) := by rw [if_pos rfl] at H; exact H
  clear H
  have H := H1
  clear H1
  by_cases c18 : a2_1 < 0
  ·
   rw [if_pos c18] at H
   have c18b0 := decide_eq_true c18
   clear c18
   (first | rw [c18b0] | (simp only [i64_w, i32_w]; rw [c18b0]) | skip)
   have H' := Aside0.mk H
   clear H
   go_wp2_with (first | ((with_reducible refine gate_callee (f := 27) rfl ?_); refine goesL_ (some 14) rfl rfl Tryd.func27 (by kernel_rfl) rfl #[.string a0] rfl (map1 rfl) ?_; (with_reducible refine (text_May.calls a0 true _ ?side1 A11.out).mono ?_); (case side1 => exact Tabs.below HT.out (by repeat with_reducible first | exact HB.out | apply pw_below_drewN | refine below_set ?_ GE279.out | refine below_set ?_ GE280.out | refine below_set ?_ GE281.out | refine below_set ?_ GE282.out | apply below_drew1 | apply below_alloc)); rintro e w19 ⟨rfl, hb⟩; refine ⟨_, rfl, ?_⟩; have n0_ := Aside0.mk (blb hb BK279.out); have n1_ := Aside0.mk (blb hb BK280.out); have n2_ := Aside0.mk (blb hb BK281.out); have n3_ := Aside0.mk (blb hb BK282.out); have n4_ := Aside0.mk (below_step (by repeat with_reducible first | exact HB.out | apply pw_below_drewN | refine below_set ?_ GE279.out | refine below_set ?_ GE280.out | refine below_set ?_ GE281.out | refine below_set ?_ GE282.out | apply below_drew1 | apply below_alloc) hb); clear BK279; clear BK280; clear BK281; clear BK282; clear HB; have BK279 := n0_; have BK280 := n1_; have BK281 := n2_; have BK282 := n3_; have HB := n4_; clear n0_ n1_ n2_ n3_ n4_; (try clear hb); (try clear hb2); (try clear hk); (try clear hi)) | (go_at_call 28; (with_reducible refine (text_Of.calls k a0 t284 t287 _ A13.out).mono ?_); rintro e w20 ⟨v285, v288, gb290, rfl, ho0, ho1, ⟨hx290_, hz290_⟩, hb⟩; have n0_ := Aside0.mk (Kd.R_lower ho0 (below_size (by repeat with_reducible first | exact HB.out | apply pw_below_drewN | refine below_set ?_ GE279.out | refine below_set ?_ GE280.out | refine below_set ?_ GE281.out | refine below_set ?_ GE282.out | apply below_drew1 | apply below_alloc))); have n1_ := Aside0.mk (Kd.R_lower ho1 (below_size (by repeat with_reducible first | exact HB.out | apply pw_below_drewN | refine below_set ?_ GE279.out | refine below_set ?_ GE280.out | refine below_set ?_ GE281.out | refine below_set ?_ GE282.out | apply below_drew1 | apply below_alloc))); have n2_ := Aside0.mk (blb hb BK279.out); have n3_ := Aside0.mk (blb hb BK280.out); have n4_ := Aside0.mk (blb hb BK281.out); have n5_ := Aside0.mk (blb hb BK282.out); have n6_ := Aside0.mk (hx290_); have n7_ := Aside0.mk ((Nat.le_trans (below_size (by repeat with_reducible first | exact HB.out | apply pw_below_drewN | refine below_set ?_ GE279.out | refine below_set ?_ GE280.out | refine below_set ?_ GE281.out | refine below_set ?_ GE282.out | apply below_drew1 | apply below_alloc)) hz290_ : w.heap.size ≤ gb290)); have n8_ := Aside0.mk ((Nat.le_trans (below_size (by repeat with_reducible first | exact HB.out | apply pw_below_drewN | refine below_set ?_ GE279.out | refine below_set ?_ GE280.out | refine below_set ?_ GE281.out | refine below_set ?_ GE282.out | apply below_drew1 | apply below_alloc)) hz290_ : w.heap.size ≤ gb290)); have n9_ := Aside0.mk ((Nat.ne_of_lt (Nat.lt_of_lt_of_le (blk_lt (g := gb279) (o := .cells #[.int .i64 a2_0, .int .i64 a2_1, .int .i64 a2_2, .int .i64 a2_3, .int .i64 a2_4, .int .i64 a2_5] 52 (0, 0)) (by exact BK279.out)) hz290_) : gb279 ≠ gb290)); have n10_ := Aside0.mk ((Nat.ne_of_gt (Nat.lt_of_lt_of_le (blk_lt (g := gb279) (o := .cells #[.int .i64 a2_0, .int .i64 a2_1, .int .i64 a2_2, .int .i64 a2_3, .int .i64 a2_4, .int .i64 a2_5] 52 (0, 0)) (by exact BK279.out)) hz290_) : gb290 ≠ gb279)); have n11_ := Aside0.mk ((Nat.ne_of_lt (Nat.lt_of_lt_of_le (blk_lt (g := gb280) (o := .cells #[.int .i64 a3_0, .int .i64 a3_1] 31 (0, 0)) (by exact BK280.out)) hz290_) : gb280 ≠ gb290)); have n12_ := Aside0.mk ((Nat.ne_of_gt (Nat.lt_of_lt_of_le (blk_lt (g := gb280) (o := .cells #[.int .i64 a3_0, .int .i64 a3_1] 31 (0, 0)) (by exact BK280.out)) hz290_) : gb290 ≠ gb280)); have n13_ := Aside0.mk ((Nat.ne_of_lt (Nat.lt_of_lt_of_le (blk_lt (g := gb281) (o := .cells #[.int .i64 0, .int .i64 0] 54 (0, 0)) (by exact BK281.out)) hz290_) : gb281 ≠ gb290)); have n14_ := Aside0.mk ((Nat.ne_of_gt (Nat.lt_of_lt_of_le (blk_lt (g := gb281) (o := .cells #[.int .i64 0, .int .i64 0] 54 (0, 0)) (by exact BK281.out)) hz290_) : gb290 ≠ gb281)); have n15_ := Aside0.mk ((Nat.ne_of_lt (Nat.lt_of_lt_of_le (blk_lt (g := gb282) (o := .cells #[.int .i64 0, .int .i64 0] 31 (0, 0)) (by exact BK282.out)) hz290_) : gb282 ≠ gb290)); have n16_ := Aside0.mk ((Nat.ne_of_gt (Nat.lt_of_lt_of_le (blk_lt (g := gb282) (o := .cells #[.int .i64 0, .int .i64 0] 31 (0, 0)) (by exact BK282.out)) hz290_) : gb290 ≠ gb282)); have n17_ := Aside0.mk (below_step (by repeat with_reducible first | exact HB.out | apply pw_below_drewN | refine below_set ?_ GE279.out | refine below_set ?_ GE280.out | refine below_set ?_ GE281.out | refine below_set ?_ GE282.out | apply below_drew1 | apply below_alloc) hb); clear BK279; clear BK280; clear BK281; clear BK282; clear HB; have HO286 := n0_; have HO289 := n1_; have BK279 := n2_; have BK280 := n3_; have BK281 := n4_; have BK282 := n5_; have BK290 := n6_; have GW290 := n7_; have GE290 := n8_; have NB279_290 := n9_; have NB290_279 := n10_; have NB280_290 := n11_; have NB290_280 := n12_; have NB281_290 := n13_; have NB290_281 := n14_; have NB282_290 := n15_; have NB290_282 := n16_; have HB := n17_; clear n0_ n1_ n2_ n3_ n4_ n5_ n6_ n7_ n8_ n9_ n10_ n11_ n12_ n13_ n14_ n15_ n16_ n17_; (try clear hb); (try clear hb2); (try clear hk); (try clear hi); (try clear ho0); (try clear ho1); (try clear hx290_ hz290_); obtain ⟨Ao21, co21, eo21⟩ := Kd.R_slice HO286.out; subst eo21; obtain ⟨Ao22, co22, eo22⟩ := Kd.R_slice HO289.out; subst eo22) | (go_at_call 29; (with_reducible refine (text_Map_Is.calls gb290 Ao21 co21 t284 Ao22 co22 t287 a1 true _ ?side1 ?side2 ?side3 ?side4 ?side5 A14.out).mono ?_); (case side1 => exact BK290.out); (case side2 => repeat (first | exact (Kd.R_reads' HO286.out).2.2 | with_reducible first | refine Kd.C_drewN ?_ _ | refine Kd.C_drew ?_ | refine Kd.C_alloc ?_ _)); (case side3 => exact (Kd.R_reads' HO286.out).2.1); (case side4 => repeat (first | exact (Kd.R_reads' HO289.out).2.2 | with_reducible first | refine Kd.C_drewN ?_ _ | refine Kd.C_drew ?_ | refine Kd.C_alloc ?_ _)); (case side5 => exact (Kd.R_reads' HO289.out).2.1); rintro e w' ⟨rfl, ⟨nd, rfl⟩⟩; have hnb23 := NB279_280.out; have hnc23 := NB280_279.out; have hnb24 := NB279_281.out; have hnc24 := NB281_279.out; have hnb25 := NB279_282.out; have hnc25 := NB282_279.out; have hnb26 := NB279_290.out; have hnc26 := NB290_279.out; have hcz27_0 := cz0 BK279.out; have hcz27_1 := cz1 BK279.out; have hcz27_2 := cz2 BK279.out; have hcz27_3 := cz3 BK279.out; have hcz27_4 := cz4 BK279.out; have hcz27_5 := cz5 BK279.out; have hfz27_0 := blk_frozen BK279.out 0; have hfz27_1 := blk_frozen BK279.out 1; have hfz27_2 := blk_frozen BK279.out 2; have hfz27_3 := blk_frozen BK279.out 3; have hfz27_4 := blk_frozen BK279.out 4; have hfz27_5 := blk_frozen BK279.out 5) | (go_at_call 21; (with_reducible refine (move_Is.calls a2_3 true _ A16.out).mono ?_); rintro e w28 ⟨rfl, hb⟩; have n0_ := Aside0.mk (Kd.R_below (by (with_reducible repeat (first | apply Kd.R_alloc | apply Kd.R_drewN | apply Kd.R_drew)); exact HO286.out) hb); have n1_ := Aside0.mk (Kd.R_below (by (with_reducible repeat (first | apply Kd.R_alloc | apply Kd.R_drewN | apply Kd.R_drew)); exact HO289.out) hb); have n2_ := Aside0.mk (blb hb BK279.out); have n3_ := Aside0.mk (blb hb BK280.out); have n4_ := Aside0.mk (blb hb BK281.out); have n5_ := Aside0.mk (blb hb BK282.out); have n6_ := Aside0.mk (blb hb BK290.out); have n7_ := Aside0.mk (below_step (by repeat with_reducible first | exact HB.out | apply pw_below_drewN | refine below_set ?_ GE279.out | refine below_set ?_ GE280.out | refine below_set ?_ GE281.out | refine below_set ?_ GE282.out | refine below_set ?_ GE290.out | apply below_drew1 | apply below_alloc) hb); clear HO286; clear HO289; clear BK279; clear BK280; clear BK281; clear BK282; clear BK290; clear HB; have HO286 := n0_; have HO289 := n1_; have BK279 := n2_; have BK280 := n3_; have BK281 := n4_; have BK282 := n5_; have BK290 := n6_; have HB := n7_; clear n0_ n1_ n2_ n3_ n4_ n5_ n6_ n7_; (try clear hb); (try clear hb2); (try clear hk); (try clear hi); have hcz29_0 := cz0 BK279.out; have hcz29_1 := cz1 BK279.out; have hcz29_2 := cz2 BK279.out; have hcz29_3 := cz3 BK279.out; have hcz29_4 := cz4 BK279.out; have hcz29_5 := cz5 BK279.out; have hfz29_0 := blk_frozen BK279.out 0; have hfz29_1 := blk_frozen BK279.out 1; have hfz29_2 := blk_frozen BK279.out 2; have hfz29_3 := blk_frozen BK279.out 3; have hfz29_4 := blk_frozen BK279.out 4; have hfz29_5 := blk_frozen BK279.out 5))
   go_meet
   case rel => exact ⟨_, (true), (by first | rfl | (simp; done) | (simp [*]; done)), H', ⟨by first | omega | exact Nat.le_refl _⟩, ⟨BK279.out⟩, ⟨BK280.out⟩, ⟨BK281.out⟩, ⟨BK282.out⟩, ⟨by repeat with_reducible first | exact HB.out | apply pw_below_drewN | refine below_set ?_ GE279.out | refine below_set ?_ GE280.out | refine below_set ?_ GE281.out | refine below_set ?_ GE282.out | refine below_set ?_ GE290.out | apply below_drew1 | apply below_alloc⟩⟩
  rw [if_neg c18] at H
  have c18b0 := decide_eq_false c18
  clear c18
  (first | rw [c18b0] | (simp only [i64_w, i32_w]; rw [c18b0]) | skip)
  by_cases c30 : a2_1 > 999
  ·
   rw [if_pos c30] at H
   have c30b0 := decide_eq_true c30
   clear c30
   have H' := Aside0.mk H
   clear H
   go_wp2_with (first | ((with_reducible refine gate_callee (f := 27) rfl ?_); refine goesL_ (some 14) rfl rfl Tryd.func27 (by kernel_rfl) rfl #[.string a0] rfl (map1 rfl) ?_; (with_reducible refine (text_May.calls a0 true _ ?side1 A11.out).mono ?_); (case side1 => exact Tabs.below HT.out (by repeat with_reducible first | exact HB.out | apply pw_below_drewN | refine below_set ?_ GE279.out | refine below_set ?_ GE280.out | refine below_set ?_ GE281.out | refine below_set ?_ GE282.out | apply below_drew1 | apply below_alloc)); rintro e w31 ⟨rfl, hb⟩; refine ⟨_, rfl, ?_⟩; have n0_ := Aside0.mk (blb hb BK279.out); have n1_ := Aside0.mk (blb hb BK280.out); have n2_ := Aside0.mk (blb hb BK281.out); have n3_ := Aside0.mk (blb hb BK282.out); have n4_ := Aside0.mk (below_step (by repeat with_reducible first | exact HB.out | apply pw_below_drewN | refine below_set ?_ GE279.out | refine below_set ?_ GE280.out | refine below_set ?_ GE281.out | refine below_set ?_ GE282.out | apply below_drew1 | apply below_alloc) hb); clear BK279; clear BK280; clear BK281; clear BK282; clear HB; have BK279 := n0_; have BK280 := n1_; have BK281 := n2_; have BK282 := n3_; have HB := n4_; clear n0_ n1_ n2_ n3_ n4_; (try clear hb); (try clear hb2); (try clear hk); (try clear hi)) | (go_at_call 28; (with_reducible refine (text_Of.calls k a0 t284 t287 _ A13.out).mono ?_); rintro e w32 ⟨v285, v288, gb290, rfl, ho0, ho1, ⟨hx290_, hz290_⟩, hb⟩; have n0_ := Aside0.mk (Kd.R_lower ho0 (below_size (by repeat with_reducible first | exact HB.out | apply pw_below_drewN | refine below_set ?_ GE279.out | refine below_set ?_ GE280.out | refine below_set ?_ GE281.out | refine below_set ?_ GE282.out | apply below_drew1 | apply below_alloc))); have n1_ := Aside0.mk (Kd.R_lower ho1 (below_size (by repeat with_reducible first | exact HB.out | apply pw_below_drewN | refine below_set ?_ GE279.out | refine below_set ?_ GE280.out | refine below_set ?_ GE281.out | refine below_set ?_ GE282.out | apply below_drew1 | apply below_alloc))); have n2_ := Aside0.mk (blb hb BK279.out); have n3_ := Aside0.mk (blb hb BK280.out); have n4_ := Aside0.mk (blb hb BK281.out); have n5_ := Aside0.mk (blb hb BK282.out); have n6_ := Aside0.mk (hx290_); have n7_ := Aside0.mk ((Nat.le_trans (below_size (by repeat with_reducible first | exact HB.out | apply pw_below_drewN | refine below_set ?_ GE279.out | refine below_set ?_ GE280.out | refine below_set ?_ GE281.out | refine below_set ?_ GE282.out | apply below_drew1 | apply below_alloc)) hz290_ : w.heap.size ≤ gb290)); have n8_ := Aside0.mk ((Nat.le_trans (below_size (by repeat with_reducible first | exact HB.out | apply pw_below_drewN | refine below_set ?_ GE279.out | refine below_set ?_ GE280.out | refine below_set ?_ GE281.out | refine below_set ?_ GE282.out | apply below_drew1 | apply below_alloc)) hz290_ : w.heap.size ≤ gb290)); have n9_ := Aside0.mk ((Nat.ne_of_lt (Nat.lt_of_lt_of_le (blk_lt (g := gb279) (o := .cells #[.int .i64 a2_0, .int .i64 a2_1, .int .i64 a2_2, .int .i64 a2_3, .int .i64 a2_4, .int .i64 a2_5] 52 (0, 0)) (by exact BK279.out)) hz290_) : gb279 ≠ gb290)); have n10_ := Aside0.mk ((Nat.ne_of_gt (Nat.lt_of_lt_of_le (blk_lt (g := gb279) (o := .cells #[.int .i64 a2_0, .int .i64 a2_1, .int .i64 a2_2, .int .i64 a2_3, .int .i64 a2_4, .int .i64 a2_5] 52 (0, 0)) (by exact BK279.out)) hz290_) : gb290 ≠ gb279)); have n11_ := Aside0.mk ((Nat.ne_of_lt (Nat.lt_of_lt_of_le (blk_lt (g := gb280) (o := .cells #[.int .i64 a3_0, .int .i64 a3_1] 31 (0, 0)) (by exact BK280.out)) hz290_) : gb280 ≠ gb290)); have n12_ := Aside0.mk ((Nat.ne_of_gt (Nat.lt_of_lt_of_le (blk_lt (g := gb280) (o := .cells #[.int .i64 a3_0, .int .i64 a3_1] 31 (0, 0)) (by exact BK280.out)) hz290_) : gb290 ≠ gb280)); have n13_ := Aside0.mk ((Nat.ne_of_lt (Nat.lt_of_lt_of_le (blk_lt (g := gb281) (o := .cells #[.int .i64 0, .int .i64 0] 54 (0, 0)) (by exact BK281.out)) hz290_) : gb281 ≠ gb290)); have n14_ := Aside0.mk ((Nat.ne_of_gt (Nat.lt_of_lt_of_le (blk_lt (g := gb281) (o := .cells #[.int .i64 0, .int .i64 0] 54 (0, 0)) (by exact BK281.out)) hz290_) : gb290 ≠ gb281)); have n15_ := Aside0.mk ((Nat.ne_of_lt (Nat.lt_of_lt_of_le (blk_lt (g := gb282) (o := .cells #[.int .i64 0, .int .i64 0] 31 (0, 0)) (by exact BK282.out)) hz290_) : gb282 ≠ gb290)); have n16_ := Aside0.mk ((Nat.ne_of_gt (Nat.lt_of_lt_of_le (blk_lt (g := gb282) (o := .cells #[.int .i64 0, .int .i64 0] 31 (0, 0)) (by exact BK282.out)) hz290_) : gb290 ≠ gb282)); have n17_ := Aside0.mk (below_step (by repeat with_reducible first | exact HB.out | apply pw_below_drewN | refine below_set ?_ GE279.out | refine below_set ?_ GE280.out | refine below_set ?_ GE281.out | refine below_set ?_ GE282.out | apply below_drew1 | apply below_alloc) hb); clear BK279; clear BK280; clear BK281; clear BK282; clear HB; have HO286 := n0_; have HO289 := n1_; have BK279 := n2_; have BK280 := n3_; have BK281 := n4_; have BK282 := n5_; have BK290 := n6_; have GW290 := n7_; have GE290 := n8_; have NB279_290 := n9_; have NB290_279 := n10_; have NB280_290 := n11_; have NB290_280 := n12_; have NB281_290 := n13_; have NB290_281 := n14_; have NB282_290 := n15_; have NB290_282 := n16_; have HB := n17_; clear n0_ n1_ n2_ n3_ n4_ n5_ n6_ n7_ n8_ n9_ n10_ n11_ n12_ n13_ n14_ n15_ n16_ n17_; (try clear hb); (try clear hb2); (try clear hk); (try clear hi); (try clear ho0); (try clear ho1); (try clear hx290_ hz290_); obtain ⟨Ao33, co33, eo33⟩ := Kd.R_slice HO286.out; subst eo33; obtain ⟨Ao34, co34, eo34⟩ := Kd.R_slice HO289.out; subst eo34) | (go_at_call 29; (with_reducible refine (text_Map_Is.calls gb290 Ao33 co33 t284 Ao34 co34 t287 a1 true _ ?side1 ?side2 ?side3 ?side4 ?side5 A14.out).mono ?_); (case side1 => exact BK290.out); (case side2 => repeat (first | exact (Kd.R_reads' HO286.out).2.2 | with_reducible first | refine Kd.C_drewN ?_ _ | refine Kd.C_drew ?_ | refine Kd.C_alloc ?_ _)); (case side3 => exact (Kd.R_reads' HO286.out).2.1); (case side4 => repeat (first | exact (Kd.R_reads' HO289.out).2.2 | with_reducible first | refine Kd.C_drewN ?_ _ | refine Kd.C_drew ?_ | refine Kd.C_alloc ?_ _)); (case side5 => exact (Kd.R_reads' HO289.out).2.1); rintro e w' ⟨rfl, ⟨nd, rfl⟩⟩; have hnb35 := NB279_280.out; have hnc35 := NB280_279.out; have hnb36 := NB279_281.out; have hnc36 := NB281_279.out; have hnb37 := NB279_282.out; have hnc37 := NB282_279.out; have hnb38 := NB279_290.out; have hnc38 := NB290_279.out; have hcz39_0 := cz0 BK279.out; have hcz39_1 := cz1 BK279.out; have hcz39_2 := cz2 BK279.out; have hcz39_3 := cz3 BK279.out; have hcz39_4 := cz4 BK279.out; have hcz39_5 := cz5 BK279.out; have hfz39_0 := blk_frozen BK279.out 0; have hfz39_1 := blk_frozen BK279.out 1; have hfz39_2 := blk_frozen BK279.out 2; have hfz39_3 := blk_frozen BK279.out 3; have hfz39_4 := blk_frozen BK279.out 4; have hfz39_5 := blk_frozen BK279.out 5) | (go_at_call 21; (with_reducible refine (move_Is.calls a2_3 true _ A16.out).mono ?_); rintro e w40 ⟨rfl, hb⟩; have n0_ := Aside0.mk (Kd.R_below (by (with_reducible repeat (first | apply Kd.R_alloc | apply Kd.R_drewN | apply Kd.R_drew)); exact HO286.out) hb); have n1_ := Aside0.mk (Kd.R_below (by (with_reducible repeat (first | apply Kd.R_alloc | apply Kd.R_drewN | apply Kd.R_drew)); exact HO289.out) hb); have n2_ := Aside0.mk (blb hb BK279.out); have n3_ := Aside0.mk (blb hb BK280.out); have n4_ := Aside0.mk (blb hb BK281.out); have n5_ := Aside0.mk (blb hb BK282.out); have n6_ := Aside0.mk (blb hb BK290.out); have n7_ := Aside0.mk (below_step (by repeat with_reducible first | exact HB.out | apply pw_below_drewN | refine below_set ?_ GE279.out | refine below_set ?_ GE280.out | refine below_set ?_ GE281.out | refine below_set ?_ GE282.out | refine below_set ?_ GE290.out | apply below_drew1 | apply below_alloc) hb); clear HO286; clear HO289; clear BK279; clear BK280; clear BK281; clear BK282; clear BK290; clear HB; have HO286 := n0_; have HO289 := n1_; have BK279 := n2_; have BK280 := n3_; have BK281 := n4_; have BK282 := n5_; have BK290 := n6_; have HB := n7_; clear n0_ n1_ n2_ n3_ n4_ n5_ n6_ n7_; (try clear hb); (try clear hb2); (try clear hk); (try clear hi); have hcz41_0 := cz0 BK279.out; have hcz41_1 := cz1 BK279.out; have hcz41_2 := cz2 BK279.out; have hcz41_3 := cz3 BK279.out; have hcz41_4 := cz4 BK279.out; have hcz41_5 := cz5 BK279.out; have hfz41_0 := blk_frozen BK279.out 0; have hfz41_1 := blk_frozen BK279.out 1; have hfz41_2 := blk_frozen BK279.out 2; have hfz41_3 := blk_frozen BK279.out 3; have hfz41_4 := blk_frozen BK279.out 4; have hfz41_5 := blk_frozen BK279.out 5))
   go_meet
   case rel => exact ⟨_, (true), (by first | rfl | (simp; done) | (simp [*]; done)), H', ⟨by first | omega | exact Nat.le_refl _⟩, ⟨BK279.out⟩, ⟨BK280.out⟩, ⟨BK281.out⟩, ⟨BK282.out⟩, ⟨by repeat with_reducible first | exact HB.out | apply pw_below_drewN | refine below_set ?_ GE279.out | refine below_set ?_ GE280.out | refine below_set ?_ GE281.out | refine below_set ?_ GE282.out | refine below_set ?_ GE290.out | apply below_drew1 | apply below_alloc⟩⟩
  rw [if_neg c30] at H
  have c30b0 := decide_eq_false c30
  clear c30
  by_cases c42 : a3_0 = 0
  ·
   rw [if_pos c42] at H
   have c42b0 : (a3_0 == 0) = true := beq_iff_eq.mpr c42
   have c42b1 : (a3_0 != 0) = false := bne_eq_false_iff_eq.mpr c42
   clear c42
   replace H := Option.bind_eq_some_iff.mp H
   obtain ⟨t293, A430, H⟩ := H
   (try dsimp only at H)
   have A43 := Aside0.mk A430
   clear A430
   have H' := Aside0.mk H
   clear H
   go_wp2_with (first | ((with_reducible refine gate_callee (f := 27) rfl ?_); refine goesL_ (some 14) rfl rfl Tryd.func27 (by kernel_rfl) rfl #[.string a0] rfl (map1 rfl) ?_; (with_reducible refine (text_May.calls a0 true _ ?side1 A11.out).mono ?_); (case side1 => exact Tabs.below HT.out (by repeat with_reducible first | exact HB.out | apply pw_below_drewN | refine below_set ?_ GE279.out | refine below_set ?_ GE280.out | refine below_set ?_ GE281.out | refine below_set ?_ GE282.out | apply below_drew1 | apply below_alloc)); rintro e w44 ⟨rfl, hb⟩; refine ⟨_, rfl, ?_⟩; have n0_ := Aside0.mk (blb hb BK279.out); have n1_ := Aside0.mk (blb hb BK280.out); have n2_ := Aside0.mk (blb hb BK281.out); have n3_ := Aside0.mk (blb hb BK282.out); have n4_ := Aside0.mk (below_step (by repeat with_reducible first | exact HB.out | apply pw_below_drewN | refine below_set ?_ GE279.out | refine below_set ?_ GE280.out | refine below_set ?_ GE281.out | refine below_set ?_ GE282.out | apply below_drew1 | apply below_alloc) hb); clear BK279; clear BK280; clear BK281; clear BK282; clear HB; have BK279 := n0_; have BK280 := n1_; have BK281 := n2_; have BK282 := n3_; have HB := n4_; clear n0_ n1_ n2_ n3_ n4_; (try clear hb); (try clear hb2); (try clear hk); (try clear hi)) | (go_at_call 28; (with_reducible refine (text_Of.calls k a0 t284 t287 _ A13.out).mono ?_); rintro e w45 ⟨v285, v288, gb290, rfl, ho0, ho1, ⟨hx290_, hz290_⟩, hb⟩; have n0_ := Aside0.mk (Kd.R_lower ho0 (below_size (by repeat with_reducible first | exact HB.out | apply pw_below_drewN | refine below_set ?_ GE279.out | refine below_set ?_ GE280.out | refine below_set ?_ GE281.out | refine below_set ?_ GE282.out | apply below_drew1 | apply below_alloc))); have n1_ := Aside0.mk (Kd.R_lower ho1 (below_size (by repeat with_reducible first | exact HB.out | apply pw_below_drewN | refine below_set ?_ GE279.out | refine below_set ?_ GE280.out | refine below_set ?_ GE281.out | refine below_set ?_ GE282.out | apply below_drew1 | apply below_alloc))); have n2_ := Aside0.mk (blb hb BK279.out); have n3_ := Aside0.mk (blb hb BK280.out); have n4_ := Aside0.mk (blb hb BK281.out); have n5_ := Aside0.mk (blb hb BK282.out); have n6_ := Aside0.mk (hx290_); have n7_ := Aside0.mk ((Nat.le_trans (below_size (by repeat with_reducible first | exact HB.out | apply pw_below_drewN | refine below_set ?_ GE279.out | refine below_set ?_ GE280.out | refine below_set ?_ GE281.out | refine below_set ?_ GE282.out | apply below_drew1 | apply below_alloc)) hz290_ : w.heap.size ≤ gb290)); have n8_ := Aside0.mk ((Nat.le_trans (below_size (by repeat with_reducible first | exact HB.out | apply pw_below_drewN | refine below_set ?_ GE279.out | refine below_set ?_ GE280.out | refine below_set ?_ GE281.out | refine below_set ?_ GE282.out | apply below_drew1 | apply below_alloc)) hz290_ : w.heap.size ≤ gb290)); have n9_ := Aside0.mk ((Nat.ne_of_lt (Nat.lt_of_lt_of_le (blk_lt (g := gb279) (o := .cells #[.int .i64 a2_0, .int .i64 a2_1, .int .i64 a2_2, .int .i64 a2_3, .int .i64 a2_4, .int .i64 a2_5] 52 (0, 0)) (by exact BK279.out)) hz290_) : gb279 ≠ gb290)); have n10_ := Aside0.mk ((Nat.ne_of_gt (Nat.lt_of_lt_of_le (blk_lt (g := gb279) (o := .cells #[.int .i64 a2_0, .int .i64 a2_1, .int .i64 a2_2, .int .i64 a2_3, .int .i64 a2_4, .int .i64 a2_5] 52 (0, 0)) (by exact BK279.out)) hz290_) : gb290 ≠ gb279)); have n11_ := Aside0.mk ((Nat.ne_of_lt (Nat.lt_of_lt_of_le (blk_lt (g := gb280) (o := .cells #[.int .i64 a3_0, .int .i64 a3_1] 31 (0, 0)) (by exact BK280.out)) hz290_) : gb280 ≠ gb290)); have n12_ := Aside0.mk ((Nat.ne_of_gt (Nat.lt_of_lt_of_le (blk_lt (g := gb280) (o := .cells #[.int .i64 a3_0, .int .i64 a3_1] 31 (0, 0)) (by exact BK280.out)) hz290_) : gb290 ≠ gb280)); have n13_ := Aside0.mk ((Nat.ne_of_lt (Nat.lt_of_lt_of_le (blk_lt (g := gb281) (o := .cells #[.int .i64 0, .int .i64 0] 54 (0, 0)) (by exact BK281.out)) hz290_) : gb281 ≠ gb290)); have n14_ := Aside0.mk ((Nat.ne_of_gt (Nat.lt_of_lt_of_le (blk_lt (g := gb281) (o := .cells #[.int .i64 0, .int .i64 0] 54 (0, 0)) (by exact BK281.out)) hz290_) : gb290 ≠ gb281)); have n15_ := Aside0.mk ((Nat.ne_of_lt (Nat.lt_of_lt_of_le (blk_lt (g := gb282) (o := .cells #[.int .i64 0, .int .i64 0] 31 (0, 0)) (by exact BK282.out)) hz290_) : gb282 ≠ gb290)); have n16_ := Aside0.mk ((Nat.ne_of_gt (Nat.lt_of_lt_of_le (blk_lt (g := gb282) (o := .cells #[.int .i64 0, .int .i64 0] 31 (0, 0)) (by exact BK282.out)) hz290_) : gb290 ≠ gb282)); have n17_ := Aside0.mk (below_step (by repeat with_reducible first | exact HB.out | apply pw_below_drewN | refine below_set ?_ GE279.out | refine below_set ?_ GE280.out | refine below_set ?_ GE281.out | refine below_set ?_ GE282.out | apply below_drew1 | apply below_alloc) hb); clear BK279; clear BK280; clear BK281; clear BK282; clear HB; have HO286 := n0_; have HO289 := n1_; have BK279 := n2_; have BK280 := n3_; have BK281 := n4_; have BK282 := n5_; have BK290 := n6_; have GW290 := n7_; have GE290 := n8_; have NB279_290 := n9_; have NB290_279 := n10_; have NB280_290 := n11_; have NB290_280 := n12_; have NB281_290 := n13_; have NB290_281 := n14_; have NB282_290 := n15_; have NB290_282 := n16_; have HB := n17_; clear n0_ n1_ n2_ n3_ n4_ n5_ n6_ n7_ n8_ n9_ n10_ n11_ n12_ n13_ n14_ n15_ n16_ n17_; (try clear hb); (try clear hb2); (try clear hk); (try clear hi); (try clear ho0); (try clear ho1); (try clear hx290_ hz290_); obtain ⟨Ao46, co46, eo46⟩ := Kd.R_slice HO286.out; subst eo46; obtain ⟨Ao47, co47, eo47⟩ := Kd.R_slice HO289.out; subst eo47) | (go_at_call 29; (with_reducible refine (text_Map_Is.calls gb290 Ao46 co46 t284 Ao47 co47 t287 a1 true _ ?side1 ?side2 ?side3 ?side4 ?side5 A14.out).mono ?_); (case side1 => exact BK290.out); (case side2 => repeat (first | exact (Kd.R_reads' HO286.out).2.2 | with_reducible first | refine Kd.C_drewN ?_ _ | refine Kd.C_drew ?_ | refine Kd.C_alloc ?_ _)); (case side3 => exact (Kd.R_reads' HO286.out).2.1); (case side4 => repeat (first | exact (Kd.R_reads' HO289.out).2.2 | with_reducible first | refine Kd.C_drewN ?_ _ | refine Kd.C_drew ?_ | refine Kd.C_alloc ?_ _)); (case side5 => exact (Kd.R_reads' HO289.out).2.1); rintro e w' ⟨rfl, ⟨nd, rfl⟩⟩; have hnb48 := NB279_280.out; have hnc48 := NB280_279.out; have hnb49 := NB279_281.out; have hnc49 := NB281_279.out; have hnb50 := NB279_282.out; have hnc50 := NB282_279.out; have hnb51 := NB279_290.out; have hnc51 := NB290_279.out; have hcz52_0 := cz0 BK279.out; have hcz52_1 := cz1 BK279.out; have hcz52_2 := cz2 BK279.out; have hcz52_3 := cz3 BK279.out; have hcz52_4 := cz4 BK279.out; have hcz52_5 := cz5 BK279.out; have hfz52_0 := blk_frozen BK279.out 0; have hfz52_1 := blk_frozen BK279.out 1; have hfz52_2 := blk_frozen BK279.out 2; have hfz52_3 := blk_frozen BK279.out 3; have hfz52_4 := blk_frozen BK279.out 4; have hfz52_5 := blk_frozen BK279.out 5) | (go_at_call 21; (with_reducible refine (move_Is.calls a2_3 true _ A16.out).mono ?_); rintro e w53 ⟨rfl, hb⟩; have n0_ := Aside0.mk (Kd.R_below (by (with_reducible repeat (first | apply Kd.R_alloc | apply Kd.R_drewN | apply Kd.R_drew)); exact HO286.out) hb); have n1_ := Aside0.mk (Kd.R_below (by (with_reducible repeat (first | apply Kd.R_alloc | apply Kd.R_drewN | apply Kd.R_drew)); exact HO289.out) hb); have n2_ := Aside0.mk (blb hb BK279.out); have n3_ := Aside0.mk (blb hb BK280.out); have n4_ := Aside0.mk (blb hb BK281.out); have n5_ := Aside0.mk (blb hb BK282.out); have n6_ := Aside0.mk (blb hb BK290.out); have n7_ := Aside0.mk (below_step (by repeat with_reducible first | exact HB.out | apply pw_below_drewN | refine below_set ?_ GE279.out | refine below_set ?_ GE280.out | refine below_set ?_ GE281.out | refine below_set ?_ GE282.out | refine below_set ?_ GE290.out | apply below_drew1 | apply below_alloc) hb); clear HO286; clear HO289; clear BK279; clear BK280; clear BK281; clear BK282; clear BK290; clear HB; have HO286 := n0_; have HO289 := n1_; have BK279 := n2_; have BK280 := n3_; have BK281 := n4_; have BK282 := n5_; have BK290 := n6_; have HB := n7_; clear n0_ n1_ n2_ n3_ n4_ n5_ n6_ n7_; (try clear hb); (try clear hb2); (try clear hk); (try clear hi); have hcz54_0 := cz0 BK279.out; have hcz54_1 := cz1 BK279.out; have hcz54_2 := cz2 BK279.out; have hcz54_3 := cz3 BK279.out; have hcz54_4 := cz4 BK279.out; have hcz54_5 := cz5 BK279.out; have hfz54_0 := blk_frozen BK279.out 0; have hfz54_1 := blk_frozen BK279.out 1; have hfz54_2 := blk_frozen BK279.out 2; have hfz54_3 := blk_frozen BK279.out 3; have hfz54_4 := blk_frozen BK279.out 4; have hfz54_5 := blk_frozen BK279.out 5; have hnb55 := NB280_281.out; have hnc55 := NB281_280.out; have hnb56 := NB280_282.out; have hnc56 := NB282_280.out; have hnb57 := NB280_290.out; have hnc57 := NB290_280.out; have hcz58_0 := cz0 BK280.out; have hcz58_1 := cz1 BK280.out; have hfz58_0 := blk_frozen BK280.out 0; have hfz58_1 := blk_frozen BK280.out 1) | (go_at_call 40; (with_reducible refine (marks_May.calls k _ _ l4 t293 _ ?side1 ?side2 A43.out).mono ?_); (case side1 => repeat (first | exact (Kd.C_below HR4.out HB.out) | with_reducible first | refine Kd.C_drewN ?_ _ | refine Kd.C_drew ?_ | refine Kd.C_alloc ?_ _)); (case side2 => exact HC4.out); rintro e w59 ⟨rfl, hb⟩; have n0_ := Aside0.mk (Kd.R_below (by (with_reducible repeat (first | apply Kd.R_alloc | apply Kd.R_drewN | apply Kd.R_drew)); exact HO286.out) hb); have n1_ := Aside0.mk (Kd.R_below (by (with_reducible repeat (first | apply Kd.R_alloc | apply Kd.R_drewN | apply Kd.R_drew)); exact HO289.out) hb); have n2_ := Aside0.mk (blb hb BK279.out); have n3_ := Aside0.mk (blb hb BK280.out); have n4_ := Aside0.mk (blb hb BK281.out); have n5_ := Aside0.mk (blb hb BK282.out); have n6_ := Aside0.mk (blb hb BK290.out); have n7_ := Aside0.mk (below_step (by repeat with_reducible first | exact HB.out | apply pw_below_drewN | refine below_set ?_ GE279.out | refine below_set ?_ GE280.out | refine below_set ?_ GE281.out | refine below_set ?_ GE282.out | refine below_set ?_ GE290.out | apply below_drew1 | apply below_alloc) hb); clear HO286; clear HO289; clear BK279; clear BK280; clear BK281; clear BK282; clear BK290; clear HB; have HO286 := n0_; have HO289 := n1_; have BK279 := n2_; have BK280 := n3_; have BK281 := n4_; have BK282 := n5_; have BK290 := n6_; have HB := n7_; clear n0_ n1_ n2_ n3_ n4_ n5_ n6_ n7_; (try clear hb); (try clear hb2); (try clear hk); (try clear hi)))
   go_meet
   case rel => exact ⟨_, (!t293), (by first | rfl | (simp; done) | (simp [*]; done)), H', ⟨by first | omega | exact Nat.le_refl _⟩, ⟨BK279.out⟩, ⟨BK280.out⟩, ⟨BK281.out⟩, ⟨BK282.out⟩, ⟨by repeat with_reducible first | exact HB.out | apply pw_below_drewN | refine below_set ?_ GE279.out | refine below_set ?_ GE280.out | refine below_set ?_ GE281.out | refine below_set ?_ GE282.out | refine below_set ?_ GE290.out | apply below_drew1 | apply below_alloc⟩⟩
  rw [if_neg c42] at H
  have c42b0 : (a3_0 == 0) = false := beq_eq_false_iff_ne.mpr c42
  have c42b1 : (a3_0 != 0) = true := bne_iff_ne.mpr c42
  replace H := Option.bind_eq_some_iff.mp H
  obtain ⟨t294, A600, H⟩ := H
  (try dsimp only at H)
  have A60 := Aside0.mk A600
  clear A600
  by_cases c61 : t294 = true
  rotate_left
  ·
   replace c61 := Bool.eq_false_iff.mpr c61
   subst c61
   have H1 : (move_Go.j0 k a0 a1 l4 true a2_0 a2_1 a2_2 a2_3 a2_4 a2_5 a3_0 a3_1 0 0 0 0) = some (r1, r2, r3, r4, r5) := by rw [if_neg (show ¬ (false = true) by decide)] at H; exact H
   clear H
   have H := H1
   clear H1
   have H' := Aside0.mk H
   clear H
   go_wp2_with (first | ((with_reducible refine gate_callee (f := 27) rfl ?_); refine goesL_ (some 14) rfl rfl Tryd.func27 (by kernel_rfl) rfl #[.string a0] rfl (map1 rfl) ?_; (with_reducible refine (text_May.calls a0 true _ ?side1 A11.out).mono ?_); (case side1 => exact Tabs.below HT.out (by repeat with_reducible first | exact HB.out | apply pw_below_drewN | refine below_set ?_ GE279.out | refine below_set ?_ GE280.out | refine below_set ?_ GE281.out | refine below_set ?_ GE282.out | apply below_drew1 | apply below_alloc)); rintro e w80 ⟨rfl, hb⟩; refine ⟨_, rfl, ?_⟩; have n0_ := Aside0.mk (blb hb BK279.out); have n1_ := Aside0.mk (blb hb BK280.out); have n2_ := Aside0.mk (blb hb BK281.out); have n3_ := Aside0.mk (blb hb BK282.out); have n4_ := Aside0.mk (below_step (by repeat with_reducible first | exact HB.out | apply pw_below_drewN | refine below_set ?_ GE279.out | refine below_set ?_ GE280.out | refine below_set ?_ GE281.out | refine below_set ?_ GE282.out | apply below_drew1 | apply below_alloc) hb); clear BK279; clear BK280; clear BK281; clear BK282; clear HB; have BK279 := n0_; have BK280 := n1_; have BK281 := n2_; have BK282 := n3_; have HB := n4_; clear n0_ n1_ n2_ n3_ n4_; (try clear hb); (try clear hb2); (try clear hk); (try clear hi)) | (go_at_call 28; (with_reducible refine (text_Of.calls k a0 t284 t287 _ A13.out).mono ?_); rintro e w81 ⟨v285, v288, gb290, rfl, ho0, ho1, ⟨hx290_, hz290_⟩, hb⟩; have n0_ := Aside0.mk (Kd.R_lower ho0 (below_size (by repeat with_reducible first | exact HB.out | apply pw_below_drewN | refine below_set ?_ GE279.out | refine below_set ?_ GE280.out | refine below_set ?_ GE281.out | refine below_set ?_ GE282.out | apply below_drew1 | apply below_alloc))); have n1_ := Aside0.mk (Kd.R_lower ho1 (below_size (by repeat with_reducible first | exact HB.out | apply pw_below_drewN | refine below_set ?_ GE279.out | refine below_set ?_ GE280.out | refine below_set ?_ GE281.out | refine below_set ?_ GE282.out | apply below_drew1 | apply below_alloc))); have n2_ := Aside0.mk (blb hb BK279.out); have n3_ := Aside0.mk (blb hb BK280.out); have n4_ := Aside0.mk (blb hb BK281.out); have n5_ := Aside0.mk (blb hb BK282.out); have n6_ := Aside0.mk (hx290_); have n7_ := Aside0.mk ((Nat.le_trans (below_size (by repeat with_reducible first | exact HB.out | apply pw_below_drewN | refine below_set ?_ GE279.out | refine below_set ?_ GE280.out | refine below_set ?_ GE281.out | refine below_set ?_ GE282.out | apply below_drew1 | apply below_alloc)) hz290_ : w.heap.size ≤ gb290)); have n8_ := Aside0.mk ((Nat.le_trans (below_size (by repeat with_reducible first | exact HB.out | apply pw_below_drewN | refine below_set ?_ GE279.out | refine below_set ?_ GE280.out | refine below_set ?_ GE281.out | refine below_set ?_ GE282.out | apply below_drew1 | apply below_alloc)) hz290_ : w.heap.size ≤ gb290)); have n9_ := Aside0.mk ((Nat.ne_of_lt (Nat.lt_of_lt_of_le (blk_lt (g := gb279) (o := .cells #[.int .i64 a2_0, .int .i64 a2_1, .int .i64 a2_2, .int .i64 a2_3, .int .i64 a2_4, .int .i64 a2_5] 52 (0, 0)) (by exact BK279.out)) hz290_) : gb279 ≠ gb290)); have n10_ := Aside0.mk ((Nat.ne_of_gt (Nat.lt_of_lt_of_le (blk_lt (g := gb279) (o := .cells #[.int .i64 a2_0, .int .i64 a2_1, .int .i64 a2_2, .int .i64 a2_3, .int .i64 a2_4, .int .i64 a2_5] 52 (0, 0)) (by exact BK279.out)) hz290_) : gb290 ≠ gb279)); have n11_ := Aside0.mk ((Nat.ne_of_lt (Nat.lt_of_lt_of_le (blk_lt (g := gb280) (o := .cells #[.int .i64 a3_0, .int .i64 a3_1] 31 (0, 0)) (by exact BK280.out)) hz290_) : gb280 ≠ gb290)); have n12_ := Aside0.mk ((Nat.ne_of_gt (Nat.lt_of_lt_of_le (blk_lt (g := gb280) (o := .cells #[.int .i64 a3_0, .int .i64 a3_1] 31 (0, 0)) (by exact BK280.out)) hz290_) : gb290 ≠ gb280)); have n13_ := Aside0.mk ((Nat.ne_of_lt (Nat.lt_of_lt_of_le (blk_lt (g := gb281) (o := .cells #[.int .i64 0, .int .i64 0] 54 (0, 0)) (by exact BK281.out)) hz290_) : gb281 ≠ gb290)); have n14_ := Aside0.mk ((Nat.ne_of_gt (Nat.lt_of_lt_of_le (blk_lt (g := gb281) (o := .cells #[.int .i64 0, .int .i64 0] 54 (0, 0)) (by exact BK281.out)) hz290_) : gb290 ≠ gb281)); have n15_ := Aside0.mk ((Nat.ne_of_lt (Nat.lt_of_lt_of_le (blk_lt (g := gb282) (o := .cells #[.int .i64 0, .int .i64 0] 31 (0, 0)) (by exact BK282.out)) hz290_) : gb282 ≠ gb290)); have n16_ := Aside0.mk ((Nat.ne_of_gt (Nat.lt_of_lt_of_le (blk_lt (g := gb282) (o := .cells #[.int .i64 0, .int .i64 0] 31 (0, 0)) (by exact BK282.out)) hz290_) : gb290 ≠ gb282)); have n17_ := Aside0.mk (below_step (by repeat with_reducible first | exact HB.out | apply pw_below_drewN | refine below_set ?_ GE279.out | refine below_set ?_ GE280.out | refine below_set ?_ GE281.out | refine below_set ?_ GE282.out | apply below_drew1 | apply below_alloc) hb); clear BK279; clear BK280; clear BK281; clear BK282; clear HB; have HO286 := n0_; have HO289 := n1_; have BK279 := n2_; have BK280 := n3_; have BK281 := n4_; have BK282 := n5_; have BK290 := n6_; have GW290 := n7_; have GE290 := n8_; have NB279_290 := n9_; have NB290_279 := n10_; have NB280_290 := n11_; have NB290_280 := n12_; have NB281_290 := n13_; have NB290_281 := n14_; have NB282_290 := n15_; have NB290_282 := n16_; have HB := n17_; clear n0_ n1_ n2_ n3_ n4_ n5_ n6_ n7_ n8_ n9_ n10_ n11_ n12_ n13_ n14_ n15_ n16_ n17_; (try clear hb); (try clear hb2); (try clear hk); (try clear hi); (try clear ho0); (try clear ho1); (try clear hx290_ hz290_); obtain ⟨Ao82, co82, eo82⟩ := Kd.R_slice HO286.out; subst eo82; obtain ⟨Ao83, co83, eo83⟩ := Kd.R_slice HO289.out; subst eo83) | (go_at_call 29; (with_reducible refine (text_Map_Is.calls gb290 Ao82 co82 t284 Ao83 co83 t287 a1 true _ ?side1 ?side2 ?side3 ?side4 ?side5 A14.out).mono ?_); (case side1 => exact BK290.out); (case side2 => repeat (first | exact (Kd.R_reads' HO286.out).2.2 | with_reducible first | refine Kd.C_drewN ?_ _ | refine Kd.C_drew ?_ | refine Kd.C_alloc ?_ _)); (case side3 => exact (Kd.R_reads' HO286.out).2.1); (case side4 => repeat (first | exact (Kd.R_reads' HO289.out).2.2 | with_reducible first | refine Kd.C_drewN ?_ _ | refine Kd.C_drew ?_ | refine Kd.C_alloc ?_ _)); (case side5 => exact (Kd.R_reads' HO289.out).2.1); rintro e w' ⟨rfl, ⟨nd, rfl⟩⟩; have hnb84 := NB279_280.out; have hnc84 := NB280_279.out; have hnb85 := NB279_281.out; have hnc85 := NB281_279.out; have hnb86 := NB279_282.out; have hnc86 := NB282_279.out; have hnb87 := NB279_290.out; have hnc87 := NB290_279.out; have hcz88_0 := cz0 BK279.out; have hcz88_1 := cz1 BK279.out; have hcz88_2 := cz2 BK279.out; have hcz88_3 := cz3 BK279.out; have hcz88_4 := cz4 BK279.out; have hcz88_5 := cz5 BK279.out; have hfz88_0 := blk_frozen BK279.out 0; have hfz88_1 := blk_frozen BK279.out 1; have hfz88_2 := blk_frozen BK279.out 2; have hfz88_3 := blk_frozen BK279.out 3; have hfz88_4 := blk_frozen BK279.out 4; have hfz88_5 := blk_frozen BK279.out 5) | (go_at_call 21; (with_reducible refine (move_Is.calls a2_3 true _ A16.out).mono ?_); rintro e w89 ⟨rfl, hb⟩; have n0_ := Aside0.mk (Kd.R_below (by (with_reducible repeat (first | apply Kd.R_alloc | apply Kd.R_drewN | apply Kd.R_drew)); exact HO286.out) hb); have n1_ := Aside0.mk (Kd.R_below (by (with_reducible repeat (first | apply Kd.R_alloc | apply Kd.R_drewN | apply Kd.R_drew)); exact HO289.out) hb); have n2_ := Aside0.mk (blb hb BK279.out); have n3_ := Aside0.mk (blb hb BK280.out); have n4_ := Aside0.mk (blb hb BK281.out); have n5_ := Aside0.mk (blb hb BK282.out); have n6_ := Aside0.mk (blb hb BK290.out); have n7_ := Aside0.mk (below_step (by repeat with_reducible first | exact HB.out | apply pw_below_drewN | refine below_set ?_ GE279.out | refine below_set ?_ GE280.out | refine below_set ?_ GE281.out | refine below_set ?_ GE282.out | refine below_set ?_ GE290.out | apply below_drew1 | apply below_alloc) hb); clear HO286; clear HO289; clear BK279; clear BK280; clear BK281; clear BK282; clear BK290; clear HB; have HO286 := n0_; have HO289 := n1_; have BK279 := n2_; have BK280 := n3_; have BK281 := n4_; have BK282 := n5_; have BK290 := n6_; have HB := n7_; clear n0_ n1_ n2_ n3_ n4_ n5_ n6_ n7_; (try clear hb); (try clear hb2); (try clear hk); (try clear hi); have hcz90_0 := cz0 BK279.out; have hcz90_1 := cz1 BK279.out; have hcz90_2 := cz2 BK279.out; have hcz90_3 := cz3 BK279.out; have hcz90_4 := cz4 BK279.out; have hcz90_5 := cz5 BK279.out; have hfz90_0 := blk_frozen BK279.out 0; have hfz90_1 := blk_frozen BK279.out 1; have hfz90_2 := blk_frozen BK279.out 2; have hfz90_3 := blk_frozen BK279.out 3; have hfz90_4 := blk_frozen BK279.out 4; have hfz90_5 := blk_frozen BK279.out 5; have hnb91 := NB280_281.out; have hnc91 := NB281_280.out; have hnb92 := NB280_282.out; have hnc92 := NB282_280.out; have hnb93 := NB280_290.out; have hnc93 := NB290_280.out; have hcz94_0 := cz0 BK280.out; have hcz94_1 := cz1 BK280.out; have hfz94_0 := blk_frozen BK280.out 0; have hfz94_1 := blk_frozen BK280.out 1) | (go_at_call 39; (with_reducible refine (seek_Is.calls a3_0 false _ A60.out).mono ?_); rintro e w95 ⟨rfl, hb⟩; have n0_ := Aside0.mk (Kd.R_below (by (with_reducible repeat (first | apply Kd.R_alloc | apply Kd.R_drewN | apply Kd.R_drew)); exact HO286.out) hb); have n1_ := Aside0.mk (Kd.R_below (by (with_reducible repeat (first | apply Kd.R_alloc | apply Kd.R_drewN | apply Kd.R_drew)); exact HO289.out) hb); have n2_ := Aside0.mk (blb hb BK279.out); have n3_ := Aside0.mk (blb hb BK280.out); have n4_ := Aside0.mk (blb hb BK281.out); have n5_ := Aside0.mk (blb hb BK282.out); have n6_ := Aside0.mk (blb hb BK290.out); have n7_ := Aside0.mk (below_step (by repeat with_reducible first | exact HB.out | apply pw_below_drewN | refine below_set ?_ GE279.out | refine below_set ?_ GE280.out | refine below_set ?_ GE281.out | refine below_set ?_ GE282.out | refine below_set ?_ GE290.out | apply below_drew1 | apply below_alloc) hb); clear HO286; clear HO289; clear BK279; clear BK280; clear BK281; clear BK282; clear BK290; clear HB; have HO286 := n0_; have HO289 := n1_; have BK279 := n2_; have BK280 := n3_; have BK281 := n4_; have BK282 := n5_; have BK290 := n6_; have HB := n7_; clear n0_ n1_ n2_ n3_ n4_ n5_ n6_ n7_; (try clear hb); (try clear hb2); (try clear hk); (try clear hi)))
   go_meet
   case rel => exact ⟨_, (true), (by first | rfl | (simp; done) | (simp [*]; done)), H', ⟨by first | omega | exact Nat.le_refl _⟩, ⟨BK279.out⟩, ⟨BK280.out⟩, ⟨BK281.out⟩, ⟨BK282.out⟩, ⟨by repeat with_reducible first | exact HB.out | apply pw_below_drewN | refine below_set ?_ GE279.out | refine below_set ?_ GE280.out | refine below_set ?_ GE281.out | refine below_set ?_ GE282.out | refine below_set ?_ GE290.out | apply below_drew1 | apply below_alloc⟩⟩
  subst c61
  have H1 : ((marks_May.f k l4).bind fun t295 => (move_Go.j0 k a0 a1 l4 (!t295) a2_0 a2_1 a2_2 a2_3 a2_4 a2_5 a3_0 a3_1 0 0 0 0)) = some (r1, r2, r3, r4, r5) := by rw [if_pos rfl] at H; exact H
  clear H
  have H := H1
  clear H1
  replace H := Option.bind_eq_some_iff.mp H
  obtain ⟨t295, A620, H⟩ := H
  (try dsimp only at H)
  have A62 := Aside0.mk A620
  clear A620
  have H' := Aside0.mk H
  clear H
  go_wp2_with (first | ((with_reducible refine gate_callee (f := 27) rfl ?_); refine goesL_ (some 14) rfl rfl Tryd.func27 (by kernel_rfl) rfl #[.string a0] rfl (map1 rfl) ?_; (with_reducible refine (text_May.calls a0 true _ ?side1 A11.out).mono ?_); (case side1 => exact Tabs.below HT.out (by repeat with_reducible first | exact HB.out | apply pw_below_drewN | refine below_set ?_ GE279.out | refine below_set ?_ GE280.out | refine below_set ?_ GE281.out | refine below_set ?_ GE282.out | apply below_drew1 | apply below_alloc)); rintro e w63 ⟨rfl, hb⟩; refine ⟨_, rfl, ?_⟩; have n0_ := Aside0.mk (blb hb BK279.out); have n1_ := Aside0.mk (blb hb BK280.out); have n2_ := Aside0.mk (blb hb BK281.out); have n3_ := Aside0.mk (blb hb BK282.out); have n4_ := Aside0.mk (below_step (by repeat with_reducible first | exact HB.out | apply pw_below_drewN | refine below_set ?_ GE279.out | refine below_set ?_ GE280.out | refine below_set ?_ GE281.out | refine below_set ?_ GE282.out | apply below_drew1 | apply below_alloc) hb); clear BK279; clear BK280; clear BK281; clear BK282; clear HB; have BK279 := n0_; have BK280 := n1_; have BK281 := n2_; have BK282 := n3_; have HB := n4_; clear n0_ n1_ n2_ n3_ n4_; (try clear hb); (try clear hb2); (try clear hk); (try clear hi)) | (go_at_call 28; (with_reducible refine (text_Of.calls k a0 t284 t287 _ A13.out).mono ?_); rintro e w64 ⟨v285, v288, gb290, rfl, ho0, ho1, ⟨hx290_, hz290_⟩, hb⟩; have n0_ := Aside0.mk (Kd.R_lower ho0 (below_size (by repeat with_reducible first | exact HB.out | apply pw_below_drewN | refine below_set ?_ GE279.out | refine below_set ?_ GE280.out | refine below_set ?_ GE281.out | refine below_set ?_ GE282.out | apply below_drew1 | apply below_alloc))); have n1_ := Aside0.mk (Kd.R_lower ho1 (below_size (by repeat with_reducible first | exact HB.out | apply pw_below_drewN | refine below_set ?_ GE279.out | refine below_set ?_ GE280.out | refine below_set ?_ GE281.out | refine below_set ?_ GE282.out | apply below_drew1 | apply below_alloc))); have n2_ := Aside0.mk (blb hb BK279.out); have n3_ := Aside0.mk (blb hb BK280.out); have n4_ := Aside0.mk (blb hb BK281.out); have n5_ := Aside0.mk (blb hb BK282.out); have n6_ := Aside0.mk (hx290_); have n7_ := Aside0.mk ((Nat.le_trans (below_size (by repeat with_reducible first | exact HB.out | apply pw_below_drewN | refine below_set ?_ GE279.out | refine below_set ?_ GE280.out | refine below_set ?_ GE281.out | refine below_set ?_ GE282.out | apply below_drew1 | apply below_alloc)) hz290_ : w.heap.size ≤ gb290)); have n8_ := Aside0.mk ((Nat.le_trans (below_size (by repeat with_reducible first | exact HB.out | apply pw_below_drewN | refine below_set ?_ GE279.out | refine below_set ?_ GE280.out | refine below_set ?_ GE281.out | refine below_set ?_ GE282.out | apply below_drew1 | apply below_alloc)) hz290_ : w.heap.size ≤ gb290)); have n9_ := Aside0.mk ((Nat.ne_of_lt (Nat.lt_of_lt_of_le (blk_lt (g := gb279) (o := .cells #[.int .i64 a2_0, .int .i64 a2_1, .int .i64 a2_2, .int .i64 a2_3, .int .i64 a2_4, .int .i64 a2_5] 52 (0, 0)) (by exact BK279.out)) hz290_) : gb279 ≠ gb290)); have n10_ := Aside0.mk ((Nat.ne_of_gt (Nat.lt_of_lt_of_le (blk_lt (g := gb279) (o := .cells #[.int .i64 a2_0, .int .i64 a2_1, .int .i64 a2_2, .int .i64 a2_3, .int .i64 a2_4, .int .i64 a2_5] 52 (0, 0)) (by exact BK279.out)) hz290_) : gb290 ≠ gb279)); have n11_ := Aside0.mk ((Nat.ne_of_lt (Nat.lt_of_lt_of_le (blk_lt (g := gb280) (o := .cells #[.int .i64 a3_0, .int .i64 a3_1] 31 (0, 0)) (by exact BK280.out)) hz290_) : gb280 ≠ gb290)); have n12_ := Aside0.mk ((Nat.ne_of_gt (Nat.lt_of_lt_of_le (blk_lt (g := gb280) (o := .cells #[.int .i64 a3_0, .int .i64 a3_1] 31 (0, 0)) (by exact BK280.out)) hz290_) : gb290 ≠ gb280)); have n13_ := Aside0.mk ((Nat.ne_of_lt (Nat.lt_of_lt_of_le (blk_lt (g := gb281) (o := .cells #[.int .i64 0, .int .i64 0] 54 (0, 0)) (by exact BK281.out)) hz290_) : gb281 ≠ gb290)); have n14_ := Aside0.mk ((Nat.ne_of_gt (Nat.lt_of_lt_of_le (blk_lt (g := gb281) (o := .cells #[.int .i64 0, .int .i64 0] 54 (0, 0)) (by exact BK281.out)) hz290_) : gb290 ≠ gb281)); have n15_ := Aside0.mk ((Nat.ne_of_lt (Nat.lt_of_lt_of_le (blk_lt (g := gb282) (o := .cells #[.int .i64 0, .int .i64 0] 31 (0, 0)) (by exact BK282.out)) hz290_) : gb282 ≠ gb290)); have n16_ := Aside0.mk ((Nat.ne_of_gt (Nat.lt_of_lt_of_le (blk_lt (g := gb282) (o := .cells #[.int .i64 0, .int .i64 0] 31 (0, 0)) (by exact BK282.out)) hz290_) : gb290 ≠ gb282)); have n17_ := Aside0.mk (below_step (by repeat with_reducible first | exact HB.out | apply pw_below_drewN | refine below_set ?_ GE279.out | refine below_set ?_ GE280.out | refine below_set ?_ GE281.out | refine below_set ?_ GE282.out | apply below_drew1 | apply below_alloc) hb); clear BK279; clear BK280; clear BK281; clear BK282; clear HB; have HO286 := n0_; have HO289 := n1_; have BK279 := n2_; have BK280 := n3_; have BK281 := n4_; have BK282 := n5_; have BK290 := n6_; have GW290 := n7_; have GE290 := n8_; have NB279_290 := n9_; have NB290_279 := n10_; have NB280_290 := n11_; have NB290_280 := n12_; have NB281_290 := n13_; have NB290_281 := n14_; have NB282_290 := n15_; have NB290_282 := n16_; have HB := n17_; clear n0_ n1_ n2_ n3_ n4_ n5_ n6_ n7_ n8_ n9_ n10_ n11_ n12_ n13_ n14_ n15_ n16_ n17_; (try clear hb); (try clear hb2); (try clear hk); (try clear hi); (try clear ho0); (try clear ho1); (try clear hx290_ hz290_); obtain ⟨Ao65, co65, eo65⟩ := Kd.R_slice HO286.out; subst eo65; obtain ⟨Ao66, co66, eo66⟩ := Kd.R_slice HO289.out; subst eo66) | (go_at_call 29; (with_reducible refine (text_Map_Is.calls gb290 Ao65 co65 t284 Ao66 co66 t287 a1 true _ ?side1 ?side2 ?side3 ?side4 ?side5 A14.out).mono ?_); (case side1 => exact BK290.out); (case side2 => repeat (first | exact (Kd.R_reads' HO286.out).2.2 | with_reducible first | refine Kd.C_drewN ?_ _ | refine Kd.C_drew ?_ | refine Kd.C_alloc ?_ _)); (case side3 => exact (Kd.R_reads' HO286.out).2.1); (case side4 => repeat (first | exact (Kd.R_reads' HO289.out).2.2 | with_reducible first | refine Kd.C_drewN ?_ _ | refine Kd.C_drew ?_ | refine Kd.C_alloc ?_ _)); (case side5 => exact (Kd.R_reads' HO289.out).2.1); rintro e w' ⟨rfl, ⟨nd, rfl⟩⟩; have hnb67 := NB279_280.out; have hnc67 := NB280_279.out; have hnb68 := NB279_281.out; have hnc68 := NB281_279.out; have hnb69 := NB279_282.out; have hnc69 := NB282_279.out; have hnb70 := NB279_290.out; have hnc70 := NB290_279.out; have hcz71_0 := cz0 BK279.out; have hcz71_1 := cz1 BK279.out; have hcz71_2 := cz2 BK279.out; have hcz71_3 := cz3 BK279.out; have hcz71_4 := cz4 BK279.out; have hcz71_5 := cz5 BK279.out; have hfz71_0 := blk_frozen BK279.out 0; have hfz71_1 := blk_frozen BK279.out 1; have hfz71_2 := blk_frozen BK279.out 2; have hfz71_3 := blk_frozen BK279.out 3; have hfz71_4 := blk_frozen BK279.out 4; have hfz71_5 := blk_frozen BK279.out 5) | (go_at_call 21; (with_reducible refine (move_Is.calls a2_3 true _ A16.out).mono ?_); rintro e w72 ⟨rfl, hb⟩; have n0_ := Aside0.mk (Kd.R_below (by (with_reducible repeat (first | apply Kd.R_alloc | apply Kd.R_drewN | apply Kd.R_drew)); exact HO286.out) hb); have n1_ := Aside0.mk (Kd.R_below (by (with_reducible repeat (first | apply Kd.R_alloc | apply Kd.R_drewN | apply Kd.R_drew)); exact HO289.out) hb); have n2_ := Aside0.mk (blb hb BK279.out); have n3_ := Aside0.mk (blb hb BK280.out); have n4_ := Aside0.mk (blb hb BK281.out); have n5_ := Aside0.mk (blb hb BK282.out); have n6_ := Aside0.mk (blb hb BK290.out); have n7_ := Aside0.mk (below_step (by repeat with_reducible first | exact HB.out | apply pw_below_drewN | refine below_set ?_ GE279.out | refine below_set ?_ GE280.out | refine below_set ?_ GE281.out | refine below_set ?_ GE282.out | refine below_set ?_ GE290.out | apply below_drew1 | apply below_alloc) hb); clear HO286; clear HO289; clear BK279; clear BK280; clear BK281; clear BK282; clear BK290; clear HB; have HO286 := n0_; have HO289 := n1_; have BK279 := n2_; have BK280 := n3_; have BK281 := n4_; have BK282 := n5_; have BK290 := n6_; have HB := n7_; clear n0_ n1_ n2_ n3_ n4_ n5_ n6_ n7_; (try clear hb); (try clear hb2); (try clear hk); (try clear hi); have hcz73_0 := cz0 BK279.out; have hcz73_1 := cz1 BK279.out; have hcz73_2 := cz2 BK279.out; have hcz73_3 := cz3 BK279.out; have hcz73_4 := cz4 BK279.out; have hcz73_5 := cz5 BK279.out; have hfz73_0 := blk_frozen BK279.out 0; have hfz73_1 := blk_frozen BK279.out 1; have hfz73_2 := blk_frozen BK279.out 2; have hfz73_3 := blk_frozen BK279.out 3; have hfz73_4 := blk_frozen BK279.out 4; have hfz73_5 := blk_frozen BK279.out 5; have hnb74 := NB280_281.out; have hnc74 := NB281_280.out; have hnb75 := NB280_282.out; have hnc75 := NB282_280.out; have hnb76 := NB280_290.out; have hnc76 := NB290_280.out; have hcz77_0 := cz0 BK280.out; have hcz77_1 := cz1 BK280.out; have hfz77_0 := blk_frozen BK280.out 0; have hfz77_1 := blk_frozen BK280.out 1) | (go_at_call 39; (with_reducible refine (seek_Is.calls a3_0 true _ A60.out).mono ?_); rintro e w78 ⟨rfl, hb⟩; have n0_ := Aside0.mk (Kd.R_below (by (with_reducible repeat (first | apply Kd.R_alloc | apply Kd.R_drewN | apply Kd.R_drew)); exact HO286.out) hb); have n1_ := Aside0.mk (Kd.R_below (by (with_reducible repeat (first | apply Kd.R_alloc | apply Kd.R_drewN | apply Kd.R_drew)); exact HO289.out) hb); have n2_ := Aside0.mk (blb hb BK279.out); have n3_ := Aside0.mk (blb hb BK280.out); have n4_ := Aside0.mk (blb hb BK281.out); have n5_ := Aside0.mk (blb hb BK282.out); have n6_ := Aside0.mk (blb hb BK290.out); have n7_ := Aside0.mk (below_step (by repeat with_reducible first | exact HB.out | apply pw_below_drewN | refine below_set ?_ GE279.out | refine below_set ?_ GE280.out | refine below_set ?_ GE281.out | refine below_set ?_ GE282.out | refine below_set ?_ GE290.out | apply below_drew1 | apply below_alloc) hb); clear HO286; clear HO289; clear BK279; clear BK280; clear BK281; clear BK282; clear BK290; clear HB; have HO286 := n0_; have HO289 := n1_; have BK279 := n2_; have BK280 := n3_; have BK281 := n4_; have BK282 := n5_; have BK290 := n6_; have HB := n7_; clear n0_ n1_ n2_ n3_ n4_ n5_ n6_ n7_; (try clear hb); (try clear hb2); (try clear hk); (try clear hi)) | (go_at_call 40; (with_reducible refine (marks_May.calls k _ _ l4 t295 _ ?side1 ?side2 A62.out).mono ?_); (case side1 => repeat (first | exact (Kd.C_below HR4.out HB.out) | with_reducible first | refine Kd.C_drewN ?_ _ | refine Kd.C_drew ?_ | refine Kd.C_alloc ?_ _)); (case side2 => exact HC4.out); rintro e w79 ⟨rfl, hb⟩; have n0_ := Aside0.mk (Kd.R_below (by (with_reducible repeat (first | apply Kd.R_alloc | apply Kd.R_drewN | apply Kd.R_drew)); exact HO286.out) hb); have n1_ := Aside0.mk (Kd.R_below (by (with_reducible repeat (first | apply Kd.R_alloc | apply Kd.R_drewN | apply Kd.R_drew)); exact HO289.out) hb); have n2_ := Aside0.mk (blb hb BK279.out); have n3_ := Aside0.mk (blb hb BK280.out); have n4_ := Aside0.mk (blb hb BK281.out); have n5_ := Aside0.mk (blb hb BK282.out); have n6_ := Aside0.mk (blb hb BK290.out); have n7_ := Aside0.mk (below_step (by repeat with_reducible first | exact HB.out | apply pw_below_drewN | refine below_set ?_ GE279.out | refine below_set ?_ GE280.out | refine below_set ?_ GE281.out | refine below_set ?_ GE282.out | refine below_set ?_ GE290.out | apply below_drew1 | apply below_alloc) hb); clear HO286; clear HO289; clear BK279; clear BK280; clear BK281; clear BK282; clear BK290; clear HB; have HO286 := n0_; have HO289 := n1_; have BK279 := n2_; have BK280 := n3_; have BK281 := n4_; have BK282 := n5_; have BK290 := n6_; have HB := n7_; clear n0_ n1_ n2_ n3_ n4_ n5_ n6_ n7_; (try clear hb); (try clear hb2); (try clear hk); (try clear hi)))
  go_meet
  case rel => exact ⟨_, (!t295), (by first | rfl | (simp; done) | (simp [*]; done)), H', ⟨by first | omega | exact Nat.le_refl _⟩, ⟨BK279.out⟩, ⟨BK280.out⟩, ⟨BK281.out⟩, ⟨BK282.out⟩, ⟨by repeat with_reducible first | exact HB.out | apply pw_below_drewN | refine below_set ?_ GE279.out | refine below_set ?_ GE280.out | refine below_set ?_ GE281.out | refine below_set ?_ GE282.out | refine below_set ?_ GE290.out | apply below_drew1 | apply below_alloc⟩⟩
 case rest =>
  clear HC6
  obtain ⟨kq, x54_5, rfl, HA, HJ5, BK279, BK280, BK281, BK282, HB⟩ := hcut
  cases kq with
  | zero => exact absurd HA.out (by simp [move_Go.j0])
  | succ kj5 =>
   have H := HA.out
   clear HA
   simp only [move_Go.j0] at H
   by_cases c111 : x54_5 = true
   ·
    subst c111
    have H1 : (some (0, 0, 0, 0, 1)) = some (r1, r2, r3, r4, r5) := by rw [if_pos rfl] at H; exact H
    clear H
    have H := H1
    clear H1
    simp only [Option.some.injEq, Prod.mk.injEq] at H
    obtain ⟨rfl, rfl, rfl, rfl, rfl⟩ := H
    try go_wp2
    have n0_ := Aside0.mk (blk_drew BK279.out)
    have n1_ := Aside0.mk (blk_drew BK280.out)
    have n2_ := Aside0.mk (blk_drew BK281.out)
    have n3_ := Aside0.mk (blk_drew BK282.out)
    have n4_ := Aside0.mk (below_drew1 HB.out)
    clear BK279
    clear BK280
    clear BK281
    clear BK282
    clear HB
    have BK279 := n0_
    have BK280 := n1_
    have BK281 := n2_
    have BK282 := n3_
    have HB := n4_
    clear n0_ n1_ n2_ n3_ n4_
    refine start_ (n := 5) (S := fun w' => w'.cell? ⟨gb281, 0, none⟩ = some (.int .i64 0) ∧ w'.cell? ⟨gb281, 1, none⟩ = some (.int .i64 0) ∧ w'.cell? ⟨gb282, 0, none⟩ = some (.int .i64 0) ∧ w'.cell? ⟨gb282, 1, none⟩ = some (.int .i64 0)) (ds := []) (bs 5 0) (by kernel_rfl) rfl rfl ⟨(blk_cell BK281.out 0).trans rfl, (blk_cell BK281.out 1).trans rfl, (blk_cell BK282.out 0).trans rfl, (blk_cell BK282.out 1).trans rfl⟩ (fun hHeld => ?_)
    generalize wc.drew = w112 at BK279 BK280 BK281 BK282 HB hHeld ⊢
    refine take_ (i := 0) (N := some 55) (v := ?_) (a' := ?_) (bs 5 1) rfl rfl (by kernel_rfl) (fun _ _ _ h => h) (Or.inl ⟨by rfl, ?_⟩) hHeld ?_ ?_
    rotate_left
    · rintro w' ⟨s0, s1, s2, s3⟩; go_simp; with_reducible rfl
    rotate_left
    · simp only [Act.put, List.setIfInBounds_toArray, List.set_cons_zero, List.set_cons_succ, i64_w, i32_w]; rfl
    refine take_ (i := 1) (N := some 56) (v := ?_) (a' := ?_) (bs 5 3) rfl rfl (by kernel_rfl) (fun _ _ _ h => h) (Or.inl ⟨by rfl, ?_⟩) hHeld ?_ ?_
    rotate_left
    · rintro w' ⟨s0, s1, s2, s3⟩; go_simp; with_reducible rfl
    rotate_left
    · simp only [Act.put, List.setIfInBounds_toArray, List.set_cons_zero, List.set_cons_succ, i64_w, i32_w]; rfl
    refine one_ (i := 2) (N := none) (bs 5 7) rfl rfl (by kernel_rfl) (by decide) (fun K hK => ?_)
    have hs113 := cz0 BK281.out
    have hfs113 := blk_frozen BK281.out 0
    have hns113_0 := NB279_281.out
    have hns113_1 := NB280_281.out
    have hns113_3 := NB282_281.out
    have hms113_0 := NB281_279.out
    have hms113_1 := NB281_280.out
    have hms113_3 := NB281_282.out
    have hs114 := cz1 BK281.out
    have hfs114 := blk_frozen BK281.out 1
    have hns114_0 := NB279_281.out
    have hns114_1 := NB280_281.out
    have hns114_3 := NB282_281.out
    have hms114_0 := NB281_279.out
    have hms114_1 := NB281_280.out
    have hms114_3 := NB281_282.out
    refine skip_ (w1 := ?_) (by rfl) rfl ?_ ?_
    rotate_left
    ·
     go_simp
     rfl
    refine hK.out _ _ ⟨((cell_keep (((cell_keep (hHeld.1) _).trans (hHeld.2.1))) _).trans (((cell_keep (hHeld.1) _).trans (hHeld.1)))), ((cell_keep (((cell_keep (hHeld.1) _).trans (hHeld.2.1))) _).trans (((cell_keep (hHeld.1) _).trans (hHeld.2.1)))), ((cell_keep (((cell_keep (hHeld.1) _).trans (hHeld.2.1))) _).trans (((cell_keep (hHeld.1) _).trans (hHeld.2.2.1)))), ((cell_keep (((cell_keep (hHeld.1) _).trans (hHeld.2.1))) _).trans (((cell_keep (hHeld.1) _).trans (hHeld.2.2.2))))⟩ (fun hHeld => ?_)
    clear hK K
    refine one_ (i := 3) (N := none) (bs 5 15) rfl rfl (by kernel_rfl) (by decide) (fun K hK => ?_)
    have hs115 := cz0 BK282.out
    have hfs115 := blk_frozen BK282.out 0
    have hns115_0 := NB279_282.out
    have hns115_1 := NB280_282.out
    have hns115_2 := NB281_282.out
    have hms115_0 := NB282_279.out
    have hms115_1 := NB282_280.out
    have hms115_2 := NB282_281.out
    have hs116 := cz1 BK282.out
    have hfs116 := blk_frozen BK282.out 1
    have hns116_0 := NB279_282.out
    have hns116_1 := NB280_282.out
    have hns116_2 := NB281_282.out
    have hms116_0 := NB282_279.out
    have hms116_1 := NB282_280.out
    have hms116_2 := NB282_281.out
    refine skip_ (w1 := ?_) (by rfl) rfl ?_ ?_
    rotate_left
    ·
     go_simp
     rfl
    refine hK.out _ _ ⟨((cell_keep (((cell_keep (hHeld.2.2.1) _).trans (hHeld.2.2.2))) _).trans (((cell_keep (hHeld.2.2.1) _).trans (hHeld.1)))), ((cell_keep (((cell_keep (hHeld.2.2.1) _).trans (hHeld.2.2.2))) _).trans (((cell_keep (hHeld.2.2.1) _).trans (hHeld.2.1)))), ((cell_keep (((cell_keep (hHeld.2.2.1) _).trans (hHeld.2.2.2))) _).trans (((cell_keep (hHeld.2.2.1) _).trans (hHeld.2.2.1)))), ((cell_keep (((cell_keep (hHeld.2.2.1) _).trans (hHeld.2.2.2))) _).trans (((cell_keep (hHeld.2.2.1) _).trans (hHeld.2.2.2))))⟩ (fun hHeld => ?_)
    clear hK K
    refine pure_ (i := 4) (N := some 12) (v := ?_) (a' := ?_) (bs 5 31) rfl rfl (by kernel_rfl) (fun _ _ _ h => h) (Or.inl ⟨by rfl, ?_⟩) ?_ ?_
    rotate_left
    · intro w'; go_simp; with_reducible rfl
    rotate_left
    · simp only [Act.put, List.setIfInBounds_toArray, List.set_cons_zero, List.set_cons_succ, i64_w, i32_w]; rfl
    refine done_ (by kernel_rfl) ?_
    try go_wp2
    refine bodyPost_ret (results_list (rs := [.cell 10 54, .cell 11 31, .tmp 12]) rfl (by simp) (.cell gb281 54 #[.int .i64 0, .int .i64 0] (0, 0) _ rfl (by (with_reducible repeat (first | refine blk_drewN ?_ _ | refine blk_drew ?_ | refine blk_alloc ?_ _)); refine blk_far ?_ NB281_282.out _; (with_reducible repeat (first | refine blk_drewN ?_ _ | refine blk_drew ?_ | refine blk_alloc ?_ _)); refine blk_far ?_ NB281_282.out _; (with_reducible repeat (first | refine blk_drewN ?_ _ | refine blk_drew ?_ | refine blk_alloc ?_ _)); refine blk_put (cs := #[.int .i64 0, .int .i64 0]) ?_ 1 _ rfl; (with_reducible repeat (first | refine blk_drewN ?_ _ | refine blk_drew ?_ | refine blk_alloc ?_ _)); refine blk_put (cs := #[.int .i64 0, .int .i64 0]) ?_ 0 _ rfl; (with_reducible repeat (first | refine blk_drewN ?_ _ | refine blk_drew ?_ | refine blk_alloc ?_ _)); exact BK281.out) Tryd.underlying54 rfl (by kernel_rfl) (.cell gb282 31 #[.int .i64 0, .int .i64 0] (0, 0) _ rfl (by (with_reducible repeat (first | refine blk_drewN ?_ _ | refine blk_drew ?_ | refine blk_alloc ?_ _)); refine blk_put (cs := #[.int .i64 0, .int .i64 0]) ?_ 1 _ rfl; (with_reducible repeat (first | refine blk_drewN ?_ _ | refine blk_drew ?_ | refine blk_alloc ?_ _)); refine blk_put (cs := #[.int .i64 0, .int .i64 0]) ?_ 0 _ rfl; (with_reducible repeat (first | refine blk_drewN ?_ _ | refine blk_drew ?_ | refine blk_alloc ?_ _)); refine blk_far ?_ NB282_281.out _; (with_reducible repeat (first | refine blk_drewN ?_ _ | refine blk_drew ?_ | refine blk_alloc ?_ _)); refine blk_far ?_ NB282_281.out _; (with_reducible repeat (first | refine blk_drewN ?_ _ | refine blk_drew ?_ | refine blk_alloc ?_ _)); exact BK282.out) Tryd.underlying31 rfl (by kernel_rfl) (.tmp .nil)))) rfl ?_
    exact ⟨by first | rfl | (simp [errW_none, errW_some] <;> rfl) | (simp [*, errW_none, errW_some] <;> rfl), by repeat with_reducible first | exact HB.out | apply pw_below_drewN | refine below_set ?_ GE279.out | refine below_set ?_ GE280.out | refine below_set ?_ GE281.out | refine below_set ?_ GE282.out | apply below_drew1 | apply below_alloc⟩
   replace c111 := Bool.eq_false_iff.mpr c111
   subst c111
   have H1 : ((move_goes.f kj5 a0 a1 a2_0 a2_1 a2_2 a2_3 a2_4 a2_5 a3_0 a3_1 l4).bind fun bt296 => (if bt296.2.2 = 0 then ((seek_Is.f a2_3).bind fun t299 => (if t299 = true then (some (bt296.1, bt296.2.1, a2_3, a2_5, 0)) else (some (bt296.1, bt296.2.1, a3_0, a3_1, 0)))) else (some (0, 0, 0, 0, bt296.2.2)))) = some (r1, r2, r3, r4, r5) := by rw [if_neg (show ¬ (false = true) by decide)] at H; exact H
   clear H
   have H := H1
   clear H1
   replace H := Option.bind_eq_some_iff.mp H
   obtain ⟨⟨t296, t297, t298⟩, A1170, H⟩ := H
   (try dsimp only at H)
   have A117 := Aside0.mk A1170
   clear A1170
   by_cases c118 : t298 = 0
   rotate_left
   ·
    rw [if_neg c118] at H
    have c118b0 : (t298 == 0) = false := beq_eq_false_iff_ne.mpr c118
    have c118b1 : (t298 != 0) = true := bne_iff_ne.mpr c118
    simp only [Option.some.injEq, Prod.mk.injEq] at H
    obtain ⟨rfl, rfl, rfl, rfl, rfl⟩ := H
    have hnb158 := NB279_280.out
    have hnc158 := NB280_279.out
    have hnb159 := NB279_281.out
    have hnc159 := NB281_279.out
    have hnb160 := NB279_282.out
    have hnc160 := NB282_279.out
    have hcz161_0 := cz0 BK279.out
    have hcz161_1 := cz1 BK279.out
    have hcz161_2 := cz2 BK279.out
    have hcz161_3 := cz3 BK279.out
    have hcz161_4 := cz4 BK279.out
    have hcz161_5 := cz5 BK279.out
    have hfz161_0 := blk_frozen BK279.out 0
    have hfz161_1 := blk_frozen BK279.out 1
    have hfz161_2 := blk_frozen BK279.out 2
    have hfz161_3 := blk_frozen BK279.out 3
    have hfz161_4 := blk_frozen BK279.out 4
    have hfz161_5 := blk_frozen BK279.out 5
    have hnb162 := NB280_281.out
    have hnc162 := NB281_280.out
    have hnb163 := NB280_282.out
    have hnc163 := NB282_280.out
    have hcz164_0 := cz0 BK280.out
    have hcz164_1 := cz1 BK280.out
    have hfz164_0 := blk_frozen BK280.out 0
    have hfz164_1 := blk_frozen BK280.out 1
    try go_wp2_with (first | ((with_reducible refine gate_callee (f := 41) rfl ?_); refine goesL_ (some 63) rfl rfl Tryd.func41 (by kernel_rfl) rfl #[.string a0, .int .i64 a1, .agg #[.int .i64 a2_0, .int .i64 a2_1, .int .i64 a2_2, .int .i64 a2_3, .int .i64 a2_4, .int .i64 a2_5], .agg #[.int .i64 a3_0, .int .i64 a3_1], .slice A4 l4.length c4] rfl (map5 rfl rfl rfl rfl rfl) ?_; (with_reducible refine (move_goes.calls kj5 a0 a1 a2_0 a2_1 a2_2 a2_3 a2_4 a2_5 a3_0 a3_1 _ _ l4 t296 t297 t298 _ ?side1 ?side2 ?side3 A117.out).mono ?_); (case side1 => exact Tabs.below HT.out (by repeat with_reducible first | exact HB.out | apply pw_below_drewN | refine below_set ?_ GE279.out | refine below_set ?_ GE280.out | refine below_set ?_ GE281.out | refine below_set ?_ GE282.out | apply below_drew1 | apply below_alloc)); (case side2 => repeat (first | exact (Kd.C_below HR4.out HB.out) | with_reducible first | refine Kd.C_drewN ?_ _ | refine Kd.C_drew ?_ | refine Kd.C_alloc ?_ _)); (case side3 => exact HC4.out); rintro e w165 ⟨rfl, hb⟩; refine ⟨_, rfl, ?_⟩; have n0_ := Aside0.mk (blb hb BK279.out); have n1_ := Aside0.mk (blb hb BK280.out); have n2_ := Aside0.mk (blb hb BK281.out); have n3_ := Aside0.mk (blb hb BK282.out); have n4_ := Aside0.mk (below_step (by repeat with_reducible first | exact HB.out | apply pw_below_drewN | refine below_set ?_ GE279.out | refine below_set ?_ GE280.out | refine below_set ?_ GE281.out | refine below_set ?_ GE282.out | apply below_drew1 | apply below_alloc) hb); clear BK279; clear BK280; clear BK281; clear BK282; clear HB; have BK279 := n0_; have BK280 := n1_; have BK281 := n2_; have BK282 := n3_; have HB := n4_; clear n0_ n1_ n2_ n3_ n4_; (try clear hb); (try clear hb2); (try clear hk); (try clear hi); have hnb166 := NB281_282.out; have hnc166 := NB282_281.out; have hcz167_0 := cz0 BK281.out; have hcz167_1 := cz1 BK281.out; have hfz167_0 := blk_frozen BK281.out 0; have hfz167_1 := blk_frozen BK281.out 1))
    have n0_ : Aside0 (((w165.setCell ⟨gb281, 0, none⟩ (.int .i64 t296)).setCell ⟨gb281, 1, none⟩ (.int .i64 t297)).heap[gb279]? = some (.cells #[.int .i64 a2_0, .int .i64 a2_1, .int .i64 a2_2, .int .i64 a2_3, .int .i64 a2_4, .int .i64 a2_5] 52 (0, 0))) := ⟨by (with_reducible repeat (first | refine blk_drewN ?_ _ | refine blk_drew ?_ | refine blk_alloc ?_ _)); refine blk_far ?_ NB279_281.out _; (with_reducible repeat (first | refine blk_drewN ?_ _ | refine blk_drew ?_ | refine blk_alloc ?_ _)); refine blk_far ?_ NB279_281.out _; (with_reducible repeat (first | refine blk_drewN ?_ _ | refine blk_drew ?_ | refine blk_alloc ?_ _)); exact BK279.out⟩
    have n1_ : Aside0 (((w165.setCell ⟨gb281, 0, none⟩ (.int .i64 t296)).setCell ⟨gb281, 1, none⟩ (.int .i64 t297)).heap[gb280]? = some (.cells #[.int .i64 a3_0, .int .i64 a3_1] 31 (0, 0))) := ⟨by (with_reducible repeat (first | refine blk_drewN ?_ _ | refine blk_drew ?_ | refine blk_alloc ?_ _)); refine blk_far ?_ NB280_281.out _; (with_reducible repeat (first | refine blk_drewN ?_ _ | refine blk_drew ?_ | refine blk_alloc ?_ _)); refine blk_far ?_ NB280_281.out _; (with_reducible repeat (first | refine blk_drewN ?_ _ | refine blk_drew ?_ | refine blk_alloc ?_ _)); exact BK280.out⟩
    have n2_ : Aside0 (((w165.setCell ⟨gb281, 0, none⟩ (.int .i64 t296)).setCell ⟨gb281, 1, none⟩ (.int .i64 t297)).heap[gb281]? = some (.cells #[.int .i64 t296, .int .i64 t297] 54 (0, 0))) := ⟨by (with_reducible repeat (first | refine blk_drewN ?_ _ | refine blk_drew ?_ | refine blk_alloc ?_ _)); refine blk_put (cs := #[.int .i64 t296, .int .i64 0]) ?_ 1 _ rfl; (with_reducible repeat (first | refine blk_drewN ?_ _ | refine blk_drew ?_ | refine blk_alloc ?_ _)); refine blk_put (cs := #[.int .i64 0, .int .i64 0]) ?_ 0 _ rfl; (with_reducible repeat (first | refine blk_drewN ?_ _ | refine blk_drew ?_ | refine blk_alloc ?_ _)); exact BK281.out⟩
    have n3_ : Aside0 (((w165.setCell ⟨gb281, 0, none⟩ (.int .i64 t296)).setCell ⟨gb281, 1, none⟩ (.int .i64 t297)).heap[gb282]? = some (.cells #[.int .i64 0, .int .i64 0] 31 (0, 0))) := ⟨by (with_reducible repeat (first | refine blk_drewN ?_ _ | refine blk_drew ?_ | refine blk_alloc ?_ _)); refine blk_far ?_ NB282_281.out _; (with_reducible repeat (first | refine blk_drewN ?_ _ | refine blk_drew ?_ | refine blk_alloc ?_ _)); refine blk_far ?_ NB282_281.out _; (with_reducible repeat (first | refine blk_drewN ?_ _ | refine blk_drew ?_ | refine blk_alloc ?_ _)); exact BK282.out⟩
    have n4_ : Aside0 (Below w.heap.size w ((w165.setCell ⟨gb281, 0, none⟩ (.int .i64 t296)).setCell ⟨gb281, 1, none⟩ (.int .i64 t297))) := ⟨by repeat with_reducible first | exact HB.out | apply pw_below_drewN | refine below_set ?_ GE279.out | refine below_set ?_ GE280.out | refine below_set ?_ GE281.out | refine below_set ?_ GE282.out | apply below_drew1 | apply below_alloc⟩
    (try clear BK279)
    (try clear BK280)
    (try clear BK281)
    (try clear BK282)
    (try clear HB)
    generalize ((w165.setCell ⟨gb281, 0, none⟩ (.int .i64 t296)).setCell ⟨gb281, 1, none⟩ (.int .i64 t297)) = w168 at n0_ n1_ n2_ n3_ n4_ ⊢
    have BK279 := n0_
    have BK280 := n1_
    have BK281 := n2_
    have BK282 := n3_
    have HB := n4_
    clear n0_ n1_ n2_ n3_ n4_
    have n0_ := Aside0.mk (blk_drew BK279.out)
    have n1_ := Aside0.mk (blk_drew BK280.out)
    have n2_ := Aside0.mk (blk_drew BK281.out)
    have n3_ := Aside0.mk (blk_drew BK282.out)
    have n4_ := Aside0.mk (below_drew1 HB.out)
    clear BK279
    clear BK280
    clear BK281
    clear BK282
    clear HB
    have BK279 := n0_
    have BK280 := n1_
    have BK281 := n2_
    have BK282 := n3_
    have HB := n4_
    clear n0_ n1_ n2_ n3_ n4_
    refine start_ (n := 6) (S := fun w' => w'.cell? ⟨gb282, 0, none⟩ = some (.int .i64 0) ∧ w'.cell? ⟨gb282, 1, none⟩ = some (.int .i64 0)) (ds := []) (bs 6 0) (by kernel_rfl) rfl rfl ⟨(blk_cell BK282.out 0).trans rfl, (blk_cell BK282.out 1).trans rfl⟩ (fun hHeld => ?_)
    generalize w168.drew = w169 at BK279 BK280 BK281 BK282 HB hHeld ⊢
    refine pure_ (i := 0) (N := some 68) (v := ?_) (a' := ?_) (bs 6 1) rfl rfl (by kernel_rfl) (fun _ _ _ h => h) (Or.inl ⟨by rfl, ?_⟩) ?_ ?_
    rotate_left
    · intro w'; go_simp; with_reducible rfl
    rotate_left
    · simp only [Act.put, List.setIfInBounds_toArray, List.set_cons_zero, List.set_cons_succ, i64_w, i32_w]; rfl
    refine pure_ (i := 2) (N := some 70) (v := ?_) (a' := ?_) (bs 6 5) rfl rfl (by kernel_rfl) (fun _ _ _ h => h) (Or.inl ⟨by rfl, ?_⟩) ?_ ?_
    rotate_left
    · intro w'; go_simp; with_reducible rfl
    rotate_left
    · simp only [Act.put, List.setIfInBounds_toArray, List.set_cons_zero, List.set_cons_succ, i64_w, i32_w]; rfl
    refine take_ (i := 1) (N := some 69) (v := ?_) (a' := ?_) (bs 6 7) rfl rfl (by kernel_rfl) (fun _ _ _ h => h) (Or.inl ⟨by rfl, ?_⟩) hHeld ?_ ?_
    rotate_left
    · rintro w' ⟨s0, s1⟩; go_simp; with_reducible rfl
    rotate_left
    · simp only [Act.put, List.setIfInBounds_toArray, List.set_cons_zero, List.set_cons_succ, i64_w, i32_w]; rfl
    refine one_ (i := 3) (N := none) (bs 6 15) rfl rfl (by kernel_rfl) (by decide) (fun K hK => ?_)
    have hs170 := cz0 BK281.out
    have hfs170 := blk_frozen BK281.out 0
    have hns170_0 := NB279_281.out
    have hns170_1 := NB280_281.out
    have hns170_3 := NB282_281.out
    have hms170_0 := NB281_279.out
    have hms170_1 := NB281_280.out
    have hms170_3 := NB281_282.out
    have hs171 := cz1 BK281.out
    have hfs171 := blk_frozen BK281.out 1
    have hns171_0 := NB279_281.out
    have hns171_1 := NB280_281.out
    have hns171_3 := NB282_281.out
    have hms171_0 := NB281_279.out
    have hms171_1 := NB281_280.out
    have hms171_3 := NB281_282.out
    refine skip_ (w1 := ?_) (by rfl) rfl ?_ ?_
    rotate_left
    ·
     go_simp
     rfl
    refine hK.out _ _ ⟨((cell_far (p := ⟨gb281, _, none⟩) NB282_281.out _).trans (((cell_far (p := ⟨gb281, _, none⟩) NB282_281.out _).trans (hHeld.1)))), ((cell_far (p := ⟨gb281, _, none⟩) NB282_281.out _).trans (((cell_far (p := ⟨gb281, _, none⟩) NB282_281.out _).trans (hHeld.2))))⟩ (fun hHeld => ?_)
    clear hK K
    refine one_ (i := 4) (N := none) (bs 6 31) rfl rfl (by kernel_rfl) (by decide) (fun K hK => ?_)
    have hs172 := cz0 BK282.out
    have hfs172 := blk_frozen BK282.out 0
    have hns172_0 := NB279_282.out
    have hns172_1 := NB280_282.out
    have hns172_2 := NB281_282.out
    have hms172_0 := NB282_279.out
    have hms172_1 := NB282_280.out
    have hms172_2 := NB282_281.out
    have hs173 := cz1 BK282.out
    have hfs173 := blk_frozen BK282.out 1
    have hns173_0 := NB279_282.out
    have hns173_1 := NB280_282.out
    have hns173_2 := NB281_282.out
    have hms173_0 := NB282_279.out
    have hms173_1 := NB282_280.out
    have hms173_2 := NB282_281.out
    refine skip_ (w1 := ?_) (by rfl) rfl ?_ ?_
    rotate_left
    ·
     go_simp
     rfl
    refine hK.out _ _ ⟨((cell_keep (((cell_keep (hHeld.1) _).trans (hHeld.2))) _).trans (((cell_keep (hHeld.1) _).trans (hHeld.1)))), ((cell_keep (((cell_keep (hHeld.1) _).trans (hHeld.2))) _).trans (((cell_keep (hHeld.1) _).trans (hHeld.2))))⟩ (fun hHeld => ?_)
    clear hK K
    refine pure_ (i := 5) (N := some 12) (v := ?_) (a' := ?_) (bs 6 63) rfl rfl (by kernel_rfl) (fun _ _ _ h => h) (Or.inl ⟨by rfl, ?_⟩) ?_ ?_
    rotate_left
    · intro w'; go_simp; with_reducible rfl
    rotate_left
    · simp only [Act.put, List.setIfInBounds_toArray, List.set_cons_zero, List.set_cons_succ, i64_w, i32_w]; rfl
    refine done_ (by kernel_rfl) ?_
    try go_wp2
    refine bodyPost_ret (results_list (rs := [.cell 10 54, .cell 11 31, .tmp 12]) rfl (by simp) (.cell gb281 54 #[.int .i64 0, .int .i64 0] (0, 0) _ rfl (by (with_reducible repeat (first | refine blk_drewN ?_ _ | refine blk_drew ?_ | refine blk_alloc ?_ _)); refine blk_far ?_ NB281_282.out _; (with_reducible repeat (first | refine blk_drewN ?_ _ | refine blk_drew ?_ | refine blk_alloc ?_ _)); refine blk_far ?_ NB281_282.out _; (with_reducible repeat (first | refine blk_drewN ?_ _ | refine blk_drew ?_ | refine blk_alloc ?_ _)); refine blk_put (cs := #[.int .i64 0, .int .i64 t297]) ?_ 1 _ rfl; (with_reducible repeat (first | refine blk_drewN ?_ _ | refine blk_drew ?_ | refine blk_alloc ?_ _)); refine blk_put (cs := #[.int .i64 t296, .int .i64 t297]) ?_ 0 _ rfl; (with_reducible repeat (first | refine blk_drewN ?_ _ | refine blk_drew ?_ | refine blk_alloc ?_ _)); exact BK281.out) Tryd.underlying54 rfl (by kernel_rfl) (.cell gb282 31 #[.int .i64 0, .int .i64 0] (0, 0) _ rfl (by (with_reducible repeat (first | refine blk_drewN ?_ _ | refine blk_drew ?_ | refine blk_alloc ?_ _)); refine blk_put (cs := #[.int .i64 0, .int .i64 0]) ?_ 1 _ rfl; (with_reducible repeat (first | refine blk_drewN ?_ _ | refine blk_drew ?_ | refine blk_alloc ?_ _)); refine blk_put (cs := #[.int .i64 0, .int .i64 0]) ?_ 0 _ rfl; (with_reducible repeat (first | refine blk_drewN ?_ _ | refine blk_drew ?_ | refine blk_alloc ?_ _)); refine blk_far ?_ NB282_281.out _; (with_reducible repeat (first | refine blk_drewN ?_ _ | refine blk_drew ?_ | refine blk_alloc ?_ _)); refine blk_far ?_ NB282_281.out _; (with_reducible repeat (first | refine blk_drewN ?_ _ | refine blk_drew ?_ | refine blk_alloc ?_ _)); exact BK282.out) Tryd.underlying31 rfl (by kernel_rfl) (.tmp .nil)))) rfl ?_
    exact ⟨by first | rfl | (simp [errW_none, errW_some] <;> rfl) | (simp [*, errW_none, errW_some] <;> rfl), by repeat with_reducible first | exact HB.out | apply pw_below_drewN | refine below_set ?_ GE279.out | refine below_set ?_ GE280.out | refine below_set ?_ GE281.out | refine below_set ?_ GE282.out | apply below_drew1 | apply below_alloc⟩
   rw [if_pos c118] at H
   have c118b0 : (t298 == 0) = true := beq_iff_eq.mpr c118
   have c118b1 : (t298 != 0) = false := bne_eq_false_iff_eq.mpr c118
   clear c118
   replace H := Option.bind_eq_some_iff.mp H
   obtain ⟨t299, A1190, H⟩ := H
   (try dsimp only at H)
   have A119 := Aside0.mk A1190
   clear A1190
   by_cases c120 : t299 = true
   rotate_left
   ·
    replace c120 := Bool.eq_false_iff.mpr c120
    subst c120
    have H1 : (some (t296, t297, a3_0, a3_1, 0)) = some (r1, r2, r3, r4, r5) := by rw [if_neg (show ¬ (false = true) by decide)] at H; exact H
    clear H
    have H := H1
    clear H1
    simp only [Option.some.injEq, Prod.mk.injEq] at H
    obtain ⟨rfl, rfl, rfl, rfl, rfl⟩ := H
    have hnb141 := NB279_280.out
    have hnc141 := NB280_279.out
    have hnb142 := NB279_281.out
    have hnc142 := NB281_279.out
    have hnb143 := NB279_282.out
    have hnc143 := NB282_279.out
    have hcz144_0 := cz0 BK279.out
    have hcz144_1 := cz1 BK279.out
    have hcz144_2 := cz2 BK279.out
    have hcz144_3 := cz3 BK279.out
    have hcz144_4 := cz4 BK279.out
    have hcz144_5 := cz5 BK279.out
    have hfz144_0 := blk_frozen BK279.out 0
    have hfz144_1 := blk_frozen BK279.out 1
    have hfz144_2 := blk_frozen BK279.out 2
    have hfz144_3 := blk_frozen BK279.out 3
    have hfz144_4 := blk_frozen BK279.out 4
    have hfz144_5 := blk_frozen BK279.out 5
    have hnb145 := NB280_281.out
    have hnc145 := NB281_280.out
    have hnb146 := NB280_282.out
    have hnc146 := NB282_280.out
    have hcz147_0 := cz0 BK280.out
    have hcz147_1 := cz1 BK280.out
    have hfz147_0 := blk_frozen BK280.out 0
    have hfz147_1 := blk_frozen BK280.out 1
    try go_wp2_with (first | ((with_reducible refine gate_callee (f := 41) rfl ?_); refine goesL_ (some 63) rfl rfl Tryd.func41 (by kernel_rfl) rfl #[.string a0, .int .i64 a1, .agg #[.int .i64 a2_0, .int .i64 a2_1, .int .i64 a2_2, .int .i64 a2_3, .int .i64 a2_4, .int .i64 a2_5], .agg #[.int .i64 a3_0, .int .i64 a3_1], .slice A4 l4.length c4] rfl (map5 rfl rfl rfl rfl rfl) ?_; (with_reducible refine (move_goes.calls kj5 a0 a1 a2_0 a2_1 a2_2 a2_3 a2_4 a2_5 a3_0 a3_1 _ _ l4 t296 t297 t298 _ ?side1 ?side2 ?side3 A117.out).mono ?_); (case side1 => exact Tabs.below HT.out (by repeat with_reducible first | exact HB.out | apply pw_below_drewN | refine below_set ?_ GE279.out | refine below_set ?_ GE280.out | refine below_set ?_ GE281.out | refine below_set ?_ GE282.out | apply below_drew1 | apply below_alloc)); (case side2 => repeat (first | exact (Kd.C_below HR4.out HB.out) | with_reducible first | refine Kd.C_drewN ?_ _ | refine Kd.C_drew ?_ | refine Kd.C_alloc ?_ _)); (case side3 => exact HC4.out); rintro e w148 ⟨rfl, hb⟩; refine ⟨_, rfl, ?_⟩; have n0_ := Aside0.mk (blb hb BK279.out); have n1_ := Aside0.mk (blb hb BK280.out); have n2_ := Aside0.mk (blb hb BK281.out); have n3_ := Aside0.mk (blb hb BK282.out); have n4_ := Aside0.mk (below_step (by repeat with_reducible first | exact HB.out | apply pw_below_drewN | refine below_set ?_ GE279.out | refine below_set ?_ GE280.out | refine below_set ?_ GE281.out | refine below_set ?_ GE282.out | apply below_drew1 | apply below_alloc) hb); clear BK279; clear BK280; clear BK281; clear BK282; clear HB; have BK279 := n0_; have BK280 := n1_; have BK281 := n2_; have BK282 := n3_; have HB := n4_; clear n0_ n1_ n2_ n3_ n4_; (try clear hb); (try clear hb2); (try clear hk); (try clear hi); have hnb149 := NB281_282.out; have hnc149 := NB282_281.out; have hcz150_0 := cz0 BK281.out; have hcz150_1 := cz1 BK281.out; have hfz150_0 := blk_frozen BK281.out 0; have hfz150_1 := blk_frozen BK281.out 1; have hcz151_0 := cz0 BK279.out; have hcz151_1 := cz1 BK279.out; have hcz151_2 := cz2 BK279.out; have hcz151_3 := cz3 BK279.out; have hcz151_4 := cz4 BK279.out; have hcz151_5 := cz5 BK279.out; have hfz151_0 := blk_frozen BK279.out 0; have hfz151_1 := blk_frozen BK279.out 1; have hfz151_2 := blk_frozen BK279.out 2; have hfz151_3 := blk_frozen BK279.out 3; have hfz151_4 := blk_frozen BK279.out 4; have hfz151_5 := blk_frozen BK279.out 5) | ((with_reducible refine gate_callee (f := 39) rfl ?_); refine goesL_ (some 73) rfl rfl Tryd.func39 (by kernel_rfl) rfl #[.int .i64 a2_3] rfl (map1 rfl) ?_; (with_reducible refine (seek_Is.calls a2_3 false _ A119.out).mono ?_); rintro e w152 ⟨rfl, hb⟩; refine ⟨_, rfl, ?_⟩; have n0_ := Aside0.mk (blk_below (g := gb279) (o := .cells #[.int .i64 a2_0, .int .i64 a2_1, .int .i64 a2_2, .int .i64 a2_3, .int .i64 a2_4, .int .i64 a2_5] 52 (0, 0)) (by (with_reducible repeat (first | refine blk_drewN ?_ _ | refine blk_drew ?_ | refine blk_alloc ?_ _)); refine blk_far ?_ NB279_281.out _; (with_reducible repeat (first | refine blk_drewN ?_ _ | refine blk_drew ?_ | refine blk_alloc ?_ _)); refine blk_far ?_ NB279_281.out _; (with_reducible repeat (first | refine blk_drewN ?_ _ | refine blk_drew ?_ | refine blk_alloc ?_ _)); exact BK279.out) hb); have n1_ := Aside0.mk (blk_below (g := gb280) (o := .cells #[.int .i64 a3_0, .int .i64 a3_1] 31 (0, 0)) (by (with_reducible repeat (first | refine blk_drewN ?_ _ | refine blk_drew ?_ | refine blk_alloc ?_ _)); refine blk_far ?_ NB280_281.out _; (with_reducible repeat (first | refine blk_drewN ?_ _ | refine blk_drew ?_ | refine blk_alloc ?_ _)); refine blk_far ?_ NB280_281.out _; (with_reducible repeat (first | refine blk_drewN ?_ _ | refine blk_drew ?_ | refine blk_alloc ?_ _)); exact BK280.out) hb); have n2_ := Aside0.mk (blk_below (g := gb281) (o := .cells #[.int .i64 t296, .int .i64 t297] 54 (0, 0)) (by (with_reducible repeat (first | refine blk_drewN ?_ _ | refine blk_drew ?_ | refine blk_alloc ?_ _)); refine blk_put (cs := #[.int .i64 t296, .int .i64 0]) ?_ 1 _ rfl; (with_reducible repeat (first | refine blk_drewN ?_ _ | refine blk_drew ?_ | refine blk_alloc ?_ _)); refine blk_put (cs := #[.int .i64 0, .int .i64 0]) ?_ 0 _ rfl; (with_reducible repeat (first | refine blk_drewN ?_ _ | refine blk_drew ?_ | refine blk_alloc ?_ _)); exact BK281.out) hb); have n3_ := Aside0.mk (blk_below (g := gb282) (o := .cells #[.int .i64 0, .int .i64 0] 31 (0, 0)) (by (with_reducible repeat (first | refine blk_drewN ?_ _ | refine blk_drew ?_ | refine blk_alloc ?_ _)); refine blk_far ?_ NB282_281.out _; (with_reducible repeat (first | refine blk_drewN ?_ _ | refine blk_drew ?_ | refine blk_alloc ?_ _)); refine blk_far ?_ NB282_281.out _; (with_reducible repeat (first | refine blk_drewN ?_ _ | refine blk_drew ?_ | refine blk_alloc ?_ _)); exact BK282.out) hb); have n4_ := Aside0.mk (below_step (by repeat with_reducible first | exact HB.out | apply pw_below_drewN | refine below_set ?_ GE279.out | refine below_set ?_ GE280.out | refine below_set ?_ GE281.out | refine below_set ?_ GE282.out | apply below_drew1 | apply below_alloc) hb); clear BK279; clear BK280; clear BK281; clear BK282; clear HB; have BK279 := n0_; have BK280 := n1_; have BK281 := n2_; have BK282 := n3_; have HB := n4_; clear n0_ n1_ n2_ n3_ n4_; (try clear hb); (try clear hb2); (try clear hk); (try clear hi)))
    have n0_ := Aside0.mk (blk_drew BK279.out)
    have n1_ := Aside0.mk (blk_drew BK280.out)
    have n2_ := Aside0.mk (blk_drew BK281.out)
    have n3_ := Aside0.mk (blk_drew BK282.out)
    have n4_ := Aside0.mk (below_drew1 HB.out)
    clear BK279
    clear BK280
    clear BK281
    clear BK282
    clear HB
    have BK279 := n0_
    have BK280 := n1_
    have BK281 := n2_
    have BK282 := n3_
    have HB := n4_
    clear n0_ n1_ n2_ n3_ n4_
    refine start_ (n := 5) (S := fun w' => w'.cell? ⟨gb281, 0, none⟩ = some (.int .i64 t296) ∧ w'.cell? ⟨gb281, 1, none⟩ = some (.int .i64 t297) ∧ w'.cell? ⟨gb280, 0, none⟩ = some (.int .i64 a3_0) ∧ w'.cell? ⟨gb280, 1, none⟩ = some (.int .i64 a3_1)) (ds := []) (bs 5 0) (by kernel_rfl) rfl rfl ⟨(blk_cell BK281.out 0).trans rfl, (blk_cell BK281.out 1).trans rfl, (blk_cell BK280.out 0).trans rfl, (blk_cell BK280.out 1).trans rfl⟩ (fun hHeld => ?_)
    generalize w152.drew = w153 at BK279 BK280 BK281 BK282 HB hHeld ⊢
    refine take_ (i := 0) (N := some 79) (v := ?_) (a' := ?_) (bs 5 1) rfl rfl (by kernel_rfl) (fun _ _ _ h => h) (Or.inl ⟨by rfl, ?_⟩) hHeld ?_ ?_
    rotate_left
    · rintro w' ⟨s0, s1, s2, s3⟩; go_simp; with_reducible rfl
    rotate_left
    · simp only [Act.put, List.setIfInBounds_toArray, List.set_cons_zero, List.set_cons_succ, i64_w, i32_w]; rfl
    refine take_ (i := 1) (N := some 80) (v := ?_) (a' := ?_) (bs 5 3) rfl rfl (by kernel_rfl) (fun _ _ _ h => h) (Or.inl ⟨by rfl, ?_⟩) hHeld ?_ ?_
    rotate_left
    · rintro w' ⟨s0, s1, s2, s3⟩; go_simp; with_reducible rfl
    rotate_left
    · simp only [Act.put, List.setIfInBounds_toArray, List.set_cons_zero, List.set_cons_succ, i64_w, i32_w]; rfl
    refine one_ (i := 2) (N := none) (bs 5 7) rfl rfl (by kernel_rfl) (by decide) (fun K hK => ?_)
    have hs154 := cz0 BK281.out
    have hfs154 := blk_frozen BK281.out 0
    have hns154_0 := NB279_281.out
    have hns154_1 := NB280_281.out
    have hns154_3 := NB282_281.out
    have hms154_0 := NB281_279.out
    have hms154_1 := NB281_280.out
    have hms154_3 := NB281_282.out
    have hs155 := cz1 BK281.out
    have hfs155 := blk_frozen BK281.out 1
    have hns155_0 := NB279_281.out
    have hns155_1 := NB280_281.out
    have hns155_3 := NB282_281.out
    have hms155_0 := NB281_279.out
    have hms155_1 := NB281_280.out
    have hms155_3 := NB281_282.out
    refine skip_ (w1 := ?_) (by rfl) rfl ?_ ?_
    rotate_left
    ·
     go_simp
     rfl
    refine hK.out _ _ ⟨((cell_keep (((cell_keep (hHeld.1) _).trans (hHeld.2.1))) _).trans (((cell_keep (hHeld.1) _).trans (hHeld.1)))), ((cell_keep (((cell_keep (hHeld.1) _).trans (hHeld.2.1))) _).trans (((cell_keep (hHeld.1) _).trans (hHeld.2.1)))), ((cell_keep (((cell_keep (hHeld.1) _).trans (hHeld.2.1))) _).trans (((cell_keep (hHeld.1) _).trans (hHeld.2.2.1)))), ((cell_keep (((cell_keep (hHeld.1) _).trans (hHeld.2.1))) _).trans (((cell_keep (hHeld.1) _).trans (hHeld.2.2.2))))⟩ (fun hHeld => ?_)
    clear hK K
    refine one_ (i := 3) (N := none) (bs 5 15) rfl rfl (by kernel_rfl) (by decide) (fun K hK => ?_)
    have hs156 := cz0 BK282.out
    have hfs156 := blk_frozen BK282.out 0
    have hns156_0 := NB279_282.out
    have hns156_1 := NB280_282.out
    have hns156_2 := NB281_282.out
    have hms156_0 := NB282_279.out
    have hms156_1 := NB282_280.out
    have hms156_2 := NB282_281.out
    have hs157 := cz1 BK282.out
    have hfs157 := blk_frozen BK282.out 1
    have hns157_0 := NB279_282.out
    have hns157_1 := NB280_282.out
    have hns157_2 := NB281_282.out
    have hms157_0 := NB282_279.out
    have hms157_1 := NB282_280.out
    have hms157_2 := NB282_281.out
    refine skip_ (w1 := ?_) (by rfl) rfl ?_ ?_
    rotate_left
    ·
     go_simp
     rfl
    refine hK.out _ _ ⟨((cell_far (p := ⟨gb282, _, none⟩) NB281_282.out _).trans (((cell_far (p := ⟨gb282, _, none⟩) NB281_282.out _).trans (hHeld.1)))), ((cell_far (p := ⟨gb282, _, none⟩) NB281_282.out _).trans (((cell_far (p := ⟨gb282, _, none⟩) NB281_282.out _).trans (hHeld.2.1)))), ((cell_far (p := ⟨gb282, _, none⟩) NB280_282.out _).trans (((cell_far (p := ⟨gb282, _, none⟩) NB280_282.out _).trans (hHeld.2.2.1)))), ((cell_far (p := ⟨gb282, _, none⟩) NB280_282.out _).trans (((cell_far (p := ⟨gb282, _, none⟩) NB280_282.out _).trans (hHeld.2.2.2))))⟩ (fun hHeld => ?_)
    clear hK K
    refine pure_ (i := 4) (N := some 12) (v := ?_) (a' := ?_) (bs 5 31) rfl rfl (by kernel_rfl) (fun _ _ _ h => h) (Or.inl ⟨by rfl, ?_⟩) ?_ ?_
    rotate_left
    · intro w'; go_simp; with_reducible rfl
    rotate_left
    · simp only [Act.put, List.setIfInBounds_toArray, List.set_cons_zero, List.set_cons_succ, i64_w, i32_w]; rfl
    refine done_ (by kernel_rfl) ?_
    try go_wp2
    refine bodyPost_ret (results_list (rs := [.cell 10 54, .cell 11 31, .tmp 12]) rfl (by simp) (.cell gb281 54 #[.int .i64 t296, .int .i64 t297] (0, 0) _ rfl (by (with_reducible repeat (first | refine blk_drewN ?_ _ | refine blk_drew ?_ | refine blk_alloc ?_ _)); refine blk_far ?_ NB281_282.out _; (with_reducible repeat (first | refine blk_drewN ?_ _ | refine blk_drew ?_ | refine blk_alloc ?_ _)); refine blk_far ?_ NB281_282.out _; (with_reducible repeat (first | refine blk_drewN ?_ _ | refine blk_drew ?_ | refine blk_alloc ?_ _)); refine blk_put (cs := #[.int .i64 t296, .int .i64 t297]) ?_ 1 _ rfl; (with_reducible repeat (first | refine blk_drewN ?_ _ | refine blk_drew ?_ | refine blk_alloc ?_ _)); refine blk_put (cs := #[.int .i64 t296, .int .i64 t297]) ?_ 0 _ rfl; (with_reducible repeat (first | refine blk_drewN ?_ _ | refine blk_drew ?_ | refine blk_alloc ?_ _)); exact BK281.out) Tryd.underlying54 rfl (by kernel_rfl) (.cell gb282 31 #[.int .i64 a3_0, .int .i64 a3_1] (0, 0) _ rfl (by (with_reducible repeat (first | refine blk_drewN ?_ _ | refine blk_drew ?_ | refine blk_alloc ?_ _)); refine blk_put (cs := #[.int .i64 a3_0, .int .i64 0]) ?_ 1 _ rfl; (with_reducible repeat (first | refine blk_drewN ?_ _ | refine blk_drew ?_ | refine blk_alloc ?_ _)); refine blk_put (cs := #[.int .i64 0, .int .i64 0]) ?_ 0 _ rfl; (with_reducible repeat (first | refine blk_drewN ?_ _ | refine blk_drew ?_ | refine blk_alloc ?_ _)); refine blk_far ?_ NB282_281.out _; (with_reducible repeat (first | refine blk_drewN ?_ _ | refine blk_drew ?_ | refine blk_alloc ?_ _)); refine blk_far ?_ NB282_281.out _; (with_reducible repeat (first | refine blk_drewN ?_ _ | refine blk_drew ?_ | refine blk_alloc ?_ _)); exact BK282.out) Tryd.underlying31 rfl (by kernel_rfl) (.tmp .nil)))) rfl ?_
    exact ⟨by first | rfl | (simp [errW_none, errW_some] <;> rfl) | (simp [*, errW_none, errW_some] <;> rfl), by repeat with_reducible first | exact HB.out | apply pw_below_drewN | refine below_set ?_ GE279.out | refine below_set ?_ GE280.out | refine below_set ?_ GE281.out | refine below_set ?_ GE282.out | apply below_drew1 | apply below_alloc⟩
   subst c120
   have H1 : (some (t296, t297, a2_3, a2_5, 0)) = some (r1, r2, r3, r4, r5) := by rw [if_pos rfl] at H; exact H
   clear H
   have H := H1
   clear H1
   simp only [Option.some.injEq, Prod.mk.injEq] at H
   obtain ⟨rfl, rfl, rfl, rfl, rfl⟩ := H
   have hnb121 := NB279_280.out
   have hnc121 := NB280_279.out
   have hnb122 := NB279_281.out
   have hnc122 := NB281_279.out
   have hnb123 := NB279_282.out
   have hnc123 := NB282_279.out
   have hcz124_0 := cz0 BK279.out
   have hcz124_1 := cz1 BK279.out
   have hcz124_2 := cz2 BK279.out
   have hcz124_3 := cz3 BK279.out
   have hcz124_4 := cz4 BK279.out
   have hcz124_5 := cz5 BK279.out
   have hfz124_0 := blk_frozen BK279.out 0
   have hfz124_1 := blk_frozen BK279.out 1
   have hfz124_2 := blk_frozen BK279.out 2
   have hfz124_3 := blk_frozen BK279.out 3
   have hfz124_4 := blk_frozen BK279.out 4
   have hfz124_5 := blk_frozen BK279.out 5
   have hnb125 := NB280_281.out
   have hnc125 := NB281_280.out
   have hnb126 := NB280_282.out
   have hnc126 := NB282_280.out
   have hcz127_0 := cz0 BK280.out
   have hcz127_1 := cz1 BK280.out
   have hfz127_0 := blk_frozen BK280.out 0
   have hfz127_1 := blk_frozen BK280.out 1
   try go_wp2_with (first | ((with_reducible refine gate_callee (f := 41) rfl ?_); refine goesL_ (some 63) rfl rfl Tryd.func41 (by kernel_rfl) rfl #[.string a0, .int .i64 a1, .agg #[.int .i64 a2_0, .int .i64 a2_1, .int .i64 a2_2, .int .i64 a2_3, .int .i64 a2_4, .int .i64 a2_5], .agg #[.int .i64 a3_0, .int .i64 a3_1], .slice A4 l4.length c4] rfl (map5 rfl rfl rfl rfl rfl) ?_; (with_reducible refine (move_goes.calls kj5 a0 a1 a2_0 a2_1 a2_2 a2_3 a2_4 a2_5 a3_0 a3_1 _ _ l4 t296 t297 t298 _ ?side1 ?side2 ?side3 A117.out).mono ?_); (case side1 => exact Tabs.below HT.out (by repeat with_reducible first | exact HB.out | apply pw_below_drewN | refine below_set ?_ GE279.out | refine below_set ?_ GE280.out | refine below_set ?_ GE281.out | refine below_set ?_ GE282.out | apply below_drew1 | apply below_alloc)); (case side2 => repeat (first | exact (Kd.C_below HR4.out HB.out) | with_reducible first | refine Kd.C_drewN ?_ _ | refine Kd.C_drew ?_ | refine Kd.C_alloc ?_ _)); (case side3 => exact HC4.out); rintro e w128 ⟨rfl, hb⟩; refine ⟨_, rfl, ?_⟩; have n0_ := Aside0.mk (blb hb BK279.out); have n1_ := Aside0.mk (blb hb BK280.out); have n2_ := Aside0.mk (blb hb BK281.out); have n3_ := Aside0.mk (blb hb BK282.out); have n4_ := Aside0.mk (below_step (by repeat with_reducible first | exact HB.out | apply pw_below_drewN | refine below_set ?_ GE279.out | refine below_set ?_ GE280.out | refine below_set ?_ GE281.out | refine below_set ?_ GE282.out | apply below_drew1 | apply below_alloc) hb); clear BK279; clear BK280; clear BK281; clear BK282; clear HB; have BK279 := n0_; have BK280 := n1_; have BK281 := n2_; have BK282 := n3_; have HB := n4_; clear n0_ n1_ n2_ n3_ n4_; (try clear hb); (try clear hb2); (try clear hk); (try clear hi); have hnb129 := NB281_282.out; have hnc129 := NB282_281.out; have hcz130_0 := cz0 BK281.out; have hcz130_1 := cz1 BK281.out; have hfz130_0 := blk_frozen BK281.out 0; have hfz130_1 := blk_frozen BK281.out 1; have hcz131_0 := cz0 BK279.out; have hcz131_1 := cz1 BK279.out; have hcz131_2 := cz2 BK279.out; have hcz131_3 := cz3 BK279.out; have hcz131_4 := cz4 BK279.out; have hcz131_5 := cz5 BK279.out; have hfz131_0 := blk_frozen BK279.out 0; have hfz131_1 := blk_frozen BK279.out 1; have hfz131_2 := blk_frozen BK279.out 2; have hfz131_3 := blk_frozen BK279.out 3; have hfz131_4 := blk_frozen BK279.out 4; have hfz131_5 := blk_frozen BK279.out 5) | ((with_reducible refine gate_callee (f := 39) rfl ?_); refine goesL_ (some 73) rfl rfl Tryd.func39 (by kernel_rfl) rfl #[.int .i64 a2_3] rfl (map1 rfl) ?_; (with_reducible refine (seek_Is.calls a2_3 true _ A119.out).mono ?_); rintro e w132 ⟨rfl, hb⟩; refine ⟨_, rfl, ?_⟩; have n0_ := Aside0.mk (blk_below (g := gb279) (o := .cells #[.int .i64 a2_0, .int .i64 a2_1, .int .i64 a2_2, .int .i64 a2_3, .int .i64 a2_4, .int .i64 a2_5] 52 (0, 0)) (by (with_reducible repeat (first | refine blk_drewN ?_ _ | refine blk_drew ?_ | refine blk_alloc ?_ _)); refine blk_far ?_ NB279_281.out _; (with_reducible repeat (first | refine blk_drewN ?_ _ | refine blk_drew ?_ | refine blk_alloc ?_ _)); refine blk_far ?_ NB279_281.out _; (with_reducible repeat (first | refine blk_drewN ?_ _ | refine blk_drew ?_ | refine blk_alloc ?_ _)); exact BK279.out) hb); have n1_ := Aside0.mk (blk_below (g := gb280) (o := .cells #[.int .i64 a3_0, .int .i64 a3_1] 31 (0, 0)) (by (with_reducible repeat (first | refine blk_drewN ?_ _ | refine blk_drew ?_ | refine blk_alloc ?_ _)); refine blk_far ?_ NB280_281.out _; (with_reducible repeat (first | refine blk_drewN ?_ _ | refine blk_drew ?_ | refine blk_alloc ?_ _)); refine blk_far ?_ NB280_281.out _; (with_reducible repeat (first | refine blk_drewN ?_ _ | refine blk_drew ?_ | refine blk_alloc ?_ _)); exact BK280.out) hb); have n2_ := Aside0.mk (blk_below (g := gb281) (o := .cells #[.int .i64 t296, .int .i64 t297] 54 (0, 0)) (by (with_reducible repeat (first | refine blk_drewN ?_ _ | refine blk_drew ?_ | refine blk_alloc ?_ _)); refine blk_put (cs := #[.int .i64 t296, .int .i64 0]) ?_ 1 _ rfl; (with_reducible repeat (first | refine blk_drewN ?_ _ | refine blk_drew ?_ | refine blk_alloc ?_ _)); refine blk_put (cs := #[.int .i64 0, .int .i64 0]) ?_ 0 _ rfl; (with_reducible repeat (first | refine blk_drewN ?_ _ | refine blk_drew ?_ | refine blk_alloc ?_ _)); exact BK281.out) hb); have n3_ := Aside0.mk (blk_below (g := gb282) (o := .cells #[.int .i64 0, .int .i64 0] 31 (0, 0)) (by (with_reducible repeat (first | refine blk_drewN ?_ _ | refine blk_drew ?_ | refine blk_alloc ?_ _)); refine blk_far ?_ NB282_281.out _; (with_reducible repeat (first | refine blk_drewN ?_ _ | refine blk_drew ?_ | refine blk_alloc ?_ _)); refine blk_far ?_ NB282_281.out _; (with_reducible repeat (first | refine blk_drewN ?_ _ | refine blk_drew ?_ | refine blk_alloc ?_ _)); exact BK282.out) hb); have n4_ := Aside0.mk (below_step (by repeat with_reducible first | exact HB.out | apply pw_below_drewN | refine below_set ?_ GE279.out | refine below_set ?_ GE280.out | refine below_set ?_ GE281.out | refine below_set ?_ GE282.out | apply below_drew1 | apply below_alloc) hb); clear BK279; clear BK280; clear BK281; clear BK282; clear HB; have BK279 := n0_; have BK280 := n1_; have BK281 := n2_; have BK282 := n3_; have HB := n4_; clear n0_ n1_ n2_ n3_ n4_; (try clear hb); (try clear hb2); (try clear hk); (try clear hi); have hcz133_0 := cz0 BK279.out; have hcz133_1 := cz1 BK279.out; have hcz133_2 := cz2 BK279.out; have hcz133_3 := cz3 BK279.out; have hcz133_4 := cz4 BK279.out; have hcz133_5 := cz5 BK279.out; have hfz133_0 := blk_frozen BK279.out 0; have hfz133_1 := blk_frozen BK279.out 1; have hfz133_2 := blk_frozen BK279.out 2; have hfz133_3 := blk_frozen BK279.out 3; have hfz133_4 := blk_frozen BK279.out 4; have hfz133_5 := blk_frozen BK279.out 5; have hcz134_0 := cz0 BK280.out; have hcz134_1 := cz1 BK280.out; have hfz134_0 := blk_frozen BK280.out 0; have hfz134_1 := blk_frozen BK280.out 1))
   have n0_ : Aside0 (((w132.setCell ⟨gb280, 0, none⟩ (.int .i64 a2_3)).setCell ⟨gb280, 1, none⟩ (.int .i64 a2_5)).heap[gb279]? = some (.cells #[.int .i64 a2_0, .int .i64 a2_1, .int .i64 a2_2, .int .i64 a2_3, .int .i64 a2_4, .int .i64 a2_5] 52 (0, 0))) := ⟨by (with_reducible repeat (first | refine blk_drewN ?_ _ | refine blk_drew ?_ | refine blk_alloc ?_ _)); refine blk_far ?_ NB279_280.out _; (with_reducible repeat (first | refine blk_drewN ?_ _ | refine blk_drew ?_ | refine blk_alloc ?_ _)); refine blk_far ?_ NB279_280.out _; (with_reducible repeat (first | refine blk_drewN ?_ _ | refine blk_drew ?_ | refine blk_alloc ?_ _)); exact BK279.out⟩
   have n1_ : Aside0 (((w132.setCell ⟨gb280, 0, none⟩ (.int .i64 a2_3)).setCell ⟨gb280, 1, none⟩ (.int .i64 a2_5)).heap[gb280]? = some (.cells #[.int .i64 a2_3, .int .i64 a2_5] 31 (0, 0))) := ⟨by (with_reducible repeat (first | refine blk_drewN ?_ _ | refine blk_drew ?_ | refine blk_alloc ?_ _)); refine blk_put (cs := #[.int .i64 a2_3, .int .i64 a3_1]) ?_ 1 _ rfl; (with_reducible repeat (first | refine blk_drewN ?_ _ | refine blk_drew ?_ | refine blk_alloc ?_ _)); refine blk_put (cs := #[.int .i64 a3_0, .int .i64 a3_1]) ?_ 0 _ rfl; (with_reducible repeat (first | refine blk_drewN ?_ _ | refine blk_drew ?_ | refine blk_alloc ?_ _)); exact BK280.out⟩
   have n2_ : Aside0 (((w132.setCell ⟨gb280, 0, none⟩ (.int .i64 a2_3)).setCell ⟨gb280, 1, none⟩ (.int .i64 a2_5)).heap[gb281]? = some (.cells #[.int .i64 t296, .int .i64 t297] 54 (0, 0))) := ⟨by (with_reducible repeat (first | refine blk_drewN ?_ _ | refine blk_drew ?_ | refine blk_alloc ?_ _)); refine blk_far ?_ NB281_280.out _; (with_reducible repeat (first | refine blk_drewN ?_ _ | refine blk_drew ?_ | refine blk_alloc ?_ _)); refine blk_far ?_ NB281_280.out _; (with_reducible repeat (first | refine blk_drewN ?_ _ | refine blk_drew ?_ | refine blk_alloc ?_ _)); exact BK281.out⟩
   have n3_ : Aside0 (((w132.setCell ⟨gb280, 0, none⟩ (.int .i64 a2_3)).setCell ⟨gb280, 1, none⟩ (.int .i64 a2_5)).heap[gb282]? = some (.cells #[.int .i64 0, .int .i64 0] 31 (0, 0))) := ⟨by (with_reducible repeat (first | refine blk_drewN ?_ _ | refine blk_drew ?_ | refine blk_alloc ?_ _)); refine blk_far ?_ NB282_280.out _; (with_reducible repeat (first | refine blk_drewN ?_ _ | refine blk_drew ?_ | refine blk_alloc ?_ _)); refine blk_far ?_ NB282_280.out _; (with_reducible repeat (first | refine blk_drewN ?_ _ | refine blk_drew ?_ | refine blk_alloc ?_ _)); exact BK282.out⟩
   have n4_ : Aside0 (Below w.heap.size w ((w132.setCell ⟨gb280, 0, none⟩ (.int .i64 a2_3)).setCell ⟨gb280, 1, none⟩ (.int .i64 a2_5))) := ⟨by repeat with_reducible first | exact HB.out | apply pw_below_drewN | refine below_set ?_ GE279.out | refine below_set ?_ GE280.out | refine below_set ?_ GE281.out | refine below_set ?_ GE282.out | apply below_drew1 | apply below_alloc⟩
   (try clear BK279)
   (try clear BK280)
   (try clear BK281)
   (try clear BK282)
   (try clear HB)
   generalize ((w132.setCell ⟨gb280, 0, none⟩ (.int .i64 a2_3)).setCell ⟨gb280, 1, none⟩ (.int .i64 a2_5)) = w135 at n0_ n1_ n2_ n3_ n4_ ⊢
   have BK279 := n0_
   have BK280 := n1_
   have BK281 := n2_
   have BK282 := n3_
   have HB := n4_
   clear n0_ n1_ n2_ n3_ n4_
   have n0_ := Aside0.mk (blk_drew BK279.out)
   have n1_ := Aside0.mk (blk_drew BK280.out)
   have n2_ := Aside0.mk (blk_drew BK281.out)
   have n3_ := Aside0.mk (blk_drew BK282.out)
   have n4_ := Aside0.mk (below_drew1 HB.out)
   clear BK279
   clear BK280
   clear BK281
   clear BK282
   clear HB
   have BK279 := n0_
   have BK280 := n1_
   have BK281 := n2_
   have BK282 := n3_
   have HB := n4_
   clear n0_ n1_ n2_ n3_ n4_
   refine start_ (n := 5) (S := fun w' => w'.cell? ⟨gb281, 0, none⟩ = some (.int .i64 t296) ∧ w'.cell? ⟨gb281, 1, none⟩ = some (.int .i64 t297) ∧ w'.cell? ⟨gb280, 0, none⟩ = some (.int .i64 a2_3) ∧ w'.cell? ⟨gb280, 1, none⟩ = some (.int .i64 a2_5)) (ds := []) (bs 5 0) (by kernel_rfl) rfl rfl ⟨(blk_cell BK281.out 0).trans rfl, (blk_cell BK281.out 1).trans rfl, (blk_cell BK280.out 0).trans rfl, (blk_cell BK280.out 1).trans rfl⟩ (fun hHeld => ?_)
   generalize w135.drew = w136 at BK279 BK280 BK281 BK282 HB hHeld ⊢
   refine take_ (i := 0) (N := some 79) (v := ?_) (a' := ?_) (bs 5 1) rfl rfl (by kernel_rfl) (fun _ _ _ h => h) (Or.inl ⟨by rfl, ?_⟩) hHeld ?_ ?_
   rotate_left
   · rintro w' ⟨s0, s1, s2, s3⟩; go_simp; with_reducible rfl
   rotate_left
   · simp only [Act.put, List.setIfInBounds_toArray, List.set_cons_zero, List.set_cons_succ, i64_w, i32_w]; rfl
   refine take_ (i := 1) (N := some 80) (v := ?_) (a' := ?_) (bs 5 3) rfl rfl (by kernel_rfl) (fun _ _ _ h => h) (Or.inl ⟨by rfl, ?_⟩) hHeld ?_ ?_
   rotate_left
   · rintro w' ⟨s0, s1, s2, s3⟩; go_simp; with_reducible rfl
   rotate_left
   · simp only [Act.put, List.setIfInBounds_toArray, List.set_cons_zero, List.set_cons_succ, i64_w, i32_w]; rfl
   refine one_ (i := 2) (N := none) (bs 5 7) rfl rfl (by kernel_rfl) (by decide) (fun K hK => ?_)
   have hs137 := cz0 BK281.out
   have hfs137 := blk_frozen BK281.out 0
   have hns137_0 := NB279_281.out
   have hns137_1 := NB280_281.out
   have hns137_3 := NB282_281.out
   have hms137_0 := NB281_279.out
   have hms137_1 := NB281_280.out
   have hms137_3 := NB281_282.out
   have hs138 := cz1 BK281.out
   have hfs138 := blk_frozen BK281.out 1
   have hns138_0 := NB279_281.out
   have hns138_1 := NB280_281.out
   have hns138_3 := NB282_281.out
   have hms138_0 := NB281_279.out
   have hms138_1 := NB281_280.out
   have hms138_3 := NB281_282.out
   refine skip_ (w1 := ?_) (by rfl) rfl ?_ ?_
   rotate_left
   ·
    go_simp
    rfl
   refine hK.out _ _ ⟨((cell_keep (((cell_keep (hHeld.1) _).trans (hHeld.2.1))) _).trans (((cell_keep (hHeld.1) _).trans (hHeld.1)))), ((cell_keep (((cell_keep (hHeld.1) _).trans (hHeld.2.1))) _).trans (((cell_keep (hHeld.1) _).trans (hHeld.2.1)))), ((cell_keep (((cell_keep (hHeld.1) _).trans (hHeld.2.1))) _).trans (((cell_keep (hHeld.1) _).trans (hHeld.2.2.1)))), ((cell_keep (((cell_keep (hHeld.1) _).trans (hHeld.2.1))) _).trans (((cell_keep (hHeld.1) _).trans (hHeld.2.2.2))))⟩ (fun hHeld => ?_)
   clear hK K
   refine one_ (i := 3) (N := none) (bs 5 15) rfl rfl (by kernel_rfl) (by decide) (fun K hK => ?_)
   have hs139 := cz0 BK282.out
   have hfs139 := blk_frozen BK282.out 0
   have hns139_0 := NB279_282.out
   have hns139_1 := NB280_282.out
   have hns139_2 := NB281_282.out
   have hms139_0 := NB282_279.out
   have hms139_1 := NB282_280.out
   have hms139_2 := NB282_281.out
   have hs140 := cz1 BK282.out
   have hfs140 := blk_frozen BK282.out 1
   have hns140_0 := NB279_282.out
   have hns140_1 := NB280_282.out
   have hns140_2 := NB281_282.out
   have hms140_0 := NB282_279.out
   have hms140_1 := NB282_280.out
   have hms140_2 := NB282_281.out
   refine skip_ (w1 := ?_) (by rfl) rfl ?_ ?_
   rotate_left
   ·
    go_simp
    rfl
   refine hK.out _ _ ⟨((cell_far (p := ⟨gb282, _, none⟩) NB281_282.out _).trans (((cell_far (p := ⟨gb282, _, none⟩) NB281_282.out _).trans (hHeld.1)))), ((cell_far (p := ⟨gb282, _, none⟩) NB281_282.out _).trans (((cell_far (p := ⟨gb282, _, none⟩) NB281_282.out _).trans (hHeld.2.1)))), ((cell_far (p := ⟨gb282, _, none⟩) NB280_282.out _).trans (((cell_far (p := ⟨gb282, _, none⟩) NB280_282.out _).trans (hHeld.2.2.1)))), ((cell_far (p := ⟨gb282, _, none⟩) NB280_282.out _).trans (((cell_far (p := ⟨gb282, _, none⟩) NB280_282.out _).trans (hHeld.2.2.2))))⟩ (fun hHeld => ?_)
   clear hK K
   refine pure_ (i := 4) (N := some 12) (v := ?_) (a' := ?_) (bs 5 31) rfl rfl (by kernel_rfl) (fun _ _ _ h => h) (Or.inl ⟨by rfl, ?_⟩) ?_ ?_
   rotate_left
   · intro w'; go_simp; with_reducible rfl
   rotate_left
   · simp only [Act.put, List.setIfInBounds_toArray, List.set_cons_zero, List.set_cons_succ, i64_w, i32_w]; rfl
   refine done_ (by kernel_rfl) ?_
   try go_wp2
   refine bodyPost_ret (results_list (rs := [.cell 10 54, .cell 11 31, .tmp 12]) rfl (by simp) (.cell gb281 54 #[.int .i64 t296, .int .i64 t297] (0, 0) _ rfl (by (with_reducible repeat (first | refine blk_drewN ?_ _ | refine blk_drew ?_ | refine blk_alloc ?_ _)); refine blk_far ?_ NB281_282.out _; (with_reducible repeat (first | refine blk_drewN ?_ _ | refine blk_drew ?_ | refine blk_alloc ?_ _)); refine blk_far ?_ NB281_282.out _; (with_reducible repeat (first | refine blk_drewN ?_ _ | refine blk_drew ?_ | refine blk_alloc ?_ _)); refine blk_put (cs := #[.int .i64 t296, .int .i64 t297]) ?_ 1 _ rfl; (with_reducible repeat (first | refine blk_drewN ?_ _ | refine blk_drew ?_ | refine blk_alloc ?_ _)); refine blk_put (cs := #[.int .i64 t296, .int .i64 t297]) ?_ 0 _ rfl; (with_reducible repeat (first | refine blk_drewN ?_ _ | refine blk_drew ?_ | refine blk_alloc ?_ _)); exact BK281.out) Tryd.underlying54 rfl (by kernel_rfl) (.cell gb282 31 #[.int .i64 a2_3, .int .i64 a2_5] (0, 0) _ rfl (by (with_reducible repeat (first | refine blk_drewN ?_ _ | refine blk_drew ?_ | refine blk_alloc ?_ _)); refine blk_put (cs := #[.int .i64 a2_3, .int .i64 0]) ?_ 1 _ rfl; (with_reducible repeat (first | refine blk_drewN ?_ _ | refine blk_drew ?_ | refine blk_alloc ?_ _)); refine blk_put (cs := #[.int .i64 0, .int .i64 0]) ?_ 0 _ rfl; (with_reducible repeat (first | refine blk_drewN ?_ _ | refine blk_drew ?_ | refine blk_alloc ?_ _)); refine blk_far ?_ NB282_281.out _; (with_reducible repeat (first | refine blk_drewN ?_ _ | refine blk_drew ?_ | refine blk_alloc ?_ _)); refine blk_far ?_ NB282_281.out _; (with_reducible repeat (first | refine blk_drewN ?_ _ | refine blk_drew ?_ | refine blk_alloc ?_ _)); exact BK282.out) Tryd.underlying31 rfl (by kernel_rfl) (.tmp .nil)))) rfl ?_
   exact ⟨by first | rfl | (simp [errW_none, errW_some] <;> rfl) | (simp [*, errW_none, errW_some] <;> rfl), by repeat with_reducible first | exact HB.out | apply pw_below_drewN | refine below_set ?_ GE279.out | refine below_set ?_ GE280.out | refine below_set ?_ GE281.out | refine below_set ?_ GE282.out | apply below_drew1 | apply below_alloc⟩

end Go.Proofs.YtbgmmcngkdhpcaaDoor.P
