/- The walks of the functions that these statements reach: each Go function as a plain Lean function, and the proof that its call comes to that. Written by the session's program wip/pp.py. -/
import Derived.Test.YtbgmmcngkdhpcaaDoorP0
import Derived.Test.YtbgmmcngkdhpcaaDoorP2
namespace Go.Proofs.YtbgmmcngkdhpcaaDoor.P
open Go.Proofs.YtbgmmcngkdhpcaaDoor
open Go.RowKit Go.Proofs.YtbgmmcngkdhpcaaDoorW.PrintWords Go.Proofs.YtbgmmcngkdhpcaaDoorW.PrintLast Go.Proofs.YtbgmmcngkdhpcaaDoorW.PrintMore
attribute [local go_sem] cell_isSome max2_int min2_int max_two min_two max_three min_three max_four min_four   -- for this text's walks alone
set_option linter.unusedVariables false
set_option linter.unusedSimpArgs false

/-! ### region_between: function 30 -/
def region_between.f (k : Nat) (l0_0 : List Int) (l0_1 : List Int) (a1 : Int) (a2 : Int) (a3 : Int) : Option (Int × Int × Bool) := if a3 = 2 then ((text_Map_Row.f k l0_0 l0_1 (mn a1 a2)).bind fun t133 => (if 0 ≤ t133 then (if t133 < (l0_1.length : Int) then ((text_Map_Row.f k l0_0 l0_1 (mx a1 a2)).bind fun t135 => ((text_Map_End.f l0_0 l0_1 t135).bind fun t136 => (some (rd l0_1 t133, t136, true)))) else (none)) else (none))) else (if a3 = 1 then ((text_Map_Row.f k l0_0 l0_1 (mx a1 a2)).bind fun t137 => ((text_Map_End.f l0_0 l0_1 t137).bind fun t138 => (if (mx a1 a2) < t138 then (some (mn a1 a2, wrap64 ((mx a1 a2) + 1), false)) else (some (mn a1 a2, mx a1 a2, false))))) else (some (mn a1 a2, mx a1 a2, false)))
theorem region_between.mono : ∀ a0 a1 a2 a3 a4 k, LeO (region_between.f k a0 a1 a2 a3 a4) (region_between.f (k + 1) a0 a1 a2 a3 a4) := by
  intro a0 a1 a2 a3 a4 k
  unfold region_between.f
  repeat' first | (with_reducible first | exact text_Map_Row.mono _ _ _ _ | exact LeO.refl _ | exact LeO.none _ | refine LeO.ite ?_ ?_ | refine LeO.bind ?_ (fun _ => ?_)) | exact text_Map_Row.mono _ _ _ _ | exact LeO.refl _ | exact LeO.none _ | refine LeO.ite ?_ ?_ | refine LeO.bind ?_ (fun _ => ?_)
def region_between.T3 : Bool × List (List Nat × List Nat) := (true, [([], []), ([0], [0]), ([1], [1]), ([2], [2]), ([], []), ([], []), ([4, 5], [4, 5]), ([3, 6], [3, 6]), ([7], [7]), ([], []), ([], []), ([], []), ([10, 11, 6], [10, 11]), ([9, 12, 12], [9, 12]), ([8, 13], [8, 13]), ([14, 13, 0, 1, 2, 3, 4, 5, 6, 7, 8, 9, 10, 11, 12, 13, 14], [14])])
def region_between.B3 : List Nat := [0, 1, 3, 7, 0, 0, 48, 127, 255, 0, 0, 0, 3184, 7792, 16383, 32767]
theorem region_between.tab3 : rtab .any (opsOf Tryd.f30 3) = region_between.T3 := by kernel_rfl
theorem region_between.bits3 : waitsOk region_between.T3.2 region_between.B3 = true := by kernel_rfl
set_option maxHeartbeats 8000000 in
set_option maxRecDepth 100000 in
theorem region_between.calls (k : Nat) (g0 : Nat) (A0_0 : Option Addr) (c0_0 : Nat) (l0_0 : List Int) (A0_1 : Option Addr) (c0_1 : Nat) (l0_1 : List Int) (a1 : Int) (a2 : Int) (a3 : Int) (r1 : Int) (r2 : Int) (r3 : Bool) (w : World) (hg0 : w.heap[g0]? = some (.cells #[.slice A0_0 l0_0.length c0_0, .slice A0_1 l0_1.length c0_1] 79 (0, 0))) (hr0_0 : Kd.C (Kd.int .i32) w A0_0 l0_0.length l0_0) (hc0_0 : l0_0.length ≤ c0_0) (hr0_1 : Kd.C (Kd.int .i64) w A0_1 l0_1.length l0_1) (hc0_1 : l0_1.length ≤ c0_1) (h : region_between.f k l0_0 l0_1 a1 a2 a3 = some (r1, r2, r3)) :
  Calls Tryd.prog 30 #[.pointer (some ⟨g0, 0, none⟩), .int .i64 a1, .int .i64 a2, .int .i64 a3] w fun e w' => e = .returned (.agg #[.int .i64 r1, .int .i64 r2, .bool r3]) ∧ Below w.heap.size w w' := by
 have hu40 := Tryd.underlying40
 have BK0 := Aside0.mk hg0
 clear hg0
 have HR0_0 := Aside0.mk hr0_0
 have HC0_0 := Aside0.mk hc0_0
 clear hr0_0 hc0_0
 have HR0_1 := Aside0.mk hr0_1
 have HC0_1 := Aside0.mk hc0_1
 clear hr0_1 hc0_1
 have HB := Aside0.mk (Below.refl w.heap.size w)
 have H : (if a3 = 2 then ((text_Map_Row.f k l0_0 l0_1 (mn a1 a2)).bind fun t133 => (if 0 ≤ t133 then (if t133 < (l0_1.length : Int) then ((text_Map_Row.f k l0_0 l0_1 (mx a1 a2)).bind fun t135 => ((text_Map_End.f l0_0 l0_1 t135).bind fun t136 => (some (rd l0_1 t133, t136, true)))) else (none)) else (none))) else (if a3 = 1 then ((text_Map_Row.f k l0_0 l0_1 (mx a1 a2)).bind fun t137 => ((text_Map_End.f l0_0 l0_1 t137).bind fun t138 => (if (mx a1 a2) < t138 then (some (mn a1 a2, wrap64 ((mx a1 a2) + 1), false)) else (some (mn a1 a2, mx a1 a2, false))))) else (some (mn a1 a2, mx a1 a2, false)))) = some (r1, r2, r3) := h
 clear h
 obtain ⟨ji5, hji5⟩ : ∃ j_ : Int, (mn a1 a2) = j_ := ⟨_, rfl⟩
 replace H : (if a3 = 2 then ((text_Map_Row.f k l0_0 l0_1 (ji5)).bind fun t133 => (if 0 ≤ t133 then (if t133 < (l0_1.length : Int) then ((text_Map_Row.f k l0_0 l0_1 (mx a1 a2)).bind fun t135 => ((text_Map_End.f l0_0 l0_1 t135).bind fun t136 => (some (rd l0_1 t133, t136, true)))) else (none)) else (none))) else (if a3 = 1 then ((text_Map_Row.f k l0_0 l0_1 (mx a1 a2)).bind fun t137 => ((text_Map_End.f l0_0 l0_1 t137).bind fun t138 => (if (mx a1 a2) < t138 then (some (ji5, wrap64 ((mx a1 a2) + 1), false)) else (some (ji5, mx a1 a2, false))))) else (some (ji5, mx a1 a2, false)))) = some (r1, r2, r3) := by first | (rw [hji5] at H; exact H) | (simp only [hji5] at H ⊢; exact H)
 have hji5_ : (if a2 < a1 then a2 else a1) = ji5 := hji5
 obtain ⟨ji6, hji6⟩ : ∃ j_ : Int, (mx a1 a2) = j_ := ⟨_, rfl⟩
 replace H : (if a3 = 2 then ((text_Map_Row.f k l0_0 l0_1 (ji5)).bind fun t133 => (if 0 ≤ t133 then (if t133 < (l0_1.length : Int) then ((text_Map_Row.f k l0_0 l0_1 (ji6)).bind fun t135 => ((text_Map_End.f l0_0 l0_1 t135).bind fun t136 => (some (rd l0_1 t133, t136, true)))) else (none)) else (none))) else (if a3 = 1 then ((text_Map_Row.f k l0_0 l0_1 (ji6)).bind fun t137 => ((text_Map_End.f l0_0 l0_1 t137).bind fun t138 => (if (ji6) < t138 then (some (ji5, wrap64 ((ji6) + 1), false)) else (some (ji5, ji6, false))))) else (some (ji5, ji6, false)))) = some (r1, r2, r3) := by first | (rw [hji6] at H; exact H) | (simp only [hji6] at H ⊢; exact H)
 have hji6_ : (if a1 < a2 then a2 else a1) = ji6 := hji6
 by_cases c7 : a3 = 2
 rotate_left
 ·
  rw [if_neg c7] at H
  have c7b0 : (a3 == 2) = false := beq_eq_false_iff_ne.mpr c7
  have c7b1 : (a3 != 2) = true := bne_iff_ne.mpr c7
  by_cases c18 : a3 = 1
  rotate_left
  ·
   rw [if_neg c18] at H
   have c18b0 : (a3 == 1) = false := beq_eq_false_iff_ne.mpr c18
   have c18b1 : (a3 != 1) = true := bne_iff_ne.mpr c18
   simp only [Option.some.injEq, Prod.mk.injEq] at H
   obtain ⟨rfl, rfl, rfl⟩ := H
   go_enter Tryd.func30, Tryd.ntmps30
   go_wp2_with (first | ((with_reducible refine gate_dst (N := 8) rfl ?_); refine box_event ?hg (N := 8) ?hd (cs := #[.int .i64 0, .int .i64 0, .bool false]) (t := 40) ?hr ?_; (case hd => rfl); (case hg => rfl); (case hr => first | (go_simp; done) | (go_simp; rfl)); intro gb132 hg w28 hbox hb; have n0_ := Aside0.mk (blb hb BK0.out); have n1_ := Aside0.mk (below_step (by repeat with_reducible first | exact HB.out | apply pw_below_drewN | refine below_set ?_ GE0.out | apply below_drew1 | apply below_alloc) hb); have n2_ := Aside0.mk (hbox); have n3_ := Aside0.mk (geb hg (by repeat with_reducible first | exact HB.out | apply pw_below_drewN | refine below_set ?_ GE0.out | apply below_drew1 | apply below_alloc)); have n4_ := n3_; have n5_ := Aside0.mk ((nbl hg BK0.out)); have n6_ := Aside0.mk ((nbr hg BK0.out)); clear BK0; clear HB; have BK0 := n0_; have HB := n1_; have BK132 := n2_; have GW132 := n3_; have GE132 := n4_; have NB0_132 := n5_; have NB132_0 := n6_; clear n0_ n1_ n2_ n3_ n4_ n5_ n6_; clear hb hbox hg; have hnb29 := NB132_0.out; have hnc29 := NB0_132.out; have hcz30_0 := cz0 BK132.out; have hcz30_1 := cz1 BK132.out; have hcz30_2 := cz2 BK132.out; have hfz30_0 := blk_frozen BK132.out 0; have hfz30_1 := blk_frozen BK132.out 1; have hfz30_2 := blk_frozen BK132.out 2))
   refine bodyPost_ret (results_cell_row rfl _ _ gb132 40 #[.int .i64 ji5, .int .i64 ji6, .bool false] (0, 0) _ rfl (by (with_reducible repeat (first | refine blk_drewN ?_ _ | refine blk_drew ?_ | refine blk_alloc ?_ _)); refine blk_put (cs := #[.int .i64 ji5, .int .i64 ji6, .bool false]) ?_ 2 _ rfl; (with_reducible repeat (first | refine blk_drewN ?_ _ | refine blk_drew ?_ | refine blk_alloc ?_ _)); refine blk_put (cs := #[.int .i64 ji5, .int .i64 0, .bool false]) ?_ 1 _ rfl; (with_reducible repeat (first | refine blk_drewN ?_ _ | refine blk_drew ?_ | refine blk_alloc ?_ _)); refine blk_put (cs := #[.int .i64 0, .int .i64 0, .bool false]) ?_ 0 _ rfl; (with_reducible repeat (first | refine blk_drewN ?_ _ | refine blk_drew ?_ | refine blk_alloc ?_ _)); exact BK132.out) Tryd.underlying40 rfl (by kernel_rfl)) rfl ?_
   exact ⟨by first | rfl | (simp [errW_none, errW_some] <;> rfl) | (simp only [← hji5, ← hji6]; first | rfl | (simp [errW_none, errW_some] <;> rfl)) | (simp [*, errW_none, errW_some] <;> rfl), by repeat with_reducible first | exact HB.out | apply pw_below_drewN | refine below_set ?_ GE0.out | refine below_set ?_ GE132.out | apply below_drew1 | apply below_alloc⟩
  rw [if_pos c18] at H
  have c18b0 : (a3 == 1) = true := beq_iff_eq.mpr c18
  have c18b1 : (a3 != 1) = false := bne_eq_false_iff_eq.mpr c18
  clear c18
  replace H := Option.bind_eq_some_iff.mp H
  obtain ⟨t137, A190, H⟩ := H
  (try dsimp only at H)
  have A19 := Aside0.mk A190
  clear A190
  replace H := Option.bind_eq_some_iff.mp H
  obtain ⟨t138, A200, H⟩ := H
  (try dsimp only at H)
  have A20 := Aside0.mk A200
  clear A200
  by_cases c21 : (ji6) < t138
  rotate_left
  ·
   rw [if_neg c21] at H
   have c21b0 := decide_eq_false c21
   clear c21
   simp only [Option.some.injEq, Prod.mk.injEq] at H
   obtain ⟨rfl, rfl, rfl⟩ := H
   go_enter Tryd.func30, Tryd.ntmps30
   go_wp2_with (first | ((with_reducible refine gate_dst (N := 8) rfl ?_); refine box_event ?hg (N := 8) ?hd (cs := #[.int .i64 0, .int .i64 0, .bool false]) (t := 40) ?hr ?_; (case hd => rfl); (case hg => rfl); (case hr => first | (go_simp; done) | (go_simp; rfl)); intro gb132 hg w25 hbox hb; have n0_ := Aside0.mk (blb hb BK0.out); have n1_ := Aside0.mk (below_step (by repeat with_reducible first | exact HB.out | apply pw_below_drewN | refine below_set ?_ GE0.out | apply below_drew1 | apply below_alloc) hb); have n2_ := Aside0.mk (hbox); have n3_ := Aside0.mk (geb hg (by repeat with_reducible first | exact HB.out | apply pw_below_drewN | refine below_set ?_ GE0.out | apply below_drew1 | apply below_alloc)); have n4_ := n3_; have n5_ := Aside0.mk ((nbl hg BK0.out)); have n6_ := Aside0.mk ((nbr hg BK0.out)); clear BK0; clear HB; have BK0 := n0_; have HB := n1_; have BK132 := n2_; have GW132 := n3_; have GE132 := n4_; have NB0_132 := n5_; have NB132_0 := n6_; clear n0_ n1_ n2_ n3_ n4_ n5_ n6_; clear hb hbox hg) | (go_at_call 49; (with_reducible refine (text_Map_Row.calls k g0 A0_0 c0_0 l0_0 A0_1 c0_1 l0_1 ji6 t137 _ ?side1 ?side2 ?side3 ?side4 ?side5 A19.out).mono ?_); (case side1 => exact BK0.out); (case side2 => repeat (first | exact (Kd.C_below HR0_0.out HB.out) | with_reducible first | refine Kd.C_drewN ?_ _ | refine Kd.C_drew ?_ | refine Kd.C_alloc ?_ _)); (case side3 => exact HC0_0.out); (case side4 => repeat (first | exact (Kd.C_below HR0_1.out HB.out) | with_reducible first | refine Kd.C_drewN ?_ _ | refine Kd.C_drew ?_ | refine Kd.C_alloc ?_ _)); (case side5 => exact HC0_1.out); rintro e w' ⟨rfl, ⟨nd, rfl⟩⟩; (try (rw [drewN_self w25]; generalize hq_ : World.drewN w25 _ = w25; have n0_ : Aside0 (w25.heap[g0]? = some (.cells #[.slice A0_0 l0_0.length c0_0, .slice A0_1 l0_1.length c0_1] 79 (0, 0))) := ⟨by rw [← hq_]; exact (by exact BK0.out)⟩; have n1_ : Aside0 (w25.heap[gb132]? = some (.cells #[.int .i64 0, .int .i64 0, .bool false] 40 (0, 0))) := ⟨by rw [← hq_]; exact (by exact BK132.out)⟩; have n2_ : Aside0 (Below w.heap.size w w25) := ⟨by rw [← hq_]; exact (by repeat with_reducible first | exact HB.out | apply pw_below_drewN | refine below_set ?_ GE0.out | refine below_set ?_ GE132.out | apply below_drew1 | apply below_alloc)⟩; clear BK0 BK132 HB hq_; have BK0 := n0_; have BK132 := n1_; have HB := n2_; clear n0_ n1_ n2_))) | (go_at_call 50; (with_reducible refine (text_Map_End.calls g0 A0_0 c0_0 l0_0 A0_1 c0_1 l0_1 t137 t138 _ ?side1 ?side2 ?side3 ?side4 ?side5 A20.out).mono ?_); (case side1 => exact BK0.out); (case side2 => repeat (first | exact (Kd.C_below HR0_0.out HB.out) | with_reducible first | refine Kd.C_drewN ?_ _ | refine Kd.C_drew ?_ | refine Kd.C_alloc ?_ _)); (case side3 => exact HC0_0.out); (case side4 => repeat (first | exact (Kd.C_below HR0_1.out HB.out) | with_reducible first | refine Kd.C_drewN ?_ _ | refine Kd.C_drew ?_ | refine Kd.C_alloc ?_ _)); (case side5 => exact HC0_1.out); rintro e w' ⟨rfl, ⟨nd, rfl⟩⟩; (try (rw [drewN_self w25]; generalize hq_ : World.drewN w25 _ = w25; have n0_ : Aside0 (w25.heap[g0]? = some (.cells #[.slice A0_0 l0_0.length c0_0, .slice A0_1 l0_1.length c0_1] 79 (0, 0))) := ⟨by rw [← hq_]; exact (by exact BK0.out)⟩; have n1_ : Aside0 (w25.heap[gb132]? = some (.cells #[.int .i64 0, .int .i64 0, .bool false] 40 (0, 0))) := ⟨by rw [← hq_]; exact (by exact BK132.out)⟩; have n2_ : Aside0 (Below w.heap.size w w25) := ⟨by rw [← hq_]; exact (by repeat with_reducible first | exact HB.out | apply pw_below_drewN | refine below_set ?_ GE0.out | refine below_set ?_ GE132.out | apply below_drew1 | apply below_alloc)⟩; clear BK0 BK132 HB hq_; have BK0 := n0_; have BK132 := n1_; have HB := n2_; clear n0_ n1_ n2_)); have hnb26 := NB132_0.out; have hnc26 := NB0_132.out; have hcz27_0 := cz0 BK132.out; have hcz27_1 := cz1 BK132.out; have hcz27_2 := cz2 BK132.out; have hfz27_0 := blk_frozen BK132.out 0; have hfz27_1 := blk_frozen BK132.out 1; have hfz27_2 := blk_frozen BK132.out 2))
   refine bodyPost_ret (results_cell_row rfl _ _ gb132 40 #[.int .i64 ji5, .int .i64 ji6, .bool false] (0, 0) _ rfl (by (with_reducible repeat (first | refine blk_drewN ?_ _ | refine blk_drew ?_ | refine blk_alloc ?_ _)); refine blk_put (cs := #[.int .i64 ji5, .int .i64 ji6, .bool false]) ?_ 2 _ rfl; (with_reducible repeat (first | refine blk_drewN ?_ _ | refine blk_drew ?_ | refine blk_alloc ?_ _)); refine blk_put (cs := #[.int .i64 ji5, .int .i64 0, .bool false]) ?_ 1 _ rfl; (with_reducible repeat (first | refine blk_drewN ?_ _ | refine blk_drew ?_ | refine blk_alloc ?_ _)); refine blk_put (cs := #[.int .i64 0, .int .i64 0, .bool false]) ?_ 0 _ rfl; (with_reducible repeat (first | refine blk_drewN ?_ _ | refine blk_drew ?_ | refine blk_alloc ?_ _)); exact BK132.out) Tryd.underlying40 rfl (by kernel_rfl)) rfl ?_
   exact ⟨by first | rfl | (simp [errW_none, errW_some] <;> rfl) | (simp only [← hji5, ← hji6]; first | rfl | (simp [errW_none, errW_some] <;> rfl)) | (simp [*, errW_none, errW_some] <;> rfl), by repeat with_reducible first | exact HB.out | apply pw_below_drewN | refine below_set ?_ GE0.out | refine below_set ?_ GE132.out | apply below_drew1 | apply below_alloc⟩
  rw [if_pos c21] at H
  have c21b0 := decide_eq_true c21
  clear c21
  simp only [Option.some.injEq, Prod.mk.injEq] at H
  obtain ⟨rfl, rfl, rfl⟩ := H
  go_enter Tryd.func30, Tryd.ntmps30
  go_wp2_with (first | ((with_reducible refine gate_dst (N := 8) rfl ?_); refine box_event ?hg (N := 8) ?hd (cs := #[.int .i64 0, .int .i64 0, .bool false]) (t := 40) ?hr ?_; (case hd => rfl); (case hg => rfl); (case hr => first | (go_simp; done) | (go_simp; rfl)); intro gb132 hg w22 hbox hb; have n0_ := Aside0.mk (blb hb BK0.out); have n1_ := Aside0.mk (below_step (by repeat with_reducible first | exact HB.out | apply pw_below_drewN | refine below_set ?_ GE0.out | apply below_drew1 | apply below_alloc) hb); have n2_ := Aside0.mk (hbox); have n3_ := Aside0.mk (geb hg (by repeat with_reducible first | exact HB.out | apply pw_below_drewN | refine below_set ?_ GE0.out | apply below_drew1 | apply below_alloc)); have n4_ := n3_; have n5_ := Aside0.mk ((nbl hg BK0.out)); have n6_ := Aside0.mk ((nbr hg BK0.out)); clear BK0; clear HB; have BK0 := n0_; have HB := n1_; have BK132 := n2_; have GW132 := n3_; have GE132 := n4_; have NB0_132 := n5_; have NB132_0 := n6_; clear n0_ n1_ n2_ n3_ n4_ n5_ n6_; clear hb hbox hg) | (go_at_call 49; (with_reducible refine (text_Map_Row.calls k g0 A0_0 c0_0 l0_0 A0_1 c0_1 l0_1 ji6 t137 _ ?side1 ?side2 ?side3 ?side4 ?side5 A19.out).mono ?_); (case side1 => exact BK0.out); (case side2 => repeat (first | exact (Kd.C_below HR0_0.out HB.out) | with_reducible first | refine Kd.C_drewN ?_ _ | refine Kd.C_drew ?_ | refine Kd.C_alloc ?_ _)); (case side3 => exact HC0_0.out); (case side4 => repeat (first | exact (Kd.C_below HR0_1.out HB.out) | with_reducible first | refine Kd.C_drewN ?_ _ | refine Kd.C_drew ?_ | refine Kd.C_alloc ?_ _)); (case side5 => exact HC0_1.out); rintro e w' ⟨rfl, ⟨nd, rfl⟩⟩; (try (rw [drewN_self w22]; generalize hq_ : World.drewN w22 _ = w22; have n0_ : Aside0 (w22.heap[g0]? = some (.cells #[.slice A0_0 l0_0.length c0_0, .slice A0_1 l0_1.length c0_1] 79 (0, 0))) := ⟨by rw [← hq_]; exact (by exact BK0.out)⟩; have n1_ : Aside0 (w22.heap[gb132]? = some (.cells #[.int .i64 0, .int .i64 0, .bool false] 40 (0, 0))) := ⟨by rw [← hq_]; exact (by exact BK132.out)⟩; have n2_ : Aside0 (Below w.heap.size w w22) := ⟨by rw [← hq_]; exact (by repeat with_reducible first | exact HB.out | apply pw_below_drewN | refine below_set ?_ GE0.out | refine below_set ?_ GE132.out | apply below_drew1 | apply below_alloc)⟩; clear BK0 BK132 HB hq_; have BK0 := n0_; have BK132 := n1_; have HB := n2_; clear n0_ n1_ n2_))) | (go_at_call 50; (with_reducible refine (text_Map_End.calls g0 A0_0 c0_0 l0_0 A0_1 c0_1 l0_1 t137 t138 _ ?side1 ?side2 ?side3 ?side4 ?side5 A20.out).mono ?_); (case side1 => exact BK0.out); (case side2 => repeat (first | exact (Kd.C_below HR0_0.out HB.out) | with_reducible first | refine Kd.C_drewN ?_ _ | refine Kd.C_drew ?_ | refine Kd.C_alloc ?_ _)); (case side3 => exact HC0_0.out); (case side4 => repeat (first | exact (Kd.C_below HR0_1.out HB.out) | with_reducible first | refine Kd.C_drewN ?_ _ | refine Kd.C_drew ?_ | refine Kd.C_alloc ?_ _)); (case side5 => exact HC0_1.out); rintro e w' ⟨rfl, ⟨nd, rfl⟩⟩; (try (rw [drewN_self w22]; generalize hq_ : World.drewN w22 _ = w22; have n0_ : Aside0 (w22.heap[g0]? = some (.cells #[.slice A0_0 l0_0.length c0_0, .slice A0_1 l0_1.length c0_1] 79 (0, 0))) := ⟨by rw [← hq_]; exact (by exact BK0.out)⟩; have n1_ : Aside0 (w22.heap[gb132]? = some (.cells #[.int .i64 0, .int .i64 0, .bool false] 40 (0, 0))) := ⟨by rw [← hq_]; exact (by exact BK132.out)⟩; have n2_ : Aside0 (Below w.heap.size w w22) := ⟨by rw [← hq_]; exact (by repeat with_reducible first | exact HB.out | apply pw_below_drewN | refine below_set ?_ GE0.out | refine below_set ?_ GE132.out | apply below_drew1 | apply below_alloc)⟩; clear BK0 BK132 HB hq_; have BK0 := n0_; have BK132 := n1_; have HB := n2_; clear n0_ n1_ n2_)); have hnb23 := NB132_0.out; have hnc23 := NB0_132.out; have hcz24_0 := cz0 BK132.out; have hcz24_1 := cz1 BK132.out; have hcz24_2 := cz2 BK132.out; have hfz24_0 := blk_frozen BK132.out 0; have hfz24_1 := blk_frozen BK132.out 1; have hfz24_2 := blk_frozen BK132.out 2))
  refine bodyPost_ret (results_cell_row rfl _ _ gb132 40 #[.int .i64 ji5, .int .i64 (wrap64 ((ji6) + 1)), .bool false] (0, 0) _ rfl (by (with_reducible repeat (first | refine blk_drewN ?_ _ | refine blk_drew ?_ | refine blk_alloc ?_ _)); refine blk_put (cs := #[.int .i64 ji5, .int .i64 (wrap64 ((ji6) + 1)), .bool false]) ?_ 2 _ rfl; (with_reducible repeat (first | refine blk_drewN ?_ _ | refine blk_drew ?_ | refine blk_alloc ?_ _)); refine blk_put (cs := #[.int .i64 ji5, .int .i64 0, .bool false]) ?_ 1 _ rfl; (with_reducible repeat (first | refine blk_drewN ?_ _ | refine blk_drew ?_ | refine blk_alloc ?_ _)); refine blk_put (cs := #[.int .i64 0, .int .i64 0, .bool false]) ?_ 0 _ rfl; (with_reducible repeat (first | refine blk_drewN ?_ _ | refine blk_drew ?_ | refine blk_alloc ?_ _)); exact BK132.out) Tryd.underlying40 rfl (by kernel_rfl)) rfl ?_
  exact ⟨by first | rfl | (simp [errW_none, errW_some] <;> rfl) | (simp only [← hji5, ← hji6]; first | rfl | (simp [errW_none, errW_some] <;> rfl)) | (simp [*, errW_none, errW_some] <;> rfl), by repeat with_reducible first | exact HB.out | apply pw_below_drewN | refine below_set ?_ GE0.out | refine below_set ?_ GE132.out | apply below_drew1 | apply below_alloc⟩
 rw [if_pos c7] at H
 have c7b0 : (a3 == 2) = true := beq_iff_eq.mpr c7
 have c7b1 : (a3 != 2) = false := bne_eq_false_iff_eq.mpr c7
 clear c7
 replace H := Option.bind_eq_some_iff.mp H
 obtain ⟨t133, A80, H⟩ := H
 (try dsimp only at H)
 have A8 := Aside0.mk A80
 clear A80
 by_cases c9 : 0 ≤ t133
 rotate_left
 ·
  rw [if_neg c9] at H
  exact absurd H (by simp)
 rw [if_pos c9] at H
 have c9b0 := decide_eq_true c9
 clear c9
 by_cases c10 : t133 < (l0_1.length : Int)
 rotate_left
 ·
  rw [if_neg c10] at H
  exact absurd H (by simp)
 rw [if_pos c10] at H
 have c10b0 := decide_eq_true c10
 clear c10
 replace H := Option.bind_eq_some_iff.mp H
 obtain ⟨t135, A110, H⟩ := H
 (try dsimp only at H)
 have A11 := Aside0.mk A110
 clear A110
 replace H := Option.bind_eq_some_iff.mp H
 obtain ⟨t136, A120, H⟩ := H
 (try dsimp only at H)
 have A12 := Aside0.mk A120
 clear A120
 simp only [Option.some.injEq, Prod.mk.injEq] at H
 obtain ⟨rfl, rfl, rfl⟩ := H
 go_enter Tryd.func30, Tryd.ntmps30
 try go_wp2_with (first | ((with_reducible refine gate_dst (N := 8) rfl ?_); refine box_event ?hg (N := 8) ?hd (cs := #[.int .i64 0, .int .i64 0, .bool false]) (t := 40) ?hr ?_; (case hd => rfl); (case hg => rfl); (case hr => first | (go_simp; done) | (go_simp; rfl)); intro gb132 hg w13 hbox hb; have n0_ := Aside0.mk (blb hb BK0.out); have n1_ := Aside0.mk (below_step (by repeat with_reducible first | exact HB.out | apply pw_below_drewN | refine below_set ?_ GE0.out | apply below_drew1 | apply below_alloc) hb); have n2_ := Aside0.mk (hbox); have n3_ := Aside0.mk (geb hg (by repeat with_reducible first | exact HB.out | apply pw_below_drewN | refine below_set ?_ GE0.out | apply below_drew1 | apply below_alloc)); have n4_ := n3_; have n5_ := Aside0.mk ((nbl hg BK0.out)); have n6_ := Aside0.mk ((nbr hg BK0.out)); clear BK0; clear HB; have BK0 := n0_; have HB := n1_; have BK132 := n2_; have GW132 := n3_; have GE132 := n4_; have NB0_132 := n5_; have NB132_0 := n6_; clear n0_ n1_ n2_ n3_ n4_ n5_ n6_; clear hb hbox hg))
 have n0_ := Aside0.mk (blk_drew BK0.out)
 have n1_ := Aside0.mk (blk_drew BK132.out)
 have n2_ := Aside0.mk (below_drew1 HB.out)
 clear BK0
 clear BK132
 clear HB
 have BK0 := n0_
 have BK132 := n1_
 have HB := n2_
 clear n0_ n1_ n2_
 have p134 : 0 ≤ (t133 : Int) := of_decide_eq_true (by assumption)
 have q134 : t133 < (l0_1.length : Int) := of_decide_eq_true (by assumption)
 obtain ⟨ad134, e134, hx134_0⟩ := Kd.at_int HR0_1.out t133 p134 q134
 have hw134_0 := hx134_0
 cases e134
 replace hx134_0 := (HB.out.cell (World.block_lt_of_cell? w _ hx134_0)).trans hx134_0
 replace p134 := eq_true p134
 replace q134 := eq_true q134
 refine start_ (n := 16) (S := fun w' => w'.cell? ⟨g0, 0, none⟩ = some (.slice A0_0 l0_0.length c0_0) ∧ w'.cell? ⟨g0, 1, none⟩ = some (.slice (some ad134) l0_1.length c0_1) ∧ w'.cell? (ad134.add (t133).toNat) = some (.int .i64 (rd l0_1 t133))) (ds := []) (bs 16 0) (by kernel_rfl) rfl rfl ⟨(blk_cell BK0.out 0).trans rfl, (blk_cell BK0.out 1).trans rfl, ((HB.out.cell (World.block_lt_of_cell? w _ hw134_0)).trans hw134_0)⟩ (fun hHeld => ?_); refine with_tabW region_between.tab3 region_between.bits3 (fun HT_ HW_ => ?_)
 generalize w13.drew = w14 at BK0 BK132 HB hx134_0 hHeld ⊢
 refine pure_ (i := 0) (N := some 20) (v := ?_) (a' := ?_) (bs 16 1) rfl rfl (any_of HT_.out (by kernel_rfl)) (fun _ _ _ h => h) (Or.inl ⟨by rfl, ?_⟩) ?_ ?_
 rotate_left
 · intro w'; go_simp; with_reducible rfl
 rotate_left
 · simp only [Act.put, List.setIfInBounds_toArray, List.set_cons_zero, List.set_cons_succ, i64_w, i32_w]; rfl
 refine pure_ (i := 1) (N := some 21) (v := ?_) (a' := ?_) (bs 16 3) rfl rfl (any_of HT_.out (by kernel_rfl)) (fun _ _ _ h => h) (Or.inl ⟨by rfl, ?_⟩) ?_ ?_
 rotate_left
 · intro w'; go_simp; with_reducible rfl
 rotate_left
 · simp only [Act.put, List.setIfInBounds_toArray, List.set_cons_zero, List.set_cons_succ, i64_w, i32_w]; rfl
 refine pure_ (i := 2) (N := some 22) (v := ?_) (a' := ?_) (bs 16 7) rfl rfl (any_of HT_.out (by kernel_rfl)) (fun _ _ _ h => h) (Or.inl ⟨by rfl, ?_⟩) ?_ ?_
 rotate_left
 · intro w'; go_simp; with_reducible rfl
 rotate_left
 · simp only [Act.put, List.setIfInBounds_toArray, List.set_cons_zero, List.set_cons_succ, i64_w, i32_w]; rfl
 refine pure_ (i := 4) (N := some 24) (v := ?_) (a' := ?_) (bs 16 23) rfl rfl (any_of HT_.out (by kernel_rfl)) (fun _ _ _ h => h) (Or.inl ⟨by rfl, ?_⟩) ?_ ?_
 rotate_left
 · intro w'; go_simp; with_reducible rfl
 rotate_left
 · simp only [Act.put, List.setIfInBounds_toArray, List.set_cons_zero, List.set_cons_succ, i64_w, i32_w]; rfl
 refine pure_ (i := 5) (N := some 25) (v := ?_) (a' := ?_) (bs 16 55) rfl rfl (any_of HT_.out (by kernel_rfl)) (fun _ _ _ h => h) (Or.inl ⟨by rfl, ?_⟩) ?_ ?_
 rotate_left
 · intro w'; go_simp; with_reducible rfl
 rotate_left
 · simp only [Act.put, List.setIfInBounds_toArray, List.set_cons_zero, List.set_cons_succ, i64_w, i32_w]; rfl
 refine pure_ (i := 9) (N := some 29) (v := ?_) (a' := ?_) (bs 16 567) rfl rfl (any_of HT_.out (by kernel_rfl)) (fun _ _ _ h => h) (Or.inl ⟨by rfl, ?_⟩) ?_ ?_
 rotate_left
 · intro w'; go_simp; with_reducible rfl
 rotate_left
 · simp only [Act.put, List.setIfInBounds_toArray, List.set_cons_zero, List.set_cons_succ, i64_w, i32_w]; rfl
 refine pure_ (i := 10) (N := some 30) (v := ?_) (a' := ?_) (bs 16 1591) rfl rfl (any_of HT_.out (by kernel_rfl)) (fun _ _ _ h => h) (Or.inl ⟨by rfl, ?_⟩) ?_ ?_
 rotate_left
 · intro w'; go_simp; with_reducible rfl
 rotate_left
 · simp only [Act.put, List.setIfInBounds_toArray, List.set_cons_zero, List.set_cons_succ, i64_w, i32_w]; rfl
 refine pure_ (i := 11) (N := some 31) (v := ?_) (a' := ?_) (bs 16 3639) rfl rfl (any_of HT_.out (by kernel_rfl)) (fun _ _ _ h => h) (Or.inl ⟨by rfl, ?_⟩) ?_ ?_
 rotate_left
 · intro w'; go_simp; with_reducible rfl
 rotate_left
 · simp only [Act.put, List.setIfInBounds_toArray, List.set_cons_zero, List.set_cons_succ, i64_w, i32_w]; rfl
 refine take_ (i := 3) (N := some 23) (v := ?_) (a' := ?_) (bs 16 3647) rfl rfl (take_ofW HT_.out HW_.out (by kernel_rfl)) (fun _ _ _ h => h) (Or.inl ⟨by rfl, ?_⟩) hHeld ?_ ?_
 rotate_left
 · rintro w' ⟨s0, s1, s2⟩; go_simp; with_reducible rfl
 rotate_left
 · simp only [Act.put, List.setIfInBounds_toArray, List.set_cons_zero, List.set_cons_succ, i64_w, i32_w]; rfl
 refine one_ (i := 6) (N := some 26) (bs 16 3711) rfl rfl (one_of HT_.out (by kernel_rfl)) (by decide) (fun K hK => ?_)
 refine goes_ Tryd.func49 (by kernel_rfl) rfl #[.pointer (some ⟨g0, 0, none⟩), .int .i64 ji5] (by rfl) rfl rfl (by (try simp only [List.map_toArray, List.map_cons, List.map_nil]); first | done | (simp only [hji5]; rfl) | rfl | (simp only [List.length_drop, List.length_take]; rfl)) ?_
 with_reducible refine (text_Map_Row.calls k g0 A0_0 c0_0 l0_0 (some ad134) c0_1 l0_1 ji5 t133 _ ?side1 ?side2 ?side3 ?side4 ?side5 A8.out).mono ?_
 (case side1 => exact BK0.out)
 (case side2 => repeat (first | exact (Kd.C_below HR0_0.out HB.out) | with_reducible first | refine Kd.C_drewN ?_ _ | refine Kd.C_drew ?_ | refine Kd.C_alloc ?_ _))
 (case side3 => exact HC0_0.out)
 (case side4 => repeat (first | exact (Kd.C_below HR0_1.out HB.out) | with_reducible first | refine Kd.C_drewN ?_ _ | refine Kd.C_drew ?_ | refine Kd.C_alloc ?_ _))
 (case side5 => exact HC0_1.out)
 rintro e w' ⟨rfl, ⟨nd, rfl⟩⟩
 refine ⟨_, rfl, ?_⟩
 refine hK.out _ _ ⟨(blk_cell BK0.out 0).trans rfl, (blk_cell BK0.out 1).trans rfl, ((HB.out.cell (World.block_lt_of_cell? w _ hw134_0)).trans hw134_0)⟩ (fun hHeld => ?_)
 clear hK K
 refine norm_ (a' := ?_) ?_ ?_
 rotate_left
 · show Act.put _ (some 26) _ = _; simp only [Act.put, List.setIfInBounds_toArray, List.set_cons_zero, List.set_cons_succ, i64_w, i32_w]; rfl
 refine pure_ (i := 7) (N := some 27) (v := ?_) (a' := ?_) (bs 16 3839) rfl rfl (any_of HT_.out (by kernel_rfl)) (fun _ _ _ h => h) (Or.inl ⟨by rfl, ?_⟩) ?_ ?_
 rotate_left
 · intro w'; go_simp; with_reducible rfl
 rotate_left
 · simp only [Act.put, List.setIfInBounds_toArray, List.set_cons_zero, List.set_cons_succ, i64_w, i32_w]; rfl
 refine take_ (i := 8) (N := some 28) (v := ?_) (a' := ?_) (bs 16 4095) rfl rfl (take_ofW HT_.out HW_.out (by kernel_rfl)) (fun _ _ _ h => h) (Or.inl ⟨by rfl, ?_⟩) hHeld ?_ ?_
 rotate_left
 · rintro w' ⟨s0, s1, s2⟩; go_simp; with_reducible rfl
 rotate_left
 · simp only [Act.put, List.setIfInBounds_toArray, List.set_cons_zero, List.set_cons_succ, i64_w, i32_w]; rfl
 refine one_ (i := 12) (N := some 32) (bs 16 8191) rfl rfl (one_of HT_.out (by kernel_rfl)) (by decide) (fun K hK => ?_)
 refine goes_ Tryd.func49 (by kernel_rfl) rfl #[.pointer (some ⟨g0, 0, none⟩), .int .i64 ji6] (by rfl) rfl rfl (by (try simp only [List.map_toArray, List.map_cons, List.map_nil]); first | done | (simp only [hji6]; rfl) | rfl | (simp only [List.length_drop, List.length_take]; rfl)) ?_
 with_reducible refine (text_Map_Row.calls k g0 A0_0 c0_0 l0_0 (some ad134) c0_1 l0_1 ji6 t135 _ ?side1 ?side2 ?side3 ?side4 ?side5 A11.out).mono ?_
 (case side1 => exact BK0.out)
 (case side2 => repeat (first | exact (Kd.C_below HR0_0.out (by repeat with_reducible first | exact HB.out | apply pw_below_drewN | refine below_set ?_ GE0.out | refine below_set ?_ GE132.out | apply below_drew1 | apply below_alloc)) | with_reducible first | refine Kd.C_drewN ?_ _ | refine Kd.C_drew ?_ | refine Kd.C_alloc ?_ _))
 (case side3 => exact HC0_0.out)
 (case side4 => repeat (first | exact (Kd.C_below HR0_1.out (by repeat with_reducible first | exact HB.out | apply pw_below_drewN | refine below_set ?_ GE0.out | refine below_set ?_ GE132.out | apply below_drew1 | apply below_alloc)) | with_reducible first | refine Kd.C_drewN ?_ _ | refine Kd.C_drew ?_ | refine Kd.C_alloc ?_ _))
 (case side5 => exact HC0_1.out)
 rintro e w' ⟨rfl, ⟨nd, rfl⟩⟩
 refine ⟨_, rfl, ?_⟩
 refine hK.out _ _ ⟨(blk_cell BK0.out 0).trans rfl, (blk_cell BK0.out 1).trans rfl, ((HB.out.cell (World.block_lt_of_cell? w _ hw134_0)).trans hw134_0)⟩ (fun hHeld => ?_)
 clear hK K
 refine norm_ (a' := ?_) ?_ ?_
 rotate_left
 · show Act.put _ (some 32) _ = _; simp only [Act.put, List.setIfInBounds_toArray, List.set_cons_zero, List.set_cons_succ, i64_w, i32_w]; rfl
 refine one_ (i := 13) (N := some 33) (bs 16 16383) rfl rfl (one_of HT_.out (by kernel_rfl)) (by decide) (fun K hK => ?_)
 refine goes_ Tryd.func50 (by kernel_rfl) rfl #[.pointer (some ⟨g0, 0, none⟩), .int .i64 t135] (by rfl) rfl rfl (by (try simp only [List.map_toArray, List.map_cons, List.map_nil]); first | done | rfl | (simp only [List.length_drop, List.length_take]; rfl)) ?_
 with_reducible refine (text_Map_End.calls g0 A0_0 c0_0 l0_0 (some ad134) c0_1 l0_1 t135 t136 _ ?side1 ?side2 ?side3 ?side4 ?side5 A12.out).mono ?_
 (case side1 => exact BK0.out)
 (case side2 => repeat (first | exact (Kd.C_below HR0_0.out (by repeat with_reducible first | exact HB.out | apply pw_below_drewN | refine below_set ?_ GE0.out | refine below_set ?_ GE132.out | apply below_drew1 | apply below_alloc)) | with_reducible first | refine Kd.C_drewN ?_ _ | refine Kd.C_drew ?_ | refine Kd.C_alloc ?_ _))
 (case side3 => exact HC0_0.out)
 (case side4 => repeat (first | exact (Kd.C_below HR0_1.out (by repeat with_reducible first | exact HB.out | apply pw_below_drewN | refine below_set ?_ GE0.out | refine below_set ?_ GE132.out | apply below_drew1 | apply below_alloc)) | with_reducible first | refine Kd.C_drewN ?_ _ | refine Kd.C_drew ?_ | refine Kd.C_alloc ?_ _))
 (case side5 => exact HC0_1.out)
 rintro e w' ⟨rfl, ⟨nd, rfl⟩⟩
 refine ⟨_, rfl, ?_⟩
 refine hK.out _ _ ⟨(blk_cell BK0.out 0).trans rfl, (blk_cell BK0.out 1).trans rfl, ((HB.out.cell (World.block_lt_of_cell? w _ hw134_0)).trans hw134_0)⟩ (fun hHeld => ?_)
 clear hK K
 refine norm_ (a' := ?_) ?_ ?_
 rotate_left
 · show Act.put _ (some 33) _ = _; simp only [Act.put, List.setIfInBounds_toArray, List.set_cons_zero, List.set_cons_succ, i64_w, i32_w]; rfl
 refine pure_ (i := 14) (N := some 34) (v := ?_) (a' := ?_) (bs 16 32767) rfl rfl (any_of HT_.out (by kernel_rfl)) (fun _ _ _ h => h) (Or.inl ⟨by rfl, ?_⟩) ?_ ?_
 rotate_left
 · intro w'; go_simp; with_reducible rfl
 rotate_left
 · simp only [Act.put, List.setIfInBounds_toArray, List.set_cons_zero, List.set_cons_succ, i64_w, i32_w]; rfl
 refine one_ (i := 15) (N := none) (bs 16 65535) rfl rfl (one_of HT_.out (by kernel_rfl)) (by decide) (fun K hK => ?_)
 have hs15 := cz0 BK132.out
 have hfs15 := blk_frozen BK132.out 0
 have hns15_0 := NB0_132.out
 have hms15_0 := NB132_0.out
 have hs16 := cz1 BK132.out
 have hfs16 := blk_frozen BK132.out 1
 have hns16_0 := NB0_132.out
 have hms16_0 := NB132_0.out
 have hs17 := cz2 BK132.out
 have hfs17 := blk_frozen BK132.out 2
 have hns17_0 := NB0_132.out
 have hms17_0 := NB132_0.out
 refine skip_ (w1 := ?_) (by rfl) rfl ?_ ?_
 rotate_left
 ·
  go_simp
  rfl
 refine hK.out _ _ ⟨((cell_far (p := ⟨gb132, _, none⟩) NB0_132.out _).trans (((cell_far (p := ⟨gb132, _, none⟩) NB0_132.out _).trans (((cell_far (p := ⟨gb132, _, none⟩) NB0_132.out _).trans (hHeld.1)))))), ((cell_far (p := ⟨gb132, _, none⟩) NB0_132.out _).trans (((cell_far (p := ⟨gb132, _, none⟩) NB0_132.out _).trans (((cell_far (p := ⟨gb132, _, none⟩) NB0_132.out _).trans (hHeld.2.1)))))), ((cell_far (p := ⟨gb132, _, none⟩) (by first | exact Nat.ne_of_lt (Nat.lt_of_lt_of_le (by have := World.block_lt_of_cell? _ _ hw134_0; first | rwa [add_block] at this | exact this) GW132.out) | (rw [add_block]; exact Nat.ne_of_lt (Nat.lt_of_lt_of_le (by have := World.block_lt_of_cell? _ _ hw134_0; first | rwa [add_block] at this | exact this) GW132.out)) | (show (Addr.add _ _).block ≠ _; rw [add_block]; exact Nat.ne_of_lt (Nat.lt_of_lt_of_le (by have := World.block_lt_of_cell? _ _ hw134_0; first | rwa [add_block] at this | exact this) GW132.out)) | (dsimp only; exact Nat.ne_of_lt (Nat.lt_of_lt_of_le (by have := World.block_lt_of_cell? _ _ hw134_0; first | rwa [add_block] at this | exact this) GW132.out))) _).trans (((cell_far (p := ⟨gb132, _, none⟩) (by first | exact Nat.ne_of_lt (Nat.lt_of_lt_of_le (by have := World.block_lt_of_cell? _ _ hw134_0; first | rwa [add_block] at this | exact this) GW132.out) | (rw [add_block]; exact Nat.ne_of_lt (Nat.lt_of_lt_of_le (by have := World.block_lt_of_cell? _ _ hw134_0; first | rwa [add_block] at this | exact this) GW132.out)) | (show (Addr.add _ _).block ≠ _; rw [add_block]; exact Nat.ne_of_lt (Nat.lt_of_lt_of_le (by have := World.block_lt_of_cell? _ _ hw134_0; first | rwa [add_block] at this | exact this) GW132.out)) | (dsimp only; exact Nat.ne_of_lt (Nat.lt_of_lt_of_le (by have := World.block_lt_of_cell? _ _ hw134_0; first | rwa [add_block] at this | exact this) GW132.out))) _).trans (((cell_far (p := ⟨gb132, _, none⟩) (by first | exact Nat.ne_of_lt (Nat.lt_of_lt_of_le (by have := World.block_lt_of_cell? _ _ hw134_0; first | rwa [add_block] at this | exact this) GW132.out) | (rw [add_block]; exact Nat.ne_of_lt (Nat.lt_of_lt_of_le (by have := World.block_lt_of_cell? _ _ hw134_0; first | rwa [add_block] at this | exact this) GW132.out)) | (show (Addr.add _ _).block ≠ _; rw [add_block]; exact Nat.ne_of_lt (Nat.lt_of_lt_of_le (by have := World.block_lt_of_cell? _ _ hw134_0; first | rwa [add_block] at this | exact this) GW132.out)) | (dsimp only; exact Nat.ne_of_lt (Nat.lt_of_lt_of_le (by have := World.block_lt_of_cell? _ _ hw134_0; first | rwa [add_block] at this | exact this) GW132.out))) _).trans (hHeld.2.2))))))⟩ (fun hHeld => ?_)
 clear hK K
 refine done_ (done_of HT_.out (by kernel_rfl)) ?_
 try go_wp2
 refine bodyPost_ret (results_cell_row rfl _ _ gb132 40 #[.int .i64 (rd l0_1 t133), .int .i64 t136, .bool true] (0, 0) _ rfl (by (with_reducible repeat (first | refine blk_drewN ?_ _ | refine blk_drew ?_ | refine blk_alloc ?_ _)); refine blk_put (cs := #[.int .i64 (rd l0_1 t133), .int .i64 t136, .bool false]) ?_ 2 _ rfl; (with_reducible repeat (first | refine blk_drewN ?_ _ | refine blk_drew ?_ | refine blk_alloc ?_ _)); refine blk_put (cs := #[.int .i64 (rd l0_1 t133), .int .i64 0, .bool false]) ?_ 1 _ rfl; (with_reducible repeat (first | refine blk_drewN ?_ _ | refine blk_drew ?_ | refine blk_alloc ?_ _)); refine blk_put (cs := #[.int .i64 0, .int .i64 0, .bool false]) ?_ 0 _ rfl; (with_reducible repeat (first | refine blk_drewN ?_ _ | refine blk_drew ?_ | refine blk_alloc ?_ _)); exact BK132.out) Tryd.underlying40 rfl (by kernel_rfl)) rfl ?_
 exact ⟨by first | rfl | (simp [errW_none, errW_some] <;> rfl) | (simp only [← hji5, ← hji6]; first | rfl | (simp [errW_none, errW_some] <;> rfl)) | (simp [*, errW_none, errW_some] <;> rfl), by repeat with_reducible first | exact HB.out | apply pw_below_drewN | refine below_set ?_ GE0.out | refine below_set ?_ GE132.out | apply below_drew1 | apply below_alloc⟩

/-! ### region_Between: function 9 -/
def region_Between.j0 : Nat → ByteArray → Int → Int → Int → Bool → Option (Int × Int × Bool × Int)
  | 0, _, _, _, _, _ => none
  | k + 1, x0, x1, x2, x3, x21 => if x21 = true then (some (0, 0, false, 1)) else ((text_Of.f k x0).bind fun bt141 => ((text_Map_Is.f bt141.1 bt141.2 x1).bind fun t148 => (if t148 = true then ((text_Map_Is.f bt141.1 bt141.2 x2).bind fun t149 => (if t149 = true then ((region_between.f k bt141.1 bt141.2 x1 x2 x3).bind fun bt150 => (some (bt150.1, bt150.2.1, bt150.2.2, 0))) else (some (0, 0, false, 1)))) else (some (0, 0, false, 1)))))
def region_Between.f (k : Nat) (a0 : ByteArray) (a1 : Int) (a2 : Int) (a3 : Int) : Option (Int × Int × Bool × Int) := (text_May.f a0).bind fun t140 => (if t140 = true then (if a3 < 0 then (region_Between.j0 k a0 a1 a2 a3 true) else (region_Between.j0 k a0 a1 a2 a3 (decide (a3 > 2)))) else (region_Between.j0 k a0 a1 a2 a3 true))
theorem region_Between.mono_l : ∀ k, (∀ y0 y1 y2 y3 y4, LeO (region_Between.j0 k y0 y1 y2 y3 y4) (region_Between.j0 (k + 1) y0 y1 y2 y3 y4))
  | 0 => fun _ _ _ _ _ r h => by simp [region_Between.j0] at h
  | k + 1 => by
    have ih0 := region_Between.mono_l k
    all_goals intros
    all_goals first | unfold region_Between.j0
    all_goals repeat' first | (with_reducible first | exact ih0 _ _ _ _ _ | exact region_between.mono _ _ _ _ _ _ | exact text_Of.mono _ _ | exact LeO.refl _ | exact LeO.none _ | refine LeO.ite ?_ ?_ | refine LeO.bind ?_ (fun _ => ?_)) | exact ih0 _ _ _ _ _ | exact region_between.mono _ _ _ _ _ _ | exact text_Of.mono _ _ | exact LeO.refl _ | exact LeO.none _ | refine LeO.ite ?_ ?_ | refine LeO.bind ?_ (fun _ => ?_)
theorem region_Between.mono : ∀ a0 a1 a2 a3 k, LeO (region_Between.f k a0 a1 a2 a3) (region_Between.f (k + 1) a0 a1 a2 a3) := by
  intro a0 a1 a2 a3 k
  have ih0 := region_Between.mono_l k
  unfold region_Between.f
  repeat' first | (with_reducible first | exact ih0 _ _ _ _ _ | exact region_between.mono _ _ _ _ _ _ | exact text_Of.mono _ _ | exact LeO.refl _ | exact LeO.none _ | refine LeO.ite ?_ ?_ | refine LeO.bind ?_ (fun _ => ?_)) | exact ih0 _ _ _ _ _ | exact region_between.mono _ _ _ _ _ _ | exact text_Of.mono _ _ | exact LeO.refl _ | exact LeO.none _ | refine LeO.ite ?_ ?_ | refine LeO.bind ?_ (fun _ => ?_)
set_option maxHeartbeats 8000000 in
set_option maxRecDepth 100000 in
theorem region_Between.calls (k : Nat) (a0 : ByteArray) (a1 : Int) (a2 : Int) (a3 : Int) (r1 : Int) (r2 : Int) (r3 : Bool) (r4 : Int) (w : World) (hT : Tabs w) (h : region_Between.f k a0 a1 a2 a3 = some (r1, r2, r3, r4)) :
  Calls Tryd.prog 9 #[.string a0, .int .i64 a1, .int .i64 a2, .int .i64 a3] w fun e w' => e = .returned (.tuple #[.agg #[.int .i64 r1, .int .i64 r2, .bool r3], .int .i64 r4]) ∧ Below w.heap.size w w' := by
 have hu40 := Tryd.underlying40
 have HT := Aside0.mk hT
 clear hT
 have HB := Aside0.mk (Below.refl w.heap.size w)
 have H : ((text_May.f a0).bind fun t140 => (if t140 = true then (if a3 < 0 then (region_Between.j0 k a0 a1 a2 a3 true) else (region_Between.j0 k a0 a1 a2 a3 (decide (a3 > 2)))) else (region_Between.j0 k a0 a1 a2 a3 true))) = some (r1, r2, r3, r4) := h
 clear h
 have HC5 := Aside0.mk H
 clear H
 go_enter Tryd.func9, Tryd.ntmps9
 go_upto_region 1 with (first | ((with_reducible refine gate_dst (N := 8) rfl ?_); refine box_event ?hg (N := 8) ?hd (cs := #[.int .i64 0, .int .i64 0, .bool false]) (t := 40) ?hr ?_; (case hd => rfl); (case hg => rfl); (case hr => first | (go_simp; done) | (go_simp; rfl)); intro gb139 hg w6 hbox hb; have n0_ := Aside0.mk (below_step (by repeat with_reducible first | exact HB.out | apply pw_below_drewN | apply below_drew1 | apply below_alloc) hb); have n1_ := Aside0.mk (hbox); have n2_ := Aside0.mk (geb hg (by repeat with_reducible first | exact HB.out | apply pw_below_drewN | apply below_drew1 | apply below_alloc)); have n3_ := n2_; clear HB; have HB := n0_; have BK139 := n1_; have GW139 := n2_; have GE139 := n3_; clear n0_ n1_ n2_ n3_; clear hb hbox hg))
 (try simp only [Act.put, List.setIfInBounds_toArray, List.set_cons_zero, List.set_cons_succ])
 go_cut [21] (fun v21 wc => ∃ (kq : Nat) (x21_4 : Bool), v21 = .bool x21_4 ∧ Aside0 (region_Between.j0 kq a0 a1 a2 a3 x21_4 = some (r1, r2, r3, r4)) ∧ Aside0 (kq ≤ k) ∧ Aside0 (wc.heap[gb139]? = some (.cells #[.int .i64 0, .int .i64 0, .bool false] 40 (0, 0))) ∧ Aside0 (Below w.heap.size w wc))
 case first =>
  have H := HC5.out
  clear HC5
  replace H := Option.bind_eq_some_iff.mp H
  obtain ⟨t140, A70, H⟩ := H
  (try dsimp only at H)
  have A7 := Aside0.mk A70
  clear A70
  by_cases c8 : t140 = true
  rotate_left
  ·
   replace c8 := Bool.eq_false_iff.mpr c8
   subst c8
   have H1 : (region_Between.j0 k a0 a1 a2 a3 true) = some (r1, r2, r3, r4) := by rw [if_neg (show ¬ (false = true) by decide)] at H; exact H
   clear H
   have H := H1
   clear H1
   have H' := Aside0.mk H
   clear H
   go_wp2_with (first | ((with_reducible refine gate_callee (f := 27) rfl ?_); refine goesL_ (some 12) rfl rfl Tryd.func27 (by kernel_rfl) rfl #[.string a0] rfl (map1 rfl) ?_; (with_reducible refine (text_May.calls a0 false _ ?side1 A7.out).mono ?_); (case side1 => exact Tabs.below HT.out (by repeat with_reducible first | exact HB.out | apply pw_below_drewN | apply below_drew1 | apply below_alloc)); rintro e w12 ⟨rfl, hb⟩; refine ⟨_, rfl, ?_⟩; have n0_ := Aside0.mk (blb hb BK139.out); have n1_ := Aside0.mk (below_step (by repeat with_reducible first | exact HB.out | apply pw_below_drewN | apply below_drew1 | apply below_alloc) hb); clear BK139; clear HB; have BK139 := n0_; have HB := n1_; clear n0_ n1_; (try clear hb); (try clear hb2); (try clear hk); (try clear hi)))
   go_meet
   case rel => exact ⟨_, (true), (by first | rfl | (simp; done) | (simp [*]; done)), H', ⟨by first | omega | exact Nat.le_refl _⟩, ⟨BK139.out⟩, ⟨by repeat with_reducible first | exact HB.out | apply pw_below_drewN | apply below_drew1 | apply below_alloc⟩⟩
  subst c8
  have H1 : (if a3 < 0 then (region_Between.j0 k a0 a1 a2 a3 true) else (region_Between.j0 k a0 a1 a2 a3 (decide (a3 > 2)))) = some (r1, r2, r3, r4) := by rw [if_pos rfl] at H; exact H
  clear H
  have H := H1
  clear H1
  by_cases c9 : a3 < 0
  ·
   rw [if_pos c9] at H
   have c9b0 := decide_eq_true c9
   clear c9
   (first | rw [c9b0] | (simp only [i64_w, i32_w]; rw [c9b0]) | skip)
   have H' := Aside0.mk H
   clear H
   go_wp2_with (first | ((with_reducible refine gate_callee (f := 27) rfl ?_); refine goesL_ (some 12) rfl rfl Tryd.func27 (by kernel_rfl) rfl #[.string a0] rfl (map1 rfl) ?_; (with_reducible refine (text_May.calls a0 true _ ?side1 A7.out).mono ?_); (case side1 => exact Tabs.below HT.out (by repeat with_reducible first | exact HB.out | apply pw_below_drewN | apply below_drew1 | apply below_alloc)); rintro e w10 ⟨rfl, hb⟩; refine ⟨_, rfl, ?_⟩; have n0_ := Aside0.mk (blb hb BK139.out); have n1_ := Aside0.mk (below_step (by repeat with_reducible first | exact HB.out | apply pw_below_drewN | apply below_drew1 | apply below_alloc) hb); clear BK139; clear HB; have BK139 := n0_; have HB := n1_; clear n0_ n1_; (try clear hb); (try clear hb2); (try clear hk); (try clear hi)))
   go_meet
   case rel => exact ⟨_, (true), (by first | rfl | (simp; done) | (simp [*]; done)), H', ⟨by first | omega | exact Nat.le_refl _⟩, ⟨BK139.out⟩, ⟨by repeat with_reducible first | exact HB.out | apply pw_below_drewN | apply below_drew1 | apply below_alloc⟩⟩
  rw [if_neg c9] at H
  have c9b0 := decide_eq_false c9
  clear c9
  (first | rw [c9b0] | (simp only [i64_w, i32_w]; rw [c9b0]) | skip)
  have H' := Aside0.mk H
  clear H
  go_wp2_with (first | ((with_reducible refine gate_callee (f := 27) rfl ?_); refine goesL_ (some 12) rfl rfl Tryd.func27 (by kernel_rfl) rfl #[.string a0] rfl (map1 rfl) ?_; (with_reducible refine (text_May.calls a0 true _ ?side1 A7.out).mono ?_); (case side1 => exact Tabs.below HT.out (by repeat with_reducible first | exact HB.out | apply pw_below_drewN | apply below_drew1 | apply below_alloc)); rintro e w11 ⟨rfl, hb⟩; refine ⟨_, rfl, ?_⟩; have n0_ := Aside0.mk (blb hb BK139.out); have n1_ := Aside0.mk (below_step (by repeat with_reducible first | exact HB.out | apply pw_below_drewN | apply below_drew1 | apply below_alloc) hb); clear BK139; clear HB; have BK139 := n0_; have HB := n1_; clear n0_ n1_; (try clear hb); (try clear hb2); (try clear hk); (try clear hi)))
  go_meet
  case rel => exact ⟨_, (decide (a3 > 2)), (by first | rfl | (simp; done) | (simp [*]; done)), H', ⟨by first | omega | exact Nat.le_refl _⟩, ⟨BK139.out⟩, ⟨by repeat with_reducible first | exact HB.out | apply pw_below_drewN | apply below_drew1 | apply below_alloc⟩⟩
 case rest =>
  clear HC5
  obtain ⟨kq, x21_4, rfl, HA, HJ4, BK139, HB⟩ := hcut
  cases kq with
  | zero => exact absurd HA.out (by simp [region_Between.j0])
  | succ kj4 =>
   have H := HA.out
   clear HA
   simp only [region_Between.j0] at H
   by_cases c13 : x21_4 = true
   ·
    subst c13
    have H1 : (some (0, 0, false, 1)) = some (r1, r2, r3, r4) := by rw [if_pos rfl] at H; exact H
    clear H
    have H := H1
    clear H1
    simp only [Option.some.injEq, Prod.mk.injEq] at H
    obtain ⟨rfl, rfl, rfl, rfl⟩ := H
    have hcz14_0 := cz0 BK139.out
    have hcz14_1 := cz1 BK139.out
    have hcz14_2 := cz2 BK139.out
    have hfz14_0 := blk_frozen BK139.out 0
    have hfz14_1 := blk_frozen BK139.out 1
    have hfz14_2 := blk_frozen BK139.out 2
    go_wp2
    refine bodyPost_ret (results_ct rfl _ _ gb139 40 #[.int .i64 0, .int .i64 0, .bool false] (0, 0) _ rfl (by (with_reducible repeat (first | refine blk_drewN ?_ _ | refine blk_drew ?_ | refine blk_alloc ?_ _)); refine blk_put (cs := #[.int .i64 0, .int .i64 0, .bool false]) ?_ 2 _ rfl; (with_reducible repeat (first | refine blk_drewN ?_ _ | refine blk_drew ?_ | refine blk_alloc ?_ _)); refine blk_put (cs := #[.int .i64 0, .int .i64 0, .bool false]) ?_ 1 _ rfl; (with_reducible repeat (first | refine blk_drewN ?_ _ | refine blk_drew ?_ | refine blk_alloc ?_ _)); refine blk_put (cs := #[.int .i64 0, .int .i64 0, .bool false]) ?_ 0 _ rfl; (with_reducible repeat (first | refine blk_drewN ?_ _ | refine blk_drew ?_ | refine blk_alloc ?_ _)); exact BK139.out) Tryd.underlying40 rfl (by kernel_rfl)) rfl ?_
    exact ⟨by first | rfl | (simp [errW_none, errW_some] <;> rfl) | (simp [*, errW_none, errW_some] <;> rfl), by repeat with_reducible first | exact HB.out | apply pw_below_drewN | refine below_set ?_ GE139.out | apply below_drew1 | apply below_alloc⟩
   replace c13 := Bool.eq_false_iff.mpr c13
   subst c13
   have H1 : ((text_Of.f kj4 a0).bind fun bt141 => ((text_Map_Is.f bt141.1 bt141.2 a1).bind fun t148 => (if t148 = true then ((text_Map_Is.f bt141.1 bt141.2 a2).bind fun t149 => (if t149 = true then ((region_between.f kj4 bt141.1 bt141.2 a1 a2 a3).bind fun bt150 => (some (bt150.1, bt150.2.1, bt150.2.2, 0))) else (some (0, 0, false, 1)))) else (some (0, 0, false, 1))))) = some (r1, r2, r3, r4) := by rw [if_neg (show ¬ (false = true) by decide)] at H; exact H
   clear H
   have H := H1
   clear H1
   replace H := Option.bind_eq_some_iff.mp H
   obtain ⟨⟨t141, t144⟩, A150, H⟩ := H
   (try dsimp only at H)
   have A15 := Aside0.mk A150
   clear A150
   replace H := Option.bind_eq_some_iff.mp H
   obtain ⟨t148, A160, H⟩ := H
   (try dsimp only at H)
   have A16 := Aside0.mk A160
   clear A160
   by_cases c17 : t148 = true
   rotate_left
   ·
    replace c17 := Bool.eq_false_iff.mpr c17
    subst c17
    have H1 : (some (0, 0, false, 1)) = some (r1, r2, r3, r4) := by rw [if_neg (show ¬ (false = true) by decide)] at H; exact H
    clear H
    have H := H1
    clear H1
    simp only [Option.some.injEq, Prod.mk.injEq] at H
    obtain ⟨rfl, rfl, rfl, rfl⟩ := H
    go_wp2_with (first | ((with_reducible refine gate_callee (f := 28) rfl ?_); refine goesL_ (some 24) rfl rfl Tryd.func28 (by kernel_rfl) rfl #[.string a0] rfl (map1 rfl) ?_; (with_reducible refine (text_Of.calls kj4 a0 t141 t144 _ A15.out).mono ?_); rintro e w32 ⟨v142, v145, gb147, rfl, ho0, ho1, ⟨hx147_, hz147_⟩, hb⟩; refine ⟨_, rfl, ?_⟩; have n0_ := Aside0.mk (Kd.R_lower ho0 (below_size (by repeat with_reducible first | exact HB.out | apply pw_below_drewN | apply below_drew1 | apply below_alloc))); have n1_ := Aside0.mk (Kd.R_lower ho1 (below_size (by repeat with_reducible first | exact HB.out | apply pw_below_drewN | apply below_drew1 | apply below_alloc))); have n2_ := Aside0.mk (blb hb BK139.out); have n3_ := Aside0.mk (hx147_); have n4_ := Aside0.mk ((Nat.le_trans (below_size (by repeat with_reducible first | exact HB.out | apply pw_below_drewN | apply below_drew1 | apply below_alloc)) hz147_ : w.heap.size ≤ gb147)); have n5_ := Aside0.mk ((Nat.le_trans (below_size (by repeat with_reducible first | exact HB.out | apply pw_below_drewN | apply below_drew1 | apply below_alloc)) hz147_ : w.heap.size ≤ gb147)); have n6_ := Aside0.mk ((Nat.ne_of_lt (Nat.lt_of_lt_of_le (blk_lt (g := gb139) (o := .cells #[.int .i64 0, .int .i64 0, .bool false] 40 (0, 0)) (by exact BK139.out)) hz147_) : gb139 ≠ gb147)); have n7_ := Aside0.mk ((Nat.ne_of_gt (Nat.lt_of_lt_of_le (blk_lt (g := gb139) (o := .cells #[.int .i64 0, .int .i64 0, .bool false] 40 (0, 0)) (by exact BK139.out)) hz147_) : gb147 ≠ gb139)); have n8_ := Aside0.mk (below_step (by repeat with_reducible first | exact HB.out | apply pw_below_drewN | apply below_drew1 | apply below_alloc) hb); clear BK139; clear HB; have HO143 := n0_; have HO146 := n1_; have BK139 := n2_; have BK147 := n3_; have GW147 := n4_; have GE147 := n5_; have NB139_147 := n6_; have NB147_139 := n7_; have HB := n8_; clear n0_ n1_ n2_ n3_ n4_ n5_ n6_ n7_ n8_; (try clear hb); (try clear hb2); (try clear hk); (try clear hi); (try clear ho0); (try clear ho1); (try clear hx147_ hz147_); obtain ⟨Ao33, co33, eo33⟩ := Kd.R_slice HO143.out; subst eo33; obtain ⟨Ao34, co34, eo34⟩ := Kd.R_slice HO146.out; subst eo34) | ((with_reducible refine gate_callee (f := 29) rfl ?_); refine goesL_ (some 27) rfl rfl Tryd.func29 (by kernel_rfl) rfl #[.pointer (some ⟨gb147, 0, none⟩), .int .i64 a1] rfl (map2 rfl rfl) ?_; (with_reducible refine (text_Map_Is.calls gb147 Ao33 co33 t141 Ao34 co34 t144 a1 false _ ?side1 ?side2 ?side3 ?side4 ?side5 A16.out).mono ?_); (case side1 => exact BK147.out); (case side2 => repeat (first | exact (Kd.R_reads' HO143.out).2.2 | with_reducible first | refine Kd.C_drewN ?_ _ | refine Kd.C_drew ?_ | refine Kd.C_alloc ?_ _)); (case side3 => exact (Kd.R_reads' HO143.out).2.1); (case side4 => repeat (first | exact (Kd.R_reads' HO146.out).2.2 | with_reducible first | refine Kd.C_drewN ?_ _ | refine Kd.C_drew ?_ | refine Kd.C_alloc ?_ _)); (case side5 => exact (Kd.R_reads' HO146.out).2.1); rintro e w' ⟨rfl, ⟨nd, rfl⟩⟩; refine ⟨_, rfl, ?_⟩; (try (rw [drewN_self w32]; generalize hq_ : World.drewN w32 _ = w32; have n0_ : Aside0 (Kd.R (Kd.int .i32) 21 w32 w.heap.size (fun _ => True) (.slice Ao33 t141.length co33) t141) := ⟨by rw [← hq_]; exact (by (with_reducible repeat (first | apply Kd.R_alloc | apply Kd.R_drewN | apply Kd.R_drew)); exact HO143.out)⟩; have n1_ : Aside0 (Kd.R (Kd.int .i64) 3 w32 w.heap.size (fun _ => True) (.slice Ao34 t144.length co34) t144) := ⟨by rw [← hq_]; exact (by (with_reducible repeat (first | apply Kd.R_alloc | apply Kd.R_drewN | apply Kd.R_drew)); exact HO146.out)⟩; have n2_ : Aside0 (w32.heap[gb139]? = some (.cells #[.int .i64 0, .int .i64 0, .bool false] 40 (0, 0))) := ⟨by rw [← hq_]; exact (by exact BK139.out)⟩; have n3_ : Aside0 (w32.heap[gb147]? = some (.cells #[.slice Ao33 t141.length co33, .slice Ao34 t144.length co34] 79 (0, 0))) := ⟨by rw [← hq_]; exact (by exact BK147.out)⟩; have n4_ : Aside0 (Below w.heap.size w w32) := ⟨by rw [← hq_]; exact (by repeat with_reducible first | exact HB.out | apply pw_below_drewN | apply below_drew1 | apply below_alloc)⟩; clear HO143 HO146 BK139 BK147 HB hq_; have HO143 := n0_; have HO146 := n1_; have BK139 := n2_; have BK147 := n3_; have HB := n4_; clear n0_ n1_ n2_ n3_ n4_)); have hnb35 := NB139_147.out; have hnc35 := NB147_139.out; have hcz36_0 := cz0 BK139.out; have hcz36_1 := cz1 BK139.out; have hcz36_2 := cz2 BK139.out; have hfz36_0 := blk_frozen BK139.out 0; have hfz36_1 := blk_frozen BK139.out 1; have hfz36_2 := blk_frozen BK139.out 2))
    refine bodyPost_ret (results_ct rfl _ _ gb139 40 #[.int .i64 0, .int .i64 0, .bool false] (0, 0) _ rfl (by (with_reducible repeat (first | refine blk_drewN ?_ _ | refine blk_drew ?_ | refine blk_alloc ?_ _)); refine blk_put (cs := #[.int .i64 0, .int .i64 0, .bool false]) ?_ 2 _ rfl; (with_reducible repeat (first | refine blk_drewN ?_ _ | refine blk_drew ?_ | refine blk_alloc ?_ _)); refine blk_put (cs := #[.int .i64 0, .int .i64 0, .bool false]) ?_ 1 _ rfl; (with_reducible repeat (first | refine blk_drewN ?_ _ | refine blk_drew ?_ | refine blk_alloc ?_ _)); refine blk_put (cs := #[.int .i64 0, .int .i64 0, .bool false]) ?_ 0 _ rfl; (with_reducible repeat (first | refine blk_drewN ?_ _ | refine blk_drew ?_ | refine blk_alloc ?_ _)); exact BK139.out) Tryd.underlying40 rfl (by kernel_rfl)) rfl ?_
    exact ⟨by first | rfl | (simp [errW_none, errW_some] <;> rfl) | (simp [*, errW_none, errW_some] <;> rfl), by repeat with_reducible first | exact HB.out | apply pw_below_drewN | refine below_set ?_ GE139.out | apply below_drew1 | apply below_alloc⟩
   subst c17
   have H1 : ((text_Map_Is.f t141 t144 a2).bind fun t149 => (if t149 = true then ((region_between.f kj4 t141 t144 a1 a2 a3).bind fun bt150 => (some (bt150.1, bt150.2.1, bt150.2.2, 0))) else (some (0, 0, false, 1)))) = some (r1, r2, r3, r4) := by rw [if_pos rfl] at H; exact H
   clear H
   have H := H1
   clear H1
   replace H := Option.bind_eq_some_iff.mp H
   obtain ⟨t149, A180, H⟩ := H
   (try dsimp only at H)
   have A18 := Aside0.mk A180
   clear A180
   by_cases c19 : t149 = true
   rotate_left
   ·
    replace c19 := Bool.eq_false_iff.mpr c19
    subst c19
    have H1 : (some (0, 0, false, 1)) = some (r1, r2, r3, r4) := by rw [if_neg (show ¬ (false = true) by decide)] at H; exact H
    clear H
    have H := H1
    clear H1
    simp only [Option.some.injEq, Prod.mk.injEq] at H
    obtain ⟨rfl, rfl, rfl, rfl⟩ := H
    go_wp2_with (first | ((with_reducible refine gate_callee (f := 28) rfl ?_); refine goesL_ (some 24) rfl rfl Tryd.func28 (by kernel_rfl) rfl #[.string a0] rfl (map1 rfl) ?_; (with_reducible refine (text_Of.calls kj4 a0 t141 t144 _ A15.out).mono ?_); rintro e w27 ⟨v142, v145, gb147, rfl, ho0, ho1, ⟨hx147_, hz147_⟩, hb⟩; refine ⟨_, rfl, ?_⟩; have n0_ := Aside0.mk (Kd.R_lower ho0 (below_size (by repeat with_reducible first | exact HB.out | apply pw_below_drewN | apply below_drew1 | apply below_alloc))); have n1_ := Aside0.mk (Kd.R_lower ho1 (below_size (by repeat with_reducible first | exact HB.out | apply pw_below_drewN | apply below_drew1 | apply below_alloc))); have n2_ := Aside0.mk (blb hb BK139.out); have n3_ := Aside0.mk (hx147_); have n4_ := Aside0.mk ((Nat.le_trans (below_size (by repeat with_reducible first | exact HB.out | apply pw_below_drewN | apply below_drew1 | apply below_alloc)) hz147_ : w.heap.size ≤ gb147)); have n5_ := Aside0.mk ((Nat.le_trans (below_size (by repeat with_reducible first | exact HB.out | apply pw_below_drewN | apply below_drew1 | apply below_alloc)) hz147_ : w.heap.size ≤ gb147)); have n6_ := Aside0.mk ((Nat.ne_of_lt (Nat.lt_of_lt_of_le (blk_lt (g := gb139) (o := .cells #[.int .i64 0, .int .i64 0, .bool false] 40 (0, 0)) (by exact BK139.out)) hz147_) : gb139 ≠ gb147)); have n7_ := Aside0.mk ((Nat.ne_of_gt (Nat.lt_of_lt_of_le (blk_lt (g := gb139) (o := .cells #[.int .i64 0, .int .i64 0, .bool false] 40 (0, 0)) (by exact BK139.out)) hz147_) : gb147 ≠ gb139)); have n8_ := Aside0.mk (below_step (by repeat with_reducible first | exact HB.out | apply pw_below_drewN | apply below_drew1 | apply below_alloc) hb); clear BK139; clear HB; have HO143 := n0_; have HO146 := n1_; have BK139 := n2_; have BK147 := n3_; have GW147 := n4_; have GE147 := n5_; have NB139_147 := n6_; have NB147_139 := n7_; have HB := n8_; clear n0_ n1_ n2_ n3_ n4_ n5_ n6_ n7_ n8_; (try clear hb); (try clear hb2); (try clear hk); (try clear hi); (try clear ho0); (try clear ho1); (try clear hx147_ hz147_); obtain ⟨Ao28, co28, eo28⟩ := Kd.R_slice HO143.out; subst eo28; obtain ⟨Ao29, co29, eo29⟩ := Kd.R_slice HO146.out; subst eo29) | ((with_reducible refine gate_callee (f := 29) rfl ?_); refine goesL_ (some 27) rfl rfl Tryd.func29 (by kernel_rfl) rfl #[.pointer (some ⟨gb147, 0, none⟩), .int .i64 a1] rfl (map2 rfl rfl) ?_; (with_reducible refine (text_Map_Is.calls gb147 Ao28 co28 t141 Ao29 co29 t144 a1 true _ ?side1 ?side2 ?side3 ?side4 ?side5 A16.out).mono ?_); (case side1 => exact BK147.out); (case side2 => repeat (first | exact (Kd.R_reads' HO143.out).2.2 | with_reducible first | refine Kd.C_drewN ?_ _ | refine Kd.C_drew ?_ | refine Kd.C_alloc ?_ _)); (case side3 => exact (Kd.R_reads' HO143.out).2.1); (case side4 => repeat (first | exact (Kd.R_reads' HO146.out).2.2 | with_reducible first | refine Kd.C_drewN ?_ _ | refine Kd.C_drew ?_ | refine Kd.C_alloc ?_ _)); (case side5 => exact (Kd.R_reads' HO146.out).2.1); rintro e w' ⟨rfl, ⟨nd, rfl⟩⟩; refine ⟨_, rfl, ?_⟩; (try (rw [drewN_self w27]; generalize hq_ : World.drewN w27 _ = w27; have n0_ : Aside0 (Kd.R (Kd.int .i32) 21 w27 w.heap.size (fun _ => True) (.slice Ao28 t141.length co28) t141) := ⟨by rw [← hq_]; exact (by (with_reducible repeat (first | apply Kd.R_alloc | apply Kd.R_drewN | apply Kd.R_drew)); exact HO143.out)⟩; have n1_ : Aside0 (Kd.R (Kd.int .i64) 3 w27 w.heap.size (fun _ => True) (.slice Ao29 t144.length co29) t144) := ⟨by rw [← hq_]; exact (by (with_reducible repeat (first | apply Kd.R_alloc | apply Kd.R_drewN | apply Kd.R_drew)); exact HO146.out)⟩; have n2_ : Aside0 (w27.heap[gb139]? = some (.cells #[.int .i64 0, .int .i64 0, .bool false] 40 (0, 0))) := ⟨by rw [← hq_]; exact (by exact BK139.out)⟩; have n3_ : Aside0 (w27.heap[gb147]? = some (.cells #[.slice Ao28 t141.length co28, .slice Ao29 t144.length co29] 79 (0, 0))) := ⟨by rw [← hq_]; exact (by exact BK147.out)⟩; have n4_ : Aside0 (Below w.heap.size w w27) := ⟨by rw [← hq_]; exact (by repeat with_reducible first | exact HB.out | apply pw_below_drewN | apply below_drew1 | apply below_alloc)⟩; clear HO143 HO146 BK139 BK147 HB hq_; have HO143 := n0_; have HO146 := n1_; have BK139 := n2_; have BK147 := n3_; have HB := n4_; clear n0_ n1_ n2_ n3_ n4_))) | (go_at_call 29; (with_reducible refine (text_Map_Is.calls gb147 Ao28 co28 t141 Ao29 co29 t144 a2 false _ ?side1 ?side2 ?side3 ?side4 ?side5 A18.out).mono ?_); (case side1 => exact BK147.out); (case side2 => repeat (first | exact (Kd.R_reads' HO143.out).2.2 | with_reducible first | refine Kd.C_drewN ?_ _ | refine Kd.C_drew ?_ | refine Kd.C_alloc ?_ _)); (case side3 => exact (Kd.R_reads' HO143.out).2.1); (case side4 => repeat (first | exact (Kd.R_reads' HO146.out).2.2 | with_reducible first | refine Kd.C_drewN ?_ _ | refine Kd.C_drew ?_ | refine Kd.C_alloc ?_ _)); (case side5 => exact (Kd.R_reads' HO146.out).2.1); rintro e w' ⟨rfl, ⟨nd, rfl⟩⟩; (try (rw [drewN_self w27]; generalize hq_ : World.drewN w27 _ = w27; have n0_ : Aside0 (Kd.R (Kd.int .i32) 21 w27 w.heap.size (fun _ => True) (.slice Ao28 t141.length co28) t141) := ⟨by rw [← hq_]; exact (by (with_reducible repeat (first | apply Kd.R_alloc | apply Kd.R_drewN | apply Kd.R_drew)); exact HO143.out)⟩; have n1_ : Aside0 (Kd.R (Kd.int .i64) 3 w27 w.heap.size (fun _ => True) (.slice Ao29 t144.length co29) t144) := ⟨by rw [← hq_]; exact (by (with_reducible repeat (first | apply Kd.R_alloc | apply Kd.R_drewN | apply Kd.R_drew)); exact HO146.out)⟩; have n2_ : Aside0 (w27.heap[gb139]? = some (.cells #[.int .i64 0, .int .i64 0, .bool false] 40 (0, 0))) := ⟨by rw [← hq_]; exact (by exact BK139.out)⟩; have n3_ : Aside0 (w27.heap[gb147]? = some (.cells #[.slice Ao28 t141.length co28, .slice Ao29 t144.length co29] 79 (0, 0))) := ⟨by rw [← hq_]; exact (by exact BK147.out)⟩; have n4_ : Aside0 (Below w.heap.size w w27) := ⟨by rw [← hq_]; exact (by repeat with_reducible first | exact HB.out | apply pw_below_drewN | apply below_drew1 | apply below_alloc)⟩; clear HO143 HO146 BK139 BK147 HB hq_; have HO143 := n0_; have HO146 := n1_; have BK139 := n2_; have BK147 := n3_; have HB := n4_; clear n0_ n1_ n2_ n3_ n4_)); have hnb30 := NB139_147.out; have hnc30 := NB147_139.out; have hcz31_0 := cz0 BK139.out; have hcz31_1 := cz1 BK139.out; have hcz31_2 := cz2 BK139.out; have hfz31_0 := blk_frozen BK139.out 0; have hfz31_1 := blk_frozen BK139.out 1; have hfz31_2 := blk_frozen BK139.out 2))
    refine bodyPost_ret (results_ct rfl _ _ gb139 40 #[.int .i64 0, .int .i64 0, .bool false] (0, 0) _ rfl (by (with_reducible repeat (first | refine blk_drewN ?_ _ | refine blk_drew ?_ | refine blk_alloc ?_ _)); refine blk_put (cs := #[.int .i64 0, .int .i64 0, .bool false]) ?_ 2 _ rfl; (with_reducible repeat (first | refine blk_drewN ?_ _ | refine blk_drew ?_ | refine blk_alloc ?_ _)); refine blk_put (cs := #[.int .i64 0, .int .i64 0, .bool false]) ?_ 1 _ rfl; (with_reducible repeat (first | refine blk_drewN ?_ _ | refine blk_drew ?_ | refine blk_alloc ?_ _)); refine blk_put (cs := #[.int .i64 0, .int .i64 0, .bool false]) ?_ 0 _ rfl; (with_reducible repeat (first | refine blk_drewN ?_ _ | refine blk_drew ?_ | refine blk_alloc ?_ _)); exact BK139.out) Tryd.underlying40 rfl (by kernel_rfl)) rfl ?_
    exact ⟨by first | rfl | (simp [errW_none, errW_some] <;> rfl) | (simp [*, errW_none, errW_some] <;> rfl), by repeat with_reducible first | exact HB.out | apply pw_below_drewN | refine below_set ?_ GE139.out | apply below_drew1 | apply below_alloc⟩
   subst c19
   have H1 : ((region_between.f kj4 t141 t144 a1 a2 a3).bind fun bt150 => (some (bt150.1, bt150.2.1, bt150.2.2, 0))) = some (r1, r2, r3, r4) := by rw [if_pos rfl] at H; exact H
   clear H
   have H := H1
   clear H1
   replace H := Option.bind_eq_some_iff.mp H
   obtain ⟨⟨t150, t151, t152⟩, A200, H⟩ := H
   (try dsimp only at H)
   have A20 := Aside0.mk A200
   clear A200
   simp only [Option.some.injEq, Prod.mk.injEq] at H
   obtain ⟨rfl, rfl, rfl, rfl⟩ := H
   go_wp2_with (first | ((with_reducible refine gate_callee (f := 28) rfl ?_); refine goesL_ (some 24) rfl rfl Tryd.func28 (by kernel_rfl) rfl #[.string a0] rfl (map1 rfl) ?_; (with_reducible refine (text_Of.calls kj4 a0 t141 t144 _ A15.out).mono ?_); rintro e w21 ⟨v142, v145, gb147, rfl, ho0, ho1, ⟨hx147_, hz147_⟩, hb⟩; refine ⟨_, rfl, ?_⟩; have n0_ := Aside0.mk (Kd.R_lower ho0 (below_size (by repeat with_reducible first | exact HB.out | apply pw_below_drewN | apply below_drew1 | apply below_alloc))); have n1_ := Aside0.mk (Kd.R_lower ho1 (below_size (by repeat with_reducible first | exact HB.out | apply pw_below_drewN | apply below_drew1 | apply below_alloc))); have n2_ := Aside0.mk (blb hb BK139.out); have n3_ := Aside0.mk (hx147_); have n4_ := Aside0.mk ((Nat.le_trans (below_size (by repeat with_reducible first | exact HB.out | apply pw_below_drewN | apply below_drew1 | apply below_alloc)) hz147_ : w.heap.size ≤ gb147)); have n5_ := Aside0.mk ((Nat.le_trans (below_size (by repeat with_reducible first | exact HB.out | apply pw_below_drewN | apply below_drew1 | apply below_alloc)) hz147_ : w.heap.size ≤ gb147)); have n6_ := Aside0.mk ((Nat.ne_of_lt (Nat.lt_of_lt_of_le (blk_lt (g := gb139) (o := .cells #[.int .i64 0, .int .i64 0, .bool false] 40 (0, 0)) (by exact BK139.out)) hz147_) : gb139 ≠ gb147)); have n7_ := Aside0.mk ((Nat.ne_of_gt (Nat.lt_of_lt_of_le (blk_lt (g := gb139) (o := .cells #[.int .i64 0, .int .i64 0, .bool false] 40 (0, 0)) (by exact BK139.out)) hz147_) : gb147 ≠ gb139)); have n8_ := Aside0.mk (below_step (by repeat with_reducible first | exact HB.out | apply pw_below_drewN | apply below_drew1 | apply below_alloc) hb); clear BK139; clear HB; have HO143 := n0_; have HO146 := n1_; have BK139 := n2_; have BK147 := n3_; have GW147 := n4_; have GE147 := n5_; have NB139_147 := n6_; have NB147_139 := n7_; have HB := n8_; clear n0_ n1_ n2_ n3_ n4_ n5_ n6_ n7_ n8_; (try clear hb); (try clear hb2); (try clear hk); (try clear hi); (try clear ho0); (try clear ho1); (try clear hx147_ hz147_); obtain ⟨Ao22, co22, eo22⟩ := Kd.R_slice HO143.out; subst eo22; obtain ⟨Ao23, co23, eo23⟩ := Kd.R_slice HO146.out; subst eo23) | ((with_reducible refine gate_callee (f := 29) rfl ?_); refine goesL_ (some 27) rfl rfl Tryd.func29 (by kernel_rfl) rfl #[.pointer (some ⟨gb147, 0, none⟩), .int .i64 a1] rfl (map2 rfl rfl) ?_; (with_reducible refine (text_Map_Is.calls gb147 Ao22 co22 t141 Ao23 co23 t144 a1 true _ ?side1 ?side2 ?side3 ?side4 ?side5 A16.out).mono ?_); (case side1 => exact BK147.out); (case side2 => repeat (first | exact (Kd.R_reads' HO143.out).2.2 | with_reducible first | refine Kd.C_drewN ?_ _ | refine Kd.C_drew ?_ | refine Kd.C_alloc ?_ _)); (case side3 => exact (Kd.R_reads' HO143.out).2.1); (case side4 => repeat (first | exact (Kd.R_reads' HO146.out).2.2 | with_reducible first | refine Kd.C_drewN ?_ _ | refine Kd.C_drew ?_ | refine Kd.C_alloc ?_ _)); (case side5 => exact (Kd.R_reads' HO146.out).2.1); rintro e w' ⟨rfl, ⟨nd, rfl⟩⟩; refine ⟨_, rfl, ?_⟩; (try (rw [drewN_self w21]; generalize hq_ : World.drewN w21 _ = w21; have n0_ : Aside0 (Kd.R (Kd.int .i32) 21 w21 w.heap.size (fun _ => True) (.slice Ao22 t141.length co22) t141) := ⟨by rw [← hq_]; exact (by (with_reducible repeat (first | apply Kd.R_alloc | apply Kd.R_drewN | apply Kd.R_drew)); exact HO143.out)⟩; have n1_ : Aside0 (Kd.R (Kd.int .i64) 3 w21 w.heap.size (fun _ => True) (.slice Ao23 t144.length co23) t144) := ⟨by rw [← hq_]; exact (by (with_reducible repeat (first | apply Kd.R_alloc | apply Kd.R_drewN | apply Kd.R_drew)); exact HO146.out)⟩; have n2_ : Aside0 (w21.heap[gb139]? = some (.cells #[.int .i64 0, .int .i64 0, .bool false] 40 (0, 0))) := ⟨by rw [← hq_]; exact (by exact BK139.out)⟩; have n3_ : Aside0 (w21.heap[gb147]? = some (.cells #[.slice Ao22 t141.length co22, .slice Ao23 t144.length co23] 79 (0, 0))) := ⟨by rw [← hq_]; exact (by exact BK147.out)⟩; have n4_ : Aside0 (Below w.heap.size w w21) := ⟨by rw [← hq_]; exact (by repeat with_reducible first | exact HB.out | apply pw_below_drewN | apply below_drew1 | apply below_alloc)⟩; clear HO143 HO146 BK139 BK147 HB hq_; have HO143 := n0_; have HO146 := n1_; have BK139 := n2_; have BK147 := n3_; have HB := n4_; clear n0_ n1_ n2_ n3_ n4_))) | (go_at_call 29; (with_reducible refine (text_Map_Is.calls gb147 Ao22 co22 t141 Ao23 co23 t144 a2 true _ ?side1 ?side2 ?side3 ?side4 ?side5 A18.out).mono ?_); (case side1 => exact BK147.out); (case side2 => repeat (first | exact (Kd.R_reads' HO143.out).2.2 | with_reducible first | refine Kd.C_drewN ?_ _ | refine Kd.C_drew ?_ | refine Kd.C_alloc ?_ _)); (case side3 => exact (Kd.R_reads' HO143.out).2.1); (case side4 => repeat (first | exact (Kd.R_reads' HO146.out).2.2 | with_reducible first | refine Kd.C_drewN ?_ _ | refine Kd.C_drew ?_ | refine Kd.C_alloc ?_ _)); (case side5 => exact (Kd.R_reads' HO146.out).2.1); rintro e w' ⟨rfl, ⟨nd, rfl⟩⟩; (try (rw [drewN_self w21]; generalize hq_ : World.drewN w21 _ = w21; have n0_ : Aside0 (Kd.R (Kd.int .i32) 21 w21 w.heap.size (fun _ => True) (.slice Ao22 t141.length co22) t141) := ⟨by rw [← hq_]; exact (by (with_reducible repeat (first | apply Kd.R_alloc | apply Kd.R_drewN | apply Kd.R_drew)); exact HO143.out)⟩; have n1_ : Aside0 (Kd.R (Kd.int .i64) 3 w21 w.heap.size (fun _ => True) (.slice Ao23 t144.length co23) t144) := ⟨by rw [← hq_]; exact (by (with_reducible repeat (first | apply Kd.R_alloc | apply Kd.R_drewN | apply Kd.R_drew)); exact HO146.out)⟩; have n2_ : Aside0 (w21.heap[gb139]? = some (.cells #[.int .i64 0, .int .i64 0, .bool false] 40 (0, 0))) := ⟨by rw [← hq_]; exact (by exact BK139.out)⟩; have n3_ : Aside0 (w21.heap[gb147]? = some (.cells #[.slice Ao22 t141.length co22, .slice Ao23 t144.length co23] 79 (0, 0))) := ⟨by rw [← hq_]; exact (by exact BK147.out)⟩; have n4_ : Aside0 (Below w.heap.size w w21) := ⟨by rw [← hq_]; exact (by repeat with_reducible first | exact HB.out | apply pw_below_drewN | apply below_drew1 | apply below_alloc)⟩; clear HO143 HO146 BK139 BK147 HB hq_; have HO143 := n0_; have HO146 := n1_; have BK139 := n2_; have BK147 := n3_; have HB := n4_; clear n0_ n1_ n2_ n3_ n4_))) | ((with_reducible refine gate_callee (f := 30) rfl ?_); refine goesL_ (some 40) rfl rfl Tryd.func30 (by kernel_rfl) rfl #[.pointer (some ⟨gb147, 0, none⟩), .int .i64 a1, .int .i64 a2, .int .i64 a3] rfl (map4 rfl rfl rfl rfl) ?_; (with_reducible refine (region_between.calls kj4 gb147 Ao22 co22 t141 Ao23 co23 t144 a1 a2 a3 t150 t151 t152 _ ?side1 ?side2 ?side3 ?side4 ?side5 A20.out).mono ?_); (case side1 => exact BK147.out); (case side2 => repeat (first | exact (Kd.R_reads' HO143.out).2.2 | with_reducible first | refine Kd.C_drewN ?_ _ | refine Kd.C_drew ?_ | refine Kd.C_alloc ?_ _)); (case side3 => exact (Kd.R_reads' HO143.out).2.1); (case side4 => repeat (first | exact (Kd.R_reads' HO146.out).2.2 | with_reducible first | refine Kd.C_drewN ?_ _ | refine Kd.C_drew ?_ | refine Kd.C_alloc ?_ _)); (case side5 => exact (Kd.R_reads' HO146.out).2.1); rintro e w24 ⟨rfl, hb⟩; refine ⟨_, rfl, ?_⟩; have n0_ := Aside0.mk (Kd.R_below (by (with_reducible repeat (first | apply Kd.R_alloc | apply Kd.R_drewN | apply Kd.R_drew)); exact HO143.out) hb); have n1_ := Aside0.mk (Kd.R_below (by (with_reducible repeat (first | apply Kd.R_alloc | apply Kd.R_drewN | apply Kd.R_drew)); exact HO146.out) hb); have n2_ := Aside0.mk (blb hb BK139.out); have n3_ := Aside0.mk (blb hb BK147.out); have n4_ := Aside0.mk (below_step (by repeat with_reducible first | exact HB.out | apply pw_below_drewN | apply below_drew1 | apply below_alloc) hb); clear HO143; clear HO146; clear BK139; clear BK147; clear HB; have HO143 := n0_; have HO146 := n1_; have BK139 := n2_; have BK147 := n3_; have HB := n4_; clear n0_ n1_ n2_ n3_ n4_; (try clear hb); (try clear hb2); (try clear hk); (try clear hi); have hnb25 := NB139_147.out; have hnc25 := NB147_139.out; have hcz26_0 := cz0 BK139.out; have hcz26_1 := cz1 BK139.out; have hcz26_2 := cz2 BK139.out; have hfz26_0 := blk_frozen BK139.out 0; have hfz26_1 := blk_frozen BK139.out 1; have hfz26_2 := blk_frozen BK139.out 2))
   refine bodyPost_ret (results_ct rfl _ _ gb139 40 #[.int .i64 t150, .int .i64 t151, .bool t152] (0, 0) _ rfl (by (with_reducible repeat (first | refine blk_drewN ?_ _ | refine blk_drew ?_ | refine blk_alloc ?_ _)); refine blk_put (cs := #[.int .i64 t150, .int .i64 t151, .bool false]) ?_ 2 _ rfl; (with_reducible repeat (first | refine blk_drewN ?_ _ | refine blk_drew ?_ | refine blk_alloc ?_ _)); refine blk_put (cs := #[.int .i64 t150, .int .i64 0, .bool false]) ?_ 1 _ rfl; (with_reducible repeat (first | refine blk_drewN ?_ _ | refine blk_drew ?_ | refine blk_alloc ?_ _)); refine blk_put (cs := #[.int .i64 0, .int .i64 0, .bool false]) ?_ 0 _ rfl; (with_reducible repeat (first | refine blk_drewN ?_ _ | refine blk_drew ?_ | refine blk_alloc ?_ _)); exact BK139.out) Tryd.underlying40 rfl (by kernel_rfl)) rfl ?_
   exact ⟨by first | rfl | (simp [errW_none, errW_some] <;> rfl) | (simp [*, errW_none, errW_some] <;> rfl), by repeat with_reducible first | exact HB.out | apply pw_below_drewN | refine below_set ?_ GE139.out | apply below_drew1 | apply below_alloc⟩

/-! ### quillref1_May: function 10 -/
mutual
def quillref1_May.j0 : Nat → ByteArray → Bool → Option (Bool)
  | 0, _, _ => none
  | k + 1, x0, x11 => if x11 = true then (some false) else (quillref1_May.l0 k x0 0)
def quillref1_May.l0 : Nat → ByteArray → Int → Option (Bool)
  | 0, _, _ => none
  | k + 1, x0, x3 => if x3 < (x0.size : Int) then (if 0 ≤ x3 then (if (bt x0 x3) = 0 then (some false) else (quillref1_May.l0 k x0 (wrap64 (x3 + 1)))) else (none)) else (some true)
end
def quillref1_May.f (k : Nat) (a0 : ByteArray) : Option (Bool) := if (a0.size : Int) > 4000 then (quillref1_May.j0 k a0 true) else ((utf8_ValidString.f a0).bind fun t153 => (quillref1_May.j0 k a0 (!t153)))
theorem quillref1_May.mono_l : ∀ k, (∀ y0 y1, LeO (quillref1_May.j0 k y0 y1) (quillref1_May.j0 (k + 1) y0 y1)) ∧ (∀ y0 y1, LeO (quillref1_May.l0 k y0 y1) (quillref1_May.l0 (k + 1) y0 y1))
  | 0 => ⟨fun _ _ r h => by simp [quillref1_May.j0] at h, fun _ _ r h => by simp [quillref1_May.l0] at h⟩
  | k + 1 => by
    obtain ⟨ih0, ih1⟩ := quillref1_May.mono_l k
    refine ⟨?_, ?_⟩
    all_goals intros
    all_goals first | unfold quillref1_May.j0 | unfold quillref1_May.l0
    all_goals repeat' first | (with_reducible first | exact ih0 _ _ | exact ih1 _ _ | exact LeO.refl _ | exact LeO.none _ | refine LeO.ite ?_ ?_ | refine LeO.bind ?_ (fun _ => ?_)) | exact ih0 _ _ | exact ih1 _ _ | exact LeO.refl _ | exact LeO.none _ | refine LeO.ite ?_ ?_ | refine LeO.bind ?_ (fun _ => ?_)
theorem quillref1_May.mono : ∀ a0 k, LeO (quillref1_May.f k a0) (quillref1_May.f (k + 1) a0) := by
  intro a0 k
  obtain ⟨ih0, ih1⟩ := quillref1_May.mono_l k
  unfold quillref1_May.f
  repeat' first | (with_reducible first | exact ih0 _ _ | exact ih1 _ _ | exact LeO.refl _ | exact LeO.none _ | refine LeO.ite ?_ ?_ | refine LeO.bind ?_ (fun _ => ?_)) | exact ih0 _ _ | exact ih1 _ _ | exact LeO.refl _ | exact LeO.none _ | refine LeO.ite ?_ ?_ | refine LeO.bind ?_ (fun _ => ?_)
set_option maxHeartbeats 8000000 in
set_option maxRecDepth 100000 in
theorem quillref1_May.calls (k : Nat) (a0 : ByteArray) (r : Bool) (w : World) (hT : Tabs w) (h : quillref1_May.f k a0 = some r) :
  Calls Tryd.prog 10 #[.string a0] w fun e w' => e = .returned (.bool r) ∧ Below w.heap.size w w' := by
 have HT := Aside0.mk hT
 clear hT
 have HB := Aside0.mk (Below.refl w.heap.size w)
 have H : (if (a0.size : Int) > 4000 then (quillref1_May.j0 k a0 true) else ((utf8_ValidString.f a0).bind fun t153 => (quillref1_May.j0 k a0 (!t153)))) = some r := h
 clear h
 have HC2 := Aside0.mk H
 clear H
 go_enter Tryd.func10, Tryd.ntmps10
 go_upto_region 1 with (fail)
 go_cut [11] (fun v11 wc => ∃ (kq : Nat) (x11_1 : Bool), v11 = .bool x11_1 ∧ Aside0 (quillref1_May.j0 kq a0 x11_1 = some r) ∧ Aside0 (kq ≤ k) ∧ Aside0 (Below w.heap.size w wc))
 case first =>
  have H := HC2.out
  clear HC2
  by_cases c3 : (a0.size : Int) > 4000
  ·
   rw [if_pos c3] at H
   have c3b0 := decide_eq_true c3
   have c3b1 : decide (4000 < a0.size) = true := decide_eq_true (by omega)
   clear c3
   (first | rw [c3b0] | (simp only [i64_w, i32_w]; rw [c3b0]) | skip)
   have H' := Aside0.mk H
   clear H
   go_wp2
   go_meet
   case rel => exact ⟨_, (true), (by first | rfl | (simp; done) | (simp [*]; done)), H', ⟨by first | omega | exact Nat.le_refl _⟩, ⟨by repeat with_reducible first | exact HB.out | apply pw_below_drewN | apply below_drew1 | apply below_alloc⟩⟩
  rw [if_neg c3] at H
  have c3b0 := decide_eq_false c3
  have c3b1 : decide (4000 < a0.size) = false := decide_eq_false (by omega)
  clear c3
  (first | rw [c3b0] | (simp only [i64_w, i32_w]; rw [c3b0]) | skip)
  replace H := Option.bind_eq_some_iff.mp H
  obtain ⟨t153, A40, H⟩ := H
  (try dsimp only at H)
  have A4 := Aside0.mk A40
  clear A40
  have H' := Aside0.mk H
  clear H
  go_wp2_with (first | (go_at_call 31; (with_reducible refine (utf8_ValidString.calls a0 t153 _ ?side1 A4.out).mono ?_); (case side1 => exact Tabs.below HT.out (by repeat with_reducible first | exact HB.out | apply pw_below_drewN | apply below_drew1 | apply below_alloc)); rintro e w5 ⟨rfl, hb⟩; have n0_ := Aside0.mk (below_step (by repeat with_reducible first | exact HB.out | apply pw_below_drewN | apply below_drew1 | apply below_alloc) hb); clear HB; have HB := n0_; clear n0_; (try clear hb); (try clear hb2); (try clear hk); (try clear hi)))
  go_meet
  case rel => exact ⟨_, (!t153), (by first | rfl | (simp; done) | (simp [*]; done)), H', ⟨by first | omega | exact Nat.le_refl _⟩, ⟨by repeat with_reducible first | exact HB.out | apply pw_below_drewN | apply below_drew1 | apply below_alloc⟩⟩
 case rest =>
  clear HC2
  obtain ⟨kq, x11_1, rfl, HA, HJ1, HB⟩ := hcut
  cases kq with
  | zero => exact absurd HA.out (by simp [quillref1_May.j0])
  | succ kj1 =>
   have H := HA.out
   clear HA
   simp only [quillref1_May.j0] at H
   by_cases c6 : x11_1 = true
   ·
    subst c6
    have H1 : (some false) = some r := by rw [if_pos rfl] at H; exact H
    clear H
    have H := H1
    clear H1
    obtain rfl := Option.some.inj H
    go_wp2
    go_ret
    exact ⟨by first | rfl | (simp [errW_none, errW_some] <;> rfl) | (simp [*, errW_none, errW_some] <;> rfl), by repeat with_reducible first | exact HB.out | apply pw_below_drewN | apply below_drew1 | apply below_alloc⟩
   replace c6 := Bool.eq_false_iff.mpr c6
   subst c6
   have H1 : (quillref1_May.l0 kj1 a0 0) = some r := by rw [if_neg (show ¬ (false = true) by decide)] at H; exact H
   clear H
   have H := H1
   clear H1
   have H' := Aside0.mk H
   clear H
   go_wp2
   go_loopg [3] kj1 (fun kq v3 w' => ∃ (x3_2 : Int), v3 = .int .i64 x3_2 ∧ Aside0 (quillref1_May.l0 kq a0 x3_2 = some r) ∧ Aside0 (kq ≤ kj1) ∧ Aside0 (Below w.heap.size w w'))
   case atStart => exact ⟨(0), (by first | rfl | (simp; done) | (simp [*]; done)), H', ⟨Nat.le_refl _⟩, ⟨by repeat with_reducible first | exact HB.out | apply pw_below_drewN | apply below_drew1 | apply below_alloc⟩⟩
   case round =>
    clear H'
    try clear c6
    obtain ⟨x3_2, rfl, HA, HK2, HB⟩ := hrel
    cases gk with
    | zero => exact absurd HA.out (by simp [quillref1_May.l0])
    | succ k2 =>
     have H := HA.out
     clear HA
     simp only [quillref1_May.l0] at H
     by_cases c7 : x3_2 < (a0.size : Int)
     rotate_left
     ·
      rw [if_neg c7] at H
      have c7b0 := decide_eq_false c7
      clear c7
      obtain rfl := Option.some.inj H
      go_wp2
      go_ret
      exact ⟨by first | rfl | (simp [errW_none, errW_some] <;> rfl) | (simp [*, errW_none, errW_some] <;> rfl), by repeat with_reducible first | exact HB.out | apply pw_below_drewN | apply below_drew1 | apply below_alloc⟩
     rw [if_pos c7] at H
     have c7b0 := decide_eq_true c7
     clear c7
     by_cases c8 : 0 ≤ x3_2
     rotate_left
     ·
      rw [if_neg c8] at H
      exact absurd H (by simp)
     rw [if_pos c8] at H
     have c8b0 := decide_eq_true c8
     clear c8
     by_cases c10 : (bt a0 x3_2) = 0
     ·
      rw [if_pos c10] at H
      have c10b0 : ((bt a0 x3_2) == 0) = true := beq_iff_eq.mpr c10
      have c10b1 : ((bt a0 x3_2) != 0) = false := bne_eq_false_iff_eq.mpr c10
      clear c10
      obtain rfl := Option.some.inj H
      have p9 : 0 ≤ (x3_2 : Int) := of_decide_eq_true (by assumption)
      have q9 : x3_2 < (a0.size : Int) := of_decide_eq_true (by assumption)
      have hx9 := bt_at a0 x3_2
      replace p9 := eq_true p9
      replace q9 := eq_true q9
      go_wp2
      go_ret
      exact ⟨by first | rfl | (simp [errW_none, errW_some] <;> rfl) | (simp [*, errW_none, errW_some] <;> rfl), by repeat with_reducible first | exact HB.out | apply pw_below_drewN | apply below_drew1 | apply below_alloc⟩
     rw [if_neg c10] at H
     have c10b0 : ((bt a0 x3_2) == 0) = false := beq_eq_false_iff_ne.mpr c10
     have c10b1 : ((bt a0 x3_2) != 0) = true := bne_iff_ne.mpr c10
     have H' := Aside0.mk H
     clear H
     have p9 : 0 ≤ (x3_2 : Int) := of_decide_eq_true (by assumption)
     have q9 : x3_2 < (a0.size : Int) := of_decide_eq_true (by assumption)
     have hx9 := bt_at a0 x3_2
     replace p9 := eq_true p9
     replace q9 := eq_true q9
     go_wp2
     go_roundg k2
     case measure => have := HJ1.out; have := HK2.out; omega
     case rel => exact ⟨(wrap64 (x3_2 + 1)), (by first | rfl | (simp; done) | (simp [*]; done)), H', ⟨by have := HJ1.out; have := HK2.out; omega⟩, ⟨by repeat with_reducible first | exact HB.out | apply pw_below_drewN | apply below_drew1 | apply below_alloc⟩⟩

/-! ### quillref0_Num: function 11 -/
def quillref0_Num.f (a0 : Int) (a1 : Int) : Option (Bool) := if a0 ≥ 0 then (some (decide (a0 ≤ a1))) else (some false)
set_option maxHeartbeats 8000000 in
set_option maxRecDepth 100000 in
theorem quillref0_Num.calls (a0 : Int) (a1 : Int) (r : Bool) (w : World) (h : quillref0_Num.f a0 a1 = some r) :
  Calls Tryd.prog 11 #[.int .i64 a0, .int .i64 a1] w fun e w' => e = .returned (.bool r) ∧ Drawn0 w w' := by
 have H : (if a0 ≥ 0 then (some (decide (a0 ≤ a1))) else (some false)) = some r := h
 clear h
 by_cases c3 : a0 ≥ 0
 ·
  rw [if_pos c3] at H
  have c3b0 := decide_eq_true c3
  clear c3
  obtain rfl := Option.some.inj H
  go_enter Tryd.func11, Tryd.ntmps11
  go_wp2
  go_ret
  exact ⟨by first | rfl | (simp; done) | (simp [*]; done), by repeat (first | exact Drawn0.refl _ | apply Drawn0.step)⟩
 rw [if_neg c3] at H
 have c3b0 := decide_eq_false c3
 clear c3
 obtain rfl := Option.some.inj H
 go_enter Tryd.func11, Tryd.ntmps11
 go_wp2
 go_ret
 exact ⟨by first | rfl | (simp; done) | (simp [*]; done), by repeat (first | exact Drawn0.refl _ | apply Drawn0.step)⟩

/-! ### quillref0_Between: function 12 -/
def quillref0_Between.f (a0 : Int) (a1 : Int) (a2 : Int) : Option (Bool) := if a0 ≥ a1 then (some (decide (a0 ≤ a2))) else (some false)
set_option maxHeartbeats 8000000 in
set_option maxRecDepth 100000 in
theorem quillref0_Between.calls (a0 : Int) (a1 : Int) (a2 : Int) (r : Bool) (w : World) (h : quillref0_Between.f a0 a1 a2 = some r) :
  Calls Tryd.prog 12 #[.int .i64 a0, .int .i64 a1, .int .i64 a2] w fun e w' => e = .returned (.bool r) ∧ Drawn0 w w' := by
 have H : (if a0 ≥ a1 then (some (decide (a0 ≤ a2))) else (some false)) = some r := h
 clear h
 by_cases c4 : a0 ≥ a1
 ·
  rw [if_pos c4] at H
  have c4b0 := decide_eq_true c4
  clear c4
  obtain rfl := Option.some.inj H
  go_enter Tryd.func12, Tryd.ntmps12
  go_wp2
  go_ret
  exact ⟨by first | rfl | (simp; done) | (simp [*]; done), by repeat (first | exact Drawn0.refl _ | apply Drawn0.step)⟩
 rw [if_neg c4] at H
 have c4b0 := decide_eq_false c4
 clear c4
 obtain rfl := Option.some.inj H
 go_enter Tryd.func12, Tryd.ntmps12
 go_wp2
 go_ret
 exact ⟨by first | rfl | (simp; done) | (simp [*]; done), by repeat (first | exact Drawn0.refl _ | apply Drawn0.step)⟩

/-! ### quillref1_Begin: function 32 -/
def quillref1_Begin.l0 : Nat → List Int → Int → Option (Int)
  | 0, _, _ => none
  | k + 1, x0, x1 => if x1 > 0 then (if 0 ≤ (wrap64 (x1 - 1)) then (if (wrap64 (x1 - 1)) < (x0.length : Int) then (if (rd x0 (wrap64 (x1 - 1))) = 10 then (some x1) else (quillref1_Begin.l0 k x0 (wrap64 (x1 - 1)))) else (none)) else (none)) else (some x1)
def quillref1_Begin.f (k : Nat) (l0 : List Int) (a1 : Int) : Option (Int) := quillref1_Begin.l0 k l0 a1
theorem quillref1_Begin.mono_l : ∀ k, (∀ y0 y1, LeO (quillref1_Begin.l0 k y0 y1) (quillref1_Begin.l0 (k + 1) y0 y1))
  | 0 => fun _ _ r h => by simp [quillref1_Begin.l0] at h
  | k + 1 => by
    have ih0 := quillref1_Begin.mono_l k
    all_goals intros
    all_goals first | unfold quillref1_Begin.l0
    all_goals repeat' first | (with_reducible first | exact ih0 _ _ | exact LeO.refl _ | exact LeO.none _ | refine LeO.ite ?_ ?_ | refine LeO.bind ?_ (fun _ => ?_)) | exact ih0 _ _ | exact LeO.refl _ | exact LeO.none _ | refine LeO.ite ?_ ?_ | refine LeO.bind ?_ (fun _ => ?_)
theorem quillref1_Begin.mono : ∀ a0 a1 k, LeO (quillref1_Begin.f k a0 a1) (quillref1_Begin.f (k + 1) a0 a1) := by
  intro a0 a1 k
  have ih0 := quillref1_Begin.mono_l k
  unfold quillref1_Begin.f
  repeat' first | (with_reducible first | exact ih0 _ _ | exact LeO.refl _ | exact LeO.none _ | refine LeO.ite ?_ ?_ | refine LeO.bind ?_ (fun _ => ?_)) | exact ih0 _ _ | exact LeO.refl _ | exact LeO.none _ | refine LeO.ite ?_ ?_ | refine LeO.bind ?_ (fun _ => ?_)
set_option maxHeartbeats 8000000 in
set_option maxRecDepth 100000 in
theorem quillref1_Begin.calls (k : Nat) (A0 : Option Addr) (c0 : Nat) (l0 : List Int) (a1 : Int) (r : Int) (w : World) (hr0 : Kd.C (Kd.int .i32) w A0 l0.length l0) (hc0 : l0.length ≤ c0) (h : quillref1_Begin.f k l0 a1 = some r) :
  Calls Tryd.prog 32 #[.slice A0 l0.length c0, .int .i64 a1] w fun e w' => e = .returned (.int .i64 r) ∧ Drawn0 w w' := by
 have HR0 := Aside0.mk hr0
 have HC0 := Aside0.mk hc0
 clear hr0 hc0
 have H : (quillref1_Begin.l0 k l0 a1) = some r := h
 clear h
 have H' := Aside0.mk H
 clear H
 go_enter Tryd.func32, Tryd.ntmps32
 go_wp2
 go_loopg [1] k (fun kq v1 w' => ∃ (x1_1 : Int), v1 = .int .i64 x1_1 ∧ Aside0 (quillref1_Begin.l0 kq l0 x1_1 = some r) ∧ Aside0 (kq ≤ k) ∧ Drawn0 w w')
 case atStart => exact ⟨(a1), (by first | rfl | (simp; done) | (simp [*]; done)), H', ⟨Nat.le_refl _⟩, by repeat (first | exact Drawn0.refl _ | apply Drawn0.step)⟩
 case round =>
  clear H'
  obtain ⟨x1_1, rfl, HA, HK1, ⟨m1, rfl⟩⟩ := hrel
  cases gk with
  | zero => exact absurd HA.out (by simp [quillref1_Begin.l0])
  | succ k1 =>
   have H := HA.out
   clear HA
   simp only [quillref1_Begin.l0] at H
   by_cases c3 : x1_1 > 0
   rotate_left
   ·
    rw [if_neg c3] at H
    have c3b0 := decide_eq_false c3
    clear c3
    obtain rfl := Option.some.inj H
    go_wp2
    go_ret
    exact ⟨by first | rfl | (simp; done) | (simp [*]; done), by repeat (first | exact Drawn0.refl _ | apply Drawn0.step)⟩
   rw [if_pos c3] at H
   have c3b0 := decide_eq_true c3
   clear c3
   obtain ⟨ji4, hji4⟩ : ∃ j_ : Int, (wrap64 (x1_1 - 1)) = j_ := ⟨_, rfl⟩
   replace H : (if 0 ≤ (ji4) then (if (ji4) < (l0.length : Int) then (if (rd l0 (ji4)) = 10 then (some x1_1) else (quillref1_Begin.l0 k1 l0 ji4)) else (none)) else (none)) = some r := by first | (rw [hji4] at H; exact H) | (simp only [hji4] at H ⊢; exact H)
   have hji4w : (IntKind.i64.wrap (x1_1 - 1)) = ji4 := (i64_w _).trans hji4
   by_cases c5 : 0 ≤ (ji4)
   rotate_left
   ·
    rw [if_neg c5] at H
    exact absurd H (by simp)
   rw [if_pos c5] at H
   have c5b0 := decide_eq_true c5
   clear c5
   by_cases c6 : (ji4) < (l0.length : Int)
   rotate_left
   ·
    rw [if_neg c6] at H
    exact absurd H (by simp)
   rw [if_pos c6] at H
   have c6b0 := decide_eq_true c6
   clear c6
   by_cases c7 : (rd l0 (ji4)) = 10
   ·
    rw [if_pos c7] at H
    have c7b0 : ((rd l0 (ji4)) == 10) = true := beq_iff_eq.mpr c7
    have c7b1 : ((rd l0 (ji4)) != 10) = false := bne_eq_false_iff_eq.mpr c7
    clear c7
    obtain rfl := Option.some.inj H
    have p154 : 0 ≤ ((ji4) : Int) := of_decide_eq_true (by assumption)
    have q154 : (ji4) < (l0.length : Int) := of_decide_eq_true (by assumption)
    obtain ⟨ad154, e154, hx154_0⟩ := Kd.at_int HR0.out (ji4) p154 q154
    cases e154
    replace p154 := eq_true p154
    replace q154 := eq_true q154
    go_wp2
    go_ret
    exact ⟨by first | rfl | (simp; done) | (simp only [← hji4] <;> (first | rfl | simp)) | (simp [*]; done), by repeat (first | exact Drawn0.refl _ | apply Drawn0.step)⟩
   rw [if_neg c7] at H
   have c7b0 : ((rd l0 (ji4)) == 10) = false := beq_eq_false_iff_ne.mpr c7
   have c7b1 : ((rd l0 (ji4)) != 10) = true := bne_iff_ne.mpr c7
   have H' := Aside0.mk H
   clear H
   have p154 : 0 ≤ ((ji4) : Int) := of_decide_eq_true (by assumption)
   have q154 : (ji4) < (l0.length : Int) := of_decide_eq_true (by assumption)
   obtain ⟨ad154, e154, hx154_0⟩ := Kd.at_int HR0.out (ji4) p154 q154
   cases e154
   replace p154 := eq_true p154
   replace q154 := eq_true q154
   go_wp2
   go_roundg k1
   case measure => have := HK1.out; omega
   case rel => exact ⟨(ji4), (by first | rfl | (simp; done) | (simp only [← hji4] <;> (first | rfl | simp)) | (simp [*]; done)), H', ⟨by have := HK1.out; omega⟩, by repeat (first | exact Drawn0.refl _ | apply Drawn0.step)⟩

/-! ### quillref1_End: function 33 -/
def quillref1_End.l0 : Nat → List Int → Int → Option (Int)
  | 0, _, _ => none
  | k + 1, x0, x1 => if x1 < (x0.length : Int) then (if 0 ≤ x1 then (if (rd x0 x1) = 10 then (some x1) else (quillref1_End.l0 k x0 (wrap64 (x1 + 1)))) else (none)) else (some x1)
def quillref1_End.f (k : Nat) (l0 : List Int) (a1 : Int) : Option (Int) := quillref1_End.l0 k l0 a1
theorem quillref1_End.mono_l : ∀ k, (∀ y0 y1, LeO (quillref1_End.l0 k y0 y1) (quillref1_End.l0 (k + 1) y0 y1))
  | 0 => fun _ _ r h => by simp [quillref1_End.l0] at h
  | k + 1 => by
    have ih0 := quillref1_End.mono_l k
    all_goals intros
    all_goals first | unfold quillref1_End.l0
    all_goals repeat' first | (with_reducible first | exact ih0 _ _ | exact LeO.refl _ | exact LeO.none _ | refine LeO.ite ?_ ?_ | refine LeO.bind ?_ (fun _ => ?_)) | exact ih0 _ _ | exact LeO.refl _ | exact LeO.none _ | refine LeO.ite ?_ ?_ | refine LeO.bind ?_ (fun _ => ?_)
theorem quillref1_End.mono : ∀ a0 a1 k, LeO (quillref1_End.f k a0 a1) (quillref1_End.f (k + 1) a0 a1) := by
  intro a0 a1 k
  have ih0 := quillref1_End.mono_l k
  unfold quillref1_End.f
  repeat' first | (with_reducible first | exact ih0 _ _ | exact LeO.refl _ | exact LeO.none _ | refine LeO.ite ?_ ?_ | refine LeO.bind ?_ (fun _ => ?_)) | exact ih0 _ _ | exact LeO.refl _ | exact LeO.none _ | refine LeO.ite ?_ ?_ | refine LeO.bind ?_ (fun _ => ?_)
set_option maxHeartbeats 8000000 in
set_option maxRecDepth 100000 in
theorem quillref1_End.calls (k : Nat) (A0 : Option Addr) (c0 : Nat) (l0 : List Int) (a1 : Int) (r : Int) (w : World) (hr0 : Kd.C (Kd.int .i32) w A0 l0.length l0) (hc0 : l0.length ≤ c0) (h : quillref1_End.f k l0 a1 = some r) :
  Calls Tryd.prog 33 #[.slice A0 l0.length c0, .int .i64 a1] w fun e w' => e = .returned (.int .i64 r) ∧ Drawn0 w w' := by
 have HR0 := Aside0.mk hr0
 have HC0 := Aside0.mk hc0
 clear hr0 hc0
 have H : (quillref1_End.l0 k l0 a1) = some r := h
 clear h
 have H' := Aside0.mk H
 clear H
 go_enter Tryd.func33, Tryd.ntmps33
 go_wp2
 go_loopg [1] k (fun kq v1 w' => ∃ (x1_1 : Int), v1 = .int .i64 x1_1 ∧ Aside0 (quillref1_End.l0 kq l0 x1_1 = some r) ∧ Aside0 (kq ≤ k) ∧ Drawn0 w w')
 case atStart => exact ⟨(a1), (by first | rfl | (simp; done) | (simp [*]; done)), H', ⟨Nat.le_refl _⟩, by repeat (first | exact Drawn0.refl _ | apply Drawn0.step)⟩
 case round =>
  clear H'
  obtain ⟨x1_1, rfl, HA, HK1, ⟨m1, rfl⟩⟩ := hrel
  cases gk with
  | zero => exact absurd HA.out (by simp [quillref1_End.l0])
  | succ k1 =>
   have H := HA.out
   clear HA
   simp only [quillref1_End.l0] at H
   by_cases c3 : x1_1 < (l0.length : Int)
   rotate_left
   ·
    rw [if_neg c3] at H
    have c3b0 := decide_eq_false c3
    clear c3
    obtain rfl := Option.some.inj H
    go_wp2
    go_ret
    exact ⟨by first | rfl | (simp; done) | (simp [*]; done), by repeat (first | exact Drawn0.refl _ | apply Drawn0.step)⟩
   rw [if_pos c3] at H
   have c3b0 := decide_eq_true c3
   clear c3
   by_cases c4 : 0 ≤ x1_1
   rotate_left
   ·
    rw [if_neg c4] at H
    exact absurd H (by simp)
   rw [if_pos c4] at H
   have c4b0 := decide_eq_true c4
   clear c4
   by_cases c5 : (rd l0 x1_1) = 10
   ·
    rw [if_pos c5] at H
    have c5b0 : ((rd l0 x1_1) == 10) = true := beq_iff_eq.mpr c5
    have c5b1 : ((rd l0 x1_1) != 10) = false := bne_eq_false_iff_eq.mpr c5
    clear c5
    obtain rfl := Option.some.inj H
    have p155 : 0 ≤ (x1_1 : Int) := of_decide_eq_true (by assumption)
    have q155 : x1_1 < (l0.length : Int) := of_decide_eq_true (by assumption)
    obtain ⟨ad155, e155, hx155_0⟩ := Kd.at_int HR0.out x1_1 p155 q155
    cases e155
    replace p155 := eq_true p155
    replace q155 := eq_true q155
    go_wp2
    go_ret
    exact ⟨by first | rfl | (simp; done) | (simp [*]; done), by repeat (first | exact Drawn0.refl _ | apply Drawn0.step)⟩
   rw [if_neg c5] at H
   have c5b0 : ((rd l0 x1_1) == 10) = false := beq_eq_false_iff_ne.mpr c5
   have c5b1 : ((rd l0 x1_1) != 10) = true := bne_iff_ne.mpr c5
   have H' := Aside0.mk H
   clear H
   have p155 : 0 ≤ (x1_1 : Int) := of_decide_eq_true (by assumption)
   have q155 : x1_1 < (l0.length : Int) := of_decide_eq_true (by assumption)
   obtain ⟨ad155, e155, hx155_0⟩ := Kd.at_int HR0.out x1_1 p155 q155
   cases e155
   replace p155 := eq_true p155
   replace q155 := eq_true q155
   go_wp2
   go_roundg k1
   case measure => have := HK1.out; omega
   case rel => exact ⟨(wrap64 (x1_1 + 1)), (by first | rfl | (simp; done) | (simp [*]; done)), H', ⟨by have := HK1.out; omega⟩, by repeat (first | exact Drawn0.refl _ | apply Drawn0.step)⟩

end Go.Proofs.YtbgmmcngkdhpcaaDoor.P
