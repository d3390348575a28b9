/- The walks of the functions that these statements reach: each Go function as a plain Lean function, and the proof that its call comes to that. Written by the session's program wip/pp.py. -/
import Derived.Test.YtgikaemhhaejoaaDoorP0
import Derived.Test.YtgikaemhhaejoaaDoorP2
import Derived.Test.YtgikaemhhaejoaaDoorP5
import Derived.Test.YtgikaemhhaejoaaDoorP6
namespace Go.Proofs.YtgikaemhhaejoaaDoor.P
open Go.Proofs.YtgikaemhhaejoaaDoor
open Go.RowKit Go.Proofs.YtgikaemhhaejoaaDoorW.PrintWords Go.Proofs.YtgikaemhhaejoaaDoorW.PrintLast Go.Proofs.YtgikaemhhaejoaaDoorW.PrintMore
attribute [local go_sem] max2_int min2_int max_two min_two max_three min_three max_four min_four   -- for this text's walks alone
set_option linter.unusedVariables false
set_option linter.unusedSimpArgs false

/-! ### object_para: function 31 -/
def object_para.f (k : Nat) (l0_0 : List Int) (l0_1 : List Int) (a1 : Int) (a2 : Int) : Option (Int × Int × Bool × Int) := (text_Map_Row.f k l0_0 l0_1 a1).bind fun t182 => ((object_para_2.f k t182 l0_0 l0_1).bind fun t184 => ((object_para_3.f k t182 l0_0 l0_1 l0_0 l0_1).bind fun t185 => (if a2 = 105 then (if 0 ≤ t184 then (if t184 < (l0_1.length : Int) then ((text_Map_End.f l0_0 l0_1 t185).bind fun t187 => (some (rd l0_1 t184, t187, true, 0))) else (none)) else (none)) else ((text_Map_Rows.f l0_0 l0_1).bind fun t188 => (if (wrap64 (t185 + 1)) < t188 then ((object_para_3.f k (wrap64 (t185 + 1)) l0_0 l0_1 l0_0 l0_1).bind fun t189 => (if 0 ≤ t184 then (if t184 < (l0_1.length : Int) then ((text_Map_End.f l0_0 l0_1 t189).bind fun t191 => (some (rd l0_1 t184, t191, true, 0))) else (none)) else (none))) else (if t184 > 0 then ((object_para_2.f k (wrap64 (t184 - 1)) l0_0 l0_1).bind fun t192 => (if 0 ≤ t192 then (if t192 < (l0_1.length : Int) then ((text_Map_End.f l0_0 l0_1 t185).bind fun t194 => (some (rd l0_1 t192, t194, true, 0))) else (none)) else (none))) else (some (0, 0, false, 6))))))))
theorem object_para.mono : ∀ a0 a1 a2 a3 k, LeO (object_para.f k a0 a1 a2 a3) (object_para.f (k + 1) a0 a1 a2 a3) := by
  intro a0 a1 a2 a3 k
  unfold object_para.f
  repeat' first | (with_reducible first | exact object_para_2.mono _ _ _ _ | exact object_para_3.mono _ _ _ _ _ _ | exact text_Map_Row.mono _ _ _ _ | exact LeO.refl _ | exact LeO.none _ | refine LeO.ite ?_ ?_ | refine LeO.bind ?_ (fun _ => ?_)) | exact object_para_2.mono _ _ _ _ | exact object_para_3.mono _ _ _ _ _ _ | exact text_Map_Row.mono _ _ _ _ | exact LeO.refl _ | exact LeO.none _ | refine LeO.ite ?_ ?_ | refine LeO.bind ?_ (fun _ => ?_)
def object_para.T12 : Bool × List (List Nat × List Nat) := (true, [([], []), ([0], [0]), ([1], [1]), ([2], [2]), ([], []), ([3, 4], [3, 4]), ([5], [5]), ([], []), ([], []), ([7, 8], [7, 8]), ([6, 9], [6, 9]), ([10, 9, 0, 1, 2, 3, 4, 5, 6, 7, 8, 9, 10], [10]), ([11, 0, 1, 2, 3, 4, 5, 6, 7, 8, 9, 10, 11], [])])
def object_para.B12 : List Nat := [0, 1, 3, 7, 0, 31, 63, 0, 0, 384, 1023, 2047, 4095]
theorem object_para.tab12 : rtab .any (opsOf Tryd.f31 12) = object_para.T12 := by kernel_rfl
theorem object_para.bits12 : waitsOk object_para.T12.2 object_para.B12 = true := by kernel_rfl
set_option maxHeartbeats 8000000 in
set_option maxRecDepth 100000 in
theorem object_para.calls (k : Nat) (g0 : Nat) (A0_0 : Option Addr) (c0_0 : Nat) (l0_0 : List Int) (A0_1 : Option Addr) (c0_1 : Nat) (l0_1 : List Int) (a1 : Int) (a2 : Int) (r1 : Int) (r2 : Int) (r3 : Bool) (r4 : Int) (w : World) (hg0 : w.heap[g0]? = some (.cells #[.slice A0_0 l0_0.length c0_0, .slice A0_1 l0_1.length c0_1] 66 (0, 0))) (hr0_0 : Kd.C (Kd.int .i32) w A0_0 l0_0.length l0_0) (hc0_0 : l0_0.length ≤ c0_0) (hr0_1 : Kd.C (Kd.int .i64) w A0_1 l0_1.length l0_1) (hc0_1 : l0_1.length ≤ c0_1) (h : object_para.f k l0_0 l0_1 a1 a2 = some (r1, r2, r3, r4)) :
  Calls Tryd.prog 31 #[.pointer (some ⟨g0, 0, none⟩), .int .i64 a1, .int .i64 a2] w fun e w' => e = .returned (.tuple #[.agg #[.int .i64 r1, .int .i64 r2, .bool r3], .int .i64 r4]) ∧ Below w.heap.size w w' := by
 have hu49 := Tryd.underlying49
 have hu35 := Tryd.underlying35
 have hu43 := Tryd.underlying43
 have BK0 := Aside0.mk hg0
 clear hg0
 have HR0_0 := Aside0.mk hr0_0
 have HC0_0 := Aside0.mk hc0_0
 clear hr0_0 hc0_0
 have HR0_1 := Aside0.mk hr0_1
 have HC0_1 := Aside0.mk hc0_1
 clear hr0_1 hc0_1
 have HB := Aside0.mk (Below.refl w.heap.size w)
 have H : ((text_Map_Row.f k l0_0 l0_1 a1).bind fun t182 => ((object_para_2.f k t182 l0_0 l0_1).bind fun t184 => ((object_para_3.f k t182 l0_0 l0_1 l0_0 l0_1).bind fun t185 => (if a2 = 105 then (if 0 ≤ t184 then (if t184 < (l0_1.length : Int) then ((text_Map_End.f l0_0 l0_1 t185).bind fun t187 => (some (rd l0_1 t184, t187, true, 0))) else (none)) else (none)) else ((text_Map_Rows.f l0_0 l0_1).bind fun t188 => (if (wrap64 (t185 + 1)) < t188 then ((object_para_3.f k (wrap64 (t185 + 1)) l0_0 l0_1 l0_0 l0_1).bind fun t189 => (if 0 ≤ t184 then (if t184 < (l0_1.length : Int) then ((text_Map_End.f l0_0 l0_1 t189).bind fun t191 => (some (rd l0_1 t184, t191, true, 0))) else (none)) else (none))) else (if t184 > 0 then ((object_para_2.f k (wrap64 (t184 - 1)) l0_0 l0_1).bind fun t192 => (if 0 ≤ t192 then (if t192 < (l0_1.length : Int) then ((text_Map_End.f l0_0 l0_1 t185).bind fun t194 => (some (rd l0_1 t192, t194, true, 0))) else (none)) else (none))) else (some (0, 0, false, 6))))))))) = some (r1, r2, r3, r4) := h
 clear h
 replace H := Option.bind_eq_some_iff.mp H
 obtain ⟨t182, A40, H⟩ := H
 (try dsimp only at H)
 have A4 := Aside0.mk A40
 clear A40
 replace H := Option.bind_eq_some_iff.mp H
 obtain ⟨t184, A50, H⟩ := H
 (try dsimp only at H)
 have A5 := Aside0.mk A50
 clear A50
 replace H := Option.bind_eq_some_iff.mp H
 obtain ⟨t185, A60, H⟩ := H
 (try dsimp only at H)
 have A6 := Aside0.mk A60
 clear A60
 by_cases c7 : a2 = 105
 ·
  rw [if_pos c7] at H
  have c7b0 : (a2 == 105) = true := beq_iff_eq.mpr c7
  have c7b1 : (a2 != 105) = false := bne_eq_false_iff_eq.mpr c7
  clear c7
  by_cases c8 : 0 ≤ t184
  rotate_left
  ·
   rw [if_neg c8] at H
   exact absurd H (by simp)
  rw [if_pos c8] at H
  have c8b0 := decide_eq_true c8
  clear c8
  by_cases c9 : t184 < (l0_1.length : Int)
  rotate_left
  ·
   rw [if_neg c9] at H
   exact absurd H (by simp)
  rw [if_pos c9] at H
  have c9b0 := decide_eq_true c9
  clear c9
  replace H := Option.bind_eq_some_iff.mp H
  obtain ⟨t187, A100, H⟩ := H
  (try dsimp only at H)
  have A10 := Aside0.mk A100
  clear A100
  simp only [Option.some.injEq, Prod.mk.injEq] at H
  obtain ⟨rfl, rfl, rfl, rfl⟩ := H
  go_enter Tryd.func31, Tryd.ntmps31
  try go_wp2_with (first | ((with_reducible refine gate_dst (N := 3) rfl ?_); refine box_event ?hg (N := 3) ?hd (cs := #[.pointer (some ⟨g0, 0, none⟩)]) (t := 49) ?hr ?_; (case hd => rfl); (case hg => rfl); (case hr => first | (go_simp; done) | (go_simp; rfl)); intro gb180 hg w11 hbox hb; have n0_ := Aside0.mk (blb hb BK0.out); have n1_ := Aside0.mk (below_step (by repeat with_reducible first | exact HB.out | apply pw_below_drewN | refine below_set ?_ GE0.out | apply below_drew1 | apply below_alloc) hb); have n2_ := Aside0.mk (hbox); have n3_ := Aside0.mk (geb hg (by repeat with_reducible first | exact HB.out | apply pw_below_drewN | refine below_set ?_ GE0.out | apply below_drew1 | apply below_alloc)); have n4_ := n3_; have n5_ := Aside0.mk ((nbl hg BK0.out)); have n6_ := Aside0.mk ((nbr hg BK0.out)); clear BK0; clear HB; have BK0 := n0_; have HB := n1_; have BK180 := n2_; have GW180 := n3_; have GE180 := n4_; have NB0_180 := n5_; have NB180_0 := n6_; clear n0_ n1_ n2_ n3_ n4_ n5_ n6_; clear hb hbox hg) | ((with_reducible refine gate_dst (N := 6) rfl ?_); refine box_event ?hg (N := 6) ?hd (cs := #[.int .i64 0, .int .i64 0, .bool false]) (t := 35) ?hr ?_; (case hd => rfl); (case hg => rfl); (case hr => first | (go_simp; done) | (go_simp; rfl)); intro gb181 hg w12 hbox hb; have n0_ := Aside0.mk (blb hb BK0.out); have n1_ := Aside0.mk (blb hb BK180.out); have n2_ := Aside0.mk (below_step (by repeat with_reducible first | exact HB.out | apply pw_below_drewN | refine below_set ?_ GE0.out | refine below_set ?_ GE180.out | apply below_drew1 | apply below_alloc) hb); have n3_ := Aside0.mk (hbox); have n4_ := Aside0.mk (geb hg (by repeat with_reducible first | exact HB.out | apply pw_below_drewN | refine below_set ?_ GE0.out | refine below_set ?_ GE180.out | apply below_drew1 | apply below_alloc)); have n5_ := n4_; have n6_ := Aside0.mk ((nbl hg BK0.out)); have n7_ := Aside0.mk ((nbr hg BK0.out)); have n8_ := Aside0.mk ((nbl hg BK180.out)); have n9_ := Aside0.mk ((nbr hg BK180.out)); clear BK0; clear BK180; clear HB; have BK0 := n0_; have BK180 := n1_; have HB := n2_; have BK181 := n3_; have GW181 := n4_; have GE181 := n5_; have NB0_181 := n6_; have NB181_0 := n7_; have NB180_181 := n8_; have NB181_180 := n9_; clear n0_ n1_ n2_ n3_ n4_ n5_ n6_ n7_ n8_ n9_; clear hb hbox hg; have hnb13 := NB180_0.out; have hnc13 := NB0_180.out; have hnb14 := NB180_181.out; have hnc14 := NB181_180.out; have hcz15_0 := cz0 BK180.out; have hfz15_0 := blk_frozen BK180.out 0) | ((with_reducible refine gate_callee (f := 44) rfl ?_); refine goesL_ (some 16) rfl rfl Tryd.func44 (by kernel_rfl) rfl #[.pointer (some ⟨g0, 0, none⟩), .int .i64 a1] rfl (map2 rfl rfl) ?_; (with_reducible refine (text_Map_Row.calls k g0 A0_0 c0_0 l0_0 A0_1 c0_1 l0_1 a1 t182 _ ?side1 ?side2 ?side3 ?side4 ?side5 A4.out).mono ?_); (case side1 => exact BK0.out); (case side2 => repeat (first | exact (Kd.C_below HR0_0.out HB.out) | with_reducible first | refine Kd.C_drewN ?_ _ | refine Kd.C_drew ?_ | refine Kd.C_alloc ?_ _)); (case side3 => exact HC0_0.out); (case side4 => repeat (first | exact (Kd.C_below HR0_1.out HB.out) | with_reducible first | refine Kd.C_drewN ?_ _ | refine Kd.C_drew ?_ | refine Kd.C_alloc ?_ _)); (case side5 => exact HC0_1.out); rintro e w' ⟨rfl, ⟨nd, rfl⟩⟩; refine ⟨_, rfl, ?_⟩; (try (rw [drewN_self w12]; generalize hq_ : World.drewN w12 _ = w12; have n0_ : Aside0 (w12.heap[g0]? = some (.cells #[.slice A0_0 l0_0.length c0_0, .slice A0_1 l0_1.length c0_1] 66 (0, 0))) := ⟨by rw [← hq_]; exact (by exact BK0.out)⟩; have n1_ : Aside0 (w12.heap[gb180]? = some (.cells #[.pointer (some ⟨g0, 0, none⟩)] 49 (0, 0))) := ⟨by rw [← hq_]; exact (by exact BK180.out)⟩; have n2_ : Aside0 (w12.heap[gb181]? = some (.cells #[.int .i64 0, .int .i64 0, .bool false] 35 (0, 0))) := ⟨by rw [← hq_]; exact (by exact BK181.out)⟩; have n3_ : Aside0 (Below w.heap.size w w12) := ⟨by rw [← hq_]; exact (by repeat with_reducible first | exact HB.out | apply pw_below_drewN | refine below_set ?_ GE0.out | refine below_set ?_ GE180.out | refine below_set ?_ GE181.out | apply below_drew1 | apply below_alloc)⟩; clear BK0 BK180 BK181 HB hq_; have BK0 := n0_; have BK180 := n1_; have BK181 := n2_; have HB := n3_; clear n0_ n1_ n2_ n3_))) | ((with_reducible refine gate_dst (N := 9) rfl ?_); refine box_event ?hg (N := 9) ?hd (cs := #[.nilFunc]) (t := 43) ?hr ?_; (case hd => rfl); (case hg => rfl); (case hr => first | (go_simp; done) | (go_simp; rfl)); intro gb183 hg w16 hbox hb; have n0_ := Aside0.mk (blb hb BK0.out); have n1_ := Aside0.mk (blb hb BK180.out); have n2_ := Aside0.mk (blb hb BK181.out); have n3_ := Aside0.mk (below_step (by repeat with_reducible first | exact HB.out | apply pw_below_drewN | refine below_set ?_ GE0.out | refine below_set ?_ GE180.out | refine below_set ?_ GE181.out | apply below_drew1 | apply below_alloc) hb); have n4_ := Aside0.mk (hbox); have n5_ := Aside0.mk (geb hg (by repeat with_reducible first | exact HB.out | apply pw_below_drewN | refine below_set ?_ GE0.out | refine below_set ?_ GE180.out | refine below_set ?_ GE181.out | apply below_drew1 | apply below_alloc)); have n6_ := n5_; have n7_ := Aside0.mk ((nbl hg BK0.out)); have n8_ := Aside0.mk ((nbr hg BK0.out)); have n9_ := Aside0.mk ((nbl hg BK180.out)); have n10_ := Aside0.mk ((nbr hg BK180.out)); have n11_ := Aside0.mk ((nbl hg BK181.out)); have n12_ := Aside0.mk ((nbr hg BK181.out)); clear BK0; clear BK180; clear BK181; clear HB; have BK0 := n0_; have BK180 := n1_; have BK181 := n2_; have HB := n3_; have BK183 := n4_; have GW183 := n5_; have GE183 := n6_; have NB0_183 := n7_; have NB183_0 := n8_; have NB180_183 := n9_; have NB183_180 := n10_; have NB181_183 := n11_; have NB183_181 := n12_; clear n0_ n1_ n2_ n3_ n4_ n5_ n6_ n7_ n8_ n9_ n10_ n11_ n12_; clear hb hbox hg; have hnb17 := NB183_0.out; have hnc17 := NB0_183.out; have hnb18 := NB183_180.out; have hnc18 := NB180_183.out; have hnb19 := NB183_181.out; have hnc19 := NB181_183.out; have hcz20_0 := cz0 BK183.out; have hfz20_0 := blk_frozen BK183.out 0) | (go_at_call 50; (with_reducible refine (object_para_2.calls k t182 g0 gb180 gb183 A0_0 c0_0 l0_0 A0_1 c0_1 l0_1 t184 _ ?side1 ?side2 ?side3 ?side4 ?side5 ?side6 ?side7 A5.out).mono ?_); (case side1 => (with_reducible repeat (first | refine blk_drewN ?_ _ | refine blk_drew ?_ | refine blk_alloc ?_ _)); refine blk_far ?_ NB0_183.out _; (with_reducible repeat (first | refine blk_drewN ?_ _ | refine blk_drew ?_ | refine blk_alloc ?_ _)); exact BK0.out); (case side2 => (with_reducible repeat (first | refine blk_drewN ?_ _ | refine blk_drew ?_ | refine blk_alloc ?_ _)); refine blk_far ?_ NB180_183.out _; (with_reducible repeat (first | refine blk_drewN ?_ _ | refine blk_drew ?_ | refine blk_alloc ?_ _)); exact BK180.out); (case side3 => (with_reducible repeat (first | refine blk_drewN ?_ _ | refine blk_drew ?_ | refine blk_alloc ?_ _)); refine blk_put (cs := #[.nilFunc]) ?_ 0 _ rfl; (with_reducible repeat (first | refine blk_drewN ?_ _ | refine blk_drew ?_ | refine blk_alloc ?_ _)); exact BK183.out); (case side4 => exact Kd.C_below HR0_0.out (by repeat with_reducible first | exact HB.out | apply pw_below_drewN | refine below_set ?_ GE0.out | refine below_set ?_ GE180.out | refine below_set ?_ GE181.out | refine below_set ?_ GE183.out | apply below_drew1 | apply below_alloc)); (case side5 => exact HC0_0.out); (case side6 => exact Kd.C_below HR0_1.out (by repeat with_reducible first | exact HB.out | apply pw_below_drewN | refine below_set ?_ GE0.out | refine below_set ?_ GE180.out | refine below_set ?_ GE181.out | refine below_set ?_ GE183.out | apply below_drew1 | apply below_alloc)); (case side7 => exact HC0_1.out); rintro e w21 ⟨rfl, hb⟩; have n0_ := Aside0.mk (blk_below (g := g0) (o := .cells #[.slice A0_0 l0_0.length c0_0, .slice A0_1 l0_1.length c0_1] 66 (0, 0)) (by (with_reducible repeat (first | refine blk_drewN ?_ _ | refine blk_drew ?_ | refine blk_alloc ?_ _)); refine blk_far ?_ NB0_183.out _; (with_reducible repeat (first | refine blk_drewN ?_ _ | refine blk_drew ?_ | refine blk_alloc ?_ _)); exact BK0.out) hb); have n1_ := Aside0.mk (blk_below (g := gb180) (o := .cells #[.pointer (some ⟨g0, 0, none⟩)] 49 (0, 0)) (by (with_reducible repeat (first | refine blk_drewN ?_ _ | refine blk_drew ?_ | refine blk_alloc ?_ _)); refine blk_far ?_ NB180_183.out _; (with_reducible repeat (first | refine blk_drewN ?_ _ | refine blk_drew ?_ | refine blk_alloc ?_ _)); exact BK180.out) hb); have n2_ := Aside0.mk (blk_below (g := gb181) (o := .cells #[.int .i64 0, .int .i64 0, .bool false] 35 (0, 0)) (by (with_reducible repeat (first | refine blk_drewN ?_ _ | refine blk_drew ?_ | refine blk_alloc ?_ _)); refine blk_far ?_ NB181_183.out _; (with_reducible repeat (first | refine blk_drewN ?_ _ | refine blk_drew ?_ | refine blk_alloc ?_ _)); exact BK181.out) hb); have n3_ := Aside0.mk (blk_below (g := gb183) (o := .cells #[.func (.func 49) #[] #[.pointer (some ⟨gb180, 0, none⟩)]] 43 (0, 0)) (by (with_reducible repeat (first | refine blk_drewN ?_ _ | refine blk_drew ?_ | refine blk_alloc ?_ _)); refine blk_put (cs := #[.nilFunc]) ?_ 0 _ rfl; (with_reducible repeat (first | refine blk_drewN ?_ _ | refine blk_drew ?_ | refine blk_alloc ?_ _)); exact BK183.out) hb); have n4_ := Aside0.mk (below_step (by repeat with_reducible first | exact HB.out | apply pw_below_drewN | refine below_set ?_ GE0.out | refine below_set ?_ GE180.out | refine below_set ?_ GE181.out | refine below_set ?_ GE183.out | apply below_drew1 | apply below_alloc) hb); clear BK0; clear BK180; clear BK181; clear BK183; clear HB; have BK0 := n0_; have BK180 := n1_; have BK181 := n2_; have BK183 := n3_; have HB := n4_; clear n0_ n1_ n2_ n3_ n4_; (try clear hb); (try clear hb2); (try clear hk); (try clear hi)) | (go_at_call 51; (with_reducible refine (object_para_3.calls k t182 g0 gb180 A0_0 c0_0 l0_0 A0_1 c0_1 l0_1 g0 gb180 gb183 A0_0 c0_0 l0_0 A0_1 c0_1 l0_1 t185 _ ?side1 ?side2 ?side3 ?side4 ?side5 ?side6 ?side7 ?side8 ?side9 ?side10 ?side11 ?side12 ?side13 A6.out).mono ?_); (case side1 => exact BK0.out); (case side2 => exact BK180.out); (case side3 => repeat (first | exact (Kd.C_below HR0_0.out HB.out) | with_reducible first | refine Kd.C_drewN ?_ _ | refine Kd.C_drew ?_ | refine Kd.C_alloc ?_ _)); (case side4 => exact HC0_0.out); (case side5 => repeat (first | exact (Kd.C_below HR0_1.out HB.out) | with_reducible first | refine Kd.C_drewN ?_ _ | refine Kd.C_drew ?_ | refine Kd.C_alloc ?_ _)); (case side6 => exact HC0_1.out); (case side7 => exact BK0.out); (case side8 => exact BK180.out); (case side9 => exact BK183.out); (case side10 => repeat (first | exact (Kd.C_below HR0_0.out HB.out) | with_reducible first | refine Kd.C_drewN ?_ _ | refine Kd.C_drew ?_ | refine Kd.C_alloc ?_ _)); (case side11 => exact HC0_0.out); (case side12 => repeat (first | exact (Kd.C_below HR0_1.out HB.out) | with_reducible first | refine Kd.C_drewN ?_ _ | refine Kd.C_drew ?_ | refine Kd.C_alloc ?_ _)); (case side13 => exact HC0_1.out); rintro e w22 ⟨rfl, hb⟩; have n0_ := Aside0.mk (blb hb BK0.out); have n1_ := Aside0.mk (blb hb BK180.out); have n2_ := Aside0.mk (blb hb BK181.out); have n3_ := Aside0.mk (blb hb BK183.out); have n4_ := Aside0.mk (below_step (by repeat with_reducible first | exact HB.out | apply pw_below_drewN | refine below_set ?_ GE0.out | refine below_set ?_ GE180.out | refine below_set ?_ GE181.out | refine below_set ?_ GE183.out | apply below_drew1 | apply below_alloc) hb); clear BK0; clear BK180; clear BK181; clear BK183; clear HB; have BK0 := n0_; have BK180 := n1_; have BK181 := n2_; have BK183 := n3_; have HB := n4_; clear n0_ n1_ n2_ n3_ n4_; (try clear hb); (try clear hb2); (try clear hk); (try clear hi)))
  have n0_ := Aside0.mk (blk_drew BK0.out)
  have n1_ := Aside0.mk (blk_drew BK180.out)
  have n2_ := Aside0.mk (blk_drew BK181.out)
  have n3_ := Aside0.mk (blk_drew BK183.out)
  have n4_ := Aside0.mk (below_drew1 HB.out)
  clear BK0
  clear BK180
  clear BK181
  clear BK183
  clear HB
  have BK0 := n0_
  have BK180 := n1_
  have BK181 := n2_
  have BK183 := n3_
  have HB := n4_
  clear n0_ n1_ n2_ n3_ n4_
  have p186 : 0 ≤ (t184 : Int) := of_decide_eq_true (by assumption)
  have q186 : t184 < (l0_1.length : Int) := of_decide_eq_true (by assumption)
  obtain ⟨ad186, e186, hx186_0⟩ := Kd.at_int HR0_1.out t184 p186 q186
  have hw186_0 := hx186_0
  cases e186
  replace hx186_0 := (HB.out.cell (World.block_lt_of_cell? w _ hx186_0)).trans hx186_0
  replace p186 := eq_true p186
  replace q186 := eq_true q186
  refine start_ (n := 13) (S := fun w' => w'.cell? ⟨gb180, 0, none⟩ = some (.pointer (some ⟨g0, 0, none⟩)) ∧ w'.cell? ⟨g0, 0, none⟩ = some (.slice A0_0 l0_0.length c0_0) ∧ w'.cell? ⟨g0, 1, none⟩ = some (.slice (some ad186) l0_1.length c0_1) ∧ w'.cell? (ad186.add (t184).toNat) = some (.int .i64 (rd l0_1 t184))) (ds := []) (bs 13 0) (by kernel_rfl) rfl rfl ⟨(blk_cell BK180.out 0).trans rfl, (blk_cell BK0.out 0).trans rfl, (blk_cell BK0.out 1).trans rfl, ((HB.out.cell (World.block_lt_of_cell? w _ hw186_0)).trans hw186_0)⟩ (fun hHeld => ?_); refine with_tabW object_para.tab12 object_para.bits12 (fun HT_ HW_ => ?_)
  generalize w22.drew = w23 at BK0 BK180 BK181 BK183 HB hx186_0 hHeld ⊢
  refine pure_ (i := 4) (N := some 51) (v := ?_) (a' := ?_) (bs 13 16) rfl rfl (any_of HT_.out (by kernel_rfl)) (fun _ _ _ h => h) (Or.inl ⟨by rfl, ?_⟩) ?_ ?_
  rotate_left
  · intro w'; go_simp; with_reducible rfl
  rotate_left
  · simp only [Act.put, List.setIfInBounds_toArray, List.set_cons_zero, List.set_cons_succ, i64_w, i32_w]; rfl
  refine pure_ (i := 8) (N := some 55) (v := ?_) (a' := ?_) (bs 13 272) rfl rfl (any_of HT_.out (by kernel_rfl)) (fun _ _ _ h => h) (Or.inl ⟨by rfl, ?_⟩) ?_ ?_
  rotate_left
  · intro w'; go_simp; with_reducible rfl
  rotate_left
  · simp only [Act.put, List.setIfInBounds_toArray, List.set_cons_zero, List.set_cons_succ, i64_w, i32_w]; rfl
  refine take_ (i := 0) (N := some 47) (v := ?_) (a' := ?_) (bs 13 273) rfl rfl (take_ofW HT_.out HW_.out (by kernel_rfl)) (fun _ _ _ h => h) (Or.inl ⟨by rfl, ?_⟩) hHeld ?_ ?_
  rotate_left
  · rintro w' ⟨s0, s1, s2, s3⟩; go_simp; with_reducible rfl
  rotate_left
  · simp only [Act.put, List.setIfInBounds_toArray, List.set_cons_zero, List.set_cons_succ, i64_w, i32_w]; rfl
  refine pure_ (i := 1) (N := some 48) (v := ?_) (a' := ?_) (bs 13 275) rfl rfl (any_of HT_.out (by kernel_rfl)) (fun _ _ _ h => h) (Or.inl ⟨by rfl, ?_⟩) ?_ ?_
  rotate_left
  · intro w'; go_simp; with_reducible rfl
  rotate_left
  · simp only [Act.put, List.setIfInBounds_toArray, List.set_cons_zero, List.set_cons_succ, i64_w, i32_w]; rfl
  refine pure_ (i := 2) (N := some 49) (v := ?_) (a' := ?_) (bs 13 279) rfl rfl (any_of HT_.out (by kernel_rfl)) (fun _ _ _ h => h) (Or.inl ⟨by rfl, ?_⟩) ?_ ?_
  rotate_left
  · intro w'; go_simp; with_reducible rfl
  rotate_left
  · simp only [Act.put, List.setIfInBounds_toArray, List.set_cons_zero, List.set_cons_succ, i64_w, i32_w]; rfl
  refine take_ (i := 3) (N := some 50) (v := ?_) (a' := ?_) (bs 13 287) rfl rfl (take_ofW HT_.out HW_.out (by kernel_rfl)) (fun _ _ _ h => h) (Or.inl ⟨by rfl, ?_⟩) hHeld ?_ ?_
  rotate_left
  · rintro w' ⟨s0, s1, s2, s3⟩; go_simp; with_reducible rfl
  rotate_left
  · simp only [Act.put, List.setIfInBounds_toArray, List.set_cons_zero, List.set_cons_succ, i64_w, i32_w]; rfl
  refine pure_ (i := 5) (N := some 52) (v := ?_) (a' := ?_) (bs 13 319) rfl rfl (any_of HT_.out (by kernel_rfl)) (fun _ _ _ h => h) (Or.inl ⟨by rfl, ?_⟩) ?_ ?_
  rotate_left
  · intro w'; go_simp; with_reducible rfl
  rotate_left
  · simp only [Act.put, List.setIfInBounds_toArray, List.set_cons_zero, List.set_cons_succ, i64_w, i32_w]; rfl
  refine take_ (i := 6) (N := some 53) (v := ?_) (a' := ?_) (bs 13 383) rfl rfl (take_ofW HT_.out HW_.out (by kernel_rfl)) (fun _ _ _ h => h) (Or.inl ⟨by rfl, ?_⟩) hHeld ?_ ?_
  rotate_left
  · rintro w' ⟨s0, s1, s2, s3⟩; go_simp; with_reducible rfl
  rotate_left
  · simp only [Act.put, List.setIfInBounds_toArray, List.set_cons_zero, List.set_cons_succ, i64_w, i32_w]; rfl
  refine take_ (i := 7) (N := some 54) (v := ?_) (a' := ?_) (bs 13 511) rfl rfl (take_ofW HT_.out HW_.out (by kernel_rfl)) (fun _ _ _ h => h) (Or.inl ⟨by rfl, ?_⟩) hHeld ?_ ?_
  rotate_left
  · rintro w' ⟨s0, s1, s2, s3⟩; go_simp; with_reducible rfl
  rotate_left
  · simp only [Act.put, List.setIfInBounds_toArray, List.set_cons_zero, List.set_cons_succ, i64_w, i32_w]; rfl
  refine one_ (i := 9) (N := some 56) (bs 13 1023) rfl rfl (one_of HT_.out (by kernel_rfl)) (by decide) (fun K hK => ?_)
  refine goes_ Tryd.func45 (by kernel_rfl) rfl #[.pointer (some ⟨g0, 0, none⟩), .int .i64 t185] (by rfl) rfl rfl (by (try simp only [List.map_toArray, List.map_cons, List.map_nil]); first | done | rfl | (simp only [List.length_drop, List.length_take]; rfl)) ?_
  with_reducible refine (text_Map_End.calls g0 A0_0 c0_0 l0_0 (some ad186) c0_1 l0_1 t185 t187 _ ?side1 ?side2 ?side3 ?side4 ?side5 A10.out).mono ?_
  (case side1 => exact BK0.out)
  (case side2 => repeat (first | exact (Kd.C_below HR0_0.out HB.out) | with_reducible first | refine Kd.C_drewN ?_ _ | refine Kd.C_drew ?_ | refine Kd.C_alloc ?_ _))
  (case side3 => exact HC0_0.out)
  (case side4 => repeat (first | exact (Kd.C_below HR0_1.out HB.out) | with_reducible first | refine Kd.C_drewN ?_ _ | refine Kd.C_drew ?_ | refine Kd.C_alloc ?_ _))
  (case side5 => exact HC0_1.out)
  rintro e w' ⟨rfl, ⟨nd, rfl⟩⟩
  refine ⟨_, rfl, ?_⟩
  refine hK.out _ _ ⟨(blk_cell BK180.out 0).trans rfl, (blk_cell BK0.out 0).trans rfl, (blk_cell BK0.out 1).trans rfl, ((HB.out.cell (World.block_lt_of_cell? w _ hw186_0)).trans hw186_0)⟩ (fun hHeld => ?_)
  clear hK K
  refine norm_ (a' := ?_) ?_ ?_
  rotate_left
  · show Act.put _ (some 56) _ = _; simp only [Act.put, List.setIfInBounds_toArray, List.set_cons_zero, List.set_cons_succ, i64_w, i32_w]; rfl
  refine pure_ (i := 10) (N := some 57) (v := ?_) (a' := ?_) (bs 13 2047) rfl rfl (any_of HT_.out (by kernel_rfl)) (fun _ _ _ h => h) (Or.inl ⟨by rfl, ?_⟩) ?_ ?_
  rotate_left
  · intro w'; go_simp; with_reducible rfl
  rotate_left
  · simp only [Act.put, List.setIfInBounds_toArray, List.set_cons_zero, List.set_cons_succ, i64_w, i32_w]; rfl
  refine one_ (i := 11) (N := none) (bs 13 4095) rfl rfl (one_of HT_.out (by kernel_rfl)) (by decide) (fun K hK => ?_)
  have hs24 := cz0 BK181.out
  have hfs24 := blk_frozen BK181.out 0
  have hns24_0 := NB0_181.out
  have hns24_1 := NB180_181.out
  have hns24_3 := NB183_181.out
  have hms24_0 := NB181_0.out
  have hms24_1 := NB181_180.out
  have hms24_3 := NB181_183.out
  have hs25 := cz1 BK181.out
  have hfs25 := blk_frozen BK181.out 1
  have hns25_0 := NB0_181.out
  have hns25_1 := NB180_181.out
  have hns25_3 := NB183_181.out
  have hms25_0 := NB181_0.out
  have hms25_1 := NB181_180.out
  have hms25_3 := NB181_183.out
  have hs26 := cz2 BK181.out
  have hfs26 := blk_frozen BK181.out 2
  have hns26_0 := NB0_181.out
  have hns26_1 := NB180_181.out
  have hns26_3 := NB183_181.out
  have hms26_0 := NB181_0.out
  have hms26_1 := NB181_180.out
  have hms26_3 := NB181_183.out
  refine skip_ (w1 := ?_) (by rfl) rfl ?_ ?_
  rotate_left
  ·
   go_simp
   rfl
  refine hK.out _ _ ⟨((cell_far (p := ⟨gb181, _, none⟩) NB180_181.out _).trans (((cell_far (p := ⟨gb181, _, none⟩) NB180_181.out _).trans (((cell_far (p := ⟨gb181, _, none⟩) NB180_181.out _).trans (hHeld.1)))))), ((cell_far (p := ⟨gb181, _, none⟩) NB0_181.out _).trans (((cell_far (p := ⟨gb181, _, none⟩) NB0_181.out _).trans (((cell_far (p := ⟨gb181, _, none⟩) NB0_181.out _).trans (hHeld.2.1)))))), ((cell_far (p := ⟨gb181, _, none⟩) NB0_181.out _).trans (((cell_far (p := ⟨gb181, _, none⟩) NB0_181.out _).trans (((cell_far (p := ⟨gb181, _, none⟩) NB0_181.out _).trans (hHeld.2.2.1)))))), ((cell_far (p := ⟨gb181, _, none⟩) (by first | exact Nat.ne_of_lt (Nat.lt_of_lt_of_le (by have := World.block_lt_of_cell? _ _ hw186_0; first | rwa [add_block] at this | exact this) GW181.out) | (rw [add_block]; exact Nat.ne_of_lt (Nat.lt_of_lt_of_le (by have := World.block_lt_of_cell? _ _ hw186_0; first | rwa [add_block] at this | exact this) GW181.out)) | (show (Addr.add _ _).block ≠ _; rw [add_block]; exact Nat.ne_of_lt (Nat.lt_of_lt_of_le (by have := World.block_lt_of_cell? _ _ hw186_0; first | rwa [add_block] at this | exact this) GW181.out)) | (dsimp only; exact Nat.ne_of_lt (Nat.lt_of_lt_of_le (by have := World.block_lt_of_cell? _ _ hw186_0; first | rwa [add_block] at this | exact this) GW181.out))) _).trans (((cell_far (p := ⟨gb181, _, none⟩) (by first | exact Nat.ne_of_lt (Nat.lt_of_lt_of_le (by have := World.block_lt_of_cell? _ _ hw186_0; first | rwa [add_block] at this | exact this) GW181.out) | (rw [add_block]; exact Nat.ne_of_lt (Nat.lt_of_lt_of_le (by have := World.block_lt_of_cell? _ _ hw186_0; first | rwa [add_block] at this | exact this) GW181.out)) | (show (Addr.add _ _).block ≠ _; rw [add_block]; exact Nat.ne_of_lt (Nat.lt_of_lt_of_le (by have := World.block_lt_of_cell? _ _ hw186_0; first | rwa [add_block] at this | exact this) GW181.out)) | (dsimp only; exact Nat.ne_of_lt (Nat.lt_of_lt_of_le (by have := World.block_lt_of_cell? _ _ hw186_0; first | rwa [add_block] at this | exact this) GW181.out))) _).trans (((cell_far (p := ⟨gb181, _, none⟩) (by first | exact Nat.ne_of_lt (Nat.lt_of_lt_of_le (by have := World.block_lt_of_cell? _ _ hw186_0; first | rwa [add_block] at this | exact this) GW181.out) | (rw [add_block]; exact Nat.ne_of_lt (Nat.lt_of_lt_of_le (by have := World.block_lt_of_cell? _ _ hw186_0; first | rwa [add_block] at this | exact this) GW181.out)) | (show (Addr.add _ _).block ≠ _; rw [add_block]; exact Nat.ne_of_lt (Nat.lt_of_lt_of_le (by have := World.block_lt_of_cell? _ _ hw186_0; first | rwa [add_block] at this | exact this) GW181.out)) | (dsimp only; exact Nat.ne_of_lt (Nat.lt_of_lt_of_le (by have := World.block_lt_of_cell? _ _ hw186_0; first | rwa [add_block] at this | exact this) GW181.out))) _).trans (hHeld.2.2.2))))))⟩ (fun hHeld => ?_)
  clear hK K
  refine pure_ (i := 12) (N := some 7) (v := ?_) (a' := ?_) (bs 13 8191) rfl rfl (any_of HT_.out (by kernel_rfl)) (fun _ _ _ h => h) (Or.inl ⟨by rfl, ?_⟩) ?_ ?_
  rotate_left
  · intro w'; go_simp; with_reducible rfl
  rotate_left
  · simp only [Act.put, List.setIfInBounds_toArray, List.set_cons_zero, List.set_cons_succ, i64_w, i32_w]; rfl
  refine done_ (done_of HT_.out (by kernel_rfl)) ?_
  try go_wp2
  refine bodyPost_ret (results_ct rfl _ _ gb181 35 #[.int .i64 (rd l0_1 t184), .int .i64 t187, .bool true] (0, 0) _ rfl (by (with_reducible repeat (first | refine blk_drewN ?_ _ | refine blk_drew ?_ | refine blk_alloc ?_ _)); refine blk_put (cs := #[.int .i64 (rd l0_1 t184), .int .i64 t187, .bool false]) ?_ 2 _ rfl; (with_reducible repeat (first | refine blk_drewN ?_ _ | refine blk_drew ?_ | refine blk_alloc ?_ _)); refine blk_put (cs := #[.int .i64 (rd l0_1 t184), .int .i64 0, .bool false]) ?_ 1 _ rfl; (with_reducible repeat (first | refine blk_drewN ?_ _ | refine blk_drew ?_ | refine blk_alloc ?_ _)); refine blk_put (cs := #[.int .i64 0, .int .i64 0, .bool false]) ?_ 0 _ rfl; (with_reducible repeat (first | refine blk_drewN ?_ _ | refine blk_drew ?_ | refine blk_alloc ?_ _)); exact BK181.out) Tryd.underlying35 rfl (by kernel_rfl)) rfl ?_
  exact ⟨by first | rfl | (simp [errW_none, errW_some] <;> rfl) | (simp [*, errW_none, errW_some] <;> rfl), by repeat with_reducible first | exact HB.out | apply pw_below_drewN | refine below_set ?_ GE0.out | refine below_set ?_ GE180.out | refine below_set ?_ GE181.out | refine below_set ?_ GE183.out | apply below_drew1 | apply below_alloc⟩
 rw [if_neg c7] at H
 have c7b0 : (a2 == 105) = false := beq_eq_false_iff_ne.mpr c7
 have c7b1 : (a2 != 105) = true := bne_iff_ne.mpr c7
 replace H := Option.bind_eq_some_iff.mp H
 obtain ⟨t188, A270, H⟩ := H
 (try dsimp only at H)
 have A27 := Aside0.mk A270
 clear A270
 by_cases c28 : (wrap64 (t185 + 1)) < t188
 ·
  rw [if_pos c28] at H
  have c28b0 := decide_eq_true c28
  clear c28
  replace H := Option.bind_eq_some_iff.mp H
  obtain ⟨t189, A290, H⟩ := H
  (try dsimp only at H)
  have A29 := Aside0.mk A290
  clear A290
  by_cases c30 : 0 ≤ t184
  rotate_left
  ·
   rw [if_neg c30] at H
   exact absurd H (by simp)
  rw [if_pos c30] at H
  have c30b0 := decide_eq_true c30
  clear c30
  by_cases c31 : t184 < (l0_1.length : Int)
  rotate_left
  ·
   rw [if_neg c31] at H
   exact absurd H (by simp)
  rw [if_pos c31] at H
  have c31b0 := decide_eq_true c31
  clear c31
  replace H := Option.bind_eq_some_iff.mp H
  obtain ⟨t191, A320, H⟩ := H
  (try dsimp only at H)
  have A32 := Aside0.mk A320
  clear A320
  simp only [Option.some.injEq, Prod.mk.injEq] at H
  obtain ⟨rfl, rfl, rfl, rfl⟩ := H
  go_enter Tryd.func31, Tryd.ntmps31
  try go_wp2_with (first | ((with_reducible refine gate_dst (N := 3) rfl ?_); refine box_event ?hg (N := 3) ?hd (cs := #[.pointer (some ⟨g0, 0, none⟩)]) (t := 49) ?hr ?_; (case hd => rfl); (case hg => rfl); (case hr => first | (go_simp; done) | (go_simp; rfl)); intro gb180 hg w33 hbox hb; have n0_ := Aside0.mk (blb hb BK0.out); have n1_ := Aside0.mk (below_step (by repeat with_reducible first | exact HB.out | apply pw_below_drewN | refine below_set ?_ GE0.out | apply below_drew1 | apply below_alloc) hb); have n2_ := Aside0.mk (hbox); have n3_ := Aside0.mk (geb hg (by repeat with_reducible first | exact HB.out | apply pw_below_drewN | refine below_set ?_ GE0.out | apply below_drew1 | apply below_alloc)); have n4_ := n3_; have n5_ := Aside0.mk ((nbl hg BK0.out)); have n6_ := Aside0.mk ((nbr hg BK0.out)); clear BK0; clear HB; have BK0 := n0_; have HB := n1_; have BK180 := n2_; have GW180 := n3_; have GE180 := n4_; have NB0_180 := n5_; have NB180_0 := n6_; clear n0_ n1_ n2_ n3_ n4_ n5_ n6_; clear hb hbox hg) | ((with_reducible refine gate_dst (N := 6) rfl ?_); refine box_event ?hg (N := 6) ?hd (cs := #[.int .i64 0, .int .i64 0, .bool false]) (t := 35) ?hr ?_; (case hd => rfl); (case hg => rfl); (case hr => first | (go_simp; done) | (go_simp; rfl)); intro gb181 hg w34 hbox hb; have n0_ := Aside0.mk (blb hb BK0.out); have n1_ := Aside0.mk (blb hb BK180.out); have n2_ := Aside0.mk (below_step (by repeat with_reducible first | exact HB.out | apply pw_below_drewN | refine below_set ?_ GE0.out | refine below_set ?_ GE180.out | apply below_drew1 | apply below_alloc) hb); have n3_ := Aside0.mk (hbox); have n4_ := Aside0.mk (geb hg (by repeat with_reducible first | exact HB.out | apply pw_below_drewN | refine below_set ?_ GE0.out | refine below_set ?_ GE180.out | apply below_drew1 | apply below_alloc)); have n5_ := n4_; have n6_ := Aside0.mk ((nbl hg BK0.out)); have n7_ := Aside0.mk ((nbr hg BK0.out)); have n8_ := Aside0.mk ((nbl hg BK180.out)); have n9_ := Aside0.mk ((nbr hg BK180.out)); clear BK0; clear BK180; clear HB; have BK0 := n0_; have BK180 := n1_; have HB := n2_; have BK181 := n3_; have GW181 := n4_; have GE181 := n5_; have NB0_181 := n6_; have NB181_0 := n7_; have NB180_181 := n8_; have NB181_180 := n9_; clear n0_ n1_ n2_ n3_ n4_ n5_ n6_ n7_ n8_ n9_; clear hb hbox hg; have hnb35 := NB180_0.out; have hnc35 := NB0_180.out; have hnb36 := NB180_181.out; have hnc36 := NB181_180.out; have hcz37_0 := cz0 BK180.out; have hfz37_0 := blk_frozen BK180.out 0) | ((with_reducible refine gate_callee (f := 44) rfl ?_); refine goesL_ (some 16) rfl rfl Tryd.func44 (by kernel_rfl) rfl #[.pointer (some ⟨g0, 0, none⟩), .int .i64 a1] rfl (map2 rfl rfl) ?_; (with_reducible refine (text_Map_Row.calls k g0 A0_0 c0_0 l0_0 A0_1 c0_1 l0_1 a1 t182 _ ?side1 ?side2 ?side3 ?side4 ?side5 A4.out).mono ?_); (case side1 => exact BK0.out); (case side2 => repeat (first | exact (Kd.C_below HR0_0.out HB.out) | with_reducible first | refine Kd.C_drewN ?_ _ | refine Kd.C_drew ?_ | refine Kd.C_alloc ?_ _)); (case side3 => exact HC0_0.out); (case side4 => repeat (first | exact (Kd.C_below HR0_1.out HB.out) | with_reducible first | refine Kd.C_drewN ?_ _ | refine Kd.C_drew ?_ | refine Kd.C_alloc ?_ _)); (case side5 => exact HC0_1.out); rintro e w' ⟨rfl, ⟨nd, rfl⟩⟩; refine ⟨_, rfl, ?_⟩; (try (rw [drewN_self w34]; generalize hq_ : World.drewN w34 _ = w34; have n0_ : Aside0 (w34.heap[g0]? = some (.cells #[.slice A0_0 l0_0.length c0_0, .slice A0_1 l0_1.length c0_1] 66 (0, 0))) := ⟨by rw [← hq_]; exact (by exact BK0.out)⟩; have n1_ : Aside0 (w34.heap[gb180]? = some (.cells #[.pointer (some ⟨g0, 0, none⟩)] 49 (0, 0))) := ⟨by rw [← hq_]; exact (by exact BK180.out)⟩; have n2_ : Aside0 (w34.heap[gb181]? = some (.cells #[.int .i64 0, .int .i64 0, .bool false] 35 (0, 0))) := ⟨by rw [← hq_]; exact (by exact BK181.out)⟩; have n3_ : Aside0 (Below w.heap.size w w34) := ⟨by rw [← hq_]; exact (by repeat with_reducible first | exact HB.out | apply pw_below_drewN | refine below_set ?_ GE0.out | refine below_set ?_ GE180.out | refine below_set ?_ GE181.out | apply below_drew1 | apply below_alloc)⟩; clear BK0 BK180 BK181 HB hq_; have BK0 := n0_; have BK180 := n1_; have BK181 := n2_; have HB := n3_; clear n0_ n1_ n2_ n3_))) | ((with_reducible refine gate_dst (N := 9) rfl ?_); refine box_event ?hg (N := 9) ?hd (cs := #[.nilFunc]) (t := 43) ?hr ?_; (case hd => rfl); (case hg => rfl); (case hr => first | (go_simp; done) | (go_simp; rfl)); intro gb183 hg w38 hbox hb; have n0_ := Aside0.mk (blb hb BK0.out); have n1_ := Aside0.mk (blb hb BK180.out); have n2_ := Aside0.mk (blb hb BK181.out); have n3_ := Aside0.mk (below_step (by repeat with_reducible first | exact HB.out | apply pw_below_drewN | refine below_set ?_ GE0.out | refine below_set ?_ GE180.out | refine below_set ?_ GE181.out | apply below_drew1 | apply below_alloc) hb); have n4_ := Aside0.mk (hbox); have n5_ := Aside0.mk (geb hg (by repeat with_reducible first | exact HB.out | apply pw_below_drewN | refine below_set ?_ GE0.out | refine below_set ?_ GE180.out | refine below_set ?_ GE181.out | apply below_drew1 | apply below_alloc)); have n6_ := n5_; have n7_ := Aside0.mk ((nbl hg BK0.out)); have n8_ := Aside0.mk ((nbr hg BK0.out)); have n9_ := Aside0.mk ((nbl hg BK180.out)); have n10_ := Aside0.mk ((nbr hg BK180.out)); have n11_ := Aside0.mk ((nbl hg BK181.out)); have n12_ := Aside0.mk ((nbr hg BK181.out)); clear BK0; clear BK180; clear BK181; clear HB; have BK0 := n0_; have BK180 := n1_; have BK181 := n2_; have HB := n3_; have BK183 := n4_; have GW183 := n5_; have GE183 := n6_; have NB0_183 := n7_; have NB183_0 := n8_; have NB180_183 := n9_; have NB183_180 := n10_; have NB181_183 := n11_; have NB183_181 := n12_; clear n0_ n1_ n2_ n3_ n4_ n5_ n6_ n7_ n8_ n9_ n10_ n11_ n12_; clear hb hbox hg; have hnb39 := NB183_0.out; have hnc39 := NB0_183.out; have hnb40 := NB183_180.out; have hnc40 := NB180_183.out; have hnb41 := NB183_181.out; have hnc41 := NB181_183.out; have hcz42_0 := cz0 BK183.out; have hfz42_0 := blk_frozen BK183.out 0) | (go_at_call 50; (with_reducible refine (object_para_2.calls k t182 g0 gb180 gb183 A0_0 c0_0 l0_0 A0_1 c0_1 l0_1 t184 _ ?side1 ?side2 ?side3 ?side4 ?side5 ?side6 ?side7 A5.out).mono ?_); (case side1 => (with_reducible repeat (first | refine blk_drewN ?_ _ | refine blk_drew ?_ | refine blk_alloc ?_ _)); refine blk_far ?_ NB0_183.out _; (with_reducible repeat (first | refine blk_drewN ?_ _ | refine blk_drew ?_ | refine blk_alloc ?_ _)); exact BK0.out); (case side2 => (with_reducible repeat (first | refine blk_drewN ?_ _ | refine blk_drew ?_ | refine blk_alloc ?_ _)); refine blk_far ?_ NB180_183.out _; (with_reducible repeat (first | refine blk_drewN ?_ _ | refine blk_drew ?_ | refine blk_alloc ?_ _)); exact BK180.out); (case side3 => (with_reducible repeat (first | refine blk_drewN ?_ _ | refine blk_drew ?_ | refine blk_alloc ?_ _)); refine blk_put (cs := #[.nilFunc]) ?_ 0 _ rfl; (with_reducible repeat (first | refine blk_drewN ?_ _ | refine blk_drew ?_ | refine blk_alloc ?_ _)); exact BK183.out); (case side4 => exact Kd.C_below HR0_0.out (by repeat with_reducible first | exact HB.out | apply pw_below_drewN | refine below_set ?_ GE0.out | refine below_set ?_ GE180.out | refine below_set ?_ GE181.out | refine below_set ?_ GE183.out | apply below_drew1 | apply below_alloc)); (case side5 => exact HC0_0.out); (case side6 => exact Kd.C_below HR0_1.out (by repeat with_reducible first | exact HB.out | apply pw_below_drewN | refine below_set ?_ GE0.out | refine below_set ?_ GE180.out | refine below_set ?_ GE181.out | refine below_set ?_ GE183.out | apply below_drew1 | apply below_alloc)); (case side7 => exact HC0_1.out); rintro e w43 ⟨rfl, hb⟩; have n0_ := Aside0.mk (blk_below (g := g0) (o := .cells #[.slice A0_0 l0_0.length c0_0, .slice A0_1 l0_1.length c0_1] 66 (0, 0)) (by (with_reducible repeat (first | refine blk_drewN ?_ _ | refine blk_drew ?_ | refine blk_alloc ?_ _)); refine blk_far ?_ NB0_183.out _; (with_reducible repeat (first | refine blk_drewN ?_ _ | refine blk_drew ?_ | refine blk_alloc ?_ _)); exact BK0.out) hb); have n1_ := Aside0.mk (blk_below (g := gb180) (o := .cells #[.pointer (some ⟨g0, 0, none⟩)] 49 (0, 0)) (by (with_reducible repeat (first | refine blk_drewN ?_ _ | refine blk_drew ?_ | refine blk_alloc ?_ _)); refine blk_far ?_ NB180_183.out _; (with_reducible repeat (first | refine blk_drewN ?_ _ | refine blk_drew ?_ | refine blk_alloc ?_ _)); exact BK180.out) hb); have n2_ := Aside0.mk (blk_below (g := gb181) (o := .cells #[.int .i64 0, .int .i64 0, .bool false] 35 (0, 0)) (by (with_reducible repeat (first | refine blk_drewN ?_ _ | refine blk_drew ?_ | refine blk_alloc ?_ _)); refine blk_far ?_ NB181_183.out _; (with_reducible repeat (first | refine blk_drewN ?_ _ | refine blk_drew ?_ | refine blk_alloc ?_ _)); exact BK181.out) hb); have n3_ := Aside0.mk (blk_below (g := gb183) (o := .cells #[.func (.func 49) #[] #[.pointer (some ⟨gb180, 0, none⟩)]] 43 (0, 0)) (by (with_reducible repeat (first | refine blk_drewN ?_ _ | refine blk_drew ?_ | refine blk_alloc ?_ _)); refine blk_put (cs := #[.nilFunc]) ?_ 0 _ rfl; (with_reducible repeat (first | refine blk_drewN ?_ _ | refine blk_drew ?_ | refine blk_alloc ?_ _)); exact BK183.out) hb); have n4_ := Aside0.mk (below_step (by repeat with_reducible first | exact HB.out | apply pw_below_drewN | refine below_set ?_ GE0.out | refine below_set ?_ GE180.out | refine below_set ?_ GE181.out | refine below_set ?_ GE183.out | apply below_drew1 | apply below_alloc) hb); clear BK0; clear BK180; clear BK181; clear BK183; clear HB; have BK0 := n0_; have BK180 := n1_; have BK181 := n2_; have BK183 := n3_; have HB := n4_; clear n0_ n1_ n2_ n3_ n4_; (try clear hb); (try clear hb2); (try clear hk); (try clear hi)) | (go_at_call 51; (with_reducible refine (object_para_3.calls k t182 g0 gb180 A0_0 c0_0 l0_0 A0_1 c0_1 l0_1 g0 gb180 gb183 A0_0 c0_0 l0_0 A0_1 c0_1 l0_1 t185 _ ?side1 ?side2 ?side3 ?side4 ?side5 ?side6 ?side7 ?side8 ?side9 ?side10 ?side11 ?side12 ?side13 A6.out).mono ?_); (case side1 => exact BK0.out); (case side2 => exact BK180.out); (case side3 => repeat (first | exact (Kd.C_below HR0_0.out HB.out) | with_reducible first | refine Kd.C_drewN ?_ _ | refine Kd.C_drew ?_ | refine Kd.C_alloc ?_ _)); (case side4 => exact HC0_0.out); (case side5 => repeat (first | exact (Kd.C_below HR0_1.out HB.out) | with_reducible first | refine Kd.C_drewN ?_ _ | refine Kd.C_drew ?_ | refine Kd.C_alloc ?_ _)); (case side6 => exact HC0_1.out); (case side7 => exact BK0.out); (case side8 => exact BK180.out); (case side9 => exact BK183.out); (case side10 => repeat (first | exact (Kd.C_below HR0_0.out HB.out) | with_reducible first | refine Kd.C_drewN ?_ _ | refine Kd.C_drew ?_ | refine Kd.C_alloc ?_ _)); (case side11 => exact HC0_0.out); (case side12 => repeat (first | exact (Kd.C_below HR0_1.out HB.out) | with_reducible first | refine Kd.C_drewN ?_ _ | refine Kd.C_drew ?_ | refine Kd.C_alloc ?_ _)); (case side13 => exact HC0_1.out); rintro e w44 ⟨rfl, hb⟩; have n0_ := Aside0.mk (blb hb BK0.out); have n1_ := Aside0.mk (blb hb BK180.out); have n2_ := Aside0.mk (blb hb BK181.out); have n3_ := Aside0.mk (blb hb BK183.out); have n4_ := Aside0.mk (below_step (by repeat with_reducible first | exact HB.out | apply pw_below_drewN | refine below_set ?_ GE0.out | refine below_set ?_ GE180.out | refine below_set ?_ GE181.out | refine below_set ?_ GE183.out | apply below_drew1 | apply below_alloc) hb); clear BK0; clear BK180; clear BK181; clear BK183; clear HB; have BK0 := n0_; have BK180 := n1_; have BK181 := n2_; have BK183 := n3_; have HB := n4_; clear n0_ n1_ n2_ n3_ n4_; (try clear hb); (try clear hb2); (try clear hk); (try clear hi); have hcz45_0 := cz0 BK180.out; have hfz45_0 := blk_frozen BK180.out 0) | ((with_reducible refine gate_callee (f := 52) rfl ?_); refine goesL_ (some 34) rfl rfl Tryd.func52 (by kernel_rfl) rfl #[.pointer (some ⟨g0, 0, none⟩)] rfl (map1 rfl) ?_; (with_reducible refine (text_Map_Rows.calls g0 A0_0 c0_0 l0_0 A0_1 c0_1 l0_1 t188 _ ?side1 ?side2 ?side3 ?side4 ?side5 A27.out).mono ?_); (case side1 => exact BK0.out); (case side2 => repeat (first | exact (Kd.C_below HR0_0.out HB.out) | with_reducible first | refine Kd.C_drewN ?_ _ | refine Kd.C_drew ?_ | refine Kd.C_alloc ?_ _)); (case side3 => exact HC0_0.out); (case side4 => repeat (first | exact (Kd.C_below HR0_1.out HB.out) | with_reducible first | refine Kd.C_drewN ?_ _ | refine Kd.C_drew ?_ | refine Kd.C_alloc ?_ _)); (case side5 => exact HC0_1.out); rintro e w' ⟨rfl, ⟨nd, rfl⟩⟩; refine ⟨_, rfl, ?_⟩; (try (rw [drewN_self w44]; generalize hq_ : World.drewN w44 _ = w44; have n0_ : Aside0 (w44.heap[g0]? = some (.cells #[.slice A0_0 l0_0.length c0_0, .slice A0_1 l0_1.length c0_1] 66 (0, 0))) := ⟨by rw [← hq_]; exact (by exact BK0.out)⟩; have n1_ : Aside0 (w44.heap[gb180]? = some (.cells #[.pointer (some ⟨g0, 0, none⟩)] 49 (0, 0))) := ⟨by rw [← hq_]; exact (by exact BK180.out)⟩; have n2_ : Aside0 (w44.heap[gb181]? = some (.cells #[.int .i64 0, .int .i64 0, .bool false] 35 (0, 0))) := ⟨by rw [← hq_]; exact (by exact BK181.out)⟩; have n3_ : Aside0 (w44.heap[gb183]? = some (.cells #[.func (.func 49) #[] #[.pointer (some ⟨gb180, 0, none⟩)]] 43 (0, 0))) := ⟨by rw [← hq_]; exact (by exact BK183.out)⟩; have n4_ : Aside0 (Below w.heap.size w w44) := ⟨by rw [← hq_]; exact (by repeat with_reducible first | exact HB.out | apply pw_below_drewN | refine below_set ?_ GE0.out | refine below_set ?_ GE180.out | refine below_set ?_ GE181.out | refine below_set ?_ GE183.out | apply below_drew1 | apply below_alloc)⟩; clear BK0 BK180 BK181 BK183 HB hq_; have BK0 := n0_; have BK180 := n1_; have BK181 := n2_; have BK183 := n3_; have HB := n4_; clear n0_ n1_ n2_ n3_ n4_))) | (go_at_call 51; (with_reducible refine (object_para_3.calls k (wrap64 (t185 + 1)) g0 gb180 A0_0 c0_0 l0_0 A0_1 c0_1 l0_1 g0 gb180 gb183 A0_0 c0_0 l0_0 A0_1 c0_1 l0_1 t189 _ ?side1 ?side2 ?side3 ?side4 ?side5 ?side6 ?side7 ?side8 ?side9 ?side10 ?side11 ?side12 ?side13 A29.out).mono ?_); (case side1 => exact BK0.out); (case side2 => exact BK180.out); (case side3 => repeat (first | exact (Kd.C_below HR0_0.out HB.out) | with_reducible first | refine Kd.C_drewN ?_ _ | refine Kd.C_drew ?_ | refine Kd.C_alloc ?_ _)); (case side4 => exact HC0_0.out); (case side5 => repeat (first | exact (Kd.C_below HR0_1.out HB.out) | with_reducible first | refine Kd.C_drewN ?_ _ | refine Kd.C_drew ?_ | refine Kd.C_alloc ?_ _)); (case side6 => exact HC0_1.out); (case side7 => exact BK0.out); (case side8 => exact BK180.out); (case side9 => exact BK183.out); (case side10 => repeat (first | exact (Kd.C_below HR0_0.out HB.out) | with_reducible first | refine Kd.C_drewN ?_ _ | refine Kd.C_drew ?_ | refine Kd.C_alloc ?_ _)); (case side11 => exact HC0_0.out); (case side12 => repeat (first | exact (Kd.C_below HR0_1.out HB.out) | with_reducible first | refine Kd.C_drewN ?_ _ | refine Kd.C_drew ?_ | refine Kd.C_alloc ?_ _)); (case side13 => exact HC0_1.out); rintro e w46 ⟨rfl, hb⟩; have n0_ := Aside0.mk (blb hb BK0.out); have n1_ := Aside0.mk (blb hb BK180.out); have n2_ := Aside0.mk (blb hb BK181.out); have n3_ := Aside0.mk (blb hb BK183.out); have n4_ := Aside0.mk (below_step (by repeat with_reducible first | exact HB.out | apply pw_below_drewN | refine below_set ?_ GE0.out | refine below_set ?_ GE180.out | refine below_set ?_ GE181.out | refine below_set ?_ GE183.out | apply below_drew1 | apply below_alloc) hb); clear BK0; clear BK180; clear BK181; clear BK183; clear HB; have BK0 := n0_; have BK180 := n1_; have BK181 := n2_; have BK183 := n3_; have HB := n4_; clear n0_ n1_ n2_ n3_ n4_; (try clear hb); (try clear hb2); (try clear hk); (try clear hi)))
  have n0_ := Aside0.mk (blk_drew BK0.out)
  have n1_ := Aside0.mk (blk_drew BK180.out)
  have n2_ := Aside0.mk (blk_drew BK181.out)
  have n3_ := Aside0.mk (blk_drew BK183.out)
  have n4_ := Aside0.mk (below_drew1 HB.out)
  clear BK0
  clear BK180
  clear BK181
  clear BK183
  clear HB
  have BK0 := n0_
  have BK180 := n1_
  have BK181 := n2_
  have BK183 := n3_
  have HB := n4_
  clear n0_ n1_ n2_ n3_ n4_
  have p190 : 0 ≤ (t184 : Int) := of_decide_eq_true (by assumption)
  have q190 : t184 < (l0_1.length : Int) := of_decide_eq_true (by assumption)
  obtain ⟨ad190, e190, hx190_0⟩ := Kd.at_int HR0_1.out t184 p190 q190
  have hw190_0 := hx190_0
  cases e190
  replace hx190_0 := (HB.out.cell (World.block_lt_of_cell? w _ hx190_0)).trans hx190_0
  replace p190 := eq_true p190
  replace q190 := eq_true q190
  refine start_ (n := 13) (S := fun w' => w'.cell? ⟨gb180, 0, none⟩ = some (.pointer (some ⟨g0, 0, none⟩)) ∧ w'.cell? ⟨g0, 0, none⟩ = some (.slice A0_0 l0_0.length c0_0) ∧ w'.cell? ⟨g0, 1, none⟩ = some (.slice (some ad190) l0_1.length c0_1) ∧ w'.cell? (ad190.add (t184).toNat) = some (.int .i64 (rd l0_1 t184))) (ds := []) (bs 13 0) (by kernel_rfl) rfl rfl ⟨(blk_cell BK180.out 0).trans rfl, (blk_cell BK0.out 0).trans rfl, (blk_cell BK0.out 1).trans rfl, ((HB.out.cell (World.block_lt_of_cell? w _ hw190_0)).trans hw190_0)⟩ (fun hHeld => ?_); refine with_tabW object_para.tab12 object_para.bits12 (fun HT_ HW_ => ?_)
  generalize w46.drew = w47 at BK0 BK180 BK181 BK183 HB hx190_0 hHeld ⊢
  refine pure_ (i := 4) (N := some 51) (v := ?_) (a' := ?_) (bs 13 16) rfl rfl (any_of HT_.out (by kernel_rfl)) (fun _ _ _ h => h) (Or.inl ⟨by rfl, ?_⟩) ?_ ?_
  rotate_left
  · intro w'; go_simp; with_reducible rfl
  rotate_left
  · simp only [Act.put, List.setIfInBounds_toArray, List.set_cons_zero, List.set_cons_succ, i64_w, i32_w]; rfl
  refine pure_ (i := 8) (N := some 55) (v := ?_) (a' := ?_) (bs 13 272) rfl rfl (any_of HT_.out (by kernel_rfl)) (fun _ _ _ h => h) (Or.inl ⟨by rfl, ?_⟩) ?_ ?_
  rotate_left
  · intro w'; go_simp; with_reducible rfl
  rotate_left
  · simp only [Act.put, List.setIfInBounds_toArray, List.set_cons_zero, List.set_cons_succ, i64_w, i32_w]; rfl
  refine take_ (i := 0) (N := some 47) (v := ?_) (a' := ?_) (bs 13 273) rfl rfl (take_ofW HT_.out HW_.out (by kernel_rfl)) (fun _ _ _ h => h) (Or.inl ⟨by rfl, ?_⟩) hHeld ?_ ?_
  rotate_left
  · rintro w' ⟨s0, s1, s2, s3⟩; go_simp; with_reducible rfl
  rotate_left
  · simp only [Act.put, List.setIfInBounds_toArray, List.set_cons_zero, List.set_cons_succ, i64_w, i32_w]; rfl
  refine pure_ (i := 1) (N := some 48) (v := ?_) (a' := ?_) (bs 13 275) rfl rfl (any_of HT_.out (by kernel_rfl)) (fun _ _ _ h => h) (Or.inl ⟨by rfl, ?_⟩) ?_ ?_
  rotate_left
  · intro w'; go_simp; with_reducible rfl
  rotate_left
  · simp only [Act.put, List.setIfInBounds_toArray, List.set_cons_zero, List.set_cons_succ, i64_w, i32_w]; rfl
  refine pure_ (i := 2) (N := some 49) (v := ?_) (a' := ?_) (bs 13 279) rfl rfl (any_of HT_.out (by kernel_rfl)) (fun _ _ _ h => h) (Or.inl ⟨by rfl, ?_⟩) ?_ ?_
  rotate_left
  · intro w'; go_simp; with_reducible rfl
  rotate_left
  · simp only [Act.put, List.setIfInBounds_toArray, List.set_cons_zero, List.set_cons_succ, i64_w, i32_w]; rfl
  refine take_ (i := 3) (N := some 50) (v := ?_) (a' := ?_) (bs 13 287) rfl rfl (take_ofW HT_.out HW_.out (by kernel_rfl)) (fun _ _ _ h => h) (Or.inl ⟨by rfl, ?_⟩) hHeld ?_ ?_
  rotate_left
  · rintro w' ⟨s0, s1, s2, s3⟩; go_simp; with_reducible rfl
  rotate_left
  · simp only [Act.put, List.setIfInBounds_toArray, List.set_cons_zero, List.set_cons_succ, i64_w, i32_w]; rfl
  refine pure_ (i := 5) (N := some 52) (v := ?_) (a' := ?_) (bs 13 319) rfl rfl (any_of HT_.out (by kernel_rfl)) (fun _ _ _ h => h) (Or.inl ⟨by rfl, ?_⟩) ?_ ?_
  rotate_left
  · intro w'; go_simp; with_reducible rfl
  rotate_left
  · simp only [Act.put, List.setIfInBounds_toArray, List.set_cons_zero, List.set_cons_succ, i64_w, i32_w]; rfl
  refine take_ (i := 6) (N := some 53) (v := ?_) (a' := ?_) (bs 13 383) rfl rfl (take_ofW HT_.out HW_.out (by kernel_rfl)) (fun _ _ _ h => h) (Or.inl ⟨by rfl, ?_⟩) hHeld ?_ ?_
  rotate_left
  · rintro w' ⟨s0, s1, s2, s3⟩; go_simp; with_reducible rfl
  rotate_left
  · simp only [Act.put, List.setIfInBounds_toArray, List.set_cons_zero, List.set_cons_succ, i64_w, i32_w]; rfl
  refine take_ (i := 7) (N := some 54) (v := ?_) (a' := ?_) (bs 13 511) rfl rfl (take_ofW HT_.out HW_.out (by kernel_rfl)) (fun _ _ _ h => h) (Or.inl ⟨by rfl, ?_⟩) hHeld ?_ ?_
  rotate_left
  · rintro w' ⟨s0, s1, s2, s3⟩; go_simp; with_reducible rfl
  rotate_left
  · simp only [Act.put, List.setIfInBounds_toArray, List.set_cons_zero, List.set_cons_succ, i64_w, i32_w]; rfl
  refine one_ (i := 9) (N := some 56) (bs 13 1023) rfl rfl (one_of HT_.out (by kernel_rfl)) (by decide) (fun K hK => ?_)
  refine goes_ Tryd.func45 (by kernel_rfl) rfl #[.pointer (some ⟨g0, 0, none⟩), .int .i64 t189] (by rfl) rfl rfl (by (try simp only [List.map_toArray, List.map_cons, List.map_nil]); first | done | rfl | (simp only [List.length_drop, List.length_take]; rfl)) ?_
  with_reducible refine (text_Map_End.calls g0 A0_0 c0_0 l0_0 (some ad190) c0_1 l0_1 t189 t191 _ ?side1 ?side2 ?side3 ?side4 ?side5 A32.out).mono ?_
  (case side1 => exact BK0.out)
  (case side2 => repeat (first | exact (Kd.C_below HR0_0.out HB.out) | with_reducible first | refine Kd.C_drewN ?_ _ | refine Kd.C_drew ?_ | refine Kd.C_alloc ?_ _))
  (case side3 => exact HC0_0.out)
  (case side4 => repeat (first | exact (Kd.C_below HR0_1.out HB.out) | with_reducible first | refine Kd.C_drewN ?_ _ | refine Kd.C_drew ?_ | refine Kd.C_alloc ?_ _))
  (case side5 => exact HC0_1.out)
  rintro e w' ⟨rfl, ⟨nd, rfl⟩⟩
  refine ⟨_, rfl, ?_⟩
  refine hK.out _ _ ⟨(blk_cell BK180.out 0).trans rfl, (blk_cell BK0.out 0).trans rfl, (blk_cell BK0.out 1).trans rfl, ((HB.out.cell (World.block_lt_of_cell? w _ hw190_0)).trans hw190_0)⟩ (fun hHeld => ?_)
  clear hK K
  refine norm_ (a' := ?_) ?_ ?_
  rotate_left
  · show Act.put _ (some 56) _ = _; simp only [Act.put, List.setIfInBounds_toArray, List.set_cons_zero, List.set_cons_succ, i64_w, i32_w]; rfl
  refine pure_ (i := 10) (N := some 57) (v := ?_) (a' := ?_) (bs 13 2047) rfl rfl (any_of HT_.out (by kernel_rfl)) (fun _ _ _ h => h) (Or.inl ⟨by rfl, ?_⟩) ?_ ?_
  rotate_left
  · intro w'; go_simp; with_reducible rfl
  rotate_left
  · simp only [Act.put, List.setIfInBounds_toArray, List.set_cons_zero, List.set_cons_succ, i64_w, i32_w]; rfl
  refine one_ (i := 11) (N := none) (bs 13 4095) rfl rfl (one_of HT_.out (by kernel_rfl)) (by decide) (fun K hK => ?_)
  have hs48 := cz0 BK181.out
  have hfs48 := blk_frozen BK181.out 0
  have hns48_0 := NB0_181.out
  have hns48_1 := NB180_181.out
  have hns48_3 := NB183_181.out
  have hms48_0 := NB181_0.out
  have hms48_1 := NB181_180.out
  have hms48_3 := NB181_183.out
  have hs49 := cz1 BK181.out
  have hfs49 := blk_frozen BK181.out 1
  have hns49_0 := NB0_181.out
  have hns49_1 := NB180_181.out
  have hns49_3 := NB183_181.out
  have hms49_0 := NB181_0.out
  have hms49_1 := NB181_180.out
  have hms49_3 := NB181_183.out
  have hs50 := cz2 BK181.out
  have hfs50 := blk_frozen BK181.out 2
  have hns50_0 := NB0_181.out
  have hns50_1 := NB180_181.out
  have hns50_3 := NB183_181.out
  have hms50_0 := NB181_0.out
  have hms50_1 := NB181_180.out
  have hms50_3 := NB181_183.out
  refine skip_ (w1 := ?_) (by rfl) rfl ?_ ?_
  rotate_left
  ·
   go_simp
   rfl
  refine hK.out _ _ ⟨((cell_far (p := ⟨gb181, _, none⟩) NB180_181.out _).trans (((cell_far (p := ⟨gb181, _, none⟩) NB180_181.out _).trans (((cell_far (p := ⟨gb181, _, none⟩) NB180_181.out _).trans (hHeld.1)))))), ((cell_far (p := ⟨gb181, _, none⟩) NB0_181.out _).trans (((cell_far (p := ⟨gb181, _, none⟩) NB0_181.out _).trans (((cell_far (p := ⟨gb181, _, none⟩) NB0_181.out _).trans (hHeld.2.1)))))), ((cell_far (p := ⟨gb181, _, none⟩) NB0_181.out _).trans (((cell_far (p := ⟨gb181, _, none⟩) NB0_181.out _).trans (((cell_far (p := ⟨gb181, _, none⟩) NB0_181.out _).trans (hHeld.2.2.1)))))), ((cell_far (p := ⟨gb181, _, none⟩) (by first | exact Nat.ne_of_lt (Nat.lt_of_lt_of_le (by have := World.block_lt_of_cell? _ _ hw190_0; first | rwa [add_block] at this | exact this) GW181.out) | (rw [add_block]; exact Nat.ne_of_lt (Nat.lt_of_lt_of_le (by have := World.block_lt_of_cell? _ _ hw190_0; first | rwa [add_block] at this | exact this) GW181.out)) | (show (Addr.add _ _).block ≠ _; rw [add_block]; exact Nat.ne_of_lt (Nat.lt_of_lt_of_le (by have := World.block_lt_of_cell? _ _ hw190_0; first | rwa [add_block] at this | exact this) GW181.out)) | (dsimp only; exact Nat.ne_of_lt (Nat.lt_of_lt_of_le (by have := World.block_lt_of_cell? _ _ hw190_0; first | rwa [add_block] at this | exact this) GW181.out))) _).trans (((cell_far (p := ⟨gb181, _, none⟩) (by first | exact Nat.ne_of_lt (Nat.lt_of_lt_of_le (by have := World.block_lt_of_cell? _ _ hw190_0; first | rwa [add_block] at this | exact this) GW181.out) | (rw [add_block]; exact Nat.ne_of_lt (Nat.lt_of_lt_of_le (by have := World.block_lt_of_cell? _ _ hw190_0; first | rwa [add_block] at this | exact this) GW181.out)) | (show (Addr.add _ _).block ≠ _; rw [add_block]; exact Nat.ne_of_lt (Nat.lt_of_lt_of_le (by have := World.block_lt_of_cell? _ _ hw190_0; first | rwa [add_block] at this | exact this) GW181.out)) | (dsimp only; exact Nat.ne_of_lt (Nat.lt_of_lt_of_le (by have := World.block_lt_of_cell? _ _ hw190_0; first | rwa [add_block] at this | exact this) GW181.out))) _).trans (((cell_far (p := ⟨gb181, _, none⟩) (by first | exact Nat.ne_of_lt (Nat.lt_of_lt_of_le (by have := World.block_lt_of_cell? _ _ hw190_0; first | rwa [add_block] at this | exact this) GW181.out) | (rw [add_block]; exact Nat.ne_of_lt (Nat.lt_of_lt_of_le (by have := World.block_lt_of_cell? _ _ hw190_0; first | rwa [add_block] at this | exact this) GW181.out)) | (show (Addr.add _ _).block ≠ _; rw [add_block]; exact Nat.ne_of_lt (Nat.lt_of_lt_of_le (by have := World.block_lt_of_cell? _ _ hw190_0; first | rwa [add_block] at this | exact this) GW181.out)) | (dsimp only; exact Nat.ne_of_lt (Nat.lt_of_lt_of_le (by have := World.block_lt_of_cell? _ _ hw190_0; first | rwa [add_block] at this | exact this) GW181.out))) _).trans (hHeld.2.2.2))))))⟩ (fun hHeld => ?_)
  clear hK K
  refine pure_ (i := 12) (N := some 7) (v := ?_) (a' := ?_) (bs 13 8191) rfl rfl (any_of HT_.out (by kernel_rfl)) (fun _ _ _ h => h) (Or.inl ⟨by rfl, ?_⟩) ?_ ?_
  rotate_left
  · intro w'; go_simp; with_reducible rfl
  rotate_left
  · simp only [Act.put, List.setIfInBounds_toArray, List.set_cons_zero, List.set_cons_succ, i64_w, i32_w]; rfl
  refine done_ (done_of HT_.out (by kernel_rfl)) ?_
  try go_wp2
  refine bodyPost_ret (results_ct rfl _ _ gb181 35 #[.int .i64 (rd l0_1 t184), .int .i64 t191, .bool true] (0, 0) _ rfl (by (with_reducible repeat (first | refine blk_drewN ?_ _ | refine blk_drew ?_ | refine blk_alloc ?_ _)); refine blk_put (cs := #[.int .i64 (rd l0_1 t184), .int .i64 t191, .bool false]) ?_ 2 _ rfl; (with_reducible repeat (first | refine blk_drewN ?_ _ | refine blk_drew ?_ | refine blk_alloc ?_ _)); refine blk_put (cs := #[.int .i64 (rd l0_1 t184), .int .i64 0, .bool false]) ?_ 1 _ rfl; (with_reducible repeat (first | refine blk_drewN ?_ _ | refine blk_drew ?_ | refine blk_alloc ?_ _)); refine blk_put (cs := #[.int .i64 0, .int .i64 0, .bool false]) ?_ 0 _ rfl; (with_reducible repeat (first | refine blk_drewN ?_ _ | refine blk_drew ?_ | refine blk_alloc ?_ _)); exact BK181.out) Tryd.underlying35 rfl (by kernel_rfl)) rfl ?_
  exact ⟨by first | rfl | (simp [errW_none, errW_some] <;> rfl) | (simp [*, errW_none, errW_some] <;> rfl), by repeat with_reducible first | exact HB.out | apply pw_below_drewN | refine below_set ?_ GE0.out | refine below_set ?_ GE180.out | refine below_set ?_ GE181.out | refine below_set ?_ GE183.out | apply below_drew1 | apply below_alloc⟩
 rw [if_neg c28] at H
 have c28b0 := decide_eq_false c28
 clear c28
 by_cases c51 : t184 > 0
 rotate_left
 ·
  rw [if_neg c51] at H
  have c51b0 := decide_eq_false c51
  clear c51
  simp only [Option.some.injEq, Prod.mk.injEq] at H
  obtain ⟨rfl, rfl, rfl, rfl⟩ := H
  go_enter Tryd.func31, Tryd.ntmps31
  go_wp2_with (first | ((with_reducible refine gate_dst (N := 3) rfl ?_); refine box_event ?hg (N := 3) ?hd (cs := #[.pointer (some ⟨g0, 0, none⟩)]) (t := 49) ?hr ?_; (case hd => rfl); (case hg => rfl); (case hr => first | (go_simp; done) | (go_simp; rfl)); intro gb180 hg w74 hbox hb; have n0_ := Aside0.mk (blb hb BK0.out); have n1_ := Aside0.mk (below_step (by repeat with_reducible first | exact HB.out | apply pw_below_drewN | refine below_set ?_ GE0.out | apply below_drew1 | apply below_alloc) hb); have n2_ := Aside0.mk (hbox); have n3_ := Aside0.mk (geb hg (by repeat with_reducible first | exact HB.out | apply pw_below_drewN | refine below_set ?_ GE0.out | apply below_drew1 | apply below_alloc)); have n4_ := n3_; have n5_ := Aside0.mk ((nbl hg BK0.out)); have n6_ := Aside0.mk ((nbr hg BK0.out)); clear BK0; clear HB; have BK0 := n0_; have HB := n1_; have BK180 := n2_; have GW180 := n3_; have GE180 := n4_; have NB0_180 := n5_; have NB180_0 := n6_; clear n0_ n1_ n2_ n3_ n4_ n5_ n6_; clear hb hbox hg) | ((with_reducible refine gate_dst (N := 6) rfl ?_); refine box_event ?hg (N := 6) ?hd (cs := #[.int .i64 0, .int .i64 0, .bool false]) (t := 35) ?hr ?_; (case hd => rfl); (case hg => rfl); (case hr => first | (go_simp; done) | (go_simp; rfl)); intro gb181 hg w75 hbox hb; have n0_ := Aside0.mk (blb hb BK0.out); have n1_ := Aside0.mk (blb hb BK180.out); have n2_ := Aside0.mk (below_step (by repeat with_reducible first | exact HB.out | apply pw_below_drewN | refine below_set ?_ GE0.out | refine below_set ?_ GE180.out | apply below_drew1 | apply below_alloc) hb); have n3_ := Aside0.mk (hbox); have n4_ := Aside0.mk (geb hg (by repeat with_reducible first | exact HB.out | apply pw_below_drewN | refine below_set ?_ GE0.out | refine below_set ?_ GE180.out | apply below_drew1 | apply below_alloc)); have n5_ := n4_; have n6_ := Aside0.mk ((nbl hg BK0.out)); have n7_ := Aside0.mk ((nbr hg BK0.out)); have n8_ := Aside0.mk ((nbl hg BK180.out)); have n9_ := Aside0.mk ((nbr hg BK180.out)); clear BK0; clear BK180; clear HB; have BK0 := n0_; have BK180 := n1_; have HB := n2_; have BK181 := n3_; have GW181 := n4_; have GE181 := n5_; have NB0_181 := n6_; have NB181_0 := n7_; have NB180_181 := n8_; have NB181_180 := n9_; clear n0_ n1_ n2_ n3_ n4_ n5_ n6_ n7_ n8_ n9_; clear hb hbox hg; have hnb76 := NB180_0.out; have hnc76 := NB0_180.out; have hnb77 := NB180_181.out; have hnc77 := NB181_180.out; have hcz78_0 := cz0 BK180.out; have hfz78_0 := blk_frozen BK180.out 0) | ((with_reducible refine gate_callee (f := 44) rfl ?_); refine goesL_ (some 16) rfl rfl Tryd.func44 (by kernel_rfl) rfl #[.pointer (some ⟨g0, 0, none⟩), .int .i64 a1] rfl (map2 rfl rfl) ?_; (with_reducible refine (text_Map_Row.calls k g0 A0_0 c0_0 l0_0 A0_1 c0_1 l0_1 a1 t182 _ ?side1 ?side2 ?side3 ?side4 ?side5 A4.out).mono ?_); (case side1 => exact BK0.out); (case side2 => repeat (first | exact (Kd.C_below HR0_0.out HB.out) | with_reducible first | refine Kd.C_drewN ?_ _ | refine Kd.C_drew ?_ | refine Kd.C_alloc ?_ _)); (case side3 => exact HC0_0.out); (case side4 => repeat (first | exact (Kd.C_below HR0_1.out HB.out) | with_reducible first | refine Kd.C_drewN ?_ _ | refine Kd.C_drew ?_ | refine Kd.C_alloc ?_ _)); (case side5 => exact HC0_1.out); rintro e w' ⟨rfl, ⟨nd, rfl⟩⟩; refine ⟨_, rfl, ?_⟩; (try (rw [drewN_self w75]; generalize hq_ : World.drewN w75 _ = w75; have n0_ : Aside0 (w75.heap[g0]? = some (.cells #[.slice A0_0 l0_0.length c0_0, .slice A0_1 l0_1.length c0_1] 66 (0, 0))) := ⟨by rw [← hq_]; exact (by exact BK0.out)⟩; have n1_ : Aside0 (w75.heap[gb180]? = some (.cells #[.pointer (some ⟨g0, 0, none⟩)] 49 (0, 0))) := ⟨by rw [← hq_]; exact (by exact BK180.out)⟩; have n2_ : Aside0 (w75.heap[gb181]? = some (.cells #[.int .i64 0, .int .i64 0, .bool false] 35 (0, 0))) := ⟨by rw [← hq_]; exact (by exact BK181.out)⟩; have n3_ : Aside0 (Below w.heap.size w w75) := ⟨by rw [← hq_]; exact (by repeat with_reducible first | exact HB.out | apply pw_below_drewN | refine below_set ?_ GE0.out | refine below_set ?_ GE180.out | refine below_set ?_ GE181.out | apply below_drew1 | apply below_alloc)⟩; clear BK0 BK180 BK181 HB hq_; have BK0 := n0_; have BK180 := n1_; have BK181 := n2_; have HB := n3_; clear n0_ n1_ n2_ n3_))) | ((with_reducible refine gate_dst (N := 9) rfl ?_); refine box_event ?hg (N := 9) ?hd (cs := #[.nilFunc]) (t := 43) ?hr ?_; (case hd => rfl); (case hg => rfl); (case hr => first | (go_simp; done) | (go_simp; rfl)); intro gb183 hg w79 hbox hb; have n0_ := Aside0.mk (blb hb BK0.out); have n1_ := Aside0.mk (blb hb BK180.out); have n2_ := Aside0.mk (blb hb BK181.out); have n3_ := Aside0.mk (below_step (by repeat with_reducible first | exact HB.out | apply pw_below_drewN | refine below_set ?_ GE0.out | refine below_set ?_ GE180.out | refine below_set ?_ GE181.out | apply below_drew1 | apply below_alloc) hb); have n4_ := Aside0.mk (hbox); have n5_ := Aside0.mk (geb hg (by repeat with_reducible first | exact HB.out | apply pw_below_drewN | refine below_set ?_ GE0.out | refine below_set ?_ GE180.out | refine below_set ?_ GE181.out | apply below_drew1 | apply below_alloc)); have n6_ := n5_; have n7_ := Aside0.mk ((nbl hg BK0.out)); have n8_ := Aside0.mk ((nbr hg BK0.out)); have n9_ := Aside0.mk ((nbl hg BK180.out)); have n10_ := Aside0.mk ((nbr hg BK180.out)); have n11_ := Aside0.mk ((nbl hg BK181.out)); have n12_ := Aside0.mk ((nbr hg BK181.out)); clear BK0; clear BK180; clear BK181; clear HB; have BK0 := n0_; have BK180 := n1_; have BK181 := n2_; have HB := n3_; have BK183 := n4_; have GW183 := n5_; have GE183 := n6_; have NB0_183 := n7_; have NB183_0 := n8_; have NB180_183 := n9_; have NB183_180 := n10_; have NB181_183 := n11_; have NB183_181 := n12_; clear n0_ n1_ n2_ n3_ n4_ n5_ n6_ n7_ n8_ n9_ n10_ n11_ n12_; clear hb hbox hg; have hnb80 := NB183_0.out; have hnc80 := NB0_183.out; have hnb81 := NB183_180.out; have hnc81 := NB180_183.out; have hnb82 := NB183_181.out; have hnc82 := NB181_183.out; have hcz83_0 := cz0 BK183.out; have hfz83_0 := blk_frozen BK183.out 0) | (go_at_call 50; (with_reducible refine (object_para_2.calls k t182 g0 gb180 gb183 A0_0 c0_0 l0_0 A0_1 c0_1 l0_1 t184 _ ?side1 ?side2 ?side3 ?side4 ?side5 ?side6 ?side7 A5.out).mono ?_); (case side1 => (with_reducible repeat (first | refine blk_drewN ?_ _ | refine blk_drew ?_ | refine blk_alloc ?_ _)); refine blk_far ?_ NB0_183.out _; (with_reducible repeat (first | refine blk_drewN ?_ _ | refine blk_drew ?_ | refine blk_alloc ?_ _)); exact BK0.out); (case side2 => (with_reducible repeat (first | refine blk_drewN ?_ _ | refine blk_drew ?_ | refine blk_alloc ?_ _)); refine blk_far ?_ NB180_183.out _; (with_reducible repeat (first | refine blk_drewN ?_ _ | refine blk_drew ?_ | refine blk_alloc ?_ _)); exact BK180.out); (case side3 => (with_reducible repeat (first | refine blk_drewN ?_ _ | refine blk_drew ?_ | refine blk_alloc ?_ _)); refine blk_put (cs := #[.nilFunc]) ?_ 0 _ rfl; (with_reducible repeat (first | refine blk_drewN ?_ _ | refine blk_drew ?_ | refine blk_alloc ?_ _)); exact BK183.out); (case side4 => exact Kd.C_below HR0_0.out (by repeat with_reducible first | exact HB.out | apply pw_below_drewN | refine below_set ?_ GE0.out | refine below_set ?_ GE180.out | refine below_set ?_ GE181.out | refine below_set ?_ GE183.out | apply below_drew1 | apply below_alloc)); (case side5 => exact HC0_0.out); (case side6 => exact Kd.C_below HR0_1.out (by repeat with_reducible first | exact HB.out | apply pw_below_drewN | refine below_set ?_ GE0.out | refine below_set ?_ GE180.out | refine below_set ?_ GE181.out | refine below_set ?_ GE183.out | apply below_drew1 | apply below_alloc)); (case side7 => exact HC0_1.out); rintro e w84 ⟨rfl, hb⟩; have n0_ := Aside0.mk (blk_below (g := g0) (o := .cells #[.slice A0_0 l0_0.length c0_0, .slice A0_1 l0_1.length c0_1] 66 (0, 0)) (by (with_reducible repeat (first | refine blk_drewN ?_ _ | refine blk_drew ?_ | refine blk_alloc ?_ _)); refine blk_far ?_ NB0_183.out _; (with_reducible repeat (first | refine blk_drewN ?_ _ | refine blk_drew ?_ | refine blk_alloc ?_ _)); exact BK0.out) hb); have n1_ := Aside0.mk (blk_below (g := gb180) (o := .cells #[.pointer (some ⟨g0, 0, none⟩)] 49 (0, 0)) (by (with_reducible repeat (first | refine blk_drewN ?_ _ | refine blk_drew ?_ | refine blk_alloc ?_ _)); refine blk_far ?_ NB180_183.out _; (with_reducible repeat (first | refine blk_drewN ?_ _ | refine blk_drew ?_ | refine blk_alloc ?_ _)); exact BK180.out) hb); have n2_ := Aside0.mk (blk_below (g := gb181) (o := .cells #[.int .i64 0, .int .i64 0, .bool false] 35 (0, 0)) (by (with_reducible repeat (first | refine blk_drewN ?_ _ | refine blk_drew ?_ | refine blk_alloc ?_ _)); refine blk_far ?_ NB181_183.out _; (with_reducible repeat (first | refine blk_drewN ?_ _ | refine blk_drew ?_ | refine blk_alloc ?_ _)); exact BK181.out) hb); have n3_ := Aside0.mk (blk_below (g := gb183) (o := .cells #[.func (.func 49) #[] #[.pointer (some ⟨gb180, 0, none⟩)]] 43 (0, 0)) (by (with_reducible repeat (first | refine blk_drewN ?_ _ | refine blk_drew ?_ | refine blk_alloc ?_ _)); refine blk_put (cs := #[.nilFunc]) ?_ 0 _ rfl; (with_reducible repeat (first | refine blk_drewN ?_ _ | refine blk_drew ?_ | refine blk_alloc ?_ _)); exact BK183.out) hb); have n4_ := Aside0.mk (below_step (by repeat with_reducible first | exact HB.out | apply pw_below_drewN | refine below_set ?_ GE0.out | refine below_set ?_ GE180.out | refine below_set ?_ GE181.out | refine below_set ?_ GE183.out | apply below_drew1 | apply below_alloc) hb); clear BK0; clear BK180; clear BK181; clear BK183; clear HB; have BK0 := n0_; have BK180 := n1_; have BK181 := n2_; have BK183 := n3_; have HB := n4_; clear n0_ n1_ n2_ n3_ n4_; (try clear hb); (try clear hb2); (try clear hk); (try clear hi)) | (go_at_call 51; (with_reducible refine (object_para_3.calls k t182 g0 gb180 A0_0 c0_0 l0_0 A0_1 c0_1 l0_1 g0 gb180 gb183 A0_0 c0_0 l0_0 A0_1 c0_1 l0_1 t185 _ ?side1 ?side2 ?side3 ?side4 ?side5 ?side6 ?side7 ?side8 ?side9 ?side10 ?side11 ?side12 ?side13 A6.out).mono ?_); (case side1 => exact BK0.out); (case side2 => exact BK180.out); (case side3 => repeat (first | exact (Kd.C_below HR0_0.out HB.out) | with_reducible first | refine Kd.C_drewN ?_ _ | refine Kd.C_drew ?_ | refine Kd.C_alloc ?_ _)); (case side4 => exact HC0_0.out); (case side5 => repeat (first | exact (Kd.C_below HR0_1.out HB.out) | with_reducible first | refine Kd.C_drewN ?_ _ | refine Kd.C_drew ?_ | refine Kd.C_alloc ?_ _)); (case side6 => exact HC0_1.out); (case side7 => exact BK0.out); (case side8 => exact BK180.out); (case side9 => exact BK183.out); (case side10 => repeat (first | exact (Kd.C_below HR0_0.out HB.out) | with_reducible first | refine Kd.C_drewN ?_ _ | refine Kd.C_drew ?_ | refine Kd.C_alloc ?_ _)); (case side11 => exact HC0_0.out); (case side12 => repeat (first | exact (Kd.C_below HR0_1.out HB.out) | with_reducible first | refine Kd.C_drewN ?_ _ | refine Kd.C_drew ?_ | refine Kd.C_alloc ?_ _)); (case side13 => exact HC0_1.out); rintro e w85 ⟨rfl, hb⟩; have n0_ := Aside0.mk (blb hb BK0.out); have n1_ := Aside0.mk (blb hb BK180.out); have n2_ := Aside0.mk (blb hb BK181.out); have n3_ := Aside0.mk (blb hb BK183.out); have n4_ := Aside0.mk (below_step (by repeat with_reducible first | exact HB.out | apply pw_below_drewN | refine below_set ?_ GE0.out | refine below_set ?_ GE180.out | refine below_set ?_ GE181.out | refine below_set ?_ GE183.out | apply below_drew1 | apply below_alloc) hb); clear BK0; clear BK180; clear BK181; clear BK183; clear HB; have BK0 := n0_; have BK180 := n1_; have BK181 := n2_; have BK183 := n3_; have HB := n4_; clear n0_ n1_ n2_ n3_ n4_; (try clear hb); (try clear hb2); (try clear hk); (try clear hi); have hcz86_0 := cz0 BK180.out; have hfz86_0 := blk_frozen BK180.out 0) | ((with_reducible refine gate_callee (f := 52) rfl ?_); refine goesL_ (some 34) rfl rfl Tryd.func52 (by kernel_rfl) rfl #[.pointer (some ⟨g0, 0, none⟩)] rfl (map1 rfl) ?_; (with_reducible refine (text_Map_Rows.calls g0 A0_0 c0_0 l0_0 A0_1 c0_1 l0_1 t188 _ ?side1 ?side2 ?side3 ?side4 ?side5 A27.out).mono ?_); (case side1 => exact BK0.out); (case side2 => repeat (first | exact (Kd.C_below HR0_0.out HB.out) | with_reducible first | refine Kd.C_drewN ?_ _ | refine Kd.C_drew ?_ | refine Kd.C_alloc ?_ _)); (case side3 => exact HC0_0.out); (case side4 => repeat (first | exact (Kd.C_below HR0_1.out HB.out) | with_reducible first | refine Kd.C_drewN ?_ _ | refine Kd.C_drew ?_ | refine Kd.C_alloc ?_ _)); (case side5 => exact HC0_1.out); rintro e w' ⟨rfl, ⟨nd, rfl⟩⟩; refine ⟨_, rfl, ?_⟩; (try (rw [drewN_self w85]; generalize hq_ : World.drewN w85 _ = w85; have n0_ : Aside0 (w85.heap[g0]? = some (.cells #[.slice A0_0 l0_0.length c0_0, .slice A0_1 l0_1.length c0_1] 66 (0, 0))) := ⟨by rw [← hq_]; exact (by exact BK0.out)⟩; have n1_ : Aside0 (w85.heap[gb180]? = some (.cells #[.pointer (some ⟨g0, 0, none⟩)] 49 (0, 0))) := ⟨by rw [← hq_]; exact (by exact BK180.out)⟩; have n2_ : Aside0 (w85.heap[gb181]? = some (.cells #[.int .i64 0, .int .i64 0, .bool false] 35 (0, 0))) := ⟨by rw [← hq_]; exact (by exact BK181.out)⟩; have n3_ : Aside0 (w85.heap[gb183]? = some (.cells #[.func (.func 49) #[] #[.pointer (some ⟨gb180, 0, none⟩)]] 43 (0, 0))) := ⟨by rw [← hq_]; exact (by exact BK183.out)⟩; have n4_ : Aside0 (Below w.heap.size w w85) := ⟨by rw [← hq_]; exact (by repeat with_reducible first | exact HB.out | apply pw_below_drewN | refine below_set ?_ GE0.out | refine below_set ?_ GE180.out | refine below_set ?_ GE181.out | refine below_set ?_ GE183.out | apply below_drew1 | apply below_alloc)⟩; clear BK0 BK180 BK181 BK183 HB hq_; have BK0 := n0_; have BK180 := n1_; have BK181 := n2_; have BK183 := n3_; have HB := n4_; clear n0_ n1_ n2_ n3_ n4_)); have hnb87 := NB181_0.out; have hnc87 := NB0_181.out; have hcz88_0 := cz0 BK181.out; have hcz88_1 := cz1 BK181.out; have hcz88_2 := cz2 BK181.out; have hfz88_0 := blk_frozen BK181.out 0; have hfz88_1 := blk_frozen BK181.out 1; have hfz88_2 := blk_frozen BK181.out 2))
  refine bodyPost_ret (results_ct rfl _ _ gb181 35 #[.int .i64 0, .int .i64 0, .bool false] (0, 0) _ rfl (by (with_reducible repeat (first | refine blk_drewN ?_ _ | refine blk_drew ?_ | refine blk_alloc ?_ _)); refine blk_put (cs := #[.int .i64 0, .int .i64 0, .bool false]) ?_ 2 _ rfl; (with_reducible repeat (first | refine blk_drewN ?_ _ | refine blk_drew ?_ | refine blk_alloc ?_ _)); refine blk_put (cs := #[.int .i64 0, .int .i64 0, .bool false]) ?_ 1 _ rfl; (with_reducible repeat (first | refine blk_drewN ?_ _ | refine blk_drew ?_ | refine blk_alloc ?_ _)); refine blk_put (cs := #[.int .i64 0, .int .i64 0, .bool false]) ?_ 0 _ rfl; (with_reducible repeat (first | refine blk_drewN ?_ _ | refine blk_drew ?_ | refine blk_alloc ?_ _)); exact BK181.out) Tryd.underlying35 rfl (by kernel_rfl)) rfl ?_
  exact ⟨by first | rfl | (simp [errW_none, errW_some] <;> rfl) | (simp [*, errW_none, errW_some] <;> rfl), by repeat with_reducible first | exact HB.out | apply pw_below_drewN | refine below_set ?_ GE0.out | refine below_set ?_ GE180.out | refine below_set ?_ GE181.out | refine below_set ?_ GE183.out | apply below_drew1 | apply below_alloc⟩
 rw [if_pos c51] at H
 have c51b0 := decide_eq_true c51
 clear c51
 replace H := Option.bind_eq_some_iff.mp H
 obtain ⟨t192, A520, H⟩ := H
 (try dsimp only at H)
 have A52 := Aside0.mk A520
 clear A520
 by_cases c53 : 0 ≤ t192
 rotate_left
 ·
  rw [if_neg c53] at H
  exact absurd H (by simp)
 rw [if_pos c53] at H
 have c53b0 := decide_eq_true c53
 clear c53
 by_cases c54 : t192 < (l0_1.length : Int)
 rotate_left
 ·
  rw [if_neg c54] at H
  exact absurd H (by simp)
 rw [if_pos c54] at H
 have c54b0 := decide_eq_true c54
 clear c54
 replace H := Option.bind_eq_some_iff.mp H
 obtain ⟨t194, A550, H⟩ := H
 (try dsimp only at H)
 have A55 := Aside0.mk A550
 clear A550
 simp only [Option.some.injEq, Prod.mk.injEq] at H
 obtain ⟨rfl, rfl, rfl, rfl⟩ := H
 go_enter Tryd.func31, Tryd.ntmps31
 try go_wp2_with (first | ((with_reducible refine gate_dst (N := 3) rfl ?_); refine box_event ?hg (N := 3) ?hd (cs := #[.pointer (some ⟨g0, 0, none⟩)]) (t := 49) ?hr ?_; (case hd => rfl); (case hg => rfl); (case hr => first | (go_simp; done) | (go_simp; rfl)); intro gb180 hg w56 hbox hb; have n0_ := Aside0.mk (blb hb BK0.out); have n1_ := Aside0.mk (below_step (by repeat with_reducible first | exact HB.out | apply pw_below_drewN | refine below_set ?_ GE0.out | apply below_drew1 | apply below_alloc) hb); have n2_ := Aside0.mk (hbox); have n3_ := Aside0.mk (geb hg (by repeat with_reducible first | exact HB.out | apply pw_below_drewN | refine below_set ?_ GE0.out | apply below_drew1 | apply below_alloc)); have n4_ := n3_; have n5_ := Aside0.mk ((nbl hg BK0.out)); have n6_ := Aside0.mk ((nbr hg BK0.out)); clear BK0; clear HB; have BK0 := n0_; have HB := n1_; have BK180 := n2_; have GW180 := n3_; have GE180 := n4_; have NB0_180 := n5_; have NB180_0 := n6_; clear n0_ n1_ n2_ n3_ n4_ n5_ n6_; clear hb hbox hg) | ((with_reducible refine gate_dst (N := 6) rfl ?_); refine box_event ?hg (N := 6) ?hd (cs := #[.int .i64 0, .int .i64 0, .bool false]) (t := 35) ?hr ?_; (case hd => rfl); (case hg => rfl); (case hr => first | (go_simp; done) | (go_simp; rfl)); intro gb181 hg w57 hbox hb; have n0_ := Aside0.mk (blb hb BK0.out); have n1_ := Aside0.mk (blb hb BK180.out); have n2_ := Aside0.mk (below_step (by repeat with_reducible first | exact HB.out | apply pw_below_drewN | refine below_set ?_ GE0.out | refine below_set ?_ GE180.out | apply below_drew1 | apply below_alloc) hb); have n3_ := Aside0.mk (hbox); have n4_ := Aside0.mk (geb hg (by repeat with_reducible first | exact HB.out | apply pw_below_drewN | refine below_set ?_ GE0.out | refine below_set ?_ GE180.out | apply below_drew1 | apply below_alloc)); have n5_ := n4_; have n6_ := Aside0.mk ((nbl hg BK0.out)); have n7_ := Aside0.mk ((nbr hg BK0.out)); have n8_ := Aside0.mk ((nbl hg BK180.out)); have n9_ := Aside0.mk ((nbr hg BK180.out)); clear BK0; clear BK180; clear HB; have BK0 := n0_; have BK180 := n1_; have HB := n2_; have BK181 := n3_; have GW181 := n4_; have GE181 := n5_; have NB0_181 := n6_; have NB181_0 := n7_; have NB180_181 := n8_; have NB181_180 := n9_; clear n0_ n1_ n2_ n3_ n4_ n5_ n6_ n7_ n8_ n9_; clear hb hbox hg; have hnb58 := NB180_0.out; have hnc58 := NB0_180.out; have hnb59 := NB180_181.out; have hnc59 := NB181_180.out; have hcz60_0 := cz0 BK180.out; have hfz60_0 := blk_frozen BK180.out 0) | ((with_reducible refine gate_callee (f := 44) rfl ?_); refine goesL_ (some 16) rfl rfl Tryd.func44 (by kernel_rfl) rfl #[.pointer (some ⟨g0, 0, none⟩), .int .i64 a1] rfl (map2 rfl rfl) ?_; (with_reducible refine (text_Map_Row.calls k g0 A0_0 c0_0 l0_0 A0_1 c0_1 l0_1 a1 t182 _ ?side1 ?side2 ?side3 ?side4 ?side5 A4.out).mono ?_); (case side1 => exact BK0.out); (case side2 => repeat (first | exact (Kd.C_below HR0_0.out HB.out) | with_reducible first | refine Kd.C_drewN ?_ _ | refine Kd.C_drew ?_ | refine Kd.C_alloc ?_ _)); (case side3 => exact HC0_0.out); (case side4 => repeat (first | exact (Kd.C_below HR0_1.out HB.out) | with_reducible first | refine Kd.C_drewN ?_ _ | refine Kd.C_drew ?_ | refine Kd.C_alloc ?_ _)); (case side5 => exact HC0_1.out); rintro e w' ⟨rfl, ⟨nd, rfl⟩⟩; refine ⟨_, rfl, ?_⟩; (try (rw [drewN_self w57]; generalize hq_ : World.drewN w57 _ = w57; have n0_ : Aside0 (w57.heap[g0]? = some (.cells #[.slice A0_0 l0_0.length c0_0, .slice A0_1 l0_1.length c0_1] 66 (0, 0))) := ⟨by rw [← hq_]; exact (by exact BK0.out)⟩; have n1_ : Aside0 (w57.heap[gb180]? = some (.cells #[.pointer (some ⟨g0, 0, none⟩)] 49 (0, 0))) := ⟨by rw [← hq_]; exact (by exact BK180.out)⟩; have n2_ : Aside0 (w57.heap[gb181]? = some (.cells #[.int .i64 0, .int .i64 0, .bool false] 35 (0, 0))) := ⟨by rw [← hq_]; exact (by exact BK181.out)⟩; have n3_ : Aside0 (Below w.heap.size w w57) := ⟨by rw [← hq_]; exact (by repeat with_reducible first | exact HB.out | apply pw_below_drewN | refine below_set ?_ GE0.out | refine below_set ?_ GE180.out | refine below_set ?_ GE181.out | apply below_drew1 | apply below_alloc)⟩; clear BK0 BK180 BK181 HB hq_; have BK0 := n0_; have BK180 := n1_; have BK181 := n2_; have HB := n3_; clear n0_ n1_ n2_ n3_))) | ((with_reducible refine gate_dst (N := 9) rfl ?_); refine box_event ?hg (N := 9) ?hd (cs := #[.nilFunc]) (t := 43) ?hr ?_; (case hd => rfl); (case hg => rfl); (case hr => first | (go_simp; done) | (go_simp; rfl)); intro gb183 hg w61 hbox hb; have n0_ := Aside0.mk (blb hb BK0.out); have n1_ := Aside0.mk (blb hb BK180.out); have n2_ := Aside0.mk (blb hb BK181.out); have n3_ := Aside0.mk (below_step (by repeat with_reducible first | exact HB.out | apply pw_below_drewN | refine below_set ?_ GE0.out | refine below_set ?_ GE180.out | refine below_set ?_ GE181.out | apply below_drew1 | apply below_alloc) hb); have n4_ := Aside0.mk (hbox); have n5_ := Aside0.mk (geb hg (by repeat with_reducible first | exact HB.out | apply pw_below_drewN | refine below_set ?_ GE0.out | refine below_set ?_ GE180.out | refine below_set ?_ GE181.out | apply below_drew1 | apply below_alloc)); have n6_ := n5_; have n7_ := Aside0.mk ((nbl hg BK0.out)); have n8_ := Aside0.mk ((nbr hg BK0.out)); have n9_ := Aside0.mk ((nbl hg BK180.out)); have n10_ := Aside0.mk ((nbr hg BK180.out)); have n11_ := Aside0.mk ((nbl hg BK181.out)); have n12_ := Aside0.mk ((nbr hg BK181.out)); clear BK0; clear BK180; clear BK181; clear HB; have BK0 := n0_; have BK180 := n1_; have BK181 := n2_; have HB := n3_; have BK183 := n4_; have GW183 := n5_; have GE183 := n6_; have NB0_183 := n7_; have NB183_0 := n8_; have NB180_183 := n9_; have NB183_180 := n10_; have NB181_183 := n11_; have NB183_181 := n12_; clear n0_ n1_ n2_ n3_ n4_ n5_ n6_ n7_ n8_ n9_ n10_ n11_ n12_; clear hb hbox hg; have hnb62 := NB183_0.out; have hnc62 := NB0_183.out; have hnb63 := NB183_180.out; have hnc63 := NB180_183.out; have hnb64 := NB183_181.out; have hnc64 := NB181_183.out; have hcz65_0 := cz0 BK183.out; have hfz65_0 := blk_frozen BK183.out 0) | (go_at_call 50; (with_reducible refine (object_para_2.calls k t182 g0 gb180 gb183 A0_0 c0_0 l0_0 A0_1 c0_1 l0_1 t184 _ ?side1 ?side2 ?side3 ?side4 ?side5 ?side6 ?side7 A5.out).mono ?_); (case side1 => (with_reducible repeat (first | refine blk_drewN ?_ _ | refine blk_drew ?_ | refine blk_alloc ?_ _)); refine blk_far ?_ NB0_183.out _; (with_reducible repeat (first | refine blk_drewN ?_ _ | refine blk_drew ?_ | refine blk_alloc ?_ _)); exact BK0.out); (case side2 => (with_reducible repeat (first | refine blk_drewN ?_ _ | refine blk_drew ?_ | refine blk_alloc ?_ _)); refine blk_far ?_ NB180_183.out _; (with_reducible repeat (first | refine blk_drewN ?_ _ | refine blk_drew ?_ | refine blk_alloc ?_ _)); exact BK180.out); (case side3 => (with_reducible repeat (first | refine blk_drewN ?_ _ | refine blk_drew ?_ | refine blk_alloc ?_ _)); refine blk_put (cs := #[.nilFunc]) ?_ 0 _ rfl; (with_reducible repeat (first | refine blk_drewN ?_ _ | refine blk_drew ?_ | refine blk_alloc ?_ _)); exact BK183.out); (case side4 => exact Kd.C_below HR0_0.out (by repeat with_reducible first | exact HB.out | apply pw_below_drewN | refine below_set ?_ GE0.out | refine below_set ?_ GE180.out | refine below_set ?_ GE181.out | refine below_set ?_ GE183.out | apply below_drew1 | apply below_alloc)); (case side5 => exact HC0_0.out); (case side6 => exact Kd.C_below HR0_1.out (by repeat with_reducible first | exact HB.out | apply pw_below_drewN | refine below_set ?_ GE0.out | refine below_set ?_ GE180.out | refine below_set ?_ GE181.out | refine below_set ?_ GE183.out | apply below_drew1 | apply below_alloc)); (case side7 => exact HC0_1.out); rintro e w66 ⟨rfl, hb⟩; have n0_ := Aside0.mk (blk_below (g := g0) (o := .cells #[.slice A0_0 l0_0.length c0_0, .slice A0_1 l0_1.length c0_1] 66 (0, 0)) (by (with_reducible repeat (first | refine blk_drewN ?_ _ | refine blk_drew ?_ | refine blk_alloc ?_ _)); refine blk_far ?_ NB0_183.out _; (with_reducible repeat (first | refine blk_drewN ?_ _ | refine blk_drew ?_ | refine blk_alloc ?_ _)); exact BK0.out) hb); have n1_ := Aside0.mk (blk_below (g := gb180) (o := .cells #[.pointer (some ⟨g0, 0, none⟩)] 49 (0, 0)) (by (with_reducible repeat (first | refine blk_drewN ?_ _ | refine blk_drew ?_ | refine blk_alloc ?_ _)); refine blk_far ?_ NB180_183.out _; (with_reducible repeat (first | refine blk_drewN ?_ _ | refine blk_drew ?_ | refine blk_alloc ?_ _)); exact BK180.out) hb); have n2_ := Aside0.mk (blk_below (g := gb181) (o := .cells #[.int .i64 0, .int .i64 0, .bool false] 35 (0, 0)) (by (with_reducible repeat (first | refine blk_drewN ?_ _ | refine blk_drew ?_ | refine blk_alloc ?_ _)); refine blk_far ?_ NB181_183.out _; (with_reducible repeat (first | refine blk_drewN ?_ _ | refine blk_drew ?_ | refine blk_alloc ?_ _)); exact BK181.out) hb); have n3_ := Aside0.mk (blk_below (g := gb183) (o := .cells #[.func (.func 49) #[] #[.pointer (some ⟨gb180, 0, none⟩)]] 43 (0, 0)) (by (with_reducible repeat (first | refine blk_drewN ?_ _ | refine blk_drew ?_ | refine blk_alloc ?_ _)); refine blk_put (cs := #[.nilFunc]) ?_ 0 _ rfl; (with_reducible repeat (first | refine blk_drewN ?_ _ | refine blk_drew ?_ | refine blk_alloc ?_ _)); exact BK183.out) hb); have n4_ := Aside0.mk (below_step (by repeat with_reducible first | exact HB.out | apply pw_below_drewN | refine below_set ?_ GE0.out | refine below_set ?_ GE180.out | refine below_set ?_ GE181.out | refine below_set ?_ GE183.out | apply below_drew1 | apply below_alloc) hb); clear BK0; clear BK180; clear BK181; clear BK183; clear HB; have BK0 := n0_; have BK180 := n1_; have BK181 := n2_; have BK183 := n3_; have HB := n4_; clear n0_ n1_ n2_ n3_ n4_; (try clear hb); (try clear hb2); (try clear hk); (try clear hi)) | (go_at_call 51; (with_reducible refine (object_para_3.calls k t182 g0 gb180 A0_0 c0_0 l0_0 A0_1 c0_1 l0_1 g0 gb180 gb183 A0_0 c0_0 l0_0 A0_1 c0_1 l0_1 t185 _ ?side1 ?side2 ?side3 ?side4 ?side5 ?side6 ?side7 ?side8 ?side9 ?side10 ?side11 ?side12 ?side13 A6.out).mono ?_); (case side1 => exact BK0.out); (case side2 => exact BK180.out); (case side3 => repeat (first | exact (Kd.C_below HR0_0.out HB.out) | with_reducible first | refine Kd.C_drewN ?_ _ | refine Kd.C_drew ?_ | refine Kd.C_alloc ?_ _)); (case side4 => exact HC0_0.out); (case side5 => repeat (first | exact (Kd.C_below HR0_1.out HB.out) | with_reducible first | refine Kd.C_drewN ?_ _ | refine Kd.C_drew ?_ | refine Kd.C_alloc ?_ _)); (case side6 => exact HC0_1.out); (case side7 => exact BK0.out); (case side8 => exact BK180.out); (case side9 => exact BK183.out); (case side10 => repeat (first | exact (Kd.C_below HR0_0.out HB.out) | with_reducible first | refine Kd.C_drewN ?_ _ | refine Kd.C_drew ?_ | refine Kd.C_alloc ?_ _)); (case side11 => exact HC0_0.out); (case side12 => repeat (first | exact (Kd.C_below HR0_1.out HB.out) | with_reducible first | refine Kd.C_drewN ?_ _ | refine Kd.C_drew ?_ | refine Kd.C_alloc ?_ _)); (case side13 => exact HC0_1.out); rintro e w67 ⟨rfl, hb⟩; have n0_ := Aside0.mk (blb hb BK0.out); have n1_ := Aside0.mk (blb hb BK180.out); have n2_ := Aside0.mk (blb hb BK181.out); have n3_ := Aside0.mk (blb hb BK183.out); have n4_ := Aside0.mk (below_step (by repeat with_reducible first | exact HB.out | apply pw_below_drewN | refine below_set ?_ GE0.out | refine below_set ?_ GE180.out | refine below_set ?_ GE181.out | refine below_set ?_ GE183.out | apply below_drew1 | apply below_alloc) hb); clear BK0; clear BK180; clear BK181; clear BK183; clear HB; have BK0 := n0_; have BK180 := n1_; have BK181 := n2_; have BK183 := n3_; have HB := n4_; clear n0_ n1_ n2_ n3_ n4_; (try clear hb); (try clear hb2); (try clear hk); (try clear hi); have hcz68_0 := cz0 BK180.out; have hfz68_0 := blk_frozen BK180.out 0) | ((with_reducible refine gate_callee (f := 52) rfl ?_); refine goesL_ (some 34) rfl rfl Tryd.func52 (by kernel_rfl) rfl #[.pointer (some ⟨g0, 0, none⟩)] rfl (map1 rfl) ?_; (with_reducible refine (text_Map_Rows.calls g0 A0_0 c0_0 l0_0 A0_1 c0_1 l0_1 t188 _ ?side1 ?side2 ?side3 ?side4 ?side5 A27.out).mono ?_); (case side1 => exact BK0.out); (case side2 => repeat (first | exact (Kd.C_below HR0_0.out HB.out) | with_reducible first | refine Kd.C_drewN ?_ _ | refine Kd.C_drew ?_ | refine Kd.C_alloc ?_ _)); (case side3 => exact HC0_0.out); (case side4 => repeat (first | exact (Kd.C_below HR0_1.out HB.out) | with_reducible first | refine Kd.C_drewN ?_ _ | refine Kd.C_drew ?_ | refine Kd.C_alloc ?_ _)); (case side5 => exact HC0_1.out); rintro e w' ⟨rfl, ⟨nd, rfl⟩⟩; refine ⟨_, rfl, ?_⟩; (try (rw [drewN_self w67]; generalize hq_ : World.drewN w67 _ = w67; have n0_ : Aside0 (w67.heap[g0]? = some (.cells #[.slice A0_0 l0_0.length c0_0, .slice A0_1 l0_1.length c0_1] 66 (0, 0))) := ⟨by rw [← hq_]; exact (by exact BK0.out)⟩; have n1_ : Aside0 (w67.heap[gb180]? = some (.cells #[.pointer (some ⟨g0, 0, none⟩)] 49 (0, 0))) := ⟨by rw [← hq_]; exact (by exact BK180.out)⟩; have n2_ : Aside0 (w67.heap[gb181]? = some (.cells #[.int .i64 0, .int .i64 0, .bool false] 35 (0, 0))) := ⟨by rw [← hq_]; exact (by exact BK181.out)⟩; have n3_ : Aside0 (w67.heap[gb183]? = some (.cells #[.func (.func 49) #[] #[.pointer (some ⟨gb180, 0, none⟩)]] 43 (0, 0))) := ⟨by rw [← hq_]; exact (by exact BK183.out)⟩; have n4_ : Aside0 (Below w.heap.size w w67) := ⟨by rw [← hq_]; exact (by repeat with_reducible first | exact HB.out | apply pw_below_drewN | refine below_set ?_ GE0.out | refine below_set ?_ GE180.out | refine below_set ?_ GE181.out | refine below_set ?_ GE183.out | apply below_drew1 | apply below_alloc)⟩; clear BK0 BK180 BK181 BK183 HB hq_; have BK0 := n0_; have BK180 := n1_; have BK181 := n2_; have BK183 := n3_; have HB := n4_; clear n0_ n1_ n2_ n3_ n4_))) | (go_at_call 50; (with_reducible refine (object_para_2.calls k (wrap64 (t184 - 1)) g0 gb180 gb183 A0_0 c0_0 l0_0 A0_1 c0_1 l0_1 t192 _ ?side1 ?side2 ?side3 ?side4 ?side5 ?side6 ?side7 A52.out).mono ?_); (case side1 => exact BK0.out); (case side2 => exact BK180.out); (case side3 => exact BK183.out); (case side4 => repeat (first | exact (Kd.C_below HR0_0.out HB.out) | with_reducible first | refine Kd.C_drewN ?_ _ | refine Kd.C_drew ?_ | refine Kd.C_alloc ?_ _)); (case side5 => exact HC0_0.out); (case side6 => repeat (first | exact (Kd.C_below HR0_1.out HB.out) | with_reducible first | refine Kd.C_drewN ?_ _ | refine Kd.C_drew ?_ | refine Kd.C_alloc ?_ _)); (case side7 => exact HC0_1.out); rintro e w69 ⟨rfl, hb⟩; have n0_ := Aside0.mk (blb hb BK0.out); have n1_ := Aside0.mk (blb hb BK180.out); have n2_ := Aside0.mk (blb hb BK181.out); have n3_ := Aside0.mk (blb hb BK183.out); have n4_ := Aside0.mk (below_step (by repeat with_reducible first | exact HB.out | apply pw_below_drewN | refine below_set ?_ GE0.out | refine below_set ?_ GE180.out | refine below_set ?_ GE181.out | refine below_set ?_ GE183.out | apply below_drew1 | apply below_alloc) hb); clear BK0; clear BK180; clear BK181; clear BK183; clear HB; have BK0 := n0_; have BK180 := n1_; have BK181 := n2_; have BK183 := n3_; have HB := n4_; clear n0_ n1_ n2_ n3_ n4_; (try clear hb); (try clear hb2); (try clear hk); (try clear hi)))
 have n0_ := Aside0.mk (blk_drew BK0.out)
 have n1_ := Aside0.mk (blk_drew BK180.out)
 have n2_ := Aside0.mk (blk_drew BK181.out)
 have n3_ := Aside0.mk (blk_drew BK183.out)
 have n4_ := Aside0.mk (below_drew1 HB.out)
 clear BK0
 clear BK180
 clear BK181
 clear BK183
 clear HB
 have BK0 := n0_
 have BK180 := n1_
 have BK181 := n2_
 have BK183 := n3_
 have HB := n4_
 clear n0_ n1_ n2_ n3_ n4_
 have p193 : 0 ≤ (t192 : Int) := of_decide_eq_true (by assumption)
 have q193 : t192 < (l0_1.length : Int) := of_decide_eq_true (by assumption)
 obtain ⟨ad193, e193, hx193_0⟩ := Kd.at_int HR0_1.out t192 p193 q193
 have hw193_0 := hx193_0
 cases e193
 replace hx193_0 := (HB.out.cell (World.block_lt_of_cell? w _ hx193_0)).trans hx193_0
 replace p193 := eq_true p193
 replace q193 := eq_true q193
 refine start_ (n := 13) (S := fun w' => w'.cell? ⟨gb180, 0, none⟩ = some (.pointer (some ⟨g0, 0, none⟩)) ∧ w'.cell? ⟨g0, 0, none⟩ = some (.slice A0_0 l0_0.length c0_0) ∧ w'.cell? ⟨g0, 1, none⟩ = some (.slice (some ad193) l0_1.length c0_1) ∧ w'.cell? (ad193.add (t192).toNat) = some (.int .i64 (rd l0_1 t192))) (ds := []) (bs 13 0) (by kernel_rfl) rfl rfl ⟨(blk_cell BK180.out 0).trans rfl, (blk_cell BK0.out 0).trans rfl, (blk_cell BK0.out 1).trans rfl, ((HB.out.cell (World.block_lt_of_cell? w _ hw193_0)).trans hw193_0)⟩ (fun hHeld => ?_); refine with_tabW object_para.tab12 object_para.bits12 (fun HT_ HW_ => ?_)
 generalize w69.drew = w70 at BK0 BK180 BK181 BK183 HB hx193_0 hHeld ⊢
 refine pure_ (i := 4) (N := some 51) (v := ?_) (a' := ?_) (bs 13 16) rfl rfl (any_of HT_.out (by kernel_rfl)) (fun _ _ _ h => h) (Or.inl ⟨by rfl, ?_⟩) ?_ ?_
 rotate_left
 · intro w'; go_simp; with_reducible rfl
 rotate_left
 · simp only [Act.put, List.setIfInBounds_toArray, List.set_cons_zero, List.set_cons_succ, i64_w, i32_w]; rfl
 refine pure_ (i := 8) (N := some 55) (v := ?_) (a' := ?_) (bs 13 272) rfl rfl (any_of HT_.out (by kernel_rfl)) (fun _ _ _ h => h) (Or.inl ⟨by rfl, ?_⟩) ?_ ?_
 rotate_left
 · intro w'; go_simp; with_reducible rfl
 rotate_left
 · simp only [Act.put, List.setIfInBounds_toArray, List.set_cons_zero, List.set_cons_succ, i64_w, i32_w]; rfl
 refine take_ (i := 0) (N := some 47) (v := ?_) (a' := ?_) (bs 13 273) rfl rfl (take_ofW HT_.out HW_.out (by kernel_rfl)) (fun _ _ _ h => h) (Or.inl ⟨by rfl, ?_⟩) hHeld ?_ ?_
 rotate_left
 · rintro w' ⟨s0, s1, s2, s3⟩; go_simp; with_reducible rfl
 rotate_left
 · simp only [Act.put, List.setIfInBounds_toArray, List.set_cons_zero, List.set_cons_succ, i64_w, i32_w]; rfl
 refine pure_ (i := 1) (N := some 48) (v := ?_) (a' := ?_) (bs 13 275) rfl rfl (any_of HT_.out (by kernel_rfl)) (fun _ _ _ h => h) (Or.inl ⟨by rfl, ?_⟩) ?_ ?_
 rotate_left
 · intro w'; go_simp; with_reducible rfl
 rotate_left
 · simp only [Act.put, List.setIfInBounds_toArray, List.set_cons_zero, List.set_cons_succ, i64_w, i32_w]; rfl
 refine pure_ (i := 2) (N := some 49) (v := ?_) (a' := ?_) (bs 13 279) rfl rfl (any_of HT_.out (by kernel_rfl)) (fun _ _ _ h => h) (Or.inl ⟨by rfl, ?_⟩) ?_ ?_
 rotate_left
 · intro w'; go_simp; with_reducible rfl
 rotate_left
 · simp only [Act.put, List.setIfInBounds_toArray, List.set_cons_zero, List.set_cons_succ, i64_w, i32_w]; rfl
 refine take_ (i := 3) (N := some 50) (v := ?_) (a' := ?_) (bs 13 287) rfl rfl (take_ofW HT_.out HW_.out (by kernel_rfl)) (fun _ _ _ h => h) (Or.inl ⟨by rfl, ?_⟩) hHeld ?_ ?_
 rotate_left
 · rintro w' ⟨s0, s1, s2, s3⟩; go_simp; with_reducible rfl
 rotate_left
 · simp only [Act.put, List.setIfInBounds_toArray, List.set_cons_zero, List.set_cons_succ, i64_w, i32_w]; rfl
 refine pure_ (i := 5) (N := some 52) (v := ?_) (a' := ?_) (bs 13 319) rfl rfl (any_of HT_.out (by kernel_rfl)) (fun _ _ _ h => h) (Or.inl ⟨by rfl, ?_⟩) ?_ ?_
 rotate_left
 · intro w'; go_simp; with_reducible rfl
 rotate_left
 · simp only [Act.put, List.setIfInBounds_toArray, List.set_cons_zero, List.set_cons_succ, i64_w, i32_w]; rfl
 refine take_ (i := 6) (N := some 53) (v := ?_) (a' := ?_) (bs 13 383) rfl rfl (take_ofW HT_.out HW_.out (by kernel_rfl)) (fun _ _ _ h => h) (Or.inl ⟨by rfl, ?_⟩) hHeld ?_ ?_
 rotate_left
 · rintro w' ⟨s0, s1, s2, s3⟩; go_simp; with_reducible rfl
 rotate_left
 · simp only [Act.put, List.setIfInBounds_toArray, List.set_cons_zero, List.set_cons_succ, i64_w, i32_w]; rfl
 refine take_ (i := 7) (N := some 54) (v := ?_) (a' := ?_) (bs 13 511) rfl rfl (take_ofW HT_.out HW_.out (by kernel_rfl)) (fun _ _ _ h => h) (Or.inl ⟨by rfl, ?_⟩) hHeld ?_ ?_
 rotate_left
 · rintro w' ⟨s0, s1, s2, s3⟩; go_simp; with_reducible rfl
 rotate_left
 · simp only [Act.put, List.setIfInBounds_toArray, List.set_cons_zero, List.set_cons_succ, i64_w, i32_w]; rfl
 refine one_ (i := 9) (N := some 56) (bs 13 1023) rfl rfl (one_of HT_.out (by kernel_rfl)) (by decide) (fun K hK => ?_)
 refine goes_ Tryd.func45 (by kernel_rfl) rfl #[.pointer (some ⟨g0, 0, none⟩), .int .i64 t185] (by rfl) rfl rfl (by (try simp only [List.map_toArray, List.map_cons, List.map_nil]); first | done | rfl | (simp only [List.length_drop, List.length_take]; rfl)) ?_
 with_reducible refine (text_Map_End.calls g0 A0_0 c0_0 l0_0 (some ad193) c0_1 l0_1 t185 t194 _ ?side1 ?side2 ?side3 ?side4 ?side5 A55.out).mono ?_
 (case side1 => exact BK0.out)
 (case side2 => repeat (first | exact (Kd.C_below HR0_0.out HB.out) | with_reducible first | refine Kd.C_drewN ?_ _ | refine Kd.C_drew ?_ | refine Kd.C_alloc ?_ _))
 (case side3 => exact HC0_0.out)
 (case side4 => repeat (first | exact (Kd.C_below HR0_1.out HB.out) | with_reducible first | refine Kd.C_drewN ?_ _ | refine Kd.C_drew ?_ | refine Kd.C_alloc ?_ _))
 (case side5 => exact HC0_1.out)
 rintro e w' ⟨rfl, ⟨nd, rfl⟩⟩
 refine ⟨_, rfl, ?_⟩
 refine hK.out _ _ ⟨(blk_cell BK180.out 0).trans rfl, (blk_cell BK0.out 0).trans rfl, (blk_cell BK0.out 1).trans rfl, ((HB.out.cell (World.block_lt_of_cell? w _ hw193_0)).trans hw193_0)⟩ (fun hHeld => ?_)
 clear hK K
 refine norm_ (a' := ?_) ?_ ?_
 rotate_left
 · show Act.put _ (some 56) _ = _; simp only [Act.put, List.setIfInBounds_toArray, List.set_cons_zero, List.set_cons_succ, i64_w, i32_w]; rfl
 refine pure_ (i := 10) (N := some 57) (v := ?_) (a' := ?_) (bs 13 2047) rfl rfl (any_of HT_.out (by kernel_rfl)) (fun _ _ _ h => h) (Or.inl ⟨by rfl, ?_⟩) ?_ ?_
 rotate_left
 · intro w'; go_simp; with_reducible rfl
 rotate_left
 · simp only [Act.put, List.setIfInBounds_toArray, List.set_cons_zero, List.set_cons_succ, i64_w, i32_w]; rfl
 refine one_ (i := 11) (N := none) (bs 13 4095) rfl rfl (one_of HT_.out (by kernel_rfl)) (by decide) (fun K hK => ?_)
 have hs71 := cz0 BK181.out
 have hfs71 := blk_frozen BK181.out 0
 have hns71_0 := NB0_181.out
 have hns71_1 := NB180_181.out
 have hns71_3 := NB183_181.out
 have hms71_0 := NB181_0.out
 have hms71_1 := NB181_180.out
 have hms71_3 := NB181_183.out
 have hs72 := cz1 BK181.out
 have hfs72 := blk_frozen BK181.out 1
 have hns72_0 := NB0_181.out
 have hns72_1 := NB180_181.out
 have hns72_3 := NB183_181.out
 have hms72_0 := NB181_0.out
 have hms72_1 := NB181_180.out
 have hms72_3 := NB181_183.out
 have hs73 := cz2 BK181.out
 have hfs73 := blk_frozen BK181.out 2
 have hns73_0 := NB0_181.out
 have hns73_1 := NB180_181.out
 have hns73_3 := NB183_181.out
 have hms73_0 := NB181_0.out
 have hms73_1 := NB181_180.out
 have hms73_3 := NB181_183.out
 refine skip_ (w1 := ?_) (by rfl) rfl ?_ ?_
 rotate_left
 ·
  go_simp
  rfl
 refine hK.out _ _ ⟨((cell_far (p := ⟨gb181, _, none⟩) NB180_181.out _).trans (((cell_far (p := ⟨gb181, _, none⟩) NB180_181.out _).trans (((cell_far (p := ⟨gb181, _, none⟩) NB180_181.out _).trans (hHeld.1)))))), ((cell_far (p := ⟨gb181, _, none⟩) NB0_181.out _).trans (((cell_far (p := ⟨gb181, _, none⟩) NB0_181.out _).trans (((cell_far (p := ⟨gb181, _, none⟩) NB0_181.out _).trans (hHeld.2.1)))))), ((cell_far (p := ⟨gb181, _, none⟩) NB0_181.out _).trans (((cell_far (p := ⟨gb181, _, none⟩) NB0_181.out _).trans (((cell_far (p := ⟨gb181, _, none⟩) NB0_181.out _).trans (hHeld.2.2.1)))))), ((cell_far (p := ⟨gb181, _, none⟩) (by first | exact Nat.ne_of_lt (Nat.lt_of_lt_of_le (by have := World.block_lt_of_cell? _ _ hw193_0; first | rwa [add_block] at this | exact this) GW181.out) | (rw [add_block]; exact Nat.ne_of_lt (Nat.lt_of_lt_of_le (by have := World.block_lt_of_cell? _ _ hw193_0; first | rwa [add_block] at this | exact this) GW181.out)) | (show (Addr.add _ _).block ≠ _; rw [add_block]; exact Nat.ne_of_lt (Nat.lt_of_lt_of_le (by have := World.block_lt_of_cell? _ _ hw193_0; first | rwa [add_block] at this | exact this) GW181.out)) | (dsimp only; exact Nat.ne_of_lt (Nat.lt_of_lt_of_le (by have := World.block_lt_of_cell? _ _ hw193_0; first | rwa [add_block] at this | exact this) GW181.out))) _).trans (((cell_far (p := ⟨gb181, _, none⟩) (by first | exact Nat.ne_of_lt (Nat.lt_of_lt_of_le (by have := World.block_lt_of_cell? _ _ hw193_0; first | rwa [add_block] at this | exact this) GW181.out) | (rw [add_block]; exact Nat.ne_of_lt (Nat.lt_of_lt_of_le (by have := World.block_lt_of_cell? _ _ hw193_0; first | rwa [add_block] at this | exact this) GW181.out)) | (show (Addr.add _ _).block ≠ _; rw [add_block]; exact Nat.ne_of_lt (Nat.lt_of_lt_of_le (by have := World.block_lt_of_cell? _ _ hw193_0; first | rwa [add_block] at this | exact this) GW181.out)) | (dsimp only; exact Nat.ne_of_lt (Nat.lt_of_lt_of_le (by have := World.block_lt_of_cell? _ _ hw193_0; first | rwa [add_block] at this | exact this) GW181.out))) _).trans (((cell_far (p := ⟨gb181, _, none⟩) (by first | exact Nat.ne_of_lt (Nat.lt_of_lt_of_le (by have := World.block_lt_of_cell? _ _ hw193_0; first | rwa [add_block] at this | exact this) GW181.out) | (rw [add_block]; exact Nat.ne_of_lt (Nat.lt_of_lt_of_le (by have := World.block_lt_of_cell? _ _ hw193_0; first | rwa [add_block] at this | exact this) GW181.out)) | (show (Addr.add _ _).block ≠ _; rw [add_block]; exact Nat.ne_of_lt (Nat.lt_of_lt_of_le (by have := World.block_lt_of_cell? _ _ hw193_0; first | rwa [add_block] at this | exact this) GW181.out)) | (dsimp only; exact Nat.ne_of_lt (Nat.lt_of_lt_of_le (by have := World.block_lt_of_cell? _ _ hw193_0; first | rwa [add_block] at this | exact this) GW181.out))) _).trans (hHeld.2.2.2))))))⟩ (fun hHeld => ?_)
 clear hK K
 refine pure_ (i := 12) (N := some 7) (v := ?_) (a' := ?_) (bs 13 8191) rfl rfl (any_of HT_.out (by kernel_rfl)) (fun _ _ _ h => h) (Or.inl ⟨by rfl, ?_⟩) ?_ ?_
 rotate_left
 · intro w'; go_simp; with_reducible rfl
 rotate_left
 · simp only [Act.put, List.setIfInBounds_toArray, List.set_cons_zero, List.set_cons_succ, i64_w, i32_w]; rfl
 refine done_ (done_of HT_.out (by kernel_rfl)) ?_
 try go_wp2
 refine bodyPost_ret (results_ct rfl _ _ gb181 35 #[.int .i64 (rd l0_1 t192), .int .i64 t194, .bool true] (0, 0) _ rfl (by (with_reducible repeat (first | refine blk_drewN ?_ _ | refine blk_drew ?_ | refine blk_alloc ?_ _)); refine blk_put (cs := #[.int .i64 (rd l0_1 t192), .int .i64 t194, .bool false]) ?_ 2 _ rfl; (with_reducible repeat (first | refine blk_drewN ?_ _ | refine blk_drew ?_ | refine blk_alloc ?_ _)); refine blk_put (cs := #[.int .i64 (rd l0_1 t192), .int .i64 0, .bool false]) ?_ 1 _ rfl; (with_reducible repeat (first | refine blk_drewN ?_ _ | refine blk_drew ?_ | refine blk_alloc ?_ _)); refine blk_put (cs := #[.int .i64 0, .int .i64 0, .bool false]) ?_ 0 _ rfl; (with_reducible repeat (first | refine blk_drewN ?_ _ | refine blk_drew ?_ | refine blk_alloc ?_ _)); exact BK181.out) Tryd.underlying35 rfl (by kernel_rfl)) rfl ?_
 exact ⟨by first | rfl | (simp [errW_none, errW_some] <;> rfl) | (simp [*, errW_none, errW_some] <;> rfl), by repeat with_reducible first | exact HB.out | apply pw_below_drewN | refine below_set ?_ GE0.out | refine below_set ?_ GE180.out | refine below_set ?_ GE181.out | refine below_set ?_ GE183.out | apply below_drew1 | apply below_alloc⟩

/-! ### pairs_kind: function 64 -/
def pairs_kind.f (a0 : Int) : Option (Int × Int) := (strings_IndexRune.f (⟨#[40, 91, 123]⟩ : ByteArray) a0).bind fun t195 => (if t195 ≥ 0 then (some (t195, 1)) else ((strings_IndexRune.f (⟨#[41, 93, 125]⟩ : ByteArray) a0).bind fun t196 => (if t196 ≥ 0 then (some (t196, (-1))) else (some (0, 0)))))
set_option maxHeartbeats 8000000 in
set_option maxRecDepth 100000 in
theorem pairs_kind.calls (a0 : Int) (r1 : Int) (r2 : Int) (w : World) (h : pairs_kind.f a0 = some (r1, r2)) :
  Calls Tryd.prog 64 #[.int .i32 a0] w fun e w' => e = .returned (.tuple #[.int .i64 r1, .int .i64 r2]) ∧ Below w.heap.size w w' := by
 have HB := Aside0.mk (Below.refl w.heap.size w)
 have H : ((strings_IndexRune.f (⟨#[40, 91, 123]⟩ : ByteArray) a0).bind fun t195 => (if t195 ≥ 0 then (some (t195, 1)) else ((strings_IndexRune.f (⟨#[41, 93, 125]⟩ : ByteArray) a0).bind fun t196 => (if t196 ≥ 0 then (some (t196, (-1))) else (some (0, 0)))))) = some (r1, r2) := h
 clear h
 replace H := Option.bind_eq_some_iff.mp H
 obtain ⟨t195, A20, H⟩ := H
 (try dsimp only at H)
 have A2 := Aside0.mk A20
 clear A20
 by_cases c3 : t195 ≥ 0
 ·
  rw [if_pos c3] at H
  have c3b0 := decide_eq_true c3
  clear c3
  simp only [Option.some.injEq, Prod.mk.injEq] at H
  obtain ⟨rfl, rfl⟩ := H
  go_enter Tryd.func64, Tryd.ntmps64
  go_wp2_with (first | ((with_reducible refine gate_callee (f := 62) rfl ?_); refine goesL_ (some 5) rfl rfl Tryd.func62 (by kernel_rfl) rfl #[.string (⟨#[40, 91, 123]⟩ : ByteArray), .int .i32 a0] rfl (map2 rfl rfl) ?_; (with_reducible refine (strings_IndexRune.calls (⟨#[40, 91, 123]⟩ : ByteArray) a0 t195 _ A2.out).mono ?_); rintro e w4 ⟨rfl, hb⟩; refine ⟨_, rfl, ?_⟩; have n0_ := Aside0.mk (below_step (by repeat with_reducible first | exact HB.out | apply pw_below_drewN | apply below_drew1 | apply below_alloc) hb); clear HB; have HB := n0_; clear n0_; (try clear hb); (try clear hb2); (try clear hk); (try clear hi)))
  go_ret2
  exact ⟨by first | rfl | (simp [errW_none, errW_some] <;> rfl) | (simp [*, errW_none, errW_some] <;> rfl), by repeat with_reducible first | exact HB.out | apply pw_below_drewN | apply below_drew1 | apply below_alloc⟩
 rw [if_neg c3] at H
 have c3b0 := decide_eq_false c3
 clear c3
 replace H := Option.bind_eq_some_iff.mp H
 obtain ⟨t196, A50, H⟩ := H
 (try dsimp only at H)
 have A5 := Aside0.mk A50
 clear A50
 by_cases c6 : t196 ≥ 0
 ·
  rw [if_pos c6] at H
  have c6b0 := decide_eq_true c6
  clear c6
  simp only [Option.some.injEq, Prod.mk.injEq] at H
  obtain ⟨rfl, rfl⟩ := H
  go_enter Tryd.func64, Tryd.ntmps64
  go_wp2_with (first | ((with_reducible refine gate_callee (f := 62) rfl ?_); refine goesL_ (some 5) rfl rfl Tryd.func62 (by kernel_rfl) rfl #[.string (⟨#[40, 91, 123]⟩ : ByteArray), .int .i32 a0] rfl (map2 rfl rfl) ?_; (with_reducible refine (strings_IndexRune.calls (⟨#[40, 91, 123]⟩ : ByteArray) a0 t195 _ A2.out).mono ?_); rintro e w7 ⟨rfl, hb⟩; refine ⟨_, rfl, ?_⟩; have n0_ := Aside0.mk (below_step (by repeat with_reducible first | exact HB.out | apply pw_below_drewN | apply below_drew1 | apply below_alloc) hb); clear HB; have HB := n0_; clear n0_; (try clear hb); (try clear hb2); (try clear hk); (try clear hi)) | ((with_reducible refine gate_callee (f := 62) rfl ?_); refine goesL_ (some 10) rfl rfl Tryd.func62 (by kernel_rfl) rfl #[.string (⟨#[41, 93, 125]⟩ : ByteArray), .int .i32 a0] rfl (map2 rfl rfl) ?_; (with_reducible refine (strings_IndexRune.calls (⟨#[41, 93, 125]⟩ : ByteArray) a0 t196 _ A5.out).mono ?_); rintro e w8 ⟨rfl, hb⟩; refine ⟨_, rfl, ?_⟩; have n0_ := Aside0.mk (below_step (by repeat with_reducible first | exact HB.out | apply pw_below_drewN | apply below_drew1 | apply below_alloc) hb); clear HB; have HB := n0_; clear n0_; (try clear hb); (try clear hb2); (try clear hk); (try clear hi)))
  go_ret2
  exact ⟨by first | rfl | (simp [errW_none, errW_some] <;> rfl) | (simp [*, errW_none, errW_some] <;> rfl), by repeat with_reducible first | exact HB.out | apply pw_below_drewN | apply below_drew1 | apply below_alloc⟩
 rw [if_neg c6] at H
 have c6b0 := decide_eq_false c6
 clear c6
 simp only [Option.some.injEq, Prod.mk.injEq] at H
 obtain ⟨rfl, rfl⟩ := H
 go_enter Tryd.func64, Tryd.ntmps64
 go_wp2_with (first | ((with_reducible refine gate_callee (f := 62) rfl ?_); refine goesL_ (some 5) rfl rfl Tryd.func62 (by kernel_rfl) rfl #[.string (⟨#[40, 91, 123]⟩ : ByteArray), .int .i32 a0] rfl (map2 rfl rfl) ?_; (with_reducible refine (strings_IndexRune.calls (⟨#[40, 91, 123]⟩ : ByteArray) a0 t195 _ A2.out).mono ?_); rintro e w9 ⟨rfl, hb⟩; refine ⟨_, rfl, ?_⟩; have n0_ := Aside0.mk (below_step (by repeat with_reducible first | exact HB.out | apply pw_below_drewN | apply below_drew1 | apply below_alloc) hb); clear HB; have HB := n0_; clear n0_; (try clear hb); (try clear hb2); (try clear hk); (try clear hi)) | ((with_reducible refine gate_callee (f := 62) rfl ?_); refine goesL_ (some 10) rfl rfl Tryd.func62 (by kernel_rfl) rfl #[.string (⟨#[41, 93, 125]⟩ : ByteArray), .int .i32 a0] rfl (map2 rfl rfl) ?_; (with_reducible refine (strings_IndexRune.calls (⟨#[41, 93, 125]⟩ : ByteArray) a0 t196 _ A5.out).mono ?_); rintro e w10 ⟨rfl, hb⟩; refine ⟨_, rfl, ?_⟩; have n0_ := Aside0.mk (below_step (by repeat with_reducible first | exact HB.out | apply pw_below_drewN | apply below_drew1 | apply below_alloc) hb); clear HB; have HB := n0_; clear n0_; (try clear hb); (try clear hb2); (try clear hk); (try clear hi)))
 go_ret2
 exact ⟨by first | rfl | (simp [errW_none, errW_some] <;> rfl) | (simp [*, errW_none, errW_some] <;> rfl), by repeat with_reducible first | exact HB.out | apply pw_below_drewN | apply below_drew1 | apply below_alloc⟩

end Go.Proofs.YtgikaemhhaejoaaDoor.P
