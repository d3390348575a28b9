/- The walks of the functions that these statements reach: each Go function as a plain Lean function, and the proof that its call comes to that. Written by the session's program wip/pp.py. -/
import Derived.Test.YtgikaemhhaejoaaDoorP0
import Derived.Test.YtgikaemhhaejoaaDoorP2
import Derived.Test.YtgikaemhhaejoaaDoorP3
namespace Go.Proofs.YtgikaemhhaejoaaDoor.P
open Go.Proofs.YtgikaemhhaejoaaDoor
open Go.RowKit Go.Proofs.YtgikaemhhaejoaaDoorW.PrintWords Go.Proofs.YtgikaemhhaejoaaDoorW.PrintLast Go.Proofs.YtgikaemhhaejoaaDoorW.PrintMore
attribute [local go_sem] max2_int min2_int max_two min_two max_three min_three max_four min_four   -- for this text's walks alone
set_option linter.unusedVariables false
set_option linter.unusedSimpArgs false

/-! ### object_word: function 29 -/
mutual
def object_word.j0 : Nat → Int → Int → Int → Bool → Bool → List Int → List Int → Bool → Option (Int × Int × Bool × Int)
  | 0, _, _, _, _, _, _, _, _ => none
  | k + 1, x10, x12, x13, x14, x15, v0, v1, v2 => if x15 = true then ((object_run.f k v0 v1 x10 x13 v0 v1 v2).bind fun bt150 => (some (x12, bt150.2, false, 0))) else (if x14 = true then (some (0, 0, false, 6)) else (if 0 ≤ x10 then (if x10 < (v1.length : Int) then (if x12 > (rd v1 x10) then ((object_word_1.f k (wrap64 (x12 - 1)) v0 v1 v2).bind fun t153 => (if t153 = 0 then ((object_run.f k v0 v1 x10 (wrap64 (x12 - 1)) v0 v1 v2).bind fun bt154 => (some (bt154.1, x13, false, 0))) else (some (x12, x13, false, 0)))) else (some (x12, x13, false, 0))) else (none)) else (none)))
def object_word.j1 : Nat → Int → Int → Int → Bool → Bool → List Int → List Int → Bool → Option (Int × Int × Bool × Int)
  | 0, _, _, _, _, _, _, _, _ => none
  | k + 1, x10, x12, x13, x14, x15, v0, v1, v2 => if x15 = true then ((object_run.f k v0 v1 x10 x13 v0 v1 v2).bind fun bt158 => (some (x12, bt158.2, false, 0))) else (if x14 = true then (some (0, 0, false, 6)) else (if 0 ≤ x10 then (if x10 < (v1.length : Int) then (if x12 > (rd v1 x10) then ((object_word_1.f k (wrap64 (x12 - 1)) v0 v1 v2).bind fun t161 => (if t161 = 0 then ((object_run.f k v0 v1 x10 (wrap64 (x12 - 1)) v0 v1 v2).bind fun bt162 => (some (bt162.1, x13, false, 0))) else (some (x12, x13, false, 0)))) else (some (x12, x13, false, 0))) else (none)) else (none)))
end
def object_word.f (k : Nat) (l0_0 : List Int) (l0_1 : List Int) (a1 : Int) (a2 : Int) (a3 : Bool) : Option (Int × Int × Bool × Int) := (text_Map_Row.f k l0_0 l0_1 a1).bind fun t144 => ((text_Map_End.f l0_0 l0_1 t144).bind fun t145 => (if a1 = t145 then (some (0, 0, false, 6)) else ((object_run.f k l0_0 l0_1 t144 a1 l0_0 l0_1 a3).bind fun bt146 => (if a2 = 105 then (some (bt146.1, bt146.2, false, 0)) else ((object_word_1.f k a1 l0_0 l0_1 a3).bind fun t148 => (if t148 = 0 then ((text_Map_End.f l0_0 l0_1 t144).bind fun t149 => (if bt146.2 < t149 then (object_word.j0 k t144 bt146.1 bt146.2 true true l0_0 l0_1 a3) else (object_word.j0 k t144 bt146.1 bt146.2 true false l0_0 l0_1 a3))) else ((text_Map_End.f l0_0 l0_1 t144).bind fun t156 => (if bt146.2 < t156 then ((object_word_1.f k bt146.2 l0_0 l0_1 a3).bind fun t157 => (object_word.j1 k t144 bt146.1 bt146.2 false (t157 == 0) l0_0 l0_1 a3)) else (object_word.j1 k t144 bt146.1 bt146.2 false false l0_0 l0_1 a3)))))))))
theorem object_word.mono_l : ∀ k, (∀ y0 y1 y2 y3 y4 y5 y6 y7, LeO (object_word.j0 k y0 y1 y2 y3 y4 y5 y6 y7) (object_word.j0 (k + 1) y0 y1 y2 y3 y4 y5 y6 y7)) ∧ (∀ y0 y1 y2 y3 y4 y5 y6 y7, LeO (object_word.j1 k y0 y1 y2 y3 y4 y5 y6 y7) (object_word.j1 (k + 1) y0 y1 y2 y3 y4 y5 y6 y7))
  | 0 => ⟨fun _ _ _ _ _ _ _ _ r h => by simp [object_word.j0] at h, fun _ _ _ _ _ _ _ _ r h => by simp [object_word.j1] at h⟩
  | k + 1 => by
    obtain ⟨ih0, ih1⟩ := object_word.mono_l k
    refine ⟨?_, ?_⟩
    all_goals intros
    all_goals first | unfold object_word.j0 | unfold object_word.j1
    all_goals repeat' first | (with_reducible first | exact ih0 _ _ _ _ _ _ _ _ | exact ih1 _ _ _ _ _ _ _ _ | exact object_run.mono _ _ _ _ _ _ _ _ | exact object_word_1.mono _ _ _ _ _ | exact text_Map_Row.mono _ _ _ _ | exact LeO.refl _ | exact LeO.none _ | refine LeO.ite ?_ ?_ | refine LeO.bind ?_ (fun _ => ?_)) | exact ih0 _ _ _ _ _ _ _ _ | exact ih1 _ _ _ _ _ _ _ _ | exact object_run.mono _ _ _ _ _ _ _ _ | exact object_word_1.mono _ _ _ _ _ | exact text_Map_Row.mono _ _ _ _ | exact LeO.refl _ | exact LeO.none _ | refine LeO.ite ?_ ?_ | refine LeO.bind ?_ (fun _ => ?_)
theorem object_word.mono : ∀ a0 a1 a2 a3 a4 k, LeO (object_word.f k a0 a1 a2 a3 a4) (object_word.f (k + 1) a0 a1 a2 a3 a4) := by
  intro a0 a1 a2 a3 a4 k
  obtain ⟨ih0, ih1⟩ := object_word.mono_l k
  unfold object_word.f
  repeat' first | (with_reducible first | exact ih0 _ _ _ _ _ _ _ _ | exact ih1 _ _ _ _ _ _ _ _ | exact object_run.mono _ _ _ _ _ _ _ _ | exact object_word_1.mono _ _ _ _ _ | exact text_Map_Row.mono _ _ _ _ | exact LeO.refl _ | exact LeO.none _ | refine LeO.ite ?_ ?_ | refine LeO.bind ?_ (fun _ => ?_)) | exact ih0 _ _ _ _ _ _ _ _ | exact ih1 _ _ _ _ _ _ _ _ | exact object_run.mono _ _ _ _ _ _ _ _ | exact object_word_1.mono _ _ _ _ _ | exact text_Map_Row.mono _ _ _ _ | exact LeO.refl _ | exact LeO.none _ | refine LeO.ite ?_ ?_ | refine LeO.bind ?_ (fun _ => ?_)
set_option maxHeartbeats 8000000 in
set_option maxRecDepth 100000 in
theorem object_word.calls (k : Nat) (g0 : Nat) (A0_0 : Option Addr) (c0_0 : Nat) (l0_0 : List Int) (A0_1 : Option Addr) (c0_1 : Nat) (l0_1 : List Int) (a1 : Int) (a2 : Int) (a3 : Bool) (r1 : Int) (r2 : Int) (r3 : Bool) (r4 : Int) (w : World) (hg0 : w.heap[g0]? = some (.cells #[.slice A0_0 l0_0.length c0_0, .slice A0_1 l0_1.length c0_1] 66 (0, 0))) (hr0_0 : Kd.C (Kd.int .i32) w A0_0 l0_0.length l0_0) (hc0_0 : l0_0.length ≤ c0_0) (hr0_1 : Kd.C (Kd.int .i64) w A0_1 l0_1.length l0_1) (hc0_1 : l0_1.length ≤ c0_1) (h : object_word.f k l0_0 l0_1 a1 a2 a3 = some (r1, r2, r3, r4)) :
  Calls Tryd.prog 29 #[.pointer (some ⟨g0, 0, none⟩), .int .i64 a1, .int .i64 a2, .bool a3] w fun e w' => e = .returned (.tuple #[.agg #[.int .i64 r1, .int .i64 r2, .bool r3], .int .i64 r4]) ∧ Below w.heap.size w w' := by
 have hu49 := Tryd.underlying49
 have hu4 := Tryd.underlying4
 have hu35 := Tryd.underlying35
 have BK0 := Aside0.mk hg0
 clear hg0
 have HR0_0 := Aside0.mk hr0_0
 have HC0_0 := Aside0.mk hc0_0
 clear hr0_0 hc0_0
 have HR0_1 := Aside0.mk hr0_1
 have HC0_1 := Aside0.mk hc0_1
 clear hr0_1 hc0_1
 have HB := Aside0.mk (Below.refl w.heap.size w)
 have H : ((text_Map_Row.f k l0_0 l0_1 a1).bind fun t144 => ((text_Map_End.f l0_0 l0_1 t144).bind fun t145 => (if a1 = t145 then (some (0, 0, false, 6)) else ((object_run.f k l0_0 l0_1 t144 a1 l0_0 l0_1 a3).bind fun bt146 => (if a2 = 105 then (some (bt146.1, bt146.2, false, 0)) else ((object_word_1.f k a1 l0_0 l0_1 a3).bind fun t148 => (if t148 = 0 then ((text_Map_End.f l0_0 l0_1 t144).bind fun t149 => (if bt146.2 < t149 then (object_word.j0 k t144 bt146.1 bt146.2 true true l0_0 l0_1 a3) else (object_word.j0 k t144 bt146.1 bt146.2 true false l0_0 l0_1 a3))) else ((text_Map_End.f l0_0 l0_1 t144).bind fun t156 => (if bt146.2 < t156 then ((object_word_1.f k bt146.2 l0_0 l0_1 a3).bind fun t157 => (object_word.j1 k t144 bt146.1 bt146.2 false (t157 == 0) l0_0 l0_1 a3)) else (object_word.j1 k t144 bt146.1 bt146.2 false false l0_0 l0_1 a3)))))))))) = some (r1, r2, r3, r4) := h
 clear h
 replace H := Option.bind_eq_some_iff.mp H
 obtain ⟨t144, A50, H⟩ := H
 (try dsimp only at H)
 have A5 := Aside0.mk A50
 clear A50
 replace H := Option.bind_eq_some_iff.mp H
 obtain ⟨t145, A60, H⟩ := H
 (try dsimp only at H)
 have A6 := Aside0.mk A60
 clear A60
 by_cases c7 : a1 = t145
 ·
  rw [if_pos c7] at H
  have c7b0 : (a1 == t145) = true := beq_iff_eq.mpr c7
  have c7b1 : (a1 != t145) = false := bne_eq_false_iff_eq.mpr c7
  clear c7
  simp only [Option.some.injEq, Prod.mk.injEq] at H
  obtain ⟨rfl, rfl, rfl, rfl⟩ := H
  go_enter Tryd.func29, Tryd.ntmps29
  go_wp2_with (first | ((with_reducible refine gate_dst (N := 4) rfl ?_); refine box_event ?hg (N := 4) ?hd (cs := #[.pointer (some ⟨g0, 0, none⟩)]) (t := 49) ?hr ?_; (case hd => rfl); (case hg => rfl); (case hr => first | (go_simp; done) | (go_simp; rfl)); intro gb141 hg w8 hbox hb; have n0_ := Aside0.mk (blb hb BK0.out); have n1_ := Aside0.mk (below_step (by repeat with_reducible first | exact HB.out | apply pw_below_drewN | apply below_drew1 | apply below_alloc) hb); have n2_ := Aside0.mk (hbox); have n3_ := Aside0.mk (geb hg (by repeat with_reducible first | exact HB.out | apply pw_below_drewN | apply below_drew1 | apply below_alloc)); have n4_ := n3_; have n5_ := Aside0.mk ((nbl hg BK0.out)); have n6_ := Aside0.mk ((nbr hg BK0.out)); clear BK0; clear HB; have BK0 := n0_; have HB := n1_; have BK141 := n2_; have GW141 := n3_; have GE141 := n4_; have NB0_141 := n5_; have NB141_0 := n6_; clear n0_ n1_ n2_ n3_ n4_ n5_ n6_; clear hb hbox hg) | ((with_reducible refine gate_dst (N := 7) rfl ?_); refine box_event ?hg (N := 7) ?hd (cs := #[.bool a3]) (t := 4) ?hr ?_; (case hd => rfl); (case hg => rfl); (case hr => first | (go_simp; done) | (go_simp; rfl)); intro gb142 hg w9 hbox hb; have n0_ := Aside0.mk (blb hb BK0.out); have n1_ := Aside0.mk (blb hb BK141.out); have n2_ := Aside0.mk (below_step (by repeat with_reducible first | exact HB.out | apply pw_below_drewN | apply below_drew1 | apply below_alloc) hb); have n3_ := Aside0.mk (hbox); have n4_ := Aside0.mk (geb hg (by repeat with_reducible first | exact HB.out | apply pw_below_drewN | apply below_drew1 | apply below_alloc)); have n5_ := n4_; have n6_ := Aside0.mk ((nbl hg BK0.out)); have n7_ := Aside0.mk ((nbr hg BK0.out)); have n8_ := Aside0.mk ((nbl hg BK141.out)); have n9_ := Aside0.mk ((nbr hg BK141.out)); clear BK0; clear BK141; clear HB; have BK0 := n0_; have BK141 := n1_; have HB := n2_; have BK142 := n3_; have GW142 := n4_; have GE142 := n5_; have NB0_142 := n6_; have NB142_0 := n7_; have NB141_142 := n8_; have NB142_141 := n9_; clear n0_ n1_ n2_ n3_ n4_ n5_ n6_ n7_ n8_ n9_; clear hb hbox hg) | ((with_reducible refine gate_dst (N := 8) rfl ?_); refine box_event ?hg (N := 8) ?hd (cs := #[.int .i64 0, .int .i64 0, .bool false]) (t := 35) ?hr ?_; (case hd => rfl); (case hg => rfl); (case hr => first | (go_simp; done) | (go_simp; rfl)); intro gb143 hg w10 hbox hb; have n0_ := Aside0.mk (blb hb BK0.out); have n1_ := Aside0.mk (blb hb BK141.out); have n2_ := Aside0.mk (blb hb BK142.out); have n3_ := Aside0.mk (below_step (by repeat with_reducible first | exact HB.out | apply pw_below_drewN | apply below_drew1 | apply below_alloc) hb); have n4_ := Aside0.mk (hbox); have n5_ := Aside0.mk (geb hg (by repeat with_reducible first | exact HB.out | apply pw_below_drewN | apply below_drew1 | apply below_alloc)); have n6_ := n5_; have n7_ := Aside0.mk ((nbl hg BK0.out)); have n8_ := Aside0.mk ((nbr hg BK0.out)); have n9_ := Aside0.mk ((nbl hg BK141.out)); have n10_ := Aside0.mk ((nbr hg BK141.out)); have n11_ := Aside0.mk ((nbl hg BK142.out)); have n12_ := Aside0.mk ((nbr hg BK142.out)); clear BK0; clear BK141; clear BK142; clear HB; have BK0 := n0_; have BK141 := n1_; have BK142 := n2_; have HB := n3_; have BK143 := n4_; have GW143 := n5_; have GE143 := n6_; have NB0_143 := n7_; have NB143_0 := n8_; have NB141_143 := n9_; have NB143_141 := n10_; have NB142_143 := n11_; have NB143_142 := n12_; clear n0_ n1_ n2_ n3_ n4_ n5_ n6_ n7_ n8_ n9_ n10_ n11_ n12_; clear hb hbox hg; have hnb11 := NB141_0.out; have hnc11 := NB0_141.out; have hnb12 := NB141_142.out; have hnc12 := NB142_141.out; have hnb13 := NB141_143.out; have hnc13 := NB143_141.out; have hcz14_0 := cz0 BK141.out; have hfz14_0 := blk_frozen BK141.out 0) | ((with_reducible refine gate_callee (f := 44) rfl ?_); refine goesL_ (some 18) rfl rfl Tryd.func44 (by kernel_rfl) rfl #[.pointer (some ⟨g0, 0, none⟩), .int .i64 a1] rfl (map2 rfl rfl) ?_; (with_reducible refine (text_Map_Row.calls k g0 A0_0 c0_0 l0_0 A0_1 c0_1 l0_1 a1 t144 _ ?side1 ?side2 ?side3 ?side4 ?side5 A5.out).mono ?_); (case side1 => exact BK0.out); (case side2 => repeat (first | exact (Kd.C_below HR0_0.out HB.out) | with_reducible first | refine Kd.C_drewN ?_ _ | refine Kd.C_drew ?_ | refine Kd.C_alloc ?_ _)); (case side3 => exact HC0_0.out); (case side4 => repeat (first | exact (Kd.C_below HR0_1.out HB.out) | with_reducible first | refine Kd.C_drewN ?_ _ | refine Kd.C_drew ?_ | refine Kd.C_alloc ?_ _)); (case side5 => exact HC0_1.out); rintro e w' ⟨rfl, ⟨nd, rfl⟩⟩; refine ⟨_, rfl, ?_⟩; (try (rw [drewN_self w10]; generalize hq_ : World.drewN w10 _ = w10; have n0_ : Aside0 (w10.heap[g0]? = some (.cells #[.slice A0_0 l0_0.length c0_0, .slice A0_1 l0_1.length c0_1] 66 (0, 0))) := ⟨by rw [← hq_]; exact (by exact BK0.out)⟩; have n1_ : Aside0 (w10.heap[gb141]? = some (.cells #[.pointer (some ⟨g0, 0, none⟩)] 49 (0, 0))) := ⟨by rw [← hq_]; exact (by exact BK141.out)⟩; have n2_ : Aside0 (w10.heap[gb142]? = some (.cells #[.bool a3] 4 (0, 0))) := ⟨by rw [← hq_]; exact (by exact BK142.out)⟩; have n3_ : Aside0 (w10.heap[gb143]? = some (.cells #[.int .i64 0, .int .i64 0, .bool false] 35 (0, 0))) := ⟨by rw [← hq_]; exact (by exact BK143.out)⟩; have n4_ : Aside0 (Below w.heap.size w w10) := ⟨by rw [← hq_]; exact (by repeat with_reducible first | exact HB.out | apply pw_below_drewN | apply below_drew1 | apply below_alloc)⟩; clear BK0 BK141 BK142 BK143 HB hq_; have BK0 := n0_; have BK141 := n1_; have BK142 := n2_; have BK143 := n3_; have HB := n4_; clear n0_ n1_ n2_ n3_ n4_)); have hcz15_0 := cz0 BK141.out; have hfz15_0 := blk_frozen BK141.out 0) | ((with_reducible refine gate_callee (f := 45) rfl ?_); refine goesL_ (some 22) rfl rfl Tryd.func45 (by kernel_rfl) rfl #[.pointer (some ⟨g0, 0, none⟩), .int .i64 t144] rfl (map2 rfl rfl) ?_; (with_reducible refine (text_Map_End.calls g0 A0_0 c0_0 l0_0 A0_1 c0_1 l0_1 t144 t145 _ ?side1 ?side2 ?side3 ?side4 ?side5 A6.out).mono ?_); (case side1 => exact BK0.out); (case side2 => repeat (first | exact (Kd.C_below HR0_0.out HB.out) | with_reducible first | refine Kd.C_drewN ?_ _ | refine Kd.C_drew ?_ | refine Kd.C_alloc ?_ _)); (case side3 => exact HC0_0.out); (case side4 => repeat (first | exact (Kd.C_below HR0_1.out HB.out) | with_reducible first | refine Kd.C_drewN ?_ _ | refine Kd.C_drew ?_ | refine Kd.C_alloc ?_ _)); (case side5 => exact HC0_1.out); rintro e w' ⟨rfl, ⟨nd, rfl⟩⟩; refine ⟨_, rfl, ?_⟩; (try (rw [drewN_self w10]; generalize hq_ : World.drewN w10 _ = w10; have n0_ : Aside0 (w10.heap[g0]? = some (.cells #[.slice A0_0 l0_0.length c0_0, .slice A0_1 l0_1.length c0_1] 66 (0, 0))) := ⟨by rw [← hq_]; exact (by exact BK0.out)⟩; have n1_ : Aside0 (w10.heap[gb141]? = some (.cells #[.pointer (some ⟨g0, 0, none⟩)] 49 (0, 0))) := ⟨by rw [← hq_]; exact (by exact BK141.out)⟩; have n2_ : Aside0 (w10.heap[gb142]? = some (.cells #[.bool a3] 4 (0, 0))) := ⟨by rw [← hq_]; exact (by exact BK142.out)⟩; have n3_ : Aside0 (w10.heap[gb143]? = some (.cells #[.int .i64 0, .int .i64 0, .bool false] 35 (0, 0))) := ⟨by rw [← hq_]; exact (by exact BK143.out)⟩; have n4_ : Aside0 (Below w.heap.size w w10) := ⟨by rw [← hq_]; exact (by repeat with_reducible first | exact HB.out | apply pw_below_drewN | apply below_drew1 | apply below_alloc)⟩; clear BK0 BK141 BK142 BK143 HB hq_; have BK0 := n0_; have BK141 := n1_; have BK142 := n2_; have BK143 := n3_; have HB := n4_; clear n0_ n1_ n2_ n3_ n4_)); have hnb16 := NB143_0.out; have hnc16 := NB0_143.out; have hnb17 := NB143_142.out; have hnc17 := NB142_143.out; have hcz18_0 := cz0 BK143.out; have hcz18_1 := cz1 BK143.out; have hcz18_2 := cz2 BK143.out; have hfz18_0 := blk_frozen BK143.out 0; have hfz18_1 := blk_frozen BK143.out 1; have hfz18_2 := blk_frozen BK143.out 2))
  refine bodyPost_ret (results_ct rfl _ _ gb143 35 #[.int .i64 0, .int .i64 0, .bool false] (0, 0) _ rfl (by (with_reducible repeat (first | refine blk_drewN ?_ _ | refine blk_drew ?_ | refine blk_alloc ?_ _)); refine blk_put (cs := #[.int .i64 0, .int .i64 0, .bool false]) ?_ 2 _ rfl; (with_reducible repeat (first | refine blk_drewN ?_ _ | refine blk_drew ?_ | refine blk_alloc ?_ _)); refine blk_put (cs := #[.int .i64 0, .int .i64 0, .bool false]) ?_ 1 _ rfl; (with_reducible repeat (first | refine blk_drewN ?_ _ | refine blk_drew ?_ | refine blk_alloc ?_ _)); refine blk_put (cs := #[.int .i64 0, .int .i64 0, .bool false]) ?_ 0 _ rfl; (with_reducible repeat (first | refine blk_drewN ?_ _ | refine blk_drew ?_ | refine blk_alloc ?_ _)); exact BK143.out) Tryd.underlying35 rfl (by kernel_rfl)) rfl ?_
  exact ⟨by first | rfl | (simp [errW_none, errW_some] <;> rfl) | (simp [*, errW_none, errW_some] <;> rfl), by repeat with_reducible first | exact HB.out | apply pw_below_drewN | refine below_set ?_ GE143.out | apply below_drew1 | apply below_alloc⟩
 rw [if_neg c7] at H
 have c7b0 : (a1 == t145) = false := beq_eq_false_iff_ne.mpr c7
 have c7b1 : (a1 != t145) = true := bne_iff_ne.mpr c7
 replace H := Option.bind_eq_some_iff.mp H
 obtain ⟨⟨t146, t147⟩, A190, H⟩ := H
 (try dsimp only at H)
 have A19 := Aside0.mk A190
 clear A190
 by_cases c20 : a2 = 105
 ·
  rw [if_pos c20] at H
  have c20b0 : (a2 == 105) = true := beq_iff_eq.mpr c20
  have c20b1 : (a2 != 105) = false := bne_eq_false_iff_eq.mpr c20
  clear c20
  simp only [Option.some.injEq, Prod.mk.injEq] at H
  obtain ⟨rfl, rfl, rfl, rfl⟩ := H
  go_enter Tryd.func29, Tryd.ntmps29
  go_wp2_with (first | ((with_reducible refine gate_dst (N := 4) rfl ?_); refine box_event ?hg (N := 4) ?hd (cs := #[.pointer (some ⟨g0, 0, none⟩)]) (t := 49) ?hr ?_; (case hd => rfl); (case hg => rfl); (case hr => first | (go_simp; done) | (go_simp; rfl)); intro gb141 hg w21 hbox hb; have n0_ := Aside0.mk (blb hb BK0.out); have n1_ := Aside0.mk (below_step (by repeat with_reducible first | exact HB.out | apply pw_below_drewN | apply below_drew1 | apply below_alloc) hb); have n2_ := Aside0.mk (hbox); have n3_ := Aside0.mk (geb hg (by repeat with_reducible first | exact HB.out | apply pw_below_drewN | apply below_drew1 | apply below_alloc)); have n4_ := n3_; have n5_ := Aside0.mk ((nbl hg BK0.out)); have n6_ := Aside0.mk ((nbr hg BK0.out)); clear BK0; clear HB; have BK0 := n0_; have HB := n1_; have BK141 := n2_; have GW141 := n3_; have GE141 := n4_; have NB0_141 := n5_; have NB141_0 := n6_; clear n0_ n1_ n2_ n3_ n4_ n5_ n6_; clear hb hbox hg) | ((with_reducible refine gate_dst (N := 7) rfl ?_); refine box_event ?hg (N := 7) ?hd (cs := #[.bool a3]) (t := 4) ?hr ?_; (case hd => rfl); (case hg => rfl); (case hr => first | (go_simp; done) | (go_simp; rfl)); intro gb142 hg w22 hbox hb; have n0_ := Aside0.mk (blb hb BK0.out); have n1_ := Aside0.mk (blb hb BK141.out); have n2_ := Aside0.mk (below_step (by repeat with_reducible first | exact HB.out | apply pw_below_drewN | apply below_drew1 | apply below_alloc) hb); have n3_ := Aside0.mk (hbox); have n4_ := Aside0.mk (geb hg (by repeat with_reducible first | exact HB.out | apply pw_below_drewN | apply below_drew1 | apply below_alloc)); have n5_ := n4_; have n6_ := Aside0.mk ((nbl hg BK0.out)); have n7_ := Aside0.mk ((nbr hg BK0.out)); have n8_ := Aside0.mk ((nbl hg BK141.out)); have n9_ := Aside0.mk ((nbr hg BK141.out)); clear BK0; clear BK141; clear HB; have BK0 := n0_; have BK141 := n1_; have HB := n2_; have BK142 := n3_; have GW142 := n4_; have GE142 := n5_; have NB0_142 := n6_; have NB142_0 := n7_; have NB141_142 := n8_; have NB142_141 := n9_; clear n0_ n1_ n2_ n3_ n4_ n5_ n6_ n7_ n8_ n9_; clear hb hbox hg) | ((with_reducible refine gate_dst (N := 8) rfl ?_); refine box_event ?hg (N := 8) ?hd (cs := #[.int .i64 0, .int .i64 0, .bool false]) (t := 35) ?hr ?_; (case hd => rfl); (case hg => rfl); (case hr => first | (go_simp; done) | (go_simp; rfl)); intro gb143 hg w23 hbox hb; have n0_ := Aside0.mk (blb hb BK0.out); have n1_ := Aside0.mk (blb hb BK141.out); have n2_ := Aside0.mk (blb hb BK142.out); have n3_ := Aside0.mk (below_step (by repeat with_reducible first | exact HB.out | apply pw_below_drewN | apply below_drew1 | apply below_alloc) hb); have n4_ := Aside0.mk (hbox); have n5_ := Aside0.mk (geb hg (by repeat with_reducible first | exact HB.out | apply pw_below_drewN | apply below_drew1 | apply below_alloc)); have n6_ := n5_; have n7_ := Aside0.mk ((nbl hg BK0.out)); have n8_ := Aside0.mk ((nbr hg BK0.out)); have n9_ := Aside0.mk ((nbl hg BK141.out)); have n10_ := Aside0.mk ((nbr hg BK141.out)); have n11_ := Aside0.mk ((nbl hg BK142.out)); have n12_ := Aside0.mk ((nbr hg BK142.out)); clear BK0; clear BK141; clear BK142; clear HB; have BK0 := n0_; have BK141 := n1_; have BK142 := n2_; have HB := n3_; have BK143 := n4_; have GW143 := n5_; have GE143 := n6_; have NB0_143 := n7_; have NB143_0 := n8_; have NB141_143 := n9_; have NB143_141 := n10_; have NB142_143 := n11_; have NB143_142 := n12_; clear n0_ n1_ n2_ n3_ n4_ n5_ n6_ n7_ n8_ n9_ n10_ n11_ n12_; clear hb hbox hg; have hnb24 := NB141_0.out; have hnc24 := NB0_141.out; have hnb25 := NB141_142.out; have hnc25 := NB142_141.out; have hnb26 := NB141_143.out; have hnc26 := NB143_141.out; have hcz27_0 := cz0 BK141.out; have hfz27_0 := blk_frozen BK141.out 0) | ((with_reducible refine gate_callee (f := 44) rfl ?_); refine goesL_ (some 18) rfl rfl Tryd.func44 (by kernel_rfl) rfl #[.pointer (some ⟨g0, 0, none⟩), .int .i64 a1] rfl (map2 rfl rfl) ?_; (with_reducible refine (text_Map_Row.calls k g0 A0_0 c0_0 l0_0 A0_1 c0_1 l0_1 a1 t144 _ ?side1 ?side2 ?side3 ?side4 ?side5 A5.out).mono ?_); (case side1 => exact BK0.out); (case side2 => repeat (first | exact (Kd.C_below HR0_0.out HB.out) | with_reducible first | refine Kd.C_drewN ?_ _ | refine Kd.C_drew ?_ | refine Kd.C_alloc ?_ _)); (case side3 => exact HC0_0.out); (case side4 => repeat (first | exact (Kd.C_below HR0_1.out HB.out) | with_reducible first | refine Kd.C_drewN ?_ _ | refine Kd.C_drew ?_ | refine Kd.C_alloc ?_ _)); (case side5 => exact HC0_1.out); rintro e w' ⟨rfl, ⟨nd, rfl⟩⟩; refine ⟨_, rfl, ?_⟩; (try (rw [drewN_self w23]; generalize hq_ : World.drewN w23 _ = w23; have n0_ : Aside0 (w23.heap[g0]? = some (.cells #[.slice A0_0 l0_0.length c0_0, .slice A0_1 l0_1.length c0_1] 66 (0, 0))) := ⟨by rw [← hq_]; exact (by exact BK0.out)⟩; have n1_ : Aside0 (w23.heap[gb141]? = some (.cells #[.pointer (some ⟨g0, 0, none⟩)] 49 (0, 0))) := ⟨by rw [← hq_]; exact (by exact BK141.out)⟩; have n2_ : Aside0 (w23.heap[gb142]? = some (.cells #[.bool a3] 4 (0, 0))) := ⟨by rw [← hq_]; exact (by exact BK142.out)⟩; have n3_ : Aside0 (w23.heap[gb143]? = some (.cells #[.int .i64 0, .int .i64 0, .bool false] 35 (0, 0))) := ⟨by rw [← hq_]; exact (by exact BK143.out)⟩; have n4_ : Aside0 (Below w.heap.size w w23) := ⟨by rw [← hq_]; exact (by repeat with_reducible first | exact HB.out | apply pw_below_drewN | apply below_drew1 | apply below_alloc)⟩; clear BK0 BK141 BK142 BK143 HB hq_; have BK0 := n0_; have BK141 := n1_; have BK142 := n2_; have BK143 := n3_; have HB := n4_; clear n0_ n1_ n2_ n3_ n4_)); have hcz28_0 := cz0 BK141.out; have hfz28_0 := blk_frozen BK141.out 0) | ((with_reducible refine gate_callee (f := 45) rfl ?_); refine goesL_ (some 22) rfl rfl Tryd.func45 (by kernel_rfl) rfl #[.pointer (some ⟨g0, 0, none⟩), .int .i64 t144] rfl (map2 rfl rfl) ?_; (with_reducible refine (text_Map_End.calls g0 A0_0 c0_0 l0_0 A0_1 c0_1 l0_1 t144 t145 _ ?side1 ?side2 ?side3 ?side4 ?side5 A6.out).mono ?_); (case side1 => exact BK0.out); (case side2 => repeat (first | exact (Kd.C_below HR0_0.out HB.out) | with_reducible first | refine Kd.C_drewN ?_ _ | refine Kd.C_drew ?_ | refine Kd.C_alloc ?_ _)); (case side3 => exact HC0_0.out); (case side4 => repeat (first | exact (Kd.C_below HR0_1.out HB.out) | with_reducible first | refine Kd.C_drewN ?_ _ | refine Kd.C_drew ?_ | refine Kd.C_alloc ?_ _)); (case side5 => exact HC0_1.out); rintro e w' ⟨rfl, ⟨nd, rfl⟩⟩; refine ⟨_, rfl, ?_⟩; (try (rw [drewN_self w23]; generalize hq_ : World.drewN w23 _ = w23; have n0_ : Aside0 (w23.heap[g0]? = some (.cells #[.slice A0_0 l0_0.length c0_0, .slice A0_1 l0_1.length c0_1] 66 (0, 0))) := ⟨by rw [← hq_]; exact (by exact BK0.out)⟩; have n1_ : Aside0 (w23.heap[gb141]? = some (.cells #[.pointer (some ⟨g0, 0, none⟩)] 49 (0, 0))) := ⟨by rw [← hq_]; exact (by exact BK141.out)⟩; have n2_ : Aside0 (w23.heap[gb142]? = some (.cells #[.bool a3] 4 (0, 0))) := ⟨by rw [← hq_]; exact (by exact BK142.out)⟩; have n3_ : Aside0 (w23.heap[gb143]? = some (.cells #[.int .i64 0, .int .i64 0, .bool false] 35 (0, 0))) := ⟨by rw [← hq_]; exact (by exact BK143.out)⟩; have n4_ : Aside0 (Below w.heap.size w w23) := ⟨by rw [← hq_]; exact (by repeat with_reducible first | exact HB.out | apply pw_below_drewN | apply below_drew1 | apply below_alloc)⟩; clear BK0 BK141 BK142 BK143 HB hq_; have BK0 := n0_; have BK141 := n1_; have BK142 := n2_; have BK143 := n3_; have HB := n4_; clear n0_ n1_ n2_ n3_ n4_)); have hcz29_0 := cz0 BK141.out; have hfz29_0 := blk_frozen BK141.out 0) | ((with_reducible refine gate_callee (f := 48) rfl ?_); refine goesL_ (some 31) rfl rfl Tryd.func48 (by kernel_rfl) rfl #[.pointer (some ⟨g0, 0, none⟩), .int .i64 t144, .int .i64 a1, .func (.func 46) #[] #[.pointer (some ⟨gb141, 0, none⟩), .pointer (some ⟨gb142, 0, none⟩)]] rfl (map4 rfl rfl rfl rfl) ?_; (with_reducible refine (object_run.calls k g0 A0_0 c0_0 l0_0 A0_1 c0_1 l0_1 t144 a1 g0 gb141 gb142 A0_0 c0_0 l0_0 A0_1 c0_1 l0_1 a3 t146 t147 _ ?side1 ?side2 ?side3 ?side4 ?side5 ?side6 ?side7 ?side8 ?side9 ?side10 ?side11 ?side12 A19.out).mono ?_); (case side1 => exact BK0.out); (case side2 => repeat (first | exact (Kd.C_below HR0_0.out HB.out) | with_reducible first | refine Kd.C_drewN ?_ _ | refine Kd.C_drew ?_ | refine Kd.C_alloc ?_ _)); (case side3 => exact HC0_0.out); (case side4 => repeat (first | exact (Kd.C_below HR0_1.out HB.out) | with_reducible first | refine Kd.C_drewN ?_ _ | refine Kd.C_drew ?_ | refine Kd.C_alloc ?_ _)); (case side5 => exact HC0_1.out); (case side6 => exact BK0.out); (case side7 => exact BK141.out); (case side8 => exact BK142.out); (case side9 => repeat (first | exact (Kd.C_below HR0_0.out HB.out) | with_reducible first | refine Kd.C_drewN ?_ _ | refine Kd.C_drew ?_ | refine Kd.C_alloc ?_ _)); (case side10 => exact HC0_0.out); (case side11 => repeat (first | exact (Kd.C_below HR0_1.out HB.out) | with_reducible first | refine Kd.C_drewN ?_ _ | refine Kd.C_drew ?_ | refine Kd.C_alloc ?_ _)); (case side12 => exact HC0_1.out); rintro e w' ⟨rfl, ⟨nd, rfl⟩⟩; refine ⟨_, rfl, ?_⟩; (try (rw [drewN_self w23]; generalize hq_ : World.drewN w23 _ = w23; have n0_ : Aside0 (w23.heap[g0]? = some (.cells #[.slice A0_0 l0_0.length c0_0, .slice A0_1 l0_1.length c0_1] 66 (0, 0))) := ⟨by rw [← hq_]; exact (by exact BK0.out)⟩; have n1_ : Aside0 (w23.heap[gb141]? = some (.cells #[.pointer (some ⟨g0, 0, none⟩)] 49 (0, 0))) := ⟨by rw [← hq_]; exact (by exact BK141.out)⟩; have n2_ : Aside0 (w23.heap[gb142]? = some (.cells #[.bool a3] 4 (0, 0))) := ⟨by rw [← hq_]; exact (by exact BK142.out)⟩; have n3_ : Aside0 (w23.heap[gb143]? = some (.cells #[.int .i64 0, .int .i64 0, .bool false] 35 (0, 0))) := ⟨by rw [← hq_]; exact (by exact BK143.out)⟩; have n4_ : Aside0 (Below w.heap.size w w23) := ⟨by rw [← hq_]; exact (by repeat with_reducible first | exact HB.out | apply pw_below_drewN | apply below_drew1 | apply below_alloc)⟩; clear BK0 BK141 BK142 BK143 HB hq_; have BK0 := n0_; have BK141 := n1_; have BK142 := n2_; have BK143 := n3_; have HB := n4_; clear n0_ n1_ n2_ n3_ n4_)); have hnb30 := NB143_0.out; have hnc30 := NB0_143.out; have hnb31 := NB143_142.out; have hnc31 := NB142_143.out; have hcz32_0 := cz0 BK143.out; have hcz32_1 := cz1 BK143.out; have hcz32_2 := cz2 BK143.out; have hfz32_0 := blk_frozen BK143.out 0; have hfz32_1 := blk_frozen BK143.out 1; have hfz32_2 := blk_frozen BK143.out 2))
  refine bodyPost_ret (results_ct rfl _ _ gb143 35 #[.int .i64 t146, .int .i64 t147, .bool false] (0, 0) _ rfl (by (with_reducible repeat (first | refine blk_drewN ?_ _ | refine blk_drew ?_ | refine blk_alloc ?_ _)); refine blk_put (cs := #[.int .i64 t146, .int .i64 t147, .bool false]) ?_ 2 _ rfl; (with_reducible repeat (first | refine blk_drewN ?_ _ | refine blk_drew ?_ | refine blk_alloc ?_ _)); refine blk_put (cs := #[.int .i64 t146, .int .i64 0, .bool false]) ?_ 1 _ rfl; (with_reducible repeat (first | refine blk_drewN ?_ _ | refine blk_drew ?_ | refine blk_alloc ?_ _)); refine blk_put (cs := #[.int .i64 0, .int .i64 0, .bool false]) ?_ 0 _ rfl; (with_reducible repeat (first | refine blk_drewN ?_ _ | refine blk_drew ?_ | refine blk_alloc ?_ _)); exact BK143.out) Tryd.underlying35 rfl (by kernel_rfl)) rfl ?_
  exact ⟨by first | rfl | (simp [errW_none, errW_some] <;> rfl) | (simp [*, errW_none, errW_some] <;> rfl), by repeat with_reducible first | exact HB.out | apply pw_below_drewN | refine below_set ?_ GE143.out | apply below_drew1 | apply below_alloc⟩
 rw [if_neg c20] at H
 have c20b0 : (a2 == 105) = false := beq_eq_false_iff_ne.mpr c20
 have c20b1 : (a2 != 105) = true := bne_iff_ne.mpr c20
 replace H := Option.bind_eq_some_iff.mp H
 obtain ⟨t148, A330, H⟩ := H
 (try dsimp only at H)
 have A33 := Aside0.mk A330
 clear A330
 by_cases c34 : t148 = 0
 ·
  rw [if_pos c34] at H
  have c34b0 : (t148 == 0) = true := beq_iff_eq.mpr c34
  have c34b1 : (t148 != 0) = false := bne_eq_false_iff_eq.mpr c34
  clear c34
  have HC35 := Aside0.mk H
  clear H
  go_enter Tryd.func29, Tryd.ntmps29
  go_upto_region 9 with (first | ((with_reducible refine gate_dst (N := 4) rfl ?_); refine box_event ?hg (N := 4) ?hd (cs := #[.pointer (some ⟨g0, 0, none⟩)]) (t := 49) ?hr ?_; (case hd => rfl); (case hg => rfl); (case hr => first | (go_simp; done) | (go_simp; rfl)); intro gb141 hg w36 hbox hb; have n0_ := Aside0.mk (blb hb BK0.out); have n1_ := Aside0.mk (below_step (by repeat with_reducible first | exact HB.out | apply pw_below_drewN | apply below_drew1 | apply below_alloc) hb); have n2_ := Aside0.mk (hbox); have n3_ := Aside0.mk (geb hg (by repeat with_reducible first | exact HB.out | apply pw_below_drewN | apply below_drew1 | apply below_alloc)); have n4_ := n3_; have n5_ := Aside0.mk ((nbl hg BK0.out)); have n6_ := Aside0.mk ((nbr hg BK0.out)); clear BK0; clear HB; have BK0 := n0_; have HB := n1_; have BK141 := n2_; have GW141 := n3_; have GE141 := n4_; have NB0_141 := n5_; have NB141_0 := n6_; clear n0_ n1_ n2_ n3_ n4_ n5_ n6_; clear hb hbox hg) | ((with_reducible refine gate_dst (N := 7) rfl ?_); refine box_event ?hg (N := 7) ?hd (cs := #[.bool a3]) (t := 4) ?hr ?_; (case hd => rfl); (case hg => rfl); (case hr => first | (go_simp; done) | (go_simp; rfl)); intro gb142 hg w37 hbox hb; have n0_ := Aside0.mk (blb hb BK0.out); have n1_ := Aside0.mk (blb hb BK141.out); have n2_ := Aside0.mk (below_step (by repeat with_reducible first | exact HB.out | apply pw_below_drewN | apply below_drew1 | apply below_alloc) hb); have n3_ := Aside0.mk (hbox); have n4_ := Aside0.mk (geb hg (by repeat with_reducible first | exact HB.out | apply pw_below_drewN | apply below_drew1 | apply below_alloc)); have n5_ := n4_; have n6_ := Aside0.mk ((nbl hg BK0.out)); have n7_ := Aside0.mk ((nbr hg BK0.out)); have n8_ := Aside0.mk ((nbl hg BK141.out)); have n9_ := Aside0.mk ((nbr hg BK141.out)); clear BK0; clear BK141; clear HB; have BK0 := n0_; have BK141 := n1_; have HB := n2_; have BK142 := n3_; have GW142 := n4_; have GE142 := n5_; have NB0_142 := n6_; have NB142_0 := n7_; have NB141_142 := n8_; have NB142_141 := n9_; clear n0_ n1_ n2_ n3_ n4_ n5_ n6_ n7_ n8_ n9_; clear hb hbox hg) | ((with_reducible refine gate_dst (N := 8) rfl ?_); refine box_event ?hg (N := 8) ?hd (cs := #[.int .i64 0, .int .i64 0, .bool false]) (t := 35) ?hr ?_; (case hd => rfl); (case hg => rfl); (case hr => first | (go_simp; done) | (go_simp; rfl)); intro gb143 hg w38 hbox hb; have n0_ := Aside0.mk (blb hb BK0.out); have n1_ := Aside0.mk (blb hb BK141.out); have n2_ := Aside0.mk (blb hb BK142.out); have n3_ := Aside0.mk (below_step (by repeat with_reducible first | exact HB.out | apply pw_below_drewN | apply below_drew1 | apply below_alloc) hb); have n4_ := Aside0.mk (hbox); have n5_ := Aside0.mk (geb hg (by repeat with_reducible first | exact HB.out | apply pw_below_drewN | apply below_drew1 | apply below_alloc)); have n6_ := n5_; have n7_ := Aside0.mk ((nbl hg BK0.out)); have n8_ := Aside0.mk ((nbr hg BK0.out)); have n9_ := Aside0.mk ((nbl hg BK141.out)); have n10_ := Aside0.mk ((nbr hg BK141.out)); have n11_ := Aside0.mk ((nbl hg BK142.out)); have n12_ := Aside0.mk ((nbr hg BK142.out)); clear BK0; clear BK141; clear BK142; clear HB; have BK0 := n0_; have BK141 := n1_; have BK142 := n2_; have HB := n3_; have BK143 := n4_; have GW143 := n5_; have GE143 := n6_; have NB0_143 := n7_; have NB143_0 := n8_; have NB141_143 := n9_; have NB143_141 := n10_; have NB142_143 := n11_; have NB143_142 := n12_; clear n0_ n1_ n2_ n3_ n4_ n5_ n6_ n7_ n8_ n9_ n10_ n11_ n12_; clear hb hbox hg; have hnb39 := NB141_0.out; have hnc39 := NB0_141.out; have hnb40 := NB141_142.out; have hnc40 := NB142_141.out; have hnb41 := NB141_143.out; have hnc41 := NB143_141.out; have hcz42_0 := cz0 BK141.out; have hfz42_0 := blk_frozen BK141.out 0) | ((with_reducible refine gate_callee (f := 44) rfl ?_); refine goesL_ (some 18) rfl rfl Tryd.func44 (by kernel_rfl) rfl #[.pointer (some ⟨g0, 0, none⟩), .int .i64 a1] rfl (map2 rfl rfl) ?_; (with_reducible refine (text_Map_Row.calls k g0 A0_0 c0_0 l0_0 A0_1 c0_1 l0_1 a1 t144 _ ?side1 ?side2 ?side3 ?side4 ?side5 A5.out).mono ?_); (case side1 => exact BK0.out); (case side2 => repeat (first | exact (Kd.C_below HR0_0.out HB.out) | with_reducible first | refine Kd.C_drewN ?_ _ | refine Kd.C_drew ?_ | refine Kd.C_alloc ?_ _)); (case side3 => exact HC0_0.out); (case side4 => repeat (first | exact (Kd.C_below HR0_1.out HB.out) | with_reducible first | refine Kd.C_drewN ?_ _ | refine Kd.C_drew ?_ | refine Kd.C_alloc ?_ _)); (case side5 => exact HC0_1.out); rintro e w' ⟨rfl, ⟨nd, rfl⟩⟩; refine ⟨_, rfl, ?_⟩) | ((with_reducible refine gate_callee (f := 45) rfl ?_); refine goesL_ (some 22) rfl rfl Tryd.func45 (by kernel_rfl) rfl #[.pointer (some ⟨g0, 0, none⟩), .int .i64 t144] rfl (map2 rfl rfl) ?_; (with_reducible refine (text_Map_End.calls g0 A0_0 c0_0 l0_0 A0_1 c0_1 l0_1 t144 t145 _ ?side1 ?side2 ?side3 ?side4 ?side5 A6.out).mono ?_); (case side1 => exact BK0.out); (case side2 => repeat (first | exact (Kd.C_below HR0_0.out (by repeat with_reducible first | exact HB.out | apply pw_below_drewN | apply below_drew1 | apply below_alloc)) | with_reducible first | refine Kd.C_drewN ?_ _ | refine Kd.C_drew ?_ | refine Kd.C_alloc ?_ _)); (case side3 => exact HC0_0.out); (case side4 => repeat (first | exact (Kd.C_below HR0_1.out (by repeat with_reducible first | exact HB.out | apply pw_below_drewN | apply below_drew1 | apply below_alloc)) | with_reducible first | refine Kd.C_drewN ?_ _ | refine Kd.C_drew ?_ | refine Kd.C_alloc ?_ _)); (case side5 => exact HC0_1.out); rintro e w' ⟨rfl, ⟨nd, rfl⟩⟩; refine ⟨_, rfl, ?_⟩) | ((with_reducible refine gate_callee (f := 48) rfl ?_); refine goesL_ (some 31) rfl rfl Tryd.func48 (by kernel_rfl) rfl #[.pointer (some ⟨g0, 0, none⟩), .int .i64 t144, .int .i64 a1, .func (.func 46) #[] #[.pointer (some ⟨gb141, 0, none⟩), .pointer (some ⟨gb142, 0, none⟩)]] rfl (map4 rfl rfl rfl rfl) ?_; (with_reducible refine (object_run.calls k g0 A0_0 c0_0 l0_0 A0_1 c0_1 l0_1 t144 a1 g0 gb141 gb142 A0_0 c0_0 l0_0 A0_1 c0_1 l0_1 a3 t146 t147 _ ?side1 ?side2 ?side3 ?side4 ?side5 ?side6 ?side7 ?side8 ?side9 ?side10 ?side11 ?side12 A19.out).mono ?_); (case side1 => exact BK0.out); (case side2 => repeat (first | exact (Kd.C_below HR0_0.out (by repeat with_reducible first | exact HB.out | apply pw_below_drewN | apply below_drew1 | apply below_alloc)) | with_reducible first | refine Kd.C_drewN ?_ _ | refine Kd.C_drew ?_ | refine Kd.C_alloc ?_ _)); (case side3 => exact HC0_0.out); (case side4 => repeat (first | exact (Kd.C_below HR0_1.out (by repeat with_reducible first | exact HB.out | apply pw_below_drewN | apply below_drew1 | apply below_alloc)) | with_reducible first | refine Kd.C_drewN ?_ _ | refine Kd.C_drew ?_ | refine Kd.C_alloc ?_ _)); (case side5 => exact HC0_1.out); (case side6 => exact BK0.out); (case side7 => exact BK141.out); (case side8 => exact BK142.out); (case side9 => repeat (first | exact (Kd.C_below HR0_0.out (by repeat with_reducible first | exact HB.out | apply pw_below_drewN | apply below_drew1 | apply below_alloc)) | with_reducible first | refine Kd.C_drewN ?_ _ | refine Kd.C_drew ?_ | refine Kd.C_alloc ?_ _)); (case side10 => exact HC0_0.out); (case side11 => repeat (first | exact (Kd.C_below HR0_1.out (by repeat with_reducible first | exact HB.out | apply pw_below_drewN | apply below_drew1 | apply below_alloc)) | with_reducible first | refine Kd.C_drewN ?_ _ | refine Kd.C_drew ?_ | refine Kd.C_alloc ?_ _)); (case side12 => exact HC0_1.out); rintro e w' ⟨rfl, ⟨nd, rfl⟩⟩; refine ⟨_, rfl, ?_⟩) | (go_at_call 46; (with_reducible refine (object_word_1.calls k a1 g0 gb141 A0_0 c0_0 l0_0 A0_1 c0_1 l0_1 gb142 a3 t148 _ ?side1 ?side2 ?side3 ?side4 ?side5 ?side6 ?side7 A33.out).mono ?_); (case side1 => exact BK0.out); (case side2 => exact BK141.out); (case side3 => repeat (first | exact (Kd.C_below HR0_0.out (by repeat with_reducible first | exact HB.out | apply pw_below_drewN | apply below_drew1 | apply below_alloc)) | with_reducible first | refine Kd.C_drewN ?_ _ | refine Kd.C_drew ?_ | refine Kd.C_alloc ?_ _)); (case side4 => exact HC0_0.out); (case side5 => repeat (first | exact (Kd.C_below HR0_1.out (by repeat with_reducible first | exact HB.out | apply pw_below_drewN | apply below_drew1 | apply below_alloc)) | with_reducible first | refine Kd.C_drewN ?_ _ | refine Kd.C_drew ?_ | refine Kd.C_alloc ?_ _)); (case side6 => exact HC0_1.out); (case side7 => exact BK142.out); rintro e w' ⟨rfl, ⟨nd, rfl⟩⟩))
  (try simp only [Act.put, List.setIfInBounds_toArray, List.set_cons_zero, List.set_cons_succ])
  go_cut [15] (fun v15 wc => ∃ (kq : Nat) (x15_34 : Bool), v15 = .bool x15_34 ∧ Aside0 (object_word.j0 kq t144 t146 t147 true x15_34 l0_0 l0_1 a3 = some (r1, r2, r3, r4)) ∧ Aside0 (kq ≤ k) ∧ Aside0 (wc.heap[g0]? = some (.cells #[(.slice A0_0 l0_0.length c0_0), (.slice A0_1 l0_1.length c0_1)] 66 (0, 0))) ∧ Aside0 (wc.heap[gb141]? = some (.cells #[.pointer (some ⟨g0, 0, none⟩)] 49 (0, 0))) ∧ Aside0 (wc.heap[gb142]? = some (.cells #[.bool a3] 4 (0, 0))) ∧ Aside0 (wc.heap[gb143]? = some (.cells #[.int .i64 0, .int .i64 0, .bool false] 35 (0, 0))) ∧ Aside0 (Below w.heap.size w wc))
  case first =>
   have H := HC35.out
   clear HC35
   replace H := Option.bind_eq_some_iff.mp H
   obtain ⟨t149, A430, H⟩ := H
   (try dsimp only at H)
   have A43 := Aside0.mk A430
   clear A430
   by_cases c44 : t147 < t149
   ·
    rw [if_pos c44] at H
    have c44b0 := decide_eq_true c44
    clear c44
    (first | rw [c44b0] | (simp only [i64_w, i32_w]; rw [c44b0]) | skip)
    have H' := Aside0.mk H
    clear H
    have hnb45 := NB141_0.out
    have hnc45 := NB0_141.out
    have hnb46 := NB141_142.out
    have hnc46 := NB142_141.out
    have hnb47 := NB141_143.out
    have hnc47 := NB143_141.out
    have hcz48_0 := cz0 BK141.out
    have hfz48_0 := blk_frozen BK141.out 0
    go_wp2_with (first | ((with_reducible refine gate_callee (f := 45) rfl ?_); refine goesL_ (some 46) rfl rfl Tryd.func45 (by kernel_rfl) rfl #[.pointer (some ⟨g0, 0, none⟩), .int .i64 t144] rfl (map2 rfl rfl) ?_; (with_reducible refine (text_Map_End.calls g0 A0_0 c0_0 l0_0 A0_1 c0_1 l0_1 t144 t149 _ ?side1 ?side2 ?side3 ?side4 ?side5 A43.out).mono ?_); (case side1 => exact BK0.out); (case side2 => repeat (first | exact (Kd.C_below HR0_0.out HB.out) | with_reducible first | refine Kd.C_drewN ?_ _ | refine Kd.C_drew ?_ | refine Kd.C_alloc ?_ _)); (case side3 => exact HC0_0.out); (case side4 => repeat (first | exact (Kd.C_below HR0_1.out HB.out) | with_reducible first | refine Kd.C_drewN ?_ _ | refine Kd.C_drew ?_ | refine Kd.C_alloc ?_ _)); (case side5 => exact HC0_1.out); rintro e w' ⟨rfl, ⟨nd, rfl⟩⟩; refine ⟨_, rfl, ?_⟩))
    go_meet
    case rel => exact ⟨_, (true), (by first | rfl | (simp; done) | (simp [*]; done)), H', ⟨by first | omega | exact Nat.le_refl _⟩, ⟨BK0.out⟩, ⟨BK141.out⟩, ⟨BK142.out⟩, ⟨BK143.out⟩, ⟨by repeat with_reducible first | exact HB.out | apply pw_below_drewN | apply below_drew1 | apply below_alloc⟩⟩
   rw [if_neg c44] at H
   have c44b0 := decide_eq_false c44
   clear c44
   (first | rw [c44b0] | (simp only [i64_w, i32_w]; rw [c44b0]) | skip)
   have H' := Aside0.mk H
   clear H
   have hnb49 := NB141_0.out
   have hnc49 := NB0_141.out
   have hnb50 := NB141_142.out
   have hnc50 := NB142_141.out
   have hnb51 := NB141_143.out
   have hnc51 := NB143_141.out
   have hcz52_0 := cz0 BK141.out
   have hfz52_0 := blk_frozen BK141.out 0
   go_wp2_with (first | ((with_reducible refine gate_callee (f := 45) rfl ?_); refine goesL_ (some 46) rfl rfl Tryd.func45 (by kernel_rfl) rfl #[.pointer (some ⟨g0, 0, none⟩), .int .i64 t144] rfl (map2 rfl rfl) ?_; (with_reducible refine (text_Map_End.calls g0 A0_0 c0_0 l0_0 A0_1 c0_1 l0_1 t144 t149 _ ?side1 ?side2 ?side3 ?side4 ?side5 A43.out).mono ?_); (case side1 => exact BK0.out); (case side2 => repeat (first | exact (Kd.C_below HR0_0.out HB.out) | with_reducible first | refine Kd.C_drewN ?_ _ | refine Kd.C_drew ?_ | refine Kd.C_alloc ?_ _)); (case side3 => exact HC0_0.out); (case side4 => repeat (first | exact (Kd.C_below HR0_1.out HB.out) | with_reducible first | refine Kd.C_drewN ?_ _ | refine Kd.C_drew ?_ | refine Kd.C_alloc ?_ _)); (case side5 => exact HC0_1.out); rintro e w' ⟨rfl, ⟨nd, rfl⟩⟩; refine ⟨_, rfl, ?_⟩))
   go_meet
   case rel => exact ⟨_, (false), (by first | rfl | (simp; done) | (simp [*]; done)), H', ⟨by first | omega | exact Nat.le_refl _⟩, ⟨BK0.out⟩, ⟨BK141.out⟩, ⟨BK142.out⟩, ⟨BK143.out⟩, ⟨by repeat with_reducible first | exact HB.out | apply pw_below_drewN | apply below_drew1 | apply below_alloc⟩⟩
  case rest =>
   clear HC35
   try clear c7
   try clear c7b0
   try clear c7b1
   try clear c20
   try clear c20b0
   try clear c20b1
   try clear c34
   try clear c34b0
   try clear c34b1
   try clear hcz42_0
   try clear hfz42_0
   obtain ⟨kq, x15_34, rfl, HA, HJ34, BK0, BK141, BK142, BK143, HB⟩ := hcut
   cases kq with
   | zero => exact absurd HA.out (by simp [object_word.j0])
   | succ kj34 =>
    have H := HA.out
    clear HA
    simp only [object_word.j0] at H
    by_cases c53 : x15_34 = true
    rotate_left
    ·
     replace c53 := Bool.eq_false_iff.mpr c53
     subst c53
     have H1 : (if true = true then (some (0, 0, false, 6)) else (if 0 ≤ t144 then (if t144 < (l0_1.length : Int) then (if t146 > (rd l0_1 t144) then ((object_word_1.f kj34 (wrap64 (t146 - 1)) l0_0 l0_1 a3).bind fun t153 => (if t153 = 0 then ((object_run.f kj34 l0_0 l0_1 t144 (wrap64 (t146 - 1)) l0_0 l0_1 a3).bind fun bt154 => (some (bt154.1, t147, false, 0))) else (some (t146, t147, false, 0)))) else (some (t146, t147, false, 0))) else (none)) else (none))) = some (r1, r2, r3, r4) := by rw [if_neg (show ¬ (false = true) by decide)] at H; exact H
     clear H
     have H := H1
     clear H1
     replace H : (some (0, 0, false, 6)) = some (r1, r2, r3, r4) := by rw [if_pos rfl] at H; exact H
     simp only [Option.some.injEq, Prod.mk.injEq] at H
     obtain ⟨rfl, rfl, rfl, rfl⟩ := H
     have hnb62 := NB143_0.out
     have hnc62 := NB0_143.out
     have hnb63 := NB143_141.out
     have hnc63 := NB141_143.out
     have hnb64 := NB143_142.out
     have hnc64 := NB142_143.out
     have hcz65_0 := cz0 BK143.out
     have hcz65_1 := cz1 BK143.out
     have hcz65_2 := cz2 BK143.out
     have hfz65_0 := blk_frozen BK143.out 0
     have hfz65_1 := blk_frozen BK143.out 1
     have hfz65_2 := blk_frozen BK143.out 2
     go_wp2
     refine bodyPost_ret (results_ct rfl _ _ gb143 35 #[.int .i64 0, .int .i64 0, .bool false] (0, 0) _ rfl (by (with_reducible repeat (first | refine blk_drewN ?_ _ | refine blk_drew ?_ | refine blk_alloc ?_ _)); refine blk_put (cs := #[.int .i64 0, .int .i64 0, .bool false]) ?_ 2 _ rfl; (with_reducible repeat (first | refine blk_drewN ?_ _ | refine blk_drew ?_ | refine blk_alloc ?_ _)); refine blk_put (cs := #[.int .i64 0, .int .i64 0, .bool false]) ?_ 1 _ rfl; (with_reducible repeat (first | refine blk_drewN ?_ _ | refine blk_drew ?_ | refine blk_alloc ?_ _)); refine blk_put (cs := #[.int .i64 0, .int .i64 0, .bool false]) ?_ 0 _ rfl; (with_reducible repeat (first | refine blk_drewN ?_ _ | refine blk_drew ?_ | refine blk_alloc ?_ _)); exact BK143.out) Tryd.underlying35 rfl (by kernel_rfl)) rfl ?_
     exact ⟨by first | rfl | (simp [errW_none, errW_some] <;> rfl) | (simp [*, errW_none, errW_some] <;> rfl), by repeat with_reducible first | exact HB.out | apply pw_below_drewN | refine below_set ?_ GE143.out | apply below_drew1 | apply below_alloc⟩
    subst c53
    have H1 : ((object_run.f kj34 l0_0 l0_1 t144 t147 l0_0 l0_1 a3).bind fun bt150 => (some (t146, bt150.2, false, 0))) = some (r1, r2, r3, r4) := by rw [if_pos rfl] at H; exact H
    clear H
    have H := H1
    clear H1
    replace H := Option.bind_eq_some_iff.mp H
    obtain ⟨⟨t150, t151⟩, A540, H⟩ := H
    (try dsimp only at H)
    have A54 := Aside0.mk A540
    clear A540
    simp only [Option.some.injEq, Prod.mk.injEq] at H
    obtain ⟨rfl, rfl, rfl, rfl⟩ := H
    have hnb55 := NB141_0.out
    have hnc55 := NB0_141.out
    have hnb56 := NB141_142.out
    have hnc56 := NB142_141.out
    have hnb57 := NB141_143.out
    have hnc57 := NB143_141.out
    have hcz58_0 := cz0 BK141.out
    have hfz58_0 := blk_frozen BK141.out 0
    go_wp2_with (first | ((with_reducible refine gate_callee (f := 48) rfl ?_); refine goesL_ (some 64) rfl rfl Tryd.func48 (by kernel_rfl) rfl #[.pointer (some ⟨g0, 0, none⟩), .int .i64 t144, .int .i64 t147, .func (.func 46) #[] #[.pointer (some ⟨gb141, 0, none⟩), .pointer (some ⟨gb142, 0, none⟩)]] rfl (map4 rfl rfl rfl rfl) ?_; (with_reducible refine (object_run.calls kj34 g0 A0_0 c0_0 l0_0 A0_1 c0_1 l0_1 t144 t147 g0 gb141 gb142 A0_0 c0_0 l0_0 A0_1 c0_1 l0_1 a3 t150 t151 _ ?side1 ?side2 ?side3 ?side4 ?side5 ?side6 ?side7 ?side8 ?side9 ?side10 ?side11 ?side12 A54.out).mono ?_); (case side1 => exact BK0.out); (case side2 => repeat (first | exact (Kd.C_below HR0_0.out HB.out) | with_reducible first | refine Kd.C_drewN ?_ _ | refine Kd.C_drew ?_ | refine Kd.C_alloc ?_ _)); (case side3 => exact HC0_0.out); (case side4 => repeat (first | exact (Kd.C_below HR0_1.out HB.out) | with_reducible first | refine Kd.C_drewN ?_ _ | refine Kd.C_drew ?_ | refine Kd.C_alloc ?_ _)); (case side5 => exact HC0_1.out); (case side6 => exact BK0.out); (case side7 => exact BK141.out); (case side8 => exact BK142.out); (case side9 => repeat (first | exact (Kd.C_below HR0_0.out HB.out) | with_reducible first | refine Kd.C_drewN ?_ _ | refine Kd.C_drew ?_ | refine Kd.C_alloc ?_ _)); (case side10 => exact HC0_0.out); (case side11 => repeat (first | exact (Kd.C_below HR0_1.out HB.out) | with_reducible first | refine Kd.C_drewN ?_ _ | refine Kd.C_drew ?_ | refine Kd.C_alloc ?_ _)); (case side12 => exact HC0_1.out); rintro e w' ⟨rfl, ⟨nd, rfl⟩⟩; refine ⟨_, rfl, ?_⟩; (try (rw [drewN_self wc]; generalize hq_ : World.drewN wc _ = wc; have n0_ : Aside0 (wc.heap[g0]? = some (.cells #[.slice A0_0 l0_0.length c0_0, .slice A0_1 l0_1.length c0_1] 66 (0, 0))) := ⟨by rw [← hq_]; exact (by exact BK0.out)⟩; have n1_ : Aside0 (wc.heap[gb141]? = some (.cells #[.pointer (some ⟨g0, 0, none⟩)] 49 (0, 0))) := ⟨by rw [← hq_]; exact (by exact BK141.out)⟩; have n2_ : Aside0 (wc.heap[gb142]? = some (.cells #[.bool a3] 4 (0, 0))) := ⟨by rw [← hq_]; exact (by exact BK142.out)⟩; have n3_ : Aside0 (wc.heap[gb143]? = some (.cells #[.int .i64 0, .int .i64 0, .bool false] 35 (0, 0))) := ⟨by rw [← hq_]; exact (by exact BK143.out)⟩; have n4_ : Aside0 (Below w.heap.size w wc) := ⟨by rw [← hq_]; exact (by repeat with_reducible first | exact HB.out | apply pw_below_drewN | apply below_drew1 | apply below_alloc)⟩; clear BK0 BK141 BK142 BK143 HB hq_; have BK0 := n0_; have BK141 := n1_; have BK142 := n2_; have BK143 := n3_; have HB := n4_; clear n0_ n1_ n2_ n3_ n4_)); have hnb59 := NB143_0.out; have hnc59 := NB0_143.out; have hnb60 := NB143_142.out; have hnc60 := NB142_143.out; have hcz61_0 := cz0 BK143.out; have hcz61_1 := cz1 BK143.out; have hcz61_2 := cz2 BK143.out; have hfz61_0 := blk_frozen BK143.out 0; have hfz61_1 := blk_frozen BK143.out 1; have hfz61_2 := blk_frozen BK143.out 2))
    refine bodyPost_ret (results_ct rfl _ _ gb143 35 #[.int .i64 t146, .int .i64 t151, .bool false] (0, 0) _ rfl (by (with_reducible repeat (first | refine blk_drewN ?_ _ | refine blk_drew ?_ | refine blk_alloc ?_ _)); refine blk_put (cs := #[.int .i64 t146, .int .i64 t151, .bool false]) ?_ 2 _ rfl; (with_reducible repeat (first | refine blk_drewN ?_ _ | refine blk_drew ?_ | refine blk_alloc ?_ _)); refine blk_put (cs := #[.int .i64 t146, .int .i64 0, .bool false]) ?_ 1 _ rfl; (with_reducible repeat (first | refine blk_drewN ?_ _ | refine blk_drew ?_ | refine blk_alloc ?_ _)); refine blk_put (cs := #[.int .i64 0, .int .i64 0, .bool false]) ?_ 0 _ rfl; (with_reducible repeat (first | refine blk_drewN ?_ _ | refine blk_drew ?_ | refine blk_alloc ?_ _)); exact BK143.out) Tryd.underlying35 rfl (by kernel_rfl)) rfl ?_
    exact ⟨by first | rfl | (simp [errW_none, errW_some] <;> rfl) | (simp [*, errW_none, errW_some] <;> rfl), by repeat with_reducible first | exact HB.out | apply pw_below_drewN | refine below_set ?_ GE143.out | apply below_drew1 | apply below_alloc⟩
 rw [if_neg c34] at H
 have c34b0 : (t148 == 0) = false := beq_eq_false_iff_ne.mpr c34
 have c34b1 : (t148 != 0) = true := bne_iff_ne.mpr c34
 have HC66 := Aside0.mk H
 clear H
 go_enter Tryd.func29, Tryd.ntmps29
 go_upto_region 9 with (first | ((with_reducible refine gate_dst (N := 4) rfl ?_); refine box_event ?hg (N := 4) ?hd (cs := #[.pointer (some ⟨g0, 0, none⟩)]) (t := 49) ?hr ?_; (case hd => rfl); (case hg => rfl); (case hr => first | (go_simp; done) | (go_simp; rfl)); intro gb141 hg w67 hbox hb; have n0_ := Aside0.mk (blb hb BK0.out); have n1_ := Aside0.mk (below_step (by repeat with_reducible first | exact HB.out | apply pw_below_drewN | apply below_drew1 | apply below_alloc) hb); have n2_ := Aside0.mk (hbox); have n3_ := Aside0.mk (geb hg (by repeat with_reducible first | exact HB.out | apply pw_below_drewN | apply below_drew1 | apply below_alloc)); have n4_ := n3_; have n5_ := Aside0.mk ((nbl hg BK0.out)); have n6_ := Aside0.mk ((nbr hg BK0.out)); clear BK0; clear HB; have BK0 := n0_; have HB := n1_; have BK141 := n2_; have GW141 := n3_; have GE141 := n4_; have NB0_141 := n5_; have NB141_0 := n6_; clear n0_ n1_ n2_ n3_ n4_ n5_ n6_; clear hb hbox hg) | ((with_reducible refine gate_dst (N := 7) rfl ?_); refine box_event ?hg (N := 7) ?hd (cs := #[.bool a3]) (t := 4) ?hr ?_; (case hd => rfl); (case hg => rfl); (case hr => first | (go_simp; done) | (go_simp; rfl)); intro gb142 hg w68 hbox hb; have n0_ := Aside0.mk (blb hb BK0.out); have n1_ := Aside0.mk (blb hb BK141.out); have n2_ := Aside0.mk (below_step (by repeat with_reducible first | exact HB.out | apply pw_below_drewN | apply below_drew1 | apply below_alloc) hb); have n3_ := Aside0.mk (hbox); have n4_ := Aside0.mk (geb hg (by repeat with_reducible first | exact HB.out | apply pw_below_drewN | apply below_drew1 | apply below_alloc)); have n5_ := n4_; have n6_ := Aside0.mk ((nbl hg BK0.out)); have n7_ := Aside0.mk ((nbr hg BK0.out)); have n8_ := Aside0.mk ((nbl hg BK141.out)); have n9_ := Aside0.mk ((nbr hg BK141.out)); clear BK0; clear BK141; clear HB; have BK0 := n0_; have BK141 := n1_; have HB := n2_; have BK142 := n3_; have GW142 := n4_; have GE142 := n5_; have NB0_142 := n6_; have NB142_0 := n7_; have NB141_142 := n8_; have NB142_141 := n9_; clear n0_ n1_ n2_ n3_ n4_ n5_ n6_ n7_ n8_ n9_; clear hb hbox hg) | ((with_reducible refine gate_dst (N := 8) rfl ?_); refine box_event ?hg (N := 8) ?hd (cs := #[.int .i64 0, .int .i64 0, .bool false]) (t := 35) ?hr ?_; (case hd => rfl); (case hg => rfl); (case hr => first | (go_simp; done) | (go_simp; rfl)); intro gb143 hg w69 hbox hb; have n0_ := Aside0.mk (blb hb BK0.out); have n1_ := Aside0.mk (blb hb BK141.out); have n2_ := Aside0.mk (blb hb BK142.out); have n3_ := Aside0.mk (below_step (by repeat with_reducible first | exact HB.out | apply pw_below_drewN | apply below_drew1 | apply below_alloc) hb); have n4_ := Aside0.mk (hbox); have n5_ := Aside0.mk (geb hg (by repeat with_reducible first | exact HB.out | apply pw_below_drewN | apply below_drew1 | apply below_alloc)); have n6_ := n5_; have n7_ := Aside0.mk ((nbl hg BK0.out)); have n8_ := Aside0.mk ((nbr hg BK0.out)); have n9_ := Aside0.mk ((nbl hg BK141.out)); have n10_ := Aside0.mk ((nbr hg BK141.out)); have n11_ := Aside0.mk ((nbl hg BK142.out)); have n12_ := Aside0.mk ((nbr hg BK142.out)); clear BK0; clear BK141; clear BK142; clear HB; have BK0 := n0_; have BK141 := n1_; have BK142 := n2_; have HB := n3_; have BK143 := n4_; have GW143 := n5_; have GE143 := n6_; have NB0_143 := n7_; have NB143_0 := n8_; have NB141_143 := n9_; have NB143_141 := n10_; have NB142_143 := n11_; have NB143_142 := n12_; clear n0_ n1_ n2_ n3_ n4_ n5_ n6_ n7_ n8_ n9_ n10_ n11_ n12_; clear hb hbox hg; have hnb70 := NB141_0.out; have hnc70 := NB0_141.out; have hnb71 := NB141_142.out; have hnc71 := NB142_141.out; have hnb72 := NB141_143.out; have hnc72 := NB143_141.out; have hcz73_0 := cz0 BK141.out; have hfz73_0 := blk_frozen BK141.out 0) | ((with_reducible refine gate_callee (f := 44) rfl ?_); refine goesL_ (some 18) rfl rfl Tryd.func44 (by kernel_rfl) rfl #[.pointer (some ⟨g0, 0, none⟩), .int .i64 a1] rfl (map2 rfl rfl) ?_; (with_reducible refine (text_Map_Row.calls k g0 A0_0 c0_0 l0_0 A0_1 c0_1 l0_1 a1 t144 _ ?side1 ?side2 ?side3 ?side4 ?side5 A5.out).mono ?_); (case side1 => exact BK0.out); (case side2 => repeat (first | exact (Kd.C_below HR0_0.out HB.out) | with_reducible first | refine Kd.C_drewN ?_ _ | refine Kd.C_drew ?_ | refine Kd.C_alloc ?_ _)); (case side3 => exact HC0_0.out); (case side4 => repeat (first | exact (Kd.C_below HR0_1.out HB.out) | with_reducible first | refine Kd.C_drewN ?_ _ | refine Kd.C_drew ?_ | refine Kd.C_alloc ?_ _)); (case side5 => exact HC0_1.out); rintro e w' ⟨rfl, ⟨nd, rfl⟩⟩; refine ⟨_, rfl, ?_⟩) | ((with_reducible refine gate_callee (f := 45) rfl ?_); refine goesL_ (some 22) rfl rfl Tryd.func45 (by kernel_rfl) rfl #[.pointer (some ⟨g0, 0, none⟩), .int .i64 t144] rfl (map2 rfl rfl) ?_; (with_reducible refine (text_Map_End.calls g0 A0_0 c0_0 l0_0 A0_1 c0_1 l0_1 t144 t145 _ ?side1 ?side2 ?side3 ?side4 ?side5 A6.out).mono ?_); (case side1 => exact BK0.out); (case side2 => repeat (first | exact (Kd.C_below HR0_0.out (by repeat with_reducible first | exact HB.out | apply pw_below_drewN | apply below_drew1 | apply below_alloc)) | with_reducible first | refine Kd.C_drewN ?_ _ | refine Kd.C_drew ?_ | refine Kd.C_alloc ?_ _)); (case side3 => exact HC0_0.out); (case side4 => repeat (first | exact (Kd.C_below HR0_1.out (by repeat with_reducible first | exact HB.out | apply pw_below_drewN | apply below_drew1 | apply below_alloc)) | with_reducible first | refine Kd.C_drewN ?_ _ | refine Kd.C_drew ?_ | refine Kd.C_alloc ?_ _)); (case side5 => exact HC0_1.out); rintro e w' ⟨rfl, ⟨nd, rfl⟩⟩; refine ⟨_, rfl, ?_⟩) | ((with_reducible refine gate_callee (f := 48) rfl ?_); refine goesL_ (some 31) rfl rfl Tryd.func48 (by kernel_rfl) rfl #[.pointer (some ⟨g0, 0, none⟩), .int .i64 t144, .int .i64 a1, .func (.func 46) #[] #[.pointer (some ⟨gb141, 0, none⟩), .pointer (some ⟨gb142, 0, none⟩)]] rfl (map4 rfl rfl rfl rfl) ?_; (with_reducible refine (object_run.calls k g0 A0_0 c0_0 l0_0 A0_1 c0_1 l0_1 t144 a1 g0 gb141 gb142 A0_0 c0_0 l0_0 A0_1 c0_1 l0_1 a3 t146 t147 _ ?side1 ?side2 ?side3 ?side4 ?side5 ?side6 ?side7 ?side8 ?side9 ?side10 ?side11 ?side12 A19.out).mono ?_); (case side1 => exact BK0.out); (case side2 => repeat (first | exact (Kd.C_below HR0_0.out (by repeat with_reducible first | exact HB.out | apply pw_below_drewN | apply below_drew1 | apply below_alloc)) | with_reducible first | refine Kd.C_drewN ?_ _ | refine Kd.C_drew ?_ | refine Kd.C_alloc ?_ _)); (case side3 => exact HC0_0.out); (case side4 => repeat (first | exact (Kd.C_below HR0_1.out (by repeat with_reducible first | exact HB.out | apply pw_below_drewN | apply below_drew1 | apply below_alloc)) | with_reducible first | refine Kd.C_drewN ?_ _ | refine Kd.C_drew ?_ | refine Kd.C_alloc ?_ _)); (case side5 => exact HC0_1.out); (case side6 => exact BK0.out); (case side7 => exact BK141.out); (case side8 => exact BK142.out); (case side9 => repeat (first | exact (Kd.C_below HR0_0.out (by repeat with_reducible first | exact HB.out | apply pw_below_drewN | apply below_drew1 | apply below_alloc)) | with_reducible first | refine Kd.C_drewN ?_ _ | refine Kd.C_drew ?_ | refine Kd.C_alloc ?_ _)); (case side10 => exact HC0_0.out); (case side11 => repeat (first | exact (Kd.C_below HR0_1.out (by repeat with_reducible first | exact HB.out | apply pw_below_drewN | apply below_drew1 | apply below_alloc)) | with_reducible first | refine Kd.C_drewN ?_ _ | refine Kd.C_drew ?_ | refine Kd.C_alloc ?_ _)); (case side12 => exact HC0_1.out); rintro e w' ⟨rfl, ⟨nd, rfl⟩⟩; refine ⟨_, rfl, ?_⟩) | (go_at_call 46; (with_reducible refine (object_word_1.calls k a1 g0 gb141 A0_0 c0_0 l0_0 A0_1 c0_1 l0_1 gb142 a3 t148 _ ?side1 ?side2 ?side3 ?side4 ?side5 ?side6 ?side7 A33.out).mono ?_); (case side1 => exact BK0.out); (case side2 => exact BK141.out); (case side3 => repeat (first | exact (Kd.C_below HR0_0.out (by repeat with_reducible first | exact HB.out | apply pw_below_drewN | apply below_drew1 | apply below_alloc)) | with_reducible first | refine Kd.C_drewN ?_ _ | refine Kd.C_drew ?_ | refine Kd.C_alloc ?_ _)); (case side4 => exact HC0_0.out); (case side5 => repeat (first | exact (Kd.C_below HR0_1.out (by repeat with_reducible first | exact HB.out | apply pw_below_drewN | apply below_drew1 | apply below_alloc)) | with_reducible first | refine Kd.C_drewN ?_ _ | refine Kd.C_drew ?_ | refine Kd.C_alloc ?_ _)); (case side6 => exact HC0_1.out); (case side7 => exact BK142.out); rintro e w' ⟨rfl, ⟨nd, rfl⟩⟩))
 (try simp only [Act.put, List.setIfInBounds_toArray, List.set_cons_zero, List.set_cons_succ])
 go_cut [15] (fun v15 wc => ∃ (kq : Nat) (x15_65 : Bool), v15 = .bool x15_65 ∧ Aside0 (object_word.j1 kq t144 t146 t147 false x15_65 l0_0 l0_1 a3 = some (r1, r2, r3, r4)) ∧ Aside0 (kq ≤ k) ∧ Aside0 (wc.heap[g0]? = some (.cells #[(.slice A0_0 l0_0.length c0_0), (.slice A0_1 l0_1.length c0_1)] 66 (0, 0))) ∧ Aside0 (wc.heap[gb141]? = some (.cells #[.pointer (some ⟨g0, 0, none⟩)] 49 (0, 0))) ∧ Aside0 (wc.heap[gb142]? = some (.cells #[.bool a3] 4 (0, 0))) ∧ Aside0 (wc.heap[gb143]? = some (.cells #[.int .i64 0, .int .i64 0, .bool false] 35 (0, 0))) ∧ Aside0 (Below w.heap.size w wc))
 case first =>
  have H := HC66.out
  clear HC66
  replace H := Option.bind_eq_some_iff.mp H
  obtain ⟨t156, A740, H⟩ := H
  (try dsimp only at H)
  have A74 := Aside0.mk A740
  clear A740
  by_cases c75 : t147 < t156
  rotate_left
  ·
   rw [if_neg c75] at H
   have c75b0 := decide_eq_false c75
   clear c75
   (first | rw [c75b0] | (simp only [i64_w, i32_w]; rw [c75b0]) | skip)
   have H' := Aside0.mk H
   clear H
   have hnb81 := NB141_0.out
   have hnc81 := NB0_141.out
   have hnb82 := NB141_142.out
   have hnc82 := NB142_141.out
   have hnb83 := NB141_143.out
   have hnc83 := NB143_141.out
   have hcz84_0 := cz0 BK141.out
   have hfz84_0 := blk_frozen BK141.out 0
   go_wp2_with (first | ((with_reducible refine gate_callee (f := 45) rfl ?_); refine goesL_ (some 46) rfl rfl Tryd.func45 (by kernel_rfl) rfl #[.pointer (some ⟨g0, 0, none⟩), .int .i64 t144] rfl (map2 rfl rfl) ?_; (with_reducible refine (text_Map_End.calls g0 A0_0 c0_0 l0_0 A0_1 c0_1 l0_1 t144 t156 _ ?side1 ?side2 ?side3 ?side4 ?side5 A74.out).mono ?_); (case side1 => exact BK0.out); (case side2 => repeat (first | exact (Kd.C_below HR0_0.out HB.out) | with_reducible first | refine Kd.C_drewN ?_ _ | refine Kd.C_drew ?_ | refine Kd.C_alloc ?_ _)); (case side3 => exact HC0_0.out); (case side4 => repeat (first | exact (Kd.C_below HR0_1.out HB.out) | with_reducible first | refine Kd.C_drewN ?_ _ | refine Kd.C_drew ?_ | refine Kd.C_alloc ?_ _)); (case side5 => exact HC0_1.out); rintro e w' ⟨rfl, ⟨nd, rfl⟩⟩; refine ⟨_, rfl, ?_⟩))
   go_meet
   case rel => exact ⟨_, (false), (by first | rfl | (simp; done) | (simp [*]; done)), H', ⟨by first | omega | exact Nat.le_refl _⟩, ⟨BK0.out⟩, ⟨BK141.out⟩, ⟨BK142.out⟩, ⟨BK143.out⟩, ⟨by repeat with_reducible first | exact HB.out | apply pw_below_drewN | apply below_drew1 | apply below_alloc⟩⟩
  rw [if_pos c75] at H
  have c75b0 := decide_eq_true c75
  clear c75
  (first | rw [c75b0] | (simp only [i64_w, i32_w]; rw [c75b0]) | skip)
  replace H := Option.bind_eq_some_iff.mp H
  obtain ⟨t157, A760, H⟩ := H
  (try dsimp only at H)
  have A76 := Aside0.mk A760
  clear A760
  have H' := Aside0.mk H
  clear H
  have hnb77 := NB141_0.out
  have hnc77 := NB0_141.out
  have hnb78 := NB141_142.out
  have hnc78 := NB142_141.out
  have hnb79 := NB141_143.out
  have hnc79 := NB143_141.out
  have hcz80_0 := cz0 BK141.out
  have hfz80_0 := blk_frozen BK141.out 0
  go_wp2_with (first | ((with_reducible refine gate_callee (f := 45) rfl ?_); refine goesL_ (some 46) rfl rfl Tryd.func45 (by kernel_rfl) rfl #[.pointer (some ⟨g0, 0, none⟩), .int .i64 t144] rfl (map2 rfl rfl) ?_; (with_reducible refine (text_Map_End.calls g0 A0_0 c0_0 l0_0 A0_1 c0_1 l0_1 t144 t156 _ ?side1 ?side2 ?side3 ?side4 ?side5 A74.out).mono ?_); (case side1 => exact BK0.out); (case side2 => repeat (first | exact (Kd.C_below HR0_0.out HB.out) | with_reducible first | refine Kd.C_drewN ?_ _ | refine Kd.C_drew ?_ | refine Kd.C_alloc ?_ _)); (case side3 => exact HC0_0.out); (case side4 => repeat (first | exact (Kd.C_below HR0_1.out HB.out) | with_reducible first | refine Kd.C_drewN ?_ _ | refine Kd.C_drew ?_ | refine Kd.C_alloc ?_ _)); (case side5 => exact HC0_1.out); rintro e w' ⟨rfl, ⟨nd, rfl⟩⟩; refine ⟨_, rfl, ?_⟩) | (go_at_call 46; (with_reducible refine (object_word_1.calls k t147 g0 gb141 A0_0 c0_0 l0_0 A0_1 c0_1 l0_1 gb142 a3 t157 _ ?side1 ?side2 ?side3 ?side4 ?side5 ?side6 ?side7 A76.out).mono ?_); (case side1 => exact BK0.out); (case side2 => exact BK141.out); (case side3 => repeat (first | exact (Kd.C_below HR0_0.out (by repeat with_reducible first | exact HB.out | apply pw_below_drewN | apply below_drew1 | apply below_alloc)) | with_reducible first | refine Kd.C_drewN ?_ _ | refine Kd.C_drew ?_ | refine Kd.C_alloc ?_ _)); (case side4 => exact HC0_0.out); (case side5 => repeat (first | exact (Kd.C_below HR0_1.out (by repeat with_reducible first | exact HB.out | apply pw_below_drewN | apply below_drew1 | apply below_alloc)) | with_reducible first | refine Kd.C_drewN ?_ _ | refine Kd.C_drew ?_ | refine Kd.C_alloc ?_ _)); (case side6 => exact HC0_1.out); (case side7 => exact BK142.out); rintro e w' ⟨rfl, ⟨nd, rfl⟩⟩))
  go_meet
  case rel => exact ⟨_, ((t157 == 0)), (by first | rfl | (simp; done) | (simp [*]; done)), H', ⟨by first | omega | exact Nat.le_refl _⟩, ⟨BK0.out⟩, ⟨BK141.out⟩, ⟨BK142.out⟩, ⟨BK143.out⟩, ⟨by repeat with_reducible first | exact HB.out | apply pw_below_drewN | apply below_drew1 | apply below_alloc⟩⟩
 case rest =>
  clear HC66
  try clear c7
  try clear c7b0
  try clear c7b1
  try clear c20
  try clear c20b0
  try clear c20b1
  try clear c34
  try clear c34b0
  try clear c34b1
  try clear hcz73_0
  try clear hfz73_0
  obtain ⟨kq, x15_65, rfl, HA, HJ65, BK0, BK141, BK142, BK143, HB⟩ := hcut
  cases kq with
  | zero => exact absurd HA.out (by simp [object_word.j1])
  | succ kj65 =>
   have H := HA.out
   clear HA
   simp only [object_word.j1] at H
   by_cases c85 : x15_65 = true
   ·
    subst c85
    have H1 : ((object_run.f kj65 l0_0 l0_1 t144 t147 l0_0 l0_1 a3).bind fun bt158 => (some (t146, bt158.2, false, 0))) = some (r1, r2, r3, r4) := by rw [if_pos rfl] at H; exact H
    clear H
    have H := H1
    clear H1
    replace H := Option.bind_eq_some_iff.mp H
    obtain ⟨⟨t158, t159⟩, A860, H⟩ := H
    (try dsimp only at H)
    have A86 := Aside0.mk A860
    clear A860
    simp only [Option.some.injEq, Prod.mk.injEq] at H
    obtain ⟨rfl, rfl, rfl, rfl⟩ := H
    have hnb87 := NB141_0.out
    have hnc87 := NB0_141.out
    have hnb88 := NB141_142.out
    have hnc88 := NB142_141.out
    have hnb89 := NB141_143.out
    have hnc89 := NB143_141.out
    have hcz90_0 := cz0 BK141.out
    have hfz90_0 := blk_frozen BK141.out 0
    go_wp2_with (first | ((with_reducible refine gate_callee (f := 48) rfl ?_); refine goesL_ (some 64) rfl rfl Tryd.func48 (by kernel_rfl) rfl #[.pointer (some ⟨g0, 0, none⟩), .int .i64 t144, .int .i64 t147, .func (.func 46) #[] #[.pointer (some ⟨gb141, 0, none⟩), .pointer (some ⟨gb142, 0, none⟩)]] rfl (map4 rfl rfl rfl rfl) ?_; (with_reducible refine (object_run.calls kj65 g0 A0_0 c0_0 l0_0 A0_1 c0_1 l0_1 t144 t147 g0 gb141 gb142 A0_0 c0_0 l0_0 A0_1 c0_1 l0_1 a3 t158 t159 _ ?side1 ?side2 ?side3 ?side4 ?side5 ?side6 ?side7 ?side8 ?side9 ?side10 ?side11 ?side12 A86.out).mono ?_); (case side1 => exact BK0.out); (case side2 => repeat (first | exact (Kd.C_below HR0_0.out HB.out) | with_reducible first | refine Kd.C_drewN ?_ _ | refine Kd.C_drew ?_ | refine Kd.C_alloc ?_ _)); (case side3 => exact HC0_0.out); (case side4 => repeat (first | exact (Kd.C_below HR0_1.out HB.out) | with_reducible first | refine Kd.C_drewN ?_ _ | refine Kd.C_drew ?_ | refine Kd.C_alloc ?_ _)); (case side5 => exact HC0_1.out); (case side6 => exact BK0.out); (case side7 => exact BK141.out); (case side8 => exact BK142.out); (case side9 => repeat (first | exact (Kd.C_below HR0_0.out HB.out) | with_reducible first | refine Kd.C_drewN ?_ _ | refine Kd.C_drew ?_ | refine Kd.C_alloc ?_ _)); (case side10 => exact HC0_0.out); (case side11 => repeat (first | exact (Kd.C_below HR0_1.out HB.out) | with_reducible first | refine Kd.C_drewN ?_ _ | refine Kd.C_drew ?_ | refine Kd.C_alloc ?_ _)); (case side12 => exact HC0_1.out); rintro e w' ⟨rfl, ⟨nd, rfl⟩⟩; refine ⟨_, rfl, ?_⟩; (try (rw [drewN_self wc]; generalize hq_ : World.drewN wc _ = wc; have n0_ : Aside0 (wc.heap[g0]? = some (.cells #[.slice A0_0 l0_0.length c0_0, .slice A0_1 l0_1.length c0_1] 66 (0, 0))) := ⟨by rw [← hq_]; exact (by exact BK0.out)⟩; have n1_ : Aside0 (wc.heap[gb141]? = some (.cells #[.pointer (some ⟨g0, 0, none⟩)] 49 (0, 0))) := ⟨by rw [← hq_]; exact (by exact BK141.out)⟩; have n2_ : Aside0 (wc.heap[gb142]? = some (.cells #[.bool a3] 4 (0, 0))) := ⟨by rw [← hq_]; exact (by exact BK142.out)⟩; have n3_ : Aside0 (wc.heap[gb143]? = some (.cells #[.int .i64 0, .int .i64 0, .bool false] 35 (0, 0))) := ⟨by rw [← hq_]; exact (by exact BK143.out)⟩; have n4_ : Aside0 (Below w.heap.size w wc) := ⟨by rw [← hq_]; exact (by repeat with_reducible first | exact HB.out | apply pw_below_drewN | apply below_drew1 | apply below_alloc)⟩; clear BK0 BK141 BK142 BK143 HB hq_; have BK0 := n0_; have BK141 := n1_; have BK142 := n2_; have BK143 := n3_; have HB := n4_; clear n0_ n1_ n2_ n3_ n4_)); have hnb91 := NB143_0.out; have hnc91 := NB0_143.out; have hnb92 := NB143_142.out; have hnc92 := NB142_143.out; have hcz93_0 := cz0 BK143.out; have hcz93_1 := cz1 BK143.out; have hcz93_2 := cz2 BK143.out; have hfz93_0 := blk_frozen BK143.out 0; have hfz93_1 := blk_frozen BK143.out 1; have hfz93_2 := blk_frozen BK143.out 2))
    refine bodyPost_ret (results_ct rfl _ _ gb143 35 #[.int .i64 t146, .int .i64 t159, .bool false] (0, 0) _ rfl (by (with_reducible repeat (first | refine blk_drewN ?_ _ | refine blk_drew ?_ | refine blk_alloc ?_ _)); refine blk_put (cs := #[.int .i64 t146, .int .i64 t159, .bool false]) ?_ 2 _ rfl; (with_reducible repeat (first | refine blk_drewN ?_ _ | refine blk_drew ?_ | refine blk_alloc ?_ _)); refine blk_put (cs := #[.int .i64 t146, .int .i64 0, .bool false]) ?_ 1 _ rfl; (with_reducible repeat (first | refine blk_drewN ?_ _ | refine blk_drew ?_ | refine blk_alloc ?_ _)); refine blk_put (cs := #[.int .i64 0, .int .i64 0, .bool false]) ?_ 0 _ rfl; (with_reducible repeat (first | refine blk_drewN ?_ _ | refine blk_drew ?_ | refine blk_alloc ?_ _)); exact BK143.out) Tryd.underlying35 rfl (by kernel_rfl)) rfl ?_
    exact ⟨by first | rfl | (simp [errW_none, errW_some] <;> rfl) | (simp [*, errW_none, errW_some] <;> rfl), by repeat with_reducible first | exact HB.out | apply pw_below_drewN | refine below_set ?_ GE143.out | apply below_drew1 | apply below_alloc⟩
   replace c85 := Bool.eq_false_iff.mpr c85
   subst c85
   have H1 : (if false = true then (some (0, 0, false, 6)) else (if 0 ≤ t144 then (if t144 < (l0_1.length : Int) then (if t146 > (rd l0_1 t144) then ((object_word_1.f kj65 (wrap64 (t146 - 1)) l0_0 l0_1 a3).bind fun t161 => (if t161 = 0 then ((object_run.f kj65 l0_0 l0_1 t144 (wrap64 (t146 - 1)) l0_0 l0_1 a3).bind fun bt162 => (some (bt162.1, t147, false, 0))) else (some (t146, t147, false, 0)))) else (some (t146, t147, false, 0))) else (none)) else (none))) = some (r1, r2, r3, r4) := by rw [if_neg (show ¬ (false = true) by decide)] at H; exact H
   clear H
   have H := H1
   clear H1
   replace H : (if 0 ≤ t144 then (if t144 < (l0_1.length : Int) then (if t146 > (rd l0_1 t144) then ((object_word_1.f kj65 (wrap64 (t146 - 1)) l0_0 l0_1 a3).bind fun t161 => (if t161 = 0 then ((object_run.f kj65 l0_0 l0_1 t144 (wrap64 (t146 - 1)) l0_0 l0_1 a3).bind fun bt162 => (some (bt162.1, t147, false, 0))) else (some (t146, t147, false, 0)))) else (some (t146, t147, false, 0))) else (none)) else (none)) = some (r1, r2, r3, r4) := by rw [if_neg (by decide)] at H; exact H
   by_cases c94 : 0 ≤ t144
   rotate_left
   ·
    rw [if_neg c94] at H
    exact absurd H (by simp)
   rw [if_pos c94] at H
   have c94b0 := decide_eq_true c94
   clear c94
   by_cases c95 : t144 < (l0_1.length : Int)
   rotate_left
   ·
    rw [if_neg c95] at H
    exact absurd H (by simp)
   rw [if_pos c95] at H
   have c95b0 := decide_eq_true c95
   clear c95
   by_cases c96 : t146 > (rd l0_1 t144)
   rotate_left
   ·
    rw [if_neg c96] at H
    have c96b0 := decide_eq_false c96
    clear c96
    simp only [Option.some.injEq, Prod.mk.injEq] at H
    obtain ⟨rfl, rfl, rfl, rfl⟩ := H
    have hnb119 := NB141_0.out
    have hnc119 := NB0_141.out
    have hnb120 := NB141_142.out
    have hnc120 := NB142_141.out
    have hnb121 := NB141_143.out
    have hnc121 := NB143_141.out
    have hcz122_0 := cz0 BK141.out
    have hfz122_0 := blk_frozen BK141.out 0
    have hnb123 := NB0_142.out
    have hnc123 := NB142_0.out
    have hnb124 := NB0_143.out
    have hnc124 := NB143_0.out
    have hcz125_0 := cz0 BK0.out
    have hcz125_1 := cz1 BK0.out
    have hfz125_0 := blk_frozen BK0.out 0
    have hfz125_1 := blk_frozen BK0.out 1
    have p160 : 0 ≤ (t144 : Int) := of_decide_eq_true (by assumption)
    have q160 : t144 < (l0_1.length : Int) := of_decide_eq_true (by assumption)
    obtain ⟨ad160, e160, hx160_0⟩ := Kd.at_int HR0_1.out t144 p160 q160
    cases e160
    replace hx160_0 := (HB.out.cell (World.block_lt_of_cell? w _ hx160_0)).trans hx160_0
    replace p160 := eq_true p160
    replace q160 := eq_true q160
    have hnb126 := NB143_142.out
    have hnc126 := NB142_143.out
    have hcz127_0 := cz0 BK143.out
    have hcz127_1 := cz1 BK143.out
    have hcz127_2 := cz2 BK143.out
    have hfz127_0 := blk_frozen BK143.out 0
    have hfz127_1 := blk_frozen BK143.out 1
    have hfz127_2 := blk_frozen BK143.out 2
    go_wp2
    refine bodyPost_ret (results_ct rfl _ _ gb143 35 #[.int .i64 t146, .int .i64 t147, .bool false] (0, 0) _ rfl (by (with_reducible repeat (first | refine blk_drewN ?_ _ | refine blk_drew ?_ | refine blk_alloc ?_ _)); refine blk_put (cs := #[.int .i64 t146, .int .i64 t147, .bool false]) ?_ 2 _ rfl; (with_reducible repeat (first | refine blk_drewN ?_ _ | refine blk_drew ?_ | refine blk_alloc ?_ _)); refine blk_put (cs := #[.int .i64 t146, .int .i64 0, .bool false]) ?_ 1 _ rfl; (with_reducible repeat (first | refine blk_drewN ?_ _ | refine blk_drew ?_ | refine blk_alloc ?_ _)); refine blk_put (cs := #[.int .i64 0, .int .i64 0, .bool false]) ?_ 0 _ rfl; (with_reducible repeat (first | refine blk_drewN ?_ _ | refine blk_drew ?_ | refine blk_alloc ?_ _)); exact BK143.out) Tryd.underlying35 rfl (by kernel_rfl)) rfl ?_
    exact ⟨by first | rfl | (simp [errW_none, errW_some] <;> rfl) | (simp [*, errW_none, errW_some] <;> rfl), by repeat with_reducible first | exact HB.out | apply pw_below_drewN | refine below_set ?_ GE143.out | apply below_drew1 | apply below_alloc⟩
   rw [if_pos c96] at H
   have c96b0 := decide_eq_true c96
   clear c96
   replace H := Option.bind_eq_some_iff.mp H
   obtain ⟨t161, A970, H⟩ := H
   (try dsimp only at H)
   have A97 := Aside0.mk A970
   clear A970
   by_cases c98 : t161 = 0
   rotate_left
   ·
    rw [if_neg c98] at H
    have c98b0 : (t161 == 0) = false := beq_eq_false_iff_ne.mpr c98
    have c98b1 : (t161 != 0) = true := bne_iff_ne.mpr c98
    simp only [Option.some.injEq, Prod.mk.injEq] at H
    obtain ⟨rfl, rfl, rfl, rfl⟩ := H
    have hnb110 := NB141_0.out
    have hnc110 := NB0_141.out
    have hnb111 := NB141_142.out
    have hnc111 := NB142_141.out
    have hnb112 := NB141_143.out
    have hnc112 := NB143_141.out
    have hcz113_0 := cz0 BK141.out
    have hfz113_0 := blk_frozen BK141.out 0
    have hnb114 := NB0_142.out
    have hnc114 := NB142_0.out
    have hnb115 := NB0_143.out
    have hnc115 := NB143_0.out
    have hcz116_0 := cz0 BK0.out
    have hcz116_1 := cz1 BK0.out
    have hfz116_0 := blk_frozen BK0.out 0
    have hfz116_1 := blk_frozen BK0.out 1
    have p160 : 0 ≤ (t144 : Int) := of_decide_eq_true (by assumption)
    have q160 : t144 < (l0_1.length : Int) := of_decide_eq_true (by assumption)
    obtain ⟨ad160, e160, hx160_0⟩ := Kd.at_int HR0_1.out t144 p160 q160
    cases e160
    replace hx160_0 := (HB.out.cell (World.block_lt_of_cell? w _ hx160_0)).trans hx160_0
    replace p160 := eq_true p160
    replace q160 := eq_true q160
    go_wp2_with (first | (go_at_call 46; (with_reducible refine (object_word_1.calls kj65 (wrap64 (t146 - 1)) g0 gb141 A0_0 c0_0 l0_0 (some ad160) c0_1 l0_1 gb142 a3 t161 _ ?side1 ?side2 ?side3 ?side4 ?side5 ?side6 ?side7 A97.out).mono ?_); (case side1 => exact BK0.out); (case side2 => exact BK141.out); (case side3 => repeat (first | exact (Kd.C_below HR0_0.out HB.out) | with_reducible first | refine Kd.C_drewN ?_ _ | refine Kd.C_drew ?_ | refine Kd.C_alloc ?_ _)); (case side4 => exact HC0_0.out); (case side5 => repeat (first | exact (Kd.C_below HR0_1.out HB.out) | with_reducible first | refine Kd.C_drewN ?_ _ | refine Kd.C_drew ?_ | refine Kd.C_alloc ?_ _)); (case side6 => exact HC0_1.out); (case side7 => exact BK142.out); rintro e w' ⟨rfl, ⟨nd, rfl⟩⟩; (try (rw [drewN_self wc]; generalize hq_ : World.drewN wc _ = wc; have n0_ : Aside0 (wc.heap[g0]? = some (.cells #[.slice A0_0 l0_0.length c0_0, .slice (some ad160) l0_1.length c0_1] 66 (0, 0))) := ⟨by rw [← hq_]; exact (by exact BK0.out)⟩; have n1_ : Aside0 (wc.heap[gb141]? = some (.cells #[.pointer (some ⟨g0, 0, none⟩)] 49 (0, 0))) := ⟨by rw [← hq_]; exact (by exact BK141.out)⟩; have n2_ : Aside0 (wc.heap[gb142]? = some (.cells #[.bool a3] 4 (0, 0))) := ⟨by rw [← hq_]; exact (by exact BK142.out)⟩; have n3_ : Aside0 (wc.heap[gb143]? = some (.cells #[.int .i64 0, .int .i64 0, .bool false] 35 (0, 0))) := ⟨by rw [← hq_]; exact (by exact BK143.out)⟩; have n4_ : Aside0 (Below w.heap.size w wc) := ⟨by rw [← hq_]; exact (by repeat with_reducible first | exact HB.out | apply pw_below_drewN | apply below_drew1 | apply below_alloc)⟩; clear BK0 BK141 BK142 BK143 HB hq_; have BK0 := n0_; have BK141 := n1_; have BK142 := n2_; have BK143 := n3_; have HB := n4_; clear n0_ n1_ n2_ n3_ n4_)); have hnb117 := NB143_142.out; have hnc117 := NB142_143.out; have hcz118_0 := cz0 BK143.out; have hcz118_1 := cz1 BK143.out; have hcz118_2 := cz2 BK143.out; have hfz118_0 := blk_frozen BK143.out 0; have hfz118_1 := blk_frozen BK143.out 1; have hfz118_2 := blk_frozen BK143.out 2))
    refine bodyPost_ret (results_ct rfl _ _ gb143 35 #[.int .i64 t146, .int .i64 t147, .bool false] (0, 0) _ rfl (by (with_reducible repeat (first | refine blk_drewN ?_ _ | refine blk_drew ?_ | refine blk_alloc ?_ _)); refine blk_put (cs := #[.int .i64 t146, .int .i64 t147, .bool false]) ?_ 2 _ rfl; (with_reducible repeat (first | refine blk_drewN ?_ _ | refine blk_drew ?_ | refine blk_alloc ?_ _)); refine blk_put (cs := #[.int .i64 t146, .int .i64 0, .bool false]) ?_ 1 _ rfl; (with_reducible repeat (first | refine blk_drewN ?_ _ | refine blk_drew ?_ | refine blk_alloc ?_ _)); refine blk_put (cs := #[.int .i64 0, .int .i64 0, .bool false]) ?_ 0 _ rfl; (with_reducible repeat (first | refine blk_drewN ?_ _ | refine blk_drew ?_ | refine blk_alloc ?_ _)); exact BK143.out) Tryd.underlying35 rfl (by kernel_rfl)) rfl ?_
    exact ⟨by first | rfl | (simp [errW_none, errW_some] <;> rfl) | (simp [*, errW_none, errW_some] <;> rfl), by repeat with_reducible first | exact HB.out | apply pw_below_drewN | refine below_set ?_ GE143.out | apply below_drew1 | apply below_alloc⟩
   rw [if_pos c98] at H
   have c98b0 : (t161 == 0) = true := beq_iff_eq.mpr c98
   have c98b1 : (t161 != 0) = false := bne_eq_false_iff_eq.mpr c98
   clear c98
   replace H := Option.bind_eq_some_iff.mp H
   obtain ⟨⟨t162, t163⟩, A990, H⟩ := H
   (try dsimp only at H)
   have A99 := Aside0.mk A990
   clear A990
   simp only [Option.some.injEq, Prod.mk.injEq] at H
   obtain ⟨rfl, rfl, rfl, rfl⟩ := H
   have hnb100 := NB141_0.out
   have hnc100 := NB0_141.out
   have hnb101 := NB141_142.out
   have hnc101 := NB142_141.out
   have hnb102 := NB141_143.out
   have hnc102 := NB143_141.out
   have hcz103_0 := cz0 BK141.out
   have hfz103_0 := blk_frozen BK141.out 0
   have hnb104 := NB0_142.out
   have hnc104 := NB142_0.out
   have hnb105 := NB0_143.out
   have hnc105 := NB143_0.out
   have hcz106_0 := cz0 BK0.out
   have hcz106_1 := cz1 BK0.out
   have hfz106_0 := blk_frozen BK0.out 0
   have hfz106_1 := blk_frozen BK0.out 1
   have p160 : 0 ≤ (t144 : Int) := of_decide_eq_true (by assumption)
   have q160 : t144 < (l0_1.length : Int) := of_decide_eq_true (by assumption)
   obtain ⟨ad160, e160, hx160_0⟩ := Kd.at_int HR0_1.out t144 p160 q160
   cases e160
   replace hx160_0 := (HB.out.cell (World.block_lt_of_cell? w _ hx160_0)).trans hx160_0
   replace p160 := eq_true p160
   replace q160 := eq_true q160
   go_wp2_with (first | (go_at_call 46; (with_reducible refine (object_word_1.calls kj65 (wrap64 (t146 - 1)) g0 gb141 A0_0 c0_0 l0_0 (some ad160) c0_1 l0_1 gb142 a3 t161 _ ?side1 ?side2 ?side3 ?side4 ?side5 ?side6 ?side7 A97.out).mono ?_); (case side1 => exact BK0.out); (case side2 => exact BK141.out); (case side3 => repeat (first | exact (Kd.C_below HR0_0.out HB.out) | with_reducible first | refine Kd.C_drewN ?_ _ | refine Kd.C_drew ?_ | refine Kd.C_alloc ?_ _)); (case side4 => exact HC0_0.out); (case side5 => repeat (first | exact (Kd.C_below HR0_1.out HB.out) | with_reducible first | refine Kd.C_drewN ?_ _ | refine Kd.C_drew ?_ | refine Kd.C_alloc ?_ _)); (case side6 => exact HC0_1.out); (case side7 => exact BK142.out); rintro e w' ⟨rfl, ⟨nd, rfl⟩⟩; (try (rw [drewN_self wc]; generalize hq_ : World.drewN wc _ = wc; have n0_ : Aside0 (wc.heap[g0]? = some (.cells #[.slice A0_0 l0_0.length c0_0, .slice (some ad160) l0_1.length c0_1] 66 (0, 0))) := ⟨by rw [← hq_]; exact (by exact BK0.out)⟩; have n1_ : Aside0 (wc.heap[gb141]? = some (.cells #[.pointer (some ⟨g0, 0, none⟩)] 49 (0, 0))) := ⟨by rw [← hq_]; exact (by exact BK141.out)⟩; have n2_ : Aside0 (wc.heap[gb142]? = some (.cells #[.bool a3] 4 (0, 0))) := ⟨by rw [← hq_]; exact (by exact BK142.out)⟩; have n3_ : Aside0 (wc.heap[gb143]? = some (.cells #[.int .i64 0, .int .i64 0, .bool false] 35 (0, 0))) := ⟨by rw [← hq_]; exact (by exact BK143.out)⟩; have n4_ : Aside0 (Below w.heap.size w wc) := ⟨by rw [← hq_]; exact (by repeat with_reducible first | exact HB.out | apply pw_below_drewN | apply below_drew1 | apply below_alloc)⟩; clear BK0 BK141 BK142 BK143 HB hq_; have BK0 := n0_; have BK141 := n1_; have BK142 := n2_; have BK143 := n3_; have HB := n4_; clear n0_ n1_ n2_ n3_ n4_)); have hcz107_0 := cz0 BK141.out; have hfz107_0 := blk_frozen BK141.out 0) | ((with_reducible refine gate_callee (f := 48) rfl ?_); refine goesL_ (some 93) rfl rfl Tryd.func48 (by kernel_rfl) rfl #[.pointer (some ⟨g0, 0, none⟩), .int .i64 t144, .int .i64 (wrap64 (t146 - 1)), .func (.func 46) #[] #[.pointer (some ⟨gb141, 0, none⟩), .pointer (some ⟨gb142, 0, none⟩)]] rfl (map4 rfl rfl rfl rfl) ?_; (with_reducible refine (object_run.calls kj65 g0 A0_0 c0_0 l0_0 (some ad160) c0_1 l0_1 t144 (wrap64 (t146 - 1)) g0 gb141 gb142 A0_0 c0_0 l0_0 (some ad160) c0_1 l0_1 a3 t162 t163 _ ?side1 ?side2 ?side3 ?side4 ?side5 ?side6 ?side7 ?side8 ?side9 ?side10 ?side11 ?side12 A99.out).mono ?_); (case side1 => exact BK0.out); (case side2 => repeat (first | exact (Kd.C_below HR0_0.out HB.out) | with_reducible first | refine Kd.C_drewN ?_ _ | refine Kd.C_drew ?_ | refine Kd.C_alloc ?_ _)); (case side3 => exact HC0_0.out); (case side4 => repeat (first | exact (Kd.C_below HR0_1.out HB.out) | with_reducible first | refine Kd.C_drewN ?_ _ | refine Kd.C_drew ?_ | refine Kd.C_alloc ?_ _)); (case side5 => exact HC0_1.out); (case side6 => exact BK0.out); (case side7 => exact BK141.out); (case side8 => exact BK142.out); (case side9 => repeat (first | exact (Kd.C_below HR0_0.out HB.out) | with_reducible first | refine Kd.C_drewN ?_ _ | refine Kd.C_drew ?_ | refine Kd.C_alloc ?_ _)); (case side10 => exact HC0_0.out); (case side11 => repeat (first | exact (Kd.C_below HR0_1.out HB.out) | with_reducible first | refine Kd.C_drewN ?_ _ | refine Kd.C_drew ?_ | refine Kd.C_alloc ?_ _)); (case side12 => exact HC0_1.out); rintro e w' ⟨rfl, ⟨nd, rfl⟩⟩; refine ⟨_, rfl, ?_⟩; (try (rw [drewN_self wc]; generalize hq_ : World.drewN wc _ = wc; have n0_ : Aside0 (wc.heap[g0]? = some (.cells #[.slice A0_0 l0_0.length c0_0, .slice (some ad160) l0_1.length c0_1] 66 (0, 0))) := ⟨by rw [← hq_]; exact (by exact BK0.out)⟩; have n1_ : Aside0 (wc.heap[gb141]? = some (.cells #[.pointer (some ⟨g0, 0, none⟩)] 49 (0, 0))) := ⟨by rw [← hq_]; exact (by exact BK141.out)⟩; have n2_ : Aside0 (wc.heap[gb142]? = some (.cells #[.bool a3] 4 (0, 0))) := ⟨by rw [← hq_]; exact (by exact BK142.out)⟩; have n3_ : Aside0 (wc.heap[gb143]? = some (.cells #[.int .i64 0, .int .i64 0, .bool false] 35 (0, 0))) := ⟨by rw [← hq_]; exact (by exact BK143.out)⟩; have n4_ : Aside0 (Below w.heap.size w wc) := ⟨by rw [← hq_]; exact (by repeat with_reducible first | exact HB.out | apply pw_below_drewN | apply below_drew1 | apply below_alloc)⟩; clear BK0 BK141 BK142 BK143 HB hq_; have BK0 := n0_; have BK141 := n1_; have BK142 := n2_; have BK143 := n3_; have HB := n4_; clear n0_ n1_ n2_ n3_ n4_)); have hnb108 := NB143_142.out; have hnc108 := NB142_143.out; have hcz109_0 := cz0 BK143.out; have hcz109_1 := cz1 BK143.out; have hcz109_2 := cz2 BK143.out; have hfz109_0 := blk_frozen BK143.out 0; have hfz109_1 := blk_frozen BK143.out 1; have hfz109_2 := blk_frozen BK143.out 2))
   refine bodyPost_ret (results_ct rfl _ _ gb143 35 #[.int .i64 t162, .int .i64 t147, .bool false] (0, 0) _ rfl (by (with_reducible repeat (first | refine blk_drewN ?_ _ | refine blk_drew ?_ | refine blk_alloc ?_ _)); refine blk_put (cs := #[.int .i64 t162, .int .i64 t147, .bool false]) ?_ 2 _ rfl; (with_reducible repeat (first | refine blk_drewN ?_ _ | refine blk_drew ?_ | refine blk_alloc ?_ _)); refine blk_put (cs := #[.int .i64 t162, .int .i64 0, .bool false]) ?_ 1 _ rfl; (with_reducible repeat (first | refine blk_drewN ?_ _ | refine blk_drew ?_ | refine blk_alloc ?_ _)); refine blk_put (cs := #[.int .i64 0, .int .i64 0, .bool false]) ?_ 0 _ rfl; (with_reducible repeat (first | refine blk_drewN ?_ _ | refine blk_drew ?_ | refine blk_alloc ?_ _)); exact BK143.out) Tryd.underlying35 rfl (by kernel_rfl)) rfl ?_
   exact ⟨by first | rfl | (simp [errW_none, errW_some] <;> rfl) | (simp [*, errW_none, errW_some] <;> rfl), by repeat with_reducible first | exact HB.out | apply pw_below_drewN | refine below_set ?_ GE143.out | apply below_drew1 | apply below_alloc⟩

/-! ### object_inner: function 34 -/
def object_inner.f (a0 : Int) (a1 : Int) (a2 : Int) : Option (Int × Int × Bool) := if a2 = 105 then (some (wrap64 (a0 + 1), a1, false)) else (some (a0, wrap64 (a1 + 1), false))
set_option maxHeartbeats 8000000 in
set_option maxRecDepth 100000 in
theorem object_inner.calls (a0 : Int) (a1 : Int) (a2 : Int) (r1 : Int) (r2 : Int) (r3 : Bool) (w : World) (h : object_inner.f a0 a1 a2 = some (r1, r2, r3)) :
  Calls Tryd.prog 34 #[.int .i64 a0, .int .i64 a1, .int .i64 a2] w fun e w' => e = .returned (.agg #[.int .i64 r1, .int .i64 r2, .bool r3]) ∧ Below w.heap.size w w' := by
 have hu35 := Tryd.underlying35
 have HB := Aside0.mk (Below.refl w.heap.size w)
 have H : (if a2 = 105 then (some (wrap64 (a0 + 1), a1, false)) else (some (a0, wrap64 (a1 + 1), false))) = some (r1, r2, r3) := h
 clear h
 by_cases c4 : a2 = 105
 rotate_left
 ·
  rw [if_neg c4] at H
  have c4b0 : (a2 == 105) = false := beq_eq_false_iff_ne.mpr c4
  have c4b1 : (a2 != 105) = true := bne_iff_ne.mpr c4
  simp only [Option.some.injEq, Prod.mk.injEq] at H
  obtain ⟨rfl, rfl, rfl⟩ := H
  go_enter Tryd.func34, Tryd.ntmps34
  go_wp2_with (first | ((with_reducible refine gate_dst (N := 6) rfl ?_); refine box_event ?hg (N := 6) ?hd (cs := #[.int .i64 0, .int .i64 0, .bool false]) (t := 35) ?hr ?_; (case hd => rfl); (case hg => rfl); (case hr => first | (go_simp; done) | (go_simp; rfl)); intro gb164 hg w7 hbox hb; have n0_ := Aside0.mk (below_step (by repeat with_reducible first | exact HB.out | apply pw_below_drewN | apply below_drew1 | apply below_alloc) hb); have n1_ := Aside0.mk (hbox); have n2_ := Aside0.mk (geb hg (by repeat with_reducible first | exact HB.out | apply pw_below_drewN | apply below_drew1 | apply below_alloc)); have n3_ := n2_; clear HB; have HB := n0_; have BK164 := n1_; have GW164 := n2_; have GE164 := n3_; clear n0_ n1_ n2_ n3_; clear hb hbox hg; have hcz8_0 := cz0 BK164.out; have hcz8_1 := cz1 BK164.out; have hcz8_2 := cz2 BK164.out; have hfz8_0 := blk_frozen BK164.out 0; have hfz8_1 := blk_frozen BK164.out 1; have hfz8_2 := blk_frozen BK164.out 2))
  refine bodyPost_ret (results_cell_row rfl _ _ gb164 35 #[.int .i64 a0, .int .i64 (wrap64 (a1 + 1)), .bool false] (0, 0) _ rfl (by (with_reducible repeat (first | refine blk_drewN ?_ _ | refine blk_drew ?_ | refine blk_alloc ?_ _)); refine blk_put (cs := #[.int .i64 a0, .int .i64 (wrap64 (a1 + 1)), .bool false]) ?_ 2 _ rfl; (with_reducible repeat (first | refine blk_drewN ?_ _ | refine blk_drew ?_ | refine blk_alloc ?_ _)); refine blk_put (cs := #[.int .i64 a0, .int .i64 0, .bool false]) ?_ 1 _ rfl; (with_reducible repeat (first | refine blk_drewN ?_ _ | refine blk_drew ?_ | refine blk_alloc ?_ _)); refine blk_put (cs := #[.int .i64 0, .int .i64 0, .bool false]) ?_ 0 _ rfl; (with_reducible repeat (first | refine blk_drewN ?_ _ | refine blk_drew ?_ | refine blk_alloc ?_ _)); exact BK164.out) Tryd.underlying35 rfl (by kernel_rfl)) rfl ?_
  exact ⟨by first | rfl | (simp [errW_none, errW_some] <;> rfl) | (simp [*, errW_none, errW_some] <;> rfl), by repeat with_reducible first | exact HB.out | apply pw_below_drewN | refine below_set ?_ GE164.out | apply below_drew1 | apply below_alloc⟩
 rw [if_pos c4] at H
 have c4b0 : (a2 == 105) = true := beq_iff_eq.mpr c4
 have c4b1 : (a2 != 105) = false := bne_eq_false_iff_eq.mpr c4
 clear c4
 simp only [Option.some.injEq, Prod.mk.injEq] at H
 obtain ⟨rfl, rfl, rfl⟩ := H
 go_enter Tryd.func34, Tryd.ntmps34
 go_wp2_with (first | ((with_reducible refine gate_dst (N := 6) rfl ?_); refine box_event ?hg (N := 6) ?hd (cs := #[.int .i64 0, .int .i64 0, .bool false]) (t := 35) ?hr ?_; (case hd => rfl); (case hg => rfl); (case hr => first | (go_simp; done) | (go_simp; rfl)); intro gb164 hg w5 hbox hb; have n0_ := Aside0.mk (below_step (by repeat with_reducible first | exact HB.out | apply pw_below_drewN | apply below_drew1 | apply below_alloc) hb); have n1_ := Aside0.mk (hbox); have n2_ := Aside0.mk (geb hg (by repeat with_reducible first | exact HB.out | apply pw_below_drewN | apply below_drew1 | apply below_alloc)); have n3_ := n2_; clear HB; have HB := n0_; have BK164 := n1_; have GW164 := n2_; have GE164 := n3_; clear n0_ n1_ n2_ n3_; clear hb hbox hg; have hcz6_0 := cz0 BK164.out; have hcz6_1 := cz1 BK164.out; have hcz6_2 := cz2 BK164.out; have hfz6_0 := blk_frozen BK164.out 0; have hfz6_1 := blk_frozen BK164.out 1; have hfz6_2 := blk_frozen BK164.out 2))
 refine bodyPost_ret (results_cell_row rfl _ _ gb164 35 #[.int .i64 (wrap64 (a0 + 1)), .int .i64 a1, .bool false] (0, 0) _ rfl (by (with_reducible repeat (first | refine blk_drewN ?_ _ | refine blk_drew ?_ | refine blk_alloc ?_ _)); refine blk_put (cs := #[.int .i64 (wrap64 (a0 + 1)), .int .i64 a1, .bool false]) ?_ 2 _ rfl; (with_reducible repeat (first | refine blk_drewN ?_ _ | refine blk_drew ?_ | refine blk_alloc ?_ _)); refine blk_put (cs := #[.int .i64 (wrap64 (a0 + 1)), .int .i64 0, .bool false]) ?_ 1 _ rfl; (with_reducible repeat (first | refine blk_drewN ?_ _ | refine blk_drew ?_ | refine blk_alloc ?_ _)); refine blk_put (cs := #[.int .i64 0, .int .i64 0, .bool false]) ?_ 0 _ rfl; (with_reducible repeat (first | refine blk_drewN ?_ _ | refine blk_drew ?_ | refine blk_alloc ?_ _)); exact BK164.out) Tryd.underlying35 rfl (by kernel_rfl)) rfl ?_
 exact ⟨by first | rfl | (simp [errW_none, errW_some] <;> rfl) | (simp [*, errW_none, errW_some] <;> rfl), by repeat with_reducible first | exact HB.out | apply pw_below_drewN | refine below_set ?_ GE164.out | apply below_drew1 | apply below_alloc⟩

/-! ### object_quote: function 30 -/
def object_quote.l0 : Nat → Int → Int → Int → Int → Int → List Int → List Int → Option (Int × Int × Bool × Int)
  | 0, _, _, _, _, _, _, _ => none
  | k + 1, x1, x2, x8, x9, x10, v0, v1 => (text_Map_End.f v0 v1 x8).bind fun t168 => (if x10 < t168 then (if 0 ≤ x10 then (if x10 < (v0.length : Int) then (if (rd v0 x10) = 34 then (if x9 < 0 then (object_quote.l0 k x1 x2 x8 x10 (wrap64 (x10 + 1)) v0 v1) else (if x10 < x1 then (object_quote.l0 k x1 x2 x8 (-1) (wrap64 (x10 + 1)) v0 v1) else ((object_inner.f x9 x10 x2).bind fun bt170 => (some (bt170.1, bt170.2.1, bt170.2.2, 0))))) else (object_quote.l0 k x1 x2 x8 x9 (wrap64 (x10 + 1)) v0 v1)) else (none)) else (none)) else (some (0, 0, false, 6)))
def object_quote.f (k : Nat) (l0_0 : List Int) (l0_1 : List Int) (a1 : Int) (a2 : Int) : Option (Int × Int × Bool × Int) := (text_Map_Row.f k l0_0 l0_1 a1).bind fun t166 => (if 0 ≤ t166 then (if t166 < (l0_1.length : Int) then (object_quote.l0 k a1 a2 t166 (-1) (rd l0_1 t166) l0_0 l0_1) else (none)) else (none))
theorem object_quote.mono_l : ∀ k, (∀ y0 y1 y2 y3 y4 y5 y6, LeO (object_quote.l0 k y0 y1 y2 y3 y4 y5 y6) (object_quote.l0 (k + 1) y0 y1 y2 y3 y4 y5 y6))
  | 0 => fun _ _ _ _ _ _ _ r h => by simp [object_quote.l0] at h
  | k + 1 => by
    have ih0 := object_quote.mono_l k
    all_goals intros
    all_goals first | unfold object_quote.l0
    all_goals repeat' first | (with_reducible first | exact ih0 _ _ _ _ _ _ _ | exact text_Map_Row.mono _ _ _ _ | exact LeO.refl _ | exact LeO.none _ | refine LeO.ite ?_ ?_ | refine LeO.bind ?_ (fun _ => ?_)) | exact ih0 _ _ _ _ _ _ _ | exact text_Map_Row.mono _ _ _ _ | exact LeO.refl _ | exact LeO.none _ | refine LeO.ite ?_ ?_ | refine LeO.bind ?_ (fun _ => ?_)
theorem object_quote.mono : ∀ a0 a1 a2 a3 k, LeO (object_quote.f k a0 a1 a2 a3) (object_quote.f (k + 1) a0 a1 a2 a3) := by
  intro a0 a1 a2 a3 k
  have ih0 := object_quote.mono_l k
  unfold object_quote.f
  repeat' first | (with_reducible first | exact ih0 _ _ _ _ _ _ _ | exact text_Map_Row.mono _ _ _ _ | exact LeO.refl _ | exact LeO.none _ | refine LeO.ite ?_ ?_ | refine LeO.bind ?_ (fun _ => ?_)) | exact ih0 _ _ _ _ _ _ _ | exact text_Map_Row.mono _ _ _ _ | exact LeO.refl _ | exact LeO.none _ | refine LeO.ite ?_ ?_ | refine LeO.bind ?_ (fun _ => ?_)
set_option maxHeartbeats 8000000 in
set_option maxRecDepth 100000 in
theorem object_quote.calls (k : Nat) (g0 : Nat) (A0_0 : Option Addr) (c0_0 : Nat) (l0_0 : List Int) (A0_1 : Option Addr) (c0_1 : Nat) (l0_1 : List Int) (a1 : Int) (a2 : Int) (r1 : Int) (r2 : Int) (r3 : Bool) (r4 : Int) (w : World) (hg0 : w.heap[g0]? = some (.cells #[.slice A0_0 l0_0.length c0_0, .slice A0_1 l0_1.length c0_1] 66 (0, 0))) (hr0_0 : Kd.C (Kd.int .i32) w A0_0 l0_0.length l0_0) (hc0_0 : l0_0.length ≤ c0_0) (hr0_1 : Kd.C (Kd.int .i64) w A0_1 l0_1.length l0_1) (hc0_1 : l0_1.length ≤ c0_1) (h : object_quote.f k l0_0 l0_1 a1 a2 = some (r1, r2, r3, r4)) :
  Calls Tryd.prog 30 #[.pointer (some ⟨g0, 0, none⟩), .int .i64 a1, .int .i64 a2] w fun e w' => e = .returned (.tuple #[.agg #[.int .i64 r1, .int .i64 r2, .bool r3], .int .i64 r4]) ∧ Below w.heap.size w w' := by
 have hu35 := Tryd.underlying35
 have BK0 := Aside0.mk hg0
 clear hg0
 have HR0_0 := Aside0.mk hr0_0
 have HC0_0 := Aside0.mk hc0_0
 clear hr0_0 hc0_0
 have HR0_1 := Aside0.mk hr0_1
 have HC0_1 := Aside0.mk hc0_1
 clear hr0_1 hc0_1
 have HB := Aside0.mk (Below.refl w.heap.size w)
 have H : ((text_Map_Row.f k l0_0 l0_1 a1).bind fun t166 => (if 0 ≤ t166 then (if t166 < (l0_1.length : Int) then (object_quote.l0 k a1 a2 t166 (-1) (rd l0_1 t166) l0_0 l0_1) else (none)) else (none))) = some (r1, r2, r3, r4) := h
 clear h
 replace H := Option.bind_eq_some_iff.mp H
 obtain ⟨t166, A40, H⟩ := H
 (try dsimp only at H)
 have A4 := Aside0.mk A40
 clear A40
 by_cases c5 : 0 ≤ t166
 rotate_left
 ·
  rw [if_neg c5] at H
  exact absurd H (by simp)
 rw [if_pos c5] at H
 have c5b0 := decide_eq_true c5
 clear c5
 by_cases c6 : t166 < (l0_1.length : Int)
 rotate_left
 ·
  rw [if_neg c6] at H
  exact absurd H (by simp)
 rw [if_pos c6] at H
 have c6b0 := decide_eq_true c6
 clear c6
 have H' := Aside0.mk H
 clear H
 go_enter Tryd.func30, Tryd.ntmps30
 go_wp2_with (first | ((with_reducible refine gate_dst (N := 6) rfl ?_); refine box_event ?hg (N := 6) ?hd (cs := #[.int .i64 0, .int .i64 0, .bool false]) (t := 35) ?hr ?_; (case hd => rfl); (case hg => rfl); (case hr => first | (go_simp; done) | (go_simp; rfl)); intro gb165 hg w7 hbox hb; have n0_ := Aside0.mk (blb hb BK0.out); have n1_ := Aside0.mk (below_step (by repeat with_reducible first | exact HB.out | apply pw_below_drewN | apply below_drew1 | apply below_alloc) hb); have n2_ := Aside0.mk (hbox); have n3_ := Aside0.mk (geb hg (by repeat with_reducible first | exact HB.out | apply pw_below_drewN | apply below_drew1 | apply below_alloc)); have n4_ := n3_; have n5_ := Aside0.mk ((nbl hg BK0.out)); have n6_ := Aside0.mk ((nbr hg BK0.out)); clear BK0; clear HB; have BK0 := n0_; have HB := n1_; have BK165 := n2_; have GW165 := n3_; have GE165 := n4_; have NB0_165 := n5_; have NB165_0 := n6_; clear n0_ n1_ n2_ n3_ n4_ n5_ n6_; clear hb hbox hg) | ((with_reducible refine gate_callee (f := 44) rfl ?_); refine goesL_ (some 13) rfl rfl Tryd.func44 (by kernel_rfl) rfl #[.pointer (some ⟨g0, 0, none⟩), .int .i64 a1] rfl (map2 rfl rfl) ?_; (with_reducible refine (text_Map_Row.calls k g0 A0_0 c0_0 l0_0 A0_1 c0_1 l0_1 a1 t166 _ ?side1 ?side2 ?side3 ?side4 ?side5 A4.out).mono ?_); (case side1 => exact BK0.out); (case side2 => repeat (first | exact (Kd.C_below HR0_0.out HB.out) | with_reducible first | refine Kd.C_drewN ?_ _ | refine Kd.C_drew ?_ | refine Kd.C_alloc ?_ _)); (case side3 => exact HC0_0.out); (case side4 => repeat (first | exact (Kd.C_below HR0_1.out HB.out) | with_reducible first | refine Kd.C_drewN ?_ _ | refine Kd.C_drew ?_ | refine Kd.C_alloc ?_ _)); (case side5 => exact HC0_1.out); rintro e w' ⟨rfl, ⟨nd, rfl⟩⟩; refine ⟨_, rfl, ?_⟩; have hnb8 := NB0_165.out; have hnc8 := NB165_0.out; have hcz9_0 := cz0 BK0.out; have hcz9_1 := cz1 BK0.out; have hfz9_0 := blk_frozen BK0.out 0; have hfz9_1 := blk_frozen BK0.out 1; have p167 : 0 ≤ (t166 : Int) := of_decide_eq_true (by assumption); have q167 : t166 < (l0_1.length : Int) := of_decide_eq_true (by assumption); obtain ⟨ad167, e167, hx167_0⟩ := Kd.at_int HR0_1.out t166 p167 q167; cases e167; replace hx167_0 := (HB.out.cell (World.block_lt_of_cell? w _ hx167_0)).trans hx167_0; replace p167 := eq_true p167; replace q167 := eq_true q167))
 go_loopg [9, 10] k (fun kq v9 v10 w' => ∃ (x9_1 : Int) (x10_1 : Int) (x166000_1 : Int) (x166001_1 : Int) (x166002_1 : Bool), v9 = .int .i64 x9_1 ∧ v10 = .int .i64 x10_1 ∧ Aside0 (object_quote.l0 kq a1 a2 t166 x9_1 x10_1 l0_0 l0_1 = some (r1, r2, r3, r4)) ∧ Aside0 (kq ≤ k) ∧ Aside0 (w'.heap[g0]? = some (.cells #[(.slice A0_0 l0_0.length c0_0), (.slice (some ad167) l0_1.length c0_1)] 66 (0, 0))) ∧ Aside0 (w'.heap[gb165]? = some (.cells #[.int .i64 x166000_1, .int .i64 x166001_1, .bool x166002_1] 35 (0, 0))) ∧ Aside0 (Below w.heap.size w w'))
 case atStart => exact ⟨((-1)), (rd l0_1 t166), (0), (0), (false), (by first | rfl | (simp; done) | (simp [*]; done)), (by first | rfl | (simp; done) | (simp [*]; done)), H', ⟨Nat.le_refl _⟩, ⟨BK0.out⟩, ⟨BK165.out⟩, ⟨by repeat with_reducible first | exact HB.out | apply pw_below_drewN | apply below_drew1 | apply below_alloc⟩⟩
 case round =>
  clear H'
  try clear c5
  try clear c5b0
  try clear c6
  try clear c6b0
  try clear hcz9_0
  try clear hcz9_1
  try clear hfz9_0
  try clear hfz9_1
  try clear hx167_0
  try clear p167
  try clear q167
  obtain ⟨x9_1, x10_1, x166000_1, x166001_1, x166002_1, rfl, rfl, HA, HK1, BK0, BK165, HB⟩ := hrel
  cases gk with
  | zero => exact absurd HA.out (by simp [object_quote.l0])
  | succ k1 =>
   have H := HA.out
   clear HA
   simp only [object_quote.l0] at H
   replace H := Option.bind_eq_some_iff.mp H
   obtain ⟨t168, A100, H⟩ := H
   (try dsimp only at H)
   have A10 := Aside0.mk A100
   clear A100
   by_cases c11 : x10_1 < t168
   rotate_left
   ·
    rw [if_neg c11] at H
    have c11b0 := decide_eq_false c11
    clear c11
    simp only [Option.some.injEq, Prod.mk.injEq] at H
    obtain ⟨rfl, rfl, rfl, rfl⟩ := H
    go_wp2_with (first | ((with_reducible refine gate_callee (f := 45) rfl ?_); refine goesL_ (some 24) rfl rfl Tryd.func45 (by kernel_rfl) rfl #[.pointer (some ⟨g0, 0, none⟩), .int .i64 t166] rfl (map2 rfl rfl) ?_; (with_reducible refine (text_Map_End.calls g0 A0_0 c0_0 l0_0 (some ad167) c0_1 l0_1 t166 t168 _ ?side1 ?side2 ?side3 ?side4 ?side5 A10.out).mono ?_); (case side1 => exact BK0.out); (case side2 => repeat (first | exact (Kd.C_below HR0_0.out HB.out) | with_reducible first | refine Kd.C_drewN ?_ _ | refine Kd.C_drew ?_ | refine Kd.C_alloc ?_ _)); (case side3 => exact HC0_0.out); (case side4 => repeat (first | exact (Kd.C_below HR0_1.out HB.out) | with_reducible first | refine Kd.C_drewN ?_ _ | refine Kd.C_drew ?_ | refine Kd.C_alloc ?_ _)); (case side5 => exact HC0_1.out); rintro e w' ⟨rfl, ⟨nd, rfl⟩⟩; refine ⟨_, rfl, ?_⟩; (try (rw [drewN_self wr]; generalize hq_ : World.drewN wr _ = wr; have n0_ : Aside0 (wr.heap[g0]? = some (.cells #[.slice A0_0 l0_0.length c0_0, .slice (some ad167) l0_1.length c0_1] 66 (0, 0))) := ⟨by rw [← hq_]; exact (by exact BK0.out)⟩; have n1_ : Aside0 (wr.heap[gb165]? = some (.cells #[.int .i64 x166000_1, .int .i64 x166001_1, .bool x166002_1] 35 (0, 0))) := ⟨by rw [← hq_]; exact (by exact BK165.out)⟩; have n2_ : Aside0 (Below w.heap.size w wr) := ⟨by rw [← hq_]; exact (by repeat with_reducible first | exact HB.out | apply pw_below_drewN | apply below_drew1 | apply below_alloc)⟩; clear BK0 BK165 HB hq_; have BK0 := n0_; have BK165 := n1_; have HB := n2_; clear n0_ n1_ n2_)); have hnb28 := NB165_0.out; have hnc28 := NB0_165.out; have hcz29_0 := cz0 BK165.out; have hcz29_1 := cz1 BK165.out; have hcz29_2 := cz2 BK165.out; have hfz29_0 := blk_frozen BK165.out 0; have hfz29_1 := blk_frozen BK165.out 1; have hfz29_2 := blk_frozen BK165.out 2))
    refine bodyPost_ret (results_ct rfl _ _ gb165 35 #[.int .i64 0, .int .i64 0, .bool false] (0, 0) _ rfl (by (with_reducible repeat (first | refine blk_drewN ?_ _ | refine blk_drew ?_ | refine blk_alloc ?_ _)); refine blk_put (cs := #[.int .i64 0, .int .i64 0, .bool x166002_1]) ?_ 2 _ rfl; (with_reducible repeat (first | refine blk_drewN ?_ _ | refine blk_drew ?_ | refine blk_alloc ?_ _)); refine blk_put (cs := #[.int .i64 0, .int .i64 x166001_1, .bool x166002_1]) ?_ 1 _ rfl; (with_reducible repeat (first | refine blk_drewN ?_ _ | refine blk_drew ?_ | refine blk_alloc ?_ _)); refine blk_put (cs := #[.int .i64 x166000_1, .int .i64 x166001_1, .bool x166002_1]) ?_ 0 _ rfl; (with_reducible repeat (first | refine blk_drewN ?_ _ | refine blk_drew ?_ | refine blk_alloc ?_ _)); exact BK165.out) Tryd.underlying35 rfl (by kernel_rfl)) rfl ?_
    exact ⟨by first | rfl | (simp [errW_none, errW_some] <;> rfl) | (simp [*, errW_none, errW_some] <;> rfl), by repeat with_reducible first | exact HB.out | apply pw_below_drewN | refine below_set ?_ GE165.out | apply below_drew1 | apply below_alloc⟩
   rw [if_pos c11] at H
   have c11b0 := decide_eq_true c11
   clear c11
   by_cases c12 : 0 ≤ x10_1
   rotate_left
   ·
    rw [if_neg c12] at H
    exact absurd H (by simp)
   rw [if_pos c12] at H
   have c12b0 := decide_eq_true c12
   clear c12
   by_cases c13 : x10_1 < (l0_0.length : Int)
   rotate_left
   ·
    rw [if_neg c13] at H
    exact absurd H (by simp)
   rw [if_pos c13] at H
   have c13b0 := decide_eq_true c13
   clear c13
   by_cases c14 : (rd l0_0 x10_1) = 34
   rotate_left
   ·
    rw [if_neg c14] at H
    have c14b0 : ((rd l0_0 x10_1) == 34) = false := beq_eq_false_iff_ne.mpr c14
    have c14b1 : ((rd l0_0 x10_1) != 34) = true := bne_iff_ne.mpr c14
    have H' := Aside0.mk H
    clear H
    go_wp2_with (first | ((with_reducible refine gate_callee (f := 45) rfl ?_); refine goesL_ (some 24) rfl rfl Tryd.func45 (by kernel_rfl) rfl #[.pointer (some ⟨g0, 0, none⟩), .int .i64 t166] rfl (map2 rfl rfl) ?_; (with_reducible refine (text_Map_End.calls g0 A0_0 c0_0 l0_0 (some ad167) c0_1 l0_1 t166 t168 _ ?side1 ?side2 ?side3 ?side4 ?side5 A10.out).mono ?_); (case side1 => exact BK0.out); (case side2 => repeat (first | exact (Kd.C_below HR0_0.out HB.out) | with_reducible first | refine Kd.C_drewN ?_ _ | refine Kd.C_drew ?_ | refine Kd.C_alloc ?_ _)); (case side3 => exact HC0_0.out); (case side4 => repeat (first | exact (Kd.C_below HR0_1.out HB.out) | with_reducible first | refine Kd.C_drewN ?_ _ | refine Kd.C_drew ?_ | refine Kd.C_alloc ?_ _)); (case side5 => exact HC0_1.out); rintro e w' ⟨rfl, ⟨nd, rfl⟩⟩; refine ⟨_, rfl, ?_⟩; have hnb26 := NB0_165.out; have hnc26 := NB165_0.out; have hcz27_0 := cz0 BK0.out; have hcz27_1 := cz1 BK0.out; have hfz27_0 := blk_frozen BK0.out 0; have hfz27_1 := blk_frozen BK0.out 1; have p169 : 0 ≤ (x10_1 : Int) := of_decide_eq_true (by assumption); have q169 : x10_1 < (l0_0.length : Int) := of_decide_eq_true (by assumption); obtain ⟨ad169, e169, hx169_0⟩ := Kd.at_int HR0_0.out x10_1 p169 q169; cases e169; replace hx169_0 := (HB.out.cell (World.block_lt_of_cell? w _ hx169_0)).trans hx169_0; replace p169 := eq_true p169; replace q169 := eq_true q169))
    go_roundg k1
    case measure => have := HK1.out; omega
    case rel => exact ⟨(x9_1), (wrap64 (x10_1 + 1)), (x166000_1), (x166001_1), (x166002_1), (by first | rfl | (simp; done) | (simp [*]; done)), (by first | rfl | (simp; done) | (simp [*]; done)), H', ⟨by have := HK1.out; omega⟩, ⟨BK0.out⟩, ⟨BK165.out⟩, ⟨by repeat with_reducible first | exact HB.out | apply pw_below_drewN | apply below_drew1 | apply below_alloc⟩⟩
   rw [if_pos c14] at H
   have c14b0 : ((rd l0_0 x10_1) == 34) = true := beq_iff_eq.mpr c14
   have c14b1 : ((rd l0_0 x10_1) != 34) = false := bne_eq_false_iff_eq.mpr c14
   clear c14
   by_cases c15 : x9_1 < 0
   ·
    rw [if_pos c15] at H
    have c15b0 := decide_eq_true c15
    clear c15
    have H' := Aside0.mk H
    clear H
    go_wp2_with (first | ((with_reducible refine gate_callee (f := 45) rfl ?_); refine goesL_ (some 24) rfl rfl Tryd.func45 (by kernel_rfl) rfl #[.pointer (some ⟨g0, 0, none⟩), .int .i64 t166] rfl (map2 rfl rfl) ?_; (with_reducible refine (text_Map_End.calls g0 A0_0 c0_0 l0_0 (some ad167) c0_1 l0_1 t166 t168 _ ?side1 ?side2 ?side3 ?side4 ?side5 A10.out).mono ?_); (case side1 => exact BK0.out); (case side2 => repeat (first | exact (Kd.C_below HR0_0.out HB.out) | with_reducible first | refine Kd.C_drewN ?_ _ | refine Kd.C_drew ?_ | refine Kd.C_alloc ?_ _)); (case side3 => exact HC0_0.out); (case side4 => repeat (first | exact (Kd.C_below HR0_1.out HB.out) | with_reducible first | refine Kd.C_drewN ?_ _ | refine Kd.C_drew ?_ | refine Kd.C_alloc ?_ _)); (case side5 => exact HC0_1.out); rintro e w' ⟨rfl, ⟨nd, rfl⟩⟩; refine ⟨_, rfl, ?_⟩; have hnb16 := NB0_165.out; have hnc16 := NB165_0.out; have hcz17_0 := cz0 BK0.out; have hcz17_1 := cz1 BK0.out; have hfz17_0 := blk_frozen BK0.out 0; have hfz17_1 := blk_frozen BK0.out 1; have p169 : 0 ≤ (x10_1 : Int) := of_decide_eq_true (by assumption); have q169 : x10_1 < (l0_0.length : Int) := of_decide_eq_true (by assumption); obtain ⟨ad169, e169, hx169_0⟩ := Kd.at_int HR0_0.out x10_1 p169 q169; cases e169; replace hx169_0 := (HB.out.cell (World.block_lt_of_cell? w _ hx169_0)).trans hx169_0; replace p169 := eq_true p169; replace q169 := eq_true q169))
    go_roundg k1
    case measure => have := HK1.out; omega
    case rel => exact ⟨(x10_1), (wrap64 (x10_1 + 1)), (x166000_1), (x166001_1), (x166002_1), (by first | rfl | (simp; done) | (simp [*]; done)), (by first | rfl | (simp; done) | (simp [*]; done)), H', ⟨by have := HK1.out; omega⟩, ⟨BK0.out⟩, ⟨BK165.out⟩, ⟨by repeat with_reducible first | exact HB.out | apply pw_below_drewN | apply below_drew1 | apply below_alloc⟩⟩
   rw [if_neg c15] at H
   have c15b0 := decide_eq_false c15
   clear c15
   by_cases c18 : x10_1 < a1
   ·
    rw [if_pos c18] at H
    have c18b0 := decide_eq_true c18
    clear c18
    have H' := Aside0.mk H
    clear H
    go_wp2_with (first | ((with_reducible refine gate_callee (f := 45) rfl ?_); refine goesL_ (some 24) rfl rfl Tryd.func45 (by kernel_rfl) rfl #[.pointer (some ⟨g0, 0, none⟩), .int .i64 t166] rfl (map2 rfl rfl) ?_; (with_reducible refine (text_Map_End.calls g0 A0_0 c0_0 l0_0 (some ad167) c0_1 l0_1 t166 t168 _ ?side1 ?side2 ?side3 ?side4 ?side5 A10.out).mono ?_); (case side1 => exact BK0.out); (case side2 => repeat (first | exact (Kd.C_below HR0_0.out HB.out) | with_reducible first | refine Kd.C_drewN ?_ _ | refine Kd.C_drew ?_ | refine Kd.C_alloc ?_ _)); (case side3 => exact HC0_0.out); (case side4 => repeat (first | exact (Kd.C_below HR0_1.out HB.out) | with_reducible first | refine Kd.C_drewN ?_ _ | refine Kd.C_drew ?_ | refine Kd.C_alloc ?_ _)); (case side5 => exact HC0_1.out); rintro e w' ⟨rfl, ⟨nd, rfl⟩⟩; refine ⟨_, rfl, ?_⟩; have hnb19 := NB0_165.out; have hnc19 := NB165_0.out; have hcz20_0 := cz0 BK0.out; have hcz20_1 := cz1 BK0.out; have hfz20_0 := blk_frozen BK0.out 0; have hfz20_1 := blk_frozen BK0.out 1; have p169 : 0 ≤ (x10_1 : Int) := of_decide_eq_true (by assumption); have q169 : x10_1 < (l0_0.length : Int) := of_decide_eq_true (by assumption); obtain ⟨ad169, e169, hx169_0⟩ := Kd.at_int HR0_0.out x10_1 p169 q169; cases e169; replace hx169_0 := (HB.out.cell (World.block_lt_of_cell? w _ hx169_0)).trans hx169_0; replace p169 := eq_true p169; replace q169 := eq_true q169))
    go_roundg k1
    case measure => have := HK1.out; omega
    case rel => exact ⟨((-1)), (wrap64 (x10_1 + 1)), (x166000_1), (x166001_1), (x166002_1), (by first | rfl | (simp; done) | (simp [*]; done)), (by first | rfl | (simp; done) | (simp [*]; done)), H', ⟨by have := HK1.out; omega⟩, ⟨BK0.out⟩, ⟨BK165.out⟩, ⟨by repeat with_reducible first | exact HB.out | apply pw_below_drewN | apply below_drew1 | apply below_alloc⟩⟩
   rw [if_neg c18] at H
   have c18b0 := decide_eq_false c18
   clear c18
   replace H := Option.bind_eq_some_iff.mp H
   obtain ⟨⟨t170, t171, t172⟩, A210, H⟩ := H
   (try dsimp only at H)
   have A21 := Aside0.mk A210
   clear A210
   simp only [Option.some.injEq, Prod.mk.injEq] at H
   obtain ⟨rfl, rfl, rfl, rfl⟩ := H
   go_wp2_with (first | ((with_reducible refine gate_callee (f := 45) rfl ?_); refine goesL_ (some 24) rfl rfl Tryd.func45 (by kernel_rfl) rfl #[.pointer (some ⟨g0, 0, none⟩), .int .i64 t166] rfl (map2 rfl rfl) ?_; (with_reducible refine (text_Map_End.calls g0 A0_0 c0_0 l0_0 (some ad167) c0_1 l0_1 t166 t168 _ ?side1 ?side2 ?side3 ?side4 ?side5 A10.out).mono ?_); (case side1 => exact BK0.out); (case side2 => repeat (first | exact (Kd.C_below HR0_0.out HB.out) | with_reducible first | refine Kd.C_drewN ?_ _ | refine Kd.C_drew ?_ | refine Kd.C_alloc ?_ _)); (case side3 => exact HC0_0.out); (case side4 => repeat (first | exact (Kd.C_below HR0_1.out HB.out) | with_reducible first | refine Kd.C_drewN ?_ _ | refine Kd.C_drew ?_ | refine Kd.C_alloc ?_ _)); (case side5 => exact HC0_1.out); rintro e w' ⟨rfl, ⟨nd, rfl⟩⟩; refine ⟨_, rfl, ?_⟩; (try (rw [drewN_self wr]; generalize hq_ : World.drewN wr _ = wr; have n0_ : Aside0 (wr.heap[g0]? = some (.cells #[.slice A0_0 l0_0.length c0_0, .slice (some ad167) l0_1.length c0_1] 66 (0, 0))) := ⟨by rw [← hq_]; exact (by exact BK0.out)⟩; have n1_ : Aside0 (wr.heap[gb165]? = some (.cells #[.int .i64 x166000_1, .int .i64 x166001_1, .bool x166002_1] 35 (0, 0))) := ⟨by rw [← hq_]; exact (by exact BK165.out)⟩; have n2_ : Aside0 (Below w.heap.size w wr) := ⟨by rw [← hq_]; exact (by repeat with_reducible first | exact HB.out | apply pw_below_drewN | apply below_drew1 | apply below_alloc)⟩; clear BK0 BK165 HB hq_; have BK0 := n0_; have BK165 := n1_; have HB := n2_; clear n0_ n1_ n2_)); have hnb22 := NB0_165.out; have hnc22 := NB165_0.out; have hcz23_0 := cz0 BK0.out; have hcz23_1 := cz1 BK0.out; have hfz23_0 := blk_frozen BK0.out 0; have hfz23_1 := blk_frozen BK0.out 1; have p169 : 0 ≤ (x10_1 : Int) := of_decide_eq_true (by assumption); have q169 : x10_1 < (l0_0.length : Int) := of_decide_eq_true (by assumption); obtain ⟨ad169, e169, hx169_0⟩ := Kd.at_int HR0_0.out x10_1 p169 q169; cases e169; replace hx169_0 := (HB.out.cell (World.block_lt_of_cell? w _ hx169_0)).trans hx169_0; replace p169 := eq_true p169; replace q169 := eq_true q169) | ((with_reducible refine gate_callee (f := 34) rfl ?_); refine goesL_ (some 31) rfl rfl Tryd.func34 (by kernel_rfl) rfl #[.int .i64 x9_1, .int .i64 x10_1, .int .i64 a2] rfl (map3 rfl rfl rfl) ?_; (with_reducible refine (object_inner.calls x9_1 x10_1 a2 t170 t171 t172 _ A21.out).mono ?_); rintro e w24 ⟨rfl, hb⟩; refine ⟨_, rfl, ?_⟩; have n0_ := Aside0.mk (blb hb BK0.out); have n1_ := Aside0.mk (blb hb BK165.out); have n2_ := Aside0.mk (below_step (by repeat with_reducible first | exact HB.out | apply pw_below_drewN | apply below_drew1 | apply below_alloc) hb); clear BK0; clear BK165; clear HB; have BK0 := n0_; have BK165 := n1_; have HB := n2_; clear n0_ n1_ n2_; (try clear hb); (try clear hb2); (try clear hk); (try clear hi); have hcz25_0 := cz0 BK165.out; have hcz25_1 := cz1 BK165.out; have hcz25_2 := cz2 BK165.out; have hfz25_0 := blk_frozen BK165.out 0; have hfz25_1 := blk_frozen BK165.out 1; have hfz25_2 := blk_frozen BK165.out 2))
   refine bodyPost_ret (results_ct rfl _ _ gb165 35 #[.int .i64 t170, .int .i64 t171, .bool t172] (0, 0) _ rfl (by (with_reducible repeat (first | refine blk_drewN ?_ _ | refine blk_drew ?_ | refine blk_alloc ?_ _)); refine blk_put (cs := #[.int .i64 t170, .int .i64 t171, .bool x166002_1]) ?_ 2 _ rfl; (with_reducible repeat (first | refine blk_drewN ?_ _ | refine blk_drew ?_ | refine blk_alloc ?_ _)); refine blk_put (cs := #[.int .i64 t170, .int .i64 x166001_1, .bool x166002_1]) ?_ 1 _ rfl; (with_reducible repeat (first | refine blk_drewN ?_ _ | refine blk_drew ?_ | refine blk_alloc ?_ _)); refine blk_put (cs := #[.int .i64 x166000_1, .int .i64 x166001_1, .bool x166002_1]) ?_ 0 _ rfl; (with_reducible repeat (first | refine blk_drewN ?_ _ | refine blk_drew ?_ | refine blk_alloc ?_ _)); exact BK165.out) Tryd.underlying35 rfl (by kernel_rfl)) rfl ?_
   exact ⟨by first | rfl | (simp [errW_none, errW_some] <;> rfl) | (simp [*, errW_none, errW_some] <;> rfl), by repeat with_reducible first | exact HB.out | apply pw_below_drewN | refine below_set ?_ GE165.out | apply below_drew1 | apply below_alloc⟩

/-! ### object_para_1: function 49 -/
def object_para_1.f (a0 : Int) (l1_0 : List Int) (l1_1 : List Int) : Option (Bool) := if 0 ≤ a0 then (if a0 < (l1_1.length : Int) then ((text_Map_End.f l1_0 l1_1 a0).bind fun t174 => (some ((rd l1_1 a0) == t174))) else (none)) else (none)
set_option maxHeartbeats 8000000 in
set_option maxRecDepth 100000 in
theorem object_para_1.calls (a0 : Int) (g1 : Nat) (g1m : Nat) (A1_0 : Option Addr) (c1_0 : Nat) (l1_0 : List Int) (A1_1 : Option Addr) (c1_1 : Nat) (l1_1 : List Int) (r : Bool) (w : World) (hg1 : w.heap[g1]? = some (.cells #[.slice A1_0 l1_0.length c1_0, .slice A1_1 l1_1.length c1_1] 66 (0, 0))) (hg1m : w.heap[g1m]? = some (.cells #[.pointer (some ⟨g1, 0, none⟩)] 49 (0, 0))) (hr1_0 : Kd.C (Kd.int .i32) w A1_0 l1_0.length l1_0) (hc1_0 : l1_0.length ≤ c1_0) (hr1_1 : Kd.C (Kd.int .i64) w A1_1 l1_1.length l1_1) (hc1_1 : l1_1.length ≤ c1_1) (h : object_para_1.f a0 l1_0 l1_1 = some r) :
  Calls Tryd.prog 49 #[.int .i64 a0, .pointer (some ⟨g1m, 0, none⟩)] w fun e w' => e = .returned (.bool r) ∧ Drawn0 w w' := by
 have BK1 := Aside0.mk hg1
 clear hg1
 have BK90001 := Aside0.mk hg1m
 clear hg1m
 have HR1_0 := Aside0.mk hr1_0
 have HC1_0 := Aside0.mk hc1_0
 clear hr1_0 hc1_0
 have HR1_1 := Aside0.mk hr1_1
 have HC1_1 := Aside0.mk hc1_1
 clear hr1_1 hc1_1
 have H : (if 0 ≤ a0 then (if a0 < (l1_1.length : Int) then ((text_Map_End.f l1_0 l1_1 a0).bind fun t174 => (some ((rd l1_1 a0) == t174))) else (none)) else (none)) = some r := h
 clear h
 by_cases c3 : 0 ≤ a0
 rotate_left
 ·
  rw [if_neg c3] at H
  exact absurd H (by simp)
 rw [if_pos c3] at H
 have c3b0 := decide_eq_true c3
 clear c3
 by_cases c4 : a0 < (l1_1.length : Int)
 rotate_left
 ·
  rw [if_neg c4] at H
  exact absurd H (by simp)
 rw [if_pos c4] at H
 have c4b0 := decide_eq_true c4
 clear c4
 replace H := Option.bind_eq_some_iff.mp H
 obtain ⟨t174, A50, H⟩ := H
 (try dsimp only at H)
 have A5 := Aside0.mk A50
 clear A50
 obtain rfl := Option.some.inj H
 have hcz6_0 := cz0 BK90001.out
 have hfz6_0 := blk_frozen BK90001.out 0
 have hcz7_0 := cz0 BK1.out
 have hcz7_1 := cz1 BK1.out
 have hfz7_0 := blk_frozen BK1.out 0
 have hfz7_1 := blk_frozen BK1.out 1
 have p173 : 0 ≤ (a0 : Int) := of_decide_eq_true (by assumption)
 have q173 : a0 < (l1_1.length : Int) := of_decide_eq_true (by assumption)
 obtain ⟨ad173, e173, hx173_0⟩ := Kd.at_int HR1_1.out a0 p173 q173
 cases e173
 replace p173 := eq_true p173
 replace q173 := eq_true q173
 go_enter Tryd.func49, Tryd.ntmps49
 go_wp2_with (first | (go_at_call 45; (with_reducible refine (text_Map_End.calls g1 A1_0 c1_0 l1_0 (some ad173) c1_1 l1_1 a0 t174 _ ?side1 ?side2 ?side3 ?side4 ?side5 A5.out).mono ?_); (case side1 => exact BK1.out); (case side2 => repeat (first | exact HR1_0.out | with_reducible first | refine Kd.C_drewN ?_ _ | refine Kd.C_drew ?_ | refine Kd.C_alloc ?_ _)); (case side3 => exact HC1_0.out); (case side4 => repeat (first | exact HR1_1.out | with_reducible first | refine Kd.C_drewN ?_ _ | refine Kd.C_drew ?_ | refine Kd.C_alloc ?_ _)); (case side5 => exact HC1_1.out); rintro e w' ⟨rfl, ⟨nd, rfl⟩⟩; (try first | exact ⟨rfl, _, World.drewN_drewN _ _ _⟩ | exact ⟨rfl, _, Eq.trans (World.drewN_drewN _ _ _) (congrArg (World.drewN _) (Nat.add_assoc _ _ _))⟩)))
 repeat (go_quiet (first | (go_at_call 45; (with_reducible refine (text_Map_End.calls g1 A1_0 c1_0 l1_0 (some ad173) c1_1 l1_1 a0 t174 _ ?side1 ?side2 ?side3 ?side4 ?side5 A5.out).mono ?_); (case side1 => exact BK1.out); (case side2 => repeat (first | exact HR1_0.out | with_reducible first | refine Kd.C_drewN ?_ _ | refine Kd.C_drew ?_ | refine Kd.C_alloc ?_ _)); (case side3 => exact HC1_0.out); (case side4 => repeat (first | exact HR1_1.out | with_reducible first | refine Kd.C_drewN ?_ _ | refine Kd.C_drew ?_ | refine Kd.C_alloc ?_ _)); (case side5 => exact HC1_1.out); rintro e w' ⟨rfl, ⟨nd, rfl⟩⟩; (try first | exact ⟨rfl, _, World.drewN_drewN _ _ _⟩ | exact ⟨rfl, _, Eq.trans (World.drewN_drewN _ _ _) (congrArg (World.drewN _) (Nat.add_assoc _ _ _))⟩))); try go_wp2_with (first | (go_at_call 45; (with_reducible refine (text_Map_End.calls g1 A1_0 c1_0 l1_0 (some ad173) c1_1 l1_1 a0 t174 _ ?side1 ?side2 ?side3 ?side4 ?side5 A5.out).mono ?_); (case side1 => exact BK1.out); (case side2 => repeat (first | exact HR1_0.out | with_reducible first | refine Kd.C_drewN ?_ _ | refine Kd.C_drew ?_ | refine Kd.C_alloc ?_ _)); (case side3 => exact HC1_0.out); (case side4 => repeat (first | exact HR1_1.out | with_reducible first | refine Kd.C_drewN ?_ _ | refine Kd.C_drew ?_ | refine Kd.C_alloc ?_ _)); (case side5 => exact HC1_1.out); rintro e w' ⟨rfl, ⟨nd, rfl⟩⟩; (try first | exact ⟨rfl, _, World.drewN_drewN _ _ _⟩ | exact ⟨rfl, _, Eq.trans (World.drewN_drewN _ _ _) (congrArg (World.drewN _) (Nat.add_assoc _ _ _))⟩))))
 go_ret
 exact ⟨by first | rfl | (simp; done) | (simp [*]; done), by repeat (first | exact Drawn0.refl _ | apply Drawn0.step)⟩

end Go.Proofs.YtgikaemhhaejoaaDoor.P
