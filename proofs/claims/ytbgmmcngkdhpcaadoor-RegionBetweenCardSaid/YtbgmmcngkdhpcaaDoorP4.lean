/- The walks of the functions that these statements reach: each Go function as a plain Lean function, and the proof that its call comes to that. Written by the session's program wip/pp.py. -/
import Derived.Test.YtbgmmcngkdhpcaaDoorP0
import Derived.Test.YtbgmmcngkdhpcaaDoorP3
namespace Go.Proofs.YtbgmmcngkdhpcaaDoor.P
open Go.Proofs.YtbgmmcngkdhpcaaDoor
open Go.RowKit Go.Proofs.YtbgmmcngkdhpcaaDoorW.PrintWords Go.Proofs.YtbgmmcngkdhpcaaDoorW.PrintLast Go.Proofs.YtbgmmcngkdhpcaaDoorW.PrintMore
attribute [local go_sem] cell_isSome max2_int min2_int max_two min_two max_three min_three max_four min_four   -- for this text's walks alone
set_option linter.unusedVariables false
set_option linter.unusedSimpArgs false

/-! ### quillref15_Between: function 13 -/
def quillref15_Between.f (k : Nat) (l0 : List Int) (a1 : Int) (a2 : Int) (a3 : Int) : Option (Int × Int × Bool) := if a3 = 1 then (if (mx a1 a2) < (l0.length : Int) then (if 0 ≤ (mx a1 a2) then (if (rd l0 (mx a1 a2)) = 10 then (some (mn a1 a2, mx a1 a2, false)) else (some (mn a1 a2, wrap64 ((mx a1 a2) + 1), false))) else (none)) else (some (mn a1 a2, mx a1 a2, false))) else (if a3 = 2 then ((quillref1_Begin.f k l0 (mn a1 a2)).bind fun t159 => ((quillref1_End.f k l0 (mx a1 a2)).bind fun t160 => (some (t159, t160, true)))) else (some (mn a1 a2, mx a1 a2, false)))
theorem quillref15_Between.mono : ∀ a0 a1 a2 a3 k, LeO (quillref15_Between.f k a0 a1 a2 a3) (quillref15_Between.f (k + 1) a0 a1 a2 a3) := by
  intro a0 a1 a2 a3 k
  unfold quillref15_Between.f
  repeat' first | (with_reducible first | exact quillref1_Begin.mono _ _ _ | exact quillref1_End.mono _ _ _ | exact LeO.refl _ | exact LeO.none _ | refine LeO.ite ?_ ?_ | refine LeO.bind ?_ (fun _ => ?_)) | exact quillref1_Begin.mono _ _ _ | exact quillref1_End.mono _ _ _ | exact LeO.refl _ | exact LeO.none _ | refine LeO.ite ?_ ?_ | refine LeO.bind ?_ (fun _ => ?_)
def quillref15_Between.T7 : Bool × List (List Nat × List Nat) := (true, [([], []), ([], []), ([1], [1]), ([0, 2], [0, 2]), ([], []), ([], []), ([5], [5]), ([4, 6, 3], [4, 6]), ([3, 7], [3, 7]), ([8, 7, 0, 1, 2, 3, 4, 5, 6, 7, 8], [8])])
def quillref15_Between.B7 : List Nat := [0, 0, 2, 7, 0, 0, 32, 127, 255, 511]
theorem quillref15_Between.tab7 : rtab .any (opsOf Tryd.f13 7) = quillref15_Between.T7 := by kernel_rfl
theorem quillref15_Between.bits7 : waitsOk quillref15_Between.T7.2 quillref15_Between.B7 = true := by kernel_rfl
set_option maxHeartbeats 8000000 in
set_option maxRecDepth 100000 in
theorem quillref15_Between.calls (k : Nat) (A0 : Option Addr) (c0 : Nat) (l0 : List Int) (a1 : Int) (a2 : Int) (a3 : Int) (r1 : Int) (r2 : Int) (r3 : Bool) (w : World) (hr0 : Kd.C (Kd.int .i32) w A0 l0.length l0) (hc0 : l0.length ≤ c0) (h : quillref15_Between.f k l0 a1 a2 a3 = some (r1, r2, r3)) :
  Calls Tryd.prog 13 #[.slice A0 l0.length c0, .int .i64 a1, .int .i64 a2, .int .i64 a3] w fun e w' => e = .returned (.agg #[.int .i64 r1, .int .i64 r2, .bool r3]) ∧ Below w.heap.size w w' := by
 have hu40 := Tryd.underlying40
 have HR0 := Aside0.mk hr0
 have HC0 := Aside0.mk hc0
 clear hr0 hc0
 have HB := Aside0.mk (Below.refl w.heap.size w)
 have H : (if a3 = 1 then (if (mx a1 a2) < (l0.length : Int) then (if 0 ≤ (mx a1 a2) then (if (rd l0 (mx a1 a2)) = 10 then (some (mn a1 a2, mx a1 a2, false)) else (some (mn a1 a2, wrap64 ((mx a1 a2) + 1), false))) else (none)) else (some (mn a1 a2, mx a1 a2, false))) else (if a3 = 2 then ((quillref1_Begin.f k l0 (mn a1 a2)).bind fun t159 => ((quillref1_End.f k l0 (mx a1 a2)).bind fun t160 => (some (t159, t160, true)))) else (some (mn a1 a2, mx a1 a2, false)))) = some (r1, r2, r3) := h
 clear h
 obtain ⟨ji5, hji5⟩ : ∃ j_ : Int, (mn a1 a2) = j_ := ⟨_, rfl⟩
 replace H : (if a3 = 1 then (if (mx a1 a2) < (l0.length : Int) then (if 0 ≤ (mx a1 a2) then (if (rd l0 (mx a1 a2)) = 10 then (some (ji5, mx a1 a2, false)) else (some (ji5, wrap64 ((mx a1 a2) + 1), false))) else (none)) else (some (ji5, mx a1 a2, false))) else (if a3 = 2 then ((quillref1_Begin.f k l0 (ji5)).bind fun t159 => ((quillref1_End.f k l0 (mx a1 a2)).bind fun t160 => (some (t159, t160, true)))) else (some (ji5, mx a1 a2, false)))) = some (r1, r2, r3) := by first | (rw [hji5] at H; exact H) | (simp only [hji5] at H ⊢; exact H)
 have hji5_ : (if a2 < a1 then a2 else a1) = ji5 := hji5
 obtain ⟨ji6, hji6⟩ : ∃ j_ : Int, (mx a1 a2) = j_ := ⟨_, rfl⟩
 replace H : (if a3 = 1 then (if (ji6) < (l0.length : Int) then (if 0 ≤ (ji6) then (if (rd l0 (ji6)) = 10 then (some (ji5, ji6, false)) else (some (ji5, wrap64 ((ji6) + 1), false))) else (none)) else (some (ji5, ji6, false))) else (if a3 = 2 then ((quillref1_Begin.f k l0 (ji5)).bind fun t159 => ((quillref1_End.f k l0 (ji6)).bind fun t160 => (some (t159, t160, true)))) else (some (ji5, ji6, false)))) = some (r1, r2, r3) := by first | (rw [hji6] at H; exact H) | (simp only [hji6] at H ⊢; exact H)
 have hji6_ : (if a1 < a2 then a2 else a1) = ji6 := hji6
 by_cases c7 : a3 = 1
 ·
  rw [if_pos c7] at H
  have c7b0 : (a3 == 1) = true := beq_iff_eq.mpr c7
  have c7b1 : (a3 != 1) = false := bne_eq_false_iff_eq.mpr c7
  clear c7
  by_cases c8 : (ji6) < (l0.length : Int)
  rotate_left
  ·
   rw [if_neg c8] at H
   have c8b0 := decide_eq_false c8
   clear c8
   simp only [Option.some.injEq, Prod.mk.injEq] at H
   obtain ⟨rfl, rfl, rfl⟩ := H
   go_enter Tryd.func13, Tryd.ntmps13
   go_wp2_with (first | ((with_reducible refine gate_dst (N := 8) rfl ?_); refine box_event ?hg (N := 8) ?hd (cs := #[.int .i64 0, .int .i64 0, .bool false]) (t := 40) ?hr ?_; (case hd => rfl); (case hg => rfl); (case hr => first | (go_simp; done) | (go_simp; rfl)); intro gb156 hg w21 hbox hb; have n0_ := Aside0.mk (below_step (by repeat with_reducible first | exact HB.out | apply pw_below_drewN | apply below_drew1 | apply below_alloc) hb); have n1_ := Aside0.mk (hbox); have n2_ := Aside0.mk (geb hg (by repeat with_reducible first | exact HB.out | apply pw_below_drewN | apply below_drew1 | apply below_alloc)); have n3_ := n2_; clear HB; have HB := n0_; have BK156 := n1_; have GW156 := n2_; have GE156 := n3_; clear n0_ n1_ n2_ n3_; clear hb hbox hg) | ((with_reducible refine gate_dst (N := 9) rfl ?_); refine box_event ?hg (N := 9) ?hd (cs := #[.int .i64 0, .int .i64 0, .bool false]) (t := 40) ?hr ?_; (case hd => rfl); (case hg => rfl); (case hr => first | (go_simp; done) | (go_simp; rfl)); intro gb157 hg w22 hbox hb; have n0_ := Aside0.mk (blb hb BK156.out); have n1_ := Aside0.mk (below_step (by repeat with_reducible first | exact HB.out | apply pw_below_drewN | refine below_set ?_ GE156.out | apply below_drew1 | apply below_alloc) hb); have n2_ := Aside0.mk (hbox); have n3_ := Aside0.mk (geb hg (by repeat with_reducible first | exact HB.out | apply pw_below_drewN | refine below_set ?_ GE156.out | apply below_drew1 | apply below_alloc)); have n4_ := n3_; have n5_ := Aside0.mk ((nbl hg BK156.out)); have n6_ := Aside0.mk ((nbr hg BK156.out)); clear BK156; clear HB; have BK156 := n0_; have HB := n1_; have BK157 := n2_; have GW157 := n3_; have GE157 := n4_; have NB156_157 := n5_; have NB157_156 := n6_; clear n0_ n1_ n2_ n3_ n4_ n5_ n6_; clear hb hbox hg; have hnb23 := NB157_156.out; have hnc23 := NB156_157.out; have hcz24_0 := cz0 BK157.out; have hcz24_1 := cz1 BK157.out; have hcz24_2 := cz2 BK157.out; have hfz24_0 := blk_frozen BK157.out 0; have hfz24_1 := blk_frozen BK157.out 1; have hfz24_2 := blk_frozen BK157.out 2; have hcz25_0 := cz0 BK156.out; have hcz25_1 := cz1 BK156.out; have hcz25_2 := cz2 BK156.out; have hfz25_0 := blk_frozen BK156.out 0; have hfz25_1 := blk_frozen BK156.out 1; have hfz25_2 := blk_frozen BK156.out 2))
   refine bodyPost_ret (results_cell_row rfl _ _ gb156 40 #[.int .i64 ji5, .int .i64 ji6, .bool false] (0, 0) _ rfl (by (with_reducible repeat (first | refine blk_drewN ?_ _ | refine blk_drew ?_ | refine blk_alloc ?_ _)); refine blk_put (cs := #[.int .i64 ji5, .int .i64 ji6, .bool false]) ?_ 2 _ rfl; (with_reducible repeat (first | refine blk_drewN ?_ _ | refine blk_drew ?_ | refine blk_alloc ?_ _)); refine blk_put (cs := #[.int .i64 ji5, .int .i64 0, .bool false]) ?_ 1 _ rfl; (with_reducible repeat (first | refine blk_drewN ?_ _ | refine blk_drew ?_ | refine blk_alloc ?_ _)); refine blk_put (cs := #[.int .i64 0, .int .i64 0, .bool false]) ?_ 0 _ rfl; (with_reducible repeat (first | refine blk_drewN ?_ _ | refine blk_drew ?_ | refine blk_alloc ?_ _)); refine blk_far ?_ NB156_157.out _; (with_reducible repeat (first | refine blk_drewN ?_ _ | refine blk_drew ?_ | refine blk_alloc ?_ _)); refine blk_far ?_ NB156_157.out _; (with_reducible repeat (first | refine blk_drewN ?_ _ | refine blk_drew ?_ | refine blk_alloc ?_ _)); refine blk_far ?_ NB156_157.out _; (with_reducible repeat (first | refine blk_drewN ?_ _ | refine blk_drew ?_ | refine blk_alloc ?_ _)); exact BK156.out) Tryd.underlying40 rfl (by kernel_rfl)) rfl ?_
   exact ⟨by first | rfl | (simp [errW_none, errW_some] <;> rfl) | (simp only [← hji5, ← hji6]; first | rfl | (simp [errW_none, errW_some] <;> rfl)) | (simp [*, errW_none, errW_some] <;> rfl), by repeat with_reducible first | exact HB.out | apply pw_below_drewN | refine below_set ?_ GE156.out | refine below_set ?_ GE157.out | apply below_drew1 | apply below_alloc⟩
  rw [if_pos c8] at H
  have c8b0 := decide_eq_true c8
  clear c8
  by_cases c9 : 0 ≤ (ji6)
  rotate_left
  ·
   rw [if_neg c9] at H
   exact absurd H (by simp)
  rw [if_pos c9] at H
  have c9b0 := decide_eq_true c9
  clear c9
  by_cases c10 : (rd l0 (ji6)) = 10
  ·
   rw [if_pos c10] at H
   have c10b0 : ((rd l0 (ji6)) == 10) = true := beq_iff_eq.mpr c10
   have c10b1 : ((rd l0 (ji6)) != 10) = false := bne_eq_false_iff_eq.mpr c10
   clear c10
   simp only [Option.some.injEq, Prod.mk.injEq] at H
   obtain ⟨rfl, rfl, rfl⟩ := H
   go_enter Tryd.func13, Tryd.ntmps13
   go_wp2_with (first | ((with_reducible refine gate_dst (N := 8) rfl ?_); refine box_event ?hg (N := 8) ?hd (cs := #[.int .i64 0, .int .i64 0, .bool false]) (t := 40) ?hr ?_; (case hd => rfl); (case hg => rfl); (case hr => first | (go_simp; done) | (go_simp; rfl)); intro gb156 hg w11 hbox hb; have n0_ := Aside0.mk (below_step (by repeat with_reducible first | exact HB.out | apply pw_below_drewN | apply below_drew1 | apply below_alloc) hb); have n1_ := Aside0.mk (hbox); have n2_ := Aside0.mk (geb hg (by repeat with_reducible first | exact HB.out | apply pw_below_drewN | apply below_drew1 | apply below_alloc)); have n3_ := n2_; clear HB; have HB := n0_; have BK156 := n1_; have GW156 := n2_; have GE156 := n3_; clear n0_ n1_ n2_ n3_; clear hb hbox hg) | ((with_reducible refine gate_dst (N := 9) rfl ?_); refine box_event ?hg (N := 9) ?hd (cs := #[.int .i64 0, .int .i64 0, .bool false]) (t := 40) ?hr ?_; (case hd => rfl); (case hg => rfl); (case hr => first | (go_simp; done) | (go_simp; rfl)); intro gb157 hg w12 hbox hb; have n0_ := Aside0.mk (blb hb BK156.out); have n1_ := Aside0.mk (below_step (by repeat with_reducible first | exact HB.out | apply pw_below_drewN | refine below_set ?_ GE156.out | apply below_drew1 | apply below_alloc) hb); have n2_ := Aside0.mk (hbox); have n3_ := Aside0.mk (geb hg (by repeat with_reducible first | exact HB.out | apply pw_below_drewN | refine below_set ?_ GE156.out | apply below_drew1 | apply below_alloc)); have n4_ := n3_; have n5_ := Aside0.mk ((nbl hg BK156.out)); have n6_ := Aside0.mk ((nbr hg BK156.out)); clear BK156; clear HB; have BK156 := n0_; have HB := n1_; have BK157 := n2_; have GW157 := n3_; have GE157 := n4_; have NB156_157 := n5_; have NB157_156 := n6_; clear n0_ n1_ n2_ n3_ n4_ n5_ n6_; clear hb hbox hg; have hnb13 := NB157_156.out; have hnc13 := NB156_157.out; have hcz14_0 := cz0 BK157.out; have hcz14_1 := cz1 BK157.out; have hcz14_2 := cz2 BK157.out; have hfz14_0 := blk_frozen BK157.out 0; have hfz14_1 := blk_frozen BK157.out 1; have hfz14_2 := blk_frozen BK157.out 2; have p158 : 0 ≤ ((ji6) : Int) := of_decide_eq_true (by assumption); have q158 : (ji6) < (l0.length : Int) := of_decide_eq_true (by assumption); obtain ⟨ad158, e158, hx158_0⟩ := Kd.at_int HR0.out (ji6) p158 q158; cases e158; have hn158_0 : ad158.block ≠ gb157 := Nat.ne_of_lt (Nat.lt_of_lt_of_le (by have := World.block_lt_of_cell? _ _ hx158_0; first | rwa [add_block] at this | exact this) GW157.out); have hn158_1 : ad158.block ≠ gb157 := Nat.ne_of_lt (Nat.lt_of_lt_of_le (by have := World.block_lt_of_cell? _ _ hx158_0; first | rwa [add_block] at this | exact this) GW157.out); have hn158_2 : ad158.block ≠ gb157 := Nat.ne_of_lt (Nat.lt_of_lt_of_le (by have := World.block_lt_of_cell? _ _ hx158_0; first | rwa [add_block] at this | exact this) GW157.out); replace hx158_0 := (HB.out.cell (World.block_lt_of_cell? w _ hx158_0)).trans hx158_0; replace hx158_0 := (cell_far (p := ⟨gb157, 0, none⟩) (by first | (rw [add_block]; exact hn158_0) | (show (Addr.add _ _).block ≠ _; rw [add_block]; exact hn158_0) | exact hn158_0) (.int .i64 ji5)).trans hx158_0; replace hx158_0 := (cell_far (p := ⟨gb157, 1, none⟩) (by first | (rw [add_block]; exact hn158_1) | (show (Addr.add _ _).block ≠ _; rw [add_block]; exact hn158_1) | exact hn158_1) (.int .i64 ji6)).trans hx158_0; replace hx158_0 := (cell_far (p := ⟨gb157, 2, none⟩) (by first | (rw [add_block]; exact hn158_2) | (show (Addr.add _ _).block ≠ _; rw [add_block]; exact hn158_2) | exact hn158_2) (.bool false)).trans hx158_0; clear hn158_0; clear hn158_1; clear hn158_2; replace p158 := eq_true p158; replace q158 := eq_true q158; have hcz15_0 := cz0 BK156.out; have hcz15_1 := cz1 BK156.out; have hcz15_2 := cz2 BK156.out; have hfz15_0 := blk_frozen BK156.out 0; have hfz15_1 := blk_frozen BK156.out 1; have hfz15_2 := blk_frozen BK156.out 2))
   refine bodyPost_ret (results_cell_row rfl _ _ gb156 40 #[.int .i64 ji5, .int .i64 ji6, .bool false] (0, 0) _ rfl (by (with_reducible repeat (first | refine blk_drewN ?_ _ | refine blk_drew ?_ | refine blk_alloc ?_ _)); refine blk_put (cs := #[.int .i64 ji5, .int .i64 ji6, .bool false]) ?_ 2 _ rfl; (with_reducible repeat (first | refine blk_drewN ?_ _ | refine blk_drew ?_ | refine blk_alloc ?_ _)); refine blk_put (cs := #[.int .i64 ji5, .int .i64 0, .bool false]) ?_ 1 _ rfl; (with_reducible repeat (first | refine blk_drewN ?_ _ | refine blk_drew ?_ | refine blk_alloc ?_ _)); refine blk_put (cs := #[.int .i64 0, .int .i64 0, .bool false]) ?_ 0 _ rfl; (with_reducible repeat (first | refine blk_drewN ?_ _ | refine blk_drew ?_ | refine blk_alloc ?_ _)); refine blk_far ?_ NB156_157.out _; (with_reducible repeat (first | refine blk_drewN ?_ _ | refine blk_drew ?_ | refine blk_alloc ?_ _)); refine blk_far ?_ NB156_157.out _; (with_reducible repeat (first | refine blk_drewN ?_ _ | refine blk_drew ?_ | refine blk_alloc ?_ _)); refine blk_far ?_ NB156_157.out _; (with_reducible repeat (first | refine blk_drewN ?_ _ | refine blk_drew ?_ | refine blk_alloc ?_ _)); exact BK156.out) Tryd.underlying40 rfl (by kernel_rfl)) rfl ?_
   exact ⟨by first | rfl | (simp [errW_none, errW_some] <;> rfl) | (simp only [← hji5, ← hji6]; first | rfl | (simp [errW_none, errW_some] <;> rfl)) | (simp [*, errW_none, errW_some] <;> rfl), by repeat with_reducible first | exact HB.out | apply pw_below_drewN | refine below_set ?_ GE156.out | refine below_set ?_ GE157.out | apply below_drew1 | apply below_alloc⟩
  rw [if_neg c10] at H
  have c10b0 : ((rd l0 (ji6)) == 10) = false := beq_eq_false_iff_ne.mpr c10
  have c10b1 : ((rd l0 (ji6)) != 10) = true := bne_iff_ne.mpr c10
  simp only [Option.some.injEq, Prod.mk.injEq] at H
  obtain ⟨rfl, rfl, rfl⟩ := H
  go_enter Tryd.func13, Tryd.ntmps13
  go_wp2_with (first | ((with_reducible refine gate_dst (N := 8) rfl ?_); refine box_event ?hg (N := 8) ?hd (cs := #[.int .i64 0, .int .i64 0, .bool false]) (t := 40) ?hr ?_; (case hd => rfl); (case hg => rfl); (case hr => first | (go_simp; done) | (go_simp; rfl)); intro gb156 hg w16 hbox hb; have n0_ := Aside0.mk (below_step (by repeat with_reducible first | exact HB.out | apply pw_below_drewN | apply below_drew1 | apply below_alloc) hb); have n1_ := Aside0.mk (hbox); have n2_ := Aside0.mk (geb hg (by repeat with_reducible first | exact HB.out | apply pw_below_drewN | apply below_drew1 | apply below_alloc)); have n3_ := n2_; clear HB; have HB := n0_; have BK156 := n1_; have GW156 := n2_; have GE156 := n3_; clear n0_ n1_ n2_ n3_; clear hb hbox hg) | ((with_reducible refine gate_dst (N := 9) rfl ?_); refine box_event ?hg (N := 9) ?hd (cs := #[.int .i64 0, .int .i64 0, .bool false]) (t := 40) ?hr ?_; (case hd => rfl); (case hg => rfl); (case hr => first | (go_simp; done) | (go_simp; rfl)); intro gb157 hg w17 hbox hb; have n0_ := Aside0.mk (blb hb BK156.out); have n1_ := Aside0.mk (below_step (by repeat with_reducible first | exact HB.out | apply pw_below_drewN | refine below_set ?_ GE156.out | apply below_drew1 | apply below_alloc) hb); have n2_ := Aside0.mk (hbox); have n3_ := Aside0.mk (geb hg (by repeat with_reducible first | exact HB.out | apply pw_below_drewN | refine below_set ?_ GE156.out | apply below_drew1 | apply below_alloc)); have n4_ := n3_; have n5_ := Aside0.mk ((nbl hg BK156.out)); have n6_ := Aside0.mk ((nbr hg BK156.out)); clear BK156; clear HB; have BK156 := n0_; have HB := n1_; have BK157 := n2_; have GW157 := n3_; have GE157 := n4_; have NB156_157 := n5_; have NB157_156 := n6_; clear n0_ n1_ n2_ n3_ n4_ n5_ n6_; clear hb hbox hg; have hnb18 := NB157_156.out; have hnc18 := NB156_157.out; have hcz19_0 := cz0 BK157.out; have hcz19_1 := cz1 BK157.out; have hcz19_2 := cz2 BK157.out; have hfz19_0 := blk_frozen BK157.out 0; have hfz19_1 := blk_frozen BK157.out 1; have hfz19_2 := blk_frozen BK157.out 2; have p158 : 0 ≤ ((ji6) : Int) := of_decide_eq_true (by assumption); have q158 : (ji6) < (l0.length : Int) := of_decide_eq_true (by assumption); obtain ⟨ad158, e158, hx158_0⟩ := Kd.at_int HR0.out (ji6) p158 q158; cases e158; have hn158_0 : ad158.block ≠ gb157 := Nat.ne_of_lt (Nat.lt_of_lt_of_le (by have := World.block_lt_of_cell? _ _ hx158_0; first | rwa [add_block] at this | exact this) GW157.out); have hn158_1 : ad158.block ≠ gb157 := Nat.ne_of_lt (Nat.lt_of_lt_of_le (by have := World.block_lt_of_cell? _ _ hx158_0; first | rwa [add_block] at this | exact this) GW157.out); have hn158_2 : ad158.block ≠ gb157 := Nat.ne_of_lt (Nat.lt_of_lt_of_le (by have := World.block_lt_of_cell? _ _ hx158_0; first | rwa [add_block] at this | exact this) GW157.out); replace hx158_0 := (HB.out.cell (World.block_lt_of_cell? w _ hx158_0)).trans hx158_0; replace hx158_0 := (cell_far (p := ⟨gb157, 0, none⟩) (by first | (rw [add_block]; exact hn158_0) | (show (Addr.add _ _).block ≠ _; rw [add_block]; exact hn158_0) | exact hn158_0) (.int .i64 ji5)).trans hx158_0; replace hx158_0 := (cell_far (p := ⟨gb157, 1, none⟩) (by first | (rw [add_block]; exact hn158_1) | (show (Addr.add _ _).block ≠ _; rw [add_block]; exact hn158_1) | exact hn158_1) (.int .i64 ji6)).trans hx158_0; replace hx158_0 := (cell_far (p := ⟨gb157, 2, none⟩) (by first | (rw [add_block]; exact hn158_2) | (show (Addr.add _ _).block ≠ _; rw [add_block]; exact hn158_2) | exact hn158_2) (.bool false)).trans hx158_0; clear hn158_0; clear hn158_1; clear hn158_2; replace p158 := eq_true p158; replace q158 := eq_true q158; have hcz20_0 := cz0 BK156.out; have hcz20_1 := cz1 BK156.out; have hcz20_2 := cz2 BK156.out; have hfz20_0 := blk_frozen BK156.out 0; have hfz20_1 := blk_frozen BK156.out 1; have hfz20_2 := blk_frozen BK156.out 2))
  refine bodyPost_ret (results_cell_row rfl _ _ gb156 40 #[.int .i64 ji5, .int .i64 (wrap64 ((ji6) + 1)), .bool false] (0, 0) _ rfl (by (with_reducible repeat (first | refine blk_drewN ?_ _ | refine blk_drew ?_ | refine blk_alloc ?_ _)); refine blk_put (cs := #[.int .i64 ji5, .int .i64 (wrap64 ((ji6) + 1)), .bool false]) ?_ 2 _ rfl; (with_reducible repeat (first | refine blk_drewN ?_ _ | refine blk_drew ?_ | refine blk_alloc ?_ _)); refine blk_put (cs := #[.int .i64 ji5, .int .i64 0, .bool false]) ?_ 1 _ rfl; (with_reducible repeat (first | refine blk_drewN ?_ _ | refine blk_drew ?_ | refine blk_alloc ?_ _)); refine blk_put (cs := #[.int .i64 0, .int .i64 0, .bool false]) ?_ 0 _ rfl; (with_reducible repeat (first | refine blk_drewN ?_ _ | refine blk_drew ?_ | refine blk_alloc ?_ _)); refine blk_far ?_ NB156_157.out _; (with_reducible repeat (first | refine blk_drewN ?_ _ | refine blk_drew ?_ | refine blk_alloc ?_ _)); refine blk_far ?_ NB156_157.out _; (with_reducible repeat (first | refine blk_drewN ?_ _ | refine blk_drew ?_ | refine blk_alloc ?_ _)); refine blk_far ?_ NB156_157.out _; (with_reducible repeat (first | refine blk_drewN ?_ _ | refine blk_drew ?_ | refine blk_alloc ?_ _)); refine blk_far ?_ NB156_157.out _; (with_reducible repeat (first | refine blk_drewN ?_ _ | refine blk_drew ?_ | refine blk_alloc ?_ _)); exact BK156.out) Tryd.underlying40 rfl (by kernel_rfl)) rfl ?_
  exact ⟨by first | rfl | (simp [errW_none, errW_some] <;> rfl) | (simp only [← hji5, ← hji6]; first | rfl | (simp [errW_none, errW_some] <;> rfl)) | (simp [*, errW_none, errW_some] <;> rfl), by repeat with_reducible first | exact HB.out | apply pw_below_drewN | refine below_set ?_ GE156.out | refine below_set ?_ GE157.out | apply below_drew1 | apply below_alloc⟩
 rw [if_neg c7] at H
 have c7b0 : (a3 == 1) = false := beq_eq_false_iff_ne.mpr c7
 have c7b1 : (a3 != 1) = true := bne_iff_ne.mpr c7
 by_cases c26 : a3 = 2
 rotate_left
 ·
  rw [if_neg c26] at H
  have c26b0 : (a3 == 2) = false := beq_eq_false_iff_ne.mpr c26
  have c26b1 : (a3 != 2) = true := bne_iff_ne.mpr c26
  simp only [Option.some.injEq, Prod.mk.injEq] at H
  obtain ⟨rfl, rfl, rfl⟩ := H
  go_enter Tryd.func13, Tryd.ntmps13
  go_wp2_with (first | ((with_reducible refine gate_dst (N := 8) rfl ?_); refine box_event ?hg (N := 8) ?hd (cs := #[.int .i64 0, .int .i64 0, .bool false]) (t := 40) ?hr ?_; (case hd => rfl); (case hg => rfl); (case hr => first | (go_simp; done) | (go_simp; rfl)); intro gb156 hg w40 hbox hb; have n0_ := Aside0.mk (below_step (by repeat with_reducible first | exact HB.out | apply pw_below_drewN | apply below_drew1 | apply below_alloc) hb); have n1_ := Aside0.mk (hbox); have n2_ := Aside0.mk (geb hg (by repeat with_reducible first | exact HB.out | apply pw_below_drewN | apply below_drew1 | apply below_alloc)); have n3_ := n2_; clear HB; have HB := n0_; have BK156 := n1_; have GW156 := n2_; have GE156 := n3_; clear n0_ n1_ n2_ n3_; clear hb hbox hg) | ((with_reducible refine gate_dst (N := 9) rfl ?_); refine box_event ?hg (N := 9) ?hd (cs := #[.int .i64 0, .int .i64 0, .bool false]) (t := 40) ?hr ?_; (case hd => rfl); (case hg => rfl); (case hr => first | (go_simp; done) | (go_simp; rfl)); intro gb157 hg w41 hbox hb; have n0_ := Aside0.mk (blb hb BK156.out); have n1_ := Aside0.mk (below_step (by repeat with_reducible first | exact HB.out | apply pw_below_drewN | refine below_set ?_ GE156.out | apply below_drew1 | apply below_alloc) hb); have n2_ := Aside0.mk (hbox); have n3_ := Aside0.mk (geb hg (by repeat with_reducible first | exact HB.out | apply pw_below_drewN | refine below_set ?_ GE156.out | apply below_drew1 | apply below_alloc)); have n4_ := n3_; have n5_ := Aside0.mk ((nbl hg BK156.out)); have n6_ := Aside0.mk ((nbr hg BK156.out)); clear BK156; clear HB; have BK156 := n0_; have HB := n1_; have BK157 := n2_; have GW157 := n3_; have GE157 := n4_; have NB156_157 := n5_; have NB157_156 := n6_; clear n0_ n1_ n2_ n3_ n4_ n5_ n6_; clear hb hbox hg; have hnb42 := NB157_156.out; have hnc42 := NB156_157.out; have hcz43_0 := cz0 BK157.out; have hcz43_1 := cz1 BK157.out; have hcz43_2 := cz2 BK157.out; have hfz43_0 := blk_frozen BK157.out 0; have hfz43_1 := blk_frozen BK157.out 1; have hfz43_2 := blk_frozen BK157.out 2; have hcz44_0 := cz0 BK156.out; have hcz44_1 := cz1 BK156.out; have hcz44_2 := cz2 BK156.out; have hfz44_0 := blk_frozen BK156.out 0; have hfz44_1 := blk_frozen BK156.out 1; have hfz44_2 := blk_frozen BK156.out 2))
  refine bodyPost_ret (results_cell_row rfl _ _ gb156 40 #[.int .i64 ji5, .int .i64 ji6, .bool false] (0, 0) _ rfl (by (with_reducible repeat (first | refine blk_drewN ?_ _ | refine blk_drew ?_ | refine blk_alloc ?_ _)); refine blk_put (cs := #[.int .i64 ji5, .int .i64 ji6, .bool false]) ?_ 2 _ rfl; (with_reducible repeat (first | refine blk_drewN ?_ _ | refine blk_drew ?_ | refine blk_alloc ?_ _)); refine blk_put (cs := #[.int .i64 ji5, .int .i64 0, .bool false]) ?_ 1 _ rfl; (with_reducible repeat (first | refine blk_drewN ?_ _ | refine blk_drew ?_ | refine blk_alloc ?_ _)); refine blk_put (cs := #[.int .i64 0, .int .i64 0, .bool false]) ?_ 0 _ rfl; (with_reducible repeat (first | refine blk_drewN ?_ _ | refine blk_drew ?_ | refine blk_alloc ?_ _)); refine blk_far ?_ NB156_157.out _; (with_reducible repeat (first | refine blk_drewN ?_ _ | refine blk_drew ?_ | refine blk_alloc ?_ _)); refine blk_far ?_ NB156_157.out _; (with_reducible repeat (first | refine blk_drewN ?_ _ | refine blk_drew ?_ | refine blk_alloc ?_ _)); refine blk_far ?_ NB156_157.out _; (with_reducible repeat (first | refine blk_drewN ?_ _ | refine blk_drew ?_ | refine blk_alloc ?_ _)); exact BK156.out) Tryd.underlying40 rfl (by kernel_rfl)) rfl ?_
  exact ⟨by first | rfl | (simp [errW_none, errW_some] <;> rfl) | (simp only [← hji5, ← hji6]; first | rfl | (simp [errW_none, errW_some] <;> rfl)) | (simp [*, errW_none, errW_some] <;> rfl), by repeat with_reducible first | exact HB.out | apply pw_below_drewN | refine below_set ?_ GE156.out | refine below_set ?_ GE157.out | apply below_drew1 | apply below_alloc⟩
 rw [if_pos c26] at H
 have c26b0 : (a3 == 2) = true := beq_iff_eq.mpr c26
 have c26b1 : (a3 != 2) = false := bne_eq_false_iff_eq.mpr c26
 clear c26
 replace H := Option.bind_eq_some_iff.mp H
 obtain ⟨t159, A270, H⟩ := H
 (try dsimp only at H)
 have A27 := Aside0.mk A270
 clear A270
 replace H := Option.bind_eq_some_iff.mp H
 obtain ⟨t160, A280, H⟩ := H
 (try dsimp only at H)
 have A28 := Aside0.mk A280
 clear A280
 simp only [Option.some.injEq, Prod.mk.injEq] at H
 obtain ⟨rfl, rfl, rfl⟩ := H
 go_enter Tryd.func13, Tryd.ntmps13
 try go_wp2_with (first | ((with_reducible refine gate_dst (N := 8) rfl ?_); refine box_event ?hg (N := 8) ?hd (cs := #[.int .i64 0, .int .i64 0, .bool false]) (t := 40) ?hr ?_; (case hd => rfl); (case hg => rfl); (case hr => first | (go_simp; done) | (go_simp; rfl)); intro gb156 hg w29 hbox hb; have n0_ := Aside0.mk (below_step (by repeat with_reducible first | exact HB.out | apply pw_below_drewN | apply below_drew1 | apply below_alloc) hb); have n1_ := Aside0.mk (hbox); have n2_ := Aside0.mk (geb hg (by repeat with_reducible first | exact HB.out | apply pw_below_drewN | apply below_drew1 | apply below_alloc)); have n3_ := n2_; clear HB; have HB := n0_; have BK156 := n1_; have GW156 := n2_; have GE156 := n3_; clear n0_ n1_ n2_ n3_; clear hb hbox hg) | ((with_reducible refine gate_dst (N := 9) rfl ?_); refine box_event ?hg (N := 9) ?hd (cs := #[.int .i64 0, .int .i64 0, .bool false]) (t := 40) ?hr ?_; (case hd => rfl); (case hg => rfl); (case hr => first | (go_simp; done) | (go_simp; rfl)); intro gb157 hg w30 hbox hb; have n0_ := Aside0.mk (blb hb BK156.out); have n1_ := Aside0.mk (below_step (by repeat with_reducible first | exact HB.out | apply pw_below_drewN | refine below_set ?_ GE156.out | apply below_drew1 | apply below_alloc) hb); have n2_ := Aside0.mk (hbox); have n3_ := Aside0.mk (geb hg (by repeat with_reducible first | exact HB.out | apply pw_below_drewN | refine below_set ?_ GE156.out | apply below_drew1 | apply below_alloc)); have n4_ := n3_; have n5_ := Aside0.mk ((nbl hg BK156.out)); have n6_ := Aside0.mk ((nbr hg BK156.out)); clear BK156; clear HB; have BK156 := n0_; have HB := n1_; have BK157 := n2_; have GW157 := n3_; have GE157 := n4_; have NB156_157 := n5_; have NB157_156 := n6_; clear n0_ n1_ n2_ n3_ n4_ n5_ n6_; clear hb hbox hg; have hnb31 := NB157_156.out; have hnc31 := NB156_157.out; have hcz32_0 := cz0 BK157.out; have hcz32_1 := cz1 BK157.out; have hcz32_2 := cz2 BK157.out; have hfz32_0 := blk_frozen BK157.out 0; have hfz32_1 := blk_frozen BK157.out 1; have hfz32_2 := blk_frozen BK157.out 2))
 have n0_ : Aside0 ((((w30.setCell ⟨gb157, 0, none⟩ (.int .i64 ji5)).setCell ⟨gb157, 1, none⟩ (.int .i64 ji6)).setCell ⟨gb157, 2, none⟩ (.bool false)).heap[gb156]? = some (.cells #[.int .i64 0, .int .i64 0, .bool false] 40 (0, 0))) := ⟨by (with_reducible repeat (first | refine blk_drewN ?_ _ | refine blk_drew ?_ | refine blk_alloc ?_ _)); refine blk_far ?_ NB156_157.out _; (with_reducible repeat (first | refine blk_drewN ?_ _ | refine blk_drew ?_ | refine blk_alloc ?_ _)); refine blk_far ?_ NB156_157.out _; (with_reducible repeat (first | refine blk_drewN ?_ _ | refine blk_drew ?_ | refine blk_alloc ?_ _)); refine blk_far ?_ NB156_157.out _; (with_reducible repeat (first | refine blk_drewN ?_ _ | refine blk_drew ?_ | refine blk_alloc ?_ _)); exact BK156.out⟩
 have n1_ : Aside0 ((((w30.setCell ⟨gb157, 0, none⟩ (.int .i64 ji5)).setCell ⟨gb157, 1, none⟩ (.int .i64 ji6)).setCell ⟨gb157, 2, none⟩ (.bool false)).heap[gb157]? = some (.cells #[.int .i64 ji5, .int .i64 ji6, .bool false] 40 (0, 0))) := ⟨by (with_reducible repeat (first | refine blk_drewN ?_ _ | refine blk_drew ?_ | refine blk_alloc ?_ _)); refine blk_put (cs := #[.int .i64 ji5, .int .i64 ji6, .bool false]) ?_ 2 _ rfl; (with_reducible repeat (first | refine blk_drewN ?_ _ | refine blk_drew ?_ | refine blk_alloc ?_ _)); refine blk_put (cs := #[.int .i64 ji5, .int .i64 0, .bool false]) ?_ 1 _ rfl; (with_reducible repeat (first | refine blk_drewN ?_ _ | refine blk_drew ?_ | refine blk_alloc ?_ _)); refine blk_put (cs := #[.int .i64 0, .int .i64 0, .bool false]) ?_ 0 _ rfl; (with_reducible repeat (first | refine blk_drewN ?_ _ | refine blk_drew ?_ | refine blk_alloc ?_ _)); exact BK157.out⟩
 have n2_ : Aside0 (Below w.heap.size w (((w30.setCell ⟨gb157, 0, none⟩ (.int .i64 ji5)).setCell ⟨gb157, 1, none⟩ (.int .i64 ji6)).setCell ⟨gb157, 2, none⟩ (.bool false))) := ⟨by repeat with_reducible first | exact HB.out | apply pw_below_drewN | refine below_set ?_ GE156.out | refine below_set ?_ GE157.out | apply below_drew1 | apply below_alloc⟩
 (try clear BK156)
 (try clear BK157)
 (try clear HB)
 generalize (((w30.setCell ⟨gb157, 0, none⟩ (.int .i64 ji5)).setCell ⟨gb157, 1, none⟩ (.int .i64 ji6)).setCell ⟨gb157, 2, none⟩ (.bool false)) = w33 at n0_ n1_ n2_ ⊢
 have BK156 := n0_
 have BK157 := n1_
 have HB := n2_
 clear n0_ n1_ n2_
 have n0_ := Aside0.mk (blk_drew BK156.out)
 have n1_ := Aside0.mk (blk_drew BK157.out)
 have n2_ := Aside0.mk (below_drew1 HB.out)
 clear BK156
 clear BK157
 clear HB
 have BK156 := n0_
 have BK157 := n1_
 have HB := n2_
 clear n0_ n1_ n2_
 refine start_ (n := 10) (S := fun w' => w'.cell? ⟨gb157, 0, none⟩ = some (.int .i64 ji5) ∧ w'.cell? ⟨gb157, 1, none⟩ = some (.int .i64 ji6) ∧ w'.cell? ⟨gb157, 2, none⟩ = some (.bool false)) (ds := [9]) (bs 10 0) (by kernel_rfl) rfl rfl ⟨(blk_cell BK157.out 0).trans rfl, (blk_cell BK157.out 1).trans rfl, (blk_cell BK157.out 2).trans rfl⟩ (fun hHeld => ?_); refine with_tabW quillref15_Between.tab7 quillref15_Between.bits7 (fun HT_ HW_ => ?_)
 generalize w33.drew = w34 at BK156 BK157 HB hHeld ⊢
 refine pure_ (i := 0) (N := some 39) (v := ?_) (a' := ?_) (bs 10 1) rfl rfl (any_of HT_.out (by kernel_rfl)) (fun _ _ _ h => h) (Or.inl ⟨by rfl, ?_⟩) ?_ ?_
 rotate_left
 · intro w'; go_simp; with_reducible rfl
 rotate_left
 · simp only [Act.put, List.setIfInBounds_toArray, List.set_cons_zero, List.set_cons_succ, i64_w, i32_w]; rfl
 refine pure_ (i := 1) (N := some 40) (v := ?_) (a' := ?_) (bs 10 3) rfl rfl (any_of HT_.out (by kernel_rfl)) (fun _ _ _ h => h) (Or.inl ⟨by rfl, ?_⟩) ?_ ?_
 rotate_left
 · intro w'; go_simp; with_reducible rfl
 rotate_left
 · simp only [Act.put, List.setIfInBounds_toArray, List.set_cons_zero, List.set_cons_succ, i64_w, i32_w]; rfl
 refine pure_ (i := 4) (N := some 43) (v := ?_) (a' := ?_) (bs 10 19) rfl rfl (any_of HT_.out (by kernel_rfl)) (fun _ _ _ h => h) (Or.inl ⟨by rfl, ?_⟩) ?_ ?_
 rotate_left
 · intro w'; go_simp; with_reducible rfl
 rotate_left
 · simp only [Act.put, List.setIfInBounds_toArray, List.set_cons_zero, List.set_cons_succ, i64_w, i32_w]; rfl
 refine pure_ (i := 5) (N := some 44) (v := ?_) (a' := ?_) (bs 10 51) rfl rfl (any_of HT_.out (by kernel_rfl)) (fun _ _ _ h => h) (Or.inl ⟨by rfl, ?_⟩) ?_ ?_
 rotate_left
 · intro w'; go_simp; with_reducible rfl
 rotate_left
 · simp only [Act.put, List.setIfInBounds_toArray, List.set_cons_zero, List.set_cons_succ, i64_w, i32_w]; rfl
 refine take_ (i := 2) (N := some 41) (v := ?_) (a' := ?_) (bs 10 55) rfl rfl (take_ofW HT_.out HW_.out (by kernel_rfl)) (fun _ _ _ h => h) (Or.inl ⟨by rfl, ?_⟩) hHeld ?_ ?_
 rotate_left
 · rintro w' ⟨s0, s1, s2⟩; go_simp; with_reducible rfl
 rotate_left
 · simp only [Act.put, List.setIfInBounds_toArray, List.set_cons_zero, List.set_cons_succ, i64_w, i32_w]; rfl
 refine take_ (i := 6) (N := some 45) (v := ?_) (a' := ?_) (bs 10 119) rfl rfl (take_ofW HT_.out HW_.out (by kernel_rfl)) (fun _ _ _ h => h) (Or.inl ⟨by rfl, ?_⟩) hHeld ?_ ?_
 rotate_left
 · rintro w' ⟨s0, s1, s2⟩; go_simp; with_reducible rfl
 rotate_left
 · simp only [Act.put, List.setIfInBounds_toArray, List.set_cons_zero, List.set_cons_succ, i64_w, i32_w]; rfl
 refine one_ (i := 3) (N := some 42) (bs 10 127) rfl rfl (one_of HT_.out (by kernel_rfl)) (by decide) (fun K hK => ?_)
 refine goes_ Tryd.func32 (by kernel_rfl) rfl #[.slice A0 l0.length c0, .int .i64 ji5] (by rfl) rfl rfl (by (try simp only [List.map_toArray, List.map_cons, List.map_nil]); first | done | (simp only [hji5]; rfl) | rfl | (simp only [List.length_drop, List.length_take]; rfl)) ?_
 with_reducible refine (quillref1_Begin.calls k _ _ l0 ji5 t159 _ ?side1 ?side2 A27.out).mono ?_
 (case side1 => repeat (first | exact (Kd.C_below HR0.out HB.out) | with_reducible first | refine Kd.C_drewN ?_ _ | refine Kd.C_drew ?_ | refine Kd.C_alloc ?_ _))
 (case side2 => exact HC0.out)
 rintro e w' ⟨rfl, ⟨nd, rfl⟩⟩
 refine ⟨_, rfl, ?_⟩
 refine hK.out _ _ ⟨(blk_cell BK157.out 0).trans rfl, (blk_cell BK157.out 1).trans rfl, (blk_cell BK157.out 2).trans rfl⟩ (fun hHeld => ?_)
 clear hK K
 refine norm_ (a' := ?_) ?_ ?_
 rotate_left
 · show Act.put _ (some 42) _ = _; simp only [Act.put, List.setIfInBounds_toArray, List.set_cons_zero, List.set_cons_succ, i64_w, i32_w]; rfl
 refine one_ (i := 7) (N := some 46) (bs 10 255) rfl rfl (one_of HT_.out (by kernel_rfl)) (by decide) (fun K hK => ?_)
 refine goes_ Tryd.func33 (by kernel_rfl) rfl #[.slice A0 l0.length c0, .int .i64 ji6] (by rfl) rfl rfl (by (try simp only [List.map_toArray, List.map_cons, List.map_nil]); first | done | (simp only [hji6]; rfl) | rfl | (simp only [List.length_drop, List.length_take]; rfl)) ?_
 with_reducible refine (quillref1_End.calls k _ _ l0 ji6 t160 _ ?side1 ?side2 A28.out).mono ?_
 (case side1 => repeat (first | exact (Kd.C_below HR0.out (by repeat with_reducible first | exact HB.out | apply pw_below_drewN | refine below_set ?_ GE156.out | refine below_set ?_ GE157.out | apply below_drew1 | apply below_alloc)) | with_reducible first | refine Kd.C_drewN ?_ _ | refine Kd.C_drew ?_ | refine Kd.C_alloc ?_ _))
 (case side2 => exact HC0.out)
 rintro e w' ⟨rfl, ⟨nd, rfl⟩⟩
 refine ⟨_, rfl, ?_⟩
 refine hK.out _ _ ⟨(blk_cell BK157.out 0).trans rfl, (blk_cell BK157.out 1).trans rfl, (blk_cell BK157.out 2).trans rfl⟩ (fun hHeld => ?_)
 clear hK K
 refine norm_ (a' := ?_) ?_ ?_
 rotate_left
 · show Act.put _ (some 46) _ = _; simp only [Act.put, List.setIfInBounds_toArray, List.set_cons_zero, List.set_cons_succ, i64_w, i32_w]; rfl
 refine pure_ (i := 8) (N := some 47) (v := ?_) (a' := ?_) (bs 10 511) rfl rfl (any_of HT_.out (by kernel_rfl)) (fun _ _ _ h => h) (Or.inl ⟨by rfl, ?_⟩) ?_ ?_
 rotate_left
 · intro w'; go_simp; with_reducible rfl
 rotate_left
 · simp only [Act.put, List.setIfInBounds_toArray, List.set_cons_zero, List.set_cons_succ, i64_w, i32_w]; rfl
 refine last_ (i := 9) (N := none) (bs 10 1023) rfl rfl (one_of HT_.out (by kernel_rfl)) (by decide) (fun K hK => ?_)
 have hs35 := cz0 BK157.out
 have hfs35 := blk_frozen BK157.out 0
 have hns35_0 := NB156_157.out
 have hms35_0 := NB157_156.out
 have hs36 := cz1 BK157.out
 have hfs36 := blk_frozen BK157.out 1
 have hns36_0 := NB156_157.out
 have hms36_0 := NB157_156.out
 have hs37 := cz2 BK157.out
 have hfs37 := blk_frozen BK157.out 2
 have hns37_0 := NB156_157.out
 have hms37_0 := NB157_156.out
 refine skip_ (w1 := ?_) (by rfl) rfl ?_ ?_
 rotate_left
 ·
  go_simp
  rfl
 refine hK.out _ _ ?_
 clear hK K
 refine done_ (done_of HT_.out (by kernel_rfl)) ?_
 have hcz38_0 := cz0 BK157.out
 have hcz38_1 := cz1 BK157.out
 have hcz38_2 := cz2 BK157.out
 have hfz38_0 := blk_frozen BK157.out 0
 have hfz38_1 := blk_frozen BK157.out 1
 have hfz38_2 := blk_frozen BK157.out 2
 have hcz39_0 := cz0 BK156.out
 have hcz39_1 := cz1 BK156.out
 have hcz39_2 := cz2 BK156.out
 have hfz39_0 := blk_frozen BK156.out 0
 have hfz39_1 := blk_frozen BK156.out 1
 have hfz39_2 := blk_frozen BK156.out 2
 try go_wp2
 refine bodyPost_ret (results_cell_row rfl _ _ gb156 40 #[.int .i64 t159, .int .i64 t160, .bool true] (0, 0) _ rfl (by (with_reducible repeat (first | refine blk_drewN ?_ _ | refine blk_drew ?_ | refine blk_alloc ?_ _)); refine blk_put (cs := #[.int .i64 t159, .int .i64 t160, .bool false]) ?_ 2 _ rfl; (with_reducible repeat (first | refine blk_drewN ?_ _ | refine blk_drew ?_ | refine blk_alloc ?_ _)); refine blk_put (cs := #[.int .i64 t159, .int .i64 0, .bool false]) ?_ 1 _ rfl; (with_reducible repeat (first | refine blk_drewN ?_ _ | refine blk_drew ?_ | refine blk_alloc ?_ _)); refine blk_put (cs := #[.int .i64 0, .int .i64 0, .bool false]) ?_ 0 _ rfl; (with_reducible repeat (first | refine blk_drewN ?_ _ | refine blk_drew ?_ | refine blk_alloc ?_ _)); refine blk_far ?_ NB156_157.out _; (with_reducible repeat (first | refine blk_drewN ?_ _ | refine blk_drew ?_ | refine blk_alloc ?_ _)); refine blk_far ?_ NB156_157.out _; (with_reducible repeat (first | refine blk_drewN ?_ _ | refine blk_drew ?_ | refine blk_alloc ?_ _)); refine blk_far ?_ NB156_157.out _; (with_reducible repeat (first | refine blk_drewN ?_ _ | refine blk_drew ?_ | refine blk_alloc ?_ _)); exact BK156.out) Tryd.underlying40 rfl (by kernel_rfl)) rfl ?_
 exact ⟨by first | rfl | (simp [errW_none, errW_some] <;> rfl) | (simp only [← hji5, ← hji6]; first | rfl | (simp [errW_none, errW_some] <;> rfl)) | (simp [*, errW_none, errW_some] <;> rfl), by repeat with_reducible first | exact HB.out | apply pw_below_drewN | refine below_set ?_ GE156.out | refine below_set ?_ GE157.out | apply below_drew1 | apply below_alloc⟩

/-! ### quilllaw17_num: function 14 -/
def quilllaw17_num.f (a0 : Int) : Option (Int) := some a0
set_option maxHeartbeats 8000000 in
set_option maxRecDepth 100000 in
theorem quilllaw17_num.calls (a0 : Int) (r : Int) (w : World) (h : quilllaw17_num.f a0 = some r) :
  Calls Tryd.prog 14 #[.int .i64 a0] w fun e w' => e = .returned (.int .i64 r) ∧ Drawn0 w w' := by
 have H : (some a0) = some r := h
 clear h
 obtain rfl := Option.some.inj H
 go_enter Tryd.func14, Tryd.ntmps14
 go_wp2
 go_ret
 exact ⟨by first | rfl | (simp; done) | (simp [*]; done), by repeat (first | exact Drawn0.refl _ | apply Drawn0.step)⟩

/-! ### move_Is: function 21 -/
def move_Is.f (a0 : Int) : Option (Bool) := (move_kind.f a0).bind fun t161 => (some (t161 != 0))
set_option maxHeartbeats 8000000 in
set_option maxRecDepth 100000 in
theorem move_Is.calls (a0 : Int) (r : Bool) (w : World) (h : move_Is.f a0 = some r) :
  Calls Tryd.prog 21 #[.int .i64 a0] w fun e w' => e = .returned (.bool r) ∧ Below w.heap.size w w' := by
 have HB := Aside0.mk (Below.refl w.heap.size w)
 have H : ((move_kind.f a0).bind fun t161 => (some (t161 != 0))) = some r := h
 clear h
 replace H := Option.bind_eq_some_iff.mp H
 obtain ⟨t161, A20, H⟩ := H
 (try dsimp only at H)
 have A2 := Aside0.mk A20
 clear A20
 obtain rfl := Option.some.inj H
 go_enter Tryd.func21, Tryd.ntmps21
 go_wp2_with (first | ((with_reducible refine gate_callee (f := 42) rfl ?_); refine goesL_ (some 4) rfl rfl Tryd.func42 (by kernel_rfl) rfl #[.int .i64 a0] rfl (map1 rfl) ?_; (with_reducible refine (move_kind.calls a0 t161 _ A2.out).mono ?_); rintro e w3 ⟨rfl, hb⟩; refine ⟨_, rfl, ?_⟩; have n0_ := Aside0.mk (below_step (by repeat with_reducible first | exact HB.out | apply pw_below_drewN | apply below_drew1 | apply below_alloc) hb); clear HB; have HB := n0_; clear n0_; (try clear hb); (try clear hb2); (try clear hk); (try clear hi)))
 go_ret
 exact ⟨by first | rfl | (simp [errW_none, errW_some] <;> rfl) | (simp [*, errW_none, errW_some] <;> rfl), by repeat with_reducible first | exact HB.out | apply pw_below_drewN | apply below_drew1 | apply below_alloc⟩

/-! ### seek_Is: function 39 -/
def seek_Is.f (a0 : Int) : Option (Bool) := if a0 = 102 then (some true) else (if a0 = 70 then (some true) else (if a0 = 116 then (some true) else (some (a0 == 84))))
set_option maxHeartbeats 8000000 in
set_option maxRecDepth 100000 in
theorem seek_Is.calls (a0 : Int) (r : Bool) (w : World) (h : seek_Is.f a0 = some r) :
  Calls Tryd.prog 39 #[.int .i64 a0] w fun e w' => e = .returned (.bool r) ∧ Below w.heap.size w w' := by
 have HB := Aside0.mk (Below.refl w.heap.size w)
 have H : (if a0 = 102 then (some true) else (if a0 = 70 then (some true) else (if a0 = 116 then (some true) else (some (a0 == 84))))) = some r := h
 clear h
 by_cases c2 : a0 = 102
 ·
  rw [if_pos c2] at H
  have c2b0 : (a0 == 102) = true := beq_iff_eq.mpr c2
  have c2b1 : (a0 != 102) = false := bne_eq_false_iff_eq.mpr c2
  clear c2
  obtain rfl := Option.some.inj H
  go_enter Tryd.func39, Tryd.ntmps39
  go_wp2
  go_ret
  exact ⟨by first | rfl | (simp [errW_none, errW_some] <;> rfl) | (simp [*, errW_none, errW_some] <;> rfl), by repeat with_reducible first | exact HB.out | apply pw_below_drewN | apply below_drew1 | apply below_alloc⟩
 rw [if_neg c2] at H
 have c2b0 : (a0 == 102) = false := beq_eq_false_iff_ne.mpr c2
 have c2b1 : (a0 != 102) = true := bne_iff_ne.mpr c2
 by_cases c3 : a0 = 70
 ·
  rw [if_pos c3] at H
  have c3b0 : (a0 == 70) = true := beq_iff_eq.mpr c3
  have c3b1 : (a0 != 70) = false := bne_eq_false_iff_eq.mpr c3
  clear c3
  obtain rfl := Option.some.inj H
  go_enter Tryd.func39, Tryd.ntmps39
  go_wp2
  go_ret
  exact ⟨by first | rfl | (simp [errW_none, errW_some] <;> rfl) | (simp [*, errW_none, errW_some] <;> rfl), by repeat with_reducible first | exact HB.out | apply pw_below_drewN | apply below_drew1 | apply below_alloc⟩
 rw [if_neg c3] at H
 have c3b0 : (a0 == 70) = false := beq_eq_false_iff_ne.mpr c3
 have c3b1 : (a0 != 70) = true := bne_iff_ne.mpr c3
 by_cases c4 : a0 = 116
 rotate_left
 ·
  rw [if_neg c4] at H
  have c4b0 : (a0 == 116) = false := beq_eq_false_iff_ne.mpr c4
  have c4b1 : (a0 != 116) = true := bne_iff_ne.mpr c4
  obtain rfl := Option.some.inj H
  go_enter Tryd.func39, Tryd.ntmps39
  go_wp2
  go_ret
  exact ⟨by first | rfl | (simp [errW_none, errW_some] <;> rfl) | (simp [*, errW_none, errW_some] <;> rfl), by repeat with_reducible first | exact HB.out | apply pw_below_drewN | apply below_drew1 | apply below_alloc⟩
 rw [if_pos c4] at H
 have c4b0 : (a0 == 116) = true := beq_iff_eq.mpr c4
 have c4b1 : (a0 != 116) = false := bne_eq_false_iff_eq.mpr c4
 clear c4
 obtain rfl := Option.some.inj H
 go_enter Tryd.func39, Tryd.ntmps39
 go_wp2
 go_ret
 exact ⟨by first | rfl | (simp [errW_none, errW_some] <;> rfl) | (simp [*, errW_none, errW_some] <;> rfl), by repeat with_reducible first | exact HB.out | apply pw_below_drewN | apply below_drew1 | apply below_alloc⟩

/-! ### marks_one: function 63 -/
def marks_one.f (a0_0 : Int) (a0_1 : Int) : Option (Bool) := if a0_0 ≥ 97 then (if a0_0 ≤ 122 then (if a0_1 ≥ 0 then (some (decide (a0_1 ≤ 4000))) else (some false)) else (some false)) else (some false)
set_option maxHeartbeats 8000000 in
set_option maxRecDepth 100000 in
theorem marks_one.calls (a0_0 : Int) (a0_1 : Int) (r : Bool) (w : World) (h : marks_one.f a0_0 a0_1 = some r) :
  Calls Tryd.prog 63 #[.agg #[.int .i64 a0_0, .int .i64 a0_1]] w fun e w' => e = .returned (.bool r) ∧ Below w.heap.size w w' := by
 have hu89 := Tryd.underlying89
 have HB := Aside0.mk (Below.refl w.heap.size w)
 have H : (if a0_0 ≥ 97 then (if a0_0 ≤ 122 then (if a0_1 ≥ 0 then (some (decide (a0_1 ≤ 4000))) else (some false)) else (some false)) else (some false)) = some r := h
 clear h
 by_cases c2 : a0_0 ≥ 97
 rotate_left
 ·
  rw [if_neg c2] at H
  have c2b0 := decide_eq_false c2
  clear c2
  obtain rfl := Option.some.inj H
  go_enter Tryd.func63, Tryd.ntmps63
  go_wp2_with (first | ((with_reducible refine gate_dst (N := 1) rfl ?_); refine box_event ?hg (N := 1) ?hd (cs := #[.int .i64 a0_0, .int .i64 a0_1]) (t := 89) ?hr ?_; (case hd => rfl); (case hg => rfl); (case hr => first | (go_simp; done) | (go_simp; rfl)); intro gb162 hg w11 hbox hb; have n0_ := Aside0.mk (below_step (by repeat with_reducible first | exact HB.out | apply pw_below_drewN | apply below_drew1 | apply below_alloc) hb); have n1_ := Aside0.mk (hbox); have n2_ := Aside0.mk (geb hg (by repeat with_reducible first | exact HB.out | apply pw_below_drewN | apply below_drew1 | apply below_alloc)); have n3_ := n2_; clear HB; have HB := n0_; have BK162 := n1_; have GW162 := n2_; have GE162 := n3_; clear n0_ n1_ n2_ n3_; clear hb hbox hg; have hcz12_0 := cz0 BK162.out; have hcz12_1 := cz1 BK162.out; have hfz12_0 := blk_frozen BK162.out 0; have hfz12_1 := blk_frozen BK162.out 1))
  go_ret
  exact ⟨by first | rfl | (simp [errW_none, errW_some] <;> rfl) | (simp [*, errW_none, errW_some] <;> rfl), by repeat with_reducible first | exact HB.out | apply pw_below_drewN | apply below_drew1 | apply below_alloc⟩
 rw [if_pos c2] at H
 have c2b0 := decide_eq_true c2
 clear c2
 by_cases c3 : a0_0 ≤ 122
 rotate_left
 ·
  rw [if_neg c3] at H
  have c3b0 := decide_eq_false c3
  clear c3
  obtain rfl := Option.some.inj H
  go_enter Tryd.func63, Tryd.ntmps63
  go_wp2_with (first | ((with_reducible refine gate_dst (N := 1) rfl ?_); refine box_event ?hg (N := 1) ?hd (cs := #[.int .i64 a0_0, .int .i64 a0_1]) (t := 89) ?hr ?_; (case hd => rfl); (case hg => rfl); (case hr => first | (go_simp; done) | (go_simp; rfl)); intro gb162 hg w9 hbox hb; have n0_ := Aside0.mk (below_step (by repeat with_reducible first | exact HB.out | apply pw_below_drewN | apply below_drew1 | apply below_alloc) hb); have n1_ := Aside0.mk (hbox); have n2_ := Aside0.mk (geb hg (by repeat with_reducible first | exact HB.out | apply pw_below_drewN | apply below_drew1 | apply below_alloc)); have n3_ := n2_; clear HB; have HB := n0_; have BK162 := n1_; have GW162 := n2_; have GE162 := n3_; clear n0_ n1_ n2_ n3_; clear hb hbox hg; have hcz10_0 := cz0 BK162.out; have hcz10_1 := cz1 BK162.out; have hfz10_0 := blk_frozen BK162.out 0; have hfz10_1 := blk_frozen BK162.out 1))
  go_ret
  exact ⟨by first | rfl | (simp [errW_none, errW_some] <;> rfl) | (simp [*, errW_none, errW_some] <;> rfl), by repeat with_reducible first | exact HB.out | apply pw_below_drewN | apply below_drew1 | apply below_alloc⟩
 rw [if_pos c3] at H
 have c3b0 := decide_eq_true c3
 clear c3
 by_cases c4 : a0_1 ≥ 0
 ·
  rw [if_pos c4] at H
  have c4b0 := decide_eq_true c4
  clear c4
  obtain rfl := Option.some.inj H
  go_enter Tryd.func63, Tryd.ntmps63
  go_wp2_with (first | ((with_reducible refine gate_dst (N := 1) rfl ?_); refine box_event ?hg (N := 1) ?hd (cs := #[.int .i64 a0_0, .int .i64 a0_1]) (t := 89) ?hr ?_; (case hd => rfl); (case hg => rfl); (case hr => first | (go_simp; done) | (go_simp; rfl)); intro gb162 hg w5 hbox hb; have n0_ := Aside0.mk (below_step (by repeat with_reducible first | exact HB.out | apply pw_below_drewN | apply below_drew1 | apply below_alloc) hb); have n1_ := Aside0.mk (hbox); have n2_ := Aside0.mk (geb hg (by repeat with_reducible first | exact HB.out | apply pw_below_drewN | apply below_drew1 | apply below_alloc)); have n3_ := n2_; clear HB; have HB := n0_; have BK162 := n1_; have GW162 := n2_; have GE162 := n3_; clear n0_ n1_ n2_ n3_; clear hb hbox hg; have hcz6_0 := cz0 BK162.out; have hcz6_1 := cz1 BK162.out; have hfz6_0 := blk_frozen BK162.out 0; have hfz6_1 := blk_frozen BK162.out 1))
  go_ret
  exact ⟨by first | rfl | (simp [errW_none, errW_some] <;> rfl) | (simp [*, errW_none, errW_some] <;> rfl), by repeat with_reducible first | exact HB.out | apply pw_below_drewN | apply below_drew1 | apply below_alloc⟩
 rw [if_neg c4] at H
 have c4b0 := decide_eq_false c4
 clear c4
 obtain rfl := Option.some.inj H
 go_enter Tryd.func63, Tryd.ntmps63
 go_wp2_with (first | ((with_reducible refine gate_dst (N := 1) rfl ?_); refine box_event ?hg (N := 1) ?hd (cs := #[.int .i64 a0_0, .int .i64 a0_1]) (t := 89) ?hr ?_; (case hd => rfl); (case hg => rfl); (case hr => first | (go_simp; done) | (go_simp; rfl)); intro gb162 hg w7 hbox hb; have n0_ := Aside0.mk (below_step (by repeat with_reducible first | exact HB.out | apply pw_below_drewN | apply below_drew1 | apply below_alloc) hb); have n1_ := Aside0.mk (hbox); have n2_ := Aside0.mk (geb hg (by repeat with_reducible first | exact HB.out | apply pw_below_drewN | apply below_drew1 | apply below_alloc)); have n3_ := n2_; clear HB; have HB := n0_; have BK162 := n1_; have GW162 := n2_; have GE162 := n3_; clear n0_ n1_ n2_ n3_; clear hb hbox hg; have hcz8_0 := cz0 BK162.out; have hcz8_1 := cz1 BK162.out; have hfz8_0 := blk_frozen BK162.out 0; have hfz8_1 := blk_frozen BK162.out 1))
 go_ret
 exact ⟨by first | rfl | (simp [errW_none, errW_some] <;> rfl) | (simp [*, errW_none, errW_some] <;> rfl), by repeat with_reducible first | exact HB.out | apply pw_below_drewN | apply below_drew1 | apply below_alloc⟩

end Go.Proofs.YtbgmmcngkdhpcaaDoor.P
