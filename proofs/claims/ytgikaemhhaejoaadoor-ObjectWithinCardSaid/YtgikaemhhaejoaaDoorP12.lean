/- The walks of the functions that these statements reach: each Go function as a plain Lean function, and the proof that its call comes to that. Written by the session's program wip/pp.py. -/
import Derived.Test.YtgikaemhhaejoaaDoorP0
import Derived.Test.YtgikaemhhaejoaaDoorP11
namespace Go.Proofs.YtgikaemhhaejoaaDoor.P
open Go.Proofs.YtgikaemhhaejoaaDoor
open Go.RowKit Go.Proofs.YtgikaemhhaejoaaDoorW.PrintWords Go.Proofs.YtgikaemhhaejoaaDoorW.PrintLast Go.Proofs.YtgikaemhhaejoaaDoorW.PrintMore
attribute [local go_sem] max2_int min2_int max_two min_two max_three min_three max_four min_four   -- for this text's walks alone
set_option linter.unusedVariables false
set_option linter.unusedSimpArgs false

/-! ### quillref15_quoted: function 38 -/
mutual
def quillref15_quoted.l0 : Nat → List Int → Int → Int → Int → Int → Option (Int × Int × Bool × Int)
  | 0, _, _, _, _, _ => none
  | k + 1, x0, x1, x2, x8, x9 => if x9 < (x0.length : Int) then (if 0 ≤ x9 then (quillref15_quoted.j1 k x0 x1 x2 x8 x9 ((rd x0 x9) != 10)) else (none)) else (quillref15_quoted.j1 k x0 x1 x2 x8 x9 false)
def quillref15_quoted.j1 : Nat → List Int → Int → Int → Int → Int → Bool → Option (Int × Int × Bool × Int)
  | 0, _, _, _, _, _, _ => none
  | k + 1, x0, x1, x2, x8, x9, x23 => if x23 = true then (if 0 ≤ x9 then (if x9 < (x0.length : Int) then (if (rd x0 x9) = 34 then (if x8 < 0 then (quillref15_quoted.l0 k x0 x1 x2 x9 (wrap64 (x9 + 1))) else (if x9 ≥ x1 then (if x2 = 105 then (some (wrap64 (x8 + 1), x9, false, 0)) else (some (x8, wrap64 (x9 + 1), false, 0))) else (quillref15_quoted.l0 k x0 x1 x2 (-1) (wrap64 (x9 + 1))))) else (quillref15_quoted.l0 k x0 x1 x2 x8 (wrap64 (x9 + 1)))) else (none)) else (none)) else (some (0, 0, false, 6))
end
def quillref15_quoted.f (k : Nat) (l0 : List Int) (a1 : Int) (a2 : Int) : Option (Int × Int × Bool × Int) := (quillref1_Begin.f k l0 a1).bind fun t298 => (quillref15_quoted.l0 k l0 a1 a2 (-1) t298)
theorem quillref15_quoted.mono_l : ∀ k, (∀ y0 y1 y2 y3 y4, LeO (quillref15_quoted.l0 k y0 y1 y2 y3 y4) (quillref15_quoted.l0 (k + 1) y0 y1 y2 y3 y4)) ∧ (∀ y0 y1 y2 y3 y4 y5, LeO (quillref15_quoted.j1 k y0 y1 y2 y3 y4 y5) (quillref15_quoted.j1 (k + 1) y0 y1 y2 y3 y4 y5))
  | 0 => ⟨fun _ _ _ _ _ r h => by simp [quillref15_quoted.l0] at h, fun _ _ _ _ _ _ r h => by simp [quillref15_quoted.j1] at h⟩
  | k + 1 => by
    obtain ⟨ih0, ih1⟩ := quillref15_quoted.mono_l k
    refine ⟨?_, ?_⟩
    all_goals intros
    all_goals first | unfold quillref15_quoted.l0 | unfold quillref15_quoted.j1
    all_goals repeat' first | (with_reducible first | exact ih0 _ _ _ _ _ | exact ih1 _ _ _ _ _ _ | exact quillref1_Begin.mono _ _ _ | exact LeO.refl _ | exact LeO.none _ | refine LeO.ite ?_ ?_ | refine LeO.bind ?_ (fun _ => ?_)) | exact ih0 _ _ _ _ _ | exact ih1 _ _ _ _ _ _ | exact quillref1_Begin.mono _ _ _ | exact LeO.refl _ | exact LeO.none _ | refine LeO.ite ?_ ?_ | refine LeO.bind ?_ (fun _ => ?_)
theorem quillref15_quoted.mono : ∀ a0 a1 a2 k, LeO (quillref15_quoted.f k a0 a1 a2) (quillref15_quoted.f (k + 1) a0 a1 a2) := by
  intro a0 a1 a2 k
  obtain ⟨ih0, ih1⟩ := quillref15_quoted.mono_l k
  unfold quillref15_quoted.f
  repeat' first | (with_reducible first | exact ih0 _ _ _ _ _ | exact ih1 _ _ _ _ _ _ | exact quillref1_Begin.mono _ _ _ | exact LeO.refl _ | exact LeO.none _ | refine LeO.ite ?_ ?_ | refine LeO.bind ?_ (fun _ => ?_)) | exact ih0 _ _ _ _ _ | exact ih1 _ _ _ _ _ _ | exact quillref1_Begin.mono _ _ _ | exact LeO.refl _ | exact LeO.none _ | refine LeO.ite ?_ ?_ | refine LeO.bind ?_ (fun _ => ?_)
set_option maxHeartbeats 8000000 in
set_option maxRecDepth 100000 in
theorem quillref15_quoted.calls (k : Nat) (A0 : Option Addr) (c0 : Nat) (l0 : List Int) (a1 : Int) (a2 : Int) (r1 : Int) (r2 : Int) (r3 : Bool) (r4 : Int) (w : World) (hr0 : Kd.C (Kd.int .i32) w A0 l0.length l0) (hc0 : l0.length ≤ c0) (h : quillref15_quoted.f k l0 a1 a2 = some (r1, r2, r3, r4)) :
  Calls Tryd.prog 38 #[.slice A0 l0.length c0, .int .i64 a1, .int .i64 a2] w fun e w' => e = .returned (.tuple #[.agg #[.int .i64 r1, .int .i64 r2, .bool r3], .int .i64 r4]) ∧ Below w.heap.size w w' := by
 have hu35 := Tryd.underlying35
 have HR0 := Aside0.mk hr0
 have HC0 := Aside0.mk hc0
 clear hr0 hc0
 have HB := Aside0.mk (Below.refl w.heap.size w)
 have H : ((quillref1_Begin.f k l0 a1).bind fun t298 => (quillref15_quoted.l0 k l0 a1 a2 (-1) t298)) = some (r1, r2, r3, r4) := h
 clear h
 replace H := Option.bind_eq_some_iff.mp H
 obtain ⟨t298, A40, H⟩ := H
 (try dsimp only at H)
 have A4 := Aside0.mk A40
 clear A40
 have H' := Aside0.mk H
 clear H
 go_enter Tryd.func38, Tryd.ntmps38
 go_wp2_with (first | ((with_reducible refine gate_dst (N := 6) rfl ?_); refine box_event ?hg (N := 6) ?hd (cs := #[.int .i64 0, .int .i64 0, .bool false]) (t := 35) ?hr ?_; (case hd => rfl); (case hg => rfl); (case hr => first | (go_simp; done) | (go_simp; rfl)); intro gb297 hg w5 hbox hb; have n0_ := Aside0.mk (below_step (by repeat with_reducible first | exact HB.out | apply pw_below_drewN | apply below_drew1 | apply below_alloc) hb); have n1_ := Aside0.mk (hbox); have n2_ := Aside0.mk (geb hg (by repeat with_reducible first | exact HB.out | apply pw_below_drewN | apply below_drew1 | apply below_alloc)); have n3_ := n2_; clear HB; have HB := n0_; have BK297 := n1_; have GW297 := n2_; have GE297 := n3_; clear n0_ n1_ n2_ n3_; clear hb hbox hg) | ((with_reducible refine gate_callee (f := 58) rfl ?_); refine goesL_ (some 12) rfl rfl Tryd.func58 (by kernel_rfl) rfl #[.slice A0 l0.length c0, .int .i64 a1] rfl (map2 rfl rfl) ?_; (with_reducible refine (quillref1_Begin.calls k _ _ l0 a1 t298 _ ?side1 ?side2 A4.out).mono ?_); (case side1 => repeat (first | exact (Kd.C_below HR0.out HB.out) | with_reducible first | refine Kd.C_drewN ?_ _ | refine Kd.C_drew ?_ | refine Kd.C_alloc ?_ _)); (case side2 => exact HC0.out); rintro e w' ⟨rfl, ⟨nd, rfl⟩⟩; refine ⟨_, rfl, ?_⟩))
 go_loopg [8, 9] k (fun kq v8 v9 w' => ∃ (x8_1 : Int) (x9_1 : Int) (x298000_1 : Int) (x298001_1 : Int) (x298002_1 : Bool), v8 = .int .i64 x8_1 ∧ v9 = .int .i64 x9_1 ∧ Aside0 (quillref15_quoted.l0 kq l0 a1 a2 x8_1 x9_1 = some (r1, r2, r3, r4)) ∧ Aside0 (kq ≤ k) ∧ Aside0 (w'.heap[gb297]? = some (.cells #[.int .i64 x298000_1, .int .i64 x298001_1, .bool x298002_1] 35 (0, 0))) ∧ Aside0 (Below w.heap.size w w'))
 case atStart => exact ⟨((-1)), (t298), (0), (0), (false), (by first | rfl | (simp; done) | (simp [*]; done)), (by first | rfl | (simp; done) | (simp [*]; done)), H', ⟨Nat.le_refl _⟩, ⟨BK297.out⟩, ⟨by repeat with_reducible first | exact HB.out | apply pw_below_drewN | apply below_drew1 | apply below_alloc⟩⟩
 case round =>
  clear H'
  obtain ⟨x8_1, x9_1, x298000_1, x298001_1, x298002_1, rfl, rfl, HA, HK1, BK297, HB⟩ := hrel
  cases gk with
  | zero => exact absurd HA.out (by simp [quillref15_quoted.l0])
  | succ k1 =>
   have H := HA.out
   clear HA
   simp only [quillref15_quoted.l0] at H
   have HC6 := Aside0.mk H
   clear H
   go_upto_region 3 with (fail)
   go_cut [23] (fun v23 wc => ∃ (kq : Nat) (x23_5 : Bool), v23 = .bool x23_5 ∧ Aside0 (quillref15_quoted.j1 kq l0 a1 a2 x8_1 x9_1 x23_5 = some (r1, r2, r3, r4)) ∧ Aside0 (kq ≤ k1) ∧ Aside0 (wc.heap[gb297]? = some (.cells #[.int .i64 x298000_1, .int .i64 x298001_1, .bool x298002_1] 35 (0, 0))) ∧ Aside0 (Below w.heap.size w wc))
   case first =>
    have H := HC6.out
    clear HC6
    by_cases c7 : x9_1 < (l0.length : Int)
    rotate_left
    ·
     rw [if_neg c7] at H
     have c7b0 := decide_eq_false c7
     clear c7
     (first | rw [c7b0] | (simp only [i64_w, i32_w]; rw [c7b0]) | skip)
     have H' := Aside0.mk H
     clear H
     go_wp2
     go_meet
     case rel => exact ⟨_, (false), (by first | rfl | (simp; done) | (simp [*]; done)), H', ⟨by have := HK1.out; first | omega | exact Nat.le_refl _⟩, ⟨BK297.out⟩, ⟨by repeat with_reducible first | exact HB.out | apply pw_below_drewN | apply below_drew1 | apply below_alloc⟩⟩
    rw [if_pos c7] at H
    have c7b0 := decide_eq_true c7
    clear c7
    (first | rw [c7b0] | (simp only [i64_w, i32_w]; rw [c7b0]) | skip)
    by_cases c8 : 0 ≤ x9_1
    rotate_left
    ·
     rw [if_neg c8] at H
     exact absurd H (by simp)
    rw [if_pos c8] at H
    have c8b0 := decide_eq_true c8
    clear c8
    have H' := Aside0.mk H
    clear H
    have p299 : 0 ≤ (x9_1 : Int) := of_decide_eq_true (by assumption)
    have q299 : x9_1 < (l0.length : Int) := of_decide_eq_true (by assumption)
    obtain ⟨ad299, e299, hx299_0⟩ := Kd.at_int HR0.out x9_1 p299 q299
    cases e299
    replace hx299_0 := (HB.out.cell (World.block_lt_of_cell? w _ hx299_0)).trans hx299_0
    replace p299 := eq_true p299
    replace q299 := eq_true q299
    go_wp2
    go_meet
    case rel => exact ⟨_, (((rd l0 x9_1) != 10)), (by first | rfl | (simp; done) | (simp [*]; done)), H', ⟨by have := HK1.out; first | omega | exact Nat.le_refl _⟩, ⟨BK297.out⟩, ⟨by repeat with_reducible first | exact HB.out | apply pw_below_drewN | apply below_drew1 | apply below_alloc⟩⟩
   case rest =>
    clear HC6
    obtain ⟨kq, x23_5, rfl, HA, HJ5, BK297, HB⟩ := hcut
    cases kq with
    | zero => exact absurd HA.out (by simp [quillref15_quoted.j1])
    | succ kj5 =>
     have H := HA.out
     clear HA
     simp only [quillref15_quoted.j1] at H
     by_cases c9 : x23_5 = true
     rotate_left
     ·
      replace c9 := Bool.eq_false_iff.mpr c9
      subst c9
      have H1 : (some (0, 0, false, 6)) = some (r1, r2, r3, r4) := by rw [if_neg (show ¬ (false = true) by decide)] at H; exact H
      clear H
      have H := H1
      clear H1
      simp only [Option.some.injEq, Prod.mk.injEq] at H
      obtain ⟨rfl, rfl, rfl, rfl⟩ := H
      have hcz18_0 := cz0 BK297.out
      have hcz18_1 := cz1 BK297.out
      have hcz18_2 := cz2 BK297.out
      have hfz18_0 := blk_frozen BK297.out 0
      have hfz18_1 := blk_frozen BK297.out 1
      have hfz18_2 := blk_frozen BK297.out 2
      go_wp2
      refine bodyPost_ret (results_ct rfl _ _ gb297 35 #[.int .i64 0, .int .i64 0, .bool false] (0, 0) _ rfl (by (with_reducible repeat (first | refine blk_drewN ?_ _ | refine blk_drew ?_ | refine blk_alloc ?_ _)); refine blk_put (cs := #[.int .i64 0, .int .i64 0, .bool x298002_1]) ?_ 2 _ rfl; (with_reducible repeat (first | refine blk_drewN ?_ _ | refine blk_drew ?_ | refine blk_alloc ?_ _)); refine blk_put (cs := #[.int .i64 0, .int .i64 x298001_1, .bool x298002_1]) ?_ 1 _ rfl; (with_reducible repeat (first | refine blk_drewN ?_ _ | refine blk_drew ?_ | refine blk_alloc ?_ _)); refine blk_put (cs := #[.int .i64 x298000_1, .int .i64 x298001_1, .bool x298002_1]) ?_ 0 _ rfl; (with_reducible repeat (first | refine blk_drewN ?_ _ | refine blk_drew ?_ | refine blk_alloc ?_ _)); exact BK297.out) Tryd.underlying35 rfl (by kernel_rfl)) rfl ?_
      exact ⟨by first | rfl | (simp [errW_none, errW_some] <;> rfl) | (simp [*, errW_none, errW_some] <;> rfl), by repeat with_reducible first | exact HB.out | apply pw_below_drewN | refine below_set ?_ GE297.out | apply below_drew1 | apply below_alloc⟩
     subst c9
     have H1 : (if 0 ≤ x9_1 then (if x9_1 < (l0.length : Int) then (if (rd l0 x9_1) = 34 then (if x8_1 < 0 then (quillref15_quoted.l0 kj5 l0 a1 a2 x9_1 (wrap64 (x9_1 + 1))) else (if x9_1 ≥ a1 then (if a2 = 105 then (some (wrap64 (x8_1 + 1), x9_1, false, 0)) else (some (x8_1, wrap64 (x9_1 + 1), false, 0))) else (quillref15_quoted.l0 kj5 l0 a1 a2 (-1) (wrap64 (x9_1 + 1))))) else (quillref15_quoted.l0 kj5 l0 a1 a2 x8_1 (wrap64 (x9_1 + 1)))) else (none)) else (none)) = some (r1, r2, r3, r4) := by rw [if_pos rfl] at H; exact H
     clear H
     have H := H1
     clear H1
     by_cases c10 : 0 ≤ x9_1
     rotate_left
     ·
      rw [if_neg c10] at H
      exact absurd H (by simp)
     rw [if_pos c10] at H
     have c10b0 := decide_eq_true c10
     clear c10
     by_cases c11 : x9_1 < (l0.length : Int)
     rotate_left
     ·
      rw [if_neg c11] at H
      exact absurd H (by simp)
     rw [if_pos c11] at H
     have c11b0 := decide_eq_true c11
     clear c11
     by_cases c12 : (rd l0 x9_1) = 34
     rotate_left
     ·
      rw [if_neg c12] at H
      have c12b0 : ((rd l0 x9_1) == 34) = false := beq_eq_false_iff_ne.mpr c12
      have c12b1 : ((rd l0 x9_1) != 34) = true := bne_iff_ne.mpr c12
      have H' := Aside0.mk H
      clear H
      have p300 : 0 ≤ (x9_1 : Int) := of_decide_eq_true (by assumption)
      have q300 : x9_1 < (l0.length : Int) := of_decide_eq_true (by assumption)
      obtain ⟨ad300, e300, hx300_0⟩ := Kd.at_int HR0.out x9_1 p300 q300
      cases e300
      replace hx300_0 := (HB.out.cell (World.block_lt_of_cell? w _ hx300_0)).trans hx300_0
      replace p300 := eq_true p300
      replace q300 := eq_true q300
      go_wp2
      go_roundg kj5
      case measure => have := HK1.out; have := HJ5.out; omega
      case rel => exact ⟨(x8_1), (wrap64 (x9_1 + 1)), (x298000_1), (x298001_1), (x298002_1), (by first | rfl | (simp; done) | (simp [*]; done)), (by first | rfl | (simp; done) | (simp [*]; done)), H', ⟨by have := HK1.out; have := HJ5.out; omega⟩, ⟨BK297.out⟩, ⟨by repeat with_reducible first | exact HB.out | apply pw_below_drewN | apply below_drew1 | apply below_alloc⟩⟩
     rw [if_pos c12] at H
     have c12b0 : ((rd l0 x9_1) == 34) = true := beq_iff_eq.mpr c12
     have c12b1 : ((rd l0 x9_1) != 34) = false := bne_eq_false_iff_eq.mpr c12
     clear c12
     by_cases c13 : x8_1 < 0
     ·
      rw [if_pos c13] at H
      have c13b0 := decide_eq_true c13
      clear c13
      have H' := Aside0.mk H
      clear H
      have p300 : 0 ≤ (x9_1 : Int) := of_decide_eq_true (by assumption)
      have q300 : x9_1 < (l0.length : Int) := of_decide_eq_true (by assumption)
      obtain ⟨ad300, e300, hx300_0⟩ := Kd.at_int HR0.out x9_1 p300 q300
      cases e300
      replace hx300_0 := (HB.out.cell (World.block_lt_of_cell? w _ hx300_0)).trans hx300_0
      replace p300 := eq_true p300
      replace q300 := eq_true q300
      go_wp2
      go_roundg kj5
      case measure => have := HK1.out; have := HJ5.out; omega
      case rel => exact ⟨(x9_1), (wrap64 (x9_1 + 1)), (x298000_1), (x298001_1), (x298002_1), (by first | rfl | (simp; done) | (simp [*]; done)), (by first | rfl | (simp; done) | (simp [*]; done)), H', ⟨by have := HK1.out; have := HJ5.out; omega⟩, ⟨BK297.out⟩, ⟨by repeat with_reducible first | exact HB.out | apply pw_below_drewN | apply below_drew1 | apply below_alloc⟩⟩
     rw [if_neg c13] at H
     have c13b0 := decide_eq_false c13
     clear c13
     by_cases c14 : x9_1 ≥ a1
     rotate_left
     ·
      rw [if_neg c14] at H
      have c14b0 := decide_eq_false c14
      clear c14
      have H' := Aside0.mk H
      clear H
      have p300 : 0 ≤ (x9_1 : Int) := of_decide_eq_true (by assumption)
      have q300 : x9_1 < (l0.length : Int) := of_decide_eq_true (by assumption)
      obtain ⟨ad300, e300, hx300_0⟩ := Kd.at_int HR0.out x9_1 p300 q300
      cases e300
      replace hx300_0 := (HB.out.cell (World.block_lt_of_cell? w _ hx300_0)).trans hx300_0
      replace p300 := eq_true p300
      replace q300 := eq_true q300
      go_wp2
      go_roundg kj5
      case measure => have := HK1.out; have := HJ5.out; omega
      case rel => exact ⟨((-1)), (wrap64 (x9_1 + 1)), (x298000_1), (x298001_1), (x298002_1), (by first | rfl | (simp; done) | (simp [*]; done)), (by first | rfl | (simp; done) | (simp [*]; done)), H', ⟨by have := HK1.out; have := HJ5.out; omega⟩, ⟨BK297.out⟩, ⟨by repeat with_reducible first | exact HB.out | apply pw_below_drewN | apply below_drew1 | apply below_alloc⟩⟩
     rw [if_pos c14] at H
     have c14b0 := decide_eq_true c14
     clear c14
     by_cases c15 : a2 = 105
     rotate_left
     ·
      rw [if_neg c15] at H
      have c15b0 : (a2 == 105) = false := beq_eq_false_iff_ne.mpr c15
      have c15b1 : (a2 != 105) = true := bne_iff_ne.mpr c15
      simp only [Option.some.injEq, Prod.mk.injEq] at H
      obtain ⟨rfl, rfl, rfl, rfl⟩ := H
      have p300 : 0 ≤ (x9_1 : Int) := of_decide_eq_true (by assumption)
      have q300 : x9_1 < (l0.length : Int) := of_decide_eq_true (by assumption)
      obtain ⟨ad300, e300, hx300_0⟩ := Kd.at_int HR0.out x9_1 p300 q300
      cases e300
      replace hx300_0 := (HB.out.cell (World.block_lt_of_cell? w _ hx300_0)).trans hx300_0
      replace p300 := eq_true p300
      replace q300 := eq_true q300
      have hcz17_0 := cz0 BK297.out
      have hcz17_1 := cz1 BK297.out
      have hcz17_2 := cz2 BK297.out
      have hfz17_0 := blk_frozen BK297.out 0
      have hfz17_1 := blk_frozen BK297.out 1
      have hfz17_2 := blk_frozen BK297.out 2
      go_wp2
      refine bodyPost_ret (results_ct rfl _ _ gb297 35 #[.int .i64 x8_1, .int .i64 (wrap64 (x9_1 + 1)), .bool false] (0, 0) _ rfl (by (with_reducible repeat (first | refine blk_drewN ?_ _ | refine blk_drew ?_ | refine blk_alloc ?_ _)); refine blk_put (cs := #[.int .i64 x8_1, .int .i64 (wrap64 (x9_1 + 1)), .bool x298002_1]) ?_ 2 _ rfl; (with_reducible repeat (first | refine blk_drewN ?_ _ | refine blk_drew ?_ | refine blk_alloc ?_ _)); refine blk_put (cs := #[.int .i64 x8_1, .int .i64 x298001_1, .bool x298002_1]) ?_ 1 _ rfl; (with_reducible repeat (first | refine blk_drewN ?_ _ | refine blk_drew ?_ | refine blk_alloc ?_ _)); refine blk_put (cs := #[.int .i64 x298000_1, .int .i64 x298001_1, .bool x298002_1]) ?_ 0 _ rfl; (with_reducible repeat (first | refine blk_drewN ?_ _ | refine blk_drew ?_ | refine blk_alloc ?_ _)); exact BK297.out) Tryd.underlying35 rfl (by kernel_rfl)) rfl ?_
      exact ⟨by first | rfl | (simp [errW_none, errW_some] <;> rfl) | (simp [*, errW_none, errW_some] <;> rfl), by repeat with_reducible first | exact HB.out | apply pw_below_drewN | refine below_set ?_ GE297.out | apply below_drew1 | apply below_alloc⟩
     rw [if_pos c15] at H
     have c15b0 : (a2 == 105) = true := beq_iff_eq.mpr c15
     have c15b1 : (a2 != 105) = false := bne_eq_false_iff_eq.mpr c15
     clear c15
     simp only [Option.some.injEq, Prod.mk.injEq] at H
     obtain ⟨rfl, rfl, rfl, rfl⟩ := H
     have p300 : 0 ≤ (x9_1 : Int) := of_decide_eq_true (by assumption)
     have q300 : x9_1 < (l0.length : Int) := of_decide_eq_true (by assumption)
     obtain ⟨ad300, e300, hx300_0⟩ := Kd.at_int HR0.out x9_1 p300 q300
     cases e300
     replace hx300_0 := (HB.out.cell (World.block_lt_of_cell? w _ hx300_0)).trans hx300_0
     replace p300 := eq_true p300
     replace q300 := eq_true q300
     have hcz16_0 := cz0 BK297.out
     have hcz16_1 := cz1 BK297.out
     have hcz16_2 := cz2 BK297.out
     have hfz16_0 := blk_frozen BK297.out 0
     have hfz16_1 := blk_frozen BK297.out 1
     have hfz16_2 := blk_frozen BK297.out 2
     go_wp2
     refine bodyPost_ret (results_ct rfl _ _ gb297 35 #[.int .i64 (wrap64 (x8_1 + 1)), .int .i64 x9_1, .bool false] (0, 0) _ rfl (by (with_reducible repeat (first | refine blk_drewN ?_ _ | refine blk_drew ?_ | refine blk_alloc ?_ _)); refine blk_put (cs := #[.int .i64 (wrap64 (x8_1 + 1)), .int .i64 x9_1, .bool x298002_1]) ?_ 2 _ rfl; (with_reducible repeat (first | refine blk_drewN ?_ _ | refine blk_drew ?_ | refine blk_alloc ?_ _)); refine blk_put (cs := #[.int .i64 (wrap64 (x8_1 + 1)), .int .i64 x298001_1, .bool x298002_1]) ?_ 1 _ rfl; (with_reducible repeat (first | refine blk_drewN ?_ _ | refine blk_drew ?_ | refine blk_alloc ?_ _)); refine blk_put (cs := #[.int .i64 x298000_1, .int .i64 x298001_1, .bool x298002_1]) ?_ 0 _ rfl; (with_reducible repeat (first | refine blk_drewN ?_ _ | refine blk_drew ?_ | refine blk_alloc ?_ _)); exact BK297.out) Tryd.underlying35 rfl (by kernel_rfl)) rfl ?_
     exact ⟨by first | rfl | (simp [errW_none, errW_some] <;> rfl) | (simp [*, errW_none, errW_some] <;> rfl), by repeat with_reducible first | exact HB.out | apply pw_below_drewN | refine below_set ?_ GE297.out | apply below_drew1 | apply below_alloc⟩

/-! ### quillref15_spread: function 59 -/
mutual
def quillref15_spread.j1 : Nat → List Int → Int → Int → Bool → Option (Int × Int)
  | 0, _, _, _, _ => none
  | k + 1, x0, x1, x2, x3 => quillref15_spread.l1 k x0 x1 x2 x3
def quillref15_spread.l1 : Nat → List Int → Int → Int → Bool → Option (Int × Int)
  | 0, _, _, _, _ => none
  | k + 1, x0, x1, x2, x3 => if x2 < (x0.length : Int) then ((quillref1_End.f k x0 (wrap64 (x2 + 1))).bind fun t303 => (if ((t303 == (wrap64 (x2 + 1))) == x3) = true then ((quillref1_End.f k x0 (wrap64 (x2 + 1))).bind fun t304 => (quillref15_spread.l1 k x0 x1 t304 x3)) else (some (x1, x2)))) else (some (x1, x2))
def quillref15_spread.l0 : Nat → List Int → Int → Int → Bool → Option (Int × Int)
  | 0, _, _, _, _ => none
  | k + 1, x0, x1, x2, x3 => if x1 > 0 then ((quillref1_Begin.f k x0 (wrap64 (x1 - 1))).bind fun t301 => (if ((t301 == (wrap64 (x1 - 1))) == x3) = true then ((quillref1_Begin.f k x0 (wrap64 (x1 - 1))).bind fun t302 => (quillref15_spread.l0 k x0 t302 x2 x3)) else (quillref15_spread.j1 k x0 x1 x2 x3))) else (quillref15_spread.j1 k x0 x1 x2 x3)
end
def quillref15_spread.f (k : Nat) (l0 : List Int) (a1 : Int) (a2 : Int) (a3 : Bool) : Option (Int × Int) := quillref15_spread.l0 k l0 a1 a2 a3
theorem quillref15_spread.mono_l : ∀ k, (∀ y0 y1 y2 y3, LeO (quillref15_spread.j1 k y0 y1 y2 y3) (quillref15_spread.j1 (k + 1) y0 y1 y2 y3)) ∧ (∀ y0 y1 y2 y3, LeO (quillref15_spread.l1 k y0 y1 y2 y3) (quillref15_spread.l1 (k + 1) y0 y1 y2 y3)) ∧ (∀ y0 y1 y2 y3, LeO (quillref15_spread.l0 k y0 y1 y2 y3) (quillref15_spread.l0 (k + 1) y0 y1 y2 y3))
  | 0 => ⟨fun _ _ _ _ r h => by simp [quillref15_spread.j1] at h, fun _ _ _ _ r h => by simp [quillref15_spread.l1] at h, fun _ _ _ _ r h => by simp [quillref15_spread.l0] at h⟩
  | k + 1 => by
    obtain ⟨ih0, ih1, ih2⟩ := quillref15_spread.mono_l k
    refine ⟨?_, ?_, ?_⟩
    all_goals intros
    all_goals first | unfold quillref15_spread.j1 | unfold quillref15_spread.l1 | unfold quillref15_spread.l0
    all_goals repeat' first | (with_reducible first | exact ih0 _ _ _ _ | exact ih1 _ _ _ _ | exact ih2 _ _ _ _ | exact quillref1_Begin.mono _ _ _ | exact quillref1_End.mono _ _ _ | exact LeO.refl _ | exact LeO.none _ | refine LeO.ite ?_ ?_ | refine LeO.bind ?_ (fun _ => ?_)) | exact ih0 _ _ _ _ | exact ih1 _ _ _ _ | exact ih2 _ _ _ _ | exact quillref1_Begin.mono _ _ _ | exact quillref1_End.mono _ _ _ | exact LeO.refl _ | exact LeO.none _ | refine LeO.ite ?_ ?_ | refine LeO.bind ?_ (fun _ => ?_)
theorem quillref15_spread.mono : ∀ a0 a1 a2 a3 k, LeO (quillref15_spread.f k a0 a1 a2 a3) (quillref15_spread.f (k + 1) a0 a1 a2 a3) := by
  intro a0 a1 a2 a3 k
  obtain ⟨ih0, ih1, ih2⟩ := quillref15_spread.mono_l k
  unfold quillref15_spread.f
  repeat' first | (with_reducible first | exact ih0 _ _ _ _ | exact ih1 _ _ _ _ | exact ih2 _ _ _ _ | exact quillref1_Begin.mono _ _ _ | exact quillref1_End.mono _ _ _ | exact LeO.refl _ | exact LeO.none _ | refine LeO.ite ?_ ?_ | refine LeO.bind ?_ (fun _ => ?_)) | exact ih0 _ _ _ _ | exact ih1 _ _ _ _ | exact ih2 _ _ _ _ | exact quillref1_Begin.mono _ _ _ | exact quillref1_End.mono _ _ _ | exact LeO.refl _ | exact LeO.none _ | refine LeO.ite ?_ ?_ | refine LeO.bind ?_ (fun _ => ?_)
set_option maxHeartbeats 8000000 in
set_option maxRecDepth 100000 in
theorem quillref15_spread.calls (k : Nat) (A0 : Option Addr) (c0 : Nat) (l0 : List Int) (a1 : Int) (a2 : Int) (a3 : Bool) (r1 : Int) (r2 : Int) (w : World) (hr0 : Kd.C (Kd.int .i32) w A0 l0.length l0) (hc0 : l0.length ≤ c0) (h : quillref15_spread.f k l0 a1 a2 a3 = some (r1, r2)) :
  Calls Tryd.prog 59 #[.slice A0 l0.length c0, .int .i64 a1, .int .i64 a2, .bool a3] w fun e w' => e = .returned (.tuple #[.int .i64 r1, .int .i64 r2]) ∧ Drawn0 w w' := by
 have HR0 := Aside0.mk hr0
 have HC0 := Aside0.mk hc0
 clear hr0 hc0
 have H : (quillref15_spread.l0 k l0 a1 a2 a3) = some (r1, r2) := h
 clear h
 have HC5 := Aside0.mk H
 clear H
 go_enter Tryd.func59, Tryd.ntmps59
 go_upto_block 0 with (fail)
 go_cut [1] (fun v1 wc => ∃ (kq : Nat) (x1_4 : Int), v1 = .int .i64 x1_4 ∧ Aside0 (quillref15_spread.j1 kq l0 x1_4 a2 a3 = some (r1, r2)) ∧ Aside0 (kq ≤ k) ∧ Drawn0 w wc)
 case first =>
  have H := HC5.out
  clear HC5
  have H' := Aside0.mk H
  clear H
  go_wp2
  go_loopg [1] k (fun kq v1 w' => ∃ (x1_1 : Int), v1 = .int .i64 x1_1 ∧ Aside0 (quillref15_spread.l0 kq l0 x1_1 a2 a3 = some (r1, r2)) ∧ Aside0 (kq ≤ k) ∧ Drawn0 w w')
  case atStart => exact ⟨(a1), (by first | rfl | (simp; done) | (simp [*]; done)), H', ⟨Nat.le_refl _⟩, by repeat (first | exact Drawn0.refl _ | apply Drawn0.step)⟩
  case round =>
   clear H'
   obtain ⟨x1_1, rfl, HA, HK1, ⟨m1, rfl⟩⟩ := hrel
   cases gk with
   | zero => exact absurd HA.out (by simp [quillref15_spread.l0])
   | succ k1 =>
    have H := HA.out
    clear HA
    simp only [quillref15_spread.l0] at H
    by_cases c6 : x1_1 > 0
    rotate_left
    ·
     rw [if_neg c6] at H
     have c6b0 := decide_eq_false c6
     clear c6
     (first | rw [c6b0] | (simp only [i64_w, i32_w]; rw [c6b0]) | skip)
     have H' := Aside0.mk H
     clear H
     go_wp2
     go_meet
     case rel => exact ⟨_, (x1_1), (by first | rfl | (simp; done) | (simp [*]; done)), H', ⟨by have := HK1.out; first | omega | exact Nat.le_refl _⟩, by repeat (first | exact Drawn0.refl _ | apply Drawn0.step)⟩
    rw [if_pos c6] at H
    have c6b0 := decide_eq_true c6
    clear c6
    (first | rw [c6b0] | (simp only [i64_w, i32_w]; rw [c6b0]) | skip)
    replace H := Option.bind_eq_some_iff.mp H
    obtain ⟨t301, A70, H⟩ := H
    (try dsimp only at H)
    have A7 := Aside0.mk A70
    clear A70
    by_cases c8 : ((t301 == (wrap64 (x1_1 - 1))) == a3) = true
    rotate_left
    ·
     rw [if_neg c8] at H
     have c8b0 : ((t301 == (wrap64 (x1_1 - 1))) == a3) = false := by simpa using c8
     (try (have c8b1 : decide ((t301 == (wrap64 (x1_1 - 1))) = a3) = false := by simpa using c8))
     (try (have c8b2 : ((t301 == (wrap64 (x1_1 - 1))) == a3) = false := by simpa using c8))
     (try (have c8b3 : ¬ ((t301 == (wrap64 (x1_1 - 1))) = a3) := by simpa using c8))
     clear c8
     have H' := Aside0.mk H
     clear H
     go_wp2_with (first | (go_at_call 58; (with_reducible refine (quillref1_Begin.calls k1 _ _ l0 (wrap64 (x1_1 - 1)) t301 _ ?side1 ?side2 A7.out).mono ?_); (case side1 => repeat (first | exact HR0.out | with_reducible first | refine Kd.C_drewN ?_ _ | refine Kd.C_drew ?_ | refine Kd.C_alloc ?_ _)); (case side2 => exact HC0.out); rintro e w' ⟨rfl, ⟨nd, rfl⟩⟩))
     go_meet
     case rel => exact ⟨_, (x1_1), (by first | rfl | (simp; done) | (simp [*]; done)), H', ⟨by have := HK1.out; first | omega | exact Nat.le_refl _⟩, by repeat (first | exact Drawn0.refl _ | apply Drawn0.step)⟩
    rw [if_pos c8] at H
    have c8b0 : ((t301 == (wrap64 (x1_1 - 1))) == a3) = true := c8
    (try (have c8b1 : decide ((t301 == (wrap64 (x1_1 - 1))) = a3) = true := by simpa using c8))
    (try (have c8b2 : ((t301 == (wrap64 (x1_1 - 1))) == a3) = true := by simpa using c8))
    clear c8
    replace H := Option.bind_eq_some_iff.mp H
    obtain ⟨t302, A90, H⟩ := H
    (try dsimp only at H)
    have A9 := Aside0.mk A90
    clear A90
    have H' := Aside0.mk H
    clear H
    go_wp2_with (first | (go_at_call 58; (with_reducible refine (quillref1_Begin.calls k1 _ _ l0 (wrap64 (x1_1 - 1)) t301 _ ?side1 ?side2 A7.out).mono ?_); (case side1 => repeat (first | exact HR0.out | with_reducible first | refine Kd.C_drewN ?_ _ | refine Kd.C_drew ?_ | refine Kd.C_alloc ?_ _)); (case side2 => exact HC0.out); rintro e w' ⟨rfl, ⟨nd, rfl⟩⟩) | ((with_reducible refine gate_callee (f := 58) rfl ?_); refine goesL_ (some 26) rfl rfl Tryd.func58 (by kernel_rfl) rfl #[.slice A0 l0.length c0, .int .i64 (wrap64 (x1_1 - 1))] rfl (map2 rfl rfl) ?_; (with_reducible refine (quillref1_Begin.calls k1 _ _ l0 (wrap64 (x1_1 - 1)) t302 _ ?side1 ?side2 A9.out).mono ?_); (case side1 => repeat (first | exact HR0.out | with_reducible first | refine Kd.C_drewN ?_ _ | refine Kd.C_drew ?_ | refine Kd.C_alloc ?_ _)); (case side2 => exact HC0.out); rintro e w' ⟨rfl, ⟨nd, rfl⟩⟩; refine ⟨_, rfl, ?_⟩))
    go_roundg k1
    case measure => have := HK1.out; omega
    case rel => exact ⟨(t302), (by first | rfl | (simp; done) | (simp [*]; done)), H', ⟨by have := HK1.out; omega⟩, by repeat (first | exact Drawn0.refl _ | apply Drawn0.step)⟩
 case rest =>
  clear HC5
  obtain ⟨kq, x1_4, rfl, HA, HJ4, ⟨mc4, rfl⟩⟩ := hcut
  cases kq with
  | zero => exact absurd HA.out (by simp [quillref15_spread.j1])
  | succ kj4 =>
   have H := HA.out
   clear HA
   simp only [quillref15_spread.j1] at H
   have H' := Aside0.mk H
   clear H
   go_wp2
   go_loopg [2] kj4 (fun kq v2 w' => ∃ (x2_2 : Int), v2 = .int .i64 x2_2 ∧ Aside0 (quillref15_spread.l1 kq l0 x1_4 x2_2 a3 = some (r1, r2)) ∧ Aside0 (kq ≤ kj4) ∧ Drawn0 w w')
   case atStart => exact ⟨(a2), (by first | rfl | (simp; done) | (simp [*]; done)), H', ⟨Nat.le_refl _⟩, by repeat (first | exact Drawn0.refl _ | apply Drawn0.step)⟩
   case round =>
    clear H'
    obtain ⟨x2_2, rfl, HA, HK2, ⟨m2, rfl⟩⟩ := hrel
    cases gk with
    | zero => exact absurd HA.out (by simp [quillref15_spread.l1])
    | succ k2 =>
     have H := HA.out
     clear HA
     simp only [quillref15_spread.l1] at H
     by_cases c10 : x2_2 < (l0.length : Int)
     rotate_left
     ·
      rw [if_neg c10] at H
      have c10b0 := decide_eq_false c10
      clear c10
      simp only [Option.some.injEq, Prod.mk.injEq] at H
      obtain ⟨rfl, rfl⟩ := H
      go_wp2
      go_ret2
      exact ⟨by first | rfl | (simp; done) | (simp [*]; done), by repeat (first | exact Drawn0.refl _ | apply Drawn0.step)⟩
     rw [if_pos c10] at H
     have c10b0 := decide_eq_true c10
     clear c10
     replace H := Option.bind_eq_some_iff.mp H
     obtain ⟨t303, A110, H⟩ := H
     (try dsimp only at H)
     have A11 := Aside0.mk A110
     clear A110
     by_cases c12 : ((t303 == (wrap64 (x2_2 + 1))) == a3) = true
     rotate_left
     ·
      rw [if_neg c12] at H
      have c12b0 : ((t303 == (wrap64 (x2_2 + 1))) == a3) = false := by simpa using c12
      (try (have c12b1 : decide ((t303 == (wrap64 (x2_2 + 1))) = a3) = false := by simpa using c12))
      (try (have c12b2 : ((t303 == (wrap64 (x2_2 + 1))) == a3) = false := by simpa using c12))
      (try (have c12b3 : ¬ ((t303 == (wrap64 (x2_2 + 1))) = a3) := by simpa using c12))
      clear c12
      simp only [Option.some.injEq, Prod.mk.injEq] at H
      obtain ⟨rfl, rfl⟩ := H
      go_wp2_with (first | (go_at_call 57; (with_reducible refine (quillref1_End.calls k2 _ _ l0 (wrap64 (x2_2 + 1)) t303 _ ?side1 ?side2 A11.out).mono ?_); (case side1 => repeat (first | exact HR0.out | with_reducible first | refine Kd.C_drewN ?_ _ | refine Kd.C_drew ?_ | refine Kd.C_alloc ?_ _)); (case side2 => exact HC0.out); rintro e w' ⟨rfl, ⟨nd, rfl⟩⟩))
      go_ret2
      exact ⟨by first | rfl | (simp; done) | (simp [*]; done), by repeat (first | exact Drawn0.refl _ | apply Drawn0.step)⟩
     rw [if_pos c12] at H
     have c12b0 : ((t303 == (wrap64 (x2_2 + 1))) == a3) = true := c12
     (try (have c12b1 : decide ((t303 == (wrap64 (x2_2 + 1))) = a3) = true := by simpa using c12))
     (try (have c12b2 : ((t303 == (wrap64 (x2_2 + 1))) == a3) = true := by simpa using c12))
     clear c12
     replace H := Option.bind_eq_some_iff.mp H
     obtain ⟨t304, A130, H⟩ := H
     (try dsimp only at H)
     have A13 := Aside0.mk A130
     clear A130
     have H' := Aside0.mk H
     clear H
     go_wp2_with (first | (go_at_call 57; (with_reducible refine (quillref1_End.calls k2 _ _ l0 (wrap64 (x2_2 + 1)) t303 _ ?side1 ?side2 A11.out).mono ?_); (case side1 => repeat (first | exact HR0.out | with_reducible first | refine Kd.C_drewN ?_ _ | refine Kd.C_drew ?_ | refine Kd.C_alloc ?_ _)); (case side2 => exact HC0.out); rintro e w' ⟨rfl, ⟨nd, rfl⟩⟩) | ((with_reducible refine gate_callee (f := 57) rfl ?_); refine goesL_ (some 45) rfl rfl Tryd.func57 (by kernel_rfl) rfl #[.slice A0 l0.length c0, .int .i64 (wrap64 (x2_2 + 1))] rfl (map2 rfl rfl) ?_; (with_reducible refine (quillref1_End.calls k2 _ _ l0 (wrap64 (x2_2 + 1)) t304 _ ?side1 ?side2 A13.out).mono ?_); (case side1 => repeat (first | exact HR0.out | with_reducible first | refine Kd.C_drewN ?_ _ | refine Kd.C_drew ?_ | refine Kd.C_alloc ?_ _)); (case side2 => exact HC0.out); rintro e w' ⟨rfl, ⟨nd, rfl⟩⟩; refine ⟨_, rfl, ?_⟩))
     go_roundg k2
     case measure => have := HJ4.out; have := HK2.out; omega
     case rel => exact ⟨(t304), (by first | rfl | (simp; done) | (simp [*]; done)), H', ⟨by have := HJ4.out; have := HK2.out; omega⟩, by repeat (first | exact Drawn0.refl _ | apply Drawn0.step)⟩

/-! ### quillref15_paragraph: function 39 -/
def quillref15_paragraph.f (k : Nat) (l0 : List Int) (a1 : Int) (a2 : Int) : Option (Int × Int × Bool × Int) := (quillref1_Begin.f k l0 a1).bind fun t306 => ((quillref1_End.f k l0 a1).bind fun t307 => ((quillref15_spread.f k l0 t306 t307 (t306 == t307)).bind fun bt308 => (if a2 = 105 then (some (bt308.1, bt308.2, true, 0)) else (if bt308.2 < (l0.length : Int) then ((quillref1_End.f k l0 (wrap64 (bt308.2 + 1))).bind fun t310 => ((quillref15_spread.f k l0 (wrap64 (bt308.2 + 1)) t310 (!(t306 == t307))).bind fun bt311 => (some (bt308.1, bt311.2, true, 0)))) else (if bt308.1 > 0 then ((quillref1_Begin.f k l0 (wrap64 (bt308.1 - 1))).bind fun t313 => ((quillref15_spread.f k l0 t313 (wrap64 (bt308.1 - 1)) (!(t306 == t307))).bind fun bt314 => (some (bt314.1, bt308.2, true, 0)))) else (some (0, 0, false, 6)))))))
theorem quillref15_paragraph.mono : ∀ a0 a1 a2 k, LeO (quillref15_paragraph.f k a0 a1 a2) (quillref15_paragraph.f (k + 1) a0 a1 a2) := by
  intro a0 a1 a2 k
  unfold quillref15_paragraph.f
  repeat' first | (with_reducible first | exact quillref15_spread.mono _ _ _ _ _ | exact quillref1_Begin.mono _ _ _ | exact quillref1_End.mono _ _ _ | exact LeO.refl _ | exact LeO.none _ | refine LeO.ite ?_ ?_ | refine LeO.bind ?_ (fun _ => ?_)) | exact quillref15_spread.mono _ _ _ _ _ | exact quillref1_Begin.mono _ _ _ | exact quillref1_End.mono _ _ _ | exact LeO.refl _ | exact LeO.none _ | refine LeO.ite ?_ ?_ | refine LeO.bind ?_ (fun _ => ?_)
set_option maxHeartbeats 8000000 in
set_option maxRecDepth 100000 in
theorem quillref15_paragraph.calls (k : Nat) (A0 : Option Addr) (c0 : Nat) (l0 : List Int) (a1 : Int) (a2 : Int) (r1 : Int) (r2 : Int) (r3 : Bool) (r4 : Int) (w : World) (hr0 : Kd.C (Kd.int .i32) w A0 l0.length l0) (hc0 : l0.length ≤ c0) (h : quillref15_paragraph.f k l0 a1 a2 = some (r1, r2, r3, r4)) :
  Calls Tryd.prog 39 #[.slice A0 l0.length c0, .int .i64 a1, .int .i64 a2] w fun e w' => e = .returned (.tuple #[.agg #[.int .i64 r1, .int .i64 r2, .bool r3], .int .i64 r4]) ∧ Below w.heap.size w w' := by
 have hu35 := Tryd.underlying35
 have HR0 := Aside0.mk hr0
 have HC0 := Aside0.mk hc0
 clear hr0 hc0
 have HB := Aside0.mk (Below.refl w.heap.size w)
 have H : ((quillref1_Begin.f k l0 a1).bind fun t306 => ((quillref1_End.f k l0 a1).bind fun t307 => ((quillref15_spread.f k l0 t306 t307 (t306 == t307)).bind fun bt308 => (if a2 = 105 then (some (bt308.1, bt308.2, true, 0)) else (if bt308.2 < (l0.length : Int) then ((quillref1_End.f k l0 (wrap64 (bt308.2 + 1))).bind fun t310 => ((quillref15_spread.f k l0 (wrap64 (bt308.2 + 1)) t310 (!(t306 == t307))).bind fun bt311 => (some (bt308.1, bt311.2, true, 0)))) else (if bt308.1 > 0 then ((quillref1_Begin.f k l0 (wrap64 (bt308.1 - 1))).bind fun t313 => ((quillref15_spread.f k l0 t313 (wrap64 (bt308.1 - 1)) (!(t306 == t307))).bind fun bt314 => (some (bt314.1, bt308.2, true, 0)))) else (some (0, 0, false, 6)))))))) = some (r1, r2, r3, r4) := h
 clear h
 replace H := Option.bind_eq_some_iff.mp H
 obtain ⟨t306, A40, H⟩ := H
 (try dsimp only at H)
 have A4 := Aside0.mk A40
 clear A40
 replace H := Option.bind_eq_some_iff.mp H
 obtain ⟨t307, A50, H⟩ := H
 (try dsimp only at H)
 have A5 := Aside0.mk A50
 clear A50
 replace H := Option.bind_eq_some_iff.mp H
 obtain ⟨⟨t308, t309⟩, A60, H⟩ := H
 (try dsimp only at H)
 have A6 := Aside0.mk A60
 clear A60
 by_cases c7 : a2 = 105
 ·
  rw [if_pos c7] at H
  have c7b0 : (a2 == 105) = true := beq_iff_eq.mpr c7
  have c7b1 : (a2 != 105) = false := bne_eq_false_iff_eq.mpr c7
  clear c7
  simp only [Option.some.injEq, Prod.mk.injEq] at H
  obtain ⟨rfl, rfl, rfl, rfl⟩ := H
  go_enter Tryd.func39, Tryd.ntmps39
  go_wp2_with (first | ((with_reducible refine gate_dst (N := 6) rfl ?_); refine box_event ?hg (N := 6) ?hd (cs := #[.int .i64 0, .int .i64 0, .bool false]) (t := 35) ?hr ?_; (case hd => rfl); (case hg => rfl); (case hr => first | (go_simp; done) | (go_simp; rfl)); intro gb305 hg w8 hbox hb; have n0_ := Aside0.mk (below_step (by repeat with_reducible first | exact HB.out | apply pw_below_drewN | apply below_drew1 | apply below_alloc) hb); have n1_ := Aside0.mk (hbox); have n2_ := Aside0.mk (geb hg (by repeat with_reducible first | exact HB.out | apply pw_below_drewN | apply below_drew1 | apply below_alloc)); have n3_ := n2_; clear HB; have HB := n0_; have BK305 := n1_; have GW305 := n2_; have GE305 := n3_; clear n0_ n1_ n2_ n3_; clear hb hbox hg) | ((with_reducible refine gate_callee (f := 58) rfl ?_); refine goesL_ (some 13) rfl rfl Tryd.func58 (by kernel_rfl) rfl #[.slice A0 l0.length c0, .int .i64 a1] rfl (map2 rfl rfl) ?_; (with_reducible refine (quillref1_Begin.calls k _ _ l0 a1 t306 _ ?side1 ?side2 A4.out).mono ?_); (case side1 => repeat (first | exact (Kd.C_below HR0.out HB.out) | with_reducible first | refine Kd.C_drewN ?_ _ | refine Kd.C_drew ?_ | refine Kd.C_alloc ?_ _)); (case side2 => exact HC0.out); rintro e w' ⟨rfl, ⟨nd, rfl⟩⟩; refine ⟨_, rfl, ?_⟩; (try (rw [drewN_self w8]; generalize hq_ : World.drewN w8 _ = w8; have n0_ : Aside0 (w8.heap[gb305]? = some (.cells #[.int .i64 0, .int .i64 0, .bool false] 35 (0, 0))) := ⟨by rw [← hq_]; exact (by exact BK305.out)⟩; have n1_ : Aside0 (Below w.heap.size w w8) := ⟨by rw [← hq_]; exact (by repeat with_reducible first | exact HB.out | apply pw_below_drewN | apply below_drew1 | apply below_alloc)⟩; clear BK305 HB hq_; have BK305 := n0_; have HB := n1_; clear n0_ n1_))) | ((with_reducible refine gate_callee (f := 57) rfl ?_); refine goesL_ (some 16) rfl rfl Tryd.func57 (by kernel_rfl) rfl #[.slice A0 l0.length c0, .int .i64 a1] rfl (map2 rfl rfl) ?_; (with_reducible refine (quillref1_End.calls k _ _ l0 a1 t307 _ ?side1 ?side2 A5.out).mono ?_); (case side1 => repeat (first | exact (Kd.C_below HR0.out HB.out) | with_reducible first | refine Kd.C_drewN ?_ _ | refine Kd.C_drew ?_ | refine Kd.C_alloc ?_ _)); (case side2 => exact HC0.out); rintro e w' ⟨rfl, ⟨nd, rfl⟩⟩; refine ⟨_, rfl, ?_⟩; (try (rw [drewN_self w8]; generalize hq_ : World.drewN w8 _ = w8; have n0_ : Aside0 (w8.heap[gb305]? = some (.cells #[.int .i64 0, .int .i64 0, .bool false] 35 (0, 0))) := ⟨by rw [← hq_]; exact (by exact BK305.out)⟩; have n1_ : Aside0 (Below w.heap.size w w8) := ⟨by rw [← hq_]; exact (by repeat with_reducible first | exact HB.out | apply pw_below_drewN | apply below_drew1 | apply below_alloc)⟩; clear BK305 HB hq_; have BK305 := n0_; have HB := n1_; clear n0_ n1_))) | ((with_reducible refine gate_callee (f := 59) rfl ?_); refine goesL_ (some 25) rfl rfl Tryd.func59 (by kernel_rfl) rfl #[.slice A0 l0.length c0, .int .i64 t306, .int .i64 t307, .bool (t306 == t307)] rfl (map4 rfl rfl rfl rfl) ?_; (with_reducible refine (quillref15_spread.calls k _ _ l0 t306 t307 (t306 == t307) t308 t309 _ ?side1 ?side2 A6.out).mono ?_); (case side1 => repeat (first | exact (Kd.C_below HR0.out HB.out) | with_reducible first | refine Kd.C_drewN ?_ _ | refine Kd.C_drew ?_ | refine Kd.C_alloc ?_ _)); (case side2 => exact HC0.out); rintro e w' ⟨rfl, ⟨nd, rfl⟩⟩; refine ⟨_, rfl, ?_⟩; (try (rw [drewN_self w8]; generalize hq_ : World.drewN w8 _ = w8; have n0_ : Aside0 (w8.heap[gb305]? = some (.cells #[.int .i64 0, .int .i64 0, .bool false] 35 (0, 0))) := ⟨by rw [← hq_]; exact (by exact BK305.out)⟩; have n1_ : Aside0 (Below w.heap.size w w8) := ⟨by rw [← hq_]; exact (by repeat with_reducible first | exact HB.out | apply pw_below_drewN | apply below_drew1 | apply below_alloc)⟩; clear BK305 HB hq_; have BK305 := n0_; have HB := n1_; clear n0_ n1_)); have hcz9_0 := cz0 BK305.out; have hcz9_1 := cz1 BK305.out; have hcz9_2 := cz2 BK305.out; have hfz9_0 := blk_frozen BK305.out 0; have hfz9_1 := blk_frozen BK305.out 1; have hfz9_2 := blk_frozen BK305.out 2))
  refine bodyPost_ret (results_ct rfl _ _ gb305 35 #[.int .i64 t308, .int .i64 t309, .bool true] (0, 0) _ rfl (by (with_reducible repeat (first | refine blk_drewN ?_ _ | refine blk_drew ?_ | refine blk_alloc ?_ _)); refine blk_put (cs := #[.int .i64 t308, .int .i64 t309, .bool false]) ?_ 2 _ rfl; (with_reducible repeat (first | refine blk_drewN ?_ _ | refine blk_drew ?_ | refine blk_alloc ?_ _)); refine blk_put (cs := #[.int .i64 t308, .int .i64 0, .bool false]) ?_ 1 _ rfl; (with_reducible repeat (first | refine blk_drewN ?_ _ | refine blk_drew ?_ | refine blk_alloc ?_ _)); refine blk_put (cs := #[.int .i64 0, .int .i64 0, .bool false]) ?_ 0 _ rfl; (with_reducible repeat (first | refine blk_drewN ?_ _ | refine blk_drew ?_ | refine blk_alloc ?_ _)); exact BK305.out) Tryd.underlying35 rfl (by kernel_rfl)) rfl ?_
  exact ⟨by first | rfl | (simp [errW_none, errW_some] <;> rfl) | (simp [*, errW_none, errW_some] <;> rfl), by repeat with_reducible first | exact HB.out | apply pw_below_drewN | refine below_set ?_ GE305.out | apply below_drew1 | apply below_alloc⟩
 rw [if_neg c7] at H
 have c7b0 : (a2 == 105) = false := beq_eq_false_iff_ne.mpr c7
 have c7b1 : (a2 != 105) = true := bne_iff_ne.mpr c7
 by_cases c10 : t309 < (l0.length : Int)
 ·
  rw [if_pos c10] at H
  have c10b0 := decide_eq_true c10
  clear c10
  replace H := Option.bind_eq_some_iff.mp H
  obtain ⟨t310, A110, H⟩ := H
  (try dsimp only at H)
  have A11 := Aside0.mk A110
  clear A110
  replace H := Option.bind_eq_some_iff.mp H
  obtain ⟨⟨t311, t312⟩, A120, H⟩ := H
  (try dsimp only at H)
  have A12 := Aside0.mk A120
  clear A120
  simp only [Option.some.injEq, Prod.mk.injEq] at H
  obtain ⟨rfl, rfl, rfl, rfl⟩ := H
  go_enter Tryd.func39, Tryd.ntmps39
  go_wp2_with (first | ((with_reducible refine gate_dst (N := 6) rfl ?_); refine box_event ?hg (N := 6) ?hd (cs := #[.int .i64 0, .int .i64 0, .bool false]) (t := 35) ?hr ?_; (case hd => rfl); (case hg => rfl); (case hr => first | (go_simp; done) | (go_simp; rfl)); intro gb305 hg w13 hbox hb; have n0_ := Aside0.mk (below_step (by repeat with_reducible first | exact HB.out | apply pw_below_drewN | apply below_drew1 | apply below_alloc) hb); have n1_ := Aside0.mk (hbox); have n2_ := Aside0.mk (geb hg (by repeat with_reducible first | exact HB.out | apply pw_below_drewN | apply below_drew1 | apply below_alloc)); have n3_ := n2_; clear HB; have HB := n0_; have BK305 := n1_; have GW305 := n2_; have GE305 := n3_; clear n0_ n1_ n2_ n3_; clear hb hbox hg) | ((with_reducible refine gate_callee (f := 58) rfl ?_); refine goesL_ (some 13) rfl rfl Tryd.func58 (by kernel_rfl) rfl #[.slice A0 l0.length c0, .int .i64 a1] rfl (map2 rfl rfl) ?_; (with_reducible refine (quillref1_Begin.calls k _ _ l0 a1 t306 _ ?side1 ?side2 A4.out).mono ?_); (case side1 => repeat (first | exact (Kd.C_below HR0.out HB.out) | with_reducible first | refine Kd.C_drewN ?_ _ | refine Kd.C_drew ?_ | refine Kd.C_alloc ?_ _)); (case side2 => exact HC0.out); rintro e w' ⟨rfl, ⟨nd, rfl⟩⟩; refine ⟨_, rfl, ?_⟩; (try (rw [drewN_self w13]; generalize hq_ : World.drewN w13 _ = w13; have n0_ : Aside0 (w13.heap[gb305]? = some (.cells #[.int .i64 0, .int .i64 0, .bool false] 35 (0, 0))) := ⟨by rw [← hq_]; exact (by exact BK305.out)⟩; have n1_ : Aside0 (Below w.heap.size w w13) := ⟨by rw [← hq_]; exact (by repeat with_reducible first | exact HB.out | apply pw_below_drewN | apply below_drew1 | apply below_alloc)⟩; clear BK305 HB hq_; have BK305 := n0_; have HB := n1_; clear n0_ n1_))) | ((with_reducible refine gate_callee (f := 57) rfl ?_); refine goesL_ (some 16) rfl rfl Tryd.func57 (by kernel_rfl) rfl #[.slice A0 l0.length c0, .int .i64 a1] rfl (map2 rfl rfl) ?_; (with_reducible refine (quillref1_End.calls k _ _ l0 a1 t307 _ ?side1 ?side2 A5.out).mono ?_); (case side1 => repeat (first | exact (Kd.C_below HR0.out HB.out) | with_reducible first | refine Kd.C_drewN ?_ _ | refine Kd.C_drew ?_ | refine Kd.C_alloc ?_ _)); (case side2 => exact HC0.out); rintro e w' ⟨rfl, ⟨nd, rfl⟩⟩; refine ⟨_, rfl, ?_⟩; (try (rw [drewN_self w13]; generalize hq_ : World.drewN w13 _ = w13; have n0_ : Aside0 (w13.heap[gb305]? = some (.cells #[.int .i64 0, .int .i64 0, .bool false] 35 (0, 0))) := ⟨by rw [← hq_]; exact (by exact BK305.out)⟩; have n1_ : Aside0 (Below w.heap.size w w13) := ⟨by rw [← hq_]; exact (by repeat with_reducible first | exact HB.out | apply pw_below_drewN | apply below_drew1 | apply below_alloc)⟩; clear BK305 HB hq_; have BK305 := n0_; have HB := n1_; clear n0_ n1_))) | ((with_reducible refine gate_callee (f := 59) rfl ?_); refine goesL_ (some 25) rfl rfl Tryd.func59 (by kernel_rfl) rfl #[.slice A0 l0.length c0, .int .i64 t306, .int .i64 t307, .bool (t306 == t307)] rfl (map4 rfl rfl rfl rfl) ?_; (with_reducible refine (quillref15_spread.calls k _ _ l0 t306 t307 (t306 == t307) t308 t309 _ ?side1 ?side2 A6.out).mono ?_); (case side1 => repeat (first | exact (Kd.C_below HR0.out HB.out) | with_reducible first | refine Kd.C_drewN ?_ _ | refine Kd.C_drew ?_ | refine Kd.C_alloc ?_ _)); (case side2 => exact HC0.out); rintro e w' ⟨rfl, ⟨nd, rfl⟩⟩; refine ⟨_, rfl, ?_⟩; (try (rw [drewN_self w13]; generalize hq_ : World.drewN w13 _ = w13; have n0_ : Aside0 (w13.heap[gb305]? = some (.cells #[.int .i64 0, .int .i64 0, .bool false] 35 (0, 0))) := ⟨by rw [← hq_]; exact (by exact BK305.out)⟩; have n1_ : Aside0 (Below w.heap.size w w13) := ⟨by rw [← hq_]; exact (by repeat with_reducible first | exact HB.out | apply pw_below_drewN | apply below_drew1 | apply below_alloc)⟩; clear BK305 HB hq_; have BK305 := n0_; have HB := n1_; clear n0_ n1_))) | ((with_reducible refine gate_callee (f := 57) rfl ?_); refine goesL_ (some 44) rfl rfl Tryd.func57 (by kernel_rfl) rfl #[.slice A0 l0.length c0, .int .i64 (wrap64 (t309 + 1))] rfl (map2 rfl rfl) ?_; (with_reducible refine (quillref1_End.calls k _ _ l0 (wrap64 (t309 + 1)) t310 _ ?side1 ?side2 A11.out).mono ?_); (case side1 => repeat (first | exact (Kd.C_below HR0.out HB.out) | with_reducible first | refine Kd.C_drewN ?_ _ | refine Kd.C_drew ?_ | refine Kd.C_alloc ?_ _)); (case side2 => exact HC0.out); rintro e w' ⟨rfl, ⟨nd, rfl⟩⟩; refine ⟨_, rfl, ?_⟩; (try (rw [drewN_self w13]; generalize hq_ : World.drewN w13 _ = w13; have n0_ : Aside0 (w13.heap[gb305]? = some (.cells #[.int .i64 0, .int .i64 0, .bool false] 35 (0, 0))) := ⟨by rw [← hq_]; exact (by exact BK305.out)⟩; have n1_ : Aside0 (Below w.heap.size w w13) := ⟨by rw [← hq_]; exact (by repeat with_reducible first | exact HB.out | apply pw_below_drewN | apply below_drew1 | apply below_alloc)⟩; clear BK305 HB hq_; have BK305 := n0_; have HB := n1_; clear n0_ n1_))) | ((with_reducible refine gate_callee (f := 59) rfl ?_); refine goesL_ (some 47) rfl rfl Tryd.func59 (by kernel_rfl) rfl #[.slice A0 l0.length c0, .int .i64 (wrap64 (t309 + 1)), .int .i64 t310, .bool (!(t306 == t307))] rfl (map4 rfl rfl rfl rfl) ?_; (with_reducible refine (quillref15_spread.calls k _ _ l0 (wrap64 (t309 + 1)) t310 (!(t306 == t307)) t311 t312 _ ?side1 ?side2 A12.out).mono ?_); (case side1 => repeat (first | exact (Kd.C_below HR0.out HB.out) | with_reducible first | refine Kd.C_drewN ?_ _ | refine Kd.C_drew ?_ | refine Kd.C_alloc ?_ _)); (case side2 => exact HC0.out); rintro e w' ⟨rfl, ⟨nd, rfl⟩⟩; refine ⟨_, rfl, ?_⟩; (try (rw [drewN_self w13]; generalize hq_ : World.drewN w13 _ = w13; have n0_ : Aside0 (w13.heap[gb305]? = some (.cells #[.int .i64 0, .int .i64 0, .bool false] 35 (0, 0))) := ⟨by rw [← hq_]; exact (by exact BK305.out)⟩; have n1_ : Aside0 (Below w.heap.size w w13) := ⟨by rw [← hq_]; exact (by repeat with_reducible first | exact HB.out | apply pw_below_drewN | apply below_drew1 | apply below_alloc)⟩; clear BK305 HB hq_; have BK305 := n0_; have HB := n1_; clear n0_ n1_)); have hcz14_0 := cz0 BK305.out; have hcz14_1 := cz1 BK305.out; have hcz14_2 := cz2 BK305.out; have hfz14_0 := blk_frozen BK305.out 0; have hfz14_1 := blk_frozen BK305.out 1; have hfz14_2 := blk_frozen BK305.out 2))
  refine bodyPost_ret (results_ct rfl _ _ gb305 35 #[.int .i64 t308, .int .i64 t312, .bool true] (0, 0) _ rfl (by (with_reducible repeat (first | refine blk_drewN ?_ _ | refine blk_drew ?_ | refine blk_alloc ?_ _)); refine blk_put (cs := #[.int .i64 t308, .int .i64 t312, .bool false]) ?_ 2 _ rfl; (with_reducible repeat (first | refine blk_drewN ?_ _ | refine blk_drew ?_ | refine blk_alloc ?_ _)); refine blk_put (cs := #[.int .i64 t308, .int .i64 0, .bool false]) ?_ 1 _ rfl; (with_reducible repeat (first | refine blk_drewN ?_ _ | refine blk_drew ?_ | refine blk_alloc ?_ _)); refine blk_put (cs := #[.int .i64 0, .int .i64 0, .bool false]) ?_ 0 _ rfl; (with_reducible repeat (first | refine blk_drewN ?_ _ | refine blk_drew ?_ | refine blk_alloc ?_ _)); exact BK305.out) Tryd.underlying35 rfl (by kernel_rfl)) rfl ?_
  exact ⟨by first | rfl | (simp [errW_none, errW_some] <;> rfl) | (simp [*, errW_none, errW_some] <;> rfl), by repeat with_reducible first | exact HB.out | apply pw_below_drewN | refine below_set ?_ GE305.out | apply below_drew1 | apply below_alloc⟩
 rw [if_neg c10] at H
 have c10b0 := decide_eq_false c10
 clear c10
 by_cases c15 : t308 > 0
 rotate_left
 ·
  rw [if_neg c15] at H
  have c15b0 := decide_eq_false c15
  clear c15
  simp only [Option.some.injEq, Prod.mk.injEq] at H
  obtain ⟨rfl, rfl, rfl, rfl⟩ := H
  go_enter Tryd.func39, Tryd.ntmps39
  go_wp2_with (first | ((with_reducible refine gate_dst (N := 6) rfl ?_); refine box_event ?hg (N := 6) ?hd (cs := #[.int .i64 0, .int .i64 0, .bool false]) (t := 35) ?hr ?_; (case hd => rfl); (case hg => rfl); (case hr => first | (go_simp; done) | (go_simp; rfl)); intro gb305 hg w20 hbox hb; have n0_ := Aside0.mk (below_step (by repeat with_reducible first | exact HB.out | apply pw_below_drewN | apply below_drew1 | apply below_alloc) hb); have n1_ := Aside0.mk (hbox); have n2_ := Aside0.mk (geb hg (by repeat with_reducible first | exact HB.out | apply pw_below_drewN | apply below_drew1 | apply below_alloc)); have n3_ := n2_; clear HB; have HB := n0_; have BK305 := n1_; have GW305 := n2_; have GE305 := n3_; clear n0_ n1_ n2_ n3_; clear hb hbox hg) | ((with_reducible refine gate_callee (f := 58) rfl ?_); refine goesL_ (some 13) rfl rfl Tryd.func58 (by kernel_rfl) rfl #[.slice A0 l0.length c0, .int .i64 a1] rfl (map2 rfl rfl) ?_; (with_reducible refine (quillref1_Begin.calls k _ _ l0 a1 t306 _ ?side1 ?side2 A4.out).mono ?_); (case side1 => repeat (first | exact (Kd.C_below HR0.out HB.out) | with_reducible first | refine Kd.C_drewN ?_ _ | refine Kd.C_drew ?_ | refine Kd.C_alloc ?_ _)); (case side2 => exact HC0.out); rintro e w' ⟨rfl, ⟨nd, rfl⟩⟩; refine ⟨_, rfl, ?_⟩; (try (rw [drewN_self w20]; generalize hq_ : World.drewN w20 _ = w20; have n0_ : Aside0 (w20.heap[gb305]? = some (.cells #[.int .i64 0, .int .i64 0, .bool false] 35 (0, 0))) := ⟨by rw [← hq_]; exact (by exact BK305.out)⟩; have n1_ : Aside0 (Below w.heap.size w w20) := ⟨by rw [← hq_]; exact (by repeat with_reducible first | exact HB.out | apply pw_below_drewN | apply below_drew1 | apply below_alloc)⟩; clear BK305 HB hq_; have BK305 := n0_; have HB := n1_; clear n0_ n1_))) | ((with_reducible refine gate_callee (f := 57) rfl ?_); refine goesL_ (some 16) rfl rfl Tryd.func57 (by kernel_rfl) rfl #[.slice A0 l0.length c0, .int .i64 a1] rfl (map2 rfl rfl) ?_; (with_reducible refine (quillref1_End.calls k _ _ l0 a1 t307 _ ?side1 ?side2 A5.out).mono ?_); (case side1 => repeat (first | exact (Kd.C_below HR0.out HB.out) | with_reducible first | refine Kd.C_drewN ?_ _ | refine Kd.C_drew ?_ | refine Kd.C_alloc ?_ _)); (case side2 => exact HC0.out); rintro e w' ⟨rfl, ⟨nd, rfl⟩⟩; refine ⟨_, rfl, ?_⟩; (try (rw [drewN_self w20]; generalize hq_ : World.drewN w20 _ = w20; have n0_ : Aside0 (w20.heap[gb305]? = some (.cells #[.int .i64 0, .int .i64 0, .bool false] 35 (0, 0))) := ⟨by rw [← hq_]; exact (by exact BK305.out)⟩; have n1_ : Aside0 (Below w.heap.size w w20) := ⟨by rw [← hq_]; exact (by repeat with_reducible first | exact HB.out | apply pw_below_drewN | apply below_drew1 | apply below_alloc)⟩; clear BK305 HB hq_; have BK305 := n0_; have HB := n1_; clear n0_ n1_))) | ((with_reducible refine gate_callee (f := 59) rfl ?_); refine goesL_ (some 25) rfl rfl Tryd.func59 (by kernel_rfl) rfl #[.slice A0 l0.length c0, .int .i64 t306, .int .i64 t307, .bool (t306 == t307)] rfl (map4 rfl rfl rfl rfl) ?_; (with_reducible refine (quillref15_spread.calls k _ _ l0 t306 t307 (t306 == t307) t308 t309 _ ?side1 ?side2 A6.out).mono ?_); (case side1 => repeat (first | exact (Kd.C_below HR0.out HB.out) | with_reducible first | refine Kd.C_drewN ?_ _ | refine Kd.C_drew ?_ | refine Kd.C_alloc ?_ _)); (case side2 => exact HC0.out); rintro e w' ⟨rfl, ⟨nd, rfl⟩⟩; refine ⟨_, rfl, ?_⟩; (try (rw [drewN_self w20]; generalize hq_ : World.drewN w20 _ = w20; have n0_ : Aside0 (w20.heap[gb305]? = some (.cells #[.int .i64 0, .int .i64 0, .bool false] 35 (0, 0))) := ⟨by rw [← hq_]; exact (by exact BK305.out)⟩; have n1_ : Aside0 (Below w.heap.size w w20) := ⟨by rw [← hq_]; exact (by repeat with_reducible first | exact HB.out | apply pw_below_drewN | apply below_drew1 | apply below_alloc)⟩; clear BK305 HB hq_; have BK305 := n0_; have HB := n1_; clear n0_ n1_)); have hcz21_0 := cz0 BK305.out; have hcz21_1 := cz1 BK305.out; have hcz21_2 := cz2 BK305.out; have hfz21_0 := blk_frozen BK305.out 0; have hfz21_1 := blk_frozen BK305.out 1; have hfz21_2 := blk_frozen BK305.out 2))
  refine bodyPost_ret (results_ct rfl _ _ gb305 35 #[.int .i64 0, .int .i64 0, .bool false] (0, 0) _ rfl (by (with_reducible repeat (first | refine blk_drewN ?_ _ | refine blk_drew ?_ | refine blk_alloc ?_ _)); refine blk_put (cs := #[.int .i64 0, .int .i64 0, .bool false]) ?_ 2 _ rfl; (with_reducible repeat (first | refine blk_drewN ?_ _ | refine blk_drew ?_ | refine blk_alloc ?_ _)); refine blk_put (cs := #[.int .i64 0, .int .i64 0, .bool false]) ?_ 1 _ rfl; (with_reducible repeat (first | refine blk_drewN ?_ _ | refine blk_drew ?_ | refine blk_alloc ?_ _)); refine blk_put (cs := #[.int .i64 0, .int .i64 0, .bool false]) ?_ 0 _ rfl; (with_reducible repeat (first | refine blk_drewN ?_ _ | refine blk_drew ?_ | refine blk_alloc ?_ _)); exact BK305.out) Tryd.underlying35 rfl (by kernel_rfl)) rfl ?_
  exact ⟨by first | rfl | (simp [errW_none, errW_some] <;> rfl) | (simp [*, errW_none, errW_some] <;> rfl), by repeat with_reducible first | exact HB.out | apply pw_below_drewN | refine below_set ?_ GE305.out | apply below_drew1 | apply below_alloc⟩
 rw [if_pos c15] at H
 have c15b0 := decide_eq_true c15
 clear c15
 replace H := Option.bind_eq_some_iff.mp H
 obtain ⟨t313, A160, H⟩ := H
 (try dsimp only at H)
 have A16 := Aside0.mk A160
 clear A160
 replace H := Option.bind_eq_some_iff.mp H
 obtain ⟨⟨t314, t315⟩, A170, H⟩ := H
 (try dsimp only at H)
 have A17 := Aside0.mk A170
 clear A170
 simp only [Option.some.injEq, Prod.mk.injEq] at H
 obtain ⟨rfl, rfl, rfl, rfl⟩ := H
 go_enter Tryd.func39, Tryd.ntmps39
 go_wp2_with (first | ((with_reducible refine gate_dst (N := 6) rfl ?_); refine box_event ?hg (N := 6) ?hd (cs := #[.int .i64 0, .int .i64 0, .bool false]) (t := 35) ?hr ?_; (case hd => rfl); (case hg => rfl); (case hr => first | (go_simp; done) | (go_simp; rfl)); intro gb305 hg w18 hbox hb; have n0_ := Aside0.mk (below_step (by repeat with_reducible first | exact HB.out | apply pw_below_drewN | apply below_drew1 | apply below_alloc) hb); have n1_ := Aside0.mk (hbox); have n2_ := Aside0.mk (geb hg (by repeat with_reducible first | exact HB.out | apply pw_below_drewN | apply below_drew1 | apply below_alloc)); have n3_ := n2_; clear HB; have HB := n0_; have BK305 := n1_; have GW305 := n2_; have GE305 := n3_; clear n0_ n1_ n2_ n3_; clear hb hbox hg) | ((with_reducible refine gate_callee (f := 58) rfl ?_); refine goesL_ (some 13) rfl rfl Tryd.func58 (by kernel_rfl) rfl #[.slice A0 l0.length c0, .int .i64 a1] rfl (map2 rfl rfl) ?_; (with_reducible refine (quillref1_Begin.calls k _ _ l0 a1 t306 _ ?side1 ?side2 A4.out).mono ?_); (case side1 => repeat (first | exact (Kd.C_below HR0.out HB.out) | with_reducible first | refine Kd.C_drewN ?_ _ | refine Kd.C_drew ?_ | refine Kd.C_alloc ?_ _)); (case side2 => exact HC0.out); rintro e w' ⟨rfl, ⟨nd, rfl⟩⟩; refine ⟨_, rfl, ?_⟩; (try (rw [drewN_self w18]; generalize hq_ : World.drewN w18 _ = w18; have n0_ : Aside0 (w18.heap[gb305]? = some (.cells #[.int .i64 0, .int .i64 0, .bool false] 35 (0, 0))) := ⟨by rw [← hq_]; exact (by exact BK305.out)⟩; have n1_ : Aside0 (Below w.heap.size w w18) := ⟨by rw [← hq_]; exact (by repeat with_reducible first | exact HB.out | apply pw_below_drewN | apply below_drew1 | apply below_alloc)⟩; clear BK305 HB hq_; have BK305 := n0_; have HB := n1_; clear n0_ n1_))) | ((with_reducible refine gate_callee (f := 57) rfl ?_); refine goesL_ (some 16) rfl rfl Tryd.func57 (by kernel_rfl) rfl #[.slice A0 l0.length c0, .int .i64 a1] rfl (map2 rfl rfl) ?_; (with_reducible refine (quillref1_End.calls k _ _ l0 a1 t307 _ ?side1 ?side2 A5.out).mono ?_); (case side1 => repeat (first | exact (Kd.C_below HR0.out HB.out) | with_reducible first | refine Kd.C_drewN ?_ _ | refine Kd.C_drew ?_ | refine Kd.C_alloc ?_ _)); (case side2 => exact HC0.out); rintro e w' ⟨rfl, ⟨nd, rfl⟩⟩; refine ⟨_, rfl, ?_⟩; (try (rw [drewN_self w18]; generalize hq_ : World.drewN w18 _ = w18; have n0_ : Aside0 (w18.heap[gb305]? = some (.cells #[.int .i64 0, .int .i64 0, .bool false] 35 (0, 0))) := ⟨by rw [← hq_]; exact (by exact BK305.out)⟩; have n1_ : Aside0 (Below w.heap.size w w18) := ⟨by rw [← hq_]; exact (by repeat with_reducible first | exact HB.out | apply pw_below_drewN | apply below_drew1 | apply below_alloc)⟩; clear BK305 HB hq_; have BK305 := n0_; have HB := n1_; clear n0_ n1_))) | ((with_reducible refine gate_callee (f := 59) rfl ?_); refine goesL_ (some 25) rfl rfl Tryd.func59 (by kernel_rfl) rfl #[.slice A0 l0.length c0, .int .i64 t306, .int .i64 t307, .bool (t306 == t307)] rfl (map4 rfl rfl rfl rfl) ?_; (with_reducible refine (quillref15_spread.calls k _ _ l0 t306 t307 (t306 == t307) t308 t309 _ ?side1 ?side2 A6.out).mono ?_); (case side1 => repeat (first | exact (Kd.C_below HR0.out HB.out) | with_reducible first | refine Kd.C_drewN ?_ _ | refine Kd.C_drew ?_ | refine Kd.C_alloc ?_ _)); (case side2 => exact HC0.out); rintro e w' ⟨rfl, ⟨nd, rfl⟩⟩; refine ⟨_, rfl, ?_⟩; (try (rw [drewN_self w18]; generalize hq_ : World.drewN w18 _ = w18; have n0_ : Aside0 (w18.heap[gb305]? = some (.cells #[.int .i64 0, .int .i64 0, .bool false] 35 (0, 0))) := ⟨by rw [← hq_]; exact (by exact BK305.out)⟩; have n1_ : Aside0 (Below w.heap.size w w18) := ⟨by rw [← hq_]; exact (by repeat with_reducible first | exact HB.out | apply pw_below_drewN | apply below_drew1 | apply below_alloc)⟩; clear BK305 HB hq_; have BK305 := n0_; have HB := n1_; clear n0_ n1_))) | ((with_reducible refine gate_callee (f := 58) rfl ?_); refine goesL_ (some 60) rfl rfl Tryd.func58 (by kernel_rfl) rfl #[.slice A0 l0.length c0, .int .i64 (wrap64 (t308 - 1))] rfl (map2 rfl rfl) ?_; (with_reducible refine (quillref1_Begin.calls k _ _ l0 (wrap64 (t308 - 1)) t313 _ ?side1 ?side2 A16.out).mono ?_); (case side1 => repeat (first | exact (Kd.C_below HR0.out HB.out) | with_reducible first | refine Kd.C_drewN ?_ _ | refine Kd.C_drew ?_ | refine Kd.C_alloc ?_ _)); (case side2 => exact HC0.out); rintro e w' ⟨rfl, ⟨nd, rfl⟩⟩; refine ⟨_, rfl, ?_⟩; (try (rw [drewN_self w18]; generalize hq_ : World.drewN w18 _ = w18; have n0_ : Aside0 (w18.heap[gb305]? = some (.cells #[.int .i64 0, .int .i64 0, .bool false] 35 (0, 0))) := ⟨by rw [← hq_]; exact (by exact BK305.out)⟩; have n1_ : Aside0 (Below w.heap.size w w18) := ⟨by rw [← hq_]; exact (by repeat with_reducible first | exact HB.out | apply pw_below_drewN | apply below_drew1 | apply below_alloc)⟩; clear BK305 HB hq_; have BK305 := n0_; have HB := n1_; clear n0_ n1_))) | ((with_reducible refine gate_callee (f := 59) rfl ?_); refine goesL_ (some 65) rfl rfl Tryd.func59 (by kernel_rfl) rfl #[.slice A0 l0.length c0, .int .i64 t313, .int .i64 (wrap64 (t308 - 1)), .bool (!(t306 == t307))] rfl (map4 rfl rfl rfl rfl) ?_; (with_reducible refine (quillref15_spread.calls k _ _ l0 t313 (wrap64 (t308 - 1)) (!(t306 == t307)) t314 t315 _ ?side1 ?side2 A17.out).mono ?_); (case side1 => repeat (first | exact (Kd.C_below HR0.out HB.out) | with_reducible first | refine Kd.C_drewN ?_ _ | refine Kd.C_drew ?_ | refine Kd.C_alloc ?_ _)); (case side2 => exact HC0.out); rintro e w' ⟨rfl, ⟨nd, rfl⟩⟩; refine ⟨_, rfl, ?_⟩; (try (rw [drewN_self w18]; generalize hq_ : World.drewN w18 _ = w18; have n0_ : Aside0 (w18.heap[gb305]? = some (.cells #[.int .i64 0, .int .i64 0, .bool false] 35 (0, 0))) := ⟨by rw [← hq_]; exact (by exact BK305.out)⟩; have n1_ : Aside0 (Below w.heap.size w w18) := ⟨by rw [← hq_]; exact (by repeat with_reducible first | exact HB.out | apply pw_below_drewN | apply below_drew1 | apply below_alloc)⟩; clear BK305 HB hq_; have BK305 := n0_; have HB := n1_; clear n0_ n1_)); have hcz19_0 := cz0 BK305.out; have hcz19_1 := cz1 BK305.out; have hcz19_2 := cz2 BK305.out; have hfz19_0 := blk_frozen BK305.out 0; have hfz19_1 := blk_frozen BK305.out 1; have hfz19_2 := blk_frozen BK305.out 2))
 refine bodyPost_ret (results_ct rfl _ _ gb305 35 #[.int .i64 t314, .int .i64 t309, .bool true] (0, 0) _ rfl (by (with_reducible repeat (first | refine blk_drewN ?_ _ | refine blk_drew ?_ | refine blk_alloc ?_ _)); refine blk_put (cs := #[.int .i64 t314, .int .i64 t309, .bool false]) ?_ 2 _ rfl; (with_reducible repeat (first | refine blk_drewN ?_ _ | refine blk_drew ?_ | refine blk_alloc ?_ _)); refine blk_put (cs := #[.int .i64 t314, .int .i64 0, .bool false]) ?_ 1 _ rfl; (with_reducible repeat (first | refine blk_drewN ?_ _ | refine blk_drew ?_ | refine blk_alloc ?_ _)); refine blk_put (cs := #[.int .i64 0, .int .i64 0, .bool false]) ?_ 0 _ rfl; (with_reducible repeat (first | refine blk_drewN ?_ _ | refine blk_drew ?_ | refine blk_alloc ?_ _)); exact BK305.out) Tryd.underlying35 rfl (by kernel_rfl)) rfl ?_
 exact ⟨by first | rfl | (simp [errW_none, errW_some] <;> rfl) | (simp [*, errW_none, errW_some] <;> rfl), by repeat with_reducible first | exact HB.out | apply pw_below_drewN | refine below_set ?_ GE305.out | apply below_drew1 | apply below_alloc⟩

/-! ### quillref12_opens: function 67 -/
def quillref12_opens.f  : Option (List Int) := some (([40, 91, 123] : List Int))
set_option maxHeartbeats 8000000 in
set_option maxRecDepth 100000 in
theorem quillref12_opens.calls  (r : List Int) (w : World) (h : quillref12_opens.f  = some r) :
  Calls Tryd.prog 67 #[] w fun e w' => ∃ v0_ : Value, e = .returned (v0_) ∧ Kd.R (Kd.int .i32) 21 w' w.heap.size (fun _ => True) v0_ r ∧ Below w.heap.size w w' := by
 have HB := Aside0.mk (Below.refl w.heap.size w)
 have H : (some (([40, 91, 123] : List Int))) = some r := h
 clear h
 obtain ⟨y316, hy316⟩ : ∃ y_ : List Int, y_ = (([40, 91, 123] : List Int)) := ⟨_, rfl⟩
 replace H : (some y316) = some r := by first | (rw [hy316]; with_reducible exact H) | (have H2_ := (Option.bind_some _ _).symm.trans H; rw [hy316]; with_reducible exact H2_) | (have H2_ := (Option.bind_some _ _).symm.trans H; with_reducible exact H2_) | with_reducible exact H | (rw [hy316]; exact H) | exact H
 have Ny316 := Aside0.mk hy316
 clear hy316
 obtain rfl := Option.some.inj H
 go_enter Tryd.func67, Tryd.ntmps67
 go_wp2_with (first | ((with_reducible refine gate_dst (N := 1) rfl ?_); refine Kd.R_lit (Kd.int .i32) _ 21 ?hg (N := 1) ?hd (xs := ([40, 91, 123] : List Int)) (inner := [.int .i32 40, .int .i32 91, .int .i32 123]) (ok := fun _ => True) (okp := fun _ => True) ?hr ?hp (fun _ hk => hk) trivial (Below.refl _ _) (Nat.le_refl _) (by simp) ?_; (case hd => rfl); (case hg => rfl); (case hr => first | (go_simp; done) | (go_simp; rfl)); (case hp => exact (Reps.one (show Kd.M (Kd.int .i32) _ _ _ 40 [.int .i32 40] from rfl) (Reps.one (show Kd.M (Kd.int .i32) _ _ _ 91 [.int .i32 91] from rfl) (Reps.one (show Kd.M (Kd.int .i32) _ _ _ 123 [.int .i32 123] from rfl) (Reps.none _ _))))); intro v317 w1 ho2 hb hg_ hnew_; clear hg_ hnew_; (first | rw [← Ny316.out] at ho2 | (simp only [Int.reduceToNat] at ho2; rw [← Ny316.out] at ho2)); have n0_ := Aside0.mk (Kd.R_lower ho2 (below_size (by repeat with_reducible first | exact HB.out | apply pw_below_drewN | apply below_drew1 | apply below_alloc))); have n1_ := Aside0.mk (below_step (by repeat with_reducible first | exact HB.out | apply pw_below_drewN | apply below_drew1 | apply below_alloc) hb); clear HB; have HO318 := n0_; have HB := n1_; clear n0_ n1_; clear hb ho2))
 go_ret
 exact ⟨_, by first | rfl | (simp [errW_none, errW_some] <;> rfl) | (simp [*, errW_none, errW_some] <;> rfl), by (with_reducible repeat (first | apply Kd.R_alloc | apply Kd.R_drewN | apply Kd.R_drew)); exact HO318.out, by repeat with_reducible first | exact HB.out | apply pw_below_drewN | apply below_drew1 | apply below_alloc⟩

/-! ### quillref12_shuts: function 68 -/
def quillref12_shuts.f  : Option (List Int) := some (([41, 93, 125] : List Int))
set_option maxHeartbeats 8000000 in
set_option maxRecDepth 100000 in
theorem quillref12_shuts.calls  (r : List Int) (w : World) (h : quillref12_shuts.f  = some r) :
  Calls Tryd.prog 68 #[] w fun e w' => ∃ v0_ : Value, e = .returned (v0_) ∧ Kd.R (Kd.int .i32) 21 w' w.heap.size (fun _ => True) v0_ r ∧ Below w.heap.size w w' := by
 have HB := Aside0.mk (Below.refl w.heap.size w)
 have H : (some (([41, 93, 125] : List Int))) = some r := h
 clear h
 obtain ⟨y319, hy319⟩ : ∃ y_ : List Int, y_ = (([41, 93, 125] : List Int)) := ⟨_, rfl⟩
 replace H : (some y319) = some r := by first | (rw [hy319]; with_reducible exact H) | (have H2_ := (Option.bind_some _ _).symm.trans H; rw [hy319]; with_reducible exact H2_) | (have H2_ := (Option.bind_some _ _).symm.trans H; with_reducible exact H2_) | with_reducible exact H | (rw [hy319]; exact H) | exact H
 have Ny319 := Aside0.mk hy319
 clear hy319
 obtain rfl := Option.some.inj H
 go_enter Tryd.func68, Tryd.ntmps68
 go_wp2_with (first | ((with_reducible refine gate_dst (N := 1) rfl ?_); refine Kd.R_lit (Kd.int .i32) _ 21 ?hg (N := 1) ?hd (xs := ([41, 93, 125] : List Int)) (inner := [.int .i32 41, .int .i32 93, .int .i32 125]) (ok := fun _ => True) (okp := fun _ => True) ?hr ?hp (fun _ hk => hk) trivial (Below.refl _ _) (Nat.le_refl _) (by simp) ?_; (case hd => rfl); (case hg => rfl); (case hr => first | (go_simp; done) | (go_simp; rfl)); (case hp => exact (Reps.one (show Kd.M (Kd.int .i32) _ _ _ 41 [.int .i32 41] from rfl) (Reps.one (show Kd.M (Kd.int .i32) _ _ _ 93 [.int .i32 93] from rfl) (Reps.one (show Kd.M (Kd.int .i32) _ _ _ 125 [.int .i32 125] from rfl) (Reps.none _ _))))); intro v320 w1 ho2 hb hg_ hnew_; clear hg_ hnew_; (first | rw [← Ny319.out] at ho2 | (simp only [Int.reduceToNat] at ho2; rw [← Ny319.out] at ho2)); have n0_ := Aside0.mk (Kd.R_lower ho2 (below_size (by repeat with_reducible first | exact HB.out | apply pw_below_drewN | apply below_drew1 | apply below_alloc))); have n1_ := Aside0.mk (below_step (by repeat with_reducible first | exact HB.out | apply pw_below_drewN | apply below_drew1 | apply below_alloc) hb); clear HB; have HO321 := n0_; have HB := n1_; clear n0_ n1_; clear hb ho2))
 go_ret
 exact ⟨_, by first | rfl | (simp [errW_none, errW_some] <;> rfl) | (simp [*, errW_none, errW_some] <;> rfl), by (with_reducible repeat (first | apply Kd.R_alloc | apply Kd.R_drewN | apply Kd.R_drew)); exact HO321.out, by repeat with_reducible first | exact HB.out | apply pw_below_drewN | apply below_drew1 | apply below_alloc⟩

/-! ### quillref12_bracket: function 66 -/
def quillref12_bracket.l0 : Nat → Int → List Int → List Int → Int → Option (Int × Bool)
  | 0, _, _, _, _ => none
  | k + 1, x0, x4, x5, x6 => if x6 < 3 then (if 0 ≤ x6 then (if x6 < (x4.length : Int) then (if (rd x4 x6) = x0 then (some (x6, true)) else (if x6 < (x5.length : Int) then (if (rd x5 x6) = x0 then (some (x6, false)) else (quillref12_bracket.l0 k x0 x4 x5 (wrap64 (x6 + 1)))) else (none))) else (none)) else (none)) else (some ((-1), false))
def quillref12_bracket.f (k : Nat) (a0 : Int) : Option (Int × Bool) := (quillref12_opens.f).bind fun t322 => ((quillref12_shuts.f).bind fun t325 => (quillref12_bracket.l0 k a0 t322 t325 0))
theorem quillref12_bracket.mono_l : ∀ k, (∀ y0 y1 y2 y3, LeO (quillref12_bracket.l0 k y0 y1 y2 y3) (quillref12_bracket.l0 (k + 1) y0 y1 y2 y3))
  | 0 => fun _ _ _ _ r h => by simp [quillref12_bracket.l0] at h
  | k + 1 => by
    have ih0 := quillref12_bracket.mono_l k
    all_goals intros
    all_goals first | unfold quillref12_bracket.l0
    all_goals repeat' first | (with_reducible first | exact ih0 _ _ _ _ | exact LeO.refl _ | exact LeO.none _ | refine LeO.ite ?_ ?_ | refine LeO.bind ?_ (fun _ => ?_)) | exact ih0 _ _ _ _ | exact LeO.refl _ | exact LeO.none _ | refine LeO.ite ?_ ?_ | refine LeO.bind ?_ (fun _ => ?_)
theorem quillref12_bracket.mono : ∀ a0 k, LeO (quillref12_bracket.f k a0) (quillref12_bracket.f (k + 1) a0) := by
  intro a0 k
  have ih0 := quillref12_bracket.mono_l k
  unfold quillref12_bracket.f
  repeat' first | (with_reducible first | exact ih0 _ _ _ _ | exact LeO.refl _ | exact LeO.none _ | refine LeO.ite ?_ ?_ | refine LeO.bind ?_ (fun _ => ?_)) | exact ih0 _ _ _ _ | exact LeO.refl _ | exact LeO.none _ | refine LeO.ite ?_ ?_ | refine LeO.bind ?_ (fun _ => ?_)
set_option maxHeartbeats 8000000 in
set_option maxRecDepth 100000 in
theorem quillref12_bracket.calls (k : Nat) (a0 : Int) (r1 : Int) (r2 : Bool) (w : World) (h : quillref12_bracket.f k a0 = some (r1, r2)) :
  Calls Tryd.prog 66 #[.int .i32 a0] w fun e w' => e = .returned (.tuple #[.int .i64 r1, .bool r2]) ∧ Below w.heap.size w w' := by
 have HB := Aside0.mk (Below.refl w.heap.size w)
 have H : ((quillref12_opens.f).bind fun t322 => ((quillref12_shuts.f).bind fun t325 => (quillref12_bracket.l0 k a0 t322 t325 0))) = some (r1, r2) := h
 clear h
 replace H := Option.bind_eq_some_iff.mp H
 obtain ⟨t322, A20, H⟩ := H
 (try dsimp only at H)
 have A2 := Aside0.mk A20
 clear A20
 replace H := Option.bind_eq_some_iff.mp H
 obtain ⟨t325, A30, H⟩ := H
 (try dsimp only at H)
 have A3 := Aside0.mk A30
 clear A30
 have H' := Aside0.mk H
 clear H
 go_enter Tryd.func66, Tryd.ntmps66
 go_wp2_with (first | ((with_reducible refine gate_callee (f := 67) rfl ?_); refine goesL_ (some 7) rfl rfl Tryd.func67 (by kernel_rfl) rfl #[] rfl (map0) ?_; (with_reducible refine (quillref12_opens.calls  t322 _ A2.out).mono ?_); rintro e w4 ⟨v323, rfl, ho0, hb⟩; refine ⟨_, rfl, ?_⟩; have n0_ := Aside0.mk (Kd.R_lower ho0 (below_size (by repeat with_reducible first | exact HB.out | apply pw_below_drewN | apply below_drew1 | apply below_alloc))); have n1_ := Aside0.mk (below_step (by repeat with_reducible first | exact HB.out | apply pw_below_drewN | apply below_drew1 | apply below_alloc) hb); clear HB; have HO324 := n0_; have HB := n1_; clear n0_ n1_; (try clear hb); (try clear hb2); (try clear hk); (try clear hi); (try clear ho0)) | ((with_reducible refine gate_callee (f := 68) rfl ?_); refine goesL_ (some 8) rfl rfl Tryd.func68 (by kernel_rfl) rfl #[] rfl (map0) ?_; (with_reducible refine (quillref12_shuts.calls  t325 _ A3.out).mono ?_); rintro e w5 ⟨v326, rfl, ho0, hb⟩; refine ⟨_, rfl, ?_⟩; have n0_ := Aside0.mk (Kd.R_elder' (by (with_reducible repeat (first | apply Kd.R_alloc | apply Kd.R_drewN | apply Kd.R_drew)); exact HO324.out) (Kd.R_base ho0) hb); have n1_ := Aside0.mk (Kd.R_lower (Kd.R_new' ho0 (Kd.R_lt (by (with_reducible repeat (first | apply Kd.R_alloc | apply Kd.R_drewN | apply Kd.R_drew)); exact HO324.out))) (below_size (by repeat with_reducible first | exact HB.out | apply pw_below_drewN | apply below_drew1 | apply below_alloc))); have n2_ := Aside0.mk (below_step (by repeat with_reducible first | exact HB.out | apply pw_below_drewN | apply below_drew1 | apply below_alloc) hb); clear HO324; clear HB; have HO324 := n0_; have HO327 := n1_; have HB := n2_; clear n0_ n1_ n2_; (try clear hb); (try clear hb2); (try clear hk); (try clear hi); (try clear ho0)))
 go_loopg [6] k (fun kq v6 w' => ∃ (x6_1 : Int), v6 = .int .i64 x6_1 ∧ Aside0 (quillref12_bracket.l0 kq a0 t322 t325 x6_1 = some (r1, r2)) ∧ Aside0 (kq ≤ k) ∧ Aside0 (Kd.R (Kd.int .i32) 21 w' w.heap.size (fun k_ => some k_ ≠ (v326 : Value).ownBlock) v323 t322) ∧ Aside0 (Kd.R (Kd.int .i32) 21 w' w.heap.size (fun k_ => some k_ ≠ (v323 : Value).ownBlock) v326 t325) ∧ Aside0 (Below w.heap.size w w'))
 case atStart => exact ⟨(0), (by first | rfl | (simp; done) | (simp [*]; done)), H', ⟨Nat.le_refl _⟩, ⟨by (with_reducible repeat (first | apply Kd.R_alloc | apply Kd.R_drewN | apply Kd.R_drew)); exact Kd.R_mono HO324.out (fun _ hk => hk.2)⟩, ⟨by (with_reducible repeat (first | apply Kd.R_alloc | apply Kd.R_drewN | apply Kd.R_drew)); exact Kd.R_mono HO327.out (fun _ hk => hk.2)⟩, ⟨by repeat with_reducible first | exact HB.out | apply pw_below_drewN | apply below_drew1 | apply below_alloc⟩⟩
 case round =>
  clear H'
  obtain ⟨x6_1, rfl, HA, HK1, HO_4, HO_5, HB⟩ := hrel
  cases gk with
  | zero => exact absurd HA.out (by simp [quillref12_bracket.l0])
  | succ k1 =>
   have H := HA.out
   clear HA
   simp only [quillref12_bracket.l0] at H
   by_cases c6 : x6_1 < 3
   rotate_left
   ·
    rw [if_neg c6] at H
    have c6b0 := decide_eq_false c6
    clear c6
    simp only [Option.some.injEq, Prod.mk.injEq] at H
    obtain ⟨rfl, rfl⟩ := H
    go_wp2
    go_ret2
    exact ⟨by first | rfl | (simp [errW_none, errW_some] <;> rfl) | (simp [*, errW_none, errW_some] <;> rfl), by repeat with_reducible first | exact HB.out | apply pw_below_drewN | apply below_drew1 | apply below_alloc⟩
   rw [if_pos c6] at H
   have c6b0 := decide_eq_true c6
   clear c6
   by_cases c7 : 0 ≤ x6_1
   rotate_left
   ·
    rw [if_neg c7] at H
    exact absurd H (by simp)
   rw [if_pos c7] at H
   have c7b0 := decide_eq_true c7
   clear c7
   by_cases c8 : x6_1 < (t322.length : Int)
   rotate_left
   ·
    rw [if_neg c8] at H
    exact absurd H (by simp)
   rw [if_pos c8] at H
   have c8b0 := decide_eq_true c8
   clear c8
   by_cases c9 : (rd t322 x6_1) = a0
   ·
    rw [if_pos c9] at H
    have c9b0 : ((rd t322 x6_1) == a0) = true := beq_iff_eq.mpr c9
    have c9b1 : ((rd t322 x6_1) != a0) = false := bne_eq_false_iff_eq.mpr c9
    clear c9
    simp only [Option.some.injEq, Prod.mk.injEq] at H
    obtain ⟨rfl, rfl⟩ := H
    obtain ⟨Ao10, co10, eo10⟩ := Kd.R_slice HO_4.out
    subst eo10
    have p328 : 0 ≤ (x6_1 : Int) := of_decide_eq_true (by assumption)
    have q328 : x6_1 < (t322.length : Int) := of_decide_eq_true (by assumption)
    obtain ⟨ad328, e328, hx328_0⟩ := Kd.at_int (Kd.R_reads' HO_4.out).2.2 x6_1 p328 q328
    cases e328
    replace p328 := eq_true p328
    replace q328 := eq_true q328
    go_wp2
    go_ret2
    exact ⟨by first | rfl | (simp [errW_none, errW_some] <;> rfl) | (simp [*, errW_none, errW_some] <;> rfl), by repeat with_reducible first | exact HB.out | apply pw_below_drewN | apply below_drew1 | apply below_alloc⟩
   rw [if_neg c9] at H
   have c9b0 : ((rd t322 x6_1) == a0) = false := beq_eq_false_iff_ne.mpr c9
   have c9b1 : ((rd t322 x6_1) != a0) = true := bne_iff_ne.mpr c9
   by_cases c11 : x6_1 < (t325.length : Int)
   rotate_left
   ·
    rw [if_neg c11] at H
    exact absurd H (by simp)
   rw [if_pos c11] at H
   have c11b0 := decide_eq_true c11
   clear c11
   by_cases c12 : (rd t325 x6_1) = a0
   ·
    rw [if_pos c12] at H
    have c12b0 : ((rd t325 x6_1) == a0) = true := beq_iff_eq.mpr c12
    have c12b1 : ((rd t325 x6_1) != a0) = false := bne_eq_false_iff_eq.mpr c12
    clear c12
    simp only [Option.some.injEq, Prod.mk.injEq] at H
    obtain ⟨rfl, rfl⟩ := H
    obtain ⟨Ao13, co13, eo13⟩ := Kd.R_slice HO_4.out
    subst eo13
    have p328 : 0 ≤ (x6_1 : Int) := of_decide_eq_true (by assumption)
    have q328 : x6_1 < (t322.length : Int) := of_decide_eq_true (by assumption)
    obtain ⟨ad328, e328, hx328_0⟩ := Kd.at_int (Kd.R_reads' HO_4.out).2.2 x6_1 p328 q328
    cases e328
    replace p328 := eq_true p328
    replace q328 := eq_true q328
    obtain ⟨Ao14, co14, eo14⟩ := Kd.R_slice HO_5.out
    subst eo14
    have p329 : 0 ≤ (x6_1 : Int) := of_decide_eq_true (by assumption)
    have q329 : x6_1 < (t325.length : Int) := of_decide_eq_true (by assumption)
    obtain ⟨ad329, e329, hx329_0⟩ := Kd.at_int (Kd.R_reads' HO_5.out).2.2 x6_1 p329 q329
    cases e329
    replace p329 := eq_true p329
    replace q329 := eq_true q329
    go_wp2
    go_ret2
    exact ⟨by first | rfl | (simp [errW_none, errW_some] <;> rfl) | (simp [*, errW_none, errW_some] <;> rfl), by repeat with_reducible first | exact HB.out | apply pw_below_drewN | apply below_drew1 | apply below_alloc⟩
   rw [if_neg c12] at H
   have c12b0 : ((rd t325 x6_1) == a0) = false := beq_eq_false_iff_ne.mpr c12
   have c12b1 : ((rd t325 x6_1) != a0) = true := bne_iff_ne.mpr c12
   have H' := Aside0.mk H
   clear H
   obtain ⟨Ao15, co15, eo15⟩ := Kd.R_slice HO_4.out
   subst eo15
   have p328 : 0 ≤ (x6_1 : Int) := of_decide_eq_true (by assumption)
   have q328 : x6_1 < (t322.length : Int) := of_decide_eq_true (by assumption)
   obtain ⟨ad328, e328, hx328_0⟩ := Kd.at_int (Kd.R_reads' HO_4.out).2.2 x6_1 p328 q328
   cases e328
   replace p328 := eq_true p328
   replace q328 := eq_true q328
   obtain ⟨Ao16, co16, eo16⟩ := Kd.R_slice HO_5.out
   subst eo16
   have p329 : 0 ≤ (x6_1 : Int) := of_decide_eq_true (by assumption)
   have q329 : x6_1 < (t325.length : Int) := of_decide_eq_true (by assumption)
   obtain ⟨ad329, e329, hx329_0⟩ := Kd.at_int (Kd.R_reads' HO_5.out).2.2 x6_1 p329 q329
   cases e329
   replace p329 := eq_true p329
   replace q329 := eq_true q329
   go_wp2
   go_roundg k1
   case measure => have := HK1.out; omega
   case rel => exact ⟨(wrap64 (x6_1 + 1)), (by first | rfl | (simp; done) | (simp [*]; done)), H', ⟨by have := HK1.out; omega⟩, ⟨by (with_reducible repeat (first | apply Kd.R_alloc | apply Kd.R_drewN | apply Kd.R_drew)); exact HO_4.out⟩, ⟨by (with_reducible repeat (first | apply Kd.R_alloc | apply Kd.R_drewN | apply Kd.R_drew)); exact HO_5.out⟩, ⟨by repeat with_reducible first | exact HB.out | apply pw_below_drewN | apply below_drew1 | apply below_alloc⟩⟩

end Go.Proofs.YtgikaemhhaejoaaDoor.P
