/- The walks of the functions that these statements reach: each Go function as a plain Lean function, and the proof that its call comes to that. Written by the session's program wip/pp.py. -/
import Derived.Test.YtbgmmcngkdhpcaaDoorP0
import Derived.Test.YtbgmmcngkdhpcaaDoorP4
namespace Go.Proofs.YtbgmmcngkdhpcaaDoor.P
open Go.Proofs.YtbgmmcngkdhpcaaDoor
open Go.RowKit Go.Proofs.YtbgmmcngkdhpcaaDoorW.PrintWords Go.Proofs.YtbgmmcngkdhpcaaDoorW.PrintLast Go.Proofs.YtbgmmcngkdhpcaaDoorW.PrintMore
attribute [local go_sem] cell_isSome max2_int min2_int max_two min_two max_three min_three max_four min_four   -- for this text's walks alone
set_option linter.unusedVariables false
set_option linter.unusedSimpArgs false

/-! ### object_Is: function 73 -/
def object_Is.f (a0 : Int) : Option (Bool) := if a0 > 0 then (if a0 < 128 then ((strings_ContainsRune.f (⟨#[119, 87, 34, 40, 41, 98, 91, 93, 123, 125, 66, 112]⟩ : ByteArray) (wrap32 (a0))).bind fun t300 => (some t300)) else (some false)) else (some false)
set_option maxHeartbeats 8000000 in
set_option maxRecDepth 100000 in
theorem object_Is.calls (a0 : Int) (r : Bool) (w : World) (h : object_Is.f a0 = some r) :
  Calls Tryd.prog 73 #[.int .i64 a0] w fun e w' => e = .returned (.bool r) ∧ Drawn0 w w' := by
 have H : (if a0 > 0 then (if a0 < 128 then ((strings_ContainsRune.f (⟨#[119, 87, 34, 40, 41, 98, 91, 93, 123, 125, 66, 112]⟩ : ByteArray) (wrap32 (a0))).bind fun t300 => (some t300)) else (some false)) else (some false)) = some r := h
 clear h
 by_cases c2 : a0 > 0
 rotate_left
 ·
  rw [if_neg c2] at H
  have c2b0 := decide_eq_false c2
  clear c2
  obtain rfl := Option.some.inj H
  go_enter Tryd.func73, Tryd.ntmps73
  go_wp2
  go_ret
  exact ⟨by first | rfl | (simp; done) | (simp [*]; done), by repeat (first | exact Drawn0.refl _ | apply Drawn0.step)⟩
 rw [if_pos c2] at H
 have c2b0 := decide_eq_true c2
 clear c2
 by_cases c3 : a0 < 128
 rotate_left
 ·
  rw [if_neg c3] at H
  have c3b0 := decide_eq_false c3
  clear c3
  obtain rfl := Option.some.inj H
  go_enter Tryd.func73, Tryd.ntmps73
  go_wp2
  go_ret
  exact ⟨by first | rfl | (simp; done) | (simp [*]; done), by repeat (first | exact Drawn0.refl _ | apply Drawn0.step)⟩
 rw [if_pos c3] at H
 have c3b0 := decide_eq_true c3
 clear c3
 replace H := Option.bind_eq_some_iff.mp H
 obtain ⟨t300, A40, H⟩ := H
 (try dsimp only at H)
 have A4 := Aside0.mk A40
 clear A40
 obtain rfl := Option.some.inj H
 go_enter Tryd.func73, Tryd.ntmps73
 go_wp2_with (first | (go_at_call 102; (with_reducible refine (strings_ContainsRune.calls (⟨#[119, 87, 34, 40, 41, 98, 91, 93, 123, 125, 66, 112]⟩ : ByteArray) (wrap32 (a0)) t300 _ A4.out).mono ?_); rintro e w' ⟨rfl, ⟨nd, rfl⟩⟩))
 go_ret
 exact ⟨by first | rfl | (simp; done) | (simp [*]; done), by repeat (first | exact Drawn0.refl _ | apply Drawn0.step)⟩

/-! ### region_may: function 52 -/
mutual
def region_may.j0 : Nat → Bool → Int → Int → Int → Int → Int → Int → Option (Bool)
  | 0, _, _, _, _, _, _, _ => none
  | k + 1, x10, v0, v1, v2, v3, v4, v5 => if x10 = true then (some false) else (if v2 = 100 then (region_may.j1 k v0 v1 v2 v3 v4 v5) else (if v2 = 99 then (region_may.j1 k v0 v1 v2 v3 v4 v5) else (if v2 = 121 then (region_may.j1 k v0 v1 v2 v3 v4 v5) else (if v2 = 62 then (region_may.j1 k v0 v1 v2 v3 v4 v5) else (if v2 = 60 then (region_may.j1 k v0 v1 v2 v3 v4 v5) else (if v2 = 16777333 then (region_may.j1 k v0 v1 v2 v3 v4 v5) else (if v2 = 16777301 then (region_may.j1 k v0 v1 v2 v3 v4 v5) else (if v2 = 16777342 then (region_may.j1 k v0 v1 v2 v3 v4 v5) else (some false)))))))))
def region_may.j1 : Nat → Int → Int → Int → Int → Int → Int → Option (Bool)
  | 0, _, _, _, _, _, _ => none
  | k + 1, v0, v1, v2, v3, v4, v5 => if v4 = 0 then (if v3 = v2 then (some true) else ((move_Is.f v3).bind fun t302 => (some t302))) else (if v4 = 105 then ((object_Is.f v3).bind fun t303 => (some t303)) else (if v4 = 97 then ((object_Is.f v3).bind fun t304 => (some t304)) else (some false)))
end
def region_may.f (k : Nat) (a0_0 : Int) (a0_1 : Int) (a0_2 : Int) (a0_3 : Int) (a0_4 : Int) (a0_5 : Int) : Option (Bool) := if a0_1 < 0 then (region_may.j0 k true a0_0 a0_1 a0_2 a0_3 a0_4 a0_5) else (region_may.j0 k (decide (a0_1 > 999)) a0_0 a0_1 a0_2 a0_3 a0_4 a0_5)
theorem region_may.mono_l : ∀ k, (∀ y0 y1 y2 y3 y4 y5 y6, LeO (region_may.j0 k y0 y1 y2 y3 y4 y5 y6) (region_may.j0 (k + 1) y0 y1 y2 y3 y4 y5 y6)) ∧ (∀ y0 y1 y2 y3 y4 y5, LeO (region_may.j1 k y0 y1 y2 y3 y4 y5) (region_may.j1 (k + 1) y0 y1 y2 y3 y4 y5))
  | 0 => ⟨fun _ _ _ _ _ _ _ r h => by simp [region_may.j0] at h, fun _ _ _ _ _ _ r h => by simp [region_may.j1] at h⟩
  | k + 1 => by
    obtain ⟨ih0, ih1⟩ := region_may.mono_l k
    refine ⟨?_, ?_⟩
    all_goals intros
    all_goals first | unfold region_may.j0 | unfold region_may.j1
    all_goals repeat' first | (with_reducible first | exact ih0 _ _ _ _ _ _ _ | exact ih1 _ _ _ _ _ _ | exact LeO.refl _ | exact LeO.none _ | refine LeO.ite ?_ ?_ | refine LeO.bind ?_ (fun _ => ?_)) | exact ih0 _ _ _ _ _ _ _ | exact ih1 _ _ _ _ _ _ | exact LeO.refl _ | exact LeO.none _ | refine LeO.ite ?_ ?_ | refine LeO.bind ?_ (fun _ => ?_)
theorem region_may.mono : ∀ a0 a1 a2 a3 a4 a5 k, LeO (region_may.f k a0 a1 a2 a3 a4 a5) (region_may.f (k + 1) a0 a1 a2 a3 a4 a5) := by
  intro a0 a1 a2 a3 a4 a5 k
  obtain ⟨ih0, ih1⟩ := region_may.mono_l k
  unfold region_may.f
  repeat' first | (with_reducible first | exact ih0 _ _ _ _ _ _ _ | exact ih1 _ _ _ _ _ _ | exact LeO.refl _ | exact LeO.none _ | refine LeO.ite ?_ ?_ | refine LeO.bind ?_ (fun _ => ?_)) | exact ih0 _ _ _ _ _ _ _ | exact ih1 _ _ _ _ _ _ | exact LeO.refl _ | exact LeO.none _ | refine LeO.ite ?_ ?_ | refine LeO.bind ?_ (fun _ => ?_)
set_option maxHeartbeats 8000000 in
set_option maxRecDepth 100000 in
theorem region_may.calls (k : Nat) (a0_0 : Int) (a0_1 : Int) (a0_2 : Int) (a0_3 : Int) (a0_4 : Int) (a0_5 : Int) (r : Bool) (w : World) (h : region_may.f k a0_0 a0_1 a0_2 a0_3 a0_4 a0_5 = some r) :
  Calls Tryd.prog 52 #[.agg #[.int .i64 a0_0, .int .i64 a0_1, .int .i64 a0_2, .int .i64 a0_3, .int .i64 a0_4, .int .i64 a0_5]] w fun e w' => e = .returned (.bool r) ∧ Below w.heap.size w w' := by
 have hu52 := Tryd.underlying52
 have HB := Aside0.mk (Below.refl w.heap.size w)
 have H : (if a0_1 < 0 then (region_may.j0 k true a0_0 a0_1 a0_2 a0_3 a0_4 a0_5) else (region_may.j0 k (decide (a0_1 > 999)) a0_0 a0_1 a0_2 a0_3 a0_4 a0_5)) = some r := h
 clear h
 have HC2 := Aside0.mk H
 clear H
 go_enter Tryd.func52, Tryd.ntmps52
 go_upto_region 1 with (first | ((with_reducible refine gate_dst (N := 1) rfl ?_); refine box_event ?hg (N := 1) ?hd (cs := #[.int .i64 a0_0, .int .i64 a0_1, .int .i64 a0_2, .int .i64 a0_3, .int .i64 a0_4, .int .i64 a0_5]) (t := 52) ?hr ?_; (case hd => rfl); (case hg => rfl); (case hr => first | (go_simp; done) | (go_simp; rfl)); intro gb301 hg w3 hbox hb; have n0_ := Aside0.mk (below_step (by repeat with_reducible first | exact HB.out | apply pw_below_drewN | apply below_drew1 | apply below_alloc) hb); have n1_ := Aside0.mk (hbox); have n2_ := Aside0.mk (geb hg (by repeat with_reducible first | exact HB.out | apply pw_below_drewN | apply below_drew1 | apply below_alloc)); have n3_ := n2_; clear HB; have HB := n0_; have BK301 := n1_; have GW301 := n2_; have GE301 := n3_; clear n0_ n1_ n2_ n3_; clear hb hbox hg))
 (try simp only [Act.put, List.setIfInBounds_toArray, List.set_cons_zero, List.set_cons_succ])
 go_cut [10] (fun v10 wc => ∃ (kq : Nat) (x10_1 : Bool), v10 = .bool x10_1 ∧ Aside0 (region_may.j0 kq x10_1 a0_0 a0_1 a0_2 a0_3 a0_4 a0_5 = some r) ∧ Aside0 (kq ≤ k) ∧ Aside0 (wc.heap[gb301]? = some (.cells #[.int .i64 a0_0, .int .i64 a0_1, .int .i64 a0_2, .int .i64 a0_3, .int .i64 a0_4, .int .i64 a0_5] 52 (0, 0))) ∧ Aside0 (Below w.heap.size w wc))
 case first =>
  have H := HC2.out
  clear HC2
  by_cases c4 : a0_1 < 0
  ·
   rw [if_pos c4] at H
   have c4b0 := decide_eq_true c4
   clear c4
   (first | rw [c4b0] | (simp only [i64_w, i32_w]; rw [c4b0]) | skip)
   have H' := Aside0.mk H
   clear H
   have hcz5_0 := cz0 BK301.out
   have hcz5_1 := cz1 BK301.out
   have hcz5_2 := cz2 BK301.out
   have hcz5_3 := cz3 BK301.out
   have hcz5_4 := cz4 BK301.out
   have hcz5_5 := cz5 BK301.out
   have hfz5_0 := blk_frozen BK301.out 0
   have hfz5_1 := blk_frozen BK301.out 1
   have hfz5_2 := blk_frozen BK301.out 2
   have hfz5_3 := blk_frozen BK301.out 3
   have hfz5_4 := blk_frozen BK301.out 4
   have hfz5_5 := blk_frozen BK301.out 5
   go_wp2
   go_meet
   case rel => exact ⟨_, (true), (by first | rfl | (simp; done) | (simp [*]; done)), H', ⟨by first | omega | exact Nat.le_refl _⟩, ⟨BK301.out⟩, ⟨by repeat with_reducible first | exact HB.out | apply pw_below_drewN | apply below_drew1 | apply below_alloc⟩⟩
  rw [if_neg c4] at H
  have c4b0 := decide_eq_false c4
  clear c4
  (first | rw [c4b0] | (simp only [i64_w, i32_w]; rw [c4b0]) | skip)
  have H' := Aside0.mk H
  clear H
  have hcz6_0 := cz0 BK301.out
  have hcz6_1 := cz1 BK301.out
  have hcz6_2 := cz2 BK301.out
  have hcz6_3 := cz3 BK301.out
  have hcz6_4 := cz4 BK301.out
  have hcz6_5 := cz5 BK301.out
  have hfz6_0 := blk_frozen BK301.out 0
  have hfz6_1 := blk_frozen BK301.out 1
  have hfz6_2 := blk_frozen BK301.out 2
  have hfz6_3 := blk_frozen BK301.out 3
  have hfz6_4 := blk_frozen BK301.out 4
  have hfz6_5 := blk_frozen BK301.out 5
  go_wp2
  go_meet
  case rel => exact ⟨_, (decide (a0_1 > 999)), (by first | rfl | (simp; done) | (simp [*]; done)), H', ⟨by first | omega | exact Nat.le_refl _⟩, ⟨BK301.out⟩, ⟨by repeat with_reducible first | exact HB.out | apply pw_below_drewN | apply below_drew1 | apply below_alloc⟩⟩
 case rest =>
  clear HC2
  obtain ⟨kq, x10_1, rfl, HA, HJ1, BK301, HB⟩ := hcut
  cases kq with
  | zero => exact absurd HA.out (by simp [region_may.j0])
  | succ kj1 =>
   have H := HA.out
   clear HA
   simp only [region_may.j0] at H
   by_cases c7 : x10_1 = true
   ·
    subst c7
    have H1 : (some false) = some r := by rw [if_pos rfl] at H; exact H
    clear H
    have H := H1
    clear H1
    obtain rfl := Option.some.inj H
    go_wp2
    go_ret
    exact ⟨by first | rfl | (simp [errW_none, errW_some] <;> rfl) | (simp [*, errW_none, errW_some] <;> rfl), by repeat with_reducible first | exact HB.out | apply pw_below_drewN | apply below_drew1 | apply below_alloc⟩
   replace c7 := Bool.eq_false_iff.mpr c7
   subst c7
   have H1 : (if a0_2 = 100 then (region_may.j1 kj1 a0_0 a0_1 a0_2 a0_3 a0_4 a0_5) else (if a0_2 = 99 then (region_may.j1 kj1 a0_0 a0_1 a0_2 a0_3 a0_4 a0_5) else (if a0_2 = 121 then (region_may.j1 kj1 a0_0 a0_1 a0_2 a0_3 a0_4 a0_5) else (if a0_2 = 62 then (region_may.j1 kj1 a0_0 a0_1 a0_2 a0_3 a0_4 a0_5) else (if a0_2 = 60 then (region_may.j1 kj1 a0_0 a0_1 a0_2 a0_3 a0_4 a0_5) else (if a0_2 = 16777333 then (region_may.j1 kj1 a0_0 a0_1 a0_2 a0_3 a0_4 a0_5) else (if a0_2 = 16777301 then (region_may.j1 kj1 a0_0 a0_1 a0_2 a0_3 a0_4 a0_5) else (if a0_2 = 16777342 then (region_may.j1 kj1 a0_0 a0_1 a0_2 a0_3 a0_4 a0_5) else (some false))))))))) = some r := by rw [if_neg (show ¬ (false = true) by decide)] at H; exact H
   clear H
   have H := H1
   clear H1
   have HC8 := Aside0.mk H
   clear H
   have hcz9_0 := cz0 BK301.out
   have hcz9_1 := cz1 BK301.out
   have hcz9_2 := cz2 BK301.out
   have hcz9_3 := cz3 BK301.out
   have hcz9_4 := cz4 BK301.out
   have hcz9_5 := cz5 BK301.out
   have hfz9_0 := blk_frozen BK301.out 0
   have hfz9_1 := blk_frozen BK301.out 1
   have hfz9_2 := blk_frozen BK301.out 2
   have hfz9_3 := blk_frozen BK301.out 3
   have hfz9_4 := blk_frozen BK301.out 4
   have hfz9_5 := blk_frozen BK301.out 5
   go_upto_block 0 with (fail)
   go_cut [] (fun wc => ∃ (kq : Nat), Aside0 (region_may.j1 kq a0_0 a0_1 a0_2 a0_3 a0_4 a0_5 = some r) ∧ Aside0 (kq ≤ kj1) ∧ Aside0 (wc.heap[gb301]? = some (.cells #[.int .i64 a0_0, .int .i64 a0_1, .int .i64 a0_2, .int .i64 a0_3, .int .i64 a0_4, .int .i64 a0_5] 52 (0, 0))) ∧ Aside0 (Below w.heap.size w wc))
   case first =>
    have H := HC8.out
    clear HC8
    by_cases c10 : a0_2 = 100
    ·
     rw [if_pos c10] at H
     have c10b0 : (a0_2 == 100) = true := beq_iff_eq.mpr c10
     have c10b1 : (a0_2 != 100) = false := bne_eq_false_iff_eq.mpr c10
     clear c10
     (first | rw [c10b0] | (simp only [i64_w, i32_w]; rw [c10b0]) | skip)
     have H' := Aside0.mk H
     clear H
     go_wp2
     go_meet
     case rel => exact ⟨_, H', ⟨by have := HJ1.out; first | omega | exact Nat.le_refl _⟩, ⟨BK301.out⟩, ⟨by repeat with_reducible first | exact HB.out | apply pw_below_drewN | apply below_drew1 | apply below_alloc⟩⟩
    rw [if_neg c10] at H
    have c10b0 : (a0_2 == 100) = false := beq_eq_false_iff_ne.mpr c10
    have c10b1 : (a0_2 != 100) = true := bne_iff_ne.mpr c10
    (first | rw [c10b0] | (simp only [i64_w, i32_w]; rw [c10b0]) | skip)
    by_cases c11 : a0_2 = 99
    ·
     rw [if_pos c11] at H
     have c11b0 : (a0_2 == 99) = true := beq_iff_eq.mpr c11
     have c11b1 : (a0_2 != 99) = false := bne_eq_false_iff_eq.mpr c11
     clear c11
     have H' := Aside0.mk H
     clear H
     go_wp2
     go_meet
     case rel => exact ⟨_, H', ⟨by have := HJ1.out; first | omega | exact Nat.le_refl _⟩, ⟨BK301.out⟩, ⟨by repeat with_reducible first | exact HB.out | apply pw_below_drewN | apply below_drew1 | apply below_alloc⟩⟩
    rw [if_neg c11] at H
    have c11b0 : (a0_2 == 99) = false := beq_eq_false_iff_ne.mpr c11
    have c11b1 : (a0_2 != 99) = true := bne_iff_ne.mpr c11
    by_cases c12 : a0_2 = 121
    ·
     rw [if_pos c12] at H
     have c12b0 : (a0_2 == 121) = true := beq_iff_eq.mpr c12
     have c12b1 : (a0_2 != 121) = false := bne_eq_false_iff_eq.mpr c12
     clear c12
     have H' := Aside0.mk H
     clear H
     go_wp2
     go_meet
     case rel => exact ⟨_, H', ⟨by have := HJ1.out; first | omega | exact Nat.le_refl _⟩, ⟨BK301.out⟩, ⟨by repeat with_reducible first | exact HB.out | apply pw_below_drewN | apply below_drew1 | apply below_alloc⟩⟩
    rw [if_neg c12] at H
    have c12b0 : (a0_2 == 121) = false := beq_eq_false_iff_ne.mpr c12
    have c12b1 : (a0_2 != 121) = true := bne_iff_ne.mpr c12
    by_cases c13 : a0_2 = 62
    ·
     rw [if_pos c13] at H
     have c13b0 : (a0_2 == 62) = true := beq_iff_eq.mpr c13
     have c13b1 : (a0_2 != 62) = false := bne_eq_false_iff_eq.mpr c13
     clear c13
     have H' := Aside0.mk H
     clear H
     go_wp2
     go_meet
     case rel => exact ⟨_, H', ⟨by have := HJ1.out; first | omega | exact Nat.le_refl _⟩, ⟨BK301.out⟩, ⟨by repeat with_reducible first | exact HB.out | apply pw_below_drewN | apply below_drew1 | apply below_alloc⟩⟩
    rw [if_neg c13] at H
    have c13b0 : (a0_2 == 62) = false := beq_eq_false_iff_ne.mpr c13
    have c13b1 : (a0_2 != 62) = true := bne_iff_ne.mpr c13
    by_cases c14 : a0_2 = 60
    ·
     rw [if_pos c14] at H
     have c14b0 : (a0_2 == 60) = true := beq_iff_eq.mpr c14
     have c14b1 : (a0_2 != 60) = false := bne_eq_false_iff_eq.mpr c14
     clear c14
     have H' := Aside0.mk H
     clear H
     go_wp2
     go_meet
     case rel => exact ⟨_, H', ⟨by have := HJ1.out; first | omega | exact Nat.le_refl _⟩, ⟨BK301.out⟩, ⟨by repeat with_reducible first | exact HB.out | apply pw_below_drewN | apply below_drew1 | apply below_alloc⟩⟩
    rw [if_neg c14] at H
    have c14b0 : (a0_2 == 60) = false := beq_eq_false_iff_ne.mpr c14
    have c14b1 : (a0_2 != 60) = true := bne_iff_ne.mpr c14
    by_cases c15 : a0_2 = 16777333
    ·
     rw [if_pos c15] at H
     have c15b0 : (a0_2 == 16777333) = true := beq_iff_eq.mpr c15
     have c15b1 : (a0_2 != 16777333) = false := bne_eq_false_iff_eq.mpr c15
     clear c15
     have H' := Aside0.mk H
     clear H
     go_wp2
     go_meet
     case rel => exact ⟨_, H', ⟨by have := HJ1.out; first | omega | exact Nat.le_refl _⟩, ⟨BK301.out⟩, ⟨by repeat with_reducible first | exact HB.out | apply pw_below_drewN | apply below_drew1 | apply below_alloc⟩⟩
    rw [if_neg c15] at H
    have c15b0 : (a0_2 == 16777333) = false := beq_eq_false_iff_ne.mpr c15
    have c15b1 : (a0_2 != 16777333) = true := bne_iff_ne.mpr c15
    by_cases c16 : a0_2 = 16777301
    ·
     rw [if_pos c16] at H
     have c16b0 : (a0_2 == 16777301) = true := beq_iff_eq.mpr c16
     have c16b1 : (a0_2 != 16777301) = false := bne_eq_false_iff_eq.mpr c16
     clear c16
     have H' := Aside0.mk H
     clear H
     go_wp2
     go_meet
     case rel => exact ⟨_, H', ⟨by have := HJ1.out; first | omega | exact Nat.le_refl _⟩, ⟨BK301.out⟩, ⟨by repeat with_reducible first | exact HB.out | apply pw_below_drewN | apply below_drew1 | apply below_alloc⟩⟩
    rw [if_neg c16] at H
    have c16b0 : (a0_2 == 16777301) = false := beq_eq_false_iff_ne.mpr c16
    have c16b1 : (a0_2 != 16777301) = true := bne_iff_ne.mpr c16
    by_cases c17 : a0_2 = 16777342
    rotate_left
    ·
     rw [if_neg c17] at H
     have c17b0 : (a0_2 == 16777342) = false := beq_eq_false_iff_ne.mpr c17
     have c17b1 : (a0_2 != 16777342) = true := bne_iff_ne.mpr c17
     obtain rfl := Option.some.inj H
     go_wp2
     go_ret
     exact ⟨by first | rfl | (simp [errW_none, errW_some] <;> rfl) | (simp [*, errW_none, errW_some] <;> rfl), by repeat with_reducible first | exact HB.out | apply pw_below_drewN | apply below_drew1 | apply below_alloc⟩
    rw [if_pos c17] at H
    have c17b0 : (a0_2 == 16777342) = true := beq_iff_eq.mpr c17
    have c17b1 : (a0_2 != 16777342) = false := bne_eq_false_iff_eq.mpr c17
    clear c17
    have H' := Aside0.mk H
    clear H
    go_wp2
    go_meet
    case rel => exact ⟨_, H', ⟨by have := HJ1.out; first | omega | exact Nat.le_refl _⟩, ⟨BK301.out⟩, ⟨by repeat with_reducible first | exact HB.out | apply pw_below_drewN | apply below_drew1 | apply below_alloc⟩⟩
   case rest =>
    clear HC8
    try clear c7
    try clear hcz9_0
    try clear hcz9_1
    try clear hcz9_2
    try clear hcz9_3
    try clear hcz9_4
    try clear hcz9_5
    try clear hfz9_0
    try clear hfz9_1
    try clear hfz9_2
    try clear hfz9_3
    try clear hfz9_4
    try clear hfz9_5
    obtain ⟨kq, HA, HJ7, BK301, HB⟩ := hcut
    cases kq with
    | zero => exact absurd HA.out (by simp [region_may.j1])
    | succ kj7 =>
     have H := HA.out
     clear HA
     simp only [region_may.j1] at H
     by_cases c18 : a0_4 = 0
     ·
      rw [if_pos c18] at H
      have c18b0 : (a0_4 == 0) = true := beq_iff_eq.mpr c18
      have c18b1 : (a0_4 != 0) = false := bne_eq_false_iff_eq.mpr c18
      clear c18
      by_cases c19 : a0_3 = a0_2
      ·
       rw [if_pos c19] at H
       have c19b0 : (a0_3 == a0_2) = true := beq_iff_eq.mpr c19
       have c19b1 : (a0_3 != a0_2) = false := bne_eq_false_iff_eq.mpr c19
       clear c19
       obtain rfl := Option.some.inj H
       have hcz20_0 := cz0 BK301.out
       have hcz20_1 := cz1 BK301.out
       have hcz20_2 := cz2 BK301.out
       have hcz20_3 := cz3 BK301.out
       have hcz20_4 := cz4 BK301.out
       have hcz20_5 := cz5 BK301.out
       have hfz20_0 := blk_frozen BK301.out 0
       have hfz20_1 := blk_frozen BK301.out 1
       have hfz20_2 := blk_frozen BK301.out 2
       have hfz20_3 := blk_frozen BK301.out 3
       have hfz20_4 := blk_frozen BK301.out 4
       have hfz20_5 := blk_frozen BK301.out 5
       go_wp2
       go_ret
       exact ⟨by first | rfl | (simp [errW_none, errW_some] <;> rfl) | (simp [*, errW_none, errW_some] <;> rfl), by repeat with_reducible first | exact HB.out | apply pw_below_drewN | apply below_drew1 | apply below_alloc⟩
      rw [if_neg c19] at H
      have c19b0 : (a0_3 == a0_2) = false := beq_eq_false_iff_ne.mpr c19
      have c19b1 : (a0_3 != a0_2) = true := bne_iff_ne.mpr c19
      replace H := Option.bind_eq_some_iff.mp H
      obtain ⟨t302, A210, H⟩ := H
      (try dsimp only at H)
      have A21 := Aside0.mk A210
      clear A210
      obtain rfl := Option.some.inj H
      have hcz22_0 := cz0 BK301.out
      have hcz22_1 := cz1 BK301.out
      have hcz22_2 := cz2 BK301.out
      have hcz22_3 := cz3 BK301.out
      have hcz22_4 := cz4 BK301.out
      have hcz22_5 := cz5 BK301.out
      have hfz22_0 := blk_frozen BK301.out 0
      have hfz22_1 := blk_frozen BK301.out 1
      have hfz22_2 := blk_frozen BK301.out 2
      have hfz22_3 := blk_frozen BK301.out 3
      have hfz22_4 := blk_frozen BK301.out 4
      have hfz22_5 := blk_frozen BK301.out 5
      go_wp2_with (first | (go_at_call 21; (with_reducible refine (move_Is.calls a0_3 t302 _ A21.out).mono ?_); rintro e w23 ⟨rfl, hb⟩; have n0_ := Aside0.mk (blb hb BK301.out); have n1_ := Aside0.mk (below_step (by repeat with_reducible first | exact HB.out | apply pw_below_drewN | apply below_drew1 | apply below_alloc) hb); clear BK301; clear HB; have BK301 := n0_; have HB := n1_; clear n0_ n1_; (try clear hb); (try clear hb2); (try clear hk); (try clear hi)))
      go_ret
      exact ⟨by first | rfl | (simp [errW_none, errW_some] <;> rfl) | (simp [*, errW_none, errW_some] <;> rfl), by repeat with_reducible first | exact HB.out | apply pw_below_drewN | apply below_drew1 | apply below_alloc⟩
     rw [if_neg c18] at H
     have c18b0 : (a0_4 == 0) = false := beq_eq_false_iff_ne.mpr c18
     have c18b1 : (a0_4 != 0) = true := bne_iff_ne.mpr c18
     by_cases c24 : a0_4 = 105
     ·
      rw [if_pos c24] at H
      have c24b0 : (a0_4 == 105) = true := beq_iff_eq.mpr c24
      have c24b1 : (a0_4 != 105) = false := bne_eq_false_iff_eq.mpr c24
      clear c24
      replace H := Option.bind_eq_some_iff.mp H
      obtain ⟨t303, A250, H⟩ := H
      (try dsimp only at H)
      have A25 := Aside0.mk A250
      clear A250
      obtain rfl := Option.some.inj H
      have hcz26_0 := cz0 BK301.out
      have hcz26_1 := cz1 BK301.out
      have hcz26_2 := cz2 BK301.out
      have hcz26_3 := cz3 BK301.out
      have hcz26_4 := cz4 BK301.out
      have hcz26_5 := cz5 BK301.out
      have hfz26_0 := blk_frozen BK301.out 0
      have hfz26_1 := blk_frozen BK301.out 1
      have hfz26_2 := blk_frozen BK301.out 2
      have hfz26_3 := blk_frozen BK301.out 3
      have hfz26_4 := blk_frozen BK301.out 4
      have hfz26_5 := blk_frozen BK301.out 5
      go_wp2_with (first | (go_at_call 73; (with_reducible refine (object_Is.calls a0_3 t303 _ A25.out).mono ?_); rintro e w' ⟨rfl, ⟨nd, rfl⟩⟩))
      go_ret
      exact ⟨by first | rfl | (simp [errW_none, errW_some] <;> rfl) | (simp [*, errW_none, errW_some] <;> rfl), by repeat with_reducible first | exact HB.out | apply pw_below_drewN | apply below_drew1 | apply below_alloc⟩
     rw [if_neg c24] at H
     have c24b0 : (a0_4 == 105) = false := beq_eq_false_iff_ne.mpr c24
     have c24b1 : (a0_4 != 105) = true := bne_iff_ne.mpr c24
     by_cases c27 : a0_4 = 97
     rotate_left
     ·
      rw [if_neg c27] at H
      have c27b0 : (a0_4 == 97) = false := beq_eq_false_iff_ne.mpr c27
      have c27b1 : (a0_4 != 97) = true := bne_iff_ne.mpr c27
      obtain rfl := Option.some.inj H
      have hcz30_0 := cz0 BK301.out
      have hcz30_1 := cz1 BK301.out
      have hcz30_2 := cz2 BK301.out
      have hcz30_3 := cz3 BK301.out
      have hcz30_4 := cz4 BK301.out
      have hcz30_5 := cz5 BK301.out
      have hfz30_0 := blk_frozen BK301.out 0
      have hfz30_1 := blk_frozen BK301.out 1
      have hfz30_2 := blk_frozen BK301.out 2
      have hfz30_3 := blk_frozen BK301.out 3
      have hfz30_4 := blk_frozen BK301.out 4
      have hfz30_5 := blk_frozen BK301.out 5
      go_wp2
      go_ret
      exact ⟨by first | rfl | (simp [errW_none, errW_some] <;> rfl) | (simp [*, errW_none, errW_some] <;> rfl), by repeat with_reducible first | exact HB.out | apply pw_below_drewN | apply below_drew1 | apply below_alloc⟩
     rw [if_pos c27] at H
     have c27b0 : (a0_4 == 97) = true := beq_iff_eq.mpr c27
     have c27b1 : (a0_4 != 97) = false := bne_eq_false_iff_eq.mpr c27
     clear c27
     replace H := Option.bind_eq_some_iff.mp H
     obtain ⟨t304, A280, H⟩ := H
     (try dsimp only at H)
     have A28 := Aside0.mk A280
     clear A280
     obtain rfl := Option.some.inj H
     have hcz29_0 := cz0 BK301.out
     have hcz29_1 := cz1 BK301.out
     have hcz29_2 := cz2 BK301.out
     have hcz29_3 := cz3 BK301.out
     have hcz29_4 := cz4 BK301.out
     have hcz29_5 := cz5 BK301.out
     have hfz29_0 := blk_frozen BK301.out 0
     have hfz29_1 := blk_frozen BK301.out 1
     have hfz29_2 := blk_frozen BK301.out 2
     have hfz29_3 := blk_frozen BK301.out 3
     have hfz29_4 := blk_frozen BK301.out 4
     have hfz29_5 := blk_frozen BK301.out 5
     go_wp2_with (first | (go_at_call 73; (with_reducible refine (object_Is.calls a0_3 t304 _ A28.out).mono ?_); rintro e w' ⟨rfl, ⟨nd, rfl⟩⟩))
     go_ret
     exact ⟨by first | rfl | (simp [errW_none, errW_some] <;> rfl) | (simp [*, errW_none, errW_some] <;> rfl), by repeat with_reducible first | exact HB.out | apply pw_below_drewN | apply below_drew1 | apply below_alloc⟩

/-! ### object_Piece: function 53 -/
def object_Piece.f (a0 : ByteArray) (a1 : Int) (a2 : Int) (a3 : Int) (a4 : Int) : Option (Int × Int × Bool × Int) := none
set_option maxHeartbeats 8000000 in
set_option maxRecDepth 100000 in
theorem object_Piece.calls (a0 : ByteArray) (a1 : Int) (a2 : Int) (a3 : Int) (a4 : Int) (r1 : Int) (r2 : Int) (r3 : Bool) (r4 : Int) (w : World) (h : object_Piece.f a0 a1 a2 a3 a4 = some (r1, r2, r3, r4)) :
  Calls Tryd.prog 53 #[.string a0, .int .i64 a1, .int .i64 a2, .int .i64 a3, .int .i64 a4] w fun e w' => e = .returned (.tuple #[.agg #[.int .i64 r1, .int .i64 r2, .bool r3], .int .i64 r4]) ∧ Below w.heap.size w w' := by
 have HB := Aside0.mk (Below.refl w.heap.size w)
 have H : (none) = some (r1, r2, r3, r4) := h
 clear h
 exact absurd H (by simp)

/-! ### region_rows: function 54 -/
def region_rows.f (l0_0 : List Int) (l0_1 : List Int) (a1 : Int) (a2 : Int) : Option (Int × Int × Bool × Int) := none
set_option maxHeartbeats 8000000 in
set_option maxRecDepth 100000 in
theorem region_rows.calls (g0 : Nat) (A0_0 : Option Addr) (c0_0 : Nat) (l0_0 : List Int) (A0_1 : Option Addr) (c0_1 : Nat) (l0_1 : List Int) (a1 : Int) (a2 : Int) (r1 : Int) (r2 : Int) (r3 : Bool) (r4 : Int) (w : World) (hg0 : w.heap[g0]? = some (.cells #[.slice A0_0 l0_0.length c0_0, .slice A0_1 l0_1.length c0_1] 79 (0, 0))) (hr0_0 : Kd.C (Kd.int .i32) w A0_0 l0_0.length l0_0) (hc0_0 : l0_0.length ≤ c0_0) (hr0_1 : Kd.C (Kd.int .i64) w A0_1 l0_1.length l0_1) (hc0_1 : l0_1.length ≤ c0_1) (h : region_rows.f l0_0 l0_1 a1 a2 = some (r1, r2, r3, r4)) :
  Calls Tryd.prog 54 #[.pointer (some ⟨g0, 0, none⟩), .int .i64 a1, .int .i64 a2] w fun e w' => e = .returned (.tuple #[.agg #[.int .i64 r1, .int .i64 r2, .bool r3], .int .i64 r4]) ∧ Below w.heap.size w w' := by
 have BK0 := Aside0.mk hg0
 clear hg0
 have HR0_0 := Aside0.mk hr0_0
 have HC0_0 := Aside0.mk hc0_0
 clear hr0_0 hc0_0
 have HR0_1 := Aside0.mk hr0_1
 have HC0_1 := Aside0.mk hc0_1
 clear hr0_1 hc0_1
 have HB := Aside0.mk (Below.refl w.heap.size w)
 have H : (none) = some (r1, r2, r3, r4) := h
 clear h
 exact absurd H (by simp)

end Go.Proofs.YtbgmmcngkdhpcaaDoor.P
