/- The walks of the functions that these statements reach: each Go function as a plain Lean function, and the proof that its call comes to that. Written by the session's program wip/pp.py. -/
import Derived.Test.YtgikaemhhaejoaaDoorP0
import Derived.Test.YtgikaemhhaejoaaDoorP4
import Derived.Test.YtgikaemhhaejoaaDoorP5
namespace Go.Proofs.YtgikaemhhaejoaaDoor.P
open Go.Proofs.YtgikaemhhaejoaaDoor
open Go.RowKit Go.Proofs.YtgikaemhhaejoaaDoorW.PrintWords Go.Proofs.YtgikaemhhaejoaaDoorW.PrintLast Go.Proofs.YtgikaemhhaejoaaDoorW.PrintMore
attribute [local go_sem] max2_int min2_int max_two min_two max_three min_three max_four min_four   -- for this text's walks alone
set_option linter.unusedVariables false
set_option linter.unusedSimpArgs false

/-! ### object_para_3: function 51 -/
def object_para_3.l0 : Nat → Int → List Int → List Int → List Int → List Int → Option (Int)
  | 0, _, _, _, _, _ => none
  | k + 1, x0, v0, v1, v2, v3 => (text_Map_Rows.f v0 v1).bind fun t177 => (if (wrap64 (x0 + 1)) < t177 then ((object_para_1.f (wrap64 (x0 + 1)) v2 v3).bind fun t178 => ((object_para_1.f x0 v2 v3).bind fun t179 => (if (t178 == t179) = true then (object_para_3.l0 k (wrap64 (x0 + 1)) v0 v1 v2 v3) else (some x0)))) else (some x0))
def object_para_3.f (k : Nat) (a0 : Int) (l1_0 : List Int) (l1_1 : List Int) (l2_0 : List Int) (l2_1 : List Int) : Option (Int) := object_para_3.l0 k a0 l1_0 l1_1 l2_0 l2_1
theorem object_para_3.mono_l : ∀ k, (∀ y0 y1 y2 y3 y4, LeO (object_para_3.l0 k y0 y1 y2 y3 y4) (object_para_3.l0 (k + 1) y0 y1 y2 y3 y4))
  | 0 => fun _ _ _ _ _ r h => by simp [object_para_3.l0] at h
  | k + 1 => by
    have ih0 := object_para_3.mono_l k
    all_goals intros
    all_goals first | unfold object_para_3.l0
    all_goals repeat' first | (with_reducible first | exact ih0 _ _ _ _ _ | exact LeO.refl _ | exact LeO.none _ | refine LeO.ite ?_ ?_ | refine LeO.bind ?_ (fun _ => ?_)) | exact ih0 _ _ _ _ _ | exact LeO.refl _ | exact LeO.none _ | refine LeO.ite ?_ ?_ | refine LeO.bind ?_ (fun _ => ?_)
theorem object_para_3.mono : ∀ a0 a1 a2 a3 a4 k, LeO (object_para_3.f k a0 a1 a2 a3 a4) (object_para_3.f (k + 1) a0 a1 a2 a3 a4) := by
  intro a0 a1 a2 a3 a4 k
  have ih0 := object_para_3.mono_l k
  unfold object_para_3.f
  repeat' first | (with_reducible first | exact ih0 _ _ _ _ _ | exact LeO.refl _ | exact LeO.none _ | refine LeO.ite ?_ ?_ | refine LeO.bind ?_ (fun _ => ?_)) | exact ih0 _ _ _ _ _ | exact LeO.refl _ | exact LeO.none _ | refine LeO.ite ?_ ?_ | refine LeO.bind ?_ (fun _ => ?_)
def object_para_3.T1 : Bool × List (List Nat × List Nat) := (true, [([], []), ([0], [0]), ([], []), ([2], [2]), ([1, 3], [1, 3]), ([4, 3], [4]), ([5], [5]), ([5], [5]), ([7, 5], [5, 7]), ([6, 8, 5, 5], [5, 6, 8]), ([5], [5]), ([5], [5]), ([10, 11, 9, 5], [5, 10, 11]), ([9, 12, 5], [5, 9, 12]), ([5, 13], [5, 13])])
def object_para_3.B1 : List Nat := [0, 1, 0, 4, 15, 31, 63, 63, 191, 511, 63, 63, 4095, 8191, 16383]
theorem object_para_3.tab1 : rtab .any (opsOf Tryd.f51 1) = object_para_3.T1 := by kernel_rfl
theorem object_para_3.bits1 : waitsOk object_para_3.T1.2 object_para_3.B1 = true := by kernel_rfl
set_option maxHeartbeats 8000000 in
set_option maxRecDepth 100000 in
theorem object_para_3.calls (k : Nat) (a0 : Int) (g1 : Nat) (g1m : Nat) (A1_0 : Option Addr) (c1_0 : Nat) (l1_0 : List Int) (A1_1 : Option Addr) (c1_1 : Nat) (l1_1 : List Int) (g2 : Nat) (g2m : Nat) (g2e : Nat) (A2_0 : Option Addr) (c2_0 : Nat) (l2_0 : List Int) (A2_1 : Option Addr) (c2_1 : Nat) (l2_1 : List Int) (r : Int) (w : World) (hg1 : w.heap[g1]? = some (.cells #[.slice A1_0 l1_0.length c1_0, .slice A1_1 l1_1.length c1_1] 66 (0, 0))) (hg1m : w.heap[g1m]? = some (.cells #[.pointer (some ⟨g1, 0, none⟩)] 49 (0, 0))) (hr1_0 : Kd.C (Kd.int .i32) w A1_0 l1_0.length l1_0) (hc1_0 : l1_0.length ≤ c1_0) (hr1_1 : Kd.C (Kd.int .i64) w A1_1 l1_1.length l1_1) (hc1_1 : l1_1.length ≤ c1_1) (hg2 : w.heap[g2]? = some (.cells #[.slice A2_0 l2_0.length c2_0, .slice A2_1 l2_1.length c2_1] 66 (0, 0))) (hg2m : w.heap[g2m]? = some (.cells #[.pointer (some ⟨g2, 0, none⟩)] 49 (0, 0))) (hg2e : w.heap[g2e]? = some (.cells #[.func (.func 49) #[] #[.pointer (some ⟨g2m, 0, none⟩)]] 43 (0, 0))) (hr2_0 : Kd.C (Kd.int .i32) w A2_0 l2_0.length l2_0) (hc2_0 : l2_0.length ≤ c2_0) (hr2_1 : Kd.C (Kd.int .i64) w A2_1 l2_1.length l2_1) (hc2_1 : l2_1.length ≤ c2_1) (h : object_para_3.f k a0 l1_0 l1_1 l2_0 l2_1 = some r) :
  Calls Tryd.prog 51 #[.int .i64 a0, .pointer (some ⟨g1m, 0, none⟩), .pointer (some ⟨g2e, 0, none⟩)] w fun e w' => e = .returned (.int .i64 r) ∧ Below w.heap.size w w' := by
 have BK1 := Aside0.mk hg1
 clear hg1
 have BK90001 := Aside0.mk hg1m
 clear hg1m
 have BK2 := Aside0.mk hg2
 clear hg2
 have BK90002 := Aside0.mk hg2m
 clear hg2m
 have BK92002 := Aside0.mk hg2e
 clear hg2e
 have HR1_0 := Aside0.mk hr1_0
 have HC1_0 := Aside0.mk hc1_0
 clear hr1_0 hc1_0
 have HR1_1 := Aside0.mk hr1_1
 have HC1_1 := Aside0.mk hc1_1
 clear hr1_1 hc1_1
 have HR2_0 := Aside0.mk hr2_0
 have HC2_0 := Aside0.mk hc2_0
 clear hr2_0 hc2_0
 have HR2_1 := Aside0.mk hr2_1
 have HC2_1 := Aside0.mk hc2_1
 clear hr2_1 hc2_1
 have HB := Aside0.mk (Below.refl w.heap.size w)
 have H : (object_para_3.l0 k a0 l1_0 l1_1 l2_0 l2_1) = some r := h
 clear h
 have H' := Aside0.mk H
 clear H
 go_enter Tryd.func51, Tryd.ntmps51
 go_wp2
 go_loopg [0] k (fun kq v0 w' => ∃ (x0_1 : Int), v0 = .int .i64 x0_1 ∧ Aside0 (object_para_3.l0 kq x0_1 l1_0 l1_1 l2_0 l2_1 = some r) ∧ Aside0 (kq ≤ k) ∧ Aside0 (w'.heap[g1]? = some (.cells #[(.slice A1_0 l1_0.length c1_0), (.slice A1_1 l1_1.length c1_1)] 66 (0, 0))) ∧ Aside0 (w'.heap[g1m]? = some (.cells #[.pointer (some ⟨g1, 0, none⟩)] 49 (0, 0))) ∧ Aside0 (w'.heap[g2]? = some (.cells #[(.slice A2_0 l2_0.length c2_0), (.slice A2_1 l2_1.length c2_1)] 66 (0, 0))) ∧ Aside0 (w'.heap[g2m]? = some (.cells #[.pointer (some ⟨g2, 0, none⟩)] 49 (0, 0))) ∧ Aside0 (w'.heap[g2e]? = some (.cells #[.func (.func 49) #[] #[.pointer (some ⟨g2m, 0, none⟩)]] 43 (0, 0))) ∧ Aside0 (Below w.heap.size w w'))
 case atStart => exact ⟨(a0), (by first | rfl | (simp; done) | (simp [*]; done)), H', ⟨Nat.le_refl _⟩, ⟨BK1.out⟩, ⟨BK90001.out⟩, ⟨BK2.out⟩, ⟨BK90002.out⟩, ⟨BK92002.out⟩, ⟨by repeat with_reducible first | exact HB.out | apply pw_below_drewN | refine below_set ?_ GE1.out | refine below_set ?_ GE90001.out | refine below_set ?_ GE2.out | refine below_set ?_ GE90002.out | refine below_set ?_ GE92002.out | apply below_drew1 | apply below_alloc⟩⟩
 case round =>
  clear H'
  obtain ⟨x0_1, rfl, HA, HK1, BK1, BK90001, BK2, BK90002, BK92002, HB⟩ := hrel
  cases gk with
  | zero => exact absurd HA.out (by simp [object_para_3.l0])
  | succ k1 =>
   have H := HA.out
   clear HA
   simp only [object_para_3.l0] at H
   replace H := Option.bind_eq_some_iff.mp H
   obtain ⟨t177, A40, H⟩ := H
   (try dsimp only at H)
   have A4 := Aside0.mk A40
   clear A40
   by_cases c5 : (wrap64 (x0_1 + 1)) < t177
   rotate_left
   ·
    rw [if_neg c5] at H
    have c5b0 := decide_eq_false c5
    clear c5
    obtain rfl := Option.some.inj H
    try go_wp2
    have n0_ := Aside0.mk (blk_drew BK1.out)
    have n1_ := Aside0.mk (blk_drew BK90001.out)
    have n2_ := Aside0.mk (blk_drew BK2.out)
    have n3_ := Aside0.mk (blk_drew BK90002.out)
    have n4_ := Aside0.mk (blk_drew BK92002.out)
    have n5_ := Aside0.mk (below_drew1 HB.out)
    clear BK1
    clear BK90001
    clear BK2
    clear BK90002
    clear BK92002
    clear HB
    have BK1 := n0_
    have BK90001 := n1_
    have BK2 := n2_
    have BK90002 := n3_
    have BK92002 := n4_
    have HB := n5_
    clear n0_ n1_ n2_ n3_ n4_ n5_
    refine start_ (n := 15) (S := fun w' => w'.cell? ⟨g1m, 0, none⟩ = some (.pointer (some ⟨g1, 0, none⟩))) (ds := []) (bs 15 0) (by kernel_rfl) rfl rfl ((blk_cell BK90001.out 0).trans rfl) (fun hHeld => ?_); refine with_tabW object_para_3.tab1 object_para_3.bits1 (fun HT_ HW_ => ?_)
    generalize wr.drew = w11 at BK1 BK90001 BK2 BK90002 BK92002 HB hHeld ⊢
    refine pure_ (i := 0) (N := some 5) (v := ?_) (a' := ?_) (bs 15 1) rfl rfl (any_of HT_.out (by kernel_rfl)) (fun _ _ _ h => h) (Or.inl ⟨by rfl, ?_⟩) ?_ ?_
    rotate_left
    · intro w'; go_simp; with_reducible rfl
    rotate_left
    · simp only [Act.put, List.setIfInBounds_toArray, List.set_cons_zero, List.set_cons_succ, i64_w, i32_w]; rfl
    refine pure_ (i := 1) (N := some 6) (v := ?_) (a' := ?_) (bs 15 3) rfl rfl (any_of HT_.out (by kernel_rfl)) (fun _ _ _ h => h) (Or.inl ⟨by rfl, ?_⟩) ?_ ?_
    rotate_left
    · intro w'; go_simp; with_reducible rfl
    rotate_left
    · simp only [Act.put, List.setIfInBounds_toArray, List.set_cons_zero, List.set_cons_succ, i64_w, i32_w]; rfl
    refine take_ (i := 2) (N := some 7) (v := ?_) (a' := ?_) (bs 15 7) rfl rfl (take_ofW HT_.out HW_.out (by kernel_rfl)) (fun _ _ _ h => h) (Or.inl ⟨by rfl, ?_⟩) hHeld ?_ ?_
    rotate_left
    ·
     intro w' s0
     go_simp
     with_reducible rfl
    rotate_left
    · simp only [Act.put, List.setIfInBounds_toArray, List.set_cons_zero, List.set_cons_succ, i64_w, i32_w]; rfl
    refine one_ (i := 3) (N := some 8) (bs 15 15) rfl rfl (one_of HT_.out (by kernel_rfl)) (by decide) (fun K hK => ?_)
    refine goes_ Tryd.func52 (by kernel_rfl) rfl #[.pointer (some ⟨g1, 0, none⟩)] (by rfl) rfl rfl (by (try simp only [List.map_toArray, List.map_cons, List.map_nil]); first | done | rfl | (simp only [List.length_drop, List.length_take]; rfl)) ?_
    with_reducible refine (text_Map_Rows.calls g1 A1_0 c1_0 l1_0 A1_1 c1_1 l1_1 t177 _ ?side1 ?side2 ?side3 ?side4 ?side5 A4.out).mono ?_
    (case side1 => exact BK1.out)
    (case side2 => repeat (first | exact (Kd.C_below HR1_0.out HB.out) | with_reducible first | refine Kd.C_drewN ?_ _ | refine Kd.C_drew ?_ | refine Kd.C_alloc ?_ _))
    (case side3 => exact HC1_0.out)
    (case side4 => repeat (first | exact (Kd.C_below HR1_1.out HB.out) | with_reducible first | refine Kd.C_drewN ?_ _ | refine Kd.C_drew ?_ | refine Kd.C_alloc ?_ _))
    (case side5 => exact HC1_1.out)
    rintro e w' ⟨rfl, ⟨nd, rfl⟩⟩
    refine ⟨_, rfl, ?_⟩
    refine hK.out _ _ ((blk_cell BK90001.out 0).trans rfl) (fun hHeld => ?_)
    clear hK K
    refine norm_ (a' := ?_) ?_ ?_
    rotate_left
    · show Act.put _ (some 8) _ = _; simp only [Act.put, List.setIfInBounds_toArray, List.set_cons_zero, List.set_cons_succ, i64_w, i32_w]; rfl
    refine pure_ (i := 4) (N := some 9) (v := ?_) (a' := ?_) (bs 15 31) rfl rfl (any_of HT_.out (by kernel_rfl)) (fun _ _ _ h => h) (Or.inl ⟨by rfl, ?_⟩) ?_ ?_
    rotate_left
    · intro w'; go_simp; with_reducible rfl
    rotate_left
    · simp only [Act.put, List.setIfInBounds_toArray, List.set_cons_zero, List.set_cons_succ, i64_w, i32_w]; rfl
    refine pure_ (i := 5) (N := some 10) (v := ?_) (a' := ?_) (bs 15 63) rfl rfl (any_of HT_.out (by kernel_rfl)) (fun _ _ _ h => h) (Or.inl ⟨by rfl, ?_⟩) ?_ ?_
    rotate_left
    · intro w'; go_simp; with_reducible rfl
    rotate_left
    · simp only [Act.put, List.setIfInBounds_toArray, List.set_cons_zero, List.set_cons_succ, i64_w, i32_w]; rfl
    refine pure_ (i := 6) (N := some 11) (v := undef) (a' := ?_) (bs 15 127) rfl rfl (any_of HT_.out (by kernel_rfl)) (fun _ _ _ h => h) (Or.inr ⟨by rfl, rfl⟩) ?_ ?_
    rotate_left
    · simp only [Act.put, List.setIfInBounds_toArray, List.set_cons_zero, List.set_cons_succ, i64_w, i32_w]; rfl
    refine pure_ (i := 7) (N := some 12) (v := undef) (a' := ?_) (bs 15 255) rfl rfl (any_of HT_.out (by kernel_rfl)) (fun _ _ _ h => h) (Or.inr ⟨by rfl, rfl⟩) ?_ ?_
    rotate_left
    · simp only [Act.put, List.setIfInBounds_toArray, List.set_cons_zero, List.set_cons_succ, i64_w, i32_w]; rfl
    refine pure_ (i := 8) (N := some 13) (v := undef) (a' := ?_) (bs 15 511) rfl rfl (any_of HT_.out (by kernel_rfl)) (fun _ _ _ h => h) (Or.inr ⟨by rfl, rfl⟩) ?_ ?_
    rotate_left
    · simp only [Act.put, List.setIfInBounds_toArray, List.set_cons_zero, List.set_cons_succ, i64_w, i32_w]; rfl
    refine pure_ (i := 9) (N := some 14) (v := undef) (a' := ?_) (bs 15 1023) rfl rfl (any_of HT_.out (by kernel_rfl)) (fun _ _ _ h => h) (Or.inr ⟨by rfl, rfl⟩) ?_ ?_
    rotate_left
    · simp only [Act.put, List.setIfInBounds_toArray, List.set_cons_zero, List.set_cons_succ, i64_w, i32_w]; rfl
    refine pure_ (i := 10) (N := some 15) (v := undef) (a' := ?_) (bs 15 2047) rfl rfl (any_of HT_.out (by kernel_rfl)) (fun _ _ _ h => h) (Or.inr ⟨by rfl, rfl⟩) ?_ ?_
    rotate_left
    · simp only [Act.put, List.setIfInBounds_toArray, List.set_cons_zero, List.set_cons_succ, i64_w, i32_w]; rfl
    refine pure_ (i := 11) (N := some 16) (v := undef) (a' := ?_) (bs 15 4095) rfl rfl (any_of HT_.out (by kernel_rfl)) (fun _ _ _ h => h) (Or.inr ⟨by rfl, rfl⟩) ?_ ?_
    rotate_left
    · simp only [Act.put, List.setIfInBounds_toArray, List.set_cons_zero, List.set_cons_succ, i64_w, i32_w]; rfl
    refine pure_ (i := 12) (N := some 17) (v := undef) (a' := ?_) (bs 15 8191) rfl rfl (any_of HT_.out (by kernel_rfl)) (fun _ _ _ h => h) (Or.inr ⟨by rfl, rfl⟩) ?_ ?_
    rotate_left
    · simp only [Act.put, List.setIfInBounds_toArray, List.set_cons_zero, List.set_cons_succ, i64_w, i32_w]; rfl
    refine pure_ (i := 13) (N := some 18) (v := undef) (a' := ?_) (bs 15 16383) rfl rfl (any_of HT_.out (by kernel_rfl)) (fun _ _ _ h => h) (Or.inr ⟨by rfl, rfl⟩) ?_ ?_
    rotate_left
    · simp only [Act.put, List.setIfInBounds_toArray, List.set_cons_zero, List.set_cons_succ, i64_w, i32_w]; rfl
    refine pure_ (i := 14) (N := some 19) (v := ?_) (a' := ?_) (bs 15 32767) rfl rfl (any_of HT_.out (by kernel_rfl)) (fun _ _ _ h => h) (Or.inl ⟨by rfl, ?_⟩) ?_ ?_
    rotate_left
    · intro w'; go_simp; with_reducible rfl
    rotate_left
    · simp only [Act.put, List.setIfInBounds_toArray, List.set_cons_zero, List.set_cons_succ, i64_w, i32_w]; rfl
    refine done_ (done_of HT_.out (by kernel_rfl)) ?_
    try go_wp2
    go_ret
    exact ⟨by first | rfl | (simp [errW_none, errW_some] <;> rfl) | (simp [*, errW_none, errW_some] <;> rfl), by repeat with_reducible first | exact HB.out | apply pw_below_drewN | refine below_set ?_ GE1.out | refine below_set ?_ GE90001.out | refine below_set ?_ GE2.out | refine below_set ?_ GE90002.out | refine below_set ?_ GE92002.out | apply below_drew1 | apply below_alloc⟩
   rw [if_pos c5] at H
   have c5b0 := decide_eq_true c5
   clear c5
   replace H := Option.bind_eq_some_iff.mp H
   obtain ⟨t178, A60, H⟩ := H
   (try dsimp only at H)
   have A6 := Aside0.mk A60
   clear A60
   replace H := Option.bind_eq_some_iff.mp H
   obtain ⟨t179, A70, H⟩ := H
   (try dsimp only at H)
   have A7 := Aside0.mk A70
   clear A70
   by_cases c8 : (t178 == t179) = true
   rotate_left
   ·
    rw [if_neg c8] at H
    have c8b0 : (t178 == t179) = false := by simpa using c8
    (try (have c8b1 : decide (t178 = t179) = false := by simpa using c8))
    (try (have c8b2 : (t178 == t179) = false := by simpa using c8))
    (try (have c8b3 : ¬ (t178 = t179) := by simpa using c8))
    clear c8
    obtain rfl := Option.some.inj H
    try go_wp2
    have n0_ := Aside0.mk (blk_drew BK1.out)
    have n1_ := Aside0.mk (blk_drew BK90001.out)
    have n2_ := Aside0.mk (blk_drew BK2.out)
    have n3_ := Aside0.mk (blk_drew BK90002.out)
    have n4_ := Aside0.mk (blk_drew BK92002.out)
    have n5_ := Aside0.mk (below_drew1 HB.out)
    clear BK1
    clear BK90001
    clear BK2
    clear BK90002
    clear BK92002
    clear HB
    have BK1 := n0_
    have BK90001 := n1_
    have BK2 := n2_
    have BK90002 := n3_
    have BK92002 := n4_
    have HB := n5_
    clear n0_ n1_ n2_ n3_ n4_ n5_
    refine start_ (n := 15) (S := fun w' => w'.cell? ⟨g1m, 0, none⟩ = some (.pointer (some ⟨g1, 0, none⟩)) ∧ w'.cell? ⟨g2e, 0, none⟩ = some (.func (.func 49) #[] #[.pointer (some ⟨g2m, 0, none⟩)])) (ds := []) (bs 15 0) (by kernel_rfl) rfl rfl ⟨(blk_cell BK90001.out 0).trans rfl, (blk_cell BK92002.out 0).trans rfl⟩ (fun hHeld => ?_); refine with_tabW object_para_3.tab1 object_para_3.bits1 (fun HT_ HW_ => ?_)
    generalize wr.drew = w10 at BK1 BK90001 BK2 BK90002 BK92002 HB hHeld ⊢
    refine pure_ (i := 0) (N := some 5) (v := ?_) (a' := ?_) (bs 15 1) rfl rfl (any_of HT_.out (by kernel_rfl)) (fun _ _ _ h => h) (Or.inl ⟨by rfl, ?_⟩) ?_ ?_
    rotate_left
    · intro w'; go_simp; with_reducible rfl
    rotate_left
    · simp only [Act.put, List.setIfInBounds_toArray, List.set_cons_zero, List.set_cons_succ, i64_w, i32_w]; rfl
    refine pure_ (i := 1) (N := some 6) (v := ?_) (a' := ?_) (bs 15 3) rfl rfl (any_of HT_.out (by kernel_rfl)) (fun _ _ _ h => h) (Or.inl ⟨by rfl, ?_⟩) ?_ ?_
    rotate_left
    · intro w'; go_simp; with_reducible rfl
    rotate_left
    · simp only [Act.put, List.setIfInBounds_toArray, List.set_cons_zero, List.set_cons_succ, i64_w, i32_w]; rfl
    refine take_ (i := 2) (N := some 7) (v := ?_) (a' := ?_) (bs 15 7) rfl rfl (take_ofW HT_.out HW_.out (by kernel_rfl)) (fun _ _ _ h => h) (Or.inl ⟨by rfl, ?_⟩) hHeld ?_ ?_
    rotate_left
    · rintro w' ⟨s0, s1⟩; go_simp; with_reducible rfl
    rotate_left
    · simp only [Act.put, List.setIfInBounds_toArray, List.set_cons_zero, List.set_cons_succ, i64_w, i32_w]; rfl
    refine one_ (i := 3) (N := some 8) (bs 15 15) rfl rfl (one_of HT_.out (by kernel_rfl)) (by decide) (fun K hK => ?_)
    refine goes_ Tryd.func52 (by kernel_rfl) rfl #[.pointer (some ⟨g1, 0, none⟩)] (by rfl) rfl rfl (by (try simp only [List.map_toArray, List.map_cons, List.map_nil]); first | done | rfl | (simp only [List.length_drop, List.length_take]; rfl)) ?_
    with_reducible refine (text_Map_Rows.calls g1 A1_0 c1_0 l1_0 A1_1 c1_1 l1_1 t177 _ ?side1 ?side2 ?side3 ?side4 ?side5 A4.out).mono ?_
    (case side1 => exact BK1.out)
    (case side2 => repeat (first | exact (Kd.C_below HR1_0.out HB.out) | with_reducible first | refine Kd.C_drewN ?_ _ | refine Kd.C_drew ?_ | refine Kd.C_alloc ?_ _))
    (case side3 => exact HC1_0.out)
    (case side4 => repeat (first | exact (Kd.C_below HR1_1.out HB.out) | with_reducible first | refine Kd.C_drewN ?_ _ | refine Kd.C_drew ?_ | refine Kd.C_alloc ?_ _))
    (case side5 => exact HC1_1.out)
    rintro e w' ⟨rfl, ⟨nd, rfl⟩⟩
    refine ⟨_, rfl, ?_⟩
    refine hK.out _ _ ⟨(blk_cell BK90001.out 0).trans rfl, (blk_cell BK92002.out 0).trans rfl⟩ (fun hHeld => ?_)
    clear hK K
    refine norm_ (a' := ?_) ?_ ?_
    rotate_left
    · show Act.put _ (some 8) _ = _; simp only [Act.put, List.setIfInBounds_toArray, List.set_cons_zero, List.set_cons_succ, i64_w, i32_w]; rfl
    refine pure_ (i := 4) (N := some 9) (v := ?_) (a' := ?_) (bs 15 31) rfl rfl (any_of HT_.out (by kernel_rfl)) (fun _ _ _ h => h) (Or.inl ⟨by rfl, ?_⟩) ?_ ?_
    rotate_left
    · intro w'; go_simp; with_reducible rfl
    rotate_left
    · simp only [Act.put, List.setIfInBounds_toArray, List.set_cons_zero, List.set_cons_succ, i64_w, i32_w]; rfl
    refine pure_ (i := 5) (N := some 10) (v := ?_) (a' := ?_) (bs 15 63) rfl rfl (any_of HT_.out (by kernel_rfl)) (fun _ _ _ h => h) (Or.inl ⟨by rfl, ?_⟩) ?_ ?_
    rotate_left
    · intro w'; go_simp; with_reducible rfl
    rotate_left
    · simp only [Act.put, List.setIfInBounds_toArray, List.set_cons_zero, List.set_cons_succ, i64_w, i32_w]; rfl
    refine pure_ (i := 7) (N := some 12) (v := ?_) (a' := ?_) (bs 15 191) rfl rfl (any_of HT_.out (by kernel_rfl)) (fun _ _ _ h => h) (Or.inl ⟨by rfl, ?_⟩) ?_ ?_
    rotate_left
    · intro w'; go_simp; with_reducible rfl
    rotate_left
    · simp only [Act.put, List.setIfInBounds_toArray, List.set_cons_zero, List.set_cons_succ, i64_w, i32_w]; rfl
    refine pure_ (i := 8) (N := some 13) (v := ?_) (a' := ?_) (bs 15 447) rfl rfl (any_of HT_.out (by kernel_rfl)) (fun _ _ _ h => h) (Or.inl ⟨by rfl, ?_⟩) ?_ ?_
    rotate_left
    · intro w'; go_simp; with_reducible rfl
    rotate_left
    · simp only [Act.put, List.setIfInBounds_toArray, List.set_cons_zero, List.set_cons_succ, i64_w, i32_w]; rfl
    refine pure_ (i := 11) (N := some 16) (v := ?_) (a' := ?_) (bs 15 2495) rfl rfl (any_of HT_.out (by kernel_rfl)) (fun _ _ _ h => h) (Or.inl ⟨by rfl, ?_⟩) ?_ ?_
    rotate_left
    · intro w'; go_simp; with_reducible rfl
    rotate_left
    · simp only [Act.put, List.setIfInBounds_toArray, List.set_cons_zero, List.set_cons_succ, i64_w, i32_w]; rfl
    refine take_ (i := 6) (N := some 11) (v := ?_) (a' := ?_) (bs 15 2559) rfl rfl (take_ofW HT_.out HW_.out (by kernel_rfl)) (fun _ _ _ h => h) (Or.inl ⟨by rfl, ?_⟩) hHeld ?_ ?_
    rotate_left
    · rintro w' ⟨s0, s1⟩; go_simp; with_reducible rfl
    rotate_left
    · simp only [Act.put, List.setIfInBounds_toArray, List.set_cons_zero, List.set_cons_succ, i64_w, i32_w]; rfl
    refine take_ (i := 10) (N := some 15) (v := ?_) (a' := ?_) (bs 15 3583) rfl rfl (take_ofW HT_.out HW_.out (by kernel_rfl)) (fun _ _ _ h => h) (Or.inl ⟨by rfl, ?_⟩) hHeld ?_ ?_
    rotate_left
    · rintro w' ⟨s0, s1⟩; go_simp; with_reducible rfl
    rotate_left
    · simp only [Act.put, List.setIfInBounds_toArray, List.set_cons_zero, List.set_cons_succ, i64_w, i32_w]; rfl
    refine one_ (i := 9) (N := some 14) (bs 15 4095) rfl rfl (one_of HT_.out (by kernel_rfl)) (by decide) (fun K hK => ?_)
    refine goesc_ Tryd.func49 (by kernel_rfl) rfl #[.int .i64 (wrap64 (x0_1 + 1)), .pointer (some ⟨g2m, 0, none⟩)] #[.pointer (some ⟨g2m, 0, none⟩)] (by rfl) rfl rfl rfl (by (try simp only [List.map_toArray, List.map_cons, List.map_nil]); first | done | rfl) ?_
    with_reducible refine (object_para_1.calls (wrap64 (x0_1 + 1)) g2 g2m A2_0 c2_0 l2_0 A2_1 c2_1 l2_1 t178 _ ?side1 ?side2 ?side3 ?side4 ?side5 ?side6 A6.out).mono ?_
    (case side1 => exact BK2.out)
    (case side2 => exact BK90002.out)
    (case side3 => repeat (first | exact (Kd.C_below HR2_0.out (by repeat with_reducible first | exact HB.out | apply pw_below_drewN | refine below_set ?_ GE1.out | refine below_set ?_ GE90001.out | refine below_set ?_ GE2.out | refine below_set ?_ GE90002.out | refine below_set ?_ GE92002.out | apply below_drew1 | apply below_alloc)) | with_reducible first | refine Kd.C_drewN ?_ _ | refine Kd.C_drew ?_ | refine Kd.C_alloc ?_ _))
    (case side4 => exact HC2_0.out)
    (case side5 => repeat (first | exact (Kd.C_below HR2_1.out (by repeat with_reducible first | exact HB.out | apply pw_below_drewN | refine below_set ?_ GE1.out | refine below_set ?_ GE90001.out | refine below_set ?_ GE2.out | refine below_set ?_ GE90002.out | refine below_set ?_ GE92002.out | apply below_drew1 | apply below_alloc)) | with_reducible first | refine Kd.C_drewN ?_ _ | refine Kd.C_drew ?_ | refine Kd.C_alloc ?_ _))
    (case side6 => exact HC2_1.out)
    rintro e w' ⟨rfl, ⟨nd, rfl⟩⟩
    refine ⟨_, rfl, ?_⟩
    refine hK.out _ _ ⟨(blk_cell BK90001.out 0).trans rfl, (blk_cell BK92002.out 0).trans rfl⟩ (fun hHeld => ?_)
    clear hK K
    refine norm_ (a' := ?_) ?_ ?_
    rotate_left
    · show Act.put _ (some 14) _ = _; simp only [Act.put, List.setIfInBounds_toArray, List.set_cons_zero, List.set_cons_succ, i64_w, i32_w]; rfl
    refine one_ (i := 12) (N := some 17) (bs 15 8191) rfl rfl (one_of HT_.out (by kernel_rfl)) (by decide) (fun K hK => ?_)
    refine goesc_ Tryd.func49 (by kernel_rfl) rfl #[.int .i64 x0_1, .pointer (some ⟨g2m, 0, none⟩)] #[.pointer (some ⟨g2m, 0, none⟩)] (by rfl) rfl rfl rfl (by (try simp only [List.map_toArray, List.map_cons, List.map_nil]); first | done | rfl) ?_
    with_reducible refine (object_para_1.calls x0_1 g2 g2m A2_0 c2_0 l2_0 A2_1 c2_1 l2_1 t179 _ ?side1 ?side2 ?side3 ?side4 ?side5 ?side6 A7.out).mono ?_
    (case side1 => exact BK2.out)
    (case side2 => exact BK90002.out)
    (case side3 => repeat (first | exact (Kd.C_below HR2_0.out (by repeat with_reducible first | exact HB.out | apply pw_below_drewN | refine below_set ?_ GE1.out | refine below_set ?_ GE90001.out | refine below_set ?_ GE2.out | refine below_set ?_ GE90002.out | refine below_set ?_ GE92002.out | apply below_drew1 | apply below_alloc)) | with_reducible first | refine Kd.C_drewN ?_ _ | refine Kd.C_drew ?_ | refine Kd.C_alloc ?_ _))
    (case side4 => exact HC2_0.out)
    (case side5 => repeat (first | exact (Kd.C_below HR2_1.out (by repeat with_reducible first | exact HB.out | apply pw_below_drewN | refine below_set ?_ GE1.out | refine below_set ?_ GE90001.out | refine below_set ?_ GE2.out | refine below_set ?_ GE90002.out | refine below_set ?_ GE92002.out | apply below_drew1 | apply below_alloc)) | with_reducible first | refine Kd.C_drewN ?_ _ | refine Kd.C_drew ?_ | refine Kd.C_alloc ?_ _))
    (case side6 => exact HC2_1.out)
    rintro e w' ⟨rfl, ⟨nd, rfl⟩⟩
    refine ⟨_, rfl, ?_⟩
    refine hK.out _ _ ⟨(blk_cell BK90001.out 0).trans rfl, (blk_cell BK92002.out 0).trans rfl⟩ (fun hHeld => ?_)
    clear hK K
    refine norm_ (a' := ?_) ?_ ?_
    rotate_left
    · show Act.put _ (some 17) _ = _; simp only [Act.put, List.setIfInBounds_toArray, List.set_cons_zero, List.set_cons_succ, i64_w, i32_w]; rfl
    refine pure_ (i := 13) (N := some 18) (v := ?_) (a' := ?_) (bs 15 16383) rfl rfl (any_of HT_.out (by kernel_rfl)) (fun _ _ _ h => h) (Or.inl ⟨by rfl, ?_⟩) ?_ ?_
    rotate_left
    · intro w'; go_simp; with_reducible rfl
    rotate_left
    · simp only [Act.put, List.setIfInBounds_toArray, List.set_cons_zero, List.set_cons_succ, i64_w, i32_w]; rfl
    refine pure_ (i := 14) (N := some 19) (v := ?_) (a' := ?_) (bs 15 32767) rfl rfl (any_of HT_.out (by kernel_rfl)) (fun _ _ _ h => h) (Or.inl ⟨by rfl, ?_⟩) ?_ ?_
    rotate_left
    · intro w'; go_simp; with_reducible rfl
    rotate_left
    · simp only [Act.put, List.setIfInBounds_toArray, List.set_cons_zero, List.set_cons_succ, i64_w, i32_w]; rfl
    refine done_ (done_of HT_.out (by kernel_rfl)) ?_
    try go_wp2
    go_ret
    exact ⟨by first | rfl | (simp [errW_none, errW_some] <;> rfl) | (simp [*, errW_none, errW_some] <;> rfl), by repeat with_reducible first | exact HB.out | apply pw_below_drewN | refine below_set ?_ GE1.out | refine below_set ?_ GE90001.out | refine below_set ?_ GE2.out | refine below_set ?_ GE90002.out | refine below_set ?_ GE92002.out | apply below_drew1 | apply below_alloc⟩
   rw [if_pos c8] at H
   have c8b0 : (t178 == t179) = true := c8
   (try (have c8b1 : decide (t178 = t179) = true := by simpa using c8))
   (try (have c8b2 : (t178 == t179) = true := by simpa using c8))
   clear c8
   have H' := Aside0.mk H
   clear H
   try go_wp2
   have n0_ := Aside0.mk (blk_drew BK1.out)
   have n1_ := Aside0.mk (blk_drew BK90001.out)
   have n2_ := Aside0.mk (blk_drew BK2.out)
   have n3_ := Aside0.mk (blk_drew BK90002.out)
   have n4_ := Aside0.mk (blk_drew BK92002.out)
   have n5_ := Aside0.mk (below_drew1 HB.out)
   clear BK1
   clear BK90001
   clear BK2
   clear BK90002
   clear BK92002
   clear HB
   have BK1 := n0_
   have BK90001 := n1_
   have BK2 := n2_
   have BK90002 := n3_
   have BK92002 := n4_
   have HB := n5_
   clear n0_ n1_ n2_ n3_ n4_ n5_
   refine start_ (n := 15) (S := fun w' => w'.cell? ⟨g1m, 0, none⟩ = some (.pointer (some ⟨g1, 0, none⟩)) ∧ w'.cell? ⟨g2e, 0, none⟩ = some (.func (.func 49) #[] #[.pointer (some ⟨g2m, 0, none⟩)])) (ds := []) (bs 15 0) (by kernel_rfl) rfl rfl ⟨(blk_cell BK90001.out 0).trans rfl, (blk_cell BK92002.out 0).trans rfl⟩ (fun hHeld => ?_); refine with_tabW object_para_3.tab1 object_para_3.bits1 (fun HT_ HW_ => ?_)
   generalize wr.drew = w9 at BK1 BK90001 BK2 BK90002 BK92002 HB hHeld ⊢
   refine pure_ (i := 0) (N := some 5) (v := ?_) (a' := ?_) (bs 15 1) rfl rfl (any_of HT_.out (by kernel_rfl)) (fun _ _ _ h => h) (Or.inl ⟨by rfl, ?_⟩) ?_ ?_
   rotate_left
   · intro w'; go_simp; with_reducible rfl
   rotate_left
   · simp only [Act.put, List.setIfInBounds_toArray, List.set_cons_zero, List.set_cons_succ, i64_w, i32_w]; rfl
   refine pure_ (i := 1) (N := some 6) (v := ?_) (a' := ?_) (bs 15 3) rfl rfl (any_of HT_.out (by kernel_rfl)) (fun _ _ _ h => h) (Or.inl ⟨by rfl, ?_⟩) ?_ ?_
   rotate_left
   · intro w'; go_simp; with_reducible rfl
   rotate_left
   · simp only [Act.put, List.setIfInBounds_toArray, List.set_cons_zero, List.set_cons_succ, i64_w, i32_w]; rfl
   refine take_ (i := 2) (N := some 7) (v := ?_) (a' := ?_) (bs 15 7) rfl rfl (take_ofW HT_.out HW_.out (by kernel_rfl)) (fun _ _ _ h => h) (Or.inl ⟨by rfl, ?_⟩) hHeld ?_ ?_
   rotate_left
   · rintro w' ⟨s0, s1⟩; go_simp; with_reducible rfl
   rotate_left
   · simp only [Act.put, List.setIfInBounds_toArray, List.set_cons_zero, List.set_cons_succ, i64_w, i32_w]; rfl
   refine one_ (i := 3) (N := some 8) (bs 15 15) rfl rfl (one_of HT_.out (by kernel_rfl)) (by decide) (fun K hK => ?_)
   refine goes_ Tryd.func52 (by kernel_rfl) rfl #[.pointer (some ⟨g1, 0, none⟩)] (by rfl) rfl rfl (by (try simp only [List.map_toArray, List.map_cons, List.map_nil]); first | done | rfl | (simp only [List.length_drop, List.length_take]; rfl)) ?_
   with_reducible refine (text_Map_Rows.calls g1 A1_0 c1_0 l1_0 A1_1 c1_1 l1_1 t177 _ ?side1 ?side2 ?side3 ?side4 ?side5 A4.out).mono ?_
   (case side1 => exact BK1.out)
   (case side2 => repeat (first | exact (Kd.C_below HR1_0.out HB.out) | with_reducible first | refine Kd.C_drewN ?_ _ | refine Kd.C_drew ?_ | refine Kd.C_alloc ?_ _))
   (case side3 => exact HC1_0.out)
   (case side4 => repeat (first | exact (Kd.C_below HR1_1.out HB.out) | with_reducible first | refine Kd.C_drewN ?_ _ | refine Kd.C_drew ?_ | refine Kd.C_alloc ?_ _))
   (case side5 => exact HC1_1.out)
   rintro e w' ⟨rfl, ⟨nd, rfl⟩⟩
   refine ⟨_, rfl, ?_⟩
   refine hK.out _ _ ⟨(blk_cell BK90001.out 0).trans rfl, (blk_cell BK92002.out 0).trans rfl⟩ (fun hHeld => ?_)
   clear hK K
   refine norm_ (a' := ?_) ?_ ?_
   rotate_left
   · show Act.put _ (some 8) _ = _; simp only [Act.put, List.setIfInBounds_toArray, List.set_cons_zero, List.set_cons_succ, i64_w, i32_w]; rfl
   refine pure_ (i := 4) (N := some 9) (v := ?_) (a' := ?_) (bs 15 31) rfl rfl (any_of HT_.out (by kernel_rfl)) (fun _ _ _ h => h) (Or.inl ⟨by rfl, ?_⟩) ?_ ?_
   rotate_left
   · intro w'; go_simp; with_reducible rfl
   rotate_left
   · simp only [Act.put, List.setIfInBounds_toArray, List.set_cons_zero, List.set_cons_succ, i64_w, i32_w]; rfl
   refine pure_ (i := 5) (N := some 10) (v := ?_) (a' := ?_) (bs 15 63) rfl rfl (any_of HT_.out (by kernel_rfl)) (fun _ _ _ h => h) (Or.inl ⟨by rfl, ?_⟩) ?_ ?_
   rotate_left
   · intro w'; go_simp; with_reducible rfl
   rotate_left
   · simp only [Act.put, List.setIfInBounds_toArray, List.set_cons_zero, List.set_cons_succ, i64_w, i32_w]; rfl
   refine pure_ (i := 7) (N := some 12) (v := ?_) (a' := ?_) (bs 15 191) rfl rfl (any_of HT_.out (by kernel_rfl)) (fun _ _ _ h => h) (Or.inl ⟨by rfl, ?_⟩) ?_ ?_
   rotate_left
   · intro w'; go_simp; with_reducible rfl
   rotate_left
   · simp only [Act.put, List.setIfInBounds_toArray, List.set_cons_zero, List.set_cons_succ, i64_w, i32_w]; rfl
   refine pure_ (i := 8) (N := some 13) (v := ?_) (a' := ?_) (bs 15 447) rfl rfl (any_of HT_.out (by kernel_rfl)) (fun _ _ _ h => h) (Or.inl ⟨by rfl, ?_⟩) ?_ ?_
   rotate_left
   · intro w'; go_simp; with_reducible rfl
   rotate_left
   · simp only [Act.put, List.setIfInBounds_toArray, List.set_cons_zero, List.set_cons_succ, i64_w, i32_w]; rfl
   refine pure_ (i := 11) (N := some 16) (v := ?_) (a' := ?_) (bs 15 2495) rfl rfl (any_of HT_.out (by kernel_rfl)) (fun _ _ _ h => h) (Or.inl ⟨by rfl, ?_⟩) ?_ ?_
   rotate_left
   · intro w'; go_simp; with_reducible rfl
   rotate_left
   · simp only [Act.put, List.setIfInBounds_toArray, List.set_cons_zero, List.set_cons_succ, i64_w, i32_w]; rfl
   refine take_ (i := 6) (N := some 11) (v := ?_) (a' := ?_) (bs 15 2559) rfl rfl (take_ofW HT_.out HW_.out (by kernel_rfl)) (fun _ _ _ h => h) (Or.inl ⟨by rfl, ?_⟩) hHeld ?_ ?_
   rotate_left
   · rintro w' ⟨s0, s1⟩; go_simp; with_reducible rfl
   rotate_left
   · simp only [Act.put, List.setIfInBounds_toArray, List.set_cons_zero, List.set_cons_succ, i64_w, i32_w]; rfl
   refine take_ (i := 10) (N := some 15) (v := ?_) (a' := ?_) (bs 15 3583) rfl rfl (take_ofW HT_.out HW_.out (by kernel_rfl)) (fun _ _ _ h => h) (Or.inl ⟨by rfl, ?_⟩) hHeld ?_ ?_
   rotate_left
   · rintro w' ⟨s0, s1⟩; go_simp; with_reducible rfl
   rotate_left
   · simp only [Act.put, List.setIfInBounds_toArray, List.set_cons_zero, List.set_cons_succ, i64_w, i32_w]; rfl
   refine one_ (i := 9) (N := some 14) (bs 15 4095) rfl rfl (one_of HT_.out (by kernel_rfl)) (by decide) (fun K hK => ?_)
   refine goesc_ Tryd.func49 (by kernel_rfl) rfl #[.int .i64 (wrap64 (x0_1 + 1)), .pointer (some ⟨g2m, 0, none⟩)] #[.pointer (some ⟨g2m, 0, none⟩)] (by rfl) rfl rfl rfl (by (try simp only [List.map_toArray, List.map_cons, List.map_nil]); first | done | rfl) ?_
   with_reducible refine (object_para_1.calls (wrap64 (x0_1 + 1)) g2 g2m A2_0 c2_0 l2_0 A2_1 c2_1 l2_1 t178 _ ?side1 ?side2 ?side3 ?side4 ?side5 ?side6 A6.out).mono ?_
   (case side1 => exact BK2.out)
   (case side2 => exact BK90002.out)
   (case side3 => repeat (first | exact (Kd.C_below HR2_0.out (by repeat with_reducible first | exact HB.out | apply pw_below_drewN | refine below_set ?_ GE1.out | refine below_set ?_ GE90001.out | refine below_set ?_ GE2.out | refine below_set ?_ GE90002.out | refine below_set ?_ GE92002.out | apply below_drew1 | apply below_alloc)) | with_reducible first | refine Kd.C_drewN ?_ _ | refine Kd.C_drew ?_ | refine Kd.C_alloc ?_ _))
   (case side4 => exact HC2_0.out)
   (case side5 => repeat (first | exact (Kd.C_below HR2_1.out (by repeat with_reducible first | exact HB.out | apply pw_below_drewN | refine below_set ?_ GE1.out | refine below_set ?_ GE90001.out | refine below_set ?_ GE2.out | refine below_set ?_ GE90002.out | refine below_set ?_ GE92002.out | apply below_drew1 | apply below_alloc)) | with_reducible first | refine Kd.C_drewN ?_ _ | refine Kd.C_drew ?_ | refine Kd.C_alloc ?_ _))
   (case side6 => exact HC2_1.out)
   rintro e w' ⟨rfl, ⟨nd, rfl⟩⟩
   refine ⟨_, rfl, ?_⟩
   refine hK.out _ _ ⟨(blk_cell BK90001.out 0).trans rfl, (blk_cell BK92002.out 0).trans rfl⟩ (fun hHeld => ?_)
   clear hK K
   refine norm_ (a' := ?_) ?_ ?_
   rotate_left
   · show Act.put _ (some 14) _ = _; simp only [Act.put, List.setIfInBounds_toArray, List.set_cons_zero, List.set_cons_succ, i64_w, i32_w]; rfl
   refine one_ (i := 12) (N := some 17) (bs 15 8191) rfl rfl (one_of HT_.out (by kernel_rfl)) (by decide) (fun K hK => ?_)
   refine goesc_ Tryd.func49 (by kernel_rfl) rfl #[.int .i64 x0_1, .pointer (some ⟨g2m, 0, none⟩)] #[.pointer (some ⟨g2m, 0, none⟩)] (by rfl) rfl rfl rfl (by (try simp only [List.map_toArray, List.map_cons, List.map_nil]); first | done | rfl) ?_
   with_reducible refine (object_para_1.calls x0_1 g2 g2m A2_0 c2_0 l2_0 A2_1 c2_1 l2_1 t179 _ ?side1 ?side2 ?side3 ?side4 ?side5 ?side6 A7.out).mono ?_
   (case side1 => exact BK2.out)
   (case side2 => exact BK90002.out)
   (case side3 => repeat (first | exact (Kd.C_below HR2_0.out (by repeat with_reducible first | exact HB.out | apply pw_below_drewN | refine below_set ?_ GE1.out | refine below_set ?_ GE90001.out | refine below_set ?_ GE2.out | refine below_set ?_ GE90002.out | refine below_set ?_ GE92002.out | apply below_drew1 | apply below_alloc)) | with_reducible first | refine Kd.C_drewN ?_ _ | refine Kd.C_drew ?_ | refine Kd.C_alloc ?_ _))
   (case side4 => exact HC2_0.out)
   (case side5 => repeat (first | exact (Kd.C_below HR2_1.out (by repeat with_reducible first | exact HB.out | apply pw_below_drewN | refine below_set ?_ GE1.out | refine below_set ?_ GE90001.out | refine below_set ?_ GE2.out | refine below_set ?_ GE90002.out | refine below_set ?_ GE92002.out | apply below_drew1 | apply below_alloc)) | with_reducible first | refine Kd.C_drewN ?_ _ | refine Kd.C_drew ?_ | refine Kd.C_alloc ?_ _))
   (case side6 => exact HC2_1.out)
   rintro e w' ⟨rfl, ⟨nd, rfl⟩⟩
   refine ⟨_, rfl, ?_⟩
   refine hK.out _ _ ⟨(blk_cell BK90001.out 0).trans rfl, (blk_cell BK92002.out 0).trans rfl⟩ (fun hHeld => ?_)
   clear hK K
   refine norm_ (a' := ?_) ?_ ?_
   rotate_left
   · show Act.put _ (some 17) _ = _; simp only [Act.put, List.setIfInBounds_toArray, List.set_cons_zero, List.set_cons_succ, i64_w, i32_w]; rfl
   refine pure_ (i := 13) (N := some 18) (v := ?_) (a' := ?_) (bs 15 16383) rfl rfl (any_of HT_.out (by kernel_rfl)) (fun _ _ _ h => h) (Or.inl ⟨by rfl, ?_⟩) ?_ ?_
   rotate_left
   · intro w'; go_simp; with_reducible rfl
   rotate_left
   · simp only [Act.put, List.setIfInBounds_toArray, List.set_cons_zero, List.set_cons_succ, i64_w, i32_w]; rfl
   refine pure_ (i := 14) (N := some 19) (v := ?_) (a' := ?_) (bs 15 32767) rfl rfl (any_of HT_.out (by kernel_rfl)) (fun _ _ _ h => h) (Or.inl ⟨by rfl, ?_⟩) ?_ ?_
   rotate_left
   · intro w'; go_simp; with_reducible rfl
   rotate_left
   · simp only [Act.put, List.setIfInBounds_toArray, List.set_cons_zero, List.set_cons_succ, i64_w, i32_w]; rfl
   refine done_ (done_of HT_.out (by kernel_rfl)) ?_
   try go_wp2
   go_roundg k1
   case measure => have := HK1.out; omega
   case rel => exact ⟨(wrap64 (x0_1 + 1)), (by first | rfl | (simp; done) | (simp [*]; done)), H', ⟨by have := HK1.out; omega⟩, ⟨BK1.out⟩, ⟨BK90001.out⟩, ⟨BK2.out⟩, ⟨BK90002.out⟩, ⟨BK92002.out⟩, ⟨by repeat with_reducible first | exact HB.out | apply pw_below_drewN | refine below_set ?_ GE1.out | refine below_set ?_ GE90001.out | refine below_set ?_ GE2.out | refine below_set ?_ GE90002.out | refine below_set ?_ GE92002.out | apply below_drew1 | apply below_alloc⟩⟩

end Go.Proofs.YtgikaemhhaejoaaDoor.P
