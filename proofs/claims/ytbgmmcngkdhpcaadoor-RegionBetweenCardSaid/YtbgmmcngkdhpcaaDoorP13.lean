/- The walks of the functions that these statements reach: each Go function as a plain Lean function, and the proof that its call comes to that. Written by the session's program wip/pp.py. -/
import Derived.Test.YtbgmmcngkdhpcaaDoorP0
import Derived.Test.YtbgmmcngkdhpcaaDoorP2
import Derived.Test.YtbgmmcngkdhpcaaDoorP3
import Derived.Test.YtbgmmcngkdhpcaaDoorP4
import Derived.Test.YtbgmmcngkdhpcaaDoorP5
import Derived.Test.YtbgmmcngkdhpcaaDoorP11
import Derived.Test.YtbgmmcngkdhpcaaDoorP12
namespace Go.Proofs.YtbgmmcngkdhpcaaDoor.P
open Go.Proofs.YtbgmmcngkdhpcaaDoor
open Go.RowKit Go.Proofs.YtbgmmcngkdhpcaaDoorW.PrintWords Go.Proofs.YtbgmmcngkdhpcaaDoorW.PrintLast Go.Proofs.YtbgmmcngkdhpcaaDoorW.PrintMore
attribute [local go_sem] cell_isSome max2_int min2_int max_two min_two max_three min_three max_four min_four   -- for this text's walks alone
set_option linter.unusedVariables false
set_option linter.unusedSimpArgs false

/-! ### region_Of: function 34 -/
def region_Of.j0 : Nat → ByteArray → Int → List (S89) → Bool → Int → Int → Int → Int → Int → Int → Int → Int → Int → Int → Bool → Int → Int → List Int → List Int → Option (Int × Int × Bool × Int × Int × Int)
  | 0, _, _, _, _, _, _, _, _, _, _, _, _, _, _, _, _, _, _, _ => none
  | k + 1, x0, x1, x4, x46, v0, v1, v2, v3, v4, v5, v6, v7, v8, v9, v10, v11, v12, v13, v14 => if x46 = true then (some (v8, v9, v10, v11, v12, 1)) else (if v4 = 0 then (if v3 = v2 then ((region_rows.f v13 v14 x1 (mx 1 v1)).bind fun bt322 => (if bt322.2.2.2 = 0 then (some (bt322.1, bt322.2.1, bt322.2.2.1, v6, v7, 0)) else (some (bt322.1, bt322.2.1, bt322.2.2.1, v11, v12, bt322.2.2.2)))) else ((move_Go.f k x0 x1 v0 v1 v2 v3 v4 v5 v6 v7 x4).bind fun bt327 => (if bt327.2.2.2.2 = 0 then ((region_between.f k v13 v14 x1 bt327.1 bt327.2.1).bind fun bt332 => (some (bt332.1, bt332.2.1, bt332.2.2, bt327.2.2.1, bt327.2.2.2.1, 0))) else (some (v8, v9, v10, v11, v12, bt327.2.2.2.2))))) else ((object_Piece.f x0 x1 v4 v3 (mx 1 v1)).bind fun bt335 => (if bt335.2.2.2 = 0 then (some (bt335.1, bt335.2.1, bt335.2.2.1, v6, v7, 0)) else (some (bt335.1, bt335.2.1, bt335.2.2.1, v11, v12, bt335.2.2.2)))))
def region_Of.f (k : Nat) (a0 : ByteArray) (a1 : Int) (a2_0 : Int) (a2_1 : Int) (a2_2 : Int) (a2_3 : Int) (a2_4 : Int) (a2_5 : Int) (a3_0 : Int) (a3_1 : Int) (l4 : List (S89)) : Option (Int × Int × Bool × Int × Int × Int) := (text_May.f a0).bind fun t309 => (if t309 = true then ((text_Of.f k a0).bind fun bt310 => ((text_Map_Is.f bt310.1 bt310.2 a1).bind fun t317 => (if t317 = true then ((region_may.f k a2_0 a2_1 a2_2 a2_3 a2_4 a2_5).bind fun t318 => (if t318 = true then (if a3_0 = 0 then ((marks_May.f k l4).bind fun t319 => (region_Of.j0 k a0 a1 l4 (!t319) a2_0 a2_1 a2_2 a2_3 a2_4 a2_5 a3_0 a3_1 0 0 false 0 0 bt310.1 bt310.2)) else ((seek_Is.f a3_0).bind fun t320 => (if t320 = true then ((marks_May.f k l4).bind fun t321 => (region_Of.j0 k a0 a1 l4 (!t321) a2_0 a2_1 a2_2 a2_3 a2_4 a2_5 a3_0 a3_1 0 0 false 0 0 bt310.1 bt310.2)) else (region_Of.j0 k a0 a1 l4 true a2_0 a2_1 a2_2 a2_3 a2_4 a2_5 a3_0 a3_1 0 0 false 0 0 bt310.1 bt310.2)))) else (region_Of.j0 k a0 a1 l4 true a2_0 a2_1 a2_2 a2_3 a2_4 a2_5 a3_0 a3_1 0 0 false 0 0 bt310.1 bt310.2))) else (region_Of.j0 k a0 a1 l4 true a2_0 a2_1 a2_2 a2_3 a2_4 a2_5 a3_0 a3_1 0 0 false 0 0 bt310.1 bt310.2)))) else (some (0, 0, false, 0, 0, 1)))
theorem region_Of.mono_l : ∀ k, (∀ y0 y1 y2 y3 y4 y5 y6 y7 y8 y9 y10 y11 y12 y13 y14 y15 y16 y17 y18, LeO (region_Of.j0 k y0 y1 y2 y3 y4 y5 y6 y7 y8 y9 y10 y11 y12 y13 y14 y15 y16 y17 y18) (region_Of.j0 (k + 1) y0 y1 y2 y3 y4 y5 y6 y7 y8 y9 y10 y11 y12 y13 y14 y15 y16 y17 y18))
  | 0 => fun _ _ _ _ _ _ _ _ _ _ _ _ _ _ _ _ _ _ _ r h => by simp [region_Of.j0] at h
  | k + 1 => by
    have ih0 := region_Of.mono_l k
    all_goals intros
    all_goals first | unfold region_Of.j0
    all_goals repeat' first | (with_reducible first | exact ih0 _ _ _ _ _ _ _ _ _ _ _ _ _ _ _ _ _ _ _ | exact marks_May.mono _ _ | exact move_Go.mono _ _ _ _ _ _ _ _ _ _ _ _ | exact region_between.mono _ _ _ _ _ _ | exact region_may.mono _ _ _ _ _ _ _ | exact text_Of.mono _ _ | exact LeO.refl _ | exact LeO.none _ | refine LeO.ite ?_ ?_ | refine LeO.bind ?_ (fun _ => ?_)) | exact ih0 _ _ _ _ _ _ _ _ _ _ _ _ _ _ _ _ _ _ _ | exact marks_May.mono _ _ | exact move_Go.mono _ _ _ _ _ _ _ _ _ _ _ _ | exact region_between.mono _ _ _ _ _ _ | exact region_may.mono _ _ _ _ _ _ _ | exact text_Of.mono _ _ | exact LeO.refl _ | exact LeO.none _ | refine LeO.ite ?_ ?_ | refine LeO.bind ?_ (fun _ => ?_)
theorem region_Of.mono : ∀ a0 a1 a2 a3 a4 a5 a6 a7 a8 a9 a10 k, LeO (region_Of.f k a0 a1 a2 a3 a4 a5 a6 a7 a8 a9 a10) (region_Of.f (k + 1) a0 a1 a2 a3 a4 a5 a6 a7 a8 a9 a10) := by
  intro a0 a1 a2 a3 a4 a5 a6 a7 a8 a9 a10 k
  have ih0 := region_Of.mono_l k
  unfold region_Of.f
  repeat' first | (with_reducible first | exact ih0 _ _ _ _ _ _ _ _ _ _ _ _ _ _ _ _ _ _ _ | exact marks_May.mono _ _ | exact move_Go.mono _ _ _ _ _ _ _ _ _ _ _ _ | exact region_between.mono _ _ _ _ _ _ | exact region_may.mono _ _ _ _ _ _ _ | exact text_Of.mono _ _ | exact LeO.refl _ | exact LeO.none _ | refine LeO.ite ?_ ?_ | refine LeO.bind ?_ (fun _ => ?_)) | exact ih0 _ _ _ _ _ _ _ _ _ _ _ _ _ _ _ _ _ _ _ | exact marks_May.mono _ _ | exact move_Go.mono _ _ _ _ _ _ _ _ _ _ _ _ | exact region_between.mono _ _ _ _ _ _ | exact region_may.mono _ _ _ _ _ _ _ | exact text_Of.mono _ _ | exact LeO.refl _ | exact LeO.none _ | refine LeO.ite ?_ ?_ | refine LeO.bind ?_ (fun _ => ?_)
set_option maxHeartbeats 8000000 in
set_option maxRecDepth 100000 in
theorem region_Of.calls (k : Nat) (a0 : ByteArray) (a1 : Int) (a2_0 : Int) (a2_1 : Int) (a2_2 : Int) (a2_3 : Int) (a2_4 : Int) (a2_5 : Int) (a3_0 : Int) (a3_1 : Int) (A4 : Option Addr) (c4 : Nat) (l4 : List (S89)) (r1 : Int) (r2 : Int) (r3 : Bool) (r4 : Int) (r5 : Int) (r6 : Int) (w : World) (hT : Tabs w) (hr4 : Kd.C k89 w A4 l4.length l4) (hc4 : l4.length ≤ c4) (h : region_Of.f k a0 a1 a2_0 a2_1 a2_2 a2_3 a2_4 a2_5 a3_0 a3_1 l4 = some (r1, r2, r3, r4, r5, r6)) :
  Calls Tryd.prog 34 #[.string a0, .int .i64 a1, .agg #[.int .i64 a2_0, .int .i64 a2_1, .int .i64 a2_2, .int .i64 a2_3, .int .i64 a2_4, .int .i64 a2_5], .agg #[.int .i64 a3_0, .int .i64 a3_1], .slice A4 l4.length c4] w fun e w' => e = .returned (.tuple #[.agg #[.int .i64 r1, .int .i64 r2, .bool r3], .agg #[.int .i64 r4, .int .i64 r5], .int .i64 r6]) ∧ Below w.heap.size w w' := by
 have hu52 := Tryd.underlying52
 have hu31 := Tryd.underlying31
 have hu40 := Tryd.underlying40
 have hu54 := Tryd.underlying54
 have HT := Aside0.mk hT
 clear hT
 have HR4 := Aside0.mk hr4
 have HC4 := Aside0.mk hc4
 clear hr4 hc4
 have HB := Aside0.mk (Below.refl w.heap.size w)
 have H : ((text_May.f a0).bind fun t309 => (if t309 = true then ((text_Of.f k a0).bind fun bt310 => ((text_Map_Is.f bt310.1 bt310.2 a1).bind fun t317 => (if t317 = true then ((region_may.f k a2_0 a2_1 a2_2 a2_3 a2_4 a2_5).bind fun t318 => (if t318 = true then (if a3_0 = 0 then ((marks_May.f k l4).bind fun t319 => (region_Of.j0 k a0 a1 l4 (!t319) a2_0 a2_1 a2_2 a2_3 a2_4 a2_5 a3_0 a3_1 0 0 false 0 0 bt310.1 bt310.2)) else ((seek_Is.f a3_0).bind fun t320 => (if t320 = true then ((marks_May.f k l4).bind fun t321 => (region_Of.j0 k a0 a1 l4 (!t321) a2_0 a2_1 a2_2 a2_3 a2_4 a2_5 a3_0 a3_1 0 0 false 0 0 bt310.1 bt310.2)) else (region_Of.j0 k a0 a1 l4 true a2_0 a2_1 a2_2 a2_3 a2_4 a2_5 a3_0 a3_1 0 0 false 0 0 bt310.1 bt310.2)))) else (region_Of.j0 k a0 a1 l4 true a2_0 a2_1 a2_2 a2_3 a2_4 a2_5 a3_0 a3_1 0 0 false 0 0 bt310.1 bt310.2))) else (region_Of.j0 k a0 a1 l4 true a2_0 a2_1 a2_2 a2_3 a2_4 a2_5 a3_0 a3_1 0 0 false 0 0 bt310.1 bt310.2)))) else (some (0, 0, false, 0, 0, 1)))) = some (r1, r2, r3, r4, r5, r6) := h
 clear h
 replace H := Option.bind_eq_some_iff.mp H
 obtain ⟨t309, A60, H⟩ := H
 (try dsimp only at H)
 have A6 := Aside0.mk A60
 clear A60
 by_cases c7 : t309 = true
 rotate_left
 ·
  replace c7 := Bool.eq_false_iff.mpr c7
  subst c7
  have H1 : (some (0, 0, false, 0, 0, 1)) = some (r1, r2, r3, r4, r5, r6) := by rw [if_neg (show ¬ (false = true) by decide)] at H; exact H
  clear H
  have H := H1
  clear H1
  simp only [Option.some.injEq, Prod.mk.injEq] at H
  obtain ⟨rfl, rfl, rfl, rfl, rfl, rfl⟩ := H
  go_enter Tryd.func34, Tryd.ntmps34
  try go_wp2_with (first | ((with_reducible refine gate_dst (N := 7) rfl ?_); refine box_event ?hg (N := 7) ?hd (cs := #[.int .i64 a2_0, .int .i64 a2_1, .int .i64 a2_2, .int .i64 a2_3, .int .i64 a2_4, .int .i64 a2_5]) (t := 52) ?hr ?_; (case hd => rfl); (case hg => rfl); (case hr => first | (go_simp; done) | (go_simp; rfl)); intro gb305 hg w223 hbox hb; have n0_ := Aside0.mk (below_step (by repeat with_reducible first | exact HB.out | apply pw_below_drewN | apply below_drew1 | apply below_alloc) hb); have n1_ := Aside0.mk (hbox); have n2_ := Aside0.mk (geb hg (by repeat with_reducible first | exact HB.out | apply pw_below_drewN | apply below_drew1 | apply below_alloc)); have n3_ := n2_; clear HB; have HB := n0_; have BK305 := n1_; have GW305 := n2_; have GE305 := n3_; clear n0_ n1_ n2_ n3_; clear hb hbox hg) | ((with_reducible refine gate_dst (N := 8) rfl ?_); refine box_event ?hg (N := 8) ?hd (cs := #[.int .i64 a3_0, .int .i64 a3_1]) (t := 31) ?hr ?_; (case hd => rfl); (case hg => rfl); (case hr => first | (go_simp; done) | (go_simp; rfl)); intro gb306 hg w224 hbox hb; have n0_ := Aside0.mk (blb hb BK305.out); have n1_ := Aside0.mk (below_step (by repeat with_reducible first | exact HB.out | apply pw_below_drewN | refine below_set ?_ GE305.out | apply below_drew1 | apply below_alloc) hb); have n2_ := Aside0.mk (hbox); have n3_ := Aside0.mk (geb hg (by repeat with_reducible first | exact HB.out | apply pw_below_drewN | refine below_set ?_ GE305.out | apply below_drew1 | apply below_alloc)); have n4_ := n3_; have n5_ := Aside0.mk ((nbl hg BK305.out)); have n6_ := Aside0.mk ((nbr hg BK305.out)); clear BK305; clear HB; have BK305 := n0_; have HB := n1_; have BK306 := n2_; have GW306 := n3_; have GE306 := n4_; have NB305_306 := n5_; have NB306_305 := n6_; clear n0_ n1_ n2_ n3_ n4_ n5_ n6_; clear hb hbox hg) | ((with_reducible refine gate_dst (N := 10) rfl ?_); refine box_event ?hg (N := 10) ?hd (cs := #[.int .i64 0, .int .i64 0, .bool false]) (t := 40) ?hr ?_; (case hd => rfl); (case hg => rfl); (case hr => first | (go_simp; done) | (go_simp; rfl)); intro gb307 hg w225 hbox hb; have n0_ := Aside0.mk (blb hb BK305.out); have n1_ := Aside0.mk (blb hb BK306.out); have n2_ := Aside0.mk (below_step (by repeat with_reducible first | exact HB.out | apply pw_below_drewN | refine below_set ?_ GE305.out | refine below_set ?_ GE306.out | apply below_drew1 | apply below_alloc) hb); have n3_ := Aside0.mk (hbox); have n4_ := Aside0.mk (geb hg (by repeat with_reducible first | exact HB.out | apply pw_below_drewN | refine below_set ?_ GE305.out | refine below_set ?_ GE306.out | apply below_drew1 | apply below_alloc)); have n5_ := n4_; have n6_ := Aside0.mk ((nbl hg BK305.out)); have n7_ := Aside0.mk ((nbr hg BK305.out)); have n8_ := Aside0.mk ((nbl hg BK306.out)); have n9_ := Aside0.mk ((nbr hg BK306.out)); clear BK305; clear BK306; clear HB; have BK305 := n0_; have BK306 := n1_; have HB := n2_; have BK307 := n3_; have GW307 := n4_; have GE307 := n5_; have NB305_307 := n6_; have NB307_305 := n7_; have NB306_307 := n8_; have NB307_306 := n9_; clear n0_ n1_ n2_ n3_ n4_ n5_ n6_ n7_ n8_ n9_; clear hb hbox hg) | ((with_reducible refine gate_dst (N := 11) rfl ?_); refine box_event ?hg (N := 11) ?hd (cs := #[.int .i64 0, .int .i64 0]) (t := 31) ?hr ?_; (case hd => rfl); (case hg => rfl); (case hr => first | (go_simp; done) | (go_simp; rfl)); intro gb308 hg w226 hbox hb; have n0_ := Aside0.mk (blb hb BK305.out); have n1_ := Aside0.mk (blb hb BK306.out); have n2_ := Aside0.mk (blb hb BK307.out); have n3_ := Aside0.mk (below_step (by repeat with_reducible first | exact HB.out | apply pw_below_drewN | refine below_set ?_ GE305.out | refine below_set ?_ GE306.out | refine below_set ?_ GE307.out | apply below_drew1 | apply below_alloc) hb); have n4_ := Aside0.mk (hbox); have n5_ := Aside0.mk (geb hg (by repeat with_reducible first | exact HB.out | apply pw_below_drewN | refine below_set ?_ GE305.out | refine below_set ?_ GE306.out | refine below_set ?_ GE307.out | apply below_drew1 | apply below_alloc)); have n6_ := n5_; have n7_ := Aside0.mk ((nbl hg BK305.out)); have n8_ := Aside0.mk ((nbr hg BK305.out)); have n9_ := Aside0.mk ((nbl hg BK306.out)); have n10_ := Aside0.mk ((nbr hg BK306.out)); have n11_ := Aside0.mk ((nbl hg BK307.out)); have n12_ := Aside0.mk ((nbr hg BK307.out)); clear BK305; clear BK306; clear BK307; clear HB; have BK305 := n0_; have BK306 := n1_; have BK307 := n2_; have HB := n3_; have BK308 := n4_; have GW308 := n5_; have GE308 := n6_; have NB305_308 := n7_; have NB308_305 := n8_; have NB306_308 := n9_; have NB308_306 := n10_; have NB307_308 := n11_; have NB308_307 := n12_; clear n0_ n1_ n2_ n3_ n4_ n5_ n6_ n7_ n8_ n9_ n10_ n11_ n12_; clear hb hbox hg) | ((with_reducible refine gate_callee (f := 27) rfl ?_); refine goesL_ (some 16) rfl rfl Tryd.func27 (by kernel_rfl) rfl #[.string a0] rfl (map1 rfl) ?_; (with_reducible refine (text_May.calls a0 false _ ?side1 A6.out).mono ?_); (case side1 => exact Tabs.below HT.out (by repeat with_reducible first | exact HB.out | apply pw_below_drewN | refine below_set ?_ GE305.out | refine below_set ?_ GE306.out | refine below_set ?_ GE307.out | refine below_set ?_ GE308.out | apply below_drew1 | apply below_alloc)); rintro e w227 ⟨rfl, hb⟩; refine ⟨_, rfl, ?_⟩; have n0_ := Aside0.mk (blb hb BK305.out); have n1_ := Aside0.mk (blb hb BK306.out); have n2_ := Aside0.mk (blb hb BK307.out); have n3_ := Aside0.mk (blb hb BK308.out); have n4_ := Aside0.mk (below_step (by repeat with_reducible first | exact HB.out | apply pw_below_drewN | refine below_set ?_ GE305.out | refine below_set ?_ GE306.out | refine below_set ?_ GE307.out | refine below_set ?_ GE308.out | apply below_drew1 | apply below_alloc) hb); clear BK305; clear BK306; clear BK307; clear BK308; clear HB; have BK305 := n0_; have BK306 := n1_; have BK307 := n2_; have BK308 := n3_; have HB := n4_; clear n0_ n1_ n2_ n3_ n4_; (try clear hb); (try clear hb2); (try clear hk); (try clear hi)))
  have n0_ := Aside0.mk (blk_drew BK305.out)
  have n1_ := Aside0.mk (blk_drew BK306.out)
  have n2_ := Aside0.mk (blk_drew BK307.out)
  have n3_ := Aside0.mk (blk_drew BK308.out)
  have n4_ := Aside0.mk (below_drew1 HB.out)
  clear BK305
  clear BK306
  clear BK307
  clear BK308
  clear HB
  have BK305 := n0_
  have BK306 := n1_
  have BK307 := n2_
  have BK308 := n3_
  have HB := n4_
  clear n0_ n1_ n2_ n3_ n4_
  refine start_ (n := 5) (S := fun w' => w'.cell? ⟨gb307, 0, none⟩ = some (.int .i64 0) ∧ w'.cell? ⟨gb307, 1, none⟩ = some (.int .i64 0) ∧ w'.cell? ⟨gb307, 2, none⟩ = some (.bool false) ∧ w'.cell? ⟨gb308, 0, none⟩ = some (.int .i64 0) ∧ w'.cell? ⟨gb308, 1, none⟩ = some (.int .i64 0)) (ds := []) (bs 5 0) (by kernel_rfl) rfl rfl ⟨(blk_cell BK307.out 0).trans rfl, (blk_cell BK307.out 1).trans rfl, (blk_cell BK307.out 2).trans rfl, (blk_cell BK308.out 0).trans rfl, (blk_cell BK308.out 1).trans rfl⟩ (fun hHeld => ?_)
  generalize w227.drew = w228 at BK305 BK306 BK307 BK308 HB hHeld ⊢
  refine take_ (i := 0) (N := some 18) (v := ?_) (a' := ?_) (bs 5 1) rfl rfl (by kernel_rfl) (fun _ _ _ h => h) (Or.inl ⟨by rfl, ?_⟩) hHeld ?_ ?_
  rotate_left
  · rintro w' ⟨s0, s1, s2, s3, s4⟩; go_simp; with_reducible rfl
  rotate_left
  · simp only [Act.put, List.setIfInBounds_toArray, List.set_cons_zero, List.set_cons_succ, i64_w, i32_w]; rfl
  refine take_ (i := 1) (N := some 19) (v := ?_) (a' := ?_) (bs 5 3) rfl rfl (by kernel_rfl) (fun _ _ _ h => h) (Or.inl ⟨by rfl, ?_⟩) hHeld ?_ ?_
  rotate_left
  · rintro w' ⟨s0, s1, s2, s3, s4⟩; go_simp; with_reducible rfl
  rotate_left
  · simp only [Act.put, List.setIfInBounds_toArray, List.set_cons_zero, List.set_cons_succ, i64_w, i32_w]; rfl
  refine one_ (i := 2) (N := none) (bs 5 7) rfl rfl (by kernel_rfl) (by decide) (fun K hK => ?_)
  have hs229 := cz0 BK307.out
  have hfs229 := blk_frozen BK307.out 0
  have hns229_0 := NB305_307.out
  have hns229_1 := NB306_307.out
  have hns229_3 := NB308_307.out
  have hms229_0 := NB307_305.out
  have hms229_1 := NB307_306.out
  have hms229_3 := NB307_308.out
  have hs230 := cz1 BK307.out
  have hfs230 := blk_frozen BK307.out 1
  have hns230_0 := NB305_307.out
  have hns230_1 := NB306_307.out
  have hns230_3 := NB308_307.out
  have hms230_0 := NB307_305.out
  have hms230_1 := NB307_306.out
  have hms230_3 := NB307_308.out
  have hs231 := cz2 BK307.out
  have hfs231 := blk_frozen BK307.out 2
  have hns231_0 := NB305_307.out
  have hns231_1 := NB306_307.out
  have hns231_3 := NB308_307.out
  have hms231_0 := NB307_305.out
  have hms231_1 := NB307_306.out
  have hms231_3 := NB307_308.out
  refine skip_ (w1 := ?_) (by rfl) rfl ?_ ?_
  rotate_left
  ·
   go_simp
   rfl
  refine hK.out _ _ ⟨((cell_keep (((cell_keep (((cell_keep (hHeld.1) _).trans (hHeld.2.1))) _).trans (((cell_keep (hHeld.1) _).trans (hHeld.2.2.1))))) _).trans (((cell_keep (((cell_keep (hHeld.1) _).trans (hHeld.2.1))) _).trans (((cell_keep (hHeld.1) _).trans (hHeld.1)))))), ((cell_keep (((cell_keep (((cell_keep (hHeld.1) _).trans (hHeld.2.1))) _).trans (((cell_keep (hHeld.1) _).trans (hHeld.2.2.1))))) _).trans (((cell_keep (((cell_keep (hHeld.1) _).trans (hHeld.2.1))) _).trans (((cell_keep (hHeld.1) _).trans (hHeld.2.1)))))), ((cell_keep (((cell_keep (((cell_keep (hHeld.1) _).trans (hHeld.2.1))) _).trans (((cell_keep (hHeld.1) _).trans (hHeld.2.2.1))))) _).trans (((cell_keep (((cell_keep (hHeld.1) _).trans (hHeld.2.1))) _).trans (((cell_keep (hHeld.1) _).trans (hHeld.2.2.1)))))), ((cell_keep (((cell_keep (((cell_keep (hHeld.1) _).trans (hHeld.2.1))) _).trans (((cell_keep (hHeld.1) _).trans (hHeld.2.2.1))))) _).trans (((cell_keep (((cell_keep (hHeld.1) _).trans (hHeld.2.1))) _).trans (((cell_keep (hHeld.1) _).trans (hHeld.2.2.2.1)))))), ((cell_keep (((cell_keep (((cell_keep (hHeld.1) _).trans (hHeld.2.1))) _).trans (((cell_keep (hHeld.1) _).trans (hHeld.2.2.1))))) _).trans (((cell_keep (((cell_keep (hHeld.1) _).trans (hHeld.2.1))) _).trans (((cell_keep (hHeld.1) _).trans (hHeld.2.2.2.2))))))⟩ (fun hHeld => ?_)
  clear hK K
  refine one_ (i := 3) (N := none) (bs 5 15) rfl rfl (by kernel_rfl) (by decide) (fun K hK => ?_)
  have hs232 := cz0 BK308.out
  have hfs232 := blk_frozen BK308.out 0
  have hns232_0 := NB305_308.out
  have hns232_1 := NB306_308.out
  have hns232_2 := NB307_308.out
  have hms232_0 := NB308_305.out
  have hms232_1 := NB308_306.out
  have hms232_2 := NB308_307.out
  have hs233 := cz1 BK308.out
  have hfs233 := blk_frozen BK308.out 1
  have hns233_0 := NB305_308.out
  have hns233_1 := NB306_308.out
  have hns233_2 := NB307_308.out
  have hms233_0 := NB308_305.out
  have hms233_1 := NB308_306.out
  have hms233_2 := NB308_307.out
  refine skip_ (w1 := ?_) (by rfl) rfl ?_ ?_
  rotate_left
  ·
   go_simp
   rfl
  refine hK.out _ _ ⟨((cell_keep (((cell_keep (hHeld.2.2.2.1) _).trans (hHeld.2.2.2.2))) _).trans (((cell_keep (hHeld.2.2.2.1) _).trans (hHeld.1)))), ((cell_keep (((cell_keep (hHeld.2.2.2.1) _).trans (hHeld.2.2.2.2))) _).trans (((cell_keep (hHeld.2.2.2.1) _).trans (hHeld.2.1)))), ((cell_keep (((cell_keep (hHeld.2.2.2.1) _).trans (hHeld.2.2.2.2))) _).trans (((cell_keep (hHeld.2.2.2.1) _).trans (hHeld.2.2.1)))), ((cell_keep (((cell_keep (hHeld.2.2.2.1) _).trans (hHeld.2.2.2.2))) _).trans (((cell_keep (hHeld.2.2.2.1) _).trans (hHeld.2.2.2.1)))), ((cell_keep (((cell_keep (hHeld.2.2.2.1) _).trans (hHeld.2.2.2.2))) _).trans (((cell_keep (hHeld.2.2.2.1) _).trans (hHeld.2.2.2.2))))⟩ (fun hHeld => ?_)
  clear hK K
  refine pure_ (i := 4) (N := some 12) (v := ?_) (a' := ?_) (bs 5 31) rfl rfl (by kernel_rfl) (fun _ _ _ h => h) (Or.inl ⟨by rfl, ?_⟩) ?_ ?_
  rotate_left
  · intro w'; go_simp; with_reducible rfl
  rotate_left
  · simp only [Act.put, List.setIfInBounds_toArray, List.set_cons_zero, List.set_cons_succ, i64_w, i32_w]; rfl
  refine done_ (by kernel_rfl) ?_
  try go_wp2
  refine bodyPost_ret (results_list (rs := [.cell 10 40, .cell 11 31, .tmp 12]) rfl (by simp) (.cell gb307 40 #[.int .i64 0, .int .i64 0, .bool false] (0, 0) _ rfl (by (with_reducible repeat (first | refine blk_drewN ?_ _ | refine blk_drew ?_ | refine blk_alloc ?_ _)); refine blk_far ?_ NB307_308.out _; (with_reducible repeat (first | refine blk_drewN ?_ _ | refine blk_drew ?_ | refine blk_alloc ?_ _)); refine blk_far ?_ NB307_308.out _; (with_reducible repeat (first | refine blk_drewN ?_ _ | refine blk_drew ?_ | refine blk_alloc ?_ _)); refine blk_put (cs := #[.int .i64 0, .int .i64 0, .bool false]) ?_ 2 _ rfl; (with_reducible repeat (first | refine blk_drewN ?_ _ | refine blk_drew ?_ | refine blk_alloc ?_ _)); refine blk_put (cs := #[.int .i64 0, .int .i64 0, .bool false]) ?_ 1 _ rfl; (with_reducible repeat (first | refine blk_drewN ?_ _ | refine blk_drew ?_ | refine blk_alloc ?_ _)); refine blk_put (cs := #[.int .i64 0, .int .i64 0, .bool false]) ?_ 0 _ rfl; (with_reducible repeat (first | refine blk_drewN ?_ _ | refine blk_drew ?_ | refine blk_alloc ?_ _)); exact BK307.out) Tryd.underlying40 rfl (by kernel_rfl) (.cell gb308 31 #[.int .i64 0, .int .i64 0] (0, 0) _ rfl (by (with_reducible repeat (first | refine blk_drewN ?_ _ | refine blk_drew ?_ | refine blk_alloc ?_ _)); refine blk_put (cs := #[.int .i64 0, .int .i64 0]) ?_ 1 _ rfl; (with_reducible repeat (first | refine blk_drewN ?_ _ | refine blk_drew ?_ | refine blk_alloc ?_ _)); refine blk_put (cs := #[.int .i64 0, .int .i64 0]) ?_ 0 _ rfl; (with_reducible repeat (first | refine blk_drewN ?_ _ | refine blk_drew ?_ | refine blk_alloc ?_ _)); refine blk_far ?_ NB308_307.out _; (with_reducible repeat (first | refine blk_drewN ?_ _ | refine blk_drew ?_ | refine blk_alloc ?_ _)); refine blk_far ?_ NB308_307.out _; (with_reducible repeat (first | refine blk_drewN ?_ _ | refine blk_drew ?_ | refine blk_alloc ?_ _)); refine blk_far ?_ NB308_307.out _; (with_reducible repeat (first | refine blk_drewN ?_ _ | refine blk_drew ?_ | refine blk_alloc ?_ _)); exact BK308.out) Tryd.underlying31 rfl (by kernel_rfl) (.tmp .nil)))) rfl ?_
  exact ⟨by first | rfl | (simp [errW_none, errW_some] <;> rfl) | (simp [*, errW_none, errW_some] <;> rfl), by repeat with_reducible first | exact HB.out | apply pw_below_drewN | refine below_set ?_ GE305.out | refine below_set ?_ GE306.out | refine below_set ?_ GE307.out | refine below_set ?_ GE308.out | apply below_drew1 | apply below_alloc⟩
 subst c7
 have H1 : ((text_Of.f k a0).bind fun bt310 => ((text_Map_Is.f bt310.1 bt310.2 a1).bind fun t317 => (if t317 = true then ((region_may.f k a2_0 a2_1 a2_2 a2_3 a2_4 a2_5).bind fun t318 => (if t318 = true then (if a3_0 = 0 then ((marks_May.f k l4).bind fun t319 => (region_Of.j0 k a0 a1 l4 (!t319) a2_0 a2_1 a2_2 a2_3 a2_4 a2_5 a3_0 a3_1 0 0 false 0 0 bt310.1 bt310.2)) else ((seek_Is.f a3_0).bind fun t320 => (if t320 = true then ((marks_May.f k l4).bind fun t321 => (region_Of.j0 k a0 a1 l4 (!t321) a2_0 a2_1 a2_2 a2_3 a2_4 a2_5 a3_0 a3_1 0 0 false 0 0 bt310.1 bt310.2)) else (region_Of.j0 k a0 a1 l4 true a2_0 a2_1 a2_2 a2_3 a2_4 a2_5 a3_0 a3_1 0 0 false 0 0 bt310.1 bt310.2)))) else (region_Of.j0 k a0 a1 l4 true a2_0 a2_1 a2_2 a2_3 a2_4 a2_5 a3_0 a3_1 0 0 false 0 0 bt310.1 bt310.2))) else (region_Of.j0 k a0 a1 l4 true a2_0 a2_1 a2_2 a2_3 a2_4 a2_5 a3_0 a3_1 0 0 false 0 0 bt310.1 bt310.2)))) = some (r1, r2, r3, r4, r5, r6) := by rw [if_pos rfl] at H; exact H
 clear H
 have H := H1
 clear H1
 replace H := Option.bind_eq_some_iff.mp H
 obtain ⟨⟨t310, t313⟩, A80, H⟩ := H
 (try dsimp only at H)
 have A8 := Aside0.mk A80
 clear A80
 have HC9 := Aside0.mk H
 clear H
 go_enter Tryd.func34, Tryd.ntmps34
 go_upto_region 4 with (first | ((with_reducible refine gate_dst (N := 7) rfl ?_); refine box_event ?hg (N := 7) ?hd (cs := #[.int .i64 a2_0, .int .i64 a2_1, .int .i64 a2_2, .int .i64 a2_3, .int .i64 a2_4, .int .i64 a2_5]) (t := 52) ?hr ?_; (case hd => rfl); (case hg => rfl); (case hr => first | (go_simp; done) | (go_simp; rfl)); intro gb305 hg w10 hbox hb; have n0_ := Aside0.mk (below_step (by repeat with_reducible first | exact HB.out | apply pw_below_drewN | apply below_drew1 | apply below_alloc) hb); have n1_ := Aside0.mk (hbox); have n2_ := Aside0.mk (geb hg (by repeat with_reducible first | exact HB.out | apply pw_below_drewN | apply below_drew1 | apply below_alloc)); have n3_ := n2_; clear HB; have HB := n0_; have BK305 := n1_; have GW305 := n2_; have GE305 := n3_; clear n0_ n1_ n2_ n3_; clear hb hbox hg) | ((with_reducible refine gate_dst (N := 8) rfl ?_); refine box_event ?hg (N := 8) ?hd (cs := #[.int .i64 a3_0, .int .i64 a3_1]) (t := 31) ?hr ?_; (case hd => rfl); (case hg => rfl); (case hr => first | (go_simp; done) | (go_simp; rfl)); intro gb306 hg w11 hbox hb; have n0_ := Aside0.mk (blb hb BK305.out); have n1_ := Aside0.mk (below_step (by repeat with_reducible first | exact HB.out | apply pw_below_drewN | refine below_set ?_ GE305.out | apply below_drew1 | apply below_alloc) hb); have n2_ := Aside0.mk (hbox); have n3_ := Aside0.mk (geb hg (by repeat with_reducible first | exact HB.out | apply pw_below_drewN | refine below_set ?_ GE305.out | apply below_drew1 | apply below_alloc)); have n4_ := n3_; have n5_ := Aside0.mk ((nbl hg BK305.out)); have n6_ := Aside0.mk ((nbr hg BK305.out)); clear BK305; clear HB; have BK305 := n0_; have HB := n1_; have BK306 := n2_; have GW306 := n3_; have GE306 := n4_; have NB305_306 := n5_; have NB306_305 := n6_; clear n0_ n1_ n2_ n3_ n4_ n5_ n6_; clear hb hbox hg) | ((with_reducible refine gate_dst (N := 10) rfl ?_); refine box_event ?hg (N := 10) ?hd (cs := #[.int .i64 0, .int .i64 0, .bool false]) (t := 40) ?hr ?_; (case hd => rfl); (case hg => rfl); (case hr => first | (go_simp; done) | (go_simp; rfl)); intro gb307 hg w12 hbox hb; have n0_ := Aside0.mk (blb hb BK305.out); have n1_ := Aside0.mk (blb hb BK306.out); have n2_ := Aside0.mk (below_step (by repeat with_reducible first | exact HB.out | apply pw_below_drewN | refine below_set ?_ GE305.out | refine below_set ?_ GE306.out | apply below_drew1 | apply below_alloc) hb); have n3_ := Aside0.mk (hbox); have n4_ := Aside0.mk (geb hg (by repeat with_reducible first | exact HB.out | apply pw_below_drewN | refine below_set ?_ GE305.out | refine below_set ?_ GE306.out | apply below_drew1 | apply below_alloc)); have n5_ := n4_; have n6_ := Aside0.mk ((nbl hg BK305.out)); have n7_ := Aside0.mk ((nbr hg BK305.out)); have n8_ := Aside0.mk ((nbl hg BK306.out)); have n9_ := Aside0.mk ((nbr hg BK306.out)); clear BK305; clear BK306; clear HB; have BK305 := n0_; have BK306 := n1_; have HB := n2_; have BK307 := n3_; have GW307 := n4_; have GE307 := n5_; have NB305_307 := n6_; have NB307_305 := n7_; have NB306_307 := n8_; have NB307_306 := n9_; clear n0_ n1_ n2_ n3_ n4_ n5_ n6_ n7_ n8_ n9_; clear hb hbox hg) | ((with_reducible refine gate_dst (N := 11) rfl ?_); refine box_event ?hg (N := 11) ?hd (cs := #[.int .i64 0, .int .i64 0]) (t := 31) ?hr ?_; (case hd => rfl); (case hg => rfl); (case hr => first | (go_simp; done) | (go_simp; rfl)); intro gb308 hg w13 hbox hb; have n0_ := Aside0.mk (blb hb BK305.out); have n1_ := Aside0.mk (blb hb BK306.out); have n2_ := Aside0.mk (blb hb BK307.out); have n3_ := Aside0.mk (below_step (by repeat with_reducible first | exact HB.out | apply pw_below_drewN | refine below_set ?_ GE305.out | refine below_set ?_ GE306.out | refine below_set ?_ GE307.out | apply below_drew1 | apply below_alloc) hb); have n4_ := Aside0.mk (hbox); have n5_ := Aside0.mk (geb hg (by repeat with_reducible first | exact HB.out | apply pw_below_drewN | refine below_set ?_ GE305.out | refine below_set ?_ GE306.out | refine below_set ?_ GE307.out | apply below_drew1 | apply below_alloc)); have n6_ := n5_; have n7_ := Aside0.mk ((nbl hg BK305.out)); have n8_ := Aside0.mk ((nbr hg BK305.out)); have n9_ := Aside0.mk ((nbl hg BK306.out)); have n10_ := Aside0.mk ((nbr hg BK306.out)); have n11_ := Aside0.mk ((nbl hg BK307.out)); have n12_ := Aside0.mk ((nbr hg BK307.out)); clear BK305; clear BK306; clear BK307; clear HB; have BK305 := n0_; have BK306 := n1_; have BK307 := n2_; have HB := n3_; have BK308 := n4_; have GW308 := n5_; have GE308 := n6_; have NB305_308 := n7_; have NB308_305 := n8_; have NB306_308 := n9_; have NB308_306 := n10_; have NB307_308 := n11_; have NB308_307 := n12_; clear n0_ n1_ n2_ n3_ n4_ n5_ n6_ n7_ n8_ n9_ n10_ n11_ n12_; clear hb hbox hg) | ((with_reducible refine gate_callee (f := 27) rfl ?_); refine goesL_ (some 16) rfl rfl Tryd.func27 (by kernel_rfl) rfl #[.string a0] rfl (map1 rfl) ?_; (with_reducible refine (text_May.calls a0 true _ ?side1 A6.out).mono ?_); (case side1 => exact Tabs.below HT.out (by repeat with_reducible first | exact HB.out | apply pw_below_drewN | refine below_set ?_ GE305.out | refine below_set ?_ GE306.out | refine below_set ?_ GE307.out | refine below_set ?_ GE308.out | apply below_drew1 | apply below_alloc)); rintro e w14 ⟨rfl, hb⟩; refine ⟨_, rfl, ?_⟩; have n0_ := Aside0.mk (blb hb BK305.out); have n1_ := Aside0.mk (blb hb BK306.out); have n2_ := Aside0.mk (blb hb BK307.out); have n3_ := Aside0.mk (blb hb BK308.out); have n4_ := Aside0.mk (below_step (by repeat with_reducible first | exact HB.out | apply pw_below_drewN | refine below_set ?_ GE305.out | refine below_set ?_ GE306.out | refine below_set ?_ GE307.out | refine below_set ?_ GE308.out | apply below_drew1 | apply below_alloc) hb); clear BK305; clear BK306; clear BK307; clear BK308; clear HB; have BK305 := n0_; have BK306 := n1_; have BK307 := n2_; have BK308 := n3_; have HB := n4_; clear n0_ n1_ n2_ n3_ n4_; (try clear hb); (try clear hb2); (try clear hk); (try clear hi)) | ((with_reducible refine gate_callee (f := 28) rfl ?_); refine goesL_ (some 21) rfl rfl Tryd.func28 (by kernel_rfl) rfl #[.string a0] rfl (map1 rfl) ?_; (with_reducible refine (text_Of.calls k a0 t310 t313 _ A8.out).mono ?_); rintro e w15 ⟨v311, v314, gb316, rfl, ho0, ho1, ⟨hx316_, hz316_⟩, hb⟩; refine ⟨_, rfl, ?_⟩; have n0_ := Aside0.mk (Kd.R_lower ho0 (below_size (by repeat with_reducible first | exact HB.out | apply pw_below_drewN | refine below_set ?_ GE305.out | refine below_set ?_ GE306.out | refine below_set ?_ GE307.out | refine below_set ?_ GE308.out | apply below_drew1 | apply below_alloc))); have n1_ := Aside0.mk (Kd.R_lower ho1 (below_size (by repeat with_reducible first | exact HB.out | apply pw_below_drewN | refine below_set ?_ GE305.out | refine below_set ?_ GE306.out | refine below_set ?_ GE307.out | refine below_set ?_ GE308.out | apply below_drew1 | apply below_alloc))); have n2_ := Aside0.mk (blb hb BK305.out); have n3_ := Aside0.mk (blb hb BK306.out); have n4_ := Aside0.mk (blb hb BK307.out); have n5_ := Aside0.mk (blb hb BK308.out); have n6_ := Aside0.mk (hx316_); have n7_ := Aside0.mk ((Nat.le_trans (below_size (by repeat with_reducible first | exact HB.out | apply pw_below_drewN | refine below_set ?_ GE305.out | refine below_set ?_ GE306.out | refine below_set ?_ GE307.out | refine below_set ?_ GE308.out | apply below_drew1 | apply below_alloc)) hz316_ : w.heap.size ≤ gb316)); have n8_ := Aside0.mk ((Nat.le_trans (below_size (by repeat with_reducible first | exact HB.out | apply pw_below_drewN | refine below_set ?_ GE305.out | refine below_set ?_ GE306.out | refine below_set ?_ GE307.out | refine below_set ?_ GE308.out | apply below_drew1 | apply below_alloc)) hz316_ : w.heap.size ≤ gb316)); have n9_ := Aside0.mk ((Nat.ne_of_lt (Nat.lt_of_lt_of_le (blk_lt (g := gb305) (o := .cells #[.int .i64 a2_0, .int .i64 a2_1, .int .i64 a2_2, .int .i64 a2_3, .int .i64 a2_4, .int .i64 a2_5] 52 (0, 0)) (by exact BK305.out)) hz316_) : gb305 ≠ gb316)); have n10_ := Aside0.mk ((Nat.ne_of_gt (Nat.lt_of_lt_of_le (blk_lt (g := gb305) (o := .cells #[.int .i64 a2_0, .int .i64 a2_1, .int .i64 a2_2, .int .i64 a2_3, .int .i64 a2_4, .int .i64 a2_5] 52 (0, 0)) (by exact BK305.out)) hz316_) : gb316 ≠ gb305)); have n11_ := Aside0.mk ((Nat.ne_of_lt (Nat.lt_of_lt_of_le (blk_lt (g := gb306) (o := .cells #[.int .i64 a3_0, .int .i64 a3_1] 31 (0, 0)) (by exact BK306.out)) hz316_) : gb306 ≠ gb316)); have n12_ := Aside0.mk ((Nat.ne_of_gt (Nat.lt_of_lt_of_le (blk_lt (g := gb306) (o := .cells #[.int .i64 a3_0, .int .i64 a3_1] 31 (0, 0)) (by exact BK306.out)) hz316_) : gb316 ≠ gb306)); have n13_ := Aside0.mk ((Nat.ne_of_lt (Nat.lt_of_lt_of_le (blk_lt (g := gb307) (o := .cells #[.int .i64 0, .int .i64 0, .bool false] 40 (0, 0)) (by exact BK307.out)) hz316_) : gb307 ≠ gb316)); have n14_ := Aside0.mk ((Nat.ne_of_gt (Nat.lt_of_lt_of_le (blk_lt (g := gb307) (o := .cells #[.int .i64 0, .int .i64 0, .bool false] 40 (0, 0)) (by exact BK307.out)) hz316_) : gb316 ≠ gb307)); have n15_ := Aside0.mk ((Nat.ne_of_lt (Nat.lt_of_lt_of_le (blk_lt (g := gb308) (o := .cells #[.int .i64 0, .int .i64 0] 31 (0, 0)) (by exact BK308.out)) hz316_) : gb308 ≠ gb316)); have n16_ := Aside0.mk ((Nat.ne_of_gt (Nat.lt_of_lt_of_le (blk_lt (g := gb308) (o := .cells #[.int .i64 0, .int .i64 0] 31 (0, 0)) (by exact BK308.out)) hz316_) : gb316 ≠ gb308)); have n17_ := Aside0.mk (below_step (by repeat with_reducible first | exact HB.out | apply pw_below_drewN | refine below_set ?_ GE305.out | refine below_set ?_ GE306.out | refine below_set ?_ GE307.out | refine below_set ?_ GE308.out | apply below_drew1 | apply below_alloc) hb); clear BK305; clear BK306; clear BK307; clear BK308; clear HB; have HO312 := n0_; have HO315 := n1_; have BK305 := n2_; have BK306 := n3_; have BK307 := n4_; have BK308 := n5_; have BK316 := n6_; have GW316 := n7_; have GE316 := n8_; have NB305_316 := n9_; have NB316_305 := n10_; have NB306_316 := n11_; have NB316_306 := n12_; have NB307_316 := n13_; have NB316_307 := n14_; have NB308_316 := n15_; have NB316_308 := n16_; have HB := n17_; clear n0_ n1_ n2_ n3_ n4_ n5_ n6_ n7_ n8_ n9_ n10_ n11_ n12_ n13_ n14_ n15_ n16_ n17_; (try clear hb); (try clear hb2); (try clear hk); (try clear hi); (try clear ho0); (try clear ho1); (try clear hx316_ hz316_)))
 (try simp only [Act.put, List.setIfInBounds_toArray, List.set_cons_zero, List.set_cons_succ])
 go_cut [46] (fun v46 wc => ∃ (kq : Nat) (x46_8 : Bool), v46 = .bool x46_8 ∧ Aside0 (region_Of.j0 kq a0 a1 l4 x46_8 a2_0 a2_1 a2_2 a2_3 a2_4 a2_5 a3_0 a3_1 0 0 false 0 0 t310 t313 = some (r1, r2, r3, r4, r5, r6)) ∧ Aside0 (kq ≤ k) ∧ Aside0 (Kd.R (Kd.int .i32) 21 wc w.heap.size (fun _ => True) v311 t310) ∧ Aside0 (Kd.R (Kd.int .i64) 3 wc w.heap.size (fun _ => True) v314 t313) ∧ Aside0 (wc.heap[gb305]? = some (.cells #[.int .i64 a2_0, .int .i64 a2_1, .int .i64 a2_2, .int .i64 a2_3, .int .i64 a2_4, .int .i64 a2_5] 52 (0, 0))) ∧ Aside0 (wc.heap[gb306]? = some (.cells #[.int .i64 a3_0, .int .i64 a3_1] 31 (0, 0))) ∧ Aside0 (wc.heap[gb307]? = some (.cells #[.int .i64 0, .int .i64 0, .bool false] 40 (0, 0))) ∧ Aside0 (wc.heap[gb308]? = some (.cells #[.int .i64 0, .int .i64 0] 31 (0, 0))) ∧ Aside0 (wc.heap[gb316]? = some (.cells #[v311, v314] 79 (0, 0))) ∧ Aside0 (Below w.heap.size w wc))
 case first =>
  have H := HC9.out
  clear HC9
  replace H := Option.bind_eq_some_iff.mp H
  obtain ⟨t317, A160, H⟩ := H
  (try dsimp only at H)
  have A16 := Aside0.mk A160
  clear A160
  by_cases c17 : t317 = true
  rotate_left
  ·
   replace c17 := Bool.eq_false_iff.mpr c17
   subst c17
   have H1 : (region_Of.j0 k a0 a1 l4 true a2_0 a2_1 a2_2 a2_3 a2_4 a2_5 a3_0 a3_1 0 0 false 0 0 t310 t313) = some (r1, r2, r3, r4, r5, r6) := by rw [if_neg (show ¬ (false = true) by decide)] at H; exact H
   clear H
   have H := H1
   clear H1
   have H' := Aside0.mk H
   clear H
   obtain ⟨Ao73, co73, eo73⟩ := Kd.R_slice HO312.out
   subst eo73
   obtain ⟨Ao74, co74, eo74⟩ := Kd.R_slice HO315.out
   subst eo74
   go_wp2_with (first | ((with_reducible refine gate_callee (f := 29) rfl ?_); refine goesL_ (some 24) rfl rfl Tryd.func29 (by kernel_rfl) rfl #[.pointer (some ⟨gb316, 0, none⟩), .int .i64 a1] rfl (map2 rfl rfl) ?_; (with_reducible refine (text_Map_Is.calls gb316 Ao73 co73 t310 Ao74 co74 t313 a1 false _ ?side1 ?side2 ?side3 ?side4 ?side5 A16.out).mono ?_); (case side1 => exact BK316.out); (case side2 => repeat (first | exact (Kd.R_reads' HO312.out).2.2 | with_reducible first | refine Kd.C_drewN ?_ _ | refine Kd.C_drew ?_ | refine Kd.C_alloc ?_ _)); (case side3 => exact (Kd.R_reads' HO312.out).2.1); (case side4 => repeat (first | exact (Kd.R_reads' HO315.out).2.2 | with_reducible first | refine Kd.C_drewN ?_ _ | refine Kd.C_drew ?_ | refine Kd.C_alloc ?_ _)); (case side5 => exact (Kd.R_reads' HO315.out).2.1); rintro e w' ⟨rfl, ⟨nd, rfl⟩⟩; refine ⟨_, rfl, ?_⟩))
   go_meet
   case rel => exact ⟨_, (true), (by first | rfl | (simp; done) | (simp [*]; done)), H', ⟨by first | omega | exact Nat.le_refl _⟩, ⟨by (with_reducible repeat (first | apply Kd.R_alloc | apply Kd.R_drewN | apply Kd.R_drew)); exact HO312.out⟩, ⟨by (with_reducible repeat (first | apply Kd.R_alloc | apply Kd.R_drewN | apply Kd.R_drew)); exact HO315.out⟩, ⟨BK305.out⟩, ⟨BK306.out⟩, ⟨BK307.out⟩, ⟨BK308.out⟩, ⟨BK316.out⟩, ⟨by repeat with_reducible first | exact HB.out | apply pw_below_drewN | refine below_set ?_ GE305.out | refine below_set ?_ GE306.out | refine below_set ?_ GE307.out | refine below_set ?_ GE308.out | refine below_set ?_ GE316.out | apply below_drew1 | apply below_alloc⟩⟩
  subst c17
  have H1 : ((region_may.f k a2_0 a2_1 a2_2 a2_3 a2_4 a2_5).bind fun t318 => (if t318 = true then (if a3_0 = 0 then ((marks_May.f k l4).bind fun t319 => (region_Of.j0 k a0 a1 l4 (!t319) a2_0 a2_1 a2_2 a2_3 a2_4 a2_5 a3_0 a3_1 0 0 false 0 0 t310 t313)) else ((seek_Is.f a3_0).bind fun t320 => (if t320 = true then ((marks_May.f k l4).bind fun t321 => (region_Of.j0 k a0 a1 l4 (!t321) a2_0 a2_1 a2_2 a2_3 a2_4 a2_5 a3_0 a3_1 0 0 false 0 0 t310 t313)) else (region_Of.j0 k a0 a1 l4 true a2_0 a2_1 a2_2 a2_3 a2_4 a2_5 a3_0 a3_1 0 0 false 0 0 t310 t313)))) else (region_Of.j0 k a0 a1 l4 true a2_0 a2_1 a2_2 a2_3 a2_4 a2_5 a3_0 a3_1 0 0 false 0 0 t310 t313))) = some (r1, r2, r3, r4, r5, r6) := by rw [if_pos rfl] at H; exact H
  clear H
  have H := H1
  clear H1
  replace H := Option.bind_eq_some_iff.mp H
  obtain ⟨t318, A180, H⟩ := H
  (try dsimp only at H)
  have A18 := Aside0.mk A180
  clear A180
  by_cases c19 : t318 = true
  rotate_left
  ·
   replace c19 := Bool.eq_false_iff.mpr c19
   subst c19
   have H1 : (region_Of.j0 k a0 a1 l4 true a2_0 a2_1 a2_2 a2_3 a2_4 a2_5 a3_0 a3_1 0 0 false 0 0 t310 t313) = some (r1, r2, r3, r4, r5, r6) := by rw [if_neg (show ¬ (false = true) by decide)] at H; exact H
   clear H
   have H := H1
   clear H1
   have H' := Aside0.mk H
   clear H
   obtain ⟨Ao65, co65, eo65⟩ := Kd.R_slice HO312.out
   subst eo65
   obtain ⟨Ao66, co66, eo66⟩ := Kd.R_slice HO315.out
   subst eo66
   go_wp2_with (first | ((with_reducible refine gate_callee (f := 29) rfl ?_); refine goesL_ (some 24) rfl rfl Tryd.func29 (by kernel_rfl) rfl #[.pointer (some ⟨gb316, 0, none⟩), .int .i64 a1] rfl (map2 rfl rfl) ?_; (with_reducible refine (text_Map_Is.calls gb316 Ao65 co65 t310 Ao66 co66 t313 a1 true _ ?side1 ?side2 ?side3 ?side4 ?side5 A16.out).mono ?_); (case side1 => exact BK316.out); (case side2 => repeat (first | exact (Kd.R_reads' HO312.out).2.2 | with_reducible first | refine Kd.C_drewN ?_ _ | refine Kd.C_drew ?_ | refine Kd.C_alloc ?_ _)); (case side3 => exact (Kd.R_reads' HO312.out).2.1); (case side4 => repeat (first | exact (Kd.R_reads' HO315.out).2.2 | with_reducible first | refine Kd.C_drewN ?_ _ | refine Kd.C_drew ?_ | refine Kd.C_alloc ?_ _)); (case side5 => exact (Kd.R_reads' HO315.out).2.1); rintro e w' ⟨rfl, ⟨nd, rfl⟩⟩; refine ⟨_, rfl, ?_⟩; have hnb67 := NB305_306.out; have hnc67 := NB306_305.out; have hnb68 := NB305_307.out; have hnc68 := NB307_305.out; have hnb69 := NB305_308.out; have hnc69 := NB308_305.out; have hnb70 := NB305_316.out; have hnc70 := NB316_305.out; have hcz71_0 := cz0 BK305.out; have hcz71_1 := cz1 BK305.out; have hcz71_2 := cz2 BK305.out; have hcz71_3 := cz3 BK305.out; have hcz71_4 := cz4 BK305.out; have hcz71_5 := cz5 BK305.out; have hfz71_0 := blk_frozen BK305.out 0; have hfz71_1 := blk_frozen BK305.out 1; have hfz71_2 := blk_frozen BK305.out 2; have hfz71_3 := blk_frozen BK305.out 3; have hfz71_4 := blk_frozen BK305.out 4; have hfz71_5 := blk_frozen BK305.out 5) | (go_at_call 52; (with_reducible refine (region_may.calls k a2_0 a2_1 a2_2 a2_3 a2_4 a2_5 false _ A18.out).mono ?_); rintro e w72 ⟨rfl, hb⟩; have n0_ := Aside0.mk (Kd.R_below (by (with_reducible repeat (first | apply Kd.R_alloc | apply Kd.R_drewN | apply Kd.R_drew)); exact HO312.out) hb); have n1_ := Aside0.mk (Kd.R_below (by (with_reducible repeat (first | apply Kd.R_alloc | apply Kd.R_drewN | apply Kd.R_drew)); exact HO315.out) hb); have n2_ := Aside0.mk (blb hb BK305.out); have n3_ := Aside0.mk (blb hb BK306.out); have n4_ := Aside0.mk (blb hb BK307.out); have n5_ := Aside0.mk (blb hb BK308.out); have n6_ := Aside0.mk (blb hb BK316.out); have n7_ := Aside0.mk (below_step (by repeat with_reducible first | exact HB.out | apply pw_below_drewN | refine below_set ?_ GE305.out | refine below_set ?_ GE306.out | refine below_set ?_ GE307.out | refine below_set ?_ GE308.out | refine below_set ?_ GE316.out | apply below_drew1 | apply below_alloc) hb); clear HO312; clear HO315; clear BK305; clear BK306; clear BK307; clear BK308; clear BK316; clear HB; have HO312 := n0_; have HO315 := n1_; have BK305 := n2_; have BK306 := n3_; have BK307 := n4_; have BK308 := n5_; have BK316 := n6_; have HB := n7_; clear n0_ n1_ n2_ n3_ n4_ n5_ n6_ n7_; (try clear hb); (try clear hb2); (try clear hk); (try clear hi)))
   go_meet
   case rel => exact ⟨_, (true), (by first | rfl | (simp; done) | (simp [*]; done)), H', ⟨by first | omega | exact Nat.le_refl _⟩, ⟨by (with_reducible repeat (first | apply Kd.R_alloc | apply Kd.R_drewN | apply Kd.R_drew)); exact HO312.out⟩, ⟨by (with_reducible repeat (first | apply Kd.R_alloc | apply Kd.R_drewN | apply Kd.R_drew)); exact HO315.out⟩, ⟨BK305.out⟩, ⟨BK306.out⟩, ⟨BK307.out⟩, ⟨BK308.out⟩, ⟨BK316.out⟩, ⟨by repeat with_reducible first | exact HB.out | apply pw_below_drewN | refine below_set ?_ GE305.out | refine below_set ?_ GE306.out | refine below_set ?_ GE307.out | refine below_set ?_ GE308.out | refine below_set ?_ GE316.out | apply below_drew1 | apply below_alloc⟩⟩
  subst c19
  have H1 : (if a3_0 = 0 then ((marks_May.f k l4).bind fun t319 => (region_Of.j0 k a0 a1 l4 (!t319) a2_0 a2_1 a2_2 a2_3 a2_4 a2_5 a3_0 a3_1 0 0 false 0 0 t310 t313)) else ((seek_Is.f a3_0).bind fun t320 => (if t320 = true then ((marks_May.f k l4).bind fun t321 => (region_Of.j0 k a0 a1 l4 (!t321) a2_0 a2_1 a2_2 a2_3 a2_4 a2_5 a3_0 a3_1 0 0 false 0 0 t310 t313)) else (region_Of.j0 k a0 a1 l4 true a2_0 a2_1 a2_2 a2_3 a2_4 a2_5 a3_0 a3_1 0 0 false 0 0 t310 t313)))) = some (r1, r2, r3, r4, r5, r6) := by rw [if_pos rfl] at H; exact H
  clear H
  have H := H1
  clear H1
  by_cases c20 : a3_0 = 0
  ·
   rw [if_pos c20] at H
   have c20b0 : (a3_0 == 0) = true := beq_iff_eq.mpr c20
   have c20b1 : (a3_0 != 0) = false := bne_eq_false_iff_eq.mpr c20
   clear c20
   (first | rw [c20b0] | (simp only [i64_w, i32_w]; rw [c20b0]) | skip)
   replace H := Option.bind_eq_some_iff.mp H
   obtain ⟨t319, A210, H⟩ := H
   (try dsimp only at H)
   have A21 := Aside0.mk A210
   clear A210
   have H' := Aside0.mk H
   clear H
   obtain ⟨Ao22, co22, eo22⟩ := Kd.R_slice HO312.out
   subst eo22
   obtain ⟨Ao23, co23, eo23⟩ := Kd.R_slice HO315.out
   subst eo23
   go_wp2_with (first | ((with_reducible refine gate_callee (f := 29) rfl ?_); refine goesL_ (some 24) rfl rfl Tryd.func29 (by kernel_rfl) rfl #[.pointer (some ⟨gb316, 0, none⟩), .int .i64 a1] rfl (map2 rfl rfl) ?_; (with_reducible refine (text_Map_Is.calls gb316 Ao22 co22 t310 Ao23 co23 t313 a1 true _ ?side1 ?side2 ?side3 ?side4 ?side5 A16.out).mono ?_); (case side1 => exact BK316.out); (case side2 => repeat (first | exact (Kd.R_reads' HO312.out).2.2 | with_reducible first | refine Kd.C_drewN ?_ _ | refine Kd.C_drew ?_ | refine Kd.C_alloc ?_ _)); (case side3 => exact (Kd.R_reads' HO312.out).2.1); (case side4 => repeat (first | exact (Kd.R_reads' HO315.out).2.2 | with_reducible first | refine Kd.C_drewN ?_ _ | refine Kd.C_drew ?_ | refine Kd.C_alloc ?_ _)); (case side5 => exact (Kd.R_reads' HO315.out).2.1); rintro e w' ⟨rfl, ⟨nd, rfl⟩⟩; refine ⟨_, rfl, ?_⟩; have hnb24 := NB305_306.out; have hnc24 := NB306_305.out; have hnb25 := NB305_307.out; have hnc25 := NB307_305.out; have hnb26 := NB305_308.out; have hnc26 := NB308_305.out; have hnb27 := NB305_316.out; have hnc27 := NB316_305.out; have hcz28_0 := cz0 BK305.out; have hcz28_1 := cz1 BK305.out; have hcz28_2 := cz2 BK305.out; have hcz28_3 := cz3 BK305.out; have hcz28_4 := cz4 BK305.out; have hcz28_5 := cz5 BK305.out; have hfz28_0 := blk_frozen BK305.out 0; have hfz28_1 := blk_frozen BK305.out 1; have hfz28_2 := blk_frozen BK305.out 2; have hfz28_3 := blk_frozen BK305.out 3; have hfz28_4 := blk_frozen BK305.out 4; have hfz28_5 := blk_frozen BK305.out 5) | (go_at_call 52; (with_reducible refine (region_may.calls k a2_0 a2_1 a2_2 a2_3 a2_4 a2_5 true _ A18.out).mono ?_); rintro e w29 ⟨rfl, hb⟩; have n0_ := Aside0.mk (Kd.R_below (by (with_reducible repeat (first | apply Kd.R_alloc | apply Kd.R_drewN | apply Kd.R_drew)); exact HO312.out) hb); have n1_ := Aside0.mk (Kd.R_below (by (with_reducible repeat (first | apply Kd.R_alloc | apply Kd.R_drewN | apply Kd.R_drew)); exact HO315.out) hb); have n2_ := Aside0.mk (blb hb BK305.out); have n3_ := Aside0.mk (blb hb BK306.out); have n4_ := Aside0.mk (blb hb BK307.out); have n5_ := Aside0.mk (blb hb BK308.out); have n6_ := Aside0.mk (blb hb BK316.out); have n7_ := Aside0.mk (below_step (by repeat with_reducible first | exact HB.out | apply pw_below_drewN | refine below_set ?_ GE305.out | refine below_set ?_ GE306.out | refine below_set ?_ GE307.out | refine below_set ?_ GE308.out | refine below_set ?_ GE316.out | apply below_drew1 | apply below_alloc) hb); clear HO312; clear HO315; clear BK305; clear BK306; clear BK307; clear BK308; clear BK316; clear HB; have HO312 := n0_; have HO315 := n1_; have BK305 := n2_; have BK306 := n3_; have BK307 := n4_; have BK308 := n5_; have BK316 := n6_; have HB := n7_; clear n0_ n1_ n2_ n3_ n4_ n5_ n6_ n7_; (try clear hb); (try clear hb2); (try clear hk); (try clear hi); have hnb30 := NB306_307.out; have hnc30 := NB307_306.out; have hnb31 := NB306_308.out; have hnc31 := NB308_306.out; have hnb32 := NB306_316.out; have hnc32 := NB316_306.out; have hcz33_0 := cz0 BK306.out; have hcz33_1 := cz1 BK306.out; have hfz33_0 := blk_frozen BK306.out 0; have hfz33_1 := blk_frozen BK306.out 1) | (go_at_call 40; (with_reducible refine (marks_May.calls k _ _ l4 t319 _ ?side1 ?side2 A21.out).mono ?_); (case side1 => repeat (first | exact (Kd.C_below HR4.out HB.out) | with_reducible first | refine Kd.C_drewN ?_ _ | refine Kd.C_drew ?_ | refine Kd.C_alloc ?_ _)); (case side2 => exact HC4.out); rintro e w34 ⟨rfl, hb⟩; have n0_ := Aside0.mk (Kd.R_below (by (with_reducible repeat (first | apply Kd.R_alloc | apply Kd.R_drewN | apply Kd.R_drew)); exact HO312.out) hb); have n1_ := Aside0.mk (Kd.R_below (by (with_reducible repeat (first | apply Kd.R_alloc | apply Kd.R_drewN | apply Kd.R_drew)); exact HO315.out) hb); have n2_ := Aside0.mk (blb hb BK305.out); have n3_ := Aside0.mk (blb hb BK306.out); have n4_ := Aside0.mk (blb hb BK307.out); have n5_ := Aside0.mk (blb hb BK308.out); have n6_ := Aside0.mk (blb hb BK316.out); have n7_ := Aside0.mk (below_step (by repeat with_reducible first | exact HB.out | apply pw_below_drewN | refine below_set ?_ GE305.out | refine below_set ?_ GE306.out | refine below_set ?_ GE307.out | refine below_set ?_ GE308.out | refine below_set ?_ GE316.out | apply below_drew1 | apply below_alloc) hb); clear HO312; clear HO315; clear BK305; clear BK306; clear BK307; clear BK308; clear BK316; clear HB; have HO312 := n0_; have HO315 := n1_; have BK305 := n2_; have BK306 := n3_; have BK307 := n4_; have BK308 := n5_; have BK316 := n6_; have HB := n7_; clear n0_ n1_ n2_ n3_ n4_ n5_ n6_ n7_; (try clear hb); (try clear hb2); (try clear hk); (try clear hi)))
   go_meet
   case rel => exact ⟨_, (!t319), (by first | rfl | (simp; done) | (simp [*]; done)), H', ⟨by first | omega | exact Nat.le_refl _⟩, ⟨by (with_reducible repeat (first | apply Kd.R_alloc | apply Kd.R_drewN | apply Kd.R_drew)); exact HO312.out⟩, ⟨by (with_reducible repeat (first | apply Kd.R_alloc | apply Kd.R_drewN | apply Kd.R_drew)); exact HO315.out⟩, ⟨BK305.out⟩, ⟨BK306.out⟩, ⟨BK307.out⟩, ⟨BK308.out⟩, ⟨BK316.out⟩, ⟨by repeat with_reducible first | exact HB.out | apply pw_below_drewN | refine below_set ?_ GE305.out | refine below_set ?_ GE306.out | refine below_set ?_ GE307.out | refine below_set ?_ GE308.out | refine below_set ?_ GE316.out | apply below_drew1 | apply below_alloc⟩⟩
  rw [if_neg c20] at H
  have c20b0 : (a3_0 == 0) = false := beq_eq_false_iff_ne.mpr c20
  have c20b1 : (a3_0 != 0) = true := bne_iff_ne.mpr c20
  (first | rw [c20b0] | (simp only [i64_w, i32_w]; rw [c20b0]) | skip)
  replace H := Option.bind_eq_some_iff.mp H
  obtain ⟨t320, A350, H⟩ := H
  (try dsimp only at H)
  have A35 := Aside0.mk A350
  clear A350
  by_cases c36 : t320 = true
  rotate_left
  ·
   replace c36 := Bool.eq_false_iff.mpr c36
   subst c36
   have H1 : (region_Of.j0 k a0 a1 l4 true a2_0 a2_1 a2_2 a2_3 a2_4 a2_5 a3_0 a3_1 0 0 false 0 0 t310 t313) = some (r1, r2, r3, r4, r5, r6) := by rw [if_neg (show ¬ (false = true) by decide)] at H; exact H
   clear H
   have H := H1
   clear H1
   have H' := Aside0.mk H
   clear H
   obtain ⟨Ao52, co52, eo52⟩ := Kd.R_slice HO312.out
   subst eo52
   obtain ⟨Ao53, co53, eo53⟩ := Kd.R_slice HO315.out
   subst eo53
   go_wp2_with (first | ((with_reducible refine gate_callee (f := 29) rfl ?_); refine goesL_ (some 24) rfl rfl Tryd.func29 (by kernel_rfl) rfl #[.pointer (some ⟨gb316, 0, none⟩), .int .i64 a1] rfl (map2 rfl rfl) ?_; (with_reducible refine (text_Map_Is.calls gb316 Ao52 co52 t310 Ao53 co53 t313 a1 true _ ?side1 ?side2 ?side3 ?side4 ?side5 A16.out).mono ?_); (case side1 => exact BK316.out); (case side2 => repeat (first | exact (Kd.R_reads' HO312.out).2.2 | with_reducible first | refine Kd.C_drewN ?_ _ | refine Kd.C_drew ?_ | refine Kd.C_alloc ?_ _)); (case side3 => exact (Kd.R_reads' HO312.out).2.1); (case side4 => repeat (first | exact (Kd.R_reads' HO315.out).2.2 | with_reducible first | refine Kd.C_drewN ?_ _ | refine Kd.C_drew ?_ | refine Kd.C_alloc ?_ _)); (case side5 => exact (Kd.R_reads' HO315.out).2.1); rintro e w' ⟨rfl, ⟨nd, rfl⟩⟩; refine ⟨_, rfl, ?_⟩; have hnb54 := NB305_306.out; have hnc54 := NB306_305.out; have hnb55 := NB305_307.out; have hnc55 := NB307_305.out; have hnb56 := NB305_308.out; have hnc56 := NB308_305.out; have hnb57 := NB305_316.out; have hnc57 := NB316_305.out; have hcz58_0 := cz0 BK305.out; have hcz58_1 := cz1 BK305.out; have hcz58_2 := cz2 BK305.out; have hcz58_3 := cz3 BK305.out; have hcz58_4 := cz4 BK305.out; have hcz58_5 := cz5 BK305.out; have hfz58_0 := blk_frozen BK305.out 0; have hfz58_1 := blk_frozen BK305.out 1; have hfz58_2 := blk_frozen BK305.out 2; have hfz58_3 := blk_frozen BK305.out 3; have hfz58_4 := blk_frozen BK305.out 4; have hfz58_5 := blk_frozen BK305.out 5) | (go_at_call 52; (with_reducible refine (region_may.calls k a2_0 a2_1 a2_2 a2_3 a2_4 a2_5 true _ A18.out).mono ?_); rintro e w59 ⟨rfl, hb⟩; have n0_ := Aside0.mk (Kd.R_below (by (with_reducible repeat (first | apply Kd.R_alloc | apply Kd.R_drewN | apply Kd.R_drew)); exact HO312.out) hb); have n1_ := Aside0.mk (Kd.R_below (by (with_reducible repeat (first | apply Kd.R_alloc | apply Kd.R_drewN | apply Kd.R_drew)); exact HO315.out) hb); have n2_ := Aside0.mk (blb hb BK305.out); have n3_ := Aside0.mk (blb hb BK306.out); have n4_ := Aside0.mk (blb hb BK307.out); have n5_ := Aside0.mk (blb hb BK308.out); have n6_ := Aside0.mk (blb hb BK316.out); have n7_ := Aside0.mk (below_step (by repeat with_reducible first | exact HB.out | apply pw_below_drewN | refine below_set ?_ GE305.out | refine below_set ?_ GE306.out | refine below_set ?_ GE307.out | refine below_set ?_ GE308.out | refine below_set ?_ GE316.out | apply below_drew1 | apply below_alloc) hb); clear HO312; clear HO315; clear BK305; clear BK306; clear BK307; clear BK308; clear BK316; clear HB; have HO312 := n0_; have HO315 := n1_; have BK305 := n2_; have BK306 := n3_; have BK307 := n4_; have BK308 := n5_; have BK316 := n6_; have HB := n7_; clear n0_ n1_ n2_ n3_ n4_ n5_ n6_ n7_; (try clear hb); (try clear hb2); (try clear hk); (try clear hi); have hnb60 := NB306_307.out; have hnc60 := NB307_306.out; have hnb61 := NB306_308.out; have hnc61 := NB308_306.out; have hnb62 := NB306_316.out; have hnc62 := NB316_306.out; have hcz63_0 := cz0 BK306.out; have hcz63_1 := cz1 BK306.out; have hfz63_0 := blk_frozen BK306.out 0; have hfz63_1 := blk_frozen BK306.out 1) | (go_at_call 39; (with_reducible refine (seek_Is.calls a3_0 false _ A35.out).mono ?_); rintro e w64 ⟨rfl, hb⟩; have n0_ := Aside0.mk (Kd.R_below (by (with_reducible repeat (first | apply Kd.R_alloc | apply Kd.R_drewN | apply Kd.R_drew)); exact HO312.out) hb); have n1_ := Aside0.mk (Kd.R_below (by (with_reducible repeat (first | apply Kd.R_alloc | apply Kd.R_drewN | apply Kd.R_drew)); exact HO315.out) hb); have n2_ := Aside0.mk (blb hb BK305.out); have n3_ := Aside0.mk (blb hb BK306.out); have n4_ := Aside0.mk (blb hb BK307.out); have n5_ := Aside0.mk (blb hb BK308.out); have n6_ := Aside0.mk (blb hb BK316.out); have n7_ := Aside0.mk (below_step (by repeat with_reducible first | exact HB.out | apply pw_below_drewN | refine below_set ?_ GE305.out | refine below_set ?_ GE306.out | refine below_set ?_ GE307.out | refine below_set ?_ GE308.out | refine below_set ?_ GE316.out | apply below_drew1 | apply below_alloc) hb); clear HO312; clear HO315; clear BK305; clear BK306; clear BK307; clear BK308; clear BK316; clear HB; have HO312 := n0_; have HO315 := n1_; have BK305 := n2_; have BK306 := n3_; have BK307 := n4_; have BK308 := n5_; have BK316 := n6_; have HB := n7_; clear n0_ n1_ n2_ n3_ n4_ n5_ n6_ n7_; (try clear hb); (try clear hb2); (try clear hk); (try clear hi)))
   go_meet
   case rel => exact ⟨_, (true), (by first | rfl | (simp; done) | (simp [*]; done)), H', ⟨by first | omega | exact Nat.le_refl _⟩, ⟨by (with_reducible repeat (first | apply Kd.R_alloc | apply Kd.R_drewN | apply Kd.R_drew)); exact HO312.out⟩, ⟨by (with_reducible repeat (first | apply Kd.R_alloc | apply Kd.R_drewN | apply Kd.R_drew)); exact HO315.out⟩, ⟨BK305.out⟩, ⟨BK306.out⟩, ⟨BK307.out⟩, ⟨BK308.out⟩, ⟨BK316.out⟩, ⟨by repeat with_reducible first | exact HB.out | apply pw_below_drewN | refine below_set ?_ GE305.out | refine below_set ?_ GE306.out | refine below_set ?_ GE307.out | refine below_set ?_ GE308.out | refine below_set ?_ GE316.out | apply below_drew1 | apply below_alloc⟩⟩
  subst c36
  have H1 : ((marks_May.f k l4).bind fun t321 => (region_Of.j0 k a0 a1 l4 (!t321) a2_0 a2_1 a2_2 a2_3 a2_4 a2_5 a3_0 a3_1 0 0 false 0 0 t310 t313)) = some (r1, r2, r3, r4, r5, r6) := by rw [if_pos rfl] at H; exact H
  clear H
  have H := H1
  clear H1
  replace H := Option.bind_eq_some_iff.mp H
  obtain ⟨t321, A370, H⟩ := H
  (try dsimp only at H)
  have A37 := Aside0.mk A370
  clear A370
  have H' := Aside0.mk H
  clear H
  obtain ⟨Ao38, co38, eo38⟩ := Kd.R_slice HO312.out
  subst eo38
  obtain ⟨Ao39, co39, eo39⟩ := Kd.R_slice HO315.out
  subst eo39
  go_wp2_with (first | ((with_reducible refine gate_callee (f := 29) rfl ?_); refine goesL_ (some 24) rfl rfl Tryd.func29 (by kernel_rfl) rfl #[.pointer (some ⟨gb316, 0, none⟩), .int .i64 a1] rfl (map2 rfl rfl) ?_; (with_reducible refine (text_Map_Is.calls gb316 Ao38 co38 t310 Ao39 co39 t313 a1 true _ ?side1 ?side2 ?side3 ?side4 ?side5 A16.out).mono ?_); (case side1 => exact BK316.out); (case side2 => repeat (first | exact (Kd.R_reads' HO312.out).2.2 | with_reducible first | refine Kd.C_drewN ?_ _ | refine Kd.C_drew ?_ | refine Kd.C_alloc ?_ _)); (case side3 => exact (Kd.R_reads' HO312.out).2.1); (case side4 => repeat (first | exact (Kd.R_reads' HO315.out).2.2 | with_reducible first | refine Kd.C_drewN ?_ _ | refine Kd.C_drew ?_ | refine Kd.C_alloc ?_ _)); (case side5 => exact (Kd.R_reads' HO315.out).2.1); rintro e w' ⟨rfl, ⟨nd, rfl⟩⟩; refine ⟨_, rfl, ?_⟩; have hnb40 := NB305_306.out; have hnc40 := NB306_305.out; have hnb41 := NB305_307.out; have hnc41 := NB307_305.out; have hnb42 := NB305_308.out; have hnc42 := NB308_305.out; have hnb43 := NB305_316.out; have hnc43 := NB316_305.out; have hcz44_0 := cz0 BK305.out; have hcz44_1 := cz1 BK305.out; have hcz44_2 := cz2 BK305.out; have hcz44_3 := cz3 BK305.out; have hcz44_4 := cz4 BK305.out; have hcz44_5 := cz5 BK305.out; have hfz44_0 := blk_frozen BK305.out 0; have hfz44_1 := blk_frozen BK305.out 1; have hfz44_2 := blk_frozen BK305.out 2; have hfz44_3 := blk_frozen BK305.out 3; have hfz44_4 := blk_frozen BK305.out 4; have hfz44_5 := blk_frozen BK305.out 5) | (go_at_call 52; (with_reducible refine (region_may.calls k a2_0 a2_1 a2_2 a2_3 a2_4 a2_5 true _ A18.out).mono ?_); rintro e w45 ⟨rfl, hb⟩; have n0_ := Aside0.mk (Kd.R_below (by (with_reducible repeat (first | apply Kd.R_alloc | apply Kd.R_drewN | apply Kd.R_drew)); exact HO312.out) hb); have n1_ := Aside0.mk (Kd.R_below (by (with_reducible repeat (first | apply Kd.R_alloc | apply Kd.R_drewN | apply Kd.R_drew)); exact HO315.out) hb); have n2_ := Aside0.mk (blb hb BK305.out); have n3_ := Aside0.mk (blb hb BK306.out); have n4_ := Aside0.mk (blb hb BK307.out); have n5_ := Aside0.mk (blb hb BK308.out); have n6_ := Aside0.mk (blb hb BK316.out); have n7_ := Aside0.mk (below_step (by repeat with_reducible first | exact HB.out | apply pw_below_drewN | refine below_set ?_ GE305.out | refine below_set ?_ GE306.out | refine below_set ?_ GE307.out | refine below_set ?_ GE308.out | refine below_set ?_ GE316.out | apply below_drew1 | apply below_alloc) hb); clear HO312; clear HO315; clear BK305; clear BK306; clear BK307; clear BK308; clear BK316; clear HB; have HO312 := n0_; have HO315 := n1_; have BK305 := n2_; have BK306 := n3_; have BK307 := n4_; have BK308 := n5_; have BK316 := n6_; have HB := n7_; clear n0_ n1_ n2_ n3_ n4_ n5_ n6_ n7_; (try clear hb); (try clear hb2); (try clear hk); (try clear hi); have hnb46 := NB306_307.out; have hnc46 := NB307_306.out; have hnb47 := NB306_308.out; have hnc47 := NB308_306.out; have hnb48 := NB306_316.out; have hnc48 := NB316_306.out; have hcz49_0 := cz0 BK306.out; have hcz49_1 := cz1 BK306.out; have hfz49_0 := blk_frozen BK306.out 0; have hfz49_1 := blk_frozen BK306.out 1) | (go_at_call 39; (with_reducible refine (seek_Is.calls a3_0 true _ A35.out).mono ?_); rintro e w50 ⟨rfl, hb⟩; have n0_ := Aside0.mk (Kd.R_below (by (with_reducible repeat (first | apply Kd.R_alloc | apply Kd.R_drewN | apply Kd.R_drew)); exact HO312.out) hb); have n1_ := Aside0.mk (Kd.R_below (by (with_reducible repeat (first | apply Kd.R_alloc | apply Kd.R_drewN | apply Kd.R_drew)); exact HO315.out) hb); have n2_ := Aside0.mk (blb hb BK305.out); have n3_ := Aside0.mk (blb hb BK306.out); have n4_ := Aside0.mk (blb hb BK307.out); have n5_ := Aside0.mk (blb hb BK308.out); have n6_ := Aside0.mk (blb hb BK316.out); have n7_ := Aside0.mk (below_step (by repeat with_reducible first | exact HB.out | apply pw_below_drewN | refine below_set ?_ GE305.out | refine below_set ?_ GE306.out | refine below_set ?_ GE307.out | refine below_set ?_ GE308.out | refine below_set ?_ GE316.out | apply below_drew1 | apply below_alloc) hb); clear HO312; clear HO315; clear BK305; clear BK306; clear BK307; clear BK308; clear BK316; clear HB; have HO312 := n0_; have HO315 := n1_; have BK305 := n2_; have BK306 := n3_; have BK307 := n4_; have BK308 := n5_; have BK316 := n6_; have HB := n7_; clear n0_ n1_ n2_ n3_ n4_ n5_ n6_ n7_; (try clear hb); (try clear hb2); (try clear hk); (try clear hi)) | (go_at_call 40; (with_reducible refine (marks_May.calls k _ _ l4 t321 _ ?side1 ?side2 A37.out).mono ?_); (case side1 => repeat (first | exact (Kd.C_below HR4.out HB.out) | with_reducible first | refine Kd.C_drewN ?_ _ | refine Kd.C_drew ?_ | refine Kd.C_alloc ?_ _)); (case side2 => exact HC4.out); rintro e w51 ⟨rfl, hb⟩; have n0_ := Aside0.mk (Kd.R_below (by (with_reducible repeat (first | apply Kd.R_alloc | apply Kd.R_drewN | apply Kd.R_drew)); exact HO312.out) hb); have n1_ := Aside0.mk (Kd.R_below (by (with_reducible repeat (first | apply Kd.R_alloc | apply Kd.R_drewN | apply Kd.R_drew)); exact HO315.out) hb); have n2_ := Aside0.mk (blb hb BK305.out); have n3_ := Aside0.mk (blb hb BK306.out); have n4_ := Aside0.mk (blb hb BK307.out); have n5_ := Aside0.mk (blb hb BK308.out); have n6_ := Aside0.mk (blb hb BK316.out); have n7_ := Aside0.mk (below_step (by repeat with_reducible first | exact HB.out | apply pw_below_drewN | refine below_set ?_ GE305.out | refine below_set ?_ GE306.out | refine below_set ?_ GE307.out | refine below_set ?_ GE308.out | refine below_set ?_ GE316.out | apply below_drew1 | apply below_alloc) hb); clear HO312; clear HO315; clear BK305; clear BK306; clear BK307; clear BK308; clear BK316; clear HB; have HO312 := n0_; have HO315 := n1_; have BK305 := n2_; have BK306 := n3_; have BK307 := n4_; have BK308 := n5_; have BK316 := n6_; have HB := n7_; clear n0_ n1_ n2_ n3_ n4_ n5_ n6_ n7_; (try clear hb); (try clear hb2); (try clear hk); (try clear hi)))
  go_meet
  case rel => exact ⟨_, (!t321), (by first | rfl | (simp; done) | (simp [*]; done)), H', ⟨by first | omega | exact Nat.le_refl _⟩, ⟨by (with_reducible repeat (first | apply Kd.R_alloc | apply Kd.R_drewN | apply Kd.R_drew)); exact HO312.out⟩, ⟨by (with_reducible repeat (first | apply Kd.R_alloc | apply Kd.R_drewN | apply Kd.R_drew)); exact HO315.out⟩, ⟨BK305.out⟩, ⟨BK306.out⟩, ⟨BK307.out⟩, ⟨BK308.out⟩, ⟨BK316.out⟩, ⟨by repeat with_reducible first | exact HB.out | apply pw_below_drewN | refine below_set ?_ GE305.out | refine below_set ?_ GE306.out | refine below_set ?_ GE307.out | refine below_set ?_ GE308.out | refine below_set ?_ GE316.out | apply below_drew1 | apply below_alloc⟩⟩
 case rest =>
  clear HC9
  try clear c7
  obtain ⟨kq, x46_8, rfl, HA, HJ8, HO_317000, HO_317001, BK305, BK306, BK307, BK308, BK316, HB⟩ := hcut
  cases kq with
  | zero => exact absurd HA.out (by simp [region_Of.j0])
  | succ kj8 =>
   have H := HA.out
   clear HA
   simp only [region_Of.j0] at H
   by_cases c75 : x46_8 = true
   ·
    subst c75
    have H1 : (some (0, 0, false, 0, 0, 1)) = some (r1, r2, r3, r4, r5, r6) := by rw [if_pos rfl] at H; exact H
    clear H
    have H := H1
    clear H1
    simp only [Option.some.injEq, Prod.mk.injEq] at H
    obtain ⟨rfl, rfl, rfl, rfl, rfl, rfl⟩ := H
    try go_wp2
    have n0_ := Aside0.mk (Kd.R_drew HO_317000.out)
    have n1_ := Aside0.mk (Kd.R_drew HO_317001.out)
    have n2_ := Aside0.mk (blk_drew BK305.out)
    have n3_ := Aside0.mk (blk_drew BK306.out)
    have n4_ := Aside0.mk (blk_drew BK307.out)
    have n5_ := Aside0.mk (blk_drew BK308.out)
    have n6_ := Aside0.mk (blk_drew BK316.out)
    have n7_ := Aside0.mk (below_drew1 HB.out)
    clear HO_317000
    clear HO_317001
    clear BK305
    clear BK306
    clear BK307
    clear BK308
    clear BK316
    clear HB
    have HO_317000 := n0_
    have HO_317001 := n1_
    have BK305 := n2_
    have BK306 := n3_
    have BK307 := n4_
    have BK308 := n5_
    have BK316 := n6_
    have HB := n7_
    clear n0_ n1_ n2_ n3_ n4_ n5_ n6_ n7_
    refine start_ (n := 5) (S := fun w' => w'.cell? ⟨gb307, 0, none⟩ = some (.int .i64 0) ∧ w'.cell? ⟨gb307, 1, none⟩ = some (.int .i64 0) ∧ w'.cell? ⟨gb307, 2, none⟩ = some (.bool false) ∧ w'.cell? ⟨gb308, 0, none⟩ = some (.int .i64 0) ∧ w'.cell? ⟨gb308, 1, none⟩ = some (.int .i64 0)) (ds := []) (bs 5 0) (by kernel_rfl) rfl rfl ⟨(blk_cell BK307.out 0).trans rfl, (blk_cell BK307.out 1).trans rfl, (blk_cell BK307.out 2).trans rfl, (blk_cell BK308.out 0).trans rfl, (blk_cell BK308.out 1).trans rfl⟩ (fun hHeld => ?_)
    generalize wc.drew = w76 at HO_317000 HO_317001 BK305 BK306 BK307 BK308 BK316 HB hHeld ⊢
    refine take_ (i := 0) (N := some 47) (v := ?_) (a' := ?_) (bs 5 1) rfl rfl (by kernel_rfl) (fun _ _ _ h => h) (Or.inl ⟨by rfl, ?_⟩) hHeld ?_ ?_
    rotate_left
    · rintro w' ⟨s0, s1, s2, s3, s4⟩; go_simp; with_reducible rfl
    rotate_left
    · simp only [Act.put, List.setIfInBounds_toArray, List.set_cons_zero, List.set_cons_succ, i64_w, i32_w]; rfl
    refine take_ (i := 1) (N := some 48) (v := ?_) (a' := ?_) (bs 5 3) rfl rfl (by kernel_rfl) (fun _ _ _ h => h) (Or.inl ⟨by rfl, ?_⟩) hHeld ?_ ?_
    rotate_left
    · rintro w' ⟨s0, s1, s2, s3, s4⟩; go_simp; with_reducible rfl
    rotate_left
    · simp only [Act.put, List.setIfInBounds_toArray, List.set_cons_zero, List.set_cons_succ, i64_w, i32_w]; rfl
    refine one_ (i := 2) (N := none) (bs 5 7) rfl rfl (by kernel_rfl) (by decide) (fun K hK => ?_)
    have hs77 := cz0 BK307.out
    have hfs77 := blk_frozen BK307.out 0
    have hns77_0 := NB305_307.out
    have hns77_1 := NB306_307.out
    have hns77_3 := NB308_307.out
    have hns77_4 := NB316_307.out
    have hms77_0 := NB307_305.out
    have hms77_1 := NB307_306.out
    have hms77_3 := NB307_308.out
    have hms77_4 := NB307_316.out
    have hs78 := cz1 BK307.out
    have hfs78 := blk_frozen BK307.out 1
    have hns78_0 := NB305_307.out
    have hns78_1 := NB306_307.out
    have hns78_3 := NB308_307.out
    have hns78_4 := NB316_307.out
    have hms78_0 := NB307_305.out
    have hms78_1 := NB307_306.out
    have hms78_3 := NB307_308.out
    have hms78_4 := NB307_316.out
    have hs79 := cz2 BK307.out
    have hfs79 := blk_frozen BK307.out 2
    have hns79_0 := NB305_307.out
    have hns79_1 := NB306_307.out
    have hns79_3 := NB308_307.out
    have hns79_4 := NB316_307.out
    have hms79_0 := NB307_305.out
    have hms79_1 := NB307_306.out
    have hms79_3 := NB307_308.out
    have hms79_4 := NB307_316.out
    refine skip_ (w1 := ?_) (by rfl) rfl ?_ ?_
    rotate_left
    ·
     go_simp
     rfl
    refine hK.out _ _ ⟨((cell_keep (((cell_keep (((cell_keep (hHeld.1) _).trans (hHeld.2.1))) _).trans (((cell_keep (hHeld.1) _).trans (hHeld.2.2.1))))) _).trans (((cell_keep (((cell_keep (hHeld.1) _).trans (hHeld.2.1))) _).trans (((cell_keep (hHeld.1) _).trans (hHeld.1)))))), ((cell_keep (((cell_keep (((cell_keep (hHeld.1) _).trans (hHeld.2.1))) _).trans (((cell_keep (hHeld.1) _).trans (hHeld.2.2.1))))) _).trans (((cell_keep (((cell_keep (hHeld.1) _).trans (hHeld.2.1))) _).trans (((cell_keep (hHeld.1) _).trans (hHeld.2.1)))))), ((cell_keep (((cell_keep (((cell_keep (hHeld.1) _).trans (hHeld.2.1))) _).trans (((cell_keep (hHeld.1) _).trans (hHeld.2.2.1))))) _).trans (((cell_keep (((cell_keep (hHeld.1) _).trans (hHeld.2.1))) _).trans (((cell_keep (hHeld.1) _).trans (hHeld.2.2.1)))))), ((cell_keep (((cell_keep (((cell_keep (hHeld.1) _).trans (hHeld.2.1))) _).trans (((cell_keep (hHeld.1) _).trans (hHeld.2.2.1))))) _).trans (((cell_keep (((cell_keep (hHeld.1) _).trans (hHeld.2.1))) _).trans (((cell_keep (hHeld.1) _).trans (hHeld.2.2.2.1)))))), ((cell_keep (((cell_keep (((cell_keep (hHeld.1) _).trans (hHeld.2.1))) _).trans (((cell_keep (hHeld.1) _).trans (hHeld.2.2.1))))) _).trans (((cell_keep (((cell_keep (hHeld.1) _).trans (hHeld.2.1))) _).trans (((cell_keep (hHeld.1) _).trans (hHeld.2.2.2.2))))))⟩ (fun hHeld => ?_)
    clear hK K
    refine one_ (i := 3) (N := none) (bs 5 15) rfl rfl (by kernel_rfl) (by decide) (fun K hK => ?_)
    have hs80 := cz0 BK308.out
    have hfs80 := blk_frozen BK308.out 0
    have hns80_0 := NB305_308.out
    have hns80_1 := NB306_308.out
    have hns80_2 := NB307_308.out
    have hns80_4 := NB316_308.out
    have hms80_0 := NB308_305.out
    have hms80_1 := NB308_306.out
    have hms80_2 := NB308_307.out
    have hms80_4 := NB308_316.out
    have hs81 := cz1 BK308.out
    have hfs81 := blk_frozen BK308.out 1
    have hns81_0 := NB305_308.out
    have hns81_1 := NB306_308.out
    have hns81_2 := NB307_308.out
    have hns81_4 := NB316_308.out
    have hms81_0 := NB308_305.out
    have hms81_1 := NB308_306.out
    have hms81_2 := NB308_307.out
    have hms81_4 := NB308_316.out
    refine skip_ (w1 := ?_) (by rfl) rfl ?_ ?_
    rotate_left
    ·
     go_simp
     rfl
    refine hK.out _ _ ⟨((cell_keep (((cell_keep (hHeld.2.2.2.1) _).trans (hHeld.2.2.2.2))) _).trans (((cell_keep (hHeld.2.2.2.1) _).trans (hHeld.1)))), ((cell_keep (((cell_keep (hHeld.2.2.2.1) _).trans (hHeld.2.2.2.2))) _).trans (((cell_keep (hHeld.2.2.2.1) _).trans (hHeld.2.1)))), ((cell_keep (((cell_keep (hHeld.2.2.2.1) _).trans (hHeld.2.2.2.2))) _).trans (((cell_keep (hHeld.2.2.2.1) _).trans (hHeld.2.2.1)))), ((cell_keep (((cell_keep (hHeld.2.2.2.1) _).trans (hHeld.2.2.2.2))) _).trans (((cell_keep (hHeld.2.2.2.1) _).trans (hHeld.2.2.2.1)))), ((cell_keep (((cell_keep (hHeld.2.2.2.1) _).trans (hHeld.2.2.2.2))) _).trans (((cell_keep (hHeld.2.2.2.1) _).trans (hHeld.2.2.2.2))))⟩ (fun hHeld => ?_)
    clear hK K
    refine pure_ (i := 4) (N := some 12) (v := ?_) (a' := ?_) (bs 5 31) rfl rfl (by kernel_rfl) (fun _ _ _ h => h) (Or.inl ⟨by rfl, ?_⟩) ?_ ?_
    rotate_left
    · intro w'; go_simp; with_reducible rfl
    rotate_left
    · simp only [Act.put, List.setIfInBounds_toArray, List.set_cons_zero, List.set_cons_succ, i64_w, i32_w]; rfl
    refine done_ (by kernel_rfl) ?_
    try go_wp2
    refine bodyPost_ret (results_list (rs := [.cell 10 40, .cell 11 31, .tmp 12]) rfl (by simp) (.cell gb307 40 #[.int .i64 0, .int .i64 0, .bool false] (0, 0) _ rfl (by (with_reducible repeat (first | refine blk_drewN ?_ _ | refine blk_drew ?_ | refine blk_alloc ?_ _)); refine blk_far ?_ NB307_308.out _; (with_reducible repeat (first | refine blk_drewN ?_ _ | refine blk_drew ?_ | refine blk_alloc ?_ _)); refine blk_far ?_ NB307_308.out _; (with_reducible repeat (first | refine blk_drewN ?_ _ | refine blk_drew ?_ | refine blk_alloc ?_ _)); refine blk_put (cs := #[.int .i64 0, .int .i64 0, .bool false]) ?_ 2 _ rfl; (with_reducible repeat (first | refine blk_drewN ?_ _ | refine blk_drew ?_ | refine blk_alloc ?_ _)); refine blk_put (cs := #[.int .i64 0, .int .i64 0, .bool false]) ?_ 1 _ rfl; (with_reducible repeat (first | refine blk_drewN ?_ _ | refine blk_drew ?_ | refine blk_alloc ?_ _)); refine blk_put (cs := #[.int .i64 0, .int .i64 0, .bool false]) ?_ 0 _ rfl; (with_reducible repeat (first | refine blk_drewN ?_ _ | refine blk_drew ?_ | refine blk_alloc ?_ _)); exact BK307.out) Tryd.underlying40 rfl (by kernel_rfl) (.cell gb308 31 #[.int .i64 0, .int .i64 0] (0, 0) _ rfl (by (with_reducible repeat (first | refine blk_drewN ?_ _ | refine blk_drew ?_ | refine blk_alloc ?_ _)); refine blk_put (cs := #[.int .i64 0, .int .i64 0]) ?_ 1 _ rfl; (with_reducible repeat (first | refine blk_drewN ?_ _ | refine blk_drew ?_ | refine blk_alloc ?_ _)); refine blk_put (cs := #[.int .i64 0, .int .i64 0]) ?_ 0 _ rfl; (with_reducible repeat (first | refine blk_drewN ?_ _ | refine blk_drew ?_ | refine blk_alloc ?_ _)); refine blk_far ?_ NB308_307.out _; (with_reducible repeat (first | refine blk_drewN ?_ _ | refine blk_drew ?_ | refine blk_alloc ?_ _)); refine blk_far ?_ NB308_307.out _; (with_reducible repeat (first | refine blk_drewN ?_ _ | refine blk_drew ?_ | refine blk_alloc ?_ _)); refine blk_far ?_ NB308_307.out _; (with_reducible repeat (first | refine blk_drewN ?_ _ | refine blk_drew ?_ | refine blk_alloc ?_ _)); exact BK308.out) Tryd.underlying31 rfl (by kernel_rfl) (.tmp .nil)))) rfl ?_
    exact ⟨by first | rfl | (simp [errW_none, errW_some] <;> rfl) | (simp [*, errW_none, errW_some] <;> rfl), by repeat with_reducible first | exact HB.out | apply pw_below_drewN | refine below_set ?_ GE305.out | refine below_set ?_ GE306.out | refine below_set ?_ GE307.out | refine below_set ?_ GE308.out | refine below_set ?_ GE316.out | apply below_drew1 | apply below_alloc⟩
   replace c75 := Bool.eq_false_iff.mpr c75
   subst c75
   have H1 : (if a2_4 = 0 then (if a2_3 = a2_2 then ((region_rows.f t310 t313 a1 (mx 1 a2_1)).bind fun bt322 => (if bt322.2.2.2 = 0 then (some (bt322.1, bt322.2.1, bt322.2.2.1, a3_0, a3_1, 0)) else (some (bt322.1, bt322.2.1, bt322.2.2.1, 0, 0, bt322.2.2.2)))) else ((move_Go.f kj8 a0 a1 a2_0 a2_1 a2_2 a2_3 a2_4 a2_5 a3_0 a3_1 l4).bind fun bt327 => (if bt327.2.2.2.2 = 0 then ((region_between.f kj8 t310 t313 a1 bt327.1 bt327.2.1).bind fun bt332 => (some (bt332.1, bt332.2.1, bt332.2.2, bt327.2.2.1, bt327.2.2.2.1, 0))) else (some (0, 0, false, 0, 0, bt327.2.2.2.2))))) else ((object_Piece.f a0 a1 a2_4 a2_3 (mx 1 a2_1)).bind fun bt335 => (if bt335.2.2.2 = 0 then (some (bt335.1, bt335.2.1, bt335.2.2.1, a3_0, a3_1, 0)) else (some (bt335.1, bt335.2.1, bt335.2.2.1, 0, 0, bt335.2.2.2))))) = some (r1, r2, r3, r4, r5, r6) := by rw [if_neg (show ¬ (false = true) by decide)] at H; exact H
   clear H
   have H := H1
   clear H1
   by_cases c82 : a2_4 = 0
   rotate_left
   ·
    rw [if_neg c82] at H
    have c82b0 : (a2_4 == 0) = false := beq_eq_false_iff_ne.mpr c82
    have c82b1 : (a2_4 != 0) = true := bne_iff_ne.mpr c82
    obtain ⟨ji186, hji186⟩ : ∃ j_ : Int, (mx 1 a2_1) = j_ := ⟨_, rfl⟩
    replace H : ((object_Piece.f a0 a1 a2_4 a2_3 (ji186)).bind fun bt335 => (if bt335.2.2.2 = 0 then (some (bt335.1, bt335.2.1, bt335.2.2.1, a3_0, a3_1, 0)) else (some (bt335.1, bt335.2.1, bt335.2.2.1, 0, 0, bt335.2.2.2)))) = some (r1, r2, r3, r4, r5, r6) := by first | (rw [hji186] at H; exact H) | (simp only [hji186] at H ⊢; exact H)
    (try (have hji186l : 1 ≤ ji186 := by (rw [← hji186]; unfold mx; (repeat' split) <;> omega)))
    (try (have hji186m : 0 ≤ ji186 := by omega))
    have hji186_ : (if 1 < a2_1 then a2_1 else 1) = ji186 := hji186
    replace H := Option.bind_eq_some_iff.mp H
    obtain ⟨⟨t335, t336, t337, t338⟩, A1870, H⟩ := H
    (try dsimp only at H)
    have A187 := Aside0.mk A1870
    clear A1870
    by_cases c188 : t338 = 0
    ·
     rw [if_pos c188] at H
     have c188b0 : (t338 == 0) = true := beq_iff_eq.mpr c188
     have c188b1 : (t338 != 0) = false := bne_eq_false_iff_eq.mpr c188
     clear c188
     simp only [Option.some.injEq, Prod.mk.injEq] at H
     obtain ⟨rfl, rfl, rfl, rfl, rfl, rfl⟩ := H
     have hnb189 := NB305_306.out
     have hnc189 := NB306_305.out
     have hnb190 := NB305_307.out
     have hnc190 := NB307_305.out
     have hnb191 := NB305_308.out
     have hnc191 := NB308_305.out
     have hnb192 := NB305_316.out
     have hnc192 := NB316_305.out
     have hcz193_0 := cz0 BK305.out
     have hcz193_1 := cz1 BK305.out
     have hcz193_2 := cz2 BK305.out
     have hcz193_3 := cz3 BK305.out
     have hcz193_4 := cz4 BK305.out
     have hcz193_5 := cz5 BK305.out
     have hfz193_0 := blk_frozen BK305.out 0
     have hfz193_1 := blk_frozen BK305.out 1
     have hfz193_2 := blk_frozen BK305.out 2
     have hfz193_3 := blk_frozen BK305.out 3
     have hfz193_4 := blk_frozen BK305.out 4
     have hfz193_5 := blk_frozen BK305.out 5
     try go_wp2_with (first | ((with_reducible refine gate_callee (f := 53) rfl ?_); refine goesL_ (some 82) rfl rfl Tryd.func53 (by kernel_rfl) rfl #[.string a0, .int .i64 a1, .int .i64 a2_4, .int .i64 a2_3, .int .i64 ji186] rfl (by (try simp only [List.map_toArray, List.map_cons, List.map_nil]); first | done | (simp only [hji186]; rfl) | rfl | (simp only [List.length_drop, List.length_take]; rfl)) ?_; (with_reducible refine (object_Piece.calls a0 a1 a2_4 a2_3 ji186 t335 t336 t337 t338 _ A187.out).mono ?_); rintro e w194 ⟨rfl, hb⟩; refine ⟨_, rfl, ?_⟩; have n0_ := Aside0.mk (Kd.R_below (by (with_reducible repeat (first | apply Kd.R_alloc | apply Kd.R_drewN | apply Kd.R_drew)); exact HO_317000.out) hb); have n1_ := Aside0.mk (Kd.R_below (by (with_reducible repeat (first | apply Kd.R_alloc | apply Kd.R_drewN | apply Kd.R_drew)); exact HO_317001.out) hb); have n2_ := Aside0.mk (blb hb BK305.out); have n3_ := Aside0.mk (blb hb BK306.out); have n4_ := Aside0.mk (blb hb BK307.out); have n5_ := Aside0.mk (blb hb BK308.out); have n6_ := Aside0.mk (blb hb BK316.out); have n7_ := Aside0.mk (below_step (by repeat with_reducible first | exact HB.out | apply pw_below_drewN | refine below_set ?_ GE305.out | refine below_set ?_ GE306.out | refine below_set ?_ GE307.out | refine below_set ?_ GE308.out | refine below_set ?_ GE316.out | apply below_drew1 | apply below_alloc) hb); clear HO_317000; clear HO_317001; clear BK305; clear BK306; clear BK307; clear BK308; clear BK316; clear HB; have HO_317000 := n0_; have HO_317001 := n1_; have BK305 := n2_; have BK306 := n3_; have BK307 := n4_; have BK308 := n5_; have BK316 := n6_; have HB := n7_; clear n0_ n1_ n2_ n3_ n4_ n5_ n6_ n7_; (try clear hb); (try clear hb2); (try clear hk); (try clear hi); have hnb195 := NB307_306.out; have hnc195 := NB306_307.out; have hnb196 := NB307_308.out; have hnc196 := NB308_307.out; have hnb197 := NB307_316.out; have hnc197 := NB316_307.out; have hcz198_0 := cz0 BK307.out; have hcz198_1 := cz1 BK307.out; have hcz198_2 := cz2 BK307.out; have hfz198_0 := blk_frozen BK307.out 0; have hfz198_1 := blk_frozen BK307.out 1; have hfz198_2 := blk_frozen BK307.out 2))
     have n0_ : Aside0 (Kd.R (Kd.int .i32) 21 (((w194.setCell ⟨gb307, 0, none⟩ (.int .i64 t335)).setCell ⟨gb307, 1, none⟩ (.int .i64 t336)).setCell ⟨gb307, 2, none⟩ (.bool t337)) w.heap.size (fun _ => True) v311 t310) := ⟨by (with_reducible repeat (first | apply Kd.R_alloc | apply Kd.R_drewN | apply Kd.R_drew)); exact Kd.R_mono (Kd.R_far (p := ⟨gb307, 2, none⟩) (Kd.R_far (p := ⟨gb307, 1, none⟩) (Kd.R_far (p := ⟨gb307, 0, none⟩) (Kd.R_types HO_317000.out BK307.out (by decide)) (fun _ hk => hk.2) (.int .i64 t335)) (fun _ hk => hk.2) (.int .i64 t336)) (fun _ hk => hk.2) (.bool t337)) (fun _ hk => trivial)⟩
     have n1_ : Aside0 (Kd.R (Kd.int .i64) 3 (((w194.setCell ⟨gb307, 0, none⟩ (.int .i64 t335)).setCell ⟨gb307, 1, none⟩ (.int .i64 t336)).setCell ⟨gb307, 2, none⟩ (.bool t337)) w.heap.size (fun _ => True) v314 t313) := ⟨by (with_reducible repeat (first | apply Kd.R_alloc | apply Kd.R_drewN | apply Kd.R_drew)); exact Kd.R_mono (Kd.R_far (p := ⟨gb307, 2, none⟩) (Kd.R_far (p := ⟨gb307, 1, none⟩) (Kd.R_far (p := ⟨gb307, 0, none⟩) (Kd.R_types HO_317001.out BK307.out (by decide)) (fun _ hk => hk.2) (.int .i64 t335)) (fun _ hk => hk.2) (.int .i64 t336)) (fun _ hk => hk.2) (.bool t337)) (fun _ hk => trivial)⟩
     have n2_ : Aside0 ((((w194.setCell ⟨gb307, 0, none⟩ (.int .i64 t335)).setCell ⟨gb307, 1, none⟩ (.int .i64 t336)).setCell ⟨gb307, 2, none⟩ (.bool t337)).heap[gb305]? = some (.cells #[.int .i64 a2_0, .int .i64 a2_1, .int .i64 a2_2, .int .i64 a2_3, .int .i64 a2_4, .int .i64 a2_5] 52 (0, 0))) := ⟨by (with_reducible repeat (first | refine blk_drewN ?_ _ | refine blk_drew ?_ | refine blk_alloc ?_ _)); refine blk_far ?_ NB305_307.out _; (with_reducible repeat (first | refine blk_drewN ?_ _ | refine blk_drew ?_ | refine blk_alloc ?_ _)); refine blk_far ?_ NB305_307.out _; (with_reducible repeat (first | refine blk_drewN ?_ _ | refine blk_drew ?_ | refine blk_alloc ?_ _)); refine blk_far ?_ NB305_307.out _; (with_reducible repeat (first | refine blk_drewN ?_ _ | refine blk_drew ?_ | refine blk_alloc ?_ _)); exact BK305.out⟩
     have n3_ : Aside0 ((((w194.setCell ⟨gb307, 0, none⟩ (.int .i64 t335)).setCell ⟨gb307, 1, none⟩ (.int .i64 t336)).setCell ⟨gb307, 2, none⟩ (.bool t337)).heap[gb306]? = some (.cells #[.int .i64 a3_0, .int .i64 a3_1] 31 (0, 0))) := ⟨by (with_reducible repeat (first | refine blk_drewN ?_ _ | refine blk_drew ?_ | refine blk_alloc ?_ _)); refine blk_far ?_ NB306_307.out _; (with_reducible repeat (first | refine blk_drewN ?_ _ | refine blk_drew ?_ | refine blk_alloc ?_ _)); refine blk_far ?_ NB306_307.out _; (with_reducible repeat (first | refine blk_drewN ?_ _ | refine blk_drew ?_ | refine blk_alloc ?_ _)); refine blk_far ?_ NB306_307.out _; (with_reducible repeat (first | refine blk_drewN ?_ _ | refine blk_drew ?_ | refine blk_alloc ?_ _)); exact BK306.out⟩
     have n4_ : Aside0 ((((w194.setCell ⟨gb307, 0, none⟩ (.int .i64 t335)).setCell ⟨gb307, 1, none⟩ (.int .i64 t336)).setCell ⟨gb307, 2, none⟩ (.bool t337)).heap[gb307]? = some (.cells #[.int .i64 t335, .int .i64 t336, .bool t337] 40 (0, 0))) := ⟨by (with_reducible repeat (first | refine blk_drewN ?_ _ | refine blk_drew ?_ | refine blk_alloc ?_ _)); refine blk_put (cs := #[.int .i64 t335, .int .i64 t336, .bool false]) ?_ 2 _ rfl; (with_reducible repeat (first | refine blk_drewN ?_ _ | refine blk_drew ?_ | refine blk_alloc ?_ _)); refine blk_put (cs := #[.int .i64 t335, .int .i64 0, .bool false]) ?_ 1 _ rfl; (with_reducible repeat (first | refine blk_drewN ?_ _ | refine blk_drew ?_ | refine blk_alloc ?_ _)); refine blk_put (cs := #[.int .i64 0, .int .i64 0, .bool false]) ?_ 0 _ rfl; (with_reducible repeat (first | refine blk_drewN ?_ _ | refine blk_drew ?_ | refine blk_alloc ?_ _)); exact BK307.out⟩
     have n5_ : Aside0 ((((w194.setCell ⟨gb307, 0, none⟩ (.int .i64 t335)).setCell ⟨gb307, 1, none⟩ (.int .i64 t336)).setCell ⟨gb307, 2, none⟩ (.bool t337)).heap[gb308]? = some (.cells #[.int .i64 0, .int .i64 0] 31 (0, 0))) := ⟨by (with_reducible repeat (first | refine blk_drewN ?_ _ | refine blk_drew ?_ | refine blk_alloc ?_ _)); refine blk_far ?_ NB308_307.out _; (with_reducible repeat (first | refine blk_drewN ?_ _ | refine blk_drew ?_ | refine blk_alloc ?_ _)); refine blk_far ?_ NB308_307.out _; (with_reducible repeat (first | refine blk_drewN ?_ _ | refine blk_drew ?_ | refine blk_alloc ?_ _)); refine blk_far ?_ NB308_307.out _; (with_reducible repeat (first | refine blk_drewN ?_ _ | refine blk_drew ?_ | refine blk_alloc ?_ _)); exact BK308.out⟩
     have n6_ : Aside0 ((((w194.setCell ⟨gb307, 0, none⟩ (.int .i64 t335)).setCell ⟨gb307, 1, none⟩ (.int .i64 t336)).setCell ⟨gb307, 2, none⟩ (.bool t337)).heap[gb316]? = some (.cells #[v311, v314] 79 (0, 0))) := ⟨by (with_reducible repeat (first | refine blk_drewN ?_ _ | refine blk_drew ?_ | refine blk_alloc ?_ _)); refine blk_far ?_ NB316_307.out _; (with_reducible repeat (first | refine blk_drewN ?_ _ | refine blk_drew ?_ | refine blk_alloc ?_ _)); refine blk_far ?_ NB316_307.out _; (with_reducible repeat (first | refine blk_drewN ?_ _ | refine blk_drew ?_ | refine blk_alloc ?_ _)); refine blk_far ?_ NB316_307.out _; (with_reducible repeat (first | refine blk_drewN ?_ _ | refine blk_drew ?_ | refine blk_alloc ?_ _)); exact BK316.out⟩
     have n7_ : Aside0 (Below w.heap.size w (((w194.setCell ⟨gb307, 0, none⟩ (.int .i64 t335)).setCell ⟨gb307, 1, none⟩ (.int .i64 t336)).setCell ⟨gb307, 2, none⟩ (.bool t337))) := ⟨by repeat with_reducible first | exact HB.out | apply pw_below_drewN | refine below_set ?_ GE305.out | refine below_set ?_ GE306.out | refine below_set ?_ GE307.out | refine below_set ?_ GE308.out | refine below_set ?_ GE316.out | apply below_drew1 | apply below_alloc⟩
     (try clear HO_317000)
     (try clear HO_317001)
     (try clear BK305)
     (try clear BK306)
     (try clear BK307)
     (try clear BK308)
     (try clear BK316)
     (try clear HB)
     generalize (((w194.setCell ⟨gb307, 0, none⟩ (.int .i64 t335)).setCell ⟨gb307, 1, none⟩ (.int .i64 t336)).setCell ⟨gb307, 2, none⟩ (.bool t337)) = w199 at n0_ n1_ n2_ n3_ n4_ n5_ n6_ n7_ ⊢
     have HO_317000 := n0_
     have HO_317001 := n1_
     have BK305 := n2_
     have BK306 := n3_
     have BK307 := n4_
     have BK308 := n5_
     have BK316 := n6_
     have HB := n7_
     clear n0_ n1_ n2_ n3_ n4_ n5_ n6_ n7_
     have n0_ := Aside0.mk (Kd.R_drew HO_317000.out)
     have n1_ := Aside0.mk (Kd.R_drew HO_317001.out)
     have n2_ := Aside0.mk (blk_drew BK305.out)
     have n3_ := Aside0.mk (blk_drew BK306.out)
     have n4_ := Aside0.mk (blk_drew BK307.out)
     have n5_ := Aside0.mk (blk_drew BK308.out)
     have n6_ := Aside0.mk (blk_drew BK316.out)
     have n7_ := Aside0.mk (below_drew1 HB.out)
     clear HO_317000
     clear HO_317001
     clear BK305
     clear BK306
     clear BK307
     clear BK308
     clear BK316
     clear HB
     have HO_317000 := n0_
     have HO_317001 := n1_
     have BK305 := n2_
     have BK306 := n3_
     have BK307 := n4_
     have BK308 := n5_
     have BK316 := n6_
     have HB := n7_
     clear n0_ n1_ n2_ n3_ n4_ n5_ n6_ n7_
     refine start_ (n := 5) (S := fun w' => w'.cell? ⟨gb307, 0, none⟩ = some (.int .i64 t335) ∧ w'.cell? ⟨gb307, 1, none⟩ = some (.int .i64 t336) ∧ w'.cell? ⟨gb307, 2, none⟩ = some (.bool t337) ∧ w'.cell? ⟨gb306, 0, none⟩ = some (.int .i64 a3_0) ∧ w'.cell? ⟨gb306, 1, none⟩ = some (.int .i64 a3_1)) (ds := []) (bs 5 0) (by kernel_rfl) rfl rfl ⟨(blk_cell BK307.out 0).trans rfl, (blk_cell BK307.out 1).trans rfl, (blk_cell BK307.out 2).trans rfl, (blk_cell BK306.out 0).trans rfl, (blk_cell BK306.out 1).trans rfl⟩ (fun hHeld => ?_)
     generalize w199.drew = w200 at HO_317000 HO_317001 BK305 BK306 BK307 BK308 BK316 HB hHeld ⊢
     refine take_ (i := 0) (N := some 105) (v := ?_) (a' := ?_) (bs 5 1) rfl rfl (by kernel_rfl) (fun _ _ _ h => h) (Or.inl ⟨by rfl, ?_⟩) hHeld ?_ ?_
     rotate_left
     · rintro w' ⟨s0, s1, s2, s3, s4⟩; go_simp; with_reducible rfl
     rotate_left
     · simp only [Act.put, List.setIfInBounds_toArray, List.set_cons_zero, List.set_cons_succ, i64_w, i32_w]; rfl
     refine take_ (i := 1) (N := some 106) (v := ?_) (a' := ?_) (bs 5 3) rfl rfl (by kernel_rfl) (fun _ _ _ h => h) (Or.inl ⟨by rfl, ?_⟩) hHeld ?_ ?_
     rotate_left
     · rintro w' ⟨s0, s1, s2, s3, s4⟩; go_simp; with_reducible rfl
     rotate_left
     · simp only [Act.put, List.setIfInBounds_toArray, List.set_cons_zero, List.set_cons_succ, i64_w, i32_w]; rfl
     refine one_ (i := 2) (N := none) (bs 5 7) rfl rfl (by kernel_rfl) (by decide) (fun K hK => ?_)
     have hs201 := cz0 BK307.out
     have hfs201 := blk_frozen BK307.out 0
     have hns201_0 := NB305_307.out
     have hns201_1 := NB306_307.out
     have hns201_3 := NB308_307.out
     have hns201_4 := NB316_307.out
     have hms201_0 := NB307_305.out
     have hms201_1 := NB307_306.out
     have hms201_3 := NB307_308.out
     have hms201_4 := NB307_316.out
     have hs202 := cz1 BK307.out
     have hfs202 := blk_frozen BK307.out 1
     have hns202_0 := NB305_307.out
     have hns202_1 := NB306_307.out
     have hns202_3 := NB308_307.out
     have hns202_4 := NB316_307.out
     have hms202_0 := NB307_305.out
     have hms202_1 := NB307_306.out
     have hms202_3 := NB307_308.out
     have hms202_4 := NB307_316.out
     have hs203 := cz2 BK307.out
     have hfs203 := blk_frozen BK307.out 2
     have hns203_0 := NB305_307.out
     have hns203_1 := NB306_307.out
     have hns203_3 := NB308_307.out
     have hns203_4 := NB316_307.out
     have hms203_0 := NB307_305.out
     have hms203_1 := NB307_306.out
     have hms203_3 := NB307_308.out
     have hms203_4 := NB307_316.out
     refine skip_ (w1 := ?_) (by rfl) rfl ?_ ?_
     rotate_left
     ·
      go_simp
      rfl
     refine hK.out _ _ ⟨((cell_keep (((cell_keep (((cell_keep (hHeld.1) _).trans (hHeld.2.1))) _).trans (((cell_keep (hHeld.1) _).trans (hHeld.2.2.1))))) _).trans (((cell_keep (((cell_keep (hHeld.1) _).trans (hHeld.2.1))) _).trans (((cell_keep (hHeld.1) _).trans (hHeld.1)))))), ((cell_keep (((cell_keep (((cell_keep (hHeld.1) _).trans (hHeld.2.1))) _).trans (((cell_keep (hHeld.1) _).trans (hHeld.2.2.1))))) _).trans (((cell_keep (((cell_keep (hHeld.1) _).trans (hHeld.2.1))) _).trans (((cell_keep (hHeld.1) _).trans (hHeld.2.1)))))), ((cell_keep (((cell_keep (((cell_keep (hHeld.1) _).trans (hHeld.2.1))) _).trans (((cell_keep (hHeld.1) _).trans (hHeld.2.2.1))))) _).trans (((cell_keep (((cell_keep (hHeld.1) _).trans (hHeld.2.1))) _).trans (((cell_keep (hHeld.1) _).trans (hHeld.2.2.1)))))), ((cell_keep (((cell_keep (((cell_keep (hHeld.1) _).trans (hHeld.2.1))) _).trans (((cell_keep (hHeld.1) _).trans (hHeld.2.2.1))))) _).trans (((cell_keep (((cell_keep (hHeld.1) _).trans (hHeld.2.1))) _).trans (((cell_keep (hHeld.1) _).trans (hHeld.2.2.2.1)))))), ((cell_keep (((cell_keep (((cell_keep (hHeld.1) _).trans (hHeld.2.1))) _).trans (((cell_keep (hHeld.1) _).trans (hHeld.2.2.1))))) _).trans (((cell_keep (((cell_keep (hHeld.1) _).trans (hHeld.2.1))) _).trans (((cell_keep (hHeld.1) _).trans (hHeld.2.2.2.2))))))⟩ (fun hHeld => ?_)
     clear hK K
     refine one_ (i := 3) (N := none) (bs 5 15) rfl rfl (by kernel_rfl) (by decide) (fun K hK => ?_)
     have hs204 := cz0 BK308.out
     have hfs204 := blk_frozen BK308.out 0
     have hns204_0 := NB305_308.out
     have hns204_1 := NB306_308.out
     have hns204_2 := NB307_308.out
     have hns204_4 := NB316_308.out
     have hms204_0 := NB308_305.out
     have hms204_1 := NB308_306.out
     have hms204_2 := NB308_307.out
     have hms204_4 := NB308_316.out
     have hs205 := cz1 BK308.out
     have hfs205 := blk_frozen BK308.out 1
     have hns205_0 := NB305_308.out
     have hns205_1 := NB306_308.out
     have hns205_2 := NB307_308.out
     have hns205_4 := NB316_308.out
     have hms205_0 := NB308_305.out
     have hms205_1 := NB308_306.out
     have hms205_2 := NB308_307.out
     have hms205_4 := NB308_316.out
     refine skip_ (w1 := ?_) (by rfl) rfl ?_ ?_
     rotate_left
     ·
      go_simp
      rfl
     refine hK.out _ _ ⟨((cell_far (p := ⟨gb308, _, none⟩) NB307_308.out _).trans (((cell_far (p := ⟨gb308, _, none⟩) NB307_308.out _).trans (hHeld.1)))), ((cell_far (p := ⟨gb308, _, none⟩) NB307_308.out _).trans (((cell_far (p := ⟨gb308, _, none⟩) NB307_308.out _).trans (hHeld.2.1)))), ((cell_far (p := ⟨gb308, _, none⟩) NB307_308.out _).trans (((cell_far (p := ⟨gb308, _, none⟩) NB307_308.out _).trans (hHeld.2.2.1)))), ((cell_far (p := ⟨gb308, _, none⟩) NB306_308.out _).trans (((cell_far (p := ⟨gb308, _, none⟩) NB306_308.out _).trans (hHeld.2.2.2.1)))), ((cell_far (p := ⟨gb308, _, none⟩) NB306_308.out _).trans (((cell_far (p := ⟨gb308, _, none⟩) NB306_308.out _).trans (hHeld.2.2.2.2))))⟩ (fun hHeld => ?_)
     clear hK K
     refine pure_ (i := 4) (N := some 12) (v := ?_) (a' := ?_) (bs 5 31) rfl rfl (by kernel_rfl) (fun _ _ _ h => h) (Or.inl ⟨by rfl, ?_⟩) ?_ ?_
     rotate_left
     · intro w'; go_simp; with_reducible rfl
     rotate_left
     · simp only [Act.put, List.setIfInBounds_toArray, List.set_cons_zero, List.set_cons_succ, i64_w, i32_w]; rfl
     refine done_ (by kernel_rfl) ?_
     try go_wp2
     refine bodyPost_ret (results_list (rs := [.cell 10 40, .cell 11 31, .tmp 12]) rfl (by simp) (.cell gb307 40 #[.int .i64 t335, .int .i64 t336, .bool t337] (0, 0) _ rfl (by (with_reducible repeat (first | refine blk_drewN ?_ _ | refine blk_drew ?_ | refine blk_alloc ?_ _)); refine blk_far ?_ NB307_308.out _; (with_reducible repeat (first | refine blk_drewN ?_ _ | refine blk_drew ?_ | refine blk_alloc ?_ _)); refine blk_far ?_ NB307_308.out _; (with_reducible repeat (first | refine blk_drewN ?_ _ | refine blk_drew ?_ | refine blk_alloc ?_ _)); refine blk_put (cs := #[.int .i64 t335, .int .i64 t336, .bool t337]) ?_ 2 _ rfl; (with_reducible repeat (first | refine blk_drewN ?_ _ | refine blk_drew ?_ | refine blk_alloc ?_ _)); refine blk_put (cs := #[.int .i64 t335, .int .i64 t336, .bool t337]) ?_ 1 _ rfl; (with_reducible repeat (first | refine blk_drewN ?_ _ | refine blk_drew ?_ | refine blk_alloc ?_ _)); refine blk_put (cs := #[.int .i64 t335, .int .i64 t336, .bool t337]) ?_ 0 _ rfl; (with_reducible repeat (first | refine blk_drewN ?_ _ | refine blk_drew ?_ | refine blk_alloc ?_ _)); exact BK307.out) Tryd.underlying40 rfl (by kernel_rfl) (.cell gb308 31 #[.int .i64 a3_0, .int .i64 a3_1] (0, 0) _ rfl (by (with_reducible repeat (first | refine blk_drewN ?_ _ | refine blk_drew ?_ | refine blk_alloc ?_ _)); refine blk_put (cs := #[.int .i64 a3_0, .int .i64 0]) ?_ 1 _ rfl; (with_reducible repeat (first | refine blk_drewN ?_ _ | refine blk_drew ?_ | refine blk_alloc ?_ _)); refine blk_put (cs := #[.int .i64 0, .int .i64 0]) ?_ 0 _ rfl; (with_reducible repeat (first | refine blk_drewN ?_ _ | refine blk_drew ?_ | refine blk_alloc ?_ _)); refine blk_far ?_ NB308_307.out _; (with_reducible repeat (first | refine blk_drewN ?_ _ | refine blk_drew ?_ | refine blk_alloc ?_ _)); refine blk_far ?_ NB308_307.out _; (with_reducible repeat (first | refine blk_drewN ?_ _ | refine blk_drew ?_ | refine blk_alloc ?_ _)); refine blk_far ?_ NB308_307.out _; (with_reducible repeat (first | refine blk_drewN ?_ _ | refine blk_drew ?_ | refine blk_alloc ?_ _)); exact BK308.out) Tryd.underlying31 rfl (by kernel_rfl) (.tmp .nil)))) rfl ?_
     exact ⟨by first | rfl | (simp [errW_none, errW_some] <;> rfl) | (simp only [← hji186]; first | rfl | (simp [errW_none, errW_some] <;> rfl)) | (simp [*, errW_none, errW_some] <;> rfl), by repeat with_reducible first | exact HB.out | apply pw_below_drewN | refine below_set ?_ GE305.out | refine below_set ?_ GE306.out | refine below_set ?_ GE307.out | refine below_set ?_ GE308.out | refine below_set ?_ GE316.out | apply below_drew1 | apply below_alloc⟩
    rw [if_neg c188] at H
    have c188b0 : (t338 == 0) = false := beq_eq_false_iff_ne.mpr c188
    have c188b1 : (t338 != 0) = true := bne_iff_ne.mpr c188
    simp only [Option.some.injEq, Prod.mk.injEq] at H
    obtain ⟨rfl, rfl, rfl, rfl, rfl, rfl⟩ := H
    have hnb206 := NB305_306.out
    have hnc206 := NB306_305.out
    have hnb207 := NB305_307.out
    have hnc207 := NB307_305.out
    have hnb208 := NB305_308.out
    have hnc208 := NB308_305.out
    have hnb209 := NB305_316.out
    have hnc209 := NB316_305.out
    have hcz210_0 := cz0 BK305.out
    have hcz210_1 := cz1 BK305.out
    have hcz210_2 := cz2 BK305.out
    have hcz210_3 := cz3 BK305.out
    have hcz210_4 := cz4 BK305.out
    have hcz210_5 := cz5 BK305.out
    have hfz210_0 := blk_frozen BK305.out 0
    have hfz210_1 := blk_frozen BK305.out 1
    have hfz210_2 := blk_frozen BK305.out 2
    have hfz210_3 := blk_frozen BK305.out 3
    have hfz210_4 := blk_frozen BK305.out 4
    have hfz210_5 := blk_frozen BK305.out 5
    try go_wp2_with (first | ((with_reducible refine gate_callee (f := 53) rfl ?_); refine goesL_ (some 82) rfl rfl Tryd.func53 (by kernel_rfl) rfl #[.string a0, .int .i64 a1, .int .i64 a2_4, .int .i64 a2_3, .int .i64 ji186] rfl (by (try simp only [List.map_toArray, List.map_cons, List.map_nil]); first | done | (simp only [hji186]; rfl) | rfl | (simp only [List.length_drop, List.length_take]; rfl)) ?_; (with_reducible refine (object_Piece.calls a0 a1 a2_4 a2_3 ji186 t335 t336 t337 t338 _ A187.out).mono ?_); rintro e w211 ⟨rfl, hb⟩; refine ⟨_, rfl, ?_⟩; have n0_ := Aside0.mk (Kd.R_below (by (with_reducible repeat (first | apply Kd.R_alloc | apply Kd.R_drewN | apply Kd.R_drew)); exact HO_317000.out) hb); have n1_ := Aside0.mk (Kd.R_below (by (with_reducible repeat (first | apply Kd.R_alloc | apply Kd.R_drewN | apply Kd.R_drew)); exact HO_317001.out) hb); have n2_ := Aside0.mk (blb hb BK305.out); have n3_ := Aside0.mk (blb hb BK306.out); have n4_ := Aside0.mk (blb hb BK307.out); have n5_ := Aside0.mk (blb hb BK308.out); have n6_ := Aside0.mk (blb hb BK316.out); have n7_ := Aside0.mk (below_step (by repeat with_reducible first | exact HB.out | apply pw_below_drewN | refine below_set ?_ GE305.out | refine below_set ?_ GE306.out | refine below_set ?_ GE307.out | refine below_set ?_ GE308.out | refine below_set ?_ GE316.out | apply below_drew1 | apply below_alloc) hb); clear HO_317000; clear HO_317001; clear BK305; clear BK306; clear BK307; clear BK308; clear BK316; clear HB; have HO_317000 := n0_; have HO_317001 := n1_; have BK305 := n2_; have BK306 := n3_; have BK307 := n4_; have BK308 := n5_; have BK316 := n6_; have HB := n7_; clear n0_ n1_ n2_ n3_ n4_ n5_ n6_ n7_; (try clear hb); (try clear hb2); (try clear hk); (try clear hi); have hnb212 := NB307_306.out; have hnc212 := NB306_307.out; have hnb213 := NB307_308.out; have hnc213 := NB308_307.out; have hnb214 := NB307_316.out; have hnc214 := NB316_307.out; have hcz215_0 := cz0 BK307.out; have hcz215_1 := cz1 BK307.out; have hcz215_2 := cz2 BK307.out; have hfz215_0 := blk_frozen BK307.out 0; have hfz215_1 := blk_frozen BK307.out 1; have hfz215_2 := blk_frozen BK307.out 2))
    have n0_ : Aside0 (Kd.R (Kd.int .i32) 21 (((w211.setCell ⟨gb307, 0, none⟩ (.int .i64 t335)).setCell ⟨gb307, 1, none⟩ (.int .i64 t336)).setCell ⟨gb307, 2, none⟩ (.bool t337)) w.heap.size (fun _ => True) v311 t310) := ⟨by (with_reducible repeat (first | apply Kd.R_alloc | apply Kd.R_drewN | apply Kd.R_drew)); exact Kd.R_mono (Kd.R_far (p := ⟨gb307, 2, none⟩) (Kd.R_far (p := ⟨gb307, 1, none⟩) (Kd.R_far (p := ⟨gb307, 0, none⟩) (Kd.R_types HO_317000.out BK307.out (by decide)) (fun _ hk => hk.2) (.int .i64 t335)) (fun _ hk => hk.2) (.int .i64 t336)) (fun _ hk => hk.2) (.bool t337)) (fun _ hk => trivial)⟩
    have n1_ : Aside0 (Kd.R (Kd.int .i64) 3 (((w211.setCell ⟨gb307, 0, none⟩ (.int .i64 t335)).setCell ⟨gb307, 1, none⟩ (.int .i64 t336)).setCell ⟨gb307, 2, none⟩ (.bool t337)) w.heap.size (fun _ => True) v314 t313) := ⟨by (with_reducible repeat (first | apply Kd.R_alloc | apply Kd.R_drewN | apply Kd.R_drew)); exact Kd.R_mono (Kd.R_far (p := ⟨gb307, 2, none⟩) (Kd.R_far (p := ⟨gb307, 1, none⟩) (Kd.R_far (p := ⟨gb307, 0, none⟩) (Kd.R_types HO_317001.out BK307.out (by decide)) (fun _ hk => hk.2) (.int .i64 t335)) (fun _ hk => hk.2) (.int .i64 t336)) (fun _ hk => hk.2) (.bool t337)) (fun _ hk => trivial)⟩
    have n2_ : Aside0 ((((w211.setCell ⟨gb307, 0, none⟩ (.int .i64 t335)).setCell ⟨gb307, 1, none⟩ (.int .i64 t336)).setCell ⟨gb307, 2, none⟩ (.bool t337)).heap[gb305]? = some (.cells #[.int .i64 a2_0, .int .i64 a2_1, .int .i64 a2_2, .int .i64 a2_3, .int .i64 a2_4, .int .i64 a2_5] 52 (0, 0))) := ⟨by (with_reducible repeat (first | refine blk_drewN ?_ _ | refine blk_drew ?_ | refine blk_alloc ?_ _)); refine blk_far ?_ NB305_307.out _; (with_reducible repeat (first | refine blk_drewN ?_ _ | refine blk_drew ?_ | refine blk_alloc ?_ _)); refine blk_far ?_ NB305_307.out _; (with_reducible repeat (first | refine blk_drewN ?_ _ | refine blk_drew ?_ | refine blk_alloc ?_ _)); refine blk_far ?_ NB305_307.out _; (with_reducible repeat (first | refine blk_drewN ?_ _ | refine blk_drew ?_ | refine blk_alloc ?_ _)); exact BK305.out⟩
    have n3_ : Aside0 ((((w211.setCell ⟨gb307, 0, none⟩ (.int .i64 t335)).setCell ⟨gb307, 1, none⟩ (.int .i64 t336)).setCell ⟨gb307, 2, none⟩ (.bool t337)).heap[gb306]? = some (.cells #[.int .i64 a3_0, .int .i64 a3_1] 31 (0, 0))) := ⟨by (with_reducible repeat (first | refine blk_drewN ?_ _ | refine blk_drew ?_ | refine blk_alloc ?_ _)); refine blk_far ?_ NB306_307.out _; (with_reducible repeat (first | refine blk_drewN ?_ _ | refine blk_drew ?_ | refine blk_alloc ?_ _)); refine blk_far ?_ NB306_307.out _; (with_reducible repeat (first | refine blk_drewN ?_ _ | refine blk_drew ?_ | refine blk_alloc ?_ _)); refine blk_far ?_ NB306_307.out _; (with_reducible repeat (first | refine blk_drewN ?_ _ | refine blk_drew ?_ | refine blk_alloc ?_ _)); exact BK306.out⟩
    have n4_ : Aside0 ((((w211.setCell ⟨gb307, 0, none⟩ (.int .i64 t335)).setCell ⟨gb307, 1, none⟩ (.int .i64 t336)).setCell ⟨gb307, 2, none⟩ (.bool t337)).heap[gb307]? = some (.cells #[.int .i64 t335, .int .i64 t336, .bool t337] 40 (0, 0))) := ⟨by (with_reducible repeat (first | refine blk_drewN ?_ _ | refine blk_drew ?_ | refine blk_alloc ?_ _)); refine blk_put (cs := #[.int .i64 t335, .int .i64 t336, .bool false]) ?_ 2 _ rfl; (with_reducible repeat (first | refine blk_drewN ?_ _ | refine blk_drew ?_ | refine blk_alloc ?_ _)); refine blk_put (cs := #[.int .i64 t335, .int .i64 0, .bool false]) ?_ 1 _ rfl; (with_reducible repeat (first | refine blk_drewN ?_ _ | refine blk_drew ?_ | refine blk_alloc ?_ _)); refine blk_put (cs := #[.int .i64 0, .int .i64 0, .bool false]) ?_ 0 _ rfl; (with_reducible repeat (first | refine blk_drewN ?_ _ | refine blk_drew ?_ | refine blk_alloc ?_ _)); exact BK307.out⟩
    have n5_ : Aside0 ((((w211.setCell ⟨gb307, 0, none⟩ (.int .i64 t335)).setCell ⟨gb307, 1, none⟩ (.int .i64 t336)).setCell ⟨gb307, 2, none⟩ (.bool t337)).heap[gb308]? = some (.cells #[.int .i64 0, .int .i64 0] 31 (0, 0))) := ⟨by (with_reducible repeat (first | refine blk_drewN ?_ _ | refine blk_drew ?_ | refine blk_alloc ?_ _)); refine blk_far ?_ NB308_307.out _; (with_reducible repeat (first | refine blk_drewN ?_ _ | refine blk_drew ?_ | refine blk_alloc ?_ _)); refine blk_far ?_ NB308_307.out _; (with_reducible repeat (first | refine blk_drewN ?_ _ | refine blk_drew ?_ | refine blk_alloc ?_ _)); refine blk_far ?_ NB308_307.out _; (with_reducible repeat (first | refine blk_drewN ?_ _ | refine blk_drew ?_ | refine blk_alloc ?_ _)); exact BK308.out⟩
    have n6_ : Aside0 ((((w211.setCell ⟨gb307, 0, none⟩ (.int .i64 t335)).setCell ⟨gb307, 1, none⟩ (.int .i64 t336)).setCell ⟨gb307, 2, none⟩ (.bool t337)).heap[gb316]? = some (.cells #[v311, v314] 79 (0, 0))) := ⟨by (with_reducible repeat (first | refine blk_drewN ?_ _ | refine blk_drew ?_ | refine blk_alloc ?_ _)); refine blk_far ?_ NB316_307.out _; (with_reducible repeat (first | refine blk_drewN ?_ _ | refine blk_drew ?_ | refine blk_alloc ?_ _)); refine blk_far ?_ NB316_307.out _; (with_reducible repeat (first | refine blk_drewN ?_ _ | refine blk_drew ?_ | refine blk_alloc ?_ _)); refine blk_far ?_ NB316_307.out _; (with_reducible repeat (first | refine blk_drewN ?_ _ | refine blk_drew ?_ | refine blk_alloc ?_ _)); exact BK316.out⟩
    have n7_ : Aside0 (Below w.heap.size w (((w211.setCell ⟨gb307, 0, none⟩ (.int .i64 t335)).setCell ⟨gb307, 1, none⟩ (.int .i64 t336)).setCell ⟨gb307, 2, none⟩ (.bool t337))) := ⟨by repeat with_reducible first | exact HB.out | apply pw_below_drewN | refine below_set ?_ GE305.out | refine below_set ?_ GE306.out | refine below_set ?_ GE307.out | refine below_set ?_ GE308.out | refine below_set ?_ GE316.out | apply below_drew1 | apply below_alloc⟩
    (try clear HO_317000)
    (try clear HO_317001)
    (try clear BK305)
    (try clear BK306)
    (try clear BK307)
    (try clear BK308)
    (try clear BK316)
    (try clear HB)
    generalize (((w211.setCell ⟨gb307, 0, none⟩ (.int .i64 t335)).setCell ⟨gb307, 1, none⟩ (.int .i64 t336)).setCell ⟨gb307, 2, none⟩ (.bool t337)) = w216 at n0_ n1_ n2_ n3_ n4_ n5_ n6_ n7_ ⊢
    have HO_317000 := n0_
    have HO_317001 := n1_
    have BK305 := n2_
    have BK306 := n3_
    have BK307 := n4_
    have BK308 := n5_
    have BK316 := n6_
    have HB := n7_
    clear n0_ n1_ n2_ n3_ n4_ n5_ n6_ n7_
    have n0_ := Aside0.mk (Kd.R_drew HO_317000.out)
    have n1_ := Aside0.mk (Kd.R_drew HO_317001.out)
    have n2_ := Aside0.mk (blk_drew BK305.out)
    have n3_ := Aside0.mk (blk_drew BK306.out)
    have n4_ := Aside0.mk (blk_drew BK307.out)
    have n5_ := Aside0.mk (blk_drew BK308.out)
    have n6_ := Aside0.mk (blk_drew BK316.out)
    have n7_ := Aside0.mk (below_drew1 HB.out)
    clear HO_317000
    clear HO_317001
    clear BK305
    clear BK306
    clear BK307
    clear BK308
    clear BK316
    clear HB
    have HO_317000 := n0_
    have HO_317001 := n1_
    have BK305 := n2_
    have BK306 := n3_
    have BK307 := n4_
    have BK308 := n5_
    have BK316 := n6_
    have HB := n7_
    clear n0_ n1_ n2_ n3_ n4_ n5_ n6_ n7_
    refine start_ (n := 6) (S := fun w' => w'.cell? ⟨gb307, 0, none⟩ = some (.int .i64 t335) ∧ w'.cell? ⟨gb307, 1, none⟩ = some (.int .i64 t336) ∧ w'.cell? ⟨gb307, 2, none⟩ = some (.bool t337) ∧ w'.cell? ⟨gb308, 0, none⟩ = some (.int .i64 0) ∧ w'.cell? ⟨gb308, 1, none⟩ = some (.int .i64 0)) (ds := []) (bs 6 0) (by kernel_rfl) rfl rfl ⟨(blk_cell BK307.out 0).trans rfl, (blk_cell BK307.out 1).trans rfl, (blk_cell BK307.out 2).trans rfl, (blk_cell BK308.out 0).trans rfl, (blk_cell BK308.out 1).trans rfl⟩ (fun hHeld => ?_)
    generalize w216.drew = w217 at HO_317000 HO_317001 BK305 BK306 BK307 BK308 BK316 HB hHeld ⊢
    refine pure_ (i := 2) (N := some 104) (v := ?_) (a' := ?_) (bs 6 4) rfl rfl (by kernel_rfl) (fun _ _ _ h => h) (Or.inl ⟨by rfl, ?_⟩) ?_ ?_
    rotate_left
    · intro w'; go_simp; with_reducible rfl
    rotate_left
    · simp only [Act.put, List.setIfInBounds_toArray, List.set_cons_zero, List.set_cons_succ, i64_w, i32_w]; rfl
    refine take_ (i := 0) (N := some 102) (v := ?_) (a' := ?_) (bs 6 5) rfl rfl (by kernel_rfl) (fun _ _ _ h => h) (Or.inl ⟨by rfl, ?_⟩) hHeld ?_ ?_
    rotate_left
    · rintro w' ⟨s0, s1, s2, s3, s4⟩; go_simp; with_reducible rfl
    rotate_left
    · simp only [Act.put, List.setIfInBounds_toArray, List.set_cons_zero, List.set_cons_succ, i64_w, i32_w]; rfl
    refine take_ (i := 1) (N := some 103) (v := ?_) (a' := ?_) (bs 6 7) rfl rfl (by kernel_rfl) (fun _ _ _ h => h) (Or.inl ⟨by rfl, ?_⟩) hHeld ?_ ?_
    rotate_left
    · rintro w' ⟨s0, s1, s2, s3, s4⟩; go_simp; with_reducible rfl
    rotate_left
    · simp only [Act.put, List.setIfInBounds_toArray, List.set_cons_zero, List.set_cons_succ, i64_w, i32_w]; rfl
    refine one_ (i := 3) (N := none) (bs 6 15) rfl rfl (by kernel_rfl) (by decide) (fun K hK => ?_)
    have hs218 := cz0 BK307.out
    have hfs218 := blk_frozen BK307.out 0
    have hns218_0 := NB305_307.out
    have hns218_1 := NB306_307.out
    have hns218_3 := NB308_307.out
    have hns218_4 := NB316_307.out
    have hms218_0 := NB307_305.out
    have hms218_1 := NB307_306.out
    have hms218_3 := NB307_308.out
    have hms218_4 := NB307_316.out
    have hs219 := cz1 BK307.out
    have hfs219 := blk_frozen BK307.out 1
    have hns219_0 := NB305_307.out
    have hns219_1 := NB306_307.out
    have hns219_3 := NB308_307.out
    have hns219_4 := NB316_307.out
    have hms219_0 := NB307_305.out
    have hms219_1 := NB307_306.out
    have hms219_3 := NB307_308.out
    have hms219_4 := NB307_316.out
    have hs220 := cz2 BK307.out
    have hfs220 := blk_frozen BK307.out 2
    have hns220_0 := NB305_307.out
    have hns220_1 := NB306_307.out
    have hns220_3 := NB308_307.out
    have hns220_4 := NB316_307.out
    have hms220_0 := NB307_305.out
    have hms220_1 := NB307_306.out
    have hms220_3 := NB307_308.out
    have hms220_4 := NB307_316.out
    refine skip_ (w1 := ?_) (by rfl) rfl ?_ ?_
    rotate_left
    ·
     go_simp
     rfl
    refine hK.out _ _ ⟨((cell_keep (((cell_keep (((cell_keep (hHeld.1) _).trans (hHeld.2.1))) _).trans (((cell_keep (hHeld.1) _).trans (hHeld.2.2.1))))) _).trans (((cell_keep (((cell_keep (hHeld.1) _).trans (hHeld.2.1))) _).trans (((cell_keep (hHeld.1) _).trans (hHeld.1)))))), ((cell_keep (((cell_keep (((cell_keep (hHeld.1) _).trans (hHeld.2.1))) _).trans (((cell_keep (hHeld.1) _).trans (hHeld.2.2.1))))) _).trans (((cell_keep (((cell_keep (hHeld.1) _).trans (hHeld.2.1))) _).trans (((cell_keep (hHeld.1) _).trans (hHeld.2.1)))))), ((cell_keep (((cell_keep (((cell_keep (hHeld.1) _).trans (hHeld.2.1))) _).trans (((cell_keep (hHeld.1) _).trans (hHeld.2.2.1))))) _).trans (((cell_keep (((cell_keep (hHeld.1) _).trans (hHeld.2.1))) _).trans (((cell_keep (hHeld.1) _).trans (hHeld.2.2.1)))))), ((cell_keep (((cell_keep (((cell_keep (hHeld.1) _).trans (hHeld.2.1))) _).trans (((cell_keep (hHeld.1) _).trans (hHeld.2.2.1))))) _).trans (((cell_keep (((cell_keep (hHeld.1) _).trans (hHeld.2.1))) _).trans (((cell_keep (hHeld.1) _).trans (hHeld.2.2.2.1)))))), ((cell_keep (((cell_keep (((cell_keep (hHeld.1) _).trans (hHeld.2.1))) _).trans (((cell_keep (hHeld.1) _).trans (hHeld.2.2.1))))) _).trans (((cell_keep (((cell_keep (hHeld.1) _).trans (hHeld.2.1))) _).trans (((cell_keep (hHeld.1) _).trans (hHeld.2.2.2.2))))))⟩ (fun hHeld => ?_)
    clear hK K
    refine one_ (i := 4) (N := none) (bs 6 31) rfl rfl (by kernel_rfl) (by decide) (fun K hK => ?_)
    have hs221 := cz0 BK308.out
    have hfs221 := blk_frozen BK308.out 0
    have hns221_0 := NB305_308.out
    have hns221_1 := NB306_308.out
    have hns221_2 := NB307_308.out
    have hns221_4 := NB316_308.out
    have hms221_0 := NB308_305.out
    have hms221_1 := NB308_306.out
    have hms221_2 := NB308_307.out
    have hms221_4 := NB308_316.out
    have hs222 := cz1 BK308.out
    have hfs222 := blk_frozen BK308.out 1
    have hns222_0 := NB305_308.out
    have hns222_1 := NB306_308.out
    have hns222_2 := NB307_308.out
    have hns222_4 := NB316_308.out
    have hms222_0 := NB308_305.out
    have hms222_1 := NB308_306.out
    have hms222_2 := NB308_307.out
    have hms222_4 := NB308_316.out
    refine skip_ (w1 := ?_) (by rfl) rfl ?_ ?_
    rotate_left
    ·
     go_simp
     rfl
    refine hK.out _ _ ⟨((cell_keep (((cell_keep (hHeld.2.2.2.1) _).trans (hHeld.2.2.2.2))) _).trans (((cell_keep (hHeld.2.2.2.1) _).trans (hHeld.1)))), ((cell_keep (((cell_keep (hHeld.2.2.2.1) _).trans (hHeld.2.2.2.2))) _).trans (((cell_keep (hHeld.2.2.2.1) _).trans (hHeld.2.1)))), ((cell_keep (((cell_keep (hHeld.2.2.2.1) _).trans (hHeld.2.2.2.2))) _).trans (((cell_keep (hHeld.2.2.2.1) _).trans (hHeld.2.2.1)))), ((cell_keep (((cell_keep (hHeld.2.2.2.1) _).trans (hHeld.2.2.2.2))) _).trans (((cell_keep (hHeld.2.2.2.1) _).trans (hHeld.2.2.2.1)))), ((cell_keep (((cell_keep (hHeld.2.2.2.1) _).trans (hHeld.2.2.2.2))) _).trans (((cell_keep (hHeld.2.2.2.1) _).trans (hHeld.2.2.2.2))))⟩ (fun hHeld => ?_)
    clear hK K
    refine pure_ (i := 5) (N := some 12) (v := ?_) (a' := ?_) (bs 6 63) rfl rfl (by kernel_rfl) (fun _ _ _ h => h) (Or.inl ⟨by rfl, ?_⟩) ?_ ?_
    rotate_left
    · intro w'; go_simp; with_reducible rfl
    rotate_left
    · simp only [Act.put, List.setIfInBounds_toArray, List.set_cons_zero, List.set_cons_succ, i64_w, i32_w]; rfl
    refine done_ (by kernel_rfl) ?_
    try go_wp2
    refine bodyPost_ret (results_list (rs := [.cell 10 40, .cell 11 31, .tmp 12]) rfl (by simp) (.cell gb307 40 #[.int .i64 t335, .int .i64 t336, .bool t337] (0, 0) _ rfl (by (with_reducible repeat (first | refine blk_drewN ?_ _ | refine blk_drew ?_ | refine blk_alloc ?_ _)); refine blk_far ?_ NB307_308.out _; (with_reducible repeat (first | refine blk_drewN ?_ _ | refine blk_drew ?_ | refine blk_alloc ?_ _)); refine blk_far ?_ NB307_308.out _; (with_reducible repeat (first | refine blk_drewN ?_ _ | refine blk_drew ?_ | refine blk_alloc ?_ _)); refine blk_put (cs := #[.int .i64 t335, .int .i64 t336, .bool t337]) ?_ 2 _ rfl; (with_reducible repeat (first | refine blk_drewN ?_ _ | refine blk_drew ?_ | refine blk_alloc ?_ _)); refine blk_put (cs := #[.int .i64 t335, .int .i64 t336, .bool t337]) ?_ 1 _ rfl; (with_reducible repeat (first | refine blk_drewN ?_ _ | refine blk_drew ?_ | refine blk_alloc ?_ _)); refine blk_put (cs := #[.int .i64 t335, .int .i64 t336, .bool t337]) ?_ 0 _ rfl; (with_reducible repeat (first | refine blk_drewN ?_ _ | refine blk_drew ?_ | refine blk_alloc ?_ _)); exact BK307.out) Tryd.underlying40 rfl (by kernel_rfl) (.cell gb308 31 #[.int .i64 0, .int .i64 0] (0, 0) _ rfl (by (with_reducible repeat (first | refine blk_drewN ?_ _ | refine blk_drew ?_ | refine blk_alloc ?_ _)); refine blk_put (cs := #[.int .i64 0, .int .i64 0]) ?_ 1 _ rfl; (with_reducible repeat (first | refine blk_drewN ?_ _ | refine blk_drew ?_ | refine blk_alloc ?_ _)); refine blk_put (cs := #[.int .i64 0, .int .i64 0]) ?_ 0 _ rfl; (with_reducible repeat (first | refine blk_drewN ?_ _ | refine blk_drew ?_ | refine blk_alloc ?_ _)); refine blk_far ?_ NB308_307.out _; (with_reducible repeat (first | refine blk_drewN ?_ _ | refine blk_drew ?_ | refine blk_alloc ?_ _)); refine blk_far ?_ NB308_307.out _; (with_reducible repeat (first | refine blk_drewN ?_ _ | refine blk_drew ?_ | refine blk_alloc ?_ _)); refine blk_far ?_ NB308_307.out _; (with_reducible repeat (first | refine blk_drewN ?_ _ | refine blk_drew ?_ | refine blk_alloc ?_ _)); exact BK308.out) Tryd.underlying31 rfl (by kernel_rfl) (.tmp .nil)))) rfl ?_
    exact ⟨by first | rfl | (simp [errW_none, errW_some] <;> rfl) | (simp only [← hji186]; first | rfl | (simp [errW_none, errW_some] <;> rfl)) | (simp [*, errW_none, errW_some] <;> rfl), by repeat with_reducible first | exact HB.out | apply pw_below_drewN | refine below_set ?_ GE305.out | refine below_set ?_ GE306.out | refine below_set ?_ GE307.out | refine below_set ?_ GE308.out | refine below_set ?_ GE316.out | apply below_drew1 | apply below_alloc⟩
   rw [if_pos c82] at H
   have c82b0 : (a2_4 == 0) = true := beq_iff_eq.mpr c82
   have c82b1 : (a2_4 != 0) = false := bne_eq_false_iff_eq.mpr c82
   clear c82
   by_cases c83 : a2_3 = a2_2
   ·
    rw [if_pos c83] at H
    have c83b0 : (a2_3 == a2_2) = true := beq_iff_eq.mpr c83
    have c83b1 : (a2_3 != a2_2) = false := bne_eq_false_iff_eq.mpr c83
    clear c83
    obtain ⟨ji84, hji84⟩ : ∃ j_ : Int, (mx 1 a2_1) = j_ := ⟨_, rfl⟩
    replace H : ((region_rows.f t310 t313 a1 (ji84)).bind fun bt322 => (if bt322.2.2.2 = 0 then (some (bt322.1, bt322.2.1, bt322.2.2.1, a3_0, a3_1, 0)) else (some (bt322.1, bt322.2.1, bt322.2.2.1, 0, 0, bt322.2.2.2)))) = some (r1, r2, r3, r4, r5, r6) := by first | (rw [hji84] at H; exact H) | (simp only [hji84] at H ⊢; exact H)
    (try (have hji84l : 1 ≤ ji84 := by (rw [← hji84]; unfold mx; (repeat' split) <;> omega)))
    (try (have hji84m : 0 ≤ ji84 := by omega))
    have hji84_ : (if 1 < a2_1 then a2_1 else 1) = ji84 := hji84
    replace H := Option.bind_eq_some_iff.mp H
    obtain ⟨⟨t322, t323, t324, t325⟩, A850, H⟩ := H
    (try dsimp only at H)
    have A85 := Aside0.mk A850
    clear A850
    by_cases c86 : t325 = 0
    ·
     rw [if_pos c86] at H
     have c86b0 : (t325 == 0) = true := beq_iff_eq.mpr c86
     have c86b1 : (t325 != 0) = false := bne_eq_false_iff_eq.mpr c86
     clear c86
     simp only [Option.some.injEq, Prod.mk.injEq] at H
     obtain ⟨rfl, rfl, rfl, rfl, rfl, rfl⟩ := H
     have hnb87 := NB305_306.out
     have hnc87 := NB306_305.out
     have hnb88 := NB305_307.out
     have hnc88 := NB307_305.out
     have hnb89 := NB305_308.out
     have hnc89 := NB308_305.out
     have hnb90 := NB305_316.out
     have hnc90 := NB316_305.out
     have hcz91_0 := cz0 BK305.out
     have hcz91_1 := cz1 BK305.out
     have hcz91_2 := cz2 BK305.out
     have hcz91_3 := cz3 BK305.out
     have hcz91_4 := cz4 BK305.out
     have hcz91_5 := cz5 BK305.out
     have hfz91_0 := blk_frozen BK305.out 0
     have hfz91_1 := blk_frozen BK305.out 1
     have hfz91_2 := blk_frozen BK305.out 2
     have hfz91_3 := blk_frozen BK305.out 3
     have hfz91_4 := blk_frozen BK305.out 4
     have hfz91_5 := blk_frozen BK305.out 5
     obtain ⟨Ao92, co92, eo92⟩ := Kd.R_slice HO_317000.out
     subst eo92
     obtain ⟨Ao93, co93, eo93⟩ := Kd.R_slice HO_317001.out
     subst eo93
     try go_wp2_with (first | ((with_reducible refine gate_callee (f := 54) rfl ?_); refine goesL_ (some 97) rfl rfl Tryd.func54 (by kernel_rfl) rfl #[.pointer (some ⟨gb316, 0, none⟩), .int .i64 a1, .int .i64 ji84] rfl (by (try simp only [List.map_toArray, List.map_cons, List.map_nil]); first | done | (simp only [hji84]; rfl) | rfl | (simp only [List.length_drop, List.length_take]; rfl)) ?_; (with_reducible refine (region_rows.calls gb316 Ao92 co92 t310 Ao93 co93 t313 a1 ji84 t322 t323 t324 t325 _ ?side1 ?side2 ?side3 ?side4 ?side5 A85.out).mono ?_); (case side1 => exact BK316.out); (case side2 => repeat (first | exact (Kd.R_reads' HO_317000.out).2.2 | with_reducible first | refine Kd.C_drewN ?_ _ | refine Kd.C_drew ?_ | refine Kd.C_alloc ?_ _)); (case side3 => exact (Kd.R_reads' HO_317000.out).2.1); (case side4 => repeat (first | exact (Kd.R_reads' HO_317001.out).2.2 | with_reducible first | refine Kd.C_drewN ?_ _ | refine Kd.C_drew ?_ | refine Kd.C_alloc ?_ _)); (case side5 => exact (Kd.R_reads' HO_317001.out).2.1); rintro e w94 ⟨rfl, hb⟩; refine ⟨_, rfl, ?_⟩; have n0_ := Aside0.mk (Kd.R_below (by (with_reducible repeat (first | apply Kd.R_alloc | apply Kd.R_drewN | apply Kd.R_drew)); exact HO_317000.out) hb); have n1_ := Aside0.mk (Kd.R_below (by (with_reducible repeat (first | apply Kd.R_alloc | apply Kd.R_drewN | apply Kd.R_drew)); exact HO_317001.out) hb); have n2_ := Aside0.mk (blb hb BK305.out); have n3_ := Aside0.mk (blb hb BK306.out); have n4_ := Aside0.mk (blb hb BK307.out); have n5_ := Aside0.mk (blb hb BK308.out); have n6_ := Aside0.mk (blb hb BK316.out); have n7_ := Aside0.mk (below_step (by repeat with_reducible first | exact HB.out | apply pw_below_drewN | refine below_set ?_ GE305.out | refine below_set ?_ GE306.out | refine below_set ?_ GE307.out | refine below_set ?_ GE308.out | refine below_set ?_ GE316.out | apply below_drew1 | apply below_alloc) hb); clear HO_317000; clear HO_317001; clear BK305; clear BK306; clear BK307; clear BK308; clear BK316; clear HB; have HO_317000 := n0_; have HO_317001 := n1_; have BK305 := n2_; have BK306 := n3_; have BK307 := n4_; have BK308 := n5_; have BK316 := n6_; have HB := n7_; clear n0_ n1_ n2_ n3_ n4_ n5_ n6_ n7_; (try clear hb); (try clear hb2); (try clear hk); (try clear hi); have hnb95 := NB307_306.out; have hnc95 := NB306_307.out; have hnb96 := NB307_308.out; have hnc96 := NB308_307.out; have hnb97 := NB307_316.out; have hnc97 := NB316_307.out; have hcz98_0 := cz0 BK307.out; have hcz98_1 := cz1 BK307.out; have hcz98_2 := cz2 BK307.out; have hfz98_0 := blk_frozen BK307.out 0; have hfz98_1 := blk_frozen BK307.out 1; have hfz98_2 := blk_frozen BK307.out 2))
     have n0_ : Aside0 (Kd.R (Kd.int .i32) 21 (((w94.setCell ⟨gb307, 0, none⟩ (.int .i64 t322)).setCell ⟨gb307, 1, none⟩ (.int .i64 t323)).setCell ⟨gb307, 2, none⟩ (.bool t324)) w.heap.size (fun _ => True) (.slice Ao92 t310.length co92) t310) := ⟨by (with_reducible repeat (first | apply Kd.R_alloc | apply Kd.R_drewN | apply Kd.R_drew)); exact Kd.R_mono (Kd.R_far (p := ⟨gb307, 2, none⟩) (Kd.R_far (p := ⟨gb307, 1, none⟩) (Kd.R_far (p := ⟨gb307, 0, none⟩) (Kd.R_types HO_317000.out BK307.out (by decide)) (fun _ hk => hk.2) (.int .i64 t322)) (fun _ hk => hk.2) (.int .i64 t323)) (fun _ hk => hk.2) (.bool t324)) (fun _ hk => trivial)⟩
     have n1_ : Aside0 (Kd.R (Kd.int .i64) 3 (((w94.setCell ⟨gb307, 0, none⟩ (.int .i64 t322)).setCell ⟨gb307, 1, none⟩ (.int .i64 t323)).setCell ⟨gb307, 2, none⟩ (.bool t324)) w.heap.size (fun _ => True) (.slice Ao93 t313.length co93) t313) := ⟨by (with_reducible repeat (first | apply Kd.R_alloc | apply Kd.R_drewN | apply Kd.R_drew)); exact Kd.R_mono (Kd.R_far (p := ⟨gb307, 2, none⟩) (Kd.R_far (p := ⟨gb307, 1, none⟩) (Kd.R_far (p := ⟨gb307, 0, none⟩) (Kd.R_types HO_317001.out BK307.out (by decide)) (fun _ hk => hk.2) (.int .i64 t322)) (fun _ hk => hk.2) (.int .i64 t323)) (fun _ hk => hk.2) (.bool t324)) (fun _ hk => trivial)⟩
     have n2_ : Aside0 ((((w94.setCell ⟨gb307, 0, none⟩ (.int .i64 t322)).setCell ⟨gb307, 1, none⟩ (.int .i64 t323)).setCell ⟨gb307, 2, none⟩ (.bool t324)).heap[gb305]? = some (.cells #[.int .i64 a2_0, .int .i64 a2_1, .int .i64 a2_2, .int .i64 a2_3, .int .i64 a2_4, .int .i64 a2_5] 52 (0, 0))) := ⟨by (with_reducible repeat (first | refine blk_drewN ?_ _ | refine blk_drew ?_ | refine blk_alloc ?_ _)); refine blk_far ?_ NB305_307.out _; (with_reducible repeat (first | refine blk_drewN ?_ _ | refine blk_drew ?_ | refine blk_alloc ?_ _)); refine blk_far ?_ NB305_307.out _; (with_reducible repeat (first | refine blk_drewN ?_ _ | refine blk_drew ?_ | refine blk_alloc ?_ _)); refine blk_far ?_ NB305_307.out _; (with_reducible repeat (first | refine blk_drewN ?_ _ | refine blk_drew ?_ | refine blk_alloc ?_ _)); exact BK305.out⟩
     have n3_ : Aside0 ((((w94.setCell ⟨gb307, 0, none⟩ (.int .i64 t322)).setCell ⟨gb307, 1, none⟩ (.int .i64 t323)).setCell ⟨gb307, 2, none⟩ (.bool t324)).heap[gb306]? = some (.cells #[.int .i64 a3_0, .int .i64 a3_1] 31 (0, 0))) := ⟨by (with_reducible repeat (first | refine blk_drewN ?_ _ | refine blk_drew ?_ | refine blk_alloc ?_ _)); refine blk_far ?_ NB306_307.out _; (with_reducible repeat (first | refine blk_drewN ?_ _ | refine blk_drew ?_ | refine blk_alloc ?_ _)); refine blk_far ?_ NB306_307.out _; (with_reducible repeat (first | refine blk_drewN ?_ _ | refine blk_drew ?_ | refine blk_alloc ?_ _)); refine blk_far ?_ NB306_307.out _; (with_reducible repeat (first | refine blk_drewN ?_ _ | refine blk_drew ?_ | refine blk_alloc ?_ _)); exact BK306.out⟩
     have n4_ : Aside0 ((((w94.setCell ⟨gb307, 0, none⟩ (.int .i64 t322)).setCell ⟨gb307, 1, none⟩ (.int .i64 t323)).setCell ⟨gb307, 2, none⟩ (.bool t324)).heap[gb307]? = some (.cells #[.int .i64 t322, .int .i64 t323, .bool t324] 40 (0, 0))) := ⟨by (with_reducible repeat (first | refine blk_drewN ?_ _ | refine blk_drew ?_ | refine blk_alloc ?_ _)); refine blk_put (cs := #[.int .i64 t322, .int .i64 t323, .bool false]) ?_ 2 _ rfl; (with_reducible repeat (first | refine blk_drewN ?_ _ | refine blk_drew ?_ | refine blk_alloc ?_ _)); refine blk_put (cs := #[.int .i64 t322, .int .i64 0, .bool false]) ?_ 1 _ rfl; (with_reducible repeat (first | refine blk_drewN ?_ _ | refine blk_drew ?_ | refine blk_alloc ?_ _)); refine blk_put (cs := #[.int .i64 0, .int .i64 0, .bool false]) ?_ 0 _ rfl; (with_reducible repeat (first | refine blk_drewN ?_ _ | refine blk_drew ?_ | refine blk_alloc ?_ _)); exact BK307.out⟩
     have n5_ : Aside0 ((((w94.setCell ⟨gb307, 0, none⟩ (.int .i64 t322)).setCell ⟨gb307, 1, none⟩ (.int .i64 t323)).setCell ⟨gb307, 2, none⟩ (.bool t324)).heap[gb308]? = some (.cells #[.int .i64 0, .int .i64 0] 31 (0, 0))) := ⟨by (with_reducible repeat (first | refine blk_drewN ?_ _ | refine blk_drew ?_ | refine blk_alloc ?_ _)); refine blk_far ?_ NB308_307.out _; (with_reducible repeat (first | refine blk_drewN ?_ _ | refine blk_drew ?_ | refine blk_alloc ?_ _)); refine blk_far ?_ NB308_307.out _; (with_reducible repeat (first | refine blk_drewN ?_ _ | refine blk_drew ?_ | refine blk_alloc ?_ _)); refine blk_far ?_ NB308_307.out _; (with_reducible repeat (first | refine blk_drewN ?_ _ | refine blk_drew ?_ | refine blk_alloc ?_ _)); exact BK308.out⟩
     have n6_ : Aside0 ((((w94.setCell ⟨gb307, 0, none⟩ (.int .i64 t322)).setCell ⟨gb307, 1, none⟩ (.int .i64 t323)).setCell ⟨gb307, 2, none⟩ (.bool t324)).heap[gb316]? = some (.cells #[.slice Ao92 t310.length co92, .slice Ao93 t313.length co93] 79 (0, 0))) := ⟨by (with_reducible repeat (first | refine blk_drewN ?_ _ | refine blk_drew ?_ | refine blk_alloc ?_ _)); refine blk_far ?_ NB316_307.out _; (with_reducible repeat (first | refine blk_drewN ?_ _ | refine blk_drew ?_ | refine blk_alloc ?_ _)); refine blk_far ?_ NB316_307.out _; (with_reducible repeat (first | refine blk_drewN ?_ _ | refine blk_drew ?_ | refine blk_alloc ?_ _)); refine blk_far ?_ NB316_307.out _; (with_reducible repeat (first | refine blk_drewN ?_ _ | refine blk_drew ?_ | refine blk_alloc ?_ _)); exact BK316.out⟩
     have n7_ : Aside0 (Below w.heap.size w (((w94.setCell ⟨gb307, 0, none⟩ (.int .i64 t322)).setCell ⟨gb307, 1, none⟩ (.int .i64 t323)).setCell ⟨gb307, 2, none⟩ (.bool t324))) := ⟨by repeat with_reducible first | exact HB.out | apply pw_below_drewN | refine below_set ?_ GE305.out | refine below_set ?_ GE306.out | refine below_set ?_ GE307.out | refine below_set ?_ GE308.out | refine below_set ?_ GE316.out | apply below_drew1 | apply below_alloc⟩
     (try clear HO_317000)
     (try clear HO_317001)
     (try clear BK305)
     (try clear BK306)
     (try clear BK307)
     (try clear BK308)
     (try clear BK316)
     (try clear HB)
     generalize (((w94.setCell ⟨gb307, 0, none⟩ (.int .i64 t322)).setCell ⟨gb307, 1, none⟩ (.int .i64 t323)).setCell ⟨gb307, 2, none⟩ (.bool t324)) = w99 at n0_ n1_ n2_ n3_ n4_ n5_ n6_ n7_ ⊢
     have HO_317000 := n0_
     have HO_317001 := n1_
     have BK305 := n2_
     have BK306 := n3_
     have BK307 := n4_
     have BK308 := n5_
     have BK316 := n6_
     have HB := n7_
     clear n0_ n1_ n2_ n3_ n4_ n5_ n6_ n7_
     have n0_ := Aside0.mk (Kd.R_drew HO_317000.out)
     have n1_ := Aside0.mk (Kd.R_drew HO_317001.out)
     have n2_ := Aside0.mk (blk_drew BK305.out)
     have n3_ := Aside0.mk (blk_drew BK306.out)
     have n4_ := Aside0.mk (blk_drew BK307.out)
     have n5_ := Aside0.mk (blk_drew BK308.out)
     have n6_ := Aside0.mk (blk_drew BK316.out)
     have n7_ := Aside0.mk (below_drew1 HB.out)
     clear HO_317000
     clear HO_317001
     clear BK305
     clear BK306
     clear BK307
     clear BK308
     clear BK316
     clear HB
     have HO_317000 := n0_
     have HO_317001 := n1_
     have BK305 := n2_
     have BK306 := n3_
     have BK307 := n4_
     have BK308 := n5_
     have BK316 := n6_
     have HB := n7_
     clear n0_ n1_ n2_ n3_ n4_ n5_ n6_ n7_
     refine start_ (n := 5) (S := fun w' => w'.cell? ⟨gb307, 0, none⟩ = some (.int .i64 t322) ∧ w'.cell? ⟨gb307, 1, none⟩ = some (.int .i64 t323) ∧ w'.cell? ⟨gb307, 2, none⟩ = some (.bool t324) ∧ w'.cell? ⟨gb306, 0, none⟩ = some (.int .i64 a3_0) ∧ w'.cell? ⟨gb306, 1, none⟩ = some (.int .i64 a3_1)) (ds := []) (bs 5 0) (by kernel_rfl) rfl rfl ⟨(blk_cell BK307.out 0).trans rfl, (blk_cell BK307.out 1).trans rfl, (blk_cell BK307.out 2).trans rfl, (blk_cell BK306.out 0).trans rfl, (blk_cell BK306.out 1).trans rfl⟩ (fun hHeld => ?_)
     generalize w99.drew = w100 at HO_317000 HO_317001 BK305 BK306 BK307 BK308 BK316 HB hHeld ⊢
     refine take_ (i := 0) (N := some 105) (v := ?_) (a' := ?_) (bs 5 1) rfl rfl (by kernel_rfl) (fun _ _ _ h => h) (Or.inl ⟨by rfl, ?_⟩) hHeld ?_ ?_
     rotate_left
     · rintro w' ⟨s0, s1, s2, s3, s4⟩; go_simp; with_reducible rfl
     rotate_left
     · simp only [Act.put, List.setIfInBounds_toArray, List.set_cons_zero, List.set_cons_succ, i64_w, i32_w]; rfl
     refine take_ (i := 1) (N := some 106) (v := ?_) (a' := ?_) (bs 5 3) rfl rfl (by kernel_rfl) (fun _ _ _ h => h) (Or.inl ⟨by rfl, ?_⟩) hHeld ?_ ?_
     rotate_left
     · rintro w' ⟨s0, s1, s2, s3, s4⟩; go_simp; with_reducible rfl
     rotate_left
     · simp only [Act.put, List.setIfInBounds_toArray, List.set_cons_zero, List.set_cons_succ, i64_w, i32_w]; rfl
     refine one_ (i := 2) (N := none) (bs 5 7) rfl rfl (by kernel_rfl) (by decide) (fun K hK => ?_)
     have hs101 := cz0 BK307.out
     have hfs101 := blk_frozen BK307.out 0
     have hns101_0 := NB305_307.out
     have hns101_1 := NB306_307.out
     have hns101_3 := NB308_307.out
     have hns101_4 := NB316_307.out
     have hms101_0 := NB307_305.out
     have hms101_1 := NB307_306.out
     have hms101_3 := NB307_308.out
     have hms101_4 := NB307_316.out
     have hs102 := cz1 BK307.out
     have hfs102 := blk_frozen BK307.out 1
     have hns102_0 := NB305_307.out
     have hns102_1 := NB306_307.out
     have hns102_3 := NB308_307.out
     have hns102_4 := NB316_307.out
     have hms102_0 := NB307_305.out
     have hms102_1 := NB307_306.out
     have hms102_3 := NB307_308.out
     have hms102_4 := NB307_316.out
     have hs103 := cz2 BK307.out
     have hfs103 := blk_frozen BK307.out 2
     have hns103_0 := NB305_307.out
     have hns103_1 := NB306_307.out
     have hns103_3 := NB308_307.out
     have hns103_4 := NB316_307.out
     have hms103_0 := NB307_305.out
     have hms103_1 := NB307_306.out
     have hms103_3 := NB307_308.out
     have hms103_4 := NB307_316.out
     refine skip_ (w1 := ?_) (by rfl) rfl ?_ ?_
     rotate_left
     ·
      go_simp
      rfl
     refine hK.out _ _ ⟨((cell_keep (((cell_keep (((cell_keep (hHeld.1) _).trans (hHeld.2.1))) _).trans (((cell_keep (hHeld.1) _).trans (hHeld.2.2.1))))) _).trans (((cell_keep (((cell_keep (hHeld.1) _).trans (hHeld.2.1))) _).trans (((cell_keep (hHeld.1) _).trans (hHeld.1)))))), ((cell_keep (((cell_keep (((cell_keep (hHeld.1) _).trans (hHeld.2.1))) _).trans (((cell_keep (hHeld.1) _).trans (hHeld.2.2.1))))) _).trans (((cell_keep (((cell_keep (hHeld.1) _).trans (hHeld.2.1))) _).trans (((cell_keep (hHeld.1) _).trans (hHeld.2.1)))))), ((cell_keep (((cell_keep (((cell_keep (hHeld.1) _).trans (hHeld.2.1))) _).trans (((cell_keep (hHeld.1) _).trans (hHeld.2.2.1))))) _).trans (((cell_keep (((cell_keep (hHeld.1) _).trans (hHeld.2.1))) _).trans (((cell_keep (hHeld.1) _).trans (hHeld.2.2.1)))))), ((cell_keep (((cell_keep (((cell_keep (hHeld.1) _).trans (hHeld.2.1))) _).trans (((cell_keep (hHeld.1) _).trans (hHeld.2.2.1))))) _).trans (((cell_keep (((cell_keep (hHeld.1) _).trans (hHeld.2.1))) _).trans (((cell_keep (hHeld.1) _).trans (hHeld.2.2.2.1)))))), ((cell_keep (((cell_keep (((cell_keep (hHeld.1) _).trans (hHeld.2.1))) _).trans (((cell_keep (hHeld.1) _).trans (hHeld.2.2.1))))) _).trans (((cell_keep (((cell_keep (hHeld.1) _).trans (hHeld.2.1))) _).trans (((cell_keep (hHeld.1) _).trans (hHeld.2.2.2.2))))))⟩ (fun hHeld => ?_)
     clear hK K
     refine one_ (i := 3) (N := none) (bs 5 15) rfl rfl (by kernel_rfl) (by decide) (fun K hK => ?_)
     have hs104 := cz0 BK308.out
     have hfs104 := blk_frozen BK308.out 0
     have hns104_0 := NB305_308.out
     have hns104_1 := NB306_308.out
     have hns104_2 := NB307_308.out
     have hns104_4 := NB316_308.out
     have hms104_0 := NB308_305.out
     have hms104_1 := NB308_306.out
     have hms104_2 := NB308_307.out
     have hms104_4 := NB308_316.out
     have hs105 := cz1 BK308.out
     have hfs105 := blk_frozen BK308.out 1
     have hns105_0 := NB305_308.out
     have hns105_1 := NB306_308.out
     have hns105_2 := NB307_308.out
     have hns105_4 := NB316_308.out
     have hms105_0 := NB308_305.out
     have hms105_1 := NB308_306.out
     have hms105_2 := NB308_307.out
     have hms105_4 := NB308_316.out
     refine skip_ (w1 := ?_) (by rfl) rfl ?_ ?_
     rotate_left
     ·
      go_simp
      rfl
     refine hK.out _ _ ⟨((cell_far (p := ⟨gb308, _, none⟩) NB307_308.out _).trans (((cell_far (p := ⟨gb308, _, none⟩) NB307_308.out _).trans (hHeld.1)))), ((cell_far (p := ⟨gb308, _, none⟩) NB307_308.out _).trans (((cell_far (p := ⟨gb308, _, none⟩) NB307_308.out _).trans (hHeld.2.1)))), ((cell_far (p := ⟨gb308, _, none⟩) NB307_308.out _).trans (((cell_far (p := ⟨gb308, _, none⟩) NB307_308.out _).trans (hHeld.2.2.1)))), ((cell_far (p := ⟨gb308, _, none⟩) NB306_308.out _).trans (((cell_far (p := ⟨gb308, _, none⟩) NB306_308.out _).trans (hHeld.2.2.2.1)))), ((cell_far (p := ⟨gb308, _, none⟩) NB306_308.out _).trans (((cell_far (p := ⟨gb308, _, none⟩) NB306_308.out _).trans (hHeld.2.2.2.2))))⟩ (fun hHeld => ?_)
     clear hK K
     refine pure_ (i := 4) (N := some 12) (v := ?_) (a' := ?_) (bs 5 31) rfl rfl (by kernel_rfl) (fun _ _ _ h => h) (Or.inl ⟨by rfl, ?_⟩) ?_ ?_
     rotate_left
     · intro w'; go_simp; with_reducible rfl
     rotate_left
     · simp only [Act.put, List.setIfInBounds_toArray, List.set_cons_zero, List.set_cons_succ, i64_w, i32_w]; rfl
     refine done_ (by kernel_rfl) ?_
     try go_wp2
     refine bodyPost_ret (results_list (rs := [.cell 10 40, .cell 11 31, .tmp 12]) rfl (by simp) (.cell gb307 40 #[.int .i64 t322, .int .i64 t323, .bool t324] (0, 0) _ rfl (by (with_reducible repeat (first | refine blk_drewN ?_ _ | refine blk_drew ?_ | refine blk_alloc ?_ _)); refine blk_far ?_ NB307_308.out _; (with_reducible repeat (first | refine blk_drewN ?_ _ | refine blk_drew ?_ | refine blk_alloc ?_ _)); refine blk_far ?_ NB307_308.out _; (with_reducible repeat (first | refine blk_drewN ?_ _ | refine blk_drew ?_ | refine blk_alloc ?_ _)); refine blk_put (cs := #[.int .i64 t322, .int .i64 t323, .bool t324]) ?_ 2 _ rfl; (with_reducible repeat (first | refine blk_drewN ?_ _ | refine blk_drew ?_ | refine blk_alloc ?_ _)); refine blk_put (cs := #[.int .i64 t322, .int .i64 t323, .bool t324]) ?_ 1 _ rfl; (with_reducible repeat (first | refine blk_drewN ?_ _ | refine blk_drew ?_ | refine blk_alloc ?_ _)); refine blk_put (cs := #[.int .i64 t322, .int .i64 t323, .bool t324]) ?_ 0 _ rfl; (with_reducible repeat (first | refine blk_drewN ?_ _ | refine blk_drew ?_ | refine blk_alloc ?_ _)); exact BK307.out) Tryd.underlying40 rfl (by kernel_rfl) (.cell gb308 31 #[.int .i64 a3_0, .int .i64 a3_1] (0, 0) _ rfl (by (with_reducible repeat (first | refine blk_drewN ?_ _ | refine blk_drew ?_ | refine blk_alloc ?_ _)); refine blk_put (cs := #[.int .i64 a3_0, .int .i64 0]) ?_ 1 _ rfl; (with_reducible repeat (first | refine blk_drewN ?_ _ | refine blk_drew ?_ | refine blk_alloc ?_ _)); refine blk_put (cs := #[.int .i64 0, .int .i64 0]) ?_ 0 _ rfl; (with_reducible repeat (first | refine blk_drewN ?_ _ | refine blk_drew ?_ | refine blk_alloc ?_ _)); refine blk_far ?_ NB308_307.out _; (with_reducible repeat (first | refine blk_drewN ?_ _ | refine blk_drew ?_ | refine blk_alloc ?_ _)); refine blk_far ?_ NB308_307.out _; (with_reducible repeat (first | refine blk_drewN ?_ _ | refine blk_drew ?_ | refine blk_alloc ?_ _)); refine blk_far ?_ NB308_307.out _; (with_reducible repeat (first | refine blk_drewN ?_ _ | refine blk_drew ?_ | refine blk_alloc ?_ _)); exact BK308.out) Tryd.underlying31 rfl (by kernel_rfl) (.tmp .nil)))) rfl ?_
     exact ⟨by first | rfl | (simp [errW_none, errW_some] <;> rfl) | (simp only [← hji84]; first | rfl | (simp [errW_none, errW_some] <;> rfl)) | (simp [*, errW_none, errW_some] <;> rfl), by repeat with_reducible first | exact HB.out | apply pw_below_drewN | refine below_set ?_ GE305.out | refine below_set ?_ GE306.out | refine below_set ?_ GE307.out | refine below_set ?_ GE308.out | refine below_set ?_ GE316.out | apply below_drew1 | apply below_alloc⟩
    rw [if_neg c86] at H
    have c86b0 : (t325 == 0) = false := beq_eq_false_iff_ne.mpr c86
    have c86b1 : (t325 != 0) = true := bne_iff_ne.mpr c86
    simp only [Option.some.injEq, Prod.mk.injEq] at H
    obtain ⟨rfl, rfl, rfl, rfl, rfl, rfl⟩ := H
    have hnb106 := NB305_306.out
    have hnc106 := NB306_305.out
    have hnb107 := NB305_307.out
    have hnc107 := NB307_305.out
    have hnb108 := NB305_308.out
    have hnc108 := NB308_305.out
    have hnb109 := NB305_316.out
    have hnc109 := NB316_305.out
    have hcz110_0 := cz0 BK305.out
    have hcz110_1 := cz1 BK305.out
    have hcz110_2 := cz2 BK305.out
    have hcz110_3 := cz3 BK305.out
    have hcz110_4 := cz4 BK305.out
    have hcz110_5 := cz5 BK305.out
    have hfz110_0 := blk_frozen BK305.out 0
    have hfz110_1 := blk_frozen BK305.out 1
    have hfz110_2 := blk_frozen BK305.out 2
    have hfz110_3 := blk_frozen BK305.out 3
    have hfz110_4 := blk_frozen BK305.out 4
    have hfz110_5 := blk_frozen BK305.out 5
    obtain ⟨Ao111, co111, eo111⟩ := Kd.R_slice HO_317000.out
    subst eo111
    obtain ⟨Ao112, co112, eo112⟩ := Kd.R_slice HO_317001.out
    subst eo112
    try go_wp2_with (first | ((with_reducible refine gate_callee (f := 54) rfl ?_); refine goesL_ (some 97) rfl rfl Tryd.func54 (by kernel_rfl) rfl #[.pointer (some ⟨gb316, 0, none⟩), .int .i64 a1, .int .i64 ji84] rfl (by (try simp only [List.map_toArray, List.map_cons, List.map_nil]); first | done | (simp only [hji84]; rfl) | rfl | (simp only [List.length_drop, List.length_take]; rfl)) ?_; (with_reducible refine (region_rows.calls gb316 Ao111 co111 t310 Ao112 co112 t313 a1 ji84 t322 t323 t324 t325 _ ?side1 ?side2 ?side3 ?side4 ?side5 A85.out).mono ?_); (case side1 => exact BK316.out); (case side2 => repeat (first | exact (Kd.R_reads' HO_317000.out).2.2 | with_reducible first | refine Kd.C_drewN ?_ _ | refine Kd.C_drew ?_ | refine Kd.C_alloc ?_ _)); (case side3 => exact (Kd.R_reads' HO_317000.out).2.1); (case side4 => repeat (first | exact (Kd.R_reads' HO_317001.out).2.2 | with_reducible first | refine Kd.C_drewN ?_ _ | refine Kd.C_drew ?_ | refine Kd.C_alloc ?_ _)); (case side5 => exact (Kd.R_reads' HO_317001.out).2.1); rintro e w113 ⟨rfl, hb⟩; refine ⟨_, rfl, ?_⟩; have n0_ := Aside0.mk (Kd.R_below (by (with_reducible repeat (first | apply Kd.R_alloc | apply Kd.R_drewN | apply Kd.R_drew)); exact HO_317000.out) hb); have n1_ := Aside0.mk (Kd.R_below (by (with_reducible repeat (first | apply Kd.R_alloc | apply Kd.R_drewN | apply Kd.R_drew)); exact HO_317001.out) hb); have n2_ := Aside0.mk (blb hb BK305.out); have n3_ := Aside0.mk (blb hb BK306.out); have n4_ := Aside0.mk (blb hb BK307.out); have n5_ := Aside0.mk (blb hb BK308.out); have n6_ := Aside0.mk (blb hb BK316.out); have n7_ := Aside0.mk (below_step (by repeat with_reducible first | exact HB.out | apply pw_below_drewN | refine below_set ?_ GE305.out | refine below_set ?_ GE306.out | refine below_set ?_ GE307.out | refine below_set ?_ GE308.out | refine below_set ?_ GE316.out | apply below_drew1 | apply below_alloc) hb); clear HO_317000; clear HO_317001; clear BK305; clear BK306; clear BK307; clear BK308; clear BK316; clear HB; have HO_317000 := n0_; have HO_317001 := n1_; have BK305 := n2_; have BK306 := n3_; have BK307 := n4_; have BK308 := n5_; have BK316 := n6_; have HB := n7_; clear n0_ n1_ n2_ n3_ n4_ n5_ n6_ n7_; (try clear hb); (try clear hb2); (try clear hk); (try clear hi); have hnb114 := NB307_306.out; have hnc114 := NB306_307.out; have hnb115 := NB307_308.out; have hnc115 := NB308_307.out; have hnb116 := NB307_316.out; have hnc116 := NB316_307.out; have hcz117_0 := cz0 BK307.out; have hcz117_1 := cz1 BK307.out; have hcz117_2 := cz2 BK307.out; have hfz117_0 := blk_frozen BK307.out 0; have hfz117_1 := blk_frozen BK307.out 1; have hfz117_2 := blk_frozen BK307.out 2))
    have n0_ : Aside0 (Kd.R (Kd.int .i32) 21 (((w113.setCell ⟨gb307, 0, none⟩ (.int .i64 t322)).setCell ⟨gb307, 1, none⟩ (.int .i64 t323)).setCell ⟨gb307, 2, none⟩ (.bool t324)) w.heap.size (fun _ => True) (.slice Ao111 t310.length co111) t310) := ⟨by (with_reducible repeat (first | apply Kd.R_alloc | apply Kd.R_drewN | apply Kd.R_drew)); exact Kd.R_mono (Kd.R_far (p := ⟨gb307, 2, none⟩) (Kd.R_far (p := ⟨gb307, 1, none⟩) (Kd.R_far (p := ⟨gb307, 0, none⟩) (Kd.R_types HO_317000.out BK307.out (by decide)) (fun _ hk => hk.2) (.int .i64 t322)) (fun _ hk => hk.2) (.int .i64 t323)) (fun _ hk => hk.2) (.bool t324)) (fun _ hk => trivial)⟩
    have n1_ : Aside0 (Kd.R (Kd.int .i64) 3 (((w113.setCell ⟨gb307, 0, none⟩ (.int .i64 t322)).setCell ⟨gb307, 1, none⟩ (.int .i64 t323)).setCell ⟨gb307, 2, none⟩ (.bool t324)) w.heap.size (fun _ => True) (.slice Ao112 t313.length co112) t313) := ⟨by (with_reducible repeat (first | apply Kd.R_alloc | apply Kd.R_drewN | apply Kd.R_drew)); exact Kd.R_mono (Kd.R_far (p := ⟨gb307, 2, none⟩) (Kd.R_far (p := ⟨gb307, 1, none⟩) (Kd.R_far (p := ⟨gb307, 0, none⟩) (Kd.R_types HO_317001.out BK307.out (by decide)) (fun _ hk => hk.2) (.int .i64 t322)) (fun _ hk => hk.2) (.int .i64 t323)) (fun _ hk => hk.2) (.bool t324)) (fun _ hk => trivial)⟩
    have n2_ : Aside0 ((((w113.setCell ⟨gb307, 0, none⟩ (.int .i64 t322)).setCell ⟨gb307, 1, none⟩ (.int .i64 t323)).setCell ⟨gb307, 2, none⟩ (.bool t324)).heap[gb305]? = some (.cells #[.int .i64 a2_0, .int .i64 a2_1, .int .i64 a2_2, .int .i64 a2_3, .int .i64 a2_4, .int .i64 a2_5] 52 (0, 0))) := ⟨by (with_reducible repeat (first | refine blk_drewN ?_ _ | refine blk_drew ?_ | refine blk_alloc ?_ _)); refine blk_far ?_ NB305_307.out _; (with_reducible repeat (first | refine blk_drewN ?_ _ | refine blk_drew ?_ | refine blk_alloc ?_ _)); refine blk_far ?_ NB305_307.out _; (with_reducible repeat (first | refine blk_drewN ?_ _ | refine blk_drew ?_ | refine blk_alloc ?_ _)); refine blk_far ?_ NB305_307.out _; (with_reducible repeat (first | refine blk_drewN ?_ _ | refine blk_drew ?_ | refine blk_alloc ?_ _)); exact BK305.out⟩
    have n3_ : Aside0 ((((w113.setCell ⟨gb307, 0, none⟩ (.int .i64 t322)).setCell ⟨gb307, 1, none⟩ (.int .i64 t323)).setCell ⟨gb307, 2, none⟩ (.bool t324)).heap[gb306]? = some (.cells #[.int .i64 a3_0, .int .i64 a3_1] 31 (0, 0))) := ⟨by (with_reducible repeat (first | refine blk_drewN ?_ _ | refine blk_drew ?_ | refine blk_alloc ?_ _)); refine blk_far ?_ NB306_307.out _; (with_reducible repeat (first | refine blk_drewN ?_ _ | refine blk_drew ?_ | refine blk_alloc ?_ _)); refine blk_far ?_ NB306_307.out _; (with_reducible repeat (first | refine blk_drewN ?_ _ | refine blk_drew ?_ | refine blk_alloc ?_ _)); refine blk_far ?_ NB306_307.out _; (with_reducible repeat (first | refine blk_drewN ?_ _ | refine blk_drew ?_ | refine blk_alloc ?_ _)); exact BK306.out⟩
    have n4_ : Aside0 ((((w113.setCell ⟨gb307, 0, none⟩ (.int .i64 t322)).setCell ⟨gb307, 1, none⟩ (.int .i64 t323)).setCell ⟨gb307, 2, none⟩ (.bool t324)).heap[gb307]? = some (.cells #[.int .i64 t322, .int .i64 t323, .bool t324] 40 (0, 0))) := ⟨by (with_reducible repeat (first | refine blk_drewN ?_ _ | refine blk_drew ?_ | refine blk_alloc ?_ _)); refine blk_put (cs := #[.int .i64 t322, .int .i64 t323, .bool false]) ?_ 2 _ rfl; (with_reducible repeat (first | refine blk_drewN ?_ _ | refine blk_drew ?_ | refine blk_alloc ?_ _)); refine blk_put (cs := #[.int .i64 t322, .int .i64 0, .bool false]) ?_ 1 _ rfl; (with_reducible repeat (first | refine blk_drewN ?_ _ | refine blk_drew ?_ | refine blk_alloc ?_ _)); refine blk_put (cs := #[.int .i64 0, .int .i64 0, .bool false]) ?_ 0 _ rfl; (with_reducible repeat (first | refine blk_drewN ?_ _ | refine blk_drew ?_ | refine blk_alloc ?_ _)); exact BK307.out⟩
    have n5_ : Aside0 ((((w113.setCell ⟨gb307, 0, none⟩ (.int .i64 t322)).setCell ⟨gb307, 1, none⟩ (.int .i64 t323)).setCell ⟨gb307, 2, none⟩ (.bool t324)).heap[gb308]? = some (.cells #[.int .i64 0, .int .i64 0] 31 (0, 0))) := ⟨by (with_reducible repeat (first | refine blk_drewN ?_ _ | refine blk_drew ?_ | refine blk_alloc ?_ _)); refine blk_far ?_ NB308_307.out _; (with_reducible repeat (first | refine blk_drewN ?_ _ | refine blk_drew ?_ | refine blk_alloc ?_ _)); refine blk_far ?_ NB308_307.out _; (with_reducible repeat (first | refine blk_drewN ?_ _ | refine blk_drew ?_ | refine blk_alloc ?_ _)); refine blk_far ?_ NB308_307.out _; (with_reducible repeat (first | refine blk_drewN ?_ _ | refine blk_drew ?_ | refine blk_alloc ?_ _)); exact BK308.out⟩
    have n6_ : Aside0 ((((w113.setCell ⟨gb307, 0, none⟩ (.int .i64 t322)).setCell ⟨gb307, 1, none⟩ (.int .i64 t323)).setCell ⟨gb307, 2, none⟩ (.bool t324)).heap[gb316]? = some (.cells #[.slice Ao111 t310.length co111, .slice Ao112 t313.length co112] 79 (0, 0))) := ⟨by (with_reducible repeat (first | refine blk_drewN ?_ _ | refine blk_drew ?_ | refine blk_alloc ?_ _)); refine blk_far ?_ NB316_307.out _; (with_reducible repeat (first | refine blk_drewN ?_ _ | refine blk_drew ?_ | refine blk_alloc ?_ _)); refine blk_far ?_ NB316_307.out _; (with_reducible repeat (first | refine blk_drewN ?_ _ | refine blk_drew ?_ | refine blk_alloc ?_ _)); refine blk_far ?_ NB316_307.out _; (with_reducible repeat (first | refine blk_drewN ?_ _ | refine blk_drew ?_ | refine blk_alloc ?_ _)); exact BK316.out⟩
    have n7_ : Aside0 (Below w.heap.size w (((w113.setCell ⟨gb307, 0, none⟩ (.int .i64 t322)).setCell ⟨gb307, 1, none⟩ (.int .i64 t323)).setCell ⟨gb307, 2, none⟩ (.bool t324))) := ⟨by repeat with_reducible first | exact HB.out | apply pw_below_drewN | refine below_set ?_ GE305.out | refine below_set ?_ GE306.out | refine below_set ?_ GE307.out | refine below_set ?_ GE308.out | refine below_set ?_ GE316.out | apply below_drew1 | apply below_alloc⟩
    (try clear HO_317000)
    (try clear HO_317001)
    (try clear BK305)
    (try clear BK306)
    (try clear BK307)
    (try clear BK308)
    (try clear BK316)
    (try clear HB)
    generalize (((w113.setCell ⟨gb307, 0, none⟩ (.int .i64 t322)).setCell ⟨gb307, 1, none⟩ (.int .i64 t323)).setCell ⟨gb307, 2, none⟩ (.bool t324)) = w118 at n0_ n1_ n2_ n3_ n4_ n5_ n6_ n7_ ⊢
    have HO_317000 := n0_
    have HO_317001 := n1_
    have BK305 := n2_
    have BK306 := n3_
    have BK307 := n4_
    have BK308 := n5_
    have BK316 := n6_
    have HB := n7_
    clear n0_ n1_ n2_ n3_ n4_ n5_ n6_ n7_
    have n0_ := Aside0.mk (Kd.R_drew HO_317000.out)
    have n1_ := Aside0.mk (Kd.R_drew HO_317001.out)
    have n2_ := Aside0.mk (blk_drew BK305.out)
    have n3_ := Aside0.mk (blk_drew BK306.out)
    have n4_ := Aside0.mk (blk_drew BK307.out)
    have n5_ := Aside0.mk (blk_drew BK308.out)
    have n6_ := Aside0.mk (blk_drew BK316.out)
    have n7_ := Aside0.mk (below_drew1 HB.out)
    clear HO_317000
    clear HO_317001
    clear BK305
    clear BK306
    clear BK307
    clear BK308
    clear BK316
    clear HB
    have HO_317000 := n0_
    have HO_317001 := n1_
    have BK305 := n2_
    have BK306 := n3_
    have BK307 := n4_
    have BK308 := n5_
    have BK316 := n6_
    have HB := n7_
    clear n0_ n1_ n2_ n3_ n4_ n5_ n6_ n7_
    refine start_ (n := 6) (S := fun w' => w'.cell? ⟨gb307, 0, none⟩ = some (.int .i64 t322) ∧ w'.cell? ⟨gb307, 1, none⟩ = some (.int .i64 t323) ∧ w'.cell? ⟨gb307, 2, none⟩ = some (.bool t324) ∧ w'.cell? ⟨gb308, 0, none⟩ = some (.int .i64 0) ∧ w'.cell? ⟨gb308, 1, none⟩ = some (.int .i64 0)) (ds := []) (bs 6 0) (by kernel_rfl) rfl rfl ⟨(blk_cell BK307.out 0).trans rfl, (blk_cell BK307.out 1).trans rfl, (blk_cell BK307.out 2).trans rfl, (blk_cell BK308.out 0).trans rfl, (blk_cell BK308.out 1).trans rfl⟩ (fun hHeld => ?_)
    generalize w118.drew = w119 at HO_317000 HO_317001 BK305 BK306 BK307 BK308 BK316 HB hHeld ⊢
    refine pure_ (i := 2) (N := some 104) (v := ?_) (a' := ?_) (bs 6 4) rfl rfl (by kernel_rfl) (fun _ _ _ h => h) (Or.inl ⟨by rfl, ?_⟩) ?_ ?_
    rotate_left
    · intro w'; go_simp; with_reducible rfl
    rotate_left
    · simp only [Act.put, List.setIfInBounds_toArray, List.set_cons_zero, List.set_cons_succ, i64_w, i32_w]; rfl
    refine take_ (i := 0) (N := some 102) (v := ?_) (a' := ?_) (bs 6 5) rfl rfl (by kernel_rfl) (fun _ _ _ h => h) (Or.inl ⟨by rfl, ?_⟩) hHeld ?_ ?_
    rotate_left
    · rintro w' ⟨s0, s1, s2, s3, s4⟩; go_simp; with_reducible rfl
    rotate_left
    · simp only [Act.put, List.setIfInBounds_toArray, List.set_cons_zero, List.set_cons_succ, i64_w, i32_w]; rfl
    refine take_ (i := 1) (N := some 103) (v := ?_) (a' := ?_) (bs 6 7) rfl rfl (by kernel_rfl) (fun _ _ _ h => h) (Or.inl ⟨by rfl, ?_⟩) hHeld ?_ ?_
    rotate_left
    · rintro w' ⟨s0, s1, s2, s3, s4⟩; go_simp; with_reducible rfl
    rotate_left
    · simp only [Act.put, List.setIfInBounds_toArray, List.set_cons_zero, List.set_cons_succ, i64_w, i32_w]; rfl
    refine one_ (i := 3) (N := none) (bs 6 15) rfl rfl (by kernel_rfl) (by decide) (fun K hK => ?_)
    have hs120 := cz0 BK307.out
    have hfs120 := blk_frozen BK307.out 0
    have hns120_0 := NB305_307.out
    have hns120_1 := NB306_307.out
    have hns120_3 := NB308_307.out
    have hns120_4 := NB316_307.out
    have hms120_0 := NB307_305.out
    have hms120_1 := NB307_306.out
    have hms120_3 := NB307_308.out
    have hms120_4 := NB307_316.out
    have hs121 := cz1 BK307.out
    have hfs121 := blk_frozen BK307.out 1
    have hns121_0 := NB305_307.out
    have hns121_1 := NB306_307.out
    have hns121_3 := NB308_307.out
    have hns121_4 := NB316_307.out
    have hms121_0 := NB307_305.out
    have hms121_1 := NB307_306.out
    have hms121_3 := NB307_308.out
    have hms121_4 := NB307_316.out
    have hs122 := cz2 BK307.out
    have hfs122 := blk_frozen BK307.out 2
    have hns122_0 := NB305_307.out
    have hns122_1 := NB306_307.out
    have hns122_3 := NB308_307.out
    have hns122_4 := NB316_307.out
    have hms122_0 := NB307_305.out
    have hms122_1 := NB307_306.out
    have hms122_3 := NB307_308.out
    have hms122_4 := NB307_316.out
    refine skip_ (w1 := ?_) (by rfl) rfl ?_ ?_
    rotate_left
    ·
     go_simp
     rfl
    refine hK.out _ _ ⟨((cell_keep (((cell_keep (((cell_keep (hHeld.1) _).trans (hHeld.2.1))) _).trans (((cell_keep (hHeld.1) _).trans (hHeld.2.2.1))))) _).trans (((cell_keep (((cell_keep (hHeld.1) _).trans (hHeld.2.1))) _).trans (((cell_keep (hHeld.1) _).trans (hHeld.1)))))), ((cell_keep (((cell_keep (((cell_keep (hHeld.1) _).trans (hHeld.2.1))) _).trans (((cell_keep (hHeld.1) _).trans (hHeld.2.2.1))))) _).trans (((cell_keep (((cell_keep (hHeld.1) _).trans (hHeld.2.1))) _).trans (((cell_keep (hHeld.1) _).trans (hHeld.2.1)))))), ((cell_keep (((cell_keep (((cell_keep (hHeld.1) _).trans (hHeld.2.1))) _).trans (((cell_keep (hHeld.1) _).trans (hHeld.2.2.1))))) _).trans (((cell_keep (((cell_keep (hHeld.1) _).trans (hHeld.2.1))) _).trans (((cell_keep (hHeld.1) _).trans (hHeld.2.2.1)))))), ((cell_keep (((cell_keep (((cell_keep (hHeld.1) _).trans (hHeld.2.1))) _).trans (((cell_keep (hHeld.1) _).trans (hHeld.2.2.1))))) _).trans (((cell_keep (((cell_keep (hHeld.1) _).trans (hHeld.2.1))) _).trans (((cell_keep (hHeld.1) _).trans (hHeld.2.2.2.1)))))), ((cell_keep (((cell_keep (((cell_keep (hHeld.1) _).trans (hHeld.2.1))) _).trans (((cell_keep (hHeld.1) _).trans (hHeld.2.2.1))))) _).trans (((cell_keep (((cell_keep (hHeld.1) _).trans (hHeld.2.1))) _).trans (((cell_keep (hHeld.1) _).trans (hHeld.2.2.2.2))))))⟩ (fun hHeld => ?_)
    clear hK K
    refine one_ (i := 4) (N := none) (bs 6 31) rfl rfl (by kernel_rfl) (by decide) (fun K hK => ?_)
    have hs123 := cz0 BK308.out
    have hfs123 := blk_frozen BK308.out 0
    have hns123_0 := NB305_308.out
    have hns123_1 := NB306_308.out
    have hns123_2 := NB307_308.out
    have hns123_4 := NB316_308.out
    have hms123_0 := NB308_305.out
    have hms123_1 := NB308_306.out
    have hms123_2 := NB308_307.out
    have hms123_4 := NB308_316.out
    have hs124 := cz1 BK308.out
    have hfs124 := blk_frozen BK308.out 1
    have hns124_0 := NB305_308.out
    have hns124_1 := NB306_308.out
    have hns124_2 := NB307_308.out
    have hns124_4 := NB316_308.out
    have hms124_0 := NB308_305.out
    have hms124_1 := NB308_306.out
    have hms124_2 := NB308_307.out
    have hms124_4 := NB308_316.out
    refine skip_ (w1 := ?_) (by rfl) rfl ?_ ?_
    rotate_left
    ·
     go_simp
     rfl
    refine hK.out _ _ ⟨((cell_keep (((cell_keep (hHeld.2.2.2.1) _).trans (hHeld.2.2.2.2))) _).trans (((cell_keep (hHeld.2.2.2.1) _).trans (hHeld.1)))), ((cell_keep (((cell_keep (hHeld.2.2.2.1) _).trans (hHeld.2.2.2.2))) _).trans (((cell_keep (hHeld.2.2.2.1) _).trans (hHeld.2.1)))), ((cell_keep (((cell_keep (hHeld.2.2.2.1) _).trans (hHeld.2.2.2.2))) _).trans (((cell_keep (hHeld.2.2.2.1) _).trans (hHeld.2.2.1)))), ((cell_keep (((cell_keep (hHeld.2.2.2.1) _).trans (hHeld.2.2.2.2))) _).trans (((cell_keep (hHeld.2.2.2.1) _).trans (hHeld.2.2.2.1)))), ((cell_keep (((cell_keep (hHeld.2.2.2.1) _).trans (hHeld.2.2.2.2))) _).trans (((cell_keep (hHeld.2.2.2.1) _).trans (hHeld.2.2.2.2))))⟩ (fun hHeld => ?_)
    clear hK K
    refine pure_ (i := 5) (N := some 12) (v := ?_) (a' := ?_) (bs 6 63) rfl rfl (by kernel_rfl) (fun _ _ _ h => h) (Or.inl ⟨by rfl, ?_⟩) ?_ ?_
    rotate_left
    · intro w'; go_simp; with_reducible rfl
    rotate_left
    · simp only [Act.put, List.setIfInBounds_toArray, List.set_cons_zero, List.set_cons_succ, i64_w, i32_w]; rfl
    refine done_ (by kernel_rfl) ?_
    try go_wp2
    refine bodyPost_ret (results_list (rs := [.cell 10 40, .cell 11 31, .tmp 12]) rfl (by simp) (.cell gb307 40 #[.int .i64 t322, .int .i64 t323, .bool t324] (0, 0) _ rfl (by (with_reducible repeat (first | refine blk_drewN ?_ _ | refine blk_drew ?_ | refine blk_alloc ?_ _)); refine blk_far ?_ NB307_308.out _; (with_reducible repeat (first | refine blk_drewN ?_ _ | refine blk_drew ?_ | refine blk_alloc ?_ _)); refine blk_far ?_ NB307_308.out _; (with_reducible repeat (first | refine blk_drewN ?_ _ | refine blk_drew ?_ | refine blk_alloc ?_ _)); refine blk_put (cs := #[.int .i64 t322, .int .i64 t323, .bool t324]) ?_ 2 _ rfl; (with_reducible repeat (first | refine blk_drewN ?_ _ | refine blk_drew ?_ | refine blk_alloc ?_ _)); refine blk_put (cs := #[.int .i64 t322, .int .i64 t323, .bool t324]) ?_ 1 _ rfl; (with_reducible repeat (first | refine blk_drewN ?_ _ | refine blk_drew ?_ | refine blk_alloc ?_ _)); refine blk_put (cs := #[.int .i64 t322, .int .i64 t323, .bool t324]) ?_ 0 _ rfl; (with_reducible repeat (first | refine blk_drewN ?_ _ | refine blk_drew ?_ | refine blk_alloc ?_ _)); exact BK307.out) Tryd.underlying40 rfl (by kernel_rfl) (.cell gb308 31 #[.int .i64 0, .int .i64 0] (0, 0) _ rfl (by (with_reducible repeat (first | refine blk_drewN ?_ _ | refine blk_drew ?_ | refine blk_alloc ?_ _)); refine blk_put (cs := #[.int .i64 0, .int .i64 0]) ?_ 1 _ rfl; (with_reducible repeat (first | refine blk_drewN ?_ _ | refine blk_drew ?_ | refine blk_alloc ?_ _)); refine blk_put (cs := #[.int .i64 0, .int .i64 0]) ?_ 0 _ rfl; (with_reducible repeat (first | refine blk_drewN ?_ _ | refine blk_drew ?_ | refine blk_alloc ?_ _)); refine blk_far ?_ NB308_307.out _; (with_reducible repeat (first | refine blk_drewN ?_ _ | refine blk_drew ?_ | refine blk_alloc ?_ _)); refine blk_far ?_ NB308_307.out _; (with_reducible repeat (first | refine blk_drewN ?_ _ | refine blk_drew ?_ | refine blk_alloc ?_ _)); refine blk_far ?_ NB308_307.out _; (with_reducible repeat (first | refine blk_drewN ?_ _ | refine blk_drew ?_ | refine blk_alloc ?_ _)); exact BK308.out) Tryd.underlying31 rfl (by kernel_rfl) (.tmp .nil)))) rfl ?_
    exact ⟨by first | rfl | (simp [errW_none, errW_some] <;> rfl) | (simp only [← hji84]; first | rfl | (simp [errW_none, errW_some] <;> rfl)) | (simp [*, errW_none, errW_some] <;> rfl), by repeat with_reducible first | exact HB.out | apply pw_below_drewN | refine below_set ?_ GE305.out | refine below_set ?_ GE306.out | refine below_set ?_ GE307.out | refine below_set ?_ GE308.out | refine below_set ?_ GE316.out | apply below_drew1 | apply below_alloc⟩
   rw [if_neg c83] at H
   have c83b0 : (a2_3 == a2_2) = false := beq_eq_false_iff_ne.mpr c83
   have c83b1 : (a2_3 != a2_2) = true := bne_iff_ne.mpr c83
   replace H := Option.bind_eq_some_iff.mp H
   obtain ⟨⟨t327, t328, t329, t330, t331⟩, A1250, H⟩ := H
   (try dsimp only at H)
   have A125 := Aside0.mk A1250
   clear A1250
   by_cases c126 : t331 = 0
   rotate_left
   ·
    rw [if_neg c126] at H
    have c126b0 : (t331 == 0) = false := beq_eq_false_iff_ne.mpr c126
    have c126b1 : (t331 != 0) = true := bne_iff_ne.mpr c126
    simp only [Option.some.injEq, Prod.mk.injEq] at H
    obtain ⟨rfl, rfl, rfl, rfl, rfl, rfl⟩ := H
    have hnb160 := NB305_306.out
    have hnc160 := NB306_305.out
    have hnb161 := NB305_307.out
    have hnc161 := NB307_305.out
    have hnb162 := NB305_308.out
    have hnc162 := NB308_305.out
    have hnb163 := NB305_316.out
    have hnc163 := NB316_305.out
    have hcz164_0 := cz0 BK305.out
    have hcz164_1 := cz1 BK305.out
    have hcz164_2 := cz2 BK305.out
    have hcz164_3 := cz3 BK305.out
    have hcz164_4 := cz4 BK305.out
    have hcz164_5 := cz5 BK305.out
    have hfz164_0 := blk_frozen BK305.out 0
    have hfz164_1 := blk_frozen BK305.out 1
    have hfz164_2 := blk_frozen BK305.out 2
    have hfz164_3 := blk_frozen BK305.out 3
    have hfz164_4 := blk_frozen BK305.out 4
    have hfz164_5 := blk_frozen BK305.out 5
    try go_wp2_with (first | ((with_reducible refine gate_dst (N := 14) rfl ?_); refine box_event ?hg (N := 14) ?hd (cs := #[.int .i64 0, .int .i64 0]) (t := 54) ?hr ?_; (case hd => rfl); (case hg => rfl); (case hr => first | (go_simp; done) | (go_simp; rfl)); intro gb326 hg w165 hbox hb; have n0_ := Aside0.mk (Kd.R_below (by (with_reducible repeat (first | apply Kd.R_alloc | apply Kd.R_drewN | apply Kd.R_drew)); exact HO_317000.out) hb); have n1_ := Aside0.mk (Kd.R_below (by (with_reducible repeat (first | apply Kd.R_alloc | apply Kd.R_drewN | apply Kd.R_drew)); exact HO_317001.out) hb); have n2_ := Aside0.mk (blb hb BK305.out); have n3_ := Aside0.mk (blb hb BK306.out); have n4_ := Aside0.mk (blb hb BK307.out); have n5_ := Aside0.mk (blb hb BK308.out); have n6_ := Aside0.mk (blb hb BK316.out); have n7_ := Aside0.mk (below_step (by repeat with_reducible first | exact HB.out | apply pw_below_drewN | refine below_set ?_ GE305.out | refine below_set ?_ GE306.out | refine below_set ?_ GE307.out | refine below_set ?_ GE308.out | refine below_set ?_ GE316.out | apply below_drew1 | apply below_alloc) hb); have n8_ := Aside0.mk (hbox); have n9_ := Aside0.mk (geb hg (by repeat with_reducible first | exact HB.out | apply pw_below_drewN | refine below_set ?_ GE305.out | refine below_set ?_ GE306.out | refine below_set ?_ GE307.out | refine below_set ?_ GE308.out | refine below_set ?_ GE316.out | apply below_drew1 | apply below_alloc)); have n10_ := n9_; have n11_ := Aside0.mk ((nbl hg BK305.out)); have n12_ := Aside0.mk ((nbr hg BK305.out)); have n13_ := Aside0.mk ((nbl hg BK306.out)); have n14_ := Aside0.mk ((nbr hg BK306.out)); have n15_ := Aside0.mk ((nbl hg BK307.out)); have n16_ := Aside0.mk ((nbr hg BK307.out)); have n17_ := Aside0.mk ((nbl hg BK308.out)); have n18_ := Aside0.mk ((nbr hg BK308.out)); have n19_ := Aside0.mk ((nbl hg BK316.out)); have n20_ := Aside0.mk ((nbr hg BK316.out)); clear HO_317000; clear HO_317001; clear BK305; clear BK306; clear BK307; clear BK308; clear BK316; clear HB; have HO_317000 := n0_; have HO_317001 := n1_; have BK305 := n2_; have BK306 := n3_; have BK307 := n4_; have BK308 := n5_; have BK316 := n6_; have HB := n7_; have BK326 := n8_; have GW326 := n9_; have GE326 := n10_; have NB305_326 := n11_; have NB326_305 := n12_; have NB306_326 := n13_; have NB326_306 := n14_; have NB307_326 := n15_; have NB326_307 := n16_; have NB308_326 := n17_; have NB326_308 := n18_; have NB316_326 := n19_; have NB326_316 := n20_; clear n0_ n1_ n2_ n3_ n4_ n5_ n6_ n7_ n8_ n9_ n10_ n11_ n12_ n13_ n14_ n15_ n16_ n17_ n18_ n19_ n20_; clear hb hbox hg; have hnb166 := NB305_326.out; have hnc166 := NB326_305.out; have hcz167_0 := cz0 BK305.out; have hcz167_1 := cz1 BK305.out; have hcz167_2 := cz2 BK305.out; have hcz167_3 := cz3 BK305.out; have hcz167_4 := cz4 BK305.out; have hcz167_5 := cz5 BK305.out; have hfz167_0 := blk_frozen BK305.out 0; have hfz167_1 := blk_frozen BK305.out 1; have hfz167_2 := blk_frozen BK305.out 2; have hfz167_3 := blk_frozen BK305.out 3; have hfz167_4 := blk_frozen BK305.out 4; have hfz167_5 := blk_frozen BK305.out 5; have hnb168 := NB306_307.out; have hnc168 := NB307_306.out; have hnb169 := NB306_308.out; have hnc169 := NB308_306.out; have hnb170 := NB306_316.out; have hnc170 := NB316_306.out; have hnb171 := NB306_326.out; have hnc171 := NB326_306.out; have hcz172_0 := cz0 BK306.out; have hcz172_1 := cz1 BK306.out; have hfz172_0 := blk_frozen BK306.out 0; have hfz172_1 := blk_frozen BK306.out 1) | ((with_reducible refine gate_callee (f := 18) rfl ?_); refine goesL_ (some 55) rfl rfl Tryd.func18 (by kernel_rfl) rfl #[.string a0, .int .i64 a1, .agg #[.int .i64 a2_0, .int .i64 a2_1, .int .i64 a2_2, .int .i64 a2_3, .int .i64 a2_4, .int .i64 a2_5], .agg #[.int .i64 a3_0, .int .i64 a3_1], .slice A4 l4.length c4] rfl (map5 rfl rfl rfl rfl rfl) ?_; (with_reducible refine (move_Go.calls kj8 a0 a1 a2_0 a2_1 a2_2 a2_3 a2_4 a2_5 a3_0 a3_1 _ _ l4 t327 t328 t329 t330 t331 _ ?side1 ?side2 ?side3 A125.out).mono ?_); (case side1 => exact Tabs.below HT.out (by repeat with_reducible first | exact HB.out | apply pw_below_drewN | refine below_set ?_ GE305.out | refine below_set ?_ GE306.out | refine below_set ?_ GE307.out | refine below_set ?_ GE308.out | refine below_set ?_ GE316.out | refine below_set ?_ GE326.out | apply below_drew1 | apply below_alloc)); (case side2 => repeat (first | exact (Kd.C_below HR4.out HB.out) | with_reducible first | refine Kd.C_drewN ?_ _ | refine Kd.C_drew ?_ | refine Kd.C_alloc ?_ _)); (case side3 => exact HC4.out); rintro e w173 ⟨rfl, hb⟩; refine ⟨_, rfl, ?_⟩; have n0_ := Aside0.mk (Kd.R_below (by (with_reducible repeat (first | apply Kd.R_alloc | apply Kd.R_drewN | apply Kd.R_drew)); exact HO_317000.out) hb); have n1_ := Aside0.mk (Kd.R_below (by (with_reducible repeat (first | apply Kd.R_alloc | apply Kd.R_drewN | apply Kd.R_drew)); exact HO_317001.out) hb); have n2_ := Aside0.mk (blb hb BK305.out); have n3_ := Aside0.mk (blb hb BK306.out); have n4_ := Aside0.mk (blb hb BK307.out); have n5_ := Aside0.mk (blb hb BK308.out); have n6_ := Aside0.mk (blb hb BK316.out); have n7_ := Aside0.mk (blb hb BK326.out); have n8_ := Aside0.mk (below_step (by repeat with_reducible first | exact HB.out | apply pw_below_drewN | refine below_set ?_ GE305.out | refine below_set ?_ GE306.out | refine below_set ?_ GE307.out | refine below_set ?_ GE308.out | refine below_set ?_ GE316.out | refine below_set ?_ GE326.out | apply below_drew1 | apply below_alloc) hb); clear HO_317000; clear HO_317001; clear BK305; clear BK306; clear BK307; clear BK308; clear BK316; clear BK326; clear HB; have HO_317000 := n0_; have HO_317001 := n1_; have BK305 := n2_; have BK306 := n3_; have BK307 := n4_; have BK308 := n5_; have BK316 := n6_; have BK326 := n7_; have HB := n8_; clear n0_ n1_ n2_ n3_ n4_ n5_ n6_ n7_ n8_; (try clear hb); (try clear hb2); (try clear hk); (try clear hi); have hnb174 := NB326_307.out; have hnc174 := NB307_326.out; have hnb175 := NB326_308.out; have hnc175 := NB308_326.out; have hnb176 := NB326_316.out; have hnc176 := NB316_326.out; have hcz177_0 := cz0 BK326.out; have hcz177_1 := cz1 BK326.out; have hfz177_0 := blk_frozen BK326.out 0; have hfz177_1 := blk_frozen BK326.out 1; have hcz178_0 := cz0 BK306.out; have hcz178_1 := cz1 BK306.out; have hfz178_0 := blk_frozen BK306.out 0; have hfz178_1 := blk_frozen BK306.out 1))
    have n0_ : Aside0 (Kd.R (Kd.int .i32) 21 ((((w173.setCell ⟨gb326, 0, none⟩ (.int .i64 t327)).setCell ⟨gb326, 1, none⟩ (.int .i64 t328)).setCell ⟨gb306, 0, none⟩ (.int .i64 t329)).setCell ⟨gb306, 1, none⟩ (.int .i64 t330)) w.heap.size (fun _ => True) v311 t310) := ⟨by (with_reducible repeat (first | apply Kd.R_alloc | apply Kd.R_drewN | apply Kd.R_drew)); exact Kd.R_mono (Kd.R_far (p := ⟨gb306, 1, none⟩) (Kd.R_far (p := ⟨gb306, 0, none⟩) (Kd.R_far (p := ⟨gb326, 1, none⟩) (Kd.R_far (p := ⟨gb326, 0, none⟩) (Kd.R_types (Kd.R_types HO_317000.out BK326.out (by decide)) BK306.out (by decide)) (fun _ hk => hk.1.2) (.int .i64 t327)) (fun _ hk => hk.1.2) (.int .i64 t328)) (fun _ hk => hk.2) (.int .i64 t329)) (fun _ hk => hk.2) (.int .i64 t330)) (fun _ hk => trivial)⟩
    have n1_ : Aside0 (Kd.R (Kd.int .i64) 3 ((((w173.setCell ⟨gb326, 0, none⟩ (.int .i64 t327)).setCell ⟨gb326, 1, none⟩ (.int .i64 t328)).setCell ⟨gb306, 0, none⟩ (.int .i64 t329)).setCell ⟨gb306, 1, none⟩ (.int .i64 t330)) w.heap.size (fun _ => True) v314 t313) := ⟨by (with_reducible repeat (first | apply Kd.R_alloc | apply Kd.R_drewN | apply Kd.R_drew)); exact Kd.R_mono (Kd.R_far (p := ⟨gb306, 1, none⟩) (Kd.R_far (p := ⟨gb306, 0, none⟩) (Kd.R_far (p := ⟨gb326, 1, none⟩) (Kd.R_far (p := ⟨gb326, 0, none⟩) (Kd.R_types (Kd.R_types HO_317001.out BK326.out (by decide)) BK306.out (by decide)) (fun _ hk => hk.1.2) (.int .i64 t327)) (fun _ hk => hk.1.2) (.int .i64 t328)) (fun _ hk => hk.2) (.int .i64 t329)) (fun _ hk => hk.2) (.int .i64 t330)) (fun _ hk => trivial)⟩
    have n2_ : Aside0 (((((w173.setCell ⟨gb326, 0, none⟩ (.int .i64 t327)).setCell ⟨gb326, 1, none⟩ (.int .i64 t328)).setCell ⟨gb306, 0, none⟩ (.int .i64 t329)).setCell ⟨gb306, 1, none⟩ (.int .i64 t330)).heap[gb305]? = some (.cells #[.int .i64 a2_0, .int .i64 a2_1, .int .i64 a2_2, .int .i64 a2_3, .int .i64 a2_4, .int .i64 a2_5] 52 (0, 0))) := ⟨by (with_reducible repeat (first | refine blk_drewN ?_ _ | refine blk_drew ?_ | refine blk_alloc ?_ _)); refine blk_far ?_ NB305_306.out _; (with_reducible repeat (first | refine blk_drewN ?_ _ | refine blk_drew ?_ | refine blk_alloc ?_ _)); refine blk_far ?_ NB305_306.out _; (with_reducible repeat (first | refine blk_drewN ?_ _ | refine blk_drew ?_ | refine blk_alloc ?_ _)); refine blk_far ?_ NB305_326.out _; (with_reducible repeat (first | refine blk_drewN ?_ _ | refine blk_drew ?_ | refine blk_alloc ?_ _)); refine blk_far ?_ NB305_326.out _; (with_reducible repeat (first | refine blk_drewN ?_ _ | refine blk_drew ?_ | refine blk_alloc ?_ _)); exact BK305.out⟩
    have n3_ : Aside0 (((((w173.setCell ⟨gb326, 0, none⟩ (.int .i64 t327)).setCell ⟨gb326, 1, none⟩ (.int .i64 t328)).setCell ⟨gb306, 0, none⟩ (.int .i64 t329)).setCell ⟨gb306, 1, none⟩ (.int .i64 t330)).heap[gb306]? = some (.cells #[.int .i64 t329, .int .i64 t330] 31 (0, 0))) := ⟨by (with_reducible repeat (first | refine blk_drewN ?_ _ | refine blk_drew ?_ | refine blk_alloc ?_ _)); refine blk_put (cs := #[.int .i64 t329, .int .i64 a3_1]) ?_ 1 _ rfl; (with_reducible repeat (first | refine blk_drewN ?_ _ | refine blk_drew ?_ | refine blk_alloc ?_ _)); refine blk_put (cs := #[.int .i64 a3_0, .int .i64 a3_1]) ?_ 0 _ rfl; (with_reducible repeat (first | refine blk_drewN ?_ _ | refine blk_drew ?_ | refine blk_alloc ?_ _)); refine blk_far ?_ NB306_326.out _; (with_reducible repeat (first | refine blk_drewN ?_ _ | refine blk_drew ?_ | refine blk_alloc ?_ _)); refine blk_far ?_ NB306_326.out _; (with_reducible repeat (first | refine blk_drewN ?_ _ | refine blk_drew ?_ | refine blk_alloc ?_ _)); exact BK306.out⟩
    have n4_ : Aside0 (((((w173.setCell ⟨gb326, 0, none⟩ (.int .i64 t327)).setCell ⟨gb326, 1, none⟩ (.int .i64 t328)).setCell ⟨gb306, 0, none⟩ (.int .i64 t329)).setCell ⟨gb306, 1, none⟩ (.int .i64 t330)).heap[gb307]? = some (.cells #[.int .i64 0, .int .i64 0, .bool false] 40 (0, 0))) := ⟨by (with_reducible repeat (first | refine blk_drewN ?_ _ | refine blk_drew ?_ | refine blk_alloc ?_ _)); refine blk_far ?_ NB307_306.out _; (with_reducible repeat (first | refine blk_drewN ?_ _ | refine blk_drew ?_ | refine blk_alloc ?_ _)); refine blk_far ?_ NB307_306.out _; (with_reducible repeat (first | refine blk_drewN ?_ _ | refine blk_drew ?_ | refine blk_alloc ?_ _)); refine blk_far ?_ NB307_326.out _; (with_reducible repeat (first | refine blk_drewN ?_ _ | refine blk_drew ?_ | refine blk_alloc ?_ _)); refine blk_far ?_ NB307_326.out _; (with_reducible repeat (first | refine blk_drewN ?_ _ | refine blk_drew ?_ | refine blk_alloc ?_ _)); exact BK307.out⟩
    have n5_ : Aside0 (((((w173.setCell ⟨gb326, 0, none⟩ (.int .i64 t327)).setCell ⟨gb326, 1, none⟩ (.int .i64 t328)).setCell ⟨gb306, 0, none⟩ (.int .i64 t329)).setCell ⟨gb306, 1, none⟩ (.int .i64 t330)).heap[gb308]? = some (.cells #[.int .i64 0, .int .i64 0] 31 (0, 0))) := ⟨by (with_reducible repeat (first | refine blk_drewN ?_ _ | refine blk_drew ?_ | refine blk_alloc ?_ _)); refine blk_far ?_ NB308_306.out _; (with_reducible repeat (first | refine blk_drewN ?_ _ | refine blk_drew ?_ | refine blk_alloc ?_ _)); refine blk_far ?_ NB308_306.out _; (with_reducible repeat (first | refine blk_drewN ?_ _ | refine blk_drew ?_ | refine blk_alloc ?_ _)); refine blk_far ?_ NB308_326.out _; (with_reducible repeat (first | refine blk_drewN ?_ _ | refine blk_drew ?_ | refine blk_alloc ?_ _)); refine blk_far ?_ NB308_326.out _; (with_reducible repeat (first | refine blk_drewN ?_ _ | refine blk_drew ?_ | refine blk_alloc ?_ _)); exact BK308.out⟩
    have n6_ : Aside0 (((((w173.setCell ⟨gb326, 0, none⟩ (.int .i64 t327)).setCell ⟨gb326, 1, none⟩ (.int .i64 t328)).setCell ⟨gb306, 0, none⟩ (.int .i64 t329)).setCell ⟨gb306, 1, none⟩ (.int .i64 t330)).heap[gb316]? = some (.cells #[v311, v314] 79 (0, 0))) := ⟨by (with_reducible repeat (first | refine blk_drewN ?_ _ | refine blk_drew ?_ | refine blk_alloc ?_ _)); refine blk_far ?_ NB316_306.out _; (with_reducible repeat (first | refine blk_drewN ?_ _ | refine blk_drew ?_ | refine blk_alloc ?_ _)); refine blk_far ?_ NB316_306.out _; (with_reducible repeat (first | refine blk_drewN ?_ _ | refine blk_drew ?_ | refine blk_alloc ?_ _)); refine blk_far ?_ NB316_326.out _; (with_reducible repeat (first | refine blk_drewN ?_ _ | refine blk_drew ?_ | refine blk_alloc ?_ _)); refine blk_far ?_ NB316_326.out _; (with_reducible repeat (first | refine blk_drewN ?_ _ | refine blk_drew ?_ | refine blk_alloc ?_ _)); exact BK316.out⟩
    have n7_ : Aside0 (((((w173.setCell ⟨gb326, 0, none⟩ (.int .i64 t327)).setCell ⟨gb326, 1, none⟩ (.int .i64 t328)).setCell ⟨gb306, 0, none⟩ (.int .i64 t329)).setCell ⟨gb306, 1, none⟩ (.int .i64 t330)).heap[gb326]? = some (.cells #[.int .i64 t327, .int .i64 t328] 54 (0, 0))) := ⟨by (with_reducible repeat (first | refine blk_drewN ?_ _ | refine blk_drew ?_ | refine blk_alloc ?_ _)); refine blk_far ?_ NB326_306.out _; (with_reducible repeat (first | refine blk_drewN ?_ _ | refine blk_drew ?_ | refine blk_alloc ?_ _)); refine blk_far ?_ NB326_306.out _; (with_reducible repeat (first | refine blk_drewN ?_ _ | refine blk_drew ?_ | refine blk_alloc ?_ _)); refine blk_put (cs := #[.int .i64 t327, .int .i64 0]) ?_ 1 _ rfl; (with_reducible repeat (first | refine blk_drewN ?_ _ | refine blk_drew ?_ | refine blk_alloc ?_ _)); refine blk_put (cs := #[.int .i64 0, .int .i64 0]) ?_ 0 _ rfl; (with_reducible repeat (first | refine blk_drewN ?_ _ | refine blk_drew ?_ | refine blk_alloc ?_ _)); exact BK326.out⟩
    have n8_ : Aside0 (Below w.heap.size w ((((w173.setCell ⟨gb326, 0, none⟩ (.int .i64 t327)).setCell ⟨gb326, 1, none⟩ (.int .i64 t328)).setCell ⟨gb306, 0, none⟩ (.int .i64 t329)).setCell ⟨gb306, 1, none⟩ (.int .i64 t330))) := ⟨by repeat with_reducible first | exact HB.out | apply pw_below_drewN | refine below_set ?_ GE305.out | refine below_set ?_ GE306.out | refine below_set ?_ GE307.out | refine below_set ?_ GE308.out | refine below_set ?_ GE316.out | refine below_set ?_ GE326.out | apply below_drew1 | apply below_alloc⟩
    (try clear HO_317000)
    (try clear HO_317001)
    (try clear BK305)
    (try clear BK306)
    (try clear BK307)
    (try clear BK308)
    (try clear BK316)
    (try clear BK326)
    (try clear HB)
    generalize ((((w173.setCell ⟨gb326, 0, none⟩ (.int .i64 t327)).setCell ⟨gb326, 1, none⟩ (.int .i64 t328)).setCell ⟨gb306, 0, none⟩ (.int .i64 t329)).setCell ⟨gb306, 1, none⟩ (.int .i64 t330)) = w179 at n0_ n1_ n2_ n3_ n4_ n5_ n6_ n7_ n8_ ⊢
    have HO_317000 := n0_
    have HO_317001 := n1_
    have BK305 := n2_
    have BK306 := n3_
    have BK307 := n4_
    have BK308 := n5_
    have BK316 := n6_
    have BK326 := n7_
    have HB := n8_
    clear n0_ n1_ n2_ n3_ n4_ n5_ n6_ n7_ n8_
    have n0_ := Aside0.mk (Kd.R_drew HO_317000.out)
    have n1_ := Aside0.mk (Kd.R_drew HO_317001.out)
    have n2_ := Aside0.mk (blk_drew BK305.out)
    have n3_ := Aside0.mk (blk_drew BK306.out)
    have n4_ := Aside0.mk (blk_drew BK307.out)
    have n5_ := Aside0.mk (blk_drew BK308.out)
    have n6_ := Aside0.mk (blk_drew BK316.out)
    have n7_ := Aside0.mk (blk_drew BK326.out)
    have n8_ := Aside0.mk (below_drew1 HB.out)
    clear HO_317000
    clear HO_317001
    clear BK305
    clear BK306
    clear BK307
    clear BK308
    clear BK316
    clear BK326
    clear HB
    have HO_317000 := n0_
    have HO_317001 := n1_
    have BK305 := n2_
    have BK306 := n3_
    have BK307 := n4_
    have BK308 := n5_
    have BK316 := n6_
    have BK326 := n7_
    have HB := n8_
    clear n0_ n1_ n2_ n3_ n4_ n5_ n6_ n7_ n8_
    refine start_ (n := 6) (S := fun w' => w'.cell? ⟨gb307, 0, none⟩ = some (.int .i64 0) ∧ w'.cell? ⟨gb307, 1, none⟩ = some (.int .i64 0) ∧ w'.cell? ⟨gb307, 2, none⟩ = some (.bool false) ∧ w'.cell? ⟨gb308, 0, none⟩ = some (.int .i64 0) ∧ w'.cell? ⟨gb308, 1, none⟩ = some (.int .i64 0)) (ds := []) (bs 6 0) (by kernel_rfl) rfl rfl ⟨(blk_cell BK307.out 0).trans rfl, (blk_cell BK307.out 1).trans rfl, (blk_cell BK307.out 2).trans rfl, (blk_cell BK308.out 0).trans rfl, (blk_cell BK308.out 1).trans rfl⟩ (fun hHeld => ?_)
    generalize w179.drew = w180 at HO_317000 HO_317001 BK305 BK306 BK307 BK308 BK316 BK326 HB hHeld ⊢
    refine pure_ (i := 2) (N := some 104) (v := ?_) (a' := ?_) (bs 6 4) rfl rfl (by kernel_rfl) (fun _ _ _ h => h) (Or.inl ⟨by rfl, ?_⟩) ?_ ?_
    rotate_left
    · intro w'; go_simp; with_reducible rfl
    rotate_left
    · simp only [Act.put, List.setIfInBounds_toArray, List.set_cons_zero, List.set_cons_succ, i64_w, i32_w]; rfl
    refine take_ (i := 0) (N := some 102) (v := ?_) (a' := ?_) (bs 6 5) rfl rfl (by kernel_rfl) (fun _ _ _ h => h) (Or.inl ⟨by rfl, ?_⟩) hHeld ?_ ?_
    rotate_left
    · rintro w' ⟨s0, s1, s2, s3, s4⟩; go_simp; with_reducible rfl
    rotate_left
    · simp only [Act.put, List.setIfInBounds_toArray, List.set_cons_zero, List.set_cons_succ, i64_w, i32_w]; rfl
    refine take_ (i := 1) (N := some 103) (v := ?_) (a' := ?_) (bs 6 7) rfl rfl (by kernel_rfl) (fun _ _ _ h => h) (Or.inl ⟨by rfl, ?_⟩) hHeld ?_ ?_
    rotate_left
    · rintro w' ⟨s0, s1, s2, s3, s4⟩; go_simp; with_reducible rfl
    rotate_left
    · simp only [Act.put, List.setIfInBounds_toArray, List.set_cons_zero, List.set_cons_succ, i64_w, i32_w]; rfl
    refine one_ (i := 3) (N := none) (bs 6 15) rfl rfl (by kernel_rfl) (by decide) (fun K hK => ?_)
    have hs181 := cz0 BK307.out
    have hfs181 := blk_frozen BK307.out 0
    have hns181_0 := NB305_307.out
    have hns181_1 := NB306_307.out
    have hns181_3 := NB308_307.out
    have hns181_4 := NB316_307.out
    have hns181_5 := NB326_307.out
    have hms181_0 := NB307_305.out
    have hms181_1 := NB307_306.out
    have hms181_3 := NB307_308.out
    have hms181_4 := NB307_316.out
    have hms181_5 := NB307_326.out
    have hs182 := cz1 BK307.out
    have hfs182 := blk_frozen BK307.out 1
    have hns182_0 := NB305_307.out
    have hns182_1 := NB306_307.out
    have hns182_3 := NB308_307.out
    have hns182_4 := NB316_307.out
    have hns182_5 := NB326_307.out
    have hms182_0 := NB307_305.out
    have hms182_1 := NB307_306.out
    have hms182_3 := NB307_308.out
    have hms182_4 := NB307_316.out
    have hms182_5 := NB307_326.out
    have hs183 := cz2 BK307.out
    have hfs183 := blk_frozen BK307.out 2
    have hns183_0 := NB305_307.out
    have hns183_1 := NB306_307.out
    have hns183_3 := NB308_307.out
    have hns183_4 := NB316_307.out
    have hns183_5 := NB326_307.out
    have hms183_0 := NB307_305.out
    have hms183_1 := NB307_306.out
    have hms183_3 := NB307_308.out
    have hms183_4 := NB307_316.out
    have hms183_5 := NB307_326.out
    refine skip_ (w1 := ?_) (by rfl) rfl ?_ ?_
    rotate_left
    ·
     go_simp
     rfl
    refine hK.out _ _ ⟨((cell_keep (((cell_keep (((cell_keep (hHeld.1) _).trans (hHeld.2.1))) _).trans (((cell_keep (hHeld.1) _).trans (hHeld.2.2.1))))) _).trans (((cell_keep (((cell_keep (hHeld.1) _).trans (hHeld.2.1))) _).trans (((cell_keep (hHeld.1) _).trans (hHeld.1)))))), ((cell_keep (((cell_keep (((cell_keep (hHeld.1) _).trans (hHeld.2.1))) _).trans (((cell_keep (hHeld.1) _).trans (hHeld.2.2.1))))) _).trans (((cell_keep (((cell_keep (hHeld.1) _).trans (hHeld.2.1))) _).trans (((cell_keep (hHeld.1) _).trans (hHeld.2.1)))))), ((cell_keep (((cell_keep (((cell_keep (hHeld.1) _).trans (hHeld.2.1))) _).trans (((cell_keep (hHeld.1) _).trans (hHeld.2.2.1))))) _).trans (((cell_keep (((cell_keep (hHeld.1) _).trans (hHeld.2.1))) _).trans (((cell_keep (hHeld.1) _).trans (hHeld.2.2.1)))))), ((cell_keep (((cell_keep (((cell_keep (hHeld.1) _).trans (hHeld.2.1))) _).trans (((cell_keep (hHeld.1) _).trans (hHeld.2.2.1))))) _).trans (((cell_keep (((cell_keep (hHeld.1) _).trans (hHeld.2.1))) _).trans (((cell_keep (hHeld.1) _).trans (hHeld.2.2.2.1)))))), ((cell_keep (((cell_keep (((cell_keep (hHeld.1) _).trans (hHeld.2.1))) _).trans (((cell_keep (hHeld.1) _).trans (hHeld.2.2.1))))) _).trans (((cell_keep (((cell_keep (hHeld.1) _).trans (hHeld.2.1))) _).trans (((cell_keep (hHeld.1) _).trans (hHeld.2.2.2.2))))))⟩ (fun hHeld => ?_)
    clear hK K
    refine one_ (i := 4) (N := none) (bs 6 31) rfl rfl (by kernel_rfl) (by decide) (fun K hK => ?_)
    have hs184 := cz0 BK308.out
    have hfs184 := blk_frozen BK308.out 0
    have hns184_0 := NB305_308.out
    have hns184_1 := NB306_308.out
    have hns184_2 := NB307_308.out
    have hns184_4 := NB316_308.out
    have hns184_5 := NB326_308.out
    have hms184_0 := NB308_305.out
    have hms184_1 := NB308_306.out
    have hms184_2 := NB308_307.out
    have hms184_4 := NB308_316.out
    have hms184_5 := NB308_326.out
    have hs185 := cz1 BK308.out
    have hfs185 := blk_frozen BK308.out 1
    have hns185_0 := NB305_308.out
    have hns185_1 := NB306_308.out
    have hns185_2 := NB307_308.out
    have hns185_4 := NB316_308.out
    have hns185_5 := NB326_308.out
    have hms185_0 := NB308_305.out
    have hms185_1 := NB308_306.out
    have hms185_2 := NB308_307.out
    have hms185_4 := NB308_316.out
    have hms185_5 := NB308_326.out
    refine skip_ (w1 := ?_) (by rfl) rfl ?_ ?_
    rotate_left
    ·
     go_simp
     rfl
    refine hK.out _ _ ⟨((cell_keep (((cell_keep (hHeld.2.2.2.1) _).trans (hHeld.2.2.2.2))) _).trans (((cell_keep (hHeld.2.2.2.1) _).trans (hHeld.1)))), ((cell_keep (((cell_keep (hHeld.2.2.2.1) _).trans (hHeld.2.2.2.2))) _).trans (((cell_keep (hHeld.2.2.2.1) _).trans (hHeld.2.1)))), ((cell_keep (((cell_keep (hHeld.2.2.2.1) _).trans (hHeld.2.2.2.2))) _).trans (((cell_keep (hHeld.2.2.2.1) _).trans (hHeld.2.2.1)))), ((cell_keep (((cell_keep (hHeld.2.2.2.1) _).trans (hHeld.2.2.2.2))) _).trans (((cell_keep (hHeld.2.2.2.1) _).trans (hHeld.2.2.2.1)))), ((cell_keep (((cell_keep (hHeld.2.2.2.1) _).trans (hHeld.2.2.2.2))) _).trans (((cell_keep (hHeld.2.2.2.1) _).trans (hHeld.2.2.2.2))))⟩ (fun hHeld => ?_)
    clear hK K
    refine pure_ (i := 5) (N := some 12) (v := ?_) (a' := ?_) (bs 6 63) rfl rfl (by kernel_rfl) (fun _ _ _ h => h) (Or.inl ⟨by rfl, ?_⟩) ?_ ?_
    rotate_left
    · intro w'; go_simp; with_reducible rfl
    rotate_left
    · simp only [Act.put, List.setIfInBounds_toArray, List.set_cons_zero, List.set_cons_succ, i64_w, i32_w]; rfl
    refine done_ (by kernel_rfl) ?_
    try go_wp2
    refine bodyPost_ret (results_list (rs := [.cell 10 40, .cell 11 31, .tmp 12]) rfl (by simp) (.cell gb307 40 #[.int .i64 0, .int .i64 0, .bool false] (0, 0) _ rfl (by (with_reducible repeat (first | refine blk_drewN ?_ _ | refine blk_drew ?_ | refine blk_alloc ?_ _)); refine blk_far ?_ NB307_308.out _; (with_reducible repeat (first | refine blk_drewN ?_ _ | refine blk_drew ?_ | refine blk_alloc ?_ _)); refine blk_far ?_ NB307_308.out _; (with_reducible repeat (first | refine blk_drewN ?_ _ | refine blk_drew ?_ | refine blk_alloc ?_ _)); refine blk_put (cs := #[.int .i64 0, .int .i64 0, .bool false]) ?_ 2 _ rfl; (with_reducible repeat (first | refine blk_drewN ?_ _ | refine blk_drew ?_ | refine blk_alloc ?_ _)); refine blk_put (cs := #[.int .i64 0, .int .i64 0, .bool false]) ?_ 1 _ rfl; (with_reducible repeat (first | refine blk_drewN ?_ _ | refine blk_drew ?_ | refine blk_alloc ?_ _)); refine blk_put (cs := #[.int .i64 0, .int .i64 0, .bool false]) ?_ 0 _ rfl; (with_reducible repeat (first | refine blk_drewN ?_ _ | refine blk_drew ?_ | refine blk_alloc ?_ _)); exact BK307.out) Tryd.underlying40 rfl (by kernel_rfl) (.cell gb308 31 #[.int .i64 0, .int .i64 0] (0, 0) _ rfl (by (with_reducible repeat (first | refine blk_drewN ?_ _ | refine blk_drew ?_ | refine blk_alloc ?_ _)); refine blk_put (cs := #[.int .i64 0, .int .i64 0]) ?_ 1 _ rfl; (with_reducible repeat (first | refine blk_drewN ?_ _ | refine blk_drew ?_ | refine blk_alloc ?_ _)); refine blk_put (cs := #[.int .i64 0, .int .i64 0]) ?_ 0 _ rfl; (with_reducible repeat (first | refine blk_drewN ?_ _ | refine blk_drew ?_ | refine blk_alloc ?_ _)); refine blk_far ?_ NB308_307.out _; (with_reducible repeat (first | refine blk_drewN ?_ _ | refine blk_drew ?_ | refine blk_alloc ?_ _)); refine blk_far ?_ NB308_307.out _; (with_reducible repeat (first | refine blk_drewN ?_ _ | refine blk_drew ?_ | refine blk_alloc ?_ _)); refine blk_far ?_ NB308_307.out _; (with_reducible repeat (first | refine blk_drewN ?_ _ | refine blk_drew ?_ | refine blk_alloc ?_ _)); exact BK308.out) Tryd.underlying31 rfl (by kernel_rfl) (.tmp .nil)))) rfl ?_
    exact ⟨by first | rfl | (simp [errW_none, errW_some] <;> rfl) | (simp [*, errW_none, errW_some] <;> rfl), by repeat with_reducible first | exact HB.out | apply pw_below_drewN | refine below_set ?_ GE305.out | refine below_set ?_ GE306.out | refine below_set ?_ GE307.out | refine below_set ?_ GE308.out | refine below_set ?_ GE316.out | refine below_set ?_ GE326.out | apply below_drew1 | apply below_alloc⟩
   rw [if_pos c126] at H
   have c126b0 : (t331 == 0) = true := beq_iff_eq.mpr c126
   have c126b1 : (t331 != 0) = false := bne_eq_false_iff_eq.mpr c126
   clear c126
   replace H := Option.bind_eq_some_iff.mp H
   obtain ⟨⟨t332, t333, t334⟩, A1270, H⟩ := H
   (try dsimp only at H)
   have A127 := Aside0.mk A1270
   clear A1270
   simp only [Option.some.injEq, Prod.mk.injEq] at H
   obtain ⟨rfl, rfl, rfl, rfl, rfl, rfl⟩ := H
   have hnb128 := NB305_306.out
   have hnc128 := NB306_305.out
   have hnb129 := NB305_307.out
   have hnc129 := NB307_305.out
   have hnb130 := NB305_308.out
   have hnc130 := NB308_305.out
   have hnb131 := NB305_316.out
   have hnc131 := NB316_305.out
   have hcz132_0 := cz0 BK305.out
   have hcz132_1 := cz1 BK305.out
   have hcz132_2 := cz2 BK305.out
   have hcz132_3 := cz3 BK305.out
   have hcz132_4 := cz4 BK305.out
   have hcz132_5 := cz5 BK305.out
   have hfz132_0 := blk_frozen BK305.out 0
   have hfz132_1 := blk_frozen BK305.out 1
   have hfz132_2 := blk_frozen BK305.out 2
   have hfz132_3 := blk_frozen BK305.out 3
   have hfz132_4 := blk_frozen BK305.out 4
   have hfz132_5 := blk_frozen BK305.out 5
   try go_wp2_with (first | ((with_reducible refine gate_dst (N := 14) rfl ?_); refine box_event ?hg (N := 14) ?hd (cs := #[.int .i64 0, .int .i64 0]) (t := 54) ?hr ?_; (case hd => rfl); (case hg => rfl); (case hr => first | (go_simp; done) | (go_simp; rfl)); intro gb326 hg w133 hbox hb; have n0_ := Aside0.mk (Kd.R_below (by (with_reducible repeat (first | apply Kd.R_alloc | apply Kd.R_drewN | apply Kd.R_drew)); exact HO_317000.out) hb); have n1_ := Aside0.mk (Kd.R_below (by (with_reducible repeat (first | apply Kd.R_alloc | apply Kd.R_drewN | apply Kd.R_drew)); exact HO_317001.out) hb); have n2_ := Aside0.mk (blb hb BK305.out); have n3_ := Aside0.mk (blb hb BK306.out); have n4_ := Aside0.mk (blb hb BK307.out); have n5_ := Aside0.mk (blb hb BK308.out); have n6_ := Aside0.mk (blb hb BK316.out); have n7_ := Aside0.mk (below_step (by repeat with_reducible first | exact HB.out | apply pw_below_drewN | refine below_set ?_ GE305.out | refine below_set ?_ GE306.out | refine below_set ?_ GE307.out | refine below_set ?_ GE308.out | refine below_set ?_ GE316.out | apply below_drew1 | apply below_alloc) hb); have n8_ := Aside0.mk (hbox); have n9_ := Aside0.mk (geb hg (by repeat with_reducible first | exact HB.out | apply pw_below_drewN | refine below_set ?_ GE305.out | refine below_set ?_ GE306.out | refine below_set ?_ GE307.out | refine below_set ?_ GE308.out | refine below_set ?_ GE316.out | apply below_drew1 | apply below_alloc)); have n10_ := n9_; have n11_ := Aside0.mk ((nbl hg BK305.out)); have n12_ := Aside0.mk ((nbr hg BK305.out)); have n13_ := Aside0.mk ((nbl hg BK306.out)); have n14_ := Aside0.mk ((nbr hg BK306.out)); have n15_ := Aside0.mk ((nbl hg BK307.out)); have n16_ := Aside0.mk ((nbr hg BK307.out)); have n17_ := Aside0.mk ((nbl hg BK308.out)); have n18_ := Aside0.mk ((nbr hg BK308.out)); have n19_ := Aside0.mk ((nbl hg BK316.out)); have n20_ := Aside0.mk ((nbr hg BK316.out)); clear HO_317000; clear HO_317001; clear BK305; clear BK306; clear BK307; clear BK308; clear BK316; clear HB; have HO_317000 := n0_; have HO_317001 := n1_; have BK305 := n2_; have BK306 := n3_; have BK307 := n4_; have BK308 := n5_; have BK316 := n6_; have HB := n7_; have BK326 := n8_; have GW326 := n9_; have GE326 := n10_; have NB305_326 := n11_; have NB326_305 := n12_; have NB306_326 := n13_; have NB326_306 := n14_; have NB307_326 := n15_; have NB326_307 := n16_; have NB308_326 := n17_; have NB326_308 := n18_; have NB316_326 := n19_; have NB326_316 := n20_; clear n0_ n1_ n2_ n3_ n4_ n5_ n6_ n7_ n8_ n9_ n10_ n11_ n12_ n13_ n14_ n15_ n16_ n17_ n18_ n19_ n20_; clear hb hbox hg; have hnb134 := NB305_326.out; have hnc134 := NB326_305.out; have hcz135_0 := cz0 BK305.out; have hcz135_1 := cz1 BK305.out; have hcz135_2 := cz2 BK305.out; have hcz135_3 := cz3 BK305.out; have hcz135_4 := cz4 BK305.out; have hcz135_5 := cz5 BK305.out; have hfz135_0 := blk_frozen BK305.out 0; have hfz135_1 := blk_frozen BK305.out 1; have hfz135_2 := blk_frozen BK305.out 2; have hfz135_3 := blk_frozen BK305.out 3; have hfz135_4 := blk_frozen BK305.out 4; have hfz135_5 := blk_frozen BK305.out 5; have hnb136 := NB306_307.out; have hnc136 := NB307_306.out; have hnb137 := NB306_308.out; have hnc137 := NB308_306.out; have hnb138 := NB306_316.out; have hnc138 := NB316_306.out; have hnb139 := NB306_326.out; have hnc139 := NB326_306.out; have hcz140_0 := cz0 BK306.out; have hcz140_1 := cz1 BK306.out; have hfz140_0 := blk_frozen BK306.out 0; have hfz140_1 := blk_frozen BK306.out 1) | ((with_reducible refine gate_callee (f := 18) rfl ?_); refine goesL_ (some 55) rfl rfl Tryd.func18 (by kernel_rfl) rfl #[.string a0, .int .i64 a1, .agg #[.int .i64 a2_0, .int .i64 a2_1, .int .i64 a2_2, .int .i64 a2_3, .int .i64 a2_4, .int .i64 a2_5], .agg #[.int .i64 a3_0, .int .i64 a3_1], .slice A4 l4.length c4] rfl (map5 rfl rfl rfl rfl rfl) ?_; (with_reducible refine (move_Go.calls kj8 a0 a1 a2_0 a2_1 a2_2 a2_3 a2_4 a2_5 a3_0 a3_1 _ _ l4 t327 t328 t329 t330 t331 _ ?side1 ?side2 ?side3 A125.out).mono ?_); (case side1 => exact Tabs.below HT.out (by repeat with_reducible first | exact HB.out | apply pw_below_drewN | refine below_set ?_ GE305.out | refine below_set ?_ GE306.out | refine below_set ?_ GE307.out | refine below_set ?_ GE308.out | refine below_set ?_ GE316.out | refine below_set ?_ GE326.out | apply below_drew1 | apply below_alloc)); (case side2 => repeat (first | exact (Kd.C_below HR4.out HB.out) | with_reducible first | refine Kd.C_drewN ?_ _ | refine Kd.C_drew ?_ | refine Kd.C_alloc ?_ _)); (case side3 => exact HC4.out); rintro e w141 ⟨rfl, hb⟩; refine ⟨_, rfl, ?_⟩; have n0_ := Aside0.mk (Kd.R_below (by (with_reducible repeat (first | apply Kd.R_alloc | apply Kd.R_drewN | apply Kd.R_drew)); exact HO_317000.out) hb); have n1_ := Aside0.mk (Kd.R_below (by (with_reducible repeat (first | apply Kd.R_alloc | apply Kd.R_drewN | apply Kd.R_drew)); exact HO_317001.out) hb); have n2_ := Aside0.mk (blb hb BK305.out); have n3_ := Aside0.mk (blb hb BK306.out); have n4_ := Aside0.mk (blb hb BK307.out); have n5_ := Aside0.mk (blb hb BK308.out); have n6_ := Aside0.mk (blb hb BK316.out); have n7_ := Aside0.mk (blb hb BK326.out); have n8_ := Aside0.mk (below_step (by repeat with_reducible first | exact HB.out | apply pw_below_drewN | refine below_set ?_ GE305.out | refine below_set ?_ GE306.out | refine below_set ?_ GE307.out | refine below_set ?_ GE308.out | refine below_set ?_ GE316.out | refine below_set ?_ GE326.out | apply below_drew1 | apply below_alloc) hb); clear HO_317000; clear HO_317001; clear BK305; clear BK306; clear BK307; clear BK308; clear BK316; clear BK326; clear HB; have HO_317000 := n0_; have HO_317001 := n1_; have BK305 := n2_; have BK306 := n3_; have BK307 := n4_; have BK308 := n5_; have BK316 := n6_; have BK326 := n7_; have HB := n8_; clear n0_ n1_ n2_ n3_ n4_ n5_ n6_ n7_ n8_; (try clear hb); (try clear hb2); (try clear hk); (try clear hi); have hnb142 := NB326_307.out; have hnc142 := NB307_326.out; have hnb143 := NB326_308.out; have hnc143 := NB308_326.out; have hnb144 := NB326_316.out; have hnc144 := NB316_326.out; have hcz145_0 := cz0 BK326.out; have hcz145_1 := cz1 BK326.out; have hfz145_0 := blk_frozen BK326.out 0; have hfz145_1 := blk_frozen BK326.out 1; have hcz146_0 := cz0 BK306.out; have hcz146_1 := cz1 BK306.out; have hfz146_0 := blk_frozen BK306.out 0; have hfz146_1 := blk_frozen BK306.out 1; obtain ⟨Ao147, co147, eo147⟩ := Kd.R_slice HO_317000.out; subst eo147; obtain ⟨Ao148, co148, eo148⟩ := Kd.R_slice HO_317001.out; subst eo148) | ((with_reducible refine gate_callee (f := 30) rfl ?_); refine goesL_ (some 67) rfl rfl Tryd.func30 (by kernel_rfl) rfl #[.pointer (some ⟨gb316, 0, none⟩), .int .i64 a1, .int .i64 t327, .int .i64 t328] rfl (map4 rfl rfl rfl rfl) ?_; (with_reducible refine (region_between.calls kj8 gb316 Ao147 co147 t310 Ao148 co148 t313 a1 t327 t328 t332 t333 t334 _ ?side1 ?side2 ?side3 ?side4 ?side5 A127.out).mono ?_); (case side1 => (with_reducible repeat (first | refine blk_drewN ?_ _ | refine blk_drew ?_ | refine blk_alloc ?_ _)); refine blk_far ?_ NB316_306.out _; (with_reducible repeat (first | refine blk_drewN ?_ _ | refine blk_drew ?_ | refine blk_alloc ?_ _)); refine blk_far ?_ NB316_306.out _; (with_reducible repeat (first | refine blk_drewN ?_ _ | refine blk_drew ?_ | refine blk_alloc ?_ _)); refine blk_far ?_ NB316_326.out _; (with_reducible repeat (first | refine blk_drewN ?_ _ | refine blk_drew ?_ | refine blk_alloc ?_ _)); refine blk_far ?_ NB316_326.out _; (with_reducible repeat (first | refine blk_drewN ?_ _ | refine blk_drew ?_ | refine blk_alloc ?_ _)); exact BK316.out); (case side2 => refine (Kd.R_reads' (e := 21) (base := w.heap.size) (ok := fun k_ => True) (n := t310.length) (c := co147) ?_).2.2; exact (by (with_reducible repeat (first | apply Kd.R_alloc | apply Kd.R_drewN | apply Kd.R_drew)); exact (Kd.R_mono (Kd.R_mono (Kd.R_far (p := ⟨gb306, 1, none⟩) (Kd.R_far (p := ⟨gb306, 0, none⟩) (Kd.R_far (p := ⟨gb326, 1, none⟩) (Kd.R_far (p := ⟨gb326, 0, none⟩) (Kd.R_types (Kd.R_types HO_317000.out BK326.out (by decide)) BK306.out (by decide)) (fun _ hk => hk.1.2) (.int .i64 t327)) (fun _ hk => hk.1.2) (.int .i64 t328)) (fun _ hk => hk.2) (.int .i64 t329)) (fun _ hk => hk.2) (.int .i64 t330)) (fun _ h_ => h_.1)) (fun _ h_ => h_.1)))); (case side3 => exact (Kd.R_reads' HO_317000.out).2.1); (case side4 => refine (Kd.R_reads' (e := 3) (base := w.heap.size) (ok := fun k_ => True) (n := t313.length) (c := co148) ?_).2.2; exact (by (with_reducible repeat (first | apply Kd.R_alloc | apply Kd.R_drewN | apply Kd.R_drew)); exact (Kd.R_mono (Kd.R_mono (Kd.R_far (p := ⟨gb306, 1, none⟩) (Kd.R_far (p := ⟨gb306, 0, none⟩) (Kd.R_far (p := ⟨gb326, 1, none⟩) (Kd.R_far (p := ⟨gb326, 0, none⟩) (Kd.R_types (Kd.R_types HO_317001.out BK326.out (by decide)) BK306.out (by decide)) (fun _ hk => hk.1.2) (.int .i64 t327)) (fun _ hk => hk.1.2) (.int .i64 t328)) (fun _ hk => hk.2) (.int .i64 t329)) (fun _ hk => hk.2) (.int .i64 t330)) (fun _ h_ => h_.1)) (fun _ h_ => h_.1)))); (case side5 => exact (Kd.R_reads' HO_317001.out).2.1); rintro e w149 ⟨rfl, hb⟩; refine ⟨_, rfl, ?_⟩; have n0_ := Aside0.mk (Kd.R_below (by (with_reducible repeat (first | apply Kd.R_alloc | apply Kd.R_drewN | apply Kd.R_drew)); exact (Kd.R_mono (Kd.R_mono (Kd.R_far (p := ⟨gb306, 1, none⟩) (Kd.R_far (p := ⟨gb306, 0, none⟩) (Kd.R_far (p := ⟨gb326, 1, none⟩) (Kd.R_far (p := ⟨gb326, 0, none⟩) (Kd.R_types (Kd.R_types HO_317000.out BK326.out (by decide)) BK306.out (by decide)) (fun _ hk => hk.1.2) (.int .i64 t327)) (fun _ hk => hk.1.2) (.int .i64 t328)) (fun _ hk => hk.2) (.int .i64 t329)) (fun _ hk => hk.2) (.int .i64 t330)) (fun _ h_ => h_.1)) (fun _ h_ => h_.1))) hb); have n1_ := Aside0.mk (Kd.R_below (by (with_reducible repeat (first | apply Kd.R_alloc | apply Kd.R_drewN | apply Kd.R_drew)); exact (Kd.R_mono (Kd.R_mono (Kd.R_far (p := ⟨gb306, 1, none⟩) (Kd.R_far (p := ⟨gb306, 0, none⟩) (Kd.R_far (p := ⟨gb326, 1, none⟩) (Kd.R_far (p := ⟨gb326, 0, none⟩) (Kd.R_types (Kd.R_types HO_317001.out BK326.out (by decide)) BK306.out (by decide)) (fun _ hk => hk.1.2) (.int .i64 t327)) (fun _ hk => hk.1.2) (.int .i64 t328)) (fun _ hk => hk.2) (.int .i64 t329)) (fun _ hk => hk.2) (.int .i64 t330)) (fun _ h_ => h_.1)) (fun _ h_ => h_.1))) hb); have n2_ := Aside0.mk (blk_below (g := gb305) (o := .cells #[.int .i64 a2_0, .int .i64 a2_1, .int .i64 a2_2, .int .i64 a2_3, .int .i64 a2_4, .int .i64 a2_5] 52 (0, 0)) (by (with_reducible repeat (first | refine blk_drewN ?_ _ | refine blk_drew ?_ | refine blk_alloc ?_ _)); refine blk_far ?_ NB305_306.out _; (with_reducible repeat (first | refine blk_drewN ?_ _ | refine blk_drew ?_ | refine blk_alloc ?_ _)); refine blk_far ?_ NB305_306.out _; (with_reducible repeat (first | refine blk_drewN ?_ _ | refine blk_drew ?_ | refine blk_alloc ?_ _)); refine blk_far ?_ NB305_326.out _; (with_reducible repeat (first | refine blk_drewN ?_ _ | refine blk_drew ?_ | refine blk_alloc ?_ _)); refine blk_far ?_ NB305_326.out _; (with_reducible repeat (first | refine blk_drewN ?_ _ | refine blk_drew ?_ | refine blk_alloc ?_ _)); exact BK305.out) hb); have n3_ := Aside0.mk (blk_below (g := gb306) (o := .cells #[.int .i64 t329, .int .i64 t330] 31 (0, 0)) (by (with_reducible repeat (first | refine blk_drewN ?_ _ | refine blk_drew ?_ | refine blk_alloc ?_ _)); refine blk_put (cs := #[.int .i64 t329, .int .i64 a3_1]) ?_ 1 _ rfl; (with_reducible repeat (first | refine blk_drewN ?_ _ | refine blk_drew ?_ | refine blk_alloc ?_ _)); refine blk_put (cs := #[.int .i64 a3_0, .int .i64 a3_1]) ?_ 0 _ rfl; (with_reducible repeat (first | refine blk_drewN ?_ _ | refine blk_drew ?_ | refine blk_alloc ?_ _)); refine blk_far ?_ NB306_326.out _; (with_reducible repeat (first | refine blk_drewN ?_ _ | refine blk_drew ?_ | refine blk_alloc ?_ _)); refine blk_far ?_ NB306_326.out _; (with_reducible repeat (first | refine blk_drewN ?_ _ | refine blk_drew ?_ | refine blk_alloc ?_ _)); exact BK306.out) hb); have n4_ := Aside0.mk (blk_below (g := gb307) (o := .cells #[.int .i64 0, .int .i64 0, .bool false] 40 (0, 0)) (by (with_reducible repeat (first | refine blk_drewN ?_ _ | refine blk_drew ?_ | refine blk_alloc ?_ _)); refine blk_far ?_ NB307_306.out _; (with_reducible repeat (first | refine blk_drewN ?_ _ | refine blk_drew ?_ | refine blk_alloc ?_ _)); refine blk_far ?_ NB307_306.out _; (with_reducible repeat (first | refine blk_drewN ?_ _ | refine blk_drew ?_ | refine blk_alloc ?_ _)); refine blk_far ?_ NB307_326.out _; (with_reducible repeat (first | refine blk_drewN ?_ _ | refine blk_drew ?_ | refine blk_alloc ?_ _)); refine blk_far ?_ NB307_326.out _; (with_reducible repeat (first | refine blk_drewN ?_ _ | refine blk_drew ?_ | refine blk_alloc ?_ _)); exact BK307.out) hb); have n5_ := Aside0.mk (blk_below (g := gb308) (o := .cells #[.int .i64 0, .int .i64 0] 31 (0, 0)) (by (with_reducible repeat (first | refine blk_drewN ?_ _ | refine blk_drew ?_ | refine blk_alloc ?_ _)); refine blk_far ?_ NB308_306.out _; (with_reducible repeat (first | refine blk_drewN ?_ _ | refine blk_drew ?_ | refine blk_alloc ?_ _)); refine blk_far ?_ NB308_306.out _; (with_reducible repeat (first | refine blk_drewN ?_ _ | refine blk_drew ?_ | refine blk_alloc ?_ _)); refine blk_far ?_ NB308_326.out _; (with_reducible repeat (first | refine blk_drewN ?_ _ | refine blk_drew ?_ | refine blk_alloc ?_ _)); refine blk_far ?_ NB308_326.out _; (with_reducible repeat (first | refine blk_drewN ?_ _ | refine blk_drew ?_ | refine blk_alloc ?_ _)); exact BK308.out) hb); have n6_ := Aside0.mk (blk_below (g := gb316) (o := .cells #[.slice Ao147 t310.length co147, .slice Ao148 t313.length co148] 79 (0, 0)) (by (with_reducible repeat (first | refine blk_drewN ?_ _ | refine blk_drew ?_ | refine blk_alloc ?_ _)); refine blk_far ?_ NB316_306.out _; (with_reducible repeat (first | refine blk_drewN ?_ _ | refine blk_drew ?_ | refine blk_alloc ?_ _)); refine blk_far ?_ NB316_306.out _; (with_reducible repeat (first | refine blk_drewN ?_ _ | refine blk_drew ?_ | refine blk_alloc ?_ _)); refine blk_far ?_ NB316_326.out _; (with_reducible repeat (first | refine blk_drewN ?_ _ | refine blk_drew ?_ | refine blk_alloc ?_ _)); refine blk_far ?_ NB316_326.out _; (with_reducible repeat (first | refine blk_drewN ?_ _ | refine blk_drew ?_ | refine blk_alloc ?_ _)); exact BK316.out) hb); have n7_ := Aside0.mk (blk_below (g := gb326) (o := .cells #[.int .i64 t327, .int .i64 t328] 54 (0, 0)) (by (with_reducible repeat (first | refine blk_drewN ?_ _ | refine blk_drew ?_ | refine blk_alloc ?_ _)); refine blk_far ?_ NB326_306.out _; (with_reducible repeat (first | refine blk_drewN ?_ _ | refine blk_drew ?_ | refine blk_alloc ?_ _)); refine blk_far ?_ NB326_306.out _; (with_reducible repeat (first | refine blk_drewN ?_ _ | refine blk_drew ?_ | refine blk_alloc ?_ _)); refine blk_put (cs := #[.int .i64 t327, .int .i64 0]) ?_ 1 _ rfl; (with_reducible repeat (first | refine blk_drewN ?_ _ | refine blk_drew ?_ | refine blk_alloc ?_ _)); refine blk_put (cs := #[.int .i64 0, .int .i64 0]) ?_ 0 _ rfl; (with_reducible repeat (first | refine blk_drewN ?_ _ | refine blk_drew ?_ | refine blk_alloc ?_ _)); exact BK326.out) hb); have n8_ := Aside0.mk (below_step (by repeat with_reducible first | exact HB.out | apply pw_below_drewN | refine below_set ?_ GE305.out | refine below_set ?_ GE306.out | refine below_set ?_ GE307.out | refine below_set ?_ GE308.out | refine below_set ?_ GE316.out | refine below_set ?_ GE326.out | apply below_drew1 | apply below_alloc) hb); clear HO_317000; clear HO_317001; clear BK305; clear BK306; clear BK307; clear BK308; clear BK316; clear BK326; clear HB; have HO_317000 := n0_; have HO_317001 := n1_; have BK305 := n2_; have BK306 := n3_; have BK307 := n4_; have BK308 := n5_; have BK316 := n6_; have BK326 := n7_; have HB := n8_; clear n0_ n1_ n2_ n3_ n4_ n5_ n6_ n7_ n8_; (try clear hb); (try clear hb2); (try clear hk); (try clear hi); have hnb150 := NB307_308.out; have hnc150 := NB308_307.out; have hnb151 := NB307_316.out; have hnc151 := NB316_307.out; have hcz152_0 := cz0 BK307.out; have hcz152_1 := cz1 BK307.out; have hcz152_2 := cz2 BK307.out; have hfz152_0 := blk_frozen BK307.out 0; have hfz152_1 := blk_frozen BK307.out 1; have hfz152_2 := blk_frozen BK307.out 2))
   have n0_ : Aside0 (Kd.R (Kd.int .i32) 21 (((w149.setCell ⟨gb307, 0, none⟩ (.int .i64 t332)).setCell ⟨gb307, 1, none⟩ (.int .i64 t333)).setCell ⟨gb307, 2, none⟩ (.bool t334)) w.heap.size (fun _ => True) (.slice Ao147 t310.length co147) t310) := ⟨by (with_reducible repeat (first | apply Kd.R_alloc | apply Kd.R_drewN | apply Kd.R_drew)); exact Kd.R_mono (Kd.R_far (p := ⟨gb307, 2, none⟩) (Kd.R_far (p := ⟨gb307, 1, none⟩) (Kd.R_far (p := ⟨gb307, 0, none⟩) (Kd.R_types HO_317000.out BK307.out (by decide)) (fun _ hk => hk.2) (.int .i64 t332)) (fun _ hk => hk.2) (.int .i64 t333)) (fun _ hk => hk.2) (.bool t334)) (fun _ hk => trivial)⟩
   have n1_ : Aside0 (Kd.R (Kd.int .i64) 3 (((w149.setCell ⟨gb307, 0, none⟩ (.int .i64 t332)).setCell ⟨gb307, 1, none⟩ (.int .i64 t333)).setCell ⟨gb307, 2, none⟩ (.bool t334)) w.heap.size (fun _ => True) (.slice Ao148 t313.length co148) t313) := ⟨by (with_reducible repeat (first | apply Kd.R_alloc | apply Kd.R_drewN | apply Kd.R_drew)); exact Kd.R_mono (Kd.R_far (p := ⟨gb307, 2, none⟩) (Kd.R_far (p := ⟨gb307, 1, none⟩) (Kd.R_far (p := ⟨gb307, 0, none⟩) (Kd.R_types HO_317001.out BK307.out (by decide)) (fun _ hk => hk.2) (.int .i64 t332)) (fun _ hk => hk.2) (.int .i64 t333)) (fun _ hk => hk.2) (.bool t334)) (fun _ hk => trivial)⟩
   have n2_ : Aside0 ((((w149.setCell ⟨gb307, 0, none⟩ (.int .i64 t332)).setCell ⟨gb307, 1, none⟩ (.int .i64 t333)).setCell ⟨gb307, 2, none⟩ (.bool t334)).heap[gb305]? = some (.cells #[.int .i64 a2_0, .int .i64 a2_1, .int .i64 a2_2, .int .i64 a2_3, .int .i64 a2_4, .int .i64 a2_5] 52 (0, 0))) := ⟨by (with_reducible repeat (first | refine blk_drewN ?_ _ | refine blk_drew ?_ | refine blk_alloc ?_ _)); refine blk_far ?_ NB305_307.out _; (with_reducible repeat (first | refine blk_drewN ?_ _ | refine blk_drew ?_ | refine blk_alloc ?_ _)); refine blk_far ?_ NB305_307.out _; (with_reducible repeat (first | refine blk_drewN ?_ _ | refine blk_drew ?_ | refine blk_alloc ?_ _)); refine blk_far ?_ NB305_307.out _; (with_reducible repeat (first | refine blk_drewN ?_ _ | refine blk_drew ?_ | refine blk_alloc ?_ _)); exact BK305.out⟩
   have n3_ : Aside0 ((((w149.setCell ⟨gb307, 0, none⟩ (.int .i64 t332)).setCell ⟨gb307, 1, none⟩ (.int .i64 t333)).setCell ⟨gb307, 2, none⟩ (.bool t334)).heap[gb306]? = some (.cells #[.int .i64 t329, .int .i64 t330] 31 (0, 0))) := ⟨by (with_reducible repeat (first | refine blk_drewN ?_ _ | refine blk_drew ?_ | refine blk_alloc ?_ _)); refine blk_far ?_ NB306_307.out _; (with_reducible repeat (first | refine blk_drewN ?_ _ | refine blk_drew ?_ | refine blk_alloc ?_ _)); refine blk_far ?_ NB306_307.out _; (with_reducible repeat (first | refine blk_drewN ?_ _ | refine blk_drew ?_ | refine blk_alloc ?_ _)); refine blk_far ?_ NB306_307.out _; (with_reducible repeat (first | refine blk_drewN ?_ _ | refine blk_drew ?_ | refine blk_alloc ?_ _)); exact BK306.out⟩
   have n4_ : Aside0 ((((w149.setCell ⟨gb307, 0, none⟩ (.int .i64 t332)).setCell ⟨gb307, 1, none⟩ (.int .i64 t333)).setCell ⟨gb307, 2, none⟩ (.bool t334)).heap[gb307]? = some (.cells #[.int .i64 t332, .int .i64 t333, .bool t334] 40 (0, 0))) := ⟨by (with_reducible repeat (first | refine blk_drewN ?_ _ | refine blk_drew ?_ | refine blk_alloc ?_ _)); refine blk_put (cs := #[.int .i64 t332, .int .i64 t333, .bool false]) ?_ 2 _ rfl; (with_reducible repeat (first | refine blk_drewN ?_ _ | refine blk_drew ?_ | refine blk_alloc ?_ _)); refine blk_put (cs := #[.int .i64 t332, .int .i64 0, .bool false]) ?_ 1 _ rfl; (with_reducible repeat (first | refine blk_drewN ?_ _ | refine blk_drew ?_ | refine blk_alloc ?_ _)); refine blk_put (cs := #[.int .i64 0, .int .i64 0, .bool false]) ?_ 0 _ rfl; (with_reducible repeat (first | refine blk_drewN ?_ _ | refine blk_drew ?_ | refine blk_alloc ?_ _)); exact BK307.out⟩
   have n5_ : Aside0 ((((w149.setCell ⟨gb307, 0, none⟩ (.int .i64 t332)).setCell ⟨gb307, 1, none⟩ (.int .i64 t333)).setCell ⟨gb307, 2, none⟩ (.bool t334)).heap[gb308]? = some (.cells #[.int .i64 0, .int .i64 0] 31 (0, 0))) := ⟨by (with_reducible repeat (first | refine blk_drewN ?_ _ | refine blk_drew ?_ | refine blk_alloc ?_ _)); refine blk_far ?_ NB308_307.out _; (with_reducible repeat (first | refine blk_drewN ?_ _ | refine blk_drew ?_ | refine blk_alloc ?_ _)); refine blk_far ?_ NB308_307.out _; (with_reducible repeat (first | refine blk_drewN ?_ _ | refine blk_drew ?_ | refine blk_alloc ?_ _)); refine blk_far ?_ NB308_307.out _; (with_reducible repeat (first | refine blk_drewN ?_ _ | refine blk_drew ?_ | refine blk_alloc ?_ _)); exact BK308.out⟩
   have n6_ : Aside0 ((((w149.setCell ⟨gb307, 0, none⟩ (.int .i64 t332)).setCell ⟨gb307, 1, none⟩ (.int .i64 t333)).setCell ⟨gb307, 2, none⟩ (.bool t334)).heap[gb316]? = some (.cells #[.slice Ao147 t310.length co147, .slice Ao148 t313.length co148] 79 (0, 0))) := ⟨by (with_reducible repeat (first | refine blk_drewN ?_ _ | refine blk_drew ?_ | refine blk_alloc ?_ _)); refine blk_far ?_ NB316_307.out _; (with_reducible repeat (first | refine blk_drewN ?_ _ | refine blk_drew ?_ | refine blk_alloc ?_ _)); refine blk_far ?_ NB316_307.out _; (with_reducible repeat (first | refine blk_drewN ?_ _ | refine blk_drew ?_ | refine blk_alloc ?_ _)); refine blk_far ?_ NB316_307.out _; (with_reducible repeat (first | refine blk_drewN ?_ _ | refine blk_drew ?_ | refine blk_alloc ?_ _)); exact BK316.out⟩
   have n7_ : Aside0 ((((w149.setCell ⟨gb307, 0, none⟩ (.int .i64 t332)).setCell ⟨gb307, 1, none⟩ (.int .i64 t333)).setCell ⟨gb307, 2, none⟩ (.bool t334)).heap[gb326]? = some (.cells #[.int .i64 t327, .int .i64 t328] 54 (0, 0))) := ⟨by (with_reducible repeat (first | refine blk_drewN ?_ _ | refine blk_drew ?_ | refine blk_alloc ?_ _)); refine blk_far ?_ NB326_307.out _; (with_reducible repeat (first | refine blk_drewN ?_ _ | refine blk_drew ?_ | refine blk_alloc ?_ _)); refine blk_far ?_ NB326_307.out _; (with_reducible repeat (first | refine blk_drewN ?_ _ | refine blk_drew ?_ | refine blk_alloc ?_ _)); refine blk_far ?_ NB326_307.out _; (with_reducible repeat (first | refine blk_drewN ?_ _ | refine blk_drew ?_ | refine blk_alloc ?_ _)); exact BK326.out⟩
   have n8_ : Aside0 (Below w.heap.size w (((w149.setCell ⟨gb307, 0, none⟩ (.int .i64 t332)).setCell ⟨gb307, 1, none⟩ (.int .i64 t333)).setCell ⟨gb307, 2, none⟩ (.bool t334))) := ⟨by repeat with_reducible first | exact HB.out | apply pw_below_drewN | refine below_set ?_ GE305.out | refine below_set ?_ GE306.out | refine below_set ?_ GE307.out | refine below_set ?_ GE308.out | refine below_set ?_ GE316.out | refine below_set ?_ GE326.out | apply below_drew1 | apply below_alloc⟩
   (try clear HO_317000)
   (try clear HO_317001)
   (try clear BK305)
   (try clear BK306)
   (try clear BK307)
   (try clear BK308)
   (try clear BK316)
   (try clear BK326)
   (try clear HB)
   generalize (((w149.setCell ⟨gb307, 0, none⟩ (.int .i64 t332)).setCell ⟨gb307, 1, none⟩ (.int .i64 t333)).setCell ⟨gb307, 2, none⟩ (.bool t334)) = w153 at n0_ n1_ n2_ n3_ n4_ n5_ n6_ n7_ n8_ ⊢
   have HO_317000 := n0_
   have HO_317001 := n1_
   have BK305 := n2_
   have BK306 := n3_
   have BK307 := n4_
   have BK308 := n5_
   have BK316 := n6_
   have BK326 := n7_
   have HB := n8_
   clear n0_ n1_ n2_ n3_ n4_ n5_ n6_ n7_ n8_
   have n0_ := Aside0.mk (Kd.R_drew HO_317000.out)
   have n1_ := Aside0.mk (Kd.R_drew HO_317001.out)
   have n2_ := Aside0.mk (blk_drew BK305.out)
   have n3_ := Aside0.mk (blk_drew BK306.out)
   have n4_ := Aside0.mk (blk_drew BK307.out)
   have n5_ := Aside0.mk (blk_drew BK308.out)
   have n6_ := Aside0.mk (blk_drew BK316.out)
   have n7_ := Aside0.mk (blk_drew BK326.out)
   have n8_ := Aside0.mk (below_drew1 HB.out)
   clear HO_317000
   clear HO_317001
   clear BK305
   clear BK306
   clear BK307
   clear BK308
   clear BK316
   clear BK326
   clear HB
   have HO_317000 := n0_
   have HO_317001 := n1_
   have BK305 := n2_
   have BK306 := n3_
   have BK307 := n4_
   have BK308 := n5_
   have BK316 := n6_
   have BK326 := n7_
   have HB := n8_
   clear n0_ n1_ n2_ n3_ n4_ n5_ n6_ n7_ n8_
   refine start_ (n := 5) (S := fun w' => w'.cell? ⟨gb307, 0, none⟩ = some (.int .i64 t332) ∧ w'.cell? ⟨gb307, 1, none⟩ = some (.int .i64 t333) ∧ w'.cell? ⟨gb307, 2, none⟩ = some (.bool t334) ∧ w'.cell? ⟨gb306, 0, none⟩ = some (.int .i64 t329) ∧ w'.cell? ⟨gb306, 1, none⟩ = some (.int .i64 t330)) (ds := []) (bs 5 0) (by kernel_rfl) rfl rfl ⟨(blk_cell BK307.out 0).trans rfl, (blk_cell BK307.out 1).trans rfl, (blk_cell BK307.out 2).trans rfl, (blk_cell BK306.out 0).trans rfl, (blk_cell BK306.out 1).trans rfl⟩ (fun hHeld => ?_)
   generalize w153.drew = w154 at HO_317000 HO_317001 BK305 BK306 BK307 BK308 BK316 BK326 HB hHeld ⊢
   refine take_ (i := 0) (N := some 105) (v := ?_) (a' := ?_) (bs 5 1) rfl rfl (by kernel_rfl) (fun _ _ _ h => h) (Or.inl ⟨by rfl, ?_⟩) hHeld ?_ ?_
   rotate_left
   · rintro w' ⟨s0, s1, s2, s3, s4⟩; go_simp; with_reducible rfl
   rotate_left
   · simp only [Act.put, List.setIfInBounds_toArray, List.set_cons_zero, List.set_cons_succ, i64_w, i32_w]; rfl
   refine take_ (i := 1) (N := some 106) (v := ?_) (a' := ?_) (bs 5 3) rfl rfl (by kernel_rfl) (fun _ _ _ h => h) (Or.inl ⟨by rfl, ?_⟩) hHeld ?_ ?_
   rotate_left
   · rintro w' ⟨s0, s1, s2, s3, s4⟩; go_simp; with_reducible rfl
   rotate_left
   · simp only [Act.put, List.setIfInBounds_toArray, List.set_cons_zero, List.set_cons_succ, i64_w, i32_w]; rfl
   refine one_ (i := 2) (N := none) (bs 5 7) rfl rfl (by kernel_rfl) (by decide) (fun K hK => ?_)
   have hs155 := cz0 BK307.out
   have hfs155 := blk_frozen BK307.out 0
   have hns155_0 := NB305_307.out
   have hns155_1 := NB306_307.out
   have hns155_3 := NB308_307.out
   have hns155_4 := NB316_307.out
   have hns155_5 := NB326_307.out
   have hms155_0 := NB307_305.out
   have hms155_1 := NB307_306.out
   have hms155_3 := NB307_308.out
   have hms155_4 := NB307_316.out
   have hms155_5 := NB307_326.out
   have hs156 := cz1 BK307.out
   have hfs156 := blk_frozen BK307.out 1
   have hns156_0 := NB305_307.out
   have hns156_1 := NB306_307.out
   have hns156_3 := NB308_307.out
   have hns156_4 := NB316_307.out
   have hns156_5 := NB326_307.out
   have hms156_0 := NB307_305.out
   have hms156_1 := NB307_306.out
   have hms156_3 := NB307_308.out
   have hms156_4 := NB307_316.out
   have hms156_5 := NB307_326.out
   have hs157 := cz2 BK307.out
   have hfs157 := blk_frozen BK307.out 2
   have hns157_0 := NB305_307.out
   have hns157_1 := NB306_307.out
   have hns157_3 := NB308_307.out
   have hns157_4 := NB316_307.out
   have hns157_5 := NB326_307.out
   have hms157_0 := NB307_305.out
   have hms157_1 := NB307_306.out
   have hms157_3 := NB307_308.out
   have hms157_4 := NB307_316.out
   have hms157_5 := NB307_326.out
   refine skip_ (w1 := ?_) (by rfl) rfl ?_ ?_
   rotate_left
   ·
    go_simp
    rfl
   refine hK.out _ _ ⟨((cell_keep (((cell_keep (((cell_keep (hHeld.1) _).trans (hHeld.2.1))) _).trans (((cell_keep (hHeld.1) _).trans (hHeld.2.2.1))))) _).trans (((cell_keep (((cell_keep (hHeld.1) _).trans (hHeld.2.1))) _).trans (((cell_keep (hHeld.1) _).trans (hHeld.1)))))), ((cell_keep (((cell_keep (((cell_keep (hHeld.1) _).trans (hHeld.2.1))) _).trans (((cell_keep (hHeld.1) _).trans (hHeld.2.2.1))))) _).trans (((cell_keep (((cell_keep (hHeld.1) _).trans (hHeld.2.1))) _).trans (((cell_keep (hHeld.1) _).trans (hHeld.2.1)))))), ((cell_keep (((cell_keep (((cell_keep (hHeld.1) _).trans (hHeld.2.1))) _).trans (((cell_keep (hHeld.1) _).trans (hHeld.2.2.1))))) _).trans (((cell_keep (((cell_keep (hHeld.1) _).trans (hHeld.2.1))) _).trans (((cell_keep (hHeld.1) _).trans (hHeld.2.2.1)))))), ((cell_keep (((cell_keep (((cell_keep (hHeld.1) _).trans (hHeld.2.1))) _).trans (((cell_keep (hHeld.1) _).trans (hHeld.2.2.1))))) _).trans (((cell_keep (((cell_keep (hHeld.1) _).trans (hHeld.2.1))) _).trans (((cell_keep (hHeld.1) _).trans (hHeld.2.2.2.1)))))), ((cell_keep (((cell_keep (((cell_keep (hHeld.1) _).trans (hHeld.2.1))) _).trans (((cell_keep (hHeld.1) _).trans (hHeld.2.2.1))))) _).trans (((cell_keep (((cell_keep (hHeld.1) _).trans (hHeld.2.1))) _).trans (((cell_keep (hHeld.1) _).trans (hHeld.2.2.2.2))))))⟩ (fun hHeld => ?_)
   clear hK K
   refine one_ (i := 3) (N := none) (bs 5 15) rfl rfl (by kernel_rfl) (by decide) (fun K hK => ?_)
   have hs158 := cz0 BK308.out
   have hfs158 := blk_frozen BK308.out 0
   have hns158_0 := NB305_308.out
   have hns158_1 := NB306_308.out
   have hns158_2 := NB307_308.out
   have hns158_4 := NB316_308.out
   have hns158_5 := NB326_308.out
   have hms158_0 := NB308_305.out
   have hms158_1 := NB308_306.out
   have hms158_2 := NB308_307.out
   have hms158_4 := NB308_316.out
   have hms158_5 := NB308_326.out
   have hs159 := cz1 BK308.out
   have hfs159 := blk_frozen BK308.out 1
   have hns159_0 := NB305_308.out
   have hns159_1 := NB306_308.out
   have hns159_2 := NB307_308.out
   have hns159_4 := NB316_308.out
   have hns159_5 := NB326_308.out
   have hms159_0 := NB308_305.out
   have hms159_1 := NB308_306.out
   have hms159_2 := NB308_307.out
   have hms159_4 := NB308_316.out
   have hms159_5 := NB308_326.out
   refine skip_ (w1 := ?_) (by rfl) rfl ?_ ?_
   rotate_left
   ·
    go_simp
    rfl
   refine hK.out _ _ ⟨((cell_far (p := ⟨gb308, _, none⟩) NB307_308.out _).trans (((cell_far (p := ⟨gb308, _, none⟩) NB307_308.out _).trans (hHeld.1)))), ((cell_far (p := ⟨gb308, _, none⟩) NB307_308.out _).trans (((cell_far (p := ⟨gb308, _, none⟩) NB307_308.out _).trans (hHeld.2.1)))), ((cell_far (p := ⟨gb308, _, none⟩) NB307_308.out _).trans (((cell_far (p := ⟨gb308, _, none⟩) NB307_308.out _).trans (hHeld.2.2.1)))), ((cell_far (p := ⟨gb308, _, none⟩) NB306_308.out _).trans (((cell_far (p := ⟨gb308, _, none⟩) NB306_308.out _).trans (hHeld.2.2.2.1)))), ((cell_far (p := ⟨gb308, _, none⟩) NB306_308.out _).trans (((cell_far (p := ⟨gb308, _, none⟩) NB306_308.out _).trans (hHeld.2.2.2.2))))⟩ (fun hHeld => ?_)
   clear hK K
   refine pure_ (i := 4) (N := some 12) (v := ?_) (a' := ?_) (bs 5 31) rfl rfl (by kernel_rfl) (fun _ _ _ h => h) (Or.inl ⟨by rfl, ?_⟩) ?_ ?_
   rotate_left
   · intro w'; go_simp; with_reducible rfl
   rotate_left
   · simp only [Act.put, List.setIfInBounds_toArray, List.set_cons_zero, List.set_cons_succ, i64_w, i32_w]; rfl
   refine done_ (by kernel_rfl) ?_
   try go_wp2
   refine bodyPost_ret (results_list (rs := [.cell 10 40, .cell 11 31, .tmp 12]) rfl (by simp) (.cell gb307 40 #[.int .i64 t332, .int .i64 t333, .bool t334] (0, 0) _ rfl (by (with_reducible repeat (first | refine blk_drewN ?_ _ | refine blk_drew ?_ | refine blk_alloc ?_ _)); refine blk_far ?_ NB307_308.out _; (with_reducible repeat (first | refine blk_drewN ?_ _ | refine blk_drew ?_ | refine blk_alloc ?_ _)); refine blk_far ?_ NB307_308.out _; (with_reducible repeat (first | refine blk_drewN ?_ _ | refine blk_drew ?_ | refine blk_alloc ?_ _)); refine blk_put (cs := #[.int .i64 t332, .int .i64 t333, .bool t334]) ?_ 2 _ rfl; (with_reducible repeat (first | refine blk_drewN ?_ _ | refine blk_drew ?_ | refine blk_alloc ?_ _)); refine blk_put (cs := #[.int .i64 t332, .int .i64 t333, .bool t334]) ?_ 1 _ rfl; (with_reducible repeat (first | refine blk_drewN ?_ _ | refine blk_drew ?_ | refine blk_alloc ?_ _)); refine blk_put (cs := #[.int .i64 t332, .int .i64 t333, .bool t334]) ?_ 0 _ rfl; (with_reducible repeat (first | refine blk_drewN ?_ _ | refine blk_drew ?_ | refine blk_alloc ?_ _)); exact BK307.out) Tryd.underlying40 rfl (by kernel_rfl) (.cell gb308 31 #[.int .i64 t329, .int .i64 t330] (0, 0) _ rfl (by (with_reducible repeat (first | refine blk_drewN ?_ _ | refine blk_drew ?_ | refine blk_alloc ?_ _)); refine blk_put (cs := #[.int .i64 t329, .int .i64 0]) ?_ 1 _ rfl; (with_reducible repeat (first | refine blk_drewN ?_ _ | refine blk_drew ?_ | refine blk_alloc ?_ _)); refine blk_put (cs := #[.int .i64 0, .int .i64 0]) ?_ 0 _ rfl; (with_reducible repeat (first | refine blk_drewN ?_ _ | refine blk_drew ?_ | refine blk_alloc ?_ _)); refine blk_far ?_ NB308_307.out _; (with_reducible repeat (first | refine blk_drewN ?_ _ | refine blk_drew ?_ | refine blk_alloc ?_ _)); refine blk_far ?_ NB308_307.out _; (with_reducible repeat (first | refine blk_drewN ?_ _ | refine blk_drew ?_ | refine blk_alloc ?_ _)); refine blk_far ?_ NB308_307.out _; (with_reducible repeat (first | refine blk_drewN ?_ _ | refine blk_drew ?_ | refine blk_alloc ?_ _)); exact BK308.out) Tryd.underlying31 rfl (by kernel_rfl) (.tmp .nil)))) rfl ?_
   exact ⟨by first | rfl | (simp [errW_none, errW_some] <;> rfl) | (simp [*, errW_none, errW_some] <;> rfl), by repeat with_reducible first | exact HB.out | apply pw_below_drewN | refine below_set ?_ GE305.out | refine below_set ?_ GE306.out | refine below_set ?_ GE307.out | refine below_set ?_ GE308.out | refine below_set ?_ GE316.out | refine below_set ?_ GE326.out | apply below_drew1 | apply below_alloc⟩

end Go.Proofs.YtbgmmcngkdhpcaaDoor.P
