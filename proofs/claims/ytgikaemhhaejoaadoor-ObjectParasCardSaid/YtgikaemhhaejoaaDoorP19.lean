/- The walks of the functions that these statements reach: each Go function as a plain Lean function, and the proof that its call comes to that. Written by the session's program wip/pp.py. -/
import Derived.Test.YtgikaemhhaejoaaDoorP0
import Derived.Test.YtgikaemhhaejoaaDoorP15
namespace Go.Proofs.YtgikaemhhaejoaaDoor.P
open Go.Proofs.YtgikaemhhaejoaaDoor
open Go.RowKit Go.Proofs.YtgikaemhhaejoaaDoorW.PrintWords Go.Proofs.YtgikaemhhaejoaaDoorW.PrintLast Go.Proofs.YtgikaemhhaejoaaDoorW.PrintMore
attribute [local go_sem] max2_int min2_int max_two min_two max_three min_three max_four min_four   -- for this text's walks alone
set_option linter.unusedVariables false
set_option linter.unusedSimpArgs false

/-! ### quilllaw15_ObjectParas: function 6 -/
def quilllaw15_ObjectParas.f (k : Nat) (l0_0 : List ByteArray) (a0_1 : Int) (a0_2 : Int) (a0_3 : Int) (a0_4 : Int) (a0_5 : Int) (a0_6 : Int) (a0_7 : Int) : Option (Bool) := (quilllaw15_pieces.f k l0_0 a0_1 a0_2 a0_3 a0_4 a0_5 a0_6 a0_7 (([112, a0_5, 120] : List Int))).bind fun t425 => (some t425)
theorem quilllaw15_ObjectParas.mono : ∀ a0 a1 a2 a3 a4 a5 a6 a7 k, LeO (quilllaw15_ObjectParas.f k a0 a1 a2 a3 a4 a5 a6 a7) (quilllaw15_ObjectParas.f (k + 1) a0 a1 a2 a3 a4 a5 a6 a7) := by
  intro a0 a1 a2 a3 a4 a5 a6 a7 k
  unfold quilllaw15_ObjectParas.f
  repeat' first | (with_reducible first | exact quilllaw15_pieces.mono _ _ _ _ _ _ _ _ _ _ | exact LeO.refl _ | exact LeO.none _ | refine LeO.ite ?_ ?_ | refine LeO.bind ?_ (fun _ => ?_)) | exact quilllaw15_pieces.mono _ _ _ _ _ _ _ _ _ _ | exact LeO.refl _ | exact LeO.none _ | refine LeO.ite ?_ ?_ | refine LeO.bind ?_ (fun _ => ?_)
set_option maxHeartbeats 8000000 in
set_option maxRecDepth 100000 in
theorem quilllaw15_ObjectParas.calls (k : Nat) (A0_0 : Option Addr) (c0_0 : Nat) (l0_0 : List ByteArray) (a0_1 : Int) (a0_2 : Int) (a0_3 : Int) (a0_4 : Int) (a0_5 : Int) (a0_6 : Int) (a0_7 : Int) (r : Bool) (w : World) (hT : Tabs w) (hr0_0 : Kd.C Kd.string w A0_0 l0_0.length l0_0) (hc0_0 : l0_0.length ≤ c0_0) (h : quilllaw15_ObjectParas.f k l0_0 a0_1 a0_2 a0_3 a0_4 a0_5 a0_6 a0_7 = some r) :
  Calls Tryd.prog 6 #[.agg #[.slice A0_0 l0_0.length c0_0, .int .i64 a0_1, .int .i64 a0_2, .int .i64 a0_3, .int .i64 a0_4, .int .i64 a0_5, .int .i64 a0_6, .int .i64 a0_7]] w fun e w' => e = .returned (.bool r) ∧ Below w.heap.size w w' := by
 have hu28 := Tryd.underlying28
 have HT := Aside0.mk hT
 clear hT
 have HR0_0 := Aside0.mk hr0_0
 have HC0_0 := Aside0.mk hc0_0
 clear hr0_0 hc0_0
 have HB := Aside0.mk (Below.refl w.heap.size w)
 have H : ((quilllaw15_pieces.f k l0_0 a0_1 a0_2 a0_3 a0_4 a0_5 a0_6 a0_7 (([112, a0_5, 120] : List Int))).bind fun t425 => (some t425)) = some r := h
 clear h
 obtain ⟨y422, hy422⟩ : ∃ y_ : List Int, y_ = (([112, a0_5, 120] : List Int)) := ⟨_, rfl⟩
 replace H : ((quilllaw15_pieces.f k l0_0 a0_1 a0_2 a0_3 a0_4 a0_5 a0_6 a0_7 y422).bind fun t425 => (some t425)) = some r := by first | (rw [hy422]; with_reducible exact H) | (have H2_ := (Option.bind_some _ _).symm.trans H; rw [hy422]; with_reducible exact H2_) | (have H2_ := (Option.bind_some _ _).symm.trans H; with_reducible exact H2_) | with_reducible exact H | (rw [hy422]; exact H) | exact H
 have Ny422 := Aside0.mk hy422
 clear hy422
 replace H := Option.bind_eq_some_iff.mp H
 obtain ⟨t425, A20, H⟩ := H
 (try dsimp only at H)
 have A2 := Aside0.mk A20
 clear A20
 obtain rfl := Option.some.inj H
 go_enter Tryd.func6, Tryd.ntmps6
 go_wp2_with (first | ((with_reducible refine gate_dst (N := 1) rfl ?_); refine box_event ?hg (N := 1) ?hd (cs := #[.slice A0_0 l0_0.length c0_0, .int .i64 a0_1, .int .i64 a0_2, .int .i64 a0_3, .int .i64 a0_4, .int .i64 a0_5, .int .i64 a0_6, .int .i64 a0_7]) (t := 28) ?hr ?_; (case hd => rfl); (case hg => rfl); (case hr => first | (go_simp; done) | (go_simp; rfl)); intro gb421 hg w3 hbox hb; have n0_ := Aside0.mk (below_step (by repeat with_reducible first | exact HB.out | apply pw_below_drewN | apply below_drew1 | apply below_alloc) hb); have n1_ := Aside0.mk (hbox); have n2_ := Aside0.mk (geb hg (by repeat with_reducible first | exact HB.out | apply pw_below_drewN | apply below_drew1 | apply below_alloc)); have n3_ := n2_; clear HB; have HB := n0_; have BK421 := n1_; have GW421 := n2_; have GE421 := n3_; clear n0_ n1_ n2_ n3_; clear hb hbox hg; have hcz4_0 := cz0 BK421.out; have hcz4_1 := cz1 BK421.out; have hcz4_2 := cz2 BK421.out; have hcz4_3 := cz3 BK421.out; have hcz4_4 := cz4 BK421.out; have hcz4_5 := cz5 BK421.out; have hcz4_6 := cz6 BK421.out; have hcz4_7 := cz7 BK421.out; have hfz4_0 := blk_frozen BK421.out 0; have hfz4_1 := blk_frozen BK421.out 1; have hfz4_2 := blk_frozen BK421.out 2; have hfz4_3 := blk_frozen BK421.out 3; have hfz4_4 := blk_frozen BK421.out 4; have hfz4_5 := blk_frozen BK421.out 5; have hfz4_6 := blk_frozen BK421.out 6; have hfz4_7 := blk_frozen BK421.out 7) | ((with_reducible refine gate_dst (N := 6) rfl ?_); refine Kd.R_lit (Kd.int .i64) _ 3 ?hg (N := 6) ?hd (xs := ([112, a0_5, 120] : List Int)) (inner := [.int .i64 112, .int .i64 a0_5, .int .i64 120]) (ok := fun _ => True) (okp := fun _ => True) ?hr ?hp (fun _ hk => hk) trivial (Below.refl _ _) (Nat.le_refl _) (by simp) ?_; (case hd => rfl); (case hg => rfl); (case hr => first | (go_simp; done) | (go_simp; rfl)); (case hp => exact (Reps.one (show Kd.M (Kd.int .i64) _ _ _ 112 [.int .i64 112] from rfl) (Reps.one (show Kd.M (Kd.int .i64) _ _ _ a0_5 [.int .i64 a0_5] from rfl) (Reps.one (show Kd.M (Kd.int .i64) _ _ _ 120 [.int .i64 120] from rfl) (Reps.none _ _))))); intro v423 w5 ho6 hb hg_ hnew_; clear hg_ hnew_; (first | rw [← Ny422.out] at ho6 | (simp only [Int.reduceToNat] at ho6; rw [← Ny422.out] at ho6)); have n0_ := Aside0.mk (Kd.R_lower ho6 (below_size (by repeat with_reducible first | exact HB.out | apply pw_below_drewN | apply below_drew1 | apply below_alloc))); have n1_ := Aside0.mk (blb hb BK421.out); have n2_ := Aside0.mk (below_step (by repeat with_reducible first | exact HB.out | apply pw_below_drewN | apply below_drew1 | apply below_alloc) hb); clear BK421; clear HB; have HO424 := n0_; have BK421 := n1_; have HB := n2_; clear n0_ n1_ n2_; clear hb ho6; obtain ⟨Ao7, co7, eo7⟩ := Kd.R_slice HO424.out; subst eo7) | ((with_reducible refine gate_callee (f := 12) rfl ?_); refine goesL_ (some 7) rfl rfl Tryd.func12 (by kernel_rfl) rfl #[.agg #[.slice A0_0 l0_0.length c0_0, .int .i64 a0_1, .int .i64 a0_2, .int .i64 a0_3, .int .i64 a0_4, .int .i64 a0_5, .int .i64 a0_6, .int .i64 a0_7], .slice Ao7 y422.length co7] rfl (map2 rfl rfl) ?_; (with_reducible refine (quilllaw15_pieces.calls k _ _ l0_0 a0_1 a0_2 a0_3 a0_4 a0_5 a0_6 a0_7 _ _ y422 t425 _ ?side1 ?side2 ?side3 ?side4 ?side5 A2.out).mono ?_); (case side1 => exact Tabs.below HT.out (by repeat with_reducible first | exact HB.out | apply pw_below_drewN | apply below_drew1 | apply below_alloc)); (case side2 => repeat (first | exact (Kd.C_below HR0_0.out HB.out) | with_reducible first | refine Kd.C_drewN ?_ _ | refine Kd.C_drew ?_ | refine Kd.C_alloc ?_ _)); (case side3 => exact HC0_0.out); (case side4 => repeat (first | exact (Kd.R_reads' HO424.out).2.2 | with_reducible first | refine Kd.C_drewN ?_ _ | refine Kd.C_drew ?_ | refine Kd.C_alloc ?_ _)); (case side5 => exact (Kd.R_reads' HO424.out).2.1); rintro e w8 ⟨rfl, hb⟩; refine ⟨_, rfl, ?_⟩; have n0_ := Aside0.mk (Kd.R_below (by (with_reducible repeat (first | apply Kd.R_alloc | apply Kd.R_drewN | apply Kd.R_drew)); exact HO424.out) hb); have n1_ := Aside0.mk (blb hb BK421.out); have n2_ := Aside0.mk (below_step (by repeat with_reducible first | exact HB.out | apply pw_below_drewN | apply below_drew1 | apply below_alloc) hb); clear HO424; clear BK421; clear HB; have HO424 := n0_; have BK421 := n1_; have HB := n2_; clear n0_ n1_ n2_; (try clear hb); (try clear hb2); (try clear hk); (try clear hi)))
 go_ret
 exact ⟨by first | rfl | (simp [errW_none, errW_some] <;> rfl) | (simp [*, errW_none, errW_some] <;> rfl), by repeat with_reducible first | exact HB.out | apply pw_below_drewN | apply below_drew1 | apply below_alloc⟩

end Go.Proofs.YtgikaemhhaejoaaDoor.P
