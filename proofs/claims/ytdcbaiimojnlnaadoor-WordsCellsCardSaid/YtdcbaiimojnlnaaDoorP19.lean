/- The walks of the functions that these statements reach: each Go function as a plain Lean function, and the proof that its call comes to that. Written by the session's program wip/pp.py. -/
import Derived.Test.YtdcbaiimojnlnaaDoorP0
import Derived.Test.YtdcbaiimojnlnaaDoorP1
import Derived.Test.YtdcbaiimojnlnaaDoorP4
import Derived.Test.YtdcbaiimojnlnaaDoorP6
import Derived.Test.YtdcbaiimojnlnaaDoorP18
namespace Go.Proofs.YtdcbaiimojnlnaaDoor.P
open Go.Proofs.YtdcbaiimojnlnaaDoor
open Go.RowKit Go.Proofs.YtdcbaiimojnlnaaDoorW.PrintWords Go.Proofs.YtdcbaiimojnlnaaDoorW.PrintLast Go.Proofs.YtdcbaiimojnlnaaDoorW.PrintMore
attribute [local go_sem] max2_int min2_int max_two min_two max_three min_three max_four min_four   -- for this text's walks alone
set_option linter.unusedVariables false
set_option linter.unusedSimpArgs false

/-! ### quilllaw10_WordsCells: function 12 -/
mutual
def quilllaw10_WordsCells.l0 : Nat → Int → List ByteArray → Int → Int → Int → Int → Int → Int → Int → Option (Bool)
  | 0, _, _, _, _, _, _, _, _, _ => none
  | k + 1, x3, x347000, x347001, x347002, x347003, x347004, x347005, x347006, x347007 => if x3 < (x347000.length : Int) then (quilllaw10_WordsCells.j1 k x3 (decide (x3 < 4)) x347000 x347001 x347002 x347003 x347004 x347005 x347006 x347007) else (quilllaw10_WordsCells.j1 k x3 false x347000 x347001 x347002 x347003 x347004 x347005 x347006 x347007)
def quilllaw10_WordsCells.j1 : Nat → Int → Bool → List ByteArray → Int → Int → Int → Int → Int → Int → Int → Option (Bool)
  | 0, _, _, _, _, _, _, _, _, _, _ => none
  | k + 1, x3, x22, x347000, x347001, x347002, x347003, x347004, x347005, x347006, x347007 => if x22 = true then (quilllaw10_WordsCells.l1 k x3 0 x347000 x347001 x347002 x347003 x347004 x347005 x347006 x347007) else ((quilllaw10_wakes.f k).bind fun t348 => (some t348))
def quilllaw10_WordsCells.l1 : Nat → Int → Int → List ByteArray → Int → Int → Int → Int → Int → Int → Int → Option (Bool)
  | 0, _, _, _, _, _, _, _, _, _, _ => none
  | k + 1, x3, x4, x347000, x347001, x347002, x347003, x347004, x347005, x347006, x347007 => if x4 < 2 then (if 0 ≤ x3 then (if x3 < (x347000.length : Int) then ((words_Cells.f k (rdOf ByteArray.empty x347000 x3) (x4 == 1)).bind fun bt350 => ((quillref1_May.f k (rdOf ByteArray.empty x347000 x3)).bind fun t358 => (if t358 = true then (if (rdOf ByteArray.empty x347000 x3).size ≤ 70368744177664 then ((quillref10_Cells.f k (runesOf (rdOf ByteArray.empty x347000 x3)) (x4 == 1)).bind fun bt363 => (quilllaw10_WordsCells.j3 k x3 x4 bt350.1 bt350.2.1 bt350.2.2 0 bt363.1 bt363.2 x347000 x347001 x347002 x347003 x347004 x347005 x347006 x347007)) else (none)) else (quilllaw10_WordsCells.j3 k x3 x4 bt350.1 bt350.2.1 bt350.2.2 1 ([] : List Int) ([] : List Int) x347000 x347001 x347002 x347003 x347004 x347005 x347006 x347007)))) else (none)) else (none)) else (quilllaw10_WordsCells.l0 k (wrap64 (x3 + 1)) x347000 x347001 x347002 x347003 x347004 x347005 x347006 x347007)
def quilllaw10_WordsCells.j3 : Nat → Int → Int → List Int → List Int → Int → Int → List Int → List Int → List ByteArray → Int → Int → Int → Int → Int → Int → Int → Option (Bool)
  | 0, _, _, _, _, _, _, _, _, _, _, _, _, _, _, _, _ => none
  | k + 1, x3, x4, x5, x6, x7, x8, x9, x10, x347000, x347001, x347002, x347003, x347004, x347005, x347006, x347007 => (quilllaw10_num.f x7).bind fun t369 => (if t369 = x8 then ((quillref0_EqNumbers.f k x5 x9).bind fun t370 => (if t370 = true then ((quillref0_EqNumbers.f k x6 x10).bind fun t371 => (if t371 = true then ((quilllaw0_Numbers.f k x5).bind fun _ => (quilllaw10_WordsCells.l1 k x3 (wrap64 (x4 + 1)) x347000 x347001 x347002 x347003 x347004 x347005 x347006 x347007)) else (some false))) else (some false))) else (some false))
end
def quilllaw10_WordsCells.f (k : Nat) (l0_0 : List ByteArray) (a0_1 : Int) (a0_2 : Int) (a0_3 : Int) (a0_4 : Int) (a0_5 : Int) (a0_6 : Int) (a0_7 : Int) : Option (Bool) := (quilllaw10_Heavy.f k l0_0 a0_1 a0_2 a0_3 a0_4 a0_5 a0_6 a0_7).bind fun t347 => (if t347 = true then (some true) else (quilllaw10_WordsCells.l0 k 0 l0_0 a0_1 a0_2 a0_3 a0_4 a0_5 a0_6 a0_7))
theorem quilllaw10_WordsCells.mono_l : ∀ k, (∀ y0 y1 y2 y3 y4 y5 y6 y7 y8, LeO (quilllaw10_WordsCells.l0 k y0 y1 y2 y3 y4 y5 y6 y7 y8) (quilllaw10_WordsCells.l0 (k + 1) y0 y1 y2 y3 y4 y5 y6 y7 y8)) ∧ (∀ y0 y1 y2 y3 y4 y5 y6 y7 y8 y9, LeO (quilllaw10_WordsCells.j1 k y0 y1 y2 y3 y4 y5 y6 y7 y8 y9) (quilllaw10_WordsCells.j1 (k + 1) y0 y1 y2 y3 y4 y5 y6 y7 y8 y9)) ∧ (∀ y0 y1 y2 y3 y4 y5 y6 y7 y8 y9, LeO (quilllaw10_WordsCells.l1 k y0 y1 y2 y3 y4 y5 y6 y7 y8 y9) (quilllaw10_WordsCells.l1 (k + 1) y0 y1 y2 y3 y4 y5 y6 y7 y8 y9)) ∧ (∀ y0 y1 y2 y3 y4 y5 y6 y7 y8 y9 y10 y11 y12 y13 y14 y15, LeO (quilllaw10_WordsCells.j3 k y0 y1 y2 y3 y4 y5 y6 y7 y8 y9 y10 y11 y12 y13 y14 y15) (quilllaw10_WordsCells.j3 (k + 1) y0 y1 y2 y3 y4 y5 y6 y7 y8 y9 y10 y11 y12 y13 y14 y15))
  | 0 => ⟨fun _ _ _ _ _ _ _ _ _ r h => by simp [quilllaw10_WordsCells.l0] at h, fun _ _ _ _ _ _ _ _ _ _ r h => by simp [quilllaw10_WordsCells.j1] at h, fun _ _ _ _ _ _ _ _ _ _ r h => by simp [quilllaw10_WordsCells.l1] at h, fun _ _ _ _ _ _ _ _ _ _ _ _ _ _ _ _ r h => by simp [quilllaw10_WordsCells.j3] at h⟩
  | k + 1 => by
    obtain ⟨ih0, ih1, ih2, ih3⟩ := quilllaw10_WordsCells.mono_l k
    refine ⟨?_, ?_, ?_, ?_⟩
    · intro y0 y1 y2 y3 y4 y5 y6 y7 y8
      unfold quilllaw10_WordsCells.l0
      repeat' first
      | (with_reducible exact ih0 _ _ _ _ _ _ _ _ _)
      | (with_reducible exact ih1 _ _ _ _ _ _ _ _ _ _)
      | (with_reducible exact ih2 _ _ _ _ _ _ _ _ _ _)
      | (with_reducible exact ih3 _ _ _ _ _ _ _ _ _ _ _ _ _ _ _ _)
      | (with_reducible exact quilllaw0_Numbers.mono _ _)
      | (with_reducible exact quilllaw10_Heavy.mono _ _ _ _ _ _ _ _ _)
      | (with_reducible exact quilllaw10_wakes.mono _)
      | (with_reducible exact quillref0_EqNumbers.mono _ _ _)
      | (with_reducible exact quillref10_Cells.mono _ _ _)
      | (with_reducible exact quillref1_May.mono _ _)
      | (with_reducible exact words_Cells.mono _ _ _)
      | (with_reducible exact LeO.refl _)
      | (with_reducible exact LeO.none _)
      | (with_reducible refine LeO.ite ?_ ?_)
      | (with_reducible refine LeO.bind ?_ (fun _ => ?_))
      | exact ih0 _ _ _ _ _ _ _ _ _
      | exact ih1 _ _ _ _ _ _ _ _ _ _
      | exact ih2 _ _ _ _ _ _ _ _ _ _
      | exact ih3 _ _ _ _ _ _ _ _ _ _ _ _ _ _ _ _
      | exact quilllaw0_Numbers.mono _ _
      | exact quilllaw10_Heavy.mono _ _ _ _ _ _ _ _ _
      | exact quilllaw10_wakes.mono _
      | exact quillref0_EqNumbers.mono _ _ _
      | exact quillref10_Cells.mono _ _ _
      | exact quillref1_May.mono _ _
      | exact words_Cells.mono _ _ _
      | exact LeO.none _
      | refine LeO.ite ?_ ?_
      | refine LeO.bind ?_ (fun _ => ?_)
    · intro y0 y1 y2 y3 y4 y5 y6 y7 y8 y9
      unfold quilllaw10_WordsCells.j1
      repeat' first
      | (with_reducible exact ih0 _ _ _ _ _ _ _ _ _)
      | (with_reducible exact ih1 _ _ _ _ _ _ _ _ _ _)
      | (with_reducible exact ih2 _ _ _ _ _ _ _ _ _ _)
      | (with_reducible exact ih3 _ _ _ _ _ _ _ _ _ _ _ _ _ _ _ _)
      | (with_reducible exact quilllaw0_Numbers.mono _ _)
      | (with_reducible exact quilllaw10_Heavy.mono _ _ _ _ _ _ _ _ _)
      | (with_reducible exact quilllaw10_wakes.mono _)
      | (with_reducible exact quillref0_EqNumbers.mono _ _ _)
      | (with_reducible exact quillref10_Cells.mono _ _ _)
      | (with_reducible exact quillref1_May.mono _ _)
      | (with_reducible exact words_Cells.mono _ _ _)
      | (with_reducible exact LeO.refl _)
      | (with_reducible exact LeO.none _)
      | (with_reducible refine LeO.ite ?_ ?_)
      | (with_reducible refine LeO.bind ?_ (fun _ => ?_))
      | exact ih0 _ _ _ _ _ _ _ _ _
      | exact ih1 _ _ _ _ _ _ _ _ _ _
      | exact ih2 _ _ _ _ _ _ _ _ _ _
      | exact ih3 _ _ _ _ _ _ _ _ _ _ _ _ _ _ _ _
      | exact quilllaw0_Numbers.mono _ _
      | exact quilllaw10_Heavy.mono _ _ _ _ _ _ _ _ _
      | exact quilllaw10_wakes.mono _
      | exact quillref0_EqNumbers.mono _ _ _
      | exact quillref10_Cells.mono _ _ _
      | exact quillref1_May.mono _ _
      | exact words_Cells.mono _ _ _
      | exact LeO.none _
      | refine LeO.ite ?_ ?_
      | refine LeO.bind ?_ (fun _ => ?_)
    · intro y0 y1 y2 y3 y4 y5 y6 y7 y8 y9
      unfold quilllaw10_WordsCells.l1
      repeat' first
      | (with_reducible exact ih0 _ _ _ _ _ _ _ _ _)
      | (with_reducible exact ih1 _ _ _ _ _ _ _ _ _ _)
      | (with_reducible exact ih2 _ _ _ _ _ _ _ _ _ _)
      | (with_reducible exact ih3 _ _ _ _ _ _ _ _ _ _ _ _ _ _ _ _)
      | (with_reducible exact quilllaw0_Numbers.mono _ _)
      | (with_reducible exact quilllaw10_Heavy.mono _ _ _ _ _ _ _ _ _)
      | (with_reducible exact quilllaw10_wakes.mono _)
      | (with_reducible exact quillref0_EqNumbers.mono _ _ _)
      | (with_reducible exact quillref10_Cells.mono _ _ _)
      | (with_reducible exact quillref1_May.mono _ _)
      | (with_reducible exact words_Cells.mono _ _ _)
      | (with_reducible exact LeO.refl _)
      | (with_reducible exact LeO.none _)
      | (with_reducible refine LeO.ite ?_ ?_)
      | (with_reducible refine LeO.bind ?_ (fun _ => ?_))
      | exact ih0 _ _ _ _ _ _ _ _ _
      | exact ih1 _ _ _ _ _ _ _ _ _ _
      | exact ih2 _ _ _ _ _ _ _ _ _ _
      | exact ih3 _ _ _ _ _ _ _ _ _ _ _ _ _ _ _ _
      | exact quilllaw0_Numbers.mono _ _
      | exact quilllaw10_Heavy.mono _ _ _ _ _ _ _ _ _
      | exact quilllaw10_wakes.mono _
      | exact quillref0_EqNumbers.mono _ _ _
      | exact quillref10_Cells.mono _ _ _
      | exact quillref1_May.mono _ _
      | exact words_Cells.mono _ _ _
      | exact LeO.none _
      | refine LeO.ite ?_ ?_
      | refine LeO.bind ?_ (fun _ => ?_)
    · intro y0 y1 y2 y3 y4 y5 y6 y7 y8 y9 y10 y11 y12 y13 y14 y15
      unfold quilllaw10_WordsCells.j3
      repeat' first
      | (with_reducible exact ih0 _ _ _ _ _ _ _ _ _)
      | (with_reducible exact ih1 _ _ _ _ _ _ _ _ _ _)
      | (with_reducible exact ih2 _ _ _ _ _ _ _ _ _ _)
      | (with_reducible exact ih3 _ _ _ _ _ _ _ _ _ _ _ _ _ _ _ _)
      | (with_reducible exact quilllaw0_Numbers.mono _ _)
      | (with_reducible exact quilllaw10_Heavy.mono _ _ _ _ _ _ _ _ _)
      | (with_reducible exact quilllaw10_wakes.mono _)
      | (with_reducible exact quillref0_EqNumbers.mono _ _ _)
      | (with_reducible exact quillref10_Cells.mono _ _ _)
      | (with_reducible exact quillref1_May.mono _ _)
      | (with_reducible exact words_Cells.mono _ _ _)
      | (with_reducible exact LeO.refl _)
      | (with_reducible exact LeO.none _)
      | (with_reducible refine LeO.ite ?_ ?_)
      | (with_reducible refine LeO.bind ?_ (fun _ => ?_))
      | exact ih0 _ _ _ _ _ _ _ _ _
      | exact ih1 _ _ _ _ _ _ _ _ _ _
      | exact ih2 _ _ _ _ _ _ _ _ _ _
      | exact ih3 _ _ _ _ _ _ _ _ _ _ _ _ _ _ _ _
      | exact quilllaw0_Numbers.mono _ _
      | exact quilllaw10_Heavy.mono _ _ _ _ _ _ _ _ _
      | exact quilllaw10_wakes.mono _
      | exact quillref0_EqNumbers.mono _ _ _
      | exact quillref10_Cells.mono _ _ _
      | exact quillref1_May.mono _ _
      | exact words_Cells.mono _ _ _
      | exact LeO.none _
      | refine LeO.ite ?_ ?_
      | refine LeO.bind ?_ (fun _ => ?_)
theorem quilllaw10_WordsCells.mono : ∀ a0 a1 a2 a3 a4 a5 a6 a7 k, LeO (quilllaw10_WordsCells.f k a0 a1 a2 a3 a4 a5 a6 a7) (quilllaw10_WordsCells.f (k + 1) a0 a1 a2 a3 a4 a5 a6 a7) := by
  intro a0 a1 a2 a3 a4 a5 a6 a7 k
  obtain ⟨ih0, ih1, ih2, ih3⟩ := quilllaw10_WordsCells.mono_l k
  unfold quilllaw10_WordsCells.f
  repeat' first
      | (with_reducible exact ih0 _ _ _ _ _ _ _ _ _)
      | (with_reducible exact ih1 _ _ _ _ _ _ _ _ _ _)
      | (with_reducible exact ih2 _ _ _ _ _ _ _ _ _ _)
      | (with_reducible exact ih3 _ _ _ _ _ _ _ _ _ _ _ _ _ _ _ _)
      | (with_reducible exact quilllaw0_Numbers.mono _ _)
      | (with_reducible exact quilllaw10_Heavy.mono _ _ _ _ _ _ _ _ _)
      | (with_reducible exact quilllaw10_wakes.mono _)
      | (with_reducible exact quillref0_EqNumbers.mono _ _ _)
      | (with_reducible exact quillref10_Cells.mono _ _ _)
      | (with_reducible exact quillref1_May.mono _ _)
      | (with_reducible exact words_Cells.mono _ _ _)
      | (with_reducible exact LeO.refl _)
      | (with_reducible exact LeO.none _)
      | (with_reducible refine LeO.ite ?_ ?_)
      | (with_reducible refine LeO.bind ?_ (fun _ => ?_))
      | exact ih0 _ _ _ _ _ _ _ _ _
      | exact ih1 _ _ _ _ _ _ _ _ _ _
      | exact ih2 _ _ _ _ _ _ _ _ _ _
      | exact ih3 _ _ _ _ _ _ _ _ _ _ _ _ _ _ _ _
      | exact quilllaw0_Numbers.mono _ _
      | exact quilllaw10_Heavy.mono _ _ _ _ _ _ _ _ _
      | exact quilllaw10_wakes.mono _
      | exact quillref0_EqNumbers.mono _ _ _
      | exact quillref10_Cells.mono _ _ _
      | exact quillref1_May.mono _ _
      | exact words_Cells.mono _ _ _
      | exact LeO.none _
      | refine LeO.ite ?_ ?_
      | refine LeO.bind ?_ (fun _ => ?_)
set_option maxHeartbeats 8000000 in
set_option maxRecDepth 100000 in
theorem quilllaw10_WordsCells.calls (k : Nat) (A0_0 : Option Addr) (c0_0 : Nat) (l0_0 : List ByteArray) (a0_1 : Int) (a0_2 : Int) (a0_3 : Int) (a0_4 : Int) (a0_5 : Int) (a0_6 : Int) (a0_7 : Int) (r : Bool) (w : World) (hT : Tabs w) (hr0_0 : Kd.C Kd.string w A0_0 l0_0.length l0_0) (hc0_0 : l0_0.length ≤ c0_0) (h : quilllaw10_WordsCells.f k l0_0 a0_1 a0_2 a0_3 a0_4 a0_5 a0_6 a0_7 = some r) :
  Calls Tryd.prog 12 #[.agg #[.slice A0_0 l0_0.length c0_0, .int .i64 a0_1, .int .i64 a0_2, .int .i64 a0_3, .int .i64 a0_4, .int .i64 a0_5, .int .i64 a0_6, .int .i64 a0_7]] w fun e w' => e = .returned (.bool r) ∧ Below w.heap.size w w' := by
 have hu28 := Tryd.underlying28
 have HT := Aside0.mk hT
 clear hT
 have HR0_0 := Aside0.mk hr0_0
 have HC0_0 := Aside0.mk hc0_0
 clear hr0_0 hc0_0
 have HB := Aside0.mk (Below.refl w.heap.size w)
 have H : ((quilllaw10_Heavy.f k l0_0 a0_1 a0_2 a0_3 a0_4 a0_5 a0_6 a0_7).bind fun t347 => (if t347 = true then (some true) else (quilllaw10_WordsCells.l0 k 0 l0_0 a0_1 a0_2 a0_3 a0_4 a0_5 a0_6 a0_7))) = some r := h
 clear h
 replace H := Option.bind_eq_some_iff.mp H
 obtain ⟨t347, A20, H⟩ := H
 replace H : (if t347 = true then (some true) else (quilllaw10_WordsCells.l0 k 0 l0_0 a0_1 a0_2 a0_3 a0_4 a0_5 a0_6 a0_7)) = some r := H
 have A2 := Aside0.mk A20
 clear A20
 by_cases c3 : t347 = true
 ·
  subst c3
  have H1 : (some true) = some r := by rw [if_pos rfl] at H; exact H
  clear H
  have H := H1
  clear H1
  obtain rfl := Option.some.inj H
  go_enter Tryd.func12, Tryd.ntmps12
  go_wp2_with (first | ((with_reducible refine gate_dst (N := 1) rfl ?_); refine box_event ?hg (N := 1) ?hd (cs := #[.slice A0_0 l0_0.length c0_0, .int .i64 a0_1, .int .i64 a0_2, .int .i64 a0_3, .int .i64 a0_4, .int .i64 a0_5, .int .i64 a0_6, .int .i64 a0_7]) (t := 28) ?hr ?_; (case hd => rfl); (case hg => rfl); (case hr => first | (go_simp; done) | (go_simp; rfl)); intro gb346 hg w4 hbox hb; have n0_ := Aside0.mk (below_step (by repeat (first | (with_reducible first | exact HB.out | apply below_alloc | apply pw_below_drewN | apply below_drew1) | exact HB.out)) hb); have n1_ := Aside0.mk (hbox); have n2_ := Aside0.mk ((by rw [hg]; exact (below_size (by repeat (first | (with_reducible first | exact HB.out | apply below_alloc | apply pw_below_drewN | apply below_drew1) | exact HB.out))) : w.heap.size ≤ gb346)); have n3_ := Aside0.mk ((by rw [hg]; exact (below_size (by repeat (first | (with_reducible first | exact HB.out | apply below_alloc | apply pw_below_drewN | apply below_drew1) | exact HB.out))) : w.heap.size ≤ gb346)); clear HB; have HB := n0_; have BK346 := n1_; have GW346 := n2_; have GE346 := n3_; clear n0_ n1_ n2_ n3_; clear hb hbox hg; have hcz5_0 : w4.cell? ⟨gb346, 0, none⟩ = some (.slice A0_0 l0_0.length c0_0) := (blk_cell BK346.out 0).trans rfl; have hcz5_1 : w4.cell? ⟨gb346, 1, none⟩ = some (.int .i64 a0_1) := (blk_cell BK346.out 1).trans rfl; have hcz5_2 : w4.cell? ⟨gb346, 2, none⟩ = some (.int .i64 a0_2) := (blk_cell BK346.out 2).trans rfl; have hcz5_3 : w4.cell? ⟨gb346, 3, none⟩ = some (.int .i64 a0_3) := (blk_cell BK346.out 3).trans rfl; have hcz5_4 : w4.cell? ⟨gb346, 4, none⟩ = some (.int .i64 a0_4) := (blk_cell BK346.out 4).trans rfl; have hcz5_5 : w4.cell? ⟨gb346, 5, none⟩ = some (.int .i64 a0_5) := (blk_cell BK346.out 5).trans rfl; have hcz5_6 : w4.cell? ⟨gb346, 6, none⟩ = some (.int .i64 a0_6) := (blk_cell BK346.out 6).trans rfl; have hcz5_7 : w4.cell? ⟨gb346, 7, none⟩ = some (.int .i64 a0_7) := (blk_cell BK346.out 7).trans rfl; have hfz5_0 := blk_frozen BK346.out 0; have hfz5_1 := blk_frozen BK346.out 1; have hfz5_2 := blk_frozen BK346.out 2; have hfz5_3 := blk_frozen BK346.out 3; have hfz5_4 := blk_frozen BK346.out 4; have hfz5_5 := blk_frozen BK346.out 5; have hfz5_6 := blk_frozen BK346.out 6; have hfz5_7 := blk_frozen BK346.out 7) | ((with_reducible refine gate_callee (f := 15) rfl ?_); refine goesL_ (some 12) rfl rfl Tryd.func15 (by kernel_rfl) rfl #[.agg #[.slice A0_0 l0_0.length c0_0, .int .i64 a0_1, .int .i64 a0_2, .int .i64 a0_3, .int .i64 a0_4, .int .i64 a0_5, .int .i64 a0_6, .int .i64 a0_7]] rfl (by (try simp only [List.map_toArray, List.map_cons, List.map_nil]); first | done | rfl | (simp only [List.length_drop, List.length_take]; rfl)) ?_; (with_reducible refine (quilllaw10_Heavy.calls k _ _ l0_0 a0_1 a0_2 a0_3 a0_4 a0_5 a0_6 a0_7 true _ ?side1 ?side2 A2.out).mono ?_); (case side1 => repeat (first | exact (Kd.C_below HR0_0.out HB.out) | (with_reducible refine Kd.C_alloc ?_ _) | (with_reducible refine Kd.C_drewN ?_ _) | (with_reducible refine Kd.C_drew ?_))); (case side2 => exact HC0_0.out); rintro e w6 ⟨rfl, hb⟩; refine ⟨_, rfl, ?_⟩; have n0_ := Aside0.mk (blk_below (g := gb346) (o := .cells #[.slice A0_0 l0_0.length c0_0, .int .i64 a0_1, .int .i64 a0_2, .int .i64 a0_3, .int .i64 a0_4, .int .i64 a0_5, .int .i64 a0_6, .int .i64 a0_7] 28 (0, 0)) (by (with_reducible repeat (first | refine blk_drewN ?_ _ | refine blk_drew ?_ | refine blk_alloc ?_ _)); exact BK346.out) hb); have n1_ := Aside0.mk (below_step (by repeat (first | (with_reducible first | exact HB.out | apply below_alloc | apply pw_below_drewN | apply below_drew1 | refine below_set ?_ GE346.out) | exact HB.out)) hb); clear BK346; clear HB; have BK346 := n0_; have HB := n1_; clear n0_ n1_; (try clear hb); (try clear hb2); (try clear hk); (try clear hi)))
  go_ret
  exact ⟨by first | rfl | (simp [errW_none, errW_some] <;> rfl) | (simp [*, errW_none, errW_some] <;> rfl), by repeat (first | (with_reducible first | exact HB.out | apply below_alloc | apply pw_below_drewN | apply below_drew1 | refine below_set ?_ GE346.out) | exact HB.out)⟩
 ·
  replace c3 := Bool.eq_false_iff.mpr c3
  subst c3
  have H1 : (quilllaw10_WordsCells.l0 k 0 l0_0 a0_1 a0_2 a0_3 a0_4 a0_5 a0_6 a0_7) = some r := by rw [if_neg (show ¬ (false = true) by decide)] at H; exact H
  clear H
  have H := H1
  clear H1
  have H' := Aside0.mk H
  clear H
  go_enter Tryd.func12, Tryd.ntmps12
  go_wp2_with (first | ((with_reducible refine gate_dst (N := 1) rfl ?_); refine box_event ?hg (N := 1) ?hd (cs := #[.slice A0_0 l0_0.length c0_0, .int .i64 a0_1, .int .i64 a0_2, .int .i64 a0_3, .int .i64 a0_4, .int .i64 a0_5, .int .i64 a0_6, .int .i64 a0_7]) (t := 28) ?hr ?_; (case hd => rfl); (case hg => rfl); (case hr => first | (go_simp; done) | (go_simp; rfl)); intro gb346 hg w7 hbox hb; have n0_ := Aside0.mk (below_step (by repeat (first | (with_reducible first | exact HB.out | apply below_alloc | apply pw_below_drewN | apply below_drew1) | exact HB.out)) hb); have n1_ := Aside0.mk (hbox); have n2_ := Aside0.mk ((by rw [hg]; exact (below_size (by repeat (first | (with_reducible first | exact HB.out | apply below_alloc | apply pw_below_drewN | apply below_drew1) | exact HB.out))) : w.heap.size ≤ gb346)); have n3_ := Aside0.mk ((by rw [hg]; exact (below_size (by repeat (first | (with_reducible first | exact HB.out | apply below_alloc | apply pw_below_drewN | apply below_drew1) | exact HB.out))) : w.heap.size ≤ gb346)); clear HB; have HB := n0_; have BK346 := n1_; have GW346 := n2_; have GE346 := n3_; clear n0_ n1_ n2_ n3_; clear hb hbox hg; have hcz8_0 : w7.cell? ⟨gb346, 0, none⟩ = some (.slice A0_0 l0_0.length c0_0) := (blk_cell BK346.out 0).trans rfl; have hcz8_1 : w7.cell? ⟨gb346, 1, none⟩ = some (.int .i64 a0_1) := (blk_cell BK346.out 1).trans rfl; have hcz8_2 : w7.cell? ⟨gb346, 2, none⟩ = some (.int .i64 a0_2) := (blk_cell BK346.out 2).trans rfl; have hcz8_3 : w7.cell? ⟨gb346, 3, none⟩ = some (.int .i64 a0_3) := (blk_cell BK346.out 3).trans rfl; have hcz8_4 : w7.cell? ⟨gb346, 4, none⟩ = some (.int .i64 a0_4) := (blk_cell BK346.out 4).trans rfl; have hcz8_5 : w7.cell? ⟨gb346, 5, none⟩ = some (.int .i64 a0_5) := (blk_cell BK346.out 5).trans rfl; have hcz8_6 : w7.cell? ⟨gb346, 6, none⟩ = some (.int .i64 a0_6) := (blk_cell BK346.out 6).trans rfl; have hcz8_7 : w7.cell? ⟨gb346, 7, none⟩ = some (.int .i64 a0_7) := (blk_cell BK346.out 7).trans rfl; have hfz8_0 := blk_frozen BK346.out 0; have hfz8_1 := blk_frozen BK346.out 1; have hfz8_2 := blk_frozen BK346.out 2; have hfz8_3 := blk_frozen BK346.out 3; have hfz8_4 := blk_frozen BK346.out 4; have hfz8_5 := blk_frozen BK346.out 5; have hfz8_6 := blk_frozen BK346.out 6; have hfz8_7 := blk_frozen BK346.out 7) | ((with_reducible refine gate_callee (f := 15) rfl ?_); refine goesL_ (some 12) rfl rfl Tryd.func15 (by kernel_rfl) rfl #[.agg #[.slice A0_0 l0_0.length c0_0, .int .i64 a0_1, .int .i64 a0_2, .int .i64 a0_3, .int .i64 a0_4, .int .i64 a0_5, .int .i64 a0_6, .int .i64 a0_7]] rfl (by (try simp only [List.map_toArray, List.map_cons, List.map_nil]); first | done | rfl | (simp only [List.length_drop, List.length_take]; rfl)) ?_; (with_reducible refine (quilllaw10_Heavy.calls k _ _ l0_0 a0_1 a0_2 a0_3 a0_4 a0_5 a0_6 a0_7 false _ ?side1 ?side2 A2.out).mono ?_); (case side1 => repeat (first | exact (Kd.C_below HR0_0.out HB.out) | (with_reducible refine Kd.C_alloc ?_ _) | (with_reducible refine Kd.C_drewN ?_ _) | (with_reducible refine Kd.C_drew ?_))); (case side2 => exact HC0_0.out); rintro e w9 ⟨rfl, hb⟩; refine ⟨_, rfl, ?_⟩; have n0_ := Aside0.mk (blk_below (g := gb346) (o := .cells #[.slice A0_0 l0_0.length c0_0, .int .i64 a0_1, .int .i64 a0_2, .int .i64 a0_3, .int .i64 a0_4, .int .i64 a0_5, .int .i64 a0_6, .int .i64 a0_7] 28 (0, 0)) (by (with_reducible repeat (first | refine blk_drewN ?_ _ | refine blk_drew ?_ | refine blk_alloc ?_ _)); exact BK346.out) hb); have n1_ := Aside0.mk (below_step (by repeat (first | (with_reducible first | exact HB.out | apply below_alloc | apply pw_below_drewN | apply below_drew1 | refine below_set ?_ GE346.out) | exact HB.out)) hb); clear BK346; clear HB; have BK346 := n0_; have HB := n1_; clear n0_ n1_; (try clear hb); (try clear hb2); (try clear hk); (try clear hi)))
  go_loopg [3] k (fun kq v3 w' => ∃ (x3_1 : Int), v3 = .int .i64 x3_1 ∧ Aside0 (quilllaw10_WordsCells.l0 kq x3_1 l0_0 a0_1 a0_2 a0_3 a0_4 a0_5 a0_6 a0_7 = some r) ∧ Aside0 (kq ≤ k) ∧ Aside0 (w'.heap[gb346]? = some (.cells #[(.slice A0_0 l0_0.length c0_0), .int .i64 a0_1, .int .i64 a0_2, .int .i64 a0_3, .int .i64 a0_4, .int .i64 a0_5, .int .i64 a0_6, .int .i64 a0_7] 28 (0, 0))) ∧ Aside0 (Below w.heap.size w w'))
  case atStart => exact ⟨(0), (by first | rfl | (simp; done) | (simp [*]; done)), H', ⟨Nat.le_refl _⟩, ⟨by (with_reducible repeat (first | refine blk_drewN ?_ _ | refine blk_drew ?_ | refine blk_alloc ?_ _)); exact BK346.out⟩, ⟨by repeat (first | (with_reducible first | exact HB.out | apply below_alloc | apply pw_below_drewN | apply below_drew1 | refine below_set ?_ GE346.out) | exact HB.out)⟩⟩
  case round =>
   clear H'
   try clear c1
   try clear p2
   try clear c3
   try clear hcz5_0
   try clear hcz5_1
   try clear hcz5_2
   try clear hcz5_3
   try clear hcz5_4
   try clear hcz5_5
   try clear hcz5_6
   try clear hcz5_7
   try clear hcz8_0
   try clear hcz8_1
   try clear hcz8_2
   try clear hcz8_3
   try clear hcz8_4
   try clear hcz8_5
   try clear hcz8_6
   try clear hcz8_7
   try clear hfz5_0
   try clear hfz5_1
   try clear hfz5_2
   try clear hfz5_3
   try clear hfz5_4
   try clear hfz5_5
   try clear hfz5_6
   try clear hfz5_7
   try clear hfz8_0
   try clear hfz8_1
   try clear hfz8_2
   try clear hfz8_3
   try clear hfz8_4
   try clear hfz8_5
   try clear hfz8_6
   try clear hfz8_7
   obtain ⟨x3_1, rfl, HA, HK1, BK346, HB⟩ := hrel
   cases gk with
   | zero => exact absurd HA.out (by simp [quilllaw10_WordsCells.l0])
   | succ k1 =>
    have H := HA.out
    clear HA
    simp only [quilllaw10_WordsCells.l0] at H
    have HC10 := Aside0.mk H
    clear H
    go_upto_region 4 with (fail)
    go_cut [22] (fun v22 wc => ∃ (kq : Nat) (x22_9 : Bool), v22 = .bool x22_9 ∧ Aside0 (quilllaw10_WordsCells.j1 kq x3_1 x22_9 l0_0 a0_1 a0_2 a0_3 a0_4 a0_5 a0_6 a0_7 = some r) ∧ Aside0 (kq ≤ k1) ∧ Aside0 (wc.heap[gb346]? = some (.cells #[(.slice A0_0 l0_0.length c0_0), .int .i64 a0_1, .int .i64 a0_2, .int .i64 a0_3, .int .i64 a0_4, .int .i64 a0_5, .int .i64 a0_6, .int .i64 a0_7] 28 (0, 0))) ∧ Aside0 (Below w.heap.size w wc))
    case first =>
     have H := HC10.out
     clear HC10
     by_cases c11 : x3_1 < (l0_0.length : Int)
     ·
      rw [if_pos c11] at H
      have c11b0 : decide (x3_1 < (l0_0.length : Int)) = true := decide_eq_true c11
      clear c11
      (first | rw [c11b0] | (simp only [i64_w, i32_w]; rw [c11b0]) | skip)
      have H' := Aside0.mk H
      clear H
      have hcz12_0 : wr.cell? ⟨gb346, 0, none⟩ = some (.slice A0_0 l0_0.length c0_0) := (blk_cell BK346.out 0).trans rfl
      have hcz12_1 : wr.cell? ⟨gb346, 1, none⟩ = some (.int .i64 a0_1) := (blk_cell BK346.out 1).trans rfl
      have hcz12_2 : wr.cell? ⟨gb346, 2, none⟩ = some (.int .i64 a0_2) := (blk_cell BK346.out 2).trans rfl
      have hcz12_3 : wr.cell? ⟨gb346, 3, none⟩ = some (.int .i64 a0_3) := (blk_cell BK346.out 3).trans rfl
      have hcz12_4 : wr.cell? ⟨gb346, 4, none⟩ = some (.int .i64 a0_4) := (blk_cell BK346.out 4).trans rfl
      have hcz12_5 : wr.cell? ⟨gb346, 5, none⟩ = some (.int .i64 a0_5) := (blk_cell BK346.out 5).trans rfl
      have hcz12_6 : wr.cell? ⟨gb346, 6, none⟩ = some (.int .i64 a0_6) := (blk_cell BK346.out 6).trans rfl
      have hcz12_7 : wr.cell? ⟨gb346, 7, none⟩ = some (.int .i64 a0_7) := (blk_cell BK346.out 7).trans rfl
      have hfz12_0 := blk_frozen BK346.out 0
      have hfz12_1 := blk_frozen BK346.out 1
      have hfz12_2 := blk_frozen BK346.out 2
      have hfz12_3 := blk_frozen BK346.out 3
      have hfz12_4 := blk_frozen BK346.out 4
      have hfz12_5 := blk_frozen BK346.out 5
      have hfz12_6 := blk_frozen BK346.out 6
      have hfz12_7 := blk_frozen BK346.out 7
      go_wp2
      go_meet
      case rel => exact ⟨_, (decide (x3_1 < 4)), (by first | rfl | (simp; done) | (simp [*]; done)), H', ⟨by have := HK1.out; first | omega | exact Nat.le_refl _⟩, ⟨by (with_reducible repeat (first | refine blk_drewN ?_ _ | refine blk_drew ?_ | refine blk_alloc ?_ _)); exact BK346.out⟩, ⟨by repeat (first | (with_reducible first | exact HB.out | apply below_alloc | apply pw_below_drewN | apply below_drew1 | refine below_set ?_ GE346.out) | exact HB.out)⟩⟩
     ·
      rw [if_neg c11] at H
      have c11b0 : decide (x3_1 < (l0_0.length : Int)) = false := decide_eq_false c11
      clear c11
      (first | rw [c11b0] | (simp only [i64_w, i32_w]; rw [c11b0]) | skip)
      have H' := Aside0.mk H
      clear H
      have hcz13_0 : wr.cell? ⟨gb346, 0, none⟩ = some (.slice A0_0 l0_0.length c0_0) := (blk_cell BK346.out 0).trans rfl
      have hcz13_1 : wr.cell? ⟨gb346, 1, none⟩ = some (.int .i64 a0_1) := (blk_cell BK346.out 1).trans rfl
      have hcz13_2 : wr.cell? ⟨gb346, 2, none⟩ = some (.int .i64 a0_2) := (blk_cell BK346.out 2).trans rfl
      have hcz13_3 : wr.cell? ⟨gb346, 3, none⟩ = some (.int .i64 a0_3) := (blk_cell BK346.out 3).trans rfl
      have hcz13_4 : wr.cell? ⟨gb346, 4, none⟩ = some (.int .i64 a0_4) := (blk_cell BK346.out 4).trans rfl
      have hcz13_5 : wr.cell? ⟨gb346, 5, none⟩ = some (.int .i64 a0_5) := (blk_cell BK346.out 5).trans rfl
      have hcz13_6 : wr.cell? ⟨gb346, 6, none⟩ = some (.int .i64 a0_6) := (blk_cell BK346.out 6).trans rfl
      have hcz13_7 : wr.cell? ⟨gb346, 7, none⟩ = some (.int .i64 a0_7) := (blk_cell BK346.out 7).trans rfl
      have hfz13_0 := blk_frozen BK346.out 0
      have hfz13_1 := blk_frozen BK346.out 1
      have hfz13_2 := blk_frozen BK346.out 2
      have hfz13_3 := blk_frozen BK346.out 3
      have hfz13_4 := blk_frozen BK346.out 4
      have hfz13_5 := blk_frozen BK346.out 5
      have hfz13_6 := blk_frozen BK346.out 6
      have hfz13_7 := blk_frozen BK346.out 7
      go_wp2
      go_meet
      case rel => exact ⟨_, (false), (by first | rfl | (simp; done) | (simp [*]; done)), H', ⟨by have := HK1.out; first | omega | exact Nat.le_refl _⟩, ⟨by (with_reducible repeat (first | refine blk_drewN ?_ _ | refine blk_drew ?_ | refine blk_alloc ?_ _)); exact BK346.out⟩, ⟨by repeat (first | (with_reducible first | exact HB.out | apply below_alloc | apply pw_below_drewN | apply below_drew1 | refine below_set ?_ GE346.out) | exact HB.out)⟩⟩
    case rest =>
     clear HC10
     try clear c1
     try clear p2
     try clear c3
     try clear c11
     try clear c11b0
     try clear c12
     try clear hcz12_0
     try clear hcz12_1
     try clear hcz12_2
     try clear hcz12_3
     try clear hcz12_4
     try clear hcz12_5
     try clear hcz12_6
     try clear hcz12_7
     try clear hcz13_0
     try clear hcz13_1
     try clear hcz13_2
     try clear hcz13_3
     try clear hcz13_4
     try clear hcz13_5
     try clear hcz13_6
     try clear hcz13_7
     try clear hcz5_0
     try clear hcz5_1
     try clear hcz5_2
     try clear hcz5_3
     try clear hcz5_4
     try clear hcz5_5
     try clear hcz5_6
     try clear hcz5_7
     try clear hcz8_0
     try clear hcz8_1
     try clear hcz8_2
     try clear hcz8_3
     try clear hcz8_4
     try clear hcz8_5
     try clear hcz8_6
     try clear hcz8_7
     try clear hfz12_0
     try clear hfz12_1
     try clear hfz12_2
     try clear hfz12_3
     try clear hfz12_4
     try clear hfz12_5
     try clear hfz12_6
     try clear hfz12_7
     try clear hfz13_0
     try clear hfz13_1
     try clear hfz13_2
     try clear hfz13_3
     try clear hfz13_4
     try clear hfz13_5
     try clear hfz13_6
     try clear hfz13_7
     try clear hfz5_0
     try clear hfz5_1
     try clear hfz5_2
     try clear hfz5_3
     try clear hfz5_4
     try clear hfz5_5
     try clear hfz5_6
     try clear hfz5_7
     try clear hfz8_0
     try clear hfz8_1
     try clear hfz8_2
     try clear hfz8_3
     try clear hfz8_4
     try clear hfz8_5
     try clear hfz8_6
     try clear hfz8_7
     try clear p2
     obtain ⟨kq, x22_9, rfl, HA, HJ9, BK346, HB⟩ := hcut
     cases kq with
     | zero => exact absurd HA.out (by simp [quilllaw10_WordsCells.j1])
     | succ kj9 =>
      have H := HA.out
      clear HA
      simp only [quilllaw10_WordsCells.j1] at H
      by_cases c14 : x22_9 = true
      ·
       subst c14
       have H1 : (quilllaw10_WordsCells.l1 kj9 x3_1 0 l0_0 a0_1 a0_2 a0_3 a0_4 a0_5 a0_6 a0_7) = some r := by rw [if_pos rfl] at H; exact H
       clear H
       have H := H1
       clear H1
       have H' := Aside0.mk H
       clear H
       go_wp2
       go_loopg [4] kj9 (fun kq v4 w' => ∃ (x4_3 : Int), v4 = .int .i64 x4_3 ∧ Aside0 (quilllaw10_WordsCells.l1 kq x3_1 x4_3 l0_0 a0_1 a0_2 a0_3 a0_4 a0_5 a0_6 a0_7 = some r) ∧ Aside0 (kq ≤ kj9) ∧ Aside0 (w'.heap[gb346]? = some (.cells #[(.slice A0_0 l0_0.length c0_0), .int .i64 a0_1, .int .i64 a0_2, .int .i64 a0_3, .int .i64 a0_4, .int .i64 a0_5, .int .i64 a0_6, .int .i64 a0_7] 28 (0, 0))) ∧ Aside0 (Below w.heap.size w w'))
       case atStart => exact ⟨(0), (by first | rfl | (simp; done) | (simp [*]; done)), H', ⟨Nat.le_refl _⟩, ⟨by (with_reducible repeat (first | refine blk_drewN ?_ _ | refine blk_drew ?_ | refine blk_alloc ?_ _)); exact BK346.out⟩, ⟨by repeat (first | (with_reducible first | exact HB.out | apply below_alloc | apply pw_below_drewN | apply below_drew1 | refine below_set ?_ GE346.out) | exact HB.out)⟩⟩
       case round =>
        clear H'
        try clear c1
        try clear p2
        try clear c3
        try clear c11
        try clear c11b0
        try clear c12
        try clear c14
        try clear hcz12_0
        try clear hcz12_1
        try clear hcz12_2
        try clear hcz12_3
        try clear hcz12_4
        try clear hcz12_5
        try clear hcz12_6
        try clear hcz12_7
        try clear hcz13_0
        try clear hcz13_1
        try clear hcz13_2
        try clear hcz13_3
        try clear hcz13_4
        try clear hcz13_5
        try clear hcz13_6
        try clear hcz13_7
        try clear hcz5_0
        try clear hcz5_1
        try clear hcz5_2
        try clear hcz5_3
        try clear hcz5_4
        try clear hcz5_5
        try clear hcz5_6
        try clear hcz5_7
        try clear hcz8_0
        try clear hcz8_1
        try clear hcz8_2
        try clear hcz8_3
        try clear hcz8_4
        try clear hcz8_5
        try clear hcz8_6
        try clear hcz8_7
        try clear hfz12_0
        try clear hfz12_1
        try clear hfz12_2
        try clear hfz12_3
        try clear hfz12_4
        try clear hfz12_5
        try clear hfz12_6
        try clear hfz12_7
        try clear hfz13_0
        try clear hfz13_1
        try clear hfz13_2
        try clear hfz13_3
        try clear hfz13_4
        try clear hfz13_5
        try clear hfz13_6
        try clear hfz13_7
        try clear hfz5_0
        try clear hfz5_1
        try clear hfz5_2
        try clear hfz5_3
        try clear hfz5_4
        try clear hfz5_5
        try clear hfz5_6
        try clear hfz5_7
        try clear hfz8_0
        try clear hfz8_1
        try clear hfz8_2
        try clear hfz8_3
        try clear hfz8_4
        try clear hfz8_5
        try clear hfz8_6
        try clear hfz8_7
        try clear p2
        obtain ⟨x4_3, rfl, HA, HK3, BK346, HB⟩ := hrel
        cases gk with
        | zero => exact absurd HA.out (by simp [quilllaw10_WordsCells.l1])
        | succ k3 =>
         have H := HA.out
         clear HA
         simp only [quilllaw10_WordsCells.l1] at H
         by_cases c15 : x4_3 < 2
         ·
          rw [if_pos c15] at H
          have c15b0 : decide (x4_3 < 2) = true := decide_eq_true c15
          clear c15
          by_cases c16 : 0 ≤ x3_1
          ·
           rw [if_pos c16] at H
           have c16b0 : decide (0 ≤ x3_1) = true := decide_eq_true c16
           clear c16
           by_cases c17 : x3_1 < (l0_0.length : Int)
           ·
            rw [if_pos c17] at H
            have c17b0 : decide (x3_1 < (l0_0.length : Int)) = true := decide_eq_true c17
            clear c17
            replace H := Option.bind_eq_some_iff.mp H
            obtain ⟨⟨t350, t351, t352⟩, A180, H⟩ := H
            replace H : ((quillref1_May.f k3 (rdOf ByteArray.empty l0_0 x3_1)).bind fun t358 => (if t358 = true then (if (rdOf ByteArray.empty l0_0 x3_1).size ≤ 70368744177664 then ((quillref10_Cells.f k3 (runesOf (rdOf ByteArray.empty l0_0 x3_1)) (x4_3 == 1)).bind fun bt363 => (quilllaw10_WordsCells.j3 k3 x3_1 x4_3 t350 t351 t352 0 bt363.1 bt363.2 l0_0 a0_1 a0_2 a0_3 a0_4 a0_5 a0_6 a0_7)) else (none)) else (quilllaw10_WordsCells.j3 k3 x3_1 x4_3 t350 t351 t352 1 ([] : List Int) ([] : List Int) l0_0 a0_1 a0_2 a0_3 a0_4 a0_5 a0_6 a0_7))) = some r := H
            have A18 := Aside0.mk A180
            clear A180
            replace H := Option.bind_eq_some_iff.mp H
            obtain ⟨t358, A190, H⟩ := H
            replace H : (if t358 = true then (if (rdOf ByteArray.empty l0_0 x3_1).size ≤ 70368744177664 then ((quillref10_Cells.f k3 (runesOf (rdOf ByteArray.empty l0_0 x3_1)) (x4_3 == 1)).bind fun bt363 => (quilllaw10_WordsCells.j3 k3 x3_1 x4_3 t350 t351 t352 0 bt363.1 bt363.2 l0_0 a0_1 a0_2 a0_3 a0_4 a0_5 a0_6 a0_7)) else (none)) else (quilllaw10_WordsCells.j3 k3 x3_1 x4_3 t350 t351 t352 1 ([] : List Int) ([] : List Int) l0_0 a0_1 a0_2 a0_3 a0_4 a0_5 a0_6 a0_7)) = some r := H
            have A19 := Aside0.mk A190
            clear A190
            have HC20 := Aside0.mk H
            clear H
            have hcz21_0 : wr.cell? ⟨gb346, 0, none⟩ = some (.slice A0_0 l0_0.length c0_0) := (blk_cell BK346.out 0).trans rfl
            have hcz21_1 : wr.cell? ⟨gb346, 1, none⟩ = some (.int .i64 a0_1) := (blk_cell BK346.out 1).trans rfl
            have hcz21_2 : wr.cell? ⟨gb346, 2, none⟩ = some (.int .i64 a0_2) := (blk_cell BK346.out 2).trans rfl
            have hcz21_3 : wr.cell? ⟨gb346, 3, none⟩ = some (.int .i64 a0_3) := (blk_cell BK346.out 3).trans rfl
            have hcz21_4 : wr.cell? ⟨gb346, 4, none⟩ = some (.int .i64 a0_4) := (blk_cell BK346.out 4).trans rfl
            have hcz21_5 : wr.cell? ⟨gb346, 5, none⟩ = some (.int .i64 a0_5) := (blk_cell BK346.out 5).trans rfl
            have hcz21_6 : wr.cell? ⟨gb346, 6, none⟩ = some (.int .i64 a0_6) := (blk_cell BK346.out 6).trans rfl
            have hcz21_7 : wr.cell? ⟨gb346, 7, none⟩ = some (.int .i64 a0_7) := (blk_cell BK346.out 7).trans rfl
            have hfz21_0 := blk_frozen BK346.out 0
            have hfz21_1 := blk_frozen BK346.out 1
            have hfz21_2 := blk_frozen BK346.out 2
            have hfz21_3 := blk_frozen BK346.out 3
            have hfz21_4 := blk_frozen BK346.out 4
            have hfz21_5 := blk_frozen BK346.out 5
            have hfz21_6 := blk_frozen BK346.out 6
            have hfz21_7 := blk_frozen BK346.out 7
            have p349 : 0 ≤ (x3_1 : Int) := of_decide_eq_true (by first | (with_reducible assumption) | assumption)
            have q349 : x3_1 < (l0_0.length : Int) := of_decide_eq_true (by first | (with_reducible assumption) | assumption)
            obtain ⟨ad349, e349, hx349_0⟩ := Kd.at_string HR0_0.out x3_1 p349 q349
            cases e349
            replace hx349_0 := (HB.out.cell (World.block_lt_of_cell? w _ hx349_0)).trans hx349_0
            replace p349 := eq_true p349
            replace q349 := eq_true q349
            go_upto_if 48 with (first | ((with_reducible refine gate_callee (f := 16) rfl ?_); refine goesL_ (some 38) rfl rfl Tryd.func16 (by kernel_rfl) rfl #[.string (rdOf ByteArray.empty l0_0 x3_1), .bool (x4_3 == 1)] rfl (by (try simp only [List.map_toArray, List.map_cons, List.map_nil]); first | done | rfl | (simp only [List.length_drop, List.length_take]; rfl)) ?_; (with_reducible refine (words_Cells.calls k3 (rdOf ByteArray.empty l0_0 x3_1) (x4_3 == 1) t350 t351 t352 _ ?side1 A18.out).mono ?_); (case side1 => exact Tabs.below HT.out (by repeat (first | (with_reducible first | exact HB.out | apply below_alloc | apply pw_below_drewN | apply below_drew1 | refine below_set ?_ GE346.out) | exact HB.out))); rintro e w22 ⟨v353, v355, rfl, ho0, ho1, hb⟩; refine ⟨_, rfl, ?_⟩; have n0_ := Aside0.mk (Kd.R_lower ho0 (below_size (by repeat (first | (with_reducible first | exact HB.out | apply below_alloc | apply pw_below_drewN | apply below_drew1 | refine below_set ?_ GE346.out) | exact HB.out)))); have n1_ := Aside0.mk (Kd.R_lower ho1 (below_size (by repeat (first | (with_reducible first | exact HB.out | apply below_alloc | apply pw_below_drewN | apply below_drew1 | refine below_set ?_ GE346.out) | exact HB.out)))); have n2_ := Aside0.mk (blk_below (g := gb346) (o := .cells #[.slice (some ad349) l0_0.length c0_0, .int .i64 a0_1, .int .i64 a0_2, .int .i64 a0_3, .int .i64 a0_4, .int .i64 a0_5, .int .i64 a0_6, .int .i64 a0_7] 28 (0, 0)) (by (with_reducible repeat (first | refine blk_drewN ?_ _ | refine blk_drew ?_ | refine blk_alloc ?_ _)); exact BK346.out) hb); have n3_ := Aside0.mk (below_step (by repeat (first | (with_reducible first | exact HB.out | apply below_alloc | apply pw_below_drewN | apply below_drew1 | refine below_set ?_ GE346.out) | exact HB.out)) hb); clear BK346; clear HB; have HO354 := n0_; have HO356 := n1_; have BK346 := n2_; have HB := n3_; clear n0_ n1_ n2_ n3_; (try clear hb); (try clear hb2); (try clear hk); (try clear hi); (try clear ho0); (try clear ho1); have hcz23_0 : w22.cell? ⟨gb346, 0, none⟩ = some (.slice (some ad349) l0_0.length c0_0) := (blk_cell BK346.out 0).trans rfl; have hcz23_1 : w22.cell? ⟨gb346, 1, none⟩ = some (.int .i64 a0_1) := (blk_cell BK346.out 1).trans rfl; have hcz23_2 : w22.cell? ⟨gb346, 2, none⟩ = some (.int .i64 a0_2) := (blk_cell BK346.out 2).trans rfl; have hcz23_3 : w22.cell? ⟨gb346, 3, none⟩ = some (.int .i64 a0_3) := (blk_cell BK346.out 3).trans rfl; have hcz23_4 : w22.cell? ⟨gb346, 4, none⟩ = some (.int .i64 a0_4) := (blk_cell BK346.out 4).trans rfl; have hcz23_5 : w22.cell? ⟨gb346, 5, none⟩ = some (.int .i64 a0_5) := (blk_cell BK346.out 5).trans rfl; have hcz23_6 : w22.cell? ⟨gb346, 6, none⟩ = some (.int .i64 a0_6) := (blk_cell BK346.out 6).trans rfl; have hcz23_7 : w22.cell? ⟨gb346, 7, none⟩ = some (.int .i64 a0_7) := (blk_cell BK346.out 7).trans rfl; have hfz23_0 := blk_frozen BK346.out 0; have hfz23_1 := blk_frozen BK346.out 1; have hfz23_2 := blk_frozen BK346.out 2; have hfz23_3 := blk_frozen BK346.out 3; have hfz23_4 := blk_frozen BK346.out 4; have hfz23_5 := blk_frozen BK346.out 5; have hfz23_6 := blk_frozen BK346.out 6; have hfz23_7 := blk_frozen BK346.out 7; have p357 : 0 ≤ (x3_1 : Int) := of_decide_eq_true (by first | (with_reducible assumption) | assumption); have q357 : x3_1 < (l0_0.length : Int) := of_decide_eq_true (by first | (with_reducible assumption) | assumption); obtain ⟨ad357, e357, hx357_0⟩ := Kd.at_string HR0_0.out x3_1 p357 q357; obtain rfl : ad349 = ad357 := (by injection e357); replace hx357_0 := (HB.out.cell (World.block_lt_of_cell? w _ hx357_0)).trans hx357_0; replace p357 := eq_true p357; replace q357 := eq_true q357) | ((with_reducible refine gate_callee (f := 17) rfl ?_); refine goesL_ (some 48) rfl rfl Tryd.func17 (by kernel_rfl) rfl #[.string (rdOf ByteArray.empty l0_0 x3_1)] rfl (by (try simp only [List.map_toArray, List.map_cons, List.map_nil]); first | done | rfl | (simp only [List.length_drop, List.length_take]; rfl)) ?_; (with_reducible refine (quillref1_May.calls k3 (rdOf ByteArray.empty l0_0 x3_1) t358 _ ?side1 A19.out).mono ?_); (case side1 => exact Tabs.below HT.out (by repeat (first | (with_reducible first | exact HB.out | apply below_alloc | apply pw_below_drewN | apply below_drew1 | refine below_set ?_ GE346.out) | exact HB.out))); rintro e w24 ⟨rfl, hb⟩; refine ⟨_, rfl, ?_⟩; have n0_ := Aside0.mk (Kd.R_below (by (with_reducible repeat (first | apply Kd.R_alloc | apply Kd.R_drewN | apply Kd.R_drew)); exact HO354.out) hb); have n1_ := Aside0.mk (Kd.R_below (by (with_reducible repeat (first | apply Kd.R_alloc | apply Kd.R_drewN | apply Kd.R_drew)); exact HO356.out) hb); have n2_ := Aside0.mk (blk_below (g := gb346) (o := .cells #[.slice (some ad349) l0_0.length c0_0, .int .i64 a0_1, .int .i64 a0_2, .int .i64 a0_3, .int .i64 a0_4, .int .i64 a0_5, .int .i64 a0_6, .int .i64 a0_7] 28 (0, 0)) (by (with_reducible repeat (first | refine blk_drewN ?_ _ | refine blk_drew ?_ | refine blk_alloc ?_ _)); exact BK346.out) hb); have n3_ := Aside0.mk (below_step (by repeat (first | (with_reducible first | exact HB.out | apply below_alloc | apply pw_below_drewN | apply below_drew1 | refine below_set ?_ GE346.out) | exact HB.out)) hb); clear HO354; clear HO356; clear BK346; clear HB; have HO354 := n0_; have HO356 := n1_; have BK346 := n2_; have HB := n3_; clear n0_ n1_ n2_ n3_; (try clear hb); (try clear hb2); (try clear hk); (try clear hi)))
            (try simp only [Act.put, List.setIfInBounds_toArray, List.set_cons_zero, List.set_cons_succ])
            go_cut [8, 9, 10] (fun v8 v9 v10 wc => ∃ (kq : Nat) (x8_19 : Int) (x9_19 : List Int) (x10_19 : List Int), v8 = .int .i64 x8_19 ∧ Aside0 (quilllaw10_WordsCells.j3 kq x3_1 x4_3 t350 t351 t352 x8_19 x9_19 x10_19 l0_0 a0_1 a0_2 a0_3 a0_4 a0_5 a0_6 a0_7 = some r) ∧ Aside0 (kq ≤ k3) ∧ Aside0 (Kd.R (Kd.int .i64) 3 wc w.heap.size (fun k_ => some k_ ≠ (v355 : Value).ownBlock ∧ some k_ ≠ (v9 : Value).ownBlock ∧ some k_ ≠ (v10 : Value).ownBlock) v353 t350) ∧ Aside0 (Kd.R (Kd.int .i64) 3 wc w.heap.size (fun k_ => some k_ ≠ (v353 : Value).ownBlock ∧ some k_ ≠ (v9 : Value).ownBlock ∧ some k_ ≠ (v10 : Value).ownBlock) v355 t351) ∧ Aside0 (Kd.R (Kd.int .i64) 3 wc w.heap.size (fun k_ => some k_ ≠ (v353 : Value).ownBlock ∧ some k_ ≠ (v355 : Value).ownBlock ∧ some k_ ≠ (v10 : Value).ownBlock) v9 x9_19) ∧ Aside0 (Kd.R (Kd.int .i64) 3 wc w.heap.size (fun k_ => some k_ ≠ (v353 : Value).ownBlock ∧ some k_ ≠ (v355 : Value).ownBlock ∧ some k_ ≠ (v9 : Value).ownBlock) v10 x10_19) ∧ Aside0 (wc.heap[gb346]? = some (.cells #[(.slice (some ad349) l0_0.length c0_0), .int .i64 a0_1, .int .i64 a0_2, .int .i64 a0_3, .int .i64 a0_4, .int .i64 a0_5, .int .i64 a0_6, .int .i64 a0_7] 28 (0, 0))) ∧ Aside0 (Below w.heap.size w wc))
            case first =>
             have H := HC20.out
             clear HC20
             by_cases c25 : t358 = true
             ·
              subst c25
              have H1 : (if (rdOf ByteArray.empty l0_0 x3_1).size ≤ 70368744177664 then ((quillref10_Cells.f k3 (runesOf (rdOf ByteArray.empty l0_0 x3_1)) (x4_3 == 1)).bind fun bt363 => (quilllaw10_WordsCells.j3 k3 x3_1 x4_3 t350 t351 t352 0 bt363.1 bt363.2 l0_0 a0_1 a0_2 a0_3 a0_4 a0_5 a0_6 a0_7)) else (none)) = some r := by rw [if_pos rfl] at H; exact H
              clear H
              have H := H1
              clear H1
              by_cases c26 : (rdOf ByteArray.empty l0_0 x3_1).size ≤ 70368744177664
              ·
               rw [if_pos c26] at H
               have c26b0 := eq_true c26
               have c26b1 : decide ((rdOf ByteArray.empty l0_0 x3_1).size ≤ 70368744177664) = true := decide_eq_true c26
               clear c26
               obtain ⟨y360, hy360⟩ : ∃ y_ : List Int, y_ = (runesOf (rdOf ByteArray.empty l0_0 x3_1)) := ⟨_, rfl⟩
               replace H : ((quillref10_Cells.f k3 y360 (x4_3 == 1)).bind fun bt363 => (quilllaw10_WordsCells.j3 k3 x3_1 x4_3 t350 t351 t352 0 bt363.1 bt363.2 l0_0 a0_1 a0_2 a0_3 a0_4 a0_5 a0_6 a0_7)) = some r := by first | (rw [hy360]; with_reducible exact H) | (have H2_ := (Option.bind_some _ _).symm.trans H; rw [hy360]; with_reducible exact H2_) | (have H2_ := (Option.bind_some _ _).symm.trans H; with_reducible exact H2_) | with_reducible exact H | (rw [hy360]; exact H) | exact H
               have Ny360 := Aside0.mk hy360
               clear hy360
               replace H := Option.bind_eq_some_iff.mp H
               obtain ⟨⟨t363, t364⟩, A270, H⟩ := H
               replace H : (quilllaw10_WordsCells.j3 k3 x3_1 x4_3 t350 t351 t352 0 t363 t364 l0_0 a0_1 a0_2 a0_3 a0_4 a0_5 a0_6 a0_7) = some r := H
               have A27 := Aside0.mk A270
               clear A270
               have H' := Aside0.mk H
               clear H
               have hcz28_0 : w24.cell? ⟨gb346, 0, none⟩ = some (.slice (some ad349) l0_0.length c0_0) := (blk_cell BK346.out 0).trans rfl
               have hcz28_1 : w24.cell? ⟨gb346, 1, none⟩ = some (.int .i64 a0_1) := (blk_cell BK346.out 1).trans rfl
               have hcz28_2 : w24.cell? ⟨gb346, 2, none⟩ = some (.int .i64 a0_2) := (blk_cell BK346.out 2).trans rfl
               have hcz28_3 : w24.cell? ⟨gb346, 3, none⟩ = some (.int .i64 a0_3) := (blk_cell BK346.out 3).trans rfl
               have hcz28_4 : w24.cell? ⟨gb346, 4, none⟩ = some (.int .i64 a0_4) := (blk_cell BK346.out 4).trans rfl
               have hcz28_5 : w24.cell? ⟨gb346, 5, none⟩ = some (.int .i64 a0_5) := (blk_cell BK346.out 5).trans rfl
               have hcz28_6 : w24.cell? ⟨gb346, 6, none⟩ = some (.int .i64 a0_6) := (blk_cell BK346.out 6).trans rfl
               have hcz28_7 : w24.cell? ⟨gb346, 7, none⟩ = some (.int .i64 a0_7) := (blk_cell BK346.out 7).trans rfl
               have hfz28_0 := blk_frozen BK346.out 0
               have hfz28_1 := blk_frozen BK346.out 1
               have hfz28_2 := blk_frozen BK346.out 2
               have hfz28_3 := blk_frozen BK346.out 3
               have hfz28_4 := blk_frozen BK346.out 4
               have hfz28_5 := blk_frozen BK346.out 5
               have hfz28_6 := blk_frozen BK346.out 6
               have hfz28_7 := blk_frozen BK346.out 7
               have p359 : 0 ≤ (x3_1 : Int) := of_decide_eq_true (by first | (with_reducible assumption) | assumption)
               have q359 : x3_1 < (l0_0.length : Int) := of_decide_eq_true (by first | (with_reducible assumption) | assumption)
               obtain ⟨ad359, e359, hx359_0⟩ := Kd.at_string HR0_0.out x3_1 p359 q359
               obtain rfl : ad349 = ad359 := (by injection e359)
               replace hx359_0 := (HB.out.cell (World.block_lt_of_cell? w _ hx359_0)).trans hx359_0
               replace p359 := eq_true p359
               replace q359 := eq_true q359
               go_wp2_with (first | ((with_reducible refine gate_dst (N := 56) rfl ?_); refine R_runes (ok := fun _ => True) _ 21 rfl (N := 56) rfl 9 38 (.tmp 55) rfl (rdOf ByteArray.empty l0_0 x3_1) rfl Tryd.underlying9 Tryd.underlying38 Tryd.underlying21 (of_decide_eq_true (by first | (with_reducible assumption) | assumption)) (fun _ _ => trivial) (Below.refl _ _) (Nat.le_refl _) ?_; intro v361 w29 ho30 hb hg_ hnew_; clear hg_ hnew_; (first | rw [← Ny360.out] at ho30 | (simp only [Int.reduceToNat] at ho30; rw [← Ny360.out] at ho30)); have n0_ := Aside0.mk (Kd.R_below (by (with_reducible repeat (first | apply Kd.R_alloc | apply Kd.R_drewN | apply Kd.R_drew)); exact HO354.out) hb); have n1_ := Aside0.mk (Kd.R_below (by (with_reducible repeat (first | apply Kd.R_alloc | apply Kd.R_drewN | apply Kd.R_drew)); exact HO356.out) hb); have n2_ := Aside0.mk (Kd.R_lower ho30 (below_size (by repeat (first | (with_reducible first | exact HB.out | apply below_alloc | apply pw_below_drewN | apply below_drew1 | refine below_set ?_ GE346.out) | exact HB.out)))); have n3_ := Aside0.mk (blk_below (g := gb346) (o := .cells #[.slice (some ad349) l0_0.length c0_0, .int .i64 a0_1, .int .i64 a0_2, .int .i64 a0_3, .int .i64 a0_4, .int .i64 a0_5, .int .i64 a0_6, .int .i64 a0_7] 28 (0, 0)) (by (with_reducible repeat (first | refine blk_drewN ?_ _ | refine blk_drew ?_ | refine blk_alloc ?_ _)); exact BK346.out) hb); have n4_ := Aside0.mk (below_step (by repeat (first | (with_reducible first | exact HB.out | apply below_alloc | apply pw_below_drewN | apply below_drew1 | refine below_set ?_ GE346.out) | exact HB.out)) hb); clear HO354; clear HO356; clear BK346; clear HB; have HO354 := n0_; have HO356 := n1_; have HO362 := n2_; have BK346 := n3_; have HB := n4_; clear n0_ n1_ n2_ n3_ n4_; clear hb ho30; obtain ⟨Ao31, co31, eo31⟩ := Kd.R_slice HO362.out; subst eo31) | ((with_reducible refine gate_callee (f := 18) rfl ?_); refine goesL_ (some 59) rfl rfl Tryd.func18 (by kernel_rfl) rfl #[.slice Ao31 y360.length co31, .bool (x4_3 == 1)] rfl (by (try simp only [List.map_toArray, List.map_cons, List.map_nil]); first | done | rfl | (simp only [List.length_drop, List.length_take]; rfl)) ?_; (with_reducible refine (quillref10_Cells.calls k3 _ _ y360 (x4_3 == 1) t363 t364 _ ?side1 ?side2 A27.out).mono ?_); (case side1 => repeat (first | exact (Kd.R_reads' HO362.out).2.2 | (with_reducible refine Kd.C_alloc ?_ _) | (with_reducible refine Kd.C_drewN ?_ _) | (with_reducible refine Kd.C_drew ?_))); (case side2 => exact (Kd.R_reads' HO362.out).2.1); rintro e w32 ⟨v365, v367, rfl, ho0, ho1, hb⟩; refine ⟨_, rfl, ?_⟩; have n0_ := Aside0.mk (Kd.R_mono (Kd.R_told (Kd.R_told (Kd.R_old (by (with_reducible repeat (first | apply Kd.R_alloc | apply Kd.R_drewN | apply Kd.R_drew)); exact HO354.out) hb) (Kd.R_base ho0)) (Kd.R_base ho1)) (fun _ h_ => h_.1)); have n1_ := Aside0.mk (Kd.R_mono (Kd.R_told (Kd.R_told (Kd.R_old (by (with_reducible repeat (first | apply Kd.R_alloc | apply Kd.R_drewN | apply Kd.R_drew)); exact HO356.out) hb) (Kd.R_base ho0)) (Kd.R_base ho1)) (fun _ h_ => h_.1)); have n2_ := Aside0.mk (Kd.R_below (by (with_reducible repeat (first | apply Kd.R_alloc | apply Kd.R_drewN | apply Kd.R_drew)); exact HO362.out) hb); have n3_ := Aside0.mk (Kd.R_lower (Kd.R_new' (Kd.R_new' ho0 (Kd.R_lt (by (with_reducible repeat (first | apply Kd.R_alloc | apply Kd.R_drewN | apply Kd.R_drew)); exact HO354.out))) (Kd.R_lt (by (with_reducible repeat (first | apply Kd.R_alloc | apply Kd.R_drewN | apply Kd.R_drew)); exact HO356.out))) (below_size (by repeat (first | (with_reducible first | exact HB.out | apply below_alloc | apply pw_below_drewN | apply below_drew1 | refine below_set ?_ GE346.out) | exact HB.out)))); have n4_ := Aside0.mk (Kd.R_lower (Kd.R_new' (Kd.R_new' ho1 (Kd.R_lt (by (with_reducible repeat (first | apply Kd.R_alloc | apply Kd.R_drewN | apply Kd.R_drew)); exact HO354.out))) (Kd.R_lt (by (with_reducible repeat (first | apply Kd.R_alloc | apply Kd.R_drewN | apply Kd.R_drew)); exact HO356.out))) (below_size (by repeat (first | (with_reducible first | exact HB.out | apply below_alloc | apply pw_below_drewN | apply below_drew1 | refine below_set ?_ GE346.out) | exact HB.out)))); have n5_ := Aside0.mk (blk_below (g := gb346) (o := .cells #[.slice (some ad349) l0_0.length c0_0, .int .i64 a0_1, .int .i64 a0_2, .int .i64 a0_3, .int .i64 a0_4, .int .i64 a0_5, .int .i64 a0_6, .int .i64 a0_7] 28 (0, 0)) (by (with_reducible repeat (first | refine blk_drewN ?_ _ | refine blk_drew ?_ | refine blk_alloc ?_ _)); exact BK346.out) hb); have n6_ := Aside0.mk (below_step (by repeat (first | (with_reducible first | exact HB.out | apply below_alloc | apply pw_below_drewN | apply below_drew1 | refine below_set ?_ GE346.out) | exact HB.out)) hb); clear HO354; clear HO356; clear HO362; clear BK346; clear HB; have HO354 := n0_; have HO356 := n1_; have HO362 := n2_; have HO366 := n3_; have HO368 := n4_; have BK346 := n5_; have HB := n6_; clear n0_ n1_ n2_ n3_ n4_ n5_ n6_; (try clear hb); (try clear hb2); (try clear hk); (try clear hi); (try clear ho0); (try clear ho1)))
               go_meet
               case rel => exact ⟨_, (0), (t363), (t364), (by first | rfl | (simp; done) | (simp [*]; done)), H', ⟨by have := HK1.out; have := HJ9.out; have := HK3.out; first | omega | exact Nat.le_refl _⟩, ⟨by (with_reducible repeat (first | apply Kd.R_alloc | apply Kd.R_drewN | apply Kd.R_drew)); exact Kd.R_mono HO354.out (fun _ hk => ⟨hk.1.1, ⟨hk.1.2, hk.2⟩⟩)⟩, ⟨by (with_reducible repeat (first | apply Kd.R_alloc | apply Kd.R_drewN | apply Kd.R_drew)); exact Kd.R_mono HO356.out (fun _ hk => ⟨hk.1.1, ⟨hk.1.2, hk.2⟩⟩)⟩, ⟨by (with_reducible repeat (first | apply Kd.R_alloc | apply Kd.R_drewN | apply Kd.R_drew)); exact Kd.R_mono HO366.out (fun _ hk => ⟨hk.1.2, ⟨hk.2, hk.1.1⟩⟩)⟩, ⟨by (with_reducible repeat (first | apply Kd.R_alloc | apply Kd.R_drewN | apply Kd.R_drew)); exact Kd.R_mono HO368.out (fun _ hk => ⟨hk.1.2, ⟨hk.2, hk.1.1⟩⟩)⟩, ⟨by (with_reducible repeat (first | refine blk_drewN ?_ _ | refine blk_drew ?_ | refine blk_alloc ?_ _)); exact BK346.out⟩, ⟨by repeat (first | (with_reducible first | exact HB.out | apply below_alloc | apply pw_below_drewN | apply below_drew1 | refine below_set ?_ GE346.out) | exact HB.out)⟩⟩
              ·
               rw [if_neg c26] at H
               exact absurd H (by simp)
             ·
              replace c25 := Bool.eq_false_iff.mpr c25
              subst c25
              have H1 : (quilllaw10_WordsCells.j3 k3 x3_1 x4_3 t350 t351 t352 1 ([] : List Int) ([] : List Int) l0_0 a0_1 a0_2 a0_3 a0_4 a0_5 a0_6 a0_7) = some r := by rw [if_neg (show ¬ (false = true) by decide)] at H; exact H
              clear H
              have H := H1
              clear H1
              have H' := Aside0.mk H
              clear H
              go_wp2
              go_meet
              case rel => exact ⟨_, (1), (([] : List Int)), (([] : List Int)), (by first | rfl | (simp; done) | (simp [*]; done)), H', ⟨by have := HK1.out; have := HJ9.out; have := HK3.out; first | omega | exact Nat.le_refl _⟩, ⟨by (with_reducible repeat (first | apply Kd.R_alloc | apply Kd.R_drewN | apply Kd.R_drew)); exact Kd.R_mono HO354.out (fun _ hk => ⟨hk, ⟨(by simp [Value.ownBlock]), (by simp [Value.ownBlock])⟩⟩)⟩, ⟨by (with_reducible repeat (first | apply Kd.R_alloc | apply Kd.R_drewN | apply Kd.R_drew)); exact Kd.R_mono HO356.out (fun _ hk => ⟨hk, ⟨(by simp [Value.ownBlock]), (by simp [Value.ownBlock])⟩⟩)⟩, ⟨by first | exact Kd.R_nil _ _ _ _ _ | exact Kd.N_nil _ _ _ _ _ | exact Kd.V_nil _ _ _ _ _ | exact Kd.Q_nil _ _ _ _ _ | exact Kd.S_nil _ _ _ _ _⟩, ⟨by first | exact Kd.R_nil _ _ _ _ _ | exact Kd.N_nil _ _ _ _ _ | exact Kd.V_nil _ _ _ _ _ | exact Kd.Q_nil _ _ _ _ _ | exact Kd.S_nil _ _ _ _ _⟩, ⟨by (with_reducible repeat (first | refine blk_drewN ?_ _ | refine blk_drew ?_ | refine blk_alloc ?_ _)); exact BK346.out⟩, ⟨by repeat (first | (with_reducible first | exact HB.out | apply below_alloc | apply pw_below_drewN | apply below_drew1 | refine below_set ?_ GE346.out) | exact HB.out)⟩⟩
            case rest =>
             clear HC20
             try clear c1
             try clear c2
             try clear p2
             try clear c3
             try clear p3
             try clear q3
             try clear hx3
             try clear c11
             try clear c11b0
             try clear c12
             try clear c14
             try clear c15
             try clear c15b0
             try clear c16
             try clear c16b0
             try clear c17
             try clear c17b0
             try clear c18
             try clear c25
             try clear c26
             try clear c26b0
             try clear c26b1
             try clear hcz12_0
             try clear hcz12_1
             try clear hcz12_2
             try clear hcz12_3
             try clear hcz12_4
             try clear hcz12_5
             try clear hcz12_6
             try clear hcz12_7
             try clear hcz13_0
             try clear hcz13_1
             try clear hcz13_2
             try clear hcz13_3
             try clear hcz13_4
             try clear hcz13_5
             try clear hcz13_6
             try clear hcz13_7
             try clear hcz21_0
             try clear hcz21_1
             try clear hcz21_2
             try clear hcz21_3
             try clear hcz21_4
             try clear hcz21_5
             try clear hcz21_6
             try clear hcz21_7
             try clear hcz23_0
             try clear hcz23_1
             try clear hcz23_2
             try clear hcz23_3
             try clear hcz23_4
             try clear hcz23_5
             try clear hcz23_6
             try clear hcz23_7
             try clear hcz28_0
             try clear hcz28_1
             try clear hcz28_2
             try clear hcz28_3
             try clear hcz28_4
             try clear hcz28_5
             try clear hcz28_6
             try clear hcz28_7
             try clear hcz5_0
             try clear hcz5_1
             try clear hcz5_2
             try clear hcz5_3
             try clear hcz5_4
             try clear hcz5_5
             try clear hcz5_6
             try clear hcz5_7
             try clear hcz8_0
             try clear hcz8_1
             try clear hcz8_2
             try clear hcz8_3
             try clear hcz8_4
             try clear hcz8_5
             try clear hcz8_6
             try clear hcz8_7
             try clear hfz12_0
             try clear hfz12_1
             try clear hfz12_2
             try clear hfz12_3
             try clear hfz12_4
             try clear hfz12_5
             try clear hfz12_6
             try clear hfz12_7
             try clear hfz13_0
             try clear hfz13_1
             try clear hfz13_2
             try clear hfz13_3
             try clear hfz13_4
             try clear hfz13_5
             try clear hfz13_6
             try clear hfz13_7
             try clear hfz21_0
             try clear hfz21_1
             try clear hfz21_2
             try clear hfz21_3
             try clear hfz21_4
             try clear hfz21_5
             try clear hfz21_6
             try clear hfz21_7
             try clear hfz23_0
             try clear hfz23_1
             try clear hfz23_2
             try clear hfz23_3
             try clear hfz23_4
             try clear hfz23_5
             try clear hfz23_6
             try clear hfz23_7
             try clear hfz28_0
             try clear hfz28_1
             try clear hfz28_2
             try clear hfz28_3
             try clear hfz28_4
             try clear hfz28_5
             try clear hfz28_6
             try clear hfz28_7
             try clear hfz5_0
             try clear hfz5_1
             try clear hfz5_2
             try clear hfz5_3
             try clear hfz5_4
             try clear hfz5_5
             try clear hfz5_6
             try clear hfz5_7
             try clear hfz8_0
             try clear hfz8_1
             try clear hfz8_2
             try clear hfz8_3
             try clear hfz8_4
             try clear hfz8_5
             try clear hfz8_6
             try clear hfz8_7
             try clear hx349_0
             try clear hx357_0
             try clear hx359_0
             try clear p2
             try clear p349
             try clear p357
             try clear p359
             try clear q349
             try clear q357
             try clear q359
             obtain ⟨kq, x8_19, x9_19, x10_19, rfl, HA, HJ19, HO_5, HO_6, HO_9, HO_10, BK346, HB⟩ := hcut
             cases kq with
             | zero => exact absurd HA.out (by simp [quilllaw10_WordsCells.j3])
             | succ kj19 =>
              have H := HA.out
              clear HA
              simp only [quilllaw10_WordsCells.j3] at H
              replace H := Option.bind_eq_some_iff.mp H
              obtain ⟨t369, A330, H⟩ := H
              replace H : (if t369 = x8_19 then ((quillref0_EqNumbers.f kj19 t350 x9_19).bind fun t370 => (if t370 = true then ((quillref0_EqNumbers.f kj19 t351 x10_19).bind fun t371 => (if t371 = true then ((quilllaw0_Numbers.f kj19 t350).bind fun _ => (quilllaw10_WordsCells.l1 kj19 x3_1 (wrap64 (x4_3 + 1)) l0_0 a0_1 a0_2 a0_3 a0_4 a0_5 a0_6 a0_7)) else (some false))) else (some false))) else (some false)) = some r := H
              have A33 := Aside0.mk A330
              clear A330
              by_cases c34 : t369 = x8_19
              ·
               rw [if_pos c34] at H
               have c34b0 : (t369 == x8_19) = true := beq_iff_eq.mpr c34
               have c34b1 : (t369 != x8_19) = false := bne_eq_false_iff_eq.mpr c34
               clear c34
               replace H := Option.bind_eq_some_iff.mp H
               obtain ⟨t370, A350, H⟩ := H
               replace H : (if t370 = true then ((quillref0_EqNumbers.f kj19 t351 x10_19).bind fun t371 => (if t371 = true then ((quilllaw0_Numbers.f kj19 t350).bind fun _ => (quilllaw10_WordsCells.l1 kj19 x3_1 (wrap64 (x4_3 + 1)) l0_0 a0_1 a0_2 a0_3 a0_4 a0_5 a0_6 a0_7)) else (some false))) else (some false)) = some r := H
               have A35 := Aside0.mk A350
               clear A350
               by_cases c36 : t370 = true
               ·
                subst c36
                have H1 : ((quillref0_EqNumbers.f kj19 t351 x10_19).bind fun t371 => (if t371 = true then ((quilllaw0_Numbers.f kj19 t350).bind fun _ => (quilllaw10_WordsCells.l1 kj19 x3_1 (wrap64 (x4_3 + 1)) l0_0 a0_1 a0_2 a0_3 a0_4 a0_5 a0_6 a0_7)) else (some false))) = some r := by rw [if_pos rfl] at H; exact H
                clear H
                have H := H1
                clear H1
                replace H := Option.bind_eq_some_iff.mp H
                obtain ⟨t371, A370, H⟩ := H
                replace H : (if t371 = true then ((quilllaw0_Numbers.f kj19 t350).bind fun _ => (quilllaw10_WordsCells.l1 kj19 x3_1 (wrap64 (x4_3 + 1)) l0_0 a0_1 a0_2 a0_3 a0_4 a0_5 a0_6 a0_7)) else (some false)) = some r := H
                have A37 := Aside0.mk A370
                clear A370
                by_cases c38 : t371 = true
                ·
                 subst c38
                 have H1 : ((quilllaw0_Numbers.f kj19 t350).bind fun _ => (quilllaw10_WordsCells.l1 kj19 x3_1 (wrap64 (x4_3 + 1)) l0_0 a0_1 a0_2 a0_3 a0_4 a0_5 a0_6 a0_7)) = some r := by rw [if_pos rfl] at H; exact H
                 clear H
                 have H := H1
                 clear H1
                 replace H := Option.bind_eq_some_iff.mp H
                 obtain ⟨_, A390, H⟩ := H
                 replace H : (quilllaw10_WordsCells.l1 kj19 x3_1 (wrap64 (x4_3 + 1)) l0_0 a0_1 a0_2 a0_3 a0_4 a0_5 a0_6 a0_7) = some r := H
                 have A39 := Aside0.mk A390
                 clear A390
                 have H' := Aside0.mk H
                 clear H
                 go_wp2_with (first | ((with_reducible refine gate_callee (f := 19) rfl ?_); refine goesL_ (some 63) rfl rfl Tryd.func19 (by kernel_rfl) rfl #[.int .i64 t352] rfl (by (try simp only [List.map_toArray, List.map_cons, List.map_nil]); first | done | rfl | (simp only [List.length_drop, List.length_take]; rfl)) ?_; (with_reducible refine (quilllaw10_num.calls t352 t369 _ A33.out).mono ?_); rintro e w' ⟨rfl, ⟨nd, rfl⟩⟩; refine ⟨_, rfl, ?_⟩; obtain ⟨Ao40, co40, eo40⟩ := Kd.R_slice HO_5.out; subst eo40; obtain ⟨Ao41, co41, eo41⟩ := Kd.R_slice HO_9.out; subst eo41) | (go_at_call 20; (with_reducible refine (quillref0_EqNumbers.calls kj19 _ _ t350 _ _ x9_19 true _ ?side1 ?side2 ?side3 ?side4 A35.out).mono ?_); (case side1 => repeat (first | exact (Kd.R_reads' HO_5.out).2.2 | (with_reducible refine Kd.C_alloc ?_ _) | (with_reducible refine Kd.C_drewN ?_ _) | (with_reducible refine Kd.C_drew ?_))); (case side2 => exact (Kd.R_reads' HO_5.out).2.1); (case side3 => repeat (first | exact (Kd.R_reads' HO_9.out).2.2 | (with_reducible refine Kd.C_alloc ?_ _) | (with_reducible refine Kd.C_drewN ?_ _) | (with_reducible refine Kd.C_drew ?_))); (case side4 => exact (Kd.R_reads' HO_9.out).2.1); rintro e w' ⟨rfl, ⟨nd, rfl⟩⟩; obtain ⟨Ao42, co42, eo42⟩ := Kd.R_slice HO_6.out; subst eo42; obtain ⟨Ao43, co43, eo43⟩ := Kd.R_slice HO_10.out; subst eo43) | (go_at_call 20; (with_reducible refine (quillref0_EqNumbers.calls kj19 _ _ t351 _ _ x10_19 true _ ?side1 ?side2 ?side3 ?side4 A37.out).mono ?_); (case side1 => repeat (first | exact (Kd.R_reads' HO_6.out).2.2 | (with_reducible refine Kd.C_alloc ?_ _) | (with_reducible refine Kd.C_drewN ?_ _) | (with_reducible refine Kd.C_drew ?_))); (case side2 => exact (Kd.R_reads' HO_6.out).2.1); (case side3 => repeat (first | exact (Kd.R_reads' HO_10.out).2.2 | (with_reducible refine Kd.C_alloc ?_ _) | (with_reducible refine Kd.C_drewN ?_ _) | (with_reducible refine Kd.C_drew ?_))); (case side4 => exact (Kd.R_reads' HO_10.out).2.1); rintro e w' ⟨rfl, ⟨nd, rfl⟩⟩) | ((with_reducible refine gate_callee (f := 21) rfl ?_); refine goesL_ (some 79) rfl rfl Tryd.func21 (by kernel_rfl) rfl #[.slice Ao40 t350.length co40] rfl (by (try simp only [List.map_toArray, List.map_cons, List.map_nil]); first | done | rfl | (simp only [List.length_drop, List.length_take]; rfl)) ?_; (with_reducible refine (quilllaw0_Numbers.calls kj19 (fun k_ => some k_ = (.slice Ao40 t350.length co40 : Value).ownBlock) (.slice Ao40 t350.length co40) t350  w _ ?side1 ?side2 A39.out).mono ?_); (case side1 => repeat (first | (with_reducible first | exact HB.out | apply below_alloc | apply pw_below_drewN | apply below_drew1 | refine below_set ?_ GE346.out) | exact HB.out)); (case side2 => exact Kd.R_tight rfl HO_5.out); rintro e w44 ⟨rfl, hb, hkp⟩; refine ⟨_, rfl, ?_⟩; have n0_ := Aside0.mk (Kd.R_mono (ok' := fun k_ => some k_ ≠ (.slice Ao41 x9_19.length co41 : Value).ownBlock ∧ some k_ ≠ (.slice Ao43 x10_19.length co43 : Value).ownBlock) (Kd.R_keptB (HO_6.out) hkp (fun k_ hk_ hs_ => (hk_.1) hs_)) (fun k_ hk_ => ⟨hk_.1.2.1, hk_.1.2.2⟩)); have n1_ := Aside0.mk (Kd.R_mono (ok' := fun k_ => some k_ ≠ (.slice Ao42 t351.length co42 : Value).ownBlock ∧ some k_ ≠ (.slice Ao43 x10_19.length co43 : Value).ownBlock) (Kd.R_keptB (HO_9.out) hkp (fun k_ hk_ hs_ => (hk_.1) hs_)) (fun k_ hk_ => ⟨hk_.1.2.1, hk_.1.2.2⟩)); have n2_ := Aside0.mk (Kd.R_mono (ok' := fun k_ => some k_ ≠ (.slice Ao42 t351.length co42 : Value).ownBlock ∧ some k_ ≠ (.slice Ao41 x9_19.length co41 : Value).ownBlock) (Kd.R_keptB (HO_10.out) hkp (fun k_ hk_ hs_ => (hk_.1) hs_)) (fun k_ hk_ => ⟨hk_.1.2.1, hk_.1.2.2⟩)); have n3_ := Aside0.mk (blk_kept (by (with_reducible repeat (first | refine blk_drewN ?_ _ | refine blk_drew ?_ | refine blk_alloc ?_ _)); exact BK346.out) hkp (fun hs_ => (fun e_ => (Kd.R_ne HO_5.out BK346.out (by decide)) e_) hs_)); have n4_ := Aside0.mk (hb); clear HO_6; clear HO_9; clear HO_10; clear BK346; clear HB; clear HO_5; have HO_6 := n0_; have HO_9 := n1_; have HO_10 := n2_; have BK346 := n3_; have HB := n4_; clear n0_ n1_ n2_ n3_ n4_; (try clear hb); (try clear hkp)))
                 go_roundg kj19
                 case measure => have := HK1.out; have := HJ9.out; have := HK3.out; have := HJ19.out; omega
                 case rel => exact ⟨(wrap64 (x4_3 + 1)), (by first | rfl | (simp; done) | (simp [*]; done)), H', ⟨by have := HK1.out; have := HJ9.out; have := HK3.out; have := HJ19.out; omega⟩, ⟨by (with_reducible repeat (first | refine blk_drewN ?_ _ | refine blk_drew ?_ | refine blk_alloc ?_ _)); exact BK346.out⟩, ⟨by repeat (first | (with_reducible first | exact HB.out | apply below_alloc | apply pw_below_drewN | apply below_drew1 | refine below_set ?_ GE346.out) | exact HB.out)⟩⟩
                ·
                 replace c38 := Bool.eq_false_iff.mpr c38
                 subst c38
                 have H1 : (some false) = some r := by rw [if_neg (show ¬ (false = true) by decide)] at H; exact H
                 clear H
                 have H := H1
                 clear H1
                 obtain rfl := Option.some.inj H
                 go_wp2_with (first | ((with_reducible refine gate_callee (f := 19) rfl ?_); refine goesL_ (some 63) rfl rfl Tryd.func19 (by kernel_rfl) rfl #[.int .i64 t352] rfl (by (try simp only [List.map_toArray, List.map_cons, List.map_nil]); first | done | rfl | (simp only [List.length_drop, List.length_take]; rfl)) ?_; (with_reducible refine (quilllaw10_num.calls t352 t369 _ A33.out).mono ?_); rintro e w' ⟨rfl, ⟨nd, rfl⟩⟩; refine ⟨_, rfl, ?_⟩; obtain ⟨Ao45, co45, eo45⟩ := Kd.R_slice HO_5.out; subst eo45; obtain ⟨Ao46, co46, eo46⟩ := Kd.R_slice HO_9.out; subst eo46) | (go_at_call 20; (with_reducible refine (quillref0_EqNumbers.calls kj19 _ _ t350 _ _ x9_19 true _ ?side1 ?side2 ?side3 ?side4 A35.out).mono ?_); (case side1 => repeat (first | exact (Kd.R_reads' HO_5.out).2.2 | (with_reducible refine Kd.C_alloc ?_ _) | (with_reducible refine Kd.C_drewN ?_ _) | (with_reducible refine Kd.C_drew ?_))); (case side2 => exact (Kd.R_reads' HO_5.out).2.1); (case side3 => repeat (first | exact (Kd.R_reads' HO_9.out).2.2 | (with_reducible refine Kd.C_alloc ?_ _) | (with_reducible refine Kd.C_drewN ?_ _) | (with_reducible refine Kd.C_drew ?_))); (case side4 => exact (Kd.R_reads' HO_9.out).2.1); rintro e w' ⟨rfl, ⟨nd, rfl⟩⟩; obtain ⟨Ao47, co47, eo47⟩ := Kd.R_slice HO_6.out; subst eo47; obtain ⟨Ao48, co48, eo48⟩ := Kd.R_slice HO_10.out; subst eo48) | (go_at_call 20; (with_reducible refine (quillref0_EqNumbers.calls kj19 _ _ t351 _ _ x10_19 false _ ?side1 ?side2 ?side3 ?side4 A37.out).mono ?_); (case side1 => repeat (first | exact (Kd.R_reads' HO_6.out).2.2 | (with_reducible refine Kd.C_alloc ?_ _) | (with_reducible refine Kd.C_drewN ?_ _) | (with_reducible refine Kd.C_drew ?_))); (case side2 => exact (Kd.R_reads' HO_6.out).2.1); (case side3 => repeat (first | exact (Kd.R_reads' HO_10.out).2.2 | (with_reducible refine Kd.C_alloc ?_ _) | (with_reducible refine Kd.C_drewN ?_ _) | (with_reducible refine Kd.C_drew ?_))); (case side4 => exact (Kd.R_reads' HO_10.out).2.1); rintro e w' ⟨rfl, ⟨nd, rfl⟩⟩))
                 go_ret
                 exact ⟨by first | rfl | (simp [errW_none, errW_some] <;> rfl) | (simp [*, errW_none, errW_some] <;> rfl), by repeat (first | (with_reducible first | exact HB.out | apply below_alloc | apply pw_below_drewN | apply below_drew1 | refine below_set ?_ GE346.out) | exact HB.out)⟩
               ·
                replace c36 := Bool.eq_false_iff.mpr c36
                subst c36
                have H1 : (some false) = some r := by rw [if_neg (show ¬ (false = true) by decide)] at H; exact H
                clear H
                have H := H1
                clear H1
                obtain rfl := Option.some.inj H
                go_wp2_with (first | ((with_reducible refine gate_callee (f := 19) rfl ?_); refine goesL_ (some 63) rfl rfl Tryd.func19 (by kernel_rfl) rfl #[.int .i64 t352] rfl (by (try simp only [List.map_toArray, List.map_cons, List.map_nil]); first | done | rfl | (simp only [List.length_drop, List.length_take]; rfl)) ?_; (with_reducible refine (quilllaw10_num.calls t352 t369 _ A33.out).mono ?_); rintro e w' ⟨rfl, ⟨nd, rfl⟩⟩; refine ⟨_, rfl, ?_⟩; obtain ⟨Ao49, co49, eo49⟩ := Kd.R_slice HO_5.out; subst eo49; obtain ⟨Ao50, co50, eo50⟩ := Kd.R_slice HO_9.out; subst eo50) | (go_at_call 20; (with_reducible refine (quillref0_EqNumbers.calls kj19 _ _ t350 _ _ x9_19 false _ ?side1 ?side2 ?side3 ?side4 A35.out).mono ?_); (case side1 => repeat (first | exact (Kd.R_reads' HO_5.out).2.2 | (with_reducible refine Kd.C_alloc ?_ _) | (with_reducible refine Kd.C_drewN ?_ _) | (with_reducible refine Kd.C_drew ?_))); (case side2 => exact (Kd.R_reads' HO_5.out).2.1); (case side3 => repeat (first | exact (Kd.R_reads' HO_9.out).2.2 | (with_reducible refine Kd.C_alloc ?_ _) | (with_reducible refine Kd.C_drewN ?_ _) | (with_reducible refine Kd.C_drew ?_))); (case side4 => exact (Kd.R_reads' HO_9.out).2.1); rintro e w' ⟨rfl, ⟨nd, rfl⟩⟩))
                go_ret
                exact ⟨by first | rfl | (simp [errW_none, errW_some] <;> rfl) | (simp [*, errW_none, errW_some] <;> rfl), by repeat (first | (with_reducible first | exact HB.out | apply below_alloc | apply pw_below_drewN | apply below_drew1 | refine below_set ?_ GE346.out) | exact HB.out)⟩
              ·
               rw [if_neg c34] at H
               have c34b0 : (t369 == x8_19) = false := beq_eq_false_iff_ne.mpr c34
               have c34b1 : (t369 != x8_19) = true := bne_iff_ne.mpr c34
               obtain rfl := Option.some.inj H
               go_wp2_with (first | ((with_reducible refine gate_callee (f := 19) rfl ?_); refine goesL_ (some 63) rfl rfl Tryd.func19 (by kernel_rfl) rfl #[.int .i64 t352] rfl (by (try simp only [List.map_toArray, List.map_cons, List.map_nil]); first | done | rfl | (simp only [List.length_drop, List.length_take]; rfl)) ?_; (with_reducible refine (quilllaw10_num.calls t352 t369 _ A33.out).mono ?_); rintro e w' ⟨rfl, ⟨nd, rfl⟩⟩; refine ⟨_, rfl, ?_⟩))
               go_ret
               exact ⟨by first | rfl | (simp [errW_none, errW_some] <;> rfl) | (simp [*, errW_none, errW_some] <;> rfl), by repeat (first | (with_reducible first | exact HB.out | apply below_alloc | apply pw_below_drewN | apply below_drew1 | refine below_set ?_ GE346.out) | exact HB.out)⟩
           ·
            rw [if_neg c17] at H
            exact absurd H (by simp)
          ·
           rw [if_neg c16] at H
           exact absurd H (by simp)
         ·
          rw [if_neg c15] at H
          have c15b0 : decide (x4_3 < 2) = false := decide_eq_false c15
          clear c15
          have H' := Aside0.mk H
          clear H
          go_wp2
          go_roundg k3
          case measure => have := HK1.out; have := HJ9.out; have := HK3.out; omega
          case rel => exact ⟨(wrap64 (x3_1 + 1)), (by first | rfl | (simp; done) | (simp [*]; done)), H', ⟨by have := HK1.out; have := HJ9.out; have := HK3.out; omega⟩, ⟨by (with_reducible repeat (first | refine blk_drewN ?_ _ | refine blk_drew ?_ | refine blk_alloc ?_ _)); exact BK346.out⟩, ⟨by repeat (first | (with_reducible first | exact HB.out | apply below_alloc | apply pw_below_drewN | apply below_drew1 | refine below_set ?_ GE346.out) | exact HB.out)⟩⟩
      ·
       replace c14 := Bool.eq_false_iff.mpr c14
       subst c14
       have H1 : ((quilllaw10_wakes.f kj9).bind fun t348 => (some t348)) = some r := by rw [if_neg (show ¬ (false = true) by decide)] at H; exact H
       clear H
       have H := H1
       clear H1
       replace H := Option.bind_eq_some_iff.mp H
       obtain ⟨t348, A510, H⟩ := H
       replace H : (some t348) = some r := H
       have A51 := Aside0.mk A510
       clear A510
       obtain rfl := Option.some.inj H
       go_wp2_with (first | ((with_reducible refine gate_callee (f := 22) rfl ?_); refine goesL_ (some 80) rfl rfl Tryd.func22 (by kernel_rfl) rfl #[] rfl (by (try simp only [List.map_toArray, List.map_cons, List.map_nil]); first | done | rfl | (simp only [List.length_drop, List.length_take]; rfl)) ?_; (with_reducible refine (quilllaw10_wakes.calls kj9  t348 _ ?side1 A51.out).mono ?_); (case side1 => exact Tabs.below HT.out (by repeat (first | (with_reducible first | exact HB.out | apply below_alloc | apply pw_below_drewN | apply below_drew1 | refine below_set ?_ GE346.out) | exact HB.out))); rintro e w52 ⟨rfl, hb⟩; refine ⟨_, rfl, ?_⟩; have n0_ := Aside0.mk (blk_below (g := gb346) (o := .cells #[.slice A0_0 l0_0.length c0_0, .int .i64 a0_1, .int .i64 a0_2, .int .i64 a0_3, .int .i64 a0_4, .int .i64 a0_5, .int .i64 a0_6, .int .i64 a0_7] 28 (0, 0)) (by (with_reducible repeat (first | refine blk_drewN ?_ _ | refine blk_drew ?_ | refine blk_alloc ?_ _)); exact BK346.out) hb); have n1_ := Aside0.mk (below_step (by repeat (first | (with_reducible first | exact HB.out | apply below_alloc | apply pw_below_drewN | apply below_drew1 | refine below_set ?_ GE346.out) | exact HB.out)) hb); clear BK346; clear HB; have BK346 := n0_; have HB := n1_; clear n0_ n1_; (try clear hb); (try clear hb2); (try clear hk); (try clear hi)))
       go_ret
       exact ⟨by first | rfl | (simp [errW_none, errW_some] <;> rfl) | (simp [*, errW_none, errW_some] <;> rfl), by repeat (first | (with_reducible first | exact HB.out | apply below_alloc | apply pw_below_drewN | apply below_drew1 | refine below_set ?_ GE346.out) | exact HB.out)⟩

end Go.Proofs.YtdcbaiimojnlnaaDoor.P
