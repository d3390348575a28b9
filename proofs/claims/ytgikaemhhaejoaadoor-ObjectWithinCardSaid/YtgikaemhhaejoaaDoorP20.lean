/- The walks of the functions that these statements reach: each Go function as a plain Lean function, and the proof that its call comes to that. Written by the session's program wip/pp.py. -/
import Derived.Test.YtgikaemhhaejoaaDoorP0
import Derived.Test.YtgikaemhhaejoaaDoorP2
import Derived.Test.YtgikaemhhaejoaaDoorP9
namespace Go.Proofs.YtgikaemhhaejoaaDoor.P
open Go.Proofs.YtgikaemhhaejoaaDoor
open Go.RowKit Go.Proofs.YtgikaemhhaejoaaDoorW.PrintWords Go.Proofs.YtgikaemhhaejoaaDoorW.PrintLast Go.Proofs.YtgikaemhhaejoaaDoorW.PrintMore
attribute [local go_sem] max2_int min2_int max_two min_two max_three min_three max_four min_four   -- for this text's walks alone
set_option linter.unusedVariables false
set_option linter.unusedSimpArgs false

/-! ### quilllaw15_ObjectWithin: function 7 -/
mutual
def quilllaw15_ObjectWithin.l0 : Nat → List Int → Int → List ByteArray → Int → Int → Int → Int → Int → Int → Int → Option (Bool)
  | 0, _, _, _, _, _, _, _, _, _, _ => none
  | k + 1, x3, x4, v0, v1, v2, v3, v4, v5, v6, v7 => if x4 < (v0.length : Int) then (quilllaw15_ObjectWithin.j1 k x3 x4 (decide (x4 < 4)) v0 v1 v2 v3 v4 v5 v6 v7) else (quilllaw15_ObjectWithin.j1 k x3 x4 false v0 v1 v2 v3 v4 v5 v6 v7)
def quilllaw15_ObjectWithin.j1 : Nat → List Int → Int → Bool → List ByteArray → Int → Int → Int → Int → Int → Int → Int → Option (Bool)
  | 0, _, _, _, _, _, _, _, _, _, _, _ => none
  | k + 1, x3, x4, x25, v0, v1, v2, v3, v4, v5, v6, v7 => if x25 = true then (if 0 ≤ x4 then (if x4 < (v0.length : Int) then (if (rdOf ByteArray.empty v0 x4).size ≤ 70368744177664 then ((some (runesOf (rdOf ByteArray.empty v0 x4) : List Int)).bind fun y433 => ((quilllaw10_Offsets.f k v0 v1 v2 v3 v4 v5 v6 v7 y433).bind fun t436 => (quilllaw15_ObjectWithin.l1 k x3 x4 y433 t436 0 v0 v1 v2 v3 v4 v5 v6 v7))) else (none)) else (none)) else (none)) else ((quilllaw15_wakes.f k).bind fun t431 => (some t431))
def quilllaw15_ObjectWithin.l1 : Nat → List Int → Int → List Int → List Int → Int → List ByteArray → Int → Int → Int → Int → Int → Int → Int → Option (Bool)
  | 0, _, _, _, _, _, _, _, _, _, _, _, _, _ => none
  | k + 1, x3, x4, x5, x6, x7, v0, v1, v2, v3, v4, v5, v6, v7 => if x7 < (x6.length : Int) then (quilllaw15_ObjectWithin.l2 k x3 x4 x5 x6 x7 0 v0 v1 v2 v3 v4 v5 v6 v7) else (quilllaw15_ObjectWithin.l0 k x3 (wrap64 (x4 + 1)) v0 v1 v2 v3 v4 v5 v6 v7)
def quilllaw15_ObjectWithin.l2 : Nat → List Int → Int → List Int → List Int → Int → Int → List ByteArray → Int → Int → Int → Int → Int → Int → Int → Option (Bool)
  | 0, _, _, _, _, _, _, _, _, _, _, _, _, _, _ => none
  | k + 1, x3, x4, x5, x6, x7, x8, v0, v1, v2, v3, v4, v5, v6, v7 => if x8 < (x3.length : Int) then (if 0 ≤ x4 then (if x4 < (v0.length : Int) then (if 0 ≤ x7 then (if x7 < (x6.length : Int) then (if 0 ≤ x8 then ((object_Piece.f k (rdOf ByteArray.empty v0 x4) (rd x6 x7) 105 (rd x3 x8) 1).bind fun bt442 => ((object_Piece.f k (rdOf ByteArray.empty v0 x4) (rd x6 x7) 97 (rd x3 x8) 1).bind fun bt450 => ((quilllaw15_num.f bt442.2.2.2).bind fun t455 => (if t455 = 0 then ((quilllaw15_num.f bt450.2.2.2).bind fun t456 => (quilllaw15_ObjectWithin.j4 k x3 x4 x5 x6 x7 x8 (t456 != 0) v0 v1 v2 v3 v4 v5 v6 v7 bt442.1 bt442.2.1 bt442.2.2.1 bt450.1 bt450.2.1 bt450.2.2.1)) else (quilllaw15_ObjectWithin.j4 k x3 x4 x5 x6 x7 x8 true v0 v1 v2 v3 v4 v5 v6 v7 bt442.1 bt442.2.1 bt442.2.2.1 bt450.1 bt450.2.1 bt450.2.2.1))))) else (none)) else (none)) else (none)) else (none)) else (none)) else (quilllaw15_ObjectWithin.l1 k x3 x4 x5 x6 (wrap64 (x7 + 1)) v0 v1 v2 v3 v4 v5 v6 v7)
def quilllaw15_ObjectWithin.j4 : Nat → List Int → Int → List Int → List Int → Int → Int → Bool → List ByteArray → Int → Int → Int → Int → Int → Int → Int → Int → Int → Bool → Int → Int → Bool → Option (Bool)
  | 0, _, _, _, _, _, _, _, _, _, _, _, _, _, _, _, _, _, _, _, _, _ => none
  | k + 1, x3, x4, x5, x6, x7, x8, x93, v0, v1, v2, v3, v4, v5, v6, v7, v8, v9, v10, v11, v12, v13 => if x93 = true then (quilllaw15_ObjectWithin.l2 k x3 x4 x5 x6 x7 (wrap64 (x8 + 1)) v0 v1 v2 v3 v4 v5 v6 v7) else (if v8 > v9 then (none) else (if v11 > v8 then (none) else (if v12 < v9 then (none) else (if (v10 != v13) = true then (none) else (if 0 ≤ x8 then (if x8 < (x3.length : Int) then (if (v10 != ((rd x3 x8) == 112)) = true then (none) else (if v12 > (x5.length : Int) then (none) else (quilllaw15_ObjectWithin.l2 k x3 x4 x5 x6 x7 (wrap64 (x8 + 1)) v0 v1 v2 v3 v4 v5 v6 v7))) else (none)) else (none))))))
end
def quilllaw15_ObjectWithin.f (k : Nat) (l0_0 : List ByteArray) (a0_1 : Int) (a0_2 : Int) (a0_3 : Int) (a0_4 : Int) (a0_5 : Int) (a0_6 : Int) (a0_7 : Int) : Option (Bool) := (quilllaw10_Heavy.f k l0_0 a0_1 a0_2 a0_3 a0_4 a0_5 a0_6 a0_7).bind fun t427 => (if t427 = true then (some true) else (quilllaw15_ObjectWithin.l0 k (([119, 87, 34, 40, 91, 123, 112] : List Int)) 0 l0_0 a0_1 a0_2 a0_3 a0_4 a0_5 a0_6 a0_7))
theorem quilllaw15_ObjectWithin.mono_l : ∀ k, (∀ y0 y1 y2 y3 y4 y5 y6 y7 y8 y9, LeO (quilllaw15_ObjectWithin.l0 k y0 y1 y2 y3 y4 y5 y6 y7 y8 y9) (quilllaw15_ObjectWithin.l0 (k + 1) y0 y1 y2 y3 y4 y5 y6 y7 y8 y9)) ∧ (∀ y0 y1 y2 y3 y4 y5 y6 y7 y8 y9 y10, LeO (quilllaw15_ObjectWithin.j1 k y0 y1 y2 y3 y4 y5 y6 y7 y8 y9 y10) (quilllaw15_ObjectWithin.j1 (k + 1) y0 y1 y2 y3 y4 y5 y6 y7 y8 y9 y10)) ∧ (∀ y0 y1 y2 y3 y4 y5 y6 y7 y8 y9 y10 y11 y12, LeO (quilllaw15_ObjectWithin.l1 k y0 y1 y2 y3 y4 y5 y6 y7 y8 y9 y10 y11 y12) (quilllaw15_ObjectWithin.l1 (k + 1) y0 y1 y2 y3 y4 y5 y6 y7 y8 y9 y10 y11 y12)) ∧ (∀ y0 y1 y2 y3 y4 y5 y6 y7 y8 y9 y10 y11 y12 y13, LeO (quilllaw15_ObjectWithin.l2 k y0 y1 y2 y3 y4 y5 y6 y7 y8 y9 y10 y11 y12 y13) (quilllaw15_ObjectWithin.l2 (k + 1) y0 y1 y2 y3 y4 y5 y6 y7 y8 y9 y10 y11 y12 y13)) ∧ (∀ y0 y1 y2 y3 y4 y5 y6 y7 y8 y9 y10 y11 y12 y13 y14 y15 y16 y17 y18 y19 y20, LeO (quilllaw15_ObjectWithin.j4 k y0 y1 y2 y3 y4 y5 y6 y7 y8 y9 y10 y11 y12 y13 y14 y15 y16 y17 y18 y19 y20) (quilllaw15_ObjectWithin.j4 (k + 1) y0 y1 y2 y3 y4 y5 y6 y7 y8 y9 y10 y11 y12 y13 y14 y15 y16 y17 y18 y19 y20))
  | 0 => ⟨fun _ _ _ _ _ _ _ _ _ _ r h => by simp [quilllaw15_ObjectWithin.l0] at h, fun _ _ _ _ _ _ _ _ _ _ _ r h => by simp [quilllaw15_ObjectWithin.j1] at h, fun _ _ _ _ _ _ _ _ _ _ _ _ _ r h => by simp [quilllaw15_ObjectWithin.l1] at h, fun _ _ _ _ _ _ _ _ _ _ _ _ _ _ r h => by simp [quilllaw15_ObjectWithin.l2] at h, fun _ _ _ _ _ _ _ _ _ _ _ _ _ _ _ _ _ _ _ _ _ r h => by simp [quilllaw15_ObjectWithin.j4] at h⟩
  | k + 1 => by
    obtain ⟨ih0, ih1, ih2, ih3, ih4⟩ := quilllaw15_ObjectWithin.mono_l k
    refine ⟨?_, ?_, ?_, ?_, ?_⟩
    all_goals intros
    all_goals first | unfold quilllaw15_ObjectWithin.l0 | unfold quilllaw15_ObjectWithin.j1 | unfold quilllaw15_ObjectWithin.l1 | unfold quilllaw15_ObjectWithin.l2 | unfold quilllaw15_ObjectWithin.j4
    all_goals repeat' first | (with_reducible first | exact ih0 _ _ _ _ _ _ _ _ _ _ | exact ih1 _ _ _ _ _ _ _ _ _ _ _ | exact ih2 _ _ _ _ _ _ _ _ _ _ _ _ _ | exact ih3 _ _ _ _ _ _ _ _ _ _ _ _ _ _ | exact ih4 _ _ _ _ _ _ _ _ _ _ _ _ _ _ _ _ _ _ _ _ _ | exact object_Piece.mono _ _ _ _ _ _ | exact quilllaw10_Heavy.mono _ _ _ _ _ _ _ _ _ | exact quilllaw10_Offsets.mono _ _ _ _ _ _ _ _ _ _ | exact quilllaw15_wakes.mono _ | exact LeO.refl _ | exact LeO.none _ | refine LeO.ite ?_ ?_ | refine LeO.bind ?_ (fun _ => ?_)) | exact ih0 _ _ _ _ _ _ _ _ _ _ | exact ih1 _ _ _ _ _ _ _ _ _ _ _ | exact ih2 _ _ _ _ _ _ _ _ _ _ _ _ _ | exact ih3 _ _ _ _ _ _ _ _ _ _ _ _ _ _ | exact ih4 _ _ _ _ _ _ _ _ _ _ _ _ _ _ _ _ _ _ _ _ _ | exact object_Piece.mono _ _ _ _ _ _ | exact quilllaw10_Heavy.mono _ _ _ _ _ _ _ _ _ | exact quilllaw10_Offsets.mono _ _ _ _ _ _ _ _ _ _ | exact quilllaw15_wakes.mono _ | exact LeO.refl _ | exact LeO.none _ | refine LeO.ite ?_ ?_ | refine LeO.bind ?_ (fun _ => ?_)
theorem quilllaw15_ObjectWithin.mono : ∀ a0 a1 a2 a3 a4 a5 a6 a7 k, LeO (quilllaw15_ObjectWithin.f k a0 a1 a2 a3 a4 a5 a6 a7) (quilllaw15_ObjectWithin.f (k + 1) a0 a1 a2 a3 a4 a5 a6 a7) := by
  intro a0 a1 a2 a3 a4 a5 a6 a7 k
  obtain ⟨ih0, ih1, ih2, ih3, ih4⟩ := quilllaw15_ObjectWithin.mono_l k
  unfold quilllaw15_ObjectWithin.f
  repeat' first | (with_reducible first | exact ih0 _ _ _ _ _ _ _ _ _ _ | exact ih1 _ _ _ _ _ _ _ _ _ _ _ | exact ih2 _ _ _ _ _ _ _ _ _ _ _ _ _ | exact ih3 _ _ _ _ _ _ _ _ _ _ _ _ _ _ | exact ih4 _ _ _ _ _ _ _ _ _ _ _ _ _ _ _ _ _ _ _ _ _ | exact object_Piece.mono _ _ _ _ _ _ | exact quilllaw10_Heavy.mono _ _ _ _ _ _ _ _ _ | exact quilllaw10_Offsets.mono _ _ _ _ _ _ _ _ _ _ | exact quilllaw15_wakes.mono _ | exact LeO.refl _ | exact LeO.none _ | refine LeO.ite ?_ ?_ | refine LeO.bind ?_ (fun _ => ?_)) | exact ih0 _ _ _ _ _ _ _ _ _ _ | exact ih1 _ _ _ _ _ _ _ _ _ _ _ | exact ih2 _ _ _ _ _ _ _ _ _ _ _ _ _ | exact ih3 _ _ _ _ _ _ _ _ _ _ _ _ _ _ | exact ih4 _ _ _ _ _ _ _ _ _ _ _ _ _ _ _ _ _ _ _ _ _ | exact object_Piece.mono _ _ _ _ _ _ | exact quilllaw10_Heavy.mono _ _ _ _ _ _ _ _ _ | exact quilllaw10_Offsets.mono _ _ _ _ _ _ _ _ _ _ | exact quilllaw15_wakes.mono _ | exact LeO.refl _ | exact LeO.none _ | refine LeO.ite ?_ ?_ | refine LeO.bind ?_ (fun _ => ?_)
def quilllaw15_ObjectWithin.T15 : Bool × List (List Nat × List Nat) := (true, [([], []), ([0], [0]), ([1], [1]), ([], []), ([2, 3], [2, 3]), ([4], [4]), ([], []), ([], []), ([6, 7], [6, 7]), ([8], [8]), ([], []), ([], []), ([10, 11], [10, 11]), ([12], [12]), ([5, 9, 13], [5, 9, 13]), ([14], [14]), ([15], [15]), ([15], [15]), ([], []), ([18, 16, 14, 0, 1, 2, 3, 4, 5, 6, 7, 8, 9, 10, 11, 12, 13, 14, 15, 16, 18], [16, 18]), ([17, 19, 0, 1, 2, 3, 4, 5, 6, 7, 8, 9, 10, 11, 12, 13, 14, 15, 16, 17, 18, 19], [17])])
def quilllaw15_ObjectWithin.B15 : List Nat := [0, 1, 3, 0, 15, 31, 0, 0, 192, 448, 0, 0, 3072, 7168, 16383, 32767, 65535, 65535, 0, 393215, 1048575]
theorem quilllaw15_ObjectWithin.tab15 : rtab .any (opsOf Tryd.f7 15) = quilllaw15_ObjectWithin.T15 := by kernel_rfl
theorem quilllaw15_ObjectWithin.bits15 : waitsOk quilllaw15_ObjectWithin.T15.2 quilllaw15_ObjectWithin.B15 = true := by kernel_rfl
def quilllaw15_ObjectWithin.T16 : Bool × List (List Nat × List Nat) := (true, [([], []), ([0], [0]), ([1], [1]), ([], []), ([2, 3], [2, 3]), ([4], [4]), ([], []), ([], []), ([6, 7], [6, 7]), ([8], [8]), ([], []), ([], []), ([10, 11], [10, 11]), ([12], [12]), ([5, 9, 13], [5, 9, 13]), ([14], [14]), ([15], [15]), ([15], [15]), ([], []), ([18, 16, 14, 0, 1, 2, 3, 4, 5, 6, 7, 8, 9, 10, 11, 12, 13, 14, 15, 16, 18], [16, 18]), ([17, 19, 0, 1, 2, 3, 4, 5, 6, 7, 8, 9, 10, 11, 12, 13, 14, 15, 16, 17, 18, 19], [17])])
def quilllaw15_ObjectWithin.B16 : List Nat := [0, 1, 3, 0, 15, 31, 0, 0, 192, 448, 0, 0, 3072, 7168, 16383, 32767, 65535, 65535, 0, 393215, 1048575]
theorem quilllaw15_ObjectWithin.tab16 : rtab .any (opsOf Tryd.f7 16) = quilllaw15_ObjectWithin.T16 := by kernel_rfl
theorem quilllaw15_ObjectWithin.bits16 : waitsOk quilllaw15_ObjectWithin.T16.2 quilllaw15_ObjectWithin.B16 = true := by kernel_rfl
def quilllaw15_ObjectWithin.T18 : Bool × List (List Nat × List Nat) := (true, [([], []), ([0], [0]), ([], []), ([2], [2]), ([1, 3], [1, 3]), ([4], [4]), ([5], [5]), ([6, 5], [5, 6]), ([5], [5]), ([8, 5], [5, 8]), ([7, 9, 5], [5, 7, 9]), ([5, 10], [5, 10]), ([11, 5], [11]), ([12], [12]), ([13, 12], [12, 13]), ([12], [12]), ([15, 12], [12, 15]), ([14, 16, 12], [12, 14, 16]), ([12, 17], [12, 17]), ([18, 12], [18]), ([19], [19]), ([20, 19], [19, 20]), ([19], [19]), ([22, 19], [19, 22]), ([21, 23, 19], [19, 21, 23]), ([19, 24], [19, 24]), ([25, 19], [25]), ([26], [26]), ([27, 26], [26, 27]), ([26], [26]), ([26], [26]), ([29, 30, 26], [26, 29, 30]), ([31, 26], [26, 31]), ([32, 26], [26, 32]), ([28, 33, 26], [26, 28, 33]), ([26, 34], [26, 34]), ([35, 26], [35]), ([36], [36]), ([37, 36], [36, 37]), ([36], [36]), ([39, 36], [36, 39]), ([38, 40, 36], [36, 38, 40]), ([36, 41], [36, 41])])
def quilllaw15_ObjectWithin.B18 : List Nat := [0, 1, 0, 4, 15, 31, 63, 127, 63, 319, 1023, 2047, 4095, 8191, 16383, 8191, 40959, 131071, 262143, 524287, 1048575, 2097151, 1048575, 5242879, 16777215, 33554431, 67108863, 134217727, 268435455, 134217727, 134217727, 1744830463, 3892314111, 8187281407, 17179869183, 34359738367, 68719476735, 137438953471, 274877906943, 137438953471, 687194767359, 2199023255551, 4398046511103]
theorem quilllaw15_ObjectWithin.tab18 : rtab .any (opsOf Tryd.f7 18) = quilllaw15_ObjectWithin.T18 := by kernel_rfl
theorem quilllaw15_ObjectWithin.bits18 : waitsOk quilllaw15_ObjectWithin.T18.2 quilllaw15_ObjectWithin.B18 = true := by kernel_rfl
set_option maxHeartbeats 8000000 in
set_option maxRecDepth 100000 in
theorem quilllaw15_ObjectWithin.calls (k : Nat) (A0_0 : Option Addr) (c0_0 : Nat) (l0_0 : List ByteArray) (a0_1 : Int) (a0_2 : Int) (a0_3 : Int) (a0_4 : Int) (a0_5 : Int) (a0_6 : Int) (a0_7 : Int) (r : Bool) (w : World) (hT : Tabs w) (hr0_0 : Kd.C Kd.string w A0_0 l0_0.length l0_0) (hc0_0 : l0_0.length ≤ c0_0) (h : quilllaw15_ObjectWithin.f k l0_0 a0_1 a0_2 a0_3 a0_4 a0_5 a0_6 a0_7 = some r) :
  Calls Tryd.prog 7 #[.agg #[.slice A0_0 l0_0.length c0_0, .int .i64 a0_1, .int .i64 a0_2, .int .i64 a0_3, .int .i64 a0_4, .int .i64 a0_5, .int .i64 a0_6, .int .i64 a0_7]] w fun e w' => e = .returned (.bool r) ∧ Below w.heap.size w w' := by
 have hu28 := Tryd.underlying28
 have hu35 := Tryd.underlying35
 have HT := Aside0.mk hT
 clear hT
 have HR0_0 := Aside0.mk hr0_0
 have HC0_0 := Aside0.mk hc0_0
 clear hr0_0 hc0_0
 have HB := Aside0.mk (Below.refl w.heap.size w)
 have H : ((quilllaw10_Heavy.f k l0_0 a0_1 a0_2 a0_3 a0_4 a0_5 a0_6 a0_7).bind fun t427 => (if t427 = true then (some true) else (quilllaw15_ObjectWithin.l0 k (([119, 87, 34, 40, 91, 123, 112] : List Int)) 0 l0_0 a0_1 a0_2 a0_3 a0_4 a0_5 a0_6 a0_7))) = some r := h
 clear h
 replace H := Option.bind_eq_some_iff.mp H
 obtain ⟨t427, A20, H⟩ := H
 (try dsimp only at H)
 have A2 := Aside0.mk A20
 clear A20
 by_cases c3 : t427 = true
 ·
  subst c3
  have H1 : (some true) = some r := by rw [if_pos rfl] at H; exact H
  clear H
  have H := H1
  clear H1
  obtain rfl := Option.some.inj H
  go_enter Tryd.func7, Tryd.ntmps7
  go_wp2_with (first | ((with_reducible refine gate_dst (N := 1) rfl ?_); (try (refine gate_guard (by rfl) ?_; dsimp only)); refine box_event ?hg (N := 1) ?hd (cs := #[.slice A0_0 l0_0.length c0_0, .int .i64 a0_1, .int .i64 a0_2, .int .i64 a0_3, .int .i64 a0_4, .int .i64 a0_5, .int .i64 a0_6, .int .i64 a0_7]) (t := 28) ?hr ?_; (case hd => rfl); (case hg => rfl); (case hr => first | (go_simp; done) | (go_simp; rfl)); intro gb426 hg w4 hbox hb; have n0_ := Aside0.mk (below_step (by repeat with_reducible first | exact HB.out | apply pw_below_drewN | apply below_drew1 | apply below_alloc) hb); have n1_ := Aside0.mk (hbox); have n2_ := Aside0.mk (geb hg (by repeat with_reducible first | exact HB.out | apply pw_below_drewN | apply below_drew1 | apply below_alloc)); have n3_ := n2_; clear HB; have HB := n0_; have BK426 := n1_; have GW426 := n2_; have GE426 := n3_; clear n0_ n1_ n2_ n3_; clear hb hbox hg; have hcz5_0 := cz0 BK426.out; have hcz5_1 := cz1 BK426.out; have hcz5_2 := cz2 BK426.out; have hcz5_3 := cz3 BK426.out; have hcz5_4 := cz4 BK426.out; have hcz5_5 := cz5 BK426.out; have hcz5_6 := cz6 BK426.out; have hcz5_7 := cz7 BK426.out; have hfz5_0 := blk_frozen BK426.out 0; have hfz5_1 := blk_frozen BK426.out 1; have hfz5_2 := blk_frozen BK426.out 2; have hfz5_3 := blk_frozen BK426.out 3; have hfz5_4 := blk_frozen BK426.out 4; have hfz5_5 := blk_frozen BK426.out 5; have hfz5_6 := blk_frozen BK426.out 6; have hfz5_7 := blk_frozen BK426.out 7) | ((with_reducible refine gate_callee (f := 13) rfl ?_); refine goesL_ (some 14) rfl rfl Tryd.func13 (by kernel_rfl) rfl #[.agg #[.slice A0_0 l0_0.length c0_0, .int .i64 a0_1, .int .i64 a0_2, .int .i64 a0_3, .int .i64 a0_4, .int .i64 a0_5, .int .i64 a0_6, .int .i64 a0_7]] rfl (map1 rfl) ?_; (with_reducible refine (quilllaw10_Heavy.calls k _ _ l0_0 a0_1 a0_2 a0_3 a0_4 a0_5 a0_6 a0_7 true _ ?side1 ?side2 A2.out).mono ?_); (case side1 => repeat (first | exact (Kd.C_below HR0_0.out HB.out) | with_reducible first | refine Kd.C_drewN ?_ _ | refine Kd.C_drew ?_ | refine Kd.C_alloc ?_ _)); (case side2 => exact HC0_0.out); rintro e w6 ⟨rfl, hb⟩; refine ⟨_, rfl, ?_⟩; have n0_ := Aside0.mk (blb hb BK426.out); have n1_ := Aside0.mk (below_step (by repeat with_reducible first | exact HB.out | apply pw_below_drewN | refine below_set ?_ GE426.out | apply below_drew1 | apply below_alloc) hb); clear BK426; clear HB; have BK426 := n0_; have HB := n1_; clear n0_ n1_; (try clear hb); (try clear hb2); (try clear hk); (try clear hi)))
  go_ret
  exact ⟨by first | rfl | (simp [errW_none, errW_some] <;> rfl) | (simp [*, errW_none, errW_some] <;> rfl), by repeat with_reducible first | exact HB.out | apply pw_below_drewN | refine below_set ?_ GE426.out | apply below_drew1 | apply below_alloc⟩
 replace c3 := Bool.eq_false_iff.mpr c3
 subst c3
 have H1 : (quilllaw15_ObjectWithin.l0 k (([119, 87, 34, 40, 91, 123, 112] : List Int)) 0 l0_0 a0_1 a0_2 a0_3 a0_4 a0_5 a0_6 a0_7) = some r := by rw [if_neg (show ¬ (false = true) by decide)] at H; exact H
 clear H
 have H := H1
 clear H1
 obtain ⟨y428, hy428⟩ : ∃ y_ : List Int, y_ = (([119, 87, 34, 40, 91, 123, 112] : List Int)) := ⟨_, rfl⟩
 replace H : (quilllaw15_ObjectWithin.l0 k y428 0 l0_0 a0_1 a0_2 a0_3 a0_4 a0_5 a0_6 a0_7) = some r := by first | (rw [hy428]; with_reducible exact H) | (have H2_ := (Option.bind_some _ _).symm.trans H; rw [hy428]; with_reducible exact H2_) | (have H2_ := (Option.bind_some _ _).symm.trans H; with_reducible exact H2_) | with_reducible exact H | (rw [hy428]; exact H) | exact H
 have Ny428 := Aside0.mk hy428
 clear hy428
 have H' := Aside0.mk H
 clear H
 go_enter Tryd.func7, Tryd.ntmps7
 go_wp2_with (first | ((with_reducible refine gate_dst (N := 1) rfl ?_); (try (refine gate_guard (by rfl) ?_; dsimp only)); refine box_event ?hg (N := 1) ?hd (cs := #[.slice A0_0 l0_0.length c0_0, .int .i64 a0_1, .int .i64 a0_2, .int .i64 a0_3, .int .i64 a0_4, .int .i64 a0_5, .int .i64 a0_6, .int .i64 a0_7]) (t := 28) ?hr ?_; (case hd => rfl); (case hg => rfl); (case hr => first | (go_simp; done) | (go_simp; rfl)); intro gb426 hg w7 hbox hb; have n0_ := Aside0.mk (below_step (by repeat with_reducible first | exact HB.out | apply pw_below_drewN | apply below_drew1 | apply below_alloc) hb); have n1_ := Aside0.mk (hbox); have n2_ := Aside0.mk (geb hg (by repeat with_reducible first | exact HB.out | apply pw_below_drewN | apply below_drew1 | apply below_alloc)); have n3_ := n2_; clear HB; have HB := n0_; have BK426 := n1_; have GW426 := n2_; have GE426 := n3_; clear n0_ n1_ n2_ n3_; clear hb hbox hg; have hcz8_0 := cz0 BK426.out; have hcz8_1 := cz1 BK426.out; have hcz8_2 := cz2 BK426.out; have hcz8_3 := cz3 BK426.out; have hcz8_4 := cz4 BK426.out; have hcz8_5 := cz5 BK426.out; have hcz8_6 := cz6 BK426.out; have hcz8_7 := cz7 BK426.out; have hfz8_0 := blk_frozen BK426.out 0; have hfz8_1 := blk_frozen BK426.out 1; have hfz8_2 := blk_frozen BK426.out 2; have hfz8_3 := blk_frozen BK426.out 3; have hfz8_4 := blk_frozen BK426.out 4; have hfz8_5 := blk_frozen BK426.out 5; have hfz8_6 := blk_frozen BK426.out 6; have hfz8_7 := blk_frozen BK426.out 7) | ((with_reducible refine gate_callee (f := 13) rfl ?_); refine goesL_ (some 14) rfl rfl Tryd.func13 (by kernel_rfl) rfl #[.agg #[.slice A0_0 l0_0.length c0_0, .int .i64 a0_1, .int .i64 a0_2, .int .i64 a0_3, .int .i64 a0_4, .int .i64 a0_5, .int .i64 a0_6, .int .i64 a0_7]] rfl (map1 rfl) ?_; (with_reducible refine (quilllaw10_Heavy.calls k _ _ l0_0 a0_1 a0_2 a0_3 a0_4 a0_5 a0_6 a0_7 false _ ?side1 ?side2 A2.out).mono ?_); (case side1 => repeat (first | exact (Kd.C_below HR0_0.out HB.out) | with_reducible first | refine Kd.C_drewN ?_ _ | refine Kd.C_drew ?_ | refine Kd.C_alloc ?_ _)); (case side2 => exact HC0_0.out); rintro e w9 ⟨rfl, hb⟩; refine ⟨_, rfl, ?_⟩; have n0_ := Aside0.mk (blb hb BK426.out); have n1_ := Aside0.mk (below_step (by repeat with_reducible first | exact HB.out | apply pw_below_drewN | refine below_set ?_ GE426.out | apply below_drew1 | apply below_alloc) hb); clear BK426; clear HB; have BK426 := n0_; have HB := n1_; clear n0_ n1_; (try clear hb); (try clear hb2); (try clear hk); (try clear hi)) | ((with_reducible refine gate_dst (N := 15) rfl ?_); (try (refine gate_guard (by rfl) ?_; dsimp only)); refine Kd.R_lit (Kd.int .i64) _ 3 ?hg (N := 15) ?hd (xs := ([119, 87, 34, 40, 91, 123, 112] : List Int)) (inner := [.int .i64 119, .int .i64 87, .int .i64 34, .int .i64 40, .int .i64 91, .int .i64 123, .int .i64 112]) (ok := fun _ => True) (okp := fun _ => True) ?hr ?hp (fun _ hk => hk) trivial (Below.refl _ _) (Nat.le_refl _) (by simp) ?_; (case hd => rfl); (case hg => rfl); (case hr => first | (go_simp; done) | (go_simp; rfl)); (case hp => exact (Reps.one (show Kd.M (Kd.int .i64) _ _ _ 119 [.int .i64 119] from rfl) (Reps.one (show Kd.M (Kd.int .i64) _ _ _ 87 [.int .i64 87] from rfl) (Reps.one (show Kd.M (Kd.int .i64) _ _ _ 34 [.int .i64 34] from rfl) (Reps.one (show Kd.M (Kd.int .i64) _ _ _ 40 [.int .i64 40] from rfl) (Reps.one (show Kd.M (Kd.int .i64) _ _ _ 91 [.int .i64 91] from rfl) (Reps.one (show Kd.M (Kd.int .i64) _ _ _ 123 [.int .i64 123] from rfl) (Reps.one (show Kd.M (Kd.int .i64) _ _ _ 112 [.int .i64 112] from rfl) (Reps.none _ _))))))))); intro v429 w10 ho11 hb hg_ hnew_; clear hg_ hnew_; (first | rw [← Ny428.out] at ho11 | (simp only [Int.reduceToNat] at ho11; rw [← Ny428.out] at ho11)); have n0_ := Aside0.mk (Kd.R_lower ho11 (below_size (by repeat with_reducible first | exact HB.out | apply pw_below_drewN | refine below_set ?_ GE426.out | apply below_drew1 | apply below_alloc))); have n1_ := Aside0.mk (blb hb BK426.out); have n2_ := Aside0.mk (below_step (by repeat with_reducible first | exact HB.out | apply pw_below_drewN | refine below_set ?_ GE426.out | apply below_drew1 | apply below_alloc) hb); clear BK426; clear HB; have HO430 := n0_; have BK426 := n1_; have HB := n2_; clear n0_ n1_ n2_; clear hb ho11))
 go_loopg [4] k (fun kq v4 w' => ∃ (x4_1 : Int), v4 = .int .i64 x4_1 ∧ Aside0 (quilllaw15_ObjectWithin.l0 kq y428 x4_1 l0_0 a0_1 a0_2 a0_3 a0_4 a0_5 a0_6 a0_7 = some r) ∧ Aside0 (kq ≤ k) ∧ Aside0 (Kd.R (Kd.int .i64) 3 w' w.heap.size (fun _ => True) v429 y428) ∧ Aside0 (w'.heap[gb426]? = some (.cells #[(.slice A0_0 l0_0.length c0_0), .int .i64 a0_1, .int .i64 a0_2, .int .i64 a0_3, .int .i64 a0_4, .int .i64 a0_5, .int .i64 a0_6, .int .i64 a0_7] 28 (0, 0))) ∧ Aside0 (Below w.heap.size w w'))
 case atStart => exact ⟨(0), (by first | rfl | (simp; done) | (simp [*]; done)), H', ⟨Nat.le_refl _⟩, ⟨by (with_reducible repeat (first | apply Kd.R_alloc | apply Kd.R_drewN | apply Kd.R_drew)); exact HO430.out⟩, ⟨BK426.out⟩, ⟨by repeat with_reducible first | exact HB.out | apply pw_below_drewN | refine below_set ?_ GE426.out | apply below_drew1 | apply below_alloc⟩⟩
 case round =>
  clear H'
  try clear c3
  try clear hcz8_0
  try clear hcz8_1
  try clear hcz8_2
  try clear hcz8_3
  try clear hcz8_4
  try clear hcz8_5
  try clear hcz8_6
  try clear hcz8_7
  try clear hfz8_0
  try clear hfz8_1
  try clear hfz8_2
  try clear hfz8_3
  try clear hfz8_4
  try clear hfz8_5
  try clear hfz8_6
  try clear hfz8_7
  obtain ⟨x4_1, rfl, HA, HK1, HO_3, BK426, HB⟩ := hrel
  cases gk with
  | zero => exact absurd HA.out (by simp [quilllaw15_ObjectWithin.l0])
  | succ k1 =>
   have H := HA.out
   clear HA
   simp only [quilllaw15_ObjectWithin.l0] at H
   have HC12 := Aside0.mk H
   clear H
   go_upto_region 5 with (fail)
   go_cut [25] (fun v25 wc => ∃ (kq : Nat) (x25_11 : Bool), v25 = .bool x25_11 ∧ Aside0 (quilllaw15_ObjectWithin.j1 kq y428 x4_1 x25_11 l0_0 a0_1 a0_2 a0_3 a0_4 a0_5 a0_6 a0_7 = some r) ∧ Aside0 (kq ≤ k1) ∧ Aside0 (Kd.R (Kd.int .i64) 3 wc w.heap.size (fun _ => True) v429 y428) ∧ Aside0 (wc.heap[gb426]? = some (.cells #[(.slice A0_0 l0_0.length c0_0), .int .i64 a0_1, .int .i64 a0_2, .int .i64 a0_3, .int .i64 a0_4, .int .i64 a0_5, .int .i64 a0_6, .int .i64 a0_7] 28 (0, 0))) ∧ Aside0 (Below w.heap.size w wc))
   case first =>
    have H := HC12.out
    clear HC12
    by_cases c13 : x4_1 < (l0_0.length : Int)
    rotate_left
    ·
     rw [if_neg c13] at H
     have c13b0 := decide_eq_false c13
     clear c13
     (first | rw [c13b0] | (simp only [i64_w, i32_w]; rw [c13b0]) | skip)
     have H' := Aside0.mk H
     clear H
     have hcz15_0 := cz0 BK426.out
     have hcz15_1 := cz1 BK426.out
     have hcz15_2 := cz2 BK426.out
     have hcz15_3 := cz3 BK426.out
     have hcz15_4 := cz4 BK426.out
     have hcz15_5 := cz5 BK426.out
     have hcz15_6 := cz6 BK426.out
     have hcz15_7 := cz7 BK426.out
     have hfz15_0 := blk_frozen BK426.out 0
     have hfz15_1 := blk_frozen BK426.out 1
     have hfz15_2 := blk_frozen BK426.out 2
     have hfz15_3 := blk_frozen BK426.out 3
     have hfz15_4 := blk_frozen BK426.out 4
     have hfz15_5 := blk_frozen BK426.out 5
     have hfz15_6 := blk_frozen BK426.out 6
     have hfz15_7 := blk_frozen BK426.out 7
     go_wp2
     go_meet
     case rel => exact ⟨_, (false), (by first | rfl | (simp; done) | (simp [*]; done)), H', ⟨by have := HK1.out; first | omega | exact Nat.le_refl _⟩, ⟨by (with_reducible repeat (first | apply Kd.R_alloc | apply Kd.R_drewN | apply Kd.R_drew)); exact HO_3.out⟩, ⟨BK426.out⟩, ⟨by repeat with_reducible first | exact HB.out | apply pw_below_drewN | refine below_set ?_ GE426.out | apply below_drew1 | apply below_alloc⟩⟩
    rw [if_pos c13] at H
    have c13b0 := decide_eq_true c13
    clear c13
    (first | rw [c13b0] | (simp only [i64_w, i32_w]; rw [c13b0]) | skip)
    have H' := Aside0.mk H
    clear H
    have hcz14_0 := cz0 BK426.out
    have hcz14_1 := cz1 BK426.out
    have hcz14_2 := cz2 BK426.out
    have hcz14_3 := cz3 BK426.out
    have hcz14_4 := cz4 BK426.out
    have hcz14_5 := cz5 BK426.out
    have hcz14_6 := cz6 BK426.out
    have hcz14_7 := cz7 BK426.out
    have hfz14_0 := blk_frozen BK426.out 0
    have hfz14_1 := blk_frozen BK426.out 1
    have hfz14_2 := blk_frozen BK426.out 2
    have hfz14_3 := blk_frozen BK426.out 3
    have hfz14_4 := blk_frozen BK426.out 4
    have hfz14_5 := blk_frozen BK426.out 5
    have hfz14_6 := blk_frozen BK426.out 6
    have hfz14_7 := blk_frozen BK426.out 7
    go_wp2
    go_meet
    case rel => exact ⟨_, (decide (x4_1 < 4)), (by first | rfl | (simp; done) | (simp [*]; done)), H', ⟨by have := HK1.out; first | omega | exact Nat.le_refl _⟩, ⟨by (with_reducible repeat (first | apply Kd.R_alloc | apply Kd.R_drewN | apply Kd.R_drew)); exact HO_3.out⟩, ⟨BK426.out⟩, ⟨by repeat with_reducible first | exact HB.out | apply pw_below_drewN | refine below_set ?_ GE426.out | apply below_drew1 | apply below_alloc⟩⟩
   case rest =>
    clear HC12
    try clear c3
    try clear hcz8_0
    try clear hcz8_1
    try clear hcz8_2
    try clear hcz8_3
    try clear hcz8_4
    try clear hcz8_5
    try clear hcz8_6
    try clear hcz8_7
    try clear hfz8_0
    try clear hfz8_1
    try clear hfz8_2
    try clear hfz8_3
    try clear hfz8_4
    try clear hfz8_5
    try clear hfz8_6
    try clear hfz8_7
    obtain ⟨kq, x25_11, rfl, HA, HJ11, HO_3, BK426, HB⟩ := hcut
    cases kq with
    | zero => exact absurd HA.out (by simp [quilllaw15_ObjectWithin.j1])
    | succ kj11 =>
     have H := HA.out
     clear HA
     simp only [quilllaw15_ObjectWithin.j1] at H
     by_cases c16 : x25_11 = true
     rotate_left
     ·
      replace c16 := Bool.eq_false_iff.mpr c16
      subst c16
      have H1 : ((quilllaw15_wakes.f kj11).bind fun t431 => (some t431)) = some r := by rw [if_neg (show ¬ (false = true) by decide)] at H; exact H
      clear H
      have H := H1
      clear H1
      replace H := Option.bind_eq_some_iff.mp H
      obtain ⟨t431, A690, H⟩ := H
      (try dsimp only at H)
      have A69 := Aside0.mk A690
      clear A690
      obtain rfl := Option.some.inj H
      go_wp2_with (first | ((with_reducible refine gate_callee (f := 17) rfl ?_); refine goesL_ (some 137) rfl rfl Tryd.func17 (by kernel_rfl) rfl #[] rfl (map0) ?_; (with_reducible refine (quilllaw15_wakes.calls kj11  t431 _ ?side1 A69.out).mono ?_); (case side1 => exact Tabs.below HT.out (by repeat with_reducible first | exact HB.out | apply pw_below_drewN | refine below_set ?_ GE426.out | apply below_drew1 | apply below_alloc)); rintro e w70 ⟨rfl, hb⟩; refine ⟨_, rfl, ?_⟩; have n0_ := Aside0.mk (Kd.R_below (by (with_reducible repeat (first | apply Kd.R_alloc | apply Kd.R_drewN | apply Kd.R_drew)); exact HO_3.out) hb); have n1_ := Aside0.mk (blb hb BK426.out); have n2_ := Aside0.mk (below_step (by repeat with_reducible first | exact HB.out | apply pw_below_drewN | refine below_set ?_ GE426.out | apply below_drew1 | apply below_alloc) hb); clear HO_3; clear BK426; clear HB; have HO_3 := n0_; have BK426 := n1_; have HB := n2_; clear n0_ n1_ n2_; (try clear hb); (try clear hb2); (try clear hk); (try clear hi)))
      go_ret
      exact ⟨by first | rfl | (simp [errW_none, errW_some] <;> rfl) | (simp [*, errW_none, errW_some] <;> rfl), by repeat with_reducible first | exact HB.out | apply pw_below_drewN | refine below_set ?_ GE426.out | apply below_drew1 | apply below_alloc⟩
     subst c16
     have H1 : (if 0 ≤ x4_1 then (if x4_1 < (l0_0.length : Int) then (if (rdOf ByteArray.empty l0_0 x4_1).size ≤ 70368744177664 then ((some (runesOf (rdOf ByteArray.empty l0_0 x4_1) : List Int)).bind fun y433 => ((quilllaw10_Offsets.f kj11 l0_0 a0_1 a0_2 a0_3 a0_4 a0_5 a0_6 a0_7 y433).bind fun t436 => (quilllaw15_ObjectWithin.l1 kj11 y428 x4_1 y433 t436 0 l0_0 a0_1 a0_2 a0_3 a0_4 a0_5 a0_6 a0_7))) else (none)) else (none)) else (none)) = some r := by rw [if_pos rfl] at H; exact H
     clear H
     have H := H1
     clear H1
     by_cases c17 : 0 ≤ x4_1
     rotate_left
     ·
      rw [if_neg c17] at H
      exact absurd H (by simp)
     rw [if_pos c17] at H
     have c17b0 := decide_eq_true c17
     clear c17
     by_cases c18 : x4_1 < (l0_0.length : Int)
     rotate_left
     ·
      rw [if_neg c18] at H
      exact absurd H (by simp)
     rw [if_pos c18] at H
     have c18b0 := decide_eq_true c18
     clear c18
     by_cases c19 : (rdOf ByteArray.empty l0_0 x4_1).size ≤ 70368744177664
     rotate_left
     ·
      rw [if_neg c19] at H
      exact absurd H (by simp)
     rw [if_pos c19] at H
     have c19b0 := eq_true c19
     have c19b1 := decide_eq_true c19
     clear c19
     obtain ⟨y433, hy433⟩ : ∃ y_ : List Int, y_ = (runesOf (rdOf ByteArray.empty l0_0 x4_1)) := ⟨_, rfl⟩
     replace H : ((quilllaw10_Offsets.f kj11 l0_0 a0_1 a0_2 a0_3 a0_4 a0_5 a0_6 a0_7 y433).bind fun t436 => (quilllaw15_ObjectWithin.l1 kj11 y428 x4_1 y433 t436 0 l0_0 a0_1 a0_2 a0_3 a0_4 a0_5 a0_6 a0_7)) = some r := by first | (rw [hy433]; with_reducible exact H) | (have H2_ := (Option.bind_some _ _).symm.trans H; rw [hy433]; with_reducible exact H2_) | (have H2_ := (Option.bind_some _ _).symm.trans H; with_reducible exact H2_) | with_reducible exact H | (rw [hy433]; exact H) | exact H
     have Ny433 := Aside0.mk hy433
     clear hy433
     replace H := Option.bind_eq_some_iff.mp H
     obtain ⟨t436, A200, H⟩ := H
     (try dsimp only at H)
     have A20 := Aside0.mk A200
     clear A200
     have H' := Aside0.mk H
     clear H
     have hcz21_0 := cz0 BK426.out
     have hcz21_1 := cz1 BK426.out
     have hcz21_2 := cz2 BK426.out
     have hcz21_3 := cz3 BK426.out
     have hcz21_4 := cz4 BK426.out
     have hcz21_5 := cz5 BK426.out
     have hcz21_6 := cz6 BK426.out
     have hcz21_7 := cz7 BK426.out
     have hfz21_0 := blk_frozen BK426.out 0
     have hfz21_1 := blk_frozen BK426.out 1
     have hfz21_2 := blk_frozen BK426.out 2
     have hfz21_3 := blk_frozen BK426.out 3
     have hfz21_4 := blk_frozen BK426.out 4
     have hfz21_5 := blk_frozen BK426.out 5
     have hfz21_6 := blk_frozen BK426.out 6
     have hfz21_7 := blk_frozen BK426.out 7
     have p432 : 0 ≤ (x4_1 : Int) := of_decide_eq_true (by assumption)
     have q432 : x4_1 < (l0_0.length : Int) := of_decide_eq_true (by assumption)
     obtain ⟨ad432, e432, hx432_0⟩ := Kd.at_string HR0_0.out x4_1 p432 q432
     cases e432
     replace hx432_0 := (HB.out.cell (World.block_lt_of_cell? w _ hx432_0)).trans hx432_0
     replace p432 := eq_true p432
     replace q432 := eq_true q432
     go_wp2_with (first | ((with_reducible refine gate_dst (N := 34) rfl ?_); (try (refine gate_guard (by rfl) ?_; dsimp only)); refine R_runes (ok := fun _ => True) _ 21 rfl (N := 34) rfl 9 32 (.tmp 33) rfl (rdOf ByteArray.empty l0_0 x4_1) rfl Tryd.underlying9 Tryd.underlying32 Tryd.underlying21 (of_decide_eq_true (by assumption)) (fun _ _ => trivial) (Below.refl _ _) (Nat.le_refl _) ?_; intro v434 w22 ho23 hb hg_ hnew_; clear hg_ hnew_; (first | rw [← Ny433.out] at ho23 | (simp only [Int.reduceToNat] at ho23; rw [← Ny433.out] at ho23)); have n0_ := Aside0.mk (Kd.R_below (by (with_reducible repeat (first | apply Kd.R_alloc | apply Kd.R_drewN | apply Kd.R_drew)); exact HO_3.out) hb); have n1_ := Aside0.mk (Kd.R_lower ho23 (below_size (by repeat with_reducible first | exact HB.out | apply pw_below_drewN | refine below_set ?_ GE426.out | apply below_drew1 | apply below_alloc))); have n2_ := Aside0.mk (blb hb BK426.out); have n3_ := Aside0.mk (below_step (by repeat with_reducible first | exact HB.out | apply pw_below_drewN | refine below_set ?_ GE426.out | apply below_drew1 | apply below_alloc) hb); clear HO_3; clear BK426; clear HB; have HO_3 := n0_; have HO435 := n1_; have BK426 := n2_; have HB := n3_; clear n0_ n1_ n2_ n3_; clear hb ho23; have hcz24_0 := cz0 BK426.out; have hcz24_1 := cz1 BK426.out; have hcz24_2 := cz2 BK426.out; have hcz24_3 := cz3 BK426.out; have hcz24_4 := cz4 BK426.out; have hcz24_5 := cz5 BK426.out; have hcz24_6 := cz6 BK426.out; have hcz24_7 := cz7 BK426.out; have hfz24_0 := blk_frozen BK426.out 0; have hfz24_1 := blk_frozen BK426.out 1; have hfz24_2 := blk_frozen BK426.out 2; have hfz24_3 := blk_frozen BK426.out 3; have hfz24_4 := blk_frozen BK426.out 4; have hfz24_5 := blk_frozen BK426.out 5; have hfz24_6 := blk_frozen BK426.out 6; have hfz24_7 := blk_frozen BK426.out 7; obtain ⟨Ao25, co25, eo25⟩ := Kd.R_slice HO435.out; subst eo25) | ((with_reducible refine gate_callee (f := 14) rfl ?_); refine goesL_ (some 37) rfl rfl Tryd.func14 (by kernel_rfl) rfl #[.agg #[.slice (some ad432) l0_0.length c0_0, .int .i64 a0_1, .int .i64 a0_2, .int .i64 a0_3, .int .i64 a0_4, .int .i64 a0_5, .int .i64 a0_6, .int .i64 a0_7], .slice Ao25 y433.length co25] rfl (map2 rfl rfl) ?_; (with_reducible refine (quilllaw10_Offsets.calls kj11 _ _ l0_0 a0_1 a0_2 a0_3 a0_4 a0_5 a0_6 a0_7 _ _ y433 t436 _ ?side1 ?side2 ?side3 ?side4 A20.out).mono ?_); (case side1 => repeat (first | exact (Kd.C_below HR0_0.out HB.out) | with_reducible first | refine Kd.C_drewN ?_ _ | refine Kd.C_drew ?_ | refine Kd.C_alloc ?_ _)); (case side2 => exact HC0_0.out); (case side3 => repeat (first | exact (Kd.R_reads' HO435.out).2.2 | with_reducible first | refine Kd.C_drewN ?_ _ | refine Kd.C_drew ?_ | refine Kd.C_alloc ?_ _)); (case side4 => exact (Kd.R_reads' HO435.out).2.1); rintro e w26 ⟨v437, rfl, ho0, hb⟩; refine ⟨_, rfl, ?_⟩; have n0_ := Aside0.mk (Kd.R_elder' (by (with_reducible repeat (first | apply Kd.R_alloc | apply Kd.R_drewN | apply Kd.R_drew)); exact HO_3.out) (Kd.R_base ho0) hb); have n1_ := Aside0.mk (Kd.R_below (by (with_reducible repeat (first | apply Kd.R_alloc | apply Kd.R_drewN | apply Kd.R_drew)); exact HO435.out) hb); have n2_ := Aside0.mk (Kd.R_lower (Kd.R_new' ho0 (Kd.R_lt (by (with_reducible repeat (first | apply Kd.R_alloc | apply Kd.R_drewN | apply Kd.R_drew)); exact HO_3.out))) (below_size (by repeat with_reducible first | exact HB.out | apply pw_below_drewN | refine below_set ?_ GE426.out | apply below_drew1 | apply below_alloc))); have n3_ := Aside0.mk (blb hb BK426.out); have n4_ := Aside0.mk (below_step (by repeat with_reducible first | exact HB.out | apply pw_below_drewN | refine below_set ?_ GE426.out | apply below_drew1 | apply below_alloc) hb); clear HO_3; clear HO435; clear BK426; clear HB; have HO_3 := n0_; have HO435 := n1_; have HO438 := n2_; have BK426 := n3_; have HB := n4_; clear n0_ n1_ n2_ n3_ n4_; (try clear hb); (try clear hb2); (try clear hk); (try clear hi); (try clear ho0)))
     go_loopg [7] kj11 (fun kq v7 w' => ∃ (x7_3 : Int), v7 = .int .i64 x7_3 ∧ Aside0 (quilllaw15_ObjectWithin.l1 kq y428 x4_1 y433 t436 x7_3 l0_0 a0_1 a0_2 a0_3 a0_4 a0_5 a0_6 a0_7 = some r) ∧ Aside0 (kq ≤ kj11) ∧ Aside0 (Kd.R (Kd.int .i64) 3 w' w.heap.size (fun k_ => some k_ ≠ (v437 : Value).ownBlock) v429 y428) ∧ Aside0 (Kd.R (Kd.int .i32) 21 w' w.heap.size (fun _ => True) (.slice Ao25 y433.length co25) y433) ∧ Aside0 (Kd.R (Kd.int .i64) 3 w' w.heap.size (fun k_ => some k_ ≠ (v429 : Value).ownBlock) v437 t436) ∧ Aside0 (w'.heap[gb426]? = some (.cells #[(.slice (some ad432) l0_0.length c0_0), .int .i64 a0_1, .int .i64 a0_2, .int .i64 a0_3, .int .i64 a0_4, .int .i64 a0_5, .int .i64 a0_6, .int .i64 a0_7] 28 (0, 0))) ∧ Aside0 (Below w.heap.size w w'))
     case atStart => exact ⟨(0), (by first | rfl | (simp; done) | (simp [*]; done)), H', ⟨Nat.le_refl _⟩, ⟨by (with_reducible repeat (first | apply Kd.R_alloc | apply Kd.R_drewN | apply Kd.R_drew)); exact Kd.R_mono HO_3.out (fun _ hk => hk.2)⟩, ⟨by (with_reducible repeat (first | apply Kd.R_alloc | apply Kd.R_drewN | apply Kd.R_drew)); exact HO435.out⟩, ⟨by (with_reducible repeat (first | apply Kd.R_alloc | apply Kd.R_drewN | apply Kd.R_drew)); exact Kd.R_mono HO438.out (fun _ hk => hk.2)⟩, ⟨BK426.out⟩, ⟨by repeat with_reducible first | exact HB.out | apply pw_below_drewN | refine below_set ?_ GE426.out | apply below_drew1 | apply below_alloc⟩⟩
     case round =>
      clear H'
      try clear c3
      try clear c16
      try clear c17
      try clear c17b0
      try clear c18
      try clear c18b0
      try clear c19
      try clear c19b0
      try clear c19b1
      try clear hcz21_0
      try clear hcz21_1
      try clear hcz21_2
      try clear hcz21_3
      try clear hcz21_4
      try clear hcz21_5
      try clear hcz21_6
      try clear hcz21_7
      try clear hcz24_0
      try clear hcz24_1
      try clear hcz24_2
      try clear hcz24_3
      try clear hcz24_4
      try clear hcz24_5
      try clear hcz24_6
      try clear hcz24_7
      try clear hcz8_0
      try clear hcz8_1
      try clear hcz8_2
      try clear hcz8_3
      try clear hcz8_4
      try clear hcz8_5
      try clear hcz8_6
      try clear hcz8_7
      try clear hfz21_0
      try clear hfz21_1
      try clear hfz21_2
      try clear hfz21_3
      try clear hfz21_4
      try clear hfz21_5
      try clear hfz21_6
      try clear hfz21_7
      try clear hfz24_0
      try clear hfz24_1
      try clear hfz24_2
      try clear hfz24_3
      try clear hfz24_4
      try clear hfz24_5
      try clear hfz24_6
      try clear hfz24_7
      try clear hfz8_0
      try clear hfz8_1
      try clear hfz8_2
      try clear hfz8_3
      try clear hfz8_4
      try clear hfz8_5
      try clear hfz8_6
      try clear hfz8_7
      try clear hx432_0
      try clear p432
      try clear q432
      obtain ⟨x7_3, rfl, HA, HK3, HO_3, HO_5, HO_6, BK426, HB⟩ := hrel
      cases gk with
      | zero => exact absurd HA.out (by simp [quilllaw15_ObjectWithin.l1])
      | succ k3 =>
       have H := HA.out
       clear HA
       simp only [quilllaw15_ObjectWithin.l1] at H
       by_cases c27 : x7_3 < (t436.length : Int)
       rotate_left
       ·
        rw [if_neg c27] at H
        have c27b0 := decide_eq_false c27
        clear c27
        have H' := Aside0.mk H
        clear H
        obtain ⟨Ao68, co68, eo68⟩ := Kd.R_slice HO_6.out
        subst eo68
        go_wp2
        go_roundg k3
        case measure => have := HK1.out; have := HJ11.out; have := HK3.out; omega
        case rel => exact ⟨(wrap64 (x4_1 + 1)), (by first | rfl | (simp; done) | (simp [*]; done)), H', ⟨by have := HK1.out; have := HJ11.out; have := HK3.out; omega⟩, ⟨by (with_reducible repeat (first | apply Kd.R_alloc | apply Kd.R_drewN | apply Kd.R_drew)); exact Kd.R_mono HO_3.out (fun _ hk => trivial)⟩, ⟨BK426.out⟩, ⟨by repeat with_reducible first | exact HB.out | apply pw_below_drewN | refine below_set ?_ GE426.out | apply below_drew1 | apply below_alloc⟩⟩
       rw [if_pos c27] at H
       have c27b0 := decide_eq_true c27
       clear c27
       have H' := Aside0.mk H
       clear H
       obtain ⟨Ao28, co28, eo28⟩ := Kd.R_slice HO_6.out
       subst eo28
       go_wp2
       go_loopg [8] k3 (fun kq v8 w' => ∃ (x8_4 : Int), v8 = .int .i64 x8_4 ∧ Aside0 (quilllaw15_ObjectWithin.l2 kq y428 x4_1 y433 t436 x7_3 x8_4 l0_0 a0_1 a0_2 a0_3 a0_4 a0_5 a0_6 a0_7 = some r) ∧ Aside0 (kq ≤ k3) ∧ Aside0 (Kd.R (Kd.int .i64) 3 w' w.heap.size (fun k_ => some k_ ≠ ((.slice Ao28 t436.length co28) : Value).ownBlock) v429 y428) ∧ Aside0 (Kd.R (Kd.int .i32) 21 w' w.heap.size (fun _ => True) (.slice Ao25 y433.length co25) y433) ∧ Aside0 (Kd.R (Kd.int .i64) 3 w' w.heap.size (fun k_ => some k_ ≠ (v429 : Value).ownBlock) (.slice Ao28 t436.length co28) t436) ∧ Aside0 (w'.heap[gb426]? = some (.cells #[(.slice (some ad432) l0_0.length c0_0), .int .i64 a0_1, .int .i64 a0_2, .int .i64 a0_3, .int .i64 a0_4, .int .i64 a0_5, .int .i64 a0_6, .int .i64 a0_7] 28 (0, 0))) ∧ Aside0 (Below w.heap.size w w'))
       case atStart => exact ⟨(0), (by first | rfl | (simp; done) | (simp [*]; done)), H', ⟨Nat.le_refl _⟩, ⟨by (with_reducible repeat (first | apply Kd.R_alloc | apply Kd.R_drewN | apply Kd.R_drew)); exact HO_3.out⟩, ⟨by (with_reducible repeat (first | apply Kd.R_alloc | apply Kd.R_drewN | apply Kd.R_drew)); exact HO_5.out⟩, ⟨by (with_reducible repeat (first | apply Kd.R_alloc | apply Kd.R_drewN | apply Kd.R_drew)); exact HO_6.out⟩, ⟨BK426.out⟩, ⟨by repeat with_reducible first | exact HB.out | apply pw_below_drewN | refine below_set ?_ GE426.out | apply below_drew1 | apply below_alloc⟩⟩
       case round =>
        clear H'
        try clear c3
        try clear c16
        try clear c17
        try clear c17b0
        try clear c18
        try clear c18b0
        try clear c19
        try clear c19b0
        try clear c19b1
        try clear c27
        try clear c27b0
        try clear hcz21_0
        try clear hcz21_1
        try clear hcz21_2
        try clear hcz21_3
        try clear hcz21_4
        try clear hcz21_5
        try clear hcz21_6
        try clear hcz21_7
        try clear hcz24_0
        try clear hcz24_1
        try clear hcz24_2
        try clear hcz24_3
        try clear hcz24_4
        try clear hcz24_5
        try clear hcz24_6
        try clear hcz24_7
        try clear hcz8_0
        try clear hcz8_1
        try clear hcz8_2
        try clear hcz8_3
        try clear hcz8_4
        try clear hcz8_5
        try clear hcz8_6
        try clear hcz8_7
        try clear hfz21_0
        try clear hfz21_1
        try clear hfz21_2
        try clear hfz21_3
        try clear hfz21_4
        try clear hfz21_5
        try clear hfz21_6
        try clear hfz21_7
        try clear hfz24_0
        try clear hfz24_1
        try clear hfz24_2
        try clear hfz24_3
        try clear hfz24_4
        try clear hfz24_5
        try clear hfz24_6
        try clear hfz24_7
        try clear hfz8_0
        try clear hfz8_1
        try clear hfz8_2
        try clear hfz8_3
        try clear hfz8_4
        try clear hfz8_5
        try clear hfz8_6
        try clear hfz8_7
        try clear hx432_0
        try clear p432
        try clear q432
        obtain ⟨x8_4, rfl, HA, HK4, HO_3, HO_5, HO_6, BK426, HB⟩ := hrel
        cases gk with
        | zero => exact absurd HA.out (by simp [quilllaw15_ObjectWithin.l2])
        | succ k4 =>
         have H := HA.out
         clear HA
         simp only [quilllaw15_ObjectWithin.l2] at H
         by_cases c29 : x8_4 < (y428.length : Int)
         rotate_left
         ·
          rw [if_neg c29] at H
          have c29b0 := decide_eq_false c29
          clear c29
          have H' := Aside0.mk H
          clear H
          obtain ⟨Ao67, co67, eo67⟩ := Kd.R_slice HO_3.out
          subst eo67
          go_wp2
          go_roundg k4
          case measure => have := HK1.out; have := HJ11.out; have := HK3.out; have := HK4.out; omega
          case rel => exact ⟨(wrap64 (x7_3 + 1)), (by first | rfl | (simp; done) | (simp [*]; done)), H', ⟨by have := HK1.out; have := HJ11.out; have := HK3.out; have := HK4.out; omega⟩, ⟨by (with_reducible repeat (first | apply Kd.R_alloc | apply Kd.R_drewN | apply Kd.R_drew)); exact HO_3.out⟩, ⟨by (with_reducible repeat (first | apply Kd.R_alloc | apply Kd.R_drewN | apply Kd.R_drew)); exact HO_5.out⟩, ⟨by (with_reducible repeat (first | apply Kd.R_alloc | apply Kd.R_drewN | apply Kd.R_drew)); exact HO_6.out⟩, ⟨BK426.out⟩, ⟨by repeat with_reducible first | exact HB.out | apply pw_below_drewN | refine below_set ?_ GE426.out | apply below_drew1 | apply below_alloc⟩⟩
         rw [if_pos c29] at H
         have c29b0 := decide_eq_true c29
         clear c29
         by_cases c30 : 0 ≤ x4_1
         rotate_left
         ·
          rw [if_neg c30] at H
          exact absurd H (by simp)
         rw [if_pos c30] at H
         have c30b0 := decide_eq_true c30
         clear c30
         by_cases c31 : x4_1 < (l0_0.length : Int)
         rotate_left
         ·
          rw [if_neg c31] at H
          exact absurd H (by simp)
         rw [if_pos c31] at H
         have c31b0 := decide_eq_true c31
         clear c31
         by_cases c32 : 0 ≤ x7_3
         rotate_left
         ·
          rw [if_neg c32] at H
          exact absurd H (by simp)
         rw [if_pos c32] at H
         have c32b0 := decide_eq_true c32
         clear c32
         by_cases c33 : x7_3 < (t436.length : Int)
         rotate_left
         ·
          rw [if_neg c33] at H
          exact absurd H (by simp)
         rw [if_pos c33] at H
         have c33b0 := decide_eq_true c33
         clear c33
         by_cases c34 : 0 ≤ x8_4
         rotate_left
         ·
          rw [if_neg c34] at H
          exact absurd H (by simp)
         rw [if_pos c34] at H
         have c34b0 := decide_eq_true c34
         clear c34
         replace H := Option.bind_eq_some_iff.mp H
         obtain ⟨⟨t442, t443, t444, t445⟩, A350, H⟩ := H
         (try dsimp only at H)
         have A35 := Aside0.mk A350
         clear A350
         replace H := Option.bind_eq_some_iff.mp H
         obtain ⟨⟨t450, t451, t452, t453⟩, A360, H⟩ := H
         (try dsimp only at H)
         have A36 := Aside0.mk A360
         clear A360
         have HC37 := Aside0.mk H
         clear H
         obtain ⟨Ao38, co38, eo38⟩ := Kd.R_slice HO_3.out
         subst eo38
         try go_wp2
         have n0_ := Aside0.mk (Kd.R_drew HO_3.out)
         have n1_ := Aside0.mk (Kd.R_drew HO_5.out)
         have n2_ := Aside0.mk (Kd.R_drew HO_6.out)
         have n3_ := Aside0.mk (blk_drew BK426.out)
         have n4_ := Aside0.mk (below_drew1 HB.out)
         clear HO_3
         clear HO_5
         clear HO_6
         clear BK426
         clear HB
         have HO_3 := n0_
         have HO_5 := n1_
         have HO_6 := n2_
         have BK426 := n3_
         have HB := n4_
         clear n0_ n1_ n2_ n3_ n4_
         have p439 : 0 ≤ (x4_1 : Int) := of_decide_eq_true (by assumption)
         have q439 : x4_1 < (l0_0.length : Int) := of_decide_eq_true (by assumption)
         obtain ⟨ad439, e439, hx439_0⟩ := Kd.at_string HR0_0.out x4_1 p439 q439
         have hw439_0 := hx439_0
         obtain rfl : ad432 = ad439 := (by injection e439)
         replace hx439_0 := (HB.out.cell (World.block_lt_of_cell? w _ hx439_0)).trans hx439_0
         replace p439 := eq_true p439
         replace q439 := eq_true q439
         have p440 : 0 ≤ (x7_3 : Int) := of_decide_eq_true (by assumption)
         have q440 : x7_3 < (t436.length : Int) := of_decide_eq_true (by assumption)
         obtain ⟨ad440, e440, hx440_0⟩ := Kd.at_int (Kd.R_reads' HO_6.out).2.2 x7_3 p440 q440
         cases e440
         replace p440 := eq_true p440
         replace q440 := eq_true q440
         have p441 : 0 ≤ (x8_4 : Int) := of_decide_eq_true (by assumption)
         have q441 : x8_4 < (y428.length : Int) := of_decide_eq_true (by assumption)
         obtain ⟨ad441, e441, hx441_0⟩ := Kd.at_int (Kd.R_reads' HO_3.out).2.2 x8_4 p441 q441
         cases e441
         replace p441 := eq_true p441
         replace q441 := eq_true q441
         refine start_ (n := 21) (S := fun w' => w'.cell? ⟨gb426, 0, none⟩ = some (.slice (some ad432) l0_0.length c0_0) ∧ w'.cell? ⟨gb426, 1, none⟩ = some (.int .i64 a0_1) ∧ w'.cell? ⟨gb426, 2, none⟩ = some (.int .i64 a0_2) ∧ w'.cell? ⟨gb426, 3, none⟩ = some (.int .i64 a0_3) ∧ w'.cell? ⟨gb426, 4, none⟩ = some (.int .i64 a0_4) ∧ w'.cell? ⟨gb426, 5, none⟩ = some (.int .i64 a0_5) ∧ w'.cell? ⟨gb426, 6, none⟩ = some (.int .i64 a0_6) ∧ w'.cell? ⟨gb426, 7, none⟩ = some (.int .i64 a0_7) ∧ w'.cell? (ad432.add (x4_1).toNat) = some (.string (rdOf ByteArray.empty l0_0 x4_1)) ∧ w'.cell? (ad440.add (x7_3).toNat) = some (.int .i64 (rd t436 x7_3)) ∧ w'.cell? (ad441.add (x8_4).toNat) = some (.int .i64 (rd y428 x8_4))) (ds := []) (bs 21 0) (by kernel_rfl) rfl rfl ⟨(blk_cell BK426.out 0).trans rfl, (blk_cell BK426.out 1).trans rfl, (blk_cell BK426.out 2).trans rfl, (blk_cell BK426.out 3).trans rfl, (blk_cell BK426.out 4).trans rfl, (blk_cell BK426.out 5).trans rfl, (blk_cell BK426.out 6).trans rfl, (blk_cell BK426.out 7).trans rfl, ((HB.out.cell (World.block_lt_of_cell? w _ hw439_0)).trans hw439_0), hx440_0, hx441_0⟩ (fun hHeld => ?_); refine with_tabW quilllaw15_ObjectWithin.tab15 quilllaw15_ObjectWithin.bits15 (fun HT_ HW_ => ?_)
         generalize wr.drew = w39 at HO_3 HO_5 HO_6 BK426 HB hx439_0 hx440_0 hx441_0 hHeld ⊢
         refine pure_ (i := 0) (N := some 51) (v := ?_) (a' := ?_) (bs 21 1) rfl rfl (any_of HT_.out (by kernel_rfl)) (fun _ _ _ h => h) (Or.inl ⟨by rfl, ?_⟩) ?_ ?_
         rotate_left
         · intro w'; go_simp; with_reducible rfl
         rotate_left
         · simp only [Act.put, List.setIfInBounds_toArray, List.set_cons_zero, List.set_cons_succ, i64_w, i32_w]; rfl
         refine pure_ (i := 1) (N := some 52) (v := ?_) (a' := ?_) (bs 21 3) rfl rfl (any_of HT_.out (by kernel_rfl)) (fun _ _ _ h => h) (Or.inl ⟨by rfl, ?_⟩) ?_ ?_
         rotate_left
         · intro w'; go_simp; with_reducible rfl
         rotate_left
         · simp only [Act.put, List.setIfInBounds_toArray, List.set_cons_zero, List.set_cons_succ, i64_w, i32_w]; rfl
         refine pure_ (i := 3) (N := some 54) (v := ?_) (a' := ?_) (bs 21 11) rfl rfl (any_of HT_.out (by kernel_rfl)) (fun _ _ _ h => h) (Or.inl ⟨by rfl, ?_⟩) ?_ ?_
         rotate_left
         · intro w'; go_simp; with_reducible rfl
         rotate_left
         · simp only [Act.put, List.setIfInBounds_toArray, List.set_cons_zero, List.set_cons_succ, i64_w, i32_w]; rfl
         refine pure_ (i := 6) (N := some 57) (v := ?_) (a' := ?_) (bs 21 75) rfl rfl (any_of HT_.out (by kernel_rfl)) (fun _ _ _ h => h) (Or.inl ⟨by rfl, ?_⟩) ?_ ?_
         rotate_left
         · intro w'; go_simp; with_reducible rfl
         rotate_left
         · simp only [Act.put, List.setIfInBounds_toArray, List.set_cons_zero, List.set_cons_succ, i64_w, i32_w]; rfl
         refine pure_ (i := 7) (N := some 58) (v := ?_) (a' := ?_) (bs 21 203) rfl rfl (any_of HT_.out (by kernel_rfl)) (fun _ _ _ h => h) (Or.inl ⟨by rfl, ?_⟩) ?_ ?_
         rotate_left
         · intro w'; go_simp; with_reducible rfl
         rotate_left
         · simp only [Act.put, List.setIfInBounds_toArray, List.set_cons_zero, List.set_cons_succ, i64_w, i32_w]; rfl
         refine pure_ (i := 8) (N := some 59) (v := ?_) (a' := ?_) (bs 21 459) rfl rfl (any_of HT_.out (by kernel_rfl)) (fun _ _ _ h => h) (Or.inl ⟨by rfl, ?_⟩) ?_ ?_
         rotate_left
         · intro w'; go_simp; with_reducible rfl
         rotate_left
         · simp only [Act.put, List.setIfInBounds_toArray, List.set_cons_zero, List.set_cons_succ, i64_w, i32_w]; rfl
         refine pure_ (i := 10) (N := some 61) (v := ?_) (a' := ?_) (bs 21 1483) rfl rfl (any_of HT_.out (by kernel_rfl)) (fun _ _ _ h => h) (Or.inl ⟨by rfl, ?_⟩) ?_ ?_
         rotate_left
         · intro w'; go_simp; with_reducible rfl
         rotate_left
         · simp only [Act.put, List.setIfInBounds_toArray, List.set_cons_zero, List.set_cons_succ, i64_w, i32_w]; rfl
         refine pure_ (i := 11) (N := some 62) (v := ?_) (a' := ?_) (bs 21 3531) rfl rfl (any_of HT_.out (by kernel_rfl)) (fun _ _ _ h => h) (Or.inl ⟨by rfl, ?_⟩) ?_ ?_
         rotate_left
         · intro w'; go_simp; with_reducible rfl
         rotate_left
         · simp only [Act.put, List.setIfInBounds_toArray, List.set_cons_zero, List.set_cons_succ, i64_w, i32_w]; rfl
         refine pure_ (i := 12) (N := some 63) (v := ?_) (a' := ?_) (bs 21 7627) rfl rfl (any_of HT_.out (by kernel_rfl)) (fun _ _ _ h => h) (Or.inl ⟨by rfl, ?_⟩) ?_ ?_
         rotate_left
         · intro w'; go_simp; with_reducible rfl
         rotate_left
         · simp only [Act.put, List.setIfInBounds_toArray, List.set_cons_zero, List.set_cons_succ, i64_w, i32_w]; rfl
         refine take_ (i := 2) (N := some 53) (v := ?_) (a' := ?_) (bs 21 7631) rfl rfl (take_ofW HT_.out HW_.out (by kernel_rfl)) (fun _ _ _ h => h) (Or.inl ⟨by rfl, ?_⟩) hHeld ?_ ?_
         rotate_left
         · rintro w' ⟨s0, s1, s2, s3, s4, s5, s6, s7, s8, s9, s10⟩; go_simp; with_reducible rfl
         rotate_left
         · simp only [Act.put, List.setIfInBounds_toArray, List.set_cons_zero, List.set_cons_succ, i64_w, i32_w]; rfl
         refine pure_ (i := 4) (N := some 55) (v := ?_) (a' := ?_) (bs 21 7647) rfl rfl (any_of HT_.out (by kernel_rfl)) (fun _ _ _ h => h) (Or.inl ⟨by rfl, ?_⟩) ?_ ?_
         rotate_left
         · intro w'; go_simp; with_reducible rfl
         rotate_left
         · simp only [Act.put, List.setIfInBounds_toArray, List.set_cons_zero, List.set_cons_succ, i64_w, i32_w]; rfl
         refine take_ (i := 5) (N := some 56) (v := ?_) (a' := ?_) (bs 21 7679) rfl rfl (take_ofW HT_.out HW_.out (by kernel_rfl)) (fun _ _ _ h => h) (Or.inl ⟨by rfl, ?_⟩) hHeld ?_ ?_
         rotate_left
         · rintro w' ⟨s0, s1, s2, s3, s4, s5, s6, s7, s8, s9, s10⟩; go_simp; with_reducible rfl
         rotate_left
         · simp only [Act.put, List.setIfInBounds_toArray, List.set_cons_zero, List.set_cons_succ, i64_w, i32_w]; rfl
         refine take_ (i := 9) (N := some 60) (v := ?_) (a' := ?_) (bs 21 8191) rfl rfl (take_ofW HT_.out HW_.out (by kernel_rfl)) (fun _ _ _ h => h) (Or.inl ⟨by rfl, ?_⟩) hHeld ?_ ?_
         rotate_left
         · rintro w' ⟨s0, s1, s2, s3, s4, s5, s6, s7, s8, s9, s10⟩; go_simp; with_reducible rfl
         rotate_left
         · simp only [Act.put, List.setIfInBounds_toArray, List.set_cons_zero, List.set_cons_succ, i64_w, i32_w]; rfl
         refine take_ (i := 13) (N := some 64) (v := ?_) (a' := ?_) (bs 21 16383) rfl rfl (take_ofW HT_.out HW_.out (by kernel_rfl)) (fun _ _ _ h => h) (Or.inl ⟨by rfl, ?_⟩) hHeld ?_ ?_
         rotate_left
         · rintro w' ⟨s0, s1, s2, s3, s4, s5, s6, s7, s8, s9, s10⟩; go_simp; with_reducible rfl
         rotate_left
         · simp only [Act.put, List.setIfInBounds_toArray, List.set_cons_zero, List.set_cons_succ, i64_w, i32_w]; rfl
         refine join_ (σ := Nat) 2 #[true, true, true, true, true, true, true, true, true, true, true, true, true, true, true, true, true, true, true, false, false] (fun s_ => [(65, .tuple #[.agg #[.int .i64 t442, .int .i64 t443, .bool t444], .int .i64 t445]), (9, .pointer (some ⟨s_, 0, none⟩)), (50, .tuple #[.agg #[.int .i64 t442, .int .i64 t443, .bool t444], .int .i64 t445]), (66, .agg #[.int .i64 t442, .int .i64 t443, .bool t444]), (67, .int .i64 t445)]) (fun s_ w' => (w'.cell? ⟨gb426, 0, none⟩ = some (.slice (some ad432) l0_0.length c0_0) ∧ w'.cell? ⟨gb426, 1, none⟩ = some (.int .i64 a0_1) ∧ w'.cell? ⟨gb426, 2, none⟩ = some (.int .i64 a0_2) ∧ w'.cell? ⟨gb426, 3, none⟩ = some (.int .i64 a0_3) ∧ w'.cell? ⟨gb426, 4, none⟩ = some (.int .i64 a0_4) ∧ w'.cell? ⟨gb426, 5, none⟩ = some (.int .i64 a0_5) ∧ w'.cell? ⟨gb426, 6, none⟩ = some (.int .i64 a0_6) ∧ w'.cell? ⟨gb426, 7, none⟩ = some (.int .i64 a0_7) ∧ w'.cell? (ad432.add (x4_1).toNat) = some (.string (rdOf ByteArray.empty l0_0 x4_1)) ∧ w'.cell? (ad440.add (x7_3).toNat) = some (.int .i64 (rd t436 x7_3)) ∧ w'.cell? (ad441.add (x8_4).toNat) = some (.int .i64 (rd y428 x8_4))) ∧ (Kd.R (Kd.int .i64) 3 w' w.heap.size (fun k_ => some k_ ≠ (.slice (some ad440) t436.length co28 : Value).ownBlock) (.slice (some ad441) y428.length co38) y428) ∧ (Kd.R (Kd.int .i32) 21 w' w.heap.size (fun _ => True) (.slice Ao25 y433.length co25) y433) ∧ (Kd.R (Kd.int .i64) 3 w' w.heap.size (fun k_ => some k_ ≠ (.slice (some ad441) y428.length co38 : Value).ownBlock) (.slice (some ad440) t436.length co28) t436) ∧ (w'.heap[gb426]? = some (.cells #[.slice (some ad432) l0_0.length c0_0, .int .i64 a0_1, .int .i64 a0_2, .int .i64 a0_3, .int .i64 a0_4, .int .i64 a0_5, .int .i64 a0_6, .int .i64 a0_7] 28 (0, 0))) ∧ (w'.heap[s_]? = some (.cells #[.int .i64 0, .int .i64 0, .bool false] 35 (0, 0))) ∧ (w.heap.size ≤ s_) ∧ (w.heap.size ≤ s_) ∧ (gb426 ≠ s_) ∧ (s_ ≠ gb426) ∧ (Below w.heap.size w w')) ?_ ?_
         rotate_left
         ·
          intro hCont
          refine two_ (i := 14) (j := 18) (Ni := some 65) (Nj := some 9) #[true, true, true, true, true, true, true, true, true, true, true, true, true, true, true, false, false, false, false, false, false] (bs 21 278527) rfl rfl rfl rfl (two_of HT_.out (by kernel_rfl)) (by decide) (by decide) (fun K hK => ?_) (fun K hK => ?_)
          ·
           skip
           refine goes_ Tryd.func15 (by kernel_rfl) rfl #[.string (rdOf ByteArray.empty l0_0 x4_1), .int .i64 (rd t436 x7_3), .int .i64 105, .int .i64 (rd y428 x8_4), .int .i64 1] (by rfl) rfl rfl (by (try simp only [List.map_toArray, List.map_cons, List.map_nil]); first | done | rfl | (simp only [List.length_drop, List.length_take]; rfl)) ?_
           with_reducible refine (object_Piece.calls k4 (rdOf ByteArray.empty l0_0 x4_1) (rd t436 x7_3) 105 (rd y428 x8_4) 1 t442 t443 t444 t445 _ ?side1 A35.out).mono ?_
           (case side1 => exact Tabs.below HT.out (by repeat with_reducible first | exact HB.out | apply pw_below_drewN | refine below_set ?_ GE426.out | apply below_drew1 | apply below_alloc))
           rintro e w40 ⟨rfl, hb⟩
           have HS9_ := (hb.cell (World.block_lt_of_cell? _ _ (hHeld.2.2.2.2.2.2.2.2.2.1))).trans (hHeld.2.2.2.2.2.2.2.2.2.1)
           have HS10_ := (hb.cell (World.block_lt_of_cell? _ _ (hHeld.2.2.2.2.2.2.2.2.2.2))).trans (hHeld.2.2.2.2.2.2.2.2.2.2)
           refine ⟨_, rfl, ?_⟩
           have n0_ := Aside0.mk (Kd.R_below (by (with_reducible repeat (first | apply Kd.R_alloc | apply Kd.R_drewN | apply Kd.R_drew)); exact HO_3.out) hb)
           have n1_ := Aside0.mk (Kd.R_below (by (with_reducible repeat (first | apply Kd.R_alloc | apply Kd.R_drewN | apply Kd.R_drew)); exact HO_5.out) hb)
           have n2_ := Aside0.mk (Kd.R_below (by (with_reducible repeat (first | apply Kd.R_alloc | apply Kd.R_drewN | apply Kd.R_drew)); exact HO_6.out) hb)
           have n3_ := Aside0.mk (blb hb BK426.out)
           have n4_ := Aside0.mk (below_step (by repeat with_reducible first | exact HB.out | apply pw_below_drewN | refine below_set ?_ GE426.out | apply below_drew1 | apply below_alloc) hb)
           clear HO_3
           clear HO_5
           clear HO_6
           clear BK426
           clear HB
           have HO_3 := n0_
           have HO_5 := n1_
           have HO_6 := n2_
           have BK426 := n3_
           have HB := n4_
           clear n0_ n1_ n2_ n3_ n4_
           (try clear hb)
           (try clear hb2)
           (try clear hk)
           (try clear hi)
           refine hK.out _ _ ⟨(blk_cell BK426.out 0).trans rfl, (blk_cell BK426.out 1).trans rfl, (blk_cell BK426.out 2).trans rfl, (blk_cell BK426.out 3).trans rfl, (blk_cell BK426.out 4).trans rfl, (blk_cell BK426.out 5).trans rfl, (blk_cell BK426.out 6).trans rfl, (blk_cell BK426.out 7).trans rfl, ((HB.out.cell (World.block_lt_of_cell? w _ hw439_0)).trans hw439_0), HS9_, HS10_⟩ (fun hHeld => ?_)
           clear hK K
           refine norm_ (a' := ?_) ?_ ?_
           rotate_left
           · show Act.put _ (some 65) _ = _; simp only [Act.put, List.setIfInBounds_toArray, List.set_cons_zero, List.set_cons_succ, i64_w, i32_w]; rfl
           refine pure_ (i := 15) (N := some 50) (v := ?_) (a' := ?_) (bs 21 65535) rfl rfl (any_of HT_.out (by kernel_rfl)) (fun _ _ _ h => h) (Or.inl ⟨by rfl, ?_⟩) ?_ ?_
           rotate_left
           · intro w'; go_simp; with_reducible rfl
           rotate_left
           · simp only [Act.put, List.setIfInBounds_toArray, List.set_cons_zero, List.set_cons_succ, i64_w, i32_w]; rfl
           refine pure_ (i := 16) (N := some 66) (v := ?_) (a' := ?_) (bs 21 131071) rfl rfl (any_of HT_.out (by kernel_rfl)) (fun _ _ _ h => h) (Or.inl ⟨by rfl, ?_⟩) ?_ ?_
           rotate_left
           · intro w'; go_simp; with_reducible rfl
           rotate_left
           · simp only [Act.put, List.setIfInBounds_toArray, List.set_cons_zero, List.set_cons_succ, i64_w, i32_w]; rfl
           refine pure_ (i := 17) (N := some 67) (v := ?_) (a' := ?_) (bs 21 262143) rfl rfl (any_of HT_.out (by kernel_rfl)) (fun _ _ _ h => h) (Or.inl ⟨by rfl, ?_⟩) ?_ ?_
           rotate_left
           · intro w'; go_simp; with_reducible rfl
           rotate_left
           · simp only [Act.put, List.setIfInBounds_toArray, List.set_cons_zero, List.set_cons_succ, i64_w, i32_w]; rfl
           refine one_ (i := 18) (N := some 9) (bs 21 524287) rfl rfl (one_of HT_.out (by kernel_rfl)) (by decide) (fun K hK => ?_)
           refine box_step ?hg (N := 9) ?hd (cs := #[.int .i64 0, .int .i64 0, .bool false]) (t := 35) ?hr ?_; (case hd => rfl); (case hg => rfl); (case hr => first | (go_simp; done) | (go_simp; rfl))
           intro gb446 hg w41 hbox hb
           have HS9_ := (hb.cell (World.block_lt_of_cell? _ _ (hHeld.2.2.2.2.2.2.2.2.2.1))).trans (hHeld.2.2.2.2.2.2.2.2.2.1)
           have HS10_ := (hb.cell (World.block_lt_of_cell? _ _ (hHeld.2.2.2.2.2.2.2.2.2.2))).trans (hHeld.2.2.2.2.2.2.2.2.2.2)
           have n0_ := Aside0.mk (Kd.R_below (by (with_reducible repeat (first | apply Kd.R_alloc | apply Kd.R_drewN | apply Kd.R_drew)); exact HO_3.out) hb)
           have n1_ := Aside0.mk (Kd.R_below (by (with_reducible repeat (first | apply Kd.R_alloc | apply Kd.R_drewN | apply Kd.R_drew)); exact HO_5.out) hb)
           have n2_ := Aside0.mk (Kd.R_below (by (with_reducible repeat (first | apply Kd.R_alloc | apply Kd.R_drewN | apply Kd.R_drew)); exact HO_6.out) hb)
           have n3_ := Aside0.mk (blb hb BK426.out)
           have n4_ := Aside0.mk (below_step (by repeat with_reducible first | exact HB.out | apply pw_below_drewN | refine below_set ?_ GE426.out | apply below_drew1 | apply below_alloc) hb)
           have n5_ := Aside0.mk (hbox)
           have n6_ := Aside0.mk (geb hg (by repeat with_reducible first | exact HB.out | apply pw_below_drewN | refine below_set ?_ GE426.out | apply below_drew1 | apply below_alloc))
           have n7_ := Aside0.mk (geb hg (by repeat with_reducible first | exact HB.out | apply pw_below_drewN | refine below_set ?_ GE426.out | apply below_drew1 | apply below_alloc))
           have n8_ := Aside0.mk ((nbl hg BK426.out))
           have n9_ := Aside0.mk ((nbr hg BK426.out))
           clear HO_3
           clear HO_5
           clear HO_6
           clear BK426
           clear HB
           have HO_3 := n0_
           have HO_5 := n1_
           have HO_6 := n2_
           have BK426 := n3_
           have HB := n4_
           have BK446 := n5_
           have GW446 := n6_
           have GE446 := n7_
           have NB426_446 := n8_
           have NB446_426 := n9_
           clear n0_ n1_ n2_ n3_ n4_ n5_ n6_ n7_ n8_ n9_
           clear hb hbox hg
           refine hK.out _ _ ⟨(blk_cell BK426.out 0).trans rfl, (blk_cell BK426.out 1).trans rfl, (blk_cell BK426.out 2).trans rfl, (blk_cell BK426.out 3).trans rfl, (blk_cell BK426.out 4).trans rfl, (blk_cell BK426.out 5).trans rfl, (blk_cell BK426.out 6).trans rfl, (blk_cell BK426.out 7).trans rfl, ((HB.out.cell (World.block_lt_of_cell? w _ hw439_0)).trans hw439_0), HS9_, HS10_⟩ (fun hHeld => ?_)
           clear hK K
           refine norm_ (a' := ?_) ?_ ?_
           rotate_left
           · show Act.put _ (some 9) _ = _; simp only [Act.put, List.setIfInBounds_toArray, List.set_cons_zero, List.set_cons_succ, i64_w, i32_w]; rfl
           exact norm_ (by simp only [putAll, Act.put, List.setIfInBounds_toArray, List.set_cons_zero, List.set_cons_succ]) (hCont (gb446) _ ⟨hHeld, (by (with_reducible repeat (first | apply Kd.R_alloc | apply Kd.R_drewN | apply Kd.R_drew)); exact HO_3.out), (by (with_reducible repeat (first | apply Kd.R_alloc | apply Kd.R_drewN | apply Kd.R_drew)); exact HO_5.out), (by (with_reducible repeat (first | apply Kd.R_alloc | apply Kd.R_drewN | apply Kd.R_drew)); exact HO_6.out), (by exact BK426.out), (by exact BK446.out), GW446.out, GE446.out, NB426_446.out, NB446_426.out, (by repeat with_reducible first | exact HB.out | apply pw_below_drewN | refine below_set ?_ GE426.out | refine below_set ?_ GE446.out | apply below_drew1 | apply below_alloc)⟩)
          skip
          refine box_step ?hg (N := 9) ?hd (cs := #[.int .i64 0, .int .i64 0, .bool false]) (t := 35) ?hr ?_; (case hd => rfl); (case hg => rfl); (case hr => first | (go_simp; done) | (go_simp; rfl))
          intro gb446 hg w40 hbox hb
          have HS9_ := (hb.cell (World.block_lt_of_cell? _ _ (hHeld.2.2.2.2.2.2.2.2.2.1))).trans (hHeld.2.2.2.2.2.2.2.2.2.1)
          have HS10_ := (hb.cell (World.block_lt_of_cell? _ _ (hHeld.2.2.2.2.2.2.2.2.2.2))).trans (hHeld.2.2.2.2.2.2.2.2.2.2)
          have n0_ := Aside0.mk (Kd.R_below (by (with_reducible repeat (first | apply Kd.R_alloc | apply Kd.R_drewN | apply Kd.R_drew)); exact HO_3.out) hb)
          have n1_ := Aside0.mk (Kd.R_below (by (with_reducible repeat (first | apply Kd.R_alloc | apply Kd.R_drewN | apply Kd.R_drew)); exact HO_5.out) hb)
          have n2_ := Aside0.mk (Kd.R_below (by (with_reducible repeat (first | apply Kd.R_alloc | apply Kd.R_drewN | apply Kd.R_drew)); exact HO_6.out) hb)
          have n3_ := Aside0.mk (blb hb BK426.out)
          have n4_ := Aside0.mk (below_step (by repeat with_reducible first | exact HB.out | apply pw_below_drewN | refine below_set ?_ GE426.out | apply below_drew1 | apply below_alloc) hb)
          have n5_ := Aside0.mk (hbox)
          have n6_ := Aside0.mk (geb hg (by repeat with_reducible first | exact HB.out | apply pw_below_drewN | refine below_set ?_ GE426.out | apply below_drew1 | apply below_alloc))
          have n7_ := Aside0.mk (geb hg (by repeat with_reducible first | exact HB.out | apply pw_below_drewN | refine below_set ?_ GE426.out | apply below_drew1 | apply below_alloc))
          have n8_ := Aside0.mk ((nbl hg BK426.out))
          have n9_ := Aside0.mk ((nbr hg BK426.out))
          clear HO_3
          clear HO_5
          clear HO_6
          clear BK426
          clear HB
          have HO_3 := n0_
          have HO_5 := n1_
          have HO_6 := n2_
          have BK426 := n3_
          have HB := n4_
          have BK446 := n5_
          have GW446 := n6_
          have GE446 := n7_
          have NB426_446 := n8_
          have NB446_426 := n9_
          clear n0_ n1_ n2_ n3_ n4_ n5_ n6_ n7_ n8_ n9_
          clear hb hbox hg
          refine hK.out _ _ ⟨(blk_cell BK426.out 0).trans rfl, (blk_cell BK426.out 1).trans rfl, (blk_cell BK426.out 2).trans rfl, (blk_cell BK426.out 3).trans rfl, (blk_cell BK426.out 4).trans rfl, (blk_cell BK426.out 5).trans rfl, (blk_cell BK426.out 6).trans rfl, (blk_cell BK426.out 7).trans rfl, ((HB.out.cell (World.block_lt_of_cell? w _ hw439_0)).trans hw439_0), HS9_, HS10_⟩ (fun hHeld => ?_)
          clear hK K
          refine norm_ (a' := ?_) ?_ ?_
          rotate_left
          · show Act.put _ (some 9) _ = _; simp only [Act.put, List.setIfInBounds_toArray, List.set_cons_zero, List.set_cons_succ, i64_w, i32_w]; rfl
          refine one_ (i := 14) (N := some 65) (bs 21 294911) rfl rfl (one_of HT_.out (by kernel_rfl)) (by decide) (fun K hK => ?_)
          refine goes_ Tryd.func15 (by kernel_rfl) rfl #[.string (rdOf ByteArray.empty l0_0 x4_1), .int .i64 (rd t436 x7_3), .int .i64 105, .int .i64 (rd y428 x8_4), .int .i64 1] (by rfl) rfl rfl (by (try simp only [List.map_toArray, List.map_cons, List.map_nil]); first | done | rfl | (simp only [List.length_drop, List.length_take]; rfl)) ?_
          with_reducible refine (object_Piece.calls k4 (rdOf ByteArray.empty l0_0 x4_1) (rd t436 x7_3) 105 (rd y428 x8_4) 1 t442 t443 t444 t445 _ ?side1 A35.out).mono ?_
          (case side1 => exact Tabs.below HT.out (by repeat with_reducible first | exact HB.out | apply pw_below_drewN | refine below_set ?_ GE426.out | refine below_set ?_ GE446.out | apply below_drew1 | apply below_alloc))
          rintro e w41 ⟨rfl, hb⟩
          have HS9_ := (hb.cell (World.block_lt_of_cell? _ _ (hHeld.2.2.2.2.2.2.2.2.2.1))).trans (hHeld.2.2.2.2.2.2.2.2.2.1)
          have HS10_ := (hb.cell (World.block_lt_of_cell? _ _ (hHeld.2.2.2.2.2.2.2.2.2.2))).trans (hHeld.2.2.2.2.2.2.2.2.2.2)
          refine ⟨_, rfl, ?_⟩
          have n0_ := Aside0.mk (Kd.R_below (by (with_reducible repeat (first | apply Kd.R_alloc | apply Kd.R_drewN | apply Kd.R_drew)); exact HO_3.out) hb)
          have n1_ := Aside0.mk (Kd.R_below (by (with_reducible repeat (first | apply Kd.R_alloc | apply Kd.R_drewN | apply Kd.R_drew)); exact HO_5.out) hb)
          have n2_ := Aside0.mk (Kd.R_below (by (with_reducible repeat (first | apply Kd.R_alloc | apply Kd.R_drewN | apply Kd.R_drew)); exact HO_6.out) hb)
          have n3_ := Aside0.mk (blb hb BK426.out)
          have n4_ := Aside0.mk (blb hb BK446.out)
          have n5_ := Aside0.mk (below_step (by repeat with_reducible first | exact HB.out | apply pw_below_drewN | refine below_set ?_ GE426.out | refine below_set ?_ GE446.out | apply below_drew1 | apply below_alloc) hb)
          clear HO_3
          clear HO_5
          clear HO_6
          clear BK426
          clear BK446
          clear HB
          have HO_3 := n0_
          have HO_5 := n1_
          have HO_6 := n2_
          have BK426 := n3_
          have BK446 := n4_
          have HB := n5_
          clear n0_ n1_ n2_ n3_ n4_ n5_
          (try clear hb)
          (try clear hb2)
          (try clear hk)
          (try clear hi)
          refine hK.out _ _ ⟨(blk_cell BK426.out 0).trans rfl, (blk_cell BK426.out 1).trans rfl, (blk_cell BK426.out 2).trans rfl, (blk_cell BK426.out 3).trans rfl, (blk_cell BK426.out 4).trans rfl, (blk_cell BK426.out 5).trans rfl, (blk_cell BK426.out 6).trans rfl, (blk_cell BK426.out 7).trans rfl, ((HB.out.cell (World.block_lt_of_cell? w _ hw439_0)).trans hw439_0), HS9_, HS10_⟩ (fun hHeld => ?_)
          clear hK K
          refine norm_ (a' := ?_) ?_ ?_
          rotate_left
          · show Act.put _ (some 65) _ = _; simp only [Act.put, List.setIfInBounds_toArray, List.set_cons_zero, List.set_cons_succ, i64_w, i32_w]; rfl
          refine pure_ (i := 15) (N := some 50) (v := ?_) (a' := ?_) (bs 21 327679) rfl rfl (any_of HT_.out (by kernel_rfl)) (fun _ _ _ h => h) (Or.inl ⟨by rfl, ?_⟩) ?_ ?_
          rotate_left
          · intro w'; go_simp; with_reducible rfl
          rotate_left
          · simp only [Act.put, List.setIfInBounds_toArray, List.set_cons_zero, List.set_cons_succ, i64_w, i32_w]; rfl
          refine pure_ (i := 16) (N := some 66) (v := ?_) (a' := ?_) (bs 21 393215) rfl rfl (any_of HT_.out (by kernel_rfl)) (fun _ _ _ h => h) (Or.inl ⟨by rfl, ?_⟩) ?_ ?_
          rotate_left
          · intro w'; go_simp; with_reducible rfl
          rotate_left
          · simp only [Act.put, List.setIfInBounds_toArray, List.set_cons_zero, List.set_cons_succ, i64_w, i32_w]; rfl
          refine pure_ (i := 17) (N := some 67) (v := ?_) (a' := ?_) (bs 21 524287) rfl rfl (any_of HT_.out (by kernel_rfl)) (fun _ _ _ h => h) (Or.inl ⟨by rfl, ?_⟩) ?_ ?_
          rotate_left
          · intro w'; go_simp; with_reducible rfl
          rotate_left
          · simp only [Act.put, List.setIfInBounds_toArray, List.set_cons_zero, List.set_cons_succ, i64_w, i32_w]; rfl
          exact norm_ (by simp only [putAll, Act.put, List.setIfInBounds_toArray, List.set_cons_zero, List.set_cons_succ]) (hCont (gb446) _ ⟨hHeld, (by (with_reducible repeat (first | apply Kd.R_alloc | apply Kd.R_drewN | apply Kd.R_drew)); exact HO_3.out), (by (with_reducible repeat (first | apply Kd.R_alloc | apply Kd.R_drewN | apply Kd.R_drew)); exact HO_5.out), (by (with_reducible repeat (first | apply Kd.R_alloc | apply Kd.R_drewN | apply Kd.R_drew)); exact HO_6.out), (by exact BK426.out), (by exact BK446.out), GW446.out, GE446.out, NB426_446.out, NB446_426.out, (by repeat with_reducible first | exact HB.out | apply pw_below_drewN | refine below_set ?_ GE426.out | refine below_set ?_ GE446.out | apply below_drew1 | apply below_alloc)⟩)
         rintro gb446 w42 ⟨hS_, h0_, h1_, h2_, h3_, h4_, h5_, h6_, h7_, h8_, h9_⟩
         have n0_ : Aside0 (Kd.R (Kd.int .i64) 3 w42 w.heap.size (fun k_ => some k_ ≠ (.slice (some ad440) t436.length co28 : Value).ownBlock) (.slice (some ad441) y428.length co38) y428) := ⟨h0_⟩
         have n1_ : Aside0 (Kd.R (Kd.int .i32) 21 w42 w.heap.size (fun _ => True) (.slice Ao25 y433.length co25) y433) := ⟨h1_⟩
         have n2_ : Aside0 (Kd.R (Kd.int .i64) 3 w42 w.heap.size (fun k_ => some k_ ≠ (.slice (some ad441) y428.length co38 : Value).ownBlock) (.slice (some ad440) t436.length co28) t436) := ⟨h2_⟩
         have n3_ : Aside0 (w42.heap[gb426]? = some (.cells #[.slice (some ad432) l0_0.length c0_0, .int .i64 a0_1, .int .i64 a0_2, .int .i64 a0_3, .int .i64 a0_4, .int .i64 a0_5, .int .i64 a0_6, .int .i64 a0_7] 28 (0, 0))) := ⟨h3_⟩
         have n4_ : Aside0 (w42.heap[gb446]? = some (.cells #[.int .i64 0, .int .i64 0, .bool false] 35 (0, 0))) := ⟨h4_⟩
         have n5_ : Aside0 (w.heap.size ≤ gb446) := ⟨h5_⟩
         have n6_ : Aside0 (w.heap.size ≤ gb446) := ⟨h6_⟩
         have n7_ : Aside0 (gb426 ≠ gb446) := ⟨h7_⟩
         have n8_ : Aside0 (gb446 ≠ gb426) := ⟨h8_⟩
         have n9_ : Aside0 (Below w.heap.size w w42) := ⟨h9_⟩
         clear HO_3
         clear HO_5
         clear HO_6
         clear BK426
         clear HB
         clear h0_ h1_ h2_ h3_ h4_ h5_ h6_ h7_ h8_ h9_
         have HO_3 := n0_
         have HO_5 := n1_
         have HO_6 := n2_
         have BK426 := n3_
         have BK446 := n4_
         have GW446 := n5_
         have GE446 := n6_
         have NB426_446 := n7_
         have NB446_426 := n8_
         have HB := n9_
         clear n0_ n1_ n2_ n3_ n4_ n5_ n6_ n7_ n8_ n9_
         have hHeld : w42.cell? ⟨gb426, 0, none⟩ = some (.slice (some ad432) l0_0.length c0_0) ∧ w42.cell? ⟨gb426, 1, none⟩ = some (.int .i64 a0_1) ∧ w42.cell? ⟨gb426, 2, none⟩ = some (.int .i64 a0_2) ∧ w42.cell? ⟨gb426, 3, none⟩ = some (.int .i64 a0_3) ∧ w42.cell? ⟨gb426, 4, none⟩ = some (.int .i64 a0_4) ∧ w42.cell? ⟨gb426, 5, none⟩ = some (.int .i64 a0_5) ∧ w42.cell? ⟨gb426, 6, none⟩ = some (.int .i64 a0_6) ∧ w42.cell? ⟨gb426, 7, none⟩ = some (.int .i64 a0_7) ∧ w42.cell? (ad432.add (x4_1).toNat) = some (.string (rdOf ByteArray.empty l0_0 x4_1)) ∧ w42.cell? (ad440.add (x7_3).toNat) = some (.int .i64 (rd t436 x7_3)) ∧ w42.cell? (ad441.add (x8_4).toNat) = some (.int .i64 (rd y428 x8_4)) := hS_
         refine norm_ (a' := ?_) ?_ ?_
         rotate_left
         ·
          simp only [putAll, Act.put, List.setIfInBounds_toArray, List.set_cons_zero, List.set_cons_succ]
          rfl
         refine one_ (i := 19) (N := none) (bs 21 1048575) rfl rfl (one_of HT_.out (by kernel_rfl)) (by decide) (fun K hK => ?_)
         have hs43 := cz0 BK446.out
         have hfs43 := blk_frozen BK446.out 0
         have hns43_0 := NB426_446.out
         have hms43_0 := NB446_426.out
         have hs44 := cz1 BK446.out
         have hfs44 := blk_frozen BK446.out 1
         have hns44_0 := NB426_446.out
         have hms44_0 := NB446_426.out
         have hs45 := cz2 BK446.out
         have hfs45 := blk_frozen BK446.out 2
         have hns45_0 := NB426_446.out
         have hms45_0 := NB446_426.out
         refine skip_ (w1 := ?_) (by rfl) rfl ?_ ?_
         rotate_left
         ·
          go_simp
          rfl
         refine hK.out _ _ ⟨((cell_far (p := ⟨gb446, _, none⟩) NB426_446.out _).trans (((cell_far (p := ⟨gb446, _, none⟩) NB426_446.out _).trans (((cell_far (p := ⟨gb446, _, none⟩) NB426_446.out _).trans (hHeld.1)))))), ((cell_far (p := ⟨gb446, _, none⟩) NB426_446.out _).trans (((cell_far (p := ⟨gb446, _, none⟩) NB426_446.out _).trans (((cell_far (p := ⟨gb446, _, none⟩) NB426_446.out _).trans (hHeld.2.1)))))), ((cell_far (p := ⟨gb446, _, none⟩) NB426_446.out _).trans (((cell_far (p := ⟨gb446, _, none⟩) NB426_446.out _).trans (((cell_far (p := ⟨gb446, _, none⟩) NB426_446.out _).trans (hHeld.2.2.1)))))), ((cell_far (p := ⟨gb446, _, none⟩) NB426_446.out _).trans (((cell_far (p := ⟨gb446, _, none⟩) NB426_446.out _).trans (((cell_far (p := ⟨gb446, _, none⟩) NB426_446.out _).trans (hHeld.2.2.2.1)))))), ((cell_far (p := ⟨gb446, _, none⟩) NB426_446.out _).trans (((cell_far (p := ⟨gb446, _, none⟩) NB426_446.out _).trans (((cell_far (p := ⟨gb446, _, none⟩) NB426_446.out _).trans (hHeld.2.2.2.2.1)))))), ((cell_far (p := ⟨gb446, _, none⟩) NB426_446.out _).trans (((cell_far (p := ⟨gb446, _, none⟩) NB426_446.out _).trans (((cell_far (p := ⟨gb446, _, none⟩) NB426_446.out _).trans (hHeld.2.2.2.2.2.1)))))), ((cell_far (p := ⟨gb446, _, none⟩) NB426_446.out _).trans (((cell_far (p := ⟨gb446, _, none⟩) NB426_446.out _).trans (((cell_far (p := ⟨gb446, _, none⟩) NB426_446.out _).trans (hHeld.2.2.2.2.2.2.1)))))), ((cell_far (p := ⟨gb446, _, none⟩) NB426_446.out _).trans (((cell_far (p := ⟨gb446, _, none⟩) NB426_446.out _).trans (((cell_far (p := ⟨gb446, _, none⟩) NB426_446.out _).trans (hHeld.2.2.2.2.2.2.2.1)))))), ((cell_far (p := ⟨gb446, _, none⟩) (by first | exact Nat.ne_of_lt (Nat.lt_of_lt_of_le (by have := World.block_lt_of_cell? _ _ hw439_0; first | rwa [add_block] at this | exact this) GW446.out) | (rw [add_block]; exact Nat.ne_of_lt (Nat.lt_of_lt_of_le (by have := World.block_lt_of_cell? _ _ hw439_0; first | rwa [add_block] at this | exact this) GW446.out)) | (show (Addr.add _ _).block ≠ _; rw [add_block]; exact Nat.ne_of_lt (Nat.lt_of_lt_of_le (by have := World.block_lt_of_cell? _ _ hw439_0; first | rwa [add_block] at this | exact this) GW446.out)) | (dsimp only; exact Nat.ne_of_lt (Nat.lt_of_lt_of_le (by have := World.block_lt_of_cell? _ _ hw439_0; first | rwa [add_block] at this | exact this) GW446.out))) _).trans (((cell_far (p := ⟨gb446, _, none⟩) (by first | exact Nat.ne_of_lt (Nat.lt_of_lt_of_le (by have := World.block_lt_of_cell? _ _ hw439_0; first | rwa [add_block] at this | exact this) GW446.out) | (rw [add_block]; exact Nat.ne_of_lt (Nat.lt_of_lt_of_le (by have := World.block_lt_of_cell? _ _ hw439_0; first | rwa [add_block] at this | exact this) GW446.out)) | (show (Addr.add _ _).block ≠ _; rw [add_block]; exact Nat.ne_of_lt (Nat.lt_of_lt_of_le (by have := World.block_lt_of_cell? _ _ hw439_0; first | rwa [add_block] at this | exact this) GW446.out)) | (dsimp only; exact Nat.ne_of_lt (Nat.lt_of_lt_of_le (by have := World.block_lt_of_cell? _ _ hw439_0; first | rwa [add_block] at this | exact this) GW446.out))) _).trans (((cell_far (p := ⟨gb446, _, none⟩) (by first | exact Nat.ne_of_lt (Nat.lt_of_lt_of_le (by have := World.block_lt_of_cell? _ _ hw439_0; first | rwa [add_block] at this | exact this) GW446.out) | (rw [add_block]; exact Nat.ne_of_lt (Nat.lt_of_lt_of_le (by have := World.block_lt_of_cell? _ _ hw439_0; first | rwa [add_block] at this | exact this) GW446.out)) | (show (Addr.add _ _).block ≠ _; rw [add_block]; exact Nat.ne_of_lt (Nat.lt_of_lt_of_le (by have := World.block_lt_of_cell? _ _ hw439_0; first | rwa [add_block] at this | exact this) GW446.out)) | (dsimp only; exact Nat.ne_of_lt (Nat.lt_of_lt_of_le (by have := World.block_lt_of_cell? _ _ hw439_0; first | rwa [add_block] at this | exact this) GW446.out))) _).trans (hHeld.2.2.2.2.2.2.2.2.1)))))), ((cell_far (p := ⟨gb446, _, none⟩) (by first | exact Kd.own_blk (Kd.R_ne HO_6.out BK446.out (by decide)) | (rw [add_block]; exact Kd.own_blk (Kd.R_ne HO_6.out BK446.out (by decide))) | (show (Addr.add _ _).block ≠ _; rw [add_block]; exact Kd.own_blk (Kd.R_ne HO_6.out BK446.out (by decide))) | (dsimp only; exact Kd.own_blk (Kd.R_ne HO_6.out BK446.out (by decide)))) _).trans (((cell_far (p := ⟨gb446, _, none⟩) (by first | exact Kd.own_blk (Kd.R_ne HO_6.out BK446.out (by decide)) | (rw [add_block]; exact Kd.own_blk (Kd.R_ne HO_6.out BK446.out (by decide))) | (show (Addr.add _ _).block ≠ _; rw [add_block]; exact Kd.own_blk (Kd.R_ne HO_6.out BK446.out (by decide))) | (dsimp only; exact Kd.own_blk (Kd.R_ne HO_6.out BK446.out (by decide)))) _).trans (((cell_far (p := ⟨gb446, _, none⟩) (by first | exact Kd.own_blk (Kd.R_ne HO_6.out BK446.out (by decide)) | (rw [add_block]; exact Kd.own_blk (Kd.R_ne HO_6.out BK446.out (by decide))) | (show (Addr.add _ _).block ≠ _; rw [add_block]; exact Kd.own_blk (Kd.R_ne HO_6.out BK446.out (by decide))) | (dsimp only; exact Kd.own_blk (Kd.R_ne HO_6.out BK446.out (by decide)))) _).trans (hHeld.2.2.2.2.2.2.2.2.2.1)))))), ((cell_far (p := ⟨gb446, _, none⟩) (by first | exact Kd.own_blk (Kd.R_ne HO_3.out BK446.out (by decide)) | (rw [add_block]; exact Kd.own_blk (Kd.R_ne HO_3.out BK446.out (by decide))) | (show (Addr.add _ _).block ≠ _; rw [add_block]; exact Kd.own_blk (Kd.R_ne HO_3.out BK446.out (by decide))) | (dsimp only; exact Kd.own_blk (Kd.R_ne HO_3.out BK446.out (by decide)))) _).trans (((cell_far (p := ⟨gb446, _, none⟩) (by first | exact Kd.own_blk (Kd.R_ne HO_3.out BK446.out (by decide)) | (rw [add_block]; exact Kd.own_blk (Kd.R_ne HO_3.out BK446.out (by decide))) | (show (Addr.add _ _).block ≠ _; rw [add_block]; exact Kd.own_blk (Kd.R_ne HO_3.out BK446.out (by decide))) | (dsimp only; exact Kd.own_blk (Kd.R_ne HO_3.out BK446.out (by decide)))) _).trans (((cell_far (p := ⟨gb446, _, none⟩) (by first | exact Kd.own_blk (Kd.R_ne HO_3.out BK446.out (by decide)) | (rw [add_block]; exact Kd.own_blk (Kd.R_ne HO_3.out BK446.out (by decide))) | (show (Addr.add _ _).block ≠ _; rw [add_block]; exact Kd.own_blk (Kd.R_ne HO_3.out BK446.out (by decide))) | (dsimp only; exact Kd.own_blk (Kd.R_ne HO_3.out BK446.out (by decide)))) _).trans (hHeld.2.2.2.2.2.2.2.2.2.2))))))⟩ (fun hHeld => ?_)
         clear hK K
         refine pure_ (i := 20) (N := some 10) (v := ?_) (a' := ?_) (bs 21 2097151) rfl rfl (any_of HT_.out (by kernel_rfl)) (fun _ _ _ h => h) (Or.inl ⟨by rfl, ?_⟩) ?_ ?_
         rotate_left
         · intro w'; go_simp; with_reducible rfl
         rotate_left
         · simp only [Act.put, List.setIfInBounds_toArray, List.set_cons_zero, List.set_cons_succ, i64_w, i32_w]; rfl
         refine done_ (done_of HT_.out (by kernel_rfl)) ?_
         try go_wp2
         have n0_ : Aside0 (Kd.R (Kd.int .i64) 3 (((w42.setCell ⟨gb446, 0, none⟩ (.int .i64 t442)).setCell ⟨gb446, 1, none⟩ (.int .i64 t443)).setCell ⟨gb446, 2, none⟩ (.bool t444)) w.heap.size (fun k_ => some k_ ≠ (.slice (some ad440) t436.length co28 : Value).ownBlock) (.slice (some ad441) y428.length co38) y428) := ⟨by (with_reducible repeat (first | apply Kd.R_alloc | apply Kd.R_drewN | apply Kd.R_drew)); exact Kd.R_mono (Kd.R_far (p := ⟨gb446, 2, none⟩) (Kd.R_far (p := ⟨gb446, 1, none⟩) (Kd.R_far (p := ⟨gb446, 0, none⟩) (Kd.R_types HO_3.out BK446.out (by decide)) (fun _ hk => hk.2) (.int .i64 t442)) (fun _ hk => hk.2) (.int .i64 t443)) (fun _ hk => hk.2) (.bool t444)) (fun _ hk => hk.1)⟩
         have n1_ : Aside0 (Kd.R (Kd.int .i32) 21 (((w42.setCell ⟨gb446, 0, none⟩ (.int .i64 t442)).setCell ⟨gb446, 1, none⟩ (.int .i64 t443)).setCell ⟨gb446, 2, none⟩ (.bool t444)) w.heap.size (fun _ => True) (.slice Ao25 y433.length co25) y433) := ⟨by (with_reducible repeat (first | apply Kd.R_alloc | apply Kd.R_drewN | apply Kd.R_drew)); exact Kd.R_mono (Kd.R_far (p := ⟨gb446, 2, none⟩) (Kd.R_far (p := ⟨gb446, 1, none⟩) (Kd.R_far (p := ⟨gb446, 0, none⟩) (Kd.R_types HO_5.out BK446.out (by decide)) (fun _ hk => hk.2) (.int .i64 t442)) (fun _ hk => hk.2) (.int .i64 t443)) (fun _ hk => hk.2) (.bool t444)) (fun _ hk => trivial)⟩
         have n2_ : Aside0 (Kd.R (Kd.int .i64) 3 (((w42.setCell ⟨gb446, 0, none⟩ (.int .i64 t442)).setCell ⟨gb446, 1, none⟩ (.int .i64 t443)).setCell ⟨gb446, 2, none⟩ (.bool t444)) w.heap.size (fun k_ => some k_ ≠ (.slice (some ad441) y428.length co38 : Value).ownBlock) (.slice (some ad440) t436.length co28) t436) := ⟨by (with_reducible repeat (first | apply Kd.R_alloc | apply Kd.R_drewN | apply Kd.R_drew)); exact Kd.R_mono (Kd.R_far (p := ⟨gb446, 2, none⟩) (Kd.R_far (p := ⟨gb446, 1, none⟩) (Kd.R_far (p := ⟨gb446, 0, none⟩) (Kd.R_types HO_6.out BK446.out (by decide)) (fun _ hk => hk.2) (.int .i64 t442)) (fun _ hk => hk.2) (.int .i64 t443)) (fun _ hk => hk.2) (.bool t444)) (fun _ hk => hk.1)⟩
         have n3_ : Aside0 ((((w42.setCell ⟨gb446, 0, none⟩ (.int .i64 t442)).setCell ⟨gb446, 1, none⟩ (.int .i64 t443)).setCell ⟨gb446, 2, none⟩ (.bool t444)).heap[gb426]? = some (.cells #[.slice (some ad432) l0_0.length c0_0, .int .i64 a0_1, .int .i64 a0_2, .int .i64 a0_3, .int .i64 a0_4, .int .i64 a0_5, .int .i64 a0_6, .int .i64 a0_7] 28 (0, 0))) := ⟨by (with_reducible repeat (first | refine blk_drewN ?_ _ | refine blk_drew ?_ | refine blk_alloc ?_ _)); refine blk_far ?_ NB426_446.out _; (with_reducible repeat (first | refine blk_drewN ?_ _ | refine blk_drew ?_ | refine blk_alloc ?_ _)); refine blk_far ?_ NB426_446.out _; (with_reducible repeat (first | refine blk_drewN ?_ _ | refine blk_drew ?_ | refine blk_alloc ?_ _)); refine blk_far ?_ NB426_446.out _; (with_reducible repeat (first | refine blk_drewN ?_ _ | refine blk_drew ?_ | refine blk_alloc ?_ _)); exact BK426.out⟩
         have n4_ : Aside0 ((((w42.setCell ⟨gb446, 0, none⟩ (.int .i64 t442)).setCell ⟨gb446, 1, none⟩ (.int .i64 t443)).setCell ⟨gb446, 2, none⟩ (.bool t444)).heap[gb446]? = some (.cells #[.int .i64 t442, .int .i64 t443, .bool t444] 35 (0, 0))) := ⟨by (with_reducible repeat (first | refine blk_drewN ?_ _ | refine blk_drew ?_ | refine blk_alloc ?_ _)); refine blk_put (cs := #[.int .i64 t442, .int .i64 t443, .bool false]) ?_ 2 _ rfl; (with_reducible repeat (first | refine blk_drewN ?_ _ | refine blk_drew ?_ | refine blk_alloc ?_ _)); refine blk_put (cs := #[.int .i64 t442, .int .i64 0, .bool false]) ?_ 1 _ rfl; (with_reducible repeat (first | refine blk_drewN ?_ _ | refine blk_drew ?_ | refine blk_alloc ?_ _)); refine blk_put (cs := #[.int .i64 0, .int .i64 0, .bool false]) ?_ 0 _ rfl; (with_reducible repeat (first | refine blk_drewN ?_ _ | refine blk_drew ?_ | refine blk_alloc ?_ _)); exact BK446.out⟩
         have n5_ : Aside0 (Below w.heap.size w (((w42.setCell ⟨gb446, 0, none⟩ (.int .i64 t442)).setCell ⟨gb446, 1, none⟩ (.int .i64 t443)).setCell ⟨gb446, 2, none⟩ (.bool t444))) := ⟨by repeat with_reducible first | exact HB.out | apply pw_below_drewN | refine below_set ?_ GE426.out | refine below_set ?_ GE446.out | apply below_drew1 | apply below_alloc⟩
         (try clear HO_3)
         (try clear HO_5)
         (try clear HO_6)
         (try clear BK426)
         (try clear BK446)
         (try clear HB)
         generalize (((w42.setCell ⟨gb446, 0, none⟩ (.int .i64 t442)).setCell ⟨gb446, 1, none⟩ (.int .i64 t443)).setCell ⟨gb446, 2, none⟩ (.bool t444)) = w46 at n0_ n1_ n2_ n3_ n4_ n5_ ⊢
         have HO_3 := n0_
         have HO_5 := n1_
         have HO_6 := n2_
         have BK426 := n3_
         have BK446 := n4_
         have HB := n5_
         clear n0_ n1_ n2_ n3_ n4_ n5_
         have n0_ := Aside0.mk (Kd.R_drew HO_3.out)
         have n1_ := Aside0.mk (Kd.R_drew HO_5.out)
         have n2_ := Aside0.mk (Kd.R_drew HO_6.out)
         have n3_ := Aside0.mk (blk_drew BK426.out)
         have n4_ := Aside0.mk (blk_drew BK446.out)
         have n5_ := Aside0.mk (below_drew1 HB.out)
         clear HO_3
         clear HO_5
         clear HO_6
         clear BK426
         clear BK446
         clear HB
         have HO_3 := n0_
         have HO_5 := n1_
         have HO_6 := n2_
         have BK426 := n3_
         have BK446 := n4_
         have HB := n5_
         clear n0_ n1_ n2_ n3_ n4_ n5_
         have p447 : 0 ≤ (x4_1 : Int) := of_decide_eq_true (by assumption)
         have q447 : x4_1 < (l0_0.length : Int) := of_decide_eq_true (by assumption)
         obtain ⟨ad447, e447, hx447_0⟩ := Kd.at_string HR0_0.out x4_1 p447 q447
         have hw447_0 := hx447_0
         obtain rfl : ad432 = ad447 := (by injection e447)
         replace hx447_0 := (HB.out.cell (World.block_lt_of_cell? w _ hx447_0)).trans hx447_0
         replace p447 := eq_true p447
         replace q447 := eq_true q447
         have p448 : 0 ≤ (x7_3 : Int) := of_decide_eq_true (by assumption)
         have q448 : x7_3 < (t436.length : Int) := of_decide_eq_true (by assumption)
         obtain ⟨ad448, e448, hx448_0⟩ := Kd.at_int (Kd.R_reads' HO_6.out).2.2 x7_3 p448 q448
         obtain rfl : ad440 = ad448 := (by injection e448)
         replace p448 := eq_true p448
         replace q448 := eq_true q448
         have p449 : 0 ≤ (x8_4 : Int) := of_decide_eq_true (by assumption)
         have q449 : x8_4 < (y428.length : Int) := of_decide_eq_true (by assumption)
         obtain ⟨ad449, e449, hx449_0⟩ := Kd.at_int (Kd.R_reads' HO_3.out).2.2 x8_4 p449 q449
         obtain rfl : ad441 = ad449 := (by injection e449)
         replace p449 := eq_true p449
         replace q449 := eq_true q449
         refine start_ (n := 21) (S := fun w' => w'.cell? ⟨gb426, 0, none⟩ = some (.slice (some ad432) l0_0.length c0_0) ∧ w'.cell? ⟨gb426, 1, none⟩ = some (.int .i64 a0_1) ∧ w'.cell? ⟨gb426, 2, none⟩ = some (.int .i64 a0_2) ∧ w'.cell? ⟨gb426, 3, none⟩ = some (.int .i64 a0_3) ∧ w'.cell? ⟨gb426, 4, none⟩ = some (.int .i64 a0_4) ∧ w'.cell? ⟨gb426, 5, none⟩ = some (.int .i64 a0_5) ∧ w'.cell? ⟨gb426, 6, none⟩ = some (.int .i64 a0_6) ∧ w'.cell? ⟨gb426, 7, none⟩ = some (.int .i64 a0_7) ∧ w'.cell? (ad432.add (x4_1).toNat) = some (.string (rdOf ByteArray.empty l0_0 x4_1)) ∧ w'.cell? (ad440.add (x7_3).toNat) = some (.int .i64 (rd t436 x7_3)) ∧ w'.cell? (ad441.add (x8_4).toNat) = some (.int .i64 (rd y428 x8_4))) (ds := []) (bs 21 0) (by kernel_rfl) rfl rfl ⟨(blk_cell BK426.out 0).trans rfl, (blk_cell BK426.out 1).trans rfl, (blk_cell BK426.out 2).trans rfl, (blk_cell BK426.out 3).trans rfl, (blk_cell BK426.out 4).trans rfl, (blk_cell BK426.out 5).trans rfl, (blk_cell BK426.out 6).trans rfl, (blk_cell BK426.out 7).trans rfl, ((HB.out.cell (World.block_lt_of_cell? w _ hw447_0)).trans hw447_0), hx448_0, hx449_0⟩ (fun hHeld => ?_); refine with_tabW quilllaw15_ObjectWithin.tab16 quilllaw15_ObjectWithin.bits16 (fun HT_ HW_ => ?_)
         generalize w46.drew = w47 at HO_3 HO_5 HO_6 BK426 BK446 HB hx447_0 hx448_0 hx449_0 hHeld ⊢
         refine pure_ (i := 0) (N := some 69) (v := ?_) (a' := ?_) (bs 21 1) rfl rfl (any_of HT_.out (by kernel_rfl)) (fun _ _ _ h => h) (Or.inl ⟨by rfl, ?_⟩) ?_ ?_
         rotate_left
         · intro w'; go_simp; with_reducible rfl
         rotate_left
         · simp only [Act.put, List.setIfInBounds_toArray, List.set_cons_zero, List.set_cons_succ, i64_w, i32_w]; rfl
         refine pure_ (i := 1) (N := some 70) (v := ?_) (a' := ?_) (bs 21 3) rfl rfl (any_of HT_.out (by kernel_rfl)) (fun _ _ _ h => h) (Or.inl ⟨by rfl, ?_⟩) ?_ ?_
         rotate_left
         · intro w'; go_simp; with_reducible rfl
         rotate_left
         · simp only [Act.put, List.setIfInBounds_toArray, List.set_cons_zero, List.set_cons_succ, i64_w, i32_w]; rfl
         refine pure_ (i := 3) (N := some 72) (v := ?_) (a' := ?_) (bs 21 11) rfl rfl (any_of HT_.out (by kernel_rfl)) (fun _ _ _ h => h) (Or.inl ⟨by rfl, ?_⟩) ?_ ?_
         rotate_left
         · intro w'; go_simp; with_reducible rfl
         rotate_left
         · simp only [Act.put, List.setIfInBounds_toArray, List.set_cons_zero, List.set_cons_succ, i64_w, i32_w]; rfl
         refine pure_ (i := 6) (N := some 75) (v := ?_) (a' := ?_) (bs 21 75) rfl rfl (any_of HT_.out (by kernel_rfl)) (fun _ _ _ h => h) (Or.inl ⟨by rfl, ?_⟩) ?_ ?_
         rotate_left
         · intro w'; go_simp; with_reducible rfl
         rotate_left
         · simp only [Act.put, List.setIfInBounds_toArray, List.set_cons_zero, List.set_cons_succ, i64_w, i32_w]; rfl
         refine pure_ (i := 7) (N := some 76) (v := ?_) (a' := ?_) (bs 21 203) rfl rfl (any_of HT_.out (by kernel_rfl)) (fun _ _ _ h => h) (Or.inl ⟨by rfl, ?_⟩) ?_ ?_
         rotate_left
         · intro w'; go_simp; with_reducible rfl
         rotate_left
         · simp only [Act.put, List.setIfInBounds_toArray, List.set_cons_zero, List.set_cons_succ, i64_w, i32_w]; rfl
         refine pure_ (i := 8) (N := some 77) (v := ?_) (a' := ?_) (bs 21 459) rfl rfl (any_of HT_.out (by kernel_rfl)) (fun _ _ _ h => h) (Or.inl ⟨by rfl, ?_⟩) ?_ ?_
         rotate_left
         · intro w'; go_simp; with_reducible rfl
         rotate_left
         · simp only [Act.put, List.setIfInBounds_toArray, List.set_cons_zero, List.set_cons_succ, i64_w, i32_w]; rfl
         refine pure_ (i := 10) (N := some 79) (v := ?_) (a' := ?_) (bs 21 1483) rfl rfl (any_of HT_.out (by kernel_rfl)) (fun _ _ _ h => h) (Or.inl ⟨by rfl, ?_⟩) ?_ ?_
         rotate_left
         · intro w'; go_simp; with_reducible rfl
         rotate_left
         · simp only [Act.put, List.setIfInBounds_toArray, List.set_cons_zero, List.set_cons_succ, i64_w, i32_w]; rfl
         refine pure_ (i := 11) (N := some 80) (v := ?_) (a' := ?_) (bs 21 3531) rfl rfl (any_of HT_.out (by kernel_rfl)) (fun _ _ _ h => h) (Or.inl ⟨by rfl, ?_⟩) ?_ ?_
         rotate_left
         · intro w'; go_simp; with_reducible rfl
         rotate_left
         · simp only [Act.put, List.setIfInBounds_toArray, List.set_cons_zero, List.set_cons_succ, i64_w, i32_w]; rfl
         refine pure_ (i := 12) (N := some 81) (v := ?_) (a' := ?_) (bs 21 7627) rfl rfl (any_of HT_.out (by kernel_rfl)) (fun _ _ _ h => h) (Or.inl ⟨by rfl, ?_⟩) ?_ ?_
         rotate_left
         · intro w'; go_simp; with_reducible rfl
         rotate_left
         · simp only [Act.put, List.setIfInBounds_toArray, List.set_cons_zero, List.set_cons_succ, i64_w, i32_w]; rfl
         refine take_ (i := 2) (N := some 71) (v := ?_) (a' := ?_) (bs 21 7631) rfl rfl (take_ofW HT_.out HW_.out (by kernel_rfl)) (fun _ _ _ h => h) (Or.inl ⟨by rfl, ?_⟩) hHeld ?_ ?_
         rotate_left
         · rintro w' ⟨s0, s1, s2, s3, s4, s5, s6, s7, s8, s9, s10⟩; go_simp; with_reducible rfl
         rotate_left
         · simp only [Act.put, List.setIfInBounds_toArray, List.set_cons_zero, List.set_cons_succ, i64_w, i32_w]; rfl
         refine pure_ (i := 4) (N := some 73) (v := ?_) (a' := ?_) (bs 21 7647) rfl rfl (any_of HT_.out (by kernel_rfl)) (fun _ _ _ h => h) (Or.inl ⟨by rfl, ?_⟩) ?_ ?_
         rotate_left
         · intro w'; go_simp; with_reducible rfl
         rotate_left
         · simp only [Act.put, List.setIfInBounds_toArray, List.set_cons_zero, List.set_cons_succ, i64_w, i32_w]; rfl
         refine take_ (i := 5) (N := some 74) (v := ?_) (a' := ?_) (bs 21 7679) rfl rfl (take_ofW HT_.out HW_.out (by kernel_rfl)) (fun _ _ _ h => h) (Or.inl ⟨by rfl, ?_⟩) hHeld ?_ ?_
         rotate_left
         · rintro w' ⟨s0, s1, s2, s3, s4, s5, s6, s7, s8, s9, s10⟩; go_simp; with_reducible rfl
         rotate_left
         · simp only [Act.put, List.setIfInBounds_toArray, List.set_cons_zero, List.set_cons_succ, i64_w, i32_w]; rfl
         refine take_ (i := 9) (N := some 78) (v := ?_) (a' := ?_) (bs 21 8191) rfl rfl (take_ofW HT_.out HW_.out (by kernel_rfl)) (fun _ _ _ h => h) (Or.inl ⟨by rfl, ?_⟩) hHeld ?_ ?_
         rotate_left
         · rintro w' ⟨s0, s1, s2, s3, s4, s5, s6, s7, s8, s9, s10⟩; go_simp; with_reducible rfl
         rotate_left
         · simp only [Act.put, List.setIfInBounds_toArray, List.set_cons_zero, List.set_cons_succ, i64_w, i32_w]; rfl
         refine take_ (i := 13) (N := some 82) (v := ?_) (a' := ?_) (bs 21 16383) rfl rfl (take_ofW HT_.out HW_.out (by kernel_rfl)) (fun _ _ _ h => h) (Or.inl ⟨by rfl, ?_⟩) hHeld ?_ ?_
         rotate_left
         · rintro w' ⟨s0, s1, s2, s3, s4, s5, s6, s7, s8, s9, s10⟩; go_simp; with_reducible rfl
         rotate_left
         · simp only [Act.put, List.setIfInBounds_toArray, List.set_cons_zero, List.set_cons_succ, i64_w, i32_w]; rfl
         refine join_ (σ := Nat) 2 #[true, true, true, true, true, true, true, true, true, true, true, true, true, true, true, true, true, true, true, false, false] (fun s_ => [(83, .tuple #[.agg #[.int .i64 t450, .int .i64 t451, .bool t452], .int .i64 t453]), (11, .pointer (some ⟨s_, 0, none⟩)), (68, .tuple #[.agg #[.int .i64 t450, .int .i64 t451, .bool t452], .int .i64 t453]), (84, .agg #[.int .i64 t450, .int .i64 t451, .bool t452]), (85, .int .i64 t453)]) (fun s_ w' => (w'.cell? ⟨gb426, 0, none⟩ = some (.slice (some ad432) l0_0.length c0_0) ∧ w'.cell? ⟨gb426, 1, none⟩ = some (.int .i64 a0_1) ∧ w'.cell? ⟨gb426, 2, none⟩ = some (.int .i64 a0_2) ∧ w'.cell? ⟨gb426, 3, none⟩ = some (.int .i64 a0_3) ∧ w'.cell? ⟨gb426, 4, none⟩ = some (.int .i64 a0_4) ∧ w'.cell? ⟨gb426, 5, none⟩ = some (.int .i64 a0_5) ∧ w'.cell? ⟨gb426, 6, none⟩ = some (.int .i64 a0_6) ∧ w'.cell? ⟨gb426, 7, none⟩ = some (.int .i64 a0_7) ∧ w'.cell? (ad432.add (x4_1).toNat) = some (.string (rdOf ByteArray.empty l0_0 x4_1)) ∧ w'.cell? (ad440.add (x7_3).toNat) = some (.int .i64 (rd t436 x7_3)) ∧ w'.cell? (ad441.add (x8_4).toNat) = some (.int .i64 (rd y428 x8_4))) ∧ (Kd.R (Kd.int .i64) 3 w' w.heap.size (fun k_ => some k_ ≠ (.slice (some ad440) t436.length co28 : Value).ownBlock) (.slice (some ad441) y428.length co38) y428) ∧ (Kd.R (Kd.int .i32) 21 w' w.heap.size (fun _ => True) (.slice Ao25 y433.length co25) y433) ∧ (Kd.R (Kd.int .i64) 3 w' w.heap.size (fun k_ => some k_ ≠ (.slice (some ad441) y428.length co38 : Value).ownBlock) (.slice (some ad440) t436.length co28) t436) ∧ (w'.heap[gb426]? = some (.cells #[.slice (some ad432) l0_0.length c0_0, .int .i64 a0_1, .int .i64 a0_2, .int .i64 a0_3, .int .i64 a0_4, .int .i64 a0_5, .int .i64 a0_6, .int .i64 a0_7] 28 (0, 0))) ∧ (w'.heap[gb446]? = some (.cells #[.int .i64 t442, .int .i64 t443, .bool t444] 35 (0, 0))) ∧ (w'.heap[s_]? = some (.cells #[.int .i64 0, .int .i64 0, .bool false] 35 (0, 0))) ∧ (w.heap.size ≤ s_) ∧ (w.heap.size ≤ s_) ∧ (gb426 ≠ s_) ∧ (s_ ≠ gb426) ∧ (gb446 ≠ s_) ∧ (s_ ≠ gb446) ∧ (Below w.heap.size w w')) ?_ ?_
         rotate_left
         ·
          intro hCont
          refine two_ (i := 14) (j := 18) (Ni := some 83) (Nj := some 11) #[true, true, true, true, true, true, true, true, true, true, true, true, true, true, true, false, false, false, false, false, false] (bs 21 278527) rfl rfl rfl rfl (two_of HT_.out (by kernel_rfl)) (by decide) (by decide) (fun K hK => ?_) (fun K hK => ?_)
          ·
           skip
           refine goes_ Tryd.func15 (by kernel_rfl) rfl #[.string (rdOf ByteArray.empty l0_0 x4_1), .int .i64 (rd t436 x7_3), .int .i64 97, .int .i64 (rd y428 x8_4), .int .i64 1] (by rfl) rfl rfl (by (try simp only [List.map_toArray, List.map_cons, List.map_nil]); first | done | rfl | (simp only [List.length_drop, List.length_take]; rfl)) ?_
           with_reducible refine (object_Piece.calls k4 (rdOf ByteArray.empty l0_0 x4_1) (rd t436 x7_3) 97 (rd y428 x8_4) 1 t450 t451 t452 t453 _ ?side1 A36.out).mono ?_
           (case side1 => exact Tabs.below HT.out (by repeat with_reducible first | exact HB.out | apply pw_below_drewN | refine below_set ?_ GE426.out | refine below_set ?_ GE446.out | apply below_drew1 | apply below_alloc))
           rintro e w48 ⟨rfl, hb⟩
           have HS9_ := (hb.cell (World.block_lt_of_cell? _ _ (hHeld.2.2.2.2.2.2.2.2.2.1))).trans (hHeld.2.2.2.2.2.2.2.2.2.1)
           have HS10_ := (hb.cell (World.block_lt_of_cell? _ _ (hHeld.2.2.2.2.2.2.2.2.2.2))).trans (hHeld.2.2.2.2.2.2.2.2.2.2)
           refine ⟨_, rfl, ?_⟩
           have n0_ := Aside0.mk (Kd.R_below (by (with_reducible repeat (first | apply Kd.R_alloc | apply Kd.R_drewN | apply Kd.R_drew)); exact HO_3.out) hb)
           have n1_ := Aside0.mk (Kd.R_below (by (with_reducible repeat (first | apply Kd.R_alloc | apply Kd.R_drewN | apply Kd.R_drew)); exact HO_5.out) hb)
           have n2_ := Aside0.mk (Kd.R_below (by (with_reducible repeat (first | apply Kd.R_alloc | apply Kd.R_drewN | apply Kd.R_drew)); exact HO_6.out) hb)
           have n3_ := Aside0.mk (blb hb BK426.out)
           have n4_ := Aside0.mk (blb hb BK446.out)
           have n5_ := Aside0.mk (below_step (by repeat with_reducible first | exact HB.out | apply pw_below_drewN | refine below_set ?_ GE426.out | refine below_set ?_ GE446.out | apply below_drew1 | apply below_alloc) hb)
           clear HO_3
           clear HO_5
           clear HO_6
           clear BK426
           clear BK446
           clear HB
           have HO_3 := n0_
           have HO_5 := n1_
           have HO_6 := n2_
           have BK426 := n3_
           have BK446 := n4_
           have HB := n5_
           clear n0_ n1_ n2_ n3_ n4_ n5_
           (try clear hb)
           (try clear hb2)
           (try clear hk)
           (try clear hi)
           refine hK.out _ _ ⟨(blk_cell BK426.out 0).trans rfl, (blk_cell BK426.out 1).trans rfl, (blk_cell BK426.out 2).trans rfl, (blk_cell BK426.out 3).trans rfl, (blk_cell BK426.out 4).trans rfl, (blk_cell BK426.out 5).trans rfl, (blk_cell BK426.out 6).trans rfl, (blk_cell BK426.out 7).trans rfl, ((HB.out.cell (World.block_lt_of_cell? w _ hw447_0)).trans hw447_0), HS9_, HS10_⟩ (fun hHeld => ?_)
           clear hK K
           refine norm_ (a' := ?_) ?_ ?_
           rotate_left
           · show Act.put _ (some 83) _ = _; simp only [Act.put, List.setIfInBounds_toArray, List.set_cons_zero, List.set_cons_succ, i64_w, i32_w]; rfl
           refine pure_ (i := 15) (N := some 68) (v := ?_) (a' := ?_) (bs 21 65535) rfl rfl (any_of HT_.out (by kernel_rfl)) (fun _ _ _ h => h) (Or.inl ⟨by rfl, ?_⟩) ?_ ?_
           rotate_left
           · intro w'; go_simp; with_reducible rfl
           rotate_left
           · simp only [Act.put, List.setIfInBounds_toArray, List.set_cons_zero, List.set_cons_succ, i64_w, i32_w]; rfl
           refine pure_ (i := 16) (N := some 84) (v := ?_) (a' := ?_) (bs 21 131071) rfl rfl (any_of HT_.out (by kernel_rfl)) (fun _ _ _ h => h) (Or.inl ⟨by rfl, ?_⟩) ?_ ?_
           rotate_left
           · intro w'; go_simp; with_reducible rfl
           rotate_left
           · simp only [Act.put, List.setIfInBounds_toArray, List.set_cons_zero, List.set_cons_succ, i64_w, i32_w]; rfl
           refine pure_ (i := 17) (N := some 85) (v := ?_) (a' := ?_) (bs 21 262143) rfl rfl (any_of HT_.out (by kernel_rfl)) (fun _ _ _ h => h) (Or.inl ⟨by rfl, ?_⟩) ?_ ?_
           rotate_left
           · intro w'; go_simp; with_reducible rfl
           rotate_left
           · simp only [Act.put, List.setIfInBounds_toArray, List.set_cons_zero, List.set_cons_succ, i64_w, i32_w]; rfl
           refine one_ (i := 18) (N := some 11) (bs 21 524287) rfl rfl (one_of HT_.out (by kernel_rfl)) (by decide) (fun K hK => ?_)
           refine box_step ?hg (N := 11) ?hd (cs := #[.int .i64 0, .int .i64 0, .bool false]) (t := 35) ?hr ?_; (case hd => rfl); (case hg => rfl); (case hr => first | (go_simp; done) | (go_simp; rfl))
           intro gb454 hg w49 hbox hb
           have HS9_ := (hb.cell (World.block_lt_of_cell? _ _ (hHeld.2.2.2.2.2.2.2.2.2.1))).trans (hHeld.2.2.2.2.2.2.2.2.2.1)
           have HS10_ := (hb.cell (World.block_lt_of_cell? _ _ (hHeld.2.2.2.2.2.2.2.2.2.2))).trans (hHeld.2.2.2.2.2.2.2.2.2.2)
           have n0_ := Aside0.mk (Kd.R_below (by (with_reducible repeat (first | apply Kd.R_alloc | apply Kd.R_drewN | apply Kd.R_drew)); exact HO_3.out) hb)
           have n1_ := Aside0.mk (Kd.R_below (by (with_reducible repeat (first | apply Kd.R_alloc | apply Kd.R_drewN | apply Kd.R_drew)); exact HO_5.out) hb)
           have n2_ := Aside0.mk (Kd.R_below (by (with_reducible repeat (first | apply Kd.R_alloc | apply Kd.R_drewN | apply Kd.R_drew)); exact HO_6.out) hb)
           have n3_ := Aside0.mk (blb hb BK426.out)
           have n4_ := Aside0.mk (blb hb BK446.out)
           have n5_ := Aside0.mk (below_step (by repeat with_reducible first | exact HB.out | apply pw_below_drewN | refine below_set ?_ GE426.out | refine below_set ?_ GE446.out | apply below_drew1 | apply below_alloc) hb)
           have n6_ := Aside0.mk (hbox)
           have n7_ := Aside0.mk (geb hg (by repeat with_reducible first | exact HB.out | apply pw_below_drewN | refine below_set ?_ GE426.out | refine below_set ?_ GE446.out | apply below_drew1 | apply below_alloc))
           have n8_ := Aside0.mk (geb hg (by repeat with_reducible first | exact HB.out | apply pw_below_drewN | refine below_set ?_ GE426.out | refine below_set ?_ GE446.out | apply below_drew1 | apply below_alloc))
           have n9_ := Aside0.mk ((nbl hg BK426.out))
           have n10_ := Aside0.mk ((nbr hg BK426.out))
           have n11_ := Aside0.mk ((nbl hg BK446.out))
           have n12_ := Aside0.mk ((nbr hg BK446.out))
           clear HO_3
           clear HO_5
           clear HO_6
           clear BK426
           clear BK446
           clear HB
           have HO_3 := n0_
           have HO_5 := n1_
           have HO_6 := n2_
           have BK426 := n3_
           have BK446 := n4_
           have HB := n5_
           have BK454 := n6_
           have GW454 := n7_
           have GE454 := n8_
           have NB426_454 := n9_
           have NB454_426 := n10_
           have NB446_454 := n11_
           have NB454_446 := n12_
           clear n0_ n1_ n2_ n3_ n4_ n5_ n6_ n7_ n8_ n9_ n10_ n11_ n12_
           clear hb hbox hg
           refine hK.out _ _ ⟨(blk_cell BK426.out 0).trans rfl, (blk_cell BK426.out 1).trans rfl, (blk_cell BK426.out 2).trans rfl, (blk_cell BK426.out 3).trans rfl, (blk_cell BK426.out 4).trans rfl, (blk_cell BK426.out 5).trans rfl, (blk_cell BK426.out 6).trans rfl, (blk_cell BK426.out 7).trans rfl, ((HB.out.cell (World.block_lt_of_cell? w _ hw447_0)).trans hw447_0), HS9_, HS10_⟩ (fun hHeld => ?_)
           clear hK K
           refine norm_ (a' := ?_) ?_ ?_
           rotate_left
           · show Act.put _ (some 11) _ = _; simp only [Act.put, List.setIfInBounds_toArray, List.set_cons_zero, List.set_cons_succ, i64_w, i32_w]; rfl
           exact norm_ (by simp only [putAll, Act.put, List.setIfInBounds_toArray, List.set_cons_zero, List.set_cons_succ]) (hCont (gb454) _ ⟨hHeld, (by (with_reducible repeat (first | apply Kd.R_alloc | apply Kd.R_drewN | apply Kd.R_drew)); exact HO_3.out), (by (with_reducible repeat (first | apply Kd.R_alloc | apply Kd.R_drewN | apply Kd.R_drew)); exact HO_5.out), (by (with_reducible repeat (first | apply Kd.R_alloc | apply Kd.R_drewN | apply Kd.R_drew)); exact HO_6.out), (by exact BK426.out), (by exact BK446.out), (by exact BK454.out), GW454.out, GE454.out, NB426_454.out, NB454_426.out, NB446_454.out, NB454_446.out, (by repeat with_reducible first | exact HB.out | apply pw_below_drewN | refine below_set ?_ GE426.out | refine below_set ?_ GE446.out | refine below_set ?_ GE454.out | apply below_drew1 | apply below_alloc)⟩)
          skip
          refine box_step ?hg (N := 11) ?hd (cs := #[.int .i64 0, .int .i64 0, .bool false]) (t := 35) ?hr ?_; (case hd => rfl); (case hg => rfl); (case hr => first | (go_simp; done) | (go_simp; rfl))
          intro gb454 hg w48 hbox hb
          have HS9_ := (hb.cell (World.block_lt_of_cell? _ _ (hHeld.2.2.2.2.2.2.2.2.2.1))).trans (hHeld.2.2.2.2.2.2.2.2.2.1)
          have HS10_ := (hb.cell (World.block_lt_of_cell? _ _ (hHeld.2.2.2.2.2.2.2.2.2.2))).trans (hHeld.2.2.2.2.2.2.2.2.2.2)
          have n0_ := Aside0.mk (Kd.R_below (by (with_reducible repeat (first | apply Kd.R_alloc | apply Kd.R_drewN | apply Kd.R_drew)); exact HO_3.out) hb)
          have n1_ := Aside0.mk (Kd.R_below (by (with_reducible repeat (first | apply Kd.R_alloc | apply Kd.R_drewN | apply Kd.R_drew)); exact HO_5.out) hb)
          have n2_ := Aside0.mk (Kd.R_below (by (with_reducible repeat (first | apply Kd.R_alloc | apply Kd.R_drewN | apply Kd.R_drew)); exact HO_6.out) hb)
          have n3_ := Aside0.mk (blb hb BK426.out)
          have n4_ := Aside0.mk (blb hb BK446.out)
          have n5_ := Aside0.mk (below_step (by repeat with_reducible first | exact HB.out | apply pw_below_drewN | refine below_set ?_ GE426.out | refine below_set ?_ GE446.out | apply below_drew1 | apply below_alloc) hb)
          have n6_ := Aside0.mk (hbox)
          have n7_ := Aside0.mk (geb hg (by repeat with_reducible first | exact HB.out | apply pw_below_drewN | refine below_set ?_ GE426.out | refine below_set ?_ GE446.out | apply below_drew1 | apply below_alloc))
          have n8_ := Aside0.mk (geb hg (by repeat with_reducible first | exact HB.out | apply pw_below_drewN | refine below_set ?_ GE426.out | refine below_set ?_ GE446.out | apply below_drew1 | apply below_alloc))
          have n9_ := Aside0.mk ((nbl hg BK426.out))
          have n10_ := Aside0.mk ((nbr hg BK426.out))
          have n11_ := Aside0.mk ((nbl hg BK446.out))
          have n12_ := Aside0.mk ((nbr hg BK446.out))
          clear HO_3
          clear HO_5
          clear HO_6
          clear BK426
          clear BK446
          clear HB
          have HO_3 := n0_
          have HO_5 := n1_
          have HO_6 := n2_
          have BK426 := n3_
          have BK446 := n4_
          have HB := n5_
          have BK454 := n6_
          have GW454 := n7_
          have GE454 := n8_
          have NB426_454 := n9_
          have NB454_426 := n10_
          have NB446_454 := n11_
          have NB454_446 := n12_
          clear n0_ n1_ n2_ n3_ n4_ n5_ n6_ n7_ n8_ n9_ n10_ n11_ n12_
          clear hb hbox hg
          refine hK.out _ _ ⟨(blk_cell BK426.out 0).trans rfl, (blk_cell BK426.out 1).trans rfl, (blk_cell BK426.out 2).trans rfl, (blk_cell BK426.out 3).trans rfl, (blk_cell BK426.out 4).trans rfl, (blk_cell BK426.out 5).trans rfl, (blk_cell BK426.out 6).trans rfl, (blk_cell BK426.out 7).trans rfl, ((HB.out.cell (World.block_lt_of_cell? w _ hw447_0)).trans hw447_0), HS9_, HS10_⟩ (fun hHeld => ?_)
          clear hK K
          refine norm_ (a' := ?_) ?_ ?_
          rotate_left
          · show Act.put _ (some 11) _ = _; simp only [Act.put, List.setIfInBounds_toArray, List.set_cons_zero, List.set_cons_succ, i64_w, i32_w]; rfl
          refine one_ (i := 14) (N := some 83) (bs 21 294911) rfl rfl (one_of HT_.out (by kernel_rfl)) (by decide) (fun K hK => ?_)
          refine goes_ Tryd.func15 (by kernel_rfl) rfl #[.string (rdOf ByteArray.empty l0_0 x4_1), .int .i64 (rd t436 x7_3), .int .i64 97, .int .i64 (rd y428 x8_4), .int .i64 1] (by rfl) rfl rfl (by (try simp only [List.map_toArray, List.map_cons, List.map_nil]); first | done | rfl | (simp only [List.length_drop, List.length_take]; rfl)) ?_
          with_reducible refine (object_Piece.calls k4 (rdOf ByteArray.empty l0_0 x4_1) (rd t436 x7_3) 97 (rd y428 x8_4) 1 t450 t451 t452 t453 _ ?side1 A36.out).mono ?_
          (case side1 => exact Tabs.below HT.out (by repeat with_reducible first | exact HB.out | apply pw_below_drewN | refine below_set ?_ GE426.out | refine below_set ?_ GE446.out | refine below_set ?_ GE454.out | apply below_drew1 | apply below_alloc))
          rintro e w49 ⟨rfl, hb⟩
          have HS9_ := (hb.cell (World.block_lt_of_cell? _ _ (hHeld.2.2.2.2.2.2.2.2.2.1))).trans (hHeld.2.2.2.2.2.2.2.2.2.1)
          have HS10_ := (hb.cell (World.block_lt_of_cell? _ _ (hHeld.2.2.2.2.2.2.2.2.2.2))).trans (hHeld.2.2.2.2.2.2.2.2.2.2)
          refine ⟨_, rfl, ?_⟩
          have n0_ := Aside0.mk (Kd.R_below (by (with_reducible repeat (first | apply Kd.R_alloc | apply Kd.R_drewN | apply Kd.R_drew)); exact HO_3.out) hb)
          have n1_ := Aside0.mk (Kd.R_below (by (with_reducible repeat (first | apply Kd.R_alloc | apply Kd.R_drewN | apply Kd.R_drew)); exact HO_5.out) hb)
          have n2_ := Aside0.mk (Kd.R_below (by (with_reducible repeat (first | apply Kd.R_alloc | apply Kd.R_drewN | apply Kd.R_drew)); exact HO_6.out) hb)
          have n3_ := Aside0.mk (blb hb BK426.out)
          have n4_ := Aside0.mk (blb hb BK446.out)
          have n5_ := Aside0.mk (blb hb BK454.out)
          have n6_ := Aside0.mk (below_step (by repeat with_reducible first | exact HB.out | apply pw_below_drewN | refine below_set ?_ GE426.out | refine below_set ?_ GE446.out | refine below_set ?_ GE454.out | apply below_drew1 | apply below_alloc) hb)
          clear HO_3
          clear HO_5
          clear HO_6
          clear BK426
          clear BK446
          clear BK454
          clear HB
          have HO_3 := n0_
          have HO_5 := n1_
          have HO_6 := n2_
          have BK426 := n3_
          have BK446 := n4_
          have BK454 := n5_
          have HB := n6_
          clear n0_ n1_ n2_ n3_ n4_ n5_ n6_
          (try clear hb)
          (try clear hb2)
          (try clear hk)
          (try clear hi)
          refine hK.out _ _ ⟨(blk_cell BK426.out 0).trans rfl, (blk_cell BK426.out 1).trans rfl, (blk_cell BK426.out 2).trans rfl, (blk_cell BK426.out 3).trans rfl, (blk_cell BK426.out 4).trans rfl, (blk_cell BK426.out 5).trans rfl, (blk_cell BK426.out 6).trans rfl, (blk_cell BK426.out 7).trans rfl, ((HB.out.cell (World.block_lt_of_cell? w _ hw447_0)).trans hw447_0), HS9_, HS10_⟩ (fun hHeld => ?_)
          clear hK K
          refine norm_ (a' := ?_) ?_ ?_
          rotate_left
          · show Act.put _ (some 83) _ = _; simp only [Act.put, List.setIfInBounds_toArray, List.set_cons_zero, List.set_cons_succ, i64_w, i32_w]; rfl
          refine pure_ (i := 15) (N := some 68) (v := ?_) (a' := ?_) (bs 21 327679) rfl rfl (any_of HT_.out (by kernel_rfl)) (fun _ _ _ h => h) (Or.inl ⟨by rfl, ?_⟩) ?_ ?_
          rotate_left
          · intro w'; go_simp; with_reducible rfl
          rotate_left
          · simp only [Act.put, List.setIfInBounds_toArray, List.set_cons_zero, List.set_cons_succ, i64_w, i32_w]; rfl
          refine pure_ (i := 16) (N := some 84) (v := ?_) (a' := ?_) (bs 21 393215) rfl rfl (any_of HT_.out (by kernel_rfl)) (fun _ _ _ h => h) (Or.inl ⟨by rfl, ?_⟩) ?_ ?_
          rotate_left
          · intro w'; go_simp; with_reducible rfl
          rotate_left
          · simp only [Act.put, List.setIfInBounds_toArray, List.set_cons_zero, List.set_cons_succ, i64_w, i32_w]; rfl
          refine pure_ (i := 17) (N := some 85) (v := ?_) (a' := ?_) (bs 21 524287) rfl rfl (any_of HT_.out (by kernel_rfl)) (fun _ _ _ h => h) (Or.inl ⟨by rfl, ?_⟩) ?_ ?_
          rotate_left
          · intro w'; go_simp; with_reducible rfl
          rotate_left
          · simp only [Act.put, List.setIfInBounds_toArray, List.set_cons_zero, List.set_cons_succ, i64_w, i32_w]; rfl
          exact norm_ (by simp only [putAll, Act.put, List.setIfInBounds_toArray, List.set_cons_zero, List.set_cons_succ]) (hCont (gb454) _ ⟨hHeld, (by (with_reducible repeat (first | apply Kd.R_alloc | apply Kd.R_drewN | apply Kd.R_drew)); exact HO_3.out), (by (with_reducible repeat (first | apply Kd.R_alloc | apply Kd.R_drewN | apply Kd.R_drew)); exact HO_5.out), (by (with_reducible repeat (first | apply Kd.R_alloc | apply Kd.R_drewN | apply Kd.R_drew)); exact HO_6.out), (by exact BK426.out), (by exact BK446.out), (by exact BK454.out), GW454.out, GE454.out, NB426_454.out, NB454_426.out, NB446_454.out, NB454_446.out, (by repeat with_reducible first | exact HB.out | apply pw_below_drewN | refine below_set ?_ GE426.out | refine below_set ?_ GE446.out | refine below_set ?_ GE454.out | apply below_drew1 | apply below_alloc)⟩)
         rintro gb454 w50 ⟨hS_, h0_, h1_, h2_, h3_, h4_, h5_, h6_, h7_, h8_, h9_, h10_, h11_, h12_⟩
         have n0_ : Aside0 (Kd.R (Kd.int .i64) 3 w50 w.heap.size (fun k_ => some k_ ≠ (.slice (some ad440) t436.length co28 : Value).ownBlock) (.slice (some ad441) y428.length co38) y428) := ⟨h0_⟩
         have n1_ : Aside0 (Kd.R (Kd.int .i32) 21 w50 w.heap.size (fun _ => True) (.slice Ao25 y433.length co25) y433) := ⟨h1_⟩
         have n2_ : Aside0 (Kd.R (Kd.int .i64) 3 w50 w.heap.size (fun k_ => some k_ ≠ (.slice (some ad441) y428.length co38 : Value).ownBlock) (.slice (some ad440) t436.length co28) t436) := ⟨h2_⟩
         have n3_ : Aside0 (w50.heap[gb426]? = some (.cells #[.slice (some ad432) l0_0.length c0_0, .int .i64 a0_1, .int .i64 a0_2, .int .i64 a0_3, .int .i64 a0_4, .int .i64 a0_5, .int .i64 a0_6, .int .i64 a0_7] 28 (0, 0))) := ⟨h3_⟩
         have n4_ : Aside0 (w50.heap[gb446]? = some (.cells #[.int .i64 t442, .int .i64 t443, .bool t444] 35 (0, 0))) := ⟨h4_⟩
         have n5_ : Aside0 (w50.heap[gb454]? = some (.cells #[.int .i64 0, .int .i64 0, .bool false] 35 (0, 0))) := ⟨h5_⟩
         have n6_ : Aside0 (w.heap.size ≤ gb454) := ⟨h6_⟩
         have n7_ : Aside0 (w.heap.size ≤ gb454) := ⟨h7_⟩
         have n8_ : Aside0 (gb426 ≠ gb454) := ⟨h8_⟩
         have n9_ : Aside0 (gb454 ≠ gb426) := ⟨h9_⟩
         have n10_ : Aside0 (gb446 ≠ gb454) := ⟨h10_⟩
         have n11_ : Aside0 (gb454 ≠ gb446) := ⟨h11_⟩
         have n12_ : Aside0 (Below w.heap.size w w50) := ⟨h12_⟩
         clear HO_3
         clear HO_5
         clear HO_6
         clear BK426
         clear BK446
         clear HB
         clear h0_ h1_ h2_ h3_ h4_ h5_ h6_ h7_ h8_ h9_ h10_ h11_ h12_
         have HO_3 := n0_
         have HO_5 := n1_
         have HO_6 := n2_
         have BK426 := n3_
         have BK446 := n4_
         have BK454 := n5_
         have GW454 := n6_
         have GE454 := n7_
         have NB426_454 := n8_
         have NB454_426 := n9_
         have NB446_454 := n10_
         have NB454_446 := n11_
         have HB := n12_
         clear n0_ n1_ n2_ n3_ n4_ n5_ n6_ n7_ n8_ n9_ n10_ n11_ n12_
         have hHeld : w50.cell? ⟨gb426, 0, none⟩ = some (.slice (some ad432) l0_0.length c0_0) ∧ w50.cell? ⟨gb426, 1, none⟩ = some (.int .i64 a0_1) ∧ w50.cell? ⟨gb426, 2, none⟩ = some (.int .i64 a0_2) ∧ w50.cell? ⟨gb426, 3, none⟩ = some (.int .i64 a0_3) ∧ w50.cell? ⟨gb426, 4, none⟩ = some (.int .i64 a0_4) ∧ w50.cell? ⟨gb426, 5, none⟩ = some (.int .i64 a0_5) ∧ w50.cell? ⟨gb426, 6, none⟩ = some (.int .i64 a0_6) ∧ w50.cell? ⟨gb426, 7, none⟩ = some (.int .i64 a0_7) ∧ w50.cell? (ad432.add (x4_1).toNat) = some (.string (rdOf ByteArray.empty l0_0 x4_1)) ∧ w50.cell? (ad440.add (x7_3).toNat) = some (.int .i64 (rd t436 x7_3)) ∧ w50.cell? (ad441.add (x8_4).toNat) = some (.int .i64 (rd y428 x8_4)) := hS_
         refine norm_ (a' := ?_) ?_ ?_
         rotate_left
         ·
          simp only [putAll, Act.put, List.setIfInBounds_toArray, List.set_cons_zero, List.set_cons_succ]
          rfl
         refine one_ (i := 19) (N := none) (bs 21 1048575) rfl rfl (one_of HT_.out (by kernel_rfl)) (by decide) (fun K hK => ?_)
         have hs51 := cz0 BK454.out
         have hfs51 := blk_frozen BK454.out 0
         have hns51_0 := NB426_454.out
         have hns51_1 := NB446_454.out
         have hms51_0 := NB454_426.out
         have hms51_1 := NB454_446.out
         have hs52 := cz1 BK454.out
         have hfs52 := blk_frozen BK454.out 1
         have hns52_0 := NB426_454.out
         have hns52_1 := NB446_454.out
         have hms52_0 := NB454_426.out
         have hms52_1 := NB454_446.out
         have hs53 := cz2 BK454.out
         have hfs53 := blk_frozen BK454.out 2
         have hns53_0 := NB426_454.out
         have hns53_1 := NB446_454.out
         have hms53_0 := NB454_426.out
         have hms53_1 := NB454_446.out
         refine skip_ (w1 := ?_) (by rfl) rfl ?_ ?_
         rotate_left
         ·
          go_simp
          rfl
         refine hK.out _ _ ⟨((cell_far (p := ⟨gb454, _, none⟩) NB426_454.out _).trans (((cell_far (p := ⟨gb454, _, none⟩) NB426_454.out _).trans (((cell_far (p := ⟨gb454, _, none⟩) NB426_454.out _).trans (hHeld.1)))))), ((cell_far (p := ⟨gb454, _, none⟩) NB426_454.out _).trans (((cell_far (p := ⟨gb454, _, none⟩) NB426_454.out _).trans (((cell_far (p := ⟨gb454, _, none⟩) NB426_454.out _).trans (hHeld.2.1)))))), ((cell_far (p := ⟨gb454, _, none⟩) NB426_454.out _).trans (((cell_far (p := ⟨gb454, _, none⟩) NB426_454.out _).trans (((cell_far (p := ⟨gb454, _, none⟩) NB426_454.out _).trans (hHeld.2.2.1)))))), ((cell_far (p := ⟨gb454, _, none⟩) NB426_454.out _).trans (((cell_far (p := ⟨gb454, _, none⟩) NB426_454.out _).trans (((cell_far (p := ⟨gb454, _, none⟩) NB426_454.out _).trans (hHeld.2.2.2.1)))))), ((cell_far (p := ⟨gb454, _, none⟩) NB426_454.out _).trans (((cell_far (p := ⟨gb454, _, none⟩) NB426_454.out _).trans (((cell_far (p := ⟨gb454, _, none⟩) NB426_454.out _).trans (hHeld.2.2.2.2.1)))))), ((cell_far (p := ⟨gb454, _, none⟩) NB426_454.out _).trans (((cell_far (p := ⟨gb454, _, none⟩) NB426_454.out _).trans (((cell_far (p := ⟨gb454, _, none⟩) NB426_454.out _).trans (hHeld.2.2.2.2.2.1)))))), ((cell_far (p := ⟨gb454, _, none⟩) NB426_454.out _).trans (((cell_far (p := ⟨gb454, _, none⟩) NB426_454.out _).trans (((cell_far (p := ⟨gb454, _, none⟩) NB426_454.out _).trans (hHeld.2.2.2.2.2.2.1)))))), ((cell_far (p := ⟨gb454, _, none⟩) NB426_454.out _).trans (((cell_far (p := ⟨gb454, _, none⟩) NB426_454.out _).trans (((cell_far (p := ⟨gb454, _, none⟩) NB426_454.out _).trans (hHeld.2.2.2.2.2.2.2.1)))))), ((cell_far (p := ⟨gb454, _, none⟩) (by first | exact Nat.ne_of_lt (Nat.lt_of_lt_of_le (by have := World.block_lt_of_cell? _ _ hw447_0; first | rwa [add_block] at this | exact this) GW454.out) | (rw [add_block]; exact Nat.ne_of_lt (Nat.lt_of_lt_of_le (by have := World.block_lt_of_cell? _ _ hw447_0; first | rwa [add_block] at this | exact this) GW454.out)) | (show (Addr.add _ _).block ≠ _; rw [add_block]; exact Nat.ne_of_lt (Nat.lt_of_lt_of_le (by have := World.block_lt_of_cell? _ _ hw447_0; first | rwa [add_block] at this | exact this) GW454.out)) | (dsimp only; exact Nat.ne_of_lt (Nat.lt_of_lt_of_le (by have := World.block_lt_of_cell? _ _ hw447_0; first | rwa [add_block] at this | exact this) GW454.out))) _).trans (((cell_far (p := ⟨gb454, _, none⟩) (by first | exact Nat.ne_of_lt (Nat.lt_of_lt_of_le (by have := World.block_lt_of_cell? _ _ hw447_0; first | rwa [add_block] at this | exact this) GW454.out) | (rw [add_block]; exact Nat.ne_of_lt (Nat.lt_of_lt_of_le (by have := World.block_lt_of_cell? _ _ hw447_0; first | rwa [add_block] at this | exact this) GW454.out)) | (show (Addr.add _ _).block ≠ _; rw [add_block]; exact Nat.ne_of_lt (Nat.lt_of_lt_of_le (by have := World.block_lt_of_cell? _ _ hw447_0; first | rwa [add_block] at this | exact this) GW454.out)) | (dsimp only; exact Nat.ne_of_lt (Nat.lt_of_lt_of_le (by have := World.block_lt_of_cell? _ _ hw447_0; first | rwa [add_block] at this | exact this) GW454.out))) _).trans (((cell_far (p := ⟨gb454, _, none⟩) (by first | exact Nat.ne_of_lt (Nat.lt_of_lt_of_le (by have := World.block_lt_of_cell? _ _ hw447_0; first | rwa [add_block] at this | exact this) GW454.out) | (rw [add_block]; exact Nat.ne_of_lt (Nat.lt_of_lt_of_le (by have := World.block_lt_of_cell? _ _ hw447_0; first | rwa [add_block] at this | exact this) GW454.out)) | (show (Addr.add _ _).block ≠ _; rw [add_block]; exact Nat.ne_of_lt (Nat.lt_of_lt_of_le (by have := World.block_lt_of_cell? _ _ hw447_0; first | rwa [add_block] at this | exact this) GW454.out)) | (dsimp only; exact Nat.ne_of_lt (Nat.lt_of_lt_of_le (by have := World.block_lt_of_cell? _ _ hw447_0; first | rwa [add_block] at this | exact this) GW454.out))) _).trans (hHeld.2.2.2.2.2.2.2.2.1)))))), ((cell_far (p := ⟨gb454, _, none⟩) (by first | exact Kd.own_blk (Kd.R_ne HO_6.out BK454.out (by decide)) | (rw [add_block]; exact Kd.own_blk (Kd.R_ne HO_6.out BK454.out (by decide))) | (show (Addr.add _ _).block ≠ _; rw [add_block]; exact Kd.own_blk (Kd.R_ne HO_6.out BK454.out (by decide))) | (dsimp only; exact Kd.own_blk (Kd.R_ne HO_6.out BK454.out (by decide)))) _).trans (((cell_far (p := ⟨gb454, _, none⟩) (by first | exact Kd.own_blk (Kd.R_ne HO_6.out BK454.out (by decide)) | (rw [add_block]; exact Kd.own_blk (Kd.R_ne HO_6.out BK454.out (by decide))) | (show (Addr.add _ _).block ≠ _; rw [add_block]; exact Kd.own_blk (Kd.R_ne HO_6.out BK454.out (by decide))) | (dsimp only; exact Kd.own_blk (Kd.R_ne HO_6.out BK454.out (by decide)))) _).trans (((cell_far (p := ⟨gb454, _, none⟩) (by first | exact Kd.own_blk (Kd.R_ne HO_6.out BK454.out (by decide)) | (rw [add_block]; exact Kd.own_blk (Kd.R_ne HO_6.out BK454.out (by decide))) | (show (Addr.add _ _).block ≠ _; rw [add_block]; exact Kd.own_blk (Kd.R_ne HO_6.out BK454.out (by decide))) | (dsimp only; exact Kd.own_blk (Kd.R_ne HO_6.out BK454.out (by decide)))) _).trans (hHeld.2.2.2.2.2.2.2.2.2.1)))))), ((cell_far (p := ⟨gb454, _, none⟩) (by first | exact Kd.own_blk (Kd.R_ne HO_3.out BK454.out (by decide)) | (rw [add_block]; exact Kd.own_blk (Kd.R_ne HO_3.out BK454.out (by decide))) | (show (Addr.add _ _).block ≠ _; rw [add_block]; exact Kd.own_blk (Kd.R_ne HO_3.out BK454.out (by decide))) | (dsimp only; exact Kd.own_blk (Kd.R_ne HO_3.out BK454.out (by decide)))) _).trans (((cell_far (p := ⟨gb454, _, none⟩) (by first | exact Kd.own_blk (Kd.R_ne HO_3.out BK454.out (by decide)) | (rw [add_block]; exact Kd.own_blk (Kd.R_ne HO_3.out BK454.out (by decide))) | (show (Addr.add _ _).block ≠ _; rw [add_block]; exact Kd.own_blk (Kd.R_ne HO_3.out BK454.out (by decide))) | (dsimp only; exact Kd.own_blk (Kd.R_ne HO_3.out BK454.out (by decide)))) _).trans (((cell_far (p := ⟨gb454, _, none⟩) (by first | exact Kd.own_blk (Kd.R_ne HO_3.out BK454.out (by decide)) | (rw [add_block]; exact Kd.own_blk (Kd.R_ne HO_3.out BK454.out (by decide))) | (show (Addr.add _ _).block ≠ _; rw [add_block]; exact Kd.own_blk (Kd.R_ne HO_3.out BK454.out (by decide))) | (dsimp only; exact Kd.own_blk (Kd.R_ne HO_3.out BK454.out (by decide)))) _).trans (hHeld.2.2.2.2.2.2.2.2.2.2))))))⟩ (fun hHeld => ?_)
         clear hK K
         refine pure_ (i := 20) (N := some 12) (v := ?_) (a' := ?_) (bs 21 2097151) rfl rfl (any_of HT_.out (by kernel_rfl)) (fun _ _ _ h => h) (Or.inl ⟨by rfl, ?_⟩) ?_ ?_
         rotate_left
         · intro w'; go_simp; with_reducible rfl
         rotate_left
         · simp only [Act.put, List.setIfInBounds_toArray, List.set_cons_zero, List.set_cons_succ, i64_w, i32_w]; rfl
         refine done_ (done_of HT_.out (by kernel_rfl)) ?_
         go_upto_region 17 with (fail)
         go_cut [93] (fun v93 wc => ∃ (kq : Nat) (x93_36 : Bool), v93 = .bool x93_36 ∧ Aside0 (quilllaw15_ObjectWithin.j4 kq y428 x4_1 y433 t436 x7_3 x8_4 x93_36 l0_0 a0_1 a0_2 a0_3 a0_4 a0_5 a0_6 a0_7 t442 t443 t444 t450 t451 t452 = some r) ∧ Aside0 (kq ≤ k4) ∧ Aside0 (Kd.R (Kd.int .i64) 3 wc w.heap.size (fun k_ => some k_ ≠ ((.slice (some ad440) t436.length co28) : Value).ownBlock) (.slice (some ad441) y428.length co38) y428) ∧ Aside0 (Kd.R (Kd.int .i32) 21 wc w.heap.size (fun _ => True) (.slice Ao25 y433.length co25) y433) ∧ Aside0 (Kd.R (Kd.int .i64) 3 wc w.heap.size (fun k_ => some k_ ≠ ((.slice (some ad441) y428.length co38) : Value).ownBlock) (.slice (some ad440) t436.length co28) t436) ∧ Aside0 (wc.heap[gb426]? = some (.cells #[(.slice (some ad432) l0_0.length c0_0), .int .i64 a0_1, .int .i64 a0_2, .int .i64 a0_3, .int .i64 a0_4, .int .i64 a0_5, .int .i64 a0_6, .int .i64 a0_7] 28 (0, 0))) ∧ Aside0 (wc.heap[gb446]? = some (.cells #[.int .i64 t442, .int .i64 t443, .bool t444] 35 (0, 0))) ∧ Aside0 (wc.heap[gb454]? = some (.cells #[.int .i64 t450, .int .i64 t451, .bool t452] 35 (0, 0))) ∧ Aside0 (Below w.heap.size w wc))
         case first =>
          have H := HC37.out
          clear HC37
          replace H := Option.bind_eq_some_iff.mp H
          obtain ⟨t455, A540, H⟩ := H
          (try dsimp only at H)
          have A54 := Aside0.mk A540
          clear A540
          by_cases c55 : t455 = 0
          rotate_left
          ·
           rw [if_neg c55] at H
           have c55b0 : (t455 == 0) = false := beq_eq_false_iff_ne.mpr c55
           have c55b1 : (t455 != 0) = true := bne_iff_ne.mpr c55
           (first | rw [c55b0] | (simp only [i64_w, i32_w]; rw [c55b0]) | skip)
           have H' := Aside0.mk H
           clear H
           go_wp2_with (first | ((with_reducible refine gate_callee (f := 16) rfl ?_); refine goesL_ (some 87) rfl rfl Tryd.func16 (by kernel_rfl) rfl #[.int .i64 t445] rfl (map1 rfl) ?_; (with_reducible refine (quilllaw15_num.calls t445 t455 _ A54.out).mono ?_); rintro e w' ⟨rfl, ⟨nd, rfl⟩⟩; refine ⟨_, rfl, ?_⟩))
           go_meet
           case rel => exact ⟨_, (true), (by first | rfl | (simp; done) | (simp [*]; done)), H', ⟨by have := HK1.out; have := HJ11.out; have := HK3.out; have := HK4.out; first | omega | exact Nat.le_refl _⟩, ⟨by (with_reducible repeat (first | apply Kd.R_alloc | apply Kd.R_drewN | apply Kd.R_drew)); exact Kd.R_mono (Kd.R_far (p := ⟨gb454, 2, none⟩) (Kd.R_far (p := ⟨gb454, 1, none⟩) (Kd.R_far (p := ⟨gb454, 0, none⟩) (Kd.R_types HO_3.out BK454.out (by decide)) (fun _ hk => hk.2) (.int .i64 t450)) (fun _ hk => hk.2) (.int .i64 t451)) (fun _ hk => hk.2) (.bool t452)) (fun _ hk => hk.1)⟩, ⟨by (with_reducible repeat (first | apply Kd.R_alloc | apply Kd.R_drewN | apply Kd.R_drew)); exact Kd.R_mono (Kd.R_far (p := ⟨gb454, 2, none⟩) (Kd.R_far (p := ⟨gb454, 1, none⟩) (Kd.R_far (p := ⟨gb454, 0, none⟩) (Kd.R_types HO_5.out BK454.out (by decide)) (fun _ hk => hk.2) (.int .i64 t450)) (fun _ hk => hk.2) (.int .i64 t451)) (fun _ hk => hk.2) (.bool t452)) (fun _ hk => trivial)⟩, ⟨by (with_reducible repeat (first | apply Kd.R_alloc | apply Kd.R_drewN | apply Kd.R_drew)); exact Kd.R_mono (Kd.R_far (p := ⟨gb454, 2, none⟩) (Kd.R_far (p := ⟨gb454, 1, none⟩) (Kd.R_far (p := ⟨gb454, 0, none⟩) (Kd.R_types HO_6.out BK454.out (by decide)) (fun _ hk => hk.2) (.int .i64 t450)) (fun _ hk => hk.2) (.int .i64 t451)) (fun _ hk => hk.2) (.bool t452)) (fun _ hk => hk.1)⟩, ⟨by (with_reducible repeat (first | refine blk_drewN ?_ _ | refine blk_drew ?_ | refine blk_alloc ?_ _)); refine blk_far ?_ NB426_454.out _; (with_reducible repeat (first | refine blk_drewN ?_ _ | refine blk_drew ?_ | refine blk_alloc ?_ _)); refine blk_far ?_ NB426_454.out _; (with_reducible repeat (first | refine blk_drewN ?_ _ | refine blk_drew ?_ | refine blk_alloc ?_ _)); refine blk_far ?_ NB426_454.out _; (with_reducible repeat (first | refine blk_drewN ?_ _ | refine blk_drew ?_ | refine blk_alloc ?_ _)); exact BK426.out⟩, ⟨by (with_reducible repeat (first | refine blk_drewN ?_ _ | refine blk_drew ?_ | refine blk_alloc ?_ _)); refine blk_far ?_ NB446_454.out _; (with_reducible repeat (first | refine blk_drewN ?_ _ | refine blk_drew ?_ | refine blk_alloc ?_ _)); refine blk_far ?_ NB446_454.out _; (with_reducible repeat (first | refine blk_drewN ?_ _ | refine blk_drew ?_ | refine blk_alloc ?_ _)); refine blk_far ?_ NB446_454.out _; (with_reducible repeat (first | refine blk_drewN ?_ _ | refine blk_drew ?_ | refine blk_alloc ?_ _)); exact BK446.out⟩, ⟨by (with_reducible repeat (first | refine blk_drewN ?_ _ | refine blk_drew ?_ | refine blk_alloc ?_ _)); refine blk_put (cs := #[.int .i64 t450, .int .i64 t451, .bool false]) ?_ 2 _ rfl; (with_reducible repeat (first | refine blk_drewN ?_ _ | refine blk_drew ?_ | refine blk_alloc ?_ _)); refine blk_put (cs := #[.int .i64 t450, .int .i64 0, .bool false]) ?_ 1 _ rfl; (with_reducible repeat (first | refine blk_drewN ?_ _ | refine blk_drew ?_ | refine blk_alloc ?_ _)); refine blk_put (cs := #[.int .i64 0, .int .i64 0, .bool false]) ?_ 0 _ rfl; (with_reducible repeat (first | refine blk_drewN ?_ _ | refine blk_drew ?_ | refine blk_alloc ?_ _)); exact BK454.out⟩, ⟨by repeat with_reducible first | exact HB.out | apply pw_below_drewN | refine below_set ?_ GE426.out | refine below_set ?_ GE446.out | refine below_set ?_ GE454.out | apply below_drew1 | apply below_alloc⟩⟩
          rw [if_pos c55] at H
          have c55b0 : (t455 == 0) = true := beq_iff_eq.mpr c55
          have c55b1 : (t455 != 0) = false := bne_eq_false_iff_eq.mpr c55
          clear c55
          (first | rw [c55b0] | (simp only [i64_w, i32_w]; rw [c55b0]) | skip)
          replace H := Option.bind_eq_some_iff.mp H
          obtain ⟨t456, A560, H⟩ := H
          (try dsimp only at H)
          have A56 := Aside0.mk A560
          clear A560
          have H' := Aside0.mk H
          clear H
          go_wp2_with (first | ((with_reducible refine gate_callee (f := 16) rfl ?_); refine goesL_ (some 87) rfl rfl Tryd.func16 (by kernel_rfl) rfl #[.int .i64 t445] rfl (map1 rfl) ?_; (with_reducible refine (quilllaw15_num.calls t445 t455 _ A54.out).mono ?_); rintro e w' ⟨rfl, ⟨nd, rfl⟩⟩; refine ⟨_, rfl, ?_⟩) | (go_at_call 16; (with_reducible refine (quilllaw15_num.calls t453 t456 _ A56.out).mono ?_); rintro e w' ⟨rfl, ⟨nd, rfl⟩⟩))
          go_meet
          case rel => exact ⟨_, ((t456 != 0)), (by first | rfl | (simp; done) | (simp [*]; done)), H', ⟨by have := HK1.out; have := HJ11.out; have := HK3.out; have := HK4.out; first | omega | exact Nat.le_refl _⟩, ⟨by (with_reducible repeat (first | apply Kd.R_alloc | apply Kd.R_drewN | apply Kd.R_drew)); exact Kd.R_mono (Kd.R_far (p := ⟨gb454, 2, none⟩) (Kd.R_far (p := ⟨gb454, 1, none⟩) (Kd.R_far (p := ⟨gb454, 0, none⟩) (Kd.R_types HO_3.out BK454.out (by decide)) (fun _ hk => hk.2) (.int .i64 t450)) (fun _ hk => hk.2) (.int .i64 t451)) (fun _ hk => hk.2) (.bool t452)) (fun _ hk => hk.1)⟩, ⟨by (with_reducible repeat (first | apply Kd.R_alloc | apply Kd.R_drewN | apply Kd.R_drew)); exact Kd.R_mono (Kd.R_far (p := ⟨gb454, 2, none⟩) (Kd.R_far (p := ⟨gb454, 1, none⟩) (Kd.R_far (p := ⟨gb454, 0, none⟩) (Kd.R_types HO_5.out BK454.out (by decide)) (fun _ hk => hk.2) (.int .i64 t450)) (fun _ hk => hk.2) (.int .i64 t451)) (fun _ hk => hk.2) (.bool t452)) (fun _ hk => trivial)⟩, ⟨by (with_reducible repeat (first | apply Kd.R_alloc | apply Kd.R_drewN | apply Kd.R_drew)); exact Kd.R_mono (Kd.R_far (p := ⟨gb454, 2, none⟩) (Kd.R_far (p := ⟨gb454, 1, none⟩) (Kd.R_far (p := ⟨gb454, 0, none⟩) (Kd.R_types HO_6.out BK454.out (by decide)) (fun _ hk => hk.2) (.int .i64 t450)) (fun _ hk => hk.2) (.int .i64 t451)) (fun _ hk => hk.2) (.bool t452)) (fun _ hk => hk.1)⟩, ⟨by (with_reducible repeat (first | refine blk_drewN ?_ _ | refine blk_drew ?_ | refine blk_alloc ?_ _)); refine blk_far ?_ NB426_454.out _; (with_reducible repeat (first | refine blk_drewN ?_ _ | refine blk_drew ?_ | refine blk_alloc ?_ _)); refine blk_far ?_ NB426_454.out _; (with_reducible repeat (first | refine blk_drewN ?_ _ | refine blk_drew ?_ | refine blk_alloc ?_ _)); refine blk_far ?_ NB426_454.out _; (with_reducible repeat (first | refine blk_drewN ?_ _ | refine blk_drew ?_ | refine blk_alloc ?_ _)); exact BK426.out⟩, ⟨by (with_reducible repeat (first | refine blk_drewN ?_ _ | refine blk_drew ?_ | refine blk_alloc ?_ _)); refine blk_far ?_ NB446_454.out _; (with_reducible repeat (first | refine blk_drewN ?_ _ | refine blk_drew ?_ | refine blk_alloc ?_ _)); refine blk_far ?_ NB446_454.out _; (with_reducible repeat (first | refine blk_drewN ?_ _ | refine blk_drew ?_ | refine blk_alloc ?_ _)); refine blk_far ?_ NB446_454.out _; (with_reducible repeat (first | refine blk_drewN ?_ _ | refine blk_drew ?_ | refine blk_alloc ?_ _)); exact BK446.out⟩, ⟨by (with_reducible repeat (first | refine blk_drewN ?_ _ | refine blk_drew ?_ | refine blk_alloc ?_ _)); refine blk_put (cs := #[.int .i64 t450, .int .i64 t451, .bool false]) ?_ 2 _ rfl; (with_reducible repeat (first | refine blk_drewN ?_ _ | refine blk_drew ?_ | refine blk_alloc ?_ _)); refine blk_put (cs := #[.int .i64 t450, .int .i64 0, .bool false]) ?_ 1 _ rfl; (with_reducible repeat (first | refine blk_drewN ?_ _ | refine blk_drew ?_ | refine blk_alloc ?_ _)); refine blk_put (cs := #[.int .i64 0, .int .i64 0, .bool false]) ?_ 0 _ rfl; (with_reducible repeat (first | refine blk_drewN ?_ _ | refine blk_drew ?_ | refine blk_alloc ?_ _)); exact BK454.out⟩, ⟨by repeat with_reducible first | exact HB.out | apply pw_below_drewN | refine below_set ?_ GE426.out | refine below_set ?_ GE446.out | refine below_set ?_ GE454.out | apply below_drew1 | apply below_alloc⟩⟩
         case rest =>
          clear HC37
          try clear c16
          try clear hx447_0
          try clear hx448_0
          try clear hx449_0
          try clear p447
          try clear p448
          try clear p449
          try clear q447
          try clear q448
          try clear q449
          obtain ⟨kq, x93_36, rfl, HA, HJ36, HO_3, HO_5, HO_6, BK426, BK446, BK454, HB⟩ := hcut
          cases kq with
          | zero => exact absurd HA.out (by simp [quilllaw15_ObjectWithin.j4])
          | succ kj36 =>
           have H := HA.out
           clear HA
           simp only [quilllaw15_ObjectWithin.j4] at H
           by_cases c57 : x93_36 = true
           ·
            subst c57
            have H1 : (quilllaw15_ObjectWithin.l2 kj36 y428 x4_1 y433 t436 x7_3 (wrap64 (x8_4 + 1)) l0_0 a0_1 a0_2 a0_3 a0_4 a0_5 a0_6 a0_7) = some r := by rw [if_pos rfl] at H; exact H
            clear H
            have H := H1
            clear H1
            have H' := Aside0.mk H
            clear H
            go_wp2
            go_roundg kj36
            case measure => have := HK1.out; have := HJ11.out; have := HK3.out; have := HK4.out; have := HJ36.out; omega
            case rel => exact ⟨(wrap64 (x8_4 + 1)), (by first | rfl | (simp; done) | (simp [*]; done)), H', ⟨by have := HK1.out; have := HJ11.out; have := HK3.out; have := HK4.out; have := HJ36.out; omega⟩, ⟨by (with_reducible repeat (first | apply Kd.R_alloc | apply Kd.R_drewN | apply Kd.R_drew)); exact HO_3.out⟩, ⟨by (with_reducible repeat (first | apply Kd.R_alloc | apply Kd.R_drewN | apply Kd.R_drew)); exact HO_5.out⟩, ⟨by (with_reducible repeat (first | apply Kd.R_alloc | apply Kd.R_drewN | apply Kd.R_drew)); exact HO_6.out⟩, ⟨BK426.out⟩, ⟨by repeat with_reducible first | exact HB.out | apply pw_below_drewN | refine below_set ?_ GE426.out | refine below_set ?_ GE446.out | refine below_set ?_ GE454.out | apply below_drew1 | apply below_alloc⟩⟩
           replace c57 := Bool.eq_false_iff.mpr c57
           subst c57
           have H1 : (if t442 > t443 then (none) else (if t450 > t442 then (none) else (if t451 < t443 then (none) else (if (t444 != t452) = true then (none) else (if 0 ≤ x8_4 then (if x8_4 < (y428.length : Int) then (if (t444 != ((rd y428 x8_4) == 112)) = true then (none) else (if t451 > (y433.length : Int) then (none) else (quilllaw15_ObjectWithin.l2 kj36 y428 x4_1 y433 t436 x7_3 (wrap64 (x8_4 + 1)) l0_0 a0_1 a0_2 a0_3 a0_4 a0_5 a0_6 a0_7))) else (none)) else (none)))))) = some r := by rw [if_neg (show ¬ (false = true) by decide)] at H; exact H
           clear H
           have H := H1
           clear H1
           by_cases c58 : t442 > t443
           ·
            rw [if_pos c58] at H
            have c58b0 := decide_eq_true c58
            clear c58
            exact absurd H (by simp)
           rw [if_neg c58] at H
           have c58b0 := decide_eq_false c58
           clear c58
           by_cases c59 : t450 > t442
           ·
            rw [if_pos c59] at H
            have c59b0 := decide_eq_true c59
            clear c59
            exact absurd H (by simp)
           rw [if_neg c59] at H
           have c59b0 := decide_eq_false c59
           clear c59
           by_cases c60 : t451 < t443
           ·
            rw [if_pos c60] at H
            have c60b0 := decide_eq_true c60
            clear c60
            exact absurd H (by simp)
           rw [if_neg c60] at H
           have c60b0 := decide_eq_false c60
           clear c60
           by_cases c61 : (t444 != t452) = true
           ·
            rw [if_pos c61] at H
            have c61b0 : (t444 != t452) = true := c61
            (try (have c61b1 : decide (t444 = t452) = false := by simpa using c61))
            (try (have c61b2 : (t444 == t452) = false := by simpa using c61))
            (try (have c61b3 : ¬ (t444 = t452) := by simpa using c61))
            clear c61
            exact absurd H (by simp)
           rw [if_neg c61] at H
           have c61b0 : (t444 != t452) = false := by simpa using c61
           (try (have c61b1 : decide (t444 = t452) = true := by simpa using c61))
           (try (have c61b2 : (t444 == t452) = true := by simpa using c61))
           clear c61
           by_cases c62 : 0 ≤ x8_4
           rotate_left
           ·
            rw [if_neg c62] at H
            exact absurd H (by simp)
           rw [if_pos c62] at H
           have c62b0 := decide_eq_true c62
           clear c62
           by_cases c63 : x8_4 < (y428.length : Int)
           rotate_left
           ·
            rw [if_neg c63] at H
            exact absurd H (by simp)
           rw [if_pos c63] at H
           have c63b0 := decide_eq_true c63
           clear c63
           by_cases c64 : (t444 != ((rd y428 x8_4) == 112)) = true
           ·
            rw [if_pos c64] at H
            have c64b0 : (t444 != ((rd y428 x8_4) == 112)) = true := c64
            (try (have c64b1 : decide (t444 = ((rd y428 x8_4) == 112)) = false := by simpa using c64))
            (try (have c64b2 : (t444 == ((rd y428 x8_4) == 112)) = false := by simpa using c64))
            (try (have c64b3 : ¬ (t444 = ((rd y428 x8_4) == 112)) := by simpa using c64))
            clear c64
            exact absurd H (by simp)
           rw [if_neg c64] at H
           have c64b0 : (t444 != ((rd y428 x8_4) == 112)) = false := by simpa using c64
           (try (have c64b1 : decide (t444 = ((rd y428 x8_4) == 112)) = true := by simpa using c64))
           (try (have c64b2 : (t444 == ((rd y428 x8_4) == 112)) = true := by simpa using c64))
           clear c64
           by_cases c65 : t451 > (y433.length : Int)
           ·
            rw [if_pos c65] at H
            exact absurd H (by simp)
           rw [if_neg c65] at H
           have c65b0 := decide_eq_false c65
           clear c65
           have H' := Aside0.mk H
           clear H
           try go_wp2
           have n0_ := Aside0.mk (Kd.R_drew HO_3.out)
           have n1_ := Aside0.mk (Kd.R_drew HO_5.out)
           have n2_ := Aside0.mk (Kd.R_drew HO_6.out)
           have n3_ := Aside0.mk (blk_drew BK426.out)
           have n4_ := Aside0.mk (blk_drew BK446.out)
           have n5_ := Aside0.mk (blk_drew BK454.out)
           have n6_ := Aside0.mk (below_drew1 HB.out)
           clear HO_3
           clear HO_5
           clear HO_6
           clear BK426
           clear BK446
           clear BK454
           clear HB
           have HO_3 := n0_
           have HO_5 := n1_
           have HO_6 := n2_
           have BK426 := n3_
           have BK446 := n4_
           have BK454 := n5_
           have HB := n6_
           clear n0_ n1_ n2_ n3_ n4_ n5_ n6_
           have p457 : 0 ≤ (x8_4 : Int) := of_decide_eq_true (by assumption)
           have q457 : x8_4 < (y428.length : Int) := of_decide_eq_true (by assumption)
           obtain ⟨ad457, e457, hx457_0⟩ := Kd.at_int (Kd.R_reads' HO_3.out).2.2 x8_4 p457 q457
           obtain rfl : ad441 = ad457 := (by injection e457)
           replace p457 := eq_true p457
           replace q457 := eq_true q457
           refine start_ (n := 43) (S := fun w' => w'.cell? ⟨gb446, 0, none⟩ = some (.int .i64 t442) ∧ w'.cell? ⟨gb446, 1, none⟩ = some (.int .i64 t443) ∧ w'.cell? ⟨gb446, 2, none⟩ = some (.bool t444) ∧ w'.cell? ⟨gb454, 0, none⟩ = some (.int .i64 t450) ∧ w'.cell? ⟨gb454, 1, none⟩ = some (.int .i64 t451) ∧ w'.cell? ⟨gb454, 2, none⟩ = some (.bool t452) ∧ w'.cell? (ad441.add (x8_4).toNat) = some (.int .i64 (rd y428 x8_4))) (ds := []) (bs 43 0) (by kernel_rfl) rfl rfl ⟨(blk_cell BK446.out 0).trans rfl, (blk_cell BK446.out 1).trans rfl, (blk_cell BK446.out 2).trans rfl, (blk_cell BK454.out 0).trans rfl, (blk_cell BK454.out 1).trans rfl, (blk_cell BK454.out 2).trans rfl, hx457_0⟩ (fun hHeld => ?_); refine with_tabW quilllaw15_ObjectWithin.tab18 quilllaw15_ObjectWithin.bits18 (fun HT_ HW_ => ?_)
           generalize wc.drew = w66 at HO_3 HO_5 HO_6 BK426 BK446 BK454 HB hx457_0 hHeld ⊢
           refine pure_ (i := 0) (N := some 94) (v := ?_) (a' := ?_) (bs 43 1) rfl rfl (any_of HT_.out (by kernel_rfl)) (fun _ _ _ h => h) (Or.inl ⟨by rfl, ?_⟩) ?_ ?_
           rotate_left
           · intro w'; go_simp; with_reducible rfl
           rotate_left
           · simp only [Act.put, List.setIfInBounds_toArray, List.set_cons_zero, List.set_cons_succ, i64_w, i32_w]; rfl
           refine pure_ (i := 2) (N := some 96) (v := ?_) (a' := ?_) (bs 43 5) rfl rfl (any_of HT_.out (by kernel_rfl)) (fun _ _ _ h => h) (Or.inl ⟨by rfl, ?_⟩) ?_ ?_
           rotate_left
           · intro w'; go_simp; with_reducible rfl
           rotate_left
           · simp only [Act.put, List.setIfInBounds_toArray, List.set_cons_zero, List.set_cons_succ, i64_w, i32_w]; rfl
           refine take_ (i := 1) (N := some 95) (v := ?_) (a' := ?_) (bs 43 7) rfl rfl (take_ofW HT_.out HW_.out (by kernel_rfl)) (fun _ _ _ h => h) (Or.inl ⟨by rfl, ?_⟩) hHeld ?_ ?_
           rotate_left
           · rintro w' ⟨s0, s1, s2, s3, s4, s5, s6⟩; go_simp; with_reducible rfl
           rotate_left
           · simp only [Act.put, List.setIfInBounds_toArray, List.set_cons_zero, List.set_cons_succ, i64_w, i32_w]; rfl
           refine take_ (i := 3) (N := some 97) (v := ?_) (a' := ?_) (bs 43 15) rfl rfl (take_ofW HT_.out HW_.out (by kernel_rfl)) (fun _ _ _ h => h) (Or.inl ⟨by rfl, ?_⟩) hHeld ?_ ?_
           rotate_left
           · rintro w' ⟨s0, s1, s2, s3, s4, s5, s6⟩; go_simp; with_reducible rfl
           rotate_left
           · simp only [Act.put, List.setIfInBounds_toArray, List.set_cons_zero, List.set_cons_succ, i64_w, i32_w]; rfl
           refine pure_ (i := 4) (N := some 98) (v := ?_) (a' := ?_) (bs 43 31) rfl rfl (any_of HT_.out (by kernel_rfl)) (fun _ _ _ h => h) (Or.inl ⟨by rfl, ?_⟩) ?_ ?_
           rotate_left
           · intro w'; go_simp; with_reducible rfl
           rotate_left
           · simp only [Act.put, List.setIfInBounds_toArray, List.set_cons_zero, List.set_cons_succ, i64_w, i32_w]; rfl
           refine pure_ (i := 5) (N := some 99) (v := ?_) (a' := ?_) (bs 43 63) rfl rfl (any_of HT_.out (by kernel_rfl)) (fun _ _ _ h => h) (Or.inl ⟨by rfl, ?_⟩) ?_ ?_
           rotate_left
           · intro w'; go_simp; with_reducible rfl
           rotate_left
           · simp only [Act.put, List.setIfInBounds_toArray, List.set_cons_zero, List.set_cons_succ, i64_w, i32_w]; rfl
           refine pure_ (i := 6) (N := some 100) (v := ?_) (a' := ?_) (bs 43 127) rfl rfl (any_of HT_.out (by kernel_rfl)) (fun _ _ _ h => h) (Or.inl ⟨by rfl, ?_⟩) ?_ ?_
           rotate_left
           · intro w'; go_simp; with_reducible rfl
           rotate_left
           · simp only [Act.put, List.setIfInBounds_toArray, List.set_cons_zero, List.set_cons_succ, i64_w, i32_w]; rfl
           refine pure_ (i := 8) (N := some 102) (v := ?_) (a' := ?_) (bs 43 383) rfl rfl (any_of HT_.out (by kernel_rfl)) (fun _ _ _ h => h) (Or.inl ⟨by rfl, ?_⟩) ?_ ?_
           rotate_left
           · intro w'; go_simp; with_reducible rfl
           rotate_left
           · simp only [Act.put, List.setIfInBounds_toArray, List.set_cons_zero, List.set_cons_succ, i64_w, i32_w]; rfl
           refine take_ (i := 7) (N := some 101) (v := ?_) (a' := ?_) (bs 43 511) rfl rfl (take_ofW HT_.out HW_.out (by kernel_rfl)) (fun _ _ _ h => h) (Or.inl ⟨by rfl, ?_⟩) hHeld ?_ ?_
           rotate_left
           · rintro w' ⟨s0, s1, s2, s3, s4, s5, s6⟩; go_simp; with_reducible rfl
           rotate_left
           · simp only [Act.put, List.setIfInBounds_toArray, List.set_cons_zero, List.set_cons_succ, i64_w, i32_w]; rfl
           refine take_ (i := 9) (N := some 103) (v := ?_) (a' := ?_) (bs 43 1023) rfl rfl (take_ofW HT_.out HW_.out (by kernel_rfl)) (fun _ _ _ h => h) (Or.inl ⟨by rfl, ?_⟩) hHeld ?_ ?_
           rotate_left
           · rintro w' ⟨s0, s1, s2, s3, s4, s5, s6⟩; go_simp; with_reducible rfl
           rotate_left
           · simp only [Act.put, List.setIfInBounds_toArray, List.set_cons_zero, List.set_cons_succ, i64_w, i32_w]; rfl
           refine pure_ (i := 10) (N := some 104) (v := ?_) (a' := ?_) (bs 43 2047) rfl rfl (any_of HT_.out (by kernel_rfl)) (fun _ _ _ h => h) (Or.inl ⟨by rfl, ?_⟩) ?_ ?_
           rotate_left
           · intro w'; go_simp; with_reducible rfl
           rotate_left
           · simp only [Act.put, List.setIfInBounds_toArray, List.set_cons_zero, List.set_cons_succ, i64_w, i32_w]; rfl
           refine pure_ (i := 11) (N := some 105) (v := ?_) (a' := ?_) (bs 43 4095) rfl rfl (any_of HT_.out (by kernel_rfl)) (fun _ _ _ h => h) (Or.inl ⟨by rfl, ?_⟩) ?_ ?_
           rotate_left
           · intro w'; go_simp; with_reducible rfl
           rotate_left
           · simp only [Act.put, List.setIfInBounds_toArray, List.set_cons_zero, List.set_cons_succ, i64_w, i32_w]; rfl
           refine pure_ (i := 12) (N := some 106) (v := ?_) (a' := ?_) (bs 43 8191) rfl rfl (any_of HT_.out (by kernel_rfl)) (fun _ _ _ h => h) (Or.inl ⟨by rfl, ?_⟩) ?_ ?_
           rotate_left
           · intro w'; go_simp; with_reducible rfl
           rotate_left
           · simp only [Act.put, List.setIfInBounds_toArray, List.set_cons_zero, List.set_cons_succ, i64_w, i32_w]; rfl
           refine pure_ (i := 13) (N := some 107) (v := ?_) (a' := ?_) (bs 43 16383) rfl rfl (any_of HT_.out (by kernel_rfl)) (fun _ _ _ h => h) (Or.inl ⟨by rfl, ?_⟩) ?_ ?_
           rotate_left
           · intro w'; go_simp; with_reducible rfl
           rotate_left
           · simp only [Act.put, List.setIfInBounds_toArray, List.set_cons_zero, List.set_cons_succ, i64_w, i32_w]; rfl
           refine pure_ (i := 15) (N := some 109) (v := ?_) (a' := ?_) (bs 43 49151) rfl rfl (any_of HT_.out (by kernel_rfl)) (fun _ _ _ h => h) (Or.inl ⟨by rfl, ?_⟩) ?_ ?_
           rotate_left
           · intro w'; go_simp; with_reducible rfl
           rotate_left
           · simp only [Act.put, List.setIfInBounds_toArray, List.set_cons_zero, List.set_cons_succ, i64_w, i32_w]; rfl
           refine take_ (i := 14) (N := some 108) (v := ?_) (a' := ?_) (bs 43 65535) rfl rfl (take_ofW HT_.out HW_.out (by kernel_rfl)) (fun _ _ _ h => h) (Or.inl ⟨by rfl, ?_⟩) hHeld ?_ ?_
           rotate_left
           · rintro w' ⟨s0, s1, s2, s3, s4, s5, s6⟩; go_simp; with_reducible rfl
           rotate_left
           · simp only [Act.put, List.setIfInBounds_toArray, List.set_cons_zero, List.set_cons_succ, i64_w, i32_w]; rfl
           refine take_ (i := 16) (N := some 110) (v := ?_) (a' := ?_) (bs 43 131071) rfl rfl (take_ofW HT_.out HW_.out (by kernel_rfl)) (fun _ _ _ h => h) (Or.inl ⟨by rfl, ?_⟩) hHeld ?_ ?_
           rotate_left
           · rintro w' ⟨s0, s1, s2, s3, s4, s5, s6⟩; go_simp; with_reducible rfl
           rotate_left
           · simp only [Act.put, List.setIfInBounds_toArray, List.set_cons_zero, List.set_cons_succ, i64_w, i32_w]; rfl
           refine pure_ (i := 17) (N := some 111) (v := ?_) (a' := ?_) (bs 43 262143) rfl rfl (any_of HT_.out (by kernel_rfl)) (fun _ _ _ h => h) (Or.inl ⟨by rfl, ?_⟩) ?_ ?_
           rotate_left
           · intro w'; go_simp; with_reducible rfl
           rotate_left
           · simp only [Act.put, List.setIfInBounds_toArray, List.set_cons_zero, List.set_cons_succ, i64_w, i32_w]; rfl
           refine pure_ (i := 18) (N := some 112) (v := ?_) (a' := ?_) (bs 43 524287) rfl rfl (any_of HT_.out (by kernel_rfl)) (fun _ _ _ h => h) (Or.inl ⟨by rfl, ?_⟩) ?_ ?_
           rotate_left
           · intro w'; go_simp; with_reducible rfl
           rotate_left
           · simp only [Act.put, List.setIfInBounds_toArray, List.set_cons_zero, List.set_cons_succ, i64_w, i32_w]; rfl
           refine pure_ (i := 19) (N := some 113) (v := ?_) (a' := ?_) (bs 43 1048575) rfl rfl (any_of HT_.out (by kernel_rfl)) (fun _ _ _ h => h) (Or.inl ⟨by rfl, ?_⟩) ?_ ?_
           rotate_left
           · intro w'; go_simp; with_reducible rfl
           rotate_left
           · simp only [Act.put, List.setIfInBounds_toArray, List.set_cons_zero, List.set_cons_succ, i64_w, i32_w]; rfl
           refine pure_ (i := 20) (N := some 114) (v := ?_) (a' := ?_) (bs 43 2097151) rfl rfl (any_of HT_.out (by kernel_rfl)) (fun _ _ _ h => h) (Or.inl ⟨by rfl, ?_⟩) ?_ ?_
           rotate_left
           · intro w'; go_simp; with_reducible rfl
           rotate_left
           · simp only [Act.put, List.setIfInBounds_toArray, List.set_cons_zero, List.set_cons_succ, i64_w, i32_w]; rfl
           refine pure_ (i := 22) (N := some 116) (v := ?_) (a' := ?_) (bs 43 6291455) rfl rfl (any_of HT_.out (by kernel_rfl)) (fun _ _ _ h => h) (Or.inl ⟨by rfl, ?_⟩) ?_ ?_
           rotate_left
           · intro w'; go_simp; with_reducible rfl
           rotate_left
           · simp only [Act.put, List.setIfInBounds_toArray, List.set_cons_zero, List.set_cons_succ, i64_w, i32_w]; rfl
           refine take_ (i := 21) (N := some 115) (v := ?_) (a' := ?_) (bs 43 8388607) rfl rfl (take_ofW HT_.out HW_.out (by kernel_rfl)) (fun _ _ _ h => h) (Or.inl ⟨by rfl, ?_⟩) hHeld ?_ ?_
           rotate_left
           · rintro w' ⟨s0, s1, s2, s3, s4, s5, s6⟩; go_simp; with_reducible rfl
           rotate_left
           · simp only [Act.put, List.setIfInBounds_toArray, List.set_cons_zero, List.set_cons_succ, i64_w, i32_w]; rfl
           refine take_ (i := 23) (N := some 117) (v := ?_) (a' := ?_) (bs 43 16777215) rfl rfl (take_ofW HT_.out HW_.out (by kernel_rfl)) (fun _ _ _ h => h) (Or.inl ⟨by rfl, ?_⟩) hHeld ?_ ?_
           rotate_left
           · rintro w' ⟨s0, s1, s2, s3, s4, s5, s6⟩; go_simp; with_reducible rfl
           rotate_left
           · simp only [Act.put, List.setIfInBounds_toArray, List.set_cons_zero, List.set_cons_succ, i64_w, i32_w]; rfl
           refine pure_ (i := 24) (N := some 118) (v := ?_) (a' := ?_) (bs 43 33554431) rfl rfl (any_of HT_.out (by kernel_rfl)) (fun _ _ _ h => h) (Or.inl ⟨by rfl, ?_⟩) ?_ ?_
           rotate_left
           · intro w'; go_simp; with_reducible rfl
           rotate_left
           · simp only [Act.put, List.setIfInBounds_toArray, List.set_cons_zero, List.set_cons_succ, i64_w, i32_w]; rfl
           refine pure_ (i := 25) (N := some 119) (v := ?_) (a' := ?_) (bs 43 67108863) rfl rfl (any_of HT_.out (by kernel_rfl)) (fun _ _ _ h => h) (Or.inl ⟨by rfl, ?_⟩) ?_ ?_
           rotate_left
           · intro w'; go_simp; with_reducible rfl
           rotate_left
           · simp only [Act.put, List.setIfInBounds_toArray, List.set_cons_zero, List.set_cons_succ, i64_w, i32_w]; rfl
           refine pure_ (i := 26) (N := some 120) (v := ?_) (a' := ?_) (bs 43 134217727) rfl rfl (any_of HT_.out (by kernel_rfl)) (fun _ _ _ h => h) (Or.inl ⟨by rfl, ?_⟩) ?_ ?_
           rotate_left
           · intro w'; go_simp; with_reducible rfl
           rotate_left
           · simp only [Act.put, List.setIfInBounds_toArray, List.set_cons_zero, List.set_cons_succ, i64_w, i32_w]; rfl
           refine pure_ (i := 27) (N := some 121) (v := ?_) (a' := ?_) (bs 43 268435455) rfl rfl (any_of HT_.out (by kernel_rfl)) (fun _ _ _ h => h) (Or.inl ⟨by rfl, ?_⟩) ?_ ?_
           rotate_left
           · intro w'; go_simp; with_reducible rfl
           rotate_left
           · simp only [Act.put, List.setIfInBounds_toArray, List.set_cons_zero, List.set_cons_succ, i64_w, i32_w]; rfl
           refine pure_ (i := 29) (N := some 123) (v := ?_) (a' := ?_) (bs 43 805306367) rfl rfl (any_of HT_.out (by kernel_rfl)) (fun _ _ _ h => h) (Or.inl ⟨by rfl, ?_⟩) ?_ ?_
           rotate_left
           · intro w'; go_simp; with_reducible rfl
           rotate_left
           · simp only [Act.put, List.setIfInBounds_toArray, List.set_cons_zero, List.set_cons_succ, i64_w, i32_w]; rfl
           refine pure_ (i := 30) (N := some 124) (v := ?_) (a' := ?_) (bs 43 1879048191) rfl rfl (any_of HT_.out (by kernel_rfl)) (fun _ _ _ h => h) (Or.inl ⟨by rfl, ?_⟩) ?_ ?_
           rotate_left
           · intro w'; go_simp; with_reducible rfl
           rotate_left
           · simp only [Act.put, List.setIfInBounds_toArray, List.set_cons_zero, List.set_cons_succ, i64_w, i32_w]; rfl
           refine pure_ (i := 31) (N := some 125) (v := ?_) (a' := ?_) (bs 43 4026531839) rfl rfl (any_of HT_.out (by kernel_rfl)) (fun _ _ _ h => h) (Or.inl ⟨by rfl, ?_⟩) ?_ ?_
           rotate_left
           · intro w'; go_simp; with_reducible rfl
           rotate_left
           · simp only [Act.put, List.setIfInBounds_toArray, List.set_cons_zero, List.set_cons_succ, i64_w, i32_w]; rfl
           refine take_ (i := 28) (N := some 122) (v := ?_) (a' := ?_) (bs 43 4294967295) rfl rfl (take_ofW HT_.out HW_.out (by kernel_rfl)) (fun _ _ _ h => h) (Or.inl ⟨by rfl, ?_⟩) hHeld ?_ ?_
           rotate_left
           · rintro w' ⟨s0, s1, s2, s3, s4, s5, s6⟩; go_simp; with_reducible rfl
           rotate_left
           · simp only [Act.put, List.setIfInBounds_toArray, List.set_cons_zero, List.set_cons_succ, i64_w, i32_w]; rfl
           refine take_ (i := 32) (N := some 126) (v := ?_) (a' := ?_) (bs 43 8589934591) rfl rfl (take_ofW HT_.out HW_.out (by kernel_rfl)) (fun _ _ _ h => h) (Or.inl ⟨by rfl, ?_⟩) hHeld ?_ ?_
           rotate_left
           · rintro w' ⟨s0, s1, s2, s3, s4, s5, s6⟩; go_simp; with_reducible rfl
           rotate_left
           · simp only [Act.put, List.setIfInBounds_toArray, List.set_cons_zero, List.set_cons_succ, i64_w, i32_w]; rfl
           refine pure_ (i := 33) (N := some 127) (v := ?_) (a' := ?_) (bs 43 17179869183) rfl rfl (any_of HT_.out (by kernel_rfl)) (fun _ _ _ h => h) (Or.inl ⟨by rfl, ?_⟩) ?_ ?_
           rotate_left
           · intro w'; go_simp; with_reducible rfl
           rotate_left
           · simp only [Act.put, List.setIfInBounds_toArray, List.set_cons_zero, List.set_cons_succ, i64_w, i32_w]; rfl
           refine pure_ (i := 34) (N := some 128) (v := ?_) (a' := ?_) (bs 43 34359738367) rfl rfl (any_of HT_.out (by kernel_rfl)) (fun _ _ _ h => h) (Or.inl ⟨by rfl, ?_⟩) ?_ ?_
           rotate_left
           · intro w'; go_simp; with_reducible rfl
           rotate_left
           · simp only [Act.put, List.setIfInBounds_toArray, List.set_cons_zero, List.set_cons_succ, i64_w, i32_w]; rfl
           refine pure_ (i := 35) (N := some 129) (v := ?_) (a' := ?_) (bs 43 68719476735) rfl rfl (any_of HT_.out (by kernel_rfl)) (fun _ _ _ h => h) (Or.inl ⟨by rfl, ?_⟩) ?_ ?_
           rotate_left
           · intro w'; go_simp; with_reducible rfl
           rotate_left
           · simp only [Act.put, List.setIfInBounds_toArray, List.set_cons_zero, List.set_cons_succ, i64_w, i32_w]; rfl
           refine pure_ (i := 36) (N := some 130) (v := ?_) (a' := ?_) (bs 43 137438953471) rfl rfl (any_of HT_.out (by kernel_rfl)) (fun _ _ _ h => h) (Or.inl ⟨by rfl, ?_⟩) ?_ ?_
           rotate_left
           · intro w'; go_simp; with_reducible rfl
           rotate_left
           · simp only [Act.put, List.setIfInBounds_toArray, List.set_cons_zero, List.set_cons_succ, i64_w, i32_w]; rfl
           refine pure_ (i := 37) (N := some 131) (v := ?_) (a' := ?_) (bs 43 274877906943) rfl rfl (any_of HT_.out (by kernel_rfl)) (fun _ _ _ h => h) (Or.inl ⟨by rfl, ?_⟩) ?_ ?_
           rotate_left
           · intro w'; go_simp; with_reducible rfl
           rotate_left
           · simp only [Act.put, List.setIfInBounds_toArray, List.set_cons_zero, List.set_cons_succ, i64_w, i32_w]; rfl
           refine pure_ (i := 39) (N := some 133) (v := ?_) (a' := ?_) (bs 43 824633720831) rfl rfl (any_of HT_.out (by kernel_rfl)) (fun _ _ _ h => h) (Or.inl ⟨by rfl, ?_⟩) ?_ ?_
           rotate_left
           · intro w'; go_simp; with_reducible rfl
           rotate_left
           · simp only [Act.put, List.setIfInBounds_toArray, List.set_cons_zero, List.set_cons_succ, i64_w, i32_w]; rfl
           refine pure_ (i := 40) (N := some 134) (v := ?_) (a' := ?_) (bs 43 1924145348607) rfl rfl (any_of HT_.out (by kernel_rfl)) (fun _ _ _ h => h) (Or.inl ⟨by rfl, ?_⟩) ?_ ?_
           rotate_left
           · intro w'; go_simp; with_reducible rfl
           rotate_left
           · simp only [Act.put, List.setIfInBounds_toArray, List.set_cons_zero, List.set_cons_succ, i64_w, i32_w]; rfl
           refine take_ (i := 38) (N := some 132) (v := ?_) (a' := ?_) (bs 43 2199023255551) rfl rfl (take_ofW HT_.out HW_.out (by kernel_rfl)) (fun _ _ _ h => h) (Or.inl ⟨by rfl, ?_⟩) hHeld ?_ ?_
           rotate_left
           · rintro w' ⟨s0, s1, s2, s3, s4, s5, s6⟩; go_simp; with_reducible rfl
           rotate_left
           · simp only [Act.put, List.setIfInBounds_toArray, List.set_cons_zero, List.set_cons_succ, i64_w, i32_w]; rfl
           refine pure_ (i := 41) (N := some 135) (v := ?_) (a' := ?_) (bs 43 4398046511103) rfl rfl (any_of HT_.out (by kernel_rfl)) (fun _ _ _ h => h) (Or.inl ⟨by rfl, ?_⟩) ?_ ?_
           rotate_left
           · intro w'; go_simp; with_reducible rfl
           rotate_left
           · simp only [Act.put, List.setIfInBounds_toArray, List.set_cons_zero, List.set_cons_succ, i64_w, i32_w]; rfl
           refine pure_ (i := 42) (N := some 136) (v := ?_) (a' := ?_) (bs 43 8796093022207) rfl rfl (any_of HT_.out (by kernel_rfl)) (fun _ _ _ h => h) (Or.inl ⟨by rfl, ?_⟩) ?_ ?_
           rotate_left
           · intro w'; go_simp; with_reducible rfl
           rotate_left
           · simp only [Act.put, List.setIfInBounds_toArray, List.set_cons_zero, List.set_cons_succ, i64_w, i32_w]; rfl
           refine done_ (done_of HT_.out (by kernel_rfl)) ?_
           try go_wp2
           go_roundg kj36
           case measure => have := HK1.out; have := HJ11.out; have := HK3.out; have := HK4.out; have := HJ36.out; omega
           case rel => exact ⟨(wrap64 (x8_4 + 1)), (by first | rfl | (simp; done) | (simp [*]; done)), H', ⟨by have := HK1.out; have := HJ11.out; have := HK3.out; have := HK4.out; have := HJ36.out; omega⟩, ⟨by (with_reducible repeat (first | apply Kd.R_alloc | apply Kd.R_drewN | apply Kd.R_drew)); exact HO_3.out⟩, ⟨by (with_reducible repeat (first | apply Kd.R_alloc | apply Kd.R_drewN | apply Kd.R_drew)); exact HO_5.out⟩, ⟨by (with_reducible repeat (first | apply Kd.R_alloc | apply Kd.R_drewN | apply Kd.R_drew)); exact HO_6.out⟩, ⟨BK426.out⟩, ⟨by repeat with_reducible first | exact HB.out | apply pw_below_drewN | refine below_set ?_ GE426.out | refine below_set ?_ GE446.out | refine below_set ?_ GE454.out | apply below_drew1 | apply below_alloc⟩⟩

end Go.Proofs.YtgikaemhhaejoaaDoor.P
