/- The walks of the functions that these statements reach: each Go function as a plain Lean function, and the proof that its call comes to that. Written by the session's program wip/pp.py. -/
import Derived.Test.YtgikaemhhaejoaaDoorP0
import Derived.Test.YtgikaemhhaejoaaDoorP1
import Derived.Test.YtgikaemhhaejoaaDoorP2
import Derived.Test.YtgikaemhhaejoaaDoorP9
import Derived.Test.YtgikaemhhaejoaaDoorP10
import Derived.Test.YtgikaemhhaejoaaDoorP14
namespace Go.Proofs.YtgikaemhhaejoaaDoor.P
open Go.Proofs.YtgikaemhhaejoaaDoor
open Go.RowKit Go.Proofs.YtgikaemhhaejoaaDoorW.PrintWords Go.Proofs.YtgikaemhhaejoaaDoorW.PrintLast Go.Proofs.YtgikaemhhaejoaaDoorW.PrintMore
attribute [local go_sem] max2_int min2_int max_two min_two max_three min_three max_four min_four   -- for this text's walks alone
set_option linter.unusedVariables false
set_option linter.unusedSimpArgs false

attribute [local go_sem high] eqA35
/-! ### quilllaw15_pieces: function 12 -/
mutual
def quilllaw15_pieces.l0 : Nat → List Int → Int → List ByteArray → Int → Int → Int → Int → Int → Int → Int → Option (Bool)
  | 0, _, _, _, _, _, _, _, _, _, _ => none
  | k + 1, x1, x5, v0, v1, v2, v3, v4, v5, v6, v7 => if x5 < (v0.length : Int) then (quilllaw15_pieces.j1 k x1 x5 (decide (x5 < 4)) v0 v1 v2 v3 v4 v5 v6 v7) else (quilllaw15_pieces.j1 k x1 x5 false v0 v1 v2 v3 v4 v5 v6 v7)
def quilllaw15_pieces.j1 : Nat → List Int → Int → Bool → List ByteArray → Int → Int → Int → Int → Int → Int → Int → Option (Bool)
  | 0, _, _, _, _, _, _, _, _, _, _, _ => none
  | k + 1, x1, x5, x30, v0, v1, v2, v3, v4, v5, v6, v7 => if x30 = true then (if 0 ≤ x5 then (if x5 < (v0.length : Int) then (if (rdOf ByteArray.empty v0 x5).size ≤ 70368744177664 then ((some (runesOf (rdOf ByteArray.empty v0 x5) : List Int)).bind fun y364 => ((quilllaw10_Offsets.f k v0 v1 v2 v3 v4 v5 v6 v7 y364).bind fun t367 => (quilllaw15_pieces.l1 k x1 x5 (rdOf ByteArray.empty v0 x5) y364 t367 0 v0 v1 v2 v3 v4 v5 v6 v7))) else (none)) else (none)) else (none)) else ((quilllaw15_wakes.f k).bind fun t362 => (some t362))
def quilllaw15_pieces.l1 : Nat → List Int → Int → ByteArray → List Int → List Int → Int → List ByteArray → Int → Int → Int → Int → Int → Int → Int → Option (Bool)
  | 0, _, _, _, _, _, _, _, _, _, _, _, _, _, _ => none
  | k + 1, x1, x5, x6, x7, x8, x9, v0, v1, v2, v3, v4, v5, v6, v7 => if x9 < (x8.length : Int) then (quilllaw15_pieces.l2 k x1 x5 x6 x7 x8 x9 0 v0 v1 v2 v3 v4 v5 v6 v7) else (quilllaw15_pieces.l0 k x1 (wrap64 (x5 + 1)) v0 v1 v2 v3 v4 v5 v6 v7)
def quilllaw15_pieces.l2 : Nat → List Int → Int → ByteArray → List Int → List Int → Int → Int → List ByteArray → Int → Int → Int → Int → Int → Int → Int → Option (Bool)
  | 0, _, _, _, _, _, _, _, _, _, _, _, _, _, _, _ => none
  | k + 1, x1, x5, x6, x7, x8, x9, x10, v0, v1, v2, v3, v4, v5, v6, v7 => if x10 < (x1.length : Int) then (quilllaw15_pieces.l3 k x1 x5 x6 x7 x8 x9 x10 0 v0 v1 v2 v3 v4 v5 v6 v7) else (quilllaw15_pieces.l1 k x1 x5 x6 x7 x8 (wrap64 (x9 + 1)) v0 v1 v2 v3 v4 v5 v6 v7)
def quilllaw15_pieces.l3 : Nat → List Int → Int → ByteArray → List Int → List Int → Int → Int → Int → List ByteArray → Int → Int → Int → Int → Int → Int → Int → Option (Bool)
  | 0, _, _, _, _, _, _, _, _, _, _, _, _, _, _, _, _ => none
  | k + 1, x1, x5, x6, x7, x8, x9, x10, x11, v0, v1, v2, v3, v4, v5, v6, v7 => if x11 < 3 then ((some (([105, 97, v5] : List Int) : List Int)).bind fun y370 => (if 0 ≤ x11 then (if x11 < (y370.length : Int) then (quilllaw15_pieces.l4 k x1 x5 x6 x7 x8 x9 x10 x11 (rd y370 x11) (([1, wrap64 (1 + (Int.tmod x9 3)), v6] : List Int)) 0 v0 v1 v2 v3 v4 v5 v6 v7) else (none)) else (none))) else (quilllaw15_pieces.l2 k x1 x5 x6 x7 x8 x9 (wrap64 (x10 + 1)) v0 v1 v2 v3 v4 v5 v6 v7)
def quilllaw15_pieces.l4 : Nat → List Int → Int → ByteArray → List Int → List Int → Int → Int → Int → Int → List Int → Int → List ByteArray → Int → Int → Int → Int → Int → Int → Int → Option (Bool)
  | 0, _, _, _, _, _, _, _, _, _, _, _, _, _, _, _, _, _, _, _ => none
  | k + 1, x1, x5, x6, x7, x8, x9, x10, x11, x12, x13, x14, v0, v1, v2, v3, v4, v5, v6, v7 => if x14 < 3 then (if 0 ≤ x9 then (if x9 < (x8.length : Int) then (if 0 ≤ x10 then (if x10 < (x1.length : Int) then (if 0 ≤ x14 then (if x14 < (x13.length : Int) then ((object_Piece.f k x6 (rd x8 x9) x12 (rd x1 x10) (rd x13 x14)).bind fun bt380 => ((quillref1_May.f k x6).bind fun t386 => (if t386 = true then ((quillref0_Num.f (rd x8 x9) (x7.length : Int)).bind fun t388 => (if t388 = true then (if x12 = 105 then ((quillref15_Object.f k (rd x1 x10)).bind fun t390 => (if t390 = true then ((quillref0_Between.f (rd x13 x14) 1 999).bind fun t392 => (quilllaw15_pieces.j6 k x1 x5 x6 x7 x8 x9 x10 x11 x12 x13 x14 bt380.2.2.2 1 t392 v0 v1 v2 v3 v4 v5 v6 v7 bt380.1 bt380.2.1 bt380.2.2.1 0 0 false)) else (quilllaw15_pieces.j6 k x1 x5 x6 x7 x8 x9 x10 x11 x12 x13 x14 bt380.2.2.2 1 false v0 v1 v2 v3 v4 v5 v6 v7 bt380.1 bt380.2.1 bt380.2.2.1 0 0 false))) else (if x12 = 97 then ((quillref15_Object.f k (rd x1 x10)).bind fun t394 => (if t394 = true then ((quillref0_Between.f (rd x13 x14) 1 999).bind fun t396 => (quilllaw15_pieces.j6 k x1 x5 x6 x7 x8 x9 x10 x11 x12 x13 x14 bt380.2.2.2 1 t396 v0 v1 v2 v3 v4 v5 v6 v7 bt380.1 bt380.2.1 bt380.2.2.1 0 0 false)) else (quilllaw15_pieces.j6 k x1 x5 x6 x7 x8 x9 x10 x11 x12 x13 x14 bt380.2.2.2 1 false v0 v1 v2 v3 v4 v5 v6 v7 bt380.1 bt380.2.1 bt380.2.2.1 0 0 false))) else (quilllaw15_pieces.j6 k x1 x5 x6 x7 x8 x9 x10 x11 x12 x13 x14 bt380.2.2.2 1 false v0 v1 v2 v3 v4 v5 v6 v7 bt380.1 bt380.2.1 bt380.2.2.1 0 0 false))) else (quilllaw15_pieces.j6 k x1 x5 x6 x7 x8 x9 x10 x11 x12 x13 x14 bt380.2.2.2 1 false v0 v1 v2 v3 v4 v5 v6 v7 bt380.1 bt380.2.1 bt380.2.2.1 0 0 false))) else (quilllaw15_pieces.j6 k x1 x5 x6 x7 x8 x9 x10 x11 x12 x13 x14 bt380.2.2.2 1 false v0 v1 v2 v3 v4 v5 v6 v7 bt380.1 bt380.2.1 bt380.2.2.1 0 0 false)))) else (none)) else (none)) else (none)) else (none)) else (none)) else (none)) else (quilllaw15_pieces.l3 k x1 x5 x6 x7 x8 x9 x10 (wrap64 (x11 + 1)) v0 v1 v2 v3 v4 v5 v6 v7)
def quilllaw15_pieces.j6 : Nat → List Int → Int → ByteArray → List Int → List Int → Int → Int → Int → Int → List Int → Int → Int → Int → Bool → List ByteArray → Int → Int → Int → Int → Int → Int → Int → Int → Int → Bool → Int → Int → Bool → Option (Bool)
  | 0, _, _, _, _, _, _, _, _, _, _, _, _, _, _, _, _, _, _, _, _, _, _, _, _, _, _, _, _ => none
  | k + 1, x1, x5, x6, x7, x8, x9, x10, x11, x12, x13, x14, x16, x17, x127, v0, v1, v2, v3, v4, v5, v6, v7, v8, v9, v10, v11, v12, v13 => if x127 = true then (if 0 ≤ x9 then (if x9 < (x8.length : Int) then (if 0 ≤ x10 then (if x10 < (x1.length : Int) then (if 0 ≤ x14 then (if x14 < (x13.length : Int) then ((quillref15_Piece.f k x7 (rd x8 x9) x12 (rd x1 x10) (rd x13 x14)).bind fun bt400 => ((quilllaw15_num.f x16).bind fun t404 => (if t404 = bt400.2.2.2 then (if (!(v8 == bt400.1) || (!(v9 == bt400.2.1) || (!(v10 == bt400.2.2.1)))) = true then (some false) else (quilllaw15_pieces.l4 k x1 x5 x6 x7 x8 x9 x10 x11 x12 x13 (wrap64 (x14 + 1)) v0 v1 v2 v3 v4 v5 v6 v7)) else (some false)))) else (none)) else (none)) else (none)) else (none)) else (none)) else (none)) else ((quilllaw15_num.f x16).bind fun t405 => (if t405 = x17 then (if (!(v8 == v11) || (!(v9 == v12) || (!(v10 == v13)))) = true then (some false) else (quilllaw15_pieces.l4 k x1 x5 x6 x7 x8 x9 x10 x11 x12 x13 (wrap64 (x14 + 1)) v0 v1 v2 v3 v4 v5 v6 v7)) else (some false)))
end
def quilllaw15_pieces.f (k : Nat) (l0_0 : List ByteArray) (a0_1 : Int) (a0_2 : Int) (a0_3 : Int) (a0_4 : Int) (a0_5 : Int) (a0_6 : Int) (a0_7 : Int) (l1 : List Int) : Option (Bool) := (quilllaw10_Heavy.f k l0_0 a0_1 a0_2 a0_3 a0_4 a0_5 a0_6 a0_7).bind fun t361 => (if t361 = true then (some true) else (quilllaw15_pieces.l0 k l1 0 l0_0 a0_1 a0_2 a0_3 a0_4 a0_5 a0_6 a0_7))
theorem quilllaw15_pieces.mono_l : ∀ k, (∀ y0 y1 y2 y3 y4 y5 y6 y7 y8 y9, LeO (quilllaw15_pieces.l0 k y0 y1 y2 y3 y4 y5 y6 y7 y8 y9) (quilllaw15_pieces.l0 (k + 1) y0 y1 y2 y3 y4 y5 y6 y7 y8 y9)) ∧ (∀ y0 y1 y2 y3 y4 y5 y6 y7 y8 y9 y10, LeO (quilllaw15_pieces.j1 k y0 y1 y2 y3 y4 y5 y6 y7 y8 y9 y10) (quilllaw15_pieces.j1 (k + 1) y0 y1 y2 y3 y4 y5 y6 y7 y8 y9 y10)) ∧ (∀ y0 y1 y2 y3 y4 y5 y6 y7 y8 y9 y10 y11 y12 y13, LeO (quilllaw15_pieces.l1 k y0 y1 y2 y3 y4 y5 y6 y7 y8 y9 y10 y11 y12 y13) (quilllaw15_pieces.l1 (k + 1) y0 y1 y2 y3 y4 y5 y6 y7 y8 y9 y10 y11 y12 y13)) ∧ (∀ y0 y1 y2 y3 y4 y5 y6 y7 y8 y9 y10 y11 y12 y13 y14, LeO (quilllaw15_pieces.l2 k y0 y1 y2 y3 y4 y5 y6 y7 y8 y9 y10 y11 y12 y13 y14) (quilllaw15_pieces.l2 (k + 1) y0 y1 y2 y3 y4 y5 y6 y7 y8 y9 y10 y11 y12 y13 y14)) ∧ (∀ y0 y1 y2 y3 y4 y5 y6 y7 y8 y9 y10 y11 y12 y13 y14 y15, LeO (quilllaw15_pieces.l3 k y0 y1 y2 y3 y4 y5 y6 y7 y8 y9 y10 y11 y12 y13 y14 y15) (quilllaw15_pieces.l3 (k + 1) y0 y1 y2 y3 y4 y5 y6 y7 y8 y9 y10 y11 y12 y13 y14 y15)) ∧ (∀ y0 y1 y2 y3 y4 y5 y6 y7 y8 y9 y10 y11 y12 y13 y14 y15 y16 y17 y18, LeO (quilllaw15_pieces.l4 k y0 y1 y2 y3 y4 y5 y6 y7 y8 y9 y10 y11 y12 y13 y14 y15 y16 y17 y18) (quilllaw15_pieces.l4 (k + 1) y0 y1 y2 y3 y4 y5 y6 y7 y8 y9 y10 y11 y12 y13 y14 y15 y16 y17 y18)) ∧ (∀ y0 y1 y2 y3 y4 y5 y6 y7 y8 y9 y10 y11 y12 y13 y14 y15 y16 y17 y18 y19 y20 y21 y22 y23 y24 y25 y26 y27, LeO (quilllaw15_pieces.j6 k y0 y1 y2 y3 y4 y5 y6 y7 y8 y9 y10 y11 y12 y13 y14 y15 y16 y17 y18 y19 y20 y21 y22 y23 y24 y25 y26 y27) (quilllaw15_pieces.j6 (k + 1) y0 y1 y2 y3 y4 y5 y6 y7 y8 y9 y10 y11 y12 y13 y14 y15 y16 y17 y18 y19 y20 y21 y22 y23 y24 y25 y26 y27))
  | 0 => ⟨fun _ _ _ _ _ _ _ _ _ _ r h => by simp [quilllaw15_pieces.l0] at h, fun _ _ _ _ _ _ _ _ _ _ _ r h => by simp [quilllaw15_pieces.j1] at h, fun _ _ _ _ _ _ _ _ _ _ _ _ _ _ r h => by simp [quilllaw15_pieces.l1] at h, fun _ _ _ _ _ _ _ _ _ _ _ _ _ _ _ r h => by simp [quilllaw15_pieces.l2] at h, fun _ _ _ _ _ _ _ _ _ _ _ _ _ _ _ _ r h => by simp [quilllaw15_pieces.l3] at h, fun _ _ _ _ _ _ _ _ _ _ _ _ _ _ _ _ _ _ _ r h => by simp [quilllaw15_pieces.l4] at h, fun _ _ _ _ _ _ _ _ _ _ _ _ _ _ _ _ _ _ _ _ _ _ _ _ _ _ _ _ r h => by simp [quilllaw15_pieces.j6] at h⟩
  | k + 1 => by
    obtain ⟨ih0, ih1, ih2, ih3, ih4, ih5, ih6⟩ := quilllaw15_pieces.mono_l k
    refine ⟨?_, ?_, ?_, ?_, ?_, ?_, ?_⟩
    all_goals intros
    all_goals first | unfold quilllaw15_pieces.l0 | unfold quilllaw15_pieces.j1 | unfold quilllaw15_pieces.l1 | unfold quilllaw15_pieces.l2 | unfold quilllaw15_pieces.l3 | unfold quilllaw15_pieces.l4 | unfold quilllaw15_pieces.j6
    all_goals repeat' first | (with_reducible first | exact ih0 _ _ _ _ _ _ _ _ _ _ | exact ih1 _ _ _ _ _ _ _ _ _ _ _ | exact ih2 _ _ _ _ _ _ _ _ _ _ _ _ _ _ | exact ih3 _ _ _ _ _ _ _ _ _ _ _ _ _ _ _ | exact ih4 _ _ _ _ _ _ _ _ _ _ _ _ _ _ _ _ | exact ih5 _ _ _ _ _ _ _ _ _ _ _ _ _ _ _ _ _ _ _ | exact ih6 _ _ _ _ _ _ _ _ _ _ _ _ _ _ _ _ _ _ _ _ _ _ _ _ _ _ _ _ | exact object_Piece.mono _ _ _ _ _ _ | exact quilllaw10_Heavy.mono _ _ _ _ _ _ _ _ _ | exact quilllaw10_Offsets.mono _ _ _ _ _ _ _ _ _ _ | exact quilllaw15_wakes.mono _ | exact quillref15_Object.mono _ _ | exact quillref15_Piece.mono _ _ _ _ _ _ | exact quillref1_May.mono _ _ | exact LeO.refl _ | exact LeO.none _ | refine LeO.ite ?_ ?_ | refine LeO.bind ?_ (fun _ => ?_)) | exact ih0 _ _ _ _ _ _ _ _ _ _ | exact ih1 _ _ _ _ _ _ _ _ _ _ _ | exact ih2 _ _ _ _ _ _ _ _ _ _ _ _ _ _ | exact ih3 _ _ _ _ _ _ _ _ _ _ _ _ _ _ _ | exact ih4 _ _ _ _ _ _ _ _ _ _ _ _ _ _ _ _ | exact ih5 _ _ _ _ _ _ _ _ _ _ _ _ _ _ _ _ _ _ _ | exact ih6 _ _ _ _ _ _ _ _ _ _ _ _ _ _ _ _ _ _ _ _ _ _ _ _ _ _ _ _ | exact object_Piece.mono _ _ _ _ _ _ | exact quilllaw10_Heavy.mono _ _ _ _ _ _ _ _ _ | exact quilllaw10_Offsets.mono _ _ _ _ _ _ _ _ _ _ | exact quilllaw15_wakes.mono _ | exact quillref15_Object.mono _ _ | exact quillref15_Piece.mono _ _ _ _ _ _ | exact quillref1_May.mono _ _ | exact LeO.refl _ | exact LeO.none _ | refine LeO.ite ?_ ?_ | refine LeO.bind ?_ (fun _ => ?_)
theorem quilllaw15_pieces.mono : ∀ a0 a1 a2 a3 a4 a5 a6 a7 a8 k, LeO (quilllaw15_pieces.f k a0 a1 a2 a3 a4 a5 a6 a7 a8) (quilllaw15_pieces.f (k + 1) a0 a1 a2 a3 a4 a5 a6 a7 a8) := by
  intro a0 a1 a2 a3 a4 a5 a6 a7 a8 k
  obtain ⟨ih0, ih1, ih2, ih3, ih4, ih5, ih6⟩ := quilllaw15_pieces.mono_l k
  unfold quilllaw15_pieces.f
  repeat' first | (with_reducible first | exact ih0 _ _ _ _ _ _ _ _ _ _ | exact ih1 _ _ _ _ _ _ _ _ _ _ _ | exact ih2 _ _ _ _ _ _ _ _ _ _ _ _ _ _ | exact ih3 _ _ _ _ _ _ _ _ _ _ _ _ _ _ _ | exact ih4 _ _ _ _ _ _ _ _ _ _ _ _ _ _ _ _ | exact ih5 _ _ _ _ _ _ _ _ _ _ _ _ _ _ _ _ _ _ _ | exact ih6 _ _ _ _ _ _ _ _ _ _ _ _ _ _ _ _ _ _ _ _ _ _ _ _ _ _ _ _ | exact object_Piece.mono _ _ _ _ _ _ | exact quilllaw10_Heavy.mono _ _ _ _ _ _ _ _ _ | exact quilllaw10_Offsets.mono _ _ _ _ _ _ _ _ _ _ | exact quilllaw15_wakes.mono _ | exact quillref15_Object.mono _ _ | exact quillref15_Piece.mono _ _ _ _ _ _ | exact quillref1_May.mono _ _ | exact LeO.refl _ | exact LeO.none _ | refine LeO.ite ?_ ?_ | refine LeO.bind ?_ (fun _ => ?_)) | exact ih0 _ _ _ _ _ _ _ _ _ _ | exact ih1 _ _ _ _ _ _ _ _ _ _ _ | exact ih2 _ _ _ _ _ _ _ _ _ _ _ _ _ _ | exact ih3 _ _ _ _ _ _ _ _ _ _ _ _ _ _ _ | exact ih4 _ _ _ _ _ _ _ _ _ _ _ _ _ _ _ _ | exact ih5 _ _ _ _ _ _ _ _ _ _ _ _ _ _ _ _ _ _ _ | exact ih6 _ _ _ _ _ _ _ _ _ _ _ _ _ _ _ _ _ _ _ _ _ _ _ _ _ _ _ _ | exact object_Piece.mono _ _ _ _ _ _ | exact quilllaw10_Heavy.mono _ _ _ _ _ _ _ _ _ | exact quilllaw10_Offsets.mono _ _ _ _ _ _ _ _ _ _ | exact quilllaw15_wakes.mono _ | exact quillref15_Object.mono _ _ | exact quillref15_Piece.mono _ _ _ _ _ _ | exact quillref1_May.mono _ _ | exact LeO.refl _ | exact LeO.none _ | refine LeO.ite ?_ ?_ | refine LeO.bind ?_ (fun _ => ?_)
def quilllaw15_pieces.T23 : Bool × List (List Nat × List Nat) := (true, [([], []), ([], []), ([], []), ([1, 2], [1, 2]), ([3], [3]), ([], []), ([], []), ([], []), ([6, 7], [6, 7]), ([8], [8]), ([], []), ([], []), ([10, 11], [10, 11]), ([12], [12]), ([0, 4, 5, 9, 13], [0, 4, 5, 9, 13]), ([14], [14]), ([15], [15]), ([15], [15]), ([], []), ([18, 16, 14, 0, 1, 2, 3, 4, 5, 6, 7, 8, 9, 10, 11, 12, 13, 14, 15, 16, 18], [16, 18]), ([17, 19, 0, 1, 2, 3, 4, 5, 6, 7, 8, 9, 10, 11, 12, 13, 14, 15, 16, 17, 18, 19], [17])])
def quilllaw15_pieces.B23 : List Nat := [0, 0, 0, 6, 14, 0, 0, 0, 192, 448, 0, 0, 3072, 7168, 16383, 32767, 65535, 65535, 0, 393215, 1048575]
theorem quilllaw15_pieces.tab23 : rtab .any (opsOf Tryd.f12 23) = quilllaw15_pieces.T23 := by kernel_rfl
theorem quilllaw15_pieces.bits23 : waitsOk quilllaw15_pieces.T23.2 quilllaw15_pieces.B23 = true := by kernel_rfl
def quilllaw15_pieces.T26 : Bool × List (List Nat × List Nat) := (true, [([], []), ([], []), ([], []), ([1, 2], [1, 2]), ([3], [3]), ([], []), ([], []), ([], []), ([6, 7], [6, 7]), ([8], [8]), ([], []), ([], []), ([10, 11], [10, 11]), ([12], [12]), ([0, 4, 5, 9, 13], [0, 4, 5, 9, 13]), ([14], [14]), ([15], [15]), ([15], [15]), ([16, 14, 0, 1, 2, 3, 4, 5, 6, 7, 8, 9, 10, 11, 12, 13, 14, 15, 16], [16]), ([17, 18, 0, 1, 2, 3, 4, 5, 6, 7, 8, 9, 10, 11, 12, 13, 14, 15, 16, 17, 18], [17])])
def quilllaw15_pieces.B26 : List Nat := [0, 0, 0, 6, 14, 0, 0, 0, 192, 448, 0, 0, 3072, 7168, 16383, 32767, 65535, 65535, 131071, 524287]
theorem quilllaw15_pieces.tab26 : rtab .any (opsOf Tryd.f12 26) = quilllaw15_pieces.T26 := by kernel_rfl
theorem quilllaw15_pieces.bits26 : waitsOk quilllaw15_pieces.T26.2 quilllaw15_pieces.B26 = true := by kernel_rfl
set_option maxHeartbeats 8000000 in
set_option maxRecDepth 100000 in
theorem quilllaw15_pieces.calls (k : Nat) (A0_0 : Option Addr) (c0_0 : Nat) (l0_0 : List ByteArray) (a0_1 : Int) (a0_2 : Int) (a0_3 : Int) (a0_4 : Int) (a0_5 : Int) (a0_6 : Int) (a0_7 : Int) (A1 : Option Addr) (c1 : Nat) (l1 : List Int) (r : Bool) (w : World) (hT : Tabs w) (hr0_0 : Kd.C Kd.string w A0_0 l0_0.length l0_0) (hc0_0 : l0_0.length ≤ c0_0) (hr1 : Kd.C (Kd.int .i64) w A1 l1.length l1) (hc1 : l1.length ≤ c1) (h : quilllaw15_pieces.f k l0_0 a0_1 a0_2 a0_3 a0_4 a0_5 a0_6 a0_7 l1 = some r) :
  Calls Tryd.prog 12 #[.agg #[.slice A0_0 l0_0.length c0_0, .int .i64 a0_1, .int .i64 a0_2, .int .i64 a0_3, .int .i64 a0_4, .int .i64 a0_5, .int .i64 a0_6, .int .i64 a0_7], .slice A1 l1.length c1] w fun e w' => e = .returned (.bool r) ∧ Below w.heap.size w w' := by
 have hu28 := Tryd.underlying28
 have hu35 := Tryd.underlying35
 have HT := Aside0.mk hT
 clear hT
 have HR0_0 := Aside0.mk hr0_0
 have HC0_0 := Aside0.mk hc0_0
 clear hr0_0 hc0_0
 have HR1 := Aside0.mk hr1
 have HC1 := Aside0.mk hc1
 clear hr1 hc1
 have HB := Aside0.mk (Below.refl w.heap.size w)
 have H : ((quilllaw10_Heavy.f k l0_0 a0_1 a0_2 a0_3 a0_4 a0_5 a0_6 a0_7).bind fun t361 => (if t361 = true then (some true) else (quilllaw15_pieces.l0 k l1 0 l0_0 a0_1 a0_2 a0_3 a0_4 a0_5 a0_6 a0_7))) = some r := h
 clear h
 replace H := Option.bind_eq_some_iff.mp H
 obtain ⟨t361, A30, H⟩ := H
 (try dsimp only at H)
 have A3 := Aside0.mk A30
 clear A30
 by_cases c4 : t361 = true
 ·
  subst c4
  have H1 : (some true) = some r := by rw [if_pos rfl] at H; exact H
  clear H
  have H := H1
  clear H1
  obtain rfl := Option.some.inj H
  go_enter Tryd.func12, Tryd.ntmps12
  go_wp2_with (first | ((with_reducible refine gate_dst (N := 2) rfl ?_); (try (refine gate_guard (by rfl) ?_; dsimp only)); refine box_event ?hg (N := 2) ?hd (cs := #[.slice A0_0 l0_0.length c0_0, .int .i64 a0_1, .int .i64 a0_2, .int .i64 a0_3, .int .i64 a0_4, .int .i64 a0_5, .int .i64 a0_6, .int .i64 a0_7]) (t := 28) ?hr ?_; (case hd => rfl); (case hg => rfl); (case hr => first | (go_simp; done) | (go_simp; rfl)); intro gb360 hg w5 hbox hb; have n0_ := Aside0.mk (below_step (by repeat with_reducible first | exact HB.out | apply pw_below_drewN | apply below_drew1 | apply below_alloc) hb); have n1_ := Aside0.mk (hbox); have n2_ := Aside0.mk (geb hg (by repeat with_reducible first | exact HB.out | apply pw_below_drewN | apply below_drew1 | apply below_alloc)); have n3_ := n2_; clear HB; have HB := n0_; have BK360 := n1_; have GW360 := n2_; have GE360 := n3_; clear n0_ n1_ n2_ n3_; clear hb hbox hg; have hcz6_0 := cz0 BK360.out; have hcz6_1 := cz1 BK360.out; have hcz6_2 := cz2 BK360.out; have hcz6_3 := cz3 BK360.out; have hcz6_4 := cz4 BK360.out; have hcz6_5 := cz5 BK360.out; have hcz6_6 := cz6 BK360.out; have hcz6_7 := cz7 BK360.out; have hfz6_0 := blk_frozen BK360.out 0; have hfz6_1 := blk_frozen BK360.out 1; have hfz6_2 := blk_frozen BK360.out 2; have hfz6_3 := blk_frozen BK360.out 3; have hfz6_4 := blk_frozen BK360.out 4; have hfz6_5 := blk_frozen BK360.out 5; have hfz6_6 := blk_frozen BK360.out 6; have hfz6_7 := blk_frozen BK360.out 7) | ((with_reducible refine gate_callee (f := 13) rfl ?_); refine goesL_ (some 20) rfl rfl Tryd.func13 (by kernel_rfl) rfl #[.agg #[.slice A0_0 l0_0.length c0_0, .int .i64 a0_1, .int .i64 a0_2, .int .i64 a0_3, .int .i64 a0_4, .int .i64 a0_5, .int .i64 a0_6, .int .i64 a0_7]] rfl (map1 rfl) ?_; (with_reducible refine (quilllaw10_Heavy.calls k _ _ l0_0 a0_1 a0_2 a0_3 a0_4 a0_5 a0_6 a0_7 true _ ?side1 ?side2 A3.out).mono ?_); (case side1 => repeat (first | exact (Kd.C_below HR0_0.out HB.out) | with_reducible first | refine Kd.C_drewN ?_ _ | refine Kd.C_drew ?_ | refine Kd.C_alloc ?_ _)); (case side2 => exact HC0_0.out); rintro e w7 ⟨rfl, hb⟩; refine ⟨_, rfl, ?_⟩; have n0_ := Aside0.mk (blb hb BK360.out); have n1_ := Aside0.mk (below_step (by repeat with_reducible first | exact HB.out | apply pw_below_drewN | refine below_set ?_ GE360.out | apply below_drew1 | apply below_alloc) hb); clear BK360; clear HB; have BK360 := n0_; have HB := n1_; clear n0_ n1_; (try clear hb); (try clear hb2); (try clear hk); (try clear hi)))
  go_ret
  exact ⟨by first | rfl | (simp [errW_none, errW_some] <;> rfl) | (simp [*, errW_none, errW_some] <;> rfl), by repeat with_reducible first | exact HB.out | apply pw_below_drewN | refine below_set ?_ GE360.out | apply below_drew1 | apply below_alloc⟩
 replace c4 := Bool.eq_false_iff.mpr c4
 subst c4
 have H1 : (quilllaw15_pieces.l0 k l1 0 l0_0 a0_1 a0_2 a0_3 a0_4 a0_5 a0_6 a0_7) = some r := by rw [if_neg (show ¬ (false = true) by decide)] at H; exact H
 clear H
 have H := H1
 clear H1
 have H' := Aside0.mk H
 clear H
 go_enter Tryd.func12, Tryd.ntmps12
 go_wp2_with (first | ((with_reducible refine gate_dst (N := 2) rfl ?_); (try (refine gate_guard (by rfl) ?_; dsimp only)); refine box_event ?hg (N := 2) ?hd (cs := #[.slice A0_0 l0_0.length c0_0, .int .i64 a0_1, .int .i64 a0_2, .int .i64 a0_3, .int .i64 a0_4, .int .i64 a0_5, .int .i64 a0_6, .int .i64 a0_7]) (t := 28) ?hr ?_; (case hd => rfl); (case hg => rfl); (case hr => first | (go_simp; done) | (go_simp; rfl)); intro gb360 hg w8 hbox hb; have n0_ := Aside0.mk (below_step (by repeat with_reducible first | exact HB.out | apply pw_below_drewN | apply below_drew1 | apply below_alloc) hb); have n1_ := Aside0.mk (hbox); have n2_ := Aside0.mk (geb hg (by repeat with_reducible first | exact HB.out | apply pw_below_drewN | apply below_drew1 | apply below_alloc)); have n3_ := n2_; clear HB; have HB := n0_; have BK360 := n1_; have GW360 := n2_; have GE360 := n3_; clear n0_ n1_ n2_ n3_; clear hb hbox hg; have hcz9_0 := cz0 BK360.out; have hcz9_1 := cz1 BK360.out; have hcz9_2 := cz2 BK360.out; have hcz9_3 := cz3 BK360.out; have hcz9_4 := cz4 BK360.out; have hcz9_5 := cz5 BK360.out; have hcz9_6 := cz6 BK360.out; have hcz9_7 := cz7 BK360.out; have hfz9_0 := blk_frozen BK360.out 0; have hfz9_1 := blk_frozen BK360.out 1; have hfz9_2 := blk_frozen BK360.out 2; have hfz9_3 := blk_frozen BK360.out 3; have hfz9_4 := blk_frozen BK360.out 4; have hfz9_5 := blk_frozen BK360.out 5; have hfz9_6 := blk_frozen BK360.out 6; have hfz9_7 := blk_frozen BK360.out 7) | ((with_reducible refine gate_callee (f := 13) rfl ?_); refine goesL_ (some 20) rfl rfl Tryd.func13 (by kernel_rfl) rfl #[.agg #[.slice A0_0 l0_0.length c0_0, .int .i64 a0_1, .int .i64 a0_2, .int .i64 a0_3, .int .i64 a0_4, .int .i64 a0_5, .int .i64 a0_6, .int .i64 a0_7]] rfl (map1 rfl) ?_; (with_reducible refine (quilllaw10_Heavy.calls k _ _ l0_0 a0_1 a0_2 a0_3 a0_4 a0_5 a0_6 a0_7 false _ ?side1 ?side2 A3.out).mono ?_); (case side1 => repeat (first | exact (Kd.C_below HR0_0.out HB.out) | with_reducible first | refine Kd.C_drewN ?_ _ | refine Kd.C_drew ?_ | refine Kd.C_alloc ?_ _)); (case side2 => exact HC0_0.out); rintro e w10 ⟨rfl, hb⟩; refine ⟨_, rfl, ?_⟩; have n0_ := Aside0.mk (blb hb BK360.out); have n1_ := Aside0.mk (below_step (by repeat with_reducible first | exact HB.out | apply pw_below_drewN | refine below_set ?_ GE360.out | apply below_drew1 | apply below_alloc) hb); clear BK360; clear HB; have BK360 := n0_; have HB := n1_; clear n0_ n1_; (try clear hb); (try clear hb2); (try clear hk); (try clear hi)))
 go_loopg [5] k (fun kq v5 w' => ∃ (x5_1 : Int), v5 = .int .i64 x5_1 ∧ Aside0 (quilllaw15_pieces.l0 kq l1 x5_1 l0_0 a0_1 a0_2 a0_3 a0_4 a0_5 a0_6 a0_7 = some r) ∧ Aside0 (kq ≤ k) ∧ Aside0 (w'.heap[gb360]? = some (.cells #[(.slice A0_0 l0_0.length c0_0), .int .i64 a0_1, .int .i64 a0_2, .int .i64 a0_3, .int .i64 a0_4, .int .i64 a0_5, .int .i64 a0_6, .int .i64 a0_7] 28 (0, 0))) ∧ Aside0 (Below w.heap.size w w'))
 case atStart => exact ⟨(0), (by first | rfl | (simp; done) | (simp [*]; done)), H', ⟨Nat.le_refl _⟩, ⟨BK360.out⟩, ⟨by repeat with_reducible first | exact HB.out | apply pw_below_drewN | refine below_set ?_ GE360.out | apply below_drew1 | apply below_alloc⟩⟩
 case round =>
  clear H'
  try clear c4
  try clear hcz9_0
  try clear hcz9_1
  try clear hcz9_2
  try clear hcz9_3
  try clear hcz9_4
  try clear hcz9_5
  try clear hcz9_6
  try clear hcz9_7
  try clear hfz9_0
  try clear hfz9_1
  try clear hfz9_2
  try clear hfz9_3
  try clear hfz9_4
  try clear hfz9_5
  try clear hfz9_6
  try clear hfz9_7
  obtain ⟨x5_1, rfl, HA, HK1, BK360, HB⟩ := hrel
  cases gk with
  | zero => exact absurd HA.out (by simp [quilllaw15_pieces.l0])
  | succ k1 =>
   have H := HA.out
   clear HA
   simp only [quilllaw15_pieces.l0] at H
   have HC11 := Aside0.mk H
   clear H
   go_upto_region 4 with (fail)
   go_cut [30] (fun v30 wc => ∃ (kq : Nat) (x30_10 : Bool), v30 = .bool x30_10 ∧ Aside0 (quilllaw15_pieces.j1 kq l1 x5_1 x30_10 l0_0 a0_1 a0_2 a0_3 a0_4 a0_5 a0_6 a0_7 = some r) ∧ Aside0 (kq ≤ k1) ∧ Aside0 (wc.heap[gb360]? = some (.cells #[(.slice A0_0 l0_0.length c0_0), .int .i64 a0_1, .int .i64 a0_2, .int .i64 a0_3, .int .i64 a0_4, .int .i64 a0_5, .int .i64 a0_6, .int .i64 a0_7] 28 (0, 0))) ∧ Aside0 (Below w.heap.size w wc))
   case first =>
    have H := HC11.out
    clear HC11
    by_cases c12 : x5_1 < (l0_0.length : Int)
    rotate_left
    ·
     rw [if_neg c12] at H
     have c12b0 := decide_eq_false c12
     clear c12
     (first | rw [c12b0] | (simp only [i64_w, i32_w]; rw [c12b0]) | skip)
     have H' := Aside0.mk H
     clear H
     have hcz14_0 := cz0 BK360.out
     have hcz14_1 := cz1 BK360.out
     have hcz14_2 := cz2 BK360.out
     have hcz14_3 := cz3 BK360.out
     have hcz14_4 := cz4 BK360.out
     have hcz14_5 := cz5 BK360.out
     have hcz14_6 := cz6 BK360.out
     have hcz14_7 := cz7 BK360.out
     have hfz14_0 := blk_frozen BK360.out 0
     have hfz14_1 := blk_frozen BK360.out 1
     have hfz14_2 := blk_frozen BK360.out 2
     have hfz14_3 := blk_frozen BK360.out 3
     have hfz14_4 := blk_frozen BK360.out 4
     have hfz14_5 := blk_frozen BK360.out 5
     have hfz14_6 := blk_frozen BK360.out 6
     have hfz14_7 := blk_frozen BK360.out 7
     go_wp2
     go_meet
     case rel => exact ⟨_, (false), (by first | rfl | (simp; done) | (simp [*]; done)), H', ⟨by have := HK1.out; first | omega | exact Nat.le_refl _⟩, ⟨BK360.out⟩, ⟨by repeat with_reducible first | exact HB.out | apply pw_below_drewN | refine below_set ?_ GE360.out | apply below_drew1 | apply below_alloc⟩⟩
    rw [if_pos c12] at H
    have c12b0 := decide_eq_true c12
    clear c12
    (first | rw [c12b0] | (simp only [i64_w, i32_w]; rw [c12b0]) | skip)
    have H' := Aside0.mk H
    clear H
    have hcz13_0 := cz0 BK360.out
    have hcz13_1 := cz1 BK360.out
    have hcz13_2 := cz2 BK360.out
    have hcz13_3 := cz3 BK360.out
    have hcz13_4 := cz4 BK360.out
    have hcz13_5 := cz5 BK360.out
    have hcz13_6 := cz6 BK360.out
    have hcz13_7 := cz7 BK360.out
    have hfz13_0 := blk_frozen BK360.out 0
    have hfz13_1 := blk_frozen BK360.out 1
    have hfz13_2 := blk_frozen BK360.out 2
    have hfz13_3 := blk_frozen BK360.out 3
    have hfz13_4 := blk_frozen BK360.out 4
    have hfz13_5 := blk_frozen BK360.out 5
    have hfz13_6 := blk_frozen BK360.out 6
    have hfz13_7 := blk_frozen BK360.out 7
    go_wp2
    go_meet
    case rel => exact ⟨_, (decide (x5_1 < 4)), (by first | rfl | (simp; done) | (simp [*]; done)), H', ⟨by have := HK1.out; first | omega | exact Nat.le_refl _⟩, ⟨BK360.out⟩, ⟨by repeat with_reducible first | exact HB.out | apply pw_below_drewN | refine below_set ?_ GE360.out | apply below_drew1 | apply below_alloc⟩⟩
   case rest =>
    clear HC11
    try clear c4
    try clear hcz9_0
    try clear hcz9_1
    try clear hcz9_2
    try clear hcz9_3
    try clear hcz9_4
    try clear hcz9_5
    try clear hcz9_6
    try clear hcz9_7
    try clear hfz9_0
    try clear hfz9_1
    try clear hfz9_2
    try clear hfz9_3
    try clear hfz9_4
    try clear hfz9_5
    try clear hfz9_6
    try clear hfz9_7
    obtain ⟨kq, x30_10, rfl, HA, HJ10, BK360, HB⟩ := hcut
    cases kq with
    | zero => exact absurd HA.out (by simp [quilllaw15_pieces.j1])
    | succ kj10 =>
     have H := HA.out
     clear HA
     simp only [quilllaw15_pieces.j1] at H
     by_cases c15 : x30_10 = true
     rotate_left
     ·
      replace c15 := Bool.eq_false_iff.mpr c15
      subst c15
      have H1 : ((quilllaw15_wakes.f kj10).bind fun t362 => (some t362)) = some r := by rw [if_neg (show ¬ (false = true) by decide)] at H; exact H
      clear H
      have H := H1
      clear H1
      replace H := Option.bind_eq_some_iff.mp H
      obtain ⟨t362, A1330, H⟩ := H
      (try dsimp only at H)
      have A133 := Aside0.mk A1330
      clear A1330
      obtain rfl := Option.some.inj H
      go_wp2_with (first | ((with_reducible refine gate_callee (f := 17) rfl ?_); refine goesL_ (some 155) rfl rfl Tryd.func17 (by kernel_rfl) rfl #[] rfl (map0) ?_; (with_reducible refine (quilllaw15_wakes.calls kj10  t362 _ ?side1 A133.out).mono ?_); (case side1 => exact Tabs.below HT.out (by repeat with_reducible first | exact HB.out | apply pw_below_drewN | refine below_set ?_ GE360.out | apply below_drew1 | apply below_alloc)); rintro e w134 ⟨rfl, hb⟩; refine ⟨_, rfl, ?_⟩; have n0_ := Aside0.mk (blb hb BK360.out); have n1_ := Aside0.mk (below_step (by repeat with_reducible first | exact HB.out | apply pw_below_drewN | refine below_set ?_ GE360.out | apply below_drew1 | apply below_alloc) hb); clear BK360; clear HB; have BK360 := n0_; have HB := n1_; clear n0_ n1_; (try clear hb); (try clear hb2); (try clear hk); (try clear hi)))
      go_ret
      exact ⟨by first | rfl | (simp [errW_none, errW_some] <;> rfl) | (simp [*, errW_none, errW_some] <;> rfl), by repeat with_reducible first | exact HB.out | apply pw_below_drewN | refine below_set ?_ GE360.out | apply below_drew1 | apply below_alloc⟩
     subst c15
     have H1 : (if 0 ≤ x5_1 then (if x5_1 < (l0_0.length : Int) then (if (rdOf ByteArray.empty l0_0 x5_1).size ≤ 70368744177664 then ((some (runesOf (rdOf ByteArray.empty l0_0 x5_1) : List Int)).bind fun y364 => ((quilllaw10_Offsets.f kj10 l0_0 a0_1 a0_2 a0_3 a0_4 a0_5 a0_6 a0_7 y364).bind fun t367 => (quilllaw15_pieces.l1 kj10 l1 x5_1 (rdOf ByteArray.empty l0_0 x5_1) y364 t367 0 l0_0 a0_1 a0_2 a0_3 a0_4 a0_5 a0_6 a0_7))) else (none)) else (none)) else (none)) = some r := by rw [if_pos rfl] at H; exact H
     clear H
     have H := H1
     clear H1
     by_cases c16 : 0 ≤ x5_1
     rotate_left
     ·
      rw [if_neg c16] at H
      exact absurd H (by simp)
     rw [if_pos c16] at H
     have c16b0 := decide_eq_true c16
     clear c16
     by_cases c17 : x5_1 < (l0_0.length : Int)
     rotate_left
     ·
      rw [if_neg c17] at H
      exact absurd H (by simp)
     rw [if_pos c17] at H
     have c17b0 := decide_eq_true c17
     clear c17
     by_cases c18 : (rdOf ByteArray.empty l0_0 x5_1).size ≤ 70368744177664
     rotate_left
     ·
      rw [if_neg c18] at H
      exact absurd H (by simp)
     rw [if_pos c18] at H
     have c18b0 := eq_true c18
     have c18b1 := decide_eq_true c18
     clear c18
     obtain ⟨y364, hy364⟩ : ∃ y_ : List Int, y_ = (runesOf (rdOf ByteArray.empty l0_0 x5_1)) := ⟨_, rfl⟩
     replace H : ((quilllaw10_Offsets.f kj10 l0_0 a0_1 a0_2 a0_3 a0_4 a0_5 a0_6 a0_7 y364).bind fun t367 => (quilllaw15_pieces.l1 kj10 l1 x5_1 (rdOf ByteArray.empty l0_0 x5_1) y364 t367 0 l0_0 a0_1 a0_2 a0_3 a0_4 a0_5 a0_6 a0_7)) = some r := by first | (rw [hy364]; with_reducible exact H) | (have H2_ := (Option.bind_some _ _).symm.trans H; rw [hy364]; with_reducible exact H2_) | (have H2_ := (Option.bind_some _ _).symm.trans H; with_reducible exact H2_) | with_reducible exact H | (rw [hy364]; exact H) | exact H
     have Ny364 := Aside0.mk hy364
     clear hy364
     replace H := Option.bind_eq_some_iff.mp H
     obtain ⟨t367, A190, H⟩ := H
     (try dsimp only at H)
     have A19 := Aside0.mk A190
     clear A190
     have H' := Aside0.mk H
     clear H
     have hcz20_0 := cz0 BK360.out
     have hcz20_1 := cz1 BK360.out
     have hcz20_2 := cz2 BK360.out
     have hcz20_3 := cz3 BK360.out
     have hcz20_4 := cz4 BK360.out
     have hcz20_5 := cz5 BK360.out
     have hcz20_6 := cz6 BK360.out
     have hcz20_7 := cz7 BK360.out
     have hfz20_0 := blk_frozen BK360.out 0
     have hfz20_1 := blk_frozen BK360.out 1
     have hfz20_2 := blk_frozen BK360.out 2
     have hfz20_3 := blk_frozen BK360.out 3
     have hfz20_4 := blk_frozen BK360.out 4
     have hfz20_5 := blk_frozen BK360.out 5
     have hfz20_6 := blk_frozen BK360.out 6
     have hfz20_7 := blk_frozen BK360.out 7
     have p363 : 0 ≤ (x5_1 : Int) := of_decide_eq_true (by assumption)
     have q363 : x5_1 < (l0_0.length : Int) := of_decide_eq_true (by assumption)
     obtain ⟨ad363, e363, hx363_0⟩ := Kd.at_string HR0_0.out x5_1 p363 q363
     cases e363
     replace hx363_0 := (HB.out.cell (World.block_lt_of_cell? w _ hx363_0)).trans hx363_0
     replace p363 := eq_true p363
     replace q363 := eq_true q363
     go_wp2_with (first | ((with_reducible refine gate_dst (N := 40) rfl ?_); (try (refine gate_guard (by rfl) ?_; dsimp only)); refine R_runes (ok := fun _ => True) _ 21 rfl (N := 40) rfl 9 32 (.tmp 39) rfl (rdOf ByteArray.empty l0_0 x5_1) rfl Tryd.underlying9 Tryd.underlying32 Tryd.underlying21 (of_decide_eq_true (by assumption)) (fun _ _ => trivial) (Below.refl _ _) (Nat.le_refl _) ?_; intro v365 w21 ho22 hb hg_ hnew_; clear hg_ hnew_; (first | rw [← Ny364.out] at ho22 | (simp only [Int.reduceToNat] at ho22; rw [← Ny364.out] at ho22)); have n0_ := Aside0.mk (Kd.R_lower ho22 (below_size (by repeat with_reducible first | exact HB.out | apply pw_below_drewN | refine below_set ?_ GE360.out | apply below_drew1 | apply below_alloc))); have n1_ := Aside0.mk (blb hb BK360.out); have n2_ := Aside0.mk (below_step (by repeat with_reducible first | exact HB.out | apply pw_below_drewN | refine below_set ?_ GE360.out | apply below_drew1 | apply below_alloc) hb); clear BK360; clear HB; have HO366 := n0_; have BK360 := n1_; have HB := n2_; clear n0_ n1_ n2_; clear hb ho22; have hcz23_0 := cz0 BK360.out; have hcz23_1 := cz1 BK360.out; have hcz23_2 := cz2 BK360.out; have hcz23_3 := cz3 BK360.out; have hcz23_4 := cz4 BK360.out; have hcz23_5 := cz5 BK360.out; have hcz23_6 := cz6 BK360.out; have hcz23_7 := cz7 BK360.out; have hfz23_0 := blk_frozen BK360.out 0; have hfz23_1 := blk_frozen BK360.out 1; have hfz23_2 := blk_frozen BK360.out 2; have hfz23_3 := blk_frozen BK360.out 3; have hfz23_4 := blk_frozen BK360.out 4; have hfz23_5 := blk_frozen BK360.out 5; have hfz23_6 := blk_frozen BK360.out 6; have hfz23_7 := blk_frozen BK360.out 7; obtain ⟨Ao24, co24, eo24⟩ := Kd.R_slice HO366.out; subst eo24) | ((with_reducible refine gate_callee (f := 14) rfl ?_); refine goesL_ (some 43) rfl rfl Tryd.func14 (by kernel_rfl) rfl #[.agg #[.slice (some ad363) l0_0.length c0_0, .int .i64 a0_1, .int .i64 a0_2, .int .i64 a0_3, .int .i64 a0_4, .int .i64 a0_5, .int .i64 a0_6, .int .i64 a0_7], .slice Ao24 y364.length co24] rfl (map2 rfl rfl) ?_; (with_reducible refine (quilllaw10_Offsets.calls kj10 _ _ l0_0 a0_1 a0_2 a0_3 a0_4 a0_5 a0_6 a0_7 _ _ y364 t367 _ ?side1 ?side2 ?side3 ?side4 A19.out).mono ?_); (case side1 => repeat (first | exact (Kd.C_below HR0_0.out HB.out) | with_reducible first | refine Kd.C_drewN ?_ _ | refine Kd.C_drew ?_ | refine Kd.C_alloc ?_ _)); (case side2 => exact HC0_0.out); (case side3 => repeat (first | exact (Kd.R_reads' HO366.out).2.2 | with_reducible first | refine Kd.C_drewN ?_ _ | refine Kd.C_drew ?_ | refine Kd.C_alloc ?_ _)); (case side4 => exact (Kd.R_reads' HO366.out).2.1); rintro e w25 ⟨v368, rfl, ho0, hb⟩; refine ⟨_, rfl, ?_⟩; have n0_ := Aside0.mk (Kd.R_below (by (with_reducible repeat (first | apply Kd.R_alloc | apply Kd.R_drewN | apply Kd.R_drew)); exact HO366.out) hb); have n1_ := Aside0.mk (Kd.R_lower ho0 (below_size (by repeat with_reducible first | exact HB.out | apply pw_below_drewN | refine below_set ?_ GE360.out | apply below_drew1 | apply below_alloc))); have n2_ := Aside0.mk (blb hb BK360.out); have n3_ := Aside0.mk (below_step (by repeat with_reducible first | exact HB.out | apply pw_below_drewN | refine below_set ?_ GE360.out | apply below_drew1 | apply below_alloc) hb); clear HO366; clear BK360; clear HB; have HO366 := n0_; have HO369 := n1_; have BK360 := n2_; have HB := n3_; clear n0_ n1_ n2_ n3_; (try clear hb); (try clear hb2); (try clear hk); (try clear hi); (try clear ho0)))
     go_loopg [9] kj10 (fun kq v9 w' => ∃ (x9_3 : Int), v9 = .int .i64 x9_3 ∧ Aside0 (quilllaw15_pieces.l1 kq l1 x5_1 (rdOf ByteArray.empty l0_0 x5_1) y364 t367 x9_3 l0_0 a0_1 a0_2 a0_3 a0_4 a0_5 a0_6 a0_7 = some r) ∧ Aside0 (kq ≤ kj10) ∧ Aside0 (Kd.R (Kd.int .i32) 21 w' w.heap.size (fun _ => True) (.slice Ao24 y364.length co24) y364) ∧ Aside0 (Kd.R (Kd.int .i64) 3 w' w.heap.size (fun _ => True) v368 t367) ∧ Aside0 (w'.heap[gb360]? = some (.cells #[(.slice (some ad363) l0_0.length c0_0), .int .i64 a0_1, .int .i64 a0_2, .int .i64 a0_3, .int .i64 a0_4, .int .i64 a0_5, .int .i64 a0_6, .int .i64 a0_7] 28 (0, 0))) ∧ Aside0 (Below w.heap.size w w'))
     case atStart => exact ⟨(0), (by first | rfl | (simp; done) | (simp [*]; done)), H', ⟨Nat.le_refl _⟩, ⟨by (with_reducible repeat (first | apply Kd.R_alloc | apply Kd.R_drewN | apply Kd.R_drew)); exact HO366.out⟩, ⟨by (with_reducible repeat (first | apply Kd.R_alloc | apply Kd.R_drewN | apply Kd.R_drew)); exact HO369.out⟩, ⟨BK360.out⟩, ⟨by repeat with_reducible first | exact HB.out | apply pw_below_drewN | refine below_set ?_ GE360.out | apply below_drew1 | apply below_alloc⟩⟩
     case round =>
      clear H'
      try clear c4
      try clear c15
      try clear c16
      try clear c16b0
      try clear c17
      try clear c17b0
      try clear c18
      try clear c18b0
      try clear c18b1
      try clear hcz20_0
      try clear hcz20_1
      try clear hcz20_2
      try clear hcz20_3
      try clear hcz20_4
      try clear hcz20_5
      try clear hcz20_6
      try clear hcz20_7
      try clear hcz23_0
      try clear hcz23_1
      try clear hcz23_2
      try clear hcz23_3
      try clear hcz23_4
      try clear hcz23_5
      try clear hcz23_6
      try clear hcz23_7
      try clear hcz9_0
      try clear hcz9_1
      try clear hcz9_2
      try clear hcz9_3
      try clear hcz9_4
      try clear hcz9_5
      try clear hcz9_6
      try clear hcz9_7
      try clear hfz20_0
      try clear hfz20_1
      try clear hfz20_2
      try clear hfz20_3
      try clear hfz20_4
      try clear hfz20_5
      try clear hfz20_6
      try clear hfz20_7
      try clear hfz23_0
      try clear hfz23_1
      try clear hfz23_2
      try clear hfz23_3
      try clear hfz23_4
      try clear hfz23_5
      try clear hfz23_6
      try clear hfz23_7
      try clear hfz9_0
      try clear hfz9_1
      try clear hfz9_2
      try clear hfz9_3
      try clear hfz9_4
      try clear hfz9_5
      try clear hfz9_6
      try clear hfz9_7
      try clear hx363_0
      try clear p363
      try clear q363
      obtain ⟨x9_3, rfl, HA, HK3, HO_7, HO_8, BK360, HB⟩ := hrel
      cases gk with
      | zero => exact absurd HA.out (by simp [quilllaw15_pieces.l1])
      | succ k3 =>
       have H := HA.out
       clear HA
       simp only [quilllaw15_pieces.l1] at H
       by_cases c26 : x9_3 < (t367.length : Int)
       rotate_left
       ·
        rw [if_neg c26] at H
        have c26b0 := decide_eq_false c26
        clear c26
        have H' := Aside0.mk H
        clear H
        obtain ⟨Ao132, co132, eo132⟩ := Kd.R_slice HO_8.out
        subst eo132
        go_wp2
        go_roundg k3
        case measure => have := HK1.out; have := HJ10.out; have := HK3.out; omega
        case rel => exact ⟨(wrap64 (x5_1 + 1)), (by first | rfl | (simp; done) | (simp [*]; done)), H', ⟨by have := HK1.out; have := HJ10.out; have := HK3.out; omega⟩, ⟨BK360.out⟩, ⟨by repeat with_reducible first | exact HB.out | apply pw_below_drewN | refine below_set ?_ GE360.out | apply below_drew1 | apply below_alloc⟩⟩
       rw [if_pos c26] at H
       have c26b0 := decide_eq_true c26
       clear c26
       have H' := Aside0.mk H
       clear H
       obtain ⟨Ao27, co27, eo27⟩ := Kd.R_slice HO_8.out
       subst eo27
       go_wp2
       go_loopg [10] k3 (fun kq v10 w' => ∃ (x10_4 : Int), v10 = .int .i64 x10_4 ∧ Aside0 (quilllaw15_pieces.l2 kq l1 x5_1 (rdOf ByteArray.empty l0_0 x5_1) y364 t367 x9_3 x10_4 l0_0 a0_1 a0_2 a0_3 a0_4 a0_5 a0_6 a0_7 = some r) ∧ Aside0 (kq ≤ k3) ∧ Aside0 (Kd.R (Kd.int .i32) 21 w' w.heap.size (fun _ => True) (.slice Ao24 y364.length co24) y364) ∧ Aside0 (Kd.R (Kd.int .i64) 3 w' w.heap.size (fun _ => True) (.slice Ao27 t367.length co27) t367) ∧ Aside0 (w'.heap[gb360]? = some (.cells #[(.slice (some ad363) l0_0.length c0_0), .int .i64 a0_1, .int .i64 a0_2, .int .i64 a0_3, .int .i64 a0_4, .int .i64 a0_5, .int .i64 a0_6, .int .i64 a0_7] 28 (0, 0))) ∧ Aside0 (Below w.heap.size w w'))
       case atStart => exact ⟨(0), (by first | rfl | (simp; done) | (simp [*]; done)), H', ⟨Nat.le_refl _⟩, ⟨by (with_reducible repeat (first | apply Kd.R_alloc | apply Kd.R_drewN | apply Kd.R_drew)); exact HO_7.out⟩, ⟨by (with_reducible repeat (first | apply Kd.R_alloc | apply Kd.R_drewN | apply Kd.R_drew)); exact HO_8.out⟩, ⟨BK360.out⟩, ⟨by repeat with_reducible first | exact HB.out | apply pw_below_drewN | refine below_set ?_ GE360.out | apply below_drew1 | apply below_alloc⟩⟩
       case round =>
        clear H'
        try clear c4
        try clear c15
        try clear c16
        try clear c16b0
        try clear c17
        try clear c17b0
        try clear c18
        try clear c18b0
        try clear c18b1
        try clear c26
        try clear c26b0
        try clear hcz20_0
        try clear hcz20_1
        try clear hcz20_2
        try clear hcz20_3
        try clear hcz20_4
        try clear hcz20_5
        try clear hcz20_6
        try clear hcz20_7
        try clear hcz23_0
        try clear hcz23_1
        try clear hcz23_2
        try clear hcz23_3
        try clear hcz23_4
        try clear hcz23_5
        try clear hcz23_6
        try clear hcz23_7
        try clear hcz9_0
        try clear hcz9_1
        try clear hcz9_2
        try clear hcz9_3
        try clear hcz9_4
        try clear hcz9_5
        try clear hcz9_6
        try clear hcz9_7
        try clear hfz20_0
        try clear hfz20_1
        try clear hfz20_2
        try clear hfz20_3
        try clear hfz20_4
        try clear hfz20_5
        try clear hfz20_6
        try clear hfz20_7
        try clear hfz23_0
        try clear hfz23_1
        try clear hfz23_2
        try clear hfz23_3
        try clear hfz23_4
        try clear hfz23_5
        try clear hfz23_6
        try clear hfz23_7
        try clear hfz9_0
        try clear hfz9_1
        try clear hfz9_2
        try clear hfz9_3
        try clear hfz9_4
        try clear hfz9_5
        try clear hfz9_6
        try clear hfz9_7
        try clear hx363_0
        try clear p363
        try clear q363
        obtain ⟨x10_4, rfl, HA, HK4, HO_7, HO_8, BK360, HB⟩ := hrel
        cases gk with
        | zero => exact absurd HA.out (by simp [quilllaw15_pieces.l2])
        | succ k4 =>
         have H := HA.out
         clear HA
         simp only [quilllaw15_pieces.l2] at H
         by_cases c28 : x10_4 < (l1.length : Int)
         rotate_left
         ·
          rw [if_neg c28] at H
          have c28b0 := decide_eq_false c28
          clear c28
          have H' := Aside0.mk H
          clear H
          go_wp2
          go_roundg k4
          case measure => have := HK1.out; have := HJ10.out; have := HK3.out; have := HK4.out; omega
          case rel => exact ⟨(wrap64 (x9_3 + 1)), (by first | rfl | (simp; done) | (simp [*]; done)), H', ⟨by have := HK1.out; have := HJ10.out; have := HK3.out; have := HK4.out; omega⟩, ⟨by (with_reducible repeat (first | apply Kd.R_alloc | apply Kd.R_drewN | apply Kd.R_drew)); exact HO_7.out⟩, ⟨by (with_reducible repeat (first | apply Kd.R_alloc | apply Kd.R_drewN | apply Kd.R_drew)); exact HO_8.out⟩, ⟨BK360.out⟩, ⟨by repeat with_reducible first | exact HB.out | apply pw_below_drewN | refine below_set ?_ GE360.out | apply below_drew1 | apply below_alloc⟩⟩
         rw [if_pos c28] at H
         have c28b0 := decide_eq_true c28
         clear c28
         have H' := Aside0.mk H
         clear H
         go_wp2
         go_loopg [11] k4 (fun kq v11 w' => ∃ (x11_5 : Int), v11 = .int .i64 x11_5 ∧ Aside0 (quilllaw15_pieces.l3 kq l1 x5_1 (rdOf ByteArray.empty l0_0 x5_1) y364 t367 x9_3 x10_4 x11_5 l0_0 a0_1 a0_2 a0_3 a0_4 a0_5 a0_6 a0_7 = some r) ∧ Aside0 (kq ≤ k4) ∧ Aside0 (Kd.R (Kd.int .i32) 21 w' w.heap.size (fun _ => True) (.slice Ao24 y364.length co24) y364) ∧ Aside0 (Kd.R (Kd.int .i64) 3 w' w.heap.size (fun _ => True) (.slice Ao27 t367.length co27) t367) ∧ Aside0 (w'.heap[gb360]? = some (.cells #[(.slice (some ad363) l0_0.length c0_0), .int .i64 a0_1, .int .i64 a0_2, .int .i64 a0_3, .int .i64 a0_4, .int .i64 a0_5, .int .i64 a0_6, .int .i64 a0_7] 28 (0, 0))) ∧ Aside0 (Below w.heap.size w w'))
         case atStart => exact ⟨(0), (by first | rfl | (simp; done) | (simp [*]; done)), H', ⟨Nat.le_refl _⟩, ⟨by (with_reducible repeat (first | apply Kd.R_alloc | apply Kd.R_drewN | apply Kd.R_drew)); exact HO_7.out⟩, ⟨by (with_reducible repeat (first | apply Kd.R_alloc | apply Kd.R_drewN | apply Kd.R_drew)); exact HO_8.out⟩, ⟨BK360.out⟩, ⟨by repeat with_reducible first | exact HB.out | apply pw_below_drewN | refine below_set ?_ GE360.out | apply below_drew1 | apply below_alloc⟩⟩
         case round =>
          clear H'
          try clear c4
          try clear c15
          try clear c16
          try clear c16b0
          try clear c17
          try clear c17b0
          try clear c18
          try clear c18b0
          try clear c18b1
          try clear c26
          try clear c26b0
          try clear c28
          try clear c28b0
          try clear hcz20_0
          try clear hcz20_1
          try clear hcz20_2
          try clear hcz20_3
          try clear hcz20_4
          try clear hcz20_5
          try clear hcz20_6
          try clear hcz20_7
          try clear hcz23_0
          try clear hcz23_1
          try clear hcz23_2
          try clear hcz23_3
          try clear hcz23_4
          try clear hcz23_5
          try clear hcz23_6
          try clear hcz23_7
          try clear hcz9_0
          try clear hcz9_1
          try clear hcz9_2
          try clear hcz9_3
          try clear hcz9_4
          try clear hcz9_5
          try clear hcz9_6
          try clear hcz9_7
          try clear hfz20_0
          try clear hfz20_1
          try clear hfz20_2
          try clear hfz20_3
          try clear hfz20_4
          try clear hfz20_5
          try clear hfz20_6
          try clear hfz20_7
          try clear hfz23_0
          try clear hfz23_1
          try clear hfz23_2
          try clear hfz23_3
          try clear hfz23_4
          try clear hfz23_5
          try clear hfz23_6
          try clear hfz23_7
          try clear hfz9_0
          try clear hfz9_1
          try clear hfz9_2
          try clear hfz9_3
          try clear hfz9_4
          try clear hfz9_5
          try clear hfz9_6
          try clear hfz9_7
          try clear hx363_0
          try clear p363
          try clear q363
          obtain ⟨x11_5, rfl, HA, HK5, HO_7, HO_8, BK360, HB⟩ := hrel
          cases gk with
          | zero => exact absurd HA.out (by simp [quilllaw15_pieces.l3])
          | succ k5 =>
           have H := HA.out
           clear HA
           simp only [quilllaw15_pieces.l3] at H
           by_cases c29 : x11_5 < 3
           rotate_left
           ·
            rw [if_neg c29] at H
            have c29b0 := decide_eq_false c29
            clear c29
            have H' := Aside0.mk H
            clear H
            go_wp2
            go_roundg k5
            case measure => have := HK1.out; have := HJ10.out; have := HK3.out; have := HK4.out; have := HK5.out; omega
            case rel => exact ⟨(wrap64 (x10_4 + 1)), (by first | rfl | (simp; done) | (simp [*]; done)), H', ⟨by have := HK1.out; have := HJ10.out; have := HK3.out; have := HK4.out; have := HK5.out; omega⟩, ⟨by (with_reducible repeat (first | apply Kd.R_alloc | apply Kd.R_drewN | apply Kd.R_drew)); exact HO_7.out⟩, ⟨by (with_reducible repeat (first | apply Kd.R_alloc | apply Kd.R_drewN | apply Kd.R_drew)); exact HO_8.out⟩, ⟨BK360.out⟩, ⟨by repeat with_reducible first | exact HB.out | apply pw_below_drewN | refine below_set ?_ GE360.out | apply below_drew1 | apply below_alloc⟩⟩
           rw [if_pos c29] at H
           have c29b0 := decide_eq_true c29
           clear c29
           obtain ⟨y370, hy370⟩ : ∃ y_ : List Int, y_ = (([105, 97, a0_5] : List Int)) := ⟨_, rfl⟩
           replace H : (if 0 ≤ x11_5 then (if x11_5 < (y370.length : Int) then (quilllaw15_pieces.l4 k5 l1 x5_1 (rdOf ByteArray.empty l0_0 x5_1) y364 t367 x9_3 x10_4 x11_5 (rd y370 x11_5) (([1, wrap64 (1 + (Int.tmod x9_3 3)), a0_6] : List Int)) 0 l0_0 a0_1 a0_2 a0_3 a0_4 a0_5 a0_6 a0_7) else (none)) else (none)) = some r := by first | (rw [hy370]; with_reducible exact H) | (have H2_ := (Option.bind_some _ _).symm.trans H; rw [hy370]; with_reducible exact H2_) | (have H2_ := (Option.bind_some _ _).symm.trans H; with_reducible exact H2_) | with_reducible exact H | (rw [hy370]; exact H) | exact H
           have Ny370 := Aside0.mk hy370
           clear hy370
           by_cases c30 : 0 ≤ x11_5
           rotate_left
           ·
            rw [if_neg c30] at H
            exact absurd H (by simp)
           rw [if_pos c30] at H
           have c30b0 := decide_eq_true c30
           clear c30
           by_cases c31 : x11_5 < (y370.length : Int)
           rotate_left
           ·
            rw [if_neg c31] at H
            exact absurd H (by simp)
           rw [if_pos c31] at H
           have c31b0 := decide_eq_true c31
           clear c31
           obtain ⟨y374, hy374⟩ : ∃ y_ : List Int, y_ = (([1, wrap64 (1 + (Int.tmod x9_3 3)), a0_6] : List Int)) := ⟨_, rfl⟩
           replace H : (quilllaw15_pieces.l4 k5 l1 x5_1 (rdOf ByteArray.empty l0_0 x5_1) y364 t367 x9_3 x10_4 x11_5 (rd y370 x11_5) y374 0 l0_0 a0_1 a0_2 a0_3 a0_4 a0_5 a0_6 a0_7) = some r := by first | (rw [hy374]; with_reducible exact H) | (have H2_ := (Option.bind_some _ _).symm.trans H; rw [hy374]; with_reducible exact H2_) | (have H2_ := (Option.bind_some _ _).symm.trans H; with_reducible exact H2_) | with_reducible exact H | (rw [hy374]; exact H) | exact H
           have Ny374 := Aside0.mk hy374
           clear hy374
           have H' := Aside0.mk H
           clear H
           have hcz32_0 := cz0 BK360.out
           have hcz32_1 := cz1 BK360.out
           have hcz32_2 := cz2 BK360.out
           have hcz32_3 := cz3 BK360.out
           have hcz32_4 := cz4 BK360.out
           have hcz32_5 := cz5 BK360.out
           have hcz32_6 := cz6 BK360.out
           have hcz32_7 := cz7 BK360.out
           have hfz32_0 := blk_frozen BK360.out 0
           have hfz32_1 := blk_frozen BK360.out 1
           have hfz32_2 := blk_frozen BK360.out 2
           have hfz32_3 := blk_frozen BK360.out 3
           have hfz32_4 := blk_frozen BK360.out 4
           have hfz32_5 := blk_frozen BK360.out 5
           have hfz32_6 := blk_frozen BK360.out 6
           have hfz32_7 := blk_frozen BK360.out 7
           go_wp2_with (first | ((with_reducible refine gate_dst (N := 62) rfl ?_); (try (refine gate_guard (by rfl) ?_; dsimp only)); refine Kd.R_lit (Kd.int .i64) _ 3 ?hg (N := 62) ?hd (xs := ([105, 97, a0_5] : List Int)) (inner := [.int .i64 105, .int .i64 97, .int .i64 a0_5]) (ok := fun _ => True) (okp := fun _ => True) ?hr ?hp (fun _ hk => hk) trivial (Below.refl _ _) (Nat.le_refl _) (by simp) ?_; (case hd => rfl); (case hg => rfl); (case hr => first | (go_simp; done) | (go_simp; rfl)); (case hp => exact (Reps.one (show Kd.M (Kd.int .i64) _ _ _ 105 [.int .i64 105] from rfl) (Reps.one (show Kd.M (Kd.int .i64) _ _ _ 97 [.int .i64 97] from rfl) (Reps.one (show Kd.M (Kd.int .i64) _ _ _ a0_5 [.int .i64 a0_5] from rfl) (Reps.none _ _))))); intro v371 w33 ho34 hb hg_ hnew_; clear hg_ hnew_; (first | rw [← Ny370.out] at ho34 | (simp only [Int.reduceToNat] at ho34; rw [← Ny370.out] at ho34)); have n0_ := Aside0.mk (Kd.R_below (by (with_reducible repeat (first | apply Kd.R_alloc | apply Kd.R_drewN | apply Kd.R_drew)); exact HO_7.out) hb); have n1_ := Aside0.mk (Kd.R_elder' (by (with_reducible repeat (first | apply Kd.R_alloc | apply Kd.R_drewN | apply Kd.R_drew)); exact HO_8.out) (Kd.R_base ho34) hb); have n2_ := Aside0.mk (Kd.R_lower (Kd.R_new' ho34 (Kd.R_lt (by (with_reducible repeat (first | apply Kd.R_alloc | apply Kd.R_drewN | apply Kd.R_drew)); exact HO_8.out))) (below_size (by repeat with_reducible first | exact HB.out | apply pw_below_drewN | refine below_set ?_ GE360.out | apply below_drew1 | apply below_alloc))); have n3_ := Aside0.mk (blb hb BK360.out); have n4_ := Aside0.mk (below_step (by repeat with_reducible first | exact HB.out | apply pw_below_drewN | refine below_set ?_ GE360.out | apply below_drew1 | apply below_alloc) hb); clear HO_7; clear HO_8; clear BK360; clear HB; have HO_7 := n0_; have HO_8 := n1_; have HO372 := n2_; have BK360 := n3_; have HB := n4_; clear n0_ n1_ n2_ n3_ n4_; clear hb ho34; obtain ⟨Ao35, co35, eo35⟩ := Kd.R_slice HO372.out; subst eo35; have p373 : 0 ≤ (x11_5 : Int) := of_decide_eq_true (by assumption); have q373 : x11_5 < (y370.length : Int) := of_decide_eq_true (by assumption); obtain ⟨ad373, e373, hx373_0⟩ := Kd.at_int (Kd.R_reads' HO372.out).2.2 x11_5 p373 q373; cases e373; replace p373 := eq_true p373; replace q373 := eq_true q373; have hcz36_0 := cz0 BK360.out; have hcz36_1 := cz1 BK360.out; have hcz36_2 := cz2 BK360.out; have hcz36_3 := cz3 BK360.out; have hcz36_4 := cz4 BK360.out; have hcz36_5 := cz5 BK360.out; have hcz36_6 := cz6 BK360.out; have hcz36_7 := cz7 BK360.out; have hfz36_0 := blk_frozen BK360.out 0; have hfz36_1 := blk_frozen BK360.out 1; have hfz36_2 := blk_frozen BK360.out 2; have hfz36_3 := blk_frozen BK360.out 3; have hfz36_4 := blk_frozen BK360.out 4; have hfz36_5 := blk_frozen BK360.out 5; have hfz36_6 := blk_frozen BK360.out 6; have hfz36_7 := blk_frozen BK360.out 7) | ((with_reducible refine gate_dst (N := 71) rfl ?_); (try (refine gate_guard (by rfl) ?_; dsimp only)); refine Kd.R_lit (Kd.int .i64) _ 3 ?hg (N := 71) ?hd (xs := ([1, wrap64 (1 + (Int.tmod x9_3 3)), a0_6] : List Int)) (inner := [.int .i64 1, .int .i64 (wrap64 (1 + (Int.tmod x9_3 3))), .int .i64 a0_6]) (ok := fun _ => True) (okp := fun _ => True) ?hr ?hp (fun _ hk => hk) trivial (Below.refl _ _) (Nat.le_refl _) (by simp) ?_; (case hd => rfl); (case hg => rfl); (case hr => first | (go_simp; done) | (go_simp; rfl)); (case hp => exact (Reps.one (show Kd.M (Kd.int .i64) _ _ _ 1 [.int .i64 1] from rfl) (Reps.one (show Kd.M (Kd.int .i64) _ _ _ (wrap64 (1 + (Int.tmod x9_3 3))) [.int .i64 (wrap64 (1 + (Int.tmod x9_3 3)))] from rfl) (Reps.one (show Kd.M (Kd.int .i64) _ _ _ a0_6 [.int .i64 a0_6] from rfl) (Reps.none _ _))))); intro v375 w37 ho38 hb hg_ hnew_; clear hg_ hnew_; (first | rw [← Ny374.out] at ho38 | (simp only [Int.reduceToNat] at ho38; rw [← Ny374.out] at ho38)); have n0_ := Aside0.mk (Kd.R_below (by (with_reducible repeat (first | apply Kd.R_alloc | apply Kd.R_drewN | apply Kd.R_drew)); exact HO_7.out) hb); have n1_ := Aside0.mk (Kd.R_elder' (by (with_reducible repeat (first | apply Kd.R_alloc | apply Kd.R_drewN | apply Kd.R_drew)); exact HO_8.out) (Kd.R_base ho38) hb); have n2_ := Aside0.mk (Kd.R_elder' (by (with_reducible repeat (first | apply Kd.R_alloc | apply Kd.R_drewN | apply Kd.R_drew)); exact HO372.out) (Kd.R_base ho38) hb); have n3_ := Aside0.mk (Kd.R_lower (Kd.R_new' (Kd.R_new' ho38 (Kd.R_lt (by (with_reducible repeat (first | apply Kd.R_alloc | apply Kd.R_drewN | apply Kd.R_drew)); exact HO_8.out))) (Kd.R_lt (by (with_reducible repeat (first | apply Kd.R_alloc | apply Kd.R_drewN | apply Kd.R_drew)); exact HO372.out))) (below_size (by repeat with_reducible first | exact HB.out | apply pw_below_drewN | refine below_set ?_ GE360.out | apply below_drew1 | apply below_alloc))); have n4_ := Aside0.mk (blb hb BK360.out); have n5_ := Aside0.mk (below_step (by repeat with_reducible first | exact HB.out | apply pw_below_drewN | refine below_set ?_ GE360.out | apply below_drew1 | apply below_alloc) hb); clear HO_7; clear HO_8; clear HO372; clear BK360; clear HB; have HO_7 := n0_; have HO_8 := n1_; have HO372 := n2_; have HO376 := n3_; have BK360 := n4_; have HB := n5_; clear n0_ n1_ n2_ n3_ n4_ n5_; clear hb ho38))
           go_loopg [14] k5 (fun kq v14 w' => ∃ (x14_6 : Int), v14 = .int .i64 x14_6 ∧ Aside0 (quilllaw15_pieces.l4 kq l1 x5_1 (rdOf ByteArray.empty l0_0 x5_1) y364 t367 x9_3 x10_4 x11_5 (rd y370 x11_5) y374 x14_6 l0_0 a0_1 a0_2 a0_3 a0_4 a0_5 a0_6 a0_7 = some r) ∧ Aside0 (kq ≤ k5) ∧ Aside0 (Kd.R (Kd.int .i32) 21 w' w.heap.size (fun _ => True) (.slice Ao24 y364.length co24) y364) ∧ Aside0 (Kd.R (Kd.int .i64) 3 w' w.heap.size (fun k_ => some k_ ≠ (v375 : Value).ownBlock) (.slice Ao27 t367.length co27) t367) ∧ Aside0 (Kd.R (Kd.int .i64) 3 w' w.heap.size (fun k_ => some k_ ≠ ((.slice Ao27 t367.length co27) : Value).ownBlock) v375 y374) ∧ Aside0 (w'.heap[gb360]? = some (.cells #[(.slice (some ad363) l0_0.length c0_0), .int .i64 a0_1, .int .i64 a0_2, .int .i64 a0_3, .int .i64 a0_4, .int .i64 a0_5, .int .i64 a0_6, .int .i64 a0_7] 28 (0, 0))) ∧ Aside0 (Below w.heap.size w w'))
           case atStart => exact ⟨(0), (by first | rfl | (simp; done) | (simp [*]; done)), H', ⟨Nat.le_refl _⟩, ⟨by (with_reducible repeat (first | apply Kd.R_alloc | apply Kd.R_drewN | apply Kd.R_drew)); exact HO_7.out⟩, ⟨by (with_reducible repeat (first | apply Kd.R_alloc | apply Kd.R_drewN | apply Kd.R_drew)); exact Kd.R_mono HO_8.out (fun _ hk => hk.2)⟩, ⟨by (with_reducible repeat (first | apply Kd.R_alloc | apply Kd.R_drewN | apply Kd.R_drew)); exact Kd.R_mono HO376.out (fun _ hk => hk.1.2)⟩, ⟨BK360.out⟩, ⟨by repeat with_reducible first | exact HB.out | apply pw_below_drewN | refine below_set ?_ GE360.out | apply below_drew1 | apply below_alloc⟩⟩
           case round =>
            clear H'
            try clear c4
            try clear c15
            try clear c16
            try clear c16b0
            try clear c17
            try clear c17b0
            try clear c18
            try clear c18b0
            try clear c18b1
            try clear c26
            try clear c26b0
            try clear c28
            try clear c28b0
            try clear c29
            try clear c29b0
            try clear c30
            try clear c30b0
            try clear c31
            try clear c31b0
            try clear hcz20_0
            try clear hcz20_1
            try clear hcz20_2
            try clear hcz20_3
            try clear hcz20_4
            try clear hcz20_5
            try clear hcz20_6
            try clear hcz20_7
            try clear hcz23_0
            try clear hcz23_1
            try clear hcz23_2
            try clear hcz23_3
            try clear hcz23_4
            try clear hcz23_5
            try clear hcz23_6
            try clear hcz23_7
            try clear hcz32_0
            try clear hcz32_1
            try clear hcz32_2
            try clear hcz32_3
            try clear hcz32_4
            try clear hcz32_5
            try clear hcz32_6
            try clear hcz32_7
            try clear hcz36_0
            try clear hcz36_1
            try clear hcz36_2
            try clear hcz36_3
            try clear hcz36_4
            try clear hcz36_5
            try clear hcz36_6
            try clear hcz36_7
            try clear hcz9_0
            try clear hcz9_1
            try clear hcz9_2
            try clear hcz9_3
            try clear hcz9_4
            try clear hcz9_5
            try clear hcz9_6
            try clear hcz9_7
            try clear hfz20_0
            try clear hfz20_1
            try clear hfz20_2
            try clear hfz20_3
            try clear hfz20_4
            try clear hfz20_5
            try clear hfz20_6
            try clear hfz20_7
            try clear hfz23_0
            try clear hfz23_1
            try clear hfz23_2
            try clear hfz23_3
            try clear hfz23_4
            try clear hfz23_5
            try clear hfz23_6
            try clear hfz23_7
            try clear hfz32_0
            try clear hfz32_1
            try clear hfz32_2
            try clear hfz32_3
            try clear hfz32_4
            try clear hfz32_5
            try clear hfz32_6
            try clear hfz32_7
            try clear hfz36_0
            try clear hfz36_1
            try clear hfz36_2
            try clear hfz36_3
            try clear hfz36_4
            try clear hfz36_5
            try clear hfz36_6
            try clear hfz36_7
            try clear hfz9_0
            try clear hfz9_1
            try clear hfz9_2
            try clear hfz9_3
            try clear hfz9_4
            try clear hfz9_5
            try clear hfz9_6
            try clear hfz9_7
            try clear hx363_0
            try clear hx373_0
            try clear p363
            try clear p373
            try clear q363
            try clear q373
            obtain ⟨x14_6, rfl, HA, HK6, HO_7, HO_8, HO_13, BK360, HB⟩ := hrel
            cases gk with
            | zero => exact absurd HA.out (by simp [quilllaw15_pieces.l4])
            | succ k6 =>
             have H := HA.out
             clear HA
             simp only [quilllaw15_pieces.l4] at H
             by_cases c39 : x14_6 < 3
             rotate_left
             ·
              rw [if_neg c39] at H
              have c39b0 := decide_eq_false c39
              clear c39
              have H' := Aside0.mk H
              clear H
              go_wp2
              go_roundg k6
              case measure => have := HK1.out; have := HJ10.out; have := HK3.out; have := HK4.out; have := HK5.out; have := HK6.out; omega
              case rel => exact ⟨(wrap64 (x11_5 + 1)), (by first | rfl | (simp; done) | (simp [*]; done)), H', ⟨by have := HK1.out; have := HJ10.out; have := HK3.out; have := HK4.out; have := HK5.out; have := HK6.out; omega⟩, ⟨by (with_reducible repeat (first | apply Kd.R_alloc | apply Kd.R_drewN | apply Kd.R_drew)); exact HO_7.out⟩, ⟨by (with_reducible repeat (first | apply Kd.R_alloc | apply Kd.R_drewN | apply Kd.R_drew)); exact Kd.R_mono HO_8.out (fun _ hk => trivial)⟩, ⟨BK360.out⟩, ⟨by repeat with_reducible first | exact HB.out | apply pw_below_drewN | refine below_set ?_ GE360.out | apply below_drew1 | apply below_alloc⟩⟩
             rw [if_pos c39] at H
             have c39b0 := decide_eq_true c39
             clear c39
             by_cases c40 : 0 ≤ x9_3
             rotate_left
             ·
              rw [if_neg c40] at H
              exact absurd H (by simp)
             rw [if_pos c40] at H
             have c40b0 := decide_eq_true c40
             clear c40
             by_cases c41 : x9_3 < (t367.length : Int)
             rotate_left
             ·
              rw [if_neg c41] at H
              exact absurd H (by simp)
             rw [if_pos c41] at H
             have c41b0 := decide_eq_true c41
             clear c41
             by_cases c42 : 0 ≤ x10_4
             rotate_left
             ·
              rw [if_neg c42] at H
              exact absurd H (by simp)
             rw [if_pos c42] at H
             have c42b0 := decide_eq_true c42
             clear c42
             by_cases c43 : x10_4 < (l1.length : Int)
             rotate_left
             ·
              rw [if_neg c43] at H
              exact absurd H (by simp)
             rw [if_pos c43] at H
             have c43b0 := decide_eq_true c43
             clear c43
             by_cases c44 : 0 ≤ x14_6
             rotate_left
             ·
              rw [if_neg c44] at H
              exact absurd H (by simp)
             rw [if_pos c44] at H
             have c44b0 := decide_eq_true c44
             clear c44
             by_cases c45 : x14_6 < (y374.length : Int)
             rotate_left
             ·
              rw [if_neg c45] at H
              exact absurd H (by simp)
             rw [if_pos c45] at H
             have c45b0 := decide_eq_true c45
             clear c45
             replace H := Option.bind_eq_some_iff.mp H
             obtain ⟨⟨t380, t381, t382, t383⟩, A460, H⟩ := H
             (try dsimp only at H)
             have A46 := Aside0.mk A460
             clear A460
             have HC47 := Aside0.mk H
             clear H
             try go_wp2
             have n0_ := Aside0.mk (Kd.R_drew HO_7.out)
             have n1_ := Aside0.mk (Kd.R_drew HO_8.out)
             have n2_ := Aside0.mk (Kd.R_drew HO_13.out)
             have n3_ := Aside0.mk (blk_drew BK360.out)
             have n4_ := Aside0.mk (below_drew1 HB.out)
             clear HO_7
             clear HO_8
             clear HO_13
             clear BK360
             clear HB
             have HO_7 := n0_
             have HO_8 := n1_
             have HO_13 := n2_
             have BK360 := n3_
             have HB := n4_
             clear n0_ n1_ n2_ n3_ n4_
             have p377 : 0 ≤ (x9_3 : Int) := of_decide_eq_true (by assumption)
             have q377 : x9_3 < (t367.length : Int) := of_decide_eq_true (by assumption)
             obtain ⟨ad377, e377, hx377_0⟩ := Kd.at_int (Kd.R_reads' HO_8.out).2.2 x9_3 p377 q377
             cases e377
             replace p377 := eq_true p377
             replace q377 := eq_true q377
             have p378 : 0 ≤ (x10_4 : Int) := of_decide_eq_true (by assumption)
             have q378 : x10_4 < (l1.length : Int) := of_decide_eq_true (by assumption)
             obtain ⟨ad378, e378, hx378_0⟩ := Kd.at_int HR1.out x10_4 p378 q378
             have hw378_0 := hx378_0
             cases e378
             replace hx378_0 := (HB.out.cell (World.block_lt_of_cell? w _ hx378_0)).trans hx378_0
             replace p378 := eq_true p378
             replace q378 := eq_true q378
             obtain ⟨Ao49, co49, eo49⟩ := Kd.R_slice HO_13.out
             (first | subst eo49 | (injection eo49 with f1_ f2_ f3_; have f4_ := f1_.symm; have f5_ := f3_.symm; clear f1_ f2_ f3_; subst f4_; subst f5_))
             have p379 : 0 ≤ (x14_6 : Int) := of_decide_eq_true (by assumption)
             have q379 : x14_6 < (y374.length : Int) := of_decide_eq_true (by assumption)
             obtain ⟨ad379, e379, hx379_0⟩ := Kd.at_int (Kd.R_reads' HO_13.out).2.2 x14_6 p379 q379
             cases e379
             replace p379 := eq_true p379
             replace q379 := eq_true q379
             refine start_ (n := 21) (S := fun w' => w'.cell? (ad377.add (x9_3).toNat) = some (.int .i64 (rd t367 x9_3)) ∧ w'.cell? (ad378.add (x10_4).toNat) = some (.int .i64 (rd l1 x10_4)) ∧ w'.cell? (ad379.add (x14_6).toNat) = some (.int .i64 (rd y374 x14_6))) (ds := []) (bs 21 0) (by kernel_rfl) rfl rfl ⟨hx377_0, ((HB.out.cell (World.block_lt_of_cell? w _ hw378_0)).trans hw378_0), hx379_0⟩ (fun hHeld => ?_); refine with_tabW quilllaw15_pieces.tab23 quilllaw15_pieces.bits23 (fun HT_ HW_ => ?_)
             generalize wr.drew = w48 at HO_7 HO_8 HO_13 BK360 HB hx377_0 hx378_0 hx379_0 hHeld ⊢
             refine pure_ (i := 0) (N := some 77) (v := ?_) (a' := ?_) (bs 21 1) rfl rfl (any_of HT_.out (by kernel_rfl)) (fun _ _ _ h => h) (Or.inl ⟨by rfl, ?_⟩) ?_ ?_
             rotate_left
             · intro w'; go_simp; with_reducible rfl
             rotate_left
             · simp only [Act.put, List.setIfInBounds_toArray, List.set_cons_zero, List.set_cons_succ, i64_w, i32_w]; rfl
             refine pure_ (i := 1) (N := some 78) (v := ?_) (a' := ?_) (bs 21 3) rfl rfl (any_of HT_.out (by kernel_rfl)) (fun _ _ _ h => h) (Or.inl ⟨by rfl, ?_⟩) ?_ ?_
             rotate_left
             · intro w'; go_simp; with_reducible rfl
             rotate_left
             · simp only [Act.put, List.setIfInBounds_toArray, List.set_cons_zero, List.set_cons_succ, i64_w, i32_w]; rfl
             refine pure_ (i := 2) (N := some 79) (v := ?_) (a' := ?_) (bs 21 7) rfl rfl (any_of HT_.out (by kernel_rfl)) (fun _ _ _ h => h) (Or.inl ⟨by rfl, ?_⟩) ?_ ?_
             rotate_left
             · intro w'; go_simp; with_reducible rfl
             rotate_left
             · simp only [Act.put, List.setIfInBounds_toArray, List.set_cons_zero, List.set_cons_succ, i64_w, i32_w]; rfl
             refine pure_ (i := 3) (N := some 80) (v := ?_) (a' := ?_) (bs 21 15) rfl rfl (any_of HT_.out (by kernel_rfl)) (fun _ _ _ h => h) (Or.inl ⟨by rfl, ?_⟩) ?_ ?_
             rotate_left
             · intro w'; go_simp; with_reducible rfl
             rotate_left
             · simp only [Act.put, List.setIfInBounds_toArray, List.set_cons_zero, List.set_cons_succ, i64_w, i32_w]; rfl
             refine pure_ (i := 5) (N := some 82) (v := ?_) (a' := ?_) (bs 21 47) rfl rfl (any_of HT_.out (by kernel_rfl)) (fun _ _ _ h => h) (Or.inl ⟨by rfl, ?_⟩) ?_ ?_
             rotate_left
             · intro w'; go_simp; with_reducible rfl
             rotate_left
             · simp only [Act.put, List.setIfInBounds_toArray, List.set_cons_zero, List.set_cons_succ, i64_w, i32_w]; rfl
             refine pure_ (i := 6) (N := some 83) (v := ?_) (a' := ?_) (bs 21 111) rfl rfl (any_of HT_.out (by kernel_rfl)) (fun _ _ _ h => h) (Or.inl ⟨by rfl, ?_⟩) ?_ ?_
             rotate_left
             · intro w'; go_simp; with_reducible rfl
             rotate_left
             · simp only [Act.put, List.setIfInBounds_toArray, List.set_cons_zero, List.set_cons_succ, i64_w, i32_w]; rfl
             refine pure_ (i := 7) (N := some 84) (v := ?_) (a' := ?_) (bs 21 239) rfl rfl (any_of HT_.out (by kernel_rfl)) (fun _ _ _ h => h) (Or.inl ⟨by rfl, ?_⟩) ?_ ?_
             rotate_left
             · intro w'; go_simp; with_reducible rfl
             rotate_left
             · simp only [Act.put, List.setIfInBounds_toArray, List.set_cons_zero, List.set_cons_succ, i64_w, i32_w]; rfl
             refine pure_ (i := 8) (N := some 85) (v := ?_) (a' := ?_) (bs 21 495) rfl rfl (any_of HT_.out (by kernel_rfl)) (fun _ _ _ h => h) (Or.inl ⟨by rfl, ?_⟩) ?_ ?_
             rotate_left
             · intro w'; go_simp; with_reducible rfl
             rotate_left
             · simp only [Act.put, List.setIfInBounds_toArray, List.set_cons_zero, List.set_cons_succ, i64_w, i32_w]; rfl
             refine pure_ (i := 10) (N := some 87) (v := ?_) (a' := ?_) (bs 21 1519) rfl rfl (any_of HT_.out (by kernel_rfl)) (fun _ _ _ h => h) (Or.inl ⟨by rfl, ?_⟩) ?_ ?_
             rotate_left
             · intro w'; go_simp; with_reducible rfl
             rotate_left
             · simp only [Act.put, List.setIfInBounds_toArray, List.set_cons_zero, List.set_cons_succ, i64_w, i32_w]; rfl
             refine pure_ (i := 11) (N := some 88) (v := ?_) (a' := ?_) (bs 21 3567) rfl rfl (any_of HT_.out (by kernel_rfl)) (fun _ _ _ h => h) (Or.inl ⟨by rfl, ?_⟩) ?_ ?_
             rotate_left
             · intro w'; go_simp; with_reducible rfl
             rotate_left
             · simp only [Act.put, List.setIfInBounds_toArray, List.set_cons_zero, List.set_cons_succ, i64_w, i32_w]; rfl
             refine pure_ (i := 12) (N := some 89) (v := ?_) (a' := ?_) (bs 21 7663) rfl rfl (any_of HT_.out (by kernel_rfl)) (fun _ _ _ h => h) (Or.inl ⟨by rfl, ?_⟩) ?_ ?_
             rotate_left
             · intro w'; go_simp; with_reducible rfl
             rotate_left
             · simp only [Act.put, List.setIfInBounds_toArray, List.set_cons_zero, List.set_cons_succ, i64_w, i32_w]; rfl
             refine take_ (i := 4) (N := some 81) (v := ?_) (a' := ?_) (bs 21 7679) rfl rfl (take_ofW HT_.out HW_.out (by kernel_rfl)) (fun _ _ _ h => h) (Or.inl ⟨by rfl, ?_⟩) hHeld ?_ ?_
             rotate_left
             · rintro w' ⟨s0, s1, s2⟩; go_simp; with_reducible rfl
             rotate_left
             · simp only [Act.put, List.setIfInBounds_toArray, List.set_cons_zero, List.set_cons_succ, i64_w, i32_w]; rfl
             refine take_ (i := 9) (N := some 86) (v := ?_) (a' := ?_) (bs 21 8191) rfl rfl (take_ofW HT_.out HW_.out (by kernel_rfl)) (fun _ _ _ h => h) (Or.inl ⟨by rfl, ?_⟩) hHeld ?_ ?_
             rotate_left
             · rintro w' ⟨s0, s1, s2⟩; go_simp; with_reducible rfl
             rotate_left
             · simp only [Act.put, List.setIfInBounds_toArray, List.set_cons_zero, List.set_cons_succ, i64_w, i32_w]; rfl
             refine take_ (i := 13) (N := some 90) (v := ?_) (a' := ?_) (bs 21 16383) rfl rfl (take_ofW HT_.out HW_.out (by kernel_rfl)) (fun _ _ _ h => h) (Or.inl ⟨by rfl, ?_⟩) hHeld ?_ ?_
             rotate_left
             · rintro w' ⟨s0, s1, s2⟩; go_simp; with_reducible rfl
             rotate_left
             · simp only [Act.put, List.setIfInBounds_toArray, List.set_cons_zero, List.set_cons_succ, i64_w, i32_w]; rfl
             refine join_ (σ := Nat) 2 #[true, true, true, true, true, true, true, true, true, true, true, true, true, true, true, true, true, true, true, false, false] (fun s_ => [(91, .tuple #[.agg #[.int .i64 t380, .int .i64 t381, .bool t382], .int .i64 t383]), (15, .pointer (some ⟨s_, 0, none⟩)), (76, .tuple #[.agg #[.int .i64 t380, .int .i64 t381, .bool t382], .int .i64 t383]), (92, .agg #[.int .i64 t380, .int .i64 t381, .bool t382]), (93, .int .i64 t383)]) (fun s_ w' => (w'.cell? (ad377.add (x9_3).toNat) = some (.int .i64 (rd t367 x9_3)) ∧ w'.cell? (ad378.add (x10_4).toNat) = some (.int .i64 (rd l1 x10_4)) ∧ w'.cell? (ad379.add (x14_6).toNat) = some (.int .i64 (rd y374 x14_6))) ∧ (Kd.R (Kd.int .i64) 3 w' w.heap.size (fun k_ => some k_ ≠ (.slice (some ad377) t367.length co27 : Value).ownBlock) (.slice (some ad379) y374.length co49) y374) ∧ (Kd.R (Kd.int .i32) 21 w' w.heap.size (fun _ => True) (.slice Ao24 y364.length co24) y364) ∧ (Kd.R (Kd.int .i64) 3 w' w.heap.size (fun k_ => some k_ ≠ (.slice (some ad379) y374.length co49 : Value).ownBlock) (.slice (some ad377) t367.length co27) t367) ∧ (w'.heap[gb360]? = some (.cells #[.slice (some ad363) l0_0.length c0_0, .int .i64 a0_1, .int .i64 a0_2, .int .i64 a0_3, .int .i64 a0_4, .int .i64 a0_5, .int .i64 a0_6, .int .i64 a0_7] 28 (0, 0))) ∧ (w'.heap[s_]? = some (.cells #[.int .i64 0, .int .i64 0, .bool false] 35 (0, 0))) ∧ (w.heap.size ≤ s_) ∧ (w.heap.size ≤ s_) ∧ (gb360 ≠ s_) ∧ (s_ ≠ gb360) ∧ (Below w.heap.size w w')) ?_ ?_
             rotate_left
             ·
              intro hCont
              refine two_ (i := 14) (j := 18) (Ni := some 91) (Nj := some 15) #[true, true, true, true, true, true, true, true, true, true, true, true, true, true, true, false, false, false, false, false, false] (bs 21 278527) rfl rfl rfl rfl (two_of HT_.out (by kernel_rfl)) (by decide) (by decide) (fun K hK => ?_) (fun K hK => ?_)
              ·
               skip
               refine goes_ Tryd.func15 (by kernel_rfl) rfl #[.string (rdOf ByteArray.empty l0_0 x5_1), .int .i64 (rd t367 x9_3), .int .i64 (rd y370 x11_5), .int .i64 (rd l1 x10_4), .int .i64 (rd y374 x14_6)] (by rfl) rfl rfl (by (try simp only [List.map_toArray, List.map_cons, List.map_nil]); first | done | rfl | (simp only [List.length_drop, List.length_take]; rfl)) ?_
               with_reducible refine (object_Piece.calls k6 (rdOf ByteArray.empty l0_0 x5_1) (rd t367 x9_3) (rd y370 x11_5) (rd l1 x10_4) (rd y374 x14_6) t380 t381 t382 t383 _ ?side1 A46.out).mono ?_
               (case side1 => exact Tabs.below HT.out (by repeat with_reducible first | exact HB.out | apply pw_below_drewN | refine below_set ?_ GE360.out | apply below_drew1 | apply below_alloc))
               rintro e w50 ⟨rfl, hb⟩
               have HS0_ := (hb.cell (World.block_lt_of_cell? _ _ (hHeld.1))).trans (hHeld.1)
               have HS2_ := (hb.cell (World.block_lt_of_cell? _ _ (hHeld.2.2))).trans (hHeld.2.2)
               refine ⟨_, rfl, ?_⟩
               have n0_ := Aside0.mk (Kd.R_below (by (with_reducible repeat (first | apply Kd.R_alloc | apply Kd.R_drewN | apply Kd.R_drew)); exact HO_7.out) hb)
               have n1_ := Aside0.mk (Kd.R_below (by (with_reducible repeat (first | apply Kd.R_alloc | apply Kd.R_drewN | apply Kd.R_drew)); exact HO_8.out) hb)
               have n2_ := Aside0.mk (Kd.R_below (by (with_reducible repeat (first | apply Kd.R_alloc | apply Kd.R_drewN | apply Kd.R_drew)); exact HO_13.out) hb)
               have n3_ := Aside0.mk (blb hb BK360.out)
               have n4_ := Aside0.mk (below_step (by repeat with_reducible first | exact HB.out | apply pw_below_drewN | refine below_set ?_ GE360.out | apply below_drew1 | apply below_alloc) hb)
               clear HO_7
               clear HO_8
               clear HO_13
               clear BK360
               clear HB
               have HO_7 := n0_
               have HO_8 := n1_
               have HO_13 := n2_
               have BK360 := n3_
               have HB := n4_
               clear n0_ n1_ n2_ n3_ n4_
               (try clear hb)
               (try clear hb2)
               (try clear hk)
               (try clear hi)
               refine hK.out _ _ ⟨HS0_, ((HB.out.cell (World.block_lt_of_cell? w _ hw378_0)).trans hw378_0), HS2_⟩ (fun hHeld => ?_)
               clear hK K
               refine norm_ (a' := ?_) ?_ ?_
               rotate_left
               · show Act.put _ (some 91) _ = _; simp only [Act.put, List.setIfInBounds_toArray, List.set_cons_zero, List.set_cons_succ, i64_w, i32_w]; rfl
               refine pure_ (i := 15) (N := some 76) (v := ?_) (a' := ?_) (bs 21 65535) rfl rfl (any_of HT_.out (by kernel_rfl)) (fun _ _ _ h => h) (Or.inl ⟨by rfl, ?_⟩) ?_ ?_
               rotate_left
               · intro w'; go_simp; with_reducible rfl
               rotate_left
               · simp only [Act.put, List.setIfInBounds_toArray, List.set_cons_zero, List.set_cons_succ, i64_w, i32_w]; rfl
               refine pure_ (i := 16) (N := some 92) (v := ?_) (a' := ?_) (bs 21 131071) rfl rfl (any_of HT_.out (by kernel_rfl)) (fun _ _ _ h => h) (Or.inl ⟨by rfl, ?_⟩) ?_ ?_
               rotate_left
               · intro w'; go_simp; with_reducible rfl
               rotate_left
               · simp only [Act.put, List.setIfInBounds_toArray, List.set_cons_zero, List.set_cons_succ, i64_w, i32_w]; rfl
               refine pure_ (i := 17) (N := some 93) (v := ?_) (a' := ?_) (bs 21 262143) rfl rfl (any_of HT_.out (by kernel_rfl)) (fun _ _ _ h => h) (Or.inl ⟨by rfl, ?_⟩) ?_ ?_
               rotate_left
               · intro w'; go_simp; with_reducible rfl
               rotate_left
               · simp only [Act.put, List.setIfInBounds_toArray, List.set_cons_zero, List.set_cons_succ, i64_w, i32_w]; rfl
               refine one_ (i := 18) (N := some 15) (bs 21 524287) rfl rfl (one_of HT_.out (by kernel_rfl)) (by decide) (fun K hK => ?_)
               refine box_step ?hg (N := 15) ?hd (cs := #[.int .i64 0, .int .i64 0, .bool false]) (t := 35) ?hr ?_; (case hd => rfl); (case hg => rfl); (case hr => first | (go_simp; done) | (go_simp; rfl))
               intro gb384 hg w51 hbox hb
               have HS0_ := (hb.cell (World.block_lt_of_cell? _ _ (hHeld.1))).trans (hHeld.1)
               have HS2_ := (hb.cell (World.block_lt_of_cell? _ _ (hHeld.2.2))).trans (hHeld.2.2)
               have n0_ := Aside0.mk (Kd.R_below (by (with_reducible repeat (first | apply Kd.R_alloc | apply Kd.R_drewN | apply Kd.R_drew)); exact HO_7.out) hb)
               have n1_ := Aside0.mk (Kd.R_below (by (with_reducible repeat (first | apply Kd.R_alloc | apply Kd.R_drewN | apply Kd.R_drew)); exact HO_8.out) hb)
               have n2_ := Aside0.mk (Kd.R_below (by (with_reducible repeat (first | apply Kd.R_alloc | apply Kd.R_drewN | apply Kd.R_drew)); exact HO_13.out) hb)
               have n3_ := Aside0.mk (blb hb BK360.out)
               have n4_ := Aside0.mk (below_step (by repeat with_reducible first | exact HB.out | apply pw_below_drewN | refine below_set ?_ GE360.out | apply below_drew1 | apply below_alloc) hb)
               have n5_ := Aside0.mk (hbox)
               have n6_ := Aside0.mk (geb hg (by repeat with_reducible first | exact HB.out | apply pw_below_drewN | refine below_set ?_ GE360.out | apply below_drew1 | apply below_alloc))
               have n7_ := Aside0.mk (geb hg (by repeat with_reducible first | exact HB.out | apply pw_below_drewN | refine below_set ?_ GE360.out | apply below_drew1 | apply below_alloc))
               have n8_ := Aside0.mk ((nbl hg BK360.out))
               have n9_ := Aside0.mk ((nbr hg BK360.out))
               clear HO_7
               clear HO_8
               clear HO_13
               clear BK360
               clear HB
               have HO_7 := n0_
               have HO_8 := n1_
               have HO_13 := n2_
               have BK360 := n3_
               have HB := n4_
               have BK384 := n5_
               have GW384 := n6_
               have GE384 := n7_
               have NB360_384 := n8_
               have NB384_360 := n9_
               clear n0_ n1_ n2_ n3_ n4_ n5_ n6_ n7_ n8_ n9_
               clear hb hbox hg
               refine hK.out _ _ ⟨HS0_, ((HB.out.cell (World.block_lt_of_cell? w _ hw378_0)).trans hw378_0), HS2_⟩ (fun hHeld => ?_)
               clear hK K
               refine norm_ (a' := ?_) ?_ ?_
               rotate_left
               · show Act.put _ (some 15) _ = _; simp only [Act.put, List.setIfInBounds_toArray, List.set_cons_zero, List.set_cons_succ, i64_w, i32_w]; rfl
               exact norm_ (by simp only [putAll, Act.put, List.setIfInBounds_toArray, List.set_cons_zero, List.set_cons_succ]) (hCont (gb384) _ ⟨hHeld, (by (with_reducible repeat (first | apply Kd.R_alloc | apply Kd.R_drewN | apply Kd.R_drew)); exact HO_13.out), (by (with_reducible repeat (first | apply Kd.R_alloc | apply Kd.R_drewN | apply Kd.R_drew)); exact HO_7.out), (by (with_reducible repeat (first | apply Kd.R_alloc | apply Kd.R_drewN | apply Kd.R_drew)); exact HO_8.out), (by exact BK360.out), (by exact BK384.out), GW384.out, GE384.out, NB360_384.out, NB384_360.out, (by repeat with_reducible first | exact HB.out | apply pw_below_drewN | refine below_set ?_ GE360.out | refine below_set ?_ GE384.out | apply below_drew1 | apply below_alloc)⟩)
              skip
              refine box_step ?hg (N := 15) ?hd (cs := #[.int .i64 0, .int .i64 0, .bool false]) (t := 35) ?hr ?_; (case hd => rfl); (case hg => rfl); (case hr => first | (go_simp; done) | (go_simp; rfl))
              intro gb384 hg w50 hbox hb
              have HS0_ := (hb.cell (World.block_lt_of_cell? _ _ (hHeld.1))).trans (hHeld.1)
              have HS2_ := (hb.cell (World.block_lt_of_cell? _ _ (hHeld.2.2))).trans (hHeld.2.2)
              have n0_ := Aside0.mk (Kd.R_below (by (with_reducible repeat (first | apply Kd.R_alloc | apply Kd.R_drewN | apply Kd.R_drew)); exact HO_7.out) hb)
              have n1_ := Aside0.mk (Kd.R_below (by (with_reducible repeat (first | apply Kd.R_alloc | apply Kd.R_drewN | apply Kd.R_drew)); exact HO_8.out) hb)
              have n2_ := Aside0.mk (Kd.R_below (by (with_reducible repeat (first | apply Kd.R_alloc | apply Kd.R_drewN | apply Kd.R_drew)); exact HO_13.out) hb)
              have n3_ := Aside0.mk (blb hb BK360.out)
              have n4_ := Aside0.mk (below_step (by repeat with_reducible first | exact HB.out | apply pw_below_drewN | refine below_set ?_ GE360.out | apply below_drew1 | apply below_alloc) hb)
              have n5_ := Aside0.mk (hbox)
              have n6_ := Aside0.mk (geb hg (by repeat with_reducible first | exact HB.out | apply pw_below_drewN | refine below_set ?_ GE360.out | apply below_drew1 | apply below_alloc))
              have n7_ := Aside0.mk (geb hg (by repeat with_reducible first | exact HB.out | apply pw_below_drewN | refine below_set ?_ GE360.out | apply below_drew1 | apply below_alloc))
              have n8_ := Aside0.mk ((nbl hg BK360.out))
              have n9_ := Aside0.mk ((nbr hg BK360.out))
              clear HO_7
              clear HO_8
              clear HO_13
              clear BK360
              clear HB
              have HO_7 := n0_
              have HO_8 := n1_
              have HO_13 := n2_
              have BK360 := n3_
              have HB := n4_
              have BK384 := n5_
              have GW384 := n6_
              have GE384 := n7_
              have NB360_384 := n8_
              have NB384_360 := n9_
              clear n0_ n1_ n2_ n3_ n4_ n5_ n6_ n7_ n8_ n9_
              clear hb hbox hg
              refine hK.out _ _ ⟨HS0_, ((HB.out.cell (World.block_lt_of_cell? w _ hw378_0)).trans hw378_0), HS2_⟩ (fun hHeld => ?_)
              clear hK K
              refine norm_ (a' := ?_) ?_ ?_
              rotate_left
              · show Act.put _ (some 15) _ = _; simp only [Act.put, List.setIfInBounds_toArray, List.set_cons_zero, List.set_cons_succ, i64_w, i32_w]; rfl
              refine one_ (i := 14) (N := some 91) (bs 21 294911) rfl rfl (one_of HT_.out (by kernel_rfl)) (by decide) (fun K hK => ?_)
              refine goes_ Tryd.func15 (by kernel_rfl) rfl #[.string (rdOf ByteArray.empty l0_0 x5_1), .int .i64 (rd t367 x9_3), .int .i64 (rd y370 x11_5), .int .i64 (rd l1 x10_4), .int .i64 (rd y374 x14_6)] (by rfl) rfl rfl (by (try simp only [List.map_toArray, List.map_cons, List.map_nil]); first | done | rfl | (simp only [List.length_drop, List.length_take]; rfl)) ?_
              with_reducible refine (object_Piece.calls k6 (rdOf ByteArray.empty l0_0 x5_1) (rd t367 x9_3) (rd y370 x11_5) (rd l1 x10_4) (rd y374 x14_6) t380 t381 t382 t383 _ ?side1 A46.out).mono ?_
              (case side1 => exact Tabs.below HT.out (by repeat with_reducible first | exact HB.out | apply pw_below_drewN | refine below_set ?_ GE360.out | refine below_set ?_ GE384.out | apply below_drew1 | apply below_alloc))
              rintro e w51 ⟨rfl, hb⟩
              have HS0_ := (hb.cell (World.block_lt_of_cell? _ _ (hHeld.1))).trans (hHeld.1)
              have HS2_ := (hb.cell (World.block_lt_of_cell? _ _ (hHeld.2.2))).trans (hHeld.2.2)
              refine ⟨_, rfl, ?_⟩
              have n0_ := Aside0.mk (Kd.R_below (by (with_reducible repeat (first | apply Kd.R_alloc | apply Kd.R_drewN | apply Kd.R_drew)); exact HO_7.out) hb)
              have n1_ := Aside0.mk (Kd.R_below (by (with_reducible repeat (first | apply Kd.R_alloc | apply Kd.R_drewN | apply Kd.R_drew)); exact HO_8.out) hb)
              have n2_ := Aside0.mk (Kd.R_below (by (with_reducible repeat (first | apply Kd.R_alloc | apply Kd.R_drewN | apply Kd.R_drew)); exact HO_13.out) hb)
              have n3_ := Aside0.mk (blb hb BK360.out)
              have n4_ := Aside0.mk (blb hb BK384.out)
              have n5_ := Aside0.mk (below_step (by repeat with_reducible first | exact HB.out | apply pw_below_drewN | refine below_set ?_ GE360.out | refine below_set ?_ GE384.out | apply below_drew1 | apply below_alloc) hb)
              clear HO_7
              clear HO_8
              clear HO_13
              clear BK360
              clear BK384
              clear HB
              have HO_7 := n0_
              have HO_8 := n1_
              have HO_13 := n2_
              have BK360 := n3_
              have BK384 := n4_
              have HB := n5_
              clear n0_ n1_ n2_ n3_ n4_ n5_
              (try clear hb)
              (try clear hb2)
              (try clear hk)
              (try clear hi)
              refine hK.out _ _ ⟨HS0_, ((HB.out.cell (World.block_lt_of_cell? w _ hw378_0)).trans hw378_0), HS2_⟩ (fun hHeld => ?_)
              clear hK K
              refine norm_ (a' := ?_) ?_ ?_
              rotate_left
              · show Act.put _ (some 91) _ = _; simp only [Act.put, List.setIfInBounds_toArray, List.set_cons_zero, List.set_cons_succ, i64_w, i32_w]; rfl
              refine pure_ (i := 15) (N := some 76) (v := ?_) (a' := ?_) (bs 21 327679) rfl rfl (any_of HT_.out (by kernel_rfl)) (fun _ _ _ h => h) (Or.inl ⟨by rfl, ?_⟩) ?_ ?_
              rotate_left
              · intro w'; go_simp; with_reducible rfl
              rotate_left
              · simp only [Act.put, List.setIfInBounds_toArray, List.set_cons_zero, List.set_cons_succ, i64_w, i32_w]; rfl
              refine pure_ (i := 16) (N := some 92) (v := ?_) (a' := ?_) (bs 21 393215) rfl rfl (any_of HT_.out (by kernel_rfl)) (fun _ _ _ h => h) (Or.inl ⟨by rfl, ?_⟩) ?_ ?_
              rotate_left
              · intro w'; go_simp; with_reducible rfl
              rotate_left
              · simp only [Act.put, List.setIfInBounds_toArray, List.set_cons_zero, List.set_cons_succ, i64_w, i32_w]; rfl
              refine pure_ (i := 17) (N := some 93) (v := ?_) (a' := ?_) (bs 21 524287) rfl rfl (any_of HT_.out (by kernel_rfl)) (fun _ _ _ h => h) (Or.inl ⟨by rfl, ?_⟩) ?_ ?_
              rotate_left
              · intro w'; go_simp; with_reducible rfl
              rotate_left
              · simp only [Act.put, List.setIfInBounds_toArray, List.set_cons_zero, List.set_cons_succ, i64_w, i32_w]; rfl
              exact norm_ (by simp only [putAll, Act.put, List.setIfInBounds_toArray, List.set_cons_zero, List.set_cons_succ]) (hCont (gb384) _ ⟨hHeld, (by (with_reducible repeat (first | apply Kd.R_alloc | apply Kd.R_drewN | apply Kd.R_drew)); exact HO_13.out), (by (with_reducible repeat (first | apply Kd.R_alloc | apply Kd.R_drewN | apply Kd.R_drew)); exact HO_7.out), (by (with_reducible repeat (first | apply Kd.R_alloc | apply Kd.R_drewN | apply Kd.R_drew)); exact HO_8.out), (by exact BK360.out), (by exact BK384.out), GW384.out, GE384.out, NB360_384.out, NB384_360.out, (by repeat with_reducible first | exact HB.out | apply pw_below_drewN | refine below_set ?_ GE360.out | refine below_set ?_ GE384.out | apply below_drew1 | apply below_alloc)⟩)
             rintro gb384 w52 ⟨hS_, h0_, h1_, h2_, h3_, h4_, h5_, h6_, h7_, h8_, h9_⟩
             have n0_ : Aside0 (Kd.R (Kd.int .i64) 3 w52 w.heap.size (fun k_ => some k_ ≠ (.slice (some ad377) t367.length co27 : Value).ownBlock) (.slice (some ad379) y374.length co49) y374) := ⟨h0_⟩
             have n1_ : Aside0 (Kd.R (Kd.int .i32) 21 w52 w.heap.size (fun _ => True) (.slice Ao24 y364.length co24) y364) := ⟨h1_⟩
             have n2_ : Aside0 (Kd.R (Kd.int .i64) 3 w52 w.heap.size (fun k_ => some k_ ≠ (.slice (some ad379) y374.length co49 : Value).ownBlock) (.slice (some ad377) t367.length co27) t367) := ⟨h2_⟩
             have n3_ : Aside0 (w52.heap[gb360]? = some (.cells #[.slice (some ad363) l0_0.length c0_0, .int .i64 a0_1, .int .i64 a0_2, .int .i64 a0_3, .int .i64 a0_4, .int .i64 a0_5, .int .i64 a0_6, .int .i64 a0_7] 28 (0, 0))) := ⟨h3_⟩
             have n4_ : Aside0 (w52.heap[gb384]? = some (.cells #[.int .i64 0, .int .i64 0, .bool false] 35 (0, 0))) := ⟨h4_⟩
             have n5_ : Aside0 (w.heap.size ≤ gb384) := ⟨h5_⟩
             have n6_ : Aside0 (w.heap.size ≤ gb384) := ⟨h6_⟩
             have n7_ : Aside0 (gb360 ≠ gb384) := ⟨h7_⟩
             have n8_ : Aside0 (gb384 ≠ gb360) := ⟨h8_⟩
             have n9_ : Aside0 (Below w.heap.size w w52) := ⟨h9_⟩
             clear HO_7
             clear HO_8
             clear HO_13
             clear BK360
             clear HB
             clear h0_ h1_ h2_ h3_ h4_ h5_ h6_ h7_ h8_ h9_
             have HO_13 := n0_
             have HO_7 := n1_
             have HO_8 := n2_
             have BK360 := n3_
             have BK384 := n4_
             have GW384 := n5_
             have GE384 := n6_
             have NB360_384 := n7_
             have NB384_360 := n8_
             have HB := n9_
             clear n0_ n1_ n2_ n3_ n4_ n5_ n6_ n7_ n8_ n9_
             have hHeld : w52.cell? (ad377.add (x9_3).toNat) = some (.int .i64 (rd t367 x9_3)) ∧ w52.cell? (ad378.add (x10_4).toNat) = some (.int .i64 (rd l1 x10_4)) ∧ w52.cell? (ad379.add (x14_6).toNat) = some (.int .i64 (rd y374 x14_6)) := hS_
             refine norm_ (a' := ?_) ?_ ?_
             rotate_left
             ·
              simp only [putAll, Act.put, List.setIfInBounds_toArray, List.set_cons_zero, List.set_cons_succ]
              rfl
             refine one_ (i := 19) (N := none) (bs 21 1048575) rfl rfl (one_of HT_.out (by kernel_rfl)) (by decide) (fun K hK => ?_)
             have hs53 := cz0 BK384.out
             have hfs53 := blk_frozen BK384.out 0
             have hns53_0 := NB360_384.out
             have hms53_0 := NB384_360.out
             have hs54 := cz1 BK384.out
             have hfs54 := blk_frozen BK384.out 1
             have hns54_0 := NB360_384.out
             have hms54_0 := NB384_360.out
             have hs55 := cz2 BK384.out
             have hfs55 := blk_frozen BK384.out 2
             have hns55_0 := NB360_384.out
             have hms55_0 := NB384_360.out
             refine skip_ (w1 := ?_) (by rfl) rfl ?_ ?_
             rotate_left
             ·
              go_simp
              rfl
             refine hK.out _ _ ⟨((cell_far (p := ⟨gb384, _, none⟩) (by first | exact Kd.own_blk (Kd.R_ne HO_8.out BK384.out (by decide)) | (rw [add_block]; exact Kd.own_blk (Kd.R_ne HO_8.out BK384.out (by decide))) | (show (Addr.add _ _).block ≠ _; rw [add_block]; exact Kd.own_blk (Kd.R_ne HO_8.out BK384.out (by decide))) | (dsimp only; exact Kd.own_blk (Kd.R_ne HO_8.out BK384.out (by decide)))) _).trans (((cell_far (p := ⟨gb384, _, none⟩) (by first | exact Kd.own_blk (Kd.R_ne HO_8.out BK384.out (by decide)) | (rw [add_block]; exact Kd.own_blk (Kd.R_ne HO_8.out BK384.out (by decide))) | (show (Addr.add _ _).block ≠ _; rw [add_block]; exact Kd.own_blk (Kd.R_ne HO_8.out BK384.out (by decide))) | (dsimp only; exact Kd.own_blk (Kd.R_ne HO_8.out BK384.out (by decide)))) _).trans (((cell_far (p := ⟨gb384, _, none⟩) (by first | exact Kd.own_blk (Kd.R_ne HO_8.out BK384.out (by decide)) | (rw [add_block]; exact Kd.own_blk (Kd.R_ne HO_8.out BK384.out (by decide))) | (show (Addr.add _ _).block ≠ _; rw [add_block]; exact Kd.own_blk (Kd.R_ne HO_8.out BK384.out (by decide))) | (dsimp only; exact Kd.own_blk (Kd.R_ne HO_8.out BK384.out (by decide)))) _).trans (hHeld.1)))))), ((cell_far (p := ⟨gb384, _, none⟩) (by first | exact Nat.ne_of_lt (Nat.lt_of_lt_of_le (by have := World.block_lt_of_cell? _ _ hw378_0; first | rwa [add_block] at this | exact this) GW384.out) | (rw [add_block]; exact Nat.ne_of_lt (Nat.lt_of_lt_of_le (by have := World.block_lt_of_cell? _ _ hw378_0; first | rwa [add_block] at this | exact this) GW384.out)) | (show (Addr.add _ _).block ≠ _; rw [add_block]; exact Nat.ne_of_lt (Nat.lt_of_lt_of_le (by have := World.block_lt_of_cell? _ _ hw378_0; first | rwa [add_block] at this | exact this) GW384.out)) | (dsimp only; exact Nat.ne_of_lt (Nat.lt_of_lt_of_le (by have := World.block_lt_of_cell? _ _ hw378_0; first | rwa [add_block] at this | exact this) GW384.out))) _).trans (((cell_far (p := ⟨gb384, _, none⟩) (by first | exact Nat.ne_of_lt (Nat.lt_of_lt_of_le (by have := World.block_lt_of_cell? _ _ hw378_0; first | rwa [add_block] at this | exact this) GW384.out) | (rw [add_block]; exact Nat.ne_of_lt (Nat.lt_of_lt_of_le (by have := World.block_lt_of_cell? _ _ hw378_0; first | rwa [add_block] at this | exact this) GW384.out)) | (show (Addr.add _ _).block ≠ _; rw [add_block]; exact Nat.ne_of_lt (Nat.lt_of_lt_of_le (by have := World.block_lt_of_cell? _ _ hw378_0; first | rwa [add_block] at this | exact this) GW384.out)) | (dsimp only; exact Nat.ne_of_lt (Nat.lt_of_lt_of_le (by have := World.block_lt_of_cell? _ _ hw378_0; first | rwa [add_block] at this | exact this) GW384.out))) _).trans (((cell_far (p := ⟨gb384, _, none⟩) (by first | exact Nat.ne_of_lt (Nat.lt_of_lt_of_le (by have := World.block_lt_of_cell? _ _ hw378_0; first | rwa [add_block] at this | exact this) GW384.out) | (rw [add_block]; exact Nat.ne_of_lt (Nat.lt_of_lt_of_le (by have := World.block_lt_of_cell? _ _ hw378_0; first | rwa [add_block] at this | exact this) GW384.out)) | (show (Addr.add _ _).block ≠ _; rw [add_block]; exact Nat.ne_of_lt (Nat.lt_of_lt_of_le (by have := World.block_lt_of_cell? _ _ hw378_0; first | rwa [add_block] at this | exact this) GW384.out)) | (dsimp only; exact Nat.ne_of_lt (Nat.lt_of_lt_of_le (by have := World.block_lt_of_cell? _ _ hw378_0; first | rwa [add_block] at this | exact this) GW384.out))) _).trans (hHeld.2.1)))))), ((cell_far (p := ⟨gb384, _, none⟩) (by first | exact Kd.own_blk (Kd.R_ne HO_13.out BK384.out (by decide)) | (rw [add_block]; exact Kd.own_blk (Kd.R_ne HO_13.out BK384.out (by decide))) | (show (Addr.add _ _).block ≠ _; rw [add_block]; exact Kd.own_blk (Kd.R_ne HO_13.out BK384.out (by decide))) | (dsimp only; exact Kd.own_blk (Kd.R_ne HO_13.out BK384.out (by decide)))) _).trans (((cell_far (p := ⟨gb384, _, none⟩) (by first | exact Kd.own_blk (Kd.R_ne HO_13.out BK384.out (by decide)) | (rw [add_block]; exact Kd.own_blk (Kd.R_ne HO_13.out BK384.out (by decide))) | (show (Addr.add _ _).block ≠ _; rw [add_block]; exact Kd.own_blk (Kd.R_ne HO_13.out BK384.out (by decide))) | (dsimp only; exact Kd.own_blk (Kd.R_ne HO_13.out BK384.out (by decide)))) _).trans (((cell_far (p := ⟨gb384, _, none⟩) (by first | exact Kd.own_blk (Kd.R_ne HO_13.out BK384.out (by decide)) | (rw [add_block]; exact Kd.own_blk (Kd.R_ne HO_13.out BK384.out (by decide))) | (show (Addr.add _ _).block ≠ _; rw [add_block]; exact Kd.own_blk (Kd.R_ne HO_13.out BK384.out (by decide))) | (dsimp only; exact Kd.own_blk (Kd.R_ne HO_13.out BK384.out (by decide)))) _).trans (hHeld.2.2))))))⟩ (fun hHeld => ?_)
             clear hK K
             refine pure_ (i := 20) (N := some 16) (v := ?_) (a' := ?_) (bs 21 2097151) rfl rfl (any_of HT_.out (by kernel_rfl)) (fun _ _ _ h => h) (Or.inl ⟨by rfl, ?_⟩) ?_ ?_
             rotate_left
             · intro w'; go_simp; with_reducible rfl
             rotate_left
             · simp only [Act.put, List.setIfInBounds_toArray, List.set_cons_zero, List.set_cons_succ, i64_w, i32_w]; rfl
             refine done_ (done_of HT_.out (by kernel_rfl)) ?_
             go_upto_region 25 with (first | ((with_reducible refine gate_dst (N := 18) rfl ?_); (try (refine gate_guard (by rfl) ?_; dsimp only)); refine box_event ?hg (N := 18) ?hd (cs := #[.int .i64 0, .int .i64 0, .bool false]) (t := 35) ?hr ?_; (case hd => rfl); (case hg => rfl); (case hr => first | (go_simp; done) | (go_simp; rfl)); intro gb385 hg w56 hbox hb; have n0_ := Aside0.mk (Kd.R_below (by (with_reducible repeat (first | apply Kd.R_alloc | apply Kd.R_drewN | apply Kd.R_drew)); exact (Kd.R_mono (Kd.R_far (p := ⟨gb384, 2, none⟩) (Kd.R_far (p := ⟨gb384, 1, none⟩) (Kd.R_far (p := ⟨gb384, 0, none⟩) (Kd.R_types HO_7.out BK384.out (by decide)) (fun _ hk => hk.2) (.int .i64 t380)) (fun _ hk => hk.2) (.int .i64 t381)) (fun _ hk => hk.2) (.bool t382)) (fun _ h_ => h_.1))) hb); have n1_ := Aside0.mk (Kd.R_below (by (with_reducible repeat (first | apply Kd.R_alloc | apply Kd.R_drewN | apply Kd.R_drew)); exact (Kd.R_mono (Kd.R_far (p := ⟨gb384, 2, none⟩) (Kd.R_far (p := ⟨gb384, 1, none⟩) (Kd.R_far (p := ⟨gb384, 0, none⟩) (Kd.R_types HO_8.out BK384.out (by decide)) (fun _ hk => hk.2) (.int .i64 t380)) (fun _ hk => hk.2) (.int .i64 t381)) (fun _ hk => hk.2) (.bool t382)) (fun _ h_ => h_.1))) hb); have n2_ := Aside0.mk (Kd.R_below (by (with_reducible repeat (first | apply Kd.R_alloc | apply Kd.R_drewN | apply Kd.R_drew)); exact (Kd.R_mono (Kd.R_far (p := ⟨gb384, 2, none⟩) (Kd.R_far (p := ⟨gb384, 1, none⟩) (Kd.R_far (p := ⟨gb384, 0, none⟩) (Kd.R_types HO_13.out BK384.out (by decide)) (fun _ hk => hk.2) (.int .i64 t380)) (fun _ hk => hk.2) (.int .i64 t381)) (fun _ hk => hk.2) (.bool t382)) (fun _ h_ => h_.1))) hb); have n3_ := Aside0.mk (blk_below (g := gb360) (o := .cells #[.slice (some ad363) l0_0.length c0_0, .int .i64 a0_1, .int .i64 a0_2, .int .i64 a0_3, .int .i64 a0_4, .int .i64 a0_5, .int .i64 a0_6, .int .i64 a0_7] 28 (0, 0)) (by (with_reducible repeat (first | refine blk_drewN ?_ _ | refine blk_drew ?_ | refine blk_alloc ?_ _)); refine blk_far ?_ NB360_384.out _; (with_reducible repeat (first | refine blk_drewN ?_ _ | refine blk_drew ?_ | refine blk_alloc ?_ _)); refine blk_far ?_ NB360_384.out _; (with_reducible repeat (first | refine blk_drewN ?_ _ | refine blk_drew ?_ | refine blk_alloc ?_ _)); refine blk_far ?_ NB360_384.out _; (with_reducible repeat (first | refine blk_drewN ?_ _ | refine blk_drew ?_ | refine blk_alloc ?_ _)); exact BK360.out) hb); have n4_ := Aside0.mk (blk_below (g := gb384) (o := .cells #[.int .i64 t380, .int .i64 t381, .bool t382] 35 (0, 0)) (by (with_reducible repeat (first | refine blk_drewN ?_ _ | refine blk_drew ?_ | refine blk_alloc ?_ _)); refine blk_put (cs := #[.int .i64 t380, .int .i64 t381, .bool false]) ?_ 2 _ rfl; (with_reducible repeat (first | refine blk_drewN ?_ _ | refine blk_drew ?_ | refine blk_alloc ?_ _)); refine blk_put (cs := #[.int .i64 t380, .int .i64 0, .bool false]) ?_ 1 _ rfl; (with_reducible repeat (first | refine blk_drewN ?_ _ | refine blk_drew ?_ | refine blk_alloc ?_ _)); refine blk_put (cs := #[.int .i64 0, .int .i64 0, .bool false]) ?_ 0 _ rfl; (with_reducible repeat (first | refine blk_drewN ?_ _ | refine blk_drew ?_ | refine blk_alloc ?_ _)); exact BK384.out) hb); have n5_ := Aside0.mk (below_step (by repeat with_reducible first | exact HB.out | apply pw_below_drewN | refine below_set ?_ GE360.out | refine below_set ?_ GE384.out | apply below_drew1 | apply below_alloc) hb); have n6_ := Aside0.mk (hbox); have n7_ := Aside0.mk (geb hg (by repeat with_reducible first | exact HB.out | apply pw_below_drewN | refine below_set ?_ GE360.out | refine below_set ?_ GE384.out | apply below_drew1 | apply below_alloc)); have n8_ := n7_; have n9_ := Aside0.mk ((by rw [hg]; exact Nat.ne_of_lt (blk_lt (g := gb360) (o := .cells #[.slice (some ad363) l0_0.length c0_0, .int .i64 a0_1, .int .i64 a0_2, .int .i64 a0_3, .int .i64 a0_4, .int .i64 a0_5, .int .i64 a0_6, .int .i64 a0_7] 28 (0, 0)) (by (with_reducible repeat (first | refine blk_drewN ?_ _ | refine blk_drew ?_ | refine blk_alloc ?_ _)); refine blk_far ?_ NB360_384.out _; (with_reducible repeat (first | refine blk_drewN ?_ _ | refine blk_drew ?_ | refine blk_alloc ?_ _)); refine blk_far ?_ NB360_384.out _; (with_reducible repeat (first | refine blk_drewN ?_ _ | refine blk_drew ?_ | refine blk_alloc ?_ _)); refine blk_far ?_ NB360_384.out _; (with_reducible repeat (first | refine blk_drewN ?_ _ | refine blk_drew ?_ | refine blk_alloc ?_ _)); exact BK360.out)) : gb360 ≠ gb385)); have n10_ := Aside0.mk ((by rw [hg]; exact Nat.ne_of_gt (blk_lt (g := gb360) (o := .cells #[.slice (some ad363) l0_0.length c0_0, .int .i64 a0_1, .int .i64 a0_2, .int .i64 a0_3, .int .i64 a0_4, .int .i64 a0_5, .int .i64 a0_6, .int .i64 a0_7] 28 (0, 0)) (by (with_reducible repeat (first | refine blk_drewN ?_ _ | refine blk_drew ?_ | refine blk_alloc ?_ _)); refine blk_far ?_ NB360_384.out _; (with_reducible repeat (first | refine blk_drewN ?_ _ | refine blk_drew ?_ | refine blk_alloc ?_ _)); refine blk_far ?_ NB360_384.out _; (with_reducible repeat (first | refine blk_drewN ?_ _ | refine blk_drew ?_ | refine blk_alloc ?_ _)); refine blk_far ?_ NB360_384.out _; (with_reducible repeat (first | refine blk_drewN ?_ _ | refine blk_drew ?_ | refine blk_alloc ?_ _)); exact BK360.out)) : gb385 ≠ gb360)); have n11_ := Aside0.mk ((by rw [hg]; exact Nat.ne_of_lt (blk_lt (g := gb384) (o := .cells #[.int .i64 t380, .int .i64 t381, .bool t382] 35 (0, 0)) (by (with_reducible repeat (first | refine blk_drewN ?_ _ | refine blk_drew ?_ | refine blk_alloc ?_ _)); refine blk_put (cs := #[.int .i64 t380, .int .i64 t381, .bool false]) ?_ 2 _ rfl; (with_reducible repeat (first | refine blk_drewN ?_ _ | refine blk_drew ?_ | refine blk_alloc ?_ _)); refine blk_put (cs := #[.int .i64 t380, .int .i64 0, .bool false]) ?_ 1 _ rfl; (with_reducible repeat (first | refine blk_drewN ?_ _ | refine blk_drew ?_ | refine blk_alloc ?_ _)); refine blk_put (cs := #[.int .i64 0, .int .i64 0, .bool false]) ?_ 0 _ rfl; (with_reducible repeat (first | refine blk_drewN ?_ _ | refine blk_drew ?_ | refine blk_alloc ?_ _)); exact BK384.out)) : gb384 ≠ gb385)); have n12_ := Aside0.mk ((by rw [hg]; exact Nat.ne_of_gt (blk_lt (g := gb384) (o := .cells #[.int .i64 t380, .int .i64 t381, .bool t382] 35 (0, 0)) (by (with_reducible repeat (first | refine blk_drewN ?_ _ | refine blk_drew ?_ | refine blk_alloc ?_ _)); refine blk_put (cs := #[.int .i64 t380, .int .i64 t381, .bool false]) ?_ 2 _ rfl; (with_reducible repeat (first | refine blk_drewN ?_ _ | refine blk_drew ?_ | refine blk_alloc ?_ _)); refine blk_put (cs := #[.int .i64 t380, .int .i64 0, .bool false]) ?_ 1 _ rfl; (with_reducible repeat (first | refine blk_drewN ?_ _ | refine blk_drew ?_ | refine blk_alloc ?_ _)); refine blk_put (cs := #[.int .i64 0, .int .i64 0, .bool false]) ?_ 0 _ rfl; (with_reducible repeat (first | refine blk_drewN ?_ _ | refine blk_drew ?_ | refine blk_alloc ?_ _)); exact BK384.out)) : gb385 ≠ gb384)); clear HO_7; clear HO_8; clear HO_13; clear BK360; clear BK384; clear HB; have HO_7 := n0_; have HO_8 := n1_; have HO_13 := n2_; have BK360 := n3_; have BK384 := n4_; have HB := n5_; have BK385 := n6_; have GW385 := n7_; have GE385 := n8_; have NB360_385 := n9_; have NB385_360 := n10_; have NB384_385 := n11_; have NB385_384 := n12_; clear n0_ n1_ n2_ n3_ n4_ n5_ n6_ n7_ n8_ n9_ n10_ n11_ n12_; clear hb hbox hg; have hnb57 := NB385_360.out; have hnc57 := NB360_385.out; have hnb58 := NB385_384.out; have hnc58 := NB384_385.out; have hcz59_0 := cz0 BK385.out; have hcz59_1 := cz1 BK385.out; have hcz59_2 := cz2 BK385.out; have hfz59_0 := blk_frozen BK385.out 0; have hfz59_1 := blk_frozen BK385.out 1; have hfz59_2 := blk_frozen BK385.out 2))
             (try simp only [Act.put, List.setIfInBounds_toArray, List.set_cons_zero, List.set_cons_succ])
             go_cut [127] (fun v127 wc => ∃ (kq : Nat) (x127_46 : Bool), v127 = .bool x127_46 ∧ Aside0 (quilllaw15_pieces.j6 kq l1 x5_1 (rdOf ByteArray.empty l0_0 x5_1) y364 t367 x9_3 x10_4 x11_5 (rd y370 x11_5) y374 x14_6 t383 1 x127_46 l0_0 a0_1 a0_2 a0_3 a0_4 a0_5 a0_6 a0_7 t380 t381 t382 0 0 false = some r) ∧ Aside0 (kq ≤ k6) ∧ Aside0 (Kd.R (Kd.int .i32) 21 wc w.heap.size (fun _ => True) (.slice Ao24 y364.length co24) y364) ∧ Aside0 (Kd.R (Kd.int .i64) 3 wc w.heap.size (fun k_ => some k_ ≠ ((.slice (some ad379) y374.length co49) : Value).ownBlock) (.slice (some ad377) t367.length co27) t367) ∧ Aside0 (Kd.R (Kd.int .i64) 3 wc w.heap.size (fun k_ => some k_ ≠ ((.slice (some ad377) t367.length co27) : Value).ownBlock) (.slice (some ad379) y374.length co49) y374) ∧ Aside0 (wc.heap[gb360]? = some (.cells #[(.slice (some ad363) l0_0.length c0_0), .int .i64 a0_1, .int .i64 a0_2, .int .i64 a0_3, .int .i64 a0_4, .int .i64 a0_5, .int .i64 a0_6, .int .i64 a0_7] 28 (0, 0))) ∧ Aside0 (wc.heap[gb384]? = some (.cells #[.int .i64 t380, .int .i64 t381, .bool t382] 35 (0, 0))) ∧ Aside0 (wc.heap[gb385]? = some (.cells #[.int .i64 0, .int .i64 0, .bool false] 35 (0, 0))) ∧ Aside0 (Below w.heap.size w wc))
             case first =>
              have H := HC47.out
              clear HC47
              replace H := Option.bind_eq_some_iff.mp H
              obtain ⟨t386, A600, H⟩ := H
              (try dsimp only at H)
              have A60 := Aside0.mk A600
              clear A600
              by_cases c61 : t386 = true
              rotate_left
              ·
               replace c61 := Bool.eq_false_iff.mpr c61
               subst c61
               have H1 : (quilllaw15_pieces.j6 k6 l1 x5_1 (rdOf ByteArray.empty l0_0 x5_1) y364 t367 x9_3 x10_4 x11_5 (rd y370 x11_5) y374 x14_6 t383 1 false l0_0 a0_1 a0_2 a0_3 a0_4 a0_5 a0_6 a0_7 t380 t381 t382 0 0 false) = some r := by rw [if_neg (show ¬ (false = true) by decide)] at H; exact H
               clear H
               have H := H1
               clear H1
               have H' := Aside0.mk H
               clear H
               go_wp2_with (first | ((with_reducible refine gate_callee (f := 18) rfl ?_); refine goesL_ (some 96) rfl rfl Tryd.func18 (by kernel_rfl) rfl #[.string (rdOf ByteArray.empty l0_0 x5_1)] rfl (map1 rfl) ?_; (with_reducible refine (quillref1_May.calls k6 (rdOf ByteArray.empty l0_0 x5_1) false _ ?side1 A60.out).mono ?_); (case side1 => exact Tabs.below HT.out (by repeat with_reducible first | exact HB.out | apply pw_below_drewN | refine below_set ?_ GE360.out | refine below_set ?_ GE384.out | refine below_set ?_ GE385.out | apply below_drew1 | apply below_alloc)); rintro e w82 ⟨rfl, hb⟩; refine ⟨_, rfl, ?_⟩; have n0_ := Aside0.mk (Kd.R_below (by (with_reducible repeat (first | apply Kd.R_alloc | apply Kd.R_drewN | apply Kd.R_drew)); exact (Kd.R_mono (Kd.R_far (p := ⟨gb385, 2, none⟩) (Kd.R_far (p := ⟨gb385, 1, none⟩) (Kd.R_far (p := ⟨gb385, 0, none⟩) (Kd.R_types HO_7.out BK385.out (by decide)) (fun _ hk => hk.2) (.int .i64 0)) (fun _ hk => hk.2) (.int .i64 0)) (fun _ hk => hk.2) (.bool false)) (fun _ h_ => h_.1))) hb); have n1_ := Aside0.mk (Kd.R_below (by (with_reducible repeat (first | apply Kd.R_alloc | apply Kd.R_drewN | apply Kd.R_drew)); exact (Kd.R_mono (Kd.R_far (p := ⟨gb385, 2, none⟩) (Kd.R_far (p := ⟨gb385, 1, none⟩) (Kd.R_far (p := ⟨gb385, 0, none⟩) (Kd.R_types HO_8.out BK385.out (by decide)) (fun _ hk => hk.2) (.int .i64 0)) (fun _ hk => hk.2) (.int .i64 0)) (fun _ hk => hk.2) (.bool false)) (fun _ h_ => h_.1))) hb); have n2_ := Aside0.mk (Kd.R_below (by (with_reducible repeat (first | apply Kd.R_alloc | apply Kd.R_drewN | apply Kd.R_drew)); exact (Kd.R_mono (Kd.R_far (p := ⟨gb385, 2, none⟩) (Kd.R_far (p := ⟨gb385, 1, none⟩) (Kd.R_far (p := ⟨gb385, 0, none⟩) (Kd.R_types HO_13.out BK385.out (by decide)) (fun _ hk => hk.2) (.int .i64 0)) (fun _ hk => hk.2) (.int .i64 0)) (fun _ hk => hk.2) (.bool false)) (fun _ h_ => h_.1))) hb); have n3_ := Aside0.mk (blk_below (g := gb360) (o := .cells #[.slice (some ad363) l0_0.length c0_0, .int .i64 a0_1, .int .i64 a0_2, .int .i64 a0_3, .int .i64 a0_4, .int .i64 a0_5, .int .i64 a0_6, .int .i64 a0_7] 28 (0, 0)) (by (with_reducible repeat (first | refine blk_drewN ?_ _ | refine blk_drew ?_ | refine blk_alloc ?_ _)); refine blk_far ?_ NB360_385.out _; (with_reducible repeat (first | refine blk_drewN ?_ _ | refine blk_drew ?_ | refine blk_alloc ?_ _)); refine blk_far ?_ NB360_385.out _; (with_reducible repeat (first | refine blk_drewN ?_ _ | refine blk_drew ?_ | refine blk_alloc ?_ _)); refine blk_far ?_ NB360_385.out _; (with_reducible repeat (first | refine blk_drewN ?_ _ | refine blk_drew ?_ | refine blk_alloc ?_ _)); exact BK360.out) hb); have n4_ := Aside0.mk (blk_below (g := gb384) (o := .cells #[.int .i64 t380, .int .i64 t381, .bool t382] 35 (0, 0)) (by (with_reducible repeat (first | refine blk_drewN ?_ _ | refine blk_drew ?_ | refine blk_alloc ?_ _)); refine blk_far ?_ NB384_385.out _; (with_reducible repeat (first | refine blk_drewN ?_ _ | refine blk_drew ?_ | refine blk_alloc ?_ _)); refine blk_far ?_ NB384_385.out _; (with_reducible repeat (first | refine blk_drewN ?_ _ | refine blk_drew ?_ | refine blk_alloc ?_ _)); refine blk_far ?_ NB384_385.out _; (with_reducible repeat (first | refine blk_drewN ?_ _ | refine blk_drew ?_ | refine blk_alloc ?_ _)); exact BK384.out) hb); have n5_ := Aside0.mk (blk_below (g := gb385) (o := .cells #[.int .i64 0, .int .i64 0, .bool false] 35 (0, 0)) (by (with_reducible repeat (first | refine blk_drewN ?_ _ | refine blk_drew ?_ | refine blk_alloc ?_ _)); refine blk_put (cs := #[.int .i64 0, .int .i64 0, .bool false]) ?_ 2 _ rfl; (with_reducible repeat (first | refine blk_drewN ?_ _ | refine blk_drew ?_ | refine blk_alloc ?_ _)); refine blk_put (cs := #[.int .i64 0, .int .i64 0, .bool false]) ?_ 1 _ rfl; (with_reducible repeat (first | refine blk_drewN ?_ _ | refine blk_drew ?_ | refine blk_alloc ?_ _)); refine blk_put (cs := #[.int .i64 0, .int .i64 0, .bool false]) ?_ 0 _ rfl; (with_reducible repeat (first | refine blk_drewN ?_ _ | refine blk_drew ?_ | refine blk_alloc ?_ _)); exact BK385.out) hb); have n6_ := Aside0.mk (below_step (by repeat with_reducible first | exact HB.out | apply pw_below_drewN | refine below_set ?_ GE360.out | refine below_set ?_ GE384.out | refine below_set ?_ GE385.out | apply below_drew1 | apply below_alloc) hb); clear HO_7; clear HO_8; clear HO_13; clear BK360; clear BK384; clear BK385; clear HB; have HO_7 := n0_; have HO_8 := n1_; have HO_13 := n2_; have BK360 := n3_; have BK384 := n4_; have BK385 := n5_; have HB := n6_; clear n0_ n1_ n2_ n3_ n4_ n5_ n6_; (try clear hb); (try clear hb2); (try clear hk); (try clear hi)))
               go_meet
               case rel => exact ⟨_, (false), (by first | rfl | (simp; done) | (simp [*]; done)), H', ⟨by have := HK1.out; have := HJ10.out; have := HK3.out; have := HK4.out; have := HK5.out; have := HK6.out; first | omega | exact Nat.le_refl _⟩, ⟨by (with_reducible repeat (first | apply Kd.R_alloc | apply Kd.R_drewN | apply Kd.R_drew)); exact HO_7.out⟩, ⟨by (with_reducible repeat (first | apply Kd.R_alloc | apply Kd.R_drewN | apply Kd.R_drew)); exact HO_8.out⟩, ⟨by (with_reducible repeat (first | apply Kd.R_alloc | apply Kd.R_drewN | apply Kd.R_drew)); exact HO_13.out⟩, ⟨BK360.out⟩, ⟨BK384.out⟩, ⟨BK385.out⟩, ⟨by repeat with_reducible first | exact HB.out | apply pw_below_drewN | refine below_set ?_ GE360.out | refine below_set ?_ GE384.out | refine below_set ?_ GE385.out | apply below_drew1 | apply below_alloc⟩⟩
              subst c61
              have H1 : ((quillref0_Num.f (rd t367 x9_3) (y364.length : Int)).bind fun t388 => (if t388 = true then (if (rd y370 x11_5) = 105 then ((quillref15_Object.f k6 (rd l1 x10_4)).bind fun t390 => (if t390 = true then ((quillref0_Between.f (rd y374 x14_6) 1 999).bind fun t392 => (quilllaw15_pieces.j6 k6 l1 x5_1 (rdOf ByteArray.empty l0_0 x5_1) y364 t367 x9_3 x10_4 x11_5 (rd y370 x11_5) y374 x14_6 t383 1 t392 l0_0 a0_1 a0_2 a0_3 a0_4 a0_5 a0_6 a0_7 t380 t381 t382 0 0 false)) else (quilllaw15_pieces.j6 k6 l1 x5_1 (rdOf ByteArray.empty l0_0 x5_1) y364 t367 x9_3 x10_4 x11_5 (rd y370 x11_5) y374 x14_6 t383 1 false l0_0 a0_1 a0_2 a0_3 a0_4 a0_5 a0_6 a0_7 t380 t381 t382 0 0 false))) else (if (rd y370 x11_5) = 97 then ((quillref15_Object.f k6 (rd l1 x10_4)).bind fun t394 => (if t394 = true then ((quillref0_Between.f (rd y374 x14_6) 1 999).bind fun t396 => (quilllaw15_pieces.j6 k6 l1 x5_1 (rdOf ByteArray.empty l0_0 x5_1) y364 t367 x9_3 x10_4 x11_5 (rd y370 x11_5) y374 x14_6 t383 1 t396 l0_0 a0_1 a0_2 a0_3 a0_4 a0_5 a0_6 a0_7 t380 t381 t382 0 0 false)) else (quilllaw15_pieces.j6 k6 l1 x5_1 (rdOf ByteArray.empty l0_0 x5_1) y364 t367 x9_3 x10_4 x11_5 (rd y370 x11_5) y374 x14_6 t383 1 false l0_0 a0_1 a0_2 a0_3 a0_4 a0_5 a0_6 a0_7 t380 t381 t382 0 0 false))) else (quilllaw15_pieces.j6 k6 l1 x5_1 (rdOf ByteArray.empty l0_0 x5_1) y364 t367 x9_3 x10_4 x11_5 (rd y370 x11_5) y374 x14_6 t383 1 false l0_0 a0_1 a0_2 a0_3 a0_4 a0_5 a0_6 a0_7 t380 t381 t382 0 0 false))) else (quilllaw15_pieces.j6 k6 l1 x5_1 (rdOf ByteArray.empty l0_0 x5_1) y364 t367 x9_3 x10_4 x11_5 (rd y370 x11_5) y374 x14_6 t383 1 false l0_0 a0_1 a0_2 a0_3 a0_4 a0_5 a0_6 a0_7 t380 t381 t382 0 0 false))) = some r := by rw [if_pos rfl] at H; exact H
              clear H
              have H := H1
              clear H1
              replace H := Option.bind_eq_some_iff.mp H
              obtain ⟨t388, A620, H⟩ := H
              (try dsimp only at H)
              have A62 := Aside0.mk A620
              clear A620
              by_cases c63 : t388 = true
              rotate_left
              ·
               replace c63 := Bool.eq_false_iff.mpr c63
               subst c63
               have H1 : (quilllaw15_pieces.j6 k6 l1 x5_1 (rdOf ByteArray.empty l0_0 x5_1) y364 t367 x9_3 x10_4 x11_5 (rd y370 x11_5) y374 x14_6 t383 1 false l0_0 a0_1 a0_2 a0_3 a0_4 a0_5 a0_6 a0_7 t380 t381 t382 0 0 false) = some r := by rw [if_neg (show ¬ (false = true) by decide)] at H; exact H
               clear H
               have H := H1
               clear H1
               have H' := Aside0.mk H
               clear H
               go_wp2_with (first | ((with_reducible refine gate_callee (f := 18) rfl ?_); refine goesL_ (some 96) rfl rfl Tryd.func18 (by kernel_rfl) rfl #[.string (rdOf ByteArray.empty l0_0 x5_1)] rfl (map1 rfl) ?_; (with_reducible refine (quillref1_May.calls k6 (rdOf ByteArray.empty l0_0 x5_1) true _ ?side1 A60.out).mono ?_); (case side1 => exact Tabs.below HT.out (by repeat with_reducible first | exact HB.out | apply pw_below_drewN | refine below_set ?_ GE360.out | refine below_set ?_ GE384.out | refine below_set ?_ GE385.out | apply below_drew1 | apply below_alloc)); rintro e w81 ⟨rfl, hb⟩; refine ⟨_, rfl, ?_⟩; have n0_ := Aside0.mk (Kd.R_below (by (with_reducible repeat (first | apply Kd.R_alloc | apply Kd.R_drewN | apply Kd.R_drew)); exact (Kd.R_mono (Kd.R_far (p := ⟨gb385, 2, none⟩) (Kd.R_far (p := ⟨gb385, 1, none⟩) (Kd.R_far (p := ⟨gb385, 0, none⟩) (Kd.R_types HO_7.out BK385.out (by decide)) (fun _ hk => hk.2) (.int .i64 0)) (fun _ hk => hk.2) (.int .i64 0)) (fun _ hk => hk.2) (.bool false)) (fun _ h_ => h_.1))) hb); have n1_ := Aside0.mk (Kd.R_below (by (with_reducible repeat (first | apply Kd.R_alloc | apply Kd.R_drewN | apply Kd.R_drew)); exact (Kd.R_mono (Kd.R_far (p := ⟨gb385, 2, none⟩) (Kd.R_far (p := ⟨gb385, 1, none⟩) (Kd.R_far (p := ⟨gb385, 0, none⟩) (Kd.R_types HO_8.out BK385.out (by decide)) (fun _ hk => hk.2) (.int .i64 0)) (fun _ hk => hk.2) (.int .i64 0)) (fun _ hk => hk.2) (.bool false)) (fun _ h_ => h_.1))) hb); have n2_ := Aside0.mk (Kd.R_below (by (with_reducible repeat (first | apply Kd.R_alloc | apply Kd.R_drewN | apply Kd.R_drew)); exact (Kd.R_mono (Kd.R_far (p := ⟨gb385, 2, none⟩) (Kd.R_far (p := ⟨gb385, 1, none⟩) (Kd.R_far (p := ⟨gb385, 0, none⟩) (Kd.R_types HO_13.out BK385.out (by decide)) (fun _ hk => hk.2) (.int .i64 0)) (fun _ hk => hk.2) (.int .i64 0)) (fun _ hk => hk.2) (.bool false)) (fun _ h_ => h_.1))) hb); have n3_ := Aside0.mk (blk_below (g := gb360) (o := .cells #[.slice (some ad363) l0_0.length c0_0, .int .i64 a0_1, .int .i64 a0_2, .int .i64 a0_3, .int .i64 a0_4, .int .i64 a0_5, .int .i64 a0_6, .int .i64 a0_7] 28 (0, 0)) (by (with_reducible repeat (first | refine blk_drewN ?_ _ | refine blk_drew ?_ | refine blk_alloc ?_ _)); refine blk_far ?_ NB360_385.out _; (with_reducible repeat (first | refine blk_drewN ?_ _ | refine blk_drew ?_ | refine blk_alloc ?_ _)); refine blk_far ?_ NB360_385.out _; (with_reducible repeat (first | refine blk_drewN ?_ _ | refine blk_drew ?_ | refine blk_alloc ?_ _)); refine blk_far ?_ NB360_385.out _; (with_reducible repeat (first | refine blk_drewN ?_ _ | refine blk_drew ?_ | refine blk_alloc ?_ _)); exact BK360.out) hb); have n4_ := Aside0.mk (blk_below (g := gb384) (o := .cells #[.int .i64 t380, .int .i64 t381, .bool t382] 35 (0, 0)) (by (with_reducible repeat (first | refine blk_drewN ?_ _ | refine blk_drew ?_ | refine blk_alloc ?_ _)); refine blk_far ?_ NB384_385.out _; (with_reducible repeat (first | refine blk_drewN ?_ _ | refine blk_drew ?_ | refine blk_alloc ?_ _)); refine blk_far ?_ NB384_385.out _; (with_reducible repeat (first | refine blk_drewN ?_ _ | refine blk_drew ?_ | refine blk_alloc ?_ _)); refine blk_far ?_ NB384_385.out _; (with_reducible repeat (first | refine blk_drewN ?_ _ | refine blk_drew ?_ | refine blk_alloc ?_ _)); exact BK384.out) hb); have n5_ := Aside0.mk (blk_below (g := gb385) (o := .cells #[.int .i64 0, .int .i64 0, .bool false] 35 (0, 0)) (by (with_reducible repeat (first | refine blk_drewN ?_ _ | refine blk_drew ?_ | refine blk_alloc ?_ _)); refine blk_put (cs := #[.int .i64 0, .int .i64 0, .bool false]) ?_ 2 _ rfl; (with_reducible repeat (first | refine blk_drewN ?_ _ | refine blk_drew ?_ | refine blk_alloc ?_ _)); refine blk_put (cs := #[.int .i64 0, .int .i64 0, .bool false]) ?_ 1 _ rfl; (with_reducible repeat (first | refine blk_drewN ?_ _ | refine blk_drew ?_ | refine blk_alloc ?_ _)); refine blk_put (cs := #[.int .i64 0, .int .i64 0, .bool false]) ?_ 0 _ rfl; (with_reducible repeat (first | refine blk_drewN ?_ _ | refine blk_drew ?_ | refine blk_alloc ?_ _)); exact BK385.out) hb); have n6_ := Aside0.mk (below_step (by repeat with_reducible first | exact HB.out | apply pw_below_drewN | refine below_set ?_ GE360.out | refine below_set ?_ GE384.out | refine below_set ?_ GE385.out | apply below_drew1 | apply below_alloc) hb); clear HO_7; clear HO_8; clear HO_13; clear BK360; clear BK384; clear BK385; clear HB; have HO_7 := n0_; have HO_8 := n1_; have HO_13 := n2_; have BK360 := n3_; have BK384 := n4_; have BK385 := n5_; have HB := n6_; clear n0_ n1_ n2_ n3_ n4_ n5_ n6_; (try clear hb); (try clear hb2); (try clear hk); (try clear hi); have p387 : 0 ≤ (x9_3 : Int) := of_decide_eq_true (by assumption); have q387 : x9_3 < (t367.length : Int) := of_decide_eq_true (by assumption); obtain ⟨ad387, e387, hx387_0⟩ := Kd.at_int (Kd.R_reads' HO_8.out).2.2 x9_3 p387 q387; obtain rfl : ad377 = ad387 := (by injection e387); replace p387 := eq_true p387; replace q387 := eq_true q387) | (go_at_call 19; (with_reducible refine (quillref0_Num.calls (rd t367 x9_3) (y364.length : Int) false _ A62.out).mono ?_); rintro e w' ⟨rfl, ⟨nd, rfl⟩⟩))
               go_meet
               case rel => exact ⟨_, (false), (by first | rfl | (simp; done) | (simp [*]; done)), H', ⟨by have := HK1.out; have := HJ10.out; have := HK3.out; have := HK4.out; have := HK5.out; have := HK6.out; first | omega | exact Nat.le_refl _⟩, ⟨by (with_reducible repeat (first | apply Kd.R_alloc | apply Kd.R_drewN | apply Kd.R_drew)); exact HO_7.out⟩, ⟨by (with_reducible repeat (first | apply Kd.R_alloc | apply Kd.R_drewN | apply Kd.R_drew)); exact HO_8.out⟩, ⟨by (with_reducible repeat (first | apply Kd.R_alloc | apply Kd.R_drewN | apply Kd.R_drew)); exact HO_13.out⟩, ⟨BK360.out⟩, ⟨BK384.out⟩, ⟨BK385.out⟩, ⟨by repeat with_reducible first | exact HB.out | apply pw_below_drewN | refine below_set ?_ GE360.out | refine below_set ?_ GE384.out | refine below_set ?_ GE385.out | apply below_drew1 | apply below_alloc⟩⟩
              subst c63
              have H1 : (if (rd y370 x11_5) = 105 then ((quillref15_Object.f k6 (rd l1 x10_4)).bind fun t390 => (if t390 = true then ((quillref0_Between.f (rd y374 x14_6) 1 999).bind fun t392 => (quilllaw15_pieces.j6 k6 l1 x5_1 (rdOf ByteArray.empty l0_0 x5_1) y364 t367 x9_3 x10_4 x11_5 (rd y370 x11_5) y374 x14_6 t383 1 t392 l0_0 a0_1 a0_2 a0_3 a0_4 a0_5 a0_6 a0_7 t380 t381 t382 0 0 false)) else (quilllaw15_pieces.j6 k6 l1 x5_1 (rdOf ByteArray.empty l0_0 x5_1) y364 t367 x9_3 x10_4 x11_5 (rd y370 x11_5) y374 x14_6 t383 1 false l0_0 a0_1 a0_2 a0_3 a0_4 a0_5 a0_6 a0_7 t380 t381 t382 0 0 false))) else (if (rd y370 x11_5) = 97 then ((quillref15_Object.f k6 (rd l1 x10_4)).bind fun t394 => (if t394 = true then ((quillref0_Between.f (rd y374 x14_6) 1 999).bind fun t396 => (quilllaw15_pieces.j6 k6 l1 x5_1 (rdOf ByteArray.empty l0_0 x5_1) y364 t367 x9_3 x10_4 x11_5 (rd y370 x11_5) y374 x14_6 t383 1 t396 l0_0 a0_1 a0_2 a0_3 a0_4 a0_5 a0_6 a0_7 t380 t381 t382 0 0 false)) else (quilllaw15_pieces.j6 k6 l1 x5_1 (rdOf ByteArray.empty l0_0 x5_1) y364 t367 x9_3 x10_4 x11_5 (rd y370 x11_5) y374 x14_6 t383 1 false l0_0 a0_1 a0_2 a0_3 a0_4 a0_5 a0_6 a0_7 t380 t381 t382 0 0 false))) else (quilllaw15_pieces.j6 k6 l1 x5_1 (rdOf ByteArray.empty l0_0 x5_1) y364 t367 x9_3 x10_4 x11_5 (rd y370 x11_5) y374 x14_6 t383 1 false l0_0 a0_1 a0_2 a0_3 a0_4 a0_5 a0_6 a0_7 t380 t381 t382 0 0 false))) = some r := by rw [if_pos rfl] at H; exact H
              clear H
              have H := H1
              clear H1
              by_cases c64 : (rd y370 x11_5) = 105
              ·
               rw [if_pos c64] at H
               have c64b0 : ((rd y370 x11_5) == 105) = true := beq_iff_eq.mpr c64
               have c64b1 : ((rd y370 x11_5) != 105) = false := bne_eq_false_iff_eq.mpr c64
               clear c64
               (first | rw [c64b0] | (simp only [i64_w, i32_w]; rw [c64b0]) | skip)
               replace H := Option.bind_eq_some_iff.mp H
               obtain ⟨t390, A650, H⟩ := H
               (try dsimp only at H)
               have A65 := Aside0.mk A650
               clear A650
               by_cases c66 : t390 = true
               rotate_left
               ·
                replace c66 := Bool.eq_false_iff.mpr c66
                subst c66
                have H1 : (quilllaw15_pieces.j6 k6 l1 x5_1 (rdOf ByteArray.empty l0_0 x5_1) y364 t367 x9_3 x10_4 x11_5 (rd y370 x11_5) y374 x14_6 t383 1 false l0_0 a0_1 a0_2 a0_3 a0_4 a0_5 a0_6 a0_7 t380 t381 t382 0 0 false) = some r := by rw [if_neg (show ¬ (false = true) by decide)] at H; exact H
                clear H
                have H := H1
                clear H1
                have H' := Aside0.mk H
                clear H
                go_wp2_with (first | ((with_reducible refine gate_callee (f := 18) rfl ?_); refine goesL_ (some 96) rfl rfl Tryd.func18 (by kernel_rfl) rfl #[.string (rdOf ByteArray.empty l0_0 x5_1)] rfl (map1 rfl) ?_; (with_reducible refine (quillref1_May.calls k6 (rdOf ByteArray.empty l0_0 x5_1) true _ ?side1 A60.out).mono ?_); (case side1 => exact Tabs.below HT.out (by repeat with_reducible first | exact HB.out | apply pw_below_drewN | refine below_set ?_ GE360.out | refine below_set ?_ GE384.out | refine below_set ?_ GE385.out | apply below_drew1 | apply below_alloc)); rintro e w70 ⟨rfl, hb⟩; refine ⟨_, rfl, ?_⟩; have n0_ := Aside0.mk (Kd.R_below (by (with_reducible repeat (first | apply Kd.R_alloc | apply Kd.R_drewN | apply Kd.R_drew)); exact (Kd.R_mono (Kd.R_far (p := ⟨gb385, 2, none⟩) (Kd.R_far (p := ⟨gb385, 1, none⟩) (Kd.R_far (p := ⟨gb385, 0, none⟩) (Kd.R_types HO_7.out BK385.out (by decide)) (fun _ hk => hk.2) (.int .i64 0)) (fun _ hk => hk.2) (.int .i64 0)) (fun _ hk => hk.2) (.bool false)) (fun _ h_ => h_.1))) hb); have n1_ := Aside0.mk (Kd.R_below (by (with_reducible repeat (first | apply Kd.R_alloc | apply Kd.R_drewN | apply Kd.R_drew)); exact (Kd.R_mono (Kd.R_far (p := ⟨gb385, 2, none⟩) (Kd.R_far (p := ⟨gb385, 1, none⟩) (Kd.R_far (p := ⟨gb385, 0, none⟩) (Kd.R_types HO_8.out BK385.out (by decide)) (fun _ hk => hk.2) (.int .i64 0)) (fun _ hk => hk.2) (.int .i64 0)) (fun _ hk => hk.2) (.bool false)) (fun _ h_ => h_.1))) hb); have n2_ := Aside0.mk (Kd.R_below (by (with_reducible repeat (first | apply Kd.R_alloc | apply Kd.R_drewN | apply Kd.R_drew)); exact (Kd.R_mono (Kd.R_far (p := ⟨gb385, 2, none⟩) (Kd.R_far (p := ⟨gb385, 1, none⟩) (Kd.R_far (p := ⟨gb385, 0, none⟩) (Kd.R_types HO_13.out BK385.out (by decide)) (fun _ hk => hk.2) (.int .i64 0)) (fun _ hk => hk.2) (.int .i64 0)) (fun _ hk => hk.2) (.bool false)) (fun _ h_ => h_.1))) hb); have n3_ := Aside0.mk (blk_below (g := gb360) (o := .cells #[.slice (some ad363) l0_0.length c0_0, .int .i64 a0_1, .int .i64 a0_2, .int .i64 a0_3, .int .i64 a0_4, .int .i64 a0_5, .int .i64 a0_6, .int .i64 a0_7] 28 (0, 0)) (by (with_reducible repeat (first | refine blk_drewN ?_ _ | refine blk_drew ?_ | refine blk_alloc ?_ _)); refine blk_far ?_ NB360_385.out _; (with_reducible repeat (first | refine blk_drewN ?_ _ | refine blk_drew ?_ | refine blk_alloc ?_ _)); refine blk_far ?_ NB360_385.out _; (with_reducible repeat (first | refine blk_drewN ?_ _ | refine blk_drew ?_ | refine blk_alloc ?_ _)); refine blk_far ?_ NB360_385.out _; (with_reducible repeat (first | refine blk_drewN ?_ _ | refine blk_drew ?_ | refine blk_alloc ?_ _)); exact BK360.out) hb); have n4_ := Aside0.mk (blk_below (g := gb384) (o := .cells #[.int .i64 t380, .int .i64 t381, .bool t382] 35 (0, 0)) (by (with_reducible repeat (first | refine blk_drewN ?_ _ | refine blk_drew ?_ | refine blk_alloc ?_ _)); refine blk_far ?_ NB384_385.out _; (with_reducible repeat (first | refine blk_drewN ?_ _ | refine blk_drew ?_ | refine blk_alloc ?_ _)); refine blk_far ?_ NB384_385.out _; (with_reducible repeat (first | refine blk_drewN ?_ _ | refine blk_drew ?_ | refine blk_alloc ?_ _)); refine blk_far ?_ NB384_385.out _; (with_reducible repeat (first | refine blk_drewN ?_ _ | refine blk_drew ?_ | refine blk_alloc ?_ _)); exact BK384.out) hb); have n5_ := Aside0.mk (blk_below (g := gb385) (o := .cells #[.int .i64 0, .int .i64 0, .bool false] 35 (0, 0)) (by (with_reducible repeat (first | refine blk_drewN ?_ _ | refine blk_drew ?_ | refine blk_alloc ?_ _)); refine blk_put (cs := #[.int .i64 0, .int .i64 0, .bool false]) ?_ 2 _ rfl; (with_reducible repeat (first | refine blk_drewN ?_ _ | refine blk_drew ?_ | refine blk_alloc ?_ _)); refine blk_put (cs := #[.int .i64 0, .int .i64 0, .bool false]) ?_ 1 _ rfl; (with_reducible repeat (first | refine blk_drewN ?_ _ | refine blk_drew ?_ | refine blk_alloc ?_ _)); refine blk_put (cs := #[.int .i64 0, .int .i64 0, .bool false]) ?_ 0 _ rfl; (with_reducible repeat (first | refine blk_drewN ?_ _ | refine blk_drew ?_ | refine blk_alloc ?_ _)); exact BK385.out) hb); have n6_ := Aside0.mk (below_step (by repeat with_reducible first | exact HB.out | apply pw_below_drewN | refine below_set ?_ GE360.out | refine below_set ?_ GE384.out | refine below_set ?_ GE385.out | apply below_drew1 | apply below_alloc) hb); clear HO_7; clear HO_8; clear HO_13; clear BK360; clear BK384; clear BK385; clear HB; have HO_7 := n0_; have HO_8 := n1_; have HO_13 := n2_; have BK360 := n3_; have BK384 := n4_; have BK385 := n5_; have HB := n6_; clear n0_ n1_ n2_ n3_ n4_ n5_ n6_; (try clear hb); (try clear hb2); (try clear hk); (try clear hi); have p387 : 0 ≤ (x9_3 : Int) := of_decide_eq_true (by assumption); have q387 : x9_3 < (t367.length : Int) := of_decide_eq_true (by assumption); obtain ⟨ad387, e387, hx387_0⟩ := Kd.at_int (Kd.R_reads' HO_8.out).2.2 x9_3 p387 q387; obtain rfl : ad377 = ad387 := (by injection e387); replace p387 := eq_true p387; replace q387 := eq_true q387) | (go_at_call 19; (with_reducible refine (quillref0_Num.calls (rd t367 x9_3) (y364.length : Int) true _ A62.out).mono ?_); rintro e w' ⟨rfl, ⟨nd, rfl⟩⟩; have p389 : 0 ≤ (x10_4 : Int) := of_decide_eq_true (by assumption); have q389 : x10_4 < (l1.length : Int) := of_decide_eq_true (by assumption); obtain ⟨ad389, e389, hx389_0⟩ := Kd.at_int HR1.out x10_4 p389 q389; obtain rfl : ad378 = ad389 := (by injection e389); replace hx389_0 := (HB.out.cell (World.block_lt_of_cell? w _ hx389_0)).trans hx389_0; replace p389 := eq_true p389; replace q389 := eq_true q389) | (go_at_call 20; (with_reducible refine (quillref15_Object.calls k6 (rd l1 x10_4) false _ A65.out).mono ?_); rintro e w71 ⟨rfl, hb⟩; have n0_ := Aside0.mk (Kd.R_below (by (with_reducible repeat (first | apply Kd.R_alloc | apply Kd.R_drewN | apply Kd.R_drew)); exact HO_7.out) hb); have n1_ := Aside0.mk (Kd.R_below (by (with_reducible repeat (first | apply Kd.R_alloc | apply Kd.R_drewN | apply Kd.R_drew)); exact HO_8.out) hb); have n2_ := Aside0.mk (Kd.R_below (by (with_reducible repeat (first | apply Kd.R_alloc | apply Kd.R_drewN | apply Kd.R_drew)); exact HO_13.out) hb); have n3_ := Aside0.mk (blb hb BK360.out); have n4_ := Aside0.mk (blb hb BK384.out); have n5_ := Aside0.mk (blb hb BK385.out); have n6_ := Aside0.mk (below_step (by repeat with_reducible first | exact HB.out | apply pw_below_drewN | refine below_set ?_ GE360.out | refine below_set ?_ GE384.out | refine below_set ?_ GE385.out | apply below_drew1 | apply below_alloc) hb); clear HO_7; clear HO_8; clear HO_13; clear BK360; clear BK384; clear BK385; clear HB; have HO_7 := n0_; have HO_8 := n1_; have HO_13 := n2_; have BK360 := n3_; have BK384 := n4_; have BK385 := n5_; have HB := n6_; clear n0_ n1_ n2_ n3_ n4_ n5_ n6_; (try clear hb); (try clear hb2); (try clear hk); (try clear hi)))
                go_meet
                case rel => exact ⟨_, (false), (by first | rfl | (simp; done) | (simp [*]; done)), H', ⟨by have := HK1.out; have := HJ10.out; have := HK3.out; have := HK4.out; have := HK5.out; have := HK6.out; first | omega | exact Nat.le_refl _⟩, ⟨by (with_reducible repeat (first | apply Kd.R_alloc | apply Kd.R_drewN | apply Kd.R_drew)); exact HO_7.out⟩, ⟨by (with_reducible repeat (first | apply Kd.R_alloc | apply Kd.R_drewN | apply Kd.R_drew)); exact HO_8.out⟩, ⟨by (with_reducible repeat (first | apply Kd.R_alloc | apply Kd.R_drewN | apply Kd.R_drew)); exact HO_13.out⟩, ⟨BK360.out⟩, ⟨BK384.out⟩, ⟨BK385.out⟩, ⟨by repeat with_reducible first | exact HB.out | apply pw_below_drewN | refine below_set ?_ GE360.out | refine below_set ?_ GE384.out | refine below_set ?_ GE385.out | apply below_drew1 | apply below_alloc⟩⟩
               subst c66
               have H1 : ((quillref0_Between.f (rd y374 x14_6) 1 999).bind fun t392 => (quilllaw15_pieces.j6 k6 l1 x5_1 (rdOf ByteArray.empty l0_0 x5_1) y364 t367 x9_3 x10_4 x11_5 (rd y370 x11_5) y374 x14_6 t383 1 t392 l0_0 a0_1 a0_2 a0_3 a0_4 a0_5 a0_6 a0_7 t380 t381 t382 0 0 false)) = some r := by rw [if_pos rfl] at H; exact H
               clear H
               have H := H1
               clear H1
               replace H := Option.bind_eq_some_iff.mp H
               obtain ⟨t392, A670, H⟩ := H
               (try dsimp only at H)
               have A67 := Aside0.mk A670
               clear A670
               have H' := Aside0.mk H
               clear H
               go_wp2_with (first | ((with_reducible refine gate_callee (f := 18) rfl ?_); refine goesL_ (some 96) rfl rfl Tryd.func18 (by kernel_rfl) rfl #[.string (rdOf ByteArray.empty l0_0 x5_1)] rfl (map1 rfl) ?_; (with_reducible refine (quillref1_May.calls k6 (rdOf ByteArray.empty l0_0 x5_1) true _ ?side1 A60.out).mono ?_); (case side1 => exact Tabs.below HT.out (by repeat with_reducible first | exact HB.out | apply pw_below_drewN | refine below_set ?_ GE360.out | refine below_set ?_ GE384.out | refine below_set ?_ GE385.out | apply below_drew1 | apply below_alloc)); rintro e w68 ⟨rfl, hb⟩; refine ⟨_, rfl, ?_⟩; have n0_ := Aside0.mk (Kd.R_below (by (with_reducible repeat (first | apply Kd.R_alloc | apply Kd.R_drewN | apply Kd.R_drew)); exact (Kd.R_mono (Kd.R_far (p := ⟨gb385, 2, none⟩) (Kd.R_far (p := ⟨gb385, 1, none⟩) (Kd.R_far (p := ⟨gb385, 0, none⟩) (Kd.R_types HO_7.out BK385.out (by decide)) (fun _ hk => hk.2) (.int .i64 0)) (fun _ hk => hk.2) (.int .i64 0)) (fun _ hk => hk.2) (.bool false)) (fun _ h_ => h_.1))) hb); have n1_ := Aside0.mk (Kd.R_below (by (with_reducible repeat (first | apply Kd.R_alloc | apply Kd.R_drewN | apply Kd.R_drew)); exact (Kd.R_mono (Kd.R_far (p := ⟨gb385, 2, none⟩) (Kd.R_far (p := ⟨gb385, 1, none⟩) (Kd.R_far (p := ⟨gb385, 0, none⟩) (Kd.R_types HO_8.out BK385.out (by decide)) (fun _ hk => hk.2) (.int .i64 0)) (fun _ hk => hk.2) (.int .i64 0)) (fun _ hk => hk.2) (.bool false)) (fun _ h_ => h_.1))) hb); have n2_ := Aside0.mk (Kd.R_below (by (with_reducible repeat (first | apply Kd.R_alloc | apply Kd.R_drewN | apply Kd.R_drew)); exact (Kd.R_mono (Kd.R_far (p := ⟨gb385, 2, none⟩) (Kd.R_far (p := ⟨gb385, 1, none⟩) (Kd.R_far (p := ⟨gb385, 0, none⟩) (Kd.R_types HO_13.out BK385.out (by decide)) (fun _ hk => hk.2) (.int .i64 0)) (fun _ hk => hk.2) (.int .i64 0)) (fun _ hk => hk.2) (.bool false)) (fun _ h_ => h_.1))) hb); have n3_ := Aside0.mk (blk_below (g := gb360) (o := .cells #[.slice (some ad363) l0_0.length c0_0, .int .i64 a0_1, .int .i64 a0_2, .int .i64 a0_3, .int .i64 a0_4, .int .i64 a0_5, .int .i64 a0_6, .int .i64 a0_7] 28 (0, 0)) (by (with_reducible repeat (first | refine blk_drewN ?_ _ | refine blk_drew ?_ | refine blk_alloc ?_ _)); refine blk_far ?_ NB360_385.out _; (with_reducible repeat (first | refine blk_drewN ?_ _ | refine blk_drew ?_ | refine blk_alloc ?_ _)); refine blk_far ?_ NB360_385.out _; (with_reducible repeat (first | refine blk_drewN ?_ _ | refine blk_drew ?_ | refine blk_alloc ?_ _)); refine blk_far ?_ NB360_385.out _; (with_reducible repeat (first | refine blk_drewN ?_ _ | refine blk_drew ?_ | refine blk_alloc ?_ _)); exact BK360.out) hb); have n4_ := Aside0.mk (blk_below (g := gb384) (o := .cells #[.int .i64 t380, .int .i64 t381, .bool t382] 35 (0, 0)) (by (with_reducible repeat (first | refine blk_drewN ?_ _ | refine blk_drew ?_ | refine blk_alloc ?_ _)); refine blk_far ?_ NB384_385.out _; (with_reducible repeat (first | refine blk_drewN ?_ _ | refine blk_drew ?_ | refine blk_alloc ?_ _)); refine blk_far ?_ NB384_385.out _; (with_reducible repeat (first | refine blk_drewN ?_ _ | refine blk_drew ?_ | refine blk_alloc ?_ _)); refine blk_far ?_ NB384_385.out _; (with_reducible repeat (first | refine blk_drewN ?_ _ | refine blk_drew ?_ | refine blk_alloc ?_ _)); exact BK384.out) hb); have n5_ := Aside0.mk (blk_below (g := gb385) (o := .cells #[.int .i64 0, .int .i64 0, .bool false] 35 (0, 0)) (by (with_reducible repeat (first | refine blk_drewN ?_ _ | refine blk_drew ?_ | refine blk_alloc ?_ _)); refine blk_put (cs := #[.int .i64 0, .int .i64 0, .bool false]) ?_ 2 _ rfl; (with_reducible repeat (first | refine blk_drewN ?_ _ | refine blk_drew ?_ | refine blk_alloc ?_ _)); refine blk_put (cs := #[.int .i64 0, .int .i64 0, .bool false]) ?_ 1 _ rfl; (with_reducible repeat (first | refine blk_drewN ?_ _ | refine blk_drew ?_ | refine blk_alloc ?_ _)); refine blk_put (cs := #[.int .i64 0, .int .i64 0, .bool false]) ?_ 0 _ rfl; (with_reducible repeat (first | refine blk_drewN ?_ _ | refine blk_drew ?_ | refine blk_alloc ?_ _)); exact BK385.out) hb); have n6_ := Aside0.mk (below_step (by repeat with_reducible first | exact HB.out | apply pw_below_drewN | refine below_set ?_ GE360.out | refine below_set ?_ GE384.out | refine below_set ?_ GE385.out | apply below_drew1 | apply below_alloc) hb); clear HO_7; clear HO_8; clear HO_13; clear BK360; clear BK384; clear BK385; clear HB; have HO_7 := n0_; have HO_8 := n1_; have HO_13 := n2_; have BK360 := n3_; have BK384 := n4_; have BK385 := n5_; have HB := n6_; clear n0_ n1_ n2_ n3_ n4_ n5_ n6_; (try clear hb); (try clear hb2); (try clear hk); (try clear hi); have p387 : 0 ≤ (x9_3 : Int) := of_decide_eq_true (by assumption); have q387 : x9_3 < (t367.length : Int) := of_decide_eq_true (by assumption); obtain ⟨ad387, e387, hx387_0⟩ := Kd.at_int (Kd.R_reads' HO_8.out).2.2 x9_3 p387 q387; obtain rfl : ad377 = ad387 := (by injection e387); replace p387 := eq_true p387; replace q387 := eq_true q387) | (go_at_call 19; (with_reducible refine (quillref0_Num.calls (rd t367 x9_3) (y364.length : Int) true _ A62.out).mono ?_); rintro e w' ⟨rfl, ⟨nd, rfl⟩⟩; have p389 : 0 ≤ (x10_4 : Int) := of_decide_eq_true (by assumption); have q389 : x10_4 < (l1.length : Int) := of_decide_eq_true (by assumption); obtain ⟨ad389, e389, hx389_0⟩ := Kd.at_int HR1.out x10_4 p389 q389; obtain rfl : ad378 = ad389 := (by injection e389); replace hx389_0 := (HB.out.cell (World.block_lt_of_cell? w _ hx389_0)).trans hx389_0; replace p389 := eq_true p389; replace q389 := eq_true q389) | (go_at_call 20; (with_reducible refine (quillref15_Object.calls k6 (rd l1 x10_4) true _ A65.out).mono ?_); rintro e w69 ⟨rfl, hb⟩; have n0_ := Aside0.mk (Kd.R_below (by (with_reducible repeat (first | apply Kd.R_alloc | apply Kd.R_drewN | apply Kd.R_drew)); exact HO_7.out) hb); have n1_ := Aside0.mk (Kd.R_below (by (with_reducible repeat (first | apply Kd.R_alloc | apply Kd.R_drewN | apply Kd.R_drew)); exact HO_8.out) hb); have n2_ := Aside0.mk (Kd.R_below (by (with_reducible repeat (first | apply Kd.R_alloc | apply Kd.R_drewN | apply Kd.R_drew)); exact HO_13.out) hb); have n3_ := Aside0.mk (blb hb BK360.out); have n4_ := Aside0.mk (blb hb BK384.out); have n5_ := Aside0.mk (blb hb BK385.out); have n6_ := Aside0.mk (below_step (by repeat with_reducible first | exact HB.out | apply pw_below_drewN | refine below_set ?_ GE360.out | refine below_set ?_ GE384.out | refine below_set ?_ GE385.out | apply below_drew1 | apply below_alloc) hb); clear HO_7; clear HO_8; clear HO_13; clear BK360; clear BK384; clear BK385; clear HB; have HO_7 := n0_; have HO_8 := n1_; have HO_13 := n2_; have BK360 := n3_; have BK384 := n4_; have BK385 := n5_; have HB := n6_; clear n0_ n1_ n2_ n3_ n4_ n5_ n6_; (try clear hb); (try clear hb2); (try clear hk); (try clear hi); have p391 : 0 ≤ (x14_6 : Int) := of_decide_eq_true (by assumption); have q391 : x14_6 < (y374.length : Int) := of_decide_eq_true (by assumption); obtain ⟨ad391, e391, hx391_0⟩ := Kd.at_int (Kd.R_reads' HO_13.out).2.2 x14_6 p391 q391; obtain rfl : ad379 = ad391 := (by injection e391); replace p391 := eq_true p391; replace q391 := eq_true q391) | (go_at_call 21; (with_reducible refine (quillref0_Between.calls (rd y374 x14_6) 1 999 t392 _ A67.out).mono ?_); rintro e w' ⟨rfl, ⟨nd, rfl⟩⟩))
               go_meet
               case rel => exact ⟨_, (t392), (by first | rfl | (simp; done) | (simp [*]; done)), H', ⟨by have := HK1.out; have := HJ10.out; have := HK3.out; have := HK4.out; have := HK5.out; have := HK6.out; first | omega | exact Nat.le_refl _⟩, ⟨by (with_reducible repeat (first | apply Kd.R_alloc | apply Kd.R_drewN | apply Kd.R_drew)); exact HO_7.out⟩, ⟨by (with_reducible repeat (first | apply Kd.R_alloc | apply Kd.R_drewN | apply Kd.R_drew)); exact HO_8.out⟩, ⟨by (with_reducible repeat (first | apply Kd.R_alloc | apply Kd.R_drewN | apply Kd.R_drew)); exact HO_13.out⟩, ⟨BK360.out⟩, ⟨BK384.out⟩, ⟨BK385.out⟩, ⟨by repeat with_reducible first | exact HB.out | apply pw_below_drewN | refine below_set ?_ GE360.out | refine below_set ?_ GE384.out | refine below_set ?_ GE385.out | apply below_drew1 | apply below_alloc⟩⟩
              rw [if_neg c64] at H
              have c64b0 : ((rd y370 x11_5) == 105) = false := beq_eq_false_iff_ne.mpr c64
              have c64b1 : ((rd y370 x11_5) != 105) = true := bne_iff_ne.mpr c64
              (first | rw [c64b0] | (simp only [i64_w, i32_w]; rw [c64b0]) | skip)
              by_cases c72 : (rd y370 x11_5) = 97
              rotate_left
              ·
               rw [if_neg c72] at H
               have c72b0 : ((rd y370 x11_5) == 97) = false := beq_eq_false_iff_ne.mpr c72
               have c72b1 : ((rd y370 x11_5) != 97) = true := bne_iff_ne.mpr c72
               have H' := Aside0.mk H
               clear H
               go_wp2_with (first | ((with_reducible refine gate_callee (f := 18) rfl ?_); refine goesL_ (some 96) rfl rfl Tryd.func18 (by kernel_rfl) rfl #[.string (rdOf ByteArray.empty l0_0 x5_1)] rfl (map1 rfl) ?_; (with_reducible refine (quillref1_May.calls k6 (rdOf ByteArray.empty l0_0 x5_1) true _ ?side1 A60.out).mono ?_); (case side1 => exact Tabs.below HT.out (by repeat with_reducible first | exact HB.out | apply pw_below_drewN | refine below_set ?_ GE360.out | refine below_set ?_ GE384.out | refine below_set ?_ GE385.out | apply below_drew1 | apply below_alloc)); rintro e w80 ⟨rfl, hb⟩; refine ⟨_, rfl, ?_⟩; have n0_ := Aside0.mk (Kd.R_below (by (with_reducible repeat (first | apply Kd.R_alloc | apply Kd.R_drewN | apply Kd.R_drew)); exact (Kd.R_mono (Kd.R_far (p := ⟨gb385, 2, none⟩) (Kd.R_far (p := ⟨gb385, 1, none⟩) (Kd.R_far (p := ⟨gb385, 0, none⟩) (Kd.R_types HO_7.out BK385.out (by decide)) (fun _ hk => hk.2) (.int .i64 0)) (fun _ hk => hk.2) (.int .i64 0)) (fun _ hk => hk.2) (.bool false)) (fun _ h_ => h_.1))) hb); have n1_ := Aside0.mk (Kd.R_below (by (with_reducible repeat (first | apply Kd.R_alloc | apply Kd.R_drewN | apply Kd.R_drew)); exact (Kd.R_mono (Kd.R_far (p := ⟨gb385, 2, none⟩) (Kd.R_far (p := ⟨gb385, 1, none⟩) (Kd.R_far (p := ⟨gb385, 0, none⟩) (Kd.R_types HO_8.out BK385.out (by decide)) (fun _ hk => hk.2) (.int .i64 0)) (fun _ hk => hk.2) (.int .i64 0)) (fun _ hk => hk.2) (.bool false)) (fun _ h_ => h_.1))) hb); have n2_ := Aside0.mk (Kd.R_below (by (with_reducible repeat (first | apply Kd.R_alloc | apply Kd.R_drewN | apply Kd.R_drew)); exact (Kd.R_mono (Kd.R_far (p := ⟨gb385, 2, none⟩) (Kd.R_far (p := ⟨gb385, 1, none⟩) (Kd.R_far (p := ⟨gb385, 0, none⟩) (Kd.R_types HO_13.out BK385.out (by decide)) (fun _ hk => hk.2) (.int .i64 0)) (fun _ hk => hk.2) (.int .i64 0)) (fun _ hk => hk.2) (.bool false)) (fun _ h_ => h_.1))) hb); have n3_ := Aside0.mk (blk_below (g := gb360) (o := .cells #[.slice (some ad363) l0_0.length c0_0, .int .i64 a0_1, .int .i64 a0_2, .int .i64 a0_3, .int .i64 a0_4, .int .i64 a0_5, .int .i64 a0_6, .int .i64 a0_7] 28 (0, 0)) (by (with_reducible repeat (first | refine blk_drewN ?_ _ | refine blk_drew ?_ | refine blk_alloc ?_ _)); refine blk_far ?_ NB360_385.out _; (with_reducible repeat (first | refine blk_drewN ?_ _ | refine blk_drew ?_ | refine blk_alloc ?_ _)); refine blk_far ?_ NB360_385.out _; (with_reducible repeat (first | refine blk_drewN ?_ _ | refine blk_drew ?_ | refine blk_alloc ?_ _)); refine blk_far ?_ NB360_385.out _; (with_reducible repeat (first | refine blk_drewN ?_ _ | refine blk_drew ?_ | refine blk_alloc ?_ _)); exact BK360.out) hb); have n4_ := Aside0.mk (blk_below (g := gb384) (o := .cells #[.int .i64 t380, .int .i64 t381, .bool t382] 35 (0, 0)) (by (with_reducible repeat (first | refine blk_drewN ?_ _ | refine blk_drew ?_ | refine blk_alloc ?_ _)); refine blk_far ?_ NB384_385.out _; (with_reducible repeat (first | refine blk_drewN ?_ _ | refine blk_drew ?_ | refine blk_alloc ?_ _)); refine blk_far ?_ NB384_385.out _; (with_reducible repeat (first | refine blk_drewN ?_ _ | refine blk_drew ?_ | refine blk_alloc ?_ _)); refine blk_far ?_ NB384_385.out _; (with_reducible repeat (first | refine blk_drewN ?_ _ | refine blk_drew ?_ | refine blk_alloc ?_ _)); exact BK384.out) hb); have n5_ := Aside0.mk (blk_below (g := gb385) (o := .cells #[.int .i64 0, .int .i64 0, .bool false] 35 (0, 0)) (by (with_reducible repeat (first | refine blk_drewN ?_ _ | refine blk_drew ?_ | refine blk_alloc ?_ _)); refine blk_put (cs := #[.int .i64 0, .int .i64 0, .bool false]) ?_ 2 _ rfl; (with_reducible repeat (first | refine blk_drewN ?_ _ | refine blk_drew ?_ | refine blk_alloc ?_ _)); refine blk_put (cs := #[.int .i64 0, .int .i64 0, .bool false]) ?_ 1 _ rfl; (with_reducible repeat (first | refine blk_drewN ?_ _ | refine blk_drew ?_ | refine blk_alloc ?_ _)); refine blk_put (cs := #[.int .i64 0, .int .i64 0, .bool false]) ?_ 0 _ rfl; (with_reducible repeat (first | refine blk_drewN ?_ _ | refine blk_drew ?_ | refine blk_alloc ?_ _)); exact BK385.out) hb); have n6_ := Aside0.mk (below_step (by repeat with_reducible first | exact HB.out | apply pw_below_drewN | refine below_set ?_ GE360.out | refine below_set ?_ GE384.out | refine below_set ?_ GE385.out | apply below_drew1 | apply below_alloc) hb); clear HO_7; clear HO_8; clear HO_13; clear BK360; clear BK384; clear BK385; clear HB; have HO_7 := n0_; have HO_8 := n1_; have HO_13 := n2_; have BK360 := n3_; have BK384 := n4_; have BK385 := n5_; have HB := n6_; clear n0_ n1_ n2_ n3_ n4_ n5_ n6_; (try clear hb); (try clear hb2); (try clear hk); (try clear hi); have p387 : 0 ≤ (x9_3 : Int) := of_decide_eq_true (by assumption); have q387 : x9_3 < (t367.length : Int) := of_decide_eq_true (by assumption); obtain ⟨ad387, e387, hx387_0⟩ := Kd.at_int (Kd.R_reads' HO_8.out).2.2 x9_3 p387 q387; obtain rfl : ad377 = ad387 := (by injection e387); replace p387 := eq_true p387; replace q387 := eq_true q387) | (go_at_call 19; (with_reducible refine (quillref0_Num.calls (rd t367 x9_3) (y364.length : Int) true _ A62.out).mono ?_); rintro e w' ⟨rfl, ⟨nd, rfl⟩⟩))
               go_meet
               case rel => exact ⟨_, (false), (by first | rfl | (simp; done) | (simp [*]; done)), H', ⟨by have := HK1.out; have := HJ10.out; have := HK3.out; have := HK4.out; have := HK5.out; have := HK6.out; first | omega | exact Nat.le_refl _⟩, ⟨by (with_reducible repeat (first | apply Kd.R_alloc | apply Kd.R_drewN | apply Kd.R_drew)); exact HO_7.out⟩, ⟨by (with_reducible repeat (first | apply Kd.R_alloc | apply Kd.R_drewN | apply Kd.R_drew)); exact HO_8.out⟩, ⟨by (with_reducible repeat (first | apply Kd.R_alloc | apply Kd.R_drewN | apply Kd.R_drew)); exact HO_13.out⟩, ⟨BK360.out⟩, ⟨BK384.out⟩, ⟨BK385.out⟩, ⟨by repeat with_reducible first | exact HB.out | apply pw_below_drewN | refine below_set ?_ GE360.out | refine below_set ?_ GE384.out | refine below_set ?_ GE385.out | apply below_drew1 | apply below_alloc⟩⟩
              rw [if_pos c72] at H
              have c72b0 : ((rd y370 x11_5) == 97) = true := beq_iff_eq.mpr c72
              have c72b1 : ((rd y370 x11_5) != 97) = false := bne_eq_false_iff_eq.mpr c72
              clear c72
              replace H := Option.bind_eq_some_iff.mp H
              obtain ⟨t394, A730, H⟩ := H
              (try dsimp only at H)
              have A73 := Aside0.mk A730
              clear A730
              by_cases c74 : t394 = true
              rotate_left
              ·
               replace c74 := Bool.eq_false_iff.mpr c74
               subst c74
               have H1 : (quilllaw15_pieces.j6 k6 l1 x5_1 (rdOf ByteArray.empty l0_0 x5_1) y364 t367 x9_3 x10_4 x11_5 (rd y370 x11_5) y374 x14_6 t383 1 false l0_0 a0_1 a0_2 a0_3 a0_4 a0_5 a0_6 a0_7 t380 t381 t382 0 0 false) = some r := by rw [if_neg (show ¬ (false = true) by decide)] at H; exact H
               clear H
               have H := H1
               clear H1
               have H' := Aside0.mk H
               clear H
               go_wp2_with (first | ((with_reducible refine gate_callee (f := 18) rfl ?_); refine goesL_ (some 96) rfl rfl Tryd.func18 (by kernel_rfl) rfl #[.string (rdOf ByteArray.empty l0_0 x5_1)] rfl (map1 rfl) ?_; (with_reducible refine (quillref1_May.calls k6 (rdOf ByteArray.empty l0_0 x5_1) true _ ?side1 A60.out).mono ?_); (case side1 => exact Tabs.below HT.out (by repeat with_reducible first | exact HB.out | apply pw_below_drewN | refine below_set ?_ GE360.out | refine below_set ?_ GE384.out | refine below_set ?_ GE385.out | apply below_drew1 | apply below_alloc)); rintro e w78 ⟨rfl, hb⟩; refine ⟨_, rfl, ?_⟩; have n0_ := Aside0.mk (Kd.R_below (by (with_reducible repeat (first | apply Kd.R_alloc | apply Kd.R_drewN | apply Kd.R_drew)); exact (Kd.R_mono (Kd.R_far (p := ⟨gb385, 2, none⟩) (Kd.R_far (p := ⟨gb385, 1, none⟩) (Kd.R_far (p := ⟨gb385, 0, none⟩) (Kd.R_types HO_7.out BK385.out (by decide)) (fun _ hk => hk.2) (.int .i64 0)) (fun _ hk => hk.2) (.int .i64 0)) (fun _ hk => hk.2) (.bool false)) (fun _ h_ => h_.1))) hb); have n1_ := Aside0.mk (Kd.R_below (by (with_reducible repeat (first | apply Kd.R_alloc | apply Kd.R_drewN | apply Kd.R_drew)); exact (Kd.R_mono (Kd.R_far (p := ⟨gb385, 2, none⟩) (Kd.R_far (p := ⟨gb385, 1, none⟩) (Kd.R_far (p := ⟨gb385, 0, none⟩) (Kd.R_types HO_8.out BK385.out (by decide)) (fun _ hk => hk.2) (.int .i64 0)) (fun _ hk => hk.2) (.int .i64 0)) (fun _ hk => hk.2) (.bool false)) (fun _ h_ => h_.1))) hb); have n2_ := Aside0.mk (Kd.R_below (by (with_reducible repeat (first | apply Kd.R_alloc | apply Kd.R_drewN | apply Kd.R_drew)); exact (Kd.R_mono (Kd.R_far (p := ⟨gb385, 2, none⟩) (Kd.R_far (p := ⟨gb385, 1, none⟩) (Kd.R_far (p := ⟨gb385, 0, none⟩) (Kd.R_types HO_13.out BK385.out (by decide)) (fun _ hk => hk.2) (.int .i64 0)) (fun _ hk => hk.2) (.int .i64 0)) (fun _ hk => hk.2) (.bool false)) (fun _ h_ => h_.1))) hb); have n3_ := Aside0.mk (blk_below (g := gb360) (o := .cells #[.slice (some ad363) l0_0.length c0_0, .int .i64 a0_1, .int .i64 a0_2, .int .i64 a0_3, .int .i64 a0_4, .int .i64 a0_5, .int .i64 a0_6, .int .i64 a0_7] 28 (0, 0)) (by (with_reducible repeat (first | refine blk_drewN ?_ _ | refine blk_drew ?_ | refine blk_alloc ?_ _)); refine blk_far ?_ NB360_385.out _; (with_reducible repeat (first | refine blk_drewN ?_ _ | refine blk_drew ?_ | refine blk_alloc ?_ _)); refine blk_far ?_ NB360_385.out _; (with_reducible repeat (first | refine blk_drewN ?_ _ | refine blk_drew ?_ | refine blk_alloc ?_ _)); refine blk_far ?_ NB360_385.out _; (with_reducible repeat (first | refine blk_drewN ?_ _ | refine blk_drew ?_ | refine blk_alloc ?_ _)); exact BK360.out) hb); have n4_ := Aside0.mk (blk_below (g := gb384) (o := .cells #[.int .i64 t380, .int .i64 t381, .bool t382] 35 (0, 0)) (by (with_reducible repeat (first | refine blk_drewN ?_ _ | refine blk_drew ?_ | refine blk_alloc ?_ _)); refine blk_far ?_ NB384_385.out _; (with_reducible repeat (first | refine blk_drewN ?_ _ | refine blk_drew ?_ | refine blk_alloc ?_ _)); refine blk_far ?_ NB384_385.out _; (with_reducible repeat (first | refine blk_drewN ?_ _ | refine blk_drew ?_ | refine blk_alloc ?_ _)); refine blk_far ?_ NB384_385.out _; (with_reducible repeat (first | refine blk_drewN ?_ _ | refine blk_drew ?_ | refine blk_alloc ?_ _)); exact BK384.out) hb); have n5_ := Aside0.mk (blk_below (g := gb385) (o := .cells #[.int .i64 0, .int .i64 0, .bool false] 35 (0, 0)) (by (with_reducible repeat (first | refine blk_drewN ?_ _ | refine blk_drew ?_ | refine blk_alloc ?_ _)); refine blk_put (cs := #[.int .i64 0, .int .i64 0, .bool false]) ?_ 2 _ rfl; (with_reducible repeat (first | refine blk_drewN ?_ _ | refine blk_drew ?_ | refine blk_alloc ?_ _)); refine blk_put (cs := #[.int .i64 0, .int .i64 0, .bool false]) ?_ 1 _ rfl; (with_reducible repeat (first | refine blk_drewN ?_ _ | refine blk_drew ?_ | refine blk_alloc ?_ _)); refine blk_put (cs := #[.int .i64 0, .int .i64 0, .bool false]) ?_ 0 _ rfl; (with_reducible repeat (first | refine blk_drewN ?_ _ | refine blk_drew ?_ | refine blk_alloc ?_ _)); exact BK385.out) hb); have n6_ := Aside0.mk (below_step (by repeat with_reducible first | exact HB.out | apply pw_below_drewN | refine below_set ?_ GE360.out | refine below_set ?_ GE384.out | refine below_set ?_ GE385.out | apply below_drew1 | apply below_alloc) hb); clear HO_7; clear HO_8; clear HO_13; clear BK360; clear BK384; clear BK385; clear HB; have HO_7 := n0_; have HO_8 := n1_; have HO_13 := n2_; have BK360 := n3_; have BK384 := n4_; have BK385 := n5_; have HB := n6_; clear n0_ n1_ n2_ n3_ n4_ n5_ n6_; (try clear hb); (try clear hb2); (try clear hk); (try clear hi); have p387 : 0 ≤ (x9_3 : Int) := of_decide_eq_true (by assumption); have q387 : x9_3 < (t367.length : Int) := of_decide_eq_true (by assumption); obtain ⟨ad387, e387, hx387_0⟩ := Kd.at_int (Kd.R_reads' HO_8.out).2.2 x9_3 p387 q387; obtain rfl : ad377 = ad387 := (by injection e387); replace p387 := eq_true p387; replace q387 := eq_true q387) | (go_at_call 19; (with_reducible refine (quillref0_Num.calls (rd t367 x9_3) (y364.length : Int) true _ A62.out).mono ?_); rintro e w' ⟨rfl, ⟨nd, rfl⟩⟩; have p393 : 0 ≤ (x10_4 : Int) := of_decide_eq_true (by assumption); have q393 : x10_4 < (l1.length : Int) := of_decide_eq_true (by assumption); obtain ⟨ad393, e393, hx393_0⟩ := Kd.at_int HR1.out x10_4 p393 q393; obtain rfl : ad378 = ad393 := (by injection e393); replace hx393_0 := (HB.out.cell (World.block_lt_of_cell? w _ hx393_0)).trans hx393_0; replace p393 := eq_true p393; replace q393 := eq_true q393) | (go_at_call 20; (with_reducible refine (quillref15_Object.calls k6 (rd l1 x10_4) false _ A73.out).mono ?_); rintro e w79 ⟨rfl, hb⟩; have n0_ := Aside0.mk (Kd.R_below (by (with_reducible repeat (first | apply Kd.R_alloc | apply Kd.R_drewN | apply Kd.R_drew)); exact HO_7.out) hb); have n1_ := Aside0.mk (Kd.R_below (by (with_reducible repeat (first | apply Kd.R_alloc | apply Kd.R_drewN | apply Kd.R_drew)); exact HO_8.out) hb); have n2_ := Aside0.mk (Kd.R_below (by (with_reducible repeat (first | apply Kd.R_alloc | apply Kd.R_drewN | apply Kd.R_drew)); exact HO_13.out) hb); have n3_ := Aside0.mk (blb hb BK360.out); have n4_ := Aside0.mk (blb hb BK384.out); have n5_ := Aside0.mk (blb hb BK385.out); have n6_ := Aside0.mk (below_step (by repeat with_reducible first | exact HB.out | apply pw_below_drewN | refine below_set ?_ GE360.out | refine below_set ?_ GE384.out | refine below_set ?_ GE385.out | apply below_drew1 | apply below_alloc) hb); clear HO_7; clear HO_8; clear HO_13; clear BK360; clear BK384; clear BK385; clear HB; have HO_7 := n0_; have HO_8 := n1_; have HO_13 := n2_; have BK360 := n3_; have BK384 := n4_; have BK385 := n5_; have HB := n6_; clear n0_ n1_ n2_ n3_ n4_ n5_ n6_; (try clear hb); (try clear hb2); (try clear hk); (try clear hi)))
               go_meet
               case rel => exact ⟨_, (false), (by first | rfl | (simp; done) | (simp [*]; done)), H', ⟨by have := HK1.out; have := HJ10.out; have := HK3.out; have := HK4.out; have := HK5.out; have := HK6.out; first | omega | exact Nat.le_refl _⟩, ⟨by (with_reducible repeat (first | apply Kd.R_alloc | apply Kd.R_drewN | apply Kd.R_drew)); exact HO_7.out⟩, ⟨by (with_reducible repeat (first | apply Kd.R_alloc | apply Kd.R_drewN | apply Kd.R_drew)); exact HO_8.out⟩, ⟨by (with_reducible repeat (first | apply Kd.R_alloc | apply Kd.R_drewN | apply Kd.R_drew)); exact HO_13.out⟩, ⟨BK360.out⟩, ⟨BK384.out⟩, ⟨BK385.out⟩, ⟨by repeat with_reducible first | exact HB.out | apply pw_below_drewN | refine below_set ?_ GE360.out | refine below_set ?_ GE384.out | refine below_set ?_ GE385.out | apply below_drew1 | apply below_alloc⟩⟩
              subst c74
              have H1 : ((quillref0_Between.f (rd y374 x14_6) 1 999).bind fun t396 => (quilllaw15_pieces.j6 k6 l1 x5_1 (rdOf ByteArray.empty l0_0 x5_1) y364 t367 x9_3 x10_4 x11_5 (rd y370 x11_5) y374 x14_6 t383 1 t396 l0_0 a0_1 a0_2 a0_3 a0_4 a0_5 a0_6 a0_7 t380 t381 t382 0 0 false)) = some r := by rw [if_pos rfl] at H; exact H
              clear H
              have H := H1
              clear H1
              replace H := Option.bind_eq_some_iff.mp H
              obtain ⟨t396, A750, H⟩ := H
              (try dsimp only at H)
              have A75 := Aside0.mk A750
              clear A750
              have H' := Aside0.mk H
              clear H
              go_wp2_with (first | ((with_reducible refine gate_callee (f := 18) rfl ?_); refine goesL_ (some 96) rfl rfl Tryd.func18 (by kernel_rfl) rfl #[.string (rdOf ByteArray.empty l0_0 x5_1)] rfl (map1 rfl) ?_; (with_reducible refine (quillref1_May.calls k6 (rdOf ByteArray.empty l0_0 x5_1) true _ ?side1 A60.out).mono ?_); (case side1 => exact Tabs.below HT.out (by repeat with_reducible first | exact HB.out | apply pw_below_drewN | refine below_set ?_ GE360.out | refine below_set ?_ GE384.out | refine below_set ?_ GE385.out | apply below_drew1 | apply below_alloc)); rintro e w76 ⟨rfl, hb⟩; refine ⟨_, rfl, ?_⟩; have n0_ := Aside0.mk (Kd.R_below (by (with_reducible repeat (first | apply Kd.R_alloc | apply Kd.R_drewN | apply Kd.R_drew)); exact (Kd.R_mono (Kd.R_far (p := ⟨gb385, 2, none⟩) (Kd.R_far (p := ⟨gb385, 1, none⟩) (Kd.R_far (p := ⟨gb385, 0, none⟩) (Kd.R_types HO_7.out BK385.out (by decide)) (fun _ hk => hk.2) (.int .i64 0)) (fun _ hk => hk.2) (.int .i64 0)) (fun _ hk => hk.2) (.bool false)) (fun _ h_ => h_.1))) hb); have n1_ := Aside0.mk (Kd.R_below (by (with_reducible repeat (first | apply Kd.R_alloc | apply Kd.R_drewN | apply Kd.R_drew)); exact (Kd.R_mono (Kd.R_far (p := ⟨gb385, 2, none⟩) (Kd.R_far (p := ⟨gb385, 1, none⟩) (Kd.R_far (p := ⟨gb385, 0, none⟩) (Kd.R_types HO_8.out BK385.out (by decide)) (fun _ hk => hk.2) (.int .i64 0)) (fun _ hk => hk.2) (.int .i64 0)) (fun _ hk => hk.2) (.bool false)) (fun _ h_ => h_.1))) hb); have n2_ := Aside0.mk (Kd.R_below (by (with_reducible repeat (first | apply Kd.R_alloc | apply Kd.R_drewN | apply Kd.R_drew)); exact (Kd.R_mono (Kd.R_far (p := ⟨gb385, 2, none⟩) (Kd.R_far (p := ⟨gb385, 1, none⟩) (Kd.R_far (p := ⟨gb385, 0, none⟩) (Kd.R_types HO_13.out BK385.out (by decide)) (fun _ hk => hk.2) (.int .i64 0)) (fun _ hk => hk.2) (.int .i64 0)) (fun _ hk => hk.2) (.bool false)) (fun _ h_ => h_.1))) hb); have n3_ := Aside0.mk (blk_below (g := gb360) (o := .cells #[.slice (some ad363) l0_0.length c0_0, .int .i64 a0_1, .int .i64 a0_2, .int .i64 a0_3, .int .i64 a0_4, .int .i64 a0_5, .int .i64 a0_6, .int .i64 a0_7] 28 (0, 0)) (by (with_reducible repeat (first | refine blk_drewN ?_ _ | refine blk_drew ?_ | refine blk_alloc ?_ _)); refine blk_far ?_ NB360_385.out _; (with_reducible repeat (first | refine blk_drewN ?_ _ | refine blk_drew ?_ | refine blk_alloc ?_ _)); refine blk_far ?_ NB360_385.out _; (with_reducible repeat (first | refine blk_drewN ?_ _ | refine blk_drew ?_ | refine blk_alloc ?_ _)); refine blk_far ?_ NB360_385.out _; (with_reducible repeat (first | refine blk_drewN ?_ _ | refine blk_drew ?_ | refine blk_alloc ?_ _)); exact BK360.out) hb); have n4_ := Aside0.mk (blk_below (g := gb384) (o := .cells #[.int .i64 t380, .int .i64 t381, .bool t382] 35 (0, 0)) (by (with_reducible repeat (first | refine blk_drewN ?_ _ | refine blk_drew ?_ | refine blk_alloc ?_ _)); refine blk_far ?_ NB384_385.out _; (with_reducible repeat (first | refine blk_drewN ?_ _ | refine blk_drew ?_ | refine blk_alloc ?_ _)); refine blk_far ?_ NB384_385.out _; (with_reducible repeat (first | refine blk_drewN ?_ _ | refine blk_drew ?_ | refine blk_alloc ?_ _)); refine blk_far ?_ NB384_385.out _; (with_reducible repeat (first | refine blk_drewN ?_ _ | refine blk_drew ?_ | refine blk_alloc ?_ _)); exact BK384.out) hb); have n5_ := Aside0.mk (blk_below (g := gb385) (o := .cells #[.int .i64 0, .int .i64 0, .bool false] 35 (0, 0)) (by (with_reducible repeat (first | refine blk_drewN ?_ _ | refine blk_drew ?_ | refine blk_alloc ?_ _)); refine blk_put (cs := #[.int .i64 0, .int .i64 0, .bool false]) ?_ 2 _ rfl; (with_reducible repeat (first | refine blk_drewN ?_ _ | refine blk_drew ?_ | refine blk_alloc ?_ _)); refine blk_put (cs := #[.int .i64 0, .int .i64 0, .bool false]) ?_ 1 _ rfl; (with_reducible repeat (first | refine blk_drewN ?_ _ | refine blk_drew ?_ | refine blk_alloc ?_ _)); refine blk_put (cs := #[.int .i64 0, .int .i64 0, .bool false]) ?_ 0 _ rfl; (with_reducible repeat (first | refine blk_drewN ?_ _ | refine blk_drew ?_ | refine blk_alloc ?_ _)); exact BK385.out) hb); have n6_ := Aside0.mk (below_step (by repeat with_reducible first | exact HB.out | apply pw_below_drewN | refine below_set ?_ GE360.out | refine below_set ?_ GE384.out | refine below_set ?_ GE385.out | apply below_drew1 | apply below_alloc) hb); clear HO_7; clear HO_8; clear HO_13; clear BK360; clear BK384; clear BK385; clear HB; have HO_7 := n0_; have HO_8 := n1_; have HO_13 := n2_; have BK360 := n3_; have BK384 := n4_; have BK385 := n5_; have HB := n6_; clear n0_ n1_ n2_ n3_ n4_ n5_ n6_; (try clear hb); (try clear hb2); (try clear hk); (try clear hi); have p387 : 0 ≤ (x9_3 : Int) := of_decide_eq_true (by assumption); have q387 : x9_3 < (t367.length : Int) := of_decide_eq_true (by assumption); obtain ⟨ad387, e387, hx387_0⟩ := Kd.at_int (Kd.R_reads' HO_8.out).2.2 x9_3 p387 q387; obtain rfl : ad377 = ad387 := (by injection e387); replace p387 := eq_true p387; replace q387 := eq_true q387) | (go_at_call 19; (with_reducible refine (quillref0_Num.calls (rd t367 x9_3) (y364.length : Int) true _ A62.out).mono ?_); rintro e w' ⟨rfl, ⟨nd, rfl⟩⟩; have p393 : 0 ≤ (x10_4 : Int) := of_decide_eq_true (by assumption); have q393 : x10_4 < (l1.length : Int) := of_decide_eq_true (by assumption); obtain ⟨ad393, e393, hx393_0⟩ := Kd.at_int HR1.out x10_4 p393 q393; obtain rfl : ad378 = ad393 := (by injection e393); replace hx393_0 := (HB.out.cell (World.block_lt_of_cell? w _ hx393_0)).trans hx393_0; replace p393 := eq_true p393; replace q393 := eq_true q393) | (go_at_call 20; (with_reducible refine (quillref15_Object.calls k6 (rd l1 x10_4) true _ A73.out).mono ?_); rintro e w77 ⟨rfl, hb⟩; have n0_ := Aside0.mk (Kd.R_below (by (with_reducible repeat (first | apply Kd.R_alloc | apply Kd.R_drewN | apply Kd.R_drew)); exact HO_7.out) hb); have n1_ := Aside0.mk (Kd.R_below (by (with_reducible repeat (first | apply Kd.R_alloc | apply Kd.R_drewN | apply Kd.R_drew)); exact HO_8.out) hb); have n2_ := Aside0.mk (Kd.R_below (by (with_reducible repeat (first | apply Kd.R_alloc | apply Kd.R_drewN | apply Kd.R_drew)); exact HO_13.out) hb); have n3_ := Aside0.mk (blb hb BK360.out); have n4_ := Aside0.mk (blb hb BK384.out); have n5_ := Aside0.mk (blb hb BK385.out); have n6_ := Aside0.mk (below_step (by repeat with_reducible first | exact HB.out | apply pw_below_drewN | refine below_set ?_ GE360.out | refine below_set ?_ GE384.out | refine below_set ?_ GE385.out | apply below_drew1 | apply below_alloc) hb); clear HO_7; clear HO_8; clear HO_13; clear BK360; clear BK384; clear BK385; clear HB; have HO_7 := n0_; have HO_8 := n1_; have HO_13 := n2_; have BK360 := n3_; have BK384 := n4_; have BK385 := n5_; have HB := n6_; clear n0_ n1_ n2_ n3_ n4_ n5_ n6_; (try clear hb); (try clear hb2); (try clear hk); (try clear hi); have p395 : 0 ≤ (x14_6 : Int) := of_decide_eq_true (by assumption); have q395 : x14_6 < (y374.length : Int) := of_decide_eq_true (by assumption); obtain ⟨ad395, e395, hx395_0⟩ := Kd.at_int (Kd.R_reads' HO_13.out).2.2 x14_6 p395 q395; obtain rfl : ad379 = ad395 := (by injection e395); replace p395 := eq_true p395; replace q395 := eq_true q395) | (go_at_call 21; (with_reducible refine (quillref0_Between.calls (rd y374 x14_6) 1 999 t396 _ A75.out).mono ?_); rintro e w' ⟨rfl, ⟨nd, rfl⟩⟩))
              go_meet
              case rel => exact ⟨_, (t396), (by first | rfl | (simp; done) | (simp [*]; done)), H', ⟨by have := HK1.out; have := HJ10.out; have := HK3.out; have := HK4.out; have := HK5.out; have := HK6.out; first | omega | exact Nat.le_refl _⟩, ⟨by (with_reducible repeat (first | apply Kd.R_alloc | apply Kd.R_drewN | apply Kd.R_drew)); exact HO_7.out⟩, ⟨by (with_reducible repeat (first | apply Kd.R_alloc | apply Kd.R_drewN | apply Kd.R_drew)); exact HO_8.out⟩, ⟨by (with_reducible repeat (first | apply Kd.R_alloc | apply Kd.R_drewN | apply Kd.R_drew)); exact HO_13.out⟩, ⟨BK360.out⟩, ⟨BK384.out⟩, ⟨BK385.out⟩, ⟨by repeat with_reducible first | exact HB.out | apply pw_below_drewN | refine below_set ?_ GE360.out | refine below_set ?_ GE384.out | refine below_set ?_ GE385.out | apply below_drew1 | apply below_alloc⟩⟩
             case rest =>
              clear HC47
              try clear c4
              try clear c15
              try clear c18
              try clear c39
              try clear c39b0
              try clear c40
              try clear c40b0
              try clear c41
              try clear c41b0
              try clear c42
              try clear c42b0
              try clear c43
              try clear c43b0
              try clear c44
              try clear c44b0
              try clear c45
              try clear c45b0
              try clear hcz59_0
              try clear hcz59_1
              try clear hcz59_2
              try clear hfz59_0
              try clear hfz59_1
              try clear hfz59_2
              try clear hx377_0
              try clear hx378_0
              try clear hx379_0
              try clear p377
              try clear p378
              try clear p379
              try clear q377
              try clear q378
              try clear q379
              obtain ⟨kq, x127_46, rfl, HA, HJ46, HO_7, HO_8, HO_13, BK360, BK384, BK385, HB⟩ := hcut
              cases kq with
              | zero => exact absurd HA.out (by simp [quilllaw15_pieces.j6])
              | succ kj46 =>
               have H := HA.out
               clear HA
               simp only [quilllaw15_pieces.j6] at H
               by_cases c83 : x127_46 = true
               rotate_left
               ·
                replace c83 := Bool.eq_false_iff.mpr c83
                subst c83
                have H1 : ((quilllaw15_num.f t383).bind fun t405 => (if t405 = 1 then (if (!(t380 == 0) || (!(t381 == 0) || (!(t382 == false)))) = true then (some false) else (quilllaw15_pieces.l4 kj46 l1 x5_1 (rdOf ByteArray.empty l0_0 x5_1) y364 t367 x9_3 x10_4 x11_5 (rd y370 x11_5) y374 (wrap64 (x14_6 + 1)) l0_0 a0_1 a0_2 a0_3 a0_4 a0_5 a0_6 a0_7)) else (some false))) = some r := by rw [if_neg (show ¬ (false = true) by decide)] at H; exact H
                clear H
                have H := H1
                clear H1
                replace H := Option.bind_eq_some_iff.mp H
                obtain ⟨t405, A1190, H⟩ := H
                (try dsimp only at H)
                have A119 := Aside0.mk A1190
                clear A1190
                by_cases c120 : t405 = 1
                rotate_left
                ·
                 rw [if_neg c120] at H
                 have c120b0 : (t405 == 1) = false := beq_eq_false_iff_ne.mpr c120
                 have c120b1 : (t405 != 1) = true := bne_iff_ne.mpr c120
                 obtain rfl := Option.some.inj H
                 go_wp2_with (first | ((with_reducible refine gate_callee (f := 16) rfl ?_); refine goesL_ (some 147) rfl rfl Tryd.func16 (by kernel_rfl) rfl #[.int .i64 t383] rfl (map1 rfl) ?_; (with_reducible refine (quilllaw15_num.calls t383 t405 _ A119.out).mono ?_); rintro e w' ⟨rfl, ⟨nd, rfl⟩⟩; refine ⟨_, rfl, ?_⟩))
                 go_ret
                 exact ⟨by first | rfl | (simp [errW_none, errW_some] <;> rfl) | (simp [*, errW_none, errW_some] <;> rfl), by repeat with_reducible first | exact HB.out | apply pw_below_drewN | refine below_set ?_ GE360.out | refine below_set ?_ GE384.out | refine below_set ?_ GE385.out | apply below_drew1 | apply below_alloc⟩
                rw [if_pos c120] at H
                have c120b0 : (t405 == 1) = true := beq_iff_eq.mpr c120
                have c120b1 : (t405 != 1) = false := bne_eq_false_iff_eq.mpr c120
                clear c120
                by_cases c121 : (!(t380 == 0) || (!(t381 == 0) || (!(t382 == false)))) = true
                ·
                 rw [if_pos c121] at H
                 have c121b0 : (!(t380 == 0) || (!(t381 == 0) || (!(t382 == false)))) = true := c121
                 have c121b5 : (!(t380 == 0) || (!(t381 == 0) || t382)) = true := by rw [show t382 = (!(t382 == false)) from by cases t382 <;> rfl]; exact c121b0
                 clear c121
                 obtain rfl := Option.some.inj H
                 go_wp2_with (first | ((with_reducible refine gate_callee (f := 16) rfl ?_); refine goesL_ (some 147) rfl rfl Tryd.func16 (by kernel_rfl) rfl #[.int .i64 t383] rfl (map1 rfl) ?_; (with_reducible refine (quilllaw15_num.calls t383 t405 _ A119.out).mono ?_); rintro e w' ⟨rfl, ⟨nd, rfl⟩⟩; refine ⟨_, rfl, ?_⟩; have hnb122 := NB384_360.out; have hnc122 := NB360_384.out; have hnb123 := NB384_385.out; have hnc123 := NB385_384.out; have hcz124_0 := cz0 BK384.out; have hcz124_1 := cz1 BK384.out; have hcz124_2 := cz2 BK384.out; have hfz124_0 := blk_frozen BK384.out 0; have hfz124_1 := blk_frozen BK384.out 1; have hfz124_2 := blk_frozen BK384.out 2; have hnb125 := NB385_360.out; have hnc125 := NB360_385.out; have hcz126_0 := cz0 BK385.out; have hcz126_1 := cz1 BK385.out; have hcz126_2 := cz2 BK385.out; have hfz126_0 := blk_frozen BK385.out 0; have hfz126_1 := blk_frozen BK385.out 1; have hfz126_2 := blk_frozen BK385.out 2))
                 go_ret
                 exact ⟨by first | rfl | (simp [errW_none, errW_some] <;> rfl) | (simp [*, errW_none, errW_some] <;> rfl), by repeat with_reducible first | exact HB.out | apply pw_below_drewN | refine below_set ?_ GE360.out | refine below_set ?_ GE384.out | refine below_set ?_ GE385.out | apply below_drew1 | apply below_alloc⟩
                rw [if_neg c121] at H
                have c121b0 : (!(t380 == 0) || (!(t381 == 0) || (!(t382 == false)))) = false := by simpa using c121
                have c121b5 : (!(t380 == 0) || (!(t381 == 0) || t382)) = false := by rw [show t382 = (!(t382 == false)) from by cases t382 <;> rfl]; exact c121b0
                clear c121
                have H' := Aside0.mk H
                clear H
                go_wp2_with (first | ((with_reducible refine gate_callee (f := 16) rfl ?_); refine goesL_ (some 147) rfl rfl Tryd.func16 (by kernel_rfl) rfl #[.int .i64 t383] rfl (map1 rfl) ?_; (with_reducible refine (quilllaw15_num.calls t383 t405 _ A119.out).mono ?_); rintro e w' ⟨rfl, ⟨nd, rfl⟩⟩; refine ⟨_, rfl, ?_⟩; have hnb127 := NB384_360.out; have hnc127 := NB360_384.out; have hnb128 := NB384_385.out; have hnc128 := NB385_384.out; have hcz129_0 := cz0 BK384.out; have hcz129_1 := cz1 BK384.out; have hcz129_2 := cz2 BK384.out; have hfz129_0 := blk_frozen BK384.out 0; have hfz129_1 := blk_frozen BK384.out 1; have hfz129_2 := blk_frozen BK384.out 2; have hnb130 := NB385_360.out; have hnc130 := NB360_385.out; have hcz131_0 := cz0 BK385.out; have hcz131_1 := cz1 BK385.out; have hcz131_2 := cz2 BK385.out; have hfz131_0 := blk_frozen BK385.out 0; have hfz131_1 := blk_frozen BK385.out 1; have hfz131_2 := blk_frozen BK385.out 2))
                go_roundg kj46
                case measure => have := HK1.out; have := HJ10.out; have := HK3.out; have := HK4.out; have := HK5.out; have := HK6.out; have := HJ46.out; omega
                case rel => exact ⟨(wrap64 (x14_6 + 1)), (by first | rfl | (simp; done) | (simp [*]; done)), H', ⟨by have := HK1.out; have := HJ10.out; have := HK3.out; have := HK4.out; have := HK5.out; have := HK6.out; have := HJ46.out; omega⟩, ⟨by (with_reducible repeat (first | apply Kd.R_alloc | apply Kd.R_drewN | apply Kd.R_drew)); exact HO_7.out⟩, ⟨by (with_reducible repeat (first | apply Kd.R_alloc | apply Kd.R_drewN | apply Kd.R_drew)); exact HO_8.out⟩, ⟨by (with_reducible repeat (first | apply Kd.R_alloc | apply Kd.R_drewN | apply Kd.R_drew)); exact HO_13.out⟩, ⟨BK360.out⟩, ⟨by repeat with_reducible first | exact HB.out | apply pw_below_drewN | refine below_set ?_ GE360.out | refine below_set ?_ GE384.out | refine below_set ?_ GE385.out | apply below_drew1 | apply below_alloc⟩⟩
               subst c83
               have H1 : (if 0 ≤ x9_3 then (if x9_3 < (t367.length : Int) then (if 0 ≤ x10_4 then (if x10_4 < (l1.length : Int) then (if 0 ≤ x14_6 then (if x14_6 < (y374.length : Int) then ((quillref15_Piece.f kj46 y364 (rd t367 x9_3) (rd y370 x11_5) (rd l1 x10_4) (rd y374 x14_6)).bind fun bt400 => ((quilllaw15_num.f t383).bind fun t404 => (if t404 = bt400.2.2.2 then (if (!(t380 == bt400.1) || (!(t381 == bt400.2.1) || (!(t382 == bt400.2.2.1)))) = true then (some false) else (quilllaw15_pieces.l4 kj46 l1 x5_1 (rdOf ByteArray.empty l0_0 x5_1) y364 t367 x9_3 x10_4 x11_5 (rd y370 x11_5) y374 (wrap64 (x14_6 + 1)) l0_0 a0_1 a0_2 a0_3 a0_4 a0_5 a0_6 a0_7)) else (some false)))) else (none)) else (none)) else (none)) else (none)) else (none)) else (none)) = some r := by rw [if_pos rfl] at H; exact H
               clear H
               have H := H1
               clear H1
               by_cases c84 : 0 ≤ x9_3
               rotate_left
               ·
                rw [if_neg c84] at H
                exact absurd H (by simp)
               rw [if_pos c84] at H
               have c84b0 := decide_eq_true c84
               clear c84
               by_cases c85 : x9_3 < (t367.length : Int)
               rotate_left
               ·
                rw [if_neg c85] at H
                exact absurd H (by simp)
               rw [if_pos c85] at H
               have c85b0 := decide_eq_true c85
               clear c85
               by_cases c86 : 0 ≤ x10_4
               rotate_left
               ·
                rw [if_neg c86] at H
                exact absurd H (by simp)
               rw [if_pos c86] at H
               have c86b0 := decide_eq_true c86
               clear c86
               by_cases c87 : x10_4 < (l1.length : Int)
               rotate_left
               ·
                rw [if_neg c87] at H
                exact absurd H (by simp)
               rw [if_pos c87] at H
               have c87b0 := decide_eq_true c87
               clear c87
               by_cases c88 : 0 ≤ x14_6
               rotate_left
               ·
                rw [if_neg c88] at H
                exact absurd H (by simp)
               rw [if_pos c88] at H
               have c88b0 := decide_eq_true c88
               clear c88
               by_cases c89 : x14_6 < (y374.length : Int)
               rotate_left
               ·
                rw [if_neg c89] at H
                exact absurd H (by simp)
               rw [if_pos c89] at H
               have c89b0 := decide_eq_true c89
               clear c89
               replace H := Option.bind_eq_some_iff.mp H
               obtain ⟨⟨t400, t401, t402, t403⟩, A900, H⟩ := H
               (try dsimp only at H)
               have A90 := Aside0.mk A900
               clear A900
               replace H := Option.bind_eq_some_iff.mp H
               obtain ⟨t404, A910, H⟩ := H
               (try dsimp only at H)
               have A91 := Aside0.mk A910
               clear A910
               by_cases c92 : t404 = t403
               rotate_left
               ·
                rw [if_neg c92] at H
                have c92b0 : (t404 == t403) = false := beq_eq_false_iff_ne.mpr c92
                have c92b1 : (t404 != t403) = true := bne_iff_ne.mpr c92
                obtain rfl := Option.some.inj H
                try go_wp2
                have n0_ := Aside0.mk (Kd.R_drew HO_7.out)
                have n1_ := Aside0.mk (Kd.R_drew HO_8.out)
                have n2_ := Aside0.mk (Kd.R_drew HO_13.out)
                have n3_ := Aside0.mk (blk_drew BK360.out)
                have n4_ := Aside0.mk (blk_drew BK384.out)
                have n5_ := Aside0.mk (blk_drew BK385.out)
                have n6_ := Aside0.mk (below_drew1 HB.out)
                clear HO_7
                clear HO_8
                clear HO_13
                clear BK360
                clear BK384
                clear BK385
                clear HB
                have HO_7 := n0_
                have HO_8 := n1_
                have HO_13 := n2_
                have BK360 := n3_
                have BK384 := n4_
                have BK385 := n5_
                have HB := n6_
                clear n0_ n1_ n2_ n3_ n4_ n5_ n6_
                have p397 : 0 ≤ (x9_3 : Int) := of_decide_eq_true (by assumption)
                have q397 : x9_3 < (t367.length : Int) := of_decide_eq_true (by assumption)
                obtain ⟨ad397, e397, hx397_0⟩ := Kd.at_int (Kd.R_reads' HO_8.out).2.2 x9_3 p397 q397
                obtain rfl : ad377 = ad397 := (by injection e397)
                replace p397 := eq_true p397
                replace q397 := eq_true q397
                have p398 : 0 ≤ (x10_4 : Int) := of_decide_eq_true (by assumption)
                have q398 : x10_4 < (l1.length : Int) := of_decide_eq_true (by assumption)
                obtain ⟨ad398, e398, hx398_0⟩ := Kd.at_int HR1.out x10_4 p398 q398
                have hw398_0 := hx398_0
                obtain rfl : ad378 = ad398 := (by injection e398)
                replace hx398_0 := (HB.out.cell (World.block_lt_of_cell? w _ hx398_0)).trans hx398_0
                replace p398 := eq_true p398
                replace q398 := eq_true q398
                have p399 : 0 ≤ (x14_6 : Int) := of_decide_eq_true (by assumption)
                have q399 : x14_6 < (y374.length : Int) := of_decide_eq_true (by assumption)
                obtain ⟨ad399, e399, hx399_0⟩ := Kd.at_int (Kd.R_reads' HO_13.out).2.2 x14_6 p399 q399
                obtain rfl : ad379 = ad399 := (by injection e399)
                replace p399 := eq_true p399
                replace q399 := eq_true q399
                refine start_ (n := 20) (S := fun w' => w'.cell? (ad377.add (x9_3).toNat) = some (.int .i64 (rd t367 x9_3)) ∧ w'.cell? (ad378.add (x10_4).toNat) = some (.int .i64 (rd l1 x10_4)) ∧ w'.cell? (ad379.add (x14_6).toNat) = some (.int .i64 (rd y374 x14_6))) (ds := []) (bs 20 0) (by kernel_rfl) rfl rfl ⟨hx397_0, ((HB.out.cell (World.block_lt_of_cell? w _ hw398_0)).trans hw398_0), hx399_0⟩ (fun hHeld => ?_); refine with_tabW quilllaw15_pieces.tab26 quilllaw15_pieces.bits26 (fun HT_ HW_ => ?_)
                generalize wc.drew = w114 at HO_7 HO_8 HO_13 BK360 BK384 BK385 HB hx397_0 hx398_0 hx399_0 hHeld ⊢
                refine pure_ (i := 0) (N := some 129) (v := ?_) (a' := ?_) (bs 20 1) rfl rfl (any_of HT_.out (by kernel_rfl)) (fun _ _ _ h => h) (Or.inl ⟨by rfl, ?_⟩) ?_ ?_
                rotate_left
                · intro w'; go_simp; with_reducible rfl
                rotate_left
                · simp only [Act.put, List.setIfInBounds_toArray, List.set_cons_zero, List.set_cons_succ, i64_w, i32_w]; rfl
                refine pure_ (i := 1) (N := some 130) (v := ?_) (a' := ?_) (bs 20 3) rfl rfl (any_of HT_.out (by kernel_rfl)) (fun _ _ _ h => h) (Or.inl ⟨by rfl, ?_⟩) ?_ ?_
                rotate_left
                · intro w'; go_simp; with_reducible rfl
                rotate_left
                · simp only [Act.put, List.setIfInBounds_toArray, List.set_cons_zero, List.set_cons_succ, i64_w, i32_w]; rfl
                refine pure_ (i := 2) (N := some 131) (v := ?_) (a' := ?_) (bs 20 7) rfl rfl (any_of HT_.out (by kernel_rfl)) (fun _ _ _ h => h) (Or.inl ⟨by rfl, ?_⟩) ?_ ?_
                rotate_left
                · intro w'; go_simp; with_reducible rfl
                rotate_left
                · simp only [Act.put, List.setIfInBounds_toArray, List.set_cons_zero, List.set_cons_succ, i64_w, i32_w]; rfl
                refine pure_ (i := 3) (N := some 132) (v := ?_) (a' := ?_) (bs 20 15) rfl rfl (any_of HT_.out (by kernel_rfl)) (fun _ _ _ h => h) (Or.inl ⟨by rfl, ?_⟩) ?_ ?_
                rotate_left
                · intro w'; go_simp; with_reducible rfl
                rotate_left
                · simp only [Act.put, List.setIfInBounds_toArray, List.set_cons_zero, List.set_cons_succ, i64_w, i32_w]; rfl
                refine pure_ (i := 5) (N := some 134) (v := ?_) (a' := ?_) (bs 20 47) rfl rfl (any_of HT_.out (by kernel_rfl)) (fun _ _ _ h => h) (Or.inl ⟨by rfl, ?_⟩) ?_ ?_
                rotate_left
                · intro w'; go_simp; with_reducible rfl
                rotate_left
                · simp only [Act.put, List.setIfInBounds_toArray, List.set_cons_zero, List.set_cons_succ, i64_w, i32_w]; rfl
                refine pure_ (i := 6) (N := some 135) (v := ?_) (a' := ?_) (bs 20 111) rfl rfl (any_of HT_.out (by kernel_rfl)) (fun _ _ _ h => h) (Or.inl ⟨by rfl, ?_⟩) ?_ ?_
                rotate_left
                · intro w'; go_simp; with_reducible rfl
                rotate_left
                · simp only [Act.put, List.setIfInBounds_toArray, List.set_cons_zero, List.set_cons_succ, i64_w, i32_w]; rfl
                refine pure_ (i := 7) (N := some 136) (v := ?_) (a' := ?_) (bs 20 239) rfl rfl (any_of HT_.out (by kernel_rfl)) (fun _ _ _ h => h) (Or.inl ⟨by rfl, ?_⟩) ?_ ?_
                rotate_left
                · intro w'; go_simp; with_reducible rfl
                rotate_left
                · simp only [Act.put, List.setIfInBounds_toArray, List.set_cons_zero, List.set_cons_succ, i64_w, i32_w]; rfl
                refine pure_ (i := 8) (N := some 137) (v := ?_) (a' := ?_) (bs 20 495) rfl rfl (any_of HT_.out (by kernel_rfl)) (fun _ _ _ h => h) (Or.inl ⟨by rfl, ?_⟩) ?_ ?_
                rotate_left
                · intro w'; go_simp; with_reducible rfl
                rotate_left
                · simp only [Act.put, List.setIfInBounds_toArray, List.set_cons_zero, List.set_cons_succ, i64_w, i32_w]; rfl
                refine pure_ (i := 10) (N := some 139) (v := ?_) (a' := ?_) (bs 20 1519) rfl rfl (any_of HT_.out (by kernel_rfl)) (fun _ _ _ h => h) (Or.inl ⟨by rfl, ?_⟩) ?_ ?_
                rotate_left
                · intro w'; go_simp; with_reducible rfl
                rotate_left
                · simp only [Act.put, List.setIfInBounds_toArray, List.set_cons_zero, List.set_cons_succ, i64_w, i32_w]; rfl
                refine pure_ (i := 11) (N := some 140) (v := ?_) (a' := ?_) (bs 20 3567) rfl rfl (any_of HT_.out (by kernel_rfl)) (fun _ _ _ h => h) (Or.inl ⟨by rfl, ?_⟩) ?_ ?_
                rotate_left
                · intro w'; go_simp; with_reducible rfl
                rotate_left
                · simp only [Act.put, List.setIfInBounds_toArray, List.set_cons_zero, List.set_cons_succ, i64_w, i32_w]; rfl
                refine pure_ (i := 12) (N := some 141) (v := ?_) (a' := ?_) (bs 20 7663) rfl rfl (any_of HT_.out (by kernel_rfl)) (fun _ _ _ h => h) (Or.inl ⟨by rfl, ?_⟩) ?_ ?_
                rotate_left
                · intro w'; go_simp; with_reducible rfl
                rotate_left
                · simp only [Act.put, List.setIfInBounds_toArray, List.set_cons_zero, List.set_cons_succ, i64_w, i32_w]; rfl
                refine take_ (i := 4) (N := some 133) (v := ?_) (a' := ?_) (bs 20 7679) rfl rfl (take_ofW HT_.out HW_.out (by kernel_rfl)) (fun _ _ _ h => h) (Or.inl ⟨by rfl, ?_⟩) hHeld ?_ ?_
                rotate_left
                · rintro w' ⟨s0, s1, s2⟩; go_simp; with_reducible rfl
                rotate_left
                · simp only [Act.put, List.setIfInBounds_toArray, List.set_cons_zero, List.set_cons_succ, i64_w, i32_w]; rfl
                refine take_ (i := 9) (N := some 138) (v := ?_) (a' := ?_) (bs 20 8191) rfl rfl (take_ofW HT_.out HW_.out (by kernel_rfl)) (fun _ _ _ h => h) (Or.inl ⟨by rfl, ?_⟩) hHeld ?_ ?_
                rotate_left
                · rintro w' ⟨s0, s1, s2⟩; go_simp; with_reducible rfl
                rotate_left
                · simp only [Act.put, List.setIfInBounds_toArray, List.set_cons_zero, List.set_cons_succ, i64_w, i32_w]; rfl
                refine take_ (i := 13) (N := some 142) (v := ?_) (a' := ?_) (bs 20 16383) rfl rfl (take_ofW HT_.out HW_.out (by kernel_rfl)) (fun _ _ _ h => h) (Or.inl ⟨by rfl, ?_⟩) hHeld ?_ ?_
                rotate_left
                · rintro w' ⟨s0, s1, s2⟩; go_simp; with_reducible rfl
                rotate_left
                · simp only [Act.put, List.setIfInBounds_toArray, List.set_cons_zero, List.set_cons_succ, i64_w, i32_w]; rfl
                refine one_ (i := 14) (N := some 143) (bs 20 32767) rfl rfl (one_of HT_.out (by kernel_rfl)) (by decide) (fun K hK => ?_)
                refine goes_ Tryd.func22 (by kernel_rfl) rfl #[.slice Ao24 y364.length co24, .int .i64 (rd t367 x9_3), .int .i64 (rd y370 x11_5), .int .i64 (rd l1 x10_4), .int .i64 (rd y374 x14_6)] (by rfl) rfl rfl (by (try simp only [List.map_toArray, List.map_cons, List.map_nil]); first | done | rfl | (simp only [List.length_drop, List.length_take]; rfl)) ?_
                with_reducible refine (quillref15_Piece.calls kj46 _ _ y364 (rd t367 x9_3) (rd y370 x11_5) (rd l1 x10_4) (rd y374 x14_6) t400 t401 t402 t403 _ ?side1 ?side2 A90.out).mono ?_
                (case side1 => repeat (first | exact (Kd.R_reads' HO_7.out).2.2 | with_reducible first | refine Kd.C_drewN ?_ _ | refine Kd.C_drew ?_ | refine Kd.C_alloc ?_ _))
                (case side2 => exact (Kd.R_reads' HO_7.out).2.1)
                rintro e w115 ⟨rfl, hb⟩
                have HS0_ := (hb.cell (World.block_lt_of_cell? _ _ (hHeld.1))).trans (hHeld.1)
                have HS2_ := (hb.cell (World.block_lt_of_cell? _ _ (hHeld.2.2))).trans (hHeld.2.2)
                refine ⟨_, rfl, ?_⟩
                have n0_ := Aside0.mk (Kd.R_below (by (with_reducible repeat (first | apply Kd.R_alloc | apply Kd.R_drewN | apply Kd.R_drew)); exact HO_7.out) hb)
                have n1_ := Aside0.mk (Kd.R_below (by (with_reducible repeat (first | apply Kd.R_alloc | apply Kd.R_drewN | apply Kd.R_drew)); exact HO_8.out) hb)
                have n2_ := Aside0.mk (Kd.R_below (by (with_reducible repeat (first | apply Kd.R_alloc | apply Kd.R_drewN | apply Kd.R_drew)); exact HO_13.out) hb)
                have n3_ := Aside0.mk (blb hb BK360.out)
                have n4_ := Aside0.mk (blb hb BK384.out)
                have n5_ := Aside0.mk (blb hb BK385.out)
                have n6_ := Aside0.mk (below_step (by repeat with_reducible first | exact HB.out | apply pw_below_drewN | refine below_set ?_ GE360.out | refine below_set ?_ GE384.out | refine below_set ?_ GE385.out | apply below_drew1 | apply below_alloc) hb)
                clear HO_7
                clear HO_8
                clear HO_13
                clear BK360
                clear BK384
                clear BK385
                clear HB
                have HO_7 := n0_
                have HO_8 := n1_
                have HO_13 := n2_
                have BK360 := n3_
                have BK384 := n4_
                have BK385 := n5_
                have HB := n6_
                clear n0_ n1_ n2_ n3_ n4_ n5_ n6_
                (try clear hb)
                (try clear hb2)
                (try clear hk)
                (try clear hi)
                refine hK.out _ _ ⟨HS0_, ((HB.out.cell (World.block_lt_of_cell? w _ hw398_0)).trans hw398_0), HS2_⟩ (fun hHeld => ?_)
                clear hK K
                refine norm_ (a' := ?_) ?_ ?_
                rotate_left
                · show Act.put _ (some 143) _ = _; simp only [Act.put, List.setIfInBounds_toArray, List.set_cons_zero, List.set_cons_succ, i64_w, i32_w]; rfl
                refine pure_ (i := 15) (N := some 128) (v := ?_) (a' := ?_) (bs 20 65535) rfl rfl (any_of HT_.out (by kernel_rfl)) (fun _ _ _ h => h) (Or.inl ⟨by rfl, ?_⟩) ?_ ?_
                rotate_left
                · intro w'; go_simp; with_reducible rfl
                rotate_left
                · simp only [Act.put, List.setIfInBounds_toArray, List.set_cons_zero, List.set_cons_succ, i64_w, i32_w]; rfl
                refine pure_ (i := 16) (N := some 144) (v := ?_) (a' := ?_) (bs 20 131071) rfl rfl (any_of HT_.out (by kernel_rfl)) (fun _ _ _ h => h) (Or.inl ⟨by rfl, ?_⟩) ?_ ?_
                rotate_left
                · intro w'; go_simp; with_reducible rfl
                rotate_left
                · simp only [Act.put, List.setIfInBounds_toArray, List.set_cons_zero, List.set_cons_succ, i64_w, i32_w]; rfl
                refine pure_ (i := 17) (N := some 145) (v := ?_) (a' := ?_) (bs 20 262143) rfl rfl (any_of HT_.out (by kernel_rfl)) (fun _ _ _ h => h) (Or.inl ⟨by rfl, ?_⟩) ?_ ?_
                rotate_left
                · intro w'; go_simp; with_reducible rfl
                rotate_left
                · simp only [Act.put, List.setIfInBounds_toArray, List.set_cons_zero, List.set_cons_succ, i64_w, i32_w]; rfl
                refine one_ (i := 18) (N := none) (bs 20 524287) rfl rfl (one_of HT_.out (by kernel_rfl)) (by decide) (fun K hK => ?_)
                have hs116 := cz0 BK385.out
                have hfs116 := blk_frozen BK385.out 0
                have hns116_0 := NB360_385.out
                have hns116_1 := NB384_385.out
                have hms116_0 := NB385_360.out
                have hms116_1 := NB385_384.out
                have hs117 := cz1 BK385.out
                have hfs117 := blk_frozen BK385.out 1
                have hns117_0 := NB360_385.out
                have hns117_1 := NB384_385.out
                have hms117_0 := NB385_360.out
                have hms117_1 := NB385_384.out
                have hs118 := cz2 BK385.out
                have hfs118 := blk_frozen BK385.out 2
                have hns118_0 := NB360_385.out
                have hns118_1 := NB384_385.out
                have hms118_0 := NB385_360.out
                have hms118_1 := NB385_384.out
                refine skip_ (w1 := ?_) (by rfl) rfl ?_ ?_
                rotate_left
                ·
                 go_simp
                 rfl
                refine hK.out _ _ ⟨((cell_far (p := ⟨gb385, _, none⟩) (by first | exact Kd.own_blk (Kd.R_ne HO_8.out BK385.out (by decide)) | (rw [add_block]; exact Kd.own_blk (Kd.R_ne HO_8.out BK385.out (by decide))) | (show (Addr.add _ _).block ≠ _; rw [add_block]; exact Kd.own_blk (Kd.R_ne HO_8.out BK385.out (by decide))) | (dsimp only; exact Kd.own_blk (Kd.R_ne HO_8.out BK385.out (by decide)))) _).trans (((cell_far (p := ⟨gb385, _, none⟩) (by first | exact Kd.own_blk (Kd.R_ne HO_8.out BK385.out (by decide)) | (rw [add_block]; exact Kd.own_blk (Kd.R_ne HO_8.out BK385.out (by decide))) | (show (Addr.add _ _).block ≠ _; rw [add_block]; exact Kd.own_blk (Kd.R_ne HO_8.out BK385.out (by decide))) | (dsimp only; exact Kd.own_blk (Kd.R_ne HO_8.out BK385.out (by decide)))) _).trans (((cell_far (p := ⟨gb385, _, none⟩) (by first | exact Kd.own_blk (Kd.R_ne HO_8.out BK385.out (by decide)) | (rw [add_block]; exact Kd.own_blk (Kd.R_ne HO_8.out BK385.out (by decide))) | (show (Addr.add _ _).block ≠ _; rw [add_block]; exact Kd.own_blk (Kd.R_ne HO_8.out BK385.out (by decide))) | (dsimp only; exact Kd.own_blk (Kd.R_ne HO_8.out BK385.out (by decide)))) _).trans (hHeld.1)))))), ((cell_far (p := ⟨gb385, _, none⟩) (by first | exact Nat.ne_of_lt (Nat.lt_of_lt_of_le (by have := World.block_lt_of_cell? _ _ hw398_0; first | rwa [add_block] at this | exact this) GW385.out) | (rw [add_block]; exact Nat.ne_of_lt (Nat.lt_of_lt_of_le (by have := World.block_lt_of_cell? _ _ hw398_0; first | rwa [add_block] at this | exact this) GW385.out)) | (show (Addr.add _ _).block ≠ _; rw [add_block]; exact Nat.ne_of_lt (Nat.lt_of_lt_of_le (by have := World.block_lt_of_cell? _ _ hw398_0; first | rwa [add_block] at this | exact this) GW385.out)) | (dsimp only; exact Nat.ne_of_lt (Nat.lt_of_lt_of_le (by have := World.block_lt_of_cell? _ _ hw398_0; first | rwa [add_block] at this | exact this) GW385.out))) _).trans (((cell_far (p := ⟨gb385, _, none⟩) (by first | exact Nat.ne_of_lt (Nat.lt_of_lt_of_le (by have := World.block_lt_of_cell? _ _ hw398_0; first | rwa [add_block] at this | exact this) GW385.out) | (rw [add_block]; exact Nat.ne_of_lt (Nat.lt_of_lt_of_le (by have := World.block_lt_of_cell? _ _ hw398_0; first | rwa [add_block] at this | exact this) GW385.out)) | (show (Addr.add _ _).block ≠ _; rw [add_block]; exact Nat.ne_of_lt (Nat.lt_of_lt_of_le (by have := World.block_lt_of_cell? _ _ hw398_0; first | rwa [add_block] at this | exact this) GW385.out)) | (dsimp only; exact Nat.ne_of_lt (Nat.lt_of_lt_of_le (by have := World.block_lt_of_cell? _ _ hw398_0; first | rwa [add_block] at this | exact this) GW385.out))) _).trans (((cell_far (p := ⟨gb385, _, none⟩) (by first | exact Nat.ne_of_lt (Nat.lt_of_lt_of_le (by have := World.block_lt_of_cell? _ _ hw398_0; first | rwa [add_block] at this | exact this) GW385.out) | (rw [add_block]; exact Nat.ne_of_lt (Nat.lt_of_lt_of_le (by have := World.block_lt_of_cell? _ _ hw398_0; first | rwa [add_block] at this | exact this) GW385.out)) | (show (Addr.add _ _).block ≠ _; rw [add_block]; exact Nat.ne_of_lt (Nat.lt_of_lt_of_le (by have := World.block_lt_of_cell? _ _ hw398_0; first | rwa [add_block] at this | exact this) GW385.out)) | (dsimp only; exact Nat.ne_of_lt (Nat.lt_of_lt_of_le (by have := World.block_lt_of_cell? _ _ hw398_0; first | rwa [add_block] at this | exact this) GW385.out))) _).trans (hHeld.2.1)))))), ((cell_far (p := ⟨gb385, _, none⟩) (by first | exact Kd.own_blk (Kd.R_ne HO_13.out BK385.out (by decide)) | (rw [add_block]; exact Kd.own_blk (Kd.R_ne HO_13.out BK385.out (by decide))) | (show (Addr.add _ _).block ≠ _; rw [add_block]; exact Kd.own_blk (Kd.R_ne HO_13.out BK385.out (by decide))) | (dsimp only; exact Kd.own_blk (Kd.R_ne HO_13.out BK385.out (by decide)))) _).trans (((cell_far (p := ⟨gb385, _, none⟩) (by first | exact Kd.own_blk (Kd.R_ne HO_13.out BK385.out (by decide)) | (rw [add_block]; exact Kd.own_blk (Kd.R_ne HO_13.out BK385.out (by decide))) | (show (Addr.add _ _).block ≠ _; rw [add_block]; exact Kd.own_blk (Kd.R_ne HO_13.out BK385.out (by decide))) | (dsimp only; exact Kd.own_blk (Kd.R_ne HO_13.out BK385.out (by decide)))) _).trans (((cell_far (p := ⟨gb385, _, none⟩) (by first | exact Kd.own_blk (Kd.R_ne HO_13.out BK385.out (by decide)) | (rw [add_block]; exact Kd.own_blk (Kd.R_ne HO_13.out BK385.out (by decide))) | (show (Addr.add _ _).block ≠ _; rw [add_block]; exact Kd.own_blk (Kd.R_ne HO_13.out BK385.out (by decide))) | (dsimp only; exact Kd.own_blk (Kd.R_ne HO_13.out BK385.out (by decide)))) _).trans (hHeld.2.2))))))⟩ (fun hHeld => ?_)
                clear hK K
                refine pure_ (i := 19) (N := some 17) (v := ?_) (a' := ?_) (bs 20 1048575) rfl rfl (any_of HT_.out (by kernel_rfl)) (fun _ _ _ h => h) (Or.inl ⟨by rfl, ?_⟩) ?_ ?_
                rotate_left
                · intro w'; go_simp; with_reducible rfl
                rotate_left
                · simp only [Act.put, List.setIfInBounds_toArray, List.set_cons_zero, List.set_cons_succ, i64_w, i32_w]; rfl
                refine done_ (done_of HT_.out (by kernel_rfl)) ?_
                try go_wp2_with (first | ((with_reducible refine gate_callee (f := 16) rfl ?_); refine goesL_ (some 147) rfl rfl Tryd.func16 (by kernel_rfl) rfl #[.int .i64 t383] rfl (map1 rfl) ?_; (with_reducible refine (quilllaw15_num.calls t383 t404 _ A91.out).mono ?_); rintro e w' ⟨rfl, ⟨nd, rfl⟩⟩; refine ⟨_, rfl, ?_⟩))
                go_ret
                exact ⟨by first | rfl | (simp [errW_none, errW_some] <;> rfl) | (simp [*, errW_none, errW_some] <;> rfl), by repeat with_reducible first | exact HB.out | apply pw_below_drewN | refine below_set ?_ GE360.out | refine below_set ?_ GE384.out | refine below_set ?_ GE385.out | apply below_drew1 | apply below_alloc⟩
               rw [if_pos c92] at H
               have c92b0 : (t404 == t403) = true := beq_iff_eq.mpr c92
               have c92b1 : (t404 != t403) = false := bne_eq_false_iff_eq.mpr c92
               clear c92
               by_cases c93 : (!(t380 == t400) || (!(t381 == t401) || (!(t382 == t402)))) = true
               ·
                rw [if_pos c93] at H
                have c93b0 : (!(t380 == t400) || (!(t381 == t401) || (!(t382 == t402)))) = true := c93
                clear c93
                obtain rfl := Option.some.inj H
                try go_wp2
                have n0_ := Aside0.mk (Kd.R_drew HO_7.out)
                have n1_ := Aside0.mk (Kd.R_drew HO_8.out)
                have n2_ := Aside0.mk (Kd.R_drew HO_13.out)
                have n3_ := Aside0.mk (blk_drew BK360.out)
                have n4_ := Aside0.mk (blk_drew BK384.out)
                have n5_ := Aside0.mk (blk_drew BK385.out)
                have n6_ := Aside0.mk (below_drew1 HB.out)
                clear HO_7
                clear HO_8
                clear HO_13
                clear BK360
                clear BK384
                clear BK385
                clear HB
                have HO_7 := n0_
                have HO_8 := n1_
                have HO_13 := n2_
                have BK360 := n3_
                have BK384 := n4_
                have BK385 := n5_
                have HB := n6_
                clear n0_ n1_ n2_ n3_ n4_ n5_ n6_
                have p397 : 0 ≤ (x9_3 : Int) := of_decide_eq_true (by assumption)
                have q397 : x9_3 < (t367.length : Int) := of_decide_eq_true (by assumption)
                obtain ⟨ad397, e397, hx397_0⟩ := Kd.at_int (Kd.R_reads' HO_8.out).2.2 x9_3 p397 q397
                obtain rfl : ad377 = ad397 := (by injection e397)
                replace p397 := eq_true p397
                replace q397 := eq_true q397
                have p398 : 0 ≤ (x10_4 : Int) := of_decide_eq_true (by assumption)
                have q398 : x10_4 < (l1.length : Int) := of_decide_eq_true (by assumption)
                obtain ⟨ad398, e398, hx398_0⟩ := Kd.at_int HR1.out x10_4 p398 q398
                have hw398_0 := hx398_0
                obtain rfl : ad378 = ad398 := (by injection e398)
                replace hx398_0 := (HB.out.cell (World.block_lt_of_cell? w _ hx398_0)).trans hx398_0
                replace p398 := eq_true p398
                replace q398 := eq_true q398
                have p399 : 0 ≤ (x14_6 : Int) := of_decide_eq_true (by assumption)
                have q399 : x14_6 < (y374.length : Int) := of_decide_eq_true (by assumption)
                obtain ⟨ad399, e399, hx399_0⟩ := Kd.at_int (Kd.R_reads' HO_13.out).2.2 x14_6 p399 q399
                obtain rfl : ad379 = ad399 := (by injection e399)
                replace p399 := eq_true p399
                replace q399 := eq_true q399
                refine start_ (n := 20) (S := fun w' => w'.cell? (ad377.add (x9_3).toNat) = some (.int .i64 (rd t367 x9_3)) ∧ w'.cell? (ad378.add (x10_4).toNat) = some (.int .i64 (rd l1 x10_4)) ∧ w'.cell? (ad379.add (x14_6).toNat) = some (.int .i64 (rd y374 x14_6))) (ds := []) (bs 20 0) (by kernel_rfl) rfl rfl ⟨hx397_0, ((HB.out.cell (World.block_lt_of_cell? w _ hw398_0)).trans hw398_0), hx399_0⟩ (fun hHeld => ?_); refine with_tabW quilllaw15_pieces.tab26 quilllaw15_pieces.bits26 (fun HT_ HW_ => ?_)
                generalize wc.drew = w94 at HO_7 HO_8 HO_13 BK360 BK384 BK385 HB hx397_0 hx398_0 hx399_0 hHeld ⊢
                refine pure_ (i := 0) (N := some 129) (v := ?_) (a' := ?_) (bs 20 1) rfl rfl (any_of HT_.out (by kernel_rfl)) (fun _ _ _ h => h) (Or.inl ⟨by rfl, ?_⟩) ?_ ?_
                rotate_left
                · intro w'; go_simp; with_reducible rfl
                rotate_left
                · simp only [Act.put, List.setIfInBounds_toArray, List.set_cons_zero, List.set_cons_succ, i64_w, i32_w]; rfl
                refine pure_ (i := 1) (N := some 130) (v := ?_) (a' := ?_) (bs 20 3) rfl rfl (any_of HT_.out (by kernel_rfl)) (fun _ _ _ h => h) (Or.inl ⟨by rfl, ?_⟩) ?_ ?_
                rotate_left
                · intro w'; go_simp; with_reducible rfl
                rotate_left
                · simp only [Act.put, List.setIfInBounds_toArray, List.set_cons_zero, List.set_cons_succ, i64_w, i32_w]; rfl
                refine pure_ (i := 2) (N := some 131) (v := ?_) (a' := ?_) (bs 20 7) rfl rfl (any_of HT_.out (by kernel_rfl)) (fun _ _ _ h => h) (Or.inl ⟨by rfl, ?_⟩) ?_ ?_
                rotate_left
                · intro w'; go_simp; with_reducible rfl
                rotate_left
                · simp only [Act.put, List.setIfInBounds_toArray, List.set_cons_zero, List.set_cons_succ, i64_w, i32_w]; rfl
                refine pure_ (i := 3) (N := some 132) (v := ?_) (a' := ?_) (bs 20 15) rfl rfl (any_of HT_.out (by kernel_rfl)) (fun _ _ _ h => h) (Or.inl ⟨by rfl, ?_⟩) ?_ ?_
                rotate_left
                · intro w'; go_simp; with_reducible rfl
                rotate_left
                · simp only [Act.put, List.setIfInBounds_toArray, List.set_cons_zero, List.set_cons_succ, i64_w, i32_w]; rfl
                refine pure_ (i := 5) (N := some 134) (v := ?_) (a' := ?_) (bs 20 47) rfl rfl (any_of HT_.out (by kernel_rfl)) (fun _ _ _ h => h) (Or.inl ⟨by rfl, ?_⟩) ?_ ?_
                rotate_left
                · intro w'; go_simp; with_reducible rfl
                rotate_left
                · simp only [Act.put, List.setIfInBounds_toArray, List.set_cons_zero, List.set_cons_succ, i64_w, i32_w]; rfl
                refine pure_ (i := 6) (N := some 135) (v := ?_) (a' := ?_) (bs 20 111) rfl rfl (any_of HT_.out (by kernel_rfl)) (fun _ _ _ h => h) (Or.inl ⟨by rfl, ?_⟩) ?_ ?_
                rotate_left
                · intro w'; go_simp; with_reducible rfl
                rotate_left
                · simp only [Act.put, List.setIfInBounds_toArray, List.set_cons_zero, List.set_cons_succ, i64_w, i32_w]; rfl
                refine pure_ (i := 7) (N := some 136) (v := ?_) (a' := ?_) (bs 20 239) rfl rfl (any_of HT_.out (by kernel_rfl)) (fun _ _ _ h => h) (Or.inl ⟨by rfl, ?_⟩) ?_ ?_
                rotate_left
                · intro w'; go_simp; with_reducible rfl
                rotate_left
                · simp only [Act.put, List.setIfInBounds_toArray, List.set_cons_zero, List.set_cons_succ, i64_w, i32_w]; rfl
                refine pure_ (i := 8) (N := some 137) (v := ?_) (a' := ?_) (bs 20 495) rfl rfl (any_of HT_.out (by kernel_rfl)) (fun _ _ _ h => h) (Or.inl ⟨by rfl, ?_⟩) ?_ ?_
                rotate_left
                · intro w'; go_simp; with_reducible rfl
                rotate_left
                · simp only [Act.put, List.setIfInBounds_toArray, List.set_cons_zero, List.set_cons_succ, i64_w, i32_w]; rfl
                refine pure_ (i := 10) (N := some 139) (v := ?_) (a' := ?_) (bs 20 1519) rfl rfl (any_of HT_.out (by kernel_rfl)) (fun _ _ _ h => h) (Or.inl ⟨by rfl, ?_⟩) ?_ ?_
                rotate_left
                · intro w'; go_simp; with_reducible rfl
                rotate_left
                · simp only [Act.put, List.setIfInBounds_toArray, List.set_cons_zero, List.set_cons_succ, i64_w, i32_w]; rfl
                refine pure_ (i := 11) (N := some 140) (v := ?_) (a' := ?_) (bs 20 3567) rfl rfl (any_of HT_.out (by kernel_rfl)) (fun _ _ _ h => h) (Or.inl ⟨by rfl, ?_⟩) ?_ ?_
                rotate_left
                · intro w'; go_simp; with_reducible rfl
                rotate_left
                · simp only [Act.put, List.setIfInBounds_toArray, List.set_cons_zero, List.set_cons_succ, i64_w, i32_w]; rfl
                refine pure_ (i := 12) (N := some 141) (v := ?_) (a' := ?_) (bs 20 7663) rfl rfl (any_of HT_.out (by kernel_rfl)) (fun _ _ _ h => h) (Or.inl ⟨by rfl, ?_⟩) ?_ ?_
                rotate_left
                · intro w'; go_simp; with_reducible rfl
                rotate_left
                · simp only [Act.put, List.setIfInBounds_toArray, List.set_cons_zero, List.set_cons_succ, i64_w, i32_w]; rfl
                refine take_ (i := 4) (N := some 133) (v := ?_) (a' := ?_) (bs 20 7679) rfl rfl (take_ofW HT_.out HW_.out (by kernel_rfl)) (fun _ _ _ h => h) (Or.inl ⟨by rfl, ?_⟩) hHeld ?_ ?_
                rotate_left
                · rintro w' ⟨s0, s1, s2⟩; go_simp; with_reducible rfl
                rotate_left
                · simp only [Act.put, List.setIfInBounds_toArray, List.set_cons_zero, List.set_cons_succ, i64_w, i32_w]; rfl
                refine take_ (i := 9) (N := some 138) (v := ?_) (a' := ?_) (bs 20 8191) rfl rfl (take_ofW HT_.out HW_.out (by kernel_rfl)) (fun _ _ _ h => h) (Or.inl ⟨by rfl, ?_⟩) hHeld ?_ ?_
                rotate_left
                · rintro w' ⟨s0, s1, s2⟩; go_simp; with_reducible rfl
                rotate_left
                · simp only [Act.put, List.setIfInBounds_toArray, List.set_cons_zero, List.set_cons_succ, i64_w, i32_w]; rfl
                refine take_ (i := 13) (N := some 142) (v := ?_) (a' := ?_) (bs 20 16383) rfl rfl (take_ofW HT_.out HW_.out (by kernel_rfl)) (fun _ _ _ h => h) (Or.inl ⟨by rfl, ?_⟩) hHeld ?_ ?_
                rotate_left
                · rintro w' ⟨s0, s1, s2⟩; go_simp; with_reducible rfl
                rotate_left
                · simp only [Act.put, List.setIfInBounds_toArray, List.set_cons_zero, List.set_cons_succ, i64_w, i32_w]; rfl
                refine one_ (i := 14) (N := some 143) (bs 20 32767) rfl rfl (one_of HT_.out (by kernel_rfl)) (by decide) (fun K hK => ?_)
                refine goes_ Tryd.func22 (by kernel_rfl) rfl #[.slice Ao24 y364.length co24, .int .i64 (rd t367 x9_3), .int .i64 (rd y370 x11_5), .int .i64 (rd l1 x10_4), .int .i64 (rd y374 x14_6)] (by rfl) rfl rfl (by (try simp only [List.map_toArray, List.map_cons, List.map_nil]); first | done | rfl | (simp only [List.length_drop, List.length_take]; rfl)) ?_
                with_reducible refine (quillref15_Piece.calls kj46 _ _ y364 (rd t367 x9_3) (rd y370 x11_5) (rd l1 x10_4) (rd y374 x14_6) t400 t401 t402 t403 _ ?side1 ?side2 A90.out).mono ?_
                (case side1 => repeat (first | exact (Kd.R_reads' HO_7.out).2.2 | with_reducible first | refine Kd.C_drewN ?_ _ | refine Kd.C_drew ?_ | refine Kd.C_alloc ?_ _))
                (case side2 => exact (Kd.R_reads' HO_7.out).2.1)
                rintro e w95 ⟨rfl, hb⟩
                have HS0_ := (hb.cell (World.block_lt_of_cell? _ _ (hHeld.1))).trans (hHeld.1)
                have HS2_ := (hb.cell (World.block_lt_of_cell? _ _ (hHeld.2.2))).trans (hHeld.2.2)
                refine ⟨_, rfl, ?_⟩
                have n0_ := Aside0.mk (Kd.R_below (by (with_reducible repeat (first | apply Kd.R_alloc | apply Kd.R_drewN | apply Kd.R_drew)); exact HO_7.out) hb)
                have n1_ := Aside0.mk (Kd.R_below (by (with_reducible repeat (first | apply Kd.R_alloc | apply Kd.R_drewN | apply Kd.R_drew)); exact HO_8.out) hb)
                have n2_ := Aside0.mk (Kd.R_below (by (with_reducible repeat (first | apply Kd.R_alloc | apply Kd.R_drewN | apply Kd.R_drew)); exact HO_13.out) hb)
                have n3_ := Aside0.mk (blb hb BK360.out)
                have n4_ := Aside0.mk (blb hb BK384.out)
                have n5_ := Aside0.mk (blb hb BK385.out)
                have n6_ := Aside0.mk (below_step (by repeat with_reducible first | exact HB.out | apply pw_below_drewN | refine below_set ?_ GE360.out | refine below_set ?_ GE384.out | refine below_set ?_ GE385.out | apply below_drew1 | apply below_alloc) hb)
                clear HO_7
                clear HO_8
                clear HO_13
                clear BK360
                clear BK384
                clear BK385
                clear HB
                have HO_7 := n0_
                have HO_8 := n1_
                have HO_13 := n2_
                have BK360 := n3_
                have BK384 := n4_
                have BK385 := n5_
                have HB := n6_
                clear n0_ n1_ n2_ n3_ n4_ n5_ n6_
                (try clear hb)
                (try clear hb2)
                (try clear hk)
                (try clear hi)
                refine hK.out _ _ ⟨HS0_, ((HB.out.cell (World.block_lt_of_cell? w _ hw398_0)).trans hw398_0), HS2_⟩ (fun hHeld => ?_)
                clear hK K
                refine norm_ (a' := ?_) ?_ ?_
                rotate_left
                · show Act.put _ (some 143) _ = _; simp only [Act.put, List.setIfInBounds_toArray, List.set_cons_zero, List.set_cons_succ, i64_w, i32_w]; rfl
                refine pure_ (i := 15) (N := some 128) (v := ?_) (a' := ?_) (bs 20 65535) rfl rfl (any_of HT_.out (by kernel_rfl)) (fun _ _ _ h => h) (Or.inl ⟨by rfl, ?_⟩) ?_ ?_
                rotate_left
                · intro w'; go_simp; with_reducible rfl
                rotate_left
                · simp only [Act.put, List.setIfInBounds_toArray, List.set_cons_zero, List.set_cons_succ, i64_w, i32_w]; rfl
                refine pure_ (i := 16) (N := some 144) (v := ?_) (a' := ?_) (bs 20 131071) rfl rfl (any_of HT_.out (by kernel_rfl)) (fun _ _ _ h => h) (Or.inl ⟨by rfl, ?_⟩) ?_ ?_
                rotate_left
                · intro w'; go_simp; with_reducible rfl
                rotate_left
                · simp only [Act.put, List.setIfInBounds_toArray, List.set_cons_zero, List.set_cons_succ, i64_w, i32_w]; rfl
                refine pure_ (i := 17) (N := some 145) (v := ?_) (a' := ?_) (bs 20 262143) rfl rfl (any_of HT_.out (by kernel_rfl)) (fun _ _ _ h => h) (Or.inl ⟨by rfl, ?_⟩) ?_ ?_
                rotate_left
                · intro w'; go_simp; with_reducible rfl
                rotate_left
                · simp only [Act.put, List.setIfInBounds_toArray, List.set_cons_zero, List.set_cons_succ, i64_w, i32_w]; rfl
                refine one_ (i := 18) (N := none) (bs 20 524287) rfl rfl (one_of HT_.out (by kernel_rfl)) (by decide) (fun K hK => ?_)
                have hs96 := cz0 BK385.out
                have hfs96 := blk_frozen BK385.out 0
                have hns96_0 := NB360_385.out
                have hns96_1 := NB384_385.out
                have hms96_0 := NB385_360.out
                have hms96_1 := NB385_384.out
                have hs97 := cz1 BK385.out
                have hfs97 := blk_frozen BK385.out 1
                have hns97_0 := NB360_385.out
                have hns97_1 := NB384_385.out
                have hms97_0 := NB385_360.out
                have hms97_1 := NB385_384.out
                have hs98 := cz2 BK385.out
                have hfs98 := blk_frozen BK385.out 2
                have hns98_0 := NB360_385.out
                have hns98_1 := NB384_385.out
                have hms98_0 := NB385_360.out
                have hms98_1 := NB385_384.out
                refine skip_ (w1 := ?_) (by rfl) rfl ?_ ?_
                rotate_left
                ·
                 go_simp
                 rfl
                refine hK.out _ _ ⟨((cell_far (p := ⟨gb385, _, none⟩) (by first | exact Kd.own_blk (Kd.R_ne HO_8.out BK385.out (by decide)) | (rw [add_block]; exact Kd.own_blk (Kd.R_ne HO_8.out BK385.out (by decide))) | (show (Addr.add _ _).block ≠ _; rw [add_block]; exact Kd.own_blk (Kd.R_ne HO_8.out BK385.out (by decide))) | (dsimp only; exact Kd.own_blk (Kd.R_ne HO_8.out BK385.out (by decide)))) _).trans (((cell_far (p := ⟨gb385, _, none⟩) (by first | exact Kd.own_blk (Kd.R_ne HO_8.out BK385.out (by decide)) | (rw [add_block]; exact Kd.own_blk (Kd.R_ne HO_8.out BK385.out (by decide))) | (show (Addr.add _ _).block ≠ _; rw [add_block]; exact Kd.own_blk (Kd.R_ne HO_8.out BK385.out (by decide))) | (dsimp only; exact Kd.own_blk (Kd.R_ne HO_8.out BK385.out (by decide)))) _).trans (((cell_far (p := ⟨gb385, _, none⟩) (by first | exact Kd.own_blk (Kd.R_ne HO_8.out BK385.out (by decide)) | (rw [add_block]; exact Kd.own_blk (Kd.R_ne HO_8.out BK385.out (by decide))) | (show (Addr.add _ _).block ≠ _; rw [add_block]; exact Kd.own_blk (Kd.R_ne HO_8.out BK385.out (by decide))) | (dsimp only; exact Kd.own_blk (Kd.R_ne HO_8.out BK385.out (by decide)))) _).trans (hHeld.1)))))), ((cell_far (p := ⟨gb385, _, none⟩) (by first | exact Nat.ne_of_lt (Nat.lt_of_lt_of_le (by have := World.block_lt_of_cell? _ _ hw398_0; first | rwa [add_block] at this | exact this) GW385.out) | (rw [add_block]; exact Nat.ne_of_lt (Nat.lt_of_lt_of_le (by have := World.block_lt_of_cell? _ _ hw398_0; first | rwa [add_block] at this | exact this) GW385.out)) | (show (Addr.add _ _).block ≠ _; rw [add_block]; exact Nat.ne_of_lt (Nat.lt_of_lt_of_le (by have := World.block_lt_of_cell? _ _ hw398_0; first | rwa [add_block] at this | exact this) GW385.out)) | (dsimp only; exact Nat.ne_of_lt (Nat.lt_of_lt_of_le (by have := World.block_lt_of_cell? _ _ hw398_0; first | rwa [add_block] at this | exact this) GW385.out))) _).trans (((cell_far (p := ⟨gb385, _, none⟩) (by first | exact Nat.ne_of_lt (Nat.lt_of_lt_of_le (by have := World.block_lt_of_cell? _ _ hw398_0; first | rwa [add_block] at this | exact this) GW385.out) | (rw [add_block]; exact Nat.ne_of_lt (Nat.lt_of_lt_of_le (by have := World.block_lt_of_cell? _ _ hw398_0; first | rwa [add_block] at this | exact this) GW385.out)) | (show (Addr.add _ _).block ≠ _; rw [add_block]; exact Nat.ne_of_lt (Nat.lt_of_lt_of_le (by have := World.block_lt_of_cell? _ _ hw398_0; first | rwa [add_block] at this | exact this) GW385.out)) | (dsimp only; exact Nat.ne_of_lt (Nat.lt_of_lt_of_le (by have := World.block_lt_of_cell? _ _ hw398_0; first | rwa [add_block] at this | exact this) GW385.out))) _).trans (((cell_far (p := ⟨gb385, _, none⟩) (by first | exact Nat.ne_of_lt (Nat.lt_of_lt_of_le (by have := World.block_lt_of_cell? _ _ hw398_0; first | rwa [add_block] at this | exact this) GW385.out) | (rw [add_block]; exact Nat.ne_of_lt (Nat.lt_of_lt_of_le (by have := World.block_lt_of_cell? _ _ hw398_0; first | rwa [add_block] at this | exact this) GW385.out)) | (show (Addr.add _ _).block ≠ _; rw [add_block]; exact Nat.ne_of_lt (Nat.lt_of_lt_of_le (by have := World.block_lt_of_cell? _ _ hw398_0; first | rwa [add_block] at this | exact this) GW385.out)) | (dsimp only; exact Nat.ne_of_lt (Nat.lt_of_lt_of_le (by have := World.block_lt_of_cell? _ _ hw398_0; first | rwa [add_block] at this | exact this) GW385.out))) _).trans (hHeld.2.1)))))), ((cell_far (p := ⟨gb385, _, none⟩) (by first | exact Kd.own_blk (Kd.R_ne HO_13.out BK385.out (by decide)) | (rw [add_block]; exact Kd.own_blk (Kd.R_ne HO_13.out BK385.out (by decide))) | (show (Addr.add _ _).block ≠ _; rw [add_block]; exact Kd.own_blk (Kd.R_ne HO_13.out BK385.out (by decide))) | (dsimp only; exact Kd.own_blk (Kd.R_ne HO_13.out BK385.out (by decide)))) _).trans (((cell_far (p := ⟨gb385, _, none⟩) (by first | exact Kd.own_blk (Kd.R_ne HO_13.out BK385.out (by decide)) | (rw [add_block]; exact Kd.own_blk (Kd.R_ne HO_13.out BK385.out (by decide))) | (show (Addr.add _ _).block ≠ _; rw [add_block]; exact Kd.own_blk (Kd.R_ne HO_13.out BK385.out (by decide))) | (dsimp only; exact Kd.own_blk (Kd.R_ne HO_13.out BK385.out (by decide)))) _).trans (((cell_far (p := ⟨gb385, _, none⟩) (by first | exact Kd.own_blk (Kd.R_ne HO_13.out BK385.out (by decide)) | (rw [add_block]; exact Kd.own_blk (Kd.R_ne HO_13.out BK385.out (by decide))) | (show (Addr.add _ _).block ≠ _; rw [add_block]; exact Kd.own_blk (Kd.R_ne HO_13.out BK385.out (by decide))) | (dsimp only; exact Kd.own_blk (Kd.R_ne HO_13.out BK385.out (by decide)))) _).trans (hHeld.2.2))))))⟩ (fun hHeld => ?_)
                clear hK K
                refine pure_ (i := 19) (N := some 17) (v := ?_) (a' := ?_) (bs 20 1048575) rfl rfl (any_of HT_.out (by kernel_rfl)) (fun _ _ _ h => h) (Or.inl ⟨by rfl, ?_⟩) ?_ ?_
                rotate_left
                · intro w'; go_simp; with_reducible rfl
                rotate_left
                · simp only [Act.put, List.setIfInBounds_toArray, List.set_cons_zero, List.set_cons_succ, i64_w, i32_w]; rfl
                refine done_ (done_of HT_.out (by kernel_rfl)) ?_
                try go_wp2_with (first | ((with_reducible refine gate_callee (f := 16) rfl ?_); refine goesL_ (some 147) rfl rfl Tryd.func16 (by kernel_rfl) rfl #[.int .i64 t383] rfl (map1 rfl) ?_; (with_reducible refine (quilllaw15_num.calls t383 t404 _ A91.out).mono ?_); rintro e w' ⟨rfl, ⟨nd, rfl⟩⟩; refine ⟨_, rfl, ?_⟩; have hnb99 := NB384_360.out; have hnc99 := NB360_384.out; have hnb100 := NB384_385.out; have hnc100 := NB385_384.out; have hcz101_0 := cz0 BK384.out; have hcz101_1 := cz1 BK384.out; have hcz101_2 := cz2 BK384.out; have hfz101_0 := blk_frozen BK384.out 0; have hfz101_1 := blk_frozen BK384.out 1; have hfz101_2 := blk_frozen BK384.out 2; have hnb102 := NB385_360.out; have hnc102 := NB360_385.out; have hcz103_0 := cz0 BK385.out; have hcz103_1 := cz1 BK385.out; have hcz103_2 := cz2 BK385.out; have hfz103_0 := blk_frozen BK385.out 0; have hfz103_1 := blk_frozen BK385.out 1; have hfz103_2 := blk_frozen BK385.out 2))
                go_ret
                exact ⟨by first | rfl | (simp [errW_none, errW_some] <;> rfl) | (simp [*, errW_none, errW_some] <;> rfl), by repeat with_reducible first | exact HB.out | apply pw_below_drewN | refine below_set ?_ GE360.out | refine below_set ?_ GE384.out | refine below_set ?_ GE385.out | apply below_drew1 | apply below_alloc⟩
               rw [if_neg c93] at H
               have c93b0 : (!(t380 == t400) || (!(t381 == t401) || (!(t382 == t402)))) = false := by simpa using c93
               clear c93
               have H' := Aside0.mk H
               clear H
               try go_wp2
               have n0_ := Aside0.mk (Kd.R_drew HO_7.out)
               have n1_ := Aside0.mk (Kd.R_drew HO_8.out)
               have n2_ := Aside0.mk (Kd.R_drew HO_13.out)
               have n3_ := Aside0.mk (blk_drew BK360.out)
               have n4_ := Aside0.mk (blk_drew BK384.out)
               have n5_ := Aside0.mk (blk_drew BK385.out)
               have n6_ := Aside0.mk (below_drew1 HB.out)
               clear HO_7
               clear HO_8
               clear HO_13
               clear BK360
               clear BK384
               clear BK385
               clear HB
               have HO_7 := n0_
               have HO_8 := n1_
               have HO_13 := n2_
               have BK360 := n3_
               have BK384 := n4_
               have BK385 := n5_
               have HB := n6_
               clear n0_ n1_ n2_ n3_ n4_ n5_ n6_
               have p397 : 0 ≤ (x9_3 : Int) := of_decide_eq_true (by assumption)
               have q397 : x9_3 < (t367.length : Int) := of_decide_eq_true (by assumption)
               obtain ⟨ad397, e397, hx397_0⟩ := Kd.at_int (Kd.R_reads' HO_8.out).2.2 x9_3 p397 q397
               obtain rfl : ad377 = ad397 := (by injection e397)
               replace p397 := eq_true p397
               replace q397 := eq_true q397
               have p398 : 0 ≤ (x10_4 : Int) := of_decide_eq_true (by assumption)
               have q398 : x10_4 < (l1.length : Int) := of_decide_eq_true (by assumption)
               obtain ⟨ad398, e398, hx398_0⟩ := Kd.at_int HR1.out x10_4 p398 q398
               have hw398_0 := hx398_0
               obtain rfl : ad378 = ad398 := (by injection e398)
               replace hx398_0 := (HB.out.cell (World.block_lt_of_cell? w _ hx398_0)).trans hx398_0
               replace p398 := eq_true p398
               replace q398 := eq_true q398
               have p399 : 0 ≤ (x14_6 : Int) := of_decide_eq_true (by assumption)
               have q399 : x14_6 < (y374.length : Int) := of_decide_eq_true (by assumption)
               obtain ⟨ad399, e399, hx399_0⟩ := Kd.at_int (Kd.R_reads' HO_13.out).2.2 x14_6 p399 q399
               obtain rfl : ad379 = ad399 := (by injection e399)
               replace p399 := eq_true p399
               replace q399 := eq_true q399
               refine start_ (n := 20) (S := fun w' => w'.cell? (ad377.add (x9_3).toNat) = some (.int .i64 (rd t367 x9_3)) ∧ w'.cell? (ad378.add (x10_4).toNat) = some (.int .i64 (rd l1 x10_4)) ∧ w'.cell? (ad379.add (x14_6).toNat) = some (.int .i64 (rd y374 x14_6))) (ds := []) (bs 20 0) (by kernel_rfl) rfl rfl ⟨hx397_0, ((HB.out.cell (World.block_lt_of_cell? w _ hw398_0)).trans hw398_0), hx399_0⟩ (fun hHeld => ?_); refine with_tabW quilllaw15_pieces.tab26 quilllaw15_pieces.bits26 (fun HT_ HW_ => ?_)
               generalize wc.drew = w104 at HO_7 HO_8 HO_13 BK360 BK384 BK385 HB hx397_0 hx398_0 hx399_0 hHeld ⊢
               refine pure_ (i := 0) (N := some 129) (v := ?_) (a' := ?_) (bs 20 1) rfl rfl (any_of HT_.out (by kernel_rfl)) (fun _ _ _ h => h) (Or.inl ⟨by rfl, ?_⟩) ?_ ?_
               rotate_left
               · intro w'; go_simp; with_reducible rfl
               rotate_left
               · simp only [Act.put, List.setIfInBounds_toArray, List.set_cons_zero, List.set_cons_succ, i64_w, i32_w]; rfl
               refine pure_ (i := 1) (N := some 130) (v := ?_) (a' := ?_) (bs 20 3) rfl rfl (any_of HT_.out (by kernel_rfl)) (fun _ _ _ h => h) (Or.inl ⟨by rfl, ?_⟩) ?_ ?_
               rotate_left
               · intro w'; go_simp; with_reducible rfl
               rotate_left
               · simp only [Act.put, List.setIfInBounds_toArray, List.set_cons_zero, List.set_cons_succ, i64_w, i32_w]; rfl
               refine pure_ (i := 2) (N := some 131) (v := ?_) (a' := ?_) (bs 20 7) rfl rfl (any_of HT_.out (by kernel_rfl)) (fun _ _ _ h => h) (Or.inl ⟨by rfl, ?_⟩) ?_ ?_
               rotate_left
               · intro w'; go_simp; with_reducible rfl
               rotate_left
               · simp only [Act.put, List.setIfInBounds_toArray, List.set_cons_zero, List.set_cons_succ, i64_w, i32_w]; rfl
               refine pure_ (i := 3) (N := some 132) (v := ?_) (a' := ?_) (bs 20 15) rfl rfl (any_of HT_.out (by kernel_rfl)) (fun _ _ _ h => h) (Or.inl ⟨by rfl, ?_⟩) ?_ ?_
               rotate_left
               · intro w'; go_simp; with_reducible rfl
               rotate_left
               · simp only [Act.put, List.setIfInBounds_toArray, List.set_cons_zero, List.set_cons_succ, i64_w, i32_w]; rfl
               refine pure_ (i := 5) (N := some 134) (v := ?_) (a' := ?_) (bs 20 47) rfl rfl (any_of HT_.out (by kernel_rfl)) (fun _ _ _ h => h) (Or.inl ⟨by rfl, ?_⟩) ?_ ?_
               rotate_left
               · intro w'; go_simp; with_reducible rfl
               rotate_left
               · simp only [Act.put, List.setIfInBounds_toArray, List.set_cons_zero, List.set_cons_succ, i64_w, i32_w]; rfl
               refine pure_ (i := 6) (N := some 135) (v := ?_) (a' := ?_) (bs 20 111) rfl rfl (any_of HT_.out (by kernel_rfl)) (fun _ _ _ h => h) (Or.inl ⟨by rfl, ?_⟩) ?_ ?_
               rotate_left
               · intro w'; go_simp; with_reducible rfl
               rotate_left
               · simp only [Act.put, List.setIfInBounds_toArray, List.set_cons_zero, List.set_cons_succ, i64_w, i32_w]; rfl
               refine pure_ (i := 7) (N := some 136) (v := ?_) (a' := ?_) (bs 20 239) rfl rfl (any_of HT_.out (by kernel_rfl)) (fun _ _ _ h => h) (Or.inl ⟨by rfl, ?_⟩) ?_ ?_
               rotate_left
               · intro w'; go_simp; with_reducible rfl
               rotate_left
               · simp only [Act.put, List.setIfInBounds_toArray, List.set_cons_zero, List.set_cons_succ, i64_w, i32_w]; rfl
               refine pure_ (i := 8) (N := some 137) (v := ?_) (a' := ?_) (bs 20 495) rfl rfl (any_of HT_.out (by kernel_rfl)) (fun _ _ _ h => h) (Or.inl ⟨by rfl, ?_⟩) ?_ ?_
               rotate_left
               · intro w'; go_simp; with_reducible rfl
               rotate_left
               · simp only [Act.put, List.setIfInBounds_toArray, List.set_cons_zero, List.set_cons_succ, i64_w, i32_w]; rfl
               refine pure_ (i := 10) (N := some 139) (v := ?_) (a' := ?_) (bs 20 1519) rfl rfl (any_of HT_.out (by kernel_rfl)) (fun _ _ _ h => h) (Or.inl ⟨by rfl, ?_⟩) ?_ ?_
               rotate_left
               · intro w'; go_simp; with_reducible rfl
               rotate_left
               · simp only [Act.put, List.setIfInBounds_toArray, List.set_cons_zero, List.set_cons_succ, i64_w, i32_w]; rfl
               refine pure_ (i := 11) (N := some 140) (v := ?_) (a' := ?_) (bs 20 3567) rfl rfl (any_of HT_.out (by kernel_rfl)) (fun _ _ _ h => h) (Or.inl ⟨by rfl, ?_⟩) ?_ ?_
               rotate_left
               · intro w'; go_simp; with_reducible rfl
               rotate_left
               · simp only [Act.put, List.setIfInBounds_toArray, List.set_cons_zero, List.set_cons_succ, i64_w, i32_w]; rfl
               refine pure_ (i := 12) (N := some 141) (v := ?_) (a' := ?_) (bs 20 7663) rfl rfl (any_of HT_.out (by kernel_rfl)) (fun _ _ _ h => h) (Or.inl ⟨by rfl, ?_⟩) ?_ ?_
               rotate_left
               · intro w'; go_simp; with_reducible rfl
               rotate_left
               · simp only [Act.put, List.setIfInBounds_toArray, List.set_cons_zero, List.set_cons_succ, i64_w, i32_w]; rfl
               refine take_ (i := 4) (N := some 133) (v := ?_) (a' := ?_) (bs 20 7679) rfl rfl (take_ofW HT_.out HW_.out (by kernel_rfl)) (fun _ _ _ h => h) (Or.inl ⟨by rfl, ?_⟩) hHeld ?_ ?_
               rotate_left
               · rintro w' ⟨s0, s1, s2⟩; go_simp; with_reducible rfl
               rotate_left
               · simp only [Act.put, List.setIfInBounds_toArray, List.set_cons_zero, List.set_cons_succ, i64_w, i32_w]; rfl
               refine take_ (i := 9) (N := some 138) (v := ?_) (a' := ?_) (bs 20 8191) rfl rfl (take_ofW HT_.out HW_.out (by kernel_rfl)) (fun _ _ _ h => h) (Or.inl ⟨by rfl, ?_⟩) hHeld ?_ ?_
               rotate_left
               · rintro w' ⟨s0, s1, s2⟩; go_simp; with_reducible rfl
               rotate_left
               · simp only [Act.put, List.setIfInBounds_toArray, List.set_cons_zero, List.set_cons_succ, i64_w, i32_w]; rfl
               refine take_ (i := 13) (N := some 142) (v := ?_) (a' := ?_) (bs 20 16383) rfl rfl (take_ofW HT_.out HW_.out (by kernel_rfl)) (fun _ _ _ h => h) (Or.inl ⟨by rfl, ?_⟩) hHeld ?_ ?_
               rotate_left
               · rintro w' ⟨s0, s1, s2⟩; go_simp; with_reducible rfl
               rotate_left
               · simp only [Act.put, List.setIfInBounds_toArray, List.set_cons_zero, List.set_cons_succ, i64_w, i32_w]; rfl
               refine one_ (i := 14) (N := some 143) (bs 20 32767) rfl rfl (one_of HT_.out (by kernel_rfl)) (by decide) (fun K hK => ?_)
               refine goes_ Tryd.func22 (by kernel_rfl) rfl #[.slice Ao24 y364.length co24, .int .i64 (rd t367 x9_3), .int .i64 (rd y370 x11_5), .int .i64 (rd l1 x10_4), .int .i64 (rd y374 x14_6)] (by rfl) rfl rfl (by (try simp only [List.map_toArray, List.map_cons, List.map_nil]); first | done | rfl | (simp only [List.length_drop, List.length_take]; rfl)) ?_
               with_reducible refine (quillref15_Piece.calls kj46 _ _ y364 (rd t367 x9_3) (rd y370 x11_5) (rd l1 x10_4) (rd y374 x14_6) t400 t401 t402 t403 _ ?side1 ?side2 A90.out).mono ?_
               (case side1 => repeat (first | exact (Kd.R_reads' HO_7.out).2.2 | with_reducible first | refine Kd.C_drewN ?_ _ | refine Kd.C_drew ?_ | refine Kd.C_alloc ?_ _))
               (case side2 => exact (Kd.R_reads' HO_7.out).2.1)
               rintro e w105 ⟨rfl, hb⟩
               have HS0_ := (hb.cell (World.block_lt_of_cell? _ _ (hHeld.1))).trans (hHeld.1)
               have HS2_ := (hb.cell (World.block_lt_of_cell? _ _ (hHeld.2.2))).trans (hHeld.2.2)
               refine ⟨_, rfl, ?_⟩
               have n0_ := Aside0.mk (Kd.R_below (by (with_reducible repeat (first | apply Kd.R_alloc | apply Kd.R_drewN | apply Kd.R_drew)); exact HO_7.out) hb)
               have n1_ := Aside0.mk (Kd.R_below (by (with_reducible repeat (first | apply Kd.R_alloc | apply Kd.R_drewN | apply Kd.R_drew)); exact HO_8.out) hb)
               have n2_ := Aside0.mk (Kd.R_below (by (with_reducible repeat (first | apply Kd.R_alloc | apply Kd.R_drewN | apply Kd.R_drew)); exact HO_13.out) hb)
               have n3_ := Aside0.mk (blb hb BK360.out)
               have n4_ := Aside0.mk (blb hb BK384.out)
               have n5_ := Aside0.mk (blb hb BK385.out)
               have n6_ := Aside0.mk (below_step (by repeat with_reducible first | exact HB.out | apply pw_below_drewN | refine below_set ?_ GE360.out | refine below_set ?_ GE384.out | refine below_set ?_ GE385.out | apply below_drew1 | apply below_alloc) hb)
               clear HO_7
               clear HO_8
               clear HO_13
               clear BK360
               clear BK384
               clear BK385
               clear HB
               have HO_7 := n0_
               have HO_8 := n1_
               have HO_13 := n2_
               have BK360 := n3_
               have BK384 := n4_
               have BK385 := n5_
               have HB := n6_
               clear n0_ n1_ n2_ n3_ n4_ n5_ n6_
               (try clear hb)
               (try clear hb2)
               (try clear hk)
               (try clear hi)
               refine hK.out _ _ ⟨HS0_, ((HB.out.cell (World.block_lt_of_cell? w _ hw398_0)).trans hw398_0), HS2_⟩ (fun hHeld => ?_)
               clear hK K
               refine norm_ (a' := ?_) ?_ ?_
               rotate_left
               · show Act.put _ (some 143) _ = _; simp only [Act.put, List.setIfInBounds_toArray, List.set_cons_zero, List.set_cons_succ, i64_w, i32_w]; rfl
               refine pure_ (i := 15) (N := some 128) (v := ?_) (a' := ?_) (bs 20 65535) rfl rfl (any_of HT_.out (by kernel_rfl)) (fun _ _ _ h => h) (Or.inl ⟨by rfl, ?_⟩) ?_ ?_
               rotate_left
               · intro w'; go_simp; with_reducible rfl
               rotate_left
               · simp only [Act.put, List.setIfInBounds_toArray, List.set_cons_zero, List.set_cons_succ, i64_w, i32_w]; rfl
               refine pure_ (i := 16) (N := some 144) (v := ?_) (a' := ?_) (bs 20 131071) rfl rfl (any_of HT_.out (by kernel_rfl)) (fun _ _ _ h => h) (Or.inl ⟨by rfl, ?_⟩) ?_ ?_
               rotate_left
               · intro w'; go_simp; with_reducible rfl
               rotate_left
               · simp only [Act.put, List.setIfInBounds_toArray, List.set_cons_zero, List.set_cons_succ, i64_w, i32_w]; rfl
               refine pure_ (i := 17) (N := some 145) (v := ?_) (a' := ?_) (bs 20 262143) rfl rfl (any_of HT_.out (by kernel_rfl)) (fun _ _ _ h => h) (Or.inl ⟨by rfl, ?_⟩) ?_ ?_
               rotate_left
               · intro w'; go_simp; with_reducible rfl
               rotate_left
               · simp only [Act.put, List.setIfInBounds_toArray, List.set_cons_zero, List.set_cons_succ, i64_w, i32_w]; rfl
               refine one_ (i := 18) (N := none) (bs 20 524287) rfl rfl (one_of HT_.out (by kernel_rfl)) (by decide) (fun K hK => ?_)
               have hs106 := cz0 BK385.out
               have hfs106 := blk_frozen BK385.out 0
               have hns106_0 := NB360_385.out
               have hns106_1 := NB384_385.out
               have hms106_0 := NB385_360.out
               have hms106_1 := NB385_384.out
               have hs107 := cz1 BK385.out
               have hfs107 := blk_frozen BK385.out 1
               have hns107_0 := NB360_385.out
               have hns107_1 := NB384_385.out
               have hms107_0 := NB385_360.out
               have hms107_1 := NB385_384.out
               have hs108 := cz2 BK385.out
               have hfs108 := blk_frozen BK385.out 2
               have hns108_0 := NB360_385.out
               have hns108_1 := NB384_385.out
               have hms108_0 := NB385_360.out
               have hms108_1 := NB385_384.out
               refine skip_ (w1 := ?_) (by rfl) rfl ?_ ?_
               rotate_left
               ·
                go_simp
                rfl
               refine hK.out _ _ ⟨((cell_far (p := ⟨gb385, _, none⟩) (by first | exact Kd.own_blk (Kd.R_ne HO_8.out BK385.out (by decide)) | (rw [add_block]; exact Kd.own_blk (Kd.R_ne HO_8.out BK385.out (by decide))) | (show (Addr.add _ _).block ≠ _; rw [add_block]; exact Kd.own_blk (Kd.R_ne HO_8.out BK385.out (by decide))) | (dsimp only; exact Kd.own_blk (Kd.R_ne HO_8.out BK385.out (by decide)))) _).trans (((cell_far (p := ⟨gb385, _, none⟩) (by first | exact Kd.own_blk (Kd.R_ne HO_8.out BK385.out (by decide)) | (rw [add_block]; exact Kd.own_blk (Kd.R_ne HO_8.out BK385.out (by decide))) | (show (Addr.add _ _).block ≠ _; rw [add_block]; exact Kd.own_blk (Kd.R_ne HO_8.out BK385.out (by decide))) | (dsimp only; exact Kd.own_blk (Kd.R_ne HO_8.out BK385.out (by decide)))) _).trans (((cell_far (p := ⟨gb385, _, none⟩) (by first | exact Kd.own_blk (Kd.R_ne HO_8.out BK385.out (by decide)) | (rw [add_block]; exact Kd.own_blk (Kd.R_ne HO_8.out BK385.out (by decide))) | (show (Addr.add _ _).block ≠ _; rw [add_block]; exact Kd.own_blk (Kd.R_ne HO_8.out BK385.out (by decide))) | (dsimp only; exact Kd.own_blk (Kd.R_ne HO_8.out BK385.out (by decide)))) _).trans (hHeld.1)))))), ((cell_far (p := ⟨gb385, _, none⟩) (by first | exact Nat.ne_of_lt (Nat.lt_of_lt_of_le (by have := World.block_lt_of_cell? _ _ hw398_0; first | rwa [add_block] at this | exact this) GW385.out) | (rw [add_block]; exact Nat.ne_of_lt (Nat.lt_of_lt_of_le (by have := World.block_lt_of_cell? _ _ hw398_0; first | rwa [add_block] at this | exact this) GW385.out)) | (show (Addr.add _ _).block ≠ _; rw [add_block]; exact Nat.ne_of_lt (Nat.lt_of_lt_of_le (by have := World.block_lt_of_cell? _ _ hw398_0; first | rwa [add_block] at this | exact this) GW385.out)) | (dsimp only; exact Nat.ne_of_lt (Nat.lt_of_lt_of_le (by have := World.block_lt_of_cell? _ _ hw398_0; first | rwa [add_block] at this | exact this) GW385.out))) _).trans (((cell_far (p := ⟨gb385, _, none⟩) (by first | exact Nat.ne_of_lt (Nat.lt_of_lt_of_le (by have := World.block_lt_of_cell? _ _ hw398_0; first | rwa [add_block] at this | exact this) GW385.out) | (rw [add_block]; exact Nat.ne_of_lt (Nat.lt_of_lt_of_le (by have := World.block_lt_of_cell? _ _ hw398_0; first | rwa [add_block] at this | exact this) GW385.out)) | (show (Addr.add _ _).block ≠ _; rw [add_block]; exact Nat.ne_of_lt (Nat.lt_of_lt_of_le (by have := World.block_lt_of_cell? _ _ hw398_0; first | rwa [add_block] at this | exact this) GW385.out)) | (dsimp only; exact Nat.ne_of_lt (Nat.lt_of_lt_of_le (by have := World.block_lt_of_cell? _ _ hw398_0; first | rwa [add_block] at this | exact this) GW385.out))) _).trans (((cell_far (p := ⟨gb385, _, none⟩) (by first | exact Nat.ne_of_lt (Nat.lt_of_lt_of_le (by have := World.block_lt_of_cell? _ _ hw398_0; first | rwa [add_block] at this | exact this) GW385.out) | (rw [add_block]; exact Nat.ne_of_lt (Nat.lt_of_lt_of_le (by have := World.block_lt_of_cell? _ _ hw398_0; first | rwa [add_block] at this | exact this) GW385.out)) | (show (Addr.add _ _).block ≠ _; rw [add_block]; exact Nat.ne_of_lt (Nat.lt_of_lt_of_le (by have := World.block_lt_of_cell? _ _ hw398_0; first | rwa [add_block] at this | exact this) GW385.out)) | (dsimp only; exact Nat.ne_of_lt (Nat.lt_of_lt_of_le (by have := World.block_lt_of_cell? _ _ hw398_0; first | rwa [add_block] at this | exact this) GW385.out))) _).trans (hHeld.2.1)))))), ((cell_far (p := ⟨gb385, _, none⟩) (by first | exact Kd.own_blk (Kd.R_ne HO_13.out BK385.out (by decide)) | (rw [add_block]; exact Kd.own_blk (Kd.R_ne HO_13.out BK385.out (by decide))) | (show (Addr.add _ _).block ≠ _; rw [add_block]; exact Kd.own_blk (Kd.R_ne HO_13.out BK385.out (by decide))) | (dsimp only; exact Kd.own_blk (Kd.R_ne HO_13.out BK385.out (by decide)))) _).trans (((cell_far (p := ⟨gb385, _, none⟩) (by first | exact Kd.own_blk (Kd.R_ne HO_13.out BK385.out (by decide)) | (rw [add_block]; exact Kd.own_blk (Kd.R_ne HO_13.out BK385.out (by decide))) | (show (Addr.add _ _).block ≠ _; rw [add_block]; exact Kd.own_blk (Kd.R_ne HO_13.out BK385.out (by decide))) | (dsimp only; exact Kd.own_blk (Kd.R_ne HO_13.out BK385.out (by decide)))) _).trans (((cell_far (p := ⟨gb385, _, none⟩) (by first | exact Kd.own_blk (Kd.R_ne HO_13.out BK385.out (by decide)) | (rw [add_block]; exact Kd.own_blk (Kd.R_ne HO_13.out BK385.out (by decide))) | (show (Addr.add _ _).block ≠ _; rw [add_block]; exact Kd.own_blk (Kd.R_ne HO_13.out BK385.out (by decide))) | (dsimp only; exact Kd.own_blk (Kd.R_ne HO_13.out BK385.out (by decide)))) _).trans (hHeld.2.2))))))⟩ (fun hHeld => ?_)
               clear hK K
               refine pure_ (i := 19) (N := some 17) (v := ?_) (a' := ?_) (bs 20 1048575) rfl rfl (any_of HT_.out (by kernel_rfl)) (fun _ _ _ h => h) (Or.inl ⟨by rfl, ?_⟩) ?_ ?_
               rotate_left
               · intro w'; go_simp; with_reducible rfl
               rotate_left
               · simp only [Act.put, List.setIfInBounds_toArray, List.set_cons_zero, List.set_cons_succ, i64_w, i32_w]; rfl
               refine done_ (done_of HT_.out (by kernel_rfl)) ?_
               try go_wp2_with (first | ((with_reducible refine gate_callee (f := 16) rfl ?_); refine goesL_ (some 147) rfl rfl Tryd.func16 (by kernel_rfl) rfl #[.int .i64 t383] rfl (map1 rfl) ?_; (with_reducible refine (quilllaw15_num.calls t383 t404 _ A91.out).mono ?_); rintro e w' ⟨rfl, ⟨nd, rfl⟩⟩; refine ⟨_, rfl, ?_⟩; have hnb109 := NB384_360.out; have hnc109 := NB360_384.out; have hnb110 := NB384_385.out; have hnc110 := NB385_384.out; have hcz111_0 := cz0 BK384.out; have hcz111_1 := cz1 BK384.out; have hcz111_2 := cz2 BK384.out; have hfz111_0 := blk_frozen BK384.out 0; have hfz111_1 := blk_frozen BK384.out 1; have hfz111_2 := blk_frozen BK384.out 2; have hnb112 := NB385_360.out; have hnc112 := NB360_385.out; have hcz113_0 := cz0 BK385.out; have hcz113_1 := cz1 BK385.out; have hcz113_2 := cz2 BK385.out; have hfz113_0 := blk_frozen BK385.out 0; have hfz113_1 := blk_frozen BK385.out 1; have hfz113_2 := blk_frozen BK385.out 2))
               go_roundg kj46
               case measure => have := HK1.out; have := HJ10.out; have := HK3.out; have := HK4.out; have := HK5.out; have := HK6.out; have := HJ46.out; omega
               case rel => exact ⟨(wrap64 (x14_6 + 1)), (by first | rfl | (simp; done) | (simp [*]; done)), H', ⟨by have := HK1.out; have := HJ10.out; have := HK3.out; have := HK4.out; have := HK5.out; have := HK6.out; have := HJ46.out; omega⟩, ⟨by (with_reducible repeat (first | apply Kd.R_alloc | apply Kd.R_drewN | apply Kd.R_drew)); exact Kd.R_mono (Kd.R_far (p := ⟨gb385, 2, none⟩) (Kd.R_far (p := ⟨gb385, 1, none⟩) (Kd.R_far (p := ⟨gb385, 0, none⟩) (Kd.R_types HO_7.out BK385.out (by decide)) (fun _ hk => hk.2) (.int .i64 t400)) (fun _ hk => hk.2) (.int .i64 t401)) (fun _ hk => hk.2) (.bool t402)) (fun _ hk => trivial)⟩, ⟨by (with_reducible repeat (first | apply Kd.R_alloc | apply Kd.R_drewN | apply Kd.R_drew)); exact Kd.R_mono (Kd.R_far (p := ⟨gb385, 2, none⟩) (Kd.R_far (p := ⟨gb385, 1, none⟩) (Kd.R_far (p := ⟨gb385, 0, none⟩) (Kd.R_types HO_8.out BK385.out (by decide)) (fun _ hk => hk.2) (.int .i64 t400)) (fun _ hk => hk.2) (.int .i64 t401)) (fun _ hk => hk.2) (.bool t402)) (fun _ hk => hk.1)⟩, ⟨by (with_reducible repeat (first | apply Kd.R_alloc | apply Kd.R_drewN | apply Kd.R_drew)); exact Kd.R_mono (Kd.R_far (p := ⟨gb385, 2, none⟩) (Kd.R_far (p := ⟨gb385, 1, none⟩) (Kd.R_far (p := ⟨gb385, 0, none⟩) (Kd.R_types HO_13.out BK385.out (by decide)) (fun _ hk => hk.2) (.int .i64 t400)) (fun _ hk => hk.2) (.int .i64 t401)) (fun _ hk => hk.2) (.bool t402)) (fun _ hk => hk.1)⟩, ⟨by (with_reducible repeat (first | refine blk_drewN ?_ _ | refine blk_drew ?_ | refine blk_alloc ?_ _)); refine blk_far ?_ NB360_385.out _; (with_reducible repeat (first | refine blk_drewN ?_ _ | refine blk_drew ?_ | refine blk_alloc ?_ _)); refine blk_far ?_ NB360_385.out _; (with_reducible repeat (first | refine blk_drewN ?_ _ | refine blk_drew ?_ | refine blk_alloc ?_ _)); refine blk_far ?_ NB360_385.out _; (with_reducible repeat (first | refine blk_drewN ?_ _ | refine blk_drew ?_ | refine blk_alloc ?_ _)); exact BK360.out⟩, ⟨by repeat with_reducible first | exact HB.out | apply pw_below_drewN | refine below_set ?_ GE360.out | refine below_set ?_ GE384.out | refine below_set ?_ GE385.out | apply below_drew1 | apply below_alloc⟩⟩

end Go.Proofs.YtgikaemhhaejoaaDoor.P
