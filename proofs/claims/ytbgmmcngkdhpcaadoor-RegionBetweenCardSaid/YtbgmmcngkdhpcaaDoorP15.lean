/- The walks of the functions that these statements reach: each Go function as a plain Lean function, and the proof that its call comes to that. Written by the session's program wip/pp.py. -/
import Derived.Test.YtbgmmcngkdhpcaaDoorP0
import Derived.Test.YtbgmmcngkdhpcaaDoorP1
import Derived.Test.YtbgmmcngkdhpcaaDoorP2
import Derived.Test.YtbgmmcngkdhpcaaDoorP3
import Derived.Test.YtbgmmcngkdhpcaaDoorP4
import Derived.Test.YtbgmmcngkdhpcaaDoorP14
namespace Go.Proofs.YtbgmmcngkdhpcaaDoor.P
open Go.Proofs.YtbgmmcngkdhpcaaDoor
open Go.RowKit Go.Proofs.YtbgmmcngkdhpcaaDoorW.PrintWords Go.Proofs.YtbgmmcngkdhpcaaDoorW.PrintLast Go.Proofs.YtbgmmcngkdhpcaaDoorW.PrintMore
attribute [local go_sem] cell_isSome max2_int min2_int max_two min_two max_three min_three max_four min_four   -- for this text's walks alone
set_option linter.unusedVariables false
set_option linter.unusedSimpArgs false

attribute [local go_sem high] eqA40
/-! ### quilllaw17_RegionBetween: function 3 -/
mutual
def quilllaw17_RegionBetween.l0 : Nat → Int → List ByteArray → Int → Int → Int → Int → Int → Int → Int → List (S52) → Int → Int → List (S89) → Option (Bool)
  | 0, _, _, _, _, _, _, _, _, _, _, _, _, _ => none
  | k + 1, x3, v0, v1, v2, v3, v4, v5, v6, v7, v8, v9, v10, v11 => if x3 < (v0.length : Int) then (quilllaw17_RegionBetween.j1 k x3 (decide (x3 < 3)) v0 v1 v2 v3 v4 v5 v6 v7 v8 v9 v10 v11) else (quilllaw17_RegionBetween.j1 k x3 false v0 v1 v2 v3 v4 v5 v6 v7 v8 v9 v10 v11)
def quilllaw17_RegionBetween.j1 : Nat → Int → Bool → List ByteArray → Int → Int → Int → Int → Int → Int → Int → List (S52) → Int → Int → List (S89) → Option (Bool)
  | 0, _, _, _, _, _, _, _, _, _, _, _, _, _, _ => none
  | k + 1, x3, x26, v0, v1, v2, v3, v4, v5, v6, v7, v8, v9, v10, v11 => if x26 = true then (if 0 ≤ x3 then (if x3 < (v0.length : Int) then (if (rdOf ByteArray.empty v0 x3).size ≤ 70368744177664 then ((some (runesOf (rdOf ByteArray.empty v0 x3) : List Int)).bind fun y352 => ((quilllaw10_Offsets.f k v0 v1 v2 v3 v4 v5 v6 v7 y352).bind fun t355 => (quilllaw17_RegionBetween.l1 k x3 (rdOf ByteArray.empty v0 x3) y352 t355 0 v0 v1 v2 v3 v4 v5 v6 v7 v8 v9 v10 v11))) else (none)) else (none)) else (none)) else ((quilllaw17_wakes.f k).bind fun t350 => (some t350))
def quilllaw17_RegionBetween.l1 : Nat → Int → ByteArray → List Int → List Int → Int → List ByteArray → Int → Int → Int → Int → Int → Int → Int → List (S52) → Int → Int → List (S89) → Option (Bool)
  | 0, _, _, _, _, _, _, _, _, _, _, _, _, _, _, _, _, _ => none
  | k + 1, x3, x4, x5, x6, x7, v0, v1, v2, v3, v4, v5, v6, v7, v8, v9, v10, v11 => if x7 < (x6.length : Int) then (quilllaw17_RegionBetween.j3 k x3 x4 x5 x6 x7 (decide (x7 < 10)) v0 v1 v2 v3 v4 v5 v6 v7 v8 v9 v10 v11) else (quilllaw17_RegionBetween.j3 k x3 x4 x5 x6 x7 false v0 v1 v2 v3 v4 v5 v6 v7 v8 v9 v10 v11)
def quilllaw17_RegionBetween.j3 : Nat → Int → ByteArray → List Int → List Int → Int → Bool → List ByteArray → Int → Int → Int → Int → Int → Int → Int → List (S52) → Int → Int → List (S89) → Option (Bool)
  | 0, _, _, _, _, _, _, _, _, _, _, _, _, _, _, _, _, _, _ => none
  | k + 1, x3, x4, x5, x6, x7, x49, v0, v1, v2, v3, v4, v5, v6, v7, v8, v9, v10, v11 => if x49 = true then (quilllaw17_RegionBetween.l2 k x3 x4 x5 x6 x7 0 v0 v1 v2 v3 v4 v5 v6 v7 v8 v9 v10 v11) else (quilllaw17_RegionBetween.l0 k (wrap64 (x3 + 1)) v0 v1 v2 v3 v4 v5 v6 v7 v8 v9 v10 v11)
def quilllaw17_RegionBetween.l2 : Nat → Int → ByteArray → List Int → List Int → Int → Int → List ByteArray → Int → Int → Int → Int → Int → Int → Int → List (S52) → Int → Int → List (S89) → Option (Bool)
  | 0, _, _, _, _, _, _, _, _, _, _, _, _, _, _, _, _, _, _ => none
  | k + 1, x3, x4, x5, x6, x7, x8, v0, v1, v2, v3, v4, v5, v6, v7, v8, v9, v10, v11 => if x8 < (x6.length : Int) then (quilllaw17_RegionBetween.j5 k x3 x4 x5 x6 x7 x8 (decide (x8 < 10)) v0 v1 v2 v3 v4 v5 v6 v7 v8 v9 v10 v11) else (quilllaw17_RegionBetween.j5 k x3 x4 x5 x6 x7 x8 false v0 v1 v2 v3 v4 v5 v6 v7 v8 v9 v10 v11)
def quilllaw17_RegionBetween.j5 : Nat → Int → ByteArray → List Int → List Int → Int → Int → Bool → List ByteArray → Int → Int → Int → Int → Int → Int → Int → List (S52) → Int → Int → List (S89) → Option (Bool)
  | 0, _, _, _, _, _, _, _, _, _, _, _, _, _, _, _, _, _, _, _ => none
  | k + 1, x3, x4, x5, x6, x7, x8, x59, v0, v1, v2, v3, v4, v5, v6, v7, v8, v9, v10, v11 => if x59 = true then (quilllaw17_RegionBetween.l3 k x3 x4 x5 x6 x7 x8 (-1) v0 v1 v2 v3 v4 v5 v6 v7 v8 v9 v10 v11) else (quilllaw17_RegionBetween.l1 k x3 x4 x5 x6 (wrap64 (x7 + 1)) v0 v1 v2 v3 v4 v5 v6 v7 v8 v9 v10 v11)
def quilllaw17_RegionBetween.l3 : Nat → Int → ByteArray → List Int → List Int → Int → Int → Int → List ByteArray → Int → Int → Int → Int → Int → Int → Int → List (S52) → Int → Int → List (S89) → Option (Bool)
  | 0, _, _, _, _, _, _, _, _, _, _, _, _, _, _, _, _, _, _, _ => none
  | k + 1, x3, x4, x5, x6, x7, x8, x9, v0, v1, v2, v3, v4, v5, v6, v7, v8, v9, v10, v11 => if x9 ≤ 3 then (if 0 ≤ x7 then (if x7 < (x6.length : Int) then (if 0 ≤ x8 then (if x8 < (x6.length : Int) then ((region_Between.f k x4 (rd x6 x7) (rd x6 x8) x9).bind fun bt360 => ((quillref1_May.f k x4).bind fun t366 => (if t366 = true then ((quillref0_Num.f (rd x6 x7) (x5.length : Int)).bind fun t368 => (if t368 = true then ((quillref0_Num.f (rd x6 x8) (x5.length : Int)).bind fun t370 => (if t370 = true then ((quillref0_Between.f x9 0 2).bind fun t371 => (quilllaw17_RegionBetween.j7 k x3 x4 x5 x6 x7 x8 x9 bt360.2.2.2 1 t371 v0 v1 v2 v3 v4 v5 v6 v7 v8 v9 v10 v11 bt360.1 bt360.2.1 bt360.2.2.1 0 0 false)) else (quilllaw17_RegionBetween.j7 k x3 x4 x5 x6 x7 x8 x9 bt360.2.2.2 1 false v0 v1 v2 v3 v4 v5 v6 v7 v8 v9 v10 v11 bt360.1 bt360.2.1 bt360.2.2.1 0 0 false))) else (quilllaw17_RegionBetween.j7 k x3 x4 x5 x6 x7 x8 x9 bt360.2.2.2 1 false v0 v1 v2 v3 v4 v5 v6 v7 v8 v9 v10 v11 bt360.1 bt360.2.1 bt360.2.2.1 0 0 false))) else (quilllaw17_RegionBetween.j7 k x3 x4 x5 x6 x7 x8 x9 bt360.2.2.2 1 false v0 v1 v2 v3 v4 v5 v6 v7 v8 v9 v10 v11 bt360.1 bt360.2.1 bt360.2.2.1 0 0 false)))) else (none)) else (none)) else (none)) else (none)) else (quilllaw17_RegionBetween.l2 k x3 x4 x5 x6 x7 (wrap64 (x8 + 1)) v0 v1 v2 v3 v4 v5 v6 v7 v8 v9 v10 v11)
def quilllaw17_RegionBetween.j7 : Nat → Int → ByteArray → List Int → List Int → Int → Int → Int → Int → Int → Bool → List ByteArray → Int → Int → Int → Int → Int → Int → Int → List (S52) → Int → Int → List (S89) → Int → Int → Bool → Int → Int → Bool → Option (Bool)
  | 0, _, _, _, _, _, _, _, _, _, _, _, _, _, _, _, _, _, _, _, _, _, _, _, _, _, _, _, _ => none
  | k + 1, x3, x4, x5, x6, x7, x8, x9, x11, x12, x104, v0, v1, v2, v3, v4, v5, v6, v7, v8, v9, v10, v11, v12, v13, v14, v15, v16, v17 => if x104 = true then (if 0 ≤ x7 then (if x7 < (x6.length : Int) then (if 0 ≤ x8 then (if x8 < (x6.length : Int) then ((quillref15_Between.f k x5 (rd x6 x7) (rd x6 x8) x9).bind fun bt374 => ((quilllaw17_num.f x11).bind fun t377 => (if t377 = 0 then (if (!(v12 == bt374.1) || (!(v13 == bt374.2.1) || (!(v14 == bt374.2.2)))) = true then (none) else (if v12 > v13 then (none) else (if v13 > (x5.length : Int) then (none) else (quilllaw17_RegionBetween.l3 k x3 x4 x5 x6 x7 x8 (wrap64 (x9 + 1)) v0 v1 v2 v3 v4 v5 v6 v7 v8 v9 v10 v11)))) else (none)))) else (none)) else (none)) else (none)) else (none)) else ((quilllaw17_num.f x11).bind fun t378 => (if t378 = x12 then (if (!(v12 == v15) || (!(v13 == v16) || (!(v14 == v17)))) = true then (none) else (if v12 > v13 then (none) else (if v13 > (x5.length : Int) then (none) else (quilllaw17_RegionBetween.l3 k x3 x4 x5 x6 x7 x8 (wrap64 (x9 + 1)) v0 v1 v2 v3 v4 v5 v6 v7 v8 v9 v10 v11)))) else (none)))
end
def quilllaw17_RegionBetween.f (k : Nat) (l0_0 : List ByteArray) (a0_1 : Int) (a0_2 : Int) (a0_3 : Int) (a0_4 : Int) (a0_5 : Int) (a0_6 : Int) (a0_7 : Int) (l0_8 : List (S52)) (a0_9 : Int) (a0_10 : Int) (l0_11 : List (S89)) : Option (Bool) := (quilllaw16_Heavy.f k l0_0 a0_1 a0_2 a0_3 a0_4 a0_5 a0_6 a0_7 l0_8 a0_9 a0_10 l0_11).bind fun t349 => (if t349 = true then (some true) else (quilllaw17_RegionBetween.l0 k 0 l0_0 a0_1 a0_2 a0_3 a0_4 a0_5 a0_6 a0_7 l0_8 a0_9 a0_10 l0_11))
theorem quilllaw17_RegionBetween.mono_l : ∀ k, (∀ y0 y1 y2 y3 y4 y5 y6 y7 y8 y9 y10 y11 y12, LeO (quilllaw17_RegionBetween.l0 k y0 y1 y2 y3 y4 y5 y6 y7 y8 y9 y10 y11 y12) (quilllaw17_RegionBetween.l0 (k + 1) y0 y1 y2 y3 y4 y5 y6 y7 y8 y9 y10 y11 y12)) ∧ (∀ y0 y1 y2 y3 y4 y5 y6 y7 y8 y9 y10 y11 y12 y13, LeO (quilllaw17_RegionBetween.j1 k y0 y1 y2 y3 y4 y5 y6 y7 y8 y9 y10 y11 y12 y13) (quilllaw17_RegionBetween.j1 (k + 1) y0 y1 y2 y3 y4 y5 y6 y7 y8 y9 y10 y11 y12 y13)) ∧ (∀ y0 y1 y2 y3 y4 y5 y6 y7 y8 y9 y10 y11 y12 y13 y14 y15 y16, LeO (quilllaw17_RegionBetween.l1 k y0 y1 y2 y3 y4 y5 y6 y7 y8 y9 y10 y11 y12 y13 y14 y15 y16) (quilllaw17_RegionBetween.l1 (k + 1) y0 y1 y2 y3 y4 y5 y6 y7 y8 y9 y10 y11 y12 y13 y14 y15 y16)) ∧ (∀ y0 y1 y2 y3 y4 y5 y6 y7 y8 y9 y10 y11 y12 y13 y14 y15 y16 y17, LeO (quilllaw17_RegionBetween.j3 k y0 y1 y2 y3 y4 y5 y6 y7 y8 y9 y10 y11 y12 y13 y14 y15 y16 y17) (quilllaw17_RegionBetween.j3 (k + 1) y0 y1 y2 y3 y4 y5 y6 y7 y8 y9 y10 y11 y12 y13 y14 y15 y16 y17)) ∧ (∀ y0 y1 y2 y3 y4 y5 y6 y7 y8 y9 y10 y11 y12 y13 y14 y15 y16 y17, LeO (quilllaw17_RegionBetween.l2 k y0 y1 y2 y3 y4 y5 y6 y7 y8 y9 y10 y11 y12 y13 y14 y15 y16 y17) (quilllaw17_RegionBetween.l2 (k + 1) y0 y1 y2 y3 y4 y5 y6 y7 y8 y9 y10 y11 y12 y13 y14 y15 y16 y17)) ∧ (∀ y0 y1 y2 y3 y4 y5 y6 y7 y8 y9 y10 y11 y12 y13 y14 y15 y16 y17 y18, LeO (quilllaw17_RegionBetween.j5 k y0 y1 y2 y3 y4 y5 y6 y7 y8 y9 y10 y11 y12 y13 y14 y15 y16 y17 y18) (quilllaw17_RegionBetween.j5 (k + 1) y0 y1 y2 y3 y4 y5 y6 y7 y8 y9 y10 y11 y12 y13 y14 y15 y16 y17 y18)) ∧ (∀ y0 y1 y2 y3 y4 y5 y6 y7 y8 y9 y10 y11 y12 y13 y14 y15 y16 y17 y18, LeO (quilllaw17_RegionBetween.l3 k y0 y1 y2 y3 y4 y5 y6 y7 y8 y9 y10 y11 y12 y13 y14 y15 y16 y17 y18) (quilllaw17_RegionBetween.l3 (k + 1) y0 y1 y2 y3 y4 y5 y6 y7 y8 y9 y10 y11 y12 y13 y14 y15 y16 y17 y18)) ∧ (∀ y0 y1 y2 y3 y4 y5 y6 y7 y8 y9 y10 y11 y12 y13 y14 y15 y16 y17 y18 y19 y20 y21 y22 y23 y24 y25 y26 y27, LeO (quilllaw17_RegionBetween.j7 k y0 y1 y2 y3 y4 y5 y6 y7 y8 y9 y10 y11 y12 y13 y14 y15 y16 y17 y18 y19 y20 y21 y22 y23 y24 y25 y26 y27) (quilllaw17_RegionBetween.j7 (k + 1) y0 y1 y2 y3 y4 y5 y6 y7 y8 y9 y10 y11 y12 y13 y14 y15 y16 y17 y18 y19 y20 y21 y22 y23 y24 y25 y26 y27))
  | 0 => ⟨fun _ _ _ _ _ _ _ _ _ _ _ _ _ r h => by simp [quilllaw17_RegionBetween.l0] at h, fun _ _ _ _ _ _ _ _ _ _ _ _ _ _ r h => by simp [quilllaw17_RegionBetween.j1] at h, fun _ _ _ _ _ _ _ _ _ _ _ _ _ _ _ _ _ r h => by simp [quilllaw17_RegionBetween.l1] at h, fun _ _ _ _ _ _ _ _ _ _ _ _ _ _ _ _ _ _ r h => by simp [quilllaw17_RegionBetween.j3] at h, fun _ _ _ _ _ _ _ _ _ _ _ _ _ _ _ _ _ _ r h => by simp [quilllaw17_RegionBetween.l2] at h, fun _ _ _ _ _ _ _ _ _ _ _ _ _ _ _ _ _ _ _ r h => by simp [quilllaw17_RegionBetween.j5] at h, fun _ _ _ _ _ _ _ _ _ _ _ _ _ _ _ _ _ _ _ r h => by simp [quilllaw17_RegionBetween.l3] at h, fun _ _ _ _ _ _ _ _ _ _ _ _ _ _ _ _ _ _ _ _ _ _ _ _ _ _ _ _ r h => by simp [quilllaw17_RegionBetween.j7] at h⟩
  | k + 1 => by
    obtain ⟨ih0, ih1, ih2, ih3, ih4, ih5, ih6, ih7⟩ := quilllaw17_RegionBetween.mono_l k
    refine ⟨?_, ?_, ?_, ?_, ?_, ?_, ?_, ?_⟩
    all_goals intros
    all_goals first | unfold quilllaw17_RegionBetween.l0 | unfold quilllaw17_RegionBetween.j1 | unfold quilllaw17_RegionBetween.l1 | unfold quilllaw17_RegionBetween.j3 | unfold quilllaw17_RegionBetween.l2 | unfold quilllaw17_RegionBetween.j5 | unfold quilllaw17_RegionBetween.l3 | unfold quilllaw17_RegionBetween.j7
    all_goals repeat' first | (with_reducible first | exact ih0 _ _ _ _ _ _ _ _ _ _ _ _ _ | exact ih1 _ _ _ _ _ _ _ _ _ _ _ _ _ _ | exact ih2 _ _ _ _ _ _ _ _ _ _ _ _ _ _ _ _ _ | exact ih3 _ _ _ _ _ _ _ _ _ _ _ _ _ _ _ _ _ _ | exact ih4 _ _ _ _ _ _ _ _ _ _ _ _ _ _ _ _ _ _ | exact ih5 _ _ _ _ _ _ _ _ _ _ _ _ _ _ _ _ _ _ _ | exact ih6 _ _ _ _ _ _ _ _ _ _ _ _ _ _ _ _ _ _ _ | exact ih7 _ _ _ _ _ _ _ _ _ _ _ _ _ _ _ _ _ _ _ _ _ _ _ _ _ _ _ _ | exact quilllaw10_Offsets.mono _ _ _ _ _ _ _ _ _ _ | exact quilllaw16_Heavy.mono _ _ _ _ _ _ _ _ _ _ _ _ _ | exact quilllaw17_wakes.mono _ | exact quillref15_Between.mono _ _ _ _ _ | exact quillref1_May.mono _ _ | exact region_Between.mono _ _ _ _ _ | exact LeO.refl _ | exact LeO.none _ | refine LeO.ite ?_ ?_ | refine LeO.bind ?_ (fun _ => ?_)) | exact ih0 _ _ _ _ _ _ _ _ _ _ _ _ _ | exact ih1 _ _ _ _ _ _ _ _ _ _ _ _ _ _ | exact ih2 _ _ _ _ _ _ _ _ _ _ _ _ _ _ _ _ _ | exact ih3 _ _ _ _ _ _ _ _ _ _ _ _ _ _ _ _ _ _ | exact ih4 _ _ _ _ _ _ _ _ _ _ _ _ _ _ _ _ _ _ | exact ih5 _ _ _ _ _ _ _ _ _ _ _ _ _ _ _ _ _ _ _ | exact ih6 _ _ _ _ _ _ _ _ _ _ _ _ _ _ _ _ _ _ _ | exact ih7 _ _ _ _ _ _ _ _ _ _ _ _ _ _ _ _ _ _ _ _ _ _ _ _ _ _ _ _ | exact quilllaw10_Offsets.mono _ _ _ _ _ _ _ _ _ _ | exact quilllaw16_Heavy.mono _ _ _ _ _ _ _ _ _ _ _ _ _ | exact quilllaw17_wakes.mono _ | exact quillref15_Between.mono _ _ _ _ _ | exact quillref1_May.mono _ _ | exact region_Between.mono _ _ _ _ _ | exact LeO.refl _ | exact LeO.none _ | refine LeO.ite ?_ ?_ | refine LeO.bind ?_ (fun _ => ?_)
theorem quilllaw17_RegionBetween.mono : ∀ a0 a1 a2 a3 a4 a5 a6 a7 a8 a9 a10 a11 k, LeO (quilllaw17_RegionBetween.f k a0 a1 a2 a3 a4 a5 a6 a7 a8 a9 a10 a11) (quilllaw17_RegionBetween.f (k + 1) a0 a1 a2 a3 a4 a5 a6 a7 a8 a9 a10 a11) := by
  intro a0 a1 a2 a3 a4 a5 a6 a7 a8 a9 a10 a11 k
  obtain ⟨ih0, ih1, ih2, ih3, ih4, ih5, ih6, ih7⟩ := quilllaw17_RegionBetween.mono_l k
  unfold quilllaw17_RegionBetween.f
  repeat' first | (with_reducible first | exact ih0 _ _ _ _ _ _ _ _ _ _ _ _ _ | exact ih1 _ _ _ _ _ _ _ _ _ _ _ _ _ _ | exact ih2 _ _ _ _ _ _ _ _ _ _ _ _ _ _ _ _ _ | exact ih3 _ _ _ _ _ _ _ _ _ _ _ _ _ _ _ _ _ _ | exact ih4 _ _ _ _ _ _ _ _ _ _ _ _ _ _ _ _ _ _ | exact ih5 _ _ _ _ _ _ _ _ _ _ _ _ _ _ _ _ _ _ _ | exact ih6 _ _ _ _ _ _ _ _ _ _ _ _ _ _ _ _ _ _ _ | exact ih7 _ _ _ _ _ _ _ _ _ _ _ _ _ _ _ _ _ _ _ _ _ _ _ _ _ _ _ _ | exact quilllaw10_Offsets.mono _ _ _ _ _ _ _ _ _ _ | exact quilllaw16_Heavy.mono _ _ _ _ _ _ _ _ _ _ _ _ _ | exact quilllaw17_wakes.mono _ | exact quillref15_Between.mono _ _ _ _ _ | exact quillref1_May.mono _ _ | exact region_Between.mono _ _ _ _ _ | exact LeO.refl _ | exact LeO.none _ | refine LeO.ite ?_ ?_ | refine LeO.bind ?_ (fun _ => ?_)) | exact ih0 _ _ _ _ _ _ _ _ _ _ _ _ _ | exact ih1 _ _ _ _ _ _ _ _ _ _ _ _ _ _ | exact ih2 _ _ _ _ _ _ _ _ _ _ _ _ _ _ _ _ _ | exact ih3 _ _ _ _ _ _ _ _ _ _ _ _ _ _ _ _ _ _ | exact ih4 _ _ _ _ _ _ _ _ _ _ _ _ _ _ _ _ _ _ | exact ih5 _ _ _ _ _ _ _ _ _ _ _ _ _ _ _ _ _ _ _ | exact ih6 _ _ _ _ _ _ _ _ _ _ _ _ _ _ _ _ _ _ _ | exact ih7 _ _ _ _ _ _ _ _ _ _ _ _ _ _ _ _ _ _ _ _ _ _ _ _ _ _ _ _ | exact quilllaw10_Offsets.mono _ _ _ _ _ _ _ _ _ _ | exact quilllaw16_Heavy.mono _ _ _ _ _ _ _ _ _ _ _ _ _ | exact quilllaw17_wakes.mono _ | exact quillref15_Between.mono _ _ _ _ _ | exact quillref1_May.mono _ _ | exact region_Between.mono _ _ _ _ _ | exact LeO.refl _ | exact LeO.none _ | refine LeO.ite ?_ ?_ | refine LeO.bind ?_ (fun _ => ?_)
def quilllaw17_RegionBetween.T18 : Bool × List (List Nat × List Nat) := (true, [([], []), ([], []), ([], []), ([1, 2], [1, 2]), ([3], [3]), ([], []), ([], []), ([5, 6], [5, 6]), ([7], [7]), ([], []), ([0, 4, 8, 9], [0, 4, 8, 9]), ([10], [10]), ([11], [11]), ([11], [11]), ([], []), ([14, 12, 10, 0, 1, 2, 3, 4, 5, 6, 7, 8, 9, 10, 11, 12, 14], [12, 14]), ([13, 15, 0, 1, 2, 3, 4, 5, 6, 7, 8, 9, 10, 11, 12, 13, 14, 15], [13])])
def quilllaw17_RegionBetween.B18 : List Nat := [0, 0, 0, 6, 14, 0, 0, 96, 224, 0, 1023, 2047, 4095, 4095, 0, 24575, 65535]
theorem quilllaw17_RegionBetween.tab18 : rtab .any (opsOf Tryd.f3 18) = quilllaw17_RegionBetween.T18 := by kernel_rfl
theorem quilllaw17_RegionBetween.bits18 : waitsOk quilllaw17_RegionBetween.T18.2 quilllaw17_RegionBetween.B18 = true := by kernel_rfl
def quilllaw17_RegionBetween.T21 : Bool × List (List Nat × List Nat) := (true, [([], []), ([], []), ([], []), ([1, 2], [1, 2]), ([3], [3]), ([], []), ([], []), ([5, 6], [5, 6]), ([7], [7]), ([], []), ([0, 4, 8, 9], [0, 4, 8, 9]), ([10], []), ([10, 11, 0, 1, 2, 3, 4, 5, 6, 7, 8, 9, 10, 11], [10])])
def quilllaw17_RegionBetween.B21 : List Nat := [0, 0, 0, 6, 14, 0, 0, 96, 224, 0, 1023, 2047, 4095]
theorem quilllaw17_RegionBetween.tab21 : rtab .any (opsOf Tryd.f3 21) = quilllaw17_RegionBetween.T21 := by kernel_rfl
theorem quilllaw17_RegionBetween.bits21 : waitsOk quilllaw17_RegionBetween.T21.2 quilllaw17_RegionBetween.B21 = true := by kernel_rfl
set_option maxHeartbeats 8000000 in
set_option maxRecDepth 100000 in
theorem quilllaw17_RegionBetween.calls (k : Nat) (A0_0 : Option Addr) (c0_0 : Nat) (l0_0 : List ByteArray) (a0_1 : Int) (a0_2 : Int) (a0_3 : Int) (a0_4 : Int) (a0_5 : Int) (a0_6 : Int) (a0_7 : Int) (A0_8 : Option Addr) (c0_8 : Nat) (l0_8 : List (S52)) (a0_9 : Int) (a0_10 : Int) (A0_11 : Option Addr) (c0_11 : Nat) (l0_11 : List (S89)) (r : Bool) (w : World) (hT : Tabs w) (hr0_0 : Kd.C Kd.string w A0_0 l0_0.length l0_0) (hc0_0 : l0_0.length ≤ c0_0) (hr0_8 : Kd.C k52 w A0_8 l0_8.length l0_8) (hc0_8 : l0_8.length ≤ c0_8) (hr0_11 : Kd.C k89 w A0_11 l0_11.length l0_11) (hc0_11 : l0_11.length ≤ c0_11) (h : quilllaw17_RegionBetween.f k l0_0 a0_1 a0_2 a0_3 a0_4 a0_5 a0_6 a0_7 l0_8 a0_9 a0_10 l0_11 = some r) :
  Calls Tryd.prog 3 #[.agg #[.slice A0_0 l0_0.length c0_0, .int .i64 a0_1, .int .i64 a0_2, .int .i64 a0_3, .int .i64 a0_4, .int .i64 a0_5, .int .i64 a0_6, .int .i64 a0_7, .slice A0_8 l0_8.length c0_8, .int .i64 a0_9, .int .i64 a0_10, .slice A0_11 l0_11.length c0_11]] w fun e w' => e = .returned (.bool r) ∧ Below w.heap.size w w' := by
 have hu34 := Tryd.underlying34
 have hu28 := Tryd.underlying28
 have hu40 := Tryd.underlying40
 have HT := Aside0.mk hT
 clear hT
 have HR0_0 := Aside0.mk hr0_0
 have HC0_0 := Aside0.mk hc0_0
 clear hr0_0 hc0_0
 have HR0_8 := Aside0.mk hr0_8
 have HC0_8 := Aside0.mk hc0_8
 clear hr0_8 hc0_8
 have HR0_11 := Aside0.mk hr0_11
 have HC0_11 := Aside0.mk hc0_11
 clear hr0_11 hc0_11
 have HB := Aside0.mk (Below.refl w.heap.size w)
 have H : ((quilllaw16_Heavy.f k l0_0 a0_1 a0_2 a0_3 a0_4 a0_5 a0_6 a0_7 l0_8 a0_9 a0_10 l0_11).bind fun t349 => (if t349 = true then (some true) else (quilllaw17_RegionBetween.l0 k 0 l0_0 a0_1 a0_2 a0_3 a0_4 a0_5 a0_6 a0_7 l0_8 a0_9 a0_10 l0_11))) = some r := h
 clear h
 replace H := Option.bind_eq_some_iff.mp H
 obtain ⟨t349, A20, H⟩ := H
 (try dsimp only at H)
 have A2 := Aside0.mk A20
 clear A20
 by_cases c3 : t349 = true
 ·
  subst c3
  have H1 : (some true) = some r := by rw [if_pos rfl] at H; exact H
  clear H
  have H := H1
  clear H1
  obtain rfl := Option.some.inj H
  go_enter Tryd.func3, Tryd.ntmps3
  go_wp2_with (first | ((with_reducible refine gate_dst (N := 1) rfl ?_); (try (refine gate_guard (by rfl) ?_; dsimp only)); refine box_event ?hg (N := 1) ?hd (cs := #[.slice A0_0 l0_0.length c0_0, .int .i64 a0_1, .int .i64 a0_2, .int .i64 a0_3, .int .i64 a0_4, .int .i64 a0_5, .int .i64 a0_6, .int .i64 a0_7, .slice A0_8 l0_8.length c0_8, .int .i64 a0_9, .int .i64 a0_10, .slice A0_11 l0_11.length c0_11]) (t := 34) ?hr ?_; (case hd => rfl); (case hg => rfl); (case hr => first | (go_simp; done) | (go_simp; rfl)); intro gb348 hg w4 hbox hb; have n0_ := Aside0.mk (below_step (by repeat with_reducible first | exact HB.out | apply pw_below_drewN | apply below_drew1 | apply below_alloc) hb); have n1_ := Aside0.mk (hbox); have n2_ := Aside0.mk (geb hg (by repeat with_reducible first | exact HB.out | apply pw_below_drewN | apply below_drew1 | apply below_alloc)); have n3_ := n2_; clear HB; have HB := n0_; have BK348 := n1_; have GW348 := n2_; have GE348 := n3_; clear n0_ n1_ n2_ n3_; clear hb hbox hg; have hcz5_0 := cz0 BK348.out; have hcz5_1 := cz1 BK348.out; have hcz5_2 := cz2 BK348.out; have hcz5_3 := cz3 BK348.out; have hcz5_4 := cz4 BK348.out; have hcz5_5 := cz5 BK348.out; have hcz5_6 := cz6 BK348.out; have hcz5_7 := cz7 BK348.out; have hcz5_8 := cz8 BK348.out; have hcz5_9 := cz9 BK348.out; have hcz5_10 := cz10 BK348.out; have hcz5_11 := cz11 BK348.out; have hfz5_0 := blk_frozen BK348.out 0; have hfz5_1 := blk_frozen BK348.out 1; have hfz5_2 := blk_frozen BK348.out 2; have hfz5_3 := blk_frozen BK348.out 3; have hfz5_4 := blk_frozen BK348.out 4; have hfz5_5 := blk_frozen BK348.out 5; have hfz5_6 := blk_frozen BK348.out 6; have hfz5_7 := blk_frozen BK348.out 7; have hfz5_8 := blk_frozen BK348.out 8; have hfz5_9 := blk_frozen BK348.out 9; have hfz5_10 := blk_frozen BK348.out 10; have hfz5_11 := blk_frozen BK348.out 11) | ((with_reducible refine gate_callee (f := 7) rfl ?_); refine goesL_ (some 15) rfl rfl Tryd.func7 (by kernel_rfl) rfl #[.agg #[.slice A0_0 l0_0.length c0_0, .int .i64 a0_1, .int .i64 a0_2, .int .i64 a0_3, .int .i64 a0_4, .int .i64 a0_5, .int .i64 a0_6, .int .i64 a0_7, .slice A0_8 l0_8.length c0_8, .int .i64 a0_9, .int .i64 a0_10, .slice A0_11 l0_11.length c0_11]] rfl (map1 rfl) ?_; (with_reducible refine (quilllaw16_Heavy.calls k _ _ l0_0 a0_1 a0_2 a0_3 a0_4 a0_5 a0_6 a0_7 _ _ l0_8 a0_9 a0_10 _ _ l0_11 true _ ?side1 ?side2 ?side3 ?side4 ?side5 ?side6 A2.out).mono ?_); (case side1 => repeat (first | exact (Kd.C_below HR0_0.out HB.out) | with_reducible first | refine Kd.C_drewN ?_ _ | refine Kd.C_drew ?_ | refine Kd.C_alloc ?_ _)); (case side2 => exact HC0_0.out); (case side3 => repeat (first | exact (Kd.C_below HR0_8.out HB.out) | with_reducible first | refine Kd.C_drewN ?_ _ | refine Kd.C_drew ?_ | refine Kd.C_alloc ?_ _)); (case side4 => exact HC0_8.out); (case side5 => repeat (first | exact (Kd.C_below HR0_11.out HB.out) | with_reducible first | refine Kd.C_drewN ?_ _ | refine Kd.C_drew ?_ | refine Kd.C_alloc ?_ _)); (case side6 => exact HC0_11.out); rintro e w6 ⟨rfl, hb⟩; refine ⟨_, rfl, ?_⟩; have n0_ := Aside0.mk (blb hb BK348.out); have n1_ := Aside0.mk (below_step (by repeat with_reducible first | exact HB.out | apply pw_below_drewN | refine below_set ?_ GE348.out | apply below_drew1 | apply below_alloc) hb); clear BK348; clear HB; have BK348 := n0_; have HB := n1_; clear n0_ n1_; (try clear hb); (try clear hb2); (try clear hk); (try clear hi)))
  go_ret
  exact ⟨by first | rfl | (simp [errW_none, errW_some] <;> rfl) | (simp [*, errW_none, errW_some] <;> rfl), by repeat with_reducible first | exact HB.out | apply pw_below_drewN | refine below_set ?_ GE348.out | apply below_drew1 | apply below_alloc⟩
 replace c3 := Bool.eq_false_iff.mpr c3
 subst c3
 have H1 : (quilllaw17_RegionBetween.l0 k 0 l0_0 a0_1 a0_2 a0_3 a0_4 a0_5 a0_6 a0_7 l0_8 a0_9 a0_10 l0_11) = some r := by rw [if_neg (show ¬ (false = true) by decide)] at H; exact H
 clear H
 have H := H1
 clear H1
 have H' := Aside0.mk H
 clear H
 go_enter Tryd.func3, Tryd.ntmps3
 go_wp2_with (first | ((with_reducible refine gate_dst (N := 1) rfl ?_); (try (refine gate_guard (by rfl) ?_; dsimp only)); refine box_event ?hg (N := 1) ?hd (cs := #[.slice A0_0 l0_0.length c0_0, .int .i64 a0_1, .int .i64 a0_2, .int .i64 a0_3, .int .i64 a0_4, .int .i64 a0_5, .int .i64 a0_6, .int .i64 a0_7, .slice A0_8 l0_8.length c0_8, .int .i64 a0_9, .int .i64 a0_10, .slice A0_11 l0_11.length c0_11]) (t := 34) ?hr ?_; (case hd => rfl); (case hg => rfl); (case hr => first | (go_simp; done) | (go_simp; rfl)); intro gb348 hg w7 hbox hb; have n0_ := Aside0.mk (below_step (by repeat with_reducible first | exact HB.out | apply pw_below_drewN | apply below_drew1 | apply below_alloc) hb); have n1_ := Aside0.mk (hbox); have n2_ := Aside0.mk (geb hg (by repeat with_reducible first | exact HB.out | apply pw_below_drewN | apply below_drew1 | apply below_alloc)); have n3_ := n2_; clear HB; have HB := n0_; have BK348 := n1_; have GW348 := n2_; have GE348 := n3_; clear n0_ n1_ n2_ n3_; clear hb hbox hg; have hcz8_0 := cz0 BK348.out; have hcz8_1 := cz1 BK348.out; have hcz8_2 := cz2 BK348.out; have hcz8_3 := cz3 BK348.out; have hcz8_4 := cz4 BK348.out; have hcz8_5 := cz5 BK348.out; have hcz8_6 := cz6 BK348.out; have hcz8_7 := cz7 BK348.out; have hcz8_8 := cz8 BK348.out; have hcz8_9 := cz9 BK348.out; have hcz8_10 := cz10 BK348.out; have hcz8_11 := cz11 BK348.out; have hfz8_0 := blk_frozen BK348.out 0; have hfz8_1 := blk_frozen BK348.out 1; have hfz8_2 := blk_frozen BK348.out 2; have hfz8_3 := blk_frozen BK348.out 3; have hfz8_4 := blk_frozen BK348.out 4; have hfz8_5 := blk_frozen BK348.out 5; have hfz8_6 := blk_frozen BK348.out 6; have hfz8_7 := blk_frozen BK348.out 7; have hfz8_8 := blk_frozen BK348.out 8; have hfz8_9 := blk_frozen BK348.out 9; have hfz8_10 := blk_frozen BK348.out 10; have hfz8_11 := blk_frozen BK348.out 11) | ((with_reducible refine gate_callee (f := 7) rfl ?_); refine goesL_ (some 15) rfl rfl Tryd.func7 (by kernel_rfl) rfl #[.agg #[.slice A0_0 l0_0.length c0_0, .int .i64 a0_1, .int .i64 a0_2, .int .i64 a0_3, .int .i64 a0_4, .int .i64 a0_5, .int .i64 a0_6, .int .i64 a0_7, .slice A0_8 l0_8.length c0_8, .int .i64 a0_9, .int .i64 a0_10, .slice A0_11 l0_11.length c0_11]] rfl (map1 rfl) ?_; (with_reducible refine (quilllaw16_Heavy.calls k _ _ l0_0 a0_1 a0_2 a0_3 a0_4 a0_5 a0_6 a0_7 _ _ l0_8 a0_9 a0_10 _ _ l0_11 false _ ?side1 ?side2 ?side3 ?side4 ?side5 ?side6 A2.out).mono ?_); (case side1 => repeat (first | exact (Kd.C_below HR0_0.out HB.out) | with_reducible first | refine Kd.C_drewN ?_ _ | refine Kd.C_drew ?_ | refine Kd.C_alloc ?_ _)); (case side2 => exact HC0_0.out); (case side3 => repeat (first | exact (Kd.C_below HR0_8.out HB.out) | with_reducible first | refine Kd.C_drewN ?_ _ | refine Kd.C_drew ?_ | refine Kd.C_alloc ?_ _)); (case side4 => exact HC0_8.out); (case side5 => repeat (first | exact (Kd.C_below HR0_11.out HB.out) | with_reducible first | refine Kd.C_drewN ?_ _ | refine Kd.C_drew ?_ | refine Kd.C_alloc ?_ _)); (case side6 => exact HC0_11.out); rintro e w9 ⟨rfl, hb⟩; refine ⟨_, rfl, ?_⟩; have n0_ := Aside0.mk (blb hb BK348.out); have n1_ := Aside0.mk (below_step (by repeat with_reducible first | exact HB.out | apply pw_below_drewN | refine below_set ?_ GE348.out | apply below_drew1 | apply below_alloc) hb); clear BK348; clear HB; have BK348 := n0_; have HB := n1_; clear n0_ n1_; (try clear hb); (try clear hb2); (try clear hk); (try clear hi)))
 go_loopg [3] k (fun kq v3 w' => ∃ (x3_1 : Int), v3 = .int .i64 x3_1 ∧ Aside0 (quilllaw17_RegionBetween.l0 kq x3_1 l0_0 a0_1 a0_2 a0_3 a0_4 a0_5 a0_6 a0_7 l0_8 a0_9 a0_10 l0_11 = some r) ∧ Aside0 (kq ≤ k) ∧ Aside0 (w'.heap[gb348]? = some (.cells #[(.slice A0_0 l0_0.length c0_0), .int .i64 a0_1, .int .i64 a0_2, .int .i64 a0_3, .int .i64 a0_4, .int .i64 a0_5, .int .i64 a0_6, .int .i64 a0_7, (.slice A0_8 l0_8.length c0_8), .int .i64 a0_9, .int .i64 a0_10, (.slice A0_11 l0_11.length c0_11)] 34 (0, 0))) ∧ Aside0 (Below w.heap.size w w'))
 case atStart => exact ⟨(0), (by first | rfl | (simp; done) | (simp [*]; done)), H', ⟨Nat.le_refl _⟩, ⟨BK348.out⟩, ⟨by repeat with_reducible first | exact HB.out | apply pw_below_drewN | refine below_set ?_ GE348.out | apply below_drew1 | apply below_alloc⟩⟩
 case round =>
  clear H'
  try clear c3
  try clear hcz8_0
  try clear hcz8_1
  try clear hcz8_10
  try clear hcz8_11
  try clear hcz8_2
  try clear hcz8_3
  try clear hcz8_4
  try clear hcz8_5
  try clear hcz8_6
  try clear hcz8_7
  try clear hcz8_8
  try clear hcz8_9
  try clear hfz8_0
  try clear hfz8_1
  try clear hfz8_10
  try clear hfz8_11
  try clear hfz8_2
  try clear hfz8_3
  try clear hfz8_4
  try clear hfz8_5
  try clear hfz8_6
  try clear hfz8_7
  try clear hfz8_8
  try clear hfz8_9
  obtain ⟨x3_1, rfl, HA, HK1, BK348, HB⟩ := hrel
  cases gk with
  | zero => exact absurd HA.out (by simp [quilllaw17_RegionBetween.l0])
  | succ k1 =>
   have H := HA.out
   clear HA
   simp only [quilllaw17_RegionBetween.l0] at H
   have HC10 := Aside0.mk H
   clear H
   go_upto_region 4 with (fail)
   go_cut [26] (fun v26 wc => ∃ (kq : Nat) (x26_9 : Bool), v26 = .bool x26_9 ∧ Aside0 (quilllaw17_RegionBetween.j1 kq x3_1 x26_9 l0_0 a0_1 a0_2 a0_3 a0_4 a0_5 a0_6 a0_7 l0_8 a0_9 a0_10 l0_11 = some r) ∧ Aside0 (kq ≤ k1) ∧ Aside0 (wc.heap[gb348]? = some (.cells #[(.slice A0_0 l0_0.length c0_0), .int .i64 a0_1, .int .i64 a0_2, .int .i64 a0_3, .int .i64 a0_4, .int .i64 a0_5, .int .i64 a0_6, .int .i64 a0_7, (.slice A0_8 l0_8.length c0_8), .int .i64 a0_9, .int .i64 a0_10, (.slice A0_11 l0_11.length c0_11)] 34 (0, 0))) ∧ Aside0 (Below w.heap.size w wc))
   case first =>
    have H := HC10.out
    clear HC10
    by_cases c11 : x3_1 < (l0_0.length : Int)
    rotate_left
    ·
     rw [if_neg c11] at H
     have c11b0 := decide_eq_false c11
     clear c11
     (first | rw [c11b0] | (simp only [i64_w, i32_w]; rw [c11b0]) | skip)
     have H' := Aside0.mk H
     clear H
     have hcz13_0 := cz0 BK348.out
     have hcz13_1 := cz1 BK348.out
     have hcz13_2 := cz2 BK348.out
     have hcz13_3 := cz3 BK348.out
     have hcz13_4 := cz4 BK348.out
     have hcz13_5 := cz5 BK348.out
     have hcz13_6 := cz6 BK348.out
     have hcz13_7 := cz7 BK348.out
     have hcz13_8 := cz8 BK348.out
     have hcz13_9 := cz9 BK348.out
     have hcz13_10 := cz10 BK348.out
     have hcz13_11 := cz11 BK348.out
     have hfz13_0 := blk_frozen BK348.out 0
     have hfz13_1 := blk_frozen BK348.out 1
     have hfz13_2 := blk_frozen BK348.out 2
     have hfz13_3 := blk_frozen BK348.out 3
     have hfz13_4 := blk_frozen BK348.out 4
     have hfz13_5 := blk_frozen BK348.out 5
     have hfz13_6 := blk_frozen BK348.out 6
     have hfz13_7 := blk_frozen BK348.out 7
     have hfz13_8 := blk_frozen BK348.out 8
     have hfz13_9 := blk_frozen BK348.out 9
     have hfz13_10 := blk_frozen BK348.out 10
     have hfz13_11 := blk_frozen BK348.out 11
     go_wp2
     go_meet
     case rel => exact ⟨_, (false), (by first | rfl | (simp; done) | (simp [*]; done)), H', ⟨by have := HK1.out; first | omega | exact Nat.le_refl _⟩, ⟨BK348.out⟩, ⟨by repeat with_reducible first | exact HB.out | apply pw_below_drewN | refine below_set ?_ GE348.out | apply below_drew1 | apply below_alloc⟩⟩
    rw [if_pos c11] at H
    have c11b0 := decide_eq_true c11
    clear c11
    (first | rw [c11b0] | (simp only [i64_w, i32_w]; rw [c11b0]) | skip)
    have H' := Aside0.mk H
    clear H
    have hcz12_0 := cz0 BK348.out
    have hcz12_1 := cz1 BK348.out
    have hcz12_2 := cz2 BK348.out
    have hcz12_3 := cz3 BK348.out
    have hcz12_4 := cz4 BK348.out
    have hcz12_5 := cz5 BK348.out
    have hcz12_6 := cz6 BK348.out
    have hcz12_7 := cz7 BK348.out
    have hcz12_8 := cz8 BK348.out
    have hcz12_9 := cz9 BK348.out
    have hcz12_10 := cz10 BK348.out
    have hcz12_11 := cz11 BK348.out
    have hfz12_0 := blk_frozen BK348.out 0
    have hfz12_1 := blk_frozen BK348.out 1
    have hfz12_2 := blk_frozen BK348.out 2
    have hfz12_3 := blk_frozen BK348.out 3
    have hfz12_4 := blk_frozen BK348.out 4
    have hfz12_5 := blk_frozen BK348.out 5
    have hfz12_6 := blk_frozen BK348.out 6
    have hfz12_7 := blk_frozen BK348.out 7
    have hfz12_8 := blk_frozen BK348.out 8
    have hfz12_9 := blk_frozen BK348.out 9
    have hfz12_10 := blk_frozen BK348.out 10
    have hfz12_11 := blk_frozen BK348.out 11
    go_wp2
    go_meet
    case rel => exact ⟨_, (decide (x3_1 < 3)), (by first | rfl | (simp; done) | (simp [*]; done)), H', ⟨by have := HK1.out; first | omega | exact Nat.le_refl _⟩, ⟨BK348.out⟩, ⟨by repeat with_reducible first | exact HB.out | apply pw_below_drewN | refine below_set ?_ GE348.out | apply below_drew1 | apply below_alloc⟩⟩
   case rest =>
    clear HC10
    try clear c3
    try clear hcz8_0
    try clear hcz8_1
    try clear hcz8_10
    try clear hcz8_11
    try clear hcz8_2
    try clear hcz8_3
    try clear hcz8_4
    try clear hcz8_5
    try clear hcz8_6
    try clear hcz8_7
    try clear hcz8_8
    try clear hcz8_9
    try clear hfz8_0
    try clear hfz8_1
    try clear hfz8_10
    try clear hfz8_11
    try clear hfz8_2
    try clear hfz8_3
    try clear hfz8_4
    try clear hfz8_5
    try clear hfz8_6
    try clear hfz8_7
    try clear hfz8_8
    try clear hfz8_9
    obtain ⟨kq, x26_9, rfl, HA, HJ9, BK348, HB⟩ := hcut
    cases kq with
    | zero => exact absurd HA.out (by simp [quilllaw17_RegionBetween.j1])
    | succ kj9 =>
     have H := HA.out
     clear HA
     simp only [quilllaw17_RegionBetween.j1] at H
     by_cases c14 : x26_9 = true
     rotate_left
     ·
      replace c14 := Bool.eq_false_iff.mpr c14
      subst c14
      have H1 : ((quilllaw17_wakes.f kj9).bind fun t350 => (some t350)) = some r := by rw [if_neg (show ¬ (false = true) by decide)] at H; exact H
      clear H
      have H := H1
      clear H1
      replace H := Option.bind_eq_some_iff.mp H
      obtain ⟨t350, A960, H⟩ := H
      (try dsimp only at H)
      have A96 := Aside0.mk A960
      clear A960
      obtain rfl := Option.some.inj H
      go_wp2_with (first | ((with_reducible refine gate_callee (f := 15) rfl ?_); refine goesL_ (some 139) rfl rfl Tryd.func15 (by kernel_rfl) rfl #[] rfl (map0) ?_; (with_reducible refine (quilllaw17_wakes.calls kj9  t350 _ ?side1 A96.out).mono ?_); (case side1 => exact Tabs.below HT.out (by repeat with_reducible first | exact HB.out | apply pw_below_drewN | refine below_set ?_ GE348.out | apply below_drew1 | apply below_alloc)); rintro e w97 ⟨rfl, hb⟩; refine ⟨_, rfl, ?_⟩; have n0_ := Aside0.mk (blb hb BK348.out); have n1_ := Aside0.mk (below_step (by repeat with_reducible first | exact HB.out | apply pw_below_drewN | refine below_set ?_ GE348.out | apply below_drew1 | apply below_alloc) hb); clear BK348; clear HB; have BK348 := n0_; have HB := n1_; clear n0_ n1_; (try clear hb); (try clear hb2); (try clear hk); (try clear hi)))
      go_ret
      exact ⟨by first | rfl | (simp [errW_none, errW_some] <;> rfl) | (simp [*, errW_none, errW_some] <;> rfl), by repeat with_reducible first | exact HB.out | apply pw_below_drewN | refine below_set ?_ GE348.out | apply below_drew1 | apply below_alloc⟩
     subst c14
     have H1 : (if 0 ≤ x3_1 then (if x3_1 < (l0_0.length : Int) then (if (rdOf ByteArray.empty l0_0 x3_1).size ≤ 70368744177664 then ((some (runesOf (rdOf ByteArray.empty l0_0 x3_1) : List Int)).bind fun y352 => ((quilllaw10_Offsets.f kj9 l0_0 a0_1 a0_2 a0_3 a0_4 a0_5 a0_6 a0_7 y352).bind fun t355 => (quilllaw17_RegionBetween.l1 kj9 x3_1 (rdOf ByteArray.empty l0_0 x3_1) y352 t355 0 l0_0 a0_1 a0_2 a0_3 a0_4 a0_5 a0_6 a0_7 l0_8 a0_9 a0_10 l0_11))) else (none)) else (none)) else (none)) = some r := by rw [if_pos rfl] at H; exact H
     clear H
     have H := H1
     clear H1
     by_cases c15 : 0 ≤ x3_1
     rotate_left
     ·
      rw [if_neg c15] at H
      exact absurd H (by simp)
     rw [if_pos c15] at H
     have c15b0 := decide_eq_true c15
     clear c15
     by_cases c16 : x3_1 < (l0_0.length : Int)
     rotate_left
     ·
      rw [if_neg c16] at H
      exact absurd H (by simp)
     rw [if_pos c16] at H
     have c16b0 := decide_eq_true c16
     clear c16
     by_cases c17 : (rdOf ByteArray.empty l0_0 x3_1).size ≤ 70368744177664
     rotate_left
     ·
      rw [if_neg c17] at H
      exact absurd H (by simp)
     rw [if_pos c17] at H
     have c17b0 := eq_true c17
     have c17b1 := decide_eq_true c17
     clear c17
     obtain ⟨y352, hy352⟩ : ∃ y_ : List Int, y_ = (runesOf (rdOf ByteArray.empty l0_0 x3_1)) := ⟨_, rfl⟩
     replace H : ((quilllaw10_Offsets.f kj9 l0_0 a0_1 a0_2 a0_3 a0_4 a0_5 a0_6 a0_7 y352).bind fun t355 => (quilllaw17_RegionBetween.l1 kj9 x3_1 (rdOf ByteArray.empty l0_0 x3_1) y352 t355 0 l0_0 a0_1 a0_2 a0_3 a0_4 a0_5 a0_6 a0_7 l0_8 a0_9 a0_10 l0_11)) = some r := by first | (rw [hy352]; with_reducible exact H) | (have H2_ := (Option.bind_some _ _).symm.trans H; rw [hy352]; with_reducible exact H2_) | (have H2_ := (Option.bind_some _ _).symm.trans H; with_reducible exact H2_) | with_reducible exact H | (rw [hy352]; exact H) | exact H
     have Ny352 := Aside0.mk hy352
     clear hy352
     replace H := Option.bind_eq_some_iff.mp H
     obtain ⟨t355, A180, H⟩ := H
     (try dsimp only at H)
     have A18 := Aside0.mk A180
     clear A180
     have H' := Aside0.mk H
     clear H
     have hcz19_0 := cz0 BK348.out
     have hcz19_1 := cz1 BK348.out
     have hcz19_2 := cz2 BK348.out
     have hcz19_3 := cz3 BK348.out
     have hcz19_4 := cz4 BK348.out
     have hcz19_5 := cz5 BK348.out
     have hcz19_6 := cz6 BK348.out
     have hcz19_7 := cz7 BK348.out
     have hcz19_8 := cz8 BK348.out
     have hcz19_9 := cz9 BK348.out
     have hcz19_10 := cz10 BK348.out
     have hcz19_11 := cz11 BK348.out
     have hfz19_0 := blk_frozen BK348.out 0
     have hfz19_1 := blk_frozen BK348.out 1
     have hfz19_2 := blk_frozen BK348.out 2
     have hfz19_3 := blk_frozen BK348.out 3
     have hfz19_4 := blk_frozen BK348.out 4
     have hfz19_5 := blk_frozen BK348.out 5
     have hfz19_6 := blk_frozen BK348.out 6
     have hfz19_7 := blk_frozen BK348.out 7
     have hfz19_8 := blk_frozen BK348.out 8
     have hfz19_9 := blk_frozen BK348.out 9
     have hfz19_10 := blk_frozen BK348.out 10
     have hfz19_11 := blk_frozen BK348.out 11
     have p351 : 0 ≤ (x3_1 : Int) := of_decide_eq_true (by assumption)
     have q351 : x3_1 < (l0_0.length : Int) := of_decide_eq_true (by assumption)
     obtain ⟨ad351, e351, hx351_0⟩ := Kd.at_string HR0_0.out x3_1 p351 q351
     cases e351
     replace hx351_0 := (HB.out.cell (World.block_lt_of_cell? w _ hx351_0)).trans hx351_0
     replace p351 := eq_true p351
     replace q351 := eq_true q351
     go_wp2_with (first | ((with_reducible refine gate_dst (N := 37) rfl ?_); (try (refine gate_guard (by rfl) ?_; dsimp only)); refine R_runes (ok := fun _ => True) _ 21 rfl (N := 37) rfl 9 36 (.tmp 36) rfl (rdOf ByteArray.empty l0_0 x3_1) rfl Tryd.underlying9 Tryd.underlying36 Tryd.underlying21 (of_decide_eq_true (by assumption)) (fun _ _ => trivial) (Below.refl _ _) (Nat.le_refl _) ?_; intro v353 w20 ho21 hb hg_ hnew_; clear hg_ hnew_; (first | rw [← Ny352.out] at ho21 | (simp only [Int.reduceToNat] at ho21; rw [← Ny352.out] at ho21)); have n0_ := Aside0.mk (Kd.R_lower ho21 (below_size (by repeat with_reducible first | exact HB.out | apply pw_below_drewN | refine below_set ?_ GE348.out | apply below_drew1 | apply below_alloc))); have n1_ := Aside0.mk (blb hb BK348.out); have n2_ := Aside0.mk (below_step (by repeat with_reducible first | exact HB.out | apply pw_below_drewN | refine below_set ?_ GE348.out | apply below_drew1 | apply below_alloc) hb); clear BK348; clear HB; have HO354 := n0_; have BK348 := n1_; have HB := n2_; clear n0_ n1_ n2_; clear hb ho21; have hcz22_0 := cz0 BK348.out; have hcz22_1 := cz1 BK348.out; have hcz22_2 := cz2 BK348.out; have hcz22_3 := cz3 BK348.out; have hcz22_4 := cz4 BK348.out; have hcz22_5 := cz5 BK348.out; have hcz22_6 := cz6 BK348.out; have hcz22_7 := cz7 BK348.out; have hcz22_8 := cz8 BK348.out; have hcz22_9 := cz9 BK348.out; have hcz22_10 := cz10 BK348.out; have hcz22_11 := cz11 BK348.out; have hfz22_0 := blk_frozen BK348.out 0; have hfz22_1 := blk_frozen BK348.out 1; have hfz22_2 := blk_frozen BK348.out 2; have hfz22_3 := blk_frozen BK348.out 3; have hfz22_4 := blk_frozen BK348.out 4; have hfz22_5 := blk_frozen BK348.out 5; have hfz22_6 := blk_frozen BK348.out 6; have hfz22_7 := blk_frozen BK348.out 7; have hfz22_8 := blk_frozen BK348.out 8; have hfz22_9 := blk_frozen BK348.out 9; have hfz22_10 := blk_frozen BK348.out 10; have hfz22_11 := blk_frozen BK348.out 11; obtain ⟨Ao23, co23, eo23⟩ := Kd.R_slice HO354.out; subst eo23) | ((with_reducible refine gate_callee (f := 8) rfl ?_); refine goesL_ (some 41) rfl rfl Tryd.func8 (by kernel_rfl) rfl #[.agg #[.slice (some ad351) l0_0.length c0_0, .int .i64 a0_1, .int .i64 a0_2, .int .i64 a0_3, .int .i64 a0_4, .int .i64 a0_5, .int .i64 a0_6, .int .i64 a0_7], .slice Ao23 y352.length co23] rfl (map2 rfl rfl) ?_; (with_reducible refine (quilllaw10_Offsets.calls kj9 _ _ l0_0 a0_1 a0_2 a0_3 a0_4 a0_5 a0_6 a0_7 _ _ y352 t355 _ ?side1 ?side2 ?side3 ?side4 A18.out).mono ?_); (case side1 => repeat (first | exact (Kd.C_below HR0_0.out HB.out) | with_reducible first | refine Kd.C_drewN ?_ _ | refine Kd.C_drew ?_ | refine Kd.C_alloc ?_ _)); (case side2 => exact HC0_0.out); (case side3 => repeat (first | exact (Kd.R_reads' HO354.out).2.2 | with_reducible first | refine Kd.C_drewN ?_ _ | refine Kd.C_drew ?_ | refine Kd.C_alloc ?_ _)); (case side4 => exact (Kd.R_reads' HO354.out).2.1); rintro e w24 ⟨v356, rfl, ho0, hb⟩; refine ⟨_, rfl, ?_⟩; have n0_ := Aside0.mk (Kd.R_below (by (with_reducible repeat (first | apply Kd.R_alloc | apply Kd.R_drewN | apply Kd.R_drew)); exact HO354.out) hb); have n1_ := Aside0.mk (Kd.R_lower ho0 (below_size (by repeat with_reducible first | exact HB.out | apply pw_below_drewN | refine below_set ?_ GE348.out | apply below_drew1 | apply below_alloc))); have n2_ := Aside0.mk (blb hb BK348.out); have n3_ := Aside0.mk (below_step (by repeat with_reducible first | exact HB.out | apply pw_below_drewN | refine below_set ?_ GE348.out | apply below_drew1 | apply below_alloc) hb); clear HO354; clear BK348; clear HB; have HO354 := n0_; have HO357 := n1_; have BK348 := n2_; have HB := n3_; clear n0_ n1_ n2_ n3_; (try clear hb); (try clear hb2); (try clear hk); (try clear hi); (try clear ho0)))
     go_loopg [7] kj9 (fun kq v7 w' => ∃ (x7_3 : Int), v7 = .int .i64 x7_3 ∧ Aside0 (quilllaw17_RegionBetween.l1 kq x3_1 (rdOf ByteArray.empty l0_0 x3_1) y352 t355 x7_3 l0_0 a0_1 a0_2 a0_3 a0_4 a0_5 a0_6 a0_7 l0_8 a0_9 a0_10 l0_11 = some r) ∧ Aside0 (kq ≤ kj9) ∧ Aside0 (Kd.R (Kd.int .i32) 21 w' w.heap.size (fun _ => True) (.slice Ao23 y352.length co23) y352) ∧ Aside0 (Kd.R (Kd.int .i64) 3 w' w.heap.size (fun _ => True) v356 t355) ∧ Aside0 (w'.heap[gb348]? = some (.cells #[(.slice (some ad351) l0_0.length c0_0), .int .i64 a0_1, .int .i64 a0_2, .int .i64 a0_3, .int .i64 a0_4, .int .i64 a0_5, .int .i64 a0_6, .int .i64 a0_7, (.slice A0_8 l0_8.length c0_8), .int .i64 a0_9, .int .i64 a0_10, (.slice A0_11 l0_11.length c0_11)] 34 (0, 0))) ∧ Aside0 (Below w.heap.size w w'))
     case atStart => exact ⟨(0), (by first | rfl | (simp; done) | (simp [*]; done)), H', ⟨Nat.le_refl _⟩, ⟨by (with_reducible repeat (first | apply Kd.R_alloc | apply Kd.R_drewN | apply Kd.R_drew)); exact HO354.out⟩, ⟨by (with_reducible repeat (first | apply Kd.R_alloc | apply Kd.R_drewN | apply Kd.R_drew)); exact HO357.out⟩, ⟨BK348.out⟩, ⟨by repeat with_reducible first | exact HB.out | apply pw_below_drewN | refine below_set ?_ GE348.out | apply below_drew1 | apply below_alloc⟩⟩
     case round =>
      clear H'
      try clear c3
      try clear c14
      try clear c15
      try clear c15b0
      try clear c16
      try clear c16b0
      try clear c17
      try clear c17b0
      try clear c17b1
      try clear hcz19_0
      try clear hcz19_1
      try clear hcz19_10
      try clear hcz19_11
      try clear hcz19_2
      try clear hcz19_3
      try clear hcz19_4
      try clear hcz19_5
      try clear hcz19_6
      try clear hcz19_7
      try clear hcz19_8
      try clear hcz19_9
      try clear hcz22_0
      try clear hcz22_1
      try clear hcz22_10
      try clear hcz22_11
      try clear hcz22_2
      try clear hcz22_3
      try clear hcz22_4
      try clear hcz22_5
      try clear hcz22_6
      try clear hcz22_7
      try clear hcz22_8
      try clear hcz22_9
      try clear hcz8_0
      try clear hcz8_1
      try clear hcz8_10
      try clear hcz8_11
      try clear hcz8_2
      try clear hcz8_3
      try clear hcz8_4
      try clear hcz8_5
      try clear hcz8_6
      try clear hcz8_7
      try clear hcz8_8
      try clear hcz8_9
      try clear hfz19_0
      try clear hfz19_1
      try clear hfz19_10
      try clear hfz19_11
      try clear hfz19_2
      try clear hfz19_3
      try clear hfz19_4
      try clear hfz19_5
      try clear hfz19_6
      try clear hfz19_7
      try clear hfz19_8
      try clear hfz19_9
      try clear hfz22_0
      try clear hfz22_1
      try clear hfz22_10
      try clear hfz22_11
      try clear hfz22_2
      try clear hfz22_3
      try clear hfz22_4
      try clear hfz22_5
      try clear hfz22_6
      try clear hfz22_7
      try clear hfz22_8
      try clear hfz22_9
      try clear hfz8_0
      try clear hfz8_1
      try clear hfz8_10
      try clear hfz8_11
      try clear hfz8_2
      try clear hfz8_3
      try clear hfz8_4
      try clear hfz8_5
      try clear hfz8_6
      try clear hfz8_7
      try clear hfz8_8
      try clear hfz8_9
      try clear hx351_0
      try clear p351
      try clear q351
      obtain ⟨x7_3, rfl, HA, HK3, HO_5, HO_6, BK348, HB⟩ := hrel
      cases gk with
      | zero => exact absurd HA.out (by simp [quilllaw17_RegionBetween.l1])
      | succ k3 =>
       have H := HA.out
       clear HA
       simp only [quilllaw17_RegionBetween.l1] at H
       have HC25 := Aside0.mk H
       clear H
       go_upto_region 10 with (fail)
       go_cut [49] (fun v49 wc => ∃ (kq : Nat) (x49_24 : Bool), v49 = .bool x49_24 ∧ Aside0 (quilllaw17_RegionBetween.j3 kq x3_1 (rdOf ByteArray.empty l0_0 x3_1) y352 t355 x7_3 x49_24 l0_0 a0_1 a0_2 a0_3 a0_4 a0_5 a0_6 a0_7 l0_8 a0_9 a0_10 l0_11 = some r) ∧ Aside0 (kq ≤ k3) ∧ Aside0 (Kd.R (Kd.int .i32) 21 wc w.heap.size (fun _ => True) (.slice Ao23 y352.length co23) y352) ∧ Aside0 (Kd.R (Kd.int .i64) 3 wc w.heap.size (fun _ => True) v356 t355) ∧ Aside0 (wc.heap[gb348]? = some (.cells #[(.slice (some ad351) l0_0.length c0_0), .int .i64 a0_1, .int .i64 a0_2, .int .i64 a0_3, .int .i64 a0_4, .int .i64 a0_5, .int .i64 a0_6, .int .i64 a0_7, (.slice A0_8 l0_8.length c0_8), .int .i64 a0_9, .int .i64 a0_10, (.slice A0_11 l0_11.length c0_11)] 34 (0, 0))) ∧ Aside0 (Below w.heap.size w wc))
       case first =>
        have H := HC25.out
        clear HC25
        by_cases c26 : x7_3 < (t355.length : Int)
        rotate_left
        ·
         rw [if_neg c26] at H
         have c26b0 := decide_eq_false c26
         clear c26
         (first | rw [c26b0] | (simp only [i64_w, i32_w]; rw [c26b0]) | skip)
         have H' := Aside0.mk H
         clear H
         obtain ⟨Ao28, co28, eo28⟩ := Kd.R_slice HO_6.out
         subst eo28
         go_wp2
         go_meet
         case rel => exact ⟨_, (false), (by first | rfl | (simp; done) | (simp [*]; done)), H', ⟨by have := HK1.out; have := HJ9.out; have := HK3.out; first | omega | exact Nat.le_refl _⟩, ⟨by (with_reducible repeat (first | apply Kd.R_alloc | apply Kd.R_drewN | apply Kd.R_drew)); exact HO_5.out⟩, ⟨by (with_reducible repeat (first | apply Kd.R_alloc | apply Kd.R_drewN | apply Kd.R_drew)); exact HO_6.out⟩, ⟨BK348.out⟩, ⟨by repeat with_reducible first | exact HB.out | apply pw_below_drewN | refine below_set ?_ GE348.out | apply below_drew1 | apply below_alloc⟩⟩
        rw [if_pos c26] at H
        have c26b0 := decide_eq_true c26
        clear c26
        (first | rw [c26b0] | (simp only [i64_w, i32_w]; rw [c26b0]) | skip)
        have H' := Aside0.mk H
        clear H
        obtain ⟨Ao27, co27, eo27⟩ := Kd.R_slice HO_6.out
        subst eo27
        go_wp2
        go_meet
        case rel => exact ⟨_, (decide (x7_3 < 10)), (by first | rfl | (simp; done) | (simp [*]; done)), H', ⟨by have := HK1.out; have := HJ9.out; have := HK3.out; first | omega | exact Nat.le_refl _⟩, ⟨by (with_reducible repeat (first | apply Kd.R_alloc | apply Kd.R_drewN | apply Kd.R_drew)); exact HO_5.out⟩, ⟨by (with_reducible repeat (first | apply Kd.R_alloc | apply Kd.R_drewN | apply Kd.R_drew)); exact HO_6.out⟩, ⟨BK348.out⟩, ⟨by repeat with_reducible first | exact HB.out | apply pw_below_drewN | refine below_set ?_ GE348.out | apply below_drew1 | apply below_alloc⟩⟩
       case rest =>
        clear HC25
        try clear c3
        try clear c14
        try clear c15
        try clear c15b0
        try clear c16
        try clear c16b0
        try clear c17
        try clear c17b0
        try clear c17b1
        try clear hcz19_0
        try clear hcz19_1
        try clear hcz19_10
        try clear hcz19_11
        try clear hcz19_2
        try clear hcz19_3
        try clear hcz19_4
        try clear hcz19_5
        try clear hcz19_6
        try clear hcz19_7
        try clear hcz19_8
        try clear hcz19_9
        try clear hcz22_0
        try clear hcz22_1
        try clear hcz22_10
        try clear hcz22_11
        try clear hcz22_2
        try clear hcz22_3
        try clear hcz22_4
        try clear hcz22_5
        try clear hcz22_6
        try clear hcz22_7
        try clear hcz22_8
        try clear hcz22_9
        try clear hcz8_0
        try clear hcz8_1
        try clear hcz8_10
        try clear hcz8_11
        try clear hcz8_2
        try clear hcz8_3
        try clear hcz8_4
        try clear hcz8_5
        try clear hcz8_6
        try clear hcz8_7
        try clear hcz8_8
        try clear hcz8_9
        try clear hfz19_0
        try clear hfz19_1
        try clear hfz19_10
        try clear hfz19_11
        try clear hfz19_2
        try clear hfz19_3
        try clear hfz19_4
        try clear hfz19_5
        try clear hfz19_6
        try clear hfz19_7
        try clear hfz19_8
        try clear hfz19_9
        try clear hfz22_0
        try clear hfz22_1
        try clear hfz22_10
        try clear hfz22_11
        try clear hfz22_2
        try clear hfz22_3
        try clear hfz22_4
        try clear hfz22_5
        try clear hfz22_6
        try clear hfz22_7
        try clear hfz22_8
        try clear hfz22_9
        try clear hfz8_0
        try clear hfz8_1
        try clear hfz8_10
        try clear hfz8_11
        try clear hfz8_2
        try clear hfz8_3
        try clear hfz8_4
        try clear hfz8_5
        try clear hfz8_6
        try clear hfz8_7
        try clear hfz8_8
        try clear hfz8_9
        try clear hx351_0
        try clear p351
        try clear q351
        obtain ⟨kq, x49_24, rfl, HA, HJ24, HO_5, HO_6, BK348, HB⟩ := hcut
        cases kq with
        | zero => exact absurd HA.out (by simp [quilllaw17_RegionBetween.j3])
        | succ kj24 =>
         have H := HA.out
         clear HA
         simp only [quilllaw17_RegionBetween.j3] at H
         by_cases c29 : x49_24 = true
         rotate_left
         ·
          replace c29 := Bool.eq_false_iff.mpr c29
          subst c29
          have H1 : (quilllaw17_RegionBetween.l0 kj24 (wrap64 (x3_1 + 1)) l0_0 a0_1 a0_2 a0_3 a0_4 a0_5 a0_6 a0_7 l0_8 a0_9 a0_10 l0_11) = some r := by rw [if_neg (show ¬ (false = true) by decide)] at H; exact H
          clear H
          have H := H1
          clear H1
          have H' := Aside0.mk H
          clear H
          go_wp2
          go_roundg kj24
          case measure => have := HK1.out; have := HJ9.out; have := HK3.out; have := HJ24.out; omega
          case rel => exact ⟨(wrap64 (x3_1 + 1)), (by first | rfl | (simp; done) | (simp [*]; done)), H', ⟨by have := HK1.out; have := HJ9.out; have := HK3.out; have := HJ24.out; omega⟩, ⟨BK348.out⟩, ⟨by repeat with_reducible first | exact HB.out | apply pw_below_drewN | refine below_set ?_ GE348.out | apply below_drew1 | apply below_alloc⟩⟩
         subst c29
         have H1 : (quilllaw17_RegionBetween.l2 kj24 x3_1 (rdOf ByteArray.empty l0_0 x3_1) y352 t355 x7_3 0 l0_0 a0_1 a0_2 a0_3 a0_4 a0_5 a0_6 a0_7 l0_8 a0_9 a0_10 l0_11) = some r := by rw [if_pos rfl] at H; exact H
         clear H
         have H := H1
         clear H1
         have H' := Aside0.mk H
         clear H
         go_wp2
         go_loopg [8] kj24 (fun kq v8 w' => ∃ (x8_5 : Int), v8 = .int .i64 x8_5 ∧ Aside0 (quilllaw17_RegionBetween.l2 kq x3_1 (rdOf ByteArray.empty l0_0 x3_1) y352 t355 x7_3 x8_5 l0_0 a0_1 a0_2 a0_3 a0_4 a0_5 a0_6 a0_7 l0_8 a0_9 a0_10 l0_11 = some r) ∧ Aside0 (kq ≤ kj24) ∧ Aside0 (Kd.R (Kd.int .i32) 21 w' w.heap.size (fun _ => True) (.slice Ao23 y352.length co23) y352) ∧ Aside0 (Kd.R (Kd.int .i64) 3 w' w.heap.size (fun _ => True) v356 t355) ∧ Aside0 (w'.heap[gb348]? = some (.cells #[(.slice (some ad351) l0_0.length c0_0), .int .i64 a0_1, .int .i64 a0_2, .int .i64 a0_3, .int .i64 a0_4, .int .i64 a0_5, .int .i64 a0_6, .int .i64 a0_7, (.slice A0_8 l0_8.length c0_8), .int .i64 a0_9, .int .i64 a0_10, (.slice A0_11 l0_11.length c0_11)] 34 (0, 0))) ∧ Aside0 (Below w.heap.size w w'))
         case atStart => exact ⟨(0), (by first | rfl | (simp; done) | (simp [*]; done)), H', ⟨Nat.le_refl _⟩, ⟨by (with_reducible repeat (first | apply Kd.R_alloc | apply Kd.R_drewN | apply Kd.R_drew)); exact HO_5.out⟩, ⟨by (with_reducible repeat (first | apply Kd.R_alloc | apply Kd.R_drewN | apply Kd.R_drew)); exact HO_6.out⟩, ⟨BK348.out⟩, ⟨by repeat with_reducible first | exact HB.out | apply pw_below_drewN | refine below_set ?_ GE348.out | apply below_drew1 | apply below_alloc⟩⟩
         case round =>
          clear H'
          try clear c3
          try clear c14
          try clear c15
          try clear c15b0
          try clear c16
          try clear c16b0
          try clear c17
          try clear c17b0
          try clear c17b1
          try clear c29
          try clear hcz19_0
          try clear hcz19_1
          try clear hcz19_10
          try clear hcz19_11
          try clear hcz19_2
          try clear hcz19_3
          try clear hcz19_4
          try clear hcz19_5
          try clear hcz19_6
          try clear hcz19_7
          try clear hcz19_8
          try clear hcz19_9
          try clear hcz22_0
          try clear hcz22_1
          try clear hcz22_10
          try clear hcz22_11
          try clear hcz22_2
          try clear hcz22_3
          try clear hcz22_4
          try clear hcz22_5
          try clear hcz22_6
          try clear hcz22_7
          try clear hcz22_8
          try clear hcz22_9
          try clear hcz8_0
          try clear hcz8_1
          try clear hcz8_10
          try clear hcz8_11
          try clear hcz8_2
          try clear hcz8_3
          try clear hcz8_4
          try clear hcz8_5
          try clear hcz8_6
          try clear hcz8_7
          try clear hcz8_8
          try clear hcz8_9
          try clear hfz19_0
          try clear hfz19_1
          try clear hfz19_10
          try clear hfz19_11
          try clear hfz19_2
          try clear hfz19_3
          try clear hfz19_4
          try clear hfz19_5
          try clear hfz19_6
          try clear hfz19_7
          try clear hfz19_8
          try clear hfz19_9
          try clear hfz22_0
          try clear hfz22_1
          try clear hfz22_10
          try clear hfz22_11
          try clear hfz22_2
          try clear hfz22_3
          try clear hfz22_4
          try clear hfz22_5
          try clear hfz22_6
          try clear hfz22_7
          try clear hfz22_8
          try clear hfz22_9
          try clear hfz8_0
          try clear hfz8_1
          try clear hfz8_10
          try clear hfz8_11
          try clear hfz8_2
          try clear hfz8_3
          try clear hfz8_4
          try clear hfz8_5
          try clear hfz8_6
          try clear hfz8_7
          try clear hfz8_8
          try clear hfz8_9
          try clear hx351_0
          try clear p351
          try clear q351
          obtain ⟨x8_5, rfl, HA, HK5, HO_5, HO_6, BK348, HB⟩ := hrel
          cases gk with
          | zero => exact absurd HA.out (by simp [quilllaw17_RegionBetween.l2])
          | succ k5 =>
           have H := HA.out
           clear HA
           simp only [quilllaw17_RegionBetween.l2] at H
           have HC30 := Aside0.mk H
           clear H
           go_upto_region 13 with (fail)
           go_cut [59] (fun v59 wc => ∃ (kq : Nat) (x59_29 : Bool), v59 = .bool x59_29 ∧ Aside0 (quilllaw17_RegionBetween.j5 kq x3_1 (rdOf ByteArray.empty l0_0 x3_1) y352 t355 x7_3 x8_5 x59_29 l0_0 a0_1 a0_2 a0_3 a0_4 a0_5 a0_6 a0_7 l0_8 a0_9 a0_10 l0_11 = some r) ∧ Aside0 (kq ≤ k5) ∧ Aside0 (Kd.R (Kd.int .i32) 21 wc w.heap.size (fun _ => True) (.slice Ao23 y352.length co23) y352) ∧ Aside0 (Kd.R (Kd.int .i64) 3 wc w.heap.size (fun _ => True) v356 t355) ∧ Aside0 (wc.heap[gb348]? = some (.cells #[(.slice (some ad351) l0_0.length c0_0), .int .i64 a0_1, .int .i64 a0_2, .int .i64 a0_3, .int .i64 a0_4, .int .i64 a0_5, .int .i64 a0_6, .int .i64 a0_7, (.slice A0_8 l0_8.length c0_8), .int .i64 a0_9, .int .i64 a0_10, (.slice A0_11 l0_11.length c0_11)] 34 (0, 0))) ∧ Aside0 (Below w.heap.size w wc))
           case first =>
            have H := HC30.out
            clear HC30
            by_cases c31 : x8_5 < (t355.length : Int)
            rotate_left
            ·
             rw [if_neg c31] at H
             have c31b0 := decide_eq_false c31
             clear c31
             (first | rw [c31b0] | (simp only [i64_w, i32_w]; rw [c31b0]) | skip)
             have H' := Aside0.mk H
             clear H
             obtain ⟨Ao33, co33, eo33⟩ := Kd.R_slice HO_6.out
             subst eo33
             go_wp2
             go_meet
             case rel => exact ⟨_, (false), (by first | rfl | (simp; done) | (simp [*]; done)), H', ⟨by have := HK1.out; have := HJ9.out; have := HK3.out; have := HJ24.out; have := HK5.out; first | omega | exact Nat.le_refl _⟩, ⟨by (with_reducible repeat (first | apply Kd.R_alloc | apply Kd.R_drewN | apply Kd.R_drew)); exact HO_5.out⟩, ⟨by (with_reducible repeat (first | apply Kd.R_alloc | apply Kd.R_drewN | apply Kd.R_drew)); exact HO_6.out⟩, ⟨BK348.out⟩, ⟨by repeat with_reducible first | exact HB.out | apply pw_below_drewN | refine below_set ?_ GE348.out | apply below_drew1 | apply below_alloc⟩⟩
            rw [if_pos c31] at H
            have c31b0 := decide_eq_true c31
            clear c31
            (first | rw [c31b0] | (simp only [i64_w, i32_w]; rw [c31b0]) | skip)
            have H' := Aside0.mk H
            clear H
            obtain ⟨Ao32, co32, eo32⟩ := Kd.R_slice HO_6.out
            subst eo32
            go_wp2
            go_meet
            case rel => exact ⟨_, (decide (x8_5 < 10)), (by first | rfl | (simp; done) | (simp [*]; done)), H', ⟨by have := HK1.out; have := HJ9.out; have := HK3.out; have := HJ24.out; have := HK5.out; first | omega | exact Nat.le_refl _⟩, ⟨by (with_reducible repeat (first | apply Kd.R_alloc | apply Kd.R_drewN | apply Kd.R_drew)); exact HO_5.out⟩, ⟨by (with_reducible repeat (first | apply Kd.R_alloc | apply Kd.R_drewN | apply Kd.R_drew)); exact HO_6.out⟩, ⟨BK348.out⟩, ⟨by repeat with_reducible first | exact HB.out | apply pw_below_drewN | refine below_set ?_ GE348.out | apply below_drew1 | apply below_alloc⟩⟩
           case rest =>
            clear HC30
            try clear c3
            try clear c14
            try clear c15
            try clear c15b0
            try clear c16
            try clear c16b0
            try clear c17
            try clear c17b0
            try clear c17b1
            try clear c29
            try clear hcz19_0
            try clear hcz19_1
            try clear hcz19_10
            try clear hcz19_11
            try clear hcz19_2
            try clear hcz19_3
            try clear hcz19_4
            try clear hcz19_5
            try clear hcz19_6
            try clear hcz19_7
            try clear hcz19_8
            try clear hcz19_9
            try clear hcz22_0
            try clear hcz22_1
            try clear hcz22_10
            try clear hcz22_11
            try clear hcz22_2
            try clear hcz22_3
            try clear hcz22_4
            try clear hcz22_5
            try clear hcz22_6
            try clear hcz22_7
            try clear hcz22_8
            try clear hcz22_9
            try clear hcz8_0
            try clear hcz8_1
            try clear hcz8_10
            try clear hcz8_11
            try clear hcz8_2
            try clear hcz8_3
            try clear hcz8_4
            try clear hcz8_5
            try clear hcz8_6
            try clear hcz8_7
            try clear hcz8_8
            try clear hcz8_9
            try clear hfz19_0
            try clear hfz19_1
            try clear hfz19_10
            try clear hfz19_11
            try clear hfz19_2
            try clear hfz19_3
            try clear hfz19_4
            try clear hfz19_5
            try clear hfz19_6
            try clear hfz19_7
            try clear hfz19_8
            try clear hfz19_9
            try clear hfz22_0
            try clear hfz22_1
            try clear hfz22_10
            try clear hfz22_11
            try clear hfz22_2
            try clear hfz22_3
            try clear hfz22_4
            try clear hfz22_5
            try clear hfz22_6
            try clear hfz22_7
            try clear hfz22_8
            try clear hfz22_9
            try clear hfz8_0
            try clear hfz8_1
            try clear hfz8_10
            try clear hfz8_11
            try clear hfz8_2
            try clear hfz8_3
            try clear hfz8_4
            try clear hfz8_5
            try clear hfz8_6
            try clear hfz8_7
            try clear hfz8_8
            try clear hfz8_9
            try clear hx351_0
            try clear p351
            try clear q351
            obtain ⟨kq, x59_29, rfl, HA, HJ29, HO_5, HO_6, BK348, HB⟩ := hcut
            cases kq with
            | zero => exact absurd HA.out (by simp [quilllaw17_RegionBetween.j5])
            | succ kj29 =>
             have H := HA.out
             clear HA
             simp only [quilllaw17_RegionBetween.j5] at H
             by_cases c34 : x59_29 = true
             rotate_left
             ·
              replace c34 := Bool.eq_false_iff.mpr c34
              subst c34
              have H1 : (quilllaw17_RegionBetween.l1 kj29 x3_1 (rdOf ByteArray.empty l0_0 x3_1) y352 t355 (wrap64 (x7_3 + 1)) l0_0 a0_1 a0_2 a0_3 a0_4 a0_5 a0_6 a0_7 l0_8 a0_9 a0_10 l0_11) = some r := by rw [if_neg (show ¬ (false = true) by decide)] at H; exact H
              clear H
              have H := H1
              clear H1
              have H' := Aside0.mk H
              clear H
              go_wp2
              go_roundg kj29
              case measure => have := HK1.out; have := HJ9.out; have := HK3.out; have := HJ24.out; have := HK5.out; have := HJ29.out; omega
              case rel => exact ⟨(wrap64 (x7_3 + 1)), (by first | rfl | (simp; done) | (simp [*]; done)), H', ⟨by have := HK1.out; have := HJ9.out; have := HK3.out; have := HJ24.out; have := HK5.out; have := HJ29.out; omega⟩, ⟨by (with_reducible repeat (first | apply Kd.R_alloc | apply Kd.R_drewN | apply Kd.R_drew)); exact HO_5.out⟩, ⟨by (with_reducible repeat (first | apply Kd.R_alloc | apply Kd.R_drewN | apply Kd.R_drew)); exact HO_6.out⟩, ⟨BK348.out⟩, ⟨by repeat with_reducible first | exact HB.out | apply pw_below_drewN | refine below_set ?_ GE348.out | apply below_drew1 | apply below_alloc⟩⟩
             subst c34
             have H1 : (quilllaw17_RegionBetween.l3 kj29 x3_1 (rdOf ByteArray.empty l0_0 x3_1) y352 t355 x7_3 x8_5 (-1) l0_0 a0_1 a0_2 a0_3 a0_4 a0_5 a0_6 a0_7 l0_8 a0_9 a0_10 l0_11) = some r := by rw [if_pos rfl] at H; exact H
             clear H
             have H := H1
             clear H1
             have H' := Aside0.mk H
             clear H
             go_wp2
             go_loopg [9] kj29 (fun kq v9 w' => ∃ (x9_7 : Int), v9 = .int .i64 x9_7 ∧ Aside0 (quilllaw17_RegionBetween.l3 kq x3_1 (rdOf ByteArray.empty l0_0 x3_1) y352 t355 x7_3 x8_5 x9_7 l0_0 a0_1 a0_2 a0_3 a0_4 a0_5 a0_6 a0_7 l0_8 a0_9 a0_10 l0_11 = some r) ∧ Aside0 (kq ≤ kj29) ∧ Aside0 (Kd.R (Kd.int .i32) 21 w' w.heap.size (fun _ => True) (.slice Ao23 y352.length co23) y352) ∧ Aside0 (Kd.R (Kd.int .i64) 3 w' w.heap.size (fun _ => True) v356 t355) ∧ Aside0 (w'.heap[gb348]? = some (.cells #[(.slice (some ad351) l0_0.length c0_0), .int .i64 a0_1, .int .i64 a0_2, .int .i64 a0_3, .int .i64 a0_4, .int .i64 a0_5, .int .i64 a0_6, .int .i64 a0_7, (.slice A0_8 l0_8.length c0_8), .int .i64 a0_9, .int .i64 a0_10, (.slice A0_11 l0_11.length c0_11)] 34 (0, 0))) ∧ Aside0 (Below w.heap.size w w'))
             case atStart => exact ⟨((-1)), (by first | rfl | (simp; done) | (simp [*]; done)), H', ⟨Nat.le_refl _⟩, ⟨by (with_reducible repeat (first | apply Kd.R_alloc | apply Kd.R_drewN | apply Kd.R_drew)); exact HO_5.out⟩, ⟨by (with_reducible repeat (first | apply Kd.R_alloc | apply Kd.R_drewN | apply Kd.R_drew)); exact HO_6.out⟩, ⟨BK348.out⟩, ⟨by repeat with_reducible first | exact HB.out | apply pw_below_drewN | refine below_set ?_ GE348.out | apply below_drew1 | apply below_alloc⟩⟩
             case round =>
              clear H'
              try clear c3
              try clear c14
              try clear c15
              try clear c15b0
              try clear c16
              try clear c16b0
              try clear c17
              try clear c17b0
              try clear c17b1
              try clear c29
              try clear c34
              try clear hcz19_0
              try clear hcz19_1
              try clear hcz19_10
              try clear hcz19_11
              try clear hcz19_2
              try clear hcz19_3
              try clear hcz19_4
              try clear hcz19_5
              try clear hcz19_6
              try clear hcz19_7
              try clear hcz19_8
              try clear hcz19_9
              try clear hcz22_0
              try clear hcz22_1
              try clear hcz22_10
              try clear hcz22_11
              try clear hcz22_2
              try clear hcz22_3
              try clear hcz22_4
              try clear hcz22_5
              try clear hcz22_6
              try clear hcz22_7
              try clear hcz22_8
              try clear hcz22_9
              try clear hcz8_0
              try clear hcz8_1
              try clear hcz8_10
              try clear hcz8_11
              try clear hcz8_2
              try clear hcz8_3
              try clear hcz8_4
              try clear hcz8_5
              try clear hcz8_6
              try clear hcz8_7
              try clear hcz8_8
              try clear hcz8_9
              try clear hfz19_0
              try clear hfz19_1
              try clear hfz19_10
              try clear hfz19_11
              try clear hfz19_2
              try clear hfz19_3
              try clear hfz19_4
              try clear hfz19_5
              try clear hfz19_6
              try clear hfz19_7
              try clear hfz19_8
              try clear hfz19_9
              try clear hfz22_0
              try clear hfz22_1
              try clear hfz22_10
              try clear hfz22_11
              try clear hfz22_2
              try clear hfz22_3
              try clear hfz22_4
              try clear hfz22_5
              try clear hfz22_6
              try clear hfz22_7
              try clear hfz22_8
              try clear hfz22_9
              try clear hfz8_0
              try clear hfz8_1
              try clear hfz8_10
              try clear hfz8_11
              try clear hfz8_2
              try clear hfz8_3
              try clear hfz8_4
              try clear hfz8_5
              try clear hfz8_6
              try clear hfz8_7
              try clear hfz8_8
              try clear hfz8_9
              try clear hx351_0
              try clear p351
              try clear q351
              obtain ⟨x9_7, rfl, HA, HK7, HO_5, HO_6, BK348, HB⟩ := hrel
              cases gk with
              | zero => exact absurd HA.out (by simp [quilllaw17_RegionBetween.l3])
              | succ k7 =>
               have H := HA.out
               clear HA
               simp only [quilllaw17_RegionBetween.l3] at H
               by_cases c35 : x9_7 ≤ 3
               rotate_left
               ·
                rw [if_neg c35] at H
                have c35b0 := decide_eq_false c35
                clear c35
                have H' := Aside0.mk H
                clear H
                go_wp2
                go_roundg k7
                case measure => have := HK1.out; have := HJ9.out; have := HK3.out; have := HJ24.out; have := HK5.out; have := HJ29.out; have := HK7.out; omega
                case rel => exact ⟨(wrap64 (x8_5 + 1)), (by first | rfl | (simp; done) | (simp [*]; done)), H', ⟨by have := HK1.out; have := HJ9.out; have := HK3.out; have := HJ24.out; have := HK5.out; have := HJ29.out; have := HK7.out; omega⟩, ⟨by (with_reducible repeat (first | apply Kd.R_alloc | apply Kd.R_drewN | apply Kd.R_drew)); exact HO_5.out⟩, ⟨by (with_reducible repeat (first | apply Kd.R_alloc | apply Kd.R_drewN | apply Kd.R_drew)); exact HO_6.out⟩, ⟨BK348.out⟩, ⟨by repeat with_reducible first | exact HB.out | apply pw_below_drewN | refine below_set ?_ GE348.out | apply below_drew1 | apply below_alloc⟩⟩
               rw [if_pos c35] at H
               have c35b0 := decide_eq_true c35
               clear c35
               by_cases c36 : 0 ≤ x7_3
               rotate_left
               ·
                rw [if_neg c36] at H
                exact absurd H (by simp)
               rw [if_pos c36] at H
               have c36b0 := decide_eq_true c36
               clear c36
               by_cases c37 : x7_3 < (t355.length : Int)
               rotate_left
               ·
                rw [if_neg c37] at H
                exact absurd H (by simp)
               rw [if_pos c37] at H
               have c37b0 := decide_eq_true c37
               clear c37
               by_cases c38 : 0 ≤ x8_5
               rotate_left
               ·
                rw [if_neg c38] at H
                exact absurd H (by simp)
               rw [if_pos c38] at H
               have c38b0 := decide_eq_true c38
               clear c38
               by_cases c39 : x8_5 < (t355.length : Int)
               rotate_left
               ·
                rw [if_neg c39] at H
                exact absurd H (by simp)
               rw [if_pos c39] at H
               have c39b0 := decide_eq_true c39
               clear c39
               replace H := Option.bind_eq_some_iff.mp H
               obtain ⟨⟨t360, t361, t362, t363⟩, A400, H⟩ := H
               (try dsimp only at H)
               have A40 := Aside0.mk A400
               clear A400
               have HC41 := Aside0.mk H
               clear H
               try go_wp2
               have n0_ := Aside0.mk (Kd.R_drew HO_5.out)
               have n1_ := Aside0.mk (Kd.R_drew HO_6.out)
               have n2_ := Aside0.mk (blk_drew BK348.out)
               have n3_ := Aside0.mk (below_drew1 HB.out)
               clear HO_5
               clear HO_6
               clear BK348
               clear HB
               have HO_5 := n0_
               have HO_6 := n1_
               have BK348 := n2_
               have HB := n3_
               clear n0_ n1_ n2_ n3_
               obtain ⟨Ao43, co43, eo43⟩ := Kd.R_slice HO_6.out
               (first | subst eo43 | (injection eo43 with f1_ f2_ f3_; have f4_ := f1_.symm; have f5_ := f3_.symm; clear f1_ f2_ f3_; subst f4_; subst f5_))
               have p358 : 0 ≤ (x7_3 : Int) := of_decide_eq_true (by assumption)
               have q358 : x7_3 < (t355.length : Int) := of_decide_eq_true (by assumption)
               obtain ⟨ad358, e358, hx358_0⟩ := Kd.at_int (Kd.R_reads' HO_6.out).2.2 x7_3 p358 q358
               cases e358
               replace p358 := eq_true p358
               replace q358 := eq_true q358
               have p359 : 0 ≤ (x8_5 : Int) := of_decide_eq_true (by assumption)
               have q359 : x8_5 < (t355.length : Int) := of_decide_eq_true (by assumption)
               obtain ⟨ad359, e359, hx359_0⟩ := Kd.at_int (Kd.R_reads' HO_6.out).2.2 x8_5 p359 q359
               obtain rfl : ad358 = ad359 := (by injection e359)
               replace p359 := eq_true p359
               replace q359 := eq_true q359
               refine start_ (n := 17) (S := fun w' => w'.cell? (ad358.add (x7_3).toNat) = some (.int .i64 (rd t355 x7_3)) ∧ w'.cell? (ad358.add (x8_5).toNat) = some (.int .i64 (rd t355 x8_5))) (ds := []) (bs 17 0) (by kernel_rfl) rfl rfl ⟨hx358_0, hx359_0⟩ (fun hHeld => ?_); refine with_tabW quilllaw17_RegionBetween.tab18 quilllaw17_RegionBetween.bits18 (fun HT_ HW_ => ?_)
               generalize wr.drew = w42 at HO_5 HO_6 BK348 HB hx358_0 hx359_0 hHeld ⊢
               refine pure_ (i := 0) (N := some 67) (v := ?_) (a' := ?_) (bs 17 1) rfl rfl (any_of HT_.out (by kernel_rfl)) (fun _ _ _ h => h) (Or.inl ⟨by rfl, ?_⟩) ?_ ?_
               rotate_left
               · intro w'; go_simp; with_reducible rfl
               rotate_left
               · simp only [Act.put, List.setIfInBounds_toArray, List.set_cons_zero, List.set_cons_succ, i64_w, i32_w]; rfl
               refine pure_ (i := 1) (N := some 68) (v := ?_) (a' := ?_) (bs 17 3) rfl rfl (any_of HT_.out (by kernel_rfl)) (fun _ _ _ h => h) (Or.inl ⟨by rfl, ?_⟩) ?_ ?_
               rotate_left
               · intro w'; go_simp; with_reducible rfl
               rotate_left
               · simp only [Act.put, List.setIfInBounds_toArray, List.set_cons_zero, List.set_cons_succ, i64_w, i32_w]; rfl
               refine pure_ (i := 2) (N := some 69) (v := ?_) (a' := ?_) (bs 17 7) rfl rfl (any_of HT_.out (by kernel_rfl)) (fun _ _ _ h => h) (Or.inl ⟨by rfl, ?_⟩) ?_ ?_
               rotate_left
               · intro w'; go_simp; with_reducible rfl
               rotate_left
               · simp only [Act.put, List.setIfInBounds_toArray, List.set_cons_zero, List.set_cons_succ, i64_w, i32_w]; rfl
               refine pure_ (i := 3) (N := some 70) (v := ?_) (a' := ?_) (bs 17 15) rfl rfl (any_of HT_.out (by kernel_rfl)) (fun _ _ _ h => h) (Or.inl ⟨by rfl, ?_⟩) ?_ ?_
               rotate_left
               · intro w'; go_simp; with_reducible rfl
               rotate_left
               · simp only [Act.put, List.setIfInBounds_toArray, List.set_cons_zero, List.set_cons_succ, i64_w, i32_w]; rfl
               refine pure_ (i := 5) (N := some 72) (v := ?_) (a' := ?_) (bs 17 47) rfl rfl (any_of HT_.out (by kernel_rfl)) (fun _ _ _ h => h) (Or.inl ⟨by rfl, ?_⟩) ?_ ?_
               rotate_left
               · intro w'; go_simp; with_reducible rfl
               rotate_left
               · simp only [Act.put, List.setIfInBounds_toArray, List.set_cons_zero, List.set_cons_succ, i64_w, i32_w]; rfl
               refine pure_ (i := 6) (N := some 73) (v := ?_) (a' := ?_) (bs 17 111) rfl rfl (any_of HT_.out (by kernel_rfl)) (fun _ _ _ h => h) (Or.inl ⟨by rfl, ?_⟩) ?_ ?_
               rotate_left
               · intro w'; go_simp; with_reducible rfl
               rotate_left
               · simp only [Act.put, List.setIfInBounds_toArray, List.set_cons_zero, List.set_cons_succ, i64_w, i32_w]; rfl
               refine pure_ (i := 7) (N := some 74) (v := ?_) (a' := ?_) (bs 17 239) rfl rfl (any_of HT_.out (by kernel_rfl)) (fun _ _ _ h => h) (Or.inl ⟨by rfl, ?_⟩) ?_ ?_
               rotate_left
               · intro w'; go_simp; with_reducible rfl
               rotate_left
               · simp only [Act.put, List.setIfInBounds_toArray, List.set_cons_zero, List.set_cons_succ, i64_w, i32_w]; rfl
               refine pure_ (i := 9) (N := some 76) (v := ?_) (a' := ?_) (bs 17 751) rfl rfl (any_of HT_.out (by kernel_rfl)) (fun _ _ _ h => h) (Or.inl ⟨by rfl, ?_⟩) ?_ ?_
               rotate_left
               · intro w'; go_simp; with_reducible rfl
               rotate_left
               · simp only [Act.put, List.setIfInBounds_toArray, List.set_cons_zero, List.set_cons_succ, i64_w, i32_w]; rfl
               refine take_ (i := 4) (N := some 71) (v := ?_) (a' := ?_) (bs 17 767) rfl rfl (take_ofW HT_.out HW_.out (by kernel_rfl)) (fun _ _ _ h => h) (Or.inl ⟨by rfl, ?_⟩) hHeld ?_ ?_
               rotate_left
               · rintro w' ⟨s0, s1⟩; go_simp; with_reducible rfl
               rotate_left
               · simp only [Act.put, List.setIfInBounds_toArray, List.set_cons_zero, List.set_cons_succ, i64_w, i32_w]; rfl
               refine take_ (i := 8) (N := some 75) (v := ?_) (a' := ?_) (bs 17 1023) rfl rfl (take_ofW HT_.out HW_.out (by kernel_rfl)) (fun _ _ _ h => h) (Or.inl ⟨by rfl, ?_⟩) hHeld ?_ ?_
               rotate_left
               · rintro w' ⟨s0, s1⟩; go_simp; with_reducible rfl
               rotate_left
               · simp only [Act.put, List.setIfInBounds_toArray, List.set_cons_zero, List.set_cons_succ, i64_w, i32_w]; rfl
               refine join_ (σ := Nat) 2 #[true, true, true, true, true, true, true, true, true, true, true, true, true, true, true, false, false] (fun s_ => [(77, .tuple #[.agg #[.int .i64 t360, .int .i64 t361, .bool t362], .int .i64 t363]), (10, .pointer (some ⟨s_, 0, none⟩)), (66, .tuple #[.agg #[.int .i64 t360, .int .i64 t361, .bool t362], .int .i64 t363]), (78, .agg #[.int .i64 t360, .int .i64 t361, .bool t362]), (79, .int .i64 t363)]) (fun s_ w' => (w'.cell? (ad358.add (x7_3).toNat) = some (.int .i64 (rd t355 x7_3)) ∧ w'.cell? (ad358.add (x8_5).toNat) = some (.int .i64 (rd t355 x8_5))) ∧ (Kd.R (Kd.int .i32) 21 w' w.heap.size (fun _ => True) (.slice Ao23 y352.length co23) y352) ∧ (Kd.R (Kd.int .i64) 3 w' w.heap.size (fun _ => True) (.slice (some ad358) t355.length co43) t355) ∧ (w'.heap[gb348]? = some (.cells #[.slice (some ad351) l0_0.length c0_0, .int .i64 a0_1, .int .i64 a0_2, .int .i64 a0_3, .int .i64 a0_4, .int .i64 a0_5, .int .i64 a0_6, .int .i64 a0_7, .slice A0_8 l0_8.length c0_8, .int .i64 a0_9, .int .i64 a0_10, .slice A0_11 l0_11.length c0_11] 34 (0, 0))) ∧ (w'.heap[s_]? = some (.cells #[.int .i64 0, .int .i64 0, .bool false] 40 (0, 0))) ∧ (w.heap.size ≤ s_) ∧ (w.heap.size ≤ s_) ∧ (gb348 ≠ s_) ∧ (s_ ≠ gb348) ∧ (Below w.heap.size w w')) ?_ ?_
               rotate_left
               ·
                intro hCont
                refine two_ (i := 10) (j := 14) (Ni := some 77) (Nj := some 10) #[true, true, true, true, true, true, true, true, true, true, true, false, false, false, false, false, false] (bs 17 17407) rfl rfl rfl rfl (two_of HT_.out (by kernel_rfl)) (by decide) (by decide) (fun K hK => ?_) (fun K hK => ?_)
                ·
                 skip
                 refine goes_ Tryd.func9 (by kernel_rfl) rfl #[.string (rdOf ByteArray.empty l0_0 x3_1), .int .i64 (rd t355 x7_3), .int .i64 (rd t355 x8_5), .int .i64 x9_7] (by rfl) rfl rfl (by (try simp only [List.map_toArray, List.map_cons, List.map_nil]); first | done | rfl | (simp only [List.length_drop, List.length_take]; rfl)) ?_
                 with_reducible refine (region_Between.calls k7 (rdOf ByteArray.empty l0_0 x3_1) (rd t355 x7_3) (rd t355 x8_5) x9_7 t360 t361 t362 t363 _ ?side1 A40.out).mono ?_
                 (case side1 => exact Tabs.below HT.out (by repeat with_reducible first | exact HB.out | apply pw_below_drewN | refine below_set ?_ GE348.out | apply below_drew1 | apply below_alloc))
                 rintro e w44 ⟨rfl, hb⟩
                 have HS0_ := (hb.cell (World.block_lt_of_cell? _ _ (hHeld.1))).trans (hHeld.1)
                 have HS1_ := (hb.cell (World.block_lt_of_cell? _ _ (hHeld.2))).trans (hHeld.2)
                 refine ⟨_, rfl, ?_⟩
                 have n0_ := Aside0.mk (Kd.R_below (by (with_reducible repeat (first | apply Kd.R_alloc | apply Kd.R_drewN | apply Kd.R_drew)); exact HO_5.out) hb)
                 have n1_ := Aside0.mk (Kd.R_below (by (with_reducible repeat (first | apply Kd.R_alloc | apply Kd.R_drewN | apply Kd.R_drew)); exact HO_6.out) hb)
                 have n2_ := Aside0.mk (blb hb BK348.out)
                 have n3_ := Aside0.mk (below_step (by repeat with_reducible first | exact HB.out | apply pw_below_drewN | refine below_set ?_ GE348.out | apply below_drew1 | apply below_alloc) hb)
                 clear HO_5
                 clear HO_6
                 clear BK348
                 clear HB
                 have HO_5 := n0_
                 have HO_6 := n1_
                 have BK348 := n2_
                 have HB := n3_
                 clear n0_ n1_ n2_ n3_
                 (try clear hb)
                 (try clear hb2)
                 (try clear hk)
                 (try clear hi)
                 refine hK.out _ _ ⟨HS0_, HS1_⟩ (fun hHeld => ?_)
                 clear hK K
                 refine norm_ (a' := ?_) ?_ ?_
                 rotate_left
                 · show Act.put _ (some 77) _ = _; simp only [Act.put, List.setIfInBounds_toArray, List.set_cons_zero, List.set_cons_succ, i64_w, i32_w]; rfl
                 refine pure_ (i := 11) (N := some 66) (v := ?_) (a' := ?_) (bs 17 4095) rfl rfl (any_of HT_.out (by kernel_rfl)) (fun _ _ _ h => h) (Or.inl ⟨by rfl, ?_⟩) ?_ ?_
                 rotate_left
                 · intro w'; go_simp; with_reducible rfl
                 rotate_left
                 · simp only [Act.put, List.setIfInBounds_toArray, List.set_cons_zero, List.set_cons_succ, i64_w, i32_w]; rfl
                 refine pure_ (i := 12) (N := some 78) (v := ?_) (a' := ?_) (bs 17 8191) rfl rfl (any_of HT_.out (by kernel_rfl)) (fun _ _ _ h => h) (Or.inl ⟨by rfl, ?_⟩) ?_ ?_
                 rotate_left
                 · intro w'; go_simp; with_reducible rfl
                 rotate_left
                 · simp only [Act.put, List.setIfInBounds_toArray, List.set_cons_zero, List.set_cons_succ, i64_w, i32_w]; rfl
                 refine pure_ (i := 13) (N := some 79) (v := ?_) (a' := ?_) (bs 17 16383) rfl rfl (any_of HT_.out (by kernel_rfl)) (fun _ _ _ h => h) (Or.inl ⟨by rfl, ?_⟩) ?_ ?_
                 rotate_left
                 · intro w'; go_simp; with_reducible rfl
                 rotate_left
                 · simp only [Act.put, List.setIfInBounds_toArray, List.set_cons_zero, List.set_cons_succ, i64_w, i32_w]; rfl
                 refine one_ (i := 14) (N := some 10) (bs 17 32767) rfl rfl (one_of HT_.out (by kernel_rfl)) (by decide) (fun K hK => ?_)
                 refine box_step ?hg (N := 10) ?hd (cs := #[.int .i64 0, .int .i64 0, .bool false]) (t := 40) ?hr ?_; (case hd => rfl); (case hg => rfl); (case hr => first | (go_simp; done) | (go_simp; rfl))
                 intro gb364 hg w45 hbox hb
                 have HS0_ := (hb.cell (World.block_lt_of_cell? _ _ (hHeld.1))).trans (hHeld.1)
                 have HS1_ := (hb.cell (World.block_lt_of_cell? _ _ (hHeld.2))).trans (hHeld.2)
                 have n0_ := Aside0.mk (Kd.R_below (by (with_reducible repeat (first | apply Kd.R_alloc | apply Kd.R_drewN | apply Kd.R_drew)); exact HO_5.out) hb)
                 have n1_ := Aside0.mk (Kd.R_below (by (with_reducible repeat (first | apply Kd.R_alloc | apply Kd.R_drewN | apply Kd.R_drew)); exact HO_6.out) hb)
                 have n2_ := Aside0.mk (blb hb BK348.out)
                 have n3_ := Aside0.mk (below_step (by repeat with_reducible first | exact HB.out | apply pw_below_drewN | refine below_set ?_ GE348.out | apply below_drew1 | apply below_alloc) hb)
                 have n4_ := Aside0.mk (hbox)
                 have n5_ := Aside0.mk (geb hg (by repeat with_reducible first | exact HB.out | apply pw_below_drewN | refine below_set ?_ GE348.out | apply below_drew1 | apply below_alloc))
                 have n6_ := Aside0.mk (geb hg (by repeat with_reducible first | exact HB.out | apply pw_below_drewN | refine below_set ?_ GE348.out | apply below_drew1 | apply below_alloc))
                 have n7_ := Aside0.mk ((nbl hg BK348.out))
                 have n8_ := Aside0.mk ((nbr hg BK348.out))
                 clear HO_5
                 clear HO_6
                 clear BK348
                 clear HB
                 have HO_5 := n0_
                 have HO_6 := n1_
                 have BK348 := n2_
                 have HB := n3_
                 have BK364 := n4_
                 have GW364 := n5_
                 have GE364 := n6_
                 have NB348_364 := n7_
                 have NB364_348 := n8_
                 clear n0_ n1_ n2_ n3_ n4_ n5_ n6_ n7_ n8_
                 clear hb hbox hg
                 refine hK.out _ _ ⟨HS0_, HS1_⟩ (fun hHeld => ?_)
                 clear hK K
                 refine norm_ (a' := ?_) ?_ ?_
                 rotate_left
                 · show Act.put _ (some 10) _ = _; simp only [Act.put, List.setIfInBounds_toArray, List.set_cons_zero, List.set_cons_succ, i64_w, i32_w]; rfl
                 exact norm_ (by simp only [putAll, Act.put, List.setIfInBounds_toArray, List.set_cons_zero, List.set_cons_succ]) (hCont (gb364) _ ⟨hHeld, (by (with_reducible repeat (first | apply Kd.R_alloc | apply Kd.R_drewN | apply Kd.R_drew)); exact HO_5.out), (by (with_reducible repeat (first | apply Kd.R_alloc | apply Kd.R_drewN | apply Kd.R_drew)); exact HO_6.out), (by exact BK348.out), (by exact BK364.out), GW364.out, GE364.out, NB348_364.out, NB364_348.out, (by repeat with_reducible first | exact HB.out | apply pw_below_drewN | refine below_set ?_ GE348.out | refine below_set ?_ GE364.out | apply below_drew1 | apply below_alloc)⟩)
                skip
                refine box_step ?hg (N := 10) ?hd (cs := #[.int .i64 0, .int .i64 0, .bool false]) (t := 40) ?hr ?_; (case hd => rfl); (case hg => rfl); (case hr => first | (go_simp; done) | (go_simp; rfl))
                intro gb364 hg w44 hbox hb
                have HS0_ := (hb.cell (World.block_lt_of_cell? _ _ (hHeld.1))).trans (hHeld.1)
                have HS1_ := (hb.cell (World.block_lt_of_cell? _ _ (hHeld.2))).trans (hHeld.2)
                have n0_ := Aside0.mk (Kd.R_below (by (with_reducible repeat (first | apply Kd.R_alloc | apply Kd.R_drewN | apply Kd.R_drew)); exact HO_5.out) hb)
                have n1_ := Aside0.mk (Kd.R_below (by (with_reducible repeat (first | apply Kd.R_alloc | apply Kd.R_drewN | apply Kd.R_drew)); exact HO_6.out) hb)
                have n2_ := Aside0.mk (blb hb BK348.out)
                have n3_ := Aside0.mk (below_step (by repeat with_reducible first | exact HB.out | apply pw_below_drewN | refine below_set ?_ GE348.out | apply below_drew1 | apply below_alloc) hb)
                have n4_ := Aside0.mk (hbox)
                have n5_ := Aside0.mk (geb hg (by repeat with_reducible first | exact HB.out | apply pw_below_drewN | refine below_set ?_ GE348.out | apply below_drew1 | apply below_alloc))
                have n6_ := Aside0.mk (geb hg (by repeat with_reducible first | exact HB.out | apply pw_below_drewN | refine below_set ?_ GE348.out | apply below_drew1 | apply below_alloc))
                have n7_ := Aside0.mk ((nbl hg BK348.out))
                have n8_ := Aside0.mk ((nbr hg BK348.out))
                clear HO_5
                clear HO_6
                clear BK348
                clear HB
                have HO_5 := n0_
                have HO_6 := n1_
                have BK348 := n2_
                have HB := n3_
                have BK364 := n4_
                have GW364 := n5_
                have GE364 := n6_
                have NB348_364 := n7_
                have NB364_348 := n8_
                clear n0_ n1_ n2_ n3_ n4_ n5_ n6_ n7_ n8_
                clear hb hbox hg
                refine hK.out _ _ ⟨HS0_, HS1_⟩ (fun hHeld => ?_)
                clear hK K
                refine norm_ (a' := ?_) ?_ ?_
                rotate_left
                · show Act.put _ (some 10) _ = _; simp only [Act.put, List.setIfInBounds_toArray, List.set_cons_zero, List.set_cons_succ, i64_w, i32_w]; rfl
                refine one_ (i := 10) (N := some 77) (bs 17 18431) rfl rfl (one_of HT_.out (by kernel_rfl)) (by decide) (fun K hK => ?_)
                refine goes_ Tryd.func9 (by kernel_rfl) rfl #[.string (rdOf ByteArray.empty l0_0 x3_1), .int .i64 (rd t355 x7_3), .int .i64 (rd t355 x8_5), .int .i64 x9_7] (by rfl) rfl rfl (by (try simp only [List.map_toArray, List.map_cons, List.map_nil]); first | done | rfl | (simp only [List.length_drop, List.length_take]; rfl)) ?_
                with_reducible refine (region_Between.calls k7 (rdOf ByteArray.empty l0_0 x3_1) (rd t355 x7_3) (rd t355 x8_5) x9_7 t360 t361 t362 t363 _ ?side1 A40.out).mono ?_
                (case side1 => exact Tabs.below HT.out (by repeat with_reducible first | exact HB.out | apply pw_below_drewN | refine below_set ?_ GE348.out | refine below_set ?_ GE364.out | apply below_drew1 | apply below_alloc))
                rintro e w45 ⟨rfl, hb⟩
                have HS0_ := (hb.cell (World.block_lt_of_cell? _ _ (hHeld.1))).trans (hHeld.1)
                have HS1_ := (hb.cell (World.block_lt_of_cell? _ _ (hHeld.2))).trans (hHeld.2)
                refine ⟨_, rfl, ?_⟩
                have n0_ := Aside0.mk (Kd.R_below (by (with_reducible repeat (first | apply Kd.R_alloc | apply Kd.R_drewN | apply Kd.R_drew)); exact HO_5.out) hb)
                have n1_ := Aside0.mk (Kd.R_below (by (with_reducible repeat (first | apply Kd.R_alloc | apply Kd.R_drewN | apply Kd.R_drew)); exact HO_6.out) hb)
                have n2_ := Aside0.mk (blb hb BK348.out)
                have n3_ := Aside0.mk (blb hb BK364.out)
                have n4_ := Aside0.mk (below_step (by repeat with_reducible first | exact HB.out | apply pw_below_drewN | refine below_set ?_ GE348.out | refine below_set ?_ GE364.out | apply below_drew1 | apply below_alloc) hb)
                clear HO_5
                clear HO_6
                clear BK348
                clear BK364
                clear HB
                have HO_5 := n0_
                have HO_6 := n1_
                have BK348 := n2_
                have BK364 := n3_
                have HB := n4_
                clear n0_ n1_ n2_ n3_ n4_
                (try clear hb)
                (try clear hb2)
                (try clear hk)
                (try clear hi)
                refine hK.out _ _ ⟨HS0_, HS1_⟩ (fun hHeld => ?_)
                clear hK K
                refine norm_ (a' := ?_) ?_ ?_
                rotate_left
                · show Act.put _ (some 77) _ = _; simp only [Act.put, List.setIfInBounds_toArray, List.set_cons_zero, List.set_cons_succ, i64_w, i32_w]; rfl
                refine pure_ (i := 11) (N := some 66) (v := ?_) (a' := ?_) (bs 17 20479) rfl rfl (any_of HT_.out (by kernel_rfl)) (fun _ _ _ h => h) (Or.inl ⟨by rfl, ?_⟩) ?_ ?_
                rotate_left
                · intro w'; go_simp; with_reducible rfl
                rotate_left
                · simp only [Act.put, List.setIfInBounds_toArray, List.set_cons_zero, List.set_cons_succ, i64_w, i32_w]; rfl
                refine pure_ (i := 12) (N := some 78) (v := ?_) (a' := ?_) (bs 17 24575) rfl rfl (any_of HT_.out (by kernel_rfl)) (fun _ _ _ h => h) (Or.inl ⟨by rfl, ?_⟩) ?_ ?_
                rotate_left
                · intro w'; go_simp; with_reducible rfl
                rotate_left
                · simp only [Act.put, List.setIfInBounds_toArray, List.set_cons_zero, List.set_cons_succ, i64_w, i32_w]; rfl
                refine pure_ (i := 13) (N := some 79) (v := ?_) (a' := ?_) (bs 17 32767) rfl rfl (any_of HT_.out (by kernel_rfl)) (fun _ _ _ h => h) (Or.inl ⟨by rfl, ?_⟩) ?_ ?_
                rotate_left
                · intro w'; go_simp; with_reducible rfl
                rotate_left
                · simp only [Act.put, List.setIfInBounds_toArray, List.set_cons_zero, List.set_cons_succ, i64_w, i32_w]; rfl
                exact norm_ (by simp only [putAll, Act.put, List.setIfInBounds_toArray, List.set_cons_zero, List.set_cons_succ]) (hCont (gb364) _ ⟨hHeld, (by (with_reducible repeat (first | apply Kd.R_alloc | apply Kd.R_drewN | apply Kd.R_drew)); exact HO_5.out), (by (with_reducible repeat (first | apply Kd.R_alloc | apply Kd.R_drewN | apply Kd.R_drew)); exact HO_6.out), (by exact BK348.out), (by exact BK364.out), GW364.out, GE364.out, NB348_364.out, NB364_348.out, (by repeat with_reducible first | exact HB.out | apply pw_below_drewN | refine below_set ?_ GE348.out | refine below_set ?_ GE364.out | apply below_drew1 | apply below_alloc)⟩)
               rintro gb364 w46 ⟨hS_, h0_, h1_, h2_, h3_, h4_, h5_, h6_, h7_, h8_⟩
               have n0_ : Aside0 (Kd.R (Kd.int .i32) 21 w46 w.heap.size (fun _ => True) (.slice Ao23 y352.length co23) y352) := ⟨h0_⟩
               have n1_ : Aside0 (Kd.R (Kd.int .i64) 3 w46 w.heap.size (fun _ => True) (.slice (some ad358) t355.length co43) t355) := ⟨h1_⟩
               have n2_ : Aside0 (w46.heap[gb348]? = some (.cells #[.slice (some ad351) l0_0.length c0_0, .int .i64 a0_1, .int .i64 a0_2, .int .i64 a0_3, .int .i64 a0_4, .int .i64 a0_5, .int .i64 a0_6, .int .i64 a0_7, .slice A0_8 l0_8.length c0_8, .int .i64 a0_9, .int .i64 a0_10, .slice A0_11 l0_11.length c0_11] 34 (0, 0))) := ⟨h2_⟩
               have n3_ : Aside0 (w46.heap[gb364]? = some (.cells #[.int .i64 0, .int .i64 0, .bool false] 40 (0, 0))) := ⟨h3_⟩
               have n4_ : Aside0 (w.heap.size ≤ gb364) := ⟨h4_⟩
               have n5_ : Aside0 (w.heap.size ≤ gb364) := ⟨h5_⟩
               have n6_ : Aside0 (gb348 ≠ gb364) := ⟨h6_⟩
               have n7_ : Aside0 (gb364 ≠ gb348) := ⟨h7_⟩
               have n8_ : Aside0 (Below w.heap.size w w46) := ⟨h8_⟩
               clear HO_5
               clear HO_6
               clear BK348
               clear HB
               clear h0_ h1_ h2_ h3_ h4_ h5_ h6_ h7_ h8_
               have HO_5 := n0_
               have HO_6 := n1_
               have BK348 := n2_
               have BK364 := n3_
               have GW364 := n4_
               have GE364 := n5_
               have NB348_364 := n6_
               have NB364_348 := n7_
               have HB := n8_
               clear n0_ n1_ n2_ n3_ n4_ n5_ n6_ n7_ n8_
               have hHeld : w46.cell? (ad358.add (x7_3).toNat) = some (.int .i64 (rd t355 x7_3)) ∧ w46.cell? (ad358.add (x8_5).toNat) = some (.int .i64 (rd t355 x8_5)) := hS_
               refine norm_ (a' := ?_) ?_ ?_
               rotate_left
               ·
                simp only [putAll, Act.put, List.setIfInBounds_toArray, List.set_cons_zero, List.set_cons_succ]
                rfl
               refine one_ (i := 15) (N := none) (bs 17 65535) rfl rfl (one_of HT_.out (by kernel_rfl)) (by decide) (fun K hK => ?_)
               have hs47 := cz0 BK364.out
               have hfs47 := blk_frozen BK364.out 0
               have hns47_0 := NB348_364.out
               have hms47_0 := NB364_348.out
               have hs48 := cz1 BK364.out
               have hfs48 := blk_frozen BK364.out 1
               have hns48_0 := NB348_364.out
               have hms48_0 := NB364_348.out
               have hs49 := cz2 BK364.out
               have hfs49 := blk_frozen BK364.out 2
               have hns49_0 := NB348_364.out
               have hms49_0 := NB364_348.out
               refine skip_ (w1 := ?_) (by rfl) rfl ?_ ?_
               rotate_left
               ·
                go_simp
                rfl
               refine hK.out _ _ ⟨((cell_far (p := ⟨gb364, _, none⟩) (by first | exact Kd.own_blk (Kd.R_ne HO_6.out BK364.out (by decide)) | (rw [add_block]; exact Kd.own_blk (Kd.R_ne HO_6.out BK364.out (by decide))) | (show (Addr.add _ _).block ≠ _; rw [add_block]; exact Kd.own_blk (Kd.R_ne HO_6.out BK364.out (by decide))) | (dsimp only; exact Kd.own_blk (Kd.R_ne HO_6.out BK364.out (by decide)))) _).trans (((cell_far (p := ⟨gb364, _, none⟩) (by first | exact Kd.own_blk (Kd.R_ne HO_6.out BK364.out (by decide)) | (rw [add_block]; exact Kd.own_blk (Kd.R_ne HO_6.out BK364.out (by decide))) | (show (Addr.add _ _).block ≠ _; rw [add_block]; exact Kd.own_blk (Kd.R_ne HO_6.out BK364.out (by decide))) | (dsimp only; exact Kd.own_blk (Kd.R_ne HO_6.out BK364.out (by decide)))) _).trans (((cell_far (p := ⟨gb364, _, none⟩) (by first | exact Kd.own_blk (Kd.R_ne HO_6.out BK364.out (by decide)) | (rw [add_block]; exact Kd.own_blk (Kd.R_ne HO_6.out BK364.out (by decide))) | (show (Addr.add _ _).block ≠ _; rw [add_block]; exact Kd.own_blk (Kd.R_ne HO_6.out BK364.out (by decide))) | (dsimp only; exact Kd.own_blk (Kd.R_ne HO_6.out BK364.out (by decide)))) _).trans (hHeld.1)))))), ((cell_far (p := ⟨gb364, _, none⟩) (by first | exact Kd.own_blk (Kd.R_ne HO_6.out BK364.out (by decide)) | (rw [add_block]; exact Kd.own_blk (Kd.R_ne HO_6.out BK364.out (by decide))) | (show (Addr.add _ _).block ≠ _; rw [add_block]; exact Kd.own_blk (Kd.R_ne HO_6.out BK364.out (by decide))) | (dsimp only; exact Kd.own_blk (Kd.R_ne HO_6.out BK364.out (by decide)))) _).trans (((cell_far (p := ⟨gb364, _, none⟩) (by first | exact Kd.own_blk (Kd.R_ne HO_6.out BK364.out (by decide)) | (rw [add_block]; exact Kd.own_blk (Kd.R_ne HO_6.out BK364.out (by decide))) | (show (Addr.add _ _).block ≠ _; rw [add_block]; exact Kd.own_blk (Kd.R_ne HO_6.out BK364.out (by decide))) | (dsimp only; exact Kd.own_blk (Kd.R_ne HO_6.out BK364.out (by decide)))) _).trans (((cell_far (p := ⟨gb364, _, none⟩) (by first | exact Kd.own_blk (Kd.R_ne HO_6.out BK364.out (by decide)) | (rw [add_block]; exact Kd.own_blk (Kd.R_ne HO_6.out BK364.out (by decide))) | (show (Addr.add _ _).block ≠ _; rw [add_block]; exact Kd.own_blk (Kd.R_ne HO_6.out BK364.out (by decide))) | (dsimp only; exact Kd.own_blk (Kd.R_ne HO_6.out BK364.out (by decide)))) _).trans (hHeld.2))))))⟩ (fun hHeld => ?_)
               clear hK K
               refine pure_ (i := 16) (N := some 11) (v := ?_) (a' := ?_) (bs 17 131071) rfl rfl (any_of HT_.out (by kernel_rfl)) (fun _ _ _ h => h) (Or.inl ⟨by rfl, ?_⟩) ?_ ?_
               rotate_left
               · intro w'; go_simp; with_reducible rfl
               rotate_left
               · simp only [Act.put, List.setIfInBounds_toArray, List.set_cons_zero, List.set_cons_succ, i64_w, i32_w]; rfl
               refine done_ (done_of HT_.out (by kernel_rfl)) ?_
               go_upto_region 20 with (first | ((with_reducible refine gate_dst (N := 13) rfl ?_); (try (refine gate_guard (by rfl) ?_; dsimp only)); refine box_event ?hg (N := 13) ?hd (cs := #[.int .i64 0, .int .i64 0, .bool false]) (t := 40) ?hr ?_; (case hd => rfl); (case hg => rfl); (case hr => first | (go_simp; done) | (go_simp; rfl)); intro gb365 hg w50 hbox hb; have n0_ := Aside0.mk (Kd.R_below (by (with_reducible repeat (first | apply Kd.R_alloc | apply Kd.R_drewN | apply Kd.R_drew)); exact (Kd.R_mono (Kd.R_far (p := ⟨gb364, 2, none⟩) (Kd.R_far (p := ⟨gb364, 1, none⟩) (Kd.R_far (p := ⟨gb364, 0, none⟩) (Kd.R_types HO_5.out BK364.out (by decide)) (fun _ hk => hk.2) (.int .i64 t360)) (fun _ hk => hk.2) (.int .i64 t361)) (fun _ hk => hk.2) (.bool t362)) (fun _ h_ => h_.1))) hb); have n1_ := Aside0.mk (Kd.R_below (by (with_reducible repeat (first | apply Kd.R_alloc | apply Kd.R_drewN | apply Kd.R_drew)); exact (Kd.R_mono (Kd.R_far (p := ⟨gb364, 2, none⟩) (Kd.R_far (p := ⟨gb364, 1, none⟩) (Kd.R_far (p := ⟨gb364, 0, none⟩) (Kd.R_types HO_6.out BK364.out (by decide)) (fun _ hk => hk.2) (.int .i64 t360)) (fun _ hk => hk.2) (.int .i64 t361)) (fun _ hk => hk.2) (.bool t362)) (fun _ h_ => h_.1))) hb); have n2_ := Aside0.mk (blk_below (g := gb348) (o := .cells #[.slice (some ad351) l0_0.length c0_0, .int .i64 a0_1, .int .i64 a0_2, .int .i64 a0_3, .int .i64 a0_4, .int .i64 a0_5, .int .i64 a0_6, .int .i64 a0_7, .slice A0_8 l0_8.length c0_8, .int .i64 a0_9, .int .i64 a0_10, .slice A0_11 l0_11.length c0_11] 34 (0, 0)) (by (with_reducible repeat (first | refine blk_drewN ?_ _ | refine blk_drew ?_ | refine blk_alloc ?_ _)); refine blk_far ?_ NB348_364.out _; (with_reducible repeat (first | refine blk_drewN ?_ _ | refine blk_drew ?_ | refine blk_alloc ?_ _)); refine blk_far ?_ NB348_364.out _; (with_reducible repeat (first | refine blk_drewN ?_ _ | refine blk_drew ?_ | refine blk_alloc ?_ _)); refine blk_far ?_ NB348_364.out _; (with_reducible repeat (first | refine blk_drewN ?_ _ | refine blk_drew ?_ | refine blk_alloc ?_ _)); exact BK348.out) hb); have n3_ := Aside0.mk (blk_below (g := gb364) (o := .cells #[.int .i64 t360, .int .i64 t361, .bool t362] 40 (0, 0)) (by (with_reducible repeat (first | refine blk_drewN ?_ _ | refine blk_drew ?_ | refine blk_alloc ?_ _)); refine blk_put (cs := #[.int .i64 t360, .int .i64 t361, .bool false]) ?_ 2 _ rfl; (with_reducible repeat (first | refine blk_drewN ?_ _ | refine blk_drew ?_ | refine blk_alloc ?_ _)); refine blk_put (cs := #[.int .i64 t360, .int .i64 0, .bool false]) ?_ 1 _ rfl; (with_reducible repeat (first | refine blk_drewN ?_ _ | refine blk_drew ?_ | refine blk_alloc ?_ _)); refine blk_put (cs := #[.int .i64 0, .int .i64 0, .bool false]) ?_ 0 _ rfl; (with_reducible repeat (first | refine blk_drewN ?_ _ | refine blk_drew ?_ | refine blk_alloc ?_ _)); exact BK364.out) hb); have n4_ := Aside0.mk (below_step (by repeat with_reducible first | exact HB.out | apply pw_below_drewN | refine below_set ?_ GE348.out | refine below_set ?_ GE364.out | apply below_drew1 | apply below_alloc) hb); have n5_ := Aside0.mk (hbox); have n6_ := Aside0.mk (geb hg (by repeat with_reducible first | exact HB.out | apply pw_below_drewN | refine below_set ?_ GE348.out | refine below_set ?_ GE364.out | apply below_drew1 | apply below_alloc)); have n7_ := n6_; have n8_ := Aside0.mk ((by rw [hg]; exact Nat.ne_of_lt (blk_lt (g := gb348) (o := .cells #[.slice (some ad351) l0_0.length c0_0, .int .i64 a0_1, .int .i64 a0_2, .int .i64 a0_3, .int .i64 a0_4, .int .i64 a0_5, .int .i64 a0_6, .int .i64 a0_7, .slice A0_8 l0_8.length c0_8, .int .i64 a0_9, .int .i64 a0_10, .slice A0_11 l0_11.length c0_11] 34 (0, 0)) (by (with_reducible repeat (first | refine blk_drewN ?_ _ | refine blk_drew ?_ | refine blk_alloc ?_ _)); refine blk_far ?_ NB348_364.out _; (with_reducible repeat (first | refine blk_drewN ?_ _ | refine blk_drew ?_ | refine blk_alloc ?_ _)); refine blk_far ?_ NB348_364.out _; (with_reducible repeat (first | refine blk_drewN ?_ _ | refine blk_drew ?_ | refine blk_alloc ?_ _)); refine blk_far ?_ NB348_364.out _; (with_reducible repeat (first | refine blk_drewN ?_ _ | refine blk_drew ?_ | refine blk_alloc ?_ _)); exact BK348.out)) : gb348 ≠ gb365)); have n9_ := Aside0.mk ((by rw [hg]; exact Nat.ne_of_gt (blk_lt (g := gb348) (o := .cells #[.slice (some ad351) l0_0.length c0_0, .int .i64 a0_1, .int .i64 a0_2, .int .i64 a0_3, .int .i64 a0_4, .int .i64 a0_5, .int .i64 a0_6, .int .i64 a0_7, .slice A0_8 l0_8.length c0_8, .int .i64 a0_9, .int .i64 a0_10, .slice A0_11 l0_11.length c0_11] 34 (0, 0)) (by (with_reducible repeat (first | refine blk_drewN ?_ _ | refine blk_drew ?_ | refine blk_alloc ?_ _)); refine blk_far ?_ NB348_364.out _; (with_reducible repeat (first | refine blk_drewN ?_ _ | refine blk_drew ?_ | refine blk_alloc ?_ _)); refine blk_far ?_ NB348_364.out _; (with_reducible repeat (first | refine blk_drewN ?_ _ | refine blk_drew ?_ | refine blk_alloc ?_ _)); refine blk_far ?_ NB348_364.out _; (with_reducible repeat (first | refine blk_drewN ?_ _ | refine blk_drew ?_ | refine blk_alloc ?_ _)); exact BK348.out)) : gb365 ≠ gb348)); have n10_ := Aside0.mk ((by rw [hg]; exact Nat.ne_of_lt (blk_lt (g := gb364) (o := .cells #[.int .i64 t360, .int .i64 t361, .bool t362] 40 (0, 0)) (by (with_reducible repeat (first | refine blk_drewN ?_ _ | refine blk_drew ?_ | refine blk_alloc ?_ _)); refine blk_put (cs := #[.int .i64 t360, .int .i64 t361, .bool false]) ?_ 2 _ rfl; (with_reducible repeat (first | refine blk_drewN ?_ _ | refine blk_drew ?_ | refine blk_alloc ?_ _)); refine blk_put (cs := #[.int .i64 t360, .int .i64 0, .bool false]) ?_ 1 _ rfl; (with_reducible repeat (first | refine blk_drewN ?_ _ | refine blk_drew ?_ | refine blk_alloc ?_ _)); refine blk_put (cs := #[.int .i64 0, .int .i64 0, .bool false]) ?_ 0 _ rfl; (with_reducible repeat (first | refine blk_drewN ?_ _ | refine blk_drew ?_ | refine blk_alloc ?_ _)); exact BK364.out)) : gb364 ≠ gb365)); have n11_ := Aside0.mk ((by rw [hg]; exact Nat.ne_of_gt (blk_lt (g := gb364) (o := .cells #[.int .i64 t360, .int .i64 t361, .bool t362] 40 (0, 0)) (by (with_reducible repeat (first | refine blk_drewN ?_ _ | refine blk_drew ?_ | refine blk_alloc ?_ _)); refine blk_put (cs := #[.int .i64 t360, .int .i64 t361, .bool false]) ?_ 2 _ rfl; (with_reducible repeat (first | refine blk_drewN ?_ _ | refine blk_drew ?_ | refine blk_alloc ?_ _)); refine blk_put (cs := #[.int .i64 t360, .int .i64 0, .bool false]) ?_ 1 _ rfl; (with_reducible repeat (first | refine blk_drewN ?_ _ | refine blk_drew ?_ | refine blk_alloc ?_ _)); refine blk_put (cs := #[.int .i64 0, .int .i64 0, .bool false]) ?_ 0 _ rfl; (with_reducible repeat (first | refine blk_drewN ?_ _ | refine blk_drew ?_ | refine blk_alloc ?_ _)); exact BK364.out)) : gb365 ≠ gb364)); clear HO_5; clear HO_6; clear BK348; clear BK364; clear HB; have HO_5 := n0_; have HO_6 := n1_; have BK348 := n2_; have BK364 := n3_; have HB := n4_; have BK365 := n5_; have GW365 := n6_; have GE365 := n7_; have NB348_365 := n8_; have NB365_348 := n9_; have NB364_365 := n10_; have NB365_364 := n11_; clear n0_ n1_ n2_ n3_ n4_ n5_ n6_ n7_ n8_ n9_ n10_ n11_; clear hb hbox hg; have hnb51 := NB365_348.out; have hnc51 := NB348_365.out; have hnb52 := NB365_364.out; have hnc52 := NB364_365.out; have hcz53_0 := cz0 BK365.out; have hcz53_1 := cz1 BK365.out; have hcz53_2 := cz2 BK365.out; have hfz53_0 := blk_frozen BK365.out 0; have hfz53_1 := blk_frozen BK365.out 1; have hfz53_2 := blk_frozen BK365.out 2))
               (try simp only [Act.put, List.setIfInBounds_toArray, List.set_cons_zero, List.set_cons_succ])
               go_cut [104] (fun v104 wc => ∃ (kq : Nat) (x104_40 : Bool), v104 = .bool x104_40 ∧ Aside0 (quilllaw17_RegionBetween.j7 kq x3_1 (rdOf ByteArray.empty l0_0 x3_1) y352 t355 x7_3 x8_5 x9_7 t363 1 x104_40 l0_0 a0_1 a0_2 a0_3 a0_4 a0_5 a0_6 a0_7 l0_8 a0_9 a0_10 l0_11 t360 t361 t362 0 0 false = some r) ∧ Aside0 (kq ≤ k7) ∧ Aside0 (Kd.R (Kd.int .i32) 21 wc w.heap.size (fun _ => True) (.slice Ao23 y352.length co23) y352) ∧ Aside0 (Kd.R (Kd.int .i64) 3 wc w.heap.size (fun _ => True) (.slice (some ad358) t355.length co43) t355) ∧ Aside0 (wc.heap[gb348]? = some (.cells #[(.slice (some ad351) l0_0.length c0_0), .int .i64 a0_1, .int .i64 a0_2, .int .i64 a0_3, .int .i64 a0_4, .int .i64 a0_5, .int .i64 a0_6, .int .i64 a0_7, (.slice A0_8 l0_8.length c0_8), .int .i64 a0_9, .int .i64 a0_10, (.slice A0_11 l0_11.length c0_11)] 34 (0, 0))) ∧ Aside0 (wc.heap[gb364]? = some (.cells #[.int .i64 t360, .int .i64 t361, .bool t362] 40 (0, 0))) ∧ Aside0 (wc.heap[gb365]? = some (.cells #[.int .i64 0, .int .i64 0, .bool false] 40 (0, 0))) ∧ Aside0 (Below w.heap.size w wc))
               case first =>
                have H := HC41.out
                clear HC41
                replace H := Option.bind_eq_some_iff.mp H
                obtain ⟨t366, A540, H⟩ := H
                (try dsimp only at H)
                have A54 := Aside0.mk A540
                clear A540
                by_cases c55 : t366 = true
                rotate_left
                ·
                 replace c55 := Bool.eq_false_iff.mpr c55
                 subst c55
                 have H1 : (quilllaw17_RegionBetween.j7 k7 x3_1 (rdOf ByteArray.empty l0_0 x3_1) y352 t355 x7_3 x8_5 x9_7 t363 1 false l0_0 a0_1 a0_2 a0_3 a0_4 a0_5 a0_6 a0_7 l0_8 a0_9 a0_10 l0_11 t360 t361 t362 0 0 false) = some r := by rw [if_neg (show ¬ (false = true) by decide)] at H; exact H
                 clear H
                 have H := H1
                 clear H1
                 have H' := Aside0.mk H
                 clear H
                 go_wp2_with (first | ((with_reducible refine gate_callee (f := 10) rfl ?_); refine goesL_ (some 82) rfl rfl Tryd.func10 (by kernel_rfl) rfl #[.string (rdOf ByteArray.empty l0_0 x3_1)] rfl (map1 rfl) ?_; (with_reducible refine (quillref1_May.calls k7 (rdOf ByteArray.empty l0_0 x3_1) false _ ?side1 A54.out).mono ?_); (case side1 => exact Tabs.below HT.out (by repeat with_reducible first | exact HB.out | apply pw_below_drewN | refine below_set ?_ GE348.out | refine below_set ?_ GE364.out | refine below_set ?_ GE365.out | apply below_drew1 | apply below_alloc)); rintro e w64 ⟨rfl, hb⟩; refine ⟨_, rfl, ?_⟩; have n0_ := Aside0.mk (Kd.R_below (by (with_reducible repeat (first | apply Kd.R_alloc | apply Kd.R_drewN | apply Kd.R_drew)); exact (Kd.R_mono (Kd.R_far (p := ⟨gb365, 2, none⟩) (Kd.R_far (p := ⟨gb365, 1, none⟩) (Kd.R_far (p := ⟨gb365, 0, none⟩) (Kd.R_types HO_5.out BK365.out (by decide)) (fun _ hk => hk.2) (.int .i64 0)) (fun _ hk => hk.2) (.int .i64 0)) (fun _ hk => hk.2) (.bool false)) (fun _ h_ => h_.1))) hb); have n1_ := Aside0.mk (Kd.R_below (by (with_reducible repeat (first | apply Kd.R_alloc | apply Kd.R_drewN | apply Kd.R_drew)); exact (Kd.R_mono (Kd.R_far (p := ⟨gb365, 2, none⟩) (Kd.R_far (p := ⟨gb365, 1, none⟩) (Kd.R_far (p := ⟨gb365, 0, none⟩) (Kd.R_types HO_6.out BK365.out (by decide)) (fun _ hk => hk.2) (.int .i64 0)) (fun _ hk => hk.2) (.int .i64 0)) (fun _ hk => hk.2) (.bool false)) (fun _ h_ => h_.1))) hb); have n2_ := Aside0.mk (blk_below (g := gb348) (o := .cells #[.slice (some ad351) l0_0.length c0_0, .int .i64 a0_1, .int .i64 a0_2, .int .i64 a0_3, .int .i64 a0_4, .int .i64 a0_5, .int .i64 a0_6, .int .i64 a0_7, .slice A0_8 l0_8.length c0_8, .int .i64 a0_9, .int .i64 a0_10, .slice A0_11 l0_11.length c0_11] 34 (0, 0)) (by (with_reducible repeat (first | refine blk_drewN ?_ _ | refine blk_drew ?_ | refine blk_alloc ?_ _)); refine blk_far ?_ NB348_365.out _; (with_reducible repeat (first | refine blk_drewN ?_ _ | refine blk_drew ?_ | refine blk_alloc ?_ _)); refine blk_far ?_ NB348_365.out _; (with_reducible repeat (first | refine blk_drewN ?_ _ | refine blk_drew ?_ | refine blk_alloc ?_ _)); refine blk_far ?_ NB348_365.out _; (with_reducible repeat (first | refine blk_drewN ?_ _ | refine blk_drew ?_ | refine blk_alloc ?_ _)); exact BK348.out) hb); have n3_ := Aside0.mk (blk_below (g := gb364) (o := .cells #[.int .i64 t360, .int .i64 t361, .bool t362] 40 (0, 0)) (by (with_reducible repeat (first | refine blk_drewN ?_ _ | refine blk_drew ?_ | refine blk_alloc ?_ _)); refine blk_far ?_ NB364_365.out _; (with_reducible repeat (first | refine blk_drewN ?_ _ | refine blk_drew ?_ | refine blk_alloc ?_ _)); refine blk_far ?_ NB364_365.out _; (with_reducible repeat (first | refine blk_drewN ?_ _ | refine blk_drew ?_ | refine blk_alloc ?_ _)); refine blk_far ?_ NB364_365.out _; (with_reducible repeat (first | refine blk_drewN ?_ _ | refine blk_drew ?_ | refine blk_alloc ?_ _)); exact BK364.out) hb); have n4_ := Aside0.mk (blk_below (g := gb365) (o := .cells #[.int .i64 0, .int .i64 0, .bool false] 40 (0, 0)) (by (with_reducible repeat (first | refine blk_drewN ?_ _ | refine blk_drew ?_ | refine blk_alloc ?_ _)); refine blk_put (cs := #[.int .i64 0, .int .i64 0, .bool false]) ?_ 2 _ rfl; (with_reducible repeat (first | refine blk_drewN ?_ _ | refine blk_drew ?_ | refine blk_alloc ?_ _)); refine blk_put (cs := #[.int .i64 0, .int .i64 0, .bool false]) ?_ 1 _ rfl; (with_reducible repeat (first | refine blk_drewN ?_ _ | refine blk_drew ?_ | refine blk_alloc ?_ _)); refine blk_put (cs := #[.int .i64 0, .int .i64 0, .bool false]) ?_ 0 _ rfl; (with_reducible repeat (first | refine blk_drewN ?_ _ | refine blk_drew ?_ | refine blk_alloc ?_ _)); exact BK365.out) hb); have n5_ := Aside0.mk (below_step (by repeat with_reducible first | exact HB.out | apply pw_below_drewN | refine below_set ?_ GE348.out | refine below_set ?_ GE364.out | refine below_set ?_ GE365.out | apply below_drew1 | apply below_alloc) hb); clear HO_5; clear HO_6; clear BK348; clear BK364; clear BK365; clear HB; have HO_5 := n0_; have HO_6 := n1_; have BK348 := n2_; have BK364 := n3_; have BK365 := n4_; have HB := n5_; clear n0_ n1_ n2_ n3_ n4_ n5_; (try clear hb); (try clear hb2); (try clear hk); (try clear hi)))
                 go_meet
                 case rel => exact ⟨_, (false), (by first | rfl | (simp; done) | (simp [*]; done)), H', ⟨by have := HK1.out; have := HJ9.out; have := HK3.out; have := HJ24.out; have := HK5.out; have := HJ29.out; have := HK7.out; first | omega | exact Nat.le_refl _⟩, ⟨by (with_reducible repeat (first | apply Kd.R_alloc | apply Kd.R_drewN | apply Kd.R_drew)); exact HO_5.out⟩, ⟨by (with_reducible repeat (first | apply Kd.R_alloc | apply Kd.R_drewN | apply Kd.R_drew)); exact HO_6.out⟩, ⟨BK348.out⟩, ⟨BK364.out⟩, ⟨BK365.out⟩, ⟨by repeat with_reducible first | exact HB.out | apply pw_below_drewN | refine below_set ?_ GE348.out | refine below_set ?_ GE364.out | refine below_set ?_ GE365.out | apply below_drew1 | apply below_alloc⟩⟩
                subst c55
                have H1 : ((quillref0_Num.f (rd t355 x7_3) (y352.length : Int)).bind fun t368 => (if t368 = true then ((quillref0_Num.f (rd t355 x8_5) (y352.length : Int)).bind fun t370 => (if t370 = true then ((quillref0_Between.f x9_7 0 2).bind fun t371 => (quilllaw17_RegionBetween.j7 k7 x3_1 (rdOf ByteArray.empty l0_0 x3_1) y352 t355 x7_3 x8_5 x9_7 t363 1 t371 l0_0 a0_1 a0_2 a0_3 a0_4 a0_5 a0_6 a0_7 l0_8 a0_9 a0_10 l0_11 t360 t361 t362 0 0 false)) else (quilllaw17_RegionBetween.j7 k7 x3_1 (rdOf ByteArray.empty l0_0 x3_1) y352 t355 x7_3 x8_5 x9_7 t363 1 false l0_0 a0_1 a0_2 a0_3 a0_4 a0_5 a0_6 a0_7 l0_8 a0_9 a0_10 l0_11 t360 t361 t362 0 0 false))) else (quilllaw17_RegionBetween.j7 k7 x3_1 (rdOf ByteArray.empty l0_0 x3_1) y352 t355 x7_3 x8_5 x9_7 t363 1 false l0_0 a0_1 a0_2 a0_3 a0_4 a0_5 a0_6 a0_7 l0_8 a0_9 a0_10 l0_11 t360 t361 t362 0 0 false))) = some r := by rw [if_pos rfl] at H; exact H
                clear H
                have H := H1
                clear H1
                replace H := Option.bind_eq_some_iff.mp H
                obtain ⟨t368, A560, H⟩ := H
                (try dsimp only at H)
                have A56 := Aside0.mk A560
                clear A560
                by_cases c57 : t368 = true
                rotate_left
                ·
                 replace c57 := Bool.eq_false_iff.mpr c57
                 subst c57
                 have H1 : (quilllaw17_RegionBetween.j7 k7 x3_1 (rdOf ByteArray.empty l0_0 x3_1) y352 t355 x7_3 x8_5 x9_7 t363 1 false l0_0 a0_1 a0_2 a0_3 a0_4 a0_5 a0_6 a0_7 l0_8 a0_9 a0_10 l0_11 t360 t361 t362 0 0 false) = some r := by rw [if_neg (show ¬ (false = true) by decide)] at H; exact H
                 clear H
                 have H := H1
                 clear H1
                 have H' := Aside0.mk H
                 clear H
                 go_wp2_with (first | ((with_reducible refine gate_callee (f := 10) rfl ?_); refine goesL_ (some 82) rfl rfl Tryd.func10 (by kernel_rfl) rfl #[.string (rdOf ByteArray.empty l0_0 x3_1)] rfl (map1 rfl) ?_; (with_reducible refine (quillref1_May.calls k7 (rdOf ByteArray.empty l0_0 x3_1) true _ ?side1 A54.out).mono ?_); (case side1 => exact Tabs.below HT.out (by repeat with_reducible first | exact HB.out | apply pw_below_drewN | refine below_set ?_ GE348.out | refine below_set ?_ GE364.out | refine below_set ?_ GE365.out | apply below_drew1 | apply below_alloc)); rintro e w63 ⟨rfl, hb⟩; refine ⟨_, rfl, ?_⟩; have n0_ := Aside0.mk (Kd.R_below (by (with_reducible repeat (first | apply Kd.R_alloc | apply Kd.R_drewN | apply Kd.R_drew)); exact (Kd.R_mono (Kd.R_far (p := ⟨gb365, 2, none⟩) (Kd.R_far (p := ⟨gb365, 1, none⟩) (Kd.R_far (p := ⟨gb365, 0, none⟩) (Kd.R_types HO_5.out BK365.out (by decide)) (fun _ hk => hk.2) (.int .i64 0)) (fun _ hk => hk.2) (.int .i64 0)) (fun _ hk => hk.2) (.bool false)) (fun _ h_ => h_.1))) hb); have n1_ := Aside0.mk (Kd.R_below (by (with_reducible repeat (first | apply Kd.R_alloc | apply Kd.R_drewN | apply Kd.R_drew)); exact (Kd.R_mono (Kd.R_far (p := ⟨gb365, 2, none⟩) (Kd.R_far (p := ⟨gb365, 1, none⟩) (Kd.R_far (p := ⟨gb365, 0, none⟩) (Kd.R_types HO_6.out BK365.out (by decide)) (fun _ hk => hk.2) (.int .i64 0)) (fun _ hk => hk.2) (.int .i64 0)) (fun _ hk => hk.2) (.bool false)) (fun _ h_ => h_.1))) hb); have n2_ := Aside0.mk (blk_below (g := gb348) (o := .cells #[.slice (some ad351) l0_0.length c0_0, .int .i64 a0_1, .int .i64 a0_2, .int .i64 a0_3, .int .i64 a0_4, .int .i64 a0_5, .int .i64 a0_6, .int .i64 a0_7, .slice A0_8 l0_8.length c0_8, .int .i64 a0_9, .int .i64 a0_10, .slice A0_11 l0_11.length c0_11] 34 (0, 0)) (by (with_reducible repeat (first | refine blk_drewN ?_ _ | refine blk_drew ?_ | refine blk_alloc ?_ _)); refine blk_far ?_ NB348_365.out _; (with_reducible repeat (first | refine blk_drewN ?_ _ | refine blk_drew ?_ | refine blk_alloc ?_ _)); refine blk_far ?_ NB348_365.out _; (with_reducible repeat (first | refine blk_drewN ?_ _ | refine blk_drew ?_ | refine blk_alloc ?_ _)); refine blk_far ?_ NB348_365.out _; (with_reducible repeat (first | refine blk_drewN ?_ _ | refine blk_drew ?_ | refine blk_alloc ?_ _)); exact BK348.out) hb); have n3_ := Aside0.mk (blk_below (g := gb364) (o := .cells #[.int .i64 t360, .int .i64 t361, .bool t362] 40 (0, 0)) (by (with_reducible repeat (first | refine blk_drewN ?_ _ | refine blk_drew ?_ | refine blk_alloc ?_ _)); refine blk_far ?_ NB364_365.out _; (with_reducible repeat (first | refine blk_drewN ?_ _ | refine blk_drew ?_ | refine blk_alloc ?_ _)); refine blk_far ?_ NB364_365.out _; (with_reducible repeat (first | refine blk_drewN ?_ _ | refine blk_drew ?_ | refine blk_alloc ?_ _)); refine blk_far ?_ NB364_365.out _; (with_reducible repeat (first | refine blk_drewN ?_ _ | refine blk_drew ?_ | refine blk_alloc ?_ _)); exact BK364.out) hb); have n4_ := Aside0.mk (blk_below (g := gb365) (o := .cells #[.int .i64 0, .int .i64 0, .bool false] 40 (0, 0)) (by (with_reducible repeat (first | refine blk_drewN ?_ _ | refine blk_drew ?_ | refine blk_alloc ?_ _)); refine blk_put (cs := #[.int .i64 0, .int .i64 0, .bool false]) ?_ 2 _ rfl; (with_reducible repeat (first | refine blk_drewN ?_ _ | refine blk_drew ?_ | refine blk_alloc ?_ _)); refine blk_put (cs := #[.int .i64 0, .int .i64 0, .bool false]) ?_ 1 _ rfl; (with_reducible repeat (first | refine blk_drewN ?_ _ | refine blk_drew ?_ | refine blk_alloc ?_ _)); refine blk_put (cs := #[.int .i64 0, .int .i64 0, .bool false]) ?_ 0 _ rfl; (with_reducible repeat (first | refine blk_drewN ?_ _ | refine blk_drew ?_ | refine blk_alloc ?_ _)); exact BK365.out) hb); have n5_ := Aside0.mk (below_step (by repeat with_reducible first | exact HB.out | apply pw_below_drewN | refine below_set ?_ GE348.out | refine below_set ?_ GE364.out | refine below_set ?_ GE365.out | apply below_drew1 | apply below_alloc) hb); clear HO_5; clear HO_6; clear BK348; clear BK364; clear BK365; clear HB; have HO_5 := n0_; have HO_6 := n1_; have BK348 := n2_; have BK364 := n3_; have BK365 := n4_; have HB := n5_; clear n0_ n1_ n2_ n3_ n4_ n5_; (try clear hb); (try clear hb2); (try clear hk); (try clear hi); have p367 : 0 ≤ (x7_3 : Int) := of_decide_eq_true (by assumption); have q367 : x7_3 < (t355.length : Int) := of_decide_eq_true (by assumption); obtain ⟨ad367, e367, hx367_0⟩ := Kd.at_int (Kd.R_reads' HO_6.out).2.2 x7_3 p367 q367; obtain rfl : ad358 = ad367 := (by injection e367); replace p367 := eq_true p367; replace q367 := eq_true q367) | (go_at_call 11; (with_reducible refine (quillref0_Num.calls (rd t355 x7_3) (y352.length : Int) false _ A56.out).mono ?_); rintro e w' ⟨rfl, ⟨nd, rfl⟩⟩))
                 go_meet
                 case rel => exact ⟨_, (false), (by first | rfl | (simp; done) | (simp [*]; done)), H', ⟨by have := HK1.out; have := HJ9.out; have := HK3.out; have := HJ24.out; have := HK5.out; have := HJ29.out; have := HK7.out; first | omega | exact Nat.le_refl _⟩, ⟨by (with_reducible repeat (first | apply Kd.R_alloc | apply Kd.R_drewN | apply Kd.R_drew)); exact HO_5.out⟩, ⟨by (with_reducible repeat (first | apply Kd.R_alloc | apply Kd.R_drewN | apply Kd.R_drew)); exact HO_6.out⟩, ⟨BK348.out⟩, ⟨BK364.out⟩, ⟨BK365.out⟩, ⟨by repeat with_reducible first | exact HB.out | apply pw_below_drewN | refine below_set ?_ GE348.out | refine below_set ?_ GE364.out | refine below_set ?_ GE365.out | apply below_drew1 | apply below_alloc⟩⟩
                subst c57
                have H1 : ((quillref0_Num.f (rd t355 x8_5) (y352.length : Int)).bind fun t370 => (if t370 = true then ((quillref0_Between.f x9_7 0 2).bind fun t371 => (quilllaw17_RegionBetween.j7 k7 x3_1 (rdOf ByteArray.empty l0_0 x3_1) y352 t355 x7_3 x8_5 x9_7 t363 1 t371 l0_0 a0_1 a0_2 a0_3 a0_4 a0_5 a0_6 a0_7 l0_8 a0_9 a0_10 l0_11 t360 t361 t362 0 0 false)) else (quilllaw17_RegionBetween.j7 k7 x3_1 (rdOf ByteArray.empty l0_0 x3_1) y352 t355 x7_3 x8_5 x9_7 t363 1 false l0_0 a0_1 a0_2 a0_3 a0_4 a0_5 a0_6 a0_7 l0_8 a0_9 a0_10 l0_11 t360 t361 t362 0 0 false))) = some r := by rw [if_pos rfl] at H; exact H
                clear H
                have H := H1
                clear H1
                replace H := Option.bind_eq_some_iff.mp H
                obtain ⟨t370, A580, H⟩ := H
                (try dsimp only at H)
                have A58 := Aside0.mk A580
                clear A580
                by_cases c59 : t370 = true
                rotate_left
                ·
                 replace c59 := Bool.eq_false_iff.mpr c59
                 subst c59
                 have H1 : (quilllaw17_RegionBetween.j7 k7 x3_1 (rdOf ByteArray.empty l0_0 x3_1) y352 t355 x7_3 x8_5 x9_7 t363 1 false l0_0 a0_1 a0_2 a0_3 a0_4 a0_5 a0_6 a0_7 l0_8 a0_9 a0_10 l0_11 t360 t361 t362 0 0 false) = some r := by rw [if_neg (show ¬ (false = true) by decide)] at H; exact H
                 clear H
                 have H := H1
                 clear H1
                 have H' := Aside0.mk H
                 clear H
                 go_wp2_with (first | ((with_reducible refine gate_callee (f := 10) rfl ?_); refine goesL_ (some 82) rfl rfl Tryd.func10 (by kernel_rfl) rfl #[.string (rdOf ByteArray.empty l0_0 x3_1)] rfl (map1 rfl) ?_; (with_reducible refine (quillref1_May.calls k7 (rdOf ByteArray.empty l0_0 x3_1) true _ ?side1 A54.out).mono ?_); (case side1 => exact Tabs.below HT.out (by repeat with_reducible first | exact HB.out | apply pw_below_drewN | refine below_set ?_ GE348.out | refine below_set ?_ GE364.out | refine below_set ?_ GE365.out | apply below_drew1 | apply below_alloc)); rintro e w62 ⟨rfl, hb⟩; refine ⟨_, rfl, ?_⟩; have n0_ := Aside0.mk (Kd.R_below (by (with_reducible repeat (first | apply Kd.R_alloc | apply Kd.R_drewN | apply Kd.R_drew)); exact (Kd.R_mono (Kd.R_far (p := ⟨gb365, 2, none⟩) (Kd.R_far (p := ⟨gb365, 1, none⟩) (Kd.R_far (p := ⟨gb365, 0, none⟩) (Kd.R_types HO_5.out BK365.out (by decide)) (fun _ hk => hk.2) (.int .i64 0)) (fun _ hk => hk.2) (.int .i64 0)) (fun _ hk => hk.2) (.bool false)) (fun _ h_ => h_.1))) hb); have n1_ := Aside0.mk (Kd.R_below (by (with_reducible repeat (first | apply Kd.R_alloc | apply Kd.R_drewN | apply Kd.R_drew)); exact (Kd.R_mono (Kd.R_far (p := ⟨gb365, 2, none⟩) (Kd.R_far (p := ⟨gb365, 1, none⟩) (Kd.R_far (p := ⟨gb365, 0, none⟩) (Kd.R_types HO_6.out BK365.out (by decide)) (fun _ hk => hk.2) (.int .i64 0)) (fun _ hk => hk.2) (.int .i64 0)) (fun _ hk => hk.2) (.bool false)) (fun _ h_ => h_.1))) hb); have n2_ := Aside0.mk (blk_below (g := gb348) (o := .cells #[.slice (some ad351) l0_0.length c0_0, .int .i64 a0_1, .int .i64 a0_2, .int .i64 a0_3, .int .i64 a0_4, .int .i64 a0_5, .int .i64 a0_6, .int .i64 a0_7, .slice A0_8 l0_8.length c0_8, .int .i64 a0_9, .int .i64 a0_10, .slice A0_11 l0_11.length c0_11] 34 (0, 0)) (by (with_reducible repeat (first | refine blk_drewN ?_ _ | refine blk_drew ?_ | refine blk_alloc ?_ _)); refine blk_far ?_ NB348_365.out _; (with_reducible repeat (first | refine blk_drewN ?_ _ | refine blk_drew ?_ | refine blk_alloc ?_ _)); refine blk_far ?_ NB348_365.out _; (with_reducible repeat (first | refine blk_drewN ?_ _ | refine blk_drew ?_ | refine blk_alloc ?_ _)); refine blk_far ?_ NB348_365.out _; (with_reducible repeat (first | refine blk_drewN ?_ _ | refine blk_drew ?_ | refine blk_alloc ?_ _)); exact BK348.out) hb); have n3_ := Aside0.mk (blk_below (g := gb364) (o := .cells #[.int .i64 t360, .int .i64 t361, .bool t362] 40 (0, 0)) (by (with_reducible repeat (first | refine blk_drewN ?_ _ | refine blk_drew ?_ | refine blk_alloc ?_ _)); refine blk_far ?_ NB364_365.out _; (with_reducible repeat (first | refine blk_drewN ?_ _ | refine blk_drew ?_ | refine blk_alloc ?_ _)); refine blk_far ?_ NB364_365.out _; (with_reducible repeat (first | refine blk_drewN ?_ _ | refine blk_drew ?_ | refine blk_alloc ?_ _)); refine blk_far ?_ NB364_365.out _; (with_reducible repeat (first | refine blk_drewN ?_ _ | refine blk_drew ?_ | refine blk_alloc ?_ _)); exact BK364.out) hb); have n4_ := Aside0.mk (blk_below (g := gb365) (o := .cells #[.int .i64 0, .int .i64 0, .bool false] 40 (0, 0)) (by (with_reducible repeat (first | refine blk_drewN ?_ _ | refine blk_drew ?_ | refine blk_alloc ?_ _)); refine blk_put (cs := #[.int .i64 0, .int .i64 0, .bool false]) ?_ 2 _ rfl; (with_reducible repeat (first | refine blk_drewN ?_ _ | refine blk_drew ?_ | refine blk_alloc ?_ _)); refine blk_put (cs := #[.int .i64 0, .int .i64 0, .bool false]) ?_ 1 _ rfl; (with_reducible repeat (first | refine blk_drewN ?_ _ | refine blk_drew ?_ | refine blk_alloc ?_ _)); refine blk_put (cs := #[.int .i64 0, .int .i64 0, .bool false]) ?_ 0 _ rfl; (with_reducible repeat (first | refine blk_drewN ?_ _ | refine blk_drew ?_ | refine blk_alloc ?_ _)); exact BK365.out) hb); have n5_ := Aside0.mk (below_step (by repeat with_reducible first | exact HB.out | apply pw_below_drewN | refine below_set ?_ GE348.out | refine below_set ?_ GE364.out | refine below_set ?_ GE365.out | apply below_drew1 | apply below_alloc) hb); clear HO_5; clear HO_6; clear BK348; clear BK364; clear BK365; clear HB; have HO_5 := n0_; have HO_6 := n1_; have BK348 := n2_; have BK364 := n3_; have BK365 := n4_; have HB := n5_; clear n0_ n1_ n2_ n3_ n4_ n5_; (try clear hb); (try clear hb2); (try clear hk); (try clear hi); have p367 : 0 ≤ (x7_3 : Int) := of_decide_eq_true (by assumption); have q367 : x7_3 < (t355.length : Int) := of_decide_eq_true (by assumption); obtain ⟨ad367, e367, hx367_0⟩ := Kd.at_int (Kd.R_reads' HO_6.out).2.2 x7_3 p367 q367; obtain rfl : ad358 = ad367 := (by injection e367); replace p367 := eq_true p367; replace q367 := eq_true q367) | (go_at_call 11; (with_reducible refine (quillref0_Num.calls (rd t355 x7_3) (y352.length : Int) true _ A56.out).mono ?_); rintro e w' ⟨rfl, ⟨nd, rfl⟩⟩; have p369 : 0 ≤ (x8_5 : Int) := of_decide_eq_true (by assumption); have q369 : x8_5 < (t355.length : Int) := of_decide_eq_true (by assumption); obtain ⟨ad369, e369, hx369_0⟩ := Kd.at_int (Kd.R_reads' HO_6.out).2.2 x8_5 p369 q369; obtain rfl : ad358 = ad369 := (by injection e369); replace p369 := eq_true p369; replace q369 := eq_true q369) | (go_at_call 11; (with_reducible refine (quillref0_Num.calls (rd t355 x8_5) (y352.length : Int) false _ A58.out).mono ?_); rintro e w' ⟨rfl, ⟨nd, rfl⟩⟩))
                 go_meet
                 case rel => exact ⟨_, (false), (by first | rfl | (simp; done) | (simp [*]; done)), H', ⟨by have := HK1.out; have := HJ9.out; have := HK3.out; have := HJ24.out; have := HK5.out; have := HJ29.out; have := HK7.out; first | omega | exact Nat.le_refl _⟩, ⟨by (with_reducible repeat (first | apply Kd.R_alloc | apply Kd.R_drewN | apply Kd.R_drew)); exact HO_5.out⟩, ⟨by (with_reducible repeat (first | apply Kd.R_alloc | apply Kd.R_drewN | apply Kd.R_drew)); exact HO_6.out⟩, ⟨BK348.out⟩, ⟨BK364.out⟩, ⟨BK365.out⟩, ⟨by repeat with_reducible first | exact HB.out | apply pw_below_drewN | refine below_set ?_ GE348.out | refine below_set ?_ GE364.out | refine below_set ?_ GE365.out | apply below_drew1 | apply below_alloc⟩⟩
                subst c59
                have H1 : ((quillref0_Between.f x9_7 0 2).bind fun t371 => (quilllaw17_RegionBetween.j7 k7 x3_1 (rdOf ByteArray.empty l0_0 x3_1) y352 t355 x7_3 x8_5 x9_7 t363 1 t371 l0_0 a0_1 a0_2 a0_3 a0_4 a0_5 a0_6 a0_7 l0_8 a0_9 a0_10 l0_11 t360 t361 t362 0 0 false)) = some r := by rw [if_pos rfl] at H; exact H
                clear H
                have H := H1
                clear H1
                replace H := Option.bind_eq_some_iff.mp H
                obtain ⟨t371, A600, H⟩ := H
                (try dsimp only at H)
                have A60 := Aside0.mk A600
                clear A600
                have H' := Aside0.mk H
                clear H
                go_wp2_with (first | ((with_reducible refine gate_callee (f := 10) rfl ?_); refine goesL_ (some 82) rfl rfl Tryd.func10 (by kernel_rfl) rfl #[.string (rdOf ByteArray.empty l0_0 x3_1)] rfl (map1 rfl) ?_; (with_reducible refine (quillref1_May.calls k7 (rdOf ByteArray.empty l0_0 x3_1) true _ ?side1 A54.out).mono ?_); (case side1 => exact Tabs.below HT.out (by repeat with_reducible first | exact HB.out | apply pw_below_drewN | refine below_set ?_ GE348.out | refine below_set ?_ GE364.out | refine below_set ?_ GE365.out | apply below_drew1 | apply below_alloc)); rintro e w61 ⟨rfl, hb⟩; refine ⟨_, rfl, ?_⟩; have n0_ := Aside0.mk (Kd.R_below (by (with_reducible repeat (first | apply Kd.R_alloc | apply Kd.R_drewN | apply Kd.R_drew)); exact (Kd.R_mono (Kd.R_far (p := ⟨gb365, 2, none⟩) (Kd.R_far (p := ⟨gb365, 1, none⟩) (Kd.R_far (p := ⟨gb365, 0, none⟩) (Kd.R_types HO_5.out BK365.out (by decide)) (fun _ hk => hk.2) (.int .i64 0)) (fun _ hk => hk.2) (.int .i64 0)) (fun _ hk => hk.2) (.bool false)) (fun _ h_ => h_.1))) hb); have n1_ := Aside0.mk (Kd.R_below (by (with_reducible repeat (first | apply Kd.R_alloc | apply Kd.R_drewN | apply Kd.R_drew)); exact (Kd.R_mono (Kd.R_far (p := ⟨gb365, 2, none⟩) (Kd.R_far (p := ⟨gb365, 1, none⟩) (Kd.R_far (p := ⟨gb365, 0, none⟩) (Kd.R_types HO_6.out BK365.out (by decide)) (fun _ hk => hk.2) (.int .i64 0)) (fun _ hk => hk.2) (.int .i64 0)) (fun _ hk => hk.2) (.bool false)) (fun _ h_ => h_.1))) hb); have n2_ := Aside0.mk (blk_below (g := gb348) (o := .cells #[.slice (some ad351) l0_0.length c0_0, .int .i64 a0_1, .int .i64 a0_2, .int .i64 a0_3, .int .i64 a0_4, .int .i64 a0_5, .int .i64 a0_6, .int .i64 a0_7, .slice A0_8 l0_8.length c0_8, .int .i64 a0_9, .int .i64 a0_10, .slice A0_11 l0_11.length c0_11] 34 (0, 0)) (by (with_reducible repeat (first | refine blk_drewN ?_ _ | refine blk_drew ?_ | refine blk_alloc ?_ _)); refine blk_far ?_ NB348_365.out _; (with_reducible repeat (first | refine blk_drewN ?_ _ | refine blk_drew ?_ | refine blk_alloc ?_ _)); refine blk_far ?_ NB348_365.out _; (with_reducible repeat (first | refine blk_drewN ?_ _ | refine blk_drew ?_ | refine blk_alloc ?_ _)); refine blk_far ?_ NB348_365.out _; (with_reducible repeat (first | refine blk_drewN ?_ _ | refine blk_drew ?_ | refine blk_alloc ?_ _)); exact BK348.out) hb); have n3_ := Aside0.mk (blk_below (g := gb364) (o := .cells #[.int .i64 t360, .int .i64 t361, .bool t362] 40 (0, 0)) (by (with_reducible repeat (first | refine blk_drewN ?_ _ | refine blk_drew ?_ | refine blk_alloc ?_ _)); refine blk_far ?_ NB364_365.out _; (with_reducible repeat (first | refine blk_drewN ?_ _ | refine blk_drew ?_ | refine blk_alloc ?_ _)); refine blk_far ?_ NB364_365.out _; (with_reducible repeat (first | refine blk_drewN ?_ _ | refine blk_drew ?_ | refine blk_alloc ?_ _)); refine blk_far ?_ NB364_365.out _; (with_reducible repeat (first | refine blk_drewN ?_ _ | refine blk_drew ?_ | refine blk_alloc ?_ _)); exact BK364.out) hb); have n4_ := Aside0.mk (blk_below (g := gb365) (o := .cells #[.int .i64 0, .int .i64 0, .bool false] 40 (0, 0)) (by (with_reducible repeat (first | refine blk_drewN ?_ _ | refine blk_drew ?_ | refine blk_alloc ?_ _)); refine blk_put (cs := #[.int .i64 0, .int .i64 0, .bool false]) ?_ 2 _ rfl; (with_reducible repeat (first | refine blk_drewN ?_ _ | refine blk_drew ?_ | refine blk_alloc ?_ _)); refine blk_put (cs := #[.int .i64 0, .int .i64 0, .bool false]) ?_ 1 _ rfl; (with_reducible repeat (first | refine blk_drewN ?_ _ | refine blk_drew ?_ | refine blk_alloc ?_ _)); refine blk_put (cs := #[.int .i64 0, .int .i64 0, .bool false]) ?_ 0 _ rfl; (with_reducible repeat (first | refine blk_drewN ?_ _ | refine blk_drew ?_ | refine blk_alloc ?_ _)); exact BK365.out) hb); have n5_ := Aside0.mk (below_step (by repeat with_reducible first | exact HB.out | apply pw_below_drewN | refine below_set ?_ GE348.out | refine below_set ?_ GE364.out | refine below_set ?_ GE365.out | apply below_drew1 | apply below_alloc) hb); clear HO_5; clear HO_6; clear BK348; clear BK364; clear BK365; clear HB; have HO_5 := n0_; have HO_6 := n1_; have BK348 := n2_; have BK364 := n3_; have BK365 := n4_; have HB := n5_; clear n0_ n1_ n2_ n3_ n4_ n5_; (try clear hb); (try clear hb2); (try clear hk); (try clear hi); have p367 : 0 ≤ (x7_3 : Int) := of_decide_eq_true (by assumption); have q367 : x7_3 < (t355.length : Int) := of_decide_eq_true (by assumption); obtain ⟨ad367, e367, hx367_0⟩ := Kd.at_int (Kd.R_reads' HO_6.out).2.2 x7_3 p367 q367; obtain rfl : ad358 = ad367 := (by injection e367); replace p367 := eq_true p367; replace q367 := eq_true q367) | (go_at_call 11; (with_reducible refine (quillref0_Num.calls (rd t355 x7_3) (y352.length : Int) true _ A56.out).mono ?_); rintro e w' ⟨rfl, ⟨nd, rfl⟩⟩; have p369 : 0 ≤ (x8_5 : Int) := of_decide_eq_true (by assumption); have q369 : x8_5 < (t355.length : Int) := of_decide_eq_true (by assumption); obtain ⟨ad369, e369, hx369_0⟩ := Kd.at_int (Kd.R_reads' HO_6.out).2.2 x8_5 p369 q369; obtain rfl : ad358 = ad369 := (by injection e369); replace p369 := eq_true p369; replace q369 := eq_true q369) | (go_at_call 11; (with_reducible refine (quillref0_Num.calls (rd t355 x8_5) (y352.length : Int) true _ A58.out).mono ?_); rintro e w' ⟨rfl, ⟨nd, rfl⟩⟩) | (go_at_call 12; (with_reducible refine (quillref0_Between.calls x9_7 0 2 t371 _ A60.out).mono ?_); rintro e w' ⟨rfl, ⟨nd, rfl⟩⟩))
                go_meet
                case rel => exact ⟨_, (t371), (by first | rfl | (simp; done) | (simp [*]; done)), H', ⟨by have := HK1.out; have := HJ9.out; have := HK3.out; have := HJ24.out; have := HK5.out; have := HJ29.out; have := HK7.out; first | omega | exact Nat.le_refl _⟩, ⟨by (with_reducible repeat (first | apply Kd.R_alloc | apply Kd.R_drewN | apply Kd.R_drew)); exact HO_5.out⟩, ⟨by (with_reducible repeat (first | apply Kd.R_alloc | apply Kd.R_drewN | apply Kd.R_drew)); exact HO_6.out⟩, ⟨BK348.out⟩, ⟨BK364.out⟩, ⟨BK365.out⟩, ⟨by repeat with_reducible first | exact HB.out | apply pw_below_drewN | refine below_set ?_ GE348.out | refine below_set ?_ GE364.out | refine below_set ?_ GE365.out | apply below_drew1 | apply below_alloc⟩⟩
               case rest =>
                clear HC41
                try clear c3
                try clear c35
                try clear c35b0
                try clear c36
                try clear c36b0
                try clear c37
                try clear c37b0
                try clear c38
                try clear c38b0
                try clear c39
                try clear c39b0
                try clear hcz19_3
                try clear hcz19_4
                try clear hcz19_5
                try clear hcz19_6
                try clear hcz19_7
                try clear hcz19_8
                try clear hcz19_9
                try clear hcz22_0
                try clear hcz22_1
                try clear hcz22_10
                try clear hcz22_11
                try clear hcz22_2
                try clear hcz22_3
                try clear hcz22_4
                try clear hcz22_5
                try clear hcz22_6
                try clear hcz22_7
                try clear hcz22_8
                try clear hcz22_9
                try clear hcz53_0
                try clear hcz53_1
                try clear hcz53_2
                try clear hcz8_0
                try clear hcz8_1
                try clear hcz8_10
                try clear hcz8_11
                try clear hcz8_2
                try clear hcz8_3
                try clear hcz8_4
                try clear hcz8_5
                try clear hcz8_6
                try clear hcz8_7
                try clear hcz8_8
                try clear hcz8_9
                try clear hfz19_0
                try clear hfz19_1
                try clear hfz19_10
                try clear hfz19_11
                try clear hfz19_2
                try clear hfz19_3
                try clear hfz19_4
                try clear hfz19_5
                try clear hfz19_6
                try clear hfz19_7
                try clear hfz19_8
                try clear hfz19_9
                try clear hfz22_0
                try clear hfz22_1
                try clear hfz22_10
                try clear hfz22_11
                try clear hfz22_2
                try clear hfz22_3
                try clear hfz22_4
                try clear hfz22_5
                try clear hfz22_6
                try clear hfz22_7
                try clear hfz22_8
                try clear hfz22_9
                try clear hfz53_0
                try clear hfz53_1
                try clear hfz53_2
                try clear hfz8_0
                try clear hfz8_1
                try clear hfz8_10
                try clear hfz8_11
                try clear hfz8_2
                try clear hfz8_3
                try clear hfz8_4
                try clear hfz8_5
                try clear hfz8_6
                try clear hfz8_7
                try clear hfz8_8
                try clear hfz8_9
                try clear hx351_0
                try clear hx358_0
                try clear hx359_0
                try clear p351
                try clear p358
                try clear p359
                try clear q351
                try clear q358
                try clear q359
                obtain ⟨kq, x104_40, rfl, HA, HJ40, HO_5, HO_6, BK348, BK364, BK365, HB⟩ := hcut
                cases kq with
                | zero => exact absurd HA.out (by simp [quilllaw17_RegionBetween.j7])
                | succ kj40 =>
                 have H := HA.out
                 clear HA
                 simp only [quilllaw17_RegionBetween.j7] at H
                 by_cases c65 : x104_40 = true
                 rotate_left
                 ·
                  replace c65 := Bool.eq_false_iff.mpr c65
                  subst c65
                  have H1 : ((quilllaw17_num.f t363).bind fun t378 => (if t378 = 1 then (if (!(t360 == 0) || (!(t361 == 0) || (!(t362 == false)))) = true then (none) else (if t360 > t361 then (none) else (if t361 > (y352.length : Int) then (none) else (quilllaw17_RegionBetween.l3 kj40 x3_1 (rdOf ByteArray.empty l0_0 x3_1) y352 t355 x7_3 x8_5 (wrap64 (x9_7 + 1)) l0_0 a0_1 a0_2 a0_3 a0_4 a0_5 a0_6 a0_7 l0_8 a0_9 a0_10 l0_11)))) else (none))) = some r := by rw [if_neg (show ¬ (false = true) by decide)] at H; exact H
                  clear H
                  have H := H1
                  clear H1
                  replace H := Option.bind_eq_some_iff.mp H
                  obtain ⟨t378, A860, H⟩ := H
                  (try dsimp only at H)
                  have A86 := Aside0.mk A860
                  clear A860
                  by_cases c87 : t378 = 1
                  rotate_left
                  ·
                   rw [if_neg c87] at H
                   exact absurd H (by simp)
                  rw [if_pos c87] at H
                  have c87b0 : (t378 == 1) = true := beq_iff_eq.mpr c87
                  have c87b1 : (t378 != 1) = false := bne_eq_false_iff_eq.mpr c87
                  clear c87
                  by_cases c88 : (!(t360 == 0) || (!(t361 == 0) || (!(t362 == false)))) = true
                  ·
                   rw [if_pos c88] at H
                   exact absurd H (by simp)
                  rw [if_neg c88] at H
                  have c88b0 : (!(t360 == 0) || (!(t361 == 0) || (!(t362 == false)))) = false := by simpa using c88
                  have c88b5 : (!(t360 == 0) || (!(t361 == 0) || t362)) = false := by rw [show t362 = (!(t362 == false)) from by cases t362 <;> rfl]; exact c88b0
                  clear c88
                  by_cases c89 : t360 > t361
                  ·
                   rw [if_pos c89] at H
                   exact absurd H (by simp)
                  rw [if_neg c89] at H
                  have c89b0 := decide_eq_false c89
                  clear c89
                  by_cases c90 : t361 > (y352.length : Int)
                  ·
                   rw [if_pos c90] at H
                   exact absurd H (by simp)
                  rw [if_neg c90] at H
                  have c90b0 := decide_eq_false c90
                  clear c90
                  have H' := Aside0.mk H
                  clear H
                  go_wp2_with (first | ((with_reducible refine gate_callee (f := 14) rfl ?_); refine goesL_ (some 117) rfl rfl Tryd.func14 (by kernel_rfl) rfl #[.int .i64 t363] rfl (map1 rfl) ?_; (with_reducible refine (quilllaw17_num.calls t363 t378 _ A86.out).mono ?_); rintro e w' ⟨rfl, ⟨nd, rfl⟩⟩; refine ⟨_, rfl, ?_⟩; have hnb91 := NB364_348.out; have hnc91 := NB348_364.out; have hnb92 := NB364_365.out; have hnc92 := NB365_364.out; have hcz93_0 := cz0 BK364.out; have hcz93_1 := cz1 BK364.out; have hcz93_2 := cz2 BK364.out; have hfz93_0 := blk_frozen BK364.out 0; have hfz93_1 := blk_frozen BK364.out 1; have hfz93_2 := blk_frozen BK364.out 2; have hnb94 := NB365_348.out; have hnc94 := NB348_365.out; have hcz95_0 := cz0 BK365.out; have hcz95_1 := cz1 BK365.out; have hcz95_2 := cz2 BK365.out; have hfz95_0 := blk_frozen BK365.out 0; have hfz95_1 := blk_frozen BK365.out 1; have hfz95_2 := blk_frozen BK365.out 2))
                  go_roundg kj40
                  case measure => have := HK1.out; have := HJ9.out; have := HK3.out; have := HJ24.out; have := HK5.out; have := HJ29.out; have := HK7.out; have := HJ40.out; omega
                  case rel => exact ⟨(wrap64 (x9_7 + 1)), (by first | rfl | (simp; done) | (simp [*]; done)), H', ⟨by have := HK1.out; have := HJ9.out; have := HK3.out; have := HJ24.out; have := HK5.out; have := HJ29.out; have := HK7.out; have := HJ40.out; omega⟩, ⟨by (with_reducible repeat (first | apply Kd.R_alloc | apply Kd.R_drewN | apply Kd.R_drew)); exact HO_5.out⟩, ⟨by (with_reducible repeat (first | apply Kd.R_alloc | apply Kd.R_drewN | apply Kd.R_drew)); exact HO_6.out⟩, ⟨BK348.out⟩, ⟨by repeat with_reducible first | exact HB.out | apply pw_below_drewN | refine below_set ?_ GE348.out | refine below_set ?_ GE364.out | refine below_set ?_ GE365.out | apply below_drew1 | apply below_alloc⟩⟩
                 subst c65
                 have H1 : (if 0 ≤ x7_3 then (if x7_3 < (t355.length : Int) then (if 0 ≤ x8_5 then (if x8_5 < (t355.length : Int) then ((quillref15_Between.f kj40 y352 (rd t355 x7_3) (rd t355 x8_5) x9_7).bind fun bt374 => ((quilllaw17_num.f t363).bind fun t377 => (if t377 = 0 then (if (!(t360 == bt374.1) || (!(t361 == bt374.2.1) || (!(t362 == bt374.2.2)))) = true then (none) else (if t360 > t361 then (none) else (if t361 > (y352.length : Int) then (none) else (quilllaw17_RegionBetween.l3 kj40 x3_1 (rdOf ByteArray.empty l0_0 x3_1) y352 t355 x7_3 x8_5 (wrap64 (x9_7 + 1)) l0_0 a0_1 a0_2 a0_3 a0_4 a0_5 a0_6 a0_7 l0_8 a0_9 a0_10 l0_11)))) else (none)))) else (none)) else (none)) else (none)) else (none)) = some r := by rw [if_pos rfl] at H; exact H
                 clear H
                 have H := H1
                 clear H1
                 by_cases c66 : 0 ≤ x7_3
                 rotate_left
                 ·
                  rw [if_neg c66] at H
                  exact absurd H (by simp)
                 rw [if_pos c66] at H
                 have c66b0 := decide_eq_true c66
                 clear c66
                 by_cases c67 : x7_3 < (t355.length : Int)
                 rotate_left
                 ·
                  rw [if_neg c67] at H
                  exact absurd H (by simp)
                 rw [if_pos c67] at H
                 have c67b0 := decide_eq_true c67
                 clear c67
                 by_cases c68 : 0 ≤ x8_5
                 rotate_left
                 ·
                  rw [if_neg c68] at H
                  exact absurd H (by simp)
                 rw [if_pos c68] at H
                 have c68b0 := decide_eq_true c68
                 clear c68
                 by_cases c69 : x8_5 < (t355.length : Int)
                 rotate_left
                 ·
                  rw [if_neg c69] at H
                  exact absurd H (by simp)
                 rw [if_pos c69] at H
                 have c69b0 := decide_eq_true c69
                 clear c69
                 replace H := Option.bind_eq_some_iff.mp H
                 obtain ⟨⟨t374, t375, t376⟩, A700, H⟩ := H
                 (try dsimp only at H)
                 have A70 := Aside0.mk A700
                 clear A700
                 replace H := Option.bind_eq_some_iff.mp H
                 obtain ⟨t377, A710, H⟩ := H
                 (try dsimp only at H)
                 have A71 := Aside0.mk A710
                 clear A710
                 by_cases c72 : t377 = 0
                 rotate_left
                 ·
                  rw [if_neg c72] at H
                  exact absurd H (by simp)
                 rw [if_pos c72] at H
                 have c72b0 : (t377 == 0) = true := beq_iff_eq.mpr c72
                 have c72b1 : (t377 != 0) = false := bne_eq_false_iff_eq.mpr c72
                 clear c72
                 by_cases c73 : (!(t360 == t374) || (!(t361 == t375) || (!(t362 == t376)))) = true
                 ·
                  rw [if_pos c73] at H
                  exact absurd H (by simp)
                 rw [if_neg c73] at H
                 have c73b0 : (!(t360 == t374) || (!(t361 == t375) || (!(t362 == t376)))) = false := by simpa using c73
                 clear c73
                 by_cases c74 : t360 > t361
                 ·
                  rw [if_pos c74] at H
                  exact absurd H (by simp)
                 rw [if_neg c74] at H
                 have c74b0 := decide_eq_false c74
                 clear c74
                 by_cases c75 : t361 > (y352.length : Int)
                 ·
                  rw [if_pos c75] at H
                  exact absurd H (by simp)
                 rw [if_neg c75] at H
                 have c75b0 := decide_eq_false c75
                 clear c75
                 have H' := Aside0.mk H
                 clear H
                 try go_wp2
                 have n0_ := Aside0.mk (Kd.R_drew HO_5.out)
                 have n1_ := Aside0.mk (Kd.R_drew HO_6.out)
                 have n2_ := Aside0.mk (blk_drew BK348.out)
                 have n3_ := Aside0.mk (blk_drew BK364.out)
                 have n4_ := Aside0.mk (blk_drew BK365.out)
                 have n5_ := Aside0.mk (below_drew1 HB.out)
                 clear HO_5
                 clear HO_6
                 clear BK348
                 clear BK364
                 clear BK365
                 clear HB
                 have HO_5 := n0_
                 have HO_6 := n1_
                 have BK348 := n2_
                 have BK364 := n3_
                 have BK365 := n4_
                 have HB := n5_
                 clear n0_ n1_ n2_ n3_ n4_ n5_
                 have p372 : 0 ≤ (x7_3 : Int) := of_decide_eq_true (by assumption)
                 have q372 : x7_3 < (t355.length : Int) := of_decide_eq_true (by assumption)
                 obtain ⟨ad372, e372, hx372_0⟩ := Kd.at_int (Kd.R_reads' HO_6.out).2.2 x7_3 p372 q372
                 obtain rfl : ad358 = ad372 := (by injection e372)
                 replace p372 := eq_true p372
                 replace q372 := eq_true q372
                 have p373 : 0 ≤ (x8_5 : Int) := of_decide_eq_true (by assumption)
                 have q373 : x8_5 < (t355.length : Int) := of_decide_eq_true (by assumption)
                 obtain ⟨ad373, e373, hx373_0⟩ := Kd.at_int (Kd.R_reads' HO_6.out).2.2 x8_5 p373 q373
                 obtain rfl : ad358 = ad373 := (by injection e373)
                 replace p373 := eq_true p373
                 replace q373 := eq_true q373
                 refine start_ (n := 13) (S := fun w' => w'.cell? (ad358.add (x7_3).toNat) = some (.int .i64 (rd t355 x7_3)) ∧ w'.cell? (ad358.add (x8_5).toNat) = some (.int .i64 (rd t355 x8_5))) (ds := []) (bs 13 0) (by kernel_rfl) rfl rfl ⟨hx372_0, hx373_0⟩ (fun hHeld => ?_); refine with_tabW quilllaw17_RegionBetween.tab21 quilllaw17_RegionBetween.bits21 (fun HT_ HW_ => ?_)
                 generalize wc.drew = w76 at HO_5 HO_6 BK348 BK364 BK365 HB hx372_0 hx373_0 hHeld ⊢
                 refine pure_ (i := 0) (N := some 105) (v := ?_) (a' := ?_) (bs 13 1) rfl rfl (any_of HT_.out (by kernel_rfl)) (fun _ _ _ h => h) (Or.inl ⟨by rfl, ?_⟩) ?_ ?_
                 rotate_left
                 · intro w'; go_simp; with_reducible rfl
                 rotate_left
                 · simp only [Act.put, List.setIfInBounds_toArray, List.set_cons_zero, List.set_cons_succ, i64_w, i32_w]; rfl
                 refine pure_ (i := 1) (N := some 106) (v := ?_) (a' := ?_) (bs 13 3) rfl rfl (any_of HT_.out (by kernel_rfl)) (fun _ _ _ h => h) (Or.inl ⟨by rfl, ?_⟩) ?_ ?_
                 rotate_left
                 · intro w'; go_simp; with_reducible rfl
                 rotate_left
                 · simp only [Act.put, List.setIfInBounds_toArray, List.set_cons_zero, List.set_cons_succ, i64_w, i32_w]; rfl
                 refine pure_ (i := 2) (N := some 107) (v := ?_) (a' := ?_) (bs 13 7) rfl rfl (any_of HT_.out (by kernel_rfl)) (fun _ _ _ h => h) (Or.inl ⟨by rfl, ?_⟩) ?_ ?_
                 rotate_left
                 · intro w'; go_simp; with_reducible rfl
                 rotate_left
                 · simp only [Act.put, List.setIfInBounds_toArray, List.set_cons_zero, List.set_cons_succ, i64_w, i32_w]; rfl
                 refine pure_ (i := 3) (N := some 108) (v := ?_) (a' := ?_) (bs 13 15) rfl rfl (any_of HT_.out (by kernel_rfl)) (fun _ _ _ h => h) (Or.inl ⟨by rfl, ?_⟩) ?_ ?_
                 rotate_left
                 · intro w'; go_simp; with_reducible rfl
                 rotate_left
                 · simp only [Act.put, List.setIfInBounds_toArray, List.set_cons_zero, List.set_cons_succ, i64_w, i32_w]; rfl
                 refine pure_ (i := 5) (N := some 110) (v := ?_) (a' := ?_) (bs 13 47) rfl rfl (any_of HT_.out (by kernel_rfl)) (fun _ _ _ h => h) (Or.inl ⟨by rfl, ?_⟩) ?_ ?_
                 rotate_left
                 · intro w'; go_simp; with_reducible rfl
                 rotate_left
                 · simp only [Act.put, List.setIfInBounds_toArray, List.set_cons_zero, List.set_cons_succ, i64_w, i32_w]; rfl
                 refine pure_ (i := 6) (N := some 111) (v := ?_) (a' := ?_) (bs 13 111) rfl rfl (any_of HT_.out (by kernel_rfl)) (fun _ _ _ h => h) (Or.inl ⟨by rfl, ?_⟩) ?_ ?_
                 rotate_left
                 · intro w'; go_simp; with_reducible rfl
                 rotate_left
                 · simp only [Act.put, List.setIfInBounds_toArray, List.set_cons_zero, List.set_cons_succ, i64_w, i32_w]; rfl
                 refine pure_ (i := 7) (N := some 112) (v := ?_) (a' := ?_) (bs 13 239) rfl rfl (any_of HT_.out (by kernel_rfl)) (fun _ _ _ h => h) (Or.inl ⟨by rfl, ?_⟩) ?_ ?_
                 rotate_left
                 · intro w'; go_simp; with_reducible rfl
                 rotate_left
                 · simp only [Act.put, List.setIfInBounds_toArray, List.set_cons_zero, List.set_cons_succ, i64_w, i32_w]; rfl
                 refine pure_ (i := 9) (N := some 114) (v := ?_) (a' := ?_) (bs 13 751) rfl rfl (any_of HT_.out (by kernel_rfl)) (fun _ _ _ h => h) (Or.inl ⟨by rfl, ?_⟩) ?_ ?_
                 rotate_left
                 · intro w'; go_simp; with_reducible rfl
                 rotate_left
                 · simp only [Act.put, List.setIfInBounds_toArray, List.set_cons_zero, List.set_cons_succ, i64_w, i32_w]; rfl
                 refine take_ (i := 4) (N := some 109) (v := ?_) (a' := ?_) (bs 13 767) rfl rfl (take_ofW HT_.out HW_.out (by kernel_rfl)) (fun _ _ _ h => h) (Or.inl ⟨by rfl, ?_⟩) hHeld ?_ ?_
                 rotate_left
                 · rintro w' ⟨s0, s1⟩; go_simp; with_reducible rfl
                 rotate_left
                 · simp only [Act.put, List.setIfInBounds_toArray, List.set_cons_zero, List.set_cons_succ, i64_w, i32_w]; rfl
                 refine take_ (i := 8) (N := some 113) (v := ?_) (a' := ?_) (bs 13 1023) rfl rfl (take_ofW HT_.out HW_.out (by kernel_rfl)) (fun _ _ _ h => h) (Or.inl ⟨by rfl, ?_⟩) hHeld ?_ ?_
                 rotate_left
                 · rintro w' ⟨s0, s1⟩; go_simp; with_reducible rfl
                 rotate_left
                 · simp only [Act.put, List.setIfInBounds_toArray, List.set_cons_zero, List.set_cons_succ, i64_w, i32_w]; rfl
                 refine one_ (i := 10) (N := some 115) (bs 13 2047) rfl rfl (one_of HT_.out (by kernel_rfl)) (by decide) (fun K hK => ?_)
                 refine goes_ Tryd.func13 (by kernel_rfl) rfl #[.slice Ao23 y352.length co23, .int .i64 (rd t355 x7_3), .int .i64 (rd t355 x8_5), .int .i64 x9_7] (by rfl) rfl rfl (by (try simp only [List.map_toArray, List.map_cons, List.map_nil]); first | done | rfl | (simp only [List.length_drop, List.length_take]; rfl)) ?_
                 with_reducible refine (quillref15_Between.calls kj40 _ _ y352 (rd t355 x7_3) (rd t355 x8_5) x9_7 t374 t375 t376 _ ?side1 ?side2 A70.out).mono ?_
                 (case side1 => repeat (first | exact (Kd.R_reads' HO_5.out).2.2 | with_reducible first | refine Kd.C_drewN ?_ _ | refine Kd.C_drew ?_ | refine Kd.C_alloc ?_ _))
                 (case side2 => exact (Kd.R_reads' HO_5.out).2.1)
                 rintro e w77 ⟨rfl, hb⟩
                 have HS0_ := (hb.cell (World.block_lt_of_cell? _ _ (hHeld.1))).trans (hHeld.1)
                 have HS1_ := (hb.cell (World.block_lt_of_cell? _ _ (hHeld.2))).trans (hHeld.2)
                 refine ⟨_, rfl, ?_⟩
                 have n0_ := Aside0.mk (Kd.R_below (by (with_reducible repeat (first | apply Kd.R_alloc | apply Kd.R_drewN | apply Kd.R_drew)); exact HO_5.out) hb)
                 have n1_ := Aside0.mk (Kd.R_below (by (with_reducible repeat (first | apply Kd.R_alloc | apply Kd.R_drewN | apply Kd.R_drew)); exact HO_6.out) hb)
                 have n2_ := Aside0.mk (blb hb BK348.out)
                 have n3_ := Aside0.mk (blb hb BK364.out)
                 have n4_ := Aside0.mk (blb hb BK365.out)
                 have n5_ := Aside0.mk (below_step (by repeat with_reducible first | exact HB.out | apply pw_below_drewN | refine below_set ?_ GE348.out | refine below_set ?_ GE364.out | refine below_set ?_ GE365.out | apply below_drew1 | apply below_alloc) hb)
                 clear HO_5
                 clear HO_6
                 clear BK348
                 clear BK364
                 clear BK365
                 clear HB
                 have HO_5 := n0_
                 have HO_6 := n1_
                 have BK348 := n2_
                 have BK364 := n3_
                 have BK365 := n4_
                 have HB := n5_
                 clear n0_ n1_ n2_ n3_ n4_ n5_
                 (try clear hb)
                 (try clear hb2)
                 (try clear hk)
                 (try clear hi)
                 refine hK.out _ _ ⟨HS0_, HS1_⟩ (fun hHeld => ?_)
                 clear hK K
                 refine norm_ (a' := ?_) ?_ ?_
                 rotate_left
                 · show Act.put _ (some 115) _ = _; simp only [Act.put, List.setIfInBounds_toArray, List.set_cons_zero, List.set_cons_succ, i64_w, i32_w]; rfl
                 refine pure_ (i := 11) (N := some 12) (v := ?_) (a' := ?_) (bs 13 4095) rfl rfl (any_of HT_.out (by kernel_rfl)) (fun _ _ _ h => h) (Or.inl ⟨by rfl, ?_⟩) ?_ ?_
                 rotate_left
                 · intro w'; go_simp; with_reducible rfl
                 rotate_left
                 · simp only [Act.put, List.setIfInBounds_toArray, List.set_cons_zero, List.set_cons_succ, i64_w, i32_w]; rfl
                 refine one_ (i := 12) (N := none) (bs 13 8191) rfl rfl (one_of HT_.out (by kernel_rfl)) (by decide) (fun K hK => ?_)
                 have hs78 := cz0 BK365.out
                 have hfs78 := blk_frozen BK365.out 0
                 have hns78_0 := NB348_365.out
                 have hns78_1 := NB364_365.out
                 have hms78_0 := NB365_348.out
                 have hms78_1 := NB365_364.out
                 have hs79 := cz1 BK365.out
                 have hfs79 := blk_frozen BK365.out 1
                 have hns79_0 := NB348_365.out
                 have hns79_1 := NB364_365.out
                 have hms79_0 := NB365_348.out
                 have hms79_1 := NB365_364.out
                 have hs80 := cz2 BK365.out
                 have hfs80 := blk_frozen BK365.out 2
                 have hns80_0 := NB348_365.out
                 have hns80_1 := NB364_365.out
                 have hms80_0 := NB365_348.out
                 have hms80_1 := NB365_364.out
                 refine skip_ (w1 := ?_) (by rfl) rfl ?_ ?_
                 rotate_left
                 ·
                  go_simp
                  rfl
                 refine hK.out _ _ ⟨((cell_far (p := ⟨gb365, _, none⟩) (by first | exact Kd.own_blk (Kd.R_ne HO_6.out BK365.out (by decide)) | (rw [add_block]; exact Kd.own_blk (Kd.R_ne HO_6.out BK365.out (by decide))) | (show (Addr.add _ _).block ≠ _; rw [add_block]; exact Kd.own_blk (Kd.R_ne HO_6.out BK365.out (by decide))) | (dsimp only; exact Kd.own_blk (Kd.R_ne HO_6.out BK365.out (by decide)))) _).trans (((cell_far (p := ⟨gb365, _, none⟩) (by first | exact Kd.own_blk (Kd.R_ne HO_6.out BK365.out (by decide)) | (rw [add_block]; exact Kd.own_blk (Kd.R_ne HO_6.out BK365.out (by decide))) | (show (Addr.add _ _).block ≠ _; rw [add_block]; exact Kd.own_blk (Kd.R_ne HO_6.out BK365.out (by decide))) | (dsimp only; exact Kd.own_blk (Kd.R_ne HO_6.out BK365.out (by decide)))) _).trans (((cell_far (p := ⟨gb365, _, none⟩) (by first | exact Kd.own_blk (Kd.R_ne HO_6.out BK365.out (by decide)) | (rw [add_block]; exact Kd.own_blk (Kd.R_ne HO_6.out BK365.out (by decide))) | (show (Addr.add _ _).block ≠ _; rw [add_block]; exact Kd.own_blk (Kd.R_ne HO_6.out BK365.out (by decide))) | (dsimp only; exact Kd.own_blk (Kd.R_ne HO_6.out BK365.out (by decide)))) _).trans (hHeld.1)))))), ((cell_far (p := ⟨gb365, _, none⟩) (by first | exact Kd.own_blk (Kd.R_ne HO_6.out BK365.out (by decide)) | (rw [add_block]; exact Kd.own_blk (Kd.R_ne HO_6.out BK365.out (by decide))) | (show (Addr.add _ _).block ≠ _; rw [add_block]; exact Kd.own_blk (Kd.R_ne HO_6.out BK365.out (by decide))) | (dsimp only; exact Kd.own_blk (Kd.R_ne HO_6.out BK365.out (by decide)))) _).trans (((cell_far (p := ⟨gb365, _, none⟩) (by first | exact Kd.own_blk (Kd.R_ne HO_6.out BK365.out (by decide)) | (rw [add_block]; exact Kd.own_blk (Kd.R_ne HO_6.out BK365.out (by decide))) | (show (Addr.add _ _).block ≠ _; rw [add_block]; exact Kd.own_blk (Kd.R_ne HO_6.out BK365.out (by decide))) | (dsimp only; exact Kd.own_blk (Kd.R_ne HO_6.out BK365.out (by decide)))) _).trans (((cell_far (p := ⟨gb365, _, none⟩) (by first | exact Kd.own_blk (Kd.R_ne HO_6.out BK365.out (by decide)) | (rw [add_block]; exact Kd.own_blk (Kd.R_ne HO_6.out BK365.out (by decide))) | (show (Addr.add _ _).block ≠ _; rw [add_block]; exact Kd.own_blk (Kd.R_ne HO_6.out BK365.out (by decide))) | (dsimp only; exact Kd.own_blk (Kd.R_ne HO_6.out BK365.out (by decide)))) _).trans (hHeld.2))))))⟩ (fun hHeld => ?_)
                 clear hK K
                 refine done_ (done_of HT_.out (by kernel_rfl)) ?_
                 try go_wp2_with (first | ((with_reducible refine gate_callee (f := 14) rfl ?_); refine goesL_ (some 117) rfl rfl Tryd.func14 (by kernel_rfl) rfl #[.int .i64 t363] rfl (map1 rfl) ?_; (with_reducible refine (quilllaw17_num.calls t363 t377 _ A71.out).mono ?_); rintro e w' ⟨rfl, ⟨nd, rfl⟩⟩; refine ⟨_, rfl, ?_⟩; have hnb81 := NB364_348.out; have hnc81 := NB348_364.out; have hnb82 := NB364_365.out; have hnc82 := NB365_364.out; have hcz83_0 := cz0 BK364.out; have hcz83_1 := cz1 BK364.out; have hcz83_2 := cz2 BK364.out; have hfz83_0 := blk_frozen BK364.out 0; have hfz83_1 := blk_frozen BK364.out 1; have hfz83_2 := blk_frozen BK364.out 2; have hnb84 := NB365_348.out; have hnc84 := NB348_365.out; have hcz85_0 := cz0 BK365.out; have hcz85_1 := cz1 BK365.out; have hcz85_2 := cz2 BK365.out; have hfz85_0 := blk_frozen BK365.out 0; have hfz85_1 := blk_frozen BK365.out 1; have hfz85_2 := blk_frozen BK365.out 2))
                 go_roundg kj40
                 case measure => have := HK1.out; have := HJ9.out; have := HK3.out; have := HJ24.out; have := HK5.out; have := HJ29.out; have := HK7.out; have := HJ40.out; omega
                 case rel => exact ⟨(wrap64 (x9_7 + 1)), (by first | rfl | (simp; done) | (simp [*]; done)), H', ⟨by have := HK1.out; have := HJ9.out; have := HK3.out; have := HJ24.out; have := HK5.out; have := HJ29.out; have := HK7.out; have := HJ40.out; omega⟩, ⟨by (with_reducible repeat (first | apply Kd.R_alloc | apply Kd.R_drewN | apply Kd.R_drew)); exact Kd.R_mono (Kd.R_far (p := ⟨gb365, 2, none⟩) (Kd.R_far (p := ⟨gb365, 1, none⟩) (Kd.R_far (p := ⟨gb365, 0, none⟩) (Kd.R_types HO_5.out BK365.out (by decide)) (fun _ hk => hk.2) (.int .i64 t374)) (fun _ hk => hk.2) (.int .i64 t375)) (fun _ hk => hk.2) (.bool t376)) (fun _ hk => trivial)⟩, ⟨by (with_reducible repeat (first | apply Kd.R_alloc | apply Kd.R_drewN | apply Kd.R_drew)); exact Kd.R_mono (Kd.R_far (p := ⟨gb365, 2, none⟩) (Kd.R_far (p := ⟨gb365, 1, none⟩) (Kd.R_far (p := ⟨gb365, 0, none⟩) (Kd.R_types HO_6.out BK365.out (by decide)) (fun _ hk => hk.2) (.int .i64 t374)) (fun _ hk => hk.2) (.int .i64 t375)) (fun _ hk => hk.2) (.bool t376)) (fun _ hk => trivial)⟩, ⟨by (with_reducible repeat (first | refine blk_drewN ?_ _ | refine blk_drew ?_ | refine blk_alloc ?_ _)); refine blk_far ?_ NB348_365.out _; (with_reducible repeat (first | refine blk_drewN ?_ _ | refine blk_drew ?_ | refine blk_alloc ?_ _)); refine blk_far ?_ NB348_365.out _; (with_reducible repeat (first | refine blk_drewN ?_ _ | refine blk_drew ?_ | refine blk_alloc ?_ _)); refine blk_far ?_ NB348_365.out _; (with_reducible repeat (first | refine blk_drewN ?_ _ | refine blk_drew ?_ | refine blk_alloc ?_ _)); exact BK348.out⟩, ⟨by repeat with_reducible first | exact HB.out | apply pw_below_drewN | refine below_set ?_ GE348.out | refine below_set ?_ GE364.out | refine below_set ?_ GE365.out | apply below_drew1 | apply below_alloc⟩⟩

end Go.Proofs.YtbgmmcngkdhpcaaDoor.P
