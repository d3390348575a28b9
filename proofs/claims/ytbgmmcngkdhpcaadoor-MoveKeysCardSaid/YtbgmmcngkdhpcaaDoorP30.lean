/- The walks of the functions that these statements reach: each Go function as a plain Lean function, and the proof that its call comes to that. Written by the session's program wip/pp.py. -/
import Derived.Test.YtbgmmcngkdhpcaaDoorP0
import Derived.Test.YtbgmmcngkdhpcaaDoorP4
import Derived.Test.YtbgmmcngkdhpcaaDoorP16
import Derived.Test.YtbgmmcngkdhpcaaDoorP26
import Derived.Test.YtbgmmcngkdhpcaaDoorP29
namespace Go.Proofs.YtbgmmcngkdhpcaaDoor.P
open Go.Proofs.YtbgmmcngkdhpcaaDoor
open Go.RowKit Go.Proofs.YtbgmmcngkdhpcaaDoorW.PrintWords Go.Proofs.YtbgmmcngkdhpcaaDoorW.PrintLast Go.Proofs.YtbgmmcngkdhpcaaDoorW.PrintMore
attribute [local go_sem] cell_isSome max2_int min2_int max_two min_two max_three min_three max_four min_four   -- for this text's walks alone
set_option linter.unusedVariables false
set_option linter.unusedSimpArgs false
set_option maxHeartbeats 8000000
set_option maxRecDepth 100000

/-! ### quilllaw16_MoveKeys: function 6 -/
mutual
def quilllaw16_MoveKeys.l0 : Nat → Int → List ByteArray → Int → Int → Int → Int → Int → Int → Int → List (S52) → Int → Int → List (S89) → Option (Bool)
  | 0, _, _, _, _, _, _, _, _, _, _, _, _, _ => none
  | k + 1, x3, v0, v1, v2, v3, v4, v5, v6, v7, v8, v9, v10, v11 => if x3 < 140 then (quilllaw16_MoveKeys.l1 k x3 0 v0 v1 v2 v3 v4 v5 v6 v7 v8 v9 v10 v11) else (if (v0.length : Int) = 0 then (quilllaw16_MoveKeys.j2 k true v0 v1 v2 v3 v4 v5 v6 v7 v8 v9 v10 v11) else (if 0 < (v0.length : Int) then (quilllaw16_MoveKeys.j2 k (decide (((rdOf ByteArray.empty v0 0).size : Int) > 400)) v0 v1 v2 v3 v4 v5 v6 v7 v8 v9 v10 v11) else (none)))
def quilllaw16_MoveKeys.l1 : Nat → Int → Int → List ByteArray → Int → Int → Int → Int → Int → Int → Int → List (S52) → Int → Int → List (S89) → Option (Bool)
  | 0, _, _, _, _, _, _, _, _, _, _, _, _, _, _ => none
  | k + 1, x3, x4, v0, v1, v2, v3, v4, v5, v6, v7, v8, v9, v10, v11 => if x4 < 2 then ((move_Is.f (wrap64 (x3 + (wrap64 (x4 * 16777216))))).bind fun t695 => ((quillref15_Is.f k (wrap64 (x3 + (wrap64 (x4 * 16777216))))).bind fun t696 => (if (t695 != t696) = true then (none) else ((move_Asks.f (wrap64 (x3 + (wrap64 (x4 * 16777216))))).bind fun t697 => ((quillref15_Asks.f k (wrap64 (x3 + (wrap64 (x4 * 16777216))))).bind fun t698 => (if (t697 != t698) = true then (none) else (quilllaw16_MoveKeys.l1 k x3 (wrap64 (x4 + 1)) v0 v1 v2 v3 v4 v5 v6 v7 v8 v9 v10 v11))))))) else (quilllaw16_MoveKeys.l0 k (wrap64 (x3 + 1)) v0 v1 v2 v3 v4 v5 v6 v7 v8 v9 v10 v11)
def quilllaw16_MoveKeys.j2 : Nat → Bool → List ByteArray → Int → Int → Int → Int → Int → Int → Int → List (S52) → Int → Int → List (S89) → Option (Bool)
  | 0, _, _, _, _, _, _, _, _, _, _, _, _, _ => none
  | k + 1, x50, v0, v1, v2, v3, v4, v5, v6, v7, v8, v9, v10, v11 => if x50 = true then (some true) else (if 0 < (v0.length : Int) then (if (rdOf ByteArray.empty v0 0).size ≤ 70368744177664 then (quilllaw16_MoveKeys.l2 k (rdOf ByteArray.empty v0 0) (runesOf (rdOf ByteArray.empty v0 0)) 30 v0 v1 v2 v3 v4 v5 v6 v7 v8 v9 v10 v11) else (none)) else (none))
def quilllaw16_MoveKeys.l2 : Nat → ByteArray → List Int → Int → List ByteArray → Int → Int → Int → Int → Int → Int → Int → List (S52) → Int → Int → List (S89) → Option (Bool)
  | 0, _, _, _, _, _, _, _, _, _, _, _, _, _, _, _ => none
  | k + 1, x6, x7, x8, v0, v1, v2, v3, v4, v5, v6, v7, v8, v9, v10, v11 => if x8 < 130 then ((quilllaw16_one.f k x6 x7 (wrap64 ((x7.length : Int) / 2)) 0 (Int.tmod x8 3) 0 x8 0 v7 v9 v10 v11).bind fun t704 => (if t704 = true then (quilllaw16_MoveKeys.l2 k x6 x7 (wrap64 (x8 + 1)) v0 v1 v2 v3 v4 v5 v6 v7 v8 v9 v10 v11) else (none))) else ((quilllaw16_wakes.f k).bind fun t705 => (some t705))
end
def quilllaw16_MoveKeys.f (k : Nat) (l0_0 : List ByteArray) (a0_1 : Int) (a0_2 : Int) (a0_3 : Int) (a0_4 : Int) (a0_5 : Int) (a0_6 : Int) (a0_7 : Int) (l0_8 : List (S52)) (a0_9 : Int) (a0_10 : Int) (l0_11 : List (S89)) : Option (Bool) := (quilllaw16_Heavy.f k l0_0 a0_1 a0_2 a0_3 a0_4 a0_5 a0_6 a0_7 l0_8 a0_9 a0_10 l0_11).bind fun t694 => (if t694 = true then (some true) else (quilllaw16_MoveKeys.l0 k (-2) l0_0 a0_1 a0_2 a0_3 a0_4 a0_5 a0_6 a0_7 l0_8 a0_9 a0_10 l0_11))
theorem quilllaw16_MoveKeys.calls {k : Nat} {A0_0 : Option Addr} {c0_0 : Nat} {l0_0 : List ByteArray} {a0_1 : Int} {a0_2 : Int} {a0_3 : Int} {a0_4 : Int} {a0_5 : Int} {a0_6 : Int} {a0_7 : Int} {A0_8 : Option Addr} {c0_8 : Nat} {l0_8 : List (S52)} {a0_9 : Int} {a0_10 : Int} {A0_11 : Option Addr} {c0_11 : Nat} {l0_11 : List (S89)} {r : Bool} {w : World} (hT : Tabs w) (hr0_0 : Kd.C Kd.string w A0_0 l0_0.length l0_0) (hc0_0 : l0_0.length ≤ c0_0) (hr0_8 : Kd.C k52 w A0_8 l0_8.length l0_8) (hc0_8 : l0_8.length ≤ c0_8) (hr0_11 : Kd.C k89 w A0_11 l0_11.length l0_11) (hc0_11 : l0_11.length ≤ c0_11) (H : quilllaw16_MoveKeys.f k l0_0 a0_1 a0_2 a0_3 a0_4 a0_5 a0_6 a0_7 l0_8 a0_9 a0_10 l0_11 = some r) :
  Calls Tryd.prog 6 #[.agg #[.slice A0_0 l0_0.length c0_0, .int .i64 a0_1, .int .i64 a0_2, .int .i64 a0_3, .int .i64 a0_4, .int .i64 a0_5, .int .i64 a0_6, .int .i64 a0_7, .slice A0_8 l0_8.length c0_8, .int .i64 a0_9, .int .i64 a0_10, .slice A0_11 l0_11.length c0_11]] w fun e w' => e = .returned (.bool r) ∧ Below w.heap.size w w' := by
 have hu34 := Tryd.underlying34; have hu52 := Tryd.underlying52; have hu31 := Tryd.underlying31; have HT := Aside0.mk hT; clear hT; have HR0_0 := Aside0.mk hr0_0; have HC0_0 := Aside0.mk hc0_0; clear hr0_0 hc0_0; have HR0_8 := Aside0.mk hr0_8; have HC0_8 := Aside0.mk hc0_8; clear hr0_8 hc0_8; have HR0_11 := Aside0.mk hr0_11; have HC0_11 := Aside0.mk hc0_11; clear hr0_11 hc0_11; have HB := Aside0.mk (Below.refl w.heap.size w)
 unfold quilllaw16_MoveKeys.f at H; replace H := bindA H; obtain ⟨t694, A2, H⟩ := H; (try dsimp only at H); replace H := ifb H; obtain ⟨rfl, H⟩ | ⟨rfl, H⟩ := H
 ·
  obtain rfl := Option.some.inj H; go_enter Tryd.func6, Tryd.ntmps6
  go_wp2_with (first | ((with_reducible refine gN 1 rfl ?_); (try (refine gate_guard (by rfl) ?_; dsimp only)); refine box1 (N := 1) (cs := #[.slice A0_0 l0_0.length c0_0, .int .i64 a0_1, .int .i64 a0_2, .int .i64 a0_3, .int .i64 a0_4, .int .i64 a0_5, .int .i64 a0_6, .int .i64 a0_7, .slice A0_8 l0_8.length c0_8, .int .i64 a0_9, .int .i64 a0_10, .slice A0_11 l0_11.length c0_11]) (t := 34) ?_; intro gb693 hg w4 hbox hb; have BK693 := Aside0.mk hbox; have GW693 := gE hg; have GE693 := GW693; replace HB := hB hb; clear hb hbox hg; have hcz5_0 := cz0 BK693.out; have hcz5_1 := cz1 BK693.out; have hcz5_2 := cz2 BK693.out; have hcz5_3 := cz3 BK693.out; have hcz5_4 := cz4 BK693.out; have hcz5_5 := cz5 BK693.out; have hcz5_6 := cz6 BK693.out; have hcz5_7 := cz7 BK693.out; have hcz5_8 := cz8 BK693.out; have hcz5_9 := cz9 BK693.out; have hcz5_10 := cz10 BK693.out; have hcz5_11 := cz11 BK693.out; have hfz5_0 := blk_frozen BK693.out 0; have hfz5_1 := blk_frozen BK693.out 1; have hfz5_2 := blk_frozen BK693.out 2; have hfz5_3 := blk_frozen BK693.out 3; have hfz5_4 := blk_frozen BK693.out 4; have hfz5_5 := blk_frozen BK693.out 5; have hfz5_6 := blk_frozen BK693.out 6; have hfz5_7 := blk_frozen BK693.out 7; have hfz5_8 := blk_frozen BK693.out 8; have hfz5_9 := blk_frozen BK693.out 9; have hfz5_10 := blk_frozen BK693.out 10; have hfz5_11 := blk_frozen BK693.out 11) | ((with_reducible refine gC 7 rfl ?_); refine goesL1 (some 10) Tryd.func7 #[.agg #[.slice A0_0 l0_0.length c0_0, .int .i64 a0_1, .int .i64 a0_2, .int .i64 a0_3, .int .i64 a0_4, .int .i64 a0_5, .int .i64 a0_6, .int .i64 a0_7, .slice A0_8 l0_8.length c0_8, .int .i64 a0_9, .int .i64 a0_10, .slice A0_11 l0_11.length c0_11]] rfl (map1 rfl) ?_; refine cm_ (quilllaw16_Heavy.calls sd_ sd_ sd_ sd_ sd_ sd_ A2.out) ?_; rintro e w6 ⟨rfl, hb⟩; refine ⟨_, rfl, ?_⟩; replace BK693 := blB hb BK693; replace HB := hB hb; (try clear hb); (try clear hcz5_0); (try clear hcz5_1); (try clear hcz5_2); (try clear hcz5_3); (try clear hcz5_4); (try clear hcz5_5); (try clear hcz5_6); (try clear hcz5_7); (try clear hcz5_8); (try clear hcz5_9); (try clear hcz5_10); (try clear hcz5_11); (try clear hfz5_0); (try clear hfz5_1); (try clear hfz5_2); (try clear hfz5_3); (try clear hfz5_4); (try clear hfz5_5); (try clear hfz5_6); (try clear hfz5_7); (try clear hfz5_8); (try clear hfz5_9); (try clear hfz5_10); (try clear hfz5_11)))
  go_ret
  exact ⟨rr_, bl_⟩
 replace H := Aside0.mk H; go_enter Tryd.func6, Tryd.ntmps6
 go_wp2_with (first | ((with_reducible refine gN 1 rfl ?_); (try (refine gate_guard (by rfl) ?_; dsimp only)); refine box1 (N := 1) (cs := #[.slice A0_0 l0_0.length c0_0, .int .i64 a0_1, .int .i64 a0_2, .int .i64 a0_3, .int .i64 a0_4, .int .i64 a0_5, .int .i64 a0_6, .int .i64 a0_7, .slice A0_8 l0_8.length c0_8, .int .i64 a0_9, .int .i64 a0_10, .slice A0_11 l0_11.length c0_11]) (t := 34) ?_; intro gb693 hg w7 hbox hb; have BK693 := Aside0.mk hbox; have GW693 := gE hg; have GE693 := GW693; replace HB := hB hb; clear hb hbox hg; have hcz8_0 := cz0 BK693.out; have hcz8_1 := cz1 BK693.out; have hcz8_2 := cz2 BK693.out; have hcz8_3 := cz3 BK693.out; have hcz8_4 := cz4 BK693.out; have hcz8_5 := cz5 BK693.out; have hcz8_6 := cz6 BK693.out; have hcz8_7 := cz7 BK693.out; have hcz8_8 := cz8 BK693.out; have hcz8_9 := cz9 BK693.out; have hcz8_10 := cz10 BK693.out; have hcz8_11 := cz11 BK693.out; have hfz8_0 := blk_frozen BK693.out 0; have hfz8_1 := blk_frozen BK693.out 1; have hfz8_2 := blk_frozen BK693.out 2; have hfz8_3 := blk_frozen BK693.out 3; have hfz8_4 := blk_frozen BK693.out 4; have hfz8_5 := blk_frozen BK693.out 5; have hfz8_6 := blk_frozen BK693.out 6; have hfz8_7 := blk_frozen BK693.out 7; have hfz8_8 := blk_frozen BK693.out 8; have hfz8_9 := blk_frozen BK693.out 9; have hfz8_10 := blk_frozen BK693.out 10; have hfz8_11 := blk_frozen BK693.out 11) | ((with_reducible refine gC 7 rfl ?_); refine goesL1 (some 10) Tryd.func7 #[.agg #[.slice A0_0 l0_0.length c0_0, .int .i64 a0_1, .int .i64 a0_2, .int .i64 a0_3, .int .i64 a0_4, .int .i64 a0_5, .int .i64 a0_6, .int .i64 a0_7, .slice A0_8 l0_8.length c0_8, .int .i64 a0_9, .int .i64 a0_10, .slice A0_11 l0_11.length c0_11]] rfl (map1 rfl) ?_; refine cm_ (quilllaw16_Heavy.calls sd_ sd_ sd_ sd_ sd_ sd_ A2.out) ?_; rintro e w9 ⟨rfl, hb⟩; refine ⟨_, rfl, ?_⟩; replace BK693 := blB hb BK693; replace HB := hB hb; (try clear hb); (try clear hcz8_0); (try clear hcz8_1); (try clear hcz8_2); (try clear hcz8_3); (try clear hcz8_4); (try clear hcz8_5); (try clear hcz8_6); (try clear hcz8_7); (try clear hcz8_8); (try clear hcz8_9); (try clear hcz8_10); (try clear hcz8_11); (try clear hfz8_0); (try clear hfz8_1); (try clear hfz8_2); (try clear hfz8_3); (try clear hfz8_4); (try clear hfz8_5); (try clear hfz8_6); (try clear hfz8_7); (try clear hfz8_8); (try clear hfz8_9); (try clear hfz8_10); (try clear hfz8_11)))
 go_loopg [3] k (fun kq v3 w' => ∃ (x3_1 : Int), v3 = .int .i64 x3_1 ∧ Aside0 (quilllaw16_MoveKeys.l0 kq x3_1 l0_0 a0_1 a0_2 a0_3 a0_4 a0_5 a0_6 a0_7 l0_8 a0_9 a0_10 l0_11 = some r) ∧ Aside0 (kq ≤ k) ∧ Aside0 (w'.heap[gb693]? = some (.cells #[(.slice A0_0 l0_0.length c0_0), .int .i64 a0_1, .int .i64 a0_2, .int .i64 a0_3, .int .i64 a0_4, .int .i64 a0_5, .int .i64 a0_6, .int .i64 a0_7, (.slice A0_8 l0_8.length c0_8), .int .i64 a0_9, .int .i64 a0_10, (.slice A0_11 l0_11.length c0_11)] 34 (0, 0))) ∧ Aside0 (Below w.heap.size w w'))
 case atStart => exact ⟨((-2)), r3_, H, ⟨Nat.le_refl _⟩, ⟨BK693.out⟩, ⟨bl_⟩⟩
 case round =>
  clear H
  try clear hcz8_0
  try clear hcz8_1
  try clear hcz8_10
  try clear hcz8_11
  try clear hcz8_2
  try clear hcz8_3
  try clear hcz8_4
  try clear hcz8_5
  try clear hcz8_6
  try clear hcz8_7
  try clear hcz8_8
  try clear hcz8_9
  try clear hfz8_0
  try clear hfz8_1
  try clear hfz8_10
  try clear hfz8_11
  try clear hfz8_2
  try clear hfz8_3
  try clear hfz8_4
  try clear hfz8_5
  try clear hfz8_6
  try clear hfz8_7
  try clear hfz8_8
  try clear hfz8_9
  obtain ⟨x3_1, rfl, HA, HK1, BK693, HB⟩ := hrel
  cases gk with
  | zero => exact absurd HA.out (by simp [quilllaw16_MoveKeys.l0])
  | succ k1 =>
   obtain ⟨H⟩ := HA; simp only [quilllaw16_MoveKeys.l0] at H; replace H := ifd H; obtain ⟨c10b0, H⟩ | ⟨c10b0, H⟩ := H
   ·
    replace H := Aside0.mk H; go_wp2
    go_loopg [4] k1 (fun kq v4 w' => ∃ (x4_2 : Int), v4 = .int .i64 x4_2 ∧ Aside0 (quilllaw16_MoveKeys.l1 kq x3_1 x4_2 l0_0 a0_1 a0_2 a0_3 a0_4 a0_5 a0_6 a0_7 l0_8 a0_9 a0_10 l0_11 = some r) ∧ Aside0 (kq ≤ k1) ∧ Aside0 (w'.heap[gb693]? = some (.cells #[(.slice A0_0 l0_0.length c0_0), .int .i64 a0_1, .int .i64 a0_2, .int .i64 a0_3, .int .i64 a0_4, .int .i64 a0_5, .int .i64 a0_6, .int .i64 a0_7, (.slice A0_8 l0_8.length c0_8), .int .i64 a0_9, .int .i64 a0_10, (.slice A0_11 l0_11.length c0_11)] 34 (0, 0))) ∧ Aside0 (Below w.heap.size w w'))
    case atStart => exact ⟨(0), r3_, H, ⟨Nat.le_refl _⟩, ⟨BK693.out⟩, ⟨bl_⟩⟩
    case round =>
     clear H
     try clear c10b0
     try clear hcz8_0
     try clear hcz8_1
     try clear hcz8_10
     try clear hcz8_11
     try clear hcz8_2
     try clear hcz8_3
     try clear hcz8_4
     try clear hcz8_5
     try clear hcz8_6
     try clear hcz8_7
     try clear hcz8_8
     try clear hcz8_9
     try clear hfz8_0
     try clear hfz8_1
     try clear hfz8_10
     try clear hfz8_11
     try clear hfz8_2
     try clear hfz8_3
     try clear hfz8_4
     try clear hfz8_5
     try clear hfz8_6
     try clear hfz8_7
     try clear hfz8_8
     try clear hfz8_9
     obtain ⟨x4_2, rfl, HA, HK2, BK693, HB⟩ := hrel
     cases gk with
     | zero => exact absurd HA.out (by simp [quilllaw16_MoveKeys.l1])
     | succ k2 =>
      obtain ⟨H⟩ := HA; simp only [quilllaw16_MoveKeys.l1] at H; replace H := nfd H; obtain ⟨c11b0, H⟩ | ⟨c11b0, H⟩ := H
      ·
       replace H := Aside0.mk H; go_wp2
       go_roundg k2
       case measure => have := HK1.out; have := HK2.out; omega
       case rel => exact ⟨(wrap64 (x3_1 + 1)), r3_, H, ⟨by have := HK1.out; have := HK2.out; omega⟩, ⟨BK693.out⟩, ⟨bl_⟩⟩
      replace H := bindA H; obtain ⟨t695, A12, H⟩ := H; (try dsimp only at H); replace H := bindA H; obtain ⟨t696, A13, H⟩ := H; (try dsimp only at H)
      by_cases c14 : (t695 != t696) = true
      ·
       rw [if_pos c14] at H
       exact absurd H (by simp)
      rw [if_neg c14] at H
      have c14b0 : (t695 != t696) = false := by simpa using c14
      (try (have c14b1 : decide (t695 = t696) = true := by simpa using c14))
      (try (have c14b2 : (t695 == t696) = true := by simpa using c14))
      clear c14; replace H := bindA H; obtain ⟨t697, A15, H⟩ := H; (try dsimp only at H); replace H := bindA H; obtain ⟨t698, A16, H⟩ := H; (try dsimp only at H)
      by_cases c17 : (t697 != t698) = true
      ·
       rw [if_pos c17] at H
       exact absurd H (by simp)
      rw [if_neg c17] at H
      have c17b0 : (t697 != t698) = false := by simpa using c17
      (try (have c17b1 : decide (t697 = t698) = true := by simpa using c17))
      (try (have c17b2 : (t697 == t698) = true := by simpa using c17))
      clear c17; replace H := Aside0.mk H
      go_wp2_with (first | ((with_reducible refine gC 21 rfl ?_); refine goesL1 (some 24) Tryd.func21 #[.int .i64 (wrap64 (x3_1 + (wrap64 (x4_2 * 16777216))))] rfl (map1 rfl) ?_; (with_reducible refine (move_Is.calls A12.out).mono ?_); rintro e w18 ⟨rfl, hb⟩; refine ⟨_, rfl, ?_⟩; replace BK693 := blB hb BK693; replace HB := hB hb; (try clear hb)) | ((with_reducible refine gC 22 rfl ?_); refine goesL1 (some 26) Tryd.func22 #[.int .i64 (wrap64 (x3_1 + (wrap64 (x4_2 * 16777216))))] rfl (map1 rfl) ?_; (with_reducible refine (quillref15_Is.calls A13.out).mono ?_); rintro e w19 ⟨rfl, hb⟩; refine ⟨_, rfl, ?_⟩; replace BK693 := blB hb BK693; replace HB := hB hb; (try clear hb)) | (go_at_call 23; (with_reducible refine (move_Asks.calls A15.out).mono ?_); rintro e w20 ⟨rfl, hb⟩; replace BK693 := blB hb BK693; replace HB := hB hb; (try clear hb)) | (go_at_call 24; (with_reducible refine (quillref15_Asks.calls A16.out).mono ?_); rintro e w21 ⟨rfl, hb⟩; replace BK693 := blB hb BK693; replace HB := hB hb; (try clear hb)))
      go_roundg k2
      case measure => have := HK1.out; have := HK2.out; omega
      case rel => exact ⟨(wrap64 (x4_2 + 1)), r3_, H, ⟨by have := HK1.out; have := HK2.out; omega⟩, ⟨BK693.out⟩, ⟨bl_⟩⟩
   have HC22 := Aside0.mk H; clear H
   go_upto_region 12 with (fail)
   go_cut [50] (fun v50 wc => ∃ (kq : Nat) (x50_21 : Bool), v50 = .bool x50_21 ∧ Aside0 (quilllaw16_MoveKeys.j2 kq x50_21 l0_0 a0_1 a0_2 a0_3 a0_4 a0_5 a0_6 a0_7 l0_8 a0_9 a0_10 l0_11 = some r) ∧ Aside0 (kq ≤ k1) ∧ Aside0 (wc.heap[gb693]? = some (.cells #[(.slice A0_0 l0_0.length c0_0), .int .i64 a0_1, .int .i64 a0_2, .int .i64 a0_3, .int .i64 a0_4, .int .i64 a0_5, .int .i64 a0_6, .int .i64 a0_7, (.slice A0_8 l0_8.length c0_8), .int .i64 a0_9, .int .i64 a0_10, (.slice A0_11 l0_11.length c0_11)] 34 (0, 0))) ∧ Aside0 (Below w.heap.size w wc))
   case first =>
    obtain ⟨H⟩ := HC22
    by_cases c23 : (l0_0.length : Int) = 0
    ·
     rw [if_pos c23] at H
     have c23b0 : ((l0_0.length : Int) == 0) = true := beq_iff_eq.mpr c23
     have c23b1 : ((l0_0.length : Int) != 0) = false := bne_eq_false_iff_eq.mpr c23
     clear c23; (first | rw [c23b0] | (simp only [i64_w, i32_w]; rw [c23b0]) | skip); replace H := Aside0.mk H; have hcz24_0 := cz0 BK693.out; have hcz24_1 := cz1 BK693.out; have hcz24_2 := cz2 BK693.out; have hcz24_3 := cz3 BK693.out; have hcz24_4 := cz4 BK693.out; have hcz24_5 := cz5 BK693.out; have hcz24_6 := cz6 BK693.out; have hcz24_7 := cz7 BK693.out; have hcz24_8 := cz8 BK693.out; have hcz24_9 := cz9 BK693.out
     have hcz24_10 := cz10 BK693.out; have hcz24_11 := cz11 BK693.out; have hfz24_0 := blk_frozen BK693.out 0; have hfz24_1 := blk_frozen BK693.out 1; have hfz24_2 := blk_frozen BK693.out 2; have hfz24_3 := blk_frozen BK693.out 3; have hfz24_4 := blk_frozen BK693.out 4; have hfz24_5 := blk_frozen BK693.out 5; have hfz24_6 := blk_frozen BK693.out 6; have hfz24_7 := blk_frozen BK693.out 7; have hfz24_8 := blk_frozen BK693.out 8
     have hfz24_9 := blk_frozen BK693.out 9; have hfz24_10 := blk_frozen BK693.out 10; have hfz24_11 := blk_frozen BK693.out 11; go_wp2; go_meet
     case rel => exact ⟨_, (true), r3_, H, ⟨by have := HK1.out; first | omega | exact Nat.le_refl _⟩, ⟨BK693.out⟩, ⟨bl_⟩⟩
    rw [if_neg c23] at H
    have c23b0 : ((l0_0.length : Int) == 0) = false := beq_eq_false_iff_ne.mpr c23
    have c23b1 : ((l0_0.length : Int) != 0) = true := bne_iff_ne.mpr c23
    have c23b2 : ¬ (l0_0 = []) := fun h_ => c23 (by rw [h_]; rfl)
    (first | rw [c23b0] | (simp only [i64_w, i32_w]; rw [c23b0]) | skip)
    by_cases c25 : 0 < (l0_0.length : Int)
    rotate_left
    ·
     rw [if_neg c25] at H
     exact absurd H (by simp)
    rw [if_pos c25] at H; have c25b0 := decide_eq_true c25
    have c25b1 : decide (0 < l0_0.length) = true := decide_eq_true (by omega)
    clear c25; replace H := Aside0.mk H; have hcz26_0 := cz0 BK693.out; have hcz26_1 := cz1 BK693.out; have hcz26_2 := cz2 BK693.out; have hcz26_3 := cz3 BK693.out; have hcz26_4 := cz4 BK693.out; have hcz26_5 := cz5 BK693.out; have hcz26_6 := cz6 BK693.out; have hcz26_7 := cz7 BK693.out; have hcz26_8 := cz8 BK693.out; have hcz26_9 := cz9 BK693.out; have hcz26_10 := cz10 BK693.out; have hcz26_11 := cz11 BK693.out
    have hfz26_0 := blk_frozen BK693.out 0; have hfz26_1 := blk_frozen BK693.out 1; have hfz26_2 := blk_frozen BK693.out 2; have hfz26_3 := blk_frozen BK693.out 3; have hfz26_4 := blk_frozen BK693.out 4; have hfz26_5 := blk_frozen BK693.out 5; have hfz26_6 := blk_frozen BK693.out 6; have hfz26_7 := blk_frozen BK693.out 7; have hfz26_8 := blk_frozen BK693.out 8; have hfz26_9 := blk_frozen BK693.out 9
    have hfz26_10 := blk_frozen BK693.out 10; have hfz26_11 := blk_frozen BK693.out 11
    have p699 : 0 ≤ (0 : Int) := (by omega)
    have q699 : 0 < (l0_0.length : Int) := of_decide_eq_true (by assumption)
    obtain ⟨ad699, e699, hx699_0⟩ := Kd.at_string HR0_0.out 0 p699 q699; cases e699
    have qi699 : (0 < l0_0.length) = True := eq_true (by omega)
    (try rw [show ((0 : Int)).toNat = 0 from rfl] at hx699_0); (try rw [Addr.add_zero'] at hx699_0); replace hx699_0 := hb_ HB hx699_0; replace p699 := eq_true p699; replace q699 := eq_true q699; go_wp2; go_meet
    case rel => exact ⟨_, (decide (((rdOf ByteArray.empty l0_0 0).size : Int) > 400)), r3_, H, ⟨by have := HK1.out; first | omega | exact Nat.le_refl _⟩, ⟨BK693.out⟩, ⟨bl_⟩⟩
   case rest =>
    clear HC22
    try clear c10b0
    try clear hcz8_0
    try clear hcz8_1
    try clear hcz8_10
    try clear hcz8_11
    try clear hcz8_2
    try clear hcz8_3
    try clear hcz8_4
    try clear hcz8_5
    try clear hcz8_6
    try clear hcz8_7
    try clear hcz8_8
    try clear hcz8_9
    try clear hfz8_0
    try clear hfz8_1
    try clear hfz8_10
    try clear hfz8_11
    try clear hfz8_2
    try clear hfz8_3
    try clear hfz8_4
    try clear hfz8_5
    try clear hfz8_6
    try clear hfz8_7
    try clear hfz8_8
    try clear hfz8_9
    obtain ⟨kq, x50_21, rfl, HA, HJ21, BK693, HB⟩ := hcut
    cases kq with
    | zero => exact absurd HA.out (by simp [quilllaw16_MoveKeys.j2])
    | succ kj21 =>
     obtain ⟨H⟩ := HA; simp only [quilllaw16_MoveKeys.j2] at H; replace H := ifb H; obtain ⟨rfl, H⟩ | ⟨rfl, H⟩ := H
     ·
      obtain rfl := Option.some.inj H; go_wp2; go_ret
      exact ⟨rr_, bl_⟩
     by_cases c28 : 0 < (l0_0.length : Int)
     rotate_left
     ·
      rw [if_neg c28] at H
      exact absurd H (by simp)
     rw [if_pos c28] at H; have c28b0 := decide_eq_true c28
     have c28b1 : decide (0 < l0_0.length) = true := decide_eq_true (by omega)
     clear c28
     by_cases c29 : (rdOf ByteArray.empty l0_0 0).size ≤ 70368744177664
     rotate_left
     ·
      rw [if_neg c29] at H
      exact absurd H (by simp)
     rw [if_pos c29] at H; have c29b0 := eq_true c29; have c29b1 := decide_eq_true c29; clear c29; obtain ⟨y701, hy701⟩ : ∃ y_ : List Int, y_ = (runesOf (rdOf ByteArray.empty l0_0 0)) := ⟨_, rfl⟩
     replace H : (quilllaw16_MoveKeys.l2 kj21 (rdOf ByteArray.empty l0_0 0) y701 30 l0_0 a0_1 a0_2 a0_3 a0_4 a0_5 a0_6 a0_7 l0_8 a0_9 a0_10 l0_11) = some r := by first | (rw [hy701]; with_reducible exact H) | (have H2_ := (Option.bind_some _ _).symm.trans H; rw [hy701]; with_reducible exact H2_) | (have H2_ := (Option.bind_some _ _).symm.trans H; with_reducible exact H2_) | with_reducible exact H | (rw [hy701]; exact H) | exact H
     have Ny701 := Aside0.mk hy701; clear hy701; replace H := Aside0.mk H; have hcz30_0 := cz0 BK693.out; have hcz30_1 := cz1 BK693.out; have hcz30_2 := cz2 BK693.out; have hcz30_3 := cz3 BK693.out; have hcz30_4 := cz4 BK693.out; have hcz30_5 := cz5 BK693.out; have hcz30_6 := cz6 BK693.out; have hcz30_7 := cz7 BK693.out; have hcz30_8 := cz8 BK693.out; have hcz30_9 := cz9 BK693.out; have hcz30_10 := cz10 BK693.out
     have hcz30_11 := cz11 BK693.out; have hfz30_0 := blk_frozen BK693.out 0; have hfz30_1 := blk_frozen BK693.out 1; have hfz30_2 := blk_frozen BK693.out 2; have hfz30_3 := blk_frozen BK693.out 3; have hfz30_4 := blk_frozen BK693.out 4; have hfz30_5 := blk_frozen BK693.out 5; have hfz30_6 := blk_frozen BK693.out 6; have hfz30_7 := blk_frozen BK693.out 7; have hfz30_8 := blk_frozen BK693.out 8; have hfz30_9 := blk_frozen BK693.out 9
     have hfz30_10 := blk_frozen BK693.out 10; have hfz30_11 := blk_frozen BK693.out 11
     have p700 : 0 ≤ (0 : Int) := (by omega)
     have q700 : 0 < (l0_0.length : Int) := of_decide_eq_true (by assumption)
     obtain ⟨ad700, e700, hx700_0⟩ := Kd.at_string HR0_0.out 0 p700 q700; cases e700
     have qi700 : (0 < l0_0.length) = True := eq_true (by omega)
     (try rw [show ((0 : Int)).toNat = 0 from rfl] at hx700_0); (try rw [Addr.add_zero'] at hx700_0); replace hx700_0 := hb_ HB hx700_0; replace p700 := eq_true p700; replace q700 := eq_true q700
     go_wp2_with (first | ((with_reducible refine gN 58 rfl ?_); (try (refine gate_guard (by rfl) ?_; dsimp only)); refine R_runes (ok := fun _ => True) _ 21 rfl (N := 58) rfl 9 36 (.tmp 57) rfl (rdOf ByteArray.empty l0_0 0) rfl Tryd.underlying9 Tryd.underlying36 Tryd.underlying21 (of_decide_eq_true (by assumption)) (fun _ _ => trivial) (Below.refl _ _) (Nat.le_refl _) ?_; intro v702 w31 ho32 hb hg_ hnew_; clear hg_ hnew_; (first | rw [← Ny701.out] at ho32 | (simp only [Int.reduceToNat] at ho32; rw [← Ny701.out] at ho32)); have HO703 := oL ho32; replace BK693 := blB hb BK693; replace HB := hB hb; clear hb ho32))
     go_loopg [8] kj21 (fun kq v8 w' => ∃ (x8_3 : Int), v8 = .int .i64 x8_3 ∧ Aside0 (quilllaw16_MoveKeys.l2 kq (rdOf ByteArray.empty l0_0 0) y701 x8_3 l0_0 a0_1 a0_2 a0_3 a0_4 a0_5 a0_6 a0_7 l0_8 a0_9 a0_10 l0_11 = some r) ∧ Aside0 (kq ≤ kj21) ∧ Aside0 (Kd.R (Kd.int .i32) 21 w' w.heap.size (fun _ => True) v702 y701) ∧ Aside0 (w'.heap[gb693]? = some (.cells #[(.slice (some ad700) l0_0.length c0_0), .int .i64 a0_1, .int .i64 a0_2, .int .i64 a0_3, .int .i64 a0_4, .int .i64 a0_5, .int .i64 a0_6, .int .i64 a0_7, (.slice A0_8 l0_8.length c0_8), .int .i64 a0_9, .int .i64 a0_10, (.slice A0_11 l0_11.length c0_11)] 34 (0, 0))) ∧ Aside0 (Below w.heap.size w w'))
     case atStart => exact ⟨(30), r3_, H, ⟨Nat.le_refl _⟩, ⟨ro_ HO703⟩, ⟨BK693.out⟩, ⟨bl_⟩⟩
     case round =>
      clear H
      try clear c10b0
      try clear c28
      try clear c28b0
      try clear c28b1
      try clear c29
      try clear c29b0
      try clear c29b1
      try clear hcz30_0
      try clear hcz30_1
      try clear hcz30_10
      try clear hcz30_11
      try clear hcz30_2
      try clear hcz30_3
      try clear hcz30_4
      try clear hcz30_5
      try clear hcz30_6
      try clear hcz30_7
      try clear hcz30_8
      try clear hcz30_9
      try clear hcz8_0
      try clear hcz8_1
      try clear hcz8_10
      try clear hcz8_11
      try clear hcz8_2
      try clear hcz8_3
      try clear hcz8_4
      try clear hcz8_5
      try clear hcz8_6
      try clear hcz8_7
      try clear hcz8_8
      try clear hcz8_9
      try clear hfz30_0
      try clear hfz30_1
      try clear hfz30_10
      try clear hfz30_11
      try clear hfz30_2
      try clear hfz30_3
      try clear hfz30_4
      try clear hfz30_5
      try clear hfz30_6
      try clear hfz30_7
      try clear hfz30_8
      try clear hfz30_9
      try clear hfz8_0
      try clear hfz8_1
      try clear hfz8_10
      try clear hfz8_11
      try clear hfz8_2
      try clear hfz8_3
      try clear hfz8_4
      try clear hfz8_5
      try clear hfz8_6
      try clear hfz8_7
      try clear hfz8_8
      try clear hfz8_9
      try clear hx700_0
      try clear p700
      try clear q700
      obtain ⟨x8_3, rfl, HA, HK3, HO_7, BK693, HB⟩ := hrel
      cases gk with
      | zero => exact absurd HA.out (by simp [quilllaw16_MoveKeys.l2])
      | succ k3 =>
       obtain ⟨H⟩ := HA; simp only [quilllaw16_MoveKeys.l2] at H; replace H := nfd H; obtain ⟨c33b0, H⟩ | ⟨c33b0, H⟩ := H
       ·
        replace H := bindA H; obtain ⟨t705, A39, H⟩ := H; (try dsimp only at H); obtain rfl := Option.some.inj H
        go_wp2_with (first | ((with_reducible refine gC 17 rfl ?_); refine goesL1 (some 81) Tryd.func17 #[] rfl (map0) ?_; (with_reducible refine (quilllaw16_wakes.calls ?side1 A39.out).mono ?_); (case side1 => exact Tabs.below HT.out bl_); rintro e w40 ⟨rfl, hb⟩; refine ⟨_, rfl, ?_⟩; replace HO_7 := Aside0.mk (Kd.R_below (ro_ HO_7) hb); replace BK693 := blB hb BK693; replace HB := hB hb; (try clear hb)))
        go_ret
        exact ⟨rr_, bl_⟩
       replace H := bindA H; obtain ⟨t704, A34, H⟩ := H; (try dsimp only at H)
       by_cases c35 : t704 = true
       rotate_left
       ·
        replace c35 := Bool.eq_false_iff.mpr c35; subst c35; replace H := ifF H
        exact absurd H (by simp)
       subst c35; replace H := ifT H; replace H := Aside0.mk H; obtain ⟨Ao36, co36, eo36⟩ := Kd.R_slice HO_7.out; subst eo36; have hcz37_0 := cz0 BK693.out; have hcz37_1 := cz1 BK693.out; have hcz37_2 := cz2 BK693.out; have hcz37_3 := cz3 BK693.out; have hcz37_4 := cz4 BK693.out; have hcz37_5 := cz5 BK693.out; have hcz37_6 := cz6 BK693.out; have hcz37_7 := cz7 BK693.out; have hcz37_8 := cz8 BK693.out
       have hcz37_9 := cz9 BK693.out; have hcz37_10 := cz10 BK693.out; have hcz37_11 := cz11 BK693.out; have hfz37_0 := blk_frozen BK693.out 0; have hfz37_1 := blk_frozen BK693.out 1; have hfz37_2 := blk_frozen BK693.out 2; have hfz37_3 := blk_frozen BK693.out 3; have hfz37_4 := blk_frozen BK693.out 4; have hfz37_5 := blk_frozen BK693.out 5; have hfz37_6 := blk_frozen BK693.out 6; have hfz37_7 := blk_frozen BK693.out 7
       have hfz37_8 := blk_frozen BK693.out 8; have hfz37_9 := blk_frozen BK693.out 9; have hfz37_10 := blk_frozen BK693.out 10; have hfz37_11 := blk_frozen BK693.out 11
       go_wp2_with (first | ((with_reducible refine gC 16 rfl ?_); refine goesL1 (some 79) Tryd.func16 #[.string (rdOf ByteArray.empty l0_0 0), .slice Ao36 y701.length co36, .int .i64 (wrap64 ((y701.length : Int) / 2)), .agg #[.int .i64 0, .int .i64 (Int.tmod x8_3 3), .int .i64 0, .int .i64 x8_3, .int .i64 0, .int .i64 a0_7], .agg #[.int .i64 a0_9, .int .i64 a0_10], .slice A0_11 l0_11.length c0_11] rfl (map6 rfl rfl rfl rfl rfl rfl) ?_; refine cm_ (quilllaw16_one.calls sd_ sd_ sd_ sd_ sd_ A34.out) ?_; rintro e w38 ⟨rfl, hb⟩; refine ⟨_, rfl, ?_⟩; replace HO_7 := Aside0.mk (Kd.R_below (ro_ HO_7) hb); replace BK693 := blB hb BK693; replace HB := hB hb; (try clear hb)))
       go_roundg k3
       case measure => have := HK1.out; have := HJ21.out; have := HK3.out; omega
       case rel => exact ⟨(wrap64 (x8_3 + 1)), r3_, H, ⟨by have := HK1.out; have := HJ21.out; have := HK3.out; omega⟩, ⟨ro_ HO_7⟩, ⟨BK693.out⟩, ⟨bl_⟩⟩

end Go.Proofs.YtbgmmcngkdhpcaaDoor.P
