/- The walks of the functions that these statements reach: each Go function as a plain Lean function, and the proof that its call comes to that. Written by the session's program wip/pp.py. -/
import Derived.Test.YtbgmmcngkdhpcaaDoorP0
import Derived.Test.YtbgmmcngkdhpcaaDoorP1
import Derived.Test.YtbgmmcngkdhpcaaDoorP2
import Derived.Test.YtbgmmcngkdhpcaaDoorP4
import Derived.Test.YtbgmmcngkdhpcaaDoorP15
import Derived.Test.YtbgmmcngkdhpcaaDoorP16
import Derived.Test.YtbgmmcngkdhpcaaDoorP18
import Derived.Test.YtbgmmcngkdhpcaaDoorP26
namespace Go.Proofs.YtbgmmcngkdhpcaaDoor.P
open Go.Proofs.YtbgmmcngkdhpcaaDoor
open Go.RowKit Go.Proofs.YtbgmmcngkdhpcaaDoorW.PrintWords Go.Proofs.YtbgmmcngkdhpcaaDoorW.PrintLast Go.Proofs.YtbgmmcngkdhpcaaDoorW.PrintMore
attribute [local go_sem] cell_isSome max2_int min2_int max_two min_two max_three min_three max_four min_four   -- for this text's walks alone
set_option linter.unusedVariables false
set_option linter.unusedSimpArgs false
set_option maxHeartbeats 40000000
set_option maxRecDepth 100000

attribute [local go_sem high] eqA31 eqA54
/-! ### quilllaw16_MoveAgain: function 5 -/
mutual
def quilllaw16_MoveAgain.l0 : Nat → Int → List ByteArray → Int → Int → Int → Int → Int → Int → Int → List (S52) → Int → Int → List (S89) → Option (Bool)
  | 0, _, _, _, _, _, _, _, _, _, _, _, _, _ => none
  | k + 1, x3, v0, v1, v2, v3, v4, v5, v6, v7, v8, v9, v10, v11 => if x3 < (v0.length : Int) then (quilllaw16_MoveAgain.j1 k x3 (decide (x3 < 3)) v0 v1 v2 v3 v4 v5 v6 v7 v8 v9 v10 v11) else (quilllaw16_MoveAgain.j1 k x3 false v0 v1 v2 v3 v4 v5 v6 v7 v8 v9 v10 v11)
def quilllaw16_MoveAgain.j1 : Nat → Int → Bool → List ByteArray → Int → Int → Int → Int → Int → Int → Int → List (S52) → Int → Int → List (S89) → Option (Bool)
  | 0, _, _, _, _, _, _, _, _, _, _, _, _, _, _ => none
  | k + 1, x3, x35, v0, v1, v2, v3, v4, v5, v6, v7, v8, v9, v10, v11 => if x35 = true then (if 0 ≤ x3 then (if x3 < (v0.length : Int) then (if (rdOf ByteArray.empty v0 x3).size ≤ 70368744177664 then ((some (runesOf (rdOf ByteArray.empty v0 x3) : List Int)).bind fun y640 => ((quillref1_May.f k (rdOf ByteArray.empty v0 x3)).bind fun t643 => (if t643 = true then (quilllaw16_MoveAgain.j2 k x3 (rdOf ByteArray.empty v0 x3) y640 (decide ((y640.length : Int) > 300)) v0 v1 v2 v3 v4 v5 v6 v7 v8 v9 v10 v11) else (quilllaw16_MoveAgain.j2 k x3 (rdOf ByteArray.empty v0 x3) y640 true v0 v1 v2 v3 v4 v5 v6 v7 v8 v9 v10 v11)))) else (none)) else (none)) else (none)) else ((quilllaw16_wakes.f k).bind fun t638 => (some t638))
def quilllaw16_MoveAgain.j2 : Nat → Int → ByteArray → List Int → Bool → List ByteArray → Int → Int → Int → Int → Int → Int → Int → List (S52) → Int → Int → List (S89) → Option (Bool)
  | 0, _, _, _, _, _, _, _, _, _, _, _, _, _, _, _, _ => none
  | k + 1, x3, x4, x5, x54, v0, v1, v2, v3, v4, v5, v6, v7, v8, v9, v10, v11 => if x54 = true then (quilllaw16_MoveAgain.l0 k (wrap64 (x3 + 1)) v0 v1 v2 v3 v4 v5 v6 v7 v8 v9 v10 v11) else (quilllaw16_MoveAgain.l1 k x3 x4 x5 0 v0 v1 v2 v3 v4 v5 v6 v7 v8 v9 v10 v11)
def quilllaw16_MoveAgain.l1 : Nat → Int → ByteArray → List Int → Int → List ByteArray → Int → Int → Int → Int → Int → Int → Int → List (S52) → Int → Int → List (S89) → Option (Bool)
  | 0, _, _, _, _, _, _, _, _, _, _, _, _, _, _, _, _ => none
  | k + 1, x3, x4, x5, x6, v0, v1, v2, v3, v4, v5, v6, v7, v8, v9, v10, v11 => if x6 < (x5.length : Int) then ((some (([102, 70, 116, 84] : List Int) : List Int)).bind fun y644 => (if 0 ≤ (Int.tmod x6 4) then (if (Int.tmod x6 4) < (y644.length : Int) then (if (x5.length : Int) = 0 then (none) else (if 0 ≤ (Int.tmod (wrap64 (x6 + 1)) (x5.length : Int)) then (if (Int.tmod (wrap64 (x6 + 1)) (x5.length : Int)) < (x5.length : Int) then ((move_Go.f k x4 x6 0 0 0 (rd y644 (Int.tmod x6 4)) 0 (wrap64 (rd x5 (Int.tmod (wrap64 (x6 + 1)) (x5.length : Int)))) 0 0 ([] : List (S89))).bind fun bt650 => ((quilllaw16_num.f bt650.2.2.2.2).bind fun t657 => (if t657 = 0 then ((move_Go.f k x4 x6 0 0 0 59 0 5 bt650.2.2.1 bt650.2.2.2.1 ([] : List (S89))).bind fun bt658 => ((move_Go.f k x4 x6 0 0 0 (rd y644 (Int.tmod x6 4)) 0 (wrap64 (rd x5 (Int.tmod (wrap64 (x6 + 1)) (x5.length : Int)))) 102 113 ([] : List (S89))).bind fun bt665 => ((move_Go.f k x4 x6 0 0 0 44 0 0 bt650.2.2.1 bt650.2.2.2.1 ([] : List (S89))).bind fun bt672 => ((quillref10_Turned.f (rd y644 (Int.tmod x6 4))).bind fun t679 => ((move_Go.f k x4 x6 0 0 0 t679 0 (wrap64 (rd x5 (Int.tmod (wrap64 (x6 + 1)) (x5.length : Int)))) 0 0 ([] : List (S89))).bind fun bt680 => ((quilllaw16_num.f bt658.2.2.2.2).bind fun t687 => (if t687 = 0 then ((quilllaw16_num.f bt665.2.2.2.2).bind fun t688 => (if t688 = 0 then (if (!(bt658.1 == bt665.1) || (!(bt658.2.1 == bt665.2.1))) = true then (none) else (if (!(bt658.2.2.1 == bt650.2.2.1) || (!(bt658.2.2.2.1 == bt650.2.2.2.1))) = true then (none) else ((quilllaw16_num.f bt672.2.2.2.2).bind fun t689 => ((quilllaw16_num.f bt680.2.2.2.2).bind fun t690 => (if t689 = t690 then (if (!(bt672.1 == bt680.1) || (!(bt672.2.1 == bt680.2.1))) = true then (none) else (quilllaw16_MoveAgain.l1 k x3 x4 x5 (wrap64 (x6 + 1)) v0 v1 v2 v3 v4 v5 v6 v7 v8 v9 v10 v11)) else (none)))))) else (none))) else (none)))))))) else (quilllaw16_MoveAgain.l1 k x3 x4 x5 (wrap64 (x6 + 1)) v0 v1 v2 v3 v4 v5 v6 v7 v8 v9 v10 v11)))) else (none)) else (none))) else (none)) else (none))) else (quilllaw16_MoveAgain.l0 k (wrap64 (x3 + 1)) v0 v1 v2 v3 v4 v5 v6 v7 v8 v9 v10 v11)
end
def quilllaw16_MoveAgain.f (k : Nat) (l0_0 : List ByteArray) (a0_1 : Int) (a0_2 : Int) (a0_3 : Int) (a0_4 : Int) (a0_5 : Int) (a0_6 : Int) (a0_7 : Int) (l0_8 : List (S52)) (a0_9 : Int) (a0_10 : Int) (l0_11 : List (S89)) : Option (Bool) := (quilllaw16_Heavy.f k l0_0 a0_1 a0_2 a0_3 a0_4 a0_5 a0_6 a0_7 l0_8 a0_9 a0_10 l0_11).bind fun t637 => (if t637 = true then (some true) else (quilllaw16_MoveAgain.l0 k 0 l0_0 a0_1 a0_2 a0_3 a0_4 a0_5 a0_6 a0_7 l0_8 a0_9 a0_10 l0_11))
def quilllaw16_MoveAgain.T12 : Bool × List (List Nat × List Nat) := (true, [([], []), ([], []), ([1], [1]), ([0, 2], [0, 2]), ([3], [3]), ([], []), ([], []), ([6], [6]), ([], []), ([8], [8]), ([7, 9], [7, 9]), ([5, 10], [5, 10]), ([11], [11]), ([12], [12]), ([4, 13], [4, 13]), ([], []), ([15, 14, 0, 1, 2, 3, 4, 5, 6, 7, 8, 9, 10, 11, 12, 13, 14, 15], [14, 15])])
def quilllaw16_MoveAgain.B12 : List Nat := [0, 0, 2, 7, 15, 0, 0, 64, 0, 256, 960, 2016, 4064, 8160, 16383, 0, 65535]
theorem quilllaw16_MoveAgain.tab12 : rtab .any (opsOf Tryd.f5 12) = quilllaw16_MoveAgain.T12 := by kernel_rfl
theorem quilllaw16_MoveAgain.bits12 : waitsOk quilllaw16_MoveAgain.T12.2 quilllaw16_MoveAgain.B12 = true := by kernel_rfl
theorem quilllaw16_MoveAgain.calls {k : Nat} {A0_0 : Option Addr} {c0_0 : Nat} {l0_0 : List ByteArray} {a0_1 : Int} {a0_2 : Int} {a0_3 : Int} {a0_4 : Int} {a0_5 : Int} {a0_6 : Int} {a0_7 : Int} {A0_8 : Option Addr} {c0_8 : Nat} {l0_8 : List (S52)} {a0_9 : Int} {a0_10 : Int} {A0_11 : Option Addr} {c0_11 : Nat} {l0_11 : List (S89)} {r : Bool} {w : World} (hT : Tabs w) (hr0_0 : Kd.C Kd.string w A0_0 l0_0.length l0_0) (hc0_0 : l0_0.length ≤ c0_0) (hr0_8 : Kd.C k52 w A0_8 l0_8.length l0_8) (hc0_8 : l0_8.length ≤ c0_8) (hr0_11 : Kd.C k89 w A0_11 l0_11.length l0_11) (hc0_11 : l0_11.length ≤ c0_11) (H : quilllaw16_MoveAgain.f k l0_0 a0_1 a0_2 a0_3 a0_4 a0_5 a0_6 a0_7 l0_8 a0_9 a0_10 l0_11 = some r) :
  Calls Tryd.prog 5 #[.agg #[.slice A0_0 l0_0.length c0_0, .int .i64 a0_1, .int .i64 a0_2, .int .i64 a0_3, .int .i64 a0_4, .int .i64 a0_5, .int .i64 a0_6, .int .i64 a0_7, .slice A0_8 l0_8.length c0_8, .int .i64 a0_9, .int .i64 a0_10, .slice A0_11 l0_11.length c0_11]] w fun e w' => e = .returned (.bool r) ∧ Below w.heap.size w w' := by
 have hu34 := Tryd.underlying34; have hu52 := Tryd.underlying52; have hu31 := Tryd.underlying31; have hu54 := Tryd.underlying54; have HT := Aside0.mk hT; clear hT; have HR0_0 := Aside0.mk hr0_0; have HC0_0 := Aside0.mk hc0_0; clear hr0_0 hc0_0; have HR0_8 := Aside0.mk hr0_8; have HC0_8 := Aside0.mk hc0_8; clear hr0_8 hc0_8; have HR0_11 := Aside0.mk hr0_11; have HC0_11 := Aside0.mk hc0_11; clear hr0_11 hc0_11
 have HB := Aside0.mk (Below.refl w.heap.size w); unfold quilllaw16_MoveAgain.f at H; replace H := bindA H; obtain ⟨t637, A2, H⟩ := H; (try dsimp only at H); replace H := ifb H; obtain ⟨rfl, H⟩ | ⟨rfl, H⟩ := H
 ·
  obtain rfl := Option.some.inj H; go_enter Tryd.func5, Tryd.ntmps5
  go_wp2_with (first | ((with_reducible refine gN 1 rfl ?_); (try (refine gate_guard (by rfl) ?_; dsimp only)); refine box1 (N := 1) (cs := #[.slice A0_0 l0_0.length c0_0, .int .i64 a0_1, .int .i64 a0_2, .int .i64 a0_3, .int .i64 a0_4, .int .i64 a0_5, .int .i64 a0_6, .int .i64 a0_7, .slice A0_8 l0_8.length c0_8, .int .i64 a0_9, .int .i64 a0_10, .slice A0_11 l0_11.length c0_11]) (t := 34) ?_; intro gb636 hg w4 hbox hb; have BK636 := Aside0.mk hbox; have GW636 := gE hg; have GE636 := GW636; replace HB := hB hb; clear hb hbox hg; have hcz5_0 := cz0 BK636.out; have hcz5_1 := cz1 BK636.out; have hcz5_2 := cz2 BK636.out; have hcz5_3 := cz3 BK636.out; have hcz5_4 := cz4 BK636.out; have hcz5_5 := cz5 BK636.out; have hcz5_6 := cz6 BK636.out; have hcz5_7 := cz7 BK636.out; have hcz5_8 := cz8 BK636.out; have hcz5_9 := cz9 BK636.out; have hcz5_10 := cz10 BK636.out; have hcz5_11 := cz11 BK636.out; have hfz5_0 := blk_frozen BK636.out 0; have hfz5_1 := blk_frozen BK636.out 1; have hfz5_2 := blk_frozen BK636.out 2; have hfz5_3 := blk_frozen BK636.out 3; have hfz5_4 := blk_frozen BK636.out 4; have hfz5_5 := blk_frozen BK636.out 5; have hfz5_6 := blk_frozen BK636.out 6; have hfz5_7 := blk_frozen BK636.out 7; have hfz5_8 := blk_frozen BK636.out 8; have hfz5_9 := blk_frozen BK636.out 9; have hfz5_10 := blk_frozen BK636.out 10; have hfz5_11 := blk_frozen BK636.out 11) | ((with_reducible refine gC 7 rfl ?_); refine goesL1 (some 24) Tryd.func7 #[.agg #[.slice A0_0 l0_0.length c0_0, .int .i64 a0_1, .int .i64 a0_2, .int .i64 a0_3, .int .i64 a0_4, .int .i64 a0_5, .int .i64 a0_6, .int .i64 a0_7, .slice A0_8 l0_8.length c0_8, .int .i64 a0_9, .int .i64 a0_10, .slice A0_11 l0_11.length c0_11]] rfl (map1 rfl) ?_; refine cm_ (quilllaw16_Heavy.calls sd_ sd_ sd_ sd_ sd_ sd_ A2.out) ?_; rintro e w6 ⟨rfl, hb⟩; refine ⟨_, rfl, ?_⟩; replace BK636 := blB hb BK636; replace HB := hB hb; (try clear hb); (try clear hcz5_0); (try clear hcz5_1); (try clear hcz5_2); (try clear hcz5_3); (try clear hcz5_4); (try clear hcz5_5); (try clear hcz5_6); (try clear hcz5_7); (try clear hcz5_8); (try clear hcz5_9); (try clear hcz5_10); (try clear hcz5_11); (try clear hfz5_0); (try clear hfz5_1); (try clear hfz5_2); (try clear hfz5_3); (try clear hfz5_4); (try clear hfz5_5); (try clear hfz5_6); (try clear hfz5_7); (try clear hfz5_8); (try clear hfz5_9); (try clear hfz5_10); (try clear hfz5_11)))
  go_ret
  exact ⟨rr_, bl_⟩
 replace H := Aside0.mk H; go_enter Tryd.func5, Tryd.ntmps5
 go_wp2_with (first | ((with_reducible refine gN 1 rfl ?_); (try (refine gate_guard (by rfl) ?_; dsimp only)); refine box1 (N := 1) (cs := #[.slice A0_0 l0_0.length c0_0, .int .i64 a0_1, .int .i64 a0_2, .int .i64 a0_3, .int .i64 a0_4, .int .i64 a0_5, .int .i64 a0_6, .int .i64 a0_7, .slice A0_8 l0_8.length c0_8, .int .i64 a0_9, .int .i64 a0_10, .slice A0_11 l0_11.length c0_11]) (t := 34) ?_; intro gb636 hg w7 hbox hb; have BK636 := Aside0.mk hbox; have GW636 := gE hg; have GE636 := GW636; replace HB := hB hb; clear hb hbox hg; have hcz8_0 := cz0 BK636.out; have hcz8_1 := cz1 BK636.out; have hcz8_2 := cz2 BK636.out; have hcz8_3 := cz3 BK636.out; have hcz8_4 := cz4 BK636.out; have hcz8_5 := cz5 BK636.out; have hcz8_6 := cz6 BK636.out; have hcz8_7 := cz7 BK636.out; have hcz8_8 := cz8 BK636.out; have hcz8_9 := cz9 BK636.out; have hcz8_10 := cz10 BK636.out; have hcz8_11 := cz11 BK636.out; have hfz8_0 := blk_frozen BK636.out 0; have hfz8_1 := blk_frozen BK636.out 1; have hfz8_2 := blk_frozen BK636.out 2; have hfz8_3 := blk_frozen BK636.out 3; have hfz8_4 := blk_frozen BK636.out 4; have hfz8_5 := blk_frozen BK636.out 5; have hfz8_6 := blk_frozen BK636.out 6; have hfz8_7 := blk_frozen BK636.out 7; have hfz8_8 := blk_frozen BK636.out 8; have hfz8_9 := blk_frozen BK636.out 9; have hfz8_10 := blk_frozen BK636.out 10; have hfz8_11 := blk_frozen BK636.out 11) | ((with_reducible refine gC 7 rfl ?_); refine goesL1 (some 24) Tryd.func7 #[.agg #[.slice A0_0 l0_0.length c0_0, .int .i64 a0_1, .int .i64 a0_2, .int .i64 a0_3, .int .i64 a0_4, .int .i64 a0_5, .int .i64 a0_6, .int .i64 a0_7, .slice A0_8 l0_8.length c0_8, .int .i64 a0_9, .int .i64 a0_10, .slice A0_11 l0_11.length c0_11]] rfl (map1 rfl) ?_; refine cm_ (quilllaw16_Heavy.calls sd_ sd_ sd_ sd_ sd_ sd_ A2.out) ?_; rintro e w9 ⟨rfl, hb⟩; refine ⟨_, rfl, ?_⟩; replace BK636 := blB hb BK636; replace HB := hB hb; (try clear hb); (try clear hcz8_0); (try clear hcz8_1); (try clear hcz8_2); (try clear hcz8_3); (try clear hcz8_4); (try clear hcz8_5); (try clear hcz8_6); (try clear hcz8_7); (try clear hcz8_8); (try clear hcz8_9); (try clear hcz8_10); (try clear hcz8_11); (try clear hfz8_0); (try clear hfz8_1); (try clear hfz8_2); (try clear hfz8_3); (try clear hfz8_4); (try clear hfz8_5); (try clear hfz8_6); (try clear hfz8_7); (try clear hfz8_8); (try clear hfz8_9); (try clear hfz8_10); (try clear hfz8_11)))
 go_loopg [3] k (fun kq v3 w' => ∃ (x3_1 : Int), v3 = .int .i64 x3_1 ∧ Aside0 (quilllaw16_MoveAgain.l0 kq x3_1 l0_0 a0_1 a0_2 a0_3 a0_4 a0_5 a0_6 a0_7 l0_8 a0_9 a0_10 l0_11 = some r) ∧ Aside0 (kq ≤ k) ∧ Aside0 (w'.heap[gb636]? = some (.cells #[(.slice A0_0 l0_0.length c0_0), .int .i64 a0_1, .int .i64 a0_2, .int .i64 a0_3, .int .i64 a0_4, .int .i64 a0_5, .int .i64 a0_6, .int .i64 a0_7, (.slice A0_8 l0_8.length c0_8), .int .i64 a0_9, .int .i64 a0_10, (.slice A0_11 l0_11.length c0_11)] 34 (0, 0))) ∧ Aside0 (Below w.heap.size w w'))
 case atStart => exact ⟨(0), r3_, H, ⟨Nat.le_refl _⟩, ⟨BK636.out⟩, ⟨bl_⟩⟩
 case round =>
  clear H
  try clear hcz8_0
  try clear hcz8_1
  try clear hcz8_10
  try clear hcz8_11
  try clear hcz8_2
  try clear hcz8_3
  try clear hcz8_4
  try clear hcz8_5
  try clear hcz8_6
  try clear hcz8_7
  try clear hcz8_8
  try clear hcz8_9
  try clear hfz8_0
  try clear hfz8_1
  try clear hfz8_10
  try clear hfz8_11
  try clear hfz8_2
  try clear hfz8_3
  try clear hfz8_4
  try clear hfz8_5
  try clear hfz8_6
  try clear hfz8_7
  try clear hfz8_8
  try clear hfz8_9
  obtain ⟨x3_1, rfl, HA, HK1, BK636, HB⟩ := hrel
  cases gk with
  | zero => exact absurd HA.out (by simp [quilllaw16_MoveAgain.l0])
  | succ k1 =>
   obtain ⟨H⟩ := HA; simp only [quilllaw16_MoveAgain.l0] at H; have HC10 := Aside0.mk H; clear H
   go_upto_region 4 with (fail)
   go_cut [35] (fun v35 wc => ∃ (kq : Nat) (x35_9 : Bool), v35 = .bool x35_9 ∧ Aside0 (quilllaw16_MoveAgain.j1 kq x3_1 x35_9 l0_0 a0_1 a0_2 a0_3 a0_4 a0_5 a0_6 a0_7 l0_8 a0_9 a0_10 l0_11 = some r) ∧ Aside0 (kq ≤ k1) ∧ Aside0 (wc.heap[gb636]? = some (.cells #[(.slice A0_0 l0_0.length c0_0), .int .i64 a0_1, .int .i64 a0_2, .int .i64 a0_3, .int .i64 a0_4, .int .i64 a0_5, .int .i64 a0_6, .int .i64 a0_7, (.slice A0_8 l0_8.length c0_8), .int .i64 a0_9, .int .i64 a0_10, (.slice A0_11 l0_11.length c0_11)] 34 (0, 0))) ∧ Aside0 (Below w.heap.size w wc))
   case first =>
    obtain ⟨H⟩ := HC10; replace H := nfd H; obtain ⟨c11b0, H⟩ | ⟨c11b0, H⟩ := H
    ·
     (first | rw [c11b0] | (simp only [i64_w, i32_w]; rw [c11b0]) | skip); replace H := Aside0.mk H; have hcz13_0 := cz0 BK636.out; have hcz13_1 := cz1 BK636.out; have hcz13_2 := cz2 BK636.out; have hcz13_3 := cz3 BK636.out; have hcz13_4 := cz4 BK636.out; have hcz13_5 := cz5 BK636.out; have hcz13_6 := cz6 BK636.out; have hcz13_7 := cz7 BK636.out; have hcz13_8 := cz8 BK636.out; have hcz13_9 := cz9 BK636.out
     have hcz13_10 := cz10 BK636.out; have hcz13_11 := cz11 BK636.out; have hfz13_0 := blk_frozen BK636.out 0; have hfz13_1 := blk_frozen BK636.out 1; have hfz13_2 := blk_frozen BK636.out 2; have hfz13_3 := blk_frozen BK636.out 3; have hfz13_4 := blk_frozen BK636.out 4; have hfz13_5 := blk_frozen BK636.out 5; have hfz13_6 := blk_frozen BK636.out 6; have hfz13_7 := blk_frozen BK636.out 7; have hfz13_8 := blk_frozen BK636.out 8
     have hfz13_9 := blk_frozen BK636.out 9; have hfz13_10 := blk_frozen BK636.out 10; have hfz13_11 := blk_frozen BK636.out 11; go_wp2; go_meet
     case rel => exact ⟨_, (false), r3_, H, ⟨by have := HK1.out; first | omega | exact Nat.le_refl _⟩, ⟨BK636.out⟩, ⟨bl_⟩⟩
    (first | rw [c11b0] | (simp only [i64_w, i32_w]; rw [c11b0]) | skip); replace H := Aside0.mk H; have hcz12_0 := cz0 BK636.out; have hcz12_1 := cz1 BK636.out; have hcz12_2 := cz2 BK636.out; have hcz12_3 := cz3 BK636.out; have hcz12_4 := cz4 BK636.out; have hcz12_5 := cz5 BK636.out; have hcz12_6 := cz6 BK636.out; have hcz12_7 := cz7 BK636.out; have hcz12_8 := cz8 BK636.out; have hcz12_9 := cz9 BK636.out
    have hcz12_10 := cz10 BK636.out; have hcz12_11 := cz11 BK636.out; have hfz12_0 := blk_frozen BK636.out 0; have hfz12_1 := blk_frozen BK636.out 1; have hfz12_2 := blk_frozen BK636.out 2; have hfz12_3 := blk_frozen BK636.out 3; have hfz12_4 := blk_frozen BK636.out 4; have hfz12_5 := blk_frozen BK636.out 5; have hfz12_6 := blk_frozen BK636.out 6; have hfz12_7 := blk_frozen BK636.out 7; have hfz12_8 := blk_frozen BK636.out 8
    have hfz12_9 := blk_frozen BK636.out 9; have hfz12_10 := blk_frozen BK636.out 10; have hfz12_11 := blk_frozen BK636.out 11; go_wp2; go_meet
    case rel => exact ⟨_, (decide (x3_1 < 3)), r3_, H, ⟨by have := HK1.out; first | omega | exact Nat.le_refl _⟩, ⟨BK636.out⟩, ⟨bl_⟩⟩
   case rest =>
    clear HC10
    try clear hcz8_0
    try clear hcz8_1
    try clear hcz8_10
    try clear hcz8_11
    try clear hcz8_2
    try clear hcz8_3
    try clear hcz8_4
    try clear hcz8_5
    try clear hcz8_6
    try clear hcz8_7
    try clear hcz8_8
    try clear hcz8_9
    try clear hfz8_0
    try clear hfz8_1
    try clear hfz8_10
    try clear hfz8_11
    try clear hfz8_2
    try clear hfz8_3
    try clear hfz8_4
    try clear hfz8_5
    try clear hfz8_6
    try clear hfz8_7
    try clear hfz8_8
    try clear hfz8_9
    obtain ⟨kq, x35_9, rfl, HA, HJ9, BK636, HB⟩ := hcut
    cases kq with
    | zero => exact absurd HA.out (by simp [quilllaw16_MoveAgain.j1])
    | succ kj9 =>
     obtain ⟨H⟩ := HA; simp only [quilllaw16_MoveAgain.j1] at H; replace H := nfb H; obtain ⟨rfl, H⟩ | ⟨rfl, H⟩ := H
     ·
      replace H := bindA H; obtain ⟨t638, A195, H⟩ := H; (try dsimp only at H); obtain rfl := Option.some.inj H
      go_wp2_with (first | ((with_reducible refine gC 17 rfl ?_); refine goesL1 (some 158) Tryd.func17 #[] rfl (map0) ?_; (with_reducible refine (quilllaw16_wakes.calls ?side1 A195.out).mono ?_); (case side1 => exact Tabs.below HT.out bl_); rintro e w196 ⟨rfl, hb⟩; refine ⟨_, rfl, ?_⟩; replace BK636 := blB hb BK636; replace HB := hB hb; (try clear hb)))
      go_ret
      exact ⟨rr_, bl_⟩
     replace H := ifq H; obtain ⟨c15b0, c16b0, H⟩ := H
     by_cases c17 : (rdOf ByteArray.empty l0_0 x3_1).size ≤ 70368744177664
     rotate_left
     ·
      rw [if_neg c17] at H
      exact absurd H (by simp)
     rw [if_pos c17] at H; have c17b0 := eq_true c17; have c17b1 := decide_eq_true c17; clear c17; obtain ⟨y640, hy640⟩ : ∃ y_ : List Int, y_ = (runesOf (rdOf ByteArray.empty l0_0 x3_1)) := ⟨_, rfl⟩
     replace H : ((quillref1_May.f kj9 (rdOf ByteArray.empty l0_0 x3_1)).bind fun t643 => (if t643 = true then (quilllaw16_MoveAgain.j2 kj9 x3_1 (rdOf ByteArray.empty l0_0 x3_1) y640 (decide ((y640.length : Int) > 300)) l0_0 a0_1 a0_2 a0_3 a0_4 a0_5 a0_6 a0_7 l0_8 a0_9 a0_10 l0_11) else (quilllaw16_MoveAgain.j2 kj9 x3_1 (rdOf ByteArray.empty l0_0 x3_1) y640 true l0_0 a0_1 a0_2 a0_3 a0_4 a0_5 a0_6 a0_7 l0_8 a0_9 a0_10 l0_11))) = some r := by first | (rw [hy640]; with_reducible exact H) | (have H2_ := (Option.bind_some _ _).symm.trans H; rw [hy640]; with_reducible exact H2_) | (have H2_ := (Option.bind_some _ _).symm.trans H; with_reducible exact H2_) | with_reducible exact H | (rw [hy640]; exact H) | exact H
     have Ny640 := Aside0.mk hy640; clear hy640; have HC18 := Aside0.mk H; clear H; have hcz19_0 := cz0 BK636.out; have hcz19_1 := cz1 BK636.out; have hcz19_2 := cz2 BK636.out; have hcz19_3 := cz3 BK636.out; have hcz19_4 := cz4 BK636.out; have hcz19_5 := cz5 BK636.out; have hcz19_6 := cz6 BK636.out; have hcz19_7 := cz7 BK636.out; have hcz19_8 := cz8 BK636.out; have hcz19_9 := cz9 BK636.out; have hcz19_10 := cz10 BK636.out
     have hcz19_11 := cz11 BK636.out; have hfz19_0 := blk_frozen BK636.out 0; have hfz19_1 := blk_frozen BK636.out 1; have hfz19_2 := blk_frozen BK636.out 2; have hfz19_3 := blk_frozen BK636.out 3; have hfz19_4 := blk_frozen BK636.out 4; have hfz19_5 := blk_frozen BK636.out 5; have hfz19_6 := blk_frozen BK636.out 6; have hfz19_7 := blk_frozen BK636.out 7; have hfz19_8 := blk_frozen BK636.out 8; have hfz19_9 := blk_frozen BK636.out 9
     have hfz19_10 := blk_frozen BK636.out 10; have hfz19_11 := blk_frozen BK636.out 11; obtain ⟨p639, q639, ad639, e639, hx639_0⟩ := ix_ (Kd.at_string HR0_0.out x3_1); cases e639; replace hx639_0 := hb_ HB hx639_0
     go_upto_region 8 with (first | ((with_reducible refine gN 46 rfl ?_); (try (refine gate_guard (by rfl) ?_; dsimp only)); refine R_runes (ok := fun _ => True) _ 21 rfl (N := 46) rfl 9 36 (.tmp 45) rfl (rdOf ByteArray.empty l0_0 x3_1) rfl Tryd.underlying9 Tryd.underlying36 Tryd.underlying21 (of_decide_eq_true (by assumption)) (fun _ _ => trivial) (Below.refl _ _) (Nat.le_refl _) ?_; intro v641 w20 ho21 hb hg_ hnew_; clear hg_ hnew_; (first | rw [← Ny640.out] at ho21 | (simp only [Int.reduceToNat] at ho21; rw [← Ny640.out] at ho21)); have HO642 := oL ho21; replace BK636 := blB hb BK636; replace HB := hB hb; clear hb ho21))
     (try simp only [Act.put, List.setIfInBounds_toArray, List.set_cons_zero, List.set_cons_succ])
     go_cut [54] (fun v54 wc => ∃ (kq : Nat) (x54_17 : Bool), v54 = .bool x54_17 ∧ Aside0 (quilllaw16_MoveAgain.j2 kq x3_1 (rdOf ByteArray.empty l0_0 x3_1) y640 x54_17 l0_0 a0_1 a0_2 a0_3 a0_4 a0_5 a0_6 a0_7 l0_8 a0_9 a0_10 l0_11 = some r) ∧ Aside0 (kq ≤ kj9) ∧ Aside0 (Kd.R (Kd.int .i32) 21 wc w.heap.size (fun _ => True) v641 y640) ∧ Aside0 (wc.heap[gb636]? = some (.cells #[(.slice (some ad639) l0_0.length c0_0), .int .i64 a0_1, .int .i64 a0_2, .int .i64 a0_3, .int .i64 a0_4, .int .i64 a0_5, .int .i64 a0_6, .int .i64 a0_7, (.slice A0_8 l0_8.length c0_8), .int .i64 a0_9, .int .i64 a0_10, (.slice A0_11 l0_11.length c0_11)] 34 (0, 0))) ∧ Aside0 (Below w.heap.size w wc))
     case first =>
      obtain ⟨H⟩ := HC18; replace H := bindA H; obtain ⟨t643, A22, H⟩ := H; (try dsimp only at H); replace H := nfb H; obtain ⟨rfl, H⟩ | ⟨rfl, H⟩ := H
      ·
       replace H := Aside0.mk H
       go_wp2_with (first | ((with_reducible refine gC 10 rfl ?_); refine goesL1 (some 48) Tryd.func10 #[.string (rdOf ByteArray.empty l0_0 x3_1)] rfl (map1 rfl) ?_; (with_reducible refine (quillref1_May.calls ?side1 A22.out).mono ?_); (case side1 => exact Tabs.below HT.out bl_); rintro e w26 ⟨rfl, hb⟩; refine ⟨_, rfl, ?_⟩; replace HO642 := Aside0.mk (Kd.R_below (ro_ HO642) hb); replace BK636 := blB hb BK636; replace HB := hB hb; (try clear hb)))
       go_meet
       case rel => exact ⟨_, (true), r3_, H, ⟨by have := HK1.out; have := HJ9.out; first | omega | exact Nat.le_refl _⟩, ⟨ro_ HO642⟩, ⟨BK636.out⟩, ⟨bl_⟩⟩
      replace H := Aside0.mk H
      go_wp2_with (first | ((with_reducible refine gC 10 rfl ?_); refine goesL1 (some 48) Tryd.func10 #[.string (rdOf ByteArray.empty l0_0 x3_1)] rfl (map1 rfl) ?_; (with_reducible refine (quillref1_May.calls ?side1 A22.out).mono ?_); (case side1 => exact Tabs.below HT.out bl_); rintro e w24 ⟨rfl, hb⟩; refine ⟨_, rfl, ?_⟩; replace HO642 := Aside0.mk (Kd.R_below (ro_ HO642) hb); replace BK636 := blB hb BK636; replace HB := hB hb; (try clear hb); obtain ⟨Ao25, co25, eo25⟩ := Kd.R_slice HO642.out; subst eo25))
      go_meet
      case rel => exact ⟨_, (decide ((y640.length : Int) > 300)), r3_, H, ⟨by have := HK1.out; have := HJ9.out; first | omega | exact Nat.le_refl _⟩, ⟨ro_ HO642⟩, ⟨BK636.out⟩, ⟨bl_⟩⟩
     case rest =>
      clear HC18
      try clear c15b0
      try clear c16b0
      try clear c17
      try clear c17b0
      try clear c17b1
      try clear hcz19_0
      try clear hcz19_1
      try clear hcz19_10
      try clear hcz19_11
      try clear hcz19_2
      try clear hcz19_3
      try clear hcz19_4
      try clear hcz19_5
      try clear hcz19_6
      try clear hcz19_7
      try clear hcz19_8
      try clear hcz19_9
      try clear hcz8_0
      try clear hcz8_1
      try clear hcz8_10
      try clear hcz8_11
      try clear hcz8_2
      try clear hcz8_3
      try clear hcz8_4
      try clear hcz8_5
      try clear hcz8_6
      try clear hcz8_7
      try clear hcz8_8
      try clear hcz8_9
      try clear hfz19_0
      try clear hfz19_1
      try clear hfz19_10
      try clear hfz19_11
      try clear hfz19_2
      try clear hfz19_3
      try clear hfz19_4
      try clear hfz19_5
      try clear hfz19_6
      try clear hfz19_7
      try clear hfz19_8
      try clear hfz19_9
      try clear hfz8_0
      try clear hfz8_1
      try clear hfz8_10
      try clear hfz8_11
      try clear hfz8_2
      try clear hfz8_3
      try clear hfz8_4
      try clear hfz8_5
      try clear hfz8_6
      try clear hfz8_7
      try clear hfz8_8
      try clear hfz8_9
      try clear hx639_0
      try clear p639
      try clear q639
      obtain ⟨kq, x54_17, rfl, HA, HJ17, HO_5, BK636, HB⟩ := hcut
      cases kq with
      | zero => exact absurd HA.out (by simp [quilllaw16_MoveAgain.j2])
      | succ kj17 =>
       obtain ⟨H⟩ := HA; simp only [quilllaw16_MoveAgain.j2] at H; replace H := ifb H; obtain ⟨rfl, H⟩ | ⟨rfl, H⟩ := H
       ·
        replace H := Aside0.mk H; go_wp2
        go_roundg kj17
        case measure => have := HK1.out; have := HJ9.out; have := HJ17.out; omega
        case rel => exact ⟨(wrap64 (x3_1 + 1)), r3_, H, ⟨by have := HK1.out; have := HJ9.out; have := HJ17.out; omega⟩, ⟨BK636.out⟩, ⟨bl_⟩⟩
       replace H := Aside0.mk H; go_wp2
       go_loopg [6] kj17 (fun kq v6 w' => ∃ (x6_4 : Int), v6 = .int .i64 x6_4 ∧ Aside0 (quilllaw16_MoveAgain.l1 kq x3_1 (rdOf ByteArray.empty l0_0 x3_1) y640 x6_4 l0_0 a0_1 a0_2 a0_3 a0_4 a0_5 a0_6 a0_7 l0_8 a0_9 a0_10 l0_11 = some r) ∧ Aside0 (kq ≤ kj17) ∧ Aside0 (Kd.R (Kd.int .i32) 21 w' w.heap.size (fun _ => True) v641 y640) ∧ Aside0 (w'.heap[gb636]? = some (.cells #[(.slice (some ad639) l0_0.length c0_0), .int .i64 a0_1, .int .i64 a0_2, .int .i64 a0_3, .int .i64 a0_4, .int .i64 a0_5, .int .i64 a0_6, .int .i64 a0_7, (.slice A0_8 l0_8.length c0_8), .int .i64 a0_9, .int .i64 a0_10, (.slice A0_11 l0_11.length c0_11)] 34 (0, 0))) ∧ Aside0 (Below w.heap.size w w'))
       case atStart => exact ⟨(0), r3_, H, ⟨Nat.le_refl _⟩, ⟨ro_ HO_5⟩, ⟨BK636.out⟩, ⟨bl_⟩⟩
       case round =>
        clear H
        try clear c15b0
        try clear c16b0
        try clear c17
        try clear c17b0
        try clear c17b1
        try clear hcz19_0
        try clear hcz19_1
        try clear hcz19_10
        try clear hcz19_11
        try clear hcz19_2
        try clear hcz19_3
        try clear hcz19_4
        try clear hcz19_5
        try clear hcz19_6
        try clear hcz19_7
        try clear hcz19_8
        try clear hcz19_9
        try clear hcz8_0
        try clear hcz8_1
        try clear hcz8_10
        try clear hcz8_11
        try clear hcz8_2
        try clear hcz8_3
        try clear hcz8_4
        try clear hcz8_5
        try clear hcz8_6
        try clear hcz8_7
        try clear hcz8_8
        try clear hcz8_9
        try clear hfz19_0
        try clear hfz19_1
        try clear hfz19_10
        try clear hfz19_11
        try clear hfz19_2
        try clear hfz19_3
        try clear hfz19_4
        try clear hfz19_5
        try clear hfz19_6
        try clear hfz19_7
        try clear hfz19_8
        try clear hfz19_9
        try clear hfz8_0
        try clear hfz8_1
        try clear hfz8_10
        try clear hfz8_11
        try clear hfz8_2
        try clear hfz8_3
        try clear hfz8_4
        try clear hfz8_5
        try clear hfz8_6
        try clear hfz8_7
        try clear hfz8_8
        try clear hfz8_9
        try clear hx639_0
        try clear p639
        try clear q639
        obtain ⟨x6_4, rfl, HA, HK4, HO_5, BK636, HB⟩ := hrel
        cases gk with
        | zero => exact absurd HA.out (by simp [quilllaw16_MoveAgain.l1])
        | succ k4 =>
         obtain ⟨H⟩ := HA; simp only [quilllaw16_MoveAgain.l1] at H; replace H := nfd H; obtain ⟨c28b0, H⟩ | ⟨c28b0, H⟩ := H
         ·
          replace H := Aside0.mk H; obtain ⟨Ao194, co194, eo194⟩ := Kd.R_slice HO_5.out; subst eo194; go_wp2
          go_roundg k4
          case measure => have := HK1.out; have := HJ9.out; have := HJ17.out; have := HK4.out; omega
          case rel => exact ⟨(wrap64 (x3_1 + 1)), r3_, H, ⟨by have := HK1.out; have := HJ9.out; have := HJ17.out; have := HK4.out; omega⟩, ⟨BK636.out⟩, ⟨bl_⟩⟩
         obtain ⟨y644, hy644⟩ : ∃ y_ : List Int, y_ = (([102, 70, 116, 84] : List Int)) := ⟨_, rfl⟩
         replace H : (if 0 ≤ (Int.tmod x6_4 4) then (if (Int.tmod x6_4 4) < (y644.length : Int) then (if (y640.length : Int) = 0 then (none) else (if 0 ≤ (Int.tmod (wrap64 (x6_4 + 1)) (y640.length : Int)) then (if (Int.tmod (wrap64 (x6_4 + 1)) (y640.length : Int)) < (y640.length : Int) then ((move_Go.f k4 (rdOf ByteArray.empty l0_0 x3_1) x6_4 0 0 0 (rd y644 (Int.tmod x6_4 4)) 0 (wrap64 (rd y640 (Int.tmod (wrap64 (x6_4 + 1)) (y640.length : Int)))) 0 0 ([] : List (S89))).bind fun bt650 => ((quilllaw16_num.f bt650.2.2.2.2).bind fun t657 => (if t657 = 0 then ((move_Go.f k4 (rdOf ByteArray.empty l0_0 x3_1) x6_4 0 0 0 59 0 5 bt650.2.2.1 bt650.2.2.2.1 ([] : List (S89))).bind fun bt658 => ((move_Go.f k4 (rdOf ByteArray.empty l0_0 x3_1) x6_4 0 0 0 (rd y644 (Int.tmod x6_4 4)) 0 (wrap64 (rd y640 (Int.tmod (wrap64 (x6_4 + 1)) (y640.length : Int)))) 102 113 ([] : List (S89))).bind fun bt665 => ((move_Go.f k4 (rdOf ByteArray.empty l0_0 x3_1) x6_4 0 0 0 44 0 0 bt650.2.2.1 bt650.2.2.2.1 ([] : List (S89))).bind fun bt672 => ((quillref10_Turned.f (rd y644 (Int.tmod x6_4 4))).bind fun t679 => ((move_Go.f k4 (rdOf ByteArray.empty l0_0 x3_1) x6_4 0 0 0 t679 0 (wrap64 (rd y640 (Int.tmod (wrap64 (x6_4 + 1)) (y640.length : Int)))) 0 0 ([] : List (S89))).bind fun bt680 => ((quilllaw16_num.f bt658.2.2.2.2).bind fun t687 => (if t687 = 0 then ((quilllaw16_num.f bt665.2.2.2.2).bind fun t688 => (if t688 = 0 then (if (!(bt658.1 == bt665.1) || (!(bt658.2.1 == bt665.2.1))) = true then (none) else (if (!(bt658.2.2.1 == bt650.2.2.1) || (!(bt658.2.2.2.1 == bt650.2.2.2.1))) = true then (none) else ((quilllaw16_num.f bt672.2.2.2.2).bind fun t689 => ((quilllaw16_num.f bt680.2.2.2.2).bind fun t690 => (if t689 = t690 then (if (!(bt672.1 == bt680.1) || (!(bt672.2.1 == bt680.2.1))) = true then (none) else (quilllaw16_MoveAgain.l1 k4 x3_1 (rdOf ByteArray.empty l0_0 x3_1) y640 (wrap64 (x6_4 + 1)) l0_0 a0_1 a0_2 a0_3 a0_4 a0_5 a0_6 a0_7 l0_8 a0_9 a0_10 l0_11)) else (none)))))) else (none))) else (none)))))))) else (quilllaw16_MoveAgain.l1 k4 x3_1 (rdOf ByteArray.empty l0_0 x3_1) y640 (wrap64 (x6_4 + 1)) l0_0 a0_1 a0_2 a0_3 a0_4 a0_5 a0_6 a0_7 l0_8 a0_9 a0_10 l0_11)))) else (none)) else (none))) else (none)) else (none)) = some r := by first | (rw [hy644]; with_reducible exact H) | (have H2_ := (Option.bind_some _ _).symm.trans H; rw [hy644]; with_reducible exact H2_) | (have H2_ := (Option.bind_some _ _).symm.trans H; with_reducible exact H2_) | with_reducible exact H | (rw [hy644]; exact H) | exact H
         have Ny644 := Aside0.mk hy644; clear hy644; obtain ⟨ji29, hji29⟩ : ∃ j_ : Int, (Int.tmod x6_4 4) = j_ := ⟨_, rfl⟩; (first | rw [hji29] at H | simp only [hji29] at H); replace H := ifq H; obtain ⟨c30b0, c31b0, H⟩ := H
         by_cases c32 : (y640.length : Int) = 0
         ·
          rw [if_pos c32] at H
          exact absurd H (by simp)
         rw [if_neg c32] at H
         have c32b0 : ((y640.length : Int) == 0) = false := beq_eq_false_iff_ne.mpr c32
         have c32b1 : ((y640.length : Int) != 0) = true := bne_iff_ne.mpr c32
         have c32b2 : ¬ (y640 = []) := fun h_ => c32 (by rw [h_]; rfl)
         obtain ⟨ji33, hji33⟩ : ∃ j_ : Int, (Int.tmod (wrap64 (x6_4 + 1)) (y640.length : Int)) = j_ := ⟨_, rfl⟩; (first | rw [hji33] at H | simp only [hji33] at H); replace H := ifq H; obtain ⟨c34b0, c35b0, H⟩ := H; replace H := bindA H; obtain ⟨⟨t650, t651, t652, t653, t654⟩, A36, H⟩ := H; (try dsimp only at H); replace H := bindA H; obtain ⟨t657, A37, H⟩ := H; (try dsimp only at H); replace H := nfe H
         obtain ⟨c38b0, c38b1, H⟩ | ⟨c38b0, c38b1, H⟩ := H
         ·
          replace H := Aside0.mk H; obtain ⟨Ao168, co168, eo168⟩ := Kd.R_slice HO_5.out; subst eo168
          try go_wp2
          have pi647 : (0 ≤ ((ji29) : Int)) = True := eq_true (of_decide_eq_true (by assumption))
          have qi647 : ((ji29) < (y644.length : Int)) = True := eq_true (of_decide_eq_true (by assumption))
          replace HO_5 := Aside0.mk (Kd.R_drew HO_5.out); replace BK636 := Aside0.mk (blk_drew BK636.out); replace HB := Aside0.mk (below_drew1 HB.out); obtain ⟨p648, q648, ad648, e648, hx648_0⟩ := ix_ (Kd.at_int (Kd.R_reads' HO_5.out).2.2 (ji33)); cases e648
          refine start_ (n := 17) (S := fun w' => w'.cell? (ad648.add ((ji33)).toNat) = some (.int .i32 (rd y640 (ji33)))) (ds := []) (lo 17 0) (by kernel_rfl) rfl rfl (hx648_0) (fun hHeld => ?_); refine with_tabW quilllaw16_MoveAgain.tab12 quilllaw16_MoveAgain.bits12 (fun HT_ HW_ => ?_)
          generalize wr.drew = w169 at HO_5 BK636 HB hx648_0 hHeld ⊢
          refine pu 1 (bs 17 2) ?_; refine pu 2 (bs 17 6) ?_; refine pu 5 (bs 17 38) ?_; refine pu 6 (bs 17 102) ?_; refine pu 7 (bs 17 230) ?_; refine pu 8 (bs 17 486) ?_; refine pu 9 (bs 17 998) ?_; refine pu 10 (bs 17 2022) ?_; refine pu 11 (bs 17 4070) ?_
          refine take_ (i := 12) (N := some 73) (v := ?_) (a' := ?_) (bs 17 8166) rfl rfl (take_ofW HT_.out HW_.out (by kernel_rfl)) (fun _ _ _ h => h) (Or.inl ⟨by rfl, ?_⟩) hHeld ?_ ?_
          rotate_left
          ·
           intro w' s0
           go_simp
           with_reducible rfl
          rotate_left
          · simp only [Act.put, List.setIfInBounds_toArray, List.set_cons_zero, List.set_cons_succ, i64_w, i32_w]; rfl
          refine pu 13 (bs 17 16358) ?_
          refine join_ (σ := Value × Addr × Nat) 1 #[true, true, true, true, true, true, true, true, true, true, true, true, true, true, true, true, false] (fun s_ => [(61, s_.1), (65, .int .i64 (rd y644 (ji29))), (7, .pointer (some ⟨s_.2.2, 0, none⟩)), (64, .pointer (some (s_.2.1.add ((ji29)).toNat))), (75, .agg #[.int .i64 0, .int .i64 0, .int .i64 0, .int .i64 (rd y644 (ji29)), .int .i64 0, .int .i64 (wrap64 (rd y640 (ji33)))])]) (fun s_ w' => (w'.cell? (ad648.add ((ji33)).toNat) = some (.int .i32 (rd y640 (ji33)))) ∧ (Kd.R (Kd.int .i64) 3 w' w.heap.size (fun _ => True) s_.1 y644) ∧ (Kd.R (Kd.int .i32) 21 w' w.heap.size (fun _ => True) (.slice (some ad648) y640.length co168) y640) ∧ (∃ c_, (s_.1 : Value) = .slice (some s_.2.1) y644.length c_) ∧ (w'.heap[gb636]? = some (.cells #[.slice (some ad639) l0_0.length c0_0, .int .i64 a0_1, .int .i64 a0_2, .int .i64 a0_3, .int .i64 a0_4, .int .i64 a0_5, .int .i64 a0_6, .int .i64 a0_7, .slice A0_8 l0_8.length c0_8, .int .i64 a0_9, .int .i64 a0_10, .slice A0_11 l0_11.length c0_11] 34 (0, 0))) ∧ (w'.heap[s_.2.2]? = some (.cells #[.int .i64 0, .int .i64 0, .int .i64 0, .int .i64 0, .int .i64 0, .int .i64 0] 52 (0, 0))) ∧ (w.heap.size ≤ s_.2.2) ∧ (w.heap.size ≤ s_.2.2) ∧ (gb636 ≠ s_.2.2) ∧ (s_.2.2 ≠ gb636) ∧ (Below w.heap.size w w')) ?_ ?_
          rotate_left
          ·
           intro hCont
           refine two_ (i := 0) (j := 15) (Ni := some 61) (Nj := some 7) #[true, true, true, false, false, true, true, true, true, true, true, true, true, true, false, false, false] (bs 17 49126) rfl rfl rfl rfl (two_of HT_.out (by kernel_rfl)) (by decide) (by decide) (fun K hK => ?_) (fun K hK => ?_)
           ·
            skip
            refine Kd.R_lit_step (Kd.int .i64) _ 3 ?hg (N := 61) ?hd (xs := ([102, 70, 116, 84] : List Int)) (inner := [.int .i64 102, .int .i64 70, .int .i64 116, .int .i64 84]) (ok := fun _ => True) (okp := fun _ => True) ?hr ?hp (fun _ hk => hk) trivial (Below.refl _ _) (Nat.le_refl _) (by simp) ?_; (case hd => rfl); (case hg => rfl); (case hr => first | (go_simp; done) | (go_simp; rfl)); (case hp => exact (Reps.one (show Kd.M (Kd.int .i64) _ _ _ 102 [.int .i64 102] from rfl) (Reps.one (show Kd.M (Kd.int .i64) _ _ _ 70 [.int .i64 70] from rfl) (Reps.one (show Kd.M (Kd.int .i64) _ _ _ 116 [.int .i64 116] from rfl) (Reps.one (show Kd.M (Kd.int .i64) _ _ _ 84 [.int .i64 84] from rfl) (Reps.none _ _))))))
            intro v645 w170 ho171 hb hg_ hnew_
            have HS0_ := (hb.cell (World.block_lt_of_cell? _ _ (hHeld))).trans (hHeld); clear hg_ hnew_; (first | rw [← Ny644.out] at ho171 | (simp only [Int.reduceToNat] at ho171; rw [← Ny644.out] at ho171)); have n0_ := Aside0.mk (Kd.R_below (ro_ HO_5) hb); have n1_ := Aside0.mk (Kd.R_lower ho171 (below_size bl_)); have n2_ := Aside0.mk (blb hb BK636.out); have n3_ := hB hb; clear HO_5; clear BK636
            clear HB; have HO_5 := n0_; have HO646 := n1_; have BK636 := n2_; have HB := n3_; clear n0_ n1_ n2_ n3_; clear hb ho171; obtain ⟨Ao172, co172, eo172⟩ := Kd.R_slice HO646.out; subst eo172; obtain ⟨ado172, fo172, _⟩ := Kd.at_int (Kd.R_reads' HO646.out).2.2 0 (by decide) (by rw [Ny644.out]; simp); cases fo172
            refine hK.out _ _ hh_ (fun hHeld => ?_)
            clear hK K; refine nm1 61 ?_; refine pu 3 (bs 17 16367) ?_
            refine two_ (i := 4) (j := 15) (Ni := some 65) (Nj := some 7) #[true, true, true, true, true, true, true, true, true, true, true, true, true, true, false, false, false] (bs 17 49135) rfl rfl rfl rfl (two_of HT_.out (by kernel_rfl)) (by decide) (by decide) (fun K hK => ?_) (fun K hK => ?_)
            ·
             skip
             (have p647 := od_ (0 ≤ ((ji29) : Int)); have q647 := od_ ((ji29) < (y644.length : Int)); obtain ⟨ad647, e647, hx647_0⟩ := Kd.at_int (Kd.R_reads' HO646.out).2.2 (ji29) p647 q647; obtain rfl : ado172 = ad647 := (by injection e647))
             refine value_ (w1 := ?_) (v := ?_) (by rfl) rfl ?_ ?_
             rotate_left 2
             ·
              go_simp
              constructor
              ·
               rfl
              rfl
             clear hx647_0
             refine hK.out _ _ hh_ (fun hHeld => ?_)
             clear hK K; refine nm1 65 ?_; refine pu 14 (bs 17 32767) ?_
             refine one_ (i := 15) (N := some 7) (bs 17 65535) rfl rfl (one_of HT_.out (by kernel_rfl)) (by decide) (fun K hK => ?_)
             refine box_step ?hg (N := 7) ?hd (cs := #[.int .i64 0, .int .i64 0, .int .i64 0, .int .i64 0, .int .i64 0, .int .i64 0]) (t := 52) ?hr ?_; (case hd => rfl); (case hg => rfl); (case hr => first | (go_simp; done) | (go_simp; rfl))
             intro gb649 hg w173 hbox hb
             have HS0_ := (hb.cell (World.block_lt_of_cell? _ _ (hHeld))).trans (hHeld); have n0_ := Aside0.mk (Kd.R_below (ro_ HO_5) hb); have n1_ := Aside0.mk (Kd.R_below (ro_ HO646) hb); have n2_ := Aside0.mk (blb hb BK636.out); have n3_ := hB hb; have n4_ := Aside0.mk (hbox); have n5_ := Aside0.mk (geb hg bl_); have n6_ := Aside0.mk (geb hg bl_); have n7_ := nbl hg BK636.out; have n8_ := nbr hg BK636.out
             clear HO_5; clear HO646; clear BK636; clear HB; have HO_5 := n0_; have HO646 := n1_; have BK636 := n2_; have HB := n3_; have BK649 := n4_; have GW649 := n5_; have GE649 := n6_; have NB636_649 := n7_; have NB649_636 := n8_; clear n0_ n1_ n2_ n3_ n4_ n5_ n6_ n7_ n8_; clear hb hbox hg
             refine hK.out _ _ hh_ (fun hHeld => ?_)
             clear hK K; refine nm1 7 ?_
             exact norm_ (by simp only [putAll, Act.put, List.setIfInBounds_toArray, List.set_cons_zero, List.set_cons_succ]) (hCont (.slice (some ado172) y644.length co172, ado172, gb649) _ ⟨hHeld, (ro_ HO646), (ro_ HO_5), ⟨_, rfl⟩, (by exact BK636.out), (by exact BK649.out), GW649.out, GE649.out, NB636_649, NB649_636, bl_⟩)
            skip
            refine box_step ?hg (N := 7) ?hd (cs := #[.int .i64 0, .int .i64 0, .int .i64 0, .int .i64 0, .int .i64 0, .int .i64 0]) (t := 52) ?hr ?_; (case hd => rfl); (case hg => rfl); (case hr => first | (go_simp; done) | (go_simp; rfl))
            intro gb649 hg w173 hbox hb
            have HS0_ := (hb.cell (World.block_lt_of_cell? _ _ (hHeld))).trans (hHeld); have n0_ := Aside0.mk (Kd.R_below (ro_ HO_5) hb); have n1_ := Aside0.mk (Kd.R_below (ro_ HO646) hb); have n2_ := Aside0.mk (blb hb BK636.out); have n3_ := hB hb; have n4_ := Aside0.mk (hbox); have n5_ := Aside0.mk (geb hg bl_); have n6_ := Aside0.mk (geb hg bl_); have n7_ := nbl hg BK636.out; have n8_ := nbr hg BK636.out
            clear HO_5; clear HO646; clear BK636; clear HB; have HO_5 := n0_; have HO646 := n1_; have BK636 := n2_; have HB := n3_; have BK649 := n4_; have GW649 := n5_; have GE649 := n6_; have NB636_649 := n7_; have NB649_636 := n8_; clear n0_ n1_ n2_ n3_ n4_ n5_ n6_ n7_ n8_; clear hb hbox hg
            refine hK.out _ _ hh_ (fun hHeld => ?_)
            clear hK K; refine nm1 7 ?_
            refine one_ (i := 4) (N := some 65) (bs 17 49151) rfl rfl (one_of HT_.out (by kernel_rfl)) (by decide) (fun K hK => ?_)
            (have p647 := od_ (0 ≤ ((ji29) : Int)); have q647 := od_ ((ji29) < (y644.length : Int)); obtain ⟨ad647, e647, hx647_0⟩ := Kd.at_int (Kd.R_reads' HO646.out).2.2 (ji29) p647 q647; obtain rfl : ado172 = ad647 := (by injection e647))
            refine value_ (w1 := ?_) (v := ?_) (by rfl) rfl ?_ ?_
            rotate_left 2
            ·
             go_simp
             constructor
             ·
              rfl
             rfl
            clear hx647_0
            refine hK.out _ _ hh_ (fun hHeld => ?_)
            clear hK K; refine nm1 65 ?_; refine pu 14 (bs 17 65535) ?_
            exact norm_ (by simp only [putAll, Act.put, List.setIfInBounds_toArray, List.set_cons_zero, List.set_cons_succ]) (hCont (.slice (some ado172) y644.length co172, ado172, gb649) _ ⟨hHeld, (ro_ HO646), (ro_ HO_5), ⟨_, rfl⟩, (by exact BK636.out), (by exact BK649.out), GW649.out, GE649.out, NB636_649, NB649_636, bl_⟩)
           skip
           refine box_step ?hg (N := 7) ?hd (cs := #[.int .i64 0, .int .i64 0, .int .i64 0, .int .i64 0, .int .i64 0, .int .i64 0]) (t := 52) ?hr ?_; (case hd => rfl); (case hg => rfl); (case hr => first | (go_simp; done) | (go_simp; rfl))
           intro gb649 hg w170 hbox hb
           have HS0_ := (hb.cell (World.block_lt_of_cell? _ _ (hHeld))).trans (hHeld); have n0_ := Aside0.mk (Kd.R_below (ro_ HO_5) hb); have n1_ := Aside0.mk (blb hb BK636.out); have n2_ := hB hb; have n3_ := Aside0.mk (hbox); have n4_ := Aside0.mk (geb hg bl_); have n5_ := Aside0.mk (geb hg bl_); have n6_ := nbl hg BK636.out; have n7_ := nbr hg BK636.out; clear HO_5; clear BK636
           clear HB; have HO_5 := n0_; have BK636 := n1_; have HB := n2_; have BK649 := n3_; have GW649 := n4_; have GE649 := n5_; have NB636_649 := n6_; have NB649_636 := n7_; clear n0_ n1_ n2_ n3_ n4_ n5_ n6_ n7_; clear hb hbox hg
           refine hK.out _ _ hh_ (fun hHeld => ?_)
           clear hK K; refine nm1 7 ?_
           refine one_ (i := 0) (N := some 61) (bs 17 49127) rfl rfl (one_of HT_.out (by kernel_rfl)) (by decide) (fun K hK => ?_)
           refine Kd.R_lit_step (Kd.int .i64) _ 3 ?hg (N := 61) ?hd (xs := ([102, 70, 116, 84] : List Int)) (inner := [.int .i64 102, .int .i64 70, .int .i64 116, .int .i64 84]) (ok := fun _ => True) (okp := fun _ => True) ?hr ?hp (fun _ hk => hk) trivial (Below.refl _ _) (Nat.le_refl _) (by simp) ?_; (case hd => rfl); (case hg => rfl); (case hr => first | (go_simp; done) | (go_simp; rfl)); (case hp => exact (Reps.one (show Kd.M (Kd.int .i64) _ _ _ 102 [.int .i64 102] from rfl) (Reps.one (show Kd.M (Kd.int .i64) _ _ _ 70 [.int .i64 70] from rfl) (Reps.one (show Kd.M (Kd.int .i64) _ _ _ 116 [.int .i64 116] from rfl) (Reps.one (show Kd.M (Kd.int .i64) _ _ _ 84 [.int .i64 84] from rfl) (Reps.none _ _))))))
           intro v645 w171 ho172 hb hg_ hnew_
           have HS0_ := (hb.cell (World.block_lt_of_cell? _ _ (hHeld))).trans (hHeld); clear hg_ hnew_; (first | rw [← Ny644.out] at ho172 | (simp only [Int.reduceToNat] at ho172; rw [← Ny644.out] at ho172)); have n0_ := Aside0.mk (Kd.R_below (ro_ HO_5) hb); have n1_ := Aside0.mk (Kd.R_lower ho172 (below_size bl_)); have n2_ := Aside0.mk (blb hb BK636.out); have n3_ := Aside0.mk (blb hb BK649.out)
           have n4_ := hB hb; clear HO_5; clear BK636; clear BK649; clear HB; have HO_5 := n0_; have HO646 := n1_; have BK636 := n2_; have BK649 := n3_; have HB := n4_; clear n0_ n1_ n2_ n3_ n4_; clear hb ho172; obtain ⟨Ao173, co173, eo173⟩ := Kd.R_slice HO646.out; subst eo173; obtain ⟨ado173, fo173, _⟩ := Kd.at_int (Kd.R_reads' HO646.out).2.2 0 (by decide) (by rw [Ny644.out]; simp); cases fo173
           refine hK.out _ _ hh_ (fun hHeld => ?_)
           clear hK K; refine nm1 61 ?_; refine pu 3 (bs 17 49135) ?_
           refine one_ (i := 4) (N := some 65) (bs 17 49151) rfl rfl (one_of HT_.out (by kernel_rfl)) (by decide) (fun K hK => ?_)
           (have p647 := od_ (0 ≤ ((ji29) : Int)); have q647 := od_ ((ji29) < (y644.length : Int)); obtain ⟨ad647, e647, hx647_0⟩ := Kd.at_int (Kd.R_reads' HO646.out).2.2 (ji29) p647 q647; obtain rfl : ado173 = ad647 := (by injection e647))
           refine value_ (w1 := ?_) (v := ?_) (by rfl) rfl ?_ ?_
           rotate_left 2
           ·
            go_simp
            constructor
            ·
             rfl
            rfl
           clear hx647_0
           refine hK.out _ _ hh_ (fun hHeld => ?_)
           clear hK K; refine nm1 65 ?_; refine pu 14 (bs 17 65535) ?_
           exact norm_ (by simp only [putAll, Act.put, List.setIfInBounds_toArray, List.set_cons_zero, List.set_cons_succ]) (hCont (.slice (some ado173) y644.length co173, ado173, gb649) _ ⟨hHeld, (ro_ HO646), (ro_ HO_5), ⟨_, rfl⟩, (by exact BK636.out), (by exact BK649.out), GW649.out, GE649.out, NB636_649, NB649_636, bl_⟩)
          rintro ⟨v645, adz_v645, gb649⟩ w174 ⟨hS_, h0_, h1_, h2_, h3_, h4_, h5_, h6_, h7_, h8_, h9_⟩
          have n0_ : Aside0 (Kd.R (Kd.int .i64) 3 w174 w.heap.size (fun _ => True) v645 y644) := ⟨h0_⟩
          have n1_ : Aside0 (Kd.R (Kd.int .i32) 21 w174 w.heap.size (fun _ => True) (.slice (some ad648) y640.length co168) y640) := ⟨h1_⟩
          have n2_ : Aside0 (∃ c_, (v645 : Value) = .slice (some adz_v645) y644.length c_) := ⟨h2_⟩
          have n3_ : Aside0 (w174.heap[gb636]? = some (.cells #[.slice (some ad639) l0_0.length c0_0, .int .i64 a0_1, .int .i64 a0_2, .int .i64 a0_3, .int .i64 a0_4, .int .i64 a0_5, .int .i64 a0_6, .int .i64 a0_7, .slice A0_8 l0_8.length c0_8, .int .i64 a0_9, .int .i64 a0_10, .slice A0_11 l0_11.length c0_11] 34 (0, 0))) := ⟨h3_⟩
          have n4_ : Aside0 (w174.heap[gb649]? = some (.cells #[.int .i64 0, .int .i64 0, .int .i64 0, .int .i64 0, .int .i64 0, .int .i64 0] 52 (0, 0))) := ⟨h4_⟩
          have n5_ : Aside0 (w.heap.size ≤ gb649) := ⟨h5_⟩
          have n6_ : Aside0 (w.heap.size ≤ gb649) := ⟨h6_⟩
          have n7_ : gb636 ≠ gb649 := h7_
          have n8_ : gb649 ≠ gb636 := h8_
          have n9_ : Aside0 (Below w.heap.size w w174) := ⟨h9_⟩
          clear HO_5; clear BK636; clear HB; clear h0_ h1_ h2_ h3_ h4_ h5_ h6_ h7_ h8_ h9_; have HO646 := n0_; have HO_5 := n1_; have HA_HO646 := n2_; have BK636 := n3_; have BK649 := n4_; have GW649 := n5_; have GE649 := n6_; have NB636_649 := n7_; have NB649_636 := n8_; have HB := n9_; clear n0_ n1_ n2_ n3_ n4_ n5_ n6_ n7_ n8_ n9_
          have hHeld : w174.cell? (ad648.add ((ji33)).toNat) = some (.int .i32 (rd y640 (ji33))) := hS_
          obtain ⟨co175, eo175⟩ := HA_HO646.out; clear HA_HO646; subst eo175; refine norm_ (a' := ?_) ?_ ?_; rotate_left
          ·
           simp only [putAll, Act.put, List.setIfInBounds_toArray, List.set_cons_zero, List.set_cons_succ]
           rfl
          refine one_ (i := 16) (N := none) (bs 17 131071) rfl rfl (one_of HT_.out (by kernel_rfl)) (by decide) (fun K hK => ?_)
          have hs176 := cz0 BK649.out; have hfs176 := blk_frozen BK649.out 0; have hs177 := cz1 BK649.out; have hfs177 := blk_frozen BK649.out 1; have hs178 := cz2 BK649.out; have hfs178 := blk_frozen BK649.out 2; have hs179 := cz3 BK649.out; have hfs179 := blk_frozen BK649.out 3; have hs180 := cz4 BK649.out; have hfs180 := blk_frozen BK649.out 4; have hs181 := cz5 BK649.out; have hfs181 := blk_frozen BK649.out 5
          refine skip_ (w1 := ?_) (by rfl) rfl ?_ ?_; rotate_left
          ·
           go_simp
           rfl
          refine hK.out _ _ (((cell_far (p := ⟨gb649, _, none⟩) (by first | exact Kd.own_blk (Kd.R_ne HO_5.out BK649.out (by decide)) | (rw [add_block]; exact Kd.own_blk (Kd.R_ne HO_5.out BK649.out (by decide))) | (show (Addr.add _ _).block ≠ _; rw [add_block]; exact Kd.own_blk (Kd.R_ne HO_5.out BK649.out (by decide))) | (dsimp only; exact Kd.own_blk (Kd.R_ne HO_5.out BK649.out (by decide)))) _).trans (((cell_far (p := ⟨gb649, _, none⟩) (by first | exact Kd.own_blk (Kd.R_ne HO_5.out BK649.out (by decide)) | (rw [add_block]; exact Kd.own_blk (Kd.R_ne HO_5.out BK649.out (by decide))) | (show (Addr.add _ _).block ≠ _; rw [add_block]; exact Kd.own_blk (Kd.R_ne HO_5.out BK649.out (by decide))) | (dsimp only; exact Kd.own_blk (Kd.R_ne HO_5.out BK649.out (by decide)))) _).trans (((cell_far (p := ⟨gb649, _, none⟩) (by first | exact Kd.own_blk (Kd.R_ne HO_5.out BK649.out (by decide)) | (rw [add_block]; exact Kd.own_blk (Kd.R_ne HO_5.out BK649.out (by decide))) | (show (Addr.add _ _).block ≠ _; rw [add_block]; exact Kd.own_blk (Kd.R_ne HO_5.out BK649.out (by decide))) | (dsimp only; exact Kd.own_blk (Kd.R_ne HO_5.out BK649.out (by decide)))) _).trans (((cell_far (p := ⟨gb649, _, none⟩) (by first | exact Kd.own_blk (Kd.R_ne HO_5.out BK649.out (by decide)) | (rw [add_block]; exact Kd.own_blk (Kd.R_ne HO_5.out BK649.out (by decide))) | (show (Addr.add _ _).block ≠ _; rw [add_block]; exact Kd.own_blk (Kd.R_ne HO_5.out BK649.out (by decide))) | (dsimp only; exact Kd.own_blk (Kd.R_ne HO_5.out BK649.out (by decide)))) _).trans (((cell_far (p := ⟨gb649, _, none⟩) (by first | exact Kd.own_blk (Kd.R_ne HO_5.out BK649.out (by decide)) | (rw [add_block]; exact Kd.own_blk (Kd.R_ne HO_5.out BK649.out (by decide))) | (show (Addr.add _ _).block ≠ _; rw [add_block]; exact Kd.own_blk (Kd.R_ne HO_5.out BK649.out (by decide))) | (dsimp only; exact Kd.own_blk (Kd.R_ne HO_5.out BK649.out (by decide)))) _).trans (((cell_far (p := ⟨gb649, _, none⟩) (by first | exact Kd.own_blk (Kd.R_ne HO_5.out BK649.out (by decide)) | (rw [add_block]; exact Kd.own_blk (Kd.R_ne HO_5.out BK649.out (by decide))) | (show (Addr.add _ _).block ≠ _; rw [add_block]; exact Kd.own_blk (Kd.R_ne HO_5.out BK649.out (by decide))) | (dsimp only; exact Kd.own_blk (Kd.R_ne HO_5.out BK649.out (by decide)))) _).trans (hHeld))))))))))))) (fun hHeld => ?_)
          clear hK K; refine done_ (done_of HT_.out (by kernel_rfl)) ?_; have hcz183 := cs6 BK649.out
          try go_wp2_with (first | ((with_reducible refine gC 18 rfl ?_); refine goesL1 (some 81) Tryd.func18 #[.string (rdOf ByteArray.empty l0_0 x3_1), .int .i64 x6_4, .agg #[.int .i64 0, .int .i64 0, .int .i64 0, .int .i64 (rd y644 (ji29)), .int .i64 0, .int .i64 (wrap64 (rd y640 (ji33)))], .agg #[.int .i64 0, .int .i64 0], .slice none 0 0] rfl (by (try simp only [List.map_toArray, List.map_cons, List.map_nil]); first | done | (simp only [hji29, hji33]; rfl) | rfl | (simp only [List.length_drop, List.length_take]; rfl)) ?_; (refine (move_Go.calls ?side1 ?side2 ?side3 A36.out).mono ?_); (case side1 => exact Tabs.below HT.out bl_); (case side2 => exact Kd.C_nil _ _); (case side3 => exact Nat.le_refl _); rintro e w184 ⟨rfl, hb⟩; refine ⟨_, rfl, ?_⟩; replace HO_5 := Aside0.mk (Kd.R_below (by (with_reducible repeat (first | apply Kd.R_alloc | apply Kd.R_drewN | apply Kd.R_drew)); exact (Kd.R_mono (Kd.R_far (p := ⟨gb649, 5, none⟩) (Kd.R_far (p := ⟨gb649, 4, none⟩) (Kd.R_far (p := ⟨gb649, 3, none⟩) (Kd.R_far (p := ⟨gb649, 2, none⟩) (Kd.R_far (p := ⟨gb649, 1, none⟩) (Kd.R_far (p := ⟨gb649, 0, none⟩) (Kd.R_types HO_5.out BK649.out (by decide)) (fun _ hk => hk.2) (.int .i64 0)) (fun _ hk => hk.2) (.int .i64 0)) (fun _ hk => hk.2) (.int .i64 0)) (fun _ hk => hk.2) (.int .i64 (rd y644 (ji29)))) (fun _ hk => hk.2) (.int .i64 0)) (fun _ hk => hk.2) (.int .i64 (wrap64 (rd y640 (ji33))))) (fun _ h_ => h_.1))) hb); replace HO646 := Aside0.mk (Kd.R_below (by (with_reducible repeat (first | apply Kd.R_alloc | apply Kd.R_drewN | apply Kd.R_drew)); exact (Kd.R_mono (Kd.R_far (p := ⟨gb649, 5, none⟩) (Kd.R_far (p := ⟨gb649, 4, none⟩) (Kd.R_far (p := ⟨gb649, 3, none⟩) (Kd.R_far (p := ⟨gb649, 2, none⟩) (Kd.R_far (p := ⟨gb649, 1, none⟩) (Kd.R_far (p := ⟨gb649, 0, none⟩) (Kd.R_types HO646.out BK649.out (by decide)) (fun _ hk => hk.2) (.int .i64 0)) (fun _ hk => hk.2) (.int .i64 0)) (fun _ hk => hk.2) (.int .i64 0)) (fun _ hk => hk.2) (.int .i64 (rd y644 (ji29)))) (fun _ hk => hk.2) (.int .i64 0)) (fun _ hk => hk.2) (.int .i64 (wrap64 (rd y640 (ji33))))) (fun _ h_ => h_.1))) hb); replace BK636 := bkB gb636 #[.slice (some ad639) l0_0.length c0_0, .int .i64 a0_1, .int .i64 a0_2, .int .i64 a0_3, .int .i64 a0_4, .int .i64 a0_5, .int .i64 a0_6, .int .i64 a0_7, .slice A0_8 l0_8.length c0_8, .int .i64 a0_9, .int .i64 a0_10, .slice A0_11 l0_11.length c0_11] 34 hb; replace BK649 := bkB gb649 #[.int .i64 0, .int .i64 0, .int .i64 0, .int .i64 (rd y644 (ji29)), .int .i64 0, .int .i64 (wrap64 (rd y640 (ji33)))] 52 hb; replace HB := hB hb; (try clear hb)) | ((with_reducible refine gN 8 rfl ?_); (try (refine gate_guard (by rfl) ?_; dsimp only)); refine box1 (N := 8) (cs := #[.int .i64 0, .int .i64 0]) (t := 54) ?_; intro gb655 hg w185 hbox hb; have BK655 := Aside0.mk hbox; have GW655 := gE hg; have GE655 := GW655; have NB636_655 := nbl hg BK636.out; have NB655_636 := nbr hg BK636.out; have NB649_655 := nbl hg BK649.out; have NB655_649 := nbr hg BK649.out; replace HO_5 := Aside0.mk (Kd.R_below (ro_ HO_5) hb); replace HO646 := Aside0.mk (Kd.R_below (ro_ HO646) hb); replace BK636 := blB hb BK636; replace BK649 := blB hb BK649; replace HB := hB hb; clear hb hbox hg) | ((with_reducible refine gN 9 rfl ?_); (try (refine gate_guard (by rfl) ?_; dsimp only)); refine box1 (N := 9) (cs := #[.int .i64 0, .int .i64 0]) (t := 31) ?_; intro gb656 hg w186 hbox hb; have BK656 := Aside0.mk hbox; have GW656 := gE hg; have GE656 := GW656; have NB636_656 := nbl hg BK636.out; have NB656_636 := nbr hg BK636.out; have NB649_656 := nbl hg BK649.out; have NB656_649 := nbr hg BK649.out; have NB655_656 := nbl hg BK655.out; have NB656_655 := nbr hg BK655.out; replace HO_5 := Aside0.mk (Kd.R_below (ro_ HO_5) hb); replace HO646 := Aside0.mk (Kd.R_below (ro_ HO646) hb); replace BK636 := blB hb BK636; replace BK649 := blB hb BK649; replace BK655 := blB hb BK655; replace HB := hB hb; clear hb hbox hg; have hcz190 := cs2 BK655.out; have hcz193 := cs2 BK656.out) | ((with_reducible refine gC 19 rfl ?_); refine goesL1 (some 86) Tryd.func19 #[.int .i64 t654] rfl (map1 rfl) ?_; (with_reducible refine (quilllaw16_num.calls A37.out).mono ?_); rintro e w' ⟨rfl, nd, rfl⟩; refine ⟨_, rfl, ?_⟩))
          go_roundg k4
          case measure => have := HK1.out; have := HJ9.out; have := HJ17.out; have := HK4.out; omega
          case rel => exact ⟨(wrap64 (x6_4 + 1)), r3_, H, ⟨by have := HK1.out; have := HJ9.out; have := HJ17.out; have := HK4.out; omega⟩, ⟨by (with_reducible repeat (first | apply Kd.R_alloc | apply Kd.R_drewN | apply Kd.R_drew)); exact Kd.R_mono (Kd.R_far (p := ⟨gb656, 1, none⟩) (Kd.R_far (p := ⟨gb656, 0, none⟩) (Kd.R_far (p := ⟨gb655, 1, none⟩) (Kd.R_far (p := ⟨gb655, 0, none⟩) (Kd.R_types (Kd.R_types HO_5.out BK655.out (by decide)) BK656.out (by decide)) (fun _ hk => hk.1.2) (.int .i64 t650)) (fun _ hk => hk.1.2) (.int .i64 t651)) (fun _ hk => hk.2) (.int .i64 t652)) (fun _ hk => hk.2) (.int .i64 t653)) (fun _ hk => trivial)⟩, ⟨bk_⟩, ⟨bl_⟩⟩
         replace H := bindA H; obtain ⟨⟨t658, t659, t660, t661, t662⟩, A39, H⟩ := H; (try dsimp only at H); replace H := bindA H; obtain ⟨⟨t665, t666, t667, t668, t669⟩, A40, H⟩ := H; (try dsimp only at H); replace H := bindA H; obtain ⟨⟨t672, t673, t674, t675, t676⟩, A41, H⟩ := H; (try dsimp only at H); replace H := bindA H; obtain ⟨t679, A42, H⟩ := H; (try dsimp only at H); replace H := bindA H; obtain ⟨⟨t680, t681, t682, t683, t684⟩, A43, H⟩ := H
         (try dsimp only at H); replace H := bindA H; obtain ⟨t687, A44, H⟩ := H; (try dsimp only at H); replace H := ifen H; obtain ⟨c45b0, c45b1, H⟩ := H; replace H := bindA H; obtain ⟨t688, A46, H⟩ := H; (try dsimp only at H); replace H := ifen H; obtain ⟨c47b0, c47b1, H⟩ := H
         by_cases c48 : (!(t658 == t665) || (!(t659 == t666))) = true
         ·
          rw [if_pos c48] at H
          exact absurd H (by simp)
         rw [if_neg c48] at H
         have c48b0 : (!(t658 == t665) || (!(t659 == t666))) = false := by simpa using c48
         clear c48
         by_cases c49 : (!(t660 == t652) || (!(t661 == t653))) = true
         ·
          rw [if_pos c49] at H
          exact absurd H (by simp)
         rw [if_neg c49] at H
         have c49b0 : (!(t660 == t652) || (!(t661 == t653))) = false := by simpa using c49
         clear c49; replace H := bindA H; obtain ⟨t689, A50, H⟩ := H; (try dsimp only at H); replace H := bindA H; obtain ⟨t690, A51, H⟩ := H; (try dsimp only at H); replace H := ifen H; obtain ⟨c52b0, c52b1, H⟩ := H
         by_cases c53 : (!(t672 == t680) || (!(t673 == t681))) = true
         ·
          rw [if_pos c53] at H
          exact absurd H (by simp)
         rw [if_neg c53] at H
         have c53b0 : (!(t672 == t680) || (!(t673 == t681))) = false := by simpa using c53
         clear c53; replace H := Aside0.mk H; obtain ⟨Ao54, co54, eo54⟩ := Kd.R_slice HO_5.out; subst eo54
         try go_wp2
         have pi647 : (0 ≤ ((ji29) : Int)) = True := eq_true (of_decide_eq_true (by assumption))
         have qi647 : ((ji29) < (y644.length : Int)) = True := eq_true (of_decide_eq_true (by assumption))
         replace HO_5 := Aside0.mk (Kd.R_drew HO_5.out); replace BK636 := Aside0.mk (blk_drew BK636.out); replace HB := Aside0.mk (below_drew1 HB.out); obtain ⟨p648, q648, ad648, e648, hx648_0⟩ := ix_ (Kd.at_int (Kd.R_reads' HO_5.out).2.2 (ji33)); cases e648
         refine start_ (n := 17) (S := fun w' => w'.cell? (ad648.add ((ji33)).toNat) = some (.int .i32 (rd y640 (ji33)))) (ds := []) (lo 17 0) (by kernel_rfl) rfl rfl (hx648_0) (fun hHeld => ?_); refine with_tabW quilllaw16_MoveAgain.tab12 quilllaw16_MoveAgain.bits12 (fun HT_ HW_ => ?_)
         generalize wr.drew = w55 at HO_5 BK636 HB hx648_0 hHeld ⊢
         refine pu 1 (bs 17 2) ?_; refine pu 2 (bs 17 6) ?_; refine pu 5 (bs 17 38) ?_; refine pu 6 (bs 17 102) ?_; refine pu 7 (bs 17 230) ?_; refine pu 8 (bs 17 486) ?_; refine pu 9 (bs 17 998) ?_; refine pu 10 (bs 17 2022) ?_; refine pu 11 (bs 17 4070) ?_
         refine take_ (i := 12) (N := some 73) (v := ?_) (a' := ?_) (bs 17 8166) rfl rfl (take_ofW HT_.out HW_.out (by kernel_rfl)) (fun _ _ _ h => h) (Or.inl ⟨by rfl, ?_⟩) hHeld ?_ ?_
         rotate_left
         ·
          intro w' s0
          go_simp
          with_reducible rfl
         rotate_left
         · simp only [Act.put, List.setIfInBounds_toArray, List.set_cons_zero, List.set_cons_succ, i64_w, i32_w]; rfl
         refine pu 13 (bs 17 16358) ?_
         refine join_ (σ := Value × Addr × Nat) 1 #[true, true, true, true, true, true, true, true, true, true, true, true, true, true, true, true, false] (fun s_ => [(61, s_.1), (65, .int .i64 (rd y644 (ji29))), (7, .pointer (some ⟨s_.2.2, 0, none⟩)), (64, .pointer (some (s_.2.1.add ((ji29)).toNat))), (75, .agg #[.int .i64 0, .int .i64 0, .int .i64 0, .int .i64 (rd y644 (ji29)), .int .i64 0, .int .i64 (wrap64 (rd y640 (ji33)))])]) (fun s_ w' => (w'.cell? (ad648.add ((ji33)).toNat) = some (.int .i32 (rd y640 (ji33)))) ∧ (Kd.R (Kd.int .i64) 3 w' w.heap.size (fun _ => True) s_.1 y644) ∧ (Kd.R (Kd.int .i32) 21 w' w.heap.size (fun _ => True) (.slice (some ad648) y640.length co54) y640) ∧ (∃ c_, (s_.1 : Value) = .slice (some s_.2.1) y644.length c_) ∧ (w'.heap[gb636]? = some (.cells #[.slice (some ad639) l0_0.length c0_0, .int .i64 a0_1, .int .i64 a0_2, .int .i64 a0_3, .int .i64 a0_4, .int .i64 a0_5, .int .i64 a0_6, .int .i64 a0_7, .slice A0_8 l0_8.length c0_8, .int .i64 a0_9, .int .i64 a0_10, .slice A0_11 l0_11.length c0_11] 34 (0, 0))) ∧ (w'.heap[s_.2.2]? = some (.cells #[.int .i64 0, .int .i64 0, .int .i64 0, .int .i64 0, .int .i64 0, .int .i64 0] 52 (0, 0))) ∧ (w.heap.size ≤ s_.2.2) ∧ (w.heap.size ≤ s_.2.2) ∧ (gb636 ≠ s_.2.2) ∧ (s_.2.2 ≠ gb636) ∧ (Below w.heap.size w w')) ?_ ?_
         rotate_left
         ·
          intro hCont
          refine two_ (i := 0) (j := 15) (Ni := some 61) (Nj := some 7) #[true, true, true, false, false, true, true, true, true, true, true, true, true, true, false, false, false] (bs 17 49126) rfl rfl rfl rfl (two_of HT_.out (by kernel_rfl)) (by decide) (by decide) (fun K hK => ?_) (fun K hK => ?_)
          ·
           skip
           refine Kd.R_lit_step (Kd.int .i64) _ 3 ?hg (N := 61) ?hd (xs := ([102, 70, 116, 84] : List Int)) (inner := [.int .i64 102, .int .i64 70, .int .i64 116, .int .i64 84]) (ok := fun _ => True) (okp := fun _ => True) ?hr ?hp (fun _ hk => hk) trivial (Below.refl _ _) (Nat.le_refl _) (by simp) ?_; (case hd => rfl); (case hg => rfl); (case hr => first | (go_simp; done) | (go_simp; rfl)); (case hp => exact (Reps.one (show Kd.M (Kd.int .i64) _ _ _ 102 [.int .i64 102] from rfl) (Reps.one (show Kd.M (Kd.int .i64) _ _ _ 70 [.int .i64 70] from rfl) (Reps.one (show Kd.M (Kd.int .i64) _ _ _ 116 [.int .i64 116] from rfl) (Reps.one (show Kd.M (Kd.int .i64) _ _ _ 84 [.int .i64 84] from rfl) (Reps.none _ _))))))
           intro v645 w56 ho57 hb hg_ hnew_
           have HS0_ := (hb.cell (World.block_lt_of_cell? _ _ (hHeld))).trans (hHeld); clear hg_ hnew_; (first | rw [← Ny644.out] at ho57 | (simp only [Int.reduceToNat] at ho57; rw [← Ny644.out] at ho57)); have n0_ := Aside0.mk (Kd.R_below (ro_ HO_5) hb); have n1_ := Aside0.mk (Kd.R_lower ho57 (below_size bl_)); have n2_ := Aside0.mk (blb hb BK636.out); have n3_ := hB hb; clear HO_5; clear BK636; clear HB
           have HO_5 := n0_; have HO646 := n1_; have BK636 := n2_; have HB := n3_; clear n0_ n1_ n2_ n3_; clear hb ho57; obtain ⟨Ao58, co58, eo58⟩ := Kd.R_slice HO646.out; subst eo58; obtain ⟨ado58, fo58, _⟩ := Kd.at_int (Kd.R_reads' HO646.out).2.2 0 (by decide) (by rw [Ny644.out]; simp); cases fo58
           refine hK.out _ _ hh_ (fun hHeld => ?_)
           clear hK K; refine nm1 61 ?_; refine pu 3 (bs 17 16367) ?_
           refine two_ (i := 4) (j := 15) (Ni := some 65) (Nj := some 7) #[true, true, true, true, true, true, true, true, true, true, true, true, true, true, false, false, false] (bs 17 49135) rfl rfl rfl rfl (two_of HT_.out (by kernel_rfl)) (by decide) (by decide) (fun K hK => ?_) (fun K hK => ?_)
           ·
            skip
            (have p647 := od_ (0 ≤ ((ji29) : Int)); have q647 := od_ ((ji29) < (y644.length : Int)); obtain ⟨ad647, e647, hx647_0⟩ := Kd.at_int (Kd.R_reads' HO646.out).2.2 (ji29) p647 q647; obtain rfl : ado58 = ad647 := (by injection e647))
            refine value_ (w1 := ?_) (v := ?_) (by rfl) rfl ?_ ?_
            rotate_left 2
            ·
             go_simp
             constructor
             ·
              rfl
             rfl
            clear hx647_0
            refine hK.out _ _ hh_ (fun hHeld => ?_)
            clear hK K; refine nm1 65 ?_; refine pu 14 (bs 17 32767) ?_
            refine one_ (i := 15) (N := some 7) (bs 17 65535) rfl rfl (one_of HT_.out (by kernel_rfl)) (by decide) (fun K hK => ?_)
            refine box_step ?hg (N := 7) ?hd (cs := #[.int .i64 0, .int .i64 0, .int .i64 0, .int .i64 0, .int .i64 0, .int .i64 0]) (t := 52) ?hr ?_; (case hd => rfl); (case hg => rfl); (case hr => first | (go_simp; done) | (go_simp; rfl))
            intro gb649 hg w59 hbox hb
            have HS0_ := (hb.cell (World.block_lt_of_cell? _ _ (hHeld))).trans (hHeld); have n0_ := Aside0.mk (Kd.R_below (ro_ HO_5) hb); have n1_ := Aside0.mk (Kd.R_below (ro_ HO646) hb); have n2_ := Aside0.mk (blb hb BK636.out); have n3_ := hB hb; have n4_ := Aside0.mk (hbox); have n5_ := Aside0.mk (geb hg bl_); have n6_ := Aside0.mk (geb hg bl_); have n7_ := nbl hg BK636.out; have n8_ := nbr hg BK636.out
            clear HO_5; clear HO646; clear BK636; clear HB; have HO_5 := n0_; have HO646 := n1_; have BK636 := n2_; have HB := n3_; have BK649 := n4_; have GW649 := n5_; have GE649 := n6_; have NB636_649 := n7_; have NB649_636 := n8_; clear n0_ n1_ n2_ n3_ n4_ n5_ n6_ n7_ n8_; clear hb hbox hg
            refine hK.out _ _ hh_ (fun hHeld => ?_)
            clear hK K; refine nm1 7 ?_
            exact norm_ (by simp only [putAll, Act.put, List.setIfInBounds_toArray, List.set_cons_zero, List.set_cons_succ]) (hCont (.slice (some ado58) y644.length co58, ado58, gb649) _ ⟨hHeld, (ro_ HO646), (ro_ HO_5), ⟨_, rfl⟩, (by exact BK636.out), (by exact BK649.out), GW649.out, GE649.out, NB636_649, NB649_636, bl_⟩)
           skip
           refine box_step ?hg (N := 7) ?hd (cs := #[.int .i64 0, .int .i64 0, .int .i64 0, .int .i64 0, .int .i64 0, .int .i64 0]) (t := 52) ?hr ?_; (case hd => rfl); (case hg => rfl); (case hr => first | (go_simp; done) | (go_simp; rfl))
           intro gb649 hg w59 hbox hb
           have HS0_ := (hb.cell (World.block_lt_of_cell? _ _ (hHeld))).trans (hHeld); have n0_ := Aside0.mk (Kd.R_below (ro_ HO_5) hb); have n1_ := Aside0.mk (Kd.R_below (ro_ HO646) hb); have n2_ := Aside0.mk (blb hb BK636.out); have n3_ := hB hb; have n4_ := Aside0.mk (hbox); have n5_ := Aside0.mk (geb hg bl_); have n6_ := Aside0.mk (geb hg bl_); have n7_ := nbl hg BK636.out; have n8_ := nbr hg BK636.out
           clear HO_5; clear HO646; clear BK636; clear HB; have HO_5 := n0_; have HO646 := n1_; have BK636 := n2_; have HB := n3_; have BK649 := n4_; have GW649 := n5_; have GE649 := n6_; have NB636_649 := n7_; have NB649_636 := n8_; clear n0_ n1_ n2_ n3_ n4_ n5_ n6_ n7_ n8_; clear hb hbox hg
           refine hK.out _ _ hh_ (fun hHeld => ?_)
           clear hK K; refine nm1 7 ?_
           refine one_ (i := 4) (N := some 65) (bs 17 49151) rfl rfl (one_of HT_.out (by kernel_rfl)) (by decide) (fun K hK => ?_)
           (have p647 := od_ (0 ≤ ((ji29) : Int)); have q647 := od_ ((ji29) < (y644.length : Int)); obtain ⟨ad647, e647, hx647_0⟩ := Kd.at_int (Kd.R_reads' HO646.out).2.2 (ji29) p647 q647; obtain rfl : ado58 = ad647 := (by injection e647))
           refine value_ (w1 := ?_) (v := ?_) (by rfl) rfl ?_ ?_
           rotate_left 2
           ·
            go_simp
            constructor
            ·
             rfl
            rfl
           clear hx647_0
           refine hK.out _ _ hh_ (fun hHeld => ?_)
           clear hK K; refine nm1 65 ?_; refine pu 14 (bs 17 65535) ?_
           exact norm_ (by simp only [putAll, Act.put, List.setIfInBounds_toArray, List.set_cons_zero, List.set_cons_succ]) (hCont (.slice (some ado58) y644.length co58, ado58, gb649) _ ⟨hHeld, (ro_ HO646), (ro_ HO_5), ⟨_, rfl⟩, (by exact BK636.out), (by exact BK649.out), GW649.out, GE649.out, NB636_649, NB649_636, bl_⟩)
          skip
          refine box_step ?hg (N := 7) ?hd (cs := #[.int .i64 0, .int .i64 0, .int .i64 0, .int .i64 0, .int .i64 0, .int .i64 0]) (t := 52) ?hr ?_; (case hd => rfl); (case hg => rfl); (case hr => first | (go_simp; done) | (go_simp; rfl))
          intro gb649 hg w56 hbox hb
          have HS0_ := (hb.cell (World.block_lt_of_cell? _ _ (hHeld))).trans (hHeld); have n0_ := Aside0.mk (Kd.R_below (ro_ HO_5) hb); have n1_ := Aside0.mk (blb hb BK636.out); have n2_ := hB hb; have n3_ := Aside0.mk (hbox); have n4_ := Aside0.mk (geb hg bl_); have n5_ := Aside0.mk (geb hg bl_); have n6_ := nbl hg BK636.out; have n7_ := nbr hg BK636.out; clear HO_5; clear BK636
          clear HB; have HO_5 := n0_; have BK636 := n1_; have HB := n2_; have BK649 := n3_; have GW649 := n4_; have GE649 := n5_; have NB636_649 := n6_; have NB649_636 := n7_; clear n0_ n1_ n2_ n3_ n4_ n5_ n6_ n7_; clear hb hbox hg
          refine hK.out _ _ hh_ (fun hHeld => ?_)
          clear hK K; refine nm1 7 ?_
          refine one_ (i := 0) (N := some 61) (bs 17 49127) rfl rfl (one_of HT_.out (by kernel_rfl)) (by decide) (fun K hK => ?_)
          refine Kd.R_lit_step (Kd.int .i64) _ 3 ?hg (N := 61) ?hd (xs := ([102, 70, 116, 84] : List Int)) (inner := [.int .i64 102, .int .i64 70, .int .i64 116, .int .i64 84]) (ok := fun _ => True) (okp := fun _ => True) ?hr ?hp (fun _ hk => hk) trivial (Below.refl _ _) (Nat.le_refl _) (by simp) ?_; (case hd => rfl); (case hg => rfl); (case hr => first | (go_simp; done) | (go_simp; rfl)); (case hp => exact (Reps.one (show Kd.M (Kd.int .i64) _ _ _ 102 [.int .i64 102] from rfl) (Reps.one (show Kd.M (Kd.int .i64) _ _ _ 70 [.int .i64 70] from rfl) (Reps.one (show Kd.M (Kd.int .i64) _ _ _ 116 [.int .i64 116] from rfl) (Reps.one (show Kd.M (Kd.int .i64) _ _ _ 84 [.int .i64 84] from rfl) (Reps.none _ _))))))
          intro v645 w57 ho58 hb hg_ hnew_
          have HS0_ := (hb.cell (World.block_lt_of_cell? _ _ (hHeld))).trans (hHeld); clear hg_ hnew_; (first | rw [← Ny644.out] at ho58 | (simp only [Int.reduceToNat] at ho58; rw [← Ny644.out] at ho58)); have n0_ := Aside0.mk (Kd.R_below (ro_ HO_5) hb); have n1_ := Aside0.mk (Kd.R_lower ho58 (below_size bl_)); have n2_ := Aside0.mk (blb hb BK636.out); have n3_ := Aside0.mk (blb hb BK649.out); have n4_ := hB hb
          clear HO_5; clear BK636; clear BK649; clear HB; have HO_5 := n0_; have HO646 := n1_; have BK636 := n2_; have BK649 := n3_; have HB := n4_; clear n0_ n1_ n2_ n3_ n4_; clear hb ho58; obtain ⟨Ao59, co59, eo59⟩ := Kd.R_slice HO646.out; subst eo59; obtain ⟨ado59, fo59, _⟩ := Kd.at_int (Kd.R_reads' HO646.out).2.2 0 (by decide) (by rw [Ny644.out]; simp); cases fo59
          refine hK.out _ _ hh_ (fun hHeld => ?_)
          clear hK K; refine nm1 61 ?_; refine pu 3 (bs 17 49135) ?_
          refine one_ (i := 4) (N := some 65) (bs 17 49151) rfl rfl (one_of HT_.out (by kernel_rfl)) (by decide) (fun K hK => ?_)
          (have p647 := od_ (0 ≤ ((ji29) : Int)); have q647 := od_ ((ji29) < (y644.length : Int)); obtain ⟨ad647, e647, hx647_0⟩ := Kd.at_int (Kd.R_reads' HO646.out).2.2 (ji29) p647 q647; obtain rfl : ado59 = ad647 := (by injection e647))
          refine value_ (w1 := ?_) (v := ?_) (by rfl) rfl ?_ ?_
          rotate_left 2
          ·
           go_simp
           constructor
           ·
            rfl
           rfl
          clear hx647_0
          refine hK.out _ _ hh_ (fun hHeld => ?_)
          clear hK K; refine nm1 65 ?_; refine pu 14 (bs 17 65535) ?_
          exact norm_ (by simp only [putAll, Act.put, List.setIfInBounds_toArray, List.set_cons_zero, List.set_cons_succ]) (hCont (.slice (some ado59) y644.length co59, ado59, gb649) _ ⟨hHeld, (ro_ HO646), (ro_ HO_5), ⟨_, rfl⟩, (by exact BK636.out), (by exact BK649.out), GW649.out, GE649.out, NB636_649, NB649_636, bl_⟩)
         rintro ⟨v645, adz_v645, gb649⟩ w60 ⟨hS_, h0_, h1_, h2_, h3_, h4_, h5_, h6_, h7_, h8_, h9_⟩
         have n0_ : Aside0 (Kd.R (Kd.int .i64) 3 w60 w.heap.size (fun _ => True) v645 y644) := ⟨h0_⟩
         have n1_ : Aside0 (Kd.R (Kd.int .i32) 21 w60 w.heap.size (fun _ => True) (.slice (some ad648) y640.length co54) y640) := ⟨h1_⟩
         have n2_ : Aside0 (∃ c_, (v645 : Value) = .slice (some adz_v645) y644.length c_) := ⟨h2_⟩
         have n3_ : Aside0 (w60.heap[gb636]? = some (.cells #[.slice (some ad639) l0_0.length c0_0, .int .i64 a0_1, .int .i64 a0_2, .int .i64 a0_3, .int .i64 a0_4, .int .i64 a0_5, .int .i64 a0_6, .int .i64 a0_7, .slice A0_8 l0_8.length c0_8, .int .i64 a0_9, .int .i64 a0_10, .slice A0_11 l0_11.length c0_11] 34 (0, 0))) := ⟨h3_⟩
         have n4_ : Aside0 (w60.heap[gb649]? = some (.cells #[.int .i64 0, .int .i64 0, .int .i64 0, .int .i64 0, .int .i64 0, .int .i64 0] 52 (0, 0))) := ⟨h4_⟩
         have n5_ : Aside0 (w.heap.size ≤ gb649) := ⟨h5_⟩
         have n6_ : Aside0 (w.heap.size ≤ gb649) := ⟨h6_⟩
         have n7_ : gb636 ≠ gb649 := h7_
         have n8_ : gb649 ≠ gb636 := h8_
         have n9_ : Aside0 (Below w.heap.size w w60) := ⟨h9_⟩
         clear HO_5; clear BK636; clear HB; clear h0_ h1_ h2_ h3_ h4_ h5_ h6_ h7_ h8_ h9_; have HO646 := n0_; have HO_5 := n1_; have HA_HO646 := n2_; have BK636 := n3_; have BK649 := n4_; have GW649 := n5_; have GE649 := n6_; have NB636_649 := n7_; have NB649_636 := n8_; have HB := n9_; clear n0_ n1_ n2_ n3_ n4_ n5_ n6_ n7_ n8_ n9_
         have hHeld : w60.cell? (ad648.add ((ji33)).toNat) = some (.int .i32 (rd y640 (ji33))) := hS_
         obtain ⟨co61, eo61⟩ := HA_HO646.out; clear HA_HO646; subst eo61; refine norm_ (a' := ?_) ?_ ?_; rotate_left
         ·
          simp only [putAll, Act.put, List.setIfInBounds_toArray, List.set_cons_zero, List.set_cons_succ]
          rfl
         refine one_ (i := 16) (N := none) (bs 17 131071) rfl rfl (one_of HT_.out (by kernel_rfl)) (by decide) (fun K hK => ?_)
         have hs62 := cz0 BK649.out; have hfs62 := blk_frozen BK649.out 0; have hs63 := cz1 BK649.out; have hfs63 := blk_frozen BK649.out 1; have hs64 := cz2 BK649.out; have hfs64 := blk_frozen BK649.out 2; have hs65 := cz3 BK649.out; have hfs65 := blk_frozen BK649.out 3; have hs66 := cz4 BK649.out; have hfs66 := blk_frozen BK649.out 4; have hs67 := cz5 BK649.out; have hfs67 := blk_frozen BK649.out 5
         refine skip_ (w1 := ?_) (by rfl) rfl ?_ ?_; rotate_left
         ·
          go_simp
          rfl
         refine hK.out _ _ (((cell_far (p := ⟨gb649, _, none⟩) (by first | exact Kd.own_blk (Kd.R_ne HO_5.out BK649.out (by decide)) | (rw [add_block]; exact Kd.own_blk (Kd.R_ne HO_5.out BK649.out (by decide))) | (show (Addr.add _ _).block ≠ _; rw [add_block]; exact Kd.own_blk (Kd.R_ne HO_5.out BK649.out (by decide))) | (dsimp only; exact Kd.own_blk (Kd.R_ne HO_5.out BK649.out (by decide)))) _).trans (((cell_far (p := ⟨gb649, _, none⟩) (by first | exact Kd.own_blk (Kd.R_ne HO_5.out BK649.out (by decide)) | (rw [add_block]; exact Kd.own_blk (Kd.R_ne HO_5.out BK649.out (by decide))) | (show (Addr.add _ _).block ≠ _; rw [add_block]; exact Kd.own_blk (Kd.R_ne HO_5.out BK649.out (by decide))) | (dsimp only; exact Kd.own_blk (Kd.R_ne HO_5.out BK649.out (by decide)))) _).trans (((cell_far (p := ⟨gb649, _, none⟩) (by first | exact Kd.own_blk (Kd.R_ne HO_5.out BK649.out (by decide)) | (rw [add_block]; exact Kd.own_blk (Kd.R_ne HO_5.out BK649.out (by decide))) | (show (Addr.add _ _).block ≠ _; rw [add_block]; exact Kd.own_blk (Kd.R_ne HO_5.out BK649.out (by decide))) | (dsimp only; exact Kd.own_blk (Kd.R_ne HO_5.out BK649.out (by decide)))) _).trans (((cell_far (p := ⟨gb649, _, none⟩) (by first | exact Kd.own_blk (Kd.R_ne HO_5.out BK649.out (by decide)) | (rw [add_block]; exact Kd.own_blk (Kd.R_ne HO_5.out BK649.out (by decide))) | (show (Addr.add _ _).block ≠ _; rw [add_block]; exact Kd.own_blk (Kd.R_ne HO_5.out BK649.out (by decide))) | (dsimp only; exact Kd.own_blk (Kd.R_ne HO_5.out BK649.out (by decide)))) _).trans (((cell_far (p := ⟨gb649, _, none⟩) (by first | exact Kd.own_blk (Kd.R_ne HO_5.out BK649.out (by decide)) | (rw [add_block]; exact Kd.own_blk (Kd.R_ne HO_5.out BK649.out (by decide))) | (show (Addr.add _ _).block ≠ _; rw [add_block]; exact Kd.own_blk (Kd.R_ne HO_5.out BK649.out (by decide))) | (dsimp only; exact Kd.own_blk (Kd.R_ne HO_5.out BK649.out (by decide)))) _).trans (((cell_far (p := ⟨gb649, _, none⟩) (by first | exact Kd.own_blk (Kd.R_ne HO_5.out BK649.out (by decide)) | (rw [add_block]; exact Kd.own_blk (Kd.R_ne HO_5.out BK649.out (by decide))) | (show (Addr.add _ _).block ≠ _; rw [add_block]; exact Kd.own_blk (Kd.R_ne HO_5.out BK649.out (by decide))) | (dsimp only; exact Kd.own_blk (Kd.R_ne HO_5.out BK649.out (by decide)))) _).trans (hHeld))))))))))))) (fun hHeld => ?_)
         clear hK K; refine done_ (done_of HT_.out (by kernel_rfl)) ?_; have hcz69 := cs6 BK649.out
         try go_wp2_with (first | ((with_reducible refine gC 18 rfl ?_); refine goesL1 (some 81) Tryd.func18 #[.string (rdOf ByteArray.empty l0_0 x3_1), .int .i64 x6_4, .agg #[.int .i64 0, .int .i64 0, .int .i64 0, .int .i64 (rd y644 (ji29)), .int .i64 0, .int .i64 (wrap64 (rd y640 (ji33)))], .agg #[.int .i64 0, .int .i64 0], .slice none 0 0] rfl (by (try simp only [List.map_toArray, List.map_cons, List.map_nil]); first | done | (simp only [hji29, hji33]; rfl) | rfl | (simp only [List.length_drop, List.length_take]; rfl)) ?_; (refine (move_Go.calls ?side1 ?side2 ?side3 A36.out).mono ?_); (case side1 => exact Tabs.below HT.out bl_); (case side2 => exact Kd.C_nil _ _); (case side3 => exact Nat.le_refl _); rintro e w70 ⟨rfl, hb⟩; refine ⟨_, rfl, ?_⟩; replace HO_5 := Aside0.mk (Kd.R_below (by (with_reducible repeat (first | apply Kd.R_alloc | apply Kd.R_drewN | apply Kd.R_drew)); exact (Kd.R_mono (Kd.R_far (p := ⟨gb649, 5, none⟩) (Kd.R_far (p := ⟨gb649, 4, none⟩) (Kd.R_far (p := ⟨gb649, 3, none⟩) (Kd.R_far (p := ⟨gb649, 2, none⟩) (Kd.R_far (p := ⟨gb649, 1, none⟩) (Kd.R_far (p := ⟨gb649, 0, none⟩) (Kd.R_types HO_5.out BK649.out (by decide)) (fun _ hk => hk.2) (.int .i64 0)) (fun _ hk => hk.2) (.int .i64 0)) (fun _ hk => hk.2) (.int .i64 0)) (fun _ hk => hk.2) (.int .i64 (rd y644 (ji29)))) (fun _ hk => hk.2) (.int .i64 0)) (fun _ hk => hk.2) (.int .i64 (wrap64 (rd y640 (ji33))))) (fun _ h_ => h_.1))) hb); replace HO646 := Aside0.mk (Kd.R_below (by (with_reducible repeat (first | apply Kd.R_alloc | apply Kd.R_drewN | apply Kd.R_drew)); exact (Kd.R_mono (Kd.R_far (p := ⟨gb649, 5, none⟩) (Kd.R_far (p := ⟨gb649, 4, none⟩) (Kd.R_far (p := ⟨gb649, 3, none⟩) (Kd.R_far (p := ⟨gb649, 2, none⟩) (Kd.R_far (p := ⟨gb649, 1, none⟩) (Kd.R_far (p := ⟨gb649, 0, none⟩) (Kd.R_types HO646.out BK649.out (by decide)) (fun _ hk => hk.2) (.int .i64 0)) (fun _ hk => hk.2) (.int .i64 0)) (fun _ hk => hk.2) (.int .i64 0)) (fun _ hk => hk.2) (.int .i64 (rd y644 (ji29)))) (fun _ hk => hk.2) (.int .i64 0)) (fun _ hk => hk.2) (.int .i64 (wrap64 (rd y640 (ji33))))) (fun _ h_ => h_.1))) hb); replace BK636 := bkB gb636 #[.slice (some ad639) l0_0.length c0_0, .int .i64 a0_1, .int .i64 a0_2, .int .i64 a0_3, .int .i64 a0_4, .int .i64 a0_5, .int .i64 a0_6, .int .i64 a0_7, .slice A0_8 l0_8.length c0_8, .int .i64 a0_9, .int .i64 a0_10, .slice A0_11 l0_11.length c0_11] 34 hb; replace BK649 := bkB gb649 #[.int .i64 0, .int .i64 0, .int .i64 0, .int .i64 (rd y644 (ji29)), .int .i64 0, .int .i64 (wrap64 (rd y640 (ji33)))] 52 hb; replace HB := hB hb; (try clear hb)) | ((with_reducible refine gN 8 rfl ?_); (try (refine gate_guard (by rfl) ?_; dsimp only)); refine box1 (N := 8) (cs := #[.int .i64 0, .int .i64 0]) (t := 54) ?_; intro gb655 hg w71 hbox hb; have BK655 := Aside0.mk hbox; have GW655 := gE hg; have GE655 := GW655; have NB636_655 := nbl hg BK636.out; have NB655_636 := nbr hg BK636.out; have NB649_655 := nbl hg BK649.out; have NB655_649 := nbr hg BK649.out; replace HO_5 := Aside0.mk (Kd.R_below (ro_ HO_5) hb); replace HO646 := Aside0.mk (Kd.R_below (ro_ HO646) hb); replace BK636 := blB hb BK636; replace BK649 := blB hb BK649; replace HB := hB hb; clear hb hbox hg) | ((with_reducible refine gN 9 rfl ?_); (try (refine gate_guard (by rfl) ?_; dsimp only)); refine box1 (N := 9) (cs := #[.int .i64 0, .int .i64 0]) (t := 31) ?_; intro gb656 hg w72 hbox hb; have BK656 := Aside0.mk hbox; have GW656 := gE hg; have GE656 := GW656; have NB636_656 := nbl hg BK636.out; have NB656_636 := nbr hg BK636.out; have NB649_656 := nbl hg BK649.out; have NB656_649 := nbr hg BK649.out; have NB655_656 := nbl hg BK655.out; have NB656_655 := nbr hg BK655.out; replace HO_5 := Aside0.mk (Kd.R_below (ro_ HO_5) hb); replace HO646 := Aside0.mk (Kd.R_below (ro_ HO646) hb); replace BK636 := blB hb BK636; replace BK649 := blB hb BK649; replace BK655 := blB hb BK655; replace HB := hB hb; clear hb hbox hg; have hcz76 := cs2 BK655.out; have hcz79 := cs2 BK656.out) | ((with_reducible refine gC 19 rfl ?_); refine goesL1 (some 86) Tryd.func19 #[.int .i64 t654] rfl (map1 rfl) ?_; (with_reducible refine (quilllaw16_num.calls A37.out).mono ?_); rintro e w' ⟨rfl, nd, rfl⟩; refine ⟨_, rfl, ?_⟩) | ((with_reducible refine gC 18 rfl ?_); refine goesL1 (some 93) Tryd.func18 #[.string (rdOf ByteArray.empty l0_0 x3_1), .int .i64 x6_4, .agg #[.int .i64 0, .int .i64 0, .int .i64 0, .int .i64 59, .int .i64 0, .int .i64 5], .agg #[.int .i64 t652, .int .i64 t653], .slice none 0 0] rfl (map5 rfl rfl rfl rfl rfl) ?_; (refine (move_Go.calls ?side1 ?side2 ?side3 A39.out).mono ?_); (case side1 => exact Tabs.below HT.out bl_); (case side2 => exact Kd.C_nil _ _); (case side3 => exact Nat.le_refl _); rintro e w80 ⟨rfl, hb⟩; refine ⟨_, rfl, ?_⟩; replace HO_5 := Aside0.mk (Kd.R_below (by (with_reducible repeat (first | apply Kd.R_alloc | apply Kd.R_drewN | apply Kd.R_drew)); exact (Kd.R_mono (Kd.R_mono (Kd.R_far (p := ⟨gb656, 1, none⟩) (Kd.R_far (p := ⟨gb656, 0, none⟩) (Kd.R_far (p := ⟨gb655, 1, none⟩) (Kd.R_far (p := ⟨gb655, 0, none⟩) (Kd.R_types (Kd.R_types HO_5.out BK655.out (by decide)) BK656.out (by decide)) (fun _ hk => hk.1.2) (.int .i64 t650)) (fun _ hk => hk.1.2) (.int .i64 t651)) (fun _ hk => hk.2) (.int .i64 t652)) (fun _ hk => hk.2) (.int .i64 t653)) (fun _ h_ => h_.1)) (fun _ h_ => h_.1))) hb); replace HO646 := Aside0.mk (Kd.R_below (by (with_reducible repeat (first | apply Kd.R_alloc | apply Kd.R_drewN | apply Kd.R_drew)); exact (Kd.R_mono (Kd.R_mono (Kd.R_far (p := ⟨gb656, 1, none⟩) (Kd.R_far (p := ⟨gb656, 0, none⟩) (Kd.R_far (p := ⟨gb655, 1, none⟩) (Kd.R_far (p := ⟨gb655, 0, none⟩) (Kd.R_types (Kd.R_types HO646.out BK655.out (by decide)) BK656.out (by decide)) (fun _ hk => hk.1.2) (.int .i64 t650)) (fun _ hk => hk.1.2) (.int .i64 t651)) (fun _ hk => hk.2) (.int .i64 t652)) (fun _ hk => hk.2) (.int .i64 t653)) (fun _ h_ => h_.1)) (fun _ h_ => h_.1))) hb); replace BK636 := bkB gb636 #[.slice (some ad639) l0_0.length c0_0, .int .i64 a0_1, .int .i64 a0_2, .int .i64 a0_3, .int .i64 a0_4, .int .i64 a0_5, .int .i64 a0_6, .int .i64 a0_7, .slice A0_8 l0_8.length c0_8, .int .i64 a0_9, .int .i64 a0_10, .slice A0_11 l0_11.length c0_11] 34 hb; replace BK649 := bkB gb649 #[.int .i64 0, .int .i64 0, .int .i64 0, .int .i64 (rd y644 (ji29)), .int .i64 0, .int .i64 (wrap64 (rd y640 (ji33)))] 52 hb; replace BK655 := bkB gb655 #[.int .i64 t650, .int .i64 t651] 54 hb; replace BK656 := bkB gb656 #[.int .i64 t652, .int .i64 t653] 31 hb; replace HB := hB hb; (try clear hb); (try clear hcz76); (try clear hcz79)) | ((with_reducible refine gN 11 rfl ?_); (try (refine gate_guard (by rfl) ?_; dsimp only)); refine box1 (N := 11) (cs := #[.int .i64 0, .int .i64 0]) (t := 54) ?_; intro gb663 hg w81 hbox hb; have BK663 := Aside0.mk hbox; have GW663 := gE hg; have GE663 := GW663; have NB636_663 := nbl hg BK636.out; have NB663_636 := nbr hg BK636.out; have NB649_663 := nbl hg BK649.out; have NB663_649 := nbr hg BK649.out; have NB655_663 := nbl hg BK655.out; have NB663_655 := nbr hg BK655.out; have NB656_663 := nbl hg BK656.out; have NB663_656 := nbr hg BK656.out; replace HO_5 := Aside0.mk (Kd.R_below (ro_ HO_5) hb); replace HO646 := Aside0.mk (Kd.R_below (ro_ HO646) hb); replace BK636 := blB hb BK636; replace BK649 := blB hb BK649; replace BK655 := blB hb BK655; replace BK656 := blB hb BK656; replace HB := hB hb; clear hb hbox hg) | ((with_reducible refine gN 12 rfl ?_); (try (refine gate_guard (by rfl) ?_; dsimp only)); refine box1 (N := 12) (cs := #[.int .i64 0, .int .i64 0]) (t := 31) ?_; intro gb664 hg w82 hbox hb; have BK664 := Aside0.mk hbox; have GW664 := gE hg; have GE664 := GW664; have NB636_664 := nbl hg BK636.out; have NB664_636 := nbr hg BK636.out; have NB649_664 := nbl hg BK649.out; have NB664_649 := nbr hg BK649.out; have NB655_664 := nbl hg BK655.out; have NB664_655 := nbr hg BK655.out; have NB656_664 := nbl hg BK656.out; have NB664_656 := nbr hg BK656.out; have NB663_664 := nbl hg BK663.out; have NB664_663 := nbr hg BK663.out; replace HO_5 := Aside0.mk (Kd.R_below (ro_ HO_5) hb); replace HO646 := Aside0.mk (Kd.R_below (ro_ HO646) hb); replace BK636 := blB hb BK636; replace BK649 := blB hb BK649; replace BK655 := blB hb BK655; replace BK656 := blB hb BK656; replace BK663 := blB hb BK663; replace HB := hB hb; clear hb hbox hg; have hcz88 := cs2 BK663.out; have hcz93 := cs2 BK664.out; have hcz94_0 := cz0 BK649.out; have hcz94_1 := cz1 BK649.out; have hcz94_2 := cz2 BK649.out; have hcz94_3 : w82.cell? ⟨gb649, 3, none⟩ = some (.int .i64 (rd y644 (ji29))) := (blk_cell BK649.out 3).trans rfl; have hcz94_4 := cz4 BK649.out; have hcz94_5 : w82.cell? ⟨gb649, 5, none⟩ = some (.int .i64 (wrap64 (rd y640 (ji33)))) := (blk_cell BK649.out 5).trans rfl; have hfz94_0 := blk_frozen BK649.out 0; have hfz94_1 := blk_frozen BK649.out 1; have hfz94_2 := blk_frozen BK649.out 2; have hfz94_3 := blk_frozen BK649.out 3; have hfz94_4 := blk_frozen BK649.out 4; have hfz94_5 := blk_frozen BK649.out 5) | ((with_reducible refine gC 18 rfl ?_); refine goesL1 (some 102) Tryd.func18 #[.string (rdOf ByteArray.empty l0_0 x3_1), .int .i64 x6_4, .agg #[.int .i64 0, .int .i64 0, .int .i64 0, .int .i64 (rd y644 (ji29)), .int .i64 0, .int .i64 (wrap64 (rd y640 (ji33)))], .agg #[.int .i64 102, .int .i64 113], .slice none 0 0] rfl (by (try simp only [List.map_toArray, List.map_cons, List.map_nil]); first | done | (simp only [hji29, hji33]; rfl) | rfl | (simp only [List.length_drop, List.length_take]; rfl)) ?_; (refine (move_Go.calls ?side1 ?side2 ?side3 A40.out).mono ?_); (case side1 => exact Tabs.below HT.out bl_); (case side2 => exact Kd.C_nil _ _); (case side3 => exact Nat.le_refl _); rintro e w95 ⟨rfl, hb⟩; refine ⟨_, rfl, ?_⟩; replace HO_5 := Aside0.mk (Kd.R_below (by (with_reducible repeat (first | apply Kd.R_alloc | apply Kd.R_drewN | apply Kd.R_drew)); exact (Kd.R_mono (Kd.R_mono (Kd.R_far (p := ⟨gb664, 1, none⟩) (Kd.R_far (p := ⟨gb664, 0, none⟩) (Kd.R_far (p := ⟨gb663, 1, none⟩) (Kd.R_far (p := ⟨gb663, 0, none⟩) (Kd.R_types (Kd.R_types HO_5.out BK663.out (by decide)) BK664.out (by decide)) (fun _ hk => hk.1.2) (.int .i64 t658)) (fun _ hk => hk.1.2) (.int .i64 t659)) (fun _ hk => hk.2) (.int .i64 t660)) (fun _ hk => hk.2) (.int .i64 t661)) (fun _ h_ => h_.1)) (fun _ h_ => h_.1))) hb); replace HO646 := Aside0.mk (Kd.R_below (by (with_reducible repeat (first | apply Kd.R_alloc | apply Kd.R_drewN | apply Kd.R_drew)); exact (Kd.R_mono (Kd.R_mono (Kd.R_far (p := ⟨gb664, 1, none⟩) (Kd.R_far (p := ⟨gb664, 0, none⟩) (Kd.R_far (p := ⟨gb663, 1, none⟩) (Kd.R_far (p := ⟨gb663, 0, none⟩) (Kd.R_types (Kd.R_types HO646.out BK663.out (by decide)) BK664.out (by decide)) (fun _ hk => hk.1.2) (.int .i64 t658)) (fun _ hk => hk.1.2) (.int .i64 t659)) (fun _ hk => hk.2) (.int .i64 t660)) (fun _ hk => hk.2) (.int .i64 t661)) (fun _ h_ => h_.1)) (fun _ h_ => h_.1))) hb); replace BK636 := bkB gb636 #[.slice (some ad639) l0_0.length c0_0, .int .i64 a0_1, .int .i64 a0_2, .int .i64 a0_3, .int .i64 a0_4, .int .i64 a0_5, .int .i64 a0_6, .int .i64 a0_7, .slice A0_8 l0_8.length c0_8, .int .i64 a0_9, .int .i64 a0_10, .slice A0_11 l0_11.length c0_11] 34 hb; replace BK649 := bkB gb649 #[.int .i64 0, .int .i64 0, .int .i64 0, .int .i64 (rd y644 (ji29)), .int .i64 0, .int .i64 (wrap64 (rd y640 (ji33)))] 52 hb; replace BK655 := bkB gb655 #[.int .i64 t650, .int .i64 t651] 54 hb; replace BK656 := bkB gb656 #[.int .i64 t652, .int .i64 t653] 31 hb; replace BK663 := bkB gb663 #[.int .i64 t658, .int .i64 t659] 54 hb; replace BK664 := bkB gb664 #[.int .i64 t660, .int .i64 t661] 31 hb; replace HB := hB hb; (try clear hb); (try clear hcz88); (try clear hcz93); (try clear hcz94_0); (try clear hcz94_1); (try clear hcz94_2); (try clear hcz94_4); (try clear hfz94_0); (try clear hfz94_1); (try clear hfz94_2); (try clear hfz94_3); (try clear hfz94_4); (try clear hfz94_5)) | ((with_reducible refine gN 14 rfl ?_); (try (refine gate_guard (by rfl) ?_; dsimp only)); refine box1 (N := 14) (cs := #[.int .i64 0, .int .i64 0]) (t := 54) ?_; intro gb670 hg w96 hbox hb; have BK670 := Aside0.mk hbox; have GW670 := gE hg; have GE670 := GW670; have NB636_670 := nbl hg BK636.out; have NB670_636 := nbr hg BK636.out; have NB649_670 := nbl hg BK649.out; have NB670_649 := nbr hg BK649.out; have NB655_670 := nbl hg BK655.out; have NB670_655 := nbr hg BK655.out; have NB656_670 := nbl hg BK656.out; have NB670_656 := nbr hg BK656.out; have NB663_670 := nbl hg BK663.out; have NB670_663 := nbr hg BK663.out; have NB664_670 := nbl hg BK664.out; have NB670_664 := nbr hg BK664.out; replace HO_5 := Aside0.mk (Kd.R_below (ro_ HO_5) hb); replace HO646 := Aside0.mk (Kd.R_below (ro_ HO646) hb); replace BK636 := blB hb BK636; replace BK649 := blB hb BK649; replace BK655 := blB hb BK655; replace BK656 := blB hb BK656; replace BK663 := blB hb BK663; replace BK664 := blB hb BK664; replace HB := hB hb; clear hb hbox hg) | ((with_reducible refine gN 15 rfl ?_); (try (refine gate_guard (by rfl) ?_; dsimp only)); refine box1 (N := 15) (cs := #[.int .i64 0, .int .i64 0]) (t := 31) ?_; intro gb671 hg w97 hbox hb; have BK671 := Aside0.mk hbox; have GW671 := gE hg; have GE671 := GW671; have NB636_671 := nbl hg BK636.out; have NB671_636 := nbr hg BK636.out; have NB649_671 := nbl hg BK649.out; have NB671_649 := nbr hg BK649.out; have NB655_671 := nbl hg BK655.out; have NB671_655 := nbr hg BK655.out; have NB656_671 := nbl hg BK656.out; have NB671_656 := nbr hg BK656.out; have NB663_671 := nbl hg BK663.out; have NB671_663 := nbr hg BK663.out; have NB664_671 := nbl hg BK664.out; have NB671_664 := nbr hg BK664.out; have NB670_671 := nbl hg BK670.out; have NB671_670 := nbr hg BK670.out; replace HO_5 := Aside0.mk (Kd.R_below (ro_ HO_5) hb); replace HO646 := Aside0.mk (Kd.R_below (ro_ HO646) hb); replace BK636 := blB hb BK636; replace BK649 := blB hb BK649; replace BK655 := blB hb BK655; replace BK656 := blB hb BK656; replace BK663 := blB hb BK663; replace BK664 := blB hb BK664; replace BK670 := blB hb BK670; replace HB := hB hb; clear hb hbox hg; have hcz105 := cs2 BK670.out; have hcz112 := cs2 BK671.out; have hcz113 := cs2 BK656.out) | ((with_reducible refine gC 18 rfl ?_); refine goesL1 (some 111) Tryd.func18 #[.string (rdOf ByteArray.empty l0_0 x3_1), .int .i64 x6_4, .agg #[.int .i64 0, .int .i64 0, .int .i64 0, .int .i64 44, .int .i64 0, .int .i64 0], .agg #[.int .i64 t652, .int .i64 t653], .slice none 0 0] rfl (map5 rfl rfl rfl rfl rfl) ?_; (refine (move_Go.calls ?side1 ?side2 ?side3 A41.out).mono ?_); (case side1 => exact Tabs.below HT.out bl_); (case side2 => exact Kd.C_nil _ _); (case side3 => exact Nat.le_refl _); rintro e w114 ⟨rfl, hb⟩; refine ⟨_, rfl, ?_⟩; replace HO_5 := Aside0.mk (Kd.R_below (by (with_reducible repeat (first | apply Kd.R_alloc | apply Kd.R_drewN | apply Kd.R_drew)); exact (Kd.R_mono (Kd.R_mono (Kd.R_far (p := ⟨gb671, 1, none⟩) (Kd.R_far (p := ⟨gb671, 0, none⟩) (Kd.R_far (p := ⟨gb670, 1, none⟩) (Kd.R_far (p := ⟨gb670, 0, none⟩) (Kd.R_types (Kd.R_types HO_5.out BK670.out (by decide)) BK671.out (by decide)) (fun _ hk => hk.1.2) (.int .i64 t665)) (fun _ hk => hk.1.2) (.int .i64 t666)) (fun _ hk => hk.2) (.int .i64 t667)) (fun _ hk => hk.2) (.int .i64 t668)) (fun _ h_ => h_.1)) (fun _ h_ => h_.1))) hb); replace HO646 := Aside0.mk (Kd.R_below (by (with_reducible repeat (first | apply Kd.R_alloc | apply Kd.R_drewN | apply Kd.R_drew)); exact (Kd.R_mono (Kd.R_mono (Kd.R_far (p := ⟨gb671, 1, none⟩) (Kd.R_far (p := ⟨gb671, 0, none⟩) (Kd.R_far (p := ⟨gb670, 1, none⟩) (Kd.R_far (p := ⟨gb670, 0, none⟩) (Kd.R_types (Kd.R_types HO646.out BK670.out (by decide)) BK671.out (by decide)) (fun _ hk => hk.1.2) (.int .i64 t665)) (fun _ hk => hk.1.2) (.int .i64 t666)) (fun _ hk => hk.2) (.int .i64 t667)) (fun _ hk => hk.2) (.int .i64 t668)) (fun _ h_ => h_.1)) (fun _ h_ => h_.1))) hb); replace BK636 := bkB gb636 #[.slice (some ad639) l0_0.length c0_0, .int .i64 a0_1, .int .i64 a0_2, .int .i64 a0_3, .int .i64 a0_4, .int .i64 a0_5, .int .i64 a0_6, .int .i64 a0_7, .slice A0_8 l0_8.length c0_8, .int .i64 a0_9, .int .i64 a0_10, .slice A0_11 l0_11.length c0_11] 34 hb; replace BK649 := bkB gb649 #[.int .i64 0, .int .i64 0, .int .i64 0, .int .i64 (rd y644 (ji29)), .int .i64 0, .int .i64 (wrap64 (rd y640 (ji33)))] 52 hb; replace BK655 := bkB gb655 #[.int .i64 t650, .int .i64 t651] 54 hb; replace BK656 := bkB gb656 #[.int .i64 t652, .int .i64 t653] 31 hb; replace BK663 := bkB gb663 #[.int .i64 t658, .int .i64 t659] 54 hb; replace BK664 := bkB gb664 #[.int .i64 t660, .int .i64 t661] 31 hb; replace BK670 := bkB gb670 #[.int .i64 t665, .int .i64 t666] 54 hb; replace BK671 := bkB gb671 #[.int .i64 t667, .int .i64 t668] 31 hb; replace HB := hB hb; (try clear hb); (try clear hcz105); (try clear hcz112); (try clear hcz113)) | ((with_reducible refine gN 17 rfl ?_); (try (refine gate_guard (by rfl) ?_; dsimp only)); refine box1 (N := 17) (cs := #[.int .i64 0, .int .i64 0]) (t := 54) ?_; intro gb677 hg w115 hbox hb; have BK677 := Aside0.mk hbox; have GW677 := gE hg; have GE677 := GW677; have NB636_677 := nbl hg BK636.out; have NB677_636 := nbr hg BK636.out; have NB649_677 := nbl hg BK649.out; have NB677_649 := nbr hg BK649.out; have NB655_677 := nbl hg BK655.out; have NB677_655 := nbr hg BK655.out; have NB656_677 := nbl hg BK656.out; have NB677_656 := nbr hg BK656.out; have NB663_677 := nbl hg BK663.out; have NB677_663 := nbr hg BK663.out; have NB664_677 := nbl hg BK664.out; have NB677_664 := nbr hg BK664.out; have NB670_677 := nbl hg BK670.out; have NB677_670 := nbr hg BK670.out; have NB671_677 := nbl hg BK671.out; have NB677_671 := nbr hg BK671.out; replace HO_5 := Aside0.mk (Kd.R_below (ro_ HO_5) hb); replace HO646 := Aside0.mk (Kd.R_below (ro_ HO646) hb); replace BK636 := blB hb BK636; replace BK649 := blB hb BK649; replace BK655 := blB hb BK655; replace BK656 := blB hb BK656; replace BK663 := blB hb BK663; replace BK664 := blB hb BK664; replace BK670 := blB hb BK670; replace BK671 := blB hb BK671; replace HB := hB hb; clear hb hbox hg) | ((with_reducible refine gN 18 rfl ?_); (try (refine gate_guard (by rfl) ?_; dsimp only)); refine box1 (N := 18) (cs := #[.int .i64 0, .int .i64 0]) (t := 31) ?_; intro gb678 hg w116 hbox hb; have BK678 := Aside0.mk hbox; have GW678 := gE hg; have GE678 := GW678; have NB636_678 := nbl hg BK636.out; have NB678_636 := nbr hg BK636.out; have NB649_678 := nbl hg BK649.out; have NB678_649 := nbr hg BK649.out; have NB655_678 := nbl hg BK655.out; have NB678_655 := nbr hg BK655.out; have NB656_678 := nbl hg BK656.out; have NB678_656 := nbr hg BK656.out; have NB663_678 := nbl hg BK663.out; have NB678_663 := nbr hg BK663.out; have NB664_678 := nbl hg BK664.out; have NB678_664 := nbr hg BK664.out; have NB670_678 := nbl hg BK670.out; have NB678_670 := nbr hg BK670.out; have NB671_678 := nbl hg BK671.out; have NB678_671 := nbr hg BK671.out; have NB677_678 := nbl hg BK677.out; have NB678_677 := nbr hg BK677.out; replace HO_5 := Aside0.mk (Kd.R_below (ro_ HO_5) hb); replace HO646 := Aside0.mk (Kd.R_below (ro_ HO646) hb); replace BK636 := blB hb BK636; replace BK649 := blB hb BK649; replace BK655 := blB hb BK655; replace BK656 := blB hb BK656; replace BK663 := blB hb BK663; replace BK664 := blB hb BK664; replace BK670 := blB hb BK670; replace BK671 := blB hb BK671; replace BK677 := blB hb BK677; replace HB := hB hb; clear hb hbox hg; have hcz126 := cs2 BK677.out; have hcz135 := cs2 BK678.out; have hcz136_0 := cz0 BK649.out; have hcz136_1 := cz1 BK649.out; have hcz136_2 := cz2 BK649.out; have hcz136_3 : w116.cell? ⟨gb649, 3, none⟩ = some (.int .i64 (rd y644 (ji29))) := (blk_cell BK649.out 3).trans rfl; have hcz136_4 := cz4 BK649.out; have hcz136_5 : w116.cell? ⟨gb649, 5, none⟩ = some (.int .i64 (wrap64 (rd y640 (ji33)))) := (blk_cell BK649.out 5).trans rfl; have hfz136_0 := blk_frozen BK649.out 0; have hfz136_1 := blk_frozen BK649.out 1; have hfz136_2 := blk_frozen BK649.out 2; have hfz136_3 := blk_frozen BK649.out 3; have hfz136_4 := blk_frozen BK649.out 4; have hfz136_5 := blk_frozen BK649.out 5) | ((with_reducible refine gC 20 rfl ?_); refine goesL1 (some 117) Tryd.func20 #[.int .i64 (rd y644 (ji29))] rfl (by (try simp only [List.map_toArray, List.map_cons, List.map_nil]); first | done | (simp only [hji29]; rfl) | rfl | (simp only [List.length_drop, List.length_take]; rfl)) ?_; (with_reducible refine (quillref10_Turned.calls A42.out).mono ?_); rintro e w' ⟨rfl, nd, rfl⟩; refine ⟨_, rfl, ?_⟩) | ((with_reducible refine gC 18 rfl ?_); refine goesL1 (some 124) Tryd.func18 #[.string (rdOf ByteArray.empty l0_0 x3_1), .int .i64 x6_4, .agg #[.int .i64 0, .int .i64 0, .int .i64 0, .int .i64 t679, .int .i64 0, .int .i64 (wrap64 (rd y640 (ji33)))], .agg #[.int .i64 0, .int .i64 0], .slice none 0 0] rfl (by (try simp only [List.map_toArray, List.map_cons, List.map_nil]); first | done | (simp only [hji33]; rfl) | rfl | (simp only [List.length_drop, List.length_take]; rfl)) ?_; (refine (move_Go.calls ?side1 ?side2 ?side3 A43.out).mono ?_); (case side1 => exact Tabs.below HT.out bl_); (case side2 => exact Kd.C_nil _ _); (case side3 => exact Nat.le_refl _); rintro e w137 ⟨rfl, hb⟩; refine ⟨_, rfl, ?_⟩; replace HO_5 := Aside0.mk (Kd.R_below (by (with_reducible repeat (first | apply Kd.R_alloc | apply Kd.R_drewN | apply Kd.R_drew)); exact (Kd.R_mono (Kd.R_mono (Kd.R_mono (Kd.R_far (p := ⟨gb649, 3, none⟩) (Kd.R_far (p := ⟨gb678, 1, none⟩) (Kd.R_far (p := ⟨gb678, 0, none⟩) (Kd.R_far (p := ⟨gb677, 1, none⟩) (Kd.R_far (p := ⟨gb677, 0, none⟩) (Kd.R_types (Kd.R_types (Kd.R_types HO_5.out BK677.out (by decide)) BK678.out (by decide)) BK649.out (by decide)) (fun _ hk => hk.1.1.2) (.int .i64 t672)) (fun _ hk => hk.1.1.2) (.int .i64 t673)) (fun _ hk => hk.1.2) (.int .i64 t674)) (fun _ hk => hk.1.2) (.int .i64 t675)) (fun _ hk => hk.2) (.int .i64 t679)) (fun _ h_ => h_.1)) (fun _ h_ => h_.1)) (fun _ h_ => h_.1))) hb); replace HO646 := Aside0.mk (Kd.R_below (by (with_reducible repeat (first | apply Kd.R_alloc | apply Kd.R_drewN | apply Kd.R_drew)); exact (Kd.R_mono (Kd.R_mono (Kd.R_mono (Kd.R_far (p := ⟨gb649, 3, none⟩) (Kd.R_far (p := ⟨gb678, 1, none⟩) (Kd.R_far (p := ⟨gb678, 0, none⟩) (Kd.R_far (p := ⟨gb677, 1, none⟩) (Kd.R_far (p := ⟨gb677, 0, none⟩) (Kd.R_types (Kd.R_types (Kd.R_types HO646.out BK677.out (by decide)) BK678.out (by decide)) BK649.out (by decide)) (fun _ hk => hk.1.1.2) (.int .i64 t672)) (fun _ hk => hk.1.1.2) (.int .i64 t673)) (fun _ hk => hk.1.2) (.int .i64 t674)) (fun _ hk => hk.1.2) (.int .i64 t675)) (fun _ hk => hk.2) (.int .i64 t679)) (fun _ h_ => h_.1)) (fun _ h_ => h_.1)) (fun _ h_ => h_.1))) hb); replace BK636 := bkB gb636 #[.slice (some ad639) l0_0.length c0_0, .int .i64 a0_1, .int .i64 a0_2, .int .i64 a0_3, .int .i64 a0_4, .int .i64 a0_5, .int .i64 a0_6, .int .i64 a0_7, .slice A0_8 l0_8.length c0_8, .int .i64 a0_9, .int .i64 a0_10, .slice A0_11 l0_11.length c0_11] 34 hb; replace BK649 := bkB gb649 #[.int .i64 0, .int .i64 0, .int .i64 0, .int .i64 t679, .int .i64 0, .int .i64 (wrap64 (rd y640 (ji33)))] 52 hb; replace BK655 := bkB gb655 #[.int .i64 t650, .int .i64 t651] 54 hb; replace BK656 := bkB gb656 #[.int .i64 t652, .int .i64 t653] 31 hb; replace BK663 := bkB gb663 #[.int .i64 t658, .int .i64 t659] 54 hb; replace BK664 := bkB gb664 #[.int .i64 t660, .int .i64 t661] 31 hb; replace BK670 := bkB gb670 #[.int .i64 t665, .int .i64 t666] 54 hb; replace BK671 := bkB gb671 #[.int .i64 t667, .int .i64 t668] 31 hb; replace BK677 := bkB gb677 #[.int .i64 t672, .int .i64 t673] 54 hb; replace BK678 := bkB gb678 #[.int .i64 t674, .int .i64 t675] 31 hb; replace HB := hB hb; (try clear hb); (try clear hcz126); (try clear hcz135); (try clear hcz136_0); (try clear hcz136_1); (try clear hcz136_2); (try clear hcz136_4); (try clear hfz136_0); (try clear hfz136_1); (try clear hfz136_2); (try clear hfz136_3); (try clear hfz136_4); (try clear hfz136_5)) | ((with_reducible refine gN 20 rfl ?_); (try (refine gate_guard (by rfl) ?_; dsimp only)); refine box1 (N := 20) (cs := #[.int .i64 0, .int .i64 0]) (t := 54) ?_; intro gb685 hg w138 hbox hb; have BK685 := Aside0.mk hbox; have GW685 := gE hg; have GE685 := GW685; have NB636_685 := nbl hg BK636.out; have NB685_636 := nbr hg BK636.out; have NB649_685 := nbl hg BK649.out; have NB685_649 := nbr hg BK649.out; have NB655_685 := nbl hg BK655.out; have NB685_655 := nbr hg BK655.out; have NB656_685 := nbl hg BK656.out; have NB685_656 := nbr hg BK656.out; have NB663_685 := nbl hg BK663.out; have NB685_663 := nbr hg BK663.out; have NB664_685 := nbl hg BK664.out; have NB685_664 := nbr hg BK664.out; have NB670_685 := nbl hg BK670.out; have NB685_670 := nbr hg BK670.out; have NB671_685 := nbl hg BK671.out; have NB685_671 := nbr hg BK671.out; have NB677_685 := nbl hg BK677.out; have NB685_677 := nbr hg BK677.out; have NB678_685 := nbl hg BK678.out; have NB685_678 := nbr hg BK678.out; replace HO_5 := Aside0.mk (Kd.R_below (ro_ HO_5) hb); replace HO646 := Aside0.mk (Kd.R_below (ro_ HO646) hb); replace BK636 := blB hb BK636; replace BK649 := blB hb BK649; replace BK655 := blB hb BK655; replace BK656 := blB hb BK656; replace BK663 := blB hb BK663; replace BK664 := blB hb BK664; replace BK670 := blB hb BK670; replace BK671 := blB hb BK671; replace BK677 := blB hb BK677; replace BK678 := blB hb BK678; replace HB := hB hb; clear hb hbox hg) | ((with_reducible refine gN 21 rfl ?_); (try (refine gate_guard (by rfl) ?_; dsimp only)); refine box1 (N := 21) (cs := #[.int .i64 0, .int .i64 0]) (t := 31) ?_; intro gb686 hg w139 hbox hb; have BK686 := Aside0.mk hbox; have GW686 := gE hg; have GE686 := GW686; have NB636_686 := nbl hg BK636.out; have NB686_636 := nbr hg BK636.out; have NB649_686 := nbl hg BK649.out; have NB686_649 := nbr hg BK649.out; have NB655_686 := nbl hg BK655.out; have NB686_655 := nbr hg BK655.out; have NB656_686 := nbl hg BK656.out; have NB686_656 := nbr hg BK656.out; have NB663_686 := nbl hg BK663.out; have NB686_663 := nbr hg BK663.out; have NB664_686 := nbl hg BK664.out; have NB686_664 := nbr hg BK664.out; have NB670_686 := nbl hg BK670.out; have NB686_670 := nbr hg BK670.out; have NB671_686 := nbl hg BK671.out; have NB686_671 := nbr hg BK671.out; have NB677_686 := nbl hg BK677.out; have NB686_677 := nbr hg BK677.out; have NB678_686 := nbl hg BK678.out; have NB686_678 := nbr hg BK678.out; have NB685_686 := nbl hg BK685.out; have NB686_685 := nbr hg BK685.out; replace HO_5 := Aside0.mk (Kd.R_below (ro_ HO_5) hb); replace HO646 := Aside0.mk (Kd.R_below (ro_ HO646) hb); replace BK636 := blB hb BK636; replace BK649 := blB hb BK649; replace BK655 := blB hb BK655; replace BK656 := blB hb BK656; replace BK663 := blB hb BK663; replace BK664 := blB hb BK664; replace BK670 := blB hb BK670; replace BK671 := blB hb BK671; replace BK677 := blB hb BK677; replace BK678 := blB hb BK678; replace BK685 := blB hb BK685; replace HB := hB hb; clear hb hbox hg; have hcz151 := cs2 BK685.out; have hcz162 := cs2 BK686.out) | ((with_reducible refine gC 19 rfl ?_); refine goesL1 (some 129) Tryd.func19 #[.int .i64 t662] rfl (map1 rfl) ?_; (with_reducible refine (quilllaw16_num.calls A44.out).mono ?_); rintro e w' ⟨rfl, nd, rfl⟩; refine ⟨_, rfl, ?_⟩) | (go_at_call 19; (with_reducible refine (quilllaw16_num.calls A46.out).mono ?_); rintro e w' ⟨rfl, nd, rfl⟩; have hcz163 := cs2 BK663.out; have hcz164 := cs2 BK670.out; have hcz165 := cs2 BK664.out; have hcz166 := cs2 BK656.out) | (go_at_call 19; (with_reducible refine (quilllaw16_num.calls A50.out).mono ?_); rintro e w' ⟨rfl, nd, rfl⟩) | (go_at_call 19; (with_reducible refine (quilllaw16_num.calls A51.out).mono ?_); rintro e w' ⟨rfl, nd, rfl⟩; have hcz167 := cs2 BK677.out))
         go_roundg k4
         case measure => have := HK1.out; have := HJ9.out; have := HJ17.out; have := HK4.out; omega
         case rel => exact ⟨(wrap64 (x6_4 + 1)), r3_, H, ⟨by have := HK1.out; have := HJ9.out; have := HJ17.out; have := HK4.out; omega⟩, ⟨by (with_reducible repeat (first | apply Kd.R_alloc | apply Kd.R_drewN | apply Kd.R_drew)); exact Kd.R_mono (Kd.R_far (p := ⟨gb686, 1, none⟩) (Kd.R_far (p := ⟨gb686, 0, none⟩) (Kd.R_far (p := ⟨gb685, 1, none⟩) (Kd.R_far (p := ⟨gb685, 0, none⟩) (Kd.R_types (Kd.R_types HO_5.out BK685.out (by decide)) BK686.out (by decide)) (fun _ hk => hk.1.2) (.int .i64 t680)) (fun _ hk => hk.1.2) (.int .i64 t681)) (fun _ hk => hk.2) (.int .i64 t682)) (fun _ hk => hk.2) (.int .i64 t683)) (fun _ hk => trivial)⟩, ⟨bk_⟩, ⟨bl_⟩⟩

end Go.Proofs.YtbgmmcngkdhpcaaDoor.P
