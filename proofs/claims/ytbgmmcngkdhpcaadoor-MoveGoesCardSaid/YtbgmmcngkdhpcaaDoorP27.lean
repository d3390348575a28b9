/- The walks of the functions that these statements reach: each Go function as a plain Lean function, and the proof that its call comes to that. Written by the session's program wip/pp.py. -/
import Derived.Test.YtbgmmcngkdhpcaaDoorP0
import Derived.Test.YtbgmmcngkdhpcaaDoorP4
import Derived.Test.YtbgmmcngkdhpcaaDoorP26
namespace Go.Proofs.YtbgmmcngkdhpcaaDoor.P
open Go.Proofs.YtbgmmcngkdhpcaaDoor
open Go.RowKit Go.Proofs.YtbgmmcngkdhpcaaDoorW.PrintWords Go.Proofs.YtbgmmcngkdhpcaaDoorW.PrintLast Go.Proofs.YtbgmmcngkdhpcaaDoorW.PrintMore
attribute [local go_sem] cell_isSome max2_int min2_int max_two min_two max_three min_three max_four min_four   -- for this text's walks alone
set_option linter.unusedVariables false
set_option linter.unusedSimpArgs false
set_option maxHeartbeats 8000000
set_option maxRecDepth 100000

/-! ### quilllaw16_MoveGoes: function 4 -/
mutual
def quilllaw16_MoveGoes.l0 : Nat → Int → List ByteArray → Int → Int → Int → Int → Int → Int → Int → List (S52) → Int → Int → List (S89) → Option (Bool)
  | 0, _, _, _, _, _, _, _, _, _, _, _, _, _ => none
  | k + 1, x3, v0, v1, v2, v3, v4, v5, v6, v7, v8, v9, v10, v11 => if x3 < (v0.length : Int) then (quilllaw16_MoveGoes.j1 k x3 (decide (x3 < 3)) v0 v1 v2 v3 v4 v5 v6 v7 v8 v9 v10 v11) else (quilllaw16_MoveGoes.j1 k x3 false v0 v1 v2 v3 v4 v5 v6 v7 v8 v9 v10 v11)
def quilllaw16_MoveGoes.j1 : Nat → Int → Bool → List ByteArray → Int → Int → Int → Int → Int → Int → Int → List (S52) → Int → Int → List (S89) → Option (Bool)
  | 0, _, _, _, _, _, _, _, _, _, _, _, _, _, _ => none
  | k + 1, x3, x21, v0, v1, v2, v3, v4, v5, v6, v7, v8, v9, v10, v11 => if x21 = true then (if 0 ≤ x3 then (if x3 < (v0.length : Int) then (if (rdOf ByteArray.empty v0 x3).size ≤ 70368744177664 then ((some (runesOf (rdOf ByteArray.empty v0 x3) : List Int)).bind fun y627 => ((quilllaw10_Offsets.f k v0 v1 v2 v3 v4 v5 v6 v7 y627).bind fun t630 => (quilllaw16_MoveGoes.l1 k x3 (rdOf ByteArray.empty v0 x3) y627 t630 0 v0 v1 v2 v3 v4 v5 v6 v7 v8 v9 v10 v11))) else (none)) else (none)) else (none)) else ((quilllaw16_wakes.f k).bind fun t625 => (some t625))
def quilllaw16_MoveGoes.l1 : Nat → Int → ByteArray → List Int → List Int → Int → List ByteArray → Int → Int → Int → Int → Int → Int → Int → List (S52) → Int → Int → List (S89) → Option (Bool)
  | 0, _, _, _, _, _, _, _, _, _, _, _, _, _, _, _, _, _ => none
  | k + 1, x3, x4, x5, x6, x7, v0, v1, v2, v3, v4, v5, v6, v7, v8, v9, v10, v11 => if x7 < (x6.length : Int) then (quilllaw16_MoveGoes.j3 k x3 x4 x5 x6 x7 (decide (x7 < 8)) v0 v1 v2 v3 v4 v5 v6 v7 v8 v9 v10 v11) else (quilllaw16_MoveGoes.j3 k x3 x4 x5 x6 x7 false v0 v1 v2 v3 v4 v5 v6 v7 v8 v9 v10 v11)
def quilllaw16_MoveGoes.j3 : Nat → Int → ByteArray → List Int → List Int → Int → Bool → List ByteArray → Int → Int → Int → Int → Int → Int → Int → List (S52) → Int → Int → List (S89) → Option (Bool)
  | 0, _, _, _, _, _, _, _, _, _, _, _, _, _, _, _, _, _, _ => none
  | k + 1, x3, x4, x5, x6, x7, x44, v0, v1, v2, v3, v4, v5, v6, v7, v8, v9, v10, v11 => if x44 = true then (quilllaw16_MoveGoes.l2 k x3 x4 x5 x6 x7 0 v0 v1 v2 v3 v4 v5 v6 v7 v8 v9 v10 v11) else (quilllaw16_MoveGoes.l0 k (wrap64 (x3 + 1)) v0 v1 v2 v3 v4 v5 v6 v7 v8 v9 v10 v11)
def quilllaw16_MoveGoes.l2 : Nat → Int → ByteArray → List Int → List Int → Int → Int → List ByteArray → Int → Int → Int → Int → Int → Int → Int → List (S52) → Int → Int → List (S89) → Option (Bool)
  | 0, _, _, _, _, _, _, _, _, _, _, _, _, _, _, _, _, _, _ => none
  | k + 1, x3, x4, x5, x6, x7, x8, v0, v1, v2, v3, v4, v5, v6, v7, v8, v9, v10, v11 => if x8 < (v8.length : Int) then (quilllaw16_MoveGoes.j5 k x3 x4 x5 x6 x7 x8 (decide (x8 < 12)) v0 v1 v2 v3 v4 v5 v6 v7 v8 v9 v10 v11) else (quilllaw16_MoveGoes.j5 k x3 x4 x5 x6 x7 x8 false v0 v1 v2 v3 v4 v5 v6 v7 v8 v9 v10 v11)
def quilllaw16_MoveGoes.j5 : Nat → Int → ByteArray → List Int → List Int → Int → Int → Bool → List ByteArray → Int → Int → Int → Int → Int → Int → Int → List (S52) → Int → Int → List (S89) → Option (Bool)
  | 0, _, _, _, _, _, _, _, _, _, _, _, _, _, _, _, _, _, _, _ => none
  | k + 1, x3, x4, x5, x6, x7, x8, x55, v0, v1, v2, v3, v4, v5, v6, v7, v8, v9, v10, v11 => if x55 = true then (if 0 ≤ x7 then (if x7 < (x6.length : Int) then (if 0 ≤ x8 then (if x8 < (v8.length : Int) then ((quilllaw16_one.f k x4 x5 (rd x6 x7) ((rd_T52 v8 x8).f0) ((rd_T52 v8 x8).f1) ((rd_T52 v8 x8).f2) ((rd_T52 v8 x8).f3) ((rd_T52 v8 x8).f4) ((rd_T52 v8 x8).f5) v9 v10 v11).bind fun t635 => (if t635 = true then (quilllaw16_MoveGoes.l2 k x3 x4 x5 x6 x7 (wrap64 (x8 + 1)) v0 v1 v2 v3 v4 v5 v6 v7 v8 v9 v10 v11) else (none))) else (none)) else (none)) else (none)) else (none)) else (quilllaw16_MoveGoes.l1 k x3 x4 x5 x6 (wrap64 (x7 + 1)) v0 v1 v2 v3 v4 v5 v6 v7 v8 v9 v10 v11)
end
def quilllaw16_MoveGoes.f (k : Nat) (l0_0 : List ByteArray) (a0_1 : Int) (a0_2 : Int) (a0_3 : Int) (a0_4 : Int) (a0_5 : Int) (a0_6 : Int) (a0_7 : Int) (l0_8 : List (S52)) (a0_9 : Int) (a0_10 : Int) (l0_11 : List (S89)) : Option (Bool) := (quilllaw16_Heavy.f k l0_0 a0_1 a0_2 a0_3 a0_4 a0_5 a0_6 a0_7 l0_8 a0_9 a0_10 l0_11).bind fun t624 => (if t624 = true then (some true) else (quilllaw16_MoveGoes.l0 k 0 l0_0 a0_1 a0_2 a0_3 a0_4 a0_5 a0_6 a0_7 l0_8 a0_9 a0_10 l0_11))
def quilllaw16_MoveGoes.T15 : Bool × List (List Nat × List Nat) := (true, [([], []), ([], []), ([], []), ([], []), ([2, 3], [2, 3]), ([4], [4]), ([], []), ([6], [6]), ([], []), ([7, 8], [7, 8]), ([9], [9]), ([], []), ([11], [11]), ([], []), ([13], [13]), ([0, 1, 5, 10, 12, 14], [0, 1, 5, 10, 12, 14]), ([15], [15])])
def quilllaw16_MoveGoes.B15 : List Nat := [0, 0, 0, 0, 12, 28, 0, 64, 0, 448, 960, 0, 2048, 0, 8192, 32767, 65535]
theorem quilllaw16_MoveGoes.tab15 : rtab .any (opsOf Tryd.f4 15) = quilllaw16_MoveGoes.T15 := by kernel_rfl
theorem quilllaw16_MoveGoes.bits15 : waitsOk quilllaw16_MoveGoes.T15.2 quilllaw16_MoveGoes.B15 = true := by kernel_rfl
theorem quilllaw16_MoveGoes.calls {k : Nat} {A0_0 : Option Addr} {c0_0 : Nat} {l0_0 : List ByteArray} {a0_1 : Int} {a0_2 : Int} {a0_3 : Int} {a0_4 : Int} {a0_5 : Int} {a0_6 : Int} {a0_7 : Int} {A0_8 : Option Addr} {c0_8 : Nat} {l0_8 : List (S52)} {a0_9 : Int} {a0_10 : Int} {A0_11 : Option Addr} {c0_11 : Nat} {l0_11 : List (S89)} {r : Bool} {w : World} (hT : Tabs w) (hr0_0 : Kd.C Kd.string w A0_0 l0_0.length l0_0) (hc0_0 : l0_0.length ≤ c0_0) (hr0_8 : Kd.C k52 w A0_8 l0_8.length l0_8) (hc0_8 : l0_8.length ≤ c0_8) (hr0_11 : Kd.C k89 w A0_11 l0_11.length l0_11) (hc0_11 : l0_11.length ≤ c0_11) (H : quilllaw16_MoveGoes.f k l0_0 a0_1 a0_2 a0_3 a0_4 a0_5 a0_6 a0_7 l0_8 a0_9 a0_10 l0_11 = some r) :
  Calls Tryd.prog 4 #[.agg #[.slice A0_0 l0_0.length c0_0, .int .i64 a0_1, .int .i64 a0_2, .int .i64 a0_3, .int .i64 a0_4, .int .i64 a0_5, .int .i64 a0_6, .int .i64 a0_7, .slice A0_8 l0_8.length c0_8, .int .i64 a0_9, .int .i64 a0_10, .slice A0_11 l0_11.length c0_11]] w fun e w' => e = .returned (.bool r) ∧ Below w.heap.size w w' := by
 have hu34 := Tryd.underlying34; have hu28 := Tryd.underlying28; have hu52 := Tryd.underlying52; have hu31 := Tryd.underlying31; have HT := Aside0.mk hT; clear hT; have HR0_0 := Aside0.mk hr0_0; have HC0_0 := Aside0.mk hc0_0; clear hr0_0 hc0_0; have HR0_8 := Aside0.mk hr0_8; have HC0_8 := Aside0.mk hc0_8; clear hr0_8 hc0_8; have HR0_11 := Aside0.mk hr0_11; have HC0_11 := Aside0.mk hc0_11; clear hr0_11 hc0_11
 have HB := Aside0.mk (Below.refl w.heap.size w); unfold quilllaw16_MoveGoes.f at H; replace H := bindA H; obtain ⟨t624, A2, H⟩ := H; (try dsimp only at H); replace H := ifb H; obtain ⟨rfl, H⟩ | ⟨rfl, H⟩ := H
 ·
  obtain rfl := Option.some.inj H; go_enter Tryd.func4, Tryd.ntmps4
  go_wp2_with (first | ((with_reducible refine gN 1 rfl ?_); refine bx 1 #[.slice A0_0 l0_0.length c0_0, .int .i64 a0_1, .int .i64 a0_2, .int .i64 a0_3, .int .i64 a0_4, .int .i64 a0_5, .int .i64 a0_6, .int .i64 a0_7, .slice A0_8 l0_8.length c0_8, .int .i64 a0_9, .int .i64 a0_10, .slice A0_11 l0_11.length c0_11] 34 ?_; intro gb623 hg w4 hbox hb; have BK623 := Aside0.mk hbox; have GW623 := gE hg; have GE623 := GW623; replace HB := hB hb; clear hb hbox hg; have hcz5_0 := cz0 BK623.out; have hcz5_1 := cz1 BK623.out; have hcz5_2 := cz2 BK623.out; have hcz5_3 := cz3 BK623.out; have hcz5_4 := cz4 BK623.out; have hcz5_5 := cz5 BK623.out; have hcz5_6 := cz6 BK623.out; have hcz5_7 := cz7 BK623.out; have hcz5_8 := cz8 BK623.out; have hcz5_9 := cz9 BK623.out; have hcz5_10 := cz10 BK623.out; have hcz5_11 := cz11 BK623.out; have hfz5_0 := blk_frozen BK623.out 0; have hfz5_1 := blk_frozen BK623.out 1; have hfz5_2 := blk_frozen BK623.out 2; have hfz5_3 := blk_frozen BK623.out 3; have hfz5_4 := blk_frozen BK623.out 4; have hfz5_5 := blk_frozen BK623.out 5; have hfz5_6 := blk_frozen BK623.out 6; have hfz5_7 := blk_frozen BK623.out 7; have hfz5_8 := blk_frozen BK623.out 8; have hfz5_9 := blk_frozen BK623.out 9; have hfz5_10 := blk_frozen BK623.out 10; have hfz5_11 := blk_frozen BK623.out 11) | ((with_reducible refine gC 7 rfl ?_); refine goesL1 (some 10) Tryd.func7 #[.agg #[.slice A0_0 l0_0.length c0_0, .int .i64 a0_1, .int .i64 a0_2, .int .i64 a0_3, .int .i64 a0_4, .int .i64 a0_5, .int .i64 a0_6, .int .i64 a0_7, .slice A0_8 l0_8.length c0_8, .int .i64 a0_9, .int .i64 a0_10, .slice A0_11 l0_11.length c0_11]] rfl (map1 rfl) ?_; refine cm_ (quilllaw16_Heavy.calls sd_ sd_ sd_ sd_ sd_ sd_ A2.out) ?_; rintro e w6 ⟨rfl, hb⟩; refine ⟨_, rfl, ?_⟩; replace BK623 := blB hb BK623; replace HB := hB hb; (try clear hb); (try clear hcz5_0); (try clear hcz5_1); (try clear hcz5_2); (try clear hcz5_3); (try clear hcz5_4); (try clear hcz5_5); (try clear hcz5_6); (try clear hcz5_7); (try clear hcz5_8); (try clear hcz5_9); (try clear hcz5_10); (try clear hcz5_11); (try clear hfz5_0); (try clear hfz5_1); (try clear hfz5_2); (try clear hfz5_3); (try clear hfz5_4); (try clear hfz5_5); (try clear hfz5_6); (try clear hfz5_7); (try clear hfz5_8); (try clear hfz5_9); (try clear hfz5_10); (try clear hfz5_11)))
  go_ret
  exact ⟨rr_, bl_⟩
 replace H := Aside0.mk H; go_enter Tryd.func4, Tryd.ntmps4
 go_wp2_with (first | ((with_reducible refine gN 1 rfl ?_); refine bx 1 #[.slice A0_0 l0_0.length c0_0, .int .i64 a0_1, .int .i64 a0_2, .int .i64 a0_3, .int .i64 a0_4, .int .i64 a0_5, .int .i64 a0_6, .int .i64 a0_7, .slice A0_8 l0_8.length c0_8, .int .i64 a0_9, .int .i64 a0_10, .slice A0_11 l0_11.length c0_11] 34 ?_; intro gb623 hg w7 hbox hb; have BK623 := Aside0.mk hbox; have GW623 := gE hg; have GE623 := GW623; replace HB := hB hb; clear hb hbox hg; have hcz8_0 := cz0 BK623.out; have hcz8_1 := cz1 BK623.out; have hcz8_2 := cz2 BK623.out; have hcz8_3 := cz3 BK623.out; have hcz8_4 := cz4 BK623.out; have hcz8_5 := cz5 BK623.out; have hcz8_6 := cz6 BK623.out; have hcz8_7 := cz7 BK623.out; have hcz8_8 := cz8 BK623.out; have hcz8_9 := cz9 BK623.out; have hcz8_10 := cz10 BK623.out; have hcz8_11 := cz11 BK623.out; have hfz8_0 := blk_frozen BK623.out 0; have hfz8_1 := blk_frozen BK623.out 1; have hfz8_2 := blk_frozen BK623.out 2; have hfz8_3 := blk_frozen BK623.out 3; have hfz8_4 := blk_frozen BK623.out 4; have hfz8_5 := blk_frozen BK623.out 5; have hfz8_6 := blk_frozen BK623.out 6; have hfz8_7 := blk_frozen BK623.out 7; have hfz8_8 := blk_frozen BK623.out 8; have hfz8_9 := blk_frozen BK623.out 9; have hfz8_10 := blk_frozen BK623.out 10; have hfz8_11 := blk_frozen BK623.out 11) | ((with_reducible refine gC 7 rfl ?_); refine goesL1 (some 10) Tryd.func7 #[.agg #[.slice A0_0 l0_0.length c0_0, .int .i64 a0_1, .int .i64 a0_2, .int .i64 a0_3, .int .i64 a0_4, .int .i64 a0_5, .int .i64 a0_6, .int .i64 a0_7, .slice A0_8 l0_8.length c0_8, .int .i64 a0_9, .int .i64 a0_10, .slice A0_11 l0_11.length c0_11]] rfl (map1 rfl) ?_; refine cm_ (quilllaw16_Heavy.calls sd_ sd_ sd_ sd_ sd_ sd_ A2.out) ?_; rintro e w9 ⟨rfl, hb⟩; refine ⟨_, rfl, ?_⟩; replace BK623 := blB hb BK623; replace HB := hB hb; (try clear hb); (try clear hcz8_0); (try clear hcz8_1); (try clear hcz8_2); (try clear hcz8_3); (try clear hcz8_4); (try clear hcz8_5); (try clear hcz8_6); (try clear hcz8_7); (try clear hcz8_8); (try clear hcz8_9); (try clear hcz8_10); (try clear hcz8_11); (try clear hfz8_0); (try clear hfz8_1); (try clear hfz8_2); (try clear hfz8_3); (try clear hfz8_4); (try clear hfz8_5); (try clear hfz8_6); (try clear hfz8_7); (try clear hfz8_8); (try clear hfz8_9); (try clear hfz8_10); (try clear hfz8_11)))
 go_loopg [3] k (fun kq v3 w' => ∃ (x3_1 : Int), v3 = .int .i64 x3_1 ∧ Aside0 (quilllaw16_MoveGoes.l0 kq x3_1 l0_0 a0_1 a0_2 a0_3 a0_4 a0_5 a0_6 a0_7 l0_8 a0_9 a0_10 l0_11 = some r) ∧ Aside0 (kq ≤ k) ∧ Aside0 (w'.heap[gb623]? = some (.cells #[(.slice A0_0 l0_0.length c0_0), .int .i64 a0_1, .int .i64 a0_2, .int .i64 a0_3, .int .i64 a0_4, .int .i64 a0_5, .int .i64 a0_6, .int .i64 a0_7, (.slice A0_8 l0_8.length c0_8), .int .i64 a0_9, .int .i64 a0_10, (.slice A0_11 l0_11.length c0_11)] 34 (0, 0))) ∧ Aside0 (Below w.heap.size w w'))
 case atStart => exact ⟨(0), r3_, H, ⟨Nat.le_refl _⟩, ⟨BK623.out⟩, ⟨bl_⟩⟩
 case round =>
  clear H
  try clear hcz8_0
  try clear hcz8_1
  try clear hcz8_10
  try clear hcz8_11
  try clear hcz8_2
  try clear hcz8_3
  try clear hcz8_4
  try clear hcz8_5
  try clear hcz8_6
  try clear hcz8_7
  try clear hcz8_8
  try clear hcz8_9
  try clear hfz8_0
  try clear hfz8_1
  try clear hfz8_10
  try clear hfz8_11
  try clear hfz8_2
  try clear hfz8_3
  try clear hfz8_4
  try clear hfz8_5
  try clear hfz8_6
  try clear hfz8_7
  try clear hfz8_8
  try clear hfz8_9
  obtain ⟨x3_1, rfl, HA, HK1, BK623, HB⟩ := hrel
  cases gk with
  | zero => exact absurd HA.out (by simp [quilllaw16_MoveGoes.l0])
  | succ k1 =>
   obtain ⟨H⟩ := HA; simp only [quilllaw16_MoveGoes.l0] at H; have HC10 := Aside0.mk H; clear H
   go_upto_region 4 with (fail)
   go_cut [21] (fun v21 wc => ∃ (kq : Nat) (x21_9 : Bool), v21 = .bool x21_9 ∧ Aside0 (quilllaw16_MoveGoes.j1 kq x3_1 x21_9 l0_0 a0_1 a0_2 a0_3 a0_4 a0_5 a0_6 a0_7 l0_8 a0_9 a0_10 l0_11 = some r) ∧ Aside0 (kq ≤ k1) ∧ Aside0 (wc.heap[gb623]? = some (.cells #[(.slice A0_0 l0_0.length c0_0), .int .i64 a0_1, .int .i64 a0_2, .int .i64 a0_3, .int .i64 a0_4, .int .i64 a0_5, .int .i64 a0_6, .int .i64 a0_7, (.slice A0_8 l0_8.length c0_8), .int .i64 a0_9, .int .i64 a0_10, (.slice A0_11 l0_11.length c0_11)] 34 (0, 0))) ∧ Aside0 (Below w.heap.size w wc))
   case first =>
    obtain ⟨H⟩ := HC10; replace H := nfd H; obtain ⟨c11b0, H⟩ | ⟨c11b0, H⟩ := H
    ·
     (first | rw [c11b0] | (simp only [i64_w, i32_w]; rw [c11b0]) | skip); replace H := Aside0.mk H; have hcz13_0 := cz0 BK623.out; have hcz13_1 := cz1 BK623.out; have hcz13_2 := cz2 BK623.out; have hcz13_3 := cz3 BK623.out; have hcz13_4 := cz4 BK623.out; have hcz13_5 := cz5 BK623.out; have hcz13_6 := cz6 BK623.out; have hcz13_7 := cz7 BK623.out; have hcz13_8 := cz8 BK623.out; have hcz13_9 := cz9 BK623.out
     have hcz13_10 := cz10 BK623.out; have hcz13_11 := cz11 BK623.out; have hfz13_0 := blk_frozen BK623.out 0; have hfz13_1 := blk_frozen BK623.out 1; have hfz13_2 := blk_frozen BK623.out 2; have hfz13_3 := blk_frozen BK623.out 3; have hfz13_4 := blk_frozen BK623.out 4; have hfz13_5 := blk_frozen BK623.out 5; have hfz13_6 := blk_frozen BK623.out 6; have hfz13_7 := blk_frozen BK623.out 7; have hfz13_8 := blk_frozen BK623.out 8
     have hfz13_9 := blk_frozen BK623.out 9; have hfz13_10 := blk_frozen BK623.out 10; have hfz13_11 := blk_frozen BK623.out 11; go_wp2; go_meet
     case rel => exact ⟨_, (false), r3_, H, ⟨by have := HK1.out; first | omega | exact Nat.le_refl _⟩, ⟨BK623.out⟩, ⟨bl_⟩⟩
    (first | rw [c11b0] | (simp only [i64_w, i32_w]; rw [c11b0]) | skip); replace H := Aside0.mk H; have hcz12_0 := cz0 BK623.out; have hcz12_1 := cz1 BK623.out; have hcz12_2 := cz2 BK623.out; have hcz12_3 := cz3 BK623.out; have hcz12_4 := cz4 BK623.out; have hcz12_5 := cz5 BK623.out; have hcz12_6 := cz6 BK623.out; have hcz12_7 := cz7 BK623.out; have hcz12_8 := cz8 BK623.out; have hcz12_9 := cz9 BK623.out
    have hcz12_10 := cz10 BK623.out; have hcz12_11 := cz11 BK623.out; have hfz12_0 := blk_frozen BK623.out 0; have hfz12_1 := blk_frozen BK623.out 1; have hfz12_2 := blk_frozen BK623.out 2; have hfz12_3 := blk_frozen BK623.out 3; have hfz12_4 := blk_frozen BK623.out 4; have hfz12_5 := blk_frozen BK623.out 5; have hfz12_6 := blk_frozen BK623.out 6; have hfz12_7 := blk_frozen BK623.out 7; have hfz12_8 := blk_frozen BK623.out 8
    have hfz12_9 := blk_frozen BK623.out 9; have hfz12_10 := blk_frozen BK623.out 10; have hfz12_11 := blk_frozen BK623.out 11; go_wp2; go_meet
    case rel => exact ⟨_, (decide (x3_1 < 3)), r3_, H, ⟨by have := HK1.out; first | omega | exact Nat.le_refl _⟩, ⟨BK623.out⟩, ⟨bl_⟩⟩
   case rest =>
    clear HC10
    try clear hcz8_0
    try clear hcz8_1
    try clear hcz8_10
    try clear hcz8_11
    try clear hcz8_2
    try clear hcz8_3
    try clear hcz8_4
    try clear hcz8_5
    try clear hcz8_6
    try clear hcz8_7
    try clear hcz8_8
    try clear hcz8_9
    try clear hfz8_0
    try clear hfz8_1
    try clear hfz8_10
    try clear hfz8_11
    try clear hfz8_2
    try clear hfz8_3
    try clear hfz8_4
    try clear hfz8_5
    try clear hfz8_6
    try clear hfz8_7
    try clear hfz8_8
    try clear hfz8_9
    obtain ⟨kq, x21_9, rfl, HA, HJ9, BK623, HB⟩ := hcut
    cases kq with
    | zero => exact absurd HA.out (by simp [quilllaw16_MoveGoes.j1])
    | succ kj9 =>
     obtain ⟨H⟩ := HA; simp only [quilllaw16_MoveGoes.j1] at H; replace H := nfb H; obtain ⟨rfl, H⟩ | ⟨rfl, H⟩ := H
     ·
      replace H := bindA H; obtain ⟨t625, A44, H⟩ := H; (try dsimp only at H); obtain rfl := Option.some.inj H
      go_wp2_with (first | ((with_reducible refine gC 17 rfl ?_); refine goesL1 (some 75) Tryd.func17 #[] rfl (map0) ?_; (with_reducible refine (quilllaw16_wakes.calls ?side1 A44.out).mono ?_); (case side1 => exact Tabs.below HT.out bl_); rintro e w45 ⟨rfl, hb⟩; refine ⟨_, rfl, ?_⟩; replace BK623 := blB hb BK623; replace HB := hB hb; (try clear hb)))
      go_ret
      exact ⟨rr_, bl_⟩
     replace H := ifq H; obtain ⟨c15b0, c16b0, H⟩ := H
     by_cases c17 : (rdOf ByteArray.empty l0_0 x3_1).size ≤ 70368744177664
     rotate_left
     ·
      rw [if_neg c17] at H
      exact absurd H (by simp)
     rw [if_pos c17] at H; have c17b0 := eq_true c17; have c17b1 := decide_eq_true c17; clear c17; obtain ⟨y627, hy627⟩ : ∃ y_ : List Int, y_ = (runesOf (rdOf ByteArray.empty l0_0 x3_1)) := ⟨_, rfl⟩
     replace H : ((quilllaw10_Offsets.f kj9 l0_0 a0_1 a0_2 a0_3 a0_4 a0_5 a0_6 a0_7 y627).bind fun t630 => (quilllaw16_MoveGoes.l1 kj9 x3_1 (rdOf ByteArray.empty l0_0 x3_1) y627 t630 0 l0_0 a0_1 a0_2 a0_3 a0_4 a0_5 a0_6 a0_7 l0_8 a0_9 a0_10 l0_11)) = some r := by first | (rw [hy627]; with_reducible exact H) | (have H2_ := (Option.bind_some _ _).symm.trans H; rw [hy627]; with_reducible exact H2_) | (have H2_ := (Option.bind_some _ _).symm.trans H; with_reducible exact H2_) | with_reducible exact H | (rw [hy627]; exact H) | exact H
     have Ny627 := Aside0.mk hy627; clear hy627; replace H := bindA H; obtain ⟨t630, A18, H⟩ := H; (try dsimp only at H); replace H := Aside0.mk H; have hcz19_0 := cz0 BK623.out; have hcz19_1 := cz1 BK623.out; have hcz19_2 := cz2 BK623.out; have hcz19_3 := cz3 BK623.out; have hcz19_4 := cz4 BK623.out; have hcz19_5 := cz5 BK623.out; have hcz19_6 := cz6 BK623.out; have hcz19_7 := cz7 BK623.out; have hcz19_8 := cz8 BK623.out
     have hcz19_9 := cz9 BK623.out; have hcz19_10 := cz10 BK623.out; have hcz19_11 := cz11 BK623.out; have hfz19_0 := blk_frozen BK623.out 0; have hfz19_1 := blk_frozen BK623.out 1; have hfz19_2 := blk_frozen BK623.out 2; have hfz19_3 := blk_frozen BK623.out 3; have hfz19_4 := blk_frozen BK623.out 4; have hfz19_5 := blk_frozen BK623.out 5; have hfz19_6 := blk_frozen BK623.out 6; have hfz19_7 := blk_frozen BK623.out 7
     have hfz19_8 := blk_frozen BK623.out 8; have hfz19_9 := blk_frozen BK623.out 9; have hfz19_10 := blk_frozen BK623.out 10; have hfz19_11 := blk_frozen BK623.out 11; obtain ⟨p626, q626, ad626, e626, hx626_0⟩ := ix_ (Kd.at_string HR0_0.out x3_1); cases e626; replace hx626_0 := hb_ HB hx626_0
     go_wp2_with (first | ((with_reducible refine gN 32 rfl ?_); refine R_runes (ok := fun _ => True) _ 21 rfl (N := 32) rfl 9 36 (.tmp 31) rfl (rdOf ByteArray.empty l0_0 x3_1) rfl Tryd.underlying9 Tryd.underlying36 Tryd.underlying21 (of_decide_eq_true (by assumption)) (fun _ _ => trivial) (Below.refl _ _) (Nat.le_refl _) ?_; intro v628 w20 ho21 hb hg_ hnew_; clear hg_ hnew_; (first | rw [← Ny627.out] at ho21 | (simp only [Int.reduceToNat] at ho21; rw [← Ny627.out] at ho21)); have HO629 := oL ho21; replace BK623 := blB hb BK623; replace HB := hB hb; clear hb ho21; have hcz22_0 := cz0 BK623.out; have hcz22_1 := cz1 BK623.out; have hcz22_2 := cz2 BK623.out; have hcz22_3 := cz3 BK623.out; have hcz22_4 := cz4 BK623.out; have hcz22_5 := cz5 BK623.out; have hcz22_6 := cz6 BK623.out; have hcz22_7 := cz7 BK623.out; have hcz22_8 := cz8 BK623.out; have hcz22_9 := cz9 BK623.out; have hcz22_10 := cz10 BK623.out; have hcz22_11 := cz11 BK623.out; have hfz22_0 := blk_frozen BK623.out 0; have hfz22_1 := blk_frozen BK623.out 1; have hfz22_2 := blk_frozen BK623.out 2; have hfz22_3 := blk_frozen BK623.out 3; have hfz22_4 := blk_frozen BK623.out 4; have hfz22_5 := blk_frozen BK623.out 5; have hfz22_6 := blk_frozen BK623.out 6; have hfz22_7 := blk_frozen BK623.out 7; have hfz22_8 := blk_frozen BK623.out 8; have hfz22_9 := blk_frozen BK623.out 9; have hfz22_10 := blk_frozen BK623.out 10; have hfz22_11 := blk_frozen BK623.out 11; obtain ⟨Ao23, co23, eo23⟩ := Kd.R_slice HO629.out; subst eo23) | ((with_reducible refine gC 8 rfl ?_); refine goesL1 (some 36) Tryd.func8 #[.agg #[.slice (some ad626) l0_0.length c0_0, .int .i64 a0_1, .int .i64 a0_2, .int .i64 a0_3, .int .i64 a0_4, .int .i64 a0_5, .int .i64 a0_6, .int .i64 a0_7], .slice Ao23 y627.length co23] rfl (map2 rfl rfl) ?_; refine cm_ (quilllaw10_Offsets.calls sd_ sd_ sd_ sd_ A18.out) ?_; rintro e w24 ⟨v631, rfl, ho0, hb⟩; refine ⟨_, rfl, ?_⟩; have HO632 := oL ho0; replace HO629 := Aside0.mk (Kd.R_below (ro_ HO629) hb); replace BK623 := blB hb BK623; replace HB := hB hb; (try clear hb); (try clear ho0); (try clear hcz22_0); (try clear hcz22_1); (try clear hcz22_2); (try clear hcz22_3); (try clear hcz22_4); (try clear hcz22_5); (try clear hcz22_6); (try clear hcz22_7); (try clear hcz22_8); (try clear hcz22_9); (try clear hcz22_10); (try clear hcz22_11); (try clear hfz22_0); (try clear hfz22_1); (try clear hfz22_2); (try clear hfz22_3); (try clear hfz22_4); (try clear hfz22_5); (try clear hfz22_6); (try clear hfz22_7); (try clear hfz22_8); (try clear hfz22_9); (try clear hfz22_10); (try clear hfz22_11)))
     go_loopg [7] kj9 (fun kq v7 w' => ∃ (x7_3 : Int), v7 = .int .i64 x7_3 ∧ Aside0 (quilllaw16_MoveGoes.l1 kq x3_1 (rdOf ByteArray.empty l0_0 x3_1) y627 t630 x7_3 l0_0 a0_1 a0_2 a0_3 a0_4 a0_5 a0_6 a0_7 l0_8 a0_9 a0_10 l0_11 = some r) ∧ Aside0 (kq ≤ kj9) ∧ Aside0 (Kd.R (Kd.int .i32) 21 w' w.heap.size (fun _ => True) (.slice Ao23 y627.length co23) y627) ∧ Aside0 (Kd.R (Kd.int .i64) 3 w' w.heap.size (fun _ => True) v631 t630) ∧ Aside0 (w'.heap[gb623]? = some (.cells #[(.slice (some ad626) l0_0.length c0_0), .int .i64 a0_1, .int .i64 a0_2, .int .i64 a0_3, .int .i64 a0_4, .int .i64 a0_5, .int .i64 a0_6, .int .i64 a0_7, (.slice A0_8 l0_8.length c0_8), .int .i64 a0_9, .int .i64 a0_10, (.slice A0_11 l0_11.length c0_11)] 34 (0, 0))) ∧ Aside0 (Below w.heap.size w w'))
     case atStart => exact ⟨(0), r3_, H, ⟨Nat.le_refl _⟩, ⟨ro_ HO629⟩, ⟨ro_ HO632⟩, ⟨BK623.out⟩, ⟨bl_⟩⟩
     case round =>
      clear H
      try clear c15b0
      try clear c16b0
      try clear c17
      try clear c17b0
      try clear c17b1
      try clear hcz19_0
      try clear hcz19_1
      try clear hcz19_10
      try clear hcz19_11
      try clear hcz19_2
      try clear hcz19_3
      try clear hcz19_4
      try clear hcz19_5
      try clear hcz19_6
      try clear hcz19_7
      try clear hcz19_8
      try clear hcz19_9
      try clear hcz22_0
      try clear hcz22_1
      try clear hcz22_10
      try clear hcz22_11
      try clear hcz22_2
      try clear hcz22_3
      try clear hcz22_4
      try clear hcz22_5
      try clear hcz22_6
      try clear hcz22_7
      try clear hcz22_8
      try clear hcz22_9
      try clear hcz8_0
      try clear hcz8_1
      try clear hcz8_10
      try clear hcz8_11
      try clear hcz8_2
      try clear hcz8_3
      try clear hcz8_4
      try clear hcz8_5
      try clear hcz8_6
      try clear hcz8_7
      try clear hcz8_8
      try clear hcz8_9
      try clear hfz19_0
      try clear hfz19_1
      try clear hfz19_10
      try clear hfz19_11
      try clear hfz19_2
      try clear hfz19_3
      try clear hfz19_4
      try clear hfz19_5
      try clear hfz19_6
      try clear hfz19_7
      try clear hfz19_8
      try clear hfz19_9
      try clear hfz22_0
      try clear hfz22_1
      try clear hfz22_10
      try clear hfz22_11
      try clear hfz22_2
      try clear hfz22_3
      try clear hfz22_4
      try clear hfz22_5
      try clear hfz22_6
      try clear hfz22_7
      try clear hfz22_8
      try clear hfz22_9
      try clear hfz8_0
      try clear hfz8_1
      try clear hfz8_10
      try clear hfz8_11
      try clear hfz8_2
      try clear hfz8_3
      try clear hfz8_4
      try clear hfz8_5
      try clear hfz8_6
      try clear hfz8_7
      try clear hfz8_8
      try clear hfz8_9
      try clear hx626_0
      try clear p626
      try clear q626
      obtain ⟨x7_3, rfl, HA, HK3, HO_5, HO_6, BK623, HB⟩ := hrel
      cases gk with
      | zero => exact absurd HA.out (by simp [quilllaw16_MoveGoes.l1])
      | succ k3 =>
       obtain ⟨H⟩ := HA; simp only [quilllaw16_MoveGoes.l1] at H; have HC25 := Aside0.mk H; clear H
       go_upto_region 10 with (fail)
       go_cut [44] (fun v44 wc => ∃ (kq : Nat) (x44_24 : Bool), v44 = .bool x44_24 ∧ Aside0 (quilllaw16_MoveGoes.j3 kq x3_1 (rdOf ByteArray.empty l0_0 x3_1) y627 t630 x7_3 x44_24 l0_0 a0_1 a0_2 a0_3 a0_4 a0_5 a0_6 a0_7 l0_8 a0_9 a0_10 l0_11 = some r) ∧ Aside0 (kq ≤ k3) ∧ Aside0 (Kd.R (Kd.int .i32) 21 wc w.heap.size (fun _ => True) (.slice Ao23 y627.length co23) y627) ∧ Aside0 (Kd.R (Kd.int .i64) 3 wc w.heap.size (fun _ => True) v631 t630) ∧ Aside0 (wc.heap[gb623]? = some (.cells #[(.slice (some ad626) l0_0.length c0_0), .int .i64 a0_1, .int .i64 a0_2, .int .i64 a0_3, .int .i64 a0_4, .int .i64 a0_5, .int .i64 a0_6, .int .i64 a0_7, (.slice A0_8 l0_8.length c0_8), .int .i64 a0_9, .int .i64 a0_10, (.slice A0_11 l0_11.length c0_11)] 34 (0, 0))) ∧ Aside0 (Below w.heap.size w wc))
       case first =>
        obtain ⟨H⟩ := HC25; replace H := nfd H; obtain ⟨c26b0, H⟩ | ⟨c26b0, H⟩ := H
        ·
         (first | rw [c26b0] | (simp only [i64_w, i32_w]; rw [c26b0]) | skip); replace H := Aside0.mk H; obtain ⟨Ao28, co28, eo28⟩ := Kd.R_slice HO_6.out; subst eo28; go_wp2; go_meet
         case rel => exact ⟨_, (false), r3_, H, ⟨by have := HK1.out; have := HJ9.out; have := HK3.out; first | omega | exact Nat.le_refl _⟩, ⟨ro_ HO_5⟩, ⟨ro_ HO_6⟩, ⟨BK623.out⟩, ⟨bl_⟩⟩
        (first | rw [c26b0] | (simp only [i64_w, i32_w]; rw [c26b0]) | skip); replace H := Aside0.mk H; obtain ⟨Ao27, co27, eo27⟩ := Kd.R_slice HO_6.out; subst eo27; go_wp2; go_meet
        case rel => exact ⟨_, (decide (x7_3 < 8)), r3_, H, ⟨by have := HK1.out; have := HJ9.out; have := HK3.out; first | omega | exact Nat.le_refl _⟩, ⟨ro_ HO_5⟩, ⟨ro_ HO_6⟩, ⟨BK623.out⟩, ⟨bl_⟩⟩
       case rest =>
        clear HC25
        try clear c15b0
        try clear c16b0
        try clear c17
        try clear c17b0
        try clear c17b1
        try clear hcz19_0
        try clear hcz19_1
        try clear hcz19_10
        try clear hcz19_11
        try clear hcz19_2
        try clear hcz19_3
        try clear hcz19_4
        try clear hcz19_5
        try clear hcz19_6
        try clear hcz19_7
        try clear hcz19_8
        try clear hcz19_9
        try clear hcz22_0
        try clear hcz22_1
        try clear hcz22_10
        try clear hcz22_11
        try clear hcz22_2
        try clear hcz22_3
        try clear hcz22_4
        try clear hcz22_5
        try clear hcz22_6
        try clear hcz22_7
        try clear hcz22_8
        try clear hcz22_9
        try clear hcz8_0
        try clear hcz8_1
        try clear hcz8_10
        try clear hcz8_11
        try clear hcz8_2
        try clear hcz8_3
        try clear hcz8_4
        try clear hcz8_5
        try clear hcz8_6
        try clear hcz8_7
        try clear hcz8_8
        try clear hcz8_9
        try clear hfz19_0
        try clear hfz19_1
        try clear hfz19_10
        try clear hfz19_11
        try clear hfz19_2
        try clear hfz19_3
        try clear hfz19_4
        try clear hfz19_5
        try clear hfz19_6
        try clear hfz19_7
        try clear hfz19_8
        try clear hfz19_9
        try clear hfz22_0
        try clear hfz22_1
        try clear hfz22_10
        try clear hfz22_11
        try clear hfz22_2
        try clear hfz22_3
        try clear hfz22_4
        try clear hfz22_5
        try clear hfz22_6
        try clear hfz22_7
        try clear hfz22_8
        try clear hfz22_9
        try clear hfz8_0
        try clear hfz8_1
        try clear hfz8_10
        try clear hfz8_11
        try clear hfz8_2
        try clear hfz8_3
        try clear hfz8_4
        try clear hfz8_5
        try clear hfz8_6
        try clear hfz8_7
        try clear hfz8_8
        try clear hfz8_9
        try clear hx626_0
        try clear p626
        try clear q626
        obtain ⟨kq, x44_24, rfl, HA, HJ24, HO_5, HO_6, BK623, HB⟩ := hcut
        cases kq with
        | zero => exact absurd HA.out (by simp [quilllaw16_MoveGoes.j3])
        | succ kj24 =>
         obtain ⟨H⟩ := HA; simp only [quilllaw16_MoveGoes.j3] at H; replace H := nfb H; obtain ⟨rfl, H⟩ | ⟨rfl, H⟩ := H
         ·
          replace H := Aside0.mk H; go_wp2
          go_roundg kj24
          case measure => have := HK1.out; have := HJ9.out; have := HK3.out; have := HJ24.out; omega
          case rel => exact ⟨(wrap64 (x3_1 + 1)), r3_, H, ⟨by have := HK1.out; have := HJ9.out; have := HK3.out; have := HJ24.out; omega⟩, ⟨BK623.out⟩, ⟨bl_⟩⟩
         replace H := Aside0.mk H; go_wp2
         go_loopg [8] kj24 (fun kq v8 w' => ∃ (x8_5 : Int), v8 = .int .i64 x8_5 ∧ Aside0 (quilllaw16_MoveGoes.l2 kq x3_1 (rdOf ByteArray.empty l0_0 x3_1) y627 t630 x7_3 x8_5 l0_0 a0_1 a0_2 a0_3 a0_4 a0_5 a0_6 a0_7 l0_8 a0_9 a0_10 l0_11 = some r) ∧ Aside0 (kq ≤ kj24) ∧ Aside0 (Kd.R (Kd.int .i32) 21 w' w.heap.size (fun _ => True) (.slice Ao23 y627.length co23) y627) ∧ Aside0 (Kd.R (Kd.int .i64) 3 w' w.heap.size (fun _ => True) v631 t630) ∧ Aside0 (w'.heap[gb623]? = some (.cells #[(.slice (some ad626) l0_0.length c0_0), .int .i64 a0_1, .int .i64 a0_2, .int .i64 a0_3, .int .i64 a0_4, .int .i64 a0_5, .int .i64 a0_6, .int .i64 a0_7, (.slice A0_8 l0_8.length c0_8), .int .i64 a0_9, .int .i64 a0_10, (.slice A0_11 l0_11.length c0_11)] 34 (0, 0))) ∧ Aside0 (Below w.heap.size w w'))
         case atStart => exact ⟨(0), r3_, H, ⟨Nat.le_refl _⟩, ⟨ro_ HO_5⟩, ⟨ro_ HO_6⟩, ⟨BK623.out⟩, ⟨bl_⟩⟩
         case round =>
          clear H
          try clear c15b0
          try clear c16b0
          try clear c17
          try clear c17b0
          try clear c17b1
          try clear hcz19_0
          try clear hcz19_1
          try clear hcz19_10
          try clear hcz19_11
          try clear hcz19_2
          try clear hcz19_3
          try clear hcz19_4
          try clear hcz19_5
          try clear hcz19_6
          try clear hcz19_7
          try clear hcz19_8
          try clear hcz19_9
          try clear hcz22_0
          try clear hcz22_1
          try clear hcz22_10
          try clear hcz22_11
          try clear hcz22_2
          try clear hcz22_3
          try clear hcz22_4
          try clear hcz22_5
          try clear hcz22_6
          try clear hcz22_7
          try clear hcz22_8
          try clear hcz22_9
          try clear hcz8_0
          try clear hcz8_1
          try clear hcz8_10
          try clear hcz8_11
          try clear hcz8_2
          try clear hcz8_3
          try clear hcz8_4
          try clear hcz8_5
          try clear hcz8_6
          try clear hcz8_7
          try clear hcz8_8
          try clear hcz8_9
          try clear hfz19_0
          try clear hfz19_1
          try clear hfz19_10
          try clear hfz19_11
          try clear hfz19_2
          try clear hfz19_3
          try clear hfz19_4
          try clear hfz19_5
          try clear hfz19_6
          try clear hfz19_7
          try clear hfz19_8
          try clear hfz19_9
          try clear hfz22_0
          try clear hfz22_1
          try clear hfz22_10
          try clear hfz22_11
          try clear hfz22_2
          try clear hfz22_3
          try clear hfz22_4
          try clear hfz22_5
          try clear hfz22_6
          try clear hfz22_7
          try clear hfz22_8
          try clear hfz22_9
          try clear hfz8_0
          try clear hfz8_1
          try clear hfz8_10
          try clear hfz8_11
          try clear hfz8_2
          try clear hfz8_3
          try clear hfz8_4
          try clear hfz8_5
          try clear hfz8_6
          try clear hfz8_7
          try clear hfz8_8
          try clear hfz8_9
          try clear hx626_0
          try clear p626
          try clear q626
          obtain ⟨x8_5, rfl, HA, HK5, HO_5, HO_6, BK623, HB⟩ := hrel
          cases gk with
          | zero => exact absurd HA.out (by simp [quilllaw16_MoveGoes.l2])
          | succ k5 =>
           obtain ⟨H⟩ := HA; simp only [quilllaw16_MoveGoes.l2] at H; have HC30 := Aside0.mk H; clear H
           go_upto_region 13 with (fail)
           go_cut [55] (fun v55 wc => ∃ (kq : Nat) (x55_29 : Bool), v55 = .bool x55_29 ∧ Aside0 (quilllaw16_MoveGoes.j5 kq x3_1 (rdOf ByteArray.empty l0_0 x3_1) y627 t630 x7_3 x8_5 x55_29 l0_0 a0_1 a0_2 a0_3 a0_4 a0_5 a0_6 a0_7 l0_8 a0_9 a0_10 l0_11 = some r) ∧ Aside0 (kq ≤ k5) ∧ Aside0 (Kd.R (Kd.int .i32) 21 wc w.heap.size (fun _ => True) (.slice Ao23 y627.length co23) y627) ∧ Aside0 (Kd.R (Kd.int .i64) 3 wc w.heap.size (fun _ => True) v631 t630) ∧ Aside0 (wc.heap[gb623]? = some (.cells #[(.slice (some ad626) l0_0.length c0_0), .int .i64 a0_1, .int .i64 a0_2, .int .i64 a0_3, .int .i64 a0_4, .int .i64 a0_5, .int .i64 a0_6, .int .i64 a0_7, (.slice A0_8 l0_8.length c0_8), .int .i64 a0_9, .int .i64 a0_10, (.slice A0_11 l0_11.length c0_11)] 34 (0, 0))) ∧ Aside0 (Below w.heap.size w wc))
           case first =>
            obtain ⟨H⟩ := HC30; replace H := nfd H; obtain ⟨c31b0, H⟩ | ⟨c31b0, H⟩ := H
            ·
             (first | rw [c31b0] | (simp only [i64_w, i32_w]; rw [c31b0]) | skip); replace H := Aside0.mk H; have hcz33_0 := cz0 BK623.out; have hcz33_1 := cz1 BK623.out; have hcz33_2 := cz2 BK623.out; have hcz33_3 := cz3 BK623.out; have hcz33_4 := cz4 BK623.out; have hcz33_5 := cz5 BK623.out; have hcz33_6 := cz6 BK623.out; have hcz33_7 := cz7 BK623.out; have hcz33_8 := cz8 BK623.out; have hcz33_9 := cz9 BK623.out
             have hcz33_10 := cz10 BK623.out; have hcz33_11 := cz11 BK623.out; have hfz33_0 := blk_frozen BK623.out 0; have hfz33_1 := blk_frozen BK623.out 1; have hfz33_2 := blk_frozen BK623.out 2; have hfz33_3 := blk_frozen BK623.out 3; have hfz33_4 := blk_frozen BK623.out 4; have hfz33_5 := blk_frozen BK623.out 5; have hfz33_6 := blk_frozen BK623.out 6; have hfz33_7 := blk_frozen BK623.out 7; have hfz33_8 := blk_frozen BK623.out 8
             have hfz33_9 := blk_frozen BK623.out 9; have hfz33_10 := blk_frozen BK623.out 10; have hfz33_11 := blk_frozen BK623.out 11; go_wp2; go_meet
             case rel => exact ⟨_, (false), r3_, H, ⟨by have := HK1.out; have := HJ9.out; have := HK3.out; have := HJ24.out; have := HK5.out; first | omega | exact Nat.le_refl _⟩, ⟨ro_ HO_5⟩, ⟨ro_ HO_6⟩, ⟨BK623.out⟩, ⟨bl_⟩⟩
            (first | rw [c31b0] | (simp only [i64_w, i32_w]; rw [c31b0]) | skip); replace H := Aside0.mk H; have hcz32_0 := cz0 BK623.out; have hcz32_1 := cz1 BK623.out; have hcz32_2 := cz2 BK623.out; have hcz32_3 := cz3 BK623.out; have hcz32_4 := cz4 BK623.out; have hcz32_5 := cz5 BK623.out; have hcz32_6 := cz6 BK623.out; have hcz32_7 := cz7 BK623.out; have hcz32_8 := cz8 BK623.out; have hcz32_9 := cz9 BK623.out
            have hcz32_10 := cz10 BK623.out; have hcz32_11 := cz11 BK623.out; have hfz32_0 := blk_frozen BK623.out 0; have hfz32_1 := blk_frozen BK623.out 1; have hfz32_2 := blk_frozen BK623.out 2; have hfz32_3 := blk_frozen BK623.out 3; have hfz32_4 := blk_frozen BK623.out 4; have hfz32_5 := blk_frozen BK623.out 5; have hfz32_6 := blk_frozen BK623.out 6; have hfz32_7 := blk_frozen BK623.out 7; have hfz32_8 := blk_frozen BK623.out 8
            have hfz32_9 := blk_frozen BK623.out 9; have hfz32_10 := blk_frozen BK623.out 10; have hfz32_11 := blk_frozen BK623.out 11; go_wp2; go_meet
            case rel => exact ⟨_, (decide (x8_5 < 12)), r3_, H, ⟨by have := HK1.out; have := HJ9.out; have := HK3.out; have := HJ24.out; have := HK5.out; first | omega | exact Nat.le_refl _⟩, ⟨ro_ HO_5⟩, ⟨ro_ HO_6⟩, ⟨BK623.out⟩, ⟨bl_⟩⟩
           case rest =>
            clear HC30
            try clear c15b0
            try clear c16b0
            try clear c17
            try clear c17b0
            try clear c17b1
            try clear hcz19_0
            try clear hcz19_1
            try clear hcz19_10
            try clear hcz19_11
            try clear hcz19_2
            try clear hcz19_3
            try clear hcz19_4
            try clear hcz19_5
            try clear hcz19_6
            try clear hcz19_7
            try clear hcz19_8
            try clear hcz19_9
            try clear hcz22_0
            try clear hcz22_1
            try clear hcz22_10
            try clear hcz22_11
            try clear hcz22_2
            try clear hcz22_3
            try clear hcz22_4
            try clear hcz22_5
            try clear hcz22_6
            try clear hcz22_7
            try clear hcz22_8
            try clear hcz22_9
            try clear hcz8_0
            try clear hcz8_1
            try clear hcz8_10
            try clear hcz8_11
            try clear hcz8_2
            try clear hcz8_3
            try clear hcz8_4
            try clear hcz8_5
            try clear hcz8_6
            try clear hcz8_7
            try clear hcz8_8
            try clear hcz8_9
            try clear hfz19_0
            try clear hfz19_1
            try clear hfz19_10
            try clear hfz19_11
            try clear hfz19_2
            try clear hfz19_3
            try clear hfz19_4
            try clear hfz19_5
            try clear hfz19_6
            try clear hfz19_7
            try clear hfz19_8
            try clear hfz19_9
            try clear hfz22_0
            try clear hfz22_1
            try clear hfz22_10
            try clear hfz22_11
            try clear hfz22_2
            try clear hfz22_3
            try clear hfz22_4
            try clear hfz22_5
            try clear hfz22_6
            try clear hfz22_7
            try clear hfz22_8
            try clear hfz22_9
            try clear hfz8_0
            try clear hfz8_1
            try clear hfz8_10
            try clear hfz8_11
            try clear hfz8_2
            try clear hfz8_3
            try clear hfz8_4
            try clear hfz8_5
            try clear hfz8_6
            try clear hfz8_7
            try clear hfz8_8
            try clear hfz8_9
            try clear hx626_0
            try clear p626
            try clear q626
            obtain ⟨kq, x55_29, rfl, HA, HJ29, HO_5, HO_6, BK623, HB⟩ := hcut
            cases kq with
            | zero => exact absurd HA.out (by simp [quilllaw16_MoveGoes.j5])
            | succ kj29 =>
             obtain ⟨H⟩ := HA; simp only [quilllaw16_MoveGoes.j5] at H; replace H := nfb H; obtain ⟨rfl, H⟩ | ⟨rfl, H⟩ := H
             ·
              replace H := Aside0.mk H; go_wp2
              go_roundg kj29
              case measure => have := HK1.out; have := HJ9.out; have := HK3.out; have := HJ24.out; have := HK5.out; have := HJ29.out; omega
              case rel => exact ⟨(wrap64 (x7_3 + 1)), r3_, H, ⟨by have := HK1.out; have := HJ9.out; have := HK3.out; have := HJ24.out; have := HK5.out; have := HJ29.out; omega⟩, ⟨ro_ HO_5⟩, ⟨ro_ HO_6⟩, ⟨BK623.out⟩, ⟨bl_⟩⟩
             replace H := ifq H; obtain ⟨c35b0, c36b0, H⟩ := H; replace H := ifq H; obtain ⟨c37b0, c38b0, H⟩ := H; replace H := bindA H; obtain ⟨t635, A39, H⟩ := H; (try dsimp only at H)
             by_cases c40 : t635 = true
             rotate_left
             ·
              replace c40 := Bool.eq_false_iff.mpr c40; subst c40; replace H := ifF H
              exact absurd H (by simp)
             subst c40; replace H := ifT H; replace H := Aside0.mk H
             try go_wp2
             replace HO_5 := Aside0.mk (Kd.R_drew HO_5.out); replace HO_6 := Aside0.mk (Kd.R_drew HO_6.out); replace BK623 := Aside0.mk (blk_drew BK623.out); replace HB := Aside0.mk (below_drew1 HB.out); obtain ⟨Ao42, co42, eo42⟩ := Kd.R_slice HO_6.out; (first | subst eo42 | (injection eo42 with f1_ f2_ f3_; have f4_ := f1_.symm; have f5_ := f3_.symm; clear f1_ f2_ f3_; subst f4_; subst f5_)); obtain ⟨p633, q633, ad633, e633, hx633_0⟩ := ix_ (Kd.at_int (Kd.R_reads' HO_6.out).2.2 x7_3)
             cases e633; obtain ⟨p634, q634, ad634, e634, hx634_0, hx634_1, hx634_2, hx634_3, hx634_4, hx634_5⟩ := ix_ (at_T52 HR0_8.out x8_5)
             have hw634_5 := hx634_5; have hw634_4 := hx634_4; have hw634_3 := hx634_3; have hw634_2 := hx634_2; have hw634_1 := hx634_1; have hw634_0 := hx634_0; cases e634; replace hx634_0 := hb_ HB hx634_0; replace hx634_1 := hb_ HB hx634_1; replace hx634_2 := hb_ HB hx634_2; replace hx634_3 := hb_ HB hx634_3; replace hx634_4 := hb_ HB hx634_4; replace hx634_5 := hb_ HB hx634_5
             refine start_ (n := 17) (S := fun w' => w'.cell? ⟨gb623, 0, none⟩ = some (.slice (some ad626) l0_0.length c0_0) ∧ w'.cell? ⟨gb623, 1, none⟩ = some (.int .i64 a0_1) ∧ w'.cell? ⟨gb623, 2, none⟩ = some (.int .i64 a0_2) ∧ w'.cell? ⟨gb623, 3, none⟩ = some (.int .i64 a0_3) ∧ w'.cell? ⟨gb623, 4, none⟩ = some (.int .i64 a0_4) ∧ w'.cell? ⟨gb623, 5, none⟩ = some (.int .i64 a0_5) ∧ w'.cell? ⟨gb623, 6, none⟩ = some (.int .i64 a0_6) ∧ w'.cell? ⟨gb623, 7, none⟩ = some (.int .i64 a0_7) ∧ w'.cell? ⟨gb623, 8, none⟩ = some (.slice (some ad634) l0_8.length c0_8) ∧ w'.cell? ⟨gb623, 9, none⟩ = some (.int .i64 a0_9) ∧ w'.cell? ⟨gb623, 10, none⟩ = some (.int .i64 a0_10) ∧ w'.cell? ⟨gb623, 11, none⟩ = some (.slice A0_11 l0_11.length c0_11) ∧ w'.cell? (ad633.add (x7_3).toNat) = some (.int .i64 (rd t630 x7_3)) ∧ w'.cell? (ad634.add ((x8_5).toNat * 6)) = some (.int .i64 ((rd_T52 l0_8 x8_5).f0)) ∧ w'.cell? ⟨(ad634.add ((x8_5).toNat * 6)).block, (ad634.add ((x8_5).toNat * 6)).off + 1, none⟩ = some (.int .i64 ((rd_T52 l0_8 x8_5).f1)) ∧ w'.cell? ⟨(ad634.add ((x8_5).toNat * 6)).block, (ad634.add ((x8_5).toNat * 6)).off + 2, none⟩ = some (.int .i64 ((rd_T52 l0_8 x8_5).f2)) ∧ w'.cell? ⟨(ad634.add ((x8_5).toNat * 6)).block, (ad634.add ((x8_5).toNat * 6)).off + 3, none⟩ = some (.int .i64 ((rd_T52 l0_8 x8_5).f3)) ∧ w'.cell? ⟨(ad634.add ((x8_5).toNat * 6)).block, (ad634.add ((x8_5).toNat * 6)).off + 4, none⟩ = some (.int .i64 ((rd_T52 l0_8 x8_5).f4)) ∧ w'.cell? ⟨(ad634.add ((x8_5).toNat * 6)).block, (ad634.add ((x8_5).toNat * 6)).off + 5, none⟩ = some (.int .i64 ((rd_T52 l0_8 x8_5).f5))) (ds := []) (lo 17 0) (by kernel_rfl) rfl rfl ⟨(blk_cell BK623.out 0).trans rfl, (blk_cell BK623.out 1).trans rfl, (blk_cell BK623.out 2).trans rfl, (blk_cell BK623.out 3).trans rfl, (blk_cell BK623.out 4).trans rfl, (blk_cell BK623.out 5).trans rfl, (blk_cell BK623.out 6).trans rfl, (blk_cell BK623.out 7).trans rfl, (blk_cell BK623.out 8).trans rfl, (blk_cell BK623.out 9).trans rfl, (blk_cell BK623.out 10).trans rfl, (blk_cell BK623.out 11).trans rfl, hx633_0, (hb_ HB hw634_0), (hb_ HB hw634_1), (hb_ HB hw634_2), (hb_ HB hw634_3), (hb_ HB hw634_4), (hb_ HB hw634_5)⟩ (fun hHeld => ?_); refine with_tabW quilllaw16_MoveGoes.tab15 quilllaw16_MoveGoes.bits15 (fun HT_ HW_ => ?_)
             generalize wc.drew = w41 at HO_5 HO_6 BK623 HB hx633_0 hx634_0 hx634_1 hx634_2 hx634_3 hx634_4 hx634_5 hHeld ⊢
             (iterate 5 refine pi ?_)
             refine pu 6 (bs 17 95) ?_; refine pu 8 (bs 17 351) ?_; refine pu 11 (bs 17 2399) ?_; refine pu 13 (bs 17 10591) ?_; refine tk 5 (bs 17 10623) hHeld ?_; refine tk 7 (bs 17 10751) hHeld ?_; refine pu 9 (bs 17 11263) ?_; refine tk 10 (bs 17 12287) hHeld ?_; refine tk 12 (bs 17 16383) hHeld ?_; refine tk 14 (bs 17 32767) hHeld ?_
             refine one_ (i := 15) (N := some 73) (bs 17 65535) rfl rfl (one_of HT_.out (by kernel_rfl)) (by decide) (fun K hK => ?_)
             refine goes_ Tryd.func16 (by kernel_rfl) rfl #[.string (rdOf ByteArray.empty l0_0 x3_1), .slice Ao23 y627.length co23, .int .i64 (rd t630 x7_3), .agg #[.int .i64 ((rd_T52 l0_8 x8_5).f0), .int .i64 ((rd_T52 l0_8 x8_5).f1), .int .i64 ((rd_T52 l0_8 x8_5).f2), .int .i64 ((rd_T52 l0_8 x8_5).f3), .int .i64 ((rd_T52 l0_8 x8_5).f4), .int .i64 ((rd_T52 l0_8 x8_5).f5)], .agg #[.int .i64 a0_9, .int .i64 a0_10], .slice A0_11 l0_11.length c0_11] (by rfl) rfl rfl (by (try simp only [List.map_toArray, List.map_cons, List.map_nil]); first | done | rfl | (simp only [List.length_drop, List.length_take]; rfl)) ?_
             refine cm_ (quilllaw16_one.calls sd_ sd_ sd_ sd_ sd_ A39.out) ?_
             rintro e w43 ⟨rfl, hb⟩
             have HS12_ := (hb.cell (World.block_lt_of_cell? _ _ (hHeld.2.2.2.2.2.2.2.2.2.2.2.2.1))).trans (hHeld.2.2.2.2.2.2.2.2.2.2.2.2.1); refine ⟨_, rfl, ?_⟩; replace HO_5 := Aside0.mk (Kd.R_below (ro_ HO_5) hb); replace HO_6 := Aside0.mk (Kd.R_below (ro_ HO_6) hb); replace BK623 := blB hb BK623; replace HB := hB hb; (try clear hb); (try clear hb2); (try clear hk); (try clear hi)
             refine hK.out _ _ ⟨cz0 BK623.out, cz1 BK623.out, cz2 BK623.out, cz3 BK623.out, cz4 BK623.out, cz5 BK623.out, cz6 BK623.out, cz7 BK623.out, cz8 BK623.out, cz9 BK623.out, cz10 BK623.out, cz11 BK623.out, HS12_, hb_ HB hw634_0, hb_ HB hw634_1, hb_ HB hw634_2, hb_ HB hw634_3, hb_ HB hw634_4, hb_ HB hw634_5⟩ (fun hHeld => ?_)
             clear hK K; refine nm1 73 ?_; refine pu 16 (bs 17 131071) ?_; refine done_ (done_of HT_.out (by kernel_rfl)) ?_
             try go_wp2
             go_roundg kj29
             case measure => have := HK1.out; have := HJ9.out; have := HK3.out; have := HJ24.out; have := HK5.out; have := HJ29.out; omega
             case rel => exact ⟨(wrap64 (x8_5 + 1)), r3_, H, ⟨by have := HK1.out; have := HJ9.out; have := HK3.out; have := HJ24.out; have := HK5.out; have := HJ29.out; omega⟩, ⟨ro_ HO_5⟩, ⟨ro_ HO_6⟩, ⟨BK623.out⟩, ⟨bl_⟩⟩

end Go.Proofs.YtbgmmcngkdhpcaaDoor.P
