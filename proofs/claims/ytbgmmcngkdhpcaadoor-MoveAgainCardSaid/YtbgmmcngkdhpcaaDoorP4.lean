/- The walks of the functions that these statements reach: each Go function as a plain Lean function, and the proof that its call comes to that. Written by the session's program wip/pp.py. -/
import Derived.Test.YtbgmmcngkdhpcaaDoorP0
namespace Go.Proofs.YtbgmmcngkdhpcaaDoor.P
open Go.Proofs.YtbgmmcngkdhpcaaDoor
open Go.RowKit Go.Proofs.YtbgmmcngkdhpcaaDoorW.PrintWords Go.Proofs.YtbgmmcngkdhpcaaDoorW.PrintLast Go.Proofs.YtbgmmcngkdhpcaaDoorW.PrintMore
attribute [local go_sem] cell_isSome max2_int min2_int max_two min_two max_three min_three max_four min_four   -- for this text's walks alone
set_option linter.unusedVariables false
set_option linter.unusedSimpArgs false
set_option maxHeartbeats 8000000
set_option maxRecDepth 100000

/-! ### quilllaw0_Texts: function 71 -/
def quilllaw0_Texts.l0 : Nat → List ByteArray → Int → Int → Option (Int)
  | 0, _, _, _ => none
  | k + 1, x0, x3, x4 => if x4 < (x0.length : Int) then (if x3 < 1048576 then (if 0 ≤ x4 then (quilllaw0_Texts.l0 k x0 (wrap64 (x3 + ((rdOf ByteArray.empty x0 x4).size : Int))) (wrap64 (x4 + 1))) else (none)) else (some x3)) else (some x3)
def quilllaw0_Texts.f (k : Nat) (l0 : List ByteArray) : Option (Int) := quilllaw0_Texts.l0 k l0 (l0.length : Int) 0
theorem quilllaw0_Texts.calls {k : Nat} {A0 : Option Addr} {c0 : Nat} {l0 : List ByteArray} {r : Int} {w : World} (hr0 : Kd.C Kd.string w A0 l0.length l0) (hc0 : l0.length ≤ c0) (H : quilllaw0_Texts.f k l0 = some r) :
  Calls Tryd.prog 71 #[.slice A0 l0.length c0] w fun e w' => e = .returned (.int .i64 r) ∧ Drawn0 w w' := by
 have HR0 := Aside0.mk hr0; have HC0 := Aside0.mk hc0; clear hr0 hc0; unfold quilllaw0_Texts.f at H; replace H := Aside0.mk H; go_enter Tryd.func71, Tryd.ntmps71
 go_wp2
 go_loopg [3, 4] k (fun kq v3 v4 w' => ∃ (x3_1 : Int) (x4_1 : Int), v3 = .int .i64 x3_1 ∧ v4 = .int .i64 x4_1 ∧ Aside0 (quilllaw0_Texts.l0 kq l0 x3_1 x4_1 = some r) ∧ Aside0 (kq ≤ k) ∧ Drawn0 w w')
 case atStart => exact ⟨((l0.length : Int)), (0), r3_, r3_, H, ⟨Nat.le_refl _⟩, dr_⟩
 case round =>
  clear H; obtain ⟨x3_1, x4_1, rfl, rfl, HA, HK1, ⟨m1, rfl⟩⟩ := hrel
  cases gk with
  | zero => exact absurd HA.out (by simp [quilllaw0_Texts.l0])
  | succ k1 =>
   obtain ⟨H⟩ := HA; simp only [quilllaw0_Texts.l0] at H; replace H := nfd H; obtain ⟨c2b0, H⟩ | ⟨c2b0, H⟩ := H
   ·
    obtain rfl := Option.some.inj H; go_wp2; go_ret
    exact ⟨r3_, dr_⟩
   replace H := nfd H; obtain ⟨c3b0, H⟩ | ⟨c3b0, H⟩ := H
   ·
    obtain rfl := Option.some.inj H; go_wp2; go_ret
    exact ⟨r3_, dr_⟩
   replace H := ifdn H; obtain ⟨c4b0, H⟩ := H; replace H := Aside0.mk H; obtain ⟨p101, q101, ad101, e101, hx101_0⟩ := ix_ (Kd.at_string HR0.out x4_1); cases e101; go_wp2
   go_roundg k1
   case measure => have := HK1.out; omega
   case rel => exact ⟨(wrap64 (x3_1 + ((rdOf ByteArray.empty l0 x4_1).size : Int))), (wrap64 (x4_1 + 1)), r3_, r3_, H, ⟨by have := HK1.out; omega⟩, dr_⟩

/-! ### quilllaw1_Heavy: function 47 -/
def quilllaw1_Heavy.f (k : Nat) (l0_0 : List ByteArray) (a0_1 : Int) (a0_2 : Int) (a0_3 : Int) (a0_4 : Int) : Option (Bool) := (quilllaw0_Texts.f k l0_0).bind fun t103 => (some (decide (t103 > 6000)))
theorem quilllaw1_Heavy.calls {k : Nat} {A0_0 : Option Addr} {c0_0 : Nat} {l0_0 : List ByteArray} {a0_1 : Int} {a0_2 : Int} {a0_3 : Int} {a0_4 : Int} {r : Bool} {w : World} (hr0_0 : Kd.C Kd.string w A0_0 l0_0.length l0_0) (hc0_0 : l0_0.length ≤ c0_0) (H : quilllaw1_Heavy.f k l0_0 a0_1 a0_2 a0_3 a0_4 = some r) :
  Calls Tryd.prog 47 #[.agg #[.slice A0_0 l0_0.length c0_0, .int .i64 a0_1, .int .i64 a0_2, .int .i64 a0_3, .int .i64 a0_4]] w fun e w' => e = .returned (.bool r) ∧ Below w.heap.size w w' := by
 have hu26 := Tryd.underlying26; have HR0_0 := Aside0.mk hr0_0; have HC0_0 := Aside0.mk hc0_0; clear hr0_0 hc0_0; have HB := Aside0.mk (Below.refl w.heap.size w); unfold quilllaw1_Heavy.f at H; replace H := bindA H; obtain ⟨t103, A2, H⟩ := H; (try dsimp only at H); obtain rfl := Option.some.inj H; go_enter Tryd.func47, Tryd.ntmps47
 go_wp2_with (first | ((with_reducible refine gN 1 rfl ?_); refine bx 1 #[.slice A0_0 l0_0.length c0_0, .int .i64 a0_1, .int .i64 a0_2, .int .i64 a0_3, .int .i64 a0_4] 26 ?_; intro gb102 hg w3 hbox hb; have BK102 := Aside0.mk hbox; have GW102 := gE hg; have GE102 := GW102; replace HB := hB hb; clear hb hbox hg; have hcz4_0 := cz0 BK102.out; have hcz4_1 := cz1 BK102.out; have hcz4_2 := cz2 BK102.out; have hcz4_3 := cz3 BK102.out; have hcz4_4 := cz4 BK102.out; have hfz4_0 := blk_frozen BK102.out 0; have hfz4_1 := blk_frozen BK102.out 1; have hfz4_2 := blk_frozen BK102.out 2; have hfz4_3 := blk_frozen BK102.out 3; have hfz4_4 := blk_frozen BK102.out 4) | ((with_reducible refine gC 71 rfl ?_); refine goesL1 (some 5) Tryd.func71 #[.slice A0_0 l0_0.length c0_0] rfl (map1 rfl) ?_; refine cm_ (quilllaw0_Texts.calls sd_ sd_ A2.out) ?_; rintro e w' ⟨rfl, nd, rfl⟩; refine ⟨_, rfl, ?_⟩))
 go_ret
 exact ⟨rr_, bl_⟩

/-! ### quilllaw10_Heavy: function 25 -/
def quilllaw10_Heavy.f (k : Nat) (l0_0 : List ByteArray) (a0_1 : Int) (a0_2 : Int) (a0_3 : Int) (a0_4 : Int) (a0_5 : Int) (a0_6 : Int) (a0_7 : Int) : Option (Bool) := (quilllaw1_Heavy.f k l0_0 a0_1 a0_2 a0_3 a0_4).bind fun t105 => (some t105)
theorem quilllaw10_Heavy.calls {k : Nat} {A0_0 : Option Addr} {c0_0 : Nat} {l0_0 : List ByteArray} {a0_1 : Int} {a0_2 : Int} {a0_3 : Int} {a0_4 : Int} {a0_5 : Int} {a0_6 : Int} {a0_7 : Int} {r : Bool} {w : World} (hr0_0 : Kd.C Kd.string w A0_0 l0_0.length l0_0) (hc0_0 : l0_0.length ≤ c0_0) (H : quilllaw10_Heavy.f k l0_0 a0_1 a0_2 a0_3 a0_4 a0_5 a0_6 a0_7 = some r) :
  Calls Tryd.prog 25 #[.agg #[.slice A0_0 l0_0.length c0_0, .int .i64 a0_1, .int .i64 a0_2, .int .i64 a0_3, .int .i64 a0_4, .int .i64 a0_5, .int .i64 a0_6, .int .i64 a0_7]] w fun e w' => e = .returned (.bool r) ∧ Below w.heap.size w w' := by
 have hu28 := Tryd.underlying28; have hu26 := Tryd.underlying26; have HR0_0 := Aside0.mk hr0_0; have HC0_0 := Aside0.mk hc0_0; clear hr0_0 hc0_0; have HB := Aside0.mk (Below.refl w.heap.size w); unfold quilllaw10_Heavy.f at H; replace H := bindA H; obtain ⟨t105, A2, H⟩ := H; (try dsimp only at H); obtain rfl := Option.some.inj H; go_enter Tryd.func25, Tryd.ntmps25
 go_wp2_with (first | ((with_reducible refine gN 1 rfl ?_); refine bx 1 #[.slice A0_0 l0_0.length c0_0, .int .i64 a0_1, .int .i64 a0_2, .int .i64 a0_3, .int .i64 a0_4, .int .i64 a0_5, .int .i64 a0_6, .int .i64 a0_7] 28 ?_; intro gb104 hg w3 hbox hb; have BK104 := Aside0.mk hbox; have GW104 := gE hg; have GE104 := GW104; replace HB := hB hb; clear hb hbox hg; have hcz4_0 := cz0 BK104.out; have hcz4_1 := cz1 BK104.out; have hcz4_2 := cz2 BK104.out; have hcz4_3 := cz3 BK104.out; have hcz4_4 := cz4 BK104.out; have hcz4_5 := cz5 BK104.out; have hcz4_6 := cz6 BK104.out; have hcz4_7 := cz7 BK104.out; have hfz4_0 := blk_frozen BK104.out 0; have hfz4_1 := blk_frozen BK104.out 1; have hfz4_2 := blk_frozen BK104.out 2; have hfz4_3 := blk_frozen BK104.out 3; have hfz4_4 := blk_frozen BK104.out 4; have hfz4_5 := blk_frozen BK104.out 5; have hfz4_6 := blk_frozen BK104.out 6; have hfz4_7 := blk_frozen BK104.out 7) | ((with_reducible refine gC 47 rfl ?_); refine goesL1 (some 5) Tryd.func47 #[.agg #[.slice A0_0 l0_0.length c0_0, .int .i64 a0_1, .int .i64 a0_2, .int .i64 a0_3, .int .i64 a0_4]] rfl (map1 rfl) ?_; refine cm_ (quilllaw1_Heavy.calls sd_ sd_ A2.out) ?_; rintro e w5 ⟨rfl, hb⟩; refine ⟨_, rfl, ?_⟩; replace BK104 := blB hb BK104; replace HB := hB hb; (try clear hb); (try clear hcz4_0); (try clear hcz4_1); (try clear hcz4_2); (try clear hcz4_3); (try clear hcz4_4); (try clear hcz4_5); (try clear hcz4_6); (try clear hcz4_7); (try clear hfz4_0); (try clear hfz4_1); (try clear hfz4_2); (try clear hfz4_3); (try clear hfz4_4); (try clear hfz4_5); (try clear hfz4_6); (try clear hfz4_7)))
 go_ret
 exact ⟨rr_, bl_⟩

/-! ### quilllaw16_Heavy: function 7 -/
def quilllaw16_Heavy.f (k : Nat) (l0_0 : List ByteArray) (a0_1 : Int) (a0_2 : Int) (a0_3 : Int) (a0_4 : Int) (a0_5 : Int) (a0_6 : Int) (a0_7 : Int) (l0_8 : List (S52)) (a0_9 : Int) (a0_10 : Int) (l0_11 : List (S89)) : Option (Bool) := (quilllaw10_Heavy.f k l0_0 a0_1 a0_2 a0_3 a0_4 a0_5 a0_6 a0_7).bind fun t107 => (if t107 = true then (some true) else (some (decide ((wrap64 ((l0_8.length : Int) + (l0_11.length : Int))) > 200))))
theorem quilllaw16_Heavy.calls {k : Nat} {A0_0 : Option Addr} {c0_0 : Nat} {l0_0 : List ByteArray} {a0_1 : Int} {a0_2 : Int} {a0_3 : Int} {a0_4 : Int} {a0_5 : Int} {a0_6 : Int} {a0_7 : Int} {A0_8 : Option Addr} {c0_8 : Nat} {l0_8 : List (S52)} {a0_9 : Int} {a0_10 : Int} {A0_11 : Option Addr} {c0_11 : Nat} {l0_11 : List (S89)} {r : Bool} {w : World} (hr0_0 : Kd.C Kd.string w A0_0 l0_0.length l0_0) (hc0_0 : l0_0.length ≤ c0_0) (hr0_8 : Kd.C k52 w A0_8 l0_8.length l0_8) (hc0_8 : l0_8.length ≤ c0_8) (hr0_11 : Kd.C k89 w A0_11 l0_11.length l0_11) (hc0_11 : l0_11.length ≤ c0_11) (H : quilllaw16_Heavy.f k l0_0 a0_1 a0_2 a0_3 a0_4 a0_5 a0_6 a0_7 l0_8 a0_9 a0_10 l0_11 = some r) :
  Calls Tryd.prog 7 #[.agg #[.slice A0_0 l0_0.length c0_0, .int .i64 a0_1, .int .i64 a0_2, .int .i64 a0_3, .int .i64 a0_4, .int .i64 a0_5, .int .i64 a0_6, .int .i64 a0_7, .slice A0_8 l0_8.length c0_8, .int .i64 a0_9, .int .i64 a0_10, .slice A0_11 l0_11.length c0_11]] w fun e w' => e = .returned (.bool r) ∧ Below w.heap.size w w' := by
 have hu34 := Tryd.underlying34; have hu28 := Tryd.underlying28; have HR0_0 := Aside0.mk hr0_0; have HC0_0 := Aside0.mk hc0_0; clear hr0_0 hc0_0; have HR0_8 := Aside0.mk hr0_8; have HC0_8 := Aside0.mk hc0_8; clear hr0_8 hc0_8; have HR0_11 := Aside0.mk hr0_11; have HC0_11 := Aside0.mk hc0_11; clear hr0_11 hc0_11; have HB := Aside0.mk (Below.refl w.heap.size w); unfold quilllaw16_Heavy.f at H; replace H := bindA H
 obtain ⟨t107, A2, H⟩ := H; (try dsimp only at H); replace H := ifb H; obtain ⟨rfl, H⟩ | ⟨rfl, H⟩ := H
 ·
  obtain rfl := Option.some.inj H; go_enter Tryd.func7, Tryd.ntmps7
  go_wp2_with (first | ((with_reducible refine gN 1 rfl ?_); (try (refine gate_guard (by rfl) ?_; dsimp only)); refine box1 (N := 1) (cs := #[.slice A0_0 l0_0.length c0_0, .int .i64 a0_1, .int .i64 a0_2, .int .i64 a0_3, .int .i64 a0_4, .int .i64 a0_5, .int .i64 a0_6, .int .i64 a0_7, .slice A0_8 l0_8.length c0_8, .int .i64 a0_9, .int .i64 a0_10, .slice A0_11 l0_11.length c0_11]) (t := 34) ?_; intro gb106 hg w4 hbox hb; have BK106 := Aside0.mk hbox; have GW106 := gE hg; have GE106 := GW106; replace HB := hB hb; clear hb hbox hg; have hcz5_0 := cz0 BK106.out; have hcz5_1 := cz1 BK106.out; have hcz5_2 := cz2 BK106.out; have hcz5_3 := cz3 BK106.out; have hcz5_4 := cz4 BK106.out; have hcz5_5 := cz5 BK106.out; have hcz5_6 := cz6 BK106.out; have hcz5_7 := cz7 BK106.out; have hcz5_8 := cz8 BK106.out; have hcz5_9 := cz9 BK106.out; have hcz5_10 := cz10 BK106.out; have hcz5_11 := cz11 BK106.out; have hfz5_0 := blk_frozen BK106.out 0; have hfz5_1 := blk_frozen BK106.out 1; have hfz5_2 := blk_frozen BK106.out 2; have hfz5_3 := blk_frozen BK106.out 3; have hfz5_4 := blk_frozen BK106.out 4; have hfz5_5 := blk_frozen BK106.out 5; have hfz5_6 := blk_frozen BK106.out 6; have hfz5_7 := blk_frozen BK106.out 7; have hfz5_8 := blk_frozen BK106.out 8; have hfz5_9 := blk_frozen BK106.out 9; have hfz5_10 := blk_frozen BK106.out 10; have hfz5_11 := blk_frozen BK106.out 11) | ((with_reducible refine gC 25 rfl ?_); refine goesL1 (some 5) Tryd.func25 #[.agg #[.slice A0_0 l0_0.length c0_0, .int .i64 a0_1, .int .i64 a0_2, .int .i64 a0_3, .int .i64 a0_4, .int .i64 a0_5, .int .i64 a0_6, .int .i64 a0_7]] rfl (map1 rfl) ?_; refine cm_ (quilllaw10_Heavy.calls sd_ sd_ A2.out) ?_; rintro e w6 ⟨rfl, hb⟩; refine ⟨_, rfl, ?_⟩; replace BK106 := blB hb BK106; replace HB := hB hb; (try clear hb); (try clear hcz5_0); (try clear hcz5_1); (try clear hcz5_2); (try clear hcz5_3); (try clear hcz5_4); (try clear hcz5_5); (try clear hcz5_6); (try clear hcz5_7); (try clear hcz5_8); (try clear hcz5_9); (try clear hcz5_10); (try clear hcz5_11); (try clear hfz5_0); (try clear hfz5_1); (try clear hfz5_2); (try clear hfz5_3); (try clear hfz5_4); (try clear hfz5_5); (try clear hfz5_6); (try clear hfz5_7); (try clear hfz5_8); (try clear hfz5_9); (try clear hfz5_10); (try clear hfz5_11)))
  go_ret
  exact ⟨rr_, bl_⟩
 obtain rfl := Option.some.inj H; go_enter Tryd.func7, Tryd.ntmps7
 go_wp2_with (first | ((with_reducible refine gN 1 rfl ?_); (try (refine gate_guard (by rfl) ?_; dsimp only)); refine box1 (N := 1) (cs := #[.slice A0_0 l0_0.length c0_0, .int .i64 a0_1, .int .i64 a0_2, .int .i64 a0_3, .int .i64 a0_4, .int .i64 a0_5, .int .i64 a0_6, .int .i64 a0_7, .slice A0_8 l0_8.length c0_8, .int .i64 a0_9, .int .i64 a0_10, .slice A0_11 l0_11.length c0_11]) (t := 34) ?_; intro gb106 hg w7 hbox hb; have BK106 := Aside0.mk hbox; have GW106 := gE hg; have GE106 := GW106; replace HB := hB hb; clear hb hbox hg; have hcz8_0 := cz0 BK106.out; have hcz8_1 := cz1 BK106.out; have hcz8_2 := cz2 BK106.out; have hcz8_3 := cz3 BK106.out; have hcz8_4 := cz4 BK106.out; have hcz8_5 := cz5 BK106.out; have hcz8_6 := cz6 BK106.out; have hcz8_7 := cz7 BK106.out; have hcz8_8 := cz8 BK106.out; have hcz8_9 := cz9 BK106.out; have hcz8_10 := cz10 BK106.out; have hcz8_11 := cz11 BK106.out; have hfz8_0 := blk_frozen BK106.out 0; have hfz8_1 := blk_frozen BK106.out 1; have hfz8_2 := blk_frozen BK106.out 2; have hfz8_3 := blk_frozen BK106.out 3; have hfz8_4 := blk_frozen BK106.out 4; have hfz8_5 := blk_frozen BK106.out 5; have hfz8_6 := blk_frozen BK106.out 6; have hfz8_7 := blk_frozen BK106.out 7; have hfz8_8 := blk_frozen BK106.out 8; have hfz8_9 := blk_frozen BK106.out 9; have hfz8_10 := blk_frozen BK106.out 10; have hfz8_11 := blk_frozen BK106.out 11) | ((with_reducible refine gC 25 rfl ?_); refine goesL1 (some 5) Tryd.func25 #[.agg #[.slice A0_0 l0_0.length c0_0, .int .i64 a0_1, .int .i64 a0_2, .int .i64 a0_3, .int .i64 a0_4, .int .i64 a0_5, .int .i64 a0_6, .int .i64 a0_7]] rfl (map1 rfl) ?_; refine cm_ (quilllaw10_Heavy.calls sd_ sd_ A2.out) ?_; rintro e w9 ⟨rfl, hb⟩; refine ⟨_, rfl, ?_⟩; replace BK106 := blB hb BK106; replace HB := hB hb; (try clear hb); have hcz10_0 := cz0 BK106.out; have hcz10_1 := cz1 BK106.out; have hcz10_2 := cz2 BK106.out; have hcz10_3 := cz3 BK106.out; have hcz10_4 := cz4 BK106.out; have hcz10_5 := cz5 BK106.out; have hcz10_6 := cz6 BK106.out; have hcz10_7 := cz7 BK106.out; have hcz10_8 := cz8 BK106.out; have hcz10_9 := cz9 BK106.out; have hcz10_10 := cz10 BK106.out; have hcz10_11 := cz11 BK106.out; have hfz10_0 := blk_frozen BK106.out 0; have hfz10_1 := blk_frozen BK106.out 1; have hfz10_2 := blk_frozen BK106.out 2; have hfz10_3 := blk_frozen BK106.out 3; have hfz10_4 := blk_frozen BK106.out 4; have hfz10_5 := blk_frozen BK106.out 5; have hfz10_6 := blk_frozen BK106.out 6; have hfz10_7 := blk_frozen BK106.out 7; have hfz10_8 := blk_frozen BK106.out 8; have hfz10_9 := blk_frozen BK106.out 9; have hfz10_10 := blk_frozen BK106.out 10; have hfz10_11 := blk_frozen BK106.out 11; (try clear hcz8_0); (try clear hcz8_1); (try clear hcz8_2); (try clear hcz8_3); (try clear hcz8_4); (try clear hcz8_5); (try clear hcz8_6); (try clear hcz8_7); (try clear hcz8_8); (try clear hcz8_9); (try clear hcz8_10); (try clear hcz8_11); (try clear hfz8_0); (try clear hfz8_1); (try clear hfz8_2); (try clear hfz8_3); (try clear hfz8_4); (try clear hfz8_5); (try clear hfz8_6); (try clear hfz8_7); (try clear hfz8_8); (try clear hfz8_9); (try clear hfz8_10); (try clear hfz8_11)))
 go_ret
 exact ⟨rr_, bl_⟩

/-! ### quilllaw0_Within: function 26 -/
def quilllaw0_Within.f (a0 : Int) (a1 : Int) : Option (Int) := if (IntKind.u64.wrap (a1)) = 0 then (none) else (some (wrap64 (Int.tmod (IntKind.u64.wrap (a0)) (IntKind.u64.wrap (a1)))))
theorem quilllaw0_Within.calls {a0 : Int} {a1 : Int} {r : Int} {w : World} (H : quilllaw0_Within.f a0 a1 = some r) :
  Calls Tryd.prog 26 #[.int .i64 a0, .int .i64 a1] w fun e w' => e = .returned (.int .i64 r) ∧ Drawn0 w w' := by
 unfold quilllaw0_Within.f at H
 by_cases c3 : (IntKind.u64.wrap (a1)) = 0
 ·
  rw [if_pos c3] at H
  exact absurd H (by simp)
 rw [if_neg c3] at H
 have c3b0 : ((IntKind.u64.wrap (a1)) == 0) = false := beq_eq_false_iff_ne.mpr c3
 have c3b1 : ((IntKind.u64.wrap (a1)) != 0) = true := bne_iff_ne.mpr c3
 obtain rfl := Option.some.inj H; go_enter Tryd.func26, Tryd.ntmps26
 go_wp2; go_ret
 exact ⟨r3_, dr_⟩

/-! ### quilllaw10_Offsets: function 8 -/
def quilllaw10_Offsets.l0 : Nat → List Int → List Int → Int → List ByteArray → Int → Int → Int → Int → Int → Int → Int → Option (List Int)
  | 0, _, _, _, _, _, _, _, _, _, _, _ => none
  | k + 1, x1, x5, x6, v0, v1, v2, v3, v4, v5, v6, v7 => if x6 ≤ (x1.length : Int) then (if x6 < 12 then ((quilllaw0_Within.f (wrap64 (v1 + (wrap64 (x6 * (wrap64 (1 + (wrap64 ((x1.length : Int) / 12)))))))) (wrap64 ((x1.length : Int) + 1))).bind fun t112 => (if x5.length < 17592186044416 then (quilllaw10_Offsets.l0 k x1 (x5 ++ [t112]) (wrap64 (x6 + 1)) v0 v1 v2 v3 v4 v5 v6 v7) else (none))) else (some x5)) else (some x5)
def quilllaw10_Offsets.f (k : Nat) (l0_0 : List ByteArray) (a0_1 : Int) (a0_2 : Int) (a0_3 : Int) (a0_4 : Int) (a0_5 : Int) (a0_6 : Int) (a0_7 : Int) (l1 : List Int) : Option (List Int) := quilllaw10_Offsets.l0 k l1 (([a0_1, (-1), wrap64 ((l1.length : Int) + 1)] : List Int)) 0 l0_0 a0_1 a0_2 a0_3 a0_4 a0_5 a0_6 a0_7
theorem quilllaw10_Offsets.calls {k : Nat} {A0_0 : Option Addr} {c0_0 : Nat} {l0_0 : List ByteArray} {a0_1 : Int} {a0_2 : Int} {a0_3 : Int} {a0_4 : Int} {a0_5 : Int} {a0_6 : Int} {a0_7 : Int} {A1 : Option Addr} {c1 : Nat} {l1 : List Int} {r : List Int} {w : World} (hr0_0 : Kd.C Kd.string w A0_0 l0_0.length l0_0) (hc0_0 : l0_0.length ≤ c0_0) (hr1 : Kd.C (Kd.int .i32) w A1 l1.length l1) (hc1 : l1.length ≤ c1) (H : quilllaw10_Offsets.f k l0_0 a0_1 a0_2 a0_3 a0_4 a0_5 a0_6 a0_7 l1 = some r) :
  Calls Tryd.prog 8 #[.agg #[.slice A0_0 l0_0.length c0_0, .int .i64 a0_1, .int .i64 a0_2, .int .i64 a0_3, .int .i64 a0_4, .int .i64 a0_5, .int .i64 a0_6, .int .i64 a0_7], .slice A1 l1.length c1] w fun e w' => ∃ v0_ : Value, e = .returned (v0_) ∧ Kd.R (Kd.int .i64) 3 w' w.heap.size (fun _ => True) v0_ r ∧ Below w.heap.size w w' := by
 have hu28 := Tryd.underlying28; have HR0_0 := Aside0.mk hr0_0; have HC0_0 := Aside0.mk hc0_0; clear hr0_0 hc0_0; have HR1 := Aside0.mk hr1; have HC1 := Aside0.mk hc1; clear hr1 hc1; have HB := Aside0.mk (Below.refl w.heap.size w); unfold quilllaw10_Offsets.f at H; obtain ⟨y109, hy109⟩ : ∃ y_ : List Int, y_ = (([a0_1, (-1), wrap64 ((l1.length : Int) + 1)] : List Int)) := ⟨_, rfl⟩
 replace H : (quilllaw10_Offsets.l0 k l1 y109 0 l0_0 a0_1 a0_2 a0_3 a0_4 a0_5 a0_6 a0_7) = some r := by first | (rw [hy109]; with_reducible exact H) | (have H2_ := (Option.bind_some _ _).symm.trans H; rw [hy109]; with_reducible exact H2_) | (have H2_ := (Option.bind_some _ _).symm.trans H; with_reducible exact H2_) | with_reducible exact H | (rw [hy109]; exact H) | exact H
 have Ny109 := Aside0.mk hy109; clear hy109; replace H := Aside0.mk H; go_enter Tryd.func8, Tryd.ntmps8
 go_wp2_with (first | ((with_reducible refine gN 2 rfl ?_); refine bx 2 #[.slice A0_0 l0_0.length c0_0, .int .i64 a0_1, .int .i64 a0_2, .int .i64 a0_3, .int .i64 a0_4, .int .i64 a0_5, .int .i64 a0_6, .int .i64 a0_7] 28 ?_; intro gb108 hg w3 hbox hb; have BK108 := Aside0.mk hbox; have GW108 := gE hg; have GE108 := GW108; replace HB := hB hb; clear hb hbox hg; have hcz4_0 := cz0 BK108.out; have hcz4_1 := cz1 BK108.out; have hcz4_2 := cz2 BK108.out; have hcz4_3 := cz3 BK108.out; have hcz4_4 := cz4 BK108.out; have hcz4_5 := cz5 BK108.out; have hcz4_6 := cz6 BK108.out; have hcz4_7 := cz7 BK108.out; have hfz4_0 := blk_frozen BK108.out 0; have hfz4_1 := blk_frozen BK108.out 1; have hfz4_2 := blk_frozen BK108.out 2; have hfz4_3 := blk_frozen BK108.out 3; have hfz4_4 := blk_frozen BK108.out 4; have hfz4_5 := blk_frozen BK108.out 5; have hfz4_6 := blk_frozen BK108.out 6; have hfz4_7 := blk_frozen BK108.out 7) | ((with_reducible refine gN 13 rfl ?_); refine Kd.R_lit (Kd.int .i64) _ 3 ?hg (N := 13) ?hd (xs := ([a0_1, (-1), wrap64 ((l1.length : Int) + 1)] : List Int)) (inner := [.int .i64 a0_1, .int .i64 (-1), .int .i64 (wrap64 ((l1.length : Int) + 1))]) (ok := fun _ => True) (okp := fun _ => True) ?hr ?hp (fun _ hk => hk) trivial (Below.refl _ _) (Nat.le_refl _) (by simp) ?_; (case hd => rfl); (case hg => rfl); (case hr => first | (go_simp; done) | (go_simp; rfl)); (case hp => exact (Reps.one (show Kd.M (Kd.int .i64) _ _ _ a0_1 [.int .i64 a0_1] from rfl) (Reps.one (show Kd.M (Kd.int .i64) _ _ _ (-1) [.int .i64 (-1)] from rfl) (Reps.one (show Kd.M (Kd.int .i64) _ _ _ (wrap64 ((l1.length : Int) + 1)) [.int .i64 (wrap64 ((l1.length : Int) + 1))] from rfl) (Reps.none _ _))))); intro v110 w5 ho6 hb hg_ hnew_; clear hg_ hnew_; (first | rw [← Ny109.out] at ho6 | (simp only [Int.reduceToNat] at ho6; rw [← Ny109.out] at ho6)); have HO111 := oL ho6; replace BK108 := blB hb BK108; replace HB := hB hb; clear hb ho6))
 go_loopg [5, 6] k (fun kq v5 v6 w' => ∃ (x5_1 : List Int) (x6_1 : Int), v6 = .int .i64 x6_1 ∧ Aside0 (quilllaw10_Offsets.l0 kq l1 x5_1 x6_1 l0_0 a0_1 a0_2 a0_3 a0_4 a0_5 a0_6 a0_7 = some r) ∧ Aside0 (kq ≤ k) ∧ Aside0 (Kd.R (Kd.int .i64) 3 w' w.heap.size (fun _ => True) v5 x5_1) ∧ Aside0 (w'.heap[gb108]? = some (.cells #[(.slice A0_0 l0_0.length c0_0), .int .i64 a0_1, .int .i64 a0_2, .int .i64 a0_3, .int .i64 a0_4, .int .i64 a0_5, .int .i64 a0_6, .int .i64 a0_7] 28 (0, 0))) ∧ Aside0 (Below w.heap.size w w'))
 case atStart => exact ⟨(y109), (0), r3_, H, ⟨Nat.le_refl _⟩, ⟨ro_ HO111⟩, ⟨BK108.out⟩, ⟨bl_⟩⟩
 case round =>
  clear H
  try clear hcz4
  obtain ⟨x5_1, x6_1, rfl, HA, HK1, HO_5, BK108, HB⟩ := hrel
  cases gk with
  | zero => exact absurd HA.out (by simp [quilllaw10_Offsets.l0])
  | succ k1 =>
   obtain ⟨H⟩ := HA; simp only [quilllaw10_Offsets.l0] at H; replace H := nfd H; obtain ⟨c7b0, H⟩ | ⟨c7b0, H⟩ := H
   ·
    obtain rfl := Option.some.inj H; go_wp2; go_ret
    exact ⟨_, by first | rfl | (simp [errW_none, errW_some] <;> rfl) | (simp [*, errW_none, errW_some] <;> rfl), ro_ HO_5, bl_⟩
   replace H := nfd H; obtain ⟨c8b0, H⟩ | ⟨c8b0, H⟩ := H
   ·
    obtain rfl := Option.some.inj H; go_wp2; go_ret
    exact ⟨_, by first | rfl | (simp [errW_none, errW_some] <;> rfl) | (simp [*, errW_none, errW_some] <;> rfl), ro_ HO_5, bl_⟩
   replace H := bindA H; obtain ⟨t112, A9, H⟩ := H; (try dsimp only at H)
   by_cases c10 : x5_1.length < 17592186044416
   rotate_left
   ·
    rw [if_neg c10] at H
    exact absurd H (by simp)
   rw [if_pos c10] at H; have LMc10 := Aside0.mk c10; clear c10; obtain ⟨y113, hy113⟩ : ∃ y_ : List Int, y_ = (x5_1 ++ [t112]) := ⟨_, rfl⟩
   replace H : (quilllaw10_Offsets.l0 k1 l1 y113 (wrap64 (x6_1 + 1)) l0_0 a0_1 a0_2 a0_3 a0_4 a0_5 a0_6 a0_7) = some r := by first | (rw [hy113]; with_reducible exact H) | (have H2_ := (Option.bind_some _ _).symm.trans H; rw [hy113]; with_reducible exact H2_) | (have H2_ := (Option.bind_some _ _).symm.trans H; with_reducible exact H2_) | with_reducible exact H | (rw [hy113]; exact H) | exact H
   have Ny113 := Aside0.mk hy113; clear hy113; replace H := Aside0.mk H; have hcz11_0 := cz0 BK108.out; have hcz11_1 := cz1 BK108.out; have hcz11_2 := cz2 BK108.out; have hcz11_3 := cz3 BK108.out; have hcz11_4 := cz4 BK108.out; have hcz11_5 := cz5 BK108.out; have hcz11_6 := cz6 BK108.out; have hcz11_7 := cz7 BK108.out; have hfz11_0 := blk_frozen BK108.out 0; have hfz11_1 := blk_frozen BK108.out 1; have hfz11_2 := blk_frozen BK108.out 2
   have hfz11_3 := blk_frozen BK108.out 3; have hfz11_4 := blk_frozen BK108.out 4; have hfz11_5 := blk_frozen BK108.out 5; have hfz11_6 := blk_frozen BK108.out 6; have hfz11_7 := blk_frozen BK108.out 7
   go_wp2_with (first | ((with_reducible refine gC 26 rfl ?_); refine goesL1 (some 38) Tryd.func26 #[.int .i64 (wrap64 (a0_1 + (wrap64 (x6_1 * (wrap64 (1 + (wrap64 ((l1.length : Int) / 12)))))))), .int .i64 (wrap64 ((l1.length : Int) + 1))] rfl (map2 rfl rfl) ?_; (with_reducible refine (quilllaw0_Within.calls A9.out).mono ?_); rintro e w' ⟨rfl, nd, rfl⟩; refine ⟨_, rfl, ?_⟩) | ((with_reducible refine gate_builtin (b := .append) (xs := #[.tmp 24, .tmp 39]) rfl ?_); at_builtin; refine Kd.R_append (Kd.int .i64) (w0 := w) w.heap.size rfl (.tmp 24) (.tmp 39) 37 3 (.int .i64 0) 8 rfl Tryd.underlying37 info3 rfl (by decide) (by omega) u5 x5_1 t112 [.int .i64 t112] (fun _ => True) (fun _ => False) rfl rfl ?aP (fun _ hk => hk.elim) ?aF ?aO ?aB ?aS ?aL ?_; (case aP => exact rfl); (case aB => exact bl_); (case aF => exact (fun _ _ => trivial)); (case aO => exact (ro_ HO_5)); (case aS => exact (below_size bl_)); (case aL => have := LMc10.out; omega); intro v114 w12 ho hb hg hat; rw [← Ny113.out] at ho; have HO115 := Aside0.mk (ho); replace BK108 := Aside0.mk (blk_grown (g := gb108) (o := .cells #[.slice A0_0 l0_0.length c0_0, .int .i64 a0_1, .int .i64 a0_2, .int .i64 a0_3, .int .i64 a0_4, .int .i64 a0_5, .int .i64 a0_6, .int .i64 a0_7] 28 (0, 0)) (by exact BK108.out) hg (Kd.R_ne HO_5.out BK108.out (by decide))); replace HB := Aside0.mk (hb); clear HO_5; clear ho hb hg hat))
   go_roundg k1
   case measure => have := HK1.out; omega
   case rel => exact ⟨(y113), (wrap64 (x6_1 + 1)), r3_, H, ⟨by have := HK1.out; omega⟩, ⟨ro_ HO115⟩, ⟨BK108.out⟩, ⟨bl_⟩⟩

/-! ### quillref0_Num: function 11 -/
def quillref0_Num.f (a0 : Int) (a1 : Int) : Option (Bool) := if a0 ≥ 0 then (some (decide (a0 ≤ a1))) else (some false)
theorem quillref0_Num.calls {a0 : Int} {a1 : Int} {r : Bool} {w : World} (H : quillref0_Num.f a0 a1 = some r) :
  Calls Tryd.prog 11 #[.int .i64 a0, .int .i64 a1] w fun e w' => e = .returned (.bool r) ∧ Drawn0 w w' := by
 unfold quillref0_Num.f at H; replace H := ifd H; obtain ⟨c3b0, H⟩ | ⟨c3b0, H⟩ := H
 ·
  obtain rfl := Option.some.inj H; go_enter Tryd.func11, Tryd.ntmps11
  go_wp2; go_ret
  exact ⟨r3_, dr_⟩
 obtain rfl := Option.some.inj H; go_enter Tryd.func11, Tryd.ntmps11
 go_wp2; go_ret
 exact ⟨r3_, dr_⟩

/-! ### quillref0_Between: function 12 -/
def quillref0_Between.f (a0 : Int) (a1 : Int) (a2 : Int) : Option (Bool) := if a0 ≥ a1 then (some (decide (a0 ≤ a2))) else (some false)
theorem quillref0_Between.calls {a0 : Int} {a1 : Int} {a2 : Int} {r : Bool} {w : World} (H : quillref0_Between.f a0 a1 a2 = some r) :
  Calls Tryd.prog 12 #[.int .i64 a0, .int .i64 a1, .int .i64 a2] w fun e w' => e = .returned (.bool r) ∧ Drawn0 w w' := by
 unfold quillref0_Between.f at H; replace H := ifd H; obtain ⟨c4b0, H⟩ | ⟨c4b0, H⟩ := H
 ·
  obtain rfl := Option.some.inj H; go_enter Tryd.func12, Tryd.ntmps12
  go_wp2; go_ret
  exact ⟨r3_, dr_⟩
 obtain rfl := Option.some.inj H; go_enter Tryd.func12, Tryd.ntmps12
 go_wp2; go_ret
 exact ⟨r3_, dr_⟩

/-! ### quillref1_May: function 10 -/
mutual
def quillref1_May.j0 : Nat → ByteArray → Bool → Option (Bool)
  | 0, _, _ => none
  | k + 1, x0, x11 => if x11 = true then (some false) else (quillref1_May.l0 k x0 0)
def quillref1_May.l0 : Nat → ByteArray → Int → Option (Bool)
  | 0, _, _ => none
  | k + 1, x0, x3 => if x3 < (x0.size : Int) then (if 0 ≤ x3 then (if (bt x0 x3) = 0 then (some false) else (quillref1_May.l0 k x0 (wrap64 (x3 + 1)))) else (none)) else (some true)
end
def quillref1_May.f (k : Nat) (a0 : ByteArray) : Option (Bool) := if (a0.size : Int) > 4000 then (quillref1_May.j0 k a0 true) else ((utf8_ValidString.f a0).bind fun t116 => (quillref1_May.j0 k a0 (!t116)))
theorem quillref1_May.calls {k : Nat} {a0 : ByteArray} {r : Bool} {w : World} (hT : Tabs w) (H : quillref1_May.f k a0 = some r) :
  Calls Tryd.prog 10 #[.string a0] w fun e w' => e = .returned (.bool r) ∧ Below w.heap.size w w' := by
 have HT := Aside0.mk hT; clear hT; have HB := Aside0.mk (Below.refl w.heap.size w); unfold quillref1_May.f at H; have HC2 := Aside0.mk H; clear H; go_enter Tryd.func10, Tryd.ntmps10
 go_upto_region 1 with (fail)
 go_cut [11] (fun v11 wc => ∃ (kq : Nat) (x11_1 : Bool), v11 = .bool x11_1 ∧ Aside0 (quillref1_May.j0 kq a0 x11_1 = some r) ∧ Aside0 (kq ≤ k) ∧ Aside0 (Below w.heap.size w wc))
 case first =>
  obtain ⟨H⟩ := HC2
  by_cases c3 : (a0.size : Int) > 4000
  ·
   rw [if_pos c3] at H; have c3b0 := decide_eq_true c3
   have c3b1 : decide (4000 < a0.size) = true := decide_eq_true (by omega)
   clear c3; (first | rw [c3b0] | (simp only [i64_w, i32_w]; rw [c3b0]) | skip); replace H := Aside0.mk H; go_wp2; go_meet
   case rel => exact ⟨_, (true), r3_, H, ⟨ol_⟩, ⟨bl_⟩⟩
  rw [if_neg c3] at H; have c3b0 := decide_eq_false c3
  have c3b1 : decide (4000 < a0.size) = false := decide_eq_false (by omega)
  clear c3; (first | rw [c3b0] | (simp only [i64_w, i32_w]; rw [c3b0]) | skip); replace H := bindA H; obtain ⟨t116, A4, H⟩ := H; (try dsimp only at H); replace H := Aside0.mk H
  go_wp2_with (first | (go_at_call 31; (with_reducible refine (utf8_ValidString.calls a0 t116 _ ?side1 A4.out).mono ?_); (case side1 => exact Tabs.below HT.out bl_); rintro e w5 ⟨rfl, hb⟩; replace HB := hB hb; (try clear hb)))
  go_meet
  case rel => exact ⟨_, (!t116), r3_, H, ⟨ol_⟩, ⟨bl_⟩⟩
 case rest =>
  clear HC2; obtain ⟨kq, x11_1, rfl, HA, HJ1, HB⟩ := hcut
  cases kq with
  | zero => exact absurd HA.out (by simp [quillref1_May.j0])
  | succ kj1 =>
   obtain ⟨H⟩ := HA; simp only [quillref1_May.j0] at H; replace H := ifb H; obtain ⟨rfl, H⟩ | ⟨rfl, H⟩ := H
   ·
    obtain rfl := Option.some.inj H; go_wp2; go_ret
    exact ⟨rr_, bl_⟩
   replace H := Aside0.mk H; go_wp2
   go_loopg [3] kj1 (fun kq v3 w' => ∃ (x3_2 : Int), v3 = .int .i64 x3_2 ∧ Aside0 (quillref1_May.l0 kq a0 x3_2 = some r) ∧ Aside0 (kq ≤ kj1) ∧ Aside0 (Below w.heap.size w w'))
   case atStart => exact ⟨(0), r3_, H, ⟨Nat.le_refl _⟩, ⟨bl_⟩⟩
   case round =>
    clear H; obtain ⟨x3_2, rfl, HA, HK2, HB⟩ := hrel
    cases gk with
    | zero => exact absurd HA.out (by simp [quillref1_May.l0])
    | succ k2 =>
     obtain ⟨H⟩ := HA; simp only [quillref1_May.l0] at H; replace H := nfd H; obtain ⟨c7b0, H⟩ | ⟨c7b0, H⟩ := H
     ·
      obtain rfl := Option.some.inj H; go_wp2; go_ret
      exact ⟨rr_, bl_⟩
     replace H := ifdn H; obtain ⟨c8b0, H⟩ := H; replace H := ife H; obtain ⟨c10b0, c10b1, H⟩ | ⟨c10b0, c10b1, H⟩ := H
     ·
      obtain rfl := Option.some.inj H; have p9 := od_ (0 ≤ (x3_2 : Int)); have q9 := od_ (x3_2 < (a0.size : Int)); have hx9 := bt_at a0 x3_2; replace p9 := eq_true p9; replace q9 := eq_true q9; go_wp2; go_ret
      exact ⟨rr_, bl_⟩
     replace H := Aside0.mk H; have p9 := od_ (0 ≤ (x3_2 : Int)); have q9 := od_ (x3_2 < (a0.size : Int)); have hx9 := bt_at a0 x3_2; replace p9 := eq_true p9; replace q9 := eq_true q9; go_wp2
     go_roundg k2
     case measure => have := HJ1.out; have := HK2.out; omega
     case rel => exact ⟨(wrap64 (x3_2 + 1)), r3_, H, ⟨by have := HJ1.out; have := HK2.out; omega⟩, ⟨bl_⟩⟩

/-! ### move_Is: function 21 -/
def move_Is.f (a0 : Int) : Option (Bool) := (move_kind.f a0).bind fun t117 => (some (t117 != 0))
theorem move_Is.calls {a0 : Int} {r : Bool} {w : World} (H : move_Is.f a0 = some r) :
  Calls Tryd.prog 21 #[.int .i64 a0] w fun e w' => e = .returned (.bool r) ∧ Below w.heap.size w w' := by
 have HB := Aside0.mk (Below.refl w.heap.size w); unfold move_Is.f at H; replace H := bindA H; obtain ⟨t117, A2, H⟩ := H; (try dsimp only at H); obtain rfl := Option.some.inj H; go_enter Tryd.func21, Tryd.ntmps21
 go_wp2_with (first | ((with_reducible refine gC 42 rfl ?_); refine goesL1 (some 4) Tryd.func42 #[.int .i64 a0] rfl (map1 rfl) ?_; (with_reducible refine (move_kind.calls a0 t117 _ A2.out).mono ?_); rintro e w3 ⟨rfl, hb⟩; refine ⟨_, rfl, ?_⟩; replace HB := hB hb; (try clear hb)))
 go_ret
 exact ⟨rr_, bl_⟩

/-! ### text_Whole: function 48 -/
def text_Whole.f (a0 : ByteArray) : Option (Bool) := (utf8_ValidString.f a0).bind fun t118 => (if t118 = true then ((strings_IndexByte.f a0 0).bind fun t119 => (some (decide (t119 < 0)))) else (some false))
theorem text_Whole.calls {a0 : ByteArray} {r : Bool} {w : World} (hT : Tabs w) (H : text_Whole.f a0 = some r) :
  Calls Tryd.prog 48 #[.string a0] w fun e w' => e = .returned (.bool r) ∧ Below w.heap.size w w' := by
 have HT := Aside0.mk hT; clear hT; have HB := Aside0.mk (Below.refl w.heap.size w); unfold text_Whole.f at H; replace H := bindA H; obtain ⟨t118, A2, H⟩ := H; (try dsimp only at H); replace H := nfb H; obtain ⟨rfl, H⟩ | ⟨rfl, H⟩ := H
 ·
  obtain rfl := Option.some.inj H; go_enter Tryd.func48, Tryd.ntmps48
  go_wp2_with (first | ((with_reducible refine gC 31 rfl ?_); refine goesL1 (some 4) Tryd.func31 #[.string a0] rfl (map1 rfl) ?_; (with_reducible refine (utf8_ValidString.calls a0 false _ ?side1 A2.out).mono ?_); (case side1 => exact Tabs.below HT.out bl_); rintro e w6 ⟨rfl, hb⟩; refine ⟨_, rfl, ?_⟩; replace HB := hB hb; (try clear hb)))
  go_ret
  exact ⟨rr_, bl_⟩
 replace H := bindA H; obtain ⟨t119, A4, H⟩ := H; (try dsimp only at H); obtain rfl := Option.some.inj H; go_enter Tryd.func48, Tryd.ntmps48
 go_wp2_with (first | ((with_reducible refine gC 31 rfl ?_); refine goesL1 (some 4) Tryd.func31 #[.string a0] rfl (map1 rfl) ?_; (with_reducible refine (utf8_ValidString.calls a0 true _ ?side1 A2.out).mono ?_); (case side1 => exact Tabs.below HT.out bl_); rintro e w5 ⟨rfl, hb⟩; refine ⟨_, rfl, ?_⟩; replace HB := hB hb; (try clear hb)) | (go_at_call 72; (with_reducible refine (strings_IndexByte.calls a0 0 t119 _ A4.out).mono ?_); rintro e w' ⟨rfl, nd, rfl⟩))
 go_ret
 exact ⟨rr_, bl_⟩

/-! ### text_May: function 27 -/
def text_May.f (a0 : ByteArray) : Option (Bool) := if (a0.size : Int) ≤ 4000 then ((text_Whole.f a0).bind fun t120 => (some t120)) else (some false)
theorem text_May.calls {a0 : ByteArray} {r : Bool} {w : World} (hT : Tabs w) (H : text_May.f a0 = some r) :
  Calls Tryd.prog 27 #[.string a0] w fun e w' => e = .returned (.bool r) ∧ Below w.heap.size w w' := by
 have HT := Aside0.mk hT; clear hT; have HB := Aside0.mk (Below.refl w.heap.size w); unfold text_May.f at H
 by_cases c2 : (a0.size : Int) ≤ 4000
 rotate_left
 ·
  rw [if_neg c2] at H; have c2b0 := decide_eq_false c2
  have c2b1 : decide (a0.size ≤ 4000) = false := decide_eq_false (by omega)
  clear c2; obtain rfl := Option.some.inj H; go_enter Tryd.func27, Tryd.ntmps27
  go_wp2; go_ret
  exact ⟨rr_, bl_⟩
 rw [if_pos c2] at H; have c2b0 := decide_eq_true c2
 have c2b1 : decide (a0.size ≤ 4000) = true := decide_eq_true (by omega)
 clear c2; replace H := bindA H; obtain ⟨t120, A3, H⟩ := H; (try dsimp only at H); obtain rfl := Option.some.inj H; go_enter Tryd.func27, Tryd.ntmps27
 go_wp2_with (first | (go_at_call 48; (with_reducible refine (text_Whole.calls ?side1 A3.out).mono ?_); (case side1 => exact Tabs.below HT.out bl_); rintro e w4 ⟨rfl, hb⟩; replace HB := hB hb; (try clear hb)))
 go_ret
 exact ⟨rr_, bl_⟩

/-! ### text_Of: function 28 -/
def text_Of.l0 : Nat → List Int → Int → Int → List Int → List Int → Option (List Int × List Int)
  | 0, _, _, _, _, _ => none
  | k + 1, x14, x15, x16, v0, v1 => if x16 < x15 then (if 0 ≤ x16 then (if x16 < (x14.length : Int) then (if (rd x14 x16) = 10 then (if v1.length < 17592186044416 then (text_Of.l0 k x14 x15 (wrap64 (x16 + 1)) v0 (v1 ++ [wrap64 (x16 + 1)])) else (none)) else (text_Of.l0 k x14 x15 (wrap64 (x16 + 1)) v0 v1)) else (none)) else (none)) else (some (v0, v1))
def text_Of.f (k : Nat) (a0 : ByteArray) : Option (List Int × List Int) := if a0.size ≤ 70368744177664 then ((some (runesOf a0 : List Int)).bind fun y121 => (text_Of.l0 k y121 (y121.length : Int) 0 y121 (([0] : List Int)))) else (none)
theorem text_Of.calls {k : Nat} {a0 : ByteArray} {r1 : List Int} {r2 : List Int} {w : World} (H : text_Of.f k a0 = some (r1, r2)) :
  Calls Tryd.prog 28 #[.string a0] w fun e w' => ∃ v0_ v1_ : Value, ∃ g_ : Nat, e = .returned (.pointer (some ⟨g_, 0, none⟩)) ∧ Kd.R (Kd.int .i32) 21 w' w.heap.size (fun _ => True) v0_ r1 ∧ Kd.R (Kd.int .i64) 3 w' w.heap.size (fun _ => True) v1_ r2 ∧ (w'.heap[g_]? = some (.cells #[v0_, v1_] 79 (0, 0)) ∧ w.heap.size ≤ g_) ∧ Below w.heap.size w w' := by
 have hu79 := Tryd.underlying79; have HB := Aside0.mk (Below.refl w.heap.size w); unfold text_Of.f at H
 by_cases c2 : a0.size ≤ 70368744177664
 rotate_left
 ·
  rw [if_neg c2] at H
  exact absurd H (by simp)
 rw [if_pos c2] at H; have c2b0 := eq_true c2; have c2b1 := decide_eq_true c2; clear c2; obtain ⟨y121, hy121⟩ : ∃ y_ : List Int, y_ = (runesOf a0) := ⟨_, rfl⟩
 replace H : (text_Of.l0 k y121 (y121.length : Int) 0 y121 (([0] : List Int))) = some (r1, r2) := by first | (rw [hy121]; with_reducible exact H) | (have H2_ := (Option.bind_some _ _).symm.trans H; rw [hy121]; with_reducible exact H2_) | (have H2_ := (Option.bind_some _ _).symm.trans H; with_reducible exact H2_) | with_reducible exact H | (rw [hy121]; exact H) | exact H
 have Ny121 := Aside0.mk hy121; clear hy121; obtain ⟨y124, hy124⟩ : ∃ y_ : List Int, y_ = (([0] : List Int)) := ⟨_, rfl⟩
 replace H : (text_Of.l0 k y121 (y121.length : Int) 0 y121 y124) = some (r1, r2) := by first | (rw [hy124]; with_reducible exact H) | (have H2_ := (Option.bind_some _ _).symm.trans H; rw [hy124]; with_reducible exact H2_) | (have H2_ := (Option.bind_some _ _).symm.trans H; with_reducible exact H2_) | with_reducible exact H | (rw [hy124]; exact H) | exact H
 have Ny124 := Aside0.mk hy124; clear hy124; replace H := Aside0.mk H; go_enter Tryd.func28, Tryd.ntmps28
 go_wp2_with (first | ((with_reducible refine gN 7 rfl ?_); refine R_runes (ok := fun _ => True) _ 21 rfl (N := 7) rfl 9 36 (.tmp 6) rfl a0 rfl Tryd.underlying9 Tryd.underlying36 Tryd.underlying21 (of_decide_eq_true (by assumption)) (fun _ _ => trivial) (Below.refl _ _) (Nat.le_refl _) ?_; intro v122 w3 ho4 hb hg_ hnew_; clear hg_ hnew_; (first | rw [← Ny121.out] at ho4 | (simp only [Int.reduceToNat] at ho4; rw [← Ny121.out] at ho4)); have HO123 := oL ho4; replace HB := hB hb; clear hb ho4) | ((with_reducible refine gN 8 rfl ?_); refine Kd.R_lit (Kd.int .i64) _ 3 ?hg (N := 8) ?hd (xs := ([0] : List Int)) (inner := [.int .i64 0]) (ok := fun _ => True) (okp := fun _ => True) ?hr ?hp (fun _ hk => hk) trivial (Below.refl _ _) (Nat.le_refl _) (by simp) ?_; (case hd => rfl); (case hg => rfl); (case hr => first | (go_simp; done) | (go_simp; rfl)); (case hp => exact (Reps.one (show Kd.M (Kd.int .i64) _ _ _ 0 [.int .i64 0] from rfl) (Reps.none _ _))); intro v125 w5 ho6 hb hg_ hnew_; clear hg_ hnew_; (first | rw [← Ny124.out] at ho6 | (simp only [Int.reduceToNat] at ho6; rw [← Ny124.out] at ho6)); have HO126 := oL ho6; replace HO123 := Aside0.mk (Kd.R_below (ro_ HO123) hb); replace HB := hB hb; clear hb ho6; obtain ⟨Ao7, co7, eo7⟩ := Kd.R_slice HO126.out; subst eo7; obtain ⟨Ao8, co8, eo8⟩ := Kd.R_slice HO123.out; subst eo8) | ((with_reducible refine gN 10 rfl ?_); refine bx 10 #[.slice Ao8 y121.length co8, .slice Ao7 y124.length co7] 79 ?_; intro gb127 hg w9 hbox hb; have BK127 := Aside0.mk hbox; have GW127 := gE hg; have GE127 := GW127; replace HO123 := Aside0.mk (Kd.R_below (ro_ HO123) hb); replace HO126 := Aside0.mk (Kd.R_below (ro_ HO126) hb); replace HB := hB hb; clear hb hbox hg; have hcz10 := cs2 BK127.out))
 go_loopg [16] k (fun kq v16 w' => ∃ (x16_1 : Int) (x128001_1 : List Int) (u128001 : Value), v16 = .int .i64 x16_1 ∧ Aside0 (text_Of.l0 kq y121 (y121.length : Int) x16_1 y121 x128001_1 = some (r1, r2)) ∧ Aside0 (kq ≤ k) ∧ Aside0 (Kd.R (Kd.int .i32) 21 w' w.heap.size (fun _ => True) (.slice Ao8 y121.length co8) y121) ∧ Aside0 (Kd.R (Kd.int .i32) 21 w' w.heap.size (fun _ => True) (.slice Ao8 y121.length co8) y121) ∧ Aside0 (Kd.R (Kd.int .i64) 3 w' w.heap.size (fun _ => True) u128001 x128001_1) ∧ Aside0 (w'.heap[gb127]? = some (.cells #[(.slice Ao8 y121.length co8), u128001] 79 (0, 0))) ∧ Aside0 (Below w.heap.size w w'))
 case atStart => exact ⟨(0), (y124), (.slice Ao7 y124.length co7), r3_, H, ⟨Nat.le_refl _⟩, ⟨ro_ HO123⟩, ⟨ro_ HO123⟩, ⟨ro_ HO126⟩, ⟨BK127.out⟩, ⟨bl_⟩⟩
 case round =>
  clear H
  try clear c2
  try clear c2b0
  try clear c2b1
  try clear hcz10
  obtain ⟨x16_1, x128001_1, u128001, rfl, HA, HK1, HO_14, HO_128000, HO_128001, BK127, HB⟩ := hrel
  cases gk with
  | zero => exact absurd HA.out (by simp [text_Of.l0])
  | succ k1 =>
   obtain ⟨H⟩ := HA; simp only [text_Of.l0] at H; replace H := nfd H; obtain ⟨c11b0, H⟩ | ⟨c11b0, H⟩ := H
   ·
    replace H := so2 H; obtain ⟨rfl, rfl⟩ := H; go_wp2; go_ret
    exact ⟨_, _, _, by first | rfl | (simp [errW_none, errW_some] <;> rfl) | (simp [*, errW_none, errW_some] <;> rfl), ro_ HO_128000, ro_ HO_128001, ⟨by (with_reducible repeat (first | refine blk_drewN ?_ _ | refine blk_drew ?_ | refine blk_alloc ?_ _)); exact BK127.out, GE127.out⟩, bl_⟩
   replace H := ifq H; obtain ⟨c12b0, c13b0, H⟩ := H; replace H := nfe H; obtain ⟨c14b0, c14b1, H⟩ | ⟨c14b0, c14b1, H⟩ := H
   ·
    replace H := Aside0.mk H; obtain ⟨p128, q128, ad128, e128, hx128_0⟩ := ix_ (Kd.at_int (Kd.R_reads' HO_14.out).2.2 x16_1); cases e128; go_wp2
    go_roundg k1
    case measure => have := HK1.out; omega
    case rel => exact ⟨(wrap64 (x16_1 + 1)), (x128001_1), (u128001), r3_, H, ⟨by have := HK1.out; omega⟩, ⟨ro_ HO_14⟩, ⟨ro_ HO_128000⟩, ⟨ro_ HO_128001⟩, ⟨BK127.out⟩, ⟨bl_⟩⟩
   by_cases c15 : x128001_1.length < 17592186044416
   rotate_left
   ·
    rw [if_neg c15] at H
    exact absurd H (by simp)
   rw [if_pos c15] at H; have LMc15 := Aside0.mk c15; clear c15; obtain ⟨y129, hy129⟩ : ∃ y_ : List Int, y_ = (x128001_1 ++ [wrap64 (x16_1 + 1)]) := ⟨_, rfl⟩
   replace H : (text_Of.l0 k1 y121 (y121.length : Int) (wrap64 (x16_1 + 1)) y121 y129) = some (r1, r2) := by first | (rw [hy129]; with_reducible exact H) | (have H2_ := (Option.bind_some _ _).symm.trans H; rw [hy129]; with_reducible exact H2_) | (have H2_ := (Option.bind_some _ _).symm.trans H; with_reducible exact H2_) | with_reducible exact H | (rw [hy129]; exact H) | exact H
   have Ny129 := Aside0.mk hy129; clear hy129; replace H := Aside0.mk H; obtain ⟨p128, q128, ad128, e128, hx128_0⟩ := ix_ (Kd.at_int (Kd.R_reads' HO_14.out).2.2 x16_1); cases e128; have hcz16 := cs2 BK127.out
   go_wp2_with (first | ((with_reducible refine gate_builtin (b := .append) (xs := #[.tmp 27, .tmp 30]) rfl ?_); at_builtin; refine Kd.R_append (Kd.int .i64) (w0 := w) w.heap.size rfl (.tmp 27) (.tmp 30) 37 3 (.int .i64 0) 8 rfl Tryd.underlying37 info3 rfl (by decide) (by omega) u128001 x128001_1 (wrap64 (x16_1 + 1)) [.int .i64 (wrap64 (x16_1 + 1))] (fun _ => True) (fun _ => False) rfl rfl ?aP (fun _ hk => hk.elim) ?aF ?aO ?aB ?aS ?aL ?_; (case aP => exact rfl); (case aB => exact bl_); (case aF => exact (fun _ _ => trivial)); (case aO => exact (ro_ HO_128001)); (case aS => exact (below_size bl_)); (case aL => have := LMc15.out; omega); intro v130 w17 ho hb hg hat; rw [← Ny129.out] at ho; have HO131 := Aside0.mk (ho); replace HO_14 := Aside0.mk (Kd.R_over' (ro_ HO_14) (Kd.R_typed (ro_ HO_128001)) (by decide) hg); replace HO_128000 := Aside0.mk (Kd.R_over' (ro_ HO_128000) (Kd.R_typed (ro_ HO_128001)) (by decide) hg); replace BK127 := Aside0.mk (blk_grown (g := gb127) (o := .cells #[.slice (some ad128) y121.length co8, u128001] 79 (0, 0)) (by exact BK127.out) hg (Kd.R_ne HO_128001.out BK127.out (by decide))); replace HB := Aside0.mk (hb); clear HO_128001; clear ho hb hg hat; obtain ⟨Ao18, co18, eo18⟩ := Kd.R_slice HO131.out; subst eo18; have hcz19 := cs2 BK127.out))
   go_roundg k1
   case measure => have := HK1.out; omega
   case rel => exact ⟨(wrap64 (x16_1 + 1)), (y129), (.slice Ao18 y129.length co18), r3_, H, ⟨by have := HK1.out; omega⟩, ⟨by (with_reducible repeat (first | apply Kd.R_alloc | apply Kd.R_drewN | apply Kd.R_drew)); exact Kd.R_mono (Kd.R_far (p := ⟨gb127, 1, none⟩) (Kd.R_types HO_14.out BK127.out (by decide)) (fun _ hk => hk.2) (.slice Ao18 y129.length co18)) (fun _ hk => trivial)⟩, ⟨by (with_reducible repeat (first | apply Kd.R_alloc | apply Kd.R_drewN | apply Kd.R_drew)); exact Kd.R_mono (Kd.R_far (p := ⟨gb127, 1, none⟩) (Kd.R_types HO_128000.out BK127.out (by decide)) (fun _ hk => hk.2) (.slice Ao18 y129.length co18)) (fun _ hk => trivial)⟩, ⟨by (with_reducible repeat (first | apply Kd.R_alloc | apply Kd.R_drewN | apply Kd.R_drew)); exact Kd.R_mono (Kd.R_far (p := ⟨gb127, 1, none⟩) (Kd.R_types HO131.out BK127.out (by decide)) (fun _ hk => hk.2) (.slice Ao18 y129.length co18)) (fun _ hk => trivial)⟩, ⟨bk_⟩, ⟨bl_⟩⟩

/-! ### text_Map_Is: function 29 -/
def text_Map_Is.f (l0_0 : List Int) (l0_1 : List Int) (a1 : Int) : Option (Bool) := if a1 ≥ 0 then (some (decide (a1 ≤ (l0_0.length : Int)))) else (some false)
theorem text_Map_Is.calls {g0 : Nat} {A0_0 : Option Addr} {c0_0 : Nat} {l0_0 : List Int} {A0_1 : Option Addr} {c0_1 : Nat} {l0_1 : List Int} {a1 : Int} {r : Bool} {w : World} (hg0 : w.heap[g0]? = some (.cells #[.slice A0_0 l0_0.length c0_0, .slice A0_1 l0_1.length c0_1] 79 (0, 0))) (hr0_0 : Kd.C (Kd.int .i32) w A0_0 l0_0.length l0_0) (hc0_0 : l0_0.length ≤ c0_0) (hr0_1 : Kd.C (Kd.int .i64) w A0_1 l0_1.length l0_1) (hc0_1 : l0_1.length ≤ c0_1) (H : text_Map_Is.f l0_0 l0_1 a1 = some r) :
  Calls Tryd.prog 29 #[.pointer (some ⟨g0, 0, none⟩), .int .i64 a1] w fun e w' => e = .returned (.bool r) ∧ Drawn0 w w' := by
 have BK0 := Aside0.mk hg0; clear hg0; have HR0_0 := Aside0.mk hr0_0; have HC0_0 := Aside0.mk hc0_0; clear hr0_0 hc0_0; have HR0_1 := Aside0.mk hr0_1; have HC0_1 := Aside0.mk hc0_1; clear hr0_1 hc0_1; unfold text_Map_Is.f at H; replace H := nfd H; obtain ⟨c3b0, H⟩ | ⟨c3b0, H⟩ := H
 ·
  obtain rfl := Option.some.inj H; go_enter Tryd.func29, Tryd.ntmps29
  go_wp2; go_ret
  exact ⟨r3_, dr_⟩
 obtain rfl := Option.some.inj H; have hcz4 := cs2 BK0.out; go_enter Tryd.func29, Tryd.ntmps29
 go_wp2; go_ret
 exact ⟨r3_, dr_⟩

/-! ### seek_Is: function 39 -/
def seek_Is.f (a0 : Int) : Option (Bool) := if a0 = 102 then (some true) else (if a0 = 70 then (some true) else (if a0 = 116 then (some true) else (some (a0 == 84))))
theorem seek_Is.calls {a0 : Int} {r : Bool} {w : World} (H : seek_Is.f a0 = some r) :
  Calls Tryd.prog 39 #[.int .i64 a0] w fun e w' => e = .returned (.bool r) ∧ Below w.heap.size w w' := by
 have HB := Aside0.mk (Below.refl w.heap.size w); unfold seek_Is.f at H; replace H := ife H; obtain ⟨c2b0, c2b1, H⟩ | ⟨c2b0, c2b1, H⟩ := H
 ·
  obtain rfl := Option.some.inj H; go_enter Tryd.func39, Tryd.ntmps39
  go_wp2; go_ret
  exact ⟨rr_, bl_⟩
 replace H := ife H; obtain ⟨c3b0, c3b1, H⟩ | ⟨c3b0, c3b1, H⟩ := H
 ·
  obtain rfl := Option.some.inj H; go_enter Tryd.func39, Tryd.ntmps39
  go_wp2; go_ret
  exact ⟨rr_, bl_⟩
 replace H := nfe H; obtain ⟨c4b0, c4b1, H⟩ | ⟨c4b0, c4b1, H⟩ := H
 ·
  obtain rfl := Option.some.inj H; go_enter Tryd.func39, Tryd.ntmps39
  go_wp2; go_ret
  exact ⟨rr_, bl_⟩
 obtain rfl := Option.some.inj H; go_enter Tryd.func39, Tryd.ntmps39
 go_wp2; go_ret
 exact ⟨rr_, bl_⟩

end Go.Proofs.YtbgmmcngkdhpcaaDoor.P
