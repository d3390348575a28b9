/- The walks of the functions that these statements reach: each Go function as a plain Lean function, and the proof that its call comes to that. Written by the session's program wip/pp.py. -/
import Derived.Test.YtbgmmcngkdhpcaaDoorP0
import Derived.Test.YtbgmmcngkdhpcaaDoorP4
import Derived.Test.YtbgmmcngkdhpcaaDoorP6
import Derived.Test.YtbgmmcngkdhpcaaDoorP8
import Derived.Test.YtbgmmcngkdhpcaaDoorP11
namespace Go.Proofs.YtbgmmcngkdhpcaaDoor.P
open Go.Proofs.YtbgmmcngkdhpcaaDoor
open Go.RowKit Go.Proofs.YtbgmmcngkdhpcaaDoorW.PrintWords Go.Proofs.YtbgmmcngkdhpcaaDoorW.PrintLast Go.Proofs.YtbgmmcngkdhpcaaDoorW.PrintMore
attribute [local go_sem] cell_isSome max2_int min2_int max_two min_two max_three min_three max_four min_four   -- for this text's walks alone
set_option linter.unusedVariables false
set_option linter.unusedSimpArgs false
set_option maxHeartbeats 8000000
set_option maxRecDepth 100000

/-! ### text_Map_First: function 96 -/
def text_Map_First.l0 : Nat → Int → Int → List Int → List Int → Option (Int)
  | 0, _, _, _, _ => none
  | k + 1, x1, x5, v0, v1 => (text_Map_End.f v0 v1 x1).bind fun t302 => (if x5 < t302 then (if 0 ≤ x5 then (if x5 < (v0.length : Int) then ((text_Class.f k (wrap64 (rd v0 x5))).bind fun t304 => (if t304 = 0 then (text_Map_First.l0 k x1 (wrap64 (x5 + 1)) v0 v1) else (some x5))) else (none)) else (none)) else (some x5))
def text_Map_First.f (k : Nat) (l0_0 : List Int) (l0_1 : List Int) (a1 : Int) : Option (Int) := if 0 ≤ a1 then (if a1 < (l0_1.length : Int) then (text_Map_First.l0 k a1 (rd l0_1 a1) l0_0 l0_1) else (none)) else (none)
theorem text_Map_First.calls {k : Nat} {g0 : Nat} {A0_0 : Option Addr} {c0_0 : Nat} {l0_0 : List Int} {A0_1 : Option Addr} {c0_1 : Nat} {l0_1 : List Int} {a1 : Int} {r : Int} {w : World} (hg0 : w.heap[g0]? = some (.cells #[.slice A0_0 l0_0.length c0_0, .slice A0_1 l0_1.length c0_1] 79 (0, 0))) (hr0_0 : Kd.C (Kd.int .i32) w A0_0 l0_0.length l0_0) (hc0_0 : l0_0.length ≤ c0_0) (hr0_1 : Kd.C (Kd.int .i64) w A0_1 l0_1.length l0_1) (hc0_1 : l0_1.length ≤ c0_1) (H : text_Map_First.f k l0_0 l0_1 a1 = some r) :
  Calls Tryd.prog 96 #[.pointer (some ⟨g0, 0, none⟩), .int .i64 a1] w fun e w' => e = .returned (.int .i64 r) ∧ Drawn0 w w' := by
 have BK0 := Aside0.mk hg0; clear hg0; have HR0_0 := Aside0.mk hr0_0; have HC0_0 := Aside0.mk hc0_0; clear hr0_0 hc0_0; have HR0_1 := Aside0.mk hr0_1; have HC0_1 := Aside0.mk hc0_1; clear hr0_1 hc0_1; unfold text_Map_First.f at H; replace H := ifq H; obtain ⟨c3b0, c4b0, H⟩ := H; replace H := Aside0.mk H; have hcz5 := cs2 BK0.out; obtain ⟨p301, q301, ad301, e301, hx301_0⟩ := ix_ (Kd.at_int HR0_1.out a1)
 cases e301; go_enter Tryd.func96, Tryd.ntmps96
 go_wp2
 go_loopg [5] k (fun kq v5 w' => ∃ (x5_1 : Int), v5 = .int .i64 x5_1 ∧ Aside0 (text_Map_First.l0 kq a1 x5_1 l0_0 l0_1 = some r) ∧ Aside0 (kq ≤ k) ∧ Aside0 (w'.heap[g0]? = some (.cells #[(.slice A0_0 l0_0.length c0_0), (.slice (some ad301) l0_1.length c0_1)] 79 (0, 0))) ∧ Drawn0 w w')
 case atStart => exact ⟨(rd l0_1 a1), r3_, H, ⟨Nat.le_refl _⟩, ⟨BK0.out⟩, dr_⟩
 case round =>
  clear H
  try clear c3b0
  try clear c4b0
  try clear hcz5
  try clear hx301_0
  try clear p301
  try clear q301
  obtain ⟨x5_1, rfl, HA, HK1, BK0, ⟨m1, rfl⟩⟩ := hrel; simp only [World.heap_drewN] at BK0
  cases gk with
  | zero => exact absurd HA.out (by simp [text_Map_First.l0])
  | succ k1 =>
   obtain ⟨H⟩ := HA; simp only [text_Map_First.l0] at H; replace H := bindA H; obtain ⟨t302, A6, H⟩ := H; (try dsimp only at H); replace H := nfd H; obtain ⟨c7b0, H⟩ | ⟨c7b0, H⟩ := H
   ·
    obtain rfl := Option.some.inj H
    go_wp2_with (first | ((with_reducible refine gC 50 rfl ?_); refine goesL1 (some 16) Tryd.func50 #[.pointer (some ⟨g0, 0, none⟩), .int .i64 a1] rfl (map2 rfl rfl) ?_; refine cm_ (text_Map_End.calls sd_ sd_ sd_ sd_ sd_ A6.out) ?_; rintro e w' ⟨rfl, nd, rfl⟩; refine ⟨_, rfl, ?_⟩))
    go_ret
    exact ⟨r3_, dr_⟩
   replace H := ifq H; obtain ⟨c8b0, c9b0, H⟩ := H; replace H := bindA H; obtain ⟨t304, A10, H⟩ := H; (try dsimp only at H); replace H := nfe H; obtain ⟨c11b0, c11b1, H⟩ | ⟨c11b0, c11b1, H⟩ := H
   ·
    obtain rfl := Option.some.inj H
    go_wp2_with (first | ((with_reducible refine gC 50 rfl ?_); refine goesL1 (some 16) Tryd.func50 #[.pointer (some ⟨g0, 0, none⟩), .int .i64 a1] rfl (map2 rfl rfl) ?_; refine cm_ (text_Map_End.calls sd_ sd_ sd_ sd_ sd_ A6.out) ?_; rintro e w' ⟨rfl, nd, rfl⟩; refine ⟨_, rfl, ?_⟩; have hcz13 := cs2 BK0.out; obtain ⟨p303, q303, ad303, e303, hx303_0⟩ := ix_ (Kd.at_int HR0_0.out x5_1); cases e303) | (go_at_call 120; (with_reducible refine (text_Class.calls A10.out).mono ?_); rintro e w' ⟨rfl, nd, rfl⟩))
    go_ret
    exact ⟨r3_, dr_⟩
   replace H := Aside0.mk H
   go_wp2_with (first | ((with_reducible refine gC 50 rfl ?_); refine goesL1 (some 16) Tryd.func50 #[.pointer (some ⟨g0, 0, none⟩), .int .i64 a1] rfl (map2 rfl rfl) ?_; refine cm_ (text_Map_End.calls sd_ sd_ sd_ sd_ sd_ A6.out) ?_; rintro e w' ⟨rfl, nd, rfl⟩; refine ⟨_, rfl, ?_⟩; have hcz12 := cs2 BK0.out; obtain ⟨p303, q303, ad303, e303, hx303_0⟩ := ix_ (Kd.at_int HR0_0.out x5_1); cases e303) | (go_at_call 120; (with_reducible refine (text_Class.calls A10.out).mono ?_); rintro e w' ⟨rfl, nd, rfl⟩))
   go_roundg k1
   case measure => have := HK1.out; omega
   case rel => exact ⟨(wrap64 (x5_1 + 1)), r3_, H, ⟨by have := HK1.out; omega⟩, ⟨BK0.out⟩, dr_⟩

/-! ### move_marked: function 69 -/
def move_marked.j0 : Nat → Int → Bool → Int → Int → Int → Int → Int → Int → List Int → List Int → Option (Int × Int × Int)
  | 0, _, _, _, _, _, _, _, _, _, _ => none
  | k + 1, x9, x27, v0, v1, v2, v3, v4, v5, v6, v7 => if x27 = true then (some (0, 0, 6)) else (if v3 = 96 then (some (x9, 0, 0)) else ((text_Map_Row.f k v6 v7 x9).bind fun t317 => ((text_Map_First.f k v6 v7 t317).bind fun t318 => (some (t318, 2, 0)))))
def move_marked.f (k : Nat) (a0 : ByteArray) (a1_0 : Int) (a1_1 : Int) (a1_2 : Int) (a1_3 : Int) (a1_4 : Int) (a1_5 : Int) (l2 : List (S89)) : Option (Int × Int × Int) := (text_Of.f k a0).bind fun bt307 => ((marks_Get.f k l2 a1_5).bind fun bt314 => (if bt314.2 = 0 then ((text_Map_Is.f bt307.1 bt307.2 bt314.1).bind fun t316 => (move_marked.j0 k bt314.1 (!t316) a1_0 a1_1 a1_2 a1_3 a1_4 a1_5 bt307.1 bt307.2)) else (move_marked.j0 k bt314.1 true a1_0 a1_1 a1_2 a1_3 a1_4 a1_5 bt307.1 bt307.2)))
theorem move_marked.calls {k : Nat} {a0 : ByteArray} {a1_0 : Int} {a1_1 : Int} {a1_2 : Int} {a1_3 : Int} {a1_4 : Int} {a1_5 : Int} {A2 : Option Addr} {c2 : Nat} {l2 : List (S89)} {r1 : Int} {r2 : Int} {r3 : Int} {w : World} (hr2 : Kd.C k89 w A2 l2.length l2) (hc2 : l2.length ≤ c2) (H : move_marked.f k a0 a1_0 a1_1 a1_2 a1_3 a1_4 a1_5 l2 = some (r1, r2, r3)) :
  Calls Tryd.prog 69 #[.string a0, .agg #[.int .i64 a1_0, .int .i64 a1_1, .int .i64 a1_2, .int .i64 a1_3, .int .i64 a1_4, .int .i64 a1_5], .slice A2 l2.length c2] w fun e w' => e = .returned (.tuple #[.agg #[.int .i64 r1, .int .i64 r2], .int .i64 r3]) ∧ Below w.heap.size w w' := by
 have hu52 := Tryd.underlying52; have hu54 := Tryd.underlying54; have HR2 := Aside0.mk hr2; have HC2 := Aside0.mk hc2; clear hr2 hc2; have HB := Aside0.mk (Below.refl w.heap.size w); unfold move_marked.f at H; replace H := bindA H; obtain ⟨⟨t307, t310⟩, A4, H⟩ := H; (try dsimp only at H); replace H := bindA H; obtain ⟨⟨t314, t315⟩, A5, H⟩ := H; (try dsimp only at H); have HC6 := Aside0.mk H; clear H
 go_enter Tryd.func69, Tryd.ntmps69
 go_upto_region 3 with (first | ((with_reducible refine gN 4 rfl ?_); refine bx 4 #[.int .i64 a1_0, .int .i64 a1_1, .int .i64 a1_2, .int .i64 a1_3, .int .i64 a1_4, .int .i64 a1_5] 52 ?_; intro gb305 hg w7 hbox hb; have BK305 := Aside0.mk hbox; have GW305 := gE hg; have GE305 := GW305; replace HB := hB hb; clear hb hbox hg) | ((with_reducible refine gN 6 rfl ?_); refine bx 6 #[.int .i64 0, .int .i64 0] 54 ?_; intro gb306 hg w8 hbox hb; have BK306 := Aside0.mk hbox; have GW306 := gE hg; have GE306 := GW306; have NB305_306 := nbl hg BK305.out; have NB306_305 := nbr hg BK305.out; replace BK305 := blB hb BK305; replace HB := hB hb; clear hb hbox hg) | ((with_reducible refine gC 28 rfl ?_); refine goesL1 (some 12) Tryd.func28 #[.string a0] rfl (map1 rfl) ?_; (with_reducible refine (text_Of.calls A4.out).mono ?_); rintro e w9 ⟨v308, v311, gb313, rfl, ho0, ho1, ⟨hx313_, hz313_⟩, hb⟩; refine ⟨_, rfl, ?_⟩; have HO309 := oL ho0; have HO312 := oL ho1; have BK313 := Aside0.mk hx313_; have GW313 := gZ hz313_; have GE313 := GW313; have NB305_313 := nzl hz313_ BK305; have NB313_305 := nzr hz313_ BK305; have NB306_313 := nzl hz313_ BK306; have NB313_306 := nzr hz313_ BK306; replace BK305 := blB hb BK305; replace BK306 := blB hb BK306; replace HB := hB hb; (try clear hb); (try clear ho0); (try clear ho1); (try clear hx313_ hz313_); have hcz12 := cs6 BK305.out) | ((with_reducible refine gC 95 rfl ?_); refine goesL1 (some 17) Tryd.func95 #[.slice A2 l2.length c2, .int .i64 a1_5] rfl (map2 rfl rfl) ?_; refine cm_ (marks_Get.calls sd_ sd_ A5.out) ?_; rintro e w13 ⟨rfl, hb⟩; refine ⟨_, rfl, ?_⟩; replace HO309 := Aside0.mk (Kd.R_below (ro_ HO309) hb); replace HO312 := Aside0.mk (Kd.R_below (ro_ HO312) hb); replace BK305 := blB hb BK305; replace BK306 := blB hb BK306; replace BK313 := blB hb BK313; replace HB := hB hb; (try clear hb); (try clear hcz12)))
 (try simp only [Act.put, List.setIfInBounds_toArray, List.set_cons_zero, List.set_cons_succ])
 go_cut [27] (fun v27 wc => ∃ (kq : Nat) (x27_5 : Bool), v27 = .bool x27_5 ∧ Aside0 (move_marked.j0 kq t314 x27_5 a1_0 a1_1 a1_2 a1_3 a1_4 a1_5 t307 t310 = some (r1, r2, r3)) ∧ Aside0 (kq ≤ k) ∧ Aside0 (Kd.R (Kd.int .i32) 21 wc w.heap.size (fun _ => True) v308 t307) ∧ Aside0 (Kd.R (Kd.int .i64) 3 wc w.heap.size (fun _ => True) v311 t310) ∧ Aside0 (wc.heap[gb305]? = some (.cells #[.int .i64 a1_0, .int .i64 a1_1, .int .i64 a1_2, .int .i64 a1_3, .int .i64 a1_4, .int .i64 a1_5] 52 (0, 0))) ∧ Aside0 (wc.heap[gb306]? = some (.cells #[.int .i64 0, .int .i64 0] 54 (0, 0))) ∧ Aside0 (wc.heap[gb313]? = some (.cells #[v308, v311] 79 (0, 0))) ∧ Aside0 (Below w.heap.size w wc))
 case first =>
  obtain ⟨H⟩ := HC6; replace H := nfe H; obtain ⟨c14b0, c14b1, H⟩ | ⟨c14b0, c14b1, H⟩ := H
  ·
   (first | rw [c14b0] | (simp only [i64_w, i32_w]; rw [c14b0]) | skip); replace H := Aside0.mk H; go_wp2; go_meet
   case rel => exact ⟨_, (true), r3_, H, ⟨ol_⟩, ⟨ro_ HO309⟩, ⟨ro_ HO312⟩, ⟨BK305.out⟩, ⟨BK306.out⟩, ⟨BK313.out⟩, ⟨bl_⟩⟩
  (first | rw [c14b0] | (simp only [i64_w, i32_w]; rw [c14b0]) | skip); replace H := bindA H; obtain ⟨t316, A15, H⟩ := H; (try dsimp only at H); replace H := Aside0.mk H; obtain ⟨Ao16, co16, eo16⟩ := Kd.R_slice HO309.out; subst eo16; obtain ⟨Ao17, co17, eo17⟩ := Kd.R_slice HO312.out; subst eo17
  go_wp2_with (first | (go_at_call 29; refine cm_ (text_Map_Is.calls sd_ sd_ sd_ sd_ sd_ A15.out) ?_; rintro e w' ⟨rfl, nd, rfl⟩))
  go_meet
  case rel => exact ⟨_, (!t316), r3_, H, ⟨ol_⟩, ⟨ro_ HO309⟩, ⟨ro_ HO312⟩, ⟨BK305.out⟩, ⟨BK306.out⟩, ⟨BK313.out⟩, ⟨bl_⟩⟩
 case rest =>
  clear HC6
  try clear c2
  try clear hcz12
  obtain ⟨kq, x27_5, rfl, HA, HJ5, HO_314000, HO_314001, BK305, BK306, BK313, HB⟩ := hcut
  cases kq with
  | zero => exact absurd HA.out (by simp [move_marked.j0])
  | succ kj5 =>
   obtain ⟨H⟩ := HA; simp only [move_marked.j0] at H; replace H := ifb H; obtain ⟨rfl, H⟩ | ⟨rfl, H⟩ := H
   ·
    replace H := so3 H; obtain ⟨rfl, rfl, rfl⟩ := H; have hcz21 := cs2 BK306.out; go_wp2; refine bodyPost_ret (results_ct rfl _ _ gb306 54 #[.int .i64 0, .int .i64 0] (0, 0) _ rfl bk_ Tryd.underlying54 rfl (by kernel_rfl)) rfl ?_
    exact ⟨rr_, bl_⟩
   replace H := ife H; obtain ⟨c22b0, c22b1, H⟩ | ⟨c22b0, c22b1, H⟩ := H
   ·
    replace H := so3 H; obtain ⟨rfl, rfl, rfl⟩ := H; have hcz25 := cs6 BK305.out; have hcz27 := cs2 BK306.out; go_wp2; refine bodyPost_ret (results_ct rfl _ _ gb306 54 #[.int .i64 t314, .int .i64 0] (0, 0) _ rfl bk_ Tryd.underlying54 rfl (by kernel_rfl)) rfl ?_
    exact ⟨rr_, bl_⟩
   replace H := bindA H; obtain ⟨t317, A28, H⟩ := H; (try dsimp only at H); replace H := bindA H; obtain ⟨t318, A29, H⟩ := H; (try dsimp only at H); replace H := so3 H; obtain ⟨rfl, rfl, rfl⟩ := H; have hcz32 := cs6 BK305.out; obtain ⟨Ao33, co33, eo33⟩ := Kd.R_slice HO_314000.out; subst eo33; obtain ⟨Ao34, co34, eo34⟩ := Kd.R_slice HO_314001.out; subst eo34
   go_wp2_with (first | ((with_reducible refine gC 49 rfl ?_); refine goesL1 (some 37) Tryd.func49 #[.pointer (some ⟨gb313, 0, none⟩), .int .i64 t314] rfl (map2 rfl rfl) ?_; refine cm_ (text_Map_Row.calls sd_ sd_ sd_ sd_ sd_ A28.out) ?_; rintro e w' ⟨rfl, nd, rfl⟩; refine ⟨_, rfl, ?_⟩; (try (rw [drewN_self wc]; generalize hq_ : World.drewN wc _ = wc; have n0_ : Aside0 (Kd.R (Kd.int .i32) 21 wc w.heap.size (fun _ => True) (.slice Ao33 t307.length co33) t307) := ⟨by rw [← hq_]; exact (ro_ HO_314000)⟩; have n1_ : Aside0 (Kd.R (Kd.int .i64) 3 wc w.heap.size (fun _ => True) (.slice Ao34 t310.length co34) t310) := ⟨by rw [← hq_]; exact (ro_ HO_314001)⟩; have n2_ : Aside0 (wc.heap[gb305]? = some (.cells #[.int .i64 a1_0, .int .i64 a1_1, .int .i64 a1_2, .int .i64 a1_3, .int .i64 a1_4, .int .i64 a1_5] 52 (0, 0))) := ⟨by rw [← hq_]; exact (by exact BK305.out)⟩; have n3_ : Aside0 (wc.heap[gb306]? = some (.cells #[.int .i64 0, .int .i64 0] 54 (0, 0))) := ⟨by rw [← hq_]; exact (by exact BK306.out)⟩; have n4_ : Aside0 (wc.heap[gb313]? = some (.cells #[.slice Ao33 t307.length co33, .slice Ao34 t310.length co34] 79 (0, 0))) := ⟨by rw [← hq_]; exact (by exact BK313.out)⟩; have n5_ : Aside0 (Below w.heap.size w wc) := ⟨by rw [← hq_]; exact bl_⟩; clear HO_314000 HO_314001 BK305 BK306 BK313 HB hq_; have HO_314000 := n0_; have HO_314001 := n1_; have BK305 := n2_; have BK306 := n3_; have BK313 := n4_; have HB := n5_; clear n0_ n1_ n2_ n3_ n4_ n5_))) | ((with_reducible refine gC 96 rfl ?_); refine goesL1 (some 38) Tryd.func96 #[.pointer (some ⟨gb313, 0, none⟩), .int .i64 t317] rfl (map2 rfl rfl) ?_; refine cm_ (text_Map_First.calls sd_ sd_ sd_ sd_ sd_ A29.out) ?_; rintro e w' ⟨rfl, nd, rfl⟩; refine ⟨_, rfl, ?_⟩; (try (rw [drewN_self wc]; generalize hq_ : World.drewN wc _ = wc; have n0_ : Aside0 (Kd.R (Kd.int .i32) 21 wc w.heap.size (fun _ => True) (.slice Ao33 t307.length co33) t307) := ⟨by rw [← hq_]; exact (ro_ HO_314000)⟩; have n1_ : Aside0 (Kd.R (Kd.int .i64) 3 wc w.heap.size (fun _ => True) (.slice Ao34 t310.length co34) t310) := ⟨by rw [← hq_]; exact (ro_ HO_314001)⟩; have n2_ : Aside0 (wc.heap[gb305]? = some (.cells #[.int .i64 a1_0, .int .i64 a1_1, .int .i64 a1_2, .int .i64 a1_3, .int .i64 a1_4, .int .i64 a1_5] 52 (0, 0))) := ⟨by rw [← hq_]; exact (by exact BK305.out)⟩; have n3_ : Aside0 (wc.heap[gb306]? = some (.cells #[.int .i64 0, .int .i64 0] 54 (0, 0))) := ⟨by rw [← hq_]; exact (by exact BK306.out)⟩; have n4_ : Aside0 (wc.heap[gb313]? = some (.cells #[.slice Ao33 t307.length co33, .slice Ao34 t310.length co34] 79 (0, 0))) := ⟨by rw [← hq_]; exact (by exact BK313.out)⟩; have n5_ : Aside0 (Below w.heap.size w wc) := ⟨by rw [← hq_]; exact bl_⟩; clear HO_314000 HO_314001 BK305 BK306 BK313 HB hq_; have HO_314000 := n0_; have HO_314001 := n1_; have BK305 := n2_; have BK306 := n3_; have BK313 := n4_; have HB := n5_; clear n0_ n1_ n2_ n3_ n4_ n5_)); have hcz36 := cs2 BK306.out))
   refine bodyPost_ret (results_ct rfl _ _ gb306 54 #[.int .i64 t318, .int .i64 2] (0, 0) _ rfl bk_ Tryd.underlying54 rfl (by kernel_rfl)) rfl ?_
   exact ⟨rr_, bl_⟩

/-! ### lines_Is: function 97 -/
def lines_Is.f (a0 : Int) : Option (Bool) := if a0 = 16777319 then (some true) else (if a0 > 0 then (if a0 < 128 then ((strings_ContainsRune.f (⟨#[104, 108, 48, 94, 36, 106, 107, 43, 45, 95, 71]⟩ : ByteArray) (wrap32 (a0))).bind fun t319 => (some t319)) else (some false)) else (some false))
theorem lines_Is.calls {a0 : Int} {r : Bool} {w : World} (H : lines_Is.f a0 = some r) :
  Calls Tryd.prog 97 #[.int .i64 a0] w fun e w' => e = .returned (.bool r) ∧ Drawn0 w w' := by
 unfold lines_Is.f at H; replace H := ife H; obtain ⟨c2b0, c2b1, H⟩ | ⟨c2b0, c2b1, H⟩ := H
 ·
  obtain rfl := Option.some.inj H; go_enter Tryd.func97, Tryd.ntmps97
  go_wp2; go_ret
  exact ⟨r3_, dr_⟩
 replace H := nfd H; obtain ⟨c3b0, H⟩ | ⟨c3b0, H⟩ := H
 ·
  obtain rfl := Option.some.inj H; go_enter Tryd.func97, Tryd.ntmps97
  go_wp2; go_ret
  exact ⟨r3_, dr_⟩
 replace H := nfd H; obtain ⟨c4b0, H⟩ | ⟨c4b0, H⟩ := H
 ·
  obtain rfl := Option.some.inj H; go_enter Tryd.func97, Tryd.ntmps97
  go_wp2; go_ret
  exact ⟨r3_, dr_⟩
 replace H := bindA H; obtain ⟨t319, A5, H⟩ := H; (try dsimp only at H); obtain rfl := Option.some.inj H; go_enter Tryd.func97, Tryd.ntmps97
 go_wp2_with (first | (go_at_call 102; (with_reducible refine (strings_ContainsRune.calls (⟨#[104, 108, 48, 94, 36, 106, 107, 43, 45, 95, 71]⟩ : ByteArray) (wrap32 (a0)) t319 _ A5.out).mono ?_); rintro e w' ⟨rfl, nd, rfl⟩))
 go_ret
 exact ⟨r3_, dr_⟩

/-! ### text_Map_Col: function 121 -/
def text_Map_Col.f (l0_0 : List Int) (l0_1 : List Int) (a1 : Int) (a2 : Int) : Option (Int) := if 0 ≤ a1 then (if a1 < (l0_1.length : Int) then ((text_Map_End.f l0_0 l0_1 a1).bind fun t321 => (some (mn (wrap64 ((rd l0_1 a1) + a2)) t321))) else (none)) else (none)
theorem text_Map_Col.calls {g0 : Nat} {A0_0 : Option Addr} {c0_0 : Nat} {l0_0 : List Int} {A0_1 : Option Addr} {c0_1 : Nat} {l0_1 : List Int} {a1 : Int} {a2 : Int} {r : Int} {w : World} (hg0 : w.heap[g0]? = some (.cells #[.slice A0_0 l0_0.length c0_0, .slice A0_1 l0_1.length c0_1] 79 (0, 0))) (hr0_0 : Kd.C (Kd.int .i32) w A0_0 l0_0.length l0_0) (hc0_0 : l0_0.length ≤ c0_0) (hr0_1 : Kd.C (Kd.int .i64) w A0_1 l0_1.length l0_1) (hc0_1 : l0_1.length ≤ c0_1) (H : text_Map_Col.f l0_0 l0_1 a1 a2 = some r) :
  Calls Tryd.prog 121 #[.pointer (some ⟨g0, 0, none⟩), .int .i64 a1, .int .i64 a2] w fun e w' => e = .returned (.int .i64 r) ∧ Below w.heap.size w w' := by
 have BK0 := Aside0.mk hg0; clear hg0; have HR0_0 := Aside0.mk hr0_0; have HC0_0 := Aside0.mk hc0_0; clear hr0_0 hc0_0; have HR0_1 := Aside0.mk hr0_1; have HC0_1 := Aside0.mk hc0_1; clear hr0_1 hc0_1; have HB := Aside0.mk (Below.refl w.heap.size w); unfold text_Map_Col.f at H; replace H := ifq H; obtain ⟨c4b0, c5b0, H⟩ := H; replace H := bindA H; obtain ⟨t321, A6, H⟩ := H; (try dsimp only at H); obtain ⟨ji7, hji7⟩ : ∃ j_ : Int, (mn (wrap64 ((rd l0_1 a1) + a2)) t321) = j_ := ⟨_, rfl⟩
 (first | rw [hji7] at H | simp only [hji7] at H); (try rw [hji7] at A6)
 have hji7_ : (if t321 < (wrap64 ((rd l0_1 a1) + a2)) then t321 else (wrap64 ((rd l0_1 a1) + a2))) = ji7 := hji7
 obtain rfl := Option.some.inj H; have hcz8 := cs2 BK0.out; obtain ⟨p320, q320, ad320, e320, hx320_0⟩ := ix_ (Kd.at_int HR0_1.out a1); cases e320; go_enter Tryd.func121, Tryd.ntmps121
 go_wp2
 repeat (go_quiet (first | (go_at_call 50; refine cm_ (text_Map_End.calls sd_ sd_ sd_ sd_ sd_ A6.out) ?_; rintro e w' ⟨rfl, nd, rfl⟩; (try first | exact ⟨rfl, _, World.drewN_drewN _ _ _⟩ | exact ⟨rfl, _, Eq.trans (World.drewN_drewN _ _ _) (congrArg (World.drewN _) (Nat.add_assoc _ _ _))⟩))); try go_wp2)
 go_ret
 exact ⟨by first | exact rr_ | (simp only [← hji7]; exact rr_), bl_⟩

end Go.Proofs.YtbgmmcngkdhpcaaDoor.P
