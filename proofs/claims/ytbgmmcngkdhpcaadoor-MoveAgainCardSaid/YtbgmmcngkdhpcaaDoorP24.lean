/- The walks of the functions that these statements reach: each Go function as a plain Lean function, and the proof that its call comes to that. Written by the session's program wip/pp.py. -/
import Derived.Test.YtbgmmcngkdhpcaaDoorP0
import Derived.Test.YtbgmmcngkdhpcaaDoorP18
import Derived.Test.YtbgmmcngkdhpcaaDoorP20
import Derived.Test.YtbgmmcngkdhpcaaDoorP21
import Derived.Test.YtbgmmcngkdhpcaaDoorP23
namespace Go.Proofs.YtbgmmcngkdhpcaaDoor.P
open Go.Proofs.YtbgmmcngkdhpcaaDoor
open Go.RowKit Go.Proofs.YtbgmmcngkdhpcaaDoorW.PrintWords Go.Proofs.YtbgmmcngkdhpcaaDoorW.PrintLast Go.Proofs.YtbgmmcngkdhpcaaDoorW.PrintMore
attribute [local go_sem] cell_isSome max2_int min2_int max_two min_two max_three min_three max_four min_four   -- for this text's walks alone
set_option linter.unusedVariables false
set_option linter.unusedSimpArgs false
set_option maxHeartbeats 8000000
set_option maxRecDepth 100000

/-! ### quillref12_Move: function 62 -/
mutual
def quillref12_Move.j0 : Nat → List Int → Int → Int → Int → Int → Int → Int → Int → Int → Bool → Option (Int × Int × Int)
  | 0, _, _, _, _, _, _, _, _, _, _ => none
  | k + 1, x0, x1, x2, x3, x10, x11, x12, x14, x26, x51 => if x51 = true then (if x2 = 108 then (quillref12_Move.j1 k x1 (mn x12 (wrap64 (x1 + x10))) 0) else (quillref12_Move.j1 k x1 (mx x11 (wrap64 (x1 - x10))) 0)) else (if x26 = 48 then (if x11 < 0 then (some (0, 0, 6)) else (some (x11, 0, 0))) else (if x26 = 94 then ((quillref1_First.f k x0 x1).bind fun t556 => (if t556 < 0 then (some (0, 0, 6)) else (some (t556, 0, 0)))) else (if x26 = 36 then ((quillref12_row.f k x0 x1 (wrap64 (x10 - 1))).bind fun t557 => (if t557 ≥ 0 then ((quillref1_End.f k x0 t557).bind fun t558 => (if t558 < 0 then (some (0, 0, 6)) else (some (t558, 1, 0)))) else (if t557 < 0 then (some (0, 0, 6)) else (some (t557, 1, 0))))) else (if x26 = 106 then (quillref12_Move.j2 k x0 x1 x2 x3 x10 x11 x14 x26 (x26 == 106)) else (quillref12_Move.j2 k x0 x1 x2 x3 x10 x11 x14 x26 (x26 == 107))))))
def quillref12_Move.j1 : Nat → Int → Int → Int → Option (Int × Int × Int)
  | 0, _, _, _ => none
  | k + 1, x1, x13, x14 => if x13 = x1 then (some (0, 0, 6)) else (if x13 < 0 then (some (0, 0, 6)) else (some (x13, x14, 0)))
def quillref12_Move.j2 : Nat → List Int → Int → Int → Int → Int → Int → Int → Int → Bool → Option (Int × Int × Int)
  | 0, _, _, _, _, _, _, _, _, _ => none
  | k + 1, x0, x1, x2, x3, x10, x11, x14, x26, x89 => if x89 = true then (if x2 = 107 then (quillref12_Move.j3 k x0 x1 x11 x14 (wrap64 (-x10))) else (quillref12_Move.j3 k x0 x1 x11 x14 x10)) else (if x26 = 43 then (quillref12_Move.j4 k x0 x1 x2 x3 x10 x14 (x26 == 43)) else (if x26 = 45 then (quillref12_Move.j4 k x0 x1 x2 x3 x10 x14 (x26 == 45)) else (quillref12_Move.j4 k x0 x1 x2 x3 x10 x14 (x26 == 95))))
def quillref12_Move.j3 : Nat → List Int → Int → Int → Int → Int → Option (Int × Int × Int)
  | 0, _, _, _, _, _ => none
  | k + 1, x0, x1, x11, x14, x15 => (quillref12_row.f k x0 x1 x15).bind fun t559 => (if t559 ≥ 0 then ((quillref1_End.f k x0 t559).bind fun t560 => (if (mn t560 (wrap64 ((wrap64 (t559 + x1)) - x11))) < 0 then (some (0, 0, 6)) else (some (mn t560 (wrap64 ((wrap64 (t559 + x1)) - x11)), x14, 0)))) else (if t559 < 0 then (some (0, 0, 6)) else (some (t559, x14, 0))))
def quillref12_Move.j4 : Nat → List Int → Int → Int → Int → Int → Int → Bool → Option (Int × Int × Int)
  | 0, _, _, _, _, _, _, _ => none
  | k + 1, x0, x1, x2, x3, x10, x14, x112 => if x112 = true then (if x2 = 45 then (quillref12_Move.j5 k x0 x1 x2 x10 x14 (wrap64 (-x10))) else (quillref12_Move.j5 k x0 x1 x2 x10 x14 x10)) else (if x3 = 0 then (if x2 = 71 then (quillref12_Move.j7 k x0 x14 (x0.length : Int)) else (quillref12_Move.j7 k x0 x14 0)) else (quillref12_Move.j7 k x0 x14 (wrap64 (x3 - 1))))
def quillref12_Move.j5 : Nat → List Int → Int → Int → Int → Int → Int → Option (Int × Int × Int)
  | 0, _, _, _, _, _, _ => none
  | k + 1, x0, x1, x2, x10, x14, x16 => if x2 = 95 then (quillref12_Move.j6 k x0 x1 x14 (wrap64 (x10 - 1))) else (quillref12_Move.j6 k x0 x1 x14 x16)
def quillref12_Move.j6 : Nat → List Int → Int → Int → Int → Option (Int × Int × Int)
  | 0, _, _, _, _ => none
  | k + 1, x0, x1, x14, x16 => (quillref12_row.f k x0 x1 x16).bind fun t561 => (if t561 ≥ 0 then ((quillref1_First.f k x0 t561).bind fun t562 => (if t562 < 0 then (some (0, 0, 6)) else (some (t562, x14, 0)))) else (if t561 < 0 then (some (0, 0, 6)) else (some (t561, x14, 0))))
def quillref12_Move.j7 : Nat → List Int → Int → Int → Option (Int × Int × Int)
  | 0, _, _, _ => none
  | k + 1, x0, x14, x17 => quillref12_Move.l0 k x0 0 x14 x17
def quillref12_Move.l0 : Nat → List Int → Int → Int → Int → Option (Int × Int × Int)
  | 0, _, _, _, _ => none
  | k + 1, x0, x13, x14, x17 => if x17 > 0 then ((quillref12_row.f k x0 x13 1).bind fun t563 => (if t563 ≥ 0 then ((quillref12_row.f k x0 x13 1).bind fun t564 => (quillref12_Move.l0 k x0 t564 x14 (wrap64 (x17 - 1)))) else ((quillref1_First.f k x0 x13).bind fun t565 => (if t565 < 0 then (some (0, 0, 6)) else (some (t565, x14, 0)))))) else ((quillref1_First.f k x0 x13).bind fun t566 => (if t566 < 0 then (some (0, 0, 6)) else (some (t566, x14, 0))))
end
def quillref12_Move.f (k : Nat) (l0 : List Int) (a1 : Int) (a2 : Int) (a3 : Int) : Option (Int × Int × Int) := (quillref1_Begin.f k l0 a1).bind fun t554 => ((quillref1_End.f k l0 a1).bind fun t555 => (if a2 = 104 then (quillref12_Move.j0 k l0 a1 a2 a3 (mx 1 a3) t554 t555 2 a2 (a2 == 104)) else (quillref12_Move.j0 k l0 a1 a2 a3 (mx 1 a3) t554 t555 2 a2 (a2 == 108))))
theorem quillref12_Move.calls {k : Nat} {A0 : Option Addr} {c0 : Nat} {l0 : List Int} {a1 : Int} {a2 : Int} {a3 : Int} {r1 : Int} {r2 : Int} {r3 : Int} {w : World} (hr0 : Kd.C (Kd.int .i32) w A0 l0.length l0) (hc0 : l0.length ≤ c0) (H : quillref12_Move.f k l0 a1 a2 a3 = some (r1, r2, r3)) :
  Calls Tryd.prog 62 #[.slice A0 l0.length c0, .int .i64 a1, .int .i64 a2, .int .i64 a3] w fun e w' => e = .returned (.tuple #[.agg #[.int .i64 r1, .int .i64 r2], .int .i64 r3]) ∧ Below w.heap.size w w' := by
 have hu54 := Tryd.underlying54; have HR0 := Aside0.mk hr0; have HC0 := Aside0.mk hc0; clear hr0 hc0; have HB := Aside0.mk (Below.refl w.heap.size w); unfold quillref12_Move.f at H; obtain ⟨ji5, hji5⟩ : ∃ j_ : Int, (mx 1 a3) = j_ := ⟨_, rfl⟩; (first | rw [hji5] at H | simp only [hji5] at H); (try (have hji5l : 1 ≤ ji5 := by (rw [← hji5]; unfold mx; (repeat' split) <;> omega))); (try (have hji5m : 0 ≤ ji5 := by omega))
 have hji5_ : (if 1 < a3 then a3 else 1) = ji5 := hji5
 replace H := bindA H; obtain ⟨t554, A6, H⟩ := H; (try dsimp only at H); replace H := bindA H; obtain ⟨t555, A7, H⟩ := H; (try dsimp only at H); have HC8 := Aside0.mk H; clear H; go_enter Tryd.func62, Tryd.ntmps62
 go_upto_if 51 with (first | ((with_reducible refine gN 8 rfl ?_); refine bx 8 #[.int .i64 0, .int .i64 0] 54 ?_; intro gb553 hg w9 hbox hb; have BK553 := Aside0.mk hbox; have GW553 := gE hg; have GE553 := GW553; replace HB := hB hb; clear hb hbox hg) | ((with_reducible refine gC 32 rfl ?_); refine goesL1 (some 22) Tryd.func32 #[.slice A0 l0.length c0, .int .i64 a1] rfl (map2 rfl rfl) ?_; refine cm_ (quillref1_Begin.calls sd_ sd_ A6.out) ?_; rintro e w' ⟨rfl, nd, rfl⟩; refine ⟨_, rfl, ?_⟩) | ((with_reducible refine gC 33 rfl ?_); refine goesL1 (some 25) Tryd.func33 #[.slice A0 l0.length c0, .int .i64 a1] rfl (map2 rfl rfl) ?_; refine cm_ (quillref1_End.calls sd_ sd_ A7.out) ?_; rintro e w' ⟨rfl, nd, rfl⟩; refine ⟨_, rfl, ?_⟩))
 (try simp only [Act.put, List.setIfInBounds_toArray, List.set_cons_zero, List.set_cons_succ])
 go_cut [51] (fun v51 wc => ∃ (kq : Nat) (x51_7 : Bool), v51 = .bool x51_7 ∧ Aside0 (quillref12_Move.j0 kq l0 a1 a2 a3 ji5 t554 t555 2 a2 x51_7 = some (r1, r2, r3)) ∧ Aside0 (kq ≤ k) ∧ Aside0 (wc.heap[gb553]? = some (.cells #[.int .i64 0, .int .i64 0] 54 (0, 0))) ∧ Aside0 (Below w.heap.size w wc))
 case first =>
  obtain ⟨H⟩ := HC8; replace H := nfe H; obtain ⟨c10b0, c10b1, H⟩ | ⟨c10b0, c10b1, H⟩ := H
  ·
   (first | rw [c10b0] | (simp only [i64_w, i32_w]; rw [c10b0]) | skip); replace H := Aside0.mk H; go_wp2; go_meet
   case rel => exact ⟨_, ((a2 == 108)), r3_, H, ⟨ol_⟩, ⟨BK553.out⟩, ⟨bl_⟩⟩
  (first | rw [c10b0] | (simp only [i64_w, i32_w]; rw [c10b0]) | skip); replace H := Aside0.mk H; go_wp2; go_meet
  case rel => exact ⟨_, ((a2 == 104)), r3_, H, ⟨ol_⟩, ⟨BK553.out⟩, ⟨bl_⟩⟩
 case rest =>
  clear HC8; obtain ⟨kq, x51_7, rfl, HA, HJ7, BK553, HB⟩ := hcut
  cases kq with
  | zero => exact absurd HA.out (by simp [quillref12_Move.j0])
  | succ kj7 =>
   obtain ⟨H⟩ := HA; simp only [quillref12_Move.j0] at H; replace H := ifb H; obtain ⟨rfl, H⟩ | ⟨rfl, H⟩ := H
   ·
    obtain ⟨ji12, hji12⟩ : ∃ j_ : Int, (mx t554 (wrap64 (a1 - ji5))) = j_ := ⟨_, rfl⟩; (first | rw [hji12] at H | simp only [hji12] at H)
    have hji12_ : (if t554 < (wrap64 (a1 - ji5)) then (wrap64 (a1 - ji5)) else t554) = ji12 := hji12
    have HC13 := Aside0.mk H; clear H
    go_upto_if 60 with (fail)
    go_cut [13] (fun v13 wc => ∃ (kq : Nat) (x13_12 : Int), v13 = .int .i64 x13_12 ∧ Aside0 (quillref12_Move.j1 kq a1 x13_12 0 = some (r1, r2, r3)) ∧ Aside0 (kq ≤ kj7) ∧ Aside0 (wc.heap[gb553]? = some (.cells #[.int .i64 0, .int .i64 0] 54 (0, 0))) ∧ Aside0 (Below w.heap.size w wc))
    case first =>
     obtain ⟨H⟩ := HC13; replace H := nfe H; obtain ⟨c14b0, c14b1, H⟩ | ⟨c14b0, c14b1, H⟩ := H
     ·
      (first | rw [c14b0] | (simp only [i64_w, i32_w]; rw [c14b0]) | skip); replace H := Aside0.mk H; go_wp2; go_meet
      case rel => exact ⟨_, (ji12), (by first | rfl | (simp; done) | (simp only [← hji12] <;> (first | rfl | simp)) | (simp [*]; done)), H, ⟨by have := HJ7.out; first | omega | exact Nat.le_refl _⟩, ⟨BK553.out⟩, ⟨bl_⟩⟩
     (first | rw [c14b0] | (simp only [i64_w, i32_w]; rw [c14b0]) | skip); obtain ⟨ji15, hji15⟩ : ∃ j_ : Int, (mn t555 (wrap64 (a1 + ji5))) = j_ := ⟨_, rfl⟩; (first | rw [hji15] at H | simp only [hji15] at H)
     have hji15_ : (if (wrap64 (a1 + ji5)) < t555 then (wrap64 (a1 + ji5)) else t555) = ji15 := hji15
     replace H := Aside0.mk H; go_wp2; go_meet
     case rel => exact ⟨_, (ji15), (by first | rfl | (simp; done) | (simp only [← hji15] <;> (first | rfl | simp)) | (simp [*]; done)), H, ⟨by have := HJ7.out; first | omega | exact Nat.le_refl _⟩, ⟨BK553.out⟩, ⟨bl_⟩⟩
    case rest =>
     clear HC13; obtain ⟨kq, x13_12, rfl, HA, HJ12, BK553, HB⟩ := hcut
     cases kq with
     | zero => exact absurd HA.out (by simp [quillref12_Move.j1])
     | succ kj12 =>
      obtain ⟨H⟩ := HA; simp only [quillref12_Move.j1] at H; replace H := ife H; obtain ⟨c16b0, c16b1, H⟩ | ⟨c16b0, c16b1, H⟩ := H
      ·
       replace H := so3 H; obtain ⟨rfl, rfl, rfl⟩ := H; have hcz17 := cs2 BK553.out; go_wp2; refine bodyPost_ret (results_ct rfl _ _ gb553 54 #[.int .i64 0, .int .i64 0] (0, 0) _ rfl bk_ Tryd.underlying54 rfl (by kernel_rfl)) rfl ?_
       exact ⟨by first | exact rr_ | (simp only [← hji5, ← hji12]; exact rr_), bl_⟩
      replace H := ifd H; obtain ⟨c18b0, H⟩ | ⟨c18b0, H⟩ := H
      ·
       replace H := so3 H; obtain ⟨rfl, rfl, rfl⟩ := H; have hcz19 := cs2 BK553.out; go_wp2; refine bodyPost_ret (results_ct rfl _ _ gb553 54 #[.int .i64 0, .int .i64 0] (0, 0) _ rfl bk_ Tryd.underlying54 rfl (by kernel_rfl)) rfl ?_
       exact ⟨by first | exact rr_ | (simp only [← hji5, ← hji12]; exact rr_), bl_⟩
      replace H := so3 H; obtain ⟨rfl, rfl, rfl⟩ := H; have hcz20 := cs2 BK553.out; go_wp2; refine bodyPost_ret (results_ct rfl _ _ gb553 54 #[.int .i64 x13_12, .int .i64 0] (0, 0) _ rfl bk_ Tryd.underlying54 rfl (by kernel_rfl)) rfl ?_
      exact ⟨by first | exact rr_ | (simp only [← hji5, ← hji12]; exact rr_), bl_⟩
   replace H := ife H; obtain ⟨c21b0, c21b1, H⟩ | ⟨c21b0, c21b1, H⟩ := H
   ·
    replace H := ifd H; obtain ⟨c22b0, H⟩ | ⟨c22b0, H⟩ := H
    ·
     replace H := so3 H; obtain ⟨rfl, rfl, rfl⟩ := H; have hcz23 := cs2 BK553.out; go_wp2; refine bodyPost_ret (results_ct rfl _ _ gb553 54 #[.int .i64 0, .int .i64 0] (0, 0) _ rfl bk_ Tryd.underlying54 rfl (by kernel_rfl)) rfl ?_
     exact ⟨by first | exact rr_ | (simp only [← hji5]; exact rr_), bl_⟩
    replace H := so3 H; obtain ⟨rfl, rfl, rfl⟩ := H; have hcz24 := cs2 BK553.out; go_wp2; refine bodyPost_ret (results_ct rfl _ _ gb553 54 #[.int .i64 t554, .int .i64 0] (0, 0) _ rfl bk_ Tryd.underlying54 rfl (by kernel_rfl)) rfl ?_
    exact ⟨by first | exact rr_ | (simp only [← hji5]; exact rr_), bl_⟩
   replace H := ife H; obtain ⟨c25b0, c25b1, H⟩ | ⟨c25b0, c25b1, H⟩ := H
   ·
    replace H := bindA H; obtain ⟨t556, A26, H⟩ := H; (try dsimp only at H); replace H := ifd H; obtain ⟨c27b0, H⟩ | ⟨c27b0, H⟩ := H
    ·
     replace H := so3 H; obtain ⟨rfl, rfl, rfl⟩ := H
     go_wp2_with (first | ((with_reducible refine gC 61 rfl ?_); refine goesL1 (some 76) Tryd.func61 #[.slice A0 l0.length c0, .int .i64 a1] rfl (map2 rfl rfl) ?_; refine cm_ (quillref1_First.calls sd_ sd_ A26.out) ?_; rintro e w' ⟨rfl, nd, rfl⟩; refine ⟨_, rfl, ?_⟩; (try (rw [drewN_self wc]; generalize hq_ : World.drewN wc _ = wc; have n0_ : Aside0 (wc.heap[gb553]? = some (.cells #[.int .i64 0, .int .i64 0] 54 (0, 0))) := ⟨by rw [← hq_]; exact (by exact BK553.out)⟩; have n1_ : Aside0 (Below w.heap.size w wc) := ⟨by rw [← hq_]; exact bl_⟩; clear BK553 HB hq_; have BK553 := n0_; have HB := n1_; clear n0_ n1_)); have hcz28 := cs2 BK553.out))
     refine bodyPost_ret (results_ct rfl _ _ gb553 54 #[.int .i64 0, .int .i64 0] (0, 0) _ rfl bk_ Tryd.underlying54 rfl (by kernel_rfl)) rfl ?_
     exact ⟨by first | exact rr_ | (simp only [← hji5]; exact rr_), bl_⟩
    replace H := so3 H; obtain ⟨rfl, rfl, rfl⟩ := H
    go_wp2_with (first | ((with_reducible refine gC 61 rfl ?_); refine goesL1 (some 76) Tryd.func61 #[.slice A0 l0.length c0, .int .i64 a1] rfl (map2 rfl rfl) ?_; refine cm_ (quillref1_First.calls sd_ sd_ A26.out) ?_; rintro e w' ⟨rfl, nd, rfl⟩; refine ⟨_, rfl, ?_⟩; (try (rw [drewN_self wc]; generalize hq_ : World.drewN wc _ = wc; have n0_ : Aside0 (wc.heap[gb553]? = some (.cells #[.int .i64 0, .int .i64 0] 54 (0, 0))) := ⟨by rw [← hq_]; exact (by exact BK553.out)⟩; have n1_ : Aside0 (Below w.heap.size w wc) := ⟨by rw [← hq_]; exact bl_⟩; clear BK553 HB hq_; have BK553 := n0_; have HB := n1_; clear n0_ n1_)); have hcz29 := cs2 BK553.out))
    refine bodyPost_ret (results_ct rfl _ _ gb553 54 #[.int .i64 t556, .int .i64 0] (0, 0) _ rfl bk_ Tryd.underlying54 rfl (by kernel_rfl)) rfl ?_
    exact ⟨by first | exact rr_ | (simp only [← hji5]; exact rr_), bl_⟩
   replace H := ife H; obtain ⟨c30b0, c30b1, H⟩ | ⟨c30b0, c30b1, H⟩ := H
   ·
    replace H := bindA H; obtain ⟨t557, A31, H⟩ := H; (try dsimp only at H); replace H := nfd H; obtain ⟨c32b0, H⟩ | ⟨c32b0, H⟩ := H
    ·
     replace H := ifd H; obtain ⟨c37b0, H⟩ | ⟨c37b0, H⟩ := H
     ·
      replace H := so3 H; obtain ⟨rfl, rfl, rfl⟩ := H
      go_wp2_with (first | ((with_reducible refine gC 83 rfl ?_); refine goesL1 (some 83) Tryd.func83 #[.slice A0 l0.length c0, .int .i64 a1, .int .i64 (wrap64 (ji5 - 1))] rfl (by (try simp only [List.map_toArray, List.map_cons, List.map_nil]); first | done | (simp only [hji5]; rfl) | rfl | (simp only [List.length_drop, List.length_take]; rfl)) ?_; refine cm_ (quillref12_row.calls sd_ sd_ A31.out) ?_; rintro e w' ⟨rfl, nd, rfl⟩; refine ⟨_, rfl, ?_⟩; (try (rw [drewN_self wc]; generalize hq_ : World.drewN wc _ = wc; have n0_ : Aside0 (wc.heap[gb553]? = some (.cells #[.int .i64 0, .int .i64 0] 54 (0, 0))) := ⟨by rw [← hq_]; exact (by exact BK553.out)⟩; have n1_ : Aside0 (Below w.heap.size w wc) := ⟨by rw [← hq_]; exact bl_⟩; clear BK553 HB hq_; have BK553 := n0_; have HB := n1_; clear n0_ n1_)); have hcz38 := cs2 BK553.out))
      refine bodyPost_ret (results_ct rfl _ _ gb553 54 #[.int .i64 0, .int .i64 0] (0, 0) _ rfl bk_ Tryd.underlying54 rfl (by kernel_rfl)) rfl ?_
      exact ⟨by first | exact rr_ | (simp only [← hji5]; exact rr_), bl_⟩
     replace H := so3 H; obtain ⟨rfl, rfl, rfl⟩ := H
     go_wp2_with (first | ((with_reducible refine gC 83 rfl ?_); refine goesL1 (some 83) Tryd.func83 #[.slice A0 l0.length c0, .int .i64 a1, .int .i64 (wrap64 (ji5 - 1))] rfl (by (try simp only [List.map_toArray, List.map_cons, List.map_nil]); first | done | (simp only [hji5]; rfl) | rfl | (simp only [List.length_drop, List.length_take]; rfl)) ?_; refine cm_ (quillref12_row.calls sd_ sd_ A31.out) ?_; rintro e w' ⟨rfl, nd, rfl⟩; refine ⟨_, rfl, ?_⟩; (try (rw [drewN_self wc]; generalize hq_ : World.drewN wc _ = wc; have n0_ : Aside0 (wc.heap[gb553]? = some (.cells #[.int .i64 0, .int .i64 0] 54 (0, 0))) := ⟨by rw [← hq_]; exact (by exact BK553.out)⟩; have n1_ : Aside0 (Below w.heap.size w wc) := ⟨by rw [← hq_]; exact bl_⟩; clear BK553 HB hq_; have BK553 := n0_; have HB := n1_; clear n0_ n1_)); have hcz39 := cs2 BK553.out))
     refine bodyPost_ret (results_ct rfl _ _ gb553 54 #[.int .i64 t557, .int .i64 1] (0, 0) _ rfl bk_ Tryd.underlying54 rfl (by kernel_rfl)) rfl ?_
     exact ⟨by first | exact rr_ | (simp only [← hji5]; exact rr_), bl_⟩
    replace H := bindA H; obtain ⟨t558, A33, H⟩ := H; (try dsimp only at H); replace H := ifd H; obtain ⟨c34b0, H⟩ | ⟨c34b0, H⟩ := H
    ·
     replace H := so3 H; obtain ⟨rfl, rfl, rfl⟩ := H
     go_wp2_with (first | ((with_reducible refine gC 83 rfl ?_); refine goesL1 (some 83) Tryd.func83 #[.slice A0 l0.length c0, .int .i64 a1, .int .i64 (wrap64 (ji5 - 1))] rfl (by (try simp only [List.map_toArray, List.map_cons, List.map_nil]); first | done | (simp only [hji5]; rfl) | rfl | (simp only [List.length_drop, List.length_take]; rfl)) ?_; refine cm_ (quillref12_row.calls sd_ sd_ A31.out) ?_; rintro e w' ⟨rfl, nd, rfl⟩; refine ⟨_, rfl, ?_⟩; (try (rw [drewN_self wc]; generalize hq_ : World.drewN wc _ = wc; have n0_ : Aside0 (wc.heap[gb553]? = some (.cells #[.int .i64 0, .int .i64 0] 54 (0, 0))) := ⟨by rw [← hq_]; exact (by exact BK553.out)⟩; have n1_ : Aside0 (Below w.heap.size w wc) := ⟨by rw [← hq_]; exact bl_⟩; clear BK553 HB hq_; have BK553 := n0_; have HB := n1_; clear n0_ n1_))) | ((with_reducible refine gC 33 rfl ?_); refine goesL1 (some 88) Tryd.func33 #[.slice A0 l0.length c0, .int .i64 t557] rfl (map2 rfl rfl) ?_; refine cm_ (quillref1_End.calls sd_ sd_ A33.out) ?_; rintro e w' ⟨rfl, nd, rfl⟩; refine ⟨_, rfl, ?_⟩; (try (rw [drewN_self wc]; generalize hq_ : World.drewN wc _ = wc; have n0_ : Aside0 (wc.heap[gb553]? = some (.cells #[.int .i64 0, .int .i64 0] 54 (0, 0))) := ⟨by rw [← hq_]; exact (by exact BK553.out)⟩; have n1_ : Aside0 (Below w.heap.size w wc) := ⟨by rw [← hq_]; exact bl_⟩; clear BK553 HB hq_; have BK553 := n0_; have HB := n1_; clear n0_ n1_)); have hcz35 := cs2 BK553.out))
     refine bodyPost_ret (results_ct rfl _ _ gb553 54 #[.int .i64 0, .int .i64 0] (0, 0) _ rfl bk_ Tryd.underlying54 rfl (by kernel_rfl)) rfl ?_
     exact ⟨by first | exact rr_ | (simp only [← hji5]; exact rr_), bl_⟩
    replace H := so3 H; obtain ⟨rfl, rfl, rfl⟩ := H
    go_wp2_with (first | ((with_reducible refine gC 83 rfl ?_); refine goesL1 (some 83) Tryd.func83 #[.slice A0 l0.length c0, .int .i64 a1, .int .i64 (wrap64 (ji5 - 1))] rfl (by (try simp only [List.map_toArray, List.map_cons, List.map_nil]); first | done | (simp only [hji5]; rfl) | rfl | (simp only [List.length_drop, List.length_take]; rfl)) ?_; refine cm_ (quillref12_row.calls sd_ sd_ A31.out) ?_; rintro e w' ⟨rfl, nd, rfl⟩; refine ⟨_, rfl, ?_⟩; (try (rw [drewN_self wc]; generalize hq_ : World.drewN wc _ = wc; have n0_ : Aside0 (wc.heap[gb553]? = some (.cells #[.int .i64 0, .int .i64 0] 54 (0, 0))) := ⟨by rw [← hq_]; exact (by exact BK553.out)⟩; have n1_ : Aside0 (Below w.heap.size w wc) := ⟨by rw [← hq_]; exact bl_⟩; clear BK553 HB hq_; have BK553 := n0_; have HB := n1_; clear n0_ n1_))) | ((with_reducible refine gC 33 rfl ?_); refine goesL1 (some 88) Tryd.func33 #[.slice A0 l0.length c0, .int .i64 t557] rfl (map2 rfl rfl) ?_; refine cm_ (quillref1_End.calls sd_ sd_ A33.out) ?_; rintro e w' ⟨rfl, nd, rfl⟩; refine ⟨_, rfl, ?_⟩; (try (rw [drewN_self wc]; generalize hq_ : World.drewN wc _ = wc; have n0_ : Aside0 (wc.heap[gb553]? = some (.cells #[.int .i64 0, .int .i64 0] 54 (0, 0))) := ⟨by rw [← hq_]; exact (by exact BK553.out)⟩; have n1_ : Aside0 (Below w.heap.size w wc) := ⟨by rw [← hq_]; exact bl_⟩; clear BK553 HB hq_; have BK553 := n0_; have HB := n1_; clear n0_ n1_)); have hcz36 := cs2 BK553.out))
    refine bodyPost_ret (results_ct rfl _ _ gb553 54 #[.int .i64 t558, .int .i64 1] (0, 0) _ rfl bk_ Tryd.underlying54 rfl (by kernel_rfl)) rfl ?_
    exact ⟨by first | exact rr_ | (simp only [← hji5]; exact rr_), bl_⟩
   have HC40 := Aside0.mk H; clear H
   go_upto_if 89 with (fail)
   go_cut [89] (fun v89 wc => ∃ (kq : Nat) (x89_39 : Bool), v89 = .bool x89_39 ∧ Aside0 (quillref12_Move.j2 kq l0 a1 a2 a3 ji5 t554 2 a2 x89_39 = some (r1, r2, r3)) ∧ Aside0 (kq ≤ kj7) ∧ Aside0 (wc.heap[gb553]? = some (.cells #[.int .i64 0, .int .i64 0] 54 (0, 0))) ∧ Aside0 (Below w.heap.size w wc))
   case first =>
    obtain ⟨H⟩ := HC40; replace H := nfe H; obtain ⟨c41b0, c41b1, H⟩ | ⟨c41b0, c41b1, H⟩ := H
    ·
     (first | rw [c41b0] | (simp only [i64_w, i32_w]; rw [c41b0]) | skip); replace H := Aside0.mk H; go_wp2; go_meet
     case rel => exact ⟨_, ((a2 == 107)), r3_, H, ⟨by have := HJ7.out; first | omega | exact Nat.le_refl _⟩, ⟨BK553.out⟩, ⟨bl_⟩⟩
    (first | rw [c41b0] | (simp only [i64_w, i32_w]; rw [c41b0]) | skip); replace H := Aside0.mk H; go_wp2; go_meet
    case rel => exact ⟨_, ((a2 == 106)), r3_, H, ⟨by have := HJ7.out; first | omega | exact Nat.le_refl _⟩, ⟨BK553.out⟩, ⟨bl_⟩⟩
   case rest =>
    clear HC40
    try clear c21b0
    try clear c21b1
    try clear c25b0
    try clear c25b1
    try clear c30b0
    try clear c30b1
    obtain ⟨kq, x89_39, rfl, HA, HJ39, BK553, HB⟩ := hcut
    cases kq with
    | zero => exact absurd HA.out (by simp [quillref12_Move.j2])
    | succ kj39 =>
     obtain ⟨H⟩ := HA; simp only [quillref12_Move.j2] at H; replace H := ifb H; obtain ⟨rfl, H⟩ | ⟨rfl, H⟩ := H
     ·
      have HC43 := Aside0.mk H; clear H
      go_upto_if 94 with (fail)
      go_cut [15] (fun v15 wc => ∃ (kq : Nat) (x15_42 : Int), v15 = .int .i64 x15_42 ∧ Aside0 (quillref12_Move.j3 kq l0 a1 t554 2 x15_42 = some (r1, r2, r3)) ∧ Aside0 (kq ≤ kj39) ∧ Aside0 (wc.heap[gb553]? = some (.cells #[.int .i64 0, .int .i64 0] 54 (0, 0))) ∧ Aside0 (Below w.heap.size w wc))
      case first =>
       obtain ⟨H⟩ := HC43; replace H := nfe H; obtain ⟨c44b0, c44b1, H⟩ | ⟨c44b0, c44b1, H⟩ := H
       ·
        (first | rw [c44b0] | (simp only [i64_w, i32_w]; rw [c44b0]) | skip); replace H := Aside0.mk H; go_wp2; go_meet
        case rel => exact ⟨_, (ji5), (by first | rfl | (simp; done) | (simp only [← hji5] <;> (first | rfl | simp)) | (simp [*]; done)), H, ⟨by have := HJ7.out; have := HJ39.out; first | omega | exact Nat.le_refl _⟩, ⟨BK553.out⟩, ⟨bl_⟩⟩
       (first | rw [c44b0] | (simp only [i64_w, i32_w]; rw [c44b0]) | skip); replace H := Aside0.mk H; go_wp2; go_meet
       case rel => exact ⟨_, (wrap64 (-ji5)), (by first | rfl | (simp; done) | (simp only [← hji5] <;> (first | rfl | simp)) | (simp [*]; done)), H, ⟨by have := HJ7.out; have := HJ39.out; first | omega | exact Nat.le_refl _⟩, ⟨BK553.out⟩, ⟨bl_⟩⟩
      case rest =>
       clear HC43
       try clear c21b0
       try clear c21b1
       try clear c25b0
       try clear c25b1
       try clear c30b0
       try clear c30b1
       obtain ⟨kq, x15_42, rfl, HA, HJ42, BK553, HB⟩ := hcut
       cases kq with
       | zero => exact absurd HA.out (by simp [quillref12_Move.j3])
       | succ kj42 =>
        obtain ⟨H⟩ := HA; simp only [quillref12_Move.j3] at H; replace H := bindA H; obtain ⟨t559, A45, H⟩ := H; (try dsimp only at H); replace H := nfd H; obtain ⟨c46b0, H⟩ | ⟨c46b0, H⟩ := H
        ·
         replace H := ifd H; obtain ⟨c52b0, H⟩ | ⟨c52b0, H⟩ := H
         ·
          replace H := so3 H; obtain ⟨rfl, rfl, rfl⟩ := H
          go_wp2_with (first | ((with_reducible refine gC 83 rfl ?_); refine goesL1 (some 100) Tryd.func83 #[.slice A0 l0.length c0, .int .i64 a1, .int .i64 x15_42] rfl (map3 rfl rfl rfl) ?_; refine cm_ (quillref12_row.calls sd_ sd_ A45.out) ?_; rintro e w' ⟨rfl, nd, rfl⟩; refine ⟨_, rfl, ?_⟩; (try (rw [drewN_self wc]; generalize hq_ : World.drewN wc _ = wc; have n0_ : Aside0 (wc.heap[gb553]? = some (.cells #[.int .i64 0, .int .i64 0] 54 (0, 0))) := ⟨by rw [← hq_]; exact (by exact BK553.out)⟩; have n1_ : Aside0 (Below w.heap.size w wc) := ⟨by rw [← hq_]; exact bl_⟩; clear BK553 HB hq_; have BK553 := n0_; have HB := n1_; clear n0_ n1_)); have hcz53 := cs2 BK553.out))
          refine bodyPost_ret (results_ct rfl _ _ gb553 54 #[.int .i64 0, .int .i64 0] (0, 0) _ rfl bk_ Tryd.underlying54 rfl (by kernel_rfl)) rfl ?_
          exact ⟨by first | exact rr_ | (simp only [← hji5]; exact rr_), bl_⟩
         replace H := so3 H; obtain ⟨rfl, rfl, rfl⟩ := H
         go_wp2_with (first | ((with_reducible refine gC 83 rfl ?_); refine goesL1 (some 100) Tryd.func83 #[.slice A0 l0.length c0, .int .i64 a1, .int .i64 x15_42] rfl (map3 rfl rfl rfl) ?_; refine cm_ (quillref12_row.calls sd_ sd_ A45.out) ?_; rintro e w' ⟨rfl, nd, rfl⟩; refine ⟨_, rfl, ?_⟩; (try (rw [drewN_self wc]; generalize hq_ : World.drewN wc _ = wc; have n0_ : Aside0 (wc.heap[gb553]? = some (.cells #[.int .i64 0, .int .i64 0] 54 (0, 0))) := ⟨by rw [← hq_]; exact (by exact BK553.out)⟩; have n1_ : Aside0 (Below w.heap.size w wc) := ⟨by rw [← hq_]; exact bl_⟩; clear BK553 HB hq_; have BK553 := n0_; have HB := n1_; clear n0_ n1_)); have hcz54 := cs2 BK553.out))
         refine bodyPost_ret (results_ct rfl _ _ gb553 54 #[.int .i64 t559, .int .i64 2] (0, 0) _ rfl bk_ Tryd.underlying54 rfl (by kernel_rfl)) rfl ?_
         exact ⟨by first | exact rr_ | (simp only [← hji5]; exact rr_), bl_⟩
        replace H := bindA H; obtain ⟨t560, A47, H⟩ := H; (try dsimp only at H); obtain ⟨ji48, hji48⟩ : ∃ j_ : Int, (mn t560 (wrap64 ((wrap64 (t559 + a1)) - t554))) = j_ := ⟨_, rfl⟩; (first | rw [hji48] at H | simp only [hji48] at H); (try rw [hji48] at A45); (try rw [hji48] at A47)
        have hji48_ : (if (wrap64 ((wrap64 (t559 + a1)) - t554)) < t560 then (wrap64 ((wrap64 (t559 + a1)) - t554)) else t560) = ji48 := hji48
        replace H := ifd H; obtain ⟨c49b0, H⟩ | ⟨c49b0, H⟩ := H
        ·
         replace H := so3 H; obtain ⟨rfl, rfl, rfl⟩ := H
         go_wp2_with (first | ((with_reducible refine gC 83 rfl ?_); refine goesL1 (some 100) Tryd.func83 #[.slice A0 l0.length c0, .int .i64 a1, .int .i64 x15_42] rfl (map3 rfl rfl rfl) ?_; refine cm_ (quillref12_row.calls sd_ sd_ A45.out) ?_; rintro e w' ⟨rfl, nd, rfl⟩; refine ⟨_, rfl, ?_⟩; (try (rw [drewN_self wc]; generalize hq_ : World.drewN wc _ = wc; have n0_ : Aside0 (wc.heap[gb553]? = some (.cells #[.int .i64 0, .int .i64 0] 54 (0, 0))) := ⟨by rw [← hq_]; exact (by exact BK553.out)⟩; have n1_ : Aside0 (Below w.heap.size w wc) := ⟨by rw [← hq_]; exact bl_⟩; clear BK553 HB hq_; have BK553 := n0_; have HB := n1_; clear n0_ n1_))) | ((with_reducible refine gC 33 rfl ?_); refine goesL1 (some 105) Tryd.func33 #[.slice A0 l0.length c0, .int .i64 t559] rfl (map2 rfl rfl) ?_; refine cm_ (quillref1_End.calls sd_ sd_ A47.out) ?_; rintro e w' ⟨rfl, nd, rfl⟩; refine ⟨_, rfl, ?_⟩; (try (rw [drewN_self wc]; generalize hq_ : World.drewN wc _ = wc; have n0_ : Aside0 (wc.heap[gb553]? = some (.cells #[.int .i64 0, .int .i64 0] 54 (0, 0))) := ⟨by rw [← hq_]; exact (by exact BK553.out)⟩; have n1_ : Aside0 (Below w.heap.size w wc) := ⟨by rw [← hq_]; exact bl_⟩; clear BK553 HB hq_; have BK553 := n0_; have HB := n1_; clear n0_ n1_)); have hcz50 := cs2 BK553.out))
         refine bodyPost_ret (results_ct rfl _ _ gb553 54 #[.int .i64 0, .int .i64 0] (0, 0) _ rfl bk_ Tryd.underlying54 rfl (by kernel_rfl)) rfl ?_
         exact ⟨by first | exact rr_ | (simp only [← hji5, ← hji48]; exact rr_), bl_⟩
        replace H := so3 H; obtain ⟨rfl, rfl, rfl⟩ := H
        go_wp2_with (first | ((with_reducible refine gC 83 rfl ?_); refine goesL1 (some 100) Tryd.func83 #[.slice A0 l0.length c0, .int .i64 a1, .int .i64 x15_42] rfl (map3 rfl rfl rfl) ?_; refine cm_ (quillref12_row.calls sd_ sd_ A45.out) ?_; rintro e w' ⟨rfl, nd, rfl⟩; refine ⟨_, rfl, ?_⟩; (try (rw [drewN_self wc]; generalize hq_ : World.drewN wc _ = wc; have n0_ : Aside0 (wc.heap[gb553]? = some (.cells #[.int .i64 0, .int .i64 0] 54 (0, 0))) := ⟨by rw [← hq_]; exact (by exact BK553.out)⟩; have n1_ : Aside0 (Below w.heap.size w wc) := ⟨by rw [← hq_]; exact bl_⟩; clear BK553 HB hq_; have BK553 := n0_; have HB := n1_; clear n0_ n1_))) | ((with_reducible refine gC 33 rfl ?_); refine goesL1 (some 105) Tryd.func33 #[.slice A0 l0.length c0, .int .i64 t559] rfl (map2 rfl rfl) ?_; refine cm_ (quillref1_End.calls sd_ sd_ A47.out) ?_; rintro e w' ⟨rfl, nd, rfl⟩; refine ⟨_, rfl, ?_⟩; (try (rw [drewN_self wc]; generalize hq_ : World.drewN wc _ = wc; have n0_ : Aside0 (wc.heap[gb553]? = some (.cells #[.int .i64 0, .int .i64 0] 54 (0, 0))) := ⟨by rw [← hq_]; exact (by exact BK553.out)⟩; have n1_ : Aside0 (Below w.heap.size w wc) := ⟨by rw [← hq_]; exact bl_⟩; clear BK553 HB hq_; have BK553 := n0_; have HB := n1_; clear n0_ n1_)); have hcz51 := cs2 BK553.out))
        refine bodyPost_ret (results_ct rfl _ _ gb553 54 #[.int .i64 ji48, .int .i64 2] (0, 0) _ rfl bk_ Tryd.underlying54 rfl (by kernel_rfl)) rfl ?_
        exact ⟨by first | exact rr_ | (simp only [← hji5, ← hji48]; exact rr_), bl_⟩
     have HC55 := Aside0.mk H; clear H
     go_upto_if 112 with (fail)
     go_cut [112] (fun v112 wc => ∃ (kq : Nat) (x112_54 : Bool), v112 = .bool x112_54 ∧ Aside0 (quillref12_Move.j4 kq l0 a1 a2 a3 ji5 2 x112_54 = some (r1, r2, r3)) ∧ Aside0 (kq ≤ kj39) ∧ Aside0 (wc.heap[gb553]? = some (.cells #[.int .i64 0, .int .i64 0] 54 (0, 0))) ∧ Aside0 (Below w.heap.size w wc))
     case first =>
      obtain ⟨H⟩ := HC55; replace H := ife H; obtain ⟨c56b0, c56b1, H⟩ | ⟨c56b0, c56b1, H⟩ := H
      ·
       (first | rw [c56b0] | (simp only [i64_w, i32_w]; rw [c56b0]) | skip); replace H := Aside0.mk H; go_wp2; go_meet
       case rel => exact ⟨_, ((a2 == 43)), r3_, H, ⟨by have := HJ7.out; have := HJ39.out; first | omega | exact Nat.le_refl _⟩, ⟨BK553.out⟩, ⟨bl_⟩⟩
      (first | rw [c56b0] | (simp only [i64_w, i32_w]; rw [c56b0]) | skip); replace H := nfe H; obtain ⟨c57b0, c57b1, H⟩ | ⟨c57b0, c57b1, H⟩ := H
      ·
       replace H := Aside0.mk H; go_wp2; go_meet
       case rel => exact ⟨_, ((a2 == 95)), r3_, H, ⟨by have := HJ7.out; have := HJ39.out; first | omega | exact Nat.le_refl _⟩, ⟨BK553.out⟩, ⟨bl_⟩⟩
      replace H := Aside0.mk H; go_wp2; go_meet
      case rel => exact ⟨_, ((a2 == 45)), r3_, H, ⟨by have := HJ7.out; have := HJ39.out; first | omega | exact Nat.le_refl _⟩, ⟨BK553.out⟩, ⟨bl_⟩⟩
     case rest =>
      clear HC55
      try clear c21b0
      try clear c21b1
      try clear c25b0
      try clear c25b1
      try clear c30b0
      try clear c30b1
      obtain ⟨kq, x112_54, rfl, HA, HJ54, BK553, HB⟩ := hcut
      cases kq with
      | zero => exact absurd HA.out (by simp [quillref12_Move.j4])
      | succ kj54 =>
       obtain ⟨H⟩ := HA; simp only [quillref12_Move.j4] at H; replace H := ifb H; obtain ⟨rfl, H⟩ | ⟨rfl, H⟩ := H
       ·
        have HC59 := Aside0.mk H; clear H
        go_upto_if 118 with (fail)
        go_cut [16] (fun v16 wc => ∃ (kq : Nat) (x16_58 : Int), v16 = .int .i64 x16_58 ∧ Aside0 (quillref12_Move.j5 kq l0 a1 a2 ji5 2 x16_58 = some (r1, r2, r3)) ∧ Aside0 (kq ≤ kj54) ∧ Aside0 (wc.heap[gb553]? = some (.cells #[.int .i64 0, .int .i64 0] 54 (0, 0))) ∧ Aside0 (Below w.heap.size w wc))
        case first =>
         obtain ⟨H⟩ := HC59; replace H := nfe H; obtain ⟨c60b0, c60b1, H⟩ | ⟨c60b0, c60b1, H⟩ := H
         ·
          (first | rw [c60b0] | (simp only [i64_w, i32_w]; rw [c60b0]) | skip); replace H := Aside0.mk H; go_wp2; go_meet
          case rel => exact ⟨_, (ji5), (by first | rfl | (simp; done) | (simp only [← hji5] <;> (first | rfl | simp)) | (simp [*]; done)), H, ⟨by have := HJ7.out; have := HJ39.out; have := HJ54.out; first | omega | exact Nat.le_refl _⟩, ⟨BK553.out⟩, ⟨bl_⟩⟩
         (first | rw [c60b0] | (simp only [i64_w, i32_w]; rw [c60b0]) | skip); replace H := Aside0.mk H; go_wp2; go_meet
         case rel => exact ⟨_, (wrap64 (-ji5)), (by first | rfl | (simp; done) | (simp only [← hji5] <;> (first | rfl | simp)) | (simp [*]; done)), H, ⟨by have := HJ7.out; have := HJ39.out; have := HJ54.out; first | omega | exact Nat.le_refl _⟩, ⟨BK553.out⟩, ⟨bl_⟩⟩
        case rest =>
         clear HC59
         try clear c21b0
         try clear c21b1
         try clear c25b0
         try clear c25b1
         try clear c30b0
         try clear c30b1
         obtain ⟨kq, x16_58, rfl, HA, HJ58, BK553, HB⟩ := hcut
         cases kq with
         | zero => exact absurd HA.out (by simp [quillref12_Move.j5])
         | succ kj58 =>
          obtain ⟨H⟩ := HA; simp only [quillref12_Move.j5] at H; have HC61 := Aside0.mk H; clear H
          go_upto_if 122 with (fail)
          go_cut [16] (fun v16 wc => ∃ (kq : Nat) (x16_60 : Int), v16 = .int .i64 x16_60 ∧ Aside0 (quillref12_Move.j6 kq l0 a1 2 x16_60 = some (r1, r2, r3)) ∧ Aside0 (kq ≤ kj58) ∧ Aside0 (wc.heap[gb553]? = some (.cells #[.int .i64 0, .int .i64 0] 54 (0, 0))) ∧ Aside0 (Below w.heap.size w wc))
          case first =>
           obtain ⟨H⟩ := HC61; replace H := nfe H; obtain ⟨c62b0, c62b1, H⟩ | ⟨c62b0, c62b1, H⟩ := H
           ·
            (first | rw [c62b0] | (simp only [i64_w, i32_w]; rw [c62b0]) | skip); replace H := Aside0.mk H; go_wp2; go_meet
            case rel => exact ⟨_, (x16_58), r3_, H, ⟨by have := HJ7.out; have := HJ39.out; have := HJ54.out; have := HJ58.out; first | omega | exact Nat.le_refl _⟩, ⟨BK553.out⟩, ⟨bl_⟩⟩
           (first | rw [c62b0] | (simp only [i64_w, i32_w]; rw [c62b0]) | skip); replace H := Aside0.mk H; go_wp2; go_meet
           case rel => exact ⟨_, (wrap64 (ji5 - 1)), (by first | rfl | (simp; done) | (simp only [← hji5] <;> (first | rfl | simp)) | (simp [*]; done)), H, ⟨by have := HJ7.out; have := HJ39.out; have := HJ54.out; have := HJ58.out; first | omega | exact Nat.le_refl _⟩, ⟨BK553.out⟩, ⟨bl_⟩⟩
          case rest =>
           clear HC61
           try clear c21b0
           try clear c21b1
           try clear c25b0
           try clear c25b1
           try clear c30b0
           try clear c30b1
           obtain ⟨kq, x16_60, rfl, HA, HJ60, BK553, HB⟩ := hcut
           cases kq with
           | zero => exact absurd HA.out (by simp [quillref12_Move.j6])
           | succ kj60 =>
            obtain ⟨H⟩ := HA; simp only [quillref12_Move.j6] at H; replace H := bindA H; obtain ⟨t561, A63, H⟩ := H; (try dsimp only at H); replace H := nfd H; obtain ⟨c64b0, H⟩ | ⟨c64b0, H⟩ := H
            ·
             replace H := ifd H; obtain ⟨c69b0, H⟩ | ⟨c69b0, H⟩ := H
             ·
              replace H := so3 H; obtain ⟨rfl, rfl, rfl⟩ := H
              go_wp2_with (first | ((with_reducible refine gC 83 rfl ?_); refine goesL1 (some 128) Tryd.func83 #[.slice A0 l0.length c0, .int .i64 a1, .int .i64 x16_60] rfl (map3 rfl rfl rfl) ?_; refine cm_ (quillref12_row.calls sd_ sd_ A63.out) ?_; rintro e w' ⟨rfl, nd, rfl⟩; refine ⟨_, rfl, ?_⟩; (try (rw [drewN_self wc]; generalize hq_ : World.drewN wc _ = wc; have n0_ : Aside0 (wc.heap[gb553]? = some (.cells #[.int .i64 0, .int .i64 0] 54 (0, 0))) := ⟨by rw [← hq_]; exact (by exact BK553.out)⟩; have n1_ : Aside0 (Below w.heap.size w wc) := ⟨by rw [← hq_]; exact bl_⟩; clear BK553 HB hq_; have BK553 := n0_; have HB := n1_; clear n0_ n1_)); have hcz70 := cs2 BK553.out))
              refine bodyPost_ret (results_ct rfl _ _ gb553 54 #[.int .i64 0, .int .i64 0] (0, 0) _ rfl bk_ Tryd.underlying54 rfl (by kernel_rfl)) rfl ?_
              exact ⟨by first | exact rr_ | (simp only [← hji5]; exact rr_), bl_⟩
             replace H := so3 H; obtain ⟨rfl, rfl, rfl⟩ := H
             go_wp2_with (first | ((with_reducible refine gC 83 rfl ?_); refine goesL1 (some 128) Tryd.func83 #[.slice A0 l0.length c0, .int .i64 a1, .int .i64 x16_60] rfl (map3 rfl rfl rfl) ?_; refine cm_ (quillref12_row.calls sd_ sd_ A63.out) ?_; rintro e w' ⟨rfl, nd, rfl⟩; refine ⟨_, rfl, ?_⟩; (try (rw [drewN_self wc]; generalize hq_ : World.drewN wc _ = wc; have n0_ : Aside0 (wc.heap[gb553]? = some (.cells #[.int .i64 0, .int .i64 0] 54 (0, 0))) := ⟨by rw [← hq_]; exact (by exact BK553.out)⟩; have n1_ : Aside0 (Below w.heap.size w wc) := ⟨by rw [← hq_]; exact bl_⟩; clear BK553 HB hq_; have BK553 := n0_; have HB := n1_; clear n0_ n1_)); have hcz71 := cs2 BK553.out))
             refine bodyPost_ret (results_ct rfl _ _ gb553 54 #[.int .i64 t561, .int .i64 2] (0, 0) _ rfl bk_ Tryd.underlying54 rfl (by kernel_rfl)) rfl ?_
             exact ⟨by first | exact rr_ | (simp only [← hji5]; exact rr_), bl_⟩
            replace H := bindA H; obtain ⟨t562, A65, H⟩ := H; (try dsimp only at H); replace H := ifd H; obtain ⟨c66b0, H⟩ | ⟨c66b0, H⟩ := H
            ·
             replace H := so3 H; obtain ⟨rfl, rfl, rfl⟩ := H
             go_wp2_with (first | ((with_reducible refine gC 83 rfl ?_); refine goesL1 (some 128) Tryd.func83 #[.slice A0 l0.length c0, .int .i64 a1, .int .i64 x16_60] rfl (map3 rfl rfl rfl) ?_; refine cm_ (quillref12_row.calls sd_ sd_ A63.out) ?_; rintro e w' ⟨rfl, nd, rfl⟩; refine ⟨_, rfl, ?_⟩; (try (rw [drewN_self wc]; generalize hq_ : World.drewN wc _ = wc; have n0_ : Aside0 (wc.heap[gb553]? = some (.cells #[.int .i64 0, .int .i64 0] 54 (0, 0))) := ⟨by rw [← hq_]; exact (by exact BK553.out)⟩; have n1_ : Aside0 (Below w.heap.size w wc) := ⟨by rw [← hq_]; exact bl_⟩; clear BK553 HB hq_; have BK553 := n0_; have HB := n1_; clear n0_ n1_))) | ((with_reducible refine gC 61 rfl ?_); refine goesL1 (some 133) Tryd.func61 #[.slice A0 l0.length c0, .int .i64 t561] rfl (map2 rfl rfl) ?_; refine cm_ (quillref1_First.calls sd_ sd_ A65.out) ?_; rintro e w' ⟨rfl, nd, rfl⟩; refine ⟨_, rfl, ?_⟩; (try (rw [drewN_self wc]; generalize hq_ : World.drewN wc _ = wc; have n0_ : Aside0 (wc.heap[gb553]? = some (.cells #[.int .i64 0, .int .i64 0] 54 (0, 0))) := ⟨by rw [← hq_]; exact (by exact BK553.out)⟩; have n1_ : Aside0 (Below w.heap.size w wc) := ⟨by rw [← hq_]; exact bl_⟩; clear BK553 HB hq_; have BK553 := n0_; have HB := n1_; clear n0_ n1_)); have hcz67 := cs2 BK553.out))
             refine bodyPost_ret (results_ct rfl _ _ gb553 54 #[.int .i64 0, .int .i64 0] (0, 0) _ rfl bk_ Tryd.underlying54 rfl (by kernel_rfl)) rfl ?_
             exact ⟨by first | exact rr_ | (simp only [← hji5]; exact rr_), bl_⟩
            replace H := so3 H; obtain ⟨rfl, rfl, rfl⟩ := H
            go_wp2_with (first | ((with_reducible refine gC 83 rfl ?_); refine goesL1 (some 128) Tryd.func83 #[.slice A0 l0.length c0, .int .i64 a1, .int .i64 x16_60] rfl (map3 rfl rfl rfl) ?_; refine cm_ (quillref12_row.calls sd_ sd_ A63.out) ?_; rintro e w' ⟨rfl, nd, rfl⟩; refine ⟨_, rfl, ?_⟩; (try (rw [drewN_self wc]; generalize hq_ : World.drewN wc _ = wc; have n0_ : Aside0 (wc.heap[gb553]? = some (.cells #[.int .i64 0, .int .i64 0] 54 (0, 0))) := ⟨by rw [← hq_]; exact (by exact BK553.out)⟩; have n1_ : Aside0 (Below w.heap.size w wc) := ⟨by rw [← hq_]; exact bl_⟩; clear BK553 HB hq_; have BK553 := n0_; have HB := n1_; clear n0_ n1_))) | ((with_reducible refine gC 61 rfl ?_); refine goesL1 (some 133) Tryd.func61 #[.slice A0 l0.length c0, .int .i64 t561] rfl (map2 rfl rfl) ?_; refine cm_ (quillref1_First.calls sd_ sd_ A65.out) ?_; rintro e w' ⟨rfl, nd, rfl⟩; refine ⟨_, rfl, ?_⟩; (try (rw [drewN_self wc]; generalize hq_ : World.drewN wc _ = wc; have n0_ : Aside0 (wc.heap[gb553]? = some (.cells #[.int .i64 0, .int .i64 0] 54 (0, 0))) := ⟨by rw [← hq_]; exact (by exact BK553.out)⟩; have n1_ : Aside0 (Below w.heap.size w wc) := ⟨by rw [← hq_]; exact bl_⟩; clear BK553 HB hq_; have BK553 := n0_; have HB := n1_; clear n0_ n1_)); have hcz68 := cs2 BK553.out))
            refine bodyPost_ret (results_ct rfl _ _ gb553 54 #[.int .i64 t562, .int .i64 2] (0, 0) _ rfl bk_ Tryd.underlying54 rfl (by kernel_rfl)) rfl ?_
            exact ⟨by first | exact rr_ | (simp only [← hji5]; exact rr_), bl_⟩
       have HC72 := Aside0.mk H; clear H
       go_upto_if 30 with (fail)
       go_cut [17] (fun v17 wc => ∃ (kq : Nat) (x17_71 : Int), v17 = .int .i64 x17_71 ∧ Aside0 (quillref12_Move.j7 kq l0 2 x17_71 = some (r1, r2, r3)) ∧ Aside0 (kq ≤ kj54) ∧ Aside0 (wc.heap[gb553]? = some (.cells #[.int .i64 0, .int .i64 0] 54 (0, 0))) ∧ Aside0 (Below w.heap.size w wc))
       case first =>
        obtain ⟨H⟩ := HC72; replace H := nfe H; obtain ⟨c73b0, c73b1, H⟩ | ⟨c73b0, c73b1, H⟩ := H
        ·
         (first | rw [c73b0] | (simp only [i64_w, i32_w]; rw [c73b0]) | skip); replace H := Aside0.mk H; go_wp2; go_meet
         case rel => exact ⟨_, (wrap64 (a3 - 1)), r3_, H, ⟨by have := HJ7.out; have := HJ39.out; have := HJ54.out; first | omega | exact Nat.le_refl _⟩, ⟨BK553.out⟩, ⟨bl_⟩⟩
        (first | rw [c73b0] | (simp only [i64_w, i32_w]; rw [c73b0]) | skip); replace H := nfe H; obtain ⟨c74b0, c74b1, H⟩ | ⟨c74b0, c74b1, H⟩ := H
        ·
         replace H := Aside0.mk H; go_wp2; go_meet
         case rel => exact ⟨_, (0), r3_, H, ⟨by have := HJ7.out; have := HJ39.out; have := HJ54.out; first | omega | exact Nat.le_refl _⟩, ⟨BK553.out⟩, ⟨bl_⟩⟩
        replace H := Aside0.mk H; go_wp2; go_meet
        case rel => exact ⟨_, ((l0.length : Int)), r3_, H, ⟨by have := HJ7.out; have := HJ39.out; have := HJ54.out; first | omega | exact Nat.le_refl _⟩, ⟨BK553.out⟩, ⟨bl_⟩⟩
       case rest =>
        clear HC72
        try clear c21b0
        try clear c21b1
        try clear c25b0
        try clear c25b1
        try clear c30b0
        try clear c30b1
        obtain ⟨kq, x17_71, rfl, HA, HJ71, BK553, HB⟩ := hcut
        cases kq with
        | zero => exact absurd HA.out (by simp [quillref12_Move.j7])
        | succ kj71 =>
         obtain ⟨H⟩ := HA; simp only [quillref12_Move.j7] at H; replace H := Aside0.mk H; go_wp2
         go_loopg [13, 17] kj71 (fun kq v13 v17 w' => ∃ (x13_5 : Int) (x17_5 : Int), v13 = .int .i64 x13_5 ∧ v17 = .int .i64 x17_5 ∧ Aside0 (quillref12_Move.l0 kq l0 x13_5 2 x17_5 = some (r1, r2, r3)) ∧ Aside0 (kq ≤ kj71) ∧ Aside0 (w'.heap[gb553]? = some (.cells #[.int .i64 0, .int .i64 0] 54 (0, 0))) ∧ Aside0 (Below w.heap.size w w'))
         case atStart => exact ⟨(0), (x17_71), r3_, r3_, H, ⟨Nat.le_refl _⟩, ⟨BK553.out⟩, ⟨bl_⟩⟩
         case round =>
          clear H
          try clear c21b0
          try clear c21b1
          try clear c25b0
          try clear c25b1
          try clear c30b0
          try clear c30b1
          obtain ⟨x13_5, x17_5, rfl, rfl, HA, HK5, BK553, HB⟩ := hrel
          cases gk with
          | zero => exact absurd HA.out (by simp [quillref12_Move.l0])
          | succ k5 =>
           obtain ⟨H⟩ := HA; simp only [quillref12_Move.l0] at H; replace H := nfd H; obtain ⟨c75b0, H⟩ | ⟨c75b0, H⟩ := H
           ·
            replace H := bindA H; obtain ⟨t566, A83, H⟩ := H; (try dsimp only at H); replace H := ifd H; obtain ⟨c84b0, H⟩ | ⟨c84b0, H⟩ := H
            ·
             replace H := so3 H; obtain ⟨rfl, rfl, rfl⟩ := H
             go_wp2_with (first | ((with_reducible refine gC 61 rfl ?_); refine goesL1 (some 50) Tryd.func61 #[.slice A0 l0.length c0, .int .i64 x13_5] rfl (map2 rfl rfl) ?_; refine cm_ (quillref1_First.calls sd_ sd_ A83.out) ?_; rintro e w' ⟨rfl, nd, rfl⟩; refine ⟨_, rfl, ?_⟩; (try (rw [drewN_self wr]; generalize hq_ : World.drewN wr _ = wr; have n0_ : Aside0 (wr.heap[gb553]? = some (.cells #[.int .i64 0, .int .i64 0] 54 (0, 0))) := ⟨by rw [← hq_]; exact (by exact BK553.out)⟩; have n1_ : Aside0 (Below w.heap.size w wr) := ⟨by rw [← hq_]; exact bl_⟩; clear BK553 HB hq_; have BK553 := n0_; have HB := n1_; clear n0_ n1_)); have hcz85 := cs2 BK553.out))
             refine bodyPost_ret (results_ct rfl _ _ gb553 54 #[.int .i64 0, .int .i64 0] (0, 0) _ rfl bk_ Tryd.underlying54 rfl (by kernel_rfl)) rfl ?_
             exact ⟨by first | exact rr_ | (simp only [← hji5]; exact rr_), bl_⟩
            replace H := so3 H; obtain ⟨rfl, rfl, rfl⟩ := H
            go_wp2_with (first | ((with_reducible refine gC 61 rfl ?_); refine goesL1 (some 50) Tryd.func61 #[.slice A0 l0.length c0, .int .i64 x13_5] rfl (map2 rfl rfl) ?_; refine cm_ (quillref1_First.calls sd_ sd_ A83.out) ?_; rintro e w' ⟨rfl, nd, rfl⟩; refine ⟨_, rfl, ?_⟩; (try (rw [drewN_self wr]; generalize hq_ : World.drewN wr _ = wr; have n0_ : Aside0 (wr.heap[gb553]? = some (.cells #[.int .i64 0, .int .i64 0] 54 (0, 0))) := ⟨by rw [← hq_]; exact (by exact BK553.out)⟩; have n1_ : Aside0 (Below w.heap.size w wr) := ⟨by rw [← hq_]; exact bl_⟩; clear BK553 HB hq_; have BK553 := n0_; have HB := n1_; clear n0_ n1_)); have hcz86 := cs2 BK553.out))
            refine bodyPost_ret (results_ct rfl _ _ gb553 54 #[.int .i64 t566, .int .i64 2] (0, 0) _ rfl bk_ Tryd.underlying54 rfl (by kernel_rfl)) rfl ?_
            exact ⟨by first | exact rr_ | (simp only [← hji5]; exact rr_), bl_⟩
           replace H := bindA H; obtain ⟨t563, A76, H⟩ := H; (try dsimp only at H); replace H := ifd H; obtain ⟨c77b0, H⟩ | ⟨c77b0, H⟩ := H
           ·
            replace H := bindA H; obtain ⟨t564, A78, H⟩ := H; (try dsimp only at H); replace H := Aside0.mk H
            go_wp2_with (first | (go_at_call 83; refine cm_ (quillref12_row.calls sd_ sd_ A76.out) ?_; rintro e w' ⟨rfl, nd, rfl⟩) | ((with_reducible refine gC 83 rfl ?_); refine goesL1 (some 45) Tryd.func83 #[.slice A0 l0.length c0, .int .i64 x13_5, .int .i64 1] rfl (map3 rfl rfl rfl) ?_; refine cm_ (quillref12_row.calls sd_ sd_ A78.out) ?_; rintro e w' ⟨rfl, nd, rfl⟩; refine ⟨_, rfl, ?_⟩))
            go_roundg k5
            case measure => have := HJ7.out; have := HJ39.out; have := HJ54.out; have := HJ71.out; have := HK5.out; omega
            case rel => exact ⟨(t564), (wrap64 (x17_5 - 1)), r3_, r3_, H, ⟨by have := HJ7.out; have := HJ39.out; have := HJ54.out; have := HJ71.out; have := HK5.out; omega⟩, ⟨BK553.out⟩, ⟨bl_⟩⟩
           replace H := bindA H; obtain ⟨t565, A79, H⟩ := H; (try dsimp only at H); replace H := ifd H; obtain ⟨c80b0, H⟩ | ⟨c80b0, H⟩ := H
           ·
            replace H := so3 H; obtain ⟨rfl, rfl, rfl⟩ := H
            go_wp2_with (first | (go_at_call 83; refine cm_ (quillref12_row.calls sd_ sd_ A76.out) ?_; rintro e w' ⟨rfl, nd, rfl⟩; (try (rw [drewN_self wr]; generalize hq_ : World.drewN wr _ = wr; have n0_ : Aside0 (wr.heap[gb553]? = some (.cells #[.int .i64 0, .int .i64 0] 54 (0, 0))) := ⟨by rw [← hq_]; exact (by exact BK553.out)⟩; have n1_ : Aside0 (Below w.heap.size w wr) := ⟨by rw [← hq_]; exact bl_⟩; clear BK553 HB hq_; have BK553 := n0_; have HB := n1_; clear n0_ n1_))) | ((with_reducible refine gC 61 rfl ?_); refine goesL1 (some 50) Tryd.func61 #[.slice A0 l0.length c0, .int .i64 x13_5] rfl (map2 rfl rfl) ?_; refine cm_ (quillref1_First.calls sd_ sd_ A79.out) ?_; rintro e w' ⟨rfl, nd, rfl⟩; refine ⟨_, rfl, ?_⟩; (try (rw [drewN_self wr]; generalize hq_ : World.drewN wr _ = wr; have n0_ : Aside0 (wr.heap[gb553]? = some (.cells #[.int .i64 0, .int .i64 0] 54 (0, 0))) := ⟨by rw [← hq_]; exact (by exact BK553.out)⟩; have n1_ : Aside0 (Below w.heap.size w wr) := ⟨by rw [← hq_]; exact bl_⟩; clear BK553 HB hq_; have BK553 := n0_; have HB := n1_; clear n0_ n1_)); have hcz81 := cs2 BK553.out))
            refine bodyPost_ret (results_ct rfl _ _ gb553 54 #[.int .i64 0, .int .i64 0] (0, 0) _ rfl bk_ Tryd.underlying54 rfl (by kernel_rfl)) rfl ?_
            exact ⟨by first | exact rr_ | (simp only [← hji5]; exact rr_), bl_⟩
           replace H := so3 H; obtain ⟨rfl, rfl, rfl⟩ := H
           go_wp2_with (first | (go_at_call 83; refine cm_ (quillref12_row.calls sd_ sd_ A76.out) ?_; rintro e w' ⟨rfl, nd, rfl⟩; (try (rw [drewN_self wr]; generalize hq_ : World.drewN wr _ = wr; have n0_ : Aside0 (wr.heap[gb553]? = some (.cells #[.int .i64 0, .int .i64 0] 54 (0, 0))) := ⟨by rw [← hq_]; exact (by exact BK553.out)⟩; have n1_ : Aside0 (Below w.heap.size w wr) := ⟨by rw [← hq_]; exact bl_⟩; clear BK553 HB hq_; have BK553 := n0_; have HB := n1_; clear n0_ n1_))) | ((with_reducible refine gC 61 rfl ?_); refine goesL1 (some 50) Tryd.func61 #[.slice A0 l0.length c0, .int .i64 x13_5] rfl (map2 rfl rfl) ?_; refine cm_ (quillref1_First.calls sd_ sd_ A79.out) ?_; rintro e w' ⟨rfl, nd, rfl⟩; refine ⟨_, rfl, ?_⟩; (try (rw [drewN_self wr]; generalize hq_ : World.drewN wr _ = wr; have n0_ : Aside0 (wr.heap[gb553]? = some (.cells #[.int .i64 0, .int .i64 0] 54 (0, 0))) := ⟨by rw [← hq_]; exact (by exact BK553.out)⟩; have n1_ : Aside0 (Below w.heap.size w wr) := ⟨by rw [← hq_]; exact bl_⟩; clear BK553 HB hq_; have BK553 := n0_; have HB := n1_; clear n0_ n1_)); have hcz82 := cs2 BK553.out))
           refine bodyPost_ret (results_ct rfl _ _ gb553 54 #[.int .i64 t565, .int .i64 2] (0, 0) _ rfl bk_ Tryd.underlying54 rfl (by kernel_rfl)) rfl ?_
           exact ⟨by first | exact rr_ | (simp only [← hji5]; exact rr_), bl_⟩

end Go.Proofs.YtbgmmcngkdhpcaaDoor.P
