/- The walks of the functions that these statements reach: each Go function as a plain Lean function, and the proof that its call comes to that. Written by the session's program wip/pp.py. -/
import Derived.Test.YtbgmmcngkdhpcaaDoorP0
import Derived.Test.YtbgmmcngkdhpcaaDoorP18
import Derived.Test.YtbgmmcngkdhpcaaDoorP21
import Derived.Test.YtbgmmcngkdhpcaaDoorP22
namespace Go.Proofs.YtbgmmcngkdhpcaaDoor.P
open Go.Proofs.YtbgmmcngkdhpcaaDoor
open Go.RowKit Go.Proofs.YtbgmmcngkdhpcaaDoorW.PrintWords Go.Proofs.YtbgmmcngkdhpcaaDoorW.PrintLast Go.Proofs.YtbgmmcngkdhpcaaDoorW.PrintMore
attribute [local go_sem] cell_isSome max2_int min2_int max_two min_two max_three min_three max_four min_four   -- for this text's walks alone
set_option linter.unusedVariables false
set_option linter.unusedSimpArgs false
set_option maxHeartbeats 8000000
set_option maxRecDepth 100000

/-! ### quillref12_Pair: function 59 -/
mutual
def quillref12_Pair.l0 : Nat → List Int → Int → Option (Int)
  | 0, _, _ => none
  | k + 1, x0, x5 => if x5 < (x0.length : Int) then (if 0 ≤ x5 then (quillref12_Pair.j1 k x0 x5 ((rd x0 x5) != 10)) else (none)) else (quillref12_Pair.j1 k x0 x5 false)
def quillref12_Pair.j1 : Nat → List Int → Int → Bool → Option (Int)
  | 0, _, _, _ => none
  | k + 1, x0, x5, x19 => if x19 = true then (if 0 ≤ x5 then (if x5 < (x0.length : Int) then ((quillref12_bracket.f k (rd x0 x5)).bind fun bt544 => (if bt544.1 ≥ 0 then ((quillref12_Mate.f k x0 x5).bind fun t546 => (some t546)) else (quillref12_Pair.l0 k x0 (wrap64 (x5 + 1))))) else (none)) else (none)) else (some (-1))
end
def quillref12_Pair.f (k : Nat) (l0 : List Int) (a1 : Int) : Option (Int) := quillref12_Pair.l0 k l0 a1
theorem quillref12_Pair.calls {k : Nat} {A0 : Option Addr} {c0 : Nat} {l0 : List Int} {a1 : Int} {r : Int} {w : World} (hr0 : Kd.C (Kd.int .i32) w A0 l0.length l0) (hc0 : l0.length ≤ c0) (H : quillref12_Pair.f k l0 a1 = some r) :
  Calls Tryd.prog 59 #[.slice A0 l0.length c0, .int .i64 a1] w fun e w' => e = .returned (.int .i64 r) ∧ Below w.heap.size w w' := by
 have HR0 := Aside0.mk hr0; have HC0 := Aside0.mk hc0; clear hr0 hc0; have HB := Aside0.mk (Below.refl w.heap.size w); unfold quillref12_Pair.f at H; replace H := Aside0.mk H; go_enter Tryd.func59, Tryd.ntmps59
 go_wp2
 go_loopg [5] k (fun kq v5 w' => ∃ (x5_1 : Int), v5 = .int .i64 x5_1 ∧ Aside0 (quillref12_Pair.l0 kq l0 x5_1 = some r) ∧ Aside0 (kq ≤ k) ∧ Aside0 (Below w.heap.size w w'))
 case atStart => exact ⟨(a1), r3_, H, ⟨Nat.le_refl _⟩, ⟨bl_⟩⟩
 case round =>
  clear H; obtain ⟨x5_1, rfl, HA, HK1, HB⟩ := hrel
  cases gk with
  | zero => exact absurd HA.out (by simp [quillref12_Pair.l0])
  | succ k1 =>
   obtain ⟨H⟩ := HA; simp only [quillref12_Pair.l0] at H; have HC3 := Aside0.mk H; clear H
   go_upto_region 2 with (fail)
   go_cut [19] (fun v19 wc => ∃ (kq : Nat) (x19_2 : Bool), v19 = .bool x19_2 ∧ Aside0 (quillref12_Pair.j1 kq l0 x5_1 x19_2 = some r) ∧ Aside0 (kq ≤ k1) ∧ Aside0 (Below w.heap.size w wc))
   case first =>
    obtain ⟨H⟩ := HC3; replace H := nfd H; obtain ⟨c4b0, H⟩ | ⟨c4b0, H⟩ := H
    ·
     (first | rw [c4b0] | (simp only [i64_w, i32_w]; rw [c4b0]) | skip); replace H := Aside0.mk H; go_wp2; go_meet
     case rel => exact ⟨_, (false), r3_, H, ⟨by have := HK1.out; first | omega | exact Nat.le_refl _⟩, ⟨bl_⟩⟩
    (first | rw [c4b0] | (simp only [i64_w, i32_w]; rw [c4b0]) | skip); replace H := ifdn H; obtain ⟨c5b0, H⟩ := H; replace H := Aside0.mk H; obtain ⟨p542, q542, ad542, e542, hx542_0⟩ := ix_ (Kd.at_int HR0.out x5_1); cases e542; replace hx542_0 := hb_ HB hx542_0; go_wp2; go_meet
    case rel => exact ⟨_, (((rd l0 x5_1) != 10)), r3_, H, ⟨by have := HK1.out; first | omega | exact Nat.le_refl _⟩, ⟨bl_⟩⟩
   case rest =>
    clear HC3; obtain ⟨kq, x19_2, rfl, HA, HJ2, HB⟩ := hcut
    cases kq with
    | zero => exact absurd HA.out (by simp [quillref12_Pair.j1])
    | succ kj2 =>
     obtain ⟨H⟩ := HA; simp only [quillref12_Pair.j1] at H; replace H := nfb H; obtain ⟨rfl, H⟩ | ⟨rfl, H⟩ := H
     ·
      obtain rfl := Option.some.inj H; go_wp2; go_ret
      exact ⟨rr_, bl_⟩
     replace H := ifq H; obtain ⟨c7b0, c8b0, H⟩ := H; replace H := bindA H; obtain ⟨⟨t544, t545⟩, A9, H⟩ := H; (try dsimp only at H); replace H := nfd H; obtain ⟨c10b0, H⟩ | ⟨c10b0, H⟩ := H
     ·
      replace H := Aside0.mk H; obtain ⟨p543, q543, ad543, e543, hx543_0⟩ := ix_ (Kd.at_int HR0.out x5_1); cases e543; replace hx543_0 := hb_ HB hx543_0
      go_wp2_with (first | ((with_reducible refine gC 85 rfl ?_); refine goesL1 (some 27) Tryd.func85 #[.int .i32 (rd l0 x5_1)] rfl (map1 rfl) ?_; (with_reducible refine (quillref12_bracket.calls A9.out).mono ?_); rintro e w14 ⟨rfl, hb⟩; refine ⟨_, rfl, ?_⟩; replace HB := hB hb; (try clear hb)))
      go_roundg kj2
      case measure => have := HK1.out; have := HJ2.out; omega
      case rel => exact ⟨(wrap64 (x5_1 + 1)), r3_, H, ⟨by have := HK1.out; have := HJ2.out; omega⟩, ⟨bl_⟩⟩
     replace H := bindA H; obtain ⟨t546, A11, H⟩ := H; (try dsimp only at H); obtain rfl := Option.some.inj H; obtain ⟨p543, q543, ad543, e543, hx543_0⟩ := ix_ (Kd.at_int HR0.out x5_1); cases e543; replace hx543_0 := hb_ HB hx543_0
     go_wp2_with (first | ((with_reducible refine gC 85 rfl ?_); refine goesL1 (some 27) Tryd.func85 #[.int .i32 (rd l0 x5_1)] rfl (map1 rfl) ?_; (with_reducible refine (quillref12_bracket.calls A9.out).mono ?_); rintro e w12 ⟨rfl, hb⟩; refine ⟨_, rfl, ?_⟩; replace HB := hB hb; (try clear hb)) | ((with_reducible refine gC 86 rfl ?_); refine goesL1 (some 34) Tryd.func86 #[.slice (some ad543) l0.length c0, .int .i64 x5_1] rfl (map2 rfl rfl) ?_; refine cm_ (quillref12_Mate.calls sd_ sd_ A11.out) ?_; rintro e w13 ⟨rfl, hb⟩; refine ⟨_, rfl, ?_⟩; replace HB := hB hb; (try clear hb)))
     go_ret
     exact ⟨rr_, bl_⟩

/-! ### quillref6_Get: function 60 -/
def quillref6_Get.l0 : Nat → List (S89) → Int → Int → Option (Int)
  | 0, _, _, _ => none
  | k + 1, x0, x1, x5 => if x5 < (x0.length : Int) then (if 0 ≤ x5 then (if ((rd_T89 x0 x5).f0) = x1 then (some ((rd_T89 x0 x5).f1)) else (quillref6_Get.l0 k x0 x1 (wrap64 (x5 + 1)))) else (none)) else (some (-1))
def quillref6_Get.f (k : Nat) (l0 : List (S89)) (a1 : Int) : Option (Int) := quillref6_Get.l0 k l0 a1 0
theorem quillref6_Get.calls {k : Nat} {A0 : Option Addr} {c0 : Nat} {l0 : List (S89)} {a1 : Int} {r : Int} {w : World} (hr0 : Kd.C k89 w A0 l0.length l0) (hc0 : l0.length ≤ c0) (H : quillref6_Get.f k l0 a1 = some r) :
  Calls Tryd.prog 60 #[.slice A0 l0.length c0, .int .i64 a1] w fun e w' => e = .returned (.int .i64 r) ∧ Drawn0 w w' := by
 have HR0 := Aside0.mk hr0; have HC0 := Aside0.mk hc0; clear hr0 hc0; unfold quillref6_Get.f at H; replace H := Aside0.mk H; go_enter Tryd.func60, Tryd.ntmps60
 go_wp2
 go_loopg [5] k (fun kq v5 w' => ∃ (x5_1 : Int), v5 = .int .i64 x5_1 ∧ Aside0 (quillref6_Get.l0 kq l0 a1 x5_1 = some r) ∧ Aside0 (kq ≤ k) ∧ Drawn0 w w')
 case atStart => exact ⟨(0), r3_, H, ⟨Nat.le_refl _⟩, dr_⟩
 case round =>
  clear H; obtain ⟨x5_1, rfl, HA, HK1, ⟨m1, rfl⟩⟩ := hrel
  cases gk with
  | zero => exact absurd HA.out (by simp [quillref6_Get.l0])
  | succ k1 =>
   obtain ⟨H⟩ := HA; simp only [quillref6_Get.l0] at H; replace H := nfd H; obtain ⟨c3b0, H⟩ | ⟨c3b0, H⟩ := H
   ·
    obtain rfl := Option.some.inj H; go_wp2; go_ret
    exact ⟨r3_, dr_⟩
   replace H := ifdn H; obtain ⟨c4b0, H⟩ := H; replace H := nfe H; obtain ⟨c5b0, c5b1, H⟩ | ⟨c5b0, c5b1, H⟩ := H
   ·
    replace H := Aside0.mk H; obtain ⟨p547, q547, ad547, e547, hx547_0, hx547_1⟩ := ix_ (at_T89 HR0.out x5_1); cases e547; go_wp2
    go_roundg k1
    case measure => have := HK1.out; omega
    case rel => exact ⟨(wrap64 (x5_1 + 1)), r3_, H, ⟨by have := HK1.out; omega⟩, dr_⟩
   obtain rfl := Option.some.inj H; obtain ⟨p547, q547, ad547, e547, hx547_0, hx547_1⟩ := ix_ (at_T89 HR0.out x5_1); cases e547; have p548 := od_ (0 ≤ (x5_1 : Int)); have q548 := od_ (x5_1 < (l0.length : Int)); obtain ⟨ad548, e548, hx548_0, hx548_1⟩ := at_T89 HR0.out x5_1 p548 q548; obtain rfl : ad547 = ad548 := (by injection e548); replace p548 := eq_true p548; replace q548 := eq_true q548; go_wp2
   go_ret
   exact ⟨r3_, dr_⟩

/-! ### quillref1_First: function 61 -/
def quillref1_First.l0 : Nat → List Int → Int → Option (Int)
  | 0, _, _ => none
  | k + 1, x0, x1 => if x1 < (x0.length : Int) then (if 0 ≤ x1 then (if (rd x0 x1) = 10 then (some x1) else ((quillref1_Class.f k (wrap64 (rd x0 x1))).bind fun t552 => (if t552 = 0 then (quillref1_First.l0 k x0 (wrap64 (x1 + 1))) else (some x1)))) else (none)) else (some x1)
def quillref1_First.f (k : Nat) (l0 : List Int) (a1 : Int) : Option (Int) := (quillref1_Begin.f k l0 a1).bind fun t549 => (quillref1_First.l0 k l0 t549)
theorem quillref1_First.calls {k : Nat} {A0 : Option Addr} {c0 : Nat} {l0 : List Int} {a1 : Int} {r : Int} {w : World} (hr0 : Kd.C (Kd.int .i32) w A0 l0.length l0) (hc0 : l0.length ≤ c0) (H : quillref1_First.f k l0 a1 = some r) :
  Calls Tryd.prog 61 #[.slice A0 l0.length c0, .int .i64 a1] w fun e w' => e = .returned (.int .i64 r) ∧ Drawn0 w w' := by
 have HR0 := Aside0.mk hr0; have HC0 := Aside0.mk hc0; clear hr0 hc0; unfold quillref1_First.f at H; replace H := bindA H; obtain ⟨t549, A3, H⟩ := H; (try dsimp only at H); replace H := Aside0.mk H; go_enter Tryd.func61, Tryd.ntmps61
 go_wp2_with (first | ((with_reducible refine gC 32 rfl ?_); refine goesL1 (some 7) Tryd.func32 #[.slice A0 l0.length c0, .int .i64 a1] rfl (map2 rfl rfl) ?_; refine cm_ (quillref1_Begin.calls sd_ sd_ A3.out) ?_; rintro e w' ⟨rfl, nd, rfl⟩; refine ⟨_, rfl, ?_⟩))
 go_loopg [1] k (fun kq v1 w' => ∃ (x1_1 : Int), v1 = .int .i64 x1_1 ∧ Aside0 (quillref1_First.l0 kq l0 x1_1 = some r) ∧ Aside0 (kq ≤ k) ∧ Drawn0 w w')
 case atStart => exact ⟨(t549), r3_, H, ⟨Nat.le_refl _⟩, dr_⟩
 case round =>
  clear H; obtain ⟨x1_1, rfl, HA, HK1, ⟨m1, rfl⟩⟩ := hrel
  cases gk with
  | zero => exact absurd HA.out (by simp [quillref1_First.l0])
  | succ k1 =>
   obtain ⟨H⟩ := HA; simp only [quillref1_First.l0] at H; replace H := nfd H; obtain ⟨c4b0, H⟩ | ⟨c4b0, H⟩ := H
   ·
    obtain rfl := Option.some.inj H; go_wp2; go_ret
    exact ⟨r3_, dr_⟩
   replace H := ifdn H; obtain ⟨c5b0, H⟩ := H; replace H := ife H; obtain ⟨c6b0, c6b1, H⟩ | ⟨c6b0, c6b1, H⟩ := H
   ·
    obtain rfl := Option.some.inj H; obtain ⟨p550, q550, ad550, e550, hx550_0⟩ := ix_ (Kd.at_int HR0.out x1_1); cases e550; go_wp2; go_ret
    exact ⟨r3_, dr_⟩
   replace H := bindA H; obtain ⟨t552, A7, H⟩ := H; (try dsimp only at H); replace H := nfe H; obtain ⟨c8b0, c8b1, H⟩ | ⟨c8b0, c8b1, H⟩ := H
   ·
    obtain rfl := Option.some.inj H; obtain ⟨p550, q550, ad550, e550, hx550_0⟩ := ix_ (Kd.at_int HR0.out x1_1); cases e550; have p551 := od_ (0 ≤ (x1_1 : Int)); have q551 := od_ (x1_1 < (l0.length : Int)); obtain ⟨ad551, e551, hx551_0⟩ := Kd.at_int HR0.out x1_1 p551 q551; obtain rfl : ad550 = ad551 := (by injection e551); replace p551 := eq_true p551; replace q551 := eq_true q551
    go_wp2_with (first | (go_at_call 87; (with_reducible refine (quillref1_Class.calls A7.out).mono ?_); rintro e w' ⟨rfl, nd, rfl⟩))
    go_ret
    exact ⟨r3_, dr_⟩
   replace H := Aside0.mk H; obtain ⟨p550, q550, ad550, e550, hx550_0⟩ := ix_ (Kd.at_int HR0.out x1_1); cases e550; have p551 := od_ (0 ≤ (x1_1 : Int)); have q551 := od_ (x1_1 < (l0.length : Int)); obtain ⟨ad551, e551, hx551_0⟩ := Kd.at_int HR0.out x1_1 p551 q551; obtain rfl : ad550 = ad551 := (by injection e551); replace p551 := eq_true p551; replace q551 := eq_true q551
   go_wp2_with (first | (go_at_call 87; (with_reducible refine (quillref1_Class.calls A7.out).mono ?_); rintro e w' ⟨rfl, nd, rfl⟩))
   go_roundg k1
   case measure => have := HK1.out; omega
   case rel => exact ⟨(wrap64 (x1_1 + 1)), r3_, H, ⟨by have := HK1.out; omega⟩, dr_⟩

end Go.Proofs.YtbgmmcngkdhpcaaDoor.P
