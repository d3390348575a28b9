/- The walks of the functions that these statements reach: each Go function as a plain Lean function, and the proof that its call comes to that. Written by the session's program wip/pp.py. -/
import Derived.Test.YtbgmmcngkdhpcaaDoorP0
import Derived.Test.YtbgmmcngkdhpcaaDoorP18
import Derived.Test.YtbgmmcngkdhpcaaDoorP20
namespace Go.Proofs.YtbgmmcngkdhpcaaDoor.P
open Go.Proofs.YtbgmmcngkdhpcaaDoor
open Go.RowKit Go.Proofs.YtbgmmcngkdhpcaaDoorW.PrintWords Go.Proofs.YtbgmmcngkdhpcaaDoorW.PrintLast Go.Proofs.YtbgmmcngkdhpcaaDoorW.PrintMore
attribute [local go_sem] cell_isSome max2_int min2_int max_two min_two max_three min_three max_four min_four   -- for this text's walks alone
set_option linter.unusedVariables false
set_option linter.unusedSimpArgs false
set_option maxHeartbeats 8000000
set_option maxRecDepth 100000

/-! ### quillref10_Find: function 57 -/
mutual
def quillref10_Find.j0 : Nat → List Int → Int → Int → Int → Int → Int → Option (Int × Int)
  | 0, _, _, _, _, _, _ => none
  | k + 1, x0, x1, x2, x3, x4, x12 => (quillref1_Begin.f k x0 x1).bind fun t503 => ((quillref1_End.f k x0 x1).bind fun t504 => (quillref10_Find.l0 k x0 x2 x3 x4 x12 t503 t504 (wrap64 (x1 + x12))))
def quillref10_Find.l0 : Nat → List Int → Int → Int → Int → Int → Int → Int → Int → Option (Int × Int)
  | 0, _, _, _, _, _, _, _, _ => none
  | k + 1, x0, x2, x3, x4, x12, x13, x14, x15 => if x15 ≥ x13 then (quillref10_Find.j2 k x0 x2 x3 x4 x12 x13 x14 x15 (decide (x15 < x14))) else (quillref10_Find.j2 k x0 x2 x3 x4 x12 x13 x14 x15 false)
def quillref10_Find.j2 : Nat → List Int → Int → Int → Int → Int → Int → Int → Int → Bool → Option (Int × Int)
  | 0, _, _, _, _, _, _, _, _, _ => none
  | k + 1, x0, x2, x3, x4, x12, x13, x14, x15, x34 => if x34 = true then (if 0 ≤ x15 then (if x15 < (x0.length : Int) then (if (wrap64 (rd x0 x15)) = x3 then (if (wrap64 (x4 - 1)) = 0 then (if x2 = 116 then (some (wrap64 (x15 - x12), 0)) else (if x2 = 84 then (some (wrap64 (x15 - x12), 0)) else (some (x15, 0)))) else (quillref10_Find.l0 k x0 x2 x3 (wrap64 (x4 - 1)) x12 x13 x14 (wrap64 (x15 + x12)))) else (quillref10_Find.l0 k x0 x2 x3 x4 x12 x13 x14 (wrap64 (x15 + x12)))) else (none)) else (none)) else (some (0, 6))
end
def quillref10_Find.f (k : Nat) (l0 : List Int) (a1 : Int) (a2 : Int) (a3 : Int) (a4 : Int) : Option (Int × Int) := if a2 < 97 then (quillref10_Find.j0 k l0 a1 a2 a3 a4 (-1)) else (quillref10_Find.j0 k l0 a1 a2 a3 a4 1)
theorem quillref10_Find.calls {k : Nat} {A0 : Option Addr} {c0 : Nat} {l0 : List Int} {a1 : Int} {a2 : Int} {a3 : Int} {a4 : Int} {r1 : Int} {r2 : Int} {w : World} (hr0 : Kd.C (Kd.int .i32) w A0 l0.length l0) (hc0 : l0.length ≤ c0) (H : quillref10_Find.f k l0 a1 a2 a3 a4 = some (r1, r2)) :
  Calls Tryd.prog 57 #[.slice A0 l0.length c0, .int .i64 a1, .int .i64 a2, .int .i64 a3, .int .i64 a4] w fun e w' => e = .returned (.tuple #[.int .i64 r1, .int .i64 r2]) ∧ Drawn0 w w' := by
 have HR0 := Aside0.mk hr0; have HC0 := Aside0.mk hc0; clear hr0 hc0; unfold quillref10_Find.f at H; have HC6 := Aside0.mk H; clear H; go_enter Tryd.func57, Tryd.ntmps57
 go_upto_if 17 with (fail)
 go_cut [12] (fun v12 wc => ∃ (kq : Nat) (x12_5 : Int), v12 = .int .i64 x12_5 ∧ Aside0 (quillref10_Find.j0 kq l0 a1 a2 a3 a4 x12_5 = some (r1, r2)) ∧ Aside0 (kq ≤ k) ∧ Drawn0 w wc)
 case first =>
  obtain ⟨H⟩ := HC6; replace H := nfd H; obtain ⟨c7b0, H⟩ | ⟨c7b0, H⟩ := H
  ·
   (first | rw [c7b0] | (simp only [i64_w, i32_w]; rw [c7b0]) | skip); replace H := Aside0.mk H; go_wp2; go_meet
   case rel => exact ⟨_, (1), r3_, H, ⟨ol_⟩, dr_⟩
  (first | rw [c7b0] | (simp only [i64_w, i32_w]; rw [c7b0]) | skip); replace H := Aside0.mk H; go_wp2; go_meet
  case rel => exact ⟨_, ((-1)), r3_, H, ⟨ol_⟩, dr_⟩
 case rest =>
  clear HC6; obtain ⟨kq, x12_5, rfl, HA, HJ5, ⟨mc5, rfl⟩⟩ := hcut
  cases kq with
  | zero => exact absurd HA.out (by simp [quillref10_Find.j0])
  | succ kj5 =>
   obtain ⟨H⟩ := HA; simp only [quillref10_Find.j0] at H; replace H := bindA H; obtain ⟨t503, A8, H⟩ := H; (try dsimp only at H); replace H := bindA H; obtain ⟨t504, A9, H⟩ := H; (try dsimp only at H); replace H := Aside0.mk H
   go_wp2_with (first | ((with_reducible refine gC 32 rfl ?_); refine goesL1 (some 20) Tryd.func32 #[.slice A0 l0.length c0, .int .i64 a1] rfl (map2 rfl rfl) ?_; refine cm_ (quillref1_Begin.calls sd_ sd_ A8.out) ?_; rintro e w' ⟨rfl, nd, rfl⟩; refine ⟨_, rfl, ?_⟩) | ((with_reducible refine gC 33 rfl ?_); refine goesL1 (some 23) Tryd.func33 #[.slice A0 l0.length c0, .int .i64 a1] rfl (map2 rfl rfl) ?_; refine cm_ (quillref1_End.calls sd_ sd_ A9.out) ?_; rintro e w' ⟨rfl, nd, rfl⟩; refine ⟨_, rfl, ?_⟩))
   go_loopg [4, 15] kj5 (fun kq v4 v15 w' => ∃ (x4_2 : Int) (x15_2 : Int), v4 = .int .i64 x4_2 ∧ v15 = .int .i64 x15_2 ∧ Aside0 (quillref10_Find.l0 kq l0 a2 a3 x4_2 x12_5 t503 t504 x15_2 = some (r1, r2)) ∧ Aside0 (kq ≤ kj5) ∧ Drawn0 w w')
   case atStart => exact ⟨(a4), (wrap64 (a1 + x12_5)), r3_, r3_, H, ⟨Nat.le_refl _⟩, dr_⟩
   case round =>
    clear H; obtain ⟨x4_2, x15_2, rfl, rfl, HA, HK2, ⟨m2, rfl⟩⟩ := hrel
    cases gk with
    | zero => exact absurd HA.out (by simp [quillref10_Find.l0])
    | succ k2 =>
     obtain ⟨H⟩ := HA; simp only [quillref10_Find.l0] at H; have HC10 := Aside0.mk H; clear H
     go_upto_region 6 with (fail)
     go_cut [34] (fun v34 wc => ∃ (kq : Nat) (x34_9 : Bool), v34 = .bool x34_9 ∧ Aside0 (quillref10_Find.j2 kq l0 a2 a3 x4_2 x12_5 t503 t504 x15_2 x34_9 = some (r1, r2)) ∧ Aside0 (kq ≤ k2) ∧ Drawn0 w wc)
     case first =>
      obtain ⟨H⟩ := HC10; replace H := nfd H; obtain ⟨c11b0, H⟩ | ⟨c11b0, H⟩ := H
      ·
       (first | rw [c11b0] | (simp only [i64_w, i32_w]; rw [c11b0]) | skip); replace H := Aside0.mk H; go_wp2; go_meet
       case rel => exact ⟨_, (false), r3_, H, ⟨by have := HJ5.out; have := HK2.out; first | omega | exact Nat.le_refl _⟩, dr_⟩
      (first | rw [c11b0] | (simp only [i64_w, i32_w]; rw [c11b0]) | skip); replace H := Aside0.mk H; go_wp2; go_meet
      case rel => exact ⟨_, (decide (x15_2 < t504)), r3_, H, ⟨by have := HJ5.out; have := HK2.out; first | omega | exact Nat.le_refl _⟩, dr_⟩
     case rest =>
      clear HC10; obtain ⟨kq, x34_9, rfl, HA, HJ9, ⟨mc9, rfl⟩⟩ := hcut
      cases kq with
      | zero => exact absurd HA.out (by simp [quillref10_Find.j2])
      | succ kj9 =>
       obtain ⟨H⟩ := HA; simp only [quillref10_Find.j2] at H; replace H := nfb H; obtain ⟨rfl, H⟩ | ⟨rfl, H⟩ := H
       ·
        replace H := so2 H; obtain ⟨rfl, rfl⟩ := H; go_wp2
        go_ret2
        exact ⟨r3_, dr_⟩
       replace H := ifq H; obtain ⟨c13b0, c14b0, H⟩ := H; replace H := nfe H; obtain ⟨c15b0, c15b1, H⟩ | ⟨c15b0, c15b1, H⟩ := H
       ·
        replace H := Aside0.mk H; obtain ⟨p505, q505, ad505, e505, hx505_0⟩ := ix_ (Kd.at_int HR0.out x15_2); cases e505; go_wp2
        go_roundg kj9
        case measure => have := HJ5.out; have := HK2.out; have := HJ9.out; omega
        case rel => exact ⟨(x4_2), (wrap64 (x15_2 + x12_5)), r3_, r3_, H, ⟨by have := HJ5.out; have := HK2.out; have := HJ9.out; omega⟩, dr_⟩
       replace H := nfe H; obtain ⟨c16b0, c16b1, H⟩ | ⟨c16b0, c16b1, H⟩ := H
       ·
        replace H := Aside0.mk H; obtain ⟨p505, q505, ad505, e505, hx505_0⟩ := ix_ (Kd.at_int HR0.out x15_2); cases e505; go_wp2
        go_roundg kj9
        case measure => have := HJ5.out; have := HK2.out; have := HJ9.out; omega
        case rel => exact ⟨(wrap64 (x4_2 - 1)), (wrap64 (x15_2 + x12_5)), r3_, r3_, H, ⟨by have := HJ5.out; have := HK2.out; have := HJ9.out; omega⟩, dr_⟩
       replace H := ife H; obtain ⟨c17b0, c17b1, H⟩ | ⟨c17b0, c17b1, H⟩ := H
       ·
        replace H := so2 H; obtain ⟨rfl, rfl⟩ := H; obtain ⟨p505, q505, ad505, e505, hx505_0⟩ := ix_ (Kd.at_int HR0.out x15_2); cases e505; go_wp2
        go_ret2
        exact ⟨r3_, dr_⟩
       replace H := nfe H; obtain ⟨c18b0, c18b1, H⟩ | ⟨c18b0, c18b1, H⟩ := H
       ·
        replace H := so2 H; obtain ⟨rfl, rfl⟩ := H; obtain ⟨p505, q505, ad505, e505, hx505_0⟩ := ix_ (Kd.at_int HR0.out x15_2); cases e505; go_wp2
        go_ret2
        exact ⟨r3_, dr_⟩
       replace H := so2 H; obtain ⟨rfl, rfl⟩ := H; obtain ⟨p505, q505, ad505, e505, hx505_0⟩ := ix_ (Kd.at_int HR0.out x15_2); cases e505; go_wp2
       go_ret2
       exact ⟨r3_, dr_⟩

/-! ### quillref12_row: function 83 -/
mutual
def quillref12_row.l0 : Nat → List Int → Int → Int → Option (Int)
  | 0, _, _, _ => none
  | k + 1, x0, x1, x2 => if x2 > 0 then ((quillref1_End.f k x0 x1).bind fun t506 => (if t506 = (x0.length : Int) then (some (-1)) else (quillref12_row.l0 k x0 (wrap64 (t506 + 1)) (wrap64 (x2 - 1))))) else ((quillref1_Begin.f k x0 x1).bind fun t507 => (quillref12_row.l1 k x0 t507 x2))
def quillref12_row.l1 : Nat → List Int → Int → Int → Option (Int)
  | 0, _, _, _ => none
  | k + 1, x0, x1, x2 => if x2 < 0 then (if x1 = 0 then (some (-1)) else ((quillref1_Begin.f k x0 (wrap64 (x1 - 1))).bind fun t508 => (quillref12_row.l1 k x0 t508 (wrap64 (x2 + 1))))) else (some x1)
end
def quillref12_row.f (k : Nat) (l0 : List Int) (a1 : Int) (a2 : Int) : Option (Int) := quillref12_row.l0 k l0 a1 a2
theorem quillref12_row.calls {k : Nat} {A0 : Option Addr} {c0 : Nat} {l0 : List Int} {a1 : Int} {a2 : Int} {r : Int} {w : World} (hr0 : Kd.C (Kd.int .i32) w A0 l0.length l0) (hc0 : l0.length ≤ c0) (H : quillref12_row.f k l0 a1 a2 = some r) :
  Calls Tryd.prog 83 #[.slice A0 l0.length c0, .int .i64 a1, .int .i64 a2] w fun e w' => e = .returned (.int .i64 r) ∧ Drawn0 w w' := by
 have HR0 := Aside0.mk hr0; have HC0 := Aside0.mk hc0; clear hr0 hc0; unfold quillref12_row.f at H; replace H := Aside0.mk H; go_enter Tryd.func83, Tryd.ntmps83
 go_wp2
 go_loopg [1, 2] k (fun kq v1 v2 w' => ∃ (x1_1 : Int) (x2_1 : Int), v1 = .int .i64 x1_1 ∧ v2 = .int .i64 x2_1 ∧ Aside0 (quillref12_row.l0 kq l0 x1_1 x2_1 = some r) ∧ Aside0 (kq ≤ k) ∧ Drawn0 w w')
 case atStart => exact ⟨(a1), (a2), r3_, r3_, H, ⟨Nat.le_refl _⟩, dr_⟩
 case round =>
  clear H; obtain ⟨x1_1, x2_1, rfl, rfl, HA, HK1, ⟨m1, rfl⟩⟩ := hrel
  cases gk with
  | zero => exact absurd HA.out (by simp [quillref12_row.l0])
  | succ k1 =>
   obtain ⟨H⟩ := HA; simp only [quillref12_row.l0] at H; replace H := ifd H; obtain ⟨c4b0, H⟩ | ⟨c4b0, H⟩ := H
   ·
    replace H := bindA H; obtain ⟨t506, A5, H⟩ := H; (try dsimp only at H); replace H := ife H; obtain ⟨c6b0, c6b1, H⟩ | ⟨c6b0, c6b1, H⟩ := H
    ·
     obtain rfl := Option.some.inj H
     go_wp2_with (first | ((with_reducible refine gC 33 rfl ?_); refine goesL1 (some 11) Tryd.func33 #[.slice A0 l0.length c0, .int .i64 x1_1] rfl (map2 rfl rfl) ?_; refine cm_ (quillref1_End.calls sd_ sd_ A5.out) ?_; rintro e w' ⟨rfl, nd, rfl⟩; refine ⟨_, rfl, ?_⟩))
     go_ret
     exact ⟨r3_, dr_⟩
    replace H := Aside0.mk H
    go_wp2_with (first | ((with_reducible refine gC 33 rfl ?_); refine goesL1 (some 11) Tryd.func33 #[.slice A0 l0.length c0, .int .i64 x1_1] rfl (map2 rfl rfl) ?_; refine cm_ (quillref1_End.calls sd_ sd_ A5.out) ?_; rintro e w' ⟨rfl, nd, rfl⟩; refine ⟨_, rfl, ?_⟩))
    go_roundg k1
    case measure => have := HK1.out; omega
    case rel => exact ⟨(wrap64 (t506 + 1)), (wrap64 (x2_1 - 1)), r3_, r3_, H, ⟨by have := HK1.out; omega⟩, dr_⟩
   replace H := bindA H; obtain ⟨t507, A7, H⟩ := H; (try dsimp only at H); replace H := Aside0.mk H
   go_wp2_with (first | ((with_reducible refine gC 32 rfl ?_); refine goesL1 (some 22) Tryd.func32 #[.slice A0 l0.length c0, .int .i64 x1_1] rfl (map2 rfl rfl) ?_; refine cm_ (quillref1_Begin.calls sd_ sd_ A7.out) ?_; rintro e w' ⟨rfl, nd, rfl⟩; refine ⟨_, rfl, ?_⟩))
   go_loopg [1, 2] k1 (fun kq v1 v2 w' => ∃ (x1_2 : Int) (x2_2 : Int), v1 = .int .i64 x1_2 ∧ v2 = .int .i64 x2_2 ∧ Aside0 (quillref12_row.l1 kq l0 x1_2 x2_2 = some r) ∧ Aside0 (kq ≤ k1) ∧ Drawn0 w w')
   case atStart => exact ⟨(t507), (x2_1), r3_, r3_, H, ⟨Nat.le_refl _⟩, dr_⟩
   case round =>
    clear H
    try clear c4b0
    obtain ⟨x1_2, x2_2, rfl, rfl, HA, HK2, ⟨m2, rfl⟩⟩ := hrel
    cases gk with
    | zero => exact absurd HA.out (by simp [quillref12_row.l1])
    | succ k2 =>
     obtain ⟨H⟩ := HA; simp only [quillref12_row.l1] at H; replace H := nfd H; obtain ⟨c8b0, H⟩ | ⟨c8b0, H⟩ := H
     ·
      obtain rfl := Option.some.inj H; go_wp2; go_ret
      exact ⟨r3_, dr_⟩
     replace H := ife H; obtain ⟨c9b0, c9b1, H⟩ | ⟨c9b0, c9b1, H⟩ := H
     ·
      obtain rfl := Option.some.inj H; go_wp2; go_ret
      exact ⟨r3_, dr_⟩
     replace H := bindA H; obtain ⟨t508, A10, H⟩ := H; (try dsimp only at H); replace H := Aside0.mk H
     go_wp2_with (first | ((with_reducible refine gC 32 rfl ?_); refine goesL1 (some 30) Tryd.func32 #[.slice A0 l0.length c0, .int .i64 (wrap64 (x1_2 - 1))] rfl (map2 rfl rfl) ?_; refine cm_ (quillref1_Begin.calls sd_ sd_ A10.out) ?_; rintro e w' ⟨rfl, nd, rfl⟩; refine ⟨_, rfl, ?_⟩))
     go_roundg k2
     case measure => have := HK1.out; have := HK2.out; omega
     case rel => exact ⟨(t508), (wrap64 (x2_2 + 1)), r3_, r3_, H, ⟨by have := HK1.out; have := HK2.out; omega⟩, dr_⟩

/-! ### quillref12_bare: function 84 -/
def quillref12_bare.f (k : Nat) (l0 : List Int) (a1 : Int) : Option (Bool) := (quillref1_Begin.f k l0 a1).bind fun t509 => ((quillref1_End.f k l0 a1).bind fun t510 => (some (t509 == t510)))
theorem quillref12_bare.calls {k : Nat} {A0 : Option Addr} {c0 : Nat} {l0 : List Int} {a1 : Int} {r : Bool} {w : World} (hr0 : Kd.C (Kd.int .i32) w A0 l0.length l0) (hc0 : l0.length ≤ c0) (H : quillref12_bare.f k l0 a1 = some r) :
  Calls Tryd.prog 84 #[.slice A0 l0.length c0, .int .i64 a1] w fun e w' => e = .returned (.bool r) ∧ Drawn0 w w' := by
 have HR0 := Aside0.mk hr0; have HC0 := Aside0.mk hc0; clear hr0 hc0; unfold quillref12_bare.f at H; replace H := bindA H; obtain ⟨t509, A3, H⟩ := H; (try dsimp only at H); replace H := bindA H; obtain ⟨t510, A4, H⟩ := H; (try dsimp only at H); obtain rfl := Option.some.inj H; go_enter Tryd.func84, Tryd.ntmps84
 go_wp2_with (first | ((with_reducible refine gC 32 rfl ?_); refine goesL1 (some 7) Tryd.func32 #[.slice A0 l0.length c0, .int .i64 a1] rfl (map2 rfl rfl) ?_; refine cm_ (quillref1_Begin.calls sd_ sd_ A3.out) ?_; rintro e w' ⟨rfl, nd, rfl⟩; refine ⟨_, rfl, ?_⟩) | ((with_reducible refine gC 33 rfl ?_); refine goesL1 (some 10) Tryd.func33 #[.slice A0 l0.length c0, .int .i64 a1] rfl (map2 rfl rfl) ?_; refine cm_ (quillref1_End.calls sd_ sd_ A4.out) ?_; rintro e w' ⟨rfl, nd, rfl⟩; refine ⟨_, rfl, ?_⟩))
 go_ret
 exact ⟨r3_, dr_⟩

/-! ### quillref12_Paras: function 58 -/
mutual
def quillref12_Paras.l0 : Nat → List Int → Int → Int → Int → Int → Int → Option (Int × Int)
  | 0, _, _, _, _, _, _ => none
  | k + 1, x0, x1, x2, x3, x10, x11 => if x11 < x3 then (if x2 = 123 then (quillref12_Paras.j1 k x0 x1 x2 x3 x10 x11 (-1) 0) else (quillref12_Paras.j1 k x0 x1 x2 x3 x10 x11 1 (x0.length : Int))) else (if x10 = x1 then (some (0, 6)) else (some (x10, 0)))
def quillref12_Paras.j1 : Nat → List Int → Int → Int → Int → Int → Int → Int → Int → Option (Int × Int)
  | 0, _, _, _, _, _, _, _, _ => none
  | k + 1, x0, x1, x2, x3, x10, x11, x12, x13 => (quillref1_Begin.f k x0 x10).bind fun t511 => (quillref12_Paras.l1 k x0 x1 x2 x3 x11 x12 x13 x13 t511)
def quillref12_Paras.l1 : Nat → List Int → Int → Int → Int → Int → Int → Int → Int → Int → Option (Int × Int)
  | 0, _, _, _, _, _, _, _, _, _ => none
  | k + 1, x0, x1, x2, x3, x11, x12, x13, x14, x15 => (quillref12_row.f k x0 x15 x12).bind fun t512 => (if t512 < 0 then (if x14 = x13 then (if x14 = x1 then (some (0, 6)) else (some (x14, 0))) else (quillref12_Paras.l0 k x0 x1 x2 x3 x14 (wrap64 (x11 + 1)))) else ((quillref12_bare.f k x0 t512).bind fun t513 => (if t513 = true then ((quillref12_bare.f k x0 x15).bind fun t514 => (if t514 = true then (quillref12_Paras.l1 k x0 x1 x2 x3 x11 x12 x13 x14 t512) else (if t512 = x13 then (if t512 = x1 then (some (0, 6)) else (some (t512, 0))) else (quillref12_Paras.l0 k x0 x1 x2 x3 t512 (wrap64 (x11 + 1)))))) else (quillref12_Paras.l1 k x0 x1 x2 x3 x11 x12 x13 x14 t512))))
end
def quillref12_Paras.f (k : Nat) (l0 : List Int) (a1 : Int) (a2 : Int) (a3 : Int) : Option (Int × Int) := quillref12_Paras.l0 k l0 a1 a2 a3 a1 0
theorem quillref12_Paras.calls {k : Nat} {A0 : Option Addr} {c0 : Nat} {l0 : List Int} {a1 : Int} {a2 : Int} {a3 : Int} {r1 : Int} {r2 : Int} {w : World} (hr0 : Kd.C (Kd.int .i32) w A0 l0.length l0) (hc0 : l0.length ≤ c0) (H : quillref12_Paras.f k l0 a1 a2 a3 = some (r1, r2)) :
  Calls Tryd.prog 58 #[.slice A0 l0.length c0, .int .i64 a1, .int .i64 a2, .int .i64 a3] w fun e w' => e = .returned (.tuple #[.int .i64 r1, .int .i64 r2]) ∧ Drawn0 w w' := by
 have HR0 := Aside0.mk hr0; have HC0 := Aside0.mk hc0; clear hr0 hc0; unfold quillref12_Paras.f at H; replace H := Aside0.mk H; go_enter Tryd.func58, Tryd.ntmps58
 go_wp2
 go_loopg [10, 11] k (fun kq v10 v11 w' => ∃ (x10_1 : Int) (x11_1 : Int), v10 = .int .i64 x10_1 ∧ v11 = .int .i64 x11_1 ∧ Aside0 (quillref12_Paras.l0 kq l0 a1 a2 a3 x10_1 x11_1 = some (r1, r2)) ∧ Aside0 (kq ≤ k) ∧ Drawn0 w w')
 case atStart => exact ⟨(a1), (0), r3_, r3_, H, ⟨Nat.le_refl _⟩, dr_⟩
 case round =>
  clear H; obtain ⟨x10_1, x11_1, rfl, rfl, HA, HK1, ⟨m1, rfl⟩⟩ := hrel
  cases gk with
  | zero => exact absurd HA.out (by simp [quillref12_Paras.l0])
  | succ k1 =>
   obtain ⟨H⟩ := HA; simp only [quillref12_Paras.l0] at H; replace H := nfd H; obtain ⟨c5b0, H⟩ | ⟨c5b0, H⟩ := H
   ·
    replace H := nfe H; obtain ⟨c19b0, c19b1, H⟩ | ⟨c19b0, c19b1, H⟩ := H
    ·
     replace H := so2 H; obtain ⟨rfl, rfl⟩ := H; go_wp2
     go_ret2
     exact ⟨r3_, dr_⟩
    replace H := so2 H; obtain ⟨rfl, rfl⟩ := H; go_wp2
    go_ret2
    exact ⟨r3_, dr_⟩
   have HC6 := Aside0.mk H; clear H
   go_upto_if 26 with (fail)
   go_cut [12, 13] (fun v12 v13 wc => ∃ (kq : Nat) (x12_5 : Int) (x13_5 : Int), v12 = .int .i64 x12_5 ∧ v13 = .int .i64 x13_5 ∧ Aside0 (quillref12_Paras.j1 kq l0 a1 a2 a3 x10_1 x11_1 x12_5 x13_5 = some (r1, r2)) ∧ Aside0 (kq ≤ k1) ∧ Drawn0 w wc)
   case first =>
    obtain ⟨H⟩ := HC6; replace H := nfe H; obtain ⟨c7b0, c7b1, H⟩ | ⟨c7b0, c7b1, H⟩ := H
    ·
     (first | rw [c7b0] | (simp only [i64_w, i32_w]; rw [c7b0]) | skip); replace H := Aside0.mk H; go_wp2; go_meet
     case rel => exact ⟨_, (1), ((l0.length : Int)), r3_, r3_, H, ⟨by have := HK1.out; first | omega | exact Nat.le_refl _⟩, dr_⟩
    (first | rw [c7b0] | (simp only [i64_w, i32_w]; rw [c7b0]) | skip); replace H := Aside0.mk H; go_wp2; go_meet
    case rel => exact ⟨_, ((-1)), (0), r3_, r3_, H, ⟨by have := HK1.out; first | omega | exact Nat.le_refl _⟩, dr_⟩
   case rest =>
    clear HC6
    try clear c5b0
    obtain ⟨kq, x12_5, x13_5, rfl, rfl, HA, HJ5, ⟨mc5, rfl⟩⟩ := hcut
    cases kq with
    | zero => exact absurd HA.out (by simp [quillref12_Paras.j1])
    | succ kj5 =>
     obtain ⟨H⟩ := HA; simp only [quillref12_Paras.j1] at H; replace H := bindA H; obtain ⟨t511, A8, H⟩ := H; (try dsimp only at H); replace H := Aside0.mk H
     go_wp2_with (first | ((with_reducible refine gC 32 rfl ?_); refine goesL1 (some 30) Tryd.func32 #[.slice A0 l0.length c0, .int .i64 x10_1] rfl (map2 rfl rfl) ?_; refine cm_ (quillref1_Begin.calls sd_ sd_ A8.out) ?_; rintro e w' ⟨rfl, nd, rfl⟩; refine ⟨_, rfl, ?_⟩))
     go_loopg [14, 15] kj5 (fun kq v14 v15 w' => ∃ (x14_3 : Int) (x15_3 : Int), v14 = .int .i64 x14_3 ∧ v15 = .int .i64 x15_3 ∧ Aside0 (quillref12_Paras.l1 kq l0 a1 a2 a3 x11_1 x12_5 x13_5 x14_3 x15_3 = some (r1, r2)) ∧ Aside0 (kq ≤ kj5) ∧ Drawn0 w w')
     case atStart => exact ⟨(x13_5), (t511), r3_, r3_, H, ⟨Nat.le_refl _⟩, dr_⟩
     case round =>
      clear H
      try clear c5b0
      obtain ⟨x14_3, x15_3, rfl, rfl, HA, HK3, ⟨m3, rfl⟩⟩ := hrel
      cases gk with
      | zero => exact absurd HA.out (by simp [quillref12_Paras.l1])
      | succ k3 =>
       obtain ⟨H⟩ := HA; simp only [quillref12_Paras.l1] at H; replace H := bindA H; obtain ⟨t512, A9, H⟩ := H; (try dsimp only at H); replace H := ifd H; obtain ⟨c10b0, H⟩ | ⟨c10b0, H⟩ := H
       ·
        replace H := nfe H; obtain ⟨c11b0, c11b1, H⟩ | ⟨c11b0, c11b1, H⟩ := H
        ·
         replace H := Aside0.mk H
         go_wp2_with (first | ((with_reducible refine gC 83 rfl ?_); refine goesL1 (some 34) Tryd.func83 #[.slice A0 l0.length c0, .int .i64 x15_3, .int .i64 x12_5] rfl (map3 rfl rfl rfl) ?_; refine cm_ (quillref12_row.calls sd_ sd_ A9.out) ?_; rintro e w' ⟨rfl, nd, rfl⟩; refine ⟨_, rfl, ?_⟩))
         go_roundg k3
         case measure => have := HK1.out; have := HJ5.out; have := HK3.out; omega
         case rel => exact ⟨(x14_3), (wrap64 (x11_1 + 1)), r3_, r3_, H, ⟨by have := HK1.out; have := HJ5.out; have := HK3.out; omega⟩, dr_⟩
        replace H := nfe H; obtain ⟨c12b0, c12b1, H⟩ | ⟨c12b0, c12b1, H⟩ := H
        ·
         replace H := so2 H; obtain ⟨rfl, rfl⟩ := H
         go_wp2_with (first | ((with_reducible refine gC 83 rfl ?_); refine goesL1 (some 34) Tryd.func83 #[.slice A0 l0.length c0, .int .i64 x15_3, .int .i64 x12_5] rfl (map3 rfl rfl rfl) ?_; refine cm_ (quillref12_row.calls sd_ sd_ A9.out) ?_; rintro e w' ⟨rfl, nd, rfl⟩; refine ⟨_, rfl, ?_⟩))
         go_ret2
         exact ⟨r3_, dr_⟩
        replace H := so2 H; obtain ⟨rfl, rfl⟩ := H
        go_wp2_with (first | ((with_reducible refine gC 83 rfl ?_); refine goesL1 (some 34) Tryd.func83 #[.slice A0 l0.length c0, .int .i64 x15_3, .int .i64 x12_5] rfl (map3 rfl rfl rfl) ?_; refine cm_ (quillref12_row.calls sd_ sd_ A9.out) ?_; rintro e w' ⟨rfl, nd, rfl⟩; refine ⟨_, rfl, ?_⟩))
        go_ret2
        exact ⟨r3_, dr_⟩
       replace H := bindA H; obtain ⟨t513, A13, H⟩ := H; (try dsimp only at H); replace H := nfb H; obtain ⟨rfl, H⟩ | ⟨rfl, H⟩ := H
       ·
        replace H := Aside0.mk H
        go_wp2_with (first | ((with_reducible refine gC 83 rfl ?_); refine goesL1 (some 34) Tryd.func83 #[.slice A0 l0.length c0, .int .i64 x15_3, .int .i64 x12_5] rfl (map3 rfl rfl rfl) ?_; refine cm_ (quillref12_row.calls sd_ sd_ A9.out) ?_; rintro e w' ⟨rfl, nd, rfl⟩; refine ⟨_, rfl, ?_⟩) | ((with_reducible refine gC 84 rfl ?_); refine goesL1 (some 39) Tryd.func84 #[.slice A0 l0.length c0, .int .i64 t512] rfl (map2 rfl rfl) ?_; refine cm_ (quillref12_bare.calls sd_ sd_ A13.out) ?_; rintro e w' ⟨rfl, nd, rfl⟩; refine ⟨_, rfl, ?_⟩))
        go_roundg k3
        case measure => have := HK1.out; have := HJ5.out; have := HK3.out; omega
        case rel => exact ⟨(x14_3), (t512), r3_, r3_, H, ⟨by have := HK1.out; have := HJ5.out; have := HK3.out; omega⟩, dr_⟩
       replace H := bindA H; obtain ⟨t514, A15, H⟩ := H; (try dsimp only at H); replace H := ifb H; obtain ⟨rfl, H⟩ | ⟨rfl, H⟩ := H
       ·
        replace H := Aside0.mk H
        go_wp2_with (first | ((with_reducible refine gC 83 rfl ?_); refine goesL1 (some 34) Tryd.func83 #[.slice A0 l0.length c0, .int .i64 x15_3, .int .i64 x12_5] rfl (map3 rfl rfl rfl) ?_; refine cm_ (quillref12_row.calls sd_ sd_ A9.out) ?_; rintro e w' ⟨rfl, nd, rfl⟩; refine ⟨_, rfl, ?_⟩) | ((with_reducible refine gC 84 rfl ?_); refine goesL1 (some 39) Tryd.func84 #[.slice A0 l0.length c0, .int .i64 t512] rfl (map2 rfl rfl) ?_; refine cm_ (quillref12_bare.calls sd_ sd_ A13.out) ?_; rintro e w' ⟨rfl, nd, rfl⟩; refine ⟨_, rfl, ?_⟩) | (go_at_call 84; refine cm_ (quillref12_bare.calls sd_ sd_ A15.out) ?_; rintro e w' ⟨rfl, nd, rfl⟩))
        go_roundg k3
        case measure => have := HK1.out; have := HJ5.out; have := HK3.out; omega
        case rel => exact ⟨(x14_3), (t512), r3_, r3_, H, ⟨by have := HK1.out; have := HJ5.out; have := HK3.out; omega⟩, dr_⟩
       replace H := nfe H; obtain ⟨c17b0, c17b1, H⟩ | ⟨c17b0, c17b1, H⟩ := H
       ·
        replace H := Aside0.mk H
        go_wp2_with (first | ((with_reducible refine gC 83 rfl ?_); refine goesL1 (some 34) Tryd.func83 #[.slice A0 l0.length c0, .int .i64 x15_3, .int .i64 x12_5] rfl (map3 rfl rfl rfl) ?_; refine cm_ (quillref12_row.calls sd_ sd_ A9.out) ?_; rintro e w' ⟨rfl, nd, rfl⟩; refine ⟨_, rfl, ?_⟩) | ((with_reducible refine gC 84 rfl ?_); refine goesL1 (some 39) Tryd.func84 #[.slice A0 l0.length c0, .int .i64 t512] rfl (map2 rfl rfl) ?_; refine cm_ (quillref12_bare.calls sd_ sd_ A13.out) ?_; rintro e w' ⟨rfl, nd, rfl⟩; refine ⟨_, rfl, ?_⟩) | (go_at_call 84; refine cm_ (quillref12_bare.calls sd_ sd_ A15.out) ?_; rintro e w' ⟨rfl, nd, rfl⟩))
        go_roundg k3
        case measure => have := HK1.out; have := HJ5.out; have := HK3.out; omega
        case rel => exact ⟨(t512), (wrap64 (x11_1 + 1)), r3_, r3_, H, ⟨by have := HK1.out; have := HJ5.out; have := HK3.out; omega⟩, dr_⟩
       replace H := nfe H; obtain ⟨c18b0, c18b1, H⟩ | ⟨c18b0, c18b1, H⟩ := H
       ·
        replace H := so2 H; obtain ⟨rfl, rfl⟩ := H
        go_wp2_with (first | ((with_reducible refine gC 83 rfl ?_); refine goesL1 (some 34) Tryd.func83 #[.slice A0 l0.length c0, .int .i64 x15_3, .int .i64 x12_5] rfl (map3 rfl rfl rfl) ?_; refine cm_ (quillref12_row.calls sd_ sd_ A9.out) ?_; rintro e w' ⟨rfl, nd, rfl⟩; refine ⟨_, rfl, ?_⟩) | ((with_reducible refine gC 84 rfl ?_); refine goesL1 (some 39) Tryd.func84 #[.slice A0 l0.length c0, .int .i64 t512] rfl (map2 rfl rfl) ?_; refine cm_ (quillref12_bare.calls sd_ sd_ A13.out) ?_; rintro e w' ⟨rfl, nd, rfl⟩; refine ⟨_, rfl, ?_⟩) | (go_at_call 84; refine cm_ (quillref12_bare.calls sd_ sd_ A15.out) ?_; rintro e w' ⟨rfl, nd, rfl⟩))
        go_ret2
        exact ⟨r3_, dr_⟩
       replace H := so2 H; obtain ⟨rfl, rfl⟩ := H
       go_wp2_with (first | ((with_reducible refine gC 83 rfl ?_); refine goesL1 (some 34) Tryd.func83 #[.slice A0 l0.length c0, .int .i64 x15_3, .int .i64 x12_5] rfl (map3 rfl rfl rfl) ?_; refine cm_ (quillref12_row.calls sd_ sd_ A9.out) ?_; rintro e w' ⟨rfl, nd, rfl⟩; refine ⟨_, rfl, ?_⟩) | ((with_reducible refine gC 84 rfl ?_); refine goesL1 (some 39) Tryd.func84 #[.slice A0 l0.length c0, .int .i64 t512] rfl (map2 rfl rfl) ?_; refine cm_ (quillref12_bare.calls sd_ sd_ A13.out) ?_; rintro e w' ⟨rfl, nd, rfl⟩; refine ⟨_, rfl, ?_⟩) | (go_at_call 84; refine cm_ (quillref12_bare.calls sd_ sd_ A15.out) ?_; rintro e w' ⟨rfl, nd, rfl⟩))
       go_ret2
       exact ⟨r3_, dr_⟩

/-! ### quillref12_opens: function 110 -/
def quillref12_opens.f  : Option (List Int) := some (([40, 91, 123] : List Int))
theorem quillref12_opens.calls  {r : List Int} {w : World} (H : quillref12_opens.f  = some r) :
  Calls Tryd.prog 110 #[] w fun e w' => ∃ v0_ : Value, e = .returned (v0_) ∧ Kd.R (Kd.int .i32) 21 w' w.heap.size (fun _ => True) v0_ r ∧ Below w.heap.size w w' := by
 have HB := Aside0.mk (Below.refl w.heap.size w); unfold quillref12_opens.f at H; obtain ⟨y515, hy515⟩ : ∃ y_ : List Int, y_ = (([40, 91, 123] : List Int)) := ⟨_, rfl⟩
 replace H : (some y515) = some r := by first | (rw [hy515]; with_reducible exact H) | (have H2_ := (Option.bind_some _ _).symm.trans H; rw [hy515]; with_reducible exact H2_) | (have H2_ := (Option.bind_some _ _).symm.trans H; with_reducible exact H2_) | with_reducible exact H | (rw [hy515]; exact H) | exact H
 have Ny515 := Aside0.mk hy515; clear hy515; obtain rfl := Option.some.inj H; go_enter Tryd.func110, Tryd.ntmps110
 go_wp2_with (first | ((with_reducible refine gN 1 rfl ?_); refine Kd.R_lit (Kd.int .i32) _ 21 ?hg (N := 1) ?hd (xs := ([40, 91, 123] : List Int)) (inner := [.int .i32 40, .int .i32 91, .int .i32 123]) (ok := fun _ => True) (okp := fun _ => True) ?hr ?hp (fun _ hk => hk) trivial (Below.refl _ _) (Nat.le_refl _) (by simp) ?_; (case hd => rfl); (case hg => rfl); (case hr => first | (go_simp; done) | (go_simp; rfl)); (case hp => exact (Reps.one (show Kd.M (Kd.int .i32) _ _ _ 40 [.int .i32 40] from rfl) (Reps.one (show Kd.M (Kd.int .i32) _ _ _ 91 [.int .i32 91] from rfl) (Reps.one (show Kd.M (Kd.int .i32) _ _ _ 123 [.int .i32 123] from rfl) (Reps.none _ _))))); intro v516 w1 ho2 hb hg_ hnew_; clear hg_ hnew_; (first | rw [← Ny515.out] at ho2 | (simp only [Int.reduceToNat] at ho2; rw [← Ny515.out] at ho2)); have HO517 := oL ho2; replace HB := hB hb; clear hb ho2))
 go_ret
 exact ⟨_, by first | rfl | (simp [errW_none, errW_some] <;> rfl) | (simp [*, errW_none, errW_some] <;> rfl), ro_ HO517, bl_⟩

/-! ### quillref12_shuts: function 111 -/
def quillref12_shuts.f  : Option (List Int) := some (([41, 93, 125] : List Int))
theorem quillref12_shuts.calls  {r : List Int} {w : World} (H : quillref12_shuts.f  = some r) :
  Calls Tryd.prog 111 #[] w fun e w' => ∃ v0_ : Value, e = .returned (v0_) ∧ Kd.R (Kd.int .i32) 21 w' w.heap.size (fun _ => True) v0_ r ∧ Below w.heap.size w w' := by
 have HB := Aside0.mk (Below.refl w.heap.size w); unfold quillref12_shuts.f at H; obtain ⟨y518, hy518⟩ : ∃ y_ : List Int, y_ = (([41, 93, 125] : List Int)) := ⟨_, rfl⟩
 replace H : (some y518) = some r := by first | (rw [hy518]; with_reducible exact H) | (have H2_ := (Option.bind_some _ _).symm.trans H; rw [hy518]; with_reducible exact H2_) | (have H2_ := (Option.bind_some _ _).symm.trans H; with_reducible exact H2_) | with_reducible exact H | (rw [hy518]; exact H) | exact H
 have Ny518 := Aside0.mk hy518; clear hy518; obtain rfl := Option.some.inj H; go_enter Tryd.func111, Tryd.ntmps111
 go_wp2_with (first | ((with_reducible refine gN 1 rfl ?_); refine Kd.R_lit (Kd.int .i32) _ 21 ?hg (N := 1) ?hd (xs := ([41, 93, 125] : List Int)) (inner := [.int .i32 41, .int .i32 93, .int .i32 125]) (ok := fun _ => True) (okp := fun _ => True) ?hr ?hp (fun _ hk => hk) trivial (Below.refl _ _) (Nat.le_refl _) (by simp) ?_; (case hd => rfl); (case hg => rfl); (case hr => first | (go_simp; done) | (go_simp; rfl)); (case hp => exact (Reps.one (show Kd.M (Kd.int .i32) _ _ _ 41 [.int .i32 41] from rfl) (Reps.one (show Kd.M (Kd.int .i32) _ _ _ 93 [.int .i32 93] from rfl) (Reps.one (show Kd.M (Kd.int .i32) _ _ _ 125 [.int .i32 125] from rfl) (Reps.none _ _))))); intro v519 w1 ho2 hb hg_ hnew_; clear hg_ hnew_; (first | rw [← Ny518.out] at ho2 | (simp only [Int.reduceToNat] at ho2; rw [← Ny518.out] at ho2)); have HO520 := oL ho2; replace HB := hB hb; clear hb ho2))
 go_ret
 exact ⟨_, by first | rfl | (simp [errW_none, errW_some] <;> rfl) | (simp [*, errW_none, errW_some] <;> rfl), ro_ HO520, bl_⟩

/-! ### quillref12_bracket: function 85 -/
def quillref12_bracket.l0 : Nat → Int → List Int → List Int → Int → Option (Int × Bool)
  | 0, _, _, _, _ => none
  | k + 1, x0, x4, x5, x6 => if x6 < 3 then (if 0 ≤ x6 then (if x6 < (x4.length : Int) then (if (rd x4 x6) = x0 then (some (x6, true)) else (if x6 < (x5.length : Int) then (if (rd x5 x6) = x0 then (some (x6, false)) else (quillref12_bracket.l0 k x0 x4 x5 (wrap64 (x6 + 1)))) else (none))) else (none)) else (none)) else (some ((-1), false))
def quillref12_bracket.f (k : Nat) (a0 : Int) : Option (Int × Bool) := (quillref12_opens.f).bind fun t521 => ((quillref12_shuts.f).bind fun t524 => (quillref12_bracket.l0 k a0 t521 t524 0))
theorem quillref12_bracket.calls {k : Nat} {a0 : Int} {r1 : Int} {r2 : Bool} {w : World} (H : quillref12_bracket.f k a0 = some (r1, r2)) :
  Calls Tryd.prog 85 #[.int .i32 a0] w fun e w' => e = .returned (.tuple #[.int .i64 r1, .bool r2]) ∧ Below w.heap.size w w' := by
 have HB := Aside0.mk (Below.refl w.heap.size w); unfold quillref12_bracket.f at H; replace H := bindA H; obtain ⟨t521, A2, H⟩ := H; (try dsimp only at H); replace H := bindA H; obtain ⟨t524, A3, H⟩ := H; (try dsimp only at H); replace H := Aside0.mk H; go_enter Tryd.func85, Tryd.ntmps85
 go_wp2_with (first | ((with_reducible refine gC 110 rfl ?_); refine goesL1 (some 7) Tryd.func110 #[] rfl (map0) ?_; (with_reducible refine (quillref12_opens.calls A2.out).mono ?_); rintro e w4 ⟨v522, rfl, ho0, hb⟩; refine ⟨_, rfl, ?_⟩; have HO523 := oL ho0; replace HB := hB hb; (try clear hb); (try clear ho0)) | ((with_reducible refine gC 111 rfl ?_); refine goesL1 (some 8) Tryd.func111 #[] rfl (map0) ?_; (with_reducible refine (quillref12_shuts.calls A3.out).mono ?_); rintro e w5 ⟨v525, rfl, ho0, hb⟩; refine ⟨_, rfl, ?_⟩; have HO526 := Aside0.mk (Kd.R_lower (Kd.R_new' ho0 (Kd.R_lt (ro_ HO523))) (below_size bl_)); replace HO523 := Aside0.mk (Kd.R_elder' (ro_ HO523) (Kd.R_base ho0) hb); replace HB := hB hb; (try clear hb); (try clear ho0)))
 go_loopg [6] k (fun kq v6 w' => ∃ (x6_1 : Int), v6 = .int .i64 x6_1 ∧ Aside0 (quillref12_bracket.l0 kq a0 t521 t524 x6_1 = some (r1, r2)) ∧ Aside0 (kq ≤ k) ∧ Aside0 (Kd.R (Kd.int .i32) 21 w' w.heap.size (fun k_ => some k_ ≠ (v525 : Value).ownBlock) v522 t521) ∧ Aside0 (Kd.R (Kd.int .i32) 21 w' w.heap.size (fun k_ => some k_ ≠ (v522 : Value).ownBlock) v525 t524) ∧ Aside0 (Below w.heap.size w w'))
 case atStart => exact ⟨(0), r3_, H, ⟨Nat.le_refl _⟩, ⟨by (with_reducible repeat (first | apply Kd.R_alloc | apply Kd.R_drewN | apply Kd.R_drew)); exact Kd.R_mono HO523.out (fun _ hk => hk.2)⟩, ⟨by (with_reducible repeat (first | apply Kd.R_alloc | apply Kd.R_drewN | apply Kd.R_drew)); exact Kd.R_mono HO526.out (fun _ hk => hk.2)⟩, ⟨bl_⟩⟩
 case round =>
  clear H; obtain ⟨x6_1, rfl, HA, HK1, HO_4, HO_5, HB⟩ := hrel
  cases gk with
  | zero => exact absurd HA.out (by simp [quillref12_bracket.l0])
  | succ k1 =>
   obtain ⟨H⟩ := HA; simp only [quillref12_bracket.l0] at H; replace H := nfd H; obtain ⟨c6b0, H⟩ | ⟨c6b0, H⟩ := H
   ·
    replace H := so2 H; obtain ⟨rfl, rfl⟩ := H; go_wp2
    go_ret2
    exact ⟨rr_, bl_⟩
   replace H := ifq H; obtain ⟨c7b0, c8b0, H⟩ := H; replace H := ife H; obtain ⟨c9b0, c9b1, H⟩ | ⟨c9b0, c9b1, H⟩ := H
   ·
    replace H := so2 H; obtain ⟨rfl, rfl⟩ := H; obtain ⟨Ao10, co10, eo10⟩ := Kd.R_slice HO_4.out; subst eo10; obtain ⟨p527, q527, ad527, e527, hx527_0⟩ := ix_ (Kd.at_int (Kd.R_reads' HO_4.out).2.2 x6_1); cases e527; go_wp2
    go_ret2
    exact ⟨rr_, bl_⟩
   replace H := ifdn H; obtain ⟨c11b0, H⟩ := H; replace H := ife H; obtain ⟨c12b0, c12b1, H⟩ | ⟨c12b0, c12b1, H⟩ := H
   ·
    replace H := so2 H; obtain ⟨rfl, rfl⟩ := H; obtain ⟨Ao13, co13, eo13⟩ := Kd.R_slice HO_4.out; subst eo13; obtain ⟨p527, q527, ad527, e527, hx527_0⟩ := ix_ (Kd.at_int (Kd.R_reads' HO_4.out).2.2 x6_1); cases e527; obtain ⟨Ao14, co14, eo14⟩ := Kd.R_slice HO_5.out; subst eo14; obtain ⟨p528, q528, ad528, e528, hx528_0⟩ := ix_ (Kd.at_int (Kd.R_reads' HO_5.out).2.2 x6_1); cases e528; go_wp2
    go_ret2
    exact ⟨rr_, bl_⟩
   replace H := Aside0.mk H; obtain ⟨Ao15, co15, eo15⟩ := Kd.R_slice HO_4.out; subst eo15; obtain ⟨p527, q527, ad527, e527, hx527_0⟩ := ix_ (Kd.at_int (Kd.R_reads' HO_4.out).2.2 x6_1); cases e527; obtain ⟨Ao16, co16, eo16⟩ := Kd.R_slice HO_5.out; subst eo16; obtain ⟨p528, q528, ad528, e528, hx528_0⟩ := ix_ (Kd.at_int (Kd.R_reads' HO_5.out).2.2 x6_1); cases e528; go_wp2
   go_roundg k1
   case measure => have := HK1.out; omega
   case rel => exact ⟨(wrap64 (x6_1 + 1)), r3_, H, ⟨by have := HK1.out; omega⟩, ⟨ro_ HO_4⟩, ⟨ro_ HO_5⟩, ⟨bl_⟩⟩

end Go.Proofs.YtbgmmcngkdhpcaaDoor.P
