/- The walks of the functions that these statements reach: each Go function as a plain Lean function, and the proof that its call comes to that. Written by the session's program wip/pp.py. -/
import Derived.Test.YtbgmmcngkdhpcaaDoorP0
import Derived.Test.YtbgmmcngkdhpcaaDoorP19
namespace Go.Proofs.YtbgmmcngkdhpcaaDoor.P
open Go.Proofs.YtbgmmcngkdhpcaaDoor
open Go.RowKit Go.Proofs.YtbgmmcngkdhpcaaDoorW.PrintWords Go.Proofs.YtbgmmcngkdhpcaaDoorW.PrintLast Go.Proofs.YtbgmmcngkdhpcaaDoorW.PrintMore
attribute [local go_sem] cell_isSome max2_int min2_int max_two min_two max_three min_three max_four min_four   -- for this text's walks alone
set_option linter.unusedVariables false
set_option linter.unusedSimpArgs false
set_option maxHeartbeats 8000000
set_option maxRecDepth 100000

/-! ### quillref10_Move: function 56 -/
mutual
def quillref10_Move.j0 : Nat → Int → Int → List Int → List Int → Int → Option (Int × Int)
  | 0, _, _, _, _, _ => none
  | k + 1, x1, x3, x10, x11, x12 => quillref10_Move.l0 k x1 x3 x10 x11 x12 x1 0
def quillref10_Move.l0 : Nat → Int → Int → List Int → List Int → Int → Int → Int → Option (Int × Int)
  | 0, _, _, _, _, _, _, _ => none
  | k + 1, x1, x3, x10, x11, x12, x13, x14 => if x14 < x3 then (if x12 = 119 then (quillref10_Move.j2 k x1 x3 x10 x11 x12 x13 x14 (-1) (x12 == 119)) else (quillref10_Move.j2 k x1 x3 x10 x11 x12 x13 x14 (-1) (x12 == 101))) else (if x13 = x1 then (some (0, 6)) else (some (x13, 0)))
def quillref10_Move.j2 : Nat → Int → Int → List Int → List Int → Int → Int → Int → Int → Bool → Option (Int × Int)
  | 0, _, _, _, _, _, _, _, _, _ => none
  | k + 1, x1, x3, x10, x11, x12, x13, x14, x15, x66 => if x66 = true then (if x12 = 101 then (quillref10_Move.j3 k x1 x3 x10 x11 x12 x13 x14 x15 1) else (quillref10_Move.j3 k x1 x3 x10 x11 x12 x13 x14 x15 (-1))) else (quillref10_Move.l2 k x1 x3 x10 x11 x12 x13 x14 x15 0)
def quillref10_Move.j3 : Nat → Int → Int → List Int → List Int → Int → Int → Int → Int → Int → Option (Int × Int)
  | 0, _, _, _, _, _, _, _, _, _ => none
  | k + 1, x1, x3, x10, x11, x12, x13, x14, x15, x16 => quillref10_Move.l1 k x1 x3 x10 x11 x12 x13 x14 x15 x16 (wrap64 ((x10.length : Int) - 1))
def quillref10_Move.l1 : Nat → Int → Int → List Int → List Int → Int → Int → Int → Int → Int → Int → Option (Int × Int)
  | 0, _, _, _, _, _, _, _, _, _, _ => none
  | k + 1, x1, x3, x10, x11, x12, x13, x14, x15, x16, x17 => if x17 ≥ 0 then (if 0 ≤ x17 then (if x17 < (x10.length : Int) then (if (rd x10 x17) > x13 then ((quillref10_edge.f x10 x11 x17 x16).bind fun t495 => (if t495 = true then (quillref10_Move.l1 k x1 x3 x10 x11 x12 x13 x14 (rd x10 x17) x16 (wrap64 (x17 - 1))) else (quillref10_Move.l1 k x1 x3 x10 x11 x12 x13 x14 x15 x16 (wrap64 (x17 - 1))))) else (quillref10_Move.l1 k x1 x3 x10 x11 x12 x13 x14 x15 x16 (wrap64 (x17 - 1)))) else (none)) else (none)) else (if x15 < 0 then (if 0 ≤ (wrap64 ((x10.length : Int) - 1)) then (if (wrap64 ((x10.length : Int) - 1)) < (x10.length : Int) then (if (rd x10 (wrap64 ((x10.length : Int) - 1))) = x13 then (if x13 = x1 then (some (0, 6)) else (some (x13, 0))) else (quillref10_Move.l0 k x1 x3 x10 x11 x12 (rd x10 (wrap64 ((x10.length : Int) - 1))) (wrap64 (x14 + 1)))) else (none)) else (none)) else (if x15 = x13 then (if x13 = x1 then (some (0, 6)) else (some (x13, 0))) else (quillref10_Move.l0 k x1 x3 x10 x11 x12 x15 (wrap64 (x14 + 1)))))
def quillref10_Move.l2 : Nat → Int → Int → List Int → List Int → Int → Int → Int → Int → Int → Option (Int × Int)
  | 0, _, _, _, _, _, _, _, _, _ => none
  | k + 1, x1, x3, x10, x11, x12, x13, x14, x15, x18 => if x18 < (x10.length : Int) then (if 0 ≤ x18 then (if (rd x10 x18) < x13 then ((quillref10_edge.f x10 x11 x18 (-1)).bind fun t499 => (if t499 = true then (quillref10_Move.l2 k x1 x3 x10 x11 x12 x13 x14 (rd x10 x18) (wrap64 (x18 + 1))) else (quillref10_Move.l2 k x1 x3 x10 x11 x12 x13 x14 x15 (wrap64 (x18 + 1))))) else (quillref10_Move.l2 k x1 x3 x10 x11 x12 x13 x14 x15 (wrap64 (x18 + 1)))) else (none)) else (if x15 < 0 then (if 0 < (x10.length : Int) then (if (rd x10 0) = x13 then (if x13 = x1 then (some (0, 6)) else (some (x13, 0))) else (quillref10_Move.l0 k x1 x3 x10 x11 x12 (rd x10 0) (wrap64 (x14 + 1)))) else (none)) else (if x15 = x13 then (if x13 = x1 then (some (0, 6)) else (some (x13, 0))) else (quillref10_Move.l0 k x1 x3 x10 x11 x12 x15 (wrap64 (x14 + 1)))))
end
def quillref10_Move.f (k : Nat) (l0 : List Int) (a1 : Int) (a2 : Int) (a3 : Int) : Option (Int × Int) := (quillref10_Cells.f k l0 (decide (a2 < 97))).bind fun bt488 => (if a2 < 97 then (quillref10_Move.j0 k a1 a3 bt488.1 bt488.2 (wrap64 ((wrap64 (a2 + 97)) - 65))) else (quillref10_Move.j0 k a1 a3 bt488.1 bt488.2 a2))
theorem quillref10_Move.calls {k : Nat} {A0 : Option Addr} {c0 : Nat} {l0 : List Int} {a1 : Int} {a2 : Int} {a3 : Int} {r1 : Int} {r2 : Int} {w : World} (hr0 : Kd.C (Kd.int .i32) w A0 l0.length l0) (hc0 : l0.length ≤ c0) (H : quillref10_Move.f k l0 a1 a2 a3 = some (r1, r2)) :
  Calls Tryd.prog 56 #[.slice A0 l0.length c0, .int .i64 a1, .int .i64 a2, .int .i64 a3] w fun e w' => e = .returned (.tuple #[.int .i64 r1, .int .i64 r2]) ∧ Below w.heap.size w w' := by
 have HR0 := Aside0.mk hr0; have HC0 := Aside0.mk hc0; clear hr0 hc0; have HB := Aside0.mk (Below.refl w.heap.size w); unfold quillref10_Move.f at H; replace H := bindA H; obtain ⟨⟨t488, t489⟩, A5, H⟩ := H; (try dsimp only at H); have HC6 := Aside0.mk H; clear H; go_enter Tryd.func56, Tryd.ntmps56
 go_upto_if 28 with (first | ((with_reducible refine gC 81 rfl ?_); refine goesL1 (some 23) Tryd.func81 #[.slice A0 l0.length c0, .bool (decide (a2 < 97))] rfl (map2 rfl rfl) ?_; refine cm_ (quillref10_Cells.calls sd_ sd_ A5.out) ?_; rintro e w7 ⟨v490, v492, rfl, ho0, ho1, hb⟩; refine ⟨_, rfl, ?_⟩; have HO491 := oL ho0; have HO493 := oL ho1; replace HB := hB hb; (try clear hb); (try clear ho0); (try clear ho1)))
 (try simp only [Act.put, List.setIfInBounds_toArray, List.set_cons_zero, List.set_cons_succ])
 go_cut [12] (fun v12 wc => ∃ (kq : Nat) (x12_5 : Int), v12 = .int .i64 x12_5 ∧ Aside0 (quillref10_Move.j0 kq a1 a3 t488 t489 x12_5 = some (r1, r2)) ∧ Aside0 (kq ≤ k) ∧ Aside0 (Kd.R (Kd.int .i64) 3 wc w.heap.size (fun k_ => some k_ ≠ (v492 : Value).ownBlock) v490 t488) ∧ Aside0 (Kd.R (Kd.int .i64) 3 wc w.heap.size (fun k_ => some k_ ≠ (v490 : Value).ownBlock) v492 t489) ∧ Aside0 (Below w.heap.size w wc))
 case first =>
  obtain ⟨H⟩ := HC6; replace H := nfd H; obtain ⟨c8b0, H⟩ | ⟨c8b0, H⟩ := H
  ·
   (first | rw [c8b0] | (simp only [i64_w, i32_w]; rw [c8b0]) | skip); replace H := Aside0.mk H; go_wp2; go_meet
   case rel => exact ⟨_, (a2), r3_, H, ⟨ol_⟩, ⟨ro_ HO491⟩, ⟨ro_ HO493⟩, ⟨bl_⟩⟩
  (first | rw [c8b0] | (simp only [i64_w, i32_w]; rw [c8b0]) | skip); replace H := Aside0.mk H; go_wp2; go_meet
  case rel => exact ⟨_, (wrap64 ((wrap64 (a2 + 97)) - 65)), r3_, H, ⟨ol_⟩, ⟨ro_ HO491⟩, ⟨ro_ HO493⟩, ⟨bl_⟩⟩
 case rest =>
  clear HC6; obtain ⟨kq, x12_5, rfl, HA, HJ5, HO_10, HO_11, HB⟩ := hcut
  cases kq with
  | zero => exact absurd HA.out (by simp [quillref10_Move.j0])
  | succ kj5 =>
   obtain ⟨H⟩ := HA; simp only [quillref10_Move.j0] at H; replace H := Aside0.mk H; go_wp2
   go_loopg [13, 14] kj5 (fun kq v13 v14 w' => ∃ (x13_2 : Int) (x14_2 : Int), v13 = .int .i64 x13_2 ∧ v14 = .int .i64 x14_2 ∧ Aside0 (quillref10_Move.l0 kq a1 a3 t488 t489 x12_5 x13_2 x14_2 = some (r1, r2)) ∧ Aside0 (kq ≤ kj5) ∧ Aside0 (Kd.R (Kd.int .i64) 3 w' w.heap.size (fun k_ => some k_ ≠ (v492 : Value).ownBlock) v490 t488) ∧ Aside0 (Kd.R (Kd.int .i64) 3 w' w.heap.size (fun k_ => some k_ ≠ (v490 : Value).ownBlock) v492 t489) ∧ Aside0 (Below w.heap.size w w'))
   case atStart => exact ⟨(a1), (0), r3_, r3_, H, ⟨Nat.le_refl _⟩, ⟨ro_ HO_10⟩, ⟨ro_ HO_11⟩, ⟨bl_⟩⟩
   case round =>
    clear H; obtain ⟨x13_2, x14_2, rfl, rfl, HA, HK2, HO_10, HO_11, HB⟩ := hrel
    cases gk with
    | zero => exact absurd HA.out (by simp [quillref10_Move.l0])
    | succ k2 =>
     obtain ⟨H⟩ := HA; simp only [quillref10_Move.l0] at H; replace H := nfd H; obtain ⟨c9b0, H⟩ | ⟨c9b0, H⟩ := H
     ·
      replace H := nfe H; obtain ⟨c54b0, c54b1, H⟩ | ⟨c54b0, c54b1, H⟩ := H
      ·
       replace H := so2 H; obtain ⟨rfl, rfl⟩ := H; go_wp2
       go_ret2
       exact ⟨rr_, bl_⟩
      replace H := so2 H; obtain ⟨rfl, rfl⟩ := H; go_wp2
      go_ret2
      exact ⟨rr_, bl_⟩
     have HC10 := Aside0.mk H; clear H
     go_upto_if 66 with (fail)
     go_cut [66] (fun v66 wc => ∃ (kq : Nat) (x66_9 : Bool), v66 = .bool x66_9 ∧ Aside0 (quillref10_Move.j2 kq a1 a3 t488 t489 x12_5 x13_2 x14_2 (-1) x66_9 = some (r1, r2)) ∧ Aside0 (kq ≤ k2) ∧ Aside0 (Kd.R (Kd.int .i64) 3 wc w.heap.size (fun k_ => some k_ ≠ (v492 : Value).ownBlock) v490 t488) ∧ Aside0 (Kd.R (Kd.int .i64) 3 wc w.heap.size (fun k_ => some k_ ≠ (v490 : Value).ownBlock) v492 t489) ∧ Aside0 (Below w.heap.size w wc))
     case first =>
      obtain ⟨H⟩ := HC10; replace H := nfe H; obtain ⟨c11b0, c11b1, H⟩ | ⟨c11b0, c11b1, H⟩ := H
      ·
       (first | rw [c11b0] | (simp only [i64_w, i32_w]; rw [c11b0]) | skip); replace H := Aside0.mk H; go_wp2; go_meet
       case rel => exact ⟨_, ((x12_5 == 101)), r3_, H, ⟨by have := HJ5.out; have := HK2.out; first | omega | exact Nat.le_refl _⟩, ⟨ro_ HO_10⟩, ⟨ro_ HO_11⟩, ⟨bl_⟩⟩
      (first | rw [c11b0] | (simp only [i64_w, i32_w]; rw [c11b0]) | skip); replace H := Aside0.mk H; go_wp2; go_meet
      case rel => exact ⟨_, ((x12_5 == 119)), r3_, H, ⟨by have := HJ5.out; have := HK2.out; first | omega | exact Nat.le_refl _⟩, ⟨ro_ HO_10⟩, ⟨ro_ HO_11⟩, ⟨bl_⟩⟩
     case rest =>
      clear HC10
      try clear c9b0
      obtain ⟨kq, x66_9, rfl, HA, HJ9, HO_10, HO_11, HB⟩ := hcut
      cases kq with
      | zero => exact absurd HA.out (by simp [quillref10_Move.j2])
      | succ kj9 =>
       obtain ⟨H⟩ := HA; simp only [quillref10_Move.j2] at H; replace H := nfb H; obtain ⟨rfl, H⟩ | ⟨rfl, H⟩ := H
       ·
        replace H := Aside0.mk H; go_wp2
        go_loopg [15, 18] kj9 (fun kq v15 v18 w' => ∃ (x15_4 : Int) (x18_4 : Int), v15 = .int .i64 x15_4 ∧ v18 = .int .i64 x18_4 ∧ Aside0 (quillref10_Move.l2 kq a1 a3 t488 t489 x12_5 x13_2 x14_2 x15_4 x18_4 = some (r1, r2)) ∧ Aside0 (kq ≤ kj9) ∧ Aside0 (Kd.R (Kd.int .i64) 3 w' w.heap.size (fun k_ => some k_ ≠ (v492 : Value).ownBlock) v490 t488) ∧ Aside0 (Kd.R (Kd.int .i64) 3 w' w.heap.size (fun k_ => some k_ ≠ (v490 : Value).ownBlock) v492 t489) ∧ Aside0 (Below w.heap.size w w'))
        case atStart => exact ⟨((-1)), (0), r3_, r3_, H, ⟨Nat.le_refl _⟩, ⟨ro_ HO_10⟩, ⟨ro_ HO_11⟩, ⟨bl_⟩⟩
        case round =>
         clear H
         try clear c9b0
         obtain ⟨x15_4, x18_4, rfl, rfl, HA, HK4, HO_10, HO_11, HB⟩ := hrel
         cases gk with
         | zero => exact absurd HA.out (by simp [quillref10_Move.l2])
         | succ k4 =>
          obtain ⟨H⟩ := HA; simp only [quillref10_Move.l2] at H; replace H := ifd H; obtain ⟨c32b0, H⟩ | ⟨c32b0, H⟩ := H
          ·
           replace H := ifdn H; obtain ⟨c33b0, H⟩ := H; replace H := nfd H; obtain ⟨c34b0, H⟩ | ⟨c34b0, H⟩ := H
           ·
            replace H := Aside0.mk H; obtain ⟨Ao41, co41, eo41⟩ := Kd.R_slice HO_10.out; subst eo41; obtain ⟨p498, q498, ad498, e498, hx498_0⟩ := ix_ (Kd.at_int (Kd.R_reads' HO_10.out).2.2 x18_4); cases e498; go_wp2
            go_roundg k4
            case measure => have := HJ5.out; have := HK2.out; have := HJ9.out; have := HK4.out; omega
            case rel => exact ⟨(x15_4), (wrap64 (x18_4 + 1)), r3_, r3_, H, ⟨by have := HJ5.out; have := HK2.out; have := HJ9.out; have := HK4.out; omega⟩, ⟨ro_ HO_10⟩, ⟨ro_ HO_11⟩, ⟨bl_⟩⟩
           replace H := bindA H; obtain ⟨t499, A35, H⟩ := H; (try dsimp only at H); replace H := nfb H; obtain ⟨rfl, H⟩ | ⟨rfl, H⟩ := H
           ·
            replace H := Aside0.mk H; obtain ⟨Ao39, co39, eo39⟩ := Kd.R_slice HO_10.out; subst eo39; obtain ⟨p498, q498, ad498, e498, hx498_0⟩ := ix_ (Kd.at_int (Kd.R_reads' HO_10.out).2.2 x18_4); cases e498; obtain ⟨Ao40, co40, eo40⟩ := Kd.R_slice HO_11.out; subst eo40
            go_wp2_with (first | (go_at_call 82; refine cm_ (quillref10_edge.calls sd_ sd_ sd_ sd_ A35.out) ?_; rintro e w' ⟨rfl, nd, rfl⟩))
            go_roundg k4
            case measure => have := HJ5.out; have := HK2.out; have := HJ9.out; have := HK4.out; omega
            case rel => exact ⟨(x15_4), (wrap64 (x18_4 + 1)), r3_, r3_, H, ⟨by have := HJ5.out; have := HK2.out; have := HJ9.out; have := HK4.out; omega⟩, ⟨ro_ HO_10⟩, ⟨ro_ HO_11⟩, ⟨bl_⟩⟩
           replace H := Aside0.mk H; obtain ⟨Ao37, co37, eo37⟩ := Kd.R_slice HO_10.out; subst eo37; obtain ⟨p498, q498, ad498, e498, hx498_0⟩ := ix_ (Kd.at_int (Kd.R_reads' HO_10.out).2.2 x18_4); cases e498; obtain ⟨Ao38, co38, eo38⟩ := Kd.R_slice HO_11.out; subst eo38
           go_wp2_with (first | (go_at_call 82; refine cm_ (quillref10_edge.calls sd_ sd_ sd_ sd_ A35.out) ?_; rintro e w' ⟨rfl, nd, rfl⟩; have p500 := od_ (0 ≤ (x18_4 : Int)); have q500 := od_ (x18_4 < (t488.length : Int)); obtain ⟨ad500, e500, hx500_0⟩ := Kd.at_int (Kd.R_reads' HO_10.out).2.2 x18_4 p500 q500; obtain rfl : ad498 = ad500 := (by injection e500); replace p500 := eq_true p500; replace q500 := eq_true q500))
           go_roundg k4
           case measure => have := HJ5.out; have := HK2.out; have := HJ9.out; have := HK4.out; omega
           case rel => exact ⟨(rd t488 x18_4), (wrap64 (x18_4 + 1)), r3_, r3_, H, ⟨by have := HJ5.out; have := HK2.out; have := HJ9.out; have := HK4.out; omega⟩, ⟨ro_ HO_10⟩, ⟨ro_ HO_11⟩, ⟨bl_⟩⟩
          replace H := nfd H; obtain ⟨c42b0, H⟩ | ⟨c42b0, H⟩ := H
          ·
           replace H := nfe H; obtain ⟨c49b0, c49b1, H⟩ | ⟨c49b0, c49b1, H⟩ := H
           ·
            replace H := Aside0.mk H; obtain ⟨Ao53, co53, eo53⟩ := Kd.R_slice HO_10.out; subst eo53; go_wp2
            go_roundg k4
            case measure => have := HJ5.out; have := HK2.out; have := HJ9.out; have := HK4.out; omega
            case rel => exact ⟨(x15_4), (wrap64 (x14_2 + 1)), r3_, r3_, H, ⟨by have := HJ5.out; have := HK2.out; have := HJ9.out; have := HK4.out; omega⟩, ⟨ro_ HO_10⟩, ⟨ro_ HO_11⟩, ⟨bl_⟩⟩
           replace H := nfe H; obtain ⟨c50b0, c50b1, H⟩ | ⟨c50b0, c50b1, H⟩ := H
           ·
            replace H := so2 H; obtain ⟨rfl, rfl⟩ := H; obtain ⟨Ao52, co52, eo52⟩ := Kd.R_slice HO_10.out; subst eo52; go_wp2
            go_ret2
            exact ⟨rr_, bl_⟩
           replace H := so2 H; obtain ⟨rfl, rfl⟩ := H; obtain ⟨Ao51, co51, eo51⟩ := Kd.R_slice HO_10.out; subst eo51; go_wp2
           go_ret2
           exact ⟨rr_, bl_⟩
          by_cases c43 : 0 < (t488.length : Int)
          rotate_left
          ·
           rw [if_neg c43] at H
           exact absurd H (by simp)
          rw [if_pos c43] at H; have c43b0 := decide_eq_true c43
          have c43b1 : decide (0 < t488.length) = true := decide_eq_true (by omega)
          clear c43; replace H := nfe H; obtain ⟨c44b0, c44b1, H⟩ | ⟨c44b0, c44b1, H⟩ := H
          ·
           replace H := Aside0.mk H; obtain ⟨Ao48, co48, eo48⟩ := Kd.R_slice HO_10.out; subst eo48
           have p501 : 0 ≤ (0 : Int) := (by omega)
           have q501 : 0 < (t488.length : Int) := of_decide_eq_true (by assumption)
           obtain ⟨ad501, e501, hx501_0⟩ := Kd.at_int (Kd.R_reads' HO_10.out).2.2 0 p501 q501; cases e501
           have qi501 : (0 < t488.length) = True := eq_true (by omega)
           (try rw [show ((0 : Int)).toNat = 0 from rfl] at hx501_0); (try rw [Addr.add_zero'] at hx501_0); replace p501 := eq_true p501; replace q501 := eq_true q501; go_wp2
           go_roundg k4
           case measure => have := HJ5.out; have := HK2.out; have := HJ9.out; have := HK4.out; omega
           case rel => exact ⟨(rd t488 0), (wrap64 (x14_2 + 1)), r3_, r3_, H, ⟨by have := HJ5.out; have := HK2.out; have := HJ9.out; have := HK4.out; omega⟩, ⟨ro_ HO_10⟩, ⟨ro_ HO_11⟩, ⟨bl_⟩⟩
          replace H := nfe H; obtain ⟨c45b0, c45b1, H⟩ | ⟨c45b0, c45b1, H⟩ := H
          ·
           replace H := so2 H; obtain ⟨rfl, rfl⟩ := H; obtain ⟨Ao47, co47, eo47⟩ := Kd.R_slice HO_10.out; subst eo47
           have p501 : 0 ≤ (0 : Int) := (by omega)
           have q501 : 0 < (t488.length : Int) := of_decide_eq_true (by assumption)
           obtain ⟨ad501, e501, hx501_0⟩ := Kd.at_int (Kd.R_reads' HO_10.out).2.2 0 p501 q501; cases e501
           have qi501 : (0 < t488.length) = True := eq_true (by omega)
           (try rw [show ((0 : Int)).toNat = 0 from rfl] at hx501_0); (try rw [Addr.add_zero'] at hx501_0); replace p501 := eq_true p501; replace q501 := eq_true q501; go_wp2
           go_ret2
           exact ⟨rr_, bl_⟩
          replace H := so2 H; obtain ⟨rfl, rfl⟩ := H; obtain ⟨Ao46, co46, eo46⟩ := Kd.R_slice HO_10.out; subst eo46
          have p501 : 0 ≤ (0 : Int) := (by omega)
          have q501 : 0 < (t488.length : Int) := of_decide_eq_true (by assumption)
          obtain ⟨ad501, e501, hx501_0⟩ := Kd.at_int (Kd.R_reads' HO_10.out).2.2 0 p501 q501; cases e501
          have qi501 : (0 < t488.length) = True := eq_true (by omega)
          (try rw [show ((0 : Int)).toNat = 0 from rfl] at hx501_0); (try rw [Addr.add_zero'] at hx501_0); replace p501 := eq_true p501; replace q501 := eq_true q501; go_wp2
          go_ret2
          exact ⟨rr_, bl_⟩
       have HC13 := Aside0.mk H; clear H
       go_upto_if 70 with (fail)
       go_cut [16] (fun v16 wc => ∃ (kq : Nat) (x16_12 : Int), v16 = .int .i64 x16_12 ∧ Aside0 (quillref10_Move.j3 kq a1 a3 t488 t489 x12_5 x13_2 x14_2 (-1) x16_12 = some (r1, r2)) ∧ Aside0 (kq ≤ kj9) ∧ Aside0 (Kd.R (Kd.int .i64) 3 wc w.heap.size (fun k_ => some k_ ≠ (v492 : Value).ownBlock) v490 t488) ∧ Aside0 (Kd.R (Kd.int .i64) 3 wc w.heap.size (fun k_ => some k_ ≠ (v490 : Value).ownBlock) v492 t489) ∧ Aside0 (Below w.heap.size w wc))
       case first =>
        obtain ⟨H⟩ := HC13; replace H := nfe H; obtain ⟨c14b0, c14b1, H⟩ | ⟨c14b0, c14b1, H⟩ := H
        ·
         (first | rw [c14b0] | (simp only [i64_w, i32_w]; rw [c14b0]) | skip); replace H := Aside0.mk H; go_wp2; go_meet
         case rel => exact ⟨_, ((-1)), r3_, H, ⟨by have := HJ5.out; have := HK2.out; have := HJ9.out; first | omega | exact Nat.le_refl _⟩, ⟨ro_ HO_10⟩, ⟨ro_ HO_11⟩, ⟨bl_⟩⟩
        (first | rw [c14b0] | (simp only [i64_w, i32_w]; rw [c14b0]) | skip); replace H := Aside0.mk H; go_wp2; go_meet
        case rel => exact ⟨_, (1), r3_, H, ⟨by have := HJ5.out; have := HK2.out; have := HJ9.out; first | omega | exact Nat.le_refl _⟩, ⟨ro_ HO_10⟩, ⟨ro_ HO_11⟩, ⟨bl_⟩⟩
       case rest =>
        clear HC13
        try clear c9b0
        obtain ⟨kq, x16_12, rfl, HA, HJ12, HO_10, HO_11, HB⟩ := hcut
        cases kq with
        | zero => exact absurd HA.out (by simp [quillref10_Move.j3])
        | succ kj12 =>
         obtain ⟨H⟩ := HA; simp only [quillref10_Move.j3] at H; replace H := Aside0.mk H; obtain ⟨Ao15, co15, eo15⟩ := Kd.R_slice HO_10.out; subst eo15; go_wp2
         go_loopg [15, 17] kj12 (fun kq v15 v17 w' => ∃ (x15_5 : Int) (x17_5 : Int), v15 = .int .i64 x15_5 ∧ v17 = .int .i64 x17_5 ∧ Aside0 (quillref10_Move.l1 kq a1 a3 t488 t489 x12_5 x13_2 x14_2 x15_5 x16_12 x17_5 = some (r1, r2)) ∧ Aside0 (kq ≤ kj12) ∧ Aside0 (Kd.R (Kd.int .i64) 3 w' w.heap.size (fun k_ => some k_ ≠ (v492 : Value).ownBlock) (.slice Ao15 t488.length co15) t488) ∧ Aside0 (Kd.R (Kd.int .i64) 3 w' w.heap.size (fun k_ => some k_ ≠ ((.slice Ao15 t488.length co15) : Value).ownBlock) v492 t489) ∧ Aside0 (Below w.heap.size w w'))
         case atStart => exact ⟨((-1)), (wrap64 ((t488.length : Int) - 1)), r3_, r3_, H, ⟨Nat.le_refl _⟩, ⟨ro_ HO_10⟩, ⟨ro_ HO_11⟩, ⟨bl_⟩⟩
         case round =>
          clear H
          try clear c9b0
          obtain ⟨x15_5, x17_5, rfl, rfl, HA, HK5, HO_10, HO_11, HB⟩ := hrel
          cases gk with
          | zero => exact absurd HA.out (by simp [quillref10_Move.l1])
          | succ k5 =>
           obtain ⟨H⟩ := HA; simp only [quillref10_Move.l1] at H; replace H := ifd H; obtain ⟨c16b0, H⟩ | ⟨c16b0, H⟩ := H
           ·
            replace H := ifq H; obtain ⟨c17b0, c18b0, H⟩ := H; replace H := nfd H; obtain ⟨c19b0, H⟩ | ⟨c19b0, H⟩ := H
            ·
             replace H := Aside0.mk H; obtain ⟨p494, q494, ad494, e494, hx494_0⟩ := ix_ (Kd.at_int (Kd.R_reads' HO_10.out).2.2 x17_5); cases e494; go_wp2
             go_roundg k5
             case measure => have := HJ5.out; have := HK2.out; have := HJ9.out; have := HJ12.out; have := HK5.out; omega
             case rel => exact ⟨(x15_5), (wrap64 (x17_5 - 1)), r3_, r3_, H, ⟨by have := HJ5.out; have := HK2.out; have := HJ9.out; have := HJ12.out; have := HK5.out; omega⟩, ⟨ro_ HO_10⟩, ⟨ro_ HO_11⟩, ⟨bl_⟩⟩
            replace H := bindA H; obtain ⟨t495, A20, H⟩ := H; (try dsimp only at H); replace H := nfb H; obtain ⟨rfl, H⟩ | ⟨rfl, H⟩ := H
            ·
             replace H := Aside0.mk H; obtain ⟨p494, q494, ad494, e494, hx494_0⟩ := ix_ (Kd.at_int (Kd.R_reads' HO_10.out).2.2 x17_5); cases e494; obtain ⟨Ao23, co23, eo23⟩ := Kd.R_slice HO_11.out; subst eo23
             go_wp2_with (first | (go_at_call 82; refine cm_ (quillref10_edge.calls sd_ sd_ sd_ sd_ A20.out) ?_; rintro e w' ⟨rfl, nd, rfl⟩))
             go_roundg k5
             case measure => have := HJ5.out; have := HK2.out; have := HJ9.out; have := HJ12.out; have := HK5.out; omega
             case rel => exact ⟨(x15_5), (wrap64 (x17_5 - 1)), r3_, r3_, H, ⟨by have := HJ5.out; have := HK2.out; have := HJ9.out; have := HJ12.out; have := HK5.out; omega⟩, ⟨ro_ HO_10⟩, ⟨ro_ HO_11⟩, ⟨bl_⟩⟩
            replace H := Aside0.mk H; obtain ⟨p494, q494, ad494, e494, hx494_0⟩ := ix_ (Kd.at_int (Kd.R_reads' HO_10.out).2.2 x17_5); cases e494; obtain ⟨Ao22, co22, eo22⟩ := Kd.R_slice HO_11.out; subst eo22
            go_wp2_with (first | (go_at_call 82; refine cm_ (quillref10_edge.calls sd_ sd_ sd_ sd_ A20.out) ?_; rintro e w' ⟨rfl, nd, rfl⟩; have p496 := od_ (0 ≤ (x17_5 : Int)); have q496 := od_ (x17_5 < (t488.length : Int)); obtain ⟨ad496, e496, hx496_0⟩ := Kd.at_int (Kd.R_reads' HO_10.out).2.2 x17_5 p496 q496; obtain rfl : ad494 = ad496 := (by injection e496); replace p496 := eq_true p496; replace q496 := eq_true q496))
            go_roundg k5
            case measure => have := HJ5.out; have := HK2.out; have := HJ9.out; have := HJ12.out; have := HK5.out; omega
            case rel => exact ⟨(rd t488 x17_5), (wrap64 (x17_5 - 1)), r3_, r3_, H, ⟨by have := HJ5.out; have := HK2.out; have := HJ9.out; have := HJ12.out; have := HK5.out; omega⟩, ⟨ro_ HO_10⟩, ⟨ro_ HO_11⟩, ⟨bl_⟩⟩
           replace H := nfd H; obtain ⟨c24b0, H⟩ | ⟨c24b0, H⟩ := H
           ·
            replace H := nfe H; obtain ⟨c30b0, c30b1, H⟩ | ⟨c30b0, c30b1, H⟩ := H
            ·
             replace H := Aside0.mk H; go_wp2
             go_roundg k5
             case measure => have := HJ5.out; have := HK2.out; have := HJ9.out; have := HJ12.out; have := HK5.out; omega
             case rel => exact ⟨(x15_5), (wrap64 (x14_2 + 1)), r3_, r3_, H, ⟨by have := HJ5.out; have := HK2.out; have := HJ9.out; have := HJ12.out; have := HK5.out; omega⟩, ⟨ro_ HO_10⟩, ⟨ro_ HO_11⟩, ⟨bl_⟩⟩
            replace H := nfe H; obtain ⟨c31b0, c31b1, H⟩ | ⟨c31b0, c31b1, H⟩ := H
            ·
             replace H := so2 H; obtain ⟨rfl, rfl⟩ := H; go_wp2
             go_ret2
             exact ⟨rr_, bl_⟩
            replace H := so2 H; obtain ⟨rfl, rfl⟩ := H; go_wp2
            go_ret2
            exact ⟨rr_, bl_⟩
           obtain ⟨ji25, hji25⟩ : ∃ j_ : Int, (wrap64 ((t488.length : Int) - 1)) = j_ := ⟨_, rfl⟩; (first | rw [hji25] at H | simp only [hji25] at H)
           have hji25w : (IntKind.i64.wrap ((t488.length : Int) - 1)) = ji25 := (i64_w _).trans hji25
           replace H := ifq H; obtain ⟨c26b0, c27b0, H⟩ := H; replace H := nfe H; obtain ⟨c28b0, c28b1, H⟩ | ⟨c28b0, c28b1, H⟩ := H
           ·
            replace H := Aside0.mk H; obtain ⟨p497, q497, ad497, e497, hx497_0⟩ := ix_ (Kd.at_int (Kd.R_reads' HO_10.out).2.2 (ji25)); cases e497; go_wp2
            go_roundg k5
            case measure => have := HJ5.out; have := HK2.out; have := HJ9.out; have := HJ12.out; have := HK5.out; omega
            case rel => exact ⟨(rd t488 (ji25)), (wrap64 (x14_2 + 1)), (by first | rfl | (simp; done) | (simp only [← hji25] <;> (first | rfl | simp)) | (simp [*]; done)), r3_, H, ⟨by have := HJ5.out; have := HK2.out; have := HJ9.out; have := HJ12.out; have := HK5.out; omega⟩, ⟨ro_ HO_10⟩, ⟨ro_ HO_11⟩, ⟨bl_⟩⟩
           replace H := nfe H; obtain ⟨c29b0, c29b1, H⟩ | ⟨c29b0, c29b1, H⟩ := H
           ·
            replace H := so2 H; obtain ⟨rfl, rfl⟩ := H; obtain ⟨p497, q497, ad497, e497, hx497_0⟩ := ix_ (Kd.at_int (Kd.R_reads' HO_10.out).2.2 (ji25)); cases e497; go_wp2
            go_ret2
            exact ⟨by first | exact rr_ | (simp only [← hji25]; exact rr_), bl_⟩
           replace H := so2 H; obtain ⟨rfl, rfl⟩ := H; obtain ⟨p497, q497, ad497, e497, hx497_0⟩ := ix_ (Kd.at_int (Kd.R_reads' HO_10.out).2.2 (ji25)); cases e497; go_wp2
           go_ret2
           exact ⟨by first | exact rr_ | (simp only [← hji25]; exact rr_), bl_⟩

/-! ### quillref1_End: function 33 -/
def quillref1_End.l0 : Nat → List Int → Int → Option (Int)
  | 0, _, _ => none
  | k + 1, x0, x1 => if x1 < (x0.length : Int) then (if 0 ≤ x1 then (if (rd x0 x1) = 10 then (some x1) else (quillref1_End.l0 k x0 (wrap64 (x1 + 1)))) else (none)) else (some x1)
def quillref1_End.f (k : Nat) (l0 : List Int) (a1 : Int) : Option (Int) := quillref1_End.l0 k l0 a1
theorem quillref1_End.calls {k : Nat} {A0 : Option Addr} {c0 : Nat} {l0 : List Int} {a1 : Int} {r : Int} {w : World} (hr0 : Kd.C (Kd.int .i32) w A0 l0.length l0) (hc0 : l0.length ≤ c0) (H : quillref1_End.f k l0 a1 = some r) :
  Calls Tryd.prog 33 #[.slice A0 l0.length c0, .int .i64 a1] w fun e w' => e = .returned (.int .i64 r) ∧ Drawn0 w w' := by
 have HR0 := Aside0.mk hr0; have HC0 := Aside0.mk hc0; clear hr0 hc0; unfold quillref1_End.f at H; replace H := Aside0.mk H; go_enter Tryd.func33, Tryd.ntmps33
 go_wp2
 go_loopg [1] k (fun kq v1 w' => ∃ (x1_1 : Int), v1 = .int .i64 x1_1 ∧ Aside0 (quillref1_End.l0 kq l0 x1_1 = some r) ∧ Aside0 (kq ≤ k) ∧ Drawn0 w w')
 case atStart => exact ⟨(a1), r3_, H, ⟨Nat.le_refl _⟩, dr_⟩
 case round =>
  clear H; obtain ⟨x1_1, rfl, HA, HK1, ⟨m1, rfl⟩⟩ := hrel
  cases gk with
  | zero => exact absurd HA.out (by simp [quillref1_End.l0])
  | succ k1 =>
   obtain ⟨H⟩ := HA; simp only [quillref1_End.l0] at H; replace H := nfd H; obtain ⟨c3b0, H⟩ | ⟨c3b0, H⟩ := H
   ·
    obtain rfl := Option.some.inj H; go_wp2; go_ret
    exact ⟨r3_, dr_⟩
   replace H := ifdn H; obtain ⟨c4b0, H⟩ := H; replace H := ife H; obtain ⟨c5b0, c5b1, H⟩ | ⟨c5b0, c5b1, H⟩ := H
   ·
    obtain rfl := Option.some.inj H; obtain ⟨p502, q502, ad502, e502, hx502_0⟩ := ix_ (Kd.at_int HR0.out x1_1); cases e502; go_wp2; go_ret
    exact ⟨r3_, dr_⟩
   replace H := Aside0.mk H; obtain ⟨p502, q502, ad502, e502, hx502_0⟩ := ix_ (Kd.at_int HR0.out x1_1); cases e502; go_wp2
   go_roundg k1
   case measure => have := HK1.out; omega
   case rel => exact ⟨(wrap64 (x1_1 + 1)), r3_, H, ⟨by have := HK1.out; omega⟩, dr_⟩

end Go.Proofs.YtbgmmcngkdhpcaaDoor.P
