/- The walks of the functions that these statements reach: each Go function as a plain Lean function, and the proof that its call comes to that. Written by the session's program wip/pp.py. -/
import Derived.Test.YtbgmmcngkdhpcaaDoorP0
import Derived.Test.YtbgmmcngkdhpcaaDoorP4
import Derived.Test.YtbgmmcngkdhpcaaDoorP6
import Derived.Test.YtbgmmcngkdhpcaaDoorP8
namespace Go.Proofs.YtbgmmcngkdhpcaaDoor.P
open Go.Proofs.YtbgmmcngkdhpcaaDoor
open Go.RowKit Go.Proofs.YtbgmmcngkdhpcaaDoorW.PrintWords Go.Proofs.YtbgmmcngkdhpcaaDoorW.PrintLast Go.Proofs.YtbgmmcngkdhpcaaDoorW.PrintMore
attribute [local go_sem] cell_isSome max2_int min2_int max_two min_two max_three min_three max_four min_four   -- for this text's walks alone
set_option linter.unusedVariables false
set_option linter.unusedSimpArgs false
set_option maxHeartbeats 8000000
set_option maxRecDepth 100000

/-! ### seek_Find: function 89 -/
mutual
def seek_Find.j0 : Nat → ByteArray → Int → Int → Int → Int → Bool → Option (Int × Int)
  | 0, _, _, _, _, _, _ => none
  | k + 1, x0, x1, x2, x3, x4, x32 => if x32 = true then (some (0, 1)) else ((text_Of.f k x0).bind fun bt200 => ((text_Map_Is.f bt200.1 bt200.2 x1).bind fun t207 => (if t207 = true then ((text_Map_Row.f k bt200.1 bt200.2 x1).bind fun t208 => (if x2 = 70 then (seek_Find.j1 k x1 x2 x3 x4 t208 1 0 true bt200.1 bt200.2) else (seek_Find.j1 k x1 x2 x3 x4 t208 1 0 (x2 == 84) bt200.1 bt200.2))) else (some (0, 1)))))
def seek_Find.j1 : Nat → Int → Int → Int → Int → Int → Int → Int → Bool → List Int → List Int → Option (Int × Int)
  | 0, _, _, _, _, _, _, _, _, _, _ => none
  | k + 1, x1, x2, x3, x4, x13, x14, x15, x47, v0, v1 => if x47 = true then (seek_Find.j2 k x1 x2 x3 x4 x13 (-1) x15 v0 v1) else (seek_Find.j2 k x1 x2 x3 x4 x13 x14 x15 v0 v1)
def seek_Find.j2 : Nat → Int → Int → Int → Int → Int → Int → Int → List Int → List Int → Option (Int × Int)
  | 0, _, _, _, _, _, _, _, _, _ => none
  | k + 1, x1, x2, x3, x4, x13, x14, x15, v0, v1 => if x2 = 116 then (seek_Find.j3 k x1 x3 x4 x13 x14 x15 true v0 v1) else (seek_Find.j3 k x1 x3 x4 x13 x14 x15 (x2 == 84) v0 v1)
def seek_Find.j3 : Nat → Int → Int → Int → Int → Int → Int → Bool → List Int → List Int → Option (Int × Int)
  | 0, _, _, _, _, _, _, _, _, _ => none
  | k + 1, x1, x3, x4, x13, x14, x15, x53, v0, v1 => if x53 = true then (seek_Find.j4 k x1 x3 x4 x13 x14 x14 v0 v1) else (seek_Find.j4 k x1 x3 x4 x13 x14 x15 v0 v1)
def seek_Find.j4 : Nat → Int → Int → Int → Int → Int → Int → List Int → List Int → Option (Int × Int)
  | 0, _, _, _, _, _, _, _, _ => none
  | k + 1, x1, x3, x4, x13, x14, x15, v0, v1 => seek_Find.l0 k x3 x4 x13 x14 x15 (wrap64 (x1 + x14)) v0 v1
def seek_Find.l0 : Nat → Int → Int → Int → Int → Int → Int → List Int → List Int → Option (Int × Int)
  | 0, _, _, _, _, _, _, _, _ => none
  | k + 1, x3, x4, x13, x14, x15, x16, v0, v1 => if 0 ≤ x13 then (if x13 < (v1.length : Int) then (if x16 ≥ (rd v1 x13) then ((text_Map_End.f v0 v1 x13).bind fun t210 => (seek_Find.j6 k x3 x4 x13 x14 x15 x16 (decide (x16 < t210)) v0 v1)) else (seek_Find.j6 k x3 x4 x13 x14 x15 x16 false v0 v1)) else (none)) else (none)
def seek_Find.j6 : Nat → Int → Int → Int → Int → Int → Int → Bool → List Int → List Int → Option (Int × Int)
  | 0, _, _, _, _, _, _, _, _, _ => none
  | k + 1, x3, x4, x13, x14, x15, x16, x73, v0, v1 => if x73 = true then (if 0 ≤ x16 then (if x16 < (v0.length : Int) then (if (wrap64 (rd v0 x16)) = x3 then (if (wrap64 (x4 - 1)) = 0 then (some (wrap64 (x16 - x15), 0)) else (seek_Find.l0 k x3 (wrap64 (x4 - 1)) x13 x14 x15 (wrap64 (x16 + x14)) v0 v1)) else (if x4 = 0 then (some (wrap64 (x16 - x15), 0)) else (seek_Find.l0 k x3 x4 x13 x14 x15 (wrap64 (x16 + x14)) v0 v1))) else (none)) else (none)) else (some (0, 6))
end
def seek_Find.f (k : Nat) (a0 : ByteArray) (a1 : Int) (a2 : Int) (a3 : Int) (a4 : Int) : Option (Int × Int) := (text_May.f a0).bind fun t198 => (if t198 = true then ((seek_Is.f a2).bind fun t199 => (if t199 = true then (if a4 < 1 then (seek_Find.j0 k a0 a1 a2 a3 a4 true) else (seek_Find.j0 k a0 a1 a2 a3 a4 (decide (a4 > 999)))) else (seek_Find.j0 k a0 a1 a2 a3 a4 true))) else (seek_Find.j0 k a0 a1 a2 a3 a4 true))
theorem seek_Find.calls {k : Nat} {a0 : ByteArray} {a1 : Int} {a2 : Int} {a3 : Int} {a4 : Int} {r1 : Int} {r2 : Int} {w : World} (hT : Tabs w) (H : seek_Find.f k a0 a1 a2 a3 a4 = some (r1, r2)) :
  Calls Tryd.prog 89 #[.string a0, .int .i64 a1, .int .i64 a2, .int .i64 a3, .int .i64 a4] w fun e w' => e = .returned (.tuple #[.int .i64 r1, .int .i64 r2]) ∧ Below w.heap.size w w' := by
 have HT := Aside0.mk hT; clear hT; have HB := Aside0.mk (Below.refl w.heap.size w); unfold seek_Find.f at H; have HC6 := Aside0.mk H; clear H; go_enter Tryd.func89, Tryd.ntmps89
 go_upto_region 1 with (fail)
 go_cut [32] (fun v32 wc => ∃ (kq : Nat) (x32_5 : Bool), v32 = .bool x32_5 ∧ Aside0 (seek_Find.j0 kq a0 a1 a2 a3 a4 x32_5 = some (r1, r2)) ∧ Aside0 (kq ≤ k) ∧ Aside0 (Below w.heap.size w wc))
 case first =>
  obtain ⟨H⟩ := HC6; replace H := bindA H; obtain ⟨t198, A7, H⟩ := H; (try dsimp only at H); replace H := nfb H; obtain ⟨rfl, H⟩ | ⟨rfl, H⟩ := H
  ·
   replace H := Aside0.mk H
   go_wp2_with (first | ((with_reducible refine gC 27 rfl ?_); refine goesL1 (some 18) Tryd.func27 #[.string a0] rfl (map1 rfl) ?_; (with_reducible refine (text_May.calls ?side1 A7.out).mono ?_); (case side1 => exact Tabs.below HT.out bl_); rintro e w18 ⟨rfl, hb⟩; refine ⟨_, rfl, ?_⟩; replace HB := hB hb; (try clear hb)))
   go_meet
   case rel => exact ⟨_, (true), r3_, H, ⟨ol_⟩, ⟨bl_⟩⟩
  replace H := bindA H; obtain ⟨t199, A9, H⟩ := H; (try dsimp only at H); replace H := nfb H; obtain ⟨rfl, H⟩ | ⟨rfl, H⟩ := H
  ·
   replace H := Aside0.mk H
   go_wp2_with (first | ((with_reducible refine gC 27 rfl ?_); refine goesL1 (some 18) Tryd.func27 #[.string a0] rfl (map1 rfl) ?_; (with_reducible refine (text_May.calls ?side1 A7.out).mono ?_); (case side1 => exact Tabs.below HT.out bl_); rintro e w16 ⟨rfl, hb⟩; refine ⟨_, rfl, ?_⟩; replace HB := hB hb; (try clear hb)) | (go_at_call 39; (with_reducible refine (seek_Is.calls A9.out).mono ?_); rintro e w17 ⟨rfl, hb⟩; replace HB := hB hb; (try clear hb)))
   go_meet
   case rel => exact ⟨_, (true), r3_, H, ⟨ol_⟩, ⟨bl_⟩⟩
  replace H := ifd H; obtain ⟨c11b0, H⟩ | ⟨c11b0, H⟩ := H
  ·
   (first | rw [c11b0] | (simp only [i64_w, i32_w]; rw [c11b0]) | skip); replace H := Aside0.mk H
   go_wp2_with (first | ((with_reducible refine gC 27 rfl ?_); refine goesL1 (some 18) Tryd.func27 #[.string a0] rfl (map1 rfl) ?_; (with_reducible refine (text_May.calls ?side1 A7.out).mono ?_); (case side1 => exact Tabs.below HT.out bl_); rintro e w12 ⟨rfl, hb⟩; refine ⟨_, rfl, ?_⟩; replace HB := hB hb; (try clear hb)) | (go_at_call 39; (with_reducible refine (seek_Is.calls A9.out).mono ?_); rintro e w13 ⟨rfl, hb⟩; replace HB := hB hb; (try clear hb)))
   go_meet
   case rel => exact ⟨_, (true), r3_, H, ⟨ol_⟩, ⟨bl_⟩⟩
  (first | rw [c11b0] | (simp only [i64_w, i32_w]; rw [c11b0]) | skip); replace H := Aside0.mk H
  go_wp2_with (first | ((with_reducible refine gC 27 rfl ?_); refine goesL1 (some 18) Tryd.func27 #[.string a0] rfl (map1 rfl) ?_; (with_reducible refine (text_May.calls ?side1 A7.out).mono ?_); (case side1 => exact Tabs.below HT.out bl_); rintro e w14 ⟨rfl, hb⟩; refine ⟨_, rfl, ?_⟩; replace HB := hB hb; (try clear hb)) | (go_at_call 39; (with_reducible refine (seek_Is.calls A9.out).mono ?_); rintro e w15 ⟨rfl, hb⟩; replace HB := hB hb; (try clear hb)))
  go_meet
  case rel => exact ⟨_, (decide (a4 > 999)), r3_, H, ⟨ol_⟩, ⟨bl_⟩⟩
 case rest =>
  clear HC6; obtain ⟨kq, x32_5, rfl, HA, HJ5, HB⟩ := hcut
  cases kq with
  | zero => exact absurd HA.out (by simp [seek_Find.j0])
  | succ kj5 =>
   obtain ⟨H⟩ := HA; simp only [seek_Find.j0] at H; replace H := ifb H; obtain ⟨rfl, H⟩ | ⟨rfl, H⟩ := H
   ·
    replace H := so2 H; obtain ⟨rfl, rfl⟩ := H; go_wp2
    go_ret2
    exact ⟨rr_, bl_⟩
   replace H := bindA H; obtain ⟨⟨t200, t203⟩, A20, H⟩ := H; (try dsimp only at H); replace H := bindA H; obtain ⟨t207, A21, H⟩ := H; (try dsimp only at H); replace H := nfb H; obtain ⟨rfl, H⟩ | ⟨rfl, H⟩ := H
   ·
    replace H := so2 H; obtain ⟨rfl, rfl⟩ := H
    go_wp2_with (first | ((with_reducible refine gC 28 rfl ?_); refine goesL1 (some 34) Tryd.func28 #[.string a0] rfl (map1 rfl) ?_; (with_reducible refine (text_Of.calls A20.out).mono ?_); rintro e w52 ⟨v201, v204, gb206, rfl, ho0, ho1, ⟨hx206_, hz206_⟩, hb⟩; refine ⟨_, rfl, ?_⟩; have HO202 := oL ho0; have HO205 := oL ho1; have BK206 := Aside0.mk hx206_; have GW206 := gZ hz206_; have GE206 := GW206; replace HB := hB hb; (try clear hb); (try clear ho0); (try clear ho1); (try clear hx206_ hz206_); obtain ⟨Ao53, co53, eo53⟩ := Kd.R_slice HO202.out; subst eo53; obtain ⟨Ao54, co54, eo54⟩ := Kd.R_slice HO205.out; subst eo54) | ((with_reducible refine gC 29 rfl ?_); refine goesL1 (some 37) Tryd.func29 #[.pointer (some ⟨gb206, 0, none⟩), .int .i64 a1] rfl (map2 rfl rfl) ?_; refine cm_ (text_Map_Is.calls sd_ sd_ sd_ sd_ sd_ A21.out) ?_; rintro e w' ⟨rfl, nd, rfl⟩; refine ⟨_, rfl, ?_⟩))
    go_ret2
    exact ⟨rr_, bl_⟩
   replace H := bindA H; obtain ⟨t208, A23, H⟩ := H; (try dsimp only at H); have HC24 := Aside0.mk H; clear H
   go_upto_region 8 with (first | ((with_reducible refine gC 28 rfl ?_); refine goesL1 (some 34) Tryd.func28 #[.string a0] rfl (map1 rfl) ?_; (with_reducible refine (text_Of.calls A20.out).mono ?_); rintro e w25 ⟨v201, v204, gb206, rfl, ho0, ho1, ⟨hx206_, hz206_⟩, hb⟩; refine ⟨_, rfl, ?_⟩; have HO202 := oL ho0; have HO205 := oL ho1; have BK206 := Aside0.mk hx206_; have GW206 := gZ hz206_; have GE206 := GW206; replace HB := hB hb; (try clear hb); (try clear ho0); (try clear ho1); (try clear hx206_ hz206_); obtain ⟨Ao26, co26, eo26⟩ := Kd.R_slice HO202.out; subst eo26; obtain ⟨Ao27, co27, eo27⟩ := Kd.R_slice HO205.out; subst eo27) | ((with_reducible refine gC 29 rfl ?_); refine goesL1 (some 37) Tryd.func29 #[.pointer (some ⟨gb206, 0, none⟩), .int .i64 a1] rfl (map2 rfl rfl) ?_; refine cm_ (text_Map_Is.calls sd_ sd_ sd_ sd_ sd_ A21.out) ?_; rintro e w' ⟨rfl, nd, rfl⟩; refine ⟨_, rfl, ?_⟩) | ((with_reducible refine gC 49 rfl ?_); refine goesL1 (some 41) Tryd.func49 #[.pointer (some ⟨gb206, 0, none⟩), .int .i64 a1] rfl (map2 rfl rfl) ?_; refine cm_ (text_Map_Row.calls sd_ sd_ sd_ sd_ sd_ A23.out) ?_; rintro e w' ⟨rfl, nd, rfl⟩; refine ⟨_, rfl, ?_⟩))
   (try simp only [Act.put, List.setIfInBounds_toArray, List.set_cons_zero, List.set_cons_succ])
   go_cut [47] (fun v47 wc => ∃ (kq : Nat) (x47_23 : Bool), v47 = .bool x47_23 ∧ Aside0 (seek_Find.j1 kq a1 a2 a3 a4 t208 1 0 x47_23 t200 t203 = some (r1, r2)) ∧ Aside0 (kq ≤ kj5) ∧ Aside0 (Kd.R (Kd.int .i32) 21 wc w.heap.size (fun _ => True) (.slice Ao26 t200.length co26) t200) ∧ Aside0 (Kd.R (Kd.int .i64) 3 wc w.heap.size (fun _ => True) (.slice Ao27 t203.length co27) t203) ∧ Aside0 (wc.heap[gb206]? = some (.cells #[(.slice Ao26 t200.length co26), (.slice Ao27 t203.length co27)] 79 (0, 0))) ∧ Aside0 (Below w.heap.size w wc))
   case first =>
    obtain ⟨H⟩ := HC24; replace H := nfe H; obtain ⟨c28b0, c28b1, H⟩ | ⟨c28b0, c28b1, H⟩ := H
    ·
     (first | rw [c28b0] | (simp only [i64_w, i32_w]; rw [c28b0]) | skip); replace H := Aside0.mk H; go_wp2; go_meet
     case rel => exact ⟨_, ((a2 == 84)), r3_, H, ⟨by have := HJ5.out; first | omega | exact Nat.le_refl _⟩, ⟨ro_ HO202⟩, ⟨ro_ HO205⟩, ⟨BK206.out⟩, ⟨bl_⟩⟩
    (first | rw [c28b0] | (simp only [i64_w, i32_w]; rw [c28b0]) | skip); replace H := Aside0.mk H; go_wp2; go_meet
    case rel => exact ⟨_, (true), r3_, H, ⟨by have := HJ5.out; first | omega | exact Nat.le_refl _⟩, ⟨ro_ HO202⟩, ⟨ro_ HO205⟩, ⟨BK206.out⟩, ⟨bl_⟩⟩
   case rest =>
    clear HC24; obtain ⟨kq, x47_23, rfl, HA, HJ23, HO_207000, HO_207001, BK206, HB⟩ := hcut
    cases kq with
    | zero => exact absurd HA.out (by simp [seek_Find.j1])
    | succ kj23 =>
     obtain ⟨H⟩ := HA; simp only [seek_Find.j1] at H; have HC29 := Aside0.mk H; clear H
     go_upto_if 47 with (fail)
     go_cut [14] (fun v14 wc => ∃ (kq : Nat) (x14_28 : Int), v14 = .int .i64 x14_28 ∧ Aside0 (seek_Find.j2 kq a1 a2 a3 a4 t208 x14_28 0 t200 t203 = some (r1, r2)) ∧ Aside0 (kq ≤ kj23) ∧ Aside0 (Kd.R (Kd.int .i32) 21 wc w.heap.size (fun _ => True) (.slice Ao26 t200.length co26) t200) ∧ Aside0 (Kd.R (Kd.int .i64) 3 wc w.heap.size (fun _ => True) (.slice Ao27 t203.length co27) t203) ∧ Aside0 (wc.heap[gb206]? = some (.cells #[(.slice Ao26 t200.length co26), (.slice Ao27 t203.length co27)] 79 (0, 0))) ∧ Aside0 (Below w.heap.size w wc))
     case first =>
      obtain ⟨H⟩ := HC29; replace H := ifb H; obtain ⟨rfl, H⟩ | ⟨rfl, H⟩ := H
      ·
       replace H := Aside0.mk H; go_wp2; go_meet
       case rel => exact ⟨_, ((-1)), r3_, H, ⟨by have := HJ5.out; have := HJ23.out; first | omega | exact Nat.le_refl _⟩, ⟨ro_ HO_207000⟩, ⟨ro_ HO_207001⟩, ⟨BK206.out⟩, ⟨bl_⟩⟩
      replace H := Aside0.mk H; go_wp2; go_meet
      case rel => exact ⟨_, (1), r3_, H, ⟨by have := HJ5.out; have := HJ23.out; first | omega | exact Nat.le_refl _⟩, ⟨ro_ HO_207000⟩, ⟨ro_ HO_207001⟩, ⟨BK206.out⟩, ⟨bl_⟩⟩
     case rest =>
      clear HC29; obtain ⟨kq, x14_28, rfl, HA, HJ28, HO_207000, HO_207001, BK206, HB⟩ := hcut
      cases kq with
      | zero => exact absurd HA.out (by simp [seek_Find.j2])
      | succ kj28 =>
       obtain ⟨H⟩ := HA; simp only [seek_Find.j2] at H; have HC31 := Aside0.mk H; clear H
       go_upto_region 10 with (fail)
       go_cut [53] (fun v53 wc => ∃ (kq : Nat) (x53_30 : Bool), v53 = .bool x53_30 ∧ Aside0 (seek_Find.j3 kq a1 a3 a4 t208 x14_28 0 x53_30 t200 t203 = some (r1, r2)) ∧ Aside0 (kq ≤ kj28) ∧ Aside0 (Kd.R (Kd.int .i32) 21 wc w.heap.size (fun _ => True) (.slice Ao26 t200.length co26) t200) ∧ Aside0 (Kd.R (Kd.int .i64) 3 wc w.heap.size (fun _ => True) (.slice Ao27 t203.length co27) t203) ∧ Aside0 (wc.heap[gb206]? = some (.cells #[(.slice Ao26 t200.length co26), (.slice Ao27 t203.length co27)] 79 (0, 0))) ∧ Aside0 (Below w.heap.size w wc))
       case first =>
        obtain ⟨H⟩ := HC31; replace H := nfe H; obtain ⟨c32b0, c32b1, H⟩ | ⟨c32b0, c32b1, H⟩ := H
        ·
         (first | rw [c32b0] | (simp only [i64_w, i32_w]; rw [c32b0]) | skip); replace H := Aside0.mk H; go_wp2; go_meet
         case rel => exact ⟨_, ((a2 == 84)), r3_, H, ⟨by have := HJ5.out; have := HJ23.out; have := HJ28.out; first | omega | exact Nat.le_refl _⟩, ⟨ro_ HO_207000⟩, ⟨ro_ HO_207001⟩, ⟨BK206.out⟩, ⟨bl_⟩⟩
        (first | rw [c32b0] | (simp only [i64_w, i32_w]; rw [c32b0]) | skip); replace H := Aside0.mk H; go_wp2; go_meet
        case rel => exact ⟨_, (true), r3_, H, ⟨by have := HJ5.out; have := HJ23.out; have := HJ28.out; first | omega | exact Nat.le_refl _⟩, ⟨ro_ HO_207000⟩, ⟨ro_ HO_207001⟩, ⟨BK206.out⟩, ⟨bl_⟩⟩
       case rest =>
        clear HC31; obtain ⟨kq, x53_30, rfl, HA, HJ30, HO_207000, HO_207001, BK206, HB⟩ := hcut
        cases kq with
        | zero => exact absurd HA.out (by simp [seek_Find.j3])
        | succ kj30 =>
         obtain ⟨H⟩ := HA; simp only [seek_Find.j3] at H; have HC33 := Aside0.mk H; clear H
         go_upto_if 53 with (fail)
         go_cut [15] (fun v15 wc => ∃ (kq : Nat) (x15_32 : Int), v15 = .int .i64 x15_32 ∧ Aside0 (seek_Find.j4 kq a1 a3 a4 t208 x14_28 x15_32 t200 t203 = some (r1, r2)) ∧ Aside0 (kq ≤ kj30) ∧ Aside0 (Kd.R (Kd.int .i32) 21 wc w.heap.size (fun _ => True) (.slice Ao26 t200.length co26) t200) ∧ Aside0 (Kd.R (Kd.int .i64) 3 wc w.heap.size (fun _ => True) (.slice Ao27 t203.length co27) t203) ∧ Aside0 (wc.heap[gb206]? = some (.cells #[(.slice Ao26 t200.length co26), (.slice Ao27 t203.length co27)] 79 (0, 0))) ∧ Aside0 (Below w.heap.size w wc))
         case first =>
          obtain ⟨H⟩ := HC33; replace H := ifb H; obtain ⟨rfl, H⟩ | ⟨rfl, H⟩ := H
          ·
           replace H := Aside0.mk H; go_wp2; go_meet
           case rel => exact ⟨_, (x14_28), r3_, H, ⟨by have := HJ5.out; have := HJ23.out; have := HJ28.out; have := HJ30.out; first | omega | exact Nat.le_refl _⟩, ⟨ro_ HO_207000⟩, ⟨ro_ HO_207001⟩, ⟨BK206.out⟩, ⟨bl_⟩⟩
          replace H := Aside0.mk H; go_wp2; go_meet
          case rel => exact ⟨_, (0), r3_, H, ⟨by have := HJ5.out; have := HJ23.out; have := HJ28.out; have := HJ30.out; first | omega | exact Nat.le_refl _⟩, ⟨ro_ HO_207000⟩, ⟨ro_ HO_207001⟩, ⟨BK206.out⟩, ⟨bl_⟩⟩
         case rest =>
          clear HC33; obtain ⟨kq, x15_32, rfl, HA, HJ32, HO_207000, HO_207001, BK206, HB⟩ := hcut
          cases kq with
          | zero => exact absurd HA.out (by simp [seek_Find.j4])
          | succ kj32 =>
           obtain ⟨H⟩ := HA; simp only [seek_Find.j4] at H; replace H := Aside0.mk H; go_wp2
           go_loopg [4, 16] kj32 (fun kq v4 v16 w' => ∃ (x4_6 : Int) (x16_6 : Int), v4 = .int .i64 x4_6 ∧ v16 = .int .i64 x16_6 ∧ Aside0 (seek_Find.l0 kq a3 x4_6 t208 x14_28 x15_32 x16_6 t200 t203 = some (r1, r2)) ∧ Aside0 (kq ≤ kj32) ∧ Aside0 (Kd.R (Kd.int .i32) 21 w' w.heap.size (fun _ => True) (.slice Ao26 t200.length co26) t200) ∧ Aside0 (Kd.R (Kd.int .i64) 3 w' w.heap.size (fun _ => True) (.slice Ao27 t203.length co27) t203) ∧ Aside0 (w'.heap[gb206]? = some (.cells #[(.slice Ao26 t200.length co26), (.slice Ao27 t203.length co27)] 79 (0, 0))) ∧ Aside0 (Below w.heap.size w w'))
           case atStart => exact ⟨(a4), (wrap64 (a1 + x14_28)), r3_, r3_, H, ⟨Nat.le_refl _⟩, ⟨ro_ HO_207000⟩, ⟨ro_ HO_207001⟩, ⟨BK206.out⟩, ⟨bl_⟩⟩
           case round =>
            clear H; obtain ⟨x4_6, x16_6, rfl, rfl, HA, HK6, HO_207000, HO_207001, BK206, HB⟩ := hrel
            cases gk with
            | zero => exact absurd HA.out (by simp [seek_Find.l0])
            | succ k6 =>
             obtain ⟨H⟩ := HA; simp only [seek_Find.l0] at H; have HC35 := Aside0.mk H; clear H
             go_upto_region 13 with (fail)
             go_cut [73] (fun v73 wc => ∃ (kq : Nat) (x73_34 : Bool), v73 = .bool x73_34 ∧ Aside0 (seek_Find.j6 kq a3 x4_6 t208 x14_28 x15_32 x16_6 x73_34 t200 t203 = some (r1, r2)) ∧ Aside0 (kq ≤ k6) ∧ Aside0 (Kd.R (Kd.int .i32) 21 wc w.heap.size (fun _ => True) (.slice Ao26 t200.length co26) t200) ∧ Aside0 (Kd.R (Kd.int .i64) 3 wc w.heap.size (fun _ => True) (.slice Ao27 t203.length co27) t203) ∧ Aside0 (wc.heap[gb206]? = some (.cells #[(.slice Ao26 t200.length co26), (.slice Ao27 t203.length co27)] 79 (0, 0))) ∧ Aside0 (Below w.heap.size w wc))
             case first =>
              obtain ⟨H⟩ := HC35; replace H := ifdn H; obtain ⟨c36b0, H⟩ := H; (first | rw [c36b0] | (simp only [i64_w, i32_w]; rw [c36b0]) | skip); replace H := ifdn H; obtain ⟨c37b0, H⟩ := H; replace H := nfd H; obtain ⟨c38b0, H⟩ | ⟨c38b0, H⟩ := H
              ·
               replace H := Aside0.mk H; have hcz41 := cs2 BK206.out; obtain ⟨p209, q209, ad209, e209, hx209_0⟩ := ix_ (Kd.at_int (Kd.R_reads' HO_207001.out).2.2 t208); cases e209; go_wp2; go_meet
               case rel => exact ⟨_, (false), r3_, H, ⟨by have := HJ5.out; have := HJ23.out; have := HJ28.out; have := HJ30.out; have := HJ32.out; have := HK6.out; first | omega | exact Nat.le_refl _⟩, ⟨ro_ HO_207000⟩, ⟨ro_ HO_207001⟩, ⟨BK206.out⟩, ⟨bl_⟩⟩
              replace H := bindA H; obtain ⟨t210, A39, H⟩ := H; (try dsimp only at H); replace H := Aside0.mk H; have hcz40 := cs2 BK206.out; obtain ⟨p209, q209, ad209, e209, hx209_0⟩ := ix_ (Kd.at_int (Kd.R_reads' HO_207001.out).2.2 t208); cases e209
              go_wp2_with (first | (go_at_call 50; refine cm_ (text_Map_End.calls sd_ sd_ sd_ sd_ sd_ A39.out) ?_; rintro e w' ⟨rfl, nd, rfl⟩))
              go_meet
              case rel => exact ⟨_, (decide (x16_6 < t210)), r3_, H, ⟨by have := HJ5.out; have := HJ23.out; have := HJ28.out; have := HJ30.out; have := HJ32.out; have := HK6.out; first | omega | exact Nat.le_refl _⟩, ⟨ro_ HO_207000⟩, ⟨ro_ HO_207001⟩, ⟨BK206.out⟩, ⟨bl_⟩⟩
             case rest =>
              clear HC35; obtain ⟨kq, x73_34, rfl, HA, HJ34, HO_207000, HO_207001, BK206, HB⟩ := hcut
              cases kq with
              | zero => exact absurd HA.out (by simp [seek_Find.j6])
              | succ kj34 =>
               obtain ⟨H⟩ := HA; simp only [seek_Find.j6] at H; replace H := nfb H; obtain ⟨rfl, H⟩ | ⟨rfl, H⟩ := H
               ·
                replace H := so2 H; obtain ⟨rfl, rfl⟩ := H; go_wp2
                go_ret2
                exact ⟨rr_, bl_⟩
               replace H := ifq H; obtain ⟨c43b0, c44b0, H⟩ := H; replace H := nfe H; obtain ⟨c45b0, c45b1, H⟩ | ⟨c45b0, c45b1, H⟩ := H
               ·
                replace H := ife H; obtain ⟨c49b0, c49b1, H⟩ | ⟨c49b0, c49b1, H⟩ := H
                ·
                 replace H := so2 H; obtain ⟨rfl, rfl⟩ := H; have hcz50 := cs2 BK206.out; obtain ⟨p211, q211, ad211, e211, hx211_0⟩ := ix_ (Kd.at_int (Kd.R_reads' HO_207000.out).2.2 x16_6); cases e211; go_wp2
                 go_ret2
                 exact ⟨rr_, bl_⟩
                replace H := Aside0.mk H; have hcz51 := cs2 BK206.out; obtain ⟨p211, q211, ad211, e211, hx211_0⟩ := ix_ (Kd.at_int (Kd.R_reads' HO_207000.out).2.2 x16_6); cases e211; go_wp2
                go_roundg kj34
                case measure => have := HJ5.out; have := HJ23.out; have := HJ28.out; have := HJ30.out; have := HJ32.out; have := HK6.out; have := HJ34.out; omega
                case rel => exact ⟨(x4_6), (wrap64 (x16_6 + x14_28)), r3_, r3_, H, ⟨by have := HJ5.out; have := HJ23.out; have := HJ28.out; have := HJ30.out; have := HJ32.out; have := HK6.out; have := HJ34.out; omega⟩, ⟨ro_ HO_207000⟩, ⟨ro_ HO_207001⟩, ⟨BK206.out⟩, ⟨bl_⟩⟩
               replace H := ife H; obtain ⟨c46b0, c46b1, H⟩ | ⟨c46b0, c46b1, H⟩ := H
               ·
                replace H := so2 H; obtain ⟨rfl, rfl⟩ := H; have hcz47 := cs2 BK206.out; obtain ⟨p211, q211, ad211, e211, hx211_0⟩ := ix_ (Kd.at_int (Kd.R_reads' HO_207000.out).2.2 x16_6); cases e211; go_wp2
                go_ret2
                exact ⟨rr_, bl_⟩
               replace H := Aside0.mk H; have hcz48 := cs2 BK206.out; obtain ⟨p211, q211, ad211, e211, hx211_0⟩ := ix_ (Kd.at_int (Kd.R_reads' HO_207000.out).2.2 x16_6); cases e211; go_wp2
               go_roundg kj34
               case measure => have := HJ5.out; have := HJ23.out; have := HJ28.out; have := HJ30.out; have := HJ32.out; have := HK6.out; have := HJ34.out; omega
               case rel => exact ⟨(wrap64 (x4_6 - 1)), (wrap64 (x16_6 + x14_28)), r3_, r3_, H, ⟨by have := HJ5.out; have := HJ23.out; have := HJ28.out; have := HJ30.out; have := HJ32.out; have := HK6.out; have := HJ34.out; omega⟩, ⟨ro_ HO_207000⟩, ⟨ro_ HO_207001⟩, ⟨BK206.out⟩, ⟨bl_⟩⟩

/-! ### move_found: function 65 -/
def move_found.f (k : Nat) (a0 : ByteArray) (a1 : Int) (a2_0 : Int) (a2_1 : Int) (a3 : Int) : Option (Int × Int × Int) := (seek_Find.f k a0 a1 a2_0 a2_1 a3).bind fun bt214 => (if a2_0 = 102 then (some (bt214.1, 1, bt214.2)) else (if a2_0 = 116 then (some (bt214.1, 1, bt214.2)) else (some (bt214.1, 0, bt214.2))))
theorem move_found.calls {k : Nat} {a0 : ByteArray} {a1 : Int} {a2_0 : Int} {a2_1 : Int} {a3 : Int} {r1 : Int} {r2 : Int} {r3 : Int} {w : World} (hT : Tabs w) (H : move_found.f k a0 a1 a2_0 a2_1 a3 = some (r1, r2, r3)) :
  Calls Tryd.prog 65 #[.string a0, .int .i64 a1, .agg #[.int .i64 a2_0, .int .i64 a2_1], .int .i64 a3] w fun e w' => e = .returned (.tuple #[.agg #[.int .i64 r1, .int .i64 r2], .int .i64 r3]) ∧ Below w.heap.size w w' := by
 have hu31 := Tryd.underlying31; have hu54 := Tryd.underlying54; have HT := Aside0.mk hT; clear hT; have HB := Aside0.mk (Below.refl w.heap.size w); unfold move_found.f at H; replace H := bindA H; obtain ⟨⟨t214, t215⟩, A5, H⟩ := H; (try dsimp only at H); replace H := ife H; obtain ⟨c6b0, c6b1, H⟩ | ⟨c6b0, c6b1, H⟩ := H
 ·
  replace H := so3 H; obtain ⟨rfl, rfl, rfl⟩ := H; go_enter Tryd.func65, Tryd.ntmps65
  go_wp2_with (first | ((with_reducible refine gN 6 rfl ?_); refine bx 6 #[.int .i64 a2_0, .int .i64 a2_1] 31 ?_; intro gb212 hg w7 hbox hb; have BK212 := Aside0.mk hbox; have GW212 := gE hg; have GE212 := GW212; replace HB := hB hb; clear hb hbox hg) | ((with_reducible refine gN 8 rfl ?_); refine bx 8 #[.int .i64 0, .int .i64 0] 54 ?_; intro gb213 hg w8 hbox hb; have BK213 := Aside0.mk hbox; have GW213 := gE hg; have GE213 := GW213; have NB212_213 := nbl hg BK212.out; have NB213_212 := nbr hg BK212.out; replace BK212 := blB hb BK212; replace HB := hB hb; clear hb hbox hg; have hcz10 := cs2 BK212.out) | ((with_reducible refine gC 89 rfl ?_); refine goesL1 (some 21) Tryd.func89 #[.string a0, .int .i64 a1, .int .i64 a2_0, .int .i64 a2_1, .int .i64 a3] rfl (map5 rfl rfl rfl rfl rfl) ?_; (with_reducible refine (seek_Find.calls ?side1 A5.out).mono ?_); (case side1 => exact Tabs.below HT.out bl_); rintro e w11 ⟨rfl, hb⟩; refine ⟨_, rfl, ?_⟩; replace BK212 := blB hb BK212; replace BK213 := blB hb BK213; replace HB := hB hb; (try clear hb); (try clear hcz10)) | ((with_reducible refine gN 12 rfl ?_); refine bx 12 #[.int .i64 0, .int .i64 0] 54 ?_; intro gb216 hg w12 hbox hb; have BK216 := Aside0.mk hbox; have GW216 := gE hg; have GE216 := GW216; have NB212_216 := nbl hg BK212.out; have NB216_212 := nbr hg BK212.out; have NB213_216 := nbl hg BK213.out; have NB216_213 := nbr hg BK213.out; replace BK212 := blB hb BK212; replace BK213 := blB hb BK213; replace HB := hB hb; clear hb hbox hg; have hcz15 := cs2 BK216.out; have hcz16 := cs2 BK212.out; have hcz17 := cs2 BK213.out))
  refine bodyPost_ret (results_ct rfl _ _ gb213 54 #[.int .i64 t214, .int .i64 1] (0, 0) _ rfl bk_ Tryd.underlying54 rfl (by kernel_rfl)) rfl ?_
  exact ⟨rr_, bl_⟩
 replace H := nfe H; obtain ⟨c18b0, c18b1, H⟩ | ⟨c18b0, c18b1, H⟩ := H
 ·
  replace H := so3 H; obtain ⟨rfl, rfl, rfl⟩ := H; go_enter Tryd.func65, Tryd.ntmps65
  go_wp2_with (first | ((with_reducible refine gN 6 rfl ?_); refine bx 6 #[.int .i64 a2_0, .int .i64 a2_1] 31 ?_; intro gb212 hg w30 hbox hb; have BK212 := Aside0.mk hbox; have GW212 := gE hg; have GE212 := GW212; replace HB := hB hb; clear hb hbox hg) | ((with_reducible refine gN 8 rfl ?_); refine bx 8 #[.int .i64 0, .int .i64 0] 54 ?_; intro gb213 hg w31 hbox hb; have BK213 := Aside0.mk hbox; have GW213 := gE hg; have GE213 := GW213; have NB212_213 := nbl hg BK212.out; have NB213_212 := nbr hg BK212.out; replace BK212 := blB hb BK212; replace HB := hB hb; clear hb hbox hg; have hcz33 := cs2 BK212.out) | ((with_reducible refine gC 89 rfl ?_); refine goesL1 (some 21) Tryd.func89 #[.string a0, .int .i64 a1, .int .i64 a2_0, .int .i64 a2_1, .int .i64 a3] rfl (map5 rfl rfl rfl rfl rfl) ?_; (with_reducible refine (seek_Find.calls ?side1 A5.out).mono ?_); (case side1 => exact Tabs.below HT.out bl_); rintro e w34 ⟨rfl, hb⟩; refine ⟨_, rfl, ?_⟩; replace BK212 := blB hb BK212; replace BK213 := blB hb BK213; replace HB := hB hb; (try clear hb); (try clear hcz33)) | ((with_reducible refine gN 12 rfl ?_); refine bx 12 #[.int .i64 0, .int .i64 0] 54 ?_; intro gb216 hg w35 hbox hb; have BK216 := Aside0.mk hbox; have GW216 := gE hg; have GE216 := GW216; have NB212_216 := nbl hg BK212.out; have NB216_212 := nbr hg BK212.out; have NB213_216 := nbl hg BK213.out; have NB216_213 := nbr hg BK213.out; replace BK212 := blB hb BK212; replace BK213 := blB hb BK213; replace HB := hB hb; clear hb hbox hg; have hcz38 := cs2 BK216.out; have hcz39 := cs2 BK212.out; have hcz40 := cs2 BK213.out))
  refine bodyPost_ret (results_ct rfl _ _ gb213 54 #[.int .i64 t214, .int .i64 0] (0, 0) _ rfl bk_ Tryd.underlying54 rfl (by kernel_rfl)) rfl ?_
  exact ⟨rr_, bl_⟩
 replace H := so3 H; obtain ⟨rfl, rfl, rfl⟩ := H; go_enter Tryd.func65, Tryd.ntmps65
 go_wp2_with (first | ((with_reducible refine gN 6 rfl ?_); refine bx 6 #[.int .i64 a2_0, .int .i64 a2_1] 31 ?_; intro gb212 hg w19 hbox hb; have BK212 := Aside0.mk hbox; have GW212 := gE hg; have GE212 := GW212; replace HB := hB hb; clear hb hbox hg) | ((with_reducible refine gN 8 rfl ?_); refine bx 8 #[.int .i64 0, .int .i64 0] 54 ?_; intro gb213 hg w20 hbox hb; have BK213 := Aside0.mk hbox; have GW213 := gE hg; have GE213 := GW213; have NB212_213 := nbl hg BK212.out; have NB213_212 := nbr hg BK212.out; replace BK212 := blB hb BK212; replace HB := hB hb; clear hb hbox hg; have hcz22 := cs2 BK212.out) | ((with_reducible refine gC 89 rfl ?_); refine goesL1 (some 21) Tryd.func89 #[.string a0, .int .i64 a1, .int .i64 a2_0, .int .i64 a2_1, .int .i64 a3] rfl (map5 rfl rfl rfl rfl rfl) ?_; (with_reducible refine (seek_Find.calls ?side1 A5.out).mono ?_); (case side1 => exact Tabs.below HT.out bl_); rintro e w23 ⟨rfl, hb⟩; refine ⟨_, rfl, ?_⟩; replace BK212 := blB hb BK212; replace BK213 := blB hb BK213; replace HB := hB hb; (try clear hb); (try clear hcz22)) | ((with_reducible refine gN 12 rfl ?_); refine bx 12 #[.int .i64 0, .int .i64 0] 54 ?_; intro gb216 hg w24 hbox hb; have BK216 := Aside0.mk hbox; have GW216 := gE hg; have GE216 := GW216; have NB212_216 := nbl hg BK212.out; have NB216_212 := nbr hg BK212.out; have NB213_216 := nbl hg BK213.out; have NB216_213 := nbr hg BK213.out; replace BK212 := blB hb BK212; replace BK213 := blB hb BK213; replace HB := hB hb; clear hb hbox hg; have hcz27 := cs2 BK216.out; have hcz28 := cs2 BK212.out; have hcz29 := cs2 BK213.out))
 refine bodyPost_ret (results_ct rfl _ _ gb213 54 #[.int .i64 t214, .int .i64 1] (0, 0) _ rfl bk_ Tryd.underlying54 rfl (by kernel_rfl)) rfl ?_
 exact ⟨rr_, bl_⟩

/-! ### seek_Turned: function 90 -/
def seek_Turned.f (a0 : Int) : Option (Int × Int) := (seek_Is.f a0).bind fun t217 => (if t217 = true then (some (Go.bits .xor .i64 a0 32, 0)) else (some (0, 1)))
theorem seek_Turned.calls {a0 : Int} {r1 : Int} {r2 : Int} {w : World} (H : seek_Turned.f a0 = some (r1, r2)) :
  Calls Tryd.prog 90 #[.int .i64 a0] w fun e w' => e = .returned (.tuple #[.int .i64 r1, .int .i64 r2]) ∧ Below w.heap.size w w' := by
 have HB := Aside0.mk (Below.refl w.heap.size w); unfold seek_Turned.f at H; replace H := bindA H; obtain ⟨t217, A2, H⟩ := H; (try dsimp only at H); replace H := ifb H; obtain ⟨rfl, H⟩ | ⟨rfl, H⟩ := H
 ·
  replace H := so2 H; obtain ⟨rfl, rfl⟩ := H; go_enter Tryd.func90, Tryd.ntmps90
  go_wp2_with (first | ((with_reducible refine gC 39 rfl ?_); refine goesL1 (some 5) Tryd.func39 #[.int .i64 a0] rfl (map1 rfl) ?_; (with_reducible refine (seek_Is.calls A2.out).mono ?_); rintro e w4 ⟨rfl, hb⟩; refine ⟨_, rfl, ?_⟩; replace HB := hB hb; (try clear hb)))
  go_ret2
  exact ⟨rr_, bl_⟩
 replace H := so2 H; obtain ⟨rfl, rfl⟩ := H; go_enter Tryd.func90, Tryd.ntmps90
 go_wp2_with (first | ((with_reducible refine gC 39 rfl ?_); refine goesL1 (some 5) Tryd.func39 #[.int .i64 a0] rfl (map1 rfl) ?_; (with_reducible refine (seek_Is.calls A2.out).mono ?_); rintro e w5 ⟨rfl, hb⟩; refine ⟨_, rfl, ?_⟩; replace HB := hB hb; (try clear hb)))
 go_ret2
 exact ⟨rr_, bl_⟩

/-! ### move_again: function 66 -/
def move_again.f (k : Nat) (a0 : ByteArray) (a1 : Int) (a2 : Int) (a3_0 : Int) (a3_1 : Int) (a4 : Int) : Option (Int × Int × Int) := if a3_0 = 0 then (some (0, 0, 6)) else (if a2 = 44 then ((seek_Turned.f a3_0).bind fun bt220 => ((move_found.f k a0 a1 bt220.1 a3_1 a4).bind fun bt222 => (some (bt222.1, bt222.2.1, bt222.2.2)))) else ((move_found.f k a0 a1 a3_0 a3_1 a4).bind fun bt225 => (some (bt225.1, bt225.2.1, bt225.2.2))))
theorem move_again.calls {k : Nat} {a0 : ByteArray} {a1 : Int} {a2 : Int} {a3_0 : Int} {a3_1 : Int} {a4 : Int} {r1 : Int} {r2 : Int} {r3 : Int} {w : World} (hT : Tabs w) (H : move_again.f k a0 a1 a2 a3_0 a3_1 a4 = some (r1, r2, r3)) :
  Calls Tryd.prog 66 #[.string a0, .int .i64 a1, .int .i64 a2, .agg #[.int .i64 a3_0, .int .i64 a3_1], .int .i64 a4] w fun e w' => e = .returned (.tuple #[.agg #[.int .i64 r1, .int .i64 r2], .int .i64 r3]) ∧ Below w.heap.size w w' := by
 have hu31 := Tryd.underlying31; have hu54 := Tryd.underlying54; have HT := Aside0.mk hT; clear hT; have HB := Aside0.mk (Below.refl w.heap.size w); unfold move_again.f at H; replace H := ife H; obtain ⟨c6b0, c6b1, H⟩ | ⟨c6b0, c6b1, H⟩ := H
 ·
  replace H := so3 H; obtain ⟨rfl, rfl, rfl⟩ := H; go_enter Tryd.func66, Tryd.ntmps66
  go_wp2_with (first | ((with_reducible refine gN 8 rfl ?_); refine bx 8 #[.int .i64 a3_0, .int .i64 a3_1] 31 ?_; intro gb218 hg w7 hbox hb; have BK218 := Aside0.mk hbox; have GW218 := gE hg; have GE218 := GW218; replace HB := hB hb; clear hb hbox hg) | ((with_reducible refine gN 10 rfl ?_); refine bx 10 #[.int .i64 0, .int .i64 0] 54 ?_; intro gb219 hg w8 hbox hb; have BK219 := Aside0.mk hbox; have GW219 := gE hg; have GE219 := GW219; have NB218_219 := nbl hg BK218.out; have NB219_218 := nbr hg BK218.out; replace BK218 := blB hb BK218; replace HB := hB hb; clear hb hbox hg; have hcz10 := cs2 BK218.out; have hcz11 := cs2 BK219.out))
  refine bodyPost_ret (results_ct rfl _ _ gb219 54 #[.int .i64 0, .int .i64 0] (0, 0) _ rfl bk_ Tryd.underlying54 rfl (by kernel_rfl)) rfl ?_
  exact ⟨rr_, bl_⟩
 replace H := nfe H; obtain ⟨c12b0, c12b1, H⟩ | ⟨c12b0, c12b1, H⟩ := H
 ·
  replace H := bindA H; obtain ⟨⟨t225, t226, t227⟩, A23, H⟩ := H; (try dsimp only at H); replace H := so3 H; obtain ⟨rfl, rfl, rfl⟩ := H; go_enter Tryd.func66, Tryd.ntmps66
  go_wp2_with (first | ((with_reducible refine gN 8 rfl ?_); refine bx 8 #[.int .i64 a3_0, .int .i64 a3_1] 31 ?_; intro gb218 hg w24 hbox hb; have BK218 := Aside0.mk hbox; have GW218 := gE hg; have GE218 := GW218; replace HB := hB hb; clear hb hbox hg) | ((with_reducible refine gN 10 rfl ?_); refine bx 10 #[.int .i64 0, .int .i64 0] 54 ?_; intro gb219 hg w25 hbox hb; have BK219 := Aside0.mk hbox; have GW219 := gE hg; have GE219 := GW219; have NB218_219 := nbl hg BK218.out; have NB219_218 := nbr hg BK218.out; replace BK218 := blB hb BK218; replace HB := hB hb; clear hb hbox hg; have hcz27 := cs2 BK218.out) | ((with_reducible refine gC 65 rfl ?_); refine goesL1 (some 29) Tryd.func65 #[.string a0, .int .i64 a1, .agg #[.int .i64 a3_0, .int .i64 a3_1], .int .i64 a4] rfl (map4 rfl rfl rfl rfl) ?_; (with_reducible refine (move_found.calls ?side1 A23.out).mono ?_); (case side1 => exact Tabs.below HT.out bl_); rintro e w28 ⟨rfl, hb⟩; refine ⟨_, rfl, ?_⟩; replace BK218 := blB hb BK218; replace BK219 := blB hb BK219; replace HB := hB hb; (try clear hb); have hcz29 := cs2 BK219.out; (try clear hcz27)))
  refine bodyPost_ret (results_ct rfl _ _ gb219 54 #[.int .i64 t225, .int .i64 t226] (0, 0) _ rfl bk_ Tryd.underlying54 rfl (by kernel_rfl)) rfl ?_
  exact ⟨rr_, bl_⟩
 replace H := bindA H; obtain ⟨⟨t220, t221⟩, A13, H⟩ := H; (try dsimp only at H); replace H := bindA H; obtain ⟨⟨t222, t223, t224⟩, A14, H⟩ := H; (try dsimp only at H); replace H := so3 H; obtain ⟨rfl, rfl, rfl⟩ := H; go_enter Tryd.func66, Tryd.ntmps66
 go_wp2_with (first | ((with_reducible refine gN 8 rfl ?_); refine bx 8 #[.int .i64 a3_0, .int .i64 a3_1] 31 ?_; intro gb218 hg w15 hbox hb; have BK218 := Aside0.mk hbox; have GW218 := gE hg; have GE218 := GW218; replace HB := hB hb; clear hb hbox hg) | ((with_reducible refine gN 10 rfl ?_); refine bx 10 #[.int .i64 0, .int .i64 0] 54 ?_; intro gb219 hg w16 hbox hb; have BK219 := Aside0.mk hbox; have GW219 := gE hg; have GE219 := GW219; have NB218_219 := nbl hg BK218.out; have NB219_218 := nbr hg BK218.out; replace BK218 := blB hb BK218; replace HB := hB hb; clear hb hbox hg; have hcz18 := cs2 BK218.out) | ((with_reducible refine gC 90 rfl ?_); refine goesL1 (some 21) Tryd.func90 #[.int .i64 a3_0] rfl (map1 rfl) ?_; (with_reducible refine (seek_Turned.calls A13.out).mono ?_); rintro e w19 ⟨rfl, hb⟩; refine ⟨_, rfl, ?_⟩; replace BK218 := blB hb BK218; replace BK219 := blB hb BK219; replace HB := hB hb; (try clear hb); have hcz20 := cs2 BK218.out; (try clear hcz18)) | ((with_reducible refine gC 65 rfl ?_); refine goesL1 (some 29) Tryd.func65 #[.string a0, .int .i64 a1, .agg #[.int .i64 t220, .int .i64 a3_1], .int .i64 a4] rfl (map4 rfl rfl rfl rfl) ?_; (with_reducible refine (move_found.calls ?side1 A14.out).mono ?_); (case side1 => exact Tabs.below HT.out bl_); rintro e w21 ⟨rfl, hb⟩; refine ⟨_, rfl, ?_⟩; replace BK218 := bkB gb218 #[.int .i64 t220, .int .i64 a3_1] 31 hb; replace BK219 := bkB gb219 #[.int .i64 0, .int .i64 0] 54 hb; replace HB := hB hb; (try clear hb); have hcz22 := cs2 BK219.out; (try clear hcz20)))
 refine bodyPost_ret (results_ct rfl _ _ gb219 54 #[.int .i64 t222, .int .i64 t223] (0, 0) _ rfl bk_ Tryd.underlying54 rfl (by kernel_rfl)) rfl ?_
 exact ⟨rr_, bl_⟩

/-! ### text_Map_Rows: function 80 -/
def text_Map_Rows.f (l0_0 : List Int) (l0_1 : List Int) : Option (Int) := some (l0_1.length : Int)
theorem text_Map_Rows.calls {g0 : Nat} {A0_0 : Option Addr} {c0_0 : Nat} {l0_0 : List Int} {A0_1 : Option Addr} {c0_1 : Nat} {l0_1 : List Int} {r : Int} {w : World} (hg0 : w.heap[g0]? = some (.cells #[.slice A0_0 l0_0.length c0_0, .slice A0_1 l0_1.length c0_1] 79 (0, 0))) (hr0_0 : Kd.C (Kd.int .i32) w A0_0 l0_0.length l0_0) (hc0_0 : l0_0.length ≤ c0_0) (hr0_1 : Kd.C (Kd.int .i64) w A0_1 l0_1.length l0_1) (hc0_1 : l0_1.length ≤ c0_1) (H : text_Map_Rows.f l0_0 l0_1 = some r) :
  Calls Tryd.prog 80 #[.pointer (some ⟨g0, 0, none⟩)] w fun e w' => e = .returned (.int .i64 r) ∧ Drawn0 w w' := by
 have BK0 := Aside0.mk hg0; clear hg0; have HR0_0 := Aside0.mk hr0_0; have HC0_0 := Aside0.mk hc0_0; clear hr0_0 hc0_0; have HR0_1 := Aside0.mk hr0_1; have HC0_1 := Aside0.mk hc0_1; clear hr0_1 hc0_1; unfold text_Map_Rows.f at H; obtain rfl := Option.some.inj H; have hcz2 := cs2 BK0.out; go_enter Tryd.func80, Tryd.ntmps80
 go_wp2; go_ret
 exact ⟨r3_, dr_⟩

end Go.Proofs.YtbgmmcngkdhpcaaDoor.P
