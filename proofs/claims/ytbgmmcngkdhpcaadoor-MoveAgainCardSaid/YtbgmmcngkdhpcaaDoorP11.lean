/- The walks of the functions that these statements reach: each Go function as a plain Lean function, and the proof that its call comes to that. Written by the session's program wip/pp.py. -/
import Derived.Test.YtbgmmcngkdhpcaaDoorP0
import Derived.Test.YtbgmmcngkdhpcaaDoorP4
import Derived.Test.YtbgmmcngkdhpcaaDoorP5
import Derived.Test.YtbgmmcngkdhpcaaDoorP6
import Derived.Test.YtbgmmcngkdhpcaaDoorP8
import Derived.Test.YtbgmmcngkdhpcaaDoorP10
namespace Go.Proofs.YtbgmmcngkdhpcaaDoor.P
open Go.Proofs.YtbgmmcngkdhpcaaDoor
open Go.RowKit Go.Proofs.YtbgmmcngkdhpcaaDoorW.PrintWords Go.Proofs.YtbgmmcngkdhpcaaDoorW.PrintLast Go.Proofs.YtbgmmcngkdhpcaaDoorW.PrintMore
attribute [local go_sem] cell_isSome max2_int min2_int max_two min_two max_three min_three max_four min_four   -- for this text's walks alone
set_option linter.unusedVariables false
set_option linter.unusedSimpArgs false
set_option maxHeartbeats 8000000
set_option maxRecDepth 100000

/-! ### pairs_mate: function 109 -/
mutual
def pairs_mate.l0 : Nat → List Int → Int → Int → Int → Int → Option (Int)
  | 0, _, _, _, _, _ => none
  | k + 1, x0, x5, x6, x7, x8 => if x8 ≥ 0 then (pairs_mate.j1 k x0 x5 x6 x7 x8 (decide (x8 < (x0.length : Int)))) else (pairs_mate.j1 k x0 x5 x6 x7 x8 false)
def pairs_mate.j1 : Nat → List Int → Int → Int → Int → Int → Bool → Option (Int)
  | 0, _, _, _, _, _, _ => none
  | k + 1, x0, x5, x6, x7, x8, x33 => if x33 = true then (if 0 ≤ x8 then (if x8 < (x0.length : Int) then ((pairs_kind.f (rd x0 x8)).bind fun bt266 => (if bt266.2 = 0 then (pairs_mate.j2 k x0 x5 x6 x7 x8 bt266.2 false) else (pairs_mate.j2 k x0 x5 x6 x7 x8 bt266.2 (bt266.1 == x5)))) else (none)) else (none)) else (some (-1))
def pairs_mate.j2 : Nat → List Int → Int → Int → Int → Int → Int → Bool → Option (Int)
  | 0, _, _, _, _, _, _, _ => none
  | k + 1, x0, x5, x6, x7, x8, x10, x51 => if x51 = true then (if (wrap64 (x7 + x10)) = 0 then (some x8) else (pairs_mate.l0 k x0 x5 x6 (wrap64 (x7 + x10)) (wrap64 (x8 + x6)))) else (if x7 = 0 then (some x8) else (pairs_mate.l0 k x0 x5 x6 x7 (wrap64 (x8 + x6))))
end
def pairs_mate.f (k : Nat) (l0 : List Int) (a1 : Int) : Option (Int) := if a1 ≥ (l0.length : Int) then (some (-1)) else (if 0 ≤ a1 then (if a1 < (l0.length : Int) then ((pairs_kind.f (rd l0 a1)).bind fun bt263 => (if bt263.2 = 0 then (some (-1)) else (pairs_mate.l0 k l0 bt263.1 bt263.2 0 a1))) else (none)) else (none))
theorem pairs_mate.calls {k : Nat} {A0 : Option Addr} {c0 : Nat} {l0 : List Int} {a1 : Int} {r : Int} {w : World} (hr0 : Kd.C (Kd.int .i32) w A0 l0.length l0) (hc0 : l0.length ≤ c0) (H : pairs_mate.f k l0 a1 = some r) :
  Calls Tryd.prog 109 #[.slice A0 l0.length c0, .int .i64 a1] w fun e w' => e = .returned (.int .i64 r) ∧ Below w.heap.size w w' := by
 have HR0 := Aside0.mk hr0; have HC0 := Aside0.mk hc0; clear hr0 hc0; have HB := Aside0.mk (Below.refl w.heap.size w); unfold pairs_mate.f at H; replace H := ifd H; obtain ⟨c3b0, H⟩ | ⟨c3b0, H⟩ := H
 ·
  obtain rfl := Option.some.inj H; go_enter Tryd.func109, Tryd.ntmps109
  go_wp2; go_ret
  exact ⟨rr_, bl_⟩
 replace H := ifq H; obtain ⟨c4b0, c5b0, H⟩ := H; replace H := bindA H; obtain ⟨⟨t263, t264⟩, A6, H⟩ := H; (try dsimp only at H); replace H := ife H; obtain ⟨c7b0, c7b1, H⟩ | ⟨c7b0, c7b1, H⟩ := H
 ·
  obtain rfl := Option.some.inj H; obtain ⟨p262, q262, ad262, e262, hx262_0⟩ := ix_ (Kd.at_int HR0.out a1); cases e262; go_enter Tryd.func109, Tryd.ntmps109
  go_wp2_with (first | ((with_reducible refine gC 93 rfl ?_); refine goesL1 (some 20) Tryd.func93 #[.int .i32 (rd l0 a1)] rfl (map1 rfl) ?_; (with_reducible refine (pairs_kind.calls A6.out).mono ?_); rintro e w8 ⟨rfl, hb⟩; refine ⟨_, rfl, ?_⟩; replace HB := hB hb; (try clear hb)))
  go_ret
  exact ⟨rr_, bl_⟩
 replace H := Aside0.mk H; obtain ⟨p262, q262, ad262, e262, hx262_0⟩ := ix_ (Kd.at_int HR0.out a1); cases e262; go_enter Tryd.func109, Tryd.ntmps109
 go_wp2_with (first | ((with_reducible refine gC 93 rfl ?_); refine goesL1 (some 20) Tryd.func93 #[.int .i32 (rd l0 a1)] rfl (map1 rfl) ?_; (with_reducible refine (pairs_kind.calls A6.out).mono ?_); rintro e w9 ⟨rfl, hb⟩; refine ⟨_, rfl, ?_⟩; replace HB := hB hb; (try clear hb)))
 go_loopg [7, 8] k (fun kq v7 v8 w' => ∃ (x7_1 : Int) (x8_1 : Int), v7 = .int .i64 x7_1 ∧ v8 = .int .i64 x8_1 ∧ Aside0 (pairs_mate.l0 kq l0 t263 t264 x7_1 x8_1 = some r) ∧ Aside0 (kq ≤ k) ∧ Aside0 (Below w.heap.size w w'))
 case atStart => exact ⟨(0), (a1), r3_, r3_, H, ⟨Nat.le_refl _⟩, ⟨bl_⟩⟩
 case round =>
  clear H
  try clear c3b0
  try clear c4b0
  try clear c5b0
  try clear c7b0
  try clear c7b1
  try clear hx262_0
  try clear p262
  try clear q262
  obtain ⟨x7_1, x8_1, rfl, rfl, HA, HK1, HB⟩ := hrel
  cases gk with
  | zero => exact absurd HA.out (by simp [pairs_mate.l0])
  | succ k1 =>
   obtain ⟨H⟩ := HA; simp only [pairs_mate.l0] at H; have HC10 := Aside0.mk H; clear H
   go_upto_region 8 with (fail)
   go_cut [33] (fun v33 wc => ∃ (kq : Nat) (x33_9 : Bool), v33 = .bool x33_9 ∧ Aside0 (pairs_mate.j1 kq l0 t263 t264 x7_1 x8_1 x33_9 = some r) ∧ Aside0 (kq ≤ k1) ∧ Aside0 (Below w.heap.size w wc))
   case first =>
    obtain ⟨H⟩ := HC10; replace H := nfd H; obtain ⟨c11b0, H⟩ | ⟨c11b0, H⟩ := H
    ·
     (first | rw [c11b0] | (simp only [i64_w, i32_w]; rw [c11b0]) | skip); replace H := Aside0.mk H; go_wp2; go_meet
     case rel => exact ⟨_, (false), r3_, H, ⟨by have := HK1.out; first | omega | exact Nat.le_refl _⟩, ⟨bl_⟩⟩
    (first | rw [c11b0] | (simp only [i64_w, i32_w]; rw [c11b0]) | skip); replace H := Aside0.mk H; go_wp2; go_meet
    case rel => exact ⟨_, (decide (x8_1 < (l0.length : Int))), r3_, H, ⟨by have := HK1.out; first | omega | exact Nat.le_refl _⟩, ⟨bl_⟩⟩
   case rest =>
    clear HC10
    try clear c3b0
    try clear c4b0
    try clear c5b0
    try clear c7b0
    try clear c7b1
    try clear hx262_0
    try clear p262
    try clear q262
    obtain ⟨kq, x33_9, rfl, HA, HJ9, HB⟩ := hcut
    cases kq with
    | zero => exact absurd HA.out (by simp [pairs_mate.j1])
    | succ kj9 =>
     obtain ⟨H⟩ := HA; simp only [pairs_mate.j1] at H; replace H := nfb H; obtain ⟨rfl, H⟩ | ⟨rfl, H⟩ := H
     ·
      obtain rfl := Option.some.inj H; go_wp2; go_ret
      exact ⟨rr_, bl_⟩
     replace H := ifq H; obtain ⟨c13b0, c14b0, H⟩ := H; replace H := bindA H; obtain ⟨⟨t266, t267⟩, A15, H⟩ := H; (try dsimp only at H); have HC16 := Aside0.mk H; clear H; have p265 := od_ (0 ≤ (x8_1 : Int)); have q265 := od_ (x8_1 < (l0.length : Int)); obtain ⟨ad265, e265, hx265_0⟩ := Kd.at_int HR0.out x8_1 p265 q265; obtain rfl : ad262 = ad265 := (by injection e265); replace hx265_0 := hb_ HB hx265_0
     replace p265 := eq_true p265; replace q265 := eq_true q265
     go_upto_region 11 with (first | ((with_reducible refine gC 93 rfl ?_); refine goesL1 (some 42) Tryd.func93 #[.int .i32 (rd l0 x8_1)] rfl (map1 rfl) ?_; (with_reducible refine (pairs_kind.calls A15.out).mono ?_); rintro e w17 ⟨rfl, hb⟩; refine ⟨_, rfl, ?_⟩; replace HB := hB hb; (try clear hb)))
     (try simp only [Act.put, List.setIfInBounds_toArray, List.set_cons_zero, List.set_cons_succ])
     go_cut [51] (fun v51 wc => ∃ (kq : Nat) (x51_15 : Bool), v51 = .bool x51_15 ∧ Aside0 (pairs_mate.j2 kq l0 t263 t264 x7_1 x8_1 t267 x51_15 = some r) ∧ Aside0 (kq ≤ kj9) ∧ Aside0 (Below w.heap.size w wc))
     case first =>
      obtain ⟨H⟩ := HC16; replace H := nfe H; obtain ⟨c18b0, c18b1, H⟩ | ⟨c18b0, c18b1, H⟩ := H
      ·
       (first | rw [c18b0] | (simp only [i64_w, i32_w]; rw [c18b0]) | skip); replace H := Aside0.mk H; go_wp2; go_meet
       case rel => exact ⟨_, ((t266 == t263)), r3_, H, ⟨by have := HK1.out; have := HJ9.out; first | omega | exact Nat.le_refl _⟩, ⟨bl_⟩⟩
      (first | rw [c18b0] | (simp only [i64_w, i32_w]; rw [c18b0]) | skip); replace H := Aside0.mk H; go_wp2; go_meet
      case rel => exact ⟨_, (false), r3_, H, ⟨by have := HK1.out; have := HJ9.out; first | omega | exact Nat.le_refl _⟩, ⟨bl_⟩⟩
     case rest =>
      clear HC16
      try clear c3b0
      try clear c4b0
      try clear c5b0
      try clear c7b0
      try clear c7b1
      try clear c13b0
      try clear c14b0
      try clear hx262_0
      try clear hx265_0
      try clear p262
      try clear p265
      try clear q262
      try clear q265
      obtain ⟨kq, x51_15, rfl, HA, HJ15, HB⟩ := hcut
      cases kq with
      | zero => exact absurd HA.out (by simp [pairs_mate.j2])
      | succ kj15 =>
       obtain ⟨H⟩ := HA; simp only [pairs_mate.j2] at H; replace H := nfb H; obtain ⟨rfl, H⟩ | ⟨rfl, H⟩ := H
       ·
        replace H := ife H; obtain ⟨c21b0, c21b1, H⟩ | ⟨c21b0, c21b1, H⟩ := H
        ·
         obtain rfl := Option.some.inj H; go_wp2; go_ret
         exact ⟨rr_, bl_⟩
        replace H := Aside0.mk H; go_wp2
        go_roundg kj15
        case measure => have := HK1.out; have := HJ9.out; have := HJ15.out; omega
        case rel => exact ⟨(x7_1), (wrap64 (x8_1 + t264)), r3_, r3_, H, ⟨by have := HK1.out; have := HJ9.out; have := HJ15.out; omega⟩, ⟨bl_⟩⟩
       replace H := ife H; obtain ⟨c20b0, c20b1, H⟩ | ⟨c20b0, c20b1, H⟩ := H
       ·
        obtain rfl := Option.some.inj H; go_wp2; go_ret
        exact ⟨rr_, bl_⟩
       replace H := Aside0.mk H; go_wp2
       go_roundg kj15
       case measure => have := HK1.out; have := HJ9.out; have := HJ15.out; omega
       case rel => exact ⟨(wrap64 (x7_1 + t267)), (wrap64 (x8_1 + t264)), r3_, r3_, H, ⟨by have := HK1.out; have := HJ9.out; have := HJ15.out; omega⟩, ⟨bl_⟩⟩

/-! ### pairs_Mate: function 94 -/
def pairs_Mate.f (k : Nat) (a0 : ByteArray) (a1 : Int) : Option (Int × Int) := (text_May.f a0).bind fun t268 => (if t268 = true then ((text_Of.f k a0).bind fun bt269 => ((text_Map_Is.f bt269.1 bt269.2 a1).bind fun t276 => (if t276 = true then ((pairs_mate.f k bt269.1 a1).bind fun t277 => (if t277 ≥ 0 then (some (t277, 0)) else (some (0, 6)))) else (some (0, 1))))) else (some (0, 1)))
theorem pairs_Mate.calls {k : Nat} {a0 : ByteArray} {a1 : Int} {r1 : Int} {r2 : Int} {w : World} (hT : Tabs w) (H : pairs_Mate.f k a0 a1 = some (r1, r2)) :
  Calls Tryd.prog 94 #[.string a0, .int .i64 a1] w fun e w' => e = .returned (.tuple #[.int .i64 r1, .int .i64 r2]) ∧ Below w.heap.size w w' := by
 have HT := Aside0.mk hT; clear hT; have HB := Aside0.mk (Below.refl w.heap.size w); unfold pairs_Mate.f at H; replace H := bindA H; obtain ⟨t268, A3, H⟩ := H; (try dsimp only at H); replace H := nfb H; obtain ⟨rfl, H⟩ | ⟨rfl, H⟩ := H
 ·
  replace H := so2 H; obtain ⟨rfl, rfl⟩ := H; go_enter Tryd.func94, Tryd.ntmps94
  go_wp2_with (first | ((with_reducible refine gC 27 rfl ?_); refine goesL1 (some 9) Tryd.func27 #[.string a0] rfl (map1 rfl) ?_; (with_reducible refine (text_May.calls ?side1 A3.out).mono ?_); (case side1 => exact Tabs.below HT.out bl_); rintro e w26 ⟨rfl, hb⟩; refine ⟨_, rfl, ?_⟩; replace HB := hB hb; (try clear hb)))
  go_ret2
  exact ⟨rr_, bl_⟩
 replace H := bindA H; obtain ⟨⟨t269, t272⟩, A5, H⟩ := H; (try dsimp only at H); replace H := bindA H; obtain ⟨t276, A6, H⟩ := H; (try dsimp only at H); replace H := nfb H; obtain ⟨rfl, H⟩ | ⟨rfl, H⟩ := H
 ·
  replace H := so2 H; obtain ⟨rfl, rfl⟩ := H; go_enter Tryd.func94, Tryd.ntmps94
  go_wp2_with (first | ((with_reducible refine gC 27 rfl ?_); refine goesL1 (some 9) Tryd.func27 #[.string a0] rfl (map1 rfl) ?_; (with_reducible refine (text_May.calls ?side1 A3.out).mono ?_); (case side1 => exact Tabs.below HT.out bl_); rintro e w22 ⟨rfl, hb⟩; refine ⟨_, rfl, ?_⟩; replace HB := hB hb; (try clear hb)) | ((with_reducible refine gC 28 rfl ?_); refine goesL1 (some 12) Tryd.func28 #[.string a0] rfl (map1 rfl) ?_; (with_reducible refine (text_Of.calls A5.out).mono ?_); rintro e w23 ⟨v270, v273, gb275, rfl, ho0, ho1, ⟨hx275_, hz275_⟩, hb⟩; refine ⟨_, rfl, ?_⟩; have HO271 := oL ho0; have HO274 := oL ho1; have BK275 := Aside0.mk hx275_; have GW275 := gZ hz275_; have GE275 := GW275; replace HB := hB hb; (try clear hb); (try clear ho0); (try clear ho1); (try clear hx275_ hz275_); obtain ⟨Ao24, co24, eo24⟩ := Kd.R_slice HO271.out; subst eo24; obtain ⟨Ao25, co25, eo25⟩ := Kd.R_slice HO274.out; subst eo25) | ((with_reducible refine gC 29 rfl ?_); refine goesL1 (some 15) Tryd.func29 #[.pointer (some ⟨gb275, 0, none⟩), .int .i64 a1] rfl (map2 rfl rfl) ?_; refine cm_ (text_Map_Is.calls sd_ sd_ sd_ sd_ sd_ A6.out) ?_; rintro e w' ⟨rfl, nd, rfl⟩; refine ⟨_, rfl, ?_⟩))
  go_ret2
  exact ⟨rr_, bl_⟩
 replace H := bindA H; obtain ⟨t277, A8, H⟩ := H; (try dsimp only at H); replace H := ifd H; obtain ⟨c9b0, H⟩ | ⟨c9b0, H⟩ := H
 ·
  replace H := so2 H; obtain ⟨rfl, rfl⟩ := H; go_enter Tryd.func94, Tryd.ntmps94
  go_wp2_with (first | ((with_reducible refine gC 27 rfl ?_); refine goesL1 (some 9) Tryd.func27 #[.string a0] rfl (map1 rfl) ?_; (with_reducible refine (text_May.calls ?side1 A3.out).mono ?_); (case side1 => exact Tabs.below HT.out bl_); rintro e w10 ⟨rfl, hb⟩; refine ⟨_, rfl, ?_⟩; replace HB := hB hb; (try clear hb)) | ((with_reducible refine gC 28 rfl ?_); refine goesL1 (some 12) Tryd.func28 #[.string a0] rfl (map1 rfl) ?_; (with_reducible refine (text_Of.calls A5.out).mono ?_); rintro e w11 ⟨v270, v273, gb275, rfl, ho0, ho1, ⟨hx275_, hz275_⟩, hb⟩; refine ⟨_, rfl, ?_⟩; have HO271 := oL ho0; have HO274 := oL ho1; have BK275 := Aside0.mk hx275_; have GW275 := gZ hz275_; have GE275 := GW275; replace HB := hB hb; (try clear hb); (try clear ho0); (try clear ho1); (try clear hx275_ hz275_); obtain ⟨Ao12, co12, eo12⟩ := Kd.R_slice HO271.out; subst eo12; obtain ⟨Ao13, co13, eo13⟩ := Kd.R_slice HO274.out; subst eo13) | ((with_reducible refine gC 29 rfl ?_); refine goesL1 (some 15) Tryd.func29 #[.pointer (some ⟨gb275, 0, none⟩), .int .i64 a1] rfl (map2 rfl rfl) ?_; refine cm_ (text_Map_Is.calls sd_ sd_ sd_ sd_ sd_ A6.out) ?_; rintro e w' ⟨rfl, nd, rfl⟩; refine ⟨_, rfl, ?_⟩; have hcz14 := cs2 BK275.out) | ((with_reducible refine gC 109 rfl ?_); refine goesL1 (some 22) Tryd.func109 #[.slice Ao12 t269.length co12, .int .i64 a1] rfl (map2 rfl rfl) ?_; refine cm_ (pairs_mate.calls sd_ sd_ A8.out) ?_; rintro e w15 ⟨rfl, hb⟩; refine ⟨_, rfl, ?_⟩; replace HO271 := Aside0.mk (Kd.R_below (ro_ HO271) hb); replace HO274 := Aside0.mk (Kd.R_below (ro_ HO274) hb); replace BK275 := blB hb BK275; replace HB := hB hb; (try clear hb); (try clear hcz14)))
  go_ret2
  exact ⟨rr_, bl_⟩
 replace H := so2 H; obtain ⟨rfl, rfl⟩ := H; go_enter Tryd.func94, Tryd.ntmps94
 go_wp2_with (first | ((with_reducible refine gC 27 rfl ?_); refine goesL1 (some 9) Tryd.func27 #[.string a0] rfl (map1 rfl) ?_; (with_reducible refine (text_May.calls ?side1 A3.out).mono ?_); (case side1 => exact Tabs.below HT.out bl_); rintro e w16 ⟨rfl, hb⟩; refine ⟨_, rfl, ?_⟩; replace HB := hB hb; (try clear hb)) | ((with_reducible refine gC 28 rfl ?_); refine goesL1 (some 12) Tryd.func28 #[.string a0] rfl (map1 rfl) ?_; (with_reducible refine (text_Of.calls A5.out).mono ?_); rintro e w17 ⟨v270, v273, gb275, rfl, ho0, ho1, ⟨hx275_, hz275_⟩, hb⟩; refine ⟨_, rfl, ?_⟩; have HO271 := oL ho0; have HO274 := oL ho1; have BK275 := Aside0.mk hx275_; have GW275 := gZ hz275_; have GE275 := GW275; replace HB := hB hb; (try clear hb); (try clear ho0); (try clear ho1); (try clear hx275_ hz275_); obtain ⟨Ao18, co18, eo18⟩ := Kd.R_slice HO271.out; subst eo18; obtain ⟨Ao19, co19, eo19⟩ := Kd.R_slice HO274.out; subst eo19) | ((with_reducible refine gC 29 rfl ?_); refine goesL1 (some 15) Tryd.func29 #[.pointer (some ⟨gb275, 0, none⟩), .int .i64 a1] rfl (map2 rfl rfl) ?_; refine cm_ (text_Map_Is.calls sd_ sd_ sd_ sd_ sd_ A6.out) ?_; rintro e w' ⟨rfl, nd, rfl⟩; refine ⟨_, rfl, ?_⟩; have hcz20 := cs2 BK275.out) | ((with_reducible refine gC 109 rfl ?_); refine goesL1 (some 22) Tryd.func109 #[.slice Ao18 t269.length co18, .int .i64 a1] rfl (map2 rfl rfl) ?_; refine cm_ (pairs_mate.calls sd_ sd_ A8.out) ?_; rintro e w21 ⟨rfl, hb⟩; refine ⟨_, rfl, ?_⟩; replace HO271 := Aside0.mk (Kd.R_below (ro_ HO271) hb); replace HO274 := Aside0.mk (Kd.R_below (ro_ HO274) hb); replace BK275 := blB hb BK275; replace HB := hB hb; (try clear hb); (try clear hcz20)))
 go_ret2
 exact ⟨rr_, bl_⟩

/-! ### pairs_Move: function 68 -/
def pairs_Move.l0 : Nat → ByteArray → Int → Int → List Int → List Int → Option (Int × Int)
  | 0, _, _, _, _, _ => none
  | k + 1, x0, x1, x7, v0, v1 => if x1 < x7 then (if 0 ≤ x1 then (if x1 < (v0.length : Int) then ((pairs_kind.f (rd v0 x1)).bind fun bt290 => (if bt290.2 = 0 then (pairs_Move.l0 k x0 (wrap64 (x1 + 1)) x7 v0 v1) else ((pairs_Mate.f k x0 x1).bind fun bt292 => (some (bt292.1, bt292.2))))) else (none)) else (none)) else (some (0, 6))
def pairs_Move.f (k : Nat) (a0 : ByteArray) (a1 : Int) : Option (Int × Int) := (text_May.f a0).bind fun t278 => (if t278 = true then ((text_Of.f k a0).bind fun bt279 => ((text_Map_Is.f bt279.1 bt279.2 a1).bind fun t286 => (if t286 = true then ((text_Map_Row.f k bt279.1 bt279.2 a1).bind fun t287 => ((text_Map_End.f bt279.1 bt279.2 t287).bind fun t288 => (pairs_Move.l0 k a0 a1 t288 bt279.1 bt279.2))) else (some (0, 1))))) else (some (0, 1)))
theorem pairs_Move.calls {k : Nat} {a0 : ByteArray} {a1 : Int} {r1 : Int} {r2 : Int} {w : World} (hT : Tabs w) (H : pairs_Move.f k a0 a1 = some (r1, r2)) :
  Calls Tryd.prog 68 #[.string a0, .int .i64 a1] w fun e w' => e = .returned (.tuple #[.int .i64 r1, .int .i64 r2]) ∧ Below w.heap.size w w' := by
 have HT := Aside0.mk hT; clear hT; have HB := Aside0.mk (Below.refl w.heap.size w); unfold pairs_Move.f at H; replace H := bindA H; obtain ⟨t278, A3, H⟩ := H; (try dsimp only at H); replace H := nfb H; obtain ⟨rfl, H⟩ | ⟨rfl, H⟩ := H
 ·
  replace H := so2 H; obtain ⟨rfl, rfl⟩ := H; go_enter Tryd.func68, Tryd.ntmps68
  go_wp2_with (first | ((with_reducible refine gC 27 rfl ?_); refine goesL1 (some 11) Tryd.func27 #[.string a0] rfl (map1 rfl) ?_; (with_reducible refine (text_May.calls ?side1 A3.out).mono ?_); (case side1 => exact Tabs.below HT.out bl_); rintro e w29 ⟨rfl, hb⟩; refine ⟨_, rfl, ?_⟩; replace HB := hB hb; (try clear hb)))
  go_ret2
  exact ⟨rr_, bl_⟩
 replace H := bindA H; obtain ⟨⟨t279, t282⟩, A5, H⟩ := H; (try dsimp only at H); replace H := bindA H; obtain ⟨t286, A6, H⟩ := H; (try dsimp only at H); replace H := nfb H; obtain ⟨rfl, H⟩ | ⟨rfl, H⟩ := H
 ·
  replace H := so2 H; obtain ⟨rfl, rfl⟩ := H; go_enter Tryd.func68, Tryd.ntmps68
  go_wp2_with (first | ((with_reducible refine gC 27 rfl ?_); refine goesL1 (some 11) Tryd.func27 #[.string a0] rfl (map1 rfl) ?_; (with_reducible refine (text_May.calls ?side1 A3.out).mono ?_); (case side1 => exact Tabs.below HT.out bl_); rintro e w25 ⟨rfl, hb⟩; refine ⟨_, rfl, ?_⟩; replace HB := hB hb; (try clear hb)) | ((with_reducible refine gC 28 rfl ?_); refine goesL1 (some 14) Tryd.func28 #[.string a0] rfl (map1 rfl) ?_; (with_reducible refine (text_Of.calls A5.out).mono ?_); rintro e w26 ⟨v280, v283, gb285, rfl, ho0, ho1, ⟨hx285_, hz285_⟩, hb⟩; refine ⟨_, rfl, ?_⟩; have HO281 := oL ho0; have HO284 := oL ho1; have BK285 := Aside0.mk hx285_; have GW285 := gZ hz285_; have GE285 := GW285; replace HB := hB hb; (try clear hb); (try clear ho0); (try clear ho1); (try clear hx285_ hz285_); obtain ⟨Ao27, co27, eo27⟩ := Kd.R_slice HO281.out; subst eo27; obtain ⟨Ao28, co28, eo28⟩ := Kd.R_slice HO284.out; subst eo28) | ((with_reducible refine gC 29 rfl ?_); refine goesL1 (some 17) Tryd.func29 #[.pointer (some ⟨gb285, 0, none⟩), .int .i64 a1] rfl (map2 rfl rfl) ?_; refine cm_ (text_Map_Is.calls sd_ sd_ sd_ sd_ sd_ A6.out) ?_; rintro e w' ⟨rfl, nd, rfl⟩; refine ⟨_, rfl, ?_⟩))
  go_ret2
  exact ⟨rr_, bl_⟩
 replace H := bindA H; obtain ⟨t287, A8, H⟩ := H; (try dsimp only at H); replace H := bindA H; obtain ⟨t288, A9, H⟩ := H; (try dsimp only at H); replace H := Aside0.mk H; go_enter Tryd.func68, Tryd.ntmps68
 go_wp2_with (first | ((with_reducible refine gC 27 rfl ?_); refine goesL1 (some 11) Tryd.func27 #[.string a0] rfl (map1 rfl) ?_; (with_reducible refine (text_May.calls ?side1 A3.out).mono ?_); (case side1 => exact Tabs.below HT.out bl_); rintro e w10 ⟨rfl, hb⟩; refine ⟨_, rfl, ?_⟩; replace HB := hB hb; (try clear hb)) | ((with_reducible refine gC 28 rfl ?_); refine goesL1 (some 14) Tryd.func28 #[.string a0] rfl (map1 rfl) ?_; (with_reducible refine (text_Of.calls A5.out).mono ?_); rintro e w11 ⟨v280, v283, gb285, rfl, ho0, ho1, ⟨hx285_, hz285_⟩, hb⟩; refine ⟨_, rfl, ?_⟩; have HO281 := oL ho0; have HO284 := oL ho1; have BK285 := Aside0.mk hx285_; have GW285 := gZ hz285_; have GE285 := GW285; replace HB := hB hb; (try clear hb); (try clear ho0); (try clear ho1); (try clear hx285_ hz285_); obtain ⟨Ao12, co12, eo12⟩ := Kd.R_slice HO281.out; subst eo12; obtain ⟨Ao13, co13, eo13⟩ := Kd.R_slice HO284.out; subst eo13) | ((with_reducible refine gC 29 rfl ?_); refine goesL1 (some 17) Tryd.func29 #[.pointer (some ⟨gb285, 0, none⟩), .int .i64 a1] rfl (map2 rfl rfl) ?_; refine cm_ (text_Map_Is.calls sd_ sd_ sd_ sd_ sd_ A6.out) ?_; rintro e w' ⟨rfl, nd, rfl⟩; refine ⟨_, rfl, ?_⟩) | ((with_reducible refine gC 49 rfl ?_); refine goesL1 (some 22) Tryd.func49 #[.pointer (some ⟨gb285, 0, none⟩), .int .i64 a1] rfl (map2 rfl rfl) ?_; refine cm_ (text_Map_Row.calls sd_ sd_ sd_ sd_ sd_ A8.out) ?_; rintro e w' ⟨rfl, nd, rfl⟩; refine ⟨_, rfl, ?_⟩) | ((with_reducible refine gC 50 rfl ?_); refine goesL1 (some 23) Tryd.func50 #[.pointer (some ⟨gb285, 0, none⟩), .int .i64 t287] rfl (map2 rfl rfl) ?_; refine cm_ (text_Map_End.calls sd_ sd_ sd_ sd_ sd_ A9.out) ?_; rintro e w' ⟨rfl, nd, rfl⟩; refine ⟨_, rfl, ?_⟩))
 go_loopg [1] k (fun kq v1 w' => ∃ (x1_1 : Int), v1 = .int .i64 x1_1 ∧ Aside0 (pairs_Move.l0 kq a0 x1_1 t288 t279 t282 = some (r1, r2)) ∧ Aside0 (kq ≤ k) ∧ Aside0 (Kd.R (Kd.int .i32) 21 w' w.heap.size (fun _ => True) (.slice Ao12 t279.length co12) t279) ∧ Aside0 (Kd.R (Kd.int .i64) 3 w' w.heap.size (fun _ => True) (.slice Ao13 t282.length co13) t282) ∧ Aside0 (w'.heap[gb285]? = some (.cells #[(.slice Ao12 t279.length co12), (.slice Ao13 t282.length co13)] 79 (0, 0))) ∧ Aside0 (Below w.heap.size w w'))
 case atStart => exact ⟨(a1), r3_, H, ⟨Nat.le_refl _⟩, ⟨ro_ HO281⟩, ⟨ro_ HO284⟩, ⟨BK285.out⟩, ⟨bl_⟩⟩
 case round =>
  clear H; obtain ⟨x1_1, rfl, HA, HK1, HO_286000, HO_286001, BK285, HB⟩ := hrel
  cases gk with
  | zero => exact absurd HA.out (by simp [pairs_Move.l0])
  | succ k1 =>
   obtain ⟨H⟩ := HA; simp only [pairs_Move.l0] at H; replace H := nfd H; obtain ⟨c14b0, H⟩ | ⟨c14b0, H⟩ := H
   ·
    replace H := so2 H; obtain ⟨rfl, rfl⟩ := H; go_wp2
    go_ret2
    exact ⟨rr_, bl_⟩
   replace H := ifq H; obtain ⟨c15b0, c16b0, H⟩ := H; replace H := bindA H; obtain ⟨⟨t290, t291⟩, A17, H⟩ := H; (try dsimp only at H); replace H := ife H; obtain ⟨c18b0, c18b1, H⟩ | ⟨c18b0, c18b1, H⟩ := H
   ·
    replace H := Aside0.mk H; have hcz19 := cs2 BK285.out; obtain ⟨p289, q289, ad289, e289, hx289_0⟩ := ix_ (Kd.at_int (Kd.R_reads' HO_286000.out).2.2 x1_1); cases e289
    go_wp2_with (first | ((with_reducible refine gC 93 rfl ?_); refine goesL1 (some 37) Tryd.func93 #[.int .i32 (rd t279 x1_1)] rfl (map1 rfl) ?_; (with_reducible refine (pairs_kind.calls A17.out).mono ?_); rintro e w20 ⟨rfl, hb⟩; refine ⟨_, rfl, ?_⟩; replace HO_286000 := Aside0.mk (Kd.R_below (ro_ HO_286000) hb); replace HO_286001 := Aside0.mk (Kd.R_below (ro_ HO_286001) hb); replace BK285 := blB hb BK285; replace HB := hB hb; (try clear hb)))
    go_roundg k1
    case measure => have := HK1.out; omega
    case rel => exact ⟨(wrap64 (x1_1 + 1)), r3_, H, ⟨by have := HK1.out; omega⟩, ⟨ro_ HO_286000⟩, ⟨ro_ HO_286001⟩, ⟨BK285.out⟩, ⟨bl_⟩⟩
   replace H := bindA H; obtain ⟨⟨t292, t293⟩, A21, H⟩ := H; (try dsimp only at H); replace H := so2 H; obtain ⟨rfl, rfl⟩ := H; have hcz22 := cs2 BK285.out; obtain ⟨p289, q289, ad289, e289, hx289_0⟩ := ix_ (Kd.at_int (Kd.R_reads' HO_286000.out).2.2 x1_1); cases e289
   go_wp2_with (first | ((with_reducible refine gC 93 rfl ?_); refine goesL1 (some 37) Tryd.func93 #[.int .i32 (rd t279 x1_1)] rfl (map1 rfl) ?_; (with_reducible refine (pairs_kind.calls A17.out).mono ?_); rintro e w23 ⟨rfl, hb⟩; refine ⟨_, rfl, ?_⟩; replace HO_286000 := Aside0.mk (Kd.R_below (ro_ HO_286000) hb); replace HO_286001 := Aside0.mk (Kd.R_below (ro_ HO_286001) hb); replace BK285 := blB hb BK285; replace HB := hB hb; (try clear hb)) | ((with_reducible refine gC 94 rfl ?_); refine goesL1 (some 44) Tryd.func94 #[.string a0, .int .i64 x1_1] rfl (map2 rfl rfl) ?_; (with_reducible refine (pairs_Mate.calls ?side1 A21.out).mono ?_); (case side1 => exact Tabs.below HT.out bl_); rintro e w24 ⟨rfl, hb⟩; refine ⟨_, rfl, ?_⟩; replace HO_286000 := Aside0.mk (Kd.R_below (ro_ HO_286000) hb); replace HO_286001 := Aside0.mk (Kd.R_below (ro_ HO_286001) hb); replace BK285 := blB hb BK285; replace HB := hB hb; (try clear hb)))
   go_ret2
   exact ⟨rr_, bl_⟩

/-! ### marks_Get_1: function 119 -/
def marks_Get_1.f (a0_0 : Int) (a0_1 : Int) (a1_0 : Int) : Option (Bool) := some (a0_0 == a1_0)
theorem marks_Get_1.calls {a0_0 : Int} {a0_1 : Int} {g1i : Nat} {a1_0 : Int} {r : Bool} {w : World} (hg1i : w.heap[g1i]? = some (.cells #[.int .i64 a1_0] 3 (0, 0))) (H : marks_Get_1.f a0_0 a0_1 a1_0 = some r) :
  Calls Tryd.prog 119 #[.agg #[.int .i64 a0_0, .int .i64 a0_1], .pointer (some ⟨g1i, 0, none⟩)] w fun e w' => e = .returned (.bool r) ∧ Below w.heap.size w w' := by
 have hu89 := Tryd.underlying89; have BK93001 := Aside0.mk hg1i; clear hg1i; have HB := Aside0.mk (Below.refl w.heap.size w); unfold marks_Get_1.f at H; obtain rfl := Option.some.inj H; go_enter Tryd.func119, Tryd.ntmps119
 go_wp2_with (first | ((with_reducible refine gN 2 rfl ?_); refine bx 2 #[.int .i64 a0_0, .int .i64 a0_1] 89 ?_; intro gb294 hg w3 hbox hb; have BK294 := Aside0.mk hbox; have GW294 := gE hg; have GE294 := GW294; have NB93001_294 := nbl hg BK93001.out; have NB294_93001 := nbr hg BK93001.out; replace BK93001 := blB hb BK93001; replace HB := hB hb; clear hb hbox hg; have hcz5 := cs2 BK294.out; have hcz6 := cs1 BK93001.out))
 go_ret
 exact ⟨rr_, bl_⟩

/-! ### api_Mark: function 118 -/
def api_Mark.l0 : Nat → List (S89) → Int → Int → Int → Option (Int)
  | 0, _, _, _, _ => none
  | k + 1, x0, x7, x8, v0 => if x8 < x7 then (if 0 ≤ x8 then (if x8 < (x0.length : Int) then ((marks_Get_1.f ((rd_T89 x0 x8).f0) ((rd_T89 x0 x8).f1) v0).bind fun t296 => (if t296 = true then (some x8) else (api_Mark.l0 k x0 x7 (wrap64 (x8 + 1)) v0))) else (none)) else (none)) else (some (-1))
def api_Mark.f (k : Nat) (l0 : List (S89)) (a1_0 : Int) : Option (Int) := api_Mark.l0 k l0 (l0.length : Int) 0 a1_0
theorem api_Mark.calls {k : Nat} {A0 : Option Addr} {c0 : Nat} {l0 : List (S89)} {g1i : Nat} {a1_0 : Int} {r : Int} {w : World} (hr0 : Kd.C k89 w A0 l0.length l0) (hc0 : l0.length ≤ c0) (hg1i : w.heap[g1i]? = some (.cells #[.int .i64 a1_0] 3 (0, 0))) (H : api_Mark.f k l0 a1_0 = some r) :
  Calls Tryd.prog 118 #[.slice A0 l0.length c0, .func (.func 119) #[] #[.pointer (some ⟨g1i, 0, none⟩)]] w fun e w' => e = .returned (.int .i64 r) ∧ Below w.heap.size w w' := by
 have hu89 := Tryd.underlying89; have BK93001 := Aside0.mk hg1i; clear hg1i; have HR0 := Aside0.mk hr0; have HC0 := Aside0.mk hc0; clear hr0 hc0; have HB := Aside0.mk (Below.refl w.heap.size w); unfold api_Mark.f at H; replace H := Aside0.mk H; go_enter Tryd.func118, Tryd.ntmps118
 go_wp2
 go_loopg [8] k (fun kq v8 w' => ∃ (x8_1 : Int), v8 = .int .i64 x8_1 ∧ Aside0 (api_Mark.l0 kq l0 (l0.length : Int) x8_1 a1_0 = some r) ∧ Aside0 (kq ≤ k) ∧ Aside0 (w'.heap[g1i]? = some (.cells #[.int .i64 a1_0] 3 (0, 0))) ∧ Aside0 (Below w.heap.size w w'))
 case atStart => exact ⟨(0), r3_, H, ⟨Nat.le_refl _⟩, ⟨BK93001.out⟩, ⟨bl_⟩⟩
 case round =>
  clear H; obtain ⟨x8_1, rfl, HA, HK1, BK93001, HB⟩ := hrel
  cases gk with
  | zero => exact absurd HA.out (by simp [api_Mark.l0])
  | succ k1 =>
   obtain ⟨H⟩ := HA; simp only [api_Mark.l0] at H; replace H := nfd H; obtain ⟨c3b0, H⟩ | ⟨c3b0, H⟩ := H
   ·
    obtain rfl := Option.some.inj H; go_wp2; go_ret
    exact ⟨rr_, bl_⟩
   replace H := ifq H; obtain ⟨c4b0, c5b0, H⟩ := H; replace H := bindA H; obtain ⟨t296, A6, H⟩ := H; (try dsimp only at H); replace H := ifb H; obtain ⟨rfl, H⟩ | ⟨rfl, H⟩ := H
   ·
    obtain rfl := Option.some.inj H; obtain ⟨p295, q295, ad295, e295, hx295_0, hx295_1⟩ := ix_ (at_T89 HR0.out x8_1); cases e295; replace hx295_0 := hb_ HB hx295_0; replace hx295_1 := hb_ HB hx295_1
    go_wp2_with (first | (go_at_call 119; (with_reducible refine (marks_Get_1.calls ?side1 A6.out).mono ?_); (case side1 => exact BK93001.out); rintro e w8 ⟨rfl, hb⟩; replace BK93001 := blB hb BK93001; replace HB := hB hb; (try clear hb)))
    go_ret
    exact ⟨rr_, bl_⟩
   replace H := Aside0.mk H; obtain ⟨p295, q295, ad295, e295, hx295_0, hx295_1⟩ := ix_ (at_T89 HR0.out x8_1); cases e295; replace hx295_0 := hb_ HB hx295_0; replace hx295_1 := hb_ HB hx295_1
   go_wp2_with (first | (go_at_call 119; (with_reducible refine (marks_Get_1.calls ?side1 A6.out).mono ?_); (case side1 => exact BK93001.out); rintro e w9 ⟨rfl, hb⟩; replace BK93001 := blB hb BK93001; replace HB := hB hb; (try clear hb)))
   go_roundg k1
   case measure => have := HK1.out; omega
   case rel => exact ⟨(wrap64 (x8_1 + 1)), r3_, H, ⟨by have := HK1.out; omega⟩, ⟨BK93001.out⟩, ⟨bl_⟩⟩

/-! ### marks_Get: function 95 -/
def marks_Get.f (k : Nat) (l0 : List (S89)) (a1 : Int) : Option (Int × Int) := (marks_May.f k l0).bind fun t298 => (if t298 = true then ((api_Mark.f k l0 a1).bind fun t299 => (if t299 ≥ 0 then (if 0 ≤ t299 then (if t299 < (l0.length : Int) then (some ((rd_T89 l0 t299).f1, 0)) else (none)) else (none)) else (some (0, 3)))) else (some (0, 1)))
theorem marks_Get.calls {k : Nat} {A0 : Option Addr} {c0 : Nat} {l0 : List (S89)} {a1 : Int} {r1 : Int} {r2 : Int} {w : World} (hr0 : Kd.C k89 w A0 l0.length l0) (hc0 : l0.length ≤ c0) (H : marks_Get.f k l0 a1 = some (r1, r2)) :
  Calls Tryd.prog 95 #[.slice A0 l0.length c0, .int .i64 a1] w fun e w' => e = .returned (.tuple #[.int .i64 r1, .int .i64 r2]) ∧ Below w.heap.size w w' := by
 have hu3 := Tryd.underlying3; have HR0 := Aside0.mk hr0; have HC0 := Aside0.mk hc0; clear hr0 hc0; have HB := Aside0.mk (Below.refl w.heap.size w); unfold marks_Get.f at H; replace H := bindA H; obtain ⟨t298, A3, H⟩ := H; (try dsimp only at H); replace H := nfb H; obtain ⟨rfl, H⟩ | ⟨rfl, H⟩ := H
 ·
  replace H := so2 H; obtain ⟨rfl, rfl⟩ := H; go_enter Tryd.func95, Tryd.ntmps95
  go_wp2_with (first | ((with_reducible refine gN 3 rfl ?_); refine bx 3 #[.int .i64 a1] 3 ?_; intro gb297 hg w15 hbox hb; have BK297 := Aside0.mk hbox; have GW297 := gE hg; have GE297 := GW297; replace HB := hB hb; clear hb hbox hg) | ((with_reducible refine gC 40 rfl ?_); refine goesL1 (some 8) Tryd.func40 #[.slice A0 l0.length c0] rfl (map1 rfl) ?_; refine cm_ (marks_May.calls sd_ sd_ A3.out) ?_; rintro e w16 ⟨rfl, hb⟩; refine ⟨_, rfl, ?_⟩; replace BK297 := blB hb BK297; replace HB := hB hb; (try clear hb)))
  go_ret2
  exact ⟨rr_, bl_⟩
 replace H := bindA H; obtain ⟨t299, A5, H⟩ := H; (try dsimp only at H); replace H := nfd H; obtain ⟨c6b0, H⟩ | ⟨c6b0, H⟩ := H
 ·
  replace H := so2 H; obtain ⟨rfl, rfl⟩ := H; go_enter Tryd.func95, Tryd.ntmps95
  go_wp2_with (first | ((with_reducible refine gN 3 rfl ?_); refine bx 3 #[.int .i64 a1] 3 ?_; intro gb297 hg w12 hbox hb; have BK297 := Aside0.mk hbox; have GW297 := gE hg; have GE297 := GW297; replace HB := hB hb; clear hb hbox hg) | ((with_reducible refine gC 40 rfl ?_); refine goesL1 (some 8) Tryd.func40 #[.slice A0 l0.length c0] rfl (map1 rfl) ?_; refine cm_ (marks_May.calls sd_ sd_ A3.out) ?_; rintro e w13 ⟨rfl, hb⟩; refine ⟨_, rfl, ?_⟩; replace BK297 := blB hb BK297; replace HB := hB hb; (try clear hb)) | ((with_reducible refine gC 118 rfl ?_); refine goesL1 (some 12) Tryd.func118 #[.slice A0 l0.length c0, .func (.func 119) #[] #[.pointer (some ⟨gb297, 0, none⟩)]] rfl (map2 rfl rfl) ?_; refine cm_ (api_Mark.calls sd_ sd_ sd_ A5.out) ?_; rintro e w14 ⟨rfl, hb⟩; refine ⟨_, rfl, ?_⟩; replace BK297 := blB hb BK297; replace HB := hB hb; (try clear hb)))
  go_ret2
  exact ⟨rr_, bl_⟩
 replace H := ifq H; obtain ⟨c7b0, c8b0, H⟩ := H; replace H := so2 H; obtain ⟨rfl, rfl⟩ := H; go_enter Tryd.func95, Tryd.ntmps95
 go_wp2_with (first | ((with_reducible refine gN 3 rfl ?_); refine bx 3 #[.int .i64 a1] 3 ?_; intro gb297 hg w9 hbox hb; have BK297 := Aside0.mk hbox; have GW297 := gE hg; have GE297 := GW297; replace HB := hB hb; clear hb hbox hg) | ((with_reducible refine gC 40 rfl ?_); refine goesL1 (some 8) Tryd.func40 #[.slice A0 l0.length c0] rfl (map1 rfl) ?_; refine cm_ (marks_May.calls sd_ sd_ A3.out) ?_; rintro e w10 ⟨rfl, hb⟩; refine ⟨_, rfl, ?_⟩; replace BK297 := blB hb BK297; replace HB := hB hb; (try clear hb)) | ((with_reducible refine gC 118 rfl ?_); refine goesL1 (some 12) Tryd.func118 #[.slice A0 l0.length c0, .func (.func 119) #[] #[.pointer (some ⟨gb297, 0, none⟩)]] rfl (map2 rfl rfl) ?_; refine cm_ (api_Mark.calls sd_ sd_ sd_ A5.out) ?_; rintro e w11 ⟨rfl, hb⟩; refine ⟨_, rfl, ?_⟩; replace BK297 := blB hb BK297; replace HB := hB hb; (try clear hb); obtain ⟨p300, q300, ad300, e300, hx300_0, hx300_1⟩ := ix_ (at_T89 HR0.out t299); cases e300; replace hx300_0 := hb_ HB hx300_0; replace hx300_1 := hb_ HB hx300_1))
 go_ret2
 exact ⟨rr_, bl_⟩

end Go.Proofs.YtbgmmcngkdhpcaaDoor.P
