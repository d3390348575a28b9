/- The walks of the functions that these statements reach: each Go function as a plain Lean function, and the proof that its call comes to that. Written by the session's program wip/pp.py. -/
import Derived.Test.YtbgmmcngkdhpcaaDoorP0
import Derived.Test.YtbgmmcngkdhpcaaDoorP4
import Derived.Test.YtbgmmcngkdhpcaaDoorP16
import Derived.Test.YtbgmmcngkdhpcaaDoorP17
namespace Go.Proofs.YtbgmmcngkdhpcaaDoor.P
open Go.Proofs.YtbgmmcngkdhpcaaDoor
open Go.RowKit Go.Proofs.YtbgmmcngkdhpcaaDoorW.PrintWords Go.Proofs.YtbgmmcngkdhpcaaDoorW.PrintLast Go.Proofs.YtbgmmcngkdhpcaaDoorW.PrintMore
attribute [local go_sem] cell_isSome max2_int min2_int max_two min_two max_three min_three max_four min_four   -- for this text's walks alone
set_option linter.unusedVariables false
set_option linter.unusedSimpArgs false
set_option maxHeartbeats 8000000
set_option maxRecDepth 100000

/-! ### quillref15_May: function 36 -/
def quillref15_May.f (k : Nat) (l0 : List Int) (a1 : Int) (a2_0 : Int) (a2_1 : Int) (a2_2 : Int) (a2_3 : Int) (a2_4 : Int) (a2_5 : Int) (a3_0 : Int) (a3_1 : Int) (l4 : List (S89)) : Option (Bool) := (quillref0_Num.f a1 (l0.length : Int)).bind fun t445 => (if t445 = true then ((quillref15_Is.f k a2_3).bind fun t446 => (if t446 = true then ((quillref0_Num.f a2_1 999).bind fun t447 => (if t447 = true then (if a3_0 = 0 then ((quillref6_Marks.f k l4).bind fun t448 => (some t448)) else ((quillref10_Seek.f k a3_0).bind fun t449 => (if t449 = true then ((quillref6_Marks.f k l4).bind fun t450 => (some t450)) else (some false)))) else (some false))) else (some false))) else (some false))
theorem quillref15_May.calls {k : Nat} {A0 : Option Addr} {c0 : Nat} {l0 : List Int} {a1 : Int} {a2_0 : Int} {a2_1 : Int} {a2_2 : Int} {a2_3 : Int} {a2_4 : Int} {a2_5 : Int} {a3_0 : Int} {a3_1 : Int} {A4 : Option Addr} {c4 : Nat} {l4 : List (S89)} {r : Bool} {w : World} (hr0 : Kd.C (Kd.int .i32) w A0 l0.length l0) (hc0 : l0.length ≤ c0) (hr4 : Kd.C k89 w A4 l4.length l4) (hc4 : l4.length ≤ c4) (H : quillref15_May.f k l0 a1 a2_0 a2_1 a2_2 a2_3 a2_4 a2_5 a3_0 a3_1 l4 = some r) :
  Calls Tryd.prog 36 #[.slice A0 l0.length c0, .int .i64 a1, .agg #[.int .i64 a2_0, .int .i64 a2_1, .int .i64 a2_2, .int .i64 a2_3, .int .i64 a2_4, .int .i64 a2_5], .agg #[.int .i64 a3_0, .int .i64 a3_1], .slice A4 l4.length c4] w fun e w' => e = .returned (.bool r) ∧ Below w.heap.size w w' := by
 have hu52 := Tryd.underlying52; have hu31 := Tryd.underlying31; have HR0 := Aside0.mk hr0; have HC0 := Aside0.mk hc0; clear hr0 hc0; have HR4 := Aside0.mk hr4; have HC4 := Aside0.mk hc4; clear hr4 hc4; have HB := Aside0.mk (Below.refl w.heap.size w); unfold quillref15_May.f at H; replace H := bindA H; obtain ⟨t445, A6, H⟩ := H; (try dsimp only at H); replace H := nfb H; obtain ⟨rfl, H⟩ | ⟨rfl, H⟩ := H
 ·
  obtain rfl := Option.some.inj H; go_enter Tryd.func36, Tryd.ntmps36
  go_wp2_with (first | ((with_reducible refine gN 7 rfl ?_); refine bx 7 #[.int .i64 a2_0, .int .i64 a2_1, .int .i64 a2_2, .int .i64 a2_3, .int .i64 a2_4, .int .i64 a2_5] 52 ?_; intro gb443 hg w53 hbox hb; have BK443 := Aside0.mk hbox; have GW443 := gE hg; have GE443 := GW443; replace HB := hB hb; clear hb hbox hg) | ((with_reducible refine gN 8 rfl ?_); refine bx 8 #[.int .i64 a3_0, .int .i64 a3_1] 31 ?_; intro gb444 hg w54 hbox hb; have BK444 := Aside0.mk hbox; have GW444 := gE hg; have GE444 := GW444; have NB443_444 := nbl hg BK443.out; have NB444_443 := nbr hg BK443.out; replace BK443 := blB hb BK443; replace HB := hB hb; clear hb hbox hg) | ((with_reducible refine gC 11 rfl ?_); refine goesL1 (some 14) Tryd.func11 #[.int .i64 a1, .int .i64 (l0.length : Int)] rfl (map2 rfl rfl) ?_; (with_reducible refine (quillref0_Num.calls A6.out).mono ?_); rintro e w' ⟨rfl, nd, rfl⟩; refine ⟨_, rfl, ?_⟩))
  go_ret
  exact ⟨rr_, bl_⟩
 replace H := bindA H; obtain ⟨t446, A8, H⟩ := H; (try dsimp only at H); replace H := nfb H; obtain ⟨rfl, H⟩ | ⟨rfl, H⟩ := H
 ·
  obtain rfl := Option.some.inj H; go_enter Tryd.func36, Tryd.ntmps36
  go_wp2_with (first | ((with_reducible refine gN 7 rfl ?_); refine bx 7 #[.int .i64 a2_0, .int .i64 a2_1, .int .i64 a2_2, .int .i64 a2_3, .int .i64 a2_4, .int .i64 a2_5] 52 ?_; intro gb443 hg w48 hbox hb; have BK443 := Aside0.mk hbox; have GW443 := gE hg; have GE443 := GW443; replace HB := hB hb; clear hb hbox hg) | ((with_reducible refine gN 8 rfl ?_); refine bx 8 #[.int .i64 a3_0, .int .i64 a3_1] 31 ?_; intro gb444 hg w49 hbox hb; have BK444 := Aside0.mk hbox; have GW444 := gE hg; have GE444 := GW444; have NB443_444 := nbl hg BK443.out; have NB444_443 := nbr hg BK443.out; replace BK443 := blB hb BK443; replace HB := hB hb; clear hb hbox hg) | ((with_reducible refine gC 11 rfl ?_); refine goesL1 (some 14) Tryd.func11 #[.int .i64 a1, .int .i64 (l0.length : Int)] rfl (map2 rfl rfl) ?_; (with_reducible refine (quillref0_Num.calls A6.out).mono ?_); rintro e w' ⟨rfl, nd, rfl⟩; refine ⟨_, rfl, ?_⟩; have hcz51 := cs6 BK443.out) | (go_at_call 22; (with_reducible refine (quillref15_Is.calls A8.out).mono ?_); rintro e w52 ⟨rfl, hb⟩; replace BK443 := blB hb BK443; replace BK444 := blB hb BK444; replace HB := hB hb; (try clear hb); (try clear hcz51)))
  go_ret
  exact ⟨rr_, bl_⟩
 replace H := bindA H; obtain ⟨t447, A10, H⟩ := H; (try dsimp only at H); replace H := nfb H; obtain ⟨rfl, H⟩ | ⟨rfl, H⟩ := H
 ·
  obtain rfl := Option.some.inj H; go_enter Tryd.func36, Tryd.ntmps36
  go_wp2_with (first | ((with_reducible refine gN 7 rfl ?_); refine bx 7 #[.int .i64 a2_0, .int .i64 a2_1, .int .i64 a2_2, .int .i64 a2_3, .int .i64 a2_4, .int .i64 a2_5] 52 ?_; intro gb443 hg w42 hbox hb; have BK443 := Aside0.mk hbox; have GW443 := gE hg; have GE443 := GW443; replace HB := hB hb; clear hb hbox hg) | ((with_reducible refine gN 8 rfl ?_); refine bx 8 #[.int .i64 a3_0, .int .i64 a3_1] 31 ?_; intro gb444 hg w43 hbox hb; have BK444 := Aside0.mk hbox; have GW444 := gE hg; have GE444 := GW444; have NB443_444 := nbl hg BK443.out; have NB444_443 := nbr hg BK443.out; replace BK443 := blB hb BK443; replace HB := hB hb; clear hb hbox hg) | ((with_reducible refine gC 11 rfl ?_); refine goesL1 (some 14) Tryd.func11 #[.int .i64 a1, .int .i64 (l0.length : Int)] rfl (map2 rfl rfl) ?_; (with_reducible refine (quillref0_Num.calls A6.out).mono ?_); rintro e w' ⟨rfl, nd, rfl⟩; refine ⟨_, rfl, ?_⟩; have hcz45 := cs6 BK443.out) | (go_at_call 22; (with_reducible refine (quillref15_Is.calls A8.out).mono ?_); rintro e w46 ⟨rfl, hb⟩; replace BK443 := blB hb BK443; replace BK444 := blB hb BK444; replace HB := hB hb; (try clear hb); have hcz47 := cs6 BK443.out; (try clear hcz45)) | (go_at_call 11; (with_reducible refine (quillref0_Num.calls A10.out).mono ?_); rintro e w' ⟨rfl, nd, rfl⟩))
  go_ret
  exact ⟨rr_, bl_⟩
 replace H := ife H; obtain ⟨c12b0, c12b1, H⟩ | ⟨c12b0, c12b1, H⟩ := H
 ·
  replace H := bindA H; obtain ⟨t448, A13, H⟩ := H; (try dsimp only at H); obtain rfl := Option.some.inj H; go_enter Tryd.func36, Tryd.ntmps36
  go_wp2_with (first | ((with_reducible refine gN 7 rfl ?_); refine bx 7 #[.int .i64 a2_0, .int .i64 a2_1, .int .i64 a2_2, .int .i64 a2_3, .int .i64 a2_4, .int .i64 a2_5] 52 ?_; intro gb443 hg w14 hbox hb; have BK443 := Aside0.mk hbox; have GW443 := gE hg; have GE443 := GW443; replace HB := hB hb; clear hb hbox hg) | ((with_reducible refine gN 8 rfl ?_); refine bx 8 #[.int .i64 a3_0, .int .i64 a3_1] 31 ?_; intro gb444 hg w15 hbox hb; have BK444 := Aside0.mk hbox; have GW444 := gE hg; have GE444 := GW444; have NB443_444 := nbl hg BK443.out; have NB444_443 := nbr hg BK443.out; replace BK443 := blB hb BK443; replace HB := hB hb; clear hb hbox hg) | ((with_reducible refine gC 11 rfl ?_); refine goesL1 (some 14) Tryd.func11 #[.int .i64 a1, .int .i64 (l0.length : Int)] rfl (map2 rfl rfl) ?_; (with_reducible refine (quillref0_Num.calls A6.out).mono ?_); rintro e w' ⟨rfl, nd, rfl⟩; refine ⟨_, rfl, ?_⟩; have hcz17 := cs6 BK443.out) | (go_at_call 22; (with_reducible refine (quillref15_Is.calls A8.out).mono ?_); rintro e w18 ⟨rfl, hb⟩; replace BK443 := blB hb BK443; replace BK444 := blB hb BK444; replace HB := hB hb; (try clear hb); have hcz19 := cs6 BK443.out; (try clear hcz17)) | (go_at_call 11; (with_reducible refine (quillref0_Num.calls A10.out).mono ?_); rintro e w' ⟨rfl, nd, rfl⟩; have hcz20 := cs2 BK444.out) | (go_at_call 55; refine cm_ (quillref6_Marks.calls sd_ sd_ A13.out) ?_; rintro e w21 ⟨rfl, hb⟩; replace BK443 := blB hb BK443; replace BK444 := blB hb BK444; replace HB := hB hb; (try clear hb); (try clear hcz19); (try clear hcz20)))
  go_ret
  exact ⟨rr_, bl_⟩
 replace H := bindA H; obtain ⟨t449, A22, H⟩ := H; (try dsimp only at H); replace H := nfb H; obtain ⟨rfl, H⟩ | ⟨rfl, H⟩ := H
 ·
  obtain rfl := Option.some.inj H; go_enter Tryd.func36, Tryd.ntmps36
  go_wp2_with (first | ((with_reducible refine gN 7 rfl ?_); refine bx 7 #[.int .i64 a2_0, .int .i64 a2_1, .int .i64 a2_2, .int .i64 a2_3, .int .i64 a2_4, .int .i64 a2_5] 52 ?_; intro gb443 hg w34 hbox hb; have BK443 := Aside0.mk hbox; have GW443 := gE hg; have GE443 := GW443; replace HB := hB hb; clear hb hbox hg) | ((with_reducible refine gN 8 rfl ?_); refine bx 8 #[.int .i64 a3_0, .int .i64 a3_1] 31 ?_; intro gb444 hg w35 hbox hb; have BK444 := Aside0.mk hbox; have GW444 := gE hg; have GE444 := GW444; have NB443_444 := nbl hg BK443.out; have NB444_443 := nbr hg BK443.out; replace BK443 := blB hb BK443; replace HB := hB hb; clear hb hbox hg) | ((with_reducible refine gC 11 rfl ?_); refine goesL1 (some 14) Tryd.func11 #[.int .i64 a1, .int .i64 (l0.length : Int)] rfl (map2 rfl rfl) ?_; (with_reducible refine (quillref0_Num.calls A6.out).mono ?_); rintro e w' ⟨rfl, nd, rfl⟩; refine ⟨_, rfl, ?_⟩; have hcz37 := cs6 BK443.out) | (go_at_call 22; (with_reducible refine (quillref15_Is.calls A8.out).mono ?_); rintro e w38 ⟨rfl, hb⟩; replace BK443 := blB hb BK443; replace BK444 := blB hb BK444; replace HB := hB hb; (try clear hb); have hcz39 := cs6 BK443.out; (try clear hcz37)) | (go_at_call 11; (with_reducible refine (quillref0_Num.calls A10.out).mono ?_); rintro e w' ⟨rfl, nd, rfl⟩; have hcz40 := cs2 BK444.out) | (go_at_call 46; (with_reducible refine (quillref10_Seek.calls A22.out).mono ?_); rintro e w41 ⟨rfl, hb⟩; replace BK443 := blB hb BK443; replace BK444 := blB hb BK444; replace HB := hB hb; (try clear hb); (try clear hcz39); (try clear hcz40)))
  go_ret
  exact ⟨rr_, bl_⟩
 replace H := bindA H; obtain ⟨t450, A24, H⟩ := H; (try dsimp only at H); obtain rfl := Option.some.inj H; go_enter Tryd.func36, Tryd.ntmps36
 go_wp2_with (first | ((with_reducible refine gN 7 rfl ?_); refine bx 7 #[.int .i64 a2_0, .int .i64 a2_1, .int .i64 a2_2, .int .i64 a2_3, .int .i64 a2_4, .int .i64 a2_5] 52 ?_; intro gb443 hg w25 hbox hb; have BK443 := Aside0.mk hbox; have GW443 := gE hg; have GE443 := GW443; replace HB := hB hb; clear hb hbox hg) | ((with_reducible refine gN 8 rfl ?_); refine bx 8 #[.int .i64 a3_0, .int .i64 a3_1] 31 ?_; intro gb444 hg w26 hbox hb; have BK444 := Aside0.mk hbox; have GW444 := gE hg; have GE444 := GW444; have NB443_444 := nbl hg BK443.out; have NB444_443 := nbr hg BK443.out; replace BK443 := blB hb BK443; replace HB := hB hb; clear hb hbox hg) | ((with_reducible refine gC 11 rfl ?_); refine goesL1 (some 14) Tryd.func11 #[.int .i64 a1, .int .i64 (l0.length : Int)] rfl (map2 rfl rfl) ?_; (with_reducible refine (quillref0_Num.calls A6.out).mono ?_); rintro e w' ⟨rfl, nd, rfl⟩; refine ⟨_, rfl, ?_⟩; have hcz28 := cs6 BK443.out) | (go_at_call 22; (with_reducible refine (quillref15_Is.calls A8.out).mono ?_); rintro e w29 ⟨rfl, hb⟩; replace BK443 := blB hb BK443; replace BK444 := blB hb BK444; replace HB := hB hb; (try clear hb); have hcz30 := cs6 BK443.out; (try clear hcz28)) | (go_at_call 11; (with_reducible refine (quillref0_Num.calls A10.out).mono ?_); rintro e w' ⟨rfl, nd, rfl⟩; have hcz31 := cs2 BK444.out) | (go_at_call 46; (with_reducible refine (quillref10_Seek.calls A22.out).mono ?_); rintro e w32 ⟨rfl, hb⟩; replace BK443 := blB hb BK443; replace BK444 := blB hb BK444; replace HB := hB hb; (try clear hb); (try clear hcz30); (try clear hcz31)) | (go_at_call 55; refine cm_ (quillref6_Marks.calls sd_ sd_ A24.out) ?_; rintro e w33 ⟨rfl, hb⟩; replace BK443 := blB hb BK443; replace BK444 := blB hb BK444; replace HB := hB hb; (try clear hb)))
 go_ret
 exact ⟨rr_, bl_⟩

/-! ### quillref10_Turned: function 20 -/
def quillref10_Turned.f (a0 : Int) : Option (Int) := if a0 < 97 then (some (wrap64 ((wrap64 (a0 + 97)) - 65))) else (some (wrap64 ((wrap64 (a0 - 97)) + 65)))
theorem quillref10_Turned.calls {a0 : Int} {r : Int} {w : World} (H : quillref10_Turned.f a0 = some r) :
  Calls Tryd.prog 20 #[.int .i64 a0] w fun e w' => e = .returned (.int .i64 r) ∧ Drawn0 w w' := by
 unfold quillref10_Turned.f at H; replace H := ifd H; obtain ⟨c2b0, H⟩ | ⟨c2b0, H⟩ := H
 ·
  obtain rfl := Option.some.inj H; go_enter Tryd.func20, Tryd.ntmps20
  go_wp2; go_ret
  exact ⟨r3_, dr_⟩
 obtain rfl := Option.some.inj H; go_enter Tryd.func20, Tryd.ntmps20
 go_wp2; go_ret
 exact ⟨r3_, dr_⟩

/-! ### quillref1_Begin: function 32 -/
def quillref1_Begin.l0 : Nat → List Int → Int → Option (Int)
  | 0, _, _ => none
  | k + 1, x0, x1 => if x1 > 0 then (if 0 ≤ (wrap64 (x1 - 1)) then (if (wrap64 (x1 - 1)) < (x0.length : Int) then (if (rd x0 (wrap64 (x1 - 1))) = 10 then (some x1) else (quillref1_Begin.l0 k x0 (wrap64 (x1 - 1)))) else (none)) else (none)) else (some x1)
def quillref1_Begin.f (k : Nat) (l0 : List Int) (a1 : Int) : Option (Int) := quillref1_Begin.l0 k l0 a1
theorem quillref1_Begin.calls {k : Nat} {A0 : Option Addr} {c0 : Nat} {l0 : List Int} {a1 : Int} {r : Int} {w : World} (hr0 : Kd.C (Kd.int .i32) w A0 l0.length l0) (hc0 : l0.length ≤ c0) (H : quillref1_Begin.f k l0 a1 = some r) :
  Calls Tryd.prog 32 #[.slice A0 l0.length c0, .int .i64 a1] w fun e w' => e = .returned (.int .i64 r) ∧ Drawn0 w w' := by
 have HR0 := Aside0.mk hr0; have HC0 := Aside0.mk hc0; clear hr0 hc0; unfold quillref1_Begin.f at H; replace H := Aside0.mk H; go_enter Tryd.func32, Tryd.ntmps32
 go_wp2
 go_loopg [1] k (fun kq v1 w' => ∃ (x1_1 : Int), v1 = .int .i64 x1_1 ∧ Aside0 (quillref1_Begin.l0 kq l0 x1_1 = some r) ∧ Aside0 (kq ≤ k) ∧ Drawn0 w w')
 case atStart => exact ⟨(a1), r3_, H, ⟨Nat.le_refl _⟩, dr_⟩
 case round =>
  clear H; obtain ⟨x1_1, rfl, HA, HK1, ⟨m1, rfl⟩⟩ := hrel
  cases gk with
  | zero => exact absurd HA.out (by simp [quillref1_Begin.l0])
  | succ k1 =>
   obtain ⟨H⟩ := HA; simp only [quillref1_Begin.l0] at H; replace H := nfd H; obtain ⟨c3b0, H⟩ | ⟨c3b0, H⟩ := H
   ·
    obtain rfl := Option.some.inj H; go_wp2; go_ret
    exact ⟨r3_, dr_⟩
   obtain ⟨ji4, hji4⟩ : ∃ j_ : Int, (wrap64 (x1_1 - 1)) = j_ := ⟨_, rfl⟩; (first | rw [hji4] at H | simp only [hji4] at H)
   have hji4w : (IntKind.i64.wrap (x1_1 - 1)) = ji4 := (i64_w _).trans hji4
   replace H := ifq H; obtain ⟨c5b0, c6b0, H⟩ := H; replace H := ife H; obtain ⟨c7b0, c7b1, H⟩ | ⟨c7b0, c7b1, H⟩ := H
   ·
    obtain rfl := Option.some.inj H; obtain ⟨p451, q451, ad451, e451, hx451_0⟩ := ix_ (Kd.at_int HR0.out (ji4)); cases e451; go_wp2; go_ret
    exact ⟨by first | rfl | (simp; done) | (simp only [← hji4] <;> (first | rfl | simp)) | (simp [*]; done), dr_⟩
   replace H := Aside0.mk H; obtain ⟨p451, q451, ad451, e451, hx451_0⟩ := ix_ (Kd.at_int HR0.out (ji4)); cases e451; go_wp2
   go_roundg k1
   case measure => have := HK1.out; omega
   case rel => exact ⟨(ji4), (by first | rfl | (simp; done) | (simp only [← hji4] <;> (first | rfl | simp)) | (simp [*]; done)), H, ⟨by have := HK1.out; omega⟩, dr_⟩

/-! ### quillref1_Class: function 87 -/
def quillref1_Class.j0 : Nat → Int → Bool → Option (Int)
  | 0, _, _ => none
  | k + 1, x0, x3 => if x3 = true then (some 0) else (if x0 ≥ 97 then (if x0 ≤ 122 then (some 1) else (if x0 ≥ 65 then (if x0 ≤ 90 then (some 1) else (if x0 ≥ 48 then (if x0 ≤ 57 then (some 1) else (if x0 = 95 then (some 1) else (if x0 ≥ 128 then (some 1) else (some 2)))) else (if x0 = 95 then (some 1) else (if x0 ≥ 128 then (some 1) else (some 2))))) else (if x0 ≥ 48 then (if x0 ≤ 57 then (some 1) else (if x0 = 95 then (some 1) else (if x0 ≥ 128 then (some 1) else (some 2)))) else (if x0 = 95 then (some 1) else (if x0 ≥ 128 then (some 1) else (some 2)))))) else (if x0 ≥ 65 then (if x0 ≤ 90 then (some 1) else (if x0 ≥ 48 then (if x0 ≤ 57 then (some 1) else (if x0 = 95 then (some 1) else (if x0 ≥ 128 then (some 1) else (some 2)))) else (if x0 = 95 then (some 1) else (if x0 ≥ 128 then (some 1) else (some 2))))) else (if x0 ≥ 48 then (if x0 ≤ 57 then (some 1) else (if x0 = 95 then (some 1) else (if x0 ≥ 128 then (some 1) else (some 2)))) else (if x0 = 95 then (some 1) else (if x0 ≥ 128 then (some 1) else (some 2))))))
def quillref1_Class.f (k : Nat) (a0 : Int) : Option (Int) := if a0 = 32 then (quillref1_Class.j0 k a0 true) else (quillref1_Class.j0 k a0 (a0 == 9))
theorem quillref1_Class.calls {k : Nat} {a0 : Int} {r : Int} {w : World} (H : quillref1_Class.f k a0 = some r) :
  Calls Tryd.prog 87 #[.int .i64 a0] w fun e w' => e = .returned (.int .i64 r) ∧ Drawn0 w w' := by
 unfold quillref1_Class.f at H; have HC2 := Aside0.mk H; clear H; go_enter Tryd.func87, Tryd.ntmps87
 go_upto_region 1 with (fail)
 go_cut [3] (fun v3 wc => ∃ (kq : Nat) (x3_1 : Bool), v3 = .bool x3_1 ∧ Aside0 (quillref1_Class.j0 kq a0 x3_1 = some r) ∧ Aside0 (kq ≤ k) ∧ Drawn0 w wc)
 case first =>
  obtain ⟨H⟩ := HC2; replace H := nfe H; obtain ⟨c3b0, c3b1, H⟩ | ⟨c3b0, c3b1, H⟩ := H
  ·
   (first | rw [c3b0] | (simp only [i64_w, i32_w]; rw [c3b0]) | skip); replace H := Aside0.mk H; go_wp2; go_meet
   case rel => exact ⟨_, ((a0 == 9)), r3_, H, ⟨ol_⟩, dr_⟩
  (first | rw [c3b0] | (simp only [i64_w, i32_w]; rw [c3b0]) | skip); replace H := Aside0.mk H; go_wp2; go_meet
  case rel => exact ⟨_, (true), r3_, H, ⟨ol_⟩, dr_⟩
 case rest =>
  clear HC2; obtain ⟨kq, x3_1, rfl, HA, HJ1, ⟨mc1, rfl⟩⟩ := hcut
  cases kq with
  | zero => exact absurd HA.out (by simp [quillref1_Class.j0])
  | succ kj1 =>
   obtain ⟨H⟩ := HA; simp only [quillref1_Class.j0] at H; replace H := ifb H; obtain ⟨rfl, H⟩ | ⟨rfl, H⟩ := H
   ·
    obtain rfl := Option.some.inj H; go_wp2; go_ret
    exact ⟨r3_, dr_⟩
   replace H := nfd H; obtain ⟨c5b0, H⟩ | ⟨c5b0, H⟩ := H
   ·
    replace H := nfd H; obtain ⟨c21b0, H⟩ | ⟨c21b0, H⟩ := H
    ·
     replace H := nfd H; obtain ⟨c29b0, H⟩ | ⟨c29b0, H⟩ := H
     ·
      replace H := ife H; obtain ⟨c33b0, c33b1, H⟩ | ⟨c33b0, c33b1, H⟩ := H
      ·
       obtain rfl := Option.some.inj H; go_wp2; go_ret
       exact ⟨r3_, dr_⟩
      replace H := ifd H; obtain ⟨c34b0, H⟩ | ⟨c34b0, H⟩ := H
      ·
       obtain rfl := Option.some.inj H; go_wp2; go_ret
       exact ⟨r3_, dr_⟩
      obtain rfl := Option.some.inj H; go_wp2; go_ret
      exact ⟨r3_, dr_⟩
     replace H := ifd H; obtain ⟨c30b0, H⟩ | ⟨c30b0, H⟩ := H
     ·
      obtain rfl := Option.some.inj H; go_wp2; go_ret
      exact ⟨r3_, dr_⟩
     replace H := ife H; obtain ⟨c31b0, c31b1, H⟩ | ⟨c31b0, c31b1, H⟩ := H
     ·
      obtain rfl := Option.some.inj H; go_wp2; go_ret
      exact ⟨r3_, dr_⟩
     replace H := ifd H; obtain ⟨c32b0, H⟩ | ⟨c32b0, H⟩ := H
     ·
      obtain rfl := Option.some.inj H; go_wp2; go_ret
      exact ⟨r3_, dr_⟩
     obtain rfl := Option.some.inj H; go_wp2; go_ret
     exact ⟨r3_, dr_⟩
    replace H := ifd H; obtain ⟨c22b0, H⟩ | ⟨c22b0, H⟩ := H
    ·
     obtain rfl := Option.some.inj H; go_wp2; go_ret
     exact ⟨r3_, dr_⟩
    replace H := nfd H; obtain ⟨c23b0, H⟩ | ⟨c23b0, H⟩ := H
    ·
     replace H := ife H; obtain ⟨c27b0, c27b1, H⟩ | ⟨c27b0, c27b1, H⟩ := H
     ·
      obtain rfl := Option.some.inj H; go_wp2; go_ret
      exact ⟨r3_, dr_⟩
     replace H := ifd H; obtain ⟨c28b0, H⟩ | ⟨c28b0, H⟩ := H
     ·
      obtain rfl := Option.some.inj H; go_wp2; go_ret
      exact ⟨r3_, dr_⟩
     obtain rfl := Option.some.inj H; go_wp2; go_ret
     exact ⟨r3_, dr_⟩
    replace H := ifd H; obtain ⟨c24b0, H⟩ | ⟨c24b0, H⟩ := H
    ·
     obtain rfl := Option.some.inj H; go_wp2; go_ret
     exact ⟨r3_, dr_⟩
    replace H := ife H; obtain ⟨c25b0, c25b1, H⟩ | ⟨c25b0, c25b1, H⟩ := H
    ·
     obtain rfl := Option.some.inj H; go_wp2; go_ret
     exact ⟨r3_, dr_⟩
    replace H := ifd H; obtain ⟨c26b0, H⟩ | ⟨c26b0, H⟩ := H
    ·
     obtain rfl := Option.some.inj H; go_wp2; go_ret
     exact ⟨r3_, dr_⟩
    obtain rfl := Option.some.inj H; go_wp2; go_ret
    exact ⟨r3_, dr_⟩
   replace H := ifd H; obtain ⟨c6b0, H⟩ | ⟨c6b0, H⟩ := H
   ·
    obtain rfl := Option.some.inj H; go_wp2; go_ret
    exact ⟨r3_, dr_⟩
   replace H := nfd H; obtain ⟨c7b0, H⟩ | ⟨c7b0, H⟩ := H
   ·
    replace H := nfd H; obtain ⟨c15b0, H⟩ | ⟨c15b0, H⟩ := H
    ·
     replace H := ife H; obtain ⟨c19b0, c19b1, H⟩ | ⟨c19b0, c19b1, H⟩ := H
     ·
      obtain rfl := Option.some.inj H; go_wp2; go_ret
      exact ⟨r3_, dr_⟩
     replace H := ifd H; obtain ⟨c20b0, H⟩ | ⟨c20b0, H⟩ := H
     ·
      obtain rfl := Option.some.inj H; go_wp2; go_ret
      exact ⟨r3_, dr_⟩
     obtain rfl := Option.some.inj H; go_wp2; go_ret
     exact ⟨r3_, dr_⟩
    replace H := ifd H; obtain ⟨c16b0, H⟩ | ⟨c16b0, H⟩ := H
    ·
     obtain rfl := Option.some.inj H; go_wp2; go_ret
     exact ⟨r3_, dr_⟩
    replace H := ife H; obtain ⟨c17b0, c17b1, H⟩ | ⟨c17b0, c17b1, H⟩ := H
    ·
     obtain rfl := Option.some.inj H; go_wp2; go_ret
     exact ⟨r3_, dr_⟩
    replace H := ifd H; obtain ⟨c18b0, H⟩ | ⟨c18b0, H⟩ := H
    ·
     obtain rfl := Option.some.inj H; go_wp2; go_ret
     exact ⟨r3_, dr_⟩
    obtain rfl := Option.some.inj H; go_wp2; go_ret
    exact ⟨r3_, dr_⟩
   replace H := ifd H; obtain ⟨c8b0, H⟩ | ⟨c8b0, H⟩ := H
   ·
    obtain rfl := Option.some.inj H; go_wp2; go_ret
    exact ⟨r3_, dr_⟩
   replace H := nfd H; obtain ⟨c9b0, H⟩ | ⟨c9b0, H⟩ := H
   ·
    replace H := ife H; obtain ⟨c13b0, c13b1, H⟩ | ⟨c13b0, c13b1, H⟩ := H
    ·
     obtain rfl := Option.some.inj H; go_wp2; go_ret
     exact ⟨r3_, dr_⟩
    replace H := ifd H; obtain ⟨c14b0, H⟩ | ⟨c14b0, H⟩ := H
    ·
     obtain rfl := Option.some.inj H; go_wp2; go_ret
     exact ⟨r3_, dr_⟩
    obtain rfl := Option.some.inj H; go_wp2; go_ret
    exact ⟨r3_, dr_⟩
   replace H := ifd H; obtain ⟨c10b0, H⟩ | ⟨c10b0, H⟩ := H
   ·
    obtain rfl := Option.some.inj H; go_wp2; go_ret
    exact ⟨r3_, dr_⟩
   replace H := ife H; obtain ⟨c11b0, c11b1, H⟩ | ⟨c11b0, c11b1, H⟩ := H
   ·
    obtain rfl := Option.some.inj H; go_wp2; go_ret
    exact ⟨r3_, dr_⟩
   replace H := ifd H; obtain ⟨c12b0, H⟩ | ⟨c12b0, H⟩ := H
   ·
    obtain rfl := Option.some.inj H; go_wp2; go_ret
    exact ⟨r3_, dr_⟩
   obtain rfl := Option.some.inj H; go_wp2; go_ret
   exact ⟨r3_, dr_⟩

end Go.Proofs.YtbgmmcngkdhpcaaDoor.P
