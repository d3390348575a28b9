/- The walks of the functions that these statements reach: each Go function as a plain Lean function, and the proof that its call comes to that. Written by the session's program wip/pp.py. -/
import Derived.Test.YtbgmmcngkdhpcaaDoorP0
import Derived.Test.YtbgmmcngkdhpcaaDoorP4
import Derived.Test.YtbgmmcngkdhpcaaDoorP6
import Derived.Test.YtbgmmcngkdhpcaaDoorP8
import Derived.Test.YtbgmmcngkdhpcaaDoorP9
namespace Go.Proofs.YtbgmmcngkdhpcaaDoor.P
open Go.Proofs.YtbgmmcngkdhpcaaDoor
open Go.RowKit Go.Proofs.YtbgmmcngkdhpcaaDoorW.PrintWords Go.Proofs.YtbgmmcngkdhpcaaDoorW.PrintLast Go.Proofs.YtbgmmcngkdhpcaaDoorW.PrintMore
attribute [local go_sem] cell_isSome max2_int min2_int max_two min_two max_three min_three max_four min_four   -- for this text's walks alone
set_option linter.unusedVariables false
set_option linter.unusedSimpArgs false
set_option maxHeartbeats 8000000
set_option maxRecDepth 100000

/-! ### paras_down: function 91 -/
def paras_down.l0 : Nat → Int → List Int → List Int → Option (Int)
  | 0, _, _, _ => none
  | k + 1, x5, v0, v1 => (text_Map_Rows.f v0 v1).bind fun t229 => (if x5 < t229 then (if 0 ≤ x5 then (if x5 < (v1.length : Int) then ((text_Map_End.f v0 v1 x5).bind fun t231 => (if (rd v1 x5) = t231 then (if 0 ≤ (wrap64 (x5 - 1)) then (if (wrap64 (x5 - 1)) < (v1.length : Int) then ((text_Map_End.f v0 v1 (wrap64 (x5 - 1))).bind fun t233 => (if (rd v1 (wrap64 (x5 - 1))) < t233 then (some (rd v1 x5)) else (paras_down.l0 k (wrap64 (x5 + 1)) v0 v1))) else (none)) else (none)) else (paras_down.l0 k (wrap64 (x5 + 1)) v0 v1))) else (none)) else (none)) else (some (v0.length : Int)))
def paras_down.f (k : Nat) (l0_0 : List Int) (l0_1 : List Int) (a1 : Int) : Option (Int) := (text_Map_Row.f k l0_0 l0_1 a1).bind fun t228 => (paras_down.l0 k (wrap64 (t228 + 1)) l0_0 l0_1)
theorem paras_down.calls {k : Nat} {g0 : Nat} {A0_0 : Option Addr} {c0_0 : Nat} {l0_0 : List Int} {A0_1 : Option Addr} {c0_1 : Nat} {l0_1 : List Int} {a1 : Int} {r : Int} {w : World} (hg0 : w.heap[g0]? = some (.cells #[.slice A0_0 l0_0.length c0_0, .slice A0_1 l0_1.length c0_1] 79 (0, 0))) (hr0_0 : Kd.C (Kd.int .i32) w A0_0 l0_0.length l0_0) (hc0_0 : l0_0.length ≤ c0_0) (hr0_1 : Kd.C (Kd.int .i64) w A0_1 l0_1.length l0_1) (hc0_1 : l0_1.length ≤ c0_1) (H : paras_down.f k l0_0 l0_1 a1 = some r) :
  Calls Tryd.prog 91 #[.pointer (some ⟨g0, 0, none⟩), .int .i64 a1] w fun e w' => e = .returned (.int .i64 r) ∧ Drawn0 w w' := by
 have BK0 := Aside0.mk hg0; clear hg0; have HR0_0 := Aside0.mk hr0_0; have HC0_0 := Aside0.mk hc0_0; clear hr0_0 hc0_0; have HR0_1 := Aside0.mk hr0_1; have HC0_1 := Aside0.mk hc0_1; clear hr0_1 hc0_1; unfold paras_down.f at H; replace H := bindA H; obtain ⟨t228, A3, H⟩ := H; (try dsimp only at H); replace H := Aside0.mk H; go_enter Tryd.func91, Tryd.ntmps91
 go_wp2_with (first | (go_at_call 49; refine cm_ (text_Map_Row.calls sd_ sd_ sd_ sd_ sd_ A3.out) ?_; rintro e w' ⟨rfl, nd, rfl⟩; (try first | exact ⟨rfl, _, World.drewN_drewN _ _ _⟩ | exact ⟨rfl, _, Eq.trans (World.drewN_drewN _ _ _) (congrArg (World.drewN _) (Nat.add_assoc _ _ _))⟩)))
 go_loopg [5] k (fun kq v5 w' => ∃ (x5_1 : Int), v5 = .int .i64 x5_1 ∧ Aside0 (paras_down.l0 kq x5_1 l0_0 l0_1 = some r) ∧ Aside0 (kq ≤ k) ∧ Aside0 (w'.heap[g0]? = some (.cells #[(.slice A0_0 l0_0.length c0_0), (.slice A0_1 l0_1.length c0_1)] 79 (0, 0))) ∧ Drawn0 w w')
 case atStart => exact ⟨(wrap64 (t228 + 1)), r3_, H, ⟨Nat.le_refl _⟩, ⟨BK0.out⟩, dr_⟩
 case round =>
  clear H; obtain ⟨x5_1, rfl, HA, HK1, BK0, ⟨m1, rfl⟩⟩ := hrel; simp only [World.heap_drewN] at BK0
  cases gk with
  | zero => exact absurd HA.out (by simp [paras_down.l0])
  | succ k1 =>
   obtain ⟨H⟩ := HA; simp only [paras_down.l0] at H; replace H := bindA H; obtain ⟨t229, A4, H⟩ := H; (try dsimp only at H); replace H := nfd H; obtain ⟨c5b0, H⟩ | ⟨c5b0, H⟩ := H
   ·
    obtain rfl := Option.some.inj H
    go_wp2_with (first | (go_at_call 80; refine cm_ (text_Map_Rows.calls sd_ sd_ sd_ sd_ sd_ A4.out) ?_; rintro e w' ⟨rfl, nd, rfl⟩; (try first | exact ⟨rfl, _, World.drewN_drewN _ _ _⟩ | exact ⟨rfl, _, Eq.trans (World.drewN_drewN _ _ _) (congrArg (World.drewN _) (Nat.add_assoc _ _ _))⟩); have hcz18 := cs2 BK0.out))
    repeat (go_quiet (first | (go_at_call 80; refine cm_ (text_Map_Rows.calls sd_ sd_ sd_ sd_ sd_ A4.out) ?_; rintro e w' ⟨rfl, nd, rfl⟩; (try first | exact ⟨rfl, _, World.drewN_drewN _ _ _⟩ | exact ⟨rfl, _, Eq.trans (World.drewN_drewN _ _ _) (congrArg (World.drewN _) (Nat.add_assoc _ _ _))⟩); have hcz18 := cs2 BK0.out)); try go_wp2_with (first | (go_at_call 80; refine cm_ (text_Map_Rows.calls sd_ sd_ sd_ sd_ sd_ A4.out) ?_; rintro e w' ⟨rfl, nd, rfl⟩; (try first | exact ⟨rfl, _, World.drewN_drewN _ _ _⟩ | exact ⟨rfl, _, Eq.trans (World.drewN_drewN _ _ _) (congrArg (World.drewN _) (Nat.add_assoc _ _ _))⟩); have hcz18 := cs2 BK0.out)))
    go_ret
    exact ⟨r3_, dr_⟩
   replace H := ifq H; obtain ⟨c6b0, c7b0, H⟩ := H; replace H := bindA H; obtain ⟨t231, A8, H⟩ := H; (try dsimp only at H); replace H := nfe H; obtain ⟨c9b0, c9b1, H⟩ | ⟨c9b0, c9b1, H⟩ := H
   ·
    replace H := Aside0.mk H
    go_wp2_with (first | (go_at_call 80; refine cm_ (text_Map_Rows.calls sd_ sd_ sd_ sd_ sd_ A4.out) ?_; rintro e w' ⟨rfl, nd, rfl⟩; (try first | exact ⟨rfl, _, World.drewN_drewN _ _ _⟩ | exact ⟨rfl, _, Eq.trans (World.drewN_drewN _ _ _) (congrArg (World.drewN _) (Nat.add_assoc _ _ _))⟩); have hcz17 := cs2 BK0.out; obtain ⟨p230, q230, ad230, e230, hx230_0⟩ := ix_ (Kd.at_int HR0_1.out x5_1); cases e230))
    repeat (go_quiet (first | (go_at_call 80; refine cm_ (text_Map_Rows.calls sd_ sd_ sd_ sd_ sd_ A4.out) ?_; rintro e w' ⟨rfl, nd, rfl⟩; (try first | exact ⟨rfl, _, World.drewN_drewN _ _ _⟩ | exact ⟨rfl, _, Eq.trans (World.drewN_drewN _ _ _) (congrArg (World.drewN _) (Nat.add_assoc _ _ _))⟩); have hcz17 := cs2 BK0.out; obtain ⟨p230, q230, ad230, e230, hx230_0⟩ := ix_ (Kd.at_int HR0_1.out x5_1); cases e230) | (go_at_call 50; refine cm_ (text_Map_End.calls sd_ sd_ sd_ sd_ sd_ A8.out) ?_; rintro e w' ⟨rfl, nd, rfl⟩; (try first | exact ⟨rfl, _, World.drewN_drewN _ _ _⟩ | exact ⟨rfl, _, Eq.trans (World.drewN_drewN _ _ _) (congrArg (World.drewN _) (Nat.add_assoc _ _ _))⟩))); try go_wp2_with (first | (go_at_call 80; refine cm_ (text_Map_Rows.calls sd_ sd_ sd_ sd_ sd_ A4.out) ?_; rintro e w' ⟨rfl, nd, rfl⟩; (try first | exact ⟨rfl, _, World.drewN_drewN _ _ _⟩ | exact ⟨rfl, _, Eq.trans (World.drewN_drewN _ _ _) (congrArg (World.drewN _) (Nat.add_assoc _ _ _))⟩); have hcz17 := cs2 BK0.out; obtain ⟨p230, q230, ad230, e230, hx230_0⟩ := ix_ (Kd.at_int HR0_1.out x5_1); cases e230)))
    go_roundg k1
    case measure => have := HK1.out; omega
    case rel => exact ⟨(wrap64 (x5_1 + 1)), r3_, H, ⟨by have := HK1.out; omega⟩, ⟨BK0.out⟩, dr_⟩
   obtain ⟨ji10, hji10⟩ : ∃ j_ : Int, (wrap64 (x5_1 - 1)) = j_ := ⟨_, rfl⟩; (first | rw [hji10] at H | simp only [hji10] at H); (try rw [hji10] at A4); (try rw [hji10] at A8)
   have hji10w : (IntKind.i64.wrap (x5_1 - 1)) = ji10 := (i64_w _).trans hji10
   replace H := ifq H; obtain ⟨c11b0, c12b0, H⟩ := H; replace H := bindA H; obtain ⟨t233, A13, H⟩ := H; (try dsimp only at H); replace H := nfd H; obtain ⟨c14b0, H⟩ | ⟨c14b0, H⟩ := H
   ·
    replace H := Aside0.mk H
    go_wp2_with (first | (go_at_call 80; refine cm_ (text_Map_Rows.calls sd_ sd_ sd_ sd_ sd_ A4.out) ?_; rintro e w' ⟨rfl, nd, rfl⟩; (try first | exact ⟨rfl, _, World.drewN_drewN _ _ _⟩ | exact ⟨rfl, _, Eq.trans (World.drewN_drewN _ _ _) (congrArg (World.drewN _) (Nat.add_assoc _ _ _))⟩); have hcz16 := cs2 BK0.out; obtain ⟨p230, q230, ad230, e230, hx230_0⟩ := ix_ (Kd.at_int HR0_1.out x5_1); cases e230))
    repeat (go_quiet (first | (go_at_call 80; refine cm_ (text_Map_Rows.calls sd_ sd_ sd_ sd_ sd_ A4.out) ?_; rintro e w' ⟨rfl, nd, rfl⟩; (try first | exact ⟨rfl, _, World.drewN_drewN _ _ _⟩ | exact ⟨rfl, _, Eq.trans (World.drewN_drewN _ _ _) (congrArg (World.drewN _) (Nat.add_assoc _ _ _))⟩); have hcz16 := cs2 BK0.out; obtain ⟨p230, q230, ad230, e230, hx230_0⟩ := ix_ (Kd.at_int HR0_1.out x5_1); cases e230) | (go_at_call 50; refine cm_ (text_Map_End.calls sd_ sd_ sd_ sd_ sd_ A8.out) ?_; rintro e w' ⟨rfl, nd, rfl⟩; (try first | exact ⟨rfl, _, World.drewN_drewN _ _ _⟩ | exact ⟨rfl, _, Eq.trans (World.drewN_drewN _ _ _) (congrArg (World.drewN _) (Nat.add_assoc _ _ _))⟩); have p232 := od_ (0 ≤ ((ji10) : Int)); have q232 := od_ ((ji10) < (l0_1.length : Int)); obtain ⟨ad232, e232, hx232_0⟩ := Kd.at_int HR0_1.out (ji10) p232 q232; obtain rfl : ad230 = ad232 := (by injection e232); replace p232 := eq_true p232; replace q232 := eq_true q232) | (go_at_call 50; refine cm_ (text_Map_End.calls sd_ sd_ sd_ sd_ sd_ A13.out) ?_; rintro e w' ⟨rfl, nd, rfl⟩; (try first | exact ⟨rfl, _, World.drewN_drewN _ _ _⟩ | exact ⟨rfl, _, Eq.trans (World.drewN_drewN _ _ _) (congrArg (World.drewN _) (Nat.add_assoc _ _ _))⟩))); try go_wp2_with (first | (go_at_call 80; refine cm_ (text_Map_Rows.calls sd_ sd_ sd_ sd_ sd_ A4.out) ?_; rintro e w' ⟨rfl, nd, rfl⟩; (try first | exact ⟨rfl, _, World.drewN_drewN _ _ _⟩ | exact ⟨rfl, _, Eq.trans (World.drewN_drewN _ _ _) (congrArg (World.drewN _) (Nat.add_assoc _ _ _))⟩); have hcz16 := cs2 BK0.out; obtain ⟨p230, q230, ad230, e230, hx230_0⟩ := ix_ (Kd.at_int HR0_1.out x5_1); cases e230)))
    go_roundg k1
    case measure => have := HK1.out; omega
    case rel => exact ⟨(wrap64 (x5_1 + 1)), r3_, H, ⟨by have := HK1.out; omega⟩, ⟨BK0.out⟩, dr_⟩
   obtain rfl := Option.some.inj H
   go_wp2_with (first | (go_at_call 80; refine cm_ (text_Map_Rows.calls sd_ sd_ sd_ sd_ sd_ A4.out) ?_; rintro e w' ⟨rfl, nd, rfl⟩; (try first | exact ⟨rfl, _, World.drewN_drewN _ _ _⟩ | exact ⟨rfl, _, Eq.trans (World.drewN_drewN _ _ _) (congrArg (World.drewN _) (Nat.add_assoc _ _ _))⟩); have hcz15 := cs2 BK0.out; obtain ⟨p230, q230, ad230, e230, hx230_0⟩ := ix_ (Kd.at_int HR0_1.out x5_1); cases e230))
   repeat (go_quiet (first | (go_at_call 80; refine cm_ (text_Map_Rows.calls sd_ sd_ sd_ sd_ sd_ A4.out) ?_; rintro e w' ⟨rfl, nd, rfl⟩; (try first | exact ⟨rfl, _, World.drewN_drewN _ _ _⟩ | exact ⟨rfl, _, Eq.trans (World.drewN_drewN _ _ _) (congrArg (World.drewN _) (Nat.add_assoc _ _ _))⟩); have hcz15 := cs2 BK0.out; obtain ⟨p230, q230, ad230, e230, hx230_0⟩ := ix_ (Kd.at_int HR0_1.out x5_1); cases e230) | (go_at_call 50; refine cm_ (text_Map_End.calls sd_ sd_ sd_ sd_ sd_ A8.out) ?_; rintro e w' ⟨rfl, nd, rfl⟩; (try first | exact ⟨rfl, _, World.drewN_drewN _ _ _⟩ | exact ⟨rfl, _, Eq.trans (World.drewN_drewN _ _ _) (congrArg (World.drewN _) (Nat.add_assoc _ _ _))⟩); have p232 := od_ (0 ≤ ((ji10) : Int)); have q232 := od_ ((ji10) < (l0_1.length : Int)); obtain ⟨ad232, e232, hx232_0⟩ := Kd.at_int HR0_1.out (ji10) p232 q232; obtain rfl : ad230 = ad232 := (by injection e232); replace p232 := eq_true p232; replace q232 := eq_true q232) | (go_at_call 50; refine cm_ (text_Map_End.calls sd_ sd_ sd_ sd_ sd_ A13.out) ?_; rintro e w' ⟨rfl, nd, rfl⟩; (try first | exact ⟨rfl, _, World.drewN_drewN _ _ _⟩ | exact ⟨rfl, _, Eq.trans (World.drewN_drewN _ _ _) (congrArg (World.drewN _) (Nat.add_assoc _ _ _))⟩); have p234 := od_ (0 ≤ (x5_1 : Int)); have q234 := od_ (x5_1 < (l0_1.length : Int)); obtain ⟨ad234, e234, hx234_0⟩ := Kd.at_int HR0_1.out x5_1 p234 q234; obtain rfl : ad230 = ad234 := (by injection e234); replace p234 := eq_true p234; replace q234 := eq_true q234)); try go_wp2_with (first | (go_at_call 80; refine cm_ (text_Map_Rows.calls sd_ sd_ sd_ sd_ sd_ A4.out) ?_; rintro e w' ⟨rfl, nd, rfl⟩; (try first | exact ⟨rfl, _, World.drewN_drewN _ _ _⟩ | exact ⟨rfl, _, Eq.trans (World.drewN_drewN _ _ _) (congrArg (World.drewN _) (Nat.add_assoc _ _ _))⟩); have hcz15 := cs2 BK0.out; obtain ⟨p230, q230, ad230, e230, hx230_0⟩ := ix_ (Kd.at_int HR0_1.out x5_1); cases e230)))
   go_ret
   exact ⟨by first | rfl | (simp; done) | (simp only [← hji10] <;> (first | rfl | simp)) | (simp [*]; done), dr_⟩

/-! ### paras_up: function 92 -/
def paras_up.l0 : Nat → Int → List Int → List Int → Option (Int)
  | 0, _, _, _ => none
  | k + 1, x5, v0, v1 => if x5 ≥ 0 then (if 0 ≤ x5 then (if x5 < (v1.length : Int) then ((text_Map_End.f v0 v1 x5).bind fun t237 => (if (rd v1 x5) = t237 then (if 0 ≤ (wrap64 (x5 + 1)) then (if (wrap64 (x5 + 1)) < (v1.length : Int) then ((text_Map_End.f v0 v1 (wrap64 (x5 + 1))).bind fun t239 => (if (rd v1 (wrap64 (x5 + 1))) < t239 then (some (rd v1 x5)) else (paras_up.l0 k (wrap64 (x5 - 1)) v0 v1))) else (none)) else (none)) else (paras_up.l0 k (wrap64 (x5 - 1)) v0 v1))) else (none)) else (none)) else (some 0)
def paras_up.f (k : Nat) (l0_0 : List Int) (l0_1 : List Int) (a1 : Int) : Option (Int) := (text_Map_Row.f k l0_0 l0_1 a1).bind fun t235 => (paras_up.l0 k (wrap64 (t235 - 1)) l0_0 l0_1)
theorem paras_up.calls {k : Nat} {g0 : Nat} {A0_0 : Option Addr} {c0_0 : Nat} {l0_0 : List Int} {A0_1 : Option Addr} {c0_1 : Nat} {l0_1 : List Int} {a1 : Int} {r : Int} {w : World} (hg0 : w.heap[g0]? = some (.cells #[.slice A0_0 l0_0.length c0_0, .slice A0_1 l0_1.length c0_1] 79 (0, 0))) (hr0_0 : Kd.C (Kd.int .i32) w A0_0 l0_0.length l0_0) (hc0_0 : l0_0.length ≤ c0_0) (hr0_1 : Kd.C (Kd.int .i64) w A0_1 l0_1.length l0_1) (hc0_1 : l0_1.length ≤ c0_1) (H : paras_up.f k l0_0 l0_1 a1 = some r) :
  Calls Tryd.prog 92 #[.pointer (some ⟨g0, 0, none⟩), .int .i64 a1] w fun e w' => e = .returned (.int .i64 r) ∧ Drawn0 w w' := by
 have BK0 := Aside0.mk hg0; clear hg0; have HR0_0 := Aside0.mk hr0_0; have HC0_0 := Aside0.mk hc0_0; clear hr0_0 hc0_0; have HR0_1 := Aside0.mk hr0_1; have HC0_1 := Aside0.mk hc0_1; clear hr0_1 hc0_1; unfold paras_up.f at H; replace H := bindA H; obtain ⟨t235, A3, H⟩ := H; (try dsimp only at H); replace H := Aside0.mk H; go_enter Tryd.func92, Tryd.ntmps92
 go_wp2_with (first | (go_at_call 49; refine cm_ (text_Map_Row.calls sd_ sd_ sd_ sd_ sd_ A3.out) ?_; rintro e w' ⟨rfl, nd, rfl⟩; (try first | exact ⟨rfl, _, World.drewN_drewN _ _ _⟩ | exact ⟨rfl, _, Eq.trans (World.drewN_drewN _ _ _) (congrArg (World.drewN _) (Nat.add_assoc _ _ _))⟩)))
 go_loopg [5] k (fun kq v5 w' => ∃ (x5_1 : Int), v5 = .int .i64 x5_1 ∧ Aside0 (paras_up.l0 kq x5_1 l0_0 l0_1 = some r) ∧ Aside0 (kq ≤ k) ∧ Aside0 (w'.heap[g0]? = some (.cells #[(.slice A0_0 l0_0.length c0_0), (.slice A0_1 l0_1.length c0_1)] 79 (0, 0))) ∧ Drawn0 w w')
 case atStart => exact ⟨(wrap64 (t235 - 1)), r3_, H, ⟨Nat.le_refl _⟩, ⟨BK0.out⟩, dr_⟩
 case round =>
  clear H; obtain ⟨x5_1, rfl, HA, HK1, BK0, ⟨m1, rfl⟩⟩ := hrel; simp only [World.heap_drewN] at BK0
  cases gk with
  | zero => exact absurd HA.out (by simp [paras_up.l0])
  | succ k1 =>
   obtain ⟨H⟩ := HA; simp only [paras_up.l0] at H; replace H := nfd H; obtain ⟨c4b0, H⟩ | ⟨c4b0, H⟩ := H
   ·
    obtain rfl := Option.some.inj H; go_wp2
    repeat (go_quiet (fail); try go_wp2)
    go_ret
    exact ⟨r3_, dr_⟩
   replace H := ifq H; obtain ⟨c5b0, c6b0, H⟩ := H; replace H := bindA H; obtain ⟨t237, A7, H⟩ := H; (try dsimp only at H); replace H := nfe H; obtain ⟨c8b0, c8b1, H⟩ | ⟨c8b0, c8b1, H⟩ := H
   ·
    replace H := Aside0.mk H; have hcz16 := cs2 BK0.out; obtain ⟨p236, q236, ad236, e236, hx236_0⟩ := ix_ (Kd.at_int HR0_1.out x5_1); cases e236; go_wp2
    repeat (go_quiet (first | (go_at_call 50; refine cm_ (text_Map_End.calls sd_ sd_ sd_ sd_ sd_ A7.out) ?_; rintro e w' ⟨rfl, nd, rfl⟩; (try first | exact ⟨rfl, _, World.drewN_drewN _ _ _⟩ | exact ⟨rfl, _, Eq.trans (World.drewN_drewN _ _ _) (congrArg (World.drewN _) (Nat.add_assoc _ _ _))⟩))); try go_wp2)
    go_roundg k1
    case measure => have := HK1.out; omega
    case rel => exact ⟨(wrap64 (x5_1 - 1)), r3_, H, ⟨by have := HK1.out; omega⟩, ⟨BK0.out⟩, dr_⟩
   obtain ⟨ji9, hji9⟩ : ∃ j_ : Int, (wrap64 (x5_1 + 1)) = j_ := ⟨_, rfl⟩; (first | rw [hji9] at H | simp only [hji9] at H); (try rw [hji9] at A7)
   have hji9w : (IntKind.i64.wrap (x5_1 + 1)) = ji9 := (i64_w _).trans hji9
   replace H := ifq H; obtain ⟨c10b0, c11b0, H⟩ := H; replace H := bindA H; obtain ⟨t239, A12, H⟩ := H; (try dsimp only at H); replace H := nfd H; obtain ⟨c13b0, H⟩ | ⟨c13b0, H⟩ := H
   ·
    replace H := Aside0.mk H; have hcz15 := cs2 BK0.out; obtain ⟨p236, q236, ad236, e236, hx236_0⟩ := ix_ (Kd.at_int HR0_1.out x5_1); cases e236; go_wp2
    repeat (go_quiet (first | (go_at_call 50; refine cm_ (text_Map_End.calls sd_ sd_ sd_ sd_ sd_ A7.out) ?_; rintro e w' ⟨rfl, nd, rfl⟩; (try first | exact ⟨rfl, _, World.drewN_drewN _ _ _⟩ | exact ⟨rfl, _, Eq.trans (World.drewN_drewN _ _ _) (congrArg (World.drewN _) (Nat.add_assoc _ _ _))⟩); have p238 := od_ (0 ≤ ((ji9) : Int)); have q238 := od_ ((ji9) < (l0_1.length : Int)); obtain ⟨ad238, e238, hx238_0⟩ := Kd.at_int HR0_1.out (ji9) p238 q238; obtain rfl : ad236 = ad238 := (by injection e238); replace p238 := eq_true p238; replace q238 := eq_true q238) | (go_at_call 50; refine cm_ (text_Map_End.calls sd_ sd_ sd_ sd_ sd_ A12.out) ?_; rintro e w' ⟨rfl, nd, rfl⟩; (try first | exact ⟨rfl, _, World.drewN_drewN _ _ _⟩ | exact ⟨rfl, _, Eq.trans (World.drewN_drewN _ _ _) (congrArg (World.drewN _) (Nat.add_assoc _ _ _))⟩))); try go_wp2)
    go_roundg k1
    case measure => have := HK1.out; omega
    case rel => exact ⟨(wrap64 (x5_1 - 1)), r3_, H, ⟨by have := HK1.out; omega⟩, ⟨BK0.out⟩, dr_⟩
   obtain rfl := Option.some.inj H; have hcz14 := cs2 BK0.out; obtain ⟨p236, q236, ad236, e236, hx236_0⟩ := ix_ (Kd.at_int HR0_1.out x5_1); cases e236; go_wp2
   repeat (go_quiet (first | (go_at_call 50; refine cm_ (text_Map_End.calls sd_ sd_ sd_ sd_ sd_ A7.out) ?_; rintro e w' ⟨rfl, nd, rfl⟩; (try first | exact ⟨rfl, _, World.drewN_drewN _ _ _⟩ | exact ⟨rfl, _, Eq.trans (World.drewN_drewN _ _ _) (congrArg (World.drewN _) (Nat.add_assoc _ _ _))⟩); have p238 := od_ (0 ≤ ((ji9) : Int)); have q238 := od_ ((ji9) < (l0_1.length : Int)); obtain ⟨ad238, e238, hx238_0⟩ := Kd.at_int HR0_1.out (ji9) p238 q238; obtain rfl : ad236 = ad238 := (by injection e238); replace p238 := eq_true p238; replace q238 := eq_true q238) | (go_at_call 50; refine cm_ (text_Map_End.calls sd_ sd_ sd_ sd_ sd_ A12.out) ?_; rintro e w' ⟨rfl, nd, rfl⟩; (try first | exact ⟨rfl, _, World.drewN_drewN _ _ _⟩ | exact ⟨rfl, _, Eq.trans (World.drewN_drewN _ _ _) (congrArg (World.drewN _) (Nat.add_assoc _ _ _))⟩); have p240 := od_ (0 ≤ (x5_1 : Int)); have q240 := od_ (x5_1 < (l0_1.length : Int)); obtain ⟨ad240, e240, hx240_0⟩ := Kd.at_int HR0_1.out x5_1 p240 q240; obtain rfl : ad236 = ad240 := (by injection e240); replace p240 := eq_true p240; replace q240 := eq_true q240)); try go_wp2)
   go_ret
   exact ⟨by first | rfl | (simp; done) | (simp only [← hji9] <;> (first | rfl | simp)) | (simp [*]; done), dr_⟩

/-! ### paras_Move: function 67 -/
mutual
def paras_Move.l0 : Nat → Int → Int → Int → Int → List Int → List Int → Option (Int × Int)
  | 0, _, _, _, _, _, _ => none
  | k + 1, x1, x12, x41, x42, v0, v1 => if x42 < x41 then ((paras_up.f k v0 v1 x12).bind fun t250 => (paras_Move.l0 k x1 t250 x41 (wrap64 (x42 + 1)) v0 v1)) else (if x12 = x1 then (some (0, 6)) else (some (x12, 0)))
def paras_Move.l1 : Nat → Int → Int → Int → Int → List Int → List Int → Option (Int × Int)
  | 0, _, _, _, _, _, _ => none
  | k + 1, x1, x12, x41, x42, v0, v1 => if x42 < x41 then ((paras_down.f k v0 v1 x12).bind fun t259 => (paras_Move.l1 k x1 t259 x41 (wrap64 (x42 + 1)) v0 v1)) else (if x12 = x1 then (some (0, 6)) else (some (x12, 0)))
end
def paras_Move.f (k : Nat) (a0 : ByteArray) (a1 : Int) (a2 : Int) (a3 : Int) : Option (Int × Int) := (text_May.f a0).bind fun t241 => (if t241 = true then (if a2 = 123 then (if a3 < 1 then (some (0, 1)) else (if a3 > 999 then (some (0, 1)) else ((text_Of.f k a0).bind fun bt242 => ((text_Map_Is.f bt242.1 bt242.2 a1).bind fun t249 => (if t249 = true then (paras_Move.l0 k a1 a1 a3 0 bt242.1 bt242.2) else (some (0, 1))))))) else (if a2 = 125 then (if a3 < 1 then (some (0, 1)) else (if a3 > 999 then (some (0, 1)) else ((text_Of.f k a0).bind fun bt251 => ((text_Map_Is.f bt251.1 bt251.2 a1).bind fun t258 => (if t258 = true then (paras_Move.l1 k a1 a1 a3 0 bt251.1 bt251.2) else (some (0, 1))))))) else (some (0, 1)))) else (some (0, 1)))
theorem paras_Move.calls {k : Nat} {a0 : ByteArray} {a1 : Int} {a2 : Int} {a3 : Int} {r1 : Int} {r2 : Int} {w : World} (hT : Tabs w) (H : paras_Move.f k a0 a1 a2 a3 = some (r1, r2)) :
  Calls Tryd.prog 67 #[.string a0, .int .i64 a1, .int .i64 a2, .int .i64 a3] w fun e w' => e = .returned (.tuple #[.int .i64 r1, .int .i64 r2]) ∧ Below w.heap.size w w' := by
 have HT := Aside0.mk hT; clear hT; have HB := Aside0.mk (Below.refl w.heap.size w); unfold paras_Move.f at H; replace H := bindA H; obtain ⟨t241, A5, H⟩ := H; (try dsimp only at H); replace H := nfb H; obtain ⟨rfl, H⟩ | ⟨rfl, H⟩ := H
 ·
  replace H := so2 H; obtain ⟨rfl, rfl⟩ := H; go_enter Tryd.func67, Tryd.ntmps67
  go_wp2_with (first | ((with_reducible refine gC 27 rfl ?_); refine goesL1 (some 14) Tryd.func27 #[.string a0] rfl (map1 rfl) ?_; (with_reducible refine (text_May.calls ?side1 A5.out).mono ?_); (case side1 => exact Tabs.below HT.out bl_); rintro e w46 ⟨rfl, hb⟩; refine ⟨_, rfl, ?_⟩; replace HB := hB hb; (try clear hb)))
  go_ret2
  exact ⟨rr_, bl_⟩
 replace H := ife H; obtain ⟨c7b0, c7b1, H⟩ | ⟨c7b0, c7b1, H⟩ := H
 ·
  replace H := ifd H; obtain ⟨c8b0, H⟩ | ⟨c8b0, H⟩ := H
  ·
   replace H := so2 H; obtain ⟨rfl, rfl⟩ := H; go_enter Tryd.func67, Tryd.ntmps67
   go_wp2_with (first | ((with_reducible refine gC 27 rfl ?_); refine goesL1 (some 14) Tryd.func27 #[.string a0] rfl (map1 rfl) ?_; (with_reducible refine (text_May.calls ?side1 A5.out).mono ?_); (case side1 => exact Tabs.below HT.out bl_); rintro e w9 ⟨rfl, hb⟩; refine ⟨_, rfl, ?_⟩; replace HB := hB hb; (try clear hb)))
   go_ret2
   exact ⟨rr_, bl_⟩
  replace H := ifd H; obtain ⟨c10b0, H⟩ | ⟨c10b0, H⟩ := H
  ·
   replace H := so2 H; obtain ⟨rfl, rfl⟩ := H; go_enter Tryd.func67, Tryd.ntmps67
   go_wp2_with (first | ((with_reducible refine gC 27 rfl ?_); refine goesL1 (some 14) Tryd.func27 #[.string a0] rfl (map1 rfl) ?_; (with_reducible refine (text_May.calls ?side1 A5.out).mono ?_); (case side1 => exact Tabs.below HT.out bl_); rintro e w11 ⟨rfl, hb⟩; refine ⟨_, rfl, ?_⟩; replace HB := hB hb; (try clear hb)))
   go_ret2
   exact ⟨rr_, bl_⟩
  replace H := bindA H; obtain ⟨⟨t242, t245⟩, A12, H⟩ := H; (try dsimp only at H); replace H := bindA H; obtain ⟨t249, A13, H⟩ := H; (try dsimp only at H); replace H := nfb H; obtain ⟨rfl, H⟩ | ⟨rfl, H⟩ := H
  ·
   replace H := so2 H; obtain ⟨rfl, rfl⟩ := H; go_enter Tryd.func67, Tryd.ntmps67
   go_wp2_with (first | ((with_reducible refine gC 27 rfl ?_); refine goesL1 (some 14) Tryd.func27 #[.string a0] rfl (map1 rfl) ?_; (with_reducible refine (text_May.calls ?side1 A5.out).mono ?_); (case side1 => exact Tabs.below HT.out bl_); rintro e w22 ⟨rfl, hb⟩; refine ⟨_, rfl, ?_⟩; replace HB := hB hb; (try clear hb)) | ((with_reducible refine gC 28 rfl ?_); refine goesL1 (some 33) Tryd.func28 #[.string a0] rfl (map1 rfl) ?_; (with_reducible refine (text_Of.calls A12.out).mono ?_); rintro e w23 ⟨v243, v246, gb248, rfl, ho0, ho1, ⟨hx248_, hz248_⟩, hb⟩; refine ⟨_, rfl, ?_⟩; have HO244 := oL ho0; have HO247 := oL ho1; have BK248 := Aside0.mk hx248_; have GW248 := gZ hz248_; have GE248 := GW248; replace HB := hB hb; (try clear hb); (try clear ho0); (try clear ho1); (try clear hx248_ hz248_); obtain ⟨Ao24, co24, eo24⟩ := Kd.R_slice HO244.out; subst eo24; obtain ⟨Ao25, co25, eo25⟩ := Kd.R_slice HO247.out; subst eo25) | ((with_reducible refine gC 29 rfl ?_); refine goesL1 (some 36) Tryd.func29 #[.pointer (some ⟨gb248, 0, none⟩), .int .i64 a1] rfl (map2 rfl rfl) ?_; refine cm_ (text_Map_Is.calls sd_ sd_ sd_ sd_ sd_ A13.out) ?_; rintro e w' ⟨rfl, nd, rfl⟩; refine ⟨_, rfl, ?_⟩))
   go_ret2
   exact ⟨rr_, bl_⟩
  replace H := Aside0.mk H; go_enter Tryd.func67, Tryd.ntmps67
  go_wp2_with (first | ((with_reducible refine gC 27 rfl ?_); refine goesL1 (some 14) Tryd.func27 #[.string a0] rfl (map1 rfl) ?_; (with_reducible refine (text_May.calls ?side1 A5.out).mono ?_); (case side1 => exact Tabs.below HT.out bl_); rintro e w15 ⟨rfl, hb⟩; refine ⟨_, rfl, ?_⟩; replace HB := hB hb; (try clear hb)) | ((with_reducible refine gC 28 rfl ?_); refine goesL1 (some 33) Tryd.func28 #[.string a0] rfl (map1 rfl) ?_; (with_reducible refine (text_Of.calls A12.out).mono ?_); rintro e w16 ⟨v243, v246, gb248, rfl, ho0, ho1, ⟨hx248_, hz248_⟩, hb⟩; refine ⟨_, rfl, ?_⟩; have HO244 := oL ho0; have HO247 := oL ho1; have BK248 := Aside0.mk hx248_; have GW248 := gZ hz248_; have GE248 := GW248; replace HB := hB hb; (try clear hb); (try clear ho0); (try clear ho1); (try clear hx248_ hz248_); obtain ⟨Ao17, co17, eo17⟩ := Kd.R_slice HO244.out; subst eo17; obtain ⟨Ao18, co18, eo18⟩ := Kd.R_slice HO247.out; subst eo18) | ((with_reducible refine gC 29 rfl ?_); refine goesL1 (some 36) Tryd.func29 #[.pointer (some ⟨gb248, 0, none⟩), .int .i64 a1] rfl (map2 rfl rfl) ?_; refine cm_ (text_Map_Is.calls sd_ sd_ sd_ sd_ sd_ A13.out) ?_; rintro e w' ⟨rfl, nd, rfl⟩; refine ⟨_, rfl, ?_⟩))
  go_loopg [12, 42] k (fun kq v12 v42 w' => ∃ (x12_1 : Int) (x42_1 : Int), v12 = .int .i64 x12_1 ∧ v42 = .int .i64 x42_1 ∧ Aside0 (paras_Move.l0 kq a1 x12_1 a3 x42_1 t242 t245 = some (r1, r2)) ∧ Aside0 (kq ≤ k) ∧ Aside0 (Kd.R (Kd.int .i32) 21 w' w.heap.size (fun _ => True) (.slice Ao17 t242.length co17) t242) ∧ Aside0 (Kd.R (Kd.int .i64) 3 w' w.heap.size (fun _ => True) (.slice Ao18 t245.length co18) t245) ∧ Aside0 (w'.heap[gb248]? = some (.cells #[(.slice Ao17 t242.length co17), (.slice Ao18 t245.length co18)] 79 (0, 0))) ∧ Aside0 (Below w.heap.size w w'))
  case atStart => exact ⟨(a1), (0), r3_, r3_, H, ⟨Nat.le_refl _⟩, ⟨ro_ HO244⟩, ⟨ro_ HO247⟩, ⟨BK248.out⟩, ⟨bl_⟩⟩
  case round =>
   clear H
   try clear c7b0
   try clear c7b1
   try clear c8b0
   try clear c10b0
   obtain ⟨x12_1, x42_1, rfl, rfl, HA, HK1, HO_249000, HO_249001, BK248, HB⟩ := hrel
   cases gk with
   | zero => exact absurd HA.out (by simp [paras_Move.l0])
   | succ k1 =>
    obtain ⟨H⟩ := HA; simp only [paras_Move.l0] at H; replace H := nfd H; obtain ⟨c19b0, H⟩ | ⟨c19b0, H⟩ := H
    ·
     replace H := nfe H; obtain ⟨c21b0, c21b1, H⟩ | ⟨c21b0, c21b1, H⟩ := H
     ·
      replace H := so2 H; obtain ⟨rfl, rfl⟩ := H; go_wp2
      go_ret2
      exact ⟨rr_, bl_⟩
     replace H := so2 H; obtain ⟨rfl, rfl⟩ := H; go_wp2
     go_ret2
     exact ⟨rr_, bl_⟩
    replace H := bindA H; obtain ⟨t250, A20, H⟩ := H; (try dsimp only at H); replace H := Aside0.mk H
    go_wp2_with (first | (go_at_call 92; refine cm_ (paras_up.calls sd_ sd_ sd_ sd_ sd_ A20.out) ?_; rintro e w' ⟨rfl, nd, rfl⟩))
    go_roundg k1
    case measure => have := HK1.out; omega
    case rel => exact ⟨(t250), (wrap64 (x42_1 + 1)), r3_, r3_, H, ⟨by have := HK1.out; omega⟩, ⟨ro_ HO_249000⟩, ⟨ro_ HO_249001⟩, ⟨BK248.out⟩, ⟨bl_⟩⟩
 replace H := nfe H; obtain ⟨c26b0, c26b1, H⟩ | ⟨c26b0, c26b1, H⟩ := H
 ·
  replace H := so2 H; obtain ⟨rfl, rfl⟩ := H; go_enter Tryd.func67, Tryd.ntmps67
  go_wp2_with (first | ((with_reducible refine gC 27 rfl ?_); refine goesL1 (some 14) Tryd.func27 #[.string a0] rfl (map1 rfl) ?_; (with_reducible refine (text_May.calls ?side1 A5.out).mono ?_); (case side1 => exact Tabs.below HT.out bl_); rintro e w45 ⟨rfl, hb⟩; refine ⟨_, rfl, ?_⟩; replace HB := hB hb; (try clear hb)))
  go_ret2
  exact ⟨rr_, bl_⟩
 replace H := ifd H; obtain ⟨c27b0, H⟩ | ⟨c27b0, H⟩ := H
 ·
  replace H := so2 H; obtain ⟨rfl, rfl⟩ := H; go_enter Tryd.func67, Tryd.ntmps67
  go_wp2_with (first | ((with_reducible refine gC 27 rfl ?_); refine goesL1 (some 14) Tryd.func27 #[.string a0] rfl (map1 rfl) ?_; (with_reducible refine (text_May.calls ?side1 A5.out).mono ?_); (case side1 => exact Tabs.below HT.out bl_); rintro e w28 ⟨rfl, hb⟩; refine ⟨_, rfl, ?_⟩; replace HB := hB hb; (try clear hb)))
  go_ret2
  exact ⟨rr_, bl_⟩
 replace H := ifd H; obtain ⟨c29b0, H⟩ | ⟨c29b0, H⟩ := H
 ·
  replace H := so2 H; obtain ⟨rfl, rfl⟩ := H; go_enter Tryd.func67, Tryd.ntmps67
  go_wp2_with (first | ((with_reducible refine gC 27 rfl ?_); refine goesL1 (some 14) Tryd.func27 #[.string a0] rfl (map1 rfl) ?_; (with_reducible refine (text_May.calls ?side1 A5.out).mono ?_); (case side1 => exact Tabs.below HT.out bl_); rintro e w30 ⟨rfl, hb⟩; refine ⟨_, rfl, ?_⟩; replace HB := hB hb; (try clear hb)))
  go_ret2
  exact ⟨rr_, bl_⟩
 replace H := bindA H; obtain ⟨⟨t251, t254⟩, A31, H⟩ := H; (try dsimp only at H); replace H := bindA H; obtain ⟨t258, A32, H⟩ := H; (try dsimp only at H); replace H := nfb H; obtain ⟨rfl, H⟩ | ⟨rfl, H⟩ := H
 ·
  replace H := so2 H; obtain ⟨rfl, rfl⟩ := H; go_enter Tryd.func67, Tryd.ntmps67
  go_wp2_with (first | ((with_reducible refine gC 27 rfl ?_); refine goesL1 (some 14) Tryd.func27 #[.string a0] rfl (map1 rfl) ?_; (with_reducible refine (text_May.calls ?side1 A5.out).mono ?_); (case side1 => exact Tabs.below HT.out bl_); rintro e w41 ⟨rfl, hb⟩; refine ⟨_, rfl, ?_⟩; replace HB := hB hb; (try clear hb)) | ((with_reducible refine gC 28 rfl ?_); refine goesL1 (some 33) Tryd.func28 #[.string a0] rfl (map1 rfl) ?_; (with_reducible refine (text_Of.calls A31.out).mono ?_); rintro e w42 ⟨v252, v255, gb257, rfl, ho0, ho1, ⟨hx257_, hz257_⟩, hb⟩; refine ⟨_, rfl, ?_⟩; have HO253 := oL ho0; have HO256 := oL ho1; have BK257 := Aside0.mk hx257_; have GW257 := gZ hz257_; have GE257 := GW257; replace HB := hB hb; (try clear hb); (try clear ho0); (try clear ho1); (try clear hx257_ hz257_); obtain ⟨Ao43, co43, eo43⟩ := Kd.R_slice HO253.out; subst eo43; obtain ⟨Ao44, co44, eo44⟩ := Kd.R_slice HO256.out; subst eo44) | ((with_reducible refine gC 29 rfl ?_); refine goesL1 (some 36) Tryd.func29 #[.pointer (some ⟨gb257, 0, none⟩), .int .i64 a1] rfl (map2 rfl rfl) ?_; refine cm_ (text_Map_Is.calls sd_ sd_ sd_ sd_ sd_ A32.out) ?_; rintro e w' ⟨rfl, nd, rfl⟩; refine ⟨_, rfl, ?_⟩))
  go_ret2
  exact ⟨rr_, bl_⟩
 replace H := Aside0.mk H; go_enter Tryd.func67, Tryd.ntmps67
 go_wp2_with (first | ((with_reducible refine gC 27 rfl ?_); refine goesL1 (some 14) Tryd.func27 #[.string a0] rfl (map1 rfl) ?_; (with_reducible refine (text_May.calls ?side1 A5.out).mono ?_); (case side1 => exact Tabs.below HT.out bl_); rintro e w34 ⟨rfl, hb⟩; refine ⟨_, rfl, ?_⟩; replace HB := hB hb; (try clear hb)) | ((with_reducible refine gC 28 rfl ?_); refine goesL1 (some 33) Tryd.func28 #[.string a0] rfl (map1 rfl) ?_; (with_reducible refine (text_Of.calls A31.out).mono ?_); rintro e w35 ⟨v252, v255, gb257, rfl, ho0, ho1, ⟨hx257_, hz257_⟩, hb⟩; refine ⟨_, rfl, ?_⟩; have HO253 := oL ho0; have HO256 := oL ho1; have BK257 := Aside0.mk hx257_; have GW257 := gZ hz257_; have GE257 := GW257; replace HB := hB hb; (try clear hb); (try clear ho0); (try clear ho1); (try clear hx257_ hz257_); obtain ⟨Ao36, co36, eo36⟩ := Kd.R_slice HO253.out; subst eo36; obtain ⟨Ao37, co37, eo37⟩ := Kd.R_slice HO256.out; subst eo37) | ((with_reducible refine gC 29 rfl ?_); refine goesL1 (some 36) Tryd.func29 #[.pointer (some ⟨gb257, 0, none⟩), .int .i64 a1] rfl (map2 rfl rfl) ?_; refine cm_ (text_Map_Is.calls sd_ sd_ sd_ sd_ sd_ A32.out) ?_; rintro e w' ⟨rfl, nd, rfl⟩; refine ⟨_, rfl, ?_⟩))
 go_loopg [12, 42] k (fun kq v12 v42 w' => ∃ (x12_1 : Int) (x42_1 : Int), v12 = .int .i64 x12_1 ∧ v42 = .int .i64 x42_1 ∧ Aside0 (paras_Move.l1 kq a1 x12_1 a3 x42_1 t251 t254 = some (r1, r2)) ∧ Aside0 (kq ≤ k) ∧ Aside0 (Kd.R (Kd.int .i32) 21 w' w.heap.size (fun _ => True) (.slice Ao36 t251.length co36) t251) ∧ Aside0 (Kd.R (Kd.int .i64) 3 w' w.heap.size (fun _ => True) (.slice Ao37 t254.length co37) t254) ∧ Aside0 (w'.heap[gb257]? = some (.cells #[(.slice Ao36 t251.length co36), (.slice Ao37 t254.length co37)] 79 (0, 0))) ∧ Aside0 (Below w.heap.size w w'))
 case atStart => exact ⟨(a1), (0), r3_, r3_, H, ⟨Nat.le_refl _⟩, ⟨ro_ HO253⟩, ⟨ro_ HO256⟩, ⟨BK257.out⟩, ⟨bl_⟩⟩
 case round =>
  clear H
  try clear c7b0
  try clear c7b1
  try clear c26b0
  try clear c26b1
  try clear c27b0
  try clear c29b0
  obtain ⟨x12_1, x42_1, rfl, rfl, HA, HK1, HO_258000, HO_258001, BK257, HB⟩ := hrel
  cases gk with
  | zero => exact absurd HA.out (by simp [paras_Move.l1])
  | succ k1 =>
   obtain ⟨H⟩ := HA; simp only [paras_Move.l1] at H; replace H := nfd H; obtain ⟨c38b0, H⟩ | ⟨c38b0, H⟩ := H
   ·
    replace H := nfe H; obtain ⟨c40b0, c40b1, H⟩ | ⟨c40b0, c40b1, H⟩ := H
    ·
     replace H := so2 H; obtain ⟨rfl, rfl⟩ := H; go_wp2
     go_ret2
     exact ⟨rr_, bl_⟩
    replace H := so2 H; obtain ⟨rfl, rfl⟩ := H; go_wp2
    go_ret2
    exact ⟨rr_, bl_⟩
   replace H := bindA H; obtain ⟨t259, A39, H⟩ := H; (try dsimp only at H); replace H := Aside0.mk H
   go_wp2_with (first | (go_at_call 91; refine cm_ (paras_down.calls sd_ sd_ sd_ sd_ sd_ A39.out) ?_; rintro e w' ⟨rfl, nd, rfl⟩))
   go_roundg k1
   case measure => have := HK1.out; omega
   case rel => exact ⟨(t259), (wrap64 (x42_1 + 1)), r3_, r3_, H, ⟨by have := HK1.out; omega⟩, ⟨ro_ HO_258000⟩, ⟨ro_ HO_258001⟩, ⟨BK257.out⟩, ⟨bl_⟩⟩

/-! ### pairs_kind: function 93 -/
def pairs_kind.f (a0 : Int) : Option (Int × Int) := (strings_IndexRune.f (⟨#[40, 91, 123]⟩ : ByteArray) a0).bind fun t260 => (if t260 ≥ 0 then (some (t260, 1)) else ((strings_IndexRune.f (⟨#[41, 93, 125]⟩ : ByteArray) a0).bind fun t261 => (if t261 ≥ 0 then (some (t261, (-1))) else (some (0, 0)))))
theorem pairs_kind.calls {a0 : Int} {r1 : Int} {r2 : Int} {w : World} (H : pairs_kind.f a0 = some (r1, r2)) :
  Calls Tryd.prog 93 #[.int .i32 a0] w fun e w' => e = .returned (.tuple #[.int .i64 r1, .int .i64 r2]) ∧ Below w.heap.size w w' := by
 have HB := Aside0.mk (Below.refl w.heap.size w); unfold pairs_kind.f at H; replace H := bindA H; obtain ⟨t260, A2, H⟩ := H; (try dsimp only at H); replace H := ifd H; obtain ⟨c3b0, H⟩ | ⟨c3b0, H⟩ := H
 ·
  replace H := so2 H; obtain ⟨rfl, rfl⟩ := H; go_enter Tryd.func93, Tryd.ntmps93
  go_wp2_with (first | ((with_reducible refine gC 117 rfl ?_); refine goesL1 (some 5) Tryd.func117 #[.string (⟨#[40, 91, 123]⟩ : ByteArray), .int .i32 a0] rfl (map2 rfl rfl) ?_; (with_reducible refine (strings_IndexRune.calls (⟨#[40, 91, 123]⟩ : ByteArray) a0 t260 _ A2.out).mono ?_); rintro e w4 ⟨rfl, hb⟩; refine ⟨_, rfl, ?_⟩; replace HB := hB hb; (try clear hb)))
  go_ret2
  exact ⟨rr_, bl_⟩
 replace H := bindA H; obtain ⟨t261, A5, H⟩ := H; (try dsimp only at H); replace H := ifd H; obtain ⟨c6b0, H⟩ | ⟨c6b0, H⟩ := H
 ·
  replace H := so2 H; obtain ⟨rfl, rfl⟩ := H; go_enter Tryd.func93, Tryd.ntmps93
  go_wp2_with (first | ((with_reducible refine gC 117 rfl ?_); refine goesL1 (some 5) Tryd.func117 #[.string (⟨#[40, 91, 123]⟩ : ByteArray), .int .i32 a0] rfl (map2 rfl rfl) ?_; (with_reducible refine (strings_IndexRune.calls (⟨#[40, 91, 123]⟩ : ByteArray) a0 t260 _ A2.out).mono ?_); rintro e w7 ⟨rfl, hb⟩; refine ⟨_, rfl, ?_⟩; replace HB := hB hb; (try clear hb)) | ((with_reducible refine gC 117 rfl ?_); refine goesL1 (some 10) Tryd.func117 #[.string (⟨#[41, 93, 125]⟩ : ByteArray), .int .i32 a0] rfl (map2 rfl rfl) ?_; (with_reducible refine (strings_IndexRune.calls (⟨#[41, 93, 125]⟩ : ByteArray) a0 t261 _ A5.out).mono ?_); rintro e w8 ⟨rfl, hb⟩; refine ⟨_, rfl, ?_⟩; replace HB := hB hb; (try clear hb)))
  go_ret2
  exact ⟨rr_, bl_⟩
 replace H := so2 H; obtain ⟨rfl, rfl⟩ := H; go_enter Tryd.func93, Tryd.ntmps93
 go_wp2_with (first | ((with_reducible refine gC 117 rfl ?_); refine goesL1 (some 5) Tryd.func117 #[.string (⟨#[40, 91, 123]⟩ : ByteArray), .int .i32 a0] rfl (map2 rfl rfl) ?_; (with_reducible refine (strings_IndexRune.calls (⟨#[40, 91, 123]⟩ : ByteArray) a0 t260 _ A2.out).mono ?_); rintro e w9 ⟨rfl, hb⟩; refine ⟨_, rfl, ?_⟩; replace HB := hB hb; (try clear hb)) | ((with_reducible refine gC 117 rfl ?_); refine goesL1 (some 10) Tryd.func117 #[.string (⟨#[41, 93, 125]⟩ : ByteArray), .int .i32 a0] rfl (map2 rfl rfl) ?_; (with_reducible refine (strings_IndexRune.calls (⟨#[41, 93, 125]⟩ : ByteArray) a0 t261 _ A5.out).mono ?_); rintro e w10 ⟨rfl, hb⟩; refine ⟨_, rfl, ?_⟩; replace HB := hB hb; (try clear hb)))
 go_ret2
 exact ⟨rr_, bl_⟩

end Go.Proofs.YtbgmmcngkdhpcaaDoor.P
