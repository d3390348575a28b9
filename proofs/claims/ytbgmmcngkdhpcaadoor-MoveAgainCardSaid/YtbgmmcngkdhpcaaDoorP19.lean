/- The walks of the functions that these statements reach: each Go function as a plain Lean function, and the proof that its call comes to that. Written by the session's program wip/pp.py. -/
import Derived.Test.YtbgmmcngkdhpcaaDoorP0
import Derived.Test.YtbgmmcngkdhpcaaDoorP18
namespace Go.Proofs.YtbgmmcngkdhpcaaDoor.P
open Go.Proofs.YtbgmmcngkdhpcaaDoor
open Go.RowKit Go.Proofs.YtbgmmcngkdhpcaaDoorW.PrintWords Go.Proofs.YtbgmmcngkdhpcaaDoorW.PrintLast Go.Proofs.YtbgmmcngkdhpcaaDoorW.PrintMore
attribute [local go_sem] cell_isSome max2_int min2_int max_two min_two max_three min_three max_four min_four   -- for this text's walks alone
set_option linter.unusedVariables false
set_option linter.unusedSimpArgs false
set_option maxHeartbeats 8000000
set_option maxRecDepth 100000

/-! ### quillref10_Cells: function 81 -/
mutual
def quillref10_Cells.l0 : Nat → List Int → Bool → List Int → List Int → Int → Option (List Int × List Int)
  | 0, _, _, _, _, _ => none
  | k + 1, x0, x1, x6, x7, x8 => if x8 ≤ (x0.length : Int) then (if x8 = (x0.length : Int) then (quillref10_Cells.j1 k x0 x1 x6 x7 x8 true) else (if 0 ≤ x8 then (if x8 < (x0.length : Int) then (quillref10_Cells.j1 k x0 x1 x6 x7 x8 ((rd x0 x8) == 10)) else (none)) else (none))) else (some (x6, x7))
def quillref10_Cells.j1 : Nat → List Int → Bool → List Int → List Int → Int → Bool → Option (List Int × List Int)
  | 0, _, _, _, _, _, _ => none
  | k + 1, x0, x1, x6, x7, x8, x26 => if x26 = true then ((quillref1_Begin.f k x0 x8).bind fun t453 => (if t453 = x8 then (if x6.length < 17592186044416 then (if x7.length < 17592186044416 then (quillref10_Cells.l0 k x0 x1 (x6 ++ [x8]) (x7 ++ [3]) (wrap64 (x8 + 1))) else (none)) else (none)) else (quillref10_Cells.l0 k x0 x1 x6 x7 (wrap64 (x8 + 1))))) else (if 0 ≤ x8 then (if x8 < (x0.length : Int) then ((quillref1_Class.f k (wrap64 (rd x0 x8))).bind fun t461 => (if x1 = true then (if t461 = 2 then (if x6.length < 17592186044416 then (if x7.length < 17592186044416 then (quillref10_Cells.l0 k x0 x1 (x6 ++ [x8]) (x7 ++ [1]) (wrap64 (x8 + 1))) else (none)) else (none)) else (if x6.length < 17592186044416 then (if x7.length < 17592186044416 then (quillref10_Cells.l0 k x0 x1 (x6 ++ [x8]) (x7 ++ [t461]) (wrap64 (x8 + 1))) else (none)) else (none))) else (if x6.length < 17592186044416 then (if x7.length < 17592186044416 then (quillref10_Cells.l0 k x0 x1 (x6 ++ [x8]) (x7 ++ [t461]) (wrap64 (x8 + 1))) else (none)) else (none)))) else (none)) else (none))
end
def quillref10_Cells.f (k : Nat) (l0 : List Int) (a1 : Bool) : Option (List Int × List Int) := quillref10_Cells.l0 k l0 a1 ([] : List Int) ([] : List Int) 0
theorem quillref10_Cells.calls {k : Nat} {A0 : Option Addr} {c0 : Nat} {l0 : List Int} {a1 : Bool} {r1 : List Int} {r2 : List Int} {w : World} (hr0 : Kd.C (Kd.int .i32) w A0 l0.length l0) (hc0 : l0.length ≤ c0) (H : quillref10_Cells.f k l0 a1 = some (r1, r2)) :
  Calls Tryd.prog 81 #[.slice A0 l0.length c0, .bool a1] w fun e w' => ∃ v0_ v1_ : Value, e = .returned (.tuple #[v0_, v1_]) ∧ Kd.R (Kd.int .i64) 3 w' w.heap.size (fun k_ => some k_ ≠ (v1_ : Value).ownBlock) v0_ r1 ∧ Kd.R (Kd.int .i64) 3 w' w.heap.size (fun k_ => some k_ ≠ (v0_ : Value).ownBlock) v1_ r2 ∧ Below w.heap.size w w' := by
 have HR0 := Aside0.mk hr0; have HC0 := Aside0.mk hc0; clear hr0 hc0; have HB := Aside0.mk (Below.refl w.heap.size w); unfold quillref10_Cells.f at H; replace H := Aside0.mk H; go_enter Tryd.func81, Tryd.ntmps81
 go_wp2
 go_loopg [6, 7, 8] k (fun kq v6 v7 v8 w' => ∃ (x6_1 : List Int) (x7_1 : List Int) (x8_1 : Int), v8 = .int .i64 x8_1 ∧ Aside0 (quillref10_Cells.l0 kq l0 a1 x6_1 x7_1 x8_1 = some (r1, r2)) ∧ Aside0 (kq ≤ k) ∧ Aside0 (Kd.R (Kd.int .i64) 3 w' w.heap.size (fun k_ => some k_ ≠ (v7 : Value).ownBlock) v6 x6_1) ∧ Aside0 (Kd.R (Kd.int .i64) 3 w' w.heap.size (fun k_ => some k_ ≠ (v6 : Value).ownBlock) v7 x7_1) ∧ Aside0 (Below w.heap.size w w'))
 case atStart => exact ⟨(([] : List Int)), (([] : List Int)), (0), r3_, H, ⟨Nat.le_refl _⟩, ⟨by first | exact Kd.R_nil _ _ _ _ _ | exact Kd.N_nil _ _ _ _ _ | exact Kd.V_nil _ _ _ _ _ | exact Kd.Q_nil _ _ _ _ _ | exact Kd.S_nil _ _ _ _ _⟩, ⟨by first | exact Kd.R_nil _ _ _ _ _ | exact Kd.N_nil _ _ _ _ _ | exact Kd.V_nil _ _ _ _ _ | exact Kd.Q_nil _ _ _ _ _ | exact Kd.S_nil _ _ _ _ _⟩, ⟨bl_⟩⟩
 case round =>
  clear H; obtain ⟨x6_1, x7_1, x8_1, rfl, HA, HK1, HO_6, HO_7, HB⟩ := hrel
  cases gk with
  | zero => exact absurd HA.out (by simp [quillref10_Cells.l0])
  | succ k1 =>
   obtain ⟨H⟩ := HA; simp only [quillref10_Cells.l0] at H; replace H := nfd H; obtain ⟨c3b0, H⟩ | ⟨c3b0, H⟩ := H
   ·
    replace H := so2 H; obtain ⟨rfl, rfl⟩ := H; go_wp2
    go_ret2
    exact ⟨_, _, by first | rfl | (simp [errW_none, errW_some] <;> rfl) | (simp [*, errW_none, errW_some] <;> rfl), ro_ HO_6, ro_ HO_7, bl_⟩
   have HC4 := Aside0.mk H; clear H
   go_upto_region 5 with (fail)
   go_cut [26] (fun v26 wc => ∃ (kq : Nat) (x26_3 : Bool), v26 = .bool x26_3 ∧ Aside0 (quillref10_Cells.j1 kq l0 a1 x6_1 x7_1 x8_1 x26_3 = some (r1, r2)) ∧ Aside0 (kq ≤ k1) ∧ Aside0 (Kd.R (Kd.int .i64) 3 wc w.heap.size (fun k_ => some k_ ≠ (u7 : Value).ownBlock) u6 x6_1) ∧ Aside0 (Kd.R (Kd.int .i64) 3 wc w.heap.size (fun k_ => some k_ ≠ (u6 : Value).ownBlock) u7 x7_1) ∧ Aside0 (Below w.heap.size w wc))
   case first =>
    obtain ⟨H⟩ := HC4; replace H := ife H; obtain ⟨c5b0, c5b1, H⟩ | ⟨c5b0, c5b1, H⟩ := H
    ·
     (first | rw [c5b0] | (simp only [i64_w, i32_w]; rw [c5b0]) | skip); replace H := Aside0.mk H; go_wp2; go_meet
     case rel => exact ⟨_, (true), r3_, H, ⟨by have := HK1.out; first | omega | exact Nat.le_refl _⟩, ⟨ro_ HO_6⟩, ⟨ro_ HO_7⟩, ⟨bl_⟩⟩
    (first | rw [c5b0] | (simp only [i64_w, i32_w]; rw [c5b0]) | skip); replace H := ifq H; obtain ⟨c6b0, c7b0, H⟩ := H; replace H := Aside0.mk H; obtain ⟨p452, q452, ad452, e452, hx452_0⟩ := ix_ (Kd.at_int HR0.out x8_1); cases e452; replace hx452_0 := hb_ HB hx452_0; go_wp2; go_meet
    case rel => exact ⟨_, (((rd l0 x8_1) == 10)), r3_, H, ⟨by have := HK1.out; first | omega | exact Nat.le_refl _⟩, ⟨ro_ HO_6⟩, ⟨ro_ HO_7⟩, ⟨bl_⟩⟩
   case rest =>
    clear HC4
    try clear c3b0
    obtain ⟨kq, x26_3, rfl, HA, HJ3, HO_6, HO_7, HB⟩ := hcut
    cases kq with
    | zero => exact absurd HA.out (by simp [quillref10_Cells.j1])
    | succ kj3 =>
     obtain ⟨H⟩ := HA; simp only [quillref10_Cells.j1] at H; replace H := ifb H; obtain ⟨rfl, H⟩ | ⟨rfl, H⟩ := H
     ·
      replace H := bindA H; obtain ⟨t453, A9, H⟩ := H; (try dsimp only at H); replace H := nfe H; obtain ⟨c10b0, c10b1, H⟩ | ⟨c10b0, c10b1, H⟩ := H
      ·
       replace H := Aside0.mk H
       go_wp2_with (first | ((with_reducible refine gC 32 rfl ?_); refine goesL1 (some 29) Tryd.func32 #[.slice A0 l0.length c0, .int .i64 x8_1] rfl (map2 rfl rfl) ?_; refine cm_ (quillref1_Begin.calls sd_ sd_ A9.out) ?_; rintro e w' ⟨rfl, nd, rfl⟩; refine ⟨_, rfl, ?_⟩))
       go_roundg kj3
       case measure => have := HK1.out; have := HJ3.out; omega
       case rel => exact ⟨(x6_1), (x7_1), (wrap64 (x8_1 + 1)), r3_, H, ⟨by have := HK1.out; have := HJ3.out; omega⟩, ⟨ro_ HO_6⟩, ⟨ro_ HO_7⟩, ⟨bl_⟩⟩
      by_cases c11 : x6_1.length < 17592186044416
      rotate_left
      ·
       rw [if_neg c11] at H
       exact absurd H (by simp)
      rw [if_pos c11] at H; have LMc11 := Aside0.mk c11; clear c11; obtain ⟨y454, hy454⟩ : ∃ y_ : List Int, y_ = (x6_1 ++ [x8_1]) := ⟨_, rfl⟩
      replace H : (if x7_1.length < 17592186044416 then (quillref10_Cells.l0 kj3 l0 a1 y454 (x7_1 ++ [3]) (wrap64 (x8_1 + 1))) else (none)) = some (r1, r2) := by first | (rw [hy454]; with_reducible exact H) | (have H2_ := (Option.bind_some _ _).symm.trans H; rw [hy454]; with_reducible exact H2_) | (have H2_ := (Option.bind_some _ _).symm.trans H; with_reducible exact H2_) | with_reducible exact H | (rw [hy454]; exact H) | exact H
      have Ny454 := Aside0.mk hy454; clear hy454
      by_cases c12 : x7_1.length < 17592186044416
      rotate_left
      ·
       rw [if_neg c12] at H
       exact absurd H (by simp)
      rw [if_pos c12] at H; have LMc12 := Aside0.mk c12; clear c12; obtain ⟨y457, hy457⟩ : ∃ y_ : List Int, y_ = (x7_1 ++ [3]) := ⟨_, rfl⟩
      replace H : (quillref10_Cells.l0 kj3 l0 a1 y454 y457 (wrap64 (x8_1 + 1))) = some (r1, r2) := by first | (rw [hy457]; with_reducible exact H) | (have H2_ := (Option.bind_some _ _).symm.trans H; rw [hy457]; with_reducible exact H2_) | (have H2_ := (Option.bind_some _ _).symm.trans H; with_reducible exact H2_) | with_reducible exact H | (rw [hy457]; exact H) | exact H
      have Ny457 := Aside0.mk hy457; clear hy457; replace H := Aside0.mk H
      go_wp2_with (first | ((with_reducible refine gC 32 rfl ?_); refine goesL1 (some 29) Tryd.func32 #[.slice A0 l0.length c0, .int .i64 x8_1] rfl (map2 rfl rfl) ?_; refine cm_ (quillref1_Begin.calls sd_ sd_ A9.out) ?_; rintro e w' ⟨rfl, nd, rfl⟩; refine ⟨_, rfl, ?_⟩) | ((with_reducible refine gate_builtin (b := .append) (xs := #[.tmp 32, .tmp 34]) rfl ?_); at_builtin; refine Kd.R_append (Kd.int .i64) (w0 := w) w.heap.size rfl (.tmp 32) (.tmp 34) 37 3 (.int .i64 0) 8 rfl Tryd.underlying37 info3 rfl (by decide) (by omega) u6 x6_1 x8_1 [.int .i64 x8_1] (fun k_ => some k_ ≠ (u7 : Value).ownBlock) (fun _ => False) rfl rfl ?aP (fun _ hk => hk.elim) ?aF ?aO ?aB ?aS ?aL ?_; (case aP => exact rfl); (case aB => exact bl_); (case aF => exact (fun k_ hk => Kd.fresh' (Kd.R_lt (ro_ HO_7)) k_ hk)); (case aO => exact (ro_ HO_6)); (case aS => exact (below_size bl_)); (case aL => have := LMc11.out; omega); intro v455 w13 ho hb hg hat; rw [← Ny454.out] at ho; have HO456 := Aside0.mk (ho); replace HO_7 := Aside0.mk (Kd.R_after (ok := (fun _ => True)) (by (with_reducible repeat (first | apply Kd.R_alloc | apply Kd.R_drewN | apply Kd.R_drew)); exact Kd.R_mono HO_7.out (fun _ hk => ⟨trivial, hk⟩)) hg hat); replace HB := Aside0.mk (hb); clear HO_6; clear ho hb hg hat) | ((with_reducible refine gate_builtin (b := .append) (xs := #[.tmp 36, .tmp 37]) rfl ?_); at_builtin; refine Kd.R_append (Kd.int .i64) (w0 := w) w.heap.size rfl (.tmp 36) (.tmp 37) 37 3 (.int .i64 0) 8 rfl Tryd.underlying37 info3 rfl (by decide) (by omega) u7 x7_1 3 [.int .i64 3] (fun k_ => some k_ ≠ (v455 : Value).ownBlock) (fun _ => False) rfl rfl ?aP (fun _ hk => hk.elim) ?aF ?aO ?aB ?aS ?aL ?_; (case aP => exact rfl); (case aB => exact bl_); (case aF => exact (fun k_ hk => Kd.fresh' (Kd.R_lt (ro_ HO456)) k_ hk)); (case aO => exact (by (with_reducible repeat (first | apply Kd.R_alloc | apply Kd.R_drewN | apply Kd.R_drew)); exact Kd.R_mono HO_7.out (fun _ hk => hk.2))); (case aS => exact (below_size bl_)); (case aL => have := LMc12.out; omega); intro v458 w14 ho hb hg hat; rw [← Ny457.out] at ho; have HO459 := Aside0.mk (ho); replace HO456 := Aside0.mk (Kd.R_after (ok := (fun _ => True)) (by (with_reducible repeat (first | apply Kd.R_alloc | apply Kd.R_drewN | apply Kd.R_drew)); exact Kd.R_mono HO456.out (fun _ hk => ⟨trivial, hk⟩)) hg hat); replace HB := Aside0.mk (hb); clear HO_7; clear ho hb hg hat))
      go_roundg kj3
      case measure => have := HK1.out; have := HJ3.out; omega
      case rel => exact ⟨(y454), (y457), (wrap64 (x8_1 + 1)), r3_, H, ⟨by have := HK1.out; have := HJ3.out; omega⟩, ⟨by (with_reducible repeat (first | apply Kd.R_alloc | apply Kd.R_drewN | apply Kd.R_drew)); exact Kd.R_mono HO456.out (fun _ hk => hk.2)⟩, ⟨ro_ HO459⟩, ⟨bl_⟩⟩
     replace H := ifq H; obtain ⟨c15b0, c16b0, H⟩ := H; replace H := bindA H; obtain ⟨t461, A17, H⟩ := H; (try dsimp only at H); replace H := nfb H; obtain ⟨rfl, H⟩ | ⟨rfl, H⟩ := H
     ·
      by_cases c28 : x6_1.length < 17592186044416
      rotate_left
      ·
       rw [if_neg c28] at H
       exact absurd H (by simp)
      rw [if_pos c28] at H; have LMc28 := Aside0.mk c28; clear c28; obtain ⟨y474, hy474⟩ : ∃ y_ : List Int, y_ = (x6_1 ++ [x8_1]) := ⟨_, rfl⟩
      replace H : (if x7_1.length < 17592186044416 then (quillref10_Cells.l0 kj3 l0 false y474 (x7_1 ++ [t461]) (wrap64 (x8_1 + 1))) else (none)) = some (r1, r2) := by first | (rw [hy474]; with_reducible exact H) | (have H2_ := (Option.bind_some _ _).symm.trans H; rw [hy474]; with_reducible exact H2_) | (have H2_ := (Option.bind_some _ _).symm.trans H; with_reducible exact H2_) | with_reducible exact H | (rw [hy474]; exact H) | exact H
      have Ny474 := Aside0.mk hy474; clear hy474
      by_cases c29 : x7_1.length < 17592186044416
      rotate_left
      ·
       rw [if_neg c29] at H
       exact absurd H (by simp)
      rw [if_pos c29] at H; have LMc29 := Aside0.mk c29; clear c29; obtain ⟨y477, hy477⟩ : ∃ y_ : List Int, y_ = (x7_1 ++ [t461]) := ⟨_, rfl⟩
      replace H : (quillref10_Cells.l0 kj3 l0 false y474 y477 (wrap64 (x8_1 + 1))) = some (r1, r2) := by first | (rw [hy477]; with_reducible exact H) | (have H2_ := (Option.bind_some _ _).symm.trans H; rw [hy477]; with_reducible exact H2_) | (have H2_ := (Option.bind_some _ _).symm.trans H; with_reducible exact H2_) | with_reducible exact H | (rw [hy477]; exact H) | exact H
      have Ny477 := Aside0.mk hy477; clear hy477; replace H := Aside0.mk H; obtain ⟨p460, q460, ad460, e460, hx460_0⟩ := ix_ (Kd.at_int HR0.out x8_1); cases e460; replace hx460_0 := hb_ HB hx460_0
      go_wp2_with (first | ((with_reducible refine gC 87 rfl ?_); refine goesL1 (some 44) Tryd.func87 #[.int .i64 (wrap64 (rd l0 x8_1))] rfl (map1 rfl) ?_; (with_reducible refine (quillref1_Class.calls A17.out).mono ?_); rintro e w' ⟨rfl, nd, rfl⟩; refine ⟨_, rfl, ?_⟩) | ((with_reducible refine gate_builtin (b := .append) (xs := #[.tmp 50, .tmp 52]) rfl ?_); at_builtin; refine Kd.R_append (Kd.int .i64) (w0 := w) w.heap.size rfl (.tmp 50) (.tmp 52) 37 3 (.int .i64 0) 8 rfl Tryd.underlying37 info3 rfl (by decide) (by omega) u6 x6_1 x8_1 [.int .i64 x8_1] (fun k_ => some k_ ≠ (u7 : Value).ownBlock) (fun _ => False) rfl rfl ?aP (fun _ hk => hk.elim) ?aF ?aO ?aB ?aS ?aL ?_; (case aP => exact rfl); (case aB => exact bl_); (case aF => exact (fun k_ hk => Kd.fresh' (Kd.R_lt (ro_ HO_7)) k_ hk)); (case aO => exact (ro_ HO_6)); (case aS => exact (below_size bl_)); (case aL => have := LMc28.out; omega); intro v475 w30 ho hb hg hat; rw [← Ny474.out] at ho; have HO476 := Aside0.mk (ho); replace HO_7 := Aside0.mk (Kd.R_after (ok := (fun _ => True)) (by (with_reducible repeat (first | apply Kd.R_alloc | apply Kd.R_drewN | apply Kd.R_drew)); exact Kd.R_mono HO_7.out (fun _ hk => ⟨trivial, hk⟩)) hg hat); replace HB := Aside0.mk (hb); clear HO_6; clear ho hb hg hat) | ((with_reducible refine gate_builtin (b := .append) (xs := #[.tmp 54, .tmp 56]) rfl ?_); at_builtin; refine Kd.R_append (Kd.int .i64) (w0 := w) w.heap.size rfl (.tmp 54) (.tmp 56) 37 3 (.int .i64 0) 8 rfl Tryd.underlying37 info3 rfl (by decide) (by omega) u7 x7_1 t461 [.int .i64 t461] (fun k_ => some k_ ≠ (v475 : Value).ownBlock) (fun _ => False) rfl rfl ?aP (fun _ hk => hk.elim) ?aF ?aO ?aB ?aS ?aL ?_; (case aP => exact rfl); (case aB => exact bl_); (case aF => exact (fun k_ hk => Kd.fresh' (Kd.R_lt (ro_ HO476)) k_ hk)); (case aO => exact (by (with_reducible repeat (first | apply Kd.R_alloc | apply Kd.R_drewN | apply Kd.R_drew)); exact Kd.R_mono HO_7.out (fun _ hk => hk.2))); (case aS => exact (below_size bl_)); (case aL => have := LMc29.out; omega); intro v478 w31 ho hb hg hat; rw [← Ny477.out] at ho; have HO479 := Aside0.mk (ho); replace HO476 := Aside0.mk (Kd.R_after (ok := (fun _ => True)) (by (with_reducible repeat (first | apply Kd.R_alloc | apply Kd.R_drewN | apply Kd.R_drew)); exact Kd.R_mono HO476.out (fun _ hk => ⟨trivial, hk⟩)) hg hat); replace HB := Aside0.mk (hb); clear HO_7; clear ho hb hg hat))
      go_roundg kj3
      case measure => have := HK1.out; have := HJ3.out; omega
      case rel => exact ⟨(y474), (y477), (wrap64 (x8_1 + 1)), r3_, H, ⟨by have := HK1.out; have := HJ3.out; omega⟩, ⟨by (with_reducible repeat (first | apply Kd.R_alloc | apply Kd.R_drewN | apply Kd.R_drew)); exact Kd.R_mono HO476.out (fun _ hk => hk.2)⟩, ⟨ro_ HO479⟩, ⟨bl_⟩⟩
     replace H := nfe H; obtain ⟨c19b0, c19b1, H⟩ | ⟨c19b0, c19b1, H⟩ := H
     ·
      by_cases c24 : x6_1.length < 17592186044416
      rotate_left
      ·
       rw [if_neg c24] at H
       exact absurd H (by simp)
      rw [if_pos c24] at H; have LMc24 := Aside0.mk c24; clear c24; obtain ⟨y468, hy468⟩ : ∃ y_ : List Int, y_ = (x6_1 ++ [x8_1]) := ⟨_, rfl⟩
      replace H : (if x7_1.length < 17592186044416 then (quillref10_Cells.l0 kj3 l0 true y468 (x7_1 ++ [t461]) (wrap64 (x8_1 + 1))) else (none)) = some (r1, r2) := by first | (rw [hy468]; with_reducible exact H) | (have H2_ := (Option.bind_some _ _).symm.trans H; rw [hy468]; with_reducible exact H2_) | (have H2_ := (Option.bind_some _ _).symm.trans H; with_reducible exact H2_) | with_reducible exact H | (rw [hy468]; exact H) | exact H
      have Ny468 := Aside0.mk hy468; clear hy468
      by_cases c25 : x7_1.length < 17592186044416
      rotate_left
      ·
       rw [if_neg c25] at H
       exact absurd H (by simp)
      rw [if_pos c25] at H; have LMc25 := Aside0.mk c25; clear c25; obtain ⟨y471, hy471⟩ : ∃ y_ : List Int, y_ = (x7_1 ++ [t461]) := ⟨_, rfl⟩
      replace H : (quillref10_Cells.l0 kj3 l0 true y468 y471 (wrap64 (x8_1 + 1))) = some (r1, r2) := by first | (rw [hy471]; with_reducible exact H) | (have H2_ := (Option.bind_some _ _).symm.trans H; rw [hy471]; with_reducible exact H2_) | (have H2_ := (Option.bind_some _ _).symm.trans H; with_reducible exact H2_) | with_reducible exact H | (rw [hy471]; exact H) | exact H
      have Ny471 := Aside0.mk hy471; clear hy471; replace H := Aside0.mk H; obtain ⟨p460, q460, ad460, e460, hx460_0⟩ := ix_ (Kd.at_int HR0.out x8_1); cases e460; replace hx460_0 := hb_ HB hx460_0
      go_wp2_with (first | ((with_reducible refine gC 87 rfl ?_); refine goesL1 (some 44) Tryd.func87 #[.int .i64 (wrap64 (rd l0 x8_1))] rfl (map1 rfl) ?_; (with_reducible refine (quillref1_Class.calls A17.out).mono ?_); rintro e w' ⟨rfl, nd, rfl⟩; refine ⟨_, rfl, ?_⟩) | ((with_reducible refine gate_builtin (b := .append) (xs := #[.tmp 50, .tmp 52]) rfl ?_); at_builtin; refine Kd.R_append (Kd.int .i64) (w0 := w) w.heap.size rfl (.tmp 50) (.tmp 52) 37 3 (.int .i64 0) 8 rfl Tryd.underlying37 info3 rfl (by decide) (by omega) u6 x6_1 x8_1 [.int .i64 x8_1] (fun k_ => some k_ ≠ (u7 : Value).ownBlock) (fun _ => False) rfl rfl ?aP (fun _ hk => hk.elim) ?aF ?aO ?aB ?aS ?aL ?_; (case aP => exact rfl); (case aB => exact bl_); (case aF => exact (fun k_ hk => Kd.fresh' (Kd.R_lt (ro_ HO_7)) k_ hk)); (case aO => exact (ro_ HO_6)); (case aS => exact (below_size bl_)); (case aL => have := LMc24.out; omega); intro v469 w26 ho hb hg hat; rw [← Ny468.out] at ho; have HO470 := Aside0.mk (ho); replace HO_7 := Aside0.mk (Kd.R_after (ok := (fun _ => True)) (by (with_reducible repeat (first | apply Kd.R_alloc | apply Kd.R_drewN | apply Kd.R_drew)); exact Kd.R_mono HO_7.out (fun _ hk => ⟨trivial, hk⟩)) hg hat); replace HB := Aside0.mk (hb); clear HO_6; clear ho hb hg hat) | ((with_reducible refine gate_builtin (b := .append) (xs := #[.tmp 54, .tmp 56]) rfl ?_); at_builtin; refine Kd.R_append (Kd.int .i64) (w0 := w) w.heap.size rfl (.tmp 54) (.tmp 56) 37 3 (.int .i64 0) 8 rfl Tryd.underlying37 info3 rfl (by decide) (by omega) u7 x7_1 t461 [.int .i64 t461] (fun k_ => some k_ ≠ (v469 : Value).ownBlock) (fun _ => False) rfl rfl ?aP (fun _ hk => hk.elim) ?aF ?aO ?aB ?aS ?aL ?_; (case aP => exact rfl); (case aB => exact bl_); (case aF => exact (fun k_ hk => Kd.fresh' (Kd.R_lt (ro_ HO470)) k_ hk)); (case aO => exact (by (with_reducible repeat (first | apply Kd.R_alloc | apply Kd.R_drewN | apply Kd.R_drew)); exact Kd.R_mono HO_7.out (fun _ hk => hk.2))); (case aS => exact (below_size bl_)); (case aL => have := LMc25.out; omega); intro v472 w27 ho hb hg hat; rw [← Ny471.out] at ho; have HO473 := Aside0.mk (ho); replace HO470 := Aside0.mk (Kd.R_after (ok := (fun _ => True)) (by (with_reducible repeat (first | apply Kd.R_alloc | apply Kd.R_drewN | apply Kd.R_drew)); exact Kd.R_mono HO470.out (fun _ hk => ⟨trivial, hk⟩)) hg hat); replace HB := Aside0.mk (hb); clear HO_7; clear ho hb hg hat))
      go_roundg kj3
      case measure => have := HK1.out; have := HJ3.out; omega
      case rel => exact ⟨(y468), (y471), (wrap64 (x8_1 + 1)), r3_, H, ⟨by have := HK1.out; have := HJ3.out; omega⟩, ⟨by (with_reducible repeat (first | apply Kd.R_alloc | apply Kd.R_drewN | apply Kd.R_drew)); exact Kd.R_mono HO470.out (fun _ hk => hk.2)⟩, ⟨ro_ HO473⟩, ⟨bl_⟩⟩
     by_cases c20 : x6_1.length < 17592186044416
     rotate_left
     ·
      rw [if_neg c20] at H
      exact absurd H (by simp)
     rw [if_pos c20] at H; have LMc20 := Aside0.mk c20; clear c20; obtain ⟨y462, hy462⟩ : ∃ y_ : List Int, y_ = (x6_1 ++ [x8_1]) := ⟨_, rfl⟩
     replace H : (if x7_1.length < 17592186044416 then (quillref10_Cells.l0 kj3 l0 true y462 (x7_1 ++ [1]) (wrap64 (x8_1 + 1))) else (none)) = some (r1, r2) := by first | (rw [hy462]; with_reducible exact H) | (have H2_ := (Option.bind_some _ _).symm.trans H; rw [hy462]; with_reducible exact H2_) | (have H2_ := (Option.bind_some _ _).symm.trans H; with_reducible exact H2_) | with_reducible exact H | (rw [hy462]; exact H) | exact H
     have Ny462 := Aside0.mk hy462; clear hy462
     by_cases c21 : x7_1.length < 17592186044416
     rotate_left
     ·
      rw [if_neg c21] at H
      exact absurd H (by simp)
     rw [if_pos c21] at H; have LMc21 := Aside0.mk c21; clear c21; obtain ⟨y465, hy465⟩ : ∃ y_ : List Int, y_ = (x7_1 ++ [1]) := ⟨_, rfl⟩
     replace H : (quillref10_Cells.l0 kj3 l0 true y462 y465 (wrap64 (x8_1 + 1))) = some (r1, r2) := by first | (rw [hy465]; with_reducible exact H) | (have H2_ := (Option.bind_some _ _).symm.trans H; rw [hy465]; with_reducible exact H2_) | (have H2_ := (Option.bind_some _ _).symm.trans H; with_reducible exact H2_) | with_reducible exact H | (rw [hy465]; exact H) | exact H
     have Ny465 := Aside0.mk hy465; clear hy465; replace H := Aside0.mk H; obtain ⟨p460, q460, ad460, e460, hx460_0⟩ := ix_ (Kd.at_int HR0.out x8_1); cases e460; replace hx460_0 := hb_ HB hx460_0
     go_wp2_with (first | ((with_reducible refine gC 87 rfl ?_); refine goesL1 (some 44) Tryd.func87 #[.int .i64 (wrap64 (rd l0 x8_1))] rfl (map1 rfl) ?_; (with_reducible refine (quillref1_Class.calls A17.out).mono ?_); rintro e w' ⟨rfl, nd, rfl⟩; refine ⟨_, rfl, ?_⟩) | ((with_reducible refine gate_builtin (b := .append) (xs := #[.tmp 50, .tmp 52]) rfl ?_); at_builtin; refine Kd.R_append (Kd.int .i64) (w0 := w) w.heap.size rfl (.tmp 50) (.tmp 52) 37 3 (.int .i64 0) 8 rfl Tryd.underlying37 info3 rfl (by decide) (by omega) u6 x6_1 x8_1 [.int .i64 x8_1] (fun k_ => some k_ ≠ (u7 : Value).ownBlock) (fun _ => False) rfl rfl ?aP (fun _ hk => hk.elim) ?aF ?aO ?aB ?aS ?aL ?_; (case aP => exact rfl); (case aB => exact bl_); (case aF => exact (fun k_ hk => Kd.fresh' (Kd.R_lt (ro_ HO_7)) k_ hk)); (case aO => exact (ro_ HO_6)); (case aS => exact (below_size bl_)); (case aL => have := LMc20.out; omega); intro v463 w22 ho hb hg hat; rw [← Ny462.out] at ho; have HO464 := Aside0.mk (ho); replace HO_7 := Aside0.mk (Kd.R_after (ok := (fun _ => True)) (by (with_reducible repeat (first | apply Kd.R_alloc | apply Kd.R_drewN | apply Kd.R_drew)); exact Kd.R_mono HO_7.out (fun _ hk => ⟨trivial, hk⟩)) hg hat); replace HB := Aside0.mk (hb); clear HO_6; clear ho hb hg hat) | ((with_reducible refine gate_builtin (b := .append) (xs := #[.tmp 54, .tmp 56]) rfl ?_); at_builtin; refine Kd.R_append (Kd.int .i64) (w0 := w) w.heap.size rfl (.tmp 54) (.tmp 56) 37 3 (.int .i64 0) 8 rfl Tryd.underlying37 info3 rfl (by decide) (by omega) u7 x7_1 1 [.int .i64 1] (fun k_ => some k_ ≠ (v463 : Value).ownBlock) (fun _ => False) rfl rfl ?aP (fun _ hk => hk.elim) ?aF ?aO ?aB ?aS ?aL ?_; (case aP => exact rfl); (case aB => exact bl_); (case aF => exact (fun k_ hk => Kd.fresh' (Kd.R_lt (ro_ HO464)) k_ hk)); (case aO => exact (by (with_reducible repeat (first | apply Kd.R_alloc | apply Kd.R_drewN | apply Kd.R_drew)); exact Kd.R_mono HO_7.out (fun _ hk => hk.2))); (case aS => exact (below_size bl_)); (case aL => have := LMc21.out; omega); intro v466 w23 ho hb hg hat; rw [← Ny465.out] at ho; have HO467 := Aside0.mk (ho); replace HO464 := Aside0.mk (Kd.R_after (ok := (fun _ => True)) (by (with_reducible repeat (first | apply Kd.R_alloc | apply Kd.R_drewN | apply Kd.R_drew)); exact Kd.R_mono HO464.out (fun _ hk => ⟨trivial, hk⟩)) hg hat); replace HB := Aside0.mk (hb); clear HO_7; clear ho hb hg hat))
     go_roundg kj3
     case measure => have := HK1.out; have := HJ3.out; omega
     case rel => exact ⟨(y462), (y465), (wrap64 (x8_1 + 1)), r3_, H, ⟨by have := HK1.out; have := HJ3.out; omega⟩, ⟨by (with_reducible repeat (first | apply Kd.R_alloc | apply Kd.R_drewN | apply Kd.R_drew)); exact Kd.R_mono HO464.out (fun _ hk => hk.2)⟩, ⟨ro_ HO467⟩, ⟨bl_⟩⟩

/-! ### quillref10_edge: function 82 -/
def quillref10_edge.f (l0 : List Int) (l1 : List Int) (a2 : Int) (a3 : Int) : Option (Bool) := if 0 ≤ a2 then (if a2 < (l1.length : Int) then (if (rd l1 a2) = 0 then (some ((rd l1 a2) == 3)) else (if (rd l1 a2) = 3 then (some ((rd l1 a2) == 3)) else (if (wrap64 (a2 + a3)) < 0 then (some true) else (if (wrap64 (a2 + a3)) ≥ (l0.length : Int) then (some true) else (if 0 ≤ (wrap64 (a2 + a3)) then (if (wrap64 (a2 + a3)) < (l0.length : Int) then (if a2 < (l0.length : Int) then (if (rd l0 (wrap64 (a2 + a3))) = (wrap64 ((rd l0 a2) + a3)) then (if (wrap64 (a2 + a3)) < (l1.length : Int) then (some ((rd l1 (wrap64 (a2 + a3))) != (rd l1 a2))) else (none)) else (some true)) else (none)) else (none)) else (none)))))) else (none)) else (none)
theorem quillref10_edge.calls {A0 : Option Addr} {c0 : Nat} {l0 : List Int} {A1 : Option Addr} {c1 : Nat} {l1 : List Int} {a2 : Int} {a3 : Int} {r : Bool} {w : World} (hr0 : Kd.C (Kd.int .i64) w A0 l0.length l0) (hc0 : l0.length ≤ c0) (hr1 : Kd.C (Kd.int .i64) w A1 l1.length l1) (hc1 : l1.length ≤ c1) (H : quillref10_edge.f l0 l1 a2 a3 = some r) :
  Calls Tryd.prog 82 #[.slice A0 l0.length c0, .slice A1 l1.length c1, .int .i64 a2, .int .i64 a3] w fun e w' => e = .returned (.bool r) ∧ Drawn0 w w' := by
 have HR0 := Aside0.mk hr0; have HC0 := Aside0.mk hc0; clear hr0 hc0; have HR1 := Aside0.mk hr1; have HC1 := Aside0.mk hc1; clear hr1 hc1; unfold quillref10_edge.f at H; replace H := ifq H; obtain ⟨c5b0, c6b0, H⟩ := H; replace H := ife H; obtain ⟨c7b0, c7b1, H⟩ | ⟨c7b0, c7b1, H⟩ := H
 ·
  obtain rfl := Option.some.inj H; obtain ⟨p480, q480, ad480, e480, hx480_0⟩ := ix_ (Kd.at_int HR1.out a2); cases e480; have p481 := od_ (0 ≤ (a2 : Int)); have q481 := od_ (a2 < (l1.length : Int)); obtain ⟨ad481, e481, hx481_0⟩ := Kd.at_int HR1.out a2 p481 q481; obtain rfl : ad480 = ad481 := (by injection e481); replace p481 := eq_true p481; replace q481 := eq_true q481; go_enter Tryd.func82, Tryd.ntmps82
  go_wp2
  repeat (go_quiet (fail); try go_wp2)
  go_ret
  exact ⟨r3_, dr_⟩
 replace H := ife H; obtain ⟨c8b0, c8b1, H⟩ | ⟨c8b0, c8b1, H⟩ := H
 ·
  obtain rfl := Option.some.inj H; obtain ⟨p480, q480, ad480, e480, hx480_0⟩ := ix_ (Kd.at_int HR1.out a2); cases e480; have p482 := od_ (0 ≤ (a2 : Int)); have q482 := od_ (a2 < (l1.length : Int)); obtain ⟨ad482, e482, hx482_0⟩ := Kd.at_int HR1.out a2 p482 q482; obtain rfl : ad480 = ad482 := (by injection e482); replace p482 := eq_true p482; replace q482 := eq_true q482; have p483 := od_ (0 ≤ (a2 : Int))
  have q483 := od_ (a2 < (l1.length : Int)); obtain ⟨ad483, e483, hx483_0⟩ := Kd.at_int HR1.out a2 p483 q483; obtain rfl : ad480 = ad483 := (by injection e483); replace p483 := eq_true p483; replace q483 := eq_true q483; go_enter Tryd.func82, Tryd.ntmps82
  go_wp2
  repeat (go_quiet (fail); try go_wp2)
  go_ret
  exact ⟨r3_, dr_⟩
 replace H := ifd H; obtain ⟨c9b0, H⟩ | ⟨c9b0, H⟩ := H
 ·
  obtain rfl := Option.some.inj H; obtain ⟨p480, q480, ad480, e480, hx480_0⟩ := ix_ (Kd.at_int HR1.out a2); cases e480; have p482 := od_ (0 ≤ (a2 : Int)); have q482 := od_ (a2 < (l1.length : Int)); obtain ⟨ad482, e482, hx482_0⟩ := Kd.at_int HR1.out a2 p482 q482; obtain rfl : ad480 = ad482 := (by injection e482); replace p482 := eq_true p482; replace q482 := eq_true q482; go_enter Tryd.func82, Tryd.ntmps82
  go_wp2
  repeat (go_quiet (fail); try go_wp2)
  go_ret
  exact ⟨r3_, dr_⟩
 replace H := ifd H; obtain ⟨c10b0, H⟩ | ⟨c10b0, H⟩ := H
 ·
  obtain rfl := Option.some.inj H; obtain ⟨p480, q480, ad480, e480, hx480_0⟩ := ix_ (Kd.at_int HR1.out a2); cases e480; have p482 := od_ (0 ≤ (a2 : Int)); have q482 := od_ (a2 < (l1.length : Int)); obtain ⟨ad482, e482, hx482_0⟩ := Kd.at_int HR1.out a2 p482 q482; obtain rfl : ad480 = ad482 := (by injection e482); replace p482 := eq_true p482; replace q482 := eq_true q482; go_enter Tryd.func82, Tryd.ntmps82
  go_wp2
  repeat (go_quiet (fail); try go_wp2)
  go_ret
  exact ⟨r3_, dr_⟩
 obtain ⟨ji11, hji11⟩ : ∃ j_ : Int, (wrap64 (a2 + a3)) = j_ := ⟨_, rfl⟩; (first | rw [hji11] at H | simp only [hji11] at H); (try rw [hji11] at c9b0); (try rw [hji11] at c10b0)
 have hji11w : (IntKind.i64.wrap (a2 + a3)) = ji11 := (i64_w _).trans hji11
 replace H := ifq H; obtain ⟨c12b0, c13b0, H⟩ := H; replace H := ifdn H; obtain ⟨c14b0, H⟩ := H; replace H := nfe H; obtain ⟨c15b0, c15b1, H⟩ | ⟨c15b0, c15b1, H⟩ := H
 ·
  obtain rfl := Option.some.inj H; obtain ⟨p480, q480, ad480, e480, hx480_0⟩ := ix_ (Kd.at_int HR1.out a2); cases e480; have p482 := od_ (0 ≤ (a2 : Int)); have q482 := od_ (a2 < (l1.length : Int)); obtain ⟨ad482, e482, hx482_0⟩ := Kd.at_int HR1.out a2 p482 q482; obtain rfl : ad480 = ad482 := (by injection e482); replace p482 := eq_true p482; replace q482 := eq_true q482; obtain ⟨p484, q484, ad484, e484, hx484_0⟩ := ix_ (Kd.at_int HR0.out (ji11))
  cases e484; have p485 := od_ (0 ≤ (a2 : Int))
  have q485 := od_ (a2 < (l0.length : Int)); obtain ⟨ad485, e485, hx485_0⟩ := Kd.at_int HR0.out a2 p485 q485; obtain rfl : ad484 = ad485 := (by injection e485); replace p485 := eq_true p485; replace q485 := eq_true q485; go_enter Tryd.func82, Tryd.ntmps82
  go_wp2
  repeat (go_quiet (fail); try go_wp2)
  go_ret
  exact ⟨by first | rfl | (simp; done) | (simp only [← hji11] <;> (first | rfl | simp)) | (simp [*]; done), dr_⟩
 replace H := ifdn H; obtain ⟨c16b0, H⟩ := H; obtain rfl := Option.some.inj H; obtain ⟨p480, q480, ad480, e480, hx480_0⟩ := ix_ (Kd.at_int HR1.out a2); cases e480; have p482 := od_ (0 ≤ (a2 : Int)); have q482 := od_ (a2 < (l1.length : Int)); obtain ⟨ad482, e482, hx482_0⟩ := Kd.at_int HR1.out a2 p482 q482; obtain rfl : ad480 = ad482 := (by injection e482); replace p482 := eq_true p482; replace q482 := eq_true q482
 obtain ⟨p484, q484, ad484, e484, hx484_0⟩ := ix_ (Kd.at_int HR0.out (ji11)); cases e484; have p485 := od_ (0 ≤ (a2 : Int)); have q485 := od_ (a2 < (l0.length : Int)); obtain ⟨ad485, e485, hx485_0⟩ := Kd.at_int HR0.out a2 p485 q485; obtain rfl : ad484 = ad485 := (by injection e485); replace p485 := eq_true p485; replace q485 := eq_true q485; have p486 := od_ (0 ≤ ((ji11) : Int)); have q486 := od_ ((ji11) < (l1.length : Int))
 obtain ⟨ad486, e486, hx486_0⟩ := Kd.at_int HR1.out (ji11) p486 q486; obtain rfl : ad480 = ad486 := (by injection e486); replace p486 := eq_true p486; replace q486 := eq_true q486; have p487 := od_ (0 ≤ (a2 : Int)); have q487 := od_ (a2 < (l1.length : Int)); obtain ⟨ad487, e487, hx487_0⟩ := Kd.at_int HR1.out a2 p487 q487; obtain rfl : ad480 = ad487 := (by injection e487); replace p487 := eq_true p487
 replace q487 := eq_true q487; go_enter Tryd.func82, Tryd.ntmps82
 go_wp2
 repeat (go_quiet (fail); try go_wp2)
 go_ret
 exact ⟨by first | rfl | (simp; done) | (simp only [← hji11] <;> (first | rfl | simp)) | (simp [*]; done), dr_⟩

end Go.Proofs.YtbgmmcngkdhpcaaDoor.P
