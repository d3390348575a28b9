/- The walks of the functions that these statements reach: each Go function as a plain Lean function, and the proof that its call comes to that. Written by the session's program wip/pp.py. -/
import Derived.Test.YtbgmmcngkdhpcaaDoorP0
import Derived.Test.YtbgmmcngkdhpcaaDoorP6
import Derived.Test.YtbgmmcngkdhpcaaDoorP9
import Derived.Test.YtbgmmcngkdhpcaaDoorP12
namespace Go.Proofs.YtbgmmcngkdhpcaaDoor.P
open Go.Proofs.YtbgmmcngkdhpcaaDoor
open Go.RowKit Go.Proofs.YtbgmmcngkdhpcaaDoorW.PrintWords Go.Proofs.YtbgmmcngkdhpcaaDoorW.PrintLast Go.Proofs.YtbgmmcngkdhpcaaDoorW.PrintMore
attribute [local go_sem] cell_isSome max2_int min2_int max_two min_two max_three min_three max_four min_four   -- for this text's walks alone
set_option linter.unusedVariables false
set_option linter.unusedSimpArgs false
set_option maxHeartbeats 8000000
set_option maxRecDepth 100000

/-! ### lines_mover_down: function 98 -/
mutual
def lines_mover_down.j0 : Nat → Int → Int → Bool → List Int → List Int → Int → Int → Int → Int → Bool → Option (Int × Int × Int)
  | 0, _, _, _, _, _, _, _, _, _, _ => none
  | k + 1, x1, x8, x25, v0, v1, v2, v3, v4, v5, v6 => if x25 = true then (some (0, 0, 6)) else (if x1 = 36 then ((text_Map_End.f v0 v1 x8).bind fun t324 => (some (t324, 1, 0))) else (if x1 = 106 then (lines_mover_down.j1 k x8 (x1 == 106) v0 v1 v2 v3 v4 v5 v6) else (lines_mover_down.j1 k x8 (x1 == 107) v0 v1 v2 v3 v4 v5 v6)))
def lines_mover_down.j1 : Nat → Int → Bool → List Int → List Int → Int → Int → Int → Int → Bool → Option (Int × Int × Int)
  | 0, _, _, _, _, _, _, _, _, _ => none
  | k + 1, x8, x37, v0, v1, v2, v3, v4, v5, v6 => if x37 = true then ((text_Map_Col.f v0 v1 x8 v4).bind fun t325 => (some (t325, 2, 0))) else ((text_Map_First.f k v0 v1 x8).bind fun t326 => (some (t326, 2, 0)))
end
def lines_mover_down.f (k : Nat) (l0_0 : List Int) (l0_1 : List Int) (a0_2 : Int) (a0_3 : Int) (a0_4 : Int) (a0_5 : Int) (a0_6 : Bool) (a1 : Int) (a2 : Int) : Option (Int × Int × Int) := if (wrap64 (a0_3 + a2)) < 0 then (lines_mover_down.j0 k a1 (wrap64 (a0_3 + a2)) true l0_0 l0_1 a0_2 a0_3 a0_4 a0_5 a0_6) else ((text_Map_Rows.f l0_0 l0_1).bind fun t323 => (lines_mover_down.j0 k a1 (wrap64 (a0_3 + a2)) (decide ((wrap64 (a0_3 + a2)) ≥ t323)) l0_0 l0_1 a0_2 a0_3 a0_4 a0_5 a0_6))
def lines_mover_down.T9 : Bool × List (List Nat × List Nat) := (true, [([], []), ([0], [0]), ([1], [1]), ([2], [2]), ([], []), ([], []), ([5], [5]), ([6], [6]), ([7], [7]), ([3, 4, 8], [3, 4, 8]), ([9], [9]), ([10, 9, 0, 1, 2, 3, 4, 5, 6, 7, 8, 9, 10], [10]), ([11, 0, 1, 2, 3, 4, 5, 6, 7, 8, 9, 10, 11], [])])
def lines_mover_down.B9 : List Nat := [0, 1, 3, 7, 0, 0, 32, 96, 224, 511, 1023, 2047, 4095]
theorem lines_mover_down.tab9 : rtab .any (opsOf Tryd.f98 9) = lines_mover_down.T9 := by kernel_rfl
theorem lines_mover_down.bits9 : waitsOk lines_mover_down.T9.2 lines_mover_down.B9 = true := by kernel_rfl
theorem lines_mover_down.calls {k : Nat} {g0 : Nat} {g0v : Nat} {A0_0 : Option Addr} {c0_0 : Nat} {l0_0 : List Int} {A0_1 : Option Addr} {c0_1 : Nat} {l0_1 : List Int} {a0_2 : Int} {a0_3 : Int} {a0_4 : Int} {a0_5 : Int} {a0_6 : Bool} {a1 : Int} {a2 : Int} {r1 : Int} {r2 : Int} {r3 : Int} {w : World} (hg0 : w.heap[g0]? = some (.cells #[.slice A0_0 l0_0.length c0_0, .slice A0_1 l0_1.length c0_1] 79 (0, 0))) (hg0v : w.heap[g0v]? = some (.cells #[.pointer (some ⟨g0, 0, none⟩), .int .i64 a0_2, .int .i64 a0_3, .int .i64 a0_4, .int .i64 a0_5, .bool a0_6] 127 (0, 0))) (hr0_0 : Kd.C (Kd.int .i32) w A0_0 l0_0.length l0_0) (hc0_0 : l0_0.length ≤ c0_0) (hr0_1 : Kd.C (Kd.int .i64) w A0_1 l0_1.length l0_1) (hc0_1 : l0_1.length ≤ c0_1) (H : lines_mover_down.f k l0_0 l0_1 a0_2 a0_3 a0_4 a0_5 a0_6 a1 a2 = some (r1, r2, r3)) :
  Calls Tryd.prog 98 #[.pointer (some ⟨g0v, 0, none⟩), .int .i64 a1, .int .i64 a2] w fun e w' => e = .returned (.tuple #[.agg #[.int .i64 r1, .int .i64 r2], .int .i64 r3]) ∧ Below w.heap.size w w' := by
 have hu54 := Tryd.underlying54; have BK0 := Aside0.mk hg0; clear hg0; have BK94000 := Aside0.mk hg0v; clear hg0v; have HR0_0 := Aside0.mk hr0_0; have HC0_0 := Aside0.mk hc0_0; clear hr0_0 hc0_0; have HR0_1 := Aside0.mk hr0_1; have HC0_1 := Aside0.mk hc0_1; clear hr0_1 hc0_1; have HB := Aside0.mk (Below.refl w.heap.size w); unfold lines_mover_down.f at H; have HC4 := Aside0.mk H; clear H; go_enter Tryd.func98, Tryd.ntmps98
 go_upto_region 2 with (first | ((with_reducible refine gN 6 rfl ?_); refine bx 6 #[.int .i64 0, .int .i64 0] 54 ?_; intro gb322 hg w5 hbox hb; have BK322 := Aside0.mk hbox; have GW322 := gE hg; have GE322 := GW322; have NB0_322 := nbl hg BK0.out; have NB322_0 := nbr hg BK0.out; have NB94000_322 := nbl hg BK94000.out; have NB322_94000 := nbr hg BK94000.out; replace BK0 := blB hb BK0; replace BK94000 := blB hb BK94000; replace HB := hB hb; clear hb hbox hg; have hcz7 := cs6 BK94000.out))
 (try simp only [Act.put, List.setIfInBounds_toArray, List.set_cons_zero, List.set_cons_succ])
 go_cut [25] (fun v25 wc => ∃ (kq : Nat) (x25_3 : Bool), v25 = .bool x25_3 ∧ Aside0 (lines_mover_down.j0 kq a1 (wrap64 (a0_3 + a2)) x25_3 l0_0 l0_1 a0_2 a0_3 a0_4 a0_5 a0_6 = some (r1, r2, r3)) ∧ Aside0 (kq ≤ k) ∧ Aside0 (wc.heap[g0]? = some (.cells #[(.slice A0_0 l0_0.length c0_0), (.slice A0_1 l0_1.length c0_1)] 79 (0, 0))) ∧ Aside0 (wc.heap[g0v]? = some (.cells #[.pointer (some ⟨g0, 0, none⟩), .int .i64 a0_2, .int .i64 a0_3, .int .i64 a0_4, .int .i64 a0_5, .bool a0_6] 127 (0, 0))) ∧ Aside0 (wc.heap[gb322]? = some (.cells #[.int .i64 0, .int .i64 0] 54 (0, 0))) ∧ Aside0 (Below w.heap.size w wc))
 case first =>
  obtain ⟨H⟩ := HC4; replace H := ifd H; obtain ⟨c8b0, H⟩ | ⟨c8b0, H⟩ := H
  ·
   (first | rw [c8b0] | (simp only [i64_w, i32_w]; rw [c8b0]) | skip); replace H := Aside0.mk H; go_wp2; go_meet
   case rel => exact ⟨_, (true), r3_, H, ⟨ol_⟩, ⟨BK0.out⟩, ⟨BK94000.out⟩, ⟨BK322.out⟩, ⟨bl_⟩⟩
  (first | rw [c8b0] | (simp only [i64_w, i32_w]; rw [c8b0]) | skip); replace H := bindA H; obtain ⟨t323, A9, H⟩ := H; (try dsimp only at H); replace H := Aside0.mk H; have hcz11 := cs6 BK94000.out
  go_wp2_with (first | (go_at_call 80; refine cm_ (text_Map_Rows.calls sd_ sd_ sd_ sd_ sd_ A9.out) ?_; rintro e w' ⟨rfl, nd, rfl⟩))
  go_meet
  case rel => exact ⟨_, (decide ((wrap64 (a0_3 + a2)) ≥ t323)), r3_, H, ⟨ol_⟩, ⟨BK0.out⟩, ⟨BK94000.out⟩, ⟨BK322.out⟩, ⟨bl_⟩⟩
 case rest =>
  clear HC4
  try clear hcz7
  obtain ⟨kq, x25_3, rfl, HA, HJ3, BK0, BK94000, BK322, HB⟩ := hcut
  cases kq with
  | zero => exact absurd HA.out (by simp [lines_mover_down.j0])
  | succ kj3 =>
   obtain ⟨H⟩ := HA; simp only [lines_mover_down.j0] at H; replace H := ifb H; obtain ⟨rfl, H⟩ | ⟨rfl, H⟩ := H
   ·
    replace H := so3 H; obtain ⟨rfl, rfl, rfl⟩ := H; have hcz15 := cs2 BK322.out; go_wp2; refine bodyPost_ret (results_ct rfl _ _ gb322 54 #[.int .i64 0, .int .i64 0] (0, 0) _ rfl bk_ Tryd.underlying54 rfl (by kernel_rfl)) rfl ?_
    exact ⟨rr_, bl_⟩
   replace H := ife H; obtain ⟨c16b0, c16b1, H⟩ | ⟨c16b0, c16b1, H⟩ := H
   ·
    replace H := bindA H; obtain ⟨t324, A17, H⟩ := H; (try dsimp only at H); replace H := so3 H; obtain ⟨rfl, rfl, rfl⟩ := H; have hcz19 := cs6 BK94000.out
    go_wp2_with (first | ((with_reducible refine gC 50 rfl ?_); refine goesL1 (some 35) Tryd.func50 #[.pointer (some ⟨g0, 0, none⟩), .int .i64 (wrap64 (a0_3 + a2))] rfl (map2 rfl rfl) ?_; refine cm_ (text_Map_End.calls sd_ sd_ sd_ sd_ sd_ A17.out) ?_; rintro e w' ⟨rfl, nd, rfl⟩; refine ⟨_, rfl, ?_⟩; (try (rw [drewN_self wc]; generalize hq_ : World.drewN wc _ = wc; have n0_ : Aside0 (wc.heap[g0]? = some (.cells #[.slice A0_0 l0_0.length c0_0, .slice A0_1 l0_1.length c0_1] 79 (0, 0))) := ⟨by rw [← hq_]; exact (by exact BK0.out)⟩; have n1_ : Aside0 (wc.heap[gb322]? = some (.cells #[.int .i64 0, .int .i64 0] 54 (0, 0))) := ⟨by rw [← hq_]; exact (by exact BK322.out)⟩; have n2_ : Aside0 (wc.heap[g0v]? = some (.cells #[.pointer (some ⟨g0, 0, none⟩), .int .i64 a0_2, .int .i64 a0_3, .int .i64 a0_4, .int .i64 a0_5, .bool a0_6] 127 (0, 0))) := ⟨by rw [← hq_]; exact (by exact BK94000.out)⟩; have n3_ : Aside0 (Below w.heap.size w wc) := ⟨by rw [← hq_]; exact bl_⟩; clear BK0 BK322 BK94000 HB hq_; have BK0 := n0_; have BK322 := n1_; have BK94000 := n2_; have HB := n3_; clear n0_ n1_ n2_ n3_)); have hcz21 := cs2 BK322.out))
    refine bodyPost_ret (results_ct rfl _ _ gb322 54 #[.int .i64 t324, .int .i64 1] (0, 0) _ rfl bk_ Tryd.underlying54 rfl (by kernel_rfl)) rfl ?_
    exact ⟨rr_, bl_⟩
   have HC22 := Aside0.mk H; clear H
   go_upto_if 37 with (fail)
   go_cut [37] (fun v37 wc => ∃ (kq : Nat) (x37_21 : Bool), v37 = .bool x37_21 ∧ Aside0 (lines_mover_down.j1 kq (wrap64 (a0_3 + a2)) x37_21 l0_0 l0_1 a0_2 a0_3 a0_4 a0_5 a0_6 = some (r1, r2, r3)) ∧ Aside0 (kq ≤ kj3) ∧ Aside0 (wc.heap[g0]? = some (.cells #[(.slice A0_0 l0_0.length c0_0), (.slice A0_1 l0_1.length c0_1)] 79 (0, 0))) ∧ Aside0 (wc.heap[g0v]? = some (.cells #[.pointer (some ⟨g0, 0, none⟩), .int .i64 a0_2, .int .i64 a0_3, .int .i64 a0_4, .int .i64 a0_5, .bool a0_6] 127 (0, 0))) ∧ Aside0 (wc.heap[gb322]? = some (.cells #[.int .i64 0, .int .i64 0] 54 (0, 0))) ∧ Aside0 (Below w.heap.size w wc))
   case first =>
    obtain ⟨H⟩ := HC22; replace H := nfe H; obtain ⟨c23b0, c23b1, H⟩ | ⟨c23b0, c23b1, H⟩ := H
    ·
     (first | rw [c23b0] | (simp only [i64_w, i32_w]; rw [c23b0]) | skip); replace H := Aside0.mk H; go_wp2; go_meet
     case rel => exact ⟨_, ((a1 == 107)), r3_, H, ⟨by have := HJ3.out; first | omega | exact Nat.le_refl _⟩, ⟨BK0.out⟩, ⟨BK94000.out⟩, ⟨BK322.out⟩, ⟨bl_⟩⟩
    (first | rw [c23b0] | (simp only [i64_w, i32_w]; rw [c23b0]) | skip); replace H := Aside0.mk H; go_wp2; go_meet
    case rel => exact ⟨_, ((a1 == 106)), r3_, H, ⟨by have := HJ3.out; first | omega | exact Nat.le_refl _⟩, ⟨BK0.out⟩, ⟨BK94000.out⟩, ⟨BK322.out⟩, ⟨bl_⟩⟩
   case rest =>
    clear HC22
    try clear c16b0
    try clear c16b1
    try clear hcz7
    obtain ⟨kq, x37_21, rfl, HA, HJ21, BK0, BK94000, BK322, HB⟩ := hcut
    cases kq with
    | zero => exact absurd HA.out (by simp [lines_mover_down.j1])
    | succ kj21 =>
     obtain ⟨H⟩ := HA; simp only [lines_mover_down.j1] at H; replace H := nfb H; obtain ⟨rfl, H⟩ | ⟨rfl, H⟩ := H
     ·
      replace H := bindA H; obtain ⟨t326, A30, H⟩ := H; (try dsimp only at H); replace H := so3 H; obtain ⟨rfl, rfl, rfl⟩ := H; have hcz32 := cs6 BK94000.out
      go_wp2_with (first | ((with_reducible refine gC 96 rfl ?_); refine goesL1 (some 56) Tryd.func96 #[.pointer (some ⟨g0, 0, none⟩), .int .i64 (wrap64 (a0_3 + a2))] rfl (map2 rfl rfl) ?_; refine cm_ (text_Map_First.calls sd_ sd_ sd_ sd_ sd_ A30.out) ?_; rintro e w' ⟨rfl, nd, rfl⟩; refine ⟨_, rfl, ?_⟩; (try (rw [drewN_self wc]; generalize hq_ : World.drewN wc _ = wc; have n0_ : Aside0 (wc.heap[g0]? = some (.cells #[.slice A0_0 l0_0.length c0_0, .slice A0_1 l0_1.length c0_1] 79 (0, 0))) := ⟨by rw [← hq_]; exact (by exact BK0.out)⟩; have n1_ : Aside0 (wc.heap[gb322]? = some (.cells #[.int .i64 0, .int .i64 0] 54 (0, 0))) := ⟨by rw [← hq_]; exact (by exact BK322.out)⟩; have n2_ : Aside0 (wc.heap[g0v]? = some (.cells #[.pointer (some ⟨g0, 0, none⟩), .int .i64 a0_2, .int .i64 a0_3, .int .i64 a0_4, .int .i64 a0_5, .bool a0_6] 127 (0, 0))) := ⟨by rw [← hq_]; exact (by exact BK94000.out)⟩; have n3_ : Aside0 (Below w.heap.size w wc) := ⟨by rw [← hq_]; exact bl_⟩; clear BK0 BK322 BK94000 HB hq_; have BK0 := n0_; have BK322 := n1_; have BK94000 := n2_; have HB := n3_; clear n0_ n1_ n2_ n3_)); have hcz34 := cs2 BK322.out))
      refine bodyPost_ret (results_ct rfl _ _ gb322 54 #[.int .i64 t326, .int .i64 2] (0, 0) _ rfl bk_ Tryd.underlying54 rfl (by kernel_rfl)) rfl ?_
      exact ⟨rr_, bl_⟩
     replace H := bindA H; obtain ⟨t325, A25, H⟩ := H; (try dsimp only at H); replace H := so3 H; obtain ⟨rfl, rfl, rfl⟩ := H
     try go_wp2
     replace BK0 := Aside0.mk (blk_drew BK0.out); replace BK94000 := Aside0.mk (blk_drew BK94000.out); replace BK322 := Aside0.mk (blk_drew BK322.out); replace HB := Aside0.mk (below_drew1 HB.out)
     refine start_ (n := 13) (S := fun w' => w'.cell? ⟨g0v, 0, none⟩ = some (.pointer (some ⟨g0, 0, none⟩)) ∧ w'.cell? ⟨g0v, 1, none⟩ = some (.int .i64 a0_2) ∧ w'.cell? ⟨g0v, 2, none⟩ = some (.int .i64 a0_3) ∧ w'.cell? ⟨g0v, 3, none⟩ = some (.int .i64 a0_4) ∧ w'.cell? ⟨g0v, 4, none⟩ = some (.int .i64 a0_5) ∧ w'.cell? ⟨g0v, 5, none⟩ = some (.bool a0_6)) (ds := []) (lo 13 0) (by kernel_rfl) rfl rfl ⟨(blk_cell BK94000.out 0).trans rfl, (blk_cell BK94000.out 1).trans rfl, (blk_cell BK94000.out 2).trans rfl, (blk_cell BK94000.out 3).trans rfl, (blk_cell BK94000.out 4).trans rfl, (blk_cell BK94000.out 5).trans rfl⟩ (fun hHeld => ?_); refine with_tabW lines_mover_down.tab9 lines_mover_down.bits9 (fun HT_ HW_ => ?_)
     generalize wc.drew = w26 at BK0 BK94000 BK322 HB hHeld ⊢
     (iterate 3 refine pi ?_)
     refine pu 4 (bs 13 23) ?_; refine pu 5 (bs 13 55) ?_; refine pu 6 (bs 13 119) ?_; refine pu 7 (bs 13 247) ?_; refine tk 3 (bs 13 255) hHeld ?_; refine tk 8 (bs 13 511) hHeld ?_
     refine one_ (i := 9) (N := some 49) (bs 13 1023) rfl rfl (one_of HT_.out (by kernel_rfl)) (by decide) (fun K hK => ?_)
     refine goes_ Tryd.func121 (by kernel_rfl) rfl #[.pointer (some ⟨g0, 0, none⟩), .int .i64 (wrap64 (a0_3 + a2)), .int .i64 a0_4] (by rfl) rfl rfl (by (try simp only [List.map_toArray, List.map_cons, List.map_nil]); first | done | rfl | (simp only [List.length_drop, List.length_take]; rfl)) ?_
     refine cm_ (text_Map_Col.calls sd_ sd_ sd_ sd_ sd_ A25.out) ?_
     rintro e w27 ⟨rfl, hb⟩
     refine ⟨_, rfl, ?_⟩; replace BK0 := blB hb BK0; replace BK94000 := blB hb BK94000; replace BK322 := blB hb BK322; replace HB := hB hb; (try clear hb); (try clear hb2); (try clear hk); (try clear hi)
     refine hK.out _ _ hh_ (fun hHeld => ?_)
     clear hK K; refine nm1 49 ?_; refine pu 10 (bs 13 2047) ?_
     refine one_ (i := 11) (N := none) (bs 13 4095) rfl rfl (one_of HT_.out (by kernel_rfl)) (by decide) (fun K hK => ?_)
     have hs28 := cz0 BK322.out; have hfs28 := blk_frozen BK322.out 0; have hs29 := cz1 BK322.out; have hfs29 := blk_frozen BK322.out 1; refine skip_ (w1 := ?_) (by rfl) rfl ?_ ?_; rotate_left
     ·
      go_simp
      rfl
     refine hK.out _ _ hh_ (fun hHeld => ?_)
     clear hK K; refine pu 12 (bs 13 8191) ?_; refine done_ (done_of HT_.out (by kernel_rfl)) ?_
     try go_wp2
     refine bodyPost_ret (results_ct rfl _ _ gb322 54 #[.int .i64 t325, .int .i64 2] (0, 0) _ rfl bk_ Tryd.underlying54 rfl (by kernel_rfl)) rfl ?_
     exact ⟨rr_, bl_⟩

/-! ### lines_mover_to: function 99 -/
def lines_mover_to.f (k : Nat) (l0_0 : List Int) (l0_1 : List Int) (a0_2 : Int) (a0_3 : Int) (a0_4 : Int) (a0_5 : Int) (a0_6 : Bool) (a1 : Int) : Option (Int × Int × Int) := if a0_6 = true then ((text_Map_Rows.f l0_0 l0_1).bind fun t328 => ((text_Map_First.f k l0_0 l0_1 (wrap64 ((mn a0_5 t328) - 1))).bind fun t329 => (some (t329, 2, 0)))) else ((text_Map_First.f k l0_0 l0_1 a1).bind fun t330 => (some (t330, 2, 0)))
theorem lines_mover_to.calls {k : Nat} {g0 : Nat} {g0v : Nat} {A0_0 : Option Addr} {c0_0 : Nat} {l0_0 : List Int} {A0_1 : Option Addr} {c0_1 : Nat} {l0_1 : List Int} {a0_2 : Int} {a0_3 : Int} {a0_4 : Int} {a0_5 : Int} {a0_6 : Bool} {a1 : Int} {r1 : Int} {r2 : Int} {r3 : Int} {w : World} (hg0 : w.heap[g0]? = some (.cells #[.slice A0_0 l0_0.length c0_0, .slice A0_1 l0_1.length c0_1] 79 (0, 0))) (hg0v : w.heap[g0v]? = some (.cells #[.pointer (some ⟨g0, 0, none⟩), .int .i64 a0_2, .int .i64 a0_3, .int .i64 a0_4, .int .i64 a0_5, .bool a0_6] 127 (0, 0))) (hr0_0 : Kd.C (Kd.int .i32) w A0_0 l0_0.length l0_0) (hc0_0 : l0_0.length ≤ c0_0) (hr0_1 : Kd.C (Kd.int .i64) w A0_1 l0_1.length l0_1) (hc0_1 : l0_1.length ≤ c0_1) (H : lines_mover_to.f k l0_0 l0_1 a0_2 a0_3 a0_4 a0_5 a0_6 a1 = some (r1, r2, r3)) :
  Calls Tryd.prog 99 #[.pointer (some ⟨g0v, 0, none⟩), .int .i64 a1] w fun e w' => e = .returned (.tuple #[.agg #[.int .i64 r1, .int .i64 r2], .int .i64 r3]) ∧ Below w.heap.size w w' := by
 have hu54 := Tryd.underlying54; have BK0 := Aside0.mk hg0; clear hg0; have BK94000 := Aside0.mk hg0v; clear hg0v; have HR0_0 := Aside0.mk hr0_0; have HC0_0 := Aside0.mk hc0_0; clear hr0_0 hc0_0; have HR0_1 := Aside0.mk hr0_1; have HC0_1 := Aside0.mk hc0_1; clear hr0_1 hc0_1; have HB := Aside0.mk (Below.refl w.heap.size w); unfold lines_mover_to.f at H; replace H := nfb H; obtain ⟨rfl, H⟩ | ⟨rfl, H⟩ := H
 ·
  replace H := bindA H; obtain ⟨t330, A12, H⟩ := H; (try dsimp only at H); replace H := so3 H; obtain ⟨rfl, rfl, rfl⟩ := H; go_enter Tryd.func99, Tryd.ntmps99
  go_wp2_with (first | ((with_reducible refine gN 4 rfl ?_); refine bx 4 #[.int .i64 0, .int .i64 0] 54 ?_; intro gb327 hg w13 hbox hb; have BK327 := Aside0.mk hbox; have GW327 := gE hg; have GE327 := GW327; have NB0_327 := nbl hg BK0.out; have NB327_0 := nbr hg BK0.out; have NB94000_327 := nbl hg BK94000.out; have NB327_94000 := nbr hg BK94000.out; replace BK0 := blB hb BK0; replace BK94000 := blB hb BK94000; replace HB := hB hb; clear hb hbox hg; have hcz15 := cs6 BK94000.out) | (go_at_call 96; refine cm_ (text_Map_First.calls sd_ sd_ sd_ sd_ sd_ A12.out) ?_; rintro e w' ⟨rfl, nd, rfl⟩; (try first | exact ⟨rfl, _, World.drewN_drewN _ _ _⟩ | exact ⟨rfl, _, Eq.trans (World.drewN_drewN _ _ _) (congrArg (World.drewN _) (Nat.add_assoc _ _ _))⟩); have hcz17 := cs2 BK327.out))
  repeat (go_quiet (first | (go_at_call 96; refine cm_ (text_Map_First.calls sd_ sd_ sd_ sd_ sd_ A12.out) ?_; rintro e w' ⟨rfl, nd, rfl⟩; (try first | exact ⟨rfl, _, World.drewN_drewN _ _ _⟩ | exact ⟨rfl, _, Eq.trans (World.drewN_drewN _ _ _) (congrArg (World.drewN _) (Nat.add_assoc _ _ _))⟩); have hcz17 := cs2 BK327.out)); try go_wp2_with (first | (go_at_call 96; refine cm_ (text_Map_First.calls sd_ sd_ sd_ sd_ sd_ A12.out) ?_; rintro e w' ⟨rfl, nd, rfl⟩; (try first | exact ⟨rfl, _, World.drewN_drewN _ _ _⟩ | exact ⟨rfl, _, Eq.trans (World.drewN_drewN _ _ _) (congrArg (World.drewN _) (Nat.add_assoc _ _ _))⟩); have hcz17 := cs2 BK327.out)))
  refine bodyPost_ret (results_ct rfl _ _ gb327 54 #[.int .i64 t330, .int .i64 2] (0, 0) _ rfl bk_ Tryd.underlying54 rfl (by kernel_rfl)) rfl ?_
  exact ⟨rr_, bl_⟩
 replace H := bindA H; obtain ⟨t328, A4, H⟩ := H; (try dsimp only at H); obtain ⟨ji5, hji5⟩ : ∃ j_ : Int, (mn a0_5 t328) = j_ := ⟨_, rfl⟩; (first | rw [hji5] at H | simp only [hji5] at H); (try rw [hji5] at A4)
 have hji5_ : (if t328 < a0_5 then t328 else a0_5) = ji5 := hji5
 replace H := bindA H; obtain ⟨t329, A6, H⟩ := H; (try dsimp only at H); replace H := so3 H; obtain ⟨rfl, rfl, rfl⟩ := H; go_enter Tryd.func99, Tryd.ntmps99
 go_wp2_with (first | ((with_reducible refine gN 4 rfl ?_); refine bx 4 #[.int .i64 0, .int .i64 0] 54 ?_; intro gb327 hg w7 hbox hb; have BK327 := Aside0.mk hbox; have GW327 := gE hg; have GE327 := GW327; have NB0_327 := nbl hg BK0.out; have NB327_0 := nbr hg BK0.out; have NB94000_327 := nbl hg BK94000.out; have NB327_94000 := nbr hg BK94000.out; replace BK0 := blB hb BK0; replace BK94000 := blB hb BK94000; replace HB := hB hb; clear hb hbox hg; have hcz9 := cs6 BK94000.out) | (go_at_call 80; refine cm_ (text_Map_Rows.calls sd_ sd_ sd_ sd_ sd_ A4.out) ?_; rintro e w' ⟨rfl, nd, rfl⟩; (try first | exact ⟨rfl, _, World.drewN_drewN _ _ _⟩ | exact ⟨rfl, _, Eq.trans (World.drewN_drewN _ _ _) (congrArg (World.drewN _) (Nat.add_assoc _ _ _))⟩)) | (go_at_call 96; refine cm_ (text_Map_First.calls sd_ sd_ sd_ sd_ sd_ A6.out) ?_; rintro e w' ⟨rfl, nd, rfl⟩; (try first | exact ⟨rfl, _, World.drewN_drewN _ _ _⟩ | exact ⟨rfl, _, Eq.trans (World.drewN_drewN _ _ _) (congrArg (World.drewN _) (Nat.add_assoc _ _ _))⟩); have hcz11 := cs2 BK327.out))
 repeat (go_quiet (first | (go_at_call 80; refine cm_ (text_Map_Rows.calls sd_ sd_ sd_ sd_ sd_ A4.out) ?_; rintro e w' ⟨rfl, nd, rfl⟩; (try first | exact ⟨rfl, _, World.drewN_drewN _ _ _⟩ | exact ⟨rfl, _, Eq.trans (World.drewN_drewN _ _ _) (congrArg (World.drewN _) (Nat.add_assoc _ _ _))⟩)) | (go_at_call 96; refine cm_ (text_Map_First.calls sd_ sd_ sd_ sd_ sd_ A6.out) ?_; rintro e w' ⟨rfl, nd, rfl⟩; (try first | exact ⟨rfl, _, World.drewN_drewN _ _ _⟩ | exact ⟨rfl, _, Eq.trans (World.drewN_drewN _ _ _) (congrArg (World.drewN _) (Nat.add_assoc _ _ _))⟩); have hcz11 := cs2 BK327.out)); try go_wp2_with (first | (go_at_call 80; refine cm_ (text_Map_Rows.calls sd_ sd_ sd_ sd_ sd_ A4.out) ?_; rintro e w' ⟨rfl, nd, rfl⟩; (try first | exact ⟨rfl, _, World.drewN_drewN _ _ _⟩ | exact ⟨rfl, _, Eq.trans (World.drewN_drewN _ _ _) (congrArg (World.drewN _) (Nat.add_assoc _ _ _))⟩)) | (go_at_call 96; refine cm_ (text_Map_First.calls sd_ sd_ sd_ sd_ sd_ A6.out) ?_; rintro e w' ⟨rfl, nd, rfl⟩; (try first | exact ⟨rfl, _, World.drewN_drewN _ _ _⟩ | exact ⟨rfl, _, Eq.trans (World.drewN_drewN _ _ _) (congrArg (World.drewN _) (Nat.add_assoc _ _ _))⟩); have hcz11 := cs2 BK327.out)))
 refine bodyPost_ret (results_ct rfl _ _ gb327 54 #[.int .i64 t329, .int .i64 2] (0, 0) _ rfl bk_ Tryd.underlying54 rfl (by kernel_rfl)) rfl ?_
 exact ⟨by first | exact rr_ | (simp only [← hji5]; exact rr_), bl_⟩

/-! ### lines_mover_within: function 100 -/
def lines_mover_within.f (k : Nat) (l0_0 : List Int) (l0_1 : List Int) (a0_2 : Int) (a0_3 : Int) (a0_4 : Int) (a0_5 : Int) (a0_6 : Bool) (a1 : Int) : Option (Int × Int × Int) := if 0 ≤ a0_3 then (if a0_3 < (l0_1.length : Int) then ((text_Map_End.f l0_0 l0_1 a0_3).bind fun t333 => (if a1 = 104 then (if (mx (rd l0_1 a0_3) (wrap64 (a0_2 - a0_5))) = a0_2 then (some (0, 0, 6)) else (some (mx (rd l0_1 a0_3) (wrap64 (a0_2 - a0_5)), 0, 0))) else (if a1 = 108 then (if (mn t333 (wrap64 (a0_2 + a0_5))) = a0_2 then (some (0, 0, 6)) else (some (mn t333 (wrap64 (a0_2 + a0_5)), 0, 0))) else (if a1 = 94 then ((text_Map_First.f k l0_0 l0_1 a0_3).bind fun t334 => (if t334 = a0_2 then (some (t334, 0, 0)) else (some (t334, 0, 0)))) else (if (rd l0_1 a0_3) = a0_2 then (some (rd l0_1 a0_3, 0, 0)) else (some (rd l0_1 a0_3, 0, 0))))))) else (none)) else (none)
theorem lines_mover_within.calls {k : Nat} {g0 : Nat} {g0v : Nat} {A0_0 : Option Addr} {c0_0 : Nat} {l0_0 : List Int} {A0_1 : Option Addr} {c0_1 : Nat} {l0_1 : List Int} {a0_2 : Int} {a0_3 : Int} {a0_4 : Int} {a0_5 : Int} {a0_6 : Bool} {a1 : Int} {r1 : Int} {r2 : Int} {r3 : Int} {w : World} (hg0 : w.heap[g0]? = some (.cells #[.slice A0_0 l0_0.length c0_0, .slice A0_1 l0_1.length c0_1] 79 (0, 0))) (hg0v : w.heap[g0v]? = some (.cells #[.pointer (some ⟨g0, 0, none⟩), .int .i64 a0_2, .int .i64 a0_3, .int .i64 a0_4, .int .i64 a0_5, .bool a0_6] 127 (0, 0))) (hr0_0 : Kd.C (Kd.int .i32) w A0_0 l0_0.length l0_0) (hc0_0 : l0_0.length ≤ c0_0) (hr0_1 : Kd.C (Kd.int .i64) w A0_1 l0_1.length l0_1) (hc0_1 : l0_1.length ≤ c0_1) (H : lines_mover_within.f k l0_0 l0_1 a0_2 a0_3 a0_4 a0_5 a0_6 a1 = some (r1, r2, r3)) :
  Calls Tryd.prog 100 #[.pointer (some ⟨g0v, 0, none⟩), .int .i64 a1] w fun e w' => e = .returned (.tuple #[.agg #[.int .i64 r1, .int .i64 r2], .int .i64 r3]) ∧ Below w.heap.size w w' := by
 have hu54 := Tryd.underlying54; have BK0 := Aside0.mk hg0; clear hg0; have BK94000 := Aside0.mk hg0v; clear hg0v; have HR0_0 := Aside0.mk hr0_0; have HC0_0 := Aside0.mk hc0_0; clear hr0_0 hc0_0; have HR0_1 := Aside0.mk hr0_1; have HC0_1 := Aside0.mk hc0_1; clear hr0_1 hc0_1; have HB := Aside0.mk (Below.refl w.heap.size w); unfold lines_mover_within.f at H; replace H := ifq H; obtain ⟨c3b0, c4b0, H⟩ := H
 replace H := bindA H; obtain ⟨t333, A5, H⟩ := H; (try dsimp only at H); replace H := ife H; obtain ⟨c6b0, c6b1, H⟩ | ⟨c6b0, c6b1, H⟩ := H
 ·
  obtain ⟨ji7, hji7⟩ : ∃ j_ : Int, (mx (rd l0_1 a0_3) (wrap64 (a0_2 - a0_5))) = j_ := ⟨_, rfl⟩; (first | rw [hji7] at H | simp only [hji7] at H); (try rw [hji7] at A5)
  have hji7_ : (if (rd l0_1 a0_3) < (wrap64 (a0_2 - a0_5)) then (wrap64 (a0_2 - a0_5)) else (rd l0_1 a0_3)) = ji7 := hji7
  replace H := nfe H; obtain ⟨c8b0, c8b1, H⟩ | ⟨c8b0, c8b1, H⟩ := H
  ·
   replace H := so3 H; obtain ⟨rfl, rfl, rfl⟩ := H; go_enter Tryd.func100, Tryd.ntmps100
   go_wp2_with (first | ((with_reducible refine gN 4 rfl ?_); refine bx 4 #[.int .i64 0, .int .i64 0] 54 ?_; intro gb331 hg w15 hbox hb; have BK331 := Aside0.mk hbox; have GW331 := gE hg; have GE331 := GW331; have NB0_331 := nbl hg BK0.out; have NB331_0 := nbr hg BK0.out; have NB94000_331 := nbl hg BK94000.out; have NB331_94000 := nbr hg BK94000.out; replace BK0 := blB hb BK0; replace BK94000 := blB hb BK94000; replace HB := hB hb; clear hb hbox hg; have hcz17 := cs6 BK94000.out; have hcz19 := cs2 BK0.out; obtain ⟨p332, q332, ad332, e332, hx332_0⟩ := ix_ (Kd.at_int HR0_1.out a0_3); cases e332; replace hx332_0 := hb_ HB hx332_0))
   repeat (go_quiet (first | (go_at_call 50; refine cm_ (text_Map_End.calls sd_ sd_ sd_ sd_ sd_ A5.out) ?_; rintro e w' ⟨rfl, nd, rfl⟩; (try first | exact ⟨rfl, _, World.drewN_drewN _ _ _⟩ | exact ⟨rfl, _, Eq.trans (World.drewN_drewN _ _ _) (congrArg (World.drewN _) (Nat.add_assoc _ _ _))⟩); have hcz20 := cs2 BK331.out)); try go_wp2)
   refine bodyPost_ret (results_ct rfl _ _ gb331 54 #[.int .i64 ji7, .int .i64 0] (0, 0) _ rfl bk_ Tryd.underlying54 rfl (by kernel_rfl)) rfl ?_
   exact ⟨by first | exact rr_ | (simp only [← hji7]; exact rr_), bl_⟩
  replace H := so3 H; obtain ⟨rfl, rfl, rfl⟩ := H; go_enter Tryd.func100, Tryd.ntmps100
  go_wp2_with (first | ((with_reducible refine gN 4 rfl ?_); refine bx 4 #[.int .i64 0, .int .i64 0] 54 ?_; intro gb331 hg w9 hbox hb; have BK331 := Aside0.mk hbox; have GW331 := gE hg; have GE331 := GW331; have NB0_331 := nbl hg BK0.out; have NB331_0 := nbr hg BK0.out; have NB94000_331 := nbl hg BK94000.out; have NB331_94000 := nbr hg BK94000.out; replace BK0 := blB hb BK0; replace BK94000 := blB hb BK94000; replace HB := hB hb; clear hb hbox hg; have hcz11 := cs6 BK94000.out; have hcz13 := cs2 BK0.out; obtain ⟨p332, q332, ad332, e332, hx332_0⟩ := ix_ (Kd.at_int HR0_1.out a0_3); cases e332; replace hx332_0 := hb_ HB hx332_0))
  repeat (go_quiet (first | (go_at_call 50; refine cm_ (text_Map_End.calls sd_ sd_ sd_ sd_ sd_ A5.out) ?_; rintro e w' ⟨rfl, nd, rfl⟩; (try first | exact ⟨rfl, _, World.drewN_drewN _ _ _⟩ | exact ⟨rfl, _, Eq.trans (World.drewN_drewN _ _ _) (congrArg (World.drewN _) (Nat.add_assoc _ _ _))⟩); have hcz14 := cs2 BK331.out)); try go_wp2)
  refine bodyPost_ret (results_ct rfl _ _ gb331 54 #[.int .i64 0, .int .i64 0] (0, 0) _ rfl bk_ Tryd.underlying54 rfl (by kernel_rfl)) rfl ?_
  exact ⟨by first | exact rr_ | (simp only [← hji7]; exact rr_), bl_⟩
 replace H := ife H; obtain ⟨c21b0, c21b1, H⟩ | ⟨c21b0, c21b1, H⟩ := H
 ·
  obtain ⟨ji22, hji22⟩ : ∃ j_ : Int, (mn t333 (wrap64 (a0_2 + a0_5))) = j_ := ⟨_, rfl⟩; (first | rw [hji22] at H | simp only [hji22] at H); (try rw [hji22] at A5)
  have hji22_ : (if (wrap64 (a0_2 + a0_5)) < t333 then (wrap64 (a0_2 + a0_5)) else t333) = ji22 := hji22
  replace H := nfe H; obtain ⟨c23b0, c23b1, H⟩ | ⟨c23b0, c23b1, H⟩ := H
  ·
   replace H := so3 H; obtain ⟨rfl, rfl, rfl⟩ := H; go_enter Tryd.func100, Tryd.ntmps100
   go_wp2_with (first | ((with_reducible refine gN 4 rfl ?_); refine bx 4 #[.int .i64 0, .int .i64 0] 54 ?_; intro gb331 hg w30 hbox hb; have BK331 := Aside0.mk hbox; have GW331 := gE hg; have GE331 := GW331; have NB0_331 := nbl hg BK0.out; have NB331_0 := nbr hg BK0.out; have NB94000_331 := nbl hg BK94000.out; have NB331_94000 := nbr hg BK94000.out; replace BK0 := blB hb BK0; replace BK94000 := blB hb BK94000; replace HB := hB hb; clear hb hbox hg; have hcz32 := cs6 BK94000.out; have hcz34 := cs2 BK0.out; obtain ⟨p332, q332, ad332, e332, hx332_0⟩ := ix_ (Kd.at_int HR0_1.out a0_3); cases e332; replace hx332_0 := hb_ HB hx332_0))
   repeat (go_quiet (first | (go_at_call 50; refine cm_ (text_Map_End.calls sd_ sd_ sd_ sd_ sd_ A5.out) ?_; rintro e w' ⟨rfl, nd, rfl⟩; (try first | exact ⟨rfl, _, World.drewN_drewN _ _ _⟩ | exact ⟨rfl, _, Eq.trans (World.drewN_drewN _ _ _) (congrArg (World.drewN _) (Nat.add_assoc _ _ _))⟩); have hcz35 := cs2 BK331.out)); try go_wp2)
   refine bodyPost_ret (results_ct rfl _ _ gb331 54 #[.int .i64 ji22, .int .i64 0] (0, 0) _ rfl bk_ Tryd.underlying54 rfl (by kernel_rfl)) rfl ?_
   exact ⟨by first | exact rr_ | (simp only [← hji22]; exact rr_), bl_⟩
  replace H := so3 H; obtain ⟨rfl, rfl, rfl⟩ := H; go_enter Tryd.func100, Tryd.ntmps100
  go_wp2_with (first | ((with_reducible refine gN 4 rfl ?_); refine bx 4 #[.int .i64 0, .int .i64 0] 54 ?_; intro gb331 hg w24 hbox hb; have BK331 := Aside0.mk hbox; have GW331 := gE hg; have GE331 := GW331; have NB0_331 := nbl hg BK0.out; have NB331_0 := nbr hg BK0.out; have NB94000_331 := nbl hg BK94000.out; have NB331_94000 := nbr hg BK94000.out; replace BK0 := blB hb BK0; replace BK94000 := blB hb BK94000; replace HB := hB hb; clear hb hbox hg; have hcz26 := cs6 BK94000.out; have hcz28 := cs2 BK0.out; obtain ⟨p332, q332, ad332, e332, hx332_0⟩ := ix_ (Kd.at_int HR0_1.out a0_3); cases e332; replace hx332_0 := hb_ HB hx332_0))
  repeat (go_quiet (first | (go_at_call 50; refine cm_ (text_Map_End.calls sd_ sd_ sd_ sd_ sd_ A5.out) ?_; rintro e w' ⟨rfl, nd, rfl⟩; (try first | exact ⟨rfl, _, World.drewN_drewN _ _ _⟩ | exact ⟨rfl, _, Eq.trans (World.drewN_drewN _ _ _) (congrArg (World.drewN _) (Nat.add_assoc _ _ _))⟩); have hcz29 := cs2 BK331.out)); try go_wp2)
  refine bodyPost_ret (results_ct rfl _ _ gb331 54 #[.int .i64 0, .int .i64 0] (0, 0) _ rfl bk_ Tryd.underlying54 rfl (by kernel_rfl)) rfl ?_
  exact ⟨by first | exact rr_ | (simp only [← hji22]; exact rr_), bl_⟩
 replace H := nfe H; obtain ⟨c36b0, c36b1, H⟩ | ⟨c36b0, c36b1, H⟩ := H
 ·
  replace H := nfe H; obtain ⟨c51b0, c51b1, H⟩ | ⟨c51b0, c51b1, H⟩ := H
  ·
   replace H := so3 H; obtain ⟨rfl, rfl, rfl⟩ := H; go_enter Tryd.func100, Tryd.ntmps100
   go_wp2_with (first | ((with_reducible refine gN 4 rfl ?_); refine bx 4 #[.int .i64 0, .int .i64 0] 54 ?_; intro gb331 hg w58 hbox hb; have BK331 := Aside0.mk hbox; have GW331 := gE hg; have GE331 := GW331; have NB0_331 := nbl hg BK0.out; have NB331_0 := nbr hg BK0.out; have NB94000_331 := nbl hg BK94000.out; have NB331_94000 := nbr hg BK94000.out; replace BK0 := blB hb BK0; replace BK94000 := blB hb BK94000; replace HB := hB hb; clear hb hbox hg; have hcz60 := cs6 BK94000.out; have hcz62 := cs2 BK0.out; obtain ⟨p332, q332, ad332, e332, hx332_0⟩ := ix_ (Kd.at_int HR0_1.out a0_3); cases e332; replace hx332_0 := hb_ HB hx332_0))
   repeat (go_quiet (first | (go_at_call 50; refine cm_ (text_Map_End.calls sd_ sd_ sd_ sd_ sd_ A5.out) ?_; rintro e w' ⟨rfl, nd, rfl⟩; (try first | exact ⟨rfl, _, World.drewN_drewN _ _ _⟩ | exact ⟨rfl, _, Eq.trans (World.drewN_drewN _ _ _) (congrArg (World.drewN _) (Nat.add_assoc _ _ _))⟩); have hcz63 := cs2 BK331.out)); try go_wp2)
   refine bodyPost_ret (results_ct rfl _ _ gb331 54 #[.int .i64 (rd l0_1 a0_3), .int .i64 0] (0, 0) _ rfl bk_ Tryd.underlying54 rfl (by kernel_rfl)) rfl ?_
   exact ⟨rr_, bl_⟩
  replace H := so3 H; obtain ⟨rfl, rfl, rfl⟩ := H; go_enter Tryd.func100, Tryd.ntmps100
  go_wp2_with (first | ((with_reducible refine gN 4 rfl ?_); refine bx 4 #[.int .i64 0, .int .i64 0] 54 ?_; intro gb331 hg w52 hbox hb; have BK331 := Aside0.mk hbox; have GW331 := gE hg; have GE331 := GW331; have NB0_331 := nbl hg BK0.out; have NB331_0 := nbr hg BK0.out; have NB94000_331 := nbl hg BK94000.out; have NB331_94000 := nbr hg BK94000.out; replace BK0 := blB hb BK0; replace BK94000 := blB hb BK94000; replace HB := hB hb; clear hb hbox hg; have hcz54 := cs6 BK94000.out; have hcz56 := cs2 BK0.out; obtain ⟨p332, q332, ad332, e332, hx332_0⟩ := ix_ (Kd.at_int HR0_1.out a0_3); cases e332; replace hx332_0 := hb_ HB hx332_0))
  repeat (go_quiet (first | (go_at_call 50; refine cm_ (text_Map_End.calls sd_ sd_ sd_ sd_ sd_ A5.out) ?_; rintro e w' ⟨rfl, nd, rfl⟩; (try first | exact ⟨rfl, _, World.drewN_drewN _ _ _⟩ | exact ⟨rfl, _, Eq.trans (World.drewN_drewN _ _ _) (congrArg (World.drewN _) (Nat.add_assoc _ _ _))⟩); have hcz57 := cs2 BK331.out)); try go_wp2)
  refine bodyPost_ret (results_ct rfl _ _ gb331 54 #[.int .i64 (rd l0_1 a0_3), .int .i64 0] (0, 0) _ rfl bk_ Tryd.underlying54 rfl (by kernel_rfl)) rfl ?_
  exact ⟨rr_, bl_⟩
 replace H := bindA H; obtain ⟨t334, A37, H⟩ := H; (try dsimp only at H); replace H := nfe H; obtain ⟨c38b0, c38b1, H⟩ | ⟨c38b0, c38b1, H⟩ := H
 ·
  replace H := so3 H; obtain ⟨rfl, rfl, rfl⟩ := H; go_enter Tryd.func100, Tryd.ntmps100
  go_wp2_with (first | ((with_reducible refine gN 4 rfl ?_); refine bx 4 #[.int .i64 0, .int .i64 0] 54 ?_; intro gb331 hg w45 hbox hb; have BK331 := Aside0.mk hbox; have GW331 := gE hg; have GE331 := GW331; have NB0_331 := nbl hg BK0.out; have NB331_0 := nbr hg BK0.out; have NB94000_331 := nbl hg BK94000.out; have NB331_94000 := nbr hg BK94000.out; replace BK0 := blB hb BK0; replace BK94000 := blB hb BK94000; replace HB := hB hb; clear hb hbox hg; have hcz47 := cs6 BK94000.out; have hcz49 := cs2 BK0.out; obtain ⟨p332, q332, ad332, e332, hx332_0⟩ := ix_ (Kd.at_int HR0_1.out a0_3); cases e332; replace hx332_0 := hb_ HB hx332_0) | (go_at_call 96; refine cm_ (text_Map_First.calls sd_ sd_ sd_ sd_ sd_ A37.out) ?_; rintro e w' ⟨rfl, nd, rfl⟩; (try first | exact ⟨rfl, _, World.drewN_drewN _ _ _⟩ | exact ⟨rfl, _, Eq.trans (World.drewN_drewN _ _ _) (congrArg (World.drewN _) (Nat.add_assoc _ _ _))⟩); have hcz50 := cs2 BK331.out))
  repeat (go_quiet (first | (go_at_call 50; refine cm_ (text_Map_End.calls sd_ sd_ sd_ sd_ sd_ A5.out) ?_; rintro e w' ⟨rfl, nd, rfl⟩; (try first | exact ⟨rfl, _, World.drewN_drewN _ _ _⟩ | exact ⟨rfl, _, Eq.trans (World.drewN_drewN _ _ _) (congrArg (World.drewN _) (Nat.add_assoc _ _ _))⟩)) | (go_at_call 96; refine cm_ (text_Map_First.calls sd_ sd_ sd_ sd_ sd_ A37.out) ?_; rintro e w' ⟨rfl, nd, rfl⟩; (try first | exact ⟨rfl, _, World.drewN_drewN _ _ _⟩ | exact ⟨rfl, _, Eq.trans (World.drewN_drewN _ _ _) (congrArg (World.drewN _) (Nat.add_assoc _ _ _))⟩); have hcz50 := cs2 BK331.out)); try go_wp2_with (first | (go_at_call 96; refine cm_ (text_Map_First.calls sd_ sd_ sd_ sd_ sd_ A37.out) ?_; rintro e w' ⟨rfl, nd, rfl⟩; (try first | exact ⟨rfl, _, World.drewN_drewN _ _ _⟩ | exact ⟨rfl, _, Eq.trans (World.drewN_drewN _ _ _) (congrArg (World.drewN _) (Nat.add_assoc _ _ _))⟩); have hcz50 := cs2 BK331.out)))
  refine bodyPost_ret (results_ct rfl _ _ gb331 54 #[.int .i64 t334, .int .i64 0] (0, 0) _ rfl bk_ Tryd.underlying54 rfl (by kernel_rfl)) rfl ?_
  exact ⟨rr_, bl_⟩
 replace H := so3 H; obtain ⟨rfl, rfl, rfl⟩ := H; go_enter Tryd.func100, Tryd.ntmps100
 go_wp2_with (first | ((with_reducible refine gN 4 rfl ?_); refine bx 4 #[.int .i64 0, .int .i64 0] 54 ?_; intro gb331 hg w39 hbox hb; have BK331 := Aside0.mk hbox; have GW331 := gE hg; have GE331 := GW331; have NB0_331 := nbl hg BK0.out; have NB331_0 := nbr hg BK0.out; have NB94000_331 := nbl hg BK94000.out; have NB331_94000 := nbr hg BK94000.out; replace BK0 := blB hb BK0; replace BK94000 := blB hb BK94000; replace HB := hB hb; clear hb hbox hg; have hcz41 := cs6 BK94000.out; have hcz43 := cs2 BK0.out; obtain ⟨p332, q332, ad332, e332, hx332_0⟩ := ix_ (Kd.at_int HR0_1.out a0_3); cases e332; replace hx332_0 := hb_ HB hx332_0) | (go_at_call 96; refine cm_ (text_Map_First.calls sd_ sd_ sd_ sd_ sd_ A37.out) ?_; rintro e w' ⟨rfl, nd, rfl⟩; (try first | exact ⟨rfl, _, World.drewN_drewN _ _ _⟩ | exact ⟨rfl, _, Eq.trans (World.drewN_drewN _ _ _) (congrArg (World.drewN _) (Nat.add_assoc _ _ _))⟩); have hcz44 := cs2 BK331.out))
 repeat (go_quiet (first | (go_at_call 50; refine cm_ (text_Map_End.calls sd_ sd_ sd_ sd_ sd_ A5.out) ?_; rintro e w' ⟨rfl, nd, rfl⟩; (try first | exact ⟨rfl, _, World.drewN_drewN _ _ _⟩ | exact ⟨rfl, _, Eq.trans (World.drewN_drewN _ _ _) (congrArg (World.drewN _) (Nat.add_assoc _ _ _))⟩)) | (go_at_call 96; refine cm_ (text_Map_First.calls sd_ sd_ sd_ sd_ sd_ A37.out) ?_; rintro e w' ⟨rfl, nd, rfl⟩; (try first | exact ⟨rfl, _, World.drewN_drewN _ _ _⟩ | exact ⟨rfl, _, Eq.trans (World.drewN_drewN _ _ _) (congrArg (World.drewN _) (Nat.add_assoc _ _ _))⟩); have hcz44 := cs2 BK331.out)); try go_wp2_with (first | (go_at_call 96; refine cm_ (text_Map_First.calls sd_ sd_ sd_ sd_ sd_ A37.out) ?_; rintro e w' ⟨rfl, nd, rfl⟩; (try first | exact ⟨rfl, _, World.drewN_drewN _ _ _⟩ | exact ⟨rfl, _, Eq.trans (World.drewN_drewN _ _ _) (congrArg (World.drewN _) (Nat.add_assoc _ _ _))⟩); have hcz44 := cs2 BK331.out)))
 refine bodyPost_ret (results_ct rfl _ _ gb331 54 #[.int .i64 t334, .int .i64 0] (0, 0) _ rfl bk_ Tryd.underlying54 rfl (by kernel_rfl)) rfl ?_
 exact ⟨rr_, bl_⟩

end Go.Proofs.YtbgmmcngkdhpcaaDoor.P
