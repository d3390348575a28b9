/- The walks of the functions that these statements reach: each Go function as a plain Lean function, and the proof that its call comes to that. Written by the session's program wip/pp.py. -/
import Derived.Test.YtbgmmcngkdhpcaaDoorP0
import Derived.Test.YtbgmmcngkdhpcaaDoorP16
import Derived.Test.YtbgmmcngkdhpcaaDoorP18
import Derived.Test.YtbgmmcngkdhpcaaDoorP20
import Derived.Test.YtbgmmcngkdhpcaaDoorP21
import Derived.Test.YtbgmmcngkdhpcaaDoorP23
import Derived.Test.YtbgmmcngkdhpcaaDoorP24
namespace Go.Proofs.YtbgmmcngkdhpcaaDoor.P
open Go.Proofs.YtbgmmcngkdhpcaaDoor
open Go.RowKit Go.Proofs.YtbgmmcngkdhpcaaDoorW.PrintWords Go.Proofs.YtbgmmcngkdhpcaaDoorW.PrintLast Go.Proofs.YtbgmmcngkdhpcaaDoorW.PrintMore
attribute [local go_sem] cell_isSome max2_int min2_int max_two min_two max_three min_three max_four min_four   -- for this text's walks alone
set_option linter.unusedVariables false
set_option linter.unusedSimpArgs false
set_option maxHeartbeats 8000000
set_option maxRecDepth 100000

/-! ### quillref15_Go: function 37 -/
mutual
def quillref15_Go.j0 : Nat → Int → Int → Int → Bool → Int → Int → Option (Int × Int × Int × Int × Int)
  | 0, _, _, _, _, _, _ => none
  | k + 1, x14, x15, x16, x59, v0, v1 => if x59 = true then (if x16 = 0 then (some (x14, 1, v0, v1, 0)) else (some (0, 0, 0, 0, x16))) else (if x16 = 0 then (some (x14, x15, v0, v1, 0)) else (some (0, 0, 0, 0, x16)))
def quillref15_Go.j1 : Nat → List Int → Int → List (S89) → Int → Int → Int → Bool → Int → Int → Int → Int → Int → Int → Int → Int → Option (Int × Int × Int × Int × Int)
  | 0, _, _, _, _, _, _, _, _, _, _, _, _, _, _, _ => none
  | k + 1, x0, x1, x4, x13, x15, x16, x60, v0, v1, v2, v3, v4, v5, v6, v7 => if x60 = true then ((quillref10_Seek.f k v3).bind fun t575 => (if t575 = true then (quillref15_Go.j2 k x0 x1 x13 x15 v3 v5 v3 v5) else (if v6 = 0 then (some (0, 0, 0, 0, 6)) else (if v3 = 44 then ((quillref10_Turned.f v6).bind fun t576 => (quillref15_Go.j2 k x0 x1 x13 x15 t576 v7 v6 v7)) else (quillref15_Go.j2 k x0 x1 x13 x15 v6 v7 v6 v7))))) else (if v3 = 123 then (quillref15_Go.j4 k x0 x1 x4 x13 x15 x16 (v3 == 123) v0 v1 v2 v3 v4 v5 v6 v7) else (quillref15_Go.j4 k x0 x1 x4 x13 x15 x16 (v3 == 125) v0 v1 v2 v3 v4 v5 v6 v7))
def quillref15_Go.j2 : Nat → List Int → Int → Int → Int → Int → Int → Int → Int → Option (Int × Int × Int × Int × Int)
  | 0, _, _, _, _, _, _, _, _ => none
  | k + 1, x0, x1, x13, x15, x17, x18, v0, v1 => (quillref10_Find.f k x0 x1 x17 x18 x13).bind fun bt577 => (if x17 = 102 then (quillref15_Go.j3 k bt577.1 x15 bt577.2 true v0 v1) else (quillref15_Go.j3 k bt577.1 x15 bt577.2 (x17 == 116) v0 v1))
def quillref15_Go.j3 : Nat → Int → Int → Int → Bool → Int → Int → Option (Int × Int × Int × Int × Int)
  | 0, _, _, _, _, _, _ => none
  | k + 1, x14, x15, x16, x109, v0, v1 => if x109 = true then (if x16 = 0 then (some (x14, 1, v0, v1, 0)) else (some (0, 0, 0, 0, x16))) else (if x16 = 0 then (some (x14, x15, v0, v1, 0)) else (some (0, 0, 0, 0, x16)))
def quillref15_Go.j4 : Nat → List Int → Int → List (S89) → Int → Int → Int → Bool → Int → Int → Int → Int → Int → Int → Int → Int → Option (Int × Int × Int × Int × Int)
  | 0, _, _, _, _, _, _, _, _, _, _, _, _, _, _, _ => none
  | k + 1, x0, x1, x4, x13, x15, x16, x110, v0, v1, v2, v3, v4, v5, v6, v7 => if x110 = true then ((quillref12_Paras.f k x0 x1 v3 x13).bind fun bt579 => (if bt579.2 = 0 then (some (bt579.1, x15, v6, v7, 0)) else (some (0, 0, 0, 0, bt579.2)))) else (if v3 = 37 then ((quillref12_Pair.f k x0 x1).bind fun t581 => (if t581 < 0 then (some (0, 0, 0, 0, 6)) else (if x16 = 0 then (some (t581, 1, v6, v7, 0)) else (some (0, 0, 0, 0, x16))))) else (if v3 = 39 then (quillref15_Go.j5 k x0 x1 x4 x15 x16 (v3 == 39) v0 v1 v2 v3 v4 v5 v6 v7) else (quillref15_Go.j5 k x0 x1 x4 x15 x16 (v3 == 96) v0 v1 v2 v3 v4 v5 v6 v7)))
def quillref15_Go.j5 : Nat → List Int → Int → List (S89) → Int → Int → Bool → Int → Int → Int → Int → Int → Int → Int → Int → Option (Int × Int × Int × Int × Int)
  | 0, _, _, _, _, _, _, _, _, _, _, _, _, _, _ => none
  | k + 1, x0, x1, x4, x15, x16, x135, v0, v1, v2, v3, v4, v5, v6, v7 => if x135 = true then ((quillref6_Get.f k x4 v5).bind fun t582 => (if t582 < 0 then (quillref15_Go.j6 k x0 t582 x15 x16 true v0 v1 v2 v3 v4 v5 v6 v7) else (quillref15_Go.j6 k x0 t582 x15 x16 (decide (t582 > (x0.length : Int))) v0 v1 v2 v3 v4 v5 v6 v7))) else ((quillref12_Move.f k x0 x1 v3 v1).bind fun bt584 => (if bt584.2.2 = 0 then (some (bt584.1, bt584.2.1, v6, v7, 0)) else (some (0, 0, 0, 0, bt584.2.2))))
def quillref15_Go.j6 : Nat → List Int → Int → Int → Int → Bool → Int → Int → Int → Int → Int → Int → Int → Int → Option (Int × Int × Int × Int × Int)
  | 0, _, _, _, _, _, _, _, _, _, _, _, _, _ => none
  | k + 1, x0, x14, x15, x16, x153, v0, v1, v2, v3, v4, v5, v6, v7 => if x153 = true then (some (0, 0, 0, 0, 6)) else (if v3 = 39 then ((quillref1_First.f k x0 x14).bind fun t583 => (if x16 = 0 then (some (t583, 2, v6, v7, 0)) else (some (0, 0, 0, 0, x16)))) else (if x16 = 0 then (some (x14, x15, v6, v7, 0)) else (some (0, 0, 0, 0, x16))))
end
def quillref15_Go.f (k : Nat) (l0 : List Int) (a1 : Int) (a2_0 : Int) (a2_1 : Int) (a2_2 : Int) (a2_3 : Int) (a2_4 : Int) (a2_5 : Int) (a3_0 : Int) (a3_1 : Int) (l4 : List (S89)) : Option (Int × Int × Int × Int × Int) := (quillref10_Word.f k a2_3).bind fun t571 => (if t571 = true then ((quillref10_Move.f k l0 a1 a2_3 (mx 1 a2_1)).bind fun bt572 => (if a2_3 = 101 then (quillref15_Go.j0 k bt572.1 0 bt572.2 true a3_0 a3_1) else (quillref15_Go.j0 k bt572.1 0 bt572.2 (a2_3 == 69) a3_0 a3_1))) else ((quillref10_Seek.f k a2_3).bind fun t574 => (if t574 = true then (quillref15_Go.j1 k l0 a1 l4 (mx 1 a2_1) 0 0 t574 a2_0 a2_1 a2_2 a2_3 a2_4 a2_5 a3_0 a3_1) else (if a2_3 = 59 then (quillref15_Go.j1 k l0 a1 l4 (mx 1 a2_1) 0 0 (a2_3 == 59) a2_0 a2_1 a2_2 a2_3 a2_4 a2_5 a3_0 a3_1) else (quillref15_Go.j1 k l0 a1 l4 (mx 1 a2_1) 0 0 (a2_3 == 44) a2_0 a2_1 a2_2 a2_3 a2_4 a2_5 a3_0 a3_1)))))
def quillref15_Go.T4 : Bool × List (List Nat × List Nat) := (true, [([], []), ([0], [0]), ([], []), ([2], [2]), ([], []), ([1, 0, 1], [1]), ([3, 5, 0, 1, 2, 3, 5], [3]), ([4, 6, 0, 1, 2, 3, 4, 5, 6], [4])])
def quillref15_Go.B4 : List Nat := [0, 1, 0, 4, 0, 3, 47, 127]
theorem quillref15_Go.tab4 : rtab .any (opsOf Tryd.f37 4) = quillref15_Go.T4 := by kernel_rfl
theorem quillref15_Go.bits4 : waitsOk quillref15_Go.T4.2 quillref15_Go.B4 = true := by kernel_rfl
theorem quillref15_Go.calls {k : Nat} {A0 : Option Addr} {c0 : Nat} {l0 : List Int} {a1 : Int} {a2_0 : Int} {a2_1 : Int} {a2_2 : Int} {a2_3 : Int} {a2_4 : Int} {a2_5 : Int} {a3_0 : Int} {a3_1 : Int} {A4 : Option Addr} {c4 : Nat} {l4 : List (S89)} {r1 : Int} {r2 : Int} {r3 : Int} {r4 : Int} {r5 : Int} {w : World} (hr0 : Kd.C (Kd.int .i32) w A0 l0.length l0) (hc0 : l0.length ≤ c0) (hr4 : Kd.C k89 w A4 l4.length l4) (hc4 : l4.length ≤ c4) (H : quillref15_Go.f k l0 a1 a2_0 a2_1 a2_2 a2_3 a2_4 a2_5 a3_0 a3_1 l4 = some (r1, r2, r3, r4, r5)) :
  Calls Tryd.prog 37 #[.slice A0 l0.length c0, .int .i64 a1, .agg #[.int .i64 a2_0, .int .i64 a2_1, .int .i64 a2_2, .int .i64 a2_3, .int .i64 a2_4, .int .i64 a2_5], .agg #[.int .i64 a3_0, .int .i64 a3_1], .slice A4 l4.length c4] w fun e w' => e = .returned (.tuple #[.agg #[.int .i64 r1, .int .i64 r2], .agg #[.int .i64 r3, .int .i64 r4], .int .i64 r5]) ∧ Below w.heap.size w w' := by
 have hu52 := Tryd.underlying52; have hu31 := Tryd.underlying31; have hu54 := Tryd.underlying54; have HR0 := Aside0.mk hr0; have HC0 := Aside0.mk hc0; clear hr0 hc0; have HR4 := Aside0.mk hr4; have HC4 := Aside0.mk hc4; clear hr4 hc4; have HB := Aside0.mk (Below.refl w.heap.size w); unfold quillref15_Go.f at H; obtain ⟨ji6, hji6⟩ : ∃ j_ : Int, (mx 1 a2_1) = j_ := ⟨_, rfl⟩; (first | rw [hji6] at H | simp only [hji6] at H)
 (try (have hji6l : 1 ≤ ji6 := by (rw [← hji6]; unfold mx; (repeat' split) <;> omega))); (try (have hji6m : 0 ≤ ji6 := by omega))
 have hji6_ : (if 1 < a2_1 then a2_1 else 1) = ji6 := hji6
 replace H := bindA H; obtain ⟨t571, A7, H⟩ := H; (try dsimp only at H); replace H := ifb H; obtain ⟨rfl, H⟩ | ⟨rfl, H⟩ := H
 ·
  replace H := bindA H; obtain ⟨⟨t572, t573⟩, A9, H⟩ := H; (try dsimp only at H); have HC10 := Aside0.mk H; clear H; go_enter Tryd.func37, Tryd.ntmps37
  go_upto_region 7 with (first | ((with_reducible refine gN 7 rfl ?_); (try (refine gate_guard (by rfl) ?_; dsimp only)); refine box1 (N := 7) (cs := #[.int .i64 a2_0, .int .i64 a2_1, .int .i64 a2_2, .int .i64 a2_3, .int .i64 a2_4, .int .i64 a2_5]) (t := 52) ?_; intro gb567 hg w11 hbox hb; have BK567 := Aside0.mk hbox; have GW567 := gE hg; have GE567 := GW567; replace HB := hB hb; clear hb hbox hg) | ((with_reducible refine gN 8 rfl ?_); (try (refine gate_guard (by rfl) ?_; dsimp only)); refine box1 (N := 8) (cs := #[.int .i64 a3_0, .int .i64 a3_1]) (t := 31) ?_; intro gb568 hg w12 hbox hb; have BK568 := Aside0.mk hbox; have GW568 := gE hg; have GE568 := GW568; have NB567_568 := nbl hg BK567.out; have NB568_567 := nbr hg BK567.out; replace BK567 := blB hb BK567; replace HB := hB hb; clear hb hbox hg) | ((with_reducible refine gN 10 rfl ?_); (try (refine gate_guard (by rfl) ?_; dsimp only)); refine box1 (N := 10) (cs := #[.int .i64 0, .int .i64 0]) (t := 54) ?_; intro gb569 hg w13 hbox hb; have BK569 := Aside0.mk hbox; have GW569 := gE hg; have GE569 := GW569; have NB567_569 := nbl hg BK567.out; have NB569_567 := nbr hg BK567.out; have NB568_569 := nbl hg BK568.out; have NB569_568 := nbr hg BK568.out; replace BK567 := blB hb BK567; replace BK568 := blB hb BK568; replace HB := hB hb; clear hb hbox hg) | ((with_reducible refine gN 11 rfl ?_); (try (refine gate_guard (by rfl) ?_; dsimp only)); refine box1 (N := 11) (cs := #[.int .i64 0, .int .i64 0]) (t := 31) ?_; intro gb570 hg w14 hbox hb; have BK570 := Aside0.mk hbox; have GW570 := gE hg; have GE570 := GW570; have NB567_570 := nbl hg BK567.out; have NB570_567 := nbr hg BK567.out; have NB568_570 := nbl hg BK568.out; have NB570_568 := nbr hg BK568.out; have NB569_570 := nbl hg BK569.out; have NB570_569 := nbr hg BK569.out; replace BK567 := blB hb BK567; replace BK568 := blB hb BK568; replace BK569 := blB hb BK569; replace HB := hB hb; clear hb hbox hg; have hcz18 := cs6 BK567.out) | ((with_reducible refine gC 43 rfl ?_); refine goesL1 (some 42) Tryd.func43 #[.int .i64 a2_3] rfl (map1 rfl) ?_; (with_reducible refine (quillref10_Word.calls A7.out).mono ?_); rintro e w19 ⟨rfl, hb⟩; refine ⟨_, rfl, ?_⟩; replace BK567 := blB hb BK567; replace BK568 := blB hb BK568; replace BK569 := blB hb BK569; replace BK570 := blB hb BK570; replace HB := hB hb; (try clear hb); have hcz20 := cs6 BK567.out; (try clear hcz18)) | ((with_reducible refine gC 56 rfl ?_); refine goesL1 (some 49) Tryd.func56 #[.slice A0 l0.length c0, .int .i64 a1, .int .i64 a2_3, .int .i64 ji6] rfl (by (try simp only [List.map_toArray, List.map_cons, List.map_nil]); first | done | (simp only [hji6]; rfl) | rfl | (simp only [List.length_drop, List.length_take]; rfl)) ?_; refine cm_ (quillref10_Move.calls sd_ sd_ A9.out) ?_; rintro e w21 ⟨rfl, hb⟩; refine ⟨_, rfl, ?_⟩; replace BK567 := blB hb BK567; replace BK568 := blB hb BK568; replace BK569 := blB hb BK569; replace BK570 := blB hb BK570; replace HB := hB hb; (try clear hb); (try clear hcz20)))
  (try simp only [Act.put, List.setIfInBounds_toArray, List.set_cons_zero, List.set_cons_succ])
  go_cut [59] (fun v59 wc => ∃ (kq : Nat) (x59_9 : Bool), v59 = .bool x59_9 ∧ Aside0 (quillref15_Go.j0 kq t572 0 t573 x59_9 a3_0 a3_1 = some (r1, r2, r3, r4, r5)) ∧ Aside0 (kq ≤ k) ∧ Aside0 (wc.heap[gb567]? = some (.cells #[.int .i64 a2_0, .int .i64 a2_1, .int .i64 a2_2, .int .i64 a2_3, .int .i64 a2_4, .int .i64 a2_5] 52 (0, 0))) ∧ Aside0 (wc.heap[gb568]? = some (.cells #[.int .i64 a3_0, .int .i64 a3_1] 31 (0, 0))) ∧ Aside0 (wc.heap[gb569]? = some (.cells #[.int .i64 0, .int .i64 0] 54 (0, 0))) ∧ Aside0 (wc.heap[gb570]? = some (.cells #[.int .i64 0, .int .i64 0] 31 (0, 0))) ∧ Aside0 (Below w.heap.size w wc))
  case first =>
   obtain ⟨H⟩ := HC10; replace H := nfe H; obtain ⟨c22b0, c22b1, H⟩ | ⟨c22b0, c22b1, H⟩ := H
   ·
    (first | rw [c22b0] | (simp only [i64_w, i32_w]; rw [c22b0]) | skip); replace H := Aside0.mk H; have hcz30 := cs6 BK567.out; go_wp2; go_meet
    case rel => exact ⟨_, ((a2_3 == 69)), r3_, H, ⟨ol_⟩, ⟨BK567.out⟩, ⟨BK568.out⟩, ⟨BK569.out⟩, ⟨BK570.out⟩, ⟨bl_⟩⟩
   (first | rw [c22b0] | (simp only [i64_w, i32_w]; rw [c22b0]) | skip); replace H := Aside0.mk H; have hcz26 := cs6 BK567.out; go_wp2; go_meet
   case rel => exact ⟨_, (true), r3_, H, ⟨ol_⟩, ⟨BK567.out⟩, ⟨BK568.out⟩, ⟨BK569.out⟩, ⟨BK570.out⟩, ⟨bl_⟩⟩
  case rest =>
   clear HC10
   try clear hcz18
   try clear hcz20
   obtain ⟨kq, x59_9, rfl, HA, HJ9, BK567, BK568, BK569, BK570, HB⟩ := hcut
   cases kq with
   | zero => exact absurd HA.out (by simp [quillref15_Go.j0])
   | succ kj9 =>
    obtain ⟨H⟩ := HA; simp only [quillref15_Go.j0] at H; replace H := ifb H; obtain ⟨rfl, H⟩ | ⟨rfl, H⟩ := H
    ·
     replace H := nfe H; obtain ⟨c32b0, c32b1, H⟩ | ⟨c32b0, c32b1, H⟩ := H
     ·
      replace H := so5 H; obtain ⟨rfl, rfl, rfl, rfl, rfl⟩ := H; have hcz41 := cs2 BK569.out; have hcz44 := cs2 BK570.out; go_wp2; refine bodyPost_ret (results_list (rs := [.cell 10 54, .cell 11 31, .tmp 12]) rfl (by simp) (.cell gb569 54 #[.int .i64 0, .int .i64 0] (0, 0) _ rfl bk_ Tryd.underlying54 rfl (by kernel_rfl) (.cell gb570 31 #[.int .i64 0, .int .i64 0] (0, 0) _ rfl bk_ Tryd.underlying31 rfl (by kernel_rfl) (.tmp .nil)))) rfl ?_
      exact ⟨by first | exact rr_ | (simp only [← hji6]; exact rr_), bl_⟩
     replace H := so5 H; obtain ⟨rfl, rfl, rfl, rfl, rfl⟩ := H
     try go_wp2
     replace BK567 := Aside0.mk (blk_drew BK567.out); replace BK568 := Aside0.mk (blk_drew BK568.out); replace BK569 := Aside0.mk (blk_drew BK569.out); replace BK570 := Aside0.mk (blk_drew BK570.out); replace HB := Aside0.mk (below_drew1 HB.out)
     refine start_ (n := 7) (S := fun w' => w'.cell? ⟨gb568, 0, none⟩ = some (.int .i64 a3_0) ∧ w'.cell? ⟨gb568, 1, none⟩ = some (.int .i64 a3_1)) (ds := []) (lo 7 0) (by kernel_rfl) rfl rfl ⟨(blk_cell BK568.out 0).trans rfl, (blk_cell BK568.out 1).trans rfl⟩ (fun hHeld => ?_)
     generalize wc.drew = w33 at BK567 BK568 BK569 BK570 HB hHeld ⊢
     (iterate 3 refine pi ?_)
     refine tj hHeld ?_
     refine one_ (i := 4) (N := none) (lo 7 5) rfl rfl (by kernel_rfl) (by decide) (fun K hK => ?_)
     have hs34 := cz0 BK569.out; have hfs34 := blk_frozen BK569.out 0; have hs35 := cz1 BK569.out; have hfs35 := blk_frozen BK569.out 1; refine skip_ (w1 := ?_) (by rfl) rfl ?_ ?_; rotate_left
     ·
      go_simp
      rfl
     refine hK.out _ _ hh_ (fun hHeld => ?_)
     clear hK K
     refine one_ (i := 5) (N := none) (lo 7 6) rfl rfl (by kernel_rfl) (by decide) (fun K hK => ?_)
     have hs36 := cz0 BK570.out; have hfs36 := blk_frozen BK570.out 0; have hs37 := cz1 BK570.out; have hfs37 := blk_frozen BK570.out 1; refine skip_ (w1 := ?_) (by rfl) rfl ?_ ?_; rotate_left
     ·
      go_simp
      rfl
     refine hK.out _ _ hh_ (fun hHeld => ?_)
     clear hK K; refine pi ?_; refine done_ (by kernel_rfl) ?_
     try go_wp2
     refine bodyPost_ret (results_list (rs := [.cell 10 54, .cell 11 31, .tmp 12]) rfl (by simp) (.cell gb569 54 #[.int .i64 t572, .int .i64 1] (0, 0) _ rfl bk_ Tryd.underlying54 rfl (by kernel_rfl) (.cell gb570 31 #[.int .i64 a3_0, .int .i64 a3_1] (0, 0) _ rfl bk_ Tryd.underlying31 rfl (by kernel_rfl) (.tmp .nil)))) rfl ?_
     exact ⟨by first | exact rr_ | (simp only [← hji6]; exact rr_), bl_⟩
    replace H := nfe H; obtain ⟨c45b0, c45b1, H⟩ | ⟨c45b0, c45b1, H⟩ := H
    ·
     replace H := so5 H; obtain ⟨rfl, rfl, rfl, rfl, rfl⟩ := H; have hcz54 := cs2 BK569.out; have hcz57 := cs2 BK570.out; go_wp2; refine bodyPost_ret (results_list (rs := [.cell 10 54, .cell 11 31, .tmp 12]) rfl (by simp) (.cell gb569 54 #[.int .i64 0, .int .i64 0] (0, 0) _ rfl bk_ Tryd.underlying54 rfl (by kernel_rfl) (.cell gb570 31 #[.int .i64 0, .int .i64 0] (0, 0) _ rfl bk_ Tryd.underlying31 rfl (by kernel_rfl) (.tmp .nil)))) rfl ?_
     exact ⟨by first | exact rr_ | (simp only [← hji6]; exact rr_), bl_⟩
    replace H := so5 H; obtain ⟨rfl, rfl, rfl, rfl, rfl⟩ := H
    try go_wp2
    replace BK567 := Aside0.mk (blk_drew BK567.out); replace BK568 := Aside0.mk (blk_drew BK568.out); replace BK569 := Aside0.mk (blk_drew BK569.out); replace BK570 := Aside0.mk (blk_drew BK570.out); replace HB := Aside0.mk (below_drew1 HB.out)
    refine start_ (n := 7) (S := fun w' => w'.cell? ⟨gb568, 0, none⟩ = some (.int .i64 a3_0) ∧ w'.cell? ⟨gb568, 1, none⟩ = some (.int .i64 a3_1)) (ds := []) (lo 7 0) (by kernel_rfl) rfl rfl ⟨(blk_cell BK568.out 0).trans rfl, (blk_cell BK568.out 1).trans rfl⟩ (fun hHeld => ?_)
    generalize wc.drew = w46 at BK567 BK568 BK569 BK570 HB hHeld ⊢
    (iterate 3 refine pi ?_)
    refine tj hHeld ?_
    refine one_ (i := 4) (N := none) (lo 7 5) rfl rfl (by kernel_rfl) (by decide) (fun K hK => ?_)
    have hs47 := cz0 BK569.out; have hfs47 := blk_frozen BK569.out 0; have hs48 := cz1 BK569.out; have hfs48 := blk_frozen BK569.out 1; refine skip_ (w1 := ?_) (by rfl) rfl ?_ ?_; rotate_left
    ·
     go_simp
     rfl
    refine hK.out _ _ hh_ (fun hHeld => ?_)
    clear hK K
    refine one_ (i := 5) (N := none) (lo 7 6) rfl rfl (by kernel_rfl) (by decide) (fun K hK => ?_)
    have hs49 := cz0 BK570.out; have hfs49 := blk_frozen BK570.out 0; have hs50 := cz1 BK570.out; have hfs50 := blk_frozen BK570.out 1; refine skip_ (w1 := ?_) (by rfl) rfl ?_ ?_; rotate_left
    ·
     go_simp
     rfl
    refine hK.out _ _ hh_ (fun hHeld => ?_)
    clear hK K; refine pi ?_; refine done_ (by kernel_rfl) ?_
    try go_wp2
    refine bodyPost_ret (results_list (rs := [.cell 10 54, .cell 11 31, .tmp 12]) rfl (by simp) (.cell gb569 54 #[.int .i64 t572, .int .i64 0] (0, 0) _ rfl bk_ Tryd.underlying54 rfl (by kernel_rfl) (.cell gb570 31 #[.int .i64 a3_0, .int .i64 a3_1] (0, 0) _ rfl bk_ Tryd.underlying31 rfl (by kernel_rfl) (.tmp .nil)))) rfl ?_
    exact ⟨by first | exact rr_ | (simp only [← hji6]; exact rr_), bl_⟩
 replace H := bindA H; obtain ⟨t574, A58, H⟩ := H; (try dsimp only at H); have HC59 := Aside0.mk H; clear H; go_enter Tryd.func37, Tryd.ntmps37
 go_upto_if 60 with (first | ((with_reducible refine gN 7 rfl ?_); (try (refine gate_guard (by rfl) ?_; dsimp only)); refine box1 (N := 7) (cs := #[.int .i64 a2_0, .int .i64 a2_1, .int .i64 a2_2, .int .i64 a2_3, .int .i64 a2_4, .int .i64 a2_5]) (t := 52) ?_; intro gb567 hg w60 hbox hb; have BK567 := Aside0.mk hbox; have GW567 := gE hg; have GE567 := GW567; replace HB := hB hb; clear hb hbox hg) | ((with_reducible refine gN 8 rfl ?_); (try (refine gate_guard (by rfl) ?_; dsimp only)); refine box1 (N := 8) (cs := #[.int .i64 a3_0, .int .i64 a3_1]) (t := 31) ?_; intro gb568 hg w61 hbox hb; have BK568 := Aside0.mk hbox; have GW568 := gE hg; have GE568 := GW568; have NB567_568 := nbl hg BK567.out; have NB568_567 := nbr hg BK567.out; replace BK567 := blB hb BK567; replace HB := hB hb; clear hb hbox hg) | ((with_reducible refine gN 10 rfl ?_); (try (refine gate_guard (by rfl) ?_; dsimp only)); refine box1 (N := 10) (cs := #[.int .i64 0, .int .i64 0]) (t := 54) ?_; intro gb569 hg w62 hbox hb; have BK569 := Aside0.mk hbox; have GW569 := gE hg; have GE569 := GW569; have NB567_569 := nbl hg BK567.out; have NB569_567 := nbr hg BK567.out; have NB568_569 := nbl hg BK568.out; have NB569_568 := nbr hg BK568.out; replace BK567 := blB hb BK567; replace BK568 := blB hb BK568; replace HB := hB hb; clear hb hbox hg) | ((with_reducible refine gN 11 rfl ?_); (try (refine gate_guard (by rfl) ?_; dsimp only)); refine box1 (N := 11) (cs := #[.int .i64 0, .int .i64 0]) (t := 31) ?_; intro gb570 hg w63 hbox hb; have BK570 := Aside0.mk hbox; have GW570 := gE hg; have GE570 := GW570; have NB567_570 := nbl hg BK567.out; have NB570_567 := nbr hg BK567.out; have NB568_570 := nbl hg BK568.out; have NB570_568 := nbr hg BK568.out; have NB569_570 := nbl hg BK569.out; have NB570_569 := nbr hg BK569.out; replace BK567 := blB hb BK567; replace BK568 := blB hb BK568; replace BK569 := blB hb BK569; replace HB := hB hb; clear hb hbox hg; have hcz67 := cs6 BK567.out) | ((with_reducible refine gC 43 rfl ?_); refine goesL1 (some 42) Tryd.func43 #[.int .i64 a2_3] rfl (map1 rfl) ?_; (with_reducible refine (quillref10_Word.calls A7.out).mono ?_); rintro e w68 ⟨rfl, hb⟩; refine ⟨_, rfl, ?_⟩; replace BK567 := blB hb BK567; replace BK568 := blB hb BK568; replace BK569 := blB hb BK569; replace BK570 := blB hb BK570; replace HB := hB hb; (try clear hb); have hcz69 := cs6 BK567.out; (try clear hcz67)) | ((with_reducible refine gC 46 rfl ?_); refine goesL1 (some 63) Tryd.func46 #[.int .i64 a2_3] rfl (map1 rfl) ?_; (with_reducible refine (quillref10_Seek.calls A58.out).mono ?_); rintro e w70 ⟨rfl, hb⟩; refine ⟨_, rfl, ?_⟩; replace BK567 := blB hb BK567; replace BK568 := blB hb BK568; replace BK569 := blB hb BK569; replace BK570 := blB hb BK570; replace HB := hB hb; (try clear hb); (try clear hcz69)))
 (try simp only [Act.put, List.setIfInBounds_toArray, List.set_cons_zero, List.set_cons_succ])
 go_cut [60] (fun v60 wc => ∃ (kq : Nat) (x60_58 : Bool), v60 = .bool x60_58 ∧ Aside0 (quillref15_Go.j1 kq l0 a1 l4 ji6 0 0 x60_58 a2_0 a2_1 a2_2 a2_3 a2_4 a2_5 a3_0 a3_1 = some (r1, r2, r3, r4, r5)) ∧ Aside0 (kq ≤ k) ∧ Aside0 (wc.heap[gb567]? = some (.cells #[.int .i64 a2_0, .int .i64 a2_1, .int .i64 a2_2, .int .i64 a2_3, .int .i64 a2_4, .int .i64 a2_5] 52 (0, 0))) ∧ Aside0 (wc.heap[gb568]? = some (.cells #[.int .i64 a3_0, .int .i64 a3_1] 31 (0, 0))) ∧ Aside0 (wc.heap[gb569]? = some (.cells #[.int .i64 0, .int .i64 0] 54 (0, 0))) ∧ Aside0 (wc.heap[gb570]? = some (.cells #[.int .i64 0, .int .i64 0] 31 (0, 0))) ∧ Aside0 (Below w.heap.size w wc))
 case first =>
  obtain ⟨H⟩ := HC59; replace H := ifb H; obtain ⟨rfl, H⟩ | ⟨rfl, H⟩ := H
  ·
   replace H := Aside0.mk H; go_wp2; go_meet
   case rel => exact ⟨_, (true), r3_, H, ⟨ol_⟩, ⟨BK567.out⟩, ⟨BK568.out⟩, ⟨BK569.out⟩, ⟨BK570.out⟩, ⟨bl_⟩⟩
  replace H := nfe H; obtain ⟨c72b0, c72b1, H⟩ | ⟨c72b0, c72b1, H⟩ := H
  ·
   (first | rw [c72b0] | (simp only [i64_w, i32_w]; rw [c72b0]) | skip); replace H := Aside0.mk H; have hcz80 := cs6 BK567.out; go_wp2; go_meet
   case rel => exact ⟨_, ((a2_3 == 44)), r3_, H, ⟨ol_⟩, ⟨BK567.out⟩, ⟨BK568.out⟩, ⟨BK569.out⟩, ⟨BK570.out⟩, ⟨bl_⟩⟩
  (first | rw [c72b0] | (simp only [i64_w, i32_w]; rw [c72b0]) | skip); replace H := Aside0.mk H; have hcz76 := cs6 BK567.out; go_wp2; go_meet
  case rel => exact ⟨_, ((a2_3 == 59)), r3_, H, ⟨ol_⟩, ⟨BK567.out⟩, ⟨BK568.out⟩, ⟨BK569.out⟩, ⟨BK570.out⟩, ⟨bl_⟩⟩
 case rest =>
  clear HC59
  try clear hcz67
  try clear hcz69
  obtain ⟨kq, x60_58, rfl, HA, HJ58, BK567, BK568, BK569, BK570, HB⟩ := hcut
  cases kq with
  | zero => exact absurd HA.out (by simp [quillref15_Go.j1])
  | succ kj58 =>
   obtain ⟨H⟩ := HA; simp only [quillref15_Go.j1] at H; replace H := ifb H; obtain ⟨rfl, H⟩ | ⟨rfl, H⟩ := H
   ·
    replace H := bindA H; obtain ⟨t575, A82, H⟩ := H; (try dsimp only at H); have HC83 := Aside0.mk H; clear H
    try go_wp2
    replace BK567 := Aside0.mk (blk_drew BK567.out); replace BK568 := Aside0.mk (blk_drew BK568.out); replace BK569 := Aside0.mk (blk_drew BK569.out); replace BK570 := Aside0.mk (blk_drew BK570.out); replace HB := Aside0.mk (below_drew1 HB.out)
    refine start_ (n := 6) (S := fun w' => w'.cell? ⟨gb567, 0, none⟩ = some (.int .i64 a2_0) ∧ w'.cell? ⟨gb567, 1, none⟩ = some (.int .i64 a2_1) ∧ w'.cell? ⟨gb567, 2, none⟩ = some (.int .i64 a2_2) ∧ w'.cell? ⟨gb567, 3, none⟩ = some (.int .i64 a2_3) ∧ w'.cell? ⟨gb567, 4, none⟩ = some (.int .i64 a2_4) ∧ w'.cell? ⟨gb567, 5, none⟩ = some (.int .i64 a2_5)) (ds := []) (lo 6 0) (by kernel_rfl) rfl rfl ⟨(blk_cell BK567.out 0).trans rfl, (blk_cell BK567.out 1).trans rfl, (blk_cell BK567.out 2).trans rfl, (blk_cell BK567.out 3).trans rfl, (blk_cell BK567.out 4).trans rfl, (blk_cell BK567.out 5).trans rfl⟩ (fun hHeld => ?_)
    generalize wc.drew = w84 at BK567 BK568 BK569 BK570 HB hHeld ⊢
    refine pi ?_; refine pu 2 (bs 6 5) ?_; refine tk 1 (bs 6 7) hHeld ?_; refine pu 4 (bs 6 23) ?_; refine tk 3 (bs 6 31) hHeld ?_; refine pu 5 (bs 6 63) ?_; refine done_ (by kernel_rfl) ?_; have hcz88 := cs6 BK567.out
    go_upto_if 77 with (first | ((with_reducible refine gC 46 rfl ?_); refine goesL1 (some 76) Tryd.func46 #[.int .i64 a2_3] rfl (map1 rfl) ?_; (with_reducible refine (quillref10_Seek.calls A82.out).mono ?_); rintro e w89 ⟨rfl, hb⟩; refine ⟨_, rfl, ?_⟩; replace BK567 := blB hb BK567; replace BK568 := blB hb BK568; replace BK569 := blB hb BK569; replace BK570 := blB hb BK570; replace HB := hB hb; (try clear hb)))
    (try simp only [Act.put, List.setIfInBounds_toArray, List.set_cons_zero, List.set_cons_succ])
    go_cut [17, 18] (fun v17 v18 wc => ∃ (kq : Nat) (x17_82 : Int) (x18_82 : Int) (x569000_82 : Int) (x569001_82 : Int) (x570000_82 : Int) (x570001_82 : Int) (x571000_82 : Int) (x571001_82 : Int), v17 = .int .i64 x17_82 ∧ v18 = .int .i64 x18_82 ∧ Aside0 (quillref15_Go.j2 kq l0 a1 ji6 0 x17_82 x18_82 x569000_82 x569001_82 = some (r1, r2, r3, r4, r5)) ∧ Aside0 (kq ≤ kj58) ∧ Aside0 (wc.heap[gb567]? = some (.cells #[.int .i64 a2_0, .int .i64 a2_1, .int .i64 a2_2, .int .i64 a2_3, .int .i64 a2_4, .int .i64 a2_5] 52 (0, 0))) ∧ Aside0 (wc.heap[gb568]? = some (.cells #[.int .i64 x569000_82, .int .i64 x569001_82] 31 (0, 0))) ∧ Aside0 (wc.heap[gb569]? = some (.cells #[.int .i64 x570000_82, .int .i64 x570001_82] 54 (0, 0))) ∧ Aside0 (wc.heap[gb570]? = some (.cells #[.int .i64 x571000_82, .int .i64 x571001_82] 31 (0, 0))) ∧ Aside0 (Below w.heap.size w wc))
    case first =>
     obtain ⟨H⟩ := HC83; replace H := ifb H; obtain ⟨rfl, H⟩ | ⟨rfl, H⟩ := H
     ·
      replace H := Aside0.mk H; have hcz94 := cs2 BK568.out; go_wp2; go_meet
      case rel => exact ⟨_, (a2_3), (a2_5), (a2_3), (a2_5), (0), (0), (0), (0), r3_, r3_, H, ⟨by have := HJ58.out; first | omega | exact Nat.le_refl _⟩, ⟨bk_⟩, ⟨bk_⟩, ⟨bk_⟩, ⟨bk_⟩, ⟨bl_⟩⟩
     replace H := ife H; obtain ⟨c95b0, c95b1, H⟩ | ⟨c95b0, c95b1, H⟩ := H
     ·
      (first | rw [c95b0] | (simp only [i64_w, i32_w]; rw [c95b0]) | skip); replace H := so5 H; obtain ⟨rfl, rfl, rfl, rfl, rfl⟩ := H; have hcz99 := cs2 BK568.out; have hcz102 := cs2 BK569.out; have hcz104 := cs2 BK570.out; go_wp2; refine bodyPost_ret (results_list (rs := [.cell 10 54, .cell 11 31, .tmp 12]) rfl (by simp) (.cell gb569 54 #[.int .i64 0, .int .i64 0] (0, 0) _ rfl bk_ Tryd.underlying54 rfl (by kernel_rfl) (.cell gb570 31 #[.int .i64 0, .int .i64 0] (0, 0) _ rfl bk_ Tryd.underlying31 rfl (by kernel_rfl) (.tmp .nil)))) rfl ?_
      exact ⟨by first | exact rr_ | (simp only [← hji6]; exact rr_), bl_⟩
     (first | rw [c95b0] | (simp only [i64_w, i32_w]; rw [c95b0]) | skip); replace H := nfe H; obtain ⟨c105b0, c105b1, H⟩ | ⟨c105b0, c105b1, H⟩ := H
     ·
      replace H := Aside0.mk H; have hcz118 := cs2 BK568.out
      try go_wp2
      replace BK567 := Aside0.mk (blk_drew BK567.out); replace BK568 := Aside0.mk (blk_drew BK568.out); replace BK569 := Aside0.mk (blk_drew BK569.out); replace BK570 := Aside0.mk (blk_drew BK570.out); replace HB := Aside0.mk (below_drew1 HB.out)
      refine start_ (n := 6) (S := fun w' => w'.cell? ⟨gb568, 0, none⟩ = some (.int .i64 a3_0) ∧ w'.cell? ⟨gb568, 1, none⟩ = some (.int .i64 a3_1)) (ds := []) (lo 6 0) (by kernel_rfl) rfl rfl ⟨(blk_cell BK568.out 0).trans rfl, (blk_cell BK568.out 1).trans rfl⟩ (fun hHeld => ?_)
      generalize w89.drew = w119 at BK567 BK568 BK569 BK570 HB hHeld ⊢
      refine pi ?_; refine pu 2 (bs 6 5) ?_; refine tk 1 (bs 6 7) hHeld ?_; refine pu 4 (bs 6 23) ?_; refine tk 3 (bs 6 31) hHeld ?_; refine pu 5 (bs 6 63) ?_; refine done_ (by kernel_rfl) ?_; have hcz122 := cs6 BK567.out
      try go_wp2
      go_meet
      case rel => exact ⟨_, (a3_0), (a3_1), (a3_0), (a3_1), (0), (0), (0), (0), r3_, r3_, H, ⟨by have := HJ58.out; first | omega | exact Nat.le_refl _⟩, ⟨BK567.out⟩, ⟨BK568.out⟩, ⟨BK569.out⟩, ⟨BK570.out⟩, ⟨bl_⟩⟩
     replace H := bindA H; obtain ⟨t576, A106, H⟩ := H; (try dsimp only at H); replace H := Aside0.mk H; have hcz110 := cs2 BK568.out
     try go_wp2
     replace BK567 := Aside0.mk (blk_drew BK567.out); replace BK568 := Aside0.mk (blk_drew BK568.out); replace BK569 := Aside0.mk (blk_drew BK569.out); replace BK570 := Aside0.mk (blk_drew BK570.out); replace HB := Aside0.mk (below_drew1 HB.out)
     refine start_ (n := 6) (S := fun w' => w'.cell? ⟨gb568, 0, none⟩ = some (.int .i64 a3_0) ∧ w'.cell? ⟨gb568, 1, none⟩ = some (.int .i64 a3_1)) (ds := []) (lo 6 0) (by kernel_rfl) rfl rfl ⟨(blk_cell BK568.out 0).trans rfl, (blk_cell BK568.out 1).trans rfl⟩ (fun hHeld => ?_)
     generalize w89.drew = w111 at BK567 BK568 BK569 BK570 HB hHeld ⊢
     refine pi ?_; refine pu 2 (bs 6 5) ?_; refine tk 1 (bs 6 7) hHeld ?_; refine pu 4 (bs 6 23) ?_; refine tk 3 (bs 6 31) hHeld ?_; refine pu 5 (bs 6 63) ?_; refine done_ (by kernel_rfl) ?_; have hcz114 := cs6 BK567.out
     try go_wp2_with (first | ((with_reducible refine gC 20 rfl ?_); refine goesL1 (some 91) Tryd.func20 #[.int .i64 a3_0] rfl (map1 rfl) ?_; (with_reducible refine (quillref10_Turned.calls A106.out).mono ?_); rintro e w' ⟨rfl, nd, rfl⟩; refine ⟨_, rfl, ?_⟩))
     go_meet
     case rel => exact ⟨_, (t576), (a3_1), (a3_0), (a3_1), (0), (0), (0), (0), r3_, r3_, H, ⟨by have := HJ58.out; first | omega | exact Nat.le_refl _⟩, ⟨BK567.out⟩, ⟨BK568.out⟩, ⟨BK569.out⟩, ⟨BK570.out⟩, ⟨bl_⟩⟩
    case rest =>
     clear HC83
     try clear hcz67
     try clear hcz69
     try clear hcz88
     obtain ⟨kq, x17_82, x18_82, x569000_82, x569001_82, x570000_82, x570001_82, x571000_82, x571001_82, rfl, rfl, HA, HJ82, BK567, BK568, BK569, BK570, HB⟩ := hcut
     cases kq with
     | zero => exact absurd HA.out (by simp [quillref15_Go.j2])
     | succ kj82 =>
      obtain ⟨H⟩ := HA; simp only [quillref15_Go.j2] at H; replace H := bindA H; obtain ⟨⟨t577, t578⟩, A123, H⟩ := H; (try dsimp only at H); have HC124 := Aside0.mk H; clear H
      go_upto_region 21 with (first | ((with_reducible refine gC 57 rfl ?_); refine goesL1 (some 101) Tryd.func57 #[.slice A0 l0.length c0, .int .i64 a1, .int .i64 x17_82, .int .i64 x18_82, .int .i64 ji6] rfl (by (try simp only [List.map_toArray, List.map_cons, List.map_nil]); first | done | (simp only [hji6]; rfl) | rfl | (simp only [List.length_drop, List.length_take]; rfl)) ?_; refine cm_ (quillref10_Find.calls sd_ sd_ A123.out) ?_; rintro e w' ⟨rfl, nd, rfl⟩; refine ⟨_, rfl, ?_⟩))
      (try simp only [Act.put, List.setIfInBounds_toArray, List.set_cons_zero, List.set_cons_succ])
      go_cut [109] (fun v109 wc => ∃ (kq : Nat) (x109_123 : Bool), v109 = .bool x109_123 ∧ Aside0 (quillref15_Go.j3 kq t577 0 t578 x109_123 x569000_82 x569001_82 = some (r1, r2, r3, r4, r5)) ∧ Aside0 (kq ≤ kj82) ∧ Aside0 (wc.heap[gb567]? = some (.cells #[.int .i64 a2_0, .int .i64 a2_1, .int .i64 a2_2, .int .i64 a2_3, .int .i64 a2_4, .int .i64 a2_5] 52 (0, 0))) ∧ Aside0 (wc.heap[gb568]? = some (.cells #[.int .i64 x569000_82, .int .i64 x569001_82] 31 (0, 0))) ∧ Aside0 (wc.heap[gb569]? = some (.cells #[.int .i64 x570000_82, .int .i64 x570001_82] 54 (0, 0))) ∧ Aside0 (wc.heap[gb570]? = some (.cells #[.int .i64 x571000_82, .int .i64 x571001_82] 31 (0, 0))) ∧ Aside0 (Below w.heap.size w wc))
      case first =>
       obtain ⟨H⟩ := HC124; replace H := nfe H; obtain ⟨c125b0, c125b1, H⟩ | ⟨c125b0, c125b1, H⟩ := H
       ·
        (first | rw [c125b0] | (simp only [i64_w, i32_w]; rw [c125b0]) | skip); replace H := Aside0.mk H; go_wp2; go_meet
        case rel => exact ⟨_, ((x17_82 == 116)), r3_, H, ⟨by have := HJ58.out; have := HJ82.out; first | omega | exact Nat.le_refl _⟩, ⟨BK567.out⟩, ⟨BK568.out⟩, ⟨BK569.out⟩, ⟨BK570.out⟩, ⟨bl_⟩⟩
       (first | rw [c125b0] | (simp only [i64_w, i32_w]; rw [c125b0]) | skip); replace H := Aside0.mk H; go_wp2; go_meet
       case rel => exact ⟨_, (true), r3_, H, ⟨by have := HJ58.out; have := HJ82.out; first | omega | exact Nat.le_refl _⟩, ⟨BK567.out⟩, ⟨BK568.out⟩, ⟨BK569.out⟩, ⟨BK570.out⟩, ⟨bl_⟩⟩
      case rest =>
       clear HC124
       try clear hcz67
       try clear hcz69
       try clear hcz88
       obtain ⟨kq, x109_123, rfl, HA, HJ123, BK567, BK568, BK569, BK570, HB⟩ := hcut
       cases kq with
       | zero => exact absurd HA.out (by simp [quillref15_Go.j3])
       | succ kj123 =>
        obtain ⟨H⟩ := HA; simp only [quillref15_Go.j3] at H; replace H := ifb H; obtain ⟨rfl, H⟩ | ⟨rfl, H⟩ := H
        ·
         replace H := nfe H; obtain ⟨c127b0, c127b1, H⟩ | ⟨c127b0, c127b1, H⟩ := H
         ·
          replace H := so5 H; obtain ⟨rfl, rfl, rfl, rfl, rfl⟩ := H; have hcz136 := cs2 BK569.out; have hcz139 := cs2 BK570.out; go_wp2; refine bodyPost_ret (results_list (rs := [.cell 10 54, .cell 11 31, .tmp 12]) rfl (by simp) (.cell gb569 54 #[.int .i64 0, .int .i64 0] (0, 0) _ rfl bk_ Tryd.underlying54 rfl (by kernel_rfl) (.cell gb570 31 #[.int .i64 0, .int .i64 0] (0, 0) _ rfl bk_ Tryd.underlying31 rfl (by kernel_rfl) (.tmp .nil)))) rfl ?_
          exact ⟨by first | exact rr_ | (simp only [← hji6]; exact rr_), bl_⟩
         replace H := so5 H; obtain ⟨rfl, rfl, rfl, rfl, rfl⟩ := H
         try go_wp2
         replace BK567 := Aside0.mk (blk_drew BK567.out); replace BK568 := Aside0.mk (blk_drew BK568.out); replace BK569 := Aside0.mk (blk_drew BK569.out); replace BK570 := Aside0.mk (blk_drew BK570.out); replace HB := Aside0.mk (below_drew1 HB.out)
         refine start_ (n := 7) (S := fun w' => w'.cell? ⟨gb568, 0, none⟩ = some (.int .i64 x569000_82) ∧ w'.cell? ⟨gb568, 1, none⟩ = some (.int .i64 x569001_82)) (ds := []) (lo 7 0) (by kernel_rfl) rfl rfl ⟨(blk_cell BK568.out 0).trans rfl, (blk_cell BK568.out 1).trans rfl⟩ (fun hHeld => ?_)
         generalize wc.drew = w128 at BK567 BK568 BK569 BK570 HB hHeld ⊢
         (iterate 3 refine pi ?_)
         refine tj hHeld ?_
         refine one_ (i := 4) (N := none) (lo 7 5) rfl rfl (by kernel_rfl) (by decide) (fun K hK => ?_)
         have hs129 := cz0 BK569.out; have hfs129 := blk_frozen BK569.out 0; have hs130 := cz1 BK569.out; have hfs130 := blk_frozen BK569.out 1; refine skip_ (w1 := ?_) (by rfl) rfl ?_ ?_; rotate_left
         ·
          go_simp
          rfl
         refine hK.out _ _ hh_ (fun hHeld => ?_)
         clear hK K
         refine one_ (i := 5) (N := none) (lo 7 6) rfl rfl (by kernel_rfl) (by decide) (fun K hK => ?_)
         have hs131 := cz0 BK570.out; have hfs131 := blk_frozen BK570.out 0; have hs132 := cz1 BK570.out; have hfs132 := blk_frozen BK570.out 1; refine skip_ (w1 := ?_) (by rfl) rfl ?_ ?_; rotate_left
         ·
          go_simp
          rfl
         refine hK.out _ _ hh_ (fun hHeld => ?_)
         clear hK K; refine pi ?_; refine done_ (by kernel_rfl) ?_
         try go_wp2
         refine bodyPost_ret (results_list (rs := [.cell 10 54, .cell 11 31, .tmp 12]) rfl (by simp) (.cell gb569 54 #[.int .i64 t577, .int .i64 1] (0, 0) _ rfl bk_ Tryd.underlying54 rfl (by kernel_rfl) (.cell gb570 31 #[.int .i64 x569000_82, .int .i64 x569001_82] (0, 0) _ rfl bk_ Tryd.underlying31 rfl (by kernel_rfl) (.tmp .nil)))) rfl ?_
         exact ⟨by first | exact rr_ | (simp only [← hji6]; exact rr_), bl_⟩
        replace H := nfe H; obtain ⟨c140b0, c140b1, H⟩ | ⟨c140b0, c140b1, H⟩ := H
        ·
         replace H := so5 H; obtain ⟨rfl, rfl, rfl, rfl, rfl⟩ := H; have hcz149 := cs2 BK569.out; have hcz152 := cs2 BK570.out; go_wp2; refine bodyPost_ret (results_list (rs := [.cell 10 54, .cell 11 31, .tmp 12]) rfl (by simp) (.cell gb569 54 #[.int .i64 0, .int .i64 0] (0, 0) _ rfl bk_ Tryd.underlying54 rfl (by kernel_rfl) (.cell gb570 31 #[.int .i64 0, .int .i64 0] (0, 0) _ rfl bk_ Tryd.underlying31 rfl (by kernel_rfl) (.tmp .nil)))) rfl ?_
         exact ⟨by first | exact rr_ | (simp only [← hji6]; exact rr_), bl_⟩
        replace H := so5 H; obtain ⟨rfl, rfl, rfl, rfl, rfl⟩ := H
        try go_wp2
        replace BK567 := Aside0.mk (blk_drew BK567.out); replace BK568 := Aside0.mk (blk_drew BK568.out); replace BK569 := Aside0.mk (blk_drew BK569.out); replace BK570 := Aside0.mk (blk_drew BK570.out); replace HB := Aside0.mk (below_drew1 HB.out)
        refine start_ (n := 7) (S := fun w' => w'.cell? ⟨gb568, 0, none⟩ = some (.int .i64 x569000_82) ∧ w'.cell? ⟨gb568, 1, none⟩ = some (.int .i64 x569001_82)) (ds := []) (lo 7 0) (by kernel_rfl) rfl rfl ⟨(blk_cell BK568.out 0).trans rfl, (blk_cell BK568.out 1).trans rfl⟩ (fun hHeld => ?_)
        generalize wc.drew = w141 at BK567 BK568 BK569 BK570 HB hHeld ⊢
        (iterate 3 refine pi ?_)
        refine tj hHeld ?_
        refine one_ (i := 4) (N := none) (lo 7 5) rfl rfl (by kernel_rfl) (by decide) (fun K hK => ?_)
        have hs142 := cz0 BK569.out; have hfs142 := blk_frozen BK569.out 0; have hs143 := cz1 BK569.out; have hfs143 := blk_frozen BK569.out 1; refine skip_ (w1 := ?_) (by rfl) rfl ?_ ?_; rotate_left
        ·
         go_simp
         rfl
        refine hK.out _ _ hh_ (fun hHeld => ?_)
        clear hK K
        refine one_ (i := 5) (N := none) (lo 7 6) rfl rfl (by kernel_rfl) (by decide) (fun K hK => ?_)
        have hs144 := cz0 BK570.out; have hfs144 := blk_frozen BK570.out 0; have hs145 := cz1 BK570.out; have hfs145 := blk_frozen BK570.out 1; refine skip_ (w1 := ?_) (by rfl) rfl ?_ ?_; rotate_left
        ·
         go_simp
         rfl
        refine hK.out _ _ hh_ (fun hHeld => ?_)
        clear hK K; refine pi ?_; refine done_ (by kernel_rfl) ?_
        try go_wp2
        refine bodyPost_ret (results_list (rs := [.cell 10 54, .cell 11 31, .tmp 12]) rfl (by simp) (.cell gb569 54 #[.int .i64 t577, .int .i64 0] (0, 0) _ rfl bk_ Tryd.underlying54 rfl (by kernel_rfl) (.cell gb570 31 #[.int .i64 x569000_82, .int .i64 x569001_82] (0, 0) _ rfl bk_ Tryd.underlying31 rfl (by kernel_rfl) (.tmp .nil)))) rfl ?_
        exact ⟨by first | exact rr_ | (simp only [← hji6]; exact rr_), bl_⟩
   have HC153 := Aside0.mk H; clear H; have hcz157 := cs6 BK567.out
   go_upto_if 110 with (fail)
   go_cut [110] (fun v110 wc => ∃ (kq : Nat) (x110_152 : Bool), v110 = .bool x110_152 ∧ Aside0 (quillref15_Go.j4 kq l0 a1 l4 ji6 0 0 x110_152 a2_0 a2_1 a2_2 a2_3 a2_4 a2_5 a3_0 a3_1 = some (r1, r2, r3, r4, r5)) ∧ Aside0 (kq ≤ kj58) ∧ Aside0 (wc.heap[gb567]? = some (.cells #[.int .i64 a2_0, .int .i64 a2_1, .int .i64 a2_2, .int .i64 a2_3, .int .i64 a2_4, .int .i64 a2_5] 52 (0, 0))) ∧ Aside0 (wc.heap[gb568]? = some (.cells #[.int .i64 a3_0, .int .i64 a3_1] 31 (0, 0))) ∧ Aside0 (wc.heap[gb569]? = some (.cells #[.int .i64 0, .int .i64 0] 54 (0, 0))) ∧ Aside0 (wc.heap[gb570]? = some (.cells #[.int .i64 0, .int .i64 0] 31 (0, 0))) ∧ Aside0 (Below w.heap.size w wc))
   case first =>
    obtain ⟨H⟩ := HC153; replace H := ife H; obtain ⟨c158b0, c158b1, H⟩ | ⟨c158b0, c158b1, H⟩ := H
    ·
     (first | rw [c158b0] | (simp only [i64_w, i32_w]; rw [c158b0]) | skip); replace H := Aside0.mk H; go_wp2; go_meet
     case rel => exact ⟨_, ((a2_3 == 123)), r3_, H, ⟨by have := HJ58.out; first | omega | exact Nat.le_refl _⟩, ⟨BK567.out⟩, ⟨BK568.out⟩, ⟨BK569.out⟩, ⟨BK570.out⟩, ⟨bl_⟩⟩
    (first | rw [c158b0] | (simp only [i64_w, i32_w]; rw [c158b0]) | skip); replace H := Aside0.mk H; have hcz162 := cs6 BK567.out; go_wp2; go_meet
    case rel => exact ⟨_, ((a2_3 == 125)), r3_, H, ⟨by have := HJ58.out; first | omega | exact Nat.le_refl _⟩, ⟨BK567.out⟩, ⟨BK568.out⟩, ⟨BK569.out⟩, ⟨BK570.out⟩, ⟨bl_⟩⟩
   case rest =>
    clear HC153
    try clear hcz157
    try clear hcz67
    try clear hcz69
    obtain ⟨kq, x110_152, rfl, HA, HJ152, BK567, BK568, BK569, BK570, HB⟩ := hcut
    cases kq with
    | zero => exact absurd HA.out (by simp [quillref15_Go.j4])
    | succ kj152 =>
     obtain ⟨H⟩ := HA; simp only [quillref15_Go.j4] at H; replace H := ifb H; obtain ⟨rfl, H⟩ | ⟨rfl, H⟩ := H
     ·
      replace H := bindA H; obtain ⟨⟨t579, t580⟩, A164, H⟩ := H; (try dsimp only at H); replace H := nfe H; obtain ⟨c165b0, c165b1, H⟩ | ⟨c165b0, c165b1, H⟩ := H
      ·
       replace H := so5 H; obtain ⟨rfl, rfl, rfl, rfl, rfl⟩ := H; have hcz178 := cs6 BK567.out
       go_wp2_with (first | ((with_reducible refine gC 58 rfl ?_); refine goesL1 (some 123) Tryd.func58 #[.slice A0 l0.length c0, .int .i64 a1, .int .i64 a2_3, .int .i64 ji6] rfl (by (try simp only [List.map_toArray, List.map_cons, List.map_nil]); first | done | (simp only [hji6]; rfl) | rfl | (simp only [List.length_drop, List.length_take]; rfl)) ?_; refine cm_ (quillref12_Paras.calls sd_ sd_ A164.out) ?_; rintro e w' ⟨rfl, nd, rfl⟩; refine ⟨_, rfl, ?_⟩; (try (rw [drewN_self wc]; generalize hq_ : World.drewN wc _ = wc; have n0_ : Aside0 (wc.heap[gb567]? = some (.cells #[.int .i64 a2_0, .int .i64 a2_1, .int .i64 a2_2, .int .i64 a2_3, .int .i64 a2_4, .int .i64 a2_5] 52 (0, 0))) := ⟨by rw [← hq_]; exact (by exact BK567.out)⟩; have n1_ : Aside0 (wc.heap[gb568]? = some (.cells #[.int .i64 a3_0, .int .i64 a3_1] 31 (0, 0))) := ⟨by rw [← hq_]; exact (by exact BK568.out)⟩; have n2_ : Aside0 (wc.heap[gb569]? = some (.cells #[.int .i64 0, .int .i64 0] 54 (0, 0))) := ⟨by rw [← hq_]; exact (by exact BK569.out)⟩; have n3_ : Aside0 (wc.heap[gb570]? = some (.cells #[.int .i64 0, .int .i64 0] 31 (0, 0))) := ⟨by rw [← hq_]; exact (by exact BK570.out)⟩; have n4_ : Aside0 (Below w.heap.size w wc) := ⟨by rw [← hq_]; exact bl_⟩; clear BK567 BK568 BK569 BK570 HB hq_; have BK567 := n0_; have BK568 := n1_; have BK569 := n2_; have BK570 := n3_; have HB := n4_; clear n0_ n1_ n2_ n3_ n4_)); have hcz181 := cs2 BK569.out; have hcz183 := cs2 BK570.out))
       refine bodyPost_ret (results_list (rs := [.cell 10 54, .cell 11 31, .tmp 12]) rfl (by simp) (.cell gb569 54 #[.int .i64 0, .int .i64 0] (0, 0) _ rfl bk_ Tryd.underlying54 rfl (by kernel_rfl) (.cell gb570 31 #[.int .i64 0, .int .i64 0] (0, 0) _ rfl bk_ Tryd.underlying31 rfl (by kernel_rfl) (.tmp .nil)))) rfl ?_
       exact ⟨by first | exact rr_ | (simp only [← hji6]; exact rr_), bl_⟩
      replace H := so5 H; obtain ⟨rfl, rfl, rfl, rfl, rfl⟩ := H; have hcz169 := cs6 BK567.out
      try go_wp2_with (first | ((with_reducible refine gC 58 rfl ?_); refine goesL1 (some 123) Tryd.func58 #[.slice A0 l0.length c0, .int .i64 a1, .int .i64 a2_3, .int .i64 ji6] rfl (by (try simp only [List.map_toArray, List.map_cons, List.map_nil]); first | done | (simp only [hji6]; rfl) | rfl | (simp only [List.length_drop, List.length_take]; rfl)) ?_; refine cm_ (quillref12_Paras.calls sd_ sd_ A164.out) ?_; rintro e w' ⟨rfl, nd, rfl⟩; refine ⟨_, rfl, ?_⟩; (try (rw [drewN_self wc]; generalize hq_ : World.drewN wc _ = wc; have n0_ : Aside0 (wc.heap[gb567]? = some (.cells #[.int .i64 a2_0, .int .i64 a2_1, .int .i64 a2_2, .int .i64 a2_3, .int .i64 a2_4, .int .i64 a2_5] 52 (0, 0))) := ⟨by rw [← hq_]; exact (by exact BK567.out)⟩; have n1_ : Aside0 (wc.heap[gb568]? = some (.cells #[.int .i64 a3_0, .int .i64 a3_1] 31 (0, 0))) := ⟨by rw [← hq_]; exact (by exact BK568.out)⟩; have n2_ : Aside0 (wc.heap[gb569]? = some (.cells #[.int .i64 0, .int .i64 0] 54 (0, 0))) := ⟨by rw [← hq_]; exact (by exact BK569.out)⟩; have n3_ : Aside0 (wc.heap[gb570]? = some (.cells #[.int .i64 0, .int .i64 0] 31 (0, 0))) := ⟨by rw [← hq_]; exact (by exact BK570.out)⟩; have n4_ : Aside0 (Below w.heap.size w wc) := ⟨by rw [← hq_]; exact bl_⟩; clear BK567 BK568 BK569 BK570 HB hq_; have BK567 := n0_; have BK568 := n1_; have BK569 := n2_; have BK570 := n3_; have HB := n4_; clear n0_ n1_ n2_ n3_ n4_))))
      replace BK567 := Aside0.mk (blk_drew BK567.out); replace BK568 := Aside0.mk (blk_drew BK568.out); replace BK569 := Aside0.mk (blk_drew BK569.out); replace BK570 := Aside0.mk (blk_drew BK570.out); replace HB := Aside0.mk (below_drew1 HB.out)
      refine start_ (n := 7) (S := fun w' => w'.cell? ⟨gb568, 0, none⟩ = some (.int .i64 a3_0) ∧ w'.cell? ⟨gb568, 1, none⟩ = some (.int .i64 a3_1)) (ds := []) (lo 7 0) (by kernel_rfl) rfl rfl ⟨(blk_cell BK568.out 0).trans rfl, (blk_cell BK568.out 1).trans rfl⟩ (fun hHeld => ?_)
      generalize wc.drew = w170 at BK567 BK568 BK569 BK570 HB hHeld ⊢
      (iterate 3 refine pi ?_)
      refine tj hHeld ?_
      refine one_ (i := 4) (N := none) (lo 7 5) rfl rfl (by kernel_rfl) (by decide) (fun K hK => ?_)
      have hs171 := cz0 BK569.out; have hfs171 := blk_frozen BK569.out 0; have hs172 := cz1 BK569.out; have hfs172 := blk_frozen BK569.out 1; refine skip_ (w1 := ?_) (by rfl) rfl ?_ ?_; rotate_left
      ·
       go_simp
       rfl
      refine hK.out _ _ hh_ (fun hHeld => ?_)
      clear hK K
      refine one_ (i := 5) (N := none) (lo 7 6) rfl rfl (by kernel_rfl) (by decide) (fun K hK => ?_)
      have hs173 := cz0 BK570.out; have hfs173 := blk_frozen BK570.out 0; have hs174 := cz1 BK570.out; have hfs174 := blk_frozen BK570.out 1; refine skip_ (w1 := ?_) (by rfl) rfl ?_ ?_; rotate_left
      ·
       go_simp
       rfl
      refine hK.out _ _ hh_ (fun hHeld => ?_)
      clear hK K; refine pi ?_; refine done_ (by kernel_rfl) ?_
      try go_wp2
      refine bodyPost_ret (results_list (rs := [.cell 10 54, .cell 11 31, .tmp 12]) rfl (by simp) (.cell gb569 54 #[.int .i64 t579, .int .i64 0] (0, 0) _ rfl bk_ Tryd.underlying54 rfl (by kernel_rfl) (.cell gb570 31 #[.int .i64 a3_0, .int .i64 a3_1] (0, 0) _ rfl bk_ Tryd.underlying31 rfl (by kernel_rfl) (.tmp .nil)))) rfl ?_
      exact ⟨by first | exact rr_ | (simp only [← hji6]; exact rr_), bl_⟩
     replace H := ife H; obtain ⟨c184b0, c184b1, H⟩ | ⟨c184b0, c184b1, H⟩ := H
     ·
      replace H := bindA H; obtain ⟨t581, A185, H⟩ := H; (try dsimp only at H); replace H := ifd H; obtain ⟨c186b0, H⟩ | ⟨c186b0, H⟩ := H
      ·
       replace H := so5 H; obtain ⟨rfl, rfl, rfl, rfl, rfl⟩ := H; have hcz190 := cs6 BK567.out
       go_wp2_with (first | ((with_reducible refine gC 59 rfl ?_); refine goesL1 (some 132) Tryd.func59 #[.slice A0 l0.length c0, .int .i64 a1] rfl (map2 rfl rfl) ?_; refine cm_ (quillref12_Pair.calls sd_ sd_ A185.out) ?_; rintro e w191 ⟨rfl, hb⟩; refine ⟨_, rfl, ?_⟩; replace BK567 := blB hb BK567; replace BK568 := blB hb BK568; replace BK569 := blB hb BK569; replace BK570 := blB hb BK570; replace HB := hB hb; (try clear hb); have hcz194 := cs2 BK569.out; have hcz196 := cs2 BK570.out))
       refine bodyPost_ret (results_list (rs := [.cell 10 54, .cell 11 31, .tmp 12]) rfl (by simp) (.cell gb569 54 #[.int .i64 0, .int .i64 0] (0, 0) _ rfl bk_ Tryd.underlying54 rfl (by kernel_rfl) (.cell gb570 31 #[.int .i64 0, .int .i64 0] (0, 0) _ rfl bk_ Tryd.underlying31 rfl (by kernel_rfl) (.tmp .nil)))) rfl ?_
       exact ⟨by first | exact rr_ | (simp only [← hji6]; exact rr_), bl_⟩
      rw [if_pos (by trivial)] at H; replace H := so5 H; obtain ⟨rfl, rfl, rfl, rfl, rfl⟩ := H; have hcz201 := cs6 BK567.out
      try go_wp2_with (first | ((with_reducible refine gC 59 rfl ?_); refine goesL1 (some 132) Tryd.func59 #[.slice A0 l0.length c0, .int .i64 a1] rfl (map2 rfl rfl) ?_; refine cm_ (quillref12_Pair.calls sd_ sd_ A185.out) ?_; rintro e w202 ⟨rfl, hb⟩; refine ⟨_, rfl, ?_⟩; replace BK567 := blB hb BK567; replace BK568 := blB hb BK568; replace BK569 := blB hb BK569; replace BK570 := blB hb BK570; replace HB := hB hb; (try clear hb)))
      replace BK567 := Aside0.mk (blk_drew BK567.out); replace BK568 := Aside0.mk (blk_drew BK568.out); replace BK569 := Aside0.mk (blk_drew BK569.out); replace BK570 := Aside0.mk (blk_drew BK570.out); replace HB := Aside0.mk (below_drew1 HB.out)
      refine start_ (n := 7) (S := fun w' => w'.cell? ⟨gb568, 0, none⟩ = some (.int .i64 a3_0) ∧ w'.cell? ⟨gb568, 1, none⟩ = some (.int .i64 a3_1)) (ds := []) (lo 7 0) (by kernel_rfl) rfl rfl ⟨(blk_cell BK568.out 0).trans rfl, (blk_cell BK568.out 1).trans rfl⟩ (fun hHeld => ?_)
      generalize w202.drew = w203 at BK567 BK568 BK569 BK570 HB hHeld ⊢
      (iterate 3 refine pi ?_)
      refine tj hHeld ?_
      refine one_ (i := 4) (N := none) (lo 7 5) rfl rfl (by kernel_rfl) (by decide) (fun K hK => ?_)
      have hs204 := cz0 BK569.out; have hfs204 := blk_frozen BK569.out 0; have hs205 := cz1 BK569.out; have hfs205 := blk_frozen BK569.out 1; refine skip_ (w1 := ?_) (by rfl) rfl ?_ ?_; rotate_left
      ·
       go_simp
       rfl
      refine hK.out _ _ hh_ (fun hHeld => ?_)
      clear hK K
      refine one_ (i := 5) (N := none) (lo 7 6) rfl rfl (by kernel_rfl) (by decide) (fun K hK => ?_)
      have hs206 := cz0 BK570.out; have hfs206 := blk_frozen BK570.out 0; have hs207 := cz1 BK570.out; have hfs207 := blk_frozen BK570.out 1; refine skip_ (w1 := ?_) (by rfl) rfl ?_ ?_; rotate_left
      ·
       go_simp
       rfl
      refine hK.out _ _ hh_ (fun hHeld => ?_)
      clear hK K; refine pi ?_; refine done_ (by kernel_rfl) ?_
      try go_wp2
      refine bodyPost_ret (results_list (rs := [.cell 10 54, .cell 11 31, .tmp 12]) rfl (by simp) (.cell gb569 54 #[.int .i64 t581, .int .i64 1] (0, 0) _ rfl bk_ Tryd.underlying54 rfl (by kernel_rfl) (.cell gb570 31 #[.int .i64 a3_0, .int .i64 a3_1] (0, 0) _ rfl bk_ Tryd.underlying31 rfl (by kernel_rfl) (.tmp .nil)))) rfl ?_
      exact ⟨by first | exact rr_ | (simp only [← hji6]; exact rr_), bl_⟩
     have HC218 := Aside0.mk H; clear H; have hcz222 := cs6 BK567.out
     go_upto_if 135 with (fail)
     go_cut [135] (fun v135 wc => ∃ (kq : Nat) (x135_217 : Bool), v135 = .bool x135_217 ∧ Aside0 (quillref15_Go.j5 kq l0 a1 l4 0 0 x135_217 a2_0 a2_1 a2_2 a2_3 a2_4 a2_5 a3_0 a3_1 = some (r1, r2, r3, r4, r5)) ∧ Aside0 (kq ≤ kj152) ∧ Aside0 (wc.heap[gb567]? = some (.cells #[.int .i64 a2_0, .int .i64 a2_1, .int .i64 a2_2, .int .i64 a2_3, .int .i64 a2_4, .int .i64 a2_5] 52 (0, 0))) ∧ Aside0 (wc.heap[gb568]? = some (.cells #[.int .i64 a3_0, .int .i64 a3_1] 31 (0, 0))) ∧ Aside0 (wc.heap[gb569]? = some (.cells #[.int .i64 0, .int .i64 0] 54 (0, 0))) ∧ Aside0 (wc.heap[gb570]? = some (.cells #[.int .i64 0, .int .i64 0] 31 (0, 0))) ∧ Aside0 (Below w.heap.size w wc))
     case first =>
      obtain ⟨H⟩ := HC218; replace H := ife H; obtain ⟨c223b0, c223b1, H⟩ | ⟨c223b0, c223b1, H⟩ := H
      ·
       (first | rw [c223b0] | (simp only [i64_w, i32_w]; rw [c223b0]) | skip); replace H := Aside0.mk H; go_wp2; go_meet
       case rel => exact ⟨_, ((a2_3 == 39)), r3_, H, ⟨by have := HJ58.out; have := HJ152.out; first | omega | exact Nat.le_refl _⟩, ⟨BK567.out⟩, ⟨BK568.out⟩, ⟨BK569.out⟩, ⟨BK570.out⟩, ⟨bl_⟩⟩
      (first | rw [c223b0] | (simp only [i64_w, i32_w]; rw [c223b0]) | skip); replace H := Aside0.mk H; have hcz227 := cs6 BK567.out; go_wp2; go_meet
      case rel => exact ⟨_, ((a2_3 == 96)), r3_, H, ⟨by have := HJ58.out; have := HJ152.out; first | omega | exact Nat.le_refl _⟩, ⟨BK567.out⟩, ⟨BK568.out⟩, ⟨BK569.out⟩, ⟨BK570.out⟩, ⟨bl_⟩⟩
     case rest =>
      clear HC218
      try clear c184b0
      try clear c184b1
      try clear hcz222
      try clear hcz67
      try clear hcz69
      obtain ⟨kq, x135_217, rfl, HA, HJ217, BK567, BK568, BK569, BK570, HB⟩ := hcut
      cases kq with
      | zero => exact absurd HA.out (by simp [quillref15_Go.j5])
      | succ kj217 =>
       obtain ⟨H⟩ := HA; simp only [quillref15_Go.j5] at H; replace H := nfb H; obtain ⟨rfl, H⟩ | ⟨rfl, H⟩ := H
       ·
        replace H := bindA H; obtain ⟨⟨t584, t585, t586⟩, A284, H⟩ := H; (try dsimp only at H); replace H := nfe H; obtain ⟨c285b0, c285b1, H⟩ | ⟨c285b0, c285b1, H⟩ := H
        ·
         replace H := so5 H; obtain ⟨rfl, rfl, rfl, rfl, rfl⟩ := H; have hcz307 := cs6 BK567.out
         try go_wp2_with (first | ((with_reducible refine gC 62 rfl ?_); refine goesL1 (some 31) Tryd.func62 #[.slice A0 l0.length c0, .int .i64 a1, .int .i64 a2_3, .int .i64 a2_1] rfl (map4 rfl rfl rfl rfl) ?_; refine cm_ (quillref12_Move.calls sd_ sd_ A284.out) ?_; rintro e w308 ⟨rfl, hb⟩; refine ⟨_, rfl, ?_⟩; replace BK567 := blB hb BK567; replace BK568 := blB hb BK568; replace BK569 := blB hb BK569; replace BK570 := blB hb BK570; replace HB := hB hb; (try clear hb)) | ((with_reducible refine gN 19 rfl ?_); (try (refine gate_guard (by rfl) ?_; dsimp only)); refine box1 (N := 19) (cs := #[.int .i64 0, .int .i64 0]) (t := 54) ?_; intro gb587 hg w309 hbox hb; have BK587 := Aside0.mk hbox; have GW587 := gE hg; have GE587 := GW587; have NB567_587 := nbl hg BK567.out; have NB587_567 := nbr hg BK567.out; have NB568_587 := nbl hg BK568.out; have NB587_568 := nbr hg BK568.out; have NB569_587 := nbl hg BK569.out; have NB587_569 := nbr hg BK569.out; have NB570_587 := nbl hg BK570.out; have NB587_570 := nbr hg BK570.out; replace BK567 := blB hb BK567; replace BK568 := blB hb BK568; replace BK569 := blB hb BK569; replace BK570 := blB hb BK570; replace HB := hB hb; clear hb hbox hg; have hcz314 := cs2 BK587.out))
         have n0_ : Aside0 (((w309.setCell ⟨gb587, 0, none⟩ (.int .i64 t584)).setCell ⟨gb587, 1, none⟩ (.int .i64 t585)).heap[gb567]? = some (.cells #[.int .i64 a2_0, .int .i64 a2_1, .int .i64 a2_2, .int .i64 a2_3, .int .i64 a2_4, .int .i64 a2_5] 52 (0, 0))) := ⟨bk_⟩
         have n1_ : Aside0 (((w309.setCell ⟨gb587, 0, none⟩ (.int .i64 t584)).setCell ⟨gb587, 1, none⟩ (.int .i64 t585)).heap[gb568]? = some (.cells #[.int .i64 a3_0, .int .i64 a3_1] 31 (0, 0))) := ⟨bk_⟩
         have n2_ : Aside0 (((w309.setCell ⟨gb587, 0, none⟩ (.int .i64 t584)).setCell ⟨gb587, 1, none⟩ (.int .i64 t585)).heap[gb569]? = some (.cells #[.int .i64 0, .int .i64 0] 54 (0, 0))) := ⟨bk_⟩
         have n3_ : Aside0 (((w309.setCell ⟨gb587, 0, none⟩ (.int .i64 t584)).setCell ⟨gb587, 1, none⟩ (.int .i64 t585)).heap[gb570]? = some (.cells #[.int .i64 0, .int .i64 0] 31 (0, 0))) := ⟨bk_⟩
         have n4_ : Aside0 (((w309.setCell ⟨gb587, 0, none⟩ (.int .i64 t584)).setCell ⟨gb587, 1, none⟩ (.int .i64 t585)).heap[gb587]? = some (.cells #[.int .i64 t584, .int .i64 t585] 54 (0, 0))) := ⟨bk_⟩
         have n5_ : Aside0 (Below w.heap.size w ((w309.setCell ⟨gb587, 0, none⟩ (.int .i64 t584)).setCell ⟨gb587, 1, none⟩ (.int .i64 t585))) := ⟨bl_⟩
         (try clear BK567); (try clear BK568); (try clear BK569); (try clear BK570); (try clear BK587); (try clear HB)
         generalize ((w309.setCell ⟨gb587, 0, none⟩ (.int .i64 t584)).setCell ⟨gb587, 1, none⟩ (.int .i64 t585)) = w315 at n0_ n1_ n2_ n3_ n4_ n5_ ⊢
         have BK567 := n0_; have BK568 := n1_; have BK569 := n2_; have BK570 := n3_; have BK587 := n4_; have HB := n5_; clear n0_ n1_ n2_ n3_ n4_ n5_; replace BK567 := Aside0.mk (blk_drew BK567.out); replace BK568 := Aside0.mk (blk_drew BK568.out); replace BK569 := Aside0.mk (blk_drew BK569.out); replace BK570 := Aside0.mk (blk_drew BK570.out); replace BK587 := Aside0.mk (blk_drew BK587.out); replace HB := Aside0.mk (below_drew1 HB.out)
         refine start_ (n := 8) (S := fun w' => w'.cell? ⟨gb587, 0, none⟩ = some (.int .i64 t584) ∧ w'.cell? ⟨gb587, 1, none⟩ = some (.int .i64 t585)) (ds := []) (lo 8 0) (by kernel_rfl) rfl rfl ⟨(blk_cell BK587.out 0).trans rfl, (blk_cell BK587.out 1).trans rfl⟩ (fun hHeld => ?_); refine with_tabW quillref15_Go.tab4 quillref15_Go.bits4 (fun HT_ HW_ => ?_)
         generalize w315.drew = w316 at BK567 BK568 BK569 BK570 BK587 HB hHeld ⊢
         refine pi ?_; refine pu 2 (bs 8 5) ?_; refine pu 4 (bs 8 21) ?_; refine tk 1 (bs 8 23) hHeld ?_; refine pu 5 (bs 8 55) ?_; refine tk 3 (bs 8 63) hHeld ?_; refine pu 6 (bs 8 127) ?_; refine pu 7 (bs 8 255) ?_; refine done_ (done_of HT_.out (by kernel_rfl)) ?_; have hcz319 := cs2 BK569.out; have hcz321 := cs2 BK570.out
         try go_wp2
         refine bodyPost_ret (results_list (rs := [.cell 10 54, .cell 11 31, .tmp 12]) rfl (by simp) (.cell gb569 54 #[.int .i64 0, .int .i64 0] (0, 0) _ rfl bk_ Tryd.underlying54 rfl (by kernel_rfl) (.cell gb570 31 #[.int .i64 0, .int .i64 0] (0, 0) _ rfl bk_ Tryd.underlying31 rfl (by kernel_rfl) (.tmp .nil)))) rfl ?_
         exact ⟨by first | exact rr_ | (simp only [← hji6]; exact rr_), bl_⟩
        replace H := so5 H; obtain ⟨rfl, rfl, rfl, rfl, rfl⟩ := H; have hcz289 := cs6 BK567.out
        try go_wp2_with (first | ((with_reducible refine gC 62 rfl ?_); refine goesL1 (some 31) Tryd.func62 #[.slice A0 l0.length c0, .int .i64 a1, .int .i64 a2_3, .int .i64 a2_1] rfl (map4 rfl rfl rfl rfl) ?_; refine cm_ (quillref12_Move.calls sd_ sd_ A284.out) ?_; rintro e w290 ⟨rfl, hb⟩; refine ⟨_, rfl, ?_⟩; replace BK567 := blB hb BK567; replace BK568 := blB hb BK568; replace BK569 := blB hb BK569; replace BK570 := blB hb BK570; replace HB := hB hb; (try clear hb)) | ((with_reducible refine gN 19 rfl ?_); (try (refine gate_guard (by rfl) ?_; dsimp only)); refine box1 (N := 19) (cs := #[.int .i64 0, .int .i64 0]) (t := 54) ?_; intro gb587 hg w291 hbox hb; have BK587 := Aside0.mk hbox; have GW587 := gE hg; have GE587 := GW587; have NB567_587 := nbl hg BK567.out; have NB587_567 := nbr hg BK567.out; have NB568_587 := nbl hg BK568.out; have NB587_568 := nbr hg BK568.out; have NB569_587 := nbl hg BK569.out; have NB587_569 := nbr hg BK569.out; have NB570_587 := nbl hg BK570.out; have NB587_570 := nbr hg BK570.out; replace BK567 := blB hb BK567; replace BK568 := blB hb BK568; replace BK569 := blB hb BK569; replace BK570 := blB hb BK570; replace HB := hB hb; clear hb hbox hg; have hcz296 := cs2 BK587.out))
        have n0_ : Aside0 (((w291.setCell ⟨gb587, 0, none⟩ (.int .i64 t584)).setCell ⟨gb587, 1, none⟩ (.int .i64 t585)).heap[gb567]? = some (.cells #[.int .i64 a2_0, .int .i64 a2_1, .int .i64 a2_2, .int .i64 a2_3, .int .i64 a2_4, .int .i64 a2_5] 52 (0, 0))) := ⟨bk_⟩
        have n1_ : Aside0 (((w291.setCell ⟨gb587, 0, none⟩ (.int .i64 t584)).setCell ⟨gb587, 1, none⟩ (.int .i64 t585)).heap[gb568]? = some (.cells #[.int .i64 a3_0, .int .i64 a3_1] 31 (0, 0))) := ⟨bk_⟩
        have n2_ : Aside0 (((w291.setCell ⟨gb587, 0, none⟩ (.int .i64 t584)).setCell ⟨gb587, 1, none⟩ (.int .i64 t585)).heap[gb569]? = some (.cells #[.int .i64 0, .int .i64 0] 54 (0, 0))) := ⟨bk_⟩
        have n3_ : Aside0 (((w291.setCell ⟨gb587, 0, none⟩ (.int .i64 t584)).setCell ⟨gb587, 1, none⟩ (.int .i64 t585)).heap[gb570]? = some (.cells #[.int .i64 0, .int .i64 0] 31 (0, 0))) := ⟨bk_⟩
        have n4_ : Aside0 (((w291.setCell ⟨gb587, 0, none⟩ (.int .i64 t584)).setCell ⟨gb587, 1, none⟩ (.int .i64 t585)).heap[gb587]? = some (.cells #[.int .i64 t584, .int .i64 t585] 54 (0, 0))) := ⟨bk_⟩
        have n5_ : Aside0 (Below w.heap.size w ((w291.setCell ⟨gb587, 0, none⟩ (.int .i64 t584)).setCell ⟨gb587, 1, none⟩ (.int .i64 t585))) := ⟨bl_⟩
        (try clear BK567); (try clear BK568); (try clear BK569); (try clear BK570); (try clear BK587); (try clear HB)
        generalize ((w291.setCell ⟨gb587, 0, none⟩ (.int .i64 t584)).setCell ⟨gb587, 1, none⟩ (.int .i64 t585)) = w297 at n0_ n1_ n2_ n3_ n4_ n5_ ⊢
        have BK567 := n0_; have BK568 := n1_; have BK569 := n2_; have BK570 := n3_; have BK587 := n4_; have HB := n5_; clear n0_ n1_ n2_ n3_ n4_ n5_; replace BK567 := Aside0.mk (blk_drew BK567.out); replace BK568 := Aside0.mk (blk_drew BK568.out); replace BK569 := Aside0.mk (blk_drew BK569.out); replace BK570 := Aside0.mk (blk_drew BK570.out); replace BK587 := Aside0.mk (blk_drew BK587.out); replace HB := Aside0.mk (below_drew1 HB.out)
        refine start_ (n := 8) (S := fun w' => w'.cell? ⟨gb587, 0, none⟩ = some (.int .i64 t584) ∧ w'.cell? ⟨gb587, 1, none⟩ = some (.int .i64 t585)) (ds := []) (lo 8 0) (by kernel_rfl) rfl rfl ⟨(blk_cell BK587.out 0).trans rfl, (blk_cell BK587.out 1).trans rfl⟩ (fun hHeld => ?_); refine with_tabW quillref15_Go.tab4 quillref15_Go.bits4 (fun HT_ HW_ => ?_)
        generalize w297.drew = w298 at BK567 BK568 BK569 BK570 BK587 HB hHeld ⊢
        refine pi ?_; refine pu 2 (bs 8 5) ?_; refine pu 4 (bs 8 21) ?_; refine tk 1 (bs 8 23) hHeld ?_; refine pu 5 (bs 8 55) ?_; refine tk 3 (bs 8 63) hHeld ?_; refine pu 6 (bs 8 127) ?_; refine pu 7 (bs 8 255) ?_; refine done_ (done_of HT_.out (by kernel_rfl)) ?_
        try go_wp2
        replace BK567 := Aside0.mk (blk_drew BK567.out); replace BK568 := Aside0.mk (blk_drew BK568.out); replace BK569 := Aside0.mk (blk_drew BK569.out); replace BK570 := Aside0.mk (blk_drew BK570.out); replace BK587 := Aside0.mk (blk_drew BK587.out); replace HB := Aside0.mk (below_drew1 HB.out)
        refine start_ (n := 7) (S := fun w' => w'.cell? ⟨gb568, 0, none⟩ = some (.int .i64 a3_0) ∧ w'.cell? ⟨gb568, 1, none⟩ = some (.int .i64 a3_1)) (ds := []) (lo 7 0) (by kernel_rfl) rfl rfl ⟨(blk_cell BK568.out 0).trans rfl, (blk_cell BK568.out 1).trans rfl⟩ (fun hHeld => ?_)
        generalize w298.drew = w299 at BK567 BK568 BK569 BK570 BK587 HB hHeld ⊢
        (iterate 3 refine pi ?_)
        refine tj hHeld ?_
        refine one_ (i := 4) (N := none) (lo 7 5) rfl rfl (by kernel_rfl) (by decide) (fun K hK => ?_)
        have hs300 := cz0 BK569.out; have hfs300 := blk_frozen BK569.out 0; have hs301 := cz1 BK569.out; have hfs301 := blk_frozen BK569.out 1; refine skip_ (w1 := ?_) (by rfl) rfl ?_ ?_; rotate_left
        ·
         go_simp
         rfl
        refine hK.out _ _ hh_ (fun hHeld => ?_)
        clear hK K
        refine one_ (i := 5) (N := none) (lo 7 6) rfl rfl (by kernel_rfl) (by decide) (fun K hK => ?_)
        have hs302 := cz0 BK570.out; have hfs302 := blk_frozen BK570.out 0; have hs303 := cz1 BK570.out; have hfs303 := blk_frozen BK570.out 1; refine skip_ (w1 := ?_) (by rfl) rfl ?_ ?_; rotate_left
        ·
         go_simp
         rfl
        refine hK.out _ _ hh_ (fun hHeld => ?_)
        clear hK K; refine pi ?_; refine done_ (by kernel_rfl) ?_
        try go_wp2
        refine bodyPost_ret (results_list (rs := [.cell 10 54, .cell 11 31, .tmp 12]) rfl (by simp) (.cell gb569 54 #[.int .i64 t584, .int .i64 t585] (0, 0) _ rfl bk_ Tryd.underlying54 rfl (by kernel_rfl) (.cell gb570 31 #[.int .i64 a3_0, .int .i64 a3_1] (0, 0) _ rfl bk_ Tryd.underlying31 rfl (by kernel_rfl) (.tmp .nil)))) rfl ?_
        exact ⟨by first | exact rr_ | (simp only [← hji6]; exact rr_), bl_⟩
       replace H := bindA H; obtain ⟨t582, A229, H⟩ := H; (try dsimp only at H); have HC230 := Aside0.mk H; clear H; have hcz234 := cs6 BK567.out
       go_upto_region 33 with (first | ((with_reducible refine gC 60 rfl ?_); refine goesL1 (some 145) Tryd.func60 #[.slice A4 l4.length c4, .int .i64 a2_5] rfl (map2 rfl rfl) ?_; refine cm_ (quillref6_Get.calls sd_ sd_ A229.out) ?_; rintro e w' ⟨rfl, nd, rfl⟩; refine ⟨_, rfl, ?_⟩))
       (try simp only [Act.put, List.setIfInBounds_toArray, List.set_cons_zero, List.set_cons_succ])
       go_cut [153] (fun v153 wc => ∃ (kq : Nat) (x153_229 : Bool), v153 = .bool x153_229 ∧ Aside0 (quillref15_Go.j6 kq l0 t582 0 0 x153_229 a2_0 a2_1 a2_2 a2_3 a2_4 a2_5 a3_0 a3_1 = some (r1, r2, r3, r4, r5)) ∧ Aside0 (kq ≤ kj217) ∧ Aside0 (wc.heap[gb567]? = some (.cells #[.int .i64 a2_0, .int .i64 a2_1, .int .i64 a2_2, .int .i64 a2_3, .int .i64 a2_4, .int .i64 a2_5] 52 (0, 0))) ∧ Aside0 (wc.heap[gb568]? = some (.cells #[.int .i64 a3_0, .int .i64 a3_1] 31 (0, 0))) ∧ Aside0 (wc.heap[gb569]? = some (.cells #[.int .i64 0, .int .i64 0] 54 (0, 0))) ∧ Aside0 (wc.heap[gb570]? = some (.cells #[.int .i64 0, .int .i64 0] 31 (0, 0))) ∧ Aside0 (Below w.heap.size w wc))
       case first =>
        obtain ⟨H⟩ := HC230; replace H := ifd H; obtain ⟨c235b0, H⟩ | ⟨c235b0, H⟩ := H
        ·
         (first | rw [c235b0] | (simp only [i64_w, i32_w]; rw [c235b0]) | skip); replace H := Aside0.mk H; go_wp2; go_meet
         case rel => exact ⟨_, (true), r3_, H, ⟨by have := HJ58.out; have := HJ152.out; have := HJ217.out; first | omega | exact Nat.le_refl _⟩, ⟨BK567.out⟩, ⟨BK568.out⟩, ⟨BK569.out⟩, ⟨BK570.out⟩, ⟨bl_⟩⟩
        (first | rw [c235b0] | (simp only [i64_w, i32_w]; rw [c235b0]) | skip); replace H := Aside0.mk H; go_wp2; go_meet
        case rel => exact ⟨_, (decide (t582 > (l0.length : Int))), r3_, H, ⟨by have := HJ58.out; have := HJ152.out; have := HJ217.out; first | omega | exact Nat.le_refl _⟩, ⟨BK567.out⟩, ⟨BK568.out⟩, ⟨BK569.out⟩, ⟨BK570.out⟩, ⟨bl_⟩⟩
       case rest =>
        clear HC230
        try clear c4
        try clear c184b0
        try clear c184b1
        try clear hcz222
        try clear hcz234
        try clear hcz67
        try clear hcz69
        obtain ⟨kq, x153_229, rfl, HA, HJ229, BK567, BK568, BK569, BK570, HB⟩ := hcut
        cases kq with
        | zero => exact absurd HA.out (by simp [quillref15_Go.j6])
        | succ kj229 =>
         obtain ⟨H⟩ := HA; simp only [quillref15_Go.j6] at H; replace H := ifb H; obtain ⟨rfl, H⟩ | ⟨rfl, H⟩ := H
         ·
          replace H := so5 H; obtain ⟨rfl, rfl, rfl, rfl, rfl⟩ := H; have hcz240 := cs2 BK569.out; have hcz243 := cs2 BK570.out; go_wp2; refine bodyPost_ret (results_list (rs := [.cell 10 54, .cell 11 31, .tmp 12]) rfl (by simp) (.cell gb569 54 #[.int .i64 0, .int .i64 0] (0, 0) _ rfl bk_ Tryd.underlying54 rfl (by kernel_rfl) (.cell gb570 31 #[.int .i64 0, .int .i64 0] (0, 0) _ rfl bk_ Tryd.underlying31 rfl (by kernel_rfl) (.tmp .nil)))) rfl ?_
          exact ⟨by first | exact rr_ | (simp only [← hji6]; exact rr_), bl_⟩
         replace H := nfe H; obtain ⟨c244b0, c244b1, H⟩ | ⟨c244b0, c244b1, H⟩ := H
         ·
          rw [if_pos (by trivial)] at H; replace H := so5 H; obtain ⟨rfl, rfl, rfl, rfl, rfl⟩ := H; have hcz269 := cs6 BK567.out
          try go_wp2
          replace BK567 := Aside0.mk (blk_drew BK567.out); replace BK568 := Aside0.mk (blk_drew BK568.out); replace BK569 := Aside0.mk (blk_drew BK569.out); replace BK570 := Aside0.mk (blk_drew BK570.out); replace HB := Aside0.mk (below_drew1 HB.out)
          refine start_ (n := 7) (S := fun w' => w'.cell? ⟨gb568, 0, none⟩ = some (.int .i64 a3_0) ∧ w'.cell? ⟨gb568, 1, none⟩ = some (.int .i64 a3_1)) (ds := []) (lo 7 0) (by kernel_rfl) rfl rfl ⟨(blk_cell BK568.out 0).trans rfl, (blk_cell BK568.out 1).trans rfl⟩ (fun hHeld => ?_)
          generalize wc.drew = w270 at BK567 BK568 BK569 BK570 HB hHeld ⊢
          (iterate 3 refine pi ?_)
          refine tj hHeld ?_
          refine one_ (i := 4) (N := none) (lo 7 5) rfl rfl (by kernel_rfl) (by decide) (fun K hK => ?_)
          have hs271 := cz0 BK569.out; have hfs271 := blk_frozen BK569.out 0; have hs272 := cz1 BK569.out; have hfs272 := blk_frozen BK569.out 1; refine skip_ (w1 := ?_) (by rfl) rfl ?_ ?_; rotate_left
          ·
           go_simp
           rfl
          refine hK.out _ _ hh_ (fun hHeld => ?_)
          clear hK K
          refine one_ (i := 5) (N := none) (lo 7 6) rfl rfl (by kernel_rfl) (by decide) (fun K hK => ?_)
          have hs273 := cz0 BK570.out; have hfs273 := blk_frozen BK570.out 0; have hs274 := cz1 BK570.out; have hfs274 := blk_frozen BK570.out 1; refine skip_ (w1 := ?_) (by rfl) rfl ?_ ?_; rotate_left
          ·
           go_simp
           rfl
          refine hK.out _ _ hh_ (fun hHeld => ?_)
          clear hK K; refine pi ?_; refine done_ (by kernel_rfl) ?_
          try go_wp2
          refine bodyPost_ret (results_list (rs := [.cell 10 54, .cell 11 31, .tmp 12]) rfl (by simp) (.cell gb569 54 #[.int .i64 t582, .int .i64 0] (0, 0) _ rfl bk_ Tryd.underlying54 rfl (by kernel_rfl) (.cell gb570 31 #[.int .i64 a3_0, .int .i64 a3_1] (0, 0) _ rfl bk_ Tryd.underlying31 rfl (by kernel_rfl) (.tmp .nil)))) rfl ?_
          exact ⟨by first | exact rr_ | (simp only [← hji6]; exact rr_), bl_⟩
         replace H := bindA H; obtain ⟨t583, A245, H⟩ := H; (try dsimp only at H)
         rw [if_pos (by trivial)] at H; replace H := so5 H; obtain ⟨rfl, rfl, rfl, rfl, rfl⟩ := H; have hcz250 := cs6 BK567.out
         try go_wp2_with (first | ((with_reducible refine gC 61 rfl ?_); refine goesL1 (some 159) Tryd.func61 #[.slice A0 l0.length c0, .int .i64 t582] rfl (map2 rfl rfl) ?_; refine cm_ (quillref1_First.calls sd_ sd_ A245.out) ?_; rintro e w' ⟨rfl, nd, rfl⟩; refine ⟨_, rfl, ?_⟩; (try (rw [drewN_self wc]; generalize hq_ : World.drewN wc _ = wc; have n0_ : Aside0 (wc.heap[gb567]? = some (.cells #[.int .i64 a2_0, .int .i64 a2_1, .int .i64 a2_2, .int .i64 a2_3, .int .i64 a2_4, .int .i64 a2_5] 52 (0, 0))) := ⟨by rw [← hq_]; exact (by exact BK567.out)⟩; have n1_ : Aside0 (wc.heap[gb568]? = some (.cells #[.int .i64 a3_0, .int .i64 a3_1] 31 (0, 0))) := ⟨by rw [← hq_]; exact (by exact BK568.out)⟩; have n2_ : Aside0 (wc.heap[gb569]? = some (.cells #[.int .i64 0, .int .i64 0] 54 (0, 0))) := ⟨by rw [← hq_]; exact (by exact BK569.out)⟩; have n3_ : Aside0 (wc.heap[gb570]? = some (.cells #[.int .i64 0, .int .i64 0] 31 (0, 0))) := ⟨by rw [← hq_]; exact (by exact BK570.out)⟩; have n4_ : Aside0 (Below w.heap.size w wc) := ⟨by rw [← hq_]; exact bl_⟩; clear BK567 BK568 BK569 BK570 HB hq_; have BK567 := n0_; have BK568 := n1_; have BK569 := n2_; have BK570 := n3_; have HB := n4_; clear n0_ n1_ n2_ n3_ n4_))))
         replace BK567 := Aside0.mk (blk_drew BK567.out); replace BK568 := Aside0.mk (blk_drew BK568.out); replace BK569 := Aside0.mk (blk_drew BK569.out); replace BK570 := Aside0.mk (blk_drew BK570.out); replace HB := Aside0.mk (below_drew1 HB.out)
         refine start_ (n := 7) (S := fun w' => w'.cell? ⟨gb568, 0, none⟩ = some (.int .i64 a3_0) ∧ w'.cell? ⟨gb568, 1, none⟩ = some (.int .i64 a3_1)) (ds := []) (lo 7 0) (by kernel_rfl) rfl rfl ⟨(blk_cell BK568.out 0).trans rfl, (blk_cell BK568.out 1).trans rfl⟩ (fun hHeld => ?_)
         generalize wc.drew = w251 at BK567 BK568 BK569 BK570 HB hHeld ⊢
         (iterate 3 refine pi ?_)
         refine tj hHeld ?_
         refine one_ (i := 4) (N := none) (lo 7 5) rfl rfl (by kernel_rfl) (by decide) (fun K hK => ?_)
         have hs252 := cz0 BK569.out; have hfs252 := blk_frozen BK569.out 0; have hs253 := cz1 BK569.out; have hfs253 := blk_frozen BK569.out 1; refine skip_ (w1 := ?_) (by rfl) rfl ?_ ?_; rotate_left
         ·
          go_simp
          rfl
         refine hK.out _ _ hh_ (fun hHeld => ?_)
         clear hK K
         refine one_ (i := 5) (N := none) (lo 7 6) rfl rfl (by kernel_rfl) (by decide) (fun K hK => ?_)
         have hs254 := cz0 BK570.out; have hfs254 := blk_frozen BK570.out 0; have hs255 := cz1 BK570.out; have hfs255 := blk_frozen BK570.out 1; refine skip_ (w1 := ?_) (by rfl) rfl ?_ ?_; rotate_left
         ·
          go_simp
          rfl
         refine hK.out _ _ hh_ (fun hHeld => ?_)
         clear hK K; refine pi ?_; refine done_ (by kernel_rfl) ?_
         try go_wp2
         refine bodyPost_ret (results_list (rs := [.cell 10 54, .cell 11 31, .tmp 12]) rfl (by simp) (.cell gb569 54 #[.int .i64 t583, .int .i64 2] (0, 0) _ rfl bk_ Tryd.underlying54 rfl (by kernel_rfl) (.cell gb570 31 #[.int .i64 a3_0, .int .i64 a3_1] (0, 0) _ rfl bk_ Tryd.underlying31 rfl (by kernel_rfl) (.tmp .nil)))) rfl ?_
         exact ⟨by first | exact rr_ | (simp only [← hji6]; exact rr_), bl_⟩

end Go.Proofs.YtbgmmcngkdhpcaaDoor.P
