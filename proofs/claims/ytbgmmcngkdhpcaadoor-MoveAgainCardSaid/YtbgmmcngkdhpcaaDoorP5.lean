/- The walks of the functions that these statements reach: each Go function as a plain Lean function, and the proof that its call comes to that. Written by the session's program wip/pp.py. -/
import Derived.Test.YtbgmmcngkdhpcaaDoorP0
namespace Go.Proofs.YtbgmmcngkdhpcaaDoor.P
open Go.Proofs.YtbgmmcngkdhpcaaDoor
open Go.RowKit Go.Proofs.YtbgmmcngkdhpcaaDoorW.PrintWords Go.Proofs.YtbgmmcngkdhpcaaDoorW.PrintLast Go.Proofs.YtbgmmcngkdhpcaaDoorW.PrintMore
attribute [local go_sem] cell_isSome max2_int min2_int max_two min_two max_three min_three max_four min_four   -- for this text's walks alone
set_option linter.unusedVariables false
set_option linter.unusedSimpArgs false
set_option maxHeartbeats 8000000
set_option maxRecDepth 100000

/-! ### marks_one: function 63 -/
def marks_one.f (a0_0 : Int) (a0_1 : Int) : Option (Bool) := if a0_0 ≥ 97 then (if a0_0 ≤ 122 then (if a0_1 ≥ 0 then (some (decide (a0_1 ≤ 4000))) else (some false)) else (some false)) else (some false)
theorem marks_one.calls {a0_0 : Int} {a0_1 : Int} {r : Bool} {w : World} (H : marks_one.f a0_0 a0_1 = some r) :
  Calls Tryd.prog 63 #[.agg #[.int .i64 a0_0, .int .i64 a0_1]] w fun e w' => e = .returned (.bool r) ∧ Below w.heap.size w w' := by
 have hu89 := Tryd.underlying89; have HB := Aside0.mk (Below.refl w.heap.size w); unfold marks_one.f at H; replace H := nfd H; obtain ⟨c2b0, H⟩ | ⟨c2b0, H⟩ := H
 ·
  obtain rfl := Option.some.inj H; go_enter Tryd.func63, Tryd.ntmps63
  go_wp2_with (first | ((with_reducible refine gN 1 rfl ?_); refine bx 1 #[.int .i64 a0_0, .int .i64 a0_1] 89 ?_; intro gb132 hg w11 hbox hb; have BK132 := Aside0.mk hbox; have GW132 := gE hg; have GE132 := GW132; replace HB := hB hb; clear hb hbox hg; have hcz12 := cs2 BK132.out))
  go_ret
  exact ⟨rr_, bl_⟩
 replace H := nfd H; obtain ⟨c3b0, H⟩ | ⟨c3b0, H⟩ := H
 ·
  obtain rfl := Option.some.inj H; go_enter Tryd.func63, Tryd.ntmps63
  go_wp2_with (first | ((with_reducible refine gN 1 rfl ?_); refine bx 1 #[.int .i64 a0_0, .int .i64 a0_1] 89 ?_; intro gb132 hg w9 hbox hb; have BK132 := Aside0.mk hbox; have GW132 := gE hg; have GE132 := GW132; replace HB := hB hb; clear hb hbox hg; have hcz10 := cs2 BK132.out))
  go_ret
  exact ⟨rr_, bl_⟩
 replace H := ifd H; obtain ⟨c4b0, H⟩ | ⟨c4b0, H⟩ := H
 ·
  obtain rfl := Option.some.inj H; go_enter Tryd.func63, Tryd.ntmps63
  go_wp2_with (first | ((with_reducible refine gN 1 rfl ?_); refine bx 1 #[.int .i64 a0_0, .int .i64 a0_1] 89 ?_; intro gb132 hg w5 hbox hb; have BK132 := Aside0.mk hbox; have GW132 := gE hg; have GE132 := GW132; replace HB := hB hb; clear hb hbox hg; have hcz6 := cs2 BK132.out))
  go_ret
  exact ⟨rr_, bl_⟩
 obtain rfl := Option.some.inj H; go_enter Tryd.func63, Tryd.ntmps63
 go_wp2_with (first | ((with_reducible refine gN 1 rfl ?_); refine bx 1 #[.int .i64 a0_0, .int .i64 a0_1] 89 ?_; intro gb132 hg w7 hbox hb; have BK132 := Aside0.mk hbox; have GW132 := gE hg; have GE132 := GW132; replace HB := hB hb; clear hb hbox hg; have hcz8 := cs2 BK132.out))
 go_ret
 exact ⟨rr_, bl_⟩

/-! ### marks_May: function 40 -/
def marks_May.l0 : Nat → List (S89) → List (S89) → Int → Int → Option (Bool)
  | 0, _, _, _, _ => none
  | k + 1, x0, x5, x6, x7 => if x7 < x6 then (if 0 ≤ x7 then (if x7 < (x5.length : Int) then ((marks_one.f ((rd_T89 x5 x7).f0) ((rd_T89 x5 x7).f1)).bind fun t135 => (if t135 = true then (if x7 > 0 then (if 0 ≤ (wrap64 (x7 - 1)) then (if (wrap64 (x7 - 1)) < (x0.length : Int) then (if ((rd_T89 x0 (wrap64 (x7 - 1))).f0) ≥ ((rd_T89 x5 x7).f0) then (some false) else (marks_May.l0 k x0 x5 x6 (wrap64 (x7 + 1)))) else (none)) else (none)) else (marks_May.l0 k x0 x5 x6 (wrap64 (x7 + 1)))) else (some false))) else (none)) else (none)) else (some true)
def marks_May.f (k : Nat) (l0 : List (S89)) : Option (Bool) := marks_May.l0 k l0 l0 (l0.length : Int) 0
def marks_May.T4 : Bool × List (List Nat × List Nat) := (true, [([], []), ([0], [0]), ([1], [1]), ([2, 1], [2]), ([3], [3]), ([4, 3], [3, 4]), ([5, 3, 3], [3, 5]), ([6], [6]), ([6], [6]), ([8, 6], [6, 8]), ([7, 9, 6], [6, 7, 9]), ([10, 6], [6, 10]), ([11, 6], [6, 11]), ([6], [6]), ([13, 6], [6, 13]), ([12, 14, 6], [6, 12, 14]), ([6, 15, 3], [3, 6, 15]), ([3, 16], [3, 16])])
def marks_May.B4 : List Nat := [0, 1, 3, 7, 15, 31, 63, 127, 127, 383, 1023, 2047, 4095, 127, 8319, 32767, 65535, 131071]
theorem marks_May.tab4 : rtab .any (opsOf Tryd.f40 4) = marks_May.T4 := by kernel_rfl
theorem marks_May.bits4 : waitsOk marks_May.T4.2 marks_May.B4 = true := by kernel_rfl
theorem marks_May.calls {k : Nat} {A0 : Option Addr} {c0 : Nat} {l0 : List (S89)} {r : Bool} {w : World} (hr0 : Kd.C k89 w A0 l0.length l0) (hc0 : l0.length ≤ c0) (H : marks_May.f k l0 = some r) :
  Calls Tryd.prog 40 #[.slice A0 l0.length c0] w fun e w' => e = .returned (.bool r) ∧ Below w.heap.size w w' := by
 have hu89 := Tryd.underlying89; have HR0 := Aside0.mk hr0; have HC0 := Aside0.mk hc0; clear hr0 hc0; have HB := Aside0.mk (Below.refl w.heap.size w); unfold marks_May.f at H; replace H := Aside0.mk H; go_enter Tryd.func40, Tryd.ntmps40
 go_wp2
 go_loopg [7] k (fun kq v7 w' => ∃ (x7_1 : Int), v7 = .int .i64 x7_1 ∧ Aside0 (marks_May.l0 kq l0 l0 (l0.length : Int) x7_1 = some r) ∧ Aside0 (kq ≤ k) ∧ Aside0 (Below w.heap.size w w'))
 case atStart => exact ⟨(0), r3_, H, ⟨Nat.le_refl _⟩, ⟨bl_⟩⟩
 case round =>
  clear H; obtain ⟨x7_1, rfl, HA, HK1, HB⟩ := hrel
  cases gk with
  | zero => exact absurd HA.out (by simp [marks_May.l0])
  | succ k1 =>
   obtain ⟨H⟩ := HA; simp only [marks_May.l0] at H; replace H := nfd H; obtain ⟨c2b0, H⟩ | ⟨c2b0, H⟩ := H
   ·
    obtain rfl := Option.some.inj H; go_wp2; go_ret
    exact ⟨rr_, bl_⟩
   replace H := ifq H; obtain ⟨c3b0, c4b0, H⟩ := H; replace H := bindA H; obtain ⟨t135, A5, H⟩ := H; (try dsimp only at H); replace H := nfb H; obtain ⟨rfl, H⟩ | ⟨rfl, H⟩ := H
   ·
    obtain rfl := Option.some.inj H; obtain ⟨p133, q133, ad133, e133, hx133_0, hx133_1⟩ := ix_ (at_T89 HR0.out x7_1); cases e133; replace hx133_0 := hb_ HB hx133_0; replace hx133_1 := hb_ HB hx133_1
    try go_wp2_with (first | ((with_reducible refine gN 4 rfl ?_); refine bx 4 #[.int .i64 0, .int .i64 0] 89 ?_; intro gb134 hg w27 hbox hb; have BK134 := Aside0.mk hbox; have GW134 := gE hg; have GE134 := GW134; replace HB := hB hb; clear hb hbox hg; have hcz28 := cs2 BK134.out))
    have n0_ : Aside0 (((w27.setCell ⟨gb134, 0, none⟩ (.int .i64 ((rd_T89 l0 x7_1).f0))).setCell ⟨gb134, 1, none⟩ (.int .i64 ((rd_T89 l0 x7_1).f1))).heap[gb134]? = some (.cells #[.int .i64 ((rd_T89 l0 x7_1).f0), .int .i64 ((rd_T89 l0 x7_1).f1)] 89 (0, 0))) := ⟨bk_⟩
    have n1_ : Aside0 (Below w.heap.size w ((w27.setCell ⟨gb134, 0, none⟩ (.int .i64 ((rd_T89 l0 x7_1).f0))).setCell ⟨gb134, 1, none⟩ (.int .i64 ((rd_T89 l0 x7_1).f1)))) := ⟨bl_⟩
    (try clear BK134); (try clear HB)
    generalize ((w27.setCell ⟨gb134, 0, none⟩ (.int .i64 ((rd_T89 l0 x7_1).f0))).setCell ⟨gb134, 1, none⟩ (.int .i64 ((rd_T89 l0 x7_1).f1))) = w29 at n0_ n1_ ⊢
    have BK134 := n0_; have HB := n1_; clear n0_ n1_; replace BK134 := Aside0.mk (blk_drew BK134.out); replace HB := Aside0.mk (below_drew1 HB.out)
    refine start_ (n := 18) (S := fun w' => w'.cell? ⟨gb134, 0, none⟩ = some (.int .i64 ((rd_T89 l0 x7_1).f0)) ∧ w'.cell? ⟨gb134, 1, none⟩ = some (.int .i64 ((rd_T89 l0 x7_1).f1))) (ds := []) (lo 18 0) (by kernel_rfl) rfl rfl ⟨(blk_cell BK134.out 0).trans rfl, (blk_cell BK134.out 1).trans rfl⟩ (fun hHeld => ?_); refine with_tabW marks_May.tab4 marks_May.bits4 (fun HT_ HW_ => ?_)
    generalize w29.drew = w30 at BK134 HB hHeld ⊢
    refine tj hHeld ?_
    refine one_ (i := 1) (N := some 13) (lo 18 2) rfl rfl (one_of HT_.out (by kernel_rfl)) (by decide) (fun K hK => ?_)
    refine goes_ Tryd.func63 (by kernel_rfl) rfl #[.agg #[.int .i64 ((rd_T89 l0 x7_1).f0), .int .i64 ((rd_T89 l0 x7_1).f1)]] (by rfl) rfl rfl (by (try simp only [List.map_toArray, List.map_cons, List.map_nil]); first | done | rfl | (simp only [List.length_drop, List.length_take]; rfl)) ?_
    with_reducible refine (marks_one.calls A5.out).mono ?_
    rintro e w31 ⟨rfl, hb⟩
    refine ⟨_, rfl, ?_⟩; replace BK134 := blB hb BK134; replace HB := hB hb; (try clear hb); (try clear hb2); (try clear hk); (try clear hi)
    refine hK.out _ _ hh_ (fun hHeld => ?_)
    clear hK K; refine nm1 13 ?_
    (iterate 2 refine pi ?_)
    (iterate 13 refine pj ?_)
    refine pi ?_; refine done_ (done_of HT_.out (by kernel_rfl)) ?_
    try go_wp2
    go_ret
    exact ⟨rr_, bl_⟩
   replace H := nfd H; obtain ⟨c7b0, H⟩ | ⟨c7b0, H⟩ := H
   ·
    replace H := Aside0.mk H; obtain ⟨p133, q133, ad133, e133, hx133_0, hx133_1⟩ := ix_ (at_T89 HR0.out x7_1); cases e133; replace hx133_0 := hb_ HB hx133_0; replace hx133_1 := hb_ HB hx133_1
    try go_wp2_with (first | ((with_reducible refine gN 4 rfl ?_); refine bx 4 #[.int .i64 0, .int .i64 0] 89 ?_; intro gb134 hg w22 hbox hb; have BK134 := Aside0.mk hbox; have GW134 := gE hg; have GE134 := GW134; replace HB := hB hb; clear hb hbox hg; have hcz23 := cs2 BK134.out))
    have n0_ : Aside0 (((w22.setCell ⟨gb134, 0, none⟩ (.int .i64 ((rd_T89 l0 x7_1).f0))).setCell ⟨gb134, 1, none⟩ (.int .i64 ((rd_T89 l0 x7_1).f1))).heap[gb134]? = some (.cells #[.int .i64 ((rd_T89 l0 x7_1).f0), .int .i64 ((rd_T89 l0 x7_1).f1)] 89 (0, 0))) := ⟨bk_⟩
    have n1_ : Aside0 (Below w.heap.size w ((w22.setCell ⟨gb134, 0, none⟩ (.int .i64 ((rd_T89 l0 x7_1).f0))).setCell ⟨gb134, 1, none⟩ (.int .i64 ((rd_T89 l0 x7_1).f1)))) := ⟨bl_⟩
    (try clear BK134); (try clear HB)
    generalize ((w22.setCell ⟨gb134, 0, none⟩ (.int .i64 ((rd_T89 l0 x7_1).f0))).setCell ⟨gb134, 1, none⟩ (.int .i64 ((rd_T89 l0 x7_1).f1))) = w24 at n0_ n1_ ⊢
    have BK134 := n0_; have HB := n1_; clear n0_ n1_; replace BK134 := Aside0.mk (blk_drew BK134.out); replace HB := Aside0.mk (below_drew1 HB.out)
    refine start_ (n := 18) (S := fun w' => w'.cell? ⟨gb134, 0, none⟩ = some (.int .i64 ((rd_T89 l0 x7_1).f0)) ∧ w'.cell? ⟨gb134, 1, none⟩ = some (.int .i64 ((rd_T89 l0 x7_1).f1))) (ds := []) (lo 18 0) (by kernel_rfl) rfl rfl ⟨(blk_cell BK134.out 0).trans rfl, (blk_cell BK134.out 1).trans rfl⟩ (fun hHeld => ?_); refine with_tabW marks_May.tab4 marks_May.bits4 (fun HT_ HW_ => ?_)
    generalize w24.drew = w25 at BK134 HB hHeld ⊢
    refine tj hHeld ?_
    refine one_ (i := 1) (N := some 13) (lo 18 2) rfl rfl (one_of HT_.out (by kernel_rfl)) (by decide) (fun K hK => ?_)
    refine goes_ Tryd.func63 (by kernel_rfl) rfl #[.agg #[.int .i64 ((rd_T89 l0 x7_1).f0), .int .i64 ((rd_T89 l0 x7_1).f1)]] (by rfl) rfl rfl (by (try simp only [List.map_toArray, List.map_cons, List.map_nil]); first | done | rfl | (simp only [List.length_drop, List.length_take]; rfl)) ?_
    with_reducible refine (marks_one.calls A5.out).mono ?_
    rintro e w26 ⟨rfl, hb⟩
    refine ⟨_, rfl, ?_⟩; replace BK134 := blB hb BK134; replace HB := hB hb; (try clear hb); (try clear hb2); (try clear hk); (try clear hi)
    refine hK.out _ _ hh_ (fun hHeld => ?_)
    clear hK K; refine nm1 13 ?_
    (iterate 5 refine pi ?_)
    (iterate 9 refine pj ?_)
    (iterate 2 refine pi ?_)
    refine done_ (done_of HT_.out (by kernel_rfl)) ?_
    try go_wp2
    go_roundg k1
    case measure => have := HK1.out; omega
    case rel => exact ⟨(wrap64 (x7_1 + 1)), r3_, H, ⟨by have := HK1.out; omega⟩, ⟨bl_⟩⟩
   obtain ⟨ji8, hji8⟩ : ∃ j_ : Int, (wrap64 (x7_1 - 1)) = j_ := ⟨_, rfl⟩; (first | rw [hji8] at H | simp only [hji8] at H); (try rw [hji8] at A5)
   have hji8w : (IntKind.i64.wrap (x7_1 - 1)) = ji8 := (i64_w _).trans hji8
   replace H := ifq H; obtain ⟨c9b0, c10b0, H⟩ := H; replace H := ifd H; obtain ⟨c11b0, H⟩ | ⟨c11b0, H⟩ := H
   ·
    obtain rfl := Option.some.inj H; obtain ⟨p133, q133, ad133, e133, hx133_0, hx133_1⟩ := ix_ (at_T89 HR0.out x7_1); cases e133; replace hx133_0 := hb_ HB hx133_0; replace hx133_1 := hb_ HB hx133_1
    try go_wp2_with (first | ((with_reducible refine gN 4 rfl ?_); refine bx 4 #[.int .i64 0, .int .i64 0] 89 ?_; intro gb134 hg w12 hbox hb; have BK134 := Aside0.mk hbox; have GW134 := gE hg; have GE134 := GW134; replace HB := hB hb; clear hb hbox hg; have hcz13 := cs2 BK134.out))
    have n0_ : Aside0 (((w12.setCell ⟨gb134, 0, none⟩ (.int .i64 ((rd_T89 l0 x7_1).f0))).setCell ⟨gb134, 1, none⟩ (.int .i64 ((rd_T89 l0 x7_1).f1))).heap[gb134]? = some (.cells #[.int .i64 ((rd_T89 l0 x7_1).f0), .int .i64 ((rd_T89 l0 x7_1).f1)] 89 (0, 0))) := ⟨bk_⟩
    have n1_ : Aside0 (Below w.heap.size w ((w12.setCell ⟨gb134, 0, none⟩ (.int .i64 ((rd_T89 l0 x7_1).f0))).setCell ⟨gb134, 1, none⟩ (.int .i64 ((rd_T89 l0 x7_1).f1)))) := ⟨bl_⟩
    (try clear BK134); (try clear HB)
    generalize ((w12.setCell ⟨gb134, 0, none⟩ (.int .i64 ((rd_T89 l0 x7_1).f0))).setCell ⟨gb134, 1, none⟩ (.int .i64 ((rd_T89 l0 x7_1).f1))) = w14 at n0_ n1_ ⊢
    have BK134 := n0_; have HB := n1_; clear n0_ n1_; replace BK134 := Aside0.mk (blk_drew BK134.out); replace HB := Aside0.mk (below_drew1 HB.out); have p136 := od_ (0 ≤ ((ji8) : Int)); have q136 := od_ ((ji8) < (l0.length : Int)); obtain ⟨ad136, e136, hx136_0, hx136_1⟩ := at_T89 HR0.out (ji8) p136 q136; have hw136_1 := hx136_1; have hw136_0 := hx136_0; obtain rfl : ad133 = ad136 := (by injection e136)
    replace hx136_0 := hb_ HB hx136_0; replace hx136_1 := hb_ HB hx136_1; replace p136 := eq_true p136; replace q136 := eq_true q136
    refine start_ (n := 18) (S := fun w' => w'.cell? ⟨gb134, 0, none⟩ = some (.int .i64 ((rd_T89 l0 x7_1).f0)) ∧ w'.cell? ⟨gb134, 1, none⟩ = some (.int .i64 ((rd_T89 l0 x7_1).f1)) ∧ w'.cell? (ad133.add (((ji8)).toNat * 2)) = some (.int .i64 ((rd_T89 l0 (ji8)).f0)) ∧ w'.cell? ⟨(ad133.add (((ji8)).toNat * 2)).block, (ad133.add (((ji8)).toNat * 2)).off + 1, none⟩ = some (.int .i64 ((rd_T89 l0 (ji8)).f1))) (ds := []) (lo 18 0) (by kernel_rfl) rfl rfl ⟨(blk_cell BK134.out 0).trans rfl, (blk_cell BK134.out 1).trans rfl, (hb_ HB hw136_0), (hb_ HB hw136_1)⟩ (fun hHeld => ?_); refine with_tabW marks_May.tab4 marks_May.bits4 (fun HT_ HW_ => ?_)
    generalize w14.drew = w15 at BK134 HB hx136_0 hx136_1 hHeld ⊢
    refine tj hHeld ?_
    refine one_ (i := 1) (N := some 13) (lo 18 2) rfl rfl (one_of HT_.out (by kernel_rfl)) (by decide) (fun K hK => ?_)
    refine goes_ Tryd.func63 (by kernel_rfl) rfl #[.agg #[.int .i64 ((rd_T89 l0 x7_1).f0), .int .i64 ((rd_T89 l0 x7_1).f1)]] (by rfl) rfl rfl (by (try simp only [List.map_toArray, List.map_cons, List.map_nil]); first | done | rfl | (simp only [List.length_drop, List.length_take]; rfl)) ?_
    with_reducible refine (marks_one.calls A5.out).mono ?_
    rintro e w16 ⟨rfl, hb⟩
    refine ⟨_, rfl, ?_⟩; replace BK134 := blB hb BK134; replace HB := hB hb; (try clear hb); (try clear hb2); (try clear hk); (try clear hi)
    refine hK.out _ _ hh_ (fun hHeld => ?_)
    clear hK K; refine nm1 13 ?_
    (iterate 10 refine pi ?_)
    refine pu 13 (bs 18 12287) ?_; refine tk 12 (bs 18 16383) hHeld ?_; refine tk 14 (bs 18 32767) hHeld ?_; refine pu 15 (bs 18 65535) ?_; refine pu 16 (bs 18 131071) ?_; refine pu 17 (bs 18 262143) ?_; refine done_ (done_of HT_.out (by kernel_rfl)) ?_
    try go_wp2
    go_ret
    exact ⟨by first | exact rr_ | (simp only [← hji8]; exact rr_), bl_⟩
   replace H := Aside0.mk H; obtain ⟨p133, q133, ad133, e133, hx133_0, hx133_1⟩ := ix_ (at_T89 HR0.out x7_1); cases e133; replace hx133_0 := hb_ HB hx133_0; replace hx133_1 := hb_ HB hx133_1
   try go_wp2_with (first | ((with_reducible refine gN 4 rfl ?_); refine bx 4 #[.int .i64 0, .int .i64 0] 89 ?_; intro gb134 hg w17 hbox hb; have BK134 := Aside0.mk hbox; have GW134 := gE hg; have GE134 := GW134; replace HB := hB hb; clear hb hbox hg; have hcz18 := cs2 BK134.out))
   have n0_ : Aside0 (((w17.setCell ⟨gb134, 0, none⟩ (.int .i64 ((rd_T89 l0 x7_1).f0))).setCell ⟨gb134, 1, none⟩ (.int .i64 ((rd_T89 l0 x7_1).f1))).heap[gb134]? = some (.cells #[.int .i64 ((rd_T89 l0 x7_1).f0), .int .i64 ((rd_T89 l0 x7_1).f1)] 89 (0, 0))) := ⟨bk_⟩
   have n1_ : Aside0 (Below w.heap.size w ((w17.setCell ⟨gb134, 0, none⟩ (.int .i64 ((rd_T89 l0 x7_1).f0))).setCell ⟨gb134, 1, none⟩ (.int .i64 ((rd_T89 l0 x7_1).f1)))) := ⟨bl_⟩
   (try clear BK134); (try clear HB)
   generalize ((w17.setCell ⟨gb134, 0, none⟩ (.int .i64 ((rd_T89 l0 x7_1).f0))).setCell ⟨gb134, 1, none⟩ (.int .i64 ((rd_T89 l0 x7_1).f1))) = w19 at n0_ n1_ ⊢
   have BK134 := n0_; have HB := n1_; clear n0_ n1_; replace BK134 := Aside0.mk (blk_drew BK134.out); replace HB := Aside0.mk (below_drew1 HB.out); have p136 := od_ (0 ≤ ((ji8) : Int)); have q136 := od_ ((ji8) < (l0.length : Int)); obtain ⟨ad136, e136, hx136_0, hx136_1⟩ := at_T89 HR0.out (ji8) p136 q136; have hw136_1 := hx136_1; have hw136_0 := hx136_0; obtain rfl : ad133 = ad136 := (by injection e136)
   replace hx136_0 := hb_ HB hx136_0; replace hx136_1 := hb_ HB hx136_1; replace p136 := eq_true p136; replace q136 := eq_true q136
   refine start_ (n := 18) (S := fun w' => w'.cell? ⟨gb134, 0, none⟩ = some (.int .i64 ((rd_T89 l0 x7_1).f0)) ∧ w'.cell? ⟨gb134, 1, none⟩ = some (.int .i64 ((rd_T89 l0 x7_1).f1)) ∧ w'.cell? (ad133.add (((ji8)).toNat * 2)) = some (.int .i64 ((rd_T89 l0 (ji8)).f0)) ∧ w'.cell? ⟨(ad133.add (((ji8)).toNat * 2)).block, (ad133.add (((ji8)).toNat * 2)).off + 1, none⟩ = some (.int .i64 ((rd_T89 l0 (ji8)).f1))) (ds := []) (lo 18 0) (by kernel_rfl) rfl rfl ⟨(blk_cell BK134.out 0).trans rfl, (blk_cell BK134.out 1).trans rfl, (hb_ HB hw136_0), (hb_ HB hw136_1)⟩ (fun hHeld => ?_); refine with_tabW marks_May.tab4 marks_May.bits4 (fun HT_ HW_ => ?_)
   generalize w19.drew = w20 at BK134 HB hx136_0 hx136_1 hHeld ⊢
   refine tj hHeld ?_
   refine one_ (i := 1) (N := some 13) (lo 18 2) rfl rfl (one_of HT_.out (by kernel_rfl)) (by decide) (fun K hK => ?_)
   refine goes_ Tryd.func63 (by kernel_rfl) rfl #[.agg #[.int .i64 ((rd_T89 l0 x7_1).f0), .int .i64 ((rd_T89 l0 x7_1).f1)]] (by rfl) rfl rfl (by (try simp only [List.map_toArray, List.map_cons, List.map_nil]); first | done | rfl | (simp only [List.length_drop, List.length_take]; rfl)) ?_
   with_reducible refine (marks_one.calls A5.out).mono ?_
   rintro e w21 ⟨rfl, hb⟩
   refine ⟨_, rfl, ?_⟩; replace BK134 := blB hb BK134; replace HB := hB hb; (try clear hb); (try clear hb2); (try clear hk); (try clear hi)
   refine hK.out _ _ hh_ (fun hHeld => ?_)
   clear hK K; refine nm1 13 ?_
   (iterate 10 refine pi ?_)
   refine pu 13 (bs 18 12287) ?_; refine tk 12 (bs 18 16383) hHeld ?_; refine tk 14 (bs 18 32767) hHeld ?_; refine pu 15 (bs 18 65535) ?_; refine pu 16 (bs 18 131071) ?_; refine pu 17 (bs 18 262143) ?_; refine done_ (done_of HT_.out (by kernel_rfl)) ?_
   try go_wp2
   go_roundg k1
   case measure => have := HK1.out; omega
   case rel => exact ⟨(wrap64 (x7_1 + 1)), r3_, H, ⟨by have := HK1.out; omega⟩, ⟨bl_⟩⟩

end Go.Proofs.YtbgmmcngkdhpcaaDoor.P
