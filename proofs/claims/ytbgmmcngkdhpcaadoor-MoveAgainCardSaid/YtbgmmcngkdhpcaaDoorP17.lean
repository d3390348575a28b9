/- The walks of the functions that these statements reach: each Go function as a plain Lean function, and the proof that its call comes to that. Written by the session's program wip/pp.py. -/
import Derived.Test.YtbgmmcngkdhpcaaDoorP0
import Derived.Test.YtbgmmcngkdhpcaaDoorP4
namespace Go.Proofs.YtbgmmcngkdhpcaaDoor.P
open Go.Proofs.YtbgmmcngkdhpcaaDoor
open Go.RowKit Go.Proofs.YtbgmmcngkdhpcaaDoorW.PrintWords Go.Proofs.YtbgmmcngkdhpcaaDoorW.PrintLast Go.Proofs.YtbgmmcngkdhpcaaDoorW.PrintMore
attribute [local go_sem] cell_isSome max2_int min2_int max_two min_two max_three min_three max_four min_four   -- for this text's walks alone
set_option linter.unusedVariables false
set_option linter.unusedSimpArgs false
set_option maxHeartbeats 8000000
set_option maxRecDepth 100000

/-! ### quillref6_Marks: function 55 -/
def quillref6_Marks.l0 : Nat → List (S89) → Int → Option (Bool)
  | 0, _, _ => none
  | k + 1, x0, x3 => if x3 < (x0.length : Int) then (if 0 ≤ x3 then ((quillref0_Between.f ((rd_T89 x0 x3).f0) 97 122).bind fun t438 => (if t438 = true then ((quillref0_Num.f ((rd_T89 x0 x3).f1) 4000).bind fun t440 => (if t440 = true then (if x3 > 0 then (if 0 ≤ (wrap64 (x3 - 1)) then (if (wrap64 (x3 - 1)) < (x0.length : Int) then (if ((rd_T89 x0 (wrap64 (x3 - 1))).f0) ≥ ((rd_T89 x0 x3).f0) then (some false) else (quillref6_Marks.l0 k x0 (wrap64 (x3 + 1)))) else (none)) else (none)) else (quillref6_Marks.l0 k x0 (wrap64 (x3 + 1)))) else (some false))) else (some false))) else (none)) else (some true)
def quillref6_Marks.f (k : Nat) (l0 : List (S89)) : Option (Bool) := quillref6_Marks.l0 k l0 0
def quillref6_Marks.T4 : Bool × List (List Nat × List Nat) := (true, [([], []), ([], []), ([0, 1], [0, 1]), ([2], [2]), ([3], [3]), ([4], [4]), ([5], [5]), ([6, 5], [6]), ([7], [7]), ([7], [7]), ([8, 9, 7], [7, 8, 9]), ([10, 7], [7, 10]), ([11, 7], [7, 11]), ([12, 7, 7], [7, 12]), ([13, 7], [7, 13]), ([7, 14], [7, 14]), ([15, 13], [15]), ([16], [16]), ([17, 16], [16, 17]), ([18, 16, 16], [16, 18]), ([19], [19]), ([19], [19]), ([21, 19], [19, 21]), ([20, 22, 19], [19, 20, 22]), ([23, 19], [19, 23]), ([24, 19], [19, 24]), ([19], [19]), ([19], [19]), ([26, 27, 19], [19, 26, 27]), ([28, 19], [19, 28]), ([29, 19], [19, 29]), ([25, 30, 19], [19, 25, 30]), ([19, 31, 16], [16, 19, 31]), ([16, 32], [16, 32])])
def quillref6_Marks.B4 : List Nat := [0, 0, 3, 7, 15, 31, 63, 127, 255, 255, 1023, 2047, 4095, 8191, 16383, 32767, 65535, 131071, 262143, 524287, 1048575, 1048575, 3145727, 8388607, 16777215, 33554431, 1048575, 1048575, 202375167, 470810623, 1007681535, 2147483647, 4294967295, 8589934591]
theorem quillref6_Marks.tab4 : rtab .any (opsOf Tryd.f55 4) = quillref6_Marks.T4 := by kernel_rfl
theorem quillref6_Marks.bits4 : waitsOk quillref6_Marks.T4.2 quillref6_Marks.B4 = true := by kernel_rfl
theorem quillref6_Marks.calls {k : Nat} {A0 : Option Addr} {c0 : Nat} {l0 : List (S89)} {r : Bool} {w : World} (hr0 : Kd.C k89 w A0 l0.length l0) (hc0 : l0.length ≤ c0) (H : quillref6_Marks.f k l0 = some r) :
  Calls Tryd.prog 55 #[.slice A0 l0.length c0] w fun e w' => e = .returned (.bool r) ∧ Below w.heap.size w w' := by
 have HR0 := Aside0.mk hr0; have HC0 := Aside0.mk hc0; clear hr0 hc0; have HB := Aside0.mk (Below.refl w.heap.size w); unfold quillref6_Marks.f at H; replace H := Aside0.mk H; go_enter Tryd.func55, Tryd.ntmps55
 go_wp2
 go_loopg [3] k (fun kq v3 w' => ∃ (x3_1 : Int), v3 = .int .i64 x3_1 ∧ Aside0 (quillref6_Marks.l0 kq l0 x3_1 = some r) ∧ Aside0 (kq ≤ k) ∧ Aside0 (Below w.heap.size w w'))
 case atStart => exact ⟨(0), r3_, H, ⟨Nat.le_refl _⟩, ⟨bl_⟩⟩
 case round =>
  clear H; obtain ⟨x3_1, rfl, HA, HK1, HB⟩ := hrel
  cases gk with
  | zero => exact absurd HA.out (by simp [quillref6_Marks.l0])
  | succ k1 =>
   obtain ⟨H⟩ := HA; simp only [quillref6_Marks.l0] at H; replace H := nfd H; obtain ⟨c2b0, H⟩ | ⟨c2b0, H⟩ := H
   ·
    obtain rfl := Option.some.inj H; go_wp2; go_ret
    exact ⟨rr_, bl_⟩
   replace H := ifdn H; obtain ⟨c3b0, H⟩ := H; replace H := bindA H; obtain ⟨t438, A4, H⟩ := H; (try dsimp only at H); replace H := nfb H; obtain ⟨rfl, H⟩ | ⟨rfl, H⟩ := H
   ·
    obtain rfl := Option.some.inj H
    try go_wp2
    replace HB := Aside0.mk (below_drew1 HB.out); obtain ⟨p437, q437, ad437, e437, hx437_0, hx437_1⟩ := ix_ (at_T89 HR0.out x3_1); have hw437_1 := hx437_1; have hw437_0 := hx437_0; cases e437; replace hx437_0 := hb_ HB hx437_0; replace hx437_1 := hb_ HB hx437_1
    refine start_ (n := 34) (S := fun w' => w'.cell? (ad437.add ((x3_1).toNat * 2)) = some (.int .i64 ((rd_T89 l0 x3_1).f0)) ∧ w'.cell? ⟨(ad437.add ((x3_1).toNat * 2)).block, (ad437.add ((x3_1).toNat * 2)).off + 1, none⟩ = some (.int .i64 ((rd_T89 l0 x3_1).f1))) (ds := []) (lo 34 0) (by kernel_rfl) rfl rfl ⟨(hb_ HB hw437_0), (hb_ HB hw437_1)⟩ (fun hHeld => ?_); refine with_tabW quillref6_Marks.tab4 quillref6_Marks.bits4 (fun HT_ HW_ => ?_)
    generalize wr.drew = w17 at HB hx437_0 hx437_1 hHeld ⊢
    (iterate 4 refine pi ?_)
    refine tj hHeld ?_
    refine one_ (i := 5) (N := some 15) (lo 34 6) rfl rfl (one_of HT_.out (by kernel_rfl)) (by decide) (fun K hK => ?_)
    refine goes_ Tryd.func12 (by kernel_rfl) rfl #[.int .i64 ((rd_T89 l0 x3_1).f0), .int .i64 97, .int .i64 122] (by rfl) rfl rfl (by (try simp only [List.map_toArray, List.map_cons, List.map_nil]); first | done | rfl | (simp only [List.length_drop, List.length_take]; rfl)) ?_
    with_reducible refine (quillref0_Between.calls A4.out).mono ?_
    rintro e w' ⟨rfl, nd, rfl⟩
    refine ⟨_, rfl, ?_⟩
    refine hK.out _ _ hh_ (fun hHeld => ?_)
    clear hK K; refine nm1 15 ?_
    (iterate 2 refine pi ?_)
    (iterate 7 refine pj ?_)
    (iterate 2 refine pi ?_)
    (iterate 16 refine pj ?_)
    refine pi ?_; refine done_ (done_of HT_.out (by kernel_rfl)) ?_
    try go_wp2
    go_ret
    exact ⟨rr_, bl_⟩
   replace H := bindA H; obtain ⟨t440, A6, H⟩ := H; (try dsimp only at H); replace H := nfb H; obtain ⟨rfl, H⟩ | ⟨rfl, H⟩ := H
   ·
    obtain rfl := Option.some.inj H
    try go_wp2
    replace HB := Aside0.mk (below_drew1 HB.out); obtain ⟨p437, q437, ad437, e437, hx437_0, hx437_1⟩ := ix_ (at_T89 HR0.out x3_1); have hw437_1 := hx437_1; have hw437_0 := hx437_0; cases e437; replace hx437_0 := hb_ HB hx437_0; replace hx437_1 := hb_ HB hx437_1; have p439 := od_ (0 ≤ (x3_1 : Int)); have q439 := od_ (x3_1 < (l0.length : Int)); obtain ⟨ad439, e439, hx439_0, hx439_1⟩ := at_T89 HR0.out x3_1 p439 q439
    have hw439_1 := hx439_1; have hw439_0 := hx439_0; obtain rfl : ad437 = ad439 := (by injection e439); replace hx439_0 := hb_ HB hx439_0; replace hx439_1 := hb_ HB hx439_1; replace p439 := eq_true p439; replace q439 := eq_true q439
    refine start_ (n := 34) (S := fun w' => w'.cell? (ad437.add ((x3_1).toNat * 2)) = some (.int .i64 ((rd_T89 l0 x3_1).f0)) ∧ w'.cell? ⟨(ad437.add ((x3_1).toNat * 2)).block, (ad437.add ((x3_1).toNat * 2)).off + 1, none⟩ = some (.int .i64 ((rd_T89 l0 x3_1).f1)) ∧ w'.cell? (ad437.add ((x3_1).toNat * 2)) = some (.int .i64 ((rd_T89 l0 x3_1).f0)) ∧ w'.cell? ⟨(ad437.add ((x3_1).toNat * 2)).block, (ad437.add ((x3_1).toNat * 2)).off + 1, none⟩ = some (.int .i64 ((rd_T89 l0 x3_1).f1))) (ds := []) (lo 34 0) (by kernel_rfl) rfl rfl ⟨(hb_ HB hw437_0), (hb_ HB hw437_1), (hb_ HB hw439_0), (hb_ HB hw439_1)⟩ (fun hHeld => ?_); refine with_tabW quillref6_Marks.tab4 quillref6_Marks.bits4 (fun HT_ HW_ => ?_)
    generalize wr.drew = w16 at HB hx437_0 hx437_1 hx439_0 hx439_1 hHeld ⊢
    (iterate 4 refine pi ?_)
    refine tj hHeld ?_
    refine one_ (i := 5) (N := some 15) (lo 34 6) rfl rfl (one_of HT_.out (by kernel_rfl)) (by decide) (fun K hK => ?_)
    refine goes_ Tryd.func12 (by kernel_rfl) rfl #[.int .i64 ((rd_T89 l0 x3_1).f0), .int .i64 97, .int .i64 122] (by rfl) rfl rfl (by (try simp only [List.map_toArray, List.map_cons, List.map_nil]); first | done | rfl | (simp only [List.length_drop, List.length_take]; rfl)) ?_
    with_reducible refine (quillref0_Between.calls A4.out).mono ?_
    rintro e w' ⟨rfl, nd, rfl⟩
    refine ⟨_, rfl, ?_⟩
    refine hK.out _ _ hh_ (fun hHeld => ?_)
    clear hK K; refine nm1 15 ?_
    (iterate 6 refine pi ?_)
    refine tj hHeld ?_
    refine one_ (i := 13) (N := some 23) (lo 34 14) rfl rfl (one_of HT_.out (by kernel_rfl)) (by decide) (fun K hK => ?_)
    refine goes_ Tryd.func11 (by kernel_rfl) rfl #[.int .i64 ((rd_T89 l0 x3_1).f1), .int .i64 4000] (by rfl) rfl rfl (by (try simp only [List.map_toArray, List.map_cons, List.map_nil]); first | done | rfl | (simp only [List.length_drop, List.length_take]; rfl)) ?_
    with_reducible refine (quillref0_Num.calls A6.out).mono ?_
    rintro e w' ⟨rfl, nd, rfl⟩
    refine ⟨_, rfl, ?_⟩
    refine hK.out _ _ hh_ (fun hHeld => ?_)
    clear hK K; refine nm1 23 ?_
    (iterate 3 refine pi ?_)
    (iterate 16 refine pj ?_)
    refine pi ?_; refine done_ (done_of HT_.out (by kernel_rfl)) ?_
    try go_wp2
    go_ret
    exact ⟨rr_, bl_⟩
   replace H := nfd H; obtain ⟨c8b0, H⟩ | ⟨c8b0, H⟩ := H
   ·
    replace H := Aside0.mk H
    try go_wp2
    replace HB := Aside0.mk (below_drew1 HB.out); obtain ⟨p437, q437, ad437, e437, hx437_0, hx437_1⟩ := ix_ (at_T89 HR0.out x3_1); have hw437_1 := hx437_1; have hw437_0 := hx437_0; cases e437; replace hx437_0 := hb_ HB hx437_0; replace hx437_1 := hb_ HB hx437_1; have p439 := od_ (0 ≤ (x3_1 : Int)); have q439 := od_ (x3_1 < (l0.length : Int)); obtain ⟨ad439, e439, hx439_0, hx439_1⟩ := at_T89 HR0.out x3_1 p439 q439
    have hw439_1 := hx439_1; have hw439_0 := hx439_0; obtain rfl : ad437 = ad439 := (by injection e439); replace hx439_0 := hb_ HB hx439_0; replace hx439_1 := hb_ HB hx439_1; replace p439 := eq_true p439; replace q439 := eq_true q439
    refine start_ (n := 34) (S := fun w' => w'.cell? (ad437.add ((x3_1).toNat * 2)) = some (.int .i64 ((rd_T89 l0 x3_1).f0)) ∧ w'.cell? ⟨(ad437.add ((x3_1).toNat * 2)).block, (ad437.add ((x3_1).toNat * 2)).off + 1, none⟩ = some (.int .i64 ((rd_T89 l0 x3_1).f1)) ∧ w'.cell? (ad437.add ((x3_1).toNat * 2)) = some (.int .i64 ((rd_T89 l0 x3_1).f0)) ∧ w'.cell? ⟨(ad437.add ((x3_1).toNat * 2)).block, (ad437.add ((x3_1).toNat * 2)).off + 1, none⟩ = some (.int .i64 ((rd_T89 l0 x3_1).f1))) (ds := []) (lo 34 0) (by kernel_rfl) rfl rfl ⟨(hb_ HB hw437_0), (hb_ HB hw437_1), (hb_ HB hw439_0), (hb_ HB hw439_1)⟩ (fun hHeld => ?_); refine with_tabW quillref6_Marks.tab4 quillref6_Marks.bits4 (fun HT_ HW_ => ?_)
    generalize wr.drew = w15 at HB hx437_0 hx437_1 hx439_0 hx439_1 hHeld ⊢
    (iterate 4 refine pi ?_)
    refine tj hHeld ?_
    refine one_ (i := 5) (N := some 15) (lo 34 6) rfl rfl (one_of HT_.out (by kernel_rfl)) (by decide) (fun K hK => ?_)
    refine goes_ Tryd.func12 (by kernel_rfl) rfl #[.int .i64 ((rd_T89 l0 x3_1).f0), .int .i64 97, .int .i64 122] (by rfl) rfl rfl (by (try simp only [List.map_toArray, List.map_cons, List.map_nil]); first | done | rfl | (simp only [List.length_drop, List.length_take]; rfl)) ?_
    with_reducible refine (quillref0_Between.calls A4.out).mono ?_
    rintro e w' ⟨rfl, nd, rfl⟩
    refine ⟨_, rfl, ?_⟩
    refine hK.out _ _ hh_ (fun hHeld => ?_)
    clear hK K; refine nm1 15 ?_
    (iterate 6 refine pi ?_)
    refine tj hHeld ?_
    refine one_ (i := 13) (N := some 23) (lo 34 14) rfl rfl (one_of HT_.out (by kernel_rfl)) (by decide) (fun K hK => ?_)
    refine goes_ Tryd.func11 (by kernel_rfl) rfl #[.int .i64 ((rd_T89 l0 x3_1).f1), .int .i64 4000] (by rfl) rfl rfl (by (try simp only [List.map_toArray, List.map_cons, List.map_nil]); first | done | rfl | (simp only [List.length_drop, List.length_take]; rfl)) ?_
    with_reducible refine (quillref0_Num.calls A6.out).mono ?_
    rintro e w' ⟨rfl, nd, rfl⟩
    refine ⟨_, rfl, ?_⟩
    refine hK.out _ _ hh_ (fun hHeld => ?_)
    clear hK K; refine nm1 23 ?_
    (iterate 6 refine pi ?_)
    (iterate 12 refine pj ?_)
    (iterate 2 refine pi ?_)
    refine done_ (done_of HT_.out (by kernel_rfl)) ?_
    try go_wp2
    go_roundg k1
    case measure => have := HK1.out; omega
    case rel => exact ⟨(wrap64 (x3_1 + 1)), r3_, H, ⟨by have := HK1.out; omega⟩, ⟨bl_⟩⟩
   obtain ⟨ji9, hji9⟩ : ∃ j_ : Int, (wrap64 (x3_1 - 1)) = j_ := ⟨_, rfl⟩; (first | rw [hji9] at H | simp only [hji9] at H); (try rw [hji9] at A4); (try rw [hji9] at A6)
   have hji9w : (IntKind.i64.wrap (x3_1 - 1)) = ji9 := (i64_w _).trans hji9
   replace H := ifq H; obtain ⟨c10b0, c11b0, H⟩ := H; replace H := ifd H; obtain ⟨c12b0, H⟩ | ⟨c12b0, H⟩ := H
   ·
    obtain rfl := Option.some.inj H
    try go_wp2
    replace HB := Aside0.mk (below_drew1 HB.out); obtain ⟨p437, q437, ad437, e437, hx437_0, hx437_1⟩ := ix_ (at_T89 HR0.out x3_1); have hw437_1 := hx437_1; have hw437_0 := hx437_0; cases e437; replace hx437_0 := hb_ HB hx437_0; replace hx437_1 := hb_ HB hx437_1; have p439 := od_ (0 ≤ (x3_1 : Int)); have q439 := od_ (x3_1 < (l0.length : Int)); obtain ⟨ad439, e439, hx439_0, hx439_1⟩ := at_T89 HR0.out x3_1 p439 q439
    have hw439_1 := hx439_1; have hw439_0 := hx439_0; obtain rfl : ad437 = ad439 := (by injection e439); replace hx439_0 := hb_ HB hx439_0; replace hx439_1 := hb_ HB hx439_1; replace p439 := eq_true p439; replace q439 := eq_true q439; have p441 := od_ (0 ≤ ((ji9) : Int)); have q441 := od_ ((ji9) < (l0.length : Int)); obtain ⟨ad441, e441, hx441_0, hx441_1⟩ := at_T89 HR0.out (ji9) p441 q441; have hw441_1 := hx441_1
    have hw441_0 := hx441_0; obtain rfl : ad437 = ad441 := (by injection e441); replace hx441_0 := hb_ HB hx441_0; replace hx441_1 := hb_ HB hx441_1; replace p441 := eq_true p441; replace q441 := eq_true q441; have p442 := od_ (0 ≤ (x3_1 : Int)); have q442 := od_ (x3_1 < (l0.length : Int)); obtain ⟨ad442, e442, hx442_0, hx442_1⟩ := at_T89 HR0.out x3_1 p442 q442; have hw442_1 := hx442_1; have hw442_0 := hx442_0
    obtain rfl : ad437 = ad442 := (by injection e442); replace hx442_0 := hb_ HB hx442_0; replace hx442_1 := hb_ HB hx442_1; replace p442 := eq_true p442; replace q442 := eq_true q442
    refine start_ (n := 34) (S := fun w' => w'.cell? (ad437.add ((x3_1).toNat * 2)) = some (.int .i64 ((rd_T89 l0 x3_1).f0)) ∧ w'.cell? ⟨(ad437.add ((x3_1).toNat * 2)).block, (ad437.add ((x3_1).toNat * 2)).off + 1, none⟩ = some (.int .i64 ((rd_T89 l0 x3_1).f1)) ∧ w'.cell? (ad437.add ((x3_1).toNat * 2)) = some (.int .i64 ((rd_T89 l0 x3_1).f0)) ∧ w'.cell? ⟨(ad437.add ((x3_1).toNat * 2)).block, (ad437.add ((x3_1).toNat * 2)).off + 1, none⟩ = some (.int .i64 ((rd_T89 l0 x3_1).f1)) ∧ w'.cell? (ad437.add (((ji9)).toNat * 2)) = some (.int .i64 ((rd_T89 l0 (ji9)).f0)) ∧ w'.cell? ⟨(ad437.add (((ji9)).toNat * 2)).block, (ad437.add (((ji9)).toNat * 2)).off + 1, none⟩ = some (.int .i64 ((rd_T89 l0 (ji9)).f1)) ∧ w'.cell? (ad437.add ((x3_1).toNat * 2)) = some (.int .i64 ((rd_T89 l0 x3_1).f0)) ∧ w'.cell? ⟨(ad437.add ((x3_1).toNat * 2)).block, (ad437.add ((x3_1).toNat * 2)).off + 1, none⟩ = some (.int .i64 ((rd_T89 l0 x3_1).f1))) (ds := []) (lo 34 0) (by kernel_rfl) rfl rfl ⟨(hb_ HB hw437_0), (hb_ HB hw437_1), (hb_ HB hw439_0), (hb_ HB hw439_1), (hb_ HB hw441_0), (hb_ HB hw441_1), (hb_ HB hw442_0), (hb_ HB hw442_1)⟩ (fun hHeld => ?_); refine with_tabW quillref6_Marks.tab4 quillref6_Marks.bits4 (fun HT_ HW_ => ?_)
    generalize wr.drew = w13 at HB hx437_0 hx437_1 hx439_0 hx439_1 hx441_0 hx441_1 hx442_0 hx442_1 hHeld ⊢
    (iterate 4 refine pi ?_)
    refine tj hHeld ?_
    refine one_ (i := 5) (N := some 15) (lo 34 6) rfl rfl (one_of HT_.out (by kernel_rfl)) (by decide) (fun K hK => ?_)
    refine goes_ Tryd.func12 (by kernel_rfl) rfl #[.int .i64 ((rd_T89 l0 x3_1).f0), .int .i64 97, .int .i64 122] (by rfl) rfl rfl (by (try simp only [List.map_toArray, List.map_cons, List.map_nil]); first | done | rfl | (simp only [List.length_drop, List.length_take]; rfl)) ?_
    with_reducible refine (quillref0_Between.calls A4.out).mono ?_
    rintro e w' ⟨rfl, nd, rfl⟩
    refine ⟨_, rfl, ?_⟩
    refine hK.out _ _ hh_ (fun hHeld => ?_)
    clear hK K; refine nm1 15 ?_
    (iterate 6 refine pi ?_)
    refine tj hHeld ?_
    refine one_ (i := 13) (N := some 23) (lo 34 14) rfl rfl (one_of HT_.out (by kernel_rfl)) (by decide) (fun K hK => ?_)
    refine goes_ Tryd.func11 (by kernel_rfl) rfl #[.int .i64 ((rd_T89 l0 x3_1).f1), .int .i64 4000] (by rfl) rfl rfl (by (try simp only [List.map_toArray, List.map_cons, List.map_nil]); first | done | rfl | (simp only [List.length_drop, List.length_take]; rfl)) ?_
    with_reducible refine (quillref0_Num.calls A6.out).mono ?_
    rintro e w' ⟨rfl, nd, rfl⟩
    refine ⟨_, rfl, ?_⟩
    refine hK.out _ _ hh_ (fun hHeld => ?_)
    clear hK K; refine nm1 23 ?_
    (iterate 11 refine pi ?_)
    refine pu 26 (bs 34 100663295) ?_; refine pu 27 (bs 34 234881023) ?_; refine pu 28 (bs 34 503316479) ?_; refine pu 29 (bs 34 1040187391) ?_; refine tk 25 (bs 34 1073741823) hHeld ?_; refine tk 30 (bs 34 2147483647) hHeld ?_; refine pu 31 (bs 34 4294967295) ?_; refine pu 32 (bs 34 8589934591) ?_; refine pu 33 (bs 34 17179869183) ?_; refine done_ (done_of HT_.out (by kernel_rfl)) ?_
    try go_wp2
    go_ret
    exact ⟨by first | exact rr_ | (simp only [← hji9]; exact rr_), bl_⟩
   replace H := Aside0.mk H
   try go_wp2
   replace HB := Aside0.mk (below_drew1 HB.out); obtain ⟨p437, q437, ad437, e437, hx437_0, hx437_1⟩ := ix_ (at_T89 HR0.out x3_1); have hw437_1 := hx437_1; have hw437_0 := hx437_0; cases e437; replace hx437_0 := hb_ HB hx437_0; replace hx437_1 := hb_ HB hx437_1; have p439 := od_ (0 ≤ (x3_1 : Int)); have q439 := od_ (x3_1 < (l0.length : Int)); obtain ⟨ad439, e439, hx439_0, hx439_1⟩ := at_T89 HR0.out x3_1 p439 q439
   have hw439_1 := hx439_1; have hw439_0 := hx439_0; obtain rfl : ad437 = ad439 := (by injection e439); replace hx439_0 := hb_ HB hx439_0; replace hx439_1 := hb_ HB hx439_1; replace p439 := eq_true p439; replace q439 := eq_true q439; have p441 := od_ (0 ≤ ((ji9) : Int)); have q441 := od_ ((ji9) < (l0.length : Int)); obtain ⟨ad441, e441, hx441_0, hx441_1⟩ := at_T89 HR0.out (ji9) p441 q441; have hw441_1 := hx441_1
   have hw441_0 := hx441_0; obtain rfl : ad437 = ad441 := (by injection e441); replace hx441_0 := hb_ HB hx441_0; replace hx441_1 := hb_ HB hx441_1; replace p441 := eq_true p441; replace q441 := eq_true q441; have p442 := od_ (0 ≤ (x3_1 : Int)); have q442 := od_ (x3_1 < (l0.length : Int)); obtain ⟨ad442, e442, hx442_0, hx442_1⟩ := at_T89 HR0.out x3_1 p442 q442; have hw442_1 := hx442_1; have hw442_0 := hx442_0
   obtain rfl : ad437 = ad442 := (by injection e442); replace hx442_0 := hb_ HB hx442_0; replace hx442_1 := hb_ HB hx442_1; replace p442 := eq_true p442; replace q442 := eq_true q442
   refine start_ (n := 34) (S := fun w' => w'.cell? (ad437.add ((x3_1).toNat * 2)) = some (.int .i64 ((rd_T89 l0 x3_1).f0)) ∧ w'.cell? ⟨(ad437.add ((x3_1).toNat * 2)).block, (ad437.add ((x3_1).toNat * 2)).off + 1, none⟩ = some (.int .i64 ((rd_T89 l0 x3_1).f1)) ∧ w'.cell? (ad437.add ((x3_1).toNat * 2)) = some (.int .i64 ((rd_T89 l0 x3_1).f0)) ∧ w'.cell? ⟨(ad437.add ((x3_1).toNat * 2)).block, (ad437.add ((x3_1).toNat * 2)).off + 1, none⟩ = some (.int .i64 ((rd_T89 l0 x3_1).f1)) ∧ w'.cell? (ad437.add (((ji9)).toNat * 2)) = some (.int .i64 ((rd_T89 l0 (ji9)).f0)) ∧ w'.cell? ⟨(ad437.add (((ji9)).toNat * 2)).block, (ad437.add (((ji9)).toNat * 2)).off + 1, none⟩ = some (.int .i64 ((rd_T89 l0 (ji9)).f1)) ∧ w'.cell? (ad437.add ((x3_1).toNat * 2)) = some (.int .i64 ((rd_T89 l0 x3_1).f0)) ∧ w'.cell? ⟨(ad437.add ((x3_1).toNat * 2)).block, (ad437.add ((x3_1).toNat * 2)).off + 1, none⟩ = some (.int .i64 ((rd_T89 l0 x3_1).f1))) (ds := []) (lo 34 0) (by kernel_rfl) rfl rfl ⟨(hb_ HB hw437_0), (hb_ HB hw437_1), (hb_ HB hw439_0), (hb_ HB hw439_1), (hb_ HB hw441_0), (hb_ HB hw441_1), (hb_ HB hw442_0), (hb_ HB hw442_1)⟩ (fun hHeld => ?_); refine with_tabW quillref6_Marks.tab4 quillref6_Marks.bits4 (fun HT_ HW_ => ?_)
   generalize wr.drew = w14 at HB hx437_0 hx437_1 hx439_0 hx439_1 hx441_0 hx441_1 hx442_0 hx442_1 hHeld ⊢
   (iterate 4 refine pi ?_)
   refine tj hHeld ?_
   refine one_ (i := 5) (N := some 15) (lo 34 6) rfl rfl (one_of HT_.out (by kernel_rfl)) (by decide) (fun K hK => ?_)
   refine goes_ Tryd.func12 (by kernel_rfl) rfl #[.int .i64 ((rd_T89 l0 x3_1).f0), .int .i64 97, .int .i64 122] (by rfl) rfl rfl (by (try simp only [List.map_toArray, List.map_cons, List.map_nil]); first | done | rfl | (simp only [List.length_drop, List.length_take]; rfl)) ?_
   with_reducible refine (quillref0_Between.calls A4.out).mono ?_
   rintro e w' ⟨rfl, nd, rfl⟩
   refine ⟨_, rfl, ?_⟩
   refine hK.out _ _ hh_ (fun hHeld => ?_)
   clear hK K; refine nm1 15 ?_
   (iterate 6 refine pi ?_)
   refine tj hHeld ?_
   refine one_ (i := 13) (N := some 23) (lo 34 14) rfl rfl (one_of HT_.out (by kernel_rfl)) (by decide) (fun K hK => ?_)
   refine goes_ Tryd.func11 (by kernel_rfl) rfl #[.int .i64 ((rd_T89 l0 x3_1).f1), .int .i64 4000] (by rfl) rfl rfl (by (try simp only [List.map_toArray, List.map_cons, List.map_nil]); first | done | rfl | (simp only [List.length_drop, List.length_take]; rfl)) ?_
   with_reducible refine (quillref0_Num.calls A6.out).mono ?_
   rintro e w' ⟨rfl, nd, rfl⟩
   refine ⟨_, rfl, ?_⟩
   refine hK.out _ _ hh_ (fun hHeld => ?_)
   clear hK K; refine nm1 23 ?_
   (iterate 11 refine pi ?_)
   refine pu 26 (bs 34 100663295) ?_; refine pu 27 (bs 34 234881023) ?_; refine pu 28 (bs 34 503316479) ?_; refine pu 29 (bs 34 1040187391) ?_; refine tk 25 (bs 34 1073741823) hHeld ?_; refine tk 30 (bs 34 2147483647) hHeld ?_; refine pu 31 (bs 34 4294967295) ?_; refine pu 32 (bs 34 8589934591) ?_; refine pu 33 (bs 34 17179869183) ?_; refine done_ (done_of HT_.out (by kernel_rfl)) ?_
   try go_wp2
   go_roundg k1
   case measure => have := HK1.out; omega
   case rel => exact ⟨(wrap64 (x3_1 + 1)), r3_, H, ⟨by have := HK1.out; omega⟩, ⟨bl_⟩⟩

end Go.Proofs.YtbgmmcngkdhpcaaDoor.P
