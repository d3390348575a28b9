/- The walks of the functions that these statements reach: each Go function as a plain Lean function, and the proof that its call comes to that. Written by the session's program wip/pp.py. -/
import Derived.Test.YtbgmmcngkdhpcaaDoorP0
import Derived.Test.YtbgmmcngkdhpcaaDoorP21
namespace Go.Proofs.YtbgmmcngkdhpcaaDoor.P
open Go.Proofs.YtbgmmcngkdhpcaaDoor
open Go.RowKit Go.Proofs.YtbgmmcngkdhpcaaDoorW.PrintWords Go.Proofs.YtbgmmcngkdhpcaaDoorW.PrintLast Go.Proofs.YtbgmmcngkdhpcaaDoorW.PrintMore
attribute [local go_sem] cell_isSome max2_int min2_int max_two min_two max_three min_three max_four min_four   -- for this text's walks alone
set_option linter.unusedVariables false
set_option linter.unusedSimpArgs false
set_option maxHeartbeats 8000000
set_option maxRecDepth 100000

/-! ### quillref12_Mate: function 86 -/
mutual
def quillref12_Mate.j0 : Nat → List Int → Int → Int → Int → Option (Int)
  | 0, _, _, _, _ => none
  | k + 1, x0, x1, x5, x7 => quillref12_Mate.l0 k x0 x5 x7 0 x1
def quillref12_Mate.l0 : Nat → List Int → Int → Int → Int → Int → Option (Int)
  | 0, _, _, _, _, _ => none
  | k + 1, x0, x5, x7, x8, x9 => if x9 ≥ 0 then (quillref12_Mate.j2 k x0 x5 x7 x8 x9 (decide (x9 < (x0.length : Int)))) else (quillref12_Mate.j2 k x0 x5 x7 x8 x9 false)
def quillref12_Mate.j2 : Nat → List Int → Int → Int → Int → Int → Bool → Option (Int)
  | 0, _, _, _, _, _, _ => none
  | k + 1, x0, x5, x7, x8, x9, x34 => if x34 = true then (if 0 ≤ x9 then (if x9 < (x0.length : Int) then ((quillref12_opens.f).bind fun t533 => (if 0 ≤ x5 then (if x5 < (t533.length : Int) then (if (rd x0 x9) = (rd t533 x5) then (quillref12_Mate.j3 k x0 x5 x7 (wrap64 (x8 + x7)) x9) else (quillref12_Mate.j3 k x0 x5 x7 x8 x9)) else (none)) else (none))) else (none)) else (none)) else (some (-1))
def quillref12_Mate.j3 : Nat → List Int → Int → Int → Int → Int → Option (Int)
  | 0, _, _, _, _, _ => none
  | k + 1, x0, x5, x7, x8, x9 => if 0 ≤ x9 then (if x9 < (x0.length : Int) then ((quillref12_shuts.f).bind fun t538 => (if 0 ≤ x5 then (if x5 < (t538.length : Int) then (if (rd x0 x9) = (rd t538 x5) then (if (wrap64 (x8 - x7)) = 0 then (some x9) else (quillref12_Mate.l0 k x0 x5 x7 (wrap64 (x8 - x7)) (wrap64 (x9 + x7)))) else (if x8 = 0 then (some x9) else (quillref12_Mate.l0 k x0 x5 x7 x8 (wrap64 (x9 + x7))))) else (none)) else (none))) else (none)) else (none)
end
def quillref12_Mate.f (k : Nat) (l0 : List Int) (a1 : Int) : Option (Int) := if a1 ≥ (l0.length : Int) then (some (-1)) else (if 0 ≤ a1 then (if a1 < (l0.length : Int) then ((quillref12_bracket.f k (rd l0 a1)).bind fun bt530 => (if bt530.1 < 0 then (some (-1)) else (if bt530.2 = true then (quillref12_Mate.j0 k l0 a1 bt530.1 1) else (quillref12_Mate.j0 k l0 a1 bt530.1 (-1))))) else (none)) else (none))
def quillref12_Mate.T13 : Bool × List (List Nat × List Nat) := (true, [([], []), ([], []), ([0, 1], [0, 1]), ([2], [2]), ([], []), ([], []), ([4, 5], [4, 5]), ([6], [6]), ([3, 7], [3, 7])])
def quillref12_Mate.B13 : List Nat := [0, 0, 3, 7, 0, 0, 48, 112, 255]
theorem quillref12_Mate.tab13 : rtab .any (opsOf Tryd.f86 13) = quillref12_Mate.T13 := by kernel_rfl
theorem quillref12_Mate.bits13 : waitsOk quillref12_Mate.T13.2 quillref12_Mate.B13 = true := by kernel_rfl
def quillref12_Mate.T15 : Bool × List (List Nat × List Nat) := (true, [([], []), ([], []), ([0, 1], [0, 1]), ([2], [2]), ([], []), ([], []), ([4, 5], [4, 5]), ([6], [6]), ([3, 7], [3, 7])])
def quillref12_Mate.B15 : List Nat := [0, 0, 3, 7, 0, 0, 48, 112, 255]
theorem quillref12_Mate.tab15 : rtab .any (opsOf Tryd.f86 15) = quillref12_Mate.T15 := by kernel_rfl
theorem quillref12_Mate.bits15 : waitsOk quillref12_Mate.T15.2 quillref12_Mate.B15 = true := by kernel_rfl
theorem quillref12_Mate.calls {k : Nat} {A0 : Option Addr} {c0 : Nat} {l0 : List Int} {a1 : Int} {r : Int} {w : World} (hr0 : Kd.C (Kd.int .i32) w A0 l0.length l0) (hc0 : l0.length ≤ c0) (H : quillref12_Mate.f k l0 a1 = some r) :
  Calls Tryd.prog 86 #[.slice A0 l0.length c0, .int .i64 a1] w fun e w' => e = .returned (.int .i64 r) ∧ Below w.heap.size w w' := by
 have HR0 := Aside0.mk hr0; have HC0 := Aside0.mk hc0; clear hr0 hc0; have HB := Aside0.mk (Below.refl w.heap.size w); unfold quillref12_Mate.f at H; replace H := ifd H; obtain ⟨c3b0, H⟩ | ⟨c3b0, H⟩ := H
 ·
  obtain rfl := Option.some.inj H; go_enter Tryd.func86, Tryd.ntmps86
  go_wp2; go_ret
  exact ⟨rr_, bl_⟩
 replace H := ifq H; obtain ⟨c4b0, c5b0, H⟩ := H; replace H := bindA H; obtain ⟨⟨t530, t531⟩, A6, H⟩ := H; (try dsimp only at H); replace H := ifd H; obtain ⟨c7b0, H⟩ | ⟨c7b0, H⟩ := H
 ·
  obtain rfl := Option.some.inj H; obtain ⟨p529, q529, ad529, e529, hx529_0⟩ := ix_ (Kd.at_int HR0.out a1); cases e529; go_enter Tryd.func86, Tryd.ntmps86
  go_wp2_with (first | ((with_reducible refine gC 85 rfl ?_); refine goesL1 (some 19) Tryd.func85 #[.int .i32 (rd l0 a1)] rfl (map1 rfl) ?_; (with_reducible refine (quillref12_bracket.calls A6.out).mono ?_); rintro e w8 ⟨rfl, hb⟩; refine ⟨_, rfl, ?_⟩; replace HB := hB hb; (try clear hb)))
  go_ret
  exact ⟨rr_, bl_⟩
 have HC9 := Aside0.mk H; clear H; obtain ⟨p529, q529, ad529, e529, hx529_0⟩ := ix_ (Kd.at_int HR0.out a1); cases e529; go_enter Tryd.func86, Tryd.ntmps86
 go_upto_if 25 with (first | ((with_reducible refine gC 85 rfl ?_); refine goesL1 (some 19) Tryd.func85 #[.int .i32 (rd l0 a1)] rfl (map1 rfl) ?_; (with_reducible refine (quillref12_bracket.calls A6.out).mono ?_); rintro e w10 ⟨rfl, hb⟩; refine ⟨_, rfl, ?_⟩; replace HB := hB hb; (try clear hb)))
 (try simp only [Act.put, List.setIfInBounds_toArray, List.set_cons_zero, List.set_cons_succ])
 go_cut [7] (fun v7 wc => ∃ (kq : Nat) (x7_8 : Int), v7 = .int .i64 x7_8 ∧ Aside0 (quillref12_Mate.j0 kq l0 a1 t530 x7_8 = some r) ∧ Aside0 (kq ≤ k) ∧ Aside0 (Below w.heap.size w wc))
 case first =>
  obtain ⟨H⟩ := HC9; replace H := ifb H; obtain ⟨rfl, H⟩ | ⟨rfl, H⟩ := H
  ·
   replace H := Aside0.mk H; go_wp2; go_meet
   case rel => exact ⟨_, (1), r3_, H, ⟨ol_⟩, ⟨bl_⟩⟩
  replace H := Aside0.mk H; go_wp2; go_meet
  case rel => exact ⟨_, ((-1)), r3_, H, ⟨ol_⟩, ⟨bl_⟩⟩
 case rest =>
  clear HC9
  try clear c3b0
  try clear c4b0
  try clear c5b0
  try clear c7b0
  try clear hx529_0
  try clear p529
  try clear q529
  obtain ⟨kq, x7_8, rfl, HA, HJ8, HB⟩ := hcut
  cases kq with
  | zero => exact absurd HA.out (by simp [quillref12_Mate.j0])
  | succ kj8 =>
   obtain ⟨H⟩ := HA; simp only [quillref12_Mate.j0] at H; replace H := Aside0.mk H; go_wp2
   go_loopg [8, 9] kj8 (fun kq v8 v9 w' => ∃ (x8_2 : Int) (x9_2 : Int), v8 = .int .i64 x8_2 ∧ v9 = .int .i64 x9_2 ∧ Aside0 (quillref12_Mate.l0 kq l0 t530 x7_8 x8_2 x9_2 = some r) ∧ Aside0 (kq ≤ kj8) ∧ Aside0 (Below w.heap.size w w'))
   case atStart => exact ⟨(0), (a1), r3_, r3_, H, ⟨Nat.le_refl _⟩, ⟨bl_⟩⟩
   case round =>
    clear H
    try clear c3b0
    try clear c4b0
    try clear c5b0
    try clear c7b0
    try clear hx529_0
    try clear p529
    try clear q529
    obtain ⟨x8_2, x9_2, rfl, rfl, HA, HK2, HB⟩ := hrel
    cases gk with
    | zero => exact absurd HA.out (by simp [quillref12_Mate.l0])
    | succ k2 =>
     obtain ⟨H⟩ := HA; simp only [quillref12_Mate.l0] at H; have HC12 := Aside0.mk H; clear H
     go_upto_region 11 with (fail)
     go_cut [34] (fun v34 wc => ∃ (kq : Nat) (x34_11 : Bool), v34 = .bool x34_11 ∧ Aside0 (quillref12_Mate.j2 kq l0 t530 x7_8 x8_2 x9_2 x34_11 = some r) ∧ Aside0 (kq ≤ k2) ∧ Aside0 (Below w.heap.size w wc))
     case first =>
      obtain ⟨H⟩ := HC12; replace H := nfd H; obtain ⟨c13b0, H⟩ | ⟨c13b0, H⟩ := H
      ·
       (first | rw [c13b0] | (simp only [i64_w, i32_w]; rw [c13b0]) | skip); replace H := Aside0.mk H; go_wp2; go_meet
       case rel => exact ⟨_, (false), r3_, H, ⟨by have := HJ8.out; have := HK2.out; first | omega | exact Nat.le_refl _⟩, ⟨bl_⟩⟩
      (first | rw [c13b0] | (simp only [i64_w, i32_w]; rw [c13b0]) | skip); replace H := Aside0.mk H; go_wp2; go_meet
      case rel => exact ⟨_, (decide (x9_2 < (l0.length : Int))), r3_, H, ⟨by have := HJ8.out; have := HK2.out; first | omega | exact Nat.le_refl _⟩, ⟨bl_⟩⟩
     case rest =>
      clear HC12
      try clear c3b0
      try clear c4b0
      try clear c5b0
      try clear c7b0
      try clear hx529_0
      try clear p529
      try clear q529
      obtain ⟨kq, x34_11, rfl, HA, HJ11, HB⟩ := hcut
      cases kq with
      | zero => exact absurd HA.out (by simp [quillref12_Mate.j2])
      | succ kj11 =>
       obtain ⟨H⟩ := HA; simp only [quillref12_Mate.j2] at H; replace H := nfb H; obtain ⟨rfl, H⟩ | ⟨rfl, H⟩ := H
       ·
        obtain rfl := Option.some.inj H; go_wp2; go_ret
        exact ⟨rr_, bl_⟩
       replace H := ifq H; obtain ⟨c15b0, c16b0, H⟩ := H; replace H := bindA H; obtain ⟨t533, A17, H⟩ := H; (try dsimp only at H); replace H := ifq H; obtain ⟨c18b0, c19b0, H⟩ := H; have HC20 := Aside0.mk H; clear H
       try go_wp2
       replace HB := Aside0.mk (below_drew1 HB.out); have p532 := od_ (0 ≤ (x9_2 : Int)); have q532 := od_ (x9_2 < (l0.length : Int)); obtain ⟨ad532, e532, hx532_0⟩ := Kd.at_int HR0.out x9_2 p532 q532; have hw532_0 := hx532_0; obtain rfl : ad529 = ad532 := (by injection e532); replace hx532_0 := hb_ HB hx532_0; replace p532 := eq_true p532; replace q532 := eq_true q532
       refine start_ (n := 9) (S := fun w' => w'.cell? (ad529.add (x9_2).toNat) = some (.int .i32 (rd l0 x9_2))) (ds := []) (lo 9 0) (by kernel_rfl) rfl rfl (hb_ HB hw532_0) (fun hHeld => ?_); refine with_tabW quillref12_Mate.tab13 quillref12_Mate.bits13 (fun HT_ HW_ => ?_)
       generalize wc.drew = w21 at HB hx532_0 hHeld ⊢
       (iterate 3 refine pi ?_)
       refine pu 5 (bs 9 39) ?_
       refine take_ (i := 3) (N := some 41) (v := ?_) (a' := ?_) (bs 9 47) rfl rfl (take_ofW HT_.out HW_.out (by kernel_rfl)) (fun _ _ _ h => h) (Or.inl ⟨by rfl, ?_⟩) hHeld ?_ ?_
       rotate_left
       ·
        intro w' s0
        go_simp
        with_reducible rfl
       rotate_left
       · simp only [Act.put, List.setIfInBounds_toArray, List.set_cons_zero, List.set_cons_succ, i64_w, i32_w]; rfl
       refine one_ (i := 4) (N := some 42) (bs 9 63) rfl rfl (one_of HT_.out (by kernel_rfl)) (by decide) (fun K hK => ?_)
       refine goes_ Tryd.func110 (by kernel_rfl) rfl #[] (by rfl) rfl rfl (by (try simp only [List.map_toArray, List.map_cons, List.map_nil]); first | done | rfl | (simp only [List.length_drop, List.length_take]; rfl)) ?_
       with_reducible refine (quillref12_opens.calls A17.out).mono ?_
       rintro e w22 ⟨v534, rfl, ho0, hb⟩
       refine ⟨_, rfl, ?_⟩; have n0_ := Aside0.mk (Kd.R_lower ho0 (below_size bl_)); have n1_ := hB hb; clear HB; have HO535 := n0_; have HB := n1_; clear n0_ n1_; (try clear hb); (try clear hb2); (try clear hk); (try clear hi); (try clear ho0); obtain ⟨Ao23, co23, eo23⟩ := Kd.R_slice HO535.out; (first | subst eo23 | (injection eo23 with f1_ f2_ f3_; have f4_ := f1_.symm; have f5_ := f3_.symm; clear f1_ f2_ f3_; subst f4_; subst f5_))
       obtain ⟨p536, q536, ad536, e536, hx536_0⟩ := ix_ (Kd.at_int (Kd.R_reads' HO535.out).2.2 t530); cases e536
       refine hK.out _ _ hh_ (fun hHeld => ?_)
       clear hK K; refine nm1 42 ?_; refine pu 6 (bs 9 127) ?_
       refine one_ (i := 7) (N := some 45) (bs 9 255) rfl rfl (one_of HT_.out (by kernel_rfl)) (by decide) (fun K hK => ?_)
       refine yields_here (v := ?_) (by rfl) rfl ?_ ?_; rotate_left
       ·
        go_simp
        with_reducible rfl
       refine hK.out _ _ hh_ (fun hHeld => ?_)
       clear hK K; refine nm1 45 ?_; refine pu 8 (bs 9 511) ?_; refine done_ (done_of HT_.out (by kernel_rfl)) ?_
       go_upto_if 46 with (fail)
       go_cut [8] (fun v8 wc => ∃ (kq : Nat) (x8_19 : Int), v8 = .int .i64 x8_19 ∧ Aside0 (quillref12_Mate.j3 kq l0 t530 x7_8 x8_19 x9_2 = some r) ∧ Aside0 (kq ≤ kj11) ∧ Aside0 (Below w.heap.size w wc))
       case first =>
        obtain ⟨H⟩ := HC20; replace H := nfe H; obtain ⟨c24b0, c24b1, H⟩ | ⟨c24b0, c24b1, H⟩ := H
        ·
         (first | rw [c24b0] | (simp only [i64_w, i32_w]; rw [c24b0]) | skip); replace H := Aside0.mk H; go_wp2; go_meet
         case rel => exact ⟨_, (x8_2), r3_, H, ⟨by have := HJ8.out; have := HK2.out; have := HJ11.out; first | omega | exact Nat.le_refl _⟩, ⟨bl_⟩⟩
        (first | rw [c24b0] | (simp only [i64_w, i32_w]; rw [c24b0]) | skip); replace H := Aside0.mk H; go_wp2; go_meet
        case rel => exact ⟨_, (wrap64 (x8_2 + x7_8)), r3_, H, ⟨by have := HJ8.out; have := HK2.out; have := HJ11.out; first | omega | exact Nat.le_refl _⟩, ⟨bl_⟩⟩
       case rest =>
        clear HC20
        try clear c3b0
        try clear c4b0
        try clear c5b0
        try clear c7b0
        try clear c15b0
        try clear c16b0
        try clear c18b0
        try clear c19b0
        try clear hx529_0
        try clear hx532_0
        try clear hx536_0
        try clear p529
        try clear p532
        try clear p536
        try clear q529
        try clear q532
        try clear q536
        obtain ⟨kq, x8_19, rfl, HA, HJ19, HB⟩ := hcut
        cases kq with
        | zero => exact absurd HA.out (by simp [quillref12_Mate.j3])
        | succ kj19 =>
         obtain ⟨H⟩ := HA; simp only [quillref12_Mate.j3] at H; replace H := ifq H; obtain ⟨c25b0, c26b0, H⟩ := H; replace H := bindA H; obtain ⟨t538, A27, H⟩ := H; (try dsimp only at H); replace H := ifq H; obtain ⟨c28b0, c29b0, H⟩ := H; replace H := nfe H; obtain ⟨c30b0, c30b1, H⟩ | ⟨c30b0, c30b1, H⟩ := H
         ·
          replace H := ife H; obtain ⟨c38b0, c38b1, H⟩ | ⟨c38b0, c38b1, H⟩ := H
          ·
           obtain rfl := Option.some.inj H
           try go_wp2
           replace HB := Aside0.mk (below_drew1 HB.out); have p537 := od_ (0 ≤ (x9_2 : Int)); have q537 := od_ (x9_2 < (l0.length : Int)); obtain ⟨ad537, e537, hx537_0⟩ := Kd.at_int HR0.out x9_2 p537 q537; have hw537_0 := hx537_0; obtain rfl : ad529 = ad537 := (by injection e537); replace hx537_0 := hb_ HB hx537_0; replace p537 := eq_true p537; replace q537 := eq_true q537
           refine start_ (n := 9) (S := fun w' => w'.cell? (ad529.add (x9_2).toNat) = some (.int .i32 (rd l0 x9_2))) (ds := []) (lo 9 0) (by kernel_rfl) rfl rfl (hb_ HB hw537_0) (fun hHeld => ?_); refine with_tabW quillref12_Mate.tab15 quillref12_Mate.bits15 (fun HT_ HW_ => ?_)
           generalize wc.drew = w39 at HB hx537_0 hHeld ⊢
           (iterate 3 refine pi ?_)
           refine pu 5 (bs 9 39) ?_
           refine take_ (i := 3) (N := some 53) (v := ?_) (a' := ?_) (bs 9 47) rfl rfl (take_ofW HT_.out HW_.out (by kernel_rfl)) (fun _ _ _ h => h) (Or.inl ⟨by rfl, ?_⟩) hHeld ?_ ?_
           rotate_left
           ·
            intro w' s0
            go_simp
            with_reducible rfl
           rotate_left
           · simp only [Act.put, List.setIfInBounds_toArray, List.set_cons_zero, List.set_cons_succ, i64_w, i32_w]; rfl
           refine one_ (i := 4) (N := some 54) (bs 9 63) rfl rfl (one_of HT_.out (by kernel_rfl)) (by decide) (fun K hK => ?_)
           refine goes_ Tryd.func111 (by kernel_rfl) rfl #[] (by rfl) rfl rfl (by (try simp only [List.map_toArray, List.map_cons, List.map_nil]); first | done | rfl | (simp only [List.length_drop, List.length_take]; rfl)) ?_
           with_reducible refine (quillref12_shuts.calls A27.out).mono ?_
           rintro e w40 ⟨v539, rfl, ho0, hb⟩
           refine ⟨_, rfl, ?_⟩; have n0_ := Aside0.mk (Kd.R_lower ho0 (below_size bl_)); have n1_ := hB hb; clear HB; have HO540 := n0_; have HB := n1_; clear n0_ n1_; (try clear hb); (try clear hb2); (try clear hk); (try clear hi); (try clear ho0); obtain ⟨Ao41, co41, eo41⟩ := Kd.R_slice HO540.out; (first | subst eo41 | (injection eo41 with f1_ f2_ f3_; have f4_ := f1_.symm; have f5_ := f3_.symm; clear f1_ f2_ f3_; subst f4_; subst f5_))
           obtain ⟨p541, q541, ad541, e541, hx541_0⟩ := ix_ (Kd.at_int (Kd.R_reads' HO540.out).2.2 t530); cases e541
           refine hK.out _ _ hh_ (fun hHeld => ?_)
           clear hK K; refine nm1 54 ?_; refine pu 6 (bs 9 127) ?_
           refine one_ (i := 7) (N := some 57) (bs 9 255) rfl rfl (one_of HT_.out (by kernel_rfl)) (by decide) (fun K hK => ?_)
           refine yields_here (v := ?_) (by rfl) rfl ?_ ?_; rotate_left
           ·
            go_simp
            with_reducible rfl
           refine hK.out _ _ hh_ (fun hHeld => ?_)
           clear hK K; refine nm1 57 ?_; refine pu 8 (bs 9 511) ?_; refine done_ (done_of HT_.out (by kernel_rfl)) ?_
           try go_wp2
           go_ret
           exact ⟨rr_, bl_⟩
          replace H := Aside0.mk H
          try go_wp2
          replace HB := Aside0.mk (below_drew1 HB.out); have p537 := od_ (0 ≤ (x9_2 : Int)); have q537 := od_ (x9_2 < (l0.length : Int)); obtain ⟨ad537, e537, hx537_0⟩ := Kd.at_int HR0.out x9_2 p537 q537; have hw537_0 := hx537_0; obtain rfl : ad529 = ad537 := (by injection e537); replace hx537_0 := hb_ HB hx537_0; replace p537 := eq_true p537; replace q537 := eq_true q537
          refine start_ (n := 9) (S := fun w' => w'.cell? (ad529.add (x9_2).toNat) = some (.int .i32 (rd l0 x9_2))) (ds := []) (lo 9 0) (by kernel_rfl) rfl rfl (hb_ HB hw537_0) (fun hHeld => ?_); refine with_tabW quillref12_Mate.tab15 quillref12_Mate.bits15 (fun HT_ HW_ => ?_)
          generalize wc.drew = w42 at HB hx537_0 hHeld ⊢
          (iterate 3 refine pi ?_)
          refine pu 5 (bs 9 39) ?_
          refine take_ (i := 3) (N := some 53) (v := ?_) (a' := ?_) (bs 9 47) rfl rfl (take_ofW HT_.out HW_.out (by kernel_rfl)) (fun _ _ _ h => h) (Or.inl ⟨by rfl, ?_⟩) hHeld ?_ ?_
          rotate_left
          ·
           intro w' s0
           go_simp
           with_reducible rfl
          rotate_left
          · simp only [Act.put, List.setIfInBounds_toArray, List.set_cons_zero, List.set_cons_succ, i64_w, i32_w]; rfl
          refine one_ (i := 4) (N := some 54) (bs 9 63) rfl rfl (one_of HT_.out (by kernel_rfl)) (by decide) (fun K hK => ?_)
          refine goes_ Tryd.func111 (by kernel_rfl) rfl #[] (by rfl) rfl rfl (by (try simp only [List.map_toArray, List.map_cons, List.map_nil]); first | done | rfl | (simp only [List.length_drop, List.length_take]; rfl)) ?_
          with_reducible refine (quillref12_shuts.calls A27.out).mono ?_
          rintro e w43 ⟨v539, rfl, ho0, hb⟩
          refine ⟨_, rfl, ?_⟩; have n0_ := Aside0.mk (Kd.R_lower ho0 (below_size bl_)); have n1_ := hB hb; clear HB; have HO540 := n0_; have HB := n1_; clear n0_ n1_; (try clear hb); (try clear hb2); (try clear hk); (try clear hi); (try clear ho0); obtain ⟨Ao44, co44, eo44⟩ := Kd.R_slice HO540.out; (first | subst eo44 | (injection eo44 with f1_ f2_ f3_; have f4_ := f1_.symm; have f5_ := f3_.symm; clear f1_ f2_ f3_; subst f4_; subst f5_))
          obtain ⟨p541, q541, ad541, e541, hx541_0⟩ := ix_ (Kd.at_int (Kd.R_reads' HO540.out).2.2 t530); cases e541
          refine hK.out _ _ hh_ (fun hHeld => ?_)
          clear hK K; refine nm1 54 ?_; refine pu 6 (bs 9 127) ?_
          refine one_ (i := 7) (N := some 57) (bs 9 255) rfl rfl (one_of HT_.out (by kernel_rfl)) (by decide) (fun K hK => ?_)
          refine yields_here (v := ?_) (by rfl) rfl ?_ ?_; rotate_left
          ·
           go_simp
           with_reducible rfl
          refine hK.out _ _ hh_ (fun hHeld => ?_)
          clear hK K; refine nm1 57 ?_; refine pu 8 (bs 9 511) ?_; refine done_ (done_of HT_.out (by kernel_rfl)) ?_
          try go_wp2
          go_roundg kj19
          case measure => have := HJ8.out; have := HK2.out; have := HJ11.out; have := HJ19.out; omega
          case rel => exact ⟨(x8_19), (wrap64 (x9_2 + x7_8)), r3_, r3_, H, ⟨by have := HJ8.out; have := HK2.out; have := HJ11.out; have := HJ19.out; omega⟩, ⟨bl_⟩⟩
         replace H := ife H; obtain ⟨c31b0, c31b1, H⟩ | ⟨c31b0, c31b1, H⟩ := H
         ·
          obtain rfl := Option.some.inj H
          try go_wp2
          replace HB := Aside0.mk (below_drew1 HB.out); have p537 := od_ (0 ≤ (x9_2 : Int)); have q537 := od_ (x9_2 < (l0.length : Int)); obtain ⟨ad537, e537, hx537_0⟩ := Kd.at_int HR0.out x9_2 p537 q537; have hw537_0 := hx537_0; obtain rfl : ad529 = ad537 := (by injection e537); replace hx537_0 := hb_ HB hx537_0; replace p537 := eq_true p537; replace q537 := eq_true q537
          refine start_ (n := 9) (S := fun w' => w'.cell? (ad529.add (x9_2).toNat) = some (.int .i32 (rd l0 x9_2))) (ds := []) (lo 9 0) (by kernel_rfl) rfl rfl (hb_ HB hw537_0) (fun hHeld => ?_); refine with_tabW quillref12_Mate.tab15 quillref12_Mate.bits15 (fun HT_ HW_ => ?_)
          generalize wc.drew = w32 at HB hx537_0 hHeld ⊢
          (iterate 3 refine pi ?_)
          refine pu 5 (bs 9 39) ?_
          refine take_ (i := 3) (N := some 53) (v := ?_) (a' := ?_) (bs 9 47) rfl rfl (take_ofW HT_.out HW_.out (by kernel_rfl)) (fun _ _ _ h => h) (Or.inl ⟨by rfl, ?_⟩) hHeld ?_ ?_
          rotate_left
          ·
           intro w' s0
           go_simp
           with_reducible rfl
          rotate_left
          · simp only [Act.put, List.setIfInBounds_toArray, List.set_cons_zero, List.set_cons_succ, i64_w, i32_w]; rfl
          refine one_ (i := 4) (N := some 54) (bs 9 63) rfl rfl (one_of HT_.out (by kernel_rfl)) (by decide) (fun K hK => ?_)
          refine goes_ Tryd.func111 (by kernel_rfl) rfl #[] (by rfl) rfl rfl (by (try simp only [List.map_toArray, List.map_cons, List.map_nil]); first | done | rfl | (simp only [List.length_drop, List.length_take]; rfl)) ?_
          with_reducible refine (quillref12_shuts.calls A27.out).mono ?_
          rintro e w33 ⟨v539, rfl, ho0, hb⟩
          refine ⟨_, rfl, ?_⟩; have n0_ := Aside0.mk (Kd.R_lower ho0 (below_size bl_)); have n1_ := hB hb; clear HB; have HO540 := n0_; have HB := n1_; clear n0_ n1_; (try clear hb); (try clear hb2); (try clear hk); (try clear hi); (try clear ho0); obtain ⟨Ao34, co34, eo34⟩ := Kd.R_slice HO540.out; (first | subst eo34 | (injection eo34 with f1_ f2_ f3_; have f4_ := f1_.symm; have f5_ := f3_.symm; clear f1_ f2_ f3_; subst f4_; subst f5_))
          obtain ⟨p541, q541, ad541, e541, hx541_0⟩ := ix_ (Kd.at_int (Kd.R_reads' HO540.out).2.2 t530); cases e541
          refine hK.out _ _ hh_ (fun hHeld => ?_)
          clear hK K; refine nm1 54 ?_; refine pu 6 (bs 9 127) ?_
          refine one_ (i := 7) (N := some 57) (bs 9 255) rfl rfl (one_of HT_.out (by kernel_rfl)) (by decide) (fun K hK => ?_)
          refine yields_here (v := ?_) (by rfl) rfl ?_ ?_; rotate_left
          ·
           go_simp
           with_reducible rfl
          refine hK.out _ _ hh_ (fun hHeld => ?_)
          clear hK K; refine nm1 57 ?_; refine pu 8 (bs 9 511) ?_; refine done_ (done_of HT_.out (by kernel_rfl)) ?_
          try go_wp2
          go_ret
          exact ⟨rr_, bl_⟩
         replace H := Aside0.mk H
         try go_wp2
         replace HB := Aside0.mk (below_drew1 HB.out); have p537 := od_ (0 ≤ (x9_2 : Int)); have q537 := od_ (x9_2 < (l0.length : Int)); obtain ⟨ad537, e537, hx537_0⟩ := Kd.at_int HR0.out x9_2 p537 q537; have hw537_0 := hx537_0; obtain rfl : ad529 = ad537 := (by injection e537); replace hx537_0 := hb_ HB hx537_0; replace p537 := eq_true p537; replace q537 := eq_true q537
         refine start_ (n := 9) (S := fun w' => w'.cell? (ad529.add (x9_2).toNat) = some (.int .i32 (rd l0 x9_2))) (ds := []) (lo 9 0) (by kernel_rfl) rfl rfl (hb_ HB hw537_0) (fun hHeld => ?_); refine with_tabW quillref12_Mate.tab15 quillref12_Mate.bits15 (fun HT_ HW_ => ?_)
         generalize wc.drew = w35 at HB hx537_0 hHeld ⊢
         (iterate 3 refine pi ?_)
         refine pu 5 (bs 9 39) ?_
         refine take_ (i := 3) (N := some 53) (v := ?_) (a' := ?_) (bs 9 47) rfl rfl (take_ofW HT_.out HW_.out (by kernel_rfl)) (fun _ _ _ h => h) (Or.inl ⟨by rfl, ?_⟩) hHeld ?_ ?_
         rotate_left
         ·
          intro w' s0
          go_simp
          with_reducible rfl
         rotate_left
         · simp only [Act.put, List.setIfInBounds_toArray, List.set_cons_zero, List.set_cons_succ, i64_w, i32_w]; rfl
         refine one_ (i := 4) (N := some 54) (bs 9 63) rfl rfl (one_of HT_.out (by kernel_rfl)) (by decide) (fun K hK => ?_)
         refine goes_ Tryd.func111 (by kernel_rfl) rfl #[] (by rfl) rfl rfl (by (try simp only [List.map_toArray, List.map_cons, List.map_nil]); first | done | rfl | (simp only [List.length_drop, List.length_take]; rfl)) ?_
         with_reducible refine (quillref12_shuts.calls A27.out).mono ?_
         rintro e w36 ⟨v539, rfl, ho0, hb⟩
         refine ⟨_, rfl, ?_⟩; have n0_ := Aside0.mk (Kd.R_lower ho0 (below_size bl_)); have n1_ := hB hb; clear HB; have HO540 := n0_; have HB := n1_; clear n0_ n1_; (try clear hb); (try clear hb2); (try clear hk); (try clear hi); (try clear ho0); obtain ⟨Ao37, co37, eo37⟩ := Kd.R_slice HO540.out; (first | subst eo37 | (injection eo37 with f1_ f2_ f3_; have f4_ := f1_.symm; have f5_ := f3_.symm; clear f1_ f2_ f3_; subst f4_; subst f5_))
         obtain ⟨p541, q541, ad541, e541, hx541_0⟩ := ix_ (Kd.at_int (Kd.R_reads' HO540.out).2.2 t530); cases e541
         refine hK.out _ _ hh_ (fun hHeld => ?_)
         clear hK K; refine nm1 54 ?_; refine pu 6 (bs 9 127) ?_
         refine one_ (i := 7) (N := some 57) (bs 9 255) rfl rfl (one_of HT_.out (by kernel_rfl)) (by decide) (fun K hK => ?_)
         refine yields_here (v := ?_) (by rfl) rfl ?_ ?_; rotate_left
         ·
          go_simp
          with_reducible rfl
         refine hK.out _ _ hh_ (fun hHeld => ?_)
         clear hK K; refine nm1 57 ?_; refine pu 8 (bs 9 511) ?_; refine done_ (done_of HT_.out (by kernel_rfl)) ?_
         try go_wp2
         go_roundg kj19
         case measure => have := HJ8.out; have := HK2.out; have := HJ11.out; have := HJ19.out; omega
         case rel => exact ⟨(wrap64 (x8_19 - x7_8)), (wrap64 (x9_2 + x7_8)), r3_, r3_, H, ⟨by have := HJ8.out; have := HK2.out; have := HJ11.out; have := HJ19.out; omega⟩, ⟨bl_⟩⟩

end Go.Proofs.YtbgmmcngkdhpcaaDoor.P
