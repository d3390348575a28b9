/- The walks of the functions that these statements reach: each Go function as a plain Lean function, and the proof that its call comes to that. Written by the session's program wip/pp.py. -/
import Derived.Test.YtbgmmcngkdhpcaaDoorP0
namespace Go.Proofs.YtbgmmcngkdhpcaaDoor.P
open Go.Proofs.YtbgmmcngkdhpcaaDoor
open Go.RowKit Go.Proofs.YtbgmmcngkdhpcaaDoorW.PrintWords Go.Proofs.YtbgmmcngkdhpcaaDoorW.PrintLast Go.Proofs.YtbgmmcngkdhpcaaDoorW.PrintMore
attribute [local go_sem] cell_isSome max2_int min2_int max_two min_two max_three min_three max_four min_four   -- for this text's walks alone
set_option linter.unusedVariables false
set_option linter.unusedSimpArgs false
set_option maxHeartbeats 8000000
set_option maxRecDepth 100000

/-! ### quilllaw16_num: function 19 -/
def quilllaw16_num.f (a0 : Int) : Option (Int) := some a0
theorem quilllaw16_num.calls {a0 : Int} {r : Int} {w : World} (H : quilllaw16_num.f a0 = some r) :
  Calls Tryd.prog 19 #[.int .i64 a0] w fun e w' => e = .returned (.int .i64 r) ∧ Drawn0 w w' := by
 unfold quilllaw16_num.f at H; obtain rfl := Option.some.inj H; go_enter Tryd.func19, Tryd.ntmps19
 go_wp2; go_ret
 exact ⟨r3_, dr_⟩

/-! ### quillref0_CopyMarks: function 35 -/
def quillref0_CopyMarks.l0 : Nat → List (S89) → List (S89) → Int → Option ((List (S89)))
  | 0, _, _, _ => none
  | k + 1, x0, x3, x4 => if x4 < (x0.length : Int) then (if 0 ≤ x4 then (if x3.length < 8796093022208 then (quillref0_CopyMarks.l0 k x0 (x3 ++ [(⟨(rd_T89 x0 x4).f0, (rd_T89 x0 x4).f1⟩ : S89)]) (wrap64 (x4 + 1))) else (none)) else (none)) else (some x3)
def quillref0_CopyMarks.f (k : Nat) (l0 : List (S89)) : Option ((List (S89))) := quillref0_CopyMarks.l0 k l0 ([] : List (S89)) 0
theorem quillref0_CopyMarks.calls {k : Nat} {A0 : Option Addr} {c0 : Nat} {l0 : List (S89)} {r : List (S89)} {w : World} (hr0 : Kd.C k89 w A0 l0.length l0) (hc0 : l0.length ≤ c0) (H : quillref0_CopyMarks.f k l0 = some r) :
  Calls Tryd.prog 35 #[.slice A0 l0.length c0] w fun e w' => ∃ v0_ : Value, e = .returned (v0_) ∧ Kd.R k89 89 w' w.heap.size (fun _ => True) v0_ r ∧ Below w.heap.size w w' := by
 have hu89 := Tryd.underlying89; have HR0 := Aside0.mk hr0; have HC0 := Aside0.mk hc0; clear hr0 hc0; have HB := Aside0.mk (Below.refl w.heap.size w); unfold quillref0_CopyMarks.f at H; replace H := Aside0.mk H; go_enter Tryd.func35, Tryd.ntmps35
 go_wp2
 go_loopg [3, 4] k (fun kq v3 v4 w' => ∃ (x3_1 : List (S89)) (x4_1 : Int), v4 = .int .i64 x4_1 ∧ Aside0 (quillref0_CopyMarks.l0 kq l0 x3_1 x4_1 = some r) ∧ Aside0 (kq ≤ k) ∧ Aside0 (Kd.R k89 89 w' w.heap.size (fun _ => True) v3 x3_1) ∧ Aside0 (Below w.heap.size w w'))
 case atStart => exact ⟨(([] : List (S89))), (0), r3_, H, ⟨Nat.le_refl _⟩, ⟨by first | exact Kd.R_nil _ _ _ _ _ | exact Kd.N_nil _ _ _ _ _ | exact Kd.V_nil _ _ _ _ _ | exact Kd.Q_nil _ _ _ _ _ | exact Kd.S_nil _ _ _ _ _⟩, ⟨bl_⟩⟩
 case round =>
  clear H; obtain ⟨x3_1, x4_1, rfl, HA, HK1, HO_3, HB⟩ := hrel
  cases gk with
  | zero => exact absurd HA.out (by simp [quillref0_CopyMarks.l0])
  | succ k1 =>
   obtain ⟨H⟩ := HA; simp only [quillref0_CopyMarks.l0] at H; replace H := nfd H; obtain ⟨c2b0, H⟩ | ⟨c2b0, H⟩ := H
   ·
    obtain rfl := Option.some.inj H; go_wp2; go_ret
    exact ⟨_, by first | rfl | (simp [errW_none, errW_some] <;> rfl) | (simp [*, errW_none, errW_some] <;> rfl), ro_ HO_3, bl_⟩
   replace H := ifdn H; obtain ⟨c3b0, H⟩ := H
   by_cases c4 : x3_1.length < 8796093022208
   rotate_left
   ·
    rw [if_neg c4] at H
    exact absurd H (by simp)
   rw [if_pos c4] at H; have LMc4 := Aside0.mk c4; clear c4; obtain ⟨y413, hy413⟩ : ∃ y_ : List (S89), y_ = (x3_1 ++ [(⟨(rd_T89 l0 x4_1).f0, (rd_T89 l0 x4_1).f1⟩ : S89)]) := ⟨_, rfl⟩
   replace H : (quillref0_CopyMarks.l0 k1 l0 y413 (wrap64 (x4_1 + 1))) = some r := by first | (rw [hy413]; with_reducible exact H) | (have H2_ := (Option.bind_some _ _).symm.trans H; rw [hy413]; with_reducible exact H2_) | (have H2_ := (Option.bind_some _ _).symm.trans H; with_reducible exact H2_) | with_reducible exact H | (rw [hy413]; exact H) | exact H
   have Ny413 := Aside0.mk hy413; clear hy413; replace H := Aside0.mk H; obtain ⟨p412, q412, ad412, e412, hx412_0, hx412_1⟩ := ix_ (at_T89 HR0.out x4_1); cases e412; replace hx412_0 := hb_ HB hx412_0; replace hx412_1 := hb_ HB hx412_1
   go_wp2_with (first | ((with_reducible refine gate_builtin (b := .append) (xs := #[.tmp 11, .tmp 16]) rfl ?_); at_builtin; refine Kd.R_append k89 (w0 := w) w.heap.size rfl (.tmp 11) (.tmp 16) 32 89 (.agg #[(.int .i64 0), (.int .i64 0)]) 16 rfl Tryd.underlying32 info89 rfl (by decide) (by omega) u3 x3_1 (⟨(rd_T89 l0 x4_1).f0, (rd_T89 l0 x4_1).f1⟩ : S89) [.int .i64 ((rd_T89 l0 x4_1).f0), .int .i64 ((rd_T89 l0 x4_1).f1)] (fun _ => True) (fun _ => False) rfl rfl ?aP (fun _ hk => hk.elim) ?aF ?aO ?aB ?aS ?aL ?_; (case aP => exact k89_mkM _ _ _ (⟨(rd_T89 l0 x4_1).f0, (rd_T89 l0 x4_1).f1⟩ : S89)); (case aB => exact bl_); (case aF => exact (fun _ _ => trivial)); (case aO => exact (ro_ HO_3)); (case aS => exact (below_size bl_)); (case aL => have := LMc4.out; omega); intro v414 w5 ho hb hg hat; rw [← Ny413.out] at ho; have HO415 := Aside0.mk (ho); replace HB := Aside0.mk (hb); clear HO_3; clear ho hb hg hat))
   go_roundg k1
   case measure => have := HK1.out; omega
   case rel => exact ⟨(y413), (wrap64 (x4_1 + 1)), r3_, H, ⟨by have := HK1.out; omega⟩, ⟨ro_ HO415⟩, ⟨bl_⟩⟩

/-! ### quillref0_In: function 45 -/
def quillref0_In.l0 : Nat → List Int → Int → Int → Option (Int)
  | 0, _, _, _ => none
  | k + 1, x0, x1, x5 => if x5 < (x0.length : Int) then (if 0 ≤ x5 then (if (rd x0 x5) = x1 then (some x5) else (quillref0_In.l0 k x0 x1 (wrap64 (x5 + 1)))) else (none)) else (some (-1))
def quillref0_In.f (k : Nat) (l0 : List Int) (a1 : Int) : Option (Int) := quillref0_In.l0 k l0 a1 0
theorem quillref0_In.calls {k : Nat} {A0 : Option Addr} {c0 : Nat} {l0 : List Int} {a1 : Int} {r : Int} {w : World} (hr0 : Kd.C (Kd.int .i64) w A0 l0.length l0) (hc0 : l0.length ≤ c0) (H : quillref0_In.f k l0 a1 = some r) :
  Calls Tryd.prog 45 #[.slice A0 l0.length c0, .int .i64 a1] w fun e w' => e = .returned (.int .i64 r) ∧ Drawn0 w w' := by
 have HR0 := Aside0.mk hr0; have HC0 := Aside0.mk hc0; clear hr0 hc0; unfold quillref0_In.f at H; replace H := Aside0.mk H; go_enter Tryd.func45, Tryd.ntmps45
 go_wp2
 go_loopg [5] k (fun kq v5 w' => ∃ (x5_1 : Int), v5 = .int .i64 x5_1 ∧ Aside0 (quillref0_In.l0 kq l0 a1 x5_1 = some r) ∧ Aside0 (kq ≤ k) ∧ Drawn0 w w')
 case atStart => exact ⟨(0), r3_, H, ⟨Nat.le_refl _⟩, dr_⟩
 case round =>
  clear H; obtain ⟨x5_1, rfl, HA, HK1, ⟨m1, rfl⟩⟩ := hrel
  cases gk with
  | zero => exact absurd HA.out (by simp [quillref0_In.l0])
  | succ k1 =>
   obtain ⟨H⟩ := HA; simp only [quillref0_In.l0] at H; replace H := nfd H; obtain ⟨c3b0, H⟩ | ⟨c3b0, H⟩ := H
   ·
    obtain rfl := Option.some.inj H; go_wp2; go_ret
    exact ⟨r3_, dr_⟩
   replace H := ifdn H; obtain ⟨c4b0, H⟩ := H; replace H := ife H; obtain ⟨c5b0, c5b1, H⟩ | ⟨c5b0, c5b1, H⟩ := H
   ·
    obtain rfl := Option.some.inj H; obtain ⟨p416, q416, ad416, e416, hx416_0⟩ := ix_ (Kd.at_int HR0.out x5_1); cases e416; go_wp2; go_ret
    exact ⟨r3_, dr_⟩
   replace H := Aside0.mk H; obtain ⟨p416, q416, ad416, e416, hx416_0⟩ := ix_ (Kd.at_int HR0.out x5_1); cases e416; go_wp2
   go_roundg k1
   case measure => have := HK1.out; omega
   case rel => exact ⟨(wrap64 (x5_1 + 1)), r3_, H, ⟨by have := HK1.out; omega⟩, dr_⟩

/-! ### quillref10_Seek: function 46 -/
def quillref10_Seek.f (k : Nat) (a0 : Int) : Option (Bool) := (quillref0_In.f k (([102, 70, 116, 84] : List Int)) a0).bind fun t420 => (some (decide (t420 ≥ 0)))
theorem quillref10_Seek.calls {k : Nat} {a0 : Int} {r : Bool} {w : World} (H : quillref10_Seek.f k a0 = some r) :
  Calls Tryd.prog 46 #[.int .i64 a0] w fun e w' => e = .returned (.bool r) ∧ Below w.heap.size w w' := by
 have HB := Aside0.mk (Below.refl w.heap.size w); unfold quillref10_Seek.f at H; obtain ⟨y417, hy417⟩ : ∃ y_ : List Int, y_ = (([102, 70, 116, 84] : List Int)) := ⟨_, rfl⟩
 replace H : ((quillref0_In.f k y417 a0).bind fun t420 => (some (decide (t420 ≥ 0)))) = some r := by first | (rw [hy417]; with_reducible exact H) | (have H2_ := (Option.bind_some _ _).symm.trans H; rw [hy417]; with_reducible exact H2_) | (have H2_ := (Option.bind_some _ _).symm.trans H; with_reducible exact H2_) | with_reducible exact H | (rw [hy417]; exact H) | exact H
 have Ny417 := Aside0.mk hy417; clear hy417; replace H := bindA H; obtain ⟨t420, A2, H⟩ := H; (try dsimp only at H); obtain rfl := Option.some.inj H; go_enter Tryd.func46, Tryd.ntmps46
 go_wp2_with (first | ((with_reducible refine gN 3 rfl ?_); refine Kd.R_lit (Kd.int .i64) _ 3 ?hg (N := 3) ?hd (xs := ([102, 70, 116, 84] : List Int)) (inner := [.int .i64 102, .int .i64 70, .int .i64 116, .int .i64 84]) (ok := fun _ => True) (okp := fun _ => True) ?hr ?hp (fun _ hk => hk) trivial (Below.refl _ _) (Nat.le_refl _) (by simp) ?_; (case hd => rfl); (case hg => rfl); (case hr => first | (go_simp; done) | (go_simp; rfl)); (case hp => exact (Reps.one (show Kd.M (Kd.int .i64) _ _ _ 102 [.int .i64 102] from rfl) (Reps.one (show Kd.M (Kd.int .i64) _ _ _ 70 [.int .i64 70] from rfl) (Reps.one (show Kd.M (Kd.int .i64) _ _ _ 116 [.int .i64 116] from rfl) (Reps.one (show Kd.M (Kd.int .i64) _ _ _ 84 [.int .i64 84] from rfl) (Reps.none _ _)))))); intro v418 w3 ho4 hb hg_ hnew_; clear hg_ hnew_; (first | rw [← Ny417.out] at ho4 | (simp only [Int.reduceToNat] at ho4; rw [← Ny417.out] at ho4)); have HO419 := oL ho4; replace HB := hB hb; clear hb ho4; obtain ⟨Ao5, co5, eo5⟩ := Kd.R_slice HO419.out; subst eo5) | ((with_reducible refine gC 45 rfl ?_); refine goesL1 (some 5) Tryd.func45 #[.slice Ao5 y417.length co5, .int .i64 a0] rfl (map2 rfl rfl) ?_; refine cm_ (quillref0_In.calls sd_ sd_ A2.out) ?_; rintro e w' ⟨rfl, nd, rfl⟩; refine ⟨_, rfl, ?_⟩))
 go_ret
 exact ⟨rr_, bl_⟩

/-! ### quillref15_Asks: function 24 -/
def quillref15_Asks.f (k : Nat) (a0 : Int) : Option (Bool) := (quillref10_Seek.f k a0).bind fun t421 => (if t421 = true then (some true) else (if a0 = 39 then (some true) else (some (a0 == 96))))
theorem quillref15_Asks.calls {k : Nat} {a0 : Int} {r : Bool} {w : World} (H : quillref15_Asks.f k a0 = some r) :
  Calls Tryd.prog 24 #[.int .i64 a0] w fun e w' => e = .returned (.bool r) ∧ Below w.heap.size w w' := by
 have HB := Aside0.mk (Below.refl w.heap.size w); unfold quillref15_Asks.f at H; replace H := bindA H; obtain ⟨t421, A2, H⟩ := H; (try dsimp only at H); replace H := ifb H; obtain ⟨rfl, H⟩ | ⟨rfl, H⟩ := H
 ·
  obtain rfl := Option.some.inj H; go_enter Tryd.func24, Tryd.ntmps24
  go_wp2_with (first | ((with_reducible refine gC 46 rfl ?_); refine goesL1 (some 4) Tryd.func46 #[.int .i64 a0] rfl (map1 rfl) ?_; (with_reducible refine (quillref10_Seek.calls A2.out).mono ?_); rintro e w4 ⟨rfl, hb⟩; refine ⟨_, rfl, ?_⟩; replace HB := hB hb; (try clear hb)))
  go_ret
  exact ⟨rr_, bl_⟩
 replace H := nfe H; obtain ⟨c5b0, c5b1, H⟩ | ⟨c5b0, c5b1, H⟩ := H
 ·
  obtain rfl := Option.some.inj H; go_enter Tryd.func24, Tryd.ntmps24
  go_wp2_with (first | ((with_reducible refine gC 46 rfl ?_); refine goesL1 (some 4) Tryd.func46 #[.int .i64 a0] rfl (map1 rfl) ?_; (with_reducible refine (quillref10_Seek.calls A2.out).mono ?_); rintro e w7 ⟨rfl, hb⟩; refine ⟨_, rfl, ?_⟩; replace HB := hB hb; (try clear hb)))
  go_ret
  exact ⟨rr_, bl_⟩
 obtain rfl := Option.some.inj H; go_enter Tryd.func24, Tryd.ntmps24
 go_wp2_with (first | ((with_reducible refine gC 46 rfl ?_); refine goesL1 (some 4) Tryd.func46 #[.int .i64 a0] rfl (map1 rfl) ?_; (with_reducible refine (quillref10_Seek.calls A2.out).mono ?_); rintro e w6 ⟨rfl, hb⟩; refine ⟨_, rfl, ?_⟩; replace HB := hB hb; (try clear hb)))
 go_ret
 exact ⟨rr_, bl_⟩

/-! ### quillref10_Word: function 43 -/
def quillref10_Word.f (k : Nat) (a0 : Int) : Option (Bool) := (quillref0_In.f k (([119, 98, 101, 87, 66, 69] : List Int)) a0).bind fun t425 => (some (decide (t425 ≥ 0)))
theorem quillref10_Word.calls {k : Nat} {a0 : Int} {r : Bool} {w : World} (H : quillref10_Word.f k a0 = some r) :
  Calls Tryd.prog 43 #[.int .i64 a0] w fun e w' => e = .returned (.bool r) ∧ Below w.heap.size w w' := by
 have HB := Aside0.mk (Below.refl w.heap.size w); unfold quillref10_Word.f at H; obtain ⟨y422, hy422⟩ : ∃ y_ : List Int, y_ = (([119, 98, 101, 87, 66, 69] : List Int)) := ⟨_, rfl⟩
 replace H : ((quillref0_In.f k y422 a0).bind fun t425 => (some (decide (t425 ≥ 0)))) = some r := by first | (rw [hy422]; with_reducible exact H) | (have H2_ := (Option.bind_some _ _).symm.trans H; rw [hy422]; with_reducible exact H2_) | (have H2_ := (Option.bind_some _ _).symm.trans H; with_reducible exact H2_) | with_reducible exact H | (rw [hy422]; exact H) | exact H
 have Ny422 := Aside0.mk hy422; clear hy422; replace H := bindA H; obtain ⟨t425, A2, H⟩ := H; (try dsimp only at H); obtain rfl := Option.some.inj H; go_enter Tryd.func43, Tryd.ntmps43
 go_wp2_with (first | ((with_reducible refine gN 3 rfl ?_); refine Kd.R_lit (Kd.int .i64) _ 3 ?hg (N := 3) ?hd (xs := ([119, 98, 101, 87, 66, 69] : List Int)) (inner := [.int .i64 119, .int .i64 98, .int .i64 101, .int .i64 87, .int .i64 66, .int .i64 69]) (ok := fun _ => True) (okp := fun _ => True) ?hr ?hp (fun _ hk => hk) trivial (Below.refl _ _) (Nat.le_refl _) (by simp) ?_; (case hd => rfl); (case hg => rfl); (case hr => first | (go_simp; done) | (go_simp; rfl)); (case hp => exact (Reps.one (show Kd.M (Kd.int .i64) _ _ _ 119 [.int .i64 119] from rfl) (Reps.one (show Kd.M (Kd.int .i64) _ _ _ 98 [.int .i64 98] from rfl) (Reps.one (show Kd.M (Kd.int .i64) _ _ _ 101 [.int .i64 101] from rfl) (Reps.one (show Kd.M (Kd.int .i64) _ _ _ 87 [.int .i64 87] from rfl) (Reps.one (show Kd.M (Kd.int .i64) _ _ _ 66 [.int .i64 66] from rfl) (Reps.one (show Kd.M (Kd.int .i64) _ _ _ 69 [.int .i64 69] from rfl) (Reps.none _ _)))))))); intro v423 w3 ho4 hb hg_ hnew_; clear hg_ hnew_; (first | rw [← Ny422.out] at ho4 | (simp only [Int.reduceToNat] at ho4; rw [← Ny422.out] at ho4)); have HO424 := oL ho4; replace HB := hB hb; clear hb ho4; obtain ⟨Ao5, co5, eo5⟩ := Kd.R_slice HO424.out; subst eo5) | ((with_reducible refine gC 45 rfl ?_); refine goesL1 (some 5) Tryd.func45 #[.slice Ao5 y422.length co5, .int .i64 a0] rfl (map2 rfl rfl) ?_; refine cm_ (quillref0_In.calls sd_ sd_ A2.out) ?_; rintro e w' ⟨rfl, nd, rfl⟩; refine ⟨_, rfl, ?_⟩))
 go_ret
 exact ⟨rr_, bl_⟩

/-! ### quillref12_Line: function 44 -/
def quillref12_Line.f (k : Nat) (a0 : Int) : Option (Bool) := (quillref0_In.f k (([104, 108, 48, 94, 36, 106, 107, 43, 45, 95, 71, 16777319] : List Int)) a0).bind fun t429 => (some (decide (t429 ≥ 0)))
theorem quillref12_Line.calls {k : Nat} {a0 : Int} {r : Bool} {w : World} (H : quillref12_Line.f k a0 = some r) :
  Calls Tryd.prog 44 #[.int .i64 a0] w fun e w' => e = .returned (.bool r) ∧ Below w.heap.size w w' := by
 have HB := Aside0.mk (Below.refl w.heap.size w); unfold quillref12_Line.f at H; obtain ⟨y426, hy426⟩ : ∃ y_ : List Int, y_ = (([104, 108, 48, 94, 36, 106, 107, 43, 45, 95, 71, 16777319] : List Int)) := ⟨_, rfl⟩
 replace H : ((quillref0_In.f k y426 a0).bind fun t429 => (some (decide (t429 ≥ 0)))) = some r := by first | (rw [hy426]; with_reducible exact H) | (have H2_ := (Option.bind_some _ _).symm.trans H; rw [hy426]; with_reducible exact H2_) | (have H2_ := (Option.bind_some _ _).symm.trans H; with_reducible exact H2_) | with_reducible exact H | (rw [hy426]; exact H) | exact H
 have Ny426 := Aside0.mk hy426; clear hy426; replace H := bindA H; obtain ⟨t429, A2, H⟩ := H; (try dsimp only at H); obtain rfl := Option.some.inj H; go_enter Tryd.func44, Tryd.ntmps44
 go_wp2_with (first | ((with_reducible refine gN 3 rfl ?_); refine Kd.R_lit (Kd.int .i64) _ 3 ?hg (N := 3) ?hd (xs := ([104, 108, 48, 94, 36, 106, 107, 43, 45, 95, 71, 16777319] : List Int)) (inner := [.int .i64 104, .int .i64 108, .int .i64 48, .int .i64 94, .int .i64 36, .int .i64 106, .int .i64 107, .int .i64 43, .int .i64 45, .int .i64 95, .int .i64 71, .int .i64 16777319]) (ok := fun _ => True) (okp := fun _ => True) ?hr ?hp (fun _ hk => hk) trivial (Below.refl _ _) (Nat.le_refl _) (by simp) ?_; (case hd => rfl); (case hg => rfl); (case hr => first | (go_simp; done) | (go_simp; rfl)); (case hp => exact (Reps.one (show Kd.M (Kd.int .i64) _ _ _ 104 [.int .i64 104] from rfl) (Reps.one (show Kd.M (Kd.int .i64) _ _ _ 108 [.int .i64 108] from rfl) (Reps.one (show Kd.M (Kd.int .i64) _ _ _ 48 [.int .i64 48] from rfl) (Reps.one (show Kd.M (Kd.int .i64) _ _ _ 94 [.int .i64 94] from rfl) (Reps.one (show Kd.M (Kd.int .i64) _ _ _ 36 [.int .i64 36] from rfl) (Reps.one (show Kd.M (Kd.int .i64) _ _ _ 106 [.int .i64 106] from rfl) (Reps.one (show Kd.M (Kd.int .i64) _ _ _ 107 [.int .i64 107] from rfl) (Reps.one (show Kd.M (Kd.int .i64) _ _ _ 43 [.int .i64 43] from rfl) (Reps.one (show Kd.M (Kd.int .i64) _ _ _ 45 [.int .i64 45] from rfl) (Reps.one (show Kd.M (Kd.int .i64) _ _ _ 95 [.int .i64 95] from rfl) (Reps.one (show Kd.M (Kd.int .i64) _ _ _ 71 [.int .i64 71] from rfl) (Reps.one (show Kd.M (Kd.int .i64) _ _ _ 16777319 [.int .i64 16777319] from rfl) (Reps.none _ _)))))))))))))); intro v427 w3 ho4 hb hg_ hnew_; clear hg_ hnew_; (first | rw [← Ny426.out] at ho4 | (simp only [Int.reduceToNat] at ho4; rw [← Ny426.out] at ho4)); have HO428 := oL ho4; replace HB := hB hb; clear hb ho4; obtain ⟨Ao5, co5, eo5⟩ := Kd.R_slice HO428.out; subst eo5) | ((with_reducible refine gC 45 rfl ?_); refine goesL1 (some 5) Tryd.func45 #[.slice Ao5 y426.length co5, .int .i64 a0] rfl (map2 rfl rfl) ?_; refine cm_ (quillref0_In.calls sd_ sd_ A2.out) ?_; rintro e w' ⟨rfl, nd, rfl⟩; refine ⟨_, rfl, ?_⟩))
 go_ret
 exact ⟨rr_, bl_⟩

/-! ### quillref15_Is: function 22 -/
def quillref15_Is.f (k : Nat) (a0 : Int) : Option (Bool) := (quillref15_Asks.f k a0).bind fun t430 => (if t430 = true then (some true) else ((quillref10_Word.f k a0).bind fun t431 => (if t431 = true then (some true) else ((quillref12_Line.f k a0).bind fun t432 => (if t432 = true then (some true) else ((quillref0_In.f k (([59, 44, 123, 125, 37] : List Int)) a0).bind fun t436 => (some (decide (t436 ≥ 0)))))))))
theorem quillref15_Is.calls {k : Nat} {a0 : Int} {r : Bool} {w : World} (H : quillref15_Is.f k a0 = some r) :
  Calls Tryd.prog 22 #[.int .i64 a0] w fun e w' => e = .returned (.bool r) ∧ Below w.heap.size w w' := by
 have HB := Aside0.mk (Below.refl w.heap.size w); unfold quillref15_Is.f at H; replace H := bindA H; obtain ⟨t430, A2, H⟩ := H; (try dsimp only at H); replace H := ifb H; obtain ⟨rfl, H⟩ | ⟨rfl, H⟩ := H
 ·
  obtain rfl := Option.some.inj H; go_enter Tryd.func22, Tryd.ntmps22
  go_wp2_with (first | ((with_reducible refine gC 24 rfl ?_); refine goesL1 (some 4) Tryd.func24 #[.int .i64 a0] rfl (map1 rfl) ?_; (with_reducible refine (quillref15_Asks.calls A2.out).mono ?_); rintro e w4 ⟨rfl, hb⟩; refine ⟨_, rfl, ?_⟩; replace HB := hB hb; (try clear hb)))
  go_ret
  exact ⟨rr_, bl_⟩
 replace H := bindA H; obtain ⟨t431, A5, H⟩ := H; (try dsimp only at H); replace H := ifb H; obtain ⟨rfl, H⟩ | ⟨rfl, H⟩ := H
 ·
  obtain rfl := Option.some.inj H; go_enter Tryd.func22, Tryd.ntmps22
  go_wp2_with (first | ((with_reducible refine gC 24 rfl ?_); refine goesL1 (some 4) Tryd.func24 #[.int .i64 a0] rfl (map1 rfl) ?_; (with_reducible refine (quillref15_Asks.calls A2.out).mono ?_); rintro e w7 ⟨rfl, hb⟩; refine ⟨_, rfl, ?_⟩; replace HB := hB hb; (try clear hb)) | (go_at_call 43; (with_reducible refine (quillref10_Word.calls A5.out).mono ?_); rintro e w8 ⟨rfl, hb⟩; replace HB := hB hb; (try clear hb)))
  go_ret
  exact ⟨rr_, bl_⟩
 replace H := bindA H; obtain ⟨t432, A9, H⟩ := H; (try dsimp only at H); replace H := ifb H; obtain ⟨rfl, H⟩ | ⟨rfl, H⟩ := H
 ·
  obtain rfl := Option.some.inj H; go_enter Tryd.func22, Tryd.ntmps22
  go_wp2_with (first | ((with_reducible refine gC 24 rfl ?_); refine goesL1 (some 4) Tryd.func24 #[.int .i64 a0] rfl (map1 rfl) ?_; (with_reducible refine (quillref15_Asks.calls A2.out).mono ?_); rintro e w11 ⟨rfl, hb⟩; refine ⟨_, rfl, ?_⟩; replace HB := hB hb; (try clear hb)) | (go_at_call 43; (with_reducible refine (quillref10_Word.calls A5.out).mono ?_); rintro e w12 ⟨rfl, hb⟩; replace HB := hB hb; (try clear hb)) | (go_at_call 44; (with_reducible refine (quillref12_Line.calls A9.out).mono ?_); rintro e w13 ⟨rfl, hb⟩; replace HB := hB hb; (try clear hb)))
  go_ret
  exact ⟨rr_, bl_⟩
 obtain ⟨y433, hy433⟩ : ∃ y_ : List Int, y_ = (([59, 44, 123, 125, 37] : List Int)) := ⟨_, rfl⟩
 replace H : ((quillref0_In.f k y433 a0).bind fun t436 => (some (decide (t436 ≥ 0)))) = some r := by first | (rw [hy433]; with_reducible exact H) | (have H2_ := (Option.bind_some _ _).symm.trans H; rw [hy433]; with_reducible exact H2_) | (have H2_ := (Option.bind_some _ _).symm.trans H; with_reducible exact H2_) | with_reducible exact H | (rw [hy433]; exact H) | exact H
 have Ny433 := Aside0.mk hy433; clear hy433; replace H := bindA H; obtain ⟨t436, A14, H⟩ := H; (try dsimp only at H); obtain rfl := Option.some.inj H; go_enter Tryd.func22, Tryd.ntmps22
 go_wp2_with (first | ((with_reducible refine gC 24 rfl ?_); refine goesL1 (some 4) Tryd.func24 #[.int .i64 a0] rfl (map1 rfl) ?_; (with_reducible refine (quillref15_Asks.calls A2.out).mono ?_); rintro e w15 ⟨rfl, hb⟩; refine ⟨_, rfl, ?_⟩; replace HB := hB hb; (try clear hb)) | (go_at_call 43; (with_reducible refine (quillref10_Word.calls A5.out).mono ?_); rintro e w16 ⟨rfl, hb⟩; replace HB := hB hb; (try clear hb)) | (go_at_call 44; (with_reducible refine (quillref12_Line.calls A9.out).mono ?_); rintro e w17 ⟨rfl, hb⟩; replace HB := hB hb; (try clear hb)) | ((with_reducible refine gN 14 rfl ?_); (try (refine gate_guard (by rfl) ?_; dsimp only)); refine Kd.R_lit (Kd.int .i64) _ 3 ?hg (N := 14) ?hd (xs := ([59, 44, 123, 125, 37] : List Int)) (inner := [.int .i64 59, .int .i64 44, .int .i64 123, .int .i64 125, .int .i64 37]) (ok := fun _ => True) (okp := fun _ => True) ?hr ?hp (fun _ hk => hk) trivial (Below.refl _ _) (Nat.le_refl _) (by simp) ?_; (case hd => rfl); (case hg => rfl); (case hr => first | (go_simp; done) | (go_simp; rfl)); (case hp => exact (Reps.one (show Kd.M (Kd.int .i64) _ _ _ 59 [.int .i64 59] from rfl) (Reps.one (show Kd.M (Kd.int .i64) _ _ _ 44 [.int .i64 44] from rfl) (Reps.one (show Kd.M (Kd.int .i64) _ _ _ 123 [.int .i64 123] from rfl) (Reps.one (show Kd.M (Kd.int .i64) _ _ _ 125 [.int .i64 125] from rfl) (Reps.one (show Kd.M (Kd.int .i64) _ _ _ 37 [.int .i64 37] from rfl) (Reps.none _ _))))))); intro v434 w18 ho19 hb hg_ hnew_; clear hg_ hnew_; (first | rw [← Ny433.out] at ho19 | (simp only [Int.reduceToNat] at ho19; rw [← Ny433.out] at ho19)); have HO435 := oL ho19; replace HB := hB hb; clear hb ho19; obtain ⟨Ao20, co20, eo20⟩ := Kd.R_slice HO435.out; subst eo20) | (go_at_call 45; refine cm_ (quillref0_In.calls sd_ sd_ A14.out) ?_; rintro e w' ⟨rfl, nd, rfl⟩))
 go_ret
 exact ⟨rr_, bl_⟩

end Go.Proofs.YtbgmmcngkdhpcaaDoor.P
