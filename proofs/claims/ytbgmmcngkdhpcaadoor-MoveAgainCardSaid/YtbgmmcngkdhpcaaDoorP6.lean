/- The walks of the functions that these statements reach: each Go function as a plain Lean function, and the proof that its call comes to that. Written by the session's program wip/pp.py. -/
import Derived.Test.YtbgmmcngkdhpcaaDoorP0
import Derived.Test.YtbgmmcngkdhpcaaDoorP4
namespace Go.Proofs.YtbgmmcngkdhpcaaDoor.P
open Go.Proofs.YtbgmmcngkdhpcaaDoor
open Go.RowKit Go.Proofs.YtbgmmcngkdhpcaaDoorW.PrintWords Go.Proofs.YtbgmmcngkdhpcaaDoorW.PrintLast Go.Proofs.YtbgmmcngkdhpcaaDoorW.PrintMore
attribute [local go_sem] cell_isSome max2_int min2_int max_two min_two max_three min_three max_four min_four   -- for this text's walks alone
set_option linter.unusedVariables false
set_option linter.unusedSimpArgs false
set_option maxHeartbeats 8000000
set_option maxRecDepth 100000

/-! ### text_Map_End: function 50 -/
def text_Map_End.f (l0_0 : List Int) (l0_1 : List Int) (a1 : Int) : Option (Int) := if (wrap64 (a1 + 1)) < (l0_1.length : Int) then (if 0 ≤ (wrap64 (a1 + 1)) then (some (wrap64 ((rd l0_1 (wrap64 (a1 + 1))) - 1))) else (none)) else (some (l0_0.length : Int))
theorem text_Map_End.calls {g0 : Nat} {A0_0 : Option Addr} {c0_0 : Nat} {l0_0 : List Int} {A0_1 : Option Addr} {c0_1 : Nat} {l0_1 : List Int} {a1 : Int} {r : Int} {w : World} (hg0 : w.heap[g0]? = some (.cells #[.slice A0_0 l0_0.length c0_0, .slice A0_1 l0_1.length c0_1] 79 (0, 0))) (hr0_0 : Kd.C (Kd.int .i32) w A0_0 l0_0.length l0_0) (hc0_0 : l0_0.length ≤ c0_0) (hr0_1 : Kd.C (Kd.int .i64) w A0_1 l0_1.length l0_1) (hc0_1 : l0_1.length ≤ c0_1) (H : text_Map_End.f l0_0 l0_1 a1 = some r) :
  Calls Tryd.prog 50 #[.pointer (some ⟨g0, 0, none⟩), .int .i64 a1] w fun e w' => e = .returned (.int .i64 r) ∧ Drawn0 w w' := by
 have BK0 := Aside0.mk hg0; clear hg0; have HR0_0 := Aside0.mk hr0_0; have HC0_0 := Aside0.mk hc0_0; clear hr0_0 hc0_0; have HR0_1 := Aside0.mk hr0_1; have HC0_1 := Aside0.mk hc0_1; clear hr0_1 hc0_1; unfold text_Map_End.f at H; replace H := nfd H; obtain ⟨c3b0, H⟩ | ⟨c3b0, H⟩ := H
 ·
  obtain rfl := Option.some.inj H; have hcz7 := cs2 BK0.out; go_enter Tryd.func50, Tryd.ntmps50
  go_wp2; go_ret
  exact ⟨r3_, dr_⟩
 obtain ⟨ji4, hji4⟩ : ∃ j_ : Int, (wrap64 (a1 + 1)) = j_ := ⟨_, rfl⟩; (first | rw [hji4] at H | simp only [hji4] at H); (try rw [hji4] at c3b0)
 have hji4w : (IntKind.i64.wrap (a1 + 1)) = ji4 := (i64_w _).trans hji4
 replace H := ifdn H; obtain ⟨c5b0, H⟩ := H; obtain rfl := Option.some.inj H; have hcz6 := cs2 BK0.out; obtain ⟨p137, q137, ad137, e137, hx137_0⟩ := ix_ (Kd.at_int HR0_1.out (ji4)); cases e137; go_enter Tryd.func50, Tryd.ntmps50
 go_wp2; go_ret
 exact ⟨by first | rfl | (simp; done) | (simp only [← hji4] <;> (first | rfl | simp)) | (simp [*]; done), dr_⟩

/-! ### text_made: function 126 -/
def text_made.j0 : Nat → Int → Bool → Option (Int)
  | 0, _, _ => none
  | k + 1, x0, x3 => if x3 = true then (some 0) else (if x0 = 95 then (some 1) else (if x0 ≥ 48 then (if x0 ≤ 57 then (some 1) else (if x0 ≥ 97 then (if x0 ≤ 122 then (some 1) else (if x0 ≥ 65 then (if x0 ≤ 90 then (some 1) else (some 2)) else (some 2))) else (if x0 ≥ 65 then (if x0 ≤ 90 then (some 1) else (some 2)) else (some 2)))) else (if x0 ≥ 97 then (if x0 ≤ 122 then (some 1) else (if x0 ≥ 65 then (if x0 ≤ 90 then (some 1) else (some 2)) else (some 2))) else (if x0 ≥ 65 then (if x0 ≤ 90 then (some 1) else (some 2)) else (some 2)))))
def text_made.f (k : Nat) (a0 : Int) : Option (Int) := if a0 = 32 then (text_made.j0 k a0 true) else (text_made.j0 k a0 (a0 == 9))
theorem text_made.calls {k : Nat} {a0 : Int} {r : Int} {w : World} (H : text_made.f k a0 = some r) :
  Calls Tryd.prog 126 #[.int .i64 a0] w fun e w' => e = .returned (.int .i64 r) ∧ Drawn0 w w' := by
 unfold text_made.f at H; have HC2 := Aside0.mk H; clear H; go_enter Tryd.func126, Tryd.ntmps126
 go_upto_region 1 with (fail)
 go_cut [3] (fun v3 wc => ∃ (kq : Nat) (x3_1 : Bool), v3 = .bool x3_1 ∧ Aside0 (text_made.j0 kq a0 x3_1 = some r) ∧ Aside0 (kq ≤ k) ∧ Drawn0 w wc)
 case first =>
  obtain ⟨H⟩ := HC2; replace H := nfe H; obtain ⟨c3b0, c3b1, H⟩ | ⟨c3b0, c3b1, H⟩ := H
  ·
   (first | rw [c3b0] | (simp only [i64_w, i32_w]; rw [c3b0]) | skip); replace H := Aside0.mk H; go_wp2; go_meet
   case rel => exact ⟨_, ((a0 == 9)), r3_, H, ⟨ol_⟩, dr_⟩
  (first | rw [c3b0] | (simp only [i64_w, i32_w]; rw [c3b0]) | skip); replace H := Aside0.mk H; go_wp2; go_meet
  case rel => exact ⟨_, (true), r3_, H, ⟨ol_⟩, dr_⟩
 case rest =>
  clear HC2; obtain ⟨kq, x3_1, rfl, HA, HJ1, ⟨mc1, rfl⟩⟩ := hcut
  cases kq with
  | zero => exact absurd HA.out (by simp [text_made.j0])
  | succ kj1 =>
   obtain ⟨H⟩ := HA; simp only [text_made.j0] at H; replace H := ifb H; obtain ⟨rfl, H⟩ | ⟨rfl, H⟩ := H
   ·
    obtain rfl := Option.some.inj H; go_wp2; go_ret
    exact ⟨r3_, dr_⟩
   replace H := ife H; obtain ⟨c5b0, c5b1, H⟩ | ⟨c5b0, c5b1, H⟩ := H
   ·
    obtain rfl := Option.some.inj H; go_wp2; go_ret
    exact ⟨r3_, dr_⟩
   replace H := nfd H; obtain ⟨c6b0, H⟩ | ⟨c6b0, H⟩ := H
   ·
    replace H := nfd H; obtain ⟨c14b0, H⟩ | ⟨c14b0, H⟩ := H
    ·
     replace H := nfd H; obtain ⟨c18b0, H⟩ | ⟨c18b0, H⟩ := H
     ·
      obtain rfl := Option.some.inj H; go_wp2; go_ret
      exact ⟨r3_, dr_⟩
     replace H := ifd H; obtain ⟨c19b0, H⟩ | ⟨c19b0, H⟩ := H
     ·
      obtain rfl := Option.some.inj H; go_wp2; go_ret
      exact ⟨r3_, dr_⟩
     obtain rfl := Option.some.inj H; go_wp2; go_ret
     exact ⟨r3_, dr_⟩
    replace H := ifd H; obtain ⟨c15b0, H⟩ | ⟨c15b0, H⟩ := H
    ·
     obtain rfl := Option.some.inj H; go_wp2; go_ret
     exact ⟨r3_, dr_⟩
    replace H := nfd H; obtain ⟨c16b0, H⟩ | ⟨c16b0, H⟩ := H
    ·
     obtain rfl := Option.some.inj H; go_wp2; go_ret
     exact ⟨r3_, dr_⟩
    replace H := ifd H; obtain ⟨c17b0, H⟩ | ⟨c17b0, H⟩ := H
    ·
     obtain rfl := Option.some.inj H; go_wp2; go_ret
     exact ⟨r3_, dr_⟩
    obtain rfl := Option.some.inj H; go_wp2; go_ret
    exact ⟨r3_, dr_⟩
   replace H := ifd H; obtain ⟨c7b0, H⟩ | ⟨c7b0, H⟩ := H
   ·
    obtain rfl := Option.some.inj H; go_wp2; go_ret
    exact ⟨r3_, dr_⟩
   replace H := nfd H; obtain ⟨c8b0, H⟩ | ⟨c8b0, H⟩ := H
   ·
    replace H := nfd H; obtain ⟨c12b0, H⟩ | ⟨c12b0, H⟩ := H
    ·
     obtain rfl := Option.some.inj H; go_wp2; go_ret
     exact ⟨r3_, dr_⟩
    replace H := ifd H; obtain ⟨c13b0, H⟩ | ⟨c13b0, H⟩ := H
    ·
     obtain rfl := Option.some.inj H; go_wp2; go_ret
     exact ⟨r3_, dr_⟩
    obtain rfl := Option.some.inj H; go_wp2; go_ret
    exact ⟨r3_, dr_⟩
   replace H := ifd H; obtain ⟨c9b0, H⟩ | ⟨c9b0, H⟩ := H
   ·
    obtain rfl := Option.some.inj H; go_wp2; go_ret
    exact ⟨r3_, dr_⟩
   replace H := nfd H; obtain ⟨c10b0, H⟩ | ⟨c10b0, H⟩ := H
   ·
    obtain rfl := Option.some.inj H; go_wp2; go_ret
    exact ⟨r3_, dr_⟩
   replace H := ifd H; obtain ⟨c11b0, H⟩ | ⟨c11b0, H⟩ := H
   ·
    obtain rfl := Option.some.inj H; go_wp2; go_ret
    exact ⟨r3_, dr_⟩
   obtain rfl := Option.some.inj H; go_wp2; go_ret
   exact ⟨r3_, dr_⟩

/-! ### text_Class: function 120 -/
def text_Class.f (k : Nat) (a0 : Int) : Option (Int) := if a0 < 0 then (some 2) else (if a0 ≥ 128 then (some 1) else ((text_made.f k a0).bind fun t138 => (some t138)))
theorem text_Class.calls {k : Nat} {a0 : Int} {r : Int} {w : World} (H : text_Class.f k a0 = some r) :
  Calls Tryd.prog 120 #[.int .i64 a0] w fun e w' => e = .returned (.int .i64 r) ∧ Drawn0 w w' := by
 unfold text_Class.f at H; replace H := ifd H; obtain ⟨c2b0, H⟩ | ⟨c2b0, H⟩ := H
 ·
  obtain rfl := Option.some.inj H; go_enter Tryd.func120, Tryd.ntmps120
  go_wp2; go_ret
  exact ⟨r3_, dr_⟩
 replace H := ifd H; obtain ⟨c3b0, H⟩ | ⟨c3b0, H⟩ := H
 ·
  obtain rfl := Option.some.inj H; go_enter Tryd.func120, Tryd.ntmps120
  go_wp2; go_ret
  exact ⟨r3_, dr_⟩
 replace H := bindA H; obtain ⟨t138, A4, H⟩ := H; (try dsimp only at H); obtain rfl := Option.some.inj H; go_enter Tryd.func120, Tryd.ntmps120
 go_wp2_with (first | ((with_reducible refine gC 126 rfl ?_); refine goesL1 (some 10) Tryd.func126 #[.int .i64 a0] rfl (map1 rfl) ?_; (with_reducible refine (text_made.calls A4.out).mono ?_); rintro e w' ⟨rfl, nd, rfl⟩; refine ⟨_, rfl, ?_⟩))
 go_ret
 exact ⟨r3_, dr_⟩

/-! ### words_Class: function 104 -/
def words_Class.f (k : Nat) (a0 : Int) (a1 : Bool) : Option (Int) := (text_Class.f k (wrap64 (a0))).bind fun t139 => (if a1 = true then (if t139 = 2 then (some 1) else (some t139)) else (some t139))
theorem words_Class.calls {k : Nat} {a0 : Int} {a1 : Bool} {r : Int} {w : World} (H : words_Class.f k a0 a1 = some r) :
  Calls Tryd.prog 104 #[.int .i32 a0, .bool a1] w fun e w' => e = .returned (.int .i64 r) ∧ Drawn0 w w' := by
 unfold words_Class.f at H; replace H := bindA H; obtain ⟨t139, A3, H⟩ := H; (try dsimp only at H); replace H := nfb H; obtain ⟨rfl, H⟩ | ⟨rfl, H⟩ := H
 ·
  obtain rfl := Option.some.inj H; go_enter Tryd.func104, Tryd.ntmps104
  go_wp2_with (first | ((with_reducible refine gC 120 rfl ?_); refine goesL1 (some 8) Tryd.func120 #[.int .i64 (wrap64 (a0))] rfl (map1 rfl) ?_; (with_reducible refine (text_Class.calls A3.out).mono ?_); rintro e w' ⟨rfl, nd, rfl⟩; refine ⟨_, rfl, ?_⟩))
  go_ret
  exact ⟨r3_, dr_⟩
 replace H := nfe H; obtain ⟨c5b0, c5b1, H⟩ | ⟨c5b0, c5b1, H⟩ := H
 ·
  obtain rfl := Option.some.inj H; go_enter Tryd.func104, Tryd.ntmps104
  go_wp2_with (first | ((with_reducible refine gC 120 rfl ?_); refine goesL1 (some 8) Tryd.func120 #[.int .i64 (wrap64 (a0))] rfl (map1 rfl) ?_; (with_reducible refine (text_Class.calls A3.out).mono ?_); rintro e w' ⟨rfl, nd, rfl⟩; refine ⟨_, rfl, ?_⟩))
  go_ret
  exact ⟨r3_, dr_⟩
 obtain rfl := Option.some.inj H; go_enter Tryd.func104, Tryd.ntmps104
 go_wp2_with (first | ((with_reducible refine gC 120 rfl ?_); refine goesL1 (some 8) Tryd.func120 #[.int .i64 (wrap64 (a0))] rfl (map1 rfl) ?_; (with_reducible refine (text_Class.calls A3.out).mono ?_); rintro e w' ⟨rfl, nd, rfl⟩; refine ⟨_, rfl, ?_⟩))
 go_ret
 exact ⟨r3_, dr_⟩

/-! ### words_cells: function 112 -/
mutual
def words_cells.l0 : Nat → Bool → List (S142) → List Int → Int → Int → List Int → List Int → Option ((List (S142)))
  | 0, _, _, _, _, _, _, _ => none
  | k + 1, x1, x4, x15, x16, x17, v0, v1 => if x17 < x16 then (if 0 ≤ x17 then (if x17 < (x15.length : Int) then ((text_Map_End.f v0 v1 x17).bind fun t148 => (if (rd x15 x17) = t148 then (if x4.length < 5864062014805 then (words_cells.j1 k x1 (x4 ++ [(⟨rd x15 x17, 3, true, true⟩ : S142)]) (rd x15 x17) t148 x15 x16 x17 v0 v1) else (none)) else (words_cells.j1 k x1 x4 (rd x15 x17) t148 x15 x16 x17 v0 v1))) else (none)) else (none)) else (some x4)
def words_cells.j1 : Nat → Bool → List (S142) → Int → Int → List Int → Int → Int → List Int → List Int → Option ((List (S142)))
  | 0, _, _, _, _, _, _, _, _, _ => none
  | k + 1, x1, x4, x7, x8, x15, x16, x17, v0, v1 => words_cells.l1 k x1 x4 x7 x8 x7 x15 x16 x17 v0 v1
def words_cells.l1 : Nat → Bool → List (S142) → Int → Int → Int → List Int → Int → Int → List Int → List Int → Option ((List (S142)))
  | 0, _, _, _, _, _, _, _, _, _, _ => none
  | k + 1, x1, x4, x7, x8, x9, x15, x16, x17, v0, v1 => if x9 < x8 then (if 0 ≤ x9 then (if x9 < (v0.length : Int) then ((words_Class.f k (rd v0 x9) x1).bind fun t153 => (if x4.length < 5864062014805 then (words_cells.l1 k x1 (x4 ++ [(⟨x9, t153, (x9 == x7), (x9 == (wrap64 (x8 - 1)))⟩ : S142)]) x7 x8 (wrap64 (x9 + 1)) x15 x16 x17 v0 v1) else (none))) else (none)) else (none)) else (words_cells.l0 k x1 x4 x15 x16 (wrap64 (x17 + 1)) v0 v1)
end
def words_cells.f (k : Nat) (a0 : ByteArray) (a1 : Bool) : Option ((List (S142))) := (text_Of.f k a0).bind fun bt140 => (words_cells.l0 k a1 ([] : List (S142)) bt140.2 (bt140.2.length : Int) 0 bt140.1 bt140.2)
theorem words_cells.calls {k : Nat} {a0 : ByteArray} {a1 : Bool} {r : List (S142)} {w : World} (H : words_cells.f k a0 a1 = some r) :
  Calls Tryd.prog 112 #[.string a0, .bool a1] w fun e w' => ∃ v0_ : Value, e = .returned (v0_) ∧ Kd.R k142 142 w' w.heap.size (fun _ => True) v0_ r ∧ Below w.heap.size w w' := by
 have hu142 := Tryd.underlying142; have HB := Aside0.mk (Below.refl w.heap.size w); unfold words_cells.f at H; replace H := bindA H; obtain ⟨⟨t140, t143⟩, A3, H⟩ := H; (try dsimp only at H); replace H := Aside0.mk H; go_enter Tryd.func112, Tryd.ntmps112
 go_wp2_with (first | ((with_reducible refine gC 28 rfl ?_); refine goesL1 (some 11) Tryd.func28 #[.string a0] rfl (map1 rfl) ?_; (with_reducible refine (text_Of.calls A3.out).mono ?_); rintro e w4 ⟨v141, v144, gb146, rfl, ho0, ho1, ⟨hx146_, hz146_⟩, hb⟩; refine ⟨_, rfl, ?_⟩; have HO142 := oL ho0; have HO145 := oL ho1; have BK146 := Aside0.mk hx146_; have GW146 := gZ hz146_; have GE146 := GW146; replace HB := hB hb; (try clear hb); (try clear ho0); (try clear ho1); (try clear hx146_ hz146_); have hcz5 := cs2 BK146.out; obtain ⟨Ao6, co6, eo6⟩ := Kd.R_slice HO145.out; subst eo6))
 go_loopg [4, 17] k (fun kq v4 v17 w' => ∃ (x4_1 : List (S142)) (x17_1 : Int), v17 = .int .i64 x17_1 ∧ Aside0 (words_cells.l0 kq a1 x4_1 t143 (t143.length : Int) x17_1 t140 t143 = some r) ∧ Aside0 (kq ≤ k) ∧ Aside0 (Kd.R k142 142 w' w.heap.size (fun _ => True) v4 x4_1) ∧ Aside0 (Kd.R (Kd.int .i64) 3 w' w.heap.size (fun _ => True) (.slice Ao6 t143.length co6) t143) ∧ Aside0 (Kd.R (Kd.int .i32) 21 w' w.heap.size (fun _ => True) v141 t140) ∧ Aside0 (Kd.R (Kd.int .i64) 3 w' w.heap.size (fun _ => True) (.slice Ao6 t143.length co6) t143) ∧ Aside0 (w'.heap[gb146]? = some (.cells #[v141, (.slice Ao6 t143.length co6)] 79 (0, 0))) ∧ Aside0 (Below w.heap.size w w'))
 case atStart => exact ⟨(([] : List (S142))), (0), r3_, H, ⟨Nat.le_refl _⟩, ⟨by first | exact Kd.R_nil _ _ _ _ _ | exact Kd.N_nil _ _ _ _ _ | exact Kd.V_nil _ _ _ _ _ | exact Kd.Q_nil _ _ _ _ _ | exact Kd.S_nil _ _ _ _ _⟩, ⟨ro_ HO145⟩, ⟨ro_ HO142⟩, ⟨ro_ HO145⟩, ⟨BK146.out⟩, ⟨bl_⟩⟩
 case round =>
  clear H
  try clear hcz5
  obtain ⟨x4_1, x17_1, rfl, HA, HK1, HO_4, HO_15, HO_147000, HO_147001, BK146, HB⟩ := hrel
  cases gk with
  | zero => exact absurd HA.out (by simp [words_cells.l0])
  | succ k1 =>
   obtain ⟨H⟩ := HA; simp only [words_cells.l0] at H; replace H := nfd H; obtain ⟨c7b0, H⟩ | ⟨c7b0, H⟩ := H
   ·
    obtain rfl := Option.some.inj H; go_wp2; go_ret
    exact ⟨_, by first | rfl | (simp [errW_none, errW_some] <;> rfl) | (simp [*, errW_none, errW_some] <;> rfl), ro_ HO_4, bl_⟩
   replace H := ifq H; obtain ⟨c8b0, c9b0, H⟩ := H; replace H := bindA H; obtain ⟨t148, A10, H⟩ := H; (try dsimp only at H); have HC11 := Aside0.mk H; clear H; obtain ⟨p147, q147, ad147, e147, hx147_0⟩ := ix_ (Kd.at_int (Kd.R_reads' HO_15.out).2.2 x17_1); cases e147; obtain ⟨Ao12, co12, eo12⟩ := Kd.R_slice HO_147000.out; subst eo12
   go_upto_if 27 with (first | ((with_reducible refine gC 50 rfl ?_); refine goesL1 (some 24) Tryd.func50 #[.pointer (some ⟨gb146, 0, none⟩), .int .i64 x17_1] rfl (map2 rfl rfl) ?_; refine cm_ (text_Map_End.calls sd_ sd_ sd_ sd_ sd_ A10.out) ?_; rintro e w' ⟨rfl, nd, rfl⟩; refine ⟨_, rfl, ?_⟩))
   (try simp only [Act.put, List.setIfInBounds_toArray, List.set_cons_zero, List.set_cons_succ])
   go_cut [4] (fun v4 wc => ∃ (kq : Nat) (x4_10 : List (S142)), Aside0 (words_cells.j1 kq a1 x4_10 (rd t143 x17_1) t148 t143 (t143.length : Int) x17_1 t140 t143 = some r) ∧ Aside0 (kq ≤ k1) ∧ Aside0 (Kd.R k142 142 wc w.heap.size (fun _ => True) v4 x4_10) ∧ Aside0 (Kd.R (Kd.int .i64) 3 wc w.heap.size (fun _ => True) (.slice (some ad147) t143.length co6) t143) ∧ Aside0 (Kd.R (Kd.int .i32) 21 wc w.heap.size (fun _ => True) (.slice Ao12 t140.length co12) t140) ∧ Aside0 (Kd.R (Kd.int .i64) 3 wc w.heap.size (fun _ => True) (.slice (some ad147) t143.length co6) t143) ∧ Aside0 (wc.heap[gb146]? = some (.cells #[(.slice Ao12 t140.length co12), (.slice (some ad147) t143.length co6)] 79 (0, 0))) ∧ Aside0 (Below w.heap.size w wc))
   case first =>
    obtain ⟨H⟩ := HC11; replace H := nfe H; obtain ⟨c13b0, c13b1, H⟩ | ⟨c13b0, c13b1, H⟩ := H
    ·
     (first | rw [c13b0] | (simp only [i64_w, i32_w]; rw [c13b0]) | skip); replace H := Aside0.mk H; go_wp2; go_meet
     case rel => exact ⟨_, (x4_1), H, ⟨by have := HK1.out; first | omega | exact Nat.le_refl _⟩, ⟨ro_ HO_4⟩, ⟨ro_ HO_15⟩, ⟨ro_ HO_147000⟩, ⟨ro_ HO_147001⟩, ⟨BK146.out⟩, ⟨bl_⟩⟩
    (first | rw [c13b0] | (simp only [i64_w, i32_w]; rw [c13b0]) | skip)
    by_cases c14 : x4_1.length < 5864062014805
    rotate_left
    ·
     rw [if_neg c14] at H
     exact absurd H (by simp)
    rw [if_pos c14] at H; have LMc14 := Aside0.mk c14; clear c14; obtain ⟨y149, hy149⟩ : ∃ y_ : List (S142), y_ = (x4_1 ++ [(⟨rd t143 x17_1, 3, true, true⟩ : S142)]) := ⟨_, rfl⟩
    replace H : (words_cells.j1 k1 a1 y149 (rd t143 x17_1) t148 t143 (t143.length : Int) x17_1 t140 t143) = some r := by first | (rw [hy149]; with_reducible exact H) | (have H2_ := (Option.bind_some _ _).symm.trans H; rw [hy149]; with_reducible exact H2_) | (have H2_ := (Option.bind_some _ _).symm.trans H; with_reducible exact H2_) | with_reducible exact H | (rw [hy149]; exact H) | exact H
    have Ny149 := Aside0.mk hy149; clear hy149; replace H := Aside0.mk H
    go_wp2_with (first | ((with_reducible refine gate_builtin (b := .append) (xs := #[.tmp 28, .tmp 31]) rfl ?_); at_builtin; refine Kd.R_append k142 (w0 := w) w.heap.size rfl (.tmp 28) (.tmp 31) 134 142 (.agg #[(.int .i64 0), (.int .i64 0), (.bool false), (.bool false)]) 24 rfl Tryd.underlying134 info142 rfl (by decide) (by omega) u4 x4_1 (⟨rd t143 x17_1, 3, true, true⟩ : S142) [.int .i64 (rd t143 x17_1), .int .i64 3, .bool true, .bool true] (fun _ => True) (fun _ => False) rfl rfl ?aP (fun _ hk => hk.elim) ?aF ?aO ?aB ?aS ?aL ?_; (case aP => exact k142_mkM _ _ _ (⟨rd t143 x17_1, 3, true, true⟩ : S142)); (case aB => exact bl_); (case aF => exact (fun _ _ => trivial)); (case aO => exact (ro_ HO_4)); (case aS => exact (below_size bl_)); (case aL => have := LMc14.out; omega); intro v150 w15 ho hb hg hat; rw [← Ny149.out] at ho; have HO151 := Aside0.mk (ho); replace HO_15 := Aside0.mk (Kd.R_over' (ro_ HO_15) (Kd.R_typed (ro_ HO_4)) (by decide) hg); replace HO_147000 := Aside0.mk (Kd.R_over' (ro_ HO_147000) (Kd.R_typed (ro_ HO_4)) (by decide) hg); replace HO_147001 := Aside0.mk (Kd.R_over' (ro_ HO_147001) (Kd.R_typed (ro_ HO_4)) (by decide) hg); replace BK146 := Aside0.mk (blk_grown (g := gb146) (o := .cells #[.slice Ao12 t140.length co12, .slice (some ad147) t143.length co6] 79 (0, 0)) (by exact BK146.out) hg (Kd.R_ne HO_4.out BK146.out (by decide))); replace HB := Aside0.mk (hb); clear HO_4; clear ho hb hg hat))
    go_meet
    case rel => exact ⟨_, (y149), H, ⟨by have := HK1.out; first | omega | exact Nat.le_refl _⟩, ⟨ro_ HO151⟩, ⟨ro_ HO_15⟩, ⟨ro_ HO_147000⟩, ⟨ro_ HO_147001⟩, ⟨BK146.out⟩, ⟨bl_⟩⟩
   case rest =>
    clear HC11
    try clear c7b0
    try clear c8b0
    try clear c9b0
    try clear hcz5
    try clear hx147_0
    try clear p147
    try clear q147
    obtain ⟨kq, x4_10, HA, HJ10, HO_4, HO_15, HO_147000, HO_147001, BK146, HB⟩ := hcut
    cases kq with
    | zero => exact absurd HA.out (by simp [words_cells.j1])
    | succ kj10 =>
     obtain ⟨H⟩ := HA; simp only [words_cells.j1] at H; replace H := Aside0.mk H; go_wp2
     go_loopg [4, 9] kj10 (fun kq v4 v9 w' => ∃ (x4_3 : List (S142)) (x9_3 : Int), v9 = .int .i64 x9_3 ∧ Aside0 (words_cells.l1 kq a1 x4_3 (rd t143 x17_1) t148 x9_3 t143 (t143.length : Int) x17_1 t140 t143 = some r) ∧ Aside0 (kq ≤ kj10) ∧ Aside0 (Kd.R k142 142 w' w.heap.size (fun _ => True) v4 x4_3) ∧ Aside0 (Kd.R (Kd.int .i64) 3 w' w.heap.size (fun _ => True) (.slice (some ad147) t143.length co6) t143) ∧ Aside0 (Kd.R (Kd.int .i32) 21 w' w.heap.size (fun _ => True) (.slice Ao12 t140.length co12) t140) ∧ Aside0 (Kd.R (Kd.int .i64) 3 w' w.heap.size (fun _ => True) (.slice (some ad147) t143.length co6) t143) ∧ Aside0 (w'.heap[gb146]? = some (.cells #[(.slice Ao12 t140.length co12), (.slice (some ad147) t143.length co6)] 79 (0, 0))) ∧ Aside0 (Below w.heap.size w w'))
     case atStart => exact ⟨(x4_10), ((rd t143 x17_1)), r3_, H, ⟨Nat.le_refl _⟩, ⟨ro_ HO_4⟩, ⟨ro_ HO_15⟩, ⟨ro_ HO_147000⟩, ⟨ro_ HO_147001⟩, ⟨BK146.out⟩, ⟨bl_⟩⟩
     case round =>
      clear H
      try clear c7b0
      try clear c8b0
      try clear c9b0
      try clear hcz5
      try clear hx147_0
      try clear p147
      try clear q147
      obtain ⟨x4_3, x9_3, rfl, HA, HK3, HO_4, HO_15, HO_147000, HO_147001, BK146, HB⟩ := hrel
      cases gk with
      | zero => exact absurd HA.out (by simp [words_cells.l1])
      | succ k3 =>
       obtain ⟨H⟩ := HA; simp only [words_cells.l1] at H; replace H := nfd H; obtain ⟨c16b0, H⟩ | ⟨c16b0, H⟩ := H
       ·
        replace H := Aside0.mk H; go_wp2
        go_roundg k3
        case measure => have := HK1.out; have := HJ10.out; have := HK3.out; omega
        case rel => exact ⟨(x4_3), (wrap64 (x17_1 + 1)), r3_, H, ⟨by have := HK1.out; have := HJ10.out; have := HK3.out; omega⟩, ⟨ro_ HO_4⟩, ⟨ro_ HO_15⟩, ⟨ro_ HO_147000⟩, ⟨ro_ HO_147001⟩, ⟨BK146.out⟩, ⟨bl_⟩⟩
       replace H := ifq H; obtain ⟨c17b0, c18b0, H⟩ := H; replace H := bindA H; obtain ⟨t153, A19, H⟩ := H; (try dsimp only at H)
       by_cases c20 : x4_3.length < 5864062014805
       rotate_left
       ·
        rw [if_neg c20] at H
        exact absurd H (by simp)
       rw [if_pos c20] at H; have LMc20 := Aside0.mk c20; clear c20; obtain ⟨y154, hy154⟩ : ∃ y_ : List (S142), y_ = (x4_3 ++ [(⟨x9_3, t153, (x9_3 == (rd t143 x17_1)), (x9_3 == (wrap64 (t148 - 1)))⟩ : S142)]) := ⟨_, rfl⟩
       replace H : (words_cells.l1 k3 a1 y154 (rd t143 x17_1) t148 (wrap64 (x9_3 + 1)) t143 (t143.length : Int) x17_1 t140 t143) = some r := by first | (rw [hy154]; with_reducible exact H) | (have H2_ := (Option.bind_some _ _).symm.trans H; rw [hy154]; with_reducible exact H2_) | (have H2_ := (Option.bind_some _ _).symm.trans H; with_reducible exact H2_) | with_reducible exact H | (rw [hy154]; exact H) | exact H
       have Ny154 := Aside0.mk hy154; clear hy154; replace H := Aside0.mk H; have hcz21 := cs2 BK146.out; obtain ⟨p152, q152, ad152, e152, hx152_0⟩ := ix_ (Kd.at_int (Kd.R_reads' HO_147000.out).2.2 x9_3); cases e152
       go_wp2_with (first | ((with_reducible refine gC 104 rfl ?_); refine goesL1 (some 49) Tryd.func104 #[.int .i32 (rd t140 x9_3), .bool a1] rfl (map2 rfl rfl) ?_; (with_reducible refine (words_Class.calls A19.out).mono ?_); rintro e w' ⟨rfl, nd, rfl⟩; refine ⟨_, rfl, ?_⟩) | ((with_reducible refine gate_builtin (b := .append) (xs := #[.tmp 39, .tmp 58]) rfl ?_); at_builtin; refine Kd.R_append k142 (w0 := w) w.heap.size rfl (.tmp 39) (.tmp 58) 134 142 (.agg #[(.int .i64 0), (.int .i64 0), (.bool false), (.bool false)]) 24 rfl Tryd.underlying134 info142 rfl (by decide) (by omega) u4 x4_3 (⟨x9_3, t153, (x9_3 == (rd t143 x17_1)), (x9_3 == (wrap64 (t148 - 1)))⟩ : S142) [.int .i64 x9_3, .int .i64 t153, .bool (x9_3 == (rd t143 x17_1)), .bool (x9_3 == (wrap64 (t148 - 1)))] (fun _ => True) (fun _ => False) rfl rfl ?aP (fun _ hk => hk.elim) ?aF ?aO ?aB ?aS ?aL ?_; (case aP => exact k142_mkM _ _ _ (⟨x9_3, t153, (x9_3 == (rd t143 x17_1)), (x9_3 == (wrap64 (t148 - 1)))⟩ : S142)); (case aB => exact bl_); (case aF => exact (fun _ _ => trivial)); (case aO => exact (ro_ HO_4)); (case aS => exact (below_size bl_)); (case aL => have := LMc20.out; omega); intro v155 w22 ho hb hg hat; rw [← Ny154.out] at ho; have HO156 := Aside0.mk (ho); replace HO_15 := Aside0.mk (Kd.R_over' (ro_ HO_15) (Kd.R_typed (ro_ HO_4)) (by decide) hg); replace HO_147000 := Aside0.mk (Kd.R_over' (ro_ HO_147000) (Kd.R_typed (ro_ HO_4)) (by decide) hg); replace HO_147001 := Aside0.mk (Kd.R_over' (ro_ HO_147001) (Kd.R_typed (ro_ HO_4)) (by decide) hg); replace BK146 := Aside0.mk (blk_grown (g := gb146) (o := .cells #[.slice (some ad152) t140.length co12, .slice (some ad147) t143.length co6] 79 (0, 0)) (by exact BK146.out) hg (Kd.R_ne HO_4.out BK146.out (by decide))); replace HB := Aside0.mk (hb); clear HO_4; clear ho hb hg hat))
       go_roundg k3
       case measure => have := HK1.out; have := HJ10.out; have := HK3.out; omega
       case rel => exact ⟨(y154), (wrap64 (x9_3 + 1)), r3_, H, ⟨by have := HK1.out; have := HJ10.out; have := HK3.out; omega⟩, ⟨ro_ HO156⟩, ⟨ro_ HO_15⟩, ⟨ro_ HO_147000⟩, ⟨ro_ HO_147001⟩, ⟨BK146.out⟩, ⟨bl_⟩⟩

/-! ### words_begins: function 114 -/
def words_begins.f (l0 : List (S142)) (a1 : Int) : Option (Bool) := if 0 ≤ a1 then (if a1 < (l0.length : Int) then (if ((rd_T142 l0 a1).f1) = 0 then (some false) else (if (rd_T142 l0 a1).f2 = true then (some true) else (if 0 ≤ (wrap64 (a1 - 1)) then (if (wrap64 (a1 - 1)) < (l0.length : Int) then (some (((rd_T142 l0 (wrap64 (a1 - 1))).f1) != ((rd_T142 l0 a1).f1))) else (none)) else (none)))) else (none)) else (none)
theorem words_begins.calls {A0 : Option Addr} {c0 : Nat} {l0 : List (S142)} {a1 : Int} {r : Bool} {w : World} (hr0 : Kd.C k142 w A0 l0.length l0) (hc0 : l0.length ≤ c0) (H : words_begins.f l0 a1 = some r) :
  Calls Tryd.prog 114 #[.slice A0 l0.length c0, .int .i64 a1] w fun e w' => e = .returned (.bool r) ∧ Drawn0 w w' := by
 have HR0 := Aside0.mk hr0; have HC0 := Aside0.mk hc0; clear hr0 hc0; unfold words_begins.f at H; replace H := ifq H; obtain ⟨c3b0, c4b0, H⟩ := H; replace H := ife H; obtain ⟨c5b0, c5b1, H⟩ | ⟨c5b0, c5b1, H⟩ := H
 ·
  obtain rfl := Option.some.inj H; obtain ⟨p157, q157, ad157, e157, hx157_0, hx157_1, hx157_2, hx157_3⟩ := ix_ (at_T142 HR0.out a1); cases e157; go_enter Tryd.func114, Tryd.ntmps114
  go_wp2
  repeat (go_quiet (fail); try go_wp2)
  go_ret
  exact ⟨r3_, dr_⟩
 obtain ⟨bq6, hbq6⟩ : ∃ b_ : Bool, b_ = ((rd_T142 l0 a1).f2) := ⟨_, rfl⟩
 replace H : (if bq6 = true then (some true) else (if 0 ≤ (wrap64 (a1 - 1)) then (if (wrap64 (a1 - 1)) < (l0.length : Int) then (some (((rd_T142 l0 (wrap64 (a1 - 1))).f1) != ((rd_T142 l0 a1).f1))) else (none)) else (none))) = some r := by rw [← hbq6] at H; exact H
 have Nbq6 := Aside0.mk hbq6; clear hbq6; replace H := ifb H; obtain ⟨rfl, H⟩ | ⟨rfl, H⟩ := H
 ·
  obtain rfl := Option.some.inj H; have p157 := od_ (0 ≤ (a1 : Int)); have q157 := od_ (a1 < (l0.length : Int)); obtain ⟨ad157, e157, hx157_0, hx157_1, hx157_2, hx157_3⟩ := at_T142 HR0.out a1 p157 q157; (try rw [← Nbq6.out] at hx157_2); (try rw [← Nbq6.out] at hx157_3); cases e157; replace p157 := eq_true p157; replace q157 := eq_true q157; have p158 := od_ (0 ≤ (a1 : Int)); have q158 := od_ (a1 < (l0.length : Int))
  obtain ⟨ad158, e158, hx158_0, hx158_1, hx158_2, hx158_3⟩ := at_T142 HR0.out a1 p158 q158; (try rw [← Nbq6.out] at hx158_2); (try rw [← Nbq6.out] at hx158_3); obtain rfl : ad157 = ad158 := (by injection e158); replace p158 := eq_true p158; replace q158 := eq_true q158; go_enter Tryd.func114, Tryd.ntmps114
  go_wp2
  repeat (go_quiet (fail); try go_wp2)
  go_ret
  exact ⟨r3_, dr_⟩
 obtain ⟨ji8, hji8⟩ : ∃ j_ : Int, (wrap64 (a1 - 1)) = j_ := ⟨_, rfl⟩; (first | rw [hji8] at H | simp only [hji8] at H)
 have hji8w : (IntKind.i64.wrap (a1 - 1)) = ji8 := (i64_w _).trans hji8
 replace H := ifq H; obtain ⟨c9b0, c10b0, H⟩ := H; obtain rfl := Option.some.inj H; have p157 := od_ (0 ≤ (a1 : Int)); have q157 := od_ (a1 < (l0.length : Int)); obtain ⟨ad157, e157, hx157_0, hx157_1, hx157_2, hx157_3⟩ := at_T142 HR0.out a1 p157 q157; (try rw [← Nbq6.out] at hx157_2); (try rw [← Nbq6.out] at hx157_3); cases e157; replace p157 := eq_true p157; replace q157 := eq_true q157; have p158 := od_ (0 ≤ (a1 : Int))
 have q158 := od_ (a1 < (l0.length : Int)); obtain ⟨ad158, e158, hx158_0, hx158_1, hx158_2, hx158_3⟩ := at_T142 HR0.out a1 p158 q158; (try rw [← Nbq6.out] at hx158_2); (try rw [← Nbq6.out] at hx158_3); obtain rfl : ad157 = ad158 := (by injection e158); replace p158 := eq_true p158; replace q158 := eq_true q158; have p159 := od_ (0 ≤ ((ji8) : Int)); have q159 := od_ ((ji8) < (l0.length : Int)); obtain ⟨ad159, e159, hx159_0, hx159_1, hx159_2, hx159_3⟩ := at_T142 HR0.out (ji8) p159 q159
 (try rw [← Nbq6.out] at hx159_2); (try rw [← Nbq6.out] at hx159_3); obtain rfl : ad157 = ad159 := (by injection e159); replace p159 := eq_true p159; replace q159 := eq_true q159; have p160 := od_ (0 ≤ (a1 : Int)); have q160 := od_ (a1 < (l0.length : Int)); obtain ⟨ad160, e160, hx160_0, hx160_1, hx160_2, hx160_3⟩ := at_T142 HR0.out a1 p160 q160; (try rw [← Nbq6.out] at hx160_2); (try rw [← Nbq6.out] at hx160_3)
 obtain rfl : ad157 = ad160 := (by injection e160); replace p160 := eq_true p160; replace q160 := eq_true q160; go_enter Tryd.func114, Tryd.ntmps114
 go_wp2
 repeat (go_quiet (fail); try go_wp2)
 go_ret
 exact ⟨by first | rfl | (simp; done) | (simp only [← hji8] <;> (first | rfl | simp)) | (simp [*]; done), dr_⟩

end Go.Proofs.YtbgmmcngkdhpcaaDoor.P
