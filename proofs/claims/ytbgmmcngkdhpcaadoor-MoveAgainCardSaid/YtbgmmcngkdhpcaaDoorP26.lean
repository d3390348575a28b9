/- The walks of the functions that these statements reach: each Go function as a plain Lean function, and the proof that its call comes to that. Written by the session's program wip/pp.py. -/
import Derived.Test.YtbgmmcngkdhpcaaDoorP0
import Derived.Test.YtbgmmcngkdhpcaaDoorP1
import Derived.Test.YtbgmmcngkdhpcaaDoorP2
import Derived.Test.YtbgmmcngkdhpcaaDoorP3
import Derived.Test.YtbgmmcngkdhpcaaDoorP4
import Derived.Test.YtbgmmcngkdhpcaaDoorP15
import Derived.Test.YtbgmmcngkdhpcaaDoorP16
import Derived.Test.YtbgmmcngkdhpcaaDoorP18
import Derived.Test.YtbgmmcngkdhpcaaDoorP25
namespace Go.Proofs.YtbgmmcngkdhpcaaDoor.P
open Go.Proofs.YtbgmmcngkdhpcaaDoor
open Go.RowKit Go.Proofs.YtbgmmcngkdhpcaaDoorW.PrintWords Go.Proofs.YtbgmmcngkdhpcaaDoorW.PrintLast Go.Proofs.YtbgmmcngkdhpcaaDoorW.PrintMore
attribute [local go_sem] cell_isSome max2_int min2_int max_two min_two max_three min_three max_four min_four   -- for this text's walks alone
set_option linter.unusedVariables false
set_option linter.unusedSimpArgs false
set_option maxHeartbeats 8000000
set_option maxRecDepth 100000

attribute [local go_sem high] eqA31 eqA54 eqA89
/-! ### quillref0_EqMarks: function 38 -/
def quillref0_EqMarks.l0 : Nat → List (S89) → List (S89) → Int → Option (Bool)
  | 0, _, _, _ => none
  | k + 1, x0, x1, x5 => if x5 < (x0.length : Int) then (if 0 ≤ x5 then (if x5 < (x1.length : Int) then (if (!(((rd_T89 x0 x5).f0) == ((rd_T89 x1 x5).f0)) || (!(((rd_T89 x0 x5).f1) == ((rd_T89 x1 x5).f1)))) = true then (some false) else (quillref0_EqMarks.l0 k x0 x1 (wrap64 (x5 + 1)))) else (none)) else (none)) else (some true)
def quillref0_EqMarks.f (k : Nat) (l0 : List (S89)) (l1 : List (S89)) : Option (Bool) := if (l0.length : Int) = (l1.length : Int) then (quillref0_EqMarks.l0 k l0 l1 0) else (some false)
theorem quillref0_EqMarks.calls {k : Nat} {A0 : Option Addr} {c0 : Nat} {l0 : List (S89)} {A1 : Option Addr} {c1 : Nat} {l1 : List (S89)} {r : Bool} {w : World} (hr0 : Kd.C k89 w A0 l0.length l0) (hc0 : l0.length ≤ c0) (hr1 : Kd.C k89 w A1 l1.length l1) (hc1 : l1.length ≤ c1) (H : quillref0_EqMarks.f k l0 l1 = some r) :
  Calls Tryd.prog 38 #[.slice A0 l0.length c0, .slice A1 l1.length c1] w fun e w' => e = .returned (.bool r) ∧ Drawn0 w w' := by
 have hu89 := Tryd.underlying89; have HR0 := Aside0.mk hr0; have HC0 := Aside0.mk hc0; clear hr0 hc0; have HR1 := Aside0.mk hr1; have HC1 := Aside0.mk hc1; clear hr1 hc1; unfold quillref0_EqMarks.f at H
 by_cases c3 : (l0.length : Int) = (l1.length : Int)
 rotate_left
 ·
  rw [if_neg c3] at H
  have c3b0 : ((l0.length : Int) == (l1.length : Int)) = false := beq_eq_false_iff_ne.mpr c3
  have c3b1 : ((l0.length : Int) != (l1.length : Int)) = true := bne_iff_ne.mpr c3
  have c3b2 : (l0.length == l1.length) = false := by first | simpa using c3 | (simp at c3 ⊢; omega)
  obtain rfl := Option.some.inj H; go_enter Tryd.func38, Tryd.ntmps38
  go_wp2
  repeat (go_quiet (fail); try go_wp2)
  go_ret
  exact ⟨r3_, dr_⟩
 rw [if_pos c3] at H
 have c3b0 : ((l0.length : Int) == (l1.length : Int)) = true := beq_iff_eq.mpr c3
 have c3b1 : ((l0.length : Int) != (l1.length : Int)) = false := bne_eq_false_iff_eq.mpr c3
 have c3b2 : (l0.length == l1.length) = true := by first | simpa using c3 | (simp at c3 ⊢; omega)
 clear c3; replace H := Aside0.mk H; go_enter Tryd.func38, Tryd.ntmps38
 go_wp2
 repeat (go_quiet (fail); try go_wp2)
 go_loopg [5] k (fun kq v5 w' => ∃ (x5_1 : Int), v5 = .int .i64 x5_1 ∧ Aside0 (quillref0_EqMarks.l0 kq l0 l1 x5_1 = some r) ∧ Aside0 (kq ≤ k) ∧ Drawn0 w w')
 case atStart => exact ⟨(0), r3_, H, ⟨Nat.le_refl _⟩, dr_⟩
 case round =>
  clear H
  try clear c3
  try clear c3b0
  try clear c3b1
  try clear c3b2
  obtain ⟨x5_1, rfl, HA, HK1, ⟨m1, rfl⟩⟩ := hrel
  cases gk with
  | zero => exact absurd HA.out (by simp [quillref0_EqMarks.l0])
  | succ k1 =>
   obtain ⟨H⟩ := HA; simp only [quillref0_EqMarks.l0] at H; replace H := nfd H; obtain ⟨c4b0, H⟩ | ⟨c4b0, H⟩ := H
   ·
    obtain rfl := Option.some.inj H; go_wp2
    repeat (go_quiet (fail); try go_wp2)
    go_ret
    exact ⟨r3_, dr_⟩
   replace H := ifq H; obtain ⟨c5b0, c6b0, H⟩ := H
   by_cases c7 : (!(((rd_T89 l0 x5_1).f0) == ((rd_T89 l1 x5_1).f0)) || (!(((rd_T89 l0 x5_1).f1) == ((rd_T89 l1 x5_1).f1)))) = true
   ·
    rw [if_pos c7] at H
    have c7b0 : (!(((rd_T89 l0 x5_1).f0) == ((rd_T89 l1 x5_1).f0)) || (!(((rd_T89 l0 x5_1).f1) == ((rd_T89 l1 x5_1).f1)))) = true := c7
    clear c7; obtain rfl := Option.some.inj H; obtain ⟨p588, q588, ad588, e588, hx588_0, hx588_1⟩ := ix_ (at_T89 HR0.out x5_1); cases e588; obtain ⟨p589, q589, ad589, e589, hx589_0, hx589_1⟩ := ix_ (at_T89 HR1.out x5_1); cases e589; go_wp2
    repeat (go_quiet (fail); try go_wp2)
    go_ret
    exact ⟨r3_, dr_⟩
   rw [if_neg c7] at H
   have c7b0 : (!(((rd_T89 l0 x5_1).f0) == ((rd_T89 l1 x5_1).f0)) || (!(((rd_T89 l0 x5_1).f1) == ((rd_T89 l1 x5_1).f1)))) = false := by simpa using c7
   clear c7; replace H := Aside0.mk H; obtain ⟨p588, q588, ad588, e588, hx588_0, hx588_1⟩ := ix_ (at_T89 HR0.out x5_1); cases e588; obtain ⟨p589, q589, ad589, e589, hx589_0, hx589_1⟩ := ix_ (at_T89 HR1.out x5_1); cases e589; go_wp2
   repeat (go_quiet (fail); try go_wp2)
   go_roundg k1
   case measure => have := HK1.out; omega
   case rel => exact ⟨(wrap64 (x5_1 + 1)), r3_, H, ⟨by have := HK1.out; omega⟩, dr_⟩

/-! ### quilllaw16_one: function 16 -/
def quilllaw16_one.j0 : Nat → List Int → Int → List (S89) → List (S89) → Int → Int → Bool → Int → Int → Int → Int → Int → Int → Int → Int → Int → Int → Int → Int → Int → Int → Int → Int → Option (Bool)
  | 0, _, _, _, _, _, _, _, _, _, _, _, _, _, _, _, _, _, _, _, _, _, _, _ => none
  | k + 1, x1, x2, x5, x13, x16, x17, x43, v0, v1, v2, v3, v4, v5, v6, v7, v8, v9, v10, v11, v12, v13, v14, v15 => if x43 = true then ((quillref15_Go.f k x1 x2 v0 v1 v2 v3 v4 v5 v6 v7 x5).bind fun bt606 => ((quilllaw16_num.f x16).bind fun t611 => (if t611 = bt606.2.2.2.2 then (if (v8 == bt606.1 && (v9 == bt606.2.1)) = true then (if (v10 == bt606.2.2.1 && (v11 == bt606.2.2.2.1)) = true then ((quillref0_EqMarks.f k x13 x5).bind fun t612 => (some t612)) else (some false)) else (some false)) else (some false)))) else ((quilllaw16_num.f x16).bind fun t613 => (if t613 = x17 then (if (v8 == v12 && (v9 == v13)) = true then (if (v10 == v14 && (v11 == v15)) = true then ((quillref0_EqMarks.f k x13 x5).bind fun t614 => (some t614)) else (some false)) else (some false)) else (some false)))
def quilllaw16_one.f (k : Nat) (a0 : ByteArray) (l1 : List Int) (a2 : Int) (a3_0 : Int) (a3_1 : Int) (a3_2 : Int) (a3_3 : Int) (a3_4 : Int) (a3_5 : Int) (a4_0 : Int) (a4_1 : Int) (l5 : List (S89)) : Option (Bool) := (quillref0_CopyMarks.f k l5).bind fun t592 => ((move_Go.f k a0 a2 a3_0 a3_1 a3_2 a3_3 a3_4 a3_5 a4_0 a4_1 t592).bind fun bt595 => ((quillref1_May.f k a0).bind fun t604 => (if t604 = true then ((quillref15_May.f k l1 a2 a3_0 a3_1 a3_2 a3_3 a3_4 a3_5 a4_0 a4_1 l5).bind fun t605 => (quilllaw16_one.j0 k l1 a2 l5 t592 bt595.2.2.2.2 1 t605 a3_0 a3_1 a3_2 a3_3 a3_4 a3_5 a4_0 a4_1 bt595.1 bt595.2.1 bt595.2.2.1 bt595.2.2.2.1 0 0 0 0)) else (quilllaw16_one.j0 k l1 a2 l5 t592 bt595.2.2.2.2 1 false a3_0 a3_1 a3_2 a3_3 a3_4 a3_5 a4_0 a4_1 bt595.1 bt595.2.1 bt595.2.2.1 bt595.2.2.2.1 0 0 0 0))))
theorem quilllaw16_one.calls {k : Nat} {a0 : ByteArray} {A1 : Option Addr} {c1 : Nat} {l1 : List Int} {a2 : Int} {a3_0 : Int} {a3_1 : Int} {a3_2 : Int} {a3_3 : Int} {a3_4 : Int} {a3_5 : Int} {a4_0 : Int} {a4_1 : Int} {A5 : Option Addr} {c5 : Nat} {l5 : List (S89)} {r : Bool} {w : World} (hT : Tabs w) (hr1 : Kd.C (Kd.int .i32) w A1 l1.length l1) (hc1 : l1.length ≤ c1) (hr5 : Kd.C k89 w A5 l5.length l5) (hc5 : l5.length ≤ c5) (H : quilllaw16_one.f k a0 l1 a2 a3_0 a3_1 a3_2 a3_3 a3_4 a3_5 a4_0 a4_1 l5 = some r) :
  Calls Tryd.prog 16 #[.string a0, .slice A1 l1.length c1, .int .i64 a2, .agg #[.int .i64 a3_0, .int .i64 a3_1, .int .i64 a3_2, .int .i64 a3_3, .int .i64 a3_4, .int .i64 a3_5], .agg #[.int .i64 a4_0, .int .i64 a4_1], .slice A5 l5.length c5] w fun e w' => e = .returned (.bool r) ∧ Below w.heap.size w w' := by
 have hu52 := Tryd.underlying52; have hu31 := Tryd.underlying31; have hu54 := Tryd.underlying54; have HT := Aside0.mk hT; clear hT; have HR1 := Aside0.mk hr1; have HC1 := Aside0.mk hc1; clear hr1 hc1; have HR5 := Aside0.mk hr5; have HC5 := Aside0.mk hc5; clear hr5 hc5; have HB := Aside0.mk (Below.refl w.heap.size w); unfold quilllaw16_one.f at H; replace H := bindA H; obtain ⟨t592, A7, H⟩ := H; (try dsimp only at H)
 replace H := bindA H; obtain ⟨⟨t595, t596, t597, t598, t599⟩, A8, H⟩ := H; (try dsimp only at H); have HC9 := Aside0.mk H; clear H; go_enter Tryd.func16, Tryd.ntmps16
 go_upto_region 4 with (first | ((with_reducible refine gN 9 rfl ?_); refine bx 9 #[.int .i64 a3_0, .int .i64 a3_1, .int .i64 a3_2, .int .i64 a3_3, .int .i64 a3_4, .int .i64 a3_5] 52 ?_; intro gb590 hg w10 hbox hb; have BK590 := Aside0.mk hbox; have GW590 := gE hg; have GE590 := GW590; replace HB := hB hb; clear hb hbox hg) | ((with_reducible refine gN 10 rfl ?_); refine bx 10 #[.int .i64 a4_0, .int .i64 a4_1] 31 ?_; intro gb591 hg w11 hbox hb; have BK591 := Aside0.mk hbox; have GW591 := gE hg; have GE591 := GW591; have NB590_591 := nbl hg BK590.out; have NB591_590 := nbr hg BK590.out; replace BK590 := blB hb BK590; replace HB := hB hb; clear hb hbox hg) | ((with_reducible refine gC 35 rfl ?_); refine goesL1 (some 21) Tryd.func35 #[.slice A5 l5.length c5] rfl (map1 rfl) ?_; refine cm_ (quillref0_CopyMarks.calls sd_ sd_ A7.out) ?_; rintro e w12 ⟨v593, rfl, ho0, hb⟩; refine ⟨_, rfl, ?_⟩; have HO594 := oL ho0; replace BK590 := blB hb BK590; replace BK591 := blB hb BK591; replace HB := hB hb; (try clear hb); (try clear ho0); have hcz14 := cs6 BK590.out; have hcz15 := cs2 BK591.out; obtain ⟨Ao16, co16, eo16⟩ := Kd.R_slice HO594.out; subst eo16) | ((with_reducible refine gC 18 rfl ?_); refine goesL1 (some 28) Tryd.func18 #[.string a0, .int .i64 a2, .agg #[.int .i64 a3_0, .int .i64 a3_1, .int .i64 a3_2, .int .i64 a3_3, .int .i64 a3_4, .int .i64 a3_5], .agg #[.int .i64 a4_0, .int .i64 a4_1], .slice Ao16 t592.length co16] rfl (map5 rfl rfl rfl rfl rfl) ?_; refine cm_ (move_Go.calls sd_ sd_ sd_ A8.out) ?_; rintro e w17 ⟨rfl, hb⟩; refine ⟨_, rfl, ?_⟩; replace HO594 := Aside0.mk (Kd.R_below (ro_ HO594) hb); replace BK590 := blB hb BK590; replace BK591 := blB hb BK591; replace HB := hB hb; (try clear hb); (try clear hcz14); (try clear hcz15)) | ((with_reducible refine gN 14 rfl ?_); refine bx 14 #[.int .i64 0, .int .i64 0] 54 ?_; intro gb600 hg w18 hbox hb; have BK600 := Aside0.mk hbox; have GW600 := gE hg; have GE600 := GW600; have NB590_600 := nbl hg BK590.out; have NB600_590 := nbr hg BK590.out; have NB591_600 := nbl hg BK591.out; have NB600_591 := nbr hg BK591.out; replace HO594 := Aside0.mk (Kd.R_below (ro_ HO594) hb); replace BK590 := blB hb BK590; replace BK591 := blB hb BK591; replace HB := hB hb; clear hb hbox hg) | ((with_reducible refine gN 15 rfl ?_); refine bx 15 #[.int .i64 0, .int .i64 0] 31 ?_; intro gb601 hg w19 hbox hb; have BK601 := Aside0.mk hbox; have GW601 := gE hg; have GE601 := GW601; have NB590_601 := nbl hg BK590.out; have NB601_590 := nbr hg BK590.out; have NB591_601 := nbl hg BK591.out; have NB601_591 := nbr hg BK591.out; have NB600_601 := nbl hg BK600.out; have NB601_600 := nbr hg BK600.out; replace HO594 := Aside0.mk (Kd.R_below (ro_ HO594) hb); replace BK590 := blB hb BK590; replace BK591 := blB hb BK591; replace BK600 := blB hb BK600; replace HB := hB hb; clear hb hbox hg; have hcz23 := cs2 BK600.out; have hcz26 := cs2 BK601.out) | ((with_reducible refine gN 18 rfl ?_); refine bx 18 #[.int .i64 0, .int .i64 0] 54 ?_; intro gb602 hg w27 hbox hb; have BK602 := Aside0.mk hbox; have GW602 := gE hg; have GE602 := GW602; have NB590_602 := nbl (g := gb590) (o := .cells #[.int .i64 a3_0, .int .i64 a3_1, .int .i64 a3_2, .int .i64 a3_3, .int .i64 a3_4, .int .i64 a3_5] 52 (0, 0)) hg bk_; have NB602_590 := nbr (g := gb590) (o := .cells #[.int .i64 a3_0, .int .i64 a3_1, .int .i64 a3_2, .int .i64 a3_3, .int .i64 a3_4, .int .i64 a3_5] 52 (0, 0)) hg bk_; have NB591_602 := nbl (g := gb591) (o := .cells #[.int .i64 a4_0, .int .i64 a4_1] 31 (0, 0)) hg bk_; have NB602_591 := nbr (g := gb591) (o := .cells #[.int .i64 a4_0, .int .i64 a4_1] 31 (0, 0)) hg bk_; have NB600_602 := nbl (g := gb600) (o := .cells #[.int .i64 t595, .int .i64 t596] 54 (0, 0)) hg bk_; have NB602_600 := nbr (g := gb600) (o := .cells #[.int .i64 t595, .int .i64 t596] 54 (0, 0)) hg bk_; have NB601_602 := nbl (g := gb601) (o := .cells #[.int .i64 t597, .int .i64 t598] 31 (0, 0)) hg bk_; have NB602_601 := nbr (g := gb601) (o := .cells #[.int .i64 t597, .int .i64 t598] 31 (0, 0)) hg bk_; replace HO594 := Aside0.mk (Kd.R_below (by (with_reducible repeat (first | apply Kd.R_alloc | apply Kd.R_drewN | apply Kd.R_drew)); exact (Kd.R_mono (Kd.R_mono (Kd.R_far (p := ⟨gb601, 1, none⟩) (Kd.R_far (p := ⟨gb601, 0, none⟩) (Kd.R_far (p := ⟨gb600, 1, none⟩) (Kd.R_far (p := ⟨gb600, 0, none⟩) (Kd.R_types (Kd.R_types HO594.out BK600.out (by decide)) BK601.out (by decide)) (fun _ hk => hk.1.2) (.int .i64 t595)) (fun _ hk => hk.1.2) (.int .i64 t596)) (fun _ hk => hk.2) (.int .i64 t597)) (fun _ hk => hk.2) (.int .i64 t598)) (fun _ h_ => h_.1)) (fun _ h_ => h_.1))) hb); replace BK590 := bkB gb590 #[.int .i64 a3_0, .int .i64 a3_1, .int .i64 a3_2, .int .i64 a3_3, .int .i64 a3_4, .int .i64 a3_5] 52 hb; replace BK591 := bkB gb591 #[.int .i64 a4_0, .int .i64 a4_1] 31 hb; replace BK600 := bkB gb600 #[.int .i64 t595, .int .i64 t596] 54 hb; replace BK601 := bkB gb601 #[.int .i64 t597, .int .i64 t598] 31 hb; replace HB := hB hb; clear hb hbox hg; (try clear hcz23); (try clear hcz26)) | ((with_reducible refine gN 19 rfl ?_); refine bx 19 #[.int .i64 0, .int .i64 0] 31 ?_; intro gb603 hg w28 hbox hb; have BK603 := Aside0.mk hbox; have GW603 := gE hg; have GE603 := GW603; have NB590_603 := nbl hg BK590.out; have NB603_590 := nbr hg BK590.out; have NB591_603 := nbl hg BK591.out; have NB603_591 := nbr hg BK591.out; have NB600_603 := nbl hg BK600.out; have NB603_600 := nbr hg BK600.out; have NB601_603 := nbl hg BK601.out; have NB603_601 := nbr hg BK601.out; have NB602_603 := nbl hg BK602.out; have NB603_602 := nbr hg BK602.out; replace HO594 := Aside0.mk (Kd.R_below (ro_ HO594) hb); replace BK590 := blB hb BK590; replace BK591 := blB hb BK591; replace BK600 := blB hb BK600; replace BK601 := blB hb BK601; replace BK602 := blB hb BK602; replace HB := hB hb; clear hb hbox hg; have hcz34 := cs2 BK602.out; have hcz39 := cs2 BK603.out))
 (try simp only [Act.put, List.setIfInBounds_toArray, List.set_cons_zero, List.set_cons_succ])
 go_cut [43] (fun v43 wc => ∃ (kq : Nat) (x43_8 : Bool), v43 = .bool x43_8 ∧ Aside0 (quilllaw16_one.j0 kq l1 a2 l5 t592 t599 1 x43_8 a3_0 a3_1 a3_2 a3_3 a3_4 a3_5 a4_0 a4_1 t595 t596 t597 t598 0 0 0 0 = some r) ∧ Aside0 (kq ≤ k) ∧ Aside0 (Kd.R k89 89 wc w.heap.size (fun _ => True) (.slice Ao16 t592.length co16) t592) ∧ Aside0 (wc.heap[gb590]? = some (.cells #[.int .i64 a3_0, .int .i64 a3_1, .int .i64 a3_2, .int .i64 a3_3, .int .i64 a3_4, .int .i64 a3_5] 52 (0, 0))) ∧ Aside0 (wc.heap[gb591]? = some (.cells #[.int .i64 a4_0, .int .i64 a4_1] 31 (0, 0))) ∧ Aside0 (wc.heap[gb600]? = some (.cells #[.int .i64 t595, .int .i64 t596] 54 (0, 0))) ∧ Aside0 (wc.heap[gb601]? = some (.cells #[.int .i64 t597, .int .i64 t598] 31 (0, 0))) ∧ Aside0 (wc.heap[gb602]? = some (.cells #[.int .i64 0, .int .i64 0] 54 (0, 0))) ∧ Aside0 (wc.heap[gb603]? = some (.cells #[.int .i64 0, .int .i64 0] 31 (0, 0))) ∧ Aside0 (Below w.heap.size w wc))
 case first =>
  obtain ⟨H⟩ := HC9; replace H := bindA H; obtain ⟨t604, A40, H⟩ := H; (try dsimp only at H); replace H := nfb H; obtain ⟨rfl, H⟩ | ⟨rfl, H⟩ := H
  ·
   replace H := Aside0.mk H
   go_wp2_with (first | ((with_reducible refine gC 10 rfl ?_); refine goesL1 (some 35) Tryd.func10 #[.string a0] rfl (map1 rfl) ?_; (with_reducible refine (quillref1_May.calls ?side1 A40.out).mono ?_); (case side1 => exact Tabs.below HT.out bl_); rintro e w56 ⟨rfl, hb⟩; refine ⟨_, rfl, ?_⟩; replace HO594 := Aside0.mk (Kd.R_below (by (with_reducible repeat (first | apply Kd.R_alloc | apply Kd.R_drewN | apply Kd.R_drew)); exact (Kd.R_mono (Kd.R_mono (Kd.R_far (p := ⟨gb603, 1, none⟩) (Kd.R_far (p := ⟨gb603, 0, none⟩) (Kd.R_far (p := ⟨gb602, 1, none⟩) (Kd.R_far (p := ⟨gb602, 0, none⟩) (Kd.R_types (Kd.R_types HO594.out BK602.out (by decide)) BK603.out (by decide)) (fun _ hk => hk.1.2) (.int .i64 0)) (fun _ hk => hk.1.2) (.int .i64 0)) (fun _ hk => hk.2) (.int .i64 0)) (fun _ hk => hk.2) (.int .i64 0)) (fun _ h_ => h_.1)) (fun _ h_ => h_.1))) hb); replace BK590 := bkB gb590 #[.int .i64 a3_0, .int .i64 a3_1, .int .i64 a3_2, .int .i64 a3_3, .int .i64 a3_4, .int .i64 a3_5] 52 hb; replace BK591 := bkB gb591 #[.int .i64 a4_0, .int .i64 a4_1] 31 hb; replace BK600 := bkB gb600 #[.int .i64 t595, .int .i64 t596] 54 hb; replace BK601 := bkB gb601 #[.int .i64 t597, .int .i64 t598] 31 hb; replace BK602 := bkB gb602 #[.int .i64 0, .int .i64 0] 54 hb; replace BK603 := bkB gb603 #[.int .i64 0, .int .i64 0] 31 hb; replace HB := hB hb; (try clear hb)))
   go_meet
   case rel => exact ⟨_, (false), r3_, H, ⟨ol_⟩, ⟨ro_ HO594⟩, ⟨BK590.out⟩, ⟨BK591.out⟩, ⟨BK600.out⟩, ⟨BK601.out⟩, ⟨BK602.out⟩, ⟨BK603.out⟩, ⟨bl_⟩⟩
  replace H := bindA H; obtain ⟨t605, A42, H⟩ := H; (try dsimp only at H); replace H := Aside0.mk H
  go_wp2_with (first | ((with_reducible refine gC 10 rfl ?_); refine goesL1 (some 35) Tryd.func10 #[.string a0] rfl (map1 rfl) ?_; (with_reducible refine (quillref1_May.calls ?side1 A40.out).mono ?_); (case side1 => exact Tabs.below HT.out bl_); rintro e w43 ⟨rfl, hb⟩; refine ⟨_, rfl, ?_⟩; replace HO594 := Aside0.mk (Kd.R_below (by (with_reducible repeat (first | apply Kd.R_alloc | apply Kd.R_drewN | apply Kd.R_drew)); exact (Kd.R_mono (Kd.R_mono (Kd.R_far (p := ⟨gb603, 1, none⟩) (Kd.R_far (p := ⟨gb603, 0, none⟩) (Kd.R_far (p := ⟨gb602, 1, none⟩) (Kd.R_far (p := ⟨gb602, 0, none⟩) (Kd.R_types (Kd.R_types HO594.out BK602.out (by decide)) BK603.out (by decide)) (fun _ hk => hk.1.2) (.int .i64 0)) (fun _ hk => hk.1.2) (.int .i64 0)) (fun _ hk => hk.2) (.int .i64 0)) (fun _ hk => hk.2) (.int .i64 0)) (fun _ h_ => h_.1)) (fun _ h_ => h_.1))) hb); replace BK590 := bkB gb590 #[.int .i64 a3_0, .int .i64 a3_1, .int .i64 a3_2, .int .i64 a3_3, .int .i64 a3_4, .int .i64 a3_5] 52 hb; replace BK591 := bkB gb591 #[.int .i64 a4_0, .int .i64 a4_1] 31 hb; replace BK600 := bkB gb600 #[.int .i64 t595, .int .i64 t596] 54 hb; replace BK601 := bkB gb601 #[.int .i64 t597, .int .i64 t598] 31 hb; replace BK602 := bkB gb602 #[.int .i64 0, .int .i64 0] 54 hb; replace BK603 := bkB gb603 #[.int .i64 0, .int .i64 0] 31 hb; replace HB := hB hb; (try clear hb); have hcz49 := cs6 BK590.out; have hcz54 := cs2 BK591.out) | (go_at_call 36; refine cm_ (quillref15_May.calls sd_ sd_ sd_ sd_ A42.out) ?_; rintro e w55 ⟨rfl, hb⟩; replace HO594 := Aside0.mk (Kd.R_below (ro_ HO594) hb); replace BK590 := blB hb BK590; replace BK591 := blB hb BK591; replace BK600 := blB hb BK600; replace BK601 := blB hb BK601; replace BK602 := blB hb BK602; replace BK603 := blB hb BK603; replace HB := hB hb; (try clear hb); (try clear hcz49); (try clear hcz54)))
  go_meet
  case rel => exact ⟨_, (t605), r3_, H, ⟨ol_⟩, ⟨ro_ HO594⟩, ⟨BK590.out⟩, ⟨BK591.out⟩, ⟨BK600.out⟩, ⟨BK601.out⟩, ⟨BK602.out⟩, ⟨BK603.out⟩, ⟨bl_⟩⟩
 case rest =>
  clear HC9
  try clear c5
  try clear hcz14
  try clear hcz15
  try clear hcz23
  try clear hcz26
  try clear hcz34
  try clear hcz39
  obtain ⟨kq, x43_8, rfl, HA, HJ8, HO_13, BK590, BK591, BK600, BK601, BK602, BK603, HB⟩ := hcut
  cases kq with
  | zero => exact absurd HA.out (by simp [quilllaw16_one.j0])
  | succ kj8 =>
   obtain ⟨H⟩ := HA; simp only [quilllaw16_one.j0] at H; replace H := nfb H; obtain ⟨rfl, H⟩ | ⟨rfl, H⟩ := H
   ·
    replace H := bindA H; obtain ⟨t613, A148, H⟩ := H; (try dsimp only at H); replace H := nfe H; obtain ⟨c149b0, c149b1, H⟩ | ⟨c149b0, c149b1, H⟩ := H
    ·
     obtain rfl := Option.some.inj H
     go_wp2_with (first | ((with_reducible refine gC 19 rfl ?_); refine goesL1 (some 55) Tryd.func19 #[.int .i64 t599] rfl (map1 rfl) ?_; (with_reducible refine (quilllaw16_num.calls A148.out).mono ?_); rintro e w' ⟨rfl, nd, rfl⟩; refine ⟨_, rfl, ?_⟩))
     go_ret
     exact ⟨rr_, bl_⟩
    by_cases c150 : (t595 == 0 && (t596 == 0)) = true
    rotate_left
    ·
     rw [if_neg c150] at H
     have c150b0 : (t595 == 0 && (t596 == 0)) = false := by simpa using c150
     (try (have c150b1 : decide (t595 = 0 && (t596 == 0)) = false := by simpa using c150))
     (try (have c150b2 : (t595 == 0 && (t596 == 0)) = false := by simpa using c150))
     (try (have c150b3 : ¬ (t595 = 0 && (t596 == 0)) := by simpa using c150))
     clear c150; obtain rfl := Option.some.inj H
     go_wp2_with (first | ((with_reducible refine gC 19 rfl ?_); refine goesL1 (some 55) Tryd.func19 #[.int .i64 t599] rfl (map1 rfl) ?_; (with_reducible refine (quilllaw16_num.calls A148.out).mono ?_); rintro e w' ⟨rfl, nd, rfl⟩; refine ⟨_, rfl, ?_⟩; have hcz194 := cs2 BK600.out; have hcz199 := cs2 BK602.out))
     go_ret
     exact ⟨rr_, bl_⟩
    rw [if_pos c150] at H
    have c150b0 : (t595 == 0 && (t596 == 0)) = true := c150
    (try (have c150b1 : decide (t595 = 0 && (t596 == 0)) = true := by simpa using c150))
    (try (have c150b2 : (t595 == 0 && (t596 == 0)) = true := by simpa using c150))
    clear c150
    by_cases c151 : (t597 == 0 && (t598 == 0)) = true
    rotate_left
    ·
     rw [if_neg c151] at H
     have c151b0 : (t597 == 0 && (t598 == 0)) = false := by simpa using c151
     (try (have c151b1 : decide (t597 = 0 && (t598 == 0)) = false := by simpa using c151))
     (try (have c151b2 : (t597 == 0 && (t598 == 0)) = false := by simpa using c151))
     (try (have c151b3 : ¬ (t597 = 0 && (t598 == 0)) := by simpa using c151))
     clear c151; obtain rfl := Option.some.inj H
     go_wp2_with (first | ((with_reducible refine gC 19 rfl ?_); refine goesL1 (some 55) Tryd.func19 #[.int .i64 t599] rfl (map1 rfl) ?_; (with_reducible refine (quilllaw16_num.calls A148.out).mono ?_); rintro e w' ⟨rfl, nd, rfl⟩; refine ⟨_, rfl, ?_⟩; have hcz176 := cs2 BK600.out; have hcz181 := cs2 BK602.out; have hcz185 := cs2 BK601.out; have hcz188 := cs2 BK603.out))
     go_ret
     exact ⟨rr_, bl_⟩
    rw [if_pos c151] at H
    have c151b0 : (t597 == 0 && (t598 == 0)) = true := c151
    (try (have c151b1 : decide (t597 = 0 && (t598 == 0)) = true := by simpa using c151))
    (try (have c151b2 : (t597 == 0 && (t598 == 0)) = true := by simpa using c151))
    clear c151; replace H := bindA H; obtain ⟨t614, A152, H⟩ := H; (try dsimp only at H); obtain rfl := Option.some.inj H
    go_wp2_with (first | ((with_reducible refine gC 19 rfl ?_); refine goesL1 (some 55) Tryd.func19 #[.int .i64 t599] rfl (map1 rfl) ?_; (with_reducible refine (quilllaw16_num.calls A148.out).mono ?_); rintro e w' ⟨rfl, nd, rfl⟩; refine ⟨_, rfl, ?_⟩; have hcz158 := cs2 BK600.out; have hcz163 := cs2 BK602.out; have hcz167 := cs2 BK601.out; have hcz170 := cs2 BK603.out) | (go_at_call 38; refine cm_ (quillref0_EqMarks.calls sd_ sd_ sd_ sd_ A152.out) ?_; rintro e w' ⟨rfl, nd, rfl⟩))
    go_ret
    exact ⟨rr_, bl_⟩
   replace H := bindA H; obtain ⟨⟨t606, t607, t608, t609, t610⟩, A58, H⟩ := H; (try dsimp only at H); replace H := bindA H; obtain ⟨t611, A59, H⟩ := H; (try dsimp only at H); replace H := nfe H; obtain ⟨c60b0, c60b1, H⟩ | ⟨c60b0, c60b1, H⟩ := H
   ·
    obtain rfl := Option.some.inj H; have hcz134 := cs6 BK590.out; have hcz139 := cs2 BK591.out
    go_wp2_with (first | ((with_reducible refine gC 37 rfl ?_); refine goesL1 (some 50) Tryd.func37 #[.slice A1 l1.length c1, .int .i64 a2, .agg #[.int .i64 a3_0, .int .i64 a3_1, .int .i64 a3_2, .int .i64 a3_3, .int .i64 a3_4, .int .i64 a3_5], .agg #[.int .i64 a4_0, .int .i64 a4_1], .slice A5 l5.length c5] rfl (map5 rfl rfl rfl rfl rfl) ?_; refine cm_ (quillref15_Go.calls sd_ sd_ sd_ sd_ A58.out) ?_; rintro e w140 ⟨rfl, hb⟩; refine ⟨_, rfl, ?_⟩; replace HO_13 := Aside0.mk (Kd.R_below (ro_ HO_13) hb); replace BK590 := blB hb BK590; replace BK591 := blB hb BK591; replace BK600 := blB hb BK600; replace BK601 := blB hb BK601; replace BK602 := blB hb BK602; replace BK603 := blB hb BK603; replace HB := hB hb; (try clear hb); have hcz144 := cs2 BK602.out; have hcz147 := cs2 BK603.out) | ((with_reducible refine gC 19 rfl ?_); refine goesL1 (some 55) Tryd.func19 #[.int .i64 t599] rfl (map1 rfl) ?_; (with_reducible refine (quilllaw16_num.calls A59.out).mono ?_); rintro e w' ⟨rfl, nd, rfl⟩; refine ⟨_, rfl, ?_⟩))
    go_ret
    exact ⟨rr_, bl_⟩
   by_cases c61 : (t595 == t606 && (t596 == t607)) = true
   rotate_left
   ·
    rw [if_neg c61] at H
    have c61b0 : (t595 == t606 && (t596 == t607)) = false := by simpa using c61
    (try (have c61b1 : decide (t595 = t606 && (t596 == t607)) = false := by simpa using c61))
    (try (have c61b2 : (t595 == t606 && (t596 == t607)) = false := by simpa using c61))
    (try (have c61b3 : ¬ (t595 = t606 && (t596 == t607)) := by simpa using c61))
    clear c61; obtain rfl := Option.some.inj H; have hcz113 := cs6 BK590.out; have hcz118 := cs2 BK591.out
    go_wp2_with (first | ((with_reducible refine gC 37 rfl ?_); refine goesL1 (some 50) Tryd.func37 #[.slice A1 l1.length c1, .int .i64 a2, .agg #[.int .i64 a3_0, .int .i64 a3_1, .int .i64 a3_2, .int .i64 a3_3, .int .i64 a3_4, .int .i64 a3_5], .agg #[.int .i64 a4_0, .int .i64 a4_1], .slice A5 l5.length c5] rfl (map5 rfl rfl rfl rfl rfl) ?_; refine cm_ (quillref15_Go.calls sd_ sd_ sd_ sd_ A58.out) ?_; rintro e w119 ⟨rfl, hb⟩; refine ⟨_, rfl, ?_⟩; replace HO_13 := Aside0.mk (Kd.R_below (ro_ HO_13) hb); replace BK590 := blB hb BK590; replace BK591 := blB hb BK591; replace BK600 := blB hb BK600; replace BK601 := blB hb BK601; replace BK602 := blB hb BK602; replace BK603 := blB hb BK603; replace HB := hB hb; (try clear hb); have hcz123 := cs2 BK602.out; have hcz126 := cs2 BK603.out) | ((with_reducible refine gC 19 rfl ?_); refine goesL1 (some 55) Tryd.func19 #[.int .i64 t599] rfl (map1 rfl) ?_; (with_reducible refine (quilllaw16_num.calls A59.out).mono ?_); rintro e w' ⟨rfl, nd, rfl⟩; refine ⟨_, rfl, ?_⟩; have hcz128 := cs2 BK600.out))
    go_ret
    exact ⟨rr_, bl_⟩
   rw [if_pos c61] at H
   have c61b0 : (t595 == t606 && (t596 == t607)) = true := c61
   (try (have c61b1 : decide (t595 = t606 && (t596 == t607)) = true := by simpa using c61))
   (try (have c61b2 : (t595 == t606 && (t596 == t607)) = true := by simpa using c61))
   clear c61
   by_cases c62 : (t597 == t608 && (t598 == t609)) = true
   rotate_left
   ·
    rw [if_neg c62] at H
    have c62b0 : (t597 == t608 && (t598 == t609)) = false := by simpa using c62
    (try (have c62b1 : decide (t597 = t608 && (t598 == t609)) = false := by simpa using c62))
    (try (have c62b2 : (t597 == t608 && (t598 == t609)) = false := by simpa using c62))
    (try (have c62b3 : ¬ (t597 = t608 && (t598 == t609)) := by simpa using c62))
    clear c62; obtain rfl := Option.some.inj H; have hcz91 := cs6 BK590.out; have hcz96 := cs2 BK591.out
    go_wp2_with (first | ((with_reducible refine gC 37 rfl ?_); refine goesL1 (some 50) Tryd.func37 #[.slice A1 l1.length c1, .int .i64 a2, .agg #[.int .i64 a3_0, .int .i64 a3_1, .int .i64 a3_2, .int .i64 a3_3, .int .i64 a3_4, .int .i64 a3_5], .agg #[.int .i64 a4_0, .int .i64 a4_1], .slice A5 l5.length c5] rfl (map5 rfl rfl rfl rfl rfl) ?_; refine cm_ (quillref15_Go.calls sd_ sd_ sd_ sd_ A58.out) ?_; rintro e w97 ⟨rfl, hb⟩; refine ⟨_, rfl, ?_⟩; replace HO_13 := Aside0.mk (Kd.R_below (ro_ HO_13) hb); replace BK590 := blB hb BK590; replace BK591 := blB hb BK591; replace BK600 := blB hb BK600; replace BK601 := blB hb BK601; replace BK602 := blB hb BK602; replace BK603 := blB hb BK603; replace HB := hB hb; (try clear hb); have hcz101 := cs2 BK602.out; have hcz104 := cs2 BK603.out) | ((with_reducible refine gC 19 rfl ?_); refine goesL1 (some 55) Tryd.func19 #[.int .i64 t599] rfl (map1 rfl) ?_; (with_reducible refine (quilllaw16_num.calls A59.out).mono ?_); rintro e w' ⟨rfl, nd, rfl⟩; refine ⟨_, rfl, ?_⟩; have hcz106 := cs2 BK600.out; have hcz107 := cs2 BK601.out))
    go_ret
    exact ⟨rr_, bl_⟩
   rw [if_pos c62] at H
   have c62b0 : (t597 == t608 && (t598 == t609)) = true := c62
   (try (have c62b1 : decide (t597 = t608 && (t598 == t609)) = true := by simpa using c62))
   (try (have c62b2 : (t597 == t608 && (t598 == t609)) = true := by simpa using c62))
   clear c62; replace H := bindA H; obtain ⟨t612, A63, H⟩ := H; (try dsimp only at H); obtain rfl := Option.some.inj H; have hcz69 := cs6 BK590.out; have hcz74 := cs2 BK591.out
   go_wp2_with (first | ((with_reducible refine gC 37 rfl ?_); refine goesL1 (some 50) Tryd.func37 #[.slice A1 l1.length c1, .int .i64 a2, .agg #[.int .i64 a3_0, .int .i64 a3_1, .int .i64 a3_2, .int .i64 a3_3, .int .i64 a3_4, .int .i64 a3_5], .agg #[.int .i64 a4_0, .int .i64 a4_1], .slice A5 l5.length c5] rfl (map5 rfl rfl rfl rfl rfl) ?_; refine cm_ (quillref15_Go.calls sd_ sd_ sd_ sd_ A58.out) ?_; rintro e w75 ⟨rfl, hb⟩; refine ⟨_, rfl, ?_⟩; replace HO_13 := Aside0.mk (Kd.R_below (ro_ HO_13) hb); replace BK590 := blB hb BK590; replace BK591 := blB hb BK591; replace BK600 := blB hb BK600; replace BK601 := blB hb BK601; replace BK602 := blB hb BK602; replace BK603 := blB hb BK603; replace HB := hB hb; (try clear hb); have hcz79 := cs2 BK602.out; have hcz82 := cs2 BK603.out) | ((with_reducible refine gC 19 rfl ?_); refine goesL1 (some 55) Tryd.func19 #[.int .i64 t599] rfl (map1 rfl) ?_; (with_reducible refine (quilllaw16_num.calls A59.out).mono ?_); rintro e w' ⟨rfl, nd, rfl⟩; refine ⟨_, rfl, ?_⟩; have hcz84 := cs2 BK600.out; have hcz85 := cs2 BK601.out) | (go_at_call 38; (with_reducible refine (quillref0_EqMarks.calls ?side1 ?_ ?side3 ?_ A63.out).mono ?_); (case side1 => refine (Kd.R_reads' (e := 89) (base := w.heap.size) (ok := fun k_ => True) (n := t592.length) (c := co16) ?_).2.2; exact (by (with_reducible repeat (first | apply Kd.R_alloc | apply Kd.R_drewN | apply Kd.R_drew)); exact (Kd.R_mono (Kd.R_mono (Kd.R_far (p := ⟨gb603, 1, none⟩) (Kd.R_far (p := ⟨gb603, 0, none⟩) (Kd.R_far (p := ⟨gb602, 1, none⟩) (Kd.R_far (p := ⟨gb602, 0, none⟩) (Kd.R_types (Kd.R_types HO_13.out BK602.out (by decide)) BK603.out (by decide)) (fun _ hk => hk.1.2) (.int .i64 t606)) (fun _ hk => hk.1.2) (.int .i64 t607)) (fun _ hk => hk.2) (.int .i64 t608)) (fun _ hk => hk.2) (.int .i64 t609)) (fun _ h_ => h_.1)) (fun _ h_ => h_.1)))); (case side3 => exact Kd.C_below HR5.out bl_); (iterate 2 (exact sd_)); rintro e w' ⟨rfl, nd, rfl⟩))
   go_ret
   exact ⟨rr_, bl_⟩

/-! ### quilllaw16_wakes: function 17 -/
def quilllaw16_wakes.f (k : Nat)  : Option (Bool) := (move_Go.f k (⟨#[97, 98, 32, 99, 100]⟩ : ByteArray) 0 0 0 0 119 0 0 0 0 ([] : List (S89))).bind fun bt615 => ((quilllaw16_num.f bt615.2.2.2.2).bind fun t622 => (if t622 = 0 then (some (bt615.1 == 3 && (bt615.2.1 == 0))) else (some false)))
theorem quilllaw16_wakes.calls {k : Nat}  {r : Bool} {w : World} (hT : Tabs w) (H : quilllaw16_wakes.f k  = some r) :
  Calls Tryd.prog 17 #[] w fun e w' => e = .returned (.bool r) ∧ Below w.heap.size w w' := by
 have hu52 := Tryd.underlying52; have hu31 := Tryd.underlying31; have hu54 := Tryd.underlying54; have HT := Aside0.mk hT; clear hT; have HB := Aside0.mk (Below.refl w.heap.size w); unfold quilllaw16_wakes.f at H; replace H := bindA H; obtain ⟨⟨t615, t616, t617, t618, t619⟩, A1, H⟩ := H; (try dsimp only at H); replace H := bindA H; obtain ⟨t622, A2, H⟩ := H; (try dsimp only at H); replace H := ife H
 obtain ⟨c3b0, c3b1, H⟩ | ⟨c3b0, c3b1, H⟩ := H
 ·
  obtain rfl := Option.some.inj H; go_enter Tryd.func17, Tryd.ntmps17
  go_wp2_with (first | ((with_reducible refine gC 18 rfl ?_); refine goesL1 (some 7) Tryd.func18 #[.string (⟨#[97, 98, 32, 99, 100]⟩ : ByteArray), .int .i64 0, .agg #[.int .i64 0, .int .i64 0, .int .i64 0, .int .i64 119, .int .i64 0, .int .i64 0], .agg #[.int .i64 0, .int .i64 0], .slice none 0 0] rfl (map5 rfl rfl rfl rfl rfl) ?_; (refine (move_Go.calls ?side1 ?side2 ?side3 A1.out).mono ?_); (case side1 => exact Tabs.below HT.out bl_); (case side2 => exact Kd.C_nil _ _); (case side3 => exact Nat.le_refl _); rintro e w4 ⟨rfl, hb⟩; refine ⟨_, rfl, ?_⟩; replace HB := hB hb; (try clear hb)) | ((with_reducible refine gN 1 rfl ?_); refine bx 1 #[.int .i64 0, .int .i64 0] 54 ?_; intro gb620 hg w5 hbox hb; have BK620 := Aside0.mk hbox; have GW620 := gE hg; have GE620 := GW620; replace HB := hB hb; clear hb hbox hg) | ((with_reducible refine gN 2 rfl ?_); refine bx 2 #[.int .i64 0, .int .i64 0] 31 ?_; intro gb621 hg w6 hbox hb; have BK621 := Aside0.mk hbox; have GW621 := gE hg; have GE621 := GW621; have NB620_621 := nbl hg BK620.out; have NB621_620 := nbr hg BK620.out; replace BK620 := blB hb BK620; replace HB := hB hb; clear hb hbox hg; have hcz8 := cs2 BK620.out; have hcz9 := cs2 BK621.out) | ((with_reducible refine gC 19 rfl ?_); refine goesL1 (some 12) Tryd.func19 #[.int .i64 t619] rfl (map1 rfl) ?_; (with_reducible refine (quilllaw16_num.calls A2.out).mono ?_); rintro e w' ⟨rfl, nd, rfl⟩; refine ⟨_, rfl, ?_⟩))
  go_ret
  exact ⟨rr_, bl_⟩
 obtain rfl := Option.some.inj H; go_enter Tryd.func17, Tryd.ntmps17
 go_wp2_with (first | ((with_reducible refine gC 18 rfl ?_); refine goesL1 (some 7) Tryd.func18 #[.string (⟨#[97, 98, 32, 99, 100]⟩ : ByteArray), .int .i64 0, .agg #[.int .i64 0, .int .i64 0, .int .i64 0, .int .i64 119, .int .i64 0, .int .i64 0], .agg #[.int .i64 0, .int .i64 0], .slice none 0 0] rfl (map5 rfl rfl rfl rfl rfl) ?_; (refine (move_Go.calls ?side1 ?side2 ?side3 A1.out).mono ?_); (case side1 => exact Tabs.below HT.out bl_); (case side2 => exact Kd.C_nil _ _); (case side3 => exact Nat.le_refl _); rintro e w10 ⟨rfl, hb⟩; refine ⟨_, rfl, ?_⟩; replace HB := hB hb; (try clear hb)) | ((with_reducible refine gN 1 rfl ?_); refine bx 1 #[.int .i64 0, .int .i64 0] 54 ?_; intro gb620 hg w11 hbox hb; have BK620 := Aside0.mk hbox; have GW620 := gE hg; have GE620 := GW620; replace HB := hB hb; clear hb hbox hg) | ((with_reducible refine gN 2 rfl ?_); refine bx 2 #[.int .i64 0, .int .i64 0] 31 ?_; intro gb621 hg w12 hbox hb; have BK621 := Aside0.mk hbox; have GW621 := gE hg; have GE621 := GW621; have NB620_621 := nbl hg BK620.out; have NB621_620 := nbr hg BK620.out; replace BK620 := blB hb BK620; replace HB := hB hb; clear hb hbox hg; have hcz14 := cs2 BK620.out; have hcz15 := cs2 BK621.out) | ((with_reducible refine gC 19 rfl ?_); refine goesL1 (some 12) Tryd.func19 #[.int .i64 t619] rfl (map1 rfl) ?_; (with_reducible refine (quilllaw16_num.calls A2.out).mono ?_); rintro e w' ⟨rfl, nd, rfl⟩; refine ⟨_, rfl, ?_⟩))
 go_ret
 exact ⟨rr_, bl_⟩

end Go.Proofs.YtbgmmcngkdhpcaaDoor.P
