/- The walks of the functions that these statements reach: each Go function as a plain Lean function, and the proof that its call comes to that. Written by the session's program wip/pp.py. -/
import Derived.Test.YtbgmmcngkdhpcaaDoorP0
import Derived.Test.YtbgmmcngkdhpcaaDoorP6
namespace Go.Proofs.YtbgmmcngkdhpcaaDoor.P
open Go.Proofs.YtbgmmcngkdhpcaaDoor
open Go.RowKit Go.Proofs.YtbgmmcngkdhpcaaDoorW.PrintWords Go.Proofs.YtbgmmcngkdhpcaaDoorW.PrintLast Go.Proofs.YtbgmmcngkdhpcaaDoorW.PrintMore
attribute [local go_sem] cell_isSome max2_int min2_int max_two min_two max_three min_three max_four min_four   -- for this text's walks alone
set_option linter.unusedVariables false
set_option linter.unusedSimpArgs false
set_option maxHeartbeats 8000000
set_option maxRecDepth 100000

/-! ### words_ends: function 116 -/
def words_ends.f (l0 : List (S142)) (a1 : Int) : Option (Bool) := if 0 ≤ a1 then (if a1 < (l0.length : Int) then (if ((rd_T142 l0 a1).f1) = 0 then (some false) else (if (rd_T142 l0 a1).f3 = true then (some true) else (if 0 ≤ (wrap64 (a1 + 1)) then (if (wrap64 (a1 + 1)) < (l0.length : Int) then (some (((rd_T142 l0 (wrap64 (a1 + 1))).f1) != ((rd_T142 l0 a1).f1))) else (none)) else (none)))) else (none)) else (none)
theorem words_ends.calls {A0 : Option Addr} {c0 : Nat} {l0 : List (S142)} {a1 : Int} {r : Bool} {w : World} (hr0 : Kd.C k142 w A0 l0.length l0) (hc0 : l0.length ≤ c0) (H : words_ends.f l0 a1 = some r) :
  Calls Tryd.prog 116 #[.slice A0 l0.length c0, .int .i64 a1] w fun e w' => e = .returned (.bool r) ∧ Drawn0 w w' := by
 have HR0 := Aside0.mk hr0; have HC0 := Aside0.mk hc0; clear hr0 hc0; unfold words_ends.f at H; replace H := ifq H; obtain ⟨c3b0, c4b0, H⟩ := H; replace H := ife H; obtain ⟨c5b0, c5b1, H⟩ | ⟨c5b0, c5b1, H⟩ := H
 ·
  obtain rfl := Option.some.inj H; obtain ⟨p161, q161, ad161, e161, hx161_0, hx161_1, hx161_2, hx161_3⟩ := ix_ (at_T142 HR0.out a1); cases e161; go_enter Tryd.func116, Tryd.ntmps116
  go_wp2
  repeat (go_quiet (fail); try go_wp2)
  go_ret
  exact ⟨r3_, dr_⟩
 obtain ⟨bq6, hbq6⟩ : ∃ b_ : Bool, b_ = ((rd_T142 l0 a1).f3) := ⟨_, rfl⟩
 replace H : (if bq6 = true then (some true) else (if 0 ≤ (wrap64 (a1 + 1)) then (if (wrap64 (a1 + 1)) < (l0.length : Int) then (some (((rd_T142 l0 (wrap64 (a1 + 1))).f1) != ((rd_T142 l0 a1).f1))) else (none)) else (none))) = some r := by rw [← hbq6] at H; exact H
 have Nbq6 := Aside0.mk hbq6; clear hbq6; replace H := ifb H; obtain ⟨rfl, H⟩ | ⟨rfl, H⟩ := H
 ·
  obtain rfl := Option.some.inj H; have p161 := od_ (0 ≤ (a1 : Int)); have q161 := od_ (a1 < (l0.length : Int)); obtain ⟨ad161, e161, hx161_0, hx161_1, hx161_2, hx161_3⟩ := at_T142 HR0.out a1 p161 q161; (try rw [← Nbq6.out] at hx161_2); (try rw [← Nbq6.out] at hx161_3); cases e161; replace p161 := eq_true p161; replace q161 := eq_true q161; have p162 := od_ (0 ≤ (a1 : Int)); have q162 := od_ (a1 < (l0.length : Int))
  obtain ⟨ad162, e162, hx162_0, hx162_1, hx162_2, hx162_3⟩ := at_T142 HR0.out a1 p162 q162; (try rw [← Nbq6.out] at hx162_2); (try rw [← Nbq6.out] at hx162_3); obtain rfl : ad161 = ad162 := (by injection e162); replace p162 := eq_true p162; replace q162 := eq_true q162; go_enter Tryd.func116, Tryd.ntmps116
  go_wp2
  repeat (go_quiet (fail); try go_wp2)
  go_ret
  exact ⟨r3_, dr_⟩
 obtain ⟨ji8, hji8⟩ : ∃ j_ : Int, (wrap64 (a1 + 1)) = j_ := ⟨_, rfl⟩; (first | rw [hji8] at H | simp only [hji8] at H)
 have hji8w : (IntKind.i64.wrap (a1 + 1)) = ji8 := (i64_w _).trans hji8
 replace H := ifq H; obtain ⟨c9b0, c10b0, H⟩ := H; obtain rfl := Option.some.inj H; have p161 := od_ (0 ≤ (a1 : Int)); have q161 := od_ (a1 < (l0.length : Int)); obtain ⟨ad161, e161, hx161_0, hx161_1, hx161_2, hx161_3⟩ := at_T142 HR0.out a1 p161 q161; (try rw [← Nbq6.out] at hx161_2); (try rw [← Nbq6.out] at hx161_3); cases e161; replace p161 := eq_true p161; replace q161 := eq_true q161; have p162 := od_ (0 ≤ (a1 : Int))
 have q162 := od_ (a1 < (l0.length : Int)); obtain ⟨ad162, e162, hx162_0, hx162_1, hx162_2, hx162_3⟩ := at_T142 HR0.out a1 p162 q162; (try rw [← Nbq6.out] at hx162_2); (try rw [← Nbq6.out] at hx162_3); obtain rfl : ad161 = ad162 := (by injection e162); replace p162 := eq_true p162; replace q162 := eq_true q162; have p163 := od_ (0 ≤ ((ji8) : Int)); have q163 := od_ ((ji8) < (l0.length : Int)); obtain ⟨ad163, e163, hx163_0, hx163_1, hx163_2, hx163_3⟩ := at_T142 HR0.out (ji8) p163 q163
 (try rw [← Nbq6.out] at hx163_2); (try rw [← Nbq6.out] at hx163_3); obtain rfl : ad161 = ad163 := (by injection e163); replace p163 := eq_true p163; replace q163 := eq_true q163; have p164 := od_ (0 ≤ (a1 : Int)); have q164 := od_ (a1 < (l0.length : Int)); obtain ⟨ad164, e164, hx164_0, hx164_1, hx164_2, hx164_3⟩ := at_T142 HR0.out a1 p164 q164; (try rw [← Nbq6.out] at hx164_2); (try rw [← Nbq6.out] at hx164_3)
 obtain rfl : ad161 = ad164 := (by injection e164); replace p164 := eq_true p164; replace q164 := eq_true q164; go_enter Tryd.func116, Tryd.ntmps116
 go_wp2
 repeat (go_quiet (fail); try go_wp2)
 go_ret
 exact ⟨by first | rfl | (simp; done) | (simp only [← hji8] <;> (first | rfl | simp)) | (simp [*]; done), dr_⟩

/-! ### words_behind_begins: function 1000113 -/
def words_behind_begins.l0 : Nat → List (S142) → Int → List (S142) → Int → Int → Option (Int)
  | 0, _, _, _, _, _ => none
  | k + 1, x0, x1, x9, x10, x11 => if x11 < x10 then (if 0 ≤ x11 then (if x11 < (x9.length : Int) then (if ((rd_T142 x9 x11).f0) > x1 then ((words_begins.f x0 x11).bind fun t167 => (if t167 = true then (some ((rd_T142 x9 x11).f0)) else (words_behind_begins.l0 k x0 x1 x9 x10 (wrap64 (x11 + 1))))) else (words_behind_begins.l0 k x0 x1 x9 x10 (wrap64 (x11 + 1)))) else (none)) else (none)) else (if 0 ≤ (wrap64 ((x0.length : Int) - 1)) then (if (wrap64 ((x0.length : Int) - 1)) < (x0.length : Int) then (some ((rd_T142 x0 (wrap64 ((x0.length : Int) - 1))).f0)) else (none)) else (none))
def words_behind_begins.f (k : Nat) (l0 : List (S142)) (a1 : Int)  : Option (Int) := words_behind_begins.l0 k l0 a1 l0 (l0.length : Int) 0
theorem words_behind_begins.calls {k : Nat} {A0 : Option Addr} {c0 : Nat} {l0 : List (S142)} {a1 : Int}  {r : Int} {w : World} (hr0 : Kd.C k142 w A0 l0.length l0) (hc0 : l0.length ≤ c0) (H : words_behind_begins.f k l0 a1 = some r) :
  Calls Tryd.prog 113 #[.slice A0 l0.length c0, .int .i64 a1, .func (.func 114) #[] #[]] w fun e w' => e = .returned (.int .i64 r) ∧ Below w.heap.size w w' := by
 have hu142 := Tryd.underlying142; have HR0 := Aside0.mk hr0; have HC0 := Aside0.mk hc0; clear hr0 hc0; have HB := Aside0.mk (Below.refl w.heap.size w); unfold words_behind_begins.f at H; replace H := Aside0.mk H; go_enter Tryd.func113, Tryd.ntmps113
 go_wp2
 go_loopg [11] k (fun kq v11 w' => ∃ (x11_1 : Int), v11 = .int .i64 x11_1 ∧ Aside0 (words_behind_begins.l0 kq l0 a1 l0 (l0.length : Int) x11_1 = some r) ∧ Aside0 (kq ≤ k) ∧ Aside0 (Below w.heap.size w w'))
 case atStart => exact ⟨(0), r3_, H, ⟨Nat.le_refl _⟩, ⟨bl_⟩⟩
 case round =>
  clear H; obtain ⟨x11_1, rfl, HA, HK1, HB⟩ := hrel
  cases gk with
  | zero => exact absurd HA.out (by simp [words_behind_begins.l0])
  | succ k1 =>
   obtain ⟨H⟩ := HA; simp only [words_behind_begins.l0] at H; replace H := nfd H; obtain ⟨c4b0, H⟩ | ⟨c4b0, H⟩ := H
   ·
    obtain ⟨ji16, hji16⟩ : ∃ j_ : Int, (wrap64 ((l0.length : Int) - 1)) = j_ := ⟨_, rfl⟩; (first | rw [hji16] at H | simp only [hji16] at H)
    have hji16w : (IntKind.i64.wrap ((l0.length : Int) - 1)) = ji16 := (i64_w _).trans hji16
    replace H := ifq H; obtain ⟨c17b0, c18b0, H⟩ := H; obtain rfl := Option.some.inj H; obtain ⟨p168, q168, ad168, e168, hx168_0, hx168_1, hx168_2, hx168_3⟩ := ix_ (at_T142 HR0.out (ji16)); cases e168; replace hx168_0 := hb_ HB hx168_0; replace hx168_1 := hb_ HB hx168_1; replace hx168_2 := hb_ HB hx168_2; replace hx168_3 := hb_ HB hx168_3; go_wp2; go_ret
    exact ⟨by first | exact rr_ | (simp only [← hji16]; exact rr_), bl_⟩
   replace H := ifq H; obtain ⟨c5b0, c6b0, H⟩ := H; replace H := nfd H; obtain ⟨c7b0, H⟩ | ⟨c7b0, H⟩ := H
   ·
    replace H := Aside0.mk H; obtain ⟨p165, q165, ad165, e165, hx165_0, hx165_1, hx165_2, hx165_3⟩ := ix_ (at_T142 HR0.out x11_1); cases e165; replace hx165_0 := hb_ HB hx165_0; replace hx165_1 := hb_ HB hx165_1; replace hx165_2 := hb_ HB hx165_2; replace hx165_3 := hb_ HB hx165_3
    go_wp2_with (first | ((with_reducible refine gN 8 rfl ?_); refine bx 8 #[.int .i64 0, .int .i64 0, .bool false, .bool false] 142 ?_; intro gb166 hg w14 hbox hb; have BK166 := Aside0.mk hbox; have GW166 := gE hg; have GE166 := GW166; replace HB := hB hb; clear hb hbox hg; have hcz15_0 := cz0 BK166.out; have hcz15_1 := cz1 BK166.out; have hcz15_2 := cz2 BK166.out; have hcz15_3 := cz3 BK166.out; have hfz15_0 := blk_frozen BK166.out 0; have hfz15_1 := blk_frozen BK166.out 1; have hfz15_2 := blk_frozen BK166.out 2; have hfz15_3 := blk_frozen BK166.out 3))
    go_roundg k1
    case measure => have := HK1.out; omega
    case rel => exact ⟨(wrap64 (x11_1 + 1)), r3_, H, ⟨by have := HK1.out; omega⟩, ⟨bl_⟩⟩
   replace H := bindA H; obtain ⟨t167, A8, H⟩ := H; (try dsimp only at H); replace H := ifb H; obtain ⟨rfl, H⟩ | ⟨rfl, H⟩ := H
   ·
    obtain rfl := Option.some.inj H; obtain ⟨p165, q165, ad165, e165, hx165_0, hx165_1, hx165_2, hx165_3⟩ := ix_ (at_T142 HR0.out x11_1); cases e165; replace hx165_0 := hb_ HB hx165_0; replace hx165_1 := hb_ HB hx165_1; replace hx165_2 := hb_ HB hx165_2; replace hx165_3 := hb_ HB hx165_3
    go_wp2_with (first | ((with_reducible refine gN 8 rfl ?_); refine bx 8 #[.int .i64 0, .int .i64 0, .bool false, .bool false] 142 ?_; intro gb166 hg w10 hbox hb; have BK166 := Aside0.mk hbox; have GW166 := gE hg; have GE166 := GW166; replace HB := hB hb; clear hb hbox hg; have hcz11_0 := cz0 BK166.out; have hcz11_1 := cz1 BK166.out; have hcz11_2 := cz2 BK166.out; have hcz11_3 := cz3 BK166.out; have hfz11_0 := blk_frozen BK166.out 0; have hfz11_1 := blk_frozen BK166.out 1; have hfz11_2 := blk_frozen BK166.out 2; have hfz11_3 := blk_frozen BK166.out 3) | (go_at_call 114; (with_reducible refine (words_begins.calls ?side1 ?side2 A8.out).mono ?_); (case side1 => exact Kd.C_below HR0.out bl_); (case side2 => exact HC0.out); rintro e w' ⟨rfl, nd, rfl⟩))
    go_ret
    exact ⟨rr_, bl_⟩
   replace H := Aside0.mk H; obtain ⟨p165, q165, ad165, e165, hx165_0, hx165_1, hx165_2, hx165_3⟩ := ix_ (at_T142 HR0.out x11_1); cases e165; replace hx165_0 := hb_ HB hx165_0; replace hx165_1 := hb_ HB hx165_1; replace hx165_2 := hb_ HB hx165_2; replace hx165_3 := hb_ HB hx165_3
   go_wp2_with (first | ((with_reducible refine gN 8 rfl ?_); refine bx 8 #[.int .i64 0, .int .i64 0, .bool false, .bool false] 142 ?_; intro gb166 hg w12 hbox hb; have BK166 := Aside0.mk hbox; have GW166 := gE hg; have GE166 := GW166; replace HB := hB hb; clear hb hbox hg; have hcz13_0 := cz0 BK166.out; have hcz13_1 := cz1 BK166.out; have hcz13_2 := cz2 BK166.out; have hcz13_3 := cz3 BK166.out; have hfz13_0 := blk_frozen BK166.out 0; have hfz13_1 := blk_frozen BK166.out 1; have hfz13_2 := blk_frozen BK166.out 2; have hfz13_3 := blk_frozen BK166.out 3) | (go_at_call 114; (with_reducible refine (words_begins.calls ?side1 ?side2 A8.out).mono ?_); (case side1 => exact Kd.C_below HR0.out bl_); (case side2 => exact HC0.out); rintro e w' ⟨rfl, nd, rfl⟩))
   go_roundg k1
   case measure => have := HK1.out; omega
   case rel => exact ⟨(wrap64 (x11_1 + 1)), r3_, H, ⟨by have := HK1.out; omega⟩, ⟨bl_⟩⟩

/-! ### words_behind_ends: function 2000113 -/
def words_behind_ends.l0 : Nat → List (S142) → Int → List (S142) → Int → Int → Option (Int)
  | 0, _, _, _, _, _ => none
  | k + 1, x0, x1, x9, x10, x11 => if x11 < x10 then (if 0 ≤ x11 then (if x11 < (x9.length : Int) then (if ((rd_T142 x9 x11).f0) > x1 then ((words_ends.f x0 x11).bind fun t171 => (if t171 = true then (some ((rd_T142 x9 x11).f0)) else (words_behind_ends.l0 k x0 x1 x9 x10 (wrap64 (x11 + 1))))) else (words_behind_ends.l0 k x0 x1 x9 x10 (wrap64 (x11 + 1)))) else (none)) else (none)) else (if 0 ≤ (wrap64 ((x0.length : Int) - 1)) then (if (wrap64 ((x0.length : Int) - 1)) < (x0.length : Int) then (some ((rd_T142 x0 (wrap64 ((x0.length : Int) - 1))).f0)) else (none)) else (none))
def words_behind_ends.f (k : Nat) (l0 : List (S142)) (a1 : Int)  : Option (Int) := words_behind_ends.l0 k l0 a1 l0 (l0.length : Int) 0
theorem words_behind_ends.calls {k : Nat} {A0 : Option Addr} {c0 : Nat} {l0 : List (S142)} {a1 : Int}  {r : Int} {w : World} (hr0 : Kd.C k142 w A0 l0.length l0) (hc0 : l0.length ≤ c0) (H : words_behind_ends.f k l0 a1 = some r) :
  Calls Tryd.prog 113 #[.slice A0 l0.length c0, .int .i64 a1, .func (.func 116) #[] #[]] w fun e w' => e = .returned (.int .i64 r) ∧ Below w.heap.size w w' := by
 have hu142 := Tryd.underlying142; have HR0 := Aside0.mk hr0; have HC0 := Aside0.mk hc0; clear hr0 hc0; have HB := Aside0.mk (Below.refl w.heap.size w); unfold words_behind_ends.f at H; replace H := Aside0.mk H; go_enter Tryd.func113, Tryd.ntmps113
 go_wp2
 go_loopg [11] k (fun kq v11 w' => ∃ (x11_1 : Int), v11 = .int .i64 x11_1 ∧ Aside0 (words_behind_ends.l0 kq l0 a1 l0 (l0.length : Int) x11_1 = some r) ∧ Aside0 (kq ≤ k) ∧ Aside0 (Below w.heap.size w w'))
 case atStart => exact ⟨(0), r3_, H, ⟨Nat.le_refl _⟩, ⟨bl_⟩⟩
 case round =>
  clear H; obtain ⟨x11_1, rfl, HA, HK1, HB⟩ := hrel
  cases gk with
  | zero => exact absurd HA.out (by simp [words_behind_ends.l0])
  | succ k1 =>
   obtain ⟨H⟩ := HA; simp only [words_behind_ends.l0] at H; replace H := nfd H; obtain ⟨c4b0, H⟩ | ⟨c4b0, H⟩ := H
   ·
    obtain ⟨ji16, hji16⟩ : ∃ j_ : Int, (wrap64 ((l0.length : Int) - 1)) = j_ := ⟨_, rfl⟩; (first | rw [hji16] at H | simp only [hji16] at H)
    have hji16w : (IntKind.i64.wrap ((l0.length : Int) - 1)) = ji16 := (i64_w _).trans hji16
    replace H := ifq H; obtain ⟨c17b0, c18b0, H⟩ := H; obtain rfl := Option.some.inj H; obtain ⟨p172, q172, ad172, e172, hx172_0, hx172_1, hx172_2, hx172_3⟩ := ix_ (at_T142 HR0.out (ji16)); cases e172; replace hx172_0 := hb_ HB hx172_0; replace hx172_1 := hb_ HB hx172_1; replace hx172_2 := hb_ HB hx172_2; replace hx172_3 := hb_ HB hx172_3; go_wp2; go_ret
    exact ⟨by first | exact rr_ | (simp only [← hji16]; exact rr_), bl_⟩
   replace H := ifq H; obtain ⟨c5b0, c6b0, H⟩ := H; replace H := nfd H; obtain ⟨c7b0, H⟩ | ⟨c7b0, H⟩ := H
   ·
    replace H := Aside0.mk H; obtain ⟨p169, q169, ad169, e169, hx169_0, hx169_1, hx169_2, hx169_3⟩ := ix_ (at_T142 HR0.out x11_1); cases e169; replace hx169_0 := hb_ HB hx169_0; replace hx169_1 := hb_ HB hx169_1; replace hx169_2 := hb_ HB hx169_2; replace hx169_3 := hb_ HB hx169_3
    go_wp2_with (first | ((with_reducible refine gN 8 rfl ?_); refine bx 8 #[.int .i64 0, .int .i64 0, .bool false, .bool false] 142 ?_; intro gb170 hg w14 hbox hb; have BK170 := Aside0.mk hbox; have GW170 := gE hg; have GE170 := GW170; replace HB := hB hb; clear hb hbox hg; have hcz15_0 := cz0 BK170.out; have hcz15_1 := cz1 BK170.out; have hcz15_2 := cz2 BK170.out; have hcz15_3 := cz3 BK170.out; have hfz15_0 := blk_frozen BK170.out 0; have hfz15_1 := blk_frozen BK170.out 1; have hfz15_2 := blk_frozen BK170.out 2; have hfz15_3 := blk_frozen BK170.out 3))
    go_roundg k1
    case measure => have := HK1.out; omega
    case rel => exact ⟨(wrap64 (x11_1 + 1)), r3_, H, ⟨by have := HK1.out; omega⟩, ⟨bl_⟩⟩
   replace H := bindA H; obtain ⟨t171, A8, H⟩ := H; (try dsimp only at H); replace H := ifb H; obtain ⟨rfl, H⟩ | ⟨rfl, H⟩ := H
   ·
    obtain rfl := Option.some.inj H; obtain ⟨p169, q169, ad169, e169, hx169_0, hx169_1, hx169_2, hx169_3⟩ := ix_ (at_T142 HR0.out x11_1); cases e169; replace hx169_0 := hb_ HB hx169_0; replace hx169_1 := hb_ HB hx169_1; replace hx169_2 := hb_ HB hx169_2; replace hx169_3 := hb_ HB hx169_3
    go_wp2_with (first | ((with_reducible refine gN 8 rfl ?_); refine bx 8 #[.int .i64 0, .int .i64 0, .bool false, .bool false] 142 ?_; intro gb170 hg w10 hbox hb; have BK170 := Aside0.mk hbox; have GW170 := gE hg; have GE170 := GW170; replace HB := hB hb; clear hb hbox hg; have hcz11_0 := cz0 BK170.out; have hcz11_1 := cz1 BK170.out; have hcz11_2 := cz2 BK170.out; have hcz11_3 := cz3 BK170.out; have hfz11_0 := blk_frozen BK170.out 0; have hfz11_1 := blk_frozen BK170.out 1; have hfz11_2 := blk_frozen BK170.out 2; have hfz11_3 := blk_frozen BK170.out 3) | (go_at_call 116; (with_reducible refine (words_ends.calls ?side1 ?side2 A8.out).mono ?_); (case side1 => exact Kd.C_below HR0.out bl_); (case side2 => exact HC0.out); rintro e w' ⟨rfl, nd, rfl⟩))
    go_ret
    exact ⟨rr_, bl_⟩
   replace H := Aside0.mk H; obtain ⟨p169, q169, ad169, e169, hx169_0, hx169_1, hx169_2, hx169_3⟩ := ix_ (at_T142 HR0.out x11_1); cases e169; replace hx169_0 := hb_ HB hx169_0; replace hx169_1 := hb_ HB hx169_1; replace hx169_2 := hb_ HB hx169_2; replace hx169_3 := hb_ HB hx169_3
   go_wp2_with (first | ((with_reducible refine gN 8 rfl ?_); refine bx 8 #[.int .i64 0, .int .i64 0, .bool false, .bool false] 142 ?_; intro gb170 hg w12 hbox hb; have BK170 := Aside0.mk hbox; have GW170 := gE hg; have GE170 := GW170; replace HB := hB hb; clear hb hbox hg; have hcz13_0 := cz0 BK170.out; have hcz13_1 := cz1 BK170.out; have hcz13_2 := cz2 BK170.out; have hcz13_3 := cz3 BK170.out; have hfz13_0 := blk_frozen BK170.out 0; have hfz13_1 := blk_frozen BK170.out 1; have hfz13_2 := blk_frozen BK170.out 2; have hfz13_3 := blk_frozen BK170.out 3) | (go_at_call 116; (with_reducible refine (words_ends.calls ?side1 ?side2 A8.out).mono ?_); (case side1 => exact Kd.C_below HR0.out bl_); (case side2 => exact HC0.out); rintro e w' ⟨rfl, nd, rfl⟩))
   go_roundg k1
   case measure => have := HK1.out; omega
   case rel => exact ⟨(wrap64 (x11_1 + 1)), r3_, H, ⟨by have := HK1.out; omega⟩, ⟨bl_⟩⟩

/-! ### words_ahead: function 115 -/
def words_ahead.l0 : Nat → List (S142) → Int → Int → Option (Int)
  | 0, _, _, _ => none
  | k + 1, x0, x1, x5 => if x5 ≥ 0 then (if 0 ≤ x5 then (if x5 < (x0.length : Int) then (if ((rd_T142 x0 x5).f0) < x1 then ((words_begins.f x0 x5).bind fun t174 => (if t174 = true then (some ((rd_T142 x0 x5).f0)) else (words_ahead.l0 k x0 x1 (wrap64 (x5 - 1))))) else (words_ahead.l0 k x0 x1 (wrap64 (x5 - 1)))) else (none)) else (none)) else (if 0 < (x0.length : Int) then (some ((rd_T142 x0 0).f0)) else (none))
def words_ahead.f (k : Nat) (l0 : List (S142)) (a1 : Int) : Option (Int) := words_ahead.l0 k l0 a1 (wrap64 ((l0.length : Int) - 1))
theorem words_ahead.calls {k : Nat} {A0 : Option Addr} {c0 : Nat} {l0 : List (S142)} {a1 : Int} {r : Int} {w : World} (hr0 : Kd.C k142 w A0 l0.length l0) (hc0 : l0.length ≤ c0) (H : words_ahead.f k l0 a1 = some r) :
  Calls Tryd.prog 115 #[.slice A0 l0.length c0, .int .i64 a1] w fun e w' => e = .returned (.int .i64 r) ∧ Drawn0 w w' := by
 have HR0 := Aside0.mk hr0; have HC0 := Aside0.mk hc0; clear hr0 hc0; unfold words_ahead.f at H; replace H := Aside0.mk H; go_enter Tryd.func115, Tryd.ntmps115
 go_wp2
 go_loopg [5] k (fun kq v5 w' => ∃ (x5_1 : Int), v5 = .int .i64 x5_1 ∧ Aside0 (words_ahead.l0 kq l0 a1 x5_1 = some r) ∧ Aside0 (kq ≤ k) ∧ Drawn0 w w')
 case atStart => exact ⟨(wrap64 ((l0.length : Int) - 1)), r3_, H, ⟨Nat.le_refl _⟩, dr_⟩
 case round =>
  clear H; obtain ⟨x5_1, rfl, HA, HK1, ⟨m1, rfl⟩⟩ := hrel
  cases gk with
  | zero => exact absurd HA.out (by simp [words_ahead.l0])
  | succ k1 =>
   obtain ⟨H⟩ := HA; simp only [words_ahead.l0] at H; replace H := nfd H; obtain ⟨c3b0, H⟩ | ⟨c3b0, H⟩ := H
   ·
    by_cases c9 : 0 < (l0.length : Int)
    rotate_left
    ·
     rw [if_neg c9] at H
     exact absurd H (by simp)
    rw [if_pos c9] at H; have c9b0 := decide_eq_true c9
    have c9b1 : decide (0 < l0.length) = true := decide_eq_true (by omega)
    clear c9; obtain rfl := Option.some.inj H
    have p176 : 0 ≤ (0 : Int) := (by omega)
    have q176 : 0 < (l0.length : Int) := of_decide_eq_true (by assumption)
    obtain ⟨ad176, e176, hx176_0, hx176_1, hx176_2, hx176_3⟩ := at_T142 HR0.out 0 p176 q176; cases e176
    have qi176 : (0 < l0.length) = True := eq_true (by omega)
    (try rw [show ((0 : Int)).toNat = 0 from rfl] at hx176_0); (try rw [show 0 * 4 = 0 from rfl] at hx176_0); (try rw [Addr.add_zero'] at hx176_0); (try rw [show ((0 : Int)).toNat = 0 from rfl] at hx176_1); (try rw [show 0 * 4 = 0 from rfl] at hx176_1); (try rw [Addr.add_zero'] at hx176_1); (try rw [show ((0 : Int)).toNat = 0 from rfl] at hx176_2); (try rw [show 0 * 4 = 0 from rfl] at hx176_2); (try rw [Addr.add_zero'] at hx176_2)
    (try rw [show ((0 : Int)).toNat = 0 from rfl] at hx176_3); (try rw [show 0 * 4 = 0 from rfl] at hx176_3); (try rw [Addr.add_zero'] at hx176_3); replace p176 := eq_true p176; replace q176 := eq_true q176; go_wp2; go_ret
    exact ⟨r3_, dr_⟩
   replace H := ifq H; obtain ⟨c4b0, c5b0, H⟩ := H; replace H := nfd H; obtain ⟨c6b0, H⟩ | ⟨c6b0, H⟩ := H
   ·
    replace H := Aside0.mk H; obtain ⟨p173, q173, ad173, e173, hx173_0, hx173_1, hx173_2, hx173_3⟩ := ix_ (at_T142 HR0.out x5_1); cases e173; go_wp2
    go_roundg k1
    case measure => have := HK1.out; omega
    case rel => exact ⟨(wrap64 (x5_1 - 1)), r3_, H, ⟨by have := HK1.out; omega⟩, dr_⟩
   replace H := bindA H; obtain ⟨t174, A7, H⟩ := H; (try dsimp only at H); replace H := nfb H; obtain ⟨rfl, H⟩ | ⟨rfl, H⟩ := H
   ·
    replace H := Aside0.mk H; obtain ⟨p173, q173, ad173, e173, hx173_0, hx173_1, hx173_2, hx173_3⟩ := ix_ (at_T142 HR0.out x5_1); cases e173
    go_wp2_with (first | (go_at_call 114; refine cm_ (words_begins.calls sd_ sd_ A7.out) ?_; rintro e w' ⟨rfl, nd, rfl⟩))
    go_roundg k1
    case measure => have := HK1.out; omega
    case rel => exact ⟨(wrap64 (x5_1 - 1)), r3_, H, ⟨by have := HK1.out; omega⟩, dr_⟩
   obtain rfl := Option.some.inj H; obtain ⟨p173, q173, ad173, e173, hx173_0, hx173_1, hx173_2, hx173_3⟩ := ix_ (at_T142 HR0.out x5_1); cases e173
   go_wp2_with (first | (go_at_call 114; refine cm_ (words_begins.calls sd_ sd_ A7.out) ?_; rintro e w' ⟨rfl, nd, rfl⟩; have p175 := od_ (0 ≤ (x5_1 : Int)); have q175 := od_ (x5_1 < (l0.length : Int)); obtain ⟨ad175, e175, hx175_0, hx175_1, hx175_2, hx175_3⟩ := at_T142 HR0.out x5_1 p175 q175; obtain rfl : ad173 = ad175 := (by injection e175); replace p175 := eq_true p175; replace q175 := eq_true q175))
   go_ret
   exact ⟨r3_, dr_⟩

end Go.Proofs.YtbgmmcngkdhpcaaDoor.P
