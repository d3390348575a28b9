/- The walks of the functions that these statements reach: each Go function as a plain Lean function, and the proof that its call comes to that. Written by the session's program wip/pp.py. -/
import Derived.Test.YtbgmmcngkdhpcaaDoorP0
import Derived.Test.YtbgmmcngkdhpcaaDoorP4
import Derived.Test.YtbgmmcngkdhpcaaDoorP6
import Derived.Test.YtbgmmcngkdhpcaaDoorP7
namespace Go.Proofs.YtbgmmcngkdhpcaaDoor.P
open Go.Proofs.YtbgmmcngkdhpcaaDoor
open Go.RowKit Go.Proofs.YtbgmmcngkdhpcaaDoorW.PrintWords Go.Proofs.YtbgmmcngkdhpcaaDoorW.PrintLast Go.Proofs.YtbgmmcngkdhpcaaDoorW.PrintMore
attribute [local go_sem] cell_isSome max2_int min2_int max_two min_two max_three min_three max_four min_four   -- for this text's walks alone
set_option linter.unusedVariables false
set_option linter.unusedSimpArgs false
set_option maxHeartbeats 8000000
set_option maxRecDepth 100000

/-! ### words_Move: function 88 -/
mutual
def words_Move.j0 : Nat → ByteArray → Int → Int → Int → Bool → Option (Int × Int)
  | 0, _, _, _, _, _ => none
  | k + 1, x0, x1, x2, x3, x37 => if x37 = true then (some (0, 1)) else ((text_Of.f k x0).bind fun bt179 => ((text_Map_Is.f bt179.1 bt179.2 x1).bind fun t186 => (if t186 = true then ((words_cells.f k x0 (decide (x2 < 97))).bind fun t187 => (words_Move.l0 k x1 x2 t187 x1 x3 0)) else (some (0, 1)))))
def words_Move.l0 : Nat → Int → Int → List (S142) → Int → Int → Int → Option (Int × Int)
  | 0, _, _, _, _, _, _ => none
  | k + 1, x1, x2, x10, x11, x48, x49 => if x49 < x48 then (if x2 = 119 then (words_Move.j2 k x1 x2 x10 x11 x11 x48 x49 x2 (x2 == 119)) else (words_Move.j2 k x1 x2 x10 x11 x11 x48 x49 x2 (x2 == 87))) else (if x11 = x1 then (some (0, 6)) else (some (x11, 0)))
def words_Move.j2 : Nat → Int → Int → List (S142) → Int → Int → Int → Int → Int → Bool → Option (Int × Int)
  | 0, _, _, _, _, _, _, _, _, _ => none
  | k + 1, x1, x2, x10, x11, x12, x48, x49, x52, x56 => if x56 = true then ((words_behind_begins.f k x10 x11).bind fun t190 => (if t190 = x12 then (if t190 = x1 then (some (0, 6)) else (some (t190, 0))) else (words_Move.l0 k x1 x2 x10 t190 x48 (wrap64 (x49 + 1))))) else (if x52 = 98 then (words_Move.j3 k x1 x2 x10 x11 x12 x48 x49 (x52 == 98)) else (words_Move.j3 k x1 x2 x10 x11 x12 x48 x49 (x52 == 66)))
def words_Move.j3 : Nat → Int → Int → List (S142) → Int → Int → Int → Int → Bool → Option (Int × Int)
  | 0, _, _, _, _, _, _, _, _ => none
  | k + 1, x1, x2, x10, x11, x12, x48, x49, x62 => if x62 = true then ((words_ahead.f k x10 x11).bind fun t191 => (if t191 = x12 then (if t191 = x1 then (some (0, 6)) else (some (t191, 0))) else (words_Move.l0 k x1 x2 x10 t191 x48 (wrap64 (x49 + 1))))) else ((words_behind_ends.f k x10 x11).bind fun t192 => (if t192 = x12 then (if t192 = x1 then (some (0, 6)) else (some (t192, 0))) else (words_Move.l0 k x1 x2 x10 t192 x48 (wrap64 (x49 + 1)))))
end
def words_Move.f (k : Nat) (a0 : ByteArray) (a1 : Int) (a2 : Int) (a3 : Int) : Option (Int × Int) := (text_May.f a0).bind fun t177 => (if t177 = true then (if a3 < 1 then (words_Move.j0 k a0 a1 a2 a3 true) else (if a3 > 999 then (words_Move.j0 k a0 a1 a2 a3 true) else (if a2 < 0 then (words_Move.j0 k a0 a1 a2 a3 true) else (if a2 > 127 then (words_Move.j0 k a0 a1 a2 a3 true) else ((strings_ContainsRune.f (⟨#[119, 98, 101, 87, 66, 69]⟩ : ByteArray) (wrap32 (a2))).bind fun t178 => (words_Move.j0 k a0 a1 a2 a3 (!t178))))))) else (words_Move.j0 k a0 a1 a2 a3 true))
theorem words_Move.calls {k : Nat} {a0 : ByteArray} {a1 : Int} {a2 : Int} {a3 : Int} {r1 : Int} {r2 : Int} {w : World} (hT : Tabs w) (H : words_Move.f k a0 a1 a2 a3 = some (r1, r2)) :
  Calls Tryd.prog 88 #[.string a0, .int .i64 a1, .int .i64 a2, .int .i64 a3] w fun e w' => e = .returned (.tuple #[.int .i64 r1, .int .i64 r2]) ∧ Below w.heap.size w w' := by
 have HT := Aside0.mk hT; clear hT; have HB := Aside0.mk (Below.refl w.heap.size w); unfold words_Move.f at H; have HC5 := Aside0.mk H; clear H; go_enter Tryd.func88, Tryd.ntmps88
 go_upto_region 1 with (fail)
 go_cut [37] (fun v37 wc => ∃ (kq : Nat) (x37_4 : Bool), v37 = .bool x37_4 ∧ Aside0 (words_Move.j0 kq a0 a1 a2 a3 x37_4 = some (r1, r2)) ∧ Aside0 (kq ≤ k) ∧ Aside0 (Below w.heap.size w wc))
 case first =>
  obtain ⟨H⟩ := HC5; replace H := bindA H; obtain ⟨t177, A6, H⟩ := H; (try dsimp only at H); replace H := nfb H; obtain ⟨rfl, H⟩ | ⟨rfl, H⟩ := H
  ·
   replace H := Aside0.mk H
   go_wp2_with (first | ((with_reducible refine gC 27 rfl ?_); refine goesL1 (some 14) Tryd.func27 #[.string a0] rfl (map1 rfl) ?_; (with_reducible refine (text_May.calls ?side1 A6.out).mono ?_); (case side1 => exact Tabs.below HT.out bl_); rintro e w18 ⟨rfl, hb⟩; refine ⟨_, rfl, ?_⟩; replace HB := hB hb; (try clear hb)))
   go_meet
   case rel => exact ⟨_, (true), r3_, H, ⟨ol_⟩, ⟨bl_⟩⟩
  replace H := ifd H; obtain ⟨c8b0, H⟩ | ⟨c8b0, H⟩ := H
  ·
   (first | rw [c8b0] | (simp only [i64_w, i32_w]; rw [c8b0]) | skip); replace H := Aside0.mk H
   go_wp2_with (first | ((with_reducible refine gC 27 rfl ?_); refine goesL1 (some 14) Tryd.func27 #[.string a0] rfl (map1 rfl) ?_; (with_reducible refine (text_May.calls ?side1 A6.out).mono ?_); (case side1 => exact Tabs.below HT.out bl_); rintro e w9 ⟨rfl, hb⟩; refine ⟨_, rfl, ?_⟩; replace HB := hB hb; (try clear hb)))
   go_meet
   case rel => exact ⟨_, (true), r3_, H, ⟨ol_⟩, ⟨bl_⟩⟩
  (first | rw [c8b0] | (simp only [i64_w, i32_w]; rw [c8b0]) | skip); replace H := ifd H; obtain ⟨c10b0, H⟩ | ⟨c10b0, H⟩ := H
  ·
   replace H := Aside0.mk H
   go_wp2_with (first | ((with_reducible refine gC 27 rfl ?_); refine goesL1 (some 14) Tryd.func27 #[.string a0] rfl (map1 rfl) ?_; (with_reducible refine (text_May.calls ?side1 A6.out).mono ?_); (case side1 => exact Tabs.below HT.out bl_); rintro e w11 ⟨rfl, hb⟩; refine ⟨_, rfl, ?_⟩; replace HB := hB hb; (try clear hb)))
   go_meet
   case rel => exact ⟨_, (true), r3_, H, ⟨ol_⟩, ⟨bl_⟩⟩
  replace H := ifd H; obtain ⟨c12b0, H⟩ | ⟨c12b0, H⟩ := H
  ·
   replace H := Aside0.mk H
   go_wp2_with (first | ((with_reducible refine gC 27 rfl ?_); refine goesL1 (some 14) Tryd.func27 #[.string a0] rfl (map1 rfl) ?_; (with_reducible refine (text_May.calls ?side1 A6.out).mono ?_); (case side1 => exact Tabs.below HT.out bl_); rintro e w13 ⟨rfl, hb⟩; refine ⟨_, rfl, ?_⟩; replace HB := hB hb; (try clear hb)))
   go_meet
   case rel => exact ⟨_, (true), r3_, H, ⟨ol_⟩, ⟨bl_⟩⟩
  replace H := ifd H; obtain ⟨c14b0, H⟩ | ⟨c14b0, H⟩ := H
  ·
   replace H := Aside0.mk H
   go_wp2_with (first | ((with_reducible refine gC 27 rfl ?_); refine goesL1 (some 14) Tryd.func27 #[.string a0] rfl (map1 rfl) ?_; (with_reducible refine (text_May.calls ?side1 A6.out).mono ?_); (case side1 => exact Tabs.below HT.out bl_); rintro e w15 ⟨rfl, hb⟩; refine ⟨_, rfl, ?_⟩; replace HB := hB hb; (try clear hb)))
   go_meet
   case rel => exact ⟨_, (true), r3_, H, ⟨ol_⟩, ⟨bl_⟩⟩
  replace H := bindA H; obtain ⟨t178, A16, H⟩ := H; (try dsimp only at H); replace H := Aside0.mk H
  go_wp2_with (first | ((with_reducible refine gC 27 rfl ?_); refine goesL1 (some 14) Tryd.func27 #[.string a0] rfl (map1 rfl) ?_; (with_reducible refine (text_May.calls ?side1 A6.out).mono ?_); (case side1 => exact Tabs.below HT.out bl_); rintro e w17 ⟨rfl, hb⟩; refine ⟨_, rfl, ?_⟩; replace HB := hB hb; (try clear hb)) | (go_at_call 102; (with_reducible refine (strings_ContainsRune.calls (⟨#[119, 98, 101, 87, 66, 69]⟩ : ByteArray) (wrap32 (a2)) t178 _ A16.out).mono ?_); rintro e w' ⟨rfl, nd, rfl⟩))
  go_meet
  case rel => exact ⟨_, (!t178), r3_, H, ⟨ol_⟩, ⟨bl_⟩⟩
 case rest =>
  clear HC5; obtain ⟨kq, x37_4, rfl, HA, HJ4, HB⟩ := hcut
  cases kq with
  | zero => exact absurd HA.out (by simp [words_Move.j0])
  | succ kj4 =>
   obtain ⟨H⟩ := HA; simp only [words_Move.j0] at H; replace H := ifb H; obtain ⟨rfl, H⟩ | ⟨rfl, H⟩ := H
   ·
    replace H := so2 H; obtain ⟨rfl, rfl⟩ := H; go_wp2
    go_ret2
    exact ⟨rr_, bl_⟩
   replace H := bindA H; obtain ⟨⟨t179, t182⟩, A20, H⟩ := H; (try dsimp only at H); replace H := bindA H; obtain ⟨t186, A21, H⟩ := H; (try dsimp only at H); replace H := nfb H; obtain ⟨rfl, H⟩ | ⟨rfl, H⟩ := H
   ·
    replace H := so2 H; obtain ⟨rfl, rfl⟩ := H
    go_wp2_with (first | ((with_reducible refine gC 28 rfl ?_); refine goesL1 (some 39) Tryd.func28 #[.string a0] rfl (map1 rfl) ?_; (with_reducible refine (text_Of.calls A20.out).mono ?_); rintro e w60 ⟨v180, v183, gb185, rfl, ho0, ho1, ⟨hx185_, hz185_⟩, hb⟩; refine ⟨_, rfl, ?_⟩; have HO181 := oL ho0; have HO184 := oL ho1; have BK185 := Aside0.mk hx185_; have GW185 := gZ hz185_; have GE185 := GW185; replace HB := hB hb; (try clear hb); (try clear ho0); (try clear ho1); (try clear hx185_ hz185_); obtain ⟨Ao61, co61, eo61⟩ := Kd.R_slice HO181.out; subst eo61; obtain ⟨Ao62, co62, eo62⟩ := Kd.R_slice HO184.out; subst eo62) | ((with_reducible refine gC 29 rfl ?_); refine goesL1 (some 41) Tryd.func29 #[.pointer (some ⟨gb185, 0, none⟩), .int .i64 a1] rfl (map2 rfl rfl) ?_; refine cm_ (text_Map_Is.calls sd_ sd_ sd_ sd_ sd_ A21.out) ?_; rintro e w' ⟨rfl, nd, rfl⟩; refine ⟨_, rfl, ?_⟩))
    go_ret2
    exact ⟨rr_, bl_⟩
   replace H := bindA H; obtain ⟨t187, A23, H⟩ := H; (try dsimp only at H); replace H := Aside0.mk H
   go_wp2_with (first | ((with_reducible refine gC 28 rfl ?_); refine goesL1 (some 39) Tryd.func28 #[.string a0] rfl (map1 rfl) ?_; (with_reducible refine (text_Of.calls A20.out).mono ?_); rintro e w24 ⟨v180, v183, gb185, rfl, ho0, ho1, ⟨hx185_, hz185_⟩, hb⟩; refine ⟨_, rfl, ?_⟩; have HO181 := oL ho0; have HO184 := oL ho1; have BK185 := Aside0.mk hx185_; have GW185 := gZ hz185_; have GE185 := GW185; replace HB := hB hb; (try clear hb); (try clear ho0); (try clear ho1); (try clear hx185_ hz185_); obtain ⟨Ao25, co25, eo25⟩ := Kd.R_slice HO181.out; subst eo25; obtain ⟨Ao26, co26, eo26⟩ := Kd.R_slice HO184.out; subst eo26) | ((with_reducible refine gC 29 rfl ?_); refine goesL1 (some 41) Tryd.func29 #[.pointer (some ⟨gb185, 0, none⟩), .int .i64 a1] rfl (map2 rfl rfl) ?_; refine cm_ (text_Map_Is.calls sd_ sd_ sd_ sd_ sd_ A21.out) ?_; rintro e w' ⟨rfl, nd, rfl⟩; refine ⟨_, rfl, ?_⟩) | ((with_reducible refine gC 112 rfl ?_); refine goesL1 (some 46) Tryd.func112 #[.string a0, .bool (decide (a2 < 97))] rfl (map2 rfl rfl) ?_; (with_reducible refine (words_cells.calls A23.out).mono ?_); rintro e w27 ⟨v188, rfl, ho0, hb⟩; refine ⟨_, rfl, ?_⟩; have HO189 := oL ho0; replace HO181 := Aside0.mk (Kd.R_below (ro_ HO181) hb); replace HO184 := Aside0.mk (Kd.R_below (ro_ HO184) hb); replace BK185 := blB hb BK185; replace HB := hB hb; (try clear hb); (try clear ho0)))
   go_loopg [11, 49] kj4 (fun kq v11 v49 w' => ∃ (x11_2 : Int) (x49_2 : Int), v11 = .int .i64 x11_2 ∧ v49 = .int .i64 x49_2 ∧ Aside0 (words_Move.l0 kq a1 a2 t187 x11_2 a3 x49_2 = some (r1, r2)) ∧ Aside0 (kq ≤ kj4) ∧ Aside0 (Kd.R k142 142 w' w.heap.size (fun _ => True) v188 t187) ∧ Aside0 (Kd.R (Kd.int .i32) 21 w' w.heap.size (fun _ => True) (.slice Ao25 t179.length co25) t179) ∧ Aside0 (Kd.R (Kd.int .i64) 3 w' w.heap.size (fun _ => True) (.slice Ao26 t182.length co26) t182) ∧ Aside0 (w'.heap[gb185]? = some (.cells #[(.slice Ao25 t179.length co25), (.slice Ao26 t182.length co26)] 79 (0, 0))) ∧ Aside0 (Below w.heap.size w w'))
   case atStart => exact ⟨(a1), (0), r3_, r3_, H, ⟨Nat.le_refl _⟩, ⟨ro_ HO189⟩, ⟨ro_ HO181⟩, ⟨ro_ HO184⟩, ⟨BK185.out⟩, ⟨bl_⟩⟩
   case round =>
    clear H; obtain ⟨x11_2, x49_2, rfl, rfl, HA, HK2, HO_10, HO_186000, HO_186001, BK185, HB⟩ := hrel
    cases gk with
    | zero => exact absurd HA.out (by simp [words_Move.l0])
    | succ k2 =>
     obtain ⟨H⟩ := HA; simp only [words_Move.l0] at H; replace H := nfd H; obtain ⟨c28b0, H⟩ | ⟨c28b0, H⟩ := H
     ·
      replace H := nfe H; obtain ⟨c59b0, c59b1, H⟩ | ⟨c59b0, c59b1, H⟩ := H
      ·
       replace H := so2 H; obtain ⟨rfl, rfl⟩ := H; go_wp2
       go_ret2
       exact ⟨rr_, bl_⟩
      replace H := so2 H; obtain ⟨rfl, rfl⟩ := H; go_wp2
      go_ret2
      exact ⟨rr_, bl_⟩
     have HC29 := Aside0.mk H; clear H
     go_upto_if 56 with (fail)
     go_cut [56] (fun v56 wc => ∃ (kq : Nat) (x56_28 : Bool), v56 = .bool x56_28 ∧ Aside0 (words_Move.j2 kq a1 a2 t187 x11_2 x11_2 a3 x49_2 a2 x56_28 = some (r1, r2)) ∧ Aside0 (kq ≤ k2) ∧ Aside0 (Kd.R k142 142 wc w.heap.size (fun _ => True) v188 t187) ∧ Aside0 (Kd.R (Kd.int .i32) 21 wc w.heap.size (fun _ => True) (.slice Ao25 t179.length co25) t179) ∧ Aside0 (Kd.R (Kd.int .i64) 3 wc w.heap.size (fun _ => True) (.slice Ao26 t182.length co26) t182) ∧ Aside0 (wc.heap[gb185]? = some (.cells #[(.slice Ao25 t179.length co25), (.slice Ao26 t182.length co26)] 79 (0, 0))) ∧ Aside0 (Below w.heap.size w wc))
     case first =>
      obtain ⟨H⟩ := HC29; replace H := nfe H; obtain ⟨c30b0, c30b1, H⟩ | ⟨c30b0, c30b1, H⟩ := H
      ·
       (first | rw [c30b0] | (simp only [i64_w, i32_w]; rw [c30b0]) | skip); replace H := Aside0.mk H; go_wp2; go_meet
       case rel => exact ⟨_, ((a2 == 87)), r3_, H, ⟨by have := HJ4.out; have := HK2.out; first | omega | exact Nat.le_refl _⟩, ⟨ro_ HO_10⟩, ⟨ro_ HO_186000⟩, ⟨ro_ HO_186001⟩, ⟨BK185.out⟩, ⟨bl_⟩⟩
      (first | rw [c30b0] | (simp only [i64_w, i32_w]; rw [c30b0]) | skip); replace H := Aside0.mk H; go_wp2; go_meet
      case rel => exact ⟨_, ((a2 == 119)), r3_, H, ⟨by have := HJ4.out; have := HK2.out; first | omega | exact Nat.le_refl _⟩, ⟨ro_ HO_10⟩, ⟨ro_ HO_186000⟩, ⟨ro_ HO_186001⟩, ⟨BK185.out⟩, ⟨bl_⟩⟩
     case rest =>
      clear HC29
      try clear c28b0
      obtain ⟨kq, x56_28, rfl, HA, HJ28, HO_10, HO_186000, HO_186001, BK185, HB⟩ := hcut
      cases kq with
      | zero => exact absurd HA.out (by simp [words_Move.j2])
      | succ kj28 =>
       obtain ⟨H⟩ := HA; simp only [words_Move.j2] at H; replace H := ifb H; obtain ⟨rfl, H⟩ | ⟨rfl, H⟩ := H
       ·
        replace H := bindA H; obtain ⟨t190, A32, H⟩ := H; (try dsimp only at H); replace H := nfe H; obtain ⟨c33b0, c33b1, H⟩ | ⟨c33b0, c33b1, H⟩ := H
        ·
         replace H := Aside0.mk H; obtain ⟨Ao39, co39, eo39⟩ := Kd.R_slice HO_10.out; subst eo39
         go_wp2_with (first | ((with_reducible refine gC 113 rfl ?_); refine goesL1 (some 61) Tryd.func113 #[.slice Ao39 t187.length co39, .int .i64 x11_2, .func (.func 114) #[] #[]] rfl (map3 rfl rfl rfl) ?_; refine cm_ (words_behind_begins.calls sd_ sd_ A32.out) ?_; rintro e w40 ⟨rfl, hb⟩; refine ⟨_, rfl, ?_⟩; replace HO_10 := Aside0.mk (Kd.R_below (ro_ HO_10) hb); replace HO_186000 := Aside0.mk (Kd.R_below (ro_ HO_186000) hb); replace HO_186001 := Aside0.mk (Kd.R_below (ro_ HO_186001) hb); replace BK185 := blB hb BK185; replace HB := hB hb; (try clear hb)))
         go_roundg kj28
         case measure => have := HJ4.out; have := HK2.out; have := HJ28.out; omega
         case rel => exact ⟨(t190), (wrap64 (x49_2 + 1)), r3_, r3_, H, ⟨by have := HJ4.out; have := HK2.out; have := HJ28.out; omega⟩, ⟨ro_ HO_10⟩, ⟨ro_ HO_186000⟩, ⟨ro_ HO_186001⟩, ⟨BK185.out⟩, ⟨bl_⟩⟩
        replace H := nfe H; obtain ⟨c34b0, c34b1, H⟩ | ⟨c34b0, c34b1, H⟩ := H
        ·
         replace H := so2 H; obtain ⟨rfl, rfl⟩ := H; obtain ⟨Ao37, co37, eo37⟩ := Kd.R_slice HO_10.out; subst eo37
         go_wp2_with (first | ((with_reducible refine gC 113 rfl ?_); refine goesL1 (some 61) Tryd.func113 #[.slice Ao37 t187.length co37, .int .i64 x11_2, .func (.func 114) #[] #[]] rfl (map3 rfl rfl rfl) ?_; refine cm_ (words_behind_begins.calls sd_ sd_ A32.out) ?_; rintro e w38 ⟨rfl, hb⟩; refine ⟨_, rfl, ?_⟩; replace HO_10 := Aside0.mk (Kd.R_below (ro_ HO_10) hb); replace HO_186000 := Aside0.mk (Kd.R_below (ro_ HO_186000) hb); replace HO_186001 := Aside0.mk (Kd.R_below (ro_ HO_186001) hb); replace BK185 := blB hb BK185; replace HB := hB hb; (try clear hb)))
         go_ret2
         exact ⟨rr_, bl_⟩
        replace H := so2 H; obtain ⟨rfl, rfl⟩ := H; obtain ⟨Ao35, co35, eo35⟩ := Kd.R_slice HO_10.out; subst eo35
        go_wp2_with (first | ((with_reducible refine gC 113 rfl ?_); refine goesL1 (some 61) Tryd.func113 #[.slice Ao35 t187.length co35, .int .i64 x11_2, .func (.func 114) #[] #[]] rfl (map3 rfl rfl rfl) ?_; refine cm_ (words_behind_begins.calls sd_ sd_ A32.out) ?_; rintro e w36 ⟨rfl, hb⟩; refine ⟨_, rfl, ?_⟩; replace HO_10 := Aside0.mk (Kd.R_below (ro_ HO_10) hb); replace HO_186000 := Aside0.mk (Kd.R_below (ro_ HO_186000) hb); replace HO_186001 := Aside0.mk (Kd.R_below (ro_ HO_186001) hb); replace BK185 := blB hb BK185; replace HB := hB hb; (try clear hb)))
        go_ret2
        exact ⟨rr_, bl_⟩
       have HC41 := Aside0.mk H; clear H
       go_upto_if 62 with (fail)
       go_cut [62] (fun v62 wc => ∃ (kq : Nat) (x62_40 : Bool), v62 = .bool x62_40 ∧ Aside0 (words_Move.j3 kq a1 a2 t187 x11_2 x11_2 a3 x49_2 x62_40 = some (r1, r2)) ∧ Aside0 (kq ≤ kj28) ∧ Aside0 (Kd.R k142 142 wc w.heap.size (fun _ => True) v188 t187) ∧ Aside0 (Kd.R (Kd.int .i32) 21 wc w.heap.size (fun _ => True) (.slice Ao25 t179.length co25) t179) ∧ Aside0 (Kd.R (Kd.int .i64) 3 wc w.heap.size (fun _ => True) (.slice Ao26 t182.length co26) t182) ∧ Aside0 (wc.heap[gb185]? = some (.cells #[(.slice Ao25 t179.length co25), (.slice Ao26 t182.length co26)] 79 (0, 0))) ∧ Aside0 (Below w.heap.size w wc))
       case first =>
        obtain ⟨H⟩ := HC41; replace H := nfe H; obtain ⟨c42b0, c42b1, H⟩ | ⟨c42b0, c42b1, H⟩ := H
        ·
         (first | rw [c42b0] | (simp only [i64_w, i32_w]; rw [c42b0]) | skip); replace H := Aside0.mk H; go_wp2; go_meet
         case rel => exact ⟨_, ((a2 == 66)), r3_, H, ⟨by have := HJ4.out; have := HK2.out; have := HJ28.out; first | omega | exact Nat.le_refl _⟩, ⟨ro_ HO_10⟩, ⟨ro_ HO_186000⟩, ⟨ro_ HO_186001⟩, ⟨BK185.out⟩, ⟨bl_⟩⟩
        (first | rw [c42b0] | (simp only [i64_w, i32_w]; rw [c42b0]) | skip); replace H := Aside0.mk H; go_wp2; go_meet
        case rel => exact ⟨_, ((a2 == 98)), r3_, H, ⟨by have := HJ4.out; have := HK2.out; have := HJ28.out; first | omega | exact Nat.le_refl _⟩, ⟨ro_ HO_10⟩, ⟨ro_ HO_186000⟩, ⟨ro_ HO_186001⟩, ⟨BK185.out⟩, ⟨bl_⟩⟩
       case rest =>
        clear HC41
        try clear c28b0
        obtain ⟨kq, x62_40, rfl, HA, HJ40, HO_10, HO_186000, HO_186001, BK185, HB⟩ := hcut
        cases kq with
        | zero => exact absurd HA.out (by simp [words_Move.j3])
        | succ kj40 =>
         obtain ⟨H⟩ := HA; simp only [words_Move.j3] at H; replace H := ifb H; obtain ⟨rfl, H⟩ | ⟨rfl, H⟩ := H
         ·
          replace H := bindA H; obtain ⟨t191, A44, H⟩ := H; (try dsimp only at H); replace H := nfe H; obtain ⟨c45b0, c45b1, H⟩ | ⟨c45b0, c45b1, H⟩ := H
          ·
           replace H := Aside0.mk H; obtain ⟨Ao49, co49, eo49⟩ := Kd.R_slice HO_10.out; subst eo49
           go_wp2_with (first | ((with_reducible refine gC 115 rfl ?_); refine goesL1 (some 67) Tryd.func115 #[.slice Ao49 t187.length co49, .int .i64 x11_2] rfl (map2 rfl rfl) ?_; refine cm_ (words_ahead.calls sd_ sd_ A44.out) ?_; rintro e w' ⟨rfl, nd, rfl⟩; refine ⟨_, rfl, ?_⟩))
           go_roundg kj40
           case measure => have := HJ4.out; have := HK2.out; have := HJ28.out; have := HJ40.out; omega
           case rel => exact ⟨(t191), (wrap64 (x49_2 + 1)), r3_, r3_, H, ⟨by have := HJ4.out; have := HK2.out; have := HJ28.out; have := HJ40.out; omega⟩, ⟨ro_ HO_10⟩, ⟨ro_ HO_186000⟩, ⟨ro_ HO_186001⟩, ⟨BK185.out⟩, ⟨bl_⟩⟩
          replace H := nfe H; obtain ⟨c46b0, c46b1, H⟩ | ⟨c46b0, c46b1, H⟩ := H
          ·
           replace H := so2 H; obtain ⟨rfl, rfl⟩ := H; obtain ⟨Ao48, co48, eo48⟩ := Kd.R_slice HO_10.out; subst eo48
           go_wp2_with (first | ((with_reducible refine gC 115 rfl ?_); refine goesL1 (some 67) Tryd.func115 #[.slice Ao48 t187.length co48, .int .i64 x11_2] rfl (map2 rfl rfl) ?_; refine cm_ (words_ahead.calls sd_ sd_ A44.out) ?_; rintro e w' ⟨rfl, nd, rfl⟩; refine ⟨_, rfl, ?_⟩))
           go_ret2
           exact ⟨rr_, bl_⟩
          replace H := so2 H; obtain ⟨rfl, rfl⟩ := H; obtain ⟨Ao47, co47, eo47⟩ := Kd.R_slice HO_10.out; subst eo47
          go_wp2_with (first | ((with_reducible refine gC 115 rfl ?_); refine goesL1 (some 67) Tryd.func115 #[.slice Ao47 t187.length co47, .int .i64 x11_2] rfl (map2 rfl rfl) ?_; refine cm_ (words_ahead.calls sd_ sd_ A44.out) ?_; rintro e w' ⟨rfl, nd, rfl⟩; refine ⟨_, rfl, ?_⟩))
          go_ret2
          exact ⟨rr_, bl_⟩
         replace H := bindA H; obtain ⟨t192, A50, H⟩ := H; (try dsimp only at H); replace H := nfe H; obtain ⟨c51b0, c51b1, H⟩ | ⟨c51b0, c51b1, H⟩ := H
         ·
          replace H := Aside0.mk H; obtain ⟨Ao57, co57, eo57⟩ := Kd.R_slice HO_10.out; subst eo57
          go_wp2_with (first | ((with_reducible refine gC 113 rfl ?_); refine goesL1 (some 55) Tryd.func113 #[.slice Ao57 t187.length co57, .int .i64 x11_2, .func (.func 116) #[] #[]] rfl (map3 rfl rfl rfl) ?_; refine cm_ (words_behind_ends.calls sd_ sd_ A50.out) ?_; rintro e w58 ⟨rfl, hb⟩; refine ⟨_, rfl, ?_⟩; replace HO_10 := Aside0.mk (Kd.R_below (ro_ HO_10) hb); replace HO_186000 := Aside0.mk (Kd.R_below (ro_ HO_186000) hb); replace HO_186001 := Aside0.mk (Kd.R_below (ro_ HO_186001) hb); replace BK185 := blB hb BK185; replace HB := hB hb; (try clear hb)))
          go_roundg kj40
          case measure => have := HJ4.out; have := HK2.out; have := HJ28.out; have := HJ40.out; omega
          case rel => exact ⟨(t192), (wrap64 (x49_2 + 1)), r3_, r3_, H, ⟨by have := HJ4.out; have := HK2.out; have := HJ28.out; have := HJ40.out; omega⟩, ⟨ro_ HO_10⟩, ⟨ro_ HO_186000⟩, ⟨ro_ HO_186001⟩, ⟨BK185.out⟩, ⟨bl_⟩⟩
         replace H := nfe H; obtain ⟨c52b0, c52b1, H⟩ | ⟨c52b0, c52b1, H⟩ := H
         ·
          replace H := so2 H; obtain ⟨rfl, rfl⟩ := H; obtain ⟨Ao55, co55, eo55⟩ := Kd.R_slice HO_10.out; subst eo55
          go_wp2_with (first | ((with_reducible refine gC 113 rfl ?_); refine goesL1 (some 55) Tryd.func113 #[.slice Ao55 t187.length co55, .int .i64 x11_2, .func (.func 116) #[] #[]] rfl (map3 rfl rfl rfl) ?_; refine cm_ (words_behind_ends.calls sd_ sd_ A50.out) ?_; rintro e w56 ⟨rfl, hb⟩; refine ⟨_, rfl, ?_⟩; replace HO_10 := Aside0.mk (Kd.R_below (ro_ HO_10) hb); replace HO_186000 := Aside0.mk (Kd.R_below (ro_ HO_186000) hb); replace HO_186001 := Aside0.mk (Kd.R_below (ro_ HO_186001) hb); replace BK185 := blB hb BK185; replace HB := hB hb; (try clear hb)))
          go_ret2
          exact ⟨rr_, bl_⟩
         replace H := so2 H; obtain ⟨rfl, rfl⟩ := H; obtain ⟨Ao53, co53, eo53⟩ := Kd.R_slice HO_10.out; subst eo53
         go_wp2_with (first | ((with_reducible refine gC 113 rfl ?_); refine goesL1 (some 55) Tryd.func113 #[.slice Ao53 t187.length co53, .int .i64 x11_2, .func (.func 116) #[] #[]] rfl (map3 rfl rfl rfl) ?_; refine cm_ (words_behind_ends.calls sd_ sd_ A50.out) ?_; rintro e w54 ⟨rfl, hb⟩; refine ⟨_, rfl, ?_⟩; replace HO_10 := Aside0.mk (Kd.R_below (ro_ HO_10) hb); replace HO_186000 := Aside0.mk (Kd.R_below (ro_ HO_186000) hb); replace HO_186001 := Aside0.mk (Kd.R_below (ro_ HO_186001) hb); replace BK185 := blB hb BK185; replace HB := hB hb; (try clear hb)))
         go_ret2
         exact ⟨rr_, bl_⟩

/-! ### move_byWord: function 64 -/
def move_byWord.f (k : Nat) (a0 : ByteArray) (a1 : Int) (a2 : Int) (a3 : Int) : Option (Int × Int × Int) := (words_Move.f k a0 a1 a2 a3).bind fun bt194 => (if a2 = 101 then (some (bt194.1, 1, bt194.2)) else (if a2 = 69 then (some (bt194.1, 1, bt194.2)) else (some (bt194.1, 0, bt194.2))))
theorem move_byWord.calls {k : Nat} {a0 : ByteArray} {a1 : Int} {a2 : Int} {a3 : Int} {r1 : Int} {r2 : Int} {r3 : Int} {w : World} (hT : Tabs w) (H : move_byWord.f k a0 a1 a2 a3 = some (r1, r2, r3)) :
  Calls Tryd.prog 64 #[.string a0, .int .i64 a1, .int .i64 a2, .int .i64 a3] w fun e w' => e = .returned (.tuple #[.agg #[.int .i64 r1, .int .i64 r2], .int .i64 r3]) ∧ Below w.heap.size w w' := by
 have hu54 := Tryd.underlying54; have HT := Aside0.mk hT; clear hT; have HB := Aside0.mk (Below.refl w.heap.size w); unfold move_byWord.f at H; replace H := bindA H; obtain ⟨⟨t194, t195⟩, A5, H⟩ := H; (try dsimp only at H); replace H := ife H; obtain ⟨c6b0, c6b1, H⟩ | ⟨c6b0, c6b1, H⟩ := H
 ·
  replace H := so3 H; obtain ⟨rfl, rfl, rfl⟩ := H; go_enter Tryd.func64, Tryd.ntmps64
  go_wp2_with (first | ((with_reducible refine gN 8 rfl ?_); refine bx 8 #[.int .i64 0, .int .i64 0] 54 ?_; intro gb193 hg w7 hbox hb; have BK193 := Aside0.mk hbox; have GW193 := gE hg; have GE193 := GW193; replace HB := hB hb; clear hb hbox hg) | ((with_reducible refine gC 88 rfl ?_); refine goesL1 (some 18) Tryd.func88 #[.string a0, .int .i64 a1, .int .i64 a2, .int .i64 a3] rfl (map4 rfl rfl rfl rfl) ?_; (with_reducible refine (words_Move.calls ?side1 A5.out).mono ?_); (case side1 => exact Tabs.below HT.out bl_); rintro e w8 ⟨rfl, hb⟩; refine ⟨_, rfl, ?_⟩; replace BK193 := blB hb BK193; replace HB := hB hb; (try clear hb)) | ((with_reducible refine gN 12 rfl ?_); refine bx 12 #[.int .i64 0, .int .i64 0] 54 ?_; intro gb196 hg w9 hbox hb; have BK196 := Aside0.mk hbox; have GW196 := gE hg; have GE196 := GW196; have NB193_196 := nbl hg BK193.out; have NB196_193 := nbr hg BK193.out; replace BK193 := blB hb BK193; replace HB := hB hb; clear hb hbox hg; have hcz11 := cs2 BK196.out; have hcz12 := cs2 BK193.out))
  refine bodyPost_ret (results_ct rfl _ _ gb193 54 #[.int .i64 t194, .int .i64 1] (0, 0) _ rfl bk_ Tryd.underlying54 rfl (by kernel_rfl)) rfl ?_
  exact ⟨rr_, bl_⟩
 replace H := nfe H; obtain ⟨c13b0, c13b1, H⟩ | ⟨c13b0, c13b1, H⟩ := H
 ·
  replace H := so3 H; obtain ⟨rfl, rfl, rfl⟩ := H; go_enter Tryd.func64, Tryd.ntmps64
  go_wp2_with (first | ((with_reducible refine gN 8 rfl ?_); refine bx 8 #[.int .i64 0, .int .i64 0] 54 ?_; intro gb193 hg w20 hbox hb; have BK193 := Aside0.mk hbox; have GW193 := gE hg; have GE193 := GW193; replace HB := hB hb; clear hb hbox hg) | ((with_reducible refine gC 88 rfl ?_); refine goesL1 (some 18) Tryd.func88 #[.string a0, .int .i64 a1, .int .i64 a2, .int .i64 a3] rfl (map4 rfl rfl rfl rfl) ?_; (with_reducible refine (words_Move.calls ?side1 A5.out).mono ?_); (case side1 => exact Tabs.below HT.out bl_); rintro e w21 ⟨rfl, hb⟩; refine ⟨_, rfl, ?_⟩; replace BK193 := blB hb BK193; replace HB := hB hb; (try clear hb)) | ((with_reducible refine gN 12 rfl ?_); refine bx 12 #[.int .i64 0, .int .i64 0] 54 ?_; intro gb196 hg w22 hbox hb; have BK196 := Aside0.mk hbox; have GW196 := gE hg; have GE196 := GW196; have NB193_196 := nbl hg BK193.out; have NB196_193 := nbr hg BK193.out; replace BK193 := blB hb BK193; replace HB := hB hb; clear hb hbox hg; have hcz24 := cs2 BK196.out; have hcz25 := cs2 BK193.out))
  refine bodyPost_ret (results_ct rfl _ _ gb193 54 #[.int .i64 t194, .int .i64 0] (0, 0) _ rfl bk_ Tryd.underlying54 rfl (by kernel_rfl)) rfl ?_
  exact ⟨rr_, bl_⟩
 replace H := so3 H; obtain ⟨rfl, rfl, rfl⟩ := H; go_enter Tryd.func64, Tryd.ntmps64
 go_wp2_with (first | ((with_reducible refine gN 8 rfl ?_); refine bx 8 #[.int .i64 0, .int .i64 0] 54 ?_; intro gb193 hg w14 hbox hb; have BK193 := Aside0.mk hbox; have GW193 := gE hg; have GE193 := GW193; replace HB := hB hb; clear hb hbox hg) | ((with_reducible refine gC 88 rfl ?_); refine goesL1 (some 18) Tryd.func88 #[.string a0, .int .i64 a1, .int .i64 a2, .int .i64 a3] rfl (map4 rfl rfl rfl rfl) ?_; (with_reducible refine (words_Move.calls ?side1 A5.out).mono ?_); (case side1 => exact Tabs.below HT.out bl_); rintro e w15 ⟨rfl, hb⟩; refine ⟨_, rfl, ?_⟩; replace BK193 := blB hb BK193; replace HB := hB hb; (try clear hb)) | ((with_reducible refine gN 12 rfl ?_); refine bx 12 #[.int .i64 0, .int .i64 0] 54 ?_; intro gb196 hg w16 hbox hb; have BK196 := Aside0.mk hbox; have GW196 := gE hg; have GE196 := GW196; have NB193_196 := nbl hg BK193.out; have NB196_193 := nbr hg BK193.out; replace BK193 := blB hb BK193; replace HB := hB hb; clear hb hbox hg; have hcz18 := cs2 BK196.out; have hcz19 := cs2 BK193.out))
 refine bodyPost_ret (results_ct rfl _ _ gb193 54 #[.int .i64 t194, .int .i64 1] (0, 0) _ rfl bk_ Tryd.underlying54 rfl (by kernel_rfl)) rfl ?_
 exact ⟨rr_, bl_⟩

/-! ### text_Map_Row: function 49 -/
def text_Map_Row.l0 : Nat → Int → Int → List Int → List Int → Option (Int)
  | 0, _, _, _, _ => none
  | k + 1, x1, x5, v0, v1 => if (wrap64 (x5 + 1)) < (v1.length : Int) then (if 0 ≤ (wrap64 (x5 + 1)) then (if (rd v1 (wrap64 (x5 + 1))) ≤ x1 then (text_Map_Row.l0 k x1 (wrap64 (x5 + 1)) v0 v1) else (some x5)) else (none)) else (some x5)
def text_Map_Row.f (k : Nat) (l0_0 : List Int) (l0_1 : List Int) (a1 : Int) : Option (Int) := text_Map_Row.l0 k a1 0 l0_0 l0_1
theorem text_Map_Row.calls {k : Nat} {g0 : Nat} {A0_0 : Option Addr} {c0_0 : Nat} {l0_0 : List Int} {A0_1 : Option Addr} {c0_1 : Nat} {l0_1 : List Int} {a1 : Int} {r : Int} {w : World} (hg0 : w.heap[g0]? = some (.cells #[.slice A0_0 l0_0.length c0_0, .slice A0_1 l0_1.length c0_1] 79 (0, 0))) (hr0_0 : Kd.C (Kd.int .i32) w A0_0 l0_0.length l0_0) (hc0_0 : l0_0.length ≤ c0_0) (hr0_1 : Kd.C (Kd.int .i64) w A0_1 l0_1.length l0_1) (hc0_1 : l0_1.length ≤ c0_1) (H : text_Map_Row.f k l0_0 l0_1 a1 = some r) :
  Calls Tryd.prog 49 #[.pointer (some ⟨g0, 0, none⟩), .int .i64 a1] w fun e w' => e = .returned (.int .i64 r) ∧ Drawn0 w w' := by
 have BK0 := Aside0.mk hg0; clear hg0; have HR0_0 := Aside0.mk hr0_0; have HC0_0 := Aside0.mk hc0_0; clear hr0_0 hc0_0; have HR0_1 := Aside0.mk hr0_1; have HC0_1 := Aside0.mk hc0_1; clear hr0_1 hc0_1; unfold text_Map_Row.f at H; replace H := Aside0.mk H; go_enter Tryd.func49, Tryd.ntmps49
 go_wp2
 go_loopg [5] k (fun kq v5 w' => ∃ (x5_1 : Int), v5 = .int .i64 x5_1 ∧ Aside0 (text_Map_Row.l0 kq a1 x5_1 l0_0 l0_1 = some r) ∧ Aside0 (kq ≤ k) ∧ Aside0 (w'.heap[g0]? = some (.cells #[(.slice A0_0 l0_0.length c0_0), (.slice A0_1 l0_1.length c0_1)] 79 (0, 0))) ∧ Drawn0 w w')
 case atStart => exact ⟨(0), r3_, H, ⟨Nat.le_refl _⟩, ⟨BK0.out⟩, dr_⟩
 case round =>
  clear H; obtain ⟨x5_1, rfl, HA, HK1, BK0, ⟨m1, rfl⟩⟩ := hrel; simp only [World.heap_drewN] at BK0
  cases gk with
  | zero => exact absurd HA.out (by simp [text_Map_Row.l0])
  | succ k1 =>
   obtain ⟨H⟩ := HA; simp only [text_Map_Row.l0] at H; replace H := nfd H; obtain ⟨c3b0, H⟩ | ⟨c3b0, H⟩ := H
   ·
    obtain rfl := Option.some.inj H; have hcz9 := cs2 BK0.out; go_wp2; go_ret
    exact ⟨r3_, dr_⟩
   obtain ⟨ji4, hji4⟩ : ∃ j_ : Int, (wrap64 (x5_1 + 1)) = j_ := ⟨_, rfl⟩; (first | rw [hji4] at H | simp only [hji4] at H); (try rw [hji4] at c3b0)
   have hji4w : (IntKind.i64.wrap (x5_1 + 1)) = ji4 := (i64_w _).trans hji4
   replace H := ifdn H; obtain ⟨c5b0, H⟩ := H; replace H := nfd H; obtain ⟨c6b0, H⟩ | ⟨c6b0, H⟩ := H
   ·
    obtain rfl := Option.some.inj H; have hcz8 := cs2 BK0.out; obtain ⟨p197, q197, ad197, e197, hx197_0⟩ := ix_ (Kd.at_int HR0_1.out (ji4)); cases e197; go_wp2; go_ret
    exact ⟨by first | rfl | (simp; done) | (simp only [← hji4] <;> (first | rfl | simp)) | (simp [*]; done), dr_⟩
   replace H := Aside0.mk H; have hcz7 := cs2 BK0.out; obtain ⟨p197, q197, ad197, e197, hx197_0⟩ := ix_ (Kd.at_int HR0_1.out (ji4)); cases e197; go_wp2
   go_roundg k1
   case measure => have := HK1.out; omega
   case rel => exact ⟨(ji4), (by first | rfl | (simp; done) | (simp only [← hji4] <;> (first | rfl | simp)) | (simp [*]; done)), H, ⟨by have := HK1.out; omega⟩, ⟨BK0.out⟩, dr_⟩

end Go.Proofs.YtbgmmcngkdhpcaaDoor.P
