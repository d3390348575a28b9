/- The walks of the functions that these statements reach: each Go function as a plain Lean function, and the proof that its call comes to that. Written by the session's program wip/pp.py. -/
import Derived.Test.YtbgmmcngkdhpcaaDoorP0
namespace Go.Proofs.YtbgmmcngkdhpcaaDoor.P
open Go.Proofs.YtbgmmcngkdhpcaaDoor
open Go.RowKit Go.Proofs.YtbgmmcngkdhpcaaDoorW.PrintWords Go.Proofs.YtbgmmcngkdhpcaaDoorW.PrintLast Go.Proofs.YtbgmmcngkdhpcaaDoorW.PrintMore
attribute [local go_sem] cell_isSome max2_int min2_int max_two min_two max_three min_three max_four min_four   -- for this text's walks alone
set_option linter.unusedVariables false
set_option linter.unusedSimpArgs false
set_option maxHeartbeats 8000000
set_option maxRecDepth 100000

/-! ### move_Asks: function 23 -/
def move_Asks.f (a0 : Int) : Option (Bool) := (move_kind.f a0).bind fun t691 => (if t691 = 3 then (some true) else ((move_kind.f a0).bind fun t692 => (some (t692 == 7))))
theorem move_Asks.calls {a0 : Int} {r : Bool} {w : World} (H : move_Asks.f a0 = some r) :
  Calls Tryd.prog 23 #[.int .i64 a0] w fun e w' => e = .returned (.bool r) ∧ Below w.heap.size w w' := by
 have HB := Aside0.mk (Below.refl w.heap.size w); unfold move_Asks.f at H; replace H := bindA H; obtain ⟨t691, A2, H⟩ := H; (try dsimp only at H); replace H := ife H; obtain ⟨c3b0, c3b1, H⟩ | ⟨c3b0, c3b1, H⟩ := H
 ·
  obtain rfl := Option.some.inj H; go_enter Tryd.func23, Tryd.ntmps23
  go_wp2_with (first | ((with_reducible refine gC 42 rfl ?_); refine goesL1 (some 4) Tryd.func42 #[.int .i64 a0] rfl (map1 rfl) ?_; (with_reducible refine (move_kind.calls a0 t691 _ A2.out).mono ?_); rintro e w4 ⟨rfl, hb⟩; refine ⟨_, rfl, ?_⟩; replace HB := hB hb; (try clear hb)))
  go_ret
  exact ⟨rr_, bl_⟩
 replace H := bindA H; obtain ⟨t692, A5, H⟩ := H; (try dsimp only at H); obtain rfl := Option.some.inj H; go_enter Tryd.func23, Tryd.ntmps23
 go_wp2_with (first | ((with_reducible refine gC 42 rfl ?_); refine goesL1 (some 4) Tryd.func42 #[.int .i64 a0] rfl (map1 rfl) ?_; (with_reducible refine (move_kind.calls a0 t691 _ A2.out).mono ?_); rintro e w6 ⟨rfl, hb⟩; refine ⟨_, rfl, ?_⟩; replace HB := hB hb; (try clear hb)) | (go_at_call 42; (with_reducible refine (move_kind.calls a0 t692 _ A5.out).mono ?_); rintro e w7 ⟨rfl, hb⟩; replace HB := hB hb; (try clear hb)))
 go_ret
 exact ⟨rr_, bl_⟩

end Go.Proofs.YtbgmmcngkdhpcaaDoor.P
