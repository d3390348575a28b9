/- The piece around a place: what is asked amiss is refused; the law's own example. Conditions: none. -/
import Derived.Test.YtgikaemhhaejoaaDoorLRe
import Derived.Test.YtgikaemhhaejoaaDoorP0
import Derived.Test.YtgikaemhhaejoaaDoorP9
namespace Go.Proofs.YtgikaemhhaejoaaDoor.P
open Go.RowKit Go.Proofs.YtgikaemhhaejoaaDoor Go.Proofs.YtgikaemhhaejoaaDoorW.PrintWords Go.Proofs.YtgikaemhhaejoaaDoorW.PrintLast Go.Proofs.YtgikaemhhaejoaaDoorW.PrintMore
/-- May a piece be asked? -/
def OkP (s : ByteArray) (a wide key count : Int) : Bool := MayB s && (decide (0 ≤ a ∧ a ≤ (runesOf s).length) && (decide (wide = 105 ∨ wide = 97) && (ObjB key && decide (1 ≤ count ∧ count ≤ 999))))
theorem may_size {s : ByteArray} (h : MayB s = true) : s.size ≤ 4000 := by
  unfold MayB at h
  simp only [Bool.and_eq_true, decide_eq_true_eq] at h
  exact h.1.1
theorem piece_bad {s : ByteArray} (hs : s.size ≤ 9223372036854775807) {a wide key count : Int} (h : OkP s a wide key count = false) : Ev (fun k => object_Piece.f k s a wide key count) (0, 0, false, 1) := by
  have out : Ev (fun k => object_Piece.j0 k s a wide key count true) (0, 0, false, 1) := ev_shift (by simp only [object_Piece.j0]; exact ev_pos (by trivial) (Ev.now _))
  unfold object_Piece.f
  refine ev_bindc (may_prog s hs) ?_
  cases hm : MayB s
  · exact ev_neg (by decide) out
  · refine ev_pos (by trivial) ?_
    have hsz := may_size hm
    have last : (wide = 105 ∨ wide = 97) → Ev (fun k => (object_Is.f key).bind fun t => (if t = true then (if count < 1 then (object_Piece.j0 k s a wide key count true) else (object_Piece.j0 k s a wide key count (decide (count > 999)))) else (object_Piece.j0 k s a wide key count true))) (0, 0, false, 1) := by
      intro hw
      refine ev_bindc (object_is key) ?_
      cases ho : ObjB key
      · exact ev_neg (by decide) out
      · refine ev_pos (by trivial) ?_
        by_cases c1 : count < 1
        · exact ev_pos c1 out
        · refine ev_neg c1 ?_
          by_cases c2 : count > 999
          · rw [decide_eq_true c2]
            exact out
          · rw [decide_eq_false c2]
            obtain ⟨B, hof, _⟩ := of_ev s hsz
            have ha : ¬ (0 ≤ a ∧ a ≤ ((runesOf s).length : Int)) := by
              intro q
              unfold OkP at h
              rw [hm, ho, decide_eq_true q, decide_eq_true hw, decide_eq_true (show 1 ≤ count ∧ count ≤ 999 by omega)] at h
              cases h
            have his : text_Map_Is.f (runesOf s) B a = some false := by
              unfold text_Map_Is.f
              by_cases a0 : a ≥ 0
              · rw [if_pos a0, decide_eq_false (by omega)]
              · rw [if_neg a0]
            refine ev_shift ?_
            simp only [object_Piece.j0]
            exact ev_neg (by decide) (Ev.bind hof (ev_bindc his (ev_neg (by decide) (Ev.now _))))
    by_cases w1 : wide = 105
    · exact ev_pos w1 (last (.inl w1))
    · refine ev_neg w1 ?_
      by_cases w2 : wide = 97
      · exact ev_pos w2 (last (.inr w2))
      · exact ev_neg w2 out
theorem wakes15 : Ev (fun k => quilllaw15_wakes.f k) true := Ev.of (fun k => quilllaw15_wakes.mono k) (k := 60) (by decide +kernel)
theorem num15 (x : Int) : quilllaw15_num.f x = some x := rfl
end Go.Proofs.YtgikaemhhaejoaaDoor.P
