/- Plain facts on texts: the row of an offset, and its end: the program's functions and the document's come to the same. Conditions: none. -/
import Derived.Test.YtbgmmcngkdhpcaaDoorLQa
import Derived.Test.YtbgmmcngkdhpcaaDoorP0
import Derived.Test.YtbgmmcngkdhpcaaDoorP2
import Derived.Test.YtbgmmcngkdhpcaaDoorP3
namespace Go.Proofs.YtbgmmcngkdhpcaaDoor.P
open Go.RowKit Go.Proofs.YtbgmmcngkdhpcaaDoor Go.Proofs.YtbgmmcngkdhpcaaDoorW.PrintWords Go.Proofs.YtbgmmcngkdhpcaaDoorW.PrintLast Go.Proofs.YtbgmmcngkdhpcaaDoorW.PrintMore
/-! ### the row of an offset -/
theorem of_row {R B : List Int} (h : Beg R B R.length) {j a : Int} (h0 : 0 ≤ j) (h1 : j < B.length) (hb : rd B j ≤ a) (he : a ≤ hi R B j) : IsB R a (rd B j) ∧ IsE R a (hi R B j) := by
  obtain ⟨r1, r2, r3, r4, r5, r6⟩ := h.row h0 h1
  exact ⟨⟨r1, hb, r4, fun i x y => r6 i x (by omega)⟩, ⟨he, r3, r5, fun i x y => r6 i (by omega) y⟩⟩
theorem row_loop {R B : List Int} (h : Beg R B R.length) (hR : R.length ≤ 4000) {a : Int} (ha : a ≤ R.length) (d : Nat) : ∀ j : Int, 0 ≤ j → j + d = B.length - 1 → rd B j ≤ a →
    ∃ j', Ev (fun k => text_Map_Row.l0 k a j R B) j' ∧ 0 ≤ j' ∧ j' < B.length ∧ rd B j' ≤ a ∧ a ≤ hi R B j' := by
  have hlen := h.len
  induction d with
  | zero =>
    intro j h0 e hj
    refine ⟨j, ev_shift ?_, h0, by omega, hj, ?_⟩
    · simp only [text_Map_Row.l0]
      rw [w64 (by omega) (by omega)]
      exact ev_neg (by omega) (Ev.now _)
    · unfold hi
      rw [if_neg (by omega)]
      exact ha
  | succ d ih =>
    intro j h0 e hj
    by_cases h2 : rd B (j + 1) ≤ a
    · obtain ⟨j', h3, h4⟩ := ih (j + 1) (by omega) (by omega) h2
      refine ⟨j', ev_shift ?_, h4⟩
      simp only [text_Map_Row.l0]
      rw [w64 (by omega) (by omega)]
      exact ev_pos (by omega) (ev_pos (by omega) (ev_pos h2 h3))
    · have hn := h.next (j := j) (by omega)
      refine ⟨j, ev_shift ?_, h0, by omega, hj, by omega⟩
      simp only [text_Map_Row.l0]
      rw [w64 (by omega) (by omega)]
      exact ev_pos (by omega) (ev_pos (by omega) (ev_neg h2 (Ev.now _)))
theorem row_ev {R B : List Int} (h : Beg R B R.length) (hR : R.length ≤ 4000) {a : Int} (h0 : 0 ≤ a) (ha : a ≤ R.length) :
    ∃ j, Ev (fun k => text_Map_Row.f k R B a) j ∧ 0 ≤ j ∧ j < B.length ∧ rd B j ≤ a ∧ a ≤ hi R B j :=
  row_loop h hR ha (B.length - 1) 0 (by omega) (by have := h.pos; omega) (by rw [h.zero]; exact h0)
theorem endr_loop (R : List Int) (hR : R.length ≤ 4000) (d : Nat) : ∀ i : Nat, i + d = R.length → ∃ e, Ev (fun k => quillref1_End.l0 k R (i : Int)) e ∧ IsE R i e := by
  induction d with
  | zero =>
    intro i e
    exact ⟨i, ev_shift (by simp only [quillref1_End.l0]; exact ev_neg (by omega) (Ev.now _)), by omega, by omega, .inl (by omega), fun j h1 h2 => by omega⟩
  | succ d ih =>
    intro i e
    by_cases h : rd R i = 10
    · refine ⟨i, ev_shift ?_, by omega, by omega, .inr h, fun j h1 h2 => by omega⟩
      simp only [quillref1_End.l0]
      exact ev_pos (by omega) (ev_pos (by omega) (ev_pos h (Ev.now _)))
    · obtain ⟨f, h1, h2, h3, h4, h5⟩ := ih (i + 1) (by omega)
      refine ⟨f, ev_shift ?_, by omega, h3, h4, fun j h6 h7 => ?_⟩
      · simp only [quillref1_End.l0]
        refine ev_pos (by omega) (ev_pos (by omega) (ev_neg h ?_))
        rw [w64 (by omega) (by omega)]
        exact_mod_cast h1
      · by_cases e2 : j = i
        · rw [e2]; exact h
        · exact h5 j (by omega) h7
theorem endr_ev {R : List Int} (hR : R.length ≤ 4000) {i : Int} (h0 : 0 ≤ i) (h1 : i ≤ R.length) : ∃ e, Ev (fun k => quillref1_End.f k R i) e ∧ IsE R i e := by
  obtain ⟨m, rfl⟩ := Int.eq_ofNat_of_zero_le h0
  exact endr_loop R hR (R.length - m) m (by omega)
end Go.Proofs.YtbgmmcngkdhpcaaDoor.P
