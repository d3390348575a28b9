/- Plain facts on words: the cells of a text, where a word begins and ends, where w, b and e lead: the program's functions and the document's come to the same. Conditions: none. -/
import Derived.Test.YtdcbaiimojnlnaaDoorLQa
import Derived.Test.YtdcbaiimojnlnaaDoorP0
import Derived.Test.YtdcbaiimojnlnaaDoorP2
import Derived.Test.YtdcbaiimojnlnaaDoorP3
import Derived.Test.YtdcbaiimojnlnaaDoorP4
import Derived.Test.YtdcbaiimojnlnaaDoorP5
import Derived.Test.YtdcbaiimojnlnaaDoorP6
import Derived.Test.YtdcbaiimojnlnaaDoorP7
namespace Go.Proofs.YtdcbaiimojnlnaaDoor.P
open Go.RowKit Go.Proofs.YtdcbaiimojnlnaaDoor Go.Proofs.YtdcbaiimojnlnaaDoorW.PrintWords Go.Proofs.YtdcbaiimojnlnaaDoorW.PrintLast Go.Proofs.YtdcbaiimojnlnaaDoorW.PrintMore
/-! ### the cells of a text -/
def cellAt (R : List Int) (big : Bool) (i : Nat) : List S56 :=
  if (i : Int) = R.length ∨ rd R i = 10 then (if (i : Int) = 0 ∨ rd R ((i : Int) - 1) = 10 then [⟨i, 3, true, true⟩] else [])
  else [⟨i, clsb big (wrap64 (rd R i)), decide ((i : Int) = 0 ∨ rd R ((i : Int) - 1) = 10), decide ((i : Int) + 1 = R.length ∨ rd R ((i : Int) + 1) = 10)⟩]
def cellsTo (R : List Int) (big : Bool) : Nat → List S56
  | 0 => []
  | i + 1 => cellsTo R big i ++ cellAt R big i
def cellsOf (R : List Int) (big : Bool) : List S56 := cellsTo R big (R.length + 1)
theorem cellAt_len (R : List Int) (big : Bool) (i : Nat) : (cellAt R big i).length ≤ 1 := by
  unfold cellAt
  repeat' split
  all_goals simp
theorem cellsTo_len (R : List Int) (big : Bool) : ∀ i, (cellsTo R big i).length ≤ i
  | 0 => Nat.le_refl _
  | i + 1 => by
    have h1 := cellsTo_len R big i
    have h2 := cellAt_len R big i
    simp only [cellsTo, List.length_append]
    omega
section
variable {R B : List Int} {big : Bool}
theorem cellAt_none {i : Nat} (h : (i : Int) = R.length ∨ rd R i = 10) (h2 : ¬ ((i : Int) = 0 ∨ rd R ((i : Int) - 1) = 10)) : cellAt R big i = [] := by
  unfold cellAt
  rw [if_pos h, if_neg h2]
theorem cellAt_bare {i : Nat} (h : (i : Int) = R.length ∨ rd R i = 10) (h2 : (i : Int) = 0 ∨ rd R ((i : Int) - 1) = 10) : cellAt R big i = [⟨i, 3, true, true⟩] := by
  unfold cellAt
  rw [if_pos h, if_pos h2]
theorem cellAt_rune {i : Nat} (h : ¬ ((i : Int) = R.length ∨ rd R i = 10)) : cellAt R big i = [⟨i, clsb big (wrap64 (rd R i)), decide ((i : Int) = 0 ∨ rd R ((i : Int) - 1) = 10), decide ((i : Int) + 1 = R.length ∨ rd R ((i : Int) + 1) = 10)⟩] := by
  unfold cellAt
  rw [if_neg h]
/-! ### the program's cells -/
theorem cells_row (hR : R.length ≤ 4000) {low high j : Int} (hlow : low = 0 ∨ rd R (low - 1) = 10) (hhigh : high = R.length ∨ rd R high = 10) (hmid : ∀ i, low ≤ i → i < high → rd R i ≠ 10) (h0 : 0 ≤ low) (h1 : high ≤ R.length) {r : List S56}
    (hlt : low < high) (H : Ev (fun k => words_cells.l0 k big (cellsTo R big (high.toNat + 1)) B B.length (wrap64 (j + 1)) R B) r) (d : Nat) :
    ∀ i : Nat, (i : Int) + d = high → low ≤ i → Ev (fun k => words_cells.l1 k big (cellsTo R big i) low high (i : Int) B B.length j R B) r := by
  induction d with
  | zero =>
    intro i hi _
    refine ev_shift ?_
    simp only [words_cells.l1]
    refine ev_neg (by omega) ?_
    have e : cellsTo R big (high.toNat + 1) = cellsTo R big i := by
      rw [show high.toNat = i by omega]
      show cellsTo R big i ++ cellAt R big i = _
      have hh := hmid (high - 1) (by omega) (by omega)
      rw [cellAt_none (by rw [show (i : Int) = high by omega]; exact hhigh) (by rw [show (i : Int) = high by omega]; exact fun h => h.elim (fun h => by omega) hh), List.append_nil]
    rw [e] at H
    exact H
  | succ d ih =>
    intro i hi hl
    refine ev_shift ?_
    simp only [words_cells.l1]
    have hl2 := cellsTo_len R big i
    refine ev_pos (by omega) (ev_pos (by omega) (ev_pos (by omega) (Ev.bind (wclass_prog _ _) (ev_pos (by omega) ?_))))
    have h2 := ih (i + 1) (by omega) (by omega)
    have e : cellAt R big i = [⟨i, clsb big (wrap64 (rd R i)), ((i : Int) == low), ((i : Int) == wrap64 (high - 1))⟩] := by
      rw [cellAt_rune (fun h => h.elim (fun h => by omega) (fun h => hmid i hl (by omega) h)), w64 (x := high - 1) (by omega) (by omega)]
      congr 2
      · by_cases e : (i : Int) = low
        · rw [e, decide_eq_true hlow, beq_self_eq_true]
        · rw [beq_false_of_ne e, decide_eq_false]
          intro h
          rcases h with h | h
          · omega
          · exact hmid _ (by omega) (by omega) h
      · by_cases e : (i : Int) = high - 1
        · rw [e, beq_self_eq_true, decide_eq_true]
          rw [show high - 1 + 1 = high by omega]
          exact hhigh
        · rw [beq_false_of_ne e, decide_eq_false]
          intro h
          rcases h with h | h
          · omega
          · exact hmid _ (by omega) (by omega) h
    simp only [cellsTo] at h2
    rw [e] at h2
    rw [w64 (x := (i : Int) + 1) (by omega) (by omega)]
    exact_mod_cast h2
theorem cells_loop (hR : R.length ≤ 4000) (hB : Beg R B R.length) (d : Nat) :
    ∀ j : Nat, j + d = B.length → Ev (fun k => words_cells.l0 k big (cellsTo R big (if (j : Int) < B.length then (rd B j).toNat else R.length + 1)) B B.length (j : Int) R B) (cellsOf R big) := by
  have hlen := hB.len
  induction d with
  | zero =>
    intro j hj
    refine ev_shift ?_
    simp only [words_cells.l0]
    refine ev_neg (by omega) ?_
    rw [if_neg (by omega)]
    exact Ev.now _
  | succ d ih =>
    intro j hj
    have hjl : (j : Int) < B.length := by omega
    obtain ⟨r0, r1, r2, r3, r4, r5⟩ := hB.row (j := j) (by omega) hjl
    have hnext : (if ((j + 1 : Nat) : Int) < B.length then (rd B ((j + 1 : Nat) : Int)).toNat else R.length + 1) = (hi R B j).toNat + 1 := by
      split
      · rename_i h
        have := hB.next (j := j) (by omega)
        rw [show ((j + 1 : Nat) : Int) = (j : Int) + 1 by omega, this]
        omega
      · rename_i h
        unfold hi
        rw [if_neg (by omega)]
        omega
    have h2 := ih (j + 1) (by omega)
    rw [hnext] at h2
    have H : Ev (fun k => words_cells.l0 k big (cellsTo R big ((hi R B j).toNat + 1)) B B.length (wrap64 ((j : Int) + 1)) R B) (cellsOf R big) := by
      rw [w64 (by omega) (by omega)]
      exact_mod_cast h2
    rw [if_pos hjl]
    refine ev_shift ?_
    simp only [words_cells.l0]
    refine ev_pos hjl (ev_pos (by omega) (ev_pos hjl (ev_bindc (end_ev hB hR (by omega) hjl) ?_)))
    by_cases e : rd B j = hi R B j
    · have hl2 := cellsTo_len R big (rd B j).toNat
      refine ev_pos e (ev_pos (by omega) ?_)
      refine ev_shift ?_
      simp only [words_cells.j1]
      refine ev_shift ?_
      simp only [words_cells.l1]
      refine ev_neg (by omega) ?_
      have e2 : cellsTo R big ((hi R B j).toNat + 1) = cellsTo R big (rd B j).toNat ++ [⟨rd B j, 3, true, true⟩] := by
        rw [← e]
        simp only [cellsTo]
        have e3 : (((rd B j).toNat : Nat) : Int) = rd B j := by omega
        rw [cellAt_bare (by rw [e3]; rw [← e] at r4; exact r4) (by rw [e3]; exact r3), e3]
      rw [e2] at H
      exact H
    · refine ev_neg e ?_
      refine ev_shift ?_
      simp only [words_cells.j1]
      have h3 := cells_row (big := big) (B := B) (j := j) hR r3 r4 r5 r0 r2 (by omega) H ((hi R B j) - (rd B j)).toNat (rd B j).toNat (by omega) (by omega)
      rw [show (((rd B j).toNat : Nat) : Int) = rd B j by omega] at h3
      exact h3
end
theorem cells_prog (s : ByteArray) (hs : s.size ≤ 4000) (big : Bool) : Ev (fun k => words_cells.f k s big) (cellsOf (runesOf s) big) := by
  have hn := runesOf_len s
  obtain ⟨B, h1, h2⟩ := of_ev s hs
  unfold words_cells.f
  refine Ev.bind h1 ?_
  have h3 := cells_loop (big := big) (by omega) h2 B.length 0 (by omega)
  have hp := h2.pos
  have hz := h2.zero
  rw [if_pos (by omega)] at h3
  rw [show ((0 : Nat) : Int) = 0 from rfl, hz] at h3
  exact h3
end Go.Proofs.YtdcbaiimojnlnaaDoor.P
