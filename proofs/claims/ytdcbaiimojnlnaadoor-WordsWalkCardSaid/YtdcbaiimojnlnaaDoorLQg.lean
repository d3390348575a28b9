/- The cells of a text, as the program tells them; two lists that are one list; a list that is written over. Conditions: none. -/
import Derived.Test.YtdcbaiimojnlnaaDoorLQe
import Derived.Test.YtdcbaiimojnlnaaDoorP0
import Derived.Test.YtdcbaiimojnlnaaDoorP18
namespace Go.Proofs.YtdcbaiimojnlnaaDoor.P
open Go.RowKit Go.Proofs.YtdcbaiimojnlnaaDoor Go.Proofs.YtdcbaiimojnlnaaDoorW.PrintWords Go.Proofs.YtdcbaiimojnlnaaDoorW.PrintLast Go.Proofs.YtdcbaiimojnlnaaDoorW.PrintMore
theorem eq_loop (l : List Int) (hl : l.length ≤ 6000) (d : Nat) : ∀ i : Nat, i + d = l.length → Ev (fun k => quillref0_EqNumbers.l0 k l l (i : Int)) true := by
  induction d with
  | zero =>
    intro i hi
    refine ev_shift ?_
    simp only [quillref0_EqNumbers.l0]
    exact ev_neg (by omega) (Ev.now _)
  | succ d ih =>
    intro i hi
    have h2 := ih (i + 1) (by omega)
    refine ev_shift ?_
    simp only [quillref0_EqNumbers.l0]
    refine ev_pos (by omega) (ev_pos (by omega) (ev_pos (by omega) (ev_pos (by trivial) ?_)))
    rw [w64 (x := (i : Int) + 1) (by omega) (by omega)]
    exact_mod_cast h2
theorem eq_ev (l : List Int) (hl : l.length ≤ 6000) : Ev (fun k => quillref0_EqNumbers.f k l l) true := by
  unfold quillref0_EqNumbers.f
  exact ev_pos rfl (eq_loop l hl l.length 0 (by omega))
theorem spoil_loop (d : Nat) : ∀ (i : Nat) (l : List Int), l.length ≤ 6000 → i + d = l.length → Ev (fun k => quilllaw0_Numbers.l0 k l (i : Int)) () := by
  induction d with
  | zero =>
    intro i l hl hi
    refine ev_shift ?_
    simp only [quilllaw0_Numbers.l0]
    exact ev_neg (by omega) (ev_pos (by omega) (Ev.now _))
  | succ d ih =>
    intro i l hl hi
    have h2 := ih (i + 1) (l.set (i : Int).toNat (-99)) (by simpa using hl) (by simp; omega)
    refine ev_shift ?_
    simp only [quilllaw0_Numbers.l0]
    refine ev_pos (by omega) (ev_pos (by omega) ?_)
    rw [w64 (x := (i : Int) + 1) (by omega) (by omega)]
    exact_mod_cast h2
theorem spoil_ev (l : List Int) (hl : l.length ≤ 6000) : Ev (fun k => quilllaw0_Numbers.f k l) () := spoil_loop l.length 0 l hl (by omega)
section
variable {R : List Int} {big : Bool}
theorem cells_out_loop (hR : R.length ≤ 4000) (d : Nat) : ∀ i : Nat, i + d = (cellsOf R big).length →
    Ev (fun k => words_Cells.l0 k (atsOf ((cellsOf R big).take i)) (clsOf ((cellsOf R big).take i)) (cellsOf R big) ((cellsOf R big).length : Int) (i : Int)) (atsOf (cellsOf R big), clsOf (cellsOf R big), 0) := by
  have hl := cells_le R big
  induction d with
  | zero =>
    intro i hi
    refine ev_shift ?_
    simp only [words_Cells.l0]
    rw [List.take_of_length_le (by omega)]
    exact ev_neg (by omega) (Ev.now _)
  | succ d ih =>
    intro i hi
    have hlt : i < (cellsOf R big).length := by omega
    have h2 := ih (i + 1) (by omega)
    have hc : (cellsOf R big)[i]? = some (cellsOf R big)[i] := List.getElem?_eq_getElem hlt
    have hla := atsOf_len ((cellsOf R big).take i)
    have hlc := clsOf_len ((cellsOf R big).take i)
    have htl : ((cellsOf R big).take i).length ≤ i := List.length_take_le _ _
    rw [List.take_succ_eq_append_getElem hlt, atsOf_snoc, clsOf_snoc] at h2
    generalize (cellsOf R big)[i] = c at hc h2
    refine ev_shift ?_
    simp only [words_Cells.l0]
    rw [rd_cell rfl hc, w64 (x := (i : Int) + 1) (by omega) (by omega)]
    refine ev_pos (by omega) (ev_pos (by omega) (ev_pos (by omega) (ev_bindc rfl (ev_pos (by simp; omega) (ev_bindc rfl (ev_pos (by simp; omega) ?_))))))
    exact_mod_cast h2
end
def CellsIs (s : ByteArray) (big : Bool) : List Int × List Int × Int := if MayB s = true then (atsOf (cellsOf (runesOf s) big), clsOf (cellsOf (runesOf s) big), 0) else ([], [], 1)
theorem cells_out (s : ByteArray) (hs : s.size ≤ 9223372036854775807) (big : Bool) : Ev (fun k => words_Cells.f k s big) (CellsIs s big) := by
  have hn := runesOf_len s
  unfold words_Cells.f CellsIs
  refine ev_bindc (may_prog s hs) ?_
  cases hm : MayB s
  · rw [if_neg (by decide)]
    exact ev_neg (by decide) (Ev.now _)
  · have hsz := MayB_size hm
    rw [if_pos rfl]
    refine ev_pos rfl (Ev.bind (cells_prog s hsz big) ?_)
    exact cells_out_loop (by omega) _ 0 (Nat.zero_add _)
end Go.Proofs.YtdcbaiimojnlnaaDoor.P
