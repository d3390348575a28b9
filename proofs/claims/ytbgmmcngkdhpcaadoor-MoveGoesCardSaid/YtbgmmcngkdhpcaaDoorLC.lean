/- Rows of a text: where a row's first rune stands, and the rows below and above: the program and the document come to the same. Conditions: none. -/
import Derived.Test.YtbgmmcngkdhpcaaDoorLB
import Derived.Test.YtbgmmcngkdhpcaaDoorP0
import Derived.Test.YtbgmmcngkdhpcaaDoorP6
import Derived.Test.YtbgmmcngkdhpcaaDoorP12
import Derived.Test.YtbgmmcngkdhpcaaDoorP18
import Derived.Test.YtbgmmcngkdhpcaaDoorP21
import Derived.Test.YtbgmmcngkdhpcaaDoorP23
import Derived.Test.YtbgmmcngkdhpcaaDoorP14
import Derived.Test.YtbgmmcngkdhpcaaDoorP24
import Derived.Test.YtbgmmcngkdhpcaaDoorP10
import Derived.Test.YtbgmmcngkdhpcaaDoorLA
import Derived.Test.YtbgmmcngkdhpcaaDoorP11
import Derived.Test.YtbgmmcngkdhpcaaDoorP5
import Derived.Test.YtbgmmcngkdhpcaaDoorP17
import Derived.Test.YtbgmmcngkdhpcaaDoorP4
import Derived.Test.YtbgmmcngkdhpcaaDoorP16
import Derived.Test.YtbgmmcngkdhpcaaDoorP29
import Derived.Test.YtbgmmcngkdhpcaaDoorP8
import Derived.Test.YtbgmmcngkdhpcaaDoorP15
import Derived.Test.YtbgmmcngkdhpcaaDoorP25
section
namespace Go.Proofs.YtbgmmcngkdhpcaaDoor.P
open Go.RowKit Go.Proofs.YtbgmmcngkdhpcaaDoor Go.Proofs.YtbgmmcngkdhpcaaDoorW.PrintWords Go.Proofs.YtbgmmcngkdhpcaaDoorW.PrintLast Go.Proofs.YtbgmmcngkdhpcaaDoorW.PrintMore
section
variable {R B : List Int} (hB : Beg R B R.length) (hR : R.length ≤ 4000)
include hB hR
theorem begin_row {j a : Int} (j0 : 0 ≤ j) (j1 : j < B.length) (h0 : rd B j ≤ a) (h1 : a ≤ hi R B j) : Ev (fun k => quillref1_Begin.f k R a) (rd B j) := by
  obtain ⟨r1, r2, r3, _, _, _⟩ := hB.row j0 j1
  obtain ⟨b, p1, p2⟩ := begin_ev hR (i := a) (by omega) (by omega)
  have := p2.uniq (of_row hB j0 j1 h0 h1).1
  subst this
  exact p1
theorem end_row {j a : Int} (j0 : 0 ≤ j) (j1 : j < B.length) (h0 : rd B j ≤ a) (h1 : a ≤ hi R B j) : Ev (fun k => quillref1_End.f k R a) (hi R B j) := by
  obtain ⟨r1, r2, r3, _, _, _⟩ := hB.row j0 j1
  obtain ⟨b, p1, p2⟩ := endr_ev hR (i := a) (by omega) (by omega)
  have := p2.uniq (of_row hB j0 j1 h0 h1).2
  subst this
  exact p1
theorem first_loop {j : Int} (j0 : 0 ≤ j) (j1 : j < B.length) (d : Nat) : ∀ i : Int, rd B j ≤ i → i + d = hi R B j →
    ∃ v, Ev (fun k => text_Map_First.l0 k j i R B) v ∧ Ev (fun k => quillref1_First.l0 k R i) v ∧ i ≤ v ∧ v ≤ hi R B j := by
  obtain ⟨r1, r2, r3, r4, r5, r6⟩ := hB.row j0 j1
  induction d with
  | zero =>
    intro i h0 hd
    refine ⟨i, ev_shift ?_, ev_shift ?_, Int.le_refl _, by omega⟩
    · simp only [text_Map_First.l0]
      exact ev_bindc (end_ev hB hR j0 j1) (ev_neg (by omega) (Ev.now _))
    · simp only [quillref1_First.l0]
      by_cases h : i < (R.length : Int)
      · have e : i = hi R B j := by omega
        refine ev_pos h (ev_pos (by omega) (ev_pos ?_ (Ev.now _)))
        rw [e]
        rcases r5 with r5 | r5
        · omega
        · exact r5
      · exact ev_neg h (Ev.now _)
  | succ d ih =>
    intro i h0 hd
    have hne := r6 i h0 (by omega)
    have e1 : wrap64 (i + 1) = i + 1 := w64 (by omega) (by omega)
    by_cases hc : cls (wrap64 (rd R i)) = 0
    · obtain ⟨v, g1, g2, g3, g4⟩ := ih (i + 1) (by omega) (by omega)
      refine ⟨v, ev_shift ?_, ev_shift ?_, by omega, g4⟩
      · simp only [text_Map_First.l0]
        rw [e1]
        exact ev_bindc (end_ev hB hR j0 j1) (ev_pos (by omega) (ev_pos (by omega) (ev_pos (by omega) (Ev.bind (class_prog _) (ev_pos hc g1)))))
      · simp only [quillref1_First.l0]
        rw [e1]
        exact ev_pos (by omega) (ev_pos (by omega) (ev_neg hne (Ev.bind (class_ref _) (ev_pos hc g2))))
    · refine ⟨i, ev_shift ?_, ev_shift ?_, Int.le_refl _, by omega⟩
      · simp only [text_Map_First.l0]
        exact ev_bindc (end_ev hB hR j0 j1) (ev_pos (by omega) (ev_pos (by omega) (ev_pos (by omega) (Ev.bind (class_prog _) (ev_neg hc (Ev.now _))))))
      · simp only [quillref1_First.l0]
        exact ev_pos (by omega) (ev_pos (by omega) (ev_neg hne (Ev.bind (class_ref _) (ev_neg hc (Ev.now _)))))
theorem first_both {j : Int} (j0 : 0 ≤ j) (j1 : j < B.length) : ∃ v, Ev (fun k => text_Map_First.f k R B j) v ∧ rd B j ≤ v ∧ v ≤ hi R B j ∧ ∀ a, rd B j ≤ a → a ≤ hi R B j → Ev (fun k => quillref1_First.f k R a) v := by
  obtain ⟨r1, r2, r3, _, _, _⟩ := hB.row j0 j1
  obtain ⟨v, g1, g2, g3, g4⟩ := first_loop hB hR j0 j1 (hi R B j - rd B j).toNat (rd B j) (Int.le_refl _) (by omega)
  refine ⟨v, ?_, g3, g4, fun a h0 h1 => ?_⟩
  · unfold text_Map_First.f
    exact ev_pos j0 (ev_pos j1 g1)
  · unfold quillref1_First.f
    exact Ev.bind (begin_row hB hR j0 j1 h0 h1) g2
theorem row_down (d : Nat) : ∀ j a : Int, 0 ≤ j → j < B.length → rd B j ≤ a → a ≤ hi R B j → d ≤ 1000 →
    Ev (fun k => quillref12_row.l0 k R a (d : Int)) (if j + d < B.length then rd B (j + d) else -1) := by
  induction d with
  | zero =>
    intro j a j0 j1 h0 h1 _
    refine ev_shift ?_
    simp only [quillref12_row.l0]
    refine ev_neg (by decide) (Ev.bind (begin_row hB hR j0 j1 h0 h1) (ev_shift ?_))
    simp only [quillref12_row.l1]
    refine ev_neg (by decide) ?_
    rw [if_pos (by omega), show j + ((0 : Nat) : Int) = j by omega]
    exact Ev.now _
  | succ d ih =>
    intro j a j0 j1 h0 h1 hd
    obtain ⟨r1, r2, r3, _, _, _⟩ := hB.row j0 j1
    refine ev_shift ?_
    simp only [quillref12_row.l0]
    refine ev_pos (by omega) (Ev.bind (end_row hB hR j0 j1 h0 h1) ?_)
    by_cases hn : j + 1 < (B.length : Int)
    · have hx := hB.next hn
      have hr := hB.range (j := j + 1) (by omega) hn
      obtain ⟨q1, q2, q3, _, _, _⟩ := hB.row (j := j + 1) (by omega) hn
      refine ev_neg (by omega) ?_
      rw [w64 (x := hi R B j + 1) (by omega) (by omega), w64 (x := ((d + 1 : Nat) : Int) - 1) (by omega) (by omega), ← hx, show ((d + 1 : Nat) : Int) - 1 = d by omega]
      have := ih (j + 1) (rd B (j + 1)) (by omega) hn (Int.le_refl _) q2 (by omega)
      rw [show j + ((d + 1 : Nat) : Int) = j + 1 + (d : Int) by omega]
      exact this
    · have e : hi R B j = R.length := if_neg hn
      rw [if_neg (show ¬ (j + ((d + 1 : Nat) : Int) < (B.length : Int)) by omega)]
      exact ev_pos e (Ev.now _)
theorem row_up (d : Nat) : ∀ j : Int, 0 ≤ j → j < B.length → d ≤ 1000 →
    Ev (fun k => quillref12_row.l1 k R (rd B j) (-(d : Int))) (if 0 ≤ j - d then rd B (j - d) else -1) := by
  induction d with
  | zero =>
    intro j j0 j1 _
    refine ev_shift ?_
    simp only [quillref12_row.l1]
    refine ev_neg (by decide) ?_
    rw [if_pos (by omega), show j - ((0 : Nat) : Int) = j by omega]
    exact Ev.now _
  | succ d ih =>
    intro j j0 j1 hd
    obtain ⟨r1, r2, r3, _, _, _⟩ := hB.row j0 j1
    refine ev_shift ?_
    simp only [quillref12_row.l1]
    refine ev_pos (by omega) ?_
    by_cases hz : j = 0
    · subst hz
      rw [if_neg (show ¬ (0 ≤ (0 : Int) - ((d + 1 : Nat) : Int)) by omega)]
      exact ev_pos hB.zero (Ev.now _)
    · have hx := hB.next (j := j - 1) (by omega)
      rw [show j - 1 + 1 = j by omega] at hx
      obtain ⟨q1, q2, q3, _, _, _⟩ := hB.row (j := j - 1) (by omega) (by omega)
      refine ev_neg (by omega) ?_
      rw [w64 (x := rd B j - 1) (by omega) (by omega), w64 (x := -((d + 1 : Nat) : Int) + 1) (by omega) (by omega), show -((d + 1 : Nat) : Int) + 1 = -(d : Int) by omega]
      refine Ev.bind (begin_row hB hR (j := j - 1) (by omega) (by omega) (by omega) (by omega)) ?_
      have := ih (j - 1) (by omega) (by omega) (by omega)
      rw [show j - ((d + 1 : Nat) : Int) = j - 1 - (d : Int) by omega]
      exact this
/-- The row so many below (above). -/
theorem row_is {j a : Int} (j0 : 0 ≤ j) (j1 : j < B.length) (h0 : rd B j ≤ a) (h1 : a ≤ hi R B j) {by_ : Int} (b0 : -1000 ≤ by_) (b1 : by_ ≤ 1000) :
    Ev (fun k => quillref12_row.f k R a by_) (if 0 ≤ j + by_ ∧ j + by_ < B.length then rd B (j + by_) else -1) := by
  unfold quillref12_row.f
  by_cases h : 0 ≤ by_
  · obtain ⟨d, rfl⟩ := Int.eq_ofNat_of_zero_le h
    have := row_down hB hR d j a j0 j1 h0 h1 (by omega)
    by_cases hl : j + (d : Int) < B.length
    · rw [if_pos ⟨by omega, hl⟩]
      rw [if_pos hl] at this
      exact this
    · rw [if_neg (fun q => hl q.2)]
      rw [if_neg hl] at this
      exact this
  · obtain ⟨d, hd⟩ := Int.eq_ofNat_of_zero_le (show 0 ≤ -by_ by omega)
    have e : by_ = -(d : Int) := by omega
    subst e
    have := row_up hB hR d j j0 j1 (by omega)
    refine ev_shift ?_
    simp only [quillref12_row.l0]
    refine ev_neg (by omega) (Ev.bind (begin_row hB hR j0 j1 h0 h1) ?_)
    by_cases hl : 0 ≤ j - (d : Int)
    · rw [if_pos ⟨by omega, by omega⟩, show j + -(d : Int) = j - d by omega]
      rw [if_pos hl] at this
      exact this
    · rw [if_neg (fun q => hl (by omega))]
      rw [if_neg hl] at this
      exact this
end
end Go.Proofs.YtbgmmcngkdhpcaaDoor.P
end
section
namespace Go.Proofs.YtbgmmcngkdhpcaaDoor.P
open Go.RowKit Go.Proofs.YtbgmmcngkdhpcaaDoor Go.Proofs.YtbgmmcngkdhpcaaDoorW.PrintWords Go.Proofs.YtbgmmcngkdhpcaaDoorW.PrintLast Go.Proofs.YtbgmmcngkdhpcaaDoorW.PrintMore
set_option linter.unusedSectionVars false
set_option linter.unusedVariables false
/-- Is a key a motion's by rows? -/
def LineK (key : Int) : Prop := key = 104 ∨ key = 108 ∨ key = 48 ∨ key = 94 ∨ key = 36 ∨ key = 106 ∨ key = 107 ∨ key = 43 ∨ key = 45 ∨ key = 95 ∨ key = 71 ∨ key = 16777319
theorem ev_ofpos {α : Type} {c : Prop} [Decidable c] {f g : Nat → Option α} {r : α} (hc : c) (h : Ev (fun k => if c then f k else g k) r) : Ev f r := Ev.congr (fun _ => (if_pos hc).symm) h
theorem ev_ofneg {α : Type} {c : Prop} [Decidable c] {f g : Nat → Option α} {r : α} (hc : ¬ c) (h : Ev (fun k => if c then f k else g k) r) : Ev g r := Ev.congr (fun _ => (if_neg hc).symm) h
theorem mx1 {c : Int} (c0 : 0 ≤ c) (c1 : c ≤ 999) : 1 ≤ mx 1 c ∧ mx 1 c ≤ 999 ∧ (0 < c → mx 1 c = c) := by
  unfold mx
  split <;> omega
section
variable {R B : List Int} (hB : Beg R B R.length) (hR : R.length ≤ 4000) {j a : Int} (j0 : 0 ≤ j) (j1 : j < B.length) (h0 : rd B j ≤ a) (h1 : a ≤ hi R B j)
include hB hR j0 j1
theorem down_out {col n b key : Int} {told : Bool} (b0 : -1000 ≤ b) (b1 : b ≤ 1000) (h : ¬ (0 ≤ j + b ∧ j + b < B.length)) : Ev (fun k => lines_mover_down.f k R B a j col n told key b) (0, 0, 6) := by
  have hl := hB.len
  unfold lines_mover_down.f
  rw [w64 (x := j + b) (by omega) (by omega)]
  by_cases q : j + b < 0
  · refine ev_pos q (ev_shift ?_)
    simp only [lines_mover_down.j0]
    exact ev_pos (by trivial) (Ev.now _)
  · refine ev_neg q (ev_bindc rfl ?_)
    rw [decide_eq_true (show j + b ≥ (B.length : Int) by omega)]
    refine ev_shift ?_
    simp only [lines_mover_down.j0]
    exact ev_pos (by trivial) (Ev.now _)
omit j0 j1 in
theorem down_in {col n b key : Int} {told : Bool} (b0 : -1000 ≤ b) (b1 : b ≤ 1000) (h : 0 ≤ j + b ∧ j + b < B.length) {v : Int × Int × Int}
    (hv : Ev (fun k => if key = 36 then ((text_Map_End.f R B (j + b)).bind fun t => (some (t, (1 : Int), (0 : Int)))) else (if key = 106 then ((text_Map_Col.f R B (j + b) col).bind fun t => (some (t, 2, 0))) else (if key = 107 then ((text_Map_Col.f R B (j + b) col).bind fun t => (some (t, 2, 0))) else ((text_Map_First.f k R B (j + b)).bind fun t => (some (t, 2, 0)))))) v) :
    Ev (fun k => lines_mover_down.f k R B a j col n told key b) v := by
  have hl := hB.len
  unfold lines_mover_down.f
  rw [w64 (x := j + b) (by omega) (by omega)]
  refine ev_neg (by omega) (ev_bindc rfl ?_)
  rw [decide_eq_false (show ¬ j + b ≥ (B.length : Int) by omega)]
  refine ev_shift ?_
  simp only [lines_mover_down.j0]
  refine ev_neg (by decide) ?_
  by_cases q1 : key = 36
  · exact ev_pos q1 (ev_ofpos q1 hv)
  replace hv := ev_ofneg q1 hv
  refine ev_neg q1 ?_
  by_cases q2 : key = 106
  · rw [beq_iff_eq.mpr q2]
    refine ev_pos q2 (ev_shift ?_)
    simp only [lines_mover_down.j1]
    exact ev_pos (by trivial) (ev_ofpos q2 hv)
  replace hv := ev_ofneg q2 hv
  refine ev_neg q2 ?_
  by_cases q3 : key = 107
  · rw [beq_iff_eq.mpr q3]
    refine ev_shift ?_
    simp only [lines_mover_down.j1]
    exact ev_pos (by trivial) (ev_ofpos q3 hv)
  · rw [beq_eq_false_iff_ne.mpr q3]
    refine ev_shift ?_
    simp only [lines_mover_down.j1]
    exact ev_neg (by decide) (ev_ofneg q3 hv)
theorem col_is {t col : Int} (t0 : 0 ≤ t) (t1 : t < B.length) (c0 : 0 ≤ col) (c1 : col ≤ 4000) : text_Map_Col.f R B t col = some (mn (rd B t + col) (hi R B t)) := by
  obtain ⟨r1, r2, r3, _, _, _⟩ := hB.row t0 t1
  unfold text_Map_Col.f
  rw [if_pos t0, if_pos t1, end_ev hB hR t0 t1, w64 (by omega) (by omega)]
  rfl
include h0 h1
theorem ref_pre {key count : Int} {v : Int × Int × Int} (hv : Ev (fun k => if key = 104 then (quillref12_Move.j0 k R a key count (mx 1 count) (rd B j) (hi R B j) 2 key (key == 104)) else (quillref12_Move.j0 k R a key count (mx 1 count) (rd B j) (hi R B j) 2 key (key == 108))) v) :
    Ev (fun k => quillref12_Move.f k R a key count) v := by
  unfold quillref12_Move.f
  exact Ev.bind (begin_row hB hR j0 j1 h0 h1) (Ev.bind (end_row hB hR j0 j1 h0 h1) hv)
omit h0 h1 in
theorem rows_loop {t0 : Int} (d : Nat) : ∀ i w : Int, 0 ≤ i → i + d = B.length - 1 → 0 ≤ w → w ≤ 5000 → t0 = (if i + w < B.length then i + w else B.length - 1) → ∀ v, (∀ a, rd B t0 ≤ a → a ≤ hi R B t0 → Ev (fun k => quillref1_First.f k R a) v) → 0 ≤ v →
    Ev (fun k => quillref12_Move.l0 k R (rd B i) 2 w) (v, 2, 0) := by
  induction d with
  | zero =>
    intro i w i0 hd w0 w1 ht v hv v0
    obtain ⟨r1, r2, r3, _, _, _⟩ := hB.row i0 (by omega)
    have e : t0 = i := by
      rw [ht]
      split <;> omega
    subst e
    have hf := hv _ (Int.le_refl _) r2
    refine ev_shift ?_
    simp only [quillref12_Move.l0]
    by_cases hw : w > 0
    · have hr := row_is hB hR i0 (by omega) (Int.le_refl _) r2 (by_ := 1) (by decide) (by decide)
      rw [if_neg (show ¬ (0 ≤ t0 + 1 ∧ t0 + 1 < (B.length : Int)) by omega)] at hr
      exact ev_pos hw (Ev.bind hr (ev_neg (by decide) (Ev.bind hf (ev_neg (by omega) (Ev.now _)))))
    · exact ev_neg hw (Ev.bind hf (ev_neg (by omega) (Ev.now _)))
  | succ d ih =>
    intro i w i0 hd w0 w1 ht v hv v0
    obtain ⟨r1, r2, r3, _, _, _⟩ := hB.row i0 (by omega)
    refine ev_shift ?_
    simp only [quillref12_Move.l0]
    by_cases hw : w > 0
    · have hr := row_is hB hR i0 (by omega) (Int.le_refl _) r2 (by_ := 1) (by decide) (by decide)
      rw [if_pos (show 0 ≤ i + 1 ∧ i + 1 < (B.length : Int) by omega)] at hr
      have hx := hB.range (j := i + 1) (by omega) (by omega)
      have h2 := ih (i + 1) (w - 1) (by omega) (by omega) (by omega) (by omega) (by rw [ht]; split <;> split <;> omega) v hv v0
      rw [w64 (x := w - 1) (by omega) (by omega)]
      exact ev_pos hw (Ev.bind hr (ev_pos (by omega) (Ev.bind hr h2)))
    · have e : t0 = i := by
        rw [ht]
        split <;> omega
      subst e
      exact ev_neg hw (Ev.bind (hv _ (Int.le_refl _) r2) (ev_neg (by omega) (Ev.now _)))
end
section
variable {s : ByteArray} (hm : MayB s = true) {B : List Int} (hof : Ev (fun k => text_Of.f k s) (runesOf s, B)) (hB : Beg (runesOf s) B (runesOf s).length) {a : Int} (a0 : 0 ≤ a) (a1 : a ≤ (runesOf s).length)
include hm hof hB a0 a1
theorem lines_pre {key count j : Int} (hl : lines_Is.f key = some true) (c0 : 0 ≤ count) (c1 : count ≤ 999) (g1 : Ev (fun k => text_Map_Row.f k (runesOf s) B a) j) (j0 : 0 ≤ j) (j1 : j < B.length) (h0 : rd B j ≤ a) {v : Int × Int × Int}
    (h : Ev (fun k => if key = 106 then ((lines_mover_down.f k (runesOf s) B a j (a - rd B j) (mx 1 count) (decide (count > 0)) key (mx 1 count)).bind fun bt378 => (some (bt378.1, bt378.2.1, bt378.2.2))) else (if key = 43 then ((lines_mover_down.f k (runesOf s) B a j (a - rd B j) (mx 1 count) (decide (count > 0)) key (mx 1 count)).bind fun bt381 => (some (bt381.1, bt381.2.1, bt381.2.2))) else (if key = 107 then ((lines_mover_down.f k (runesOf s) B a j (a - rd B j) (mx 1 count) (decide (count > 0)) key (-(mx 1 count))).bind fun bt384 => (some (bt384.1, bt384.2.1, bt384.2.2))) else (if key = 45 then ((lines_mover_down.f k (runesOf s) B a j (a - rd B j) (mx 1 count) (decide (count > 0)) key (-(mx 1 count))).bind fun bt387 => (some (bt387.1, bt387.2.1, bt387.2.2))) else (if key = 36 then ((lines_mover_down.f k (runesOf s) B a j (a - rd B j) (mx 1 count) (decide (count > 0)) key (mx 1 count - 1)).bind fun bt390 => (some (bt390.1, bt390.2.1, bt390.2.2))) else (if key = 95 then ((lines_mover_down.f k (runesOf s) B a j (a - rd B j) (mx 1 count) (decide (count > 0)) key (mx 1 count - 1)).bind fun bt393 => (some (bt393.1, bt393.2.1, bt393.2.2))) else (if key = 71 then ((text_Map_Rows.f (runesOf s) B).bind fun t396 => ((lines_mover_to.f k (runesOf s) B a j (a - rd B j) (mx 1 count) (decide (count > 0)) (wrap64 (t396 - 1))).bind fun bt397 => (some (bt397.1, bt397.2.1, bt397.2.2)))) else (if key = 16777319 then ((lines_mover_to.f k (runesOf s) B a j (a - rd B j) (mx 1 count) (decide (count > 0)) 0).bind fun bt400 => (some (bt400.1, bt400.2.1, bt400.2.2))) else ((lines_mover_within.f k (runesOf s) B a j (a - rd B j) (mx 1 count) (decide (count > 0)) key).bind fun bt403 => (some (bt403.1, bt403.2.1, bt403.2.2))))))))))) v) : Ev (fun k => lines_Move.f k s a key count) v := by
  have hsz := may_size hm
  have hn := runesOf_len s
  obtain ⟨n1, n2, _⟩ := mx1 c0 c1
  obtain ⟨r1, _, _, _, _, _⟩ := hB.row j0 j1
  have e1 : wrap64 (a - rd B j) = a - rd B j := w64 (by omega) (by omega)
  have e2 : wrap64 (-(mx 1 count)) = -(mx 1 count) := w64 (by omega) (by omega)
  have e3 : wrap64 (mx 1 count - 1) = mx 1 count - 1 := w64 (by omega) (by omega)
  rw [← e1, ← e2, ← e3] at h
  unfold lines_Move.f
  refine ev_bindc (may_prog s (by omega)) ?_
  rw [hm]
  refine ev_pos (by trivial) (ev_bindc hl (ev_pos (by trivial) (ev_neg (by omega) ?_)))
  rw [decide_eq_false (show ¬ count > 999 by omega)]
  refine ev_shift ?_
  simp only [lines_Move.j0]
  refine ev_neg (by decide) (Ev.bind hof (ev_bindc (map_is _ _ _) ?_))
  rw [decide_eq_true (show 0 ≤ a ∧ a ≤ ((runesOf s).length : Int) from ⟨a0, a1⟩)]
  refine ev_pos (by trivial) (Ev.bind g1 (ev_pos j0 (ev_pos j1 ?_)))
  by_cases q1 : key = 106
  · rw [beq_iff_eq.mpr q1]
    refine ev_pos q1 (ev_shift ?_)
    simp only [lines_Move.j1]
    exact ev_pos (by trivial) (ev_ofpos q1 h)
  replace h := ev_ofneg q1 h
  refine ev_neg q1 ?_
  by_cases q2 : key = 43
  · rw [beq_iff_eq.mpr q2]
    refine ev_shift ?_
    simp only [lines_Move.j1]
    exact ev_pos (by trivial) (ev_ofpos q2 h)
  replace h := ev_ofneg q2 h
  rw [beq_eq_false_iff_ne.mpr q2]
  refine ev_shift ?_
  simp only [lines_Move.j1]
  refine ev_neg (by decide) ?_
  by_cases q3 : key = 107
  · rw [beq_iff_eq.mpr q3]
    refine ev_pos q3 (ev_shift ?_)
    simp only [lines_Move.j2]
    exact ev_pos (by trivial) (ev_ofpos q3 h)
  replace h := ev_ofneg q3 h
  refine ev_neg q3 ?_
  by_cases q4 : key = 45
  · rw [beq_iff_eq.mpr q4]
    refine ev_shift ?_
    simp only [lines_Move.j2]
    exact ev_pos (by trivial) (ev_ofpos q4 h)
  replace h := ev_ofneg q4 h
  rw [beq_eq_false_iff_ne.mpr q4]
  refine ev_shift ?_
  simp only [lines_Move.j2]
  refine ev_neg (by decide) ?_
  by_cases q5 : key = 36
  · rw [beq_iff_eq.mpr q5]
    refine ev_pos q5 (ev_shift ?_)
    simp only [lines_Move.j3]
    exact ev_pos (by trivial) (ev_ofpos q5 h)
  replace h := ev_ofneg q5 h
  refine ev_neg q5 ?_
  by_cases q6 : key = 95
  · rw [beq_iff_eq.mpr q6]
    refine ev_shift ?_
    simp only [lines_Move.j3]
    exact ev_pos (by trivial) (ev_ofpos q6 h)
  replace h := ev_ofneg q6 h
  rw [beq_eq_false_iff_ne.mpr q6]
  refine ev_shift ?_
  simp only [lines_Move.j3]
  refine ev_neg (by decide) ?_
  exact h
theorem lines_both {key count : Int} (hk : LineK key) (c0 : 0 ≤ count) (c1 : count ≤ 999) :
    ∃ v : Int × Int × Int, Ev (fun k => lines_Move.f k s a key count) v ∧ Ev (fun k => quillref12_Move.f k (runesOf s) a key count) v ∧ (v.2.2 = 0 ∧ 0 ≤ v.1 ∧ v.1 ≤ (runesOf s).length ∧ 0 ≤ v.2.1 ∧ v.2.1 ≤ 2 ∨ v = (0, 0, 6)) := by
  have hsz := may_size hm
  have hn := runesOf_len s
  have hR : (runesOf s).length ≤ 4000 := by omega
  obtain ⟨n1, n2, n3⟩ := mx1 c0 c1
  obtain ⟨j, g1, j0, j1, h0, h1⟩ := row_ev hB hR a0 a1
  obtain ⟨r1, r2, r3, _, _, _⟩ := hB.row j0 j1
  have hlen := hB.len
  have hend := end_ev hB hR j0 j1
  have pro : ∀ {key : Int} {v : Int × Int × Int}, lines_Is.f key = some true → Ev (fun k => if key = 106 then ((lines_mover_down.f k (runesOf s) B a j (a - rd B j) (mx 1 count) (decide (count > 0)) key (mx 1 count)).bind fun bt378 => (some (bt378.1, bt378.2.1, bt378.2.2))) else (if key = 43 then ((lines_mover_down.f k (runesOf s) B a j (a - rd B j) (mx 1 count) (decide (count > 0)) key (mx 1 count)).bind fun bt381 => (some (bt381.1, bt381.2.1, bt381.2.2))) else (if key = 107 then ((lines_mover_down.f k (runesOf s) B a j (a - rd B j) (mx 1 count) (decide (count > 0)) key (-(mx 1 count))).bind fun bt384 => (some (bt384.1, bt384.2.1, bt384.2.2))) else (if key = 45 then ((lines_mover_down.f k (runesOf s) B a j (a - rd B j) (mx 1 count) (decide (count > 0)) key (-(mx 1 count))).bind fun bt387 => (some (bt387.1, bt387.2.1, bt387.2.2))) else (if key = 36 then ((lines_mover_down.f k (runesOf s) B a j (a - rd B j) (mx 1 count) (decide (count > 0)) key (mx 1 count - 1)).bind fun bt390 => (some (bt390.1, bt390.2.1, bt390.2.2))) else (if key = 95 then ((lines_mover_down.f k (runesOf s) B a j (a - rd B j) (mx 1 count) (decide (count > 0)) key (mx 1 count - 1)).bind fun bt393 => (some (bt393.1, bt393.2.1, bt393.2.2))) else (if key = 71 then ((text_Map_Rows.f (runesOf s) B).bind fun t396 => ((lines_mover_to.f k (runesOf s) B a j (a - rd B j) (mx 1 count) (decide (count > 0)) (wrap64 (t396 - 1))).bind fun bt397 => (some (bt397.1, bt397.2.1, bt397.2.2)))) else (if key = 16777319 then ((lines_mover_to.f k (runesOf s) B a j (a - rd B j) (mx 1 count) (decide (count > 0)) 0).bind fun bt400 => (some (bt400.1, bt400.2.1, bt400.2.2))) else ((lines_mover_within.f k (runesOf s) B a j (a - rd B j) (mx 1 count) (decide (count > 0)) key).bind fun bt403 => (some (bt403.1, bt403.2.1, bt403.2.2))))))))))) v → Ev (fun k => lines_Move.f k s a key count) v := fun hl h => lines_pre hm hof hB a0 a1 hl c0 c1 g1 j0 j1 h0 h
  have ref : ∀ {key : Int} {v : Int × Int × Int}, Ev (fun k => if key = 104 then (quillref12_Move.j0 k (runesOf s) a key count (mx 1 count) (rd B j) (hi (runesOf s) B j) 2 key (key == 104)) else (quillref12_Move.j0 k (runesOf s) a key count (mx 1 count) (rd B j) (hi (runesOf s) B j) 2 key (key == 108))) v → Ev (fun k => quillref12_Move.f k (runesOf s) a key count) v := fun h => ref_pre hB hR j0 j1 h0 h1 h
  -- by rows, with the column kept
  have byCol : ∀ b : Int, -1000 ≤ b → b ≤ 1000 → ∃ v : Int × Int × Int, (∀ key n told, (key = 106 ∨ key = 107) → Ev (fun k => lines_mover_down.f k (runesOf s) B a j (a - rd B j) n told key b) v) ∧ Ev (fun k => quillref12_Move.j3 k (runesOf s) a (rd B j) 2 b) v ∧ (v.2.2 = 0 ∧ 0 ≤ v.1 ∧ v.1 ≤ (runesOf s).length ∧ 0 ≤ v.2.1 ∧ v.2.1 ≤ 2 ∨ v = (0, 0, 6)) := by
    intro b b0 b1
    have hr := row_is hB hR j0 j1 h0 h1 b0 b1
    by_cases h : 0 ≤ j + b ∧ j + b < (B.length : Int)
    · obtain ⟨q1, q2, q3, _, _, _⟩ := hB.row h.1 h.2
      rw [if_pos h] at hr
      have hc := col_is hB hR (j := j) j0 j1 h.1 h.2 (col := a - rd B j) (by omega) (by omega)
      have hm1 : 0 ≤ mn (rd B (j + b) + (a - rd B j)) (hi (runesOf s) B (j + b)) ∧ mn (rd B (j + b) + (a - rd B j)) (hi (runesOf s) B (j + b)) ≤ (runesOf s).length ∧ mn (hi (runesOf s) B (j + b)) (rd B (j + b) + a - rd B j) = mn (rd B (j + b) + (a - rd B j)) (hi (runesOf s) B (j + b)) := by
        unfold mn
        split <;> split <;> omega
      refine ⟨(mn (rd B (j + b) + (a - rd B j)) (hi (runesOf s) B (j + b)), 2, 0), fun key n told hkk => down_in hB hR b0 b1 h ?_, ev_shift ?_, .inl ⟨rfl, hm1.1, hm1.2.1, by simp, by simp⟩⟩
      · refine ev_neg (by omega) ?_
        rcases hkk with w | w
        · exact ev_pos w (ev_bindc hc (Ev.now _))
        · exact ev_neg (by omega) (ev_pos w (ev_bindc hc (Ev.now _)))
      · simp only [quillref12_Move.j3]
        refine Ev.bind hr (ev_pos (by omega) (Ev.bind (end_row hB hR h.1 h.2 (Int.le_refl _) q2) ?_))
        rw [w64 (x := rd B (j + b) + a) (by omega) (by omega), w64 (by omega) (by omega), hm1.2.2]
        exact ev_neg (by omega) (Ev.now _)
    · rw [if_neg h] at hr
      refine ⟨(0, 0, 6), fun key n told hkk => down_out hB hR j0 j1 b0 b1 h, ev_shift ?_, .inr rfl⟩
      simp only [quillref12_Move.j3]
      exact Ev.bind hr (ev_neg (by decide) (ev_pos (by decide) (Ev.now _)))
  -- by rows, to the first rune
  have byFirst : ∀ b : Int, -1000 ≤ b → b ≤ 1000 → ∃ v : Int × Int × Int, (∀ key n told, (key = 43 ∨ key = 45 ∨ key = 95) → Ev (fun k => lines_mover_down.f k (runesOf s) B a j (a - rd B j) n told key b) v) ∧ Ev (fun k => quillref12_Move.j6 k (runesOf s) a 2 b) v ∧ (v.2.2 = 0 ∧ 0 ≤ v.1 ∧ v.1 ≤ (runesOf s).length ∧ 0 ≤ v.2.1 ∧ v.2.1 ≤ 2 ∨ v = (0, 0, 6)) := by
    intro b b0 b1
    have hr := row_is hB hR j0 j1 h0 h1 b0 b1
    by_cases h : 0 ≤ j + b ∧ j + b < (B.length : Int)
    · obtain ⟨q1, q2, q3, _, _, _⟩ := hB.row h.1 h.2
      rw [if_pos h] at hr
      obtain ⟨v, f1, f2, f3, f4⟩ := first_both hB hR h.1 h.2
      refine ⟨(v, 2, 0), fun key n told hkk => down_in hB hR b0 b1 h ?_, ev_shift ?_, .inl ⟨rfl, by show 0 ≤ v; omega, by show v ≤ ((runesOf s).length : Int); omega, by simp, by simp⟩⟩
      · exact ev_neg (by omega) (ev_neg (by omega) (ev_neg (by omega) (Ev.bind f1 (Ev.now _))))
      · simp only [quillref12_Move.j6]
        exact Ev.bind hr (ev_pos (by omega) (Ev.bind (f4 _ (Int.le_refl _) q2) (ev_neg (by omega) (Ev.now _))))
    · rw [if_neg h] at hr
      refine ⟨(0, 0, 6), fun key n told hkk => down_out hB hR j0 j1 b0 b1 h, ev_shift ?_, .inr rfl⟩
      simp only [quillref12_Move.j6]
      exact Ev.bind hr (ev_neg (by decide) (ev_pos (by decide) (Ev.now _)))
  -- to a row
  have toRow : ∀ t w : Int, 0 ≤ t → t < B.length → 0 ≤ w → w ≤ 5000 → t = (if w < B.length then w else B.length - 1) → ∃ v, Ev (fun k => text_Map_First.f k (runesOf s) B t) v ∧ Ev (fun k => quillref12_Move.j7 k (runesOf s) 2 w) (v, 2, 0) ∧ 0 ≤ v ∧ v ≤ (runesOf s).length := by
    intro t w t0 t1 w0 w1 ht
    obtain ⟨q1, q2, q3, _, _, _⟩ := hB.row t0 t1
    obtain ⟨v, f1, f2, f3, f4⟩ := first_both hB hR t0 t1
    refine ⟨v, f1, ev_shift ?_, by omega, by omega⟩
    simp only [quillref12_Move.j7]
    have := rows_loop hB hR j0 j1 (B.length - 1) 0 w (by decide) (by have := hB.pos; omega) w0 w1 (by rw [Int.zero_add]; exact ht) v f4 (by omega)
    rw [hB.zero] at this
    exact this
  rcases hk with rfl | rfl | rfl | rfl | rfl | rfl | rfl | rfl | rfl | rfl | rfl | rfl
  · -- h
    have e : wrap64 (a - mx 1 count) = a - mx 1 count := w64 (by omega) (by omega)
    have hx : rd B j ≤ mx (rd B j) (a - mx 1 count) ∧ mx (rd B j) (a - mx 1 count) ≤ a := by
      generalize mx 1 count = n at n1
      unfold mx
      split <;> omega
    by_cases q : mx (rd B j) (a - mx 1 count) = a
    · refine ⟨(0, 0, 6), pro (by decide +kernel) (ev_neg (by decide) (ev_neg (by decide) (ev_neg (by decide) (ev_neg (by decide) (ev_neg (by decide) (ev_neg (by decide) (ev_neg (by decide) (ev_neg (by decide) (Ev.bind (r := (0, 0, 6)) (a := (0, 0, 6)) ?_ (Ev.now _)))))))))), ref (ev_pos (by trivial) (ev_shift ?_)), .inr rfl⟩
      · unfold lines_mover_within.f
        rw [e]
        exact ev_pos j0 (ev_pos j1 (ev_bindc hend (ev_pos (by trivial) (ev_pos q (Ev.now _)))))
      · simp only [quillref12_Move.j0]
        refine ev_pos (by decide) (ev_neg (by decide) (ev_shift ?_))
        simp only [quillref12_Move.j1]
        rw [e]
        exact ev_pos q (Ev.now _)
    · refine ⟨(mx (rd B j) (a - mx 1 count), 0, 0), pro (by decide +kernel) (ev_neg (by decide) (ev_neg (by decide) (ev_neg (by decide) (ev_neg (by decide) (ev_neg (by decide) (ev_neg (by decide) (ev_neg (by decide) (ev_neg (by decide) (Ev.bind (a := (mx (rd B j) (a - mx 1 count), 0, 0)) ?_ (Ev.now _)))))))))), ref (ev_pos (by trivial) (ev_shift ?_)), .inl ⟨rfl, by show 0 ≤ mx (rd B j) (a - mx 1 count); omega, by show mx (rd B j) (a - mx 1 count) ≤ ((runesOf s).length : Int); omega, by simp, by simp⟩⟩
      · unfold lines_mover_within.f
        rw [e]
        exact ev_pos j0 (ev_pos j1 (ev_bindc hend (ev_pos (by trivial) (ev_neg q (Ev.now _)))))
      · simp only [quillref12_Move.j0]
        refine ev_pos (by decide) (ev_neg (by decide) (ev_shift ?_))
        simp only [quillref12_Move.j1]
        rw [e]
        exact ev_neg q (ev_neg (by omega) (Ev.now _))
  · -- l
    have e : wrap64 (a + mx 1 count) = a + mx 1 count := w64 (by omega) (by omega)
    have hx : a ≤ mn (hi (runesOf s) B j) (a + mx 1 count) ∧ mn (hi (runesOf s) B j) (a + mx 1 count) ≤ hi (runesOf s) B j := by
      unfold mn
      split <;> omega
    by_cases q : mn (hi (runesOf s) B j) (a + mx 1 count) = a
    · refine ⟨(0, 0, 6), pro (by decide +kernel) (ev_neg (by decide) (ev_neg (by decide) (ev_neg (by decide) (ev_neg (by decide) (ev_neg (by decide) (ev_neg (by decide) (ev_neg (by decide) (ev_neg (by decide) (Ev.bind (a := (0, 0, 6)) ?_ (Ev.now _)))))))))), ref (ev_neg (by decide) (ev_shift ?_)), .inr rfl⟩
      · unfold lines_mover_within.f
        rw [e]
        exact ev_pos j0 (ev_pos j1 (ev_bindc hend (ev_neg (by decide) (ev_pos (by trivial) (ev_pos q (Ev.now _))))))
      · simp only [quillref12_Move.j0]
        refine ev_pos (by decide) (ev_pos (by trivial) (ev_shift ?_))
        simp only [quillref12_Move.j1]
        rw [e]
        exact ev_pos q (Ev.now _)
    · refine ⟨(mn (hi (runesOf s) B j) (a + mx 1 count), 0, 0), pro (by decide +kernel) (ev_neg (by decide) (ev_neg (by decide) (ev_neg (by decide) (ev_neg (by decide) (ev_neg (by decide) (ev_neg (by decide) (ev_neg (by decide) (ev_neg (by decide) (Ev.bind (a := (mn (hi (runesOf s) B j) (a + mx 1 count), 0, 0)) ?_ (Ev.now _)))))))))), ref (ev_neg (by decide) (ev_shift ?_)), .inl ⟨rfl, by show 0 ≤ mn (hi (runesOf s) B j) (a + mx 1 count); omega, by show mn (hi (runesOf s) B j) (a + mx 1 count) ≤ ((runesOf s).length : Int); omega, by simp, by simp⟩⟩
      · unfold lines_mover_within.f
        rw [e]
        exact ev_pos j0 (ev_pos j1 (ev_bindc hend (ev_neg (by decide) (ev_pos (by trivial) (ev_neg q (Ev.now _))))))
      · simp only [quillref12_Move.j0]
        refine ev_pos (by decide) (ev_pos (by trivial) (ev_shift ?_))
        simp only [quillref12_Move.j1]
        rw [e]
        exact ev_neg q (ev_neg (by omega) (Ev.now _))
  · -- 0
    refine ⟨(rd B j, 0, 0), pro (by decide +kernel) (ev_neg (by decide) (ev_neg (by decide) (ev_neg (by decide) (ev_neg (by decide) (ev_neg (by decide) (ev_neg (by decide) (ev_neg (by decide) (ev_neg (by decide) (Ev.bind (a := (rd B j, 0, 0)) ?_ (Ev.now _)))))))))), ref (ev_neg (by decide) (ev_shift ?_)), .inl ⟨rfl, by show 0 ≤ rd B j; omega, by show rd B j ≤ ((runesOf s).length : Int); omega, by simp, by simp⟩⟩
    · unfold lines_mover_within.f
      refine ev_pos j0 (ev_pos j1 (ev_bindc hend (ev_neg (by decide) (ev_neg (by decide) (ev_neg (by decide) ?_)))))
      by_cases q : rd B j = a
      · exact ev_pos q (Ev.now _)
      · exact ev_neg q (Ev.now _)
    · simp only [quillref12_Move.j0]
      exact ev_neg (by decide) (ev_pos (by trivial) (ev_neg (by omega) (Ev.now _)))
  · -- ^
    obtain ⟨v, f1, f2, f3, f4⟩ := first_both hB hR j0 j1
    refine ⟨(v, 0, 0), pro (by decide +kernel) (ev_neg (by decide) (ev_neg (by decide) (ev_neg (by decide) (ev_neg (by decide) (ev_neg (by decide) (ev_neg (by decide) (ev_neg (by decide) (ev_neg (by decide) (Ev.bind (a := (v, 0, 0)) ?_ (Ev.now _)))))))))), ref (ev_neg (by decide) (ev_shift ?_)), .inl ⟨rfl, by show 0 ≤ v; omega, by show v ≤ ((runesOf s).length : Int); omega, by simp, by simp⟩⟩
    · unfold lines_mover_within.f
      refine ev_pos j0 (ev_pos j1 (ev_bindc hend (ev_neg (by decide) (ev_neg (by decide) (ev_pos (by trivial) (Ev.bind f1 ?_))))))
      by_cases q : v = a
      · exact ev_pos q (Ev.now _)
      · exact ev_neg q (Ev.now _)
    · simp only [quillref12_Move.j0]
      exact ev_neg (by decide) (ev_neg (by decide) (ev_pos (by trivial) (Ev.bind (f4 _ h0 h1) (ev_neg (by omega) (Ev.now _)))))
  · -- $
    have e : wrap64 (mx 1 count - 1) = mx 1 count - 1 := w64 (by omega) (by omega)
    have hr := row_is hB hR j0 j1 h0 h1 (by_ := mx 1 count - 1) (by omega) (by omega)
    by_cases h : 0 ≤ j + (mx 1 count - 1) ∧ j + (mx 1 count - 1) < (B.length : Int)
    · obtain ⟨q1, q2, q3, _, _, _⟩ := hB.row h.1 h.2
      rw [if_pos h] at hr
      refine ⟨(hi (runesOf s) B (j + (mx 1 count - 1)), 1, 0), pro (by decide +kernel) (ev_neg (by decide) (ev_neg (by decide) (ev_neg (by decide) (ev_neg (by decide) (ev_pos (by trivial) (Ev.bind (down_in hB hR (by omega) (by omega) h (ev_pos (by trivial) (ev_bindc (end_ev hB hR h.1 h.2) (Ev.now _)))) (Ev.now _))))))), ref (ev_neg (by decide) (ev_shift ?_)), .inl ⟨rfl, by show 0 ≤ hi (runesOf s) B (j + (mx 1 count - 1)); omega, by show hi (runesOf s) B (j + (mx 1 count - 1)) ≤ ((runesOf s).length : Int); omega, by simp, by simp⟩⟩
      simp only [quillref12_Move.j0]
      rw [e]
      exact ev_neg (by decide) (ev_neg (by decide) (ev_neg (by decide) (ev_pos (by trivial) (Ev.bind hr (ev_pos (by omega) (Ev.bind (end_row hB hR h.1 h.2 (Int.le_refl _) q2) (ev_neg (by omega) (Ev.now _))))))))
    · rw [if_neg h] at hr
      refine ⟨(0, 0, 6), pro (by decide +kernel) (ev_neg (by decide) (ev_neg (by decide) (ev_neg (by decide) (ev_neg (by decide) (ev_pos (by trivial) (Ev.bind (down_out hB hR j0 j1 (by omega) (by omega) h) (Ev.now _))))))), ref (ev_neg (by decide) (ev_shift ?_)), .inr rfl⟩
      simp only [quillref12_Move.j0]
      rw [e]
      exact ev_neg (by decide) (ev_neg (by decide) (ev_neg (by decide) (ev_pos (by trivial) (Ev.bind hr (ev_neg (by decide) (ev_pos (by decide) (Ev.now _)))))))
  · -- j
    obtain ⟨v, u1, u2, u3⟩ := byCol (mx 1 count) (by omega) (by omega)
    refine ⟨v, pro (by decide +kernel) (ev_pos (by trivial) (Ev.bind (u1 _ _ _ (.inl rfl)) (Ev.now _))), ref (ev_neg (by decide) (ev_shift ?_)), u3⟩
    simp only [quillref12_Move.j0]
    refine ev_neg (by decide) (ev_neg (by decide) (ev_neg (by decide) (ev_neg (by decide) (ev_pos (by trivial) (ev_shift ?_)))))
    simp only [quillref12_Move.j2]
    exact ev_pos (by decide) (ev_neg (by decide) u2)
  · -- k
    have e : wrap64 (-(mx 1 count)) = -(mx 1 count) := w64 (by omega) (by omega)
    obtain ⟨v, u1, u2, u3⟩ := byCol (-(mx 1 count)) (by omega) (by omega)
    refine ⟨v, pro (by decide +kernel) (ev_neg (by decide) (ev_neg (by decide) (ev_pos (by trivial) (Ev.bind (u1 _ _ _ (.inr rfl)) (Ev.now _))))), ref (ev_neg (by decide) (ev_shift ?_)), u3⟩
    simp only [quillref12_Move.j0]
    refine ev_neg (by decide) (ev_neg (by decide) (ev_neg (by decide) (ev_neg (by decide) (ev_neg (by decide) (ev_shift ?_)))))
    simp only [quillref12_Move.j2]
    rw [e]
    exact ev_pos (by decide) (ev_pos (by trivial) u2)
  · -- +
    obtain ⟨v, u1, u2, u3⟩ := byFirst (mx 1 count) (by omega) (by omega)
    refine ⟨v, pro (by decide +kernel) (ev_neg (by decide) (ev_pos (by trivial) (Ev.bind (u1 _ _ _ (.inl rfl)) (Ev.now _)))), ref (ev_neg (by decide) (ev_shift ?_)), u3⟩
    simp only [quillref12_Move.j0]
    refine ev_neg (by decide) (ev_neg (by decide) (ev_neg (by decide) (ev_neg (by decide) (ev_neg (by decide) (ev_shift ?_)))))
    simp only [quillref12_Move.j2]
    refine ev_neg (by decide) (ev_pos (by trivial) (ev_shift ?_))
    simp only [quillref12_Move.j4]
    refine ev_pos (by decide) (ev_neg (by decide) (ev_shift ?_))
    simp only [quillref12_Move.j5]
    exact ev_neg (by decide) u2
  · -- -
    have e : wrap64 (-(mx 1 count)) = -(mx 1 count) := w64 (by omega) (by omega)
    obtain ⟨v, u1, u2, u3⟩ := byFirst (-(mx 1 count)) (by omega) (by omega)
    refine ⟨v, pro (by decide +kernel) (ev_neg (by decide) (ev_neg (by decide) (ev_neg (by decide) (ev_pos (by trivial) (Ev.bind (u1 _ _ _ (.inr (.inl rfl))) (Ev.now _)))))), ref (ev_neg (by decide) (ev_shift ?_)), u3⟩
    simp only [quillref12_Move.j0]
    refine ev_neg (by decide) (ev_neg (by decide) (ev_neg (by decide) (ev_neg (by decide) (ev_neg (by decide) (ev_shift ?_)))))
    simp only [quillref12_Move.j2]
    refine ev_neg (by decide) (ev_neg (by decide) (ev_pos (by trivial) (ev_shift ?_)))
    simp only [quillref12_Move.j4]
    rw [e]
    refine ev_pos (by decide) (ev_pos (by trivial) (ev_shift ?_))
    simp only [quillref12_Move.j5]
    exact ev_neg (by decide) u2
  · -- _
    have e : wrap64 (mx 1 count - 1) = mx 1 count - 1 := w64 (by omega) (by omega)
    obtain ⟨v, u1, u2, u3⟩ := byFirst (mx 1 count - 1) (by omega) (by omega)
    refine ⟨v, pro (by decide +kernel) (ev_neg (by decide) (ev_neg (by decide) (ev_neg (by decide) (ev_neg (by decide) (ev_neg (by decide) (ev_pos (by trivial) (Ev.bind (u1 _ _ _ (.inr (.inr rfl))) (Ev.now _)))))))), ref (ev_neg (by decide) (ev_shift ?_)), u3⟩
    simp only [quillref12_Move.j0]
    refine ev_neg (by decide) (ev_neg (by decide) (ev_neg (by decide) (ev_neg (by decide) (ev_neg (by decide) (ev_shift ?_)))))
    simp only [quillref12_Move.j2]
    refine ev_neg (by decide) (ev_neg (by decide) (ev_neg (by decide) (ev_shift ?_)))
    simp only [quillref12_Move.j4]
    refine ev_pos (by decide) (ev_neg (by decide) (ev_shift ?_))
    simp only [quillref12_Move.j5]
    rw [e]
    exact ev_pos (by trivial) u2
  · -- G
    have hp := hB.pos
    by_cases hc : count > 0
    · have hmn : 0 ≤ mn (mx 1 count) (B.length : Int) - 1 ∧ mn (mx 1 count) (B.length : Int) - 1 < B.length ∧ mn (mx 1 count) (B.length : Int) - 1 = (if count - 1 < (B.length : Int) then count - 1 else B.length - 1) := by
        have := n3 hc
        unfold mn
        split <;> split <;> omega
      obtain ⟨v, f1, f2, f3, f4⟩ := toRow (mn (mx 1 count) (B.length : Int) - 1) (count - 1) hmn.1 hmn.2.1 (by omega) (by omega) hmn.2.2
      refine ⟨(v, 2, 0), pro (by decide +kernel) (ev_neg (by decide) (ev_neg (by decide) (ev_neg (by decide) (ev_neg (by decide) (ev_neg (by decide) (ev_neg (by decide) (ev_pos (by trivial) (ev_bindc rfl (Ev.bind (a := (v, 2, 0)) ?_ (Ev.now _)))))))))), ref (ev_neg (by decide) (ev_shift ?_)), .inl ⟨rfl, f3, f4, by simp, by simp⟩⟩
      · unfold lines_mover_to.f
        refine ev_pos (decide_eq_true hc) (ev_bindc rfl ?_)
        rw [w64 (x := mn (mx 1 count) (B.length : Int) - 1) (by omega) (by omega)]
        exact Ev.bind f1 (Ev.now _)
      · simp only [quillref12_Move.j0]
        refine ev_neg (by decide) (ev_neg (by decide) (ev_neg (by decide) (ev_neg (by decide) (ev_neg (by decide) (ev_shift ?_)))))
        simp only [quillref12_Move.j2]
        refine ev_neg (by decide) (ev_neg (by decide) (ev_neg (by decide) (ev_shift ?_)))
        simp only [quillref12_Move.j4]
        refine ev_neg (by decide) (ev_neg (by omega) ?_)
        rw [w64 (x := count - 1) (by omega) (by omega)]
        exact f2
    · obtain ⟨v, f1, f2, f3, f4⟩ := toRow ((B.length : Int) - 1) ((runesOf s).length : Int) (by omega) (by omega) (by omega) (by omega) (by split <;> omega)
      refine ⟨(v, 2, 0), pro (by decide +kernel) (ev_neg (by decide) (ev_neg (by decide) (ev_neg (by decide) (ev_neg (by decide) (ev_neg (by decide) (ev_neg (by decide) (ev_pos (by trivial) (ev_bindc rfl (Ev.bind (a := (v, 2, 0)) ?_ (Ev.now _)))))))))), ref (ev_neg (by decide) (ev_shift ?_)), .inl ⟨rfl, f3, f4, by simp, by simp⟩⟩
      · unfold lines_mover_to.f
        refine ev_neg (fun q => hc (of_decide_eq_true q)) ?_
        rw [w64 (x := (B.length : Int) - 1) (by omega) (by omega)]
        exact Ev.bind f1 (Ev.now _)
      · simp only [quillref12_Move.j0]
        refine ev_neg (by decide) (ev_neg (by decide) (ev_neg (by decide) (ev_neg (by decide) (ev_neg (by decide) (ev_shift ?_)))))
        simp only [quillref12_Move.j2]
        refine ev_neg (by decide) (ev_neg (by decide) (ev_neg (by decide) (ev_shift ?_)))
        simp only [quillref12_Move.j4]
        exact ev_neg (by decide) (ev_pos (by omega) (ev_pos (by trivial) f2))
  · -- gg
    have hp := hB.pos
    by_cases hc : count > 0
    · have hmn : 0 ≤ mn (mx 1 count) (B.length : Int) - 1 ∧ mn (mx 1 count) (B.length : Int) - 1 < B.length ∧ mn (mx 1 count) (B.length : Int) - 1 = (if count - 1 < (B.length : Int) then count - 1 else B.length - 1) := by
        have := n3 hc
        unfold mn
        split <;> split <;> omega
      obtain ⟨v, f1, f2, f3, f4⟩ := toRow (mn (mx 1 count) (B.length : Int) - 1) (count - 1) hmn.1 hmn.2.1 (by omega) (by omega) hmn.2.2
      refine ⟨(v, 2, 0), pro (by decide +kernel) (ev_neg (by decide) (ev_neg (by decide) (ev_neg (by decide) (ev_neg (by decide) (ev_neg (by decide) (ev_neg (by decide) (ev_neg (by decide) (ev_pos (by trivial) (Ev.bind (a := (v, 2, 0)) ?_ (Ev.now _)))))))))), ref (ev_neg (by decide) (ev_shift ?_)), .inl ⟨rfl, f3, f4, by simp, by simp⟩⟩
      · unfold lines_mover_to.f
        refine ev_pos (decide_eq_true hc) (ev_bindc rfl ?_)
        rw [w64 (x := mn (mx 1 count) (B.length : Int) - 1) (by omega) (by omega)]
        exact Ev.bind f1 (Ev.now _)
      · simp only [quillref12_Move.j0]
        refine ev_neg (by decide) (ev_neg (by decide) (ev_neg (by decide) (ev_neg (by decide) (ev_neg (by decide) (ev_shift ?_)))))
        simp only [quillref12_Move.j2]
        refine ev_neg (by decide) (ev_neg (by decide) (ev_neg (by decide) (ev_shift ?_)))
        simp only [quillref12_Move.j4]
        refine ev_neg (by decide) (ev_neg (by omega) ?_)
        rw [w64 (x := count - 1) (by omega) (by omega)]
        exact f2
    · obtain ⟨v, f1, f2, f3, f4⟩ := toRow 0 0 (by decide) (by omega) (by decide) (by decide) (by rw [if_pos (by omega)])
      refine ⟨(v, 2, 0), pro (by decide +kernel) (ev_neg (by decide) (ev_neg (by decide) (ev_neg (by decide) (ev_neg (by decide) (ev_neg (by decide) (ev_neg (by decide) (ev_neg (by decide) (ev_pos (by trivial) (Ev.bind (a := (v, 2, 0)) ?_ (Ev.now _)))))))))), ref (ev_neg (by decide) (ev_shift ?_)), .inl ⟨rfl, f3, f4, by simp, by simp⟩⟩
      · unfold lines_mover_to.f
        refine ev_neg (fun q => hc (of_decide_eq_true q)) ?_
        exact Ev.bind f1 (Ev.now _)
      · simp only [quillref12_Move.j0]
        refine ev_neg (by decide) (ev_neg (by decide) (ev_neg (by decide) (ev_neg (by decide) (ev_neg (by decide) (ev_shift ?_)))))
        simp only [quillref12_Move.j2]
        refine ev_neg (by decide) (ev_neg (by decide) (ev_neg (by decide) (ev_shift ?_)))
        simp only [quillref12_Move.j4]
        exact ev_neg (by decide) (ev_pos (by omega) (ev_neg (by decide) f2))
end
end Go.Proofs.YtbgmmcngkdhpcaaDoor.P
end
section
namespace Go.Proofs.YtbgmmcngkdhpcaaDoor.P
open Go.RowKit Go.Proofs.YtbgmmcngkdhpcaaDoor Go.Proofs.YtbgmmcngkdhpcaaDoorW.PrintWords Go.Proofs.YtbgmmcngkdhpcaaDoorW.PrintLast Go.Proofs.YtbgmmcngkdhpcaaDoorW.PrintMore
section
variable {R B : List Int} (hB : Beg R B R.length) (hR : R.length ≤ 4000)
include hB hR
theorem bare_is {j a : Int} (j0 : 0 ≤ j) (j1 : j < B.length) (h0 : rd B j ≤ a) (h1 : a ≤ hi R B j) : Ev (fun k => quillref12_bare.f k R a) (rd B j == hi R B j) := by
  unfold quillref12_bare.f
  exact Ev.bind (begin_row hB hR j0 j1 h0 h1) (Ev.bind (end_row hB hR j0 j1 h0 h1) (Ev.now _))
/-- Below: what the program's loop comes to, the document's goes on with. -/
theorem down_loop {x1 key count n : Int} (d : Nat) : ∀ r : Int, 1 ≤ r → r + d = B.length → ∃ T : Int, Ev (fun k => paras_down.l0 k r R B) T ∧ 0 ≤ T ∧ T ≤ R.length ∧
    ∀ v, Ev (fun k => if T = (R.length : Int) then (if T = x1 then (some ((0 : Int), (6 : Int))) else (some (T, 0))) else (quillref12_Paras.l0 k R x1 key count T (wrap64 (n + 1)))) v → Ev (fun k => quillref12_Paras.l1 k R x1 key count n 1 R.length R.length (rd B (r - 1))) v := by
  induction d with
  | zero =>
    intro r hr hd
    obtain ⟨p1, p2, p3, _, _, _⟩ := hB.row (j := r - 1) (by omega) (by omega)
    refine ⟨R.length, ev_shift ?_, by omega, Int.le_refl _, fun v hv => ev_shift ?_⟩
    · simp only [paras_down.l0]
      exact ev_bindc rfl (ev_neg (by omega) (Ev.now _))
    · simp only [quillref12_Paras.l1]
      have hrw := row_is hB hR (j := r - 1) (by omega) (by omega) (Int.le_refl _) p2 (by_ := 1) (by decide) (by decide)
      rw [if_neg (show ¬ (0 ≤ r - 1 + 1 ∧ r - 1 + 1 < (B.length : Int)) by omega)] at hrw
      exact Ev.bind hrw (ev_pos (by decide) (by simpa only [eq_self] using hv))
  | succ d ih =>
    intro r hr hd
    have hl := hB.len
    obtain ⟨p1, p2, p3, _, _, _⟩ := hB.row (j := r - 1) (by omega) (by omega)
    obtain ⟨q1, q2, q3, _, _, _⟩ := hB.row (j := r) (by omega) (by omega)
    have e1 : wrap64 (r + 1) = r + 1 := w64 (by omega) (by omega)
    have e2 : wrap64 (r - 1) = r - 1 := w64 (by omega) (by omega)
    have hrw := row_is hB hR (j := r - 1) (by omega) (by omega) (Int.le_refl _) p2 (by_ := 1) (by decide) (by decide)
    rw [if_pos (show 0 ≤ r - 1 + 1 ∧ r - 1 + 1 < (B.length : Int) by omega), show r - 1 + 1 = r by omega] at hrw
    have hb1 := bare_is hB hR (j := r) (by omega) (by omega) (Int.le_refl _) q2
    have hb0 := bare_is hB hR (j := r - 1) (by omega) (by omega) (Int.le_refl _) p2
    obtain ⟨T, t1, t2, t3, t4⟩ := ih (r + 1) (by omega) (by omega)
    rw [show r + 1 - 1 = r by omega] at t4
    by_cases b1 : rd B r = hi R B r
    · by_cases b0 : rd B (r - 1) < hi R B (r - 1)
      · refine ⟨rd B r, ev_shift ?_, q1, by omega, fun v hv => ev_shift ?_⟩
        · simp only [paras_down.l0]
          rw [e2]
          exact ev_bindc rfl (ev_pos (by omega) (ev_pos (by omega) (ev_pos (by omega) (ev_bindc (end_ev hB hR (by omega) (by omega)) (ev_pos b1 (ev_pos (by omega) (ev_pos (by omega) (ev_bindc (end_ev hB hR (by omega) (by omega)) (ev_pos b0 (Ev.now _))))))))))
        · simp only [quillref12_Paras.l1]
          exact Ev.bind hrw (ev_neg (by omega) (Ev.bind hb1 (ev_pos (beq_iff_eq.mpr b1) (Ev.bind hb0 (ev_neg (fun q => by have := beq_iff_eq.mp q; omega) hv)))))
      · refine ⟨T, ev_shift ?_, t2, t3, fun v hv => ev_shift ?_⟩
        · simp only [paras_down.l0]
          rw [e2, e1]
          exact ev_bindc rfl (ev_pos (by omega) (ev_pos (by omega) (ev_pos (by omega) (ev_bindc (end_ev hB hR (by omega) (by omega)) (ev_pos b1 (ev_pos (by omega) (ev_pos (by omega) (ev_bindc (end_ev hB hR (by omega) (by omega)) (ev_neg b0 t1)))))))))
        · simp only [quillref12_Paras.l1]
          exact Ev.bind hrw (ev_neg (by omega) (Ev.bind hb1 (ev_pos (beq_iff_eq.mpr b1) (Ev.bind hb0 (ev_pos (beq_iff_eq.mpr (by omega)) (t4 v hv))))))
    · refine ⟨T, ev_shift ?_, t2, t3, fun v hv => ev_shift ?_⟩
      · simp only [paras_down.l0]
        rw [e1]
        exact ev_bindc rfl (ev_pos (by omega) (ev_pos (by omega) (ev_pos (by omega) (ev_bindc (end_ev hB hR (by omega) (by omega)) (ev_neg b1 t1)))))
      · simp only [quillref12_Paras.l1]
        exact Ev.bind hrw (ev_neg (by omega) (Ev.bind hb1 (ev_neg (fun q => b1 (beq_iff_eq.mp q)) (t4 v hv))))
/-- Above. -/
theorem up_loop {x1 key count n : Int} (d : Nat) : ∀ r : Int, r + 1 = d → r + 1 < B.length → ∃ T : Int, Ev (fun k => paras_up.l0 k r R B) T ∧ 0 ≤ T ∧ T ≤ R.length ∧
    ∀ v, Ev (fun k => if T = 0 then (if T = x1 then (some ((0 : Int), (6 : Int))) else (some (T, 0))) else (quillref12_Paras.l0 k R x1 key count T (wrap64 (n + 1)))) v → Ev (fun k => quillref12_Paras.l1 k R x1 key count n (-1) 0 0 (rd B (r + 1))) v := by
  induction d with
  | zero =>
    intro r hr hd
    obtain ⟨p1, p2, p3, _, _, _⟩ := hB.row (j := r + 1) (by omega) (by omega)
    refine ⟨0, ev_shift ?_, by omega, by omega, fun v hv => ev_shift ?_⟩
    · simp only [paras_up.l0]
      exact ev_neg (by omega) (Ev.now _)
    · simp only [quillref12_Paras.l1]
      have hrw := row_is hB hR (j := r + 1) (by omega) (by omega) (Int.le_refl _) p2 (by_ := -1) (by decide) (by decide)
      rw [if_neg (show ¬ (0 ≤ r + 1 + -1 ∧ r + 1 + -1 < (B.length : Int)) by omega)] at hrw
      exact Ev.bind hrw (ev_pos (by decide) (by simpa only [eq_self] using hv))
  | succ d ih =>
    intro r hr hd
    have hl := hB.len
    obtain ⟨p1, p2, p3, _, _, _⟩ := hB.row (j := r + 1) (by omega) (by omega)
    obtain ⟨q1, q2, q3, _, _, _⟩ := hB.row (j := r) (by omega) (by omega)
    have e1 : wrap64 (r + 1) = r + 1 := w64 (by omega) (by omega)
    have e2 : wrap64 (r - 1) = r - 1 := w64 (by omega) (by omega)
    have hrw := row_is hB hR (j := r + 1) (by omega) (by omega) (Int.le_refl _) p2 (by_ := -1) (by decide) (by decide)
    rw [if_pos (show 0 ≤ r + 1 + -1 ∧ r + 1 + -1 < (B.length : Int) by omega), show r + 1 + -1 = r by omega] at hrw
    have hb1 := bare_is hB hR (j := r) (by omega) (by omega) (Int.le_refl _) q2
    have hb0 := bare_is hB hR (j := r + 1) (by omega) (by omega) (Int.le_refl _) p2
    obtain ⟨T, t1, t2, t3, t4⟩ := ih (r - 1) (by omega) (by omega)
    rw [show r - 1 + 1 = r by omega] at t4
    by_cases b1 : rd B r = hi R B r
    · by_cases b0 : rd B (r + 1) < hi R B (r + 1)
      · refine ⟨rd B r, ev_shift ?_, q1, by omega, fun v hv => ev_shift ?_⟩
        · simp only [paras_up.l0]
          rw [e1]
          exact ev_pos (by omega) (ev_pos (by omega) (ev_pos (by omega) (ev_bindc (end_ev hB hR (by omega) (by omega)) (ev_pos b1 (ev_pos (by omega) (ev_pos (by omega) (ev_bindc (end_ev hB hR (by omega) (by omega)) (ev_pos b0 (Ev.now _)))))))))
        · simp only [quillref12_Paras.l1]
          exact Ev.bind hrw (ev_neg (by omega) (Ev.bind hb1 (ev_pos (beq_iff_eq.mpr b1) (Ev.bind hb0 (ev_neg (fun q => by have := beq_iff_eq.mp q; omega) hv)))))
      · refine ⟨T, ev_shift ?_, t2, t3, fun v hv => ev_shift ?_⟩
        · simp only [paras_up.l0]
          rw [e1, e2]
          exact ev_pos (by omega) (ev_pos (by omega) (ev_pos (by omega) (ev_bindc (end_ev hB hR (by omega) (by omega)) (ev_pos b1 (ev_pos (by omega) (ev_pos (by omega) (ev_bindc (end_ev hB hR (by omega) (by omega)) (ev_neg b0 t1))))))))
        · simp only [quillref12_Paras.l1]
          exact Ev.bind hrw (ev_neg (by omega) (Ev.bind hb1 (ev_pos (beq_iff_eq.mpr b1) (Ev.bind hb0 (ev_pos (beq_iff_eq.mpr (by omega)) (t4 v hv))))))
    · refine ⟨T, ev_shift ?_, t2, t3, fun v hv => ev_shift ?_⟩
      · simp only [paras_up.l0]
        rw [e2]
        exact ev_pos (by omega) (ev_pos (by omega) (ev_pos (by omega) (ev_bindc (end_ev hB hR (by omega) (by omega)) (ev_neg b1 t1))))
      · simp only [quillref12_Paras.l1]
        exact Ev.bind hrw (ev_neg (by omega) (Ev.bind hb1 (ev_neg (fun q => b1 (beq_iff_eq.mp q)) (t4 v hv))))
theorem down_one {x1 key count n x : Int} (x0 : 0 ≤ x) (x2 : x ≤ R.length) : ∃ T : Int, Ev (fun k => paras_down.f k R B x) T ∧ 0 ≤ T ∧ T ≤ R.length ∧
    ∀ v, Ev (fun k => if T = (R.length : Int) then (if T = x1 then (some ((0 : Int), (6 : Int))) else (some (T, 0))) else (quillref12_Paras.l0 k R x1 key count T (wrap64 (n + 1)))) v → Ev (fun k => quillref12_Paras.j1 k R x1 key count x n 1 R.length) v := by
  obtain ⟨j, g1, j0, j1, h0, h1⟩ := row_ev hB hR x0 x2
  have hl := hB.len
  obtain ⟨T, t1, t2, t3, t4⟩ := down_loop hB hR (x1 := x1) (key := key) (count := count) (n := n) (B.length - (j + 1)).toNat (j + 1) (by omega) (by omega)
  rw [show j + 1 - 1 = j by omega] at t4
  refine ⟨T, ?_, t2, t3, fun v hv => ev_shift ?_⟩
  · unfold paras_down.f
    refine Ev.bind g1 ?_
    rw [w64 (x := j + 1) (by omega) (by omega)]
    exact t1
  · simp only [quillref12_Paras.j1]
    exact Ev.bind (begin_row hB hR j0 j1 h0 h1) (t4 v hv)
theorem up_one {x1 key count n x : Int} (x0 : 0 ≤ x) (x2 : x ≤ R.length) : ∃ T : Int, Ev (fun k => paras_up.f k R B x) T ∧ 0 ≤ T ∧ T ≤ R.length ∧
    ∀ v, Ev (fun k => if T = 0 then (if T = x1 then (some ((0 : Int), (6 : Int))) else (some (T, 0))) else (quillref12_Paras.l0 k R x1 key count T (wrap64 (n + 1)))) v → Ev (fun k => quillref12_Paras.j1 k R x1 key count x n (-1) 0) v := by
  obtain ⟨j, g1, j0, j1, h0, h1⟩ := row_ev hB hR x0 x2
  have hl := hB.len
  obtain ⟨T, t1, t2, t3, t4⟩ := up_loop hB hR (x1 := x1) (key := key) (count := count) (n := n) j.toNat (j - 1) (by omega) (by omega)
  rw [show j - 1 + 1 = j by omega] at t4
  refine ⟨T, ?_, t2, t3, fun v hv => ev_shift ?_⟩
  · unfold paras_up.f
    refine Ev.bind g1 ?_
    rw [w64 (x := j - 1) (by omega) (by omega)]
    exact t1
  · simp only [quillref12_Paras.j1]
    exact Ev.bind (begin_row hB hR j0 j1 h0 h1) (t4 v hv)
/-- At the text's end the program stays. -/
theorem down_stay {x1 count : Int} (d : Nat) : ∀ n : Int, n + d = count → 0 ≤ n → count ≤ 999 → Ev (fun k => paras_Move.l1 k x1 R.length count n R B) (if (R.length : Int) = x1 then (0, 6) else ((R.length : Int), 0)) := by
  have hl := hB.len
  have last : ∀ n : Int, n = count → Ev (fun k => paras_Move.l1 k x1 R.length count n R B) (if (R.length : Int) = x1 then (0, 6) else ((R.length : Int), 0)) := by
    intro n hn
    refine ev_shift ?_
    simp only [paras_Move.l1]
    refine ev_neg (by omega) ?_
    by_cases q : (R.length : Int) = x1
    · refine ev_pos q ?_
      rw [if_pos q]
      exact Ev.now _
    · refine ev_neg q ?_
      rw [if_neg q]
      exact Ev.now _
  induction d with
  | zero =>
    intro n hd h0 h1
    exact last n (by omega)
  | succ d ih =>
    intro n hd h0 h1
    obtain ⟨j, g1, j0, j1, e0, e1⟩ := row_ev hB hR (a := R.length) (by omega) (Int.le_refl _)
    have hj : j + 1 = B.length := by
      by_cases q : j + 1 < (B.length : Int)
      · have := hB.next q
        have := hB.range (j := j + 1) (by omega) q
        omega
      · omega
    refine ev_shift ?_
    simp only [paras_Move.l1]
    refine ev_pos (by omega) (Ev.bind (a := (R.length : Int)) ?_ ?_)
    · unfold paras_down.f
      refine Ev.bind g1 (ev_shift ?_)
      simp only [paras_down.l0]
      rw [w64 (x := j + 1) (by omega) (by omega)]
      exact ev_bindc rfl (ev_neg (by omega) (Ev.now _))
    · rw [w64 (x := n + 1) (by omega) (by omega)]
      exact ih (n + 1) (by omega) (by omega) h1
theorem up_stay {x1 count : Int} (d : Nat) : ∀ n : Int, n + d = count → 0 ≤ n → count ≤ 999 → Ev (fun k => paras_Move.l0 k x1 0 count n R B) (if (0 : Int) = x1 then (0, 6) else (0, 0)) := by
  have hl := hB.len
  induction d with
  | zero =>
    intro n hd h0 h1
    refine ev_shift ?_
    simp only [paras_Move.l0]
    refine ev_neg (by omega) ?_
    by_cases q : (0 : Int) = x1
    · refine ev_pos q ?_
      rw [if_pos q]
      exact Ev.now _
    · refine ev_neg q ?_
      rw [if_neg q]
      exact Ev.now _
  | succ d ih =>
    intro n hd h0 h1
    obtain ⟨j, g1, j0, j1, e0, e1⟩ := row_ev hB hR (a := 0) (by omega) (by omega)
    have hj : j = 0 := by
      by_cases q : j = 0
      · exact q
      · have := hB.next (j := j - 1) (by omega)
        rw [show j - 1 + 1 = j by omega] at this
        obtain ⟨p1, p2, _, _, _, _⟩ := hB.row (j := j - 1) (by omega) (by omega)
        omega
    subst hj
    refine ev_shift ?_
    simp only [paras_Move.l0]
    refine ev_pos (by omega) (Ev.bind (a := 0) ?_ ?_)
    · unfold paras_up.f
      refine Ev.bind g1 (ev_shift ?_)
      simp only [paras_up.l0]
      exact ev_neg (by rw [w64 (by decide) (by decide)]; decide) (Ev.now _)
    · rw [w64 (x := n + 1) (by omega) (by omega)]
      exact ih (n + 1) (by omega) (by omega) h1
theorem paras_down_loop {x1 count : Int} (d : Nat) : ∀ x n : Int, n + d = count → 0 ≤ n → count ≤ 999 → 0 ≤ x → x ≤ R.length → ∃ v : Int × Int, Ev (fun k => paras_Move.l1 k x1 x count n R B) v ∧ Ev (fun k => quillref12_Paras.l0 k R x1 125 count x n) v ∧ (v.2 = 0 ∧ 0 ≤ v.1 ∧ v.1 ≤ R.length ∨ v = (0, 6)) := by
  induction d with
  | zero =>
    intro x n hd h0 h1 x0 x2
    by_cases q : x = x1
    · refine ⟨(0, 6), ev_shift ?_, ev_shift ?_, .inr rfl⟩
      · simp only [paras_Move.l1]
        exact ev_neg (by omega) (ev_pos q (Ev.now _))
      · simp only [quillref12_Paras.l0]
        exact ev_neg (by omega) (ev_pos q (Ev.now _))
    · refine ⟨(x, 0), ev_shift ?_, ev_shift ?_, .inl ⟨rfl, x0, x2⟩⟩
      · simp only [paras_Move.l1]
        exact ev_neg (by omega) (ev_neg q (Ev.now _))
      · simp only [quillref12_Paras.l0]
        exact ev_neg (by omega) (ev_neg q (Ev.now _))
  | succ d ih =>
    intro x n hd h0 h1 x0 x2
    have e1 : wrap64 (n + 1) = n + 1 := w64 (by omega) (by omega)
    obtain ⟨T, t1, t2, t3, t4⟩ := down_one hB hR (x1 := x1) (key := 125) (count := count) (n := n) x0 x2
    have pro : ∀ v, Ev (fun k => paras_Move.l1 k x1 T count (n + 1) R B) v → Ev (fun k => paras_Move.l1 k x1 x count n R B) v := by
      intro v hv
      refine ev_shift ?_
      simp only [paras_Move.l1]
      rw [e1]
      exact ev_pos (by omega) (Ev.bind t1 hv)
    have ref : ∀ v, Ev (fun k => if T = (R.length : Int) then (if T = x1 then (some ((0 : Int), (6 : Int))) else (some (T, 0))) else (quillref12_Paras.l0 k R x1 125 count T (wrap64 (n + 1)))) v → Ev (fun k => quillref12_Paras.l0 k R x1 125 count x n) v := by
      intro v hv
      refine ev_shift ?_
      simp only [quillref12_Paras.l0]
      exact ev_pos (by omega) (ev_neg (by decide) (t4 v hv))
    by_cases hT : T = (R.length : Int)
    · have hs := down_stay hB hR (x1 := x1) (count := count) d (n + 1) (by omega) (by omega) h1
      subst hT
      by_cases q : (R.length : Int) = x1
      · rw [if_pos q] at hs
        exact ⟨_, pro _ hs, ref _ (ev_pos rfl (ev_pos q (Ev.now _))), .inr rfl⟩
      · rw [if_neg q] at hs
        exact ⟨_, pro _ hs, ref _ (ev_pos rfl (ev_neg q (Ev.now _))), .inl ⟨rfl, t2, t3⟩⟩
    · obtain ⟨v, v1, v2, v3⟩ := ih T (n + 1) (by omega) (by omega) h1 t2 t3
      refine ⟨v, pro v v1, ref v (ev_neg hT ?_), v3⟩
      rw [e1]
      exact v2
theorem paras_up_loop {x1 count : Int} (d : Nat) : ∀ x n : Int, n + d = count → 0 ≤ n → count ≤ 999 → 0 ≤ x → x ≤ R.length → ∃ v : Int × Int, Ev (fun k => paras_Move.l0 k x1 x count n R B) v ∧ Ev (fun k => quillref12_Paras.l0 k R x1 123 count x n) v ∧ (v.2 = 0 ∧ 0 ≤ v.1 ∧ v.1 ≤ R.length ∨ v = (0, 6)) := by
  induction d with
  | zero =>
    intro x n hd h0 h1 x0 x2
    by_cases q : x = x1
    · refine ⟨(0, 6), ev_shift ?_, ev_shift ?_, .inr rfl⟩
      · simp only [paras_Move.l0]
        exact ev_neg (by omega) (ev_pos q (Ev.now _))
      · simp only [quillref12_Paras.l0]
        exact ev_neg (by omega) (ev_pos q (Ev.now _))
    · refine ⟨(x, 0), ev_shift ?_, ev_shift ?_, .inl ⟨rfl, x0, x2⟩⟩
      · simp only [paras_Move.l0]
        exact ev_neg (by omega) (ev_neg q (Ev.now _))
      · simp only [quillref12_Paras.l0]
        exact ev_neg (by omega) (ev_neg q (Ev.now _))
  | succ d ih =>
    intro x n hd h0 h1 x0 x2
    have e1 : wrap64 (n + 1) = n + 1 := w64 (by omega) (by omega)
    obtain ⟨T, t1, t2, t3, t4⟩ := up_one hB hR (x1 := x1) (key := 123) (count := count) (n := n) x0 x2
    have pro : ∀ v, Ev (fun k => paras_Move.l0 k x1 T count (n + 1) R B) v → Ev (fun k => paras_Move.l0 k x1 x count n R B) v := by
      intro v hv
      refine ev_shift ?_
      simp only [paras_Move.l0]
      rw [e1]
      exact ev_pos (by omega) (Ev.bind t1 hv)
    have ref : ∀ v, Ev (fun k => if T = 0 then (if T = x1 then (some ((0 : Int), (6 : Int))) else (some (T, 0))) else (quillref12_Paras.l0 k R x1 123 count T (wrap64 (n + 1)))) v → Ev (fun k => quillref12_Paras.l0 k R x1 123 count x n) v := by
      intro v hv
      refine ev_shift ?_
      simp only [quillref12_Paras.l0]
      exact ev_pos (by omega) (ev_pos (by trivial) (t4 v hv))
    by_cases hT : T = 0
    · have hs := up_stay hB hR (x1 := x1) (count := count) d (n + 1) (by omega) (by omega) h1
      subst hT
      by_cases q : (0 : Int) = x1
      · rw [if_pos q] at hs
        exact ⟨_, pro _ hs, ref _ (ev_pos rfl (ev_pos q (Ev.now _))), .inr rfl⟩
      · rw [if_neg q] at hs
        exact ⟨_, pro _ hs, ref _ (ev_pos rfl (ev_neg q (Ev.now _))), .inl ⟨rfl, t2, t3⟩⟩
    · obtain ⟨v, v1, v2, v3⟩ := ih T (n + 1) (by omega) (by omega) h1 t2 t3
      refine ⟨v, pro v v1, ref v (ev_neg hT ?_), v3⟩
      rw [e1]
      exact v2
end
section
variable {s : ByteArray} (hm : MayB s = true) {B : List Int} (hof : Ev (fun k => text_Of.f k s) (runesOf s, B)) (hB : Beg (runesOf s) B (runesOf s).length) {a : Int} (a0 : 0 ≤ a) (a1 : a ≤ (runesOf s).length)
include hm hof hB a0 a1
theorem paras_both {key count : Int} (hk : key = 123 ∨ key = 125) (c0 : 1 ≤ count) (c1 : count ≤ 999) :
    ∃ v : Int × Int, Ev (fun k => paras_Move.f k s a key count) v ∧ Ev (fun k => quillref12_Paras.f k (runesOf s) a key count) v ∧ (v.2 = 0 ∧ 0 ≤ v.1 ∧ v.1 ≤ (runesOf s).length ∨ v = (0, 6)) := by
  have hsz := may_size hm
  have hn := runesOf_len s
  have hR : (runesOf s).length ≤ 4000 := by omega
  rcases hk with rfl | rfl
  · obtain ⟨v, v1, v2, v3⟩ := paras_up_loop hB hR (x1 := a) (count := count) count.toNat a 0 (by omega) (by decide) c1 a0 a1
    refine ⟨v, ?_, v2, v3⟩
    unfold paras_Move.f
    refine ev_bindc (may_prog s (by omega)) ?_
    rw [hm]
    refine ev_pos (by trivial) (ev_pos rfl (ev_neg (by omega) (ev_neg (by omega) (Ev.bind hof (ev_bindc (map_is _ _ _) ?_)))))
    rw [decide_eq_true (show 0 ≤ a ∧ a ≤ ((runesOf s).length : Int) from ⟨a0, a1⟩)]
    exact ev_pos (by trivial) v1
  · obtain ⟨v, v1, v2, v3⟩ := paras_down_loop hB hR (x1 := a) (count := count) count.toNat a 0 (by omega) (by decide) c1 a0 a1
    refine ⟨v, ?_, v2, v3⟩
    unfold paras_Move.f
    refine ev_bindc (may_prog s (by omega)) ?_
    rw [hm]
    refine ev_pos (by trivial) (ev_neg (by decide) (ev_pos rfl (ev_neg (by omega) (ev_neg (by omega) (Ev.bind hof (ev_bindc (map_is _ _ _) ?_))))))
    rw [decide_eq_true (show 0 ≤ a ∧ a ≤ ((runesOf s).length : Int) from ⟨a0, a1⟩)]
    exact ev_pos (by trivial) v1
end
end Go.Proofs.YtbgmmcngkdhpcaaDoor.P
end
section
namespace Go.Proofs.YtbgmmcngkdhpcaaDoor.P
open Go.RowKit Go.Proofs.YtbgmmcngkdhpcaaDoor Go.Proofs.YtbgmmcngkdhpcaaDoorW.PrintWords Go.Proofs.YtbgmmcngkdhpcaaDoorW.PrintLast Go.Proofs.YtbgmmcngkdhpcaaDoorW.PrintMore
/-- A rune is an opening bracket, a closing one, or none. -/
theorem bracket_cases (r : Int) : (∃ k : Int, 0 ≤ k ∧ k < 3 ∧ kd r = (k, 1) ∧ bk r = (k, true)) ∨ (∃ k : Int, 0 ≤ k ∧ k < 3 ∧ kd r = (k, -1) ∧ bk r = (k, false)) ∨ (kd r = (0, 0) ∧ bk r = (-1, false)) := by
  by_cases h1 : r = 40
  · subst h1
    exact .inl ⟨0, by decide, by decide, by decide, by decide⟩
  by_cases h2 : r = 91
  · subst h2
    exact .inl ⟨1, by decide, by decide, by decide, by decide⟩
  by_cases h3 : r = 123
  · subst h3
    exact .inl ⟨2, by decide, by decide, by decide, by decide⟩
  by_cases h4 : r = 41
  · subst h4
    exact .inr (.inl ⟨0, by decide, by decide, by decide, by decide⟩)
  by_cases h5 : r = 93
  · subst h5
    exact .inr (.inl ⟨1, by decide, by decide, by decide, by decide⟩)
  by_cases h6 : r = 125
  · subst h6
    exact .inr (.inl ⟨2, by decide, by decide, by decide, by decide⟩)
  refine .inr (.inr ⟨?_, ?_⟩)
  · unfold kd
    rw [if_neg h1, if_neg h2, if_neg h3, if_neg h4, if_neg h5, if_neg h6]
  · unfold bk
    rw [if_neg h1, if_neg h4, if_neg h2, if_neg h5, if_neg h3, if_neg h6]
/-- The mate of a bracket. -/
theorem mate_any {R : List Int} (hR : R.length ≤ 4000) {i : Int} (i0 : 0 ≤ i) (i1 : i < R.length) (hb : (kd (rd R i)).2 ≠ 0) :
    ∃ m, Ev (fun k => pairs_mate.f k R i) m ∧ Ev (fun k => quillref12_Mate.f k R i) m ∧ (m = -1 ∨ (0 ≤ m ∧ m < R.length)) := by
  rcases bracket_cases (rd R i) with ⟨k0, k1, k2, e1, e2⟩ | ⟨k0, k1, k2, e1, e2⟩ | ⟨e1, _⟩
  · obtain ⟨m, m1, m2, m3⟩ := mate_loop hR k1 k2 (.inl rfl) (R.length - i).toNat i 0 0 (.inl ⟨rfl, by omega, i0, rfl⟩) (by omega) (by omega)
    refine ⟨m, ?_, ?_, ?_⟩
    · unfold pairs_mate.f
      refine ev_neg (by omega) (ev_pos i0 (ev_pos i1 (ev_bindc (kind_eq _) ?_)))
      rw [e1]
      exact ev_neg (show ¬ ((1 : Int) = 0) by decide) m1
    · unfold quillref12_Mate.f
      refine ev_neg (by omega) (ev_pos i0 (ev_pos i1 (Ev.bind (bracket_ref _) ?_)))
      rw [e2]
      refine ev_neg (show ¬ k0 < 0 by omega) (ev_pos (by trivial) (ev_shift ?_))
      simp only [quillref12_Mate.j0]
      exact m2
    · rcases m3 with m3 | ⟨m3, m4, _⟩
      · exact .inl m3
      · exact .inr ⟨m3, m4⟩
  · obtain ⟨m, m1, m2, m3⟩ := mate_loop hR k1 k2 (.inr rfl) (i + 1).toNat i 0 0 (.inr ⟨rfl, by omega, i1, rfl⟩) (by omega) (by omega)
    refine ⟨m, ?_, ?_, ?_⟩
    · unfold pairs_mate.f
      refine ev_neg (by omega) (ev_pos i0 (ev_pos i1 (ev_bindc (kind_eq _) ?_)))
      rw [e1]
      exact ev_neg (show ¬ ((-1 : Int) = 0) by decide) m1
    · unfold quillref12_Mate.f
      refine ev_neg (by omega) (ev_pos i0 (ev_pos i1 (Ev.bind (bracket_ref _) ?_)))
      rw [e2]
      refine ev_neg (show ¬ k0 < 0 by omega) (ev_neg (by simp) (ev_shift ?_))
      simp only [quillref12_Mate.j0]
      exact m2
    · rcases m3 with m3 | ⟨m3, m4, _⟩
      · exact .inl m3
      · exact .inr ⟨m3, m4⟩
  · exact absurd (by rw [e1]) hb
section
variable {s : ByteArray} (hm : MayB s = true) {B : List Int} (hof : Ev (fun k => text_Of.f k s) (runesOf s, B)) (hB : Beg (runesOf s) B (runesOf s).length)
include hm hof hB
theorem pairs_loop {j : Int} (j0 : 0 ≤ j) (j1 : j < B.length) (d : Nat) : ∀ i : Int, rd B j ≤ i → i + d = hi (runesOf s) B j → ∃ m : Int, Ev (fun k => pairs_Move.l0 k s i (hi (runesOf s) B j) (runesOf s) B) (if m < 0 then (0, 6) else (m, 0)) ∧ Ev (fun k => quillref12_Pair.l0 k (runesOf s) i) m ∧ (m = -1 ∨ (0 ≤ m ∧ m < (runesOf s).length)) := by
  have hsz := may_size hm
  have hn := runesOf_len s
  obtain ⟨r1, r2, r3, r4, r5, r6⟩ := hB.row j0 j1
  induction d with
  | zero =>
    intro i h0 hd
    have stop : Ev (fun k => quillref12_Pair.j1 k (runesOf s) i false) (-1) := by
      refine ev_shift ?_
      simp only [quillref12_Pair.j1]
      exact ev_neg (by decide) (Ev.now _)
    refine ⟨-1, ev_shift ?_, ev_shift ?_, .inl rfl⟩
    · simp only [pairs_Move.l0]
      exact ev_neg (by omega) (Ev.now _)
    · simp only [quillref12_Pair.l0]
      by_cases h : i < ((runesOf s).length : Int)
      · have e : i = hi (runesOf s) B j := by omega
        have e10 : rd (runesOf s) i = 10 := by
          rw [e]
          rcases r5 with r5 | r5
          · omega
          · exact r5
        refine ev_pos h (ev_pos (by omega) ?_)
        rw [e10]
        exact stop
      · exact ev_neg h stop
  | succ d ih =>
    intro i h0 hd
    have hne := r6 i h0 (by omega)
    have e1 : wrap64 (i + 1) = i + 1 := w64 (by omega) (by omega)
    have ref : ∀ m, Ev (fun k => (quillref12_bracket.f k (rd (runesOf s) i)).bind fun b => (if b.1 ≥ 0 then ((quillref12_Mate.f k (runesOf s) i).bind fun t => (some t)) else (quillref12_Pair.l0 k (runesOf s) (i + 1)))) m → Ev (fun k => quillref12_Pair.l0 k (runesOf s) i) m := by
      intro m h
      refine ev_shift ?_
      simp only [quillref12_Pair.l0]
      refine ev_pos (by omega) (ev_pos (by omega) ?_)
      rw [bne_iff_ne.mpr hne]
      refine ev_shift ?_
      simp only [quillref12_Pair.j1]
      rw [e1]
      exact ev_pos (by trivial) (ev_pos (by omega) (ev_pos (by omega) h))
    by_cases hb : (kd (rd (runesOf s) i)).2 = 0
    · obtain ⟨m, m1, m2, m3⟩ := ih (i + 1) (by omega) (by omega)
      refine ⟨m, ev_shift ?_, ref m (Ev.bind (bracket_ref _) ?_), m3⟩
      · simp only [pairs_Move.l0]
        rw [e1]
        exact ev_pos (by omega) (ev_pos (by omega) (ev_pos (by omega) (ev_bindc (kind_eq _) (ev_pos hb m1))))
      · have e2 : bk (rd (runesOf s) i) = (-1, false) := by
          rcases bracket_cases (rd (runesOf s) i) with ⟨k0, _, _, q1, _⟩ | ⟨k0, _, _, q1, _⟩ | ⟨_, q2⟩
          · rw [q1] at hb
            exact absurd hb (by simp)
          · rw [q1] at hb
            exact absurd hb (by simp)
          · exact q2
        rw [e2]
        exact ev_neg (by simp) m2
    · obtain ⟨m, m1, m2, m3⟩ := mate_any (R := runesOf s) (by omega) (i := i) (by omega) (by omega) hb
      have hmate : Ev (fun k => pairs_Mate.f k s i) (if m < 0 then (0, 6) else (m, 0)) := by
        unfold pairs_Mate.f
        refine ev_bindc (may_prog s (by omega)) ?_
        rw [hm]
        refine ev_pos (by trivial) (Ev.bind hof (ev_bindc (map_is _ _ _) ?_))
        rw [decide_eq_true (show 0 ≤ i ∧ i ≤ ((runesOf s).length : Int) by omega)]
        refine ev_pos (by trivial) (Ev.bind m1 ?_)
        by_cases q : m < 0
        · rw [if_pos q]
          exact ev_neg (by omega) (Ev.now _)
        · rw [if_neg q]
          exact ev_pos (by omega) (Ev.now _)
      refine ⟨m, ev_shift ?_, ref m (Ev.bind (bracket_ref _) ?_), m3⟩
      · simp only [pairs_Move.l0]
        exact ev_pos (by omega) (ev_pos (by omega) (ev_pos (by omega) (ev_bindc (kind_eq _) (ev_neg hb (Ev.bind hmate (Ev.now _))))))
      · have e2 : (bk (rd (runesOf s) i)).1 ≥ 0 := by
          rcases bracket_cases (rd (runesOf s) i) with ⟨k0, q0, _, _, q2⟩ | ⟨k0, q0, _, _, q2⟩ | ⟨q1, _⟩
          · rw [q2]
            exact q0
          · rw [q2]
            exact q0
          · rw [q1] at hb
            exact absurd rfl hb
        exact ev_pos e2 (Ev.bind m2 (Ev.now _))
theorem pairs_both {a : Int} (a0 : 0 ≤ a) (a1 : a ≤ (runesOf s).length) :
    ∃ m : Int, Ev (fun k => pairs_Move.f k s a) (if m < 0 then (0, 6) else (m, 0)) ∧ Ev (fun k => quillref12_Pair.f k (runesOf s) a) m ∧ (m = -1 ∨ (0 ≤ m ∧ m < (runesOf s).length)) := by
  have hsz := may_size hm
  have hn := runesOf_len s
  have hR : (runesOf s).length ≤ 4000 := by omega
  obtain ⟨j, g1, j0, j1, h0, h1⟩ := row_ev hB hR a0 a1
  obtain ⟨m, m1, m2, m3⟩ := pairs_loop hm hof hB j0 j1 (hi (runesOf s) B j - a).toNat a h0 (by omega)
  refine ⟨m, ?_, m2, m3⟩
  unfold pairs_Move.f
  refine ev_bindc (may_prog s (by omega)) ?_
  rw [hm]
  refine ev_pos (by trivial) (Ev.bind hof (ev_bindc (map_is _ _ _) ?_))
  rw [decide_eq_true (show 0 ≤ a ∧ a ≤ ((runesOf s).length : Int) from ⟨a0, a1⟩)]
  exact ev_pos (by trivial) (Ev.bind g1 (ev_bindc (end_ev hB hR j0 j1) m1))
end
end Go.Proofs.YtbgmmcngkdhpcaaDoor.P
end
section
namespace Go.Proofs.YtbgmmcngkdhpcaaDoor.P
open Go.RowKit Go.Proofs.YtbgmmcngkdhpcaaDoor Go.Proofs.YtbgmmcngkdhpcaaDoorW.PrintWords Go.Proofs.YtbgmmcngkdhpcaaDoorW.PrintLast Go.Proofs.YtbgmmcngkdhpcaaDoorW.PrintMore
theorem marks_loop (M : List S89) (hM : M.length ≤ 400) (d : Nat) : ∀ i : Int, 0 ≤ i → i + d = M.length → ∃ v, Ev (fun k => marks_May.l0 k M M (M.length : Int) i) v ∧ Ev (fun k => quillref6_Marks.l0 k M i) v := by
  induction d with
  | zero =>
    intro i h0 hd
    refine ⟨true, ev_shift ?_, ev_shift ?_⟩
    · simp only [marks_May.l0]
      exact ev_neg (by omega) (Ev.now _)
    · simp only [quillref6_Marks.l0]
      exact ev_neg (by omega) (Ev.now _)
  | succ d ih =>
    intro i h0 hd
    obtain ⟨v, v1, v2⟩ := ih (i + 1) (by omega) (by omega)
    have e1 : wrap64 (i + 1) = i + 1 := w64 (by omega) (by omega)
    have e2 : wrap64 (i - 1) = i - 1 := w64 (by omega) (by omega)
    generalize hx : (rd_T89 M i).f0 = x
    generalize hy : (rd_T89 M i).f1 = y
    have hone : marks_one.f x y = some (decide (97 ≤ x ∧ x ≤ 122) && decide (0 ≤ y ∧ y ≤ 4000)) := by
      unfold marks_one.f
      by_cases q1 : x ≥ 97
      · rw [if_pos q1]
        by_cases q2 : x ≤ 122
        · rw [if_pos q2, decide_eq_true (show 97 ≤ x ∧ x ≤ 122 from ⟨q1, q2⟩)]
          by_cases q3 : y ≥ 0
          · rw [if_pos q3, Bool.true_and]
            congr 1
            exact decide_eq_decide.mpr ⟨fun z => ⟨q3, z⟩, fun z => z.2⟩
          · rw [if_neg q3, decide_eq_false (show ¬ (0 ≤ y ∧ y ≤ 4000) by omega)]
            rfl
        · rw [if_neg q2, decide_eq_false (show ¬ (97 ≤ x ∧ x ≤ 122) by omega)]
          rfl
      · rw [if_neg q1, decide_eq_false (show ¬ (97 ≤ x ∧ x ≤ 122) by omega)]
        rfl
    have pro : ∀ v, Ev (fun k => if (decide (97 ≤ x ∧ x ≤ 122) && decide (0 ≤ y ∧ y ≤ 4000)) = true then (if i > 0 then (if 0 ≤ i - 1 then (if i - 1 < (M.length : Int) then (if (rd_T89 M (i - 1)).f0 ≥ x then (some false) else (marks_May.l0 k M M (M.length : Int) (i + 1))) else none) else none) else (marks_May.l0 k M M (M.length : Int) (i + 1))) else (some false)) v → Ev (fun k => marks_May.l0 k M M (M.length : Int) i) v := by
      intro v hv
      refine ev_shift ?_
      simp only [marks_May.l0]
      rw [e1, e2, hx, hy]
      exact ev_pos (by omega) (ev_pos h0 (ev_pos (by omega) (ev_bindc hone hv)))
    have ref : ∀ v, Ev (fun k => if decide (97 ≤ x ∧ x ≤ 122) = true then ((quillref0_Num.f y 4000).bind fun t => (if t = true then (if i > 0 then (if 0 ≤ i - 1 then (if i - 1 < (M.length : Int) then (if (rd_T89 M (i - 1)).f0 ≥ x then (some false) else (quillref6_Marks.l0 k M (i + 1))) else none) else none) else (quillref6_Marks.l0 k M (i + 1))) else (some false))) else (some false)) v → Ev (fun k => quillref6_Marks.l0 k M i) v := by
      intro v hv
      refine ev_shift ?_
      simp only [quillref6_Marks.l0]
      rw [e1, e2, hx, hy]
      exact ev_pos (by omega) (ev_pos h0 (ev_bindc (between_ref _ _ _) hv))
    by_cases q1 : 97 ≤ x ∧ x ≤ 122
    · by_cases q2 : 0 ≤ y ∧ y ≤ 4000
      · by_cases q3 : i > 0
        · by_cases q4 : (rd_T89 M (i - 1)).f0 ≥ x
          · refine ⟨false, pro _ (ev_pos (by rw [decide_eq_true q1, decide_eq_true q2]; rfl) (ev_pos q3 (ev_pos (by omega) (ev_pos (by omega) (ev_pos q4 (Ev.now _)))))), ref _ (ev_pos (decide_eq_true q1) (ev_bindc (num_ref _ _) (ev_pos (decide_eq_true q2) (ev_pos q3 (ev_pos (by omega) (ev_pos (by omega) (ev_pos q4 (Ev.now _))))))))⟩
          · refine ⟨v, pro _ (ev_pos (by rw [decide_eq_true q1, decide_eq_true q2]; rfl) (ev_pos q3 (ev_pos (by omega) (ev_pos (by omega) (ev_neg q4 v1))))), ref _ (ev_pos (decide_eq_true q1) (ev_bindc (num_ref _ _) (ev_pos (decide_eq_true q2) (ev_pos q3 (ev_pos (by omega) (ev_pos (by omega) (ev_neg q4 v2)))))))⟩
        · exact ⟨v, pro _ (ev_pos (by rw [decide_eq_true q1, decide_eq_true q2]; rfl) (ev_neg q3 v1)), ref _ (ev_pos (decide_eq_true q1) (ev_bindc (num_ref _ _) (ev_pos (decide_eq_true q2) (ev_neg q3 v2))))⟩
      · exact ⟨false, pro _ (ev_neg (by rw [decide_eq_true q1, decide_eq_false q2]; decide) (Ev.now _)), ref _ (ev_pos (decide_eq_true q1) (ev_bindc (num_ref _ _) (ev_neg (by rw [decide_eq_false q2]; decide) (Ev.now _))))⟩
    · exact ⟨false, pro _ (ev_neg (by rw [decide_eq_false q1]; simp) (Ev.now _)), ref _ (ev_neg (by rw [decide_eq_false q1]; decide) (Ev.now _))⟩
/-- Marks that may be: the program and the document say the same. -/
theorem marks_both (M : List S89) (hM : M.length ≤ 400) : ∃ v, Ev (fun k => marks_May.f k M) v ∧ Ev (fun k => quillref6_Marks.f k M) v := marks_loop M hM M.length 0 (by decide) (by omega)
theorem get_loop (M : List S89) (hM : M.length ≤ 400) (name : Int) (d : Nat) : ∀ i : Int, 0 ≤ i → i + d = M.length →
    ∃ p : Int, Ev (fun k => api_Mark.l0 k M (M.length : Int) i name) p ∧ Ev (fun k => quillref6_Get.l0 k M name i) (if p < 0 then -1 else (rd_T89 M p).f1) ∧ (p = -1 ∨ (0 ≤ p ∧ p < M.length)) := by
  induction d with
  | zero =>
    intro i h0 hd
    refine ⟨-1, ev_shift ?_, ev_shift ?_, .inl rfl⟩
    · simp only [api_Mark.l0]
      exact ev_neg (by omega) (Ev.now _)
    · simp only [quillref6_Get.l0]
      exact ev_neg (by omega) (Ev.now _)
  | succ d ih =>
    intro i h0 hd
    have e1 : wrap64 (i + 1) = i + 1 := w64 (by omega) (by omega)
    by_cases q : (rd_T89 M i).f0 = name
    · refine ⟨i, ev_shift ?_, ev_shift ?_, .inr ⟨h0, by omega⟩⟩
      · simp only [api_Mark.l0]
        exact ev_pos (by omega) (ev_pos h0 (ev_pos (by omega) (ev_bindc rfl (ev_pos (beq_iff_eq.mpr q) (Ev.now _)))))
      · simp only [quillref6_Get.l0]
        rw [if_neg (show ¬ i < 0 by omega)]
        exact ev_pos (by omega) (ev_pos h0 (ev_pos q (Ev.now _)))
    · obtain ⟨p, p1, p2, p3⟩ := ih (i + 1) (by omega) (by omega)
      refine ⟨p, ev_shift ?_, ev_shift ?_, p3⟩
      · simp only [api_Mark.l0]
        rw [e1]
        exact ev_pos (by omega) (ev_pos h0 (ev_pos (by omega) (ev_bindc rfl (ev_neg (fun z => q (beq_iff_eq.mp z)) p1))))
      · simp only [quillref6_Get.l0]
        rw [e1]
        exact ev_pos (by omega) (ev_pos h0 (ev_neg q p2))
end Go.Proofs.YtbgmmcngkdhpcaaDoor.P
end
section
namespace Go.Proofs.YtbgmmcngkdhpcaaDoor.P
open Go.RowKit Go.Proofs.YtbgmmcngkdhpcaaDoor Go.Proofs.YtbgmmcngkdhpcaaDoorW.PrintWords Go.Proofs.YtbgmmcngkdhpcaaDoorW.PrintLast Go.Proofs.YtbgmmcngkdhpcaaDoorW.PrintMore
theorem kinds (key : Int) :
    (kindOf key = 1 ∧ (key = 104 ∨ key = 108 ∨ key = 48 ∨ key = 94 ∨ key = 36 ∨ key = 106 ∨ key = 107 ∨ key = 43 ∨ key = 45 ∨ key = 95 ∨ key = 71 ∨ key = 16777319)) ∨
    (kindOf key = 2 ∧ (key = 119 ∨ key = 98 ∨ key = 101 ∨ key = 87 ∨ key = 66 ∨ key = 69)) ∨
    (kindOf key = 3 ∧ (key = 102 ∨ key = 70 ∨ key = 116 ∨ key = 84)) ∨ (kindOf key = 4 ∧ (key = 59 ∨ key = 44)) ∨ (kindOf key = 5 ∧ (key = 123 ∨ key = 125)) ∨ (kindOf key = 6 ∧ key = 37) ∨ (kindOf key = 7 ∧ (key = 39 ∨ key = 96)) ∨
    (kindOf key = 0 ∧ ¬ (key = 104 ∨ key = 108 ∨ key = 48 ∨ key = 94 ∨ key = 36 ∨ key = 106 ∨ key = 107 ∨ key = 43 ∨ key = 45 ∨ key = 95 ∨ key = 71 ∨ key = 16777319) ∧ ¬ (key = 119 ∨ key = 98 ∨ key = 101 ∨ key = 87 ∨ key = 66 ∨ key = 69) ∧ ¬ (key = 102 ∨ key = 70 ∨ key = 116 ∨ key = 84) ∧ ¬ (key = 59 ∨ key = 44) ∧ ¬ (key = 123 ∨ key = 125) ∧ ¬ key = 37 ∧ ¬ (key = 39 ∨ key = 96)) := by
  unfold kindOf
  split
  · exact .inl ⟨rfl, by omega⟩
  · split
    · exact .inr (.inl ⟨rfl, by omega⟩)
    · split
      · exact .inr (.inr (.inl ⟨rfl, by omega⟩))
      · split
        · exact .inr (.inr (.inr (.inl ⟨rfl, by omega⟩)))
        · split
          · exact .inr (.inr (.inr (.inr (.inl ⟨rfl, by omega⟩))))
          · split
            · exact .inr (.inr (.inr (.inr (.inr (.inl ⟨rfl, by omega⟩)))))
            · split
              · exact .inr (.inr (.inr (.inr (.inr (.inr (.inl ⟨rfl, by omega⟩))))))
              · exact .inr (.inr (.inr (.inr (.inr (.inr (.inr ⟨rfl, by omega, by omega, by omega, by omega, by omega, by omega, by omega⟩))))))
theorem in_is (l : List Int) (hl : l.length ≤ 4000) (x : Int) : Ev (fun k => (quillref0_In.f k l x).bind fun t => some (decide (t ≥ 0))) (decide (x ∈ l)) := by
  obtain ⟨v, v1, v2⟩ := in_ev l x hl
  have e : decide (v ≥ 0) = decide (x ∈ l) := decide_eq_decide.2 v2
  rw [← e]
  exact Ev.bind v1 (Ev.now _)
theorem seek_ref (key : Int) : Ev (fun k => quillref10_Seek.f k key) (SeekB key) := by
  unfold quillref10_Seek.f
  have h := in_is [102, 70, 116, 84] (by decide) key
  rw [show decide (key ∈ ([102, 70, 116, 84] : List Int)) = SeekB key from decide_eq_decide.2 (by simp)] at h
  exact h
theorem line_ref (key : Int) : Ev (fun k => quillref12_Line.f k key) (decide (kindOf key = 1)) := by
  unfold quillref12_Line.f
  have h := in_is [104, 108, 48, 94, 36, 106, 107, 43, 45, 95, 71, 16777319] (by decide) key
  have hk := kinds key
  rw [show decide (key ∈ ([104, 108, 48, 94, 36, 106, 107, 43, 45, 95, 71, 16777319] : List Int)) = decide (kindOf key = 1) from decide_eq_decide.2 (by simp only [List.mem_cons, List.not_mem_nil, or_false]; omega)] at h
  exact h
theorem word_kind (key : Int) : WordB key = decide (kindOf key = 2) := by
  have hk := kinds key
  exact decide_eq_decide.2 (by simp only [List.mem_cons, List.not_mem_nil, or_false]; omega)
theorem asks_ref (key : Int) : Ev (fun k => quillref15_Asks.f k key) (decide (kindOf key = 3 ∨ kindOf key = 7)) := by
  have hk := kinds key
  unfold quillref15_Asks.f
  refine Ev.bind (seek_ref key) ?_
  by_cases hs : key = 102 ∨ key = 70 ∨ key = 116 ∨ key = 84
  · rw [decide_eq_true (show kindOf key = 3 ∨ kindOf key = 7 by omega)]
    exact ev_pos (decide_eq_true hs) (Ev.now _)
  · refine ev_neg (fun q => hs (of_decide_eq_true q)) ?_
    by_cases h39 : key = 39
    · rw [decide_eq_true (show kindOf key = 3 ∨ kindOf key = 7 by omega)]
      exact ev_pos h39 (Ev.now _)
    · refine ev_neg h39 ?_
      have e : (key == 96) = decide (kindOf key = 3 ∨ kindOf key = 7) := by
        by_cases h96 : key = 96
        · rw [beq_iff_eq.mpr h96, decide_eq_true (show kindOf key = 3 ∨ kindOf key = 7 by omega)]
        · rw [beq_eq_false_iff_ne.mpr h96, decide_eq_false (show ¬ (kindOf key = 3 ∨ kindOf key = 7) by omega)]
      rw [e]
      exact Ev.now _
theorem is_ref (key : Int) : Ev (fun k => quillref15_Is.f k key) (decide (kindOf key ≠ 0)) := by
  have hk := kinds key
  unfold quillref15_Is.f
  refine Ev.bind (asks_ref key) ?_
  by_cases h1 : kindOf key = 3 ∨ kindOf key = 7
  · rw [decide_eq_true (show kindOf key ≠ 0 by omega)]
    exact ev_pos (decide_eq_true h1) (Ev.now _)
  · refine ev_neg (fun q => h1 (of_decide_eq_true q)) (Ev.bind (word_ref key) ?_)
    rw [word_kind]
    by_cases h2 : kindOf key = 2
    · rw [decide_eq_true (show kindOf key ≠ 0 by omega)]
      exact ev_pos (decide_eq_true h2) (Ev.now _)
    · refine ev_neg (fun q => h2 (of_decide_eq_true q)) (Ev.bind (line_ref key) ?_)
      by_cases h3 : kindOf key = 1
      · rw [decide_eq_true (show kindOf key ≠ 0 by omega)]
        exact ev_pos (decide_eq_true h3) (Ev.now _)
      · refine ev_neg (fun q => h3 (of_decide_eq_true q)) ?_
        have h := in_is [59, 44, 123, 125, 37] (by decide) key
        rw [show decide (key ∈ ([59, 44, 123, 125, 37] : List Int)) = decide (kindOf key ≠ 0) from decide_eq_decide.2 (by simp only [List.mem_cons, List.not_mem_nil, or_false]; omega)] at h
        exact h
theorem is_prog (key : Int) : move_Is.f key = some (decide (kindOf key ≠ 0)) := by
  unfold move_Is.f
  show some (kindOf key != 0) = _
  congr 1
  by_cases h : kindOf key = 0
  · rw [h]
    rfl
  · rw [bne_iff_ne.mpr h, decide_eq_true h]
theorem asks_prog (key : Int) : move_Asks.f key = some (decide (kindOf key = 3 ∨ kindOf key = 7)) := by
  unfold move_Asks.f
  show (if kindOf key = 3 then some true else some (kindOf key == 7)) = _
  by_cases h3 : kindOf key = 3
  · rw [if_pos h3, decide_eq_true (.inl h3)]
  · rw [if_neg h3]
    congr 1
    by_cases h7 : kindOf key = 7
    · rw [beq_iff_eq.mpr h7, decide_eq_true (.inr h7)]
    · rw [beq_eq_false_iff_ne.mpr h7, decide_eq_false (by omega)]
end Go.Proofs.YtbgmmcngkdhpcaaDoor.P
end
section
namespace Go.Proofs.YtbgmmcngkdhpcaaDoor.P
open Go.RowKit Go.Proofs.YtbgmmcngkdhpcaaDoor Go.Proofs.YtbgmmcngkdhpcaaDoorW.PrintWords Go.Proofs.YtbgmmcngkdhpcaaDoorW.PrintLast Go.Proofs.YtbgmmcngkdhpcaaDoorW.PrintMore
theorem not_seek {key : Int} (h : ¬ (key = 102 ∨ key = 70 ∨ key = 116 ∨ key = 84)) : ¬ SeekB key = true := fun q => h (of_decide_eq_true q)
theorem kind_is {key k : Int} (h : kindOf key = k) : move_kind.f key = some k := congrArg some h
section
variable {s : ByteArray} (hm : MayB s = true) {B : List Int} (hof : Ev (fun k => text_Of.f k s) (runesOf s, B)) (hB : Beg (runesOf s) B (runesOf s).length) {a : Int} (a0 : 0 ≤ a) (a1 : a ≤ (runesOf s).length)
  {reg count oper key wide rune k1 k2 : Int} {M : List S89} (hc : 0 ≤ count ∧ count ≤ 999) (hk1 : k1 = 0 ∨ SeekB k1 = true) (hMl : M.length ≤ 400) (hM : Ev (fun k => marks_May.f k M) true)
include hm hof hB a0 a1 hc hk1 hMl hM
/-- What is told, where the rune that was sought stays. -/
def told (g : Int × Int × Int) (k1 k2 : Int) : Int × Int × Int × Int × Int := if g.2.2 = 0 then (g.1, g.2.1, k1, k2, 0) else (0, 0, 0, 0, g.2.2)
omit hB hMl in
theorem go_told {g : Int × Int × Int} (hk : kindOf key ≠ 0) (hs : ¬ SeekB key = true) (hg : Ev (fun k => move_goes.f k s a reg count oper key wide rune k1 k2 M) g) : Ev (fun k => move_Go.f k s a reg count oper key wide rune k1 k2 M) (told g k1 k2) := by
  have h := go_ok hm hof a0 a1 hk hc hk1 hM hg
  rw [if_neg hs] at h
  exact h
omit hm hof hB a0 a1 hc hk1 hMl hM in
theorem told_ev {f : Int → Int → Int → Nat → Option (Int × Int × Int × Int × Int)} {x y e k1 k2 : Int} (h0 : e = 0 → Ev (f x y e) (x, y, k1, k2, 0)) (h1 : e ≠ 0 → Ev (f x y e) (0, 0, 0, 0, e)) : Ev (f x y e) (told (x, y, e) k1 k2) := by
  unfold told
  by_cases h : e = 0
  · rw [if_pos (show (x, y, e).2.2 = 0 from h)]
    exact h0 h
  · rw [if_neg (show ¬ (x, y, e).2.2 = 0 from h)]
    exact h1 h
omit hB hMl in
theorem go_word (hk : kindOf key = 2) : ∃ r, Ev (fun k => move_Go.f k s a reg count oper key wide rune k1 k2 M) r ∧ Ev (fun k => quillref15_Go.f k (runesOf s) a reg count oper key wide rune k1 k2 M) r := by
  have hsz := may_size hm
  have hn := runesOf_len s
  have hR : (runesOf s).length ≤ 4000 := by omega
  have hkk := kinds key
  obtain ⟨n1, n2, _⟩ := mx1 hc.1 hc.2
  have hw : WordB key = true := by
    rw [word_kind]
    exact decide_eq_true hk
  have hp := move_prog s (by omega) a key (mx 1 count)
  have hr := move_ref (R := runesOf s) hR (at_ := a) hw n1 n2
  have hok : MoveOk s a key (mx 1 count) = true := by
    unfold MoveOk
    rw [hm, hw, decide_eq_true (show 0 ≤ a ∧ a ≤ ((runesOf s).length : Int) from ⟨a0, a1⟩), decide_eq_true (show 1 ≤ mx 1 count ∧ mx 1 count ≤ 999 from ⟨n1, n2⟩)]
    rfl
  rw [show MoveIs s a key (mx 1 count) = iter (once (runesOf s) key) a (mx 1 count).toNat a from if_pos hok] at hp
  generalize iter (once (runesOf s) key) a (mx 1 count).toNat a = v at hp hr
  by_cases he : key = 101 ∨ key = 69
  · refine ⟨told (v.1, 1, v.2) k1 k2, go_told hm hof a0 a1 hc hk1 hM (by omega) (not_seek (by omega)) ?_, ?_⟩
    · unfold move_goes.f
      refine ev_bindc (kind_is hk) (ev_pos rfl (Ev.bind (a := (v.1, 1, v.2)) ?_ (Ev.now _)))
      unfold move_byWord.f
      refine Ev.bind hp ?_
      by_cases h1 : key = 101
      · exact ev_pos h1 (Ev.now _)
      · exact ev_neg h1 (ev_pos (by omega) (Ev.now _))
    · unfold quillref15_Go.f
      refine Ev.bind (word_ref key) (ev_pos hw (Ev.bind hr ?_))
      have fin : Ev (fun k => quillref15_Go.j0 k v.1 0 v.2 true k1 k2) (told (v.1, 1, v.2) k1 k2) := by
        refine ev_shift ?_
        simp only [quillref15_Go.j0]
        refine ev_pos (by trivial) (told_ev (f := fun x y e _ => if e = 0 then some (x, 1, k1, k2, 0) else some (0, 0, 0, 0, e)) (fun h => ev_pos h (Ev.now _)) (fun h => ev_neg h (Ev.now _)))
      by_cases h1 : key = 101
      · exact ev_pos h1 fin
      · refine ev_neg h1 ?_
        rw [beq_iff_eq.mpr (show key = 69 by omega)]
        exact fin
  · refine ⟨told (v.1, 0, v.2) k1 k2, go_told hm hof a0 a1 hc hk1 hM (by omega) (not_seek (by omega)) ?_, ?_⟩
    · unfold move_goes.f
      refine ev_bindc (kind_is hk) (ev_pos rfl (Ev.bind (a := (v.1, 0, v.2)) ?_ (Ev.now _)))
      unfold move_byWord.f
      exact Ev.bind hp (ev_neg (by omega) (ev_neg (by omega) (Ev.now _)))
    · unfold quillref15_Go.f
      refine Ev.bind (word_ref key) (ev_pos hw (Ev.bind hr (ev_neg (by omega) ?_)))
      rw [beq_eq_false_iff_ne.mpr (show key ≠ 69 by omega)]
      refine ev_shift ?_
      simp only [quillref15_Go.j0]
      exact ev_neg (by decide) (told_ev (f := fun x y e _ => if e = 0 then some (x, y, k1, k2, 0) else some (0, 0, 0, 0, e)) (fun h => ev_pos h (Ev.now _)) (fun h => ev_neg h (Ev.now _)))
omit hm hof hB a0 a1 hc hk1 hMl hM in
/-- The document's way past words, for what is no word's key. -/
theorem ref_rest {R : List Int} {v : Int × Int × Int × Int × Int} (hw : kindOf key ≠ 2) (h3 : kindOf key = 3 → Ev (fun k => quillref15_Go.j1 k R a M (mx 1 count) 0 0 true reg count oper key wide rune k1 k2) v)
    (h4 : kindOf key = 4 → Ev (fun k => quillref15_Go.j1 k R a M (mx 1 count) 0 0 true reg count oper key wide rune k1 k2) v) (h5 : kindOf key ≠ 3 → kindOf key ≠ 4 → Ev (fun k => quillref15_Go.j1 k R a M (mx 1 count) 0 0 false reg count oper key wide rune k1 k2) v) :
    Ev (fun k => quillref15_Go.f k R a reg count oper key wide rune k1 k2 M) v := by
  have hkk := kinds key
  unfold quillref15_Go.f
  refine Ev.bind (word_ref key) (ev_neg ?_ (Ev.bind (seek_ref key) ?_))
  · rw [word_kind]
    exact fun q => hw (of_decide_eq_true q)
  · by_cases hs : SeekB key = true
    · refine ev_pos hs ?_
      rw [hs]
      exact h3 (by have := of_decide_eq_true hs; omega)
    · refine ev_neg hs ?_
      have hs' : ¬ (key = 102 ∨ key = 70 ∨ key = 116 ∨ key = 84) := fun q => hs (decide_eq_true q)
      by_cases h59 : key = 59
      · refine ev_pos h59 ?_
        rw [beq_iff_eq.mpr h59]
        exact h4 (by omega)
      · refine ev_neg h59 ?_
        by_cases h44 : key = 44
        · rw [beq_iff_eq.mpr h44]
          exact h4 (by omega)
        · rw [beq_eq_false_iff_ne.mpr h44]
          exact h5 (by omega) (by omega)
omit hm hof hB a0 a1 hc hk1 hMl hM in
theorem j2_fin {R : List Int} {x : Int × Int} {key' r' q1 q2 n : Int} (hf : Ev (fun k => quillref10_Find.f k R a key' r' n) x) : Ev (fun k => quillref15_Go.j2 k R a n 0 key' r' q1 q2) (told (x.1, kdS key', x.2) q1 q2) := by
  refine ev_shift ?_
  simp only [quillref15_Go.j2]
  refine Ev.bind hf ?_
  have one : Ev (fun k => quillref15_Go.j3 k x.1 0 x.2 true q1 q2) (told (x.1, 1, x.2) q1 q2) := by
    refine ev_shift ?_
    simp only [quillref15_Go.j3]
    exact ev_pos (by trivial) (told_ev (f := fun x y e _ => if e = 0 then some (x, 1, q1, q2, 0) else some (0, 0, 0, 0, e)) (fun h => ev_pos h (Ev.now _)) (fun h => ev_neg h (Ev.now _)))
  by_cases h1 : key' = 102
  · rw [show kdS key' = 1 from if_pos (.inl h1)]
    exact ev_pos h1 one
  · refine ev_neg h1 ?_
    by_cases h2 : key' = 116
    · rw [show kdS key' = 1 from if_pos (.inr h2), beq_iff_eq.mpr h2]
      exact one
    · rw [show kdS key' = 0 from if_neg (by omega), beq_eq_false_iff_ne.mpr h2]
      refine ev_shift ?_
      simp only [quillref15_Go.j3]
      exact ev_neg (by decide) (told_ev (f := fun x y e _ => if e = 0 then some (x, y, q1, q2, 0) else some (0, 0, 0, 0, e)) (fun h => ev_pos h (Ev.now _)) (fun h => ev_neg h (Ev.now _)))
omit hMl in
theorem go_seek (hk : kindOf key = 3) : ∃ r, Ev (fun k => move_Go.f k s a reg count oper key wide rune k1 k2 M) r ∧ Ev (fun k => quillref15_Go.f k (runesOf s) a reg count oper key wide rune k1 k2 M) r := by
  have hkk := kinds key
  obtain ⟨n1, n2, _⟩ := mx1 hc.1 hc.2
  have hs : key = 102 ∨ key = 70 ∨ key = 116 ∨ key = 84 := by omega
  obtain ⟨v, v1, v2, _⟩ := find_both hm hof hB a0 a1 (r := rune) hs n1 n2
  refine ⟨told (v.1, kdS key, v.2) key rune, ?_, ref_rest (by omega) (fun _ => ?_) (fun q => by omega) (fun q => by omega)⟩
  · have hg : Ev (fun k => move_goes.f k s a reg count oper key wide rune k1 k2 M) (v.1, kdS key, v.2) := by
      unfold move_goes.f
      exact ev_bindc (kind_is hk) (ev_neg (by decide) (ev_pos rfl (Ev.bind (found_ev (a := a) v1) (Ev.now _))))
    have h := go_ok hm hof a0 a1 (by omega) hc hk1 hM hg
    rw [if_pos (show SeekB key = true from decide_eq_true hs)] at h
    exact h
  · refine ev_shift ?_
    simp only [quillref15_Go.j1]
    exact ev_pos (by trivial) (Ev.bind (seek_ref key) (ev_pos (decide_eq_true hs) (j2_fin v2)))
omit hMl in
theorem go_again (hk : kindOf key = 4) : ∃ r, Ev (fun k => move_Go.f k s a reg count oper key wide rune k1 k2 M) r ∧ Ev (fun k => quillref15_Go.f k (runesOf s) a reg count oper key wide rune k1 k2 M) r := by
  have hkk := kinds key
  obtain ⟨n1, n2, _⟩ := mx1 hc.1 hc.2
  have hs : ¬ SeekB key = true := not_seek (by omega)
  have pre : ∀ {g : Int × Int × Int}, Ev (fun k => move_again.f k s a key k1 k2 (mx 1 count)) g → Ev (fun k => move_Go.f k s a reg count oper key wide rune k1 k2 M) (told g k1 k2) := by
    intro g h
    refine go_told hm hof a0 a1 hc hk1 hM (by omega) hs ?_
    unfold move_goes.f
    exact ev_bindc (kind_is hk) (ev_neg (by decide) (ev_neg (by decide) (ev_pos rfl (Ev.bind h (Ev.now _)))))
  have ref : ∀ {v}, Ev (fun k => if k1 = 0 then (some (0, 0, 0, 0, 6)) else (if key = 44 then ((quillref10_Turned.f k1).bind fun t => (quillref15_Go.j2 k (runesOf s) a (mx 1 count) 0 t k2 k1 k2)) else (quillref15_Go.j2 k (runesOf s) a (mx 1 count) 0 k1 k2 k1 k2))) v → Ev (fun k => quillref15_Go.f k (runesOf s) a reg count oper key wide rune k1 k2 M) v := by
    intro v h
    refine ref_rest (by omega) (fun q => by omega) (fun _ => ?_) (fun _ q => by omega)
    refine ev_shift ?_
    simp only [quillref15_Go.j1]
    exact ev_pos (by trivial) (Ev.bind (seek_ref key) (ev_neg hs h))
  by_cases hz : k1 = 0
  · refine ⟨told (0, 0, 6) k1 k2, pre ?_, ref (ev_pos hz (Ev.now _))⟩
    unfold move_again.f
    exact ev_pos hz (Ev.now _)
  · have hq : k1 = 102 ∨ k1 = 70 ∨ k1 = 116 ∨ k1 = 84 := by
      rcases hk1 with h | h
      · exact absurd h hz
      · exact of_decide_eq_true h
    by_cases h44 : key = 44
    · obtain ⟨t, t1, t2, t3⟩ := turned_both hq
      obtain ⟨v, v1, v2, _⟩ := find_both hm hof hB a0 a1 (r := k2) t1 n1 n2
      refine ⟨told (v.1, kdS t, v.2) k1 k2, pre ?_, ref (ev_neg hz (ev_pos h44 (ev_bindc t3 (j2_fin v2))))⟩
      unfold move_again.f
      exact ev_neg hz (ev_pos h44 (ev_bindc t2 (Ev.bind (found_ev (a := a) v1) (Ev.now _))))
    · obtain ⟨v, v1, v2, _⟩ := find_both hm hof hB a0 a1 (r := k2) hq n1 n2
      refine ⟨told (v.1, kdS k1, v.2) k1 k2, pre ?_, ref (ev_neg hz (ev_neg h44 (j2_fin v2)))⟩
      unfold move_again.f
      exact ev_neg hz (ev_neg h44 (Ev.bind (found_ev (a := a) v1) (Ev.now _)))
omit hMl in
theorem go_paras (hk : kindOf key = 5) : ∃ r, Ev (fun k => move_Go.f k s a reg count oper key wide rune k1 k2 M) r ∧ Ev (fun k => quillref15_Go.f k (runesOf s) a reg count oper key wide rune k1 k2 M) r := by
  have hkk := kinds key
  obtain ⟨n1, n2, _⟩ := mx1 hc.1 hc.2
  obtain ⟨v, v1, v2, _⟩ := paras_both hm hof hB a0 a1 (key := key) (by omega) n1 n2
  refine ⟨told (v.1, 0, v.2) k1 k2, go_told hm hof a0 a1 hc hk1 hM (by omega) (not_seek (by omega)) ?_, ref_rest (by omega) (fun q => by omega) (fun q => by omega) (fun _ _ => ?_)⟩
  · unfold move_goes.f
    exact ev_bindc (kind_is hk) (ev_neg (by decide) (ev_neg (by decide) (ev_neg (by decide) (ev_pos rfl (Ev.bind v1 (Ev.now _))))))
  · refine ev_shift ?_
    simp only [quillref15_Go.j1]
    have fin : Ev (fun k => quillref15_Go.j4 k (runesOf s) a M (mx 1 count) 0 0 true reg count oper key wide rune k1 k2) (told (v.1, 0, v.2) k1 k2) := by
      refine ev_shift ?_
      simp only [quillref15_Go.j4]
      exact ev_pos (by trivial) (Ev.bind v2 (told_ev (f := fun x y e _ => if e = 0 then some (x, y, k1, k2, 0) else some (0, 0, 0, 0, e)) (fun h => ev_pos h (Ev.now _)) (fun h => ev_neg h (Ev.now _))))
    refine ev_neg (by decide) ?_
    by_cases h : key = 123
    · refine ev_pos h ?_
      rw [beq_iff_eq.mpr h]
      exact fin
    · refine ev_neg h ?_
      rw [beq_iff_eq.mpr (show key = 125 by omega)]
      exact fin
omit hm hof hB a0 a1 hc hk1 hMl hM in
/-- The document's way past paragraphs. -/
theorem ref_far {R : List Int} {v : Int × Int × Int × Int × Int} (hw : kindOf key ≠ 2) (h3 : kindOf key ≠ 3) (h4 : kindOf key ≠ 4) (h5 : kindOf key ≠ 5) (h : Ev (fun k => quillref15_Go.j4 k R a M (mx 1 count) 0 0 false reg count oper key wide rune k1 k2) v) :
    Ev (fun k => quillref15_Go.f k R a reg count oper key wide rune k1 k2 M) v := by
  have hkk := kinds key
  refine ref_rest hw (fun q => absurd q h3) (fun q => absurd q h4) (fun _ _ => ?_)
  refine ev_shift ?_
  simp only [quillref15_Go.j1]
  refine ev_neg (by decide) (ev_neg (by omega) ?_)
  rw [beq_eq_false_iff_ne.mpr (show key ≠ 125 by omega)]
  exact h
omit hMl in
theorem go_pairs (hk : kindOf key = 6) : ∃ r, Ev (fun k => move_Go.f k s a reg count oper key wide rune k1 k2 M) r ∧ Ev (fun k => quillref15_Go.f k (runesOf s) a reg count oper key wide rune k1 k2 M) r := by
  have hkk := kinds key
  obtain ⟨m, m1, m2, _⟩ := pairs_both hm hof hB a0 a1
  have pre : ∀ {g : Int × Int}, Ev (fun k => pairs_Move.f k s a) g → Ev (fun k => move_Go.f k s a reg count oper key wide rune k1 k2 M) (told (g.1, 1, g.2) k1 k2) := by
    intro g h
    refine go_told hm hof a0 a1 hc hk1 hM (by omega) (not_seek (by omega)) ?_
    unfold move_goes.f
    exact ev_bindc (kind_is hk) (ev_neg (by decide) (ev_neg (by decide) (ev_neg (by decide) (ev_neg (by decide) (ev_pos rfl (Ev.bind h (Ev.now _)))))))
  by_cases h : m < 0
  · rw [if_pos h] at m1
    refine ⟨_, pre m1, ref_far (by omega) (by omega) (by omega) (by omega) (ev_shift ?_)⟩
    simp only [quillref15_Go.j4]
    exact ev_neg (by decide) (ev_pos (by omega) (Ev.bind m2 (ev_pos h (Ev.now _))))
  · rw [if_neg h] at m1
    refine ⟨_, pre m1, ref_far (by omega) (by omega) (by omega) (by omega) (ev_shift ?_)⟩
    simp only [quillref15_Go.j4]
    exact ev_neg (by decide) (ev_pos (by omega) (Ev.bind m2 (ev_neg h (ev_pos (by trivial) (Ev.now _)))))
omit hMl in
theorem go_lines (hk : kindOf key = 1) : ∃ r, Ev (fun k => move_Go.f k s a reg count oper key wide rune k1 k2 M) r ∧ Ev (fun k => quillref15_Go.f k (runesOf s) a reg count oper key wide rune k1 k2 M) r := by
  have hkk := kinds key
  obtain ⟨v, v1, v2, _⟩ := lines_both hm hof hB a0 a1 (key := key) (by unfold LineK; omega) hc.1 hc.2
  refine ⟨told v k1 k2, go_told hm hof a0 a1 hc hk1 hM (by omega) (not_seek (by omega)) ?_, ref_far (by omega) (by omega) (by omega) (by omega) (ev_shift ?_)⟩
  · unfold move_goes.f
    exact ev_bindc (kind_is hk) (ev_neg (by decide) (ev_neg (by decide) (ev_neg (by decide) (ev_neg (by decide) (ev_neg (by decide) (ev_neg (by decide) (Ev.bind v1 (Ev.now _))))))))
  · simp only [quillref15_Go.j4]
    refine ev_neg (by decide) (ev_neg (by omega) (ev_neg (by omega) ?_))
    rw [beq_eq_false_iff_ne.mpr (show key ≠ 96 by omega)]
    refine ev_shift ?_
    simp only [quillref15_Go.j5]
    refine ev_neg (by decide) (Ev.bind v2 ?_)
    obtain ⟨x, y, e⟩ := v
    exact told_ev (f := fun x y e _ => if e = 0 then some (x, y, k1, k2, 0) else some (0, 0, 0, 0, e)) (fun h => ev_pos h (Ev.now _)) (fun h => ev_neg h (Ev.now _))
theorem go_mark (hk : kindOf key = 7) : ∃ r, Ev (fun k => move_Go.f k s a reg count oper key wide rune k1 k2 M) r ∧ Ev (fun k => quillref15_Go.f k (runesOf s) a reg count oper key wide rune k1 k2 M) r := by
  have hsz := may_size hm
  have hn := runesOf_len s
  have hR : (runesOf s).length ≤ 4000 := by omega
  have hkk := kinds key
  obtain ⟨p, p1, p2, p3⟩ := get_loop M hMl rune M.length 0 (by decide) (by omega)
  have pre : ∀ {g : Int × Int × Int}, Ev (fun k => move_marked.f k s reg count oper key wide rune M) g → Ev (fun k => move_Go.f k s a reg count oper key wide rune k1 k2 M) (told g k1 k2) := by
    intro g h
    refine go_told hm hof a0 a1 hc hk1 hM (by omega) (not_seek (by omega)) ?_
    unfold move_goes.f
    exact ev_bindc (kind_is hk) (ev_neg (by decide) (ev_neg (by decide) (ev_neg (by decide) (ev_neg (by decide) (ev_neg (by decide) (ev_pos rfl (Ev.bind h (Ev.now _))))))))
  have ref : ∀ {v}, Ev (fun k => (quillref6_Get.f k M rune).bind fun t => (if t < 0 then (quillref15_Go.j6 k (runesOf s) t 0 0 true reg count oper key wide rune k1 k2) else (quillref15_Go.j6 k (runesOf s) t 0 0 (decide (t > ((runesOf s).length : Int))) reg count oper key wide rune k1 k2))) v → Ev (fun k => quillref15_Go.f k (runesOf s) a reg count oper key wide rune k1 k2 M) v := by
    intro v h
    refine ref_far (by omega) (by omega) (by omega) (by omega) (ev_shift ?_)
    simp only [quillref15_Go.j4]
    have fin : Ev (fun k => quillref15_Go.j5 k (runesOf s) a M 0 0 true reg count oper key wide rune k1 k2) v := by
      refine ev_shift ?_
      simp only [quillref15_Go.j5]
      exact ev_pos (by trivial) h
    refine ev_neg (by decide) (ev_neg (by omega) ?_)
    by_cases h39 : key = 39
    · refine ev_pos h39 ?_
      rw [beq_iff_eq.mpr h39]
      exact fin
    · refine ev_neg h39 ?_
      rw [beq_iff_eq.mpr (show key = 96 by omega)]
      exact fin
  have rbad : ∀ t : Int, Ev (fun k => quillref15_Go.j6 k (runesOf s) t 0 0 true reg count oper key wide rune k1 k2) (0, 0, 0, 0, 6) := by
    intro t
    refine ev_shift ?_
    simp only [quillref15_Go.j6]
    exact ev_pos (by trivial) (Ev.now _)
  have pbad : ∀ t : Int, Ev (fun k => move_marked.j0 k t true reg count oper key wide rune (runesOf s) B) (0, 0, 6) := by
    intro t
    refine ev_shift ?_
    simp only [move_marked.j0]
    exact ev_pos (by trivial) (Ev.now _)
  by_cases hp : p < 0
  · rw [if_pos hp] at p2
    refine ⟨told (0, 0, 6) k1 k2, pre ?_, ref (Ev.bind p2 (ev_pos (by decide) (rbad _)))⟩
    unfold move_marked.f
    refine Ev.bind hof (Ev.bind (a := (0, 3)) ?_ (ev_neg (by decide) (pbad _)))
    unfold marks_Get.f
    exact Ev.bind hM (ev_pos (by trivial) (Ev.bind p1 (ev_neg (by omega) (Ev.now _))))
  · rw [if_neg hp] at p2
    generalize ht : (rd_T89 M p).f1 = t at p2
    have hget : Ev (fun k => marks_Get.f k M rune) (t, 0) := by
      unfold marks_Get.f
      refine Ev.bind hM (ev_pos (by trivial) (Ev.bind p1 (ev_pos (by omega) (ev_pos (by omega) (ev_pos (by omega) ?_)))))
      rw [ht]
      exact Ev.now _
    by_cases hin : 0 ≤ t ∧ t ≤ ((runesOf s).length : Int)
    · obtain ⟨j, g1, j0, j1, h0, h1⟩ := row_ev hB hR hin.1 hin.2
      obtain ⟨v, f1, _, _, f4⟩ := first_both hB hR j0 j1
      have pgo : ∀ {g : Int × Int × Int}, Ev (fun k => if key = 96 then (some (t, 0, 0)) else ((text_Map_Row.f k (runesOf s) B t).bind fun q => ((text_Map_First.f k (runesOf s) B q).bind fun z => (some (z, 2, 0))))) g → Ev (fun k => move_marked.f k s reg count oper key wide rune M) g := by
        intro g h
        unfold move_marked.f
        refine Ev.bind hof (Ev.bind hget (ev_pos rfl (ev_bindc (map_is _ _ _) ?_)))
        rw [decide_eq_true hin]
        refine ev_shift ?_
        simp only [move_marked.j0]
        exact ev_neg (by decide) h
      have rgo : ∀ {v}, Ev (fun k => if key = 39 then ((quillref1_First.f k (runesOf s) t).bind fun z => (if (0 : Int) = 0 then (some (z, 2, k1, k2, 0)) else (some (0, 0, 0, 0, 0)))) else (if (0 : Int) = 0 then (some (t, 0, k1, k2, 0)) else (some (0, 0, 0, 0, 0)))) v → Ev (fun k => quillref15_Go.f k (runesOf s) a reg count oper key wide rune k1 k2 M) v := by
        intro v h
        refine ref (Ev.bind p2 (ev_neg (by omega) ?_))
        rw [decide_eq_false (show ¬ t > ((runesOf s).length : Int) by omega)]
        refine ev_shift ?_
        simp only [quillref15_Go.j6]
        exact ev_neg (by decide) h
      by_cases h96 : key = 96
      · exact ⟨told (t, 0, 0) k1 k2, pre (pgo (ev_pos h96 (Ev.now _))), rgo (ev_neg (by omega) (ev_pos rfl (Ev.now _)))⟩
      · exact ⟨told (v, 2, 0) k1 k2, pre (pgo (ev_neg h96 (Ev.bind g1 (Ev.bind f1 (Ev.now _))))), rgo (ev_pos (by omega) (Ev.bind (f4 _ h0 h1) (ev_pos rfl (Ev.now _))))⟩
    · have hpm : Ev (fun k => move_marked.f k s reg count oper key wide rune M) (0, 0, 6) := by
        unfold move_marked.f
        refine Ev.bind hof (Ev.bind hget (ev_pos rfl (ev_bindc (map_is _ _ _) ?_)))
        rw [decide_eq_false hin]
        exact pbad _
      refine ⟨told (0, 0, 6) k1 k2, pre hpm, ref (Ev.bind p2 ?_)⟩
      by_cases hneg : t < 0
      · exact ev_pos hneg (rbad _)
      · refine ev_neg hneg ?_
        rw [decide_eq_true (show t > ((runesOf s).length : Int) by omega)]
        exact rbad _
/-- Any motion that may be. -/
theorem go_both (hk : kindOf key ≠ 0) : ∃ r, Ev (fun k => move_Go.f k s a reg count oper key wide rune k1 k2 M) r ∧ Ev (fun k => quillref15_Go.f k (runesOf s) a reg count oper key wide rune k1 k2 M) r := by
  have hkk := kinds key
  rcases hkk with h | h | h | h | h | h | h | h
  · exact go_lines hm hof hB a0 a1 hc hk1 hM h.1
  · exact go_word hm hof a0 a1 hc hk1 hM h.1
  · exact go_seek hm hof hB a0 a1 hc hk1 hM h.1
  · exact go_again hm hof hB a0 a1 hc hk1 hM h.1
  · exact go_paras hm hof hB a0 a1 hc hk1 hM h.1
  · exact go_pairs hm hof hB a0 a1 hc hk1 hM h.1
  · exact go_mark hm hof hB a0 a1 hc hk1 hMl hM h.1
  · exact absurd h.1 hk
end
end Go.Proofs.YtbgmmcngkdhpcaaDoor.P
end
