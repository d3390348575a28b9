/- Plain facts on words, the document's side: its cells are the program's; where a cell begins or ends a word is told by its place. Conditions: none. -/
import Derived.Test.YtdcbaiimojnlnaaDoorLQb
import Derived.Test.YtdcbaiimojnlnaaDoorP0
import Derived.Test.YtdcbaiimojnlnaaDoorP6
namespace Go.Proofs.YtdcbaiimojnlnaaDoor.P
open Go.RowKit Go.Proofs.YtdcbaiimojnlnaaDoor Go.Proofs.YtdcbaiimojnlnaaDoorW.PrintWords Go.Proofs.YtdcbaiimojnlnaaDoorW.PrintLast Go.Proofs.YtdcbaiimojnlnaaDoorW.PrintMore
section
variable {R : List Int} {big : Bool}
def atsOf (l : List S56) : List Int := l.map (·.f0)
def clsOf (l : List S56) : List Int := l.map (·.f1)
theorem atsOf_snoc (l : List S56) (c : S56) : atsOf (l ++ [c]) = atsOf l ++ [c.f0] := by simp [atsOf]
theorem clsOf_snoc (l : List S56) (c : S56) : clsOf (l ++ [c]) = clsOf l ++ [c.f1] := by simp [clsOf]
theorem atsOf_len (l : List S56) : (atsOf l).length = l.length := by simp [atsOf]
theorem clsOf_len (l : List S56) : (clsOf l).length = l.length := by simp [clsOf]
theorem ref_cells_loop (hR : R.length ≤ 4000) (d : Nat) : ∀ i : Nat, i + d = R.length + 1 →
    Ev (fun k => quillref10_Cells.l0 k R big (atsOf (cellsTo R big i)) (clsOf (cellsTo R big i)) (i : Int)) (atsOf (cellsOf R big), clsOf (cellsOf R big)) := by
  induction d with
  | zero =>
    intro i hi
    obtain rfl : i = R.length + 1 := by omega
    refine ev_shift ?_
    simp only [quillref10_Cells.l0]
    exact ev_neg (by omega) (Ev.now _)
  | succ d ih =>
    intro i hi
    have hl := cellsTo_len R big i
    have hla := atsOf_len (cellsTo R big i)
    have hlc := clsOf_len (cellsTo R big i)
    have h2 := ih (i + 1) (by omega)
    simp only [cellsTo] at h2
    refine ev_shift ?_
    simp only [quillref10_Cells.l0]
    refine ev_pos (by omega) ?_
    by_cases hnl : (i : Int) = R.length ∨ rd R i = 10
    · have key : Ev (fun k => quillref10_Cells.j1 k R big (atsOf (cellsTo R big i)) (clsOf (cellsTo R big i)) (i : Int) true) (atsOf (cellsOf R big), clsOf (cellsOf R big)) := by
        refine ev_shift ?_
        simp only [quillref10_Cells.j1]
        refine ev_pos (by decide) ?_
        obtain ⟨b, h3, h4⟩ := begin_ev hR (i := i) (by omega) (by omega)
        refine Ev.bind h3 ?_
        by_cases hb : (i : Int) = 0 ∨ rd R ((i : Int) - 1) = 10
        · obtain rfl : b = i := h4.uniq ⟨by omega, Int.le_refl _, hb, fun j a c => by omega⟩
          rw [cellAt_bare hnl hb, atsOf_snoc, clsOf_snoc] at h2
          refine ev_pos rfl (ev_pos (by omega) (ev_pos (by omega) ?_))
          rw [w64 (x := (i : Int) + 1) (by omega) (by omega)]
          exact_mod_cast h2
        · rw [cellAt_none hnl hb, List.append_nil] at h2
          refine ev_neg (fun e => ?_) ?_
          · rw [e] at h4
            exact hb h4.2.2.1
          · rw [w64 (x := (i : Int) + 1) (by omega) (by omega)]
            exact_mod_cast h2
      by_cases e : (i : Int) = R.length
      · exact ev_pos e key
      · refine ev_neg e (ev_pos (by omega) (ev_pos (by omega) ?_))
        rw [show (rd R i == 10) = true from beq_iff_eq.2 (hnl.resolve_left e)]
        exact key
    · refine ev_neg (fun e => hnl (.inl e)) (ev_pos (by omega) (ev_pos (by omega) ?_))
      rw [show (rd R i == 10) = false from beq_eq_false_iff_ne.2 fun e => hnl (.inr e)]
      refine ev_shift ?_
      simp only [quillref10_Cells.j1]
      refine ev_neg (by decide) (ev_pos (by omega) (ev_pos (by omega) (Ev.bind (class_ref _) ?_)))
      rw [cellAt_rune hnl, atsOf_snoc, clsOf_snoc] at h2
      simp only [clsb] at h2
      have e1 : wrap64 ((i : Int) + 1) = ((i + 1 : Nat) : Int) := by rw [w64 (by omega) (by omega)]; omega
      rw [e1]
      cases big
      · rw [if_neg (by simp)] at h2
        exact ev_neg (by decide) (ev_pos (by omega) (ev_pos (by omega) h2))
      · refine ev_pos rfl ?_
        by_cases hc : cls (wrap64 (rd R i)) = 2
        · rw [if_pos ⟨rfl, hc⟩] at h2
          exact ev_pos hc (ev_pos (by omega) (ev_pos (by omega) h2))
        · rw [if_neg (fun z => hc z.2)] at h2
          exact ev_neg hc (ev_pos (by omega) (ev_pos (by omega) h2))
theorem cells_ref (hR : R.length ≤ 4000) (big : Bool) : Ev (fun k => quillref10_Cells.f k R big) (atsOf (cellsOf R big), clsOf (cellsOf R big)) := by
  have h := ref_cells_loop (big := big) hR (R.length + 1) 0 (by omega)
  exact h
/-! ### where the cell of a place stands -/
theorem cellsTo_prefix (i : Nat) : ∀ d, ∃ t, cellsTo R big (i + d) = cellsTo R big i ++ t
  | 0 => ⟨[], by simp⟩
  | d + 1 => by
    obtain ⟨t, ht⟩ := cellsTo_prefix i d
    exact ⟨t ++ cellAt R big (i + d), by show cellsTo R big (i + d) ++ cellAt R big (i + d) = _; rw [ht, List.append_assoc]⟩
def idx (R : List Int) (big : Bool) (p : Nat) : Nat := (cellsTo R big p).length
theorem idx_mono (p : Nat) (d : Nat) : idx R big p ≤ idx R big (p + d) := by
  obtain ⟨t, ht⟩ := cellsTo_prefix (R := R) (big := big) p d
  unfold idx
  rw [ht, List.length_append]
  omega
theorem idx_le {p q : Nat} (h : p ≤ q) : idx R big p ≤ idx R big q := by
  have := idx_mono (R := R) (big := big) p (q - p)
  rwa [show p + (q - p) = q by omega] at this
theorem idx_lt {p q : Nat} (h : idx R big p < idx R big q) : p < q := by
  rcases Nat.lt_or_ge p q with h1 | h1
  · exact h1
  · have := idx_le (R := R) (big := big) h1; omega
/-- The cell of a place, where it stands. -/
theorem at_idx {p : Nat} {c : S56} (hp : p ≤ R.length) (h : cellAt R big p = [c]) : (cellsOf R big)[idx R big p]? = some c := by
  obtain ⟨t, ht⟩ := cellsTo_prefix (R := R) (big := big) (p + 1) (R.length - p)
  rw [show p + 1 + (R.length - p) = R.length + 1 by omega] at ht
  unfold cellsOf idx
  rw [ht]
  show (cellsTo R big p ++ cellAt R big p ++ t)[_]? = _
  rw [h, List.append_assoc, List.getElem?_append_right (Nat.le_refl _)]
  simp
theorem of_idx (i : Nat) : ∀ k, k < (cellsTo R big i).length → ∃ p, p < i ∧ idx R big p = k ∧ ∃ c, cellAt R big p = [c] ∧ (cellsTo R big i)[k]? = some c := by
  induction i with
  | zero => intro k hk; simp [cellsTo] at hk
  | succ i ih =>
    intro k hk
    simp only [cellsTo, List.length_append] at hk ⊢
    rcases Nat.lt_or_ge k (cellsTo R big i).length with h | h
    · obtain ⟨p, h1, h2, c, h3, h4⟩ := ih k h
      exact ⟨p, by omega, h2, c, h3, by rw [List.getElem?_append_left h]; exact h4⟩
    · have hl := cellAt_len R big i
      obtain ⟨c, hc⟩ : ∃ c, cellAt R big i = [c] := List.length_eq_one_iff.1 (by omega)
      refine ⟨i, by omega, ?_, c, hc, ?_⟩
      · unfold idx; rw [hc] at hk; simp at hk; omega
      · rw [hc, List.getElem?_append_right h, show k - (cellsTo R big i).length = 0 by rw [hc] at hk; simp at hk; omega]
        rfl
theorem rd_cell {l : List S56} {k : Int} {j : Nat} {c : S56} (hk : k = j) (h : l[j]? = some c) : rd_T56 l k = c := by
  subst hk
  unfold rd_T56
  rw [List.getD_eq_getElem?_getD, show ((j : Int)).toNat = j from rfl, h]
  rfl
theorem rd_ats {l : List S56} {k : Int} {j : Nat} {c : S56} (hk : k = j) (h : l[j]? = some c) : rd (atsOf l) k = c.f0 := by
  subst hk
  unfold rd atsOf
  rw [List.getD_eq_getElem?_getD, show ((j : Int)).toNat = j from rfl, List.getElem?_map, h]
  rfl
theorem rd_cls {l : List S56} {k : Int} {j : Nat} {c : S56} (hk : k = j) (h : l[j]? = some c) : rd (clsOf l) k = c.f1 := by
  subst hk
  unfold rd clsOf
  rw [List.getD_eq_getElem?_getD, show ((j : Int)).toNat = j from rfl, List.getElem?_map, h]
  rfl
/-- Does a cell begin a word; does it end one? -/
def bP (R : List Int) (big : Bool) (c : S56) : Bool := decide (c.f1 ≠ 0) && (c.f2 || (clsb big (wrap64 (rd R (c.f0 - 1))) != c.f1))
def eP (R : List Int) (big : Bool) (c : S56) : Bool := decide (c.f1 ≠ 0) && (c.f3 || (clsb big (wrap64 (rd R (c.f0 + 1))) != c.f1))
/-- What is known of the cell number k. -/
theorem cell_at {k : Int} (h0 : 0 ≤ k) (h1 : k < (cellsOf R big).length) : ∃ p : Nat, p ≤ R.length ∧ (idx R big p : Int) = k ∧ ∃ c, cellAt R big p = [c] ∧ rd_T56 (cellsOf R big) k = c ∧ rd (atsOf (cellsOf R big)) k = p ∧ rd (clsOf (cellsOf R big)) k = c.f1 ∧ c.f0 = p := by
  obtain ⟨p, h2, h3, c, h4, h5⟩ := of_idx (R := R) (big := big) (R.length + 1) k.toNat (by unfold cellsOf at h1; omega)
  have hk : k = (k.toNat : Nat) := by omega
  have hf : c.f0 = p := by
    unfold cellAt at h4
    split at h4
    · split at h4
      · obtain rfl := (List.cons.inj h4).1; rfl
      · cases h4
    · obtain rfl := (List.cons.inj h4).1; rfl
  refine ⟨p, by omega, by omega, c, h4, rd_cell hk h5, ?_, rd_cls hk h5, hf⟩
  rw [rd_ats (l := cellsOf R big) hk h5]; exact hf
theorem begins_prog (hR : R.length ≤ 4000) {k : Int} (h0 : 0 ≤ k) (h1 : k < (cellsOf R big).length) : words_begins.f (cellsOf R big) k = some (bP R big (rd_T56 (cellsOf R big) k)) := by
  obtain ⟨p, hp, hi, c, hc, e1, -, -, hf⟩ := cell_at h0 h1
  have hl : ((cellsOf R big).length : Int) ≤ R.length + 1 := by have := cellsTo_len R big (R.length + 1); unfold cellsOf; omega
  unfold words_begins.f bP
  rw [if_pos h0, if_pos h1, e1]
  by_cases hz : c.f1 = 0
  · rw [if_pos hz, decide_eq_false (by simpa using hz)]; rfl
  · rw [if_neg hz, decide_eq_true hz, Bool.true_and]
    by_cases h2 : c.f2 = true
    · rw [if_pos h2, h2, Bool.true_or]
    · rw [if_neg h2]
      replace h2 := Bool.eq_false_iff.2 h2
      rw [h2, Bool.false_or]
      unfold cellAt at hc
      split at hc
      · split at hc
        · obtain rfl := (List.cons.inj hc).1; cases h2
        · cases hc
      · obtain rfl := (List.cons.inj hc).1
        replace h2 := of_decide_eq_false h2
        have hp1 : p ≠ 0 := fun e => h2 (.inl (by omega))
        obtain ⟨q, rfl⟩ : ∃ q, p = q + 1 := ⟨p - 1, by omega⟩
        have hq : ¬ ((q : Int) = R.length ∨ rd R q = 10) := fun h => h.elim (fun h => by omega) (fun h => h2 (.inr (by rw [show ((q + 1 : Nat) : Int) - 1 = q by omega]; exact h)))
        have hcq := cellAt_rune (big := big) hq
        have hx := at_idx (by omega) hcq
        have hi2 : idx R big (q + 1) = idx R big q + 1 := by
          unfold idx
          simp only [cellsTo, List.length_append]
          rw [hcq]; rfl
        have hk1 : wrap64 (k - 1) = (idx R big q : Nat) := by rw [w64 (by omega) (by omega)]; omega
        rw [hk1, if_pos (by omega), if_pos (by omega), rd_cell rfl hx]
        simp only [show ((q + 1 : Nat) : Int) - 1 = q by omega]
theorem ends_prog (hR : R.length ≤ 4000) {k : Int} (h0 : 0 ≤ k) (h1 : k < (cellsOf R big).length) : words_ends.f (cellsOf R big) k = some (eP R big (rd_T56 (cellsOf R big) k)) := by
  obtain ⟨p, hp, hi, c, hc, e1, -, -, hf⟩ := cell_at h0 h1
  have hl : ((cellsOf R big).length : Int) ≤ R.length + 1 := by have := cellsTo_len R big (R.length + 1); unfold cellsOf; omega
  unfold words_ends.f eP
  rw [if_pos h0, if_pos h1, e1]
  by_cases hz : c.f1 = 0
  · rw [if_pos hz, decide_eq_false (by simpa using hz)]; rfl
  · rw [if_neg hz, decide_eq_true hz, Bool.true_and]
    by_cases h2 : c.f3 = true
    · rw [if_pos h2, h2, Bool.true_or]
    · rw [if_neg h2]
      replace h2 := Bool.eq_false_iff.2 h2
      rw [h2, Bool.false_or]
      unfold cellAt at hc
      split at hc
      · split at hc
        · obtain rfl := (List.cons.inj hc).1; cases h2
        · cases hc
      · rename_i hpn
        have hc0 := cellAt_rune (big := big) hpn
        obtain rfl := (List.cons.inj hc).1
        replace h2 := of_decide_eq_false h2
        have hpl : (p : Int) < R.length := by have : (p : Int) ≠ R.length := fun e => hpn (.inl e); omega
        have hq : ¬ (((p + 1 : Nat) : Int) = R.length ∨ rd R ((p + 1 : Nat) : Int) = 10) := fun h => h2 (by rw [show ((p + 1 : Nat) : Int) = (p : Int) + 1 by omega] at h; exact h)
        have hcq := cellAt_rune (big := big) hq
        have hx := at_idx (by omega) hcq
        have hi2 : idx R big (p + 1) = idx R big p + 1 := by
          unfold idx
          simp only [cellsTo, List.length_append]
          rw [hc0]; rfl
        have hk1 : wrap64 (k + 1) = (idx R big (p + 1) : Nat) := by rw [w64 (by omega) (by omega)]; omega
        have hlt : idx R big (p + 1) < (cellsOf R big).length := (List.getElem?_eq_some_iff.1 hx).1
        rw [hk1, if_pos (by omega), if_pos (by omega), rd_cell rfl hx]
        simp only [show ((p + 1 : Nat) : Int) = (p : Int) + 1 by omega]
theorem edge_begin (hR : R.length ≤ 4000) {k : Int} (h0 : 0 ≤ k) (h1 : k < (cellsOf R big).length) : quillref10_edge.f (atsOf (cellsOf R big)) (clsOf (cellsOf R big)) k (-1) = some (bP R big (rd_T56 (cellsOf R big) k)) := by
  obtain ⟨p, hp, hi, c, hc, e1, e2, e3, hf⟩ := cell_at h0 h1
  have hl : ((cellsOf R big).length : Int) ≤ R.length + 1 := by have := cellsTo_len R big (R.length + 1); unfold cellsOf; omega
  have hla := atsOf_len (cellsOf R big)
  have hlc := clsOf_len (cellsOf R big)
  unfold quillref10_edge.f bP
  rw [if_pos h0, if_pos (by omega), e1, e3]
  by_cases hz : c.f1 = 0
  · rw [if_pos hz, hz, decide_eq_false (by simp)]; rfl
  · rw [if_neg hz, decide_eq_true hz, Bool.true_and]
    unfold cellAt at hc
    split at hc
    · split at hc
      · obtain rfl := (List.cons.inj hc).1; rfl
      · cases hc
    · rename_i hpn
      obtain rfl := (List.cons.inj hc).1
      have hcr := clsb_range big (wrap64 (rd R p))
      simp only
      rw [if_neg (show ¬ clsb big (wrap64 (rd R p)) = 3 by omega), show k + -1 = k - 1 by omega, w64 (x := k - 1) (by omega) (by omega)]
      by_cases hk : k - 1 < 0
      · rw [if_pos hk]
        congr 1
        symm
        rw [Bool.or_eq_true]
        left
        refine decide_eq_true ?_
        by_cases hb : (p : Int) = 0 ∨ rd R ((p : Int) - 1) = 10
        · exact hb
        · exfalso
          obtain ⟨q, rfl⟩ : ∃ q, p = q + 1 := ⟨p - 1, by have : p ≠ 0 := fun e => hb (.inl (by omega)); omega⟩
          have hq : ¬ ((q : Int) = R.length ∨ rd R q = 10) := fun h => h.elim (fun h => by omega) (fun h => hb (.inr (by rw [show ((q + 1 : Nat) : Int) - 1 = q by omega]; exact h)))
          have hcq := cellAt_rune (big := big) hq
          have hi2 : idx R big (q + 1) = idx R big q + 1 := by
            unfold idx
            simp only [cellsTo, List.length_append]
            rw [hcq]; rfl
          omega
      · rw [if_neg hk, if_neg (by omega), if_pos (by omega), if_pos (by omega), if_pos (by omega), e2, show (p : Int) + -1 = p - 1 by omega, w64 (x := (p : Int) - 1) (by omega) (by omega)]
        obtain ⟨q, hq1, hq2, c', hc', -, g2, g3, hf'⟩ := cell_at (R := R) (big := big) (k := k - 1) (by omega) (by omega)
        rw [g2]
        have hqp : q < p := idx_lt (R := R) (big := big) (by omega)
        by_cases e : (q : Int) = p - 1
        · rw [if_pos e, if_pos (by omega), g3]
          congr 1
          unfold cellAt at hc'
          split at hc'
          · rename_i hnl
            split at hc'
            · obtain rfl := (List.cons.inj hc').1
              have : rd R ((p : Int) - 1) = 10 := by rw [← e]; exact hnl.resolve_left (by omega)
              rw [decide_eq_true (show (p : Int) = 0 ∨ rd R ((p : Int) - 1) = 10 from .inr this), Bool.true_or]
              exact bne_iff_ne.2 (show (3 : Int) ≠ clsb big (wrap64 (rd R p)) by omega)
            · cases hc'
          · rename_i hnl
            obtain rfl := (List.cons.inj hc').1
            rw [decide_eq_false (show ¬ ((p : Int) = 0 ∨ rd R ((p : Int) - 1) = 10) from fun h => h.elim (fun h => by omega) (fun h => hnl (.inr (by rw [e]; exact h)))), Bool.false_or, e]
        · rw [if_neg e]
          congr 1
          symm
          rw [Bool.or_eq_true]
          left
          refine decide_eq_true ?_
          by_cases hb : (p : Int) = 0 ∨ rd R ((p : Int) - 1) = 10
          · exact hb
          · exfalso
            obtain ⟨q', rfl⟩ : ∃ q', p = q' + 1 := ⟨p - 1, by have : p ≠ 0 := fun e => hb (.inl (by omega)); omega⟩
            have hq : ¬ ((q' : Int) = R.length ∨ rd R q' = 10) := fun h => h.elim (fun h => by omega) (fun h => hb (.inr (by rw [show ((q' + 1 : Nat) : Int) - 1 = q' by omega]; exact h)))
            have hcq := cellAt_rune (big := big) hq
            have hi2 : idx R big (q' + 1) = idx R big q' + 1 := by
              unfold idx
              simp only [cellsTo, List.length_append]
              rw [hcq]; rfl
            have hx := at_idx (p := q') (by omega) hcq
            have := rd_ats (k := k - 1) (by omega) hx
            rw [g2] at this
            simp only at this
            omega
theorem edge_end (hR : R.length ≤ 4000) {k : Int} (h0 : 0 ≤ k) (h1 : k < (cellsOf R big).length) : quillref10_edge.f (atsOf (cellsOf R big)) (clsOf (cellsOf R big)) k 1 = some (eP R big (rd_T56 (cellsOf R big) k)) := by
  obtain ⟨p, hp, hi, c, hc, e1, e2, e3, hf⟩ := cell_at h0 h1
  have hl : ((cellsOf R big).length : Int) ≤ R.length + 1 := by have := cellsTo_len R big (R.length + 1); unfold cellsOf; omega
  have hla := atsOf_len (cellsOf R big)
  have hlc := clsOf_len (cellsOf R big)
  unfold quillref10_edge.f eP
  rw [if_pos h0, if_pos (by omega), e1, e3]
  by_cases hz : c.f1 = 0
  · rw [if_pos hz, hz, decide_eq_false (by simp)]; rfl
  · rw [if_neg hz, decide_eq_true hz, Bool.true_and]
    unfold cellAt at hc
    split at hc
    · split at hc
      · obtain rfl := (List.cons.inj hc).1; rfl
      · cases hc
    · rename_i hpn
      have hc0 := cellAt_rune (big := big) hpn
      obtain rfl := (List.cons.inj hc).1
      have hcr := clsb_range big (wrap64 (rd R p))
      have hpl : (p : Int) < R.length := by have : (p : Int) ≠ R.length := fun e => hpn (.inl e); omega
      have hi2 : idx R big (p + 1) = idx R big p + 1 := by
        unfold idx
        simp only [cellsTo, List.length_append]
        rw [hc0]; rfl
      simp only
      rw [if_neg (show ¬ clsb big (wrap64 (rd R p)) = 3 by omega), w64 (x := k + 1) (by omega) (by omega), if_neg (by omega)]
      by_cases hlast : (p : Int) + 1 = R.length ∨ rd R ((p : Int) + 1) = 10
      · rw [decide_eq_true hlast, Bool.true_or]
        by_cases hk : k + 1 ≥ ((atsOf (cellsOf R big)).length : Int)
        · rw [if_pos hk]
        · rw [if_neg hk, if_pos (by omega), if_pos (by omega), if_pos (by omega), e2, w64 (x := (p : Int) + 1) (by omega) (by omega)]
          obtain ⟨q, hq1, hq2, c', hc', -, g2, g3, hf'⟩ := cell_at (R := R) (big := big) (k := k + 1) (by omega) (by omega)
          rw [g2]
          refine if_neg (fun e => ?_)
          obtain rfl : q = p + 1 := by omega
          rw [cellAt_none (by rw [show ((p + 1 : Nat) : Int) = (p : Int) + 1 by omega]; exact hlast) (fun h => h.elim (fun h => by omega) (fun h => hpn (.inr (by rw [show ((p + 1 : Nat) : Int) - 1 = p by omega] at h; exact h))))] at hc'
          cases hc'
      · have hq : ¬ (((p + 1 : Nat) : Int) = R.length ∨ rd R ((p + 1 : Nat) : Int) = 10) := by rw [show ((p + 1 : Nat) : Int) = (p : Int) + 1 by omega]; exact hlast
        have hcq := cellAt_rune (big := big) hq
        have hx := at_idx (p := p + 1) (by omega) hcq
        have hlt : idx R big (p + 1) < (cellsOf R big).length := (List.getElem?_eq_some_iff.1 hx).1
        rw [if_neg (by omega), if_pos (by omega), if_pos (by omega), if_pos (by omega), e2, w64 (x := (p : Int) + 1) (by omega) (by omega), rd_ats (k := k + 1) (by omega) hx, if_pos (by simp), if_pos (by omega), rd_cls (k := k + 1) (by omega) hx, decide_eq_false hlast, Bool.false_or]
        simp only [show ((p + 1 : Nat) : Int) = (p : Int) + 1 by omega]
theorem cells_pos (R : List Int) (big : Bool) : 1 ≤ (cellsOf R big).length := by
  obtain ⟨t, ht⟩ := cellsTo_prefix (R := R) (big := big) 1 R.length
  unfold cellsOf
  rw [Nat.add_comm, ht, List.length_append]
  have : (cellsTo R big 1).length = 1 := by
    simp only [cellsTo, List.nil_append]
    by_cases h : ((0 : Nat) : Int) = R.length ∨ rd R ((0 : Nat) : Int) = 10
    · rw [cellAt_bare h (.inl rfl)]; rfl
    · rw [cellAt_rune h]; rfl
  omega
end
end Go.Proofs.YtdcbaiimojnlnaaDoor.P
