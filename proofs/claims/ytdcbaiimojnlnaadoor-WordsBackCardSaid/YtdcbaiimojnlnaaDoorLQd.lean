/- Plain facts on words: where w, b and e lead, so many times: the program's function and the document's come to the same. Conditions: none. -/
import Derived.Test.YtdcbaiimojnlnaaDoorLQc
import Derived.Test.YtdcbaiimojnlnaaDoorP0
import Derived.Test.YtdcbaiimojnlnaaDoorP2
import Derived.Test.YtdcbaiimojnlnaaDoorP3
import Derived.Test.YtdcbaiimojnlnaaDoorP4
import Derived.Test.YtdcbaiimojnlnaaDoorP5
import Derived.Test.YtdcbaiimojnlnaaDoorP7
namespace Go.Proofs.YtdcbaiimojnlnaaDoor.P
open Go.RowKit Go.Proofs.YtdcbaiimojnlnaaDoor Go.Proofs.YtdcbaiimojnlnaaDoorW.PrintWords Go.Proofs.YtdcbaiimojnlnaaDoorW.PrintLast Go.Proofs.YtdcbaiimojnlnaaDoorW.PrintMore
/-- Is a number in a list? -/
theorem in_loop (l : List Int) (x : Int) (hl : l.length ≤ 4000) (d : Nat) : ∀ i : Nat, i + d = l.length → ∃ v, Ev (fun k => quillref0_In.l0 k l x (i : Int)) v ∧ (0 ≤ v ↔ x ∈ l.drop i) := by
  induction d with
  | zero =>
    intro i hi
    refine ⟨-1, ev_succ fun k => ?_, ?_⟩
    · simp only [quillref0_In.l0]
      rw [if_neg (by omega)]
    · rw [List.drop_eq_nil_of_le (by omega)]
      simp
  | succ d ih =>
    intro i hi
    have hlt : i < l.length := by omega
    have hr : rd l i = l[i] := by
      unfold rd
      rw [List.getD_eq_getElem?_getD, show ((i : Int)).toNat = i from rfl, List.getElem?_eq_getElem hlt]
      rfl
    rw [List.drop_eq_getElem_cons hlt]
    by_cases h : l[i] = x
    · refine ⟨i, ev_shift ?_, ?_⟩
      · simp only [quillref0_In.l0]
        exact ev_pos (by omega) (ev_pos (by omega) (ev_pos (by rw [hr, h]) (Ev.now _)))
      · simp [h]
    · obtain ⟨v, h1, h2⟩ := ih (i + 1) (by omega)
      refine ⟨v, ev_shift ?_, ?_⟩
      · simp only [quillref0_In.l0]
        refine ev_pos (by omega) (ev_pos (by omega) (ev_neg (by rw [hr]; exact h) ?_))
        rw [w64 (x := (i : Int) + 1) (by omega) (by omega)]
        exact_mod_cast h1
      · rw [h2, List.mem_cons]
        constructor
        · exact .inr
        · exact fun h3 => h3.resolve_left (fun e => h e.symm)
theorem in_ev (l : List Int) (x : Int) (hl : l.length ≤ 4000) : ∃ v, Ev (fun k => quillref0_In.f k l x) v ∧ (0 ≤ v ↔ x ∈ l) := by
  have h := in_loop l x hl l.length 0 (by omega)
  rw [List.drop_zero] at h
  exact h
def WordB (key : Int) : Bool := decide (key ∈ ([119, 98, 101, 87, 66, 69] : List Int))
theorem word_ref (key : Int) : Ev (fun k => quillref10_Word.f k key) (WordB key) := by
  obtain ⟨v, h1, h2⟩ := in_ev [119, 98, 101, 87, 66, 69] key (by decide)
  unfold quillref10_Word.f
  refine Ev.bind h1 ?_
  have e : decide (v ≥ 0) = WordB key := by unfold WordB; exact decide_eq_decide.2 h2
  rw [e]
  exact Ev.now _
set_option maxRecDepth 100000 in
theorem word_tab : ∀ n : Fin 128, decide (0 ≤ Lib.indexByte [119, 98, 101, 87, 66, 69] n.val.toUInt8) = WordB (n.val : Int) := by decide
theorem word_prog {key : Int} (h0 : 0 ≤ key) (h1 : key ≤ 127) : strings_ContainsRune.f (⟨#[119, 98, 101, 87, 66, 69]⟩ : ByteArray) (wrap32 key) = some (WordB key) := by
  have e : wrap32 key = key := by unfold wrap32; omega
  unfold strings_ContainsRune.f
  rw [e, if_pos ⟨h0, by omega⟩]
  have := word_tab ⟨key.toNat, by omega⟩
  rw [show ((key.toNat : Nat) : Int) = key by omega] at this
  exact congrArg some this
section
variable {R : List Int} {big : Bool}
theorem cells_nonneg {c : S56} (h : c ∈ cellsOf R big) : 0 ≤ c.f0 := by
  obtain ⟨k, hk⟩ := List.getElem?_of_mem h
  have hl := (List.getElem?_eq_some_iff.1 hk).1
  obtain ⟨p, -, -, c', -, e, -, -, hf⟩ := cell_at (R := R) (big := big) (k := k) (by omega) (by omega)
  rw [rd_cell rfl hk] at e
  rw [e, hf]
  omega
theorem cells_le (R : List Int) (big : Bool) : (cellsOf R big).length ≤ R.length + 1 := cellsTo_len R big (R.length + 1)
theorem rd_at {l : List S56} {k : Int} (h0 : 0 ≤ k) (h1 : k < l.length) : rd (atsOf l) k = (rd_T56 l k).f0 := by
  obtain ⟨j, rfl⟩ := Int.eq_ofNat_of_zero_le h0
  have hj : l[j]? = some l[j] := List.getElem?_eq_getElem (by omega)
  rw [rd_ats rfl hj, rd_cell rfl hj]
def fwd (P : S56 → Bool) (l : List S56) (at_ : Int) : Int := match l.find? (fun c => decide (at_ < c.f0) && P c) with
  | some c => c.f0
  | none => (rd_T56 l ((l.length : Int) - 1)).f0
def bwd (P : S56 → Bool) (l : List S56) (at_ : Int) : Int := match l.reverse.find? (fun c => decide (c.f0 < at_) && P c) with
  | some c => c.f0
  | none => (rd_T56 l 0).f0
theorem behind_begins_loop (hR : R.length ≤ 4000) (at_ : Int) (d : Nat) : ∀ i : Nat, i + d = (cellsOf R big).length →
    Ev (fun k => words_behind_begins.l0 k (cellsOf R big) at_ (cellsOf R big) ((cellsOf R big).length : Int) (i : Int))
      (match ((cellsOf R big).drop i).find? (fun c => decide (at_ < c.f0) && bP R big c) with | some c => c.f0 | none => (rd_T56 (cellsOf R big) (((cellsOf R big).length : Int) - 1)).f0) := by
  have hp := cells_pos R big
  have hl := cells_le R big
  induction d with
  | zero =>
    intro i hi
    refine ev_succ fun k => ?_
    simp only [words_behind_begins.l0]
    rw [List.drop_eq_nil_of_le (by omega), if_neg (by omega), w64 (x := ((cellsOf R big).length : Int) - 1) (by omega) (by omega), if_pos (by omega), if_pos (by omega)]
    rfl
  | succ d ih =>
    intro i hi
    have hlt : i < (cellsOf R big).length := by omega
    have h2 := ih (i + 1) (by omega)
    have hb := begins_prog (R := R) (big := big) hR (k := i) (by omega) (by omega)
    have hc : (cellsOf R big)[i]? = some (cellsOf R big)[i] := List.getElem?_eq_getElem hlt
    rw [rd_cell rfl hc] at hb
    rw [List.drop_eq_getElem_cons hlt, List.find?_cons]
    generalize (cellsOf R big)[i] = c at hb hc ⊢
    refine ev_shift ?_
    simp only [words_behind_begins.l0]
    rw [rd_cell rfl hc]
    have e1 : wrap64 ((i : Int) + 1) = ((i + 1 : Nat) : Int) := by rw [w64 (by omega) (by omega)]; omega
    rw [e1]
    refine ev_pos (by omega) (ev_pos (by omega) (ev_pos (by omega) ?_))
    by_cases h : at_ < c.f0
    · refine ev_pos h (ev_bindc hb ?_)
      rw [decide_eq_true h, Bool.true_and]
      cases hP : bP R big c
      · exact ev_neg (by decide) h2
      · exact ev_pos rfl (Ev.now _)
    · rw [decide_eq_false h, Bool.false_and]
      exact ev_neg h h2
theorem behind_begins_ev (hR : R.length ≤ 4000) (at_ : Int) : Ev (fun k => words_behind_begins.f k (cellsOf R big) at_) (fwd (bP R big) (cellsOf R big) at_) := by
  have h := behind_begins_loop (R := R) (big := big) hR at_ (cellsOf R big).length 0 (by omega)
  rw [List.drop_zero] at h
  exact h
theorem behind_ends_loop (hR : R.length ≤ 4000) (at_ : Int) (d : Nat) : ∀ i : Nat, i + d = (cellsOf R big).length →
    Ev (fun k => words_behind_ends.l0 k (cellsOf R big) at_ (cellsOf R big) ((cellsOf R big).length : Int) (i : Int))
      (match ((cellsOf R big).drop i).find? (fun c => decide (at_ < c.f0) && eP R big c) with | some c => c.f0 | none => (rd_T56 (cellsOf R big) (((cellsOf R big).length : Int) - 1)).f0) := by
  have hp := cells_pos R big
  have hl := cells_le R big
  induction d with
  | zero =>
    intro i hi
    refine ev_succ fun k => ?_
    simp only [words_behind_ends.l0]
    rw [List.drop_eq_nil_of_le (by omega), if_neg (by omega), w64 (x := ((cellsOf R big).length : Int) - 1) (by omega) (by omega), if_pos (by omega), if_pos (by omega)]
    rfl
  | succ d ih =>
    intro i hi
    have hlt : i < (cellsOf R big).length := by omega
    have h2 := ih (i + 1) (by omega)
    have hb := ends_prog (R := R) (big := big) hR (k := i) (by omega) (by omega)
    have hc : (cellsOf R big)[i]? = some (cellsOf R big)[i] := List.getElem?_eq_getElem hlt
    rw [rd_cell rfl hc] at hb
    rw [List.drop_eq_getElem_cons hlt, List.find?_cons]
    generalize (cellsOf R big)[i] = c at hb hc ⊢
    refine ev_shift ?_
    simp only [words_behind_ends.l0]
    rw [rd_cell rfl hc]
    have e1 : wrap64 ((i : Int) + 1) = ((i + 1 : Nat) : Int) := by rw [w64 (by omega) (by omega)]; omega
    rw [e1]
    refine ev_pos (by omega) (ev_pos (by omega) (ev_pos (by omega) ?_))
    by_cases h : at_ < c.f0
    · refine ev_pos h (ev_bindc hb ?_)
      rw [decide_eq_true h, Bool.true_and]
      cases hP : eP R big c
      · exact ev_neg (by decide) h2
      · exact ev_pos rfl (Ev.now _)
    · rw [decide_eq_false h, Bool.false_and]
      exact ev_neg h h2
theorem behind_ends_ev (hR : R.length ≤ 4000) (at_ : Int) : Ev (fun k => words_behind_ends.f k (cellsOf R big) at_) (fwd (eP R big) (cellsOf R big) at_) := by
  have h := behind_ends_loop (R := R) (big := big) hR at_ (cellsOf R big).length 0 (by omega)
  rw [List.drop_zero] at h
  exact h
theorem ahead_loop (hR : R.length ≤ 4000) (at_ : Int) (d : Nat) : d ≤ (cellsOf R big).length →
    Ev (fun k => words_ahead.l0 k (cellsOf R big) at_ ((d : Int) - 1))
      (match ((cellsOf R big).take d).reverse.find? (fun c => decide (c.f0 < at_) && bP R big c) with | some c => c.f0 | none => (rd_T56 (cellsOf R big) 0).f0) := by
  have hp := cells_pos R big
  have hl := cells_le R big
  induction d with
  | zero =>
    intro _
    refine ev_succ fun k => ?_
    simp only [words_ahead.l0]
    rw [if_neg (by omega), if_pos (by omega)]
    rfl
  | succ d ih =>
    intro hd
    have hlt : d < (cellsOf R big).length := by omega
    have h2 := ih (by omega)
    have hb := begins_prog (R := R) (big := big) hR (k := d) (by omega) (by omega)
    have hc : (cellsOf R big)[d]? = some (cellsOf R big)[d] := List.getElem?_eq_getElem hlt
    rw [rd_cell rfl hc] at hb
    rw [List.take_succ_eq_append_getElem hlt, List.reverse_append, List.reverse_singleton, List.singleton_append, List.find?_cons]
    generalize (cellsOf R big)[d] = c at hb hc ⊢
    refine ev_shift ?_
    simp only [words_ahead.l0]
    rw [show ((d + 1 : Nat) : Int) - 1 = d by omega, rd_cell rfl hc, w64 (x := (d : Int) - 1) (by omega) (by omega)]
    refine ev_pos (by omega) (ev_pos (by omega) (ev_pos (by omega) ?_))
    by_cases h : c.f0 < at_
    · refine ev_pos h (ev_bindc hb ?_)
      rw [decide_eq_true h, Bool.true_and]
      cases hP : bP R big c
      · exact ev_neg (by decide) h2
      · exact ev_pos rfl (Ev.now _)
    · rw [decide_eq_false h, Bool.false_and]
      exact ev_neg h h2
theorem ahead_ev (hR : R.length ≤ 4000) (at_ : Int) : Ev (fun k => words_ahead.f k (cellsOf R big) at_) (bwd (bP R big) (cellsOf R big) at_) := by
  have hl := cells_le R big
  have h := ahead_loop (R := R) (big := big) hR at_ (cellsOf R big).length (Nat.le_refl _)
  rw [List.take_length] at h
  unfold words_ahead.f
  rw [w64 (by omega) (by omega)]
  exact h
/-! ### the document's searches -/
def ender (x1 x13 : Int) : Option (Int × Int) := if x13 = x1 then some (0, 6) else some (x13, 0)
theorem ref_fwd (hR : R.length ≤ 4000) (P : S56 → Bool) (by_ x1 x3 low here n : Int) {r : Int × Int}
    (hP : ∀ k : Int, 0 ≤ k → k < (cellsOf R big).length → quillref10_edge.f (atsOf (cellsOf R big)) (clsOf (cellsOf R big)) k by_ = some (P (rd_T56 (cellsOf R big) k)))
    (H : Ev (fun k => if fwd P (cellsOf R big) here = here then (if here = x1 then some (0, 6) else some (here, 0)) else quillref10_Move.l0 k x1 x3 (atsOf (cellsOf R big)) (clsOf (cellsOf R big)) low (fwd P (cellsOf R big) here) (wrap64 (n + 1))) r) (d : Nat) : d ≤ (cellsOf R big).length →
    Ev (fun k => quillref10_Move.l1 k x1 x3 (atsOf (cellsOf R big)) (clsOf (cellsOf R big)) low here n (match ((cellsOf R big).drop d).find? (fun c => decide (here < c.f0) && P c) with | some c => c.f0 | none => -1) by_ ((d : Int) - 1)) r := by
  have hp := cells_pos R big
  have hl := cells_le R big
  have hla := atsOf_len (cellsOf R big)
  induction d with
  | zero =>
    intro _
    refine ev_shift ?_
    simp only [quillref10_Move.l1]
    refine ev_neg (by omega) ?_
    rw [List.drop_zero]
    unfold fwd at H
    cases hf : (cellsOf R big).find? (fun c => decide (here < c.f0) && P c) with
    | none =>
      rw [hf] at H
      rw [w64 (x := ((atsOf (cellsOf R big)).length : Int) - 1) (by omega) (by omega), hla, rd_at (by omega) (by omega)]
      refine ev_pos (by decide) (ev_pos (by omega) (ev_pos (by omega) ?_))
      simp only at H
      exact H
    | some c =>
      rw [hf] at H
      have hc := cells_nonneg (List.mem_of_find?_eq_some hf)
      refine ev_neg (by simp only; omega) ?_
      simp only at H ⊢
      by_cases e : c.f0 = here
      · rw [e] at H ⊢
        exact H
      · exact H
  | succ d ih =>
    intro hd
    have hlt : d < (cellsOf R big).length := by omega
    have h2 := ih (by omega)
    have hb := hP d (by omega) (by omega)
    have hc : (cellsOf R big)[d]? = some (cellsOf R big)[d] := List.getElem?_eq_getElem hlt
    rw [rd_cell rfl hc] at hb
    rw [List.drop_eq_getElem_cons hlt, List.find?_cons] at h2
    generalize (cellsOf R big)[d] = c at hb hc h2
    refine ev_shift ?_
    simp only [quillref10_Move.l1]
    rw [show ((d + 1 : Nat) : Int) - 1 = d by omega, rd_ats rfl hc, w64 (x := (d : Int) - 1) (by omega) (by omega)]
    refine ev_pos (by omega) (ev_pos (by omega) (ev_pos (by omega) ?_))
    by_cases h : here < c.f0
    · refine ev_pos h (ev_bindc hb ?_)
      rw [decide_eq_true h, Bool.true_and] at h2
      cases hPc : P c
      · rw [hPc] at h2
        exact ev_neg (by decide) h2
      · rw [hPc] at h2
        exact ev_pos rfl h2
    · rw [decide_eq_false h, Bool.false_and] at h2
      exact ev_neg h h2
theorem ref_bwd (hR : R.length ≤ 4000) (x1 x3 low here n : Int) {r : Int × Int}
    (H : Ev (fun k => if bwd (bP R big) (cellsOf R big) here = here then (if here = x1 then some (0, 6) else some (here, 0)) else quillref10_Move.l0 k x1 x3 (atsOf (cellsOf R big)) (clsOf (cellsOf R big)) low (bwd (bP R big) (cellsOf R big) here) (wrap64 (n + 1))) r) (d : Nat) : ∀ i : Nat, i + d = (cellsOf R big).length →
    Ev (fun k => quillref10_Move.l2 k x1 x3 (atsOf (cellsOf R big)) (clsOf (cellsOf R big)) low here n (match ((cellsOf R big).take i).reverse.find? (fun c => decide (c.f0 < here) && bP R big c) with | some c => c.f0 | none => -1) (i : Int)) r := by
  have hp := cells_pos R big
  have hl := cells_le R big
  have hla := atsOf_len (cellsOf R big)
  induction d with
  | zero =>
    intro i hi
    refine ev_shift ?_
    simp only [quillref10_Move.l2]
    refine ev_neg (by omega) ?_
    rw [List.take_of_length_le (by omega)]
    unfold bwd at H
    cases hf : (cellsOf R big).reverse.find? (fun c => decide (c.f0 < here) && bP R big c) with
    | none =>
      rw [hf] at H
      rw [rd_at (by omega) (by omega)]
      refine ev_pos (by decide) (ev_pos (by omega) ?_)
      simp only at H
      exact H
    | some c =>
      rw [hf] at H
      have hc := cells_nonneg (List.mem_reverse.1 (List.mem_of_find?_eq_some hf))
      refine ev_neg (by simp only; omega) ?_
      simp only at H ⊢
      exact H
  | succ d ih =>
    intro i hi
    have hlt : i < (cellsOf R big).length := by omega
    have h2 := ih (i + 1) (by omega)
    have hb := edge_begin (R := R) (big := big) hR (k := i) (by omega) (by omega)
    have hc : (cellsOf R big)[i]? = some (cellsOf R big)[i] := List.getElem?_eq_getElem hlt
    rw [rd_cell rfl hc] at hb
    rw [List.take_succ_eq_append_getElem hlt, List.reverse_append, List.reverse_singleton, List.singleton_append, List.find?_cons] at h2
    generalize (cellsOf R big)[i] = c at hb hc h2
    have e1 : wrap64 ((i : Int) + 1) = ((i + 1 : Nat) : Int) := by rw [w64 (by omega) (by omega)]; omega
    refine ev_shift ?_
    simp only [quillref10_Move.l2]
    rw [rd_ats rfl hc, e1]
    refine ev_pos (by omega) (ev_pos (by omega) ?_)
    by_cases h : c.f0 < here
    · refine ev_pos h (ev_bindc hb ?_)
      rw [decide_eq_true h, Bool.true_and] at h2
      cases hPc : bP R big c
      · rw [hPc] at h2
        exact ev_neg (by decide) h2
      · rw [hPc] at h2
        exact ev_pos rfl h2
    · rw [decide_eq_false h, Bool.false_and] at h2
      exact ev_neg h h2
/-! ### so many times -/
def iter (g : Int → Int) (from_ : Int) : Nat → Int → Int × Int
  | 0, here => if here = from_ then (0, 6) else (here, 0)
  | d + 1, here => if g here = here then (if here = from_ then (0, 6) else (here, 0)) else iter g from_ d (g here)
theorem ev_end (here from_ : Int) : Ev (fun _ => if here = from_ then some ((0 : Int), (6 : Int)) else some (here, 0)) (if here = from_ then (0, 6) else (here, 0)) := by
  by_cases e : here = from_
  · rw [if_pos e, if_pos e]; exact Ev.now _
  · rw [if_neg e, if_neg e]; exact Ev.now _
/-- Where a key leads, once. -/
def once (R : List Int) (key : Int) (here : Int) : Int :=
  if key = 119 ∨ key = 87 then fwd (bP R (decide (key < 97))) (cellsOf R (decide (key < 97))) here
  else if key = 98 ∨ key = 66 then bwd (bP R (decide (key < 97))) (cellsOf R (decide (key < 97))) here
  else fwd (eP R (decide (key < 97))) (cellsOf R (decide (key < 97))) here
theorem prog_iter (hR : R.length ≤ 4000) (from_ key count : Int) (hc : count ≤ 999) (d : Nat) : ∀ (n here : Int), 0 ≤ n → n + d = count →
    Ev (fun k => words_Move.l0 k from_ key (cellsOf R (decide (key < 97))) here count n) (iter (once R key) from_ d here) := by
  induction d with
  | zero =>
    intro n here h0 h1
    refine ev_shift ?_
    simp only [words_Move.l0, iter]
    exact ev_neg (by omega) (ev_end _ _)
  | succ d ih =>
    intro n here h0 h1
    have step : ∀ t : Int, t = once R key here → Ev (fun k => if t = here then (if t = from_ then some (0, 6) else some (t, 0)) else words_Move.l0 k from_ key (cellsOf R (decide (key < 97))) t count (wrap64 (n + 1))) (iter (once R key) from_ (d + 1) here) := by
      rintro t rfl
      simp only [iter]
      by_cases e : once R key here = here
      · rw [if_pos e]
        refine ev_pos e ?_
        rw [e]
        exact ev_end _ _
      · rw [if_neg e, w64 (x := n + 1) (by omega) (by omega)]
        exact ev_neg e (ih (n + 1) (once R key here) (by omega) (by omega))
    refine ev_shift ?_
    simp only [words_Move.l0]
    refine ev_pos (by omega) ?_
    have jb : (key = 119 ∨ key = 87) → Ev (fun k => words_Move.j2 k from_ key (cellsOf R (decide (key < 97))) here here count n key true) (iter (once R key) from_ (d + 1) here) := by
      intro hk
      refine ev_shift ?_
      simp only [words_Move.j2]
      refine ev_pos (by decide) (Ev.bind (behind_begins_ev hR here) (step _ ?_))
      unfold once
      rw [if_pos hk]
    by_cases e : key = 119
    · refine ev_pos e ?_
      rw [show (key == 119) = true from beq_iff_eq.2 e]
      exact jb (.inl e)
    · refine ev_neg e ?_
      by_cases e2 : key = 87
      · rw [show (key == 87) = true from beq_iff_eq.2 e2]
        exact jb (.inr e2)
      · rw [show (key == 87) = false from beq_eq_false_iff_ne.2 e2]
        refine ev_shift ?_
        simp only [words_Move.j2]
        refine ev_neg (by decide) ?_
        have ja : (key = 98 ∨ key = 66) → Ev (fun k => words_Move.j3 k from_ key (cellsOf R (decide (key < 97))) here here count n true) (iter (once R key) from_ (d + 1) here) := by
          intro hk
          refine ev_shift ?_
          simp only [words_Move.j3]
          refine ev_pos (by decide) (Ev.bind (ahead_ev hR here) (step _ ?_))
          unfold once
          rw [if_neg (fun h => h.elim e e2), if_pos hk]
        by_cases e3 : key = 98
        · refine ev_pos e3 ?_
          rw [show (key == 98) = true from beq_iff_eq.2 e3]
          exact ja (.inl e3)
        · refine ev_neg e3 ?_
          by_cases e4 : key = 66
          · rw [show (key == 66) = true from beq_iff_eq.2 e4]
            exact ja (.inr e4)
          · rw [show (key == 66) = false from beq_eq_false_iff_ne.2 e4]
            refine ev_shift ?_
            simp only [words_Move.j3]
            refine ev_neg (by decide) (Ev.bind (behind_ends_ev hR here) (step _ ?_))
            unfold once
            rw [if_neg (fun h => h.elim e e2), if_neg (fun h => h.elim e3 e4)]
theorem ref_iter (hR : R.length ≤ 4000) (from_ key count low : Int) (hc : count ≤ 999) (hlow : (low = 119 ↔ (key = 119 ∨ key = 87)) ∧ (low = 101 ↔ ¬ (key = 119 ∨ key = 87) ∧ ¬ (key = 98 ∨ key = 66))) (d : Nat) : ∀ (n here : Int), 0 ≤ n → n + d = count →
    Ev (fun k => quillref10_Move.l0 k from_ count (atsOf (cellsOf R (decide (key < 97)))) (clsOf (cellsOf R (decide (key < 97)))) low here n) (iter (once R key) from_ d here) := by
  have hp := cells_pos R (decide (key < 97))
  have hl := cells_le R (decide (key < 97))
  have hla := atsOf_len (cellsOf R (decide (key < 97)))
  induction d with
  | zero =>
    intro n here h0 h1
    refine ev_shift ?_
    simp only [quillref10_Move.l0, iter]
    exact ev_neg (by omega) (ev_end _ _)
  | succ d ih =>
    intro n here h0 h1
    have step : ∀ t : Int, t = once R key here → Ev (fun k => if t = here then (if here = from_ then some (0, 6) else some (here, 0)) else quillref10_Move.l0 k from_ count (atsOf (cellsOf R (decide (key < 97)))) (clsOf (cellsOf R (decide (key < 97)))) low t (wrap64 (n + 1))) (iter (once R key) from_ (d + 1) here) := by
      rintro t rfl
      simp only [iter]
      by_cases e : once R key here = here
      · rw [if_pos e]
        exact ev_pos e (ev_end _ _)
      · rw [if_neg e, w64 (x := n + 1) (by omega) (by omega)]
        exact ev_neg e (ih (n + 1) (once R key here) (by omega) (by omega))
    have h3 : wrap64 (((atsOf (cellsOf R (decide (key < 97)))).length : Int) - 1) = (((cellsOf R (decide (key < 97))).length : Nat) : Int) - 1 := by rw [w64 (by omega) (by omega), hla]
    refine ev_shift ?_
    simp only [quillref10_Move.l0]
    refine ev_pos (by omega) ?_
    by_cases e : low = 119
    · refine ev_pos e ?_
      rw [show (low == 119) = true from beq_iff_eq.2 e]
      refine ev_shift ?_
      simp only [quillref10_Move.j2]
      refine ev_pos (by decide) (ev_neg (by omega) ?_)
      refine ev_shift ?_
      simp only [quillref10_Move.j3]
      rw [h3]
      have h4 := ref_fwd (R := R) (big := decide (key < 97)) hR (bP R (decide (key < 97))) (-1) from_ count low here n (fun k a b => edge_begin hR a b) (step _ (by unfold once; rw [if_pos (hlow.1.1 e)])) (cellsOf R (decide (key < 97))).length (Nat.le_refl _)
      rw [List.drop_length] at h4
      exact h4
    · refine ev_neg e ?_
      by_cases e2 : low = 101
      · rw [show (low == 101) = true from beq_iff_eq.2 e2]
        refine ev_shift ?_
        simp only [quillref10_Move.j2]
        refine ev_pos (by decide) (ev_pos e2 ?_)
        refine ev_shift ?_
        simp only [quillref10_Move.j3]
        rw [h3]
        have h4 := ref_fwd (R := R) (big := decide (key < 97)) hR (eP R (decide (key < 97))) 1 from_ count low here n (fun k a b => edge_end hR a b) (step _ (by unfold once; rw [if_neg (hlow.2.1 e2).1, if_neg (hlow.2.1 e2).2])) (cellsOf R (decide (key < 97))).length (Nat.le_refl _)
        rw [List.drop_length] at h4
        exact h4
      · rw [show (low == 101) = false from beq_eq_false_iff_ne.2 e2]
        refine ev_shift ?_
        simp only [quillref10_Move.j2]
        refine ev_neg (by decide) ?_
        have hn : ¬ (key = 119 ∨ key = 87) := fun h => e (hlow.1.2 h)
        have hb : key = 98 ∨ key = 66 := Classical.byContradiction fun h => e2 (hlow.2.2 ⟨hn, h⟩)
        have h4 := ref_bwd (R := R) (big := decide (key < 97)) hR from_ count low here n (step _ (by unfold once; rw [if_neg hn, if_pos hb])) (cellsOf R (decide (key < 97))).length 0 (by omega)
        exact h4
theorem move_ref (hR : R.length ≤ 4000) {at_ key count : Int} (hk : WordB key = true) (h0 : 1 ≤ count) (h1 : count ≤ 999) : Ev (fun k => quillref10_Move.f k R at_ key count) (iter (once R key) at_ count.toNat at_) := by
  have hkey : key ∈ ([119, 98, 101, 87, 66, 69] : List Int) := of_decide_eq_true hk
  simp only [List.mem_cons, List.mem_nil_iff, or_false] at hkey
  unfold quillref10_Move.f
  refine Ev.bind (cells_ref hR _) ?_
  by_cases hb : key < 97
  · refine ev_pos hb ?_
    rw [w64 (x := key + 97) (by omega) (by omega), w64 (x := key + 97 - 65) (by omega) (by omega)]
    refine ev_shift ?_
    simp only [quillref10_Move.j0]
    exact ref_iter hR at_ key count (key + 97 - 65) h1 (by omega) count.toNat 0 at_ (by omega) (by omega)
  · refine ev_neg hb ?_
    refine ev_shift ?_
    simp only [quillref10_Move.j0]
    exact ref_iter hR at_ key count key h1 (by omega) count.toNat 0 at_ (by omega) (by omega)
end
/-- Is it a motion by words that may be? -/
def MoveOk (s : ByteArray) (at_ key count : Int) : Bool := MayB s && decide (0 ≤ at_ ∧ at_ ≤ (runesOf s).length) && WordB key && decide (1 ≤ count ∧ count ≤ 999)
def MoveIs (s : ByteArray) (at_ key count : Int) : Int × Int := if MoveOk s at_ key count = true then iter (once (runesOf s) key) at_ count.toNat at_ else (0, 1)
theorem move_bad (s : ByteArray) (at_ key count : Int) : Ev (fun k => words_Move.j0 k s at_ key count true) (0, 1) := ev_succ fun k => by simp only [words_Move.j0]; rfl
theorem MayB_size {s : ByteArray} (h : MayB s = true) : s.size ≤ 4000 := by
  unfold MayB at h
  simp only [Bool.and_eq_true, decide_eq_true_eq] at h
  exact h.1.1
theorem move_prog (s : ByteArray) (hs : s.size ≤ 9223372036854775807) (at_ key count : Int) : Ev (fun k => words_Move.f k s at_ key count) (MoveIs s at_ key count) := by
  unfold words_Move.f
  refine ev_bindc (may_prog s hs) ?_
  unfold MoveIs
  cases hm : MayB s
  · rw [if_neg (by unfold MoveOk; rw [hm]; simp)]
    exact ev_neg (by decide) (move_bad ..)
  · refine ev_pos rfl ?_
    have hsz := MayB_size hm
    have hn := runesOf_len s
    by_cases c1 : count < 1
    · rw [if_neg (by unfold MoveOk; rw [decide_eq_false (show ¬ (1 ≤ count ∧ count ≤ 999) by omega)]; simp)]
      exact ev_pos c1 (move_bad ..)
    · refine ev_neg c1 ?_
      by_cases c2 : count > 999
      · rw [if_neg (by unfold MoveOk; rw [decide_eq_false (show ¬ (1 ≤ count ∧ count ≤ 999) by omega)]; simp)]
        exact ev_pos c2 (move_bad ..)
      · refine ev_neg c2 ?_
        have hw : (key < 0 ∨ key > 127) → WordB key = false := fun h => decide_eq_false fun hkey => by
          simp only [List.mem_cons, List.mem_nil_iff, or_false] at hkey
          omega
        by_cases c3 : key < 0
        · rw [if_neg (by unfold MoveOk; rw [hw (.inl c3)]; simp)]
          exact ev_pos c3 (move_bad ..)
        · refine ev_neg c3 ?_
          by_cases c4 : key > 127
          · rw [if_neg (by unfold MoveOk; rw [hw (.inr c4)]; simp)]
            exact ev_pos c4 (move_bad ..)
          · refine ev_neg c4 (ev_bindc (word_prog (by omega) (by omega)) ?_)
            cases hk : WordB key
            · rw [if_neg (by unfold MoveOk; rw [hk]; simp)]
              exact move_bad ..
            · refine ev_shift ?_
              simp only [words_Move.j0]
              refine ev_neg (by decide) ?_
              obtain ⟨B, h1, h2⟩ := of_ev s hsz
              refine Ev.bind h1 ?_
              have his : text_Map_Is.f (runesOf s) B at_ = some (decide (0 ≤ at_ ∧ at_ ≤ (runesOf s).length)) := by
                unfold text_Map_Is.f
                by_cases ha : at_ ≥ 0
                · rw [if_pos ha]
                  congr 1
                  exact decide_eq_decide.2 ⟨fun h => ⟨ha, h⟩, fun h => h.2⟩
                · rw [if_neg ha, decide_eq_false (show ¬ (0 ≤ at_ ∧ at_ ≤ ((runesOf s).length : Int)) by omega)]
              refine ev_bindc his ?_
              by_cases ha : 0 ≤ at_ ∧ at_ ≤ ((runesOf s).length : Int)
              · rw [decide_eq_true ha, if_pos (by unfold MoveOk; rw [hm, hk, decide_eq_true ha, decide_eq_true (show 1 ≤ count ∧ count ≤ 999 by omega)]; rfl)]
                refine ev_pos rfl (Ev.bind (cells_prog s hsz _) ?_)
                exact prog_iter (by omega) at_ key count (by omega) count.toNat 0 at_ (by omega) (by omega)
              · rw [decide_eq_false ha, if_neg (by unfold MoveOk; rw [decide_eq_false ha]; simp)]
                exact ev_neg (by decide) (Ev.now _)
end Go.Proofs.YtdcbaiimojnlnaaDoor.P
