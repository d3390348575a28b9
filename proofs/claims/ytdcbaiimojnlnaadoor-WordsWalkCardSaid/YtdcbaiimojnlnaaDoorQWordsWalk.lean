/- The statement WordsWalk as numbers and lists: the law answers true for all that the row lets in. Conditions: those of the row. -/
import Derived.Test.YtdcbaiimojnlnaaDoorLQg
import Derived.Test.YtdcbaiimojnlnaaDoorP0
import Derived.Test.YtdcbaiimojnlnaaDoorP20
namespace Go.Proofs.YtdcbaiimojnlnaaDoor.Q
open Go.RowKit Go.Proofs.YtdcbaiimojnlnaaDoor Go.Proofs.YtdcbaiimojnlnaaDoor.P Go.Proofs.YtdcbaiimojnlnaaDoorW.PrintWords
section
variable {R : List Int}
/-- The cells rise. -/
theorem rises {i j : Nat} {c e : S56} (hi : (cellsOf R false)[i]? = some c) (hj : (cellsOf R false)[j]? = some e) (h : i < j) : c.f0 < e.f0 := by
  have li := (List.getElem?_eq_some_iff.1 hi).1
  have lj := (List.getElem?_eq_some_iff.1 hj).1
  obtain ⟨p, -, h1, c', -, e1, -, -, f1⟩ := cell_at (R := R) (big := false) (k := i) (by omega) (by omega)
  obtain ⟨q, -, h2, e', -, e2, -, -, f2⟩ := cell_at (R := R) (big := false) (k := j) (by omega) (by omega)
  rw [rd_cell rfl hi] at e1
  rw [rd_cell rfl hj] at e2
  have := idx_lt (R := R) (big := false) (p := p) (q := q) (by omega)
  rw [e1, e2, f1, f2]
  omega
theorem within {i : Nat} {c : S56} (hi : (cellsOf R false)[i]? = some c) : 0 ≤ c.f0 ∧ c.f0 ≤ R.length := by
  have li := (List.getElem?_eq_some_iff.1 hi).1
  obtain ⟨p, h0, h1, c', -, e1, -, -, f1⟩ := cell_at (R := R) (big := false) (k := i) (by omega) (by omega)
  rw [rd_cell rfl hi] at e1
  rw [e1, f1]
  omega
/-- By w: to a later cell, or it was the last. -/
theorem fwd_w {i : Nat} {c : S56} (hi : (cellsOf R false)[i]? = some c) :
    (fwd (bP R false) (cellsOf R false) c.f0 = c.f0 ∧ c.f0 = rd (atsOf (cellsOf R false)) (((cellsOf R false).length : Int) - 1)) ∨ ∃ j e, (cellsOf R false)[j]? = some e ∧ i < j ∧ fwd (bP R false) (cellsOf R false) c.f0 = e.f0 := by
  have hp := cells_pos R false
  have li := (List.getElem?_eq_some_iff.1 hi).1
  have later : ∀ {j : Nat} {e : S56}, (cellsOf R false)[j]? = some e → c.f0 < e.f0 → i < j := fun {j e} hj hlt => by
    rcases Nat.lt_trichotomy i j with h | h | h
    · exact h
    · subst h
      rw [hi] at hj
      obtain rfl := Option.some.inj hj
      omega
    · have := rises hj hi h
      omega
  unfold fwd
  cases hf : (cellsOf R false).find? (fun e => decide (c.f0 < e.f0) && bP R false e) with
  | some e =>
    right
    obtain ⟨j, hj⟩ := List.getElem?_of_mem (List.mem_of_find?_eq_some hf)
    have hs := List.find?_some hf
    simp only [Bool.and_eq_true, decide_eq_true_eq] at hs
    exact ⟨j, e, hj, later hj hs.1, rfl⟩
  | none =>
    obtain ⟨e, he⟩ : ∃ e, (cellsOf R false)[(cellsOf R false).length - 1]? = some e := ⟨_, List.getElem?_eq_getElem (by omega)⟩
    have hk : ((cellsOf R false).length : Int) - 1 = (((cellsOf R false).length - 1 : Nat) : Int) := by omega
    rw [rd_ats hk he]
    simp only
    rw [rd_cell hk he]
    rcases Nat.lt_or_ge i ((cellsOf R false).length - 1) with h | h
    · exact .inr ⟨_, e, he, h, rfl⟩
    · left
      have : i = (cellsOf R false).length - 1 := by omega
      rw [← this, hi] at he
      obtain rfl := Option.some.inj he
      exact ⟨rfl, rfl⟩
/-- By b: to an earlier place, not ahead of the first cell. -/
theorem bwd_b {i j : Nat} {c e : S56} (hi : (cellsOf R false)[i]? = some c) (hj : (cellsOf R false)[j]? = some e) (h : i < j) :
    bwd (bP R false) (cellsOf R false) e.f0 < e.f0 ∧ rd (atsOf (cellsOf R false)) 0 ≤ bwd (bP R false) (cellsOf R false) e.f0 := by
  have hp := cells_pos R false
  obtain ⟨z, hz⟩ : ∃ z, (cellsOf R false)[0]? = some z := ⟨_, List.getElem?_eq_getElem (by omega)⟩
  have hz0 : rd (atsOf (cellsOf R false)) 0 = z.f0 := rd_ats (j := 0) rfl hz
  have le0 : ∀ {n : Nat} {u : S56}, (cellsOf R false)[n]? = some u → z.f0 ≤ u.f0 := fun {n u} hn => by
    rcases Nat.eq_zero_or_pos n with e0 | e0
    · subst e0
      rw [hz] at hn
      obtain rfl := Option.some.inj hn
      exact Int.le_refl _
    · have := rises hz hn e0; omega
  rw [hz0]
  unfold bwd
  cases hf : (cellsOf R false).reverse.find? (fun u => decide (u.f0 < e.f0) && bP R false u) with
  | some u =>
    have hs := List.find?_some hf
    simp only [Bool.and_eq_true, decide_eq_true_eq] at hs
    obtain ⟨n, hn⟩ := List.getElem?_of_mem (List.mem_reverse.1 (List.mem_of_find?_eq_some hf))
    exact ⟨hs.1, le0 hn⟩
  | none =>
    simp only
    rw [rd_cell (k := 0) (j := 0) rfl hz]
    have := rises hi hj h
    have := le0 hi
    exact ⟨by omega, Int.le_refl _⟩
end
theorem MoveIs_one {s : ByteArray} {at_ key : Int} (hm : MayB s = true) (ha : 0 ≤ at_ ∧ at_ ≤ (runesOf s).length) (hw : WordB key = true) :
    MoveIs s at_ key 1 = if once (runesOf s) key at_ = at_ then (0, 6) else (once (runesOf s) key at_, 0) := by
  unfold MoveIs
  rw [if_pos (by unfold MoveOk; rw [hm, hw, decide_eq_true ha]; rfl)]
  show iter _ _ 1 _ = _
  simp only [iter]
  by_cases h : once (runesOf s) key at_ = at_
  · rw [if_pos h, if_pos h]; rfl
  · rw [if_neg h, if_neg h]
section
variable (S : List ByteArray) (a1 a2 a3 a4 a5 a6 a7 : Int) (s : ByteArray)
theorem walk_l1 (hm : MayB s = true) (i : Int) (H : Ev (fun k => quilllaw10_WordsWalk.l0 k (wrap64 (i + 1)) S a1 a2 a3 a4 a5 a6 a7) true) (d : Nat) : ∀ (j n : Nat) (c : S56), (cellsOf (runesOf s) false)[j]? = some c → j + d = (cellsOf (runesOf s) false).length → n ≤ j →
    Ev (fun k => quilllaw10_WordsWalk.l1 k i s (atsOf (cellsOf (runesOf s) false)) c.f0 (n : Int) S a1 a2 a3 a4 a5 a6 a7) true := by
  have hsz := MayB_size hm
  have hrl := runesOf_len s
  have hl := cells_le (runesOf s) false
  have hp := cells_pos (runesOf s) false
  have hla := atsOf_len (cellsOf (runesOf s) false)
  induction d using Nat.strongRecOn with
  | ind d ih =>
    intro j n c hj hd hn
    have hjl := (List.getElem?_eq_some_iff.1 hj).1
    have hc := within hj
    have e1 : wrap64 (((atsOf (cellsOf (runesOf s) false)).length : Int) - 1) = ((cellsOf (runesOf s) false).length : Int) - 1 := by rw [w64 (by omega) (by omega), hla]
    refine ev_shift ?_
    simp only [quilllaw10_WordsWalk.l1]
    refine ev_pos (by omega) (Ev.bind (move_prog s (by omega) _ _ _) ?_)
    rw [MoveIs_one hm hc (by decide)]
    have ho : once (runesOf s) 119 c.f0 = fwd (bP (runesOf s) false) (cellsOf (runesOf s) false) c.f0 := rfl
    rw [ho]
    rcases fwd_w hj with ⟨h1, h2⟩ | ⟨j', e, h1, h2, h3⟩
    · rw [if_pos h1]
      refine ev_bindc rfl (ev_pos rfl ?_)
      rw [e1]
      exact ev_pos (by omega) (ev_pos (by omega) (ev_pos h2 H))
    · have hlt := rises hj h1 h2
      rw [h3, if_neg (by omega)]
      refine ev_bindc rfl (ev_neg (show ¬ (0 : Int) = 6 by decide) (ev_bindc rfl (ev_pos rfl ?_)))
      rw [decide_eq_false (show ¬ e.f0 ≤ c.f0 by omega)]
      have he := within h1
      have hjl' := (List.getElem?_eq_some_iff.1 h1).1
      obtain ⟨b1, b2⟩ := bwd_b hj h1 h2
      refine ev_shift ?_
      simp only [quilllaw10_WordsWalk.j5]
      refine ev_neg (by decide) (Ev.bind (move_prog s (by omega) _ _ _) ?_)
      rw [MoveIs_one hm he (by decide)]
      have ho2 : once (runesOf s) 98 e.f0 = bwd (bP (runesOf s) false) (cellsOf (runesOf s) false) e.f0 := rfl
      rw [ho2, if_neg (by omega)]
      refine ev_bindc rfl (ev_pos rfl (ev_pos (by omega) (ev_neg (by simp only; omega) (ev_neg (by simp only; omega) ?_))))
      rw [w64 (x := (n : Int) + 1) (by omega) (by omega)]
      have h4 := ih ((cellsOf (runesOf s) false).length - j') (by omega) j' (n + 1) e h1 (by omega) (by omega)
      exact_mod_cast h4
theorem walk_l0 (hs : ∀ s ∈ S, s.size ≤ 6000) (d : Nat) : ∀ i : Nat, i + d = 4 → Ev (fun k => quilllaw10_WordsWalk.l0 k (i : Int) S a1 a2 a3 a4 a5 a6 a7) true := by
  have stop : ∀ i : Nat, Ev (fun k => quilllaw10_WordsWalk.j1 k (i : Int) false S a1 a2 a3 a4 a5 a6 a7) true := by
    intro i
    refine ev_shift ?_
    simp only [quilllaw10_WordsWalk.j1]
    exact ev_neg (by decide) (Ev.bind wakes10 (Ev.now _))
  induction d with
  | zero =>
    intro i hi
    refine ev_shift ?_
    simp only [quilllaw10_WordsWalk.l0]
    by_cases h : (i : Int) < S.length
    · refine ev_pos h ?_
      rw [decide_eq_false (show ¬ ((i : Int) < 4) by omega)]
      exact stop i
    · exact ev_neg h (stop i)
  | succ d ih =>
    intro i hi
    have h2 := ih (i + 1) (by omega)
    have e1 : wrap64 ((i : Int) + 1) = ((i + 1 : Nat) : Int) := by rw [w64 (by omega) (by omega)]; omega
    refine ev_shift ?_
    simp only [quilllaw10_WordsWalk.l0]
    by_cases h : (i : Int) < S.length
    · refine ev_pos h ?_
      rw [decide_eq_true (show ((i : Int) < 4) by omega)]
      have hz := hs _ (rdOf_mem (i := i) (by omega) h)
      refine ev_shift ?_
      simp only [quilllaw10_WordsWalk.j1]
      generalize rdOf ByteArray.empty S (i : Int) = s at hz ⊢
      refine ev_pos (by decide) (ev_pos (by omega) (ev_pos h (Ev.bind (cells_out s (by omega) _) (ev_bindc rfl ?_))))
      unfold CellsIs
      have skip : ∀ (x y : List Int), Ev (fun k => quilllaw10_WordsWalk.j2 k (i : Int) s x y true S a1 a2 a3 a4 a5 a6 a7) true := by
        intro x y
        refine ev_shift ?_
        simp only [quilllaw10_WordsWalk.j2]
        refine ev_pos (by decide) ?_
        rw [e1]
        exact h2
      cases hm : MayB s
      · rw [if_neg (by decide)]
        exact ev_neg (by decide) (skip _ _)
      · rw [if_pos rfl]
        refine ev_pos rfl ?_
        by_cases hb : (s.size : Int) > 300
        · rw [decide_eq_true hb]
          exact skip _ _
        · rw [decide_eq_false hb]
          have hp := cells_pos (runesOf s) false
          have hla := atsOf_len (cellsOf (runesOf s) false)
          have hlc := clsOf_len (cellsOf (runesOf s) false)
          refine ev_shift ?_
          simp only [quilllaw10_WordsWalk.j2]
          refine ev_neg (by decide) (ev_neg (by omega) ?_)
          rw [show (((clsOf (cellsOf (runesOf s) false)).length : Int) != ((atsOf (cellsOf (runesOf s) false)).length : Int)) = false from bne_eq_false_iff_eq.2 (by omega)]
          refine ev_shift ?_
          simp only [quilllaw10_WordsWalk.j3]
          refine ev_neg (by decide) (ev_pos (by omega) ?_)
          obtain ⟨z, hz0⟩ : ∃ z, (cellsOf (runesOf s) false)[0]? = some z := ⟨_, List.getElem?_eq_getElem (by omega)⟩
          rw [rd_ats (k := 0) (j := 0) rfl hz0]
          exact walk_l1 S a1 a2 a3 a4 a5 a6 a7 s hm i (by rw [e1]; exact h2) (cellsOf (runesOf s) false).length 0 0 z hz0 (by omega) (Nat.le_refl _)
    · exact ev_neg h (stop i)
end
theorem WordsWalk (l : List ByteArray) (a1 a2 a3 a4 a5 a6 a7 : Int) (hl : l.length * 16 ≤ 140737488351232) (hs : ∀ s ∈ l, s.size ≤ 140737488351232)
    (_ : (Lit.int .i64 a1).wf = true) (_ : (Lit.int .i64 a2).wf = true) (_ : (Lit.int .i64 a3).wf = true) (_ : (Lit.int .i64 a4).wf = true) (_ : (Lit.int .i64 a5).wf = true) (_ : (Lit.int .i64 a6).wf = true) (_ : (Lit.int .i64 a7).wf = true) :
    ∃ k, quilllaw10_WordsWalk.f k l a1 a2 a3 a4 a5 a6 a7 = some true := by
  refine Ev.rounds ?_
  obtain ⟨v, h1, h2⟩ := heavy_ev l hl hs a1 a2 a3 a4 a5 a6 a7
  unfold quilllaw10_WordsWalk.f
  refine Ev.bind h1 ?_
  cases v
  · exact ev_neg (by decide) (walk_l0 l a1 a2 a3 a4 a5 a6 a7 (h2 rfl).2 4 0 (by omega))
  · exact ev_pos rfl (Ev.now _)
end Go.Proofs.YtdcbaiimojnlnaaDoor.Q
