/- The statement WordsCells as numbers and lists: the law answers true for all that the row lets in. Conditions: those of the row. -/
import Derived.Test.YtdcbaiimojnlnaaDoorLQg
import Derived.Test.YtdcbaiimojnlnaaDoorP0
import Derived.Test.YtdcbaiimojnlnaaDoorP19
namespace Go.Proofs.YtdcbaiimojnlnaaDoor.Q
open Go.RowKit Go.Proofs.YtdcbaiimojnlnaaDoor Go.Proofs.YtdcbaiimojnlnaaDoor.P Go.Proofs.YtdcbaiimojnlnaaDoorW.PrintWords
section
variable (S : List ByteArray) (a1 a2 a3 a4 a5 a6 a7 : Int)
theorem cells_l1 (hs : ∀ s ∈ S, s.size ≤ 6000) (i : Nat) (hi : (i : Int) < S.length) (H : Ev (fun k => quilllaw10_WordsCells.l0 k (wrap64 ((i : Int) + 1)) S a1 a2 a3 a4 a5 a6 a7) true) (d : Nat) : ∀ n : Nat, n + d = 2 →
    Ev (fun k => quilllaw10_WordsCells.l1 k (i : Int) (n : Int) S a1 a2 a3 a4 a5 a6 a7) true := by
  induction d with
  | zero =>
    intro n hn
    refine ev_shift ?_
    simp only [quilllaw10_WordsCells.l1]
    exact ev_neg (by omega) H
  | succ d ih =>
    intro n hn
    have h2 := ih (n + 1) (by omega)
    have e1 : wrap64 ((n : Int) + 1) = ((n + 1 : Nat) : Int) := by rw [w64 (by omega) (by omega)]; omega
    have hz := hs _ (rdOf_mem (i := i) (by omega) hi)
    refine ev_shift ?_
    simp only [quilllaw10_WordsCells.l1]
    generalize rdOf ByteArray.empty S (i : Int) = s at hz ⊢
    have hrl := runesOf_len s
    refine ev_pos (by omega) (ev_pos (by omega) (ev_pos hi (Ev.bind (cells_out s (by omega) _) (Ev.bind (may_ref s (by omega)) ?_))))
    have fin : ∀ (at_ cl : List Int) (e : Int), at_.length ≤ 6000 → cl.length ≤ 6000 → Ev (fun k => quilllaw10_WordsCells.j3 k (i : Int) (n : Int) at_ cl e e at_ cl S a1 a2 a3 a4 a5 a6 a7) true := by
      intro at_ cl e h3 h4
      refine ev_shift ?_
      simp only [quilllaw10_WordsCells.j3]
      refine ev_bindc rfl (ev_pos rfl (Ev.bind (eq_ev at_ h3) (ev_pos rfl (Ev.bind (eq_ev cl h4) (ev_pos rfl (Ev.bind (spoil_ev at_ h3) ?_))))))
      rw [e1]
      exact h2
    unfold CellsIs
    cases hm : MayB s
    · rw [if_neg (by decide)]
      exact ev_neg (by decide) (fin [] [] 1 (by decide) (by decide))
    · have hsz := MayB_size hm
      have hl := cells_le (runesOf s) ((n : Int) == 1)
      rw [if_pos rfl]
      refine ev_pos rfl (ev_pos (by omega) (Ev.bind (cells_ref (by omega) _) ?_))
      exact fin _ _ 0 (by rw [atsOf_len]; omega) (by rw [clsOf_len]; omega)
theorem cells_l0 (hs : ∀ s ∈ S, s.size ≤ 6000) (d : Nat) : ∀ i : Nat, i + d = 4 → Ev (fun k => quilllaw10_WordsCells.l0 k (i : Int) S a1 a2 a3 a4 a5 a6 a7) true := by
  have stop : ∀ i : Nat, Ev (fun k => quilllaw10_WordsCells.j1 k (i : Int) false S a1 a2 a3 a4 a5 a6 a7) true := by
    intro i
    refine ev_shift ?_
    simp only [quilllaw10_WordsCells.j1]
    exact ev_neg (by decide) (Ev.bind wakes10 (Ev.now _))
  induction d with
  | zero =>
    intro i hi
    refine ev_shift ?_
    simp only [quilllaw10_WordsCells.l0]
    by_cases h : (i : Int) < S.length
    · refine ev_pos h ?_
      rw [decide_eq_false (show ¬ ((i : Int) < 4) by omega)]
      exact stop i
    · exact ev_neg h (stop i)
  | succ d ih =>
    intro i hi
    have h2 := ih (i + 1) (by omega)
    have e1 : wrap64 ((i : Int) + 1) = ((i + 1 : Nat) : Int) := by rw [w64 (by omega) (by omega)]; omega
    refine ev_shift ?_
    simp only [quilllaw10_WordsCells.l0]
    by_cases h : (i : Int) < S.length
    · refine ev_pos h ?_
      rw [decide_eq_true (show ((i : Int) < 4) by omega)]
      refine ev_shift ?_
      simp only [quilllaw10_WordsCells.j1]
      refine ev_pos (by decide) ?_
      exact cells_l1 S a1 a2 a3 a4 a5 a6 a7 hs i h (by rw [e1]; exact h2) 2 0 (by omega)
    · exact ev_neg h (stop i)
end
theorem WordsCells (l : List ByteArray) (a1 a2 a3 a4 a5 a6 a7 : Int) (hl : l.length * 16 ≤ 140737488351232) (hs : ∀ s ∈ l, s.size ≤ 140737488351232)
    (_ : (Lit.int .i64 a1).wf = true) (_ : (Lit.int .i64 a2).wf = true) (_ : (Lit.int .i64 a3).wf = true) (_ : (Lit.int .i64 a4).wf = true) (_ : (Lit.int .i64 a5).wf = true) (_ : (Lit.int .i64 a6).wf = true) (_ : (Lit.int .i64 a7).wf = true) :
    ∃ k, quilllaw10_WordsCells.f k l a1 a2 a3 a4 a5 a6 a7 = some true := by
  refine Ev.rounds ?_
  obtain ⟨v, h1, h2⟩ := heavy_ev l hl hs a1 a2 a3 a4 a5 a6 a7
  unfold quilllaw10_WordsCells.f
  refine Ev.bind h1 ?_
  cases v
  · exact ev_neg (by decide) (cells_l0 l a1 a2 a3 a4 a5 a6 a7 (h2 rfl).2 4 0 (by omega))
  · exact ev_pos rfl (Ev.now _)
end Go.Proofs.YtdcbaiimojnlnaaDoor.Q
