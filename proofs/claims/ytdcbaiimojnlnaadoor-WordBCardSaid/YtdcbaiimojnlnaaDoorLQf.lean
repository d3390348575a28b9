/- The statements on words: whichever offset, key and count is asked, the program and the document answer alike. Conditions: those of the statements' rows. -/
import Derived.Test.YtdcbaiimojnlnaaDoorLQe
import Derived.Test.YtdcbaiimojnlnaaDoorP0
import Derived.Test.YtdcbaiimojnlnaaDoorP8
namespace Go.Proofs.YtdcbaiimojnlnaaDoor.P
open Go.RowKit Go.Proofs.YtdcbaiimojnlnaaDoor Go.Proofs.YtdcbaiimojnlnaaDoorW.PrintWords Go.Proofs.YtdcbaiimojnlnaaDoorW.PrintLast Go.Proofs.YtdcbaiimojnlnaaDoorW.PrintMore
theorem num_ref (at_ n : Int) : quillref0_Num.f at_ n = some (decide (0 ≤ at_ ∧ at_ ≤ n)) := by
  unfold quillref0_Num.f
  by_cases h : at_ ≥ 0
  · rw [if_pos h]
    congr 1
    exact decide_eq_decide.2 ⟨fun h2 => ⟨h, h2⟩, fun h2 => h2.2⟩
  · rw [if_neg h, decide_eq_false (show ¬ (0 ≤ at_ ∧ at_ ≤ n) by omega)]
theorem between_ref (a b c : Int) : quillref0_Between.f a b c = some (decide (b ≤ a ∧ a ≤ c)) := by
  unfold quillref0_Between.f
  by_cases h : a ≥ b
  · rw [if_pos h]
    congr 1
    exact decide_eq_decide.2 ⟨fun h2 => ⟨h, h2⟩, fun h2 => h2.2⟩
  · rw [if_neg h, decide_eq_false (show ¬ (b ≤ a ∧ a ≤ c) by omega)]
section
variable (S : List ByteArray) (a1 a2 a3 a4 a5 a6 a7 : Int) (keys : List Int) (s : ByteArray)
theorem moves_l3 (hs : s.size ≤ 400) (ats : List Int) (i j : Int) (ki : Int) (counts : List Int) (hj : 0 ≤ j ∧ j < ats.length) (hk : 0 ≤ ki ∧ ki < keys.length) (hc : counts.length = 3)
    (H : Ev (fun k => quilllaw10_moves.l2 k keys i s (runesOf s) ats ki (wrap64 (j + 1)) S a1 a2 a3 a4 a5 a6 a7) true) (d : Nat) : ∀ n : Nat, n + d = 3 →
    Ev (fun k => quilllaw10_moves.l3 k keys i s (runesOf s) ats ki j counts (n : Int) S a1 a2 a3 a4 a5 a6 a7) true := by
  have hn := runesOf_len s
  induction d with
  | zero =>
    intro n hn
    refine ev_shift ?_
    simp only [quilllaw10_moves.l3]
    exact ev_neg (by omega) H
  | succ d ih =>
    intro n hn
    have h2 := ih (n + 1) (by omega)
    have e1 : wrap64 ((n : Int) + 1) = ((n + 1 : Nat) : Int) := by rw [w64 (by omega) (by omega)]; omega
    refine ev_shift ?_
    simp only [quilllaw10_moves.l3]
    refine ev_pos (by omega) (ev_pos hj.1 (ev_pos hj.2 (ev_pos hk.1 (ev_pos hk.2 (ev_pos (by omega) (ev_pos (by omega) (Ev.bind (move_prog s (by omega) _ _ _) (Ev.bind (may_ref s (by omega)) ?_))))))))
    generalize hat : rd ats j = at_
    generalize hky : rd keys ki = key
    generalize hco : rd counts n = count
    have bad : MoveOk s at_ key count = false → Ev (fun k => quilllaw10_moves.j5 k keys i s (runesOf s) ats ki j counts (n : Int) (MoveIs s at_ key count).1 (MoveIs s at_ key count).2 1 0 false S a1 a2 a3 a4 a5 a6 a7) true := by
      intro hb
      unfold MoveIs
      rw [if_neg (by rw [hb]; decide)]
      refine ev_shift ?_
      simp only [quilllaw10_moves.j5]
      refine ev_neg (by decide) (ev_bindc rfl (ev_pos (by decide) (ev_pos (by decide) ?_)))
      rw [e1]
      exact h2
    cases hm : MayB s
    · exact ev_neg (by decide) (bad (by unfold MoveOk; rw [hm]; simp))
    · refine ev_pos rfl (ev_bindc (num_ref _ _) ?_)
      by_cases ha : 0 ≤ at_ ∧ at_ ≤ ((runesOf s).length : Int)
      · rw [decide_eq_true ha]
        refine ev_pos rfl (Ev.bind (word_ref _) ?_)
        cases hw : WordB key
        · exact ev_neg (by decide) (bad (by unfold MoveOk; rw [hw]; simp))
        · refine ev_pos rfl (ev_bindc (between_ref _ _ _) ?_)
          by_cases hcc : 1 ≤ count ∧ count ≤ 999
          · rw [decide_eq_true hcc]
            have hok : MoveOk s at_ key count = true := by unfold MoveOk; rw [hm, hw, decide_eq_true ha, decide_eq_true hcc]; rfl
            have hr := move_ref (R := runesOf s) (by omega) (at_ := at_) hw hcc.1 hcc.2
            unfold MoveIs
            rw [if_pos hok]
            refine ev_shift ?_
            simp only [quilllaw10_moves.j5]
            rw [hat, hky, hco, e1]
            refine ev_pos (by decide) (ev_pos hj.1 (ev_pos hj.2 (ev_pos hk.1 (ev_pos hk.2 (ev_pos (by omega) (ev_pos (by omega) (Ev.bind hr (ev_bindc rfl (ev_pos rfl (ev_pos rfl ?_))))))))))
            exact h2
          · rw [decide_eq_false hcc]
            exact bad (by unfold MoveOk; rw [decide_eq_false hcc]; simp)
      · rw [decide_eq_false ha]
        exact ev_neg (by decide) (bad (by unfold MoveOk; rw [decide_eq_false ha]; simp))
theorem moves_l2 (hs : s.size ≤ 400) (ats : List Int) (hats : ats.length ≤ 15) (i ki : Int) (hk : 0 ≤ ki ∧ ki < keys.length)
    (H : Ev (fun k => quilllaw10_moves.l1 k keys i s (runesOf s) ats (wrap64 (ki + 1)) S a1 a2 a3 a4 a5 a6 a7) true) (d : Nat) : ∀ j : Nat, j + d = ats.length →
    Ev (fun k => quilllaw10_moves.l2 k keys i s (runesOf s) ats ki (j : Int) S a1 a2 a3 a4 a5 a6 a7) true := by
  induction d with
  | zero =>
    intro j hj
    refine ev_shift ?_
    simp only [quilllaw10_moves.l2]
    exact ev_neg (by omega) H
  | succ d ih =>
    intro j hj
    have h2 := ih (j + 1) (by omega)
    obtain ⟨v, hv⟩ := within_some a6 4 (by decide) (by decide)
    refine ev_shift ?_
    simp only [quilllaw10_moves.l2]
    refine ev_pos (by omega) (ev_bindc hv ?_)
    refine moves_l3 S a1 a2 a3 a4 a5 a6 a7 keys s hs ats i j ki _ (by omega) hk rfl ?_ 3 0 (by omega)
    rw [w64 (x := (j : Int) + 1) (by omega) (by omega)]
    exact_mod_cast h2
theorem moves_l1 (hs : s.size ≤ 400) (hkeys : keys.length ≤ 100) (ats : List Int) (hats : ats.length ≤ 15) (i : Int)
    (H : Ev (fun k => quilllaw10_moves.l0 k keys (wrap64 (i + 1)) S a1 a2 a3 a4 a5 a6 a7) true) (d : Nat) : ∀ ki : Nat, ki + d = keys.length →
    Ev (fun k => quilllaw10_moves.l1 k keys i s (runesOf s) ats (ki : Int) S a1 a2 a3 a4 a5 a6 a7) true := by
  induction d with
  | zero =>
    intro ki hk
    refine ev_shift ?_
    simp only [quilllaw10_moves.l1]
    exact ev_neg (by omega) H
  | succ d ih =>
    intro ki hk
    have h2 := ih (ki + 1) (by omega)
    refine ev_shift ?_
    simp only [quilllaw10_moves.l1]
    refine ev_pos (by omega) ?_
    refine moves_l2 S a1 a2 a3 a4 a5 a6 a7 keys s hs ats hats i ki (by omega) ?_ ats.length 0 (by omega)
    rw [w64 (x := (ki : Int) + 1) (by omega) (by omega)]
    exact_mod_cast h2
theorem moves_l0 (hkeys : keys.length ≤ 100) (d : Nat) : ∀ i : Nat, i + d = 4 → Ev (fun k => quilllaw10_moves.l0 k keys (i : Int) S a1 a2 a3 a4 a5 a6 a7) true := by
  have stop : ∀ i : Nat, Ev (fun k => quilllaw10_moves.j1 k keys (i : Int) false S a1 a2 a3 a4 a5 a6 a7) true := by
    intro i
    refine ev_shift ?_
    simp only [quilllaw10_moves.j1]
    exact ev_neg (by decide) (Ev.bind wakes10 (Ev.now _))
  induction d with
  | zero =>
    intro i hi
    refine ev_shift ?_
    simp only [quilllaw10_moves.l0]
    by_cases h : (i : Int) < S.length
    · refine ev_pos h ?_
      rw [decide_eq_false (show ¬ ((i : Int) < 4) by omega)]
      exact stop i
    · exact ev_neg h (stop i)
  | succ d ih =>
    intro i hi
    have h2 := ih (i + 1) (by omega)
    have e1 : wrap64 ((i : Int) + 1) = ((i + 1 : Nat) : Int) := by rw [w64 (by omega) (by omega)]; omega
    refine ev_shift ?_
    simp only [quilllaw10_moves.l0]
    by_cases h : (i : Int) < S.length
    · refine ev_pos h ?_
      rw [decide_eq_true (show ((i : Int) < 4) by omega)]
      refine ev_shift ?_
      simp only [quilllaw10_moves.j1]
      refine ev_pos (by decide) (ev_pos (by omega) (ev_pos h ?_))
      generalize rdOf ByteArray.empty S (i : Int) = s
      by_cases hz : (s.size : Int) > 400
      · refine ev_pos hz ?_
        rw [e1]
        exact h2
      · refine ev_neg hz (ev_pos (by omega) (ev_bindc rfl ?_))
        have hn := runesOf_len s
        obtain ⟨ats, g1, g2⟩ := offsets_ev (runesOf s) (by omega) S a1 a2 a3 a4 a5 a6 a7
        refine Ev.bind g1 ?_
        refine moves_l1 S a1 a2 a3 a4 a5 a6 a7 keys s (by omega) hkeys ats g2 i ?_ keys.length 0 (by omega)
        rw [e1]
        exact h2
    · exact ev_neg h (stop i)
theorem moves_true (hl : S.length * 16 ≤ 140737488351232) (hs : ∀ s ∈ S, s.size ≤ 140737488351232) (hkeys : keys.length ≤ 100) : Ev (fun k => quilllaw10_moves.f k S a1 a2 a3 a4 a5 a6 a7 keys) true := by
  obtain ⟨v, h1, _⟩ := heavy_ev S hl hs a1 a2 a3 a4 a5 a6 a7
  unfold quilllaw10_moves.f
  refine Ev.bind h1 ?_
  cases v
  · exact ev_neg (by decide) (moves_l0 S a1 a2 a3 a4 a5 a6 a7 keys hkeys 4 0 (by omega))
  · exact ev_pos rfl (Ev.now _)
end
end Go.Proofs.YtdcbaiimojnlnaaDoor.P
