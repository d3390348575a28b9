/- The statement on what lies between any two offsets, as numbers and lists. Conditions: those of the statement's row. -/
import Derived.Test.YtbgmmcngkdhpcaaDoorLSa
import Derived.Test.YtbgmmcngkdhpcaaDoorP0
import Derived.Test.YtbgmmcngkdhpcaaDoorP14
import Derived.Test.YtbgmmcngkdhpcaaDoorP15
namespace Go.Proofs.YtbgmmcngkdhpcaaDoor.P
open Go.RowKit Go.Proofs.YtbgmmcngkdhpcaaDoor Go.Proofs.YtbgmmcngkdhpcaaDoorW.PrintWords Go.Proofs.YtbgmmcngkdhpcaaDoorW.PrintLast Go.Proofs.YtbgmmcngkdhpcaaDoorW.PrintMore
theorem wakes17 : Ev (fun k => quilllaw17_wakes.f k) true := Ev.of (fun k => quilllaw17_wakes.mono k) (k := 60) (by decide +kernel)
theorem same3b (x y : Int) (b : Bool) : ¬ ((!(x == x) || (!(y == y) || (!(b == b)))) = true) := by
  rw [beq_self_eq_true, beq_self_eq_true, beq_self_eq_true]
  decide
section
variable (S : List ByteArray) (a1 a2 a3 a4 a5 a6 a7 : Int) (C : List S52) (k1 k2 : Int) (M : List S89) (s : ByteArray)
theorem rb_l3 (hs : s.size ≤ 6000) (ats : List Int) (i j m : Int) (hj : 0 ≤ j ∧ j < ats.length) (hm : 0 ≤ m ∧ m < ats.length)
    (H : Ev (fun k => quilllaw17_RegionBetween.l2 k i s (runesOf s) ats j (wrap64 (m + 1)) S a1 a2 a3 a4 a5 a6 a7 C k1 k2 M) true) (d : Nat) : ∀ n : Int, -1 ≤ n → n + d = 4 →
    Ev (fun k => quilllaw17_RegionBetween.l3 k i s (runesOf s) ats j m n S a1 a2 a3 a4 a5 a6 a7 C k1 k2 M) true := by
  have hn := runesOf_len s
  induction d with
  | zero =>
    intro n _ hn
    refine ev_shift ?_
    simp only [quilllaw17_RegionBetween.l3]
    exact ev_neg (by omega) H
  | succ d ih =>
    intro n hn0 hn
    have h2 := ih (n + 1) (by omega) (by omega)
    have e1 : wrap64 (n + 1) = n + 1 := w64 (by omega) (by omega)
    refine ev_shift ?_
    simp only [quilllaw17_RegionBetween.l3]
    refine ev_pos (by omega) (ev_pos hj.1 (ev_pos hj.2 (ev_pos hm.1 (ev_pos hm.2 ?_))))
    generalize hat : rd ats j = a
    generalize hbt : rd ats m = b
    cases hok : OkB s a b n with
    | true =>
      obtain ⟨r, r1, r2, r3, r4⟩ := between_ok (s := s) (by omega) hok
      refine Ev.bind r1 (Ev.bind (may_ref s (by omega)) ?_)
      unfold OkB at hok
      simp only [Bool.and_eq_true] at hok
      obtain ⟨q1, q2, q3, q4⟩ := hok
      rw [q1]
      refine ev_pos (by trivial) (ev_bindc (num_ref _ _) ?_)
      rw [q2]
      refine ev_pos (by trivial) (ev_bindc (num_ref _ _) ?_)
      rw [q3]
      refine ev_pos (by trivial) (ev_bindc (between_ref _ _ _) ?_)
      rw [q4]
      refine ev_shift ?_
      simp only [quilllaw17_RegionBetween.j7]
      rw [hat, hbt, e1]
      exact ev_pos (by trivial) (ev_pos hj.1 (ev_pos hj.2 (ev_pos hm.1 (ev_pos hm.2 (Ev.bind r2 (ev_bindc (num17 _) (ev_pos (by trivial) (ev_neg (same3b _ _ _) (ev_neg (by omega) (ev_neg (by omega) h2))))))))))
    | false =>
      refine Ev.bind (between_bad (by omega) hok) (Ev.bind (may_ref s (by omega)) ?_)
      have bad : Ev (fun k => quilllaw17_RegionBetween.j7 k i s (runesOf s) ats j m n 1 1 false S a1 a2 a3 a4 a5 a6 a7 C k1 k2 M 0 0 false 0 0 false) true := by
        refine ev_shift ?_
        simp only [quilllaw17_RegionBetween.j7]
        rw [e1]
        exact ev_neg (by decide) (ev_bindc (num17 _) (ev_pos (by trivial) (ev_neg (by decide) (ev_neg (by decide) (ev_neg (by omega) h2)))))
      unfold OkB at hok
      cases q1 : MayB s
      · exact ev_neg (by decide) bad
      · refine ev_pos (by trivial) (ev_bindc (num_ref _ _) ?_)
        cases q2 : decide (0 ≤ a ∧ a ≤ ((runesOf s).length : Int))
        · exact ev_neg (by decide) bad
        · refine ev_pos (by trivial) (ev_bindc (num_ref _ _) ?_)
          cases q3 : decide (0 ≤ b ∧ b ≤ ((runesOf s).length : Int))
          · exact ev_neg (by decide) bad
          · refine ev_pos (by trivial) (ev_bindc (between_ref _ _ _) ?_)
            rw [q1, q2, q3] at hok
            have q4 : decide (0 ≤ n ∧ n ≤ 2) = false := hok
            rw [q4]
            exact bad
theorem rb_l2 (hs : s.size ≤ 6000) (ats : List Int) (hats : ats.length ≤ 15) (i j : Int) (hj : 0 ≤ j ∧ j < ats.length)
    (H : Ev (fun k => quilllaw17_RegionBetween.l1 k i s (runesOf s) ats (wrap64 (j + 1)) S a1 a2 a3 a4 a5 a6 a7 C k1 k2 M) true) (d : Nat) : ∀ m : Nat, m + d = 16 →
    Ev (fun k => quilllaw17_RegionBetween.l2 k i s (runesOf s) ats j (m : Int) S a1 a2 a3 a4 a5 a6 a7 C k1 k2 M) true := by
  have stop : ∀ m : Nat, Ev (fun k => quilllaw17_RegionBetween.j5 k i s (runesOf s) ats j (m : Int) false S a1 a2 a3 a4 a5 a6 a7 C k1 k2 M) true := by
    intro m
    refine ev_shift ?_
    simp only [quilllaw17_RegionBetween.j5]
    exact ev_neg (by decide) H
  induction d with
  | zero =>
    intro m hm
    refine ev_shift ?_
    simp only [quilllaw17_RegionBetween.l2]
    exact ev_neg (by omega) (stop m)
  | succ d ih =>
    intro m hm
    have h2 := ih (m + 1) (by omega)
    have e1 : wrap64 ((m : Int) + 1) = ((m + 1 : Nat) : Int) := by rw [w64 (by omega) (by omega)]; omega
    refine ev_shift ?_
    simp only [quilllaw17_RegionBetween.l2]
    by_cases h : (m : Int) < ats.length
    · refine ev_pos h ?_
      by_cases h10 : (m : Int) < 10
      · rw [decide_eq_true h10]
        refine ev_shift ?_
        simp only [quilllaw17_RegionBetween.j5]
        refine ev_pos (by trivial) (rb_l3 S a1 a2 a3 a4 a5 a6 a7 C k1 k2 M s hs ats i j m hj ⟨by omega, h⟩ ?_ 5 (-1) (by omega) (by omega))
        rw [e1]
        exact h2
      · rw [decide_eq_false h10]
        exact stop m
    · exact ev_neg h (stop m)
theorem rb_l1 (hs : s.size ≤ 6000) (ats : List Int) (hats : ats.length ≤ 15) (i : Int)
    (H : Ev (fun k => quilllaw17_RegionBetween.l0 k (wrap64 (i + 1)) S a1 a2 a3 a4 a5 a6 a7 C k1 k2 M) true) (d : Nat) : ∀ j : Nat, j + d = 16 →
    Ev (fun k => quilllaw17_RegionBetween.l1 k i s (runesOf s) ats (j : Int) S a1 a2 a3 a4 a5 a6 a7 C k1 k2 M) true := by
  have stop : ∀ j : Nat, Ev (fun k => quilllaw17_RegionBetween.j3 k i s (runesOf s) ats (j : Int) false S a1 a2 a3 a4 a5 a6 a7 C k1 k2 M) true := by
    intro j
    refine ev_shift ?_
    simp only [quilllaw17_RegionBetween.j3]
    exact ev_neg (by decide) H
  induction d with
  | zero =>
    intro j hj
    refine ev_shift ?_
    simp only [quilllaw17_RegionBetween.l1]
    exact ev_neg (by omega) (stop j)
  | succ d ih =>
    intro j hj
    have h2 := ih (j + 1) (by omega)
    have e1 : wrap64 ((j : Int) + 1) = ((j + 1 : Nat) : Int) := by rw [w64 (by omega) (by omega)]; omega
    refine ev_shift ?_
    simp only [quilllaw17_RegionBetween.l1]
    by_cases h : (j : Int) < ats.length
    · refine ev_pos h ?_
      by_cases h10 : (j : Int) < 10
      · rw [decide_eq_true h10]
        refine ev_shift ?_
        simp only [quilllaw17_RegionBetween.j3]
        refine ev_pos (by trivial) (rb_l2 S a1 a2 a3 a4 a5 a6 a7 C k1 k2 M s hs ats hats i j ⟨by omega, h⟩ ?_ 16 0 (by omega))
        rw [e1]
        exact h2
      · rw [decide_eq_false h10]
        exact stop j
    · exact ev_neg h (stop j)
theorem rb_l0 (hS : ∀ s ∈ S, s.size ≤ 6000) (d : Nat) : ∀ i : Nat, i + d = 3 → Ev (fun k => quilllaw17_RegionBetween.l0 k (i : Int) S a1 a2 a3 a4 a5 a6 a7 C k1 k2 M) true := by
  have stop : ∀ i : Nat, Ev (fun k => quilllaw17_RegionBetween.j1 k (i : Int) false S a1 a2 a3 a4 a5 a6 a7 C k1 k2 M) true := by
    intro i
    refine ev_shift ?_
    simp only [quilllaw17_RegionBetween.j1]
    exact ev_neg (by decide) (Ev.bind wakes17 (Ev.now _))
  induction d with
  | zero =>
    intro i hi
    refine ev_shift ?_
    simp only [quilllaw17_RegionBetween.l0]
    by_cases h : (i : Int) < S.length
    · refine ev_pos h ?_
      rw [decide_eq_false (show ¬ ((i : Int) < 3) by omega)]
      exact stop i
    · exact ev_neg h (stop i)
  | succ d ih =>
    intro i hi
    have h2 := ih (i + 1) (by omega)
    have e1 : wrap64 ((i : Int) + 1) = ((i + 1 : Nat) : Int) := by rw [w64 (by omega) (by omega)]; omega
    refine ev_shift ?_
    simp only [quilllaw17_RegionBetween.l0]
    by_cases h : (i : Int) < S.length
    · refine ev_pos h ?_
      rw [decide_eq_true (show ((i : Int) < 3) by omega)]
      refine ev_shift ?_
      simp only [quilllaw17_RegionBetween.j1]
      refine ev_pos (by trivial) (ev_pos (by omega) (ev_pos h ?_))
      have hsz := hS _ (rdOf_mem (S := S) (i := (i : Int)) (by omega) h)
      generalize rdOf ByteArray.empty S (i : Int) = s at hsz
      refine ev_pos (by omega) (ev_bindc rfl ?_)
      have hn := runesOf_len s
      obtain ⟨ats, g1, g2⟩ := offsets_ev (runesOf s) (by omega) S a1 a2 a3 a4 a5 a6 a7
      refine Ev.bind g1 ?_
      refine rb_l1 S a1 a2 a3 a4 a5 a6 a7 C k1 k2 M s (by omega) ats g2 i ?_ 16 0 (by omega)
      rw [e1]
      exact h2
    · exact ev_neg h (stop i)
theorem RegionBetween_true (hl : S.length * 16 ≤ 140737488351232) (hs : ∀ s ∈ S, s.size ≤ 140737488351232) (hC : C.length ≤ 140737488351232) (hM : M.length ≤ 140737488351232) : Ev (fun k => quilllaw17_RegionBetween.f k S a1 a2 a3 a4 a5 a6 a7 C k1 k2 M) true := by
  obtain ⟨v, h1, h2⟩ := heavy16 S hl hs a1 a2 a3 a4 a5 a6 a7 C k1 k2 M hC hM
  unfold quilllaw17_RegionBetween.f
  refine Ev.bind h1 ?_
  cases v
  · exact ev_neg (by decide) (rb_l0 S a1 a2 a3 a4 a5 a6 a7 C k1 k2 M (h2 rfl).2.1 3 0 (by omega))
  · exact ev_pos (by trivial) (Ev.now _)
end
end Go.Proofs.YtbgmmcngkdhpcaaDoor.P
