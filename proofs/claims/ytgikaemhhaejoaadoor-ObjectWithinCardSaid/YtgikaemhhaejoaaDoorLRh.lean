/- The statement that a tells what i tells: the program's pieces, of both ways. Conditions: those of the statement's row. -/
import Derived.Test.YtgikaemhhaejoaaDoorLRf
import Derived.Test.YtgikaemhhaejoaaDoorP0
import Derived.Test.YtgikaemhhaejoaaDoorP20
namespace Go.Proofs.YtgikaemhhaejoaaDoor.P
open Go.RowKit Go.Proofs.YtgikaemhhaejoaaDoor Go.Proofs.YtgikaemhhaejoaaDoorW.PrintWords Go.Proofs.YtgikaemhhaejoaaDoorW.PrintLast Go.Proofs.YtgikaemhhaejoaaDoorW.PrintMore
/-- What both ways tell together. -/
def Both (n : Int) (line : Bool) (x y : Int × Int × Bool × Int) : Prop :=
  x.2.2.2 = 0 → y.2.2.2 = 0 → x.1 ≤ x.2.1 ∧ y.1 ≤ x.1 ∧ x.2.1 ≤ y.2.1 ∧ x.2.2.1 = y.2.2.1 ∧ x.2.2.1 = line ∧ y.2.1 ≤ n
theorem piece_two (s : ByteArray) (hs : s.size ≤ 6000) (a key : Int) :
    ∃ x y, Ev (fun k => object_Piece.f k s a 105 key 1) x ∧ Ev (fun k => object_Piece.f k s a 97 key 1) y ∧ Both (runesOf s).length (key == 112) x y := by
  by_cases h : OkP s a 105 key 1 = true
  · unfold OkP at h
    simp only [Bool.and_eq_true] at h
    obtain ⟨hm, ha, _, ho, _⟩ := h
    have hsz := may_size hm
    have ha' := of_decide_eq_true ha
    obtain ⟨B, hof, hB⟩ := of_ev s hsz
    obtain ⟨lo, hi1, g1, g2, g3⟩ := piece_both hsz hm hof hB ha'.1 ha'.2 ho (show (1 : Int) ≤ 1 by decide) (by decide)
    obtain ⟨x, x1, _, x3⟩ := g3 105 (.inl rfl)
    obtain ⟨y, y1, _, y3⟩ := g3 97 (.inr rfl)
    refine ⟨x, y, x1, y1, fun ex ey => ?_⟩
    rcases x3 with e | ⟨_, e⟩ | ⟨e, _⟩
    · rw [e] at ex
      exact absurd ex (by decide)
    · rcases y3 with f | ⟨f, _⟩ | ⟨_, l, g, p1, p2, p3, f⟩
      · rw [f] at ey
        exact absurd ey (by decide)
      · exact absurd f (by decide)
      · rw [e, f]
        exact ⟨g1, p1, p2, rfl, rfl, p3⟩
    · exact absurd rfl e
  · have h105 : OkP s a 105 key 1 = false := Bool.eq_false_iff.mpr h
    have h97 : OkP s a 97 key 1 = false := h105
    exact ⟨_, _, piece_bad (by omega) h105, piece_bad (by omega) h97, fun e => absurd e (by decide)⟩
theorem numW (x : Int) : quilllaw15_num.f x = some x := rfl
section
variable (S : List ByteArray) (a1 a2 a3 a4 a5 a6 a7 : Int) (keys : List Int)
theorem within_l2 (hkeys : keys.length ≤ 100) (ats : List Int) (i j : Int) (hi' : 0 ≤ i ∧ i < S.length) (hj : 0 ≤ j ∧ j < ats.length) (hs : (rdOf ByteArray.empty S i).size ≤ 6000)
    (H : Ev (fun k => quilllaw15_ObjectWithin.l1 k keys i (runesOf (rdOf ByteArray.empty S i)) ats (wrap64 (j + 1)) S a1 a2 a3 a4 a5 a6 a7) true) (d : Nat) : ∀ ki : Nat, ki + d = keys.length →
    Ev (fun k => quilllaw15_ObjectWithin.l2 k keys i (runesOf (rdOf ByteArray.empty S i)) ats j (ki : Int) S a1 a2 a3 a4 a5 a6 a7) true := by
  induction d with
  | zero =>
    intro ki hk
    refine ev_shift ?_
    simp only [quilllaw15_ObjectWithin.l2]
    exact ev_neg (by omega) H
  | succ d ih =>
    intro ki hk
    have h2 := ih (ki + 1) (by omega)
    have e1 : wrap64 ((ki : Int) + 1) = ((ki + 1 : Nat) : Int) := by rw [w64 (by omega) (by omega)]; omega
    obtain ⟨x, y, x1, y1, b⟩ := piece_two (rdOf ByteArray.empty S i) hs (rd ats j) (rd keys ki)
    have skip : Ev (fun k => quilllaw15_ObjectWithin.j4 k keys i (runesOf (rdOf ByteArray.empty S i)) ats j (ki : Int) true S a1 a2 a3 a4 a5 a6 a7 x.1 x.2.1 x.2.2.1 y.1 y.2.1 y.2.2.1) true := by
      refine ev_shift ?_
      simp only [quilllaw15_ObjectWithin.j4]
      rw [e1]
      exact ev_pos (by trivial) h2
    refine ev_shift ?_
    simp only [quilllaw15_ObjectWithin.l2]
    refine ev_pos (by omega) (ev_pos hi'.1 (ev_pos hi'.2 (ev_pos hj.1 (ev_pos hj.2 (ev_pos (by omega) (Ev.bind x1 (Ev.bind y1 (ev_bindc (numW _) ?_))))))))
    by_cases ex : x.2.2.2 = 0
    · refine ev_pos ex (ev_bindc (numW _) ?_)
      by_cases ey : y.2.2.2 = 0
      · obtain ⟨b1, b2, b3, b4, b5, b6⟩ := b ex ey
        rw [bne_eq_false_iff_eq.mpr ey]
        refine ev_shift ?_
        simp only [quilllaw15_ObjectWithin.j4]
        rw [e1]
        refine ev_neg (by decide) (ev_neg (by omega) (ev_neg (by omega) (ev_neg (by omega) (ev_neg ?_ (ev_pos (by omega) (ev_pos (by omega) (ev_neg ?_ (ev_neg (by omega) h2))))))))
        · rw [b4, bne_self_eq_false]
          decide
        · rw [b5, bne_self_eq_false]
          decide
      · rw [bne_iff_ne.mpr ey]
        exact skip
    · exact ev_neg ex skip
theorem within_l1 (hkeys : keys.length ≤ 100) (ats : List Int) (hats : ats.length ≤ 15) (i : Int) (hi' : 0 ≤ i ∧ i < S.length) (hs : (rdOf ByteArray.empty S i).size ≤ 6000)
    (H : Ev (fun k => quilllaw15_ObjectWithin.l0 k keys (wrap64 (i + 1)) S a1 a2 a3 a4 a5 a6 a7) true) (d : Nat) : ∀ j : Nat, j + d = ats.length →
    Ev (fun k => quilllaw15_ObjectWithin.l1 k keys i (runesOf (rdOf ByteArray.empty S i)) ats (j : Int) S a1 a2 a3 a4 a5 a6 a7) true := by
  induction d with
  | zero =>
    intro j hj
    refine ev_shift ?_
    simp only [quilllaw15_ObjectWithin.l1]
    exact ev_neg (by omega) H
  | succ d ih =>
    intro j hj
    have h2 := ih (j + 1) (by omega)
    refine ev_shift ?_
    simp only [quilllaw15_ObjectWithin.l1]
    refine ev_pos (by omega) ?_
    refine within_l2 S a1 a2 a3 a4 a5 a6 a7 keys hkeys ats i j hi' (by omega) hs ?_ keys.length 0 (by omega)
    rw [w64 (x := (j : Int) + 1) (by omega) (by omega)]
    exact_mod_cast h2
theorem within_l0 (hS : ∀ s ∈ S, s.size ≤ 6000) (hkeys : keys.length ≤ 100) (d : Nat) : ∀ i : Nat, i + d = 4 → Ev (fun k => quilllaw15_ObjectWithin.l0 k keys (i : Int) S a1 a2 a3 a4 a5 a6 a7) true := by
  have stop : ∀ i : Nat, Ev (fun k => quilllaw15_ObjectWithin.j1 k keys (i : Int) false S a1 a2 a3 a4 a5 a6 a7) true := by
    intro i
    refine ev_shift ?_
    simp only [quilllaw15_ObjectWithin.j1]
    exact ev_neg (by decide) (Ev.bind wakes15 (Ev.now _))
  induction d with
  | zero =>
    intro i hi
    refine ev_shift ?_
    simp only [quilllaw15_ObjectWithin.l0]
    by_cases h : (i : Int) < S.length
    · refine ev_pos h ?_
      rw [decide_eq_false (show ¬ ((i : Int) < 4) by omega)]
      exact stop i
    · exact ev_neg h (stop i)
  | succ d ih =>
    intro i hi
    have h2 := ih (i + 1) (by omega)
    have e1 : wrap64 ((i : Int) + 1) = ((i + 1 : Nat) : Int) := by rw [w64 (by omega) (by omega)]; omega
    refine ev_shift ?_
    simp only [quilllaw15_ObjectWithin.l0]
    by_cases h : (i : Int) < S.length
    · refine ev_pos h ?_
      rw [decide_eq_true (show ((i : Int) < 4) by omega)]
      refine ev_shift ?_
      simp only [quilllaw15_ObjectWithin.j1]
      refine ev_pos (by trivial) (ev_pos (by omega) (ev_pos h ?_))
      have hsz := hS _ (rdOf_mem (S := S) (i := (i : Int)) (by omega) h)
      refine ev_pos (by omega) (ev_bindc rfl ?_)
      have hn := runesOf_len (rdOf ByteArray.empty S (i : Int))
      obtain ⟨ats, g1, g2⟩ := offsets_ev (runesOf (rdOf ByteArray.empty S (i : Int))) (by omega) S a1 a2 a3 a4 a5 a6 a7
      refine Ev.bind g1 ?_
      refine within_l1 S a1 a2 a3 a4 a5 a6 a7 keys hkeys ats g2 i ⟨by omega, h⟩ hsz ?_ ats.length 0 (by omega)
      rw [e1]
      exact h2
    · exact ev_neg h (stop i)
theorem within_true (hl : S.length * 16 ≤ 140737488351232) (hs : ∀ s ∈ S, s.size ≤ 140737488351232) : Ev (fun k => quilllaw15_ObjectWithin.f k S a1 a2 a3 a4 a5 a6 a7) true := by
  obtain ⟨v, h1, h2⟩ := heavy_ev S hl hs a1 a2 a3 a4 a5 a6 a7
  unfold quilllaw15_ObjectWithin.f
  refine Ev.bind h1 ?_
  cases v
  · exact ev_neg (by decide) (within_l0 S a1 a2 a3 a4 a5 a6 a7 _ (h2 rfl).2 (by decide) 4 0 (by omega))
  · exact ev_pos (by trivial) (Ev.now _)
end
end Go.Proofs.YtgikaemhhaejoaaDoor.P
