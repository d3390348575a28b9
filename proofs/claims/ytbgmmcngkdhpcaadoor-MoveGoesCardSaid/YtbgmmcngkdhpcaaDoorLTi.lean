/- The law on where motions lead: true at every input. Conditions: the row's. -/
import Derived.Test.YtbgmmcngkdhpcaaDoorLTh
import Derived.Test.YtbgmmcngkdhpcaaDoorP0
import Derived.Test.YtbgmmcngkdhpcaaDoorP27
namespace Go.Proofs.YtbgmmcngkdhpcaaDoor.P
open Go.RowKit Go.Proofs.YtbgmmcngkdhpcaaDoor Go.Proofs.YtbgmmcngkdhpcaaDoorW.PrintWords Go.Proofs.YtbgmmcngkdhpcaaDoorW.PrintLast Go.Proofs.YtbgmmcngkdhpcaaDoorW.PrintMore
section
variable (S : List ByteArray) (a1 a2 a3 a4 a5 a6 a7 : Int) (C : List S52) (k1 k2 : Int) (M : List S89)
theorem mg_l2 (hM : M.length ≤ 400) {s : ByteArray} (hs : s.size ≤ 6000) (i j : Nat) (ats : List Int) (hj : (j : Int) < ats.length)
    (done : Ev (fun k => quilllaw16_MoveGoes.l1 k (i : Int) s (runesOf s) ats (wrap64 ((j : Int) + 1)) S a1 a2 a3 a4 a5 a6 a7 C k1 k2 M) true) (d : Nat) : ∀ n : Nat, n + d = 12 →
    Ev (fun k => quilllaw16_MoveGoes.l2 k (i : Int) s (runesOf s) ats (j : Int) (n : Int) S a1 a2 a3 a4 a5 a6 a7 C k1 k2 M) true := by
  have stop : ∀ n : Nat, Ev (fun k => quilllaw16_MoveGoes.j5 k (i : Int) s (runesOf s) ats (j : Int) (n : Int) false S a1 a2 a3 a4 a5 a6 a7 C k1 k2 M) true := by
    intro n
    refine ev_shift ?_
    simp only [quilllaw16_MoveGoes.j5]
    exact ev_neg (by decide) done
  induction d with
  | zero =>
    intro n hn
    refine ev_shift ?_
    simp only [quilllaw16_MoveGoes.l2]
    by_cases h : (n : Int) < C.length
    · refine ev_pos h ?_
      rw [decide_eq_false (show ¬ ((n : Int) < 12) by omega)]
      exact stop n
    · exact ev_neg h (stop n)
  | succ d ih =>
    intro n hn
    have h2 := ih (n + 1) (by omega)
    have e1 : wrap64 ((n : Int) + 1) = ((n + 1 : Nat) : Int) := by rw [w64 (by omega) (by omega)]; omega
    rw [← e1] at h2
    refine ev_shift ?_
    simp only [quilllaw16_MoveGoes.l2]
    by_cases h : (n : Int) < C.length
    · refine ev_pos h ?_
      rw [decide_eq_true (show ((n : Int) < 12) by omega)]
      refine ev_shift ?_
      simp only [quilllaw16_MoveGoes.j5]
      exact ev_pos (by trivial) (ev_pos (by omega) (ev_pos hj (ev_pos (by omega) (ev_pos h (Ev.bind (one_true hs hM) (ev_pos (by trivial) h2))))))
    · exact ev_neg h (stop n)
theorem mg_l1 (hM : M.length ≤ 400) {s : ByteArray} (hs : s.size ≤ 6000) (i : Nat) (ats : List Int)
    (done : Ev (fun k => quilllaw16_MoveGoes.l0 k (wrap64 ((i : Int) + 1)) S a1 a2 a3 a4 a5 a6 a7 C k1 k2 M) true) (d : Nat) : ∀ j : Nat, j + d = 8 →
    Ev (fun k => quilllaw16_MoveGoes.l1 k (i : Int) s (runesOf s) ats (j : Int) S a1 a2 a3 a4 a5 a6 a7 C k1 k2 M) true := by
  have stop : ∀ j : Nat, Ev (fun k => quilllaw16_MoveGoes.j3 k (i : Int) s (runesOf s) ats (j : Int) false S a1 a2 a3 a4 a5 a6 a7 C k1 k2 M) true := by
    intro j
    refine ev_shift ?_
    simp only [quilllaw16_MoveGoes.j3]
    exact ev_neg (by decide) done
  induction d with
  | zero =>
    intro j hj
    refine ev_shift ?_
    simp only [quilllaw16_MoveGoes.l1]
    by_cases h : (j : Int) < ats.length
    · refine ev_pos h ?_
      rw [decide_eq_false (show ¬ ((j : Int) < 8) by omega)]
      exact stop j
    · exact ev_neg h (stop j)
  | succ d ih =>
    intro j hj
    have h2 := ih (j + 1) (by omega)
    have e1 : wrap64 ((j : Int) + 1) = ((j + 1 : Nat) : Int) := by rw [w64 (by omega) (by omega)]; omega
    rw [← e1] at h2
    refine ev_shift ?_
    simp only [quilllaw16_MoveGoes.l1]
    by_cases h : (j : Int) < ats.length
    · refine ev_pos h ?_
      rw [decide_eq_true (show ((j : Int) < 8) by omega)]
      refine ev_shift ?_
      simp only [quilllaw16_MoveGoes.j3]
      exact ev_pos (by trivial) (mg_l2 S a1 a2 a3 a4 a5 a6 a7 C k1 k2 M hM hs i j ats h h2 12 0 (by omega))
    · exact ev_neg h (stop j)
theorem mg_l0 (hM : M.length ≤ 400) (hS : ∀ s ∈ S, s.size ≤ 6000) (d : Nat) : ∀ i : Nat, i + d = 3 → Ev (fun k => quilllaw16_MoveGoes.l0 k (i : Int) S a1 a2 a3 a4 a5 a6 a7 C k1 k2 M) true := by
  have stop : ∀ i : Nat, Ev (fun k => quilllaw16_MoveGoes.j1 k (i : Int) false S a1 a2 a3 a4 a5 a6 a7 C k1 k2 M) true := by
    intro i
    refine ev_shift ?_
    simp only [quilllaw16_MoveGoes.j1]
    exact ev_neg (by decide) (Ev.bind wakes16 (Ev.now _))
  induction d with
  | zero =>
    intro i hi
    refine ev_shift ?_
    simp only [quilllaw16_MoveGoes.l0]
    by_cases h : (i : Int) < S.length
    · refine ev_pos h ?_
      rw [decide_eq_false (show ¬ ((i : Int) < 3) by omega)]
      exact stop i
    · exact ev_neg h (stop i)
  | succ d ih =>
    intro i hi
    have h2 := ih (i + 1) (by omega)
    have e1 : wrap64 ((i : Int) + 1) = ((i + 1 : Nat) : Int) := by rw [w64 (by omega) (by omega)]; omega
    rw [← e1] at h2
    refine ev_shift ?_
    simp only [quilllaw16_MoveGoes.l0]
    by_cases h : (i : Int) < S.length
    · refine ev_pos h ?_
      rw [decide_eq_true (show ((i : Int) < 3) by omega)]
      refine ev_shift ?_
      simp only [quilllaw16_MoveGoes.j1]
      refine ev_pos (by trivial) (ev_pos (by omega) (ev_pos h ?_))
      have hsz := hS _ (rdOf_mem (S := S) (i := (i : Int)) (by omega) h)
      generalize rdOf ByteArray.empty S (i : Int) = s at hsz
      have hn := runesOf_len s
      obtain ⟨ats, o1, _⟩ := offsets_ev (runesOf s) (by omega) S a1 a2 a3 a4 a5 a6 a7
      exact ev_pos (by omega) (ev_bindc rfl (Ev.bind o1 (mg_l1 S a1 a2 a3 a4 a5 a6 a7 C k1 k2 M hM hsz i ats h2 8 0 (by omega))))
    · exact ev_neg h (stop i)
theorem MoveGoes_true (hl : S.length * 16 ≤ 140737488351232) (hs : ∀ s ∈ S, s.size ≤ 140737488351232) (hC : C.length ≤ 140737488351232) (hM : M.length ≤ 140737488351232) : Ev (fun k => quilllaw16_MoveGoes.f k S a1 a2 a3 a4 a5 a6 a7 C k1 k2 M) true := by
  obtain ⟨v, h1, h2⟩ := heavy16 S hl hs a1 a2 a3 a4 a5 a6 a7 C k1 k2 M hC hM
  unfold quilllaw16_MoveGoes.f
  refine Ev.bind h1 ?_
  cases v
  · exact ev_neg (by decide) (mg_l0 S a1 a2 a3 a4 a5 a6 a7 C k1 k2 M (by have := (h2 rfl).2.2; omega) (h2 rfl).2.1 3 0 (by omega))
  · exact ev_pos (by trivial) (Ev.now _)
end
end Go.Proofs.YtbgmmcngkdhpcaaDoor.P
