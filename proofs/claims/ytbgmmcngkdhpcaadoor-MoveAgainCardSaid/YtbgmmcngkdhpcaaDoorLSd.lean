/- The statement that ; goes on as f did, and , the other way, as numbers and lists. Conditions: those of the statement's row. -/
import Derived.Test.YtbgmmcngkdhpcaaDoorLB
import Derived.Test.YtbgmmcngkdhpcaaDoorP0
import Derived.Test.YtbgmmcngkdhpcaaDoorP16
import Derived.Test.YtbgmmcngkdhpcaaDoorP26
import Derived.Test.YtbgmmcngkdhpcaaDoorP28
namespace Go.Proofs.YtbgmmcngkdhpcaaDoor.P
open Go.RowKit Go.Proofs.YtbgmmcngkdhpcaaDoor Go.Proofs.YtbgmmcngkdhpcaaDoorW.PrintWords Go.Proofs.YtbgmmcngkdhpcaaDoorW.PrintLast Go.Proofs.YtbgmmcngkdhpcaaDoorW.PrintMore
theorem wakes16 : Ev (fun k => quilllaw16_wakes.f k) true := ⟨60, fun k hk => by
  obtain ⟨m, rfl⟩ : ∃ m, k = m + 60 := ⟨k - 60, by omega⟩
  kernel_rfl⟩
theorem num16 (x : Int) : quilllaw16_num.f x = some x := rfl
theorem same2 (x y : Int) : ¬ ((!(x == x) || (!(y == y))) = true) := by
  rw [beq_self_eq_true, beq_self_eq_true]
  decide
section
variable {s : ByteArray} (hm : MayB s = true) {B : List Int} (hof : Ev (fun k => text_Of.f k s) (runesOf s, B)) {a : Int} (a0 : 0 ≤ a) (a1 : a ≤ (runesOf s).length)
include hm hof a0 a1
theorem ma_seek {key r k1 k2 : Int} (hk : key = 102 ∨ key = 70 ∨ key = 116 ∨ key = 84) (hk1 : k1 = 0 ∨ SeekB k1 = true) {v : Int × Int} (hv : Ev (fun k => seek_Find.f k s a key r 1) v) :
    Ev (fun k => move_Go.f k s a 0 0 0 key 0 r k1 k2 ([] : List S89)) (if v.2 = 0 then (v.1, kdS key, key, r, 0) else (0, 0, 0, 0, v.2)) := by
  have hkd := kind_seek hk
  have hg : Ev (fun k => move_goes.f k s a 0 0 0 key 0 r k1 k2 ([] : List S89)) (v.1, kdS key, v.2) := by
    unfold move_goes.f
    refine ev_bindc (show move_kind.f key = some 3 from congrArg some hkd) (ev_neg (by decide) (ev_pos rfl ?_))
    exact Ev.bind (found_ev (a := a) (n := 1) hv) (Ev.now _)
  have h := go_ok hm hof a0 a1 (by rw [hkd]; decide) (by omega) hk1 may_nil hg
  rw [if_pos (show SeekB key = true from decide_eq_true hk)] at h
  exact h
theorem ma_next {r k1 k2 : Int} (hk : k1 = 102 ∨ k1 = 70 ∨ k1 = 116 ∨ k1 = 84) {v : Int × Int} (hv : Ev (fun k => seek_Find.f k s a k1 k2 1) v) :
    Ev (fun k => move_Go.f k s a 0 0 0 59 0 r k1 k2 ([] : List S89)) (if v.2 = 0 then (v.1, kdS k1, k1, k2, 0) else (0, 0, 0, 0, v.2)) := by
  have hg : Ev (fun k => move_goes.f k s a 0 0 0 59 0 r k1 k2 ([] : List S89)) (v.1, kdS k1, v.2) := by
    unfold move_goes.f
    refine ev_bindc (show move_kind.f 59 = some 4 from by decide +kernel) (ev_neg (by decide) (ev_neg (by decide) (ev_pos rfl ?_)))
    unfold move_again.f
    exact Ev.bind (ev_neg (by omega) (ev_neg (by decide) (Ev.bind (found_ev (a := a) (n := 1) hv) (Ev.now _)))) (Ev.now _)
  have h := go_ok hm hof a0 a1 (by decide +kernel) (by omega) (.inr (show SeekB k1 = true from decide_eq_true hk)) may_nil hg
  rw [if_neg (show ¬ SeekB 59 = true by decide)] at h
  exact h
theorem ma_back {r k1 k2 t : Int} (hk : k1 = 102 ∨ k1 = 70 ∨ k1 = 116 ∨ k1 = 84) (ht : seek_Turned.f k1 = some (t, 0)) {v : Int × Int} (hv : Ev (fun k => seek_Find.f k s a t k2 1) v) :
    Ev (fun k => move_Go.f k s a 0 0 0 44 0 r k1 k2 ([] : List S89)) (if v.2 = 0 then (v.1, kdS t, k1, k2, 0) else (0, 0, 0, 0, v.2)) := by
  have hg : Ev (fun k => move_goes.f k s a 0 0 0 44 0 r k1 k2 ([] : List S89)) (v.1, kdS t, v.2) := by
    unfold move_goes.f
    refine ev_bindc (show move_kind.f 44 = some 4 from by decide +kernel) (ev_neg (by decide) (ev_neg (by decide) (ev_pos rfl ?_)))
    unfold move_again.f
    exact Ev.bind (ev_neg (by omega) (ev_pos rfl (ev_bindc ht (Ev.bind (found_ev (a := a) (n := 1) hv) (Ev.now _))))) (Ev.now _)
  have h := go_ok hm hof a0 a1 (by decide +kernel) (by omega) (.inr (show SeekB k1 = true from decide_eq_true hk)) may_nil hg
  rw [if_neg (show ¬ SeekB 44 = true by decide)] at h
  exact h
end
theorem key_at (m : Nat) : ∃ key : Int, rd [102, 70, 116, 84] (Int.tmod (m : Int) 4) = key ∧ (key = 102 ∨ key = 70 ∨ key = 116 ∨ key = 84) ∧ 0 ≤ Int.tmod (m : Int) 4 ∧ Int.tmod (m : Int) 4 < 4 := by
  have e : Int.tmod (m : Int) 4 = ((m % 4 : Nat) : Int) := rfl
  rw [e]
  have h4 : m % 4 < 4 := Nat.mod_lt _ (by decide)
  have : m % 4 = 0 ∨ m % 4 = 1 ∨ m % 4 = 2 ∨ m % 4 = 3 := by omega
  rcases this with q | q | q | q <;> rw [q]
  · exact ⟨102, rfl, by decide, by decide, by decide⟩
  · exact ⟨70, rfl, by decide, by decide, by decide⟩
  · exact ⟨116, rfl, by decide, by decide, by decide⟩
  · exact ⟨84, rfl, by decide, by decide, by decide⟩
section
variable (S : List ByteArray) (a1 a2 a3 a4 a5 a6 a7 : Int) (C : List S52) (k1 k2 : Int) (M : List S89) (s : ByteArray)
theorem ma_l1 (hm : MayB s = true) {B : List Int} (hof : Ev (fun k => text_Of.f k s) (runesOf s, B)) (hB : Beg (runesOf s) B (runesOf s).length) (i : Int)
    (H : Ev (fun k => quilllaw16_MoveAgain.l0 k (wrap64 (i + 1)) S a1 a2 a3 a4 a5 a6 a7 C k1 k2 M) true) (d : Nat) : ∀ m : Nat, m + d = (runesOf s).length →
    Ev (fun k => quilllaw16_MoveAgain.l1 k i s (runesOf s) (m : Int) S a1 a2 a3 a4 a5 a6 a7 C k1 k2 M) true := by
  have hsz := may_size hm
  have hn := runesOf_len s
  induction d with
  | zero =>
    intro m hd
    refine ev_shift ?_
    simp only [quilllaw16_MoveAgain.l1]
    exact ev_neg (by omega) H
  | succ d ih =>
    intro m hd
    have h2 := ih (m + 1) (by omega)
    have e1 : wrap64 ((m : Int) + 1) = ((m + 1 : Nat) : Int) := by rw [w64 (by omega) (by omega)]; omega
    obtain ⟨key, q1, q2, q3, q4⟩ := key_at m
    have hl0 : (runesOf s).length ≠ 0 := by omega
    have u : Int.tmod ((m + 1 : Nat) : Int) ((runesOf s).length : Int) = (((m + 1) % (runesOf s).length : Nat) : Int) := rfl
    have ul : (m + 1) % (runesOf s).length < (runesOf s).length := Nat.mod_lt _ (by omega)
    refine ev_shift ?_
    simp only [quilllaw16_MoveAgain.l1]
    rw [e1, u]
    generalize wrap64 (rd (runesOf s) (((m + 1) % (runesOf s).length : Nat) : Int)) = r
    refine ev_pos (by omega) (ev_bindc rfl (ev_pos q3 (ev_pos q4 (ev_neg (by omega) (ev_pos (by omega) (ev_pos (by omega) ?_))))))
    rw [q1]
    have b0 : (0 : Int) ≤ (m : Int) := by omega
    have b1 : (m : Int) ≤ (runesOf s).length := by omega
    obtain ⟨v, v1, _, v3⟩ := find_both hm hof hB b0 b1 (r := r) q2 (n := 1) (by decide) (by decide)
    obtain ⟨t, t1, t2, t3⟩ := turned_both q2
    obtain ⟨x, x1, _, x3⟩ := find_both hm hof hB b0 b1 (r := r) t1 (n := 1) (by decide) (by decide)
    refine Ev.bind (ma_seek hm hof b0 b1 q2 (.inl rfl) v1) (ev_bindc (num16 _) ?_)
    rcases v3 with ⟨v4, _⟩ | v4
    · rw [if_pos v4]
      refine ev_pos rfl (Ev.bind (ma_next hm hof b0 b1 q2 v1) (Ev.bind (ma_seek hm hof b0 b1 q2 (.inr (by decide)) v1) (Ev.bind (ma_back hm hof b0 b1 q2 t2 x1) (ev_bindc t3 (Ev.bind (ma_seek hm hof b0 b1 t1 (.inl rfl) x1) (ev_bindc (num16 _) ?_))))))
      rw [if_pos v4]
      try rw [if_pos v4]
      refine ev_pos rfl (ev_bindc (num16 _) (ev_pos rfl (ev_neg (same2 _ _) (ev_neg (same2 _ _) (ev_bindc (num16 _) (ev_bindc (num16 _) ?_))))))
      rcases x3 with ⟨x4, _⟩ | x4
      · rw [if_pos x4, if_pos x4]
        exact ev_pos rfl (ev_neg (same2 _ _) h2)
      · rw [x4]
        exact ev_pos rfl (ev_neg (same2 _ _) h2)
    · rw [v4]
      exact ev_neg (by simp) h2
theorem ma_l0 (hS : ∀ s ∈ S, s.size ≤ 6000) (d : Nat) : ∀ i : Nat, i + d = 3 → Ev (fun k => quilllaw16_MoveAgain.l0 k (i : Int) S a1 a2 a3 a4 a5 a6 a7 C k1 k2 M) true := by
  have stop : ∀ i : Nat, Ev (fun k => quilllaw16_MoveAgain.j1 k (i : Int) false S a1 a2 a3 a4 a5 a6 a7 C k1 k2 M) true := by
    intro i
    refine ev_shift ?_
    simp only [quilllaw16_MoveAgain.j1]
    exact ev_neg (by decide) (Ev.bind wakes16 (Ev.now _))
  induction d with
  | zero =>
    intro i hi
    refine ev_shift ?_
    simp only [quilllaw16_MoveAgain.l0]
    by_cases h : (i : Int) < S.length
    · refine ev_pos h ?_
      rw [decide_eq_false (show ¬ ((i : Int) < 3) by omega)]
      exact stop i
    · exact ev_neg h (stop i)
  | succ d ih =>
    intro i hi
    have h2 := ih (i + 1) (by omega)
    have e1 : wrap64 ((i : Int) + 1) = ((i + 1 : Nat) : Int) := by rw [w64 (by omega) (by omega)]; omega
    refine ev_shift ?_
    simp only [quilllaw16_MoveAgain.l0]
    by_cases h : (i : Int) < S.length
    · refine ev_pos h ?_
      rw [decide_eq_true (show ((i : Int) < 3) by omega)]
      refine ev_shift ?_
      simp only [quilllaw16_MoveAgain.j1]
      refine ev_pos (by trivial) (ev_pos (by omega) (ev_pos h ?_))
      have hsz := hS _ (rdOf_mem (S := S) (i := (i : Int)) (by omega) h)
      generalize rdOf ByteArray.empty S (i : Int) = s at hsz
      have skip : Ev (fun k => quilllaw16_MoveAgain.j2 k (i : Int) s (runesOf s) true S a1 a2 a3 a4 a5 a6 a7 C k1 k2 M) true := by
        refine ev_shift ?_
        simp only [quilllaw16_MoveAgain.j2]
        rw [e1]
        exact ev_pos (by trivial) h2
      refine ev_pos (by omega) (ev_bindc rfl (Ev.bind (may_ref s (by omega)) ?_))
      cases hm : MayB s
      · exact ev_neg (by decide) skip
      · refine ev_pos (by trivial) ?_
        cases hb : decide (((runesOf s).length : Int) > 300)
        · obtain ⟨B, hof, hB⟩ := of_ev s (may_size hm)
          refine ev_shift ?_
          simp only [quilllaw16_MoveAgain.j2]
          refine ev_neg (by decide) (ma_l1 S a1 a2 a3 a4 a5 a6 a7 C k1 k2 M s hm hof hB i ?_ (runesOf s).length 0 (by omega))
          rw [e1]
          exact h2
        · exact skip
    · exact ev_neg h (stop i)
theorem MoveAgain_true (hl : S.length * 16 ≤ 140737488351232) (hs : ∀ s ∈ S, s.size ≤ 140737488351232) (hC : C.length ≤ 140737488351232) (hM : M.length ≤ 140737488351232) : Ev (fun k => quilllaw16_MoveAgain.f k S a1 a2 a3 a4 a5 a6 a7 C k1 k2 M) true := by
  obtain ⟨v, h1, h2⟩ := heavy16 S hl hs a1 a2 a3 a4 a5 a6 a7 C k1 k2 M hC hM
  unfold quilllaw16_MoveAgain.f
  refine Ev.bind h1 ?_
  cases v
  · exact ev_neg (by decide) (ma_l0 S a1 a2 a3 a4 a5 a6 a7 C k1 k2 M (h2 rfl).2.1 3 0 (by omega))
  · exact ev_pos (by trivial) (Ev.now _)
end
end Go.Proofs.YtbgmmcngkdhpcaaDoor.P
