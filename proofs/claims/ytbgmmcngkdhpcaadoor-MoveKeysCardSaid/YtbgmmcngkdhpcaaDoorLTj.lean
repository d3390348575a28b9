/- The law on which keys are motions: true at every input. Conditions: the row's. -/
import Derived.Test.YtbgmmcngkdhpcaaDoorLTh
import Derived.Test.YtbgmmcngkdhpcaaDoorP0
import Derived.Test.YtbgmmcngkdhpcaaDoorP30
namespace Go.Proofs.YtbgmmcngkdhpcaaDoor.P
open Go.RowKit Go.Proofs.YtbgmmcngkdhpcaaDoor Go.Proofs.YtbgmmcngkdhpcaaDoorW.PrintWords Go.Proofs.YtbgmmcngkdhpcaaDoorW.PrintLast Go.Proofs.YtbgmmcngkdhpcaaDoorW.PrintMore
section
variable (S : List ByteArray) (a1 a2 a3 a4 a5 a6 a7 : Int) (C : List S52) (k1 k2 : Int) (M : List S89)
theorem mk_l2 (hM : M.length ≤ 400) {s : ByteArray} (hs : s.size ≤ 6000) (d : Nat) : ∀ x : Nat, x + d = 130 →
    Ev (fun k => quilllaw16_MoveKeys.l2 k s (runesOf s) (x : Int) S a1 a2 a3 a4 a5 a6 a7 C k1 k2 M) true := by
  induction d with
  | zero =>
    intro x hx
    refine ev_shift ?_
    simp only [quilllaw16_MoveKeys.l2]
    exact ev_neg (by omega) (Ev.bind wakes16 (Ev.now _))
  | succ d ih =>
    intro x hx
    have h2 := ih (x + 1) (by omega)
    have e1 : wrap64 ((x : Int) + 1) = ((x + 1 : Nat) : Int) := by rw [w64 (by omega) (by omega)]; omega
    rw [← e1] at h2
    refine ev_shift ?_
    simp only [quilllaw16_MoveKeys.l2]
    exact ev_pos (by omega) (Ev.bind (one_true hs hM) (ev_pos (by trivial) h2))
theorem mk_j2 (hM : M.length ≤ 400) (hS : ∀ s ∈ S, s.size ≤ 6000) (b : Bool) (h0 : b = false → 0 < (S.length : Int)) : Ev (fun k => quilllaw16_MoveKeys.j2 k b S a1 a2 a3 a4 a5 a6 a7 C k1 k2 M) true := by
  refine ev_shift ?_
  simp only [quilllaw16_MoveKeys.j2]
  cases b
  · have hp := h0 rfl
    have hsz := hS _ (rdOf_mem (S := S) (i := 0) (by decide) hp)
    generalize rdOf ByteArray.empty S 0 = s at hsz
    exact ev_neg (by decide) (ev_pos hp (ev_pos (by omega) (mk_l2 S a1 a2 a3 a4 a5 a6 a7 C k1 k2 M hM hsz 100 30 (by omega))))
  · exact ev_pos (by trivial) (Ev.now _)
theorem mk_l1 (x t : Int) (ht : t < 2) (h : Ev (fun k => quilllaw16_MoveKeys.l1 k x (wrap64 (t + 1)) S a1 a2 a3 a4 a5 a6 a7 C k1 k2 M) true) : Ev (fun k => quilllaw16_MoveKeys.l1 k x t S a1 a2 a3 a4 a5 a6 a7 C k1 k2 M) true := by
  refine ev_shift ?_
  simp only [quilllaw16_MoveKeys.l1]
  exact ev_pos ht (ev_bindc (is_prog _) (Ev.bind (is_ref _) (ev_neg (by simp) (ev_bindc (asks_prog _) (Ev.bind (asks_ref _) (ev_neg (by simp) h))))))
theorem mk_l0 (hM : M.length ≤ 400) (hS : ∀ s ∈ S, s.size ≤ 6000) (d : Nat) : ∀ x : Int, x + d = 140 → -2 ≤ x → Ev (fun k => quilllaw16_MoveKeys.l0 k x S a1 a2 a3 a4 a5 a6 a7 C k1 k2 M) true := by
  induction d with
  | zero =>
    intro x hx h0
    refine ev_shift ?_
    simp only [quilllaw16_MoveKeys.l0]
    refine ev_neg (by omega) ?_
    by_cases h : (S.length : Int) = 0
    · exact ev_pos h (mk_j2 S a1 a2 a3 a4 a5 a6 a7 C k1 k2 M hM hS true (fun q => by cases q))
    · exact ev_neg h (ev_pos (by omega) (mk_j2 S a1 a2 a3 a4 a5 a6 a7 C k1 k2 M hM hS _ (fun _ => by omega)))
  | succ d ih =>
    intro x hx h0
    have h2 := ih (x + 1) (by omega) (by omega)
    have e1 : wrap64 (x + 1) = x + 1 := w64 (by omega) (by omega)
    rw [← e1] at h2
    refine ev_shift ?_
    simp only [quilllaw16_MoveKeys.l0]
    refine ev_pos (by omega) (mk_l1 S a1 a2 a3 a4 a5 a6 a7 C k1 k2 M x 0 (by decide) ?_)
    rw [show wrap64 ((0 : Int) + 1) = 1 from w64 (by decide) (by decide)]
    refine mk_l1 S a1 a2 a3 a4 a5 a6 a7 C k1 k2 M x 1 (by decide) ?_
    rw [show wrap64 ((1 : Int) + 1) = 2 from w64 (by decide) (by decide)]
    refine ev_shift ?_
    simp only [quilllaw16_MoveKeys.l1]
    exact ev_neg (by decide) h2
theorem MoveKeys_true (hl : S.length * 16 ≤ 140737488351232) (hs : ∀ s ∈ S, s.size ≤ 140737488351232) (hC : C.length ≤ 140737488351232) (hM : M.length ≤ 140737488351232) : Ev (fun k => quilllaw16_MoveKeys.f k S a1 a2 a3 a4 a5 a6 a7 C k1 k2 M) true := by
  obtain ⟨v, h1, h2⟩ := heavy16 S hl hs a1 a2 a3 a4 a5 a6 a7 C k1 k2 M hC hM
  unfold quilllaw16_MoveKeys.f
  refine Ev.bind h1 ?_
  cases v
  · exact ev_neg (by decide) (mk_l0 S a1 a2 a3 a4 a5 a6 a7 C k1 k2 M (by have := (h2 rfl).2.2; omega) (h2 rfl).2.1 142 (-2) (by decide) (by decide))
  · exact ev_pos (by trivial) (Ev.now _)
end
end Go.Proofs.YtbgmmcngkdhpcaaDoor.P
