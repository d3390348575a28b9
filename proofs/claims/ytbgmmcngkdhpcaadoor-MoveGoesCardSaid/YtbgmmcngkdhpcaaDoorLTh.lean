/- One motion, as the laws on motions ask it: the program's answer is the document's. Conditions: the text's and the marks' size. -/
import Derived.Test.YtbgmmcngkdhpcaaDoorLC
import Derived.Test.YtbgmmcngkdhpcaaDoorP0
import Derived.Test.YtbgmmcngkdhpcaaDoorP16
import Derived.Test.YtbgmmcngkdhpcaaDoorP18
import Derived.Test.YtbgmmcngkdhpcaaDoorP26
namespace Go.Proofs.YtbgmmcngkdhpcaaDoor.P
open Go.RowKit Go.Proofs.YtbgmmcngkdhpcaaDoor Go.Proofs.YtbgmmcngkdhpcaaDoorW.PrintWords Go.Proofs.YtbgmmcngkdhpcaaDoorW.PrintLast Go.Proofs.YtbgmmcngkdhpcaaDoorW.PrintMore
theorem wakes16 : Ev (fun k => quilllaw16_wakes.f k) true := ⟨60, fun k hk => by
  obtain ⟨m, rfl⟩ : ∃ m, k = m + 60 := ⟨k - 60, by omega⟩
  kernel_rfl⟩
theorem num16 (x : Int) : quilllaw16_num.f x = some x := rfl
theorem copy_loop (M : List S89) (hM : M.length ≤ 400) (d : Nat) : ∀ i : Nat, i + d = M.length → Ev (fun k => quillref0_CopyMarks.l0 k M (M.take i) (i : Int)) M := by
  induction d with
  | zero =>
    intro i hi
    refine ev_shift ?_
    simp only [quillref0_CopyMarks.l0]
    refine ev_neg (by omega) ?_
    rw [List.take_of_length_le (by omega)]
    exact Ev.now _
  | succ d ih =>
    intro i hi
    have h := ih (i + 1) (by omega)
    have e1 : wrap64 ((i : Int) + 1) = ((i + 1 : Nat) : Int) := by rw [w64 (by omega) (by omega)]; omega
    have hi2 : i < M.length := by omega
    have e : rd_T89 M (i : Int) = M[i] := by
      unfold rd_T89
      rw [Int.toNat_natCast]
      simp [List.getD, List.getElem?_eq_getElem hi2]
    have e2 : M.take i ++ [(⟨(rd_T89 M (i : Int)).f0, (rd_T89 M (i : Int)).f1⟩ : S89)] = M.take (i + 1) := by
      rw [List.take_add_one, List.getElem?_eq_getElem hi2, e]
      rfl
    have hl : (M.take i).length < 8796093022208 := by
      rw [List.length_take]
      omega
    rw [← e1, ← e2] at h
    refine ev_shift ?_
    simp only [quillref0_CopyMarks.l0]
    exact ev_pos (by omega) (ev_pos (by omega) (ev_pos hl h))
theorem copy_ev (M : List S89) (hM : M.length ≤ 400) : Ev (fun k => quillref0_CopyMarks.f k M) M := copy_loop M hM M.length 0 (by omega)
theorem eq_loop (M : List S89) (hM : M.length ≤ 400) (d : Nat) : ∀ i : Nat, i + d = M.length → Ev (fun k => quillref0_EqMarks.l0 k M M (i : Int)) true := by
  induction d with
  | zero =>
    intro i hi
    refine ev_shift ?_
    simp only [quillref0_EqMarks.l0]
    exact ev_neg (by omega) (Ev.now _)
  | succ d ih =>
    intro i hi
    have h := ih (i + 1) (by omega)
    have e1 : wrap64 ((i : Int) + 1) = ((i + 1 : Nat) : Int) := by rw [w64 (by omega) (by omega)]; omega
    rw [← e1] at h
    refine ev_shift ?_
    simp only [quillref0_EqMarks.l0]
    exact ev_pos (by omega) (ev_pos (by omega) (ev_pos (by omega) (ev_neg (by simp) h)))
theorem eq_ev (M : List S89) (hM : M.length ≤ 400) : Ev (fun k => quillref0_EqMarks.f k M M) true := by
  unfold quillref0_EqMarks.f
  exact ev_pos rfl (eq_loop M hM M.length 0 (by omega))
section
variable {a reg count oper key wide rune k1 k2 : Int} {M : List S89}
/-- May a motion be, by the document? -/
def MayG (n a count key k1 : Int) (vM : Bool) : Bool := decide (0 ≤ a ∧ a ≤ n) && (decide (kindOf key ≠ 0) && (decide (0 ≤ count ∧ count ≤ 999) && ((decide (k1 = 0) || SeekB k1) && vM)))
theorem may15 {R : List Int} {vM : Bool} (m2 : Ev (fun k => quillref6_Marks.f k M) vM) : Ev (fun k => quillref15_May.f k R a reg count oper key wide rune k1 k2 M) (MayG R.length a count key k1 vM) := by
  unfold quillref15_May.f MayG
  refine ev_bindc (num_ref _ _) ?_
  generalize decide (0 ≤ a ∧ a ≤ (R.length : Int)) = b1
  cases b1
  · exact ev_neg (by decide) (Ev.now _)
  rw [Bool.true_and]
  refine ev_pos (by trivial) (Ev.bind (is_ref key) ?_)
  generalize decide (kindOf key ≠ 0) = b2
  cases b2
  · exact ev_neg (by decide) (Ev.now _)
  rw [Bool.true_and]
  refine ev_pos (by trivial) (ev_bindc (num_ref _ _) ?_)
  generalize decide (0 ≤ count ∧ count ≤ 999) = b3
  cases b3
  · exact ev_neg (by decide) (Ev.now _)
  rw [Bool.true_and]
  refine ev_pos (by trivial) ?_
  by_cases hk : k1 = 0
  · rw [decide_eq_true hk, Bool.true_or, Bool.true_and]
    exact ev_pos hk (Ev.bind m2 (Ev.now _))
  · rw [decide_eq_false hk, Bool.false_or]
    refine ev_neg hk (Ev.bind (seek_ref k1) ?_)
    cases SeekB k1
    · exact ev_neg (by decide) (Ev.now _)
    · exact ev_pos (by trivial) (Ev.bind m2 (Ev.now _))
theorem go_bad {s : ByteArray} : Ev (fun k => move_Go.j0 k s a M true reg count oper key wide rune k1 k2 0 0 0 0) (0, 0, 0, 0, 1) := by
  refine ev_shift ?_
  simp only [move_Go.j0]
  exact ev_pos (by trivial) (Ev.now _)
theorem go_not {s : ByteArray} (hm : MayB s = true) {B : List Int} (hof : Ev (fun k => text_Of.f k s) (runesOf s, B)) {vM : Bool} (m1 : Ev (fun k => marks_May.f k M) vM) (h : MayG (runesOf s).length a count key k1 vM = false) :
    Ev (fun k => move_Go.f k s a reg count oper key wide rune k1 k2 M) (0, 0, 0, 0, 1) := by
  have hsz := may_size hm
  unfold MayG at h
  unfold move_Go.f
  refine ev_bindc (may_prog s (by omega)) ?_
  rw [hm]
  refine ev_pos (by trivial) (Ev.bind hof (ev_bindc (map_is _ _ _) ?_))
  generalize decide (0 ≤ a ∧ a ≤ ((runesOf s).length : Int)) = b1 at h
  cases b1
  · exact ev_neg (by decide) go_bad
  rw [Bool.true_and] at h
  refine ev_pos (by trivial) (ev_bindc (is_prog key) ?_)
  generalize decide (kindOf key ≠ 0) = b2 at h
  cases b2
  · exact ev_neg (by decide) go_bad
  rw [Bool.true_and] at h
  refine ev_pos (by trivial) ?_
  by_cases c0 : count < 0
  · exact ev_pos c0 go_bad
  refine ev_neg c0 ?_
  by_cases c1 : count > 999
  · exact ev_pos c1 go_bad
  refine ev_neg c1 ?_
  rw [decide_eq_true (show 0 ≤ count ∧ count ≤ 999 by omega), Bool.true_and] at h
  by_cases hk : k1 = 0
  · rw [decide_eq_true hk, Bool.true_or, Bool.true_and] at h
    subst h
    exact ev_pos hk (Ev.bind m1 go_bad)
  · rw [decide_eq_false hk, Bool.false_or] at h
    refine ev_neg hk (ev_bindc (seek_is k1) ?_)
    generalize SeekB k1 = b4 at h
    cases b4
    · exact ev_neg (by decide) go_bad
    · rw [Bool.true_and] at h
      subst h
      exact ev_pos (by trivial) (Ev.bind m1 go_bad)
theorem one_bad {R : List Int} (hM : M.length ≤ 400) : Ev (fun k => quilllaw16_one.j0 k R a M M 1 1 false reg count oper key wide rune k1 k2 0 0 0 0 0 0 0 0) true := by
  refine ev_shift ?_
  simp only [quilllaw16_one.j0]
  exact ev_neg (by decide) (ev_bindc (num16 _) (ev_pos rfl (ev_pos (by decide) (ev_pos (by decide) (Ev.bind (eq_ev M hM) (Ev.now _))))))
/-- The law's 'one': true, whatever is asked. -/
theorem one_true {s : ByteArray} (hs : s.size ≤ 6000) (hM : M.length ≤ 400) : Ev (fun k => quilllaw16_one.f k s (runesOf s) a reg count oper key wide rune k1 k2 M) true := by
  obtain ⟨vM, m1, m2⟩ := marks_both M hM
  unfold quilllaw16_one.f
  refine Ev.bind (copy_ev M hM) ?_
  cases hm : MayB s
  · refine Ev.bind (a := (0, 0, 0, 0, 1)) ?_ (Ev.bind (may_ref s (by omega)) ?_)
    · unfold move_Go.f
      refine ev_bindc (may_prog s (by omega)) ?_
      rw [hm]
      exact ev_neg (by decide) go_bad
    · rw [hm]
      exact ev_neg (by decide) (one_bad hM)
  · have hsz := may_size hm
    obtain ⟨B, hof, hB⟩ := of_ev s hsz
    have h15 := may15 (R := runesOf s) (a := a) (reg := reg) (count := count) (oper := oper) (key := key) (wide := wide) (rune := rune) (k1 := k1) (k2 := k2) m2
    cases hg : MayG (runesOf s).length a count key k1 vM
    · rw [hg] at h15
      refine Ev.bind (go_not hm hof m1 hg) (Ev.bind (may_ref s (by omega)) ?_)
      rw [hm]
      exact ev_pos (by trivial) (Ev.bind h15 (one_bad hM))
    · rw [hg] at h15
      have hg' := hg
      unfold MayG at hg'
      simp only [Bool.and_eq_true, Bool.or_eq_true, decide_eq_true_eq] at hg'
      obtain ⟨q1, q2, q3, q4, q5⟩ := hg'
      subst q5
      obtain ⟨r, r1, r2⟩ := go_both hm hof hB q1.1 q1.2 q3 q4 hM m1 (key := key) (reg := reg) (oper := oper) (wide := wide) (rune := rune) (k2 := k2) q2
      refine Ev.bind r1 (Ev.bind (may_ref s (by omega)) ?_)
      rw [hm]
      refine ev_pos (by trivial) (Ev.bind h15 (ev_shift ?_))
      simp only [quilllaw16_one.j0]
      exact ev_pos (by trivial) (Ev.bind r2 (ev_bindc (num16 _) (ev_pos rfl (ev_pos (by simp) (ev_pos (by simp) (Ev.bind (eq_ev M hM) (Ev.now _)))))))
end
end Go.Proofs.YtbgmmcngkdhpcaaDoor.P
