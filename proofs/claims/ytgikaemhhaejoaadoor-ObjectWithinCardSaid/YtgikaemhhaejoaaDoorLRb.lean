/- The words around a place: the program's function and the document's come to the same. Conditions: none. -/
import Derived.Test.YtgikaemhhaejoaaDoorLRa
import Derived.Test.YtgikaemhhaejoaaDoorP0
import Derived.Test.YtgikaemhhaejoaaDoorP4
import Derived.Test.YtgikaemhhaejoaaDoorP11
namespace Go.Proofs.YtgikaemhhaejoaaDoor.P
open Go.RowKit Go.Proofs.YtgikaemhhaejoaaDoor Go.Proofs.YtgikaemhhaejoaaDoorW.PrintWords Go.Proofs.YtgikaemhhaejoaaDoorW.PrintLast Go.Proofs.YtgikaemhhaejoaaDoorW.PrintMore
/-- What a piece tells: nothing, or what lies within, or at least that. -/
def Told (R : List Int) (line : Bool) (wide : Int) (lo hi : Int) (r : Int × Int × Bool × Int) : Prop :=
  r = (0, 0, false, 6) ∨ (wide = 105 ∧ r = (lo, hi, line, 0)) ∨ (wide ≠ 105 ∧ ∃ l h, l ≤ lo ∧ hi ≤ h ∧ h ≤ R.length ∧ r = (l, h, line, 0))
section
variable {R B : List Int} (h : Beg R B R.length) (hR : R.length ≤ 4000) (big : Bool) {j a : Int} (h0 : 0 ≤ j) (h1 : j < B.length) (hb : rd B j ≤ a) (he : a < hi R B j)
include h hR h0 h1 hb he
theorem word_tail {lo hi1 : Int} (hr : IsRun R big a lo hi1) (hlo : rd B j ≤ lo) (hhi : hi1 ≤ hi R B j) (v : Bool) (hv : v = true → hi1 < hi R B j) :
    ∃ l g, Ev (fun k => object_word.j1 k j lo hi1 false v R B big) (l, g, false, 0) ∧ Ev (fun k => quillref15_word.j1 k R a (clsTo R big R.length) lo hi1 v) (l, g, false, 0) ∧ l ≤ lo ∧ hi1 ≤ g ∧ g ≤ R.length := by
  obtain ⟨r1, r2, r3, r4, r5, r6⟩ := h.row h0 h1
  obtain ⟨p0, p1, p2, p3, p4, p5, p6⟩ := hr
  have hl := clsTo_len R big R.length
  cases v with
  | true =>
    have h2 := hv rfl
    obtain ⟨l2, g, e1, q, _, qg⟩ := run_ev h hR big (a := hi1) h0 h1 (by omega) h2
    obtain ⟨l3, g3, e2, q3⟩ := rrun_ev hR big (a := hi1) (by omega) (by omega)
    obtain ⟨rfl, rfl⟩ := q.uniq q3
    refine ⟨lo, g, ev_shift ?_, ev_shift ?_, by omega, by have := q.high; omega, q.len⟩
    · simp only [object_word.j1]
      exact ev_pos (by trivial) (Ev.bind e1 (Ev.now _))
    · simp only [quillref15_word.j1]
      exact ev_pos (by trivial) (Ev.bind e2 (Ev.now _))
  | false =>
    obtain ⟨b2, eb, ib⟩ := begin_ev hR (i := a) (by omega) (by omega)
    have ib2 := (of_row h h0 h1 hb (by omega)).1
    obtain rfl := ib.uniq ib2
    by_cases hg : lo > rd B j
    · have hn : rd R (lo - 1) ≠ 10 := r6 (lo - 1) (by omega) (by omega)
      have rl := clsTo_rd R big (i := lo - 1) (by omega) R.length (by omega)
      by_cases hc : cl R big (lo - 1) = 0
      · obtain ⟨l2, g, e1, q, _, qg⟩ := run_ev h hR big (a := lo - 1) h0 h1 (by omega) (by omega)
        obtain ⟨l3, g3, e2, q3⟩ := rrun_ev hR big (a := lo - 1) (by omega) (by omega)
        obtain ⟨rfl, rfl⟩ := q.uniq q3
        refine ⟨l2, hi1, ev_shift ?_, ev_shift ?_, by have := q.low; omega, by omega, by omega⟩
        · simp only [object_word.j1]
          refine ev_neg (by decide) (ev_neg (by decide) (ev_pos h0 (ev_pos h1 (ev_pos hg ?_))))
          rw [w64 (by omega) (by omega)]
          exact Ev.bind (word1_ev big (by omega) (by omega) hn) (ev_pos hc (Ev.bind e1 (Ev.now _)))
        · simp only [quillref15_word.j1]
          refine ev_neg (by decide) (Ev.bind eb (ev_pos hg ?_))
          rw [w64 (by omega) (by omega)]
          exact ev_pos (by omega) (ev_pos (by omega) (ev_pos (by rw [rl]; exact hc) (Ev.bind e2 (Ev.now _))))
      · refine ⟨lo, hi1, ev_shift ?_, ev_shift ?_, by omega, by omega, by omega⟩
        · simp only [object_word.j1]
          refine ev_neg (by decide) (ev_neg (by decide) (ev_pos h0 (ev_pos h1 (ev_pos hg ?_))))
          rw [w64 (by omega) (by omega)]
          exact Ev.bind (word1_ev big (by omega) (by omega) hn) (ev_neg hc (Ev.now _))
        · simp only [quillref15_word.j1]
          refine ev_neg (by decide) (Ev.bind eb (ev_pos hg ?_))
          rw [w64 (by omega) (by omega)]
          exact ev_pos (by omega) (ev_pos (by omega) (ev_neg (by rw [rl]; exact hc) (Ev.now _)))
    · refine ⟨lo, hi1, ev_shift ?_, ev_shift ?_, by omega, by omega, by omega⟩
      · simp only [object_word.j1]
        exact ev_neg (by decide) (ev_neg (by decide) (ev_pos h0 (ev_pos h1 (ev_neg hg (Ev.now _)))))
      · simp only [quillref15_word.j1]
        exact ev_neg (by decide) (Ev.bind eb (ev_neg hg (Ev.now _)))
theorem word_in (hrow : Ev (fun k => text_Map_Row.f k R B a) j) (wide : Int) :
    ∃ r lo hi1, Ev (fun k => object_word.f k R B a wide big) r ∧ Ev (fun k => quillref15_word.f k R a wide big) r ∧ IsRun R big a lo hi1 ∧ Told R false wide lo hi1 r := by
  obtain ⟨r1, r2, r3, r4, r5, r6⟩ := h.row h0 h1
  have ha : rd R a ≠ 10 := r6 a hb he
  have hl := clsTo_len R big R.length
  have ra := clsTo_rd R big (i := a) (by omega) R.length (by omega)
  obtain ⟨lo, hi1, e1, q, qb, qh⟩ := run_ev h hR big h0 h1 hb he
  obtain ⟨lo', hi1', e2, q2⟩ := rrun_ev hR big (a := a) (by omega) (by omega)
  obtain ⟨rfl, rfl⟩ := q.uniq q2
  obtain ⟨eR, ee, ie⟩ := endr_ev hR (i := a) (by omega) (by omega)
  obtain rfl := ie.uniq (of_row h h0 h1 hb (by omega)).2
  have ref0 : ∀ r, Ev (fun k => if wide = 105 then some (lo, hi1, false, (0 : Int)) else (quillref1_End.f k R a).bind fun t286 => (if 0 ≤ a then (if a < ((clsTo R big R.length).length : Int) then (if (rd (clsTo R big R.length) a) = 0 then (if hi1 = t286 then (some (0, 0, false, 6)) else ((quillref15_run.f k R (clsTo R big R.length) hi1).bind fun bt288 => (some (lo, bt288.2, false, 0)))) else (if hi1 < t286 then (if 0 ≤ hi1 then (if hi1 < ((clsTo R big R.length).length : Int) then (quillref15_word.j1 k R a (clsTo R big R.length) lo hi1 ((rd (clsTo R big R.length) hi1) == 0)) else (none)) else (none)) else (quillref15_word.j1 k R a (clsTo R big R.length) lo hi1 false))) else (none)) else (none))) r →
      Ev (fun k => quillref15_word.f k R a wide big) r := by
    intro r hr
    unfold quillref15_word.f
    refine ev_neg (by omega) (ev_pos (by omega) (ev_pos (by omega) ?_))
    rw [beq_eq_false_iff_ne.mpr ha]
    refine ev_shift ?_
    simp only [quillref15_word.j0]
    exact ev_neg (by decide) (Ev.bind (classes_ev hR big) (Ev.bind e2 hr))
  by_cases hw : wide = 105
  · refine ⟨(lo, hi1, false, 0), lo, hi1, ?_, ref0 _ (ev_pos hw (Ev.now _)), q, .inr (.inl ⟨hw, rfl⟩)⟩
    unfold object_word.f
    exact Ev.bind hrow (ev_bindc (end_ev h hR h0 h1) (ev_neg (by omega) (Ev.bind e1 (ev_pos hw (Ev.now _)))))
  · have pre : ∀ r, Ev (fun k => if cl R big a = 0 then ((text_Map_End.f R B j).bind fun t149 => (if hi1 < t149 then (object_word.j0 k j lo hi1 true true R B big) else (object_word.j0 k j lo hi1 true false R B big))) else ((text_Map_End.f R B j).bind fun t156 => (if hi1 < t156 then ((object_word_1.f k hi1 R B big).bind fun t157 => (object_word.j1 k j lo hi1 false (t157 == 0) R B big)) else (object_word.j1 k j lo hi1 false false R B big)))) r →
        Ev (fun k => object_word.f k R B a wide big) r := by
      intro r hr
      unfold object_word.f
      exact Ev.bind hrow (ev_bindc (end_ev h hR h0 h1) (ev_neg (by omega) (Ev.bind e1 (ev_neg hw (Ev.bind (word1_ev big (by omega) (by omega) ha) hr)))))
    by_cases hz : cl R big a = 0
    · by_cases hh : hi1 < hi R B j
      · obtain ⟨l2, g, f1, p, _, pg⟩ := run_ev h hR big (a := hi1) h0 h1 (by have := q.high; omega) hh
        obtain ⟨l3, g3, f2, p3⟩ := rrun_ev hR big (a := hi1) (by have := q.high; omega) (by omega)
        obtain ⟨rfl, rfl⟩ := p.uniq p3
        refine ⟨(lo, g, false, 0), lo, hi1, pre _ (ev_pos hz (ev_bindc (end_ev h hR h0 h1) (ev_pos hh (ev_shift ?_)))), ref0 _ (ev_neg hw (Ev.bind ee (ev_pos (by omega) (ev_pos (by omega) (ev_pos (by rw [ra]; exact hz) (ev_neg (by omega) (Ev.bind f2 (Ev.now _)))))))), q, .inr (.inr ⟨hw, lo, g, by omega, by have := p.high; omega, p.len, rfl⟩)⟩
        simp only [object_word.j0]
        exact ev_pos (by trivial) (Ev.bind f1 (Ev.now _))
      · refine ⟨(0, 0, false, 6), lo, hi1, pre _ (ev_pos hz (ev_bindc (end_ev h hR h0 h1) (ev_neg hh (ev_shift ?_)))), ref0 _ (ev_neg hw (Ev.bind ee (ev_pos (by omega) (ev_pos (by omega) (ev_pos (by rw [ra]; exact hz) (ev_pos (by omega) (Ev.now _))))))), q, .inl rfl⟩
        simp only [object_word.j0]
        exact ev_neg (by decide) (ev_pos (by trivial) (Ev.now _))
    · by_cases hh : hi1 < hi R B j
      · have hn : rd R hi1 ≠ 10 := r6 hi1 (by have := q.high; omega) hh
        have rh := clsTo_rd R big (i := hi1) (by have := q.high; omega) R.length (by omega)
        obtain ⟨l, g, t1, t2, t3, t4, t5⟩ := word_tail h hR big h0 h1 hb he q qb qh (cl R big hi1 == 0) (fun _ => hh)
        refine ⟨(l, g, false, 0), lo, hi1, pre _ (ev_neg hz (ev_bindc (end_ev h hR h0 h1) (ev_pos hh (Ev.bind (word1_ev big (by have := q.high; omega) (by omega) hn) t1)))), ref0 _ (ev_neg hw (Ev.bind ee (ev_pos (by omega) (ev_pos (by omega) (ev_neg (by rw [ra]; exact hz) (ev_pos hh (ev_pos (by have := q.high; omega) (ev_pos (by omega) ?_)))))))), q, .inr (.inr ⟨hw, l, g, t3, t4, t5, rfl⟩)⟩
        rw [rh]
        exact t2
      · obtain ⟨l, g, t1, t2, t3, t4, t5⟩ := word_tail h hR big h0 h1 hb he q qb qh false (fun z => by cases z)
        exact ⟨(l, g, false, 0), lo, hi1, pre _ (ev_neg hz (ev_bindc (end_ev h hR h0 h1) (ev_neg hh t1))), ref0 _ (ev_neg hw (Ev.bind ee (ev_pos (by omega) (ev_pos (by omega) (ev_neg (by rw [ra]; exact hz) (ev_neg hh t2)))))), q, .inr (.inr ⟨hw, l, g, t3, t4, t5, rfl⟩)⟩
end
/-- The words around any place, both ways: alike, and what a tells has what i tells. -/
theorem word_both {R B : List Int} (h : Beg R B R.length) (hR : R.length ≤ 4000) (big : Bool) {a : Int} (h0 : 0 ≤ a) (h1 : a ≤ R.length) :
    ∃ lo hi1 : Int, lo ≤ hi1 ∧ hi1 ≤ R.length ∧ ∀ wide, ∃ r, Ev (fun k => object_word.f k R B a wide big) r ∧ Ev (fun k => quillref15_word.f k R a wide big) r ∧ Told R false wide lo hi1 r := by
  obtain ⟨j, hrow, j0, j1, jb, je⟩ := row_ev h hR h0 h1
  obtain ⟨r1, r2, r3, r4, r5, r6⟩ := h.row j0 j1
  by_cases e : a = hi R B j
  · refine ⟨0, 0, by omega, by omega, fun wide => ⟨(0, 0, false, 6), ?_, ?_, .inl rfl⟩⟩
    · unfold object_word.f
      exact Ev.bind hrow (ev_bindc (end_ev h hR j0 j1) (ev_pos e (Ev.now _)))
    · unfold quillref15_word.f
      by_cases hl : a ≥ R.length
      · exact ev_pos hl (ev_shift (by simp only [quillref15_word.j0]; exact ev_pos (by trivial) (Ev.now _)))
      · refine ev_neg hl (ev_pos h0 (ev_pos (by omega) ?_))
        have : rd R a = 10 := by
          rcases r5 with r5 | r5
          · omega
          · rw [e]; exact r5
        rw [beq_iff_eq.mpr this]
        exact ev_shift (by simp only [quillref15_word.j0]; exact ev_pos (by trivial) (Ev.now _))
  · obtain ⟨_, lo, hi1, _, _, q, _⟩ := word_in h hR big j0 j1 jb (by omega) hrow 105
    refine ⟨lo, hi1, by have := q.low; have := q.high; omega, q.len, fun wide => ?_⟩
    obtain ⟨r, lo', hi1', w1, w2, q', w3⟩ := word_in h hR big j0 j1 jb (by omega) hrow wide
    obtain ⟨rfl, rfl⟩ := q.uniq q'
    exact ⟨r, w1, w2, w3⟩
end Go.Proofs.YtgikaemhhaejoaaDoor.P
