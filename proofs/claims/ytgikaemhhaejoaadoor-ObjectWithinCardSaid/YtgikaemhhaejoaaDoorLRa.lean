/- Plain facts on texts, for the pieces: the row of an offset, its end, and the run of one class around an offset: the program's functions and the document's come to the same. Conditions: none. -/
import Derived.Test.YtgikaemhhaejoaaDoorLQa
import Derived.Test.YtgikaemhhaejoaaDoorP0
import Derived.Test.YtgikaemhhaejoaaDoorP2
import Derived.Test.YtgikaemhhaejoaaDoorP3
import Derived.Test.YtgikaemhhaejoaaDoorP10
import Derived.Test.YtgikaemhhaejoaaDoorP11
namespace Go.Proofs.YtgikaemhhaejoaaDoor.P
open Go.RowKit Go.Proofs.YtgikaemhhaejoaaDoor Go.Proofs.YtgikaemhhaejoaaDoorW.PrintWords Go.Proofs.YtgikaemhhaejoaaDoorW.PrintLast Go.Proofs.YtgikaemhhaejoaaDoorW.PrintMore
/-! ### the row of an offset -/
theorem of_row {R B : List Int} (h : Beg R B R.length) {j a : Int} (h0 : 0 ≤ j) (h1 : j < B.length) (hb : rd B j ≤ a) (he : a ≤ hi R B j) : IsB R a (rd B j) ∧ IsE R a (hi R B j) := by
  obtain ⟨r1, r2, r3, r4, r5, r6⟩ := h.row h0 h1
  exact ⟨⟨r1, hb, r4, fun i x y => r6 i x (by omega)⟩, ⟨he, r3, r5, fun i x y => r6 i (by omega) y⟩⟩
theorem row_loop {R B : List Int} (h : Beg R B R.length) (hR : R.length ≤ 4000) {a : Int} (ha : a ≤ R.length) (d : Nat) : ∀ j : Int, 0 ≤ j → j + d = B.length - 1 → rd B j ≤ a →
    ∃ j', Ev (fun k => text_Map_Row.l0 k a j R B) j' ∧ 0 ≤ j' ∧ j' < B.length ∧ rd B j' ≤ a ∧ a ≤ hi R B j' := by
  have hlen := h.len
  induction d with
  | zero =>
    intro j h0 e hj
    refine ⟨j, ev_shift ?_, h0, by omega, hj, ?_⟩
    · simp only [text_Map_Row.l0]
      rw [w64 (by omega) (by omega)]
      exact ev_neg (by omega) (Ev.now _)
    · unfold hi
      rw [if_neg (by omega)]
      exact ha
  | succ d ih =>
    intro j h0 e hj
    by_cases h2 : rd B (j + 1) ≤ a
    · obtain ⟨j', h3, h4⟩ := ih (j + 1) (by omega) (by omega) h2
      refine ⟨j', ev_shift ?_, h4⟩
      simp only [text_Map_Row.l0]
      rw [w64 (by omega) (by omega)]
      exact ev_pos (by omega) (ev_pos (by omega) (ev_pos h2 h3))
    · have hn := h.next (j := j) (by omega)
      refine ⟨j, ev_shift ?_, h0, by omega, hj, by omega⟩
      simp only [text_Map_Row.l0]
      rw [w64 (by omega) (by omega)]
      exact ev_pos (by omega) (ev_pos (by omega) (ev_neg h2 (Ev.now _)))
theorem row_ev {R B : List Int} (h : Beg R B R.length) (hR : R.length ≤ 4000) {a : Int} (h0 : 0 ≤ a) (ha : a ≤ R.length) :
    ∃ j, Ev (fun k => text_Map_Row.f k R B a) j ∧ 0 ≤ j ∧ j < B.length ∧ rd B j ≤ a ∧ a ≤ hi R B j :=
  row_loop h hR ha (B.length - 1) 0 (by omega) (by have := h.pos; omega) (by rw [h.zero]; exact h0)
theorem endr_loop (R : List Int) (hR : R.length ≤ 4000) (d : Nat) : ∀ i : Nat, i + d = R.length → ∃ e, Ev (fun k => quillref1_End.l0 k R (i : Int)) e ∧ IsE R i e := by
  induction d with
  | zero =>
    intro i e
    exact ⟨i, ev_shift (by simp only [quillref1_End.l0]; exact ev_neg (by omega) (Ev.now _)), by omega, by omega, .inl (by omega), fun j h1 h2 => by omega⟩
  | succ d ih =>
    intro i e
    by_cases h : rd R i = 10
    · refine ⟨i, ev_shift ?_, by omega, by omega, .inr h, fun j h1 h2 => by omega⟩
      simp only [quillref1_End.l0]
      exact ev_pos (by omega) (ev_pos (by omega) (ev_pos h (Ev.now _)))
    · obtain ⟨f, h1, h2, h3, h4, h5⟩ := ih (i + 1) (by omega)
      refine ⟨f, ev_shift ?_, by omega, h3, h4, fun j h6 h7 => ?_⟩
      · simp only [quillref1_End.l0]
        refine ev_pos (by omega) (ev_pos (by omega) (ev_neg h ?_))
        rw [w64 (by omega) (by omega)]
        exact_mod_cast h1
      · by_cases e2 : j = i
        · rw [e2]; exact h
        · exact h5 j (by omega) h7
theorem endr_ev {R : List Int} (hR : R.length ≤ 4000) {i : Int} (h0 : 0 ≤ i) (h1 : i ≤ R.length) : ∃ e, Ev (fun k => quillref1_End.f k R i) e ∧ IsE R i e := by
  obtain ⟨m, rfl⟩ := Int.eq_ofNat_of_zero_le h0
  exact endr_loop R hR (R.length - m) m (by omega)
/-! ### runs of one class -/
/-- The class of a place; 9: a newline. -/
def cl (R : List Int) (big : Bool) (i : Int) : Int := if rd R i = 10 then 9 else clsb big (wrap64 (rd R i))
theorem cl_nl {R : List Int} {big : Bool} {i : Int} (h : rd R i = 10) : cl R big i = 9 := if_pos h
theorem cl_in {R : List Int} {big : Bool} {i : Int} (h : rd R i ≠ 10) : cl R big i = clsb big (wrap64 (rd R i)) := if_neg h
theorem cl_lt {R : List Int} {big : Bool} {i : Int} (h : rd R i ≠ 10) : cl R big i ≠ 9 := by
  rw [cl_in h]
  have := clsb_range big (wrap64 (rd R i))
  omega
structure IsRun (R : List Int) (big : Bool) (a lo hi : Int) : Prop where
  pos : 0 ≤ lo
  low : lo ≤ a
  high : a < hi
  len : hi ≤ R.length
  same : ∀ i, lo ≤ i → i < hi → cl R big i = cl R big a
  begins : lo = 0 ∨ cl R big (lo - 1) ≠ cl R big a
  ends : hi = R.length ∨ cl R big hi ≠ cl R big a
theorem IsRun.uniq {R : List Int} {big : Bool} {a l h l' h' : Int} (p : IsRun R big a l h) (q : IsRun R big a l' h') : l = l' ∧ h = h' := by
  obtain ⟨p0, p1, p2, p3, p4, p5, p6⟩ := p
  obtain ⟨q0, q1, q2, q3, q4, q5, q6⟩ := q
  constructor
  · rcases Int.lt_trichotomy l l' with e | e | e
    · rcases q5 with q5 | q5
      · omega
      · exact absurd (p4 (l' - 1) (by omega) (by omega)) q5
    · exact e
    · rcases p5 with p5 | p5
      · omega
      · exact absurd (q4 (l - 1) (by omega) (by omega)) p5
  · rcases Int.lt_trichotomy h h' with e | e | e
    · rcases p6 with p6 | p6
      · omega
      · exact absurd (q4 h (by omega) e) p6
    · exact e
    · rcases q6 with q6 | q6
      · omega
      · exact absurd (p4 h' (by omega) e) q6
theorem word1_ev {R B : List Int} (big : Bool) {i : Int} (h0 : 0 ≤ i) (h1 : i < R.length) (hn : rd R i ≠ 10) : Ev (fun k => object_word_1.f k i R B big) (cl R big i) := by
  unfold object_word_1.f
  rw [cl_in hn]
  exact ev_pos h0 (ev_pos h1 (Ev.bind (wclass_prog _ _) (Ev.now _)))
section
variable {R B : List Int} (h : Beg R B R.length) (hR : R.length ≤ 4000) (big : Bool) {j a : Int} (h0 : 0 ≤ j) (h1 : j < B.length) (hb : rd B j ≤ a) (he : a < hi R B j)
include h hR h0 h1 hb he
theorem run_high (lo : Int) (d : Nat) : ∀ x : Int, a < x → x + d = hi R B j → (∀ i, a ≤ i → i < x → cl R big i = cl R big a) →
    ∃ y, Ev (fun k => object_run.l1 k j a lo x R B R B big) (lo, y) ∧ a < y ∧ y ≤ hi R B j ∧ (∀ i, a ≤ i → i < y → cl R big i = cl R big a) ∧ (y = R.length ∨ cl R big y ≠ cl R big a) := by
  obtain ⟨r1, r2, r3, r4, r5, r6⟩ := h.row h0 h1
  have ha : rd R a ≠ 10 := r6 a hb he
  induction d with
  | zero =>
    intro x h2 e hs
    refine ⟨x, ev_shift ?_, h2, by omega, hs, ?_⟩
    · simp only [object_run.l1]
      exact ev_bindc (end_ev h hR h0 h1) (ev_neg (by omega) (Ev.now _))
    · rcases r5 with r5 | r5
      · exact .inl (by omega)
      · refine .inr ?_
        rw [show x = hi R B j by omega, cl_nl r5]
        exact (cl_lt ha).symm
  | succ d ih =>
    intro x h2 e hs
    have hx : rd R x ≠ 10 := r6 x (by omega) (by omega)
    by_cases hc : cl R big x = cl R big a
    · obtain ⟨y, h3, h4, h5⟩ := ih (x + 1) (by omega) (by omega) (fun i p q => by
        by_cases e2 : i = x
        · rw [e2]; exact hc
        · exact hs i p (by omega))
      refine ⟨y, ev_shift ?_, h4, h5⟩
      simp only [object_run.l1]
      refine ev_bindc (end_ev h hR h0 h1) (ev_pos (by omega) (Ev.bind (word1_ev big (by omega) (by omega) hx) (Ev.bind (word1_ev big (by omega) (by omega) ha) (ev_pos hc ?_))))
      rw [w64 (by omega) (by omega)]
      exact h3
    · refine ⟨x, ev_shift ?_, h2, by omega, hs, .inr hc⟩
      simp only [object_run.l1]
      exact ev_bindc (end_ev h hR h0 h1) (ev_pos (by omega) (Ev.bind (word1_ev big (by omega) (by omega) hx) (Ev.bind (word1_ev big (by omega) (by omega) ha) (ev_neg hc (Ev.now _)))))
theorem run_low (d : Nat) : ∀ x : Int, rd B j + d = x → x ≤ a → (∀ i, x ≤ i → i ≤ a → cl R big i = cl R big a) →
    ∃ lo hi', Ev (fun k => object_run.l0 k j a x (a + 1) R B R B big) (lo, hi') ∧ IsRun R big a lo hi' ∧ rd B j ≤ lo ∧ hi' ≤ hi R B j := by
  obtain ⟨r1, r2, r3, r4, r5, r6⟩ := h.row h0 h1
  have ha : rd R a ≠ 10 := r6 a hb he
  have fin : ∀ x : Int, rd B j ≤ x → x ≤ a → (∀ i, x ≤ i → i ≤ a → cl R big i = cl R big a) → (x = 0 ∨ cl R big (x - 1) ≠ cl R big a) →
      ∃ hi', Ev (fun k => object_run.j1 k j a x (a + 1) R B R B big) (x, hi') ∧ IsRun R big a x hi' ∧ hi' ≤ hi R B j := by
    intro x p q hs hl
    obtain ⟨y, h3, h4, h5, h6, h7⟩ := run_high h hR big h0 h1 hb he x (hi R B j - (a + 1)).toNat (a + 1) (by omega) (by omega) (fun i u v => by rw [show i = a by omega])
    refine ⟨y, ev_shift (by simp only [object_run.j1]; exact h3), ⟨by omega, q, h4, by omega, fun i u v => ?_, hl, h7⟩, h5⟩
    by_cases e : i ≤ a
    · exact hs i u e
    · exact h6 i (by omega) v
  induction d with
  | zero =>
    intro x e hx hs
    obtain ⟨y, h3, h4, h5⟩ := fin x (by omega) hx hs (by
      rcases r4 with r4 | r4
      · exact .inl (by omega)
      · refine .inr ?_
        rw [show x - 1 = rd B j - 1 by omega, cl_nl r4]
        exact (cl_lt ha).symm)
    refine ⟨x, y, ev_shift ?_, h4, by omega, h5⟩
    simp only [object_run.l0]
    exact ev_pos h0 (ev_pos h1 (ev_neg (by omega) h3))
  | succ d ih =>
    intro x e hx hs
    have hx1 : rd R (x - 1) ≠ 10 := r6 (x - 1) (by omega) (by omega)
    by_cases hc : cl R big (x - 1) = cl R big a
    · obtain ⟨lo, y, h3, h4⟩ := ih (x - 1) (by omega) (by omega) (fun i p q => by
        by_cases e2 : i = x - 1
        · rw [e2]; exact hc
        · exact hs i (by omega) q)
      refine ⟨lo, y, ev_shift ?_, h4⟩
      simp only [object_run.l0]
      rw [w64 (x := x - 1) (by omega) (by omega)]
      exact ev_pos h0 (ev_pos h1 (ev_pos (by omega) (Ev.bind (word1_ev big (by omega) (by omega) hx1) (Ev.bind (word1_ev big (by omega) (by omega) ha) (ev_pos hc h3)))))
    · obtain ⟨y, h3, h4, h5⟩ := fin x (by omega) hx hs (.inr hc)
      refine ⟨x, y, ev_shift ?_, h4, by omega, h5⟩
      simp only [object_run.l0]
      rw [w64 (x := x - 1) (by omega) (by omega)]
      exact ev_pos h0 (ev_pos h1 (ev_pos (by omega) (Ev.bind (word1_ev big (by omega) (by omega) hx1) (Ev.bind (word1_ev big (by omega) (by omega) ha) (ev_neg hc h3)))))
theorem run_ev : ∃ lo hi', Ev (fun k => object_run.f k R B j a R B big) (lo, hi') ∧ IsRun R big a lo hi' ∧ rd B j ≤ lo ∧ hi' ≤ hi R B j := by
  obtain ⟨r1, r2, r3, r4, r5, r6⟩ := h.row h0 h1
  unfold object_run.f
  rw [w64 (x := a + 1) (by omega) (by omega)]
  exact run_low h hR big h0 h1 hb he (a - rd B j).toNat a (by omega) (by omega) (fun i p q => by rw [show i = a by omega])
end
/-! ### the document's classes and runs -/
/-- The classes of the first n places. -/
def clsTo (R : List Int) (big : Bool) : Nat → List Int
  | 0 => []
  | n + 1 => clsTo R big n ++ [cl R big n]
theorem clsTo_len (R : List Int) (big : Bool) : ∀ n, (clsTo R big n).length = n
  | 0 => rfl
  | n + 1 => by simp [clsTo, clsTo_len R big n]
theorem clsTo_rd (R : List Int) (big : Bool) {i : Int} (h0 : 0 ≤ i) : ∀ n : Nat, i < n → rd (clsTo R big n) i = cl R big i
  | 0, h => by omega
  | n + 1, h => by
    have hl := clsTo_len R big n
    unfold clsTo
    by_cases e : i = n
    · rw [e, rd_snoc (by omega)]
    · rw [rd_app h0 (by omega)]
      exact clsTo_rd R big h0 n (by omega)
theorem classes_loop (R : List Int) (hR : R.length ≤ 4000) (big : Bool) (d : Nat) : ∀ n : Nat, n + d = R.length →
    Ev (fun k => quillref15_classes.l0 k R big (clsTo R big n) (n : Int)) (clsTo R big R.length) := by
  induction d with
  | zero =>
    intro n e
    refine ev_shift ?_
    simp only [quillref15_classes.l0]
    rw [show n = R.length by omega]
    exact ev_neg (by omega) (Ev.now _)
  | succ d ih =>
    intro n e
    have hl := clsTo_len R big n
    have step : Ev (fun k => quillref15_classes.l0 k R big (clsTo R big n ++ [cl R big n]) (wrap64 ((n : Int) + 1))) (clsTo R big R.length) := by
      rw [w64 (by omega) (by omega)]
      exact_mod_cast ih (n + 1) (by omega)
    have room : (clsTo R big n).length < 17592186044416 := by omega
    refine ev_shift ?_
    simp only [quillref15_classes.l0]
    refine ev_pos (by omega) (ev_pos (by omega) (Ev.bind (class_ref _) ?_))
    have nine : rd R n = 10 → ∀ (c : Int) (b : Bool), Ev (fun k => quillref15_classes.j1 k R big (clsTo R big n) (n : Int) c b) (clsTo R big R.length) := by
      intro hn c b
      rw [cl_nl hn] at step
      refine ev_shift ?_
      simp only [quillref15_classes.j1]
      cases b
      · exact ev_neg (by first | decide | simp) (ev_pos (by omega) (ev_pos (by omega) (ev_pos hn (ev_pos room step))))
      · exact ev_pos (by first | rfl | trivial) (ev_pos (by omega) (ev_pos (by omega) (ev_pos hn (ev_pos room step))))
    by_cases hn : rd R n = 10
    · cases big
      · exact ev_neg (by first | decide | simp) (nine hn _ _)
      · exact ev_pos (by first | rfl | trivial) (nine hn _ _)
    · rw [cl_in hn] at step
      have one : ∀ (c : Int), c = clsb big (wrap64 (rd R n)) → Ev (fun k => quillref15_classes.j1 k R big (clsTo R big n) (n : Int) c false) (clsTo R big R.length) := by
        intro c e
        subst e
        refine ev_shift ?_
        simp only [quillref15_classes.j1]
        exact ev_neg (by first | decide | simp) (ev_pos (by omega) (ev_pos (by omega) (ev_neg hn (ev_pos room step))))
      cases big
      · exact ev_neg (by first | decide | simp) (one _ (by unfold clsb; rw [if_neg (by simp)]))
      · refine ev_pos (by first | rfl | trivial) ?_
        by_cases h2 : cls (wrap64 (rd R n)) = 2
        · rw [beq_iff_eq.mpr h2]
          have e : clsb true (wrap64 (rd R n)) = 1 := by unfold clsb; rw [if_pos ⟨rfl, h2⟩]
          rw [e] at step
          refine ev_shift ?_
          simp only [quillref15_classes.j1]
          exact ev_pos (by first | rfl | trivial) (ev_pos (by omega) (ev_pos (by omega) (ev_neg hn (ev_pos room step))))
        · rw [beq_eq_false_iff_ne.mpr h2]
          exact one _ (by unfold clsb; rw [if_neg (fun z => h2 z.2)])
theorem classes_ev {R : List Int} (hR : R.length ≤ 4000) (big : Bool) : Ev (fun k => quillref15_classes.f k R big) (clsTo R big R.length) := classes_loop R hR big R.length 0 (by omega)
section
variable {R : List Int} (hR : R.length ≤ 4000) (big : Bool) {a : Int} (h0 : 0 ≤ a) (h1 : a < R.length)
include hR h0 h1
theorem rrun_high (lo : Int) (d : Nat) : ∀ x : Int, a ≤ x → x + d = R.length → (∀ i, a ≤ i → i < x → cl R big i = cl R big a) →
    ∃ y, Ev (fun k => quillref15_run.l1 k R (clsTo R big R.length) a lo x) (lo, y) ∧ a < y ∧ y ≤ R.length ∧ (∀ i, a ≤ i → i < y → cl R big i = cl R big a) ∧ (y = R.length ∨ cl R big y ≠ cl R big a) := by
  have hl := clsTo_len R big R.length
  have ra := clsTo_rd R big h0 R.length h1
  induction d with
  | zero =>
    intro x h2 e hs
    exact ⟨x, ev_shift (by simp only [quillref15_run.l1]; exact ev_neg (by omega) (Ev.now _)), by omega, by omega, hs, .inl (by omega)⟩
  | succ d ih =>
    intro x h2 e hs
    have rx := clsTo_rd R big (i := x) (by omega) R.length (by omega)
    by_cases hc : cl R big x = cl R big a
    · obtain ⟨y, h3, h4, h5⟩ := ih (x + 1) (by omega) (by omega) (fun i p q => by
        by_cases e2 : i = x
        · rw [e2]; exact hc
        · exact hs i p (by omega))
      refine ⟨y, ev_shift ?_, h4, h5⟩
      simp only [quillref15_run.l1]
      refine ev_pos (by omega) (ev_pos (by omega) (ev_pos (by omega) (ev_pos h0 (ev_pos (by omega) (ev_pos (by rw [rx, ra]; exact hc) ?_)))))
      rw [w64 (by omega) (by omega)]
      exact h3
    · have hax : a < x := by
        rcases Int.lt_or_eq_of_le h2 with z | z
        · exact z
        · exact absurd (by rw [← z]) hc
      refine ⟨x, ev_shift ?_, hax, by omega, hs, .inr hc⟩
      simp only [quillref15_run.l1]
      exact ev_pos (by omega) (ev_pos (by omega) (ev_pos (by omega) (ev_pos h0 (ev_pos (by omega) (ev_neg (by rw [rx, ra]; exact hc) (Ev.now _))))))
theorem rrun_low (d : Nat) : ∀ x : Int, x = d → x ≤ a → (∀ i, x ≤ i → i ≤ a → cl R big i = cl R big a) →
    ∃ lo hi', Ev (fun k => quillref15_run.l0 k R (clsTo R big R.length) a x a) (lo, hi') ∧ IsRun R big a lo hi' := by
  have hl := clsTo_len R big R.length
  have ra := clsTo_rd R big h0 R.length h1
  have fin : ∀ x : Int, 0 ≤ x → x ≤ a → (∀ i, x ≤ i → i ≤ a → cl R big i = cl R big a) → (x = 0 ∨ cl R big (x - 1) ≠ cl R big a) →
      ∃ hi', Ev (fun k => quillref15_run.j1 k R (clsTo R big R.length) a x a) (x, hi') ∧ IsRun R big a x hi' := by
    intro x p q hs hl
    obtain ⟨y, h3, h4, h5, h6, h7⟩ := rrun_high hR big h0 h1 x (R.length - a).toNat a (by omega) (by omega) (fun i u v => by omega)
    refine ⟨y, ev_shift (by simp only [quillref15_run.j1]; exact h3), ⟨p, q, h4, h5, fun i u v => ?_, hl, h7⟩⟩
    by_cases e : i ≤ a
    · exact hs i u e
    · exact h6 i (by omega) v
  induction d with
  | zero =>
    intro x e hx hs
    obtain ⟨y, h3, h4⟩ := fin x (by omega) hx hs (.inl (by omega))
    refine ⟨x, y, ev_shift ?_, h4⟩
    simp only [quillref15_run.l0]
    exact ev_neg (by omega) h3
  | succ d ih =>
    intro x e hx hs
    have rx := clsTo_rd R big (i := x - 1) (by omega) R.length (by omega)
    by_cases hc : cl R big (x - 1) = cl R big a
    · obtain ⟨lo, y, h3, h4⟩ := ih (x - 1) (by omega) (by omega) (fun i p q => by
        by_cases e2 : i = x - 1
        · rw [e2]; exact hc
        · exact hs i (by omega) q)
      refine ⟨lo, y, ev_shift ?_, h4⟩
      simp only [quillref15_run.l0]
      rw [w64 (x := x - 1) (by omega) (by omega)]
      exact ev_pos (by omega) (ev_pos (by omega) (ev_pos (by omega) (ev_pos h0 (ev_pos (by omega) (ev_pos (by rw [rx, ra]; exact hc) h3)))))
    · obtain ⟨y, h3, h4⟩ := fin x (by omega) hx hs (.inr hc)
      refine ⟨x, y, ev_shift ?_, h4⟩
      simp only [quillref15_run.l0]
      rw [w64 (x := x - 1) (by omega) (by omega)]
      exact ev_pos (by omega) (ev_pos (by omega) (ev_pos (by omega) (ev_pos h0 (ev_pos (by omega) (ev_neg (by rw [rx, ra]; exact hc) h3)))))
theorem rrun_ev : ∃ lo hi', Ev (fun k => quillref15_run.f k R (clsTo R big R.length) a) (lo, hi') ∧ IsRun R big a lo hi' :=
  rrun_low hR big h0 h1 a.toNat a (by omega) (by omega) (fun i p q => by rw [show i = a by omega])
end
end Go.Proofs.YtgikaemhhaejoaaDoor.P
