/- The rows around a place that have runes, or have none: the program's functions and the document's come to the same. Conditions: none. -/
import Derived.Test.YtgikaemhhaejoaaDoorLRc
import Derived.Test.YtgikaemhhaejoaaDoorP0
import Derived.Test.YtgikaemhhaejoaaDoorP4
import Derived.Test.YtgikaemhhaejoaaDoorP5
import Derived.Test.YtgikaemhhaejoaaDoorP6
import Derived.Test.YtgikaemhhaejoaaDoorP7
import Derived.Test.YtgikaemhhaejoaaDoorP12
namespace Go.Proofs.YtgikaemhhaejoaaDoor.P
open Go.RowKit Go.Proofs.YtgikaemhhaejoaaDoor Go.Proofs.YtgikaemhhaejoaaDoorW.PrintWords Go.Proofs.YtgikaemhhaejoaaDoorW.PrintLast Go.Proofs.YtgikaemhhaejoaaDoorW.PrintMore
/-- Has a row no runes? -/
def emp (R B : List Int) (j : Int) : Bool := rd B j == hi R B j
section
variable {R B : List Int} (h : Beg R B R.length) (hR : R.length ≤ 4000)
include h hR
set_option linter.unusedSectionVars false
theorem para1_ev {j : Int} (h0 : 0 ≤ j) (h1 : j < B.length) : object_para_1.f j R B = some (emp R B j) := by
  unfold object_para_1.f
  rw [if_pos h0, if_pos h1, end_ev h hR h0 h1]
  rfl
theorem hi_mono {i j : Int} (h0 : 0 ≤ i) (hij : i ≤ j) (h1 : j < B.length) : hi R B i ≤ hi R B j := by
  rcases Int.lt_or_eq_of_le hij with z | z
  · have n := h.next (j := i) (by omega)
    have m := h.mono (j - (i + 1)).toNat (i + 1) j (by omega) (by omega) h1
    have r := h.row (j := j) (by omega) h1
    omega
  · rw [z]
    exact Int.le_refl _
theorem above_ev {x : Int} (h0 : 0 < x) (h1 : x < B.length) : Ev (fun k => quillref1_Begin.f k R (rd B x - 1)) (rd B (x - 1)) ∧ (rd B (x - 1) == rd B x - 1) = emp R B (x - 1) ∧ rd B x > 0 ∧ rd B x ≤ R.length := by
  have n := h.next (j := x - 1) (by omega)
  rw [show x - 1 + 1 = x by omega] at n
  have r := h.row (j := x - 1) (by omega) (by omega)
  have r' := h.row (j := x) (by omega) h1
  obtain ⟨b, e1, e2⟩ := begin_ev hR (i := rd B x - 1) (by omega) (by omega)
  obtain rfl := e2.uniq (of_row h (j := x - 1) (by omega) (by omega) (by omega) (by omega)).1
  refine ⟨e1, ?_, by omega, by omega⟩
  unfold emp
  rw [show rd B x - 1 = hi R B (x - 1) by omega]
theorem below_ev {x : Int} (h0 : 0 ≤ x) (h1 : x + 1 < B.length) : Ev (fun k => quillref1_End.f k R (hi R B x + 1)) (hi R B (x + 1)) ∧ (hi R B (x + 1) == hi R B x + 1) = emp R B (x + 1) ∧ hi R B x < R.length ∧ 0 ≤ hi R B x := by
  have n := h.next (j := x) h1
  have r := h.row (j := x) (by omega) (by omega)
  have r' := h.row (j := x + 1) (by omega) h1
  obtain ⟨b, e1, e2⟩ := endr_ev hR (i := hi R B x + 1) (by omega) (by omega)
  obtain rfl := e2.uniq (of_row h (j := x + 1) (by omega) h1 (by omega) (by omega)).2
  refine ⟨e1, ?_, by omega, by omega⟩
  unfold emp
  rw [n]
  exact Bool.eq_iff_iff.mpr ⟨fun q => beq_iff_eq.mpr (beq_iff_eq.mp q).symm, fun q => beq_iff_eq.mpr (beq_iff_eq.mp q).symm⟩
theorem up_loop (d : Nat) : ∀ x : Int, x = d → x < B.length →
    ∃ u, Ev (fun k => object_para_2.l0 k x R B) u ∧ 0 ≤ u ∧ u ≤ x ∧ emp R B u = emp R B x ∧ (0 < u → emp R B (u - 1) ≠ emp R B x) ∧
      ∀ g r, Ev (fun k => quillref15_spread.j1 k R (rd B u) g (emp R B x)) r → Ev (fun k => quillref15_spread.l0 k R (rd B x) g (emp R B x)) r := by
  have hlen := h.len
  induction d with
  | zero =>
    intro x e h1
    refine ⟨x, ev_shift ?_, by omega, by omega, rfl, fun q => by omega, fun g r hr => ev_shift ?_⟩
    · simp only [object_para_2.l0]
      exact ev_neg (by omega) (Ev.now _)
    · simp only [quillref15_spread.l0]
      refine ev_neg ?_ hr
      rw [show x = 0 by omega, h.zero]
      decide
  | succ d ih =>
    intro x e h1
    obtain ⟨a1, a2, a3, a4⟩ := above_ev h hR (x := x) (by omega) h1
    have wx : wrap64 (x - 1) = x - 1 := w64 (by omega) (by omega)
    have wb : wrap64 (rd B x - 1) = rd B x - 1 := w64 (by omega) (by omega)
    by_cases hs : (emp R B (x - 1) == emp R B x) = true
    · have hs' := beq_iff_eq.mp hs
      obtain ⟨u, u1, u2, u3, u4, u5, u6⟩ := ih (x - 1) (by omega) (by omega)
      rw [hs'] at u4 u5 u6
      refine ⟨u, ev_shift ?_, u2, by omega, u4, u5, fun g r hr => ev_shift ?_⟩
      · simp only [object_para_2.l0]
        rw [wx]
        exact ev_pos (by omega) (ev_bindc (para1_ev h hR (by omega) (by omega)) (ev_bindc (para1_ev h hR (by omega) h1) (ev_pos hs u1)))
      · simp only [quillref15_spread.l0]
        rw [wb]
        refine ev_pos a3 (Ev.bind a1 (ev_pos ?_ (Ev.bind a1 (u6 g r hr))))
        rw [a2]
        exact hs
    · refine ⟨x, ev_shift ?_, by omega, by omega, rfl, fun _ q => hs (beq_iff_eq.mpr q), fun g r hr => ev_shift ?_⟩
      · simp only [object_para_2.l0]
        rw [wx]
        exact ev_pos (by omega) (ev_bindc (para1_ev h hR (by omega) (by omega)) (ev_bindc (para1_ev h hR (by omega) h1) (ev_neg hs (Ev.now _))))
      · simp only [quillref15_spread.l0]
        rw [wb]
        refine ev_pos a3 (Ev.bind a1 (ev_neg ?_ hr))
        rw [a2]
        exact hs
theorem down_loop (d : Nat) : ∀ x : Int, 0 ≤ x → x + d = B.length - 1 →
    ∃ v, Ev (fun k => object_para_3.l0 k x R B R B) v ∧ x ≤ v ∧ v < B.length ∧ emp R B v = emp R B x ∧ (v + 1 < B.length → emp R B (v + 1) ≠ emp R B x) ∧
      ∀ lo, Ev (fun k => quillref15_spread.l1 k R lo (hi R B x) (emp R B x)) (lo, hi R B v) := by
  have hlen := h.len
  have rows : text_Map_Rows.f R B = some (B.length : Int) := rfl
  induction d with
  | zero =>
    intro x h0 e
    refine ⟨x, ev_shift ?_, by omega, by omega, rfl, fun q => by omega, fun lo => ev_shift ?_⟩
    · simp only [object_para_3.l0]
      rw [w64 (by omega) (by omega)]
      exact ev_bindc rows (ev_neg (by omega) (Ev.now _))
    · simp only [quillref15_spread.l1]
      refine ev_neg ?_ (Ev.now _)
      unfold hi
      rw [if_neg (by omega)]
      omega
  | succ d ih =>
    intro x h0 e
    obtain ⟨a1, a2, a3, a4⟩ := below_ev h hR (x := x) h0 (by omega)
    have wx : wrap64 (x + 1) = x + 1 := w64 (by omega) (by omega)
    have wb : wrap64 (hi R B x + 1) = hi R B x + 1 := w64 (by omega) (by omega)
    by_cases hs : (emp R B (x + 1) == emp R B x) = true
    · have hs' := beq_iff_eq.mp hs
      obtain ⟨v, u1, u2, u3, u4, u5, u6⟩ := ih (x + 1) (by omega) (by omega)
      rw [hs'] at u4 u5 u6
      refine ⟨v, ev_shift ?_, by omega, u3, u4, u5, fun lo => ev_shift ?_⟩
      · simp only [object_para_3.l0]
        rw [wx]
        exact ev_bindc rows (ev_pos (by omega) (ev_bindc (para1_ev h hR (by omega) (by omega)) (ev_bindc (para1_ev h hR h0 (by omega)) (ev_pos hs u1))))
      · simp only [quillref15_spread.l1]
        rw [wb]
        refine ev_pos a3 (Ev.bind a1 (ev_pos ?_ (Ev.bind a1 (u6 lo))))
        rw [a2]
        exact hs
    · refine ⟨x, ev_shift ?_, by omega, by omega, rfl, fun _ q => hs (beq_iff_eq.mpr q), fun lo => ev_shift ?_⟩
      · simp only [object_para_3.l0]
        rw [wx]
        exact ev_bindc rows (ev_pos (by omega) (ev_bindc (para1_ev h hR (by omega) (by omega)) (ev_bindc (para1_ev h hR h0 (by omega)) (ev_neg hs (Ev.now _)))))
      · simp only [quillref15_spread.l1]
        rw [wb]
        refine ev_pos a3 (Ev.bind a1 (ev_neg ?_ (Ev.now _)))
        rw [a2]
        exact hs
theorem bool_not {x y : Bool} (e : x ≠ y) : x = !y := by
  cases x <;> cases y <;> first | rfl | exact absurd rfl e
theorem para_both {a : Int} (h0 : 0 ≤ a) (h1 : a ≤ R.length) :
    ∃ lo hi1 : Int, lo ≤ hi1 ∧ hi1 ≤ R.length ∧ ∀ wide, ∃ r, Ev (fun k => object_para.f k R B a wide) r ∧ Ev (fun k => quillref15_paragraph.f k R a wide) r ∧ Told R true wide lo hi1 r := by
  have hlen := h.len
  obtain ⟨j, hrow, j0, j1, jb, je⟩ := row_ev h hR h0 h1
  obtain ⟨b2, eb, ib⟩ := begin_ev hR (i := a) h0 h1
  obtain rfl := ib.uniq (of_row h j0 j1 jb je).1
  obtain ⟨e2, ee, ie⟩ := endr_ev hR (i := a) h0 h1
  obtain rfl := ie.uniq (of_row h j0 j1 jb je).2
  obtain ⟨u, u1, u2, u3, u4, u5, u6⟩ := up_loop h hR j.toNat j (by omega) j1
  obtain ⟨v, v1, v2, v3, v4, v5, v6⟩ := down_loop h hR (B.length - 1 - j).toNat j j0 (by omega)
  have ru := h.row u2 (show u < B.length by omega)
  have rv := h.row (j := v) (by omega) v3
  have muv := h.mono (v - u).toNat u v u2 (by omega) v3
  have sp : Ev (fun k => quillref15_spread.f k R (rd B j) (hi R B j) (rd B j == hi R B j)) (rd B u, hi R B v) :=
    u6 _ _ (ev_shift (by simp only [quillref15_spread.j1]; exact v6 _))
  have pre : ∀ wide r, Ev (fun k => if wide = 105 then (if 0 ≤ u then (if u < (B.length : Int) then ((text_Map_End.f R B v).bind fun t187 => (some (rd B u, t187, true, 0))) else (none)) else (none)) else ((text_Map_Rows.f R B).bind fun t188 => (if (wrap64 (v + 1)) < t188 then ((object_para_3.f k (wrap64 (v + 1)) R B R B).bind fun t189 => (if 0 ≤ u then (if u < (B.length : Int) then ((text_Map_End.f R B t189).bind fun t191 => (some (rd B u, t191, true, 0))) else (none)) else (none))) else (if u > 0 then ((object_para_2.f k (wrap64 (u - 1)) R B).bind fun t192 => (if 0 ≤ t192 then (if t192 < (B.length : Int) then ((text_Map_End.f R B v).bind fun t194 => (some (rd B t192, t194, true, 0))) else (none)) else (none))) else (some (0, 0, false, 6)))))) r → Ev (fun k => object_para.f k R B a wide) r := by
    intro wide r hr
    unfold object_para.f
    exact Ev.bind hrow (Ev.bind u1 (Ev.bind v1 hr))
  have ref0 : ∀ wide r, Ev (fun k => if wide = 105 then (some (rd B u, hi R B v, true, 0)) else (if hi R B v < (R.length : Int) then ((quillref1_End.f k R (wrap64 (hi R B v + 1))).bind fun t310 => ((quillref15_spread.f k R (wrap64 (hi R B v + 1)) t310 (!(rd B j == hi R B j))).bind fun bt311 => (some (rd B u, bt311.2, true, 0)))) else (if rd B u > 0 then ((quillref1_Begin.f k R (wrap64 (rd B u - 1))).bind fun t313 => ((quillref15_spread.f k R t313 (wrap64 (rd B u - 1)) (!(rd B j == hi R B j))).bind fun bt314 => (some (bt314.1, hi R B v, true, 0)))) else (some (0, 0, false, 6))))) r → Ev (fun k => quillref15_paragraph.f k R a wide) r := by
    intro wide r hr
    unfold quillref15_paragraph.f
    exact Ev.bind eb (Ev.bind ee (Ev.bind sp hr))
  refine ⟨rd B u, hi R B v, by omega, by omega, fun wide => ?_⟩
  by_cases hw : wide = 105
  · exact ⟨_, pre _ _ (ev_pos hw (ev_pos u2 (ev_pos (by omega) (ev_bindc (end_ev h hR (by omega) v3) (Ev.now _))))), ref0 _ _ (ev_pos hw (Ev.now _)), .inr (.inl ⟨hw, rfl⟩)⟩
  · by_cases hv : v + 1 < B.length
    · obtain ⟨b1, b2, b3, b4⟩ := below_ev h hR (x := v) (by omega) hv
      have en : emp R B (v + 1) = !(rd B j == hi R B j) := bool_not h hR (v5 hv)
      obtain ⟨g, g1, g2, g3, g4, g5, g6⟩ := down_loop h hR (B.length - 1 - (v + 1)).toNat (v + 1) (by omega) (by omega)
      have hm := hi_mono h hR (i := v) (j := g) (by omega) (by omega) g3
      have rg := h.row (j := g) (by omega) g3
      have nx := h.next (j := v) hv
      obtain ⟨a1, a2, a3, a4⟩ := above_ev h hR (x := v + 1) (by omega) hv
      rw [show v + 1 - 1 = v by omega] at a1 a2
      have wv : wrap64 (hi R B v + 1) = hi R B v + 1 := w64 (by omega) (by omega)
      refine ⟨(rd B u, hi R B g, true, 0), pre _ _ (ev_neg hw (ev_bindc rfl ?_)), ref0 _ _ (ev_neg hw (ev_pos b3 ?_)), .inr (.inr ⟨hw, rd B u, hi R B g, by omega, hm, by omega, rfl⟩)⟩
      · rw [w64 (x := v + 1) (by omega) (by omega)]
        exact ev_pos hv (Ev.bind g1 (ev_pos u2 (ev_pos (by omega) (ev_bindc (end_ev h hR (by omega) g3) (Ev.now _)))))
      · rw [wv]
        refine Ev.bind b1 (Ev.bind (show Ev (fun k => quillref15_spread.f k R (hi R B v + 1) (hi R B (v + 1)) !(rd B j == hi R B j)) (rd B (v + 1), hi R B g) from ?_) (Ev.now _))
        rw [← en, ← nx]
        unfold quillref15_spread.f
        refine ev_shift ?_
        simp only [quillref15_spread.l0]
        rw [w64 (x := rd B (v + 1) - 1) (by omega) (by omega)]
        refine ev_pos a3 (Ev.bind a1 (ev_neg ?_ (ev_shift ?_)))
        · rw [a2, v4]
          intro q
          exact v5 hv (beq_iff_eq.mp q).symm
        · simp only [quillref15_spread.j1]
          exact g6 _
    · have hiv : hi R B v = R.length := by unfold hi; rw [if_neg hv]
      by_cases hu : u > 0
      · obtain ⟨a1, a2, a3, a4⟩ := above_ev h hR (x := u) hu (by omega)
        have en : emp R B (u - 1) = !(rd B j == hi R B j) := bool_not h hR (u5 hu)
        obtain ⟨g, g1, g2, g3, g4, g5, g6⟩ := up_loop h hR (u - 1).toNat (u - 1) (by omega) (by omega)
        have mg := h.mono (u - g).toNat g u g2 (by omega) (by omega)
        have nx := h.next (j := u - 1) (by omega)
        rw [show u - 1 + 1 = u by omega] at nx
        obtain ⟨b1, b2, b3, b4⟩ := below_ev h hR (x := u - 1) (by omega) (by omega)
        rw [show u - 1 + 1 = u by omega] at b1 b2
        have wu : wrap64 (rd B u - 1) = rd B u - 1 := w64 (by omega) (by omega)
        refine ⟨(rd B g, hi R B v, true, 0), pre _ _ (ev_neg hw (ev_bindc rfl ?_)), ref0 _ _ (ev_neg hw (ev_neg (by omega) (ev_pos a3 ?_))), .inr (.inr ⟨hw, rd B g, hi R B v, mg, by omega, by omega, rfl⟩)⟩
        · rw [w64 (x := v + 1) (by omega) (by omega), w64 (x := u - 1) (by omega) (by omega)]
          exact ev_neg hv (ev_pos hu (Ev.bind g1 (ev_pos g2 (ev_pos (by omega) (ev_bindc (end_ev h hR (by omega) v3) (Ev.now _))))))
        · rw [wu]
          refine Ev.bind a1 (Ev.bind (show Ev (fun k => quillref15_spread.f k R (rd B (u - 1)) (rd B u - 1) !(rd B j == hi R B j)) (rd B g, rd B u - 1) from ?_) (Ev.now _))
          rw [← en]
          refine g6 _ _ (ev_shift ?_)
          simp only [quillref15_spread.j1]
          refine ev_shift ?_
          simp only [quillref15_spread.l1]
          rw [w64 (x := rd B u - 1 + 1) (by omega) (by omega), show rd B u - 1 = hi R B (u - 1) by omega]
          refine ev_pos b3 (Ev.bind b1 (ev_neg ?_ (Ev.now _)))
          rw [b2, u4]
          intro q
          exact u5 hu (beq_iff_eq.mp q).symm
      · refine ⟨(0, 0, false, 6), pre _ _ (ev_neg hw (ev_bindc rfl ?_)), ref0 _ _ (ev_neg hw (ev_neg (by omega) (ev_neg ?_ (Ev.now _)))), .inl rfl⟩
        · rw [w64 (x := v + 1) (by omega) (by omega)]
          exact ev_neg hv (ev_neg hu (Ev.now _))
        · rw [show u = 0 by omega, h.zero]
          decide
end
end Go.Proofs.YtgikaemhhaejoaaDoor.P
