/- What the statements on motions and regions share: a text that may be; an offset that is; how much is played. Conditions: those of the statements' rows. -/
import Derived.Test.YtbgmmcngkdhpcaaDoorLA
import Derived.Test.YtbgmmcngkdhpcaaDoorP0
import Derived.Test.YtbgmmcngkdhpcaaDoorP4
import Derived.Test.YtbgmmcngkdhpcaaDoorP5
import Derived.Test.YtbgmmcngkdhpcaaDoorP9
import Derived.Test.YtbgmmcngkdhpcaaDoorP14
import Derived.Test.YtbgmmcngkdhpcaaDoorP15
import Derived.Test.YtbgmmcngkdhpcaaDoorP18
import Derived.Test.YtbgmmcngkdhpcaaDoorP21
section
namespace Go.Proofs.YtbgmmcngkdhpcaaDoor.P
open Go.RowKit Go.Proofs.YtbgmmcngkdhpcaaDoor Go.Proofs.YtbgmmcngkdhpcaaDoorW.PrintWords Go.Proofs.YtbgmmcngkdhpcaaDoorW.PrintLast Go.Proofs.YtbgmmcngkdhpcaaDoorW.PrintMore
theorem may_size {s : ByteArray} (h : MayB s = true) : s.size ≤ 4000 := by
  unfold MayB at h
  simp only [Bool.and_eq_true, decide_eq_true_eq] at h
  exact h.1.1
theorem map_is (R B : List Int) (a : Int) : text_Map_Is.f R B a = some (decide (0 ≤ a ∧ a ≤ (R.length : Int))) := by
  unfold text_Map_Is.f
  by_cases h : a ≥ 0
  · rw [if_pos h]
    congr 1
    exact decide_eq_decide.mpr ⟨fun x => ⟨h, x⟩, fun x => x.2⟩
  · rw [if_neg h, decide_eq_false (fun x => h x.1)]
theorem heavy16 (S : List ByteArray) (hl : S.length * 16 ≤ 140737488351232) (hs : ∀ s ∈ S, s.size ≤ 140737488351232) (a1 a2 a3 a4 a5 a6 a7 : Int) (C : List S52) (k1 k2 : Int) (M : List S89) (hC : C.length ≤ 140737488351232) (hM : M.length ≤ 140737488351232) :
    ∃ v, Ev (fun k => quilllaw16_Heavy.f k S a1 a2 a3 a4 a5 a6 a7 C k1 k2 M) v ∧ (v = false → (S.length : Int) ≤ 6000 ∧ (∀ s ∈ S, s.size ≤ 6000) ∧ C.length + M.length ≤ 200) := by
  obtain ⟨v, h1, h2⟩ := heavy_ev S hl hs a1 a2 a3 a4 a5 a6 a7
  cases v
  · refine ⟨decide ((C.length : Int) + (M.length : Int) > 200), ?_, fun hv => ?_⟩
    · unfold quilllaw16_Heavy.f
      refine Ev.bind h1 (ev_neg (by decide) ?_)
      rw [w64 (by omega) (by omega)]
      exact Ev.now _
    · have := of_decide_eq_false hv
      exact ⟨(h2 rfl).1, (h2 rfl).2, by omega⟩
  · refine ⟨true, ?_, fun hv => by cases hv⟩
    unfold quilllaw16_Heavy.f
    exact Ev.bind h1 (ev_pos (by trivial) (Ev.now _))
end Go.Proofs.YtbgmmcngkdhpcaaDoor.P
end
section
namespace Go.Proofs.YtbgmmcngkdhpcaaDoor.P
open Go.RowKit Go.Proofs.YtbgmmcngkdhpcaaDoor Go.Proofs.YtbgmmcngkdhpcaaDoorW.PrintWords Go.Proofs.YtbgmmcngkdhpcaaDoorW.PrintLast Go.Proofs.YtbgmmcngkdhpcaaDoorW.PrintMore
section
variable {R B : List Int} (hB : Beg R B R.length) (hR : R.length ≤ 4000) {j : Int} (j0 : 0 ≤ j) (j1 : j < B.length)
include hB hR j0 j1
theorem find_out (key r n st sh i : Int) (h : ¬ (rd B j ≤ i ∧ i < hi R B j)) : Ev (fun k => seek_Find.l0 k r n j st sh i R B) (0, 6) ∧ Ev (fun k => quillref10_Find.l0 k R key r n st (rd B j) (hi R B j) i) (0, 6) := by
  have bad : Ev (fun k => seek_Find.j6 k r n j st sh i false R B) (0, 6) := ev_shift (by simp only [seek_Find.j6]; exact ev_neg (by decide) (Ev.now _))
  have bad2 : Ev (fun k => quillref10_Find.j2 k R key r n st (rd B j) (hi R B j) i false) (0, 6) := ev_shift (by simp only [quillref10_Find.j2]; exact ev_neg (by decide) (Ev.now _))
  refine ⟨ev_shift ?_, ev_shift ?_⟩
  · simp only [seek_Find.l0]
    refine ev_pos j0 (ev_pos j1 ?_)
    by_cases h1 : i ≥ rd B j
    · refine ev_pos h1 (ev_bindc (end_ev hB hR j0 j1) ?_)
      rw [decide_eq_false (by omega)]
      exact bad
    · exact ev_neg h1 bad
  · simp only [quillref10_Find.l0]
    by_cases h1 : i ≥ rd B j
    · refine ev_pos h1 ?_
      rw [decide_eq_false (by omega)]
      exact bad2
    · exact ev_neg h1 bad2
theorem find_loop {key r st sh : Int} (hst : st = 1 ∨ st = -1) (hsh : (key = 116 ∨ key = 84) ∧ sh = st ∨ ¬ (key = 116 ∨ key = 84) ∧ sh = 0) (d : Nat) :
    ∀ i n : Int, (st = 1 → hi R B j - i ≤ d ∧ rd B j + 1 ≤ i) → (st = -1 → i - rd B j + 1 ≤ d) → rd B j - 1 ≤ i → i ≤ hi R B j + 1 → 1 ≤ n → n ≤ 999 →
    ∃ v : Int × Int, Ev (fun k => seek_Find.l0 k r n j st sh i R B) v ∧ Ev (fun k => quillref10_Find.l0 k R key r n st (rd B j) (hi R B j) i) v ∧ (v.2 = 0 ∧ 0 ≤ v.1 ∧ v.1 ≤ R.length ∨ v = (0, 6)) := by
  obtain ⟨r1, r2, r3, r4, r5, r6⟩ := hB.row j0 j1
  induction d with
  | zero =>
    intro i n h1 h2 h3 h4 n1 n2
    obtain ⟨g1, g2⟩ := find_out hB hR j0 j1 key r n st sh i (by rcases hst with e | e; have := h1 e; omega; have := h2 e; omega)
    exact ⟨_, g1, g2, .inr rfl⟩
  | succ d ih =>
    intro i n h1 h2 h3 h4 n1 n2
    by_cases hin : rd B j ≤ i ∧ i < hi R B j
    · have pro : ∀ v, Ev (fun k => if wrap64 (rd R i) = r then (if (wrap64 (n - 1)) = 0 then (some (wrap64 (i - sh), (0 : Int))) else (seek_Find.l0 k r (wrap64 (n - 1)) j st sh (wrap64 (i + st)) R B)) else (if n = 0 then (some (wrap64 (i - sh), (0 : Int))) else (seek_Find.l0 k r n j st sh (wrap64 (i + st)) R B))) v → Ev (fun k => seek_Find.l0 k r n j st sh i R B) v := by
        intro v hv
        refine ev_shift ?_
        simp only [seek_Find.l0]
        refine ev_pos j0 (ev_pos j1 (ev_pos hin.1 (ev_bindc (end_ev hB hR j0 j1) ?_)))
        rw [decide_eq_true hin.2]
        refine ev_shift ?_
        simp only [seek_Find.j6]
        exact ev_pos (by trivial) (ev_pos (by omega) (ev_pos (by omega) hv))
      have ref : ∀ v, Ev (fun k => if wrap64 (rd R i) = r then (if (wrap64 (n - 1)) = 0 then (if key = 116 then (some (wrap64 (i - st), (0 : Int))) else (if key = 84 then (some (wrap64 (i - st), (0 : Int))) else (some (i, (0 : Int))))) else (quillref10_Find.l0 k R key r (wrap64 (n - 1)) st (rd B j) (hi R B j) (wrap64 (i + st)))) else (quillref10_Find.l0 k R key r n st (rd B j) (hi R B j) (wrap64 (i + st)))) v → Ev (fun k => quillref10_Find.l0 k R key r n st (rd B j) (hi R B j) i) v := by
        intro v hv
        refine ev_shift ?_
        simp only [quillref10_Find.l0]
        refine ev_pos hin.1 ?_
        rw [decide_eq_true hin.2]
        refine ev_shift ?_
        simp only [quillref10_Find.j2]
        exact ev_pos (by trivial) (ev_pos (by omega) (ev_pos (by omega) hv))
      have hn : wrap64 (n - 1) = n - 1 := w64 (by omega) (by omega)
      have hi1 : wrap64 (i + st) = i + st := by rcases hst with e | e <;> subst e <;> exact w64 (by omega) (by omega)
      have hi2 : wrap64 (i - st) = i - st := by rcases hst with e | e <;> subst e <;> exact w64 (by omega) (by omega)
      have next : ∀ m : Int, 1 ≤ m → m ≤ 999 → ∃ v : Int × Int, Ev (fun k => seek_Find.l0 k r m j st sh (i + st) R B) v ∧ Ev (fun k => quillref10_Find.l0 k R key r m st (rd B j) (hi R B j) (i + st)) v ∧ (v.2 = 0 ∧ 0 ≤ v.1 ∧ v.1 ≤ R.length ∨ v = (0, 6)) := by
        intro m m1 m2
        refine ih (i + st) m (fun e => ?_) (fun e => ?_) ?_ ?_ m1 m2
        · have := h1 e
          omega
        · have := h2 e
          omega
        · rcases hst with e | e <;> omega
        · rcases hst with e | e <;> omega
      rw [hn, hi1] at pro
      rw [hn, hi1, hi2] at ref
      by_cases he : wrap64 (rd R i) = r
      · by_cases hz : n - 1 = 0
        · rcases hsh with ⟨hk, e⟩ | ⟨hk, e⟩
          · refine ⟨(i - st, 0), pro _ (ev_pos he (ev_pos hz ?_)), ref _ (ev_pos he (ev_pos hz ?_)), .inl ⟨rfl, ?_⟩⟩
            · rw [e, hi2]
              exact Ev.now _
            · by_cases k1 : key = 116
              · exact ev_pos k1 (Ev.now _)
              · exact ev_neg k1 (ev_pos (by omega) (Ev.now _))
            · show 0 ≤ i - st ∧ i - st ≤ (R.length : Int)
              rcases hst with e2 | e2
              · have := h1 e2
                omega
              · omega
          · refine ⟨(i, 0), pro _ (ev_pos he (ev_pos hz ?_)), ref _ (ev_pos he (ev_pos hz ?_)), .inl ⟨rfl, ?_⟩⟩
            · rw [e, w64 (by omega) (by omega), Int.sub_zero]
              exact Ev.now _
            · exact ev_neg (by omega) (ev_neg (by omega) (Ev.now _))
            · show 0 ≤ i ∧ i ≤ (R.length : Int)
              omega
        · obtain ⟨v, g1, g2, g3⟩ := next (n - 1) (by omega) (by omega)
          exact ⟨v, pro _ (ev_pos he (ev_neg hz g1)), ref _ (ev_pos he (ev_neg hz g2)), g3⟩
      · obtain ⟨v, g1, g2, g3⟩ := next n n1 n2
        exact ⟨v, pro _ (ev_neg he (ev_neg (by omega) g1)), ref _ (ev_neg he g2), g3⟩
    · obtain ⟨g1, g2⟩ := find_out hB hR j0 j1 key r n st sh i hin
      exact ⟨_, g1, g2, .inr rfl⟩
end
/-- Does a key seek? -/
def SeekB (key : Int) : Bool := decide (key = 102 ∨ key = 70 ∨ key = 116 ∨ key = 84)
theorem seek_is (key : Int) : seek_Is.f key = some (SeekB key) := by
  unfold seek_Is.f SeekB
  by_cases h1 : key = 102
  · rw [if_pos h1, decide_eq_true (by omega)]
  · rw [if_neg h1]
    by_cases h2 : key = 70
    · rw [if_pos h2, decide_eq_true (by omega)]
    · rw [if_neg h2]
      by_cases h3 : key = 116
      · rw [if_pos h3, decide_eq_true (by omega)]
      · rw [if_neg h3]
        by_cases h4 : key = 84
        · rw [h4]
          rfl
        · rw [decide_eq_false (by omega), beq_eq_false_iff_ne.mpr h4]
section
variable {s : ByteArray} (hm : MayB s = true) {B : List Int} (hof : Ev (fun k => text_Of.f k s) (runesOf s, B)) (hB : Beg (runesOf s) B (runesOf s).length) {a : Int} (a0 : 0 ≤ a) (a1 : a ≤ (runesOf s).length)
include hm hof hB a0 a1
theorem find_both {key r n : Int} (hk : key = 102 ∨ key = 70 ∨ key = 116 ∨ key = 84) (n1 : 1 ≤ n) (n2 : n ≤ 999) :
    ∃ v : Int × Int, Ev (fun k => seek_Find.f k s a key r n) v ∧ Ev (fun k => quillref10_Find.f k (runesOf s) a key r n) v ∧ (v.2 = 0 ∧ 0 ≤ v.1 ∧ v.1 ≤ (runesOf s).length ∨ v = (0, 6)) := by
  have hsz := may_size hm
  have hn := runesOf_len s
  have hR : (runesOf s).length ≤ 4000 := by omega
  obtain ⟨j, g1, j0, j1, g4, g5⟩ := row_ev hB hR a0 a1
  obtain ⟨r1, r2, r3, _, _, _⟩ := hB.row j0 j1
  obtain ⟨b1, p1, p2⟩ := begin_ev hR a0 a1
  obtain ⟨e1, q1, q2⟩ := endr_ev hR a0 a1
  obtain ⟨u1, u2⟩ := of_row hB j0 j1 g4 g5
  have eb := p2.uniq u1
  have ee := q2.uniq u2
  subst eb
  subst ee
  have pro : ∀ v, Ev (fun k => if key = 70 then (seek_Find.j1 k a key r n j 1 0 true (runesOf s) B) else (seek_Find.j1 k a key r n j 1 0 (key == 84) (runesOf s) B)) v → Ev (fun k => seek_Find.f k s a key r n) v := by
    intro v hv
    unfold seek_Find.f
    refine ev_bindc (may_prog s (by omega)) ?_
    rw [hm]
    refine ev_pos (by trivial) (ev_bindc (seek_is key) ?_)
    rw [show SeekB key = true from decide_eq_true hk]
    refine ev_pos (by trivial) (ev_neg (by omega) ?_)
    rw [decide_eq_false (by omega)]
    refine ev_shift ?_
    simp only [seek_Find.j0]
    refine ev_neg (by decide) (Ev.bind hof (ev_bindc (map_is _ _ _) ?_))
    rw [decide_eq_true (show 0 ≤ a ∧ a ≤ ((runesOf s).length : Int) from ⟨a0, a1⟩)]
    exact ev_pos (by trivial) (Ev.bind g1 hv)
  have ref : ∀ (st : Int) v, (st = 1 ∨ st = -1) → Ev (fun k => quillref10_Find.l0 k (runesOf s) key r n st (rd B j) (hi (runesOf s) B j) (a + st)) v → Ev (fun k => quillref10_Find.j0 k (runesOf s) a key r n st) v := by
    intro st v hst hv
    refine ev_shift ?_
    simp only [quillref10_Find.j0]
    refine Ev.bind p1 (Ev.bind q1 ?_)
    rw [w64 (x := a + st) (by omega) (by omega)]
    exact hv
  have j4 : ∀ (st sh : Int) v, (st = 1 ∨ st = -1) → Ev (fun k => seek_Find.l0 k r n j st sh (a + st) (runesOf s) B) v → Ev (fun k => seek_Find.j4 k a r n j st sh (runesOf s) B) v := by
    intro st sh v hst hv
    refine ev_shift ?_
    simp only [seek_Find.j4]
    rw [w64 (x := a + st) (by omega) (by omega)]
    exact hv
  have loop : ∀ st sh : Int, (st = 1 ∨ st = -1) → ((key = 116 ∨ key = 84) ∧ sh = st ∨ ¬ (key = 116 ∨ key = 84) ∧ sh = 0) → ∃ v : Int × Int, Ev (fun k => seek_Find.j4 k a r n j st sh (runesOf s) B) v ∧ Ev (fun k => quillref10_Find.j0 k (runesOf s) a key r n st) v ∧ (v.2 = 0 ∧ 0 ≤ v.1 ∧ v.1 ≤ (runesOf s).length ∨ v = (0, 6)) := by
    intro st sh hst hsh
    obtain ⟨v, x1, x2, x3⟩ := find_loop hB hR j0 j1 (r := r) hst hsh 5000 (a + st) n (fun e => by omega) (fun e => by omega) (by omega) (by omega) n1 n2
    exact ⟨v, j4 st sh v hst x1, ref st v hst x2, x3⟩
  rcases hk with rfl | rfl | rfl | rfl
  · obtain ⟨v, x1, x2, x3⟩ := loop 1 0 (.inl rfl) (.inr ⟨by omega, rfl⟩)
    refine ⟨v, pro v (ev_neg (by decide) (ev_shift ?_)), ?_, x3⟩
    · simp only [seek_Find.j1]
      refine ev_neg (by decide) (ev_shift ?_)
      simp only [seek_Find.j2]
      refine ev_neg (by decide) (ev_shift ?_)
      simp only [seek_Find.j3]
      exact ev_neg (by decide) x1
    · unfold quillref10_Find.f
      exact ev_neg (by decide) x2
  · obtain ⟨v, x1, x2, x3⟩ := loop (-1) 0 (.inr rfl) (.inr ⟨by omega, rfl⟩)
    refine ⟨v, pro v (ev_pos rfl (ev_shift ?_)), ?_, x3⟩
    · simp only [seek_Find.j1]
      refine ev_pos (by trivial) (ev_shift ?_)
      simp only [seek_Find.j2]
      refine ev_neg (by decide) (ev_shift ?_)
      simp only [seek_Find.j3]
      exact ev_neg (by decide) x1
    · unfold quillref10_Find.f
      exact ev_pos (by decide) x2
  · obtain ⟨v, x1, x2, x3⟩ := loop 1 1 (.inl rfl) (.inl ⟨.inl rfl, rfl⟩)
    refine ⟨v, pro v (ev_neg (by decide) (ev_shift ?_)), ?_, x3⟩
    · simp only [seek_Find.j1]
      refine ev_neg (by decide) (ev_shift ?_)
      simp only [seek_Find.j2]
      refine ev_pos (by trivial) (ev_shift ?_)
      simp only [seek_Find.j3]
      exact ev_pos (by trivial) x1
    · unfold quillref10_Find.f
      exact ev_neg (by decide) x2
  · obtain ⟨v, x1, x2, x3⟩ := loop (-1) (-1) (.inr rfl) (.inl ⟨.inr rfl, rfl⟩)
    refine ⟨v, pro v (ev_neg (by decide) (ev_shift ?_)), ?_, x3⟩
    · simp only [seek_Find.j1]
      refine ev_pos (by decide) (ev_shift ?_)
      simp only [seek_Find.j2]
      refine ev_neg (by decide) (ev_shift ?_)
      simp only [seek_Find.j3]
      exact ev_pos (by decide) x1
    · unfold quillref10_Find.f
      exact ev_pos (by decide) x2
/-- What a rune sought is told as. -/
def kdS (key : Int) : Int := if key = 102 ∨ key = 116 then 1 else 0
omit hm hof hB a0 a1 in
theorem found_ev {key r n : Int} {v : Int × Int} (h : Ev (fun k => seek_Find.f k s a key r n) v) : Ev (fun k => move_found.f k s a key r n) (v.1, kdS key, v.2) := by
  unfold move_found.f
  refine Ev.bind h ?_
  by_cases h1 : key = 102
  · rw [show kdS key = 1 from if_pos (.inl h1)]
    exact ev_pos h1 (Ev.now _)
  · refine ev_neg h1 ?_
    by_cases h2 : key = 116
    · rw [show kdS key = 1 from if_pos (.inr h2)]
      exact ev_pos h2 (Ev.now _)
    · rw [show kdS key = 0 from if_neg (by omega)]
      exact ev_neg h2 (Ev.now _)
omit hB in
/-- A motion that may be: what it comes to, out of where it leads. -/
theorem go_ok {reg count oper key wide rune k1 k2 : Int} {M : List S89} (hk : kindOf key ≠ 0) (hc : 0 ≤ count ∧ count ≤ 999) (hk1 : k1 = 0 ∨ SeekB k1 = true) (hM : Ev (fun k => marks_May.f k M) true)
    {g : Int × Int × Int} (hg : Ev (fun k => move_goes.f k s a reg count oper key wide rune k1 k2 M) g) :
    Ev (fun k => move_Go.f k s a reg count oper key wide rune k1 k2 M) (if g.2.2 = 0 then (if SeekB key = true then (g.1, g.2.1, key, rune, 0) else (g.1, g.2.1, k1, k2, 0)) else (0, 0, 0, 0, g.2.2)) := by
  have hsz := may_size hm
  have last : Ev (fun k => move_Go.j0 k s a M (!true) reg count oper key wide rune k1 k2 0 0 0 0) (if g.2.2 = 0 then (if SeekB key = true then (g.1, g.2.1, key, rune, 0) else (g.1, g.2.1, k1, k2, 0)) else (0, 0, 0, 0, g.2.2)) := by
    refine ev_shift ?_
    simp only [move_Go.j0]
    refine ev_neg (by decide) (Ev.bind hg ?_)
    by_cases h0 : g.2.2 = 0
    · refine ev_pos h0 (ev_bindc (seek_is key) ?_)
      rw [if_pos h0]
      by_cases h1 : SeekB key = true
      · refine ev_pos h1 ?_
        rw [if_pos h1]
        exact Ev.now _
      · refine ev_neg h1 ?_
        rw [if_neg h1]
        exact Ev.now _
    · refine ev_neg h0 ?_
      rw [if_neg h0]
      exact Ev.now _
  unfold move_Go.f
  refine ev_bindc (may_prog s (by omega)) ?_
  rw [hm]
  refine ev_pos (by trivial) (Ev.bind hof (ev_bindc (map_is _ _ _) ?_))
  rw [decide_eq_true (show 0 ≤ a ∧ a ≤ ((runesOf s).length : Int) from ⟨a0, a1⟩)]
  refine ev_pos (by trivial) (ev_bindc (show move_Is.f key = some true by unfold move_Is.f; exact congrArg some (bne_iff_ne.mpr hk)) (ev_pos (by trivial) (ev_neg (by omega) (ev_neg (by omega) ?_))))
  by_cases h0 : k1 = 0
  · exact ev_pos h0 (Ev.bind hM last)
  · refine ev_neg h0 (ev_bindc (seek_is k1) ?_)
    exact ev_pos (by rcases hk1 with h | h; exact absurd h h0; exact h) (Ev.bind hM last)
end
theorem may_nil : Ev (fun k => marks_May.f k ([] : List S89)) true := ⟨3, fun k hk => by
  obtain ⟨m, rfl⟩ : ∃ m, k = m + 3 := ⟨k - 3, by omega⟩
  rfl⟩
theorem kind_seek {key : Int} (hk : key = 102 ∨ key = 70 ∨ key = 116 ∨ key = 84) : kindOf key = 3 := by
  rcases hk with rfl | rfl | rfl | rfl <;> decide
theorem turned_both {key : Int} (hk : key = 102 ∨ key = 70 ∨ key = 116 ∨ key = 84) : ∃ t : Int, (t = 102 ∨ t = 70 ∨ t = 116 ∨ t = 84) ∧ seek_Turned.f key = some (t, 0) ∧ quillref10_Turned.f key = some t := by
  rcases hk with rfl | rfl | rfl | rfl
  · exact ⟨70, by decide, by decide +kernel, by decide +kernel⟩
  · exact ⟨102, by decide, by decide +kernel, by decide +kernel⟩
  · exact ⟨84, by decide, by decide +kernel, by decide +kernel⟩
  · exact ⟨116, by decide, by decide +kernel, by decide +kernel⟩
end Go.Proofs.YtbgmmcngkdhpcaaDoor.P
end
