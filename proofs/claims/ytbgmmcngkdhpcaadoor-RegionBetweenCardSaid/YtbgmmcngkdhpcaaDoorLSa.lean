/- What lies between two offsets: the program and the document tell the same range, and it lies within the text. Conditions: none. -/
import Derived.Test.YtbgmmcngkdhpcaaDoorLSe
import Derived.Test.YtbgmmcngkdhpcaaDoorP0
import Derived.Test.YtbgmmcngkdhpcaaDoorP3
import Derived.Test.YtbgmmcngkdhpcaaDoorP4
namespace Go.Proofs.YtbgmmcngkdhpcaaDoor.P
open Go.RowKit Go.Proofs.YtbgmmcngkdhpcaaDoor Go.Proofs.YtbgmmcngkdhpcaaDoorW.PrintWords Go.Proofs.YtbgmmcngkdhpcaaDoorW.PrintLast Go.Proofs.YtbgmmcngkdhpcaaDoorW.PrintMore
theorem mn_mx {a b n : Int} (ha0 : 0 ≤ a) (ha : a ≤ n) (hb0 : 0 ≤ b) (hb : b ≤ n) : 0 ≤ mn a b ∧ mn a b ≤ mx a b ∧ mx a b ≤ n := by
  unfold mn mx
  split <;> split <;> omega
theorem between_both {R B : List Int} (hB : Beg R B R.length) (hR : R.length ≤ 4000) {a b kind : Int} (ha0 : 0 ≤ a) (ha : a ≤ R.length) (hb0 : 0 ≤ b) (hb : b ≤ R.length) :
    ∃ r : Int × Int × Bool, Ev (fun k => region_between.f k R B a b kind) r ∧ Ev (fun k => quillref15_Between.f k R a b kind) r ∧ r.1 ≤ r.2.1 ∧ r.2.1 ≤ R.length := by
  obtain ⟨m0, m1, m2⟩ := mn_mx ha0 ha hb0 hb
  obtain ⟨j, g1, g2, g3, g4, g5⟩ := row_ev hB hR m0 (Int.le_trans m1 m2)
  obtain ⟨i, h1, h2, h3, h4, h5⟩ := row_ev hB hR (Int.le_trans m0 m1) m2
  have hend := end_ev hB hR h2 h3
  obtain ⟨b1, p1, p2⟩ := begin_ev hR m0 (Int.le_trans m1 m2)
  obtain ⟨e1, q1, q2⟩ := endr_ev hR (Int.le_trans m0 m1) m2
  obtain ⟨u1, _⟩ := of_row hB g2 g3 g4 g5
  obtain ⟨_, u2⟩ := of_row hB h2 h3 h4 h5
  have eb := u1.uniq p2
  have ee := u2.uniq q2
  obtain ⟨x1, x2, x3, x4⟩ := u2
  by_cases k2 : kind = 2
  · refine ⟨(rd B j, hi R B i, true), ?_, ?_, by show rd B j ≤ hi R B i; omega, x2⟩
    · unfold region_between.f
      exact ev_pos k2 (Ev.bind g1 (ev_pos g2 (ev_pos g3 (Ev.bind h1 (ev_bindc hend (Ev.now _))))))
    · unfold quillref15_Between.f
      rw [eb, ee]
      exact ev_neg (by omega) (ev_pos k2 (Ev.bind p1 (Ev.bind q1 (Ev.now _))))
  · by_cases k1 : kind = 1
    · by_cases hlt : mx a b < hi R B i
      · have e1 : wrap64 (mx a b + 1) = mx a b + 1 := w64 (by omega) (by omega)
        refine ⟨(mn a b, wrap64 (mx a b + 1), false), ?_, ?_, by show mn a b ≤ wrap64 (mx a b + 1); omega, by show wrap64 (mx a b + 1) ≤ (R.length : Int); omega⟩
        · unfold region_between.f
          exact ev_neg k2 (ev_pos k1 (Ev.bind h1 (ev_bindc hend (ev_pos hlt (Ev.now _)))))
        · unfold quillref15_Between.f
          exact ev_pos k1 (ev_pos (by omega) (ev_pos (by omega) (ev_neg (x4 _ (by omega) hlt) (Ev.now _))))
      · refine ⟨(mn a b, mx a b, false), ?_, ?_, m1, m2⟩
        · unfold region_between.f
          exact ev_neg k2 (ev_pos k1 (Ev.bind h1 (ev_bindc hend (ev_neg hlt (Ev.now _)))))
        · unfold quillref15_Between.f
          refine ev_pos k1 ?_
          by_cases hn : mx a b < (R.length : Int)
          · have e3 : mx a b = hi R B i := by omega
            refine ev_pos hn (ev_pos (by omega) (ev_pos ?_ (Ev.now _)))
            rw [e3]
            rcases x3 with x3 | x3
            · omega
            · exact x3
          · exact ev_neg hn (Ev.now _)
    · refine ⟨(mn a b, mx a b, false), ?_, ?_, m1, m2⟩
      · unfold region_between.f
        exact ev_neg k2 (ev_neg k1 (Ev.now _))
      · unfold quillref15_Between.f
        exact ev_neg k1 (ev_neg k2 (Ev.now _))
/-- May it be asked what lies between? -/
def OkB (s : ByteArray) (a b kind : Int) : Bool := MayB s && (decide (0 ≤ a ∧ a ≤ (runesOf s).length) && (decide (0 ≤ b ∧ b ≤ (runesOf s).length) && decide (0 ≤ kind ∧ kind ≤ 2)))
theorem between_bad {s : ByteArray} (hs : s.size ≤ 9223372036854775807) {a b kind : Int} (h : OkB s a b kind = false) : Ev (fun k => region_Between.f k s a b kind) (0, 0, false, 1) := by
  have out : Ev (fun k => region_Between.j0 k s a b kind true) (0, 0, false, 1) := ev_shift (by simp only [region_Between.j0]; exact ev_pos (by trivial) (Ev.now _))
  unfold region_Between.f
  refine ev_bindc (may_prog s hs) ?_
  cases hm : MayB s
  · exact ev_neg (by decide) out
  · refine ev_pos (by trivial) ?_
    by_cases k1 : kind < 0
    · exact ev_pos k1 out
    · refine ev_neg k1 ?_
      by_cases k2 : kind > 2
      · rw [decide_eq_true k2]
        exact out
      · rw [decide_eq_false k2]
        obtain ⟨B, hof, _⟩ := of_ev s (may_size hm)
        refine ev_shift ?_
        simp only [region_Between.j0]
        refine ev_neg (by decide) (Ev.bind hof (ev_bindc (map_is _ _ _) ?_))
        unfold OkB at h
        rw [hm, decide_eq_true (show 0 ≤ kind ∧ kind ≤ 2 by omega)] at h
        cases ha : decide (0 ≤ a ∧ a ≤ ((runesOf s).length : Int))
        · exact ev_neg (by decide) (Ev.now _)
        · refine ev_pos (by trivial) (ev_bindc (map_is _ _ _) ?_)
          cases hb : decide (0 ≤ b ∧ b ≤ ((runesOf s).length : Int))
          · exact ev_neg (by decide) (Ev.now _)
          · rw [ha, hb] at h
            cases h
theorem between_ok {s : ByteArray} (hs : s.size ≤ 9223372036854775807) {a b kind : Int} (h : OkB s a b kind = true) :
    ∃ r : Int × Int × Bool, Ev (fun k => region_Between.f k s a b kind) (r.1, r.2.1, r.2.2, 0) ∧ Ev (fun k => quillref15_Between.f k (runesOf s) a b kind) r ∧ r.1 ≤ r.2.1 ∧ r.2.1 ≤ (runesOf s).length := by
  unfold OkB at h
  simp only [Bool.and_eq_true] at h
  obtain ⟨hm, ha, hb, hk⟩ := h
  have ha' := of_decide_eq_true ha
  have hb' := of_decide_eq_true hb
  have hk' := of_decide_eq_true hk
  obtain ⟨B, hof, hB⟩ := of_ev s (may_size hm)
  have hn := runesOf_len s
  have hsz := may_size hm
  obtain ⟨r, r1, r2, r3, r4⟩ := between_both hB (by omega) ha'.1 ha'.2 hb'.1 hb'.2 (kind := kind)
  refine ⟨r, ?_, r2, r3, r4⟩
  unfold region_Between.f
  refine ev_bindc (may_prog s hs) ?_
  rw [hm]
  refine ev_pos (by trivial) (ev_neg (by omega) ?_)
  rw [decide_eq_false (by omega)]
  refine ev_shift ?_
  simp only [region_Between.j0]
  refine ev_neg (by decide) (Ev.bind hof (ev_bindc (map_is _ _ _) ?_))
  rw [ha]
  refine ev_pos (by trivial) (ev_bindc (map_is _ _ _) ?_)
  rw [hb]
  exact ev_pos (by trivial) (Ev.bind r1 (Ev.now _))
theorem num17 (x : Int) : quilllaw17_num.f x = some x := rfl
end Go.Proofs.YtbgmmcngkdhpcaaDoor.P
