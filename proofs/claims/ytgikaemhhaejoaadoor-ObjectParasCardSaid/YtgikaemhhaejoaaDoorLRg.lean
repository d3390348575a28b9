/- The statements on pieces: whichever place, key, way and count is asked, the program and the document answer alike. Conditions: those of the statements' rows. -/
import Derived.Test.YtgikaemhhaejoaaDoorLRf
import Derived.Test.YtgikaemhhaejoaaDoorP0
import Derived.Test.YtgikaemhhaejoaaDoorP14
import Derived.Test.YtgikaemhhaejoaaDoorP15
namespace Go.Proofs.YtgikaemhhaejoaaDoor.P
open Go.RowKit Go.Proofs.YtgikaemhhaejoaaDoor Go.Proofs.YtgikaemhhaejoaaDoorW.PrintWords Go.Proofs.YtgikaemhhaejoaaDoorW.PrintLast Go.Proofs.YtgikaemhhaejoaaDoorW.PrintMore
theorem same3 (x y : Int) (b : Bool) : ¬ ((!(x == x) || (!(y == y) || (!(b == b)))) = true) := by
  rw [beq_self_eq_true, beq_self_eq_true, beq_self_eq_true]
  decide
section
variable (S : List ByteArray) (a1 a2 a3 a4 a5 a6 a7 : Int) (keys : List Int) (s : ByteArray)
theorem pieces_l4 (hs : s.size ≤ 6000) (ats : List Int) (i j ki wi wide : Int) (counts : List Int) (hj : 0 ≤ j ∧ j < ats.length) (hk : 0 ≤ ki ∧ ki < keys.length) (hc : counts.length = 3)
    (H : Ev (fun k => quilllaw15_pieces.l3 k keys i s (runesOf s) ats j ki (wrap64 (wi + 1)) S a1 a2 a3 a4 a5 a6 a7) true) (d : Nat) : ∀ n : Nat, n + d = 3 →
    Ev (fun k => quilllaw15_pieces.l4 k keys i s (runesOf s) ats j ki wi wide counts (n : Int) S a1 a2 a3 a4 a5 a6 a7) true := by
  have hn := runesOf_len s
  induction d with
  | zero =>
    intro n hn
    refine ev_shift ?_
    simp only [quilllaw15_pieces.l4]
    exact ev_neg (by omega) H
  | succ d ih =>
    intro n hn
    have h2 := ih (n + 1) (by omega)
    have e1 : wrap64 ((n : Int) + 1) = ((n + 1 : Nat) : Int) := by rw [w64 (by omega) (by omega)]; omega
    have go : ∀ r, Ev (fun k => object_Piece.f k s (rd ats j) wide (rd keys ki) (rd counts n)) r → Ev (fun k => if MayB s = true then ((quillref0_Num.f (rd ats j) ((runesOf s).length : Int)).bind fun t388 => (if t388 = true then (if wide = 105 then ((quillref15_Object.f k (rd keys ki)).bind fun t390 => (if t390 = true then ((quillref0_Between.f (rd counts n) 1 999).bind fun t392 => (quilllaw15_pieces.j6 k keys i s (runesOf s) ats j ki wi wide counts (n : Int) r.2.2.2 1 t392 S a1 a2 a3 a4 a5 a6 a7 r.1 r.2.1 r.2.2.1 0 0 false)) else (quilllaw15_pieces.j6 k keys i s (runesOf s) ats j ki wi wide counts (n : Int) r.2.2.2 1 false S a1 a2 a3 a4 a5 a6 a7 r.1 r.2.1 r.2.2.1 0 0 false))) else (if wide = 97 then ((quillref15_Object.f k (rd keys ki)).bind fun t394 => (if t394 = true then ((quillref0_Between.f (rd counts n) 1 999).bind fun t396 => (quilllaw15_pieces.j6 k keys i s (runesOf s) ats j ki wi wide counts (n : Int) r.2.2.2 1 t396 S a1 a2 a3 a4 a5 a6 a7 r.1 r.2.1 r.2.2.1 0 0 false)) else (quilllaw15_pieces.j6 k keys i s (runesOf s) ats j ki wi wide counts (n : Int) r.2.2.2 1 false S a1 a2 a3 a4 a5 a6 a7 r.1 r.2.1 r.2.2.1 0 0 false))) else (quilllaw15_pieces.j6 k keys i s (runesOf s) ats j ki wi wide counts (n : Int) r.2.2.2 1 false S a1 a2 a3 a4 a5 a6 a7 r.1 r.2.1 r.2.2.1 0 0 false))) else (quilllaw15_pieces.j6 k keys i s (runesOf s) ats j ki wi wide counts (n : Int) r.2.2.2 1 false S a1 a2 a3 a4 a5 a6 a7 r.1 r.2.1 r.2.2.1 0 0 false))) else (quilllaw15_pieces.j6 k keys i s (runesOf s) ats j ki wi wide counts (n : Int) r.2.2.2 1 false S a1 a2 a3 a4 a5 a6 a7 r.1 r.2.1 r.2.2.1 0 0 false)) true →
        Ev (fun k => quilllaw15_pieces.l4 k keys i s (runesOf s) ats j ki wi wide counts (n : Int) S a1 a2 a3 a4 a5 a6 a7) true := by
      intro r hr h3
      refine ev_shift ?_
      simp only [quilllaw15_pieces.l4]
      exact ev_pos (by omega) (ev_pos hj.1 (ev_pos hj.2 (ev_pos hk.1 (ev_pos hk.2 (ev_pos (by omega) (ev_pos (by omega) (Ev.bind hr (Ev.bind (may_ref s (by omega)) h3))))))))
    generalize hat : rd ats j = a at go
    generalize hky : rd keys ki = key at go
    generalize hco : rd counts n = count at go
    cases hok : OkP s a wide key count with
    | true =>
      unfold OkP at hok
      simp only [Bool.and_eq_true] at hok
      obtain ⟨hm, ha, hw, ho, hcc⟩ := hok
      have hsz := may_size hm
      have ha' := of_decide_eq_true ha
      have hc' := of_decide_eq_true hcc
      obtain ⟨B, hof, hB⟩ := of_ev s hsz
      obtain ⟨lo, hi1, g1, g2, g3⟩ := piece_both hsz hm hof hB ha'.1 ha'.2 ho hc'.1 hc'.2
      obtain ⟨r, r1, r2, r3⟩ := g3 wide (of_decide_eq_true hw)
      have good : Ev (fun k => quilllaw15_pieces.j6 k keys i s (runesOf s) ats j ki wi wide counts (n : Int) r.2.2.2 1 true S a1 a2 a3 a4 a5 a6 a7 r.1 r.2.1 r.2.2.1 0 0 false) true := by
        refine ev_shift ?_
        simp only [quilllaw15_pieces.j6]
        rw [hat, hky, hco, e1]
        exact ev_pos (by trivial) (ev_pos hj.1 (ev_pos hj.2 (ev_pos hk.1 (ev_pos hk.2 (ev_pos (by omega) (ev_pos (by omega) (Ev.bind r2 (ev_bindc (num15 _) (ev_pos (by trivial) (ev_neg (same3 _ _ _) h2))))))))))
      refine go r r1 ?_
      rw [hm]
      refine ev_pos (by trivial) (ev_bindc (num_ref _ _) ?_)
      rw [ha]
      refine ev_pos (by trivial) ?_
      rcases of_decide_eq_true hw with w | w
      · refine ev_pos w (Ev.bind (object_ref _) ?_)
        rw [ho]
        refine ev_pos (by trivial) (ev_bindc (between_ref _ _ _) ?_)
        rw [hcc]
        exact good
      · refine ev_neg (by omega) (ev_pos w (Ev.bind (object_ref _) ?_))
        rw [ho]
        refine ev_pos (by trivial) (ev_bindc (between_ref _ _ _) ?_)
        rw [hcc]
        exact good
    | false =>
      have bad : Ev (fun k => quilllaw15_pieces.j6 k keys i s (runesOf s) ats j ki wi wide counts (n : Int) 1 1 false S a1 a2 a3 a4 a5 a6 a7 0 0 false 0 0 false) true := by
        refine ev_shift ?_
        simp only [quilllaw15_pieces.j6]
        rw [e1]
        exact ev_neg (by decide) (ev_bindc (num15 _) (ev_pos (by trivial) (ev_neg (by decide) h2)))
      refine go _ (piece_bad (by omega) hok) ?_
      unfold OkP at hok
      cases hm : MayB s
      · exact ev_neg (by decide) bad
      · refine ev_pos (by trivial) (ev_bindc (num_ref _ _) ?_)
        cases ha : decide (0 ≤ a ∧ a ≤ ((runesOf s).length : Int))
        · exact ev_neg (by decide) bad
        · refine ev_pos (by trivial) ?_
          have tail : (wide = 105 ∨ wide = 97) → Ev (fun k => (quillref15_Object.f k key).bind fun t390 => (if t390 = true then ((quillref0_Between.f count 1 999).bind fun t392 => (quilllaw15_pieces.j6 k keys i s (runesOf s) ats j ki wi wide counts (n : Int) 1 1 t392 S a1 a2 a3 a4 a5 a6 a7 0 0 false 0 0 false)) else (quilllaw15_pieces.j6 k keys i s (runesOf s) ats j ki wi wide counts (n : Int) 1 1 false S a1 a2 a3 a4 a5 a6 a7 0 0 false 0 0 false))) true := by
            intro hw
            refine Ev.bind (object_ref _) ?_
            cases ho : ObjB key
            · exact ev_neg (by decide) bad
            · refine ev_pos (by trivial) (ev_bindc (between_ref _ _ _) ?_)
              rw [hm, ha, ho, decide_eq_true hw] at hok
              have hcc : decide (1 ≤ count ∧ count ≤ 999) = false := hok
              rw [hcc]
              exact bad
          by_cases w1 : wide = 105
          · exact ev_pos w1 (tail (.inl w1))
          · refine ev_neg w1 ?_
            by_cases w2 : wide = 97
            · exact ev_pos w2 (tail (.inr w2))
            · exact ev_neg w2 bad
theorem pieces_l3 (hs : s.size ≤ 6000) (ats : List Int) (i j ki : Int) (hj : 0 ≤ j ∧ j < ats.length) (hk : 0 ≤ ki ∧ ki < keys.length)
    (H : Ev (fun k => quilllaw15_pieces.l2 k keys i s (runesOf s) ats j (wrap64 (ki + 1)) S a1 a2 a3 a4 a5 a6 a7) true) (d : Nat) : ∀ n : Nat, n + d = 3 →
    Ev (fun k => quilllaw15_pieces.l3 k keys i s (runesOf s) ats j ki (n : Int) S a1 a2 a3 a4 a5 a6 a7) true := by
  induction d with
  | zero =>
    intro n hn
    refine ev_shift ?_
    simp only [quilllaw15_pieces.l3]
    exact ev_neg (by omega) H
  | succ d ih =>
    intro n hn
    have h2 := ih (n + 1) (by omega)
    refine ev_shift ?_
    simp only [quilllaw15_pieces.l3]
    refine ev_pos (by omega) (ev_bindc rfl (ev_pos (by omega) (ev_pos (by simp; omega) ?_)))
    refine pieces_l4 S a1 a2 a3 a4 a5 a6 a7 keys s hs ats i j ki n _ _ hj hk rfl ?_ 3 0 (by omega)
    rw [w64 (x := (n : Int) + 1) (by omega) (by omega)]
    exact_mod_cast h2
theorem pieces_l2 (hs : s.size ≤ 6000) (hkeys : keys.length ≤ 100) (ats : List Int) (i j : Int) (hj : 0 ≤ j ∧ j < ats.length)
    (H : Ev (fun k => quilllaw15_pieces.l1 k keys i s (runesOf s) ats (wrap64 (j + 1)) S a1 a2 a3 a4 a5 a6 a7) true) (d : Nat) : ∀ ki : Nat, ki + d = keys.length →
    Ev (fun k => quilllaw15_pieces.l2 k keys i s (runesOf s) ats j (ki : Int) S a1 a2 a3 a4 a5 a6 a7) true := by
  induction d with
  | zero =>
    intro ki hk
    refine ev_shift ?_
    simp only [quilllaw15_pieces.l2]
    exact ev_neg (by omega) H
  | succ d ih =>
    intro ki hk
    have h2 := ih (ki + 1) (by omega)
    refine ev_shift ?_
    simp only [quilllaw15_pieces.l2]
    refine ev_pos (by omega) ?_
    refine pieces_l3 S a1 a2 a3 a4 a5 a6 a7 keys s hs ats i j ki hj (by omega) ?_ 3 0 (by omega)
    rw [w64 (x := (ki : Int) + 1) (by omega) (by omega)]
    exact_mod_cast h2
theorem pieces_l1 (hs : s.size ≤ 6000) (hkeys : keys.length ≤ 100) (ats : List Int) (hats : ats.length ≤ 15) (i : Int)
    (H : Ev (fun k => quilllaw15_pieces.l0 k keys (wrap64 (i + 1)) S a1 a2 a3 a4 a5 a6 a7) true) (d : Nat) : ∀ j : Nat, j + d = ats.length →
    Ev (fun k => quilllaw15_pieces.l1 k keys i s (runesOf s) ats (j : Int) S a1 a2 a3 a4 a5 a6 a7) true := by
  induction d with
  | zero =>
    intro j hj
    refine ev_shift ?_
    simp only [quilllaw15_pieces.l1]
    exact ev_neg (by omega) H
  | succ d ih =>
    intro j hj
    have h2 := ih (j + 1) (by omega)
    refine ev_shift ?_
    simp only [quilllaw15_pieces.l1]
    refine ev_pos (by omega) ?_
    refine pieces_l2 S a1 a2 a3 a4 a5 a6 a7 keys s hs hkeys ats i j (by omega) ?_ keys.length 0 (by omega)
    rw [w64 (x := (j : Int) + 1) (by omega) (by omega)]
    exact_mod_cast h2
theorem pieces_l0 (hS : ∀ s ∈ S, s.size ≤ 6000) (hkeys : keys.length ≤ 100) (d : Nat) : ∀ i : Nat, i + d = 4 → Ev (fun k => quilllaw15_pieces.l0 k keys (i : Int) S a1 a2 a3 a4 a5 a6 a7) true := by
  have stop : ∀ i : Nat, Ev (fun k => quilllaw15_pieces.j1 k keys (i : Int) false S a1 a2 a3 a4 a5 a6 a7) true := by
    intro i
    refine ev_shift ?_
    simp only [quilllaw15_pieces.j1]
    exact ev_neg (by decide) (Ev.bind wakes15 (Ev.now _))
  induction d with
  | zero =>
    intro i hi
    refine ev_shift ?_
    simp only [quilllaw15_pieces.l0]
    by_cases h : (i : Int) < S.length
    · refine ev_pos h ?_
      rw [decide_eq_false (show ¬ ((i : Int) < 4) by omega)]
      exact stop i
    · exact ev_neg h (stop i)
  | succ d ih =>
    intro i hi
    have h2 := ih (i + 1) (by omega)
    have e1 : wrap64 ((i : Int) + 1) = ((i + 1 : Nat) : Int) := by rw [w64 (by omega) (by omega)]; omega
    refine ev_shift ?_
    simp only [quilllaw15_pieces.l0]
    by_cases h : (i : Int) < S.length
    · refine ev_pos h ?_
      rw [decide_eq_true (show ((i : Int) < 4) by omega)]
      refine ev_shift ?_
      simp only [quilllaw15_pieces.j1]
      refine ev_pos (by trivial) (ev_pos (by omega) (ev_pos h ?_))
      have hsz := hS _ (rdOf_mem (S := S) (i := (i : Int)) (by omega) h)
      generalize rdOf ByteArray.empty S (i : Int) = s at hsz
      refine ev_pos (by omega) (ev_bindc rfl ?_)
      have hn := runesOf_len s
      obtain ⟨ats, g1, g2⟩ := offsets_ev (runesOf s) (by omega) S a1 a2 a3 a4 a5 a6 a7
      refine Ev.bind g1 ?_
      refine pieces_l1 S a1 a2 a3 a4 a5 a6 a7 keys s (by omega) hkeys ats g2 i ?_ ats.length 0 (by omega)
      rw [e1]
      exact h2
    · exact ev_neg h (stop i)
theorem pieces_true (hl : S.length * 16 ≤ 140737488351232) (hs : ∀ s ∈ S, s.size ≤ 140737488351232) (hkeys : keys.length ≤ 100) : Ev (fun k => quilllaw15_pieces.f k S a1 a2 a3 a4 a5 a6 a7 keys) true := by
  obtain ⟨v, h1, h2⟩ := heavy_ev S hl hs a1 a2 a3 a4 a5 a6 a7
  unfold quilllaw15_pieces.f
  refine Ev.bind h1 ?_
  cases v
  · exact ev_neg (by decide) (pieces_l0 S a1 a2 a3 a4 a5 a6 a7 keys (h2 rfl).2 hkeys 4 0 (by omega))
  · exact ev_pos (by trivial) (Ev.now _)
end
end Go.Proofs.YtgikaemhhaejoaaDoor.P
