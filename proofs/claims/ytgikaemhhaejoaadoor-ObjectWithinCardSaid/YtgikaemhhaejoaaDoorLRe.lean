/- The piece around a place, by its key: the program's function and the document's come to the same. Conditions: none. -/
import Derived.Test.YtgikaemhhaejoaaDoorLRd
import Derived.Test.YtgikaemhhaejoaaDoorLQh
import Derived.Test.YtgikaemhhaejoaaDoorP0
import Derived.Test.YtgikaemhhaejoaaDoorP2
import Derived.Test.YtgikaemhhaejoaaDoorP8
import Derived.Test.YtgikaemhhaejoaaDoorP9
import Derived.Test.YtgikaemhhaejoaaDoorP10
import Derived.Test.YtgikaemhhaejoaaDoorP14
namespace Go.Proofs.YtgikaemhhaejoaaDoor.P
open Go.RowKit Go.Proofs.YtgikaemhhaejoaaDoor Go.Proofs.YtgikaemhhaejoaaDoorW.PrintWords Go.Proofs.YtgikaemhhaejoaaDoorW.PrintLast Go.Proofs.YtgikaemhhaejoaaDoorW.PrintMore
/-! ### runes -/
theorem decode_lt (s : ByteArray) (i : Nat) : (Utf8.decode s i).1 < 4194304 := by
  have hb : ∀ j, (s.get! j).toNat < 256 := fun j => UInt8.toNat_lt _
  have b0 := hb (i + 0)
  have b1 := hb (i + 1)
  have b2 := hb (i + 2)
  have b3 := hb (i + 3)
  unfold Utf8.decode Utf8.runeError
  simp only []
  repeat' split
  all_goals first | omega | (simp only []; omega)
theorem runesAt_lt (s : ByteArray) : ∀ k i r, r ∈ runesAt s k i → 0 ≤ r ∧ r < 4194304
  | 0, _, _, h => by simp [runesAt] at h
  | k + 1, i, r, h => by
    unfold runesAt at h
    split at h
    · rcases List.mem_cons.mp h with e | e
      · have := decode_lt s i
        subst e
        simp only [Int.ofNat_eq_natCast]
        omega
      · exact runesAt_lt s k _ r e
    · simp at h
theorem runes_wrap (s : ByteArray) (i : Int) (h0 : 0 ≤ i) (h1 : i < (runesOf s).length) : wrap64 (rd (runesOf s) i) = rd (runesOf s) i := by
  have hm : rd (runesOf s) i ∈ runesOf s := by
    unfold rd
    rw [List.getD_eq_getElem?_getD, List.getElem?_eq_getElem (by omega)]
    exact List.getElem_mem _
  have := runesAt_lt s s.size 0 _ hm
  exact w64 (by omega) (by omega)
/-! ### keys -/
def ObjB (key : Int) : Bool := decide (key ∈ ([119, 87, 34, 40, 41, 98, 91, 93, 123, 125, 66, 112] : List Int))
theorem is_small : ∀ n : Fin 128, object_Is.f ((n.val : Nat) : Int) = some (ObjB ((n.val : Nat) : Int)) := by decide +kernel
theorem object_is (key : Int) : object_Is.f key = some (ObjB key) := by
  by_cases h : 0 ≤ key ∧ key < 128
  · have := is_small ⟨key.toNat, by omega⟩
    rw [show (((⟨key.toNat, by omega⟩ : Fin 128).val : Nat) : Int) = key by show ((key.toNat : Nat) : Int) = key; omega] at this
    exact this
  · have e : ObjB key = false := by
      unfold ObjB
      refine decide_eq_false fun q => ?_
      simp only [List.mem_cons, List.not_mem_nil, or_false] at q
      omega
    rw [e]
    unfold object_Is.f
    by_cases h2 : key > 0
    · rw [if_pos h2, if_neg (by omega)]
    · rw [if_neg h2]
theorem object_ref (key : Int) : Ev (fun k => quillref15_Object.f k key) (ObjB key) := by
  obtain ⟨v, h1, h2⟩ := in_ev [119, 87, 34, 40, 41, 98, 91, 93, 123, 125, 66, 112] key (by decide)
  unfold quillref15_Object.f
  refine Ev.bind h1 ?_
  have e : decide (v ≥ 0) = ObjB key := decide_eq_decide.2 h2
  rw [e]
  exact Ev.now _
theorem obj_keys {key : Int} (h : ObjB key = true) : key = 119 ∨ key = 87 ∨ key = 34 ∨ key = 112 ∨ (key = 40 ∨ key = 41 ∨ key = 98) ∨ (key = 91 ∨ key = 93) ∨ (key = 123 ∨ key = 125 ∨ key = 66) := by
  have q := of_decide_eq_true h
  simp only [List.mem_cons, List.not_mem_nil, or_false] at q
  omega
section
variable {s : ByteArray} (hs : s.size ≤ 4000) (hm : MayB s = true) {B : List Int} (hof : Ev (fun k => text_Of.f k s) (runesOf s, B)) (hB : Beg (runesOf s) B (runesOf s).length) {a key count : Int} (a0 : 0 ≤ a) (a1 : a ≤ (runesOf s).length) (ho : ObjB key = true) (c1 : 1 ≤ count) (c2 : count ≤ 999)
include hs hm hof hB a0 a1 ho c1 c2
set_option linter.unusedSectionVars false
theorem is_at : text_Map_Is.f (runesOf s) B a = some true := by
  unfold text_Map_Is.f
  rw [if_pos a0, decide_eq_true a1]
theorem piece_pre {wide : Int} (hw : wide = 105 ∨ wide = 97) {r : Int × Int × Bool × Int} (hr : Ev (fun k => object_Piece.j1 k s a wide key count (decide (key = 119 ∨ key = 87 ∨ key = 34 ∨ key = 112)) (runesOf s) B) r) : Ev (fun k => object_Piece.f k s a wide key count) r := by
  have j0 : Ev (fun k => object_Piece.j0 k s a wide key count false) r := by
    refine ev_shift ?_
    simp only [object_Piece.j0]
    refine ev_neg (by decide) (Ev.bind hof (ev_bindc (is_at hs hm hof hB a0 a1 ho c1 c2) (ev_pos (by trivial) ?_)))
    by_cases k1 : key = 119
    · rw [decide_eq_true (.inl k1)] at hr
      exact ev_pos k1 hr
    · refine ev_neg k1 ?_
      by_cases k2 : key = 87
      · rw [decide_eq_true (.inr (.inl k2))] at hr
        exact ev_pos k2 hr
      · refine ev_neg k2 ?_
        by_cases k3 : key = 34
        · rw [decide_eq_true (.inr (.inr (.inl k3)))] at hr
          exact ev_pos k3 hr
        · refine ev_neg k3 ?_
          have e : decide (key = 119 ∨ key = 87 ∨ key = 34 ∨ key = 112) = (key == 112) := by
            by_cases k4 : key = 112
            · rw [decide_eq_true (.inr (.inr (.inr k4))), beq_iff_eq.mpr k4]
            · rw [decide_eq_false (by omega), beq_eq_false_iff_ne.mpr k4]
          rw [e] at hr
          exact hr
  unfold object_Piece.f
  refine ev_bindc (may_prog s (by omega)) ?_
  rw [hm]
  refine ev_pos (by trivial) ?_
  have d : decide (count > 999) = false := decide_eq_false (by omega)
  rcases hw with hw | hw
  · refine ev_pos hw (ev_bindc (object_is key) ?_)
    rw [ho, d]
    exact ev_pos (by trivial) (ev_neg (by omega) j0)
  · refine ev_neg (by omega) (ev_pos hw (ev_bindc (object_is key) ?_))
    rw [ho, d]
    exact ev_pos (by trivial) (ev_neg (by omega) j0)
/-- A plain key, once. -/
theorem plain_pre {wide : Int} (hw : wide = 105 ∨ wide = 97) (hp : key = 119 ∨ key = 87 ∨ key = 34 ∨ key = 112) (hc : count = 1) {r : Int × Int × Bool × Int}
    (hr : Ev (fun k => if key = 119 then (object_Piece.j3 k s a wide key count true (runesOf s) B) else (object_Piece.j3 k s a wide key count (key == 87) (runesOf s) B)) r) : Ev (fun k => object_Piece.f k s a wide key count) r := by
  refine piece_pre hs hm hof hB a0 a1 ho c1 c2 hw ?_
  rw [decide_eq_true hp]
  refine ev_shift ?_
  simp only [object_Piece.j1]
  refine ev_pos (by trivial) ?_
  rw [decide_eq_false (by omega)]
  refine ev_shift ?_
  simp only [object_Piece.j2]
  exact ev_neg (by decide) hr
theorem plain_more {wide : Int} (hw : wide = 105 ∨ wide = 97) (hp : key = 119 ∨ key = 87 ∨ key = 34 ∨ key = 112) (hc : count ≠ 1) : Ev (fun k => object_Piece.f k s a wide key count) (0, 0, false, 6) := by
  refine piece_pre hs hm hof hB a0 a1 ho c1 c2 hw ?_
  rw [decide_eq_true hp]
  refine ev_shift ?_
  simp only [object_Piece.j1]
  refine ev_pos (by trivial) ?_
  rw [decide_eq_true (by omega)]
  refine ev_shift ?_
  simp only [object_Piece.j2]
  exact ev_pos (by trivial) (Ev.now _)
/-- The document's, of a plain key that is asked more than once. -/
theorem ref_more (wide : Int) (hp : key = 119 ∨ key = 87 ∨ key = 34 ∨ key = 112) (hc : count ≠ 1) : Ev (fun k => quillref15_Piece.f k (runesOf s) a wide key count) (0, 0, false, 6) := by
  unfold quillref15_Piece.f
  by_cases k1 : key = 119
  · refine ev_pos k1 ?_
    rw [beq_iff_eq.mpr k1]
    refine ev_shift ?_
    simp only [quillref15_Piece.j0]
    exact ev_pos (by trivial) (ev_neg hc (Ev.now _))
  · refine ev_neg k1 ?_
    by_cases k2 : key = 87
    · rw [beq_iff_eq.mpr k2]
      refine ev_shift ?_
      simp only [quillref15_Piece.j0]
      exact ev_pos (by trivial) (ev_neg hc (Ev.now _))
    · rw [beq_eq_false_iff_ne.mpr k2]
      refine ev_shift ?_
      simp only [quillref15_Piece.j0]
      refine ev_neg (by decide) ?_
      by_cases k3 : key = 34
      · exact ev_pos k3 (ev_neg hc (Ev.now _))
      · exact ev_neg k3 (ev_pos (by omega) (ev_neg hc (Ev.now _)))
theorem around_ev {k0 kind : Int} (k1 : 0 ≤ k0) (k2 : k0 < 3) (hk : kind = opn k0) :
    (Ev (fun k => pairs_Around.f k s a kind count) (0, 0, 6) ∧ Ev (fun k => quillref12_Around.f k (runesOf s) a kind count) (-1, -1)) ∨
    ∃ o g : Int, 0 ≤ o ∧ o < g ∧ g < (runesOf s).length ∧ Ev (fun k => pairs_Around.f k s a kind count) (o, g, 0) ∧ Ev (fun k => quillref12_Around.f k (runesOf s) a kind count) (o, g) := by
  have hn := runesOf_len s
  have hi0 : -1 ≤ mn a (wrap64 (((runesOf s).length : Int) - 1)) ∧ mn a (wrap64 (((runesOf s).length : Int) - 1)) ≤ a ∧ mn a (wrap64 (((runesOf s).length : Int) - 1)) < (runesOf s).length := by
    rw [w64 (by omega) (by omega)]
    unfold mn
    split <;> omega
  have pre : ∀ r, Ev (fun k => pairs_Around.l0 k a kind count (mn a (wrap64 (((runesOf s).length : Int) - 1))) (runesOf s) B) r → Ev (fun k => pairs_Around.f k s a kind count) r := by
    intro r hr
    have j0 : Ev (fun k => pairs_Around.j0 k s a kind count false) r := by
      refine ev_shift ?_
      simp only [pairs_Around.j0]
      exact ev_neg (by decide) (Ev.bind hof (ev_bindc (is_at hs hm hof hB a0 a1 ho c1 c2) (ev_pos (by trivial) hr)))
    unfold pairs_Around.f
    refine ev_bindc (may_prog s (by omega)) ?_
    rw [hm, show decide (count > 999) = false from decide_eq_false (by omega)]
    refine ev_pos (by trivial) ?_
    have e3 : k0 = 0 ∨ k0 = 1 ∨ k0 = 2 := by omega
    rcases e3 with e | e | e
    · exact ev_pos (by rw [hk, e]; decide) (ev_neg (by omega) j0)
    · exact ev_neg (by rw [hk, e]; decide) (ev_pos (by rw [hk, e]; decide) (ev_neg (by omega) j0))
    · exact ev_neg (by rw [hk, e]; decide) (ev_neg (by rw [hk, e]; decide) (ev_pos (by rw [hk, e]; decide) (ev_neg (by omega) j0)))
  rcases around_loop (R := runesOf s) (B := B) (by omega) (runes_wrap s) k1 k2 hk a0 (mn a (wrap64 (((runesOf s).length : Int) - 1)) + 1).toNat (mn a (wrap64 (((runesOf s).length : Int) - 1))) count (by omega) (by omega) (by omega) c1 c2 with ⟨z1, z2⟩ | ⟨o, g, y1, y2, y3, z1, z2⟩
  · exact .inl ⟨pre _ z1, z2⟩
  · exact .inr ⟨o, g, y1, y2, y3, pre _ z1, z2⟩
theorem piece_bracket {k0 kind : Int} (k1 : 0 ≤ k0) (k2 : k0 < 3) (hk : kind = opn k0) (hbr : Ev (fun k => object_bracket.f k key) kind) (hnp : ¬ (key = 119 ∨ key = 87 ∨ key = 34 ∨ key = 112))
    (href : ∀ wide r, Ev (fun k => quillref15_Piece.j2 k (runesOf s) a wide count kind) r → Ev (fun k => quillref15_Piece.f k (runesOf s) a wide key count) r) :
    ∃ lo hi1 : Int, lo ≤ hi1 ∧ hi1 ≤ (runesOf s).length ∧ ∀ wide, wide = 105 ∨ wide = 97 → ∃ r, Ev (fun k => object_Piece.f k s a wide key count) r ∧ Ev (fun k => quillref15_Piece.f k (runesOf s) a wide key count) r ∧ Told (runesOf s) false wide lo hi1 r := by
  have hn := runesOf_len s
  have wk : wrap64 kind = kind := by
    have e3 : k0 = 0 ∨ k0 = 1 ∨ k0 = 2 := by omega
    rw [hk]
    rcases e3 with rfl | rfl | rfl <;> decide +kernel
  have pre : ∀ wide r, wide = 105 ∨ wide = 97 → Ev (fun k => (pairs_Around.f k s a kind count).bind fun bt239 => (if bt239.2.2 = 0 then ((object_inner.f bt239.1 bt239.2.1 wide).bind fun bt242 => (some (bt242.1, bt242.2.1, bt242.2.2, 0))) else (some (0, 0, false, bt239.2.2)))) r → Ev (fun k => object_Piece.f k s a wide key count) r := by
    intro wide r hw hr
    refine piece_pre hs hm hof hB a0 a1 ho c1 c2 hw ?_
    rw [decide_eq_false hnp]
    refine ev_shift ?_
    simp only [object_Piece.j1]
    refine ev_neg (by decide) (ev_shift ?_)
    simp only [object_Piece.j2]
    refine ev_neg (by decide) (ev_neg (by omega) ?_)
    rw [beq_eq_false_iff_ne.mpr (by omega)]
    refine ev_shift ?_
    simp only [object_Piece.j3]
    exact ev_neg (by decide) (ev_neg (by omega) (ev_neg (by omega) (Ev.bind hbr hr)))
  have ref2 : ∀ wide r, Ev (fun k => (quillref12_Around.f k (runesOf s) a kind count).bind fun bt358 => (if bt358.1 ≥ 0 then (if wide = 105 then (some (wrap64 (bt358.1 + 1), bt358.2, false, 0)) else (some (bt358.1, wrap64 (bt358.2 + 1), false, 0))) else (some (0, 0, false, 6)))) r → Ev (fun k => quillref15_Piece.f k (runesOf s) a wide key count) r := by
    intro wide r hr
    refine href wide r (ev_shift ?_)
    simp only [quillref15_Piece.j2]
    rw [wk]
    exact hr
  rcases around_ev hs hm hof hB a0 a1 ho c1 c2 k1 k2 hk with ⟨z1, z2⟩ | ⟨o, g, y1, y2, y3, z1, z2⟩
  · exact ⟨0, 0, by omega, by omega, fun wide hw => ⟨(0, 0, false, 6), pre wide _ hw (Ev.bind z1 (ev_neg (by decide) (Ev.now _))), ref2 wide _ (Ev.bind z2 (ev_neg (by decide) (Ev.now _))), .inl rfl⟩⟩
  · refine ⟨o + 1, g, by omega, by omega, fun wide hw => ⟨inn o g wide, pre wide _ hw (Ev.bind z1 (ev_pos (by trivial) (ev_bindc (inner_eq (o := o) (s := g) (by omega) (by omega) (by omega) (by omega)) ?_))), ref2 wide _ (Ev.bind z2 (ev_pos y1 ?_)), inn_told wide y3⟩⟩
    · rw [← inn_all]
      exact Ev.now _
    · rw [w64 (x := o + 1) (by omega) (by omega), w64 (x := g + 1) (by omega) (by omega)]
      unfold inn
      by_cases hw : wide = 105
      · simp only [if_pos hw]
        exact Ev.now _
      · simp only [if_neg hw]
        exact Ev.now _
theorem piece_both : ∃ lo hi1 : Int, lo ≤ hi1 ∧ hi1 ≤ (runesOf s).length ∧ ∀ wide, wide = 105 ∨ wide = 97 → ∃ r, Ev (fun k => object_Piece.f k s a wide key count) r ∧ Ev (fun k => quillref15_Piece.f k (runesOf s) a wide key count) r ∧ Told (runesOf s) (key == 112) wide lo hi1 r := by
  have hn := runesOf_len s
  have more : (key = 119 ∨ key = 87 ∨ key = 34 ∨ key = 112) → count ≠ 1 → ∃ lo hi1 : Int, lo ≤ hi1 ∧ hi1 ≤ (runesOf s).length ∧ ∀ wide, wide = 105 ∨ wide = 97 → ∃ r, Ev (fun k => object_Piece.f k s a wide key count) r ∧ Ev (fun k => quillref15_Piece.f k (runesOf s) a wide key count) r ∧ Told (runesOf s) (key == 112) wide lo hi1 r := fun hp hc =>
    ⟨0, 0, by omega, by omega, fun wide hw => ⟨_, plain_more hs hm hof hB a0 a1 ho c1 c2 hw hp hc, ref_more hs hm hof hB a0 a1 ho c1 c2 wide hp hc, .inl rfl⟩⟩
  rcases obj_keys ho with e | e | e | e | e | e | e
  · by_cases hc : count = 1
    · obtain ⟨lo, hi1, g1, g2, g3⟩ := word_both hB (by omega) (key == 87) a0 a1
      rw [show (key == 112) = false from beq_eq_false_iff_ne.mpr (by omega)]
      refine ⟨lo, hi1, g1, g2, fun wide hw => ?_⟩
      obtain ⟨r, r1, r2, r3⟩ := g3 wide
      refine ⟨r, plain_pre hs hm hof hB a0 a1 ho c1 c2 hw (.inl e) hc (ev_pos e (ev_shift ?_)), ?_, r3⟩
      · simp only [object_Piece.j3]
        exact ev_pos (by trivial) (Ev.bind r1 (Ev.now _))
      · unfold quillref15_Piece.f
        refine ev_pos e ?_
        rw [beq_iff_eq.mpr e]
        refine ev_shift ?_
        simp only [quillref15_Piece.j0]
        exact ev_pos (by trivial) (ev_pos hc (Ev.bind r2 (Ev.now _)))
    · exact more (.inl e) hc
  · by_cases hc : count = 1
    · obtain ⟨lo, hi1, g1, g2, g3⟩ := word_both hB (by omega) (key == 87) a0 a1
      rw [show (key == 112) = false from beq_eq_false_iff_ne.mpr (by omega)]
      refine ⟨lo, hi1, g1, g2, fun wide hw => ?_⟩
      obtain ⟨r, r1, r2, r3⟩ := g3 wide
      rw [beq_iff_eq.mpr e] at r1 r2
      refine ⟨r, plain_pre hs hm hof hB a0 a1 ho c1 c2 hw (.inr (.inl e)) hc (ev_neg (by omega) ?_), ?_, r3⟩
      · rw [beq_iff_eq.mpr e]
        refine ev_shift ?_
        simp only [object_Piece.j3]
        rw [beq_iff_eq.mpr e]
        exact ev_pos (by trivial) (Ev.bind r1 (Ev.now _))
      · unfold quillref15_Piece.f
        refine ev_neg (by omega) ?_
        rw [beq_iff_eq.mpr e]
        refine ev_shift ?_
        simp only [quillref15_Piece.j0]
        rw [beq_iff_eq.mpr e]
        exact ev_pos (by trivial) (ev_pos hc (Ev.bind r2 (Ev.now _)))
    · exact more (.inr (.inl e)) hc
  · by_cases hc : count = 1
    · obtain ⟨lo, hi1, g1, g2, g3⟩ := quote_both hB (by omega) a0 a1
      rw [show (key == 112) = false from beq_eq_false_iff_ne.mpr (by omega)]
      refine ⟨lo, hi1, g1, g2, fun wide hw => ?_⟩
      obtain ⟨r, r1, r2, r3⟩ := g3 wide
      refine ⟨r, plain_pre hs hm hof hB a0 a1 ho c1 c2 hw (.inr (.inr (.inl e))) hc (ev_neg (by omega) ?_), ?_, r3⟩
      · rw [beq_eq_false_iff_ne.mpr (show key ≠ 87 by omega)]
        refine ev_shift ?_
        simp only [object_Piece.j3]
        exact ev_neg (by decide) (ev_pos e (Ev.bind r1 (Ev.now _)))
      · unfold quillref15_Piece.f
        refine ev_neg (by omega) ?_
        rw [beq_eq_false_iff_ne.mpr (show key ≠ 87 by omega)]
        refine ev_shift ?_
        simp only [quillref15_Piece.j0]
        exact ev_neg (by decide) (ev_pos e (ev_pos hc (Ev.bind r2 (Ev.now _))))
    · exact more (.inr (.inr (.inl e))) hc
  · by_cases hc : count = 1
    · obtain ⟨lo, hi1, g1, g2, g3⟩ := para_both hB (by omega) a0 a1
      rw [show (key == 112) = true from beq_iff_eq.mpr e]
      refine ⟨lo, hi1, g1, g2, fun wide hw => ?_⟩
      obtain ⟨r, r1, r2, r3⟩ := g3 wide
      refine ⟨r, plain_pre hs hm hof hB a0 a1 ho c1 c2 hw (.inr (.inr (.inr e))) hc (ev_neg (by omega) ?_), ?_, r3⟩
      · rw [beq_eq_false_iff_ne.mpr (show key ≠ 87 by omega)]
        refine ev_shift ?_
        simp only [object_Piece.j3]
        exact ev_neg (by decide) (ev_neg (by omega) (ev_pos e (Ev.bind r1 (Ev.now _))))
      · unfold quillref15_Piece.f
        refine ev_neg (by omega) ?_
        rw [beq_eq_false_iff_ne.mpr (show key ≠ 87 by omega)]
        refine ev_shift ?_
        simp only [quillref15_Piece.j0]
        exact ev_neg (by decide) (ev_neg (by omega) (ev_pos e (ev_pos hc (Ev.bind r2 (Ev.now _)))))
    · exact more (.inr (.inr (.inr e))) hc
  all_goals
    rw [show (key == 112) = false from beq_eq_false_iff_ne.mpr (by omega)]
  · refine piece_bracket hs hm hof hB a0 a1 ho c1 c2 (k0 := 0) (kind := 40) (by decide) (by decide) rfl ?_ (by omega) (fun wide r hr => ?_)
    · unfold object_bracket.f
      rcases e with e | e | e
      · refine ev_neg (by omega) ?_
        rw [beq_eq_false_iff_ne.mpr (show key ≠ 98 by omega)]
        refine ev_shift ?_
        simp only [object_bracket.j0]
        rw [e]
        exact ev_neg (by decide) (ev_neg (by decide) (ev_neg (by decide) (ev_neg (by decide) (Ev.now _))))
      · refine ev_pos e ?_
        rw [beq_iff_eq.mpr e]
        refine ev_shift ?_
        simp only [object_bracket.j0]
        exact ev_pos (by trivial) (Ev.now _)
      · refine ev_neg (by omega) ?_
        rw [beq_iff_eq.mpr e]
        refine ev_shift ?_
        simp only [object_bracket.j0]
        exact ev_pos (by trivial) (Ev.now _)
    · unfold quillref15_Piece.f
      refine ev_neg (by omega) ?_
      rw [beq_eq_false_iff_ne.mpr (show key ≠ 87 by omega)]
      refine ev_shift ?_
      simp only [quillref15_Piece.j0]
      refine ev_neg (by decide) (ev_neg (by omega) (ev_neg (by omega) (ev_neg (by omega) ?_)))
      rw [beq_eq_false_iff_ne.mpr (show key ≠ 93 by omega)]
      refine ev_shift ?_
      simp only [quillref15_Piece.j1]
      exact ev_neg (by decide) (ev_neg (by omega) (ev_neg (by omega) (ev_neg (by omega) hr)))
  · refine piece_bracket hs hm hof hB a0 a1 ho c1 c2 (k0 := 1) (kind := 91) (by decide) (by decide) rfl ?_ (by omega) (fun wide r hr => ?_)
    · unfold object_bracket.f
      refine ev_neg (by omega) ?_
      rw [beq_eq_false_iff_ne.mpr (show key ≠ 98 by omega)]
      refine ev_shift ?_
      simp only [object_bracket.j0]
      rcases e with e | e
      · rw [e]
        exact ev_neg (by decide) (ev_neg (by decide) (ev_neg (by decide) (ev_neg (by decide) (Ev.now _))))
      · exact ev_neg (by decide) (ev_pos e (Ev.now _))
    · unfold quillref15_Piece.f
      refine ev_neg (by omega) ?_
      rw [beq_eq_false_iff_ne.mpr (show key ≠ 87 by omega)]
      refine ev_shift ?_
      simp only [quillref15_Piece.j0]
      refine ev_neg (by decide) (ev_neg (by omega) (ev_neg (by omega) ?_))
      rcases e with e | e
      · refine ev_pos e ?_
        rw [beq_iff_eq.mpr e]
        refine ev_shift ?_
        simp only [quillref15_Piece.j1]
        exact ev_pos (by trivial) hr
      · refine ev_neg (by omega) ?_
        rw [beq_iff_eq.mpr e]
        refine ev_shift ?_
        simp only [quillref15_Piece.j1]
        exact ev_pos (by trivial) hr
  · refine piece_bracket hs hm hof hB a0 a1 ho c1 c2 (k0 := 2) (kind := 123) (by decide) (by decide) rfl ?_ (by omega) (fun wide r hr => ?_)
    · unfold object_bracket.f
      refine ev_neg (by omega) ?_
      rw [beq_eq_false_iff_ne.mpr (show key ≠ 98 by omega)]
      refine ev_shift ?_
      simp only [object_bracket.j0]
      rcases e with e | e | e
      · rw [e]
        exact ev_neg (by decide) (ev_neg (by decide) (ev_neg (by decide) (ev_neg (by decide) (Ev.now _))))
      · exact ev_neg (by decide) (ev_neg (by omega) (ev_pos e (Ev.now _)))
      · exact ev_neg (by decide) (ev_neg (by omega) (ev_neg (by omega) (ev_pos e (Ev.now _))))
    · unfold quillref15_Piece.f
      refine ev_neg (by omega) ?_
      rw [beq_eq_false_iff_ne.mpr (show key ≠ 87 by omega)]
      refine ev_shift ?_
      simp only [quillref15_Piece.j0]
      refine ev_neg (by decide) (ev_neg (by omega) (ev_neg (by omega) (ev_neg (by omega) ?_)))
      rw [beq_eq_false_iff_ne.mpr (show key ≠ 93 by omega)]
      refine ev_shift ?_
      simp only [quillref15_Piece.j1]
      refine ev_neg (by decide) ?_
      rcases e with e | e | e
      · exact ev_pos e hr
      · exact ev_neg (by omega) (ev_pos e hr)
      · exact ev_neg (by omega) (ev_neg (by omega) (ev_pos e hr))
end
end Go.Proofs.YtgikaemhhaejoaaDoor.P
