/- The quotes and the brackets around a place: the program's functions and the document's come to the same. Conditions: none. -/
import Derived.Test.YtgikaemhhaejoaaDoorLRb
import Derived.Test.YtgikaemhhaejoaaDoorP0
import Derived.Test.YtgikaemhhaejoaaDoorP2
import Derived.Test.YtgikaemhhaejoaaDoorP4
import Derived.Test.YtgikaemhhaejoaaDoorP7
import Derived.Test.YtgikaemhhaejoaaDoorP8
import Derived.Test.YtgikaemhhaejoaaDoorP12
import Derived.Test.YtgikaemhhaejoaaDoorP13
import Derived.Test.YtgikaemhhaejoaaDoorP14
namespace Go.Proofs.YtgikaemhhaejoaaDoor.P
open Go.RowKit Go.Proofs.YtgikaemhhaejoaaDoor Go.Proofs.YtgikaemhhaejoaaDoorW.PrintWords Go.Proofs.YtgikaemhhaejoaaDoorW.PrintLast Go.Proofs.YtgikaemhhaejoaaDoorW.PrintMore
/-- What lies between two places, or that with both. -/
def inn (o s wide : Int) : Int × Int × Bool × Int := if wide = 105 then (o + 1, s, false, 0) else (o, s + 1, false, 0)
theorem inner_eq {o s wide : Int} (h0 : 0 ≤ o) (h1 : o ≤ 5000) (h2 : 0 ≤ s) (h3 : s ≤ 5000) : object_inner.f o s wide = some ((inn o s wide).1, (inn o s wide).2.1, (inn o s wide).2.2.1) := by
  unfold object_inner.f inn
  split
  · rw [w64 (by omega) (by omega)]
  · rw [w64 (by omega) (by omega)]
theorem inn_err (o s wide : Int) : (inn o s wide).2.2.2 = 0 := by
  unfold inn
  split <;> rfl
theorem inn_all (o s wide : Int) : ((inn o s wide).1, (inn o s wide).2.1, (inn o s wide).2.2.1, (0 : Int)) = inn o s wide := by
  unfold inn
  split <;> rfl
theorem inn_told {R : List Int} {o s : Int} (wide : Int) (h1 : s < R.length) : Told R false wide (o + 1) s (inn o s wide) := by
  unfold inn Told
  by_cases h : wide = 105
  · rw [if_pos h]
    exact .inr (.inl ⟨h, rfl⟩)
  · rw [if_neg h]
    exact .inr (.inr ⟨h, o, s + 1, by omega, by omega, by omega, rfl⟩)
section
variable {R B : List Int} (h : Beg R B R.length) (hR : R.length ≤ 4000) {j a : Int} (h0 : 0 ≤ j) (h1 : j < B.length)
include h hR h0 h1
theorem quote_loop (d : Nat) : ∀ i op : Int, rd B j ≤ i → i + d = hi R B j → -1 ≤ op → op < i →
    (∀ wide, Ev (fun k => object_quote.l0 k a wide j op i R B) (0, 0, false, 6) ∧ Ev (fun k => quillref15_quoted.l0 k R a wide op i) (0, 0, false, 6)) ∨
    ∃ o s : Int, 0 ≤ o ∧ o < s ∧ s < R.length ∧ ∀ wide, Ev (fun k => object_quote.l0 k a wide j op i R B) (inn o s wide) ∧ Ev (fun k => quillref15_quoted.l0 k R a wide op i) (inn o s wide) := by
  obtain ⟨r1, r2, r3, r4, r5, r6⟩ := h.row h0 h1
  induction d with
  | zero =>
    intro i op hi1 e _ _
    refine .inl fun wide => ⟨ev_shift ?_, ev_shift ?_⟩
    · simp only [object_quote.l0]
      exact ev_bindc (end_ev h hR h0 h1) (ev_neg (by omega) (Ev.now _))
    · simp only [quillref15_quoted.l0]
      by_cases hl : i < (R.length : Int)
      · refine ev_pos hl (ev_pos (by omega) ?_)
        have : rd R i = 10 := by
          rcases r5 with r5 | r5
          · omega
          · rw [show i = hi R B j by omega]; exact r5
        rw [bne_eq_false_iff_eq.mpr this]
        exact ev_shift (by simp only [quillref15_quoted.j1]; exact ev_neg (by decide) (Ev.now _))
      · exact ev_neg hl (ev_shift (by simp only [quillref15_quoted.j1]; exact ev_neg (by decide) (Ev.now _)))
  | succ d ih =>
    intro i op hi1 e ho1 ho2
    have hn : rd R i ≠ 10 := r6 i (by omega) (by omega)
    have pre : ∀ wide r, Ev (fun k => if (rd R i) = 34 then (if op < 0 then (object_quote.l0 k a wide j i (wrap64 (i + 1)) R B) else (if i < a then (object_quote.l0 k a wide j (-1) (wrap64 (i + 1)) R B) else ((object_inner.f op i wide).bind fun bt => (some (bt.1, bt.2.1, bt.2.2, 0))))) else (object_quote.l0 k a wide j op (wrap64 (i + 1)) R B)) r →
        Ev (fun k => object_quote.l0 k a wide j op i R B) r := by
      intro wide r hr
      refine ev_shift ?_
      simp only [object_quote.l0]
      exact ev_bindc (end_ev h hR h0 h1) (ev_pos (by omega) (ev_pos (by omega) (ev_pos (by omega) hr)))
    have ref0 : ∀ wide r, Ev (fun k => if (rd R i) = 34 then (if op < 0 then (quillref15_quoted.l0 k R a wide i (wrap64 (i + 1))) else (if i ≥ a then (if wide = 105 then (some (wrap64 (op + 1), i, false, 0)) else (some (op, wrap64 (i + 1), false, 0))) else (quillref15_quoted.l0 k R a wide (-1) (wrap64 (i + 1))))) else (quillref15_quoted.l0 k R a wide op (wrap64 (i + 1)))) r →
        Ev (fun k => quillref15_quoted.l0 k R a wide op i) r := by
      intro wide r hr
      refine ev_shift ?_
      simp only [quillref15_quoted.l0]
      refine ev_pos (by omega) (ev_pos (by omega) ?_)
      rw [bne_iff_ne.mpr hn]
      refine ev_shift ?_
      simp only [quillref15_quoted.j1]
      exact ev_pos (by trivial) (ev_pos (by omega) (ev_pos (by omega) hr))
    have w : wrap64 (i + 1) = i + 1 := w64 (by omega) (by omega)
    by_cases hq : rd R i = 34
    · by_cases hop : op < 0
      · rcases ih (i + 1) i (by omega) (by omega) (by omega) (by omega) with z | ⟨o, s, z1, z2, z3, z⟩
        · exact .inl fun wide => ⟨pre _ _ (ev_pos hq (ev_pos hop (by rw [w]; exact (z wide).1))), ref0 _ _ (ev_pos hq (ev_pos hop (by rw [w]; exact (z wide).2)))⟩
        · exact .inr ⟨o, s, z1, z2, z3, fun wide => ⟨pre _ _ (ev_pos hq (ev_pos hop (by rw [w]; exact (z wide).1))), ref0 _ _ (ev_pos hq (ev_pos hop (by rw [w]; exact (z wide).2)))⟩⟩
      · by_cases hia : i < a
        · rcases ih (i + 1) (-1) (by omega) (by omega) (by omega) (by omega) with z | ⟨o, s, z1, z2, z3, z⟩
          · exact .inl fun wide => ⟨pre _ _ (ev_pos hq (ev_neg hop (ev_pos hia (by rw [w]; exact (z wide).1)))), ref0 _ _ (ev_pos hq (ev_neg hop (ev_neg (by omega) (by rw [w]; exact (z wide).2))))⟩
          · exact .inr ⟨o, s, z1, z2, z3, fun wide => ⟨pre _ _ (ev_pos hq (ev_neg hop (ev_pos hia (by rw [w]; exact (z wide).1)))), ref0 _ _ (ev_pos hq (ev_neg hop (ev_neg (by omega) (by rw [w]; exact (z wide).2))))⟩⟩
        · refine .inr ⟨op, i, by omega, by omega, by omega, fun wide => ⟨pre _ _ (ev_pos hq (ev_neg hop (ev_neg hia (ev_bindc (inner_eq (by omega) (by omega) (by omega) (by omega)) ?_)))), ref0 _ _ (ev_pos hq (ev_neg hop (ev_pos (by omega) ?_)))⟩⟩
          · rw [← inn_all]
            exact Ev.now _
          · rw [w, w64 (x := op + 1) (by omega) (by omega)]
            unfold inn
            by_cases hw : wide = 105
            · simp only [if_pos hw]
              exact Ev.now _
            · simp only [if_neg hw]
              exact Ev.now _
    · rcases ih (i + 1) op (by omega) (by omega) (by omega) (by omega) with z | ⟨o, s, z1, z2, z3, z⟩
      · exact .inl fun wide => ⟨pre _ _ (ev_neg hq (by rw [w]; exact (z wide).1)), ref0 _ _ (ev_neg hq (by rw [w]; exact (z wide).2))⟩
      · exact .inr ⟨o, s, z1, z2, z3, fun wide => ⟨pre _ _ (ev_neg hq (by rw [w]; exact (z wide).1)), ref0 _ _ (ev_neg hq (by rw [w]; exact (z wide).2))⟩⟩
end
theorem quote_both {R B : List Int} (h : Beg R B R.length) (hR : R.length ≤ 4000) {a : Int} (h0 : 0 ≤ a) (h1 : a ≤ R.length) :
    ∃ lo hi1 : Int, lo ≤ hi1 ∧ hi1 ≤ R.length ∧ ∀ wide, ∃ r, Ev (fun k => object_quote.f k R B a wide) r ∧ Ev (fun k => quillref15_quoted.f k R a wide) r ∧ Told R false wide lo hi1 r := by
  obtain ⟨j, hrow, j0, j1, jb, je⟩ := row_ev h hR h0 h1
  obtain ⟨r1, r2, r3, r4, r5, r6⟩ := h.row j0 j1
  obtain ⟨b2, eb, ib⟩ := begin_ev hR (i := a) h0 h1
  obtain rfl := ib.uniq (of_row h j0 j1 jb je).1
  have pre : ∀ wide r, Ev (fun k => object_quote.l0 k a wide j (-1) (rd B j) R B) r → Ev (fun k => object_quote.f k R B a wide) r := by
    intro wide r hr
    unfold object_quote.f
    exact Ev.bind hrow (ev_pos j0 (ev_pos j1 hr))
  have ref0 : ∀ wide r, Ev (fun k => quillref15_quoted.l0 k R a wide (-1) (rd B j)) r → Ev (fun k => quillref15_quoted.f k R a wide) r := by
    intro wide r hr
    unfold quillref15_quoted.f
    exact Ev.bind eb hr
  rcases quote_loop h hR (a := a) j0 j1 (hi R B j - rd B j).toNat (rd B j) (-1) (by omega) (by omega) (by omega) (by omega) with z | ⟨o, s, z1, z2, z3, z⟩
  · exact ⟨0, 0, by omega, by omega, fun wide => ⟨_, pre _ _ (z wide).1, ref0 _ _ (z wide).2, .inl rfl⟩⟩
  · exact ⟨o + 1, s, by omega, by omega, fun wide => ⟨_, pre _ _ (z wide).1, ref0 _ _ (z wide).2, inn_told wide z3⟩⟩
/-! ### brackets -/
/-- Which kind of bracket, and which way its mate is. -/
def kd (r : Int) : Int × Int :=
  if r = 40 then (0, 1) else if r = 91 then (1, 1) else if r = 123 then (2, 1) else if r = 41 then (0, -1) else if r = 93 then (1, -1) else if r = 125 then (2, -1) else (0, 0)
theorem kind_small : ∀ n : Fin 128, pairs_kind.f ((n.val : Nat) : Int) = some (kd ((n.val : Nat) : Int)) := by decide +kernel
theorem kind_eq (r : Int) : pairs_kind.f r = some (kd r) := by
  by_cases h : 0 ≤ r ∧ r < 128
  · have := kind_small ⟨r.toNat, by omega⟩
    rw [show (((⟨r.toNat, by omega⟩ : Fin 128).val : Nat) : Int) = r by show ((r.toNat : Nat) : Int) = r; omega] at this
    exact this
  · have e : ∀ l : ByteArray, l = (⟨#[40, 91, 123]⟩ : ByteArray) ∨ l = (⟨#[41, 93, 125]⟩ : ByteArray) → strings_IndexRune.f l r = some (-1) := by
      rintro l (rfl | rfl)
      · have e : strings_IndexRune.f ⟨#[40, 91, 123]⟩ r = (if (40 : UInt8).toNat < 128 ∧ (91 : UInt8).toNat < 128 ∧ (123 : UInt8).toNat < 128 then some (if 0 ≤ r ∧ r < 128 then Lib.indexByte [40, 91, 123] r.toNat.toUInt8 else -1) else none) := rfl
        rw [e, if_pos (by decide), if_neg h]
      · have e : strings_IndexRune.f ⟨#[41, 93, 125]⟩ r = (if (41 : UInt8).toNat < 128 ∧ (93 : UInt8).toNat < 128 ∧ (125 : UInt8).toNat < 128 then some (if 0 ≤ r ∧ r < 128 then Lib.indexByte [41, 93, 125] r.toNat.toUInt8 else -1) else none) := rfl
        rw [e, if_pos (by decide), if_neg h]
    unfold pairs_kind.f
    rw [e _ (.inl rfl), e _ (.inr rfl)]
    unfold kd
    rw [if_neg (by omega), if_neg (by omega), if_neg (by omega), if_neg (by omega), if_neg (by omega), if_neg (by omega)]
    rfl
def opn (k : Int) : Int := rd [40, 91, 123] k
def sht (k : Int) : Int := rd [41, 93, 125] k
def bk (r : Int) : Int × Bool :=
  if r = 40 then (0, true) else if r = 41 then (0, false) else if r = 91 then (1, true) else if r = 93 then (1, false) else if r = 123 then (2, true) else if r = 125 then (2, false) else (-1, false)
theorem bracket_ref (r : Int) : Ev (fun k => quillref12_bracket.f k r) (bk r) := by
  unfold quillref12_bracket.f
  refine ev_bindc (show quillref12_opens.f = some [40, 91, 123] from rfl) (ev_bindc (show quillref12_shuts.f = some [41, 93, 125] from rfl) ?_)
  unfold bk
  have step : ∀ (i : Int) (z : Int × Bool), 0 ≤ i → i < 3 → Ev (fun k => quillref12_bracket.l0 k r [40, 91, 123] [41, 93, 125] (i + 1)) z →
      Ev (fun k => quillref12_bracket.l0 k r [40, 91, 123] [41, 93, 125] i) (if r = opn i then (i, true) else if r = sht i then (i, false) else z) := by
    intro i z h0 h3 hz
    refine ev_shift ?_
    simp only [quillref12_bracket.l0]
    refine ev_pos h3 (ev_pos h0 (ev_pos (by simp; omega) ?_))
    by_cases h : r = opn i
    · rw [if_pos h]
      exact ev_pos h.symm (Ev.now _)
    · rw [if_neg h]
      refine ev_neg (fun z => h z.symm) (ev_pos (by simp; omega) ?_)
      by_cases h' : r = sht i
      · rw [if_pos h']
        exact ev_pos h'.symm (Ev.now _)
      · rw [if_neg h']
        refine ev_neg (fun z => h' z.symm) ?_
        rw [w64 (by omega) (by omega)]
        exact hz
  have last : Ev (fun k => quillref12_bracket.l0 k r [40, 91, 123] [41, 93, 125] (2 + 1)) ((-1 : Int), false) := ev_shift (by simp only [quillref12_bracket.l0]; exact ev_neg (by decide) (Ev.now _))
  exact step 0 _ (by decide) (by decide) (step 1 _ (by decide) (by decide) (step 2 _ (by decide) (by decide) last))
/-- How a rune of this kind's counts; 0: it is another's. -/
def dl (R : List Int) (k i : Int) : Int := if rd R i = opn k then 1 else if rd R i = sht k then -1 else 0
theorem opn_sht {k l : Int} (h0 : 0 ≤ k) (h1 : k < 3) (g0 : 0 ≤ l) (g1 : l < 3) : opn k ≠ sht l ∧ (opn k = opn l → k = l) ∧ (sht k = sht l → k = l) := by
  have e : (k = 0 ∨ k = 1 ∨ k = 2) ∧ (l = 0 ∨ l = 1 ∨ l = 2) := by omega
  obtain ⟨rfl | rfl | rfl, rfl | rfl | rfl⟩ := e <;> decide
theorem kd_open {k : Int} (h0 : 0 ≤ k) (h1 : k < 3) : kd (opn k) = (k, 1) := by
  have e : k = 0 ∨ k = 1 ∨ k = 2 := by omega
  obtain rfl | rfl | rfl := e <;> decide
theorem kd_shut {k : Int} (h0 : 0 ≤ k) (h1 : k < 3) : kd (sht k) = (k, -1) := by
  have e : k = 0 ∨ k = 1 ∨ k = 2 := by omega
  obtain rfl | rfl | rfl := e <;> decide
theorem kd_other {r k : Int} (h0 : 0 ≤ k) (h1 : k < 3) (ho : r ≠ opn k) (hs : r ≠ sht k) : (kd r).2 = 0 ∨ (kd r).1 ≠ k := by
  have e : k = 0 ∨ k = 1 ∨ k = 2 := by omega
  unfold kd
  obtain rfl | rfl | rfl := e
  all_goals
    simp only [opn, sht, rd] at ho hs
    repeat' split
    all_goals first | exact .inl rfl | (refine .inr ?_; decide) | (exfalso; first | exact ho (by assumption) | exact hs (by assumption))
section
variable {R : List Int} (hR : R.length ≤ 4000) {k0 by_ : Int} (k1 : 0 ≤ k0) (k2 : k0 < 3) (hby : by_ = 1 ∨ by_ = -1)
include hR k1 k2 hby
theorem mate_loop (d : Nat) : ∀ i deep e : Int, ((by_ = 1 ∧ i + d = R.length ∧ 0 ≤ i ∧ e = deep) ∨ (by_ = -1 ∧ i + 1 = d ∧ i < R.length ∧ e = -deep)) → -9000 + d ≤ deep → deep ≤ 9000 - d →
    ∃ m, Ev (fun k => pairs_mate.l0 k R k0 by_ deep i) m ∧ Ev (fun k => quillref12_Mate.l0 k R k0 by_ e i) m ∧ (m = -1 ∨ (0 ≤ m ∧ m < R.length ∧ (by_ = 1 → i ≤ m) ∧ (by_ = -1 → m ≤ i) ∧ (m = i → deep + dl R k0 i = 0))) := by
  induction d with
  | zero =>
    intro i deep e hi' _ _
    refine ⟨-1, ev_shift ?_, ev_shift ?_, .inl rfl⟩
    · simp only [pairs_mate.l0]
      by_cases h : i ≥ 0
      · refine ev_pos h ?_
        rw [decide_eq_false (by omega)]
        exact ev_shift (by simp only [pairs_mate.j1]; exact ev_neg (by decide) (Ev.now _))
      · exact ev_neg h (ev_shift (by simp only [pairs_mate.j1]; exact ev_neg (by decide) (Ev.now _)))
    · simp only [quillref12_Mate.l0]
      by_cases h : i ≥ 0
      · refine ev_pos h ?_
        rw [decide_eq_false (by omega)]
        exact ev_shift (by simp only [quillref12_Mate.j2]; exact ev_neg (by decide) (Ev.now _))
      · exact ev_neg h (ev_shift (by simp only [quillref12_Mate.j2]; exact ev_neg (by decide) (Ev.now _)))
  | succ d ih =>
    intro i deep e hi' hd1 hd2
    have i0 : 0 ≤ i := by omega
    have i1 : i < (R.length : Int) := by omega
    have wi : wrap64 (i + by_) = i + by_ := w64 (by omega) (by omega)
    have pre : ∀ r, Ev (fun k => if (kd (rd R i)).2 = 0 then (pairs_mate.j2 k R k0 by_ deep i (kd (rd R i)).2 false) else (pairs_mate.j2 k R k0 by_ deep i (kd (rd R i)).2 ((kd (rd R i)).1 == k0))) r → Ev (fun k => pairs_mate.l0 k R k0 by_ deep i) r := by
      intro r hr
      refine ev_shift ?_
      simp only [pairs_mate.l0]
      refine ev_pos i0 ?_
      rw [decide_eq_true i1]
      refine ev_shift ?_
      simp only [pairs_mate.j1]
      exact ev_pos (by trivial) (ev_pos i0 (ev_pos i1 (ev_bindc (kind_eq _) hr)))
    have ref0 : ∀ r, Ev (fun k => if rd R i = rd [40, 91, 123] k0 then (quillref12_Mate.j3 k R k0 by_ (wrap64 (e + by_)) i) else (quillref12_Mate.j3 k R k0 by_ e i)) r → Ev (fun k => quillref12_Mate.l0 k R k0 by_ e i) r := by
      intro r hr
      refine ev_shift ?_
      simp only [quillref12_Mate.l0]
      refine ev_pos i0 ?_
      rw [decide_eq_true i1]
      refine ev_shift ?_
      simp only [quillref12_Mate.j2]
      exact ev_pos (by trivial) (ev_pos i0 (ev_pos i1 (ev_bindc (show quillref12_opens.f = some [40, 91, 123] from rfl) (ev_pos k1 (ev_pos (by simp; omega) hr)))))
    have ref3 : ∀ x r, Ev (fun k => if rd R i = rd [41, 93, 125] k0 then (if (wrap64 (x - by_)) = 0 then (some i) else (quillref12_Mate.l0 k R k0 by_ (wrap64 (x - by_)) (wrap64 (i + by_)))) else (if x = 0 then (some i) else (quillref12_Mate.l0 k R k0 by_ x (wrap64 (i + by_))))) r → Ev (fun k => quillref12_Mate.j3 k R k0 by_ x i) r := by
      intro x r hr
      refine ev_shift ?_
      simp only [quillref12_Mate.j3]
      exact ev_pos i0 (ev_pos i1 (ev_bindc (show quillref12_shuts.f = some [41, 93, 125] from rfl) (ev_pos k1 (ev_pos (by simp; omega) hr))))
    have hdl : -1 ≤ dl R k0 i ∧ dl R k0 i ≤ 1 := by
      unfold dl
      repeat' split
      all_goals omega
    -- what comes of the next place
    obtain ⟨m, n1, n2, n3⟩ : ∃ m, (∀ D E : Int, D = deep + dl R k0 i → (by_ = 1 ∧ E = D ∨ by_ = -1 ∧ E = -D) → Ev (fun k => if D = 0 then some i else pairs_mate.l0 k R k0 by_ D (i + by_)) m ∧ Ev (fun k => if E = 0 then some i else quillref12_Mate.l0 k R k0 by_ E (i + by_)) m) ∧ True ∧
        (m = -1 ∨ (0 ≤ m ∧ m < R.length ∧ (by_ = 1 → i ≤ m) ∧ (by_ = -1 → m ≤ i) ∧ (m = i → deep + dl R k0 i = 0))) := by
      by_cases z : deep + dl R k0 i = 0
      · exact ⟨i, fun D E h1 h2 => ⟨ev_pos (by omega) (Ev.now _), ev_pos (by omega) (Ev.now _)⟩, trivial, .inr ⟨i0, i1, fun _ => Int.le_refl _, fun _ => Int.le_refl _, fun _ => z⟩⟩
      · obtain ⟨m, m1, m2, m3⟩ := ih (i + by_) (deep + dl R k0 i) (if by_ = 1 then deep + dl R k0 i else -(deep + dl R k0 i)) (by
          rcases hby with rfl | rfl
          · rw [if_pos rfl]; omega
          · rw [if_neg (by decide)]; omega) (by omega) (by omega)
        refine ⟨m, fun D E h1 h2 => ?_, trivial, ?_⟩
        · subst h1
          have hE : E = (if by_ = 1 then deep + dl R k0 i else -(deep + dl R k0 i)) := by
            rcases h2 with ⟨rfl, rfl⟩ | ⟨rfl, rfl⟩
            · rw [if_pos rfl]
            · rw [if_neg (by decide)]
          rw [← hE] at m2
          exact ⟨ev_neg z m1, ev_neg (by omega) m2⟩
        · rcases m3 with m3 | ⟨m3, m4, m5, m6, m7⟩
          · exact .inl m3
          · refine .inr ⟨m3, m4, fun q => by have := m5 q; omega, fun q => by have := m6 q; omega, fun q => ?_⟩
            rcases hby with hb | hb
            · have := m5 hb; omega
            · have := m6 hb; omega
    refine ⟨m, ?_, ?_, n3⟩
    · refine pre m ?_
      by_cases ho : rd R i = opn k0
      · have hd : dl R k0 i = 1 := if_pos ho
        have hk : kd (rd R i) = (k0, 1) := by rw [ho]; exact kd_open k1 k2
        rw [hk]
        refine ev_neg (show ¬ ((1 : Int) = 0) by decide) ?_
        rw [show ((k0, (1 : Int)).1 == k0) = true from beq_self_eq_true k0]
        refine ev_shift ?_
        simp only [pairs_mate.j2]
        rw [w64 (x := deep + 1) (by omega) (by omega), wi]
        exact ev_pos (by trivial) (n1 (deep + 1) (if by_ = 1 then deep + 1 else -(deep + 1)) (by omega) (by rcases hby with rfl | rfl <;> simp)).1
      · by_cases hs : rd R i = sht k0
        · have hd : dl R k0 i = -1 := by unfold dl; rw [if_neg ho, if_pos hs]
          have hk : kd (rd R i) = (k0, -1) := by rw [hs]; exact kd_shut k1 k2
          rw [hk]
          refine ev_neg (show ¬ ((-1 : Int) = 0) by decide) ?_
          rw [show ((k0, (-1 : Int)).1 == k0) = true from beq_self_eq_true k0]
          refine ev_shift ?_
          simp only [pairs_mate.j2]
          rw [w64 (x := deep + -1) (by omega) (by omega), wi]
          exact ev_pos (by trivial) (n1 (deep + -1) (if by_ = 1 then deep + -1 else -(deep + -1)) (by omega) (by rcases hby with rfl | rfl <;> simp)).1
        · have hd : dl R k0 i = 0 := by unfold dl; rw [if_neg ho, if_neg hs]
          have fin : ∀ w, Ev (fun k => pairs_mate.j2 k R k0 by_ deep i w false) m := by
            intro w
            refine ev_shift ?_
            simp only [pairs_mate.j2]
            rw [wi]
            exact ev_neg (by decide) (n1 deep (if by_ = 1 then deep else -deep) (by omega) (by rcases hby with rfl | rfl <;> simp)).1
          by_cases hz : (kd (rd R i)).2 = 0
          · exact ev_pos hz (fin _)
          · refine ev_neg hz ?_
            rw [beq_eq_false_iff_ne.mpr ((kd_other k1 k2 ho hs).resolve_left hz)]
            exact fin _
    · refine ref0 m ?_
      by_cases ho : rd R i = opn k0
      · have hd : dl R k0 i = 1 := if_pos ho
        have hs : rd R i ≠ sht k0 := by rw [ho]; exact (opn_sht k1 k2 k1 k2).1
        refine ev_pos ho (ref3 _ m (ev_neg hs ?_))
        rw [w64 (x := e + by_) (by omega) (by omega), wi]
        exact (n1 (deep + 1) (e + by_) (by omega) (by omega)).2
      · refine ev_neg ho (ref3 _ m ?_)
        by_cases hs : rd R i = sht k0
        · have hd : dl R k0 i = -1 := by unfold dl; rw [if_neg ho, if_pos hs]
          refine ev_pos hs ?_
          rw [w64 (x := e - by_) (by omega) (by omega), wi]
          exact (n1 (deep + -1) (e - by_) (by omega) (by omega)).2
        · have hd : dl R k0 i = 0 := by unfold dl; rw [if_neg ho, if_neg hs]
          refine ev_neg hs ?_
          rw [wi]
          exact (n1 deep e (by omega) (by omega)).2
end
/-- The mate of an opening bracket. -/
theorem mate_open {R : List Int} (hR : R.length ≤ 4000) {k0 : Int} (k1 : 0 ≤ k0) (k2 : k0 < 3) {i : Int} (i0 : 0 ≤ i) (i1 : i < R.length) (ho : rd R i = opn k0) :
    ∃ m, Ev (fun k => pairs_mate.f k R i) m ∧ Ev (fun k => quillref12_Mate.f k R i) m ∧ (m = -1 ∨ (i < m ∧ m < R.length)) := by
  obtain ⟨m, m1, m2, m3⟩ := mate_loop hR k1 k2 (.inl rfl) (R.length - i).toNat i 0 0 (.inl ⟨rfl, by omega, i0, rfl⟩) (by omega) (by omega)
  refine ⟨m, ?_, ?_, ?_⟩
  · unfold pairs_mate.f
    refine ev_neg (by omega) (ev_pos i0 (ev_pos i1 (ev_bindc (kind_eq _) ?_)))
    rw [ho, kd_open k1 k2]
    exact ev_neg (show ¬ ((1 : Int) = 0) by decide) m1
  · unfold quillref12_Mate.f
    refine ev_neg (by omega) (ev_pos i0 (ev_pos i1 (Ev.bind (bracket_ref _) ?_)))
    have hb : bk (rd R i) = (k0, true) := by
      rw [ho]
      have e : k0 = 0 ∨ k0 = 1 ∨ k0 = 2 := by omega
      obtain rfl | rfl | rfl := e <;> decide
    rw [hb]
    refine ev_neg (show ¬ k0 < 0 by omega) (ev_pos (by trivial) (ev_shift ?_))
    simp only [quillref12_Mate.j0]
    exact m2
  · rcases m3 with m3 | ⟨m3, m4, m5, m6, m7⟩
    · exact .inl m3
    · refine .inr ⟨?_, m4⟩
      have hd : dl R k0 i = 1 := if_pos ho
      have := m5 rfl
      rcases Int.lt_or_eq_of_le this with z | z
      · exact z
      · have := m7 z.symm
        omega
section
variable {R B : List Int} (hR : R.length ≤ 4000) (hv : ∀ i : Int, 0 ≤ i → i < R.length → wrap64 (rd R i) = rd R i) {k0 key a : Int} (k1 : 0 ≤ k0) (k2 : k0 < 3) (hk : key = opn k0) (ha : 0 ≤ a)
include hR hv k1 k2 hk ha
theorem around_loop (d : Nat) : ∀ i c : Int, i + 1 = d → i < R.length → i ≤ a → 1 ≤ c → c ≤ 999 →
    (Ev (fun k => pairs_Around.l0 k a key c i R B) (0, 0, 6) ∧ Ev (fun k => quillref12_Around.l0 k R a key c i) (-1, -1)) ∨
    ∃ o s : Int, 0 ≤ o ∧ o < s ∧ s < R.length ∧ Ev (fun k => pairs_Around.l0 k a key c i R B) (o, s, 0) ∧ Ev (fun k => quillref12_Around.l0 k R a key c i) (o, s) := by
  induction d with
  | zero =>
    intro i c e _ _ _ _
    refine .inl ⟨ev_shift ?_, ev_shift ?_⟩
    · simp only [pairs_Around.l0]
      exact ev_neg (by omega) (Ev.now _)
    · simp only [quillref12_Around.l0]
      exact ev_neg (by omega) (Ev.now _)
  | succ d ih =>
    intro i c e i1 ia c1 c2
    have i0 : 0 ≤ i := by omega
    have wi : wrap64 (i - 1) = i - 1 := w64 (by omega) (by omega)
    have wc : wrap64 (c - 1) = c - 1 := w64 (by omega) (by omega)
    have wk : wrap32 key = key := by
      have e3 : k0 = 0 ∨ k0 = 1 ∨ k0 = 2 := by omega
      rw [hk]
      obtain rfl | rfl | rfl := e3 <;> decide +kernel
    have pre : ∀ r, Ev (fun k => if (rd R i) = key then ((pairs_mate.f k R i).bind fun t213 => (if t213 ≥ a then (if c - 1 = 0 then (some (i, t213, 0)) else (pairs_Around.l0 k a key (c - 1) (i - 1) R B)) else (pairs_Around.l0 k a key c (i - 1) R B))) else (pairs_Around.l0 k a key c (i - 1) R B)) r → Ev (fun k => pairs_Around.l0 k a key c i R B) r := by
      intro r hr
      refine ev_shift ?_
      simp only [pairs_Around.l0]
      rw [wi, wc, wk]
      exact ev_pos i0 (ev_pos i0 (ev_pos i1 hr))
    have ref0 : ∀ r, Ev (fun k => if (rd R i) = key then ((quillref12_Mate.f k R i).bind fun t344 => (if t344 ≥ a then (if c - 1 = 0 then (some (i, t344)) else (quillref12_Around.l0 k R a key (c - 1) (i - 1))) else (quillref12_Around.l0 k R a key c (i - 1)))) else (quillref12_Around.l0 k R a key c (i - 1))) r → Ev (fun k => quillref12_Around.l0 k R a key c i) r := by
      intro r hr
      refine ev_shift ?_
      simp only [quillref12_Around.l0]
      rw [wi, wc, hv i i0 i1]
      exact ev_pos i0 (ev_pos i0 (ev_pos i1 hr))
    by_cases hkey : rd R i = key
    · obtain ⟨m, m1, m2, m3⟩ := mate_open hR k1 k2 i0 i1 (hkey.trans hk)
      by_cases hm : m ≥ a
      · by_cases hc : c - 1 = 0
        · exact .inr ⟨i, m, i0, by omega, by omega, pre _ (ev_pos hkey (Ev.bind m1 (ev_pos hm (ev_pos hc (Ev.now _))))), ref0 _ (ev_pos hkey (Ev.bind m2 (ev_pos hm (ev_pos hc (Ev.now _)))))⟩
        · rcases ih (i - 1) (c - 1) (by omega) (by omega) (by omega) (by omega) (by omega) with ⟨z1, z2⟩ | ⟨o, s, y1, y2, y3, z1, z2⟩
          · exact .inl ⟨pre _ (ev_pos hkey (Ev.bind m1 (ev_pos hm (ev_neg hc z1)))), ref0 _ (ev_pos hkey (Ev.bind m2 (ev_pos hm (ev_neg hc z2))))⟩
          · exact .inr ⟨o, s, y1, y2, y3, pre _ (ev_pos hkey (Ev.bind m1 (ev_pos hm (ev_neg hc z1)))), ref0 _ (ev_pos hkey (Ev.bind m2 (ev_pos hm (ev_neg hc z2))))⟩
      · rcases ih (i - 1) c (by omega) (by omega) (by omega) (by omega) (by omega) with ⟨z1, z2⟩ | ⟨o, s, y1, y2, y3, z1, z2⟩
        · exact .inl ⟨pre _ (ev_pos hkey (Ev.bind m1 (ev_neg hm z1))), ref0 _ (ev_pos hkey (Ev.bind m2 (ev_neg hm z2)))⟩
        · exact .inr ⟨o, s, y1, y2, y3, pre _ (ev_pos hkey (Ev.bind m1 (ev_neg hm z1))), ref0 _ (ev_pos hkey (Ev.bind m2 (ev_neg hm z2)))⟩
    · rcases ih (i - 1) c (by omega) (by omega) (by omega) (by omega) (by omega) with ⟨z1, z2⟩ | ⟨o, s, y1, y2, y3, z1, z2⟩
      · exact .inl ⟨pre _ (ev_neg hkey z1), ref0 _ (ev_neg hkey z2)⟩
      · exact .inr ⟨o, s, y1, y2, y3, pre _ (ev_neg hkey z1), ref0 _ (ev_neg hkey z2)⟩
end
end Go.Proofs.YtgikaemhhaejoaaDoor.P
