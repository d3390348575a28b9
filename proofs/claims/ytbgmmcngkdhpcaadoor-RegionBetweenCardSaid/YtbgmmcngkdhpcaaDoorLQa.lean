/- Plain facts on texts: which text may be, its runes and where its rows begin, the class of a rune: the program's functions and the document's come to the same. Conditions: none. -/
import Derived.Test.YtbgmmcngkdhpcaaDoorP0
import Derived.Test.YtbgmmcngkdhpcaaDoorP2
import Derived.Test.YtbgmmcngkdhpcaaDoorP3
import Derived.Test.YtbgmmcngkdhpcaaDoorP6
namespace Go.Proofs.YtbgmmcngkdhpcaaDoor.P
open Go.RowKit Go.Proofs.YtbgmmcngkdhpcaaDoor Go.Proofs.YtbgmmcngkdhpcaaDoorW.PrintWords Go.Proofs.YtbgmmcngkdhpcaaDoorW.PrintLast Go.Proofs.YtbgmmcngkdhpcaaDoorW.PrintMore
theorem ev_pos {α : Type} {c : Prop} [Decidable c] {f g : Nat → Option α} {r : α} (hc : c) (h : Ev f r) : Ev (fun k => if c then f k else g k) r := Ev.congr (fun _ => if_pos hc) h
theorem ev_neg {α : Type} {c : Prop} [Decidable c] {f g : Nat → Option α} {r : α} (hc : ¬ c) (h : Ev g r) : Ev (fun k => if c then f k else g k) r := Ev.congr (fun _ => if_neg hc) h
theorem ev_bindc {α β : Type} {o : Option α} {a : α} {f : Nat → α → Option β} {r : β} (ho : o = some a) (h : Ev (fun n => f n a) r) : Ev (fun n => o.bind (f n)) r := by subst ho; exact h
theorem ev_succ {α : Type} {g : Nat → Option α} {r : α} (h : ∀ k, g (k + 1) = some r) : Ev g r := Ev.step h (Ev.now r)
theorem ev_shift {α : Type} {g : Nat → Option α} {r : α} (h : Ev (fun k => g (k + 1)) r) : Ev g r := Ev.step (fun _ => rfl) h
theorem w64 {x : Int} (h0 : -9223372036854775808 ≤ x) (h1 : x ≤ 9223372036854775807) : wrap64 x = x := by unfold wrap64; omega
theorem rd_nil (i : Int) : rd [] i = 0 := by simp [rd]
theorem rd_app {xs ys : List Int} {i : Int} (h0 : 0 ≤ i) (h : i < xs.length) : rd (xs ++ ys) i = rd xs i := by
  unfold rd
  rw [List.getD_eq_getElem?_getD, List.getD_eq_getElem?_getD, List.getElem?_append_left (by omega)]
theorem rd_snoc {xs : List Int} {v : Int} {i : Int} (h : i = xs.length) : rd (xs ++ [v]) i = v := by
  subst h
  simp [rd]
/-! ### which text may be -/
def MayB (s : ByteArray) : Bool := decide (s.size ≤ 4000) && Lib.validD s.data.toList && s.data.toList.all fun b => b != 0
theorem indexByte_zero : ∀ l : List UInt8, decide (Lib.indexByte l 0 < 0) = l.all fun b => b != 0
  | [] => rfl
  | b :: l => by
    have ih := indexByte_zero l
    have hg := Lib.indexByte_ge l 0
    unfold Lib.indexByte
    rw [List.all_cons, ← ih]
    by_cases hb : b = 0
    · subst hb; simp
    · have h1 : (b == 0) = false := by simpa using hb
      rw [h1]
      simp only [Bool.false_eq_true, if_false, bne, h1, Bool.not_false, Bool.true_and]
      by_cases h2 : Lib.indexByte l 0 = -1
      · rw [h2]; decide
      · rw [if_neg (by simpa using h2)]
        congr 1
        apply propext
        constructor <;> intro <;> omega
theorem may_prog (s : ByteArray) (hs : s.size ≤ 9223372036854775807) : text_May.f s = some (MayB s) := by
  unfold text_May.f text_Whole.f utf8_ValidString.f strings_IndexByte.f MayB
  rw [if_pos hs]
  have h0 : Int.toNat 0 = 0 := rfl
  simp only [Option.bind_some]
  have e0 : (Int.toNat 0).toUInt8 = 0 := rfl
  rw [e0, indexByte_zero]
  by_cases h : s.size ≤ 4000
  · rw [if_pos (by omega), decide_eq_true h]
    cases Lib.validD s.data.toList <;> simp
  · rw [if_neg (by omega), decide_eq_false h]
    simp
theorem bt_list (s : ByteArray) (i : Nat) (h : i < s.size) : bt s (i : Int) = ((s.data.toList.getD i 0).toNat : Int) := by
  unfold bt
  rw [dif_pos (by simpa using h)]
  congr 2
  rw [List.getD_eq_getElem?_getD, Array.getElem?_toList, Array.getElem?_eq_getElem (by simpa using h)]
  rfl
theorem may_loop (s : ByteArray) (hs : s.size ≤ 4000) (d : Nat) : ∀ i : Nat, i + d = s.size → Ev (fun k => quillref1_May.l0 k s (i : Int)) ((s.data.toList.drop i).all fun b => b != 0) := by
  have hl : s.data.toList.length = s.size := by rw [Array.length_toList]; rfl
  induction d with
  | zero =>
    intro i hi
    refine ev_succ fun k => ?_
    simp only [quillref1_May.l0]
    rw [if_neg (by omega), List.drop_eq_nil_of_le (by omega)]
    rfl
  | succ d ih =>
    intro i hi
    have hlt : i < s.data.toList.length := by omega
    rw [List.drop_eq_getElem_cons hlt, List.all_cons]
    have hb := bt_list s i (by omega)
    rw [List.getD_eq_getElem?_getD, List.getElem?_eq_getElem hlt, Option.getD_some] at hb
    refine ev_shift ?_
    simp only [quillref1_May.l0]
    refine ev_pos (by omega) (ev_pos (by omega) ?_)
    by_cases h0 : s.data.toList[i] = 0
    · refine ev_pos (by rw [hb, h0]; rfl) ?_
      rw [h0]
      exact Ev.now _
    · have h1 : ((s.data.toList[i]).toNat : Int) ≠ 0 := fun h => h0 (UInt8.toNat_inj.1 (by simpa using h))
      refine ev_neg (by rw [hb]; exact h1) ?_
      have h2 := ih (i + 1) (by omega)
      rw [w64 (by omega) (by omega)]
      have h3 : (s.data.toList[i] != 0) = true := by simpa using h0
      rw [h3, Bool.true_and]
      exact_mod_cast h2
theorem may_ref (s : ByteArray) (hs : s.size ≤ 9223372036854775807) : Ev (fun k => quillref1_May.f k s) (MayB s) := by
  unfold quillref1_May.f utf8_ValidString.f MayB
  by_cases h : s.size ≤ 4000
  · refine ev_neg (by omega) ?_
    rw [if_pos hs, decide_eq_true h, Bool.true_and]
    refine ev_bindc rfl ?_
    refine ev_shift ?_
    simp only [quillref1_May.j0]
    cases hv : Lib.validD s.data.toList
    · exact ev_pos rfl (Ev.now _)
    · refine ev_neg (by decide) ?_
      have := may_loop s h s.size 0 (by omega)
      rw [List.drop_zero] at this
      rw [Bool.true_and]
      exact_mod_cast this
  · refine ev_pos (by omega) ?_
    rw [decide_eq_false h, Bool.false_and, Bool.false_and]
    exact ev_succ fun k => by simp only [quillref1_May.j0]; rfl
/-! ### rows -/
/-- Where the rows of the first m runes begin. -/
structure Beg (R B : List Int) (m : Int) : Prop where
  pos : 1 ≤ (B.length : Int)
  zero : rd B 0 = 0
  last : rd B (B.length - 1) ≤ m
  len : (B.length : Int) ≤ m + 1
  nl : ∀ j : Int, 1 ≤ j → j < B.length → 1 ≤ rd B j ∧ rd R (rd B j - 1) = 10
  inc : ∀ j : Int, 0 ≤ j → j + 1 < B.length → rd B j < rd B (j + 1)
  mid : ∀ j : Int, 0 ≤ j → j + 1 < B.length → ∀ i, rd B j ≤ i → i < rd B (j + 1) - 1 → rd R i ≠ 10
  tail : ∀ i : Int, rd B (B.length - 1) ≤ i → i < m → rd R i ≠ 10
theorem Beg.first (R : List Int) : Beg R [0] 0 where
  pos := by simp
  zero := rfl
  last := by simp [rd]
  len := by simp
  nl := fun j h1 h2 => by simp at h2; omega
  inc := fun j h1 h2 => by simp at h2; omega
  mid := fun j h1 h2 => by simp at h2; omega
  tail := fun i h1 h2 => by simp [rd] at h1; omega
theorem Beg.same {R B : List Int} {m : Int} (h : Beg R B m) (hr : rd R m ≠ 10) : Beg R B (m + 1) where
  pos := h.pos
  zero := h.zero
  last := by have := h.last; omega
  len := by have := h.len; omega
  nl := h.nl
  inc := h.inc
  mid := h.mid
  tail := fun i h1 h2 => by
    by_cases e : i = m
    · rw [e]; exact hr
    · exact h.tail i h1 (by omega)
theorem Beg.more {R B : List Int} {m : Int} (h : Beg R B m) (h0 : 0 ≤ m) (hr : rd R m = 10) : Beg R (B ++ [m + 1]) (m + 1) := by
  have hp := h.pos
  have hl : ((B ++ [m + 1]).length : Int) = B.length + 1 := by simp
  have ha : ∀ j : Int, 0 ≤ j → j < B.length → rd (B ++ [m + 1]) j = rd B j := fun j h1 h2 => rd_app h1 h2
  have hz : rd (B ++ [m + 1]) B.length = m + 1 := rd_snoc rfl
  have hlast := h.last
  constructor
  · omega
  · rw [ha 0 (by omega) (by omega)]; exact h.zero
  · rw [hl, show (B.length : Int) + 1 - 1 = B.length by omega, hz]; exact Int.le_refl _
  · have := h.len; omega
  · intro j h1 h2
    by_cases e : j = B.length
    · rw [e, hz, show m + 1 - 1 = m by omega]; exact ⟨by omega, hr⟩
    · rw [ha j (by omega) (by omega)]; exact h.nl j h1 (by omega)
  · intro j h1 h2
    rw [ha j h1 (by omega)]
    by_cases e : j + 1 = B.length
    · rw [e, hz]
      have e2 : j = B.length - 1 := by omega
      rw [e2]; omega
    · rw [ha (j + 1) (by omega) (by omega)]; exact h.inc j h1 (by omega)
  · intro j h1 h2 i h3 h4
    rw [ha j h1 (by omega)] at h3
    by_cases e : j + 1 = B.length
    · rw [e, hz] at h4
      have e2 : j = B.length - 1 := by omega
      rw [e2] at h3
      exact h.tail i h3 (by omega)
    · rw [ha (j + 1) (by omega) (by omega)] at h4
      exact h.mid j h1 (by omega) i h3 h4
  · intro i h3 h4
    rw [hl, show (B.length : Int) + 1 - 1 = B.length by omega, hz] at h3
    omega
theorem of_loop (R : List Int) (hR : R.length ≤ 4000) (d : Nat) : ∀ (i : Nat) (B : List Int), i + d = R.length → Beg R B i → ∃ B', Ev (fun k => text_Of.l0 k R (R.length : Int) (i : Int) R B) (R, B') ∧ Beg R B' R.length := by
  induction d with
  | zero =>
    intro i B hi hB
    obtain rfl : i = R.length := by omega
    exact ⟨B, ev_succ fun k => by simp only [text_Of.l0]; rw [if_neg (by omega)], hB⟩
  | succ d ih =>
    intro i B hi hB
    have hlen := hB.len
    by_cases h : rd R i = 10
    · obtain ⟨B', h1, h2⟩ := ih (i + 1) (B ++ [(i : Int) + 1]) (by omega) (by exact_mod_cast hB.more (by omega) h)
      refine ⟨B', ?_, h2⟩
      refine ev_shift ?_
      simp only [text_Of.l0]
      refine (ev_pos (by omega) (ev_pos (by omega) (ev_pos (by omega) (ev_pos h (ev_pos (by omega) ?_)))))
      rw [w64 (by omega) (by omega)]
      exact_mod_cast h1
    · obtain ⟨B', h1, h2⟩ := ih (i + 1) B (by omega) (by exact_mod_cast hB.same h)
      refine ⟨B', ?_, h2⟩
      refine ev_shift ?_
      simp only [text_Of.l0]
      refine (ev_pos (by omega) (ev_pos (by omega) (ev_pos (by omega) (ev_neg h ?_))))
      rw [w64 (by omega) (by omega)]
      exact_mod_cast h1
theorem of_ev (s : ByteArray) (hs : s.size ≤ 4000) : ∃ B, Ev (fun k => text_Of.f k s) (runesOf s, B) ∧ Beg (runesOf s) B (runesOf s).length := by
  have hn := runesOf_len s
  obtain ⟨B, h1, h2⟩ := of_loop (runesOf s) (by omega) (runesOf s).length 0 [0] (by omega) (Beg.first _)
  refine ⟨B, ?_, h2⟩
  unfold text_Of.f
  refine ev_pos (by omega) (ev_bindc rfl ?_)
  exact_mod_cast h1
/-- Where row j ends. -/
def hi (R B : List Int) (j : Int) : Int := if j + 1 < (B.length : Int) then rd B (j + 1) - 1 else R.length
theorem end_eq {R B : List Int} {j : Int} (hB : (B.length : Int) ≤ 5000) (hv : ∀ j : Int, 0 ≤ j → j < B.length → 0 ≤ rd B j ∧ rd B j ≤ 5000) (h0 : 0 ≤ j) (h1 : j < B.length) : text_Map_End.f R B j = some (hi R B j) := by
  unfold text_Map_End.f hi
  rw [w64 (by omega) (by omega)]
  by_cases h : j + 1 < (B.length : Int)
  · have := hv (j + 1) (by omega) h
    rw [if_pos h, if_pos (by omega), if_pos h, w64 (by omega) (by omega)]
  · rw [if_neg h, if_neg h]
theorem Beg.mono {R B : List Int} {m : Int} (h : Beg R B m) (d : Nat) : ∀ i j : Int, 0 ≤ i → i + d = j → j < B.length → rd B i ≤ rd B j := by
  induction d with
  | zero => intro i j _ e _; obtain rfl : i = j := by omega
            exact Int.le_refl _
  | succ d ih =>
    intro i j h0 e h1
    have h2 := ih i (j - 1) h0 (by omega) (by omega)
    have h3 := h.inc (j - 1) (by omega) (by omega)
    rw [show j - 1 + 1 = j by omega] at h3
    omega
theorem Beg.range {R B : List Int} {m : Int} (h : Beg R B m) {j : Int} (h0 : 0 ≤ j) (h1 : j < B.length) : 0 ≤ rd B j ∧ rd B j ≤ m := by
  have h2 := h.mono j.toNat 0 j (by omega) (by omega) h1
  have h3 := h.mono (B.length - 1 - j).toNat j (B.length - 1) h0 (by omega) (by omega)
  have h4 := h.zero
  have h5 := h.last
  omega
/-- A row's begin and end. -/
theorem Beg.row {R B : List Int} (h : Beg R B R.length) {j : Int} (h0 : 0 ≤ j) (h1 : j < B.length) :
    0 ≤ rd B j ∧ rd B j ≤ hi R B j ∧ hi R B j ≤ R.length ∧ (rd B j = 0 ∨ rd R (rd B j - 1) = 10) ∧ (hi R B j = R.length ∨ rd R (hi R B j) = 10) ∧ (∀ i, rd B j ≤ i → i < hi R B j → rd R i ≠ 10) := by
  have hr := h.range h0 h1
  have hb : rd B j = 0 ∨ rd R (rd B j - 1) = 10 := by
    by_cases e : j = 0
    · left; rw [e]; exact h.zero
    · exact .inr (h.nl j (by omega) h1).2
  unfold hi
  by_cases h2 : j + 1 < (B.length : Int)
  · rw [if_pos h2]
    have h3 := h.inc j h0 h2
    have h4 := h.range (j := j + 1) (by omega) h2
    exact ⟨hr.1, by omega, by omega, hb, .inr (h.nl (j + 1) (by omega) h2).2, fun i h5 h6 => h.mid j h0 h2 i h5 h6⟩
  · rw [if_neg h2]
    obtain rfl : j = B.length - 1 := by omega
    exact ⟨hr.1, by omega, by omega, hb, .inl rfl, fun i h5 h6 => h.tail i h5 h6⟩
theorem Beg.next {R B : List Int} (_h : Beg R B R.length) {j : Int} (h2 : j + 1 < B.length) : rd B (j + 1) = hi R B j + 1 := by
  unfold hi
  rw [if_pos h2]
  omega
theorem end_ev {R B : List Int} (h : Beg R B R.length) (hR : R.length ≤ 4000) {j : Int} (h0 : 0 ≤ j) (h1 : j < B.length) : text_Map_End.f R B j = some (hi R B j) :=
  end_eq (by have := h.len; omega) (fun i a b => by have := h.range a b; omega) h0 h1
/-- The begin of an offset's row; its end. -/
def IsB (R : List Int) (at_ b : Int) : Prop := 0 ≤ b ∧ b ≤ at_ ∧ (b = 0 ∨ rd R (b - 1) = 10) ∧ ∀ i, b ≤ i → i < at_ → rd R i ≠ 10
def IsE (R : List Int) (at_ e : Int) : Prop := at_ ≤ e ∧ e ≤ R.length ∧ (e = R.length ∨ rd R e = 10) ∧ ∀ i, at_ ≤ i → i < e → rd R i ≠ 10
theorem IsB.uniq {R : List Int} {at_ b c : Int} (h : IsB R at_ b) (k : IsB R at_ c) : b = c := by
  obtain ⟨h1, h2, h3, h4⟩ := h
  obtain ⟨k1, k2, k3, k4⟩ := k
  rcases Int.lt_trichotomy b c with e | e | e
  · rcases k3 with k3 | k3
    · omega
    · exact absurd k3 (h4 (c - 1) (by omega) (by omega))
  · exact e
  · rcases h3 with h3 | h3
    · omega
    · exact absurd h3 (k4 (b - 1) (by omega) (by omega))
theorem IsE.uniq {R : List Int} {at_ b c : Int} (h : IsE R at_ b) (k : IsE R at_ c) : b = c := by
  obtain ⟨h1, h2, h3, h4⟩ := h
  obtain ⟨k1, k2, k3, k4⟩ := k
  rcases Int.lt_trichotomy b c with e | e | e
  · rcases h3 with h3 | h3
    · omega
    · exact absurd h3 (k4 b (by omega) (by omega))
  · exact e
  · rcases k3 with k3 | k3
    · omega
    · exact absurd k3 (h4 c (by omega) (by omega))
theorem begin_loop (R : List Int) (hR : R.length ≤ 4000) (d : Nat) : ∀ i : Nat, i = d → i ≤ R.length → ∃ b, Ev (fun k => quillref1_Begin.l0 k R (i : Int)) b ∧ IsB R i b := by
  induction d with
  | zero =>
    intro i e _
    subst e
    exact ⟨0, ev_succ fun k => by simp only [quillref1_Begin.l0]; rw [if_neg (by omega)]; rfl, by omega, by omega, .inl rfl, fun j h1 h2 => by omega⟩
  | succ d ih =>
    intro i e hi
    subst e
    by_cases h : rd R d = 10
    · refine ⟨(d + 1 : Nat), ev_shift ?_, by omega, by omega, .inr (by rw [show ((d + 1 : Nat) : Int) - 1 = d by omega]; exact h), fun j h1 h2 => by omega⟩
      simp only [quillref1_Begin.l0]
      refine ev_pos (by omega) ?_
      rw [w64 (by omega) (by omega), show ((d + 1 : Nat) : Int) - 1 = d by omega]
      exact ev_pos (by omega) (ev_pos (by omega) (ev_pos h (Ev.now _)))
    · obtain ⟨b, h1, h2, h3, h4, h5⟩ := ih d rfl (by omega)
      refine ⟨b, ev_shift ?_, h2, by omega, h4, fun j h6 h7 => ?_⟩
      · simp only [quillref1_Begin.l0]
        refine ev_pos (by omega) ?_
        rw [w64 (by omega) (by omega), show ((d + 1 : Nat) : Int) - 1 = d by omega]
        exact ev_pos (by omega) (ev_pos (by omega) (ev_neg h h1))
      · by_cases e : j = d
        · rw [e]; exact h
        · exact h5 j h6 (by omega)
theorem begin_ev {R : List Int} (hR : R.length ≤ 4000) {i : Int} (h0 : 0 ≤ i) (h1 : i ≤ R.length) : ∃ b, Ev (fun k => quillref1_Begin.f k R i) b ∧ IsB R i b := by
  obtain ⟨m, rfl⟩ := Int.eq_ofNat_of_zero_le h0
  exact begin_loop R hR m m rfl (by omega)
end Go.Proofs.YtbgmmcngkdhpcaaDoor.P
