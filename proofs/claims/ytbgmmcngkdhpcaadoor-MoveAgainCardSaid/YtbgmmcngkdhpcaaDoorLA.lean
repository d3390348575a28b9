/- Plain facts on texts: which text may be, its runes and where its rows begin, the class of a rune: the program's functions and the document's come to the same. Conditions: none. -/
import Derived.Test.YtbgmmcngkdhpcaaDoorP0
import Derived.Test.YtbgmmcngkdhpcaaDoorP4
import Derived.Test.YtbgmmcngkdhpcaaDoorP6
import Derived.Test.YtbgmmcngkdhpcaaDoorP18
import Derived.Test.YtbgmmcngkdhpcaaDoorP16
import Derived.Test.YtbgmmcngkdhpcaaDoorP8
import Derived.Test.YtbgmmcngkdhpcaaDoorP20
import Derived.Test.YtbgmmcngkdhpcaaDoorP7
import Derived.Test.YtbgmmcngkdhpcaaDoorP19
import Derived.Test.YtbgmmcngkdhpcaaDoorP10
import Derived.Test.YtbgmmcngkdhpcaaDoorP11
import Derived.Test.YtbgmmcngkdhpcaaDoorP21
import Derived.Test.YtbgmmcngkdhpcaaDoorP22
section
namespace Go.Proofs.YtbgmmcngkdhpcaaDoor.P
open Go.RowKit Go.Proofs.YtbgmmcngkdhpcaaDoor Go.Proofs.YtbgmmcngkdhpcaaDoorW.PrintWords Go.Proofs.YtbgmmcngkdhpcaaDoorW.PrintLast Go.Proofs.YtbgmmcngkdhpcaaDoorW.PrintMore
theorem ev_pos {α : Type} {c : Prop} [Decidable c] {f g : Nat → Option α} {r : α} (hc : c) (h : Ev f r) : Ev (fun k => if c then f k else g k) r := Ev.congr (fun _ => if_pos hc) h
theorem ev_neg {α : Type} {c : Prop} [Decidable c] {f g : Nat → Option α} {r : α} (hc : ¬ c) (h : Ev g r) : Ev (fun k => if c then f k else g k) r := Ev.congr (fun _ => if_neg hc) h
theorem ev_bindc {α β : Type} {o : Option α} {a : α} {f : Nat → α → Option β} {r : β} (ho : o = some a) (h : Ev (fun n => f n a) r) : Ev (fun n => o.bind (f n)) r := by subst ho; exact h
theorem ev_succ {α : Type} {g : Nat → Option α} {r : α} (h : ∀ k, g (k + 1) = some r) : Ev g r := Ev.step h (Ev.now r)
theorem ev_shift {α : Type} {g : Nat → Option α} {r : α} (h : Ev (fun k => g (k + 1)) r) : Ev g r := Ev.step (fun _ => rfl) h
theorem w64 {x : Int} (h0 : -9223372036854775808 ≤ x) (h1 : x ≤ 9223372036854775807) : wrap64 x = x := by unfold wrap64; omega
theorem rd_nil (i : Int) : rd [] i = 0 := by simp [rd]
theorem rd_app {xs ys : List Int} {i : Int} (h0 : 0 ≤ i) (h : i < xs.length) : rd (xs ++ ys) i = rd xs i := by
  unfold rd
  rw [List.getD_eq_getElem?_getD, List.getD_eq_getElem?_getD, List.getElem?_append_left (by omega)]
theorem rd_snoc {xs : List Int} {v : Int} {i : Int} (h : i = xs.length) : rd (xs ++ [v]) i = v := by
  subst h
  simp [rd]
/-! ### which text may be -/
def MayB (s : ByteArray) : Bool := decide (s.size ≤ 4000) && Lib.validD s.data.toList && s.data.toList.all fun b => b != 0
theorem indexByte_zero : ∀ l : List UInt8, decide (Lib.indexByte l 0 < 0) = l.all fun b => b != 0
  | [] => rfl
  | b :: l => by
    have ih := indexByte_zero l
    have hg := Lib.indexByte_ge l 0
    unfold Lib.indexByte
    rw [List.all_cons, ← ih]
    by_cases hb : b = 0
    · subst hb; simp
    · have h1 : (b == 0) = false := by simpa using hb
      rw [h1]
      simp only [Bool.false_eq_true, if_false, bne, h1, Bool.not_false, Bool.true_and]
      by_cases h2 : Lib.indexByte l 0 = -1
      · rw [h2]; decide
      · rw [if_neg (by simpa using h2)]
        congr 1
        apply propext
        constructor <;> intro <;> omega
theorem may_prog (s : ByteArray) (hs : s.size ≤ 9223372036854775807) : text_May.f s = some (MayB s) := by
  unfold text_May.f text_Whole.f utf8_ValidString.f strings_IndexByte.f MayB
  rw [if_pos hs]
  have h0 : Int.toNat 0 = 0 := rfl
  simp only [Option.bind_some]
  have e0 : (Int.toNat 0).toUInt8 = 0 := rfl
  rw [e0, indexByte_zero]
  by_cases h : s.size ≤ 4000
  · rw [if_pos (by omega), decide_eq_true h]
    cases Lib.validD s.data.toList <;> simp
  · rw [if_neg (by omega), decide_eq_false h]
    simp
theorem bt_list (s : ByteArray) (i : Nat) (h : i < s.size) : bt s (i : Int) = ((s.data.toList.getD i 0).toNat : Int) := by
  unfold bt
  rw [dif_pos (by simpa using h)]
  congr 2
  rw [List.getD_eq_getElem?_getD, Array.getElem?_toList, Array.getElem?_eq_getElem (by simpa using h)]
  rfl
theorem may_loop (s : ByteArray) (hs : s.size ≤ 4000) (d : Nat) : ∀ i : Nat, i + d = s.size → Ev (fun k => quillref1_May.l0 k s (i : Int)) ((s.data.toList.drop i).all fun b => b != 0) := by
  have hl : s.data.toList.length = s.size := by rw [Array.length_toList]; rfl
  induction d with
  | zero =>
    intro i hi
    refine ev_succ fun k => ?_
    simp only [quillref1_May.l0]
    rw [if_neg (by omega), List.drop_eq_nil_of_le (by omega)]
    rfl
  | succ d ih =>
    intro i hi
    have hlt : i < s.data.toList.length := by omega
    rw [List.drop_eq_getElem_cons hlt, List.all_cons]
    have hb := bt_list s i (by omega)
    rw [List.getD_eq_getElem?_getD, List.getElem?_eq_getElem hlt, Option.getD_some] at hb
    refine ev_shift ?_
    simp only [quillref1_May.l0]
    refine ev_pos (by omega) (ev_pos (by omega) ?_)
    by_cases h0 : s.data.toList[i] = 0
    · refine ev_pos (by rw [hb, h0]; rfl) ?_
      rw [h0]
      exact Ev.now _
    · have h1 : ((s.data.toList[i]).toNat : Int) ≠ 0 := fun h => h0 (UInt8.toNat_inj.1 (by simpa using h))
      refine ev_neg (by rw [hb]; exact h1) ?_
      have h2 := ih (i + 1) (by omega)
      rw [w64 (by omega) (by omega)]
      have h3 : (s.data.toList[i] != 0) = true := by simpa using h0
      rw [h3, Bool.true_and]
      exact_mod_cast h2
theorem may_ref (s : ByteArray) (hs : s.size ≤ 9223372036854775807) : Ev (fun k => quillref1_May.f k s) (MayB s) := by
  unfold quillref1_May.f utf8_ValidString.f MayB
  by_cases h : s.size ≤ 4000
  · refine ev_neg (by omega) ?_
    rw [if_pos hs, decide_eq_true h, Bool.true_and]
    refine ev_bindc rfl ?_
    refine ev_shift ?_
    simp only [quillref1_May.j0]
    cases hv : Lib.validD s.data.toList
    · exact ev_pos rfl (Ev.now _)
    · refine ev_neg (by decide) ?_
      have := may_loop s h s.size 0 (by omega)
      rw [List.drop_zero] at this
      rw [Bool.true_and]
      exact_mod_cast this
  · refine ev_pos (by omega) ?_
    rw [decide_eq_false h, Bool.false_and, Bool.false_and]
    exact ev_succ fun k => by simp only [quillref1_May.j0]; rfl
/-! ### rows -/
/-- Where the rows of the first m runes begin. -/
structure Beg (R B : List Int) (m : Int) : Prop where
  pos : 1 ≤ (B.length : Int)
  zero : rd B 0 = 0
  last : rd B (B.length - 1) ≤ m
  len : (B.length : Int) ≤ m + 1
  nl : ∀ j : Int, 1 ≤ j → j < B.length → 1 ≤ rd B j ∧ rd R (rd B j - 1) = 10
  inc : ∀ j : Int, 0 ≤ j → j + 1 < B.length → rd B j < rd B (j + 1)
  mid : ∀ j : Int, 0 ≤ j → j + 1 < B.length → ∀ i, rd B j ≤ i → i < rd B (j + 1) - 1 → rd R i ≠ 10
  tail : ∀ i : Int, rd B (B.length - 1) ≤ i → i < m → rd R i ≠ 10
theorem Beg.first (R : List Int) : Beg R [0] 0 where
  pos := by simp
  zero := rfl
  last := by simp [rd]
  len := by simp
  nl := fun j h1 h2 => by simp at h2; omega
  inc := fun j h1 h2 => by simp at h2; omega
  mid := fun j h1 h2 => by simp at h2; omega
  tail := fun i h1 h2 => by simp [rd] at h1; omega
theorem Beg.same {R B : List Int} {m : Int} (h : Beg R B m) (hr : rd R m ≠ 10) : Beg R B (m + 1) where
  pos := h.pos
  zero := h.zero
  last := by have := h.last; omega
  len := by have := h.len; omega
  nl := h.nl
  inc := h.inc
  mid := h.mid
  tail := fun i h1 h2 => by
    by_cases e : i = m
    · rw [e]; exact hr
    · exact h.tail i h1 (by omega)
theorem Beg.more {R B : List Int} {m : Int} (h : Beg R B m) (h0 : 0 ≤ m) (hr : rd R m = 10) : Beg R (B ++ [m + 1]) (m + 1) := by
  have hp := h.pos
  have hl : ((B ++ [m + 1]).length : Int) = B.length + 1 := by simp
  have ha : ∀ j : Int, 0 ≤ j → j < B.length → rd (B ++ [m + 1]) j = rd B j := fun j h1 h2 => rd_app h1 h2
  have hz : rd (B ++ [m + 1]) B.length = m + 1 := rd_snoc rfl
  have hlast := h.last
  constructor
  · omega
  · rw [ha 0 (by omega) (by omega)]; exact h.zero
  · rw [hl, show (B.length : Int) + 1 - 1 = B.length by omega, hz]; exact Int.le_refl _
  · have := h.len; omega
  · intro j h1 h2
    by_cases e : j = B.length
    · rw [e, hz, show m + 1 - 1 = m by omega]; exact ⟨by omega, hr⟩
    · rw [ha j (by omega) (by omega)]; exact h.nl j h1 (by omega)
  · intro j h1 h2
    rw [ha j h1 (by omega)]
    by_cases e : j + 1 = B.length
    · rw [e, hz]
      have e2 : j = B.length - 1 := by omega
      rw [e2]; omega
    · rw [ha (j + 1) (by omega) (by omega)]; exact h.inc j h1 (by omega)
  · intro j h1 h2 i h3 h4
    rw [ha j h1 (by omega)] at h3
    by_cases e : j + 1 = B.length
    · rw [e, hz] at h4
      have e2 : j = B.length - 1 := by omega
      rw [e2] at h3
      exact h.tail i h3 (by omega)
    · rw [ha (j + 1) (by omega) (by omega)] at h4
      exact h.mid j h1 (by omega) i h3 h4
  · intro i h3 h4
    rw [hl, show (B.length : Int) + 1 - 1 = B.length by omega, hz] at h3
    omega
theorem of_loop (R : List Int) (hR : R.length ≤ 4000) (d : Nat) : ∀ (i : Nat) (B : List Int), i + d = R.length → Beg R B i → ∃ B', Ev (fun k => text_Of.l0 k R (R.length : Int) (i : Int) R B) (R, B') ∧ Beg R B' R.length := by
  induction d with
  | zero =>
    intro i B hi hB
    obtain rfl : i = R.length := by omega
    exact ⟨B, ev_succ fun k => by simp only [text_Of.l0]; rw [if_neg (by omega)], hB⟩
  | succ d ih =>
    intro i B hi hB
    have hlen := hB.len
    by_cases h : rd R i = 10
    · obtain ⟨B', h1, h2⟩ := ih (i + 1) (B ++ [(i : Int) + 1]) (by omega) (by exact_mod_cast hB.more (by omega) h)
      refine ⟨B', ?_, h2⟩
      refine ev_shift ?_
      simp only [text_Of.l0]
      refine (ev_pos (by omega) (ev_pos (by omega) (ev_pos (by omega) (ev_pos h (ev_pos (by omega) ?_)))))
      rw [w64 (by omega) (by omega)]
      exact_mod_cast h1
    · obtain ⟨B', h1, h2⟩ := ih (i + 1) B (by omega) (by exact_mod_cast hB.same h)
      refine ⟨B', ?_, h2⟩
      refine ev_shift ?_
      simp only [text_Of.l0]
      refine (ev_pos (by omega) (ev_pos (by omega) (ev_pos (by omega) (ev_neg h ?_))))
      rw [w64 (by omega) (by omega)]
      exact_mod_cast h1
theorem of_ev (s : ByteArray) (hs : s.size ≤ 4000) : ∃ B, Ev (fun k => text_Of.f k s) (runesOf s, B) ∧ Beg (runesOf s) B (runesOf s).length := by
  have hn := runesOf_len s
  obtain ⟨B, h1, h2⟩ := of_loop (runesOf s) (by omega) (runesOf s).length 0 [0] (by omega) (Beg.first _)
  refine ⟨B, ?_, h2⟩
  unfold text_Of.f
  refine ev_pos (by omega) (ev_bindc rfl ?_)
  exact_mod_cast h1
/-- Where row j ends. -/
def hi (R B : List Int) (j : Int) : Int := if j + 1 < (B.length : Int) then rd B (j + 1) - 1 else R.length
theorem end_eq {R B : List Int} {j : Int} (hB : (B.length : Int) ≤ 5000) (hv : ∀ j : Int, 0 ≤ j → j < B.length → 0 ≤ rd B j ∧ rd B j ≤ 5000) (h0 : 0 ≤ j) (h1 : j < B.length) : text_Map_End.f R B j = some (hi R B j) := by
  unfold text_Map_End.f hi
  rw [w64 (by omega) (by omega)]
  by_cases h : j + 1 < (B.length : Int)
  · have := hv (j + 1) (by omega) h
    rw [if_pos h, if_pos (by omega), if_pos h, w64 (by omega) (by omega)]
  · rw [if_neg h, if_neg h]
theorem Beg.mono {R B : List Int} {m : Int} (h : Beg R B m) (d : Nat) : ∀ i j : Int, 0 ≤ i → i + d = j → j < B.length → rd B i ≤ rd B j := by
  induction d with
  | zero => intro i j _ e _; obtain rfl : i = j := by omega
            exact Int.le_refl _
  | succ d ih =>
    intro i j h0 e h1
    have h2 := ih i (j - 1) h0 (by omega) (by omega)
    have h3 := h.inc (j - 1) (by omega) (by omega)
    rw [show j - 1 + 1 = j by omega] at h3
    omega
theorem Beg.range {R B : List Int} {m : Int} (h : Beg R B m) {j : Int} (h0 : 0 ≤ j) (h1 : j < B.length) : 0 ≤ rd B j ∧ rd B j ≤ m := by
  have h2 := h.mono j.toNat 0 j (by omega) (by omega) h1
  have h3 := h.mono (B.length - 1 - j).toNat j (B.length - 1) h0 (by omega) (by omega)
  have h4 := h.zero
  have h5 := h.last
  omega
/-- A row's begin and end. -/
theorem Beg.row {R B : List Int} (h : Beg R B R.length) {j : Int} (h0 : 0 ≤ j) (h1 : j < B.length) :
    0 ≤ rd B j ∧ rd B j ≤ hi R B j ∧ hi R B j ≤ R.length ∧ (rd B j = 0 ∨ rd R (rd B j - 1) = 10) ∧ (hi R B j = R.length ∨ rd R (hi R B j) = 10) ∧ (∀ i, rd B j ≤ i → i < hi R B j → rd R i ≠ 10) := by
  have hr := h.range h0 h1
  have hb : rd B j = 0 ∨ rd R (rd B j - 1) = 10 := by
    by_cases e : j = 0
    · left; rw [e]; exact h.zero
    · exact .inr (h.nl j (by omega) h1).2
  unfold hi
  by_cases h2 : j + 1 < (B.length : Int)
  · rw [if_pos h2]
    have h3 := h.inc j h0 h2
    have h4 := h.range (j := j + 1) (by omega) h2
    exact ⟨hr.1, by omega, by omega, hb, .inr (h.nl (j + 1) (by omega) h2).2, fun i h5 h6 => h.mid j h0 h2 i h5 h6⟩
  · rw [if_neg h2]
    obtain rfl : j = B.length - 1 := by omega
    exact ⟨hr.1, by omega, by omega, hb, .inl rfl, fun i h5 h6 => h.tail i h5 h6⟩
theorem Beg.next {R B : List Int} (_h : Beg R B R.length) {j : Int} (h2 : j + 1 < B.length) : rd B (j + 1) = hi R B j + 1 := by
  unfold hi
  rw [if_pos h2]
  omega
theorem end_ev {R B : List Int} (h : Beg R B R.length) (hR : R.length ≤ 4000) {j : Int} (h0 : 0 ≤ j) (h1 : j < B.length) : text_Map_End.f R B j = some (hi R B j) :=
  end_eq (by have := h.len; omega) (fun i a b => by have := h.range a b; omega) h0 h1
/-- The begin of an offset's row; its end. -/
def IsB (R : List Int) (at_ b : Int) : Prop := 0 ≤ b ∧ b ≤ at_ ∧ (b = 0 ∨ rd R (b - 1) = 10) ∧ ∀ i, b ≤ i → i < at_ → rd R i ≠ 10
def IsE (R : List Int) (at_ e : Int) : Prop := at_ ≤ e ∧ e ≤ R.length ∧ (e = R.length ∨ rd R e = 10) ∧ ∀ i, at_ ≤ i → i < e → rd R i ≠ 10
theorem IsB.uniq {R : List Int} {at_ b c : Int} (h : IsB R at_ b) (k : IsB R at_ c) : b = c := by
  obtain ⟨h1, h2, h3, h4⟩ := h
  obtain ⟨k1, k2, k3, k4⟩ := k
  rcases Int.lt_trichotomy b c with e | e | e
  · rcases k3 with k3 | k3
    · omega
    · exact absurd k3 (h4 (c - 1) (by omega) (by omega))
  · exact e
  · rcases h3 with h3 | h3
    · omega
    · exact absurd h3 (k4 (b - 1) (by omega) (by omega))
theorem IsE.uniq {R : List Int} {at_ b c : Int} (h : IsE R at_ b) (k : IsE R at_ c) : b = c := by
  obtain ⟨h1, h2, h3, h4⟩ := h
  obtain ⟨k1, k2, k3, k4⟩ := k
  rcases Int.lt_trichotomy b c with e | e | e
  · rcases h3 with h3 | h3
    · omega
    · exact absurd h3 (k4 b (by omega) (by omega))
  · exact e
  · rcases k3 with k3 | k3
    · omega
    · exact absurd k3 (h4 c (by omega) (by omega))
theorem begin_loop (R : List Int) (hR : R.length ≤ 4000) (d : Nat) : ∀ i : Nat, i = d → i ≤ R.length → ∃ b, Ev (fun k => quillref1_Begin.l0 k R (i : Int)) b ∧ IsB R i b := by
  induction d with
  | zero =>
    intro i e _
    subst e
    exact ⟨0, ev_succ fun k => by simp only [quillref1_Begin.l0]; rw [if_neg (by omega)]; rfl, by omega, by omega, .inl rfl, fun j h1 h2 => by omega⟩
  | succ d ih =>
    intro i e hi
    subst e
    by_cases h : rd R d = 10
    · refine ⟨(d + 1 : Nat), ev_shift ?_, by omega, by omega, .inr (by rw [show ((d + 1 : Nat) : Int) - 1 = d by omega]; exact h), fun j h1 h2 => by omega⟩
      simp only [quillref1_Begin.l0]
      refine ev_pos (by omega) ?_
      rw [w64 (by omega) (by omega), show ((d + 1 : Nat) : Int) - 1 = d by omega]
      exact ev_pos (by omega) (ev_pos (by omega) (ev_pos h (Ev.now _)))
    · obtain ⟨b, h1, h2, h3, h4, h5⟩ := ih d rfl (by omega)
      refine ⟨b, ev_shift ?_, h2, by omega, h4, fun j h6 h7 => ?_⟩
      · simp only [quillref1_Begin.l0]
        refine ev_pos (by omega) ?_
        rw [w64 (by omega) (by omega), show ((d + 1 : Nat) : Int) - 1 = d by omega]
        exact ev_pos (by omega) (ev_pos (by omega) (ev_neg h h1))
      · by_cases e : j = d
        · rw [e]; exact h
        · exact h5 j h6 (by omega)
theorem begin_ev {R : List Int} (hR : R.length ≤ 4000) {i : Int} (h0 : 0 ≤ i) (h1 : i ≤ R.length) : ∃ b, Ev (fun k => quillref1_Begin.f k R i) b ∧ IsB R i b := by
  obtain ⟨m, rfl⟩ := Int.eq_ofNat_of_zero_le h0
  exact begin_loop R hR m m rfl (by omega)
/-! ### classes -/
def cls (r : Int) : Int :=
  if r = 32 ∨ r = 9 then 0 else if (97 ≤ r ∧ r ≤ 122) ∨ (65 ≤ r ∧ r ≤ 90) ∨ (48 ≤ r ∧ r ≤ 57) ∨ r = 95 ∨ 128 ≤ r then 1 else 2
def clsb (big : Bool) (r : Int) : Int := if big = true ∧ cls r = 2 then 1 else cls r
theorem cls_blank {r : Int} (h : r = 32 ∨ r = 9) : cls r = 0 := by unfold cls; rw [if_pos h]
theorem cls_word {r : Int} (h : ¬ (r = 32 ∨ r = 9)) (h2 : (97 ≤ r ∧ r ≤ 122) ∨ (65 ≤ r ∧ r ≤ 90) ∨ (48 ≤ r ∧ r ≤ 57) ∨ r = 95 ∨ 128 ≤ r) : cls r = 1 := by unfold cls; rw [if_neg h, if_pos h2]
theorem cls_other {r : Int} (h : ¬ (r = 32 ∨ r = 9)) (h2 : ¬ ((97 ≤ r ∧ r ≤ 122) ∨ (65 ≤ r ∧ r ≤ 90) ∨ (48 ≤ r ∧ r ≤ 57) ∨ r = 95 ∨ 128 ≤ r)) : cls r = 2 := by unfold cls; rw [if_neg h, if_neg h2]
theorem cls_range (r : Int) : 0 ≤ cls r ∧ cls r ≤ 2 := by
  unfold cls
  repeat' split
  all_goals omega
theorem clsb_range (b : Bool) (r : Int) : 0 ≤ clsb b r ∧ clsb b r ≤ 2 := by
  have := cls_range r
  unfold clsb
  split <;> omega
theorem class_prog (r : Int) : Ev (fun k => text_Class.f k r) (cls r) := by
  refine ev_succ fun k => ?_
  unfold text_Class.f text_made.f
  simp only [text_made.j0]
  by_cases h : r < 0
  · rw [if_pos h, cls_other (by omega) (by omega)]
  · rw [if_neg h]
    by_cases h2 : r ≥ 128
    · rw [if_pos h2, cls_word (by omega) (by omega)]
    · rw [if_neg h2]
      by_cases h3 : r = 32
      · rw [if_pos h3, cls_blank (.inl h3)]; rfl
      · rw [if_neg h3]
        by_cases h4 : r = 9
        · rw [cls_blank (.inr h4), if_pos (beq_iff_eq.2 h4)]; rfl
        · rw [if_neg (show ¬ (r == 9) = true from fun e => h4 (beq_iff_eq.1 e))]
          repeat' split
          all_goals first | (rw [cls_word (by omega) (by omega)]; rfl) | (rw [cls_other (by omega) (by omega)]; rfl)
theorem class_ref (r : Int) : Ev (fun k => quillref1_Class.f k r) (cls r) := by
  refine ev_succ fun k => ?_
  unfold quillref1_Class.f
  simp only [quillref1_Class.j0]
  by_cases h3 : r = 32
  · rw [if_pos h3, cls_blank (.inl h3)]; rfl
  · rw [if_neg h3]
    by_cases h4 : r = 9
    · rw [cls_blank (.inr h4), if_pos (beq_iff_eq.2 h4)]
    · rw [if_neg (show ¬ (r == 9) = true from fun e => h4 (beq_iff_eq.1 e))]
      repeat' split
      all_goals first | (rw [cls_word (by omega) (by omega)]; done) | (rw [cls_other (by omega) (by omega)]; done)
theorem wclass_prog (r : Int) (big : Bool) : Ev (fun k => words_Class.f k r big) (clsb big (wrap64 r)) := by
  unfold words_Class.f
  refine Ev.bind (class_prog _) ?_
  cases big
  · have e : clsb false (wrap64 r) = cls (wrap64 r) := by unfold clsb; rw [if_neg (by simp)]
    rw [e]
    exact ev_neg (by decide) (Ev.now _)
  · refine ev_pos rfl ?_
    by_cases h : cls (wrap64 r) = 2
    · have e : clsb true (wrap64 r) = 1 := by unfold clsb; rw [if_pos ⟨rfl, h⟩]
      rw [e]
      exact ev_pos h (Ev.now _)
    · have e : clsb true (wrap64 r) = cls (wrap64 r) := by unfold clsb; rw [if_neg (fun z => h z.2)]
      rw [e]
      exact ev_neg h (Ev.now _)
end Go.Proofs.YtbgmmcngkdhpcaaDoor.P
end
section
namespace Go.Proofs.YtbgmmcngkdhpcaaDoor.P
open Go.RowKit Go.Proofs.YtbgmmcngkdhpcaaDoor Go.Proofs.YtbgmmcngkdhpcaaDoorW.PrintWords Go.Proofs.YtbgmmcngkdhpcaaDoorW.PrintLast Go.Proofs.YtbgmmcngkdhpcaaDoorW.PrintMore
theorem in_loop (l : List Int) (x : Int) (hl : l.length ≤ 4000) (d : Nat) : ∀ i : Nat, i + d = l.length → ∃ v, Ev (fun k => quillref0_In.l0 k l x (i : Int)) v ∧ (0 ≤ v ↔ x ∈ l.drop i) := by
  induction d with
  | zero =>
    intro i hi
    refine ⟨-1, ev_succ fun k => ?_, ?_⟩
    · simp only [quillref0_In.l0]
      rw [if_neg (by omega)]
    · rw [List.drop_eq_nil_of_le (by omega)]
      simp
  | succ d ih =>
    intro i hi
    have hlt : i < l.length := by omega
    have hr : rd l i = l[i] := by
      unfold rd
      rw [List.getD_eq_getElem?_getD, show ((i : Int)).toNat = i from rfl, List.getElem?_eq_getElem hlt]
      rfl
    rw [List.drop_eq_getElem_cons hlt]
    by_cases h : l[i] = x
    · refine ⟨i, ev_shift ?_, ?_⟩
      · simp only [quillref0_In.l0]
        exact ev_pos (by omega) (ev_pos (by omega) (ev_pos (by rw [hr, h]) (Ev.now _)))
      · simp [h]
    · obtain ⟨v, h1, h2⟩ := ih (i + 1) (by omega)
      refine ⟨v, ev_shift ?_, ?_⟩
      · simp only [quillref0_In.l0]
        refine ev_pos (by omega) (ev_pos (by omega) (ev_neg (by rw [hr]; exact h) ?_))
        rw [w64 (x := (i : Int) + 1) (by omega) (by omega)]
        exact_mod_cast h1
      · rw [h2, List.mem_cons]
        constructor
        · exact .inr
        · exact fun h3 => h3.resolve_left (fun e => h e.symm)
theorem in_ev (l : List Int) (x : Int) (hl : l.length ≤ 4000) : ∃ v, Ev (fun k => quillref0_In.f k l x) v ∧ (0 ≤ v ↔ x ∈ l) := by
  have h := in_loop l x hl l.length 0 (by omega)
  rw [List.drop_zero] at h
  exact h
theorem num_ref (at_ n : Int) : quillref0_Num.f at_ n = some (decide (0 ≤ at_ ∧ at_ ≤ n)) := by
  unfold quillref0_Num.f
  by_cases h : at_ ≥ 0
  · rw [if_pos h]
    congr 1
    exact decide_eq_decide.2 ⟨fun h2 => ⟨h, h2⟩, fun h2 => h2.2⟩
  · rw [if_neg h, decide_eq_false (show ¬ (0 ≤ at_ ∧ at_ ≤ n) by omega)]
theorem between_ref (a b c : Int) : quillref0_Between.f a b c = some (decide (b ≤ a ∧ a ≤ c)) := by
  unfold quillref0_Between.f
  by_cases h : a ≥ b
  · rw [if_pos h]
    congr 1
    exact decide_eq_decide.2 ⟨fun h2 => ⟨h, h2⟩, fun h2 => h2.2⟩
  · rw [if_neg h, decide_eq_false (show ¬ (b ≤ a ∧ a ≤ c) by omega)]
theorem rdOf_mem {S : List ByteArray} {i : Int} (h0 : 0 ≤ i) (h1 : i < S.length) : rdOf ByteArray.empty S i ∈ S := by
  unfold rdOf
  rw [List.getD_eq_getElem?_getD, List.getElem?_eq_getElem (by omega)]
  exact List.getElem_mem _
theorem texts_loop (S : List ByteArray) (hl : S.length * 16 ≤ 140737488351232) (hs : ∀ s ∈ S, s.size ≤ 140737488351232) (d : Nat) : ∀ (i : Nat) (n : Int), i + d = S.length → 0 ≤ n →
    ∃ v, Ev (fun k => quilllaw0_Texts.l0 k S n (i : Int)) v ∧ n ≤ v ∧ (v < 1048576 → ∀ s ∈ S.drop i, (s.size : Int) ≤ v) := by
  induction d with
  | zero =>
    intro i n hi h0
    refine ⟨n, ev_shift ?_, Int.le_refl _, fun _ s hs => ?_⟩
    · simp only [quilllaw0_Texts.l0]
      exact ev_neg (by omega) (Ev.now _)
    · rw [List.drop_eq_nil_of_le (by omega)] at hs
      cases hs
  | succ d ih =>
    intro i n hi h0
    have hlt : i < S.length := by omega
    by_cases hn : n < 1048576
    · have hz := hs S[i] (List.getElem_mem _)
      have hr : rdOf ByteArray.empty S i = S[i] := by
        unfold rdOf
        rw [List.getD_eq_getElem?_getD, show ((i : Int)).toNat = i from rfl, List.getElem?_eq_getElem hlt]
        rfl
      obtain ⟨v, h1, h2, h3⟩ := ih (i + 1) (n + S[i].size) (by omega) (by omega)
      refine ⟨v, ev_shift ?_, by omega, fun hv s hs => ?_⟩
      · simp only [quilllaw0_Texts.l0]
        refine ev_pos (by omega) (ev_pos hn (ev_pos (by omega) ?_))
        rw [hr, w64 (x := n + (S[i].size : Int)) (by omega) (by omega), w64 (x := (i : Int) + 1) (by omega) (by omega)]
        exact_mod_cast h1
      · rw [List.drop_eq_getElem_cons hlt] at hs
        rcases List.mem_cons.1 hs with rfl | hs
        · omega
        · exact h3 hv s hs
    · refine ⟨n, ev_shift ?_, Int.le_refl _, fun hv => absurd hv hn⟩
      simp only [quilllaw0_Texts.l0]
      exact ev_pos (by omega) (ev_neg hn (Ev.now _))
theorem heavy_ev (S : List ByteArray) (hl : S.length * 16 ≤ 140737488351232) (hs : ∀ s ∈ S, s.size ≤ 140737488351232) (a1 a2 a3 a4 a5 a6 a7 : Int) :
    ∃ v, Ev (fun k => quilllaw10_Heavy.f k S a1 a2 a3 a4 a5 a6 a7) v ∧ (v = false → (S.length : Int) ≤ 6000 ∧ ∀ s ∈ S, s.size ≤ 6000) := by
  obtain ⟨v, h1, h2, h3⟩ := texts_loop S hl hs S.length 0 S.length (by omega) (by omega)
  refine ⟨decide (v > 6000), ?_, fun hv => ?_⟩
  · unfold quilllaw10_Heavy.f quilllaw1_Heavy.f quilllaw0_Texts.f
    exact Ev.bind (Ev.bind h1 (Ev.now _)) (Ev.now _)
  · have hv2 : ¬ v > 6000 := of_decide_eq_false hv
    refine ⟨by omega, fun s hs => ?_⟩
    have := h3 (by omega) s (by rw [List.drop_zero]; exact hs)
    omega
theorem within_some (a n : Int) (h0 : 1 ≤ n) (h1 : n ≤ 9223372036854775807) : ∃ v, quilllaw0_Within.f a n = some v := by
  unfold quilllaw0_Within.f
  rw [if_neg]
  · exact ⟨_, rfl⟩
  · have : IntKind.u64.wrap n = n % 18446744073709551616 := rfl
    rw [this]
    omega
theorem offsets_loop (t : List Int) (ht : t.length ≤ 6000) (S : List ByteArray) (a1 a2 a3 a4 a5 a6 a7 : Int) (d : Nat) : ∀ (i : Nat) (l : List Int), i + d = 12 → l.length = 3 + i →
    ∃ l', Ev (fun k => quilllaw10_Offsets.l0 k t l (i : Int) S a1 a2 a3 a4 a5 a6 a7) l' ∧ l'.length ≤ 15 := by
  induction d with
  | zero =>
    intro i l hi hl
    refine ⟨l, ev_shift ?_, by omega⟩
    simp only [quilllaw10_Offsets.l0]
    by_cases h : (i : Int) ≤ t.length
    · exact ev_pos h (ev_neg (by omega) (Ev.now _))
    · exact ev_neg h (Ev.now _)
  | succ d ih =>
    intro i l hi hl
    by_cases h : (i : Int) ≤ t.length
    · obtain ⟨v, hv⟩ := within_some (wrap64 (a1 + wrap64 ((i : Int) * wrap64 (1 + wrap64 ((t.length : Int) / 12))))) (wrap64 ((t.length : Int) + 1)) (by rw [w64 (by omega) (by omega)]; omega) (by rw [w64 (by omega) (by omega)]; omega)
      obtain ⟨l', h1, h2⟩ := ih (i + 1) (l ++ [v]) (by omega) (by simp; omega)
      refine ⟨l', ev_shift ?_, h2⟩
      simp only [quilllaw10_Offsets.l0]
      refine ev_pos h (ev_pos (by omega) (ev_bindc hv (ev_pos (by omega) ?_)))
      rw [w64 (x := (i : Int) + 1) (by omega) (by omega)]
      exact_mod_cast h1
    · refine ⟨l, ev_shift ?_, by omega⟩
      simp only [quilllaw10_Offsets.l0]
      exact ev_neg h (Ev.now _)
theorem offsets_ev (t : List Int) (ht : t.length ≤ 6000) (S : List ByteArray) (a1 a2 a3 a4 a5 a6 a7 : Int) : ∃ l, Ev (fun k => quilllaw10_Offsets.f k S a1 a2 a3 a4 a5 a6 a7 t) l ∧ l.length ≤ 15 :=
  offsets_loop t ht S a1 a2 a3 a4 a5 a6 a7 12 0 _ (by omega) rfl
end Go.Proofs.YtbgmmcngkdhpcaaDoor.P
end
section
namespace Go.Proofs.YtbgmmcngkdhpcaaDoor.P
open Go.RowKit Go.Proofs.YtbgmmcngkdhpcaaDoor Go.Proofs.YtbgmmcngkdhpcaaDoorW.PrintWords Go.Proofs.YtbgmmcngkdhpcaaDoorW.PrintLast Go.Proofs.YtbgmmcngkdhpcaaDoorW.PrintMore
/-! ### the row of an offset -/
theorem of_row {R B : List Int} (h : Beg R B R.length) {j a : Int} (h0 : 0 ≤ j) (h1 : j < B.length) (hb : rd B j ≤ a) (he : a ≤ hi R B j) : IsB R a (rd B j) ∧ IsE R a (hi R B j) := by
  obtain ⟨r1, r2, r3, r4, r5, r6⟩ := h.row h0 h1
  exact ⟨⟨r1, hb, r4, fun i x y => r6 i x (by omega)⟩, ⟨he, r3, r5, fun i x y => r6 i (by omega) y⟩⟩
theorem row_loop {R B : List Int} (h : Beg R B R.length) (hR : R.length ≤ 4000) {a : Int} (ha : a ≤ R.length) (d : Nat) : ∀ j : Int, 0 ≤ j → j + d = B.length - 1 → rd B j ≤ a →
    ∃ j', Ev (fun k => text_Map_Row.l0 k a j R B) j' ∧ 0 ≤ j' ∧ j' < B.length ∧ rd B j' ≤ a ∧ a ≤ hi R B j' := by
  have hlen := h.len
  induction d with
  | zero =>
    intro j h0 e hj
    refine ⟨j, ev_shift ?_, h0, by omega, hj, ?_⟩
    · simp only [text_Map_Row.l0]
      rw [w64 (by omega) (by omega)]
      exact ev_neg (by omega) (Ev.now _)
    · unfold hi
      rw [if_neg (by omega)]
      exact ha
  | succ d ih =>
    intro j h0 e hj
    by_cases h2 : rd B (j + 1) ≤ a
    · obtain ⟨j', h3, h4⟩ := ih (j + 1) (by omega) (by omega) h2
      refine ⟨j', ev_shift ?_, h4⟩
      simp only [text_Map_Row.l0]
      rw [w64 (by omega) (by omega)]
      exact ev_pos (by omega) (ev_pos (by omega) (ev_pos h2 h3))
    · have hn := h.next (j := j) (by omega)
      refine ⟨j, ev_shift ?_, h0, by omega, hj, by omega⟩
      simp only [text_Map_Row.l0]
      rw [w64 (by omega) (by omega)]
      exact ev_pos (by omega) (ev_pos (by omega) (ev_neg h2 (Ev.now _)))
theorem row_ev {R B : List Int} (h : Beg R B R.length) (hR : R.length ≤ 4000) {a : Int} (h0 : 0 ≤ a) (ha : a ≤ R.length) :
    ∃ j, Ev (fun k => text_Map_Row.f k R B a) j ∧ 0 ≤ j ∧ j < B.length ∧ rd B j ≤ a ∧ a ≤ hi R B j :=
  row_loop h hR ha (B.length - 1) 0 (by omega) (by have := h.pos; omega) (by rw [h.zero]; exact h0)
theorem endr_loop (R : List Int) (hR : R.length ≤ 4000) (d : Nat) : ∀ i : Nat, i + d = R.length → ∃ e, Ev (fun k => quillref1_End.l0 k R (i : Int)) e ∧ IsE R i e := by
  induction d with
  | zero =>
    intro i e
    exact ⟨i, ev_shift (by simp only [quillref1_End.l0]; exact ev_neg (by omega) (Ev.now _)), by omega, by omega, .inl (by omega), fun j h1 h2 => by omega⟩
  | succ d ih =>
    intro i e
    by_cases h : rd R i = 10
    · refine ⟨i, ev_shift ?_, by omega, by omega, .inr h, fun j h1 h2 => by omega⟩
      simp only [quillref1_End.l0]
      exact ev_pos (by omega) (ev_pos (by omega) (ev_pos h (Ev.now _)))
    · obtain ⟨f, h1, h2, h3, h4, h5⟩ := ih (i + 1) (by omega)
      refine ⟨f, ev_shift ?_, by omega, h3, h4, fun j h6 h7 => ?_⟩
      · simp only [quillref1_End.l0]
        refine ev_pos (by omega) (ev_pos (by omega) (ev_neg h ?_))
        rw [w64 (by omega) (by omega)]
        exact_mod_cast h1
      · by_cases e2 : j = i
        · rw [e2]; exact h
        · exact h5 j (by omega) h7
theorem endr_ev {R : List Int} (hR : R.length ≤ 4000) {i : Int} (h0 : 0 ≤ i) (h1 : i ≤ R.length) : ∃ e, Ev (fun k => quillref1_End.f k R i) e ∧ IsE R i e := by
  obtain ⟨m, rfl⟩ := Int.eq_ofNat_of_zero_le h0
  exact endr_loop R hR (R.length - m) m (by omega)
end Go.Proofs.YtbgmmcngkdhpcaaDoor.P
end
section
namespace Go.Proofs.YtbgmmcngkdhpcaaDoor.P
open Go.RowKit Go.Proofs.YtbgmmcngkdhpcaaDoor Go.Proofs.YtbgmmcngkdhpcaaDoorW.PrintWords Go.Proofs.YtbgmmcngkdhpcaaDoorW.PrintLast Go.Proofs.YtbgmmcngkdhpcaaDoorW.PrintMore
/-! ### the cells of a text -/
def cellAt (R : List Int) (big : Bool) (i : Nat) : List S142 :=
  if (i : Int) = R.length ∨ rd R i = 10 then (if (i : Int) = 0 ∨ rd R ((i : Int) - 1) = 10 then [⟨i, 3, true, true⟩] else [])
  else [⟨i, clsb big (wrap64 (rd R i)), decide ((i : Int) = 0 ∨ rd R ((i : Int) - 1) = 10), decide ((i : Int) + 1 = R.length ∨ rd R ((i : Int) + 1) = 10)⟩]
def cellsTo (R : List Int) (big : Bool) : Nat → List S142
  | 0 => []
  | i + 1 => cellsTo R big i ++ cellAt R big i
def cellsOf (R : List Int) (big : Bool) : List S142 := cellsTo R big (R.length + 1)
theorem cellAt_len (R : List Int) (big : Bool) (i : Nat) : (cellAt R big i).length ≤ 1 := by
  unfold cellAt
  repeat' split
  all_goals simp
theorem cellsTo_len (R : List Int) (big : Bool) : ∀ i, (cellsTo R big i).length ≤ i
  | 0 => Nat.le_refl _
  | i + 1 => by
    have h1 := cellsTo_len R big i
    have h2 := cellAt_len R big i
    simp only [cellsTo, List.length_append]
    omega
section
variable {R B : List Int} {big : Bool}
theorem cellAt_none {i : Nat} (h : (i : Int) = R.length ∨ rd R i = 10) (h2 : ¬ ((i : Int) = 0 ∨ rd R ((i : Int) - 1) = 10)) : cellAt R big i = [] := by
  unfold cellAt
  rw [if_pos h, if_neg h2]
theorem cellAt_bare {i : Nat} (h : (i : Int) = R.length ∨ rd R i = 10) (h2 : (i : Int) = 0 ∨ rd R ((i : Int) - 1) = 10) : cellAt R big i = [⟨i, 3, true, true⟩] := by
  unfold cellAt
  rw [if_pos h, if_pos h2]
theorem cellAt_rune {i : Nat} (h : ¬ ((i : Int) = R.length ∨ rd R i = 10)) : cellAt R big i = [⟨i, clsb big (wrap64 (rd R i)), decide ((i : Int) = 0 ∨ rd R ((i : Int) - 1) = 10), decide ((i : Int) + 1 = R.length ∨ rd R ((i : Int) + 1) = 10)⟩] := by
  unfold cellAt
  rw [if_neg h]
/-! ### the program's cells -/
theorem cells_row (hR : R.length ≤ 4000) {low high j : Int} (hlow : low = 0 ∨ rd R (low - 1) = 10) (hhigh : high = R.length ∨ rd R high = 10) (hmid : ∀ i, low ≤ i → i < high → rd R i ≠ 10) (h0 : 0 ≤ low) (h1 : high ≤ R.length) {r : List S142}
    (hlt : low < high) (H : Ev (fun k => words_cells.l0 k big (cellsTo R big (high.toNat + 1)) B B.length (wrap64 (j + 1)) R B) r) (d : Nat) :
    ∀ i : Nat, (i : Int) + d = high → low ≤ i → Ev (fun k => words_cells.l1 k big (cellsTo R big i) low high (i : Int) B B.length j R B) r := by
  induction d with
  | zero =>
    intro i hi _
    refine ev_shift ?_
    simp only [words_cells.l1]
    refine ev_neg (by omega) ?_
    have e : cellsTo R big (high.toNat + 1) = cellsTo R big i := by
      rw [show high.toNat = i by omega]
      show cellsTo R big i ++ cellAt R big i = _
      have hh := hmid (high - 1) (by omega) (by omega)
      rw [cellAt_none (by rw [show (i : Int) = high by omega]; exact hhigh) (by rw [show (i : Int) = high by omega]; exact fun h => h.elim (fun h => by omega) hh), List.append_nil]
    rw [e] at H
    exact H
  | succ d ih =>
    intro i hi hl
    refine ev_shift ?_
    simp only [words_cells.l1]
    have hl2 := cellsTo_len R big i
    refine ev_pos (by omega) (ev_pos (by omega) (ev_pos (by omega) (Ev.bind (wclass_prog _ _) (ev_pos (by omega) ?_))))
    have h2 := ih (i + 1) (by omega) (by omega)
    have e : cellAt R big i = [⟨i, clsb big (wrap64 (rd R i)), ((i : Int) == low), ((i : Int) == wrap64 (high - 1))⟩] := by
      rw [cellAt_rune (fun h => h.elim (fun h => by omega) (fun h => hmid i hl (by omega) h)), w64 (x := high - 1) (by omega) (by omega)]
      congr 2
      · by_cases e : (i : Int) = low
        · rw [e, decide_eq_true hlow, beq_self_eq_true]
        · rw [beq_false_of_ne e, decide_eq_false]
          intro h
          rcases h with h | h
          · omega
          · exact hmid _ (by omega) (by omega) h
      · by_cases e : (i : Int) = high - 1
        · rw [e, beq_self_eq_true, decide_eq_true]
          rw [show high - 1 + 1 = high by omega]
          exact hhigh
        · rw [beq_false_of_ne e, decide_eq_false]
          intro h
          rcases h with h | h
          · omega
          · exact hmid _ (by omega) (by omega) h
    simp only [cellsTo] at h2
    rw [e] at h2
    rw [w64 (x := (i : Int) + 1) (by omega) (by omega)]
    exact_mod_cast h2
theorem cells_loop (hR : R.length ≤ 4000) (hB : Beg R B R.length) (d : Nat) :
    ∀ j : Nat, j + d = B.length → Ev (fun k => words_cells.l0 k big (cellsTo R big (if (j : Int) < B.length then (rd B j).toNat else R.length + 1)) B B.length (j : Int) R B) (cellsOf R big) := by
  have hlen := hB.len
  induction d with
  | zero =>
    intro j hj
    refine ev_shift ?_
    simp only [words_cells.l0]
    refine ev_neg (by omega) ?_
    rw [if_neg (by omega)]
    exact Ev.now _
  | succ d ih =>
    intro j hj
    have hjl : (j : Int) < B.length := by omega
    obtain ⟨r0, r1, r2, r3, r4, r5⟩ := hB.row (j := j) (by omega) hjl
    have hnext : (if ((j + 1 : Nat) : Int) < B.length then (rd B ((j + 1 : Nat) : Int)).toNat else R.length + 1) = (hi R B j).toNat + 1 := by
      split
      · rename_i h
        have := hB.next (j := j) (by omega)
        rw [show ((j + 1 : Nat) : Int) = (j : Int) + 1 by omega, this]
        omega
      · rename_i h
        unfold hi
        rw [if_neg (by omega)]
        omega
    have h2 := ih (j + 1) (by omega)
    rw [hnext] at h2
    have H : Ev (fun k => words_cells.l0 k big (cellsTo R big ((hi R B j).toNat + 1)) B B.length (wrap64 ((j : Int) + 1)) R B) (cellsOf R big) := by
      rw [w64 (by omega) (by omega)]
      exact_mod_cast h2
    rw [if_pos hjl]
    refine ev_shift ?_
    simp only [words_cells.l0]
    refine ev_pos hjl (ev_pos (by omega) (ev_pos hjl (ev_bindc (end_ev hB hR (by omega) hjl) ?_)))
    by_cases e : rd B j = hi R B j
    · have hl2 := cellsTo_len R big (rd B j).toNat
      refine ev_pos e (ev_pos (by omega) ?_)
      refine ev_shift ?_
      simp only [words_cells.j1]
      refine ev_shift ?_
      simp only [words_cells.l1]
      refine ev_neg (by omega) ?_
      have e2 : cellsTo R big ((hi R B j).toNat + 1) = cellsTo R big (rd B j).toNat ++ [⟨rd B j, 3, true, true⟩] := by
        rw [← e]
        simp only [cellsTo]
        have e3 : (((rd B j).toNat : Nat) : Int) = rd B j := by omega
        rw [cellAt_bare (by rw [e3]; rw [← e] at r4; exact r4) (by rw [e3]; exact r3), e3]
      rw [e2] at H
      exact H
    · refine ev_neg e ?_
      refine ev_shift ?_
      simp only [words_cells.j1]
      have h3 := cells_row (big := big) (B := B) (j := j) hR r3 r4 r5 r0 r2 (by omega) H ((hi R B j) - (rd B j)).toNat (rd B j).toNat (by omega) (by omega)
      rw [show (((rd B j).toNat : Nat) : Int) = rd B j by omega] at h3
      exact h3
end
theorem cells_prog (s : ByteArray) (hs : s.size ≤ 4000) (big : Bool) : Ev (fun k => words_cells.f k s big) (cellsOf (runesOf s) big) := by
  have hn := runesOf_len s
  obtain ⟨B, h1, h2⟩ := of_ev s hs
  unfold words_cells.f
  refine Ev.bind h1 ?_
  have h3 := cells_loop (big := big) (by omega) h2 B.length 0 (by omega)
  have hp := h2.pos
  have hz := h2.zero
  rw [if_pos (by omega)] at h3
  rw [show ((0 : Nat) : Int) = 0 from rfl, hz] at h3
  exact h3
end Go.Proofs.YtbgmmcngkdhpcaaDoor.P
end
section
namespace Go.Proofs.YtbgmmcngkdhpcaaDoor.P
open Go.RowKit Go.Proofs.YtbgmmcngkdhpcaaDoor Go.Proofs.YtbgmmcngkdhpcaaDoorW.PrintWords Go.Proofs.YtbgmmcngkdhpcaaDoorW.PrintLast Go.Proofs.YtbgmmcngkdhpcaaDoorW.PrintMore
section
variable {R : List Int} {big : Bool}
def atsOf (l : List S142) : List Int := l.map (·.f0)
def clsOf (l : List S142) : List Int := l.map (·.f1)
theorem atsOf_snoc (l : List S142) (c : S142) : atsOf (l ++ [c]) = atsOf l ++ [c.f0] := by simp [atsOf]
theorem clsOf_snoc (l : List S142) (c : S142) : clsOf (l ++ [c]) = clsOf l ++ [c.f1] := by simp [clsOf]
theorem atsOf_len (l : List S142) : (atsOf l).length = l.length := by simp [atsOf]
theorem clsOf_len (l : List S142) : (clsOf l).length = l.length := by simp [clsOf]
theorem ref_cells_loop (hR : R.length ≤ 4000) (d : Nat) : ∀ i : Nat, i + d = R.length + 1 →
    Ev (fun k => quillref10_Cells.l0 k R big (atsOf (cellsTo R big i)) (clsOf (cellsTo R big i)) (i : Int)) (atsOf (cellsOf R big), clsOf (cellsOf R big)) := by
  induction d with
  | zero =>
    intro i hi
    obtain rfl : i = R.length + 1 := by omega
    refine ev_shift ?_
    simp only [quillref10_Cells.l0]
    exact ev_neg (by omega) (Ev.now _)
  | succ d ih =>
    intro i hi
    have hl := cellsTo_len R big i
    have hla := atsOf_len (cellsTo R big i)
    have hlc := clsOf_len (cellsTo R big i)
    have h2 := ih (i + 1) (by omega)
    simp only [cellsTo] at h2
    refine ev_shift ?_
    simp only [quillref10_Cells.l0]
    refine ev_pos (by omega) ?_
    by_cases hnl : (i : Int) = R.length ∨ rd R i = 10
    · have key : Ev (fun k => quillref10_Cells.j1 k R big (atsOf (cellsTo R big i)) (clsOf (cellsTo R big i)) (i : Int) true) (atsOf (cellsOf R big), clsOf (cellsOf R big)) := by
        refine ev_shift ?_
        simp only [quillref10_Cells.j1]
        refine ev_pos (by decide) ?_
        obtain ⟨b, h3, h4⟩ := begin_ev hR (i := i) (by omega) (by omega)
        refine Ev.bind h3 ?_
        by_cases hb : (i : Int) = 0 ∨ rd R ((i : Int) - 1) = 10
        · obtain rfl : b = i := h4.uniq ⟨by omega, Int.le_refl _, hb, fun j a c => by omega⟩
          rw [cellAt_bare hnl hb, atsOf_snoc, clsOf_snoc] at h2
          refine ev_pos rfl (ev_pos (by omega) (ev_pos (by omega) ?_))
          rw [w64 (x := (i : Int) + 1) (by omega) (by omega)]
          exact_mod_cast h2
        · rw [cellAt_none hnl hb, List.append_nil] at h2
          refine ev_neg (fun e => ?_) ?_
          · rw [e] at h4
            exact hb h4.2.2.1
          · rw [w64 (x := (i : Int) + 1) (by omega) (by omega)]
            exact_mod_cast h2
      by_cases e : (i : Int) = R.length
      · exact ev_pos e key
      · refine ev_neg e (ev_pos (by omega) (ev_pos (by omega) ?_))
        rw [show (rd R i == 10) = true from beq_iff_eq.2 (hnl.resolve_left e)]
        exact key
    · refine ev_neg (fun e => hnl (.inl e)) (ev_pos (by omega) (ev_pos (by omega) ?_))
      rw [show (rd R i == 10) = false from beq_eq_false_iff_ne.2 fun e => hnl (.inr e)]
      refine ev_shift ?_
      simp only [quillref10_Cells.j1]
      refine ev_neg (by decide) (ev_pos (by omega) (ev_pos (by omega) (Ev.bind (class_ref _) ?_)))
      rw [cellAt_rune hnl, atsOf_snoc, clsOf_snoc] at h2
      simp only [clsb] at h2
      have e1 : wrap64 ((i : Int) + 1) = ((i + 1 : Nat) : Int) := by rw [w64 (by omega) (by omega)]; omega
      rw [e1]
      cases big
      · rw [if_neg (by simp)] at h2
        exact ev_neg (by decide) (ev_pos (by omega) (ev_pos (by omega) h2))
      · refine ev_pos rfl ?_
        by_cases hc : cls (wrap64 (rd R i)) = 2
        · rw [if_pos ⟨rfl, hc⟩] at h2
          exact ev_pos hc (ev_pos (by omega) (ev_pos (by omega) h2))
        · rw [if_neg (fun z => hc z.2)] at h2
          exact ev_neg hc (ev_pos (by omega) (ev_pos (by omega) h2))
theorem cells_ref (hR : R.length ≤ 4000) (big : Bool) : Ev (fun k => quillref10_Cells.f k R big) (atsOf (cellsOf R big), clsOf (cellsOf R big)) := by
  have h := ref_cells_loop (big := big) hR (R.length + 1) 0 (by omega)
  exact h
/-! ### where the cell of a place stands -/
theorem cellsTo_prefix (i : Nat) : ∀ d, ∃ t, cellsTo R big (i + d) = cellsTo R big i ++ t
  | 0 => ⟨[], by simp⟩
  | d + 1 => by
    obtain ⟨t, ht⟩ := cellsTo_prefix i d
    exact ⟨t ++ cellAt R big (i + d), by show cellsTo R big (i + d) ++ cellAt R big (i + d) = _; rw [ht, List.append_assoc]⟩
def idx (R : List Int) (big : Bool) (p : Nat) : Nat := (cellsTo R big p).length
theorem idx_mono (p : Nat) (d : Nat) : idx R big p ≤ idx R big (p + d) := by
  obtain ⟨t, ht⟩ := cellsTo_prefix (R := R) (big := big) p d
  unfold idx
  rw [ht, List.length_append]
  omega
theorem idx_le {p q : Nat} (h : p ≤ q) : idx R big p ≤ idx R big q := by
  have := idx_mono (R := R) (big := big) p (q - p)
  rwa [show p + (q - p) = q by omega] at this
theorem idx_lt {p q : Nat} (h : idx R big p < idx R big q) : p < q := by
  rcases Nat.lt_or_ge p q with h1 | h1
  · exact h1
  · have := idx_le (R := R) (big := big) h1; omega
/-- The cell of a place, where it stands. -/
theorem at_idx {p : Nat} {c : S142} (hp : p ≤ R.length) (h : cellAt R big p = [c]) : (cellsOf R big)[idx R big p]? = some c := by
  obtain ⟨t, ht⟩ := cellsTo_prefix (R := R) (big := big) (p + 1) (R.length - p)
  rw [show p + 1 + (R.length - p) = R.length + 1 by omega] at ht
  unfold cellsOf idx
  rw [ht]
  show (cellsTo R big p ++ cellAt R big p ++ t)[_]? = _
  rw [h, List.append_assoc, List.getElem?_append_right (Nat.le_refl _)]
  simp
theorem of_idx (i : Nat) : ∀ k, k < (cellsTo R big i).length → ∃ p, p < i ∧ idx R big p = k ∧ ∃ c, cellAt R big p = [c] ∧ (cellsTo R big i)[k]? = some c := by
  induction i with
  | zero => intro k hk; simp [cellsTo] at hk
  | succ i ih =>
    intro k hk
    simp only [cellsTo, List.length_append] at hk ⊢
    rcases Nat.lt_or_ge k (cellsTo R big i).length with h | h
    · obtain ⟨p, h1, h2, c, h3, h4⟩ := ih k h
      exact ⟨p, by omega, h2, c, h3, by rw [List.getElem?_append_left h]; exact h4⟩
    · have hl := cellAt_len R big i
      obtain ⟨c, hc⟩ : ∃ c, cellAt R big i = [c] := List.length_eq_one_iff.1 (by omega)
      refine ⟨i, by omega, ?_, c, hc, ?_⟩
      · unfold idx; rw [hc] at hk; simp at hk; omega
      · rw [hc, List.getElem?_append_right h, show k - (cellsTo R big i).length = 0 by rw [hc] at hk; simp at hk; omega]
        rfl
theorem rd_cell {l : List S142} {k : Int} {j : Nat} {c : S142} (hk : k = j) (h : l[j]? = some c) : rd_T142 l k = c := by
  subst hk
  unfold rd_T142
  rw [List.getD_eq_getElem?_getD, show ((j : Int)).toNat = j from rfl, h]
  rfl
theorem rd_ats {l : List S142} {k : Int} {j : Nat} {c : S142} (hk : k = j) (h : l[j]? = some c) : rd (atsOf l) k = c.f0 := by
  subst hk
  unfold rd atsOf
  rw [List.getD_eq_getElem?_getD, show ((j : Int)).toNat = j from rfl, List.getElem?_map, h]
  rfl
theorem rd_cls {l : List S142} {k : Int} {j : Nat} {c : S142} (hk : k = j) (h : l[j]? = some c) : rd (clsOf l) k = c.f1 := by
  subst hk
  unfold rd clsOf
  rw [List.getD_eq_getElem?_getD, show ((j : Int)).toNat = j from rfl, List.getElem?_map, h]
  rfl
/-- Does a cell begin a word; does it end one? -/
def bP (R : List Int) (big : Bool) (c : S142) : Bool := decide (c.f1 ≠ 0) && (c.f2 || (clsb big (wrap64 (rd R (c.f0 - 1))) != c.f1))
def eP (R : List Int) (big : Bool) (c : S142) : Bool := decide (c.f1 ≠ 0) && (c.f3 || (clsb big (wrap64 (rd R (c.f0 + 1))) != c.f1))
/-- What is known of the cell number k. -/
theorem cell_at {k : Int} (h0 : 0 ≤ k) (h1 : k < (cellsOf R big).length) : ∃ p : Nat, p ≤ R.length ∧ (idx R big p : Int) = k ∧ ∃ c, cellAt R big p = [c] ∧ rd_T142 (cellsOf R big) k = c ∧ rd (atsOf (cellsOf R big)) k = p ∧ rd (clsOf (cellsOf R big)) k = c.f1 ∧ c.f0 = p := by
  obtain ⟨p, h2, h3, c, h4, h5⟩ := of_idx (R := R) (big := big) (R.length + 1) k.toNat (by unfold cellsOf at h1; omega)
  have hk : k = (k.toNat : Nat) := by omega
  have hf : c.f0 = p := by
    unfold cellAt at h4
    split at h4
    · split at h4
      · obtain rfl := (List.cons.inj h4).1; rfl
      · cases h4
    · obtain rfl := (List.cons.inj h4).1; rfl
  refine ⟨p, by omega, by omega, c, h4, rd_cell hk h5, ?_, rd_cls hk h5, hf⟩
  rw [rd_ats (l := cellsOf R big) hk h5]; exact hf
theorem begins_prog (hR : R.length ≤ 4000) {k : Int} (h0 : 0 ≤ k) (h1 : k < (cellsOf R big).length) : words_begins.f (cellsOf R big) k = some (bP R big (rd_T142 (cellsOf R big) k)) := by
  obtain ⟨p, hp, hi, c, hc, e1, -, -, hf⟩ := cell_at h0 h1
  have hl : ((cellsOf R big).length : Int) ≤ R.length + 1 := by have := cellsTo_len R big (R.length + 1); unfold cellsOf; omega
  unfold words_begins.f bP
  rw [if_pos h0, if_pos h1, e1]
  by_cases hz : c.f1 = 0
  · rw [if_pos hz, decide_eq_false (by simpa using hz)]; rfl
  · rw [if_neg hz, decide_eq_true hz, Bool.true_and]
    by_cases h2 : c.f2 = true
    · rw [if_pos h2, h2, Bool.true_or]
    · rw [if_neg h2]
      replace h2 := Bool.eq_false_iff.2 h2
      rw [h2, Bool.false_or]
      unfold cellAt at hc
      split at hc
      · split at hc
        · obtain rfl := (List.cons.inj hc).1; cases h2
        · cases hc
      · obtain rfl := (List.cons.inj hc).1
        replace h2 := of_decide_eq_false h2
        have hp1 : p ≠ 0 := fun e => h2 (.inl (by omega))
        obtain ⟨q, rfl⟩ : ∃ q, p = q + 1 := ⟨p - 1, by omega⟩
        have hq : ¬ ((q : Int) = R.length ∨ rd R q = 10) := fun h => h.elim (fun h => by omega) (fun h => h2 (.inr (by rw [show ((q + 1 : Nat) : Int) - 1 = q by omega]; exact h)))
        have hcq := cellAt_rune (big := big) hq
        have hx := at_idx (by omega) hcq
        have hi2 : idx R big (q + 1) = idx R big q + 1 := by
          unfold idx
          simp only [cellsTo, List.length_append]
          rw [hcq]; rfl
        have hk1 : wrap64 (k - 1) = (idx R big q : Nat) := by rw [w64 (by omega) (by omega)]; omega
        rw [hk1, if_pos (by omega), if_pos (by omega), rd_cell rfl hx]
        simp only [show ((q + 1 : Nat) : Int) - 1 = q by omega]
theorem ends_prog (hR : R.length ≤ 4000) {k : Int} (h0 : 0 ≤ k) (h1 : k < (cellsOf R big).length) : words_ends.f (cellsOf R big) k = some (eP R big (rd_T142 (cellsOf R big) k)) := by
  obtain ⟨p, hp, hi, c, hc, e1, -, -, hf⟩ := cell_at h0 h1
  have hl : ((cellsOf R big).length : Int) ≤ R.length + 1 := by have := cellsTo_len R big (R.length + 1); unfold cellsOf; omega
  unfold words_ends.f eP
  rw [if_pos h0, if_pos h1, e1]
  by_cases hz : c.f1 = 0
  · rw [if_pos hz, decide_eq_false (by simpa using hz)]; rfl
  · rw [if_neg hz, decide_eq_true hz, Bool.true_and]
    by_cases h2 : c.f3 = true
    · rw [if_pos h2, h2, Bool.true_or]
    · rw [if_neg h2]
      replace h2 := Bool.eq_false_iff.2 h2
      rw [h2, Bool.false_or]
      unfold cellAt at hc
      split at hc
      · split at hc
        · obtain rfl := (List.cons.inj hc).1; cases h2
        · cases hc
      · rename_i hpn
        have hc0 := cellAt_rune (big := big) hpn
        obtain rfl := (List.cons.inj hc).1
        replace h2 := of_decide_eq_false h2
        have hpl : (p : Int) < R.length := by have : (p : Int) ≠ R.length := fun e => hpn (.inl e); omega
        have hq : ¬ (((p + 1 : Nat) : Int) = R.length ∨ rd R ((p + 1 : Nat) : Int) = 10) := fun h => h2 (by rw [show ((p + 1 : Nat) : Int) = (p : Int) + 1 by omega] at h; exact h)
        have hcq := cellAt_rune (big := big) hq
        have hx := at_idx (by omega) hcq
        have hi2 : idx R big (p + 1) = idx R big p + 1 := by
          unfold idx
          simp only [cellsTo, List.length_append]
          rw [hc0]; rfl
        have hk1 : wrap64 (k + 1) = (idx R big (p + 1) : Nat) := by rw [w64 (by omega) (by omega)]; omega
        have hlt : idx R big (p + 1) < (cellsOf R big).length := (List.getElem?_eq_some_iff.1 hx).1
        rw [hk1, if_pos (by omega), if_pos (by omega), rd_cell rfl hx]
        simp only [show ((p + 1 : Nat) : Int) = (p : Int) + 1 by omega]
theorem edge_begin (hR : R.length ≤ 4000) {k : Int} (h0 : 0 ≤ k) (h1 : k < (cellsOf R big).length) : quillref10_edge.f (atsOf (cellsOf R big)) (clsOf (cellsOf R big)) k (-1) = some (bP R big (rd_T142 (cellsOf R big) k)) := by
  obtain ⟨p, hp, hi, c, hc, e1, e2, e3, hf⟩ := cell_at h0 h1
  have hl : ((cellsOf R big).length : Int) ≤ R.length + 1 := by have := cellsTo_len R big (R.length + 1); unfold cellsOf; omega
  have hla := atsOf_len (cellsOf R big)
  have hlc := clsOf_len (cellsOf R big)
  unfold quillref10_edge.f bP
  rw [if_pos h0, if_pos (by omega), e1, e3]
  by_cases hz : c.f1 = 0
  · rw [if_pos hz, hz, decide_eq_false (by simp)]; rfl
  · rw [if_neg hz, decide_eq_true hz, Bool.true_and]
    unfold cellAt at hc
    split at hc
    · split at hc
      · obtain rfl := (List.cons.inj hc).1; rfl
      · cases hc
    · rename_i hpn
      obtain rfl := (List.cons.inj hc).1
      have hcr := clsb_range big (wrap64 (rd R p))
      simp only
      rw [if_neg (show ¬ clsb big (wrap64 (rd R p)) = 3 by omega), show k + -1 = k - 1 by omega, w64 (x := k - 1) (by omega) (by omega)]
      by_cases hk : k - 1 < 0
      · rw [if_pos hk]
        congr 1
        symm
        rw [Bool.or_eq_true]
        left
        refine decide_eq_true ?_
        by_cases hb : (p : Int) = 0 ∨ rd R ((p : Int) - 1) = 10
        · exact hb
        · exfalso
          obtain ⟨q, rfl⟩ : ∃ q, p = q + 1 := ⟨p - 1, by have : p ≠ 0 := fun e => hb (.inl (by omega)); omega⟩
          have hq : ¬ ((q : Int) = R.length ∨ rd R q = 10) := fun h => h.elim (fun h => by omega) (fun h => hb (.inr (by rw [show ((q + 1 : Nat) : Int) - 1 = q by omega]; exact h)))
          have hcq := cellAt_rune (big := big) hq
          have hi2 : idx R big (q + 1) = idx R big q + 1 := by
            unfold idx
            simp only [cellsTo, List.length_append]
            rw [hcq]; rfl
          omega
      · rw [if_neg hk, if_neg (by omega), if_pos (by omega), if_pos (by omega), if_pos (by omega), e2, show (p : Int) + -1 = p - 1 by omega, w64 (x := (p : Int) - 1) (by omega) (by omega)]
        obtain ⟨q, hq1, hq2, c', hc', -, g2, g3, hf'⟩ := cell_at (R := R) (big := big) (k := k - 1) (by omega) (by omega)
        rw [g2]
        have hqp : q < p := idx_lt (R := R) (big := big) (by omega)
        by_cases e : (q : Int) = p - 1
        · rw [if_pos e, if_pos (by omega), g3]
          congr 1
          unfold cellAt at hc'
          split at hc'
          · rename_i hnl
            split at hc'
            · obtain rfl := (List.cons.inj hc').1
              have : rd R ((p : Int) - 1) = 10 := by rw [← e]; exact hnl.resolve_left (by omega)
              rw [decide_eq_true (show (p : Int) = 0 ∨ rd R ((p : Int) - 1) = 10 from .inr this), Bool.true_or]
              exact bne_iff_ne.2 (show (3 : Int) ≠ clsb big (wrap64 (rd R p)) by omega)
            · cases hc'
          · rename_i hnl
            obtain rfl := (List.cons.inj hc').1
            rw [decide_eq_false (show ¬ ((p : Int) = 0 ∨ rd R ((p : Int) - 1) = 10) from fun h => h.elim (fun h => by omega) (fun h => hnl (.inr (by rw [e]; exact h)))), Bool.false_or, e]
        · rw [if_neg e]
          congr 1
          symm
          rw [Bool.or_eq_true]
          left
          refine decide_eq_true ?_
          by_cases hb : (p : Int) = 0 ∨ rd R ((p : Int) - 1) = 10
          · exact hb
          · exfalso
            obtain ⟨q', rfl⟩ : ∃ q', p = q' + 1 := ⟨p - 1, by have : p ≠ 0 := fun e => hb (.inl (by omega)); omega⟩
            have hq : ¬ ((q' : Int) = R.length ∨ rd R q' = 10) := fun h => h.elim (fun h => by omega) (fun h => hb (.inr (by rw [show ((q' + 1 : Nat) : Int) - 1 = q' by omega]; exact h)))
            have hcq := cellAt_rune (big := big) hq
            have hi2 : idx R big (q' + 1) = idx R big q' + 1 := by
              unfold idx
              simp only [cellsTo, List.length_append]
              rw [hcq]; rfl
            have hx := at_idx (p := q') (by omega) hcq
            have := rd_ats (k := k - 1) (by omega) hx
            rw [g2] at this
            simp only at this
            omega
theorem edge_end (hR : R.length ≤ 4000) {k : Int} (h0 : 0 ≤ k) (h1 : k < (cellsOf R big).length) : quillref10_edge.f (atsOf (cellsOf R big)) (clsOf (cellsOf R big)) k 1 = some (eP R big (rd_T142 (cellsOf R big) k)) := by
  obtain ⟨p, hp, hi, c, hc, e1, e2, e3, hf⟩ := cell_at h0 h1
  have hl : ((cellsOf R big).length : Int) ≤ R.length + 1 := by have := cellsTo_len R big (R.length + 1); unfold cellsOf; omega
  have hla := atsOf_len (cellsOf R big)
  have hlc := clsOf_len (cellsOf R big)
  unfold quillref10_edge.f eP
  rw [if_pos h0, if_pos (by omega), e1, e3]
  by_cases hz : c.f1 = 0
  · rw [if_pos hz, hz, decide_eq_false (by simp)]; rfl
  · rw [if_neg hz, decide_eq_true hz, Bool.true_and]
    unfold cellAt at hc
    split at hc
    · split at hc
      · obtain rfl := (List.cons.inj hc).1; rfl
      · cases hc
    · rename_i hpn
      have hc0 := cellAt_rune (big := big) hpn
      obtain rfl := (List.cons.inj hc).1
      have hcr := clsb_range big (wrap64 (rd R p))
      have hpl : (p : Int) < R.length := by have : (p : Int) ≠ R.length := fun e => hpn (.inl e); omega
      have hi2 : idx R big (p + 1) = idx R big p + 1 := by
        unfold idx
        simp only [cellsTo, List.length_append]
        rw [hc0]; rfl
      simp only
      rw [if_neg (show ¬ clsb big (wrap64 (rd R p)) = 3 by omega), w64 (x := k + 1) (by omega) (by omega), if_neg (by omega)]
      by_cases hlast : (p : Int) + 1 = R.length ∨ rd R ((p : Int) + 1) = 10
      · rw [decide_eq_true hlast, Bool.true_or]
        by_cases hk : k + 1 ≥ ((atsOf (cellsOf R big)).length : Int)
        · rw [if_pos hk]
        · rw [if_neg hk, if_pos (by omega), if_pos (by omega), if_pos (by omega), e2, w64 (x := (p : Int) + 1) (by omega) (by omega)]
          obtain ⟨q, hq1, hq2, c', hc', -, g2, g3, hf'⟩ := cell_at (R := R) (big := big) (k := k + 1) (by omega) (by omega)
          rw [g2]
          refine if_neg (fun e => ?_)
          obtain rfl : q = p + 1 := by omega
          rw [cellAt_none (by rw [show ((p + 1 : Nat) : Int) = (p : Int) + 1 by omega]; exact hlast) (fun h => h.elim (fun h => by omega) (fun h => hpn (.inr (by rw [show ((p + 1 : Nat) : Int) - 1 = p by omega] at h; exact h))))] at hc'
          cases hc'
      · have hq : ¬ (((p + 1 : Nat) : Int) = R.length ∨ rd R ((p + 1 : Nat) : Int) = 10) := by rw [show ((p + 1 : Nat) : Int) = (p : Int) + 1 by omega]; exact hlast
        have hcq := cellAt_rune (big := big) hq
        have hx := at_idx (p := p + 1) (by omega) hcq
        have hlt : idx R big (p + 1) < (cellsOf R big).length := (List.getElem?_eq_some_iff.1 hx).1
        rw [if_neg (by omega), if_pos (by omega), if_pos (by omega), if_pos (by omega), e2, w64 (x := (p : Int) + 1) (by omega) (by omega), rd_ats (k := k + 1) (by omega) hx, if_pos (by simp), if_pos (by omega), rd_cls (k := k + 1) (by omega) hx, decide_eq_false hlast, Bool.false_or]
        simp only [show ((p + 1 : Nat) : Int) = (p : Int) + 1 by omega]
theorem cells_pos (R : List Int) (big : Bool) : 1 ≤ (cellsOf R big).length := by
  obtain ⟨t, ht⟩ := cellsTo_prefix (R := R) (big := big) 1 R.length
  unfold cellsOf
  rw [Nat.add_comm, ht, List.length_append]
  have : (cellsTo R big 1).length = 1 := by
    simp only [cellsTo, List.nil_append]
    by_cases h : ((0 : Nat) : Int) = R.length ∨ rd R ((0 : Nat) : Int) = 10
    · rw [cellAt_bare h (.inl rfl)]; rfl
    · rw [cellAt_rune h]; rfl
  omega
end
end Go.Proofs.YtbgmmcngkdhpcaaDoor.P
end
section
namespace Go.Proofs.YtbgmmcngkdhpcaaDoor.P
open Go.RowKit Go.Proofs.YtbgmmcngkdhpcaaDoor Go.Proofs.YtbgmmcngkdhpcaaDoorW.PrintWords Go.Proofs.YtbgmmcngkdhpcaaDoorW.PrintLast Go.Proofs.YtbgmmcngkdhpcaaDoorW.PrintMore
/-- Is a number in a list? -/
def WordB (key : Int) : Bool := decide (key ∈ ([119, 98, 101, 87, 66, 69] : List Int))
theorem word_ref (key : Int) : Ev (fun k => quillref10_Word.f k key) (WordB key) := by
  obtain ⟨v, h1, h2⟩ := in_ev [119, 98, 101, 87, 66, 69] key (by decide)
  unfold quillref10_Word.f
  refine Ev.bind h1 ?_
  have e : decide (v ≥ 0) = WordB key := by unfold WordB; exact decide_eq_decide.2 h2
  rw [e]
  exact Ev.now _
set_option maxRecDepth 100000 in
theorem word_tab : ∀ n : Fin 128, decide (0 ≤ Lib.indexByte [119, 98, 101, 87, 66, 69] n.val.toUInt8) = WordB (n.val : Int) := by decide
theorem word_prog {key : Int} (h0 : 0 ≤ key) (h1 : key ≤ 127) : strings_ContainsRune.f (⟨#[119, 98, 101, 87, 66, 69]⟩ : ByteArray) (wrap32 key) = some (WordB key) := by
  have e : wrap32 key = key := by unfold wrap32; omega
  unfold strings_ContainsRune.f
  rw [e, if_pos ⟨h0, by omega⟩]
  have := word_tab ⟨key.toNat, by omega⟩
  rw [show ((key.toNat : Nat) : Int) = key by omega] at this
  exact congrArg some this
section
variable {R : List Int} {big : Bool}
theorem cells_nonneg {c : S142} (h : c ∈ cellsOf R big) : 0 ≤ c.f0 := by
  obtain ⟨k, hk⟩ := List.getElem?_of_mem h
  have hl := (List.getElem?_eq_some_iff.1 hk).1
  obtain ⟨p, -, -, c', -, e, -, -, hf⟩ := cell_at (R := R) (big := big) (k := k) (by omega) (by omega)
  rw [rd_cell rfl hk] at e
  rw [e, hf]
  omega
theorem cells_le (R : List Int) (big : Bool) : (cellsOf R big).length ≤ R.length + 1 := cellsTo_len R big (R.length + 1)
theorem rd_at {l : List S142} {k : Int} (h0 : 0 ≤ k) (h1 : k < l.length) : rd (atsOf l) k = (rd_T142 l k).f0 := by
  obtain ⟨j, rfl⟩ := Int.eq_ofNat_of_zero_le h0
  have hj : l[j]? = some l[j] := List.getElem?_eq_getElem (by omega)
  rw [rd_ats rfl hj, rd_cell rfl hj]
def fwd (P : S142 → Bool) (l : List S142) (at_ : Int) : Int := match l.find? (fun c => decide (at_ < c.f0) && P c) with
  | some c => c.f0
  | none => (rd_T142 l ((l.length : Int) - 1)).f0
def bwd (P : S142 → Bool) (l : List S142) (at_ : Int) : Int := match l.reverse.find? (fun c => decide (c.f0 < at_) && P c) with
  | some c => c.f0
  | none => (rd_T142 l 0).f0
theorem behind_begins_loop (hR : R.length ≤ 4000) (at_ : Int) (d : Nat) : ∀ i : Nat, i + d = (cellsOf R big).length →
    Ev (fun k => words_behind_begins.l0 k (cellsOf R big) at_ (cellsOf R big) ((cellsOf R big).length : Int) (i : Int))
      (match ((cellsOf R big).drop i).find? (fun c => decide (at_ < c.f0) && bP R big c) with | some c => c.f0 | none => (rd_T142 (cellsOf R big) (((cellsOf R big).length : Int) - 1)).f0) := by
  have hp := cells_pos R big
  have hl := cells_le R big
  induction d with
  | zero =>
    intro i hi
    refine ev_succ fun k => ?_
    simp only [words_behind_begins.l0]
    rw [List.drop_eq_nil_of_le (by omega), if_neg (by omega), w64 (x := ((cellsOf R big).length : Int) - 1) (by omega) (by omega), if_pos (by omega), if_pos (by omega)]
    rfl
  | succ d ih =>
    intro i hi
    have hlt : i < (cellsOf R big).length := by omega
    have h2 := ih (i + 1) (by omega)
    have hb := begins_prog (R := R) (big := big) hR (k := i) (by omega) (by omega)
    have hc : (cellsOf R big)[i]? = some (cellsOf R big)[i] := List.getElem?_eq_getElem hlt
    rw [rd_cell rfl hc] at hb
    rw [List.drop_eq_getElem_cons hlt, List.find?_cons]
    generalize (cellsOf R big)[i] = c at hb hc ⊢
    refine ev_shift ?_
    simp only [words_behind_begins.l0]
    rw [rd_cell rfl hc]
    have e1 : wrap64 ((i : Int) + 1) = ((i + 1 : Nat) : Int) := by rw [w64 (by omega) (by omega)]; omega
    rw [e1]
    refine ev_pos (by omega) (ev_pos (by omega) (ev_pos (by omega) ?_))
    by_cases h : at_ < c.f0
    · refine ev_pos h (ev_bindc hb ?_)
      rw [decide_eq_true h, Bool.true_and]
      cases hP : bP R big c
      · exact ev_neg (by decide) h2
      · exact ev_pos rfl (Ev.now _)
    · rw [decide_eq_false h, Bool.false_and]
      exact ev_neg h h2
theorem behind_begins_ev (hR : R.length ≤ 4000) (at_ : Int) : Ev (fun k => words_behind_begins.f k (cellsOf R big) at_) (fwd (bP R big) (cellsOf R big) at_) := by
  have h := behind_begins_loop (R := R) (big := big) hR at_ (cellsOf R big).length 0 (by omega)
  rw [List.drop_zero] at h
  exact h
theorem behind_ends_loop (hR : R.length ≤ 4000) (at_ : Int) (d : Nat) : ∀ i : Nat, i + d = (cellsOf R big).length →
    Ev (fun k => words_behind_ends.l0 k (cellsOf R big) at_ (cellsOf R big) ((cellsOf R big).length : Int) (i : Int))
      (match ((cellsOf R big).drop i).find? (fun c => decide (at_ < c.f0) && eP R big c) with | some c => c.f0 | none => (rd_T142 (cellsOf R big) (((cellsOf R big).length : Int) - 1)).f0) := by
  have hp := cells_pos R big
  have hl := cells_le R big
  induction d with
  | zero =>
    intro i hi
    refine ev_succ fun k => ?_
    simp only [words_behind_ends.l0]
    rw [List.drop_eq_nil_of_le (by omega), if_neg (by omega), w64 (x := ((cellsOf R big).length : Int) - 1) (by omega) (by omega), if_pos (by omega), if_pos (by omega)]
    rfl
  | succ d ih =>
    intro i hi
    have hlt : i < (cellsOf R big).length := by omega
    have h2 := ih (i + 1) (by omega)
    have hb := ends_prog (R := R) (big := big) hR (k := i) (by omega) (by omega)
    have hc : (cellsOf R big)[i]? = some (cellsOf R big)[i] := List.getElem?_eq_getElem hlt
    rw [rd_cell rfl hc] at hb
    rw [List.drop_eq_getElem_cons hlt, List.find?_cons]
    generalize (cellsOf R big)[i] = c at hb hc ⊢
    refine ev_shift ?_
    simp only [words_behind_ends.l0]
    rw [rd_cell rfl hc]
    have e1 : wrap64 ((i : Int) + 1) = ((i + 1 : Nat) : Int) := by rw [w64 (by omega) (by omega)]; omega
    rw [e1]
    refine ev_pos (by omega) (ev_pos (by omega) (ev_pos (by omega) ?_))
    by_cases h : at_ < c.f0
    · refine ev_pos h (ev_bindc hb ?_)
      rw [decide_eq_true h, Bool.true_and]
      cases hP : eP R big c
      · exact ev_neg (by decide) h2
      · exact ev_pos rfl (Ev.now _)
    · rw [decide_eq_false h, Bool.false_and]
      exact ev_neg h h2
theorem behind_ends_ev (hR : R.length ≤ 4000) (at_ : Int) : Ev (fun k => words_behind_ends.f k (cellsOf R big) at_) (fwd (eP R big) (cellsOf R big) at_) := by
  have h := behind_ends_loop (R := R) (big := big) hR at_ (cellsOf R big).length 0 (by omega)
  rw [List.drop_zero] at h
  exact h
theorem ahead_loop (hR : R.length ≤ 4000) (at_ : Int) (d : Nat) : d ≤ (cellsOf R big).length →
    Ev (fun k => words_ahead.l0 k (cellsOf R big) at_ ((d : Int) - 1))
      (match ((cellsOf R big).take d).reverse.find? (fun c => decide (c.f0 < at_) && bP R big c) with | some c => c.f0 | none => (rd_T142 (cellsOf R big) 0).f0) := by
  have hp := cells_pos R big
  have hl := cells_le R big
  induction d with
  | zero =>
    intro _
    refine ev_succ fun k => ?_
    simp only [words_ahead.l0]
    rw [if_neg (by omega), if_pos (by omega)]
    rfl
  | succ d ih =>
    intro hd
    have hlt : d < (cellsOf R big).length := by omega
    have h2 := ih (by omega)
    have hb := begins_prog (R := R) (big := big) hR (k := d) (by omega) (by omega)
    have hc : (cellsOf R big)[d]? = some (cellsOf R big)[d] := List.getElem?_eq_getElem hlt
    rw [rd_cell rfl hc] at hb
    rw [List.take_succ_eq_append_getElem hlt, List.reverse_append, List.reverse_singleton, List.singleton_append, List.find?_cons]
    generalize (cellsOf R big)[d] = c at hb hc ⊢
    refine ev_shift ?_
    simp only [words_ahead.l0]
    rw [show ((d + 1 : Nat) : Int) - 1 = d by omega, rd_cell rfl hc, w64 (x := (d : Int) - 1) (by omega) (by omega)]
    refine ev_pos (by omega) (ev_pos (by omega) (ev_pos (by omega) ?_))
    by_cases h : c.f0 < at_
    · refine ev_pos h (ev_bindc hb ?_)
      rw [decide_eq_true h, Bool.true_and]
      cases hP : bP R big c
      · exact ev_neg (by decide) h2
      · exact ev_pos rfl (Ev.now _)
    · rw [decide_eq_false h, Bool.false_and]
      exact ev_neg h h2
theorem ahead_ev (hR : R.length ≤ 4000) (at_ : Int) : Ev (fun k => words_ahead.f k (cellsOf R big) at_) (bwd (bP R big) (cellsOf R big) at_) := by
  have hl := cells_le R big
  have h := ahead_loop (R := R) (big := big) hR at_ (cellsOf R big).length (Nat.le_refl _)
  rw [List.take_length] at h
  unfold words_ahead.f
  rw [w64 (by omega) (by omega)]
  exact h
/-! ### the document's searches -/
def ender (x1 x13 : Int) : Option (Int × Int) := if x13 = x1 then some (0, 6) else some (x13, 0)
theorem ref_fwd (hR : R.length ≤ 4000) (P : S142 → Bool) (by_ x1 x3 low here n : Int) {r : Int × Int}
    (hP : ∀ k : Int, 0 ≤ k → k < (cellsOf R big).length → quillref10_edge.f (atsOf (cellsOf R big)) (clsOf (cellsOf R big)) k by_ = some (P (rd_T142 (cellsOf R big) k)))
    (H : Ev (fun k => if fwd P (cellsOf R big) here = here then (if here = x1 then some (0, 6) else some (here, 0)) else quillref10_Move.l0 k x1 x3 (atsOf (cellsOf R big)) (clsOf (cellsOf R big)) low (fwd P (cellsOf R big) here) (wrap64 (n + 1))) r) (d : Nat) : d ≤ (cellsOf R big).length →
    Ev (fun k => quillref10_Move.l1 k x1 x3 (atsOf (cellsOf R big)) (clsOf (cellsOf R big)) low here n (match ((cellsOf R big).drop d).find? (fun c => decide (here < c.f0) && P c) with | some c => c.f0 | none => -1) by_ ((d : Int) - 1)) r := by
  have hp := cells_pos R big
  have hl := cells_le R big
  have hla := atsOf_len (cellsOf R big)
  induction d with
  | zero =>
    intro _
    refine ev_shift ?_
    simp only [quillref10_Move.l1]
    refine ev_neg (by omega) ?_
    rw [List.drop_zero]
    unfold fwd at H
    cases hf : (cellsOf R big).find? (fun c => decide (here < c.f0) && P c) with
    | none =>
      rw [hf] at H
      rw [w64 (x := ((atsOf (cellsOf R big)).length : Int) - 1) (by omega) (by omega), hla, rd_at (by omega) (by omega)]
      refine ev_pos (by decide) (ev_pos (by omega) (ev_pos (by omega) ?_))
      simp only at H
      exact H
    | some c =>
      rw [hf] at H
      have hc := cells_nonneg (List.mem_of_find?_eq_some hf)
      refine ev_neg (by simp only; omega) ?_
      simp only at H ⊢
      by_cases e : c.f0 = here
      · rw [e] at H ⊢
        exact H
      · exact H
  | succ d ih =>
    intro hd
    have hlt : d < (cellsOf R big).length := by omega
    have h2 := ih (by omega)
    have hb := hP d (by omega) (by omega)
    have hc : (cellsOf R big)[d]? = some (cellsOf R big)[d] := List.getElem?_eq_getElem hlt
    rw [rd_cell rfl hc] at hb
    rw [List.drop_eq_getElem_cons hlt, List.find?_cons] at h2
    generalize (cellsOf R big)[d] = c at hb hc h2
    refine ev_shift ?_
    simp only [quillref10_Move.l1]
    rw [show ((d + 1 : Nat) : Int) - 1 = d by omega, rd_ats rfl hc, w64 (x := (d : Int) - 1) (by omega) (by omega)]
    refine ev_pos (by omega) (ev_pos (by omega) (ev_pos (by omega) ?_))
    by_cases h : here < c.f0
    · refine ev_pos h (ev_bindc hb ?_)
      rw [decide_eq_true h, Bool.true_and] at h2
      cases hPc : P c
      · rw [hPc] at h2
        exact ev_neg (by decide) h2
      · rw [hPc] at h2
        exact ev_pos rfl h2
    · rw [decide_eq_false h, Bool.false_and] at h2
      exact ev_neg h h2
theorem ref_bwd (hR : R.length ≤ 4000) (x1 x3 low here n : Int) {r : Int × Int}
    (H : Ev (fun k => if bwd (bP R big) (cellsOf R big) here = here then (if here = x1 then some (0, 6) else some (here, 0)) else quillref10_Move.l0 k x1 x3 (atsOf (cellsOf R big)) (clsOf (cellsOf R big)) low (bwd (bP R big) (cellsOf R big) here) (wrap64 (n + 1))) r) (d : Nat) : ∀ i : Nat, i + d = (cellsOf R big).length →
    Ev (fun k => quillref10_Move.l2 k x1 x3 (atsOf (cellsOf R big)) (clsOf (cellsOf R big)) low here n (match ((cellsOf R big).take i).reverse.find? (fun c => decide (c.f0 < here) && bP R big c) with | some c => c.f0 | none => -1) (i : Int)) r := by
  have hp := cells_pos R big
  have hl := cells_le R big
  have hla := atsOf_len (cellsOf R big)
  induction d with
  | zero =>
    intro i hi
    refine ev_shift ?_
    simp only [quillref10_Move.l2]
    refine ev_neg (by omega) ?_
    rw [List.take_of_length_le (by omega)]
    unfold bwd at H
    cases hf : (cellsOf R big).reverse.find? (fun c => decide (c.f0 < here) && bP R big c) with
    | none =>
      rw [hf] at H
      rw [rd_at (by omega) (by omega)]
      refine ev_pos (by decide) (ev_pos (by omega) ?_)
      simp only at H
      exact H
    | some c =>
      rw [hf] at H
      have hc := cells_nonneg (List.mem_reverse.1 (List.mem_of_find?_eq_some hf))
      refine ev_neg (by simp only; omega) ?_
      simp only at H ⊢
      exact H
  | succ d ih =>
    intro i hi
    have hlt : i < (cellsOf R big).length := by omega
    have h2 := ih (i + 1) (by omega)
    have hb := edge_begin (R := R) (big := big) hR (k := i) (by omega) (by omega)
    have hc : (cellsOf R big)[i]? = some (cellsOf R big)[i] := List.getElem?_eq_getElem hlt
    rw [rd_cell rfl hc] at hb
    rw [List.take_succ_eq_append_getElem hlt, List.reverse_append, List.reverse_singleton, List.singleton_append, List.find?_cons] at h2
    generalize (cellsOf R big)[i] = c at hb hc h2
    have e1 : wrap64 ((i : Int) + 1) = ((i + 1 : Nat) : Int) := by rw [w64 (by omega) (by omega)]; omega
    refine ev_shift ?_
    simp only [quillref10_Move.l2]
    rw [rd_ats rfl hc, e1]
    refine ev_pos (by omega) (ev_pos (by omega) ?_)
    by_cases h : c.f0 < here
    · refine ev_pos h (ev_bindc hb ?_)
      rw [decide_eq_true h, Bool.true_and] at h2
      cases hPc : bP R big c
      · rw [hPc] at h2
        exact ev_neg (by decide) h2
      · rw [hPc] at h2
        exact ev_pos rfl h2
    · rw [decide_eq_false h, Bool.false_and] at h2
      exact ev_neg h h2
/-! ### so many times -/
def iter (g : Int → Int) (from_ : Int) : Nat → Int → Int × Int
  | 0, here => if here = from_ then (0, 6) else (here, 0)
  | d + 1, here => if g here = here then (if here = from_ then (0, 6) else (here, 0)) else iter g from_ d (g here)
theorem ev_end (here from_ : Int) : Ev (fun _ => if here = from_ then some ((0 : Int), (6 : Int)) else some (here, 0)) (if here = from_ then (0, 6) else (here, 0)) := by
  by_cases e : here = from_
  · rw [if_pos e, if_pos e]; exact Ev.now _
  · rw [if_neg e, if_neg e]; exact Ev.now _
/-- Where a key leads, once. -/
def once (R : List Int) (key : Int) (here : Int) : Int :=
  if key = 119 ∨ key = 87 then fwd (bP R (decide (key < 97))) (cellsOf R (decide (key < 97))) here
  else if key = 98 ∨ key = 66 then bwd (bP R (decide (key < 97))) (cellsOf R (decide (key < 97))) here
  else fwd (eP R (decide (key < 97))) (cellsOf R (decide (key < 97))) here
theorem prog_iter (hR : R.length ≤ 4000) (from_ key count : Int) (hc : count ≤ 999) (d : Nat) : ∀ (n here : Int), 0 ≤ n → n + d = count →
    Ev (fun k => words_Move.l0 k from_ key (cellsOf R (decide (key < 97))) here count n) (iter (once R key) from_ d here) := by
  induction d with
  | zero =>
    intro n here h0 h1
    refine ev_shift ?_
    simp only [words_Move.l0, iter]
    exact ev_neg (by omega) (ev_end _ _)
  | succ d ih =>
    intro n here h0 h1
    have step : ∀ t : Int, t = once R key here → Ev (fun k => if t = here then (if t = from_ then some (0, 6) else some (t, 0)) else words_Move.l0 k from_ key (cellsOf R (decide (key < 97))) t count (wrap64 (n + 1))) (iter (once R key) from_ (d + 1) here) := by
      rintro t rfl
      simp only [iter]
      by_cases e : once R key here = here
      · rw [if_pos e]
        refine ev_pos e ?_
        rw [e]
        exact ev_end _ _
      · rw [if_neg e, w64 (x := n + 1) (by omega) (by omega)]
        exact ev_neg e (ih (n + 1) (once R key here) (by omega) (by omega))
    refine ev_shift ?_
    simp only [words_Move.l0]
    refine ev_pos (by omega) ?_
    have jb : (key = 119 ∨ key = 87) → Ev (fun k => words_Move.j2 k from_ key (cellsOf R (decide (key < 97))) here here count n key true) (iter (once R key) from_ (d + 1) here) := by
      intro hk
      refine ev_shift ?_
      simp only [words_Move.j2]
      refine ev_pos (by decide) (Ev.bind (behind_begins_ev hR here) (step _ ?_))
      unfold once
      rw [if_pos hk]
    by_cases e : key = 119
    · refine ev_pos e ?_
      rw [show (key == 119) = true from beq_iff_eq.2 e]
      exact jb (.inl e)
    · refine ev_neg e ?_
      by_cases e2 : key = 87
      · rw [show (key == 87) = true from beq_iff_eq.2 e2]
        exact jb (.inr e2)
      · rw [show (key == 87) = false from beq_eq_false_iff_ne.2 e2]
        refine ev_shift ?_
        simp only [words_Move.j2]
        refine ev_neg (by decide) ?_
        have ja : (key = 98 ∨ key = 66) → Ev (fun k => words_Move.j3 k from_ key (cellsOf R (decide (key < 97))) here here count n true) (iter (once R key) from_ (d + 1) here) := by
          intro hk
          refine ev_shift ?_
          simp only [words_Move.j3]
          refine ev_pos (by decide) (Ev.bind (ahead_ev hR here) (step _ ?_))
          unfold once
          rw [if_neg (fun h => h.elim e e2), if_pos hk]
        by_cases e3 : key = 98
        · refine ev_pos e3 ?_
          rw [show (key == 98) = true from beq_iff_eq.2 e3]
          exact ja (.inl e3)
        · refine ev_neg e3 ?_
          by_cases e4 : key = 66
          · rw [show (key == 66) = true from beq_iff_eq.2 e4]
            exact ja (.inr e4)
          · rw [show (key == 66) = false from beq_eq_false_iff_ne.2 e4]
            refine ev_shift ?_
            simp only [words_Move.j3]
            refine ev_neg (by decide) (Ev.bind (behind_ends_ev hR here) (step _ ?_))
            unfold once
            rw [if_neg (fun h => h.elim e e2), if_neg (fun h => h.elim e3 e4)]
theorem ref_iter (hR : R.length ≤ 4000) (from_ key count low : Int) (hc : count ≤ 999) (hlow : (low = 119 ↔ (key = 119 ∨ key = 87)) ∧ (low = 101 ↔ ¬ (key = 119 ∨ key = 87) ∧ ¬ (key = 98 ∨ key = 66))) (d : Nat) : ∀ (n here : Int), 0 ≤ n → n + d = count →
    Ev (fun k => quillref10_Move.l0 k from_ count (atsOf (cellsOf R (decide (key < 97)))) (clsOf (cellsOf R (decide (key < 97)))) low here n) (iter (once R key) from_ d here) := by
  have hp := cells_pos R (decide (key < 97))
  have hl := cells_le R (decide (key < 97))
  have hla := atsOf_len (cellsOf R (decide (key < 97)))
  induction d with
  | zero =>
    intro n here h0 h1
    refine ev_shift ?_
    simp only [quillref10_Move.l0, iter]
    exact ev_neg (by omega) (ev_end _ _)
  | succ d ih =>
    intro n here h0 h1
    have step : ∀ t : Int, t = once R key here → Ev (fun k => if t = here then (if here = from_ then some (0, 6) else some (here, 0)) else quillref10_Move.l0 k from_ count (atsOf (cellsOf R (decide (key < 97)))) (clsOf (cellsOf R (decide (key < 97)))) low t (wrap64 (n + 1))) (iter (once R key) from_ (d + 1) here) := by
      rintro t rfl
      simp only [iter]
      by_cases e : once R key here = here
      · rw [if_pos e]
        exact ev_pos e (ev_end _ _)
      · rw [if_neg e, w64 (x := n + 1) (by omega) (by omega)]
        exact ev_neg e (ih (n + 1) (once R key here) (by omega) (by omega))
    have h3 : wrap64 (((atsOf (cellsOf R (decide (key < 97)))).length : Int) - 1) = (((cellsOf R (decide (key < 97))).length : Nat) : Int) - 1 := by rw [w64 (by omega) (by omega), hla]
    refine ev_shift ?_
    simp only [quillref10_Move.l0]
    refine ev_pos (by omega) ?_
    by_cases e : low = 119
    · refine ev_pos e ?_
      rw [show (low == 119) = true from beq_iff_eq.2 e]
      refine ev_shift ?_
      simp only [quillref10_Move.j2]
      refine ev_pos (by decide) (ev_neg (by omega) ?_)
      refine ev_shift ?_
      simp only [quillref10_Move.j3]
      rw [h3]
      have h4 := ref_fwd (R := R) (big := decide (key < 97)) hR (bP R (decide (key < 97))) (-1) from_ count low here n (fun k a b => edge_begin hR a b) (step _ (by unfold once; rw [if_pos (hlow.1.1 e)])) (cellsOf R (decide (key < 97))).length (Nat.le_refl _)
      rw [List.drop_length] at h4
      exact h4
    · refine ev_neg e ?_
      by_cases e2 : low = 101
      · rw [show (low == 101) = true from beq_iff_eq.2 e2]
        refine ev_shift ?_
        simp only [quillref10_Move.j2]
        refine ev_pos (by decide) (ev_pos e2 ?_)
        refine ev_shift ?_
        simp only [quillref10_Move.j3]
        rw [h3]
        have h4 := ref_fwd (R := R) (big := decide (key < 97)) hR (eP R (decide (key < 97))) 1 from_ count low here n (fun k a b => edge_end hR a b) (step _ (by unfold once; rw [if_neg (hlow.2.1 e2).1, if_neg (hlow.2.1 e2).2])) (cellsOf R (decide (key < 97))).length (Nat.le_refl _)
        rw [List.drop_length] at h4
        exact h4
      · rw [show (low == 101) = false from beq_eq_false_iff_ne.2 e2]
        refine ev_shift ?_
        simp only [quillref10_Move.j2]
        refine ev_neg (by decide) ?_
        have hn : ¬ (key = 119 ∨ key = 87) := fun h => e (hlow.1.2 h)
        have hb : key = 98 ∨ key = 66 := Classical.byContradiction fun h => e2 (hlow.2.2 ⟨hn, h⟩)
        have h4 := ref_bwd (R := R) (big := decide (key < 97)) hR from_ count low here n (step _ (by unfold once; rw [if_neg hn, if_pos hb])) (cellsOf R (decide (key < 97))).length 0 (by omega)
        exact h4
theorem move_ref (hR : R.length ≤ 4000) {at_ key count : Int} (hk : WordB key = true) (h0 : 1 ≤ count) (h1 : count ≤ 999) : Ev (fun k => quillref10_Move.f k R at_ key count) (iter (once R key) at_ count.toNat at_) := by
  have hkey : key ∈ ([119, 98, 101, 87, 66, 69] : List Int) := of_decide_eq_true hk
  simp only [List.mem_cons, List.mem_nil_iff, or_false] at hkey
  unfold quillref10_Move.f
  refine Ev.bind (cells_ref hR _) ?_
  by_cases hb : key < 97
  · refine ev_pos hb ?_
    rw [w64 (x := key + 97) (by omega) (by omega), w64 (x := key + 97 - 65) (by omega) (by omega)]
    refine ev_shift ?_
    simp only [quillref10_Move.j0]
    exact ref_iter hR at_ key count (key + 97 - 65) h1 (by omega) count.toNat 0 at_ (by omega) (by omega)
  · refine ev_neg hb ?_
    refine ev_shift ?_
    simp only [quillref10_Move.j0]
    exact ref_iter hR at_ key count key h1 (by omega) count.toNat 0 at_ (by omega) (by omega)
end
/-- Is it a motion by words that may be? -/
def MoveOk (s : ByteArray) (at_ key count : Int) : Bool := MayB s && decide (0 ≤ at_ ∧ at_ ≤ (runesOf s).length) && WordB key && decide (1 ≤ count ∧ count ≤ 999)
def MoveIs (s : ByteArray) (at_ key count : Int) : Int × Int := if MoveOk s at_ key count = true then iter (once (runesOf s) key) at_ count.toNat at_ else (0, 1)
theorem move_bad (s : ByteArray) (at_ key count : Int) : Ev (fun k => words_Move.j0 k s at_ key count true) (0, 1) := ev_succ fun k => by simp only [words_Move.j0]; rfl
theorem MayB_size {s : ByteArray} (h : MayB s = true) : s.size ≤ 4000 := by
  unfold MayB at h
  simp only [Bool.and_eq_true, decide_eq_true_eq] at h
  exact h.1.1
theorem move_prog (s : ByteArray) (hs : s.size ≤ 9223372036854775807) (at_ key count : Int) : Ev (fun k => words_Move.f k s at_ key count) (MoveIs s at_ key count) := by
  unfold words_Move.f
  refine ev_bindc (may_prog s hs) ?_
  unfold MoveIs
  cases hm : MayB s
  · rw [if_neg (by unfold MoveOk; rw [hm]; simp)]
    exact ev_neg (by decide) (move_bad ..)
  · refine ev_pos rfl ?_
    have hsz := MayB_size hm
    have hn := runesOf_len s
    by_cases c1 : count < 1
    · rw [if_neg (by unfold MoveOk; rw [decide_eq_false (show ¬ (1 ≤ count ∧ count ≤ 999) by omega)]; simp)]
      exact ev_pos c1 (move_bad ..)
    · refine ev_neg c1 ?_
      by_cases c2 : count > 999
      · rw [if_neg (by unfold MoveOk; rw [decide_eq_false (show ¬ (1 ≤ count ∧ count ≤ 999) by omega)]; simp)]
        exact ev_pos c2 (move_bad ..)
      · refine ev_neg c2 ?_
        have hw : (key < 0 ∨ key > 127) → WordB key = false := fun h => decide_eq_false fun hkey => by
          simp only [List.mem_cons, List.mem_nil_iff, or_false] at hkey
          omega
        by_cases c3 : key < 0
        · rw [if_neg (by unfold MoveOk; rw [hw (.inl c3)]; simp)]
          exact ev_pos c3 (move_bad ..)
        · refine ev_neg c3 ?_
          by_cases c4 : key > 127
          · rw [if_neg (by unfold MoveOk; rw [hw (.inr c4)]; simp)]
            exact ev_pos c4 (move_bad ..)
          · refine ev_neg c4 (ev_bindc (word_prog (by omega) (by omega)) ?_)
            cases hk : WordB key
            · rw [if_neg (by unfold MoveOk; rw [hk]; simp)]
              exact move_bad ..
            · refine ev_shift ?_
              simp only [words_Move.j0]
              refine ev_neg (by decide) ?_
              obtain ⟨B, h1, h2⟩ := of_ev s hsz
              refine Ev.bind h1 ?_
              have his : text_Map_Is.f (runesOf s) B at_ = some (decide (0 ≤ at_ ∧ at_ ≤ (runesOf s).length)) := by
                unfold text_Map_Is.f
                by_cases ha : at_ ≥ 0
                · rw [if_pos ha]
                  congr 1
                  exact decide_eq_decide.2 ⟨fun h => ⟨ha, h⟩, fun h => h.2⟩
                · rw [if_neg ha, decide_eq_false (show ¬ (0 ≤ at_ ∧ at_ ≤ ((runesOf s).length : Int)) by omega)]
              refine ev_bindc his ?_
              by_cases ha : 0 ≤ at_ ∧ at_ ≤ ((runesOf s).length : Int)
              · rw [decide_eq_true ha, if_pos (by unfold MoveOk; rw [hm, hk, decide_eq_true ha, decide_eq_true (show 1 ≤ count ∧ count ≤ 999 by omega)]; rfl)]
                refine ev_pos rfl (Ev.bind (cells_prog s hsz _) ?_)
                exact prog_iter (by omega) at_ key count (by omega) count.toNat 0 at_ (by omega) (by omega)
              · rw [decide_eq_false ha, if_neg (by unfold MoveOk; rw [decide_eq_false ha]; simp)]
                exact ev_neg (by decide) (Ev.now _)
end Go.Proofs.YtbgmmcngkdhpcaaDoor.P
end
section
namespace Go.Proofs.YtbgmmcngkdhpcaaDoor.P
open Go.RowKit Go.Proofs.YtbgmmcngkdhpcaaDoor Go.Proofs.YtbgmmcngkdhpcaaDoorW.PrintWords Go.Proofs.YtbgmmcngkdhpcaaDoorW.PrintLast Go.Proofs.YtbgmmcngkdhpcaaDoorW.PrintMore
/-! ### brackets -/
/-- Which kind of bracket, and which way its mate is. -/
def kd (r : Int) : Int × Int :=
  if r = 40 then (0, 1) else if r = 91 then (1, 1) else if r = 123 then (2, 1) else if r = 41 then (0, -1) else if r = 93 then (1, -1) else if r = 125 then (2, -1) else (0, 0)
theorem kind_small : ∀ n : Fin 128, pairs_kind.f ((n.val : Nat) : Int) = some (kd ((n.val : Nat) : Int)) := by decide +kernel
theorem kind_eq (r : Int) : pairs_kind.f r = some (kd r) := by
  by_cases h : 0 ≤ r ∧ r < 128
  · have := kind_small ⟨r.toNat, by omega⟩
    rw [show (((⟨r.toNat, by omega⟩ : Fin 128).val : Nat) : Int) = r by show ((r.toNat : Nat) : Int) = r; omega] at this
    exact this
  · have e : ∀ l : ByteArray, l = (⟨#[40, 91, 123]⟩ : ByteArray) ∨ l = (⟨#[41, 93, 125]⟩ : ByteArray) → strings_IndexRune.f l r = some (-1) := by
      rintro l (rfl | rfl)
      · have e : strings_IndexRune.f ⟨#[40, 91, 123]⟩ r = (if (40 : UInt8).toNat < 128 ∧ (91 : UInt8).toNat < 128 ∧ (123 : UInt8).toNat < 128 then some (if 0 ≤ r ∧ r < 128 then Lib.indexByte [40, 91, 123] r.toNat.toUInt8 else -1) else none) := rfl
        rw [e, if_pos (by decide), if_neg h]
      · have e : strings_IndexRune.f ⟨#[41, 93, 125]⟩ r = (if (41 : UInt8).toNat < 128 ∧ (93 : UInt8).toNat < 128 ∧ (125 : UInt8).toNat < 128 then some (if 0 ≤ r ∧ r < 128 then Lib.indexByte [41, 93, 125] r.toNat.toUInt8 else -1) else none) := rfl
        rw [e, if_pos (by decide), if_neg h]
    unfold pairs_kind.f
    rw [e _ (.inl rfl), e _ (.inr rfl)]
    unfold kd
    rw [if_neg (by omega), if_neg (by omega), if_neg (by omega), if_neg (by omega), if_neg (by omega), if_neg (by omega)]
    rfl
def opn (k : Int) : Int := rd [40, 91, 123] k
def sht (k : Int) : Int := rd [41, 93, 125] k
def bk (r : Int) : Int × Bool :=
  if r = 40 then (0, true) else if r = 41 then (0, false) else if r = 91 then (1, true) else if r = 93 then (1, false) else if r = 123 then (2, true) else if r = 125 then (2, false) else (-1, false)
theorem bracket_ref (r : Int) : Ev (fun k => quillref12_bracket.f k r) (bk r) := by
  unfold quillref12_bracket.f
  refine ev_bindc (show quillref12_opens.f = some [40, 91, 123] from rfl) (ev_bindc (show quillref12_shuts.f = some [41, 93, 125] from rfl) ?_)
  unfold bk
  have step : ∀ (i : Int) (z : Int × Bool), 0 ≤ i → i < 3 → Ev (fun k => quillref12_bracket.l0 k r [40, 91, 123] [41, 93, 125] (i + 1)) z →
      Ev (fun k => quillref12_bracket.l0 k r [40, 91, 123] [41, 93, 125] i) (if r = opn i then (i, true) else if r = sht i then (i, false) else z) := by
    intro i z h0 h3 hz
    refine ev_shift ?_
    simp only [quillref12_bracket.l0]
    refine ev_pos h3 (ev_pos h0 (ev_pos (by simp; omega) ?_))
    by_cases h : r = opn i
    · rw [if_pos h]
      exact ev_pos h.symm (Ev.now _)
    · rw [if_neg h]
      refine ev_neg (fun z => h z.symm) (ev_pos (by simp; omega) ?_)
      by_cases h' : r = sht i
      · rw [if_pos h']
        exact ev_pos h'.symm (Ev.now _)
      · rw [if_neg h']
        refine ev_neg (fun z => h' z.symm) ?_
        rw [w64 (by omega) (by omega)]
        exact hz
  have last : Ev (fun k => quillref12_bracket.l0 k r [40, 91, 123] [41, 93, 125] (2 + 1)) ((-1 : Int), false) := ev_shift (by simp only [quillref12_bracket.l0]; exact ev_neg (by decide) (Ev.now _))
  exact step 0 _ (by decide) (by decide) (step 1 _ (by decide) (by decide) (step 2 _ (by decide) (by decide) last))
/-- How a rune of this kind's counts; 0: it is another's. -/
def dl (R : List Int) (k i : Int) : Int := if rd R i = opn k then 1 else if rd R i = sht k then -1 else 0
theorem opn_sht {k l : Int} (h0 : 0 ≤ k) (h1 : k < 3) (g0 : 0 ≤ l) (g1 : l < 3) : opn k ≠ sht l ∧ (opn k = opn l → k = l) ∧ (sht k = sht l → k = l) := by
  have e : (k = 0 ∨ k = 1 ∨ k = 2) ∧ (l = 0 ∨ l = 1 ∨ l = 2) := by omega
  obtain ⟨rfl | rfl | rfl, rfl | rfl | rfl⟩ := e <;> decide
theorem kd_open {k : Int} (h0 : 0 ≤ k) (h1 : k < 3) : kd (opn k) = (k, 1) := by
  have e : k = 0 ∨ k = 1 ∨ k = 2 := by omega
  obtain rfl | rfl | rfl := e <;> decide
theorem kd_shut {k : Int} (h0 : 0 ≤ k) (h1 : k < 3) : kd (sht k) = (k, -1) := by
  have e : k = 0 ∨ k = 1 ∨ k = 2 := by omega
  obtain rfl | rfl | rfl := e <;> decide
theorem kd_other {r k : Int} (h0 : 0 ≤ k) (h1 : k < 3) (ho : r ≠ opn k) (hs : r ≠ sht k) : (kd r).2 = 0 ∨ (kd r).1 ≠ k := by
  have e : k = 0 ∨ k = 1 ∨ k = 2 := by omega
  unfold kd
  obtain rfl | rfl | rfl := e
  all_goals
    simp only [opn, sht, rd] at ho hs
    repeat' split
    all_goals first | exact .inl rfl | (refine .inr ?_; decide) | (exfalso; first | exact ho (by assumption) | exact hs (by assumption))
section
variable {R : List Int} (hR : R.length ≤ 4000) {k0 by_ : Int} (k1 : 0 ≤ k0) (k2 : k0 < 3) (hby : by_ = 1 ∨ by_ = -1)
include hR k1 k2 hby
theorem mate_loop (d : Nat) : ∀ i deep e : Int, ((by_ = 1 ∧ i + d = R.length ∧ 0 ≤ i ∧ e = deep) ∨ (by_ = -1 ∧ i + 1 = d ∧ i < R.length ∧ e = -deep)) → -9000 + d ≤ deep → deep ≤ 9000 - d →
    ∃ m, Ev (fun k => pairs_mate.l0 k R k0 by_ deep i) m ∧ Ev (fun k => quillref12_Mate.l0 k R k0 by_ e i) m ∧ (m = -1 ∨ (0 ≤ m ∧ m < R.length ∧ (by_ = 1 → i ≤ m) ∧ (by_ = -1 → m ≤ i) ∧ (m = i → deep + dl R k0 i = 0))) := by
  induction d with
  | zero =>
    intro i deep e hi' _ _
    refine ⟨-1, ev_shift ?_, ev_shift ?_, .inl rfl⟩
    · simp only [pairs_mate.l0]
      by_cases h : i ≥ 0
      · refine ev_pos h ?_
        rw [decide_eq_false (by omega)]
        exact ev_shift (by simp only [pairs_mate.j1]; exact ev_neg (by decide) (Ev.now _))
      · exact ev_neg h (ev_shift (by simp only [pairs_mate.j1]; exact ev_neg (by decide) (Ev.now _)))
    · simp only [quillref12_Mate.l0]
      by_cases h : i ≥ 0
      · refine ev_pos h ?_
        rw [decide_eq_false (by omega)]
        exact ev_shift (by simp only [quillref12_Mate.j2]; exact ev_neg (by decide) (Ev.now _))
      · exact ev_neg h (ev_shift (by simp only [quillref12_Mate.j2]; exact ev_neg (by decide) (Ev.now _)))
  | succ d ih =>
    intro i deep e hi' hd1 hd2
    have i0 : 0 ≤ i := by omega
    have i1 : i < (R.length : Int) := by omega
    have wi : wrap64 (i + by_) = i + by_ := w64 (by omega) (by omega)
    have pre : ∀ r, Ev (fun k => if (kd (rd R i)).2 = 0 then (pairs_mate.j2 k R k0 by_ deep i (kd (rd R i)).2 false) else (pairs_mate.j2 k R k0 by_ deep i (kd (rd R i)).2 ((kd (rd R i)).1 == k0))) r → Ev (fun k => pairs_mate.l0 k R k0 by_ deep i) r := by
      intro r hr
      refine ev_shift ?_
      simp only [pairs_mate.l0]
      refine ev_pos i0 ?_
      rw [decide_eq_true i1]
      refine ev_shift ?_
      simp only [pairs_mate.j1]
      exact ev_pos (by trivial) (ev_pos i0 (ev_pos i1 (ev_bindc (kind_eq _) hr)))
    have ref0 : ∀ r, Ev (fun k => if rd R i = rd [40, 91, 123] k0 then (quillref12_Mate.j3 k R k0 by_ (wrap64 (e + by_)) i) else (quillref12_Mate.j3 k R k0 by_ e i)) r → Ev (fun k => quillref12_Mate.l0 k R k0 by_ e i) r := by
      intro r hr
      refine ev_shift ?_
      simp only [quillref12_Mate.l0]
      refine ev_pos i0 ?_
      rw [decide_eq_true i1]
      refine ev_shift ?_
      simp only [quillref12_Mate.j2]
      exact ev_pos (by trivial) (ev_pos i0 (ev_pos i1 (ev_bindc (show quillref12_opens.f = some [40, 91, 123] from rfl) (ev_pos k1 (ev_pos (by simp; omega) hr)))))
    have ref3 : ∀ x r, Ev (fun k => if rd R i = rd [41, 93, 125] k0 then (if (wrap64 (x - by_)) = 0 then (some i) else (quillref12_Mate.l0 k R k0 by_ (wrap64 (x - by_)) (wrap64 (i + by_)))) else (if x = 0 then (some i) else (quillref12_Mate.l0 k R k0 by_ x (wrap64 (i + by_))))) r → Ev (fun k => quillref12_Mate.j3 k R k0 by_ x i) r := by
      intro x r hr
      refine ev_shift ?_
      simp only [quillref12_Mate.j3]
      exact ev_pos i0 (ev_pos i1 (ev_bindc (show quillref12_shuts.f = some [41, 93, 125] from rfl) (ev_pos k1 (ev_pos (by simp; omega) hr))))
    have hdl : -1 ≤ dl R k0 i ∧ dl R k0 i ≤ 1 := by
      unfold dl
      repeat' split
      all_goals omega
    -- what comes of the next place
    obtain ⟨m, n1, n2, n3⟩ : ∃ m, (∀ D E : Int, D = deep + dl R k0 i → (by_ = 1 ∧ E = D ∨ by_ = -1 ∧ E = -D) → Ev (fun k => if D = 0 then some i else pairs_mate.l0 k R k0 by_ D (i + by_)) m ∧ Ev (fun k => if E = 0 then some i else quillref12_Mate.l0 k R k0 by_ E (i + by_)) m) ∧ True ∧
        (m = -1 ∨ (0 ≤ m ∧ m < R.length ∧ (by_ = 1 → i ≤ m) ∧ (by_ = -1 → m ≤ i) ∧ (m = i → deep + dl R k0 i = 0))) := by
      by_cases z : deep + dl R k0 i = 0
      · exact ⟨i, fun D E h1 h2 => ⟨ev_pos (by omega) (Ev.now _), ev_pos (by omega) (Ev.now _)⟩, trivial, .inr ⟨i0, i1, fun _ => Int.le_refl _, fun _ => Int.le_refl _, fun _ => z⟩⟩
      · obtain ⟨m, m1, m2, m3⟩ := ih (i + by_) (deep + dl R k0 i) (if by_ = 1 then deep + dl R k0 i else -(deep + dl R k0 i)) (by
          rcases hby with rfl | rfl
          · rw [if_pos rfl]; omega
          · rw [if_neg (by decide)]; omega) (by omega) (by omega)
        refine ⟨m, fun D E h1 h2 => ?_, trivial, ?_⟩
        · subst h1
          have hE : E = (if by_ = 1 then deep + dl R k0 i else -(deep + dl R k0 i)) := by
            rcases h2 with ⟨rfl, rfl⟩ | ⟨rfl, rfl⟩
            · rw [if_pos rfl]
            · rw [if_neg (by decide)]
          rw [← hE] at m2
          exact ⟨ev_neg z m1, ev_neg (by omega) m2⟩
        · rcases m3 with m3 | ⟨m3, m4, m5, m6, m7⟩
          · exact .inl m3
          · refine .inr ⟨m3, m4, fun q => by have := m5 q; omega, fun q => by have := m6 q; omega, fun q => ?_⟩
            rcases hby with hb | hb
            · have := m5 hb; omega
            · have := m6 hb; omega
    refine ⟨m, ?_, ?_, n3⟩
    · refine pre m ?_
      by_cases ho : rd R i = opn k0
      · have hd : dl R k0 i = 1 := if_pos ho
        have hk : kd (rd R i) = (k0, 1) := by rw [ho]; exact kd_open k1 k2
        rw [hk]
        refine ev_neg (show ¬ ((1 : Int) = 0) by decide) ?_
        rw [show ((k0, (1 : Int)).1 == k0) = true from beq_self_eq_true k0]
        refine ev_shift ?_
        simp only [pairs_mate.j2]
        rw [w64 (x := deep + 1) (by omega) (by omega), wi]
        exact ev_pos (by trivial) (n1 (deep + 1) (if by_ = 1 then deep + 1 else -(deep + 1)) (by omega) (by rcases hby with rfl | rfl <;> simp)).1
      · by_cases hs : rd R i = sht k0
        · have hd : dl R k0 i = -1 := by unfold dl; rw [if_neg ho, if_pos hs]
          have hk : kd (rd R i) = (k0, -1) := by rw [hs]; exact kd_shut k1 k2
          rw [hk]
          refine ev_neg (show ¬ ((-1 : Int) = 0) by decide) ?_
          rw [show ((k0, (-1 : Int)).1 == k0) = true from beq_self_eq_true k0]
          refine ev_shift ?_
          simp only [pairs_mate.j2]
          rw [w64 (x := deep + -1) (by omega) (by omega), wi]
          exact ev_pos (by trivial) (n1 (deep + -1) (if by_ = 1 then deep + -1 else -(deep + -1)) (by omega) (by rcases hby with rfl | rfl <;> simp)).1
        · have hd : dl R k0 i = 0 := by unfold dl; rw [if_neg ho, if_neg hs]
          have fin : ∀ w, Ev (fun k => pairs_mate.j2 k R k0 by_ deep i w false) m := by
            intro w
            refine ev_shift ?_
            simp only [pairs_mate.j2]
            rw [wi]
            exact ev_neg (by decide) (n1 deep (if by_ = 1 then deep else -deep) (by omega) (by rcases hby with rfl | rfl <;> simp)).1
          by_cases hz : (kd (rd R i)).2 = 0
          · exact ev_pos hz (fin _)
          · refine ev_neg hz ?_
            rw [beq_eq_false_iff_ne.mpr ((kd_other k1 k2 ho hs).resolve_left hz)]
            exact fin _
    · refine ref0 m ?_
      by_cases ho : rd R i = opn k0
      · have hd : dl R k0 i = 1 := if_pos ho
        have hs : rd R i ≠ sht k0 := by rw [ho]; exact (opn_sht k1 k2 k1 k2).1
        refine ev_pos ho (ref3 _ m (ev_neg hs ?_))
        rw [w64 (x := e + by_) (by omega) (by omega), wi]
        exact (n1 (deep + 1) (e + by_) (by omega) (by omega)).2
      · refine ev_neg ho (ref3 _ m ?_)
        by_cases hs : rd R i = sht k0
        · have hd : dl R k0 i = -1 := by unfold dl; rw [if_neg ho, if_pos hs]
          refine ev_pos hs ?_
          rw [w64 (x := e - by_) (by omega) (by omega), wi]
          exact (n1 (deep + -1) (e - by_) (by omega) (by omega)).2
        · have hd : dl R k0 i = 0 := by unfold dl; rw [if_neg ho, if_neg hs]
          refine ev_neg hs ?_
          rw [wi]
          exact (n1 deep e (by omega) (by omega)).2
end
end Go.Proofs.YtbgmmcngkdhpcaaDoor.P
end
