/- Functions of Go's library that this seat's functions call, each with what its call comes to: out of the kit's own contracts, laid at this seat's translation. Conditions: none. -/
import Derived.Test.YtbgmmcngkdhpcaaDoorG0
import Derived.Laws.RangeString
import Derived.LoopN
import Derived.WalkMore
namespace Go.Proofs.YtbgmmcngkdhpcaaDoor
open Go.RowKit Go.Proofs.YtbgmmcngkdhpcaaDoorW.PrintWords Go.Proofs.YtbgmmcngkdhpcaaDoorW.PrintLast Go.Proofs.YtbgmmcngkdhpcaaDoorW.PrintMore
set_option linter.unusedVariables false
set_option linter.unusedSimpArgs false
theorem ret_same {α : Type} {f : α → Value} {a b : α} (h : a = b) : Ending.returned (f a) = .returned (f b) := by rw [h]
theorem drawn_same {w w' : World} (h : w' = w) : Drawn0 w w' := by subst h; exact Drawn0.refl _
def utf8_ValidString.f (a0 : ByteArray) : Option Bool := if a0.size ≤ 9223372036854775807 then some (Lib.validD a0.data.toList) else none
theorem utf8_ValidString.calls (a0 : ByteArray) (r : Bool) (w : World) (hT : Tabs w) (h : utf8_ValidString.f a0 = some r) :
    Calls Tryd.prog 31 #[.string a0] w fun e w' => e = .returned (.bool r) ∧ Below w.heap.size w w' := by
  unfold utf8_ValidString.f at h
  split at h
  · rename_i hs
    obtain rfl := Option.some.inj h
    exact Tryd.utf8_ValidString a0 w hs hT
  · cases h
def strings_IndexByte.f (a0 : ByteArray) (a1 : Int) : Option Int := some (Lib.indexByte a0.data.toList a1.toNat.toUInt8)
theorem strings_IndexByte.calls (a0 : ByteArray) (a1 r : Int) (w : World) (h : strings_IndexByte.f a0 a1 = some r) :
    Calls Tryd.prog 72 #[.string a0, .int .u8 a1] w fun e w' => e = .returned (.int .i64 r) ∧ Drawn0 w w' := by
  obtain rfl := Option.some.inj h
  exact (Tryd.strings_IndexByte a0 a1 w).mono fun e w' ⟨he, hw⟩ => ⟨he, drawn_same hw⟩
def strings_ContainsRune.f (a0 : ByteArray) (a1 : Int) : Option Bool := if 0 ≤ a1 ∧ a1 < 128 then some (decide (0 ≤ Lib.indexByte a0.data.toList a1.toNat.toUInt8)) else none
theorem strings_ContainsRune.calls (a0 : ByteArray) (a1 : Int) (r : Bool) (w : World) (h : strings_ContainsRune.f a0 a1 = some r) :
    Calls Tryd.prog 102 #[.string a0, .int .i32 a1] w fun e w' => e = .returned (.bool r) ∧ Drawn0 w w' := by
  unfold strings_ContainsRune.f at h
  split at h
  · rename_i hs
    obtain rfl := Option.some.inj h
    exact (Tryd.strings_ContainsRune_ascii a0 a1 w hs.1 hs.2).mono fun e w' ⟨he, hw⟩ => ⟨he, drawn_same hw⟩
  · cases h
theorem enc_far (r : Int) (h0 : 128 ≤ r) (h : Lib.validRune r = true) : ∃ l : List UInt8, Utf8.encode r = ⟨l.toArray⟩ ∧ ((∃ u v, l = [u, v] ∧ 128 ≤ v.toNat) ∨ (∃ u v x, l = [u, v, x] ∧ 128 ≤ x.toNat) ∨ (∃ u v x y, l = [u, v, x, y] ∧ 128 ≤ y.toNat)) := by
  have hv : Utf8.valid r = true := by
    simp only [Lib.validRune, decide_eq_true_eq] at h
    simp only [Utf8.valid, Bool.or_eq_true, Bool.and_eq_true, decide_eq_true_eq]
    omega
  have hb : ∀ n : Nat, n % 64 < 64 := fun n => Nat.mod_lt _ (by decide)
  have ht : ∀ n : Nat, 128 ≤ (UInt8.ofNat (0x80 + n % 64)).toNat := by
    intro n
    have := hb n
    simp only [UInt8.toNat_ofNat']
    omega
  simp only [Utf8.encode, hv, if_true]
  have h1 : ¬ r.toNat < 0x80 := by omega
  rw [if_neg h1]
  split
  · exact ⟨_, rfl, .inl ⟨_, _, rfl, ht _⟩⟩
  · split
    · exact ⟨_, rfl, .inr (.inl ⟨_, _, _, rfl, ht _⟩)⟩
    · exact ⟨_, rfl, .inr (.inr ⟨_, _, _, _, rfl, ht _⟩)⟩
set_option maxHeartbeats 4000000 in
set_option maxRecDepth 100000 in
theorem indexRune_bad (s : ByteArray) (r : Int) (h : ¬ (0 ≤ r ∧ r < 128)) (h3 : r ≠ 65533) (hv : Lib.validRune r = false) (w : World) :
    Calls Tryd.prog 117 #[.string s, .int .i32 r] w fun e w' => e = .returned (.int .i64 (-1)) ∧ Drawn0 w w' := by
  have hu21 := Tryd.underlying21
  have c1 : decide (0 ≤ r) = true → decide (r < 128) = false := by
    intro h4
    simp only [decide_eq_true_eq, decide_eq_false_iff_not] at h4 ⊢
    omega
  have c3 : (r == 65533) = false := beq_eq_false_iff_ne.mpr h3
  by_cases c0 : 0 ≤ r
  · have c0b : decide (0 ≤ r) = true := decide_eq_true c0
    have c1b := c1 c0b
    go_enter Tryd.func117, Tryd.ntmps117
    go_wp2_with (go_at_call 123; refine (Tryd.utf8_ValidRune r _).mono ?_; rintro e w' ⟨rfl, rfl⟩; rw [hv])
    go_ret
    exact ⟨rfl, Drawn0.refl _⟩
  · have c0b : decide (0 ≤ r) = false := decide_eq_false c0
    go_enter Tryd.func117, Tryd.ntmps117
    go_wp2_with (go_at_call 123; refine (Tryd.utf8_ValidRune r _).mono ?_; rintro e w' ⟨rfl, rfl⟩; rw [hv])
    go_ret
    exact ⟨rfl, Drawn0.refl _⟩
set_option maxHeartbeats 4000000 in
set_option maxRecDepth 100000 in
theorem indexRune_err_of (s : ByteArray) (x y z : Int) (hx : (x == 65533) = false) (hy : (y == 65533) = false) (hz : (z == 65533) = false) (w : World)
    (n0 : ∀ ty, (Instr.next (.pointer (some ⟨w.heap.size, 0, none⟩)) true ty).run Tryd.prog (w.iter s 0) = .ok (.tuple #[.bool true, .int .i64 0, .int .i32 x]) (w.iter s 1))
    (n1 : ∀ ty, (Instr.next (.pointer (some ⟨w.heap.size, 0, none⟩)) true ty).run Tryd.prog (w.iter s 1) = .ok (.tuple #[.bool true, .int .i64 1, .int .i32 y]) (w.iter s 2))
    (n2 : ∀ ty, (Instr.next (.pointer (some ⟨w.heap.size, 0, none⟩)) true ty).run Tryd.prog (w.iter s 2) = .ok (.tuple #[.bool true, .int .i64 2, .int .i32 z]) (w.iter s 3))
    (n3 : ∀ ty, (Instr.next (.pointer (some ⟨w.heap.size, 0, none⟩)) true ty).run Tryd.prog (w.iter s 3) = .ok (.tuple #[.bool false]) (w.iter s 3)) :
    Calls Tryd.prog 117 #[.string s, .int .i32 65533] w fun e w' => e = .returned (.int .i64 (-1)) ∧ Below w.heap.size w w' := by
  have hu9 := Tryd.underlying9
  have hu21 := Tryd.underlying21
  have hB : Below w.heap.size w (w.iter s 3) := below_alloc (Below.refl w.heap.size w) (.stringIter s 3)
  go_enter Tryd.func117, Tryd.ntmps117
  go_wp2
  refine wp_loop_rounds 4 ?_
  rw [rounds_succ]
  go_wp2
  rw [rounds_succ]
  go_wp2
  rw [rounds_succ]
  go_wp2
  rw [rounds_succ]
  go_wp2
  go_ret
  exact ⟨rfl, hB⟩
theorem indexRune_err (a b c : UInt8) (ha : a.toNat < 128) (hb : b.toNat < 128) (hc : c.toNat < 128) (w : World) :
    Calls Tryd.prog 117 #[.string ⟨#[a, b, c]⟩, .int .i32 65533] w fun e w' => e = .returned (.int .i64 (-1)) ∧ Below w.heap.size w w' :=
  indexRune_err_of ⟨#[a, b, c]⟩ a.toNat b.toNat c.toNat (beq_eq_false_iff_ne.mpr (by omega)) (beq_eq_false_iff_ne.mpr (by omega)) (beq_eq_false_iff_ne.mpr (by omega)) w
    (fun ty => run_next_ascii (P := Tryd.prog) w ⟨#[a, b, c]⟩ 0 ty (by show 0 < 3; omega) ha)
    (fun ty => run_next_ascii (P := Tryd.prog) w ⟨#[a, b, c]⟩ 1 ty (by show 1 < 3; omega) hb)
    (fun ty => run_next_ascii (P := Tryd.prog) w ⟨#[a, b, c]⟩ 2 ty (by show 2 < 3; omega) hc)
    (fun ty => run_next_end (P := Tryd.prog) w ⟨#[a, b, c]⟩ 3 ty (by show ¬ 3 < 3; omega))
set_option maxHeartbeats 4000000 in
set_option maxRecDepth 100000 in
theorem indexRune_two (a b c u v : UInt8) (hb : b.toNat < 128) (hc : c.toNat < 128) (hv : 128 ≤ v.toNat) (r : Int) (h0 : 128 ≤ r) (h3 : r ≠ 65533) (hr : Lib.validRune r = true) (he : Utf8.encode r = ⟨#[u, v]⟩) (w : World) :
    Calls Tryd.prog 117 #[.string ⟨#[a, b, c]⟩, .int .i32 r] w fun e w' => e = .returned (.int .i64 (-1)) ∧ Drawn0 w w' := by
  have hu9 := Tryd.underlying9
  have hu21 := Tryd.underlying21
  have c0 : decide (0 ≤ r) = true := decide_eq_true (by omega)
  have c1 : decide (r < 128) = false := decide_eq_false (by omega)
  have c3 : (r == 65533) = false := beq_eq_false_iff_ne.mpr h3
  have hne : ((((⟨#[a, b, c]⟩ : ByteArray)[1]'(by show 1 < 3; omega)).toNat : Int) != (((⟨#[u, v]⟩ : ByteArray)[1]'(by show 1 < 2; omega)).toNat : Int)) = true := bne_iff_ne.mpr (show ((b.toNat : Nat) : Int) ≠ ((v.toNat : Nat) : Int) from by omega)
  have hixx : Lib.indexByte ((⟨#[a, b, c]⟩ : ByteArray).extract 2 3).data.toList ((((⟨#[u, v]⟩ : ByteArray)[1]'(by show 1 < 2; omega)).toNat : Int)).toNat.toUInt8 = -1 := by
    show Lib.indexByte [c] (UInt8.ofNat ((v.toNat : Nat) : Int).toNat) = -1
    rw [Int.toNat_natCast, UInt8.ofNat_toNat]
    have : c ≠ v := by
      rintro rfl
      omega
    simp [Lib.indexByte, this]
  go_enter Tryd.func117, Tryd.ntmps117
  go_wp2_with (go_at_call 123; refine (Tryd.utf8_ValidRune r _).mono ?_; rintro e w' ⟨rfl, rfl⟩; rw [hr])
  go_step3
  go_wp2
  refine wp_loop_rounds 1 ?_
  rw [rounds_succ]
  go_wp2
  go_step3
  go_wp2
  go_quiet (fail)
  go_wp2
  go_quiet (first | (go_at_call 72; refine (Tryd.strings_IndexByte _ _ _).mono ?_; rintro e w'' ⟨rfl, rfl⟩; refine ⟨congrArg (fun z => Ending.returned (Value.int .i64 z)) hixx, _, rfl⟩))
  go_wp2
  (try simp only [Exit.inBlock, Exit.then, Exit.noGoto])
  go_ret
  exact ⟨rfl, by repeat (first | exact Drawn0.refl _ | apply Drawn0.step)⟩
set_option maxHeartbeats 4000000 in
set_option maxRecDepth 100000 in
theorem indexRune_three (a b c u v x : UInt8) (hc : c.toNat < 128) (hv : 128 ≤ x.toNat) (r : Int) (h0 : 128 ≤ r) (h3 : r ≠ 65533) (hr : Lib.validRune r = true) (he : Utf8.encode r = ⟨#[u, v, x]⟩) (w : World) :
    Calls Tryd.prog 117 #[.string ⟨#[a, b, c]⟩, .int .i32 r] w fun e w' => e = .returned (.int .i64 (-1)) ∧ Drawn0 w w' := by
  have hu9 := Tryd.underlying9
  have hu21 := Tryd.underlying21
  have c0 : decide (0 ≤ r) = true := decide_eq_true (by omega)
  have c1 : decide (r < 128) = false := decide_eq_false (by omega)
  have c3 : (r == 65533) = false := beq_eq_false_iff_ne.mpr h3
  have hne : ((((⟨#[a, b, c]⟩ : ByteArray)[2]'(by show 2 < 3; omega)).toNat : Int) != (((⟨#[u, v, x]⟩ : ByteArray)[2]'(by show 2 < 3; omega)).toNat : Int)) = true := bne_iff_ne.mpr (show ((c.toNat : Nat) : Int) ≠ ((x.toNat : Nat) : Int) from by omega)
  have hixx : Lib.indexByte ((⟨#[a, b, c]⟩ : ByteArray).extract 3 3).data.toList ((((⟨#[u, v, x]⟩ : ByteArray)[2]'(by show 2 < 3; omega)).toNat : Int)).toNat.toUInt8 = -1 := by
    rfl
  go_enter Tryd.func117, Tryd.ntmps117
  go_wp2_with (go_at_call 123; refine (Tryd.utf8_ValidRune r _).mono ?_; rintro e w' ⟨rfl, rfl⟩; rw [hr])
  go_step3
  go_wp2
  refine wp_loop_rounds 1 ?_
  rw [rounds_succ]
  go_wp2
  go_step3
  go_wp2
  go_quiet (fail)
  go_wp2
  go_quiet (first | (go_at_call 72; refine (Tryd.strings_IndexByte _ _ _).mono ?_; rintro e w'' ⟨rfl, rfl⟩; refine ⟨congrArg (fun z => Ending.returned (Value.int .i64 z)) hixx, _, rfl⟩))
  go_wp2
  (try simp only [Exit.inBlock, Exit.then, Exit.noGoto])
  go_ret
  exact ⟨rfl, by repeat (first | exact Drawn0.refl _ | apply Drawn0.step)⟩
set_option maxHeartbeats 4000000 in
set_option maxRecDepth 100000 in
theorem indexRune_four (a b c u v x y : UInt8) (r : Int) (h0 : 128 ≤ r) (h3 : r ≠ 65533) (hr : Lib.validRune r = true) (he : Utf8.encode r = ⟨#[u, v, x, y]⟩) (w : World) :
    Calls Tryd.prog 117 #[.string ⟨#[a, b, c]⟩, .int .i32 r] w fun e w' => e = .returned (.int .i64 (-1)) ∧ Drawn0 w w' := by
  have hu9 := Tryd.underlying9
  have hu21 := Tryd.underlying21
  have c0 : decide (0 ≤ r) = true := decide_eq_true (by omega)
  have c1 : decide (r < 128) = false := decide_eq_false (by omega)
  have c3 : (r == 65533) = false := beq_eq_false_iff_ne.mpr h3
  go_enter Tryd.func117, Tryd.ntmps117
  go_wp2_with (go_at_call 123; refine (Tryd.utf8_ValidRune r _).mono ?_; rintro e w' ⟨rfl, rfl⟩; rw [hr])
  go_step3
  go_wp2
  refine wp_loop_rounds 1 ?_
  rw [rounds_succ]
  go_wp2
  (try simp only [Exit.inBlock, Exit.then, Exit.noGoto])
  go_ret
  exact ⟨rfl, by repeat (first | exact Drawn0.refl _ | apply Drawn0.step)⟩
theorem indexRune_any (a b c : UInt8) (ha : a.toNat < 128) (hb : b.toNat < 128) (hc : c.toNat < 128) (r : Int) (w : World) :
    Calls Tryd.prog 117 #[.string ⟨#[a, b, c]⟩, .int .i32 r] w fun e w' => e = .returned (.int .i64 (if 0 ≤ r ∧ r < 128 then Lib.indexByte [a, b, c] r.toNat.toUInt8 else -1)) ∧ Below w.heap.size w w' := by
  by_cases h : 0 ≤ r ∧ r < 128
  · rw [if_pos h]
    refine (Tryd.strings_IndexRune_ascii ⟨#[a, b, c]⟩ r w h.1 h.2).mono ?_
    rintro e w' ⟨rfl, rfl⟩
    exact ⟨rfl, Below.refl _ _⟩
  · rw [if_neg h]
    by_cases h3 : r = 65533
    · subst h3
      exact indexRune_err a b c ha hb hc w
    · cases hv : Lib.validRune r with
      | false => exact (indexRune_bad _ r h h3 hv w).mono fun e w' ⟨he, hw⟩ => ⟨he, hw.below⟩
      | true =>
        have h0 : 128 ≤ r := by
          simp only [Lib.validRune, decide_eq_true_eq] at hv
          omega
        obtain ⟨l, he, ⟨u, v, rfl, hz⟩ | ⟨u, v, x, rfl, hz⟩ | ⟨u, v, x, y, rfl, hz⟩⟩ := enc_far r h0 hv
        · exact (indexRune_two a b c u v hb hc hz r h0 h3 hv he w).mono fun e w' ⟨he, hw⟩ => ⟨he, hw.below⟩
        · exact (indexRune_three a b c u v x hc hz r h0 h3 hv he w).mono fun e w' ⟨he, hw⟩ => ⟨he, hw.below⟩
        · exact (indexRune_four a b c u v x y r h0 h3 hv he w).mono fun e w' ⟨he, hw⟩ => ⟨he, hw.below⟩
def strings_IndexRune.f (a0 : ByteArray) (a1 : Int) : Option Int :=
  match a0.data.toList with
  | [a, b, c] => if a.toNat < 128 ∧ b.toNat < 128 ∧ c.toNat < 128 then some (if 0 ≤ a1 ∧ a1 < 128 then Lib.indexByte [a, b, c] a1.toNat.toUInt8 else -1) else none
  | _ => none
theorem strings_IndexRune.calls (a0 : ByteArray) (a1 r : Int) (w : World) (h : strings_IndexRune.f a0 a1 = some r) :
    Calls Tryd.prog 117 #[.string a0, .int .i32 a1] w fun e w' => e = .returned (.int .i64 r) ∧ Below w.heap.size w w' := by
  obtain ⟨⟨l⟩⟩ := a0
  unfold strings_IndexRune.f at h
  split at h
  · rename_i a b c hl
    have hl' : l = [a, b, c] := hl
    subst hl'
    split at h
    · rename_i hs
      obtain rfl := Option.some.inj h
      exact indexRune_any a b c hs.1 hs.2.1 hs.2.2 a1 w
    · cases h
  · cases h
end Go.Proofs.YtbgmmcngkdhpcaaDoor
