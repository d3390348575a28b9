/- What kind of motion a key is: the walk of move.kind, by hand: it ranges over seven strings, and over the runes of each. Conditions: none. -/
import Derived.Test.YtbgmmcngkdhpcaaDoorG0
import Derived.Laws.RangeString
import Derived.LoopN
import Derived.WalkMore
namespace Go.Proofs.YtbgmmcngkdhpcaaDoor
open Go.RowKit Go.Proofs.YtbgmmcngkdhpcaaDoorW.PrintWords Go.Proofs.YtbgmmcngkdhpcaaDoorW.PrintLast Go.Proofs.YtbgmmcngkdhpcaaDoorW.PrintMore
set_option linter.unusedVariables false
set_option linter.unusedSimpArgs false
/-- A store turns no cell's being there. -/
theorem cell_isSome (w : World) (p a : Addr) (v : Value) : ((w.setCell p v).cell? a).isSome = (w.cell? a).isSome := by
  simp only [World.setCell, World.cell?, Array.getElem?_modify]
  by_cases h : p.block = a.block
  · rw [if_pos h]
    cases w.heap[a.block]? with
    | none => rfl
    | some o =>
      cases o <;> try rfl
      rename_i c e f
      simp only [Option.map_some]
      have hz : (c.setIfInBounds p.off v)[a.off]?.isSome = c[a.off]?.isSome := by
        by_cases hi : a.off < c.size
        · rw [Array.getElem?_eq_getElem hi, Array.getElem?_eq_getElem (by rw [Array.size_setIfInBounds]; exact hi)]
          rfl
        · rw [Array.getElem?_eq_none (by rw [Array.size_setIfInBounds]; omega), Array.getElem?_eq_none (by omega)]
      cases a.spot <;> cases p.spot <;> simp [hz]
  · rw [if_neg h]
/-- A store of what stands there already turns no cell. -/
theorem cell_keep {W : World} {p : Addr} {v : Value} (h : W.cell? p = some v) (q : Addr) : (W.setCell p v).cell? q = W.cell? q := by
  by_cases e : p = q
  · subst e
    rw [h]
    exact World.cell?_setCell_same _ _ _ h
  · exact World.cell?_setCell_other _ _ _ _ e
/-- What kind of motion a key is, as a number: 0, none; 1, by rows; 2, by words; 3, by a rune sought; 4, by a rune sought again; 5, by paragraphs; 6, by brackets; 7, by marks. -/
def kindOf (key : Int) : Int :=
  if key = 16777319 ∨ key = 104 ∨ key = 108 ∨ key = 48 ∨ key = 94 ∨ key = 36 ∨ key = 106 ∨ key = 107 ∨ key = 43 ∨ key = 45 ∨ key = 95 ∨ key = 71 then 1
  else if key = 119 ∨ key = 98 ∨ key = 101 ∨ key = 87 ∨ key = 66 ∨ key = 69 then 2
  else if key = 102 ∨ key = 70 ∨ key = 116 ∨ key = 84 then 3
  else if key = 59 ∨ key = 44 then 4
  else if key = 123 ∨ key = 125 then 5
  else if key = 37 then 6
  else if key = 39 ∨ key = 96 then 7
  else 0
def move_kind.f (a0 : Int) : Option Int := some (kindOf a0)
theorem nx_ (B : World) (s : ByteArray) (j : Nat) (c : Int) (h : j < s.size) (ha : (s[j]'h).toNat < 128) (hc : ((s[j]'h).toNat : Int) = c) :
    ∀ ty, (Instr.next (.pointer (some ⟨B.heap.size, 0, none⟩)) true ty).run Tryd.prog (B.iter s j) = .ok (.tuple #[.bool true, .int .i64 j, .int .i32 c]) (B.iter s (j + 1)) := by
  intro ty
  rw [run_next_ascii (P := Tryd.prog) B s j ty h ha, hc]
theorem nxe_ (B : World) (s : ByteArray) (j : Nat) (h : ¬ j < s.size) :
    ∀ ty, (Instr.next (.pointer (some ⟨B.heap.size, 0, none⟩)) true ty).run Tryd.prog (B.iter s j) = .ok (.tuple #[.bool false]) (B.iter s j) := fun ty => run_next_end (P := Tryd.prog) B s j ty h

set_option maxHeartbeats 40000000 in
set_option maxRecDepth 100000 in
theorem kind_walk (key : Int) (w : World) :
    Calls Tryd.prog 42 #[.int .i64 key] w fun e w' => e = .returned (.int .i64 (kindOf key)) ∧ Below w.heap.size w w' := by
  have hus := Tryd.underlying9
  have i0 : ∀ w : World, (Instr.index 104 (.agg #[.string ⟨#[104, 108, 48, 94, 36, 106, 107, 43, 45, 95, 71]⟩, .string ⟨#[119, 98, 101, 87, 66, 69]⟩, .string ⟨#[102, 70, 116, 84]⟩, .string ⟨#[59, 44]⟩, .string ⟨#[123, 125]⟩, .string ⟨#[37]⟩, .string ⟨#[39, 96]⟩]) (.int .i64 0)).run Tryd.prog w = .ok (.string ⟨#[104, 108, 48, 94, 36, 106, 107, 43, 45, 95, 71]⟩) w := fun _ => by kernel_rfl
  have i1 : ∀ w : World, (Instr.index 104 (.agg #[.string ⟨#[104, 108, 48, 94, 36, 106, 107, 43, 45, 95, 71]⟩, .string ⟨#[119, 98, 101, 87, 66, 69]⟩, .string ⟨#[102, 70, 116, 84]⟩, .string ⟨#[59, 44]⟩, .string ⟨#[123, 125]⟩, .string ⟨#[37]⟩, .string ⟨#[39, 96]⟩]) (.int .i64 1)).run Tryd.prog w = .ok (.string ⟨#[119, 98, 101, 87, 66, 69]⟩) w := fun _ => by kernel_rfl
  have i2 : ∀ w : World, (Instr.index 104 (.agg #[.string ⟨#[104, 108, 48, 94, 36, 106, 107, 43, 45, 95, 71]⟩, .string ⟨#[119, 98, 101, 87, 66, 69]⟩, .string ⟨#[102, 70, 116, 84]⟩, .string ⟨#[59, 44]⟩, .string ⟨#[123, 125]⟩, .string ⟨#[37]⟩, .string ⟨#[39, 96]⟩]) (.int .i64 2)).run Tryd.prog w = .ok (.string ⟨#[102, 70, 116, 84]⟩) w := fun _ => by kernel_rfl
  have i3 : ∀ w : World, (Instr.index 104 (.agg #[.string ⟨#[104, 108, 48, 94, 36, 106, 107, 43, 45, 95, 71]⟩, .string ⟨#[119, 98, 101, 87, 66, 69]⟩, .string ⟨#[102, 70, 116, 84]⟩, .string ⟨#[59, 44]⟩, .string ⟨#[123, 125]⟩, .string ⟨#[37]⟩, .string ⟨#[39, 96]⟩]) (.int .i64 3)).run Tryd.prog w = .ok (.string ⟨#[59, 44]⟩) w := fun _ => by kernel_rfl
  have i4 : ∀ w : World, (Instr.index 104 (.agg #[.string ⟨#[104, 108, 48, 94, 36, 106, 107, 43, 45, 95, 71]⟩, .string ⟨#[119, 98, 101, 87, 66, 69]⟩, .string ⟨#[102, 70, 116, 84]⟩, .string ⟨#[59, 44]⟩, .string ⟨#[123, 125]⟩, .string ⟨#[37]⟩, .string ⟨#[39, 96]⟩]) (.int .i64 4)).run Tryd.prog w = .ok (.string ⟨#[123, 125]⟩) w := fun _ => by kernel_rfl
  have i5 : ∀ w : World, (Instr.index 104 (.agg #[.string ⟨#[104, 108, 48, 94, 36, 106, 107, 43, 45, 95, 71]⟩, .string ⟨#[119, 98, 101, 87, 66, 69]⟩, .string ⟨#[102, 70, 116, 84]⟩, .string ⟨#[59, 44]⟩, .string ⟨#[123, 125]⟩, .string ⟨#[37]⟩, .string ⟨#[39, 96]⟩]) (.int .i64 5)).run Tryd.prog w = .ok (.string ⟨#[37]⟩) w := fun _ => by kernel_rfl
  have i6 : ∀ w : World, (Instr.index 104 (.agg #[.string ⟨#[104, 108, 48, 94, 36, 106, 107, 43, 45, 95, 71]⟩, .string ⟨#[119, 98, 101, 87, 66, 69]⟩, .string ⟨#[102, 70, 116, 84]⟩, .string ⟨#[59, 44]⟩, .string ⟨#[123, 125]⟩, .string ⟨#[37]⟩, .string ⟨#[39, 96]⟩]) (.int .i64 6)).run Tryd.prog w = .ok (.string ⟨#[39, 96]⟩) w := fun _ => by kernel_rfl
  by_cases hg : key = 16777319
  · subst hg
    go_enter Tryd.func42, Tryd.ntmps42
    go_wp2
    go_ret
    exact ⟨rfl, Below.refl _ _⟩
  have hgb : (key == 16777319) = false := beq_eq_false_iff_ne.mpr hg
  go_enter Tryd.func42, Tryd.ntmps42
  go_wp2
  refine wp_loop_rounds 8 ?_
  rw [rounds_succ]
  go_wp2
  refine wp_loop_rounds 12 ?_
  rw [rounds_succ]
  have hn := nx_ (w) ⟨#[104, 108, 48, 94, 36, 106, 107, 43, 45, 95, 71]⟩ 0 104 (by decide) (by decide) (by decide)
  by_cases c0_0 : key = 104
  · subst c0_0
    go_wp2
    go_ret
    exact ⟨rfl, below_alloc (Below.refl w.heap.size w) (.stringIter ⟨#[104, 108, 48, 94, 36, 106, 107, 43, 45, 95, 71]⟩ 1)⟩
  have c0_0b : (key == 104) = false := beq_eq_false_iff_ne.mpr c0_0
  go_wp2
  clear hn
  rw [rounds_succ]
  have hn := nx_ (w) ⟨#[104, 108, 48, 94, 36, 106, 107, 43, 45, 95, 71]⟩ 1 108 (by decide) (by decide) (by decide)
  by_cases c0_1 : key = 108
  · subst c0_1
    go_wp2
    go_ret
    exact ⟨rfl, below_alloc (Below.refl w.heap.size w) (.stringIter ⟨#[104, 108, 48, 94, 36, 106, 107, 43, 45, 95, 71]⟩ 2)⟩
  have c0_1b : (key == 108) = false := beq_eq_false_iff_ne.mpr c0_1
  go_wp2
  clear hn
  rw [rounds_succ]
  have hn := nx_ (w) ⟨#[104, 108, 48, 94, 36, 106, 107, 43, 45, 95, 71]⟩ 2 48 (by decide) (by decide) (by decide)
  by_cases c0_2 : key = 48
  · subst c0_2
    go_wp2
    go_ret
    exact ⟨rfl, below_alloc (Below.refl w.heap.size w) (.stringIter ⟨#[104, 108, 48, 94, 36, 106, 107, 43, 45, 95, 71]⟩ 3)⟩
  have c0_2b : (key == 48) = false := beq_eq_false_iff_ne.mpr c0_2
  go_wp2
  clear hn
  rw [rounds_succ]
  have hn := nx_ (w) ⟨#[104, 108, 48, 94, 36, 106, 107, 43, 45, 95, 71]⟩ 3 94 (by decide) (by decide) (by decide)
  by_cases c0_3 : key = 94
  · subst c0_3
    go_wp2
    go_ret
    exact ⟨rfl, below_alloc (Below.refl w.heap.size w) (.stringIter ⟨#[104, 108, 48, 94, 36, 106, 107, 43, 45, 95, 71]⟩ 4)⟩
  have c0_3b : (key == 94) = false := beq_eq_false_iff_ne.mpr c0_3
  go_wp2
  clear hn
  rw [rounds_succ]
  have hn := nx_ (w) ⟨#[104, 108, 48, 94, 36, 106, 107, 43, 45, 95, 71]⟩ 4 36 (by decide) (by decide) (by decide)
  by_cases c0_4 : key = 36
  · subst c0_4
    go_wp2
    go_ret
    exact ⟨rfl, below_alloc (Below.refl w.heap.size w) (.stringIter ⟨#[104, 108, 48, 94, 36, 106, 107, 43, 45, 95, 71]⟩ 5)⟩
  have c0_4b : (key == 36) = false := beq_eq_false_iff_ne.mpr c0_4
  go_wp2
  clear hn
  rw [rounds_succ]
  have hn := nx_ (w) ⟨#[104, 108, 48, 94, 36, 106, 107, 43, 45, 95, 71]⟩ 5 106 (by decide) (by decide) (by decide)
  by_cases c0_5 : key = 106
  · subst c0_5
    go_wp2
    go_ret
    exact ⟨rfl, below_alloc (Below.refl w.heap.size w) (.stringIter ⟨#[104, 108, 48, 94, 36, 106, 107, 43, 45, 95, 71]⟩ 6)⟩
  have c0_5b : (key == 106) = false := beq_eq_false_iff_ne.mpr c0_5
  go_wp2
  clear hn
  rw [rounds_succ]
  have hn := nx_ (w) ⟨#[104, 108, 48, 94, 36, 106, 107, 43, 45, 95, 71]⟩ 6 107 (by decide) (by decide) (by decide)
  by_cases c0_6 : key = 107
  · subst c0_6
    go_wp2
    go_ret
    exact ⟨rfl, below_alloc (Below.refl w.heap.size w) (.stringIter ⟨#[104, 108, 48, 94, 36, 106, 107, 43, 45, 95, 71]⟩ 7)⟩
  have c0_6b : (key == 107) = false := beq_eq_false_iff_ne.mpr c0_6
  go_wp2
  clear hn
  rw [rounds_succ]
  have hn := nx_ (w) ⟨#[104, 108, 48, 94, 36, 106, 107, 43, 45, 95, 71]⟩ 7 43 (by decide) (by decide) (by decide)
  by_cases c0_7 : key = 43
  · subst c0_7
    go_wp2
    go_ret
    exact ⟨rfl, below_alloc (Below.refl w.heap.size w) (.stringIter ⟨#[104, 108, 48, 94, 36, 106, 107, 43, 45, 95, 71]⟩ 8)⟩
  have c0_7b : (key == 43) = false := beq_eq_false_iff_ne.mpr c0_7
  go_wp2
  clear hn
  rw [rounds_succ]
  have hn := nx_ (w) ⟨#[104, 108, 48, 94, 36, 106, 107, 43, 45, 95, 71]⟩ 8 45 (by decide) (by decide) (by decide)
  by_cases c0_8 : key = 45
  · subst c0_8
    go_wp2
    go_ret
    exact ⟨rfl, below_alloc (Below.refl w.heap.size w) (.stringIter ⟨#[104, 108, 48, 94, 36, 106, 107, 43, 45, 95, 71]⟩ 9)⟩
  have c0_8b : (key == 45) = false := beq_eq_false_iff_ne.mpr c0_8
  go_wp2
  clear hn
  rw [rounds_succ]
  have hn := nx_ (w) ⟨#[104, 108, 48, 94, 36, 106, 107, 43, 45, 95, 71]⟩ 9 95 (by decide) (by decide) (by decide)
  by_cases c0_9 : key = 95
  · subst c0_9
    go_wp2
    go_ret
    exact ⟨rfl, below_alloc (Below.refl w.heap.size w) (.stringIter ⟨#[104, 108, 48, 94, 36, 106, 107, 43, 45, 95, 71]⟩ 10)⟩
  have c0_9b : (key == 95) = false := beq_eq_false_iff_ne.mpr c0_9
  go_wp2
  clear hn
  rw [rounds_succ]
  have hn := nx_ (w) ⟨#[104, 108, 48, 94, 36, 106, 107, 43, 45, 95, 71]⟩ 10 71 (by decide) (by decide) (by decide)
  by_cases c0_10 : key = 71
  · subst c0_10
    go_wp2
    go_ret
    exact ⟨rfl, below_alloc (Below.refl w.heap.size w) (.stringIter ⟨#[104, 108, 48, 94, 36, 106, 107, 43, 45, 95, 71]⟩ 11)⟩
  have c0_10b : (key == 71) = false := beq_eq_false_iff_ne.mpr c0_10
  go_wp2
  clear hn
  rw [rounds_succ]
  have hn := nxe_ (w) ⟨#[104, 108, 48, 94, 36, 106, 107, 43, 45, 95, 71]⟩ 11 (by decide)
  go_wp2
  clear hn
  rw [rounds_succ]
  go_wp2
  refine wp_loop_rounds 7 ?_
  rw [rounds_succ]
  have hn := nx_ (w.iter ⟨#[104, 108, 48, 94, 36, 106, 107, 43, 45, 95, 71]⟩ 11) ⟨#[119, 98, 101, 87, 66, 69]⟩ 0 119 (by decide) (by decide) (by decide)
  by_cases c1_0 : key = 119
  · subst c1_0
    go_wp2
    go_ret
    exact ⟨rfl, below_alloc (below_alloc (Below.refl w.heap.size w) (.stringIter ⟨#[104, 108, 48, 94, 36, 106, 107, 43, 45, 95, 71]⟩ 11)) (.stringIter ⟨#[119, 98, 101, 87, 66, 69]⟩ 1)⟩
  have c1_0b : (key == 119) = false := beq_eq_false_iff_ne.mpr c1_0
  go_wp2
  clear hn
  rw [rounds_succ]
  have hn := nx_ (w.iter ⟨#[104, 108, 48, 94, 36, 106, 107, 43, 45, 95, 71]⟩ 11) ⟨#[119, 98, 101, 87, 66, 69]⟩ 1 98 (by decide) (by decide) (by decide)
  by_cases c1_1 : key = 98
  · subst c1_1
    go_wp2
    go_ret
    exact ⟨rfl, below_alloc (below_alloc (Below.refl w.heap.size w) (.stringIter ⟨#[104, 108, 48, 94, 36, 106, 107, 43, 45, 95, 71]⟩ 11)) (.stringIter ⟨#[119, 98, 101, 87, 66, 69]⟩ 2)⟩
  have c1_1b : (key == 98) = false := beq_eq_false_iff_ne.mpr c1_1
  go_wp2
  clear hn
  rw [rounds_succ]
  have hn := nx_ (w.iter ⟨#[104, 108, 48, 94, 36, 106, 107, 43, 45, 95, 71]⟩ 11) ⟨#[119, 98, 101, 87, 66, 69]⟩ 2 101 (by decide) (by decide) (by decide)
  by_cases c1_2 : key = 101
  · subst c1_2
    go_wp2
    go_ret
    exact ⟨rfl, below_alloc (below_alloc (Below.refl w.heap.size w) (.stringIter ⟨#[104, 108, 48, 94, 36, 106, 107, 43, 45, 95, 71]⟩ 11)) (.stringIter ⟨#[119, 98, 101, 87, 66, 69]⟩ 3)⟩
  have c1_2b : (key == 101) = false := beq_eq_false_iff_ne.mpr c1_2
  go_wp2
  clear hn
  rw [rounds_succ]
  have hn := nx_ (w.iter ⟨#[104, 108, 48, 94, 36, 106, 107, 43, 45, 95, 71]⟩ 11) ⟨#[119, 98, 101, 87, 66, 69]⟩ 3 87 (by decide) (by decide) (by decide)
  by_cases c1_3 : key = 87
  · subst c1_3
    go_wp2
    go_ret
    exact ⟨rfl, below_alloc (below_alloc (Below.refl w.heap.size w) (.stringIter ⟨#[104, 108, 48, 94, 36, 106, 107, 43, 45, 95, 71]⟩ 11)) (.stringIter ⟨#[119, 98, 101, 87, 66, 69]⟩ 4)⟩
  have c1_3b : (key == 87) = false := beq_eq_false_iff_ne.mpr c1_3
  go_wp2
  clear hn
  rw [rounds_succ]
  have hn := nx_ (w.iter ⟨#[104, 108, 48, 94, 36, 106, 107, 43, 45, 95, 71]⟩ 11) ⟨#[119, 98, 101, 87, 66, 69]⟩ 4 66 (by decide) (by decide) (by decide)
  by_cases c1_4 : key = 66
  · subst c1_4
    go_wp2
    go_ret
    exact ⟨rfl, below_alloc (below_alloc (Below.refl w.heap.size w) (.stringIter ⟨#[104, 108, 48, 94, 36, 106, 107, 43, 45, 95, 71]⟩ 11)) (.stringIter ⟨#[119, 98, 101, 87, 66, 69]⟩ 5)⟩
  have c1_4b : (key == 66) = false := beq_eq_false_iff_ne.mpr c1_4
  go_wp2
  clear hn
  rw [rounds_succ]
  have hn := nx_ (w.iter ⟨#[104, 108, 48, 94, 36, 106, 107, 43, 45, 95, 71]⟩ 11) ⟨#[119, 98, 101, 87, 66, 69]⟩ 5 69 (by decide) (by decide) (by decide)
  by_cases c1_5 : key = 69
  · subst c1_5
    go_wp2
    go_ret
    exact ⟨rfl, below_alloc (below_alloc (Below.refl w.heap.size w) (.stringIter ⟨#[104, 108, 48, 94, 36, 106, 107, 43, 45, 95, 71]⟩ 11)) (.stringIter ⟨#[119, 98, 101, 87, 66, 69]⟩ 6)⟩
  have c1_5b : (key == 69) = false := beq_eq_false_iff_ne.mpr c1_5
  go_wp2
  clear hn
  rw [rounds_succ]
  have hn := nxe_ (w.iter ⟨#[104, 108, 48, 94, 36, 106, 107, 43, 45, 95, 71]⟩ 11) ⟨#[119, 98, 101, 87, 66, 69]⟩ 6 (by decide)
  go_wp2
  clear hn
  rw [rounds_succ]
  go_wp2
  refine wp_loop_rounds 5 ?_
  rw [rounds_succ]
  have hn := nx_ ((w.iter ⟨#[104, 108, 48, 94, 36, 106, 107, 43, 45, 95, 71]⟩ 11).iter ⟨#[119, 98, 101, 87, 66, 69]⟩ 6) ⟨#[102, 70, 116, 84]⟩ 0 102 (by decide) (by decide) (by decide)
  by_cases c2_0 : key = 102
  · subst c2_0
    go_wp2
    go_ret
    exact ⟨rfl, below_alloc (below_alloc (below_alloc (Below.refl w.heap.size w) (.stringIter ⟨#[104, 108, 48, 94, 36, 106, 107, 43, 45, 95, 71]⟩ 11)) (.stringIter ⟨#[119, 98, 101, 87, 66, 69]⟩ 6)) (.stringIter ⟨#[102, 70, 116, 84]⟩ 1)⟩
  have c2_0b : (key == 102) = false := beq_eq_false_iff_ne.mpr c2_0
  go_wp2
  clear hn
  rw [rounds_succ]
  have hn := nx_ ((w.iter ⟨#[104, 108, 48, 94, 36, 106, 107, 43, 45, 95, 71]⟩ 11).iter ⟨#[119, 98, 101, 87, 66, 69]⟩ 6) ⟨#[102, 70, 116, 84]⟩ 1 70 (by decide) (by decide) (by decide)
  by_cases c2_1 : key = 70
  · subst c2_1
    go_wp2
    go_ret
    exact ⟨rfl, below_alloc (below_alloc (below_alloc (Below.refl w.heap.size w) (.stringIter ⟨#[104, 108, 48, 94, 36, 106, 107, 43, 45, 95, 71]⟩ 11)) (.stringIter ⟨#[119, 98, 101, 87, 66, 69]⟩ 6)) (.stringIter ⟨#[102, 70, 116, 84]⟩ 2)⟩
  have c2_1b : (key == 70) = false := beq_eq_false_iff_ne.mpr c2_1
  go_wp2
  clear hn
  rw [rounds_succ]
  have hn := nx_ ((w.iter ⟨#[104, 108, 48, 94, 36, 106, 107, 43, 45, 95, 71]⟩ 11).iter ⟨#[119, 98, 101, 87, 66, 69]⟩ 6) ⟨#[102, 70, 116, 84]⟩ 2 116 (by decide) (by decide) (by decide)
  by_cases c2_2 : key = 116
  · subst c2_2
    go_wp2
    go_ret
    exact ⟨rfl, below_alloc (below_alloc (below_alloc (Below.refl w.heap.size w) (.stringIter ⟨#[104, 108, 48, 94, 36, 106, 107, 43, 45, 95, 71]⟩ 11)) (.stringIter ⟨#[119, 98, 101, 87, 66, 69]⟩ 6)) (.stringIter ⟨#[102, 70, 116, 84]⟩ 3)⟩
  have c2_2b : (key == 116) = false := beq_eq_false_iff_ne.mpr c2_2
  go_wp2
  clear hn
  rw [rounds_succ]
  have hn := nx_ ((w.iter ⟨#[104, 108, 48, 94, 36, 106, 107, 43, 45, 95, 71]⟩ 11).iter ⟨#[119, 98, 101, 87, 66, 69]⟩ 6) ⟨#[102, 70, 116, 84]⟩ 3 84 (by decide) (by decide) (by decide)
  by_cases c2_3 : key = 84
  · subst c2_3
    go_wp2
    go_ret
    exact ⟨rfl, below_alloc (below_alloc (below_alloc (Below.refl w.heap.size w) (.stringIter ⟨#[104, 108, 48, 94, 36, 106, 107, 43, 45, 95, 71]⟩ 11)) (.stringIter ⟨#[119, 98, 101, 87, 66, 69]⟩ 6)) (.stringIter ⟨#[102, 70, 116, 84]⟩ 4)⟩
  have c2_3b : (key == 84) = false := beq_eq_false_iff_ne.mpr c2_3
  go_wp2
  clear hn
  rw [rounds_succ]
  have hn := nxe_ ((w.iter ⟨#[104, 108, 48, 94, 36, 106, 107, 43, 45, 95, 71]⟩ 11).iter ⟨#[119, 98, 101, 87, 66, 69]⟩ 6) ⟨#[102, 70, 116, 84]⟩ 4 (by decide)
  go_wp2
  clear hn
  rw [rounds_succ]
  go_wp2
  refine wp_loop_rounds 3 ?_
  rw [rounds_succ]
  have hn := nx_ (((w.iter ⟨#[104, 108, 48, 94, 36, 106, 107, 43, 45, 95, 71]⟩ 11).iter ⟨#[119, 98, 101, 87, 66, 69]⟩ 6).iter ⟨#[102, 70, 116, 84]⟩ 4) ⟨#[59, 44]⟩ 0 59 (by decide) (by decide) (by decide)
  by_cases c3_0 : key = 59
  · subst c3_0
    go_wp2
    go_ret
    exact ⟨rfl, below_alloc (below_alloc (below_alloc (below_alloc (Below.refl w.heap.size w) (.stringIter ⟨#[104, 108, 48, 94, 36, 106, 107, 43, 45, 95, 71]⟩ 11)) (.stringIter ⟨#[119, 98, 101, 87, 66, 69]⟩ 6)) (.stringIter ⟨#[102, 70, 116, 84]⟩ 4)) (.stringIter ⟨#[59, 44]⟩ 1)⟩
  have c3_0b : (key == 59) = false := beq_eq_false_iff_ne.mpr c3_0
  go_wp2
  clear hn
  rw [rounds_succ]
  have hn := nx_ (((w.iter ⟨#[104, 108, 48, 94, 36, 106, 107, 43, 45, 95, 71]⟩ 11).iter ⟨#[119, 98, 101, 87, 66, 69]⟩ 6).iter ⟨#[102, 70, 116, 84]⟩ 4) ⟨#[59, 44]⟩ 1 44 (by decide) (by decide) (by decide)
  by_cases c3_1 : key = 44
  · subst c3_1
    go_wp2
    go_ret
    exact ⟨rfl, below_alloc (below_alloc (below_alloc (below_alloc (Below.refl w.heap.size w) (.stringIter ⟨#[104, 108, 48, 94, 36, 106, 107, 43, 45, 95, 71]⟩ 11)) (.stringIter ⟨#[119, 98, 101, 87, 66, 69]⟩ 6)) (.stringIter ⟨#[102, 70, 116, 84]⟩ 4)) (.stringIter ⟨#[59, 44]⟩ 2)⟩
  have c3_1b : (key == 44) = false := beq_eq_false_iff_ne.mpr c3_1
  go_wp2
  clear hn
  rw [rounds_succ]
  have hn := nxe_ (((w.iter ⟨#[104, 108, 48, 94, 36, 106, 107, 43, 45, 95, 71]⟩ 11).iter ⟨#[119, 98, 101, 87, 66, 69]⟩ 6).iter ⟨#[102, 70, 116, 84]⟩ 4) ⟨#[59, 44]⟩ 2 (by decide)
  go_wp2
  clear hn
  rw [rounds_succ]
  go_wp2
  refine wp_loop_rounds 3 ?_
  rw [rounds_succ]
  have hn := nx_ ((((w.iter ⟨#[104, 108, 48, 94, 36, 106, 107, 43, 45, 95, 71]⟩ 11).iter ⟨#[119, 98, 101, 87, 66, 69]⟩ 6).iter ⟨#[102, 70, 116, 84]⟩ 4).iter ⟨#[59, 44]⟩ 2) ⟨#[123, 125]⟩ 0 123 (by decide) (by decide) (by decide)
  by_cases c4_0 : key = 123
  · subst c4_0
    go_wp2
    go_ret
    exact ⟨rfl, below_alloc (below_alloc (below_alloc (below_alloc (below_alloc (Below.refl w.heap.size w) (.stringIter ⟨#[104, 108, 48, 94, 36, 106, 107, 43, 45, 95, 71]⟩ 11)) (.stringIter ⟨#[119, 98, 101, 87, 66, 69]⟩ 6)) (.stringIter ⟨#[102, 70, 116, 84]⟩ 4)) (.stringIter ⟨#[59, 44]⟩ 2)) (.stringIter ⟨#[123, 125]⟩ 1)⟩
  have c4_0b : (key == 123) = false := beq_eq_false_iff_ne.mpr c4_0
  go_wp2
  clear hn
  rw [rounds_succ]
  have hn := nx_ ((((w.iter ⟨#[104, 108, 48, 94, 36, 106, 107, 43, 45, 95, 71]⟩ 11).iter ⟨#[119, 98, 101, 87, 66, 69]⟩ 6).iter ⟨#[102, 70, 116, 84]⟩ 4).iter ⟨#[59, 44]⟩ 2) ⟨#[123, 125]⟩ 1 125 (by decide) (by decide) (by decide)
  by_cases c4_1 : key = 125
  · subst c4_1
    go_wp2
    go_ret
    exact ⟨rfl, below_alloc (below_alloc (below_alloc (below_alloc (below_alloc (Below.refl w.heap.size w) (.stringIter ⟨#[104, 108, 48, 94, 36, 106, 107, 43, 45, 95, 71]⟩ 11)) (.stringIter ⟨#[119, 98, 101, 87, 66, 69]⟩ 6)) (.stringIter ⟨#[102, 70, 116, 84]⟩ 4)) (.stringIter ⟨#[59, 44]⟩ 2)) (.stringIter ⟨#[123, 125]⟩ 2)⟩
  have c4_1b : (key == 125) = false := beq_eq_false_iff_ne.mpr c4_1
  go_wp2
  clear hn
  rw [rounds_succ]
  have hn := nxe_ ((((w.iter ⟨#[104, 108, 48, 94, 36, 106, 107, 43, 45, 95, 71]⟩ 11).iter ⟨#[119, 98, 101, 87, 66, 69]⟩ 6).iter ⟨#[102, 70, 116, 84]⟩ 4).iter ⟨#[59, 44]⟩ 2) ⟨#[123, 125]⟩ 2 (by decide)
  go_wp2
  clear hn
  rw [rounds_succ]
  go_wp2
  refine wp_loop_rounds 2 ?_
  rw [rounds_succ]
  have hn := nx_ (((((w.iter ⟨#[104, 108, 48, 94, 36, 106, 107, 43, 45, 95, 71]⟩ 11).iter ⟨#[119, 98, 101, 87, 66, 69]⟩ 6).iter ⟨#[102, 70, 116, 84]⟩ 4).iter ⟨#[59, 44]⟩ 2).iter ⟨#[123, 125]⟩ 2) ⟨#[37]⟩ 0 37 (by decide) (by decide) (by decide)
  by_cases c5_0 : key = 37
  · subst c5_0
    go_wp2
    go_ret
    exact ⟨rfl, below_alloc (below_alloc (below_alloc (below_alloc (below_alloc (below_alloc (Below.refl w.heap.size w) (.stringIter ⟨#[104, 108, 48, 94, 36, 106, 107, 43, 45, 95, 71]⟩ 11)) (.stringIter ⟨#[119, 98, 101, 87, 66, 69]⟩ 6)) (.stringIter ⟨#[102, 70, 116, 84]⟩ 4)) (.stringIter ⟨#[59, 44]⟩ 2)) (.stringIter ⟨#[123, 125]⟩ 2)) (.stringIter ⟨#[37]⟩ 1)⟩
  have c5_0b : (key == 37) = false := beq_eq_false_iff_ne.mpr c5_0
  go_wp2
  clear hn
  rw [rounds_succ]
  have hn := nxe_ (((((w.iter ⟨#[104, 108, 48, 94, 36, 106, 107, 43, 45, 95, 71]⟩ 11).iter ⟨#[119, 98, 101, 87, 66, 69]⟩ 6).iter ⟨#[102, 70, 116, 84]⟩ 4).iter ⟨#[59, 44]⟩ 2).iter ⟨#[123, 125]⟩ 2) ⟨#[37]⟩ 1 (by decide)
  go_wp2
  clear hn
  rw [rounds_succ]
  go_wp2
  refine wp_loop_rounds 3 ?_
  rw [rounds_succ]
  have hn := nx_ ((((((w.iter ⟨#[104, 108, 48, 94, 36, 106, 107, 43, 45, 95, 71]⟩ 11).iter ⟨#[119, 98, 101, 87, 66, 69]⟩ 6).iter ⟨#[102, 70, 116, 84]⟩ 4).iter ⟨#[59, 44]⟩ 2).iter ⟨#[123, 125]⟩ 2).iter ⟨#[37]⟩ 1) ⟨#[39, 96]⟩ 0 39 (by decide) (by decide) (by decide)
  by_cases c6_0 : key = 39
  · subst c6_0
    go_wp2
    go_ret
    exact ⟨rfl, below_alloc (below_alloc (below_alloc (below_alloc (below_alloc (below_alloc (below_alloc (Below.refl w.heap.size w) (.stringIter ⟨#[104, 108, 48, 94, 36, 106, 107, 43, 45, 95, 71]⟩ 11)) (.stringIter ⟨#[119, 98, 101, 87, 66, 69]⟩ 6)) (.stringIter ⟨#[102, 70, 116, 84]⟩ 4)) (.stringIter ⟨#[59, 44]⟩ 2)) (.stringIter ⟨#[123, 125]⟩ 2)) (.stringIter ⟨#[37]⟩ 1)) (.stringIter ⟨#[39, 96]⟩ 1)⟩
  have c6_0b : (key == 39) = false := beq_eq_false_iff_ne.mpr c6_0
  go_wp2
  clear hn
  rw [rounds_succ]
  have hn := nx_ ((((((w.iter ⟨#[104, 108, 48, 94, 36, 106, 107, 43, 45, 95, 71]⟩ 11).iter ⟨#[119, 98, 101, 87, 66, 69]⟩ 6).iter ⟨#[102, 70, 116, 84]⟩ 4).iter ⟨#[59, 44]⟩ 2).iter ⟨#[123, 125]⟩ 2).iter ⟨#[37]⟩ 1) ⟨#[39, 96]⟩ 1 96 (by decide) (by decide) (by decide)
  by_cases c6_1 : key = 96
  · subst c6_1
    go_wp2
    go_ret
    exact ⟨rfl, below_alloc (below_alloc (below_alloc (below_alloc (below_alloc (below_alloc (below_alloc (Below.refl w.heap.size w) (.stringIter ⟨#[104, 108, 48, 94, 36, 106, 107, 43, 45, 95, 71]⟩ 11)) (.stringIter ⟨#[119, 98, 101, 87, 66, 69]⟩ 6)) (.stringIter ⟨#[102, 70, 116, 84]⟩ 4)) (.stringIter ⟨#[59, 44]⟩ 2)) (.stringIter ⟨#[123, 125]⟩ 2)) (.stringIter ⟨#[37]⟩ 1)) (.stringIter ⟨#[39, 96]⟩ 2)⟩
  have c6_1b : (key == 96) = false := beq_eq_false_iff_ne.mpr c6_1
  go_wp2
  clear hn
  rw [rounds_succ]
  have hn := nxe_ ((((((w.iter ⟨#[104, 108, 48, 94, 36, 106, 107, 43, 45, 95, 71]⟩ 11).iter ⟨#[119, 98, 101, 87, 66, 69]⟩ 6).iter ⟨#[102, 70, 116, 84]⟩ 4).iter ⟨#[59, 44]⟩ 2).iter ⟨#[123, 125]⟩ 2).iter ⟨#[37]⟩ 1) ⟨#[39, 96]⟩ 2 (by decide)
  go_wp2
  clear hn
  rw [rounds_succ]
  go_wp2
  go_ret
  have hk : kindOf key = 0 := by simp only [kindOf, hg, c0_0, c0_1, c0_2, c0_3, c0_4, c0_5, c0_6, c0_7, c0_8, c0_9, c0_10, c1_0, c1_1, c1_2, c1_3, c1_4, c1_5, c2_0, c2_1, c2_2, c2_3, c3_0, c3_1, c4_0, c4_1, c5_0, c6_0, c6_1, or_self, if_false]
  rw [hk]
  exact ⟨rfl, (below_alloc (below_alloc (below_alloc (below_alloc (below_alloc (below_alloc (below_alloc (Below.refl w.heap.size w) (.stringIter ⟨#[104, 108, 48, 94, 36, 106, 107, 43, 45, 95, 71]⟩ 11)) (.stringIter ⟨#[119, 98, 101, 87, 66, 69]⟩ 6)) (.stringIter ⟨#[102, 70, 116, 84]⟩ 4)) (.stringIter ⟨#[59, 44]⟩ 2)) (.stringIter ⟨#[123, 125]⟩ 2)) (.stringIter ⟨#[37]⟩ 1)) (.stringIter ⟨#[39, 96]⟩ 2))⟩
theorem move_kind.calls (a0 r : Int) (w : World) (h : move_kind.f a0 = some r) :
    Calls Tryd.prog 42 #[.int .i64 a0] w fun e w' => e = .returned (.int .i64 r) ∧ Below w.heap.size w w' := by
  obtain rfl := Option.some.inj h
  exact kind_walk a0 w
end Go.Proofs.YtbgmmcngkdhpcaaDoor
