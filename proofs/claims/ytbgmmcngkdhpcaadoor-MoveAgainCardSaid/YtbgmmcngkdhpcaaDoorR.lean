/- What a statement over quilllaw10.Ask (texts, offsets, a place, a key, a count, a rune) needs for its row: the argument laid open, utf8's tables out of what the row lists, a world that meets the row. Conditions: none. -/
import Derived.Test.YtbgmmcngkdhpcaaDoorRows
import Derived.Test.YtbgmmcngkdhpcaaDoorG0
import Derived.Lib.LaidIn
import Derived.Lib.LaidU8T
import Derived.Deep.DeepHandedRow
import Derived.Deep.DeepWitnessRowRef
import Derived.Deep.Strs
import Derived.SliceStrings
import Derived.Lib.SmallJoins
import Derived.ProofKit
import Derived.SizedLaws
import Derived.OpenShut
import Derived.Carry
namespace Go.Proofs.YtbgmmcngkdhpcaaDoor
open Go.Shelf
open Go.ChangeShapes Go.WideShapes Go.ChangeAt Go.RowKit Go.Lib Go.Joins Go.Proofs.YtbgmmcngkdhpcaaDoorW.PrintWords
theorem own : ownKnob Tryd.prog.godebug = none := by kernel_rfl
theorem laidOut : laidOutB Tryd.prog = true := by kernel_rfl
theorem ask_t28 : ∃ f0 f1 f2 f3, Tryd.prog.underlying 28 = some (.struct #[f0, f1, f2, f3]) ∧ f0.type = 26 ∧ f1.type = 3 ∧ f2.type = 3 ∧ f3.type = 3 ∧ f0.offset = 0 ∧ f1.offset = 5 ∧ f2.offset = 6 ∧ f3.offset = 7 :=
  ⟨_, _, _, _, Tryd.underlying28, rfl, rfl, rfl, rfl, rfl, rfl, rfl, rfl⟩
theorem ask_t26 : ∃ f0 f1 f2 f3, Tryd.prog.underlying 26 = some (.struct #[f0, f1, f2, f3]) ∧ f0.type = 22 ∧ f1.type = 3 ∧ f2.type = 3 ∧ f3.type = 24 ∧ f0.offset = 0 ∧ f1.offset = 1 ∧ f2.offset = 2 ∧ f3.offset = 3 :=
  ⟨_, _, _, _, Tryd.underlying26, rfl, rfl, rfl, rfl, rfl, rfl, rfl, rfl⟩
theorem ask_t24 : ∃ f0 f1, Tryd.prog.underlying 24 = some (.struct #[f0, f1]) ∧ f0.type = 3 ∧ f1.type = 3 ∧ f0.offset = 0 ∧ f1.offset = 1 :=
  ⟨_, _, Tryd.underlying24, rfl, rfl, rfl, rfl⟩
theorem cells28 : Tryd.prog.cellsOf 28 = 8 := by kernel_rfl
theorem cells26 : Tryd.prog.cellsOf 26 = 5 := by kernel_rfl
theorem cells24 : Tryd.prog.cellsOf 24 = 2 := by kernel_rfl
theorem cells22 : Tryd.prog.cellsOf 22 = 1 := by kernel_rfl
theorem cells9 : Tryd.prog.cellsOf 9 = 1 := by kernel_rfl
theorem cells3 : Tryd.prog.cellsOf 3 = 1 := by kernel_rfl
theorem bytes9 : Tryd.prog.bytesOf 9 = 16 := by kernel_rfl
theorem array8 {α : Type} {cs : Array α} (h : cs.size = 8) : ∃ c0 c1 c2 c3 c4 c5 c6 c7, cs = #[c0, c1, c2, c3, c4, c5, c6, c7] := by
  obtain ⟨l⟩ := cs
  match l, h with
  | [c0, c1, c2, c3, c4, c5, c6, c7], _ => exact ⟨c0, c1, c2, c3, c4, c5, c6, c7, rfl⟩
section
variable {H : Type} {enc : TypeId × Value → H} {W : World}
/-- An int that reads. -/
theorem int_of {n : Nat} {v : Value} {y : DataW H × List MemPlace} (h : DataW.trod enc Tryd.prog W 0 (fun _ => true) true n 3 [v] = some y) : ∃ k : Int, v = .int .i64 k ∧ (Lit.int .i64 k).wf = true := by
  obtain ⟨k, h1, _, h2⟩ := DataW.trod_int Tryd.underlying3 h
  exact ⟨k, by simpa using h1, h2⟩
/-- The texts, as a slice that is read. -/
theorem strs_of {n : Nat} {v : Value} {y : DataW H × List MemPlace} (h : DataW.trod enc Tryd.prog W 0 (fun _ => true) true n 22 [v] = some y) (hz : ∀ z ∈ DataW.weights Tryd.prog 22 y.1, z ≤ 140737488351232) :
    ∃ (A : Option Addr) (c : Nat) (l : List ByteArray), v = .slice A l.length c ∧ Kd.C Kd.string W A l.length l ∧ l.length ≤ c ∧ l.length * 16 ≤ 140737488351232 ∧ ∀ s ∈ l, s.size ≤ 140737488351232 := by
  rcases open_strings Tryd.underlying22 Tryd.underlying9 cells9 h with ⟨hcs, _⟩ | ⟨a, len, cap, ss, hcs, _, hl, hm, hn, hx, hcell, _⟩
  · obtain rfl : v = .slice none 0 0 := by simpa using hcs
    exact ⟨none, 0, [], rfl, Kd.C_nil _ _, Nat.le_refl _, by simp, fun s hs => by cases hs⟩
  · obtain rfl : v = .slice (some a) len cap := by simpa using hcs
    have hls : (ss.take len).length = len := by
      rw [List.length_take, hn]
      simp only [if_true]
      omega
    subst hx
    have hw := hz ((ss.take len).length * 16 + (ss.drop len).length * 16) (by
      simp only [DataW.weights, Tryd.underlying22, strs, List.length_map, bytes9]
      rw [← Nat.add_mul]
      exact List.mem_cons_self ..)
    refine ⟨some a, cap, ss.take len, by rw [hls], Kd.C_of_reads (d := ByteArray.empty) (h1 := fun _ => rfl) ⟨rfl, ?_, fun _ => ⟨a, rfl, fun j hj => ?_⟩⟩, by omega, by omega, fun s hs => ?_⟩
    · unfold maxLen at hm; omega
    · have hj2 : j < len := by omega
      have h3 := hcell j (by have : (ss.take len).length ≤ ss.length := List.length_take_le' _ _; omega)
      rw [h3]
      congr 2
      simp only [List.getD_eq_getElem?_getD, List.getElem?_take]
      rw [if_pos hj2]
    · have h4 := hz s.size (by
        simp only [DataW.weights, Tryd.underlying22]
        refine List.mem_cons_of_mem _ (List.mem_append_left _ ?_)
        clear hz hw hls hcell hn
        generalize ss.take len = ys at hs
        induction ys with
        | nil => cases hs
        | cons y ys ih =>
          simp only [strs, List.map_cons, DataW.weightsAll, List.mem_append]
          rcases List.mem_cons.1 hs with rfl | h5
          · exact .inl (by simp only [DataW.weights, List.mem_singleton, Array.length_toList]; rfl)
          · exact .inr (ih h5))
      exact h4
set_option maxRecDepth 100000 in
/-- The argument's cells, laid open. -/
theorem ask_cells {fuel : Nat} {c0 c1 c2 c3 c4 c5 c6 c7 : Value} {yy : DataW H × List MemPlace} (hf : DataW.trod enc Tryd.prog W 0 (fun _ => true) true fuel 28 [c0, c1, c2, c3, c4, c5, c6, c7] = some yy) (hz : ∀ z ∈ DataW.weights Tryd.prog 28 yy.1, z ≤ 140737488351232) :
    ∃ (A : Option Addr) (c : Nat) (l : List ByteArray) (a1 a2 a3 a4 a5 a6 a7 : Int), [c0, c1, c2, c3, c4, c5, c6, c7] = [.slice A l.length c, .int .i64 a1, .int .i64 a2, .int .i64 a3, .int .i64 a4, .int .i64 a5, .int .i64 a6, .int .i64 a7] ∧
      Kd.C Kd.string W A l.length l ∧ l.length ≤ c ∧ l.length * 16 ≤ 140737488351232 ∧ (∀ s ∈ l, s.size ≤ 140737488351232) ∧
      (Lit.int .i64 a1).wf = true ∧ (Lit.int .i64 a2).wf = true ∧ (Lit.int .i64 a3).wf = true ∧ (Lit.int .i64 a4).wf = true ∧ (Lit.int .i64 a5).wf = true ∧ (Lit.int .i64 a6).wf = true ∧ (Lit.int .i64 a7).wf = true := by
  obtain ⟨f0, f1, f2, f3, hs, e0, e1, e2, e3, o0, o1, o2, o3⟩ := ask_t28
  obtain ⟨y0, y1, y2, y3, n, hx, _, h0, h1, h2, h3⟩ := trod_struct4 hs hf
  subst hx
  rw [e0, o0, cells26] at h0
  rw [e1, o1, cells3] at h1
  rw [e2, o2, cells3] at h2
  rw [e3, o3, cells3] at h3
  have hz0 : ∀ z ∈ DataW.weights Tryd.prog 26 y0.1, z ≤ 140737488351232 := fun z hzz => hz z (by
    simp only [DataW.weights, hs, List.map_cons, DataW.weightsEach, e0, List.mem_append]
    exact .inl hzz)
  replace h0 : DataW.trod enc Tryd.prog W 0 (fun _ => true) true n 26 [c0, c1, c2, c3, c4] = some y0 := h0
  replace h1 : DataW.trod enc Tryd.prog W 0 (fun _ => true) true n 3 [c5] = some y1 := h1
  replace h2 : DataW.trod enc Tryd.prog W 0 (fun _ => true) true n 3 [c6] = some y2 := h2
  replace h3 : DataW.trod enc Tryd.prog W 0 (fun _ => true) true n 3 [c7] = some y3 := h3
  obtain ⟨a5, rfl, w5⟩ := int_of h1
  obtain ⟨a6, rfl, w6⟩ := int_of h2
  obtain ⟨a7, rfl, w7⟩ := int_of h3
  obtain ⟨g0, g1, g2, g3, hs2, e0', e1', e2', e3', o0', o1', o2', o3'⟩ := ask_t26
  obtain ⟨x0, x1, x2, x3, m, hx2, _, k0, k1, k2, k3⟩ := trod_struct4 hs2 h0
  subst hx2
  rw [e0', o0', cells22] at k0
  rw [e1', o1', cells3] at k1
  rw [e2', o2', cells3] at k2
  rw [e3', o3', cells24] at k3
  have hz1 : ∀ z ∈ DataW.weights Tryd.prog 22 x0.1, z ≤ 140737488351232 := fun z hzz => hz0 z (by
    simp only [DataW.weights, hs2, List.map_cons, DataW.weightsEach, e0', List.mem_append]
    exact .inl hzz)
  replace k0 : DataW.trod enc Tryd.prog W 0 (fun _ => true) true m 22 [c0] = some x0 := k0
  replace k1 : DataW.trod enc Tryd.prog W 0 (fun _ => true) true m 3 [c1] = some x1 := k1
  replace k2 : DataW.trod enc Tryd.prog W 0 (fun _ => true) true m 3 [c2] = some x2 := k2
  replace k3 : DataW.trod enc Tryd.prog W 0 (fun _ => true) true m 24 [c3, c4] = some x3 := k3
  obtain ⟨a1, rfl, w1⟩ := int_of k1
  obtain ⟨a2, rfl, w2⟩ := int_of k2
  obtain ⟨A, c, l, rfl, r1, r2, r3, r4⟩ := strs_of k0 hz1
  obtain ⟨q0, q1, hs3, e0'', e1'', o0'', o1''⟩ := ask_t24
  obtain ⟨z0, z1, m2, _, _, j0, j1⟩ := trod_struct2 hs3 k3
  rw [e0'', o0'', cells3] at j0
  rw [e1'', o1'', cells3] at j1
  obtain ⟨a3, rfl, w3⟩ := int_of (v := c3) j0
  obtain ⟨a4, rfl, w4⟩ := int_of (v := c4) j1
  exact ⟨A, c, l, a1, a2, a3, a4, a5, a6, a7, rfl, r1, r2, r3, r4, w1, w2, w3, w4, w5, w6, w7⟩
set_option maxRecDepth 100000 in
/-- The argument, laid open. -/
theorem ask_open {v : Value} {d : DataW H} {p : List MemPlace} {b : Nat} (hv : Value.okWide Tryd.prog W .any b 28 v) (h : DataW.Trod enc Tryd.prog W 0 (fun _ => true) true 28 v d p) (hz : ∀ z ∈ DataW.weights Tryd.prog 28 d, z ≤ 140737488351232) :
    ∃ (A : Option Addr) (c : Nat) (l : List ByteArray) (a1 a2 a3 a4 a5 a6 a7 : Int), v = .agg #[.slice A l.length c, .int .i64 a1, .int .i64 a2, .int .i64 a3, .int .i64 a4, .int .i64 a5, .int .i64 a6, .int .i64 a7] ∧
      Kd.C Kd.string W A l.length l ∧ l.length ≤ c ∧ l.length * 16 ≤ 140737488351232 ∧ (∀ s ∈ l, s.size ≤ 140737488351232) ∧
      (Lit.int .i64 a1).wf = true ∧ (Lit.int .i64 a2).wf = true ∧ (Lit.int .i64 a3).wf = true ∧ (Lit.int .i64 a4).wf = true ∧ (Lit.int .i64 a5).wf = true ∧ (Lit.int .i64 a6).wf = true ∧ (Lit.int .i64 a7).wf = true := by
  obtain ⟨f0, f1, f2, f3, hs, e0, e1, e2, e3, o0, o1, o2, o3⟩ := ask_t28
  obtain ⟨cs, rfl, hsz⟩ := okWide_struct hs hv
  obtain ⟨c0, c1, c2, c3, c4, c5, c6, c7, rfl⟩ := array8 (hsz.trans cells28)
  obtain ⟨fuel, hf⟩ := h
  obtain ⟨A, c, l, a1, a2, a3, a4, a5, a6, a7, hl, rest⟩ := ask_cells hf hz
  simp only [List.cons.injEq, and_true] at hl
  obtain ⟨rfl, rfl, rfl, rfl, rfl, rfl, rfl, rfl⟩ := hl
  exact ⟨A, c, l, a1, a2, a3, a4, a5, a6, a7, rfl, rest⟩
end
theorem first_is : Rows.laid_unicode_utf8_first = Lib.firstData := by kernel_rfl
theorem accept_is : (Rows.laid_unicode_utf8_acceptRanges : DataW Unit) = Lib.acceptData := by kernel_rfl
theorem tabs_of {W : World} (hL : laidMetH Tryd.prog [("unicode/utf8.acceptRanges", Rows.laid_unicode_utf8_acceptRanges), ("unicode/utf8.first", Rows.laid_unicode_utf8_first)] W) : Tabs W := by
  rw [first_is, accept_is] at hL
  exact utf8Tabs_of_readsT (U8Types.of196 Tryd.laysValid) ⟨by kernel_rfl, by kernel_rfl, by kernel_rfl, by kernel_rfl, by kernel_rfl, by kernel_rfl, by kernel_rfl⟩ (Lib.laidMet.reads hL (.tail _ (.head _))) (Lib.laidMet.reads hL (.head _))
/-- The witness: the settled world, the two variables holding what their text lays. -/
noncomputable def laidWorld (os : Os) : World :=
  let w0 := World.holding Tryd.prog os ⟨#[], #[], []⟩
  let put (h : Array Obj) (g : Nat) (cs : Array Value) : Array Obj := h.modify g fun
    | .cells _ t frozen => .cells cs t frozen
    | o => o
  let h1 := put w0.heap 0 (Lib.firstTab.map fun z => Value.int .u8 z).toArray
  let h2 := put h1 1 ((List.range 16).flatMap fun i => [Value.int .u8 (Lib.accLo i), Value.int .u8 (Lib.accHi i)]).toArray
  { w0 with heap := h2 }
theorem laid_met (os : Os) (args : Array Value) : laidMet Tryd.prog [("unicode/utf8.acceptRanges", Rows.laid_unicode_utf8_acceptRanges), ("unicode/utf8.first", Rows.laid_unicode_utf8_first)] ((laidWorld os).forCall (fun _ _ => 0) ⟨#[], args, []⟩).memory := by
  rw [first_is, accept_is]
  exact (LaidIn.of_run (l := [("unicode/utf8.acceptRanges", Lib.acceptData), ("unicode/utf8.first", Lib.firstData)]) [1, 0] 8 (by kernel_rfl) (by kernel_rfl) (by kernel_rfl) (by kernel_rfl)).met
def zero10 : Value := .agg #[.slice none 0 0, .int .i64 0, .int .i64 0, .int .i64 0, .int .i64 0, .int .i64 0, .int .i64 0, .int .i64 0]
end Go.Proofs.YtbgmmcngkdhpcaaDoor
