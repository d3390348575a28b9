/- What a statement over quilllaw16.Ask (texts and others; commands, what was sought last, marks) needs for its row: the argument laid open. Conditions: none. -/
import Derived.Test.YtbgmmcngkdhpcaaDoorR
import Derived.Deep.Slices
import Derived.Test.YtbgmmcngkdhpcaaDoorP0
namespace Go.Proofs.YtbgmmcngkdhpcaaDoor
open Go.Shelf
open Go.ChangeShapes Go.WideShapes Go.ChangeAt Go.RowKit Go.Lib Go.Joins Go.Deep Go.Proofs.YtbgmmcngkdhpcaaDoorW.PrintWords Go.Proofs.YtbgmmcngkdhpcaaDoor.P
section
variable {H : Type} {enc : TypeId × Value → H} {W : World}
/-- A slice of records, as a list that is read. -/
theorem recs_of {α : Type} [Inhabited α] {d : Kd α} {t e : TypeId} {n0 : Nat} {v : Value} {x : DataW H × List MemPlace} (ht : Tryd.prog.underlying t = some (.slice e)) (hc : Tryd.prog.cellsOf e = d.sz) (hb : 1 ≤ Tryd.prog.bytesOf e)
    (hel : ∀ (n : Nat) (cs : List Value) (y : DataW H × List MemPlace), DataW.trod enc Tryd.prog W 0 (fun _ => true) true n e cs = some y → ∃ p : α, d.K W p cs)
    (h : DataW.trod enc Tryd.prog W 0 (fun _ => true) true n0 t [v] = some x) (hz : ∀ z ∈ DataW.weights Tryd.prog t x.1, z ≤ 140737488351232) :
    ∃ (A : Option Addr) (c : Nat) (l : List α), v = .slice A l.length c ∧ Kd.C d W A l.length l ∧ l.length ≤ c ∧ l.length ≤ 140737488351232 := by
  rcases open_slice ht h with ⟨hcs, _⟩ | ⟨a, len, cap, m, n, D, Pl, hcs, _, hl, hm, hmm, hx, hi⟩
  · obtain rfl : v = .slice none 0 0 := by simpa using hcs
    exact ⟨none, 0, [], rfl, Kd.C_nil d W, Nat.le_refl _, by simp⟩
  · obtain rfl : v = .slice (some a) len cap := by simpa using hcs
    have hlm : len ≤ m := by
      rw [hmm]
      simp only [if_true]
      exact hl
    have hch : ∀ i : Nat, ∃ p : α, i < len → ∃ cs, W.cells? 0 (a.add (i * d.sz)) d.sz = some cs ∧ d.K W p cs := by
      intro i
      by_cases hil : i < len
      · obtain ⟨cs, g1, g2⟩ := hi i (by omega)
        obtain ⟨p, hp⟩ := hel n cs _ g2
        rw [hc] at g1
        exact ⟨p, fun _ => ⟨cs, g1, hp⟩⟩
      · exact ⟨default, fun q => absurd q hil⟩
    obtain ⟨V, hV⟩ := Classical.axiomOfChoice hch
    have hll : ((List.range len).map V).length = len := by simp
    have hw := hz (len * Tryd.prog.bytesOf e + (m - len) * Tryd.prog.bytesOf e) (by
      rw [← Nat.add_mul, hx]
      simp only [DataW.weights, ht, List.length_map, List.length_range]
      exact List.mem_cons_self ..)
    have hle : len * 1 ≤ len * Tryd.prog.bytesOf e := Nat.mul_le_mul_left _ hb
    refine ⟨some a, cap, (List.range len).map V, by rw [hll], ⟨rfl, ?_, fun _ => ⟨a, rfl, fun j p hj => ?_⟩⟩, by omega, by omega⟩
    · unfold maxLen at hm
      omega
    · obtain ⟨hj1, hj2⟩ := List.getElem?_eq_some_iff.1 hj
      have hj3 : j < len := by omega
      obtain ⟨cs, g1, g2⟩ := hV j hj3
      obtain ⟨_, g3, g4⟩ := World.cells?_some g1
      have hp : V j = p := by simpa using hj2
      rw [← hp]
      refine ⟨cs, g3, g2, fun i u hu => ?_⟩
      have hi2 : i < d.sz := by
        have := (List.getElem?_eq_some_iff.1 hu).1
        omega
      have := g4 i hi2
      rw [Go.Deep.add_add] at this
      rw [this]
      exact hu
instance : Inhabited S52 := ⟨⟨0, 0, 0, 0, 0, 0⟩⟩
instance : Inhabited S89 := ⟨⟨0, 0⟩⟩
theorem cells52 : Tryd.prog.cellsOf 52 = 6 := by kernel_rfl
theorem cells89 : Tryd.prog.cellsOf 89 = 2 := by kernel_rfl
theorem cells31 : Tryd.prog.cellsOf 31 = 2 := by kernel_rfl
theorem cells29 : Tryd.prog.cellsOf 29 = 1 := by kernel_rfl
theorem cells32 : Tryd.prog.cellsOf 32 = 1 := by kernel_rfl
theorem cells34 : Tryd.prog.cellsOf 34 = 12 := by kernel_rfl
set_option maxRecDepth 100000 in
theorem cmd_of (n : Nat) (cs : List Value) (y : DataW H × List MemPlace) (h : DataW.trod enc Tryd.prog W 0 (fun _ => true) true n 52 cs = some y) : ∃ p : S52, k52.K W p cs := by
  obtain ⟨xs, n', _, _, hlen, hxl, hf⟩ := DataW.trod_struct Tryd.underlying52 h
  rw [cells52] at hlen
  match cs, hlen, xs, hxl with
  | [c0, c1, c2, c3, c4, c5], _, [y0, y1, y2, y3, y4, y5], _ =>
    obtain ⟨k0, rfl, _⟩ := int_of (v := c0) (y := y0) (by simpa [cells3] using hf 0 _ rfl)
    obtain ⟨k1, rfl, _⟩ := int_of (v := c1) (y := y1) (by simpa [cells3] using hf 1 _ rfl)
    obtain ⟨k2, rfl, _⟩ := int_of (v := c2) (y := y2) (by simpa [cells3] using hf 2 _ rfl)
    obtain ⟨k3, rfl, _⟩ := int_of (v := c3) (y := y3) (by simpa [cells3] using hf 3 _ rfl)
    obtain ⟨k4, rfl, _⟩ := int_of (v := c4) (y := y4) (by simpa [cells3] using hf 4 _ rfl)
    obtain ⟨k5, rfl, _⟩ := int_of (v := c5) (y := y5) (by simpa [cells3] using hf 5 _ rfl)
    exact ⟨⟨k0, k1, k2, k3, k4, k5⟩, k52_mk W _⟩
set_option maxRecDepth 100000 in
theorem mark_of (n : Nat) (cs : List Value) (y : DataW H × List MemPlace) (h : DataW.trod enc Tryd.prog W 0 (fun _ => true) true n 89 cs = some y) : ∃ p : S89, k89.K W p cs := by
  obtain ⟨xs, n', _, _, hlen, hxl, hf⟩ := DataW.trod_struct Tryd.underlying89 h
  rw [cells89] at hlen
  match cs, hlen, xs, hxl with
  | [c0, c1], _, [y0, y1], _ =>
    obtain ⟨k0, rfl, _⟩ := int_of (v := c0) (y := y0) (by simpa [cells3] using hf 0 _ rfl)
    obtain ⟨k1, rfl, _⟩ := int_of (v := c1) (y := y1) (by simpa [cells3] using hf 1 _ rfl)
    exact ⟨⟨k0, k1⟩, k89_mk W _⟩
theorem array12 {α : Type} {cs : Array α} (h : cs.size = 12) : ∃ c0 c1 c2 c3 c4 c5 c6 c7 c8 c9 c10 c11, cs = #[c0, c1, c2, c3, c4, c5, c6, c7, c8, c9, c10, c11] := by
  obtain ⟨l⟩ := cs
  match l, h with
  | [c0, c1, c2, c3, c4, c5, c6, c7, c8, c9, c10, c11], _ => exact ⟨c0, c1, c2, c3, c4, c5, c6, c7, c8, c9, c10, c11, rfl⟩
theorem ask_t34 : ∃ f0 f1 f2 f3, Tryd.prog.underlying 34 = some (.struct #[f0, f1, f2, f3]) ∧ f0.type = 28 ∧ f1.type = 29 ∧ f2.type = 31 ∧ f3.type = 32 ∧ f0.offset = 0 ∧ f1.offset = 8 ∧ f2.offset = 9 ∧ f3.offset = 11 :=
  ⟨_, _, _, _, Tryd.underlying34, rfl, rfl, rfl, rfl, rfl, rfl, rfl, rfl⟩
theorem ask_t31 : ∃ f0 f1, Tryd.prog.underlying 31 = some (.struct #[f0, f1]) ∧ f0.type = 3 ∧ f1.type = 3 ∧ f0.offset = 0 ∧ f1.offset = 1 :=
  ⟨_, _, Tryd.underlying31, rfl, rfl, rfl, rfl⟩
set_option maxRecDepth 100000 in
/-- The argument, laid open. -/
theorem ask16_open {v : Value} {d : DataW H} {p : List MemPlace} {b : Nat} (hv : Value.okWide Tryd.prog W .any b 34 v) (h : DataW.Trod enc Tryd.prog W 0 (fun _ => true) true 34 v d p) (hz : ∀ z ∈ DataW.weights Tryd.prog 34 d, z ≤ 140737488351232) :
    ∃ (A : Option Addr) (c : Nat) (l : List ByteArray) (a1 a2 a3 a4 a5 a6 a7 : Int) (A8 : Option Addr) (c8 : Nat) (l8 : List S52) (k1 k2 : Int) (A11 : Option Addr) (c11 : Nat) (l11 : List S89),
      v = .agg #[.slice A l.length c, .int .i64 a1, .int .i64 a2, .int .i64 a3, .int .i64 a4, .int .i64 a5, .int .i64 a6, .int .i64 a7, .slice A8 l8.length c8, .int .i64 k1, .int .i64 k2, .slice A11 l11.length c11] ∧
      (Kd.C Kd.string W A l.length l ∧ l.length ≤ c ∧ l.length * 16 ≤ 140737488351232 ∧ ∀ s ∈ l, s.size ≤ 140737488351232) ∧
      (Kd.C k52 W A8 l8.length l8 ∧ l8.length ≤ c8 ∧ l8.length ≤ 140737488351232) ∧ (Kd.C k89 W A11 l11.length l11 ∧ l11.length ≤ c11 ∧ l11.length ≤ 140737488351232) ∧
      (Lit.int .i64 a1).wf = true ∧ (Lit.int .i64 a2).wf = true ∧ (Lit.int .i64 a3).wf = true ∧ (Lit.int .i64 a4).wf = true ∧ (Lit.int .i64 a5).wf = true ∧ (Lit.int .i64 a6).wf = true ∧ (Lit.int .i64 a7).wf = true ∧ (Lit.int .i64 k1).wf = true ∧ (Lit.int .i64 k2).wf = true := by
  obtain ⟨f0, f1, f2, f3, hs, e0, e1, e2, e3, o0, o1, o2, o3⟩ := ask_t34
  obtain ⟨cs, rfl, hsz⟩ := okWide_struct hs hv
  obtain ⟨c0, c1, c2, c3, c4, c5, c6, c7, c8, c9, c10, c11, rfl⟩ := array12 (hsz.trans cells34)
  obtain ⟨fuel, hf⟩ := h
  obtain ⟨y0, y1, y2, y3, n, hx, _, h0, h1, h2, h3⟩ := trod_struct4 hs hf
  simp only [Prod.mk.injEq] at hx
  obtain ⟨rfl, _⟩ := hx
  rw [e0, o0, cells28] at h0
  rw [e1, o1, cells29] at h1
  rw [e2, o2, cells31] at h2
  rw [e3, o3, cells32] at h3
  have hz0 : ∀ z ∈ DataW.weights Tryd.prog 28 y0.1, z ≤ 140737488351232 := fun z hzz => hz z (by
    simp only [DataW.weights, hs, List.map_cons, DataW.weightsEach, e0, List.mem_append]
    exact .inl hzz)
  have hz1 : ∀ z ∈ DataW.weights Tryd.prog 29 y1.1, z ≤ 140737488351232 := fun z hzz => hz z (by
    simp only [DataW.weights, hs, List.map_cons, DataW.weightsEach, e1, List.mem_append]
    exact .inr (.inl hzz))
  have hz3 : ∀ z ∈ DataW.weights Tryd.prog 32 y3.1, z ≤ 140737488351232 := fun z hzz => hz z (by
    simp only [DataW.weights, hs, List.map_cons, DataW.weightsEach, e3, List.mem_append]
    exact .inr (.inr (.inr (.inl hzz))))
  replace h0 : DataW.trod enc Tryd.prog W 0 (fun _ => true) true n 28 [c0, c1, c2, c3, c4, c5, c6, c7] = some y0 := h0
  replace h1 : DataW.trod enc Tryd.prog W 0 (fun _ => true) true n 29 [c8] = some y1 := h1
  replace h2 : DataW.trod enc Tryd.prog W 0 (fun _ => true) true n 31 [c9, c10] = some y2 := h2
  replace h3 : DataW.trod enc Tryd.prog W 0 (fun _ => true) true n 32 [c11] = some y3 := h3
  obtain ⟨A8, q8, l8, rfl, r8, s8, t8⟩ := recs_of (d := k52) Tryd.underlying29 cells52 (of_decide_eq_true (by kernel_rfl)) cmd_of h1 hz1
  obtain ⟨A11, q11, l11, rfl, r11, s11, t11⟩ := recs_of (d := k89) Tryd.underlying32 cells89 (of_decide_eq_true (by kernel_rfl)) mark_of h3 hz3
  obtain ⟨q0, q1, hs3, e0', e1', o0', o1'⟩ := ask_t31
  obtain ⟨z0, z1, m2, _, _, j0, j1⟩ := trod_struct2 hs3 h2
  rw [e0', o0', cells3] at j0
  rw [e1', o1', cells3] at j1
  obtain ⟨k1, rfl, v1⟩ := int_of (v := c9) j0
  obtain ⟨k2, rfl, v2⟩ := int_of (v := c10) j1
  obtain ⟨A, c, l, a1, a2, a3, a4, a5, a6, a7, hl, r1, r2, r3, r4, w1, w2, w3, w4, w5, w6, w7⟩ := ask_cells h0 hz0
  simp only [List.cons.injEq, and_true] at hl
  obtain ⟨rfl, rfl, rfl, rfl, rfl, rfl, rfl, rfl⟩ := hl
  exact ⟨A, c, l, a1, a2, a3, a4, a5, a6, a7, A8, q8, l8, k1, k2, A11, q11, l11, rfl, ⟨r1, r2, r3, r4⟩, ⟨r8, s8, t8⟩, ⟨r11, s11, t11⟩, w1, w2, w3, w4, w5, w6, w7, v1, v2⟩
end
def zero16 : Value := .agg #[.slice none 0 0, .int .i64 0, .int .i64 0, .int .i64 0, .int .i64 0, .int .i64 0, .int .i64 0, .int .i64 0, .slice none 0 0, .int .i64 0, .int .i64 0, .slice none 0 0]
end Go.Proofs.YtbgmmcngkdhpcaaDoor
