/- Steps that the walks' texts take again and again, each as one lemma whose last parts are found by themselves. Conditions: none. -/
import Derived.Test.YtbgmmcngkdhpcaaDoorG0
import Derived.Test.YtbgmmcngkdhpcaaDoorG2
import Derived.Test.YtbgmmcngkdhpcaaDoorWAll
namespace Go.Proofs.YtbgmmcngkdhpcaaDoor
open Go.RowKit Go.Proofs.YtbgmmcngkdhpcaaDoorW.PrintWords Go.Proofs.YtbgmmcngkdhpcaaDoorW.PrintLast Go.Proofs.YtbgmmcngkdhpcaaDoorW.PrintMore
/-- The heap below stands as it stood. -/
theorem bl_ {p : Prop} (h : p := by repeat with_reducible first | exact HB.out | apply pw_below_drewN | refine below_set ?_ (Aside0.out (by assumption)) | apply below_drew1 | apply below_alloc) : p := h
/-- A variable's block, behind stores, draws and new blocks. -/
theorem bk_ {p : Prop} (h : p := by repeat' first | (with_reducible first | exact Aside0.out (by assumption) | assumption | apply blk_put | apply blk_far | apply blk_drewN | apply blk_drew | apply blk_alloc) | rfl) : p := h
/-- What a call asks of what it is handed. -/
theorem sd_ {p : Prop} (h : p := by first | (with_reducible exact Aside0.out (by assumption)) | ((with_reducible repeat first | exact Aside0.out (by assumption) | refine blk_drewN ?_ _ | refine blk_drew ?_ | refine blk_alloc ?_ _); done) | ((with_reducible repeat first | exact Kd.C_below (Aside0.out (by assumption)) HB.out | exact Aside0.out (by assumption) | exact (Kd.R_reads' (Aside0.out (by assumption))).2.2 | refine Kd.C_drewN ?_ _ | refine Kd.C_drew ?_ | refine Kd.C_alloc ?_ _); done) | (with_reducible exact (Kd.R_reads' (Aside0.out (by assumption))).2.1) | exact Tabs.below HT.out bl_ | exact Kd.C_below (Aside0.out (by assumption)) bl_) : p := h
/-- What is handed back. -/
theorem rr_ {p : Prop} (h : p := by first | rfl | (simp [errW_none, errW_some] <;> rfl) | (simp [*, errW_none, errW_some] <;> rfl)) : p := h
theorem bindA {α β : Type} {o : Option α} {f : α → Option β} {r : β} (h : o.bind f = some r) : ∃ t, Aside0 (o = some t) ∧ f t = some r := by
  obtain ⟨t, h1, h2⟩ := Option.bind_eq_some_iff.mp h
  exact ⟨t, ⟨h1⟩, h2⟩
section
variable {P : Program} {md : Region.Mode} {ops : Array Oper} {Q : Exit → Act → World → Prop} {S : World → Prop} {ds : List Nat}
theorem pure1 {i : Nat} {N : Option Tmp} {oi : Oper} {v : Value} {fuel : Nat} {l : Array Bool} {a a' : Act} {w : World} (l' : Array Bool) (h : wpAnyLast P md ops Q S ds fuel l' a' w)
    (hi : ops[i]? = some oi := by rfl) (hN : oi.dst = N := by rfl) (hc : anyB md ops l l' i = true := by first | exact any_of HT_.out (by kernel_rfl) | kernel_rfl) (hQ : ∀ c a w, Q (.panic c) (a.put oi.dst v) w → Q (.panic c) a w := by exact fun _ _ _ h => h)
    (hy : Yields P ops oi v a := by (refine Or.inl ⟨by rfl, ?_⟩; intro w'; go_simp; with_reducible rfl)) (ha : a.put N v = a' := by (simp only [Act.put, List.setIfInBounds_toArray, List.set_cons_zero, List.set_cons_succ, i64_w, i32_w]; rfl)) :
    wpAnyLast P md ops Q S ds (fuel + 1) l a w := pure_ l' hi hN hc hQ hy ha h
theorem take1 {i : Nat} {N : Option Tmp} {oi : Oper} {v : Value} {fuel : Nat} {l : Array Bool} {a a' : Act} {w : World} (l' : Array Bool) (hS : S w) (h : wpAnyLast P md ops Q S ds fuel l' a' w)
    (hi : ops[i]? = some oi := by rfl) (hN : oi.dst = N := by rfl) (hc : takeB md ops ds l l' i = true := by first | exact one_of HT_.out (by kernel_rfl) | kernel_rfl) (hQ : ∀ c a w, Q (.panic c) (a.put oi.dst v) w → Q (.panic c) a w := by exact fun _ _ _ h => h)
    (hy : YieldsIf P ops S oi v a := by (refine Or.inl ⟨by rfl, ?_⟩; intro w' s0; go_simp; with_reducible rfl)) (ha : a.put N v = a' := by (simp only [Act.put, List.setIfInBounds_toArray, List.set_cons_zero, List.set_cons_succ, i64_w, i32_w]; rfl)) :
    wpAnyLast P md ops Q S ds (fuel + 1) l a w := take_ l' hi hN hc hQ hy hS ha h
end
section
variable {P : Program} {ops : Array Oper} {rest : List Oper} {o : Oper} {a : Act} {Q : Exit → Act → World → Prop}
theorem box1 {W : World} {N : Tmp} {cs : Array Value} {t : TypeId}
    (h : ∀ g, g = W.heap.size → ∀ w1, w1.heap[g]? = some (.cells cs t (0, 0)) → Below W.heap.size W w1 → wpList P ops Q rest (a.put o.dst (.pointer (some ⟨g, 0, none⟩))) w1)
    (hd : o.dst = some N := by rfl) (hg : o.guard = none := by rfl) (hr : (execOp a.eval o).run P W = .ok (.value (.pointer (some ⟨W.heap.size, 0, none⟩))) (W.alloc (.cells cs t (0, 0))) := by first | (go_simp; done) | (go_simp; rfl)) :
    wpList P ops Q (o :: rest) a W := box_event hg hd hr h
theorem goesL1 (N : Option Tmp) {f : FuncId} {fn : Func} {xs : Array Operand} {ts : Array TypeId} (hf : P.funcs[f]? = some fn) {w : World} (args : Array Value)
    (hop : o.op = .call { callee := .value (.func f), args := xs, argTypes := ts }) (hargs : xs.map a.eval = args)
    (h : Calls P f args w fun e w' => ∃ v, e = .returned v ∧ wpList P ops Q rest (a.put N v) w')
    (hd : o.dst = N := by rfl) (hg : o.guard = none := by rfl) (hname : (fn.name == "runtime.NumGoroutine") = false := by kernel_rfl) (hb : fn.body.isSome = true := by rfl) : wpList P ops Q (o :: rest) a w :=
  goesL_ N hd hg hf hname hb args hop hargs h
end
section
variable {w : World} {g : Nat} {t : TypeId}
theorem cs1 {a0 : Value} (h : w.heap[g]? = some (.cells #[a0] t (0, 0))) : w.cell? ⟨g, 0, none⟩ = some a0 ∧ w.frozen? ⟨g, 0, none⟩ = false := ⟨cz0 h, blk_frozen h 0⟩
theorem cs2 {a0 a1 : Value} (h : w.heap[g]? = some (.cells #[a0, a1] t (0, 0))) : w.cell? ⟨g, 0, none⟩ = some a0 ∧ w.cell? ⟨g, 1, none⟩ = some a1 ∧ w.frozen? ⟨g, 0, none⟩ = false ∧ w.frozen? ⟨g, 1, none⟩ = false := ⟨cz0 h, cz1 h, blk_frozen h 0, blk_frozen h 1⟩
theorem cs3 {a0 a1 a2 : Value} (h : w.heap[g]? = some (.cells #[a0, a1, a2] t (0, 0))) : w.cell? ⟨g, 0, none⟩ = some a0 ∧ w.cell? ⟨g, 1, none⟩ = some a1 ∧ w.cell? ⟨g, 2, none⟩ = some a2 ∧ w.frozen? ⟨g, 0, none⟩ = false ∧ w.frozen? ⟨g, 1, none⟩ = false ∧ w.frozen? ⟨g, 2, none⟩ = false := ⟨cz0 h, cz1 h, cz2 h, blk_frozen h 0, blk_frozen h 1, blk_frozen h 2⟩
theorem cs6 {a0 a1 a2 a3 a4 a5 : Value} (h : w.heap[g]? = some (.cells #[a0, a1, a2, a3, a4, a5] t (0, 0))) : w.cell? ⟨g, 0, none⟩ = some a0 ∧ w.cell? ⟨g, 1, none⟩ = some a1 ∧ w.cell? ⟨g, 2, none⟩ = some a2 ∧ w.cell? ⟨g, 3, none⟩ = some a3 ∧ w.cell? ⟨g, 4, none⟩ = some a4 ∧ w.cell? ⟨g, 5, none⟩ = some a5 ∧
    w.frozen? ⟨g, 0, none⟩ = false ∧ w.frozen? ⟨g, 1, none⟩ = false ∧ w.frozen? ⟨g, 2, none⟩ = false ∧ w.frozen? ⟨g, 3, none⟩ = false ∧ w.frozen? ⟨g, 4, none⟩ = false ∧ w.frozen? ⟨g, 5, none⟩ = false :=
  ⟨cz0 h, cz1 h, cz2 h, cz3 h, cz4 h, cz5 h, blk_frozen h 0, blk_frozen h 1, blk_frozen h 2, blk_frozen h 3, blk_frozen h 4, blk_frozen h 5⟩
end
/-! ### ways parted -/
section
variable {α : Type} {x y r : Option α}
theorem ifT {d : Decidable (true = true)} (h : @ite _ (true = true) d x y = r) : x = r := by rw [if_pos rfl] at h; exact h
theorem ifF {d : Decidable (false = true)} (h : @ite _ (false = true) d x y = r) : y = r := by rw [if_neg Bool.false_ne_true] at h; exact h
section
variable {c c' : Prop} {d : Decidable c} {d' : Decidable c'}
theorem ifd (h : @ite _ c d x y = r) : (decide c = true ∧ x = r) ∨ (decide c = false ∧ y = r) := by
  by_cases q : c
  · rw [if_pos q] at h; exact .inl ⟨decide_eq_true q, h⟩
  · rw [if_neg q] at h; exact .inr ⟨decide_eq_false q, h⟩
theorem nfd (h : @ite _ c d x y = r) : (decide c = false ∧ y = r) ∨ (decide c = true ∧ x = r) := (ifd h).symm
theorem ifx (h : @ite _ c d x y = r) : x = r ∨ y = r := (ifd h).imp And.right And.right
theorem nfx (h : @ite _ c d x y = r) : y = r ∨ x = r := (ifx h).symm
theorem ifdn {a : α} (h : @ite _ c d x none = some a) : decide c = true ∧ x = some a := (ifd h).elim id (fun q => by cases q.2)
theorem ifxn {a : α} (h : @ite _ c d x none = some a) : x = some a := (ifdn h).2
theorem ifq {a : α} (h : @ite _ c d (@ite _ c' d' x none) none = some a) : decide c = true ∧ decide c' = true ∧ x = some a := ⟨(ifdn h).1, ifdn (ifdn h).2⟩
end
theorem ifb {b : Bool} {d : Decidable (b = true)} (h : @ite _ (b = true) d x y = r) : (b = true ∧ x = r) ∨ (b = false ∧ y = r) := by
  cases b
  · exact .inr ⟨rfl, ifF h⟩
  · exact .inl ⟨rfl, ifT h⟩
theorem nfb {b : Bool} {d : Decidable (b = true)} (h : @ite _ (b = true) d x y = r) : (b = false ∧ y = r) ∨ (b = true ∧ x = r) := (ifb h).symm
section
variable {β : Type} [BEq β] [LawfulBEq β] {u v : β} {d : Decidable (u = v)}
theorem ife (h : @ite _ (u = v) d x y = r) : ((u == v) = true ∧ (u != v) = false ∧ x = r) ∨ ((u == v) = false ∧ (u != v) = true ∧ y = r) := by
  by_cases q : u = v
  · rw [if_pos q] at h; exact .inl ⟨beq_iff_eq.mpr q, bne_eq_false_iff_eq.mpr q, h⟩
  · rw [if_neg q] at h; exact .inr ⟨beq_eq_false_iff_ne.mpr q, bne_iff_ne.mpr q, h⟩
theorem nfe (h : @ite _ (u = v) d x y = r) : ((u == v) = false ∧ (u != v) = true ∧ y = r) ∨ ((u == v) = true ∧ (u != v) = false ∧ x = r) := (ife h).symm
theorem ifen {a : α} (h : @ite _ (u = v) d x none = some a) : (u == v) = true ∧ (u != v) = false ∧ x = some a := (ife h).elim id (fun q => by cases q.2.2)
end
end
section
variable {A B C D E : Type} {a a' : A} {b b' : B} {c c' : C} {d d' : D} {e e' : E}
theorem so2 (h : some (a, b) = some (a', b')) : a = a' ∧ b = b' := by simpa using h
theorem so3 (h : some (a, b, c) = some (a', b', c')) : a = a' ∧ b = b' ∧ c = c' := by simpa using h
theorem so4 (h : some (a, b, c, d) = some (a', b', c', d')) : a = a' ∧ b = b' ∧ c = c' ∧ d = d' := by simpa using h
theorem so5 (h : some (a, b, c, d, e) = some (a', b', c', d', e')) : a = a' ∧ b = b' ∧ c = c' ∧ d = d' ∧ e = e' := by simpa using h
end
/-! ### small proofs -/
theorem r3_ {p : Prop} (h : p := by first | rfl | (simp; done) | (simp [*]; done)) : p := h
theorem ol_ {p : Prop} (h : p := by first | omega | exact Nat.le_refl _) : p := h
theorem dr_ {p : Prop} (h : p := by repeat (first | exact Drawn0.refl _ | apply Drawn0.step)) : p := h
theorem ro_ {q p : Prop} (k : Aside0 q) (h : q → p := by intro h_; (with_reducible repeat (first | apply Kd.R_alloc | apply Kd.R_drewN | apply Kd.R_drew)); exact h_) : p := h k.out
theorem od_ (c : Prop) [Decidable c] (h : decide c = true := by assumption) : c := of_decide_eq_true h
theorem ix_ {n : Nat} {i : Int} {X : Prop} (f : 0 ≤ i → i < (n : Int) → X) (p : decide (0 ≤ i) = true := by assumption) (q : decide (i < (n : Int)) = true := by assumption) : (0 ≤ i) = True ∧ (i < (n : Int)) = True ∧ X :=
  ⟨eq_true (of_decide_eq_true p), eq_true (of_decide_eq_true q), f (of_decide_eq_true p) (of_decide_eq_true q)⟩
section
variable {w0 W w1 : World} {n g gb : Nat} {o : Obj}
theorem nzl (hz : W.heap.size ≤ gb) (h : Aside0 (W.heap[g]? = some o)) : g ≠ gb := Nat.ne_of_lt (Nat.lt_of_lt_of_le (blk_lt h.out) hz)
theorem nzr (hz : W.heap.size ≤ gb) (h : Aside0 (W.heap[g]? = some o)) : gb ≠ g := (nzl hz h).symm
theorem blB (hb : Below W.heap.size W w1) (h : Aside0 (W.heap[g]? = some o)) : Aside0 (w1.heap[g]? = some o) := ⟨blb hb h.out⟩
theorem bkB (g : Nat) (cs : Array Value) (t : TypeId) (hb : Below W.heap.size W w1) (h : W.heap[g]? = some (.cells cs t (0, 0)) := by exact bk_) : Aside0 (w1.heap[g]? = some (.cells cs t (0, 0))) := ⟨blk_below h hb⟩
theorem hB (hb : Below W.heap.size W w1) (h : Below w0.heap.size w0 W := by exact bl_) : Aside0 (Below w0.heap.size w0 w1) := ⟨below_step h hb⟩
theorem gE (hg : gb = W.heap.size) (h : Below w0.heap.size w0 W := by exact bl_) : Aside0 (w0.heap.size ≤ gb) := ⟨geb hg h⟩
theorem gZ (hz : W.heap.size ≤ gb) (h : Below w0.heap.size w0 W := by exact bl_) : Aside0 (w0.heap.size ≤ gb) := ⟨Nat.le_trans (below_size h) hz⟩
theorem oL {α : Type} {d : Kd α} {e : Nat} {ok : Nat → Prop} {v : Value} {xs : List α} (k : d.R e w1 W.heap.size ok v xs) (h : Below w0.heap.size w0 W := by exact bl_) : Aside0 (d.R e w1 w0.heap.size ok v xs) := ⟨Kd.R_lower k (below_size h)⟩
theorem hb_ {a : Addr} {v : Value} (HB : Aside0 (Below w0.heap.size w0 W)) (h : w0.cell? a = some v) : W.cell? a = some v := (HB.out.cell (World.block_lt_of_cell? w0 _ h)).trans h
end
/-- Cells that are held stand behind stores elsewhere. -/
theorem dn_ {w : World} {n : Nat} {a : Addr} {v : Value} (h : w.cell? a = some v) : (w.drewN n).cell? a = some v := h
theorem dq_ {w : World} {a : Addr} {v : Value} (h : w.cell? a = some v) : w.drew.cell? a = some v := h
theorem hh_ {p : Prop} (h : p := by (try (have hHeld := hHeld; repeat (have h_ := hHeld.1; replace hHeld := hHeld.2))); repeat' (with_reducible first | assumption | exact hb_ HB (by assumption) | exact cz0 (Aside0.out (by assumption)) | exact cz1 (Aside0.out (by assumption)) | exact cz2 (Aside0.out (by assumption)) | exact cz3 (Aside0.out (by assumption)) | exact cz4 (Aside0.out (by assumption)) | exact cz5 (Aside0.out (by assumption)) | refine And.intro ?_ ?_ | refine dn_ ?_ | refine dq_ ?_ | refine (cell_far (by assumption) _).trans ?_ | refine (cell_keep ?_ _).trans ?_)) : p := h
/-! ### steps -/
/-- The first i operations of a region are done. -/
def lo (n i : Nat) : Array Bool := bs n (2 ^ i - 1)
section
variable {P : Program} {md : Region.Mode} {ops : Array Oper} {Q : Exit → Act → World → Prop} {S : World → Prop} {ds : List Nat} {N : Option Tmp} {oi : Oper} {v : Value} {fuel : Nat} {l : Array Bool} {a a' : Act} {w : World}
theorem pu {d op ty ps af gu} (i : Nat) (l' : Array Bool) (h : wpAnyLast P md ops Q S ds fuel l' a' w)
    (hi : ops[i]? = some (Oper.mk d op ty ps af gu) := by rfl) (hc : anyB md ops l l' i = true := by first | exact any_of HT_.out (by kernel_rfl) | kernel_rfl) (hQ : ∀ c a w, Q (.panic c) (a.put d v) w → Q (.panic c) a w := by exact fun _ _ _ h => h)
    (hy : Yields P ops (Oper.mk d op ty ps af gu) v a := by (refine Or.inl ⟨by rfl, ?_⟩; intro w'; go_simp; with_reducible rfl)) (ha : a.put d v = a' := by (simp only [Act.put, List.setIfInBounds_toArray, List.set_cons_zero, List.set_cons_succ, i64_w, i32_w]; rfl)) :
    wpAnyLast P md ops Q S ds (fuel + 1) l a w := pure_ l' hi rfl hc hQ hy ha h
theorem pn {d op ty ps af gu} (i : Nat) (l' : Array Bool) (h : wpAnyLast P md ops Q S ds fuel l' a' w)
    (hi : ops[i]? = some (Oper.mk d op ty ps af gu) := by rfl) (hc : anyB md ops l l' i = true := by first | exact any_of HT_.out (by kernel_rfl) | kernel_rfl) (hQ : ∀ c a w, Q (.panic c) (a.put d undef) w → Q (.panic c) a w := by exact fun _ _ _ h => h)
    (hy : Yields P ops (Oper.mk d op ty ps af gu) undef a := by exact Or.inr ⟨by rfl, rfl⟩) (ha : a.put d undef = a' := by (simp only [Act.put, List.setIfInBounds_toArray, List.set_cons_zero, List.set_cons_succ, i64_w, i32_w]; rfl)) :
    wpAnyLast P md ops Q S ds (fuel + 1) l a w := pure_ l' hi rfl hc hQ hy ha h
theorem tk {d op ty ps af gu} (i : Nat) (l' : Array Bool) (hS : S w) (h : wpAnyLast P md ops Q S ds fuel l' a' w)
    (hi : ops[i]? = some (Oper.mk d op ty ps af gu) := by rfl) (hc : takeB md ops ds l l' i = true := by first | exact one_of HT_.out (by kernel_rfl) | kernel_rfl) (hQ : ∀ c a w, Q (.panic c) (a.put d v) w → Q (.panic c) a w := by exact fun _ _ _ h => h)
    (hy : YieldsIf P ops S (Oper.mk d op ty ps af gu) v a := by (refine Or.inl ⟨by rfl, ?_⟩; intro w' s0; go_simp; with_reducible rfl)) (ha : a.put d v = a' := by (simp only [Act.put, List.setIfInBounds_toArray, List.set_cons_zero, List.set_cons_succ, i64_w, i32_w]; rfl)) :
    wpAnyLast P md ops Q S ds (fuel + 1) l a w := take_ l' hi rfl hc hQ hy hS ha h
theorem pi {d op ty ps af gu} {n i : Nat} (h : wpAnyLast P md ops Q S ds fuel (lo n (i + 1)) a' w)
    (hi : ops[i]? = some (Oper.mk d op ty ps af gu) := by rfl) (hc : anyB md ops (lo n i) (lo n (i + 1)) i = true := by first | exact any_of HT_.out (by kernel_rfl) | kernel_rfl) (hQ : ∀ c a w, Q (.panic c) (a.put d v) w → Q (.panic c) a w := by exact fun _ _ _ h => h)
    (hy : Yields P ops (Oper.mk d op ty ps af gu) v a := by (refine Or.inl ⟨by rfl, ?_⟩; intro w'; go_simp; with_reducible rfl)) (ha : a.put d v = a' := by (simp only [Act.put, List.setIfInBounds_toArray, List.set_cons_zero, List.set_cons_succ, i64_w, i32_w]; rfl)) :
    wpAnyLast P md ops Q S ds (fuel + 1) (lo n i) a w := pure_ _ hi rfl hc hQ hy ha h
theorem pj {d op ty ps af gu} {n i : Nat} (h : wpAnyLast P md ops Q S ds fuel (lo n (i + 1)) a' w)
    (hi : ops[i]? = some (Oper.mk d op ty ps af gu) := by rfl) (hc : anyB md ops (lo n i) (lo n (i + 1)) i = true := by first | exact any_of HT_.out (by kernel_rfl) | kernel_rfl) (hQ : ∀ c a w, Q (.panic c) (a.put d undef) w → Q (.panic c) a w := by exact fun _ _ _ h => h)
    (hy : Yields P ops (Oper.mk d op ty ps af gu) undef a := by exact Or.inr ⟨by rfl, rfl⟩) (ha : a.put d undef = a' := by (simp only [Act.put, List.setIfInBounds_toArray, List.set_cons_zero, List.set_cons_succ, i64_w, i32_w]; rfl)) :
    wpAnyLast P md ops Q S ds (fuel + 1) (lo n i) a w := pure_ _ hi rfl hc hQ hy ha h
theorem tj {d op ty ps af gu} {n i : Nat} (hS : S w) (h : wpAnyLast P md ops Q S ds fuel (lo n (i + 1)) a' w)
    (hi : ops[i]? = some (Oper.mk d op ty ps af gu) := by rfl) (hc : takeB md ops ds (lo n i) (lo n (i + 1)) i = true := by first | exact take_ofW HT_.out HW_.out (by kernel_rfl) | exact one_of HT_.out (by kernel_rfl) | kernel_rfl) (hQ : ∀ c a w, Q (.panic c) (a.put d v) w → Q (.panic c) a w := by exact fun _ _ _ h => h)
    (hy : YieldsIf P ops S (Oper.mk d op ty ps af gu) v a := by (refine Or.inl ⟨by rfl, ?_⟩; intro w' s0; go_simp; with_reducible rfl)) (ha : a.put d v = a' := by (simp only [Act.put, List.setIfInBounds_toArray, List.set_cons_zero, List.set_cons_succ, i64_w, i32_w]; rfl)) :
    wpAnyLast P md ops Q S ds (fuel + 1) (lo n i) a w := take_ _ hi rfl hc hQ hy hS ha h
theorem nm1 (t : Tmp) {v : Value} (h : wpAnyLast P md ops Q S ds fuel l a' w) (ha : a.put (some t) v = a' := by (simp only [Act.put, List.setIfInBounds_toArray, List.set_cons_zero, List.set_cons_succ, i64_w, i32_w]; rfl)) : wpAnyLast P md ops Q S ds fuel l (a.put (some t) v) w := norm_ ha h
end
section
variable {P : Program} {ops : Array Oper} {rest : List Oper} {o : Oper} {a : Act} {Q : Exit → Act → World → Prop} {W : World}
theorem cm_ {f : FuncId} {as_ : Array Value} {Q R : Ending → World → Prop} (h : Calls P f as_ W Q) (k : ∀ e w', Q e w' → R e w') : Calls P f as_ W R := h.mono k
theorem gC (f : FuncId) {xs : Array Operand} {ts : Array TypeId} (_ho : o.op = .call { callee := .value (.func f), args := xs, argTypes := ts }) (h : wpList P ops Q (o :: rest) a W) : wpList P ops Q (o :: rest) a W := h
theorem gN (N : Tmp) (_hN : o.dst = some N) (h : wpList P ops Q (o :: rest) a W) : wpList P ops Q (o :: rest) a W := h
theorem bx (N : Tmp) (cs : Array Value) (t : TypeId)
    (h : ∀ g, g = W.heap.size → ∀ w1, w1.heap[g]? = some (.cells cs t (0, 0)) → Below W.heap.size W w1 → wpList P ops Q rest (a.put o.dst (.pointer (some ⟨g, 0, none⟩))) w1)
    (hd : o.dst = some N := by rfl) (hg : o.guard = none := by rfl) (hr : (execOp a.eval o).run P W = .ok (.value (.pointer (some ⟨W.heap.size, 0, none⟩))) (W.alloc (.cells cs t (0, 0))) := by first | (go_simp; done) | (go_simp; rfl)) :
    wpList P ops Q (o :: rest) a W := box1 (N := N) h hd hg hr
end
end Go.Proofs.YtbgmmcngkdhpcaaDoor
