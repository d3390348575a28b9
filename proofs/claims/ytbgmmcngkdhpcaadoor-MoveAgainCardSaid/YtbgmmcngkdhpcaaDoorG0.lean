/- What the walks of this seat share: the runes of a string as a list, '[]rune(s)' as a row of the call's own, utf8's two tables as a premise. Conditions: none. -/
import Derived.Laws.IdiomStrings
import Derived.Laws.EntriesVeiled
import Derived.Shelf.Unicode.DecodeSlow
import Derived.Test.YtbgmmcngkdhpcaaDoorWAll
import Derived.Test.YtbgmmcngkdhpcaaDoorShelf
namespace Go.Proofs.YtbgmmcngkdhpcaaDoor
open Go.RowKit Go.Proofs.YtbgmmcngkdhpcaaDoorW.PrintWords Go.Proofs.YtbgmmcngkdhpcaaDoorW.PrintLast Go.Proofs.YtbgmmcngkdhpcaaDoorW.PrintMore
/-- The runes of a string, as '[]rune(s)' has them. -/
def runesAt (s : ByteArray) : Nat → Nat → List Int
  | 0, _ => []
  | k + 1, i => if i < s.size then (Int.ofNat (Utf8.decode s i).1) :: runesAt s k (i + (Utf8.decode s i).2) else []
def runesOf (s : ByteArray) : List Int := runesAt s s.size 0
theorem runesAt_len (s : ByteArray) : ∀ k i, (runesAt s k i).length ≤ k
  | 0, _ => Nat.le_refl _
  | k + 1, i => by
    unfold runesAt
    split
    · have := runesAt_len s k (i + (Utf8.decode s i).2)
      simp only [List.length_cons]
      omega
    · simp
theorem runesOf_len (s : ByteArray) : (runesOf s).length ≤ s.size := runesAt_len s _ _
theorem runesFrom_eq (s : ByteArray) : ∀ k i (acc : Array Value), Conv.runesFrom s k i acc = acc ++ (nums .i32 (runesAt s k i)).toArray
  | 0, _, acc => by simp [Conv.runesFrom, runesAt, nums]
  | k + 1, i, acc => by
    unfold Conv.runesFrom runesAt
    split
    · show Conv.runesFrom s k (i + (Utf8.decode s i).2) (acc.push (.int .i32 (Int.ofNat (Utf8.decode s i).1))) = _
      rw [runesFrom_eq s k]
      simp [nums]
    · simp [nums]
theorem runesFrom_of (s : ByteArray) : Conv.runesFrom s s.size 0 #[] = (nums .i32 (runesOf s)).toArray := by
  rw [runesFrom_eq]
  simp [runesOf]
section
variable {P : Program} {ops : Array Oper} {rest : List Oper} {o : Oper} {a : Act} {Q : Exit → Act → World → Prop}
/-- '[]rune(s)': a row of the call's own. -/
theorem R_runes {ok : Nat → Prop} {w0 W : World} (base e : Nat) (hgd : o.guard = none) {N : Tmp} (_hd : o.dst = some N) (src dst : TypeId) (x : Operand) (ho : o.op = .convert src dst x) (s : ByteArray) (hx : a.eval x = .string s)
    (hs : P.underlying src = some .string) (hdst : P.underlying dst = some (.slice e)) (he : P.underlying e = some (.int .i32)) (hl : s.size ≤ 70368744177664) (hok : ∀ k, W.heap.size ≤ k → ok k) (HB : Below base w0 W) (hbase : base ≤ W.heap.size)
    (h : ∀ v1 w1, Kd.R (Kd.int .i32) e w1 base ok v1 (runesOf s) → Below base w0 w1 → W.grownBy w1 none → (∃ b, v1.ownBlock = some b ∧ W.heap.size ≤ b) → wpList P ops Q rest (a.put o.dst v1) w1) : wpList P ops Q (o :: rest) a W := by
  have hn := runesOf_len s
  have hsz : (Conv.runesFrom s s.size 0 #[]).size = (runesOf s).length := by rw [runesFrom_of]; simp [nums]
  have hr := run_runes_of_string (P := P) W src dst e s hs hdst he (by omega)
  rw [hsz, runesFrom_of] at hr
  generalize hC : grownCap W (runesOf s).length 0 e = C at hr
  have hC1 : (runesOf s).length ≤ C := hC ▸ grownCap_ge _ _ _ _
  have hC2 : C ≤ maxLen := hC ▸ grownCap_le_maxLen _ _ _ _ (by unfold maxLen; omega)
  generalize hX : (nums IntKind.i32 (runesOf s)).toArray ++ Array.replicate (C - (runesOf s).length) (Value.int IntKind.i32 0) = X at hr
  have hX1 : X.size = C := by rw [← hX]; simp [nums]; omega
  have hX2 : X.toList.take (runesOf s).length = nums .i32 (runesOf s) := by rw [← hX]; simp [nums]
  refine Kd.event_run hgd (w1 := W.drew.alloc (.cells X e)) (v := .slice (some ⟨W.heap.size, 0, none⟩) (runesOf s).length C) ?_ (h _ _ ?_ ((below_drew HB).alloc hbase _) ?_ ⟨W.heap.size, by simp [Value.ownBlock], Nat.le_refl _⟩)
  · simp [execOp, ho, hx, hr]
  · refine Kd.R_of_own (h1 := fun _ => rfl) ?_ (fun k hk => hok k ?_)
    · refine ⟨by simp [encs], .inr ⟨W.heap.size, C, X, rfl, hbase, ?_, hC1, hC2, by rw [hX1, Nat.mul_one], ?_⟩⟩
      · exact heap_alloc_new W.drew _
      · rw [Nat.mul_one]; exact hX2
    · have : W.heap.size = k := by simpa [Value.ownBlock] using hk
      omega
  · have h2 := World.grownBy_alloc W.drew (.cells X e) none
    exact ⟨h2.os, h2.tape, h2.output, h2.size, h2.block⟩
end
/-- An operation of a region that yields in the world that stands. -/
theorem yields_here {P : Program} {ops : Array Oper} {Q : Exit → Act → World → Prop} {oi : Oper} {N : Option Tmp} {a : Act} {w : World} {K : Act → World → Prop} {v : Value} (hw : Region.wanted oi (yielded ops a.tmps) = true) (hN : oi.dst = N) (hrun : (execOp a.eval oi).run P w = .ok (.value v) w) (h : K (a.put N v) w) :
    if Region.wanted oi (yielded ops a.tmps) = true then Oper.wp P oi a w K Q else K (a.put N undef) w := by
  rw [if_pos hw]
  subst hN
  unfold Oper.wp
  rw [hrun, Oper.upon_value]
  exact h
/-- A call of a closure that lies in a slot, as goes_. -/
theorem goesc_ {P : Program} {ops : Array Oper} {Q : Exit → Act → World → Prop} {oi : Oper} {N : Option Tmp} {a : Act} {w : World} {K : Act → World → Prop} {f : FuncId} {fn : Func} {x : Operand} {xs : Array Operand} {ts : Array TypeId} (hf : P.funcs[f]? = some fn) (hname : (fn.name == "runtime.NumGoroutine") = false) (hb : fn.body.isSome = true) (args caps : Array Value)
    (hw : Region.wanted oi (yielded ops a.tmps) = true) (hN : oi.dst = N) (hop : oi.op = .call { callee := .value x, args := xs, argTypes := ts }) (hx : a.eval x = .func (.func f) #[] caps) (hargs : xs.map a.eval ++ caps = args)
    (h : Calls P f args w fun e w' => ∃ v, e = .returned v ∧ K (a.put N v) w') : if Region.wanted oi (yielded ops a.tmps) = true then Oper.wp P oi a w K Q else K (a.put N undef) w := by
  refine call_ f args hw hN ?_ h
  have he := enters_ hf hname hb args w
  have hargs' : (xs.map fun x => a.eval x) ++ caps = args := hargs
  unfold execOp
  simp [hop, resolve, Deferred.ofValue, invoke, hx, hargs', he]
section
variable {w W w1 : World} {g gb : Nat} {o : Obj} {t : TypeId} {l : List Value}
theorem cz0 {a0 : Value} (h : w.heap[g]? = some (.cells (a0 :: l).toArray t (0, 0))) : w.cell? ⟨g, 0, none⟩ = some a0 := (blk_cell h 0).trans rfl
theorem cz1 {a0 a1 : Value} (h : w.heap[g]? = some (.cells (a0 :: a1 :: l).toArray t (0, 0))) : w.cell? ⟨g, 1, none⟩ = some a1 := (blk_cell h 1).trans rfl
theorem cz2 {a0 a1 a2 : Value} (h : w.heap[g]? = some (.cells (a0 :: a1 :: a2 :: l).toArray t (0, 0))) : w.cell? ⟨g, 2, none⟩ = some a2 := (blk_cell h 2).trans rfl
theorem cz3 {a0 a1 a2 a3 : Value} (h : w.heap[g]? = some (.cells (a0 :: a1 :: a2 :: a3 :: l).toArray t (0, 0))) : w.cell? ⟨g, 3, none⟩ = some a3 := (blk_cell h 3).trans rfl
theorem cz4 {a0 a1 a2 a3 a4 : Value} (h : w.heap[g]? = some (.cells (a0 :: a1 :: a2 :: a3 :: a4 :: l).toArray t (0, 0))) : w.cell? ⟨g, 4, none⟩ = some a4 := (blk_cell h 4).trans rfl
theorem cz5 {a0 a1 a2 a3 a4 a5 : Value} (h : w.heap[g]? = some (.cells (a0 :: a1 :: a2 :: a3 :: a4 :: a5 :: l).toArray t (0, 0))) : w.cell? ⟨g, 5, none⟩ = some a5 := (blk_cell h 5).trans rfl
theorem cz6 {a0 a1 a2 a3 a4 a5 a6 : Value} (h : w.heap[g]? = some (.cells (a0 :: a1 :: a2 :: a3 :: a4 :: a5 :: a6 :: l).toArray t (0, 0))) : w.cell? ⟨g, 6, none⟩ = some a6 := (blk_cell h 6).trans rfl
theorem cz7 {a0 a1 a2 a3 a4 a5 a6 a7 : Value} (h : w.heap[g]? = some (.cells (a0 :: a1 :: a2 :: a3 :: a4 :: a5 :: a6 :: a7 :: l).toArray t (0, 0))) : w.cell? ⟨g, 7, none⟩ = some a7 := (blk_cell h 7).trans rfl
theorem cz8 {a0 a1 a2 a3 a4 a5 a6 a7 a8 : Value} (h : w.heap[g]? = some (.cells (a0 :: a1 :: a2 :: a3 :: a4 :: a5 :: a6 :: a7 :: a8 :: l).toArray t (0, 0))) : w.cell? ⟨g, 8, none⟩ = some a8 := (blk_cell h 8).trans rfl
theorem cz9 {a0 a1 a2 a3 a4 a5 a6 a7 a8 a9 : Value} (h : w.heap[g]? = some (.cells (a0 :: a1 :: a2 :: a3 :: a4 :: a5 :: a6 :: a7 :: a8 :: a9 :: l).toArray t (0, 0))) : w.cell? ⟨g, 9, none⟩ = some a9 := (blk_cell h 9).trans rfl
theorem cz10 {a0 a1 a2 a3 a4 a5 a6 a7 a8 a9 a10 : Value} (h : w.heap[g]? = some (.cells (a0 :: a1 :: a2 :: a3 :: a4 :: a5 :: a6 :: a7 :: a8 :: a9 :: a10 :: l).toArray t (0, 0))) : w.cell? ⟨g, 10, none⟩ = some a10 := (blk_cell h 10).trans rfl
theorem cz11 {a0 a1 a2 a3 a4 a5 a6 a7 a8 a9 a10 a11 : Value} (h : w.heap[g]? = some (.cells (a0 :: a1 :: a2 :: a3 :: a4 :: a5 :: a6 :: a7 :: a8 :: a9 :: a10 :: a11 :: l).toArray t (0, 0))) : w.cell? ⟨g, 11, none⟩ = some a11 := (blk_cell h 11).trans rfl
theorem geb {n : Nat} {u : World} (hg : gb = W.heap.size) (h : Below n u W) : u.heap.size ≤ gb := by rw [hg]; exact h.size
theorem blb (hb : Below W.heap.size W w1) (h : W.heap[g]? = some o) : w1.heap[g]? = some o := blk_below h hb
theorem nbl (hg : gb = W.heap.size) (h : W.heap[g]? = some o) : g ≠ gb := by rw [hg]; exact Nat.ne_of_lt (blk_lt h)
theorem nbr (hg : gb = W.heap.size) (h : W.heap[g]? = some o) : gb ≠ g := (nbl hg h).symm
end
/-- Which operations of a region are done. -/
def bs (n m : Nat) : Array Bool := ((List.range n).map fun i => m.testBit i).toArray
theorem map0 {α β : Type} {f : α → β} : #[].map f = (#[] : Array β) := by simp
theorem map1 {α β : Type} {f : α → β} {x0 : α} {u0 : β} (h0 : f x0 = u0) : #[x0].map f = (#[u0] : Array β) := by simp [h0]
theorem map2 {α β : Type} {f : α → β} {x0 x1 : α} {u0 u1 : β} (h0 : f x0 = u0) (h1 : f x1 = u1) : #[x0, x1].map f = (#[u0, u1] : Array β) := by simp [h0, h1]
theorem map3 {α β : Type} {f : α → β} {x0 x1 x2 : α} {u0 u1 u2 : β} (h0 : f x0 = u0) (h1 : f x1 = u1) (h2 : f x2 = u2) : #[x0, x1, x2].map f = (#[u0, u1, u2] : Array β) := by simp [h0, h1, h2]
theorem map4 {α β : Type} {f : α → β} {x0 x1 x2 x3 : α} {u0 u1 u2 u3 : β} (h0 : f x0 = u0) (h1 : f x1 = u1) (h2 : f x2 = u2) (h3 : f x3 = u3) : #[x0, x1, x2, x3].map f = (#[u0, u1, u2, u3] : Array β) := by simp [h0, h1, h2, h3]
theorem map5 {α β : Type} {f : α → β} {x0 x1 x2 x3 x4 : α} {u0 u1 u2 u3 u4 : β} (h0 : f x0 = u0) (h1 : f x1 = u1) (h2 : f x2 = u2) (h3 : f x3 = u3) (h4 : f x4 = u4) : #[x0, x1, x2, x3, x4].map f = (#[u0, u1, u2, u3, u4] : Array β) := by simp [h0, h1, h2, h3, h4]
theorem map6 {α β : Type} {f : α → β} {x0 x1 x2 x3 x4 x5 : α} {u0 u1 u2 u3 u4 u5 : β} (h0 : f x0 = u0) (h1 : f x1 = u1) (h2 : f x2 = u2) (h3 : f x3 = u3) (h4 : f x4 = u4) (h5 : f x5 = u5) : #[x0, x1, x2, x3, x4, x5].map f = (#[u0, u1, u2, u3, u4, u5] : Array β) := by simp [h0, h1, h2, h3, h4, h5]
/-- utf8's two tables lie in memory as the library's text lays them. -/
def Tabs (w : World) : Prop := Lib.Utf8Tabs 0 1 w
theorem Tabs.below {w w1 : World} (h : Tabs w) (hb : Below w.heap.size w w1) : Tabs w1 := Utf8Tabs_below h hb
end Go.Proofs.YtbgmmcngkdhpcaaDoor
