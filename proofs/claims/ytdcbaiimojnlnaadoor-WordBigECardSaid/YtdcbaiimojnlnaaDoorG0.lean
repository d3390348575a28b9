/- What the walks of this seat share: the runes of a string as a list, '[]rune(s)' as a row of the call's own, utf8's two tables as a premise. Conditions: none. -/
import Derived.Laws.IdiomStrings
import Derived.Shelf.Unicode.DecodeSlow
import Derived.Test.YtdcbaiimojnlnaaDoorWMore
import Derived.Test.YtdcbaiimojnlnaaDoorShelf
namespace Go.Proofs.YtdcbaiimojnlnaaDoor
open Go.RowKit Go.Proofs.YtdcbaiimojnlnaaDoorW.PrintWords Go.Proofs.YtdcbaiimojnlnaaDoorW.PrintLast Go.Proofs.YtdcbaiimojnlnaaDoorW.PrintMore
/-- The runes of a string, as '[]rune(s)' has them. -/
def runesAt (s : ByteArray) : Nat → Nat → List Int
  | 0, _ => []
  | k + 1, i => if i < s.size then (Int.ofNat (Utf8.decode s i).1) :: runesAt s k (i + (Utf8.decode s i).2) else []
def runesOf (s : ByteArray) : List Int := runesAt s s.size 0
theorem runesAt_len (s : ByteArray) : ∀ k i, (runesAt s k i).length ≤ k
  | 0, _ => Nat.le_refl _
  | k + 1, i => by
    unfold runesAt
    split
    · have := runesAt_len s k (i + (Utf8.decode s i).2)
      simp only [List.length_cons]
      omega
    · simp
theorem runesOf_len (s : ByteArray) : (runesOf s).length ≤ s.size := runesAt_len s _ _
theorem runesFrom_eq (s : ByteArray) : ∀ k i (acc : Array Value), Conv.runesFrom s k i acc = acc ++ (nums .i32 (runesAt s k i)).toArray
  | 0, _, acc => by simp [Conv.runesFrom, runesAt, nums]
  | k + 1, i, acc => by
    unfold Conv.runesFrom runesAt
    split
    · show Conv.runesFrom s k (i + (Utf8.decode s i).2) (acc.push (.int .i32 (Int.ofNat (Utf8.decode s i).1))) = _
      rw [runesFrom_eq s k]
      simp [nums]
    · simp [nums]
theorem runesFrom_of (s : ByteArray) : Conv.runesFrom s s.size 0 #[] = (nums .i32 (runesOf s)).toArray := by
  rw [runesFrom_eq]
  simp [runesOf]
section
variable {P : Program} {ops : Array Oper} {rest : List Oper} {o : Oper} {a : Act} {Q : Exit → Act → World → Prop}
/-- '[]rune(s)': a row of the call's own. -/
theorem R_runes {ok : Nat → Prop} {w0 W : World} (base e : Nat) (hgd : o.guard = none) {N : Tmp} (_hd : o.dst = some N) (src dst : TypeId) (x : Operand) (ho : o.op = .convert src dst x) (s : ByteArray) (hx : a.eval x = .string s)
    (hs : P.underlying src = some .string) (hdst : P.underlying dst = some (.slice e)) (he : P.underlying e = some (.int .i32)) (hl : s.size ≤ 70368744177664) (hok : ∀ k, W.heap.size ≤ k → ok k) (HB : Below base w0 W) (hbase : base ≤ W.heap.size)
    (h : ∀ v1 w1, Kd.R (Kd.int .i32) e w1 base ok v1 (runesOf s) → Below base w0 w1 → W.grownBy w1 none → (∃ b, v1.ownBlock = some b ∧ W.heap.size ≤ b) → wpList P ops Q rest (a.put o.dst v1) w1) : wpList P ops Q (o :: rest) a W := by
  have hn := runesOf_len s
  have hsz : (Conv.runesFrom s s.size 0 #[]).size = (runesOf s).length := by rw [runesFrom_of]; simp [nums]
  have hr := run_runes_of_string (P := P) W src dst e s hs hdst he (by omega)
  rw [hsz, runesFrom_of] at hr
  generalize hC : grownCap W (runesOf s).length 0 e = C at hr
  have hC1 : (runesOf s).length ≤ C := hC ▸ grownCap_ge _ _ _ _
  have hC2 : C ≤ maxLen := hC ▸ grownCap_le_maxLen _ _ _ _ (by unfold maxLen; omega)
  generalize hX : (nums IntKind.i32 (runesOf s)).toArray ++ Array.replicate (C - (runesOf s).length) (Value.int IntKind.i32 0) = X at hr
  have hX1 : X.size = C := by rw [← hX]; simp [nums]; omega
  have hX2 : X.toList.take (runesOf s).length = nums .i32 (runesOf s) := by rw [← hX]; simp [nums]
  refine Kd.event_run hgd (w1 := W.drew.alloc (.cells X e)) (v := .slice (some ⟨W.heap.size, 0, none⟩) (runesOf s).length C) ?_ (h _ _ ?_ ((below_drew HB).alloc hbase _) ?_ ⟨W.heap.size, by simp [Value.ownBlock], Nat.le_refl _⟩)
  · simp [execOp, ho, hx, hr]
  · refine Kd.R_of_own (h1 := fun _ => rfl) ?_ (fun k hk => hok k ?_)
    · refine ⟨by simp [encs], .inr ⟨W.heap.size, C, X, rfl, hbase, ?_, hC1, hC2, by rw [hX1, Nat.mul_one], ?_⟩⟩
      · exact heap_alloc_new W.drew _
      · rw [Nat.mul_one]; exact hX2
    · have : W.heap.size = k := by simpa [Value.ownBlock] using hk
      omega
  · have h2 := World.grownBy_alloc W.drew (.cells X e) none
    exact ⟨h2.os, h2.tape, h2.output, h2.size, h2.block⟩
end
/-- utf8's two tables lie in memory as the library's text lays them. -/
def Tabs (w : World) : Prop := Lib.Utf8Tabs 0 1 w
theorem Tabs.below {w w1 : World} (h : Tabs w) (hb : Below w.heap.size w w1) : Tabs w1 := Utf8Tabs_below h hb
end Go.Proofs.YtdcbaiimojnlnaaDoor
