/- What the statements on motions and regions share: a text that may be; an offset that is; how much is played. Conditions: those of the statements' rows. -/
import Derived.Test.YtbgmmcngkdhpcaaDoorLQh
import Derived.Test.YtbgmmcngkdhpcaaDoorLQi
import Derived.Test.YtbgmmcngkdhpcaaDoorP0
import Derived.Test.YtbgmmcngkdhpcaaDoorP2
namespace Go.Proofs.YtbgmmcngkdhpcaaDoor.P
open Go.RowKit Go.Proofs.YtbgmmcngkdhpcaaDoor Go.Proofs.YtbgmmcngkdhpcaaDoorW.PrintWords Go.Proofs.YtbgmmcngkdhpcaaDoorW.PrintLast Go.Proofs.YtbgmmcngkdhpcaaDoorW.PrintMore
theorem may_size {s : ByteArray} (h : MayB s = true) : s.size ≤ 4000 := by
  unfold MayB at h
  simp only [Bool.and_eq_true, decide_eq_true_eq] at h
  exact h.1.1
theorem map_is (R B : List Int) (a : Int) : text_Map_Is.f R B a = some (decide (0 ≤ a ∧ a ≤ (R.length : Int))) := by
  unfold text_Map_Is.f
  by_cases h : a ≥ 0
  · rw [if_pos h]
    congr 1
    exact decide_eq_decide.mpr ⟨fun x => ⟨h, x⟩, fun x => x.2⟩
  · rw [if_neg h, decide_eq_false (fun x => h x.1)]
theorem heavy16 (S : List ByteArray) (hl : S.length * 16 ≤ 140737488351232) (hs : ∀ s ∈ S, s.size ≤ 140737488351232) (a1 a2 a3 a4 a5 a6 a7 : Int) (C : List S52) (k1 k2 : Int) (M : List S89) (hC : C.length ≤ 140737488351232) (hM : M.length ≤ 140737488351232) :
    ∃ v, Ev (fun k => quilllaw16_Heavy.f k S a1 a2 a3 a4 a5 a6 a7 C k1 k2 M) v ∧ (v = false → (S.length : Int) ≤ 6000 ∧ (∀ s ∈ S, s.size ≤ 6000) ∧ C.length + M.length ≤ 200) := by
  obtain ⟨v, h1, h2⟩ := heavy_ev S hl hs a1 a2 a3 a4 a5 a6 a7
  cases v
  · refine ⟨decide ((C.length : Int) + (M.length : Int) > 200), ?_, fun hv => ?_⟩
    · unfold quilllaw16_Heavy.f
      refine Ev.bind h1 (ev_neg (by decide) ?_)
      rw [w64 (by omega) (by omega)]
      exact Ev.now _
    · have := of_decide_eq_false hv
      exact ⟨(h2 rfl).1, (h2 rfl).2, by omega⟩
  · refine ⟨true, ?_, fun hv => by cases hv⟩
    unfold quilllaw16_Heavy.f
    exact Ev.bind h1 (ev_pos (by trivial) (Ev.now _))
end Go.Proofs.YtbgmmcngkdhpcaaDoor.P
