/- What the statements share: a list is looked through, the texts are weighed, the offsets are played. Conditions: none. -/
import Derived.Test.YtbgmmcngkdhpcaaDoorLQa
import Derived.Test.YtbgmmcngkdhpcaaDoorP0
import Derived.Test.YtbgmmcngkdhpcaaDoorP2
import Derived.Test.YtbgmmcngkdhpcaaDoorP3
namespace Go.Proofs.YtbgmmcngkdhpcaaDoor.P
open Go.RowKit Go.Proofs.YtbgmmcngkdhpcaaDoor Go.Proofs.YtbgmmcngkdhpcaaDoorW.PrintWords Go.Proofs.YtbgmmcngkdhpcaaDoorW.PrintLast Go.Proofs.YtbgmmcngkdhpcaaDoorW.PrintMore
theorem num_ref (at_ n : Int) : quillref0_Num.f at_ n = some (decide (0 ≤ at_ ∧ at_ ≤ n)) := by
  unfold quillref0_Num.f
  by_cases h : at_ ≥ 0
  · rw [if_pos h]
    congr 1
    exact decide_eq_decide.2 ⟨fun h2 => ⟨h, h2⟩, fun h2 => h2.2⟩
  · rw [if_neg h, decide_eq_false (show ¬ (0 ≤ at_ ∧ at_ ≤ n) by omega)]
theorem between_ref (a b c : Int) : quillref0_Between.f a b c = some (decide (b ≤ a ∧ a ≤ c)) := by
  unfold quillref0_Between.f
  by_cases h : a ≥ b
  · rw [if_pos h]
    congr 1
    exact decide_eq_decide.2 ⟨fun h2 => ⟨h, h2⟩, fun h2 => h2.2⟩
  · rw [if_neg h, decide_eq_false (show ¬ (b ≤ a ∧ a ≤ c) by omega)]
theorem rdOf_mem {S : List ByteArray} {i : Int} (h0 : 0 ≤ i) (h1 : i < S.length) : rdOf ByteArray.empty S i ∈ S := by
  unfold rdOf
  rw [List.getD_eq_getElem?_getD, List.getElem?_eq_getElem (by omega)]
  exact List.getElem_mem _
theorem texts_loop (S : List ByteArray) (hl : S.length * 16 ≤ 140737488351232) (hs : ∀ s ∈ S, s.size ≤ 140737488351232) (d : Nat) : ∀ (i : Nat) (n : Int), i + d = S.length → 0 ≤ n →
    ∃ v, Ev (fun k => quilllaw0_Texts.l0 k S n (i : Int)) v ∧ n ≤ v ∧ (v < 1048576 → ∀ s ∈ S.drop i, (s.size : Int) ≤ v) := by
  induction d with
  | zero =>
    intro i n hi h0
    refine ⟨n, ev_shift ?_, Int.le_refl _, fun _ s hs => ?_⟩
    · simp only [quilllaw0_Texts.l0]
      exact ev_neg (by omega) (Ev.now _)
    · rw [List.drop_eq_nil_of_le (by omega)] at hs
      cases hs
  | succ d ih =>
    intro i n hi h0
    have hlt : i < S.length := by omega
    by_cases hn : n < 1048576
    · have hz := hs S[i] (List.getElem_mem _)
      have hr : rdOf ByteArray.empty S i = S[i] := by
        unfold rdOf
        rw [List.getD_eq_getElem?_getD, show ((i : Int)).toNat = i from rfl, List.getElem?_eq_getElem hlt]
        rfl
      obtain ⟨v, h1, h2, h3⟩ := ih (i + 1) (n + S[i].size) (by omega) (by omega)
      refine ⟨v, ev_shift ?_, by omega, fun hv s hs => ?_⟩
      · simp only [quilllaw0_Texts.l0]
        refine ev_pos (by omega) (ev_pos hn (ev_pos (by omega) ?_))
        rw [hr, w64 (x := n + (S[i].size : Int)) (by omega) (by omega), w64 (x := (i : Int) + 1) (by omega) (by omega)]
        exact_mod_cast h1
      · rw [List.drop_eq_getElem_cons hlt] at hs
        rcases List.mem_cons.1 hs with rfl | hs
        · omega
        · exact h3 hv s hs
    · refine ⟨n, ev_shift ?_, Int.le_refl _, fun hv => absurd hv hn⟩
      simp only [quilllaw0_Texts.l0]
      exact ev_pos (by omega) (ev_neg hn (Ev.now _))
theorem heavy_ev (S : List ByteArray) (hl : S.length * 16 ≤ 140737488351232) (hs : ∀ s ∈ S, s.size ≤ 140737488351232) (a1 a2 a3 a4 a5 a6 a7 : Int) :
    ∃ v, Ev (fun k => quilllaw10_Heavy.f k S a1 a2 a3 a4 a5 a6 a7) v ∧ (v = false → (S.length : Int) ≤ 6000 ∧ ∀ s ∈ S, s.size ≤ 6000) := by
  obtain ⟨v, h1, h2, h3⟩ := texts_loop S hl hs S.length 0 S.length (by omega) (by omega)
  refine ⟨decide (v > 6000), ?_, fun hv => ?_⟩
  · unfold quilllaw10_Heavy.f quilllaw1_Heavy.f quilllaw0_Texts.f
    exact Ev.bind (Ev.bind h1 (Ev.now _)) (Ev.now _)
  · have hv2 : ¬ v > 6000 := of_decide_eq_false hv
    refine ⟨by omega, fun s hs => ?_⟩
    have := h3 (by omega) s (by rw [List.drop_zero]; exact hs)
    omega
theorem within_some (a n : Int) (h0 : 1 ≤ n) (h1 : n ≤ 9223372036854775807) : ∃ v, quilllaw0_Within.f a n = some v := by
  unfold quilllaw0_Within.f
  rw [if_neg]
  · exact ⟨_, rfl⟩
  · have : IntKind.u64.wrap n = n % 18446744073709551616 := rfl
    rw [this]
    omega
theorem offsets_loop (t : List Int) (ht : t.length ≤ 6000) (S : List ByteArray) (a1 a2 a3 a4 a5 a6 a7 : Int) (d : Nat) : ∀ (i : Nat) (l : List Int), i + d = 12 → l.length = 3 + i →
    ∃ l', Ev (fun k => quilllaw10_Offsets.l0 k t l (i : Int) S a1 a2 a3 a4 a5 a6 a7) l' ∧ l'.length ≤ 15 := by
  induction d with
  | zero =>
    intro i l hi hl
    refine ⟨l, ev_shift ?_, by omega⟩
    simp only [quilllaw10_Offsets.l0]
    by_cases h : (i : Int) ≤ t.length
    · exact ev_pos h (ev_neg (by omega) (Ev.now _))
    · exact ev_neg h (Ev.now _)
  | succ d ih =>
    intro i l hi hl
    by_cases h : (i : Int) ≤ t.length
    · obtain ⟨v, hv⟩ := within_some (wrap64 (a1 + wrap64 ((i : Int) * wrap64 (1 + wrap64 ((t.length : Int) / 12))))) (wrap64 ((t.length : Int) + 1)) (by rw [w64 (by omega) (by omega)]; omega) (by rw [w64 (by omega) (by omega)]; omega)
      obtain ⟨l', h1, h2⟩ := ih (i + 1) (l ++ [v]) (by omega) (by simp; omega)
      refine ⟨l', ev_shift ?_, h2⟩
      simp only [quilllaw10_Offsets.l0]
      refine ev_pos h (ev_pos (by omega) (ev_bindc hv (ev_pos (by omega) ?_)))
      rw [w64 (x := (i : Int) + 1) (by omega) (by omega)]
      exact_mod_cast h1
    · refine ⟨l, ev_shift ?_, by omega⟩
      simp only [quilllaw10_Offsets.l0]
      exact ev_neg h (Ev.now _)
theorem offsets_ev (t : List Int) (ht : t.length ≤ 6000) (S : List ByteArray) (a1 a2 a3 a4 a5 a6 a7 : Int) : ∃ l, Ev (fun k => quilllaw10_Offsets.f k S a1 a2 a3 a4 a5 a6 a7 t) l ∧ l.length ≤ 15 :=
  offsets_loop t ht S a1 a2 a3 a4 a5 a6 a7 12 0 _ (by omega) rfl
end Go.Proofs.YtbgmmcngkdhpcaaDoor.P
