/- The statement MoveAgain: for every input the law answers true, and its argument reads behind the call as it read before; and its tied card. Conditions: the statement's own alone. -/
import Derived.Test.YtbgmmcngkdhpcaaDoorCards
import Derived.Test.YtbgmmcngkdhpcaaDoorTie
import Derived.Test.YtbgmmcngkdhpcaaDoorLTr
import Derived.Test.YtbgmmcngkdhpcaaDoorP0
import Derived.Test.YtbgmmcngkdhpcaaDoorP28
import Derived.Test.YtbgmmcngkdhpcaaDoorQMoveAgain
namespace Go.Proofs.YtbgmmcngkdhpcaaDoor
open Go.Shelf
open Go.ChangeShapes Go.WideShapes Go.ChangeAt Go.RowKit Go.Lib
theorem moveAgain_witness (os : Os) {H : Type} (enc : TypeId × Value → H) :
    (OpenSpec.ofChange Rows.moveAgainSpec).preRow enc Tryd.prog Tryd.f5 Rows.moveAgainRow.domain false Rows.moveAgainRow.laid ((laidWorld os).forCall (fun _ _ => 0) ⟨#[], #[zero16], []⟩).memory #[zero16] := by
  have hw : (DataW.whole enc Tryd.prog ((laidWorld os).forCall (fun _ _ => 0) ⟨#[], #[zero16], []⟩).memory Tryd.f5.params.toList (OpenSpec.ofChange Rows.moveAgainSpec).vars false #[zero16].toList 8).map (fun x => (x.1, x.2.1)) =
      some ([.agg [.agg [.agg [.nil, .lit (.int .i64 0), .lit (.int .i64 0), .agg [.lit (.int .i64 0), .lit (.int .i64 0)]], .lit (.int .i64 0), .lit (.int .i64 0), .lit (.int .i64 0)], .nil, .agg [.lit (.int .i64 0), .lit (.int .i64 0)], .nil]], []) := by kernel_rfl
  obtain ⟨⟨x1, x2, x3⟩, hx, hx1⟩ := Option.map_eq_some_iff.1 hw
  simp only [Prod.mk.injEq] at hx1
  obtain ⟨rfl, rfl⟩ := hx1
  exact OpenSpec.preRow_of_cond 8 hx (by kernel_rfl) (fun k hk => by cases hk) (by kernel_rfl) (laid_met os _)
set_option maxRecDepth 100000 in
set_option maxHeartbeats 2000000 in
theorem moveAgain_lifted (os : Os) (started : os.Started) (H : Type) (enc : TypeId × Value → H) (F : Stop.Interp) :
    ReturnsInHanded {} Tryd.checked os 5 .any ((OpenSpec.ofChange Rows.moveAgainSpec).preRow enc Tryd.prog Tryd.f5 Rows.moveAgainRow.domain false Rows.moveAgainRow.laid) (((OpenSpec.ofChange Rows.moveAgainSpec).at F).post enc Tryd.prog Tryd.f5 false true false false) := by
  refine returnsInHanded_of_row (C := Tryd.checked) (s := OpenSpec.ofChange Rows.moveAgainSpec) own started (by kernel_rfl) Tryd.func5
    (witness_row_atRef (enc := enc) (C := Tryd.checked) false (laidWorld os) #[zero16] rfl (by kernel_rfl) (by kernel_rfl) (by kernel_rfl) (moveAgain_witness os enc)) ?_
  intro W base args ds gs before hval0 hW _ _ hsz0 hL _ _
  have hval : ∀ (j : Nat) t v, Tryd.f5.params[j]? = some t → args[j]? = some v → Value.okWide Tryd.prog W .any base t v := hval0
  have hW' := hW
  obtain ⟨p, q, hA0, hV0, rfl, _, _⟩ := hW
  have hA : DataW.TrodAll enc Tryd.prog W 0 (fun _ => true) true Tryd.f5.params.toList args.toList ds p := hA0
  have hsz : (DataW.weightsEach Tryd.prog Tryd.f5.params.toList (ds ++ gs)).all (· ≤ reachBytes) = true := hsz0
  rw [Tryd.params5] at hA hval hsz
  obtain ⟨v0, d0, hargs, rfl, h0⟩ := trodAll_one hA
  obtain ⟨rfl, rfl⟩ := trodVars_none hV0
  obtain rfl := hargs
  have k0 := h0
  have lt0 : ∀ x ∈ p, x.block < W.heap.size := by obtain ⟨m, hm⟩ := k0; exact DataW.trod_lt m _ _ _ hm
  have hz : ∀ z ∈ DataW.weights Tryd.prog 34 d0, z ≤ 140737488351232 := fun z hzz => by
    have h9 := List.all_eq_true.1 hsz z (DataW.weights_mem_each (j := 0) (t := 34) (d := d0) rfl rfl z hzz)
    exact (show z ≤ reachBytes from of_decide_eq_true h9)
  obtain ⟨A0, c0, l0, a1, a2, a3, a4, a5, a6, a7, A8, c8, l8, k1, k2, A11, c11, l11, rfl, ⟨r1, r2, r3, r4⟩, ⟨r5, r6, r7⟩, ⟨r8, r9, r10⟩, w1, w2, w3, w4, w5, w6, w7, w8, w9⟩ := ask16_open (hval 0 _ v0 rfl rfl) h0 hz
  obtain ⟨k, hk⟩ := Q.MoveAgain l0 a1 a2 a3 a4 a5 a6 a7 l8 k1 k2 l11 r3 r4 r7 r10 w1 w2 w3 w4 w5 w6 w7 w8 w9
  clear hA0 hV0 hval0 hsz0 hsz hz
  refine (P.quilllaw16_MoveAgain.calls (tabs_of hL) r1 r2 r5 r6 r8 r9 hk).mono ?_
  rintro e W' ⟨rfl, bel⟩
  exact ⟨_, rfl, _, _, _, [], _, [], hW', trodAll_mk1 (shut_bool Tryd.underlying4 _), trodAll_mk1 (Below.trod laidOut (by kernel_rfl) (of_decide_eq_true (by kernel_rfl)) k0 bel lt0), rfl, bel.frame _, fun h => by cases h⟩
theorem moveAgain_holds : Rows.MoveAgainSaid :=
  OpenClaim.holds_of_cond 5 Tryd.f5 rfl rfl rfl rfl rfl rfl rfl ⟨rfl, rfl, rfl, rfl, rfl⟩ rfl rfl rfl rfl rfl (by kernel_rfl) Tryd.func5 (by kernel_rfl)
    (of_decide_eq_true (by kernel_rfl)) (by unfold Func.isWrapper; first | (rw [if_pos (by decide +kernel)]; kernel_rfl) | (rw [if_neg (of_decide_eq_false (by kernel_rfl))]; exact ⟨rfl, rfl⟩))
    (fun os started H enc _ F0 => by rw [OpenClaim.pre_eq_preRow]; exact moveAgain_lifted os started H enc F0)
theorem moveAgain_card : Rows.MoveAgainCardSaid :=
  Claim7.holds_tied_plain_at .later [] [.data, .pinned] true (true, "1e4177bd71dbe947419b58a0e8218e8a3c2919aaf71eadae0cd83bae543cebf6") false
    moveAgain_holds (fun _ h => by cases h) (by kernel_rfl) (fun _ h => by cases h) moveAgain_row_tie rfl ⟨rfl, rfl⟩ (by kernel_rfl) rfl
    (fun f fn hf hfn => by
      obtain rfl : f = 5 := Option.some.inj ((show Tryd.prog.funcNamed "quill/quilllaw16.MoveAgain" = some 5 by kernel_rfl).symm.trans hf) |>.symm
      obtain rfl : fn = Tryd.f5 := (Option.some.inj (Tryd.func5.symm.trans hfn)).symm
      exact ⟨by kernel_rfl, fun j t ht => by
        rw [Tryd.params5] at ht
        have h3 : t = 34 := by
          rcases j with _ | j
          · simpa using ht.symm
          · simp at ht
        subst h3
        exact (show Tryd.prog.wantsStandIn 34 = false by kernel_rfl)⟩)
    (by kernel_rfl)
#print axioms moveAgain_card
end Go.Proofs.YtbgmmcngkdhpcaaDoor
