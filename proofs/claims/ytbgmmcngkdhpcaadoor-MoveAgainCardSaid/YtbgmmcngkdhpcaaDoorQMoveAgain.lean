/- The statement MoveAgain as numbers and lists: the law answers true for all that the row lets in. Conditions: those of the row. -/
import Derived.Test.YtbgmmcngkdhpcaaDoorLSd
import Derived.Test.YtbgmmcngkdhpcaaDoorP0
import Derived.Test.YtbgmmcngkdhpcaaDoorP28
namespace Go.Proofs.YtbgmmcngkdhpcaaDoor.Q
open Go.RowKit Go.Proofs.YtbgmmcngkdhpcaaDoor Go.Proofs.YtbgmmcngkdhpcaaDoor.P Go.Proofs.YtbgmmcngkdhpcaaDoorW.PrintWords
theorem MoveAgain (l : List ByteArray) (a1 a2 a3 a4 a5 a6 a7 : Int) (C : List S52) (k1 k2 : Int) (M : List S89) (hl : l.length * 16 ≤ 140737488351232) (hs : ∀ s ∈ l, s.size ≤ 140737488351232) (hC : C.length ≤ 140737488351232) (hM : M.length ≤ 140737488351232)
    (_ : (Lit.int .i64 a1).wf = true) (_ : (Lit.int .i64 a2).wf = true) (_ : (Lit.int .i64 a3).wf = true) (_ : (Lit.int .i64 a4).wf = true) (_ : (Lit.int .i64 a5).wf = true) (_ : (Lit.int .i64 a6).wf = true) (_ : (Lit.int .i64 a7).wf = true) (_ : (Lit.int .i64 k1).wf = true) (_ : (Lit.int .i64 k2).wf = true) :
    ∃ k, quilllaw16_MoveAgain.f k l a1 a2 a3 a4 a5 a6 a7 C k1 k2 M = some true := Ev.rounds (MoveAgain_true l a1 a2 a3 a4 a5 a6 a7 C k1 k2 M hl hs hC hM)
end Go.Proofs.YtbgmmcngkdhpcaaDoor.Q
