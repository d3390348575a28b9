/- The statement ObjectWithin as numbers and lists: the law answers true for all that the row lets in. Conditions: those of the row. -/
import Derived.Test.YtgikaemhhaejoaaDoorLRh
import Derived.Test.YtgikaemhhaejoaaDoorP0
import Derived.Test.YtgikaemhhaejoaaDoorP20
namespace Go.Proofs.YtgikaemhhaejoaaDoor.Q
open Go.RowKit Go.Proofs.YtgikaemhhaejoaaDoor Go.Proofs.YtgikaemhhaejoaaDoor.P Go.Proofs.YtgikaemhhaejoaaDoorW.PrintWords
theorem ObjectWithin (l : List ByteArray) (a1 a2 a3 a4 a5 a6 a7 : Int) (hl : l.length * 16 ≤ 140737488351232) (hs : ∀ s ∈ l, s.size ≤ 140737488351232)
    (_ : (Lit.int .i64 a1).wf = true) (_ : (Lit.int .i64 a2).wf = true) (_ : (Lit.int .i64 a3).wf = true) (_ : (Lit.int .i64 a4).wf = true) (_ : (Lit.int .i64 a5).wf = true) (_ : (Lit.int .i64 a6).wf = true) (_ : (Lit.int .i64 a7).wf = true) :
    ∃ k, quilllaw15_ObjectWithin.f k l a1 a2 a3 a4 a5 a6 a7 = some true := Ev.rounds (within_true l a1 a2 a3 a4 a5 a6 a7 hl hs)
end Go.Proofs.YtgikaemhhaejoaaDoor.Q
