/-
  NARROWER THAN 'FOR EVERY INPUT', by the rows' own cells (each row's printed sentence says how): WordsBegin: laid · WordsBack: laid · WordsEnd: laid · WordW: laid · WordB: laid · WordE: laid · WordBigW: laid · WordBigB: laid · WordBigE: laid · WordsCells: laid · WordsWalk: laid.
  DERIVED. THE GIVEN ROWS OF THIS SEAT. 11 by the template 'for every input the law returns true; each argument reads behind the call as it read before'; 0 by the template 'total and deterministic' (their statements: YtdcbaiimojnlnaaDoorTotals.lean).
  GIVEN WITH THE SEED: the statements are not yours to turn. If you find one false, say at which input.
  Laid BY PROGRAM, IN A SANDBOX (cutbox-rows.mjs): the forced cells as the released guide's own fill.sh prints them over the translation 211ed0255215202b… (all of the seat's roots in one cut). By AI agents, Wed Nov 11 2026. No macro, syntax, notation, axiom, sorry.
-/
import Derived.Test.YtdcbaiimojnlnaaDoorChecked
import GoSem.PinnedTables
import GoSem.Claim
import GoSem.ClaimJoined
import GoSem.ClaimMapViews
import Derived.JoinedTies
import Derived.KernelRfl
namespace Go.Proofs.YtdcbaiimojnlnaaDoor
/- THE CELL 'sum', in the pinned program and in every row, IS THE sha256 OF THE DUMP (.gsa) THAT YtdcbaiimojnlnaaDoorProg.lean LOADS. Nothing in Lean hashes anything: it is a label: what it is worth is what the hold of that sum in a sandbox is worth. -/
noncomputable def Tryd.pinned : Pinned := { name := "ytdcbaiimojnlnaadoor", sum := "211ed0255215202bc23e225758584cf7ce114e979e2bf76351e4927230e89fe7", checked := Tryd.checked }
namespace Rows
def none {H : Type} : Left H := { results := [], args := [] }

/- WHAT THE LISTED PACKAGE-LEVEL VARIABLES READ AS WHEN THE CALL BEGINS. Each datum BY PROGRAM (the guide's laid-datum.mjs) off the statement by which the dump's own 'gosem.cut.vars' lays the variable. In a bare row this is a premise. The card (YtdcbaiimojnlnaaDoorCards.lean) ties it to the program's text. -/
def laid_unicode_utf8_acceptRanges {H : Type} : DataW H := .agg [.agg [.lit (.int .u8 128), .lit (.int .u8 191)], .agg [.lit (.int .u8 160), .lit (.int .u8 191)], .agg [.lit (.int .u8 128), .lit (.int .u8 159)], .agg [.lit (.int .u8 144), .lit (.int .u8 191)], .agg [.lit (.int .u8 128), .lit (.int .u8 143)], .agg [.lit (.int .u8 0), .lit (.int .u8 0)], .agg [.lit (.int .u8 0), .lit (.int .u8 0)], .agg [.lit (.int .u8 0), .lit (.int .u8 0)], .agg [.lit (.int .u8 0), .lit (.int .u8 0)], .agg [.lit (.int .u8 0), .lit (.int .u8 0)], .agg [.lit (.int .u8 0), .lit (.int .u8 0)], .agg [.lit (.int .u8 0), .lit (.int .u8 0)], .agg [.lit (.int .u8 0), .lit (.int .u8 0)], .agg [.lit (.int .u8 0), .lit (.int .u8 0)], .agg [.lit (.int .u8 0), .lit (.int .u8 0)], .agg [.lit (.int .u8 0), .lit (.int .u8 0)]]
/-- One of Go's own tables, pinned by name: the form's constant. -/
def laid_unicode_utf8_first : DataW Unit := Go.Pinned.utf8First

/-- 'quilllaw10.WordsBegin': WHATEVER THE INPUT: true; the input reads as it did. -/
def wordsBeginSpec : ChangeSpec := { name := "wordsBegin", fn := fun _ => fun
  | [d] => { results := [.lit (.bool true)], args := [d] }
  | _ => none }
def wordsBeginRow : OpenClaim := { program := "ytdcbaiimojnlnaadoor", sum := "211ed0255215202bc23e225758584cf7ce114e979e2bf76351e4927230e89fe7", func := "quill/quilllaw10.WordsBegin", spec := "wordsBegin", inPlace := ["internal/bytealg.IndexByteString", "internal/bytealg.IndexString"], unfollowed := true, recurses := true, named := ["unicode/utf8.first", "unicode/utf8.acceptRanges", "internal/bytealg.MaxLen"], apart := false, laid := [("unicode/utf8.acceptRanges", laid_unicode_utf8_acceptRanges), ("unicode/utf8.first", laid_unicode_utf8_first)] }
def WordsBeginSaid : Prop := wordsBeginRow.holds Tryd.pinned (OpenSpec.ofChange wordsBeginSpec)

/-- ITS FALSE NEIGHBOUR: 'it returns false'. Refute it at one input. -/
def wordsBeginWrong : ChangeSpec := { name := "wordsBegin", fn := fun _ => fun
  | [d] => { results := [.lit (.bool false)], args := [d] }
  | _ => none }
def WordsBeginWrongFalsely : Prop := wordsBeginRow.holds Tryd.pinned (OpenSpec.ofChange wordsBeginWrong)

/-- 'quilllaw10.WordsBack': WHATEVER THE INPUT: true; the input reads as it did. -/
def wordsBackSpec : ChangeSpec := { name := "wordsBack", fn := fun _ => fun
  | [d] => { results := [.lit (.bool true)], args := [d] }
  | _ => none }
def wordsBackRow : OpenClaim := { program := "ytdcbaiimojnlnaadoor", sum := "211ed0255215202bc23e225758584cf7ce114e979e2bf76351e4927230e89fe7", func := "quill/quilllaw10.WordsBack", spec := "wordsBack", inPlace := ["internal/bytealg.IndexByteString", "internal/bytealg.IndexString"], unfollowed := true, recurses := true, named := ["unicode/utf8.first", "unicode/utf8.acceptRanges", "internal/bytealg.MaxLen"], apart := false, laid := [("unicode/utf8.acceptRanges", laid_unicode_utf8_acceptRanges), ("unicode/utf8.first", laid_unicode_utf8_first)] }
def WordsBackSaid : Prop := wordsBackRow.holds Tryd.pinned (OpenSpec.ofChange wordsBackSpec)

/-- ITS FALSE NEIGHBOUR: 'it returns false'. Refute it at one input. -/
def wordsBackWrong : ChangeSpec := { name := "wordsBack", fn := fun _ => fun
  | [d] => { results := [.lit (.bool false)], args := [d] }
  | _ => none }
def WordsBackWrongFalsely : Prop := wordsBackRow.holds Tryd.pinned (OpenSpec.ofChange wordsBackWrong)

/-- 'quilllaw10.WordsEnd': WHATEVER THE INPUT: true; the input reads as it did. -/
def wordsEndSpec : ChangeSpec := { name := "wordsEnd", fn := fun _ => fun
  | [d] => { results := [.lit (.bool true)], args := [d] }
  | _ => none }
def wordsEndRow : OpenClaim := { program := "ytdcbaiimojnlnaadoor", sum := "211ed0255215202bc23e225758584cf7ce114e979e2bf76351e4927230e89fe7", func := "quill/quilllaw10.WordsEnd", spec := "wordsEnd", inPlace := ["internal/bytealg.IndexByteString", "internal/bytealg.IndexString"], unfollowed := true, recurses := true, named := ["unicode/utf8.first", "unicode/utf8.acceptRanges", "internal/bytealg.MaxLen"], apart := false, laid := [("unicode/utf8.acceptRanges", laid_unicode_utf8_acceptRanges), ("unicode/utf8.first", laid_unicode_utf8_first)] }
def WordsEndSaid : Prop := wordsEndRow.holds Tryd.pinned (OpenSpec.ofChange wordsEndSpec)

/-- ITS FALSE NEIGHBOUR: 'it returns false'. Refute it at one input. -/
def wordsEndWrong : ChangeSpec := { name := "wordsEnd", fn := fun _ => fun
  | [d] => { results := [.lit (.bool false)], args := [d] }
  | _ => none }
def WordsEndWrongFalsely : Prop := wordsEndRow.holds Tryd.pinned (OpenSpec.ofChange wordsEndWrong)

/-- 'quilllaw10.WordW': WHATEVER THE INPUT: true; the input reads as it did. -/
def wordWSpec : ChangeSpec := { name := "wordW", fn := fun _ => fun
  | [d] => { results := [.lit (.bool true)], args := [d] }
  | _ => none }
def wordWRow : OpenClaim := { program := "ytdcbaiimojnlnaadoor", sum := "211ed0255215202bc23e225758584cf7ce114e979e2bf76351e4927230e89fe7", func := "quill/quilllaw10.WordW", spec := "wordW", inPlace := ["internal/bytealg.IndexByteString", "internal/bytealg.IndexString"], unfollowed := true, recurses := true, named := ["unicode/utf8.first", "unicode/utf8.acceptRanges", "internal/bytealg.MaxLen"], apart := false, laid := [("unicode/utf8.acceptRanges", laid_unicode_utf8_acceptRanges), ("unicode/utf8.first", laid_unicode_utf8_first)] }
def WordWSaid : Prop := wordWRow.holds Tryd.pinned (OpenSpec.ofChange wordWSpec)

/-- ITS FALSE NEIGHBOUR: 'it returns false'. Refute it at one input. -/
def wordWWrong : ChangeSpec := { name := "wordW", fn := fun _ => fun
  | [d] => { results := [.lit (.bool false)], args := [d] }
  | _ => none }
def WordWWrongFalsely : Prop := wordWRow.holds Tryd.pinned (OpenSpec.ofChange wordWWrong)

/-- 'quilllaw10.WordB': WHATEVER THE INPUT: true; the input reads as it did. -/
def wordBSpec : ChangeSpec := { name := "wordB", fn := fun _ => fun
  | [d] => { results := [.lit (.bool true)], args := [d] }
  | _ => none }
def wordBRow : OpenClaim := { program := "ytdcbaiimojnlnaadoor", sum := "211ed0255215202bc23e225758584cf7ce114e979e2bf76351e4927230e89fe7", func := "quill/quilllaw10.WordB", spec := "wordB", inPlace := ["internal/bytealg.IndexByteString", "internal/bytealg.IndexString"], unfollowed := true, recurses := true, named := ["unicode/utf8.first", "unicode/utf8.acceptRanges", "internal/bytealg.MaxLen"], apart := false, laid := [("unicode/utf8.acceptRanges", laid_unicode_utf8_acceptRanges), ("unicode/utf8.first", laid_unicode_utf8_first)] }
def WordBSaid : Prop := wordBRow.holds Tryd.pinned (OpenSpec.ofChange wordBSpec)

/-- ITS FALSE NEIGHBOUR: 'it returns false'. Refute it at one input. -/
def wordBWrong : ChangeSpec := { name := "wordB", fn := fun _ => fun
  | [d] => { results := [.lit (.bool false)], args := [d] }
  | _ => none }
def WordBWrongFalsely : Prop := wordBRow.holds Tryd.pinned (OpenSpec.ofChange wordBWrong)

/-- 'quilllaw10.WordE': WHATEVER THE INPUT: true; the input reads as it did. -/
def wordESpec : ChangeSpec := { name := "wordE", fn := fun _ => fun
  | [d] => { results := [.lit (.bool true)], args := [d] }
  | _ => none }
def wordERow : OpenClaim := { program := "ytdcbaiimojnlnaadoor", sum := "211ed0255215202bc23e225758584cf7ce114e979e2bf76351e4927230e89fe7", func := "quill/quilllaw10.WordE", spec := "wordE", inPlace := ["internal/bytealg.IndexByteString", "internal/bytealg.IndexString"], unfollowed := true, recurses := true, named := ["unicode/utf8.first", "unicode/utf8.acceptRanges", "internal/bytealg.MaxLen"], apart := false, laid := [("unicode/utf8.acceptRanges", laid_unicode_utf8_acceptRanges), ("unicode/utf8.first", laid_unicode_utf8_first)] }
def WordESaid : Prop := wordERow.holds Tryd.pinned (OpenSpec.ofChange wordESpec)

/-- ITS FALSE NEIGHBOUR: 'it returns false'. Refute it at one input. -/
def wordEWrong : ChangeSpec := { name := "wordE", fn := fun _ => fun
  | [d] => { results := [.lit (.bool false)], args := [d] }
  | _ => none }
def WordEWrongFalsely : Prop := wordERow.holds Tryd.pinned (OpenSpec.ofChange wordEWrong)

/-- 'quilllaw10.WordBigW': WHATEVER THE INPUT: true; the input reads as it did. -/
def wordBigWSpec : ChangeSpec := { name := "wordBigW", fn := fun _ => fun
  | [d] => { results := [.lit (.bool true)], args := [d] }
  | _ => none }
def wordBigWRow : OpenClaim := { program := "ytdcbaiimojnlnaadoor", sum := "211ed0255215202bc23e225758584cf7ce114e979e2bf76351e4927230e89fe7", func := "quill/quilllaw10.WordBigW", spec := "wordBigW", inPlace := ["internal/bytealg.IndexByteString", "internal/bytealg.IndexString"], unfollowed := true, recurses := true, named := ["unicode/utf8.first", "unicode/utf8.acceptRanges", "internal/bytealg.MaxLen"], apart := false, laid := [("unicode/utf8.acceptRanges", laid_unicode_utf8_acceptRanges), ("unicode/utf8.first", laid_unicode_utf8_first)] }
def WordBigWSaid : Prop := wordBigWRow.holds Tryd.pinned (OpenSpec.ofChange wordBigWSpec)

/-- ITS FALSE NEIGHBOUR: 'it returns false'. Refute it at one input. -/
def wordBigWWrong : ChangeSpec := { name := "wordBigW", fn := fun _ => fun
  | [d] => { results := [.lit (.bool false)], args := [d] }
  | _ => none }
def WordBigWWrongFalsely : Prop := wordBigWRow.holds Tryd.pinned (OpenSpec.ofChange wordBigWWrong)

/-- 'quilllaw10.WordBigB': WHATEVER THE INPUT: true; the input reads as it did. -/
def wordBigBSpec : ChangeSpec := { name := "wordBigB", fn := fun _ => fun
  | [d] => { results := [.lit (.bool true)], args := [d] }
  | _ => none }
def wordBigBRow : OpenClaim := { program := "ytdcbaiimojnlnaadoor", sum := "211ed0255215202bc23e225758584cf7ce114e979e2bf76351e4927230e89fe7", func := "quill/quilllaw10.WordBigB", spec := "wordBigB", inPlace := ["internal/bytealg.IndexByteString", "internal/bytealg.IndexString"], unfollowed := true, recurses := true, named := ["unicode/utf8.first", "unicode/utf8.acceptRanges", "internal/bytealg.MaxLen"], apart := false, laid := [("unicode/utf8.acceptRanges", laid_unicode_utf8_acceptRanges), ("unicode/utf8.first", laid_unicode_utf8_first)] }
def WordBigBSaid : Prop := wordBigBRow.holds Tryd.pinned (OpenSpec.ofChange wordBigBSpec)

/-- ITS FALSE NEIGHBOUR: 'it returns false'. Refute it at one input. -/
def wordBigBWrong : ChangeSpec := { name := "wordBigB", fn := fun _ => fun
  | [d] => { results := [.lit (.bool false)], args := [d] }
  | _ => none }
def WordBigBWrongFalsely : Prop := wordBigBRow.holds Tryd.pinned (OpenSpec.ofChange wordBigBWrong)

/-- 'quilllaw10.WordBigE': WHATEVER THE INPUT: true; the input reads as it did. -/
def wordBigESpec : ChangeSpec := { name := "wordBigE", fn := fun _ => fun
  | [d] => { results := [.lit (.bool true)], args := [d] }
  | _ => none }
def wordBigERow : OpenClaim := { program := "ytdcbaiimojnlnaadoor", sum := "211ed0255215202bc23e225758584cf7ce114e979e2bf76351e4927230e89fe7", func := "quill/quilllaw10.WordBigE", spec := "wordBigE", inPlace := ["internal/bytealg.IndexByteString", "internal/bytealg.IndexString"], unfollowed := true, recurses := true, named := ["unicode/utf8.first", "unicode/utf8.acceptRanges", "internal/bytealg.MaxLen"], apart := false, laid := [("unicode/utf8.acceptRanges", laid_unicode_utf8_acceptRanges), ("unicode/utf8.first", laid_unicode_utf8_first)] }
def WordBigESaid : Prop := wordBigERow.holds Tryd.pinned (OpenSpec.ofChange wordBigESpec)

/-- ITS FALSE NEIGHBOUR: 'it returns false'. Refute it at one input. -/
def wordBigEWrong : ChangeSpec := { name := "wordBigE", fn := fun _ => fun
  | [d] => { results := [.lit (.bool false)], args := [d] }
  | _ => none }
def WordBigEWrongFalsely : Prop := wordBigERow.holds Tryd.pinned (OpenSpec.ofChange wordBigEWrong)

/-- 'quilllaw10.WordsCells': WHATEVER THE INPUT: true; the input reads as it did. -/
def wordsCellsSpec : ChangeSpec := { name := "wordsCells", fn := fun _ => fun
  | [d] => { results := [.lit (.bool true)], args := [d] }
  | _ => none }
def wordsCellsRow : OpenClaim := { program := "ytdcbaiimojnlnaadoor", sum := "211ed0255215202bc23e225758584cf7ce114e979e2bf76351e4927230e89fe7", func := "quill/quilllaw10.WordsCells", spec := "wordsCells", inPlace := ["internal/bytealg.IndexByteString", "internal/bytealg.IndexString"], unfollowed := true, recurses := true, named := ["unicode/utf8.first", "unicode/utf8.acceptRanges", "internal/bytealg.MaxLen"], apart := false, laid := [("unicode/utf8.acceptRanges", laid_unicode_utf8_acceptRanges), ("unicode/utf8.first", laid_unicode_utf8_first)] }
def WordsCellsSaid : Prop := wordsCellsRow.holds Tryd.pinned (OpenSpec.ofChange wordsCellsSpec)

/-- ITS FALSE NEIGHBOUR: 'it returns false'. Refute it at one input. -/
def wordsCellsWrong : ChangeSpec := { name := "wordsCells", fn := fun _ => fun
  | [d] => { results := [.lit (.bool false)], args := [d] }
  | _ => none }
def WordsCellsWrongFalsely : Prop := wordsCellsRow.holds Tryd.pinned (OpenSpec.ofChange wordsCellsWrong)

/-- 'quilllaw10.WordsWalk': WHATEVER THE INPUT: true; the input reads as it did. -/
def wordsWalkSpec : ChangeSpec := { name := "wordsWalk", fn := fun _ => fun
  | [d] => { results := [.lit (.bool true)], args := [d] }
  | _ => none }
def wordsWalkRow : OpenClaim := { program := "ytdcbaiimojnlnaadoor", sum := "211ed0255215202bc23e225758584cf7ce114e979e2bf76351e4927230e89fe7", func := "quill/quilllaw10.WordsWalk", spec := "wordsWalk", inPlace := ["internal/bytealg.IndexByteString", "internal/bytealg.IndexString"], unfollowed := true, recurses := true, named := ["unicode/utf8.first", "unicode/utf8.acceptRanges", "internal/bytealg.MaxLen"], apart := false, laid := [("unicode/utf8.acceptRanges", laid_unicode_utf8_acceptRanges), ("unicode/utf8.first", laid_unicode_utf8_first)] }
def WordsWalkSaid : Prop := wordsWalkRow.holds Tryd.pinned (OpenSpec.ofChange wordsWalkSpec)

/-- ITS FALSE NEIGHBOUR: 'it returns false'. Refute it at one input. -/
def wordsWalkWrong : ChangeSpec := { name := "wordsWalk", fn := fun _ => fun
  | [d] => { results := [.lit (.bool false)], args := [d] }
  | _ => none }
def WordsWalkWrongFalsely : Prop := wordsWalkRow.holds Tryd.pinned (OpenSpec.ofChange wordsWalkWrong)

/- THE SECOND FORM. 'bulk': how many values and letters a reading holds, each counted each time it is reached (what is shared counts as often as it is met; a slice's spare places count too). A statement '..UptoSaid' is the law's where the arguments, and the package variables that the reading takes, are together of bulk at most 1048576: NARROWER than '..Said'. Prove '..Said' where nothing that the law and all that it calls make is longer than what came in: it says more and counts as full. Else prove '..UptoSaid'. A law counts once. -/
mutual
def uptoBulk {H : Type} : DataW H → Nat
  | .lit (.string bytes) => bytes.length + 1
  | .lit _ => 1
  | .nil => 1
  | .ptr d => uptoBulk d + 1
  | .slice elems spare => uptoBulkAll elems + uptoBulkAll spare + 1
  | .agg parts => uptoBulkAll parts + 1
  | .iface _ d => uptoBulk d + 1
  | .map entries => uptoBulkEntries entries + 1
  | .held _ => 1
def uptoBulkAll {H : Type} : List (DataW H) → Nat
  | [] => 0
  | d :: r => uptoBulk d + uptoBulkAll r
def uptoBulkEntries {H : Type} : List (Lit × DataW H) → Nat
  | [] => 0
  | x :: r => uptoBulkEntry x + uptoBulkEntries r
def uptoBulkEntry {H : Type} : Lit × DataW H → Nat
  | (.string bytes, d) => bytes.length + uptoBulk d + 1
  | (_, d) => uptoBulk d + 1
 end
def uptoSmall : (H : Type) → List (DataW H) → Bool := fun _ ds => decide (uptoBulkAll ds ≤ 1048576)
def OpenSpec.upto (s : _root_.Go.ChangeSpec) : _root_.Go.OpenSpec := { _root_.Go.OpenSpec.ofChange s with cond := some uptoSmall }

/-- 'quilllaw10.WordsBegin', WHERE WHAT IT READS IS OF BULK AT MOST 1048576: true; the input reads as it did. -/
def wordsBeginUptoRow : OpenClaim := { program := "ytdcbaiimojnlnaadoor", sum := "211ed0255215202bc23e225758584cf7ce114e979e2bf76351e4927230e89fe7", func := "quill/quilllaw10.WordsBegin", spec := "wordsBegin", inPlace := ["internal/bytealg.IndexByteString", "internal/bytealg.IndexString"], unfollowed := true, recurses := true, named := ["unicode/utf8.first", "unicode/utf8.acceptRanges", "internal/bytealg.MaxLen"], apart := false, laid := [("unicode/utf8.acceptRanges", laid_unicode_utf8_acceptRanges), ("unicode/utf8.first", laid_unicode_utf8_first)], narrowed := true }
def WordsBeginUptoSaid : Prop := wordsBeginUptoRow.holds Tryd.pinned (OpenSpec.upto wordsBeginSpec)

/-- 'quilllaw10.WordsBack', WHERE WHAT IT READS IS OF BULK AT MOST 1048576: true; the input reads as it did. -/
def wordsBackUptoRow : OpenClaim := { program := "ytdcbaiimojnlnaadoor", sum := "211ed0255215202bc23e225758584cf7ce114e979e2bf76351e4927230e89fe7", func := "quill/quilllaw10.WordsBack", spec := "wordsBack", inPlace := ["internal/bytealg.IndexByteString", "internal/bytealg.IndexString"], unfollowed := true, recurses := true, named := ["unicode/utf8.first", "unicode/utf8.acceptRanges", "internal/bytealg.MaxLen"], apart := false, laid := [("unicode/utf8.acceptRanges", laid_unicode_utf8_acceptRanges), ("unicode/utf8.first", laid_unicode_utf8_first)], narrowed := true }
def WordsBackUptoSaid : Prop := wordsBackUptoRow.holds Tryd.pinned (OpenSpec.upto wordsBackSpec)

/-- 'quilllaw10.WordsEnd', WHERE WHAT IT READS IS OF BULK AT MOST 1048576: true; the input reads as it did. -/
def wordsEndUptoRow : OpenClaim := { program := "ytdcbaiimojnlnaadoor", sum := "211ed0255215202bc23e225758584cf7ce114e979e2bf76351e4927230e89fe7", func := "quill/quilllaw10.WordsEnd", spec := "wordsEnd", inPlace := ["internal/bytealg.IndexByteString", "internal/bytealg.IndexString"], unfollowed := true, recurses := true, named := ["unicode/utf8.first", "unicode/utf8.acceptRanges", "internal/bytealg.MaxLen"], apart := false, laid := [("unicode/utf8.acceptRanges", laid_unicode_utf8_acceptRanges), ("unicode/utf8.first", laid_unicode_utf8_first)], narrowed := true }
def WordsEndUptoSaid : Prop := wordsEndUptoRow.holds Tryd.pinned (OpenSpec.upto wordsEndSpec)

/-- 'quilllaw10.WordW', WHERE WHAT IT READS IS OF BULK AT MOST 1048576: true; the input reads as it did. -/
def wordWUptoRow : OpenClaim := { program := "ytdcbaiimojnlnaadoor", sum := "211ed0255215202bc23e225758584cf7ce114e979e2bf76351e4927230e89fe7", func := "quill/quilllaw10.WordW", spec := "wordW", inPlace := ["internal/bytealg.IndexByteString", "internal/bytealg.IndexString"], unfollowed := true, recurses := true, named := ["unicode/utf8.first", "unicode/utf8.acceptRanges", "internal/bytealg.MaxLen"], apart := false, laid := [("unicode/utf8.acceptRanges", laid_unicode_utf8_acceptRanges), ("unicode/utf8.first", laid_unicode_utf8_first)], narrowed := true }
def WordWUptoSaid : Prop := wordWUptoRow.holds Tryd.pinned (OpenSpec.upto wordWSpec)

/-- 'quilllaw10.WordB', WHERE WHAT IT READS IS OF BULK AT MOST 1048576: true; the input reads as it did. -/
def wordBUptoRow : OpenClaim := { program := "ytdcbaiimojnlnaadoor", sum := "211ed0255215202bc23e225758584cf7ce114e979e2bf76351e4927230e89fe7", func := "quill/quilllaw10.WordB", spec := "wordB", inPlace := ["internal/bytealg.IndexByteString", "internal/bytealg.IndexString"], unfollowed := true, recurses := true, named := ["unicode/utf8.first", "unicode/utf8.acceptRanges", "internal/bytealg.MaxLen"], apart := false, laid := [("unicode/utf8.acceptRanges", laid_unicode_utf8_acceptRanges), ("unicode/utf8.first", laid_unicode_utf8_first)], narrowed := true }
def WordBUptoSaid : Prop := wordBUptoRow.holds Tryd.pinned (OpenSpec.upto wordBSpec)

/-- 'quilllaw10.WordE', WHERE WHAT IT READS IS OF BULK AT MOST 1048576: true; the input reads as it did. -/
def wordEUptoRow : OpenClaim := { program := "ytdcbaiimojnlnaadoor", sum := "211ed0255215202bc23e225758584cf7ce114e979e2bf76351e4927230e89fe7", func := "quill/quilllaw10.WordE", spec := "wordE", inPlace := ["internal/bytealg.IndexByteString", "internal/bytealg.IndexString"], unfollowed := true, recurses := true, named := ["unicode/utf8.first", "unicode/utf8.acceptRanges", "internal/bytealg.MaxLen"], apart := false, laid := [("unicode/utf8.acceptRanges", laid_unicode_utf8_acceptRanges), ("unicode/utf8.first", laid_unicode_utf8_first)], narrowed := true }
def WordEUptoSaid : Prop := wordEUptoRow.holds Tryd.pinned (OpenSpec.upto wordESpec)

/-- 'quilllaw10.WordBigW', WHERE WHAT IT READS IS OF BULK AT MOST 1048576: true; the input reads as it did. -/
def wordBigWUptoRow : OpenClaim := { program := "ytdcbaiimojnlnaadoor", sum := "211ed0255215202bc23e225758584cf7ce114e979e2bf76351e4927230e89fe7", func := "quill/quilllaw10.WordBigW", spec := "wordBigW", inPlace := ["internal/bytealg.IndexByteString", "internal/bytealg.IndexString"], unfollowed := true, recurses := true, named := ["unicode/utf8.first", "unicode/utf8.acceptRanges", "internal/bytealg.MaxLen"], apart := false, laid := [("unicode/utf8.acceptRanges", laid_unicode_utf8_acceptRanges), ("unicode/utf8.first", laid_unicode_utf8_first)], narrowed := true }
def WordBigWUptoSaid : Prop := wordBigWUptoRow.holds Tryd.pinned (OpenSpec.upto wordBigWSpec)

/-- 'quilllaw10.WordBigB', WHERE WHAT IT READS IS OF BULK AT MOST 1048576: true; the input reads as it did. -/
def wordBigBUptoRow : OpenClaim := { program := "ytdcbaiimojnlnaadoor", sum := "211ed0255215202bc23e225758584cf7ce114e979e2bf76351e4927230e89fe7", func := "quill/quilllaw10.WordBigB", spec := "wordBigB", inPlace := ["internal/bytealg.IndexByteString", "internal/bytealg.IndexString"], unfollowed := true, recurses := true, named := ["unicode/utf8.first", "unicode/utf8.acceptRanges", "internal/bytealg.MaxLen"], apart := false, laid := [("unicode/utf8.acceptRanges", laid_unicode_utf8_acceptRanges), ("unicode/utf8.first", laid_unicode_utf8_first)], narrowed := true }
def WordBigBUptoSaid : Prop := wordBigBUptoRow.holds Tryd.pinned (OpenSpec.upto wordBigBSpec)

/-- 'quilllaw10.WordBigE', WHERE WHAT IT READS IS OF BULK AT MOST 1048576: true; the input reads as it did. -/
def wordBigEUptoRow : OpenClaim := { program := "ytdcbaiimojnlnaadoor", sum := "211ed0255215202bc23e225758584cf7ce114e979e2bf76351e4927230e89fe7", func := "quill/quilllaw10.WordBigE", spec := "wordBigE", inPlace := ["internal/bytealg.IndexByteString", "internal/bytealg.IndexString"], unfollowed := true, recurses := true, named := ["unicode/utf8.first", "unicode/utf8.acceptRanges", "internal/bytealg.MaxLen"], apart := false, laid := [("unicode/utf8.acceptRanges", laid_unicode_utf8_acceptRanges), ("unicode/utf8.first", laid_unicode_utf8_first)], narrowed := true }
def WordBigEUptoSaid : Prop := wordBigEUptoRow.holds Tryd.pinned (OpenSpec.upto wordBigESpec)

/-- 'quilllaw10.WordsCells', WHERE WHAT IT READS IS OF BULK AT MOST 1048576: true; the input reads as it did. -/
def wordsCellsUptoRow : OpenClaim := { program := "ytdcbaiimojnlnaadoor", sum := "211ed0255215202bc23e225758584cf7ce114e979e2bf76351e4927230e89fe7", func := "quill/quilllaw10.WordsCells", spec := "wordsCells", inPlace := ["internal/bytealg.IndexByteString", "internal/bytealg.IndexString"], unfollowed := true, recurses := true, named := ["unicode/utf8.first", "unicode/utf8.acceptRanges", "internal/bytealg.MaxLen"], apart := false, laid := [("unicode/utf8.acceptRanges", laid_unicode_utf8_acceptRanges), ("unicode/utf8.first", laid_unicode_utf8_first)], narrowed := true }
def WordsCellsUptoSaid : Prop := wordsCellsUptoRow.holds Tryd.pinned (OpenSpec.upto wordsCellsSpec)

/-- 'quilllaw10.WordsWalk', WHERE WHAT IT READS IS OF BULK AT MOST 1048576: true; the input reads as it did. -/
def wordsWalkUptoRow : OpenClaim := { program := "ytdcbaiimojnlnaadoor", sum := "211ed0255215202bc23e225758584cf7ce114e979e2bf76351e4927230e89fe7", func := "quill/quilllaw10.WordsWalk", spec := "wordsWalk", inPlace := ["internal/bytealg.IndexByteString", "internal/bytealg.IndexString"], unfollowed := true, recurses := true, named := ["unicode/utf8.first", "unicode/utf8.acceptRanges", "internal/bytealg.MaxLen"], apart := false, laid := [("unicode/utf8.acceptRanges", laid_unicode_utf8_acceptRanges), ("unicode/utf8.first", laid_unicode_utf8_first)], narrowed := true }
def WordsWalkUptoSaid : Prop := wordsWalkUptoRow.holds Tryd.pinned (OpenSpec.upto wordsWalkSpec)

end Rows
end Go.Proofs.YtdcbaiimojnlnaaDoor
