/-
  NARROWER THAN 'FOR EVERY INPUT', by the rows' own cells (each row's printed sentence says how): FnExactFindField: laid · FnExactTableOK: laid · FnExactCatalogOK: laid · FnExactCheckRow: laid.
  DERIVED. THE GIVEN ROWS OF THIS SEAT. 4 by the template 'for every input the law returns true; each argument reads behind the call as it read before'; 0 by the template 'total and deterministic' (their statements: YtjknmljdnolilaaDoorTotals.lean).
  GIVEN WITH THE SEED: the statements are not yours to turn. If you find one false, say at which input.
  Laid BY PROGRAM, IN A SANDBOX (cutbox-rows.mjs): the forced cells as the released guide's own fill.sh prints them over the translation 23c9925f52e50e1a… (all of the seat's roots in one cut). By AI agents, Wed Nov 11 2026. No macro, syntax, notation, axiom, sorry.
-/
import Derived.Test.YtjknmljdnolilaaDoorChecked
import GoSem.PinnedTables
import GoSem.Claim
import GoSem.ClaimJoined
import GoSem.ClaimMapViews
import Derived.JoinedTies
import Derived.KernelRfl
namespace Go.Proofs.YtjknmljdnolilaaDoor
/- THE CELL 'sum', in the pinned program and in every row, IS THE sha256 OF THE DUMP (.gsa) THAT YtjknmljdnolilaaDoorProg.lean LOADS. Nothing in Lean hashes anything: it is a label: what it is worth is what the hold of that sum in a sandbox is worth. -/
noncomputable def Tryd.pinned : Pinned := { name := "ytjknmljdnolilaadoor", sum := "23c9925f52e50e1a9b173376a69c4288239dadcb07c4e224045bbcf9a28c4b51", checked := Tryd.checked }
namespace Rows
def none {H : Type} : Left H := { results := [], args := [] }

/- WHAT THE LISTED PACKAGE-LEVEL VARIABLES READ AS WHEN THE CALL BEGINS. Each datum BY PROGRAM (the guide's laid-datum.mjs) off the statement by which the dump's own 'gosem.cut.vars' lays the variable. In a bare row this is a premise. The card (YtjknmljdnolilaaDoorCards.lean) ties it to the program's text. -/
def laid_unicode_utf8_acceptRanges {H : Type} : DataW H := .agg [.agg [.lit (.int .u8 128), .lit (.int .u8 191)], .agg [.lit (.int .u8 160), .lit (.int .u8 191)], .agg [.lit (.int .u8 128), .lit (.int .u8 159)], .agg [.lit (.int .u8 144), .lit (.int .u8 191)], .agg [.lit (.int .u8 128), .lit (.int .u8 143)], .agg [.lit (.int .u8 0), .lit (.int .u8 0)], .agg [.lit (.int .u8 0), .lit (.int .u8 0)], .agg [.lit (.int .u8 0), .lit (.int .u8 0)], .agg [.lit (.int .u8 0), .lit (.int .u8 0)], .agg [.lit (.int .u8 0), .lit (.int .u8 0)], .agg [.lit (.int .u8 0), .lit (.int .u8 0)], .agg [.lit (.int .u8 0), .lit (.int .u8 0)], .agg [.lit (.int .u8 0), .lit (.int .u8 0)], .agg [.lit (.int .u8 0), .lit (.int .u8 0)], .agg [.lit (.int .u8 0), .lit (.int .u8 0)], .agg [.lit (.int .u8 0), .lit (.int .u8 0)]]
/-- One of Go's own tables, pinned by name: the form's constant. -/
def laid_unicode_utf8_first : DataW Unit := Go.Pinned.utf8First

/-- 'laws.FnExactFindField': WHATEVER THE INPUT: true; the input reads as it did. -/
def fnExactFindFieldSpec : ChangeSpec := { name := "fnExactFindField", fn := fun _ => fun
  | [d1, d2, d3] => { results := [.lit (.bool true)], args := [d1, d2, d3] }
  | _ => none }
def fnExactFindFieldRow : OpenClaim := { program := "ytjknmljdnolilaadoor", sum := "23c9925f52e50e1a9b173376a69c4288239dadcb07c4e224045bbcf9a28c4b51", func := "loop.example/g00208/laws.FnExactFindField", spec := "fnExactFindField", inPlace := ["internal/bytealg.CountString", "internal/bytealg.IndexByteString", "internal/bytealg.IndexString"], unfollowed := true, recurses := true, named := ["unicode/utf8.first", "unicode/utf8.acceptRanges", "internal/bytealg.MaxLen"], apart := false, laid := [("unicode/utf8.acceptRanges", laid_unicode_utf8_acceptRanges), ("unicode/utf8.first", laid_unicode_utf8_first)] }
def FnExactFindFieldSaid : Prop := fnExactFindFieldRow.holds Tryd.pinned (OpenSpec.ofChange fnExactFindFieldSpec)

/-- ITS FALSE NEIGHBOUR: 'it returns false'. Refute it at one input. -/
def fnExactFindFieldWrong : ChangeSpec := { name := "fnExactFindField", fn := fun _ => fun
  | [d1, d2, d3] => { results := [.lit (.bool false)], args := [d1, d2, d3] }
  | _ => none }
def FnExactFindFieldWrongFalsely : Prop := fnExactFindFieldRow.holds Tryd.pinned (OpenSpec.ofChange fnExactFindFieldWrong)

/-- 'laws.FnExactTableOK': WHATEVER THE INPUT: true; the input reads as it did. -/
def fnExactTableOKSpec : ChangeSpec := { name := "fnExactTableOK", fn := fun _ => fun
  | [d] => { results := [.lit (.bool true)], args := [d] }
  | _ => none }
def fnExactTableOKRow : OpenClaim := { program := "ytjknmljdnolilaadoor", sum := "23c9925f52e50e1a9b173376a69c4288239dadcb07c4e224045bbcf9a28c4b51", func := "loop.example/g00208/laws.FnExactTableOK", spec := "fnExactTableOK", inPlace := ["internal/bytealg.CountString", "internal/bytealg.IndexByteString", "internal/bytealg.IndexString"], unfollowed := true, recurses := true, named := ["unicode/utf8.first", "unicode/utf8.acceptRanges", "internal/bytealg.MaxLen"], apart := false, laid := [("unicode/utf8.acceptRanges", laid_unicode_utf8_acceptRanges), ("unicode/utf8.first", laid_unicode_utf8_first)] }
def FnExactTableOKSaid : Prop := fnExactTableOKRow.holds Tryd.pinned (OpenSpec.ofChange fnExactTableOKSpec)

/-- ITS FALSE NEIGHBOUR: 'it returns false'. Refute it at one input. -/
def fnExactTableOKWrong : ChangeSpec := { name := "fnExactTableOK", fn := fun _ => fun
  | [d] => { results := [.lit (.bool false)], args := [d] }
  | _ => none }
def FnExactTableOKWrongFalsely : Prop := fnExactTableOKRow.holds Tryd.pinned (OpenSpec.ofChange fnExactTableOKWrong)

/-- 'laws.FnExactCatalogOK': WHATEVER THE INPUT: true; the input reads as it did. -/
def fnExactCatalogOKSpec : ChangeSpec := { name := "fnExactCatalogOK", fn := fun _ => fun
  | [d] => { results := [.lit (.bool true)], args := [d] }
  | _ => none }
def fnExactCatalogOKRow : OpenClaim := { program := "ytjknmljdnolilaadoor", sum := "23c9925f52e50e1a9b173376a69c4288239dadcb07c4e224045bbcf9a28c4b51", func := "loop.example/g00208/laws.FnExactCatalogOK", spec := "fnExactCatalogOK", inPlace := ["internal/bytealg.CountString", "internal/bytealg.IndexByteString", "internal/bytealg.IndexString"], unfollowed := true, recurses := true, named := ["unicode/utf8.first", "unicode/utf8.acceptRanges", "internal/bytealg.MaxLen"], apart := false, laid := [("unicode/utf8.acceptRanges", laid_unicode_utf8_acceptRanges), ("unicode/utf8.first", laid_unicode_utf8_first)] }
def FnExactCatalogOKSaid : Prop := fnExactCatalogOKRow.holds Tryd.pinned (OpenSpec.ofChange fnExactCatalogOKSpec)

/-- ITS FALSE NEIGHBOUR: 'it returns false'. Refute it at one input. -/
def fnExactCatalogOKWrong : ChangeSpec := { name := "fnExactCatalogOK", fn := fun _ => fun
  | [d] => { results := [.lit (.bool false)], args := [d] }
  | _ => none }
def FnExactCatalogOKWrongFalsely : Prop := fnExactCatalogOKRow.holds Tryd.pinned (OpenSpec.ofChange fnExactCatalogOKWrong)

/-- 'laws.FnExactCheckRow': WHATEVER THE INPUT: true; the input reads as it did. -/
def fnExactCheckRowSpec : ChangeSpec := { name := "fnExactCheckRow", fn := fun _ => fun
  | [d1, d2] => { results := [.lit (.bool true)], args := [d1, d2] }
  | _ => none }
def fnExactCheckRowRow : OpenClaim := { program := "ytjknmljdnolilaadoor", sum := "23c9925f52e50e1a9b173376a69c4288239dadcb07c4e224045bbcf9a28c4b51", func := "loop.example/g00208/laws.FnExactCheckRow", spec := "fnExactCheckRow", inPlace := ["internal/bytealg.CountString", "internal/bytealg.IndexByteString", "internal/bytealg.IndexString"], unfollowed := true, recurses := true, named := ["unicode/utf8.first", "unicode/utf8.acceptRanges", "internal/bytealg.MaxLen"], apart := false, laid := [("unicode/utf8.acceptRanges", laid_unicode_utf8_acceptRanges), ("unicode/utf8.first", laid_unicode_utf8_first)] }
def FnExactCheckRowSaid : Prop := fnExactCheckRowRow.holds Tryd.pinned (OpenSpec.ofChange fnExactCheckRowSpec)

/-- ITS FALSE NEIGHBOUR: 'it returns false'. Refute it at one input. -/
def fnExactCheckRowWrong : ChangeSpec := { name := "fnExactCheckRow", fn := fun _ => fun
  | [d1, d2] => { results := [.lit (.bool false)], args := [d1, d2] }
  | _ => none }
def FnExactCheckRowWrongFalsely : Prop := fnExactCheckRowRow.holds Tryd.pinned (OpenSpec.ofChange fnExactCheckRowWrong)

/- THE SECOND FORM. 'bulk': how many values and letters a reading holds, each counted each time it is reached (what is shared counts as often as it is met; a slice's spare places count too). A statement '..UptoSaid' is the law's where the arguments, and the package variables that the reading takes, are together of bulk at most 1048576: NARROWER than '..Said'. Prove '..Said' where nothing that the law and all that it calls make is longer than what came in: it says more and counts as full. Else prove '..UptoSaid'. A law counts once. -/
mutual
def uptoBulk {H : Type} : DataW H → Nat
  | .lit (.string bytes) => bytes.length + 1
  | .lit _ => 1
  | .nil => 1
  | .ptr d => uptoBulk d + 1
  | .slice elems spare => uptoBulkAll elems + uptoBulkAll spare + 1
  | .agg parts => uptoBulkAll parts + 1
  | .iface _ d => uptoBulk d + 1
  | .map entries => uptoBulkEntries entries + 1
  | .held _ => 1
def uptoBulkAll {H : Type} : List (DataW H) → Nat
  | [] => 0
  | d :: r => uptoBulk d + uptoBulkAll r
def uptoBulkEntries {H : Type} : List (Lit × DataW H) → Nat
  | [] => 0
  | x :: r => uptoBulkEntry x + uptoBulkEntries r
def uptoBulkEntry {H : Type} : Lit × DataW H → Nat
  | (.string bytes, d) => bytes.length + uptoBulk d + 1
  | (_, d) => uptoBulk d + 1
 end
def uptoSmall : (H : Type) → List (DataW H) → Bool := fun _ ds => decide (uptoBulkAll ds ≤ 1048576)
def OpenSpec.upto (s : _root_.Go.ChangeSpec) : _root_.Go.OpenSpec := { _root_.Go.OpenSpec.ofChange s with cond := some uptoSmall }

/-- 'laws.FnExactFindField', WHERE WHAT IT READS IS OF BULK AT MOST 1048576: true; the input reads as it did. -/
def fnExactFindFieldUptoRow : OpenClaim := { program := "ytjknmljdnolilaadoor", sum := "23c9925f52e50e1a9b173376a69c4288239dadcb07c4e224045bbcf9a28c4b51", func := "loop.example/g00208/laws.FnExactFindField", spec := "fnExactFindField", inPlace := ["internal/bytealg.CountString", "internal/bytealg.IndexByteString", "internal/bytealg.IndexString"], unfollowed := true, recurses := true, named := ["unicode/utf8.first", "unicode/utf8.acceptRanges", "internal/bytealg.MaxLen"], apart := false, laid := [("unicode/utf8.acceptRanges", laid_unicode_utf8_acceptRanges), ("unicode/utf8.first", laid_unicode_utf8_first)], narrowed := true }
def FnExactFindFieldUptoSaid : Prop := fnExactFindFieldUptoRow.holds Tryd.pinned (OpenSpec.upto fnExactFindFieldSpec)

/-- 'laws.FnExactTableOK', WHERE WHAT IT READS IS OF BULK AT MOST 1048576: true; the input reads as it did. -/
def fnExactTableOKUptoRow : OpenClaim := { program := "ytjknmljdnolilaadoor", sum := "23c9925f52e50e1a9b173376a69c4288239dadcb07c4e224045bbcf9a28c4b51", func := "loop.example/g00208/laws.FnExactTableOK", spec := "fnExactTableOK", inPlace := ["internal/bytealg.CountString", "internal/bytealg.IndexByteString", "internal/bytealg.IndexString"], unfollowed := true, recurses := true, named := ["unicode/utf8.first", "unicode/utf8.acceptRanges", "internal/bytealg.MaxLen"], apart := false, laid := [("unicode/utf8.acceptRanges", laid_unicode_utf8_acceptRanges), ("unicode/utf8.first", laid_unicode_utf8_first)], narrowed := true }
def FnExactTableOKUptoSaid : Prop := fnExactTableOKUptoRow.holds Tryd.pinned (OpenSpec.upto fnExactTableOKSpec)

/-- 'laws.FnExactCatalogOK', WHERE WHAT IT READS IS OF BULK AT MOST 1048576: true; the input reads as it did. -/
def fnExactCatalogOKUptoRow : OpenClaim := { program := "ytjknmljdnolilaadoor", sum := "23c9925f52e50e1a9b173376a69c4288239dadcb07c4e224045bbcf9a28c4b51", func := "loop.example/g00208/laws.FnExactCatalogOK", spec := "fnExactCatalogOK", inPlace := ["internal/bytealg.CountString", "internal/bytealg.IndexByteString", "internal/bytealg.IndexString"], unfollowed := true, recurses := true, named := ["unicode/utf8.first", "unicode/utf8.acceptRanges", "internal/bytealg.MaxLen"], apart := false, laid := [("unicode/utf8.acceptRanges", laid_unicode_utf8_acceptRanges), ("unicode/utf8.first", laid_unicode_utf8_first)], narrowed := true }
def FnExactCatalogOKUptoSaid : Prop := fnExactCatalogOKUptoRow.holds Tryd.pinned (OpenSpec.upto fnExactCatalogOKSpec)

/-- 'laws.FnExactCheckRow', WHERE WHAT IT READS IS OF BULK AT MOST 1048576: true; the input reads as it did. -/
def fnExactCheckRowUptoRow : OpenClaim := { program := "ytjknmljdnolilaadoor", sum := "23c9925f52e50e1a9b173376a69c4288239dadcb07c4e224045bbcf9a28c4b51", func := "loop.example/g00208/laws.FnExactCheckRow", spec := "fnExactCheckRow", inPlace := ["internal/bytealg.CountString", "internal/bytealg.IndexByteString", "internal/bytealg.IndexString"], unfollowed := true, recurses := true, named := ["unicode/utf8.first", "unicode/utf8.acceptRanges", "internal/bytealg.MaxLen"], apart := false, laid := [("unicode/utf8.acceptRanges", laid_unicode_utf8_acceptRanges), ("unicode/utf8.first", laid_unicode_utf8_first)], narrowed := true }
def FnExactCheckRowUptoSaid : Prop := fnExactCheckRowUptoRow.holds Tryd.pinned (OpenSpec.upto fnExactCheckRowSpec)

end Rows
end Go.Proofs.YtjknmljdnolilaaDoor
