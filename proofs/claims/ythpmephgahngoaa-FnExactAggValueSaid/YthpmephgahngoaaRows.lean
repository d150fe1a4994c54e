/-
  No cell of these rows narrows 'for every input' (looked for: loops, veiled, ifaces, maps, wideKeys, modest, calm, conditions, laid).
  DERIVED. THE GIVEN ROWS OF THIS SEAT. 10 by the template 'for every input the law returns true; each argument reads behind the call as it read before'; 0 by the template 'total and deterministic' (their statements: YthpmephgahngoaaTotals.lean).
  GIVEN WITH THE SEED: the statements are not yours to turn. If you find one false, say at which input.
  Laid BY PROGRAM, IN A SANDBOX (cutbox-rows.mjs): the forced cells as the released guide's own fill.sh prints them over the translation 38ae02112f2cc700… (all of the seat's roots in one cut). By AI agents, Wed Nov 11 2026. No macro, syntax, notation, axiom, sorry.
-/
import Derived.Test.YthpmephgahngoaaChecked
import GoSem.Claim
import GoSem.ClaimJoined
import GoSem.ClaimMapViews
import Derived.JoinedTies
import Derived.KernelRfl
namespace Go.Proofs.Ythpmephgahngoaa
/- THE CELL 'sum', in the pinned program and in every row, IS THE sha256 OF THE DUMP (.gsa) THAT YthpmephgahngoaaProg.lean LOADS. Nothing in Lean hashes anything: it is a label: what it is worth is what the hold of that sum in a sandbox is worth. -/
noncomputable def Try.pinned : Pinned := { name := "ythpmephgahngoaa", sum := "38ae02112f2cc7000ca364f7cd6c638407757a7047e3583bd9d5f902446f1b2f", checked := Try.checked }
namespace Rows
def none {H : Type} : Left H := { results := [], args := [] }

/-- 'laws.FnExactAggValue': WHATEVER THE INPUT: true; the input reads as it did. -/
def fnExactAggValueSpec : ChangeSpec := { name := "fnExactAggValue", fn := fun _ => fun
  | [d1, d2] => { results := [.lit (.bool true)], args := [d1, d2] }
  | _ => none }
def fnExactAggValueRow : OpenClaim := { program := "ythpmephgahngoaa", sum := "38ae02112f2cc7000ca364f7cd6c638407757a7047e3583bd9d5f902446f1b2f", func := "loop.example/g00208/laws.FnExactAggValue", spec := "fnExactAggValue", unfollowed := true, recurses := true, apart := false }
def FnExactAggValueSaid : Prop := fnExactAggValueRow.holds Try.pinned (OpenSpec.ofChange fnExactAggValueSpec)

/-- ITS FALSE NEIGHBOUR: 'it returns false'. Refute it at one input. -/
def fnExactAggValueWrong : ChangeSpec := { name := "fnExactAggValue", fn := fun _ => fun
  | [d1, d2] => { results := [.lit (.bool false)], args := [d1, d2] }
  | _ => none }
def FnExactAggValueWrongFalsely : Prop := fnExactAggValueRow.holds Try.pinned (OpenSpec.ofChange fnExactAggValueWrong)

/-- 'laws.FnAggs': WHATEVER THE INPUT: true; the input reads as it did. -/
def fnAggsSpec : ChangeSpec := { name := "fnAggs", fn := fun _ => fun
  | [d1, d2] => { results := [.lit (.bool true)], args := [d1, d2] }
  | _ => none }
def fnAggsRow : OpenClaim := { program := "ythpmephgahngoaa", sum := "38ae02112f2cc7000ca364f7cd6c638407757a7047e3583bd9d5f902446f1b2f", func := "loop.example/g00208/laws.FnAggs", spec := "fnAggs", unfollowed := true, recurses := true, apart := false }
def FnAggsSaid : Prop := fnAggsRow.holds Try.pinned (OpenSpec.ofChange fnAggsSpec)

/-- ITS FALSE NEIGHBOUR: 'it returns false'. Refute it at one input. -/
def fnAggsWrong : ChangeSpec := { name := "fnAggs", fn := fun _ => fun
  | [d1, d2] => { results := [.lit (.bool false)], args := [d1, d2] }
  | _ => none }
def FnAggsWrongFalsely : Prop := fnAggsRow.holds Try.pinned (OpenSpec.ofChange fnAggsWrong)

/-- 'laws.FnExactBinaryValue': WHATEVER THE INPUT: true; the input reads as it did. -/
def fnExactBinaryValueSpec : ChangeSpec := { name := "fnExactBinaryValue", fn := fun _ => fun
  | [d1, d2, d3] => { results := [.lit (.bool true)], args := [d1, d2, d3] }
  | _ => none }
def fnExactBinaryValueRow : OpenClaim := { program := "ythpmephgahngoaa", sum := "38ae02112f2cc7000ca364f7cd6c638407757a7047e3583bd9d5f902446f1b2f", func := "loop.example/g00208/laws.FnExactBinaryValue", spec := "fnExactBinaryValue", unfollowed := true, recurses := true, apart := false }
def FnExactBinaryValueSaid : Prop := fnExactBinaryValueRow.holds Try.pinned (OpenSpec.ofChange fnExactBinaryValueSpec)

/-- ITS FALSE NEIGHBOUR: 'it returns false'. Refute it at one input. -/
def fnExactBinaryValueWrong : ChangeSpec := { name := "fnExactBinaryValue", fn := fun _ => fun
  | [d1, d2, d3] => { results := [.lit (.bool false)], args := [d1, d2, d3] }
  | _ => none }
def FnExactBinaryValueWrongFalsely : Prop := fnExactBinaryValueRow.holds Try.pinned (OpenSpec.ofChange fnExactBinaryValueWrong)

/-- 'laws.FnThree': WHATEVER THE INPUT: true; the input reads as it did. -/
def fnThreeSpec : ChangeSpec := { name := "fnThree", fn := fun _ => fun
  | [d1, d2] => { results := [.lit (.bool true)], args := [d1, d2] }
  | _ => none }
def fnThreeRow : OpenClaim := { program := "ythpmephgahngoaa", sum := "38ae02112f2cc7000ca364f7cd6c638407757a7047e3583bd9d5f902446f1b2f", func := "loop.example/g00208/laws.FnThree", spec := "fnThree", unfollowed := true, recurses := true, apart := false }
def FnThreeSaid : Prop := fnThreeRow.holds Try.pinned (OpenSpec.ofChange fnThreeSpec)

/-- ITS FALSE NEIGHBOUR: 'it returns false'. Refute it at one input. -/
def fnThreeWrong : ChangeSpec := { name := "fnThree", fn := fun _ => fun
  | [d1, d2] => { results := [.lit (.bool false)], args := [d1, d2] }
  | _ => none }
def FnThreeWrongFalsely : Prop := fnThreeRow.holds Try.pinned (OpenSpec.ofChange fnThreeWrong)

/-- 'laws.FnExactSortRows': WHATEVER THE INPUT: true; the input reads as it did. -/
def fnExactSortRowsSpec : ChangeSpec := { name := "fnExactSortRows", fn := fun _ => fun
  | [d1, d2, d3] => { results := [.lit (.bool true)], args := [d1, d2, d3] }
  | _ => none }
def fnExactSortRowsRow : OpenClaim := { program := "ythpmephgahngoaa", sum := "38ae02112f2cc7000ca364f7cd6c638407757a7047e3583bd9d5f902446f1b2f", func := "loop.example/g00208/laws.FnExactSortRows", spec := "fnExactSortRows", unfollowed := true, recurses := true, apart := false }
def FnExactSortRowsSaid : Prop := fnExactSortRowsRow.holds Try.pinned (OpenSpec.ofChange fnExactSortRowsSpec)

/-- ITS FALSE NEIGHBOUR: 'it returns false'. Refute it at one input. -/
def fnExactSortRowsWrong : ChangeSpec := { name := "fnExactSortRows", fn := fun _ => fun
  | [d1, d2, d3] => { results := [.lit (.bool false)], args := [d1, d2, d3] }
  | _ => none }
def FnExactSortRowsWrongFalsely : Prop := fnExactSortRowsRow.holds Try.pinned (OpenSpec.ofChange fnExactSortRowsWrong)

/-- 'laws.FnExactGroupRows': WHATEVER THE INPUT: true; the input reads as it did. -/
def fnExactGroupRowsSpec : ChangeSpec := { name := "fnExactGroupRows", fn := fun _ => fun
  | [d1, d2] => { results := [.lit (.bool true)], args := [d1, d2] }
  | _ => none }
def fnExactGroupRowsRow : OpenClaim := { program := "ythpmephgahngoaa", sum := "38ae02112f2cc7000ca364f7cd6c638407757a7047e3583bd9d5f902446f1b2f", func := "loop.example/g00208/laws.FnExactGroupRows", spec := "fnExactGroupRows", inPlace := ["slices.overlaps[[]loop.example/g00208/impl.Value]", "slices.overlaps[[][]loop.example/g00208/impl.Value]"], unfollowed := true, recurses := true, apart := false }
def FnExactGroupRowsSaid : Prop := fnExactGroupRowsRow.holds Try.pinned (OpenSpec.ofChange fnExactGroupRowsSpec)

/-- ITS FALSE NEIGHBOUR: 'it returns false'. Refute it at one input. -/
def fnExactGroupRowsWrong : ChangeSpec := { name := "fnExactGroupRows", fn := fun _ => fun
  | [d1, d2] => { results := [.lit (.bool false)], args := [d1, d2] }
  | _ => none }
def FnExactGroupRowsWrongFalsely : Prop := fnExactGroupRowsRow.holds Try.pinned (OpenSpec.ofChange fnExactGroupRowsWrong)

/-- 'laws.FnExactSameBag': WHATEVER THE INPUT: true; the input reads as it did. -/
def fnExactSameBagSpec : ChangeSpec := { name := "fnExactSameBag", fn := fun _ => fun
  | [d1, d2] => { results := [.lit (.bool true)], args := [d1, d2] }
  | _ => none }
def fnExactSameBagRow : OpenClaim := { program := "ythpmephgahngoaa", sum := "38ae02112f2cc7000ca364f7cd6c638407757a7047e3583bd9d5f902446f1b2f", func := "loop.example/g00208/laws.FnExactSameBag", spec := "fnExactSameBag", unfollowed := true, recurses := true, apart := false }
def FnExactSameBagSaid : Prop := fnExactSameBagRow.holds Try.pinned (OpenSpec.ofChange fnExactSameBagSpec)

/-- ITS FALSE NEIGHBOUR: 'it returns false'. Refute it at one input. -/
def fnExactSameBagWrong : ChangeSpec := { name := "fnExactSameBag", fn := fun _ => fun
  | [d1, d2] => { results := [.lit (.bool false)], args := [d1, d2] }
  | _ => none }
def FnExactSameBagWrongFalsely : Prop := fnExactSameBagRow.holds Try.pinned (OpenSpec.ofChange fnExactSameBagWrong)

/-- 'laws.FnProduct': WHATEVER THE INPUT: true; the input reads as it did. -/
def fnProductSpec : ChangeSpec := { name := "fnProduct", fn := fun _ => fun
  | [d1, d2] => { results := [.lit (.bool true)], args := [d1, d2] }
  | _ => none }
def fnProductRow : OpenClaim := { program := "ythpmephgahngoaa", sum := "38ae02112f2cc7000ca364f7cd6c638407757a7047e3583bd9d5f902446f1b2f", func := "loop.example/g00208/laws.FnProduct", spec := "fnProduct", unfollowed := true, recurses := true, apart := false }
def FnProductSaid : Prop := fnProductRow.holds Try.pinned (OpenSpec.ofChange fnProductSpec)

/-- ITS FALSE NEIGHBOUR: 'it returns false'. Refute it at one input. -/
def fnProductWrong : ChangeSpec := { name := "fnProduct", fn := fun _ => fun
  | [d1, d2] => { results := [.lit (.bool false)], args := [d1, d2] }
  | _ => none }
def FnProductWrongFalsely : Prop := fnProductRow.holds Try.pinned (OpenSpec.ofChange fnProductWrong)

/-- 'laws.FnSorts': WHATEVER THE INPUT: true; the input reads as it did. -/
def fnSortsSpec : ChangeSpec := { name := "fnSorts", fn := fun _ => fun
  | [d1, d2] => { results := [.lit (.bool true)], args := [d1, d2] }
  | _ => none }
def fnSortsRow : OpenClaim := { program := "ythpmephgahngoaa", sum := "38ae02112f2cc7000ca364f7cd6c638407757a7047e3583bd9d5f902446f1b2f", func := "loop.example/g00208/laws.FnSorts", spec := "fnSorts", unfollowed := true, recurses := true, apart := false }
def FnSortsSaid : Prop := fnSortsRow.holds Try.pinned (OpenSpec.ofChange fnSortsSpec)

/-- ITS FALSE NEIGHBOUR: 'it returns false'. Refute it at one input. -/
def fnSortsWrong : ChangeSpec := { name := "fnSorts", fn := fun _ => fun
  | [d1, d2] => { results := [.lit (.bool false)], args := [d1, d2] }
  | _ => none }
def FnSortsWrongFalsely : Prop := fnSortsRow.holds Try.pinned (OpenSpec.ofChange fnSortsWrong)

/-- 'laws.FnGroups': WHATEVER THE INPUT: true; the input reads as it did. -/
def fnGroupsSpec : ChangeSpec := { name := "fnGroups", fn := fun _ => fun
  | [d1, d2] => { results := [.lit (.bool true)], args := [d1, d2] }
  | _ => none }
def fnGroupsRow : OpenClaim := { program := "ythpmephgahngoaa", sum := "38ae02112f2cc7000ca364f7cd6c638407757a7047e3583bd9d5f902446f1b2f", func := "loop.example/g00208/laws.FnGroups", spec := "fnGroups", inPlace := ["slices.overlaps[[]loop.example/g00208/impl.Value]", "slices.overlaps[[][]loop.example/g00208/impl.Value]"], unfollowed := true, recurses := true, apart := false }
def FnGroupsSaid : Prop := fnGroupsRow.holds Try.pinned (OpenSpec.ofChange fnGroupsSpec)

/-- ITS FALSE NEIGHBOUR: 'it returns false'. Refute it at one input. -/
def fnGroupsWrong : ChangeSpec := { name := "fnGroups", fn := fun _ => fun
  | [d1, d2] => { results := [.lit (.bool false)], args := [d1, d2] }
  | _ => none }
def FnGroupsWrongFalsely : Prop := fnGroupsRow.holds Try.pinned (OpenSpec.ofChange fnGroupsWrong)

/- THE SECOND FORM. 'bulk': how many values and letters a reading holds, each counted each time it is reached (what is shared counts as often as it is met; a slice's spare places count too). A statement '..UptoSaid' is the law's where the arguments, and the package variables that the reading takes, are together of bulk at most 1048576: NARROWER than '..Said'. Prove '..Said' where nothing that the law and all that it calls make is longer than what came in: it says more and counts as full. Else prove '..UptoSaid'. A law counts once. -/
mutual
def uptoBulk {H : Type} : DataW H → Nat
  | .lit (.string bytes) => bytes.length + 1
  | .lit _ => 1
  | .nil => 1
  | .ptr d => uptoBulk d + 1
  | .slice elems spare => uptoBulkAll elems + uptoBulkAll spare + 1
  | .agg parts => uptoBulkAll parts + 1
  | .iface _ d => uptoBulk d + 1
  | .map entries => uptoBulkEntries entries + 1
  | .held _ => 1
def uptoBulkAll {H : Type} : List (DataW H) → Nat
  | [] => 0
  | d :: r => uptoBulk d + uptoBulkAll r
def uptoBulkEntries {H : Type} : List (Lit × DataW H) → Nat
  | [] => 0
  | x :: r => uptoBulkEntry x + uptoBulkEntries r
def uptoBulkEntry {H : Type} : Lit × DataW H → Nat
  | (.string bytes, d) => bytes.length + uptoBulk d + 1
  | (_, d) => uptoBulk d + 1
 end
def uptoSmall : (H : Type) → List (DataW H) → Bool := fun _ ds => decide (uptoBulkAll ds ≤ 1048576)
def OpenSpec.upto (s : _root_.Go.ChangeSpec) : _root_.Go.OpenSpec := { _root_.Go.OpenSpec.ofChange s with cond := some uptoSmall }

/-- 'laws.FnExactAggValue', WHERE WHAT IT READS IS OF BULK AT MOST 1048576: true; the input reads as it did. -/
def fnExactAggValueUptoRow : OpenClaim := { program := "ythpmephgahngoaa", sum := "38ae02112f2cc7000ca364f7cd6c638407757a7047e3583bd9d5f902446f1b2f", func := "loop.example/g00208/laws.FnExactAggValue", spec := "fnExactAggValue", unfollowed := true, recurses := true, apart := false, narrowed := true }
def FnExactAggValueUptoSaid : Prop := fnExactAggValueUptoRow.holds Try.pinned (OpenSpec.upto fnExactAggValueSpec)

/-- 'laws.FnAggs', WHERE WHAT IT READS IS OF BULK AT MOST 1048576: true; the input reads as it did. -/
def fnAggsUptoRow : OpenClaim := { program := "ythpmephgahngoaa", sum := "38ae02112f2cc7000ca364f7cd6c638407757a7047e3583bd9d5f902446f1b2f", func := "loop.example/g00208/laws.FnAggs", spec := "fnAggs", unfollowed := true, recurses := true, apart := false, narrowed := true }
def FnAggsUptoSaid : Prop := fnAggsUptoRow.holds Try.pinned (OpenSpec.upto fnAggsSpec)

/-- 'laws.FnExactBinaryValue', WHERE WHAT IT READS IS OF BULK AT MOST 1048576: true; the input reads as it did. -/
def fnExactBinaryValueUptoRow : OpenClaim := { program := "ythpmephgahngoaa", sum := "38ae02112f2cc7000ca364f7cd6c638407757a7047e3583bd9d5f902446f1b2f", func := "loop.example/g00208/laws.FnExactBinaryValue", spec := "fnExactBinaryValue", unfollowed := true, recurses := true, apart := false, narrowed := true }
def FnExactBinaryValueUptoSaid : Prop := fnExactBinaryValueUptoRow.holds Try.pinned (OpenSpec.upto fnExactBinaryValueSpec)

/-- 'laws.FnThree', WHERE WHAT IT READS IS OF BULK AT MOST 1048576: true; the input reads as it did. -/
def fnThreeUptoRow : OpenClaim := { program := "ythpmephgahngoaa", sum := "38ae02112f2cc7000ca364f7cd6c638407757a7047e3583bd9d5f902446f1b2f", func := "loop.example/g00208/laws.FnThree", spec := "fnThree", unfollowed := true, recurses := true, apart := false, narrowed := true }
def FnThreeUptoSaid : Prop := fnThreeUptoRow.holds Try.pinned (OpenSpec.upto fnThreeSpec)

/-- 'laws.FnExactSortRows', WHERE WHAT IT READS IS OF BULK AT MOST 1048576: true; the input reads as it did. -/
def fnExactSortRowsUptoRow : OpenClaim := { program := "ythpmephgahngoaa", sum := "38ae02112f2cc7000ca364f7cd6c638407757a7047e3583bd9d5f902446f1b2f", func := "loop.example/g00208/laws.FnExactSortRows", spec := "fnExactSortRows", unfollowed := true, recurses := true, apart := false, narrowed := true }
def FnExactSortRowsUptoSaid : Prop := fnExactSortRowsUptoRow.holds Try.pinned (OpenSpec.upto fnExactSortRowsSpec)

/-- 'laws.FnExactGroupRows', WHERE WHAT IT READS IS OF BULK AT MOST 1048576: true; the input reads as it did. -/
def fnExactGroupRowsUptoRow : OpenClaim := { program := "ythpmephgahngoaa", sum := "38ae02112f2cc7000ca364f7cd6c638407757a7047e3583bd9d5f902446f1b2f", func := "loop.example/g00208/laws.FnExactGroupRows", spec := "fnExactGroupRows", inPlace := ["slices.overlaps[[]loop.example/g00208/impl.Value]", "slices.overlaps[[][]loop.example/g00208/impl.Value]"], unfollowed := true, recurses := true, apart := false, narrowed := true }
def FnExactGroupRowsUptoSaid : Prop := fnExactGroupRowsUptoRow.holds Try.pinned (OpenSpec.upto fnExactGroupRowsSpec)

/-- 'laws.FnExactSameBag', WHERE WHAT IT READS IS OF BULK AT MOST 1048576: true; the input reads as it did. -/
def fnExactSameBagUptoRow : OpenClaim := { program := "ythpmephgahngoaa", sum := "38ae02112f2cc7000ca364f7cd6c638407757a7047e3583bd9d5f902446f1b2f", func := "loop.example/g00208/laws.FnExactSameBag", spec := "fnExactSameBag", unfollowed := true, recurses := true, apart := false, narrowed := true }
def FnExactSameBagUptoSaid : Prop := fnExactSameBagUptoRow.holds Try.pinned (OpenSpec.upto fnExactSameBagSpec)

/-- 'laws.FnProduct', WHERE WHAT IT READS IS OF BULK AT MOST 1048576: true; the input reads as it did. -/
def fnProductUptoRow : OpenClaim := { program := "ythpmephgahngoaa", sum := "38ae02112f2cc7000ca364f7cd6c638407757a7047e3583bd9d5f902446f1b2f", func := "loop.example/g00208/laws.FnProduct", spec := "fnProduct", unfollowed := true, recurses := true, apart := false, narrowed := true }
def FnProductUptoSaid : Prop := fnProductUptoRow.holds Try.pinned (OpenSpec.upto fnProductSpec)

/-- 'laws.FnSorts', WHERE WHAT IT READS IS OF BULK AT MOST 1048576: true; the input reads as it did. -/
def fnSortsUptoRow : OpenClaim := { program := "ythpmephgahngoaa", sum := "38ae02112f2cc7000ca364f7cd6c638407757a7047e3583bd9d5f902446f1b2f", func := "loop.example/g00208/laws.FnSorts", spec := "fnSorts", unfollowed := true, recurses := true, apart := false, narrowed := true }
def FnSortsUptoSaid : Prop := fnSortsUptoRow.holds Try.pinned (OpenSpec.upto fnSortsSpec)

/-- 'laws.FnGroups', WHERE WHAT IT READS IS OF BULK AT MOST 1048576: true; the input reads as it did. -/
def fnGroupsUptoRow : OpenClaim := { program := "ythpmephgahngoaa", sum := "38ae02112f2cc7000ca364f7cd6c638407757a7047e3583bd9d5f902446f1b2f", func := "loop.example/g00208/laws.FnGroups", spec := "fnGroups", inPlace := ["slices.overlaps[[]loop.example/g00208/impl.Value]", "slices.overlaps[[][]loop.example/g00208/impl.Value]"], unfollowed := true, recurses := true, apart := false, narrowed := true }
def FnGroupsUptoSaid : Prop := fnGroupsUptoRow.holds Try.pinned (OpenSpec.upto fnGroupsSpec)

end Rows
end Go.Proofs.Ythpmephgahngoaa
