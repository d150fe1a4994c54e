/-
  No cell of these rows narrows 'for every input' (looked for: loops, veiled, ifaces, maps, wideKeys, modest, calm, conditions, laid).
  DERIVED. THE GIVEN ROWS OF THIS SEAT. 7 by the template 'for every input the law returns true; each argument reads behind the call as it read before'; 0 by the template 'total and deterministic' (their statements: YtgjglmhjgfgnlaaTotals.lean).
  GIVEN WITH THE SEED: the statements are not yours to turn. If you find one false, say at which input.
  Laid BY PROGRAM, IN A SANDBOX (cutbox-rows.mjs): the forced cells as the released guide's own fill.sh prints them over the translation d754549c3d3e9a78… (all of the seat's roots in one cut). By AI agents, Wed Nov 11 2026. No macro, syntax, notation, axiom, sorry.
-/
import Derived.Test.YtgjglmhjgfgnlaaChecked
import GoSem.Claim
import GoSem.ClaimJoined
import GoSem.ClaimMapViews
import Derived.JoinedTies
import Derived.KernelRfl
namespace Go.Proofs.Ytgjglmhjgfgnlaa
/- THE CELL 'sum', in the pinned program and in every row, IS THE sha256 OF THE DUMP (.gsa) THAT YtgjglmhjgfgnlaaProg.lean LOADS. Nothing in Lean hashes anything: it is a label: what it is worth is what the hold of that sum in a sandbox is worth. -/
noncomputable def Try.pinned : Pinned := { name := "ytgjglmhjgfgnlaa", sum := "d754549c3d3e9a78723f551a286a9041823e9b42548974171db7ed37a40fee0d", checked := Try.checked }
namespace Rows
def none {H : Type} : Left H := { results := [], args := [] }

/-- 'laws.FnExactAddInts': WHATEVER THE INPUT: true; the input reads as it did. -/
def fnExactAddIntsSpec : ChangeSpec := { name := "fnExactAddInts", fn := fun _ => fun
  | [d1, d2] => { results := [.lit (.bool true)], args := [d1, d2] }
  | _ => none }
def fnExactAddIntsRow : OpenClaim := { program := "ytgjglmhjgfgnlaa", sum := "d754549c3d3e9a78723f551a286a9041823e9b42548974171db7ed37a40fee0d", func := "loop.example/g00208/laws.FnExactAddInts", spec := "fnExactAddInts", apart := false }
def FnExactAddIntsSaid : Prop := fnExactAddIntsRow.holds Try.pinned (OpenSpec.ofChange fnExactAddIntsSpec)

/-- ITS FALSE NEIGHBOUR: 'it returns false'. Refute it at one input. -/
def fnExactAddIntsWrong : ChangeSpec := { name := "fnExactAddInts", fn := fun _ => fun
  | [d1, d2] => { results := [.lit (.bool false)], args := [d1, d2] }
  | _ => none }
def FnExactAddIntsWrongFalsely : Prop := fnExactAddIntsRow.holds Try.pinned (OpenSpec.ofChange fnExactAddIntsWrong)

/-- 'laws.FnExactDivInts': WHATEVER THE INPUT: true; the input reads as it did. -/
def fnExactDivIntsSpec : ChangeSpec := { name := "fnExactDivInts", fn := fun _ => fun
  | [d1, d2] => { results := [.lit (.bool true)], args := [d1, d2] }
  | _ => none }
def fnExactDivIntsRow : OpenClaim := { program := "ytgjglmhjgfgnlaa", sum := "d754549c3d3e9a78723f551a286a9041823e9b42548974171db7ed37a40fee0d", func := "loop.example/g00208/laws.FnExactDivInts", spec := "fnExactDivInts", apart := false }
def FnExactDivIntsSaid : Prop := fnExactDivIntsRow.holds Try.pinned (OpenSpec.ofChange fnExactDivIntsSpec)

/-- ITS FALSE NEIGHBOUR: 'it returns false'. Refute it at one input. -/
def fnExactDivIntsWrong : ChangeSpec := { name := "fnExactDivInts", fn := fun _ => fun
  | [d1, d2] => { results := [.lit (.bool false)], args := [d1, d2] }
  | _ => none }
def FnExactDivIntsWrongFalsely : Prop := fnExactDivIntsRow.holds Try.pinned (OpenSpec.ofChange fnExactDivIntsWrong)

/-- 'laws.FnExactMulInts': WHATEVER THE INPUT: true; the input reads as it did. -/
def fnExactMulIntsSpec : ChangeSpec := { name := "fnExactMulInts", fn := fun _ => fun
  | [d1, d2] => { results := [.lit (.bool true)], args := [d1, d2] }
  | _ => none }
def fnExactMulIntsRow : OpenClaim := { program := "ytgjglmhjgfgnlaa", sum := "d754549c3d3e9a78723f551a286a9041823e9b42548974171db7ed37a40fee0d", func := "loop.example/g00208/laws.FnExactMulInts", spec := "fnExactMulInts", apart := false }
def FnExactMulIntsSaid : Prop := fnExactMulIntsRow.holds Try.pinned (OpenSpec.ofChange fnExactMulIntsSpec)

/-- ITS FALSE NEIGHBOUR: 'it returns false'. Refute it at one input. -/
def fnExactMulIntsWrong : ChangeSpec := { name := "fnExactMulInts", fn := fun _ => fun
  | [d1, d2] => { results := [.lit (.bool false)], args := [d1, d2] }
  | _ => none }
def FnExactMulIntsWrongFalsely : Prop := fnExactMulIntsRow.holds Try.pinned (OpenSpec.ofChange fnExactMulIntsWrong)

/-- 'laws.FnArith': WHATEVER THE INPUT: true; the input reads as it did. -/
def fnArithSpec : ChangeSpec := { name := "fnArith", fn := fun _ => fun
  | [d1, d2] => { results := [.lit (.bool true)], args := [d1, d2] }
  | _ => none }
def fnArithRow : OpenClaim := { program := "ytgjglmhjgfgnlaa", sum := "d754549c3d3e9a78723f551a286a9041823e9b42548974171db7ed37a40fee0d", func := "loop.example/g00208/laws.FnArith", spec := "fnArith", apart := false }
def FnArithSaid : Prop := fnArithRow.holds Try.pinned (OpenSpec.ofChange fnArithSpec)

/-- ITS FALSE NEIGHBOUR: 'it returns false'. Refute it at one input. -/
def fnArithWrong : ChangeSpec := { name := "fnArith", fn := fun _ => fun
  | [d1, d2] => { results := [.lit (.bool false)], args := [d1, d2] }
  | _ => none }
def FnArithWrongFalsely : Prop := fnArithRow.holds Try.pinned (OpenSpec.ofChange fnArithWrong)

/-- 'laws.FnExactUnaryValue': WHATEVER THE INPUT: true; the input reads as it did. -/
def fnExactUnaryValueSpec : ChangeSpec := { name := "fnExactUnaryValue", fn := fun _ => fun
  | [d1, d2] => { results := [.lit (.bool true)], args := [d1, d2] }
  | _ => none }
def fnExactUnaryValueRow : OpenClaim := { program := "ytgjglmhjgfgnlaa", sum := "d754549c3d3e9a78723f551a286a9041823e9b42548974171db7ed37a40fee0d", func := "loop.example/g00208/laws.FnExactUnaryValue", spec := "fnExactUnaryValue", unfollowed := true, recurses := true, apart := false }
def FnExactUnaryValueSaid : Prop := fnExactUnaryValueRow.holds Try.pinned (OpenSpec.ofChange fnExactUnaryValueSpec)

/-- ITS FALSE NEIGHBOUR: 'it returns false'. Refute it at one input. -/
def fnExactUnaryValueWrong : ChangeSpec := { name := "fnExactUnaryValue", fn := fun _ => fun
  | [d1, d2] => { results := [.lit (.bool false)], args := [d1, d2] }
  | _ => none }
def FnExactUnaryValueWrongFalsely : Prop := fnExactUnaryValueRow.holds Try.pinned (OpenSpec.ofChange fnExactUnaryValueWrong)

/-- 'laws.FnExactProductRows': WHATEVER THE INPUT: true; the input reads as it did. -/
def fnExactProductRowsSpec : ChangeSpec := { name := "fnExactProductRows", fn := fun _ => fun
  | [d1, d2] => { results := [.lit (.bool true)], args := [d1, d2] }
  | _ => none }
def fnExactProductRowsRow : OpenClaim := { program := "ytgjglmhjgfgnlaa", sum := "d754549c3d3e9a78723f551a286a9041823e9b42548974171db7ed37a40fee0d", func := "loop.example/g00208/laws.FnExactProductRows", spec := "fnExactProductRows", unfollowed := true, recurses := true, apart := false }
def FnExactProductRowsSaid : Prop := fnExactProductRowsRow.holds Try.pinned (OpenSpec.ofChange fnExactProductRowsSpec)

/-- ITS FALSE NEIGHBOUR: 'it returns false'. Refute it at one input. -/
def fnExactProductRowsWrong : ChangeSpec := { name := "fnExactProductRows", fn := fun _ => fun
  | [d1, d2] => { results := [.lit (.bool false)], args := [d1, d2] }
  | _ => none }
def FnExactProductRowsWrongFalsely : Prop := fnExactProductRowsRow.holds Try.pinned (OpenSpec.ofChange fnExactProductRowsWrong)

/-- 'laws.FnCrashes': WHATEVER THE INPUT: true; the input reads as it did. -/
def fnCrashesSpec : ChangeSpec := { name := "fnCrashes", fn := fun _ => fun
  | [d1, d2] => { results := [.lit (.bool true)], args := [d1, d2] }
  | _ => none }
def fnCrashesRow : OpenClaim := { program := "ytgjglmhjgfgnlaa", sum := "d754549c3d3e9a78723f551a286a9041823e9b42548974171db7ed37a40fee0d", func := "loop.example/g00208/laws.FnCrashes", spec := "fnCrashes", unfollowed := true, recurses := true, apart := false }
def FnCrashesSaid : Prop := fnCrashesRow.holds Try.pinned (OpenSpec.ofChange fnCrashesSpec)

/-- ITS FALSE NEIGHBOUR: 'it returns false'. Refute it at one input. -/
def fnCrashesWrong : ChangeSpec := { name := "fnCrashes", fn := fun _ => fun
  | [d1, d2] => { results := [.lit (.bool false)], args := [d1, d2] }
  | _ => none }
def FnCrashesWrongFalsely : Prop := fnCrashesRow.holds Try.pinned (OpenSpec.ofChange fnCrashesWrong)

/- THE SECOND FORM. 'bulk': how many values and letters a reading holds, each counted each time it is reached (what is shared counts as often as it is met; a slice's spare places count too). A statement '..UptoSaid' is the law's where the arguments, and the package variables that the reading takes, are together of bulk at most 1048576: NARROWER than '..Said'. Prove '..Said' where nothing that the law and all that it calls make is longer than what came in: it says more and counts as full. Else prove '..UptoSaid'. A law counts once. -/
mutual
def uptoBulk {H : Type} : DataW H → Nat
  | .lit (.string bytes) => bytes.length + 1
  | .lit _ => 1
  | .nil => 1
  | .ptr d => uptoBulk d + 1
  | .slice elems spare => uptoBulkAll elems + uptoBulkAll spare + 1
  | .agg parts => uptoBulkAll parts + 1
  | .iface _ d => uptoBulk d + 1
  | .map entries => uptoBulkEntries entries + 1
  | .held _ => 1
def uptoBulkAll {H : Type} : List (DataW H) → Nat
  | [] => 0
  | d :: r => uptoBulk d + uptoBulkAll r
def uptoBulkEntries {H : Type} : List (Lit × DataW H) → Nat
  | [] => 0
  | x :: r => uptoBulkEntry x + uptoBulkEntries r
def uptoBulkEntry {H : Type} : Lit × DataW H → Nat
  | (.string bytes, d) => bytes.length + uptoBulk d + 1
  | (_, d) => uptoBulk d + 1
 end
def uptoSmall : (H : Type) → List (DataW H) → Bool := fun _ ds => decide (uptoBulkAll ds ≤ 1048576)
def OpenSpec.upto (s : _root_.Go.ChangeSpec) : _root_.Go.OpenSpec := { _root_.Go.OpenSpec.ofChange s with cond := some uptoSmall }

/-- 'laws.FnExactAddInts', WHERE WHAT IT READS IS OF BULK AT MOST 1048576: true; the input reads as it did. -/
def fnExactAddIntsUptoRow : OpenClaim := { program := "ytgjglmhjgfgnlaa", sum := "d754549c3d3e9a78723f551a286a9041823e9b42548974171db7ed37a40fee0d", func := "loop.example/g00208/laws.FnExactAddInts", spec := "fnExactAddInts", apart := false, narrowed := true }
def FnExactAddIntsUptoSaid : Prop := fnExactAddIntsUptoRow.holds Try.pinned (OpenSpec.upto fnExactAddIntsSpec)

/-- 'laws.FnExactDivInts', WHERE WHAT IT READS IS OF BULK AT MOST 1048576: true; the input reads as it did. -/
def fnExactDivIntsUptoRow : OpenClaim := { program := "ytgjglmhjgfgnlaa", sum := "d754549c3d3e9a78723f551a286a9041823e9b42548974171db7ed37a40fee0d", func := "loop.example/g00208/laws.FnExactDivInts", spec := "fnExactDivInts", apart := false, narrowed := true }
def FnExactDivIntsUptoSaid : Prop := fnExactDivIntsUptoRow.holds Try.pinned (OpenSpec.upto fnExactDivIntsSpec)

/-- 'laws.FnExactMulInts', WHERE WHAT IT READS IS OF BULK AT MOST 1048576: true; the input reads as it did. -/
def fnExactMulIntsUptoRow : OpenClaim := { program := "ytgjglmhjgfgnlaa", sum := "d754549c3d3e9a78723f551a286a9041823e9b42548974171db7ed37a40fee0d", func := "loop.example/g00208/laws.FnExactMulInts", spec := "fnExactMulInts", apart := false, narrowed := true }
def FnExactMulIntsUptoSaid : Prop := fnExactMulIntsUptoRow.holds Try.pinned (OpenSpec.upto fnExactMulIntsSpec)

/-- 'laws.FnArith', WHERE WHAT IT READS IS OF BULK AT MOST 1048576: true; the input reads as it did. -/
def fnArithUptoRow : OpenClaim := { program := "ytgjglmhjgfgnlaa", sum := "d754549c3d3e9a78723f551a286a9041823e9b42548974171db7ed37a40fee0d", func := "loop.example/g00208/laws.FnArith", spec := "fnArith", apart := false, narrowed := true }
def FnArithUptoSaid : Prop := fnArithUptoRow.holds Try.pinned (OpenSpec.upto fnArithSpec)

/-- 'laws.FnExactUnaryValue', WHERE WHAT IT READS IS OF BULK AT MOST 1048576: true; the input reads as it did. -/
def fnExactUnaryValueUptoRow : OpenClaim := { program := "ytgjglmhjgfgnlaa", sum := "d754549c3d3e9a78723f551a286a9041823e9b42548974171db7ed37a40fee0d", func := "loop.example/g00208/laws.FnExactUnaryValue", spec := "fnExactUnaryValue", unfollowed := true, recurses := true, apart := false, narrowed := true }
def FnExactUnaryValueUptoSaid : Prop := fnExactUnaryValueUptoRow.holds Try.pinned (OpenSpec.upto fnExactUnaryValueSpec)

/-- 'laws.FnExactProductRows', WHERE WHAT IT READS IS OF BULK AT MOST 1048576: true; the input reads as it did. -/
def fnExactProductRowsUptoRow : OpenClaim := { program := "ytgjglmhjgfgnlaa", sum := "d754549c3d3e9a78723f551a286a9041823e9b42548974171db7ed37a40fee0d", func := "loop.example/g00208/laws.FnExactProductRows", spec := "fnExactProductRows", unfollowed := true, recurses := true, apart := false, narrowed := true }
def FnExactProductRowsUptoSaid : Prop := fnExactProductRowsUptoRow.holds Try.pinned (OpenSpec.upto fnExactProductRowsSpec)

/-- 'laws.FnCrashes', WHERE WHAT IT READS IS OF BULK AT MOST 1048576: true; the input reads as it did. -/
def fnCrashesUptoRow : OpenClaim := { program := "ytgjglmhjgfgnlaa", sum := "d754549c3d3e9a78723f551a286a9041823e9b42548974171db7ed37a40fee0d", func := "loop.example/g00208/laws.FnCrashes", spec := "fnCrashes", unfollowed := true, recurses := true, apart := false, narrowed := true }
def FnCrashesUptoSaid : Prop := fnCrashesUptoRow.holds Try.pinned (OpenSpec.upto fnCrashesSpec)

end Rows
end Go.Proofs.Ytgjglmhjgfgnlaa
