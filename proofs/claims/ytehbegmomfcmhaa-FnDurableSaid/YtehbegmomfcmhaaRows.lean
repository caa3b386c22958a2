/-
  No cell of these rows narrows 'for every input' (looked for: loops, veiled, ifaces, maps, wideKeys, modest, calm, conditions, laid).
  DERIVED. THE GIVEN ROWS OF THIS SEAT. 8 by the template 'for every input the law returns true; each argument reads behind the call as it read before'; 0 by the template 'total and deterministic' (their statements: YtehbegmomfcmhaaTotals.lean).
  GIVEN WITH THE SEED: the statements are not yours to turn. If you find one false, say at which input.
  Laid BY PROGRAM, IN A SANDBOX (cutbox-rows.mjs): the forced cells as the released guide's own fill.sh prints them over the translation 55a1ca234c595c35… (all of the seat's roots in one cut). By AI agents, Wed Nov 11 2026. No macro, syntax, notation, axiom, sorry.
-/
import Derived.Test.YtehbegmomfcmhaaChecked
import GoSem.Claim
import GoSem.ClaimJoined
import GoSem.ClaimMapViews
import Derived.JoinedTies
import Derived.KernelRfl
namespace Go.Proofs.Ytehbegmomfcmhaa
/- THE CELL 'sum', in the pinned program and in every row, IS THE sha256 OF THE DUMP (.gsa) THAT YtehbegmomfcmhaaProg.lean LOADS. Nothing in Lean hashes anything: it is a label: what it is worth is what the hold of that sum in a sandbox is worth. -/
noncomputable def Try.pinned : Pinned := { name := "ytehbegmomfcmhaa", sum := "55a1ca234c595c3533eef00ec277787e120d52eb5175cd7153f9b47e02393411", checked := Try.checked }
namespace Rows
def none {H : Type} : Left H := { results := [], args := [] }

/-- 'laws.FnExactServerOk': WHATEVER THE INPUT: true; the input reads as it did. -/
def fnExactServerOkSpec : ChangeSpec := { name := "fnExactServerOk", fn := fun _ => fun
  | [d] => { results := [.lit (.bool true)], args := [d] }
  | _ => none }
def fnExactServerOkRow : OpenClaim := { program := "ytehbegmomfcmhaa", sum := "55a1ca234c595c3533eef00ec277787e120d52eb5175cd7153f9b47e02393411", func := "loop.example/g00199/laws.FnExactServerOk", spec := "fnExactServerOk", inPlace := ["slices.overlaps[loop.example/g00199/impl.Up]"], unfollowed := true, recurses := true, apart := false }
def FnExactServerOkSaid : Prop := fnExactServerOkRow.holds Try.pinned (OpenSpec.ofChange fnExactServerOkSpec)

/-- ITS FALSE NEIGHBOUR: 'it returns false'. Refute it at one input. -/
def fnExactServerOkWrong : ChangeSpec := { name := "fnExactServerOk", fn := fun _ => fun
  | [d] => { results := [.lit (.bool false)], args := [d] }
  | _ => none }
def FnExactServerOkWrongFalsely : Prop := fnExactServerOkRow.holds Try.pinned (OpenSpec.ofChange fnExactServerOkWrong)

/-- 'laws.FnExactMakeUp': WHATEVER THE INPUT: true; the input reads as it did. -/
def fnExactMakeUpSpec : ChangeSpec := { name := "fnExactMakeUp", fn := fun _ => fun
  | [d1, d2, d3] => { results := [.lit (.bool true)], args := [d1, d2, d3] }
  | _ => none }
def fnExactMakeUpRow : OpenClaim := { program := "ytehbegmomfcmhaa", sum := "55a1ca234c595c3533eef00ec277787e120d52eb5175cd7153f9b47e02393411", func := "loop.example/g00199/laws.FnExactMakeUp", spec := "fnExactMakeUp", inPlace := ["slices.overlaps[loop.example/g00199/impl.Up]"], unfollowed := true, recurses := true, apart := false }
def FnExactMakeUpSaid : Prop := fnExactMakeUpRow.holds Try.pinned (OpenSpec.ofChange fnExactMakeUpSpec)

/-- ITS FALSE NEIGHBOUR: 'it returns false'. Refute it at one input. -/
def fnExactMakeUpWrong : ChangeSpec := { name := "fnExactMakeUp", fn := fun _ => fun
  | [d1, d2, d3] => { results := [.lit (.bool false)], args := [d1, d2, d3] }
  | _ => none }
def FnExactMakeUpWrongFalsely : Prop := fnExactMakeUpRow.holds Try.pinned (OpenSpec.ofChange fnExactMakeUpWrong)

/-- 'laws.FnMade': WHATEVER THE INPUT: true; the input reads as it did. -/
def fnMadeSpec : ChangeSpec := { name := "fnMade", fn := fun _ => fun
  | [d] => { results := [.lit (.bool true)], args := [d] }
  | _ => none }
def fnMadeRow : OpenClaim := { program := "ytehbegmomfcmhaa", sum := "55a1ca234c595c3533eef00ec277787e120d52eb5175cd7153f9b47e02393411", func := "loop.example/g00199/laws.FnMade", spec := "fnMade", inPlace := ["slices.overlaps[loop.example/g00199/impl.Up]"], unfollowed := true, recurses := true, apart := false }
def FnMadeSaid : Prop := fnMadeRow.holds Try.pinned (OpenSpec.ofChange fnMadeSpec)

/-- ITS FALSE NEIGHBOUR: 'it returns false'. Refute it at one input. -/
def fnMadeWrong : ChangeSpec := { name := "fnMade", fn := fun _ => fun
  | [d] => { results := [.lit (.bool false)], args := [d] }
  | _ => none }
def FnMadeWrongFalsely : Prop := fnMadeRow.holds Try.pinned (OpenSpec.ofChange fnMadeWrong)

/-- 'laws.FnExactDoneUp': WHATEVER THE INPUT: true; the input reads as it did. -/
def fnExactDoneUpSpec : ChangeSpec := { name := "fnExactDoneUp", fn := fun _ => fun
  | [d1, d2, d3] => { results := [.lit (.bool true)], args := [d1, d2, d3] }
  | _ => none }
def fnExactDoneUpRow : OpenClaim := { program := "ytehbegmomfcmhaa", sum := "55a1ca234c595c3533eef00ec277787e120d52eb5175cd7153f9b47e02393411", func := "loop.example/g00199/laws.FnExactDoneUp", spec := "fnExactDoneUp", inPlace := ["slices.overlaps[loop.example/g00199/impl.Up]"], unfollowed := true, recurses := true, apart := false }
def FnExactDoneUpSaid : Prop := fnExactDoneUpRow.holds Try.pinned (OpenSpec.ofChange fnExactDoneUpSpec)

/-- ITS FALSE NEIGHBOUR: 'it returns false'. Refute it at one input. -/
def fnExactDoneUpWrong : ChangeSpec := { name := "fnExactDoneUp", fn := fun _ => fun
  | [d1, d2, d3] => { results := [.lit (.bool false)], args := [d1, d2, d3] }
  | _ => none }
def FnExactDoneUpWrongFalsely : Prop := fnExactDoneUpRow.holds Try.pinned (OpenSpec.ofChange fnExactDoneUpWrong)

/-- 'laws.FnOpened': WHATEVER THE INPUT: true; the input reads as it did. -/
def fnOpenedSpec : ChangeSpec := { name := "fnOpened", fn := fun _ => fun
  | [d] => { results := [.lit (.bool true)], args := [d] }
  | _ => none }
def fnOpenedRow : OpenClaim := { program := "ytehbegmomfcmhaa", sum := "55a1ca234c595c3533eef00ec277787e120d52eb5175cd7153f9b47e02393411", func := "loop.example/g00199/laws.FnOpened", spec := "fnOpened", inPlace := ["slices.overlaps[loop.example/g00199/impl.Up]"], unfollowed := true, recurses := true, apart := false }
def FnOpenedSaid : Prop := fnOpenedRow.holds Try.pinned (OpenSpec.ofChange fnOpenedSpec)

/-- ITS FALSE NEIGHBOUR: 'it returns false'. Refute it at one input. -/
def fnOpenedWrong : ChangeSpec := { name := "fnOpened", fn := fun _ => fun
  | [d] => { results := [.lit (.bool false)], args := [d] }
  | _ => none }
def FnOpenedWrongFalsely : Prop := fnOpenedRow.holds Try.pinned (OpenSpec.ofChange fnOpenedWrong)

/-- 'laws.FnKept': WHATEVER THE INPUT: true; the input reads as it did. -/
def fnKeptSpec : ChangeSpec := { name := "fnKept", fn := fun _ => fun
  | [d] => { results := [.lit (.bool true)], args := [d] }
  | _ => none }
def fnKeptRow : OpenClaim := { program := "ytehbegmomfcmhaa", sum := "55a1ca234c595c3533eef00ec277787e120d52eb5175cd7153f9b47e02393411", func := "loop.example/g00199/laws.FnKept", spec := "fnKept", inPlace := ["slices.overlaps[loop.example/g00199/impl.Up]"], unfollowed := true, recurses := true, apart := false }
def FnKeptSaid : Prop := fnKeptRow.holds Try.pinned (OpenSpec.ofChange fnKeptSpec)

/-- ITS FALSE NEIGHBOUR: 'it returns false'. Refute it at one input. -/
def fnKeptWrong : ChangeSpec := { name := "fnKept", fn := fun _ => fun
  | [d] => { results := [.lit (.bool false)], args := [d] }
  | _ => none }
def FnKeptWrongFalsely : Prop := fnKeptRow.holds Try.pinned (OpenSpec.ofChange fnKeptWrong)

/-- 'laws.FnExactPutUp': WHATEVER THE INPUT: true; the input reads as it did. -/
def fnExactPutUpSpec : ChangeSpec := { name := "fnExactPutUp", fn := fun _ => fun
  | [d1, d2, d3, d4] => { results := [.lit (.bool true)], args := [d1, d2, d3, d4] }
  | _ => none }
def fnExactPutUpRow : OpenClaim := { program := "ytehbegmomfcmhaa", sum := "55a1ca234c595c3533eef00ec277787e120d52eb5175cd7153f9b47e02393411", func := "loop.example/g00199/laws.FnExactPutUp", spec := "fnExactPutUp", inPlace := ["slices.overlaps[loop.example/g00199/impl.Up]"], unfollowed := true, recurses := true, apart := false }
def FnExactPutUpSaid : Prop := fnExactPutUpRow.holds Try.pinned (OpenSpec.ofChange fnExactPutUpSpec)

/-- ITS FALSE NEIGHBOUR: 'it returns false'. Refute it at one input. -/
def fnExactPutUpWrong : ChangeSpec := { name := "fnExactPutUp", fn := fun _ => fun
  | [d1, d2, d3, d4] => { results := [.lit (.bool false)], args := [d1, d2, d3, d4] }
  | _ => none }
def FnExactPutUpWrongFalsely : Prop := fnExactPutUpRow.holds Try.pinned (OpenSpec.ofChange fnExactPutUpWrong)

/-- 'laws.FnDurable': WHATEVER THE INPUT: true; the input reads as it did. -/
def fnDurableSpec : ChangeSpec := { name := "fnDurable", fn := fun _ => fun
  | [d] => { results := [.lit (.bool true)], args := [d] }
  | _ => none }
def fnDurableRow : OpenClaim := { program := "ytehbegmomfcmhaa", sum := "55a1ca234c595c3533eef00ec277787e120d52eb5175cd7153f9b47e02393411", func := "loop.example/g00199/laws.FnDurable", spec := "fnDurable", inPlace := ["slices.overlaps[loop.example/g00199/impl.Up]"], unfollowed := true, recurses := true, apart := false }
def FnDurableSaid : Prop := fnDurableRow.holds Try.pinned (OpenSpec.ofChange fnDurableSpec)

/-- ITS FALSE NEIGHBOUR: 'it returns false'. Refute it at one input. -/
def fnDurableWrong : ChangeSpec := { name := "fnDurable", fn := fun _ => fun
  | [d] => { results := [.lit (.bool false)], args := [d] }
  | _ => none }
def FnDurableWrongFalsely : Prop := fnDurableRow.holds Try.pinned (OpenSpec.ofChange fnDurableWrong)

/- THE SECOND FORM. 'bulk': how many values and letters a reading holds, each counted each time it is reached (what is shared counts as often as it is met; a slice's spare places count too). A statement '..UptoSaid' is the law's where the arguments, and the package variables that the reading takes, are together of bulk at most 1048576: NARROWER than '..Said'. Prove '..Said' where nothing that the law and all that it calls make is longer than what came in: it says more and counts as full. Else prove '..UptoSaid'. A law counts once. -/
mutual
def uptoBulk {H : Type} : DataW H → Nat
  | .lit (.string bytes) => bytes.length + 1
  | .lit _ => 1
  | .nil => 1
  | .ptr d => uptoBulk d + 1
  | .slice elems spare => uptoBulkAll elems + uptoBulkAll spare + 1
  | .agg parts => uptoBulkAll parts + 1
  | .iface _ d => uptoBulk d + 1
  | .map entries => uptoBulkEntries entries + 1
  | .held _ => 1
def uptoBulkAll {H : Type} : List (DataW H) → Nat
  | [] => 0
  | d :: r => uptoBulk d + uptoBulkAll r
def uptoBulkEntries {H : Type} : List (Lit × DataW H) → Nat
  | [] => 0
  | x :: r => uptoBulkEntry x + uptoBulkEntries r
def uptoBulkEntry {H : Type} : Lit × DataW H → Nat
  | (.string bytes, d) => bytes.length + uptoBulk d + 1
  | (_, d) => uptoBulk d + 1
 end
def uptoSmall : (H : Type) → List (DataW H) → Bool := fun _ ds => decide (uptoBulkAll ds ≤ 1048576)
def OpenSpec.upto (s : _root_.Go.ChangeSpec) : _root_.Go.OpenSpec := { _root_.Go.OpenSpec.ofChange s with cond := some uptoSmall }

/-- 'laws.FnExactServerOk', WHERE WHAT IT READS IS OF BULK AT MOST 1048576: true; the input reads as it did. -/
def fnExactServerOkUptoRow : OpenClaim := { program := "ytehbegmomfcmhaa", sum := "55a1ca234c595c3533eef00ec277787e120d52eb5175cd7153f9b47e02393411", func := "loop.example/g00199/laws.FnExactServerOk", spec := "fnExactServerOk", inPlace := ["slices.overlaps[loop.example/g00199/impl.Up]"], unfollowed := true, recurses := true, apart := false, narrowed := true }
def FnExactServerOkUptoSaid : Prop := fnExactServerOkUptoRow.holds Try.pinned (OpenSpec.upto fnExactServerOkSpec)

/-- 'laws.FnExactMakeUp', WHERE WHAT IT READS IS OF BULK AT MOST 1048576: true; the input reads as it did. -/
def fnExactMakeUpUptoRow : OpenClaim := { program := "ytehbegmomfcmhaa", sum := "55a1ca234c595c3533eef00ec277787e120d52eb5175cd7153f9b47e02393411", func := "loop.example/g00199/laws.FnExactMakeUp", spec := "fnExactMakeUp", inPlace := ["slices.overlaps[loop.example/g00199/impl.Up]"], unfollowed := true, recurses := true, apart := false, narrowed := true }
def FnExactMakeUpUptoSaid : Prop := fnExactMakeUpUptoRow.holds Try.pinned (OpenSpec.upto fnExactMakeUpSpec)

/-- 'laws.FnMade', WHERE WHAT IT READS IS OF BULK AT MOST 1048576: true; the input reads as it did. -/
def fnMadeUptoRow : OpenClaim := { program := "ytehbegmomfcmhaa", sum := "55a1ca234c595c3533eef00ec277787e120d52eb5175cd7153f9b47e02393411", func := "loop.example/g00199/laws.FnMade", spec := "fnMade", inPlace := ["slices.overlaps[loop.example/g00199/impl.Up]"], unfollowed := true, recurses := true, apart := false, narrowed := true }
def FnMadeUptoSaid : Prop := fnMadeUptoRow.holds Try.pinned (OpenSpec.upto fnMadeSpec)

/-- 'laws.FnExactDoneUp', WHERE WHAT IT READS IS OF BULK AT MOST 1048576: true; the input reads as it did. -/
def fnExactDoneUpUptoRow : OpenClaim := { program := "ytehbegmomfcmhaa", sum := "55a1ca234c595c3533eef00ec277787e120d52eb5175cd7153f9b47e02393411", func := "loop.example/g00199/laws.FnExactDoneUp", spec := "fnExactDoneUp", inPlace := ["slices.overlaps[loop.example/g00199/impl.Up]"], unfollowed := true, recurses := true, apart := false, narrowed := true }
def FnExactDoneUpUptoSaid : Prop := fnExactDoneUpUptoRow.holds Try.pinned (OpenSpec.upto fnExactDoneUpSpec)

/-- 'laws.FnOpened', WHERE WHAT IT READS IS OF BULK AT MOST 1048576: true; the input reads as it did. -/
def fnOpenedUptoRow : OpenClaim := { program := "ytehbegmomfcmhaa", sum := "55a1ca234c595c3533eef00ec277787e120d52eb5175cd7153f9b47e02393411", func := "loop.example/g00199/laws.FnOpened", spec := "fnOpened", inPlace := ["slices.overlaps[loop.example/g00199/impl.Up]"], unfollowed := true, recurses := true, apart := false, narrowed := true }
def FnOpenedUptoSaid : Prop := fnOpenedUptoRow.holds Try.pinned (OpenSpec.upto fnOpenedSpec)

/-- 'laws.FnKept', WHERE WHAT IT READS IS OF BULK AT MOST 1048576: true; the input reads as it did. -/
def fnKeptUptoRow : OpenClaim := { program := "ytehbegmomfcmhaa", sum := "55a1ca234c595c3533eef00ec277787e120d52eb5175cd7153f9b47e02393411", func := "loop.example/g00199/laws.FnKept", spec := "fnKept", inPlace := ["slices.overlaps[loop.example/g00199/impl.Up]"], unfollowed := true, recurses := true, apart := false, narrowed := true }
def FnKeptUptoSaid : Prop := fnKeptUptoRow.holds Try.pinned (OpenSpec.upto fnKeptSpec)

/-- 'laws.FnExactPutUp', WHERE WHAT IT READS IS OF BULK AT MOST 1048576: true; the input reads as it did. -/
def fnExactPutUpUptoRow : OpenClaim := { program := "ytehbegmomfcmhaa", sum := "55a1ca234c595c3533eef00ec277787e120d52eb5175cd7153f9b47e02393411", func := "loop.example/g00199/laws.FnExactPutUp", spec := "fnExactPutUp", inPlace := ["slices.overlaps[loop.example/g00199/impl.Up]"], unfollowed := true, recurses := true, apart := false, narrowed := true }
def FnExactPutUpUptoSaid : Prop := fnExactPutUpUptoRow.holds Try.pinned (OpenSpec.upto fnExactPutUpSpec)

/-- 'laws.FnDurable', WHERE WHAT IT READS IS OF BULK AT MOST 1048576: true; the input reads as it did. -/
def fnDurableUptoRow : OpenClaim := { program := "ytehbegmomfcmhaa", sum := "55a1ca234c595c3533eef00ec277787e120d52eb5175cd7153f9b47e02393411", func := "loop.example/g00199/laws.FnDurable", spec := "fnDurable", inPlace := ["slices.overlaps[loop.example/g00199/impl.Up]"], unfollowed := true, recurses := true, apart := false, narrowed := true }
def FnDurableUptoSaid : Prop := fnDurableUptoRow.holds Try.pinned (OpenSpec.upto fnDurableSpec)

end Rows
end Go.Proofs.Ytehbegmomfcmhaa
