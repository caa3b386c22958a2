/-
  No cell of these rows narrows 'for every input' (looked for: loops, veiled, ifaces, maps, wideKeys, modest, calm, conditions, laid).
  DERIVED. THE GIVEN ROWS OF THIS SEAT. 12 by the template 'for every input the law returns true; each argument reads behind the call as it read before'; 0 by the template 'total and deterministic' (their statements: YtiplpehengcinaaTotals.lean).
  GIVEN WITH THE SEED: the statements are not yours to turn. If you find one false, say at which input.
  Laid BY PROGRAM, IN A SANDBOX (cutbox-rows.mjs): the forced cells as the released guide's own fill.sh prints them over the translation d270398e1a3a1c67… (all of the seat's roots in one cut). By AI agents, Wed Nov 11 2026. No macro, syntax, notation, axiom, sorry.
-/
import Derived.Test.YtiplpehengcinaaChecked
import GoSem.Claim
import GoSem.ClaimJoined
import GoSem.ClaimMapViews
import Derived.JoinedTies
import Derived.KernelRfl
namespace Go.Proofs.Ytiplpehengcinaa
/- THE CELL 'sum', in the pinned program and in every row, IS THE sha256 OF THE DUMP (.gsa) THAT YtiplpehengcinaaProg.lean LOADS. Nothing in Lean hashes anything: it is a label: what it is worth is what the hold of that sum in a sandbox is worth. -/
noncomputable def Try.pinned : Pinned := { name := "ytiplpehengcinaa", sum := "d270398e1a3a1c6702c98490e07d18ae31de551000b814d0b610a436ddf44a8c", checked := Try.checked }
namespace Rows
def none {H : Type} : Left H := { results := [], args := [] }

/-- 'laws.FnExactNextReq': WHATEVER THE INPUT: true; the input reads as it did. -/
def fnExactNextReqSpec : ChangeSpec := { name := "fnExactNextReq", fn := fun _ => fun
  | [d] => { results := [.lit (.bool true)], args := [d] }
  | _ => none }
def fnExactNextReqRow : OpenClaim := { program := "ytiplpehengcinaa", sum := "d270398e1a3a1c6702c98490e07d18ae31de551000b814d0b610a436ddf44a8c", func := "loop.example/g00199/laws.FnExactNextReq", spec := "fnExactNextReq", apart := false }
def FnExactNextReqSaid : Prop := fnExactNextReqRow.holds Try.pinned (OpenSpec.ofChange fnExactNextReqSpec)

/-- ITS FALSE NEIGHBOUR: 'it returns false'. Refute it at one input. -/
def fnExactNextReqWrong : ChangeSpec := { name := "fnExactNextReq", fn := fun _ => fun
  | [d] => { results := [.lit (.bool false)], args := [d] }
  | _ => none }
def FnExactNextReqWrongFalsely : Prop := fnExactNextReqRow.holds Try.pinned (OpenSpec.ofChange fnExactNextReqWrong)

/-- 'laws.FnExactHearResp': WHATEVER THE INPUT: true; the input reads as it did. -/
def fnExactHearRespSpec : ChangeSpec := { name := "fnExactHearResp", fn := fun _ => fun
  | [d1, d2] => { results := [.lit (.bool true)], args := [d1, d2] }
  | _ => none }
def fnExactHearRespRow : OpenClaim := { program := "ytiplpehengcinaa", sum := "d270398e1a3a1c6702c98490e07d18ae31de551000b814d0b610a436ddf44a8c", func := "loop.example/g00199/laws.FnExactHearResp", spec := "fnExactHearResp", apart := false }
def FnExactHearRespSaid : Prop := fnExactHearRespRow.holds Try.pinned (OpenSpec.ofChange fnExactHearRespSpec)

/-- ITS FALSE NEIGHBOUR: 'it returns false'. Refute it at one input. -/
def fnExactHearRespWrong : ChangeSpec := { name := "fnExactHearResp", fn := fun _ => fun
  | [d1, d2] => { results := [.lit (.bool false)], args := [d1, d2] }
  | _ => none }
def FnExactHearRespWrongFalsely : Prop := fnExactHearRespRow.holds Try.pinned (OpenSpec.ofChange fnExactHearRespWrong)

/-- 'laws.FnExactConnNew': WHATEVER THE INPUT: true; the input reads as it did. -/
def fnExactConnNewSpec : ChangeSpec := { name := "fnExactConnNew", fn := fun _ => fun
  | [] => { results := [.lit (.bool true)], args := [] }
  | _ => none }
def fnExactConnNewRow : OpenClaim := { program := "ytiplpehengcinaa", sum := "d270398e1a3a1c6702c98490e07d18ae31de551000b814d0b610a436ddf44a8c", func := "loop.example/g00199/laws.FnExactConnNew", spec := "fnExactConnNew", apart := false }
def FnExactConnNewSaid : Prop := fnExactConnNewRow.holds Try.pinned (OpenSpec.ofChange fnExactConnNewSpec)

/-- ITS FALSE NEIGHBOUR: 'it returns false'. Refute it at one input. -/
def fnExactConnNewWrong : ChangeSpec := { name := "fnExactConnNew", fn := fun _ => fun
  | [] => { results := [.lit (.bool false)], args := [] }
  | _ => none }
def FnExactConnNewWrongFalsely : Prop := fnExactConnNewRow.holds Try.pinned (OpenSpec.ofChange fnExactConnNewWrong)

/-- 'laws.FnClients': WHATEVER THE INPUT: true; the input reads as it did. -/
def fnClientsSpec : ChangeSpec := { name := "fnClients", fn := fun _ => fun
  | [d] => { results := [.lit (.bool true)], args := [d] }
  | _ => none }
def fnClientsRow : OpenClaim := { program := "ytiplpehengcinaa", sum := "d270398e1a3a1c6702c98490e07d18ae31de551000b814d0b610a436ddf44a8c", func := "loop.example/g00199/laws.FnClients", spec := "fnClients", apart := false }
def FnClientsSaid : Prop := fnClientsRow.holds Try.pinned (OpenSpec.ofChange fnClientsSpec)

/-- ITS FALSE NEIGHBOUR: 'it returns false'. Refute it at one input. -/
def fnClientsWrong : ChangeSpec := { name := "fnClients", fn := fun _ => fun
  | [d] => { results := [.lit (.bool false)], args := [d] }
  | _ => none }
def FnClientsWrongFalsely : Prop := fnClientsRow.holds Try.pinned (OpenSpec.ofChange fnClientsWrong)

/-- 'laws.FnExactServerNew': WHATEVER THE INPUT: true; the input reads as it did. -/
def fnExactServerNewSpec : ChangeSpec := { name := "fnExactServerNew", fn := fun _ => fun
  | [d] => { results := [.lit (.bool true)], args := [d] }
  | _ => none }
def fnExactServerNewRow : OpenClaim := { program := "ytiplpehengcinaa", sum := "d270398e1a3a1c6702c98490e07d18ae31de551000b814d0b610a436ddf44a8c", func := "loop.example/g00199/laws.FnExactServerNew", spec := "fnExactServerNew", apart := false }
def FnExactServerNewSaid : Prop := fnExactServerNewRow.holds Try.pinned (OpenSpec.ofChange fnExactServerNewSpec)

/-- ITS FALSE NEIGHBOUR: 'it returns false'. Refute it at one input. -/
def fnExactServerNewWrong : ChangeSpec := { name := "fnExactServerNew", fn := fun _ => fun
  | [d] => { results := [.lit (.bool false)], args := [d] }
  | _ => none }
def FnExactServerNewWrongFalsely : Prop := fnExactServerNewRow.holds Try.pinned (OpenSpec.ofChange fnExactServerNewWrong)

/-- 'laws.FnExactConnOk': WHATEVER THE INPUT: true; the input reads as it did. -/
def fnExactConnOkSpec : ChangeSpec := { name := "fnExactConnOk", fn := fun _ => fun
  | [d] => { results := [.lit (.bool true)], args := [d] }
  | _ => none }
def fnExactConnOkRow : OpenClaim := { program := "ytiplpehengcinaa", sum := "d270398e1a3a1c6702c98490e07d18ae31de551000b814d0b610a436ddf44a8c", func := "loop.example/g00199/laws.FnExactConnOk", spec := "fnExactConnOk", apart := false }
def FnExactConnOkSaid : Prop := fnExactConnOkRow.holds Try.pinned (OpenSpec.ofChange fnExactConnOkSpec)

/-- ITS FALSE NEIGHBOUR: 'it returns false'. Refute it at one input. -/
def fnExactConnOkWrong : ChangeSpec := { name := "fnExactConnOk", fn := fun _ => fun
  | [d] => { results := [.lit (.bool false)], args := [d] }
  | _ => none }
def FnExactConnOkWrongFalsely : Prop := fnExactConnOkRow.holds Try.pinned (OpenSpec.ofChange fnExactConnOkWrong)

/-- 'laws.FnExactAllDone': WHATEVER THE INPUT: true; the input reads as it did. -/
def fnExactAllDoneSpec : ChangeSpec := { name := "fnExactAllDone", fn := fun _ => fun
  | [d] => { results := [.lit (.bool true)], args := [d] }
  | _ => none }
def fnExactAllDoneRow : OpenClaim := { program := "ytiplpehengcinaa", sum := "d270398e1a3a1c6702c98490e07d18ae31de551000b814d0b610a436ddf44a8c", func := "loop.example/g00199/laws.FnExactAllDone", spec := "fnExactAllDone", apart := false }
def FnExactAllDoneSaid : Prop := fnExactAllDoneRow.holds Try.pinned (OpenSpec.ofChange fnExactAllDoneSpec)

/-- ITS FALSE NEIGHBOUR: 'it returns false'. Refute it at one input. -/
def fnExactAllDoneWrong : ChangeSpec := { name := "fnExactAllDone", fn := fun _ => fun
  | [d] => { results := [.lit (.bool false)], args := [d] }
  | _ => none }
def FnExactAllDoneWrongFalsely : Prop := fnExactAllDoneRow.holds Try.pinned (OpenSpec.ofChange fnExactAllDoneWrong)

/-- 'laws.FnExactNoneFails': WHATEVER THE INPUT: true; the input reads as it did. -/
def fnExactNoneFailsSpec : ChangeSpec := { name := "fnExactNoneFails", fn := fun _ => fun
  | [d] => { results := [.lit (.bool true)], args := [d] }
  | _ => none }
def fnExactNoneFailsRow : OpenClaim := { program := "ytiplpehengcinaa", sum := "d270398e1a3a1c6702c98490e07d18ae31de551000b814d0b610a436ddf44a8c", func := "loop.example/g00199/laws.FnExactNoneFails", spec := "fnExactNoneFails", apart := false }
def FnExactNoneFailsSaid : Prop := fnExactNoneFailsRow.holds Try.pinned (OpenSpec.ofChange fnExactNoneFailsSpec)

/-- ITS FALSE NEIGHBOUR: 'it returns false'. Refute it at one input. -/
def fnExactNoneFailsWrong : ChangeSpec := { name := "fnExactNoneFails", fn := fun _ => fun
  | [d] => { results := [.lit (.bool false)], args := [d] }
  | _ => none }
def FnExactNoneFailsWrongFalsely : Prop := fnExactNoneFailsRow.holds Try.pinned (OpenSpec.ofChange fnExactNoneFailsWrong)

/-- 'laws.FnExactLacking': WHATEVER THE INPUT: true; the input reads as it did. -/
def fnExactLackingSpec : ChangeSpec := { name := "fnExactLacking", fn := fun _ => fun
  | [d] => { results := [.lit (.bool true)], args := [d] }
  | _ => none }
def fnExactLackingRow : OpenClaim := { program := "ytiplpehengcinaa", sum := "d270398e1a3a1c6702c98490e07d18ae31de551000b814d0b610a436ddf44a8c", func := "loop.example/g00199/laws.FnExactLacking", spec := "fnExactLacking", apart := false }
def FnExactLackingSaid : Prop := fnExactLackingRow.holds Try.pinned (OpenSpec.ofChange fnExactLackingSpec)

/-- ITS FALSE NEIGHBOUR: 'it returns false'. Refute it at one input. -/
def fnExactLackingWrong : ChangeSpec := { name := "fnExactLacking", fn := fun _ => fun
  | [d] => { results := [.lit (.bool false)], args := [d] }
  | _ => none }
def FnExactLackingWrongFalsely : Prop := fnExactLackingRow.holds Try.pinned (OpenSpec.ofChange fnExactLackingWrong)

/-- 'laws.FnExactNotLost': WHATEVER THE INPUT: true; the input reads as it did. -/
def fnExactNotLostSpec : ChangeSpec := { name := "fnExactNotLost", fn := fun _ => fun
  | [d] => { results := [.lit (.bool true)], args := [d] }
  | _ => none }
def fnExactNotLostRow : OpenClaim := { program := "ytiplpehengcinaa", sum := "d270398e1a3a1c6702c98490e07d18ae31de551000b814d0b610a436ddf44a8c", func := "loop.example/g00199/laws.FnExactNotLost", spec := "fnExactNotLost", apart := false }
def FnExactNotLostSaid : Prop := fnExactNotLostRow.holds Try.pinned (OpenSpec.ofChange fnExactNotLostSpec)

/-- ITS FALSE NEIGHBOUR: 'it returns false'. Refute it at one input. -/
def fnExactNotLostWrong : ChangeSpec := { name := "fnExactNotLost", fn := fun _ => fun
  | [d] => { results := [.lit (.bool false)], args := [d] }
  | _ => none }
def FnExactNotLostWrongFalsely : Prop := fnExactNotLostRow.holds Try.pinned (OpenSpec.ofChange fnExactNotLostWrong)

/-- 'laws.FnExactEnds': WHATEVER THE INPUT: true; the input reads as it did. -/
def fnExactEndsSpec : ChangeSpec := { name := "fnExactEnds", fn := fun _ => fun
  | [d] => { results := [.lit (.bool true)], args := [d] }
  | _ => none }
def fnExactEndsRow : OpenClaim := { program := "ytiplpehengcinaa", sum := "d270398e1a3a1c6702c98490e07d18ae31de551000b814d0b610a436ddf44a8c", func := "loop.example/g00199/laws.FnExactEnds", spec := "fnExactEnds", apart := false }
def FnExactEndsSaid : Prop := fnExactEndsRow.holds Try.pinned (OpenSpec.ofChange fnExactEndsSpec)

/-- ITS FALSE NEIGHBOUR: 'it returns false'. Refute it at one input. -/
def fnExactEndsWrong : ChangeSpec := { name := "fnExactEnds", fn := fun _ => fun
  | [d] => { results := [.lit (.bool false)], args := [d] }
  | _ => none }
def FnExactEndsWrongFalsely : Prop := fnExactEndsRow.holds Try.pinned (OpenSpec.ofChange fnExactEndsWrong)

/-- 'laws.FnExactBegins': WHATEVER THE INPUT: true; the input reads as it did. -/
def fnExactBeginsSpec : ChangeSpec := { name := "fnExactBegins", fn := fun _ => fun
  | [d] => { results := [.lit (.bool true)], args := [d] }
  | _ => none }
def fnExactBeginsRow : OpenClaim := { program := "ytiplpehengcinaa", sum := "d270398e1a3a1c6702c98490e07d18ae31de551000b814d0b610a436ddf44a8c", func := "loop.example/g00199/laws.FnExactBegins", spec := "fnExactBegins", apart := false }
def FnExactBeginsSaid : Prop := fnExactBeginsRow.holds Try.pinned (OpenSpec.ofChange fnExactBeginsSpec)

/-- ITS FALSE NEIGHBOUR: 'it returns false'. Refute it at one input. -/
def fnExactBeginsWrong : ChangeSpec := { name := "fnExactBegins", fn := fun _ => fun
  | [d] => { results := [.lit (.bool false)], args := [d] }
  | _ => none }
def FnExactBeginsWrongFalsely : Prop := fnExactBeginsRow.holds Try.pinned (OpenSpec.ofChange fnExactBeginsWrong)

/- THE SECOND FORM. 'bulk': how many values and letters a reading holds, each counted each time it is reached (what is shared counts as often as it is met; a slice's spare places count too). A statement '..UptoSaid' is the law's where the arguments, and the package variables that the reading takes, are together of bulk at most 1048576: NARROWER than '..Said'. Prove '..Said' where nothing that the law and all that it calls make is longer than what came in: it says more and counts as full. Else prove '..UptoSaid'. A law counts once. -/
mutual
def uptoBulk {H : Type} : DataW H → Nat
  | .lit (.string bytes) => bytes.length + 1
  | .lit _ => 1
  | .nil => 1
  | .ptr d => uptoBulk d + 1
  | .slice elems spare => uptoBulkAll elems + uptoBulkAll spare + 1
  | .agg parts => uptoBulkAll parts + 1
  | .iface _ d => uptoBulk d + 1
  | .map entries => uptoBulkEntries entries + 1
  | .held _ => 1
def uptoBulkAll {H : Type} : List (DataW H) → Nat
  | [] => 0
  | d :: r => uptoBulk d + uptoBulkAll r
def uptoBulkEntries {H : Type} : List (Lit × DataW H) → Nat
  | [] => 0
  | x :: r => uptoBulkEntry x + uptoBulkEntries r
def uptoBulkEntry {H : Type} : Lit × DataW H → Nat
  | (.string bytes, d) => bytes.length + uptoBulk d + 1
  | (_, d) => uptoBulk d + 1
 end
def uptoSmall : (H : Type) → List (DataW H) → Bool := fun _ ds => decide (uptoBulkAll ds ≤ 1048576)
def OpenSpec.upto (s : _root_.Go.ChangeSpec) : _root_.Go.OpenSpec := { _root_.Go.OpenSpec.ofChange s with cond := some uptoSmall }

/-- 'laws.FnExactNextReq', WHERE WHAT IT READS IS OF BULK AT MOST 1048576: true; the input reads as it did. -/
def fnExactNextReqUptoRow : OpenClaim := { program := "ytiplpehengcinaa", sum := "d270398e1a3a1c6702c98490e07d18ae31de551000b814d0b610a436ddf44a8c", func := "loop.example/g00199/laws.FnExactNextReq", spec := "fnExactNextReq", apart := false, narrowed := true }
def FnExactNextReqUptoSaid : Prop := fnExactNextReqUptoRow.holds Try.pinned (OpenSpec.upto fnExactNextReqSpec)

/-- 'laws.FnExactHearResp', WHERE WHAT IT READS IS OF BULK AT MOST 1048576: true; the input reads as it did. -/
def fnExactHearRespUptoRow : OpenClaim := { program := "ytiplpehengcinaa", sum := "d270398e1a3a1c6702c98490e07d18ae31de551000b814d0b610a436ddf44a8c", func := "loop.example/g00199/laws.FnExactHearResp", spec := "fnExactHearResp", apart := false, narrowed := true }
def FnExactHearRespUptoSaid : Prop := fnExactHearRespUptoRow.holds Try.pinned (OpenSpec.upto fnExactHearRespSpec)

/-- 'laws.FnExactConnNew', WHERE WHAT IT READS IS OF BULK AT MOST 1048576: true; the input reads as it did. -/
def fnExactConnNewUptoRow : OpenClaim := { program := "ytiplpehengcinaa", sum := "d270398e1a3a1c6702c98490e07d18ae31de551000b814d0b610a436ddf44a8c", func := "loop.example/g00199/laws.FnExactConnNew", spec := "fnExactConnNew", apart := false, narrowed := true }
def FnExactConnNewUptoSaid : Prop := fnExactConnNewUptoRow.holds Try.pinned (OpenSpec.upto fnExactConnNewSpec)

/-- 'laws.FnClients', WHERE WHAT IT READS IS OF BULK AT MOST 1048576: true; the input reads as it did. -/
def fnClientsUptoRow : OpenClaim := { program := "ytiplpehengcinaa", sum := "d270398e1a3a1c6702c98490e07d18ae31de551000b814d0b610a436ddf44a8c", func := "loop.example/g00199/laws.FnClients", spec := "fnClients", apart := false, narrowed := true }
def FnClientsUptoSaid : Prop := fnClientsUptoRow.holds Try.pinned (OpenSpec.upto fnClientsSpec)

/-- 'laws.FnExactServerNew', WHERE WHAT IT READS IS OF BULK AT MOST 1048576: true; the input reads as it did. -/
def fnExactServerNewUptoRow : OpenClaim := { program := "ytiplpehengcinaa", sum := "d270398e1a3a1c6702c98490e07d18ae31de551000b814d0b610a436ddf44a8c", func := "loop.example/g00199/laws.FnExactServerNew", spec := "fnExactServerNew", apart := false, narrowed := true }
def FnExactServerNewUptoSaid : Prop := fnExactServerNewUptoRow.holds Try.pinned (OpenSpec.upto fnExactServerNewSpec)

/-- 'laws.FnExactConnOk', WHERE WHAT IT READS IS OF BULK AT MOST 1048576: true; the input reads as it did. -/
def fnExactConnOkUptoRow : OpenClaim := { program := "ytiplpehengcinaa", sum := "d270398e1a3a1c6702c98490e07d18ae31de551000b814d0b610a436ddf44a8c", func := "loop.example/g00199/laws.FnExactConnOk", spec := "fnExactConnOk", apart := false, narrowed := true }
def FnExactConnOkUptoSaid : Prop := fnExactConnOkUptoRow.holds Try.pinned (OpenSpec.upto fnExactConnOkSpec)

/-- 'laws.FnExactAllDone', WHERE WHAT IT READS IS OF BULK AT MOST 1048576: true; the input reads as it did. -/
def fnExactAllDoneUptoRow : OpenClaim := { program := "ytiplpehengcinaa", sum := "d270398e1a3a1c6702c98490e07d18ae31de551000b814d0b610a436ddf44a8c", func := "loop.example/g00199/laws.FnExactAllDone", spec := "fnExactAllDone", apart := false, narrowed := true }
def FnExactAllDoneUptoSaid : Prop := fnExactAllDoneUptoRow.holds Try.pinned (OpenSpec.upto fnExactAllDoneSpec)

/-- 'laws.FnExactNoneFails', WHERE WHAT IT READS IS OF BULK AT MOST 1048576: true; the input reads as it did. -/
def fnExactNoneFailsUptoRow : OpenClaim := { program := "ytiplpehengcinaa", sum := "d270398e1a3a1c6702c98490e07d18ae31de551000b814d0b610a436ddf44a8c", func := "loop.example/g00199/laws.FnExactNoneFails", spec := "fnExactNoneFails", apart := false, narrowed := true }
def FnExactNoneFailsUptoSaid : Prop := fnExactNoneFailsUptoRow.holds Try.pinned (OpenSpec.upto fnExactNoneFailsSpec)

/-- 'laws.FnExactLacking', WHERE WHAT IT READS IS OF BULK AT MOST 1048576: true; the input reads as it did. -/
def fnExactLackingUptoRow : OpenClaim := { program := "ytiplpehengcinaa", sum := "d270398e1a3a1c6702c98490e07d18ae31de551000b814d0b610a436ddf44a8c", func := "loop.example/g00199/laws.FnExactLacking", spec := "fnExactLacking", apart := false, narrowed := true }
def FnExactLackingUptoSaid : Prop := fnExactLackingUptoRow.holds Try.pinned (OpenSpec.upto fnExactLackingSpec)

/-- 'laws.FnExactNotLost', WHERE WHAT IT READS IS OF BULK AT MOST 1048576: true; the input reads as it did. -/
def fnExactNotLostUptoRow : OpenClaim := { program := "ytiplpehengcinaa", sum := "d270398e1a3a1c6702c98490e07d18ae31de551000b814d0b610a436ddf44a8c", func := "loop.example/g00199/laws.FnExactNotLost", spec := "fnExactNotLost", apart := false, narrowed := true }
def FnExactNotLostUptoSaid : Prop := fnExactNotLostUptoRow.holds Try.pinned (OpenSpec.upto fnExactNotLostSpec)

/-- 'laws.FnExactEnds', WHERE WHAT IT READS IS OF BULK AT MOST 1048576: true; the input reads as it did. -/
def fnExactEndsUptoRow : OpenClaim := { program := "ytiplpehengcinaa", sum := "d270398e1a3a1c6702c98490e07d18ae31de551000b814d0b610a436ddf44a8c", func := "loop.example/g00199/laws.FnExactEnds", spec := "fnExactEnds", apart := false, narrowed := true }
def FnExactEndsUptoSaid : Prop := fnExactEndsUptoRow.holds Try.pinned (OpenSpec.upto fnExactEndsSpec)

/-- 'laws.FnExactBegins', WHERE WHAT IT READS IS OF BULK AT MOST 1048576: true; the input reads as it did. -/
def fnExactBeginsUptoRow : OpenClaim := { program := "ytiplpehengcinaa", sum := "d270398e1a3a1c6702c98490e07d18ae31de551000b814d0b610a436ddf44a8c", func := "loop.example/g00199/laws.FnExactBegins", spec := "fnExactBegins", apart := false, narrowed := true }
def FnExactBeginsUptoSaid : Prop := fnExactBeginsUptoRow.holds Try.pinned (OpenSpec.upto fnExactBeginsSpec)

end Rows
end Go.Proofs.Ytiplpehengcinaa
