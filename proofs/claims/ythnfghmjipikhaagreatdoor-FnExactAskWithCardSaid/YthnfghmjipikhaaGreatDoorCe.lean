/- The tied card of the law holds as soon as its row does. -/
import Derived.Test.YthnfghmjipikhaaGreatDoorCd
import Derived.Test.YthnfghmjipikhaaGreatDoorRows
import Derived.Test.YthnfghmjipikhaaGreatDoorCards
import Derived.Test.YthnfghmjipikhaaGreatDoorTie
import Derived.SevenTiedAt
set_option linter.unusedVariables false
set_option maxRecDepth 100000
namespace Go.Proofs.YthnfghmjipikhaaGreatDoor.Ev
theorem C9u(h:Rows.fnExactAskWithRow.holds Tryz.pinned (OpenSpec.ofChange Rows.fnExactAskWithSpec)):Claim7.holds Tryz.pinned (.plain (OpenSpec.ofChange Rows.fnExactAskWithSpec)) Rows.fnExactAskWithCard:=
 Claim7.holds_tied_plain_at .later [] [.data,.data,.data,.data,.sentinel,.sentinel,.pinned] true Rows.fnExactAskWithCard.stood.harness true
  h (fun _ h=>by cases h) C9t (fun _ h=>by cases h) fnExactAskWith_row_tie rfl ⟨rfl,rfl⟩ C6D (by kernel_rfl)
  (fun f fn hf hfn=>by
   obtain rfl:f=3:=Option.some.inj ((show Tryz.prog.funcNamed Rows.fnExactAskWithRow.func=some 3 by kernel_rfl).symm.trans hf) |>.symm;obtain rfl:fn=Tryz.f3:=(Option.some.inj (Tryz.func3.symm.trans hfn)).symm;exact ⟨by kernel_rfl,fun j t ht=>by
    rw [Tryz.params3] at ht;have hm:t∈ [24,3,26,27,3]:=by simpa using Array.mem_of_getElem? ht
    have hall:([24,3,26,27,3].all fun u=>!Tryz.prog.wantsStandIn u)=true:=by kernel_rfl
    exact (show Tryz.prog.wantsStandIn t=false by simpa using List.all_eq_true.1 hall t hm)⟩)
  C6E
end Go.Proofs.YthnfghmjipikhaaGreatDoor.Ev
