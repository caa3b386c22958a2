/- The tied card of the law holds as soon as its row does. -/
import Derived.Test.YthnfghmjipikhaaGreatDoorCd
import Derived.Test.YthnfghmjipikhaaGreatDoorRows
import Derived.Test.YthnfghmjipikhaaGreatDoorCards
import Derived.Test.YthnfghmjipikhaaGreatDoorTie
import Derived.SevenTiedAt
set_option linter.unusedVariables false
set_option maxRecDepth 100000
namespace Go.Proofs.YthnfghmjipikhaaGreatDoor.Ev
theorem E2N(h:Rows.fnWholeRow.holds Tryz.pinned (OpenSpec.ofChange Rows.fnWholeSpec)):Claim7.holds Tryz.pinned (.plain (OpenSpec.ofChange Rows.fnWholeSpec)) Rows.fnWholeCard:=
 Claim7.holds_tied_plain_at .later [] [.data,.data,.data,.data,.sentinel,.sentinel,.pinned] true Rows.fnWholeCard.stood.harness true
  h (fun _ h=>by cases h) E2M (fun _ h=>by cases h) fnWhole_row_tie rfl ⟨rfl,rfl⟩ D7q (by kernel_rfl)
  (fun f fn hf hfn=>by
   obtain rfl:f=5:=Option.some.inj ((show Tryz.prog.funcNamed Rows.fnWholeRow.func=some 5 by kernel_rfl).symm.trans hf) |>.symm;obtain rfl:fn=Tryz.f5:=(Option.some.inj (Tryz.func5.symm.trans hfn)).symm;exact ⟨by kernel_rfl,fun j t ht=>by
    rw [Tryz.params5] at ht;have hm:t∈ [27]:=by simpa using Array.mem_of_getElem? ht
    have hall:([27].all fun u=>!Tryz.prog.wantsStandIn u)=true:=by kernel_rfl
    exact (show Tryz.prog.wantsStandIn t=false by simpa using List.all_eq_true.1 hall t hm)⟩)
  D7r
end Go.Proofs.YthnfghmjipikhaaGreatDoor.Ev
