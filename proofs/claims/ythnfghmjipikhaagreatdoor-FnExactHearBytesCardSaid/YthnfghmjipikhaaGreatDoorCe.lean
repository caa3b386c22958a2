/- The tied card of the law holds as soon as its row does. -/
import Derived.Test.YthnfghmjipikhaaGreatDoorCd
import Derived.Test.YthnfghmjipikhaaGreatDoorRows
import Derived.Test.YthnfghmjipikhaaGreatDoorCards
import Derived.Test.YthnfghmjipikhaaGreatDoorTie
import Derived.SevenTiedAt
set_option linter.unusedVariables false
set_option maxRecDepth 100000
namespace Go.Proofs.YthnfghmjipikhaaGreatDoor.Ev
theorem F0H(h:Rows.fnExactHearBytesRow.holds Tryz.pinned (OpenSpec.ofChange Rows.fnExactHearBytesSpec)):Claim7.holds Tryz.pinned (.plain (OpenSpec.ofChange Rows.fnExactHearBytesSpec)) Rows.fnExactHearBytesCard:=
 Claim7.holds_tied_plain_at .later [] [.data,.data,.data,.data,.sentinel,.sentinel,.pinned] true Rows.fnExactHearBytesCard.stood.harness true
  h (fun _ h=>by cases h) F0G (fun _ h=>by cases h) fnExactHearBytes_row_tie rfl ⟨rfl,rfl⟩ E6C (by kernel_rfl)
  (fun f fn hf hfn=>by
   obtain rfl:f=8:=Option.some.inj ((show Tryz.prog.funcNamed Rows.fnExactHearBytesRow.func=some 8 by kernel_rfl).symm.trans hf) |>.symm;obtain rfl:fn=Tryz.f8:=(Option.some.inj (Tryz.func8.symm.trans hfn)).symm;exact ⟨by kernel_rfl,fun j t ht=>by
    rw [Tryz.params8] at ht;have hm:t∈ [48,27]:=by simpa using Array.mem_of_getElem? ht
    have hall:([48,27].all fun u=>!Tryz.prog.wantsStandIn u)=true:=by kernel_rfl
    exact (show Tryz.prog.wantsStandIn t=false by simpa using List.all_eq_true.1 hall t hm)⟩)
  E6D
end Go.Proofs.YthnfghmjipikhaaGreatDoor.Ev
