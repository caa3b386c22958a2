/- The tied card of the law holds as soon as its row does. -/
import Derived.Test.YthnfghmjipikhaaGreatDoorCd
import Derived.Test.YthnfghmjipikhaaGreatDoorRows
import Derived.Test.YthnfghmjipikhaaGreatDoorCards
import Derived.Test.YthnfghmjipikhaaGreatDoorTie
import Derived.SevenTiedAt
set_option linter.unusedVariables false
set_option maxRecDepth 100000
namespace Go.Proofs.YthnfghmjipikhaaGreatDoor.Ev
theorem F21(h:Rows.fnHostileRow.holds Tryz.pinned (OpenSpec.ofChange Rows.fnHostileSpec)):Claim7.holds Tryz.pinned (.plain (OpenSpec.ofChange Rows.fnHostileSpec)) Rows.fnHostileCard:=
 Claim7.holds_tied_plain_at .later [] [.data,.data,.data,.data,.sentinel,.sentinel,.pinned] true Rows.fnHostileCard.stood.harness true
  h (fun _ h=>by cases h) F20 (fun _ h=>by cases h) fnHostile_row_tie rfl ⟨rfl,rfl⟩ E7i (by kernel_rfl)
  (fun f fn hf hfn=>by
   obtain rfl:f=7:=Option.some.inj ((show Tryz.prog.funcNamed Rows.fnHostileRow.func=some 7 by kernel_rfl).symm.trans hf) |>.symm;obtain rfl:fn=Tryz.f7:=(Option.some.inj (Tryz.func7.symm.trans hfn)).symm;exact ⟨by kernel_rfl,fun j t ht=>by
    rw [Tryz.params7] at ht;have hm:t∈ [27]:=by simpa using Array.mem_of_getElem? ht
    have hall:([27].all fun u=>!Tryz.prog.wantsStandIn u)=true:=by kernel_rfl
    exact (show Tryz.prog.wantsStandIn t=false by simpa using List.all_eq_true.1 hall t hm)⟩)
  E7j
end Go.Proofs.YthnfghmjipikhaaGreatDoor.Ev
