/- The tied card of the law holds as soon as its row does. -/
import Derived.Test.YthnfghmjipikhaaGreatDoorCd
import Derived.Test.YthnfghmjipikhaaGreatDoorRows
import Derived.Test.YthnfghmjipikhaaGreatDoorCards
import Derived.Test.YthnfghmjipikhaaGreatDoorTie
import Derived.SevenTiedAt
set_option linter.unusedVariables false
set_option maxRecDepth 100000
namespace Go.Proofs.YthnfghmjipikhaaGreatDoor.Ev
theorem D4w(h:Rows.fnExactAnswerWithRow.holds Tryz.pinned (OpenSpec.ofChange Rows.fnExactAnswerWithSpec)):Claim7.holds Tryz.pinned (.plain (OpenSpec.ofChange Rows.fnExactAnswerWithSpec)) Rows.fnExactAnswerWithCard:=
 Claim7.holds_tied_plain_at .later [] [.data,.data,.data,.data,.sentinel,.sentinel,.pinned] true Rows.fnExactAnswerWithCard.stood.harness true
  h (fun _ h=>by cases h) D4v (fun _ h=>by cases h) fnExactAnswerWith_row_tie rfl ⟨rfl,rfl⟩ D1J (by kernel_rfl)
  (fun f fn hf hfn=>by
   obtain rfl:f=4:=Option.some.inj ((show Tryz.prog.funcNamed Rows.fnExactAnswerWithRow.func=some 4 by kernel_rfl).symm.trans hf) |>.symm;obtain rfl:fn=Tryz.f4:=(Option.some.inj (Tryz.func4.symm.trans hfn)).symm;exact ⟨by kernel_rfl,fun j t ht=>by
    rw [Tryz.params4] at ht;have hm:t∈ [48,3,50]:=by simpa using Array.mem_of_getElem? ht
    have hall:([48,3,50].all fun u=>!Tryz.prog.wantsStandIn u)=true:=by kernel_rfl
    exact (show Tryz.prog.wantsStandIn t=false by simpa using List.all_eq_true.1 hall t hm)⟩)
  D1K
end Go.Proofs.YthnfghmjipikhaaGreatDoor.Ev
