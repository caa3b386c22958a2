/- ConnNew of the program and of the reference, and the law FnExactConnNew. -/
import Derived.Test.YtiplpehengcinaaA12
set_option linter.unusedVariables false
set_option linter.unusedSimpArgs false
namespace Go.Proofs.Ytiplpehengcinaa.Ev
def newConn : TConn := (0, [], (0, false, []), (4096, []), (4096, []), [], 0, 0)
theorem s_ConnNew_eq : P_s_ConnNew = some (newConn, ()) := rfl
theorem i_ConnNew_eq : P_i_ConnNew = some (newConn, ()) := rfl
theorem markFieldS_nil (m : Int) : P_w_markFieldS [] m = some (m, [], ()) := loopO_end (by simp [L_w_markFieldS_0])
theorem heldFieldS_nil (m : Int) : P_w_heldFieldS [] m = some (m, ()) := loopO_end (by simp [L_w_heldFieldS_0])
theorem markStrS_nil (m : Int) : P_w_markStrS [] m = some (m, [], ()) := loopO_end (by simp [L_w_markStrS_0])
theorem heldStrS_nil (m : Int) : P_w_heldStrS [] m = some (m, ()) := loopO_end (by simp [L_w_heldStrS_0])
theorem markByteS_nil (m : Int) : P_w_markByteS [] m = some (m, [], ()) := loopO_end (by simp [L_w_markByteS_0])
theorem heldByteS_nil (m : Int) : P_w_heldByteS [] m = some (m, ()) := loopO_end (by simp [L_w_heldByteS_0])
theorem markConn_new : P_w_markConn newConn 1 = some (1, newConn, ()) := by
  simp only [P_w_markConn, B_w_markConn, P_w_markGather, B_w_markGather, P_w_markTable, B_w_markTable, newConn, markByteS_nil, markFieldS_nil, markStrS_nil, bindO]
theorem heldConn_new : P_w_heldConn newConn 1 = some (1, ()) := by
  have h : ¬ ((1 : Int) < 0) := by omega
  simp only [P_w_heldConn, B_w_heldConn, P_w_heldGather, B_w_heldGather, P_w_heldTable, B_w_heldTable, newConn, heldByteS_nil, heldFieldS_nil, heldStrS_nil, bindO, dec_false h, cond_false]
theorem exactConnNew : P_w_FnExactConnNew = some (true, ()) := by
  have hs : Sm maxLen kConn newConn := by simp [Sm, newConn]
  have hh : P_w_heldConn (newConn.1, (newConn.2.1, ((newConn.2.2.1.1, (newConn.2.2.1.2.1, newConn.2.2.1.2.2)), ((newConn.2.2.2.1.1, newConn.2.2.2.1.2), ((newConn.2.2.2.2.1.1, newConn.2.2.2.2.1.2), (newConn.2.2.2.2.2.1, newConn.2.2.2.2.2.2)))))) 1 = some (1, ()) := heldConn_new
  simp only [P_w_FnExactConnNew, B_w_FnExactConnNew, s_ConnNew_eq, i_ConnNew_eq, bindO]
  rw [eqConn_refl _ hs, markConn_new]
  simp only [hh]
  simp
end Go.Proofs.Ytiplpehengcinaa.Ev
