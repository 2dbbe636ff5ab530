/- WakeSteps: for every input the law returns true, and each argument reads afterwards as it read before. Part 4. -/
import Derived.Test.YtojkhldombndpaaGreatDoorRows
import Derived.Test.YtojkhldombndpaaGreatDoorCards
import Derived.Stop.Joined
import Derived.SevenTiedAt
set_option linter.all false
namespace Go.Proofs.YtojkhldombndpaaGreatDoor
open Go
set_option maxRecDepth 100000
theorem wakeSteps_named:Tryz.pinned.checked.prog.funcNamed Rows.wakeStepsRow.func=some 16:=by kernel_rfl
theorem wakeSteps_inst:Tryz.f16.isInstance Tryz.pinned.checked.prog Rows.wakeStepsRow.origin Rows.wakeStepsRow.targs:=of_decide_eq_true (by kernel_rfl)
theorem wakeSteps_wrap:Tryz.f16.isWrapper Tryz.pinned.checked.prog Rows.wakeStepsRow.wrapper Rows.wakeStepsRow.mainSum:=(by unfold Func.isWrapper;first | (rw[if_pos (by decide +kernel)];kernel_rfl) | (rw[if_neg (by decide +kernel)];exact⟨rfl,rfl⟩))
theorem wakeSteps_wf:Rows.wakeStepsRow.wfByText (OpenSpec.ofChange Rows.wakeStepsSpec)=true:=by kernel_rfl
theorem wakeSteps_main:Tryz.pinned.checked.prog.mainIs=some (true,"6822e6c6afe26ba0ca53e3fc2f6a776f90c2b087a2a03b097838335f038f4aa8".toList):=by kernel_rfl
theorem wakeSteps_looks:true=Tryz.prog.looks []:=by kernel_rfl
theorem wakeSteps_stand:([34,143,5].all λu=>!Tryz.prog.wantsStandIn u)=true:=by kernel_rfl
theorem wakeSteps_goes:false=Rows.wakeStepsRow.goesBy Tryz.pinned.checked.prog:=by kernel_rfl
end Go.Proofs.YtojkhldombndpaaGreatDoor
