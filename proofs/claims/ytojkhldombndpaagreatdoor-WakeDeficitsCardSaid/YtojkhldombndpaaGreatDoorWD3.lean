/- WakeDeficits: for every input the law returns true, and each argument reads afterwards as it read before. Part 3. -/
import Derived.Test.YtojkhldombndpaaGreatDoorRows
import Derived.Test.YtojkhldombndpaaGreatDoorCards
import Derived.Stop.Joined
import Derived.SevenTiedAt
set_option linter.all false
namespace Go.Proofs.YtojkhldombndpaaGreatDoor
open Go
set_option maxRecDepth 100000
theorem wakeDeficits_named:Tryz.pinned.checked.prog.funcNamed Rows.wakeDeficitsRow.func=some 10:=by kernel_rfl
theorem wakeDeficits_inst:Tryz.f10.isInstance Tryz.pinned.checked.prog Rows.wakeDeficitsRow.origin Rows.wakeDeficitsRow.targs:=of_decide_eq_true (by kernel_rfl)
theorem wakeDeficits_wrap:Tryz.f10.isWrapper Tryz.pinned.checked.prog Rows.wakeDeficitsRow.wrapper Rows.wakeDeficitsRow.mainSum:=(by unfold Func.isWrapper;first | (rw[if_pos (by decide +kernel)];kernel_rfl) | (rw[if_neg (by decide +kernel)];exact⟨rfl,rfl⟩))
theorem wakeDeficits_wf:Rows.wakeDeficitsRow.wfByText (OpenSpec.ofChange Rows.wakeDeficitsSpec)=true:=by kernel_rfl
theorem wakeDeficits_main:Tryz.pinned.checked.prog.mainIs=some (true,"6822e6c6afe26ba0ca53e3fc2f6a776f90c2b087a2a03b097838335f038f4aa8".toList):=by kernel_rfl
theorem wakeDeficits_looks:true=Tryz.prog.looks []:=by kernel_rfl
theorem wakeDeficits_stand:([24,27,72].all λu=>!Tryz.prog.wantsStandIn u)=true:=by kernel_rfl
theorem wakeDeficits_goes:false=Rows.wakeDeficitsRow.goesBy Tryz.pinned.checked.prog:=by kernel_rfl
end Go.Proofs.YtojkhldombndpaaGreatDoor
