/- WakeBounds: for every input the law returns true, and each argument reads afterwards as it read before. Part 4. -/
import Derived.Test.YtojkhldombndpaaGreatDoorRows
import Derived.Test.YtojkhldombndpaaGreatDoorCards
import Derived.Stop.Joined
import Derived.SevenTiedAt
set_option linter.all false
open Go.Proofs.YtojkhldombndpaaGreatDoor.Rows renaming wakeBoundsRow->Aa
open Go.Proofs.YtojkhldombndpaaGreatDoor.Tryz renaming pinned->Ab
namespace Go.Proofs.YtojkhldombndpaaGreatDoor
open Go
set_option maxRecDepth 100000
theorem wakeBounds_named:Ab.checked.prog.funcNamed Aa.func=some 6:=by kernel_rfl
theorem wakeBounds_inst:Tryz.f6.isInstance Ab.checked.prog Aa.origin Aa.targs:=of_decide_eq_true (by kernel_rfl)
theorem wakeBounds_wrap:Tryz.f6.isWrapper Ab.checked.prog Aa.wrapper Aa.mainSum:=(by unfold Func.isWrapper;first | (rw[if_pos (by decide +kernel)];kernel_rfl) | (rw[if_neg (by decide +kernel)];exact⟨rfl,rfl⟩))
theorem wakeBounds_wf:Aa.wfByText (OpenSpec.ofChange Rows.wakeBoundsSpec)=true:=by kernel_rfl
theorem wakeBounds_main:Ab.checked.prog.mainIs=some (true,"6822e6c6afe26ba0ca53e3fc2f6a776f90c2b087a2a03b097838335f038f4aa8".toList):=by kernel_rfl
theorem wakeBounds_looks:true=Tryz.prog.looks []:=by kernel_rfl
theorem wakeBounds_stand:([83,95,3].all λu=>!Tryz.prog.wantsStandIn u)=true:=by kernel_rfl
theorem wakeBounds_goes:false=Aa.goesBy Ab.checked.prog:=by kernel_rfl
end Go.Proofs.YtojkhldombndpaaGreatDoor
