/- WakeLess: for every input the law returns true, and each argument reads afterwards as it read before. A part. -/
import Derived.Test.YtojkhldombndpaaGreatDoorRows
import Derived.Test.YtojkhldombndpaaGreatDoorCards
import Derived.Stop.Joined
import Derived.SevenTiedAt
set_option linter.all false
open Go.Proofs.YtojkhldombndpaaGreatDoor.Rows renaming wakeLessRow->Aa
open Go.Proofs.YtojkhldombndpaaGreatDoor.Tryz renaming pinned->Ab
namespace Go.Proofs.YtojkhldombndpaaGreatDoor
open Go
set_option maxRecDepth 100000
theorem wakeLess_named:Ab.checked.prog.funcNamed Aa.func=some 13:=by kernel_rfl
theorem wakeLess_inst:Tryz.f13.isInstance Ab.checked.prog Aa.origin Aa.targs:=of_decide_eq_true (by kernel_rfl)
theorem wakeLess_wrap:Tryz.f13.isWrapper Ab.checked.prog Aa.wrapper Aa.mainSum:=(by unfold Func.isWrapper;first | (rw[if_pos (by decide +kernel)];kernel_rfl) | (rw[if_neg (by decide +kernel)];exact⟨rfl,rfl⟩))
theorem wakeLess_wf:Aa.wfByText (OpenSpec.ofChange Rows.wakeLessSpec)=true:=by kernel_rfl
theorem wakeLess_main:Ab.checked.prog.mainIs=some (true,"6822e6c6afe26ba0ca53e3fc2f6a776f90c2b087a2a03b097838335f038f4aa8".toList):=by kernel_rfl
theorem wakeLess_looks:true=Tryz.prog.looks []:=by kernel_rfl
theorem wakeLess_stand:([34,72].all λu=>!Tryz.prog.wantsStandIn u)=true:=by kernel_rfl
theorem wakeLess_goes:false=Aa.goesBy Ab.checked.prog:=by kernel_rfl
end Go.Proofs.YtojkhldombndpaaGreatDoor
