/- WakeLess: for every input the law returns true, and each argument reads afterwards as it read before. Part 12. -/
import Derived.Stop.Joined
import Derived.Test.YtojkhldombndpaaGreatDoorWS9
set_option linter.all false
namespace Go.Proofs.YtojkhldombndpaaGreatDoor
open Go Go.Am Go.RowKit Go.ChangeShapes Go.WideShapes Go.ChangeAt
set_option maxRecDepth 100000
def wakeLess_args:Array Value:=#[.agg (#[.string ⟨#[]⟩,.int .i64 0,.slice Option.none 0 0,.string ⟨#[]⟩,.slice Option.none 0 0,.slice Option.none 0 0,.slice Option.none 0 0,.int .i64 0]++Array.replicate 408 (.int .i64 0)),.agg #[.int .i64 0,.int .i64 0,.int .i64 0,.int .i64 0]]
theorem wakeLess_w1(os:Os):((World.doorLaid Tryz.prog 100 os).forCall (λ_ _=>0) ⟨#[],wakeLess_args,[]⟩).Shaped Tryz.checked.prog:=World.shaped_of_RefB (by kernel_rfl) (by kernel_rfl)
theorem wakeLess_w2(os:Os):Input.okWideB Tryz.checked.prog ((World.doorLaid Tryz.prog 100 os).forCall (λ_ _=>0) ⟨#[],wakeLess_args,[]⟩) 13 ⟨#[],wakeLess_args,[]⟩=true:=by kernel_rfl
theorem wakeLess_w3(os:Os){H:Type}{enc:TypeId×Value->H}:Rows.wakeLessSpec.preB enc Tryz.checked.prog Tryz.f13 [] false ((World.doorLaid Tryz.prog 100 os).forCall (λ_ _=>0) ⟨#[],wakeLess_args,[]⟩).memory wakeLess_args 8=true:=by kernel_rfl
theorem wakeLess_w4(os:Os){H:Type}{enc:TypeId×Value->H}:Rows.wakeLessSpec.sizedB enc Tryz.checked.prog Tryz.f13 false ((World.doorLaid Tryz.prog 100 os).forCall (λ_ _=>0) ⟨#[],wakeLess_args,[]⟩).memory wakeLess_args 8=true:=by kernel_rfl
end Go.Proofs.YtojkhldombndpaaGreatDoor
