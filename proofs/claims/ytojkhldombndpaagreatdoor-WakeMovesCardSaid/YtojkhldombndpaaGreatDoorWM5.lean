/- WakeMoves: for every input the law returns true, and each argument reads afterwards as it read before. Part 5. -/
import Derived.Stop.Joined
import Derived.Test.YtojkhldombndpaaGreatDoorB10
set_option linter.all false
namespace Go.Proofs.YtojkhldombndpaaGreatDoor
open Go Go.Am Go.RowKit Go.ChangeShapes Go.WideShapes Go.ChangeAt
set_option maxRecDepth 100000
def wakeMoves_args:Array Value:=#[.agg (#[.string ⟨#[]⟩,.int .i64 0,.slice Option.none 0 0,.string ⟨#[]⟩,.slice Option.none 0 0,.slice Option.none 0 0,.slice Option.none 0 0,.int .i64 0]++Array.replicate 408 (.int .i64 0)),.agg #[.string ⟨#[]⟩,.int .i64 0,.int .i64 0],.int .i64 0]
theorem wakeMoves_w1(os:Os):((World.doorLaid Tryz.prog 100 os).forCall (λ_ _=>0) ⟨#[],wakeMoves_args,[]⟩).Shaped Tryz.checked.prog:=World.shaped_of_RefB (by kernel_rfl) (by kernel_rfl)
theorem wakeMoves_w2(os:Os):Input.okWideB Tryz.checked.prog ((World.doorLaid Tryz.prog 100 os).forCall (λ_ _=>0) ⟨#[],wakeMoves_args,[]⟩) 14 ⟨#[],wakeMoves_args,[]⟩=true:=by kernel_rfl
theorem wakeMoves_w3(os:Os){H:Type}{enc:TypeId×Value->H}:Rows.wakeMovesSpec.preB enc Tryz.checked.prog Tryz.f14 [] false ((World.doorLaid Tryz.prog 100 os).forCall (λ_ _=>0) ⟨#[],wakeMoves_args,[]⟩).memory wakeMoves_args 8=true:=by kernel_rfl
theorem wakeMoves_w4(os:Os){H:Type}{enc:TypeId×Value->H}:Rows.wakeMovesSpec.sizedB enc Tryz.checked.prog Tryz.f14 false ((World.doorLaid Tryz.prog 100 os).forCall (λ_ _=>0) ⟨#[],wakeMoves_args,[]⟩).memory wakeMoves_args 8=true:=by kernel_rfl
end Go.Proofs.YtojkhldombndpaaGreatDoor
