/- WakeChoices: for every input the law returns true, and each argument reads afterwards as it read before. Part 4. -/
import Derived.Stop.Joined
import Derived.Test.YtojkhldombndpaaGreatDoorD6
set_option linter.all false
open Go.World renaming doorLaid->Aa
open Go.Proofs.Tryz renaming checked->Ab
open Option renaming none->Ac
open Go.Proofs.YtojkhldombndpaaGreatDoor.Rows renaming wakeChoicesSpec->Ad
namespace Go.Proofs.YtojkhldombndpaaGreatDoor
open Go Go.Am Go.RowKit Go.ChangeShapes Go.WideShapes Go.ChangeAt
set_option maxRecDepth 100000
def wakeChoices_args:Array Value:=#[.agg (#[.slice Ac 0 0,.int .i64 0,.string ⟨#[]⟩,.slice Ac 0 0,.slice Ac 0 0,.slice Ac 0 0,.int .i64 0]++Array.replicate 408 (.int .i64 0)),.int .u8 0,.int .i64 0]
theorem wakeChoices_w1(os:Os):((Aa Tryz.prog 100 os).forCall (λ_ _=>0) ⟨#[],wakeChoices_args,[]⟩).Shaped Ab.prog:=World.shaped_of_RefB (by kernel_rfl) (by kernel_rfl)
theorem wakeChoices_w2(os:Os):Input.okWideB Ab.prog ((Aa Tryz.prog 100 os).forCall (λ_ _=>0) ⟨#[],wakeChoices_args,[]⟩) 7 ⟨#[],wakeChoices_args,[]⟩=true:=by kernel_rfl
theorem wakeChoices_w3(os:Os){H:Type}{enc:TypeId×Value->H}:Ad.preB enc Ab.prog Tryz.f7 [] false ((Aa Tryz.prog 100 os).forCall (λ_ _=>0) ⟨#[],wakeChoices_args,[]⟩).memory wakeChoices_args 8=true:=by kernel_rfl
theorem wakeChoices_w4(os:Os){H:Type}{enc:TypeId×Value->H}:Ad.sizedB enc Ab.prog Tryz.f7 false ((Aa Tryz.prog 100 os).forCall (λ_ _=>0) ⟨#[],wakeChoices_args,[]⟩).memory wakeChoices_args 8=true:=by kernel_rfl
end Go.Proofs.YtojkhldombndpaaGreatDoor
