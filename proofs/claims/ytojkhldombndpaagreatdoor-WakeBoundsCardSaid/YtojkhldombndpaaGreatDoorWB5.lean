/- WakeBounds: for every input the law returns true, and each argument reads afterwards as it read before. Part 5. -/
import Derived.Stop.Joined
import Derived.Test.YtojkhldombndpaaGreatDoorD6
set_option linter.all false
open Option renaming none->Aa
open Go.World renaming doorLaid->Ab
open Go.Proofs.Tryz renaming checked->Ac
open Go.Proofs.YtojkhldombndpaaGreatDoor.Rows renaming wakeBoundsSpec->Ad
namespace Go.Proofs.YtojkhldombndpaaGreatDoor
open Go Go.Am Go.RowKit Go.ChangeShapes Go.WideShapes Go.ChangeAt
set_option maxRecDepth 100000
def wakeBounds_args:Array Value:=#[.agg (#[.slice Aa 0 0,.int .i64 0,.string ⟨#[]⟩,.slice Aa 0 0,.slice Aa 0 0,.slice Aa 0 0,.int .i64 0]++Array.replicate 408 (.int .i64 0)),.slice Aa 0 0,.int .i64 0]
theorem wakeBounds_w1(os:Os):((Ab Tryz.prog 100 os).forCall (λ_ _=>0) ⟨#[],wakeBounds_args,[]⟩).Shaped Ac.prog:=World.shaped_of_RefB (by kernel_rfl) (by kernel_rfl)
theorem wakeBounds_w2(os:Os):Input.okWideB Ac.prog ((Ab Tryz.prog 100 os).forCall (λ_ _=>0) ⟨#[],wakeBounds_args,[]⟩) 6 ⟨#[],wakeBounds_args,[]⟩=true:=by kernel_rfl
theorem wakeBounds_w3(os:Os){H:Type}{enc:TypeId×Value->H}:Ad.preB enc Ac.prog Tryz.f6 [] false ((Ab Tryz.prog 100 os).forCall (λ_ _=>0) ⟨#[],wakeBounds_args,[]⟩).memory wakeBounds_args 8=true:=by kernel_rfl
theorem wakeBounds_w4(os:Os){H:Type}{enc:TypeId×Value->H}:Ad.sizedB enc Ac.prog Tryz.f6 false ((Ab Tryz.prog 100 os).forCall (λ_ _=>0) ⟨#[],wakeBounds_args,[]⟩).memory wakeBounds_args 8=true:=by kernel_rfl
end Go.Proofs.YtojkhldombndpaaGreatDoor
