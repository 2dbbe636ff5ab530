/- WakeImproves: for every input the law returns true, and each argument reads afterwards as it read before. Part 4. -/
import Derived.Stop.Joined
import Derived.Test.YtojkhldombndpaaGreatDoorD6
set_option linter.all false
open Option renaming none->Aa
open Go.World renaming doorLaid->Ab
open Go.Proofs.Tryz renaming checked->Ac
open Go.Proofs.YtojkhldombndpaaGreatDoor.Rows renaming wakeImprovesSpec->Ad
namespace Go.Proofs.YtojkhldombndpaaGreatDoor
open Go Go.Am Go.RowKit Go.ChangeShapes Go.WideShapes Go.ChangeAt
set_option maxRecDepth 100000
def wakeImproves_args:Array Value:=#[.agg (#[.string ⟨#[]⟩,.int .i64 0,.slice Aa 0 0,.string ⟨#[]⟩,.slice Aa 0 0,.slice Aa 0 0,.slice Aa 0 0,.int .i64 0]++Array.replicate 408 (.int .i64 0)),.slice Aa 0 0]
theorem wakeImproves_w1(os:Os):((Ab Tryz.prog 100 os).forCall (λ_ _=>0) ⟨#[],wakeImproves_args,[]⟩).Shaped Ac.prog:=World.shaped_of_RefB (by kernel_rfl) (by kernel_rfl)
theorem wakeImproves_w2(os:Os):Input.okWideB Ac.prog ((Ab Tryz.prog 100 os).forCall (λ_ _=>0) ⟨#[],wakeImproves_args,[]⟩) 15 ⟨#[],wakeImproves_args,[]⟩=true:=by kernel_rfl
theorem wakeImproves_w3(os:Os){H:Type}{enc:TypeId×Value->H}:Ad.preB enc Ac.prog Tryz.f15 [] false ((Ab Tryz.prog 100 os).forCall (λ_ _=>0) ⟨#[],wakeImproves_args,[]⟩).memory wakeImproves_args 8=true:=by kernel_rfl
theorem wakeImproves_w4(os:Os){H:Type}{enc:TypeId×Value->H}:Ad.sizedB enc Ac.prog Tryz.f15 false ((Ab Tryz.prog 100 os).forCall (λ_ _=>0) ⟨#[],wakeImproves_args,[]⟩).memory wakeImproves_args 8=true:=by kernel_rfl
end Go.Proofs.YtojkhldombndpaaGreatDoor
