/- WakeSteps: for every input the law returns true, and each argument reads afterwards as it read before. Part 1. -/
import Derived.Below
import Derived.Carry
import Derived.ChangeArms
import Derived.ChangeSame
import Derived.DataReads
import Derived.Deep.OwnRows
import Derived.Deep.RegionLaw
import Derived.Deep.RegionWith
import Derived.DeepKeys
import Derived.Ground.Names2Prog
import Derived.Ground.NamesProg
import Derived.Ground.SlgnProg
import Derived.Ground.SlsfProg
import Derived.IntWalk
import Derived.KernelRfl
import Derived.LaidMore
import Derived.Laws.AppendOwn
import Derived.Laws.CopyRow
import Derived.Laws.OwnMore
import Derived.Laws.RangeAny
import Derived.Lib.AppendIntMem
import Derived.Lib.ItoaLen
import Derived.Lib.ItoaNum
import Derived.Lib.Join
import Derived.LoopIn
import Derived.LoopN
import Derived.LoopNIn
import Derived.LoopTactic
import Derived.MapKept
import Derived.Maps.Ext
import Derived.Maps.OwnSet
import Derived.Maps.RangeWalk
import Derived.OpenShut
import Derived.Orders
import Derived.OrdersIn
import Derived.OwnWalkIn
import Derived.ProofKit
import Derived.RangeFuncBound
import Derived.RangeFuncCalls
import Derived.RangeFuncLeaves
import Derived.RangeFuncNested
import Derived.Scope
import Derived.SevenTiedAt
import Derived.Shelf.Abstract
import Derived.Shelf.LaysM
import Derived.Shelf.SlSortCmp.NoneTotal
import Derived.Shelf.Slices.Clone
import Derived.Shelf.Slices.In.SortNone
import Derived.Shelf.Slices.SearchI
import Derived.Shelf.SlicesE.Clone
import Derived.Shelf.Small.Bits
import Derived.Shelf.Sort.Plain
import Derived.Shelf.Strconv.Itoa0
import Derived.Shelf.Strconv.Itoa1
import Derived.Shelf.Strconv.Itoa2
import Derived.Shelf.Strconv.Itoa3
import Derived.Shelf.Strings.Builder1
import Derived.Shelf.Strings.Builder2
import Derived.Shelf.Strings.Count
import Derived.Shelf.Strings.Cut
import Derived.Shelf.Strings.Explode
import Derived.Shelf.Strings.OnBuilder
import Derived.Shelf.Strings.RuneCount
import Derived.Shelf.Strings.Search1
import Derived.Shelf.Strings.Search2
import Derived.Shelf.Strings.Search3
import Derived.Shelf.Strings.Shaped
import Derived.Shelf.Strings.Split
import Derived.Shelf.Strings.SplitShaped
import Derived.Shelf.Unicode.Decode
import Derived.Shelf.Unicode.DecodeAny
import Derived.Shelf.Unicode.DecodeSlow
import Derived.Shelf.Utf8.RuneCount
import Derived.Sort.LotA
import Derived.Stop.Joined
import Derived.Tactics
import Derived.Tactics2
import Derived.TacticsInMore
import Derived.Test.YtojkhldombndpaaGreatDoorCards
import Derived.Test.YtojkhldombndpaaGreatDoorProg
import Derived.Test.YtojkhldombndpaaGreatDoorRows
import Derived.Test.YtojkhldombndpaaGreatDoorTie
import Derived.WalkKit
import Derived.WideShapes
import Derived.Test.YtojkhldombndpaaGreatDoorB10
set_option linter.all false
namespace Go.Am
open Go.Proofs
open Go
@[simp] theorem h24(a1:ByteArray)(a2:Int)(a3:List DV):hasT EE 6 24 (.agg 0 [(.str a1),(.int .i64 a2),(.sl 3 a3)])=true:=by kernel_rfl
@[simp] theorem h27(a1:ByteArray)(a2:List DV)(a3:List DV):hasT EE 6 27 (.agg 0 [(.str a1),(.sl 1 a2),(.sl 1 a3)])=true:=by kernel_rfl
@[simp] theorem h29(a1:List DV)(a2:Int):hasT EE 6 29 (.agg 1 [(.sl 1 a1),(.int .i64 a2)])=true:=by kernel_rfl
@[simp] theorem h32(a1:List DV):hasT EE 6 32 (.agg 3 a1)=decide (a1.length=8):=by kernel_rfl
@[simp] theorem h34(a1:ByteArray)(a2:Int)(a3:List DV)(a4:ByteArray)(a5:List DV)(a6:List DV)(a7:List DV)(a8:Int)(a9:List DV):hasT EE 6 34 (.agg 4 [(.agg 0 [(.str a1),(.int .i64 a2),(.sl 3 a3)]),(.agg 0 [(.str a4),(.sl 1 a5),(.sl 1 a6)]),(.agg 1 [(.sl 1 a7),(.int .i64 a8)]),(.agg 3 a9)])=(decide (a9.length=8) && true):=by kernel_rfl
@[simp] theorem h143(a1:ByteArray)(a2:Int)(a3:Int):hasT EE 6 143 (.agg 9 [(.str a1),(.agg 1 [(.int .i64 a2),(.int .i64 a3)])])=true:=by kernel_rfl
@[simp] theorem h276(a1:FuncId)(a2:List DV)(a3:List DV):hasT EE 6 276 (.fn a1 a2 a3)=true:=by kernel_rfl
end Go.Am
namespace Go.Am
open Go.Proofs
open Go
variable[OO]
def S110_0a(v0:Int)(v1:List DV)(v2:Int):St :=
 stOf 60 [(1,(.ptr 1 2 0 [])),(3,(.d (eI v0)))] [(1,(.mk false (.dc 2 [(.agg 1 [(.sl 1 v1),(eI v2)])])))]
noncomputable def L110_0a(v0:Int)(v1:List DV)(v2:Int):Option CR:=goQ 110 0 (S110_0a v0 v1 v2)
theorem L110_0a_eq(v0:Int)(v1:List DV)(v2:Int):L110_0a v0 v1 v2 =
 ifO (decide (v0<(((List.length v1):Nat):Int)))
 (ifO (decide (((0:Int)<=v0)/\(v0<(((List.length v1):Nat):Int))))
 (ifO (hasT EE 6 3 (nth v1 (Int.toNat v0)))
 (zC (zA 37 [(eI (getI (nth v1 (Int.toNat v0)))),(eI 0),(eI 100000)])
 (λr0=>ifO (hasT EE 6 3 r0)
 (ifO (bne (getI r0) 0)
 (some (.val (eI (getI r0))))
 (ifO (decide (v0>(0:Int)))
 (ifO (decide (((0:Int)<=v0)/\(v0<(((List.length v1):Nat):Int))))
 (ifO (hasT EE 6 3 (nth v1 (Int.toNat v0)))
 (ifO (decide (((0:Int)<=(IntKind.wrap .i64 (v0 - (1:Int))))/\((IntKind.wrap .i64 (v0 - (1:Int)))<(((List.length v1):Nat):Int))))
 (ifO (hasT EE 6 3 (nth v1 (Int.toNat (IntKind.wrap .i64 (v0 - (1:Int))))))
 (ifO (decide ((getI (nth v1 (Int.toNat v0)))<(getI (nth v1 (Int.toNat (IntKind.wrap .i64 (v0 - (1:Int))))))))
 (some (.val (eI 11)))
 (ifO (v0 == (0:Int))
 (ifO (decide (((0:Int)<=v0)/\(v0<(((List.length v1):Nat):Int))))
 (ifO (hasT EE 6 3 (nth v1 (Int.toNat v0)))
 (ifO (bne (getI (nth v1 (Int.toNat v0))) (0:Int))
 (some (.val (eI 6)))
 ((L110_0a (IntKind.wrap .i64 (v0+(1:Int))) v1 v2)))
 (none))
 (none))
 ((L110_0a (IntKind.wrap .i64 (v0+(1:Int))) v1 v2))))
 (none))
 (none))
 (none))
 (none))
 (ifO (v0 == (0:Int))
 (ifO (decide (((0:Int)<=v0)/\(v0<(((List.length v1):Nat):Int))))
 (ifO (hasT EE 6 3 (nth v1 (Int.toNat v0)))
 (ifO (bne (getI (nth v1 (Int.toNat v0))) (0:Int))
 (some (.val (eI 6)))
 ((L110_0a (IntKind.wrap .i64 (v0+(1:Int))) v1 v2)))
 (none))
 (none))
 ((L110_0a (IntKind.wrap .i64 (v0+(1:Int))) v1 v2)))))
 (none))
 (λ_ _=>none))
 (none))
 (none))
 (zC (zA 37 [(eI v2),(eI 1),(eI 51)])
 (λr3=>ifO (hasT EE 6 3 r3)
 (some (.val (eI (getI r3))))
 (none))
 (λ_ _=>none)) :=
 (zU 110 0 _).trans (by kernel_rfl)
theorem C110(x0:DV):zA 110 [x0] =
 ifO (zP (hasT EE 6) [29] [x0])
 (ifO (decide ((((List.length (elems (nth (flds x0) 0))):Nat):Int)<(2:Int)))
 (some (.val (eI 2)))
 (ifO (decide ((((List.length (elems (nth (flds x0) 0))):Nat):Int)>(51:Int)))
 (some (.val (eI 2)))
 ((L110_0a (0:Int) (elems (nth (flds x0) 0)) (getI (nth (flds x0) 1))))))
 (none) :=
 (zE (f:=110) (by kernel_rfl) (by kernel_rfl) (by kernel_rfl) [x0]).trans (by kernel_rfl)
theorem C22(x0:DV):zA 22 [x0] =
 ifO (zP (hasT EE 6) [34] [x0])
 (zC (zA 69 [(.agg 0 [(.str (getS (nth (flds (nth (flds x0) 0)) 0))),(eI (getI (nth (flds (nth (flds x0) 0)) 1))),(.sl 3 (elems (nth (flds (nth (flds x0) 0)) 2)))])])
 (λr0=>ifO (hasT EE 6 3 r0)
 (zC (zA 71 [(.agg 0 [(.str (getS (nth (flds (nth (flds x0) 1)) 0))),(.sl 1 (elems (nth (flds (nth (flds x0) 1)) 1))),(.sl 1 (elems (nth (flds (nth (flds x0) 1)) 2)))])])
 (λr1=>ifO (hasT EE 6 3 r1)
 (zC (zA 110 [(.agg 1 [(.sl 1 (elems (nth (flds (nth (flds x0) 2)) 0))),(eI (getI (nth (flds (nth (flds x0) 2)) 1)))])])
 (λr2=>ifO (hasT EE 6 3 r2)
 (zC (zA 129 [(.agg 3 (flds (nth (flds x0) 3)))])
 (λr3=>ifO (hasT EE 6 3 r3)
 (zC (zA 35 [(.sl 1 [(eI (getI r0)),(eI (getI r1)),(eI (getI r2)),(eI (getI r3))])])
 (λr4=>ifO (hasT EE 6 3 r4)
 (some (.val (eI (getI r4))))
 (none))
 (λ_ _=>none))
 (none))
 (λ_ _=>none))
 (none))
 (λ_ _=>none))
 (none))
 (λ_ _=>none))
 (none))
 (λ_ _=>none))
 (none) :=
 (zE (f:=22) (by kernel_rfl) (by kernel_rfl) (by kernel_rfl) [x0]).trans (by kernel_rfl)
theorem C21(x0 x1:DV):zA 21 [x0,x1] =
 ifO (zP (hasT EE 6) [34,3] [x0,x1])
 (zC (zA 62 [(.agg 0 [(.str (getS (nth (flds (nth (flds x0) 0)) 0))),(eI (getI (nth (flds (nth (flds x0) 0)) 1))),(.sl 3 (elems (nth (flds (nth (flds x0) 0)) 2)))]),(eI (getI x1))])
 (λr0=>ifO (hasT EE 6 4 r0)
 (ifO (getB r0)
 (zC (zA 63 [(.agg 0 [(.str (getS (nth (flds (nth (flds x0) 1)) 0))),(.sl 1 (elems (nth (flds (nth (flds x0) 1)) 1))),(.sl 1 (elems (nth (flds (nth (flds x0) 1)) 2)))])])
 (λr1=>ifO (hasT EE 6 4 r1)
 (ifO (getB r1)
 (zC (zA 105 [(.agg 1 [(.sl 1 (elems (nth (flds (nth (flds x0) 2)) 0))),(eI (getI (nth (flds (nth (flds x0) 2)) 1)))])])
 (λr2=>ifO (hasT EE 6 4 r2)
 (ifO (getB r2)
 (zC (zA 128 [(.agg 3 (flds (nth (flds x0) 3)))])
 (λr3=>ifO (hasT EE 6 3 r3)
 (some (.val (.bool (decide ((getI r3)<=(6:Int))))))
 (none))
 (λ_ _=>none))
 (some (.val (.bool false))))
 (none))
 (λ_ _=>none))
 (some (.val (.bool false))))
 (none))
 (λ_ _=>none))
 (some (.val (.bool false))))
 (none))
 (λ_ _=>none))
 (none) :=
 (zE (f:=21) (by kernel_rfl) (by kernel_rfl) (by kernel_rfl) [x0,x1]).trans (by kernel_rfl)
theorem C63(x0:DV):zA 63 [x0] =
 ifO (zP (hasT EE 6) [27] [x0])
 (ifO (decide ((((ByteArray.size (getS (nth (flds x0) 0))):Nat):Int)<=(40:Int)))
 (ifO (decide ((((List.length (elems (nth (flds x0) 1))):Nat):Int)<=(6:Int)))
 (ifO (decide ((((List.length (elems (nth (flds x0) 2))):Nat):Int)<=(6:Int)))
 (some (.val (.bool true)))
 (some (.val (.bool ((((List.length (elems (nth (flds x0) 2))):Nat):Int) == (33:Int))))))
 (ifO ((((List.length (elems (nth (flds x0) 1))):Nat):Int) == (33:Int))
 (ifO (decide ((((List.length (elems (nth (flds x0) 2))):Nat):Int)<=(6:Int)))
 (some (.val (.bool true)))
 (some (.val (.bool ((((List.length (elems (nth (flds x0) 2))):Nat):Int) == (33:Int))))))
 (some (.val (.bool false)))))
 (some (.val (.bool false))))
 (none) :=
 (zE (f:=63) (by kernel_rfl) (by kernel_rfl) (by kernel_rfl) [x0]).trans (by kernel_rfl)
def S128_0a(v0 v1:Int)(v2:List DV):St :=
 stOf 23 [(1,(.ptr 1 408 0 [])),(3,(.d (eI v0))),(4,(.d (eI v1)))] [(1,(.mk false (.dc 408 [(.agg 3 v2)])))]
noncomputable def L128_0a(v0 v1:Int)(v2:List DV):Option CR:=goQ 128 0 (S128_0a v0 v1 v2)
def S128_1a(v0 v1 v2:Int)(v3:List DV):St :=
 stOf 23 [(1,(.ptr 1 408 0 [])),(3,(.d (eI v0))),(4,(.d (eI v1))),(5,(.d (eI v2)))] [(1,(.mk false (.dc 408 [(.agg 3 v3)])))]
noncomputable def L128_1a(v0 v1 v2:Int)(v3:List DV):Option CR:=goQ 128 1 (S128_1a v0 v1 v2 v3)
theorem L128_0a_eq(v0 v1:Int)(v2:List DV):L128_0a v0 v1 v2 =
 ifO (decide (v1<(8:Int)))
 ((L128_1a v0 v1 (0:Int) v2))
 (some (.val (eI v0))) :=
 (zU 128 0 _).trans (by kernel_rfl)
theorem L128_1a_eq(v0 v1 v2:Int)(v3:List DV):L128_1a v0 v1 v2 v3 =
 ifO (decide (v2<=(50:Int)))
 (ifO (decide (((0:Int)<=v1)/\(v1<(8:Int))))
 (ifO (decide (((0:Int)<=v2)/\(v2<(51:Int))))
 (ifO (isAg 3 (Int.toNat v1) (.agg 3 v3))
 (ifO (isAg 2 (Int.toNat v2) (nth v3 (Int.toNat v1)))
 (ifO (hasT EE 6 3 (nth (flds (nth v3 (Int.toNat v1))) (Int.toNat v2)))
 (ifO (decide ((getI (nth (flds (nth v3 (Int.toNat v1))) (Int.toNat v2)))>(0:Int)))
 ((L128_1a (IntKind.wrap .i64 (v0+(1:Int))) v1 (IntKind.wrap .i64 (v2+(1:Int))) v3))
 ((L128_1a v0 v1 (IntKind.wrap .i64 (v2+(1:Int))) v3)))
 (none))
 (none))
 (none))
 (none))
 (none))
 ((L128_0a v0 (IntKind.wrap .i64 (v1+(1:Int))) v3)) :=
 (zU 128 1 _).trans (by kernel_rfl)
theorem C128(x0:DV):zA 128 [x0] =
 ifO (zP (hasT EE 6) [32] [x0])
 ((L128_0a (0:Int) (0:Int) (flds x0)))
 (none) :=
 (zE (f:=128) (by kernel_rfl) (by kernel_rfl) (by kernel_rfl) [x0]).trans (by kernel_rfl)
theorem C105(x0:DV):zA 105 [x0] =
 ifO (zP (hasT EE 6) [29] [x0])
 (some (.val (.bool (decide ((((List.length (elems (nth (flds x0) 0))):Nat):Int)<=(52:Int))))))
 (none) :=
 (zE (f:=105) (by kernel_rfl) (by kernel_rfl) (by kernel_rfl) [x0]).trans (by kernel_rfl)
end Go.Am
namespace Go.Am
open Go.Proofs
open Go
variable[OO]
theorem C34(x0:DV):zA 34 [x0] =
 ifO (zP (hasT EE 6) [34] [x0])
 (zC (zA 65 [(.agg 0 [(.str (getS (nth (flds (nth (flds x0) 0)) 0))),(eI (getI (nth (flds (nth (flds x0) 0)) 1))),(.sl 3 (elems (nth (flds (nth (flds x0) 0)) 2)))])])
 (λr0=>ifO (hasT EE 6 58 r0)
 (zC (zA 67 [(.agg 0 [(.str (getS (nth (flds (nth (flds x0) 1)) 0))),(.sl 1 (elems (nth (flds (nth (flds x0) 1)) 1))),(.sl 1 (elems (nth (flds (nth (flds x0) 1)) 2)))])])
 (λr1=>ifO (hasT EE 6 59 r1)
 (zC (zA 107 [(.agg 1 [(.sl 1 (elems (nth (flds (nth (flds x0) 2)) 0))),(eI (getI (nth (flds (nth (flds x0) 2)) 1)))])])
 (λr2=>ifO (hasT EE 6 60 r2)
 (some (.val (.agg 4 [(.agg 0 [(.str (getS (nth (flds r0) 0))),(eI (getI (nth (flds r0) 1))),(.sl 3 (elems (nth (flds r0) 2)))]),(.agg 0 [(.str (getS (nth (flds r1) 0))),(.sl 1 (elems (nth (flds r1) 1))),(.sl 1 (elems (nth (flds r1) 2)))]),(.agg 1 [(.sl 1 (elems (nth (flds r2) 0))),(eI (getI (nth (flds r2) 1)))]),(.agg 3 (flds (nth (flds x0) 3)))])))
 (none))
 (λ_ _=>none))
 (none))
 (λ_ _=>none))
 (none))
 (λ_ _=>none))
 (none) :=
 (zE (f:=34) (by kernel_rfl) (by kernel_rfl) (by kernel_rfl) [x0]).trans (by kernel_rfl)
theorem C56(x0:DV):zA 56 [x0] =
 ifO (zP (hasT EE 6) [25] [x0])
 (ifO (decide ((((2 * (0+(List.length (elems x0))))+200) * 8)<=281474976710656))
 (ifO (List.isEmpty (elems x0))
 (some (.val (.sl 1 [])))
 (ifO (decide ((0+(List.length ([]++(elems x0))))<=(List.length ([]++(elems x0)))))
 (some (.val (.sl 1 (List.take (List.length ([]++(elems x0))) (List.drop 0 ([]++(elems x0)))))))
 (none)))
 (none))
 (none) :=
 (zE (f:=56) (by kernel_rfl) (by kernel_rfl) (by kernel_rfl) [x0]).trans (by kernel_rfl)
theorem C67(x0:DV):zA 67 [x0] =
 ifO (zP (hasT EE 6) [27] [x0])
 (zC (zA 56 [(.sl 1 (elems (nth (flds x0) 1)))])
 (λr0=>ifO (hasT EE 6 25 r0)
 (zC (zA 56 [(.sl 1 (elems (nth (flds x0) 2)))])
 (λr1=>ifO (hasT EE 6 25 r1)
 (some (.val (.agg 0 [(.str (getS (nth (flds x0) 0))),(.sl 1 (elems r0)),(.sl 1 (elems r1))])))
 (none))
 (λ_ _=>none))
 (none))
 (λ_ _=>none))
 (none) :=
 (zE (f:=67) (by kernel_rfl) (by kernel_rfl) (by kernel_rfl) [x0]).trans (by kernel_rfl)
theorem C107(x0:DV):zA 107 [x0] =
 ifO (zP (hasT EE 6) [29] [x0])
 (zC (zA 56 [(.sl 1 (elems (nth (flds x0) 0)))])
 (λr0=>ifO (hasT EE 6 25 r0)
 (some (.val (.agg 1 [(.sl 1 (elems r0)),(eI (getI (nth (flds x0) 1)))])))
 (none))
 (λ_ _=>none))
 (none) :=
 (zE (f:=107) (by kernel_rfl) (by kernel_rfl) (by kernel_rfl) [x0]).trans (by kernel_rfl)
end Go.Am
namespace Go.Am
open Go.Proofs
open Go
variable[OO]
def S71_0a(v0:Int)(v1:ByteArray)(v2 v3:List DV):St :=
 stOf 91 [(1,(.ptr 1 3 0 [])),(3,(.d (eI v0)))] [(1,(.mk false (.dc 3 [(.agg 0 [(.str v1),(.sl 1 v2),(.sl 1 v3)])])))]
noncomputable def L71_0a(v0:Int)(v1:ByteArray)(v2 v3:List DV):Option CR:=goQ 71 0 (S71_0a v0 v1 v2 v3)
def S71_1a(v0:Int)(v1:ByteArray)(v2 v3:List DV):St :=
 stOf 91 [(1,(.ptr 1 3 0 [])),(5,(.d (eI v0)))] [(1,(.mk false (.dc 3 [(.agg 0 [(.str v1),(.sl 1 v2),(.sl 1 v3)])])))]
noncomputable def L71_1a(v0:Int)(v1:ByteArray)(v2 v3:List DV):Option CR:=goQ 71 1 (S71_1a v0 v1 v2 v3)
theorem L71_0a_eq(v0:Int)(v1:ByteArray)(v2 v3:List DV):L71_0a v0 v1 v2 v3 =
 ifO (decide (v0<(((List.length v2):Nat):Int)))
 (ifO (decide (((0:Int)<=v0)/\(v0<(((List.length v2):Nat):Int))))
 (ifO (hasT EE 6 3 (nth v2 (Int.toNat v0)))
 (zC (zA 37 [(eI (getI (nth v2 (Int.toNat v0)))),(eI 0),(eI 256)])
 (λr6=>ifO (hasT EE 6 3 r6)
 (ifO (bne (getI r6) 0)
 (some (.val (eI (getI r6))))
 (ifO (decide (v0>(0:Int)))
 (ifO (decide (((0:Int)<=v0)/\(v0<(((List.length v2):Nat):Int))))
 (ifO (hasT EE 6 3 (nth v2 (Int.toNat v0)))
 (ifO (decide (((0:Int)<=(IntKind.wrap .i64 (v0 - (1:Int))))/\((IntKind.wrap .i64 (v0 - (1:Int)))<(((List.length v2):Nat):Int))))
 (ifO (hasT EE 6 3 (nth v2 (Int.toNat (IntKind.wrap .i64 (v0 - (1:Int))))))
 (ifO (decide ((getI (nth v2 (Int.toNat v0)))>(getI (nth v2 (Int.toNat (IntKind.wrap .i64 (v0 - (1:Int))))))))
 (some (.val (eI 11)))
 ((L71_0a (IntKind.wrap .i64 (v0+(1:Int))) v1 v2 v3)))
 (none))
 (none))
 (none))
 (none))
 ((L71_0a (IntKind.wrap .i64 (v0+(1:Int))) v1 v2 v3))))
 (none))
 (λ_ _=>none))
 (none))
 (none))
 ((L71_1a (0:Int) v1 v2 v3)) :=
 (zU 71 0 _).trans (by kernel_rfl)
theorem L71_1a_eq(v0:Int)(v1:ByteArray)(v2 v3:List DV):L71_1a v0 v1 v2 v3 =
 ifO (decide (v0<(((List.length v3):Nat):Int)))
 (ifO (decide (((0:Int)<=v0)/\(v0<(((List.length v3):Nat):Int))))
 (ifO (hasT EE 6 3 (nth v3 (Int.toNat v0)))
 (zC (zA 37 [(eI (getI (nth v3 (Int.toNat v0)))),(eI 0),(eI 100)])
 (λr9=>ifO (hasT EE 6 3 r9)
 (ifO (bne (getI r9) 0)
 (some (.val (eI (getI r9))))
 (ifO (decide (v0>(0:Int)))
 (ifO (decide (((0:Int)<=v0)/\(v0<(((List.length v3):Nat):Int))))
 (ifO (hasT EE 6 3 (nth v3 (Int.toNat v0)))
 (ifO (decide (((0:Int)<=(IntKind.wrap .i64 (v0 - (1:Int))))/\((IntKind.wrap .i64 (v0 - (1:Int)))<(((List.length v3):Nat):Int))))
 (ifO (hasT EE 6 3 (nth v3 (Int.toNat (IntKind.wrap .i64 (v0 - (1:Int))))))
 (ifO (decide ((getI (nth v3 (Int.toNat v0)))<(getI (nth v3 (Int.toNat (IntKind.wrap .i64 (v0 - (1:Int))))))))
 (some (.val (eI 11)))
 ((L71_1a (IntKind.wrap .i64 (v0+(1:Int))) v1 v2 v3)))
 (none))
 (none))
 (none))
 (none))
 ((L71_1a (IntKind.wrap .i64 (v0+(1:Int))) v1 v2 v3))))
 (none))
 (λ_ _=>none))
 (none))
 (none))
 (some (.val (eI 0))) :=
 (zU 71 1 _).trans (by kernel_rfl)
theorem C71(x0:DV):zA 71 [x0] =
 ifO (zP (hasT EE 6) [27] [x0])
 (zC (zA 92 [])
 (λr0=>ifO (hasT EE 6 173 r0)
 (zC (zA 193 [(.sl 1 (elems r0)),(.str (getS (nth (flds x0) 0)))])
 (λr1=>ifO (hasT EE 6 4 r1)
 (ifO (!(getB r1))
 (some (.val (eI 13)))
 (ifO ((((List.length (elems (nth (flds x0) 1))):Nat):Int) == (0:Int))
 (some (.val (eI 12)))
 (ifO (decide ((((List.length (elems (nth (flds x0) 1))):Nat):Int)>(32:Int)))
 (some (.val (eI 5)))
 (ifO (bne (((List.length (elems (nth (flds x0) 2))):Nat):Int) (((List.length (elems (nth (flds x0) 1))):Nat):Int))
 (some (.val (eI 2)))
 ((L71_0a (0:Int) (getS (nth (flds x0) 0)) (elems (nth (flds x0) 1)) (elems (nth (flds x0) 2))))))))
 (none))
 (λ_ _=>none))
 (none))
 (λ_ _=>none))
 (none) :=
 (zE (f:=71) (by kernel_rfl) (by kernel_rfl) (by kernel_rfl) [x0]).trans (by kernel_rfl)
def S193_0a(v0:List DV)(v1:ByteArray)(v2:Int):St :=
 stOf 18 [(0,(.d (.sl 1 v0))),(1,(.d (.str v1))),(5,(.d (eI v2)))] []
noncomputable def L193_0a(v0:List DV)(v1:ByteArray)(v2:Int):Option CR:=goQ 193 0 (S193_0a v0 v1 v2)
theorem L193_0a_eq(v0:List DV)(v1:ByteArray)(v2:Int):L193_0a v0 v1 v2 =
 ifO (decide (v2<(((List.length v0):Nat):Int)))
 (ifO (decide (((0:Int)<=v2)/\(v2<(((List.length v0):Nat):Int))))
 (ifO (hasT EE 6 9 (nth v0 (Int.toNat v2)))
 (ifO ((ByteArray.toList (getS (nth v0 (Int.toNat v2)))) == (ByteArray.toList v1))
 (some (.val (.bool true)))
 ((L193_0a v0 v1 (IntKind.wrap .i64 (v2+(1:Int))))))
 (none))
 (none))
 (some (.val (.bool false))) :=
 (zU 193 0 _).trans (by kernel_rfl)
theorem C193(x0 x1:DV):zA 193 [x0,x1] =
 ifO (zP (hasT EE 6) [173,9] [x0,x1])
 ((L193_0a (elems x0) (getS x1) (0:Int)))
 (none) :=
 (zE (f:=193) (by kernel_rfl) (by kernel_rfl) (by kernel_rfl) [x0,x1]).trans (by kernel_rfl)
theorem C92:zA 92 [] =
 some (.val (.sl 1 [(.str (bs [103,114,101,97,116,101,115,116])),(.str (bs [115,113,117,97,114,101,115])),(.str (bs [115,117,109]))])) :=
 (zE (f:=92) (by kernel_rfl) (by kernel_rfl) (by kernel_rfl) []).trans (by kernel_rfl)
end Go.Am
namespace Go.Am
open Go.Proofs
open Go
variable[OO]
def S69_0a(v0:Int)(v1:ByteArray)(v2:Int)(v3:List DV):St :=
 stOf 73 [(1,(.ptr 1 3 0 [])),(3,(.d (eI v0)))] [(1,(.mk false (.dc 3 [(.agg 0 [(.str v1),(eI v2),(.sl 3 v3)])])))]
noncomputable def L69_0a(v0:Int)(v1:ByteArray)(v2:Int)(v3:List DV):Option CR:=goQ 69 0 (S69_0a v0 v1 v2 v3)
def S69_1a(v0 v1:Int)(v2:ByteArray)(v3:Int)(v4:List DV)(v5:ByteArray)(v6 v7:Int):St :=
 stOf 73 [(1,(.ptr 1 3 0 [])),(3,(.d (eI v0))),(4,(.ptr 4 3 0 [])),(5,(.d (eI v1)))] [(1,(.mk false (.dc 3 [(.agg 0 [(.str v2),(eI v3),(.sl 3 v4)])]))),(4,(.mk false (.dc 3 [(.agg 9 [(.str v5),(.agg 1 [(eI v6),(eI v7)])])])))]
noncomputable def L69_1a(v0 v1:Int)(v2:ByteArray)(v3:Int)(v4:List DV)(v5:ByteArray)(v6 v7:Int):Option CR:=goQ 69 1 (S69_1a v0 v1 v2 v3 v4 v5 v6 v7)
def S69_2a(v0 v1:Int)(v2:ByteArray)(v3:Int)(v4:List DV)(v5:ByteArray)(v6 v7:Int):St :=
 stOf 73 [(1,(.ptr 1 3 0 [])),(3,(.d (eI v0))),(4,(.ptr 4 3 0 [])),(6,(.d (eI v1)))] [(1,(.mk false (.dc 3 [(.agg 0 [(.str v2),(eI v3),(.sl 3 v4)])]))),(4,(.mk false (.dc 3 [(.agg 9 [(.str v5),(.agg 1 [(eI v6),(eI v7)])])])))]
noncomputable def L69_2a(v0 v1:Int)(v2:ByteArray)(v3:Int)(v4:List DV)(v5:ByteArray)(v6 v7:Int):Option CR:=goQ 69 2 (S69_2a v0 v1 v2 v3 v4 v5 v6 v7)
theorem L69_0a_eq(v0:Int)(v1:ByteArray)(v2:Int)(v3:List DV):L69_0a v0 v1 v2 v3 =
 ifO (decide (v0<(((List.length v3):Nat):Int)))
 (ifO (decide (((0:Int)<=v0)/\(v0<(((List.length v3):Nat):Int))))
 (ifO (hasT EE 6 143 (nth v3 (Int.toNat v0)))
 (zC (zA 130 [(.str (getS (nth (flds (nth v3 (Int.toNat v0))) 0)))])
 (λr6=>ifO (hasT EE 6 4 r6)
 (ifO (!(getB r6))
 (some (.val (eI 8)))
 (zC (zA 164 [(.agg 1 [(eI (getI (nth (flds (nth (flds (nth v3 (Int.toNat v0))) 1)) 0))),(eI (getI (nth (flds (nth (flds (nth v3 (Int.toNat v0))) 1)) 1)))])])
 (λr7=>ifO (hasT EE 6 3 r7)
 (ifO (bne (getI r7) 0)
 (some (.val (eI 3)))
 ((L69_1a v0 (0:Int) v1 v2 v3 (getS (nth (flds (nth v3 (Int.toNat v0))) 0)) (getI (nth (flds (nth (flds (nth v3 (Int.toNat v0))) 1)) 0)) (getI (nth (flds (nth (flds (nth v3 (Int.toNat v0))) 1)) 1)))))
 (none))
 (λ_ _=>none)))
 (none))
 (λ_ _=>none))
 (none))
 (none))
 (some (.val (eI 0))) :=
 (zU 69 0 _).trans (by kernel_rfl)
theorem L69_1a_eq(v0 v1:Int)(v2:ByteArray)(v3:Int)(v4:List DV)(v5:ByteArray)(v6 v7:Int):L69_1a v0 v1 v2 v3 v4 v5 v6 v7 =
 ifO (decide (v1<v0))
 (ifO (decide (((0:Int)<=v1)/\(v1<(((List.length v4):Nat):Int))))
 (ifO (isAg 9 0 (nth v4 (Int.toNat v1)))
 (ifO (hasT EE 6 9 (nth (flds (nth v4 (Int.toNat v1))) 0))
 (ifO ((ByteArray.toList (getS (nth (flds (nth v4 (Int.toNat v1))) 0))) == (ByteArray.toList v5))
 (some (.val (eI 9)))
 ((L69_1a v0 (IntKind.wrap .i64 (v1+(1:Int))) v2 v3 v4 v5 v6 v7)))
 (none))
 (none))
 (none))
 ((L69_2a v0 (0:Int) v2 v3 v4 v5 v6 v7)) :=
 (zU 69 1 _).trans (by kernel_rfl)
theorem L69_2a_eq(v0 v1:Int)(v2:ByteArray)(v3:Int)(v4:List DV)(v5:ByteArray)(v6 v7:Int):L69_2a v0 v1 v2 v3 v4 v5 v6 v7 =
 ifO (decide (v1<v0))
 (ifO (decide (((0:Int)<=v1)/\(v1<(((List.length v4):Nat):Int))))
 (ifO (isAg 9 1 (nth v4 (Int.toNat v1)))
 (ifO (hasT EE 6 141 (nth (flds (nth v4 (Int.toNat v1))) 1))
 (zC (zA 192 [(.agg 1 [(eI (getI (nth (flds (nth (flds (nth v4 (Int.toNat v1))) 1)) 0))),(eI (getI (nth (flds (nth (flds (nth v4 (Int.toNat v1))) 1)) 1)))]),(.agg 1 [(eI v6),(eI v7)])])
 (λr12=>ifO (hasT EE 6 3 r12)
 (ifO (decide ((getI r12)<(IntKind.wrap .i64 (v3 * v3))))
 (some (.val (eI 15)))
 ((L69_2a v0 (IntKind.wrap .i64 (v1+(1:Int))) v2 v3 v4 v5 v6 v7)))
 (none))
 (λ_ _=>none))
 (none))
 (none))
 (none))
 ((L69_0a (IntKind.wrap .i64 (v0+(1:Int))) v2 v3 v4)) :=
 (zU 69 2 _).trans (by kernel_rfl)
theorem C69(x0:DV):zA 69 [x0] =
 ifO (zP (hasT EE 6) [24] [x0])
 (zC (zA 130 [(.str (getS (nth (flds x0) 0)))])
 (λr0=>ifO (hasT EE 6 4 r0)
 (ifO (!(getB r0))
 (some (.val (eI 8)))
 (zC (zA 37 [(eI (getI (nth (flds x0) 1))),(eI 1),(eI 1000)])
 (λr1=>ifO (hasT EE 6 3 r1)
 (ifO (bne (getI r1) 0)
 (some (.val (eI 3)))
 (ifO (decide ((((List.length (elems (nth (flds x0) 2))):Nat):Int)>(64:Int)))
 (some (.val (eI 5)))
 ((L69_0a (0:Int) (getS (nth (flds x0) 0)) (getI (nth (flds x0) 1)) (elems (nth (flds x0) 2))))))
 (none))
 (λ_ _=>none)))
 (none))
 (λ_ _=>none))
 (none) :=
 (zE (f:=69) (by kernel_rfl) (by kernel_rfl) (by kernel_rfl) [x0]).trans (by kernel_rfl)
def S62_0a(v0:Int)(v1:ByteArray)(v2:Int)(v3:List DV):St :=
 stOf 38 [(2,(.ptr 2 3 0 [])),(5,(.d (eI v0)))] [(2,(.mk false (.dc 3 [(.agg 0 [(.str v1),(eI v2),(.sl 3 v3)])])))]
noncomputable def L62_0a(v0:Int)(v1:ByteArray)(v2:Int)(v3:List DV):Option CR:=goQ 62 0 (S62_0a v0 v1 v2 v3)
theorem L62_0a_eq(v0:Int)(v1:ByteArray)(v2:Int)(v3:List DV):L62_0a v0 v1 v2 v3 =
 ifO (decide (v0<(((List.length v3):Nat):Int)))
 (ifO (decide (((0:Int)<=v0)/\(v0<(((List.length v3):Nat):Int))))
 (ifO (isAg 9 0 (nth v3 (Int.toNat v0)))
 (ifO (hasT EE 6 9 (nth (flds (nth v3 (Int.toNat v0))) 0))
 (ifO (decide ((((ByteArray.size (getS (nth (flds (nth v3 (Int.toNat v0))) 0))):Nat):Int)>(60:Int)))
 (some (.val (.bool false)))
 ((L62_0a (IntKind.wrap .i64 (v0+(1:Int))) v1 v2 v3)))
 (none))
 (none))
 (none))
 (some (.val (.bool true))) :=
 (zU 62 0 _).trans (by kernel_rfl)
theorem C62(x0 x1:DV):zA 62 [x0,x1] =
 ifO (zP (hasT EE 6) [24,3] [x0,x1])
 (ifO (decide ((((ByteArray.size (getS (nth (flds x0) 0))):Nat):Int)>(60:Int)))
 (some (.val (.bool false)))
 (ifO (decide ((((List.length (elems (nth (flds x0) 2))):Nat):Int)>(getI x1)))
 (ifO (bne (((List.length (elems (nth (flds x0) 2))):Nat):Int) (65:Int))
 (some (.val (.bool false)))
 ((L62_0a (0:Int) (getS (nth (flds x0) 0)) (getI (nth (flds x0) 1)) (elems (nth (flds x0) 2)))))
 ((L62_0a (0:Int) (getS (nth (flds x0) 0)) (getI (nth (flds x0) 1)) (elems (nth (flds x0) 2))))))
 (none) :=
 (zE (f:=62) (by kernel_rfl) (by kernel_rfl) (by kernel_rfl) [x0,x1]).trans (by kernel_rfl)
def S65_0a(v0:List DV)(v1:Int)(v2:ByteArray)(v3:Int):St :=
 stOf 26 [(2,(.ptr 2 3 0 [])),(3,(.ptr 3 3 0 [])),(12,(.d (.sl 3 v0))),(13,(.d (eI v1))),(14,(.d (eI 0)))] [(2,(.mk false (.dc 3 [(.agg 0 [(.str (bs [])),(eI 0),.nl])]))),(3,(.mk false (.dc 3 [(.agg 0 [(.str v2),(eI v3),.nl])])))]
noncomputable def L65_0a(v0:List DV)(v1:Int)(v2:ByteArray)(v3:Int):Option CR:=goQ 65 0 (S65_0a v0 v1 v2 v3)
def S65_0b(v0:List DV)(v1 v2:Int)(v3:ByteArray)(v4:Int)(v5:List DV):St :=
 stOf 26 [(2,(.ptr 2 3 0 [])),(3,(.ptr 3 3 0 [])),(12,(.d (.sl 3 v0))),(13,(.d (eI v1))),(14,(.d (eI v2)))] [(2,(.mk false (.dc 3 [(.agg 0 [(.str (bs [])),(eI 0),.nl])]))),(3,(.mk false (.ac 3 [(.agg 0 [(.d (.str v3)),(.d (eI v4)),(.own 22 0 (List.length v5) 3)])]))),(22,(.mk false (.dc 3 v5)))]
noncomputable def L65_0b(v0:List DV)(v1 v2:Int)(v3:ByteArray)(v4:Int)(v5:List DV):Option CR:=goQ 65 0 (S65_0b v0 v1 v2 v3 v4 v5)
theorem L65_0a_eq(v0:List DV)(v1:Int)(v2:ByteArray)(v3:Int):L65_0a v0 v1 v2 v3 =
 ifO (decide ((0:Int)<v1))
 (ifO (decide (((0:Int)<=(0:Int))/\((0:Int)<(((List.length v0):Nat):Int))))
 (ifO (hasT EE 6 143 (nth v0 0))
 ((L65_0b v0 v1 (1:Int) v2 v3 [(.agg 9 [(.str (getS (nth (flds (nth v0 0)) 0))),(.agg 1 [(eI (getI (nth (flds (nth (flds (nth v0 0)) 1)) 0))),(eI (getI (nth (flds (nth (flds (nth v0 0)) 1)) 1)))])])]))
 (none))
 (none))
 (some (.val (.agg 0 [(.str v2),(eI v3),(.sl 3 [])]))) :=
 (zU 65 0 _).trans (by kernel_rfl)
theorem L65_0b_eq(v0:List DV)(v1 v2:Int)(v3:ByteArray)(v4:Int)(v5:List DV):L65_0b v0 v1 v2 v3 v4 v5 =
 ifO (decide (v2<v1))
 (ifO (decide (((0:Int)<=v2)/\(v2<(((List.length v0):Nat):Int))))
 (ifO (hasT EE 6 143 (nth v0 (Int.toNat v2)))
 (ifO (decide ((List.length v5)=(List.length v5)))
 (ifO (decide ((((2 * ((List.length v5)+1))+200) * 32)<=281474976710656))
 ((L65_0b v0 v1 (IntKind.wrap .i64 (v2+(1:Int))) v3 v4 (v5++[(.agg 9 [(.str (getS (nth (flds (nth v0 (Int.toNat v2))) 0))),(.agg 1 [(eI (getI (nth (flds (nth (flds (nth v0 (Int.toNat v2))) 1)) 0))),(eI (getI (nth (flds (nth (flds (nth v0 (Int.toNat v2))) 1)) 1)))])])])))
 (none))
 (none))
 (none))
 (none))
 (ifO (decide ((0+(List.length v5))<=(List.length v5)))
 (some (.val (.agg 0 [(.str v3),(eI v4),(.sl 3 (List.take (List.length v5) (List.drop 0 v5)))])))
 (none)) :=
 (zU 65 0 _).trans (by kernel_rfl)
theorem C65(x0:DV):zA 65 [x0] =
 ifO (zP (hasT EE 6) [24] [x0])
 ((L65_0a (elems (nth (flds x0) 2)) (((List.length (elems (nth (flds x0) 2))):Nat):Int) (getS (nth (flds x0) 0)) (getI (nth (flds x0) 1))))
 (none) :=
 (zE (f:=65) (by kernel_rfl) (by kernel_rfl) (by kernel_rfl) [x0]).trans (by kernel_rfl)
def S104_0a(v0:List DV)(v1:Int)(v2:ByteArray)(v3:Int):St :=
 stOf 26 [(2,(.ptr 2 3 0 [])),(3,(.ptr 3 3 0 [])),(12,(.d (.sl 3 v0))),(13,(.d (eI v1))),(14,(.d (eI 0)))] [(2,(.mk false (.dc 3 [(.agg 0 [(.str (bs [])),(eI 0),.nl])]))),(3,(.mk false (.dc 3 [(.agg 0 [(.str v2),(eI v3),.nl])])))]
noncomputable def L104_0a(v0:List DV)(v1:Int)(v2:ByteArray)(v3:Int):Option CR:=goQ 104 0 (S104_0a v0 v1 v2 v3)
def S104_0b(v0:List DV)(v1 v2:Int)(v3:ByteArray)(v4:Int)(v5:List DV):St :=
 stOf 26 [(2,(.ptr 2 3 0 [])),(3,(.ptr 3 3 0 [])),(12,(.d (.sl 3 v0))),(13,(.d (eI v1))),(14,(.d (eI v2)))] [(2,(.mk false (.dc 3 [(.agg 0 [(.str (bs [])),(eI 0),.nl])]))),(3,(.mk false (.ac 3 [(.agg 0 [(.d (.str v3)),(.d (eI v4)),(.own 22 0 (List.length v5) 3)])]))),(22,(.mk false (.dc 3 v5)))]
noncomputable def L104_0b(v0:List DV)(v1 v2:Int)(v3:ByteArray)(v4:Int)(v5:List DV):Option CR:=goQ 104 0 (S104_0b v0 v1 v2 v3 v4 v5)
theorem L104_0a_eq(v0:List DV)(v1:Int)(v2:ByteArray)(v3:Int):L104_0a v0 v1 v2 v3 =
 ifO (decide ((0:Int)<v1))
 (ifO (decide (((0:Int)<=(0:Int))/\((0:Int)<(((List.length v0):Nat):Int))))
 (ifO (hasT EE 6 176 (nth v0 0))
 ((L104_0b v0 v1 (1:Int) v2 v3 [(.agg 9 [(.str (getS (nth (flds (nth v0 0)) 0))),(.agg 1 [(eI (getI (nth (flds (nth (flds (nth v0 0)) 1)) 0))),(eI (getI (nth (flds (nth (flds (nth v0 0)) 1)) 1)))])])]))
 (none))
 (none))
 (some (.val (.agg 0 [(.str v2),(eI v3),(.sl 3 [])]))) :=
 (zU 104 0 _).trans (by kernel_rfl)
theorem L104_0b_eq(v0:List DV)(v1 v2:Int)(v3:ByteArray)(v4:Int)(v5:List DV):L104_0b v0 v1 v2 v3 v4 v5 =
 ifO (decide (v2<v1))
 (ifO (decide (((0:Int)<=v2)/\(v2<(((List.length v0):Nat):Int))))
 (ifO (hasT EE 6 176 (nth v0 (Int.toNat v2)))
 (ifO (decide ((List.length v5)=(List.length v5)))
 (ifO (decide ((((2 * ((List.length v5)+1))+200) * 32)<=281474976710656))
 ((L104_0b v0 v1 (IntKind.wrap .i64 (v2+(1:Int))) v3 v4 (v5++[(.agg 9 [(.str (getS (nth (flds (nth v0 (Int.toNat v2))) 0))),(.agg 1 [(eI (getI (nth (flds (nth (flds (nth v0 (Int.toNat v2))) 1)) 0))),(eI (getI (nth (flds (nth (flds (nth v0 (Int.toNat v2))) 1)) 1)))])])])))
 (none))
 (none))
 (none))
 (none))
 (ifO (decide ((0+(List.length v5))<=(List.length v5)))
 (some (.val (.agg 0 [(.str v3),(eI v4),(.sl 3 (List.take (List.length v5) (List.drop 0 v5)))])))
 (none)) :=
 (zU 104 0 _).trans (by kernel_rfl)
theorem C104(x0:DV):zA 104 [x0] =
 ifO (zP (hasT EE 6) [58] [x0])
 ((L104_0a (elems (nth (flds x0) 2)) (((List.length (elems (nth (flds x0) 2))):Nat):Int) (getS (nth (flds x0) 0)) (getI (nth (flds x0) 1))))
 (none) :=
 (zE (f:=104) (by kernel_rfl) (by kernel_rfl) (by kernel_rfl) [x0]).trans (by kernel_rfl)
def S129_0a(v0:Int)(v1:List DV):St :=
 stOf 20 [(1,(.ptr 1 408 0 [])),(3,(.d (eI v0)))] [(1,(.mk false (.dc 408 [(.agg 3 v1)])))]
noncomputable def L129_0a(v0:Int)(v1:List DV):Option CR:=goQ 129 0 (S129_0a v0 v1)
def S129_1a(v0 v1:Int)(v2:List DV):St :=
 stOf 20 [(1,(.ptr 1 408 0 [])),(3,(.d (eI v0))),(4,(.d (eI v1)))] [(1,(.mk false (.dc 408 [(.agg 3 v2)])))]
noncomputable def L129_1a(v0 v1:Int)(v2:List DV):Option CR:=goQ 129 1 (S129_1a v0 v1 v2)
theorem L129_0a_eq(v0:Int)(v1:List DV):L129_0a v0 v1 =
 ifO (decide (v0<(8:Int)))
 ((L129_1a v0 (0:Int) v1))
 (some (.val (eI 0))) :=
 (zU 129 0 _).trans (by kernel_rfl)
theorem L129_1a_eq(v0 v1:Int)(v2:List DV):L129_1a v0 v1 v2 =
 ifO (decide (v1<=(50:Int)))
 (ifO (decide (((0:Int)<=v0)/\(v0<(8:Int))))
 (ifO (decide (((0:Int)<=v1)/\(v1<(51:Int))))
 (ifO (isAg 3 (Int.toNat v0) (.agg 3 v2))
 (ifO (isAg 2 (Int.toNat v1) (nth v2 (Int.toNat v0)))
 (ifO (hasT EE 6 3 (nth (flds (nth v2 (Int.toNat v0))) (Int.toNat v1)))
 (zC (zA 37 [(eI (getI (nth (flds (nth v2 (Int.toNat v0))) (Int.toNat v1)))),(eI 0),(eI 40000)])
 (λr0=>ifO (hasT EE 6 3 r0)
 (ifO (bne (getI r0) 0)
 (some (.val (eI 3)))
 ((L129_1a v0 (IntKind.wrap .i64 (v1+(1:Int))) v2)))
 (none))
 (λ_ _=>none))
 (none))
 (none))
 (none))
 (none))
 (none))
 ((L129_0a (IntKind.wrap .i64 (v0+(1:Int))) v2)) :=
 (zU 129 1 _).trans (by kernel_rfl)
theorem C129(x0:DV):zA 129 [x0] =
 ifO (zP (hasT EE 6) [32] [x0])
 ((L129_0a (0:Int) (flds x0)))
 (none) :=
 (zE (f:=129) (by kernel_rfl) (by kernel_rfl) (by kernel_rfl) [x0]).trans (by kernel_rfl)
end Go.Am
namespace Go.Am
open Go.Proofs
open Go
variable[OO]
def S35_0a(v0:List DV)(v1:Int):St :=
 stOf 19 [(0,(.d (.sl 1 v0))),(3,(.d (eI v1)))] []
noncomputable def L35_0a(v0:List DV)(v1:Int):Option CR:=goQ 35 0 (S35_0a v0 v1)
theorem L35_0a_eq(v0:List DV)(v1:Int):L35_0a v0 v1 =
 ifO (decide (v1<(((List.length v0):Nat):Int)))
 (ifO (decide (((0:Int)<=v1)/\(v1<(((List.length v0):Nat):Int))))
 (ifO (hasT EE 6 3 (nth v0 (Int.toNat v1)))
 (ifO (bne (getI (nth v0 (Int.toNat v1))) (0:Int))
 (ifO (decide (((0:Int)<=v1)/\(v1<(((List.length v0):Nat):Int))))
 (ifO (hasT EE 6 3 (nth v0 (Int.toNat v1)))
 (some (.val (eI (getI (nth v0 (Int.toNat v1))))))
 (none))
 (none))
 ((L35_0a v0 (IntKind.wrap .i64 (v1+(1:Int))))))
 (none))
 (none))
 (some (.val (eI 0))) :=
 (zU 35 0 _).trans (by kernel_rfl)
theorem C35(x0:DV):zA 35 [x0] =
 ifO (zP (hasT EE 6) [25] [x0])
 ((L35_0a (elems x0) (0:Int)))
 (none) :=
 (zE (f:=35) (by kernel_rfl) (by kernel_rfl) (by kernel_rfl) [x0]).trans (by kernel_rfl)
theorem C37(x0 x1 x2:DV):zA 37 [x0,x1,x2] =
 ifO (zP (hasT EE 6) [3,3,3] [x0,x1,x2])
 (ifO (decide ((getI x0)<(getI x1)))
 (some (.val (eI 3)))
 (ifO (decide ((getI x0)>(getI x2)))
 (some (.val (eI 3)))
 (some (.val (eI 0)))))
 (none) :=
 (zE (f:=37) (by kernel_rfl) (by kernel_rfl) (by kernel_rfl) [x0,x1,x2]).trans (by kernel_rfl)
theorem C164(x0:DV):zA 164 [x0] =
 ifO (zP (hasT EE 6) [141] [x0])
 (zC (zA 37 [(eI (getI (nth (flds x0) 0))),(eI (-1000)),(eI 1000)])
 (λr0=>ifO (hasT EE 6 3 r0)
 (zC (zA 37 [(eI (getI (nth (flds x0) 1))),(eI (-1000)),(eI 1000)])
 (λr1=>ifO (hasT EE 6 3 r1)
 (zC (zA 35 [(.sl 1 [(eI (getI r0)),(eI (getI r1))])])
 (λr2=>ifO (hasT EE 6 3 r2)
 (some (.val (eI (getI r2))))
 (none))
 (λ_ _=>none))
 (none))
 (λ_ _=>none))
 (none))
 (λ_ _=>none))
 (none) :=
 (zE (f:=164) (by kernel_rfl) (by kernel_rfl) (by kernel_rfl) [x0]).trans (by kernel_rfl)
end Go.Am
namespace Go.Am
open Go.Proofs
open Go
variable[OO]
@[simp] theorem c37(n a b:Int):zA 37 [eI n,eI a,eI b]=some (.val (eI (zV n a b))):=by rw[C37];simp[zG,zV];by_cases h:n<a <;> by_cases h':n>b <;> simp[h,h']
end Go.Am
namespace Go.Am
open Go.Proofs
open Go
variable[OO]
theorem l35(l:List Int)(hl:l.length<=4611686018427387904):∀i,i<=l.length->L35_0a (l.map eI) i=some (.val (eI (zL (l.drop i)))):=by
 apply down
 ·rw[L35_0a_eq];simp[zL]
 ·intro i hi ih;rw[L35_0a_eq,zT l i hi];have e1:(i:Int)<l.length:=by omega
  simp[e1,zI _ l i hi,zf,zL,wr (i+1) (by omega)]
  split
  ·exact_mod_cast ih
  ·rfl
@[simp] theorem c35(l:List Int)(hl:l.length<=4611686018427387904):zA 35 [.sl 1 (l.map eI)]=some (.val (eI (zL l))):=by rw[C35];simpa using l35 l hl 0 (Nat.zero_le _)
@[simp] theorem c35_2(a b:Int):zA 35 [.sl 1 [eI a,eI b]]=some (.val (eI (zL [a,b]))):=c35 [a,b] (by simp)
@[simp] theorem c35_4(a b c d:Int):zA 35 [.sl 1 [eI a,eI b,eI c,eI d]]=some (.val (eI (zL [a,b,c,d]))):=c35 [a,b,c,d] (by simp)
theorem ptE_or(p:Pt):ptE p=0\/ptE p=3:=by unfold ptE zL zV;by_cases h1:p.x < -1000\/p.x>1000 <;> by_cases h2:p.y < -1000\/p.y>1000 <;> simp[h1,h2,zL]
@[simp] theorem c164(p:Pt):zA 164 [ePt p]=some (.val (eI (ptE p))):=by rw[C164];simp[ptE]
theorem memB_cons(n k:ByteArray)(ks:List ByteArray):memB n (k :: ks)=(decide (n=k) || memB n ks):=rfl
theorem apart_comm(a b:Pt):jB a b=jB b a:=by
 have e:∀x y:Int,(x - y) * (x - y)=(y - x) * (y - x):=λx y=>by rw[show x - y=-(y - x) by omega,Int.neg_mul_neg]
 unfold jB;rw[e a.x b.x,e a.y b.y]
theorem l69_2(s:Si)(i:Nat)(hi:i<s.tb.length)(hl:s.tb.length<=64)(hp:∀o∈s.tb.take i,okPt o.at')(ht:okPt s.tb[i].at')(h1:1<=s.least)(h2:s.least<=1000) :
  ∀k,k<=i->L69_2a i k s.name s.least (s.tb.map eTb) s.tb[i].name s.tb[i].at'.x s.tb[i].at'.y =
   if ((s.tb.take i).drop k).any (λo=>decide (jB s.tb[i].at' o.at'<s.least * s.least)) then some (.val (eI 15)) else L69_0a ((i+1:Nat):Int) s.name s.least (s.tb.map eTb):=by
 apply down
 ·rw[L69_2a_eq];simp[wr ((i:Int)+1) (by omega)]
 ·intro k hk ih;have hkl:k<s.tb.length:=by omega
  have hb:=JS s.least 1000 (by omega) h2
  have hkt:k<(s.tb.take i).length:=by simp;omega
  have ha:=hp s.tb[k] (by rw[List.mem_take_iff_getElem];exact⟨k,by omega,rfl⟩)
  have e1:(k:Int)<i:=by omega
  have e2:(k:Int)<s.tb.length:=by omega
  have step:L69_2a i k s.name s.least (s.tb.map eTb) s.tb[i].name s.tb[i].at'.x s.tb[i].at'.y =
    if jB s.tb[i].at' s.tb[k].at'<s.least * s.least then some (.val (eI 15)) else L69_2a i ((k+1:Nat):Int) s.name s.least (s.tb.map eTb) s.tb[i].name s.tb[i].at'.x s.tb[i].at'.y:=by
   rw[L69_2a_eq];simp only[zG];simp[e1,e2,zI _ s.tb k hkl,c192 s.tb[k].at' s.tb[i].at' ha ht,wr (s.least * s.least) (by omega),wr (k+1) (by omega),apart_comm s.tb[k].at']
   rfl
  rw[step,ih,zT _ k hkt,List.any_cons,List.getElem_take];by_cases hd:jB s.tb[i].at' s.tb[k].at'<s.least * s.least
  ·rw[if_pos hd,decide_eq_true hd,Bool.true_or,if_pos rfl]
  ·rw[if_neg hd,decide_eq_false hd,Bool.false_or]
theorem l69_1(s:Si)(i:Nat)(hi:i<s.tb.length)(hl:s.tb.length<=64) :
  ∀k,k<=i->L69_1a i k s.name s.least (s.tb.map eTb) s.tb[i].name s.tb[i].at'.x s.tb[i].at'.y =
   if memB s.tb[i].name (((s.tb.take i).map (·.name)).drop k) then some (.val (eI 9)) else L69_2a i (0:Nat) s.name s.least (s.tb.map eTb) s.tb[i].name s.tb[i].at'.x s.tb[i].at'.y:=by
 apply down
 ·rw[L69_1a_eq];simp[memB]
 ·intro k hk ih;have hkl:k<s.tb.length:=by omega
  have hkt:k<((s.tb.take i).map (·.name)).length:=by simp;omega
  have e1:(k:Int)<i:=by omega
  have e2:(k:Int)<s.tb.length:=by omega
  have step:L69_1a i k s.name s.least (s.tb.map eTb) s.tb[i].name s.tb[i].at'.x s.tb[i].at'.y =
    if s.tb[i].name=s.tb[k].name then some (.val (eI 9)) else L69_1a i ((k+1:Nat):Int) s.name s.least (s.tb.map eTb) s.tb[i].name s.tb[i].at'.x s.tb[i].at'.y:=by
   rw[L69_1a_eq];simp only[bytes_beq,zG];simp[e1,e2,zI _ s.tb k hkl,wr (k+1) (by omega),eq_comm (a:=s.tb[k].name)]
  rw[step,ih,zT _ k hkt,memB_cons];simp only[List.getElem_map,List.getElem_take];by_cases hd:s.tb[i].name=s.tb[k].name
  ·rw[if_pos hd,decide_eq_true hd,Bool.true_or,if_pos rfl]
  ·rw[if_neg hd,decide_eq_false hd,Bool.false_or]
theorem l69_0(s:Si)(hl:s.tb.length<=64)(h1:1<=s.least)(h2:s.least<=1000) :
  ∀i,i<=s.tb.length->(∀o∈s.tb.take i,okPt o.at')->L69_0a i s.name s.least (s.tb.map eTb)=some (.val (eI (ja s.least (s.tb.take i) (s.tb.drop i)))):=by
 apply down (P:=λi=>(∀o∈s.tb.take i,okPt o.at')->L69_0a i s.name s.least (s.tb.map eTb)=some (.val (eI (ja s.least (s.tb.take i) (s.tb.drop i)))))
 ·intro _;rw[L69_0a_eq];simp[ja]
 ·intro i hi ih hp;have e1:(i:Int)<s.tb.length:=by omega
  have htk:s.tb.take (i+1)=s.tb.take i++[s.tb[i]]:=by rw[List.take_succ_eq_append_getElem hi]
  rw[zT s.tb i hi,ja];rw[htk] at ih;have step:L69_0a i s.name s.least (s.tb.map eTb) =
    if jE s.tb[i].name=true then (if ptE s.tb[i].at'=0 then L69_1a i (0:Nat) s.name s.least (s.tb.map eTb) s.tb[i].name s.tb[i].at'.x s.tb[i].at'.y else some (.val (eI 3))) else some (.val (eI 8)):=by
   rw[L69_0a_eq];simp only[zG,zf];simp[e1,zI _ s.tb i hi,c130];cases jE s.tb[i].name
   ·simp
   ·simp only[Bool.not_true,za,if_true];rfl
  rw[step];cases hn:jE s.tb[i].name with
  | false=>simp[zL]
  | true =>
   by_cases hq:ptE s.tb[i].at'=0
   ·have ht:okPt s.tb[i].at':=(zAs _).1 hq;simp only[if_true,hq];rw[l69_1 s i hi hl 0 (Nat.zero_le _),List.drop_zero];cases hm:memB s.tb[i].name ((s.tb.take i).map (·.name)) with
    | true=>simp[zL]
    | false =>
     simp only[Bool.false_eq_true,if_false,zL,if_true,ne_eq,not_true_eq_false];rw[l69_2 s i hi hl hp ht h1 h2 0 (Nat.zero_le _),List.drop_zero];split
     ·rfl
     ·refine ih λo ho=>?_
      rcases List.mem_append.1 ho with ho | ho
      ·exact hp o ho
      ·rw[List.mem_singleton.1 ho];exact ht
   ·rcases ptE_or s.tb[i].at' with h | h
    ·exact absurd h hq
    ·simp[h,zL]
theorem c69(s:Si):zA 69 [eSi s]=some (.val (eI (z8 s))):=by
 rw[C69];simp only[zf,zG];simp[z8,c130];cases hn:jE s.name with
 | false=>simp[zL]
 | true =>
  by_cases hr:zV s.least 1 1000=0
  ·by_cases hl:(64:Int)<s.tb.length
   ·simp[hr,hl,zL]
   ·have h0:zL [if jE s.name then 0 else 8,zV s.least 1 1000,if (64:Int)<s.tb.length then 5 else 0]=0:=by simp[zL,hn,hr,hl]
    obtain⟨_,h1,h2,h3⟩:=Jc h0;have:=l69_0 s h3 h1 h2 0 (Nat.zero_le _) (by simp)
    simpa[hr,hl,zL] using this
  ·have hr3:zV s.least 1 1000=3:=by unfold zV at hr ⊢;split at hr <;> simp_all
   simp[hr3,zL]
end Go.Am
namespace Go.Am
open Go.Proofs
open Go
variable[OO]
theorem l193(l:List ByteArray)(n:ByteArray)(hl:l.length<=1000):∀i,i<=l.length->L193_0a (l.map .str) n i=some (.val (.bool (memB n (l.drop i)))):=by
 apply down
 ·rw[L193_0a_eq];simp[memB]
 ·intro i hi ih;have e1:(i:Int)<l.length:=by omega
  rw[L193_0a_eq,zT l i hi,memB_cons];simp only[bytes_beq,zG,wr ((i:Int)+1) (by omega)]
  by_cases h:l[i]=n
  ·simp[e1,zI _ l i hi,h]
  ·have h':¬n=l[i]:=λe=>h e.symm
   simp only[decide_eq_false h',Bool.false_or];simp[e1,zI _ l i hi,h]
   exact_mod_cast ih
theorem c193(l:List ByteArray)(n:ByteArray)(hl:l.length<=1000):zA 193 [.sl 1 (l.map .str),.str n]=some (.val (.bool (memB n l))):=by rw[C193];simpa using l193 l n hl 0 (Nat.zero_le _)
theorem l71_1(d w:List Int)(nm:ByteArray)(hl:w.length<=1000):∀i,i<=w.length->L71_1a i nm (d.map eI) (w.map eI)=some (.val (eI (jC 100 true (zg w i) (w.drop i)))):=by
 apply down
 ·rw[L71_1a_eq];simp[jC]
 ·intro i hi ih;have e1:(i:Int)<w.length:=by omega
  rw[zT w i hi,jC];rw[jY w i hi] at ih;have step:L71_1a i nm (d.map eI) (w.map eI)=if zq 100 true (zg w i) w[i]=0 then L71_1a ((i+1:Nat):Int) nm (d.map eI) (w.map eI) else some (.val (eI (zq 100 true (zg w i) w[i]))):=by
   rw[L71_1a_eq];simp only[zG,zf];by_cases hr:zV w[i] 0 100=0
   ·cases i with
    | zero =>
     simp[e1,hi,zI _ w 0 hi,zg,zq,wr 1 (by omega),hr,zL]
    | succ j =>
     have hj:j<w.length:=by omega
     have e2:(((j+1:Nat):Int) - 1)=(j:Int):=by omega
     have e3:(j:Int)<w.length:=by omega
     have e4:((j+1:Nat):Int)>0:=by omega
     have e5:((j+1:Nat):Int)<w.length:=by omega
     have e6:(0:Int)<=((j+1:Nat):Int):=by omega
     rw[e2,wr (j:Int) (by omega)]
     rw[wr (((j+1:Nat):Int)+1) (by omega)]
     simp only[e4,e5,e6,e3,Int.natCast_nonneg,and_self,if_true,Int.toNat_natCast,zI _ w (j+1) hi,zI _ w j hj];have e7:(j:Int)+1<w.length:=by omega
     by_cases hc:w[j+1]<w[j]
     ·simp[zq,zg,hj,e7,hc,hr,zL]
     ·simp[zq,zg,hj,e7,hc,hr,zL]
   ·have hs:zq 100 true (zg w i) w[i]=zV w[i] 0 100:=by unfold zq;rw[zL,if_neg hr]
    simp[e1,hi,zI _ w i hi,hs,hr]
  rw[step,ih];split <;> rfl
theorem l71_0(d w:List Int)(nm:ByteArray)(hl:d.length<=1000):∀i,i<=d.length->L71_0a i nm (d.map eI) (w.map eI)=if jC 256 false (zg d i) (d.drop i)=0 then L71_1a (0:Nat) nm (d.map eI) (w.map eI) else some (.val (eI (jC 256 false (zg d i) (d.drop i)))):=by
 apply down
 ·rw[L71_0a_eq];simp[jC]
 ·intro i hi ih;have e1:(i:Int)<d.length:=by omega
  rw[zT d i hi,jC];rw[jY d i hi] at ih;have step:L71_0a i nm (d.map eI) (w.map eI)=if zq 256 false (zg d i) d[i]=0 then L71_0a ((i+1:Nat):Int) nm (d.map eI) (w.map eI) else some (.val (eI (zq 256 false (zg d i) d[i]))):=by
   rw[L71_0a_eq];simp only[zG,zf];by_cases hr:zV d[i] 0 256=0
   ·cases i with
    | zero =>
     simp[e1,hi,zI _ d 0 hi,zg,zq,wr 1 (by omega),hr,zL]
    | succ j =>
     have hj:j<d.length:=by omega
     have e2:(((j+1:Nat):Int) - 1)=(j:Int):=by omega
     have e3:(j:Int)<d.length:=by omega
     have e4:((j+1:Nat):Int)>0:=by omega
     have e5:((j+1:Nat):Int)<d.length:=by omega
     have e6:(0:Int)<=((j+1:Nat):Int):=by omega
     rw[e2,wr (j:Int) (by omega)]
     rw[wr (((j+1:Nat):Int)+1) (by omega)]
     simp only[e4,e5,e6,e3,Int.natCast_nonneg,and_self,if_true,Int.toNat_natCast,zI _ d (j+1) hi,zI _ d j hj];have e7:(j:Int)+1<d.length:=by omega
     by_cases hc:d[j+1]>d[j]
     ·simp[zq,zg,hj,e7,hc,hr,zL]
     ·simp[zq,zg,hj,e7,hc,hr,zL]
   ·have hs:zq 256 false (zg d i) d[i]=zV d[i] 0 256:=by unfold zq;rw[zL,if_neg hr]
    simp[e1,hi,zI _ d i hi,hs,hr]
  rw[step];by_cases h:zq 256 false (zg d i) d[i]=0
  ·rw[if_pos h,if_pos h,ih]
  ·rw[if_neg h,if_neg h,if_neg h]
theorem c71(w:Wk):zA 71 [eWk w]=some (.val (eI (wakeE w))):=by
 have key:wakeH w=0->L71_0a 0 w.rule (w.d.map eI) (w.w.map eI)=some (.val (eI (if jC 256 false none w.d=0 then jC 100 true none w.w else jC 256 false none w.d))):=by
  intro h;obtain⟨_,_,h3,h4⟩:=wakeH_facts h;have a:=l71_0 w.d w.w w.rule (by omega) 0 (Nat.zero_le _)
  have b:=l71_1 w.d w.w w.rule (by omega) 0 (Nat.zero_le _)
  simp only[zg,if_true,List.drop_zero,Int.natCast_zero] at a b;rw[a,b];split <;> rfl
 have h193:zA 193 [.sl 1 [.str rG,.str rS,.str rM],.str w.rule]=some (.val (.bool (jD w.rule))):=c193 [rG,rS,rM] w.rule (by simp)
 have fin:(if wakeH w=0 then L71_0a 0 w.rule (w.d.map eI) (w.w.map eI) else some (.val (eI (wakeH w))))=some (.val (eI (wakeE w))):=by
  unfold wakeE;by_cases h:wakeH w=0
  ·rw[if_pos h,if_pos h,key h]
  ·rw[if_neg h,if_neg h]
 rw[<-fin,C71,C92];simp only[zf,zG,zw];simp[h193];cases hk:jD w.rule with
 | false=>simp[wakeH,hk,zL]
 | true =>
  by_cases h1:w.d=[]
  ·simp[wakeH,hk,zL,h1]
  ·by_cases h2:(32:Int)<w.d.length
   ·simp[wakeH,hk,zL,h1,h2]
   ·by_cases h3:(w.w.length:Int)=w.d.length
    ·simp[wakeH,hk,zL,h1,h2,h3]
    ·simp[wakeH,hk,zL,h1,h2,h3]
end Go.Am
namespace Go.Am
open Go.Proofs
open Go
variable[OO]
def listB(l:List Int)(e bad:Int)(want:List Int):Bool:=if e=bad then (if bad=0 then decide (l=want) else decide (l=[])) else false
theorem c56(l:List Int)(hb:l.length<=1000000):zA 56 [.sl 1 (l.map eI)]=some (.val (.sl 1 (l.map eI))):=by
 rw[C56];simp only[zG];have h1:(2 * l.length+200) * 8<=281474976710656:=by omega
 cases l with
 | nil=>simp
 | cons a l =>
  simp only[List.length_cons] at h1;simp[h1];exact List.take_of_length_le (by simp)
theorem c67(w:Wk)(h1:w.d.length<=1000000)(h2:w.w.length<=1000000):zA 67 [eWk w]=some (.val (eWk w)):=by rw[C67];simp[c56 w.d h1,c56 w.w h2]
theorem c107(c:Cu)(h1:c.p.length<=1000000):zA 107 [eCu c]=some (.val (eCu c)):=by rw[C107];simp[c56 c.p h1]
def shortS(s:Si)(n:Int):Bool :=
 if (s.name.size:Int)>60 then false else if (s.tb.length:Int)>n/\s.tb.length≠65 then false else s.tb.all λt=>decide ((t.name.size:Int)<=60)
theorem l62(s:Si)(hl:s.tb.length<=1000):∀i,i<=s.tb.length->L62_0a i s.name s.least (s.tb.map eTb)=some (.val (.bool ((s.tb.drop i).all λt=>decide ((t.name.size:Int)<=60)))):=by
 apply down
 ·rw[L62_0a_eq];simp
 ·intro i hi ih;have e1:(i:Int)<s.tb.length:=by omega
  rw[zT s.tb i hi,List.all_cons];rw[L62_0a_eq];simp only[zG];by_cases h:(s.tb[i].name.size:Int)>60
  ·have hd:decide ((s.tb[i].name.size:Int)<=60)=false:=decide_eq_false (by omega)
   rw[hd,Bool.false_and];simp[e1,zI _ s.tb i hi,h]
  ·have hd:decide ((s.tb[i].name.size:Int)<=60)=true:=decide_eq_true (by omega)
   rw[hd,Bool.true_and,<-ih];simp[e1,zI _ s.tb i hi,h,wr ((i:Int)+1) (by omega)]
theorem c62(s:Si)(n:Int)(hn:n<=100):zA 62 [eSi s,eI n]=some (.val (.bool (shortS s n))):=by
 rw[C62];simp only[zG,zf];unfold shortS;by_cases h1:(s.name.size:Int)>60
 ·simp[h1]
 ·by_cases h2:(s.tb.length:Int)>n
  ·by_cases h3:s.tb.length=65
   ·have:=l62 s (by omega) 0 (Nat.zero_le _)
    have h3':(s.tb.length:Int)=65:=by omega
    simp only[Int.natCast_zero,List.drop_zero] at this;simp[h1,h2,h3,h3'];rw[this]
   ·have h3':¬(s.tb.length:Int)=65:=by omega
    simp[h1,h2,h3,h3']
  ·have:=l62 s (by omega) 0 (Nat.zero_le _)
   simp only[Int.natCast_zero,List.drop_zero] at this;simp[h1,h2];rw[this]
def short33(n:Nat):Bool:=decide ((n:Int)<=6) || ((n:Int) == 33)
def shortW(w:Wk):Bool:=decide ((w.rule.size:Int)<=40) && short33 w.d.length && short33 w.w.length
theorem c63(w:Wk):zA 63 [eWk w]=some (.val (.bool (shortW w))):=by
 rw[C63];simp only[zG,zw];unfold shortW short33;by_cases h1:(w.rule.size:Int)<=40
 ·by_cases h2:(w.d.length:Int)<=6
  ·by_cases h3:(w.w.length:Int)<=6
   ·simp[h1,h2,h3]
   ·simp[h1,h2,h3]
  ·by_cases h4:(w.d.length:Int)=33
   ·by_cases h3:(w.w.length:Int)<=6
    ·simp[h1,h2,h3,h4]
    ·simp[h1,h2,h3,h4]
   ·simp[h1,h2,h4]
 ·simp[h1]
end Go.Am
namespace Go.Am
open Go.Proofs
open Go
variable[OO]
theorem l65_b(tbs:List Tb)(nm:ByteArray)(least:Int)(hl:tbs.length<=100000):∀i,i<=tbs.length->L65_0b (tbs.map eTb) tbs.length i nm least ((tbs.take i).map eTb)=some (.val (.agg 0 [.str nm,eI least,.sl 3 (tbs.map eTb)])):=by
 apply down
 ·rw[L65_0b_eq];simp;exact List.take_of_length_le (by simp)
 ·intro i hi ih;have e1:(i:Int)<tbs.length:=by omega
  have htk:tbs.take (i+1)=tbs.take i++[tbs[i]]:=by rw[List.take_succ_eq_append_getElem hi]
  rw[<-ih];rw[L65_0b_eq];simp only[zG];have hm:min i tbs.length=i:=by omega
  have e2:(2 * (i+1)+200) * 32<=281474976710656:=by omega
  simp[e1,zI _ tbs i hi,hm,e2,wr ((i:Int)+1) (by omega)]
  congr 1;rw[List.take_succ_eq_append_getElem (by simpa using hi)]
  simp
theorem c65(s:Si)(hl:s.tb.length<=100000):zA 65 [eSi s]=some (.val (eSi s)):=by
 rw[C65];simp;rw[L65_0a_eq];simp only[zG];by_cases h:s.tb=[]
 ·simp[h]
 ·have h0:0<s.tb.length:=List.length_pos_iff.2 h;have h1:=l65_b s.tb s.name s.least hl 1 (by omega)
  have e:s.tb.take 1=[s.tb[0]]:=by rw[List.take_succ_eq_append_getElem h0];simp
  rw[e] at h1;simp[h0,zI _ s.tb 0 h0];simpa using h1
end Go.Am
namespace Go.Am
open Go.Proofs
open Go
variable[OO]
theorem shortS_len{s:Si}{n:Int}(h:shortS s n=true):(s.tb.length:Int)<=n\/s.tb.length=65:=by
 unfold shortS at h;split at h
 ·cases h
 ·split at h
  ·cases h
  ·omega
theorem short33_le{n:Nat}(h:short33 n=true):n<=33:=by simp[short33] at h;omega
end Go.Am
namespace Go.Am
open Go.Proofs
open Go
variable[OO]
theorem l110(l:List Int)(cut:Int)(hl:l.length<=1000):∀i,i<=l.length->L110_0a i (l.map eI) cut=some (.val (eI (js cut (if i=0 then none else some (l.getD (i - 1) 0)) (l.drop i)))):=by
 apply down
 ·rw[L110_0a_eq];simp[js]
 ·intro i hi ih;have e1:(i:Int)<l.length:=by omega
  have hgi:l.getD i 0=l[i]:=by rw[List.getD_eq_getElem?_getD,List.getElem?_eq_getElem hi];rfl
  rw[if_neg (by omega:¬i+1=0),Nat.add_sub_cancel,hgi] at ih
  have ih2:L110_0a (IntKind.i64.wrap ((i:Int)+1)) (l.map eI) cut=some (.val (eI (js cut (some l[i]) (l.drop (i+1))))):=by rw[wr ((i:Int)+1) (by omega)];exact_mod_cast ih
  rw[L110_0a_eq,zT l i hi];have hn:=zI eI l i hi;have e7:(0:Int)<=(i:Int):=by omega
  simp only[zG,zw,zf];simp only[List.length_map,e1,e7,if_true,and_self,Int.toNat_natCast,hn,h3,ih2,zB,c37,zH];by_cases hz:i=0
  ·subst hz;simp only[Int.natCast_zero,gt_iff_lt,Int.lt_irrefl,if_false,if_true];rw[js];by_cases hX:zV l[0] 0 100000=0
   ·refine(if_pos hX).trans ?_;by_cases h6:l[0]=0
    ·refine(if_pos h6).trans ?_;have e:jH none l[0]=0:=by rw[h6] at hX;simp[jH,zL,hX,h6]
     rw[if_pos e]
    ·refine(if_neg h6).trans ?_;have e:jH none l[0]=6:=by simp[jH,zL,hX,h6]
     rw[e];rfl
   ·refine(if_neg hX).trans ?_;have e:jH none l[0]=zV l[0] 0 100000:=by simp[jH,zL,hX]
    rw[e,if_neg hX];rfl
  ·obtain⟨k,rfl⟩:∃k,i=k+1:=⟨i - 1,by omega⟩
   have hk:k<l.length:=by omega
   have hgk:l.getD k 0=l[k]:=by rw[List.getD_eq_getElem?_getD,List.getElem?_eq_getElem hk];rfl
   have hnk:=zI eI l k hk;have e3:IntKind.i64.wrap (((k+1:Nat):Int) - 1)=k:=by rw[wr _ (by omega)];omega
   have e5:((k+1:Nat):Int)>0:=by omega
   have e6:¬((k+1:Nat):Int)=0:=by omega
   have e8:(0:Int)<=(k:Int)/\(k:Int)<l.length:=by omega
   simp only[e3,e5,e6,e8,if_true,if_false,and_self,Int.toNat_natCast,hnk,h3,zB];rw[js];simp only[Nat.add_sub_cancel,hgk,Nat.add_eq_zero_iff,Nat.one_ne_zero,and_false,if_false];by_cases hX:zV l[k+1] 0 100000=0
   ·refine(if_pos hX).trans ?_;by_cases h6:l[k+1]<l[k]
    ·refine(if_pos h6).trans ?_;have e:jH (some l[k]) l[k+1]=11:=by simp[jH,zL,hX,h6]
     rw[e];rfl
    ·refine(if_neg h6).trans ?_;rw[if_pos (by simp[jH,zL,hX,h6])]
   ·refine(if_neg hX).trans ?_;have e:jH (some l[k]) l[k+1]=zV l[k+1] 0 100000:=by simp[jH,zL,hX]
    rw[e,if_neg hX];rfl
theorem c110(c:Cu):zA 110 [eCu c]=some (.val (eI (Jn c))):=by
 rw[C110];simp only[zG];simp only[zK,zM,h29,Bool.and_self,zB,zR,zS,zW,zQ,zF,List.length_map];unfold Jn;by_cases h1:(c.p.length:Int)<2
 ·simp[h1]
 ·by_cases h2:(c.p.length:Int)>51
  ·simp[h1,h2]
  ·rw[if_neg h1,if_neg h2,if_neg h1,if_neg h2,<-qv];have:=l110 c.p c.cut (by omega) 0 (Nat.zero_le _)
   simpa using this
theorem l129_1(r:List (List Int))(s:Nat)(hs:s<r.length)(h8:r.length=8)(hrow:r[s].length=51):∀k,k<=r[s].length->L129_1a s k (r.map eRow)=if JP (r[s].drop k)=0 then L129_0a (IntKind.i64.wrap ((s:Int)+1)) (r.map eRow) else some (.val (eI 3)):=by
 apply down
 ·rw[L129_1a_eq];simp only[zG];rw[if_neg (by omega)]
  simp[JP]
 ·intro k hk ih;have e1:(k:Int)<=50:=by omega
  have e2:(0:Int)<=(s:Int)/\(s:Int)<8:=by omega
  have e3:(0:Int)<=(k:Int)/\(k:Int)<51:=by omega
  rw[L129_1a_eq,zT r[s] k hk];simp only[zG,zf];rw[if_pos e1,if_pos e2,if_pos e3];simp only[Int.toNat_natCast,jQ _ _ _ _ hs,zB,zI _ r s hs,jQ _ _ _ _ hk,zR,zI _ r[s] k hk,h3,zF,c37,zH];rw[wr ((k:Int)+1) (by omega),show((k:Int)+1)=((k+1:Nat):Int) by omega,ih]
  rw[Yq];rcases zAU r[s][k] 0 40000 with hr | hr
  ·simp[hr]
  ·simp[hr]
theorem l129_0(r:List (List Int))(h:zm r):∀s,s<=r.length->L129_0a s (r.map eRow)=some (.val (eI (Yf (r.drop s)))):=by
 apply down
 ·rw[L129_0a_eq];have:=h.1;simp only[zG];rw[if_neg (by omega)]
  simp[Yf]
 ·intro s hs ih;have hl:=h.1;have hrow:=h.2 r[s] (List.getElem_mem hs);have e1:(s:Int)<8:=by omega
  rw[L129_0a_eq,zT r s hs];simp only[zG];rw[if_pos e1];have:=l129_1 r s hs hl hrow 0 (Nat.zero_le _);rw[show((0:Nat):Int)=0 from rfl] at this
  rw[this,wr ((s:Int)+1) (by omega),show((s:Int)+1)=((s+1:Nat):Int) by omega,ih,List.drop_zero]
  rw[Qi];split <;> simp_all
theorem c129(r:List (List Int))(h:zm r):zA 129 [eRo r]=some (.val (eI (Yf r))):=by rw[C129];simp only[zK,zM,h32,List.length_map,h.1,decide_true,Bool.and_self,zB,zR];have:=l129_0 r h 0 (Nat.zero_le _);simpa using this
theorem hFm'(f:Fm)(h:zm f.r):hasT EE 6 34 (eFm f)=true:=by rw[h34];simp[h.1]
theorem c22(f:Fm)(h:zm f.r):zA 22 [eFm f]=some (.val (eI (jM f))):=by rw[C22];simp only[zK,zM,hFm' f h,Bool.and_self,zB,zR,zS,zW,zb,ze,zX,zF,zQ];simp only[c69,c71,c110,c129 f.r h,zH,h3,zB,zF,c35_4];rfl
end Go.Am
namespace Go.Am
open Go.Proofs
open Go
theorem d5{n:Nat}{x:DV}(h:DT EE (n+1) 5 x):∃a:Nat,x=.int .u8 a/\a<=255:=by
 obtain⟨m,h1,h2,h3⟩:=(show DT EE (n+1) 5 x=(∃m:Int,x=DV.int .u8 m/\IntKind.u8.min<=m/\m<=IntKind.u8.max) by kernel_rfl) ▸ h
 have h2:(0:Int)<=m:=h2;have h3:m<=(255:Int):=h3;exact⟨m.toNat,by rw[h1,Int.toNat_of_nonneg h2],by omega⟩
end Go.Am
namespace Go.Am
open Go.Proofs
open Go
variable[OO]
def blowRow(n:Int):List Int->Int
 | []=>n
 | q :: r=>blowRow (if q>0 then n+1 else n) r
def blowR(n:Int):List (List Int)->Int
 | []=>n
 | row :: r=>blowR (blowRow n row) r
theorem blowRow_bnd:∀(l:List Int) (n:Int),n<=blowRow n l/\blowRow n l<=n+l.length
 | [],n=>by simp[blowRow]
 | q :: l,n=>by
  have:=blowRow_bnd l (if q>0 then n+1 else n)
  simp only[blowRow,List.length_cons];by_cases h:q>0
  ·simp only[h,if_true] at this ⊢;omega
  ·simp only[h,if_false] at this ⊢;omega
theorem l128_1(r:List (List Int))(s:Nat)(hs:s<r.length)(h8:r.length=8)(hrow:r[s].length=51):∀k,k<=r[s].length->∀n:Int,0<=n->n<=s * 51+k->L128_1a n s k (r.map eRow)=L128_0a (blowRow n (r[s].drop k)) (IntKind.i64.wrap ((s:Int)+1)) (r.map eRow):=by
 refine down (P:=λk=>∀n:Int,0<=n->n<=s * 51+k->L128_1a n s k (r.map eRow)=L128_0a (blowRow n (r[s].drop k)) (IntKind.i64.wrap ((s:Int)+1)) (r.map eRow)) r[s].length ?_ ?_
 ·intro n h0 hn;rw[L128_1a_eq];simp only[zG];rw[if_neg (by omega)]
  simp[blowRow]
 ·intro k hk ih n h0 hn;have e1:(k:Int)<=50:=by omega
  have e2:(0:Int)<=(s:Int)/\(s:Int)<8:=by omega
  have e3:(0:Int)<=(k:Int)/\(k:Int)<51:=by omega
  rw[L128_1a_eq,zT r[s] k hk];simp only[zG];rw[if_pos e1,if_pos e2,if_pos e3];simp only[Int.toNat_natCast,jQ _ _ _ _ hs,zB,zI _ r s hs,jQ _ _ _ _ hk,zR,zI _ r[s] k hk,h3,zF];rw[wr ((k:Int)+1) (by omega),wr (n+1) (by omega),show((k:Int)+1)=((k+1:Nat):Int) by omega]
  by_cases hq:r[s][k]>0
  ·rw[if_pos hq,ih (n+1) (by omega) (by omega)]
   simp only[blowRow,if_pos hq]
  ·rw[if_neg hq,ih n h0 (by omega)]
   simp only[blowRow,if_neg hq]
theorem l128_0(r:List (List Int))(h:zm r):∀s,s<=r.length->∀n:Int,0<=n->n<=s * 51->L128_0a n s (r.map eRow)=some (.val (eI (blowR n (r.drop s)))):=by
 have hl:=h.1;refine down (P:=λs=>∀n:Int,0<=n->n<=s * 51->L128_0a n s (r.map eRow)=some (.val (eI (blowR n (r.drop s))))) r.length ?_ ?_
 ·intro n h0 hn;rw[L128_0a_eq];simp only[zG];rw[if_neg (by omega)]
  simp[blowR]
 ·intro s hs ih n h0 hn;have hrow:=h.2 r[s] (List.getElem_mem hs);have e1:(s:Int)<8:=by omega
  have hb:=blowRow_bnd r[s] n;rw[L128_0a_eq,zT r s hs];simp only[zG];rw[if_pos e1];have:=l128_1 r s hs hl hrow 0 (Nat.zero_le _) n h0 (by omega)
  rw[show((0:Nat):Int)=0 from rfl] at this
  rw[this,wr ((s:Int)+1) (by omega),show((s:Int)+1)=((s+1:Nat):Int) by omega,List.drop_zero,ih _ (by omega) (by omega)]
  rfl
theorem c128(r:List (List Int))(h:zm r):zA 128 [eRo r]=some (.val (eI (blowR 0 r))):=by
 rw[C128];simp only[zK,zM,h32,List.length_map,h.1,decide_true,Bool.and_self,zB,zR];have:=l128_0 r h 0 (Nat.zero_le _) 0 (by omega) (by omega)
 simpa using this
theorem c105(c:Cu):zA 105 [eCu c]=some (.val (.bool (decide ((c.p.length:Int)<=52)))):=by rw[C105];simp
def shortF(f:Fm)(n:Int):Bool:=if shortS f.s n then (if shortW f.w then (if (f.c.p.length:Int)<=52 then decide (blowR 0 f.r<=6) else false) else false) else false
theorem c21(f:Fm)(h:zm f.r)(n:Int)(hn:n<=100):zA 21 [eFm f,eI n]=some (.val (.bool (shortF f n))):=by
 rw[C21];simp only[zK,zM,hFm' f h,h3,Bool.and_self,zB,zR,zS,zW,zb,ze,zX,zF,zQ,c62 f.s n hn];unfold shortF;cases hS:shortS f.s n with
 | false=>simp
 | true =>
  simp only[zH,h4,zB,zi,c63 f.w];cases hW:shortW f.w with
  | false=>simp
  | true =>
   simp only[zH,h4,zB,zi,c105 f.c];by_cases hc:(f.c.p.length:Int)<=52
   ·simp[hc,c128 f.r h];exact decide_eq_decide.2 Iff.rfl
   ·simp[hc]
theorem shortF_len{f:Fm}{n:Int}(h:shortF f n=true):((f.s.tb.length:Int)<=n\/f.s.tb.length=65)/\f.w.d.length<=33/\f.w.w.length<=33/\f.c.p.length<=52:=by
 unfold shortF at h;split at h
 ·rename_i h1;split at h
  ·rename_i h2;split at h
   ·rename_i h3;simp only[shortW,Bool.and_eq_true] at h2;exact⟨shortS_len h1,short33_le h2.1.2,short33_le h2.2,by omega⟩
   ·cases h
  ·cases h
 ·cases h
theorem c34(f:Fm)(h:zm f.r)(h1:f.s.tb.length<=100000)(h2:f.w.d.length<=100000)(h3':f.w.w.length<=100000)(h4':f.c.p.length<=100000):zA 34 [eFm f]=some (.val (eFm f)):=by rw[C34];simp only[zK,zM,hFm' f h,Bool.and_self,zB,zR,zS,zW,zb,ze,zX,zF,zQ,c65 f.s h1,c67 f.w (by omega) (by omega),c107 f.c (by omega),zH,h58,h59,h60]
theorem farm_ok{f:Fm}(h:jM f=0)(hr:zm f.r):okFm f:=(JG h hr).1
end Go.Am
namespace Go.Am
open Go.Proofs
open Go
variable[OO]
theorem C94(x0 x1:DV):zA 94 [x0,x1] =
 ifO (zP (hasT EE 6) [62,176] [x0,x1])
 (zC (zA 40 [(.agg 4 [(.agg 0 [(.str (getS (nth (flds (nth (flds x0) 0)) 0))),(eI (getI (nth (flds (nth (flds x0) 0)) 1))),(.sl 3 (elems (nth (flds (nth (flds x0) 0)) 2)))]),(.agg 0 [(.str (getS (nth (flds (nth (flds x0) 1)) 0))),(.sl 1 (elems (nth (flds (nth (flds x0) 1)) 1))),(.sl 1 (elems (nth (flds (nth (flds x0) 1)) 2)))]),(.agg 1 [(.sl 1 (elems (nth (flds (nth (flds x0) 2)) 0))),(eI (getI (nth (flds (nth (flds x0) 2)) 1)))]),(.agg 3 (flds (nth (flds x0) 3)))])])
 (λr0=>ifO (hasT EE 6 46 r0)
 (ifO (bne (getI r0) 0)
 (some (.val (.tup [(eI 0),(eI (getI r0))])))
 (zC (zA 203 [(.agg 0 [(.str (getS (nth (flds (nth (flds x0) 0)) 0))),(eI (getI (nth (flds (nth (flds x0) 0)) 1))),(.sl 3 (elems (nth (flds (nth (flds x0) 0)) 2)))]),(.agg 9 [(.str (getS (nth (flds x1) 0))),(.agg 1 [(eI (getI (nth (flds (nth (flds x1) 1)) 0))),(eI (getI (nth (flds (nth (flds x1) 1)) 1)))])])])
 (λr1=>ifO (hasT EE 6 58 r1)
 (zC (zA 158 [(.agg 0 [(.str (getS (nth (flds r1) 0))),(eI (getI (nth (flds r1) 1))),(.sl 3 (elems (nth (flds r1) 2)))])])
 (λr2=>ifO (hasT EE 6 46 r2)
 (ifO (bne (getI r2) 0)
 (some (.val (.tup [(eI 0),(eI (getI r2))])))
 (zC (zA 204 [(.agg 4 [(.agg 0 [(.str (getS (nth (flds (nth (flds x0) 0)) 0))),(eI (getI (nth (flds (nth (flds x0) 0)) 1))),(.sl 3 (elems (nth (flds (nth (flds x0) 0)) 2)))]),(.agg 0 [(.str (getS (nth (flds (nth (flds x0) 1)) 0))),(.sl 1 (elems (nth (flds (nth (flds x0) 1)) 1))),(.sl 1 (elems (nth (flds (nth (flds x0) 1)) 2)))]),(.agg 1 [(.sl 1 (elems (nth (flds (nth (flds x0) 2)) 0))),(eI (getI (nth (flds (nth (flds x0) 2)) 1)))]),(.agg 3 (flds (nth (flds x0) 3)))]),(.agg 0 [(.str (getS (nth (flds r1) 0))),(eI (getI (nth (flds r1) 1))),(.sl 3 (elems (nth (flds r1) 2)))])])
 (λr3=>ifO (hasT EE 6 3 r3)
 (some (.val (.tup [(eI (getI r3)),(eI 0)])))
 (none))
 (λ_ _=>none)))
 (none))
 (λ_ _=>none))
 (none))
 (λ_ _=>none)))
 (none))
 (λ_ _=>none))
 (none) :=
 (zE (f:=94) (by kernel_rfl) (by kernel_rfl) (by kernel_rfl) [x0,x1]).trans (by kernel_rfl)
theorem C95(x0 x1 x2:DV):zA 95 [x0,x1,x2] =
 ifO (zP (hasT EE 6) [62,3,141] [x0,x1,x2])
 (zC (zA 40 [(.agg 4 [(.agg 0 [(.str (getS (nth (flds (nth (flds x0) 0)) 0))),(eI (getI (nth (flds (nth (flds x0) 0)) 1))),(.sl 3 (elems (nth (flds (nth (flds x0) 0)) 2)))]),(.agg 0 [(.str (getS (nth (flds (nth (flds x0) 1)) 0))),(.sl 1 (elems (nth (flds (nth (flds x0) 1)) 1))),(.sl 1 (elems (nth (flds (nth (flds x0) 1)) 2)))]),(.agg 1 [(.sl 1 (elems (nth (flds (nth (flds x0) 2)) 0))),(eI (getI (nth (flds (nth (flds x0) 2)) 1)))]),(.agg 3 (flds (nth (flds x0) 3)))])])
 (λr0=>ifO (hasT EE 6 46 r0)
 (ifO (decide ((getI x1)<(0:Int)))
 (zC (zA 169 [(.bool true),(eI 10)])
 (λr1=>ifO (hasT EE 6 46 r1)
 (zC (zA 148 [(.sl 1 [(eI (getI r0)),(eI (getI r1))])])
 (λr2=>ifO (hasT EE 6 46 r2)
 (ifO (bne (getI r2) 0)
 (some (.val (.tup [(eI 0),(eI (getI r2))])))
 (zC (zA 205 [(.agg 0 [(.str (getS (nth (flds (nth (flds x0) 0)) 0))),(eI (getI (nth (flds (nth (flds x0) 0)) 1))),(.sl 3 (elems (nth (flds (nth (flds x0) 0)) 2)))]),(eI (getI x1)),(.agg 1 [(eI (getI (nth (flds x2) 0))),(eI (getI (nth (flds x2) 1)))])])
 (λr3=>ifO (hasT EE 6 58 r3)
 (zC (zA 158 [(.agg 0 [(.str (getS (nth (flds r3) 0))),(eI (getI (nth (flds r3) 1))),(.sl 3 (elems (nth (flds r3) 2)))])])
 (λr4=>ifO (hasT EE 6 46 r4)
 (ifO (bne (getI r4) 0)
 (some (.val (.tup [(eI 0),(eI (getI r4))])))
 (zC (zA 204 [(.agg 4 [(.agg 0 [(.str (getS (nth (flds (nth (flds x0) 0)) 0))),(eI (getI (nth (flds (nth (flds x0) 0)) 1))),(.sl 3 (elems (nth (flds (nth (flds x0) 0)) 2)))]),(.agg 0 [(.str (getS (nth (flds (nth (flds x0) 1)) 0))),(.sl 1 (elems (nth (flds (nth (flds x0) 1)) 1))),(.sl 1 (elems (nth (flds (nth (flds x0) 1)) 2)))]),(.agg 1 [(.sl 1 (elems (nth (flds (nth (flds x0) 2)) 0))),(eI (getI (nth (flds (nth (flds x0) 2)) 1)))]),(.agg 3 (flds (nth (flds x0) 3)))]),(.agg 0 [(.str (getS (nth (flds r3) 0))),(eI (getI (nth (flds r3) 1))),(.sl 3 (elems (nth (flds r3) 2)))])])
 (λr5=>ifO (hasT EE 6 3 r5)
 (some (.val (.tup [(eI (getI r5)),(eI 0)])))
 (none))
 (λ_ _=>none)))
 (none))
 (λ_ _=>none))
 (none))
 (λ_ _=>none)))
 (none))
 (λ_ _=>none))
 (none))
 (λ_ _=>none))
 (zC (zA 169 [(.bool (decide ((getI x1)>=(((List.length (elems (nth (flds (nth (flds x0) 0)) 2))):Nat):Int)))),(eI 10)])
 (λr16=>ifO (hasT EE 6 46 r16)
 (zC (zA 148 [(.sl 1 [(eI (getI r0)),(eI (getI r16))])])
 (λr17=>ifO (hasT EE 6 46 r17)
 (ifO (bne (getI r17) 0)
 (some (.val (.tup [(eI 0),(eI (getI r17))])))
 (zC (zA 205 [(.agg 0 [(.str (getS (nth (flds (nth (flds x0) 0)) 0))),(eI (getI (nth (flds (nth (flds x0) 0)) 1))),(.sl 3 (elems (nth (flds (nth (flds x0) 0)) 2)))]),(eI (getI x1)),(.agg 1 [(eI (getI (nth (flds x2) 0))),(eI (getI (nth (flds x2) 1)))])])
 (λr18=>ifO (hasT EE 6 58 r18)
 (zC (zA 158 [(.agg 0 [(.str (getS (nth (flds r18) 0))),(eI (getI (nth (flds r18) 1))),(.sl 3 (elems (nth (flds r18) 2)))])])
 (λr19=>ifO (hasT EE 6 46 r19)
 (ifO (bne (getI r19) 0)
 (some (.val (.tup [(eI 0),(eI (getI r19))])))
 (zC (zA 204 [(.agg 4 [(.agg 0 [(.str (getS (nth (flds (nth (flds x0) 0)) 0))),(eI (getI (nth (flds (nth (flds x0) 0)) 1))),(.sl 3 (elems (nth (flds (nth (flds x0) 0)) 2)))]),(.agg 0 [(.str (getS (nth (flds (nth (flds x0) 1)) 0))),(.sl 1 (elems (nth (flds (nth (flds x0) 1)) 1))),(.sl 1 (elems (nth (flds (nth (flds x0) 1)) 2)))]),(.agg 1 [(.sl 1 (elems (nth (flds (nth (flds x0) 2)) 0))),(eI (getI (nth (flds (nth (flds x0) 2)) 1)))]),(.agg 3 (flds (nth (flds x0) 3)))]),(.agg 0 [(.str (getS (nth (flds r18) 0))),(eI (getI (nth (flds r18) 1))),(.sl 3 (elems (nth (flds r18) 2)))])])
 (λr20=>ifO (hasT EE 6 3 r20)
 (some (.val (.tup [(eI (getI r20)),(eI 0)])))
 (none))
 (λ_ _=>none)))
 (none))
 (λ_ _=>none))
 (none))
 (λ_ _=>none)))
 (none))
 (λ_ _=>none))
 (none))
 (λ_ _=>none)))
 (none))
 (λ_ _=>none))
 (none) :=
 (zE (f:=95) (by kernel_rfl) (by kernel_rfl) (by kernel_rfl) [x0,x1,x2]).trans (by kernel_rfl)
theorem C96(x0 x1:DV):zA 96 [x0,x1] =
 ifO (zP (hasT EE 6) [24,143] [x0,x1])
 (ifO (decide ((((2 * (0+(List.length (elems (nth (flds x0) 2)))))+200) * 32)<=281474976710656))
 (ifO (List.isEmpty (elems (nth (flds x0) 2)))
 (some (.val (.agg 0 [(.str (getS (nth (flds x0) 0))),(eI (getI (nth (flds x0) 1))),(.sl 3 [(.agg 9 [(.str (getS (nth (flds x1) 0))),(.agg 1 [(eI (getI (nth (flds (nth (flds x1) 1)) 0))),(eI (getI (nth (flds (nth (flds x1) 1)) 1)))])])])])))
 (ifO (decide ((List.length ([]++(elems (nth (flds x0) 2))))=(List.length ([]++(elems (nth (flds x0) 2))))))
 (ifO (decide ((((2 * ((List.length ([]++(elems (nth (flds x0) 2))))+1))+200) * 32)<=281474976710656))
 (ifO (decide ((0+(List.length (([]++(elems (nth (flds x0) 2)))++[(.agg 9 [(.str (getS (nth (flds x1) 0))),(.agg 1 [(eI (getI (nth (flds (nth (flds x1) 1)) 0))),(eI (getI (nth (flds (nth (flds x1) 1)) 1)))])])])))<=(List.length (([]++(elems (nth (flds x0) 2)))++[(.agg 9 [(.str (getS (nth (flds x1) 0))),(.agg 1 [(eI (getI (nth (flds (nth (flds x1) 1)) 0))),(eI (getI (nth (flds (nth (flds x1) 1)) 1)))])])]))))
 (some (.val (.agg 0 [(.str (getS (nth (flds x0) 0))),(eI (getI (nth (flds x0) 1))),(.sl 3 (List.take (List.length (([]++(elems (nth (flds x0) 2)))++[(.agg 9 [(.str (getS (nth (flds x1) 0))),(.agg 1 [(eI (getI (nth (flds (nth (flds x1) 1)) 0))),(eI (getI (nth (flds (nth (flds x1) 1)) 1)))])])])) (List.drop 0 (([]++(elems (nth (flds x0) 2)))++[(.agg 9 [(.str (getS (nth (flds x1) 0))),(.agg 1 [(eI (getI (nth (flds (nth (flds x1) 1)) 0))),(eI (getI (nth (flds (nth (flds x1) 1)) 1)))])])]))))])))
 (none))
 (none))
 (none)))
 (none))
 (none) :=
 (zE (f:=96) (by kernel_rfl) (by kernel_rfl) (by kernel_rfl) [x0,x1]).trans (by kernel_rfl)
theorem C98(x0 x1 x2:DV):zA 98 [x0,x1,x2] =
 ifO (zP (hasT EE 6) [24,3,141] [x0,x1,x2])
 (ifO (decide ((((2 * (0+(List.length (elems (nth (flds x0) 2)))))+200) * 32)<=281474976710656))
 (ifO (List.isEmpty (elems (nth (flds x0) 2)))
 (none)
 (ifO (decide (((0:Int)<=(getI x1))/\((getI x1)<(((List.length ([]++(elems (nth (flds x0) 2)))):Nat):Int))))
 (ifO (decide ((0+(Int.toNat (getI x1)))<(List.length ([]++(elems (nth (flds x0) 2))))))
 (ifO (isAg 9 1 (nth ([]++(elems (nth (flds x0) 2))) (0+(Int.toNat (getI x1)))))
 (ifO (decide ((0+(List.length ([]++(elems (nth (flds x0) 2)))))<=(List.length (List.set ([]++(elems (nth (flds x0) 2))) (0+(Int.toNat (getI x1))) (.agg 9 (List.set (flds (nth ([]++(elems (nth (flds x0) 2))) (0+(Int.toNat (getI x1))))) 1 (.agg 1 [(eI (getI (nth (flds x2) 0))),(eI (getI (nth (flds x2) 1)))])))))))
 (some (.val (.agg 0 [(.str (getS (nth (flds x0) 0))),(eI (getI (nth (flds x0) 1))),(.sl 3 (List.take (List.length ([]++(elems (nth (flds x0) 2)))) (List.drop 0 (List.set ([]++(elems (nth (flds x0) 2))) (0+(Int.toNat (getI x1))) (.agg 9 (List.set (flds (nth ([]++(elems (nth (flds x0) 2))) (0+(Int.toNat (getI x1))))) 1 (.agg 1 [(eI (getI (nth (flds x2) 0))),(eI (getI (nth (flds x2) 1)))])))))))])))
 (none))
 (none))
 (none))
 (none)))
 (none))
 (none) :=
 (zE (f:=98) (by kernel_rfl) (by kernel_rfl) (by kernel_rfl) [x0,x1,x2]).trans (by kernel_rfl)
theorem C203(x0 x1:DV):zA 203 [x0,x1] =
 ifO (zP (hasT EE 6) [58,176] [x0,x1])
 (zC (zA 267 [(.sl 3 (elems (nth (flds x0) 2)))])
 (λr0=>ifO (isNl r0)
 (some (.val (.agg 0 [(.str (getS (nth (flds x0) 0))),(eI (getI (nth (flds x0) 1))),(.sl 3 [(.agg 9 [(.str (getS (nth (flds x1) 0))),(.agg 1 [(eI (getI (nth (flds (nth (flds x1) 1)) 0))),(eI (getI (nth (flds (nth (flds x1) 1)) 1)))])])])])))
 (none))
 (λs1 l2=>ifO (s1 == 3)
 (ifO (decide ((List.length l2)=(List.length l2)))
 (ifO (decide ((((2 * ((List.length l2)+1))+200) * 32)<=281474976710656))
 (ifO (decide ((0+(List.length (l2++[(.agg 9 [(.str (getS (nth (flds x1) 0))),(.agg 1 [(eI (getI (nth (flds (nth (flds x1) 1)) 0))),(eI (getI (nth (flds (nth (flds x1) 1)) 1)))])])])))<=(List.length (l2++[(.agg 9 [(.str (getS (nth (flds x1) 0))),(.agg 1 [(eI (getI (nth (flds (nth (flds x1) 1)) 0))),(eI (getI (nth (flds (nth (flds x1) 1)) 1)))])])]))))
 (some (.val (.agg 0 [(.str (getS (nth (flds x0) 0))),(eI (getI (nth (flds x0) 1))),(.sl 3 (List.take (List.length (l2++[(.agg 9 [(.str (getS (nth (flds x1) 0))),(.agg 1 [(eI (getI (nth (flds (nth (flds x1) 1)) 0))),(eI (getI (nth (flds (nth (flds x1) 1)) 1)))])])])) (List.drop 0 (l2++[(.agg 9 [(.str (getS (nth (flds x1) 0))),(.agg 1 [(eI (getI (nth (flds (nth (flds x1) 1)) 0))),(eI (getI (nth (flds (nth (flds x1) 1)) 1)))])])]))))])))
 (none))
 (none))
 (none))
 (none)))
 (none) :=
 (zE (f:=203) (by kernel_rfl) (by kernel_rfl) (by kernel_rfl) [x0,x1]).trans (by kernel_rfl)
theorem C204(x0 x1:DV):zA 204 [x0,x1] =
 ifO (zP (hasT EE 6) [62,58] [x0,x1])
 (zC (zA 144 [(.agg 4 [(.agg 0 [(.str (getS (nth (flds (nth (flds x0) 0)) 0))),(eI (getI (nth (flds (nth (flds x0) 0)) 1))),(.sl 3 (elems (nth (flds (nth (flds x0) 0)) 2)))]),(.agg 0 [(.str (getS (nth (flds (nth (flds x0) 1)) 0))),(.sl 1 (elems (nth (flds (nth (flds x0) 1)) 1))),(.sl 1 (elems (nth (flds (nth (flds x0) 1)) 2)))]),(.agg 1 [(.sl 1 (elems (nth (flds (nth (flds x0) 2)) 0))),(eI (getI (nth (flds (nth (flds x0) 2)) 1)))]),(.agg 3 (flds (nth (flds x0) 3)))])])
 (λr0=>ifO (hasT EE 6 246 r0)
 (zC (zA 146 [(.agg 0 [(.str (getS (nth (flds x1) 0))),(eI (getI (nth (flds x1) 1))),(.sl 3 (elems (nth (flds x1) 2)))])])
 (λr1=>ifO (hasT EE 6 81 r1)
 (zC (zA 145 [(.agg 13 [(.agg 0 [(.str (getS (nth (flds (nth (flds r0) 0)) 0))),(.sl 1 (elems (nth (flds (nth (flds r0) 0)) 1))),(.sl 1 (elems (nth (flds (nth (flds r0) 0)) 2)))]),(.agg 1 [(.sl 1 (elems (nth (flds (nth (flds r0) 1)) 0))),(eI (getI (nth (flds (nth (flds r0) 1)) 1)))]),(.agg 3 (flds (nth (flds r0) 2)))]),(.sl 2 (elems r1)),(eI 0)])
 (λr2=>ifO (hasT EE 6 3 r2)
 (zC (zA 146 [(.agg 0 [(.str (getS (nth (flds (nth (flds x0) 0)) 0))),(eI (getI (nth (flds (nth (flds x0) 0)) 1))),(.sl 3 (elems (nth (flds (nth (flds x0) 0)) 2)))])])
 (λr3=>ifO (hasT EE 6 81 r3)
 (zC (zA 145 [(.agg 13 [(.agg 0 [(.str (getS (nth (flds (nth (flds r0) 0)) 0))),(.sl 1 (elems (nth (flds (nth (flds r0) 0)) 1))),(.sl 1 (elems (nth (flds (nth (flds r0) 0)) 2)))]),(.agg 1 [(.sl 1 (elems (nth (flds (nth (flds r0) 1)) 0))),(eI (getI (nth (flds (nth (flds r0) 1)) 1)))]),(.agg 3 (flds (nth (flds r0) 2)))]),(.sl 2 (elems r3)),(eI 0)])
 (λr4=>ifO (hasT EE 6 3 r4)
 (some (.val (eI (IntKind.wrap .i64 ((getI r2) - (getI r4))))))
 (none))
 (λ_ _=>none))
 (none))
 (λ_ _=>none))
 (none))
 (λ_ _=>none))
 (none))
 (λ_ _=>none))
 (none))
 (λ_ _=>none))
 (none) :=
 (zE (f:=204) (by kernel_rfl) (by kernel_rfl) (by kernel_rfl) [x0,x1]).trans (by kernel_rfl)
theorem C205(x0 x1 x2:DV):zA 205 [x0,x1,x2] =
 ifO (zP (hasT EE 6) [58,3,141] [x0,x1,x2])
 (ifO (decide (((0:Int)<=(((List.length (elems (nth (flds x0) 2))):Nat):Int))/\(((((List.length (elems (nth (flds x0) 2))):Nat):Int)=(((List.length (elems (nth (flds x0) 2))):Nat):Int))/\((((32:Int) * (((List.length (elems (nth (flds x0) 2))):Nat):Int))<=(281474976710656:Int))/\((((List.length (elems (nth (flds x0) 2))):Nat):Int)<=(9223372036854775807:Int))))))
 (ifO (decide ((0+(List.length (α:=DV) (List.replicate (Int.toNat (((List.length (elems (nth (flds x0) 2))):Nat):Int)) (.agg 9 [(.str (bs [])),(.agg 1 [(eI 0),(eI 0)])]))))<=(List.length (α:=DV) (List.replicate (Int.toNat (((List.length (elems (nth (flds x0) 2))):Nat):Int)) (.agg 9 [(.str (bs [])),(.agg 1 [(eI 0),(eI 0)])])))))
 (ifO (decide (((0:Int)<=(getI x1))/\((getI x1)<(((List.length (α:=DV) (List.replicate (Int.toNat (((List.length (elems (nth (flds x0) 2))):Nat):Int)) (.agg 9 [(.str (bs [])),(.agg 1 [(eI 0),(eI 0)])]))):Nat):Int))))
 (ifO (decide ((0+(Int.toNat (getI x1)))<(List.length (([]++(List.take (Min.min (List.length (elems (nth (flds x0) 2))) (List.length (α:=DV) (List.replicate (Int.toNat (((List.length (elems (nth (flds x0) 2))):Nat):Int)) (.agg 9 [(.str (bs [])),(.agg 1 [(eI 0),(eI 0)])])))) (elems (nth (flds x0) 2))))++(List.drop (0+(Min.min (List.length (elems (nth (flds x0) 2))) (List.length (α:=DV) (List.replicate (Int.toNat (((List.length (elems (nth (flds x0) 2))):Nat):Int)) (.agg 9 [(.str (bs [])),(.agg 1 [(eI 0),(eI 0)])]))))) (List.replicate (Int.toNat (((List.length (elems (nth (flds x0) 2))):Nat):Int)) (.agg 9 [(.str (bs [])),(.agg 1 [(eI 0),(eI 0)])])))))))
 (ifO (isAg 9 1 (nth (([]++(List.take (Min.min (List.length (elems (nth (flds x0) 2))) (List.length (α:=DV) (List.replicate (Int.toNat (((List.length (elems (nth (flds x0) 2))):Nat):Int)) (.agg 9 [(.str (bs [])),(.agg 1 [(eI 0),(eI 0)])])))) (elems (nth (flds x0) 2))))++(List.drop (0+(Min.min (List.length (elems (nth (flds x0) 2))) (List.length (α:=DV) (List.replicate (Int.toNat (((List.length (elems (nth (flds x0) 2))):Nat):Int)) (.agg 9 [(.str (bs [])),(.agg 1 [(eI 0),(eI 0)])]))))) (List.replicate (Int.toNat (((List.length (elems (nth (flds x0) 2))):Nat):Int)) (.agg 9 [(.str (bs [])),(.agg 1 [(eI 0),(eI 0)])])))) (0+(Int.toNat (getI x1)))))
 (ifO (decide ((0+(List.length (α:=DV) (List.replicate (Int.toNat (((List.length (elems (nth (flds x0) 2))):Nat):Int)) (.agg 9 [(.str (bs [])),(.agg 1 [(eI 0),(eI 0)])]))))<=(List.length (List.set (([]++(List.take (Min.min (List.length (elems (nth (flds x0) 2))) (List.length (α:=DV) (List.replicate (Int.toNat (((List.length (elems (nth (flds x0) 2))):Nat):Int)) (.agg 9 [(.str (bs [])),(.agg 1 [(eI 0),(eI 0)])])))) (elems (nth (flds x0) 2))))++(List.drop (0+(Min.min (List.length (elems (nth (flds x0) 2))) (List.length (α:=DV) (List.replicate (Int.toNat (((List.length (elems (nth (flds x0) 2))):Nat):Int)) (.agg 9 [(.str (bs [])),(.agg 1 [(eI 0),(eI 0)])]))))) (List.replicate (Int.toNat (((List.length (elems (nth (flds x0) 2))):Nat):Int)) (.agg 9 [(.str (bs [])),(.agg 1 [(eI 0),(eI 0)])])))) (0+(Int.toNat (getI x1))) (.agg 9 (List.set (flds (nth (([]++(List.take (Min.min (List.length (elems (nth (flds x0) 2))) (List.length (α:=DV) (List.replicate (Int.toNat (((List.length (elems (nth (flds x0) 2))):Nat):Int)) (.agg 9 [(.str (bs [])),(.agg 1 [(eI 0),(eI 0)])])))) (elems (nth (flds x0) 2))))++(List.drop (0+(Min.min (List.length (elems (nth (flds x0) 2))) (List.length (α:=DV) (List.replicate (Int.toNat (((List.length (elems (nth (flds x0) 2))):Nat):Int)) (.agg 9 [(.str (bs [])),(.agg 1 [(eI 0),(eI 0)])]))))) (List.replicate (Int.toNat (((List.length (elems (nth (flds x0) 2))):Nat):Int)) (.agg 9 [(.str (bs [])),(.agg 1 [(eI 0),(eI 0)])])))) (0+(Int.toNat (getI x1))))) 1 (.agg 1 [(eI (getI (nth (flds x2) 0))),(eI (getI (nth (flds x2) 1)))])))))))
 (some (.val (.agg 0 [(.str (getS (nth (flds x0) 0))),(eI (getI (nth (flds x0) 1))),(.sl 3 (List.take (List.length (α:=DV) (List.replicate (Int.toNat (((List.length (elems (nth (flds x0) 2))):Nat):Int)) (.agg 9 [(.str (bs [])),(.agg 1 [(eI 0),(eI 0)])]))) (List.drop 0 (List.set (([]++(List.take (Min.min (List.length (elems (nth (flds x0) 2))) (List.length (α:=DV) (List.replicate (Int.toNat (((List.length (elems (nth (flds x0) 2))):Nat):Int)) (.agg 9 [(.str (bs [])),(.agg 1 [(eI 0),(eI 0)])])))) (elems (nth (flds x0) 2))))++(List.drop (0+(Min.min (List.length (elems (nth (flds x0) 2))) (List.length (α:=DV) (List.replicate (Int.toNat (((List.length (elems (nth (flds x0) 2))):Nat):Int)) (.agg 9 [(.str (bs [])),(.agg 1 [(eI 0),(eI 0)])]))))) (List.replicate (Int.toNat (((List.length (elems (nth (flds x0) 2))):Nat):Int)) (.agg 9 [(.str (bs [])),(.agg 1 [(eI 0),(eI 0)])])))) (0+(Int.toNat (getI x1))) (.agg 9 (List.set (flds (nth (([]++(List.take (Min.min (List.length (elems (nth (flds x0) 2))) (List.length (α:=DV) (List.replicate (Int.toNat (((List.length (elems (nth (flds x0) 2))):Nat):Int)) (.agg 9 [(.str (bs [])),(.agg 1 [(eI 0),(eI 0)])])))) (elems (nth (flds x0) 2))))++(List.drop (0+(Min.min (List.length (elems (nth (flds x0) 2))) (List.length (α:=DV) (List.replicate (Int.toNat (((List.length (elems (nth (flds x0) 2))):Nat):Int)) (.agg 9 [(.str (bs [])),(.agg 1 [(eI 0),(eI 0)])]))))) (List.replicate (Int.toNat (((List.length (elems (nth (flds x0) 2))):Nat):Int)) (.agg 9 [(.str (bs [])),(.agg 1 [(eI 0),(eI 0)])])))) (0+(Int.toNat (getI x1))))) 1 (.agg 1 [(eI (getI (nth (flds x2) 0))),(eI (getI (nth (flds x2) 1)))])))))))])))
 (none))
 (none))
 (none))
 (none))
 (none))
 (none))
 (none) :=
 (zE (f:=205) (by kernel_rfl) (by kernel_rfl) (by kernel_rfl) [x0,x1,x2]).trans (by kernel_rfl)
end Go.Am
namespace Go.Am
open Go.Proofs
open Go Go.RowKit Go.Proofs
def clone3_ren:Go.Shelf.Ren:=⟨λ| 41=>267 | n=>n,λ| 22=>56 | 23=>176 | 4=>4 | n=>n,λ| n=>n⟩
theorem zAS:Go.Proofs.SlLaysE0.n41 Tryz.prog clone3_ren:={
 mixed:=by kernel_rfl
 f41:=⟨Tryz.f267.name,by decide,Tryz.func267.trans (congrArg some (by kernel_rfl))⟩
 t4:=Tryz.underlying4
 a4:=Tryz.isAgg4
 z4:=Tryz.sizeOf4
 v4:=Tryz.zeroValue4
 t22:=Tryz.underlying56
 a22:=Tryz.isAgg56
 z22:=Tryz.sizeOf56
 v22:=Tryz.zeroValue56 }
section
open Go.Shelf
variable{P:Program}{ρ:Ren}
set_option maxHeartbeats 2000000 in
set_option maxRecDepth 100000 in
theorem clone_zeroE(L:SlLaysE0.n41 P ρ)(i0:TypeInfo)(z:Value)(hi:P.info? (ρ.t 23)=some i0)(hz0:i0.zero=some z)(size:Nat)(z23:∀w,(Go.sizeOf (ρ.t 23)).run P w=.ok size w)(a:Addr)(c:Nat)(w:World) :
  Calls P (ρ.f 41) #[.slice (some a) 0 c] w λe w'=>∃ad,e=.returned (.slice (some ad) 0 0)/\Below w.heap.size w w':=by
 have mixed:=L.mixed;have t4:=L.t4;have a4:=L.a4;have z4:=L.z4;have v4:=L.v4;have t22:=L.t22;have a22:=L.a22;have z22:=L.z22;have v22:=L.v22;have q22:∀(w:World) (a:Option Addr) (n c n' c':Nat),(binOp .eql (ρ.t 22) (.slice a n c) (.slice none n' c')).run P w=.ok (.bool a.isNone) w:=λw a n c n' c'=>Lib.run_eql_slice_nil w _ _ a n c n' c' L.t22
 have u22:∀w,Sem.run P (underlying (ρ.t 22)) w=.ok (TypeDesc.slice (ρ.t 23)) w:=run_underlying t22;obtain⟨_,_,FG⟩:=L.f41
 go_enter FG,SlBodyN.n41_ntmps ρ
 go_wp2_with (at_builtin;refine Yr rfl _ _ (ρ.t 22) rfl (ρ.t 23) i0 z t22 hi hz0 _ _ _ rfl rfl ?_)
 go_wp2;go_ret;exact⟨_,rfl,(Below.refl _ w).alloc (Nat.le_refl _) _⟩
end
def tbC(t:Tb):List Value:=[.string t.name,.int .i64 t.at'.x,.int .i64 t.at'.y]
theorem RD.tb{L:Nat->List Nat}{S:Nat->Prop}{w:World}{t:Tb}{cs:List Value}(h:RD L S w (eTb t) cs):cs=tbC t:=by
 cases h with
 | agg _ _ css hl h hz =>
  match css,hl with
  | [c0,c1],_ =>
   have e0:RD L S w (.str t.name) c0:=h 0 (by simp) (by simp)
   have e1:RD L S w (ePt t.at') c1:=h 1 (by simp) (by simp)
   have:=e0.str1;subst this;cases e1 with
   | agg _ _ css' hl' h' hz' =>
    match css',hl' with
    | [d0,d1],_ =>
     have f0:RD L S w (eI t.at'.x) d0:=h' 0 (by simp) (by simp)
     have f1:RD L S w (eI t.at'.y) d1:=h' 1 (by simp) (by simp)
     have:=f0.int1;subst this;have:=f1.int1;subst this;rfl
theorem rd_tb{S:Nat->Prop}{w:World}(t:Tb):RD EE.L S w (eTb t) (tbC t):=by
 have hp:=RD.agg (L:=EE.L) (S:=S) (w:=w) 1 [eI t.at'.x,eI t.at'.y] [[.int .i64 t.at'.x],[.int .i64 t.at'.y]] rfl (λi h h'=>by
  match i,h,h' with
  | 0,_,_=>exact .int _ _
  | 1,_,_=>exact .int _ _) (by kernel_rfl)
 exact RD.agg (L:=EE.L) (S:=S) (w:=w) 9 [.str t.name,ePt t.at'] [[.string t.name],[.int .i64 t.at'.x,.int .i64 t.at'.y]] rfl (λi h h'=>by
  match i,h,h' with
  | 0,_,_=>exact .str _
  | 1,_,_=>exact hp) (by kernel_rfl)
def freshT(l:List Tb):CR:=if l=[] then .val .nl else .fresh 3 (l.map eTb)
def T267(ds:List DV)(r:CR):Prop:=∃l:List Tb,l.length<=100000/\ds=[.sl 3 (l.map eTb)]/\r=freshT l
theorem flat3_len:∀l:List Tb,((l.map tbC).flatten).length=l.length * 3
 | []=>rfl
 | t :: l=>by have:=flat3_len l;simp only[List.map_cons,List.flatten_cons,List.length_append,List.length_cons,this];show 3+l.length * 3=_;omega
theorem flat3_one:∀l:List Tb,∀u∈(l.map tbC).flatten,u.oneCell'=true
 | [],u,h=>by simp at h
 | t :: l,u,h=>by
  simp only[List.map_cons,List.flatten_cons,List.mem_append] at h;rcases h with h | h
  ·simp only[tbC,List.mem_cons,List.not_mem_nil,or_false] at h;rcases h with rfl | rfl | rfl <;> rfl
  ·exact flat3_one l u h
theorem at267(ds:List DV)(r:CR):T267 ds r->QZ PP EE 267 ds r:=by
 rintro⟨l,hl,rfl,rfl⟩;refine⟨enters Tryz.func267 (by kernel_rfl) (by kernel_rfl),λS w vals hg hlt hlen hv=>?_⟩
 obtain⟨v,rfl⟩:∃v,vals=[v]:=List.length_eq_one_iff.1 hlen;have h0:=hv 0 (by simp) (by simp)
 simp only[List.getElem_cons_zero] at h0;obtain⟨a,c,css,rfl,hc,hcl,hel,hz,hm⟩:=RV.sl (E:=EE) h0;simp only[List.length_map] at hc hcl hel hm;have hcss:css=l.map tbC:=List.ext_getElem (by simpa using hcl) λi h1 h2=>by
  have:=hel i (by simpa using h2) h1
  rw[List.getElem_map] at this ⊢;exact RD.tb this
 obtain⟨i0,hi,hz0,hz1,hz2⟩:=info_parts (P:=Tryz.prog) (e:=176) (z:=.agg #[.string ⟨#[]⟩,.int .i64 0,.int .i64 0]) (size:=3) (bytes:=32) (by kernel_rfl)
 by_cases h:l=[]
 ·subst h;rw[show freshT []=.val .nl from rfl]
  cases a with
  | none=>exact(AnyE.slices_Clone_nil zAS 0 c w).mono λe w' ⟨h1,h2⟩=>⟨_,h1,by subst h2;exact Qu hlt (Below.refl _ _) ⟨RD.nl none,rfl⟩⟩
  | some ad=>exact(clone_zeroE zAS i0 _ hi hz0 3 Tryz.sizeOf176 ad c w).mono λe w' ⟨ad',h1,h2⟩=>⟨_,h1,Qu hlt h2 ⟨RD.nl (some ad'),rfl⟩⟩
 ·rw[show freshT l=.fresh 3 (l.map eTb) from if_neg h]
  have h0:0<l.length:=List.length_pos_iff.2 h;obtain⟨ad,rfl,hsp,hS,hcell⟩:=hm h0;have ead:ad=⟨ad.block,ad.off,none⟩:=by rw[<-hsp]
  rw[hcss] at hcell;simp only[List.length_map];rw[ead];refine(AnyE.slices_Clone zAS i0 _ 3 32 hi hz0 hz1 hz2 rfl (by omega) Tryz.sizeOf176 ad.block ad.off l.length c (l.map tbC).flatten w (flat3_len l) (by unfold maxLen;omega) (by omega) (λj u hj=>?_) (flat3_one l)).mono λe w' ⟨v',h1,hown,hne,hB⟩=>⟨v',h1,?_⟩
  ·have:=hcell j u hj;rw[jo hsp] at this;exact this
  ·rcases hown.2 with ⟨h2,_⟩ | ⟨g,cap,cur,rfl,hg1,hg2,hg3,hg4,hg5,hg6⟩
   ·exact absurd h2 hne
   ·refine⟨S,hB,λ_ h=>h,λ_ h=>.inl h,λb hb=>Nat.lt_of_lt_of_le (hlt b hb) hB.size,g,hg1,λhx=>absurd (hlt g hx) (by omega),λφ=>?_,λφ s hs=>?_⟩
    ·refine⟨cur,176,l.map tbC,hg2,by simp,λi h h'=>?_,λc hc=>?_,?_⟩
     ·simp only[List.getElem_map];exact rd_tb _
     ·obtain⟨m,_,rfl⟩:=List.mem_map.1 hc;rfl
     ·rw[List.prefix_iff_eq_take,flat3_len];exact hg6.symm
    ·refine⟨?_,rfl⟩;have:=RA.own (L:=EE.L) (S:=S) (φ:=φ) (w:=w') s 0 l.length 3 g cap hs hg3 ⟨cur,176,hg2,by omega⟩
     simpa[vcs,Value.cells] using this
end Go.Am
namespace Go.Am
open Go.Proofs
open Go
class KnT[OO]:Prop where
 clone:∀l:List Tb,l.length<=100000->zA 267 [.sl 3 (l.map eTb)]=some (freshT l)
variable[OO]
def qk(s:Si)(t:Tb):Si:=⟨s.name,s.least,s.tb++[t]⟩
def movS(s:Si)(i:Nat)(p:Pt):Si:=⟨s.name,s.least,s.tb.set i ⟨(s.tb.getD i default).name,p⟩⟩
def ofF(f:Fm)(s:Si):Fm:=⟨s,f.w,f.c,f.r⟩
theorem c96(s:Si)(t:Tb)(hl:s.tb.length<=100000):zA 96 [eSi s,eTb t]=some (.val (eSi (qk s t))):=by
 rw[C96];simp only[zK,zM,h24,h143,Bool.and_self,zB,zR,zS,zW,zb,zX,zF,zQ,List.length_map,List.nil_append];rw[decide_eq_true (by omega),zB]
 by_cases h:s.tb=[]
 ·simp[qk,h]
 ·have hne:(s.tb.map eTb).isEmpty=false:=by
   cases hs:s.tb with
   | nil=>exact absurd hs h
   | cons a l=>rfl
  rw[hne,za];simp only[decide_true,zB,List.length_map,List.length_append,List.length_cons,List.length_nil,Nat.zero_add,Nat.le_refl,List.drop_zero];rw[decide_eq_true (by omega),zB,List.take_of_length_le (by simp)]
  simp[qk]
theorem c203[KnT](s:Si)(t:Tb)(hl:s.tb.length<=100000):zA 203 [eSi s,eTb t]=some (.val (eSi (qk s t))):=by
 rw[C203];simp only[zK,zM,h58,h176,Bool.and_self,zB,zR,zS,zW,zb,zX,zF,zQ];rw[KnT.clone s.tb hl];unfold freshT;by_cases h:s.tb=[]
 ·rw[if_pos h];simp[qk,h,isNl]
 ·rw[if_neg h];simp only[JA,beq_self_eq_true,zB,decide_true,List.length_map,List.length_append,List.length_cons,List.length_nil,Nat.zero_add,Nat.le_refl,List.drop_zero];rw[decide_eq_true (by omega),zB,List.take_of_length_le (by simp)]
  simp[qk]
theorem set_tb(l:List Tb)(i:Nat)(h:i<l.length)(p:Pt):(l.map eTb).set i (.agg 9 ((flds (nth (l.map eTb) i)).set 1 (ePt p)))=(l.set i ⟨(l.getD i default).name,p⟩).map eTb:=by rw[List.map_set,zI eTb l i h,List.getD_eq_getElem?_getD,List.getElem?_eq_getElem h];rfl
theorem c98(s:Si)(i:Nat)(p:Pt)(hi:i<s.tb.length)(hl:s.tb.length<=100000):zA 98 [eSi s,eN i,ePt p]=some (.val (eSi (movS s i p))):=by
 rw[C98];simp only[zK,zM,h24,h3,h141,Bool.and_self,zB,zR,zS,zW,zb,zX,zF,zQ,List.length_map,List.nil_append,Nat.zero_add,Int.toNat_natCast];rw[decide_eq_true (by omega),zB]
 have hne:(s.tb.map eTb).isEmpty=false:=by
  cases hs:s.tb with
  | nil=>rw[hs] at hi;simp at hi
  | cons a l=>rfl
 have hag:isAg 9 1 (nth (s.tb.map eTb) i)=true:=by rw[zI eTb s.tb i hi];rfl
 have hs:=set_tb s.tb i hi p;rw[hne,za,decide_eq_true (by omega),zB,decide_eq_true hi,zB,hag,zB,hs]
 simp only[List.length_map,List.length_set,Nat.le_refl,decide_true,zB,List.drop_zero];rw[List.take_of_length_le (by simp)]
 rfl
theorem c205(s:Si)(i:Nat)(p:Pt)(hi:i<s.tb.length)(hl:s.tb.length<=100000):zA 205 [eSi s,eN i,ePt p]=some (.val (eSi (movS s i p))):=by
 rw[C205];have hag:isAg 9 1 (nth (s.tb.map eTb) i)=true:=by rw[zI eTb s.tb i hi];rfl
 have hs:=set_tb s.tb i hi p;have hcp:∀z:DV,([]++(s.tb.map eTb).take s.tb.length)++(List.replicate s.tb.length z).drop s.tb.length=s.tb.map eTb:=λz=>by
  rw[List.take_of_length_le (by simp),List.drop_of_length_le (by simp)]
  simp
 simp only[zK,zM,h58,h3,h141,Bool.and_self,zB,zR,zS,zW,zb,zX,zF,zQ,List.length_map,List.length_replicate,Int.toNat_natCast,Nat.zero_add,Nat.min_self,hcp];rw[decide_eq_true (show 0<=(s.tb.length:Int)/\True/\32 * (s.tb.length:Int)<=281474976710656/\(s.tb.length:Int)<=9223372036854775807 from⟨by omega,trivial,by omega,by omega⟩),zB]
 simp only[Nat.le_refl,decide_true,zB];rw[decide_eq_true (show(0:Int)<=(i:Int)/\(i:Int)<(s.tb.length:Int) by omega),zB,decide_eq_true hi,zB,hag,zB,hs]
 simp only[List.length_map,List.length_set,Nat.le_refl,decide_true,zB,List.drop_zero];rw[List.take_of_length_le (by simp)]
 rfl
def raiseI(f:Fm)(s:Si):Int:=jN f.w f.c f.r (psOf s) 0 - jN f.w f.c f.r (psOf f.s) 0
theorem okFm_of{f:Fm}{s:Si}(h:okFm f)(hs:z8 s=0):okFm (ofF f s):=by
 obtain⟨h1,_,_,_,h5⟩:=Jq hs;exact⟨h.w,h.k,h.c,h.r,h.q,by simpa[psOf,ofF] using h5,λp hp=>by
  obtain⟨t,ht,rfl⟩:=List.mem_map.1 hp;exact(h1 t ht).1⟩
theorem YT{f:Fm}(h:okFm f):0<=jN f.w f.c f.r (psOf f.s) 0/\jN f.w f.c f.r (psOf f.s) 0<=26738688000000000:=YU h.c f.w h.l 0 h.r h.q
theorem c204[KnW](f:Fm)(s:Si)(h:okFm f)(hs:z8 s=0):zA 204 [eFm f,eSi s]=some (.val (eI (raiseI f s))):=by
 have h2:=okFm_of h hs;have b1:=YT h;have b2:=YT h2;obtain⟨_,_,_,_,h5⟩:=Jq hs;have h6:f.s.tb.length<=64:=by have:=h.l;rwa [zn] at this
 have e1:=c145 (w:=f.w) (c:=f.c) (r:=f.r) (ps:=psOf s) h2 0 (by omega)
 have e2:=c145 (w:=f.w) (c:=f.c) (r:=f.r) (ps:=psOf f.s) h 0 (by omega)
 rw[C204];simp only[zK,zM,hFm f h.r,h58,Bool.and_self,zB,zR,zS,zW,zb,ze,zX,zF,zQ,c144 f h.r,zH,hMd _ _ _ h.r,c146 s (by omega),c146 f.s (by omega),h81,e1,e2,h3]
 have hb:(ofF f s).w=f.w/\(ofF f s).c=f.c/\(ofF f s).r=f.r/\(ofF f s).s=s:=⟨rfl,rfl,rfl,rfl⟩;rw[hb.1,hb.2.1,hb.2.2.1,hb.2.2.2] at b2;rw[wr _ (by omega)]
 rfl
def gainE(f:Fm)(t:Tb):Int:=if jM f=0 then z8 (qk f.s t) else jM f
theorem ifO_decT{p:Prop}[Decidable p](h:p)(x y:Option CR):ifO (decide p) x y=x:=by rw[decide_eq_true h];rfl
theorem ifO_decF{p:Prop}[Decidable p](h:¬p)(x y:Option CR):ifO (decide p) x y=y:=by rw[decide_eq_false h];rfl
theorem bne_z{x:Int}(h:x=0):(x != 0)=false:=by rw[h];rfl
theorem bne_n{x:Int}(h:x≠0):(x != 0)=true:=by simp[h]
theorem c94[KnW][KnT](f:Fm)(hr:zm f.r)(hl:f.s.tb.length<=100000)(t:Tb):zA 94 [eFm f,eTb t]=some (.val (.tup [eI (if gainE f t=0 then raiseI f (qk f.s t) else 0),eI (gainE f t)])):=by
 rw[C94];simp only[zK,zM,hFm f hr,h176,Bool.and_self,zB,zR,zS,zW,zb,ze,zX,zF,zQ,c40 f hr,zH,h46];unfold gainE;by_cases h0:jM f=0
 ·rw[bne_z h0,za,if_pos h0,c203 f.s t hl];simp only[zH,h58,zB,zR,zS,zW,zb,zX,zF,zQ,c158,h46];by_cases h1:z8 (qk f.s t)=0
  ·rw[bne_z h1,za,if_pos h1,c204 f _ (farm_ok h0 hr) h1];simp only[zH,h3,zB,zF,h1]
  ·rw[bne_n h1,zB,if_neg h1]
 ·rw[bne_n h0,zB,if_neg h0,if_neg h0]
def moveE(f:Fm)(i:Int)(p:Pt):Int:=if zL [jM f,idxE f.s.tb.length i]=0 then z8 (movS f.s i.toNat p) else zL [jM f,idxE f.s.tb.length i]
theorem c95[KnW](f:Fm)(hr:zm f.r)(hl:f.s.tb.length<=100000)(i:Int)(p:Pt):zA 95 [eFm f,eI i,ePt p]=some (.val (.tup [eI (if moveE f i p=0 then raiseI f (movS f.s i.toNat p) else 0),eI (moveE f i p)])):=by
 have hmain:zL [jM f,idxE f.s.tb.length i]=0->(∃k:Nat,i=k/\k<f.s.tb.length):=λh=>by have:=idx_ok (zy (zy h).2).1;exact⟨i.toNat,by omega,by omega⟩
 have e169:∀b:Bool,(b=true ↔ i<0\/i>=(f.s.tb.length:Int))->zA 169 [.bool b,eI 10]=some (.val (eI (idxE f.s.tb.length i))):=λb hb=>by
  rw[c169];unfold idxE;by_cases h:i<0\/i>=(f.s.tb.length:Int)
  ·rw[if_pos h,hb.2 h];rfl
  ·rw[if_neg h,Bool.eq_false_iff.2 (λe=>h (hb.1 e))];rfl
 rw[C95];simp only[zK,zM,hFm f hr,h3,h141,Bool.and_self,zB,zR,zS,zW,zb,ze,zX,zF,zQ,c40 f hr,zH,h46,List.length_map];unfold moveE;by_cases hneg:i<0
 ·refine(ifO_decT hneg _ _).trans ?_;have hidx:idxE f.s.tb.length i=10:=by unfold idxE;rw[if_pos (.inl hneg)]
  have hne:zL [jM f,10]≠0:=by unfold zL zL;split <;> simp_all
  rw[e169 true ⟨λ_=>.inl hneg,λ_=>rfl⟩]
  simp only[zH,h46,zB,zF,qY];rw[hidx,bne_n hne,zB,if_neg hne,if_neg hne]
 ·refine(ifO_decF hneg _ _).trans ?_;rw[e169 _ ⟨λe=>.inr (of_decide_eq_true e),λe=>decide_eq_true (e.resolve_left hneg)⟩]
  simp only[zH,h46,zB,zF,qY];by_cases h0:zL [jM f,idxE f.s.tb.length i]=0
  ·obtain⟨k,rfl,hk⟩:=hmain h0;rw[bne_z h0,za,if_pos h0,c205 f.s k p hk hl];simp only[zH,h58,zB,zR,zS,zW,zb,zX,zF,zQ,c158,h46,Int.toNat_natCast];by_cases h1:z8 (movS f.s k p)=0
   ·rw[bne_z h1,za,if_pos h1,c204 f _ (farm_ok (zy h0).1 hr) h1];simp only[zH,h3,zB,zF,h1]
   ·rw[bne_n h1,zB,if_neg h1]
  ·rw[bne_n h0,zB,if_neg h0,if_neg h0]
end Go.Am
namespace Go.Am
open Go.Proofs
open Go
variable[OO]
def S100_0a(v0:List DV)(v1 v2:Int)(v3:ByteArray)(v4:Int)(v5:List DV)(v6:ByteArray)(v7 v8 v9:List DV)(v10:Int)(v11:List DV):St :=
 stOf 71 [(1,(.d (.sl 2 v0))),(2,(.ptr 2 416 0 [])),(4,(.ptr 4 3 0 [])),(9,(.ptr 9 3 0 [])),(10,(.d (eI 0))),(38,(.d (eI v1))),(39,(.d (eI v2)))] [(2,(.mk false (.dc 416 [(.agg 4 [(.agg 0 [(.str v3),(eI v4),(.sl 3 v5)]),(.agg 0 [(.str v6),(.sl 1 v7),(.sl 1 v8)]),(.agg 1 [(.sl 1 v9),(eI v10)]),(.agg 3 v11)])]))),(4,(.mk false (.dc 3 [(.agg 0 [(.str (bs [])),(eI 0),.nl])]))),(9,(.mk false (.dc 3 [(.agg 0 [(.str (bs [])),(eI 0),.nl])])))]
noncomputable def L100_0a(v0:List DV)(v1 v2:Int)(v3:ByteArray)(v4:Int)(v5:List DV)(v6:ByteArray)(v7 v8 v9:List DV)(v10:Int)(v11:List DV):Option CR:=goQ 100 0 (S100_0a v0 v1 v2 v3 v4 v5 v6 v7 v8 v9 v10 v11)
def S100_1a(v0:List DV)(v1 v2 v3 v4:Int)(v5:ByteArray)(v6:Int)(v7:List DV)(v8:ByteArray)(v9 v10 v11:List DV)(v12:Int)(v13:List DV):St :=
 stOf 71 [(1,(.d (.sl 2 v0))),(2,(.ptr 2 416 0 [])),(4,(.ptr 4 3 0 [])),(9,(.ptr 9 3 0 [])),(10,(.d (eI 0))),(11,(.d (eI v1))),(38,(.d (eI v2))),(39,(.d (eI v1))),(42,(.d (.sl 2 v0))),(43,(.d (eI v3))),(44,(.d (eI v4)))] [(2,(.mk false (.dc 416 [(.agg 4 [(.agg 0 [(.str v5),(eI v6),(.sl 3 v7)]),(.agg 0 [(.str v8),(.sl 1 v9),(.sl 1 v10)]),(.agg 1 [(.sl 1 v11),(eI v12)]),(.agg 3 v13)])]))),(4,(.mk false (.dc 3 [(.agg 0 [(.str (bs [])),(eI 0),.nl])]))),(9,(.mk false (.dc 3 [(.agg 0 [(.str (bs [])),(eI 0),.nl])])))]
noncomputable def L100_1a(v0:List DV)(v1 v2 v3 v4:Int)(v5:ByteArray)(v6:Int)(v7:List DV)(v8:ByteArray)(v9 v10 v11:List DV)(v12:Int)(v13:List DV):Option CR:=goQ 100 1 (S100_1a v0 v1 v2 v3 v4 v5 v6 v7 v8 v9 v10 v11 v12 v13)
def S100_1b(v0:List DV)(v1 v2 v3 v4 v5:Int)(v6:ByteArray)(v7:Int)(v8:List DV)(v9:ByteArray)(v10 v11 v12:List DV)(v13:Int)(v14:List DV)(v15:ByteArray)(v16:Int)(v17:List DV):St :=
 stOf 71 [(1,(.d (.sl 2 v0))),(2,(.ptr 2 416 0 [])),(4,(.ptr 4 3 0 [])),(9,(.ptr 9 3 0 [])),(10,(.d (eI v1))),(11,(.d (eI v2))),(38,(.d (eI v3))),(39,(.d (eI v2))),(42,(.d (.sl 2 v0))),(43,(.d (eI v4))),(44,(.d (eI v5)))] [(2,(.mk false (.dc 416 [(.agg 4 [(.agg 0 [(.str v6),(eI v7),(.sl 3 v8)]),(.agg 0 [(.str v9),(.sl 1 v10),(.sl 1 v11)]),(.agg 1 [(.sl 1 v12),(eI v13)]),(.agg 3 v14)])]))),(4,(.mk false (.dc 3 [(.agg 0 [(.str (bs [])),(eI 0),.nl])]))),(9,(.mk false (.dc 3 [(.agg 0 [(.str v15),(eI v16),(.sl 3 v17)])])))]
noncomputable def L100_1b(v0:List DV)(v1 v2 v3 v4 v5:Int)(v6:ByteArray)(v7:Int)(v8:List DV)(v9:ByteArray)(v10 v11 v12:List DV)(v13:Int)(v14:List DV)(v15:ByteArray)(v16:Int)(v17:List DV):Option CR:=goQ 100 1 (S100_1b v0 v1 v2 v3 v4 v5 v6 v7 v8 v9 v10 v11 v12 v13 v14 v15 v16 v17)
def S100_0b(v0:List DV)(v1 v2 v3:Int)(v4:ByteArray)(v5:Int)(v6:List DV)(v7:ByteArray)(v8 v9 v10:List DV)(v11:Int)(v12:List DV)(v13:ByteArray)(v14:Int)(v15:List DV):St :=
 stOf 71 [(1,(.d (.sl 2 v0))),(2,(.ptr 2 416 0 [])),(4,(.ptr 4 3 0 [])),(9,(.ptr 9 3 0 [])),(10,(.d (eI v1))),(38,(.d (eI v2))),(39,(.d (eI v3)))] [(2,(.mk false (.dc 416 [(.agg 4 [(.agg 0 [(.str v4),(eI v5),(.sl 3 v6)]),(.agg 0 [(.str v7),(.sl 1 v8),(.sl 1 v9)]),(.agg 1 [(.sl 1 v10),(eI v11)]),(.agg 3 v12)])]))),(4,(.mk false (.dc 3 [(.agg 0 [(.str (bs [])),(eI 0),.nl])]))),(9,(.mk false (.dc 3 [(.agg 0 [(.str v13),(eI v14),(.sl 3 v15)])])))]
noncomputable def L100_0b(v0:List DV)(v1 v2 v3:Int)(v4:ByteArray)(v5:Int)(v6:List DV)(v7:ByteArray)(v8 v9 v10:List DV)(v11:Int)(v12:List DV)(v13:ByteArray)(v14:Int)(v15:List DV):Option CR:=goQ 100 0 (S100_0b v0 v1 v2 v3 v4 v5 v6 v7 v8 v9 v10 v11 v12 v13 v14 v15)
theorem L100_0a_eq(v0:List DV)(v1 v2:Int)(v3:ByteArray)(v4:Int)(v5:List DV)(v6:ByteArray)(v7 v8 v9:List DV)(v10:Int)(v11:List DV):L100_0a v0 v1 v2 v3 v4 v5 v6 v7 v8 v9 v10 v11 =
 ifO (decide (v2<v1))
 ((L100_1a v0 v2 v1 (((List.length v0):Nat):Int) (0:Int) v3 v4 v5 v6 v7 v8 v9 v10 v11))
 (some (.val (.tup [(.agg 0 [(.str (bs [])),(eI 0),(.sl 3 [])]),(eI 0),(eI 7)]))) :=
 (zU 100 0 _).trans (by kernel_rfl)
theorem L100_1a_eq(v0:List DV)(v1 v2 v3 v4:Int)(v5:ByteArray)(v6:Int)(v7:List DV)(v8:ByteArray)(v9 v10 v11:List DV)(v12:Int)(v13:List DV):L100_1a v0 v1 v2 v3 v4 v5 v6 v7 v8 v9 v10 v11 v12 v13 =
 ifO (decide (v4<v3))
 (ifO (decide (((0:Int)<=v4)/\(v4<(((List.length v0):Nat):Int))))
 (ifO (hasT EE 6 141 (nth v0 (Int.toNat v4)))
 (zC (zA 205 [(.agg 0 [(.str v5),(eI v6),(.sl 3 v7)]),(eI v1),(.agg 1 [(eI (getI (nth (flds (nth v0 (Int.toNat v4))) 0))),(eI (getI (nth (flds (nth v0 (Int.toNat v4))) 1)))])])
 (λr15=>ifO (hasT EE 6 58 r15)
 (zC (zA 158 [(.agg 0 [(.str (getS (nth (flds r15) 0))),(eI (getI (nth (flds r15) 1))),(.sl 3 (elems (nth (flds r15) 2)))])])
 (λr16=>ifO (hasT EE 6 46 r16)
 (ifO (bne (getI r16) 0)
 ((L100_1a v0 v1 v2 v3 (IntKind.wrap .i64 (v4+(1:Int))) v5 v6 v7 v8 v9 v10 v11 v12 v13))
 (zC (zA 204 [(.agg 4 [(.agg 0 [(.str v5),(eI v6),(.sl 3 v7)]),(.agg 0 [(.str v8),(.sl 1 v9),(.sl 1 v10)]),(.agg 1 [(.sl 1 v11),(eI v12)]),(.agg 3 v13)]),(.agg 0 [(.str (getS (nth (flds r15) 0))),(eI (getI (nth (flds r15) 1))),(.sl 3 (elems (nth (flds r15) 2)))])])
 (λr17=>ifO (hasT EE 6 3 r17)
 (ifO (decide ((getI r17)>(0:Int)))
 ((L100_1b v0 (getI r17) v1 v2 v3 (IntKind.wrap .i64 (v4+(1:Int))) v5 v6 v7 v8 v9 v10 v11 v12 v13 (getS (nth (flds r15) 0)) (getI (nth (flds r15) 1)) (elems (nth (flds r15) 2))))
 ((L100_1a v0 v1 v2 v3 (IntKind.wrap .i64 (v4+(1:Int))) v5 v6 v7 v8 v9 v10 v11 v12 v13)))
 (none))
 (λ_ _=>none)))
 (none))
 (λ_ _=>none))
 (none))
 (λ_ _=>none))
 (none))
 (none))
 ((L100_0a v0 v2 (IntKind.wrap .i64 (v1+(1:Int))) v5 v6 v7 v8 v9 v10 v11 v12 v13)) :=
 (zU 100 1 _).trans (by kernel_rfl)
theorem L100_1b_eq(v0:List DV)(v1 v2 v3 v4 v5:Int)(v6:ByteArray)(v7:Int)(v8:List DV)(v9:ByteArray)(v10 v11 v12:List DV)(v13:Int)(v14:List DV)(v15:ByteArray)(v16:Int)(v17:List DV):L100_1b v0 v1 v2 v3 v4 v5 v6 v7 v8 v9 v10 v11 v12 v13 v14 v15 v16 v17 =
 ifO (decide (v5<v4))
 (ifO (decide (((0:Int)<=v5)/\(v5<(((List.length v0):Nat):Int))))
 (ifO (hasT EE 6 141 (nth v0 (Int.toNat v5)))
 (zC (zA 205 [(.agg 0 [(.str v6),(eI v7),(.sl 3 v8)]),(eI v2),(.agg 1 [(eI (getI (nth (flds (nth v0 (Int.toNat v5))) 0))),(eI (getI (nth (flds (nth v0 (Int.toNat v5))) 1)))])])
 (λr24=>ifO (hasT EE 6 58 r24)
 (zC (zA 158 [(.agg 0 [(.str (getS (nth (flds r24) 0))),(eI (getI (nth (flds r24) 1))),(.sl 3 (elems (nth (flds r24) 2)))])])
 (λr25=>ifO (hasT EE 6 46 r25)
 (ifO (bne (getI r25) 0)
 ((L100_1b v0 v1 v2 v3 v4 (IntKind.wrap .i64 (v5+(1:Int))) v6 v7 v8 v9 v10 v11 v12 v13 v14 v15 v16 v17))
 (zC (zA 204 [(.agg 4 [(.agg 0 [(.str v6),(eI v7),(.sl 3 v8)]),(.agg 0 [(.str v9),(.sl 1 v10),(.sl 1 v11)]),(.agg 1 [(.sl 1 v12),(eI v13)]),(.agg 3 v14)]),(.agg 0 [(.str (getS (nth (flds r24) 0))),(eI (getI (nth (flds r24) 1))),(.sl 3 (elems (nth (flds r24) 2)))])])
 (λr26=>ifO (hasT EE 6 3 r26)
 (ifO (decide ((getI r26)>v1))
 ((L100_1b v0 (getI r26) v2 v3 v4 (IntKind.wrap .i64 (v5+(1:Int))) v6 v7 v8 v9 v10 v11 v12 v13 v14 (getS (nth (flds r24) 0)) (getI (nth (flds r24) 1)) (elems (nth (flds r24) 2))))
 ((L100_1b v0 v1 v2 v3 v4 (IntKind.wrap .i64 (v5+(1:Int))) v6 v7 v8 v9 v10 v11 v12 v13 v14 v15 v16 v17)))
 (none))
 (λ_ _=>none)))
 (none))
 (λ_ _=>none))
 (none))
 (λ_ _=>none))
 (none))
 (none))
 ((L100_0b v0 v1 v3 (IntKind.wrap .i64 (v2+(1:Int))) v6 v7 v8 v9 v10 v11 v12 v13 v14 v15 v16 v17)) :=
 (zU 100 1 _).trans (by kernel_rfl)
theorem L100_0b_eq(v0:List DV)(v1 v2 v3:Int)(v4:ByteArray)(v5:Int)(v6:List DV)(v7:ByteArray)(v8 v9 v10:List DV)(v11:Int)(v12:List DV)(v13:ByteArray)(v14:Int)(v15:List DV):L100_0b v0 v1 v2 v3 v4 v5 v6 v7 v8 v9 v10 v11 v12 v13 v14 v15 =
 ifO (decide (v3<v2))
 ((L100_1b v0 v1 v3 v2 (((List.length v0):Nat):Int) (0:Int) v4 v5 v6 v7 v8 v9 v10 v11 v12 v13 v14 v15))
 (ifO (v1 == (0:Int))
 (some (.val (.tup [(.agg 0 [(.str (bs [])),(eI 0),(.sl 3 [])]),(eI 0),(eI 7)])))
 (some (.val (.tup [(.agg 0 [(.str v13),(eI v14),(.sl 3 v15)]),(eI v1),(eI 0)])))) :=
 (zU 100 0 _).trans (by kernel_rfl)
theorem C100(x0 x1:DV):zA 100 [x0,x1] =
 ifO (zP (hasT EE 6) [62,81] [x0,x1])
 (zC (zA 40 [(.agg 4 [(.agg 0 [(.str (getS (nth (flds (nth (flds x0) 0)) 0))),(eI (getI (nth (flds (nth (flds x0) 0)) 1))),(.sl 3 (elems (nth (flds (nth (flds x0) 0)) 2)))]),(.agg 0 [(.str (getS (nth (flds (nth (flds x0) 1)) 0))),(.sl 1 (elems (nth (flds (nth (flds x0) 1)) 1))),(.sl 1 (elems (nth (flds (nth (flds x0) 1)) 2)))]),(.agg 1 [(.sl 1 (elems (nth (flds (nth (flds x0) 2)) 0))),(eI (getI (nth (flds (nth (flds x0) 2)) 1)))]),(.agg 3 (flds (nth (flds x0) 3)))])])
 (λr0=>ifO (hasT EE 6 46 r0)
 (zC (zA 169 [(.bool (decide ((((List.length (elems x1)):Nat):Int)>(256:Int)))),(eI 5)])
 (λr1=>ifO (hasT EE 6 46 r1)
 (zC (zA 148 [(.sl 1 [(eI (getI r0)),(eI (getI r1))])])
 (λr2=>ifO (hasT EE 6 46 r2)
 (ifO (bne (getI r2) 0)
 (some (.val (.tup [(.agg 0 [(.str (bs [])),(eI 0),(.sl 3 [])]),(eI 0),(eI (getI r2))])))
 (zC (zA 207 [(.sl 2 (elems x1)),(.fn 168 [] [])])
 (λr3=>ifO (hasT EE 6 290 r3)
 (zC (zA 148 [(.sl 1 (elems r3))])
 (λr4=>ifO (hasT EE 6 46 r4)
 (ifO (bne (getI r4) 0)
 (some (.val (.tup [(.agg 0 [(.str (bs [])),(eI 0),(.sl 3 [])]),(eI 0),(eI (getI r4))])))
 ((L100_0a (elems x1) (((List.length (elems (nth (flds (nth (flds x0) 0)) 2))):Nat):Int) (0:Int) (getS (nth (flds (nth (flds x0) 0)) 0)) (getI (nth (flds (nth (flds x0) 0)) 1)) (elems (nth (flds (nth (flds x0) 0)) 2)) (getS (nth (flds (nth (flds x0) 1)) 0)) (elems (nth (flds (nth (flds x0) 1)) 1)) (elems (nth (flds (nth (flds x0) 1)) 2)) (elems (nth (flds (nth (flds x0) 2)) 0)) (getI (nth (flds (nth (flds x0) 2)) 1)) (flds (nth (flds x0) 3)))))
 (none))
 (λ_ _=>none))
 (none))
 (λ_ _=>none)))
 (none))
 (λ_ _=>none))
 (none))
 (λ_ _=>none))
 (none))
 (λ_ _=>none))
 (none) :=
 (zE (f:=100) (by kernel_rfl) (by kernel_rfl) (by kernel_rfl) [x0,x1]).trans (by kernel_rfl)
end Go.Am
namespace Go.Am
open Go.Proofs
open Go
variable[OO]
def S207_0a(v0:Nat)(v1 v2 v3:List DV)(v4:Int):St :=
 stOf 22 [(1,(.d (.fn v0 v1 v2))),(5,(.d .nl)),(8,(.d (.sl 2 v3))),(9,(.d (eI v4))),(10,(.d (eI 0)))] []
noncomputable def L207_0a(v0:Nat)(v1 v2 v3:List DV)(v4:Int):Option CR:=goQ 207 0 (S207_0a v0 v1 v2 v3 v4)
def S207_0b(v0:Nat)(v1 v2 v3 v4:List DV)(v5 v6:Int):St :=
 stOf 22 [(1,(.d (.fn v0 v1 v2))),(5,(.own 19 0 (List.length v3) 1)),(8,(.d (.sl 2 v4))),(9,(.d (eI v5))),(10,(.d (eI v6)))] [(19,(.mk false (.dc 1 v3)))]
noncomputable def L207_0b(v0:Nat)(v1 v2 v3 v4:List DV)(v5 v6:Int):Option CR:=goQ 207 0 (S207_0b v0 v1 v2 v3 v4 v5 v6)
theorem L207_0a_eq(v0:Nat)(v1 v2 v3:List DV)(v4:Int):L207_0a v0 v1 v2 v3 v4 =
 ifO (decide ((0:Int)<v4))
 (ifO (decide (((0:Int)<=(0:Int))/\((0:Int)<(((List.length v3):Nat):Int))))
 (ifO (hasT EE 6 141 (nth v3 0))
 (zC (zA v0 (z1 EE v0 ((v1++[(.agg 1 [(eI (getI (nth (flds (nth v3 0)) 0))),(eI (getI (nth (flds (nth v3 0)) 1)))])])++v2)))
 (λr0=>ifO (hasT EE 6 46 r0)
 ((L207_0b v0 v1 v2 [(eI (getI r0))] v3 v4 (1:Int)))
 (none))
 (λ_ _=>none))
 (none))
 (none))
 (some (.val (.sl 1 []))) :=
 (zU 207 0 _).trans (by kernel_rfl)
theorem L207_0b_eq(v0:Nat)(v1 v2 v3 v4:List DV)(v5 v6:Int):L207_0b v0 v1 v2 v3 v4 v5 v6 =
 ifO (decide (v6<v5))
 (ifO (decide (((0:Int)<=v6)/\(v6<(((List.length v4):Nat):Int))))
 (ifO (hasT EE 6 141 (nth v4 (Int.toNat v6)))
 (zC (zA v0 (z1 EE v0 ((v1++[(.agg 1 [(eI (getI (nth (flds (nth v4 (Int.toNat v6))) 0))),(eI (getI (nth (flds (nth v4 (Int.toNat v6))) 1)))])])++v2)))
 (λr3=>ifO (hasT EE 6 46 r3)
 (ifO (decide ((List.length v3)=(List.length v3)))
 (ifO (decide ((((2 * ((List.length v3)+1))+200) * 8)<=281474976710656))
 ((L207_0b v0 v1 v2 (v3++[(eI (getI r3))]) v4 v5 (IntKind.wrap .i64 (v6+(1:Int)))))
 (none))
 (none))
 (none))
 (λ_ _=>none))
 (none))
 (none))
 (ifO (decide ((0+(List.length v3))<=(List.length v3)))
 (some (.val (.sl 1 (List.take (List.length v3) (List.drop 0 v3)))))
 (none)) :=
 (zU 207 0 _).trans (by kernel_rfl)
theorem C207(x0 x1:DV):zA 207 [x0,x1] =
 ifO (zP (hasT EE 6) [81,276] [x0,x1])
 ((L207_0a (fnId x1) (fnA x1) (fnC x1) (elems x0) (((List.length (elems x0)):Nat):Int)))
 (none) :=
 (zE (f:=207) (by kernel_rfl) (by kernel_rfl) (by kernel_rfl) [x0,x1]).trans (by kernel_rfl)
end Go.Am
namespace Go.Am
open Go.Proofs
open Go
abbrev s0:Si:=⟨bs [],0,[]⟩
abbrev ImpS:=Option (Int×Si)
def impV:ImpS->Int
 | none=>0
 | some x=>x.1
def impStep(f:Fm)(i:Nat)(st:ImpS)(p:Pt):ImpS:=if z8 (movS f.s i p)=0/\raiseI f (movS f.s i p)>impV st then some (raiseI f (movS f.s i p),movS f.s i p) else st
def impRow(f:Fm)(l:List Pt)(st:ImpS)(i:Nat):ImpS:=l.foldl (impStep f i) st
def impAll(f:Fm)(l:List Pt)(is:List Nat)(st:ImpS):ImpS:=is.foldl (impRow f l) st
def impR:ImpS->CR
 | none=>.val (.tup [eSi s0,eI 0,eI 7])
 | some (m,s)=>if m=0 then .val (.tup [eSi s0,eI 0,eI 7]) else .val (.tup [eSi s,eI m,eI 0])
theorem beq_z{x:Int}(h:x=0):(x == 0)=true:=by rw[h];rfl
theorem beq_n{x:Int}(h:x≠0):(x == 0)=false:=by simp[h]
variable[OO]
noncomputable def I100(f:Fm)(l:List Pt)(i k:Nat):ImpS->Option CR
 | none=>L100_1a (l.map ePt) i f.s.tb.length l.length k f.s.name f.s.least (f.s.tb.map eTb) f.w.rule (f.w.d.map eI) (f.w.w.map eI) (f.c.p.map eI) f.c.cut (f.r.map eRow)
 | some x=>L100_1b (l.map ePt) x.1 i f.s.tb.length l.length k f.s.name f.s.least (f.s.tb.map eTb) f.w.rule (f.w.d.map eI) (f.w.w.map eI) (f.c.p.map eI) f.c.cut (f.r.map eRow) x.2.name x.2.least (x.2.tb.map eTb)
noncomputable def O100(f:Fm)(l:List Pt)(i:Nat):ImpS->Option CR
 | none=>L100_0a (l.map ePt) f.s.tb.length i f.s.name f.s.least (f.s.tb.map eTb) f.w.rule (f.w.d.map eI) (f.w.w.map eI) (f.c.p.map eI) f.c.cut (f.r.map eRow)
 | some x=>L100_0b (l.map ePt) x.1 f.s.tb.length i f.s.name f.s.least (f.s.tb.map eTb) f.w.rule (f.w.d.map eI) (f.w.w.map eI) (f.c.p.map eI) f.c.cut (f.r.map eRow) x.2.name x.2.least (x.2.tb.map eTb)
theorem row100[KnW](f:Fm)(h:okFm f)(l:List Pt)(hl:l.length<=100000)(i:Nat)(hi:i<f.s.tb.length)(hn:f.s.tb.length<=100000) :
  ∀k,k<=l.length->∀st,I100 f l i k st=O100 f l (i+1) ((l.drop k).foldl (impStep f i) st):=by
 apply down (P:=λk=>∀st,I100 f l i k st=O100 f l (i+1) ((l.drop k).foldl (impStep f i) st))
 ·intro st;rw[List.drop_length,List.foldl_nil];cases st with
  | none =>
   unfold I100 O100;rw[L100_1a_eq];simp only[Int.lt_irrefl,decide_false,za];rw[wr ((i:Int)+1) (by omega)]
   rfl
  | some x =>
   unfold I100 O100
   try dsimp only
   rw[L100_1b_eq];simp only[Int.lt_irrefl,decide_false,za];rw[wr ((i:Int)+1) (by omega)]
   rfl
 ·intro k hk ih st;have e1:(k:Int)<l.length:=by omega
  have e0:(0:Int)<=(k:Int):=by omega
  have hag:=c205 f.s i l[k] hi hn;rw[zT l k hk,List.foldl_cons,<-ih];cases st with
  | none =>
   unfold I100;rw[L100_1a_eq];simp only[List.length_map,e1,e0,and_self,decide_true,zB,Int.toNat_natCast,zI _ l k hk,h141,zR,zS,zW,zb,zF,hag,zH,h58,zX,zQ,c158,h46];rw[wr ((k:Int)+1) (by omega)]
   by_cases h1:z8 (movS f.s i l[k])=0
   ·rw[bne_z h1,za,c204 f _ h h1];simp only[zH,h3,zB,zF];by_cases h2:raiseI f (movS f.s i l[k])>0
    ·refine(ifO_decT h2 _ _).trans ?_;rw[show impStep f i none l[k]=some (raiseI f (movS f.s i l[k]),movS f.s i l[k]) from if_pos ⟨h1,h2⟩]
     rfl
    ·refine(ifO_decF h2 _ _).trans ?_;rw[show impStep f i none l[k]=none from if_neg (λhh=>h2 hh.2)]
     rfl
   ·rw[bne_n h1,zB,show impStep f i none l[k]=none from if_neg (λhh=>h1 hh.1)]
    rfl
  | some x =>
   unfold I100
   try dsimp only
   rw[L100_1b_eq];simp only[List.length_map,e1,e0,and_self,decide_true,zB,Int.toNat_natCast,zI _ l k hk,h141,zR,zS,zW,zb,zF,hag,zH,h58,zX,zQ,c158,h46];rw[wr ((k:Int)+1) (by omega)]
   by_cases h1:z8 (movS f.s i l[k])=0
   ·rw[bne_z h1,za,c204 f _ h h1];simp only[zH,h3,zB,zF];by_cases h2:raiseI f (movS f.s i l[k])>x.1
    ·refine(ifO_decT h2 _ _).trans ?_;rw[show impStep f i (some x) l[k]=some (raiseI f (movS f.s i l[k]),movS f.s i l[k]) from if_pos ⟨h1,h2⟩]
     rfl
    ·refine(ifO_decF h2 _ _).trans ?_;rw[show impStep f i (some x) l[k]=some x from if_neg (λhh=>h2 hh.2)]
     rfl
   ·rw[bne_n h1,zB,show impStep f i (some x) l[k]=some x from if_neg (λhh=>h1 hh.1)]
    rfl
theorem all100[KnW](f:Fm)(h:okFm f)(l:List Pt)(hl:l.length<=100000)(hn:f.s.tb.length<=100000) :
  ∀i,i<=f.s.tb.length->∀st,O100 f l i st=some (impR (impAll f l ((List.range f.s.tb.length).drop i) st)):=by
 apply down (P:=λi=>∀st,O100 f l i st=some (impR (impAll f l ((List.range f.s.tb.length).drop i) st)))
 ·intro st;rw[show(List.range f.s.tb.length).drop f.s.tb.length=[] from List.drop_of_length_le (by simp)]
  cases st with
  | none =>
   unfold O100;rw[L100_0a_eq];simp only[Int.lt_irrefl,decide_false,za];rfl
  | some x =>
   unfold O100
   try dsimp only
   rw[L100_0b_eq];simp only[zw];simp only[Int.lt_irrefl,decide_false,za];show _=some (impR (some x));unfold impR;by_cases hx:x.1=0
   ·rw[if_pos hx];simp only[hx,if_true];rfl
   ·rw[if_neg hx];simp only[hx,if_false]
 ·intro i hi ih st;have e1:(i:Int)<f.s.tb.length:=by omega
  have hd:(List.range f.s.tb.length).drop i=i :: (List.range f.s.tb.length).drop (i+1):=by
   have:=zT (List.range f.s.tb.length) i (by simpa using hi)
   rwa [List.getElem_range] at this
  rw[hd];have hr:=row100 f h l hl i hi hn 0 (Nat.zero_le _) st;rw[List.drop_zero] at hr;show _=some (impR (impAll f l ((List.range f.s.tb.length).drop (i+1)) (impRow f l st i)));rw[<-ih (impRow f l st i)];unfold impRow;rw[<-hr];cases st with
  | none =>
   unfold O100 I100;rw[L100_0a_eq];simp only[e1,decide_true,zB,List.length_map];rfl
  | some x =>
   unfold O100 I100
   try dsimp only
   rw[L100_0b_eq];simp only[e1,decide_true,zB,List.length_map];rfl
end Go.Am
namespace Go.Am
open Go.Proofs
open Go
variable[OO]
def placesE(l:List Pt):Int:=if 256<l.length then 5 else zL (l.map ptE)
theorem cn168(p:Pt):z1 EE 168 ([]++[ePt p]++[])=[ePt p]:=by kernel_rfl
theorem l207b(l:List Pt)(hl:l.length<=100000):∀k,k<=l.length->L207_0b 168 [] [] (((l.take k).map ptE).map eI) (l.map ePt) l.length k=some (.val (.sl 1 ((l.map ptE).map eI))):=by
 apply down
 ·rw[L207_0b_eq];simp only[Int.lt_irrefl,decide_false,za,Nat.zero_add,Nat.le_refl,decide_true,zB,List.drop_zero,List.take_length]
 ·intro k hk ih;have e1:(k:Int)<l.length:=by omega
  have e0:(0:Int)<=(k:Int):=by omega
  have hm:min k l.length=k:=by omega
  have e2:(2 * (k+1)+200) * 8<=281474976710656:=by omega
  have hx:zA 168 (z1 EE 168 ([]++[ePt l[k]]++[]))=some (.val (eI (ptE l[k]))):=(congrArg (zA 168) (cn168 l[k])).trans (c168 l[k]);rw[<-ih,L207_0b_eq];simp only[List.length_map,List.length_take,hm,e1,e0,e2,and_self,decide_true,zB,Int.toNat_natCast,zI _ l k hk,h141,zF,hx,zH,h46,zR,zS,zW];rw[wr ((k:Int)+1) (by omega),List.take_succ_eq_append_getElem hk,List.map_append,List.map_append]
  rfl
theorem c207(l:List Pt)(hl:l.length<=100000):zA 207 [.sl 2 (l.map ePt),.fn 168 [] []]=some (.val (.sl 1 ((l.map ptE).map eI))):=by
 rw[C207];simp only[zK,zM,h81,h276,Bool.and_self,zB,zQ,Yk,QR,QQ,List.length_map];rw[L207_0a_eq];by_cases h:l=[]
 ·subst h;rfl
 ·have h0:0<l.length:=List.length_pos_iff.2 h;have h1:=l207b l hl 1 (by omega)
  have hx:zA 168 (z1 EE 168 ([]++[ePt l[0]]++[]))=some (.val (eI (ptE l[0]))):=(congrArg (zA 168) (cn168 l[0])).trans (c168 l[0]);have e1:(0:Int)<l.length:=by omega
  rw[tk1 l h0] at h1;simp only[List.length_map,e1,Int.le_refl,and_self,decide_true,zB,zI _ l 0 h0,h141,zF,hx,zH,h46,zR,zS,zW];exact h1
def impE(f:Fm)(l:List Pt):Int:=zL [jM f,placesE l]
def impF(f:Fm)(l:List Pt):CR:=if impE f l=0 then impR (impAll f l (List.range f.s.tb.length) none) else .val (.tup [eSi s0,eI 0,eI (impE f l)])
theorem impE_1(f:Fm)(l:List Pt):zL [jM f,if decide ((l.length:Int)>256)=true then 5 else 0]≠0->zL [jM f,if decide ((l.length:Int)>256)=true then 5 else 0]=impE f l:=by
 intro h;unfold impE placesE;by_cases h1:256<l.length
 ·rw[if_pos h1];rw[show decide ((l.length:Int)>256)=true from decide_eq_true (by omega),if_pos rfl]
 ·rw[show decide ((l.length:Int)>256)=false from decide_eq_false (by omega)] at h ⊢
  simp only[Bool.false_eq_true,if_false] at h ⊢;unfold zL zL zL at h ⊢;by_cases h0:jM f=0
  ·rw[if_pos h0] at h;simp at h
  ·rw[if_neg h0,if_neg h0]
theorem impE_2(f:Fm)(l:List Pt)(h:zL [jM f,if decide ((l.length:Int)>256)=true then 5 else 0]=0):jM f=0/\l.length<=256/\impE f l=zL (l.map ptE):=by
 obtain⟨h1,h2⟩:=zy h;have h3:=(zy h2).1;have h4:¬256<l.length:=λhh=>by
  rw[show decide ((l.length:Int)>256)=true from decide_eq_true (by omega),if_pos rfl] at h3
  omega
 refine⟨h1,by omega,?_⟩
 unfold impE placesE;rw[h1,if_neg h4];show(if zL (l.map ptE)=0 then (0:Int) else zL (l.map ptE))=_
 split
 ·rename_i h;exact h.symm
 ·rfl
theorem c100[KnW](f:Fm)(hr:zm f.r)(l:List Pt)(hl:l.length<=100000)(hn:f.s.tb.length<=100000):zA 100 [eFm f,.sl 2 (l.map ePt)]=some (impF f l):=by
 rw[C100];simp only[zK,zM,hFm f hr,h81,Bool.and_self,zB,zR,zS,zW,zb,ze,zX,zF,zQ,c40 f hr,zH,h46,c169,qY,List.length_map];unfold impF;by_cases h0:zL [jM f,if decide ((l.length:Int)>256)=true then 5 else 0]=0
 ·obtain⟨h1,h2,h3'⟩:=impE_2 f l h0;refine(congrArg (λb=>ifO b _ _) (bne_z h0)).trans ?_
  rw[za,c207 l hl,h3'];simp only[zH,h290,zB,zQ,c148 _ (show(l.map ptE).length<=4611686018427387904 by rw[List.length_map];omega),h46,zF]
  by_cases h4:zL (l.map ptE)=0
  ·rw[bne_z h4,za,if_pos h4];exact all100 f (farm_ok h1 hr) l hl hn 0 (Nat.zero_le _) none
  ·rw[bne_n h4,zB,if_neg h4];rfl
 ·refine(congrArg (λb=>ifO b _ _) (bne_n h0)).trans ?_
  rw[zB,impE_1 f l h0,if_neg (by rw[<-impE_1 f l h0];exact h0)]
  rfl
theorem l104b(l:List Tb)(hl:l.length<=100000)(nm:ByteArray)(le:Int):∀k,k<=l.length->L104_0b (l.map eTb) l.length k nm le ((l.take k).map eTb)=some (.val (eSi ⟨nm,le,l⟩)):=by
 apply down
 ·rw[L104_0b_eq];simp only[Int.lt_irrefl,decide_false,za,Nat.zero_add,Nat.le_refl,decide_true,zB,List.drop_zero,List.take_length]
 ·intro k hk ih;have e1:(k:Int)<l.length:=by omega
  have e0:(0:Int)<=(k:Int):=by omega
  have hm:min k l.length=k:=by omega
  have e2:(2 * (k+1)+200) * 32<=281474976710656:=by omega
  rw[<-ih,L104_0b_eq];simp only[List.length_map,List.length_take,hm,e1,e0,e2,and_self,decide_true,zB,Int.toNat_natCast,zI _ l k hk,h176,zF,zX,zR,zS,zW];rw[wr ((k:Int)+1) (by omega),List.take_succ_eq_append_getElem hk,List.map_append]
  rfl
theorem c104(s:Si)(hl:s.tb.length<=100000):zA 104 [eSi s]=some (.val (eSi s)):=by
 rw[C104];simp only[zK,zM,h58,Bool.and_self,zB,zQ,zR,zS,zW,zb,zX,zF,List.length_map];rw[L104_0a_eq];by_cases h:s.tb=[]
 ·obtain⟨a,b,l⟩:=s;simp only at h;subst h;rfl
 ·have h0:0<s.tb.length:=List.length_pos_iff.2 h;have h1:=l104b s.tb hl s.name s.least 1 (by omega)
  have e1:(0:Int)<s.tb.length:=by omega
  rw[tk1 s.tb h0] at h1;simp only[List.length_map,e1,Int.le_refl,and_self,decide_true,zB,zI _ s.tb 0 h0,h176,zF,zX,zR,zS,zW];exact h1
theorem m1t(a b:Unit->Bool):ifO.match_1 (λ_=>Bool) true a b=a ():=rfl
theorem eqTb(n n':ByteArray)(a b c d:Int):eqOp EE 143 (.agg 9 [.str n,.agg 1 [eI a,eI b]]) (.agg 9 [.str n',.agg 1 [eI c,eI d]])=some ((ByteArray.toList n == ByteArray.toList n') && (((a == c) && ((b == d) && true)) && true)):=by kernel_rfl
def impRT:ImpS->Si×Int×Int
 | none=>(s0,0,7)
 | some x=>if x.1=0 then (s0,0,7) else (x.2,x.1,0)
theorem impR_eq(st:ImpS):impR st=.val (.tup [eSi (impRT st).1,eI (impRT st).2.1,eI (impRT st).2.2]):=by
 cases st with
 | none=>rfl
 | some x =>
  unfold impR impRT;dsimp only;by_cases h:x.1=0
  ·rw[if_pos h,if_pos h]
  ·rw[if_neg h,if_neg h]
def Found(f:Fm)(l:List Pt):ImpS->Prop
 | none=>True
 | some x=>∃i p,i<f.s.tb.length/\p∈l/\x.2=movS f.s i p/\z8 x.2=0/\x.1=raiseI f x.2/\0<x.1
theorem impV_0{f:Fm}{l:List Pt}{st:ImpS}(h:Found f l st):0<=impV st:=by
 cases st with
 | none=>exact Int.le_refl _
 | some x=>obtain⟨_,_,_,_,_,_,_,h⟩:=h;exact Int.le_of_lt h
theorem found_step{f:Fm}{l:List Pt}{i:Nat}(hi:i<f.s.tb.length){p:Pt}(hp:p∈l){st:ImpS}(h:Found f l st):Found f l (impStep f i st p):=by
 unfold impStep;split
 ·rename_i h1;have:=impV_0 h;exact⟨i,p,hi,hp,rfl,h1.1,rfl,by omega⟩
 ·exact h
theorem found_row{f:Fm}{l:List Pt}{i:Nat}(hi:i<f.s.tb.length):∀(m:List Pt),(∀p∈m,p∈l)->∀st,Found f l st->Found f l (m.foldl (impStep f i) st)
 | [],_,st,h=>h
 | p :: m,hm,st,h=>found_row hi m (λq hq=>hm q (by simp[hq])) _ (found_step hi (hm p (by simp)) h)
theorem found_all{f:Fm}{l:List Pt}:∀(is:List Nat),(∀i∈is,i<f.s.tb.length)->∀st,Found f l st->Found f l (impAll f l is st)
 | [],_,st,h=>h
 | i :: is,his,st,h=>found_all is (λq hq=>his q (by simp[hq])) _ (found_row (his i (by simp)) l (λ_ h=>h) st h)
theorem found(f:Fm)(l:List Pt):Found f l (impAll f l (List.range f.s.tb.length) none):=found_all _ (λi hi=>by simpa using hi) none trivial
def impT(f:Fm)(l:List Pt):Si×Int×Int:=if impE f l=0 then impRT (impAll f l (List.range f.s.tb.length) none) else (s0,0,impE f l)
theorem impF_eq(f:Fm)(l:List Pt):impF f l=.val (.tup [eSi (impT f l).1,eI (impT f l).2.1,eI (impT f l).2.2]):=by
 unfold impF impT;by_cases h:impE f l=0
 ·rw[if_pos h,if_pos h,impR_eq]
 ·rw[if_neg h,if_neg h]
end Go.Am
namespace Go.Am
open Go.Proofs
open Go
variable[OO]
def S16_1008a(v0 v1:Int)(v2:ByteArray)(v3:Int)(v4:List DV)(v5:ByteArray)(v6 v7 v8:List DV)(v9:Int)(v10:List DV)(v11:ByteArray)(v12 v13:Int):St :=
 stOf 248 [(2,(.d (.int .u8 v0))),(3,(.ptr 3 416 0 [])),(4,(.ptr 4 3 0 [])),(7,(.d (eI v1)))] [(3,(.mk false (.dc 416 [(.agg 4 [(.agg 0 [(.str v2),(eI v3),(.sl 3 v4)]),(.agg 0 [(.str v5),(.sl 1 v6),(.sl 1 v7)]),(.agg 1 [(.sl 1 v8),(eI v9)]),(.agg 3 v10)])]))),(4,(.mk false (.dc 3 [(.agg 9 [(.str v11),(.agg 1 [(eI v12),(eI v13)])])])))]
noncomputable def L16_1008a(v0 v1:Int)(v2:ByteArray)(v3:Int)(v4:List DV)(v5:ByteArray)(v6 v7 v8:List DV)(v9:Int)(v10:List DV)(v11:ByteArray)(v12 v13:Int):Option CR:=goQ 16 1008 (S16_1008a v0 v1 v2 v3 v4 v5 v6 v7 v8 v9 v10 v11 v12 v13)
def S16_0a(v0 v1 v2 v3 v4 v5:Int)(v6:ByteArray)(v7:Int)(v8:List DV)(v9:ByteArray)(v10 v11 v12:List DV)(v13:Int)(v14:List DV)(v15:ByteArray)(v16:Int)(v17:List DV):St :=
 stOf 248 [(3,(.ptr 3 416 0 [])),(7,(.d (eI v0))),(18,(.d (eI v1))),(23,(.d (eI v2))),(25,(.ptr 25 416 0 [])),(26,(.d (eI v3))),(200,(.d (eI v4))),(201,(.d (eI v5)))] [(3,(.mk false (.dc 416 [(.agg 4 [(.agg 0 [(.str v6),(eI v7),(.sl 3 v8)]),(.agg 0 [(.str v9),(.sl 1 v10),(.sl 1 v11)]),(.agg 1 [(.sl 1 v12),(eI v13)]),(.agg 3 v14)])]))),(25,(.mk false (.dc 416 [(.agg 4 [(.agg 0 [(.str v15),(eI v16),(.sl 3 v17)]),(.agg 0 [(.str v9),(.sl 1 v10),(.sl 1 v11)]),(.agg 1 [(.sl 1 v12),(eI v13)]),(.agg 3 v14)])])))]
noncomputable def L16_0a(v0 v1 v2 v3 v4 v5:Int)(v6:ByteArray)(v7:Int)(v8:List DV)(v9:ByteArray)(v10 v11 v12:List DV)(v13:Int)(v14:List DV)(v15:ByteArray)(v16:Int)(v17:List DV):Option CR:=goQ 16 0 (S16_0a v0 v1 v2 v3 v4 v5 v6 v7 v8 v9 v10 v11 v12 v13 v14 v15 v16 v17)
theorem L16_1008a_eq(v0 v1:Int)(v2:ByteArray)(v3:Int)(v4:List DV)(v5:ByteArray)(v6 v7 v8:List DV)(v9:Int)(v10:List DV)(v11:ByteArray)(v12 v13:Int):L16_1008a v0 v1 v2 v3 v4 v5 v6 v7 v8 v9 v10 v11 v12 v13 =
 ifO (!((((List.length v4):Nat):Int) == (0:Int)))
 (zC (zA 98 [(.agg 0 [(.str v2),(eI v3),(.sl 3 v4)]),(eI (Int.tmod (IntKind.wrap .i64 v0) (((List.length v4):Nat):Int))),(.agg 1 [(eI v12),(eI v13)])])
 (λr48=>ifO (hasT EE 6 24 r48)
 (zC (zA 69 [(.agg 0 [(.str (getS (nth (flds r48) 0))),(eI (getI (nth (flds r48) 1))),(.sl 3 (elems (nth (flds r48) 2)))])])
 (λr49=>ifO (hasT EE 6 3 r49)
 (ifO (bne (getI r49) 0)
 (some (.val (.bool true)))
 (zC (zA 34 [(.agg 4 [(.agg 0 [(.str v2),(eI v3),(.sl 3 v4)]),(.agg 0 [(.str v5),(.sl 1 v6),(.sl 1 v7)]),(.agg 1 [(.sl 1 v8),(eI v9)]),(.agg 3 v10)])])
 (λr50=>ifO (hasT EE 6 62 r50)
 (zC (zA 95 [(.agg 4 [(.agg 0 [(.str (getS (nth (flds (nth (flds r50) 0)) 0))),(eI (getI (nth (flds (nth (flds r50) 0)) 1))),(.sl 3 (elems (nth (flds (nth (flds r50) 0)) 2)))]),(.agg 0 [(.str (getS (nth (flds (nth (flds r50) 1)) 0))),(.sl 1 (elems (nth (flds (nth (flds r50) 1)) 1))),(.sl 1 (elems (nth (flds (nth (flds r50) 1)) 2)))]),(.agg 1 [(.sl 1 (elems (nth (flds (nth (flds r50) 2)) 0))),(eI (getI (nth (flds (nth (flds r50) 2)) 1)))]),(.agg 3 (flds (nth (flds r50) 3)))]),(eI (Int.tmod (IntKind.wrap .i64 v0) (((List.length v4):Nat):Int))),(.agg 1 [(eI v12),(eI v13)])])
 (λr51=>ifO ((DV.isTup r51) && (zP (hasT EE 6) [3,46] (tups r51)))
 (zC (zA 34 [(.agg 4 [(.agg 0 [(.str (getS (nth (flds r48) 0))),(eI (getI (nth (flds r48) 1))),(.sl 3 (elems (nth (flds r48) 2)))]),(.agg 0 [(.str v5),(.sl 1 v6),(.sl 1 v7)]),(.agg 1 [(.sl 1 v8),(eI v9)]),(.agg 3 v10)])])
 (λr52=>ifO (hasT EE 6 62 r52)
 (ifO (decide (((0:Int)<=(Int.tmod (IntKind.wrap .i64 v0) (((List.length v4):Nat):Int)))/\((Int.tmod (IntKind.wrap .i64 v0) (((List.length v4):Nat):Int))<(((List.length v4):Nat):Int))))
 (ifO (isAg 9 1 (nth v4 (Int.toNat (Int.tmod (IntKind.wrap .i64 v0) (((List.length v4):Nat):Int)))))
 (ifO (hasT EE 6 141 (nth (flds (nth v4 (Int.toNat (Int.tmod (IntKind.wrap .i64 v0) (((List.length v4):Nat):Int))))) 1))
 (zC (zA 95 [(.agg 4 [(.agg 0 [(.str (getS (nth (flds (nth (flds r52) 0)) 0))),(eI (getI (nth (flds (nth (flds r52) 0)) 1))),(.sl 3 (elems (nth (flds (nth (flds r52) 0)) 2)))]),(.agg 0 [(.str (getS (nth (flds (nth (flds r52) 1)) 0))),(.sl 1 (elems (nth (flds (nth (flds r52) 1)) 1))),(.sl 1 (elems (nth (flds (nth (flds r52) 1)) 2)))]),(.agg 1 [(.sl 1 (elems (nth (flds (nth (flds r52) 2)) 0))),(eI (getI (nth (flds (nth (flds r52) 2)) 1)))]),(.agg 3 (flds (nth (flds r52) 3)))]),(eI (Int.tmod (IntKind.wrap .i64 v0) (((List.length v4):Nat):Int))),(.agg 1 [(eI (getI (nth (flds (nth (flds (nth v4 (Int.toNat (Int.tmod (IntKind.wrap .i64 v0) (((List.length v4):Nat):Int))))) 1)) 0))),(eI (getI (nth (flds (nth (flds (nth v4 (Int.toNat (Int.tmod (IntKind.wrap .i64 v0) (((List.length v4):Nat):Int))))) 1)) 1)))])])
 (λr53=>ifO ((DV.isTup r53) && (zP (hasT EE 6) [3,46] (tups r53)))
 (zC (zA 34 [(.agg 4 [(.agg 0 [(.str v2),(eI v3),(.sl 3 v4)]),(.agg 0 [(.str v5),(.sl 1 v6),(.sl 1 v7)]),(.agg 1 [(.sl 1 v8),(eI v9)]),(.agg 3 v10)])])
 (λr54=>ifO (hasT EE 6 62 r54)
 (zC (zA 100 [(.agg 4 [(.agg 0 [(.str (getS (nth (flds (nth (flds r54) 0)) 0))),(eI (getI (nth (flds (nth (flds r54) 0)) 1))),(.sl 3 (elems (nth (flds (nth (flds r54) 0)) 2)))]),(.agg 0 [(.str (getS (nth (flds (nth (flds r54) 1)) 0))),(.sl 1 (elems (nth (flds (nth (flds r54) 1)) 1))),(.sl 1 (elems (nth (flds (nth (flds r54) 1)) 2)))]),(.agg 1 [(.sl 1 (elems (nth (flds (nth (flds r54) 2)) 0))),(eI (getI (nth (flds (nth (flds r54) 2)) 1)))]),(.agg 3 (flds (nth (flds r54) 3)))]),(.sl 2 [(.agg 1 [(eI v12),(eI v13)])])])
 (λr55=>ifO ((DV.isTup r55) && (zP (hasT EE 6) [58,3,46] (tups r55)))
 (ifO (bne (getI (nth (tups r51) 1)) (0:Int))
 (some (.val (.bool false)))
 (ifO (bne (getI (nth (tups r53) 1)) (0:Int))
 (some (.val (.bool false)))
 (ifO (bne (IntKind.wrap .i64 ((getI (nth (tups r51) 0))+(getI (nth (tups r53) 0)))) (0:Int))
 (some (.val (.bool false)))
 (ifO (bne (getI (nth (tups r55) 2)) (0:Int))
 (ifO ((getI (nth (tups r55) 2)) == (7:Int))
 (some (.val (.bool (decide ((getI (nth (tups r51) 0))<=(0:Int))))))
 (some (.val (.bool false))))
 (zC (zA 104 [(.agg 0 [(.str (getS (nth (flds (nth (tups r55) 0)) 0))),(eI (getI (nth (flds (nth (tups r55) 0)) 1))),(.sl 3 (elems (nth (flds (nth (tups r55) 0)) 2)))])])
 (λr56=>ifO (hasT EE 6 24 r56)
 (zC (zA 62 [(.agg 0 [(.str (getS (nth (flds r56) 0))),(eI (getI (nth (flds r56) 1))),(.sl 3 (elems (nth (flds r56) 2)))]),(eI 4)])
 (λr57=>ifO (hasT EE 6 4 r57)
 (ifO (!(getB r57))
 (some (.val (.bool false)))
 (ifO (bne (((List.length (elems (nth (flds r56) 2))):Nat):Int) (((List.length v4):Nat):Int))
 (some (.val (.bool false)))
 (zC (zA 69 [(.agg 0 [(.str (getS (nth (flds r56) 0))),(eI (getI (nth (flds r56) 1))),(.sl 3 (elems (nth (flds r56) 2)))])])
 (λr58=>ifO (hasT EE 6 3 r58)
 (ifO (bne (getI r58) 0)
 (some (.val (.bool false)))
 ((L16_0a v1 (getI (nth (tups r51) 0)) (getI (nth (tups r55) 1)) (0:Int) (((List.length v4):Nat):Int) (0:Int) v2 v3 v4 v5 v6 v7 v8 v9 v10 (getS (nth (flds r56) 0)) (getI (nth (flds r56) 1)) (elems (nth (flds r56) 2)))))
 (none))
 (λ_ _=>none))))
 (none))
 (λ_ _=>none))
 (none))
 (λ_ _=>none))))))
 (none))
 (λ_ _=>none))
 (none))
 (λ_ _=>none))
 (none))
 (λ_ _=>none))
 (none))
 (none))
 (none))
 (none))
 (λ_ _=>none))
 (none))
 (λ_ _=>none))
 (none))
 (λ_ _=>none)))
 (none))
 (λ_ _=>none))
 (none))
 (λ_ _=>none))
 (none) :=
 (zU 16 1008 _).trans (by kernel_rfl)
theorem L16_0a_eq(v0 v1 v2 v3 v4 v5:Int)(v6:ByteArray)(v7:Int)(v8:List DV)(v9:ByteArray)(v10 v11 v12:List DV)(v13:Int)(v14:List DV)(v15:ByteArray)(v16:Int)(v17:List DV):L16_0a v0 v1 v2 v3 v4 v5 v6 v7 v8 v9 v10 v11 v12 v13 v14 v15 v16 v17 =
 ifO (decide (v5<v4))
 (ifO (decide (((0:Int)<=v5)/\(v5<(((List.length v17):Nat):Int))))
 (ifO (hasT EE 6 143 (nth v17 (Int.toNat v5)))
 (ifO (decide (((0:Int)<=v5)/\(v5<(((List.length v8):Nat):Int))))
 (ifO (hasT EE 6 143 (nth v8 (Int.toNat v5)))
 (ifO (ifO.match_1 (λy300=>Bool) true (λy933=>(!(Option.getD (eqOp EE 143 (.agg 9 [(.str (getS (nth (flds (nth v17 (Int.toNat v5))) 0))),(.agg 1 [(eI (getI (nth (flds (nth (flds (nth v17 (Int.toNat v5))) 1)) 0))),(eI (getI (nth (flds (nth (flds (nth v17 (Int.toNat v5))) 1)) 1)))])]) (.agg 9 [(.str (getS (nth (flds (nth v8 (Int.toNat v5))) 0))),(.agg 1 [(eI (getI (nth (flds (nth (flds (nth v8 (Int.toNat v5))) 1)) 0))),(eI (getI (nth (flds (nth (flds (nth v8 (Int.toNat v5))) 1)) 1)))])])) false))) (λy916=>(Option.getD (eqOp EE 143 (.agg 9 [(.str (getS (nth (flds (nth v17 (Int.toNat v5))) 0))),(.agg 1 [(eI (getI (nth (flds (nth (flds (nth v17 (Int.toNat v5))) 1)) 0))),(eI (getI (nth (flds (nth (flds (nth v17 (Int.toNat v5))) 1)) 1)))])]) (.agg 9 [(.str (getS (nth (flds (nth v8 (Int.toNat v5))) 0))),(.agg 1 [(eI (getI (nth (flds (nth (flds (nth v8 (Int.toNat v5))) 1)) 0))),(eI (getI (nth (flds (nth (flds (nth v8 (Int.toNat v5))) 1)) 1)))])])) false)))
 ((L16_0a v0 v1 v2 (IntKind.wrap .i64 (v3+(1:Int))) v4 (IntKind.wrap .i64 (v5+(1:Int))) v6 v7 v8 v9 v10 v11 v12 v13 v14 v15 v16 v17))
 ((L16_0a v0 v1 v2 v3 v4 (IntKind.wrap .i64 (v5+(1:Int))) v6 v7 v8 v9 v10 v11 v12 v13 v14 v15 v16 v17)))
 (none))
 (none))
 (none))
 (none))
 (zC (zA 34 [(.agg 4 [(.agg 0 [(.str v15),(eI v16),(.sl 3 v17)]),(.agg 0 [(.str v9),(.sl 1 v10),(.sl 1 v11)]),(.agg 1 [(.sl 1 v12),(eI v13)]),(.agg 3 v14)])])
 (λr81=>ifO (hasT EE 6 62 r81)
 (zC (zA 30 [(.agg 4 [(.agg 0 [(.str (getS (nth (flds (nth (flds r81) 0)) 0))),(eI (getI (nth (flds (nth (flds r81) 0)) 1))),(.sl 3 (elems (nth (flds (nth (flds r81) 0)) 2)))]),(.agg 0 [(.str (getS (nth (flds (nth (flds r81) 1)) 0))),(.sl 1 (elems (nth (flds (nth (flds r81) 1)) 1))),(.sl 1 (elems (nth (flds (nth (flds r81) 1)) 2)))]),(.agg 1 [(.sl 1 (elems (nth (flds (nth (flds r81) 2)) 0))),(eI (getI (nth (flds (nth (flds r81) 2)) 1)))]),(.agg 3 (flds (nth (flds r81) 3)))])])
 (λr82=>ifO ((DV.isTup r82) && (zP (hasT EE 6) [3,46] (tups r82)))
 (ifO ((getI (nth (tups r82) 1)) == (0:Int))
 (ifO (v3 == (1:Int))
 (ifO (decide (v2>(0:Int)))
 (ifO (decide (v2>=v1))
 (some (.val (.bool ((getI (nth (tups r82) 0)) == (IntKind.wrap .i64 (v0+v2))))))
 (some (.val (.bool false))))
 (some (.val (.bool false))))
 (some (.val (.bool false))))
 (some (.val (.bool false))))
 (none))
 (λ_ _=>none))
 (none))
 (λ_ _=>none)) :=
 (zU 16 0 _).trans (by kernel_rfl)
theorem C16(x0 x1 x2:DV):zA 16 [x0,x1,x2] =
 ifO (zP (hasT EE 6) [34,143,5] [x0,x1,x2])
 (zC (zA 33 [])
 (λr0=>ifO (hasT EE 6 4 r0)
 (ifO (!(getB r0))
 (zC (zA 33 [])
 (λr1=>ifO (hasT EE 6 4 r1)
 (some (.val (.bool (getB r1))))
 (none))
 (λ_ _=>none))
 (zC (zA 21 [(.agg 4 [(.agg 0 [(.str (getS (nth (flds (nth (flds x0) 0)) 0))),(eI (getI (nth (flds (nth (flds x0) 0)) 1))),(.sl 3 (elems (nth (flds (nth (flds x0) 0)) 2)))]),(.agg 0 [(.str (getS (nth (flds (nth (flds x0) 1)) 0))),(.sl 1 (elems (nth (flds (nth (flds x0) 1)) 1))),(.sl 1 (elems (nth (flds (nth (flds x0) 1)) 2)))]),(.agg 1 [(.sl 1 (elems (nth (flds (nth (flds x0) 2)) 0))),(eI (getI (nth (flds (nth (flds x0) 2)) 1)))]),(.agg 3 (flds (nth (flds x0) 3)))]),(eI 4)])
 (λr4=>ifO (hasT EE 6 4 r4)
 (ifO (!(getB r4))
 (zC (zA 33 [])
 (λr5=>ifO (hasT EE 6 4 r5)
 (some (.val (.bool (getB r5))))
 (none))
 (λ_ _=>none))
 (zC (zA 22 [(.agg 4 [(.agg 0 [(.str (getS (nth (flds (nth (flds x0) 0)) 0))),(eI (getI (nth (flds (nth (flds x0) 0)) 1))),(.sl 3 (elems (nth (flds (nth (flds x0) 0)) 2)))]),(.agg 0 [(.str (getS (nth (flds (nth (flds x0) 1)) 0))),(.sl 1 (elems (nth (flds (nth (flds x0) 1)) 1))),(.sl 1 (elems (nth (flds (nth (flds x0) 1)) 2)))]),(.agg 1 [(.sl 1 (elems (nth (flds (nth (flds x0) 2)) 0))),(eI (getI (nth (flds (nth (flds x0) 2)) 1)))]),(.agg 3 (flds (nth (flds x0) 3)))])])
 (λr8=>ifO (hasT EE 6 3 r8)
 (ifO (bne (getI r8) 0)
 (zC (zA 33 [])
 (λr9=>ifO (hasT EE 6 4 r9)
 (some (.val (.bool (getB r9))))
 (none))
 (λ_ _=>none))
 (ifO ((((List.length (elems (nth (flds (nth (flds x0) 0)) 2))):Nat):Int) == (0:Int))
 (zC (zA 33 [])
 (λr12=>ifO (hasT EE 6 4 r12)
 (some (.val (.bool (getB r12))))
 (none))
 (λ_ _=>none))
 (ifO (decide ((((ByteArray.size (getS (nth (flds x1) 0))):Nat):Int)>(60:Int)))
 (zC (zA 33 [])
 (λr15=>ifO (hasT EE 6 4 r15)
 (some (.val (.bool (getB r15))))
 (none))
 (λ_ _=>none))
 (zC (zA 34 [(.agg 4 [(.agg 0 [(.str (getS (nth (flds (nth (flds x0) 0)) 0))),(eI (getI (nth (flds (nth (flds x0) 0)) 1))),(.sl 3 (elems (nth (flds (nth (flds x0) 0)) 2)))]),(.agg 0 [(.str (getS (nth (flds (nth (flds x0) 1)) 0))),(.sl 1 (elems (nth (flds (nth (flds x0) 1)) 1))),(.sl 1 (elems (nth (flds (nth (flds x0) 1)) 2)))]),(.agg 1 [(.sl 1 (elems (nth (flds (nth (flds x0) 2)) 0))),(eI (getI (nth (flds (nth (flds x0) 2)) 1)))]),(.agg 3 (flds (nth (flds x0) 3)))])])
 (λr18=>ifO (hasT EE 6 62 r18)
 (zC (zA 30 [(.agg 4 [(.agg 0 [(.str (getS (nth (flds (nth (flds r18) 0)) 0))),(eI (getI (nth (flds (nth (flds r18) 0)) 1))),(.sl 3 (elems (nth (flds (nth (flds r18) 0)) 2)))]),(.agg 0 [(.str (getS (nth (flds (nth (flds r18) 1)) 0))),(.sl 1 (elems (nth (flds (nth (flds r18) 1)) 1))),(.sl 1 (elems (nth (flds (nth (flds r18) 1)) 2)))]),(.agg 1 [(.sl 1 (elems (nth (flds (nth (flds r18) 2)) 0))),(eI (getI (nth (flds (nth (flds r18) 2)) 1)))]),(.agg 3 (flds (nth (flds r18) 3)))])])
 (λr19=>ifO ((DV.isTup r19) && (zP (hasT EE 6) [3,46] (tups r19)))
 (ifO (bne (getI (nth (tups r19) 1)) (0:Int))
 (some (.val (.bool false)))
 (zC (zA 96 [(.agg 0 [(.str (getS (nth (flds (nth (flds x0) 0)) 0))),(eI (getI (nth (flds (nth (flds x0) 0)) 1))),(.sl 3 (elems (nth (flds (nth (flds x0) 0)) 2)))]),(.agg 9 [(.str (getS (nth (flds x1) 0))),(.agg 1 [(eI (getI (nth (flds (nth (flds x1) 1)) 0))),(eI (getI (nth (flds (nth (flds x1) 1)) 1)))])])])
 (λr20=>ifO (hasT EE 6 24 r20)
 (zC (zA 69 [(.agg 0 [(.str (getS (nth (flds r20) 0))),(eI (getI (nth (flds r20) 1))),(.sl 3 (elems (nth (flds r20) 2)))])])
 (λr21=>ifO (hasT EE 6 3 r21)
 (ifO ((getI r21) == (0:Int))
 (zC (zA 34 [(.agg 4 [(.agg 0 [(.str (getS (nth (flds r20) 0))),(eI (getI (nth (flds r20) 1))),(.sl 3 (elems (nth (flds r20) 2)))]),(.agg 0 [(.str (getS (nth (flds (nth (flds x0) 1)) 0))),(.sl 1 (elems (nth (flds (nth (flds x0) 1)) 1))),(.sl 1 (elems (nth (flds (nth (flds x0) 1)) 2)))]),(.agg 1 [(.sl 1 (elems (nth (flds (nth (flds x0) 2)) 0))),(eI (getI (nth (flds (nth (flds x0) 2)) 1)))]),(.agg 3 (flds (nth (flds x0) 3)))])])
 (λr22=>ifO (hasT EE 6 62 r22)
 (zC (zA 30 [(.agg 4 [(.agg 0 [(.str (getS (nth (flds (nth (flds r22) 0)) 0))),(eI (getI (nth (flds (nth (flds r22) 0)) 1))),(.sl 3 (elems (nth (flds (nth (flds r22) 0)) 2)))]),(.agg 0 [(.str (getS (nth (flds (nth (flds r22) 1)) 0))),(.sl 1 (elems (nth (flds (nth (flds r22) 1)) 1))),(.sl 1 (elems (nth (flds (nth (flds r22) 1)) 2)))]),(.agg 1 [(.sl 1 (elems (nth (flds (nth (flds r22) 2)) 0))),(eI (getI (nth (flds (nth (flds r22) 2)) 1)))]),(.agg 3 (flds (nth (flds r22) 3)))])])
 (λr23=>ifO ((DV.isTup r23) && (zP (hasT EE 6) [3,46] (tups r23)))
 (zC (zA 34 [(.agg 4 [(.agg 0 [(.str (getS (nth (flds (nth (flds x0) 0)) 0))),(eI (getI (nth (flds (nth (flds x0) 0)) 1))),(.sl 3 (elems (nth (flds (nth (flds x0) 0)) 2)))]),(.agg 0 [(.str (getS (nth (flds (nth (flds x0) 1)) 0))),(.sl 1 (elems (nth (flds (nth (flds x0) 1)) 1))),(.sl 1 (elems (nth (flds (nth (flds x0) 1)) 2)))]),(.agg 1 [(.sl 1 (elems (nth (flds (nth (flds x0) 2)) 0))),(eI (getI (nth (flds (nth (flds x0) 2)) 1)))]),(.agg 3 (flds (nth (flds x0) 3)))])])
 (λr24=>ifO (hasT EE 6 62 r24)
 (zC (zA 94 [(.agg 4 [(.agg 0 [(.str (getS (nth (flds (nth (flds r24) 0)) 0))),(eI (getI (nth (flds (nth (flds r24) 0)) 1))),(.sl 3 (elems (nth (flds (nth (flds r24) 0)) 2)))]),(.agg 0 [(.str (getS (nth (flds (nth (flds r24) 1)) 0))),(.sl 1 (elems (nth (flds (nth (flds r24) 1)) 1))),(.sl 1 (elems (nth (flds (nth (flds r24) 1)) 2)))]),(.agg 1 [(.sl 1 (elems (nth (flds (nth (flds r24) 2)) 0))),(eI (getI (nth (flds (nth (flds r24) 2)) 1)))]),(.agg 3 (flds (nth (flds r24) 3)))]),(.agg 9 [(.str (getS (nth (flds x1) 0))),(.agg 1 [(eI (getI (nth (flds (nth (flds x1) 1)) 0))),(eI (getI (nth (flds (nth (flds x1) 1)) 1)))])])])
 (λr25=>ifO ((DV.isTup r25) && (zP (hasT EE 6) [3,46] (tups r25)))
 (ifO (bne (getI (nth (tups r23) 1)) (0:Int))
 (some (.val (.bool false)))
 (ifO (bne (getI (nth (tups r25) 1)) (0:Int))
 (some (.val (.bool false)))
 (ifO (bne (getI (nth (tups r25) 0)) (IntKind.wrap .i64 ((getI (nth (tups r23) 0)) - (getI (nth (tups r19) 0)))))
 (some (.val (.bool false)))
 ((L16_1008a (getI x2) (getI (nth (tups r19) 0)) (getS (nth (flds (nth (flds x0) 0)) 0)) (getI (nth (flds (nth (flds x0) 0)) 1)) (elems (nth (flds (nth (flds x0) 0)) 2)) (getS (nth (flds (nth (flds x0) 1)) 0)) (elems (nth (flds (nth (flds x0) 1)) 1)) (elems (nth (flds (nth (flds x0) 1)) 2)) (elems (nth (flds (nth (flds x0) 2)) 0)) (getI (nth (flds (nth (flds x0) 2)) 1)) (flds (nth (flds x0) 3)) (getS (nth (flds x1) 0)) (getI (nth (flds (nth (flds x1) 1)) 0)) (getI (nth (flds (nth (flds x1) 1)) 1)))))))
 (none))
 (λ_ _=>none))
 (none))
 (λ_ _=>none))
 (none))
 (λ_ _=>none))
 (none))
 (λ_ _=>none))
 ((L16_1008a (getI x2) (getI (nth (tups r19) 0)) (getS (nth (flds (nth (flds x0) 0)) 0)) (getI (nth (flds (nth (flds x0) 0)) 1)) (elems (nth (flds (nth (flds x0) 0)) 2)) (getS (nth (flds (nth (flds x0) 1)) 0)) (elems (nth (flds (nth (flds x0) 1)) 1)) (elems (nth (flds (nth (flds x0) 1)) 2)) (elems (nth (flds (nth (flds x0) 2)) 0)) (getI (nth (flds (nth (flds x0) 2)) 1)) (flds (nth (flds x0) 3)) (getS (nth (flds x1) 0)) (getI (nth (flds (nth (flds x1) 1)) 0)) (getI (nth (flds (nth (flds x1) 1)) 1)))))
 (none))
 (λ_ _=>none))
 (none))
 (λ_ _=>none)))
 (none))
 (λ_ _=>none))
 (none))
 (λ_ _=>none)))))
 (none))
 (λ_ _=>none)))
 (none))
 (λ_ _=>none)))
 (none))
 (λ_ _=>none))
 (none) :=
 (zE (f:=16) (by kernel_rfl) (by kernel_rfl) (by kernel_rfl) [x0,x1,x2]).trans (by kernel_rfl)
end Go.Am
