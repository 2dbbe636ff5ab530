/- WakeMoves: for every input the law returns true, and each argument reads afterwards as it read before. Part 1. -/
import Derived.Below
import Derived.Carry
import Derived.ChangeArms
import Derived.ChangeSame
import Derived.DataReads
import Derived.Deep.OwnRows
import Derived.Deep.RegionLaw
import Derived.Deep.RegionWith
import Derived.DeepKeys
import Derived.Ground.Names2Prog
import Derived.Ground.NamesProg
import Derived.Ground.SlgnProg
import Derived.Ground.SlsfProg
import Derived.IntWalk
import Derived.KernelRfl
import Derived.LaidMore
import Derived.Laws.AppendOwn
import Derived.Laws.CopyRow
import Derived.Laws.OwnMore
import Derived.Laws.RangeAny
import Derived.Lib.AppendIntMem
import Derived.Lib.ItoaLen
import Derived.Lib.ItoaNum
import Derived.Lib.Join
import Derived.LoopIn
import Derived.LoopN
import Derived.LoopNIn
import Derived.LoopTactic
import Derived.MapKept
import Derived.Maps.Ext
import Derived.Maps.OwnSet
import Derived.Maps.RangeWalk
import Derived.OpenShut
import Derived.Orders
import Derived.OrdersIn
import Derived.OwnWalkIn
import Derived.ProofKit
import Derived.RangeFuncBound
import Derived.RangeFuncCalls
import Derived.RangeFuncLeaves
import Derived.RangeFuncNested
import Derived.Scope
import Derived.SevenTiedAt
import Derived.Shelf.Abstract
import Derived.Shelf.LaysM
import Derived.Shelf.SlSortCmp.NoneTotal
import Derived.Shelf.Slices.Clone
import Derived.Shelf.Slices.In.SortNone
import Derived.Shelf.Slices.SearchI
import Derived.Shelf.SlicesE.Clone
import Derived.Shelf.Small.Bits
import Derived.Shelf.Sort.Plain
import Derived.Shelf.Strconv.Itoa0
import Derived.Shelf.Strconv.Itoa1
import Derived.Shelf.Strconv.Itoa2
import Derived.Shelf.Strconv.Itoa3
import Derived.Shelf.Strings.Builder1
import Derived.Shelf.Strings.Builder2
import Derived.Shelf.Strings.Count
import Derived.Shelf.Strings.Cut
import Derived.Shelf.Strings.Explode
import Derived.Shelf.Strings.OnBuilder
import Derived.Shelf.Strings.RuneCount
import Derived.Shelf.Strings.Search1
import Derived.Shelf.Strings.Search2
import Derived.Shelf.Strings.Search3
import Derived.Shelf.Strings.Shaped
import Derived.Shelf.Strings.Split
import Derived.Shelf.Strings.SplitShaped
import Derived.Shelf.Unicode.Decode
import Derived.Shelf.Unicode.DecodeAny
import Derived.Shelf.Unicode.DecodeSlow
import Derived.Shelf.Utf8.RuneCount
import Derived.Sort.LotA
import Derived.Stop.Joined
import Derived.Tactics
import Derived.Tactics2
import Derived.TacticsInMore
import Derived.Test.YtojkhldombndpaaGreatDoorCards
import Derived.Test.YtojkhldombndpaaGreatDoorProg
import Derived.Test.YtojkhldombndpaaGreatDoorRows
import Derived.Test.YtojkhldombndpaaGreatDoorTie
import Derived.WalkKit
import Derived.WideShapes
import Derived.Test.YtojkhldombndpaaGreatDoorB10
set_option linter.all false
namespace Go.Am
open Go.Proofs
open Go
@[simp] theorem h24(a1:ByteArray)(a2:Int)(a3:List DV):hasT EE 6 24 (.agg 0 [(.str a1),(.int .i64 a2),(.sl 3 a3)])=true:=by kernel_rfl
@[simp] theorem h27(a1:ByteArray)(a2:List DV)(a3:List DV):hasT EE 6 27 (.agg 0 [(.str a1),(.sl 1 a2),(.sl 1 a3)])=true:=by kernel_rfl
@[simp] theorem h29(a1:List DV)(a2:Int):hasT EE 6 29 (.agg 1 [(.sl 1 a1),(.int .i64 a2)])=true:=by kernel_rfl
@[simp] theorem h32(a1:List DV):hasT EE 6 32 (.agg 3 a1)=decide (a1.length=8):=by kernel_rfl
@[simp] theorem h34(a1:ByteArray)(a2:Int)(a3:List DV)(a4:ByteArray)(a5:List DV)(a6:List DV)(a7:List DV)(a8:Int)(a9:List DV):hasT EE 6 34 (.agg 4 [(.agg 0 [(.str a1),(.int .i64 a2),(.sl 3 a3)]),(.agg 0 [(.str a4),(.sl 1 a5),(.sl 1 a6)]),(.agg 1 [(.sl 1 a7),(.int .i64 a8)]),(.agg 3 a9)])=(decide (a9.length=8) && true):=by kernel_rfl
@[simp] theorem h143(a1:ByteArray)(a2:Int)(a3:Int):hasT EE 6 143 (.agg 9 [(.str a1),(.agg 1 [(.int .i64 a2),(.int .i64 a3)])])=true:=by kernel_rfl
end Go.Am
namespace Go.Am
open Go.Proofs
open Go
variable[OO]
def S156_0a(v0 v1:List DV)(v2:Int)(v3:ByteArray)(v4:Int)(v5:List DV)(v6:ByteArray)(v7 v8 v9:List DV)(v10:Int)(v11 v12:List DV):St :=
 stOf 49 [(4,(.ptr 4 416 0 [])),(9,(.own 16 0 (List.length v0) 1)),(10,(.d (.sl 1 v1))),(11,(.d (eI v2)))] [(4,(.mk false (.dc 416 [(.agg 4 [(.agg 0 [(.str v3),(eI v4),(.sl 3 v5)]),(.agg 0 [(.str v6),(.sl 1 v7),(.sl 1 v8)]),(.agg 1 [(.sl 1 v9),(eI v10)]),(.agg 3 v11)])]))),(16,(.mk false (.dc 1 v12)))]
noncomputable def L156_0a(v0 v1:List DV)(v2:Int)(v3:ByteArray)(v4:Int)(v5:List DV)(v6:ByteArray)(v7 v8 v9:List DV)(v10:Int)(v11 v12:List DV):Option CR:=goQ 156 0 (S156_0a v0 v1 v2 v3 v4 v5 v6 v7 v8 v9 v10 v11 v12)
theorem L156_0a_eq(v0 v1:List DV)(v2:Int)(v3:ByteArray)(v4:Int)(v5:List DV)(v6:ByteArray)(v7 v8 v9:List DV)(v10:Int)(v11 v12:List DV):L156_0a v0 v1 v2 v3 v4 v5 v6 v7 v8 v9 v10 v11 v12 =
 ifO (decide (v2<(((List.length v1):Nat):Int)))
 (ifO (decide (((0:Int)<=v2)/\(v2<(((List.length v1):Nat):Int))))
 (ifO (hasT EE 6 3 (nth v1 (Int.toNat v2)))
 (zC (zA 111 [(.agg 1 [(.sl 1 v9),(eI v10)]),(eI (getI (nth v1 (Int.toNat v2))))])
 (λr3=>ifO (hasT EE 6 3 r3)
 (ifO (decide (((0:Int)<=v2)/\(v2<(((List.length v0):Nat):Int))))
 (ifO (decide ((0+(Int.toNat v2))<(List.length v12)))
 ((L156_0a v0 v1 (IntKind.wrap .i64 (v2+(1:Int))) v3 v4 v5 v6 v7 v8 v9 v10 v11 (List.set v12 (0+(Int.toNat v2)) (eI (getI r3)))))
 (none))
 (none))
 (none))
 (λ_ _=>none))
 (none))
 (none))
 (ifO (decide ((0+(List.length v0))<=(List.length v12)))
 (some (.val (.sl 1 (List.take (List.length v0) (List.drop 0 v12)))))
 (none)) :=
 (zU 156 0 _).trans (by kernel_rfl)
theorem C156(x0 x1 x2 x3:DV):zA 156 [x0,x1,x2,x3] =
 ifO (zP (hasT EE 6) [34,3,3,3] [x0,x1,x2,x3])
 (ifO (decide (((0:Int)<=(((List.length (elems (nth (flds (nth (flds x0) 0)) 2))):Nat):Int))/\(((((List.length (elems (nth (flds (nth (flds x0) 0)) 2))):Nat):Int)=(((List.length (elems (nth (flds (nth (flds x0) 0)) 2))):Nat):Int))/\((((8:Int) * (((List.length (elems (nth (flds (nth (flds x0) 0)) 2))):Nat):Int))<=(281474976710656:Int))/\((((List.length (elems (nth (flds (nth (flds x0) 0)) 2))):Nat):Int)<=(9223372036854775807:Int))))))
 (ifO (decide ((getI x2)>=(getI (nth (flds (nth (flds x0) 2)) 1))))
 (ifO (decide ((0+(List.length (α:=DV) (List.replicate (Int.toNat (((List.length (elems (nth (flds (nth (flds x0) 0)) 2))):Nat):Int)) (eI 0))))<=(List.length (α:=DV) (List.replicate (Int.toNat (((List.length (elems (nth (flds (nth (flds x0) 0)) 2))):Nat):Int)) (eI 0)))))
 (some (.val (.sl 1 (List.take (List.length (α:=DV) (List.replicate (Int.toNat (((List.length (elems (nth (flds (nth (flds x0) 0)) 2))):Nat):Int)) (eI 0))) (List.drop 0 (List.replicate (Int.toNat (((List.length (elems (nth (flds (nth (flds x0) 0)) 2))):Nat):Int)) (eI 0)))))))
 (none))
 (zC (zA 81 [(.agg 0 [(.str (getS (nth (flds (nth (flds x0) 0)) 0))),(eI (getI (nth (flds (nth (flds x0) 0)) 1))),(.sl 3 (elems (nth (flds (nth (flds x0) 0)) 2)))]),(.agg 0 [(.str (getS (nth (flds (nth (flds x0) 1)) 0))),(.sl 1 (elems (nth (flds (nth (flds x0) 1)) 1))),(.sl 1 (elems (nth (flds (nth (flds x0) 1)) 2)))]),(eI (getI x1)),(eI (IntKind.wrap .i64 ((getI x2)+(getI x3))))])
 (λr0=>ifO (hasT EE 6 25 r0)
 ((L156_0a (List.replicate (Int.toNat (((List.length (elems (nth (flds (nth (flds x0) 0)) 2))):Nat):Int)) (eI 0)) (elems r0) (0:Int) (getS (nth (flds (nth (flds x0) 0)) 0)) (getI (nth (flds (nth (flds x0) 0)) 1)) (elems (nth (flds (nth (flds x0) 0)) 2)) (getS (nth (flds (nth (flds x0) 1)) 0)) (elems (nth (flds (nth (flds x0) 1)) 1)) (elems (nth (flds (nth (flds x0) 1)) 2)) (elems (nth (flds (nth (flds x0) 2)) 0)) (getI (nth (flds (nth (flds x0) 2)) 1)) (flds (nth (flds x0) 3)) (List.replicate (Int.toNat (((List.length (elems (nth (flds (nth (flds x0) 0)) 2))):Nat):Int)) (eI 0))))
 (none))
 (λ_ _=>none)))
 (none))
 (none) :=
 (zE (f:=156) (by kernel_rfl) (by kernel_rfl) (by kernel_rfl) [x0,x1,x2,x3]).trans (by kernel_rfl)
def S157_0a(v0 v1 v2:Int)(v3:ByteArray)(v4:Int)(v5:List DV)(v6:ByteArray)(v7 v8 v9:List DV)(v10:Int)(v11:List DV):St :=
 stOf 39 [(1,(.d (eI v0))),(2,(.ptr 2 416 0 [])),(5,(.d (eI v1))),(6,(.d (eI v2)))] [(2,(.mk false (.dc 416 [(.agg 4 [(.agg 0 [(.str v3),(eI v4),(.sl 3 v5)]),(.agg 0 [(.str v6),(.sl 1 v7),(.sl 1 v8)]),(.agg 1 [(.sl 1 v9),(eI v10)]),(.agg 3 v11)])])))]
noncomputable def L157_0a(v0 v1 v2:Int)(v3:ByteArray)(v4:Int)(v5:List DV)(v6:ByteArray)(v7 v8 v9:List DV)(v10:Int)(v11:List DV):Option CR:=goQ 157 0 (S157_0a v0 v1 v2 v3 v4 v5 v6 v7 v8 v9 v10 v11)
def S157_1a(v0 v1 v2 v3:Int)(v4:ByteArray)(v5:Int)(v6:List DV)(v7:ByteArray)(v8 v9 v10:List DV)(v11:Int)(v12:List DV):St :=
 stOf 39 [(1,(.d (eI v0))),(2,(.ptr 2 416 0 [])),(5,(.d (eI v1))),(6,(.d (eI v2))),(7,(.d (eI v3)))] [(2,(.mk false (.dc 416 [(.agg 4 [(.agg 0 [(.str v4),(eI v5),(.sl 3 v6)]),(.agg 0 [(.str v7),(.sl 1 v8),(.sl 1 v9)]),(.agg 1 [(.sl 1 v10),(eI v11)]),(.agg 3 v12)])])))]
noncomputable def L157_1a(v0 v1 v2 v3:Int)(v4:ByteArray)(v5:Int)(v6:List DV)(v7:ByteArray)(v8 v9 v10:List DV)(v11:Int)(v12:List DV):Option CR:=goQ 157 1 (S157_1a v0 v1 v2 v3 v4 v5 v6 v7 v8 v9 v10 v11 v12)
theorem L157_0a_eq(v0 v1 v2:Int)(v3:ByteArray)(v4:Int)(v5:List DV)(v6:ByteArray)(v7 v8 v9:List DV)(v10:Int)(v11:List DV):L157_0a v0 v1 v2 v3 v4 v5 v6 v7 v8 v9 v10 v11 =
 ifO (decide (v2<(8:Int)))
 ((L157_1a v0 v1 v2 (0:Int) v3 v4 v5 v6 v7 v8 v9 v10 v11))
 (some (.val (eI v1))) :=
 (zU 157 0 _).trans (by kernel_rfl)
theorem L157_1a_eq(v0 v1 v2 v3:Int)(v4:ByteArray)(v5:Int)(v6:List DV)(v7:ByteArray)(v8 v9 v10:List DV)(v11:Int)(v12:List DV):L157_1a v0 v1 v2 v3 v4 v5 v6 v7 v8 v9 v10 v11 v12 =
 ifO (decide (v3<=(50:Int)))
 (ifO (decide (((0:Int)<=v2)/\(v2<(8:Int))))
 (ifO (decide (((0:Int)<=v3)/\(v3<(51:Int))))
 (ifO (isAg 3 (Int.toNat v2) (.agg 3 v12))
 (ifO (isAg 2 (Int.toNat v3) (nth v12 (Int.toNat v2)))
 (ifO (hasT EE 6 3 (nth (flds (nth v12 (Int.toNat v2))) (Int.toNat v3)))
 (ifO (decide ((getI (nth (flds (nth v12 (Int.toNat v2))) (Int.toNat v3)))>(0:Int)))
 (ifO (decide (((0:Int)<=v2)/\(v2<(8:Int))))
 (ifO (decide (((0:Int)<=v3)/\(v3<(51:Int))))
 (ifO (isAg 3 (Int.toNat v2) (.agg 3 v12))
 (ifO (isAg 2 (Int.toNat v3) (nth v12 (Int.toNat v2)))
 (ifO (hasT EE 6 3 (nth (flds (nth v12 (Int.toNat v2))) (Int.toNat v3)))
 (zC (zA 156 [(.agg 4 [(.agg 0 [(.str v4),(eI v5),(.sl 3 v6)]),(.agg 0 [(.str v7),(.sl 1 v8),(.sl 1 v9)]),(.agg 1 [(.sl 1 v10),(eI v11)]),(.agg 3 v12)]),(eI v2),(eI v3),(eI v0)])
 (λr0=>ifO (hasT EE 6 25 r0)
 (zC (zA 238 [(.sl 1 (elems r0))])
 (λr1=>ifO (hasT EE 6 3 r1)
 ((L157_1a v0 (IntKind.wrap .i64 (v1+(IntKind.wrap .i64 ((getI (nth (flds (nth v12 (Int.toNat v2))) (Int.toNat v3))) * (getI r1))))) v2 (IntKind.wrap .i64 (v3+(1:Int))) v4 v5 v6 v7 v8 v9 v10 v11 v12))
 (none))
 (λ_ _=>none))
 (none))
 (λ_ _=>none))
 (none))
 (none))
 (none))
 (none))
 (none))
 ((L157_1a v0 v1 v2 (IntKind.wrap .i64 (v3+(1:Int))) v4 v5 v6 v7 v8 v9 v10 v11 v12)))
 (none))
 (none))
 (none))
 (none))
 (none))
 ((L157_0a v0 v1 (IntKind.wrap .i64 (v2+(1:Int))) v4 v5 v6 v7 v8 v9 v10 v11 v12)) :=
 (zU 157 1 _).trans (by kernel_rfl)
theorem C157(x0 x1:DV):zA 157 [x0,x1] =
 ifO (zP (hasT EE 6) [34,3] [x0,x1])
 ((L157_0a (getI x1) (0:Int) (0:Int) (getS (nth (flds (nth (flds x0) 0)) 0)) (getI (nth (flds (nth (flds x0) 0)) 1)) (elems (nth (flds (nth (flds x0) 0)) 2)) (getS (nth (flds (nth (flds x0) 1)) 0)) (elems (nth (flds (nth (flds x0) 1)) 1)) (elems (nth (flds (nth (flds x0) 1)) 2)) (elems (nth (flds (nth (flds x0) 2)) 0)) (getI (nth (flds (nth (flds x0) 2)) 1)) (flds (nth (flds x0) 3))))
 (none) :=
 (zE (f:=157) (by kernel_rfl) (by kernel_rfl) (by kernel_rfl) [x0,x1]).trans (by kernel_rfl)
theorem C39(x0:DV):zA 39 [x0] =
 ifO (zP (hasT EE 6) [34] [x0])
 (zC (zA 157 [(.agg 4 [(.agg 0 [(.str (getS (nth (flds (nth (flds x0) 0)) 0))),(eI (getI (nth (flds (nth (flds x0) 0)) 1))),(.sl 3 (elems (nth (flds (nth (flds x0) 0)) 2)))]),(.agg 0 [(.str (getS (nth (flds (nth (flds x0) 1)) 0))),(.sl 1 (elems (nth (flds (nth (flds x0) 1)) 1))),(.sl 1 (elems (nth (flds (nth (flds x0) 1)) 2)))]),(.agg 1 [(.sl 1 (elems (nth (flds (nth (flds x0) 2)) 0))),(eI (getI (nth (flds (nth (flds x0) 2)) 1)))]),(.agg 3 (flds (nth (flds x0) 3)))]),(eI 0)])
 (λr0=>ifO (hasT EE 6 3 r0)
 (some (.val (eI (getI r0))))
 (none))
 (λ_ _=>none))
 (none) :=
 (zE (f:=39) (by kernel_rfl) (by kernel_rfl) (by kernel_rfl) [x0]).trans (by kernel_rfl)
theorem C111(x0 x1:DV):zA 111 [x0,x1] =
 ifO (zP (hasT EE 6) [29,3] [x0,x1])
 (ifO (decide ((IntKind.wrap .i64 (Int.tdiv (getI x1) (256:Int)))>=(IntKind.wrap .i64 ((((List.length (elems (nth (flds x0) 0))):Nat):Int) - (1:Int)))))
 (ifO (decide (((0:Int)<=(IntKind.wrap .i64 ((((List.length (elems (nth (flds x0) 0))):Nat):Int) - (1:Int))))/\((IntKind.wrap .i64 ((((List.length (elems (nth (flds x0) 0))):Nat):Int) - (1:Int)))<(((List.length (elems (nth (flds x0) 0))):Nat):Int))))
 (ifO (hasT EE 6 3 (nth (elems (nth (flds x0) 0)) (Int.toNat (IntKind.wrap .i64 ((((List.length (elems (nth (flds x0) 0))):Nat):Int) - (1:Int))))))
 (some (.val (eI (IntKind.wrap .i64 ((256:Int) * (getI (nth (elems (nth (flds x0) 0)) (Int.toNat (IntKind.wrap .i64 ((((List.length (elems (nth (flds x0) 0))):Nat):Int) - (1:Int)))))))))))
 (none))
 (none))
 (ifO (decide (((0:Int)<=(IntKind.wrap .i64 (Int.tdiv (getI x1) (256:Int))))/\((IntKind.wrap .i64 (Int.tdiv (getI x1) (256:Int)))<(((List.length (elems (nth (flds x0) 0))):Nat):Int))))
 (ifO (hasT EE 6 3 (nth (elems (nth (flds x0) 0)) (Int.toNat (IntKind.wrap .i64 (Int.tdiv (getI x1) (256:Int))))))
 (ifO (decide (((0:Int)<=(IntKind.wrap .i64 ((IntKind.wrap .i64 (Int.tdiv (getI x1) (256:Int)))+(1:Int))))/\((IntKind.wrap .i64 ((IntKind.wrap .i64 (Int.tdiv (getI x1) (256:Int)))+(1:Int)))<(((List.length (elems (nth (flds x0) 0))):Nat):Int))))
 (ifO (hasT EE 6 3 (nth (elems (nth (flds x0) 0)) (Int.toNat (IntKind.wrap .i64 ((IntKind.wrap .i64 (Int.tdiv (getI x1) (256:Int)))+(1:Int))))))
 (ifO (decide (((0:Int)<=(IntKind.wrap .i64 (Int.tdiv (getI x1) (256:Int))))/\((IntKind.wrap .i64 (Int.tdiv (getI x1) (256:Int)))<(((List.length (elems (nth (flds x0) 0))):Nat):Int))))
 (ifO (hasT EE 6 3 (nth (elems (nth (flds x0) 0)) (Int.toNat (IntKind.wrap .i64 (Int.tdiv (getI x1) (256:Int))))))
 (some (.val (eI (IntKind.wrap .i64 ((IntKind.wrap .i64 ((256:Int) * (getI (nth (elems (nth (flds x0) 0)) (Int.toNat (IntKind.wrap .i64 (Int.tdiv (getI x1) (256:Int))))))))+(IntKind.wrap .i64 ((IntKind.wrap .i64 ((getI (nth (elems (nth (flds x0) 0)) (Int.toNat (IntKind.wrap .i64 ((IntKind.wrap .i64 (Int.tdiv (getI x1) (256:Int)))+(1:Int)))))) - (getI (nth (elems (nth (flds x0) 0)) (Int.toNat (IntKind.wrap .i64 (Int.tdiv (getI x1) (256:Int)))))))) * (IntKind.wrap .i64 ((getI x1) - (IntKind.wrap .i64 ((256:Int) * (IntKind.wrap .i64 (Int.tdiv (getI x1) (256:Int))))))))))))))
 (none))
 (none))
 (none))
 (none))
 (none))
 (none)))
 (none) :=
 (zE (f:=111) (by kernel_rfl) (by kernel_rfl) (by kernel_rfl) [x0,x1]).trans (by kernel_rfl)
def S110_0a(v0:Int)(v1:List DV)(v2:Int):St :=
 stOf 60 [(1,(.ptr 1 2 0 [])),(3,(.d (eI v0)))] [(1,(.mk false (.dc 2 [(.agg 1 [(.sl 1 v1),(eI v2)])])))]
noncomputable def L110_0a(v0:Int)(v1:List DV)(v2:Int):Option CR:=goQ 110 0 (S110_0a v0 v1 v2)
theorem L110_0a_eq(v0:Int)(v1:List DV)(v2:Int):L110_0a v0 v1 v2 =
 ifO (decide (v0<(((List.length v1):Nat):Int)))
 (ifO (decide (((0:Int)<=v0)/\(v0<(((List.length v1):Nat):Int))))
 (ifO (hasT EE 6 3 (nth v1 (Int.toNat v0)))
 (zC (zA 37 [(eI (getI (nth v1 (Int.toNat v0)))),(eI 0),(eI 100000)])
 (λr0=>ifO (hasT EE 6 3 r0)
 (ifO (bne (getI r0) 0)
 (some (.val (eI (getI r0))))
 (ifO (decide (v0>(0:Int)))
 (ifO (decide (((0:Int)<=v0)/\(v0<(((List.length v1):Nat):Int))))
 (ifO (hasT EE 6 3 (nth v1 (Int.toNat v0)))
 (ifO (decide (((0:Int)<=(IntKind.wrap .i64 (v0 - (1:Int))))/\((IntKind.wrap .i64 (v0 - (1:Int)))<(((List.length v1):Nat):Int))))
 (ifO (hasT EE 6 3 (nth v1 (Int.toNat (IntKind.wrap .i64 (v0 - (1:Int))))))
 (ifO (decide ((getI (nth v1 (Int.toNat v0)))<(getI (nth v1 (Int.toNat (IntKind.wrap .i64 (v0 - (1:Int))))))))
 (some (.val (eI 11)))
 (ifO (v0 == (0:Int))
 (ifO (decide (((0:Int)<=v0)/\(v0<(((List.length v1):Nat):Int))))
 (ifO (hasT EE 6 3 (nth v1 (Int.toNat v0)))
 (ifO (bne (getI (nth v1 (Int.toNat v0))) (0:Int))
 (some (.val (eI 6)))
 ((L110_0a (IntKind.wrap .i64 (v0+(1:Int))) v1 v2)))
 (none))
 (none))
 ((L110_0a (IntKind.wrap .i64 (v0+(1:Int))) v1 v2))))
 (none))
 (none))
 (none))
 (none))
 (ifO (v0 == (0:Int))
 (ifO (decide (((0:Int)<=v0)/\(v0<(((List.length v1):Nat):Int))))
 (ifO (hasT EE 6 3 (nth v1 (Int.toNat v0)))
 (ifO (bne (getI (nth v1 (Int.toNat v0))) (0:Int))
 (some (.val (eI 6)))
 ((L110_0a (IntKind.wrap .i64 (v0+(1:Int))) v1 v2)))
 (none))
 (none))
 ((L110_0a (IntKind.wrap .i64 (v0+(1:Int))) v1 v2)))))
 (none))
 (λ_ _=>none))
 (none))
 (none))
 (zC (zA 37 [(eI v2),(eI 1),(eI 51)])
 (λr3=>ifO (hasT EE 6 3 r3)
 (some (.val (eI (getI r3))))
 (none))
 (λ_ _=>none)) :=
 (zU 110 0 _).trans (by kernel_rfl)
theorem C110(x0:DV):zA 110 [x0] =
 ifO (zP (hasT EE 6) [29] [x0])
 (ifO (decide ((((List.length (elems (nth (flds x0) 0))):Nat):Int)<(2:Int)))
 (some (.val (eI 2)))
 (ifO (decide ((((List.length (elems (nth (flds x0) 0))):Nat):Int)>(51:Int)))
 (some (.val (eI 2)))
 ((L110_0a (0:Int) (elems (nth (flds x0) 0)) (getI (nth (flds x0) 1))))))
 (none) :=
 (zE (f:=110) (by kernel_rfl) (by kernel_rfl) (by kernel_rfl) [x0]).trans (by kernel_rfl)
theorem C22(x0:DV):zA 22 [x0] =
 ifO (zP (hasT EE 6) [34] [x0])
 (zC (zA 69 [(.agg 0 [(.str (getS (nth (flds (nth (flds x0) 0)) 0))),(eI (getI (nth (flds (nth (flds x0) 0)) 1))),(.sl 3 (elems (nth (flds (nth (flds x0) 0)) 2)))])])
 (λr0=>ifO (hasT EE 6 3 r0)
 (zC (zA 71 [(.agg 0 [(.str (getS (nth (flds (nth (flds x0) 1)) 0))),(.sl 1 (elems (nth (flds (nth (flds x0) 1)) 1))),(.sl 1 (elems (nth (flds (nth (flds x0) 1)) 2)))])])
 (λr1=>ifO (hasT EE 6 3 r1)
 (zC (zA 110 [(.agg 1 [(.sl 1 (elems (nth (flds (nth (flds x0) 2)) 0))),(eI (getI (nth (flds (nth (flds x0) 2)) 1)))])])
 (λr2=>ifO (hasT EE 6 3 r2)
 (zC (zA 129 [(.agg 3 (flds (nth (flds x0) 3)))])
 (λr3=>ifO (hasT EE 6 3 r3)
 (zC (zA 35 [(.sl 1 [(eI (getI r0)),(eI (getI r1)),(eI (getI r2)),(eI (getI r3))])])
 (λr4=>ifO (hasT EE 6 3 r4)
 (some (.val (eI (getI r4))))
 (none))
 (λ_ _=>none))
 (none))
 (λ_ _=>none))
 (none))
 (λ_ _=>none))
 (none))
 (λ_ _=>none))
 (none))
 (λ_ _=>none))
 (none) :=
 (zE (f:=22) (by kernel_rfl) (by kernel_rfl) (by kernel_rfl) [x0]).trans (by kernel_rfl)
theorem C21(x0 x1:DV):zA 21 [x0,x1] =
 ifO (zP (hasT EE 6) [34,3] [x0,x1])
 (zC (zA 62 [(.agg 0 [(.str (getS (nth (flds (nth (flds x0) 0)) 0))),(eI (getI (nth (flds (nth (flds x0) 0)) 1))),(.sl 3 (elems (nth (flds (nth (flds x0) 0)) 2)))]),(eI (getI x1))])
 (λr0=>ifO (hasT EE 6 4 r0)
 (ifO (getB r0)
 (zC (zA 63 [(.agg 0 [(.str (getS (nth (flds (nth (flds x0) 1)) 0))),(.sl 1 (elems (nth (flds (nth (flds x0) 1)) 1))),(.sl 1 (elems (nth (flds (nth (flds x0) 1)) 2)))])])
 (λr1=>ifO (hasT EE 6 4 r1)
 (ifO (getB r1)
 (zC (zA 105 [(.agg 1 [(.sl 1 (elems (nth (flds (nth (flds x0) 2)) 0))),(eI (getI (nth (flds (nth (flds x0) 2)) 1)))])])
 (λr2=>ifO (hasT EE 6 4 r2)
 (ifO (getB r2)
 (zC (zA 128 [(.agg 3 (flds (nth (flds x0) 3)))])
 (λr3=>ifO (hasT EE 6 3 r3)
 (some (.val (.bool (decide ((getI r3)<=(6:Int))))))
 (none))
 (λ_ _=>none))
 (some (.val (.bool false))))
 (none))
 (λ_ _=>none))
 (some (.val (.bool false))))
 (none))
 (λ_ _=>none))
 (some (.val (.bool false))))
 (none))
 (λ_ _=>none))
 (none) :=
 (zE (f:=21) (by kernel_rfl) (by kernel_rfl) (by kernel_rfl) [x0,x1]).trans (by kernel_rfl)
theorem C63(x0:DV):zA 63 [x0] =
 ifO (zP (hasT EE 6) [27] [x0])
 (ifO (decide ((((ByteArray.size (getS (nth (flds x0) 0))):Nat):Int)<=(40:Int)))
 (ifO (decide ((((List.length (elems (nth (flds x0) 1))):Nat):Int)<=(6:Int)))
 (ifO (decide ((((List.length (elems (nth (flds x0) 2))):Nat):Int)<=(6:Int)))
 (some (.val (.bool true)))
 (some (.val (.bool ((((List.length (elems (nth (flds x0) 2))):Nat):Int) == (33:Int))))))
 (ifO ((((List.length (elems (nth (flds x0) 1))):Nat):Int) == (33:Int))
 (ifO (decide ((((List.length (elems (nth (flds x0) 2))):Nat):Int)<=(6:Int)))
 (some (.val (.bool true)))
 (some (.val (.bool ((((List.length (elems (nth (flds x0) 2))):Nat):Int) == (33:Int))))))
 (some (.val (.bool false)))))
 (some (.val (.bool false))))
 (none) :=
 (zE (f:=63) (by kernel_rfl) (by kernel_rfl) (by kernel_rfl) [x0]).trans (by kernel_rfl)
def S128_0a(v0 v1:Int)(v2:List DV):St :=
 stOf 23 [(1,(.ptr 1 408 0 [])),(3,(.d (eI v0))),(4,(.d (eI v1)))] [(1,(.mk false (.dc 408 [(.agg 3 v2)])))]
noncomputable def L128_0a(v0 v1:Int)(v2:List DV):Option CR:=goQ 128 0 (S128_0a v0 v1 v2)
def S128_1a(v0 v1 v2:Int)(v3:List DV):St :=
 stOf 23 [(1,(.ptr 1 408 0 [])),(3,(.d (eI v0))),(4,(.d (eI v1))),(5,(.d (eI v2)))] [(1,(.mk false (.dc 408 [(.agg 3 v3)])))]
noncomputable def L128_1a(v0 v1 v2:Int)(v3:List DV):Option CR:=goQ 128 1 (S128_1a v0 v1 v2 v3)
theorem L128_0a_eq(v0 v1:Int)(v2:List DV):L128_0a v0 v1 v2 =
 ifO (decide (v1<(8:Int)))
 ((L128_1a v0 v1 (0:Int) v2))
 (some (.val (eI v0))) :=
 (zU 128 0 _).trans (by kernel_rfl)
theorem L128_1a_eq(v0 v1 v2:Int)(v3:List DV):L128_1a v0 v1 v2 v3 =
 ifO (decide (v2<=(50:Int)))
 (ifO (decide (((0:Int)<=v1)/\(v1<(8:Int))))
 (ifO (decide (((0:Int)<=v2)/\(v2<(51:Int))))
 (ifO (isAg 3 (Int.toNat v1) (.agg 3 v3))
 (ifO (isAg 2 (Int.toNat v2) (nth v3 (Int.toNat v1)))
 (ifO (hasT EE 6 3 (nth (flds (nth v3 (Int.toNat v1))) (Int.toNat v2)))
 (ifO (decide ((getI (nth (flds (nth v3 (Int.toNat v1))) (Int.toNat v2)))>(0:Int)))
 ((L128_1a (IntKind.wrap .i64 (v0+(1:Int))) v1 (IntKind.wrap .i64 (v2+(1:Int))) v3))
 ((L128_1a v0 v1 (IntKind.wrap .i64 (v2+(1:Int))) v3)))
 (none))
 (none))
 (none))
 (none))
 (none))
 ((L128_0a v0 (IntKind.wrap .i64 (v1+(1:Int))) v3)) :=
 (zU 128 1 _).trans (by kernel_rfl)
theorem C128(x0:DV):zA 128 [x0] =
 ifO (zP (hasT EE 6) [32] [x0])
 ((L128_0a (0:Int) (0:Int) (flds x0)))
 (none) :=
 (zE (f:=128) (by kernel_rfl) (by kernel_rfl) (by kernel_rfl) [x0]).trans (by kernel_rfl)
theorem C105(x0:DV):zA 105 [x0] =
 ifO (zP (hasT EE 6) [29] [x0])
 (some (.val (.bool (decide ((((List.length (elems (nth (flds x0) 0))):Nat):Int)<=(52:Int))))))
 (none) :=
 (zE (f:=105) (by kernel_rfl) (by kernel_rfl) (by kernel_rfl) [x0]).trans (by kernel_rfl)
end Go.Am
namespace Go.Am
open Go.Proofs
open Go
variable[OO]
theorem C34(x0:DV):zA 34 [x0] =
 ifO (zP (hasT EE 6) [34] [x0])
 (zC (zA 65 [(.agg 0 [(.str (getS (nth (flds (nth (flds x0) 0)) 0))),(eI (getI (nth (flds (nth (flds x0) 0)) 1))),(.sl 3 (elems (nth (flds (nth (flds x0) 0)) 2)))])])
 (λr0=>ifO (hasT EE 6 58 r0)
 (zC (zA 67 [(.agg 0 [(.str (getS (nth (flds (nth (flds x0) 1)) 0))),(.sl 1 (elems (nth (flds (nth (flds x0) 1)) 1))),(.sl 1 (elems (nth (flds (nth (flds x0) 1)) 2)))])])
 (λr1=>ifO (hasT EE 6 59 r1)
 (zC (zA 107 [(.agg 1 [(.sl 1 (elems (nth (flds (nth (flds x0) 2)) 0))),(eI (getI (nth (flds (nth (flds x0) 2)) 1)))])])
 (λr2=>ifO (hasT EE 6 60 r2)
 (some (.val (.agg 4 [(.agg 0 [(.str (getS (nth (flds r0) 0))),(eI (getI (nth (flds r0) 1))),(.sl 3 (elems (nth (flds r0) 2)))]),(.agg 0 [(.str (getS (nth (flds r1) 0))),(.sl 1 (elems (nth (flds r1) 1))),(.sl 1 (elems (nth (flds r1) 2)))]),(.agg 1 [(.sl 1 (elems (nth (flds r2) 0))),(eI (getI (nth (flds r2) 1)))]),(.agg 3 (flds (nth (flds x0) 3)))])))
 (none))
 (λ_ _=>none))
 (none))
 (λ_ _=>none))
 (none))
 (λ_ _=>none))
 (none) :=
 (zE (f:=34) (by kernel_rfl) (by kernel_rfl) (by kernel_rfl) [x0]).trans (by kernel_rfl)
theorem C56(x0:DV):zA 56 [x0] =
 ifO (zP (hasT EE 6) [25] [x0])
 (ifO (decide ((((2 * (0+(List.length (elems x0))))+200) * 8)<=281474976710656))
 (ifO (List.isEmpty (elems x0))
 (some (.val (.sl 1 [])))
 (ifO (decide ((0+(List.length ([]++(elems x0))))<=(List.length ([]++(elems x0)))))
 (some (.val (.sl 1 (List.take (List.length ([]++(elems x0))) (List.drop 0 ([]++(elems x0)))))))
 (none)))
 (none))
 (none) :=
 (zE (f:=56) (by kernel_rfl) (by kernel_rfl) (by kernel_rfl) [x0]).trans (by kernel_rfl)
theorem C67(x0:DV):zA 67 [x0] =
 ifO (zP (hasT EE 6) [27] [x0])
 (zC (zA 56 [(.sl 1 (elems (nth (flds x0) 1)))])
 (λr0=>ifO (hasT EE 6 25 r0)
 (zC (zA 56 [(.sl 1 (elems (nth (flds x0) 2)))])
 (λr1=>ifO (hasT EE 6 25 r1)
 (some (.val (.agg 0 [(.str (getS (nth (flds x0) 0))),(.sl 1 (elems r0)),(.sl 1 (elems r1))])))
 (none))
 (λ_ _=>none))
 (none))
 (λ_ _=>none))
 (none) :=
 (zE (f:=67) (by kernel_rfl) (by kernel_rfl) (by kernel_rfl) [x0]).trans (by kernel_rfl)
theorem C107(x0:DV):zA 107 [x0] =
 ifO (zP (hasT EE 6) [29] [x0])
 (zC (zA 56 [(.sl 1 (elems (nth (flds x0) 0)))])
 (λr0=>ifO (hasT EE 6 25 r0)
 (some (.val (.agg 1 [(.sl 1 (elems r0)),(eI (getI (nth (flds x0) 1)))])))
 (none))
 (λ_ _=>none))
 (none) :=
 (zE (f:=107) (by kernel_rfl) (by kernel_rfl) (by kernel_rfl) [x0]).trans (by kernel_rfl)
end Go.Am
namespace Go.Am
open Go.Proofs
open Go
variable[OO]
def S71_0a(v0:Int)(v1:ByteArray)(v2 v3:List DV):St :=
 stOf 91 [(1,(.ptr 1 3 0 [])),(3,(.d (eI v0)))] [(1,(.mk false (.dc 3 [(.agg 0 [(.str v1),(.sl 1 v2),(.sl 1 v3)])])))]
noncomputable def L71_0a(v0:Int)(v1:ByteArray)(v2 v3:List DV):Option CR:=goQ 71 0 (S71_0a v0 v1 v2 v3)
def S71_1a(v0:Int)(v1:ByteArray)(v2 v3:List DV):St :=
 stOf 91 [(1,(.ptr 1 3 0 [])),(5,(.d (eI v0)))] [(1,(.mk false (.dc 3 [(.agg 0 [(.str v1),(.sl 1 v2),(.sl 1 v3)])])))]
noncomputable def L71_1a(v0:Int)(v1:ByteArray)(v2 v3:List DV):Option CR:=goQ 71 1 (S71_1a v0 v1 v2 v3)
theorem L71_0a_eq(v0:Int)(v1:ByteArray)(v2 v3:List DV):L71_0a v0 v1 v2 v3 =
 ifO (decide (v0<(((List.length v2):Nat):Int)))
 (ifO (decide (((0:Int)<=v0)/\(v0<(((List.length v2):Nat):Int))))
 (ifO (hasT EE 6 3 (nth v2 (Int.toNat v0)))
 (zC (zA 37 [(eI (getI (nth v2 (Int.toNat v0)))),(eI 0),(eI 256)])
 (λr6=>ifO (hasT EE 6 3 r6)
 (ifO (bne (getI r6) 0)
 (some (.val (eI (getI r6))))
 (ifO (decide (v0>(0:Int)))
 (ifO (decide (((0:Int)<=v0)/\(v0<(((List.length v2):Nat):Int))))
 (ifO (hasT EE 6 3 (nth v2 (Int.toNat v0)))
 (ifO (decide (((0:Int)<=(IntKind.wrap .i64 (v0 - (1:Int))))/\((IntKind.wrap .i64 (v0 - (1:Int)))<(((List.length v2):Nat):Int))))
 (ifO (hasT EE 6 3 (nth v2 (Int.toNat (IntKind.wrap .i64 (v0 - (1:Int))))))
 (ifO (decide ((getI (nth v2 (Int.toNat v0)))>(getI (nth v2 (Int.toNat (IntKind.wrap .i64 (v0 - (1:Int))))))))
 (some (.val (eI 11)))
 ((L71_0a (IntKind.wrap .i64 (v0+(1:Int))) v1 v2 v3)))
 (none))
 (none))
 (none))
 (none))
 ((L71_0a (IntKind.wrap .i64 (v0+(1:Int))) v1 v2 v3))))
 (none))
 (λ_ _=>none))
 (none))
 (none))
 ((L71_1a (0:Int) v1 v2 v3)) :=
 (zU 71 0 _).trans (by kernel_rfl)
theorem L71_1a_eq(v0:Int)(v1:ByteArray)(v2 v3:List DV):L71_1a v0 v1 v2 v3 =
 ifO (decide (v0<(((List.length v3):Nat):Int)))
 (ifO (decide (((0:Int)<=v0)/\(v0<(((List.length v3):Nat):Int))))
 (ifO (hasT EE 6 3 (nth v3 (Int.toNat v0)))
 (zC (zA 37 [(eI (getI (nth v3 (Int.toNat v0)))),(eI 0),(eI 100)])
 (λr9=>ifO (hasT EE 6 3 r9)
 (ifO (bne (getI r9) 0)
 (some (.val (eI (getI r9))))
 (ifO (decide (v0>(0:Int)))
 (ifO (decide (((0:Int)<=v0)/\(v0<(((List.length v3):Nat):Int))))
 (ifO (hasT EE 6 3 (nth v3 (Int.toNat v0)))
 (ifO (decide (((0:Int)<=(IntKind.wrap .i64 (v0 - (1:Int))))/\((IntKind.wrap .i64 (v0 - (1:Int)))<(((List.length v3):Nat):Int))))
 (ifO (hasT EE 6 3 (nth v3 (Int.toNat (IntKind.wrap .i64 (v0 - (1:Int))))))
 (ifO (decide ((getI (nth v3 (Int.toNat v0)))<(getI (nth v3 (Int.toNat (IntKind.wrap .i64 (v0 - (1:Int))))))))
 (some (.val (eI 11)))
 ((L71_1a (IntKind.wrap .i64 (v0+(1:Int))) v1 v2 v3)))
 (none))
 (none))
 (none))
 (none))
 ((L71_1a (IntKind.wrap .i64 (v0+(1:Int))) v1 v2 v3))))
 (none))
 (λ_ _=>none))
 (none))
 (none))
 (some (.val (eI 0))) :=
 (zU 71 1 _).trans (by kernel_rfl)
theorem C71(x0:DV):zA 71 [x0] =
 ifO (zP (hasT EE 6) [27] [x0])
 (zC (zA 92 [])
 (λr0=>ifO (hasT EE 6 173 r0)
 (zC (zA 193 [(.sl 1 (elems r0)),(.str (getS (nth (flds x0) 0)))])
 (λr1=>ifO (hasT EE 6 4 r1)
 (ifO (!(getB r1))
 (some (.val (eI 13)))
 (ifO ((((List.length (elems (nth (flds x0) 1))):Nat):Int) == (0:Int))
 (some (.val (eI 12)))
 (ifO (decide ((((List.length (elems (nth (flds x0) 1))):Nat):Int)>(32:Int)))
 (some (.val (eI 5)))
 (ifO (bne (((List.length (elems (nth (flds x0) 2))):Nat):Int) (((List.length (elems (nth (flds x0) 1))):Nat):Int))
 (some (.val (eI 2)))
 ((L71_0a (0:Int) (getS (nth (flds x0) 0)) (elems (nth (flds x0) 1)) (elems (nth (flds x0) 2))))))))
 (none))
 (λ_ _=>none))
 (none))
 (λ_ _=>none))
 (none) :=
 (zE (f:=71) (by kernel_rfl) (by kernel_rfl) (by kernel_rfl) [x0]).trans (by kernel_rfl)
theorem C72(x0 x1 x2:DV):zA 72 [x0,x1,x2] =
 ifO (zP (hasT EE 6) [141,141,3] [x0,x1,x2])
 (zC (zA 194 [(eI (getI x2))])
 (λr0=>ifO (hasT EE 6 141 r0)
 (zC (zA 195 [(.agg 1 [(eI (IntKind.wrap .i64 ((getI (nth (flds x1) 0)) - (getI (nth (flds x0) 0))))),(eI (IntKind.wrap .i64 ((getI (nth (flds x1) 1)) - (getI (nth (flds x0) 1)))))]),(eI (getI x2))])
 (λr1=>ifO (hasT EE 6 3 r1)
 (ifO ((Int.tmod (getI x2) (2:Int)) == (1:Int))
 (zC (zA 196 [(eI (getI r1))])
 (λr2=>ifO (hasT EE 6 3 r2)
 (zC (zA 197 [(eI (IntKind.wrap .i64 ((IntKind.wrap .i64 ((IntKind.wrap .i64 ((getI (nth (flds x1) 0)) - (getI (nth (flds x0) 0)))) * (getI (nth (flds r0) 1)))) - (IntKind.wrap .i64 ((IntKind.wrap .i64 ((getI (nth (flds x1) 1)) - (getI (nth (flds x0) 1)))) * (getI (nth (flds r0) 0)))))))])
 (λr3=>ifO (hasT EE 6 3 r3)
 (some (.val (.tup [(eI (getI r2)),(eI (getI r3))])))
 (none))
 (λ_ _=>none))
 (none))
 (λ_ _=>none))
 (zC (zA 197 [(eI (IntKind.wrap .i64 ((IntKind.wrap .i64 ((IntKind.wrap .i64 ((getI (nth (flds x1) 0)) - (getI (nth (flds x0) 0)))) * (getI (nth (flds r0) 1)))) - (IntKind.wrap .i64 ((IntKind.wrap .i64 ((getI (nth (flds x1) 1)) - (getI (nth (flds x0) 1)))) * (getI (nth (flds r0) 0)))))))])
 (λr8=>ifO (hasT EE 6 3 r8)
 (some (.val (.tup [(eI (getI r1)),(eI (getI r8))])))
 (none))
 (λ_ _=>none)))
 (none))
 (λ_ _=>none))
 (none))
 (λ_ _=>none))
 (none) :=
 (zE (f:=72) (by kernel_rfl) (by kernel_rfl) (by kernel_rfl) [x0,x1,x2]).trans (by kernel_rfl)
theorem C73(x0 x1 x2:DV):zA 73 [x0,x1,x2] =
 ifO (zP (hasT EE 6) [27,3,3] [x0,x1,x2])
 (ifO (decide ((getI x1)<(1:Int)))
 (some (.val (eI 0)))
 (ifO (decide ((getI x1)>(((List.length (elems (nth (flds x0) 1))):Nat):Int)))
 (some (.val (eI 0)))
 (ifO (decide (((0:Int)<=(IntKind.wrap .i64 ((getI x1) - (1:Int))))/\((IntKind.wrap .i64 ((getI x1) - (1:Int)))<(((List.length (elems (nth (flds x0) 2))):Nat):Int))))
 (ifO (hasT EE 6 3 (nth (elems (nth (flds x0) 2)) (Int.toNat (IntKind.wrap .i64 ((getI x1) - (1:Int))))))
 (ifO (decide ((getI x2)>(getI (nth (elems (nth (flds x0) 2)) (Int.toNat (IntKind.wrap .i64 ((getI x1) - (1:Int))))))))
 (some (.val (eI 0)))
 (ifO (decide (((0:Int)<=(IntKind.wrap .i64 ((getI x1) - (1:Int))))/\((IntKind.wrap .i64 ((getI x1) - (1:Int)))<(((List.length (elems (nth (flds x0) 1))):Nat):Int))))
 (ifO (hasT EE 6 3 (nth (elems (nth (flds x0) 1)) (Int.toNat (IntKind.wrap .i64 ((getI x1) - (1:Int))))))
 (some (.val (eI (getI (nth (elems (nth (flds x0) 1)) (Int.toNat (IntKind.wrap .i64 ((getI x1) - (1:Int)))))))))
 (none))
 (none)))
 (none))
 (none))))
 (none) :=
 (zE (f:=73) (by kernel_rfl) (by kernel_rfl) (by kernel_rfl) [x0,x1,x2]).trans (by kernel_rfl)
theorem C195(x0 x1:DV):zA 195 [x0,x1] =
 ifO (zP (hasT EE 6) [141,3] [x0,x1])
 (zC (zA 194 [(eI (getI x1))])
 (λr0=>ifO (hasT EE 6 141 r0)
 (zC (zA 194 [(eI (getI x1))])
 (λr1=>ifO (hasT EE 6 141 r1)
 (some (.val (eI (IntKind.wrap .i64 ((IntKind.wrap .i64 ((getI (nth (flds x0) 0)) * (getI (nth (flds r0) 0))))+(IntKind.wrap .i64 ((getI (nth (flds x0) 1)) * (getI (nth (flds r1) 1)))))))))
 (none))
 (λ_ _=>none))
 (none))
 (λ_ _=>none))
 (none) :=
 (zE (f:=195) (by kernel_rfl) (by kernel_rfl) (by kernel_rfl) [x0,x1]).trans (by kernel_rfl)
theorem C196(x0:DV):zA 196 [x0] =
 ifO (zP (hasT EE 6) [3] [x0])
 (ifO (decide ((getI x0)<(0:Int)))
 (ifO (bne (Int.tmod (getI x0) (2:Int)) 0)
 (some (.val (eI (IntKind.wrap .i64 ((IntKind.wrap .i64 (Int.tdiv (getI x0) (2:Int))) - (1:Int))))))
 (some (.val (eI (IntKind.wrap .i64 (Int.tdiv (getI x0) (2:Int)))))))
 (some (.val (eI (IntKind.wrap .i64 (Int.tdiv (getI x0) (2:Int)))))))
 (none) :=
 (zE (f:=196) (by kernel_rfl) (by kernel_rfl) (by kernel_rfl) [x0]).trans (by kernel_rfl)
theorem C197(x0:DV):zA 197 [x0] =
 ifO (zP (hasT EE 6) [3] [x0])
 (some (.val (eI (ite ((IntKind.wrap .i64 ((0:Int) - (getI x0)))>(getI x0)) (IntKind.wrap .i64 ((0:Int) - (getI x0))) (getI x0)))))
 (none) :=
 (zE (f:=197) (by kernel_rfl) (by kernel_rfl) (by kernel_rfl) [x0]).trans (by kernel_rfl)
def S193_0a(v0:List DV)(v1:ByteArray)(v2:Int):St :=
 stOf 18 [(0,(.d (.sl 1 v0))),(1,(.d (.str v1))),(5,(.d (eI v2)))] []
noncomputable def L193_0a(v0:List DV)(v1:ByteArray)(v2:Int):Option CR:=goQ 193 0 (S193_0a v0 v1 v2)
theorem L193_0a_eq(v0:List DV)(v1:ByteArray)(v2:Int):L193_0a v0 v1 v2 =
 ifO (decide (v2<(((List.length v0):Nat):Int)))
 (ifO (decide (((0:Int)<=v2)/\(v2<(((List.length v0):Nat):Int))))
 (ifO (hasT EE 6 9 (nth v0 (Int.toNat v2)))
 (ifO ((ByteArray.toList (getS (nth v0 (Int.toNat v2)))) == (ByteArray.toList v1))
 (some (.val (.bool true)))
 ((L193_0a v0 v1 (IntKind.wrap .i64 (v2+(1:Int))))))
 (none))
 (none))
 (some (.val (.bool false))) :=
 (zU 193 0 _).trans (by kernel_rfl)
theorem C193(x0 x1:DV):zA 193 [x0,x1] =
 ifO (zP (hasT EE 6) [173,9] [x0,x1])
 ((L193_0a (elems x0) (getS x1) (0:Int)))
 (none) :=
 (zE (f:=193) (by kernel_rfl) (by kernel_rfl) (by kernel_rfl) [x0,x1]).trans (by kernel_rfl)
theorem C92:zA 92 [] =
 some (.val (.sl 1 [(.str (bs [103,114,101,97,116,101,115,116])),(.str (bs [115,113,117,97,114,101,115])),(.str (bs [115,117,109]))])) :=
 (zE (f:=92) (by kernel_rfl) (by kernel_rfl) (by kernel_rfl) []).trans (by kernel_rfl)
def S79_0a(v0:Int)(v1:ByteArray)(v2:Int)(v3:List DV)(v4:ByteArray)(v5 v6:List DV):St :=
 stOf 63 [(2,(.d (eI v0))),(3,(.ptr 3 3 0 [])),(4,(.ptr 4 3 0 [])),(7,(.d .nl)),(8,(.d (eI 0)))] [(3,(.mk false (.dc 3 [(.agg 0 [(.str v1),(eI v2),(.sl 3 v3)])]))),(4,(.mk false (.dc 3 [(.agg 0 [(.str v4),(.sl 1 v5),(.sl 1 v6)])])))]
noncomputable def L79_0a(v0:Int)(v1:ByteArray)(v2:Int)(v3:List DV)(v4:ByteArray)(v5 v6:List DV):Option CR:=goQ 79 0 (S79_0a v0 v1 v2 v3 v4 v5 v6)
def S79_1a(v0:Int)(v1:List DV)(v2:Int)(v3:ByteArray)(v4:Int)(v5:List DV)(v6:ByteArray)(v7 v8 v9:List DV):St :=
 stOf 63 [(2,(.d (eI v0))),(3,(.ptr 3 3 0 [])),(4,(.ptr 4 3 0 [])),(7,(.d .nl)),(8,(.d (eI 0))),(9,(.own 23 0 (List.length v1) 1)),(10,(.d (eI v2)))] [(3,(.mk false (.dc 3 [(.agg 0 [(.str v3),(eI v4),(.sl 3 v5)])]))),(4,(.mk false (.dc 3 [(.agg 0 [(.str v6),(.sl 1 v7),(.sl 1 v8)])]))),(23,(.mk false (.dc 1 v9)))]
noncomputable def L79_1a(v0:Int)(v1:List DV)(v2:Int)(v3:ByteArray)(v4:Int)(v5:List DV)(v6:ByteArray)(v7 v8 v9:List DV):Option CR:=goQ 79 1 (S79_1a v0 v1 v2 v3 v4 v5 v6 v7 v8 v9)
def S79_0b(v0:Int)(v1:List DV)(v2:Int)(v3:ByteArray)(v4:Int)(v5:List DV)(v6:ByteArray)(v7 v8:List DV):St :=
 stOf 63 [(2,(.d (eI v0))),(3,(.ptr 3 3 0 [])),(4,(.ptr 4 3 0 [])),(7,(.own 61 0 (List.length v1) 1)),(8,(.d (eI v2)))] [(3,(.mk false (.dc 3 [(.agg 0 [(.str v3),(eI v4),(.sl 3 v5)])]))),(4,(.mk false (.dc 3 [(.agg 0 [(.str v6),(.sl 1 v7),(.sl 1 v8)])]))),(61,(.mk false (.dc 1 v1)))]
noncomputable def L79_0b(v0:Int)(v1:List DV)(v2:Int)(v3:ByteArray)(v4:Int)(v5:List DV)(v6:ByteArray)(v7 v8:List DV):Option CR:=goQ 79 0 (S79_0b v0 v1 v2 v3 v4 v5 v6 v7 v8)
def S79_1b(v0:Int)(v1:List DV)(v2:Int)(v3:List DV)(v4:Int)(v5:ByteArray)(v6:Int)(v7:List DV)(v8:ByteArray)(v9 v10 v11:List DV):St :=
 stOf 63 [(2,(.d (eI v0))),(3,(.ptr 3 3 0 [])),(4,(.ptr 4 3 0 [])),(7,(.own 61 0 (List.length v1) 1)),(8,(.d (eI v2))),(9,(.own 23 0 (List.length v3) 1)),(10,(.d (eI v4)))] [(3,(.mk false (.dc 3 [(.agg 0 [(.str v5),(eI v6),(.sl 3 v7)])]))),(4,(.mk false (.dc 3 [(.agg 0 [(.str v8),(.sl 1 v9),(.sl 1 v10)])]))),(23,(.mk false (.dc 1 v11))),(61,(.mk false (.dc 1 v1)))]
noncomputable def L79_1b(v0:Int)(v1:List DV)(v2:Int)(v3:List DV)(v4:Int)(v5:ByteArray)(v6:Int)(v7:List DV)(v8:ByteArray)(v9 v10 v11:List DV):Option CR:=goQ 79 1 (S79_1b v0 v1 v2 v3 v4 v5 v6 v7 v8 v9 v10 v11)
theorem L79_0a_eq(v0:Int)(v1:ByteArray)(v2:Int)(v3:List DV)(v4:ByteArray)(v5 v6:List DV):L79_0a v0 v1 v2 v3 v4 v5 v6 =
 ifO (decide ((0:Int)<(((List.length v3):Nat):Int)))
 (ifO (decide (((0:Int)<=(((List.length v3):Nat):Int))/\(((((List.length v3):Nat):Int)=(((List.length v3):Nat):Int))/\((((8:Int) * (((List.length v3):Nat):Int))<=(281474976710656:Int))/\((((List.length v3):Nat):Int)<=(9223372036854775807:Int))))))
 ((L79_1a v0 (List.replicate (Int.toNat (((List.length v3):Nat):Int)) (eI 0)) (0:Int) v1 v2 v3 v4 v5 v6 (List.replicate (Int.toNat (((List.length v3):Nat):Int)) (eI 0))))
 (none))
 (some (.val (.sl 1 []))) :=
 (zU 79 0 _).trans (by kernel_rfl)
theorem L79_1a_eq(v0:Int)(v1:List DV)(v2:Int)(v3:ByteArray)(v4:Int)(v5:List DV)(v6:ByteArray)(v7 v8 v9:List DV):L79_1a v0 v1 v2 v3 v4 v5 v6 v7 v8 v9 =
 ifO (decide (v2<(((List.length v5):Nat):Int)))
 (ifO (bne v2 (0:Int))
 (ifO (decide (((0:Int)<=v2)/\(v2<(((List.length v5):Nat):Int))))
 (ifO (isAg 9 1 (nth v5 (Int.toNat v2)))
 (ifO (hasT EE 6 141 (nth (flds (nth v5 (Int.toNat v2))) 1))
 (ifO (decide (((0:Int)<=(0:Int))/\((0:Int)<(((List.length v5):Nat):Int))))
 (ifO (isAg 9 1 (nth v5 0))
 (ifO (hasT EE 6 141 (nth (flds (nth v5 0)) 1))
 (zC (zA 72 [(.agg 1 [(eI (getI (nth (flds (nth (flds (nth v5 (Int.toNat v2))) 1)) 0))),(eI (getI (nth (flds (nth (flds (nth v5 (Int.toNat v2))) 1)) 1)))]),(.agg 1 [(eI (getI (nth (flds (nth (flds (nth v5 0)) 1)) 0))),(eI (getI (nth (flds (nth (flds (nth v5 0)) 1)) 1)))]),(eI v0)])
 (λr0=>ifO ((DV.isTup r0) && (zP (hasT EE 6) [3,3] (tups r0)))
 (zC (zA 73 [(.agg 0 [(.str v6),(.sl 1 v7),(.sl 1 v8)]),(eI (getI (nth (tups r0) 0))),(eI (getI (nth (tups r0) 1)))])
 (λr1=>ifO (hasT EE 6 3 r1)
 (ifO (decide (((0:Int)<=v2)/\(v2<(((List.length v1):Nat):Int))))
 (ifO (decide ((0+(Int.toNat v2))<(List.length v9)))
 ((L79_1a v0 v1 (IntKind.wrap .i64 (v2+(1:Int))) v3 v4 v5 v6 v7 v8 (List.set v9 (0+(Int.toNat v2)) (eI (getI r1)))))
 (none))
 (none))
 (none))
 (λ_ _=>none))
 (none))
 (λ_ _=>none))
 (none))
 (none))
 (none))
 (none))
 (none))
 (none))
 ((L79_1a v0 v1 (IntKind.wrap .i64 (v2+(1:Int))) v3 v4 v5 v6 v7 v8 v9)))
 (ifO (decide ((0+(List.length v1))<=(List.length v9)))
 ((L79_0b v0 [(.sl 1 (List.take (List.length v1) (List.drop 0 v9)))] (1:Int) v3 v4 v5 v6 v7 v8))
 (none)) :=
 (zU 79 1 _).trans (by kernel_rfl)
theorem L79_0b_eq(v0:Int)(v1:List DV)(v2:Int)(v3:ByteArray)(v4:Int)(v5:List DV)(v6:ByteArray)(v7 v8:List DV):L79_0b v0 v1 v2 v3 v4 v5 v6 v7 v8 =
 ifO (decide (v2<(((List.length v5):Nat):Int)))
 (ifO (decide (((0:Int)<=(((List.length v5):Nat):Int))/\(((((List.length v5):Nat):Int)=(((List.length v5):Nat):Int))/\((((8:Int) * (((List.length v5):Nat):Int))<=(281474976710656:Int))/\((((List.length v5):Nat):Int)<=(9223372036854775807:Int))))))
 ((L79_1b v0 v1 v2 (List.replicate (Int.toNat (((List.length v5):Nat):Int)) (eI 0)) (0:Int) v3 v4 v5 v6 v7 v8 (List.replicate (Int.toNat (((List.length v5):Nat):Int)) (eI 0))))
 (none))
 (ifO (decide ((0+(List.length v1))<=(List.length v1)))
 (some (.val (.sl 1 (List.map (cnE EE 25) (List.take (List.length v1) (List.drop 0 v1))))))
 (none)) :=
 (zU 79 0 _).trans (by kernel_rfl)
theorem L79_1b_eq(v0:Int)(v1:List DV)(v2:Int)(v3:List DV)(v4:Int)(v5:ByteArray)(v6:Int)(v7:List DV)(v8:ByteArray)(v9 v10 v11:List DV):L79_1b v0 v1 v2 v3 v4 v5 v6 v7 v8 v9 v10 v11 =
 ifO (decide (v4<(((List.length v7):Nat):Int)))
 (ifO (bne v4 v2)
 (ifO (decide (((0:Int)<=v4)/\(v4<(((List.length v7):Nat):Int))))
 (ifO (isAg 9 1 (nth v7 (Int.toNat v4)))
 (ifO (hasT EE 6 141 (nth (flds (nth v7 (Int.toNat v4))) 1))
 (ifO (decide (((0:Int)<=v2)/\(v2<(((List.length v7):Nat):Int))))
 (ifO (isAg 9 1 (nth v7 (Int.toNat v2)))
 (ifO (hasT EE 6 141 (nth (flds (nth v7 (Int.toNat v2))) 1))
 (zC (zA 72 [(.agg 1 [(eI (getI (nth (flds (nth (flds (nth v7 (Int.toNat v4))) 1)) 0))),(eI (getI (nth (flds (nth (flds (nth v7 (Int.toNat v4))) 1)) 1)))]),(.agg 1 [(eI (getI (nth (flds (nth (flds (nth v7 (Int.toNat v2))) 1)) 0))),(eI (getI (nth (flds (nth (flds (nth v7 (Int.toNat v2))) 1)) 1)))]),(eI v0)])
 (λr6=>ifO ((DV.isTup r6) && (zP (hasT EE 6) [3,3] (tups r6)))
 (zC (zA 73 [(.agg 0 [(.str v8),(.sl 1 v9),(.sl 1 v10)]),(eI (getI (nth (tups r6) 0))),(eI (getI (nth (tups r6) 1)))])
 (λr7=>ifO (hasT EE 6 3 r7)
 (ifO (decide (((0:Int)<=v4)/\(v4<(((List.length v3):Nat):Int))))
 (ifO (decide ((0+(Int.toNat v4))<(List.length v11)))
 ((L79_1b v0 v1 v2 v3 (IntKind.wrap .i64 (v4+(1:Int))) v5 v6 v7 v8 v9 v10 (List.set v11 (0+(Int.toNat v4)) (eI (getI r7)))))
 (none))
 (none))
 (none))
 (λ_ _=>none))
 (none))
 (λ_ _=>none))
 (none))
 (none))
 (none))
 (none))
 (none))
 (none))
 ((L79_1b v0 v1 v2 v3 (IntKind.wrap .i64 (v4+(1:Int))) v5 v6 v7 v8 v9 v10 v11)))
 (ifO (decide ((List.length v1)=(List.length v1)))
 (ifO (decide ((0+(List.length v3))<=(List.length v11)))
 (ifO (decide ((((2 * ((List.length v1)+1))+200) * 24)<=281474976710656))
 ((L79_0b v0 (v1++[(.sl 1 (List.take (List.length v3) (List.drop 0 v11)))]) (IntKind.wrap .i64 (v2+(1:Int))) v5 v6 v7 v8 v9 v10))
 (none))
 (none))
 (none)) :=
 (zU 79 1 _).trans (by kernel_rfl)
theorem C79(x0 x1 x2:DV):zA 79 [x0,x1,x2] =
 ifO (zP (hasT EE 6) [24,27,3] [x0,x1,x2])
 ((L79_0a (getI x2) (getS (nth (flds x0) 0)) (getI (nth (flds x0) 1)) (elems (nth (flds x0) 2)) (getS (nth (flds x1) 0)) (elems (nth (flds x1) 1)) (elems (nth (flds x1) 2))))
 (none) :=
 (zE (f:=79) (by kernel_rfl) (by kernel_rfl) (by kernel_rfl) [x0,x1,x2]).trans (by kernel_rfl)
def S80_0a(v0:List DV)(v1:ByteArray)(v2 v3:List DV):St :=
 stOf 31 [(4,(.ptr 4 3 0 [])),(7,(.d .nl)),(8,(.d (.sl 1 v0))),(9,(.d (eI 0)))] [(4,(.mk false (.dc 3 [(.agg 0 [(.str v1),(.sl 1 v2),(.sl 1 v3)])])))]
noncomputable def L80_0a(v0:List DV)(v1:ByteArray)(v2 v3:List DV):Option CR:=goQ 80 0 (S80_0a v0 v1 v2 v3)
def S80_0b(v0 v1:List DV)(v2:Int)(v3:ByteArray)(v4 v5:List DV):St :=
 stOf 31 [(4,(.ptr 4 3 0 [])),(7,(.own 29 0 (List.length v0) 1)),(8,(.d (.sl 1 v1))),(9,(.d (eI v2)))] [(4,(.mk false (.dc 3 [(.agg 0 [(.str v3),(.sl 1 v4),(.sl 1 v5)])]))),(29,(.mk false (.dc 1 v0)))]
noncomputable def L80_0b(v0 v1:List DV)(v2:Int)(v3:ByteArray)(v4 v5:List DV):Option CR:=goQ 80 0 (S80_0b v0 v1 v2 v3 v4 v5)
theorem L80_0a_eq(v0:List DV)(v1:ByteArray)(v2 v3:List DV):L80_0a v0 v1 v2 v3 =
 ifO (decide ((0:Int)<(((List.length v0):Nat):Int)))
 (ifO (decide (((0:Int)<=(0:Int))/\((0:Int)<(((List.length v0):Nat):Int))))
 (ifO (hasT EE 6 25 (nth v0 0))
 (zC (zA 201 [(.str v1),(.sl 1 (elems (nth v0 0)))])
 (λr3=>ifO (hasT EE 6 3 r3)
 ((L80_0b [(eI (getI r3))] v0 (1:Int) v1 v2 v3))
 (none))
 (λ_ _=>none))
 (none))
 (none))
 (some (.val .nl)) :=
 (zU 80 0 _).trans (by kernel_rfl)
theorem L80_0b_eq(v0 v1:List DV)(v2:Int)(v3:ByteArray)(v4 v5:List DV):L80_0b v0 v1 v2 v3 v4 v5 =
 ifO (decide (v2<(((List.length v1):Nat):Int)))
 (ifO (decide (((0:Int)<=v2)/\(v2<(((List.length v1):Nat):Int))))
 (ifO (hasT EE 6 25 (nth v1 (Int.toNat v2)))
 (zC (zA 201 [(.str v3),(.sl 1 (elems (nth v1 (Int.toNat v2))))])
 (λr6=>ifO (hasT EE 6 3 r6)
 (ifO (decide ((List.length v0)=(List.length v0)))
 (ifO (decide ((((2 * ((List.length v0)+1))+200) * 8)<=281474976710656))
 ((L80_0b (v0++[(eI (getI r6))]) v1 (IntKind.wrap .i64 (v2+(1:Int))) v3 v4 v5))
 (none))
 (none))
 (none))
 (λ_ _=>none))
 (none))
 (none))
 (ifO (decide ((List.length v0)=(List.length v0)))
 (some (.fresh 1 v0))
 (none)) :=
 (zU 80 0 _).trans (by kernel_rfl)
theorem C80(x0 x1 x2:DV):zA 80 [x0,x1,x2] =
 ifO (zP (hasT EE 6) [24,27,3] [x0,x1,x2])
 (zC (zA 79 [(.agg 0 [(.str (getS (nth (flds x0) 0))),(eI (getI (nth (flds x0) 1))),(.sl 3 (elems (nth (flds x0) 2)))]),(.agg 0 [(.str (getS (nth (flds x1) 0))),(.sl 1 (elems (nth (flds x1) 1))),(.sl 1 (elems (nth (flds x1) 2)))]),(eI (getI x2))])
 (λr0=>ifO (hasT EE 6 95 r0)
 ((L80_0a (elems r0) (getS (nth (flds x1) 0)) (elems (nth (flds x1) 1)) (elems (nth (flds x1) 2))))
 (none))
 (λ_ _=>none))
 (none) :=
 (zE (f:=80) (by kernel_rfl) (by kernel_rfl) (by kernel_rfl) [x0,x1,x2]).trans (by kernel_rfl)
def S81_0a(v0:Int):St :=
 stOf 32 [(3,(.d (eI v0))),(9,(.d .nl)),(10,(.d (eI 0)))] []
noncomputable def L81_0a(v0:Int):Option CR:=goQ 81 0 (S81_0a v0)
def S81_0b(v0:Int)(v1:List DV)(v2:Int)(v3:List DV):St :=
 stOf 32 [(3,(.d (eI v0))),(9,(.own 14 0 (List.length v1) 1)),(10,(.d (eI v2)))] [(14,(.mk false (.dc 1 v3)))]
noncomputable def L81_0b(v0:Int)(v1:List DV)(v2:Int)(v3:List DV):Option CR:=goQ 81 0 (S81_0b v0 v1 v2 v3)
theorem L81_0a_eq(v0:Int):L81_0a v0 =
 some (.val (.sl 1 [])) :=
 (zU 81 0 _).trans (by kernel_rfl)
theorem L81_0b_eq(v0:Int)(v1:List DV)(v2:Int)(v3:List DV):L81_0b v0 v1 v2 v3 =
 ifO (decide (v2<(((List.length v1):Nat):Int)))
 (ifO (decide (((0:Int)<=v2)/\(v2<(((List.length v1):Nat):Int))))
 (ifO (decide ((0+(Int.toNat v2))<(List.length v3)))
 (ifO (hasT EE 6 3 (nth v3 (0+(Int.toNat v2))))
 (ifO (decide (((0:Int)<=v2)/\(v2<(((List.length v1):Nat):Int))))
 (ifO (decide ((0+(Int.toNat v2))<(List.length v3)))
 ((L81_0b v0 v1 (IntKind.wrap .i64 (v2+(1:Int))) (List.set v3 (0+(Int.toNat v2)) (eI (IntKind.wrap .i64 (v0 * (IntKind.wrap .i64 ((256:Int) - (getI (nth v3 (0+(Int.toNat v2))))))))))))
 (none))
 (none))
 (none))
 (none))
 (none))
 (ifO (decide ((0+(List.length v1))<=(List.length v3)))
 (some (.val (.sl 1 (List.take (List.length v1) (List.drop 0 v3)))))
 (none)) :=
 (zU 81 0 _).trans (by kernel_rfl)
theorem C81(x0 x1 x2 x3:DV):zA 81 [x0,x1,x2,x3] =
 ifO (zP (hasT EE 6) [24,27,3,3] [x0,x1,x2,x3])
 (zC (zA 80 [(.agg 0 [(.str (getS (nth (flds x0) 0))),(eI (getI (nth (flds x0) 1))),(.sl 3 (elems (nth (flds x0) 2)))]),(.agg 0 [(.str (getS (nth (flds x1) 0))),(.sl 1 (elems (nth (flds x1) 1))),(.sl 1 (elems (nth (flds x1) 2)))]),(eI (getI x2))])
 (λr0=>ifO (isNl r0)
 ((L81_0a (getI x3)))
 (none))
 (λs1 l2=>ifO (s1 == 1)
 ((L81_0b (getI x3) l2 (0:Int) l2))
 (none)))
 (none) :=
 (zE (f:=81) (by kernel_rfl) (by kernel_rfl) (by kernel_rfl) [x0,x1,x2,x3]).trans (by kernel_rfl)
def S201_0a(v0:ByteArray)(v1:List DV)(v2 v3:Int):St :=
 stOf 55 [(0,(.d (.str v0))),(1,(.d (.sl 1 v1))),(5,(.d (eI v2))),(6,(.d (eI v3)))] []
noncomputable def L201_0a(v0:ByteArray)(v1:List DV)(v2 v3:Int):Option CR:=goQ 201 0 (S201_0a v0 v1 v2 v3)
def S201_1a(v0 v1:Int):St :=
 stOf 55 [(5,(.d (eI v0))),(7,(.d (eI v1)))] []
noncomputable def L201_1a(v0 v1:Int):Option CR:=goQ 201 1 (S201_1a v0 v1)
theorem L201_0a_eq(v0:ByteArray)(v1:List DV)(v2 v3:Int):L201_0a v0 v1 v2 v3 =
 ifO (decide (v3<(((List.length v1):Nat):Int)))
 (ifO ((ByteArray.toList v0) == (ByteArray.toList (bs [115,117,109])))
 (ifO (decide (((0:Int)<=v3)/\(v3<(((List.length v1):Nat):Int))))
 (ifO (hasT EE 6 3 (nth v1 (Int.toNat v3)))
 ((L201_0a v0 v1 (IntKind.wrap .i64 (v2+(getI (nth v1 (Int.toNat v3))))) (IntKind.wrap .i64 (v3+(1:Int)))))
 (none))
 (none))
 (ifO ((ByteArray.toList v0) == (ByteArray.toList (bs [103,114,101,97,116,101,115,116])))
 (ifO (decide (((0:Int)<=v3)/\(v3<(((List.length v1):Nat):Int))))
 (ifO (hasT EE 6 3 (nth v1 (Int.toNat v3)))
 ((L201_0a v0 v1 (ite ((getI (nth v1 (Int.toNat v3)))>v2) (getI (nth v1 (Int.toNat v3))) v2) (IntKind.wrap .i64 (v3+(1:Int)))))
 (none))
 (none))
 (ifO (decide (((0:Int)<=v3)/\(v3<(((List.length v1):Nat):Int))))
 (ifO (hasT EE 6 3 (nth v1 (Int.toNat v3)))
 (ifO (decide (((0:Int)<=v3)/\(v3<(((List.length v1):Nat):Int))))
 (ifO (hasT EE 6 3 (nth v1 (Int.toNat v3)))
 ((L201_0a v0 v1 (IntKind.wrap .i64 (v2+(IntKind.wrap .i64 ((getI (nth v1 (Int.toNat v3))) * (getI (nth v1 (Int.toNat v3))))))) (IntKind.wrap .i64 (v3+(1:Int)))))
 (none))
 (none))
 (none))
 (none))))
 (ifO ((ByteArray.toList v0) == (ByteArray.toList (bs [115,113,117,97,114,101,115])))
 ((L201_1a v2 (0:Int)))
 (some (.val (eI (ite ((256:Int)<v2) (256:Int) v2))))) :=
 (zU 201 0 _).trans (by kernel_rfl)
theorem L201_1a_eq(v0 v1:Int):L201_1a v0 v1 =
 ifO (decide ((IntKind.wrap .i64 ((IntKind.wrap .i64 (v1+(1:Int))) * (IntKind.wrap .i64 (v1+(1:Int)))))<=v0))
 ((L201_1a v0 (IntKind.wrap .i64 (v1+(1:Int)))))
 (some (.val (eI (ite ((256:Int)<v1) (256:Int) v1)))) :=
 (zU 201 1 _).trans (by kernel_rfl)
theorem C201(x0 x1:DV):zA 201 [x0,x1] =
 ifO (zP (hasT EE 6) [9,25] [x0,x1])
 ((L201_0a (getS x0) (elems x1) (0:Int) (0:Int)))
 (none) :=
 (zE (f:=201) (by kernel_rfl) (by kernel_rfl) (by kernel_rfl) [x0,x1]).trans (by kernel_rfl)
end Go.Am
namespace Go.Am
open Go.Proofs
open Go
variable[OO]
def S69_0a(v0:Int)(v1:ByteArray)(v2:Int)(v3:List DV):St :=
 stOf 73 [(1,(.ptr 1 3 0 [])),(3,(.d (eI v0)))] [(1,(.mk false (.dc 3 [(.agg 0 [(.str v1),(eI v2),(.sl 3 v3)])])))]
noncomputable def L69_0a(v0:Int)(v1:ByteArray)(v2:Int)(v3:List DV):Option CR:=goQ 69 0 (S69_0a v0 v1 v2 v3)
def S69_1a(v0 v1:Int)(v2:ByteArray)(v3:Int)(v4:List DV)(v5:ByteArray)(v6 v7:Int):St :=
 stOf 73 [(1,(.ptr 1 3 0 [])),(3,(.d (eI v0))),(4,(.ptr 4 3 0 [])),(5,(.d (eI v1)))] [(1,(.mk false (.dc 3 [(.agg 0 [(.str v2),(eI v3),(.sl 3 v4)])]))),(4,(.mk false (.dc 3 [(.agg 9 [(.str v5),(.agg 1 [(eI v6),(eI v7)])])])))]
noncomputable def L69_1a(v0 v1:Int)(v2:ByteArray)(v3:Int)(v4:List DV)(v5:ByteArray)(v6 v7:Int):Option CR:=goQ 69 1 (S69_1a v0 v1 v2 v3 v4 v5 v6 v7)
def S69_2a(v0 v1:Int)(v2:ByteArray)(v3:Int)(v4:List DV)(v5:ByteArray)(v6 v7:Int):St :=
 stOf 73 [(1,(.ptr 1 3 0 [])),(3,(.d (eI v0))),(4,(.ptr 4 3 0 [])),(6,(.d (eI v1)))] [(1,(.mk false (.dc 3 [(.agg 0 [(.str v2),(eI v3),(.sl 3 v4)])]))),(4,(.mk false (.dc 3 [(.agg 9 [(.str v5),(.agg 1 [(eI v6),(eI v7)])])])))]
noncomputable def L69_2a(v0 v1:Int)(v2:ByteArray)(v3:Int)(v4:List DV)(v5:ByteArray)(v6 v7:Int):Option CR:=goQ 69 2 (S69_2a v0 v1 v2 v3 v4 v5 v6 v7)
theorem L69_0a_eq(v0:Int)(v1:ByteArray)(v2:Int)(v3:List DV):L69_0a v0 v1 v2 v3 =
 ifO (decide (v0<(((List.length v3):Nat):Int)))
 (ifO (decide (((0:Int)<=v0)/\(v0<(((List.length v3):Nat):Int))))
 (ifO (hasT EE 6 143 (nth v3 (Int.toNat v0)))
 (zC (zA 130 [(.str (getS (nth (flds (nth v3 (Int.toNat v0))) 0)))])
 (λr6=>ifO (hasT EE 6 4 r6)
 (ifO (!(getB r6))
 (some (.val (eI 8)))
 (zC (zA 164 [(.agg 1 [(eI (getI (nth (flds (nth (flds (nth v3 (Int.toNat v0))) 1)) 0))),(eI (getI (nth (flds (nth (flds (nth v3 (Int.toNat v0))) 1)) 1)))])])
 (λr7=>ifO (hasT EE 6 3 r7)
 (ifO (bne (getI r7) 0)
 (some (.val (eI 3)))
 ((L69_1a v0 (0:Int) v1 v2 v3 (getS (nth (flds (nth v3 (Int.toNat v0))) 0)) (getI (nth (flds (nth (flds (nth v3 (Int.toNat v0))) 1)) 0)) (getI (nth (flds (nth (flds (nth v3 (Int.toNat v0))) 1)) 1)))))
 (none))
 (λ_ _=>none)))
 (none))
 (λ_ _=>none))
 (none))
 (none))
 (some (.val (eI 0))) :=
 (zU 69 0 _).trans (by kernel_rfl)
theorem L69_1a_eq(v0 v1:Int)(v2:ByteArray)(v3:Int)(v4:List DV)(v5:ByteArray)(v6 v7:Int):L69_1a v0 v1 v2 v3 v4 v5 v6 v7 =
 ifO (decide (v1<v0))
 (ifO (decide (((0:Int)<=v1)/\(v1<(((List.length v4):Nat):Int))))
 (ifO (isAg 9 0 (nth v4 (Int.toNat v1)))
 (ifO (hasT EE 6 9 (nth (flds (nth v4 (Int.toNat v1))) 0))
 (ifO ((ByteArray.toList (getS (nth (flds (nth v4 (Int.toNat v1))) 0))) == (ByteArray.toList v5))
 (some (.val (eI 9)))
 ((L69_1a v0 (IntKind.wrap .i64 (v1+(1:Int))) v2 v3 v4 v5 v6 v7)))
 (none))
 (none))
 (none))
 ((L69_2a v0 (0:Int) v2 v3 v4 v5 v6 v7)) :=
 (zU 69 1 _).trans (by kernel_rfl)
theorem L69_2a_eq(v0 v1:Int)(v2:ByteArray)(v3:Int)(v4:List DV)(v5:ByteArray)(v6 v7:Int):L69_2a v0 v1 v2 v3 v4 v5 v6 v7 =
 ifO (decide (v1<v0))
 (ifO (decide (((0:Int)<=v1)/\(v1<(((List.length v4):Nat):Int))))
 (ifO (isAg 9 1 (nth v4 (Int.toNat v1)))
 (ifO (hasT EE 6 141 (nth (flds (nth v4 (Int.toNat v1))) 1))
 (zC (zA 192 [(.agg 1 [(eI (getI (nth (flds (nth (flds (nth v4 (Int.toNat v1))) 1)) 0))),(eI (getI (nth (flds (nth (flds (nth v4 (Int.toNat v1))) 1)) 1)))]),(.agg 1 [(eI v6),(eI v7)])])
 (λr12=>ifO (hasT EE 6 3 r12)
 (ifO (decide ((getI r12)<(IntKind.wrap .i64 (v3 * v3))))
 (some (.val (eI 15)))
 ((L69_2a v0 (IntKind.wrap .i64 (v1+(1:Int))) v2 v3 v4 v5 v6 v7)))
 (none))
 (λ_ _=>none))
 (none))
 (none))
 (none))
 ((L69_0a (IntKind.wrap .i64 (v0+(1:Int))) v2 v3 v4)) :=
 (zU 69 2 _).trans (by kernel_rfl)
theorem C69(x0:DV):zA 69 [x0] =
 ifO (zP (hasT EE 6) [24] [x0])
 (zC (zA 130 [(.str (getS (nth (flds x0) 0)))])
 (λr0=>ifO (hasT EE 6 4 r0)
 (ifO (!(getB r0))
 (some (.val (eI 8)))
 (zC (zA 37 [(eI (getI (nth (flds x0) 1))),(eI 1),(eI 1000)])
 (λr1=>ifO (hasT EE 6 3 r1)
 (ifO (bne (getI r1) 0)
 (some (.val (eI 3)))
 (ifO (decide ((((List.length (elems (nth (flds x0) 2))):Nat):Int)>(64:Int)))
 (some (.val (eI 5)))
 ((L69_0a (0:Int) (getS (nth (flds x0) 0)) (getI (nth (flds x0) 1)) (elems (nth (flds x0) 2))))))
 (none))
 (λ_ _=>none)))
 (none))
 (λ_ _=>none))
 (none) :=
 (zE (f:=69) (by kernel_rfl) (by kernel_rfl) (by kernel_rfl) [x0]).trans (by kernel_rfl)
def S62_0a(v0:Int)(v1:ByteArray)(v2:Int)(v3:List DV):St :=
 stOf 38 [(2,(.ptr 2 3 0 [])),(5,(.d (eI v0)))] [(2,(.mk false (.dc 3 [(.agg 0 [(.str v1),(eI v2),(.sl 3 v3)])])))]
noncomputable def L62_0a(v0:Int)(v1:ByteArray)(v2:Int)(v3:List DV):Option CR:=goQ 62 0 (S62_0a v0 v1 v2 v3)
theorem L62_0a_eq(v0:Int)(v1:ByteArray)(v2:Int)(v3:List DV):L62_0a v0 v1 v2 v3 =
 ifO (decide (v0<(((List.length v3):Nat):Int)))
 (ifO (decide (((0:Int)<=v0)/\(v0<(((List.length v3):Nat):Int))))
 (ifO (isAg 9 0 (nth v3 (Int.toNat v0)))
 (ifO (hasT EE 6 9 (nth (flds (nth v3 (Int.toNat v0))) 0))
 (ifO (decide ((((ByteArray.size (getS (nth (flds (nth v3 (Int.toNat v0))) 0))):Nat):Int)>(60:Int)))
 (some (.val (.bool false)))
 ((L62_0a (IntKind.wrap .i64 (v0+(1:Int))) v1 v2 v3)))
 (none))
 (none))
 (none))
 (some (.val (.bool true))) :=
 (zU 62 0 _).trans (by kernel_rfl)
theorem C62(x0 x1:DV):zA 62 [x0,x1] =
 ifO (zP (hasT EE 6) [24,3] [x0,x1])
 (ifO (decide ((((ByteArray.size (getS (nth (flds x0) 0))):Nat):Int)>(60:Int)))
 (some (.val (.bool false)))
 (ifO (decide ((((List.length (elems (nth (flds x0) 2))):Nat):Int)>(getI x1)))
 (ifO (bne (((List.length (elems (nth (flds x0) 2))):Nat):Int) (65:Int))
 (some (.val (.bool false)))
 ((L62_0a (0:Int) (getS (nth (flds x0) 0)) (getI (nth (flds x0) 1)) (elems (nth (flds x0) 2)))))
 ((L62_0a (0:Int) (getS (nth (flds x0) 0)) (getI (nth (flds x0) 1)) (elems (nth (flds x0) 2))))))
 (none) :=
 (zE (f:=62) (by kernel_rfl) (by kernel_rfl) (by kernel_rfl) [x0,x1]).trans (by kernel_rfl)
theorem C70(x0 x1:DV):zA 70 [x0,x1] =
 ifO (zP (hasT EE 6) [24,3] [x0,x1])
 (ifO (decide ((getI x1)<(0:Int)))
 (some (.val (eI 10)))
 (ifO (decide ((getI x1)>=(((List.length (elems (nth (flds x0) 2))):Nat):Int)))
 (some (.val (eI 10)))
 (some (.val (eI 0)))))
 (none) :=
 (zE (f:=70) (by kernel_rfl) (by kernel_rfl) (by kernel_rfl) [x0,x1]).trans (by kernel_rfl)
def S65_0a(v0:List DV)(v1:Int)(v2:ByteArray)(v3:Int):St :=
 stOf 26 [(2,(.ptr 2 3 0 [])),(3,(.ptr 3 3 0 [])),(12,(.d (.sl 3 v0))),(13,(.d (eI v1))),(14,(.d (eI 0)))] [(2,(.mk false (.dc 3 [(.agg 0 [(.str (bs [])),(eI 0),.nl])]))),(3,(.mk false (.dc 3 [(.agg 0 [(.str v2),(eI v3),.nl])])))]
noncomputable def L65_0a(v0:List DV)(v1:Int)(v2:ByteArray)(v3:Int):Option CR:=goQ 65 0 (S65_0a v0 v1 v2 v3)
def S65_0b(v0:List DV)(v1 v2:Int)(v3:ByteArray)(v4:Int)(v5:List DV):St :=
 stOf 26 [(2,(.ptr 2 3 0 [])),(3,(.ptr 3 3 0 [])),(12,(.d (.sl 3 v0))),(13,(.d (eI v1))),(14,(.d (eI v2)))] [(2,(.mk false (.dc 3 [(.agg 0 [(.str (bs [])),(eI 0),.nl])]))),(3,(.mk false (.ac 3 [(.agg 0 [(.d (.str v3)),(.d (eI v4)),(.own 22 0 (List.length v5) 3)])]))),(22,(.mk false (.dc 3 v5)))]
noncomputable def L65_0b(v0:List DV)(v1 v2:Int)(v3:ByteArray)(v4:Int)(v5:List DV):Option CR:=goQ 65 0 (S65_0b v0 v1 v2 v3 v4 v5)
theorem L65_0a_eq(v0:List DV)(v1:Int)(v2:ByteArray)(v3:Int):L65_0a v0 v1 v2 v3 =
 ifO (decide ((0:Int)<v1))
 (ifO (decide (((0:Int)<=(0:Int))/\((0:Int)<(((List.length v0):Nat):Int))))
 (ifO (hasT EE 6 143 (nth v0 0))
 ((L65_0b v0 v1 (1:Int) v2 v3 [(.agg 9 [(.str (getS (nth (flds (nth v0 0)) 0))),(.agg 1 [(eI (getI (nth (flds (nth (flds (nth v0 0)) 1)) 0))),(eI (getI (nth (flds (nth (flds (nth v0 0)) 1)) 1)))])])]))
 (none))
 (none))
 (some (.val (.agg 0 [(.str v2),(eI v3),(.sl 3 [])]))) :=
 (zU 65 0 _).trans (by kernel_rfl)
theorem L65_0b_eq(v0:List DV)(v1 v2:Int)(v3:ByteArray)(v4:Int)(v5:List DV):L65_0b v0 v1 v2 v3 v4 v5 =
 ifO (decide (v2<v1))
 (ifO (decide (((0:Int)<=v2)/\(v2<(((List.length v0):Nat):Int))))
 (ifO (hasT EE 6 143 (nth v0 (Int.toNat v2)))
 (ifO (decide ((List.length v5)=(List.length v5)))
 (ifO (decide ((((2 * ((List.length v5)+1))+200) * 32)<=281474976710656))
 ((L65_0b v0 v1 (IntKind.wrap .i64 (v2+(1:Int))) v3 v4 (v5++[(.agg 9 [(.str (getS (nth (flds (nth v0 (Int.toNat v2))) 0))),(.agg 1 [(eI (getI (nth (flds (nth (flds (nth v0 (Int.toNat v2))) 1)) 0))),(eI (getI (nth (flds (nth (flds (nth v0 (Int.toNat v2))) 1)) 1)))])])])))
 (none))
 (none))
 (none))
 (none))
 (ifO (decide ((0+(List.length v5))<=(List.length v5)))
 (some (.val (.agg 0 [(.str v3),(eI v4),(.sl 3 (List.take (List.length v5) (List.drop 0 v5)))])))
 (none)) :=
 (zU 65 0 _).trans (by kernel_rfl)
theorem C65(x0:DV):zA 65 [x0] =
 ifO (zP (hasT EE 6) [24] [x0])
 ((L65_0a (elems (nth (flds x0) 2)) (((List.length (elems (nth (flds x0) 2))):Nat):Int) (getS (nth (flds x0) 0)) (getI (nth (flds x0) 1))))
 (none) :=
 (zE (f:=65) (by kernel_rfl) (by kernel_rfl) (by kernel_rfl) [x0]).trans (by kernel_rfl)
def S129_0a(v0:Int)(v1:List DV):St :=
 stOf 20 [(1,(.ptr 1 408 0 [])),(3,(.d (eI v0)))] [(1,(.mk false (.dc 408 [(.agg 3 v1)])))]
noncomputable def L129_0a(v0:Int)(v1:List DV):Option CR:=goQ 129 0 (S129_0a v0 v1)
def S129_1a(v0 v1:Int)(v2:List DV):St :=
 stOf 20 [(1,(.ptr 1 408 0 [])),(3,(.d (eI v0))),(4,(.d (eI v1)))] [(1,(.mk false (.dc 408 [(.agg 3 v2)])))]
noncomputable def L129_1a(v0 v1:Int)(v2:List DV):Option CR:=goQ 129 1 (S129_1a v0 v1 v2)
theorem L129_0a_eq(v0:Int)(v1:List DV):L129_0a v0 v1 =
 ifO (decide (v0<(8:Int)))
 ((L129_1a v0 (0:Int) v1))
 (some (.val (eI 0))) :=
 (zU 129 0 _).trans (by kernel_rfl)
theorem L129_1a_eq(v0 v1:Int)(v2:List DV):L129_1a v0 v1 v2 =
 ifO (decide (v1<=(50:Int)))
 (ifO (decide (((0:Int)<=v0)/\(v0<(8:Int))))
 (ifO (decide (((0:Int)<=v1)/\(v1<(51:Int))))
 (ifO (isAg 3 (Int.toNat v0) (.agg 3 v2))
 (ifO (isAg 2 (Int.toNat v1) (nth v2 (Int.toNat v0)))
 (ifO (hasT EE 6 3 (nth (flds (nth v2 (Int.toNat v0))) (Int.toNat v1)))
 (zC (zA 37 [(eI (getI (nth (flds (nth v2 (Int.toNat v0))) (Int.toNat v1)))),(eI 0),(eI 40000)])
 (λr0=>ifO (hasT EE 6 3 r0)
 (ifO (bne (getI r0) 0)
 (some (.val (eI 3)))
 ((L129_1a v0 (IntKind.wrap .i64 (v1+(1:Int))) v2)))
 (none))
 (λ_ _=>none))
 (none))
 (none))
 (none))
 (none))
 (none))
 ((L129_0a (IntKind.wrap .i64 (v0+(1:Int))) v2)) :=
 (zU 129 1 _).trans (by kernel_rfl)
theorem C129(x0:DV):zA 129 [x0] =
 ifO (zP (hasT EE 6) [32] [x0])
 ((L129_0a (0:Int) (flds x0)))
 (none) :=
 (zE (f:=129) (by kernel_rfl) (by kernel_rfl) (by kernel_rfl) [x0]).trans (by kernel_rfl)
theorem C194(x0:DV):zA 194 [x0] =
 ifO (zP (hasT EE 6) [3] [x0])
 (ifO (decide ((0:Int)<=(getI x0)))
 (ifO (isAg 17 (Int.toNat (getI x0)) (.agg 17 [(.agg 1 [(eI 0),(eI (-1))]),(.agg 1 [(eI (-1)),(eI (-1))]),(.agg 1 [(eI (-1)),(eI 0)]),(.agg 1 [(eI (-1)),(eI 1)]),(.agg 1 [(eI 0),(eI 1)]),(.agg 1 [(eI 1),(eI 1)]),(.agg 1 [(eI 1),(eI 0)]),(.agg 1 [(eI 1),(eI (-1))])]))
 (ifO (hasT EE 6 141 (nth [(.agg 1 [(eI 0),(eI (-1))]),(.agg 1 [(eI (-1)),(eI (-1))]),(.agg 1 [(eI (-1)),(eI 0)]),(.agg 1 [(eI (-1)),(eI 1)]),(.agg 1 [(eI 0),(eI 1)]),(.agg 1 [(eI 1),(eI 1)]),(.agg 1 [(eI 1),(eI 0)]),(.agg 1 [(eI 1),(eI (-1))])] (Int.toNat (getI x0))))
 (some (.val (.agg 1 [(eI (getI (nth (flds (nth [(.agg 1 [(eI 0),(eI (-1))]),(.agg 1 [(eI (-1)),(eI (-1))]),(.agg 1 [(eI (-1)),(eI 0)]),(.agg 1 [(eI (-1)),(eI 1)]),(.agg 1 [(eI 0),(eI 1)]),(.agg 1 [(eI 1),(eI 1)]),(.agg 1 [(eI 1),(eI 0)]),(.agg 1 [(eI 1),(eI (-1))])] (Int.toNat (getI x0)))) 0))),(eI (getI (nth (flds (nth [(.agg 1 [(eI 0),(eI (-1))]),(.agg 1 [(eI (-1)),(eI (-1))]),(.agg 1 [(eI (-1)),(eI 0)]),(.agg 1 [(eI (-1)),(eI 1)]),(.agg 1 [(eI 0),(eI 1)]),(.agg 1 [(eI 1),(eI 1)]),(.agg 1 [(eI 1),(eI 0)]),(.agg 1 [(eI 1),(eI (-1))])] (Int.toNat (getI x0)))) 1)))])))
 (none))
 (none))
 (none))
 (none) :=
 (zE (f:=194) (by kernel_rfl) (by kernel_rfl) (by kernel_rfl) [x0]).trans (by kernel_rfl)
end Go.Am
namespace Go.Am
open Go.Proofs
open Go
variable[OO]
def S35_0a(v0:List DV)(v1:Int):St :=
 stOf 19 [(0,(.d (.sl 1 v0))),(3,(.d (eI v1)))] []
noncomputable def L35_0a(v0:List DV)(v1:Int):Option CR:=goQ 35 0 (S35_0a v0 v1)
theorem L35_0a_eq(v0:List DV)(v1:Int):L35_0a v0 v1 =
 ifO (decide (v1<(((List.length v0):Nat):Int)))
 (ifO (decide (((0:Int)<=v1)/\(v1<(((List.length v0):Nat):Int))))
 (ifO (hasT EE 6 3 (nth v0 (Int.toNat v1)))
 (ifO (bne (getI (nth v0 (Int.toNat v1))) (0:Int))
 (ifO (decide (((0:Int)<=v1)/\(v1<(((List.length v0):Nat):Int))))
 (ifO (hasT EE 6 3 (nth v0 (Int.toNat v1)))
 (some (.val (eI (getI (nth v0 (Int.toNat v1))))))
 (none))
 (none))
 ((L35_0a v0 (IntKind.wrap .i64 (v1+(1:Int))))))
 (none))
 (none))
 (some (.val (eI 0))) :=
 (zU 35 0 _).trans (by kernel_rfl)
theorem C35(x0:DV):zA 35 [x0] =
 ifO (zP (hasT EE 6) [25] [x0])
 ((L35_0a (elems x0) (0:Int)))
 (none) :=
 (zE (f:=35) (by kernel_rfl) (by kernel_rfl) (by kernel_rfl) [x0]).trans (by kernel_rfl)
theorem C37(x0 x1 x2:DV):zA 37 [x0,x1,x2] =
 ifO (zP (hasT EE 6) [3,3,3] [x0,x1,x2])
 (ifO (decide ((getI x0)<(getI x1)))
 (some (.val (eI 3)))
 (ifO (decide ((getI x0)>(getI x2)))
 (some (.val (eI 3)))
 (some (.val (eI 0)))))
 (none) :=
 (zE (f:=37) (by kernel_rfl) (by kernel_rfl) (by kernel_rfl) [x0,x1,x2]).trans (by kernel_rfl)
theorem C164(x0:DV):zA 164 [x0] =
 ifO (zP (hasT EE 6) [141] [x0])
 (zC (zA 37 [(eI (getI (nth (flds x0) 0))),(eI (-1000)),(eI 1000)])
 (λr0=>ifO (hasT EE 6 3 r0)
 (zC (zA 37 [(eI (getI (nth (flds x0) 1))),(eI (-1000)),(eI 1000)])
 (λr1=>ifO (hasT EE 6 3 r1)
 (zC (zA 35 [(.sl 1 [(eI (getI r0)),(eI (getI r1))])])
 (λr2=>ifO (hasT EE 6 3 r2)
 (some (.val (eI (getI r2))))
 (none))
 (λ_ _=>none))
 (none))
 (λ_ _=>none))
 (none))
 (λ_ _=>none))
 (none) :=
 (zE (f:=164) (by kernel_rfl) (by kernel_rfl) (by kernel_rfl) [x0]).trans (by kernel_rfl)
theorem C42(x0 x1 x2 x3:DV):zA 42 [x0,x1,x2,x3] =
 ifO (zP (hasT EE 6) [3,46,3,3] [x0,x1,x2,x3])
 (ifO ((getI x1) == (getI x2))
 (ifO (bne (getI x2) 0)
 (ifO ((getI x0) == (0:Int))
 (some (.val (.bool true)))
 (ifO ((getI x2) == (0:Int))
 (some (.val (.bool ((getI x0) == (getI x3)))))
 (some (.val (.bool false)))))
 (ifO ((getI x2) == (0:Int))
 (some (.val (.bool ((getI x0) == (getI x3)))))
 (some (.val (.bool false)))))
 (some (.val (.bool false))))
 (none) :=
 (zE (f:=42) (by kernel_rfl) (by kernel_rfl) (by kernel_rfl) [x0,x1,x2,x3]).trans (by kernel_rfl)
def S238_0a(v0:List DV)(v1 v2:Int):St :=
 stOf 18 [(0,(.d (.sl 1 v0))),(3,(.d (eI v1))),(4,(.d (eI v2)))] []
noncomputable def L238_0a(v0:List DV)(v1 v2:Int):Option CR:=goQ 238 0 (S238_0a v0 v1 v2)
theorem L238_0a_eq(v0:List DV)(v1 v2:Int):L238_0a v0 v1 v2 =
 ifO (decide (v2<(((List.length v0):Nat):Int)))
 (ifO (decide (((0:Int)<=v2)/\(v2<(((List.length v0):Nat):Int))))
 (ifO (hasT EE 6 3 (nth v0 (Int.toNat v2)))
 ((L238_0a v0 (IntKind.wrap .i64 (v1+(getI (nth v0 (Int.toNat v2))))) (IntKind.wrap .i64 (v2+(1:Int)))))
 (none))
 (none))
 (some (.val (eI v1))) :=
 (zU 238 0 _).trans (by kernel_rfl)
theorem C238(x0:DV):zA 238 [x0] =
 ifO (zP (hasT EE 6) [25] [x0])
 ((L238_0a (elems x0) (0:Int) (0:Int)))
 (none) :=
 (zE (f:=238) (by kernel_rfl) (by kernel_rfl) (by kernel_rfl) [x0]).trans (by kernel_rfl)
end Go.Am
namespace Go.Am
open Go.Proofs
open Go
variable[OO]
@[simp] theorem c37(n a b:Int):zA 37 [eI n,eI a,eI b]=some (.val (eI (zV n a b))):=by rw[C37];simp[zG,zV];by_cases h:n<a <;> by_cases h':n>b <;> simp[h,h']
end Go.Am
namespace Go.Am
open Go.Proofs
open Go
variable[OO]
theorem l35(l:List Int)(hl:l.length<=4611686018427387904):∀i,i<=l.length->L35_0a (l.map eI) i=some (.val (eI (zL (l.drop i)))):=by
 apply down
 ·rw[L35_0a_eq];simp[zL]
 ·intro i hi ih;rw[L35_0a_eq,zT l i hi];have e1:(i:Int)<l.length:=by omega
  simp[e1,zI _ l i hi,zf,zL,wr (i+1) (by omega)]
  split
  ·exact_mod_cast ih
  ·rfl
@[simp] theorem c35(l:List Int)(hl:l.length<=4611686018427387904):zA 35 [.sl 1 (l.map eI)]=some (.val (eI (zL l))):=by rw[C35];simpa using l35 l hl 0 (Nat.zero_le _)
@[simp] theorem c35_2(a b:Int):zA 35 [.sl 1 [eI a,eI b]]=some (.val (eI (zL [a,b]))):=c35 [a,b] (by simp)
@[simp] theorem c35_4(a b c d:Int):zA 35 [.sl 1 [eI a,eI b,eI c,eI d]]=some (.val (eI (zL [a,b,c,d]))):=c35 [a,b,c,d] (by simp)
theorem ptE_or(p:Pt):ptE p=0\/ptE p=3:=by unfold ptE zL zV;by_cases h1:p.x < -1000\/p.x>1000 <;> by_cases h2:p.y < -1000\/p.y>1000 <;> simp[h1,h2,zL]
@[simp] theorem c164(p:Pt):zA 164 [ePt p]=some (.val (eI (ptE p))):=by rw[C164];simp[ptE]
theorem memB_cons(n k:ByteArray)(ks:List ByteArray):memB n (k :: ks)=(decide (n=k) || memB n ks):=rfl
theorem apart_comm(a b:Pt):jB a b=jB b a:=by
 have e:∀x y:Int,(x - y) * (x - y)=(y - x) * (y - x):=λx y=>by rw[show x - y=-(y - x) by omega,Int.neg_mul_neg]
 unfold jB;rw[e a.x b.x,e a.y b.y]
theorem l69_2(s:Si)(i:Nat)(hi:i<s.tb.length)(hl:s.tb.length<=64)(hp:∀o∈s.tb.take i,okPt o.at')(ht:okPt s.tb[i].at')(h1:1<=s.least)(h2:s.least<=1000) :
  ∀k,k<=i->L69_2a i k s.name s.least (s.tb.map eTb) s.tb[i].name s.tb[i].at'.x s.tb[i].at'.y =
   if ((s.tb.take i).drop k).any (λo=>decide (jB s.tb[i].at' o.at'<s.least * s.least)) then some (.val (eI 15)) else L69_0a ((i+1:Nat):Int) s.name s.least (s.tb.map eTb):=by
 apply down
 ·rw[L69_2a_eq];simp[wr ((i:Int)+1) (by omega)]
 ·intro k hk ih;have hkl:k<s.tb.length:=by omega
  have hb:=JS s.least 1000 (by omega) h2
  have hkt:k<(s.tb.take i).length:=by simp;omega
  have ha:=hp s.tb[k] (by rw[List.mem_take_iff_getElem];exact⟨k,by omega,rfl⟩)
  have e1:(k:Int)<i:=by omega
  have e2:(k:Int)<s.tb.length:=by omega
  have step:L69_2a i k s.name s.least (s.tb.map eTb) s.tb[i].name s.tb[i].at'.x s.tb[i].at'.y =
    if jB s.tb[i].at' s.tb[k].at'<s.least * s.least then some (.val (eI 15)) else L69_2a i ((k+1:Nat):Int) s.name s.least (s.tb.map eTb) s.tb[i].name s.tb[i].at'.x s.tb[i].at'.y:=by
   rw[L69_2a_eq];simp only[zG];simp[e1,e2,zI _ s.tb k hkl,c192 s.tb[k].at' s.tb[i].at' ha ht,wr (s.least * s.least) (by omega),wr (k+1) (by omega),apart_comm s.tb[k].at']
   rfl
  rw[step,ih,zT _ k hkt,List.any_cons,List.getElem_take];by_cases hd:jB s.tb[i].at' s.tb[k].at'<s.least * s.least
  ·rw[if_pos hd,decide_eq_true hd,Bool.true_or,if_pos rfl]
  ·rw[if_neg hd,decide_eq_false hd,Bool.false_or]
theorem l69_1(s:Si)(i:Nat)(hi:i<s.tb.length)(hl:s.tb.length<=64) :
  ∀k,k<=i->L69_1a i k s.name s.least (s.tb.map eTb) s.tb[i].name s.tb[i].at'.x s.tb[i].at'.y =
   if memB s.tb[i].name (((s.tb.take i).map (·.name)).drop k) then some (.val (eI 9)) else L69_2a i (0:Nat) s.name s.least (s.tb.map eTb) s.tb[i].name s.tb[i].at'.x s.tb[i].at'.y:=by
 apply down
 ·rw[L69_1a_eq];simp[memB]
 ·intro k hk ih;have hkl:k<s.tb.length:=by omega
  have hkt:k<((s.tb.take i).map (·.name)).length:=by simp;omega
  have e1:(k:Int)<i:=by omega
  have e2:(k:Int)<s.tb.length:=by omega
  have step:L69_1a i k s.name s.least (s.tb.map eTb) s.tb[i].name s.tb[i].at'.x s.tb[i].at'.y =
    if s.tb[i].name=s.tb[k].name then some (.val (eI 9)) else L69_1a i ((k+1:Nat):Int) s.name s.least (s.tb.map eTb) s.tb[i].name s.tb[i].at'.x s.tb[i].at'.y:=by
   rw[L69_1a_eq];simp only[bytes_beq,zG];simp[e1,e2,zI _ s.tb k hkl,wr (k+1) (by omega),eq_comm (a:=s.tb[k].name)]
  rw[step,ih,zT _ k hkt,memB_cons];simp only[List.getElem_map,List.getElem_take];by_cases hd:s.tb[i].name=s.tb[k].name
  ·rw[if_pos hd,decide_eq_true hd,Bool.true_or,if_pos rfl]
  ·rw[if_neg hd,decide_eq_false hd,Bool.false_or]
theorem l69_0(s:Si)(hl:s.tb.length<=64)(h1:1<=s.least)(h2:s.least<=1000) :
  ∀i,i<=s.tb.length->(∀o∈s.tb.take i,okPt o.at')->L69_0a i s.name s.least (s.tb.map eTb)=some (.val (eI (ja s.least (s.tb.take i) (s.tb.drop i)))):=by
 apply down (P:=λi=>(∀o∈s.tb.take i,okPt o.at')->L69_0a i s.name s.least (s.tb.map eTb)=some (.val (eI (ja s.least (s.tb.take i) (s.tb.drop i)))))
 ·intro _;rw[L69_0a_eq];simp[ja]
 ·intro i hi ih hp;have e1:(i:Int)<s.tb.length:=by omega
  have htk:s.tb.take (i+1)=s.tb.take i++[s.tb[i]]:=by rw[List.take_succ_eq_append_getElem hi]
  rw[zT s.tb i hi,ja];rw[htk] at ih;have step:L69_0a i s.name s.least (s.tb.map eTb) =
    if jE s.tb[i].name=true then (if ptE s.tb[i].at'=0 then L69_1a i (0:Nat) s.name s.least (s.tb.map eTb) s.tb[i].name s.tb[i].at'.x s.tb[i].at'.y else some (.val (eI 3))) else some (.val (eI 8)):=by
   rw[L69_0a_eq];simp only[zG,zf];simp[e1,zI _ s.tb i hi,c130];cases jE s.tb[i].name
   ·simp
   ·simp only[Bool.not_true,za,if_true];rfl
  rw[step];cases hn:jE s.tb[i].name with
  | false=>simp[zL]
  | true =>
   by_cases hq:ptE s.tb[i].at'=0
   ·have ht:okPt s.tb[i].at':=(zAs _).1 hq;simp only[if_true,hq];rw[l69_1 s i hi hl 0 (Nat.zero_le _),List.drop_zero];cases hm:memB s.tb[i].name ((s.tb.take i).map (·.name)) with
    | true=>simp[zL]
    | false =>
     simp only[Bool.false_eq_true,if_false,zL,if_true,ne_eq,not_true_eq_false];rw[l69_2 s i hi hl hp ht h1 h2 0 (Nat.zero_le _),List.drop_zero];split
     ·rfl
     ·refine ih λo ho=>?_
      rcases List.mem_append.1 ho with ho | ho
      ·exact hp o ho
      ·rw[List.mem_singleton.1 ho];exact ht
   ·rcases ptE_or s.tb[i].at' with h | h
    ·exact absurd h hq
    ·simp[h,zL]
theorem c69(s:Si):zA 69 [eSi s]=some (.val (eI (z8 s))):=by
 rw[C69];simp only[zf,zG];simp[z8,c130];cases hn:jE s.name with
 | false=>simp[zL]
 | true =>
  by_cases hr:zV s.least 1 1000=0
  ·by_cases hl:(64:Int)<s.tb.length
   ·simp[hr,hl,zL]
   ·have h0:zL [if jE s.name then 0 else 8,zV s.least 1 1000,if (64:Int)<s.tb.length then 5 else 0]=0:=by simp[zL,hn,hr,hl]
    obtain⟨_,h1,h2,h3⟩:=Jc h0;have:=l69_0 s h3 h1 h2 0 (Nat.zero_le _) (by simp)
    simpa[hr,hl,zL] using this
  ·have hr3:zV s.least 1 1000=3:=by unfold zV at hr ⊢;split at hr <;> simp_all
   simp[hr3,zL]
end Go.Am
namespace Go.Am
open Go.Proofs
open Go
variable[OO]
theorem l193(l:List ByteArray)(n:ByteArray)(hl:l.length<=1000):∀i,i<=l.length->L193_0a (l.map .str) n i=some (.val (.bool (memB n (l.drop i)))):=by
 apply down
 ·rw[L193_0a_eq];simp[memB]
 ·intro i hi ih;have e1:(i:Int)<l.length:=by omega
  rw[L193_0a_eq,zT l i hi,memB_cons];simp only[bytes_beq,zG,wr ((i:Int)+1) (by omega)]
  by_cases h:l[i]=n
  ·simp[e1,zI _ l i hi,h]
  ·have h':¬n=l[i]:=λe=>h e.symm
   simp only[decide_eq_false h',Bool.false_or];simp[e1,zI _ l i hi,h]
   exact_mod_cast ih
theorem c193(l:List ByteArray)(n:ByteArray)(hl:l.length<=1000):zA 193 [.sl 1 (l.map .str),.str n]=some (.val (.bool (memB n l))):=by rw[C193];simpa using l193 l n hl 0 (Nat.zero_le _)
theorem l71_1(d w:List Int)(nm:ByteArray)(hl:w.length<=1000):∀i,i<=w.length->L71_1a i nm (d.map eI) (w.map eI)=some (.val (eI (jC 100 true (zg w i) (w.drop i)))):=by
 apply down
 ·rw[L71_1a_eq];simp[jC]
 ·intro i hi ih;have e1:(i:Int)<w.length:=by omega
  rw[zT w i hi,jC];rw[jY w i hi] at ih;have step:L71_1a i nm (d.map eI) (w.map eI)=if zq 100 true (zg w i) w[i]=0 then L71_1a ((i+1:Nat):Int) nm (d.map eI) (w.map eI) else some (.val (eI (zq 100 true (zg w i) w[i]))):=by
   rw[L71_1a_eq];simp only[zG,zf];by_cases hr:zV w[i] 0 100=0
   ·cases i with
    | zero =>
     simp[e1,hi,zI _ w 0 hi,zg,zq,wr 1 (by omega),hr,zL]
    | succ j =>
     have hj:j<w.length:=by omega
     have e2:(((j+1:Nat):Int) - 1)=(j:Int):=by omega
     have e3:(j:Int)<w.length:=by omega
     have e4:((j+1:Nat):Int)>0:=by omega
     have e5:((j+1:Nat):Int)<w.length:=by omega
     have e6:(0:Int)<=((j+1:Nat):Int):=by omega
     rw[e2,wr (j:Int) (by omega)]
     rw[wr (((j+1:Nat):Int)+1) (by omega)]
     simp only[e4,e5,e6,e3,Int.natCast_nonneg,and_self,if_true,Int.toNat_natCast,zI _ w (j+1) hi,zI _ w j hj];have e7:(j:Int)+1<w.length:=by omega
     by_cases hc:w[j+1]<w[j]
     ·simp[zq,zg,hj,e7,hc,hr,zL]
     ·simp[zq,zg,hj,e7,hc,hr,zL]
   ·have hs:zq 100 true (zg w i) w[i]=zV w[i] 0 100:=by unfold zq;rw[zL,if_neg hr]
    simp[e1,hi,zI _ w i hi,hs,hr]
  rw[step,ih];split <;> rfl
theorem l71_0(d w:List Int)(nm:ByteArray)(hl:d.length<=1000):∀i,i<=d.length->L71_0a i nm (d.map eI) (w.map eI)=if jC 256 false (zg d i) (d.drop i)=0 then L71_1a (0:Nat) nm (d.map eI) (w.map eI) else some (.val (eI (jC 256 false (zg d i) (d.drop i)))):=by
 apply down
 ·rw[L71_0a_eq];simp[jC]
 ·intro i hi ih;have e1:(i:Int)<d.length:=by omega
  rw[zT d i hi,jC];rw[jY d i hi] at ih;have step:L71_0a i nm (d.map eI) (w.map eI)=if zq 256 false (zg d i) d[i]=0 then L71_0a ((i+1:Nat):Int) nm (d.map eI) (w.map eI) else some (.val (eI (zq 256 false (zg d i) d[i]))):=by
   rw[L71_0a_eq];simp only[zG,zf];by_cases hr:zV d[i] 0 256=0
   ·cases i with
    | zero =>
     simp[e1,hi,zI _ d 0 hi,zg,zq,wr 1 (by omega),hr,zL]
    | succ j =>
     have hj:j<d.length:=by omega
     have e2:(((j+1:Nat):Int) - 1)=(j:Int):=by omega
     have e3:(j:Int)<d.length:=by omega
     have e4:((j+1:Nat):Int)>0:=by omega
     have e5:((j+1:Nat):Int)<d.length:=by omega
     have e6:(0:Int)<=((j+1:Nat):Int):=by omega
     rw[e2,wr (j:Int) (by omega)]
     rw[wr (((j+1:Nat):Int)+1) (by omega)]
     simp only[e4,e5,e6,e3,Int.natCast_nonneg,and_self,if_true,Int.toNat_natCast,zI _ d (j+1) hi,zI _ d j hj];have e7:(j:Int)+1<d.length:=by omega
     by_cases hc:d[j+1]>d[j]
     ·simp[zq,zg,hj,e7,hc,hr,zL]
     ·simp[zq,zg,hj,e7,hc,hr,zL]
   ·have hs:zq 256 false (zg d i) d[i]=zV d[i] 0 256:=by unfold zq;rw[zL,if_neg hr]
    simp[e1,hi,zI _ d i hi,hs,hr]
  rw[step];by_cases h:zq 256 false (zg d i) d[i]=0
  ·rw[if_pos h,if_pos h,ih]
  ·rw[if_neg h,if_neg h,if_neg h]
theorem c71(w:Wk):zA 71 [eWk w]=some (.val (eI (wakeE w))):=by
 have key:wakeH w=0->L71_0a 0 w.rule (w.d.map eI) (w.w.map eI)=some (.val (eI (if jC 256 false none w.d=0 then jC 100 true none w.w else jC 256 false none w.d))):=by
  intro h;obtain⟨_,_,h3,h4⟩:=wakeH_facts h;have a:=l71_0 w.d w.w w.rule (by omega) 0 (Nat.zero_le _)
  have b:=l71_1 w.d w.w w.rule (by omega) 0 (Nat.zero_le _)
  simp only[zg,if_true,List.drop_zero,Int.natCast_zero] at a b;rw[a,b];split <;> rfl
 have h193:zA 193 [.sl 1 [.str rG,.str rS,.str rM],.str w.rule]=some (.val (.bool (jD w.rule))):=c193 [rG,rS,rM] w.rule (by simp)
 have fin:(if wakeH w=0 then L71_0a 0 w.rule (w.d.map eI) (w.w.map eI) else some (.val (eI (wakeH w))))=some (.val (eI (wakeE w))):=by
  unfold wakeE;by_cases h:wakeH w=0
  ·rw[if_pos h,if_pos h,key h]
  ·rw[if_neg h,if_neg h]
 rw[<-fin,C71,C92];simp only[zf,zG,zw];simp[h193];cases hk:jD w.rule with
 | false=>simp[wakeH,hk,zL]
 | true =>
  by_cases h1:w.d=[]
  ·simp[wakeH,hk,zL,h1]
  ·by_cases h2:(32:Int)<w.d.length
   ·simp[wakeH,hk,zL,h1,h2]
   ·by_cases h3:(w.w.length:Int)=w.d.length
    ·simp[wakeH,hk,zL,h1,h2,h3]
    ·simp[wakeH,hk,zL,h1,h2,h3]
end Go.Am
namespace Go.Am
open Go.Proofs
open Go
variable[OO]
theorem c194(n:Int)(h0:0<=n)(h7:n<=7):zA 194 [eI n]=some (.val (ePt (zO n))):=by
 rcases Yu h0 h7 with rfl | rfl | rfl | rfl | rfl | rfl | rfl | rfl <;> (rw[C194];simp[zO,nth])
theorem c195(p:Pt)(n:Int)(h0:0<=n)(h7:n<=7)(k:Int)(hk:k<=1000000)(hx:-k<=p.x)(hx':p.x<=k)(hy:-k<=p.y)(hy':p.y<=k):zA 195 [ePt p,eI n]=some (.val (eI (Jo p (zO n)))):=by
 obtain⟨s1,s2,s3,s4⟩:=jX n;have h1:=zp p.x (zO n).x k hx hx' s1 s2;have h2:=zp p.y (zO n).y k hy hy' s3 s4;rw[C195];simp[c194 n h0 h7];rw[wr (p.x * (zO n).x) (by omega),wr (p.y * (zO n).y) (by omega),wr _ (by omega)]
 rfl
theorem c196(n:Int)(h:-1000000<=n)(h':n<=1000000):zA 196 [eI n]=some (.val (eI (Int.fdiv n 2))):=by
 have e:Int.fdiv n 2=n / 2:=Int.fdiv_eq_ediv_of_nonneg n (by omega)
 have t:Int.tdiv n 2=if n<0 then -((-n) / 2) else n / 2:=by
  split
  ·have:=Int.neg_tdiv (a:=-n) (b:=2);rw[Int.neg_neg] at this;rw[this,Int.tdiv_eq_ediv_of_nonneg (by omega)]
  ·rw[Int.tdiv_eq_ediv_of_nonneg (by omega)]
 have m:Int.tmod n 2=n - 2 * Int.tdiv n 2:=by have:=Int.tmod_add_mul_tdiv n 2;omega
 rw[C196,e];simp only[zG,zf];simp only[zK,h3,zM,Bool.and_self,zB,zF];simp only[m,t];by_cases hn:n<0
 ·simp only[hn,if_true,wr (-(-n / 2)) (by omega),wr (-(-n / 2) - 1) (by omega)]
  split
  ·congr 3;omega
  ·congr 3;omega
 ·simp only[hn,if_false,wr (n / 2) (by omega)]
theorem c197(n:Int)(h:-1000000<=n)(h':n<=1000000):zA 197 [eI n]=some (.val (eI (if 0 - n>n then 0 - n else n))):=by rw[C197];simp only[zK,h3,zM,Bool.and_self,zB,zF];simp only[wr (0 - n) (by omega)]
theorem c72(a b:Pt)(n:Int)(h0:0<=n)(h7:n<=7)(ha:okPt a)(hb:okPt b):zA 72 [ePt a,ePt b,eI n]=some (.val (.tup [eI (relP n (zO n) a b).1,eI (relP n (zO n) a b).2])):=by
 obtain⟨a1,a2,a3,a4⟩:=ha;obtain⟨b1,b2,b3,b4⟩:=hb;have hal:=c195 ⟨b.x - a.x,b.y - a.y⟩ n h0 h7 2000 (by omega) (by simp;omega) (by simp;omega) (by simp;omega) (by simp;omega)
 obtain⟨s1,s2,s3,s4⟩:=jX n;have h1:=zp (b.x - a.x) (zO n).y 2000 (by omega) (by omega) s3 s4
 have h2:=zp (b.y - a.y) (zO n).x 2000 (by omega) (by omega) s1 s2
 have h5:=zp (b.x - a.x) (zO n).x 2000 (by omega) (by omega) s1 s2
 have h6:=zp (b.y - a.y) (zO n).y 2000 (by omega) (by omega) s3 s4
 have hab:=c197 ((b.x - a.x) * (zO n).y - (b.y - a.y) * (zO n).x) (by omega) (by omega)
 have hha:=c196 ((b.x - a.x) * (zO n).x+(b.y - a.y) * (zO n).y) (by omega) (by omega)
 rw[C72];simp only[zK,h3,h141,zM,Bool.and_self,zB,zR,zS,zW,zF,c194 n h0 h7,zH];simp only[wr (b.x - a.x) (by omega),wr (b.y - a.y) (by omega),wr ((b.x - a.x) * (zO n).y) (by omega),wr ((b.y - a.y) * (zO n).x) (by omega),wr ((b.x - a.x) * (zO n).y - (b.y - a.y) * (zO n).x) (by omega)]
 simp only[hal,zH,h3,zB,zF,zw,hab,Jo,hha,relP,relI];by_cases h:Int.tmod n 2=1
 ·simp only[h,if_true]
 ·simp only[h,if_false]
theorem c73(w:Wk)(s o:Int)(hl:w.w.length=w.d.length)(hd:w.d.length<=1000):zA 73 [eWk w,eI s,eI o]=some (.val (eI (defI w.d w.w s o))):=by
 rw[C73];simp only[zG];by_cases h1:s<1
 ·simp[h1,defI]
 ·by_cases h2:s>w.d.length
  ·simp[h1,h2,defI]
  ·obtain⟨k,rfl⟩:∃k:Nat,s=(k:Int)+1:=⟨(s - 1).toNat,by omega⟩
   have hk:k<w.d.length:=by omega
   have hk':k<w.w.length:=by omega
   have e1:((k:Int)+1 - 1)=k:=by omega
   have e2:(k:Int)<w.d.length:=by omega
   have e3:(k:Int)<w.w.length:=by omega
   simp only[defI,e1,Int.toNat_natCast];simp[h1,h2,e2,e3,wr (k:Int) (by omega),zI _ w.d k hk,zI _ w.w k hk',hk,hk']
   by_cases h4:o>w.w[k]
   ·simp[h4]
   ·simp[h4]
end Go.Am
namespace Go.Am
open Go.Proofs
open Go
variable[OO]
def listB(l:List Int)(e bad:Int)(want:List Int):Bool:=if e=bad then (if bad=0 then decide (l=want) else decide (l=[])) else false
def numB(n e bad want:Int):Bool:=if e=bad then (if bad=0 then decide (n=want) else decide (n=0)) else false
theorem c42(n e bad want:Int):zA 42 [eI n,eI e,eI bad,eI want]=some (.val (.bool (numB n e bad want))):=by
 rw[C42];simp only[zf,zw];by_cases h1:e=bad
 ·by_cases h2:bad=0
  ·by_cases h4:n=want
   ·simp[h1,h2,numB,h4]
   ·simp[h1,h2,numB,h4]
  ·by_cases h3:n=0
   ·simp[h1,h2,numB,h3]
   ·simp[h1,h2,numB,h3]
 ·simp[h1,numB]
theorem c56(l:List Int)(hb:l.length<=1000000):zA 56 [.sl 1 (l.map eI)]=some (.val (.sl 1 (l.map eI))):=by
 rw[C56];simp only[zG];have h1:(2 * l.length+200) * 8<=281474976710656:=by omega
 cases l with
 | nil=>simp
 | cons a l =>
  simp only[List.length_cons] at h1;simp[h1];exact List.take_of_length_le (by simp)
theorem c67(w:Wk)(h1:w.d.length<=1000000)(h2:w.w.length<=1000000):zA 67 [eWk w]=some (.val (eWk w)):=by rw[C67];simp[c56 w.d h1,c56 w.w h2]
theorem c107(c:Cu)(h1:c.p.length<=1000000):zA 107 [eCu c]=some (.val (eCu c)):=by rw[C107];simp[c56 c.p h1]
def shortS(s:Si)(n:Int):Bool :=
 if (s.name.size:Int)>60 then false else if (s.tb.length:Int)>n/\s.tb.length≠65 then false else s.tb.all λt=>decide ((t.name.size:Int)<=60)
theorem l62(s:Si)(hl:s.tb.length<=1000):∀i,i<=s.tb.length->L62_0a i s.name s.least (s.tb.map eTb)=some (.val (.bool ((s.tb.drop i).all λt=>decide ((t.name.size:Int)<=60)))):=by
 apply down
 ·rw[L62_0a_eq];simp
 ·intro i hi ih;have e1:(i:Int)<s.tb.length:=by omega
  rw[zT s.tb i hi,List.all_cons];rw[L62_0a_eq];simp only[zG];by_cases h:(s.tb[i].name.size:Int)>60
  ·have hd:decide ((s.tb[i].name.size:Int)<=60)=false:=decide_eq_false (by omega)
   rw[hd,Bool.false_and];simp[e1,zI _ s.tb i hi,h]
  ·have hd:decide ((s.tb[i].name.size:Int)<=60)=true:=decide_eq_true (by omega)
   rw[hd,Bool.true_and,<-ih];simp[e1,zI _ s.tb i hi,h,wr ((i:Int)+1) (by omega)]
theorem c62(s:Si)(n:Int)(hn:n<=100):zA 62 [eSi s,eI n]=some (.val (.bool (shortS s n))):=by
 rw[C62];simp only[zG,zf];unfold shortS;by_cases h1:(s.name.size:Int)>60
 ·simp[h1]
 ·by_cases h2:(s.tb.length:Int)>n
  ·by_cases h3:s.tb.length=65
   ·have:=l62 s (by omega) 0 (Nat.zero_le _)
    have h3':(s.tb.length:Int)=65:=by omega
    simp only[Int.natCast_zero,List.drop_zero] at this;simp[h1,h2,h3,h3'];rw[this]
   ·have h3':¬(s.tb.length:Int)=65:=by omega
    simp[h1,h2,h3,h3']
  ·have:=l62 s (by omega) 0 (Nat.zero_le _)
   simp only[Int.natCast_zero,List.drop_zero] at this;simp[h1,h2];rw[this]
def short33(n:Nat):Bool:=decide ((n:Int)<=6) || ((n:Int) == 33)
def shortW(w:Wk):Bool:=decide ((w.rule.size:Int)<=40) && short33 w.d.length && short33 w.w.length
theorem c63(w:Wk):zA 63 [eWk w]=some (.val (.bool (shortW w))):=by
 rw[C63];simp only[zG,zw];unfold shortW short33;by_cases h1:(w.rule.size:Int)<=40
 ·by_cases h2:(w.d.length:Int)<=6
  ·by_cases h3:(w.w.length:Int)<=6
   ·simp[h1,h2,h3]
   ·simp[h1,h2,h3]
  ·by_cases h4:(w.d.length:Int)=33
   ·by_cases h3:(w.w.length:Int)<=6
    ·simp[h1,h2,h3,h4]
    ·simp[h1,h2,h3,h4]
   ·simp[h1,h2,h4]
 ·simp[h1]
end Go.Am
namespace Go.Am
open Go.Proofs
open Go
variable[OO]
theorem l65_b(tbs:List Tb)(nm:ByteArray)(least:Int)(hl:tbs.length<=100000):∀i,i<=tbs.length->L65_0b (tbs.map eTb) tbs.length i nm least ((tbs.take i).map eTb)=some (.val (.agg 0 [.str nm,eI least,.sl 3 (tbs.map eTb)])):=by
 apply down
 ·rw[L65_0b_eq];simp;exact List.take_of_length_le (by simp)
 ·intro i hi ih;have e1:(i:Int)<tbs.length:=by omega
  have htk:tbs.take (i+1)=tbs.take i++[tbs[i]]:=by rw[List.take_succ_eq_append_getElem hi]
  rw[<-ih];rw[L65_0b_eq];simp only[zG];have hm:min i tbs.length=i:=by omega
  have e2:(2 * (i+1)+200) * 32<=281474976710656:=by omega
  simp[e1,zI _ tbs i hi,hm,e2,wr ((i:Int)+1) (by omega)]
  congr 1;rw[List.take_succ_eq_append_getElem (by simpa using hi)]
  simp
theorem c65(s:Si)(hl:s.tb.length<=100000):zA 65 [eSi s]=some (.val (eSi s)):=by
 rw[C65];simp;rw[L65_0a_eq];simp only[zG];by_cases h:s.tb=[]
 ·simp[h]
 ·have h0:0<s.tb.length:=List.length_pos_iff.2 h;have h1:=l65_b s.tb s.name s.least hl 1 (by omega)
  have e:s.tb.take 1=[s.tb[0]]:=by rw[List.take_succ_eq_append_getElem h0];simp
  rw[e] at h1;simp[h0,zI _ s.tb 0 h0];simpa using h1
theorem c70(s:Si)(i:Int):zA 70 [eSi s,eI i]=some (.val (eI (idxE s.tb.length i))):=by
 rw[C70];simp only[zG];unfold idxE;by_cases h1:i<0
 ·simp[h1]
 ·by_cases h2:i>=s.tb.length
  ·simp[h1,h2]
  ·simp[h1,h2]
end Go.Am
namespace Go.Am
open Go.Proofs
open Go
variable[OO]
theorem shortS_len{s:Si}{n:Int}(h:shortS s n=true):(s.tb.length:Int)<=n\/s.tb.length=65:=by
 unfold shortS at h;split at h
 ·cases h
 ·split at h
  ·cases h
  ·omega
theorem short33_le{n:Nat}(h:short33 n=true):n<=33:=by simp[short33] at h;omega
end Go.Am
namespace Go.Am
open Go.Proofs
open Go
variable[OO]
theorem l238(l:List Int)(hl:l.length<=100000)(hb:∀x∈l,0<=x/\x<=100000000):∀i,i<=l.length->∀n:Int,0<=n->n<=i * 100000000->L238_0a (l.map eI) n i=some (.val (eI (n+sumI (l.drop i)))):=by
 apply down (P:=λi=>∀n:Int,0<=n->n<=i * 100000000->L238_0a (l.map eI) n i=some (.val (eI (n+sumI (l.drop i)))))
 ·intro n _ _;rw[L238_0a_eq];simp[sumI]
 ·intro i hi ih n h0 h1;have e1:(i:Int)<l.length:=by omega
  have hx:=hb l[i] (List.getElem_mem hi);have ih':=ih (n+l[i]) (by omega) (by omega)
  rw[L238_0a_eq,zT l i hi];simp only[zG];simp[e1,zI _ l i hi,wr ((i:Int)+1) (by omega),wr (n+l[i]) (by omega),sumI]
  rw[show((i:Int)+1)=((i+1:Nat):Int) by omega,ih']
  simp;omega
theorem c238(l:List Int)(hl:l.length<=100000)(hb:∀x∈l,0<=x/\x<=100000000):zA 238 [.sl 1 (l.map eI)]=some (.val (eI (sumI l))):=by rw[C238];simpa using l238 l hl hb 0 (Nat.zero_le _) 0 (by omega) (by omega)
theorem rS_ne_rM:¬rS=rM:=by decide
theorem rG_ne_rM:¬rG=rM:=by decide
theorem rG_ne_rS:¬rG=rS:=by decide
end Go.Am
namespace Go.Am
open Go.Proofs
open Go
variable[OO]
theorem l110(l:List Int)(cut:Int)(hl:l.length<=1000):∀i,i<=l.length->L110_0a i (l.map eI) cut=some (.val (eI (js cut (if i=0 then none else some (l.getD (i - 1) 0)) (l.drop i)))):=by
 apply down
 ·rw[L110_0a_eq];simp[js]
 ·intro i hi ih;have e1:(i:Int)<l.length:=by omega
  have hgi:l.getD i 0=l[i]:=by rw[List.getD_eq_getElem?_getD,List.getElem?_eq_getElem hi];rfl
  rw[if_neg (by omega:¬i+1=0),Nat.add_sub_cancel,hgi] at ih
  have ih2:L110_0a (IntKind.i64.wrap ((i:Int)+1)) (l.map eI) cut=some (.val (eI (js cut (some l[i]) (l.drop (i+1))))):=by rw[wr ((i:Int)+1) (by omega)];exact_mod_cast ih
  rw[L110_0a_eq,zT l i hi];have hn:=zI eI l i hi;have e7:(0:Int)<=(i:Int):=by omega
  simp only[zG,zw,zf];simp only[List.length_map,e1,e7,if_true,and_self,Int.toNat_natCast,hn,h3,ih2,zB,c37,zH];by_cases hz:i=0
  ·subst hz;simp only[Int.natCast_zero,gt_iff_lt,Int.lt_irrefl,if_false,if_true];rw[js];by_cases hX:zV l[0] 0 100000=0
   ·refine(if_pos hX).trans ?_;by_cases h6:l[0]=0
    ·refine(if_pos h6).trans ?_;have e:jH none l[0]=0:=by rw[h6] at hX;simp[jH,zL,hX,h6]
     rw[if_pos e]
    ·refine(if_neg h6).trans ?_;have e:jH none l[0]=6:=by simp[jH,zL,hX,h6]
     rw[e];rfl
   ·refine(if_neg hX).trans ?_;have e:jH none l[0]=zV l[0] 0 100000:=by simp[jH,zL,hX]
    rw[e,if_neg hX];rfl
  ·obtain⟨k,rfl⟩:∃k,i=k+1:=⟨i - 1,by omega⟩
   have hk:k<l.length:=by omega
   have hgk:l.getD k 0=l[k]:=by rw[List.getD_eq_getElem?_getD,List.getElem?_eq_getElem hk];rfl
   have hnk:=zI eI l k hk;have e3:IntKind.i64.wrap (((k+1:Nat):Int) - 1)=k:=by rw[wr _ (by omega)];omega
   have e5:((k+1:Nat):Int)>0:=by omega
   have e6:¬((k+1:Nat):Int)=0:=by omega
   have e8:(0:Int)<=(k:Int)/\(k:Int)<l.length:=by omega
   simp only[e3,e5,e6,e8,if_true,if_false,and_self,Int.toNat_natCast,hnk,h3,zB];rw[js];simp only[Nat.add_sub_cancel,hgk,Nat.add_eq_zero_iff,Nat.one_ne_zero,and_false,if_false];by_cases hX:zV l[k+1] 0 100000=0
   ·refine(if_pos hX).trans ?_;by_cases h6:l[k+1]<l[k]
    ·refine(if_pos h6).trans ?_;have e:jH (some l[k]) l[k+1]=11:=by simp[jH,zL,hX,h6]
     rw[e];rfl
    ·refine(if_neg h6).trans ?_;rw[if_pos (by simp[jH,zL,hX,h6])]
   ·refine(if_neg hX).trans ?_;have e:jH (some l[k]) l[k+1]=zV l[k+1] 0 100000:=by simp[jH,zL,hX]
    rw[e,if_neg hX];rfl
theorem c110(c:Cu):zA 110 [eCu c]=some (.val (eI (Jn c))):=by
 rw[C110];simp only[zG];simp only[zK,zM,h29,Bool.and_self,zB,zR,zS,zW,zQ,zF,List.length_map];unfold Jn;by_cases h1:(c.p.length:Int)<2
 ·simp[h1]
 ·by_cases h2:(c.p.length:Int)>51
  ·simp[h1,h2]
  ·rw[if_neg h1,if_neg h2,if_neg h1,if_neg h2,<-qv];have:=l110 c.p c.cut (by omega) 0 (Nat.zero_le _)
   simpa using this
theorem l129_1(r:List (List Int))(s:Nat)(hs:s<r.length)(h8:r.length=8)(hrow:r[s].length=51):∀k,k<=r[s].length->L129_1a s k (r.map eRow)=if JP (r[s].drop k)=0 then L129_0a (IntKind.i64.wrap ((s:Int)+1)) (r.map eRow) else some (.val (eI 3)):=by
 apply down
 ·rw[L129_1a_eq];simp only[zG];rw[if_neg (by omega)]
  simp[JP]
 ·intro k hk ih;have e1:(k:Int)<=50:=by omega
  have e2:(0:Int)<=(s:Int)/\(s:Int)<8:=by omega
  have e3:(0:Int)<=(k:Int)/\(k:Int)<51:=by omega
  rw[L129_1a_eq,zT r[s] k hk];simp only[zG,zf];rw[if_pos e1,if_pos e2,if_pos e3];simp only[Int.toNat_natCast,jQ _ _ _ _ hs,zB,zI _ r s hs,jQ _ _ _ _ hk,zR,zI _ r[s] k hk,h3,zF,c37,zH];rw[wr ((k:Int)+1) (by omega),show((k:Int)+1)=((k+1:Nat):Int) by omega,ih]
  rw[Yq];rcases zAU r[s][k] 0 40000 with hr | hr
  ·simp[hr]
  ·simp[hr]
theorem l129_0(r:List (List Int))(h:zm r):∀s,s<=r.length->L129_0a s (r.map eRow)=some (.val (eI (Yf (r.drop s)))):=by
 apply down
 ·rw[L129_0a_eq];have:=h.1;simp only[zG];rw[if_neg (by omega)]
  simp[Yf]
 ·intro s hs ih;have hl:=h.1;have hrow:=h.2 r[s] (List.getElem_mem hs);have e1:(s:Int)<8:=by omega
  rw[L129_0a_eq,zT r s hs];simp only[zG];rw[if_pos e1];have:=l129_1 r s hs hl hrow 0 (Nat.zero_le _);rw[show((0:Nat):Int)=0 from rfl] at this
  rw[this,wr ((s:Int)+1) (by omega),show((s:Int)+1)=((s+1:Nat):Int) by omega,ih,List.drop_zero]
  rw[Qi];split <;> simp_all
theorem c129(r:List (List Int))(h:zm r):zA 129 [eRo r]=some (.val (eI (Yf r))):=by rw[C129];simp only[zK,zM,h32,List.length_map,h.1,decide_true,Bool.and_self,zB,zR];have:=l129_0 r h 0 (Nat.zero_le _);simpa using this
theorem hFm'(f:Fm)(h:zm f.r):hasT EE 6 34 (eFm f)=true:=by rw[h34];simp[h.1]
theorem c22(f:Fm)(h:zm f.r):zA 22 [eFm f]=some (.val (eI (jM f))):=by rw[C22];simp only[zK,zM,hFm' f h,Bool.and_self,zB,zR,zS,zW,zb,ze,zX,zF,zQ];simp only[c69,c71,c110,c129 f.r h,zH,h3,zB,zF,c35_4];rfl
end Go.Am
namespace Go.Am
open Go.Proofs
open Go
variable[OO]
def fillR(row:List Int)(k:Nat):List Int:=row.take k++List.replicate (row.length - k) 0
theorem fillR_len(row:List Int)(k:Nat)(h:k<=row.length):(fillR row k).length=row.length:=by simp[fillR];omega
theorem fillR_zero(row:List Int):fillR row 0=List.replicate row.length 0:=by simp[fillR]
theorem fillR_end(row:List Int):fillR row row.length=row:=by simp[fillR]
theorem fillR_set(row:List Int)(k:Nat)(h:k<row.length):(fillR row k).set k row[k]=fillR row (k+1):=by
 unfold fillR;rw[List.set_append_right _ _ (by simp;omega)]
 have e1:row.length - k=(row.length - (k+1))+1:=by omega
 have e2:k - (List.take k row).length=0:=by simp;omega
 rw[e1,e2,List.replicate_succ,List.set_cons_zero,List.take_succ_eq_append_getElem h,List.append_assoc];rfl
theorem fillR_skip(row:List Int)(k:Nat)(h:k<row.length)(h0:row[k]=0):fillR row (k+1)=fillR row k:=by
 unfold fillR;have e1:row.length - k=(row.length - (k+1))+1:=by omega
 rw[e1,List.replicate_succ,List.take_succ_eq_append_getElem h,List.append_assoc,h0];rfl
theorem ptAt'(s:Si)(i:Nat)(h:i<s.tb.length):(psOf s).getD i default=s.tb[i].at':=by rw[List.getD_eq_getElem?_getD];simp[psOf,h]
theorem rowP'_get(w:Wk)(s:Si)(sec:Int)(st:Pt)(j i:Nat)(hi:i<(z6 w (psOf s) sec st j).length):(z6 w (psOf s) sec st j)[i]=if i=j then 0 else defP w sec st ((psOf s).getD i default) ((psOf s).getD j default):=by simp[z6]
theorem rowP'_len(w:Wk)(s:Si)(sec:Int)(st:Pt)(j:Nat):(z6 w (psOf s) sec st j).length=s.tb.length:=by simp[z6,psOf]
section
variable{s:Si}{w:Wk}{sec:Int}(h:SiteOK s w sec)
include h
theorem l79_1b(V:List DV)(hV:V.length<=1000)(j:Nat)(hj:j<s.tb.length):∀k,k<=(z6 w (psOf s) sec (zO sec) j).length ->
  L79_1b sec V j (List.replicate s.tb.length (eI 0)) k s.name s.least (s.tb.map eTb) w.rule (w.d.map eI) (w.w.map eI) ((fillR (z6 w (psOf s) sec (zO sec) j) k).map eI) =
   L79_0b sec (V++[.sl 1 ((z6 w (psOf s) sec (zO sec) j).map eI)]) ((j+1:Nat):Int) s.name s.least (s.tb.map eTb) w.rule (w.d.map eI) (w.w.map eI):=by
 have hlen:=rowP'_len w s sec (zO sec) j;generalize hrow:z6 w (psOf s) sec (zO sec) j=row at hlen ⊢;have hl:=h.l;apply down
 ·rw[L79_1b_eq,fillR_end];simp only[zG];have e:(2 * (V.length+1)+200) * 24<=281474976710656:=by omega
  simp[hlen,e,wr ((j:Int)+1) (by omega)]
  rw[List.take_of_length_le (by simp;omega)]
 ·intro k hk ih;have hk':k<s.tb.length:=by omega
  have hrk:row[k]=if k=j then 0 else defP w sec (zO sec) ((psOf s).getD k default) ((psOf s).getD j default):=by subst hrow;exact rowP'_get w s sec (zO sec) j k hk
  have e1:(k:Int)<s.tb.length:=by omega
  have e2:(j:Int)<s.tb.length:=by omega
  rw[L79_1b_eq,<-ih];simp only[zG,zf];by_cases hkj:k=j
  ·rw[if_pos hkj] at hrk;rw[fillR_skip row k hk hrk];subst hkj;simp[e1,wr ((k:Int)+1) (by omega)]
  ·rw[if_neg hkj,ptAt' s k hk',ptAt' s j hj] at hrk;have hne:¬((k:Int)=(j:Int)):=by omega
   have c1:=c72 s.tb[k].at' s.tb[j].at' sec h.s.1 h.s.2 (h.p _ (List.getElem_mem hk')) (h.p _ (List.getElem_mem hj));have c2:=c73 w (relP sec (zO sec) s.tb[k].at' s.tb[j].at').1 (relP sec (zO sec) s.tb[k].at' s.tb[j].at').2 h.w.2.1 (by have:=h.w.2.2;omega)
   have hset:=fillR_set row k hk;have hfl:=fillR_len row k (by omega)
   rw[hrk] at hset;simp only[defP] at hset;have e3:k<(List.map eI (fillR row k)).length:=by simp[hfl];omega
   simp[e1,e2,hne,zI _ s.tb k hk',zI _ s.tb j hj,c1,c2,wr ((k:Int)+1) (by omega),hfl,hlen,hk']
   rw[<-hset,List.map_set]
theorem l79_1a:∀k,k<=(z6 w (psOf s) sec (zO sec) 0).length->0<s.tb.length ->
  L79_1a sec (List.replicate s.tb.length (eI 0)) k s.name s.least (s.tb.map eTb) w.rule (w.d.map eI) (w.w.map eI) ((fillR (z6 w (psOf s) sec (zO sec) 0) k).map eI) =
   L79_0b sec [.sl 1 ((z6 w (psOf s) sec (zO sec) 0).map eI)] 1 s.name s.least (s.tb.map eTb) w.rule (w.d.map eI) (w.w.map eI):=by
 have hlen:=rowP'_len w s sec (zO sec) 0;generalize hrow:z6 w (psOf s) sec (zO sec) 0=row at hlen ⊢;have hl:=h.l;apply down (P:=λk=>0<s.tb.length->L79_1a sec (List.replicate s.tb.length (eI 0)) k s.name s.least (s.tb.map eTb) w.rule (w.d.map eI) (w.w.map eI) ((fillR row k).map eI) =
   L79_0b sec [.sl 1 (row.map eI)] 1 s.name s.least (s.tb.map eTb) w.rule (w.d.map eI) (w.w.map eI))
 ·intro _;rw[L79_1a_eq,fillR_end];simp only[zG];simp[hlen];rw[List.take_of_length_le (by simp;omega)]
 ·intro k hk ih h0;have ih:=ih h0;have hk':k<s.tb.length:=by omega
  have hrk:row[k]=if k=0 then 0 else defP w sec (zO sec) ((psOf s).getD k default) ((psOf s).getD 0 default):=by subst hrow;exact rowP'_get w s sec (zO sec) 0 k hk
  have e1:(k:Int)<s.tb.length:=by omega
  have e2:(0:Int)<s.tb.length:=by omega
  rw[L79_1a_eq,<-ih];simp only[zG,zf];by_cases hkj:k=0
  ·rw[if_pos hkj] at hrk;rw[fillR_skip row k hk hrk];subst hkj;simp[e2,h0,wr 1 (by omega)]
  ·rw[if_neg hkj,ptAt' s k hk',ptAt' s 0 h0] at hrk;have hne:¬((k:Int)=0):=by omega
   have c1:=c72 s.tb[k].at' s.tb[0].at' sec h.s.1 h.s.2 (h.p _ (List.getElem_mem hk')) (h.p _ (List.getElem_mem h0));have c2:=c73 w (relP sec (zO sec) s.tb[k].at' s.tb[0].at').1 (relP sec (zO sec) s.tb[k].at' s.tb[0].at').2 h.w.2.1 (by have:=h.w.2.2;omega)
   have hset:=fillR_set row k hk;have hfl:=fillR_len row k (by omega)
   rw[hrk] at hset;simp only[defP] at hset;have e3:k<(List.map eI (fillR row k)).length:=by simp[hfl];omega
   simp[e1,e2,hne,hkj,zI _ s.tb k hk',zI _ s.tb 0 h0,c1,c2,wr ((k:Int)+1) (by omega),hfl,hlen,hk',h0]
   rw[<-hset,List.map_set]
theorem l79_0b:∀j,j<=s.tb.length->L79_0b sec (((List.range j).map (z6 w (psOf s) sec (zO sec))).map λr=>.sl 1 (r.map eI)) j s.name s.least (s.tb.map eTb) w.rule (w.d.map eI) (w.w.map eI) =
  some (.val (.sl 1 ((wakesP w (psOf s) sec (zO sec)).map λr=>.sl 1 (r.map eI)))):=by
 have hl:=h.l;apply down
 ·rw[L79_0b_eq];simp only[zG];have:=zA8 ((List.range s.tb.length).map (z6 w (psOf s) sec (zO sec)));simp only[List.length_map,Int.lt_irrefl,if_false,Nat.zero_add,Nat.le_refl,if_true,List.drop_zero];rw[List.take_of_length_le (by simp),this]
  simp[wakesP,psOf]
 ·intro j hj ih;have e1:(j:Int)<s.tb.length:=by omega
  have k1:=l79_1b h (((List.range j).map (z6 w (psOf s) sec (zO sec))).map λr=>.sl 1 (r.map eI)) (by simp;omega) j hj 0 (Nat.zero_le _)
  rw[fillR_zero,rowP'_len,List.map_replicate,show((0:Nat):Int)=0 from rfl] at k1
  rw[L79_0b_eq];simp only[zG,List.length_map,Int.toNat_natCast,true_and];rw[if_pos e1,if_pos (by omega),k1,<-ih]
  congr 1;rw[List.range_succ];simp
theorem c79:zA 79 [eSi s,eWk w,eI sec]=some (.val (.sl 1 ((wakesP w (psOf s) sec (zO sec)).map λr=>.sl 1 (r.map eI)))):=by
 rw[C79];simp only[zK,zM,h24,h27,h3,Bool.and_self,zB,zR,zS,zW,zb,zX,zF,zQ];have hl:=h.l;rw[L79_0a_eq];simp only[zG,List.length_map,Int.toNat_natCast,true_and];by_cases h0:s.tb.length=0
 ·rw[if_neg (by omega)]
  simp[wakesP,psOf,h0]
 ·have h0':0<s.tb.length:=by omega
  have k1:=l79_1a h 0 (Nat.zero_le _) h0';rw[fillR_zero,rowP'_len,List.map_replicate,show((0:Nat):Int)=0 from rfl] at k1
  have k2:=l79_0b h 1 h0';rw[if_pos (by omega),if_pos (by omega),k1]
  simpa using k2
end
theorem beqB(a b:ByteArray):(a.toList == b.toList)=decide (a=b):=bytes_beq a b
theorem l201_1(n:Int)(h0:0<=n)(hn:n<=100000000):∀(k:Nat) (r:Int),0<=r->r * r<=n->n - r<=k->L201_1a n r=some (.val (eI (capI (JE n)))):=by
 intro k;induction k with
 | zero =>
  intro r h1 h2 h3;have hr:=J4 n 0 r h1 h2 (by omega)
  have he:r=JE n:=IsRoot.unique hr (jy h0);rw[L201_1a_eq];have hlt:=hr.2.2;simp only[Q4] at hlt;have hr1:r<=10000:=by
   rcases Int.lt_or_le 10000 r with hh | hh
   ·have:=jT (a:=10001) (b:=r) (by omega) (by omega);omega
   ·exact hh
  have hs:=jT (a:=r+1) (b:=10001) (by omega) (by omega)
  have hs0:=Int.mul_nonneg (a:=r+1) (b:=r+1) (by omega) (by omega)
  simp only[zG];rw[wr (r+1) (by omega),wr ((r+1) * (r+1)) (by omega),if_neg (by omega),<-he]
  unfold capI;split <;> split <;> first | rfl | (congr 3;omega)
 | succ k ih =>
  intro r h1 h2 h3;have hr1:r<=10000:=by
   rcases Int.lt_or_le 10000 r with hh | hh
   ·have:=jT (a:=10001) (b:=r) (by omega) (by omega);omega
   ·exact hh
  have hs:=jT (a:=r+1) (b:=10001) (by omega) (by omega)
  have hs0:=Int.mul_nonneg (a:=r+1) (b:=r+1) (by omega) (by omega)
  rw[L201_1a_eq];simp only[zG];rw[wr (r+1) (by omega),wr ((r+1) * (r+1)) (by omega)]
  by_cases hc:(r+1) * (r+1)<=n
  ·rw[if_pos hc];exact ih (r+1) (by omega) hc (by omega)
  ·rw[if_neg hc];have he:r=JE n:=IsRoot.unique ⟨h1,h2,by omega⟩ (jy h0)
   rw[<-he];unfold capI;split <;> split <;> first | rfl | (congr 3;omega)
theorem capI_swap(n:Int):(if (256:Int)<n then (256:Int) else n)=capI n:=by unfold capI;split <;> split <;> omega
section
variable(l:List Int)(hl:l.length<=64)(hb:∀x∈l,0<=x/\x<=256)
include hl hb
theorem l201_M:∀i,i<=l.length->∀n:Int,0<=n->n<=i * 256->L201_0a rM (l.map eI) n i=some (.val (eI (capI (n+sumI (l.drop i))))):=by
 apply down (P:=λi=>∀n:Int,0<=n->n<=i * 256->L201_0a rM (l.map eI) n i=some (.val (eI (capI (n+sumI (l.drop i))))))
 ·intro n _ _;rw[L201_0a_eq];simp only[beqB,zG,List.length_map,Int.lt_irrefl,if_false];rw[if_neg zAW,capI_swap];simp[sumI]
 ·intro i hi ih n h0 h1;have e1:(i:Int)<l.length:=by omega
  have e0:(0:Int)<=(i:Int):=by omega
  have hx:=hb l[i] (List.getElem_mem hi);have ih':=ih (n+l[i]) (by omega) (by omega)
  rw[L201_0a_eq,zT l i hi];simp only[beqB,zG,List.length_map,e1,e0,and_self,if_true];simp only[Int.toNat_natCast,zI _ l i hi,h3,zB,zF];rw[wr (n+l[i]) (by omega),wr ((i:Int)+1) (by omega),show((i:Int)+1)=((i+1:Nat):Int) by omega,ih',sumI,Int.add_assoc]
theorem l201_G:∀i,i<=l.length->∀n:Int,L201_0a rG (l.map eI) n i=some (.val (eI (capI (maxL n (l.drop i))))):=by
 apply down (P:=λi=>∀n:Int,L201_0a rG (l.map eI) n i=some (.val (eI (capI (maxL n (l.drop i))))))
 ·intro n;rw[L201_0a_eq];simp only[beqB,zG,List.length_map,Int.lt_irrefl,if_false];rw[if_neg rG_ne_rS,capI_swap];simp[maxL]
 ·intro i hi ih n;have e1:(i:Int)<l.length:=by omega
  have e0:(0:Int)<=(i:Int):=by omega
  have ih':=ih (if l[i]>n then l[i] else n)
  rw[L201_0a_eq,zT l i hi];simp only[beqB,zG,List.length_map,e1,e0,and_self,if_true];rw[if_neg rG_ne_rM];simp only[Int.toNat_natCast,zI _ l i hi,h3,zB,zF];rw[wr ((i:Int)+1) (by omega),show((i:Int)+1)=((i+1:Nat):Int) by omega,ih',maxL]
theorem l201_S:∀i,i<=l.length->∀n:Int,0<=n->n<=i * 65536->L201_0a rS (l.map eI) n i=some (.val (eI (capI (JE (n+sumI (sqI (l.drop i))))))):=by
 apply down (P:=λi=>∀n:Int,0<=n->n<=i * 65536->L201_0a rS (l.map eI) n i=some (.val (eI (capI (JE (n+sumI (sqI (l.drop i))))))))
 ·intro n h0 h1;rw[L201_0a_eq];simp only[beqB,zG,List.length_map,Int.lt_irrefl,if_false];rw[if_pos trivial,l201_1 n h0 (by omega) n.toNat 0 (by omega) (by omega) (by omega)]
  simp[sumI,sqI]
 ·intro i hi ih n h0 h1;have e1:(i:Int)<l.length:=by omega
  have e0:(0:Int)<=(i:Int):=by omega
  have hx:=hb l[i] (List.getElem_mem hi);have hs:=jT (a:=l[i]) (b:=256) hx.1 hx.2;have hs0:=Int.mul_nonneg hx.1 hx.1;have ih':=ih (n+l[i] * l[i]) (by omega) (by omega)
  rw[L201_0a_eq,zT l i hi];simp only[beqB,zG,List.length_map,e1,e0,and_self,if_true];rw[if_neg rS_ne_rM,if_neg zAV];simp only[Int.toNat_natCast,zI _ l i hi,h3,zB,zF];rw[wr (l[i] * l[i]) (by omega),wr (n+l[i] * l[i]) (by omega),wr ((i:Int)+1) (by omega),show((i:Int)+1)=((i+1:Nat):Int) by omega,ih']
  show _=some (CR.val (eI (capI (JE (n+(l[i] * l[i]+sumI (sqI (l.drop (i+1)))))))));rw[Int.add_assoc]
theorem c201(rule:ByteArray)(hk:jD rule=true):zA 201 [.str rule,.sl 1 (l.map eI)]=some (.val (eI (capI (YI rule l)))):=by
 rw[C201];simp only[zK,zM,h9,h25,Bool.and_self,zB,zX,zQ];unfold YI;by_cases h1:rule=rG
 ·subst h1;have:=l201_G l hl hb 0 (Nat.zero_le _) 0;rw[if_pos rfl];simpa using this
 ·by_cases h2:rule=rS
  ·subst h2;have:=l201_S l hl hb 0 (Nat.zero_le _) 0 (by omega) (by omega)
   rw[if_neg h1,if_pos rfl];simpa using this
  ·have h3:rule=rM:=by simpa[jD,memB,h1,h2] using hk
   subst h3;have:=l201_M l hl hb 0 (Nat.zero_le _) 0 (by omega) (by omega)
   rw[if_neg h1,if_neg h2];simpa using this
end
theorem l80b{s:Si}{w:Wk}{sec:Int}(h:SiteOK s w sec)(hk:jD w.rule=true):∀j,j<=(wakesP w (psOf s) sec (zO sec)).length ->
  L80_0b (((wakesP w (psOf s) sec (zO sec)).take j).map λl=>eI (capI (YI w.rule l))) ((wakesP w (psOf s) sec (zO sec)).map λr=>.sl 1 (r.map eI)) j w.rule (w.d.map eI) (w.w.map eI) =
   some (.fresh 1 ((jS w (psOf s) sec (zO sec)).map eI)):=by
 have hb:=wakesP_bound h.w (psOf s) sec (zO sec);have hlen:(wakesP w (psOf s) sec (zO sec)).length=s.tb.length:=by simp[wakesP,psOf]
 have hpl:(psOf s).length=s.tb.length:=zn s;have hl:=h.l;unfold jS;generalize wakesP w (psOf s) sec (zO sec)=W at hb hlen ⊢;apply down
 ·rw[L80_0b_eq];simp only[zG,List.length_map,List.length_take,Nat.min_self,Int.lt_irrefl,if_false,if_true,List.take_length];simp
 ·intro j hj ih;have e1:(j:Int)<W.length:=by omega
  have hx:=hb W[j] (List.getElem_mem hj);have c:=c201 W[j] (by omega) hx.2 w.rule hk
  have hm:min j W.length=j:=by omega
  have e2:(2 * (j+1)+200) * 8<=281474976710656:=by omega
  rw[<-ih,L80_0b_eq];simp only[zG];simp[e1,zI _ W j hj,hm,e2,wr ((j:Int)+1) (by omega),c]
  congr 1;rw[List.take_succ_eq_append_getElem (by simpa using hj)]
  simp
theorem c80{s:Si}{w:Wk}{sec:Int}(h:SiteOK s w sec)(hk:jD w.rule=true):zA 80 [eSi s,eWk w,eI sec]=some (Jl (jS w (psOf s) sec (zO sec))):=by
 rw[C80];simp only[zK,zM,h24,h27,h3,Bool.and_self,zB,zR,zS,zW,zb,zX,zF,zQ,c79 h,zH,h95];rw[L80_0a_eq];have hb:=wakesP_bound h.w (psOf s) sec (zO sec);have hlen:(wakesP w (psOf s) sec (zO sec)).length=s.tb.length:=by simp[wakesP,psOf]
 have hcl:=jO w (psOf s) sec (zO sec);rw[zn] at hcl;have hl:=h.l;have hpl:=zn s;simp only[zG,List.length_map];unfold Jl;by_cases h0:s.tb.length=0
 ·rw[if_neg (by omega),if_pos (List.eq_nil_of_length_eq_zero (by omega))]
 ·have h0':0<(wakesP w (psOf s) sec (zO sec)).length:=by omega
  have hx:=hb _ (List.getElem_mem h0');have c:=c201 (wakesP w (psOf s) sec (zO sec))[0] (by omega) hx.2 w.rule hk
  have k:=l80b h hk 1 h0';rw[tk1 _ h0'] at k;rw[if_pos (by omega),if_pos (by omega),if_neg (λhh=>by rw[hh] at hcl;simp at hcl;omega)]
  rw[zI _ _ 0 h0'];simp only[h25,zB,zQ,c,zH,h3,zF];simpa using k
def slowR(l:List Int)(v:Int)(k:Nat):List Int:=(zr l v).take k++l.drop k
theorem slowR_set(l:List Int)(v:Int)(k:Nat)(h:k<l.length):(slowR l v k).set k (v * (256 - l[k]))=slowR l v (k+1):=by
 unfold slowR;have hs:(zr l v).length=l.length:=by simp[zr]
 have e:(zr l v)[k]'(by omega)=v * (256 - l[k]):=by simp[zr]
 rw[List.set_append_right _ _ (by simp;omega),List.drop_eq_getElem_cons h]
 have e2:k - (List.take k (zr l v)).length=0:=by simp;omega
 rw[e2,List.set_cons_zero,List.take_succ_eq_append_getElem (by omega),List.append_assoc,e]
 rfl
theorem slowR_get(l:List Int)(v:Int)(k:Nat)(h:k<l.length)(h':k<(slowR l v k).length):(slowR l v k)[k]=l[k]:=by
 have hs:(zr l v).length=l.length:=by simp[zr]
 have e:(slowR l v k)[k]? = some l[k]:=by
  unfold slowR;rw[List.getElem?_append_right (by simp;omega)]
  simp[hs,Nat.min_eq_left (Nat.le_of_lt h),h]
 rw[List.getElem?_eq_getElem h'] at e;exact Option.some.inj e
theorem slowR_len(l:List Int)(v:Int)(k:Nat)(h:k<=l.length):(slowR l v k).length=l.length:=by simp[slowR,zr];omega
theorem l81b(l:List Int)(v:Int)(hl:l.length<=64)(hv:0<=v/\v<=51)(hd:∀d∈l,0<=d/\d<=256):∀k,k<=l.length ->
  L81_0b v (l.map eI) k ((slowR l v k).map eI)=some (.val (.sl 1 ((zr l v).map eI))):=by
 apply down
 ·rw[L81_0b_eq];have:slowR l v l.length=zr l v:=by unfold slowR;rw[List.drop_length,List.append_nil,List.take_of_length_le (by simp[zr])]
  rw[this];have hs:(zr l v).length=l.length:=by simp[zr]
  simp only[zG,List.length_map,Int.lt_irrefl,if_false,Nat.zero_add,hs,Nat.le_refl,if_true,List.drop_zero];rw[List.take_of_length_le (by simp[hs])]
 ·intro k hk ih;have e1:(k:Int)<l.length:=by omega
  have hsl:=slowR_len l v k (by omega)
  have hk':k<(slowR l v k).length:=by omega
  have hx:=hd l[k] (List.getElem_mem hk);have h1:=Int.mul_nonneg hv.1 (show 0<=256 - l[k] by omega)
  have h2:v * (256 - l[k])<=51 * 256:=Int.mul_le_mul hv.2 (by omega) (by omega) (by omega)
  rw[L81_0b_eq,<-ih];simp only[zG,List.length_map,Nat.zero_add,Int.toNat_natCast];rw[if_pos e1,if_pos (by omega),if_pos hk',zI _ _ k hk',slowR_get l v k hk hk']
  simp only[h3,zB,zF];rw[if_pos (by omega),if_pos hk',wr (256 - l[k]) (by omega),wr (v * (256 - l[k])) (by omega),wr ((k:Int)+1) (by omega),<-slowR_set l v k hk,List.map_set]
  rfl
theorem c81{s:Si}{w:Wk}{sec:Int}(h:SiteOK s w sec)(hk:jD w.rule=true)(v:Int)(hv:0<=v/\v<=51) :
  zA 81 [eSi s,eWk w,eI sec,eI v]=some (.val (.sl 1 ((zr (jS w (psOf s) sec (zO sec)) v).map eI))):=by
 rw[C81];simp only[zK,zM,h24,h27,h3,Bool.and_self,zB,zR,zS,zW,zb,ze,zX,zF,zQ,c80 h hk];have hcl:=jO w (psOf s) sec (zO sec);rw[zn] at hcl;have hcb:=jZ h.w (psOf s) sec (zO sec);have hl:=h.l;unfold Jl;generalize jS w (psOf s) sec (zO sec)=l at hcl hcb ⊢;by_cases h0:l=[]
 ·subst h0;rw[if_pos rfl];simp[L81_0a_eq,zr,isNl]
 ·rw[if_neg h0];have:=l81b l v (by omega) hv hcb 0 (Nat.zero_le _)
  have e:slowR l v 0=l:=by simp[slowR]
  rw[e] at this;simp only[JA,beq_self_eq_true,zB];exact this
theorem c111(c:Cu)(hc:okCu c)(v:Int)(h0:0<=v)(h1:v<=13056):zA 111 [eCu c,eI v]=some (.val (eI (valP c v))):=by
 obtain⟨hl,hl',hp,_,_⟩:=hc;have e3:Int.tdiv v 256=v / 256:=Int.tdiv_eq_ediv_of_nonneg h0;have g:=λi=>YS (b:=100000) (by decide) hp i
 rw[C111];simp only[zK,zM,h29,h3,Bool.and_self,zB,zR,zS,zW,zQ,zF,List.length_map,e3,zG];rw[wr (v / 256) (by omega),wr ((c.p.length:Int) - 1) (by omega),wr (v / 256+1) (by omega),wr (256 * (v / 256)) (by omega),wr (v - 256 * (v / 256)) (by omega)]
 have em:v - 256 * (v / 256)=v % 256:=by omega
 rw[em];unfold valP lastP;by_cases hk:v / 256>=(c.p.length:Int) - 1
 ·have hi:((c.p.length:Int) - 1).toNat<c.p.length:=by omega
  have hn:=zI eI c.p ((c.p.length:Int) - 1).toNat hi;have hg:=g (c.p.length - 1);have hgd:c.p.getD (c.p.length - 1) 0=c.p[((c.p.length:Int) - 1).toNat]:=by
   rw[List.getD_eq_getElem?_getD,List.getElem?_eq_getElem (by omega)]
   exact Qp (by omega) _ _
  rw[hgd] at hg ⊢;rw[if_pos hk,if_pos hk,if_pos (by omega),hn]
  simp only[h3,zB,zF];rw[wr _ (by omega)]
 ·obtain⟨k,hk'⟩:∃k:Nat,v / 256=k:=⟨(v / 256).toNat,by omega⟩
  have hf0:=Int.emod_nonneg v (show(256:Int)≠0 by decide)
  have hf1:=Int.emod_lt_of_pos v (show(0:Int)<256 by decide)
  rw[hk'] at hk ⊢;have hi:k<c.p.length:=by omega
  have hi1:k+1<c.p.length:=by omega
  have hn:=zI eI c.p k hi;have hn1:=zI eI c.p (k+1) hi1;have hg:=g k;have hg1:=g (k+1);have hgd:c.p.getD k 0=c.p[k]:=by rw[List.getD_eq_getElem?_getD,List.getElem?_eq_getElem hi];rfl
  have hgd1:c.p.getD (k+1) 0=c.p[k+1]:=by rw[List.getD_eq_getElem?_getD,List.getElem?_eq_getElem hi1];rfl
  rw[hgd] at hg;rw[hgd1] at hg1;have hb:=qs (f:=v % 256) hg hg1 ⟨hf0,by omega⟩
  have hb1:-25600000<=(c.p[k+1] - c.p[k]) * (v % 256)/\(c.p[k+1] - c.p[k]) * (v % 256)<=25600000:=by omega
  have et:((k:Int)+1).toNat=k+1:=by omega
  rw[if_neg hk,if_neg hk];have c1:(0:Int)<=(k:Int)/\(k:Int)<(c.p.length:Int):=by omega
  have c2:(0:Int)<=(k:Int)+1/\(k:Int)+1<(c.p.length:Int):=by omega
  simp only[c1,c2,and_self,if_true,Int.toNat_natCast,et,hn,hn1,h3,zB,zF,hgd,hgd1];rw[wr (256 * c.p[k]) (by omega),wr (c.p[k+1] - c.p[k]) (by omega),wr ((c.p[k+1] - c.p[k]) * (v % 256)) (by omega),wr _ (by omega)]
def turnL(a b:List Int)(k:Nat):List Int:=b.take k++a.drop k
theorem turnL_set(a b:List Int)(h:a.length=b.length)(k:Nat)(hk:k<b.length):(turnL a b k).set k b[k]=turnL a b (k+1):=by
 unfold turnL;rw[List.set_append_right _ _ (by simp;omega),List.drop_eq_getElem_cons (by omega:k<a.length)]
 have e2:k - (List.take k b).length=0:=by simp;omega
 rw[e2,List.set_cons_zero,List.take_succ_eq_append_getElem hk,List.append_assoc];rfl
theorem turnL_len(a b:List Int)(h:a.length=b.length)(k:Nat)(hk:k<=b.length):(turnL a b k).length=b.length:=by simp[turnL];omega
theorem okFm.site{f:Fm}(h:okFm f)(sec:Int)(hs:0<=sec/\sec<=7):SiteOK f.s f.w sec:=by refine⟨h.w,by have:=h.l;rwa [zn] at this,λt ht=>h.p _ (List.mem_map.2 ⟨t,ht,rfl⟩),hs⟩
def powA(f:Fm)(sec v above:Int):List Int:=if v>=f.c.cut then List.replicate f.s.tb.length 0 else powP f.w f.c (psOf f.s) sec v above
theorem l156(f:Fm)(h:okFm f)(l:List Int)(hl:l.length=f.s.tb.length)(hb:∀x∈l,0<=x/\x<=13056)(z:List Int)(hz:z.length=l.length):∀k,k<=l.length ->
  L156_0a (z.map eI) (l.map eI) k f.s.name f.s.least (f.s.tb.map eTb) f.w.rule (f.w.d.map eI) (f.w.w.map eI) (f.c.p.map eI) f.c.cut (f.r.map eRow) ((turnL z (l.map (valP f.c)) k).map eI)=some (.val (.sl 1 ((l.map (valP f.c)).map eI))):=by
 have h64:=h.l;rw[zn] at h64;apply down
 ·rw[L156_0a_eq];have:turnL z (l.map (valP f.c)) l.length=l.map (valP f.c):=by unfold turnL;rw[List.drop_eq_nil_of_le (by omega),List.append_nil,List.take_of_length_le (by simp)]
  rw[this];simp only[zG,List.length_map,Int.lt_irrefl,if_false,Nat.zero_add,hz,Nat.le_refl,if_true,List.drop_zero];rw[List.take_of_length_le (by simp)]
 ·intro k hk ih;have e1:(k:Int)<l.length:=by omega
  have hx:=hb l[k] (List.getElem_mem hk);have c:=c111 f.c h.c l[k] hx.1 hx.2;have htl:=turnL_len z (l.map (valP f.c)) (by simp[hz]) k (by simp;omega)
  have hset:=turnL_set z (l.map (valP f.c)) (by simp[hz]) k (by simpa using hk)
  rw[List.length_map] at htl;rw[L156_0a_eq,<-ih];simp only[zG,List.length_map,Nat.zero_add,Int.toNat_natCast,hz,htl];rw[if_pos e1,if_pos (by omega),zI _ l k hk]
  simp only[h3,zB,zF,c,zH];rw[if_pos (by omega),if_pos hk,wr ((k:Int)+1) (by omega),<-hset,List.map_set,List.getElem_map]
  rfl
theorem c156(f:Fm)(h:okFm f)(sec v above:Int)(hs:0<=sec/\sec<=7)(hv:0<=v/\v<=50)(ha:0<=above/\above<=1) :
  zA 156 [eFm f,eI sec,eI v,eI above]=some (.val (.sl 1 ((powA f sec v above).map eI))):=by
 have h64:=h.l;rw[zn] at h64;rw[C156];simp only[zK,zM,hFm' f h.r,h3,Bool.and_self,zB,zR,zS,zW,zb,ze,zX,zF,zQ,zG,List.length_map,Int.toNat_natCast];have g1:(0:Int)<=(f.s.tb.length:Int):=by omega
 have g2:8 * (f.s.tb.length:Int)<=281474976710656:=by omega
 have g3:(f.s.tb.length:Int)<=9223372036854775807:=by omega
 simp only[g1,g2,g3,and_self,if_true];unfold powA;by_cases hc:v>=f.c.cut
 ·rw[if_pos hc];refine(congrArg (λb=>ifO b _ _) (decide_eq_true hc)).trans ?_
  simp
 ·rw[if_neg hc];refine(congrArg (λb=>ifO b _ _) (decide_eq_false hc)).trans ?_
  rw[za,wr (v+above) (by omega),c81 (h.site sec hs) h.k (v+above) (by omega)]
  simp only[zH,h25,zB,zQ];have hcb:=jZ h.w (psOf f.s) sec (zO sec);have hsb:=YZ hcb (v:=v+above) (b:=51) (by omega) (by omega)
  have hsl:(zr (jS f.w (psOf f.s) sec (zO sec)) (v+above)).length=f.s.tb.length:=by simp[zr,jO,zn]
  have:=l156 f h _ hsl (λx hx=>by have:=hsb x hx;omega) (List.replicate f.s.tb.length 0) (by simp[hsl]) 0 (Nat.zero_le _)
  have e:turnL (List.replicate f.s.tb.length 0) ((zr (jS f.w (psOf f.s) sec (zO sec)) (v+above)).map (valP f.c)) 0=List.replicate f.s.tb.length 0:=by simp[turnL]
  rw[e,List.map_replicate] at this;exact this
theorem sum_zero(n:Nat):sumI (List.replicate n 0)=0:=by
 induction n with
 | zero=>rfl
 | succ n ih=>rw[List.replicate_succ,sumI,ih];rfl
theorem l157_1(f:Fm)(h:okFm f)(above:Int)(ha:0<=above/\above<=1)(sec:Nat)(hsec:sec<f.r.length)(hrow:f.r[sec].length=51)(hq:∀q∈f.r[sec],0<=q/\q<=40000) :
  ∀k,k<=f.r[sec].length->∀n:Int,0<=n->n<=(sec * 51+k) * 65536000000000 ->
   L157_1a above n sec k f.s.name f.s.least (f.s.tb.map eTb) f.w.rule (f.w.d.map eI) (f.w.w.map eI) (f.c.p.map eI) f.c.cut (f.r.map eRow) =
   L157_0a above (n+rowE f.w f.c (psOf f.s) above sec k (f.r[sec].drop k)) (IntKind.i64.wrap ((sec:Int)+1)) f.s.name f.s.least (f.s.tb.map eTb) f.w.rule (f.w.d.map eI) (f.w.w.map eI) (f.c.p.map eI) f.c.cut (f.r.map eRow):=by
 have h8:=h.r.1;have h64:=h.l;have hpl:=zn f.s;apply down (P:=λk=>∀n:Int,0<=n->n<=(sec * 51+k) * 65536000000000 ->
   L157_1a above n sec k f.s.name f.s.least (f.s.tb.map eTb) f.w.rule (f.w.d.map eI) (f.w.w.map eI) (f.c.p.map eI) f.c.cut (f.r.map eRow) =
   L157_0a above (n+rowE f.w f.c (psOf f.s) above sec k (f.r[sec].drop k)) (IntKind.i64.wrap ((sec:Int)+1)) f.s.name f.s.least (f.s.tb.map eTb) f.w.rule (f.w.d.map eI) (f.w.w.map eI) (f.c.p.map eI) f.c.cut (f.r.map eRow))
 ·intro n _ _;rw[L157_1a_eq];simp only[zG];rw[if_neg (by omega)]
  simp[rowE]
 ·intro k hk ih n h0 h1;have e0:(k:Int)<=50:=by omega
  have e1:(0:Int)<=(sec:Int)/\(sec:Int)<8:=by omega
  have e2:(0:Int)<=(k:Int)/\(k:Int)<51:=by omega
  have hqk:=hq f.r[sec][k] (List.getElem_mem hk);have c156':=c156 f h sec k above (by omega) (by omega) ha
  have hpb:=Y4 h.c.2.2.1 f.w (psOf f.s) sec k above;have hsum:=zAT h.c.2.2.1 f.w h.l sec k above;have hce:=Yd h.c.2.2.1 f.w h.l above sec k hqk;have hpA:sumI (powA f sec k above)=if (k:Int)<f.c.cut then sumI (powP f.w f.c (psOf f.s) sec k above) else 0:=by
   unfold powA;by_cases hc:(k:Int)>=f.c.cut
   ·rw[if_pos hc,if_neg (by omega),sum_zero]
   ·rw[if_neg hc,if_pos (by omega)]
  have c238':=c238 (powA f sec k above) (by unfold powA;split <;> simp[QI] <;> omega) (λx hx=>by
   unfold powA at hx;split at hx
   ·rw[List.eq_of_mem_replicate hx];omega
   ·have:=hpb x hx;omega)
  have ih':=ih (n+YA f.w f.c (psOf f.s) above sec k f.r[sec][k]) (by omega) (by simp only[Int.natCast_add,Int.natCast_one];omega)
  have e3:((k:Int)+1)=((k+1:Nat):Int):=by omega
  rw[L157_1a_eq,zT f.r[sec] k hk,rowE];simp only[zG];rw[if_pos e0];simp only[if_pos e1,if_pos e2];simp only[Int.toNat_natCast,jQ _ _ _ _ hsec,zB,zI _ f.r sec hsec,jQ _ _ _ _ hk,zR,zI _ f.r[sec] k hk,h3,zF,c156',zH,h25,zQ,c238'];rw[wr ((k:Int)+1) (by omega),hpA]
  by_cases c1:f.r[sec][k]>0
  ·by_cases c2:(k:Int)<f.c.cut
   ·have hv:YA f.w f.c (psOf f.s) above sec k f.r[sec][k]=f.r[sec][k] * sumI (powP f.w f.c (psOf f.s) sec k above):=if_pos ⟨c1,c2⟩;rw[hv] at hce ih' ⊢;rw[if_pos c1,if_pos c2,wr (f.r[sec][k] * _) (by omega),wr (n+_) (by omega),e3,ih',Int.add_assoc]
   ·have hv:YA f.w f.c (psOf f.s) above sec k f.r[sec][k]=0:=if_neg (λhh=>c2 hh.2)
    rw[hv] at hce ih' ⊢;rw[Int.add_zero] at ih';rw[if_pos c1,if_neg c2,Int.mul_zero,wr 0 (by omega),Int.add_zero,wr n (by omega),e3,ih',Int.zero_add]
  ·have hv:YA f.w f.c (psOf f.s) above sec k f.r[sec][k]=0:=if_neg (λhh=>c1 hh.1)
   rw[hv] at hce ih' ⊢;rw[Int.add_zero] at ih';rw[if_neg c1,e3,ih',Int.zero_add]
theorem l157_0(f:Fm)(h:okFm f)(above:Int)(ha:0<=above/\above<=1):∀s,s<=f.r.length->∀n:Int,0<=n->n<=(s * 51:Int) * 65536000000000 ->
  L157_0a above n s f.s.name f.s.least (f.s.tb.map eTb) f.w.rule (f.w.d.map eI) (f.w.w.map eI) (f.c.p.map eI) f.c.cut (f.r.map eRow)=some (.val (eI (n+enE f.w f.c (psOf f.s) above s (f.r.drop s)))):=by
 apply down (P:=λs=>∀n:Int,0<=n->n<=(s * 51:Int) * 65536000000000 ->
  L157_0a above n s f.s.name f.s.least (f.s.tb.map eTb) f.w.rule (f.w.d.map eI) (f.w.w.map eI) (f.c.p.map eI) f.c.cut (f.r.map eRow)=some (.val (eI (n+enE f.w f.c (psOf f.s) above s (f.r.drop s)))))
 ·intro n _ _;have:=h.r.1;rw[L157_0a_eq];simp only[zG];rw[if_neg (by omega)]
  simp[enE]
 ·intro s hs ih n h0 h1;have hl:=h.r.1;have hrow:=h.r.2 f.r[s] (List.getElem_mem hs);have hq:=h.q f.r[s] (List.getElem_mem hs);have hre:=YN h.c.2.2.1 f.w h.l above s f.r[s] 0 hq;rw[hrow] at hre;have ih':=ih (n+rowE f.w f.c (psOf f.s) above s 0 f.r[s]) (by omega) (by simp only[Int.natCast_add,Int.natCast_one];omega)
  have e2:((s:Int)+1)=((s+1:Nat):Int):=by omega
  have k1:=l157_1 f h above ha s hs hrow hq 0 (Nat.zero_le _) n h0 (by omega)
  rw[show((0:Nat):Int)=0 from rfl,List.drop_zero] at k1
  rw[L157_0a_eq,zT f.r s hs,enE];simp only[zG];rw[if_pos (by omega),k1,wr ((s:Int)+1) (by omega),e2,ih',Int.add_assoc]
theorem c157(f:Fm)(h:okFm f)(above:Int)(ha:0<=above/\above<=1):zA 157 [eFm f,eI above]=some (.val (eI (jN f.w f.c f.r (psOf f.s) above))):=by
 rw[C157];simp only[zK,zM,hFm' f h.r,h3,Bool.and_self,zB,zR,zS,zW,zb,ze,zX,zF,zQ];have:=l157_0 f h above ha 0 (Nat.zero_le _) 0 (by omega) (by omega)
 rw[Int.zero_add,List.drop_zero] at this;exact this
theorem c39(f:Fm)(h:okFm f):zA 39 [eFm f]=some (.val (eI (jN f.w f.c f.r (psOf f.s) 0))):=by rw[C39];simp only[zK,zM,hFm' f h.r,h3,Bool.and_self,zB,zR,zS,zW,zb,ze,zX,zF,zQ,c157 f h 0 (by omega),zH]
end Go.Am
namespace Go.Am
open Go.Proofs
open Go
variable[OO]
def blowRow(n:Int):List Int->Int
 | []=>n
 | q :: r=>blowRow (if q>0 then n+1 else n) r
def blowR(n:Int):List (List Int)->Int
 | []=>n
 | row :: r=>blowR (blowRow n row) r
theorem blowRow_bnd:∀(l:List Int) (n:Int),n<=blowRow n l/\blowRow n l<=n+l.length
 | [],n=>by simp[blowRow]
 | q :: l,n=>by
  have:=blowRow_bnd l (if q>0 then n+1 else n)
  simp only[blowRow,List.length_cons];by_cases h:q>0
  ·simp only[h,if_true] at this ⊢;omega
  ·simp only[h,if_false] at this ⊢;omega
theorem l128_1(r:List (List Int))(s:Nat)(hs:s<r.length)(h8:r.length=8)(hrow:r[s].length=51):∀k,k<=r[s].length->∀n:Int,0<=n->n<=s * 51+k->L128_1a n s k (r.map eRow)=L128_0a (blowRow n (r[s].drop k)) (IntKind.i64.wrap ((s:Int)+1)) (r.map eRow):=by
 refine down (P:=λk=>∀n:Int,0<=n->n<=s * 51+k->L128_1a n s k (r.map eRow)=L128_0a (blowRow n (r[s].drop k)) (IntKind.i64.wrap ((s:Int)+1)) (r.map eRow)) r[s].length ?_ ?_
 ·intro n h0 hn;rw[L128_1a_eq];simp only[zG];rw[if_neg (by omega)]
  simp[blowRow]
 ·intro k hk ih n h0 hn;have e1:(k:Int)<=50:=by omega
  have e2:(0:Int)<=(s:Int)/\(s:Int)<8:=by omega
  have e3:(0:Int)<=(k:Int)/\(k:Int)<51:=by omega
  rw[L128_1a_eq,zT r[s] k hk];simp only[zG];rw[if_pos e1,if_pos e2,if_pos e3];simp only[Int.toNat_natCast,jQ _ _ _ _ hs,zB,zI _ r s hs,jQ _ _ _ _ hk,zR,zI _ r[s] k hk,h3,zF];rw[wr ((k:Int)+1) (by omega),wr (n+1) (by omega),show((k:Int)+1)=((k+1:Nat):Int) by omega]
  by_cases hq:r[s][k]>0
  ·rw[if_pos hq,ih (n+1) (by omega) (by omega)]
   simp only[blowRow,if_pos hq]
  ·rw[if_neg hq,ih n h0 (by omega)]
   simp only[blowRow,if_neg hq]
theorem l128_0(r:List (List Int))(h:zm r):∀s,s<=r.length->∀n:Int,0<=n->n<=s * 51->L128_0a n s (r.map eRow)=some (.val (eI (blowR n (r.drop s)))):=by
 have hl:=h.1;refine down (P:=λs=>∀n:Int,0<=n->n<=s * 51->L128_0a n s (r.map eRow)=some (.val (eI (blowR n (r.drop s))))) r.length ?_ ?_
 ·intro n h0 hn;rw[L128_0a_eq];simp only[zG];rw[if_neg (by omega)]
  simp[blowR]
 ·intro s hs ih n h0 hn;have hrow:=h.2 r[s] (List.getElem_mem hs);have e1:(s:Int)<8:=by omega
  have hb:=blowRow_bnd r[s] n;rw[L128_0a_eq,zT r s hs];simp only[zG];rw[if_pos e1];have:=l128_1 r s hs hl hrow 0 (Nat.zero_le _) n h0 (by omega)
  rw[show((0:Nat):Int)=0 from rfl] at this
  rw[this,wr ((s:Int)+1) (by omega),show((s:Int)+1)=((s+1:Nat):Int) by omega,List.drop_zero,ih _ (by omega) (by omega)]
  rfl
theorem c128(r:List (List Int))(h:zm r):zA 128 [eRo r]=some (.val (eI (blowR 0 r))):=by
 rw[C128];simp only[zK,zM,h32,List.length_map,h.1,decide_true,Bool.and_self,zB,zR];have:=l128_0 r h 0 (Nat.zero_le _) 0 (by omega) (by omega)
 simpa using this
theorem c105(c:Cu):zA 105 [eCu c]=some (.val (.bool (decide ((c.p.length:Int)<=52)))):=by rw[C105];simp
def shortF(f:Fm)(n:Int):Bool:=if shortS f.s n then (if shortW f.w then (if (f.c.p.length:Int)<=52 then decide (blowR 0 f.r<=6) else false) else false) else false
theorem c21(f:Fm)(h:zm f.r)(n:Int)(hn:n<=100):zA 21 [eFm f,eI n]=some (.val (.bool (shortF f n))):=by
 rw[C21];simp only[zK,zM,hFm' f h,h3,Bool.and_self,zB,zR,zS,zW,zb,ze,zX,zF,zQ,c62 f.s n hn];unfold shortF;cases hS:shortS f.s n with
 | false=>simp
 | true =>
  simp only[zH,h4,zB,zi,c63 f.w];cases hW:shortW f.w with
  | false=>simp
  | true =>
   simp only[zH,h4,zB,zi,c105 f.c];by_cases hc:(f.c.p.length:Int)<=52
   ·simp[hc,c128 f.r h];exact decide_eq_decide.2 Iff.rfl
   ·simp[hc]
theorem shortF_len{f:Fm}{n:Int}(h:shortF f n=true):((f.s.tb.length:Int)<=n\/f.s.tb.length=65)/\f.w.d.length<=33/\f.w.w.length<=33/\f.c.p.length<=52:=by
 unfold shortF at h;split at h
 ·rename_i h1;split at h
  ·rename_i h2;split at h
   ·rename_i h3;simp only[shortW,Bool.and_eq_true] at h2;exact⟨shortS_len h1,short33_le h2.1.2,short33_le h2.2,by omega⟩
   ·cases h
  ·cases h
 ·cases h
theorem c34(f:Fm)(h:zm f.r)(h1:f.s.tb.length<=100000)(h2:f.w.d.length<=100000)(h3':f.w.w.length<=100000)(h4':f.c.p.length<=100000):zA 34 [eFm f]=some (.val (eFm f)):=by rw[C34];simp only[zK,zM,hFm' f h,Bool.and_self,zB,zR,zS,zW,zb,ze,zX,zF,zQ,c65 f.s h1,c67 f.w (by omega) (by omega),c107 f.c (by omega),zH,h58,h59,h60]
theorem farm_ok{f:Fm}(h:jM f=0)(hr:zm f.r):okFm f:=(JG h hr).1
theorem numB_self(n e want:Int)(h:e=0->n=want)(h':e≠0->n=0):numB n e e want=true:=by
 unfold numB;rw[if_pos rfl];by_cases h0:e=0
 ·rw[if_pos h0];exact decide_eq_true (h h0)
 ·rw[if_neg h0];exact decide_eq_true (h' h0)
end Go.Am
