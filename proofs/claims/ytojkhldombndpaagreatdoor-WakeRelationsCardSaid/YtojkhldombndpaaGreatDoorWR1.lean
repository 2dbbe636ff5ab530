/- WakeRelations: for every input the law returns true, and each argument reads afterwards as it read before. Part 1. -/
import Derived.Below
import Derived.Carry
import Derived.ChangeArms
import Derived.ChangeSame
import Derived.DataReads
import Derived.Deep.OwnRows
import Derived.Deep.RegionLaw
import Derived.Deep.RegionWith
import Derived.DeepKeys
import Derived.Ground.Names2Prog
import Derived.Ground.NamesProg
import Derived.Ground.SlgnProg
import Derived.Ground.SlsfProg
import Derived.IntWalk
import Derived.KernelRfl
import Derived.LaidMore
import Derived.Laws.AppendOwn
import Derived.Laws.CopyRow
import Derived.Laws.OwnMore
import Derived.Laws.RangeAny
import Derived.Lib.AppendIntMem
import Derived.Lib.ItoaLen
import Derived.Lib.ItoaNum
import Derived.Lib.Join
import Derived.LoopIn
import Derived.LoopN
import Derived.LoopNIn
import Derived.LoopTactic
import Derived.MapKept
import Derived.Maps.Ext
import Derived.Maps.OwnSet
import Derived.Maps.RangeWalk
import Derived.OpenShut
import Derived.Orders
import Derived.OrdersIn
import Derived.OwnWalkIn
import Derived.ProofKit
import Derived.RangeFuncBound
import Derived.RangeFuncCalls
import Derived.RangeFuncLeaves
import Derived.RangeFuncNested
import Derived.Scope
import Derived.SevenTiedAt
import Derived.Shelf.Abstract
import Derived.Shelf.LaysM
import Derived.Shelf.SlSortCmp.NoneTotal
import Derived.Shelf.Slices.Clone
import Derived.Shelf.Slices.In.SortNone
import Derived.Shelf.Slices.SearchI
import Derived.Shelf.SlicesE.Clone
import Derived.Shelf.Small.Bits
import Derived.Shelf.Sort.Plain
import Derived.Shelf.Strconv.Itoa0
import Derived.Shelf.Strconv.Itoa1
import Derived.Shelf.Strconv.Itoa2
import Derived.Shelf.Strconv.Itoa3
import Derived.Shelf.Strings.Builder1
import Derived.Shelf.Strings.Builder2
import Derived.Shelf.Strings.Count
import Derived.Shelf.Strings.Cut
import Derived.Shelf.Strings.Explode
import Derived.Shelf.Strings.OnBuilder
import Derived.Shelf.Strings.RuneCount
import Derived.Shelf.Strings.Search1
import Derived.Shelf.Strings.Search2
import Derived.Shelf.Strings.Search3
import Derived.Shelf.Strings.Shaped
import Derived.Shelf.Strings.Split
import Derived.Shelf.Strings.SplitShaped
import Derived.Shelf.Unicode.Decode
import Derived.Shelf.Unicode.DecodeAny
import Derived.Shelf.Unicode.DecodeSlow
import Derived.Shelf.Utf8.RuneCount
import Derived.Sort.LotA
import Derived.Stop.Joined
import Derived.Tactics
import Derived.Tactics2
import Derived.TacticsInMore
import Derived.Test.YtojkhldombndpaaGreatDoorCards
import Derived.Test.YtojkhldombndpaaGreatDoorProg
import Derived.Test.YtojkhldombndpaaGreatDoorRows
import Derived.Test.YtojkhldombndpaaGreatDoorTie
import Derived.WalkKit
import Derived.WideShapes
import Derived.Test.YtojkhldombndpaaGreatDoorB10
set_option linter.all false
namespace Go.Am
open Go.Proofs
open Go
@[simp] theorem h24(a1:ByteArray)(a2:Int)(a3:List DV):hasT EE 6 24 (.agg 0 [(.str a1),(.int .i64 a2),(.sl 3 a3)])=true:=by kernel_rfl
@[simp] theorem h27(a1:ByteArray)(a2:List DV)(a3:List DV):hasT EE 6 27 (.agg 0 [(.str a1),(.sl 1 a2),(.sl 1 a3)])=true:=by kernel_rfl
@[simp] theorem h72(a1:Int)(a2:Int)(a3:Int)(a4:Int):hasT EE 6 72 (.agg 5 [(.int .i64 a1),(.int .i64 a2),(.int .i64 a3),(.int .i64 a4)])=true:=by kernel_rfl
@[simp] theorem h143(a1:ByteArray)(a2:Int)(a3:Int):hasT EE 6 143 (.agg 9 [(.str a1),(.agg 1 [(.int .i64 a2),(.int .i64 a3)])])=true:=by kernel_rfl
end Go.Am
namespace Go.Am
open Go.Proofs
open Go
variable[OO]
def S9_1009a(v0 v1 v2 v3 v4:Int)(v5:List DV)(v6 v7 v8:Int)(v9:ByteArray)(v10:Int)(v11:List DV)(v12:ByteArray)(v13 v14:List DV)(v15 v16 v17 v18:Int):St :=
 stOf 173 [(3,(.ptr 3 3 0 [])),(4,(.ptr 4 3 0 [])),(5,(.ptr 5 4 0 [])),(7,(.d (eI v0))),(8,(.d (eI v1))),(9,(.d (eI v2))),(10,(.d (eI v3))),(11,(.d (eI v4))),(12,(.d (.sl 1 v5))),(13,(.d (eI v6))),(14,(.d (eI v7))),(15,(.d (eI v8)))] [(3,(.mk false (.dc 3 [(.agg 0 [(.str v9),(eI v10),(.sl 3 v11)])]))),(4,(.mk false (.dc 3 [(.agg 0 [(.str v12),(.sl 1 v13),(.sl 1 v14)])]))),(5,(.mk false (.dc 4 [(.agg 5 [(eI v15),(eI v16),(eI v17),(eI v18)])])))]
noncomputable def zAc(v0 v1 v2 v3 v4:Int)(v5:List DV)(v6 v7 v8:Int)(v9:ByteArray)(v10:Int)(v11:List DV)(v12:ByteArray)(v13 v14:List DV)(v15 v16 v17 v18:Int):Option CR:=goQ 9 1009 (S9_1009a v0 v1 v2 v3 v4 v5 v6 v7 v8 v9 v10 v11 v12 v13 v14 v15 v16 v17 v18)
def S9_1014a(v0 v1 v2 v3 v4:Int)(v5:List DV)(v6 v7 v8 v9 v10 v11:Int)(v12:ByteArray)(v13:Int)(v14:List DV)(v15:ByteArray)(v16 v17:List DV)(v18 v19 v20 v21:Int):St :=
 stOf 173 [(3,(.ptr 3 3 0 [])),(4,(.ptr 4 3 0 [])),(5,(.ptr 5 4 0 [])),(7,(.d (eI v0))),(8,(.d (eI v1))),(9,(.d (eI v2))),(10,(.d (eI v3))),(11,(.d (eI v4))),(12,(.d (.sl 1 v5))),(13,(.d (eI v6))),(14,(.d (eI v7))),(15,(.d (eI v8))),(16,(.d (eI v9))),(17,(.d (eI v10))),(18,(.d (eI v11))),(19,(.d (eI 0))),(20,(.d .nl))] [(3,(.mk false (.dc 3 [(.agg 0 [(.str v12),(eI v13),(.sl 3 v14)])]))),(4,(.mk false (.dc 3 [(.agg 0 [(.str v15),(.sl 1 v16),(.sl 1 v17)])]))),(5,(.mk false (.dc 4 [(.agg 5 [(eI v18),(eI v19),(eI v20),(eI v21)])])))]
noncomputable def L9_1014a(v0 v1 v2 v3 v4:Int)(v5:List DV)(v6 v7 v8 v9 v10 v11:Int)(v12:ByteArray)(v13:Int)(v14:List DV)(v15:ByteArray)(v16 v17:List DV)(v18 v19 v20 v21:Int):Option CR:=goQ 9 1014 (S9_1014a v0 v1 v2 v3 v4 v5 v6 v7 v8 v9 v10 v11 v12 v13 v14 v15 v16 v17 v18 v19 v20 v21)
def S9_1016a(v0 v1 v2 v3 v4:Int)(v5:List DV)(v6 v7 v8 v9 v10 v11 v12:Int)(v13:ByteArray)(v14:Int)(v15:List DV)(v16:ByteArray)(v17 v18:List DV)(v19 v20 v21 v22:Int):St :=
 stOf 173 [(3,(.ptr 3 3 0 [])),(4,(.ptr 4 3 0 [])),(5,(.ptr 5 4 0 [])),(7,(.d (eI v0))),(8,(.d (eI v1))),(9,(.d (eI v2))),(10,(.d (eI v3))),(11,(.d (eI v4))),(12,(.d (.sl 1 v5))),(13,(.d (eI v6))),(14,(.d (eI v7))),(15,(.d (eI v8))),(16,(.d (eI v9))),(17,(.d (eI v10))),(18,(.d (eI v11))),(19,(.d (eI v12))),(20,(.d .nl))] [(3,(.mk false (.dc 3 [(.agg 0 [(.str v13),(eI v14),(.sl 3 v15)])]))),(4,(.mk false (.dc 3 [(.agg 0 [(.str v16),(.sl 1 v17),(.sl 1 v18)])]))),(5,(.mk false (.dc 4 [(.agg 5 [(eI v19),(eI v20),(eI v21),(eI v22)])])))]
noncomputable def L9_1016a(v0 v1 v2 v3 v4:Int)(v5:List DV)(v6 v7 v8 v9 v10 v11 v12:Int)(v13:ByteArray)(v14:Int)(v15:List DV)(v16:ByteArray)(v17 v18:List DV)(v19 v20 v21 v22:Int):Option CR:=goQ 9 1016 (S9_1016a v0 v1 v2 v3 v4 v5 v6 v7 v8 v9 v10 v11 v12 v13 v14 v15 v16 v17 v18 v19 v20 v21 v22)
def S9_1018a(v0 v1 v2 v3 v4:Int)(v5:List DV)(v6 v7 v8 v9 v10 v11 v12:Int)(v13:List DV)(v14:ByteArray)(v15 v16:List DV):St :=
 stOf 173 [(4,(.ptr 4 3 0 [])),(7,(.d (eI v0))),(8,(.d (eI v1))),(9,(.d (eI v2))),(10,(.d (eI v3))),(11,(.d (eI v4))),(12,(.d (.sl 1 v5))),(13,(.d (eI v6))),(14,(.d (eI v7))),(15,(.d (eI v8))),(16,(.d (eI v9))),(17,(.d (eI v10))),(18,(.d (eI v11))),(19,(.d (eI v12))),(20,(.d (.sl 1 v13)))] [(4,(.mk false (.dc 3 [(.agg 0 [(.str v14),(.sl 1 v15),(.sl 1 v16)])])))]
noncomputable def L9_1018a(v0 v1 v2 v3 v4:Int)(v5:List DV)(v6 v7 v8 v9 v10 v11 v12:Int)(v13:List DV)(v14:ByteArray)(v15 v16:List DV):Option CR:=goQ 9 1018 (S9_1018a v0 v1 v2 v3 v4 v5 v6 v7 v8 v9 v10 v11 v12 v13 v14 v15 v16)
def S9_1018b(v0 v1 v2 v3 v4:Int)(v5:List DV)(v6 v7 v8 v9 v10 v11 v12:Int)(v13:ByteArray)(v14 v15:List DV):St :=
 stOf 173 [(4,(.ptr 4 3 0 [])),(7,(.d (eI v0))),(8,(.d (eI v1))),(9,(.d (eI v2))),(10,(.d (eI v3))),(11,(.d (eI v4))),(12,(.d (.sl 1 v5))),(13,(.d (eI v6))),(14,(.d (eI v7))),(15,(.d (eI v8))),(16,(.d (eI v9))),(17,(.d (eI v10))),(18,(.d (eI v11))),(19,(.d (eI v12))),(20,(.d .nl))] [(4,(.mk false (.dc 3 [(.agg 0 [(.str v13),(.sl 1 v14),(.sl 1 v15)])])))]
noncomputable def L9_1018b(v0 v1 v2 v3 v4:Int)(v5:List DV)(v6 v7 v8 v9 v10 v11 v12:Int)(v13:ByteArray)(v14 v15:List DV):Option CR:=goQ 9 1018 (S9_1018b v0 v1 v2 v3 v4 v5 v6 v7 v8 v9 v10 v11 v12 v13 v14 v15)
theorem L9_1009a_eq(v0 v1 v2 v3 v4:Int)(v5:List DV)(v6 v7 v8:Int)(v9:ByteArray)(v10:Int)(v11:List DV)(v12:ByteArray)(v13 v14:List DV)(v15 v16 v17 v18:Int):zAc v0 v1 v2 v3 v4 v5 v6 v7 v8 v9 v10 v11 v12 v13 v14 v15 v16 v17 v18 =
 zC (zA 71 [(.agg 0 [(.str v12),(.sl 1 v13),(.sl 1 v14)])])
 (λr54=>ifO (hasT EE 6 3 r54)
 (zC (zA 37 [(eI v16),(eI (-999999999)),(eI 999999999)])
 (λr55=>ifO (hasT EE 6 3 r55)
 (zC (zA 37 [(eI v17),(eI (-999999999)),(eI 999999999)])
 (λr56=>ifO (hasT EE 6 3 r56)
 (zC (zA 35 [(.sl 1 [(eI (getI r54)),(eI (getI r55)),(eI (getI r56))])])
 (λr57=>ifO (hasT EE 6 3 r57)
 (ifO (v8 == (0:Int))
 (ifO (decide (((0:Int)<=v16)/\(v16<(((List.length v11):Nat):Int))))
 (ifO (isAg 9 1 (nth v11 (Int.toNat v16)))
 (ifO (hasT EE 6 141 (nth (flds (nth v11 (Int.toNat v16))) 1))
 (ifO (decide (((0:Int)<=v17)/\(v17<(((List.length v11):Nat):Int))))
 (ifO (isAg 9 1 (nth v11 (Int.toNat v17)))
 (ifO (hasT EE 6 141 (nth (flds (nth v11 (Int.toNat v17))) 1))
 (zC (zA 72 [(.agg 1 [(eI (getI (nth (flds (nth (flds (nth v11 (Int.toNat v16))) 1)) 0))),(eI (getI (nth (flds (nth (flds (nth v11 (Int.toNat v16))) 1)) 1)))]),(.agg 1 [(eI (getI (nth (flds (nth (flds (nth v11 (Int.toNat v17))) 1)) 0))),(eI (getI (nth (flds (nth (flds (nth v11 (Int.toNat v17))) 1)) 1)))]),(eI v15)])
 (λr58=>ifO ((DV.isTup r58) && (zP (hasT EE 6) [3,3] (tups r58)))
 ((L9_1014a v0 v1 v2 v3 v4 v5 v6 v7 v8 (getI r57) (getI (nth (tups r58) 0)) (getI (nth (tups r58) 1)) v9 v10 v11 v12 v13 v14 v15 v16 v17 v18))
 (none))
 (λ_ _=>none))
 (none))
 (none))
 (none))
 (none))
 (none))
 (none))
 ((L9_1014a v0 v1 v2 v3 v4 v5 v6 v7 v8 (getI r57) (0:Int) (0:Int) v9 v10 v11 v12 v13 v14 v15 v16 v17 v18)))
 (none))
 (λ_ _=>none))
 (none))
 (λ_ _=>none))
 (none))
 (λ_ _=>none))
 (none))
 (λ_ _=>none) :=
 (zU 9 1009 _).trans (by kernel_rfl)
theorem L9_1014a_eq(v0 v1 v2 v3 v4:Int)(v5:List DV)(v6 v7 v8 v9 v10 v11:Int)(v12:ByteArray)(v13:Int)(v14:List DV)(v15:ByteArray)(v16 v17:List DV)(v18 v19 v20 v21:Int):L9_1014a v0 v1 v2 v3 v4 v5 v6 v7 v8 v9 v10 v11 v12 v13 v14 v15 v16 v17 v18 v19 v20 v21 =
 ifO (v9 == (0:Int))
 (zC (zA 73 [(.agg 0 [(.str v15),(.sl 1 v16),(.sl 1 v17)]),(eI v19),(eI v20)])
 (λr69=>ifO (hasT EE 6 3 r69)
 ((L9_1016a v0 v1 v2 v3 v4 v5 v6 v7 v8 v9 v10 v11 (getI r69) v12 v13 v14 v15 v16 v17 v18 v19 v20 v21))
 (none))
 (λ_ _=>none))
 ((L9_1016a v0 v1 v2 v3 v4 v5 v6 v7 v8 v9 v10 v11 (0:Int) v12 v13 v14 v15 v16 v17 v18 v19 v20 v21)) :=
 (zU 9 1014 _).trans (by kernel_rfl)
theorem L9_1016a_eq(v0 v1 v2 v3 v4:Int)(v5:List DV)(v6 v7 v8 v9 v10 v11 v12:Int)(v13:ByteArray)(v14:Int)(v15:List DV)(v16:ByteArray)(v17 v18:List DV)(v19 v20 v21 v22:Int):L9_1016a v0 v1 v2 v3 v4 v5 v6 v7 v8 v9 v10 v11 v12 v13 v14 v15 v16 v17 v18 v19 v20 v21 v22 =
 ifO (v7 == (0:Int))
 (zC (zA 74 [(.agg 0 [(.str v13),(eI v14),(.sl 3 v15)]),(eI v19)])
 (λr72=>ifO (hasT EE 6 25 r72)
 ((L9_1018a v0 v1 v2 v3 v4 v5 v6 v7 v8 v9 v10 v11 v12 (elems r72) v16 v17 v18))
 (none))
 (λ_ _=>none))
 ((L9_1018b v0 v1 v2 v3 v4 v5 v6 v7 v8 v9 v10 v11 v12 v16 v17 v18)) :=
 (zU 9 1016 _).trans (by kernel_rfl)
theorem L9_1018a_eq(v0 v1 v2 v3 v4:Int)(v5:List DV)(v6 v7 v8 v9 v10 v11 v12:Int)(v13:List DV)(v14:ByteArray)(v15 v16:List DV):L9_1018a v0 v1 v2 v3 v4 v5 v6 v7 v8 v9 v10 v11 v12 v13 v14 v15 v16 =
 ifO (v0 == v10)
 (ifO (v1 == v11)
 (ifO (v2 == v8)
 (zC (zA 42 [(eI v3),(eI v4),(eI v9),(eI v12)])
 (λr75=>ifO (hasT EE 6 4 r75)
 (ifO (getB r75)
 (zC (zA 41 [(.sl 1 v5),(eI v6),(eI v7),(.sl 1 v13)])
 (λr76=>ifO (hasT EE 6 4 r76)
 (ifO (getB r76)
 (zC (zA 67 [(.agg 0 [(.str v14),(.sl 1 v15),(.sl 1 v16)])])
 (λr77=>ifO (hasT EE 6 59 r77)
 (zC (zA 75 [(.agg 0 [(.str (getS (nth (flds r77) 0))),(.sl 1 (elems (nth (flds r77) 1))),(.sl 1 (elems (nth (flds r77) 2)))])])
 (λr78=>ifO (hasT EE 6 46 r78)
 (zC (zA 71 [(.agg 0 [(.str v14),(.sl 1 v15),(.sl 1 v16)])])
 (λr79=>ifO (hasT EE 6 3 r79)
 (some (.val (.bool ((getI r78) == (getI r79)))))
 (none))
 (λ_ _=>none))
 (none))
 (λ_ _=>none))
 (none))
 (λ_ _=>none))
 (some (.val (.bool false))))
 (none))
 (λ_ _=>none))
 (some (.val (.bool false))))
 (none))
 (λ_ _=>none))
 (some (.val (.bool false))))
 (some (.val (.bool false))))
 (some (.val (.bool false))) :=
 (zU 9 1018 _).trans (by kernel_rfl)
theorem L9_1018b_eq(v0 v1 v2 v3 v4:Int)(v5:List DV)(v6 v7 v8 v9 v10 v11 v12:Int)(v13:ByteArray)(v14 v15:List DV):L9_1018b v0 v1 v2 v3 v4 v5 v6 v7 v8 v9 v10 v11 v12 v13 v14 v15 =
 ifO (v0 == v10)
 (ifO (v1 == v11)
 (ifO (v2 == v8)
 (zC (zA 42 [(eI v3),(eI v4),(eI v9),(eI v12)])
 (λr90=>ifO (hasT EE 6 4 r90)
 (ifO (getB r90)
 (zC (zA 41 [(.sl 1 v5),(eI v6),(eI v7),(.sl 1 [])])
 (λr91=>ifO (hasT EE 6 4 r91)
 (ifO (getB r91)
 (zC (zA 67 [(.agg 0 [(.str v13),(.sl 1 v14),(.sl 1 v15)])])
 (λr92=>ifO (hasT EE 6 59 r92)
 (zC (zA 75 [(.agg 0 [(.str (getS (nth (flds r92) 0))),(.sl 1 (elems (nth (flds r92) 1))),(.sl 1 (elems (nth (flds r92) 2)))])])
 (λr93=>ifO (hasT EE 6 46 r93)
 (zC (zA 71 [(.agg 0 [(.str v13),(.sl 1 v14),(.sl 1 v15)])])
 (λr94=>ifO (hasT EE 6 3 r94)
 (some (.val (.bool ((getI r93) == (getI r94)))))
 (none))
 (λ_ _=>none))
 (none))
 (λ_ _=>none))
 (none))
 (λ_ _=>none))
 (some (.val (.bool false))))
 (none))
 (λ_ _=>none))
 (some (.val (.bool false))))
 (none))
 (λ_ _=>none))
 (some (.val (.bool false))))
 (some (.val (.bool false))))
 (some (.val (.bool false))) :=
 (zU 9 1018 _).trans (by kernel_rfl)
theorem C9(x0 x1 x2:DV):zA 9 [x0,x1,x2] =
 ifO (zP (hasT EE 6) [24,27,72] [x0,x1,x2])
 (zC (zA 33 [])
 (λr0=>ifO (hasT EE 6 4 r0)
 (ifO (!(getB r0))
 (zC (zA 33 [])
 (λr1=>ifO (hasT EE 6 4 r1)
 (some (.val (.bool (getB r1))))
 (none))
 (λ_ _=>none))
 (zC (zA 62 [(.agg 0 [(.str (getS (nth (flds x0) 0))),(eI (getI (nth (flds x0) 1))),(.sl 3 (elems (nth (flds x0) 2)))]),(eI 8)])
 (λr4=>ifO (hasT EE 6 4 r4)
 (ifO (!(getB r4))
 (zC (zA 33 [])
 (λr5=>ifO (hasT EE 6 4 r5)
 (some (.val (.bool (getB r5))))
 (none))
 (λ_ _=>none))
 (zC (zA 63 [(.agg 0 [(.str (getS (nth (flds x1) 0))),(.sl 1 (elems (nth (flds x1) 1))),(.sl 1 (elems (nth (flds x1) 2)))])])
 (λr8=>ifO (hasT EE 6 4 r8)
 (ifO (!(getB r8))
 (zC (zA 33 [])
 (λr9=>ifO (hasT EE 6 4 r9)
 (some (.val (.bool (getB r9))))
 (none))
 (λ_ _=>none))
 (zC (zA 65 [(.agg 0 [(.str (getS (nth (flds x0) 0))),(eI (getI (nth (flds x0) 1))),(.sl 3 (elems (nth (flds x0) 2)))])])
 (λr12=>ifO (hasT EE 6 58 r12)
 (zC (zA 64 [(.agg 0 [(.str (getS (nth (flds r12) 0))),(eI (getI (nth (flds r12) 1))),(.sl 3 (elems (nth (flds r12) 2)))]),(eI (getI (nth (flds x2) 0))),(eI (getI (nth (flds x2) 1))),(eI (getI (nth (flds x2) 2)))])
 (λr13=>ifO ((DV.isTup r13) && (zP (hasT EE 6) [3,3,46] (tups r13)))
 (zC (zA 67 [(.agg 0 [(.str (getS (nth (flds x1) 0))),(.sl 1 (elems (nth (flds x1) 1))),(.sl 1 (elems (nth (flds x1) 2)))])])
 (λr14=>ifO (hasT EE 6 59 r14)
 (zC (zA 66 [(.agg 0 [(.str (getS (nth (flds r14) 0))),(.sl 1 (elems (nth (flds r14) 1))),(.sl 1 (elems (nth (flds r14) 2)))]),(eI (getI (nth (flds x2) 1))),(eI (getI (nth (flds x2) 2)))])
 (λr15=>ifO ((DV.isTup r15) && (zP (hasT EE 6) [3,46] (tups r15)))
 (zC (zA 65 [(.agg 0 [(.str (getS (nth (flds x0) 0))),(eI (getI (nth (flds x0) 1))),(.sl 3 (elems (nth (flds x0) 2)))])])
 (λr16=>ifO (hasT EE 6 58 r16)
 (zC (zA 68 [(.agg 0 [(.str (getS (nth (flds r16) 0))),(eI (getI (nth (flds r16) 1))),(.sl 3 (elems (nth (flds r16) 2)))]),(eI (getI (nth (flds x2) 0)))])
 (λr17=>ifO ((DV.isTup r17) && (zP (hasT EE 6) [25,46] (tups r17)))
 (zC (zA 69 [(.agg 0 [(.str (getS (nth (flds x0) 0))),(eI (getI (nth (flds x0) 1))),(.sl 3 (elems (nth (flds x0) 2)))])])
 (λr18=>ifO (hasT EE 6 3 r18)
 (zC (zA 36 [(eI (getI (nth (flds x2) 0)))])
 (λr19=>ifO (hasT EE 6 3 r19)
 (zC (zA 35 [(.sl 1 [(eI (getI r18)),(eI (getI r19))])])
 (λr20=>ifO (hasT EE 6 3 r20)
 (zC (zA 70 [(.agg 0 [(.str (getS (nth (flds x0) 0))),(eI (getI (nth (flds x0) 1))),(.sl 3 (elems (nth (flds x0) 2)))]),(eI (getI (nth (flds x2) 1)))])
 (λr21=>ifO (hasT EE 6 3 r21)
 (zC (zA 70 [(.agg 0 [(.str (getS (nth (flds x0) 0))),(eI (getI (nth (flds x0) 1))),(.sl 3 (elems (nth (flds x0) 2)))]),(eI (getI (nth (flds x2) 2)))])
 (λr22=>ifO (hasT EE 6 3 r22)
 (zC (zA 35 [(.sl 1 [(eI (getI r20)),(eI (getI r21)),(eI (getI r22))])])
 (λr23=>ifO (hasT EE 6 3 r23)
 (ifO ((getI r23) == (0:Int))
 (ifO ((getI (nth (flds x2) 1)) == (getI (nth (flds x2) 2)))
 ((zAc (getI (nth (tups r13) 0)) (getI (nth (tups r13) 1)) (getI (nth (tups r13) 2)) (getI (nth (tups r15) 0)) (getI (nth (tups r15) 1)) (elems (nth (tups r17) 0)) (getI (nth (tups r17) 1)) (getI r20) (9:Int) (getS (nth (flds x0) 0)) (getI (nth (flds x0) 1)) (elems (nth (flds x0) 2)) (getS (nth (flds x1) 0)) (elems (nth (flds x1) 1)) (elems (nth (flds x1) 2)) (getI (nth (flds x2) 0)) (getI (nth (flds x2) 1)) (getI (nth (flds x2) 2)) (getI (nth (flds x2) 3))))
 ((zAc (getI (nth (tups r13) 0)) (getI (nth (tups r13) 1)) (getI (nth (tups r13) 2)) (getI (nth (tups r15) 0)) (getI (nth (tups r15) 1)) (elems (nth (tups r17) 0)) (getI (nth (tups r17) 1)) (getI r20) (getI r23) (getS (nth (flds x0) 0)) (getI (nth (flds x0) 1)) (elems (nth (flds x0) 2)) (getS (nth (flds x1) 0)) (elems (nth (flds x1) 1)) (elems (nth (flds x1) 2)) (getI (nth (flds x2) 0)) (getI (nth (flds x2) 1)) (getI (nth (flds x2) 2)) (getI (nth (flds x2) 3)))))
 ((zAc (getI (nth (tups r13) 0)) (getI (nth (tups r13) 1)) (getI (nth (tups r13) 2)) (getI (nth (tups r15) 0)) (getI (nth (tups r15) 1)) (elems (nth (tups r17) 0)) (getI (nth (tups r17) 1)) (getI r20) (getI r23) (getS (nth (flds x0) 0)) (getI (nth (flds x0) 1)) (elems (nth (flds x0) 2)) (getS (nth (flds x1) 0)) (elems (nth (flds x1) 1)) (elems (nth (flds x1) 2)) (getI (nth (flds x2) 0)) (getI (nth (flds x2) 1)) (getI (nth (flds x2) 2)) (getI (nth (flds x2) 3)))))
 (none))
 (λ_ _=>none))
 (none))
 (λ_ _=>none))
 (none))
 (λ_ _=>none))
 (none))
 (λ_ _=>none))
 (none))
 (λ_ _=>none))
 (none))
 (λ_ _=>none))
 (none))
 (λ_ _=>none))
 (none))
 (λ_ _=>none))
 (none))
 (λ_ _=>none))
 (none))
 (λ_ _=>none))
 (none))
 (λ_ _=>none))
 (none))
 (λ_ _=>none)))
 (none))
 (λ_ _=>none)))
 (none))
 (λ_ _=>none)))
 (none))
 (λ_ _=>none))
 (none) :=
 (zE (f:=9) (by kernel_rfl) (by kernel_rfl) (by kernel_rfl) [x0,x1,x2]).trans (by kernel_rfl)
end Go.Am
namespace Go.Am
open Go.Proofs
open Go
variable[OO]
theorem C66(x0 x1 x2:DV):zA 66 [x0,x1,x2] =
 ifO (zP (hasT EE 6) [59,3,3] [x0,x1,x2])
 (zC (zA 75 [(.agg 0 [(.str (getS (nth (flds x0) 0))),(.sl 1 (elems (nth (flds x0) 1))),(.sl 1 (elems (nth (flds x0) 2)))])])
 (λr0=>ifO (hasT EE 6 46 r0)
 (zC (zA 149 [(eI (getI x1)),(eI (-999999999)),(eI 999999999)])
 (λr1=>ifO (hasT EE 6 46 r1)
 (zC (zA 149 [(eI (getI x2)),(eI (-999999999)),(eI 999999999)])
 (λr2=>ifO (hasT EE 6 46 r2)
 (zC (zA 148 [(.sl 1 [(eI (getI r0)),(eI (getI r1)),(eI (getI r2))])])
 (λr3=>ifO (hasT EE 6 46 r3)
 (ifO (bne (getI r3) 0)
 (some (.val (.tup [(eI 0),(eI (getI r3))])))
 (zC (zA 186 [(.agg 0 [(.str (getS (nth (flds x0) 0))),(.sl 1 (elems (nth (flds x0) 1))),(.sl 1 (elems (nth (flds x0) 2)))]),(eI (getI x1)),(eI (getI x2))])
 (λr4=>ifO (hasT EE 6 3 r4)
 (some (.val (.tup [(eI (getI r4)),(eI 0)])))
 (none))
 (λ_ _=>none)))
 (none))
 (λ_ _=>none))
 (none))
 (λ_ _=>none))
 (none))
 (λ_ _=>none))
 (none))
 (λ_ _=>none))
 (none) :=
 (zE (f:=66) (by kernel_rfl) (by kernel_rfl) (by kernel_rfl) [x0,x1,x2]).trans (by kernel_rfl)
end Go.Am
namespace Go.Am
open Go.Proofs
open Go
variable[OO]
theorem C63(x0:DV):zA 63 [x0] =
 ifO (zP (hasT EE 6) [27] [x0])
 (ifO (decide ((((ByteArray.size (getS (nth (flds x0) 0))):Nat):Int)<=(40:Int)))
 (ifO (decide ((((List.length (elems (nth (flds x0) 1))):Nat):Int)<=(6:Int)))
 (ifO (decide ((((List.length (elems (nth (flds x0) 2))):Nat):Int)<=(6:Int)))
 (some (.val (.bool true)))
 (some (.val (.bool ((((List.length (elems (nth (flds x0) 2))):Nat):Int) == (33:Int))))))
 (ifO ((((List.length (elems (nth (flds x0) 1))):Nat):Int) == (33:Int))
 (ifO (decide ((((List.length (elems (nth (flds x0) 2))):Nat):Int)<=(6:Int)))
 (some (.val (.bool true)))
 (some (.val (.bool ((((List.length (elems (nth (flds x0) 2))):Nat):Int) == (33:Int))))))
 (some (.val (.bool false)))))
 (some (.val (.bool false))))
 (none) :=
 (zE (f:=63) (by kernel_rfl) (by kernel_rfl) (by kernel_rfl) [x0]).trans (by kernel_rfl)
end Go.Am
namespace Go.Am
open Go.Proofs
open Go
variable[OO]
theorem C56(x0:DV):zA 56 [x0] =
 ifO (zP (hasT EE 6) [25] [x0])
 (ifO (decide ((((2 * (0+(List.length (elems x0))))+200) * 8)<=281474976710656))
 (ifO (List.isEmpty (elems x0))
 (some (.val (.sl 1 [])))
 (ifO (decide ((0+(List.length ([]++(elems x0))))<=(List.length ([]++(elems x0)))))
 (some (.val (.sl 1 (List.take (List.length ([]++(elems x0))) (List.drop 0 ([]++(elems x0)))))))
 (none)))
 (none))
 (none) :=
 (zE (f:=56) (by kernel_rfl) (by kernel_rfl) (by kernel_rfl) [x0]).trans (by kernel_rfl)
theorem C67(x0:DV):zA 67 [x0] =
 ifO (zP (hasT EE 6) [27] [x0])
 (zC (zA 56 [(.sl 1 (elems (nth (flds x0) 1)))])
 (λr0=>ifO (hasT EE 6 25 r0)
 (zC (zA 56 [(.sl 1 (elems (nth (flds x0) 2)))])
 (λr1=>ifO (hasT EE 6 25 r1)
 (some (.val (.agg 0 [(.str (getS (nth (flds x0) 0))),(.sl 1 (elems r0)),(.sl 1 (elems r1))])))
 (none))
 (λ_ _=>none))
 (none))
 (λ_ _=>none))
 (none) :=
 (zE (f:=67) (by kernel_rfl) (by kernel_rfl) (by kernel_rfl) [x0]).trans (by kernel_rfl)
end Go.Am
namespace Go.Am
open Go.Proofs
open Go
variable[OO]
def S71_0a(v0:Int)(v1:ByteArray)(v2 v3:List DV):St :=
 stOf 91 [(1,(.ptr 1 3 0 [])),(3,(.d (eI v0)))] [(1,(.mk false (.dc 3 [(.agg 0 [(.str v1),(.sl 1 v2),(.sl 1 v3)])])))]
noncomputable def L71_0a(v0:Int)(v1:ByteArray)(v2 v3:List DV):Option CR:=goQ 71 0 (S71_0a v0 v1 v2 v3)
def S71_1a(v0:Int)(v1:ByteArray)(v2 v3:List DV):St :=
 stOf 91 [(1,(.ptr 1 3 0 [])),(5,(.d (eI v0)))] [(1,(.mk false (.dc 3 [(.agg 0 [(.str v1),(.sl 1 v2),(.sl 1 v3)])])))]
noncomputable def L71_1a(v0:Int)(v1:ByteArray)(v2 v3:List DV):Option CR:=goQ 71 1 (S71_1a v0 v1 v2 v3)
theorem L71_0a_eq(v0:Int)(v1:ByteArray)(v2 v3:List DV):L71_0a v0 v1 v2 v3 =
 ifO (decide (v0<(((List.length v2):Nat):Int)))
 (ifO (decide (((0:Int)<=v0)/\(v0<(((List.length v2):Nat):Int))))
 (ifO (hasT EE 6 3 (nth v2 (Int.toNat v0)))
 (zC (zA 37 [(eI (getI (nth v2 (Int.toNat v0)))),(eI 0),(eI 256)])
 (λr6=>ifO (hasT EE 6 3 r6)
 (ifO (bne (getI r6) 0)
 (some (.val (eI (getI r6))))
 (ifO (decide (v0>(0:Int)))
 (ifO (decide (((0:Int)<=v0)/\(v0<(((List.length v2):Nat):Int))))
 (ifO (hasT EE 6 3 (nth v2 (Int.toNat v0)))
 (ifO (decide (((0:Int)<=(IntKind.wrap .i64 (v0 - (1:Int))))/\((IntKind.wrap .i64 (v0 - (1:Int)))<(((List.length v2):Nat):Int))))
 (ifO (hasT EE 6 3 (nth v2 (Int.toNat (IntKind.wrap .i64 (v0 - (1:Int))))))
 (ifO (decide ((getI (nth v2 (Int.toNat v0)))>(getI (nth v2 (Int.toNat (IntKind.wrap .i64 (v0 - (1:Int))))))))
 (some (.val (eI 11)))
 ((L71_0a (IntKind.wrap .i64 (v0+(1:Int))) v1 v2 v3)))
 (none))
 (none))
 (none))
 (none))
 ((L71_0a (IntKind.wrap .i64 (v0+(1:Int))) v1 v2 v3))))
 (none))
 (λ_ _=>none))
 (none))
 (none))
 ((L71_1a (0:Int) v1 v2 v3)) :=
 (zU 71 0 _).trans (by kernel_rfl)
theorem L71_1a_eq(v0:Int)(v1:ByteArray)(v2 v3:List DV):L71_1a v0 v1 v2 v3 =
 ifO (decide (v0<(((List.length v3):Nat):Int)))
 (ifO (decide (((0:Int)<=v0)/\(v0<(((List.length v3):Nat):Int))))
 (ifO (hasT EE 6 3 (nth v3 (Int.toNat v0)))
 (zC (zA 37 [(eI (getI (nth v3 (Int.toNat v0)))),(eI 0),(eI 100)])
 (λr9=>ifO (hasT EE 6 3 r9)
 (ifO (bne (getI r9) 0)
 (some (.val (eI (getI r9))))
 (ifO (decide (v0>(0:Int)))
 (ifO (decide (((0:Int)<=v0)/\(v0<(((List.length v3):Nat):Int))))
 (ifO (hasT EE 6 3 (nth v3 (Int.toNat v0)))
 (ifO (decide (((0:Int)<=(IntKind.wrap .i64 (v0 - (1:Int))))/\((IntKind.wrap .i64 (v0 - (1:Int)))<(((List.length v3):Nat):Int))))
 (ifO (hasT EE 6 3 (nth v3 (Int.toNat (IntKind.wrap .i64 (v0 - (1:Int))))))
 (ifO (decide ((getI (nth v3 (Int.toNat v0)))<(getI (nth v3 (Int.toNat (IntKind.wrap .i64 (v0 - (1:Int))))))))
 (some (.val (eI 11)))
 ((L71_1a (IntKind.wrap .i64 (v0+(1:Int))) v1 v2 v3)))
 (none))
 (none))
 (none))
 (none))
 ((L71_1a (IntKind.wrap .i64 (v0+(1:Int))) v1 v2 v3))))
 (none))
 (λ_ _=>none))
 (none))
 (none))
 (some (.val (eI 0))) :=
 (zU 71 1 _).trans (by kernel_rfl)
theorem C71(x0:DV):zA 71 [x0] =
 ifO (zP (hasT EE 6) [27] [x0])
 (zC (zA 92 [])
 (λr0=>ifO (hasT EE 6 173 r0)
 (zC (zA 193 [(.sl 1 (elems r0)),(.str (getS (nth (flds x0) 0)))])
 (λr1=>ifO (hasT EE 6 4 r1)
 (ifO (!(getB r1))
 (some (.val (eI 13)))
 (ifO ((((List.length (elems (nth (flds x0) 1))):Nat):Int) == (0:Int))
 (some (.val (eI 12)))
 (ifO (decide ((((List.length (elems (nth (flds x0) 1))):Nat):Int)>(32:Int)))
 (some (.val (eI 5)))
 (ifO (bne (((List.length (elems (nth (flds x0) 2))):Nat):Int) (((List.length (elems (nth (flds x0) 1))):Nat):Int))
 (some (.val (eI 2)))
 ((L71_0a (0:Int) (getS (nth (flds x0) 0)) (elems (nth (flds x0) 1)) (elems (nth (flds x0) 2))))))))
 (none))
 (λ_ _=>none))
 (none))
 (λ_ _=>none))
 (none) :=
 (zE (f:=71) (by kernel_rfl) (by kernel_rfl) (by kernel_rfl) [x0]).trans (by kernel_rfl)
theorem C72(x0 x1 x2:DV):zA 72 [x0,x1,x2] =
 ifO (zP (hasT EE 6) [141,141,3] [x0,x1,x2])
 (zC (zA 194 [(eI (getI x2))])
 (λr0=>ifO (hasT EE 6 141 r0)
 (zC (zA 195 [(.agg 1 [(eI (IntKind.wrap .i64 ((getI (nth (flds x1) 0)) - (getI (nth (flds x0) 0))))),(eI (IntKind.wrap .i64 ((getI (nth (flds x1) 1)) - (getI (nth (flds x0) 1)))))]),(eI (getI x2))])
 (λr1=>ifO (hasT EE 6 3 r1)
 (ifO ((Int.tmod (getI x2) (2:Int)) == (1:Int))
 (zC (zA 196 [(eI (getI r1))])
 (λr2=>ifO (hasT EE 6 3 r2)
 (zC (zA 197 [(eI (IntKind.wrap .i64 ((IntKind.wrap .i64 ((IntKind.wrap .i64 ((getI (nth (flds x1) 0)) - (getI (nth (flds x0) 0)))) * (getI (nth (flds r0) 1)))) - (IntKind.wrap .i64 ((IntKind.wrap .i64 ((getI (nth (flds x1) 1)) - (getI (nth (flds x0) 1)))) * (getI (nth (flds r0) 0)))))))])
 (λr3=>ifO (hasT EE 6 3 r3)
 (some (.val (.tup [(eI (getI r2)),(eI (getI r3))])))
 (none))
 (λ_ _=>none))
 (none))
 (λ_ _=>none))
 (zC (zA 197 [(eI (IntKind.wrap .i64 ((IntKind.wrap .i64 ((IntKind.wrap .i64 ((getI (nth (flds x1) 0)) - (getI (nth (flds x0) 0)))) * (getI (nth (flds r0) 1)))) - (IntKind.wrap .i64 ((IntKind.wrap .i64 ((getI (nth (flds x1) 1)) - (getI (nth (flds x0) 1)))) * (getI (nth (flds r0) 0)))))))])
 (λr8=>ifO (hasT EE 6 3 r8)
 (some (.val (.tup [(eI (getI r1)),(eI (getI r8))])))
 (none))
 (λ_ _=>none)))
 (none))
 (λ_ _=>none))
 (none))
 (λ_ _=>none))
 (none) :=
 (zE (f:=72) (by kernel_rfl) (by kernel_rfl) (by kernel_rfl) [x0,x1,x2]).trans (by kernel_rfl)
theorem C73(x0 x1 x2:DV):zA 73 [x0,x1,x2] =
 ifO (zP (hasT EE 6) [27,3,3] [x0,x1,x2])
 (ifO (decide ((getI x1)<(1:Int)))
 (some (.val (eI 0)))
 (ifO (decide ((getI x1)>(((List.length (elems (nth (flds x0) 1))):Nat):Int)))
 (some (.val (eI 0)))
 (ifO (decide (((0:Int)<=(IntKind.wrap .i64 ((getI x1) - (1:Int))))/\((IntKind.wrap .i64 ((getI x1) - (1:Int)))<(((List.length (elems (nth (flds x0) 2))):Nat):Int))))
 (ifO (hasT EE 6 3 (nth (elems (nth (flds x0) 2)) (Int.toNat (IntKind.wrap .i64 ((getI x1) - (1:Int))))))
 (ifO (decide ((getI x2)>(getI (nth (elems (nth (flds x0) 2)) (Int.toNat (IntKind.wrap .i64 ((getI x1) - (1:Int))))))))
 (some (.val (eI 0)))
 (ifO (decide (((0:Int)<=(IntKind.wrap .i64 ((getI x1) - (1:Int))))/\((IntKind.wrap .i64 ((getI x1) - (1:Int)))<(((List.length (elems (nth (flds x0) 1))):Nat):Int))))
 (ifO (hasT EE 6 3 (nth (elems (nth (flds x0) 1)) (Int.toNat (IntKind.wrap .i64 ((getI x1) - (1:Int))))))
 (some (.val (eI (getI (nth (elems (nth (flds x0) 1)) (Int.toNat (IntKind.wrap .i64 ((getI x1) - (1:Int)))))))))
 (none))
 (none)))
 (none))
 (none))))
 (none) :=
 (zE (f:=73) (by kernel_rfl) (by kernel_rfl) (by kernel_rfl) [x0,x1,x2]).trans (by kernel_rfl)
def S74_0a(v0:Int)(v1:ByteArray)(v2:Int)(v3:List DV):St :=
 stOf 57 [(1,(.d (eI v0))),(2,(.ptr 2 3 0 [])),(5,(.d .nl)),(6,(.d (eI 0)))] [(2,(.mk false (.dc 3 [(.agg 0 [(.str v1),(eI v2),(.sl 3 v3)])])))]
noncomputable def L74_0a(v0:Int)(v1:ByteArray)(v2:Int)(v3:List DV):Option CR:=goQ 74 0 (S74_0a v0 v1 v2 v3)
def S74_1a(v0:Int)(v1:ByteArray)(v2:Int)(v3:List DV):St :=
 stOf 57 [(1,(.d (eI v0))),(2,(.ptr 2 3 0 [])),(5,(.d .nl)),(6,(.d (eI 0))),(7,(.d (eI 0)))] [(2,(.mk false (.dc 3 [(.agg 0 [(.str v1),(eI v2),(.sl 3 v3)])])))]
noncomputable def L74_1a(v0:Int)(v1:ByteArray)(v2:Int)(v3:List DV):Option CR:=goQ 74 1 (S74_1a v0 v1 v2 v3)
def S74_0b(v0:Int)(v1:List DV)(v2:Int)(v3:ByteArray)(v4:Int)(v5:List DV):St :=
 stOf 57 [(1,(.d (eI v0))),(2,(.ptr 2 3 0 [])),(5,(.own 55 0 (List.length v1) 1)),(6,(.d (eI v2)))] [(2,(.mk false (.dc 3 [(.agg 0 [(.str v3),(eI v4),(.sl 3 v5)])]))),(55,(.mk false (.dc 1 v1)))]
noncomputable def zBC(v0:Int)(v1:List DV)(v2:Int)(v3:ByteArray)(v4:Int)(v5:List DV):Option CR:=goQ 74 0 (S74_0b v0 v1 v2 v3 v4 v5)
def S74_1b(v0:Int)(v1:List DV)(v2 v3:Int)(v4:ByteArray)(v5:Int)(v6:List DV):St :=
 stOf 57 [(1,(.d (eI v0))),(2,(.ptr 2 3 0 [])),(5,(.own 55 0 (List.length v1) 1)),(6,(.d (eI v2))),(7,(.d (eI v3)))] [(2,(.mk false (.dc 3 [(.agg 0 [(.str v4),(eI v5),(.sl 3 v6)])]))),(55,(.mk false (.dc 1 v1)))]
noncomputable def L74_1b(v0:Int)(v1:List DV)(v2 v3:Int)(v4:ByteArray)(v5:Int)(v6:List DV):Option CR:=goQ 74 1 (S74_1b v0 v1 v2 v3 v4 v5 v6)
theorem L74_0a_eq(v0:Int)(v1:ByteArray)(v2:Int)(v3:List DV):L74_0a v0 v1 v2 v3 =
 ifO (decide ((0:Int)<(((List.length v3):Nat):Int)))
 ((L74_1a v0 v1 v2 v3))
 (some (.val (.sl 1 []))) :=
 (zU 74 0 _).trans (by kernel_rfl)
theorem L74_1a_eq(v0:Int)(v1:ByteArray)(v2:Int)(v3:List DV):L74_1a v0 v1 v2 v3 =
 (zBC v0 [(eI 0)] (1:Int) v1 v2 v3) :=
 (zU 74 1 _).trans (by kernel_rfl)
theorem L74_0b_eq(v0:Int)(v1:List DV)(v2:Int)(v3:ByteArray)(v4:Int)(v5:List DV):zBC v0 v1 v2 v3 v4 v5 =
 ifO (decide (v2<(((List.length v5):Nat):Int)))
 ((L74_1b v0 v1 v2 (((List.length v1):Nat):Int) v3 v4 v5))
 (ifO (decide ((0+(List.length v1))<=(List.length v1)))
 (some (.val (.sl 1 (List.take (List.length v1) (List.drop 0 v1)))))
 (none)) :=
 (zU 74 0 _).trans (by kernel_rfl)
theorem L74_1b_eq(v0:Int)(v1:List DV)(v2 v3:Int)(v4:ByteArray)(v5:Int)(v6:List DV):L74_1b v0 v1 v2 v3 v4 v5 v6 =
 ifO (decide (v3>(0:Int)))
 (ifO (decide (((0:Int)<=(IntKind.wrap .i64 (v3 - (1:Int))))/\((IntKind.wrap .i64 (v3 - (1:Int)))<(((List.length v1):Nat):Int))))
 (ifO (decide ((0+(Int.toNat (IntKind.wrap .i64 (v3 - (1:Int)))))<(List.length v1)))
 (ifO (hasT EE 6 3 (nth v1 (0+(Int.toNat (IntKind.wrap .i64 (v3 - (1:Int)))))))
 (ifO (decide (((0:Int)<=(getI (nth v1 (0+(Int.toNat (IntKind.wrap .i64 (v3 - (1:Int))))))))/\((getI (nth v1 (0+(Int.toNat (IntKind.wrap .i64 (v3 - (1:Int)))))))<(((List.length v6):Nat):Int))))
 (ifO (isAg 9 1 (nth v6 (Int.toNat (getI (nth v1 (0+(Int.toNat (IntKind.wrap .i64 (v3 - (1:Int))))))))))
 (ifO (hasT EE 6 141 (nth (flds (nth v6 (Int.toNat (getI (nth v1 (0+(Int.toNat (IntKind.wrap .i64 (v3 - (1:Int)))))))))) 1))
 (zC (zA 195 [(.agg 1 [(eI (getI (nth (flds (nth (flds (nth v6 (Int.toNat (getI (nth v1 (0+(Int.toNat (IntKind.wrap .i64 (v3 - (1:Int)))))))))) 1)) 0))),(eI (getI (nth (flds (nth (flds (nth v6 (Int.toNat (getI (nth v1 (0+(Int.toNat (IntKind.wrap .i64 (v3 - (1:Int)))))))))) 1)) 1)))]),(eI v0)])
 (λr0=>ifO (hasT EE 6 3 r0)
 (ifO (decide (((0:Int)<=v2)/\(v2<(((List.length v6):Nat):Int))))
 (ifO (isAg 9 1 (nth v6 (Int.toNat v2)))
 (ifO (hasT EE 6 141 (nth (flds (nth v6 (Int.toNat v2))) 1))
 (zC (zA 195 [(.agg 1 [(eI (getI (nth (flds (nth (flds (nth v6 (Int.toNat v2))) 1)) 0))),(eI (getI (nth (flds (nth (flds (nth v6 (Int.toNat v2))) 1)) 1)))]),(eI v0)])
 (λr1=>ifO (hasT EE 6 3 r1)
 (ifO (decide ((getI r0)>(getI r1)))
 ((L74_1b v0 v1 v2 (IntKind.wrap .i64 (v3 - (1:Int))) v4 v5 v6))
 (ifO (decide ((0:Int)<=v3))
 (ifO (decide ((0<=(Int.toNat v3))/\((Int.toNat v3)<=(List.length v1))))
 (ifO (decide ((0+((Int.toNat v3) - 0))<=(List.length v1)))
 (ifO (decide ((((2 * (0+(List.length (List.take ((Int.toNat v3) - 0) (List.drop 0 v1)))))+200) * 8)<=281474976710656))
 (ifO (List.isEmpty (List.take ((Int.toNat v3) - 0) (List.drop 0 v1)))
 (ifO (decide ((0:Int)<=v3))
 (ifO (decide (((Int.toNat v3)<=(List.length v1))/\((List.length v1)<=(List.length v1))))
 (ifO (decide (((0+(Int.toNat v3))+((List.length v1) - (Int.toNat v3)))<=(List.length v1)))
 (ifO (decide ((((2 * (1+(List.length (List.take ((List.length v1) - (Int.toNat v3)) (List.drop (0+(Int.toNat v3)) v1)))))+200) * 8)<=281474976710656))
 ((zBC v0 ([(eI v2)]++(List.take ((List.length v1) - (Int.toNat v3)) (List.drop (0+(Int.toNat v3)) v1))) (IntKind.wrap .i64 (v2+(1:Int))) v4 v5 v6))
 (none))
 (none))
 (none))
 (none))
 (ifO (decide ((List.length ([]++(List.take ((Int.toNat v3) - 0) (List.drop 0 v1))))=(List.length ([]++(List.take ((Int.toNat v3) - 0) (List.drop 0 v1))))))
 (ifO (decide ((((2 * ((List.length ([]++(List.take ((Int.toNat v3) - 0) (List.drop 0 v1))))+1))+200) * 8)<=281474976710656))
 (ifO (decide ((0:Int)<=v3))
 (ifO (decide (((Int.toNat v3)<=(List.length v1))/\((List.length v1)<=(List.length v1))))
 (ifO (decide ((List.length (([]++(List.take ((Int.toNat v3) - 0) (List.drop 0 v1)))++[(eI v2)]))=(List.length (([]++(List.take ((Int.toNat v3) - 0) (List.drop 0 v1)))++[(eI v2)]))))
 (ifO (decide (((0+(Int.toNat v3))+((List.length v1) - (Int.toNat v3)))<=(List.length v1)))
 (ifO (decide ((((2 * ((List.length (([]++(List.take ((Int.toNat v3) - 0) (List.drop 0 v1)))++[(eI v2)]))+(List.length (List.take ((List.length v1) - (Int.toNat v3)) (List.drop (0+(Int.toNat v3)) v1)))))+200) * 8)<=281474976710656))
 ((zBC v0 ((([]++(List.take ((Int.toNat v3) - 0) (List.drop 0 v1)))++[(eI v2)])++(List.take ((List.length v1) - (Int.toNat v3)) (List.drop (0+(Int.toNat v3)) v1))) (IntKind.wrap .i64 (v2+(1:Int))) v4 v5 v6))
 (none))
 (none))
 (none))
 (none))
 (none))
 (none))
 (none)))
 (none))
 (none))
 (none))
 (none)))
 (none))
 (λ_ _=>none))
 (none))
 (none))
 (none))
 (none))
 (λ_ _=>none))
 (none))
 (none))
 (none))
 (none))
 (none))
 (none))
 (ifO (decide ((0:Int)<=v3))
 (ifO (decide ((0<=(Int.toNat v3))/\((Int.toNat v3)<=(List.length v1))))
 (ifO (decide ((0+((Int.toNat v3) - 0))<=(List.length v1)))
 (ifO (decide ((((2 * (0+(List.length (List.take ((Int.toNat v3) - 0) (List.drop 0 v1)))))+200) * 8)<=281474976710656))
 (ifO (List.isEmpty (List.take ((Int.toNat v3) - 0) (List.drop 0 v1)))
 (ifO (decide ((0:Int)<=v3))
 (ifO (decide (((Int.toNat v3)<=(List.length v1))/\((List.length v1)<=(List.length v1))))
 (ifO (decide (((0+(Int.toNat v3))+((List.length v1) - (Int.toNat v3)))<=(List.length v1)))
 (ifO (decide ((((2 * (1+(List.length (List.take ((List.length v1) - (Int.toNat v3)) (List.drop (0+(Int.toNat v3)) v1)))))+200) * 8)<=281474976710656))
 ((zBC v0 ([(eI v2)]++(List.take ((List.length v1) - (Int.toNat v3)) (List.drop (0+(Int.toNat v3)) v1))) (IntKind.wrap .i64 (v2+(1:Int))) v4 v5 v6))
 (none))
 (none))
 (none))
 (none))
 (ifO (decide ((List.length ([]++(List.take ((Int.toNat v3) - 0) (List.drop 0 v1))))=(List.length ([]++(List.take ((Int.toNat v3) - 0) (List.drop 0 v1))))))
 (ifO (decide ((((2 * ((List.length ([]++(List.take ((Int.toNat v3) - 0) (List.drop 0 v1))))+1))+200) * 8)<=281474976710656))
 (ifO (decide ((0:Int)<=v3))
 (ifO (decide (((Int.toNat v3)<=(List.length v1))/\((List.length v1)<=(List.length v1))))
 (ifO (decide ((List.length (([]++(List.take ((Int.toNat v3) - 0) (List.drop 0 v1)))++[(eI v2)]))=(List.length (([]++(List.take ((Int.toNat v3) - 0) (List.drop 0 v1)))++[(eI v2)]))))
 (ifO (decide (((0+(Int.toNat v3))+((List.length v1) - (Int.toNat v3)))<=(List.length v1)))
 (ifO (decide ((((2 * ((List.length (([]++(List.take ((Int.toNat v3) - 0) (List.drop 0 v1)))++[(eI v2)]))+(List.length (List.take ((List.length v1) - (Int.toNat v3)) (List.drop (0+(Int.toNat v3)) v1)))))+200) * 8)<=281474976710656))
 ((zBC v0 ((([]++(List.take ((Int.toNat v3) - 0) (List.drop 0 v1)))++[(eI v2)])++(List.take ((List.length v1) - (Int.toNat v3)) (List.drop (0+(Int.toNat v3)) v1))) (IntKind.wrap .i64 (v2+(1:Int))) v4 v5 v6))
 (none))
 (none))
 (none))
 (none))
 (none))
 (none))
 (none)))
 (none))
 (none))
 (none))
 (none)) :=
 (zU 74 1 _).trans (by kernel_rfl)
theorem C74(x0 x1:DV):zA 74 [x0,x1] =
 ifO (zP (hasT EE 6) [24,3] [x0,x1])
 ((L74_0a (getI x1) (getS (nth (flds x0) 0)) (getI (nth (flds x0) 1)) (elems (nth (flds x0) 2))))
 (none) :=
 (zE (f:=74) (by kernel_rfl) (by kernel_rfl) (by kernel_rfl) [x0,x1]).trans (by kernel_rfl)
theorem C195(x0 x1:DV):zA 195 [x0,x1] =
 ifO (zP (hasT EE 6) [141,3] [x0,x1])
 (zC (zA 194 [(eI (getI x1))])
 (λr0=>ifO (hasT EE 6 141 r0)
 (zC (zA 194 [(eI (getI x1))])
 (λr1=>ifO (hasT EE 6 141 r1)
 (some (.val (eI (IntKind.wrap .i64 ((IntKind.wrap .i64 ((getI (nth (flds x0) 0)) * (getI (nth (flds r0) 0))))+(IntKind.wrap .i64 ((getI (nth (flds x0) 1)) * (getI (nth (flds r1) 1)))))))))
 (none))
 (λ_ _=>none))
 (none))
 (λ_ _=>none))
 (none) :=
 (zE (f:=195) (by kernel_rfl) (by kernel_rfl) (by kernel_rfl) [x0,x1]).trans (by kernel_rfl)
theorem C196(x0:DV):zA 196 [x0] =
 ifO (zP (hasT EE 6) [3] [x0])
 (ifO (decide ((getI x0)<(0:Int)))
 (ifO (bne (Int.tmod (getI x0) (2:Int)) 0)
 (some (.val (eI (IntKind.wrap .i64 ((IntKind.wrap .i64 (Int.tdiv (getI x0) (2:Int))) - (1:Int))))))
 (some (.val (eI (IntKind.wrap .i64 (Int.tdiv (getI x0) (2:Int)))))))
 (some (.val (eI (IntKind.wrap .i64 (Int.tdiv (getI x0) (2:Int)))))))
 (none) :=
 (zE (f:=196) (by kernel_rfl) (by kernel_rfl) (by kernel_rfl) [x0]).trans (by kernel_rfl)
theorem C197(x0:DV):zA 197 [x0] =
 ifO (zP (hasT EE 6) [3] [x0])
 (some (.val (eI (ite ((IntKind.wrap .i64 ((0:Int) - (getI x0)))>(getI x0)) (IntKind.wrap .i64 ((0:Int) - (getI x0))) (getI x0)))))
 (none) :=
 (zE (f:=197) (by kernel_rfl) (by kernel_rfl) (by kernel_rfl) [x0]).trans (by kernel_rfl)
def S193_0a(v0:List DV)(v1:ByteArray)(v2:Int):St :=
 stOf 18 [(0,(.d (.sl 1 v0))),(1,(.d (.str v1))),(5,(.d (eI v2)))] []
noncomputable def L193_0a(v0:List DV)(v1:ByteArray)(v2:Int):Option CR:=goQ 193 0 (S193_0a v0 v1 v2)
theorem L193_0a_eq(v0:List DV)(v1:ByteArray)(v2:Int):L193_0a v0 v1 v2 =
 ifO (decide (v2<(((List.length v0):Nat):Int)))
 (ifO (decide (((0:Int)<=v2)/\(v2<(((List.length v0):Nat):Int))))
 (ifO (hasT EE 6 9 (nth v0 (Int.toNat v2)))
 (ifO ((ByteArray.toList (getS (nth v0 (Int.toNat v2)))) == (ByteArray.toList v1))
 (some (.val (.bool true)))
 ((L193_0a v0 v1 (IntKind.wrap .i64 (v2+(1:Int))))))
 (none))
 (none))
 (some (.val (.bool false))) :=
 (zU 193 0 _).trans (by kernel_rfl)
theorem C193(x0 x1:DV):zA 193 [x0,x1] =
 ifO (zP (hasT EE 6) [173,9] [x0,x1])
 ((L193_0a (elems x0) (getS x1) (0:Int)))
 (none) :=
 (zE (f:=193) (by kernel_rfl) (by kernel_rfl) (by kernel_rfl) [x0,x1]).trans (by kernel_rfl)
theorem C92:zA 92 [] =
 some (.val (.sl 1 [(.str (bs [103,114,101,97,116,101,115,116])),(.str (bs [115,113,117,97,114,101,115])),(.str (bs [115,117,109]))])) :=
 (zE (f:=92) (by kernel_rfl) (by kernel_rfl) (by kernel_rfl) []).trans (by kernel_rfl)
end Go.Am
namespace Go.Am
open Go.Proofs
open Go
variable[OO]
def S69_0a(v0:Int)(v1:ByteArray)(v2:Int)(v3:List DV):St :=
 stOf 73 [(1,(.ptr 1 3 0 [])),(3,(.d (eI v0)))] [(1,(.mk false (.dc 3 [(.agg 0 [(.str v1),(eI v2),(.sl 3 v3)])])))]
noncomputable def L69_0a(v0:Int)(v1:ByteArray)(v2:Int)(v3:List DV):Option CR:=goQ 69 0 (S69_0a v0 v1 v2 v3)
def S69_1a(v0 v1:Int)(v2:ByteArray)(v3:Int)(v4:List DV)(v5:ByteArray)(v6 v7:Int):St :=
 stOf 73 [(1,(.ptr 1 3 0 [])),(3,(.d (eI v0))),(4,(.ptr 4 3 0 [])),(5,(.d (eI v1)))] [(1,(.mk false (.dc 3 [(.agg 0 [(.str v2),(eI v3),(.sl 3 v4)])]))),(4,(.mk false (.dc 3 [(.agg 9 [(.str v5),(.agg 1 [(eI v6),(eI v7)])])])))]
noncomputable def L69_1a(v0 v1:Int)(v2:ByteArray)(v3:Int)(v4:List DV)(v5:ByteArray)(v6 v7:Int):Option CR:=goQ 69 1 (S69_1a v0 v1 v2 v3 v4 v5 v6 v7)
def S69_2a(v0 v1:Int)(v2:ByteArray)(v3:Int)(v4:List DV)(v5:ByteArray)(v6 v7:Int):St :=
 stOf 73 [(1,(.ptr 1 3 0 [])),(3,(.d (eI v0))),(4,(.ptr 4 3 0 [])),(6,(.d (eI v1)))] [(1,(.mk false (.dc 3 [(.agg 0 [(.str v2),(eI v3),(.sl 3 v4)])]))),(4,(.mk false (.dc 3 [(.agg 9 [(.str v5),(.agg 1 [(eI v6),(eI v7)])])])))]
noncomputable def L69_2a(v0 v1:Int)(v2:ByteArray)(v3:Int)(v4:List DV)(v5:ByteArray)(v6 v7:Int):Option CR:=goQ 69 2 (S69_2a v0 v1 v2 v3 v4 v5 v6 v7)
theorem L69_0a_eq(v0:Int)(v1:ByteArray)(v2:Int)(v3:List DV):L69_0a v0 v1 v2 v3 =
 ifO (decide (v0<(((List.length v3):Nat):Int)))
 (ifO (decide (((0:Int)<=v0)/\(v0<(((List.length v3):Nat):Int))))
 (ifO (hasT EE 6 143 (nth v3 (Int.toNat v0)))
 (zC (zA 130 [(.str (getS (nth (flds (nth v3 (Int.toNat v0))) 0)))])
 (λr6=>ifO (hasT EE 6 4 r6)
 (ifO (!(getB r6))
 (some (.val (eI 8)))
 (zC (zA 164 [(.agg 1 [(eI (getI (nth (flds (nth (flds (nth v3 (Int.toNat v0))) 1)) 0))),(eI (getI (nth (flds (nth (flds (nth v3 (Int.toNat v0))) 1)) 1)))])])
 (λr7=>ifO (hasT EE 6 3 r7)
 (ifO (bne (getI r7) 0)
 (some (.val (eI 3)))
 ((L69_1a v0 (0:Int) v1 v2 v3 (getS (nth (flds (nth v3 (Int.toNat v0))) 0)) (getI (nth (flds (nth (flds (nth v3 (Int.toNat v0))) 1)) 0)) (getI (nth (flds (nth (flds (nth v3 (Int.toNat v0))) 1)) 1)))))
 (none))
 (λ_ _=>none)))
 (none))
 (λ_ _=>none))
 (none))
 (none))
 (some (.val (eI 0))) :=
 (zU 69 0 _).trans (by kernel_rfl)
theorem L69_1a_eq(v0 v1:Int)(v2:ByteArray)(v3:Int)(v4:List DV)(v5:ByteArray)(v6 v7:Int):L69_1a v0 v1 v2 v3 v4 v5 v6 v7 =
 ifO (decide (v1<v0))
 (ifO (decide (((0:Int)<=v1)/\(v1<(((List.length v4):Nat):Int))))
 (ifO (isAg 9 0 (nth v4 (Int.toNat v1)))
 (ifO (hasT EE 6 9 (nth (flds (nth v4 (Int.toNat v1))) 0))
 (ifO ((ByteArray.toList (getS (nth (flds (nth v4 (Int.toNat v1))) 0))) == (ByteArray.toList v5))
 (some (.val (eI 9)))
 ((L69_1a v0 (IntKind.wrap .i64 (v1+(1:Int))) v2 v3 v4 v5 v6 v7)))
 (none))
 (none))
 (none))
 ((L69_2a v0 (0:Int) v2 v3 v4 v5 v6 v7)) :=
 (zU 69 1 _).trans (by kernel_rfl)
theorem L69_2a_eq(v0 v1:Int)(v2:ByteArray)(v3:Int)(v4:List DV)(v5:ByteArray)(v6 v7:Int):L69_2a v0 v1 v2 v3 v4 v5 v6 v7 =
 ifO (decide (v1<v0))
 (ifO (decide (((0:Int)<=v1)/\(v1<(((List.length v4):Nat):Int))))
 (ifO (isAg 9 1 (nth v4 (Int.toNat v1)))
 (ifO (hasT EE 6 141 (nth (flds (nth v4 (Int.toNat v1))) 1))
 (zC (zA 192 [(.agg 1 [(eI (getI (nth (flds (nth (flds (nth v4 (Int.toNat v1))) 1)) 0))),(eI (getI (nth (flds (nth (flds (nth v4 (Int.toNat v1))) 1)) 1)))]),(.agg 1 [(eI v6),(eI v7)])])
 (λr12=>ifO (hasT EE 6 3 r12)
 (ifO (decide ((getI r12)<(IntKind.wrap .i64 (v3 * v3))))
 (some (.val (eI 15)))
 ((L69_2a v0 (IntKind.wrap .i64 (v1+(1:Int))) v2 v3 v4 v5 v6 v7)))
 (none))
 (λ_ _=>none))
 (none))
 (none))
 (none))
 ((L69_0a (IntKind.wrap .i64 (v0+(1:Int))) v2 v3 v4)) :=
 (zU 69 2 _).trans (by kernel_rfl)
theorem C69(x0:DV):zA 69 [x0] =
 ifO (zP (hasT EE 6) [24] [x0])
 (zC (zA 130 [(.str (getS (nth (flds x0) 0)))])
 (λr0=>ifO (hasT EE 6 4 r0)
 (ifO (!(getB r0))
 (some (.val (eI 8)))
 (zC (zA 37 [(eI (getI (nth (flds x0) 1))),(eI 1),(eI 1000)])
 (λr1=>ifO (hasT EE 6 3 r1)
 (ifO (bne (getI r1) 0)
 (some (.val (eI 3)))
 (ifO (decide ((((List.length (elems (nth (flds x0) 2))):Nat):Int)>(64:Int)))
 (some (.val (eI 5)))
 ((L69_0a (0:Int) (getS (nth (flds x0) 0)) (getI (nth (flds x0) 1)) (elems (nth (flds x0) 2))))))
 (none))
 (λ_ _=>none)))
 (none))
 (λ_ _=>none))
 (none) :=
 (zE (f:=69) (by kernel_rfl) (by kernel_rfl) (by kernel_rfl) [x0]).trans (by kernel_rfl)
def S62_0a(v0:Int)(v1:ByteArray)(v2:Int)(v3:List DV):St :=
 stOf 38 [(2,(.ptr 2 3 0 [])),(5,(.d (eI v0)))] [(2,(.mk false (.dc 3 [(.agg 0 [(.str v1),(eI v2),(.sl 3 v3)])])))]
noncomputable def L62_0a(v0:Int)(v1:ByteArray)(v2:Int)(v3:List DV):Option CR:=goQ 62 0 (S62_0a v0 v1 v2 v3)
theorem L62_0a_eq(v0:Int)(v1:ByteArray)(v2:Int)(v3:List DV):L62_0a v0 v1 v2 v3 =
 ifO (decide (v0<(((List.length v3):Nat):Int)))
 (ifO (decide (((0:Int)<=v0)/\(v0<(((List.length v3):Nat):Int))))
 (ifO (isAg 9 0 (nth v3 (Int.toNat v0)))
 (ifO (hasT EE 6 9 (nth (flds (nth v3 (Int.toNat v0))) 0))
 (ifO (decide ((((ByteArray.size (getS (nth (flds (nth v3 (Int.toNat v0))) 0))):Nat):Int)>(60:Int)))
 (some (.val (.bool false)))
 ((L62_0a (IntKind.wrap .i64 (v0+(1:Int))) v1 v2 v3)))
 (none))
 (none))
 (none))
 (some (.val (.bool true))) :=
 (zU 62 0 _).trans (by kernel_rfl)
theorem C62(x0 x1:DV):zA 62 [x0,x1] =
 ifO (zP (hasT EE 6) [24,3] [x0,x1])
 (ifO (decide ((((ByteArray.size (getS (nth (flds x0) 0))):Nat):Int)>(60:Int)))
 (some (.val (.bool false)))
 (ifO (decide ((((List.length (elems (nth (flds x0) 2))):Nat):Int)>(getI x1)))
 (ifO (bne (((List.length (elems (nth (flds x0) 2))):Nat):Int) (65:Int))
 (some (.val (.bool false)))
 ((L62_0a (0:Int) (getS (nth (flds x0) 0)) (getI (nth (flds x0) 1)) (elems (nth (flds x0) 2)))))
 ((L62_0a (0:Int) (getS (nth (flds x0) 0)) (getI (nth (flds x0) 1)) (elems (nth (flds x0) 2))))))
 (none) :=
 (zE (f:=62) (by kernel_rfl) (by kernel_rfl) (by kernel_rfl) [x0,x1]).trans (by kernel_rfl)
theorem C70(x0 x1:DV):zA 70 [x0,x1] =
 ifO (zP (hasT EE 6) [24,3] [x0,x1])
 (ifO (decide ((getI x1)<(0:Int)))
 (some (.val (eI 10)))
 (ifO (decide ((getI x1)>=(((List.length (elems (nth (flds x0) 2))):Nat):Int)))
 (some (.val (eI 10)))
 (some (.val (eI 0)))))
 (none) :=
 (zE (f:=70) (by kernel_rfl) (by kernel_rfl) (by kernel_rfl) [x0,x1]).trans (by kernel_rfl)
def S65_0a(v0:List DV)(v1:Int)(v2:ByteArray)(v3:Int):St :=
 stOf 26 [(2,(.ptr 2 3 0 [])),(3,(.ptr 3 3 0 [])),(12,(.d (.sl 3 v0))),(13,(.d (eI v1))),(14,(.d (eI 0)))] [(2,(.mk false (.dc 3 [(.agg 0 [(.str (bs [])),(eI 0),.nl])]))),(3,(.mk false (.dc 3 [(.agg 0 [(.str v2),(eI v3),.nl])])))]
noncomputable def L65_0a(v0:List DV)(v1:Int)(v2:ByteArray)(v3:Int):Option CR:=goQ 65 0 (S65_0a v0 v1 v2 v3)
def S65_0b(v0:List DV)(v1 v2:Int)(v3:ByteArray)(v4:Int)(v5:List DV):St :=
 stOf 26 [(2,(.ptr 2 3 0 [])),(3,(.ptr 3 3 0 [])),(12,(.d (.sl 3 v0))),(13,(.d (eI v1))),(14,(.d (eI v2)))] [(2,(.mk false (.dc 3 [(.agg 0 [(.str (bs [])),(eI 0),.nl])]))),(3,(.mk false (.ac 3 [(.agg 0 [(.d (.str v3)),(.d (eI v4)),(.own 22 0 (List.length v5) 3)])]))),(22,(.mk false (.dc 3 v5)))]
noncomputable def L65_0b(v0:List DV)(v1 v2:Int)(v3:ByteArray)(v4:Int)(v5:List DV):Option CR:=goQ 65 0 (S65_0b v0 v1 v2 v3 v4 v5)
theorem L65_0a_eq(v0:List DV)(v1:Int)(v2:ByteArray)(v3:Int):L65_0a v0 v1 v2 v3 =
 ifO (decide ((0:Int)<v1))
 (ifO (decide (((0:Int)<=(0:Int))/\((0:Int)<(((List.length v0):Nat):Int))))
 (ifO (hasT EE 6 143 (nth v0 0))
 ((L65_0b v0 v1 (1:Int) v2 v3 [(.agg 9 [(.str (getS (nth (flds (nth v0 0)) 0))),(.agg 1 [(eI (getI (nth (flds (nth (flds (nth v0 0)) 1)) 0))),(eI (getI (nth (flds (nth (flds (nth v0 0)) 1)) 1)))])])]))
 (none))
 (none))
 (some (.val (.agg 0 [(.str v2),(eI v3),(.sl 3 [])]))) :=
 (zU 65 0 _).trans (by kernel_rfl)
theorem L65_0b_eq(v0:List DV)(v1 v2:Int)(v3:ByteArray)(v4:Int)(v5:List DV):L65_0b v0 v1 v2 v3 v4 v5 =
 ifO (decide (v2<v1))
 (ifO (decide (((0:Int)<=v2)/\(v2<(((List.length v0):Nat):Int))))
 (ifO (hasT EE 6 143 (nth v0 (Int.toNat v2)))
 (ifO (decide ((List.length v5)=(List.length v5)))
 (ifO (decide ((((2 * ((List.length v5)+1))+200) * 32)<=281474976710656))
 ((L65_0b v0 v1 (IntKind.wrap .i64 (v2+(1:Int))) v3 v4 (v5++[(.agg 9 [(.str (getS (nth (flds (nth v0 (Int.toNat v2))) 0))),(.agg 1 [(eI (getI (nth (flds (nth (flds (nth v0 (Int.toNat v2))) 1)) 0))),(eI (getI (nth (flds (nth (flds (nth v0 (Int.toNat v2))) 1)) 1)))])])])))
 (none))
 (none))
 (none))
 (none))
 (ifO (decide ((0+(List.length v5))<=(List.length v5)))
 (some (.val (.agg 0 [(.str v3),(eI v4),(.sl 3 (List.take (List.length v5) (List.drop 0 v5)))])))
 (none)) :=
 (zU 65 0 _).trans (by kernel_rfl)
theorem C65(x0:DV):zA 65 [x0] =
 ifO (zP (hasT EE 6) [24] [x0])
 ((L65_0a (elems (nth (flds x0) 2)) (((List.length (elems (nth (flds x0) 2))):Nat):Int) (getS (nth (flds x0) 0)) (getI (nth (flds x0) 1))))
 (none) :=
 (zE (f:=65) (by kernel_rfl) (by kernel_rfl) (by kernel_rfl) [x0]).trans (by kernel_rfl)
theorem C194(x0:DV):zA 194 [x0] =
 ifO (zP (hasT EE 6) [3] [x0])
 (ifO (decide ((0:Int)<=(getI x0)))
 (ifO (isAg 17 (Int.toNat (getI x0)) (.agg 17 [(.agg 1 [(eI 0),(eI (-1))]),(.agg 1 [(eI (-1)),(eI (-1))]),(.agg 1 [(eI (-1)),(eI 0)]),(.agg 1 [(eI (-1)),(eI 1)]),(.agg 1 [(eI 0),(eI 1)]),(.agg 1 [(eI 1),(eI 1)]),(.agg 1 [(eI 1),(eI 0)]),(.agg 1 [(eI 1),(eI (-1))])]))
 (ifO (hasT EE 6 141 (nth [(.agg 1 [(eI 0),(eI (-1))]),(.agg 1 [(eI (-1)),(eI (-1))]),(.agg 1 [(eI (-1)),(eI 0)]),(.agg 1 [(eI (-1)),(eI 1)]),(.agg 1 [(eI 0),(eI 1)]),(.agg 1 [(eI 1),(eI 1)]),(.agg 1 [(eI 1),(eI 0)]),(.agg 1 [(eI 1),(eI (-1))])] (Int.toNat (getI x0))))
 (some (.val (.agg 1 [(eI (getI (nth (flds (nth [(.agg 1 [(eI 0),(eI (-1))]),(.agg 1 [(eI (-1)),(eI (-1))]),(.agg 1 [(eI (-1)),(eI 0)]),(.agg 1 [(eI (-1)),(eI 1)]),(.agg 1 [(eI 0),(eI 1)]),(.agg 1 [(eI 1),(eI 1)]),(.agg 1 [(eI 1),(eI 0)]),(.agg 1 [(eI 1),(eI (-1))])] (Int.toNat (getI x0)))) 0))),(eI (getI (nth (flds (nth [(.agg 1 [(eI 0),(eI (-1))]),(.agg 1 [(eI (-1)),(eI (-1))]),(.agg 1 [(eI (-1)),(eI 0)]),(.agg 1 [(eI (-1)),(eI 1)]),(.agg 1 [(eI 0),(eI 1)]),(.agg 1 [(eI 1),(eI 1)]),(.agg 1 [(eI 1),(eI 0)]),(.agg 1 [(eI 1),(eI (-1))])] (Int.toNat (getI x0)))) 1)))])))
 (none))
 (none))
 (none))
 (none) :=
 (zE (f:=194) (by kernel_rfl) (by kernel_rfl) (by kernel_rfl) [x0]).trans (by kernel_rfl)
end Go.Am
namespace Go.Am
open Go.Proofs
open Go
variable[OO]
def S35_0a(v0:List DV)(v1:Int):St :=
 stOf 19 [(0,(.d (.sl 1 v0))),(3,(.d (eI v1)))] []
noncomputable def L35_0a(v0:List DV)(v1:Int):Option CR:=goQ 35 0 (S35_0a v0 v1)
theorem L35_0a_eq(v0:List DV)(v1:Int):L35_0a v0 v1 =
 ifO (decide (v1<(((List.length v0):Nat):Int)))
 (ifO (decide (((0:Int)<=v1)/\(v1<(((List.length v0):Nat):Int))))
 (ifO (hasT EE 6 3 (nth v0 (Int.toNat v1)))
 (ifO (bne (getI (nth v0 (Int.toNat v1))) (0:Int))
 (ifO (decide (((0:Int)<=v1)/\(v1<(((List.length v0):Nat):Int))))
 (ifO (hasT EE 6 3 (nth v0 (Int.toNat v1)))
 (some (.val (eI (getI (nth v0 (Int.toNat v1))))))
 (none))
 (none))
 ((L35_0a v0 (IntKind.wrap .i64 (v1+(1:Int))))))
 (none))
 (none))
 (some (.val (eI 0))) :=
 (zU 35 0 _).trans (by kernel_rfl)
theorem C35(x0:DV):zA 35 [x0] =
 ifO (zP (hasT EE 6) [25] [x0])
 ((L35_0a (elems x0) (0:Int)))
 (none) :=
 (zE (f:=35) (by kernel_rfl) (by kernel_rfl) (by kernel_rfl) [x0]).trans (by kernel_rfl)
theorem C36(x0:DV):zA 36 [x0] =
 ifO (zP (hasT EE 6) [3] [x0])
 (zC (zA 37 [(eI (getI x0)),(eI 0),(eI 7)])
 (λr0=>ifO (hasT EE 6 3 r0)
 (some (.val (eI (getI r0))))
 (none))
 (λ_ _=>none))
 (none) :=
 (zE (f:=36) (by kernel_rfl) (by kernel_rfl) (by kernel_rfl) [x0]).trans (by kernel_rfl)
theorem C37(x0 x1 x2:DV):zA 37 [x0,x1,x2] =
 ifO (zP (hasT EE 6) [3,3,3] [x0,x1,x2])
 (ifO (decide ((getI x0)<(getI x1)))
 (some (.val (eI 3)))
 (ifO (decide ((getI x0)>(getI x2)))
 (some (.val (eI 3)))
 (some (.val (eI 0)))))
 (none) :=
 (zE (f:=37) (by kernel_rfl) (by kernel_rfl) (by kernel_rfl) [x0,x1,x2]).trans (by kernel_rfl)
theorem C164(x0:DV):zA 164 [x0] =
 ifO (zP (hasT EE 6) [141] [x0])
 (zC (zA 37 [(eI (getI (nth (flds x0) 0))),(eI (-1000)),(eI 1000)])
 (λr0=>ifO (hasT EE 6 3 r0)
 (zC (zA 37 [(eI (getI (nth (flds x0) 1))),(eI (-1000)),(eI 1000)])
 (λr1=>ifO (hasT EE 6 3 r1)
 (zC (zA 35 [(.sl 1 [(eI (getI r0)),(eI (getI r1))])])
 (λr2=>ifO (hasT EE 6 3 r2)
 (some (.val (eI (getI r2))))
 (none))
 (λ_ _=>none))
 (none))
 (λ_ _=>none))
 (none))
 (λ_ _=>none))
 (none) :=
 (zE (f:=164) (by kernel_rfl) (by kernel_rfl) (by kernel_rfl) [x0]).trans (by kernel_rfl)
theorem C41(x0 x1 x2 x3:DV):zA 41 [x0,x1,x2,x3] =
 ifO (zP (hasT EE 6) [25,46,3,25] [x0,x1,x2,x3])
 (ifO ((getI x1) == (getI x2))
 (ifO (bne (getI x2) 0)
 (ifO ((((List.length (elems x0)):Nat):Int) == (0:Int))
 (some (.val (.bool true)))
 (ifO ((getI x2) == (0:Int))
 (zC (zA 126 [(.sl 1 (elems x0)),(.sl 1 (elems x3))])
 (λr0=>ifO (hasT EE 6 4 r0)
 (some (.val (.bool (getB r0))))
 (none))
 (λ_ _=>none))
 (some (.val (.bool false)))))
 (ifO ((getI x2) == (0:Int))
 (zC (zA 126 [(.sl 1 (elems x0)),(.sl 1 (elems x3))])
 (λr3=>ifO (hasT EE 6 4 r3)
 (some (.val (.bool (getB r3))))
 (none))
 (λ_ _=>none))
 (some (.val (.bool false)))))
 (some (.val (.bool false))))
 (none) :=
 (zE (f:=41) (by kernel_rfl) (by kernel_rfl) (by kernel_rfl) [x0,x1,x2,x3]).trans (by kernel_rfl)
theorem C42(x0 x1 x2 x3:DV):zA 42 [x0,x1,x2,x3] =
 ifO (zP (hasT EE 6) [3,46,3,3] [x0,x1,x2,x3])
 (ifO ((getI x1) == (getI x2))
 (ifO (bne (getI x2) 0)
 (ifO ((getI x0) == (0:Int))
 (some (.val (.bool true)))
 (ifO ((getI x2) == (0:Int))
 (some (.val (.bool ((getI x0) == (getI x3)))))
 (some (.val (.bool false)))))
 (ifO ((getI x2) == (0:Int))
 (some (.val (.bool ((getI x0) == (getI x3)))))
 (some (.val (.bool false)))))
 (some (.val (.bool false))))
 (none) :=
 (zE (f:=42) (by kernel_rfl) (by kernel_rfl) (by kernel_rfl) [x0,x1,x2,x3]).trans (by kernel_rfl)
end Go.Am
namespace Go.Am
open Go.Proofs
open Go
variable[OO]
@[simp] theorem c37(n a b:Int):zA 37 [eI n,eI a,eI b]=some (.val (eI (zV n a b))):=by rw[C37];simp[zG,zV];by_cases h:n<a <;> by_cases h':n>b <;> simp[h,h']
end Go.Am
namespace Go.Am
open Go.Proofs
open Go
variable[OO]
theorem l35(l:List Int)(hl:l.length<=4611686018427387904):∀i,i<=l.length->L35_0a (l.map eI) i=some (.val (eI (zL (l.drop i)))):=by
 apply down
 ·rw[L35_0a_eq];simp[zL]
 ·intro i hi ih;rw[L35_0a_eq,zT l i hi];have e1:(i:Int)<l.length:=by omega
  simp[e1,zI _ l i hi,zf,zL,wr (i+1) (by omega)]
  split
  ·exact_mod_cast ih
  ·rfl
@[simp] theorem c35(l:List Int)(hl:l.length<=4611686018427387904):zA 35 [.sl 1 (l.map eI)]=some (.val (eI (zL l))):=by rw[C35];simpa using l35 l hl 0 (Nat.zero_le _)
@[simp] theorem c35_2(a b:Int):zA 35 [.sl 1 [eI a,eI b]]=some (.val (eI (zL [a,b]))):=c35 [a,b] (by simp)
@[simp] theorem c35_3(a b c:Int):zA 35 [.sl 1 [eI a,eI b,eI c]]=some (.val (eI (zL [a,b,c]))):=c35 [a,b,c] (by simp)
theorem ptE_or(p:Pt):ptE p=0\/ptE p=3:=by unfold ptE zL zV;by_cases h1:p.x < -1000\/p.x>1000 <;> by_cases h2:p.y < -1000\/p.y>1000 <;> simp[h1,h2,zL]
@[simp] theorem c164(p:Pt):zA 164 [ePt p]=some (.val (eI (ptE p))):=by rw[C164];simp[ptE]
theorem memB_cons(n k:ByteArray)(ks:List ByteArray):memB n (k :: ks)=(decide (n=k) || memB n ks):=rfl
theorem apart_comm(a b:Pt):jB a b=jB b a:=by
 have e:∀x y:Int,(x - y) * (x - y)=(y - x) * (y - x):=λx y=>by rw[show x - y=-(y - x) by omega,Int.neg_mul_neg]
 unfold jB;rw[e a.x b.x,e a.y b.y]
theorem l69_2(s:Si)(i:Nat)(hi:i<s.tb.length)(hl:s.tb.length<=64)(hp:∀o∈s.tb.take i,okPt o.at')(ht:okPt s.tb[i].at')(h1:1<=s.least)(h2:s.least<=1000) :
  ∀k,k<=i->L69_2a i k s.name s.least (s.tb.map eTb) s.tb[i].name s.tb[i].at'.x s.tb[i].at'.y =
   if ((s.tb.take i).drop k).any (λo=>decide (jB s.tb[i].at' o.at'<s.least * s.least)) then some (.val (eI 15)) else L69_0a ((i+1:Nat):Int) s.name s.least (s.tb.map eTb):=by
 apply down
 ·rw[L69_2a_eq];simp[wr ((i:Int)+1) (by omega)]
 ·intro k hk ih;have hkl:k<s.tb.length:=by omega
  have hb:=JS s.least 1000 (by omega) h2
  have hkt:k<(s.tb.take i).length:=by simp;omega
  have ha:=hp s.tb[k] (by rw[List.mem_take_iff_getElem];exact⟨k,by omega,rfl⟩)
  have e1:(k:Int)<i:=by omega
  have e2:(k:Int)<s.tb.length:=by omega
  have step:L69_2a i k s.name s.least (s.tb.map eTb) s.tb[i].name s.tb[i].at'.x s.tb[i].at'.y =
    if jB s.tb[i].at' s.tb[k].at'<s.least * s.least then some (.val (eI 15)) else L69_2a i ((k+1:Nat):Int) s.name s.least (s.tb.map eTb) s.tb[i].name s.tb[i].at'.x s.tb[i].at'.y:=by
   rw[L69_2a_eq];simp only[zG];simp[e1,e2,zI _ s.tb k hkl,c192 s.tb[k].at' s.tb[i].at' ha ht,wr (s.least * s.least) (by omega),wr (k+1) (by omega),apart_comm s.tb[k].at']
   rfl
  rw[step,ih,zT _ k hkt,List.any_cons,List.getElem_take];by_cases hd:jB s.tb[i].at' s.tb[k].at'<s.least * s.least
  ·rw[if_pos hd,decide_eq_true hd,Bool.true_or,if_pos rfl]
  ·rw[if_neg hd,decide_eq_false hd,Bool.false_or]
theorem l69_1(s:Si)(i:Nat)(hi:i<s.tb.length)(hl:s.tb.length<=64) :
  ∀k,k<=i->L69_1a i k s.name s.least (s.tb.map eTb) s.tb[i].name s.tb[i].at'.x s.tb[i].at'.y =
   if memB s.tb[i].name (((s.tb.take i).map (·.name)).drop k) then some (.val (eI 9)) else L69_2a i (0:Nat) s.name s.least (s.tb.map eTb) s.tb[i].name s.tb[i].at'.x s.tb[i].at'.y:=by
 apply down
 ·rw[L69_1a_eq];simp[memB]
 ·intro k hk ih;have hkl:k<s.tb.length:=by omega
  have hkt:k<((s.tb.take i).map (·.name)).length:=by simp;omega
  have e1:(k:Int)<i:=by omega
  have e2:(k:Int)<s.tb.length:=by omega
  have step:L69_1a i k s.name s.least (s.tb.map eTb) s.tb[i].name s.tb[i].at'.x s.tb[i].at'.y =
    if s.tb[i].name=s.tb[k].name then some (.val (eI 9)) else L69_1a i ((k+1:Nat):Int) s.name s.least (s.tb.map eTb) s.tb[i].name s.tb[i].at'.x s.tb[i].at'.y:=by
   rw[L69_1a_eq];simp only[bytes_beq,zG];simp[e1,e2,zI _ s.tb k hkl,wr (k+1) (by omega),eq_comm (a:=s.tb[k].name)]
  rw[step,ih,zT _ k hkt,memB_cons];simp only[List.getElem_map,List.getElem_take];by_cases hd:s.tb[i].name=s.tb[k].name
  ·rw[if_pos hd,decide_eq_true hd,Bool.true_or,if_pos rfl]
  ·rw[if_neg hd,decide_eq_false hd,Bool.false_or]
theorem l69_0(s:Si)(hl:s.tb.length<=64)(h1:1<=s.least)(h2:s.least<=1000) :
  ∀i,i<=s.tb.length->(∀o∈s.tb.take i,okPt o.at')->L69_0a i s.name s.least (s.tb.map eTb)=some (.val (eI (ja s.least (s.tb.take i) (s.tb.drop i)))):=by
 apply down (P:=λi=>(∀o∈s.tb.take i,okPt o.at')->L69_0a i s.name s.least (s.tb.map eTb)=some (.val (eI (ja s.least (s.tb.take i) (s.tb.drop i)))))
 ·intro _;rw[L69_0a_eq];simp[ja]
 ·intro i hi ih hp;have e1:(i:Int)<s.tb.length:=by omega
  have htk:s.tb.take (i+1)=s.tb.take i++[s.tb[i]]:=by rw[List.take_succ_eq_append_getElem hi]
  rw[zT s.tb i hi,ja];rw[htk] at ih;have step:L69_0a i s.name s.least (s.tb.map eTb) =
    if jE s.tb[i].name=true then (if ptE s.tb[i].at'=0 then L69_1a i (0:Nat) s.name s.least (s.tb.map eTb) s.tb[i].name s.tb[i].at'.x s.tb[i].at'.y else some (.val (eI 3))) else some (.val (eI 8)):=by
   rw[L69_0a_eq];simp only[zG,zf];simp[e1,zI _ s.tb i hi,c130];cases jE s.tb[i].name
   ·simp
   ·simp only[Bool.not_true,za,if_true];rfl
  rw[step];cases hn:jE s.tb[i].name with
  | false=>simp[zL]
  | true =>
   by_cases hq:ptE s.tb[i].at'=0
   ·have ht:okPt s.tb[i].at':=(zAs _).1 hq;simp only[if_true,hq];rw[l69_1 s i hi hl 0 (Nat.zero_le _),List.drop_zero];cases hm:memB s.tb[i].name ((s.tb.take i).map (·.name)) with
    | true=>simp[zL]
    | false =>
     simp only[Bool.false_eq_true,if_false,zL,if_true,ne_eq,not_true_eq_false];rw[l69_2 s i hi hl hp ht h1 h2 0 (Nat.zero_le _),List.drop_zero];split
     ·rfl
     ·refine ih λo ho=>?_
      rcases List.mem_append.1 ho with ho | ho
      ·exact hp o ho
      ·rw[List.mem_singleton.1 ho];exact ht
   ·rcases ptE_or s.tb[i].at' with h | h
    ·exact absurd h hq
    ·simp[h,zL]
theorem c69(s:Si):zA 69 [eSi s]=some (.val (eI (z8 s))):=by
 rw[C69];simp only[zf,zG];simp[z8,c130];cases hn:jE s.name with
 | false=>simp[zL]
 | true =>
  by_cases hr:zV s.least 1 1000=0
  ·by_cases hl:(64:Int)<s.tb.length
   ·simp[hr,hl,zL]
   ·have h0:zL [if jE s.name then 0 else 8,zV s.least 1 1000,if (64:Int)<s.tb.length then 5 else 0]=0:=by simp[zL,hn,hr,hl]
    obtain⟨_,h1,h2,h3⟩:=Jc h0;have:=l69_0 s h3 h1 h2 0 (Nat.zero_le _) (by simp)
    simpa[hr,hl,zL] using this
  ·have hr3:zV s.least 1 1000=3:=by unfold zV at hr ⊢;split at hr <;> simp_all
   simp[hr3,zL]
end Go.Am
namespace Go.Am
open Go.Proofs
open Go
variable[OO]
theorem l193(l:List ByteArray)(n:ByteArray)(hl:l.length<=1000):∀i,i<=l.length->L193_0a (l.map .str) n i=some (.val (.bool (memB n (l.drop i)))):=by
 apply down
 ·rw[L193_0a_eq];simp[memB]
 ·intro i hi ih;have e1:(i:Int)<l.length:=by omega
  rw[L193_0a_eq,zT l i hi,memB_cons];simp only[bytes_beq,zG,wr ((i:Int)+1) (by omega)]
  by_cases h:l[i]=n
  ·simp[e1,zI _ l i hi,h]
  ·have h':¬n=l[i]:=λe=>h e.symm
   simp only[decide_eq_false h',Bool.false_or];simp[e1,zI _ l i hi,h]
   exact_mod_cast ih
theorem c193(l:List ByteArray)(n:ByteArray)(hl:l.length<=1000):zA 193 [.sl 1 (l.map .str),.str n]=some (.val (.bool (memB n l))):=by rw[C193];simpa using l193 l n hl 0 (Nat.zero_le _)
theorem l71_1(d w:List Int)(nm:ByteArray)(hl:w.length<=1000):∀i,i<=w.length->L71_1a i nm (d.map eI) (w.map eI)=some (.val (eI (jC 100 true (zg w i) (w.drop i)))):=by
 apply down
 ·rw[L71_1a_eq];simp[jC]
 ·intro i hi ih;have e1:(i:Int)<w.length:=by omega
  rw[zT w i hi,jC];rw[jY w i hi] at ih;have step:L71_1a i nm (d.map eI) (w.map eI)=if zq 100 true (zg w i) w[i]=0 then L71_1a ((i+1:Nat):Int) nm (d.map eI) (w.map eI) else some (.val (eI (zq 100 true (zg w i) w[i]))):=by
   rw[L71_1a_eq];simp only[zG,zf];by_cases hr:zV w[i] 0 100=0
   ·cases i with
    | zero =>
     simp[e1,hi,zI _ w 0 hi,zg,zq,wr 1 (by omega),hr,zL]
    | succ j =>
     have hj:j<w.length:=by omega
     have e2:(((j+1:Nat):Int) - 1)=(j:Int):=by omega
     have e3:(j:Int)<w.length:=by omega
     have e4:((j+1:Nat):Int)>0:=by omega
     have e5:((j+1:Nat):Int)<w.length:=by omega
     have e6:(0:Int)<=((j+1:Nat):Int):=by omega
     rw[e2,wr (j:Int) (by omega)]
     rw[wr (((j+1:Nat):Int)+1) (by omega)]
     simp only[e4,e5,e6,e3,Int.natCast_nonneg,and_self,if_true,Int.toNat_natCast,zI _ w (j+1) hi,zI _ w j hj];have e7:(j:Int)+1<w.length:=by omega
     by_cases hc:w[j+1]<w[j]
     ·simp[zq,zg,hj,e7,hc,hr,zL]
     ·simp[zq,zg,hj,e7,hc,hr,zL]
   ·have hs:zq 100 true (zg w i) w[i]=zV w[i] 0 100:=by unfold zq;rw[zL,if_neg hr]
    simp[e1,hi,zI _ w i hi,hs,hr]
  rw[step,ih];split <;> rfl
theorem l71_0(d w:List Int)(nm:ByteArray)(hl:d.length<=1000):∀i,i<=d.length->L71_0a i nm (d.map eI) (w.map eI)=if jC 256 false (zg d i) (d.drop i)=0 then L71_1a (0:Nat) nm (d.map eI) (w.map eI) else some (.val (eI (jC 256 false (zg d i) (d.drop i)))):=by
 apply down
 ·rw[L71_0a_eq];simp[jC]
 ·intro i hi ih;have e1:(i:Int)<d.length:=by omega
  rw[zT d i hi,jC];rw[jY d i hi] at ih;have step:L71_0a i nm (d.map eI) (w.map eI)=if zq 256 false (zg d i) d[i]=0 then L71_0a ((i+1:Nat):Int) nm (d.map eI) (w.map eI) else some (.val (eI (zq 256 false (zg d i) d[i]))):=by
   rw[L71_0a_eq];simp only[zG,zf];by_cases hr:zV d[i] 0 256=0
   ·cases i with
    | zero =>
     simp[e1,hi,zI _ d 0 hi,zg,zq,wr 1 (by omega),hr,zL]
    | succ j =>
     have hj:j<d.length:=by omega
     have e2:(((j+1:Nat):Int) - 1)=(j:Int):=by omega
     have e3:(j:Int)<d.length:=by omega
     have e4:((j+1:Nat):Int)>0:=by omega
     have e5:((j+1:Nat):Int)<d.length:=by omega
     have e6:(0:Int)<=((j+1:Nat):Int):=by omega
     rw[e2,wr (j:Int) (by omega)]
     rw[wr (((j+1:Nat):Int)+1) (by omega)]
     simp only[e4,e5,e6,e3,Int.natCast_nonneg,and_self,if_true,Int.toNat_natCast,zI _ d (j+1) hi,zI _ d j hj];have e7:(j:Int)+1<d.length:=by omega
     by_cases hc:d[j+1]>d[j]
     ·simp[zq,zg,hj,e7,hc,hr,zL]
     ·simp[zq,zg,hj,e7,hc,hr,zL]
   ·have hs:zq 256 false (zg d i) d[i]=zV d[i] 0 256:=by unfold zq;rw[zL,if_neg hr]
    simp[e1,hi,zI _ d i hi,hs,hr]
  rw[step];by_cases h:zq 256 false (zg d i) d[i]=0
  ·rw[if_pos h,if_pos h,ih]
  ·rw[if_neg h,if_neg h,if_neg h]
theorem c71(w:Wk):zA 71 [eWk w]=some (.val (eI (wakeE w))):=by
 have key:wakeH w=0->L71_0a 0 w.rule (w.d.map eI) (w.w.map eI)=some (.val (eI (if jC 256 false none w.d=0 then jC 100 true none w.w else jC 256 false none w.d))):=by
  intro h;obtain⟨_,_,h3,h4⟩:=wakeH_facts h;have a:=l71_0 w.d w.w w.rule (by omega) 0 (Nat.zero_le _)
  have b:=l71_1 w.d w.w w.rule (by omega) 0 (Nat.zero_le _)
  simp only[zg,if_true,List.drop_zero,Int.natCast_zero] at a b;rw[a,b];split <;> rfl
 have h193:zA 193 [.sl 1 [.str rG,.str rS,.str rM],.str w.rule]=some (.val (.bool (jD w.rule))):=c193 [rG,rS,rM] w.rule (by simp)
 have fin:(if wakeH w=0 then L71_0a 0 w.rule (w.d.map eI) (w.w.map eI) else some (.val (eI (wakeH w))))=some (.val (eI (wakeE w))):=by
  unfold wakeE;by_cases h:wakeH w=0
  ·rw[if_pos h,if_pos h,key h]
  ·rw[if_neg h,if_neg h]
 rw[<-fin,C71,C92];simp only[zf,zG,zw];simp[h193];cases hk:jD w.rule with
 | false=>simp[wakeH,hk,zL]
 | true =>
  by_cases h1:w.d=[]
  ·simp[wakeH,hk,zL,h1]
  ·by_cases h2:(32:Int)<w.d.length
   ·simp[wakeH,hk,zL,h1,h2]
   ·by_cases h3:(w.w.length:Int)=w.d.length
    ·simp[wakeH,hk,zL,h1,h2,h3]
    ·simp[wakeH,hk,zL,h1,h2,h3]
end Go.Am
namespace Go.Am
open Go.Proofs
open Go
variable[OO]
theorem c194(n:Int)(h0:0<=n)(h7:n<=7):zA 194 [eI n]=some (.val (ePt (zO n))):=by
 rcases Yu h0 h7 with rfl | rfl | rfl | rfl | rfl | rfl | rfl | rfl <;> (rw[C194];simp[zO,nth])
theorem c195(p:Pt)(n:Int)(h0:0<=n)(h7:n<=7)(k:Int)(hk:k<=1000000)(hx:-k<=p.x)(hx':p.x<=k)(hy:-k<=p.y)(hy':p.y<=k):zA 195 [ePt p,eI n]=some (.val (eI (Jo p (zO n)))):=by
 obtain⟨s1,s2,s3,s4⟩:=jX n;have h1:=zp p.x (zO n).x k hx hx' s1 s2;have h2:=zp p.y (zO n).y k hy hy' s3 s4;rw[C195];simp[c194 n h0 h7];rw[wr (p.x * (zO n).x) (by omega),wr (p.y * (zO n).y) (by omega),wr _ (by omega)]
 rfl
theorem c196(n:Int)(h:-1000000<=n)(h':n<=1000000):zA 196 [eI n]=some (.val (eI (Int.fdiv n 2))):=by
 have e:Int.fdiv n 2=n / 2:=Int.fdiv_eq_ediv_of_nonneg n (by omega)
 have t:Int.tdiv n 2=if n<0 then -((-n) / 2) else n / 2:=by
  split
  ·have:=Int.neg_tdiv (a:=-n) (b:=2);rw[Int.neg_neg] at this;rw[this,Int.tdiv_eq_ediv_of_nonneg (by omega)]
  ·rw[Int.tdiv_eq_ediv_of_nonneg (by omega)]
 have m:Int.tmod n 2=n - 2 * Int.tdiv n 2:=by have:=Int.tmod_add_mul_tdiv n 2;omega
 rw[C196,e];simp only[zG,zf];simp only[zK,h3,zM,Bool.and_self,zB,zF];simp only[m,t];by_cases hn:n<0
 ·simp only[hn,if_true,wr (-(-n / 2)) (by omega),wr (-(-n / 2) - 1) (by omega)]
  split
  ·congr 3;omega
  ·congr 3;omega
 ·simp only[hn,if_false,wr (n / 2) (by omega)]
theorem c197(n:Int)(h:-1000000<=n)(h':n<=1000000):zA 197 [eI n]=some (.val (eI (if 0 - n>n then 0 - n else n))):=by rw[C197];simp only[zK,h3,zM,Bool.and_self,zB,zF];simp only[wr (0 - n) (by omega)]
theorem c72(a b:Pt)(n:Int)(h0:0<=n)(h7:n<=7)(ha:okPt a)(hb:okPt b):zA 72 [ePt a,ePt b,eI n]=some (.val (.tup [eI (relP n (zO n) a b).1,eI (relP n (zO n) a b).2])):=by
 obtain⟨a1,a2,a3,a4⟩:=ha;obtain⟨b1,b2,b3,b4⟩:=hb;have hal:=c195 ⟨b.x - a.x,b.y - a.y⟩ n h0 h7 2000 (by omega) (by simp;omega) (by simp;omega) (by simp;omega) (by simp;omega)
 obtain⟨s1,s2,s3,s4⟩:=jX n;have h1:=zp (b.x - a.x) (zO n).y 2000 (by omega) (by omega) s3 s4
 have h2:=zp (b.y - a.y) (zO n).x 2000 (by omega) (by omega) s1 s2
 have h5:=zp (b.x - a.x) (zO n).x 2000 (by omega) (by omega) s1 s2
 have h6:=zp (b.y - a.y) (zO n).y 2000 (by omega) (by omega) s3 s4
 have hab:=c197 ((b.x - a.x) * (zO n).y - (b.y - a.y) * (zO n).x) (by omega) (by omega)
 have hha:=c196 ((b.x - a.x) * (zO n).x+(b.y - a.y) * (zO n).y) (by omega) (by omega)
 rw[C72];simp only[zK,h3,h141,zM,Bool.and_self,zB,zR,zS,zW,zF,c194 n h0 h7,zH];simp only[wr (b.x - a.x) (by omega),wr (b.y - a.y) (by omega),wr ((b.x - a.x) * (zO n).y) (by omega),wr ((b.y - a.y) * (zO n).x) (by omega),wr ((b.x - a.x) * (zO n).y - (b.y - a.y) * (zO n).x) (by omega)]
 simp only[hal,zH,h3,zB,zF,zw,hab,Jo,hha,relP,relI];by_cases h:Int.tmod n 2=1
 ·simp only[h,if_true]
 ·simp only[h,if_false]
theorem c73(w:Wk)(s o:Int)(hl:w.w.length=w.d.length)(hd:w.d.length<=1000):zA 73 [eWk w,eI s,eI o]=some (.val (eI (defI w.d w.w s o))):=by
 rw[C73];simp only[zG];by_cases h1:s<1
 ·simp[h1,defI]
 ·by_cases h2:s>w.d.length
  ·simp[h1,h2,defI]
  ·obtain⟨k,rfl⟩:∃k:Nat,s=(k:Int)+1:=⟨(s - 1).toNat,by omega⟩
   have hk:k<w.d.length:=by omega
   have hk':k<w.w.length:=by omega
   have e1:((k:Int)+1 - 1)=k:=by omega
   have e2:(k:Int)<w.d.length:=by omega
   have e3:(k:Int)<w.w.length:=by omega
   simp only[defI,e1,Int.toNat_natCast];simp[h1,h2,e2,e3,wr (k:Int) (by omega),zI _ w.d k hk,zI _ w.w k hk',hk,hk']
   by_cases h4:o>w.w[k]
   ·simp[h4]
   ·simp[h4]
end Go.Am
namespace Go.Am
open Go.Proofs
open Go
variable[OO]
def listB(l:List Int)(e bad:Int)(want:List Int):Bool:=if e=bad then (if bad=0 then decide (l=want) else decide (l=[])) else false
def numB(n e bad want:Int):Bool:=if e=bad then (if bad=0 then decide (n=want) else decide (n=0)) else false
theorem c41(l want:List Int)(e bad:Int)(hb:l.length<=1000000):zA 41 [.sl 1 (l.map eI),eI e,eI bad,.sl 1 (want.map eI)]=some (.val (.bool (listB l e bad want))):=by
 rw[C41];simp only[zf,zw];by_cases h1:e=bad
 ·by_cases h2:bad=0
  ·simp[h1,h2,listB,c126 l want hb]
  ·by_cases h3:l=[]
   ·simp[h1,h2,listB,h3]
   ·simp[h1,h2,listB,h3]
 ·simp[h1,listB]
theorem c42(n e bad want:Int):zA 42 [eI n,eI e,eI bad,eI want]=some (.val (.bool (numB n e bad want))):=by
 rw[C42];simp only[zf,zw];by_cases h1:e=bad
 ·by_cases h2:bad=0
  ·by_cases h4:n=want
   ·simp[h1,h2,numB,h4]
   ·simp[h1,h2,numB,h4]
  ·by_cases h3:n=0
   ·simp[h1,h2,numB,h3]
   ·simp[h1,h2,numB,h3]
 ·simp[h1,numB]
theorem c56(l:List Int)(hb:l.length<=1000000):zA 56 [.sl 1 (l.map eI)]=some (.val (.sl 1 (l.map eI))):=by
 rw[C56];simp only[zG];have h1:(2 * l.length+200) * 8<=281474976710656:=by omega
 cases l with
 | nil=>simp
 | cons a l =>
  simp only[List.length_cons] at h1;simp[h1];exact List.take_of_length_le (by simp)
theorem c67(w:Wk)(h1:w.d.length<=1000000)(h2:w.w.length<=1000000):zA 67 [eWk w]=some (.val (eWk w)):=by rw[C67];simp[c56 w.d h1,c56 w.w h2]
def shortS(s:Si)(n:Int):Bool :=
 if (s.name.size:Int)>60 then false else if (s.tb.length:Int)>n/\s.tb.length≠65 then false else s.tb.all λt=>decide ((t.name.size:Int)<=60)
theorem l62(s:Si)(hl:s.tb.length<=1000):∀i,i<=s.tb.length->L62_0a i s.name s.least (s.tb.map eTb)=some (.val (.bool ((s.tb.drop i).all λt=>decide ((t.name.size:Int)<=60)))):=by
 apply down
 ·rw[L62_0a_eq];simp
 ·intro i hi ih;have e1:(i:Int)<s.tb.length:=by omega
  rw[zT s.tb i hi,List.all_cons];rw[L62_0a_eq];simp only[zG];by_cases h:(s.tb[i].name.size:Int)>60
  ·have hd:decide ((s.tb[i].name.size:Int)<=60)=false:=decide_eq_false (by omega)
   rw[hd,Bool.false_and];simp[e1,zI _ s.tb i hi,h]
  ·have hd:decide ((s.tb[i].name.size:Int)<=60)=true:=decide_eq_true (by omega)
   rw[hd,Bool.true_and,<-ih];simp[e1,zI _ s.tb i hi,h,wr ((i:Int)+1) (by omega)]
theorem c62(s:Si)(n:Int)(hn:n<=100):zA 62 [eSi s,eI n]=some (.val (.bool (shortS s n))):=by
 rw[C62];simp only[zG,zf];unfold shortS;by_cases h1:(s.name.size:Int)>60
 ·simp[h1]
 ·by_cases h2:(s.tb.length:Int)>n
  ·by_cases h3:s.tb.length=65
   ·have:=l62 s (by omega) 0 (Nat.zero_le _)
    have h3':(s.tb.length:Int)=65:=by omega
    simp only[Int.natCast_zero,List.drop_zero] at this;simp[h1,h2,h3,h3'];rw[this]
   ·have h3':¬(s.tb.length:Int)=65:=by omega
    simp[h1,h2,h3,h3']
  ·have:=l62 s (by omega) 0 (Nat.zero_le _)
   simp only[Int.natCast_zero,List.drop_zero] at this;simp[h1,h2];rw[this]
def short33(n:Nat):Bool:=decide ((n:Int)<=6) || ((n:Int) == 33)
def shortW(w:Wk):Bool:=decide ((w.rule.size:Int)<=40) && short33 w.d.length && short33 w.w.length
theorem c63(w:Wk):zA 63 [eWk w]=some (.val (.bool (shortW w))):=by
 rw[C63];simp only[zG,zw];unfold shortW short33;by_cases h1:(w.rule.size:Int)<=40
 ·by_cases h2:(w.d.length:Int)<=6
  ·by_cases h3:(w.w.length:Int)<=6
   ·simp[h1,h2,h3]
   ·simp[h1,h2,h3]
  ·by_cases h4:(w.d.length:Int)=33
   ·by_cases h3:(w.w.length:Int)<=6
    ·simp[h1,h2,h3,h4]
    ·simp[h1,h2,h3,h4]
   ·simp[h1,h2,h4]
 ·simp[h1]
end Go.Am
namespace Go.Am
open Go.Proofs
open Go
variable[OO]
theorem c66(w:Wk)(s o:Int):zA 66 [eWk w,eI s,eI o]=some (.val (.tup [
  eI (if zL [wakeE w,zV s (-999999999) 999999999,zV o (-999999999) 999999999]=0 then defI w.d w.w s o else 0),eI (zL [wakeE w,zV s (-999999999) 999999999,zV o (-999999999) 999999999])])):=by
 rw[C66];simp only[zf];by_cases h:zL [wakeE w,zV s (-999999999) 999999999,zV o (-999999999) 999999999]=0
 ·have hw:wakeE w=0:=(zy h).1;have hf:wakeH w=0:=by unfold wakeE at hw;split at hw <;> assumption
  obtain⟨_,_,h3',h4⟩:=wakeH_facts hf;simp[c75,h,c186 w s o h4 (by omega)]
 ·simp[c75,h]
end Go.Am
namespace Go.Am
open Go.Proofs
open Go
variable[OO]
theorem l65_b(tbs:List Tb)(nm:ByteArray)(least:Int)(hl:tbs.length<=100000):∀i,i<=tbs.length->L65_0b (tbs.map eTb) tbs.length i nm least ((tbs.take i).map eTb)=some (.val (.agg 0 [.str nm,eI least,.sl 3 (tbs.map eTb)])):=by
 apply down
 ·rw[L65_0b_eq];simp;exact List.take_of_length_le (by simp)
 ·intro i hi ih;have e1:(i:Int)<tbs.length:=by omega
  have htk:tbs.take (i+1)=tbs.take i++[tbs[i]]:=by rw[List.take_succ_eq_append_getElem hi]
  rw[<-ih];rw[L65_0b_eq];simp only[zG];have hm:min i tbs.length=i:=by omega
  have e2:(2 * (i+1)+200) * 32<=281474976710656:=by omega
  simp[e1,zI _ tbs i hi,hm,e2,wr ((i:Int)+1) (by omega)]
  congr 1;rw[List.take_succ_eq_append_getElem (by simpa using hi)]
  simp
theorem c65(s:Si)(hl:s.tb.length<=100000):zA 65 [eSi s]=some (.val (eSi s)):=by
 rw[C65];simp;rw[L65_0a_eq];simp only[zG];by_cases h:s.tb=[]
 ·simp[h]
 ·have h0:0<s.tb.length:=List.length_pos_iff.2 h;have h1:=l65_b s.tb s.name s.least hl 1 (by omega)
  have e:s.tb.take 1=[s.tb[0]]:=by rw[List.take_succ_eq_append_getElem h0];simp
  rw[e] at h1;simp[h0,zI _ s.tb 0 h0];simpa using h1
theorem c70(s:Si)(i:Int):zA 70 [eSi s,eI i]=some (.val (eI (idxE s.tb.length i))):=by
 rw[C70];simp only[zG];unfold idxE;by_cases h1:i<0
 ·simp[h1]
 ·by_cases h2:i>=s.tb.length
  ·simp[h1,h2]
  ·simp[h1,h2]
theorem c36(n:Int):zA 36 [eI n]=some (.val (eI (zV n 0 7))):=by rw[C36];simp
theorem posR_le(key:Nat->Int)(out:List Nat)(i:Nat):∀a,posR key out i a<=a
 | 0=>Nat.le_refl 0
 | a+1=>by
  unfold posR;split
  ·have:=posR_le key out i a;omega
  ·omega
theorem insR_len(key:Nat->Int)(out:List Nat)(i:Nat):(insR key out i).length=out.length+1:=by have:=posR_le key out i out.length;simp[insR];omega
theorem zBJ(key:Nat->Int):∀n,(zz key n).length=n
 | 0=>rfl
 | n+1=>by rw[zz,insR_len,zBJ key n]
theorem insR_mem(key:Nat->Int)(out:List Nat)(i x:Nat):x∈insR key out i ↔ x=i\/x∈out:=by
 unfold insR;constructor
 ·intro h;simp only[List.mem_append,List.mem_singleton] at h;rcases h with (h | h) | h
  ·exact .inr (List.mem_of_mem_take h)
  ·exact .inl h
  ·exact .inr (List.mem_of_mem_drop h)
 ·intro h;simp only[List.mem_append,List.mem_singleton];rcases h with h | h
  ·exact .inl (.inr h)
  ·rw[<-List.take_append_drop (posR key out i out.length) out,List.mem_append] at h;rcases h with h | h
   ·exact .inl (.inl h)
   ·exact .inr h
theorem orderR_lt(key:Nat->Int):∀n,∀x∈zz key n,x<n
 | 0,x,h=>by simp[zz] at h
 | n+1,x,h=>by
  rw[zz,insR_mem] at h;rcases h with rfl | h
  ·omega
  ·have:=orderR_lt key n x h;omega
theorem l74_1(s:Si)(sec:Int)(h0:0<=sec)(h7:sec<=7)(hl:s.tb.length<=64)(hok:∀t∈s.tb,okPt t.at')(out:List Nat)(i:Nat)(hi:i<s.tb.length)(ho:∀x∈out,x<s.tb.length)(hlen:out.length=i) :
  ∀a,a<=out.length->L74_1b sec (out.map eN) i a s.name s.least (s.tb.map eTb) =
   zBC sec ((out.take (posR (keyS s sec) out i a)++[i]++out.drop (posR (keyS s sec) out i a)).map eN) ((i+1:Nat):Int) s.name s.least (s.tb.map eTb):=by
 intro a;induction a with
 | zero =>
  intro _;rw[L74_1b_eq];simp only[zG];have e:(2 * (1+out.length)+200) * 8<=281474976710656:=by omega
  simp[posR,wr ((i:Int)+1) (by omega),e]
  rw[List.take_of_length_le (by simp)]
 | succ a ih =>
  intro ha;have ha':a<out.length:=by omega
  have hx:out[a]<s.tb.length:=ho _ (List.getElem_mem ha');have hkx:keyS s sec out[a]=Jo s.tb[out[a]].at' (zO sec):=by simp[keyS,hx]
  have hki:keyS s sec i=Jo s.tb[i].at' (zO sec):=by simp[keyS,hi]
  obtain⟨x1,x2,x3,x4⟩:=hok _ (List.getElem_mem hx);obtain⟨y1,y2,y3,y4⟩:=hok _ (List.getElem_mem hi);have cx:=c195 s.tb[out[a]].at' sec h0 h7 1000 (by omega) x1 x2 x3 x4
  have cy:=c195 s.tb[i].at' sec h0 h7 1000 (by omega) y1 y2 y3 y4
  have hgd:out.getD a 0=out[a]:=by simp[ha']
  have e1:((a+1:Nat):Int) - 1=(a:Int):=by omega
  have e2:(a:Int)<out.length:=by omega
  have e3:(out[a]:Int)<s.tb.length:=by omega
  have e4:(i:Int)<s.tb.length:=by omega
  have e5:((a+1:Nat):Int)>0:=by omega
  rw[L74_1b_eq];simp only[zG];unfold posR;rw[hgd,hkx,hki];by_cases hg:Jo s.tb[out[a]].at' (zO sec)>Jo s.tb[i].at' (zO sec)
  ·rw[if_pos hg,<-ih (by omega)]
   rw[e1,wr (a:Int) (by omega)]
   simp only[e5,if_true];simp[e2,e3,e4,ha',hx,hi,zI _ out a ha',zI _ s.tb _ hx,zI _ s.tb i hi,cx,cy,hg]
  ·rw[if_neg hg];have e6:(2 * min (a+1) out.length+200) * 8<=281474976710656:=by omega
   have e7:(2 * (min (a+1) out.length+1)+200) * 8<=281474976710656:=by omega
   rw[e1,wr (a:Int) (by omega)]
   simp only[e5,if_true];simp[e2,e3,e4,ha',hx,hi,zI _ out a ha',zI _ s.tb _ hx,zI _ s.tb i hi,cx,cy,hg];have f1:(0:Int)<=(a:Int)+1:=by omega
   have f2:a+1<=out.length:=by omega
   have f3:a+1+(out.length - (a+1))<=out.length:=by omega
   have f4:(2 * (min (a+1) out.length+1+(out.length - (a+1)))+200) * 8<=281474976710656:=by omega
   have f5:(List.take (a+1) (List.map eN out)).isEmpty=false:=by
    cases hh:List.map eN out with
    | nil=>simp at hh;subst hh;simp at ha'
    | cons=>simp
   have f6:List.take (out.length - (a+1)) (List.drop (a+1) (List.map eN out))=List.drop (a+1) (List.map eN out):=List.take_of_length_le (by simp)
   simp only[f1,f2,f3,f4,e6,e7,f5,f6,if_true,za,wr ((i:Int)+1) (by omega)]
theorem l74_0(s:Si)(sec:Int)(h0:0<=sec)(h7:sec<=7)(hl:s.tb.length<=64)(hok:∀t∈s.tb,okPt t.at') :
  ∀i,i<=s.tb.length->zBC sec ((zz (keyS s sec) i).map eN) i s.name s.least (s.tb.map eTb)=some (.val (.sl 1 ((zz (keyS s sec) s.tb.length).map eN))):=by
 apply down
 ·rw[L74_0b_eq];simp;exact List.take_of_length_le (by simp)
 ·intro i hi ih;have e1:(i:Int)<s.tb.length:=by omega
  have hlen:=zBJ (keyS s sec) i;have h:=l74_1 s sec h0 h7 hl hok (zz (keyS s sec) i) i hi (λx hx=>by have:=orderR_lt _ _ x hx;omega) hlen (zz (keyS s sec) i).length (Nat.le_refl _)
  rw[L74_0b_eq];simp only[zG];simp only[e1,if_true,List.length_map];rw[h];rw[zz,insR] at ih;exact ih
theorem c74(s:Si)(sec:Int)(h0:0<=sec)(h7:sec<=7)(hl:s.tb.length<=64)(hok:∀t∈s.tb,okPt t.at'):zA 74 [eSi s,eI sec]=some (.val (.sl 1 ((zz (keyS s sec) s.tb.length).map eN))):=by
 rw[C74];simp;rw[L74_0a_eq];simp only[zG];by_cases h:s.tb=[]
 ·simp[h,zz]
 ·have hp:0<s.tb.length:=List.length_pos_iff.2 h;have h1:=l74_0 s sec h0 h7 hl hok 1 (by omega)
  have e:zz (keyS s sec) 1=[0]:=by simp[zz,insR,posR]
  rw[e] at h1;simp[hp,L74_1a_eq];exact h1
end Go.Am
namespace Go.Am
open Go.Proofs
open Go
variable[OO]
theorem shortS_len{s:Si}{n:Int}(h:shortS s n=true):(s.tb.length:Int)<=n\/s.tb.length=65:=by
 unfold shortS at h;split at h
 ·cases h
 ·split at h
  ·cases h
  ·omega
theorem short33_le{n:Nat}(h:short33 n=true):n<=33:=by simp[short33] at h;omega
theorem map_eN(l:List Nat):l.map eN=(l.map (Nat.cast:Nat->Int)).map eI:=by rw[List.map_map];rfl
theorem f18a(n o e1 d e2 e3:Int)(l:List Int)(three two deficit:Int)(order:List Int)(w:Wk)(h1:w.d.length<=1000000)(h2:w.w.length<=1000000)(hl:l.length<=1000000)(hn:numB d e2 two deficit=true)(ho:listB l e3 three order=true) :
  L9_1018a n o e1 d e2 (l.map eI) e3 three e1 two n o deficit (order.map eI) w.rule (w.d.map eI) (w.w.map eI)=some (.val (.bool true)):=by
 rw[L9_1018a_eq];simp only[zw];simp[c42,hn,c41 _ _ _ _ hl,ho,c67 w h1 h2,c75,c71]
theorem f18b(n o e1 d e2 e3:Int)(l:List Int)(three two deficit:Int)(w:Wk)(h1:w.d.length<=1000000)(h2:w.w.length<=1000000)(hl:l.length<=1000000)(hn:numB d e2 two deficit=true)(ho:listB l e3 three []=true) :
  L9_1018b n o e1 d e2 (l.map eI) e3 three e1 two n o deficit w.rule (w.d.map eI) (w.w.map eI)=some (.val (.bool true)):=by
 have hc:=c41 l [] e3 three hl;simp only[List.map_nil] at hc;rw[L9_1018b_eq];simp only[zw];simp[c42,hn,hc,ho,c67 w h1 h2,c75,c71]
theorem order_len(s:Si)(n:Int):(ji s n).1.length<=s.tb.length:=by
 unfold ji;split
 ·split
  ·simp[zBJ]
  ·simp
 ·simp
theorem f16(s:Si)(w:Wk)(sec i j sp n o e1 d e2 two deficit:Int)(hs:s.tb.length<=1000)(h1:w.d.length<=1000000)(h2:w.w.length<=1000000)(hn:numB d e2 two deficit=true) :
  L9_1016a n o e1 d e2 ((ji s sec).1.map eN) (ji s sec).2 (zL [z8 s,zV sec 0 7]) e1 two n o deficit s.name s.least (s.tb.map eTb) w.rule (w.d.map eI) (w.w.map eI) sec i j sp=some (.val (.bool true)):=by
 have hol:=order_len s sec;rw[L9_1016a_eq];simp only[zw];rw[map_eN];by_cases h:zL [z8 s,zV sec 0 7]=0
 ·rw[if_pos h];obtain⟨he,hr⟩:=zy h;obtain⟨hr,_⟩:=zy hr;obtain⟨hok,_,_,_,hl⟩:=Jq he;have rr:=Yg hr;rw[c74 s sec rr.1 rr.2 hl λt ht=>(hok t ht).1]
  simp only[zH,h25,zB,zQ];rw[map_eN];refine f18a n o e1 d e2 _ _ _ two deficit _ w h1 h2 (by simp;omega) hn ?_
  simp[ji,he,hr,listB,zL]
 ·rw[if_neg h];refine f18b n o e1 d e2 _ _ _ two deficit w h1 h2 (by simp;omega) hn ?_
  unfold ji;by_cases he:z8 s=0
  ·have hr:zV sec 0 7≠0:=λhr=>h (by simp[zL,he,hr])
   simp[he,hr,listB,zL]
  ·simp[he,listB,zL]
theorem f14(s:Si)(w:Wk)(sec i j sp n o e1:Int)(hs:s.tb.length<=1000)(h1:w.d.length<=1000)(h2:w.w.length<=1000) :
  L9_1014a n o e1 (if zL [wakeE w,zV i (-999999999) 999999999,zV j (-999999999) 999999999]=0 then defI w.d w.w i j else 0) (zL [wakeE w,zV i (-999999999) 999999999,zV j (-999999999) 999999999])
   ((ji s sec).1.map eN) (ji s sec).2 (zL [z8 s,zV sec 0 7]) e1 (zL [wakeE w,zV i (-999999999) 999999999,zV j (-999999999) 999999999]) n o s.name s.least (s.tb.map eTb) w.rule (w.d.map eI) (w.w.map eI) sec i j sp=some (.val (.bool true)):=by
 rw[L9_1014a_eq];simp only[zw];by_cases h:zL [wakeE w,zV i (-999999999) 999999999,zV j (-999999999) 999999999]=0
 ·have hw:wakeE w=0:=(zy h).1;have hf:wakeH w=0:=by unfold wakeE at hw;split at hw <;> assumption
  obtain⟨_,_,h3',h4⟩:=wakeH_facts hf;rw[if_pos h,if_pos h,c73 w i j h4 (by omega)]
  simp only[zH,h3,zB,zF];exact f16 s w sec i j sp n o e1 _ _ _ _ hs (by omega) (by omega) (by simp[numB,h])
 ·rw[if_neg h,if_neg h];exact f16 s w sec i j sp n o e1 _ _ _ _ hs (by omega) (by omega) (by simp[numB,h])
def oneH(s:Si)(sec i j:Int):Int:=zL [zL [z8 s,zV sec 0 7],idxE s.tb.length i,idxE s.tb.length j]
theorem f09(s:Si)(w:Wk)(sec i j sp:Int)(hs:s.tb.length<=1000)(h1:w.d.length<=1000)(h2:w.w.length<=1000) :
  zAc (relA s sec i j).1 (relA s sec i j).2.1 (relA s sec i j).2.2 (if zL [wakeE w,zV i (-999999999) 999999999,zV j (-999999999) 999999999]=0 then defI w.d w.w i j else 0) (zL [wakeE w,zV i (-999999999) 999999999,zV j (-999999999) 999999999])
   ((ji s sec).1.map eN) (ji s sec).2 (zL [z8 s,zV sec 0 7]) (relA s sec i j).2.2 s.name s.least (s.tb.map eTb) w.rule (w.d.map eI) (w.w.map eI) sec i j sp=some (.val (.bool true)):=by
 have key:=λn o=>f14 s w sec i j sp n o (relA s sec i j).2.2 hs h1 h2
 rw[L9_1009a_eq,c71 w];simp only[zw,zG];simp only[zH,h3,zB,c37,zF,c35_3];by_cases h:(relA s sec i j).2.2=0
 ·rw[if_pos h];have he:z8 s=0:=by
   unfold relA at h;by_cases he:z8 s=0
   ·exact he
   ·simp[he] at h
  have hh:relH s sec i j=0:=by
   unfold relA at h;by_cases hh:relH s sec i j=0
   ·exact hh
   ·simp[he,hh] at h
  obtain⟨hok,_,_,_,hl⟩:=Jq he;have hh':=hh;unfold relH at hh';simp only[J5] at hh';obtain⟨g1,g2,g3,g4,_⟩:=hh';have r1:=Yg g1;obtain⟨i0,i1⟩:=idx_ok g2;obtain⟨j0,j1⟩:=idx_ok g3;obtain⟨a,rfl⟩:∃a:Nat,i=a:=⟨i.toNat,by omega⟩
  obtain⟨b,rfl⟩:∃b:Nat,j=b:=⟨j.toNat,by omega⟩
  have ha:a<s.tb.length:=by omega
  have hb:b<s.tb.length:=by omega
  have hc:=c72 s.tb[a].at' s.tb[b].at' sec r1.1 r1.2 (hok s.tb[a] (List.getElem_mem ha)).1 (hok s.tb[b] (List.getElem_mem hb)).1;have ea:(0:Int)<=(a:Int)/\(a:Int)<((s.tb.map eTb).length:Int):=by simp;exact ha
  have eb:(0:Int)<=(b:Int)/\(b:Int)<((s.tb.map eTb).length:Int):=by simp;exact hb
  rw[if_pos ea,if_pos eb];simp only[Int.toNat_natCast,zI _ s.tb a ha,zI _ s.tb b hb,isAg_agg,zR,zW,zS,h141,zF,List.length_cons,List.length_nil,hc,zH,jA,jI,zK,zM,h3,Bool.and_self,zB,zG];have e1:(relA s sec a b).1=(relP sec (zO sec) s.tb[a].at' s.tb[b].at').1:=by unfold relA;rw[if_pos he,if_pos hh,zAt s a ha,zAt s b hb]
  have e2:(relA s sec a b).2.1=(relP sec (zO sec) s.tb[a].at' s.tb[b].at').2:=by unfold relA;rw[if_pos he,if_pos hh,zAt s a ha,zAt s b hb]
  rw[e1,e2];exact key _ _
 ·rw[if_neg h];have e1:(relA s sec i j).1=0/\(relA s sec i j).2.1=0:=by
   unfold relA at h ⊢;by_cases he:z8 s=0
   ·by_cases hh:relH s sec i j=0
    ·simp[he,hh] at h
    ·simp[he,hh]
   ·simp[he]
  rw[e1.1,e1.2];exact key 0 0
theorem one_eq(s:Si)(sec i j:Int):(relA s sec i j).2.2=if oneH s sec i j=0 then (if i=j then 9 else 0) else oneH s sec i j:=by
 unfold relA oneH relH;by_cases he:z8 s=0
 ·by_cases hr:zV sec 0 7=0
  ·by_cases hi:idxE s.tb.length i=0
   ·by_cases hj:idxE s.tb.length j=0
    ·by_cases hij:i=j
     ·simp[he,hr,hi,hj,hij,zL]
     ·simp[he,hr,hi,hj,hij,zL]
    ·simp[he,hr,hi,hj,zL]
   ·simp[he,hr,hi,zL]
  ·simp[he,hr,zL]
 ·simp[he,zL]
set_option maxHeartbeats 4000000 in
theorem law9(h68:∀(s:Si) (n:Int),zA 68 [eSi s,eI n]=some (.val (.tup [.sl 1 ((ji s n).1.map eN),eI (ji s n).2])))(s:Si)(w:Wk)(sec i j sp:Int)(haw:zA 33 []=some (.val (.bool true))) :
  zA 9 [eSi s,eWk w,.agg 5 [eI sec,eI i,eI j,eI sp]]=some (.val (.bool true)):=by
 rw[C9];simp only[zw];simp only[haw,zH,zK,zM,h24,h27,h72,h4,Bool.and_self,zB,zi,Bool.not_true,za,zR,zS,zW,zb,ze,zX,zF,zQ];rw[c62 s 8 (by omega)]
 cases hS:shortS s 8 with
 | false=>simp only[zH,h4,zB,zi,Bool.not_false]
 | true =>
  simp only[zH,h4,zB,zi,Bool.not_true,za];rw[c63 w];cases hW:shortW w with
  | false=>simp only[zH,h4,zB,zi,Bool.not_false]
  | true =>
   simp only[zH,h4,zB,zi,Bool.not_true,za];have hl:=shortS_len hS;have hw:w.d.length<=33/\w.w.length<=33:=by simp only[shortW,Bool.and_eq_true] at hW;exact⟨short33_le hW.1.2,short33_le hW.2⟩
   simp only[c65 s (by omega),zH,h58,zB,zR,zS,zW,zb,zX,zF,zQ,c64,jA,jI,zK,zM,h3,h46,Bool.and_self]
   simp only[c67 w (by omega) (by omega),zH,h59,zB,zR,zS,zW,zb,zX,zF,zQ,c66,jA,jI,zK,zM,h3,h46,Bool.and_self]
   simp only[h68,c69,c36,c35_2,c70,c35_3,zH,h25,zB,zR,zS,zW,zb,zX,zF,zQ,jA,jI,zK,zM,h3,h46,Bool.and_self];have key:=f09 s w sec i j sp (by omega) (by omega) (by omega)
   have h1:=one_eq s sec i j;show(if oneH s sec i j=0 then _ else _)=_
   by_cases h0:oneH s sec i j=0
   ·rw[if_pos h0];rw[if_pos h0] at h1;by_cases hij:i=j
    ·rw[if_pos hij] at h1;refine(if_pos hij).trans ?_;rw[h1] at key ⊢;exact key
    ·rw[if_neg hij] at h1;refine(if_neg hij).trans ?_;have:zL [zL [z8 s,zV sec 0 7],idxE s.tb.length i,idxE s.tb.length j]=(relA s sec i j).2.2:=by rw[h1];exact h0
     rw[this];exact key
   ·rw[if_neg h0];rw[if_neg h0] at h1;have:zL [zL [z8 s,zV sec 0 7],idxE s.tb.length i,idxE s.tb.length j]=(relA s sec i j).2.2:=by rw[h1];rfl
    rw[this];exact key
end Go.Am
