/- WakeImproves: for every input the law returns true, and each argument reads afterwards as it read before. Part 1. -/
import Derived.Below
import Derived.Carry
import Derived.ChangeArms
import Derived.ChangeSame
import Derived.DataReads
import Derived.Deep.OwnRows
import Derived.Deep.RegionLaw
import Derived.Deep.RegionWith
import Derived.DeepKeys
import Derived.Ground.Names2Prog
import Derived.Ground.NamesProg
import Derived.Ground.SlgnProg
import Derived.Ground.SlsfProg
import Derived.IntWalk
import Derived.KernelRfl
import Derived.LaidMore
import Derived.Laws.AppendOwn
import Derived.Laws.CopyRow
import Derived.Laws.OwnMore
import Derived.Laws.RangeAny
import Derived.Lib.AppendIntMem
import Derived.Lib.ItoaLen
import Derived.Lib.ItoaNum
import Derived.Lib.Join
import Derived.LoopIn
import Derived.LoopN
import Derived.LoopNIn
import Derived.LoopTactic
import Derived.MapKept
import Derived.Maps.Ext
import Derived.Maps.OwnSet
import Derived.Maps.RangeWalk
import Derived.OpenShut
import Derived.Orders
import Derived.OrdersIn
import Derived.OwnWalkIn
import Derived.ProofKit
import Derived.RangeFuncBound
import Derived.RangeFuncCalls
import Derived.RangeFuncLeaves
import Derived.RangeFuncNested
import Derived.Scope
import Derived.SevenTiedAt
import Derived.Shelf.Abstract
import Derived.Shelf.LaysM
import Derived.Shelf.SlSortCmp.NoneTotal
import Derived.Shelf.Slices.Clone
import Derived.Shelf.Slices.In.SortNone
import Derived.Shelf.Slices.SearchI
import Derived.Shelf.SlicesE.Clone
import Derived.Shelf.Small.Bits
import Derived.Shelf.Sort.Plain
import Derived.Shelf.Strconv.Itoa0
import Derived.Shelf.Strconv.Itoa1
import Derived.Shelf.Strconv.Itoa2
import Derived.Shelf.Strconv.Itoa3
import Derived.Shelf.Strings.Builder1
import Derived.Shelf.Strings.Builder2
import Derived.Shelf.Strings.Count
import Derived.Shelf.Strings.Cut
import Derived.Shelf.Strings.Explode
import Derived.Shelf.Strings.OnBuilder
import Derived.Shelf.Strings.RuneCount
import Derived.Shelf.Strings.Search1
import Derived.Shelf.Strings.Search2
import Derived.Shelf.Strings.Search3
import Derived.Shelf.Strings.Shaped
import Derived.Shelf.Strings.Split
import Derived.Shelf.Strings.SplitShaped
import Derived.Shelf.Unicode.Decode
import Derived.Shelf.Unicode.DecodeAny
import Derived.Shelf.Unicode.DecodeSlow
import Derived.Shelf.Utf8.RuneCount
import Derived.Sort.LotA
import Derived.Stop.Joined
import Derived.Tactics
import Derived.Tactics2
import Derived.TacticsInMore
import Derived.Test.YtojkhldombndpaaGreatDoorCards
import Derived.Test.YtojkhldombndpaaGreatDoorProg
import Derived.Test.YtojkhldombndpaaGreatDoorRows
import Derived.Test.YtojkhldombndpaaGreatDoorTie
import Derived.WalkKit
import Derived.WideShapes
import Derived.Test.YtojkhldombndpaaGreatDoorD6
set_option linter.all false
open List renaming length->Aa,length_map->Ad,replicate->Ae,take_succ_eq_append_getElem->Ah,take_of_length_le->Ai,drop_zero->Ak,getElem_mem->Al,range->Ap,take->Aq,getD_eq_getElem?_getD->Ar,drop->As,getElem?_eq_getElem->At,set->Ax,length_pos_iff->AA,append_assoc->AC,length_cons->AE,getElem_map->AF,drop_length->AG,map_set->AI,isEmpty->AJ,drop_of_length_le->AK,nil_append->AL,set_append_right->AM,replicate_succ->AO,set_cons_zero->AP,map_replicate->AQ,take_length->AT,length_take->AU,map_append->AW,drop_eq_getElem_cons->AX,map_cons->AY,mem_map->A0,length_append->A7,getElem_range->A8,getElem_take->Bb,flatten_cons->Bc,mem_append->Bf,length_set->Bg,foldl_cons->Bh,append_nil->Bi,map->Bj,foldl_nil->Bk
open Int renaming toNat->Ab,toNat_natCast->Af,lt_irrefl->An,tdiv->Au,tdiv_eq_ediv_of_nonneg->AB,natCast_zero->AH,mul_nonneg->AN,add_assoc->AR,zero_add->A3,add_zero->A4,tmod->A5,le_refl->A6,natCast_nonneg->Bd,natCast_one->Bl,natCast_add->Bm,lt_or_le->Bq
open Go.IntKind renaming wrap->Ac,i64->Ay
open Bool renaming and_self->Ag,not_true->AD,false_or->AZ,false_eq_true->A9,true_or->Bo
open Nat renaming zero_le->Aj,zero_add->Av,le_refl->Aw,add_sub_cancel->Ba,min_self->Bp
open ByteArray renaming toList->Ao,size->AS
open Min renaming min->Az
open Go.Proofs.SlLaysE0 renaming n41->Be
open Option renaming getD->Bn
open Go.RowKit.Below renaming refl->Br
open Option.some renaming inj->Bs
namespace Go.Am
open Go.Proofs
open Go
@[simp] theorem h24(a1:ByteArray)(a2:Int)(a3:List DV):zF EE 6 24 (.agg 0 [(.str a1),(.int .i64 a2),(.sl 3 a3)])=true:=by kernel_rfl
@[simp] theorem h27(a1:ByteArray)(a2:List DV)(a3:List DV):zF EE 6 27 (.agg 0 [(.str a1),(.sl 1 a2),(.sl 1 a3)])=true:=by kernel_rfl
@[simp] theorem h29(a1:List DV)(a2:Int):zF EE 6 29 (.agg 1 [(.sl 1 a1),(.int .i64 a2)])=true:=by kernel_rfl
@[simp] theorem h32(a1:List DV):zF EE 6 32 (.agg 3 a1)=decide (a1.length=8):=by kernel_rfl
@[simp] theorem h34(a1:ByteArray)(a2:Int)(a3:List DV)(a4:ByteArray)(a5:List DV)(a6:List DV)(a7:List DV)(a8:Int)(a9:List DV):zF EE 6 34 (.agg 4 [(.agg 0 [(.str a1),(.int .i64 a2),(.sl 3 a3)]),(.agg 0 [(.str a4),(.sl 1 a5),(.sl 1 a6)]),(.agg 1 [(.sl 1 a7),(.int .i64 a8)]),(.agg 3 a9)])=(decide (a9.length=8) && true):=by kernel_rfl
@[simp] theorem h143(a1:ByteArray)(a2:Int)(a3:Int):zF EE 6 143 (.agg 9 [(.str a1),(.agg 1 [(.int .i64 a2),(.int .i64 a3)])])=true:=by kernel_rfl
@[simp] theorem h276(a1:FuncId)(a2:List DV)(a3:List DV):zF EE 6 276 (.fn a1 a2 a3)=true:=by kernel_rfl
end Go.Am
namespace Go.Am
open Go.Proofs
open Go
variable[OO]
def S156_0a(v0 v1:List DV)(v2:Int)(v3:ByteArray)(v4:Int)(v5:List DV)(v6:ByteArray)(v7 v8 v9:List DV)(v10:Int)(v11 v12:List DV):St :=
 zr 49 [(4,(.ptr 4 416 0 [])),(9,(.own 16 0 (Aa v0) 1)),(10,(.d (.sl 1 v1))),(11,(.d (eI v2)))] [(4,(.mk false (.dc 416 [(.agg 4 [(.agg 0 [(.str v3),(eI v4),(.sl 3 v5)]),(.agg 0 [(.str v6),(.sl 1 v7),(.sl 1 v8)]),(.agg 1 [(.sl 1 v9),(eI v10)]),(.agg 3 v11)])]))),(16,(.mk false (.dc 1 v12)))]
noncomputable def L156_0a(v0 v1:List DV)(v2:Int)(v3:ByteArray)(v4:Int)(v5:List DV)(v6:ByteArray)(v7 v8 v9:List DV)(v10:Int)(v11 v12:List DV):Option CR:=goQ 156 0 (S156_0a v0 v1 v2 v3 v4 v5 v6 v7 v8 v9 v10 v11 v12)
theorem L156_0a_eq(v0 v1:List DV)(v2:Int)(v3:ByteArray)(v4:Int)(v5:List DV)(v6:ByteArray)(v7 v8 v9:List DV)(v10:Int)(v11 v12:List DV):L156_0a v0 v1 v2 v3 v4 v5 v6 v7 v8 v9 v10 v11 v12 =
 ifO (decide (v2<(((Aa v1):Nat):Int)))
 (ifO (decide (((0:Int)<=v2)/\(v2<(((Aa v1):Nat):Int))))
 (ifO (zF EE 6 3 (nth v1 (Ab v2)))
 (zH (zB 111 [(.agg 1 [(.sl 1 v9),(eI v10)]),(eI (zC (nth v1 (Ab v2))))])
 (λr3=>ifO (zF EE 6 3 r3)
 (ifO (decide (((0:Int)<=v2)/\(v2<(((Aa v0):Nat):Int))))
 (ifO (decide ((0+(Ab v2))<(Aa v12)))
 ((L156_0a v0 v1 (Ac .i64 (v2+(1:Int))) v3 v4 v5 v6 v7 v8 v9 v10 v11 (Ax v12 (0+(Ab v2)) (eI (zC r3)))))
 (none))
 (none))
 (none))
 (λ_ _=>none))
 (none))
 (none))
 (ifO (decide ((0+(Aa v0))<=(Aa v12)))
 (some (.val (.sl 1 (Aq (Aa v0) (As 0 v12)))))
 (none)) :=
 (zb 156 0 _).trans (by kernel_rfl)
theorem C156(x0 x1 x2 x3:DV):zB 156 [x0,x1,x2,x3] =
 ifO (zV (zF EE 6) [34,3,3,3] [x0,x1,x2,x3])
 (ifO (decide (((0:Int)<=(((Aa (elems (nth (flds (nth (flds x0) 0)) 2))):Nat):Int))/\(((((Aa (elems (nth (flds (nth (flds x0) 0)) 2))):Nat):Int)=(((Aa (elems (nth (flds (nth (flds x0) 0)) 2))):Nat):Int))/\((((8:Int) * (((Aa (elems (nth (flds (nth (flds x0) 0)) 2))):Nat):Int))<=(281474976710656:Int))/\((((Aa (elems (nth (flds (nth (flds x0) 0)) 2))):Nat):Int)<=(9223372036854775807:Int))))))
 (ifO (decide ((zC x2)>=(zC (nth (flds (nth (flds x0) 2)) 1))))
 (ifO (decide ((0+(Aa (α:=DV) (Ae (Ab (((Aa (elems (nth (flds (nth (flds x0) 0)) 2))):Nat):Int)) (eI 0))))<=(Aa (α:=DV) (Ae (Ab (((Aa (elems (nth (flds (nth (flds x0) 0)) 2))):Nat):Int)) (eI 0)))))
 (some (.val (.sl 1 (Aq (Aa (α:=DV) (Ae (Ab (((Aa (elems (nth (flds (nth (flds x0) 0)) 2))):Nat):Int)) (eI 0))) (As 0 (Ae (Ab (((Aa (elems (nth (flds (nth (flds x0) 0)) 2))):Nat):Int)) (eI 0)))))))
 (none))
 (zH (zB 81 [(.agg 0 [(.str (zX (nth (flds (nth (flds x0) 0)) 0))),(eI (zC (nth (flds (nth (flds x0) 0)) 1))),(.sl 3 (elems (nth (flds (nth (flds x0) 0)) 2)))]),(.agg 0 [(.str (zX (nth (flds (nth (flds x0) 1)) 0))),(.sl 1 (elems (nth (flds (nth (flds x0) 1)) 1))),(.sl 1 (elems (nth (flds (nth (flds x0) 1)) 2)))]),(eI (zC x1)),(eI (Ac .i64 ((zC x2)+(zC x3))))])
 (λr0=>ifO (zF EE 6 25 r0)
 ((L156_0a (Ae (Ab (((Aa (elems (nth (flds (nth (flds x0) 0)) 2))):Nat):Int)) (eI 0)) (elems r0) (0:Int) (zX (nth (flds (nth (flds x0) 0)) 0)) (zC (nth (flds (nth (flds x0) 0)) 1)) (elems (nth (flds (nth (flds x0) 0)) 2)) (zX (nth (flds (nth (flds x0) 1)) 0)) (elems (nth (flds (nth (flds x0) 1)) 1)) (elems (nth (flds (nth (flds x0) 1)) 2)) (elems (nth (flds (nth (flds x0) 2)) 0)) (zC (nth (flds (nth (flds x0) 2)) 1)) (flds (nth (flds x0) 3)) (Ae (Ab (((Aa (elems (nth (flds (nth (flds x0) 0)) 2))):Nat):Int)) (eI 0))))
 (none))
 (λ_ _=>none)))
 (none))
 (none) :=
 (zM (f:=156) (by kernel_rfl) (by kernel_rfl) (by kernel_rfl) [x0,x1,x2,x3]).trans (by kernel_rfl)
def S157_0a(v0 v1 v2:Int)(v3:ByteArray)(v4:Int)(v5:List DV)(v6:ByteArray)(v7 v8 v9:List DV)(v10:Int)(v11:List DV):St :=
 zr 39 [(1,(.d (eI v0))),(2,(.ptr 2 416 0 [])),(5,(.d (eI v1))),(6,(.d (eI v2)))] [(2,(.mk false (.dc 416 [(.agg 4 [(.agg 0 [(.str v3),(eI v4),(.sl 3 v5)]),(.agg 0 [(.str v6),(.sl 1 v7),(.sl 1 v8)]),(.agg 1 [(.sl 1 v9),(eI v10)]),(.agg 3 v11)])])))]
noncomputable def L157_0a(v0 v1 v2:Int)(v3:ByteArray)(v4:Int)(v5:List DV)(v6:ByteArray)(v7 v8 v9:List DV)(v10:Int)(v11:List DV):Option CR:=goQ 157 0 (S157_0a v0 v1 v2 v3 v4 v5 v6 v7 v8 v9 v10 v11)
def S157_1a(v0 v1 v2 v3:Int)(v4:ByteArray)(v5:Int)(v6:List DV)(v7:ByteArray)(v8 v9 v10:List DV)(v11:Int)(v12:List DV):St :=
 zr 39 [(1,(.d (eI v0))),(2,(.ptr 2 416 0 [])),(5,(.d (eI v1))),(6,(.d (eI v2))),(7,(.d (eI v3)))] [(2,(.mk false (.dc 416 [(.agg 4 [(.agg 0 [(.str v4),(eI v5),(.sl 3 v6)]),(.agg 0 [(.str v7),(.sl 1 v8),(.sl 1 v9)]),(.agg 1 [(.sl 1 v10),(eI v11)]),(.agg 3 v12)])])))]
noncomputable def L157_1a(v0 v1 v2 v3:Int)(v4:ByteArray)(v5:Int)(v6:List DV)(v7:ByteArray)(v8 v9 v10:List DV)(v11:Int)(v12:List DV):Option CR:=goQ 157 1 (S157_1a v0 v1 v2 v3 v4 v5 v6 v7 v8 v9 v10 v11 v12)
theorem L157_0a_eq(v0 v1 v2:Int)(v3:ByteArray)(v4:Int)(v5:List DV)(v6:ByteArray)(v7 v8 v9:List DV)(v10:Int)(v11:List DV):L157_0a v0 v1 v2 v3 v4 v5 v6 v7 v8 v9 v10 v11 =
 ifO (decide (v2<(8:Int)))
 ((L157_1a v0 v1 v2 (0:Int) v3 v4 v5 v6 v7 v8 v9 v10 v11))
 (some (.val (eI v1))) :=
 (zb 157 0 _).trans (by kernel_rfl)
theorem L157_1a_eq(v0 v1 v2 v3:Int)(v4:ByteArray)(v5:Int)(v6:List DV)(v7:ByteArray)(v8 v9 v10:List DV)(v11:Int)(v12:List DV):L157_1a v0 v1 v2 v3 v4 v5 v6 v7 v8 v9 v10 v11 v12 =
 ifO (decide (v3<=(50:Int)))
 (ifO (decide (((0:Int)<=v2)/\(v2<(8:Int))))
 (ifO (decide (((0:Int)<=v3)/\(v3<(51:Int))))
 (ifO (jK 3 (Ab v2) (.agg 3 v12))
 (ifO (jK 2 (Ab v3) (nth v12 (Ab v2)))
 (ifO (zF EE 6 3 (nth (flds (nth v12 (Ab v2))) (Ab v3)))
 (ifO (decide ((zC (nth (flds (nth v12 (Ab v2))) (Ab v3)))>(0:Int)))
 (ifO (decide (((0:Int)<=v2)/\(v2<(8:Int))))
 (ifO (decide (((0:Int)<=v3)/\(v3<(51:Int))))
 (ifO (jK 3 (Ab v2) (.agg 3 v12))
 (ifO (jK 2 (Ab v3) (nth v12 (Ab v2)))
 (ifO (zF EE 6 3 (nth (flds (nth v12 (Ab v2))) (Ab v3)))
 (zH (zB 156 [(.agg 4 [(.agg 0 [(.str v4),(eI v5),(.sl 3 v6)]),(.agg 0 [(.str v7),(.sl 1 v8),(.sl 1 v9)]),(.agg 1 [(.sl 1 v10),(eI v11)]),(.agg 3 v12)]),(eI v2),(eI v3),(eI v0)])
 (λr0=>ifO (zF EE 6 25 r0)
 (zH (zB 238 [(.sl 1 (elems r0))])
 (λr1=>ifO (zF EE 6 3 r1)
 ((L157_1a v0 (Ac .i64 (v1+(Ac .i64 ((zC (nth (flds (nth v12 (Ab v2))) (Ab v3))) * (zC r1))))) v2 (Ac .i64 (v3+(1:Int))) v4 v5 v6 v7 v8 v9 v10 v11 v12))
 (none))
 (λ_ _=>none))
 (none))
 (λ_ _=>none))
 (none))
 (none))
 (none))
 (none))
 (none))
 ((L157_1a v0 v1 v2 (Ac .i64 (v3+(1:Int))) v4 v5 v6 v7 v8 v9 v10 v11 v12)))
 (none))
 (none))
 (none))
 (none))
 (none))
 ((L157_0a v0 v1 (Ac .i64 (v2+(1:Int))) v4 v5 v6 v7 v8 v9 v10 v11 v12)) :=
 (zb 157 1 _).trans (by kernel_rfl)
theorem C157(x0 x1:DV):zB 157 [x0,x1] =
 ifO (zV (zF EE 6) [34,3] [x0,x1])
 ((L157_0a (zC x1) (0:Int) (0:Int) (zX (nth (flds (nth (flds x0) 0)) 0)) (zC (nth (flds (nth (flds x0) 0)) 1)) (elems (nth (flds (nth (flds x0) 0)) 2)) (zX (nth (flds (nth (flds x0) 1)) 0)) (elems (nth (flds (nth (flds x0) 1)) 1)) (elems (nth (flds (nth (flds x0) 1)) 2)) (elems (nth (flds (nth (flds x0) 2)) 0)) (zC (nth (flds (nth (flds x0) 2)) 1)) (flds (nth (flds x0) 3))))
 (none) :=
 (zM (f:=157) (by kernel_rfl) (by kernel_rfl) (by kernel_rfl) [x0,x1]).trans (by kernel_rfl)
theorem C39(x0:DV):zB 39 [x0] =
 ifO (zV (zF EE 6) [34] [x0])
 (zH (zB 157 [(.agg 4 [(.agg 0 [(.str (zX (nth (flds (nth (flds x0) 0)) 0))),(eI (zC (nth (flds (nth (flds x0) 0)) 1))),(.sl 3 (elems (nth (flds (nth (flds x0) 0)) 2)))]),(.agg 0 [(.str (zX (nth (flds (nth (flds x0) 1)) 0))),(.sl 1 (elems (nth (flds (nth (flds x0) 1)) 1))),(.sl 1 (elems (nth (flds (nth (flds x0) 1)) 2)))]),(.agg 1 [(.sl 1 (elems (nth (flds (nth (flds x0) 2)) 0))),(eI (zC (nth (flds (nth (flds x0) 2)) 1)))]),(.agg 3 (flds (nth (flds x0) 3)))]),(eI 0)])
 (λr0=>ifO (zF EE 6 3 r0)
 (some (.val (eI (zC r0))))
 (none))
 (λ_ _=>none))
 (none) :=
 (zM (f:=39) (by kernel_rfl) (by kernel_rfl) (by kernel_rfl) [x0]).trans (by kernel_rfl)
theorem C111(x0 x1:DV):zB 111 [x0,x1] =
 ifO (zV (zF EE 6) [29,3] [x0,x1])
 (ifO (decide ((Ac .i64 (Au (zC x1) (256:Int)))>=(Ac .i64 ((((Aa (elems (nth (flds x0) 0))):Nat):Int) - (1:Int)))))
 (ifO (decide (((0:Int)<=(Ac .i64 ((((Aa (elems (nth (flds x0) 0))):Nat):Int) - (1:Int))))/\((Ac .i64 ((((Aa (elems (nth (flds x0) 0))):Nat):Int) - (1:Int)))<(((Aa (elems (nth (flds x0) 0))):Nat):Int))))
 (ifO (zF EE 6 3 (nth (elems (nth (flds x0) 0)) (Ab (Ac .i64 ((((Aa (elems (nth (flds x0) 0))):Nat):Int) - (1:Int))))))
 (some (.val (eI (Ac .i64 ((256:Int) * (zC (nth (elems (nth (flds x0) 0)) (Ab (Ac .i64 ((((Aa (elems (nth (flds x0) 0))):Nat):Int) - (1:Int)))))))))))
 (none))
 (none))
 (ifO (decide (((0:Int)<=(Ac .i64 (Au (zC x1) (256:Int))))/\((Ac .i64 (Au (zC x1) (256:Int)))<(((Aa (elems (nth (flds x0) 0))):Nat):Int))))
 (ifO (zF EE 6 3 (nth (elems (nth (flds x0) 0)) (Ab (Ac .i64 (Au (zC x1) (256:Int))))))
 (ifO (decide (((0:Int)<=(Ac .i64 ((Ac .i64 (Au (zC x1) (256:Int)))+(1:Int))))/\((Ac .i64 ((Ac .i64 (Au (zC x1) (256:Int)))+(1:Int)))<(((Aa (elems (nth (flds x0) 0))):Nat):Int))))
 (ifO (zF EE 6 3 (nth (elems (nth (flds x0) 0)) (Ab (Ac .i64 ((Ac .i64 (Au (zC x1) (256:Int)))+(1:Int))))))
 (ifO (decide (((0:Int)<=(Ac .i64 (Au (zC x1) (256:Int))))/\((Ac .i64 (Au (zC x1) (256:Int)))<(((Aa (elems (nth (flds x0) 0))):Nat):Int))))
 (ifO (zF EE 6 3 (nth (elems (nth (flds x0) 0)) (Ab (Ac .i64 (Au (zC x1) (256:Int))))))
 (some (.val (eI (Ac .i64 ((Ac .i64 ((256:Int) * (zC (nth (elems (nth (flds x0) 0)) (Ab (Ac .i64 (Au (zC x1) (256:Int))))))))+(Ac .i64 ((Ac .i64 ((zC (nth (elems (nth (flds x0) 0)) (Ab (Ac .i64 ((Ac .i64 (Au (zC x1) (256:Int)))+(1:Int)))))) - (zC (nth (elems (nth (flds x0) 0)) (Ab (Ac .i64 (Au (zC x1) (256:Int)))))))) * (Ac .i64 ((zC x1) - (Ac .i64 ((256:Int) * (Ac .i64 (Au (zC x1) (256:Int))))))))))))))
 (none))
 (none))
 (none))
 (none))
 (none))
 (none)))
 (none) :=
 (zM (f:=111) (by kernel_rfl) (by kernel_rfl) (by kernel_rfl) [x0,x1]).trans (by kernel_rfl)
def S110_0a(v0:Int)(v1:List DV)(v2:Int):St :=
 zr 60 [(1,(.ptr 1 2 0 [])),(3,(.d (eI v0)))] [(1,(.mk false (.dc 2 [(.agg 1 [(.sl 1 v1),(eI v2)])])))]
noncomputable def L110_0a(v0:Int)(v1:List DV)(v2:Int):Option CR:=goQ 110 0 (S110_0a v0 v1 v2)
theorem L110_0a_eq(v0:Int)(v1:List DV)(v2:Int):L110_0a v0 v1 v2 =
 ifO (decide (v0<(((Aa v1):Nat):Int)))
 (ifO (decide (((0:Int)<=v0)/\(v0<(((Aa v1):Nat):Int))))
 (ifO (zF EE 6 3 (nth v1 (Ab v0)))
 (zH (zB 37 [(eI (zC (nth v1 (Ab v0)))),(eI 0),(eI 100000)])
 (λr0=>ifO (zF EE 6 3 r0)
 (ifO (bne (zC r0) 0)
 (some (.val (eI (zC r0))))
 (ifO (decide (v0>(0:Int)))
 (ifO (decide (((0:Int)<=v0)/\(v0<(((Aa v1):Nat):Int))))
 (ifO (zF EE 6 3 (nth v1 (Ab v0)))
 (ifO (decide (((0:Int)<=(Ac .i64 (v0 - (1:Int))))/\((Ac .i64 (v0 - (1:Int)))<(((Aa v1):Nat):Int))))
 (ifO (zF EE 6 3 (nth v1 (Ab (Ac .i64 (v0 - (1:Int))))))
 (ifO (decide ((zC (nth v1 (Ab v0)))<(zC (nth v1 (Ab (Ac .i64 (v0 - (1:Int))))))))
 (some (.val (eI 11)))
 (ifO (v0 == (0:Int))
 (ifO (decide (((0:Int)<=v0)/\(v0<(((Aa v1):Nat):Int))))
 (ifO (zF EE 6 3 (nth v1 (Ab v0)))
 (ifO (bne (zC (nth v1 (Ab v0))) (0:Int))
 (some (.val (eI 6)))
 ((L110_0a (Ac .i64 (v0+(1:Int))) v1 v2)))
 (none))
 (none))
 ((L110_0a (Ac .i64 (v0+(1:Int))) v1 v2))))
 (none))
 (none))
 (none))
 (none))
 (ifO (v0 == (0:Int))
 (ifO (decide (((0:Int)<=v0)/\(v0<(((Aa v1):Nat):Int))))
 (ifO (zF EE 6 3 (nth v1 (Ab v0)))
 (ifO (bne (zC (nth v1 (Ab v0))) (0:Int))
 (some (.val (eI 6)))
 ((L110_0a (Ac .i64 (v0+(1:Int))) v1 v2)))
 (none))
 (none))
 ((L110_0a (Ac .i64 (v0+(1:Int))) v1 v2)))))
 (none))
 (λ_ _=>none))
 (none))
 (none))
 (zH (zB 37 [(eI v2),(eI 1),(eI 51)])
 (λr3=>ifO (zF EE 6 3 r3)
 (some (.val (eI (zC r3))))
 (none))
 (λ_ _=>none)) :=
 (zb 110 0 _).trans (by kernel_rfl)
theorem C110(x0:DV):zB 110 [x0] =
 ifO (zV (zF EE 6) [29] [x0])
 (ifO (decide ((((Aa (elems (nth (flds x0) 0))):Nat):Int)<(2:Int)))
 (some (.val (eI 2)))
 (ifO (decide ((((Aa (elems (nth (flds x0) 0))):Nat):Int)>(51:Int)))
 (some (.val (eI 2)))
 ((L110_0a (0:Int) (elems (nth (flds x0) 0)) (zC (nth (flds x0) 1))))))
 (none) :=
 (zM (f:=110) (by kernel_rfl) (by kernel_rfl) (by kernel_rfl) [x0]).trans (by kernel_rfl)
theorem C22(x0:DV):zB 22 [x0] =
 ifO (zV (zF EE 6) [34] [x0])
 (zH (zB 69 [(.agg 0 [(.str (zX (nth (flds (nth (flds x0) 0)) 0))),(eI (zC (nth (flds (nth (flds x0) 0)) 1))),(.sl 3 (elems (nth (flds (nth (flds x0) 0)) 2)))])])
 (λr0=>ifO (zF EE 6 3 r0)
 (zH (zB 71 [(.agg 0 [(.str (zX (nth (flds (nth (flds x0) 1)) 0))),(.sl 1 (elems (nth (flds (nth (flds x0) 1)) 1))),(.sl 1 (elems (nth (flds (nth (flds x0) 1)) 2)))])])
 (λr1=>ifO (zF EE 6 3 r1)
 (zH (zB 110 [(.agg 1 [(.sl 1 (elems (nth (flds (nth (flds x0) 2)) 0))),(eI (zC (nth (flds (nth (flds x0) 2)) 1)))])])
 (λr2=>ifO (zF EE 6 3 r2)
 (zH (zB 129 [(.agg 3 (flds (nth (flds x0) 3)))])
 (λr3=>ifO (zF EE 6 3 r3)
 (zH (zB 35 [(.sl 1 [(eI (zC r0)),(eI (zC r1)),(eI (zC r2)),(eI (zC r3))])])
 (λr4=>ifO (zF EE 6 3 r4)
 (some (.val (eI (zC r4))))
 (none))
 (λ_ _=>none))
 (none))
 (λ_ _=>none))
 (none))
 (λ_ _=>none))
 (none))
 (λ_ _=>none))
 (none))
 (λ_ _=>none))
 (none) :=
 (zM (f:=22) (by kernel_rfl) (by kernel_rfl) (by kernel_rfl) [x0]).trans (by kernel_rfl)
theorem C21(x0 x1:DV):zB 21 [x0,x1] =
 ifO (zV (zF EE 6) [34,3] [x0,x1])
 (zH (zB 62 [(.agg 0 [(.str (zX (nth (flds (nth (flds x0) 0)) 0))),(eI (zC (nth (flds (nth (flds x0) 0)) 1))),(.sl 3 (elems (nth (flds (nth (flds x0) 0)) 2)))]),(eI (zC x1))])
 (λr0=>ifO (zF EE 6 4 r0)
 (ifO (jm r0)
 (zH (zB 63 [(.agg 0 [(.str (zX (nth (flds (nth (flds x0) 1)) 0))),(.sl 1 (elems (nth (flds (nth (flds x0) 1)) 1))),(.sl 1 (elems (nth (flds (nth (flds x0) 1)) 2)))])])
 (λr1=>ifO (zF EE 6 4 r1)
 (ifO (jm r1)
 (zH (zB 105 [(.agg 1 [(.sl 1 (elems (nth (flds (nth (flds x0) 2)) 0))),(eI (zC (nth (flds (nth (flds x0) 2)) 1)))])])
 (λr2=>ifO (zF EE 6 4 r2)
 (ifO (jm r2)
 (zH (zB 128 [(.agg 3 (flds (nth (flds x0) 3)))])
 (λr3=>ifO (zF EE 6 3 r3)
 (some (.val (.bool (decide ((zC r3)<=(6:Int))))))
 (none))
 (λ_ _=>none))
 (some (.val (.bool false))))
 (none))
 (λ_ _=>none))
 (some (.val (.bool false))))
 (none))
 (λ_ _=>none))
 (some (.val (.bool false))))
 (none))
 (λ_ _=>none))
 (none) :=
 (zM (f:=21) (by kernel_rfl) (by kernel_rfl) (by kernel_rfl) [x0,x1]).trans (by kernel_rfl)
theorem C63(x0:DV):zB 63 [x0] =
 ifO (zV (zF EE 6) [27] [x0])
 (ifO (decide ((((AS (zX (nth (flds x0) 0))):Nat):Int)<=(40:Int)))
 (ifO (decide ((((Aa (elems (nth (flds x0) 1))):Nat):Int)<=(6:Int)))
 (ifO (decide ((((Aa (elems (nth (flds x0) 2))):Nat):Int)<=(6:Int)))
 (some (.val (.bool true)))
 (some (.val (.bool ((((Aa (elems (nth (flds x0) 2))):Nat):Int) == (33:Int))))))
 (ifO ((((Aa (elems (nth (flds x0) 1))):Nat):Int) == (33:Int))
 (ifO (decide ((((Aa (elems (nth (flds x0) 2))):Nat):Int)<=(6:Int)))
 (some (.val (.bool true)))
 (some (.val (.bool ((((Aa (elems (nth (flds x0) 2))):Nat):Int) == (33:Int))))))
 (some (.val (.bool false)))))
 (some (.val (.bool false))))
 (none) :=
 (zM (f:=63) (by kernel_rfl) (by kernel_rfl) (by kernel_rfl) [x0]).trans (by kernel_rfl)
def S128_0a(v0 v1:Int)(v2:List DV):St :=
 zr 23 [(1,(.ptr 1 408 0 [])),(3,(.d (eI v0))),(4,(.d (eI v1)))] [(1,(.mk false (.dc 408 [(.agg 3 v2)])))]
noncomputable def L128_0a(v0 v1:Int)(v2:List DV):Option CR:=goQ 128 0 (S128_0a v0 v1 v2)
def S128_1a(v0 v1 v2:Int)(v3:List DV):St :=
 zr 23 [(1,(.ptr 1 408 0 [])),(3,(.d (eI v0))),(4,(.d (eI v1))),(5,(.d (eI v2)))] [(1,(.mk false (.dc 408 [(.agg 3 v3)])))]
noncomputable def L128_1a(v0 v1 v2:Int)(v3:List DV):Option CR:=goQ 128 1 (S128_1a v0 v1 v2 v3)
theorem L128_0a_eq(v0 v1:Int)(v2:List DV):L128_0a v0 v1 v2 =
 ifO (decide (v1<(8:Int)))
 ((L128_1a v0 v1 (0:Int) v2))
 (some (.val (eI v0))) :=
 (zb 128 0 _).trans (by kernel_rfl)
theorem L128_1a_eq(v0 v1 v2:Int)(v3:List DV):L128_1a v0 v1 v2 v3 =
 ifO (decide (v2<=(50:Int)))
 (ifO (decide (((0:Int)<=v1)/\(v1<(8:Int))))
 (ifO (decide (((0:Int)<=v2)/\(v2<(51:Int))))
 (ifO (jK 3 (Ab v1) (.agg 3 v3))
 (ifO (jK 2 (Ab v2) (nth v3 (Ab v1)))
 (ifO (zF EE 6 3 (nth (flds (nth v3 (Ab v1))) (Ab v2)))
 (ifO (decide ((zC (nth (flds (nth v3 (Ab v1))) (Ab v2)))>(0:Int)))
 ((L128_1a (Ac .i64 (v0+(1:Int))) v1 (Ac .i64 (v2+(1:Int))) v3))
 ((L128_1a v0 v1 (Ac .i64 (v2+(1:Int))) v3)))
 (none))
 (none))
 (none))
 (none))
 (none))
 ((L128_0a v0 (Ac .i64 (v1+(1:Int))) v3)) :=
 (zb 128 1 _).trans (by kernel_rfl)
theorem C128(x0:DV):zB 128 [x0] =
 ifO (zV (zF EE 6) [32] [x0])
 ((L128_0a (0:Int) (0:Int) (flds x0)))
 (none) :=
 (zM (f:=128) (by kernel_rfl) (by kernel_rfl) (by kernel_rfl) [x0]).trans (by kernel_rfl)
theorem C105(x0:DV):zB 105 [x0] =
 ifO (zV (zF EE 6) [29] [x0])
 (some (.val (.bool (decide ((((Aa (elems (nth (flds x0) 0))):Nat):Int)<=(52:Int))))))
 (none) :=
 (zM (f:=105) (by kernel_rfl) (by kernel_rfl) (by kernel_rfl) [x0]).trans (by kernel_rfl)
end Go.Am
namespace Go.Am
open Go.Proofs
open Go
variable[OO]
theorem C34(x0:DV):zB 34 [x0] =
 ifO (zV (zF EE 6) [34] [x0])
 (zH (zB 65 [(.agg 0 [(.str (zX (nth (flds (nth (flds x0) 0)) 0))),(eI (zC (nth (flds (nth (flds x0) 0)) 1))),(.sl 3 (elems (nth (flds (nth (flds x0) 0)) 2)))])])
 (λr0=>ifO (zF EE 6 58 r0)
 (zH (zB 67 [(.agg 0 [(.str (zX (nth (flds (nth (flds x0) 1)) 0))),(.sl 1 (elems (nth (flds (nth (flds x0) 1)) 1))),(.sl 1 (elems (nth (flds (nth (flds x0) 1)) 2)))])])
 (λr1=>ifO (zF EE 6 59 r1)
 (zH (zB 107 [(.agg 1 [(.sl 1 (elems (nth (flds (nth (flds x0) 2)) 0))),(eI (zC (nth (flds (nth (flds x0) 2)) 1)))])])
 (λr2=>ifO (zF EE 6 60 r2)
 (some (.val (.agg 4 [(.agg 0 [(.str (zX (nth (flds r0) 0))),(eI (zC (nth (flds r0) 1))),(.sl 3 (elems (nth (flds r0) 2)))]),(.agg 0 [(.str (zX (nth (flds r1) 0))),(.sl 1 (elems (nth (flds r1) 1))),(.sl 1 (elems (nth (flds r1) 2)))]),(.agg 1 [(.sl 1 (elems (nth (flds r2) 0))),(eI (zC (nth (flds r2) 1)))]),(.agg 3 (flds (nth (flds x0) 3)))])))
 (none))
 (λ_ _=>none))
 (none))
 (λ_ _=>none))
 (none))
 (λ_ _=>none))
 (none) :=
 (zM (f:=34) (by kernel_rfl) (by kernel_rfl) (by kernel_rfl) [x0]).trans (by kernel_rfl)
theorem C56(x0:DV):zB 56 [x0] =
 ifO (zV (zF EE 6) [25] [x0])
 (ifO (decide ((((2 * (0+(Aa (elems x0))))+200) * 8)<=281474976710656))
 (ifO (AJ (elems x0))
 (some (.val (.sl 1 [])))
 (ifO (decide ((0+(Aa ([]++(elems x0))))<=(Aa ([]++(elems x0)))))
 (some (.val (.sl 1 (Aq (Aa ([]++(elems x0))) (As 0 ([]++(elems x0)))))))
 (none)))
 (none))
 (none) :=
 (zM (f:=56) (by kernel_rfl) (by kernel_rfl) (by kernel_rfl) [x0]).trans (by kernel_rfl)
theorem C67(x0:DV):zB 67 [x0] =
 ifO (zV (zF EE 6) [27] [x0])
 (zH (zB 56 [(.sl 1 (elems (nth (flds x0) 1)))])
 (λr0=>ifO (zF EE 6 25 r0)
 (zH (zB 56 [(.sl 1 (elems (nth (flds x0) 2)))])
 (λr1=>ifO (zF EE 6 25 r1)
 (some (.val (.agg 0 [(.str (zX (nth (flds x0) 0))),(.sl 1 (elems r0)),(.sl 1 (elems r1))])))
 (none))
 (λ_ _=>none))
 (none))
 (λ_ _=>none))
 (none) :=
 (zM (f:=67) (by kernel_rfl) (by kernel_rfl) (by kernel_rfl) [x0]).trans (by kernel_rfl)
theorem C107(x0:DV):zB 107 [x0] =
 ifO (zV (zF EE 6) [29] [x0])
 (zH (zB 56 [(.sl 1 (elems (nth (flds x0) 0)))])
 (λr0=>ifO (zF EE 6 25 r0)
 (some (.val (.agg 1 [(.sl 1 (elems r0)),(eI (zC (nth (flds x0) 1)))])))
 (none))
 (λ_ _=>none))
 (none) :=
 (zM (f:=107) (by kernel_rfl) (by kernel_rfl) (by kernel_rfl) [x0]).trans (by kernel_rfl)
end Go.Am
namespace Go.Am
open Go.Proofs
open Go
variable[OO]
def S71_0a(v0:Int)(v1:ByteArray)(v2 v3:List DV):St :=
 zr 91 [(1,(.ptr 1 3 0 [])),(3,(.d (eI v0)))] [(1,(.mk false (.dc 3 [(.agg 0 [(.str v1),(.sl 1 v2),(.sl 1 v3)])])))]
noncomputable def L71_0a(v0:Int)(v1:ByteArray)(v2 v3:List DV):Option CR:=goQ 71 0 (S71_0a v0 v1 v2 v3)
def S71_1a(v0:Int)(v1:ByteArray)(v2 v3:List DV):St :=
 zr 91 [(1,(.ptr 1 3 0 [])),(5,(.d (eI v0)))] [(1,(.mk false (.dc 3 [(.agg 0 [(.str v1),(.sl 1 v2),(.sl 1 v3)])])))]
noncomputable def L71_1a(v0:Int)(v1:ByteArray)(v2 v3:List DV):Option CR:=goQ 71 1 (S71_1a v0 v1 v2 v3)
theorem L71_0a_eq(v0:Int)(v1:ByteArray)(v2 v3:List DV):L71_0a v0 v1 v2 v3 =
 ifO (decide (v0<(((Aa v2):Nat):Int)))
 (ifO (decide (((0:Int)<=v0)/\(v0<(((Aa v2):Nat):Int))))
 (ifO (zF EE 6 3 (nth v2 (Ab v0)))
 (zH (zB 37 [(eI (zC (nth v2 (Ab v0)))),(eI 0),(eI 256)])
 (λr6=>ifO (zF EE 6 3 r6)
 (ifO (bne (zC r6) 0)
 (some (.val (eI (zC r6))))
 (ifO (decide (v0>(0:Int)))
 (ifO (decide (((0:Int)<=v0)/\(v0<(((Aa v2):Nat):Int))))
 (ifO (zF EE 6 3 (nth v2 (Ab v0)))
 (ifO (decide (((0:Int)<=(Ac .i64 (v0 - (1:Int))))/\((Ac .i64 (v0 - (1:Int)))<(((Aa v2):Nat):Int))))
 (ifO (zF EE 6 3 (nth v2 (Ab (Ac .i64 (v0 - (1:Int))))))
 (ifO (decide ((zC (nth v2 (Ab v0)))>(zC (nth v2 (Ab (Ac .i64 (v0 - (1:Int))))))))
 (some (.val (eI 11)))
 ((L71_0a (Ac .i64 (v0+(1:Int))) v1 v2 v3)))
 (none))
 (none))
 (none))
 (none))
 ((L71_0a (Ac .i64 (v0+(1:Int))) v1 v2 v3))))
 (none))
 (λ_ _=>none))
 (none))
 (none))
 ((L71_1a (0:Int) v1 v2 v3)) :=
 (zb 71 0 _).trans (by kernel_rfl)
theorem L71_1a_eq(v0:Int)(v1:ByteArray)(v2 v3:List DV):L71_1a v0 v1 v2 v3 =
 ifO (decide (v0<(((Aa v3):Nat):Int)))
 (ifO (decide (((0:Int)<=v0)/\(v0<(((Aa v3):Nat):Int))))
 (ifO (zF EE 6 3 (nth v3 (Ab v0)))
 (zH (zB 37 [(eI (zC (nth v3 (Ab v0)))),(eI 0),(eI 100)])
 (λr9=>ifO (zF EE 6 3 r9)
 (ifO (bne (zC r9) 0)
 (some (.val (eI (zC r9))))
 (ifO (decide (v0>(0:Int)))
 (ifO (decide (((0:Int)<=v0)/\(v0<(((Aa v3):Nat):Int))))
 (ifO (zF EE 6 3 (nth v3 (Ab v0)))
 (ifO (decide (((0:Int)<=(Ac .i64 (v0 - (1:Int))))/\((Ac .i64 (v0 - (1:Int)))<(((Aa v3):Nat):Int))))
 (ifO (zF EE 6 3 (nth v3 (Ab (Ac .i64 (v0 - (1:Int))))))
 (ifO (decide ((zC (nth v3 (Ab v0)))<(zC (nth v3 (Ab (Ac .i64 (v0 - (1:Int))))))))
 (some (.val (eI 11)))
 ((L71_1a (Ac .i64 (v0+(1:Int))) v1 v2 v3)))
 (none))
 (none))
 (none))
 (none))
 ((L71_1a (Ac .i64 (v0+(1:Int))) v1 v2 v3))))
 (none))
 (λ_ _=>none))
 (none))
 (none))
 (some (.val (eI 0))) :=
 (zb 71 1 _).trans (by kernel_rfl)
theorem C71(x0:DV):zB 71 [x0] =
 ifO (zV (zF EE 6) [27] [x0])
 (zH (zB 92 [])
 (λr0=>ifO (zF EE 6 173 r0)
 (zH (zB 193 [(.sl 1 (elems r0)),(.str (zX (nth (flds x0) 0)))])
 (λr1=>ifO (zF EE 6 4 r1)
 (ifO (!(jm r1))
 (some (.val (eI 13)))
 (ifO ((((Aa (elems (nth (flds x0) 1))):Nat):Int) == (0:Int))
 (some (.val (eI 12)))
 (ifO (decide ((((Aa (elems (nth (flds x0) 1))):Nat):Int)>(32:Int)))
 (some (.val (eI 5)))
 (ifO (bne (((Aa (elems (nth (flds x0) 2))):Nat):Int) (((Aa (elems (nth (flds x0) 1))):Nat):Int))
 (some (.val (eI 2)))
 ((L71_0a (0:Int) (zX (nth (flds x0) 0)) (elems (nth (flds x0) 1)) (elems (nth (flds x0) 2))))))))
 (none))
 (λ_ _=>none))
 (none))
 (λ_ _=>none))
 (none) :=
 (zM (f:=71) (by kernel_rfl) (by kernel_rfl) (by kernel_rfl) [x0]).trans (by kernel_rfl)
theorem C72(x0 x1 x2:DV):zB 72 [x0,x1,x2] =
 ifO (zV (zF EE 6) [141,141,3] [x0,x1,x2])
 (zH (zB 194 [(eI (zC x2))])
 (λr0=>ifO (zF EE 6 141 r0)
 (zH (zB 195 [(.agg 1 [(eI (Ac .i64 ((zC (nth (flds x1) 0)) - (zC (nth (flds x0) 0))))),(eI (Ac .i64 ((zC (nth (flds x1) 1)) - (zC (nth (flds x0) 1)))))]),(eI (zC x2))])
 (λr1=>ifO (zF EE 6 3 r1)
 (ifO ((A5 (zC x2) (2:Int)) == (1:Int))
 (zH (zB 196 [(eI (zC r1))])
 (λr2=>ifO (zF EE 6 3 r2)
 (zH (zB 197 [(eI (Ac .i64 ((Ac .i64 ((Ac .i64 ((zC (nth (flds x1) 0)) - (zC (nth (flds x0) 0)))) * (zC (nth (flds r0) 1)))) - (Ac .i64 ((Ac .i64 ((zC (nth (flds x1) 1)) - (zC (nth (flds x0) 1)))) * (zC (nth (flds r0) 0)))))))])
 (λr3=>ifO (zF EE 6 3 r3)
 (some (.val (.tup [(eI (zC r2)),(eI (zC r3))])))
 (none))
 (λ_ _=>none))
 (none))
 (λ_ _=>none))
 (zH (zB 197 [(eI (Ac .i64 ((Ac .i64 ((Ac .i64 ((zC (nth (flds x1) 0)) - (zC (nth (flds x0) 0)))) * (zC (nth (flds r0) 1)))) - (Ac .i64 ((Ac .i64 ((zC (nth (flds x1) 1)) - (zC (nth (flds x0) 1)))) * (zC (nth (flds r0) 0)))))))])
 (λr8=>ifO (zF EE 6 3 r8)
 (some (.val (.tup [(eI (zC r1)),(eI (zC r8))])))
 (none))
 (λ_ _=>none)))
 (none))
 (λ_ _=>none))
 (none))
 (λ_ _=>none))
 (none) :=
 (zM (f:=72) (by kernel_rfl) (by kernel_rfl) (by kernel_rfl) [x0,x1,x2]).trans (by kernel_rfl)
theorem C73(x0 x1 x2:DV):zB 73 [x0,x1,x2] =
 ifO (zV (zF EE 6) [27,3,3] [x0,x1,x2])
 (ifO (decide ((zC x1)<(1:Int)))
 (some (.val (eI 0)))
 (ifO (decide ((zC x1)>(((Aa (elems (nth (flds x0) 1))):Nat):Int)))
 (some (.val (eI 0)))
 (ifO (decide (((0:Int)<=(Ac .i64 ((zC x1) - (1:Int))))/\((Ac .i64 ((zC x1) - (1:Int)))<(((Aa (elems (nth (flds x0) 2))):Nat):Int))))
 (ifO (zF EE 6 3 (nth (elems (nth (flds x0) 2)) (Ab (Ac .i64 ((zC x1) - (1:Int))))))
 (ifO (decide ((zC x2)>(zC (nth (elems (nth (flds x0) 2)) (Ab (Ac .i64 ((zC x1) - (1:Int))))))))
 (some (.val (eI 0)))
 (ifO (decide (((0:Int)<=(Ac .i64 ((zC x1) - (1:Int))))/\((Ac .i64 ((zC x1) - (1:Int)))<(((Aa (elems (nth (flds x0) 1))):Nat):Int))))
 (ifO (zF EE 6 3 (nth (elems (nth (flds x0) 1)) (Ab (Ac .i64 ((zC x1) - (1:Int))))))
 (some (.val (eI (zC (nth (elems (nth (flds x0) 1)) (Ab (Ac .i64 ((zC x1) - (1:Int)))))))))
 (none))
 (none)))
 (none))
 (none))))
 (none) :=
 (zM (f:=73) (by kernel_rfl) (by kernel_rfl) (by kernel_rfl) [x0,x1,x2]).trans (by kernel_rfl)
theorem C195(x0 x1:DV):zB 195 [x0,x1] =
 ifO (zV (zF EE 6) [141,3] [x0,x1])
 (zH (zB 194 [(eI (zC x1))])
 (λr0=>ifO (zF EE 6 141 r0)
 (zH (zB 194 [(eI (zC x1))])
 (λr1=>ifO (zF EE 6 141 r1)
 (some (.val (eI (Ac .i64 ((Ac .i64 ((zC (nth (flds x0) 0)) * (zC (nth (flds r0) 0))))+(Ac .i64 ((zC (nth (flds x0) 1)) * (zC (nth (flds r1) 1)))))))))
 (none))
 (λ_ _=>none))
 (none))
 (λ_ _=>none))
 (none) :=
 (zM (f:=195) (by kernel_rfl) (by kernel_rfl) (by kernel_rfl) [x0,x1]).trans (by kernel_rfl)
theorem C196(x0:DV):zB 196 [x0] =
 ifO (zV (zF EE 6) [3] [x0])
 (ifO (decide ((zC x0)<(0:Int)))
 (ifO (bne (A5 (zC x0) (2:Int)) 0)
 (some (.val (eI (Ac .i64 ((Ac .i64 (Au (zC x0) (2:Int))) - (1:Int))))))
 (some (.val (eI (Ac .i64 (Au (zC x0) (2:Int)))))))
 (some (.val (eI (Ac .i64 (Au (zC x0) (2:Int)))))))
 (none) :=
 (zM (f:=196) (by kernel_rfl) (by kernel_rfl) (by kernel_rfl) [x0]).trans (by kernel_rfl)
theorem C197(x0:DV):zB 197 [x0] =
 ifO (zV (zF EE 6) [3] [x0])
 (some (.val (eI (ite ((Ac .i64 ((0:Int) - (zC x0)))>(zC x0)) (Ac .i64 ((0:Int) - (zC x0))) (zC x0)))))
 (none) :=
 (zM (f:=197) (by kernel_rfl) (by kernel_rfl) (by kernel_rfl) [x0]).trans (by kernel_rfl)
def S193_0a(v0:List DV)(v1:ByteArray)(v2:Int):St :=
 zr 18 [(0,(.d (.sl 1 v0))),(1,(.d (.str v1))),(5,(.d (eI v2)))] []
noncomputable def L193_0a(v0:List DV)(v1:ByteArray)(v2:Int):Option CR:=goQ 193 0 (S193_0a v0 v1 v2)
theorem L193_0a_eq(v0:List DV)(v1:ByteArray)(v2:Int):L193_0a v0 v1 v2 =
 ifO (decide (v2<(((Aa v0):Nat):Int)))
 (ifO (decide (((0:Int)<=v2)/\(v2<(((Aa v0):Nat):Int))))
 (ifO (zF EE 6 9 (nth v0 (Ab v2)))
 (ifO ((Ao (zX (nth v0 (Ab v2)))) == (Ao v1))
 (some (.val (.bool true)))
 ((L193_0a v0 v1 (Ac .i64 (v2+(1:Int))))))
 (none))
 (none))
 (some (.val (.bool false))) :=
 (zb 193 0 _).trans (by kernel_rfl)
theorem C193(x0 x1:DV):zB 193 [x0,x1] =
 ifO (zV (zF EE 6) [173,9] [x0,x1])
 ((L193_0a (elems x0) (zX x1) (0:Int)))
 (none) :=
 (zM (f:=193) (by kernel_rfl) (by kernel_rfl) (by kernel_rfl) [x0,x1]).trans (by kernel_rfl)
theorem C92:zB 92 [] =
 some (.val (.sl 1 [(.str (bs [103,114,101,97,116,101,115,116])),(.str (bs [115,113,117,97,114,101,115])),(.str (bs [115,117,109]))])) :=
 (zM (f:=92) (by kernel_rfl) (by kernel_rfl) (by kernel_rfl) []).trans (by kernel_rfl)
def S79_0a(v0:Int)(v1:ByteArray)(v2:Int)(v3:List DV)(v4:ByteArray)(v5 v6:List DV):St :=
 zr 63 [(2,(.d (eI v0))),(3,(.ptr 3 3 0 [])),(4,(.ptr 4 3 0 [])),(7,(.d .nl)),(8,(.d (eI 0)))] [(3,(.mk false (.dc 3 [(.agg 0 [(.str v1),(eI v2),(.sl 3 v3)])]))),(4,(.mk false (.dc 3 [(.agg 0 [(.str v4),(.sl 1 v5),(.sl 1 v6)])])))]
noncomputable def L79_0a(v0:Int)(v1:ByteArray)(v2:Int)(v3:List DV)(v4:ByteArray)(v5 v6:List DV):Option CR:=goQ 79 0 (S79_0a v0 v1 v2 v3 v4 v5 v6)
def S79_1a(v0:Int)(v1:List DV)(v2:Int)(v3:ByteArray)(v4:Int)(v5:List DV)(v6:ByteArray)(v7 v8 v9:List DV):St :=
 zr 63 [(2,(.d (eI v0))),(3,(.ptr 3 3 0 [])),(4,(.ptr 4 3 0 [])),(7,(.d .nl)),(8,(.d (eI 0))),(9,(.own 23 0 (Aa v1) 1)),(10,(.d (eI v2)))] [(3,(.mk false (.dc 3 [(.agg 0 [(.str v3),(eI v4),(.sl 3 v5)])]))),(4,(.mk false (.dc 3 [(.agg 0 [(.str v6),(.sl 1 v7),(.sl 1 v8)])]))),(23,(.mk false (.dc 1 v9)))]
noncomputable def L79_1a(v0:Int)(v1:List DV)(v2:Int)(v3:ByteArray)(v4:Int)(v5:List DV)(v6:ByteArray)(v7 v8 v9:List DV):Option CR:=goQ 79 1 (S79_1a v0 v1 v2 v3 v4 v5 v6 v7 v8 v9)
def S79_0b(v0:Int)(v1:List DV)(v2:Int)(v3:ByteArray)(v4:Int)(v5:List DV)(v6:ByteArray)(v7 v8:List DV):St :=
 zr 63 [(2,(.d (eI v0))),(3,(.ptr 3 3 0 [])),(4,(.ptr 4 3 0 [])),(7,(.own 61 0 (Aa v1) 1)),(8,(.d (eI v2)))] [(3,(.mk false (.dc 3 [(.agg 0 [(.str v3),(eI v4),(.sl 3 v5)])]))),(4,(.mk false (.dc 3 [(.agg 0 [(.str v6),(.sl 1 v7),(.sl 1 v8)])]))),(61,(.mk false (.dc 1 v1)))]
noncomputable def L79_0b(v0:Int)(v1:List DV)(v2:Int)(v3:ByteArray)(v4:Int)(v5:List DV)(v6:ByteArray)(v7 v8:List DV):Option CR:=goQ 79 0 (S79_0b v0 v1 v2 v3 v4 v5 v6 v7 v8)
def S79_1b(v0:Int)(v1:List DV)(v2:Int)(v3:List DV)(v4:Int)(v5:ByteArray)(v6:Int)(v7:List DV)(v8:ByteArray)(v9 v10 v11:List DV):St :=
 zr 63 [(2,(.d (eI v0))),(3,(.ptr 3 3 0 [])),(4,(.ptr 4 3 0 [])),(7,(.own 61 0 (Aa v1) 1)),(8,(.d (eI v2))),(9,(.own 23 0 (Aa v3) 1)),(10,(.d (eI v4)))] [(3,(.mk false (.dc 3 [(.agg 0 [(.str v5),(eI v6),(.sl 3 v7)])]))),(4,(.mk false (.dc 3 [(.agg 0 [(.str v8),(.sl 1 v9),(.sl 1 v10)])]))),(23,(.mk false (.dc 1 v11))),(61,(.mk false (.dc 1 v1)))]
noncomputable def L79_1b(v0:Int)(v1:List DV)(v2:Int)(v3:List DV)(v4:Int)(v5:ByteArray)(v6:Int)(v7:List DV)(v8:ByteArray)(v9 v10 v11:List DV):Option CR:=goQ 79 1 (S79_1b v0 v1 v2 v3 v4 v5 v6 v7 v8 v9 v10 v11)
theorem L79_0a_eq(v0:Int)(v1:ByteArray)(v2:Int)(v3:List DV)(v4:ByteArray)(v5 v6:List DV):L79_0a v0 v1 v2 v3 v4 v5 v6 =
 ifO (decide ((0:Int)<(((Aa v3):Nat):Int)))
 (ifO (decide (((0:Int)<=(((Aa v3):Nat):Int))/\(((((Aa v3):Nat):Int)=(((Aa v3):Nat):Int))/\((((8:Int) * (((Aa v3):Nat):Int))<=(281474976710656:Int))/\((((Aa v3):Nat):Int)<=(9223372036854775807:Int))))))
 ((L79_1a v0 (Ae (Ab (((Aa v3):Nat):Int)) (eI 0)) (0:Int) v1 v2 v3 v4 v5 v6 (Ae (Ab (((Aa v3):Nat):Int)) (eI 0))))
 (none))
 (some (.val (.sl 1 []))) :=
 (zb 79 0 _).trans (by kernel_rfl)
theorem L79_1a_eq(v0:Int)(v1:List DV)(v2:Int)(v3:ByteArray)(v4:Int)(v5:List DV)(v6:ByteArray)(v7 v8 v9:List DV):L79_1a v0 v1 v2 v3 v4 v5 v6 v7 v8 v9 =
 ifO (decide (v2<(((Aa v5):Nat):Int)))
 (ifO (bne v2 (0:Int))
 (ifO (decide (((0:Int)<=v2)/\(v2<(((Aa v5):Nat):Int))))
 (ifO (jK 9 1 (nth v5 (Ab v2)))
 (ifO (zF EE 6 141 (nth (flds (nth v5 (Ab v2))) 1))
 (ifO (decide (((0:Int)<=(0:Int))/\((0:Int)<(((Aa v5):Nat):Int))))
 (ifO (jK 9 1 (nth v5 0))
 (ifO (zF EE 6 141 (nth (flds (nth v5 0)) 1))
 (zH (zB 72 [(.agg 1 [(eI (zC (nth (flds (nth (flds (nth v5 (Ab v2))) 1)) 0))),(eI (zC (nth (flds (nth (flds (nth v5 (Ab v2))) 1)) 1)))]),(.agg 1 [(eI (zC (nth (flds (nth (flds (nth v5 0)) 1)) 0))),(eI (zC (nth (flds (nth (flds (nth v5 0)) 1)) 1)))]),(eI v0)])
 (λr0=>ifO ((DV.isTup r0) && (zV (zF EE 6) [3,3] (tups r0)))
 (zH (zB 73 [(.agg 0 [(.str v6),(.sl 1 v7),(.sl 1 v8)]),(eI (zC (nth (tups r0) 0))),(eI (zC (nth (tups r0) 1)))])
 (λr1=>ifO (zF EE 6 3 r1)
 (ifO (decide (((0:Int)<=v2)/\(v2<(((Aa v1):Nat):Int))))
 (ifO (decide ((0+(Ab v2))<(Aa v9)))
 ((L79_1a v0 v1 (Ac .i64 (v2+(1:Int))) v3 v4 v5 v6 v7 v8 (Ax v9 (0+(Ab v2)) (eI (zC r1)))))
 (none))
 (none))
 (none))
 (λ_ _=>none))
 (none))
 (λ_ _=>none))
 (none))
 (none))
 (none))
 (none))
 (none))
 (none))
 ((L79_1a v0 v1 (Ac .i64 (v2+(1:Int))) v3 v4 v5 v6 v7 v8 v9)))
 (ifO (decide ((0+(Aa v1))<=(Aa v9)))
 ((L79_0b v0 [(.sl 1 (Aq (Aa v1) (As 0 v9)))] (1:Int) v3 v4 v5 v6 v7 v8))
 (none)) :=
 (zb 79 1 _).trans (by kernel_rfl)
theorem L79_0b_eq(v0:Int)(v1:List DV)(v2:Int)(v3:ByteArray)(v4:Int)(v5:List DV)(v6:ByteArray)(v7 v8:List DV):L79_0b v0 v1 v2 v3 v4 v5 v6 v7 v8 =
 ifO (decide (v2<(((Aa v5):Nat):Int)))
 (ifO (decide (((0:Int)<=(((Aa v5):Nat):Int))/\(((((Aa v5):Nat):Int)=(((Aa v5):Nat):Int))/\((((8:Int) * (((Aa v5):Nat):Int))<=(281474976710656:Int))/\((((Aa v5):Nat):Int)<=(9223372036854775807:Int))))))
 ((L79_1b v0 v1 v2 (Ae (Ab (((Aa v5):Nat):Int)) (eI 0)) (0:Int) v3 v4 v5 v6 v7 v8 (Ae (Ab (((Aa v5):Nat):Int)) (eI 0))))
 (none))
 (ifO (decide ((0+(Aa v1))<=(Aa v1)))
 (some (.val (.sl 1 (Bj (cnE EE 25) (Aq (Aa v1) (As 0 v1))))))
 (none)) :=
 (zb 79 0 _).trans (by kernel_rfl)
theorem L79_1b_eq(v0:Int)(v1:List DV)(v2:Int)(v3:List DV)(v4:Int)(v5:ByteArray)(v6:Int)(v7:List DV)(v8:ByteArray)(v9 v10 v11:List DV):L79_1b v0 v1 v2 v3 v4 v5 v6 v7 v8 v9 v10 v11 =
 ifO (decide (v4<(((Aa v7):Nat):Int)))
 (ifO (bne v4 v2)
 (ifO (decide (((0:Int)<=v4)/\(v4<(((Aa v7):Nat):Int))))
 (ifO (jK 9 1 (nth v7 (Ab v4)))
 (ifO (zF EE 6 141 (nth (flds (nth v7 (Ab v4))) 1))
 (ifO (decide (((0:Int)<=v2)/\(v2<(((Aa v7):Nat):Int))))
 (ifO (jK 9 1 (nth v7 (Ab v2)))
 (ifO (zF EE 6 141 (nth (flds (nth v7 (Ab v2))) 1))
 (zH (zB 72 [(.agg 1 [(eI (zC (nth (flds (nth (flds (nth v7 (Ab v4))) 1)) 0))),(eI (zC (nth (flds (nth (flds (nth v7 (Ab v4))) 1)) 1)))]),(.agg 1 [(eI (zC (nth (flds (nth (flds (nth v7 (Ab v2))) 1)) 0))),(eI (zC (nth (flds (nth (flds (nth v7 (Ab v2))) 1)) 1)))]),(eI v0)])
 (λr6=>ifO ((DV.isTup r6) && (zV (zF EE 6) [3,3] (tups r6)))
 (zH (zB 73 [(.agg 0 [(.str v8),(.sl 1 v9),(.sl 1 v10)]),(eI (zC (nth (tups r6) 0))),(eI (zC (nth (tups r6) 1)))])
 (λr7=>ifO (zF EE 6 3 r7)
 (ifO (decide (((0:Int)<=v4)/\(v4<(((Aa v3):Nat):Int))))
 (ifO (decide ((0+(Ab v4))<(Aa v11)))
 ((L79_1b v0 v1 v2 v3 (Ac .i64 (v4+(1:Int))) v5 v6 v7 v8 v9 v10 (Ax v11 (0+(Ab v4)) (eI (zC r7)))))
 (none))
 (none))
 (none))
 (λ_ _=>none))
 (none))
 (λ_ _=>none))
 (none))
 (none))
 (none))
 (none))
 (none))
 (none))
 ((L79_1b v0 v1 v2 v3 (Ac .i64 (v4+(1:Int))) v5 v6 v7 v8 v9 v10 v11)))
 (ifO (decide ((Aa v1)=(Aa v1)))
 (ifO (decide ((0+(Aa v3))<=(Aa v11)))
 (ifO (decide ((((2 * ((Aa v1)+1))+200) * 24)<=281474976710656))
 ((L79_0b v0 (v1++[(.sl 1 (Aq (Aa v3) (As 0 v11)))]) (Ac .i64 (v2+(1:Int))) v5 v6 v7 v8 v9 v10))
 (none))
 (none))
 (none)) :=
 (zb 79 1 _).trans (by kernel_rfl)
theorem C79(x0 x1 x2:DV):zB 79 [x0,x1,x2] =
 ifO (zV (zF EE 6) [24,27,3] [x0,x1,x2])
 ((L79_0a (zC x2) (zX (nth (flds x0) 0)) (zC (nth (flds x0) 1)) (elems (nth (flds x0) 2)) (zX (nth (flds x1) 0)) (elems (nth (flds x1) 1)) (elems (nth (flds x1) 2))))
 (none) :=
 (zM (f:=79) (by kernel_rfl) (by kernel_rfl) (by kernel_rfl) [x0,x1,x2]).trans (by kernel_rfl)
def S80_0a(v0:List DV)(v1:ByteArray)(v2 v3:List DV):St :=
 zr 31 [(4,(.ptr 4 3 0 [])),(7,(.d .nl)),(8,(.d (.sl 1 v0))),(9,(.d (eI 0)))] [(4,(.mk false (.dc 3 [(.agg 0 [(.str v1),(.sl 1 v2),(.sl 1 v3)])])))]
noncomputable def L80_0a(v0:List DV)(v1:ByteArray)(v2 v3:List DV):Option CR:=goQ 80 0 (S80_0a v0 v1 v2 v3)
def S80_0b(v0 v1:List DV)(v2:Int)(v3:ByteArray)(v4 v5:List DV):St :=
 zr 31 [(4,(.ptr 4 3 0 [])),(7,(.own 29 0 (Aa v0) 1)),(8,(.d (.sl 1 v1))),(9,(.d (eI v2)))] [(4,(.mk false (.dc 3 [(.agg 0 [(.str v3),(.sl 1 v4),(.sl 1 v5)])]))),(29,(.mk false (.dc 1 v0)))]
noncomputable def L80_0b(v0 v1:List DV)(v2:Int)(v3:ByteArray)(v4 v5:List DV):Option CR:=goQ 80 0 (S80_0b v0 v1 v2 v3 v4 v5)
theorem L80_0a_eq(v0:List DV)(v1:ByteArray)(v2 v3:List DV):L80_0a v0 v1 v2 v3 =
 ifO (decide ((0:Int)<(((Aa v0):Nat):Int)))
 (ifO (decide (((0:Int)<=(0:Int))/\((0:Int)<(((Aa v0):Nat):Int))))
 (ifO (zF EE 6 25 (nth v0 0))
 (zH (zB 201 [(.str v1),(.sl 1 (elems (nth v0 0)))])
 (λr3=>ifO (zF EE 6 3 r3)
 ((L80_0b [(eI (zC r3))] v0 (1:Int) v1 v2 v3))
 (none))
 (λ_ _=>none))
 (none))
 (none))
 (some (.val .nl)) :=
 (zb 80 0 _).trans (by kernel_rfl)
theorem L80_0b_eq(v0 v1:List DV)(v2:Int)(v3:ByteArray)(v4 v5:List DV):L80_0b v0 v1 v2 v3 v4 v5 =
 ifO (decide (v2<(((Aa v1):Nat):Int)))
 (ifO (decide (((0:Int)<=v2)/\(v2<(((Aa v1):Nat):Int))))
 (ifO (zF EE 6 25 (nth v1 (Ab v2)))
 (zH (zB 201 [(.str v3),(.sl 1 (elems (nth v1 (Ab v2))))])
 (λr6=>ifO (zF EE 6 3 r6)
 (ifO (decide ((Aa v0)=(Aa v0)))
 (ifO (decide ((((2 * ((Aa v0)+1))+200) * 8)<=281474976710656))
 ((L80_0b (v0++[(eI (zC r6))]) v1 (Ac .i64 (v2+(1:Int))) v3 v4 v5))
 (none))
 (none))
 (none))
 (λ_ _=>none))
 (none))
 (none))
 (ifO (decide ((Aa v0)=(Aa v0)))
 (some (.fresh 1 v0))
 (none)) :=
 (zb 80 0 _).trans (by kernel_rfl)
theorem C80(x0 x1 x2:DV):zB 80 [x0,x1,x2] =
 ifO (zV (zF EE 6) [24,27,3] [x0,x1,x2])
 (zH (zB 79 [(.agg 0 [(.str (zX (nth (flds x0) 0))),(eI (zC (nth (flds x0) 1))),(.sl 3 (elems (nth (flds x0) 2)))]),(.agg 0 [(.str (zX (nth (flds x1) 0))),(.sl 1 (elems (nth (flds x1) 1))),(.sl 1 (elems (nth (flds x1) 2)))]),(eI (zC x2))])
 (λr0=>ifO (zF EE 6 95 r0)
 ((L80_0a (elems r0) (zX (nth (flds x1) 0)) (elems (nth (flds x1) 1)) (elems (nth (flds x1) 2))))
 (none))
 (λ_ _=>none))
 (none) :=
 (zM (f:=80) (by kernel_rfl) (by kernel_rfl) (by kernel_rfl) [x0,x1,x2]).trans (by kernel_rfl)
def S81_0a(v0:Int):St :=
 zr 32 [(3,(.d (eI v0))),(9,(.d .nl)),(10,(.d (eI 0)))] []
noncomputable def L81_0a(v0:Int):Option CR:=goQ 81 0 (S81_0a v0)
def S81_0b(v0:Int)(v1:List DV)(v2:Int)(v3:List DV):St :=
 zr 32 [(3,(.d (eI v0))),(9,(.own 14 0 (Aa v1) 1)),(10,(.d (eI v2)))] [(14,(.mk false (.dc 1 v3)))]
noncomputable def L81_0b(v0:Int)(v1:List DV)(v2:Int)(v3:List DV):Option CR:=goQ 81 0 (S81_0b v0 v1 v2 v3)
theorem L81_0a_eq(v0:Int):L81_0a v0 =
 some (.val (.sl 1 [])) :=
 (zb 81 0 _).trans (by kernel_rfl)
theorem L81_0b_eq(v0:Int)(v1:List DV)(v2:Int)(v3:List DV):L81_0b v0 v1 v2 v3 =
 ifO (decide (v2<(((Aa v1):Nat):Int)))
 (ifO (decide (((0:Int)<=v2)/\(v2<(((Aa v1):Nat):Int))))
 (ifO (decide ((0+(Ab v2))<(Aa v3)))
 (ifO (zF EE 6 3 (nth v3 (0+(Ab v2))))
 (ifO (decide (((0:Int)<=v2)/\(v2<(((Aa v1):Nat):Int))))
 (ifO (decide ((0+(Ab v2))<(Aa v3)))
 ((L81_0b v0 v1 (Ac .i64 (v2+(1:Int))) (Ax v3 (0+(Ab v2)) (eI (Ac .i64 (v0 * (Ac .i64 ((256:Int) - (zC (nth v3 (0+(Ab v2))))))))))))
 (none))
 (none))
 (none))
 (none))
 (none))
 (ifO (decide ((0+(Aa v1))<=(Aa v3)))
 (some (.val (.sl 1 (Aq (Aa v1) (As 0 v3)))))
 (none)) :=
 (zb 81 0 _).trans (by kernel_rfl)
theorem C81(x0 x1 x2 x3:DV):zB 81 [x0,x1,x2,x3] =
 ifO (zV (zF EE 6) [24,27,3,3] [x0,x1,x2,x3])
 (zH (zB 80 [(.agg 0 [(.str (zX (nth (flds x0) 0))),(eI (zC (nth (flds x0) 1))),(.sl 3 (elems (nth (flds x0) 2)))]),(.agg 0 [(.str (zX (nth (flds x1) 0))),(.sl 1 (elems (nth (flds x1) 1))),(.sl 1 (elems (nth (flds x1) 2)))]),(eI (zC x2))])
 (λr0=>ifO (zJc r0)
 ((L81_0a (zC x3)))
 (none))
 (λs1 l2=>ifO (s1 == 1)
 ((L81_0b (zC x3) l2 (0:Int) l2))
 (none)))
 (none) :=
 (zM (f:=81) (by kernel_rfl) (by kernel_rfl) (by kernel_rfl) [x0,x1,x2,x3]).trans (by kernel_rfl)
def S201_0a(v0:ByteArray)(v1:List DV)(v2 v3:Int):St :=
 zr 55 [(0,(.d (.str v0))),(1,(.d (.sl 1 v1))),(5,(.d (eI v2))),(6,(.d (eI v3)))] []
noncomputable def L201_0a(v0:ByteArray)(v1:List DV)(v2 v3:Int):Option CR:=goQ 201 0 (S201_0a v0 v1 v2 v3)
def S201_1a(v0 v1:Int):St :=
 zr 55 [(5,(.d (eI v0))),(7,(.d (eI v1)))] []
noncomputable def L201_1a(v0 v1:Int):Option CR:=goQ 201 1 (S201_1a v0 v1)
theorem L201_0a_eq(v0:ByteArray)(v1:List DV)(v2 v3:Int):L201_0a v0 v1 v2 v3 =
 ifO (decide (v3<(((Aa v1):Nat):Int)))
 (ifO ((Ao v0) == (Ao (bs [115,117,109])))
 (ifO (decide (((0:Int)<=v3)/\(v3<(((Aa v1):Nat):Int))))
 (ifO (zF EE 6 3 (nth v1 (Ab v3)))
 ((L201_0a v0 v1 (Ac .i64 (v2+(zC (nth v1 (Ab v3))))) (Ac .i64 (v3+(1:Int)))))
 (none))
 (none))
 (ifO ((Ao v0) == (Ao (bs [103,114,101,97,116,101,115,116])))
 (ifO (decide (((0:Int)<=v3)/\(v3<(((Aa v1):Nat):Int))))
 (ifO (zF EE 6 3 (nth v1 (Ab v3)))
 ((L201_0a v0 v1 (ite ((zC (nth v1 (Ab v3)))>v2) (zC (nth v1 (Ab v3))) v2) (Ac .i64 (v3+(1:Int)))))
 (none))
 (none))
 (ifO (decide (((0:Int)<=v3)/\(v3<(((Aa v1):Nat):Int))))
 (ifO (zF EE 6 3 (nth v1 (Ab v3)))
 (ifO (decide (((0:Int)<=v3)/\(v3<(((Aa v1):Nat):Int))))
 (ifO (zF EE 6 3 (nth v1 (Ab v3)))
 ((L201_0a v0 v1 (Ac .i64 (v2+(Ac .i64 ((zC (nth v1 (Ab v3))) * (zC (nth v1 (Ab v3))))))) (Ac .i64 (v3+(1:Int)))))
 (none))
 (none))
 (none))
 (none))))
 (ifO ((Ao v0) == (Ao (bs [115,113,117,97,114,101,115])))
 ((L201_1a v2 (0:Int)))
 (some (.val (eI (ite ((256:Int)<v2) (256:Int) v2))))) :=
 (zb 201 0 _).trans (by kernel_rfl)
theorem L201_1a_eq(v0 v1:Int):L201_1a v0 v1 =
 ifO (decide ((Ac .i64 ((Ac .i64 (v1+(1:Int))) * (Ac .i64 (v1+(1:Int)))))<=v0))
 ((L201_1a v0 (Ac .i64 (v1+(1:Int)))))
 (some (.val (eI (ite ((256:Int)<v1) (256:Int) v1)))) :=
 (zb 201 1 _).trans (by kernel_rfl)
theorem C201(x0 x1:DV):zB 201 [x0,x1] =
 ifO (zV (zF EE 6) [9,25] [x0,x1])
 ((L201_0a (zX x0) (elems x1) (0:Int) (0:Int)))
 (none) :=
 (zM (f:=201) (by kernel_rfl) (by kernel_rfl) (by kernel_rfl) [x0,x1]).trans (by kernel_rfl)
end Go.Am
namespace Go.Am
open Go.Proofs
open Go
variable[OO]
def S69_0a(v0:Int)(v1:ByteArray)(v2:Int)(v3:List DV):St :=
 zr 73 [(1,(.ptr 1 3 0 [])),(3,(.d (eI v0)))] [(1,(.mk false (.dc 3 [(.agg 0 [(.str v1),(eI v2),(.sl 3 v3)])])))]
noncomputable def L69_0a(v0:Int)(v1:ByteArray)(v2:Int)(v3:List DV):Option CR:=goQ 69 0 (S69_0a v0 v1 v2 v3)
def S69_1a(v0 v1:Int)(v2:ByteArray)(v3:Int)(v4:List DV)(v5:ByteArray)(v6 v7:Int):St :=
 zr 73 [(1,(.ptr 1 3 0 [])),(3,(.d (eI v0))),(4,(.ptr 4 3 0 [])),(5,(.d (eI v1)))] [(1,(.mk false (.dc 3 [(.agg 0 [(.str v2),(eI v3),(.sl 3 v4)])]))),(4,(.mk false (.dc 3 [(.agg 9 [(.str v5),(.agg 1 [(eI v6),(eI v7)])])])))]
noncomputable def L69_1a(v0 v1:Int)(v2:ByteArray)(v3:Int)(v4:List DV)(v5:ByteArray)(v6 v7:Int):Option CR:=goQ 69 1 (S69_1a v0 v1 v2 v3 v4 v5 v6 v7)
def S69_2a(v0 v1:Int)(v2:ByteArray)(v3:Int)(v4:List DV)(v5:ByteArray)(v6 v7:Int):St :=
 zr 73 [(1,(.ptr 1 3 0 [])),(3,(.d (eI v0))),(4,(.ptr 4 3 0 [])),(6,(.d (eI v1)))] [(1,(.mk false (.dc 3 [(.agg 0 [(.str v2),(eI v3),(.sl 3 v4)])]))),(4,(.mk false (.dc 3 [(.agg 9 [(.str v5),(.agg 1 [(eI v6),(eI v7)])])])))]
noncomputable def L69_2a(v0 v1:Int)(v2:ByteArray)(v3:Int)(v4:List DV)(v5:ByteArray)(v6 v7:Int):Option CR:=goQ 69 2 (S69_2a v0 v1 v2 v3 v4 v5 v6 v7)
theorem L69_0a_eq(v0:Int)(v1:ByteArray)(v2:Int)(v3:List DV):L69_0a v0 v1 v2 v3 =
 ifO (decide (v0<(((Aa v3):Nat):Int)))
 (ifO (decide (((0:Int)<=v0)/\(v0<(((Aa v3):Nat):Int))))
 (ifO (zF EE 6 143 (nth v3 (Ab v0)))
 (zH (zB 130 [(.str (zX (nth (flds (nth v3 (Ab v0))) 0)))])
 (λr6=>ifO (zF EE 6 4 r6)
 (ifO (!(jm r6))
 (some (.val (eI 8)))
 (zH (zB 164 [(.agg 1 [(eI (zC (nth (flds (nth (flds (nth v3 (Ab v0))) 1)) 0))),(eI (zC (nth (flds (nth (flds (nth v3 (Ab v0))) 1)) 1)))])])
 (λr7=>ifO (zF EE 6 3 r7)
 (ifO (bne (zC r7) 0)
 (some (.val (eI 3)))
 ((L69_1a v0 (0:Int) v1 v2 v3 (zX (nth (flds (nth v3 (Ab v0))) 0)) (zC (nth (flds (nth (flds (nth v3 (Ab v0))) 1)) 0)) (zC (nth (flds (nth (flds (nth v3 (Ab v0))) 1)) 1)))))
 (none))
 (λ_ _=>none)))
 (none))
 (λ_ _=>none))
 (none))
 (none))
 (some (.val (eI 0))) :=
 (zb 69 0 _).trans (by kernel_rfl)
theorem L69_1a_eq(v0 v1:Int)(v2:ByteArray)(v3:Int)(v4:List DV)(v5:ByteArray)(v6 v7:Int):L69_1a v0 v1 v2 v3 v4 v5 v6 v7 =
 ifO (decide (v1<v0))
 (ifO (decide (((0:Int)<=v1)/\(v1<(((Aa v4):Nat):Int))))
 (ifO (jK 9 0 (nth v4 (Ab v1)))
 (ifO (zF EE 6 9 (nth (flds (nth v4 (Ab v1))) 0))
 (ifO ((Ao (zX (nth (flds (nth v4 (Ab v1))) 0))) == (Ao v5))
 (some (.val (eI 9)))
 ((L69_1a v0 (Ac .i64 (v1+(1:Int))) v2 v3 v4 v5 v6 v7)))
 (none))
 (none))
 (none))
 ((L69_2a v0 (0:Int) v2 v3 v4 v5 v6 v7)) :=
 (zb 69 1 _).trans (by kernel_rfl)
theorem L69_2a_eq(v0 v1:Int)(v2:ByteArray)(v3:Int)(v4:List DV)(v5:ByteArray)(v6 v7:Int):L69_2a v0 v1 v2 v3 v4 v5 v6 v7 =
 ifO (decide (v1<v0))
 (ifO (decide (((0:Int)<=v1)/\(v1<(((Aa v4):Nat):Int))))
 (ifO (jK 9 1 (nth v4 (Ab v1)))
 (ifO (zF EE 6 141 (nth (flds (nth v4 (Ab v1))) 1))
 (zH (zB 192 [(.agg 1 [(eI (zC (nth (flds (nth (flds (nth v4 (Ab v1))) 1)) 0))),(eI (zC (nth (flds (nth (flds (nth v4 (Ab v1))) 1)) 1)))]),(.agg 1 [(eI v6),(eI v7)])])
 (λr12=>ifO (zF EE 6 3 r12)
 (ifO (decide ((zC r12)<(Ac .i64 (v3 * v3))))
 (some (.val (eI 15)))
 ((L69_2a v0 (Ac .i64 (v1+(1:Int))) v2 v3 v4 v5 v6 v7)))
 (none))
 (λ_ _=>none))
 (none))
 (none))
 (none))
 ((L69_0a (Ac .i64 (v0+(1:Int))) v2 v3 v4)) :=
 (zb 69 2 _).trans (by kernel_rfl)
theorem C69(x0:DV):zB 69 [x0] =
 ifO (zV (zF EE 6) [24] [x0])
 (zH (zB 130 [(.str (zX (nth (flds x0) 0)))])
 (λr0=>ifO (zF EE 6 4 r0)
 (ifO (!(jm r0))
 (some (.val (eI 8)))
 (zH (zB 37 [(eI (zC (nth (flds x0) 1))),(eI 1),(eI 1000)])
 (λr1=>ifO (zF EE 6 3 r1)
 (ifO (bne (zC r1) 0)
 (some (.val (eI 3)))
 (ifO (decide ((((Aa (elems (nth (flds x0) 2))):Nat):Int)>(64:Int)))
 (some (.val (eI 5)))
 ((L69_0a (0:Int) (zX (nth (flds x0) 0)) (zC (nth (flds x0) 1)) (elems (nth (flds x0) 2))))))
 (none))
 (λ_ _=>none)))
 (none))
 (λ_ _=>none))
 (none) :=
 (zM (f:=69) (by kernel_rfl) (by kernel_rfl) (by kernel_rfl) [x0]).trans (by kernel_rfl)
def S62_0a(v0:Int)(v1:ByteArray)(v2:Int)(v3:List DV):St :=
 zr 38 [(2,(.ptr 2 3 0 [])),(5,(.d (eI v0)))] [(2,(.mk false (.dc 3 [(.agg 0 [(.str v1),(eI v2),(.sl 3 v3)])])))]
noncomputable def zGa(v0:Int)(v1:ByteArray)(v2:Int)(v3:List DV):Option CR:=goQ 62 0 (S62_0a v0 v1 v2 v3)
theorem zHO(v0:Int)(v1:ByteArray)(v2:Int)(v3:List DV):zGa v0 v1 v2 v3 =
 ifO (decide (v0<(((Aa v3):Nat):Int)))
 (ifO (decide (((0:Int)<=v0)/\(v0<(((Aa v3):Nat):Int))))
 (ifO (jK 9 0 (nth v3 (Ab v0)))
 (ifO (zF EE 6 9 (nth (flds (nth v3 (Ab v0))) 0))
 (ifO (decide ((((AS (zX (nth (flds (nth v3 (Ab v0))) 0))):Nat):Int)>(60:Int)))
 (some (.val (.bool false)))
 ((zGa (Ac .i64 (v0+(1:Int))) v1 v2 v3)))
 (none))
 (none))
 (none))
 (some (.val (.bool true))) :=
 (zb 62 0 _).trans (by kernel_rfl)
theorem C62(x0 x1:DV):zB 62 [x0,x1] =
 ifO (zV (zF EE 6) [24,3] [x0,x1])
 (ifO (decide ((((AS (zX (nth (flds x0) 0))):Nat):Int)>(60:Int)))
 (some (.val (.bool false)))
 (ifO (decide ((((Aa (elems (nth (flds x0) 2))):Nat):Int)>(zC x1)))
 (ifO (bne (((Aa (elems (nth (flds x0) 2))):Nat):Int) (65:Int))
 (some (.val (.bool false)))
 ((zGa (0:Int) (zX (nth (flds x0) 0)) (zC (nth (flds x0) 1)) (elems (nth (flds x0) 2)))))
 ((zGa (0:Int) (zX (nth (flds x0) 0)) (zC (nth (flds x0) 1)) (elems (nth (flds x0) 2))))))
 (none) :=
 (zM (f:=62) (by kernel_rfl) (by kernel_rfl) (by kernel_rfl) [x0,x1]).trans (by kernel_rfl)
def S65_0a(v0:List DV)(v1:Int)(v2:ByteArray)(v3:Int):St :=
 zr 26 [(2,(.ptr 2 3 0 [])),(3,(.ptr 3 3 0 [])),(12,(.d (.sl 3 v0))),(13,(.d (eI v1))),(14,(.d (eI 0)))] [(2,(.mk false (.dc 3 [(.agg 0 [(.str (bs [])),(eI 0),.nl])]))),(3,(.mk false (.dc 3 [(.agg 0 [(.str v2),(eI v3),.nl])])))]
noncomputable def L65_0a(v0:List DV)(v1:Int)(v2:ByteArray)(v3:Int):Option CR:=goQ 65 0 (S65_0a v0 v1 v2 v3)
def S65_0b(v0:List DV)(v1 v2:Int)(v3:ByteArray)(v4:Int)(v5:List DV):St :=
 zr 26 [(2,(.ptr 2 3 0 [])),(3,(.ptr 3 3 0 [])),(12,(.d (.sl 3 v0))),(13,(.d (eI v1))),(14,(.d (eI v2)))] [(2,(.mk false (.dc 3 [(.agg 0 [(.str (bs [])),(eI 0),.nl])]))),(3,(.mk false (.ac 3 [(.agg 0 [(.d (.str v3)),(.d (eI v4)),(.own 22 0 (Aa v5) 3)])]))),(22,(.mk false (.dc 3 v5)))]
noncomputable def zIY(v0:List DV)(v1 v2:Int)(v3:ByteArray)(v4:Int)(v5:List DV):Option CR:=goQ 65 0 (S65_0b v0 v1 v2 v3 v4 v5)
theorem L65_0a_eq(v0:List DV)(v1:Int)(v2:ByteArray)(v3:Int):L65_0a v0 v1 v2 v3 =
 ifO (decide ((0:Int)<v1))
 (ifO (decide (((0:Int)<=(0:Int))/\((0:Int)<(((Aa v0):Nat):Int))))
 (ifO (zF EE 6 143 (nth v0 0))
 ((zIY v0 v1 (1:Int) v2 v3 [(.agg 9 [(.str (zX (nth (flds (nth v0 0)) 0))),(.agg 1 [(eI (zC (nth (flds (nth (flds (nth v0 0)) 1)) 0))),(eI (zC (nth (flds (nth (flds (nth v0 0)) 1)) 1)))])])]))
 (none))
 (none))
 (some (.val (.agg 0 [(.str v2),(eI v3),(.sl 3 [])]))) :=
 (zb 65 0 _).trans (by kernel_rfl)
theorem zHN(v0:List DV)(v1 v2:Int)(v3:ByteArray)(v4:Int)(v5:List DV):zIY v0 v1 v2 v3 v4 v5 =
 ifO (decide (v2<v1))
 (ifO (decide (((0:Int)<=v2)/\(v2<(((Aa v0):Nat):Int))))
 (ifO (zF EE 6 143 (nth v0 (Ab v2)))
 (ifO (decide ((Aa v5)=(Aa v5)))
 (ifO (decide ((((2 * ((Aa v5)+1))+200) * 32)<=281474976710656))
 ((zIY v0 v1 (Ac .i64 (v2+(1:Int))) v3 v4 (v5++[(.agg 9 [(.str (zX (nth (flds (nth v0 (Ab v2))) 0))),(.agg 1 [(eI (zC (nth (flds (nth (flds (nth v0 (Ab v2))) 1)) 0))),(eI (zC (nth (flds (nth (flds (nth v0 (Ab v2))) 1)) 1)))])])])))
 (none))
 (none))
 (none))
 (none))
 (ifO (decide ((0+(Aa v5))<=(Aa v5)))
 (some (.val (.agg 0 [(.str v3),(eI v4),(.sl 3 (Aq (Aa v5) (As 0 v5)))])))
 (none)) :=
 (zb 65 0 _).trans (by kernel_rfl)
theorem C65(x0:DV):zB 65 [x0] =
 ifO (zV (zF EE 6) [24] [x0])
 ((L65_0a (elems (nth (flds x0) 2)) (((Aa (elems (nth (flds x0) 2))):Nat):Int) (zX (nth (flds x0) 0)) (zC (nth (flds x0) 1))))
 (none) :=
 (zM (f:=65) (by kernel_rfl) (by kernel_rfl) (by kernel_rfl) [x0]).trans (by kernel_rfl)
def S104_0a(v0:List DV)(v1:Int)(v2:ByteArray)(v3:Int):St :=
 zr 26 [(2,(.ptr 2 3 0 [])),(3,(.ptr 3 3 0 [])),(12,(.d (.sl 3 v0))),(13,(.d (eI v1))),(14,(.d (eI 0)))] [(2,(.mk false (.dc 3 [(.agg 0 [(.str (bs [])),(eI 0),.nl])]))),(3,(.mk false (.dc 3 [(.agg 0 [(.str v2),(eI v3),.nl])])))]
noncomputable def L104_0a(v0:List DV)(v1:Int)(v2:ByteArray)(v3:Int):Option CR:=goQ 104 0 (S104_0a v0 v1 v2 v3)
def S104_0b(v0:List DV)(v1 v2:Int)(v3:ByteArray)(v4:Int)(v5:List DV):St :=
 zr 26 [(2,(.ptr 2 3 0 [])),(3,(.ptr 3 3 0 [])),(12,(.d (.sl 3 v0))),(13,(.d (eI v1))),(14,(.d (eI v2)))] [(2,(.mk false (.dc 3 [(.agg 0 [(.str (bs [])),(eI 0),.nl])]))),(3,(.mk false (.ac 3 [(.agg 0 [(.d (.str v3)),(.d (eI v4)),(.own 22 0 (Aa v5) 3)])]))),(22,(.mk false (.dc 3 v5)))]
noncomputable def zFY(v0:List DV)(v1 v2:Int)(v3:ByteArray)(v4:Int)(v5:List DV):Option CR:=goQ 104 0 (S104_0b v0 v1 v2 v3 v4 v5)
theorem L104_0a_eq(v0:List DV)(v1:Int)(v2:ByteArray)(v3:Int):L104_0a v0 v1 v2 v3 =
 ifO (decide ((0:Int)<v1))
 (ifO (decide (((0:Int)<=(0:Int))/\((0:Int)<(((Aa v0):Nat):Int))))
 (ifO (zF EE 6 176 (nth v0 0))
 ((zFY v0 v1 (1:Int) v2 v3 [(.agg 9 [(.str (zX (nth (flds (nth v0 0)) 0))),(.agg 1 [(eI (zC (nth (flds (nth (flds (nth v0 0)) 1)) 0))),(eI (zC (nth (flds (nth (flds (nth v0 0)) 1)) 1)))])])]))
 (none))
 (none))
 (some (.val (.agg 0 [(.str v2),(eI v3),(.sl 3 [])]))) :=
 (zb 104 0 _).trans (by kernel_rfl)
theorem zFX(v0:List DV)(v1 v2:Int)(v3:ByteArray)(v4:Int)(v5:List DV):zFY v0 v1 v2 v3 v4 v5 =
 ifO (decide (v2<v1))
 (ifO (decide (((0:Int)<=v2)/\(v2<(((Aa v0):Nat):Int))))
 (ifO (zF EE 6 176 (nth v0 (Ab v2)))
 (ifO (decide ((Aa v5)=(Aa v5)))
 (ifO (decide ((((2 * ((Aa v5)+1))+200) * 32)<=281474976710656))
 ((zFY v0 v1 (Ac .i64 (v2+(1:Int))) v3 v4 (v5++[(.agg 9 [(.str (zX (nth (flds (nth v0 (Ab v2))) 0))),(.agg 1 [(eI (zC (nth (flds (nth (flds (nth v0 (Ab v2))) 1)) 0))),(eI (zC (nth (flds (nth (flds (nth v0 (Ab v2))) 1)) 1)))])])])))
 (none))
 (none))
 (none))
 (none))
 (ifO (decide ((0+(Aa v5))<=(Aa v5)))
 (some (.val (.agg 0 [(.str v3),(eI v4),(.sl 3 (Aq (Aa v5) (As 0 v5)))])))
 (none)) :=
 (zb 104 0 _).trans (by kernel_rfl)
theorem C104(x0:DV):zB 104 [x0] =
 ifO (zV (zF EE 6) [58] [x0])
 ((L104_0a (elems (nth (flds x0) 2)) (((Aa (elems (nth (flds x0) 2))):Nat):Int) (zX (nth (flds x0) 0)) (zC (nth (flds x0) 1))))
 (none) :=
 (zM (f:=104) (by kernel_rfl) (by kernel_rfl) (by kernel_rfl) [x0]).trans (by kernel_rfl)
def S129_0a(v0:Int)(v1:List DV):St :=
 zr 20 [(1,(.ptr 1 408 0 [])),(3,(.d (eI v0)))] [(1,(.mk false (.dc 408 [(.agg 3 v1)])))]
noncomputable def L129_0a(v0:Int)(v1:List DV):Option CR:=goQ 129 0 (S129_0a v0 v1)
def S129_1a(v0 v1:Int)(v2:List DV):St :=
 zr 20 [(1,(.ptr 1 408 0 [])),(3,(.d (eI v0))),(4,(.d (eI v1)))] [(1,(.mk false (.dc 408 [(.agg 3 v2)])))]
noncomputable def L129_1a(v0 v1:Int)(v2:List DV):Option CR:=goQ 129 1 (S129_1a v0 v1 v2)
theorem L129_0a_eq(v0:Int)(v1:List DV):L129_0a v0 v1 =
 ifO (decide (v0<(8:Int)))
 ((L129_1a v0 (0:Int) v1))
 (some (.val (eI 0))) :=
 (zb 129 0 _).trans (by kernel_rfl)
theorem L129_1a_eq(v0 v1:Int)(v2:List DV):L129_1a v0 v1 v2 =
 ifO (decide (v1<=(50:Int)))
 (ifO (decide (((0:Int)<=v0)/\(v0<(8:Int))))
 (ifO (decide (((0:Int)<=v1)/\(v1<(51:Int))))
 (ifO (jK 3 (Ab v0) (.agg 3 v2))
 (ifO (jK 2 (Ab v1) (nth v2 (Ab v0)))
 (ifO (zF EE 6 3 (nth (flds (nth v2 (Ab v0))) (Ab v1)))
 (zH (zB 37 [(eI (zC (nth (flds (nth v2 (Ab v0))) (Ab v1)))),(eI 0),(eI 40000)])
 (λr0=>ifO (zF EE 6 3 r0)
 (ifO (bne (zC r0) 0)
 (some (.val (eI 3)))
 ((L129_1a v0 (Ac .i64 (v1+(1:Int))) v2)))
 (none))
 (λ_ _=>none))
 (none))
 (none))
 (none))
 (none))
 (none))
 ((L129_0a (Ac .i64 (v0+(1:Int))) v2)) :=
 (zb 129 1 _).trans (by kernel_rfl)
theorem C129(x0:DV):zB 129 [x0] =
 ifO (zV (zF EE 6) [32] [x0])
 ((L129_0a (0:Int) (flds x0)))
 (none) :=
 (zM (f:=129) (by kernel_rfl) (by kernel_rfl) (by kernel_rfl) [x0]).trans (by kernel_rfl)
theorem C194(x0:DV):zB 194 [x0] =
 ifO (zV (zF EE 6) [3] [x0])
 (ifO (decide ((0:Int)<=(zC x0)))
 (ifO (jK 17 (Ab (zC x0)) (.agg 17 [(.agg 1 [(eI 0),(eI (-1))]),(.agg 1 [(eI (-1)),(eI (-1))]),(.agg 1 [(eI (-1)),(eI 0)]),(.agg 1 [(eI (-1)),(eI 1)]),(.agg 1 [(eI 0),(eI 1)]),(.agg 1 [(eI 1),(eI 1)]),(.agg 1 [(eI 1),(eI 0)]),(.agg 1 [(eI 1),(eI (-1))])]))
 (ifO (zF EE 6 141 (nth [(.agg 1 [(eI 0),(eI (-1))]),(.agg 1 [(eI (-1)),(eI (-1))]),(.agg 1 [(eI (-1)),(eI 0)]),(.agg 1 [(eI (-1)),(eI 1)]),(.agg 1 [(eI 0),(eI 1)]),(.agg 1 [(eI 1),(eI 1)]),(.agg 1 [(eI 1),(eI 0)]),(.agg 1 [(eI 1),(eI (-1))])] (Ab (zC x0))))
 (some (.val (.agg 1 [(eI (zC (nth (flds (nth [(.agg 1 [(eI 0),(eI (-1))]),(.agg 1 [(eI (-1)),(eI (-1))]),(.agg 1 [(eI (-1)),(eI 0)]),(.agg 1 [(eI (-1)),(eI 1)]),(.agg 1 [(eI 0),(eI 1)]),(.agg 1 [(eI 1),(eI 1)]),(.agg 1 [(eI 1),(eI 0)]),(.agg 1 [(eI 1),(eI (-1))])] (Ab (zC x0)))) 0))),(eI (zC (nth (flds (nth [(.agg 1 [(eI 0),(eI (-1))]),(.agg 1 [(eI (-1)),(eI (-1))]),(.agg 1 [(eI (-1)),(eI 0)]),(.agg 1 [(eI (-1)),(eI 1)]),(.agg 1 [(eI 0),(eI 1)]),(.agg 1 [(eI 1),(eI 1)]),(.agg 1 [(eI 1),(eI 0)]),(.agg 1 [(eI 1),(eI (-1))])] (Ab (zC x0)))) 1)))])))
 (none))
 (none))
 (none))
 (none) :=
 (zM (f:=194) (by kernel_rfl) (by kernel_rfl) (by kernel_rfl) [x0]).trans (by kernel_rfl)
end Go.Am
namespace Go.Am
open Go.Proofs
open Go
variable[OO]
def S35_0a(v0:List DV)(v1:Int):St :=
 zr 19 [(0,(.d (.sl 1 v0))),(3,(.d (eI v1)))] []
noncomputable def L35_0a(v0:List DV)(v1:Int):Option CR:=goQ 35 0 (S35_0a v0 v1)
theorem L35_0a_eq(v0:List DV)(v1:Int):L35_0a v0 v1 =
 ifO (decide (v1<(((Aa v0):Nat):Int)))
 (ifO (decide (((0:Int)<=v1)/\(v1<(((Aa v0):Nat):Int))))
 (ifO (zF EE 6 3 (nth v0 (Ab v1)))
 (ifO (bne (zC (nth v0 (Ab v1))) (0:Int))
 (ifO (decide (((0:Int)<=v1)/\(v1<(((Aa v0):Nat):Int))))
 (ifO (zF EE 6 3 (nth v0 (Ab v1)))
 (some (.val (eI (zC (nth v0 (Ab v1))))))
 (none))
 (none))
 ((L35_0a v0 (Ac .i64 (v1+(1:Int))))))
 (none))
 (none))
 (some (.val (eI 0))) :=
 (zb 35 0 _).trans (by kernel_rfl)
theorem C35(x0:DV):zB 35 [x0] =
 ifO (zV (zF EE 6) [25] [x0])
 ((L35_0a (elems x0) (0:Int)))
 (none) :=
 (zM (f:=35) (by kernel_rfl) (by kernel_rfl) (by kernel_rfl) [x0]).trans (by kernel_rfl)
theorem C37(x0 x1 x2:DV):zB 37 [x0,x1,x2] =
 ifO (zV (zF EE 6) [3,3,3] [x0,x1,x2])
 (ifO (decide ((zC x0)<(zC x1)))
 (some (.val (eI 3)))
 (ifO (decide ((zC x0)>(zC x2)))
 (some (.val (eI 3)))
 (some (.val (eI 0)))))
 (none) :=
 (zM (f:=37) (by kernel_rfl) (by kernel_rfl) (by kernel_rfl) [x0,x1,x2]).trans (by kernel_rfl)
theorem C164(x0:DV):zB 164 [x0] =
 ifO (zV (zF EE 6) [141] [x0])
 (zH (zB 37 [(eI (zC (nth (flds x0) 0))),(eI (-1000)),(eI 1000)])
 (λr0=>ifO (zF EE 6 3 r0)
 (zH (zB 37 [(eI (zC (nth (flds x0) 1))),(eI (-1000)),(eI 1000)])
 (λr1=>ifO (zF EE 6 3 r1)
 (zH (zB 35 [(.sl 1 [(eI (zC r0)),(eI (zC r1))])])
 (λr2=>ifO (zF EE 6 3 r2)
 (some (.val (eI (zC r2))))
 (none))
 (λ_ _=>none))
 (none))
 (λ_ _=>none))
 (none))
 (λ_ _=>none))
 (none) :=
 (zM (f:=164) (by kernel_rfl) (by kernel_rfl) (by kernel_rfl) [x0]).trans (by kernel_rfl)
def S238_0a(v0:List DV)(v1 v2:Int):St :=
 zr 18 [(0,(.d (.sl 1 v0))),(3,(.d (eI v1))),(4,(.d (eI v2)))] []
noncomputable def L238_0a(v0:List DV)(v1 v2:Int):Option CR:=goQ 238 0 (S238_0a v0 v1 v2)
theorem L238_0a_eq(v0:List DV)(v1 v2:Int):L238_0a v0 v1 v2 =
 ifO (decide (v2<(((Aa v0):Nat):Int)))
 (ifO (decide (((0:Int)<=v2)/\(v2<(((Aa v0):Nat):Int))))
 (ifO (zF EE 6 3 (nth v0 (Ab v2)))
 ((L238_0a v0 (Ac .i64 (v1+(zC (nth v0 (Ab v2))))) (Ac .i64 (v2+(1:Int)))))
 (none))
 (none))
 (some (.val (eI v1))) :=
 (zb 238 0 _).trans (by kernel_rfl)
theorem C238(x0:DV):zB 238 [x0] =
 ifO (zV (zF EE 6) [25] [x0])
 ((L238_0a (elems x0) (0:Int) (0:Int)))
 (none) :=
 (zM (f:=238) (by kernel_rfl) (by kernel_rfl) (by kernel_rfl) [x0]).trans (by kernel_rfl)
end Go.Am
namespace Go.Am
open Go.Proofs
open Go
variable[OO]
@[simp] theorem c37(n a b:Int):zB 37 [eI n,eI a,eI b]=some (.val (eI (zf n a b))):=by rw[C37];simp[zP,zf];by_cases h:n<a <;> by_cases h':n>b <;> simp[h,h']
end Go.Am
namespace Go.Am
open Go.Proofs
open Go
variable[OO]
theorem l35(l:List Int)(hl:l.length<=4611686018427387904):∀i,i<=l.length->L35_0a (l.map eI) i=some (.val (eI (zT (l.drop i)))):=by
 apply down
 ·rw[L35_0a_eq];simp[zT]
 ·intro i hi ih;rw[L35_0a_eq,za l i hi];have e1:(i:Int)<l.length:=by omega
  simp[e1,zO _ l i hi,zz,zT,wr (i+1) (by omega)]
  split
  ·exact_mod_cast ih
  ·rfl
@[simp] theorem c35(l:List Int)(hl:l.length<=4611686018427387904):zB 35 [.sl 1 (l.map eI)]=some (.val (eI (zT l))):=by rw[C35];simpa using l35 l hl 0 (Aj _)
@[simp] theorem c35_2(a b:Int):zB 35 [.sl 1 [eI a,eI b]]=some (.val (eI (zT [a,b]))):=c35 [a,b] (by simp)
@[simp] theorem c35_4(a b c d:Int):zB 35 [.sl 1 [eI a,eI b,eI c,eI d]]=some (.val (eI (zT [a,b,c,d]))):=c35 [a,b,c,d] (by simp)
theorem ptE_or(p:Pt):ptE p=0\/ptE p=3:=by unfold ptE zT zf;by_cases h1:p.x < -1000\/p.x>1000 <;> by_cases h2:p.y < -1000\/p.y>1000 <;> simp[h1,h2,zT]
@[simp] theorem c164(p:Pt):zB 164 [ePt p]=some (.val (eI (ptE p))):=by rw[C164];simp[ptE]
theorem memB_cons(n k:ByteArray)(ks:List ByteArray):YB n (k :: ks)=(decide (n=k) || YB n ks):=rfl
theorem apart_comm(a b:Pt):jQ a b=jQ b a:=by
 have e:∀x y:Int,(x - y) * (x - y)=(y - x) * (y - x):=λx y=>by rw[show x - y=-(y - x) by omega,Int.neg_mul_neg]
 unfold jQ;rw[e a.x b.x,e a.y b.y]
theorem l69_2(s:Si)(i:Nat)(hi:i<s.tb.length)(hl:s.tb.length<=64)(hp:∀o∈s.tb.take i,JP o.at')(ht:JP s.tb[i].at')(h1:1<=s.least)(h2:s.least<=1000) :
  ∀k,k<=i->L69_2a i k s.name s.least (s.tb.map eTb) s.tb[i].name s.tb[i].at'.x s.tb[i].at'.y =
   if ((s.tb.take i).drop k).any (λo=>decide (jQ s.tb[i].at' o.at'<s.least * s.least)) then some (.val (eI 15)) else L69_0a ((i+1:Nat):Int) s.name s.least (s.tb.map eTb):=by
 apply down
 ·rw[L69_2a_eq];simp[wr ((i:Int)+1) (by omega)]
 ·intro k hk ih;have hkl:k<s.tb.length:=by omega
  have hb:=YV s.least 1000 (by omega) h2
  have hkt:k<(s.tb.take i).length:=by simp;omega
  have ha:=hp s.tb[k] (by rw[List.mem_take_iff_getElem];exact⟨k,by omega,rfl⟩)
  have e1:(k:Int)<i:=by omega
  have e2:(k:Int)<s.tb.length:=by omega
  have step:L69_2a i k s.name s.least (s.tb.map eTb) s.tb[i].name s.tb[i].at'.x s.tb[i].at'.y =
    if jQ s.tb[i].at' s.tb[k].at'<s.least * s.least then some (.val (eI 15)) else L69_2a i ((k+1:Nat):Int) s.name s.least (s.tb.map eTb) s.tb[i].name s.tb[i].at'.x s.tb[i].at'.y:=by
   rw[L69_2a_eq];simp only[zP];simp[e1,e2,zO _ s.tb k hkl,c192 s.tb[k].at' s.tb[i].at' ha ht,wr (s.least * s.least) (by omega),wr (k+1) (by omega),apart_comm s.tb[k].at']
   rfl
  rw[step,ih,za _ k hkt,List.any_cons,Bb];by_cases hd:jQ s.tb[i].at' s.tb[k].at'<s.least * s.least
  ·rw[if_pos hd,decide_eq_true hd,Bo,if_pos rfl]
  ·rw[if_neg hd,decide_eq_false hd,AZ]
theorem l69_1(s:Si)(i:Nat)(hi:i<s.tb.length)(hl:s.tb.length<=64) :
  ∀k,k<=i->L69_1a i k s.name s.least (s.tb.map eTb) s.tb[i].name s.tb[i].at'.x s.tb[i].at'.y =
   if YB s.tb[i].name (((s.tb.take i).map (·.name)).drop k) then some (.val (eI 9)) else L69_2a i (0:Nat) s.name s.least (s.tb.map eTb) s.tb[i].name s.tb[i].at'.x s.tb[i].at'.y:=by
 apply down
 ·rw[L69_1a_eq];simp[YB]
 ·intro k hk ih;have hkl:k<s.tb.length:=by omega
  have hkt:k<((s.tb.take i).map (·.name)).length:=by simp;omega
  have e1:(k:Int)<i:=by omega
  have e2:(k:Int)<s.tb.length:=by omega
  have step:L69_1a i k s.name s.least (s.tb.map eTb) s.tb[i].name s.tb[i].at'.x s.tb[i].at'.y =
    if s.tb[i].name=s.tb[k].name then some (.val (eI 9)) else L69_1a i ((k+1:Nat):Int) s.name s.least (s.tb.map eTb) s.tb[i].name s.tb[i].at'.x s.tb[i].at'.y:=by
   rw[L69_1a_eq];simp only[Jg,zP];simp[e1,e2,zO _ s.tb k hkl,wr (k+1) (by omega),eq_comm (a:=s.tb[k].name)]
  rw[step,ih,za _ k hkt,memB_cons];simp only[AF,Bb];by_cases hd:s.tb[i].name=s.tb[k].name
  ·rw[if_pos hd,decide_eq_true hd,Bo,if_pos rfl]
  ·rw[if_neg hd,decide_eq_false hd,AZ]
theorem l69_0(s:Si)(hl:s.tb.length<=64)(h1:1<=s.least)(h2:s.least<=1000) :
  ∀i,i<=s.tb.length->(∀o∈s.tb.take i,JP o.at')->L69_0a i s.name s.least (s.tb.map eTb)=some (.val (eI (jY s.least (s.tb.take i) (s.tb.drop i)))):=by
 apply down (P:=λi=>(∀o∈s.tb.take i,JP o.at')->L69_0a i s.name s.least (s.tb.map eTb)=some (.val (eI (jY s.least (s.tb.take i) (s.tb.drop i)))))
 ·intro _;rw[L69_0a_eq];simp[jY]
 ·intro i hi ih hp;have e1:(i:Int)<s.tb.length:=by omega
  have htk:s.tb.take (i+1)=s.tb.take i++[s.tb[i]]:=by rw[Ah hi]
  rw[za s.tb i hi,jY];rw[htk] at ih;have step:L69_0a i s.name s.least (s.tb.map eTb) =
    if jJ s.tb[i].name=true then (if ptE s.tb[i].at'=0 then L69_1a i (0:Nat) s.name s.least (s.tb.map eTb) s.tb[i].name s.tb[i].at'.x s.tb[i].at'.y else some (.val (eI 3))) else some (.val (eI 8)):=by
   rw[L69_0a_eq];simp only[zP,zz];simp[e1,zO _ s.tb i hi,c130];cases jJ s.tb[i].name
   ·simp
   ·simp only[AD,zU,if_true];rfl
  rw[step];cases hn:jJ s.tb[i].name with
  | false=>simp[zT]
  | true =>
   by_cases hq:ptE s.tb[i].at'=0
   ·have ht:JP s.tb[i].at':=(zDs _).1 hq;simp only[if_true,hq];rw[l69_1 s i hi hl 0 (Aj _),Ak];cases hm:YB s.tb[i].name ((s.tb.take i).map (·.name)) with
    | true=>simp[zT]
    | false =>
     simp only[A9,if_false,zT,if_true,ne_eq,not_true_eq_false];rw[l69_2 s i hi hl hp ht h1 h2 0 (Aj _),Ak];split
     ·rfl
     ·refine ih λo ho=>?_
      rcases Bf.1 ho with ho | ho
      ·exact hp o ho
      ·rw[List.mem_singleton.1 ho];exact ht
   ·rcases ptE_or s.tb[i].at' with h | h
    ·exact absurd h hq
    ·simp[h,zT]
theorem c69(s:Si):zB 69 [eSi s]=some (.val (eI (jM s))):=by
 rw[C69];simp only[zz,zP];simp[jM,c130];cases hn:jJ s.name with
 | false=>simp[zT]
 | true =>
  by_cases hr:zf s.least 1 1000=0
  ·by_cases hl:(64:Int)<s.tb.length
   ·simp[hr,hl,zT]
   ·have h0:zT [if jJ s.name then 0 else 8,zf s.least 1 1000,if (64:Int)<s.tb.length then 5 else 0]=0:=by simp[zT,hn,hr,hl]
    obtain⟨_,h1,h2,h3⟩:=qi h0;have:=l69_0 s h3 h1 h2 0 (Aj _) (by simp)
    simpa[hr,hl,zT] using this
  ·have hr3:zf s.least 1 1000=3:=by unfold zf at hr ⊢;split at hr <;> simp_all
   simp[hr3,zT]
end Go.Am
namespace Go.Am
open Go.Proofs
open Go
variable[OO]
theorem l193(l:List ByteArray)(n:ByteArray)(hl:l.length<=1000):∀i,i<=l.length->L193_0a (l.map .str) n i=some (.val (.bool (YB n (l.drop i)))):=by
 apply down
 ·rw[L193_0a_eq];simp[YB]
 ·intro i hi ih;have e1:(i:Int)<l.length:=by omega
  rw[L193_0a_eq,za l i hi,memB_cons];simp only[Jg,zP,wr ((i:Int)+1) (by omega)]
  by_cases h:l[i]=n
  ·simp[e1,zO _ l i hi,h]
  ·have h':¬n=l[i]:=λe=>h e.symm
   simp only[decide_eq_false h',AZ];simp[e1,zO _ l i hi,h]
   exact_mod_cast ih
theorem c193(l:List ByteArray)(n:ByteArray)(hl:l.length<=1000):zB 193 [.sl 1 (l.map .str),.str n]=some (.val (.bool (YB n l))):=by rw[C193];simpa using l193 l n hl 0 (Aj _)
theorem l71_1(d w:List Int)(nm:ByteArray)(hl:w.length<=1000):∀i,i<=w.length->L71_1a i nm (d.map eI) (w.map eI)=some (.val (eI (jt 100 true (z6 w i) (w.drop i)))):=by
 apply down
 ·rw[L71_1a_eq];simp[jt]
 ·intro i hi ih;have e1:(i:Int)<w.length:=by omega
  rw[za w i hi,jt];rw[YH w i hi] at ih;have step:L71_1a i nm (d.map eI) (w.map eI)=if jV 100 true (z6 w i) w[i]=0 then L71_1a ((i+1:Nat):Int) nm (d.map eI) (w.map eI) else some (.val (eI (jV 100 true (z6 w i) w[i]))):=by
   rw[L71_1a_eq];simp only[zP,zz];by_cases hr:zf w[i] 0 100=0
   ·cases i with
    | zero =>
     simp[e1,hi,zO _ w 0 hi,z6,jV,wr 1 (by omega),hr,zT]
    | succ j =>
     have hj:j<w.length:=by omega
     have e2:(((j+1:Nat):Int) - 1)=(j:Int):=by omega
     have e3:(j:Int)<w.length:=by omega
     have e4:((j+1:Nat):Int)>0:=by omega
     have e5:((j+1:Nat):Int)<w.length:=by omega
     have e6:(0:Int)<=((j+1:Nat):Int):=by omega
     rw[e2,wr (j:Int) (by omega)]
     rw[wr (((j+1:Nat):Int)+1) (by omega)]
     simp only[e4,e5,e6,e3,Bd,and_self,if_true,Af,zO _ w (j+1) hi,zO _ w j hj];have e7:(j:Int)+1<w.length:=by omega
     by_cases hc:w[j+1]<w[j]
     ·simp[jV,z6,hj,e7,hc,hr,zT]
     ·simp[jV,z6,hj,e7,hc,hr,zT]
   ·have hs:jV 100 true (z6 w i) w[i]=zf w[i] 0 100:=by unfold jV;rw[zT,if_neg hr]
    simp[e1,hi,zO _ w i hi,hs,hr]
  rw[step,ih];split <;> rfl
theorem l71_0(d w:List Int)(nm:ByteArray)(hl:d.length<=1000):∀i,i<=d.length->L71_0a i nm (d.map eI) (w.map eI)=if jt 256 false (z6 d i) (d.drop i)=0 then L71_1a (0:Nat) nm (d.map eI) (w.map eI) else some (.val (eI (jt 256 false (z6 d i) (d.drop i)))):=by
 apply down
 ·rw[L71_0a_eq];simp[jt]
 ·intro i hi ih;have e1:(i:Int)<d.length:=by omega
  rw[za d i hi,jt];rw[YH d i hi] at ih;have step:L71_0a i nm (d.map eI) (w.map eI)=if jV 256 false (z6 d i) d[i]=0 then L71_0a ((i+1:Nat):Int) nm (d.map eI) (w.map eI) else some (.val (eI (jV 256 false (z6 d i) d[i]))):=by
   rw[L71_0a_eq];simp only[zP,zz];by_cases hr:zf d[i] 0 256=0
   ·cases i with
    | zero =>
     simp[e1,hi,zO _ d 0 hi,z6,jV,wr 1 (by omega),hr,zT]
    | succ j =>
     have hj:j<d.length:=by omega
     have e2:(((j+1:Nat):Int) - 1)=(j:Int):=by omega
     have e3:(j:Int)<d.length:=by omega
     have e4:((j+1:Nat):Int)>0:=by omega
     have e5:((j+1:Nat):Int)<d.length:=by omega
     have e6:(0:Int)<=((j+1:Nat):Int):=by omega
     rw[e2,wr (j:Int) (by omega)]
     rw[wr (((j+1:Nat):Int)+1) (by omega)]
     simp only[e4,e5,e6,e3,Bd,and_self,if_true,Af,zO _ d (j+1) hi,zO _ d j hj];have e7:(j:Int)+1<d.length:=by omega
     by_cases hc:d[j+1]>d[j]
     ·simp[jV,z6,hj,e7,hc,hr,zT]
     ·simp[jV,z6,hj,e7,hc,hr,zT]
   ·have hs:jV 256 false (z6 d i) d[i]=zf d[i] 0 256:=by unfold jV;rw[zT,if_neg hr]
    simp[e1,hi,zO _ d i hi,hs,hr]
  rw[step];by_cases h:jV 256 false (z6 d i) d[i]=0
  ·rw[if_pos h,if_pos h,ih]
  ·rw[if_neg h,if_neg h,if_neg h]
theorem c71(w:Wk):zB 71 [eWk w]=some (.val (eI (wakeE w))):=by
 have key:wakeH w=0->L71_0a 0 w.rule (w.d.map eI) (w.w.map eI)=some (.val (eI (if jt 256 false none w.d=0 then jt 100 true none w.w else jt 256 false none w.d))):=by
  intro h;obtain⟨_,_,h3,h4⟩:=wakeH_facts h;have a:=l71_0 w.d w.w w.rule (by omega) 0 (Aj _)
  have b:=l71_1 w.d w.w w.rule (by omega) 0 (Aj _)
  simp only[z6,if_true,Ak,AH] at a b;rw[a,b];split <;> rfl
 have h193:zB 193 [.sl 1 [.str rG,.str rS,.str rM],.str w.rule]=some (.val (.bool (ji w.rule))):=c193 [rG,rS,rM] w.rule (by simp)
 have fin:(if wakeH w=0 then L71_0a 0 w.rule (w.d.map eI) (w.w.map eI) else some (.val (eI (wakeH w))))=some (.val (eI (wakeE w))):=by
  unfold wakeE;by_cases h:wakeH w=0
  ·rw[if_pos h,if_pos h,key h]
  ·rw[if_neg h,if_neg h]
 rw[<-fin,C71,C92];simp only[zz,zP,JY];simp[h193];cases hk:ji w.rule with
 | false=>simp[wakeH,hk,zT]
 | true =>
  by_cases h1:w.d=[]
  ·simp[wakeH,hk,zT,h1]
  ·by_cases h2:(32:Int)<w.d.length
   ·simp[wakeH,hk,zT,h1,h2]
   ·by_cases h3:(w.w.length:Int)=w.d.length
    ·simp[wakeH,hk,zT,h1,h2,h3]
    ·simp[wakeH,hk,zT,h1,h2,h3]
end Go.Am
namespace Go.Am
open Go.Proofs
open Go
variable[OO]
theorem c194(n:Int)(h0:0<=n)(h7:n<=7):zB 194 [eI n]=some (.val (ePt (zY n))):=by
 rcases zC1 h0 h7 with rfl | rfl | rfl | rfl | rfl | rfl | rfl | rfl <;> (rw[C194];simp[zY,nth])
theorem c195(p:Pt)(n:Int)(h0:0<=n)(h7:n<=7)(k:Int)(hk:k<=1000000)(hx:-k<=p.x)(hx':p.x<=k)(hy:-k<=p.y)(hy':p.y<=k):zB 195 [ePt p,eI n]=some (.val (eI (zBb p (zY n)))):=by
 obtain⟨s1,s2,s3,s4⟩:=YG n;have h1:=jX p.x (zY n).x k hx hx' s1 s2;have h2:=jX p.y (zY n).y k hy hy' s3 s4;rw[C195];simp[c194 n h0 h7];rw[wr (p.x * (zY n).x) (by omega),wr (p.y * (zY n).y) (by omega),wr _ (by omega)]
 rfl
theorem c196(n:Int)(h:-1000000<=n)(h':n<=1000000):zB 196 [eI n]=some (.val (eI (Int.fdiv n 2))):=by
 have e:Int.fdiv n 2=n / 2:=Int.fdiv_eq_ediv_of_nonneg n (by omega)
 have t:Au n 2=if n<0 then -((-n) / 2) else n / 2:=by
  split
  ·have:=Int.neg_tdiv (a:=-n) (b:=2);rw[Int.neg_neg] at this;rw[this,AB (by omega)]
  ·rw[AB (by omega)]
 have m:A5 n 2=n - 2 * Au n 2:=by have:=Int.tmod_add_mul_tdiv n 2;omega
 rw[C196,e];simp only[zP,zz];simp only[zK,h3,zN,Ag,zD,zI];simp only[m,t];by_cases hn:n<0
 ·simp only[hn,if_true,wr (-(-n / 2)) (by omega),wr (-(-n / 2) - 1) (by omega)]
  split
  ·congr 3;omega
  ·congr 3;omega
 ·simp only[hn,if_false,wr (n / 2) (by omega)]
theorem c197(n:Int)(h:-1000000<=n)(h':n<=1000000):zB 197 [eI n]=some (.val (eI (if 0 - n>n then 0 - n else n))):=by rw[C197];simp only[zK,h3,zN,Ag,zD,zI];simp only[wr (0 - n) (by omega)]
theorem c72(a b:Pt)(n:Int)(h0:0<=n)(h7:n<=7)(ha:JP a)(hb:JP b):zB 72 [ePt a,ePt b,eI n]=some (.val (.tup [eI (Y8 n (zY n) a b).1,eI (Y8 n (zY n) a b).2])):=by
 obtain⟨a1,a2,a3,a4⟩:=ha;obtain⟨b1,b2,b3,b4⟩:=hb;have hal:=c195 ⟨b.x - a.x,b.y - a.y⟩ n h0 h7 2000 (by omega) (by simp;omega) (by simp;omega) (by simp;omega) (by simp;omega)
 obtain⟨s1,s2,s3,s4⟩:=YG n;have h1:=jX (b.x - a.x) (zY n).y 2000 (by omega) (by omega) s3 s4
 have h2:=jX (b.y - a.y) (zY n).x 2000 (by omega) (by omega) s1 s2
 have h5:=jX (b.x - a.x) (zY n).x 2000 (by omega) (by omega) s1 s2
 have h6:=jX (b.y - a.y) (zY n).y 2000 (by omega) (by omega) s3 s4
 have hab:=c197 ((b.x - a.x) * (zY n).y - (b.y - a.y) * (zY n).x) (by omega) (by omega)
 have hha:=c196 ((b.x - a.x) * (zY n).x+(b.y - a.y) * (zY n).y) (by omega) (by omega)
 rw[C72];simp only[zK,h3,h141,zN,Ag,zD,zQ,zS,zW,zI,c194 n h0 h7,zJ];simp only[wr (b.x - a.x) (by omega),wr (b.y - a.y) (by omega),wr ((b.x - a.x) * (zY n).y) (by omega),wr ((b.y - a.y) * (zY n).x) (by omega),wr ((b.x - a.x) * (zY n).y - (b.y - a.y) * (zY n).x) (by omega)]
 simp only[hal,zJ,h3,zD,zI,JY,hab,zBb,hha,Y8,relI];by_cases h:A5 n 2=1
 ·simp only[h,if_true]
 ·simp only[h,if_false]
theorem c73(w:Wk)(s o:Int)(hl:w.w.length=w.d.length)(hd:w.d.length<=1000):zB 73 [eWk w,eI s,eI o]=some (.val (eI (zBz w.d w.w s o))):=by
 rw[C73];simp only[zP];by_cases h1:s<1
 ·simp[h1,zBz]
 ·by_cases h2:s>w.d.length
  ·simp[h1,h2,zBz]
  ·obtain⟨k,rfl⟩:∃k:Nat,s=(k:Int)+1:=⟨(s - 1).toNat,by omega⟩
   have hk:k<w.d.length:=by omega
   have hk':k<w.w.length:=by omega
   have e1:((k:Int)+1 - 1)=k:=by omega
   have e2:(k:Int)<w.d.length:=by omega
   have e3:(k:Int)<w.w.length:=by omega
   simp only[zBz,e1,Af];simp[h1,h2,e2,e3,wr (k:Int) (by omega),zO _ w.d k hk,zO _ w.w k hk',hk,hk']
   by_cases h4:o>w.w[k]
   ·simp[h4]
   ·simp[h4]
end Go.Am
namespace Go.Am
open Go.Proofs
open Go
variable[OO]
def listB(l:List Int)(e bad:Int)(want:List Int):Bool:=if e=bad then (if bad=0 then decide (l=want) else decide (l=[])) else false
theorem c56(l:List Int)(hb:l.length<=1000000):zB 56 [.sl 1 (l.map eI)]=some (.val (.sl 1 (l.map eI))):=by
 rw[C56];simp only[zP];have h1:(2 * l.length+200) * 8<=281474976710656:=by omega
 cases l with
 | nil=>simp
 | cons a l =>
  simp only[AE] at h1;simp[h1];exact Ai (by simp)
theorem c67(w:Wk)(h1:w.d.length<=1000000)(h2:w.w.length<=1000000):zB 67 [eWk w]=some (.val (eWk w)):=by rw[C67];simp[c56 w.d h1,c56 w.w h2]
theorem c107(c:Cu)(h1:c.p.length<=1000000):zB 107 [eCu c]=some (.val (eCu c)):=by rw[C107];simp[c56 c.p h1]
def zDr(s:Si)(n:Int):Bool :=
 if (s.name.size:Int)>60 then false else if (s.tb.length:Int)>n/\s.tb.length≠65 then false else s.tb.all λt=>decide ((t.name.size:Int)<=60)
theorem l62(s:Si)(hl:s.tb.length<=1000):∀i,i<=s.tb.length->zGa i s.name s.least (s.tb.map eTb)=some (.val (.bool ((s.tb.drop i).all λt=>decide ((t.name.size:Int)<=60)))):=by
 apply down
 ·rw[zHO];simp
 ·intro i hi ih;have e1:(i:Int)<s.tb.length:=by omega
  rw[za s.tb i hi,List.all_cons];rw[zHO];simp only[zP];by_cases h:(s.tb[i].name.size:Int)>60
  ·have hd:decide ((s.tb[i].name.size:Int)<=60)=false:=decide_eq_false (by omega)
   rw[hd,Bool.false_and];simp[e1,zO _ s.tb i hi,h]
  ·have hd:decide ((s.tb[i].name.size:Int)<=60)=true:=decide_eq_true (by omega)
   rw[hd,Bool.true_and,<-ih];simp[e1,zO _ s.tb i hi,h,wr ((i:Int)+1) (by omega)]
theorem c62(s:Si)(n:Int)(hn:n<=100):zB 62 [eSi s,eI n]=some (.val (.bool (zDr s n))):=by
 rw[C62];simp only[zP,zz];unfold zDr;by_cases h1:(s.name.size:Int)>60
 ·simp[h1]
 ·by_cases h2:(s.tb.length:Int)>n
  ·by_cases h3:s.tb.length=65
   ·have:=l62 s (by omega) 0 (Aj _)
    have h3':(s.tb.length:Int)=65:=by omega
    simp only[AH,Ak] at this;simp[h1,h2,h3,h3'];rw[this]
   ·have h3':¬(s.tb.length:Int)=65:=by omega
    simp[h1,h2,h3,h3']
  ·have:=l62 s (by omega) 0 (Aj _)
   simp only[AH,Ak] at this;simp[h1,h2];rw[this]
def short33(n:Nat):Bool:=decide ((n:Int)<=6) || ((n:Int) == 33)
def shortW(w:Wk):Bool:=decide ((w.rule.size:Int)<=40) && short33 w.d.length && short33 w.w.length
theorem c63(w:Wk):zB 63 [eWk w]=some (.val (.bool (shortW w))):=by
 rw[C63];simp only[zP,JY];unfold shortW short33;by_cases h1:(w.rule.size:Int)<=40
 ·by_cases h2:(w.d.length:Int)<=6
  ·by_cases h3:(w.w.length:Int)<=6
   ·simp[h1,h2,h3]
   ·simp[h1,h2,h3]
  ·by_cases h4:(w.d.length:Int)=33
   ·by_cases h3:(w.w.length:Int)<=6
    ·simp[h1,h2,h3,h4]
    ·simp[h1,h2,h3,h4]
   ·simp[h1,h2,h4]
 ·simp[h1]
end Go.Am
namespace Go.Am
open Go.Proofs
open Go
variable[OO]
theorem l65_b(tbs:List Tb)(nm:ByteArray)(least:Int)(hl:tbs.length<=100000):∀i,i<=tbs.length->zIY (tbs.map eTb) tbs.length i nm least ((tbs.take i).map eTb)=some (.val (.agg 0 [.str nm,eI least,.sl 3 (tbs.map eTb)])):=by
 apply down
 ·rw[zHN];simp;exact Ai (by simp)
 ·intro i hi ih;have e1:(i:Int)<tbs.length:=by omega
  have htk:tbs.take (i+1)=tbs.take i++[tbs[i]]:=by rw[Ah hi]
  rw[<-ih];rw[zHN];simp only[zP];have hm:min i tbs.length=i:=by omega
  have e2:(2 * (i+1)+200) * 32<=281474976710656:=by omega
  simp[e1,zO _ tbs i hi,hm,e2,wr ((i:Int)+1) (by omega)]
  congr 1;rw[Ah (by simpa using hi)]
  simp
theorem c65(s:Si)(hl:s.tb.length<=100000):zB 65 [eSi s]=some (.val (eSi s)):=by
 rw[C65];simp;rw[L65_0a_eq];simp only[zP];by_cases h:s.tb=[]
 ·simp[h]
 ·have h0:0<s.tb.length:=AA.2 h;have h1:=l65_b s.tb s.name s.least hl 1 (by omega)
  have e:s.tb.take 1=[s.tb[0]]:=by rw[Ah h0];simp
  rw[e] at h1;simp[h0,zO _ s.tb 0 h0];simpa using h1
end Go.Am
namespace Go.Am
open Go.Proofs
open Go
variable[OO]
theorem shortS_len{s:Si}{n:Int}(h:zDr s n=true):(s.tb.length:Int)<=n\/s.tb.length=65:=by
 unfold zDr at h;split at h
 ·cases h
 ·split at h
  ·cases h
  ·omega
theorem short33_le{n:Nat}(h:short33 n=true):n<=33:=by simp[short33] at h;omega
end Go.Am
namespace Go.Am
open Go.Proofs
open Go
variable[OO]
theorem l238(l:List Int)(hl:l.length<=100000)(hb:∀x∈l,0<=x/\x<=100000000):∀i,i<=l.length->∀n:Int,0<=n->n<=i * 100000000->L238_0a (l.map eI) n i=some (.val (eI (n+jZ (l.drop i)))):=by
 apply down (P:=λi=>∀n:Int,0<=n->n<=i * 100000000->L238_0a (l.map eI) n i=some (.val (eI (n+jZ (l.drop i)))))
 ·intro n _ _;rw[L238_0a_eq];simp[jZ]
 ·intro i hi ih n h0 h1;have e1:(i:Int)<l.length:=by omega
  have hx:=hb l[i] (Al hi);have ih':=ih (n+l[i]) (by omega) (by omega)
  rw[L238_0a_eq,za l i hi];simp only[zP];simp[e1,zO _ l i hi,wr ((i:Int)+1) (by omega),wr (n+l[i]) (by omega),jZ]
  rw[show((i:Int)+1)=((i+1:Nat):Int) by omega,ih']
  simp;omega
theorem c238(l:List Int)(hl:l.length<=100000)(hb:∀x∈l,0<=x/\x<=100000000):zB 238 [.sl 1 (l.map eI)]=some (.val (eI (jZ l))):=by rw[C238];simpa using l238 l hl hb 0 (Aj _) 0 (by omega) (by omega)
theorem rS_ne_rM:¬rS=rM:=by decide
theorem rG_ne_rM:¬rG=rM:=by decide
theorem rG_ne_rS:¬rG=rS:=by decide
end Go.Am
namespace Go.Am
open Go.Proofs
open Go
variable[OO]
theorem l110(l:List Int)(cut:Int)(hl:l.length<=1000):∀i,i<=l.length->L110_0a i (l.map eI) cut=some (.val (eI (Jl cut (if i=0 then none else some (l.getD (i - 1) 0)) (l.drop i)))):=by
 apply down
 ·rw[L110_0a_eq];simp[Jl]
 ·intro i hi ih;have e1:(i:Int)<l.length:=by omega
  have hgi:l.getD i 0=l[i]:=by rw[Ar,At hi];rfl
  rw[if_neg (by omega:¬i+1=0),Ba,hgi] at ih
  have ih2:L110_0a (Ay.wrap ((i:Int)+1)) (l.map eI) cut=some (.val (eI (Jl cut (some l[i]) (l.drop (i+1))))):=by rw[wr ((i:Int)+1) (by omega)];exact_mod_cast ih
  rw[L110_0a_eq,za l i hi];have hn:=zO eI l i hi;have e7:(0:Int)<=(i:Int):=by omega
  simp only[zP,JY,zz];simp only[Ad,e1,e7,if_true,and_self,Af,hn,h3,ih2,zD,c37,zJ];by_cases hz:i=0
  ·subst hz;simp only[AH,gt_iff_lt,An,if_false,if_true];rw[Jl];by_cases hX:zf l[0] 0 100000=0
   ·refine(if_pos hX).trans ?_;by_cases h6:l[0]=0
    ·refine(if_pos h6).trans ?_;have e:jc none l[0]=0:=by rw[h6] at hX;simp[jc,zT,hX,h6]
     rw[if_pos e]
    ·refine(if_neg h6).trans ?_;have e:jc none l[0]=6:=by simp[jc,zT,hX,h6]
     rw[e];rfl
   ·refine(if_neg hX).trans ?_;have e:jc none l[0]=zf l[0] 0 100000:=by simp[jc,zT,hX]
    rw[e,if_neg hX];rfl
  ·obtain⟨k,rfl⟩:∃k,i=k+1:=⟨i - 1,by omega⟩
   have hk:k<l.length:=by omega
   have hgk:l.getD k 0=l[k]:=by rw[Ar,At hk];rfl
   have hnk:=zO eI l k hk;have e3:Ay.wrap (((k+1:Nat):Int) - 1)=k:=by rw[wr _ (by omega)];omega
   have e5:((k+1:Nat):Int)>0:=by omega
   have e6:¬((k+1:Nat):Int)=0:=by omega
   have e8:(0:Int)<=(k:Int)/\(k:Int)<l.length:=by omega
   simp only[e3,e5,e6,e8,if_true,if_false,and_self,Af,hnk,h3,zD];rw[Jl];simp only[Ba,hgk,Nat.add_eq_zero_iff,Nat.one_ne_zero,and_false,if_false];by_cases hX:zf l[k+1] 0 100000=0
   ·refine(if_pos hX).trans ?_;by_cases h6:l[k+1]<l[k]
    ·refine(if_pos h6).trans ?_;have e:jc (some l[k]) l[k+1]=11:=by simp[jc,zT,hX,h6]
     rw[e];rfl
    ·refine(if_neg h6).trans ?_;rw[if_pos (by simp[jc,zT,hX,h6])]
   ·refine(if_neg hX).trans ?_;have e:jc (some l[k]) l[k+1]=zf l[k+1] 0 100000:=by simp[jc,zT,hX]
    rw[e,if_neg hX];rfl
theorem c110(c:Cu):zB 110 [eCu c]=some (.val (eI (YK c))):=by
 rw[C110];simp only[zP];simp only[zK,zN,h29,Ag,zD,zQ,zS,zW,zR,zI,Ad];unfold YK;by_cases h1:(c.p.length:Int)<2
 ·simp[h1]
 ·by_cases h2:(c.p.length:Int)>51
  ·simp[h1,h2]
  ·rw[if_neg h1,if_neg h2,if_neg h1,if_neg h2,<-zBA];have:=l110 c.p c.cut (by omega) 0 (Aj _)
   simpa using this
theorem l129_1(r:List (List Int))(s:Nat)(hs:s<r.length)(h8:r.length=8)(hrow:r[s].length=51):∀k,k<=r[s].length->L129_1a s k (r.map jC)=if J5 (r[s].drop k)=0 then L129_0a (Ay.wrap ((s:Int)+1)) (r.map jC) else some (.val (eI 3)):=by
 apply down
 ·rw[L129_1a_eq];simp only[zP];rw[if_neg (by omega)]
  simp[J5]
 ·intro k hk ih;have e1:(k:Int)<=50:=by omega
  have e2:(0:Int)<=(s:Int)/\(s:Int)<8:=by omega
  have e3:(0:Int)<=(k:Int)/\(k:Int)<51:=by omega
  rw[L129_1a_eq,za r[s] k hk];simp only[zP,zz];rw[if_pos e1,if_pos e2,if_pos e3];simp only[Af,js _ _ _ _ hs,zD,zO _ r s hs,js _ _ _ _ hk,zQ,zO _ r[s] k hk,h3,zI,c37,zJ];rw[wr ((k:Int)+1) (by omega),show((k:Int)+1)=((k+1:Nat):Int) by omega,ih]
  rw[Q0];rcases zCV r[s][k] 0 40000 with hr | hr
  ·simp[hr]
  ·simp[hr]
theorem l129_0(r:List (List Int))(h:zu r):∀s,s<=r.length->L129_0a s (r.map jC)=some (.val (eI (qj (r.drop s)))):=by
 apply down
 ·rw[L129_0a_eq];have:=h.1;simp only[zP];rw[if_neg (by omega)]
  simp[qj]
 ·intro s hs ih;have hl:=h.1;have hrow:=h.2 r[s] (Al hs);have e1:(s:Int)<8:=by omega
  rw[L129_0a_eq,za r s hs];simp only[zP];rw[if_pos e1];have:=l129_1 r s hs hl hrow 0 (Aj _);rw[show((0:Nat):Int)=0 from rfl] at this
  rw[this,wr ((s:Int)+1) (by omega),show((s:Int)+1)=((s+1:Nat):Int) by omega,ih,Ak]
  rw[zBl];split <;> simp_all
theorem c129(r:List (List Int))(h:zu r):zB 129 [eRo r]=some (.val (eI (qj r))):=by rw[C129];simp only[zK,zN,h32,Ad,h.1,decide_true,Ag,zD,zQ];have:=l129_0 r h 0 (Aj _);simpa using this
theorem hFm'(f:Fm)(h:zu f.r):zF EE 6 34 (eFm f)=true:=by rw[h34];simp[h.1]
theorem c22(f:Fm)(h:zu f.r):zB 22 [eFm f]=some (.val (eI (YO f))):=by rw[C22];simp only[zK,zN,hFm' f h,Ag,zD,zQ,zS,zW,zh,zi,zZ,zI,zR];simp only[c69,c71,c110,c129 f.r h,zJ,h3,zD,zI,c35_4];rfl
end Go.Am
namespace Go.Am
open Go.Proofs
open Go
variable[OO]
def fillR(row:List Int)(k:Nat):List Int:=row.take k++Ae (row.length - k) 0
theorem fillR_len(row:List Int)(k:Nat)(h:k<=row.length):(fillR row k).length=row.length:=by simp[fillR];omega
theorem fillR_zero(row:List Int):fillR row 0=Ae row.length 0:=by simp[fillR]
theorem fillR_end(row:List Int):fillR row row.length=row:=by simp[fillR]
theorem fillR_set(row:List Int)(k:Nat)(h:k<row.length):(fillR row k).set k row[k]=fillR row (k+1):=by
 unfold fillR;rw[AM _ _ (by simp;omega)]
 have e1:row.length - k=(row.length - (k+1))+1:=by omega
 have e2:k - (Aq k row).length=0:=by simp;omega
 rw[e1,e2,AO,AP,Ah h,AC];rfl
theorem fillR_skip(row:List Int)(k:Nat)(h:k<row.length)(h0:row[k]=0):fillR row (k+1)=fillR row k:=by
 unfold fillR;have e1:row.length - k=(row.length - (k+1))+1:=by omega
 rw[e1,AO,Ah h,AC,h0];rfl
theorem ptAt'(s:Si)(i:Nat)(h:i<s.tb.length):(zo s).getD i default=s.tb[i].at':=by rw[Ar];simp[zo,h]
theorem rowP'_get(w:Wk)(s:Si)(sec:Int)(st:Pt)(j i:Nat)(hi:i<(jk w (zo s) sec st j).length):(jk w (zo s) sec st j)[i]=if i=j then 0 else zGV w sec st ((zo s).getD i default) ((zo s).getD j default):=by simp[jk]
theorem rowP'_len(w:Wk)(s:Si)(sec:Int)(st:Pt)(j:Nat):(jk w (zo s) sec st j).length=s.tb.length:=by simp[jk,zo]
section
variable{s:Si}{w:Wk}{sec:Int}(h:SiteOK s w sec)
include h
theorem l79_1b(V:List DV)(hV:V.length<=1000)(j:Nat)(hj:j<s.tb.length):∀k,k<=(jk w (zo s) sec (zY sec) j).length ->
  L79_1b sec V j (Ae s.tb.length (eI 0)) k s.name s.least (s.tb.map eTb) w.rule (w.d.map eI) (w.w.map eI) ((fillR (jk w (zo s) sec (zY sec) j) k).map eI) =
   L79_0b sec (V++[.sl 1 ((jk w (zo s) sec (zY sec) j).map eI)]) ((j+1:Nat):Int) s.name s.least (s.tb.map eTb) w.rule (w.d.map eI) (w.w.map eI):=by
 have hlen:=rowP'_len w s sec (zY sec) j;generalize hrow:jk w (zo s) sec (zY sec) j=row at hlen ⊢;have hl:=h.l;apply down
 ·rw[L79_1b_eq,fillR_end];simp only[zP];have e:(2 * (V.length+1)+200) * 24<=281474976710656:=by omega
  simp[hlen,e,wr ((j:Int)+1) (by omega)]
  rw[Ai (by simp;omega)]
 ·intro k hk ih;have hk':k<s.tb.length:=by omega
  have hrk:row[k]=if k=j then 0 else zGV w sec (zY sec) ((zo s).getD k default) ((zo s).getD j default):=by subst hrow;exact rowP'_get w s sec (zY sec) j k hk
  have e1:(k:Int)<s.tb.length:=by omega
  have e2:(j:Int)<s.tb.length:=by omega
  rw[L79_1b_eq,<-ih];simp only[zP,zz];by_cases hkj:k=j
  ·rw[if_pos hkj] at hrk;rw[fillR_skip row k hk hrk];subst hkj;simp[e1,wr ((k:Int)+1) (by omega)]
  ·rw[if_neg hkj,ptAt' s k hk',ptAt' s j hj] at hrk;have hne:¬((k:Int)=(j:Int)):=by omega
   have c1:=c72 s.tb[k].at' s.tb[j].at' sec h.s.1 h.s.2 (h.p _ (Al hk')) (h.p _ (Al hj));have c2:=c73 w (Y8 sec (zY sec) s.tb[k].at' s.tb[j].at').1 (Y8 sec (zY sec) s.tb[k].at' s.tb[j].at').2 h.w.2.1 (by have:=h.w.2.2;omega)
   have hset:=fillR_set row k hk;have hfl:=fillR_len row k (by omega)
   rw[hrk] at hset;simp only[zGV] at hset;have e3:k<(Bj eI (fillR row k)).length:=by simp[hfl];omega
   simp[e1,e2,hne,zO _ s.tb k hk',zO _ s.tb j hj,c1,c2,wr ((k:Int)+1) (by omega),hfl,hlen,hk']
   rw[<-hset,AI]
theorem l79_1a:∀k,k<=(jk w (zo s) sec (zY sec) 0).length->0<s.tb.length ->
  L79_1a sec (Ae s.tb.length (eI 0)) k s.name s.least (s.tb.map eTb) w.rule (w.d.map eI) (w.w.map eI) ((fillR (jk w (zo s) sec (zY sec) 0) k).map eI) =
   L79_0b sec [.sl 1 ((jk w (zo s) sec (zY sec) 0).map eI)] 1 s.name s.least (s.tb.map eTb) w.rule (w.d.map eI) (w.w.map eI):=by
 have hlen:=rowP'_len w s sec (zY sec) 0;generalize hrow:jk w (zo s) sec (zY sec) 0=row at hlen ⊢;have hl:=h.l;apply down (P:=λk=>0<s.tb.length->L79_1a sec (Ae s.tb.length (eI 0)) k s.name s.least (s.tb.map eTb) w.rule (w.d.map eI) (w.w.map eI) ((fillR row k).map eI) =
   L79_0b sec [.sl 1 (row.map eI)] 1 s.name s.least (s.tb.map eTb) w.rule (w.d.map eI) (w.w.map eI))
 ·intro _;rw[L79_1a_eq,fillR_end];simp only[zP];simp[hlen];rw[Ai (by simp;omega)]
 ·intro k hk ih h0;have ih:=ih h0;have hk':k<s.tb.length:=by omega
  have hrk:row[k]=if k=0 then 0 else zGV w sec (zY sec) ((zo s).getD k default) ((zo s).getD 0 default):=by subst hrow;exact rowP'_get w s sec (zY sec) 0 k hk
  have e1:(k:Int)<s.tb.length:=by omega
  have e2:(0:Int)<s.tb.length:=by omega
  rw[L79_1a_eq,<-ih];simp only[zP,zz];by_cases hkj:k=0
  ·rw[if_pos hkj] at hrk;rw[fillR_skip row k hk hrk];subst hkj;simp[e2,h0,wr 1 (by omega)]
  ·rw[if_neg hkj,ptAt' s k hk',ptAt' s 0 h0] at hrk;have hne:¬((k:Int)=0):=by omega
   have c1:=c72 s.tb[k].at' s.tb[0].at' sec h.s.1 h.s.2 (h.p _ (Al hk')) (h.p _ (Al h0));have c2:=c73 w (Y8 sec (zY sec) s.tb[k].at' s.tb[0].at').1 (Y8 sec (zY sec) s.tb[k].at' s.tb[0].at').2 h.w.2.1 (by have:=h.w.2.2;omega)
   have hset:=fillR_set row k hk;have hfl:=fillR_len row k (by omega)
   rw[hrk] at hset;simp only[zGV] at hset;have e3:k<(Bj eI (fillR row k)).length:=by simp[hfl];omega
   simp[e1,e2,hne,hkj,zO _ s.tb k hk',zO _ s.tb 0 h0,c1,c2,wr ((k:Int)+1) (by omega),hfl,hlen,hk',h0]
   rw[<-hset,AI]
theorem l79_0b:∀j,j<=s.tb.length->L79_0b sec (((Ap j).map (jk w (zo s) sec (zY sec))).map λr=>.sl 1 (r.map eI)) j s.name s.least (s.tb.map eTb) w.rule (w.d.map eI) (w.w.map eI) =
  some (.val (.sl 1 ((wakesP w (zo s) sec (zY sec)).map λr=>.sl 1 (r.map eI)))):=by
 have hl:=h.l;apply down
 ·rw[L79_0b_eq];simp only[zP];have:=zIU ((Ap s.tb.length).map (jk w (zo s) sec (zY sec)));simp only[Ad,An,if_false,Av,Aw,if_true,Ak];rw[Ai (by simp),this]
  simp[wakesP,zo]
 ·intro j hj ih;have e1:(j:Int)<s.tb.length:=by omega
  have k1:=l79_1b h (((Ap j).map (jk w (zo s) sec (zY sec))).map λr=>.sl 1 (r.map eI)) (by simp;omega) j hj 0 (Aj _)
  rw[fillR_zero,rowP'_len,AQ,show((0:Nat):Int)=0 from rfl] at k1
  rw[L79_0b_eq];simp only[zP,Ad,Af,true_and];rw[if_pos e1,if_pos (by omega),k1,<-ih]
  congr 1;rw[List.range_succ];simp
theorem c79:zB 79 [eSi s,eWk w,eI sec]=some (.val (.sl 1 ((wakesP w (zo s) sec (zY sec)).map λr=>.sl 1 (r.map eI)))):=by
 rw[C79];simp only[zK,zN,h24,h27,h3,Ag,zD,zQ,zS,zW,zh,zZ,zI,zR];have hl:=h.l;rw[L79_0a_eq];simp only[zP,Ad,Af,true_and];by_cases h0:s.tb.length=0
 ·rw[if_neg (by omega)]
  simp[wakesP,zo,h0]
 ·have h0':0<s.tb.length:=by omega
  have k1:=l79_1a h 0 (Aj _) h0';rw[fillR_zero,rowP'_len,AQ,show((0:Nat):Int)=0 from rfl] at k1
  have k2:=l79_0b h 1 h0';rw[if_pos (by omega),if_pos (by omega),k1]
  simpa using k2
end
theorem beqB(a b:ByteArray):(a.toList == b.toList)=decide (a=b):=Jg a b
theorem l201_1(n:Int)(h0:0<=n)(hn:n<=100000000):∀(k:Nat) (r:Int),0<=r->r * r<=n->n - r<=k->L201_1a n r=some (.val (eI (Yn (qR n)))):=by
 intro k;induction k with
 | zero =>
  intro r h1 h2 h3;have hr:=qk n 0 r h1 h2 (by omega)
  have he:r=qR n:=IsRoot.unique hr (Yd h0);rw[L201_1a_eq];have hlt:=hr.2.2;simp only[zCJ] at hlt;have hr1:r<=10000:=by
   rcases Bq 10000 r with hh | hh
   ·have:=JV (a:=10001) (b:=r) (by omega) (by omega);omega
   ·exact hh
  have hs:=JV (a:=r+1) (b:=10001) (by omega) (by omega)
  have hs0:=AN (a:=r+1) (b:=r+1) (by omega) (by omega)
  simp only[zP];rw[wr (r+1) (by omega),wr ((r+1) * (r+1)) (by omega),if_neg (by omega),<-he]
  unfold Yn;split <;> split <;> first | rfl | (congr 3;omega)
 | succ k ih =>
  intro r h1 h2 h3;have hr1:r<=10000:=by
   rcases Bq 10000 r with hh | hh
   ·have:=JV (a:=10001) (b:=r) (by omega) (by omega);omega
   ·exact hh
  have hs:=JV (a:=r+1) (b:=10001) (by omega) (by omega)
  have hs0:=AN (a:=r+1) (b:=r+1) (by omega) (by omega)
  rw[L201_1a_eq];simp only[zP];rw[wr (r+1) (by omega),wr ((r+1) * (r+1)) (by omega)]
  by_cases hc:(r+1) * (r+1)<=n
  ·rw[if_pos hc];exact ih (r+1) (by omega) hc (by omega)
  ·rw[if_neg hc];have he:r=qR n:=IsRoot.unique ⟨h1,h2,by omega⟩ (Yd h0)
   rw[<-he];unfold Yn;split <;> split <;> first | rfl | (congr 3;omega)
theorem capI_swap(n:Int):(if (256:Int)<n then (256:Int) else n)=Yn n:=by unfold Yn;split <;> split <;> omega
section
variable(l:List Int)(hl:l.length<=64)(hb:∀x∈l,0<=x/\x<=256)
include hl hb
theorem l201_M:∀i,i<=l.length->∀n:Int,0<=n->n<=i * 256->L201_0a rM (l.map eI) n i=some (.val (eI (Yn (n+jZ (l.drop i))))):=by
 apply down (P:=λi=>∀n:Int,0<=n->n<=i * 256->L201_0a rM (l.map eI) n i=some (.val (eI (Yn (n+jZ (l.drop i))))))
 ·intro n _ _;rw[L201_0a_eq];simp only[beqB,zP,Ad,An,if_false];rw[if_neg zFv,capI_swap];simp[jZ]
 ·intro i hi ih n h0 h1;have e1:(i:Int)<l.length:=by omega
  have e0:(0:Int)<=(i:Int):=by omega
  have hx:=hb l[i] (Al hi);have ih':=ih (n+l[i]) (by omega) (by omega)
  rw[L201_0a_eq,za l i hi];simp only[beqB,zP,Ad,e1,e0,and_self,if_true];simp only[Af,zO _ l i hi,h3,zD,zI];rw[wr (n+l[i]) (by omega),wr ((i:Int)+1) (by omega),show((i:Int)+1)=((i+1:Nat):Int) by omega,ih',jZ,AR]
theorem l201_G:∀i,i<=l.length->∀n:Int,L201_0a rG (l.map eI) n i=some (.val (eI (Yn (zB9 n (l.drop i))))):=by
 apply down (P:=λi=>∀n:Int,L201_0a rG (l.map eI) n i=some (.val (eI (Yn (zB9 n (l.drop i))))))
 ·intro n;rw[L201_0a_eq];simp only[beqB,zP,Ad,An,if_false];rw[if_neg rG_ne_rS,capI_swap];simp[zB9]
 ·intro i hi ih n;have e1:(i:Int)<l.length:=by omega
  have e0:(0:Int)<=(i:Int):=by omega
  have ih':=ih (if l[i]>n then l[i] else n)
  rw[L201_0a_eq,za l i hi];simp only[beqB,zP,Ad,e1,e0,and_self,if_true];rw[if_neg rG_ne_rM];simp only[Af,zO _ l i hi,h3,zD,zI];rw[wr ((i:Int)+1) (by omega),show((i:Int)+1)=((i+1:Nat):Int) by omega,ih',zB9]
theorem l201_S:∀i,i<=l.length->∀n:Int,0<=n->n<=i * 65536->L201_0a rS (l.map eI) n i=some (.val (eI (Yn (qR (n+jZ (sqI (l.drop i))))))):=by
 apply down (P:=λi=>∀n:Int,0<=n->n<=i * 65536->L201_0a rS (l.map eI) n i=some (.val (eI (Yn (qR (n+jZ (sqI (l.drop i))))))))
 ·intro n h0 h1;rw[L201_0a_eq];simp only[beqB,zP,Ad,An,if_false];rw[if_pos trivial,l201_1 n h0 (by omega) n.toNat 0 (by omega) (by omega) (by omega)]
  simp[jZ,sqI]
 ·intro i hi ih n h0 h1;have e1:(i:Int)<l.length:=by omega
  have e0:(0:Int)<=(i:Int):=by omega
  have hx:=hb l[i] (Al hi);have hs:=JV (a:=l[i]) (b:=256) hx.1 hx.2;have hs0:=AN hx.1 hx.1;have ih':=ih (n+l[i] * l[i]) (by omega) (by omega)
  rw[L201_0a_eq,za l i hi];simp only[beqB,zP,Ad,e1,e0,and_self,if_true];rw[if_neg rS_ne_rM,if_neg zFu];simp only[Af,zO _ l i hi,h3,zD,zI];rw[wr (l[i] * l[i]) (by omega),wr (n+l[i] * l[i]) (by omega),wr ((i:Int)+1) (by omega),show((i:Int)+1)=((i+1:Nat):Int) by omega,ih']
  show _=some (CR.val (eI (Yn (qR (n+(l[i] * l[i]+jZ (sqI (l.drop (i+1)))))))));rw[AR]
theorem c201(rule:ByteArray)(hk:ji rule=true):zB 201 [.str rule,.sl 1 (l.map eI)]=some (.val (eI (Yn (QW rule l)))):=by
 rw[C201];simp only[zK,zN,h9,h25,Ag,zD,zZ,zR];unfold QW;by_cases h1:rule=rG
 ·subst h1;have:=l201_G l hl hb 0 (Aj _) 0;rw[if_pos rfl];simpa using this
 ·by_cases h2:rule=rS
  ·subst h2;have:=l201_S l hl hb 0 (Aj _) 0 (by omega) (by omega)
   rw[if_neg h1,if_pos rfl];simpa using this
  ·have h3:rule=rM:=by simpa[ji,YB,h1,h2] using hk
   subst h3;have:=l201_M l hl hb 0 (Aj _) 0 (by omega) (by omega)
   rw[if_neg h1,if_neg h2];simpa using this
end
theorem l80b{s:Si}{w:Wk}{sec:Int}(h:SiteOK s w sec)(hk:ji w.rule=true):∀j,j<=(wakesP w (zo s) sec (zY sec)).length ->
  L80_0b (((wakesP w (zo s) sec (zY sec)).take j).map λl=>eI (Yn (QW w.rule l))) ((wakesP w (zo s) sec (zY sec)).map λr=>.sl 1 (r.map eI)) j w.rule (w.d.map eI) (w.w.map eI) =
   some (.fresh 1 ((JA w (zo s) sec (zY sec)).map eI)):=by
 have hb:=wakesP_bound h.w (zo s) sec (zY sec);have hlen:(wakesP w (zo s) sec (zY sec)).length=s.tb.length:=by simp[wakesP,zo]
 have hpl:(zo s).length=s.tb.length:=jA s;have hl:=h.l;unfold JA;generalize wakesP w (zo s) sec (zY sec)=W at hb hlen ⊢;apply down
 ·rw[L80_0b_eq];simp only[zP,Ad,AU,Bp,An,if_false,if_true,AT];simp
 ·intro j hj ih;have e1:(j:Int)<W.length:=by omega
  have hx:=hb W[j] (Al hj);have c:=c201 W[j] (by omega) hx.2 w.rule hk
  have hm:min j W.length=j:=by omega
  have e2:(2 * (j+1)+200) * 8<=281474976710656:=by omega
  rw[<-ih,L80_0b_eq];simp only[zP];simp[e1,zO _ W j hj,hm,e2,wr ((j:Int)+1) (by omega),c]
  congr 1;rw[Ah (by simpa using hj)]
  simp
theorem c80{s:Si}{w:Wk}{sec:Int}(h:SiteOK s w sec)(hk:ji w.rule=true):zB 80 [eSi s,eWk w,eI sec]=some (qy (JA w (zo s) sec (zY sec))):=by
 rw[C80];simp only[zK,zN,h24,h27,h3,Ag,zD,zQ,zS,zW,zh,zZ,zI,zR,c79 h,zJ,h95];rw[L80_0a_eq];have hb:=wakesP_bound h.w (zo s) sec (zY sec);have hlen:(wakesP w (zo s) sec (zY sec)).length=s.tb.length:=by simp[wakesP,zo]
 have hcl:=jw w (zo s) sec (zY sec);rw[jA] at hcl;have hl:=h.l;have hpl:=jA s;simp only[zP,Ad];unfold qy;by_cases h0:s.tb.length=0
 ·rw[if_neg (by omega),if_pos (List.eq_nil_of_length_eq_zero (by omega))]
 ·have h0':0<(wakesP w (zo s) sec (zY sec)).length:=by omega
  have hx:=hb _ (Al h0');have c:=c201 (wakesP w (zo s) sec (zY sec))[0] (by omega) hx.2 w.rule hk
  have k:=l80b h hk 1 h0';rw[tk1 _ h0'] at k;rw[if_pos (by omega),if_pos (by omega),if_neg (λhh=>by rw[hh] at hcl;simp at hcl;omega)]
  rw[zO _ _ 0 h0'];simp only[h25,zD,zR,c,zJ,h3,zI];simpa using k
def slowR(l:List Int)(v:Int)(k:Nat):List Int:=(jL l v).take k++l.drop k
theorem slowR_set(l:List Int)(v:Int)(k:Nat)(h:k<l.length):(slowR l v k).set k (v * (256 - l[k]))=slowR l v (k+1):=by
 unfold slowR;have hs:(jL l v).length=l.length:=by simp[jL]
 have e:(jL l v)[k]'(by omega)=v * (256 - l[k]):=by simp[jL]
 rw[AM _ _ (by simp;omega),AX h]
 have e2:k - (Aq k (jL l v)).length=0:=by simp;omega
 rw[e2,AP,Ah (by omega),AC,e]
 rfl
theorem slowR_get(l:List Int)(v:Int)(k:Nat)(h:k<l.length)(h':k<(slowR l v k).length):(slowR l v k)[k]=l[k]:=by
 have hs:(jL l v).length=l.length:=by simp[jL]
 have e:(slowR l v k)[k]? = some l[k]:=by
  unfold slowR;rw[List.getElem?_append_right (by simp;omega)]
  simp[hs,Nat.min_eq_left (Nat.le_of_lt h),h]
 rw[At h'] at e;exact Bs e
theorem slowR_len(l:List Int)(v:Int)(k:Nat)(h:k<=l.length):(slowR l v k).length=l.length:=by simp[slowR,jL];omega
theorem l81b(l:List Int)(v:Int)(hl:l.length<=64)(hv:0<=v/\v<=51)(hd:∀d∈l,0<=d/\d<=256):∀k,k<=l.length ->
  L81_0b v (l.map eI) k ((slowR l v k).map eI)=some (.val (.sl 1 ((jL l v).map eI))):=by
 apply down
 ·rw[L81_0b_eq];have:slowR l v l.length=jL l v:=by unfold slowR;rw[AG,Bi,Ai (by simp[jL])]
  rw[this];have hs:(jL l v).length=l.length:=by simp[jL]
  simp only[zP,Ad,An,if_false,Av,hs,Aw,if_true,Ak];rw[Ai (by simp[hs])]
 ·intro k hk ih;have e1:(k:Int)<l.length:=by omega
  have hsl:=slowR_len l v k (by omega)
  have hk':k<(slowR l v k).length:=by omega
  have hx:=hd l[k] (Al hk);have h1:=AN hv.1 (show 0<=256 - l[k] by omega)
  have h2:v * (256 - l[k])<=51 * 256:=Int.mul_le_mul hv.2 (by omega) (by omega) (by omega)
  rw[L81_0b_eq,<-ih];simp only[zP,Ad,Av,Af];rw[if_pos e1,if_pos (by omega),if_pos hk',zO _ _ k hk',slowR_get l v k hk hk']
  simp only[h3,zD,zI];rw[if_pos (by omega),if_pos hk',wr (256 - l[k]) (by omega),wr (v * (256 - l[k])) (by omega),wr ((k:Int)+1) (by omega),<-slowR_set l v k hk,AI]
  rfl
theorem c81{s:Si}{w:Wk}{sec:Int}(h:SiteOK s w sec)(hk:ji w.rule=true)(v:Int)(hv:0<=v/\v<=51) :
  zB 81 [eSi s,eWk w,eI sec,eI v]=some (.val (.sl 1 ((jL (JA w (zo s) sec (zY sec)) v).map eI))):=by
 rw[C81];simp only[zK,zN,h24,h27,h3,Ag,zD,zQ,zS,zW,zh,zi,zZ,zI,zR,c80 h hk];have hcl:=jw w (zo s) sec (zY sec);rw[jA] at hcl;have hcb:=j9 h.w (zo s) sec (zY sec);have hl:=h.l;unfold qy;generalize JA w (zo s) sec (zY sec)=l at hcl hcb ⊢;by_cases h0:l=[]
 ·subst h0;rw[if_pos rfl];simp[L81_0a_eq,jL,zJc]
 ·rw[if_neg h0];have:=l81b l v (by omega) hv hcb 0 (Aj _)
  have e:slowR l v 0=l:=by simp[slowR]
  rw[e] at this;simp only[qr,beq_self_eq_true,zD];exact this
theorem c111(c:Cu)(hc:okCu c)(v:Int)(h0:0<=v)(h1:v<=13056):zB 111 [eCu c,eI v]=some (.val (eI (YA c v))):=by
 obtain⟨hl,hl',hp,_,_⟩:=hc;have e3:Au v 256=v / 256:=AB h0;have g:=λi=>qU (b:=100000) (by decide) hp i
 rw[C111];simp only[zK,zN,h29,h3,Ag,zD,zQ,zS,zW,zR,zI,Ad,e3,zP];rw[wr (v / 256) (by omega),wr ((c.p.length:Int) - 1) (by omega),wr (v / 256+1) (by omega),wr (256 * (v / 256)) (by omega),wr (v - 256 * (v / 256)) (by omega)]
 have em:v - 256 * (v / 256)=v % 256:=by omega
 rw[em];unfold YA zIM;by_cases hk:v / 256>=(c.p.length:Int) - 1
 ·have hi:((c.p.length:Int) - 1).toNat<c.p.length:=by omega
  have hn:=zO eI c.p ((c.p.length:Int) - 1).toNat hi;have hg:=g (c.p.length - 1);have hgd:c.p.getD (c.p.length - 1) 0=c.p[((c.p.length:Int) - 1).toNat]:=by
   rw[Ar,At (by omega)]
   exact zBu (by omega) _ _
  rw[hgd] at hg ⊢;rw[if_pos hk,if_pos hk,if_pos (by omega),hn]
  simp only[h3,zD,zI];rw[wr _ (by omega)]
 ·obtain⟨k,hk'⟩:∃k:Nat,v / 256=k:=⟨(v / 256).toNat,by omega⟩
  have hf0:=Int.emod_nonneg v (show(256:Int)≠0 by decide)
  have hf1:=Int.emod_lt_of_pos v (show(0:Int)<256 by decide)
  rw[hk'] at hk ⊢;have hi:k<c.p.length:=by omega
  have hi1:k+1<c.p.length:=by omega
  have hn:=zO eI c.p k hi;have hn1:=zO eI c.p (k+1) hi1;have hg:=g k;have hg1:=g (k+1);have hgd:c.p.getD k 0=c.p[k]:=by rw[Ar,At hi];rfl
  have hgd1:c.p.getD (k+1) 0=c.p[k+1]:=by rw[Ar,At hi1];rfl
  rw[hgd] at hg;rw[hgd1] at hg1;have hb:=zA6 (f:=v % 256) hg hg1 ⟨hf0,by omega⟩
  have hb1:-25600000<=(c.p[k+1] - c.p[k]) * (v % 256)/\(c.p[k+1] - c.p[k]) * (v % 256)<=25600000:=by omega
  have et:((k:Int)+1).toNat=k+1:=by omega
  rw[if_neg hk,if_neg hk];have c1:(0:Int)<=(k:Int)/\(k:Int)<(c.p.length:Int):=by omega
  have c2:(0:Int)<=(k:Int)+1/\(k:Int)+1<(c.p.length:Int):=by omega
  simp only[c1,c2,and_self,if_true,Af,et,hn,hn1,h3,zD,zI,hgd,hgd1];rw[wr (256 * c.p[k]) (by omega),wr (c.p[k+1] - c.p[k]) (by omega),wr ((c.p[k+1] - c.p[k]) * (v % 256)) (by omega),wr _ (by omega)]
def turnL(a b:List Int)(k:Nat):List Int:=b.take k++a.drop k
theorem turnL_set(a b:List Int)(h:a.length=b.length)(k:Nat)(hk:k<b.length):(turnL a b k).set k b[k]=turnL a b (k+1):=by
 unfold turnL;rw[AM _ _ (by simp;omega),AX (by omega:k<a.length)]
 have e2:k - (Aq k b).length=0:=by simp;omega
 rw[e2,AP,Ah hk,AC];rfl
theorem turnL_len(a b:List Int)(h:a.length=b.length)(k:Nat)(hk:k<=b.length):(turnL a b k).length=b.length:=by simp[turnL];omega
theorem okFm.site{f:Fm}(h:okFm f)(sec:Int)(hs:0<=sec/\sec<=7):SiteOK f.s f.w sec:=by refine⟨h.w,by have:=h.l;rwa [jA] at this,λt ht=>h.p _ (A0.2 ⟨t,ht,rfl⟩),hs⟩
def powA(f:Fm)(sec v above:Int):List Int:=if v>=f.c.cut then Ae f.s.tb.length 0 else qA f.w f.c (zo f.s) sec v above
theorem l156(f:Fm)(h:okFm f)(l:List Int)(hl:l.length=f.s.tb.length)(hb:∀x∈l,0<=x/\x<=13056)(z:List Int)(hz:z.length=l.length):∀k,k<=l.length ->
  L156_0a (z.map eI) (l.map eI) k f.s.name f.s.least (f.s.tb.map eTb) f.w.rule (f.w.d.map eI) (f.w.w.map eI) (f.c.p.map eI) f.c.cut (f.r.map jC) ((turnL z (l.map (YA f.c)) k).map eI)=some (.val (.sl 1 ((l.map (YA f.c)).map eI))):=by
 have h64:=h.l;rw[jA] at h64;apply down
 ·rw[L156_0a_eq];have:turnL z (l.map (YA f.c)) l.length=l.map (YA f.c):=by unfold turnL;rw[List.drop_eq_nil_of_le (by omega),Bi,Ai (by simp)]
  rw[this];simp only[zP,Ad,An,if_false,Av,hz,Aw,if_true,Ak];rw[Ai (by simp)]
 ·intro k hk ih;have e1:(k:Int)<l.length:=by omega
  have hx:=hb l[k] (Al hk);have c:=c111 f.c h.c l[k] hx.1 hx.2;have htl:=turnL_len z (l.map (YA f.c)) (by simp[hz]) k (by simp;omega)
  have hset:=turnL_set z (l.map (YA f.c)) (by simp[hz]) k (by simpa using hk)
  rw[Ad] at htl;rw[L156_0a_eq,<-ih];simp only[zP,Ad,Av,Af,hz,htl];rw[if_pos e1,if_pos (by omega),zO _ l k hk]
  simp only[h3,zD,zI,c,zJ];rw[if_pos (by omega),if_pos hk,wr ((k:Int)+1) (by omega),<-hset,AI,AF]
  rfl
theorem c156(f:Fm)(h:okFm f)(sec v above:Int)(hs:0<=sec/\sec<=7)(hv:0<=v/\v<=50)(ha:0<=above/\above<=1) :
  zB 156 [eFm f,eI sec,eI v,eI above]=some (.val (.sl 1 ((powA f sec v above).map eI))):=by
 have h64:=h.l;rw[jA] at h64;rw[C156];simp only[zK,zN,hFm' f h.r,h3,Ag,zD,zQ,zS,zW,zh,zi,zZ,zI,zR,zP,Ad,Af];have g1:(0:Int)<=(f.s.tb.length:Int):=by omega
 have g2:8 * (f.s.tb.length:Int)<=281474976710656:=by omega
 have g3:(f.s.tb.length:Int)<=9223372036854775807:=by omega
 simp only[g1,g2,g3,and_self,if_true];unfold powA;by_cases hc:v>=f.c.cut
 ·rw[if_pos hc];refine(congrArg (λb=>ifO b _ _) (decide_eq_true hc)).trans ?_
  simp
 ·rw[if_neg hc];refine(congrArg (λb=>ifO b _ _) (decide_eq_false hc)).trans ?_
  rw[zU,wr (v+above) (by omega),c81 (h.site sec hs) h.k (v+above) (by omega)]
  simp only[zJ,h25,zD,zR];have hcb:=j9 h.w (zo f.s) sec (zY sec);have hsb:=qh hcb (v:=v+above) (b:=51) (by omega) (by omega)
  have hsl:(jL (JA f.w (zo f.s) sec (zY sec)) (v+above)).length=f.s.tb.length:=by simp[jL,jw,jA]
  have:=l156 f h _ hsl (λx hx=>by have:=hsb x hx;omega) (Ae f.s.tb.length 0) (by simp[hsl]) 0 (Aj _)
  have e:turnL (Ae f.s.tb.length 0) ((jL (JA f.w (zo f.s) sec (zY sec)) (v+above)).map (YA f.c)) 0=Ae f.s.tb.length 0:=by simp[turnL]
  rw[e,AQ] at this;exact this
theorem sum_zero(n:Nat):jZ (Ae n 0)=0:=by
 induction n with
 | zero=>rfl
 | succ n ih=>rw[AO,jZ,ih];rfl
theorem l157_1(f:Fm)(h:okFm f)(above:Int)(ha:0<=above/\above<=1)(sec:Nat)(hsec:sec<f.r.length)(hrow:f.r[sec].length=51)(hq:∀q∈f.r[sec],0<=q/\q<=40000) :
  ∀k,k<=f.r[sec].length->∀n:Int,0<=n->n<=(sec * 51+k) * 65536000000000 ->
   L157_1a above n sec k f.s.name f.s.least (f.s.tb.map eTb) f.w.rule (f.w.d.map eI) (f.w.w.map eI) (f.c.p.map eI) f.c.cut (f.r.map jC) =
   L157_0a above (n+qw f.w f.c (zo f.s) above sec k (f.r[sec].drop k)) (Ay.wrap ((sec:Int)+1)) f.s.name f.s.least (f.s.tb.map eTb) f.w.rule (f.w.d.map eI) (f.w.w.map eI) (f.c.p.map eI) f.c.cut (f.r.map jC):=by
 have h8:=h.r.1;have h64:=h.l;have hpl:=jA f.s;apply down (P:=λk=>∀n:Int,0<=n->n<=(sec * 51+k) * 65536000000000 ->
   L157_1a above n sec k f.s.name f.s.least (f.s.tb.map eTb) f.w.rule (f.w.d.map eI) (f.w.w.map eI) (f.c.p.map eI) f.c.cut (f.r.map jC) =
   L157_0a above (n+qw f.w f.c (zo f.s) above sec k (f.r[sec].drop k)) (Ay.wrap ((sec:Int)+1)) f.s.name f.s.least (f.s.tb.map eTb) f.w.rule (f.w.d.map eI) (f.w.w.map eI) (f.c.p.map eI) f.c.cut (f.r.map jC))
 ·intro n _ _;rw[L157_1a_eq];simp only[zP];rw[if_neg (by omega)]
  simp[qw]
 ·intro k hk ih n h0 h1;have e0:(k:Int)<=50:=by omega
  have e1:(0:Int)<=(sec:Int)/\(sec:Int)<8:=by omega
  have e2:(0:Int)<=(k:Int)/\(k:Int)<51:=by omega
  have hqk:=hq f.r[sec][k] (Al hk);have c156':=c156 f h sec k above (by omega) (by omega) ha
  have hpb:=Q7 h.c.2.2.1 f.w (zo f.s) sec k above;have hsum:=zCQ h.c.2.2.1 f.w h.l sec k above;have hce:=qq h.c.2.2.1 f.w h.l above sec k hqk;have hpA:jZ (powA f sec k above)=if (k:Int)<f.c.cut then jZ (qA f.w f.c (zo f.s) sec k above) else 0:=by
   unfold powA;by_cases hc:(k:Int)>=f.c.cut
   ·rw[if_pos hc,if_neg (by omega),sum_zero]
   ·rw[if_neg hc,if_pos (by omega)]
  have c238':=c238 (powA f sec k above) (by unfold powA;split <;> simp[zCW] <;> omega) (λx hx=>by
   unfold powA at hx;split at hx
   ·rw[List.eq_of_mem_replicate hx];omega
   ·have:=hpb x hx;omega)
  have ih':=ih (n+qD f.w f.c (zo f.s) above sec k f.r[sec][k]) (by omega) (by simp only[Bm,Bl];omega)
  have e3:((k:Int)+1)=((k+1:Nat):Int):=by omega
  rw[L157_1a_eq,za f.r[sec] k hk,qw];simp only[zP];rw[if_pos e0];simp only[if_pos e1,if_pos e2];simp only[Af,js _ _ _ _ hsec,zD,zO _ f.r sec hsec,js _ _ _ _ hk,zQ,zO _ f.r[sec] k hk,h3,zI,c156',zJ,h25,zR,c238'];rw[wr ((k:Int)+1) (by omega),hpA]
  by_cases c1:f.r[sec][k]>0
  ·by_cases c2:(k:Int)<f.c.cut
   ·have hv:qD f.w f.c (zo f.s) above sec k f.r[sec][k]=f.r[sec][k] * jZ (qA f.w f.c (zo f.s) sec k above):=if_pos ⟨c1,c2⟩;rw[hv] at hce ih' ⊢;rw[if_pos c1,if_pos c2,wr (f.r[sec][k] * _) (by omega),wr (n+_) (by omega),e3,ih',AR]
   ·have hv:qD f.w f.c (zo f.s) above sec k f.r[sec][k]=0:=if_neg (λhh=>c2 hh.2)
    rw[hv] at hce ih' ⊢;rw[A4] at ih';rw[if_pos c1,if_neg c2,Int.mul_zero,wr 0 (by omega),A4,wr n (by omega),e3,ih',A3]
  ·have hv:qD f.w f.c (zo f.s) above sec k f.r[sec][k]=0:=if_neg (λhh=>c1 hh.1)
   rw[hv] at hce ih' ⊢;rw[A4] at ih';rw[if_neg c1,e3,ih',A3]
theorem l157_0(f:Fm)(h:okFm f)(above:Int)(ha:0<=above/\above<=1):∀s,s<=f.r.length->∀n:Int,0<=n->n<=(s * 51:Int) * 65536000000000 ->
  L157_0a above n s f.s.name f.s.least (f.s.tb.map eTb) f.w.rule (f.w.d.map eI) (f.w.w.map eI) (f.c.p.map eI) f.c.cut (f.r.map jC)=some (.val (eI (n+enE f.w f.c (zo f.s) above s (f.r.drop s)))):=by
 apply down (P:=λs=>∀n:Int,0<=n->n<=(s * 51:Int) * 65536000000000 ->
  L157_0a above n s f.s.name f.s.least (f.s.tb.map eTb) f.w.rule (f.w.d.map eI) (f.w.w.map eI) (f.c.p.map eI) f.c.cut (f.r.map jC)=some (.val (eI (n+enE f.w f.c (zo f.s) above s (f.r.drop s)))))
 ·intro n _ _;have:=h.r.1;rw[L157_0a_eq];simp only[zP];rw[if_neg (by omega)]
  simp[enE]
 ·intro s hs ih n h0 h1;have hl:=h.r.1;have hrow:=h.r.2 f.r[s] (Al hs);have hq:=h.q f.r[s] (Al hs);have hre:=qQ h.c.2.2.1 f.w h.l above s f.r[s] 0 hq;rw[hrow] at hre;have ih':=ih (n+qw f.w f.c (zo f.s) above s 0 f.r[s]) (by omega) (by simp only[Bm,Bl];omega)
  have e2:((s:Int)+1)=((s+1:Nat):Int):=by omega
  have k1:=l157_1 f h above ha s hs hrow hq 0 (Aj _) n h0 (by omega)
  rw[show((0:Nat):Int)=0 from rfl,Ak] at k1
  rw[L157_0a_eq,za f.r s hs,enE];simp only[zP];rw[if_pos (by omega),k1,wr ((s:Int)+1) (by omega),e2,ih',AR]
theorem c157(f:Fm)(h:okFm f)(above:Int)(ha:0<=above/\above<=1):zB 157 [eFm f,eI above]=some (.val (eI (jl f.w f.c f.r (zo f.s) above))):=by
 rw[C157];simp only[zK,zN,hFm' f h.r,h3,Ag,zD,zQ,zS,zW,zh,zi,zZ,zI,zR];have:=l157_0 f h above ha 0 (Aj _) 0 (by omega) (by omega)
 rw[A3,Ak] at this;exact this
theorem c39(f:Fm)(h:okFm f):zB 39 [eFm f]=some (.val (eI (jl f.w f.c f.r (zo f.s) 0))):=by rw[C39];simp only[zK,zN,hFm' f h.r,h3,Ag,zD,zQ,zS,zW,zh,zi,zZ,zI,zR,c157 f h 0 (by omega),zJ]
end Go.Am
namespace Go.Am
open Go.Proofs
open Go
theorem d81{n:Nat}{x:DV}(h:DT EE (n+3) 81 x):∃l:List Pt,x=.sl 2 (l.map ePt)/\∀p∈l,in64 p.x/\in64 p.y:=by
 obtain⟨ed,xs,h1,h2,h3⟩:=(show DT EE (n+3) 81 x=(∃(ed:TD) (xs:List DV),EE.D 141=some ed/\x=DV.sl ed.size xs/\∀y∈xs,DT EE (n+2) 141 y) by kernel_rfl) ▸ h
 have e:EE.D 141=some td141:=by kernel_rfl
 rw[e] at h1;injection h1 with h1
 subst h1;obtain⟨l,rfl,hl⟩:=lst ePt (λp=>in64 p.x/\in64 p.y) _ (λy hy=>d141 hy) xs h3
 exact⟨l,h2,hl⟩
end Go.Am
namespace Go.Am
open Go.Proofs
open Go
variable[OO]
def blowRow(n:Int):List Int->Int
 | []=>n
 | q :: r=>blowRow (if q>0 then n+1 else n) r
def blowR(n:Int):List (List Int)->Int
 | []=>n
 | row :: r=>blowR (blowRow n row) r
theorem blowRow_bnd:∀(l:List Int) (n:Int),n<=blowRow n l/\blowRow n l<=n+l.length
 | [],n=>by simp[blowRow]
 | q :: l,n=>by
  have:=blowRow_bnd l (if q>0 then n+1 else n)
  simp only[blowRow,AE];by_cases h:q>0
  ·simp only[h,if_true] at this ⊢;omega
  ·simp only[h,if_false] at this ⊢;omega
theorem l128_1(r:List (List Int))(s:Nat)(hs:s<r.length)(h8:r.length=8)(hrow:r[s].length=51):∀k,k<=r[s].length->∀n:Int,0<=n->n<=s * 51+k->L128_1a n s k (r.map jC)=L128_0a (blowRow n (r[s].drop k)) (Ay.wrap ((s:Int)+1)) (r.map jC):=by
 refine down (P:=λk=>∀n:Int,0<=n->n<=s * 51+k->L128_1a n s k (r.map jC)=L128_0a (blowRow n (r[s].drop k)) (Ay.wrap ((s:Int)+1)) (r.map jC)) r[s].length ?_ ?_
 ·intro n h0 hn;rw[L128_1a_eq];simp only[zP];rw[if_neg (by omega)]
  simp[blowRow]
 ·intro k hk ih n h0 hn;have e1:(k:Int)<=50:=by omega
  have e2:(0:Int)<=(s:Int)/\(s:Int)<8:=by omega
  have e3:(0:Int)<=(k:Int)/\(k:Int)<51:=by omega
  rw[L128_1a_eq,za r[s] k hk];simp only[zP];rw[if_pos e1,if_pos e2,if_pos e3];simp only[Af,js _ _ _ _ hs,zD,zO _ r s hs,js _ _ _ _ hk,zQ,zO _ r[s] k hk,h3,zI];rw[wr ((k:Int)+1) (by omega),wr (n+1) (by omega),show((k:Int)+1)=((k+1:Nat):Int) by omega]
  by_cases hq:r[s][k]>0
  ·rw[if_pos hq,ih (n+1) (by omega) (by omega)]
   simp only[blowRow,if_pos hq]
  ·rw[if_neg hq,ih n h0 (by omega)]
   simp only[blowRow,if_neg hq]
theorem l128_0(r:List (List Int))(h:zu r):∀s,s<=r.length->∀n:Int,0<=n->n<=s * 51->L128_0a n s (r.map jC)=some (.val (eI (blowR n (r.drop s)))):=by
 have hl:=h.1;refine down (P:=λs=>∀n:Int,0<=n->n<=s * 51->L128_0a n s (r.map jC)=some (.val (eI (blowR n (r.drop s))))) r.length ?_ ?_
 ·intro n h0 hn;rw[L128_0a_eq];simp only[zP];rw[if_neg (by omega)]
  simp[blowR]
 ·intro s hs ih n h0 hn;have hrow:=h.2 r[s] (Al hs);have e1:(s:Int)<8:=by omega
  have hb:=blowRow_bnd r[s] n;rw[L128_0a_eq,za r s hs];simp only[zP];rw[if_pos e1];have:=l128_1 r s hs hl hrow 0 (Aj _) n h0 (by omega)
  rw[show((0:Nat):Int)=0 from rfl] at this
  rw[this,wr ((s:Int)+1) (by omega),show((s:Int)+1)=((s+1:Nat):Int) by omega,Ak,ih _ (by omega) (by omega)]
  rfl
theorem c128(r:List (List Int))(h:zu r):zB 128 [eRo r]=some (.val (eI (blowR 0 r))):=by
 rw[C128];simp only[zK,zN,h32,Ad,h.1,decide_true,Ag,zD,zQ];have:=l128_0 r h 0 (Aj _) 0 (by omega) (by omega)
 simpa using this
theorem c105(c:Cu):zB 105 [eCu c]=some (.val (.bool (decide ((c.p.length:Int)<=52)))):=by rw[C105];simp
def zGE(f:Fm)(n:Int):Bool:=if zDr f.s n then (if shortW f.w then (if (f.c.p.length:Int)<=52 then decide (blowR 0 f.r<=6) else false) else false) else false
theorem c21(f:Fm)(h:zu f.r)(n:Int)(hn:n<=100):zB 21 [eFm f,eI n]=some (.val (.bool (zGE f n))):=by
 rw[C21];simp only[zK,zN,hFm' f h,h3,Ag,zD,zQ,zS,zW,zh,zi,zZ,zI,zR,c62 f.s n hn];unfold zGE;cases hS:zDr f.s n with
 | false=>simp
 | true =>
  simp only[zJ,h4,zD,zp,c63 f.w];cases hW:shortW f.w with
  | false=>simp
  | true =>
   simp only[zJ,h4,zD,zp,c105 f.c];by_cases hc:(f.c.p.length:Int)<=52
   ·simp[hc,c128 f.r h];exact decide_eq_decide.2 Iff.rfl
   ·simp[hc]
theorem shortF_len{f:Fm}{n:Int}(h:zGE f n=true):((f.s.tb.length:Int)<=n\/f.s.tb.length=65)/\f.w.d.length<=33/\f.w.w.length<=33/\f.c.p.length<=52:=by
 unfold zGE at h;split at h
 ·rename_i h1;split at h
  ·rename_i h2;split at h
   ·rename_i h3;simp only[shortW,Bool.and_eq_true] at h2;exact⟨shortS_len h1,short33_le h2.1.2,short33_le h2.2,by omega⟩
   ·cases h
  ·cases h
 ·cases h
theorem c34(f:Fm)(h:zu f.r)(h1:f.s.tb.length<=100000)(h2:f.w.d.length<=100000)(h3':f.w.w.length<=100000)(h4':f.c.p.length<=100000):zB 34 [eFm f]=some (.val (eFm f)):=by rw[C34];simp only[zK,zN,hFm' f h,Ag,zD,zQ,zS,zW,zh,zi,zZ,zI,zR,c65 f.s h1,c67 f.w (by omega) (by omega),c107 f.c (by omega),zJ,h58,h59,h60]
theorem farm_ok{f:Fm}(h:YO f=0)(hr:zu f.r):okFm f:=(Yk h hr).1
end Go.Am
namespace Go.Am
open Go.Proofs
open Go
variable[OO]
theorem C96(x0 x1:DV):zB 96 [x0,x1] =
 ifO (zV (zF EE 6) [24,143] [x0,x1])
 (ifO (decide ((((2 * (0+(Aa (elems (nth (flds x0) 2)))))+200) * 32)<=281474976710656))
 (ifO (AJ (elems (nth (flds x0) 2)))
 (some (.val (.agg 0 [(.str (zX (nth (flds x0) 0))),(eI (zC (nth (flds x0) 1))),(.sl 3 [(.agg 9 [(.str (zX (nth (flds x1) 0))),(.agg 1 [(eI (zC (nth (flds (nth (flds x1) 1)) 0))),(eI (zC (nth (flds (nth (flds x1) 1)) 1)))])])])])))
 (ifO (decide ((Aa ([]++(elems (nth (flds x0) 2))))=(Aa ([]++(elems (nth (flds x0) 2))))))
 (ifO (decide ((((2 * ((Aa ([]++(elems (nth (flds x0) 2))))+1))+200) * 32)<=281474976710656))
 (ifO (decide ((0+(Aa (([]++(elems (nth (flds x0) 2)))++[(.agg 9 [(.str (zX (nth (flds x1) 0))),(.agg 1 [(eI (zC (nth (flds (nth (flds x1) 1)) 0))),(eI (zC (nth (flds (nth (flds x1) 1)) 1)))])])])))<=(Aa (([]++(elems (nth (flds x0) 2)))++[(.agg 9 [(.str (zX (nth (flds x1) 0))),(.agg 1 [(eI (zC (nth (flds (nth (flds x1) 1)) 0))),(eI (zC (nth (flds (nth (flds x1) 1)) 1)))])])]))))
 (some (.val (.agg 0 [(.str (zX (nth (flds x0) 0))),(eI (zC (nth (flds x0) 1))),(.sl 3 (Aq (Aa (([]++(elems (nth (flds x0) 2)))++[(.agg 9 [(.str (zX (nth (flds x1) 0))),(.agg 1 [(eI (zC (nth (flds (nth (flds x1) 1)) 0))),(eI (zC (nth (flds (nth (flds x1) 1)) 1)))])])])) (As 0 (([]++(elems (nth (flds x0) 2)))++[(.agg 9 [(.str (zX (nth (flds x1) 0))),(.agg 1 [(eI (zC (nth (flds (nth (flds x1) 1)) 0))),(eI (zC (nth (flds (nth (flds x1) 1)) 1)))])])]))))])))
 (none))
 (none))
 (none)))
 (none))
 (none) :=
 (zM (f:=96) (by kernel_rfl) (by kernel_rfl) (by kernel_rfl) [x0,x1]).trans (by kernel_rfl)
theorem C98(x0 x1 x2:DV):zB 98 [x0,x1,x2] =
 ifO (zV (zF EE 6) [24,3,141] [x0,x1,x2])
 (ifO (decide ((((2 * (0+(Aa (elems (nth (flds x0) 2)))))+200) * 32)<=281474976710656))
 (ifO (AJ (elems (nth (flds x0) 2)))
 (none)
 (ifO (decide (((0:Int)<=(zC x1))/\((zC x1)<(((Aa ([]++(elems (nth (flds x0) 2)))):Nat):Int))))
 (ifO (decide ((0+(Ab (zC x1)))<(Aa ([]++(elems (nth (flds x0) 2))))))
 (ifO (jK 9 1 (nth ([]++(elems (nth (flds x0) 2))) (0+(Ab (zC x1)))))
 (ifO (decide ((0+(Aa ([]++(elems (nth (flds x0) 2)))))<=(Aa (Ax ([]++(elems (nth (flds x0) 2))) (0+(Ab (zC x1))) (.agg 9 (Ax (flds (nth ([]++(elems (nth (flds x0) 2))) (0+(Ab (zC x1))))) 1 (.agg 1 [(eI (zC (nth (flds x2) 0))),(eI (zC (nth (flds x2) 1)))])))))))
 (some (.val (.agg 0 [(.str (zX (nth (flds x0) 0))),(eI (zC (nth (flds x0) 1))),(.sl 3 (Aq (Aa ([]++(elems (nth (flds x0) 2)))) (As 0 (Ax ([]++(elems (nth (flds x0) 2))) (0+(Ab (zC x1))) (.agg 9 (Ax (flds (nth ([]++(elems (nth (flds x0) 2))) (0+(Ab (zC x1))))) 1 (.agg 1 [(eI (zC (nth (flds x2) 0))),(eI (zC (nth (flds x2) 1)))])))))))])))
 (none))
 (none))
 (none))
 (none)))
 (none))
 (none) :=
 (zM (f:=98) (by kernel_rfl) (by kernel_rfl) (by kernel_rfl) [x0,x1,x2]).trans (by kernel_rfl)
theorem C99(x0 x1 x2:DV):zB 99 [x0,x1,x2] =
 ifO (zV (zF EE 6) [34,3,141] [x0,x1,x2])
 (zH (zB 98 [(.agg 0 [(.str (zX (nth (flds (nth (flds x0) 0)) 0))),(eI (zC (nth (flds (nth (flds x0) 0)) 1))),(.sl 3 (elems (nth (flds (nth (flds x0) 0)) 2)))]),(eI (zC x1)),(.agg 1 [(eI (zC (nth (flds x2) 0))),(eI (zC (nth (flds x2) 1)))])])
 (λr0=>ifO (zF EE 6 24 r0)
 (zH (zB 206 [(.agg 4 [(.agg 0 [(.str (zX (nth (flds (nth (flds x0) 0)) 0))),(eI (zC (nth (flds (nth (flds x0) 0)) 1))),(.sl 3 (elems (nth (flds (nth (flds x0) 0)) 2)))]),(.agg 0 [(.str (zX (nth (flds (nth (flds x0) 1)) 0))),(.sl 1 (elems (nth (flds (nth (flds x0) 1)) 1))),(.sl 1 (elems (nth (flds (nth (flds x0) 1)) 2)))]),(.agg 1 [(.sl 1 (elems (nth (flds (nth (flds x0) 2)) 0))),(eI (zC (nth (flds (nth (flds x0) 2)) 1)))]),(.agg 3 (flds (nth (flds x0) 3)))]),(.agg 0 [(.str (zX (nth (flds r0) 0))),(eI (zC (nth (flds r0) 1))),(.sl 3 (elems (nth (flds r0) 2)))])])
 (λr1=>ifO (zF EE 6 34 r1)
 (zH (zB 39 [(.agg 4 [(.agg 0 [(.str (zX (nth (flds (nth (flds r1) 0)) 0))),(eI (zC (nth (flds (nth (flds r1) 0)) 1))),(.sl 3 (elems (nth (flds (nth (flds r1) 0)) 2)))]),(.agg 0 [(.str (zX (nth (flds (nth (flds r1) 1)) 0))),(.sl 1 (elems (nth (flds (nth (flds r1) 1)) 1))),(.sl 1 (elems (nth (flds (nth (flds r1) 1)) 2)))]),(.agg 1 [(.sl 1 (elems (nth (flds (nth (flds r1) 2)) 0))),(eI (zC (nth (flds (nth (flds r1) 2)) 1)))]),(.agg 3 (flds (nth (flds r1) 3)))])])
 (λr2=>ifO (zF EE 6 3 r2)
 (zH (zB 39 [(.agg 4 [(.agg 0 [(.str (zX (nth (flds (nth (flds x0) 0)) 0))),(eI (zC (nth (flds (nth (flds x0) 0)) 1))),(.sl 3 (elems (nth (flds (nth (flds x0) 0)) 2)))]),(.agg 0 [(.str (zX (nth (flds (nth (flds x0) 1)) 0))),(.sl 1 (elems (nth (flds (nth (flds x0) 1)) 1))),(.sl 1 (elems (nth (flds (nth (flds x0) 1)) 2)))]),(.agg 1 [(.sl 1 (elems (nth (flds (nth (flds x0) 2)) 0))),(eI (zC (nth (flds (nth (flds x0) 2)) 1)))]),(.agg 3 (flds (nth (flds x0) 3)))])])
 (λr3=>ifO (zF EE 6 3 r3)
 (some (.val (eI (Ac .i64 ((zC r2) - (zC r3))))))
 (none))
 (λ_ _=>none))
 (none))
 (λ_ _=>none))
 (none))
 (λ_ _=>none))
 (none))
 (λ_ _=>none))
 (none) :=
 (zM (f:=99) (by kernel_rfl) (by kernel_rfl) (by kernel_rfl) [x0,x1,x2]).trans (by kernel_rfl)
theorem C204(x0 x1:DV):zB 204 [x0,x1] =
 ifO (zV (zF EE 6) [62,58] [x0,x1])
 (zH (zB 144 [(.agg 4 [(.agg 0 [(.str (zX (nth (flds (nth (flds x0) 0)) 0))),(eI (zC (nth (flds (nth (flds x0) 0)) 1))),(.sl 3 (elems (nth (flds (nth (flds x0) 0)) 2)))]),(.agg 0 [(.str (zX (nth (flds (nth (flds x0) 1)) 0))),(.sl 1 (elems (nth (flds (nth (flds x0) 1)) 1))),(.sl 1 (elems (nth (flds (nth (flds x0) 1)) 2)))]),(.agg 1 [(.sl 1 (elems (nth (flds (nth (flds x0) 2)) 0))),(eI (zC (nth (flds (nth (flds x0) 2)) 1)))]),(.agg 3 (flds (nth (flds x0) 3)))])])
 (λr0=>ifO (zF EE 6 246 r0)
 (zH (zB 146 [(.agg 0 [(.str (zX (nth (flds x1) 0))),(eI (zC (nth (flds x1) 1))),(.sl 3 (elems (nth (flds x1) 2)))])])
 (λr1=>ifO (zF EE 6 81 r1)
 (zH (zB 145 [(.agg 13 [(.agg 0 [(.str (zX (nth (flds (nth (flds r0) 0)) 0))),(.sl 1 (elems (nth (flds (nth (flds r0) 0)) 1))),(.sl 1 (elems (nth (flds (nth (flds r0) 0)) 2)))]),(.agg 1 [(.sl 1 (elems (nth (flds (nth (flds r0) 1)) 0))),(eI (zC (nth (flds (nth (flds r0) 1)) 1)))]),(.agg 3 (flds (nth (flds r0) 2)))]),(.sl 2 (elems r1)),(eI 0)])
 (λr2=>ifO (zF EE 6 3 r2)
 (zH (zB 146 [(.agg 0 [(.str (zX (nth (flds (nth (flds x0) 0)) 0))),(eI (zC (nth (flds (nth (flds x0) 0)) 1))),(.sl 3 (elems (nth (flds (nth (flds x0) 0)) 2)))])])
 (λr3=>ifO (zF EE 6 81 r3)
 (zH (zB 145 [(.agg 13 [(.agg 0 [(.str (zX (nth (flds (nth (flds r0) 0)) 0))),(.sl 1 (elems (nth (flds (nth (flds r0) 0)) 1))),(.sl 1 (elems (nth (flds (nth (flds r0) 0)) 2)))]),(.agg 1 [(.sl 1 (elems (nth (flds (nth (flds r0) 1)) 0))),(eI (zC (nth (flds (nth (flds r0) 1)) 1)))]),(.agg 3 (flds (nth (flds r0) 2)))]),(.sl 2 (elems r3)),(eI 0)])
 (λr4=>ifO (zF EE 6 3 r4)
 (some (.val (eI (Ac .i64 ((zC r2) - (zC r4))))))
 (none))
 (λ_ _=>none))
 (none))
 (λ_ _=>none))
 (none))
 (λ_ _=>none))
 (none))
 (λ_ _=>none))
 (none))
 (λ_ _=>none))
 (none) :=
 (zM (f:=204) (by kernel_rfl) (by kernel_rfl) (by kernel_rfl) [x0,x1]).trans (by kernel_rfl)
theorem C205(x0 x1 x2:DV):zB 205 [x0,x1,x2] =
 ifO (zV (zF EE 6) [58,3,141] [x0,x1,x2])
 (ifO (decide (((0:Int)<=(((Aa (elems (nth (flds x0) 2))):Nat):Int))/\(((((Aa (elems (nth (flds x0) 2))):Nat):Int)=(((Aa (elems (nth (flds x0) 2))):Nat):Int))/\((((32:Int) * (((Aa (elems (nth (flds x0) 2))):Nat):Int))<=(281474976710656:Int))/\((((Aa (elems (nth (flds x0) 2))):Nat):Int)<=(9223372036854775807:Int))))))
 (ifO (decide ((0+(Aa (α:=DV) (Ae (Ab (((Aa (elems (nth (flds x0) 2))):Nat):Int)) (.agg 9 [(.str (bs [])),(.agg 1 [(eI 0),(eI 0)])]))))<=(Aa (α:=DV) (Ae (Ab (((Aa (elems (nth (flds x0) 2))):Nat):Int)) (.agg 9 [(.str (bs [])),(.agg 1 [(eI 0),(eI 0)])])))))
 (ifO (decide (((0:Int)<=(zC x1))/\((zC x1)<(((Aa (α:=DV) (Ae (Ab (((Aa (elems (nth (flds x0) 2))):Nat):Int)) (.agg 9 [(.str (bs [])),(.agg 1 [(eI 0),(eI 0)])]))):Nat):Int))))
 (ifO (decide ((0+(Ab (zC x1)))<(Aa (([]++(Aq (Az (Aa (elems (nth (flds x0) 2))) (Aa (α:=DV) (Ae (Ab (((Aa (elems (nth (flds x0) 2))):Nat):Int)) (.agg 9 [(.str (bs [])),(.agg 1 [(eI 0),(eI 0)])])))) (elems (nth (flds x0) 2))))++(As (0+(Az (Aa (elems (nth (flds x0) 2))) (Aa (α:=DV) (Ae (Ab (((Aa (elems (nth (flds x0) 2))):Nat):Int)) (.agg 9 [(.str (bs [])),(.agg 1 [(eI 0),(eI 0)])]))))) (Ae (Ab (((Aa (elems (nth (flds x0) 2))):Nat):Int)) (.agg 9 [(.str (bs [])),(.agg 1 [(eI 0),(eI 0)])])))))))
 (ifO (jK 9 1 (nth (([]++(Aq (Az (Aa (elems (nth (flds x0) 2))) (Aa (α:=DV) (Ae (Ab (((Aa (elems (nth (flds x0) 2))):Nat):Int)) (.agg 9 [(.str (bs [])),(.agg 1 [(eI 0),(eI 0)])])))) (elems (nth (flds x0) 2))))++(As (0+(Az (Aa (elems (nth (flds x0) 2))) (Aa (α:=DV) (Ae (Ab (((Aa (elems (nth (flds x0) 2))):Nat):Int)) (.agg 9 [(.str (bs [])),(.agg 1 [(eI 0),(eI 0)])]))))) (Ae (Ab (((Aa (elems (nth (flds x0) 2))):Nat):Int)) (.agg 9 [(.str (bs [])),(.agg 1 [(eI 0),(eI 0)])])))) (0+(Ab (zC x1)))))
 (ifO (decide ((0+(Aa (α:=DV) (Ae (Ab (((Aa (elems (nth (flds x0) 2))):Nat):Int)) (.agg 9 [(.str (bs [])),(.agg 1 [(eI 0),(eI 0)])]))))<=(Aa (Ax (([]++(Aq (Az (Aa (elems (nth (flds x0) 2))) (Aa (α:=DV) (Ae (Ab (((Aa (elems (nth (flds x0) 2))):Nat):Int)) (.agg 9 [(.str (bs [])),(.agg 1 [(eI 0),(eI 0)])])))) (elems (nth (flds x0) 2))))++(As (0+(Az (Aa (elems (nth (flds x0) 2))) (Aa (α:=DV) (Ae (Ab (((Aa (elems (nth (flds x0) 2))):Nat):Int)) (.agg 9 [(.str (bs [])),(.agg 1 [(eI 0),(eI 0)])]))))) (Ae (Ab (((Aa (elems (nth (flds x0) 2))):Nat):Int)) (.agg 9 [(.str (bs [])),(.agg 1 [(eI 0),(eI 0)])])))) (0+(Ab (zC x1))) (.agg 9 (Ax (flds (nth (([]++(Aq (Az (Aa (elems (nth (flds x0) 2))) (Aa (α:=DV) (Ae (Ab (((Aa (elems (nth (flds x0) 2))):Nat):Int)) (.agg 9 [(.str (bs [])),(.agg 1 [(eI 0),(eI 0)])])))) (elems (nth (flds x0) 2))))++(As (0+(Az (Aa (elems (nth (flds x0) 2))) (Aa (α:=DV) (Ae (Ab (((Aa (elems (nth (flds x0) 2))):Nat):Int)) (.agg 9 [(.str (bs [])),(.agg 1 [(eI 0),(eI 0)])]))))) (Ae (Ab (((Aa (elems (nth (flds x0) 2))):Nat):Int)) (.agg 9 [(.str (bs [])),(.agg 1 [(eI 0),(eI 0)])])))) (0+(Ab (zC x1))))) 1 (.agg 1 [(eI (zC (nth (flds x2) 0))),(eI (zC (nth (flds x2) 1)))])))))))
 (some (.val (.agg 0 [(.str (zX (nth (flds x0) 0))),(eI (zC (nth (flds x0) 1))),(.sl 3 (Aq (Aa (α:=DV) (Ae (Ab (((Aa (elems (nth (flds x0) 2))):Nat):Int)) (.agg 9 [(.str (bs [])),(.agg 1 [(eI 0),(eI 0)])]))) (As 0 (Ax (([]++(Aq (Az (Aa (elems (nth (flds x0) 2))) (Aa (α:=DV) (Ae (Ab (((Aa (elems (nth (flds x0) 2))):Nat):Int)) (.agg 9 [(.str (bs [])),(.agg 1 [(eI 0),(eI 0)])])))) (elems (nth (flds x0) 2))))++(As (0+(Az (Aa (elems (nth (flds x0) 2))) (Aa (α:=DV) (Ae (Ab (((Aa (elems (nth (flds x0) 2))):Nat):Int)) (.agg 9 [(.str (bs [])),(.agg 1 [(eI 0),(eI 0)])]))))) (Ae (Ab (((Aa (elems (nth (flds x0) 2))):Nat):Int)) (.agg 9 [(.str (bs [])),(.agg 1 [(eI 0),(eI 0)])])))) (0+(Ab (zC x1))) (.agg 9 (Ax (flds (nth (([]++(Aq (Az (Aa (elems (nth (flds x0) 2))) (Aa (α:=DV) (Ae (Ab (((Aa (elems (nth (flds x0) 2))):Nat):Int)) (.agg 9 [(.str (bs [])),(.agg 1 [(eI 0),(eI 0)])])))) (elems (nth (flds x0) 2))))++(As (0+(Az (Aa (elems (nth (flds x0) 2))) (Aa (α:=DV) (Ae (Ab (((Aa (elems (nth (flds x0) 2))):Nat):Int)) (.agg 9 [(.str (bs [])),(.agg 1 [(eI 0),(eI 0)])]))))) (Ae (Ab (((Aa (elems (nth (flds x0) 2))):Nat):Int)) (.agg 9 [(.str (bs [])),(.agg 1 [(eI 0),(eI 0)])])))) (0+(Ab (zC x1))))) 1 (.agg 1 [(eI (zC (nth (flds x2) 0))),(eI (zC (nth (flds x2) 1)))])))))))])))
 (none))
 (none))
 (none))
 (none))
 (none))
 (none))
 (none) :=
 (zM (f:=205) (by kernel_rfl) (by kernel_rfl) (by kernel_rfl) [x0,x1,x2]).trans (by kernel_rfl)
end Go.Am
namespace Go.Am
open Go.Proofs
open Go
variable[OO]
theorem C206(x0 x1:DV):zB 206 [x0,x1] =
 ifO (zV (zF EE 6) [34,24] [x0,x1])
 (some (.val (.agg 4 [(.agg 0 [(.str (zX (nth (flds x1) 0))),(eI (zC (nth (flds x1) 1))),(.sl 3 (elems (nth (flds x1) 2)))]),(.agg 0 [(.str (zX (nth (flds (nth (flds x0) 1)) 0))),(.sl 1 (elems (nth (flds (nth (flds x0) 1)) 1))),(.sl 1 (elems (nth (flds (nth (flds x0) 1)) 2)))]),(.agg 1 [(.sl 1 (elems (nth (flds (nth (flds x0) 2)) 0))),(eI (zC (nth (flds (nth (flds x0) 2)) 1)))]),(.agg 3 (flds (nth (flds x0) 3)))])))
 (none) :=
 (zM (f:=206) (by kernel_rfl) (by kernel_rfl) (by kernel_rfl) [x0,x1]).trans (by kernel_rfl)
end Go.Am
namespace Go.Am
open Go.Proofs
open Go Go.RowKit Go.Proofs
def clone3_ren:Go.Shelf.Ren:=⟨λ| 41=>267 | n=>n,λ| 22=>56 | 23=>176 | 4=>4 | n=>n,λ| n=>n⟩
theorem clone3_lays:Be Tryz.prog clone3_ren:={
 mixed:=by kernel_rfl
 f41:=⟨Tryz.f267.name,by decide,Tryz.func267.trans (congrArg some (by kernel_rfl))⟩
 t4:=Tryz.underlying4
 a4:=Tryz.isAgg4
 z4:=Tryz.sizeOf4
 v4:=Tryz.zeroValue4
 t22:=Tryz.underlying56
 a22:=Tryz.isAgg56
 z22:=Tryz.sizeOf56
 v22:=Tryz.zeroValue56 }
section
open Go.Shelf
variable{P:Program}{ρ:Ren}
set_option maxHeartbeats 2000000 in
set_option maxRecDepth 100000 in
theorem clone_zeroE(L:SlLaysE0.n41 P ρ)(i0:TypeInfo)(z:Value)(hi:P.info? (ρ.t 23)=some i0)(hz0:i0.zero=some z)(size:Nat)(z23:∀w,(Go.sizeOf (ρ.t 23)).run P w=.ok size w)(a:Addr)(c:Nat)(w:World) :
  Calls P (ρ.f 41) #[.slice (some a) 0 c] w λe w'=>∃ad,e=.returned (.slice (some ad) 0 0)/\Below w.heap.size w w':=by
 have mixed:=L.mixed;have t4:=L.t4;have a4:=L.a4;have z4:=L.z4;have v4:=L.v4;have t22:=L.t22;have a22:=L.a22;have z22:=L.z22;have v22:=L.v22;have q22:∀(w:World) (a:Option Addr) (n c n' c':Nat),(binOp .eql (ρ.t 22) (.slice a n c) (.slice none n' c')).run P w=.ok (.bool a.isNone) w:=λw a n c n' c'=>Lib.run_eql_slice_nil w _ _ a n c n' c' L.t22
 have u22:∀w,Sem.run P (underlying (ρ.t 22)) w=.ok (TypeDesc.slice (ρ.t 23)) w:=run_underlying t22;obtain⟨_,_,FG⟩:=L.f41
 go_enter FG,SlBodyN.n41_ntmps ρ
 go_wp2_with (at_builtin;refine J8 rfl _ _ (ρ.t 22) rfl (ρ.t 23) i0 z t22 hi hz0 _ _ _ rfl rfl ?_)
 go_wp2;go_ret;exact⟨_,rfl,(Br _ w).alloc (Aw _) _⟩
end
def tbC(t:Tb):List Value:=[.string t.name,.int .i64 t.at'.x,.int .i64 t.at'.y]
theorem RD.tb{L:Nat->List Nat}{S:Nat->Prop}{w:World}{t:Tb}{cs:List Value}(h:RD L S w (eTb t) cs):cs=tbC t:=by
 cases h with
 | agg _ _ css hl h hz =>
  match css,hl with
  | [c0,c1],_ =>
   have e0:RD L S w (.str t.name) c0:=h 0 (by simp) (by simp)
   have e1:RD L S w (ePt t.at') c1:=h 1 (by simp) (by simp)
   have:=e0.str1;subst this;cases e1 with
   | agg _ _ css' hl' h' hz' =>
    match css',hl' with
    | [d0,d1],_ =>
     have f0:RD L S w (eI t.at'.x) d0:=h' 0 (by simp) (by simp)
     have f1:RD L S w (eI t.at'.y) d1:=h' 1 (by simp) (by simp)
     have:=f0.int1;subst this;have:=f1.int1;subst this;rfl
theorem rd_tb{S:Nat->Prop}{w:World}(t:Tb):RD EE.L S w (eTb t) (tbC t):=by
 have hp:=RD.agg (L:=EE.L) (S:=S) (w:=w) 1 [eI t.at'.x,eI t.at'.y] [[.int .i64 t.at'.x],[.int .i64 t.at'.y]] rfl (λi h h'=>by
  match i,h,h' with
  | 0,_,_=>exact .int _ _
  | 1,_,_=>exact .int _ _) (by kernel_rfl)
 exact RD.agg (L:=EE.L) (S:=S) (w:=w) 9 [.str t.name,ePt t.at'] [[.string t.name],[.int .i64 t.at'.x,.int .i64 t.at'.y]] rfl (λi h h'=>by
  match i,h,h' with
  | 0,_,_=>exact .str _
  | 1,_,_=>exact hp) (by kernel_rfl)
def freshT(l:List Tb):CR:=if l=[] then .val .nl else .fresh 3 (l.map eTb)
def T267(ds:List DV)(r:CR):Prop:=∃l:List Tb,l.length<=100000/\ds=[.sl 3 (l.map eTb)]/\r=freshT l
theorem flat3_len:∀l:List Tb,((l.map tbC).flatten).length=l.length * 3
 | []=>rfl
 | t :: l=>by have:=flat3_len l;simp only[AY,Bc,A7,AE,this];show 3+l.length * 3=_;omega
theorem flat3_one:∀l:List Tb,∀u∈(l.map tbC).flatten,u.oneCell'=true
 | [],u,h=>by simp at h
 | t :: l,u,h=>by
  simp only[AY,Bc,Bf] at h;rcases h with h | h
  ·simp only[tbC,List.mem_cons,List.not_mem_nil,or_false] at h;rcases h with rfl | rfl | rfl <;> rfl
  ·exact flat3_one l u h
theorem at267(ds:List DV)(r:CR):T267 ds r->qM PP EE 267 ds r:=by
 rintro⟨l,hl,rfl,rfl⟩;refine⟨enters Tryz.func267 (by kernel_rfl) (by kernel_rfl),λS w vals hg hlt hlen hv=>?_⟩
 obtain⟨v,rfl⟩:∃v,vals=[v]:=List.length_eq_one_iff.1 hlen;have h0:=hv 0 (by simp) (by simp)
 simp only[List.getElem_cons_zero] at h0;obtain⟨a,c,css,rfl,hc,hcl,hel,hz,hm⟩:=RV.sl (E:=EE) h0;simp only[Ad] at hc hcl hel hm;have hcss:css=l.map tbC:=List.ext_getElem (by simpa using hcl) λi h1 h2=>by
  have:=hel i (by simpa using h2) h1
  rw[AF] at this ⊢;exact RD.tb this
 obtain⟨i0,hi,hz0,hz1,hz2⟩:=info_parts (P:=Tryz.prog) (e:=176) (z:=.agg #[.string ⟨#[]⟩,.int .i64 0,.int .i64 0]) (size:=3) (bytes:=32) (by kernel_rfl)
 by_cases h:l=[]
 ·subst h;rw[show freshT []=.val .nl from rfl]
  cases a with
  | none=>exact(AnyE.slices_Clone_nil clone3_lays 0 c w).mono λe w' ⟨h1,h2⟩=>⟨_,h1,by subst h2;exact Y0 hlt (Br _ _) ⟨RD.nl none,rfl⟩⟩
  | some ad=>exact(clone_zeroE clone3_lays i0 _ hi hz0 3 Tryz.sizeOf176 ad c w).mono λe w' ⟨ad',h1,h2⟩=>⟨_,h1,Y0 hlt h2 ⟨RD.nl (some ad'),rfl⟩⟩
 ·rw[show freshT l=.fresh 3 (l.map eTb) from if_neg h]
  have h0:0<l.length:=AA.2 h;obtain⟨ad,rfl,hsp,hS,hcell⟩:=hm h0;have ead:ad=⟨ad.block,ad.off,none⟩:=by rw[<-hsp]
  rw[hcss] at hcell;simp only[Ad];rw[ead];refine(AnyE.slices_Clone clone3_lays i0 _ 3 32 hi hz0 hz1 hz2 rfl (by omega) Tryz.sizeOf176 ad.block ad.off l.length c (l.map tbC).flatten w (flat3_len l) (by unfold maxLen;omega) (by omega) (λj u hj=>?_) (flat3_one l)).mono λe w' ⟨v',h1,hown,hne,hB⟩=>⟨v',h1,?_⟩
  ·have:=hcell j u hj;rw[jr hsp] at this;exact this
  ·rcases hown.2 with ⟨h2,_⟩ | ⟨g,cap,cur,rfl,hg1,hg2,hg3,hg4,hg5,hg6⟩
   ·exact absurd h2 hne
   ·refine⟨S,hB,λ_ h=>h,λ_ h=>.inl h,λb hb=>Nat.lt_of_lt_of_le (hlt b hb) hB.size,g,hg1,λhx=>absurd (hlt g hx) (by omega),λφ=>?_,λφ s hs=>?_⟩
    ·refine⟨cur,176,l.map tbC,hg2,by simp,λi h h'=>?_,λc hc=>?_,?_⟩
     ·simp only[AF];exact rd_tb _
     ·obtain⟨m,_,rfl⟩:=A0.1 hc;rfl
     ·rw[List.prefix_iff_eq_take,flat3_len];exact hg6.symm
    ·refine⟨?_,rfl⟩;have:=RA.own (L:=EE.L) (S:=S) (φ:=φ) (w:=w') s 0 l.length 3 g cap hs hg3 ⟨cur,176,hg2,by omega⟩
     simpa[vcs,Value.cells] using this
end Go.Am
namespace Go.Am
open Go.Proofs
open Go
class KnT[OO]:Prop where
 clone:∀l:List Tb,l.length<=100000->zB 267 [.sl 3 (l.map eTb)]=some (freshT l)
variable[OO]
def withS(s:Si)(t:Tb):Si:=⟨s.name,s.least,s.tb++[t]⟩
def qT(s:Si)(i:Nat)(p:Pt):Si:=⟨s.name,s.least,s.tb.set i ⟨(s.tb.getD i default).name,p⟩⟩
def ofF(f:Fm)(s:Si):Fm:=⟨s,f.w,f.c,f.r⟩
theorem c96(s:Si)(t:Tb)(hl:s.tb.length<=100000):zB 96 [eSi s,eTb t]=some (.val (eSi (withS s t))):=by
 rw[C96];simp only[zK,zN,h24,h143,Ag,zD,zQ,zS,zW,zh,zZ,zI,zR,Ad,AL];rw[decide_eq_true (by omega),zD]
 by_cases h:s.tb=[]
 ·simp[withS,h]
 ·have hne:(s.tb.map eTb).isEmpty=false:=by
   cases hs:s.tb with
   | nil=>exact absurd hs h
   | cons a l=>rfl
  rw[hne,zU];simp only[decide_true,zD,Ad,A7,AE,List.length_nil,Av,Aw,Ak];rw[decide_eq_true (by omega),zD,Ai (by simp)]
  simp[withS]
theorem set_tb(l:List Tb)(i:Nat)(h:i<l.length)(p:Pt):(l.map eTb).set i (.agg 9 ((flds (nth (l.map eTb) i)).set 1 (ePt p)))=(l.set i ⟨(l.getD i default).name,p⟩).map eTb:=by rw[AI,zO eTb l i h,Ar,At h];rfl
theorem c98(s:Si)(i:Nat)(p:Pt)(hi:i<s.tb.length)(hl:s.tb.length<=100000):zB 98 [eSi s,eN i,ePt p]=some (.val (eSi (qT s i p))):=by
 rw[C98];simp only[zK,zN,h24,h3,h141,Ag,zD,zQ,zS,zW,zh,zZ,zI,zR,Ad,AL,Av,Af];rw[decide_eq_true (by omega),zD]
 have hne:(s.tb.map eTb).isEmpty=false:=by
  cases hs:s.tb with
  | nil=>rw[hs] at hi;simp at hi
  | cons a l=>rfl
 have hag:jK 9 1 (nth (s.tb.map eTb) i)=true:=by rw[zO eTb s.tb i hi];rfl
 have hs:=set_tb s.tb i hi p;rw[hne,zU,decide_eq_true (by omega),zD,decide_eq_true hi,zD,hag,zD,hs]
 simp only[Ad,Bg,Aw,decide_true,zD,Ak];rw[Ai (by simp)]
 rfl
theorem c205(s:Si)(i:Nat)(p:Pt)(hi:i<s.tb.length)(hl:s.tb.length<=100000):zB 205 [eSi s,eN i,ePt p]=some (.val (eSi (qT s i p))):=by
 rw[C205];have hag:jK 9 1 (nth (s.tb.map eTb) i)=true:=by rw[zO eTb s.tb i hi];rfl
 have hs:=set_tb s.tb i hi p;have hcp:∀z:DV,([]++(s.tb.map eTb).take s.tb.length)++(Ae s.tb.length z).drop s.tb.length=s.tb.map eTb:=λz=>by
  rw[Ai (by simp),AK (by simp)]
  simp
 simp only[zK,zN,h58,h3,h141,Ag,zD,zQ,zS,zW,zh,zZ,zI,zR,Ad,List.length_replicate,Af,Av,Bp,hcp];rw[decide_eq_true (show 0<=(s.tb.length:Int)/\True/\32 * (s.tb.length:Int)<=281474976710656/\(s.tb.length:Int)<=9223372036854775807 from⟨by omega,trivial,by omega,by omega⟩),zD]
 simp only[Aw,decide_true,zD];rw[decide_eq_true (show(0:Int)<=(i:Int)/\(i:Int)<(s.tb.length:Int) by omega),zD,decide_eq_true hi,zD,hag,zD,hs]
 simp only[Ad,Bg,Aw,decide_true,zD,Ak];rw[Ai (by simp)]
 rfl
theorem c206(f:Fm)(s:Si)(h:zu f.r):zB 206 [eFm f,eSi s]=some (.val (eFm (ofF f s))):=by rw[C206];simp only[zK,zN,hFm' f h,h24,Ag,zD,zQ,zS,zW,zh,zi,zZ,zI,zR];rfl
def Y6(f:Fm)(s:Si):Int:=jl f.w f.c f.r (zo s) 0 - jl f.w f.c f.r (zo f.s) 0
theorem okFm_of{f:Fm}{s:Si}(h:okFm f)(hs:jM s=0):okFm (ofF f s):=by
 obtain⟨h1,_,_,_,h5⟩:=Yz hs;exact⟨h.w,h.k,h.c,h.r,h.q,by simpa[zo,ofF] using h5,λp hp=>by
  obtain⟨t,ht,rfl⟩:=A0.1 hp;exact(h1 t ht).1⟩
theorem zAJ{f:Fm}(h:okFm f):0<=jl f.w f.c f.r (zo f.s) 0/\jl f.w f.c f.r (zo f.s) 0<=26738688000000000:=Yl h.c f.w h.l 0 h.r h.q
theorem c204[KnW](f:Fm)(s:Si)(h:okFm f)(hs:jM s=0):zB 204 [eFm f,eSi s]=some (.val (eI (Y6 f s))):=by
 have h2:=okFm_of h hs;have b1:=zAJ h;have b2:=zAJ h2;obtain⟨_,_,_,_,h5⟩:=Yz hs;have h6:f.s.tb.length<=64:=by have:=h.l;rwa [jA] at this
 have e1:=c145 (w:=f.w) (c:=f.c) (r:=f.r) (ps:=zo s) h2 0 (by omega)
 have e2:=c145 (w:=f.w) (c:=f.c) (r:=f.r) (ps:=zo f.s) h 0 (by omega)
 rw[C204];simp only[zK,zN,hFm f h.r,h58,Ag,zD,zQ,zS,zW,zh,zi,zZ,zI,zR,c144 f h.r,zJ,hMd _ _ _ h.r,c146 s (by omega),c146 f.s (by omega),h81,e1,e2,h3]
 have hb:(ofF f s).w=f.w/\(ofF f s).c=f.c/\(ofF f s).r=f.r/\(ofF f s).s=s:=⟨rfl,rfl,rfl,rfl⟩;rw[hb.1,hb.2.1,hb.2.2.1,hb.2.2.2] at b2;rw[wr _ (by omega)]
 rfl
theorem ifO_decT{p:Prop}[Decidable p](h:p)(x y:Option CR):ifO (decide p) x y=x:=by rw[decide_eq_true h];rfl
theorem ifO_decF{p:Prop}[Decidable p](h:¬p)(x y:Option CR):ifO (decide p) x y=y:=by rw[decide_eq_false h];rfl
theorem bne_z{x:Int}(h:x=0):(x != 0)=false:=by rw[h];rfl
theorem bne_n{x:Int}(h:x≠0):(x != 0)=true:=by simp[h]
theorem c99(f:Fm)(h:okFm f)(i:Nat)(p:Pt)(hi:i<f.s.tb.length)(hl:f.s.tb.length<=100000)(hs:jM (qT f.s i p)=0):zB 99 [eFm f,eN i,ePt p]=some (.val (eI (Y6 f (qT f.s i p)))):=by
 have h2:=okFm_of h hs;have b1:=zAJ h;have b2:=zAJ h2;have e1:=c39 (ofF f (qT f.s i p)) h2;rw[C99];simp only[zK,zN,hFm' f h.r,h3,h141,Ag,zD,zQ,zS,zW,zh,zi,zZ,zI,zR,c98 f.s i p hi hl,zJ,h24,c206 f _ h.r,hFm' (ofF f (qT f.s i p)) h.r];rw[e1];simp only[zJ,h3,zD,zI,c39 f h];rw[wr _ (by omega)]
 rfl
end Go.Am
namespace Go.Am
open Go.Proofs
open Go
variable[OO]
def S100_0a(v0:List DV)(v1 v2:Int)(v3:ByteArray)(v4:Int)(v5:List DV)(v6:ByteArray)(v7 v8 v9:List DV)(v10:Int)(v11:List DV):St :=
 zr 71 [(1,(.d (.sl 2 v0))),(2,(.ptr 2 416 0 [])),(4,(.ptr 4 3 0 [])),(9,(.ptr 9 3 0 [])),(10,(.d (eI 0))),(38,(.d (eI v1))),(39,(.d (eI v2)))] [(2,(.mk false (.dc 416 [(.agg 4 [(.agg 0 [(.str v3),(eI v4),(.sl 3 v5)]),(.agg 0 [(.str v6),(.sl 1 v7),(.sl 1 v8)]),(.agg 1 [(.sl 1 v9),(eI v10)]),(.agg 3 v11)])]))),(4,(.mk false (.dc 3 [(.agg 0 [(.str (bs [])),(eI 0),.nl])]))),(9,(.mk false (.dc 3 [(.agg 0 [(.str (bs [])),(eI 0),.nl])])))]
noncomputable def zFm(v0:List DV)(v1 v2:Int)(v3:ByteArray)(v4:Int)(v5:List DV)(v6:ByteArray)(v7 v8 v9:List DV)(v10:Int)(v11:List DV):Option CR:=goQ 100 0 (S100_0a v0 v1 v2 v3 v4 v5 v6 v7 v8 v9 v10 v11)
def S100_1a(v0:List DV)(v1 v2 v3 v4:Int)(v5:ByteArray)(v6:Int)(v7:List DV)(v8:ByteArray)(v9 v10 v11:List DV)(v12:Int)(v13:List DV):St :=
 zr 71 [(1,(.d (.sl 2 v0))),(2,(.ptr 2 416 0 [])),(4,(.ptr 4 3 0 [])),(9,(.ptr 9 3 0 [])),(10,(.d (eI 0))),(11,(.d (eI v1))),(38,(.d (eI v2))),(39,(.d (eI v1))),(42,(.d (.sl 2 v0))),(43,(.d (eI v3))),(44,(.d (eI v4)))] [(2,(.mk false (.dc 416 [(.agg 4 [(.agg 0 [(.str v5),(eI v6),(.sl 3 v7)]),(.agg 0 [(.str v8),(.sl 1 v9),(.sl 1 v10)]),(.agg 1 [(.sl 1 v11),(eI v12)]),(.agg 3 v13)])]))),(4,(.mk false (.dc 3 [(.agg 0 [(.str (bs [])),(eI 0),.nl])]))),(9,(.mk false (.dc 3 [(.agg 0 [(.str (bs [])),(eI 0),.nl])])))]
noncomputable def zCw(v0:List DV)(v1 v2 v3 v4:Int)(v5:ByteArray)(v6:Int)(v7:List DV)(v8:ByteArray)(v9 v10 v11:List DV)(v12:Int)(v13:List DV):Option CR:=goQ 100 1 (S100_1a v0 v1 v2 v3 v4 v5 v6 v7 v8 v9 v10 v11 v12 v13)
def S100_1b(v0:List DV)(v1 v2 v3 v4 v5:Int)(v6:ByteArray)(v7:Int)(v8:List DV)(v9:ByteArray)(v10 v11 v12:List DV)(v13:Int)(v14:List DV)(v15:ByteArray)(v16:Int)(v17:List DV):St :=
 zr 71 [(1,(.d (.sl 2 v0))),(2,(.ptr 2 416 0 [])),(4,(.ptr 4 3 0 [])),(9,(.ptr 9 3 0 [])),(10,(.d (eI v1))),(11,(.d (eI v2))),(38,(.d (eI v3))),(39,(.d (eI v2))),(42,(.d (.sl 2 v0))),(43,(.d (eI v4))),(44,(.d (eI v5)))] [(2,(.mk false (.dc 416 [(.agg 4 [(.agg 0 [(.str v6),(eI v7),(.sl 3 v8)]),(.agg 0 [(.str v9),(.sl 1 v10),(.sl 1 v11)]),(.agg 1 [(.sl 1 v12),(eI v13)]),(.agg 3 v14)])]))),(4,(.mk false (.dc 3 [(.agg 0 [(.str (bs [])),(eI 0),.nl])]))),(9,(.mk false (.dc 3 [(.agg 0 [(.str v15),(eI v16),(.sl 3 v17)])])))]
noncomputable def zAQ(v0:List DV)(v1 v2 v3 v4 v5:Int)(v6:ByteArray)(v7:Int)(v8:List DV)(v9:ByteArray)(v10 v11 v12:List DV)(v13:Int)(v14:List DV)(v15:ByteArray)(v16:Int)(v17:List DV):Option CR:=goQ 100 1 (S100_1b v0 v1 v2 v3 v4 v5 v6 v7 v8 v9 v10 v11 v12 v13 v14 v15 v16 v17)
def S100_0b(v0:List DV)(v1 v2 v3:Int)(v4:ByteArray)(v5:Int)(v6:List DV)(v7:ByteArray)(v8 v9 v10:List DV)(v11:Int)(v12:List DV)(v13:ByteArray)(v14:Int)(v15:List DV):St :=
 zr 71 [(1,(.d (.sl 2 v0))),(2,(.ptr 2 416 0 [])),(4,(.ptr 4 3 0 [])),(9,(.ptr 9 3 0 [])),(10,(.d (eI v1))),(38,(.d (eI v2))),(39,(.d (eI v3)))] [(2,(.mk false (.dc 416 [(.agg 4 [(.agg 0 [(.str v4),(eI v5),(.sl 3 v6)]),(.agg 0 [(.str v7),(.sl 1 v8),(.sl 1 v9)]),(.agg 1 [(.sl 1 v10),(eI v11)]),(.agg 3 v12)])]))),(4,(.mk false (.dc 3 [(.agg 0 [(.str (bs [])),(eI 0),.nl])]))),(9,(.mk false (.dc 3 [(.agg 0 [(.str v13),(eI v14),(.sl 3 v15)])])))]
noncomputable def zIC(v0:List DV)(v1 v2 v3:Int)(v4:ByteArray)(v5:Int)(v6:List DV)(v7:ByteArray)(v8 v9 v10:List DV)(v11:Int)(v12:List DV)(v13:ByteArray)(v14:Int)(v15:List DV):Option CR:=goQ 100 0 (S100_0b v0 v1 v2 v3 v4 v5 v6 v7 v8 v9 v10 v11 v12 v13 v14 v15)
theorem zFl(v0:List DV)(v1 v2:Int)(v3:ByteArray)(v4:Int)(v5:List DV)(v6:ByteArray)(v7 v8 v9:List DV)(v10:Int)(v11:List DV):zFm v0 v1 v2 v3 v4 v5 v6 v7 v8 v9 v10 v11 =
 ifO (decide (v2<v1))
 ((zCw v0 v2 v1 (((Aa v0):Nat):Int) (0:Int) v3 v4 v5 v6 v7 v8 v9 v10 v11))
 (some (.val (.tup [(.agg 0 [(.str (bs [])),(eI 0),(.sl 3 [])]),(eI 0),(eI 7)]))) :=
 (zb 100 0 _).trans (by kernel_rfl)
theorem zFj(v0:List DV)(v1 v2 v3 v4:Int)(v5:ByteArray)(v6:Int)(v7:List DV)(v8:ByteArray)(v9 v10 v11:List DV)(v12:Int)(v13:List DV):zCw v0 v1 v2 v3 v4 v5 v6 v7 v8 v9 v10 v11 v12 v13 =
 ifO (decide (v4<v3))
 (ifO (decide (((0:Int)<=v4)/\(v4<(((Aa v0):Nat):Int))))
 (ifO (zF EE 6 141 (nth v0 (Ab v4)))
 (zH (zB 205 [(.agg 0 [(.str v5),(eI v6),(.sl 3 v7)]),(eI v1),(.agg 1 [(eI (zC (nth (flds (nth v0 (Ab v4))) 0))),(eI (zC (nth (flds (nth v0 (Ab v4))) 1)))])])
 (λr15=>ifO (zF EE 6 58 r15)
 (zH (zB 158 [(.agg 0 [(.str (zX (nth (flds r15) 0))),(eI (zC (nth (flds r15) 1))),(.sl 3 (elems (nth (flds r15) 2)))])])
 (λr16=>ifO (zF EE 6 46 r16)
 (ifO (bne (zC r16) 0)
 ((zCw v0 v1 v2 v3 (Ac .i64 (v4+(1:Int))) v5 v6 v7 v8 v9 v10 v11 v12 v13))
 (zH (zB 204 [(.agg 4 [(.agg 0 [(.str v5),(eI v6),(.sl 3 v7)]),(.agg 0 [(.str v8),(.sl 1 v9),(.sl 1 v10)]),(.agg 1 [(.sl 1 v11),(eI v12)]),(.agg 3 v13)]),(.agg 0 [(.str (zX (nth (flds r15) 0))),(eI (zC (nth (flds r15) 1))),(.sl 3 (elems (nth (flds r15) 2)))])])
 (λr17=>ifO (zF EE 6 3 r17)
 (ifO (decide ((zC r17)>(0:Int)))
 ((zAQ v0 (zC r17) v1 v2 v3 (Ac .i64 (v4+(1:Int))) v5 v6 v7 v8 v9 v10 v11 v12 v13 (zX (nth (flds r15) 0)) (zC (nth (flds r15) 1)) (elems (nth (flds r15) 2))))
 ((zCw v0 v1 v2 v3 (Ac .i64 (v4+(1:Int))) v5 v6 v7 v8 v9 v10 v11 v12 v13)))
 (none))
 (λ_ _=>none)))
 (none))
 (λ_ _=>none))
 (none))
 (λ_ _=>none))
 (none))
 (none))
 ((zFm v0 v2 (Ac .i64 (v1+(1:Int))) v5 v6 v7 v8 v9 v10 v11 v12 v13)) :=
 (zb 100 1 _).trans (by kernel_rfl)
theorem zFi(v0:List DV)(v1 v2 v3 v4 v5:Int)(v6:ByteArray)(v7:Int)(v8:List DV)(v9:ByteArray)(v10 v11 v12:List DV)(v13:Int)(v14:List DV)(v15:ByteArray)(v16:Int)(v17:List DV):zAQ v0 v1 v2 v3 v4 v5 v6 v7 v8 v9 v10 v11 v12 v13 v14 v15 v16 v17 =
 ifO (decide (v5<v4))
 (ifO (decide (((0:Int)<=v5)/\(v5<(((Aa v0):Nat):Int))))
 (ifO (zF EE 6 141 (nth v0 (Ab v5)))
 (zH (zB 205 [(.agg 0 [(.str v6),(eI v7),(.sl 3 v8)]),(eI v2),(.agg 1 [(eI (zC (nth (flds (nth v0 (Ab v5))) 0))),(eI (zC (nth (flds (nth v0 (Ab v5))) 1)))])])
 (λr24=>ifO (zF EE 6 58 r24)
 (zH (zB 158 [(.agg 0 [(.str (zX (nth (flds r24) 0))),(eI (zC (nth (flds r24) 1))),(.sl 3 (elems (nth (flds r24) 2)))])])
 (λr25=>ifO (zF EE 6 46 r25)
 (ifO (bne (zC r25) 0)
 ((zAQ v0 v1 v2 v3 v4 (Ac .i64 (v5+(1:Int))) v6 v7 v8 v9 v10 v11 v12 v13 v14 v15 v16 v17))
 (zH (zB 204 [(.agg 4 [(.agg 0 [(.str v6),(eI v7),(.sl 3 v8)]),(.agg 0 [(.str v9),(.sl 1 v10),(.sl 1 v11)]),(.agg 1 [(.sl 1 v12),(eI v13)]),(.agg 3 v14)]),(.agg 0 [(.str (zX (nth (flds r24) 0))),(eI (zC (nth (flds r24) 1))),(.sl 3 (elems (nth (flds r24) 2)))])])
 (λr26=>ifO (zF EE 6 3 r26)
 (ifO (decide ((zC r26)>v1))
 ((zAQ v0 (zC r26) v2 v3 v4 (Ac .i64 (v5+(1:Int))) v6 v7 v8 v9 v10 v11 v12 v13 v14 (zX (nth (flds r24) 0)) (zC (nth (flds r24) 1)) (elems (nth (flds r24) 2))))
 ((zAQ v0 v1 v2 v3 v4 (Ac .i64 (v5+(1:Int))) v6 v7 v8 v9 v10 v11 v12 v13 v14 v15 v16 v17)))
 (none))
 (λ_ _=>none)))
 (none))
 (λ_ _=>none))
 (none))
 (λ_ _=>none))
 (none))
 (none))
 ((zIC v0 v1 v3 (Ac .i64 (v2+(1:Int))) v6 v7 v8 v9 v10 v11 v12 v13 v14 v15 v16 v17)) :=
 (zb 100 1 _).trans (by kernel_rfl)
theorem zFk(v0:List DV)(v1 v2 v3:Int)(v4:ByteArray)(v5:Int)(v6:List DV)(v7:ByteArray)(v8 v9 v10:List DV)(v11:Int)(v12:List DV)(v13:ByteArray)(v14:Int)(v15:List DV):zIC v0 v1 v2 v3 v4 v5 v6 v7 v8 v9 v10 v11 v12 v13 v14 v15 =
 ifO (decide (v3<v2))
 ((zAQ v0 v1 v3 v2 (((Aa v0):Nat):Int) (0:Int) v4 v5 v6 v7 v8 v9 v10 v11 v12 v13 v14 v15))
 (ifO (v1 == (0:Int))
 (some (.val (.tup [(.agg 0 [(.str (bs [])),(eI 0),(.sl 3 [])]),(eI 0),(eI 7)])))
 (some (.val (.tup [(.agg 0 [(.str v13),(eI v14),(.sl 3 v15)]),(eI v1),(eI 0)])))) :=
 (zb 100 0 _).trans (by kernel_rfl)
theorem C100(x0 x1:DV):zB 100 [x0,x1] =
 ifO (zV (zF EE 6) [62,81] [x0,x1])
 (zH (zB 40 [(.agg 4 [(.agg 0 [(.str (zX (nth (flds (nth (flds x0) 0)) 0))),(eI (zC (nth (flds (nth (flds x0) 0)) 1))),(.sl 3 (elems (nth (flds (nth (flds x0) 0)) 2)))]),(.agg 0 [(.str (zX (nth (flds (nth (flds x0) 1)) 0))),(.sl 1 (elems (nth (flds (nth (flds x0) 1)) 1))),(.sl 1 (elems (nth (flds (nth (flds x0) 1)) 2)))]),(.agg 1 [(.sl 1 (elems (nth (flds (nth (flds x0) 2)) 0))),(eI (zC (nth (flds (nth (flds x0) 2)) 1)))]),(.agg 3 (flds (nth (flds x0) 3)))])])
 (λr0=>ifO (zF EE 6 46 r0)
 (zH (zB 169 [(.bool (decide ((((Aa (elems x1)):Nat):Int)>(256:Int)))),(eI 5)])
 (λr1=>ifO (zF EE 6 46 r1)
 (zH (zB 148 [(.sl 1 [(eI (zC r0)),(eI (zC r1))])])
 (λr2=>ifO (zF EE 6 46 r2)
 (ifO (bne (zC r2) 0)
 (some (.val (.tup [(.agg 0 [(.str (bs [])),(eI 0),(.sl 3 [])]),(eI 0),(eI (zC r2))])))
 (zH (zB 207 [(.sl 2 (elems x1)),(.fn 168 [] [])])
 (λr3=>ifO (zF EE 6 290 r3)
 (zH (zB 148 [(.sl 1 (elems r3))])
 (λr4=>ifO (zF EE 6 46 r4)
 (ifO (bne (zC r4) 0)
 (some (.val (.tup [(.agg 0 [(.str (bs [])),(eI 0),(.sl 3 [])]),(eI 0),(eI (zC r4))])))
 ((zFm (elems x1) (((Aa (elems (nth (flds (nth (flds x0) 0)) 2))):Nat):Int) (0:Int) (zX (nth (flds (nth (flds x0) 0)) 0)) (zC (nth (flds (nth (flds x0) 0)) 1)) (elems (nth (flds (nth (flds x0) 0)) 2)) (zX (nth (flds (nth (flds x0) 1)) 0)) (elems (nth (flds (nth (flds x0) 1)) 1)) (elems (nth (flds (nth (flds x0) 1)) 2)) (elems (nth (flds (nth (flds x0) 2)) 0)) (zC (nth (flds (nth (flds x0) 2)) 1)) (flds (nth (flds x0) 3)))))
 (none))
 (λ_ _=>none))
 (none))
 (λ_ _=>none)))
 (none))
 (λ_ _=>none))
 (none))
 (λ_ _=>none))
 (none))
 (λ_ _=>none))
 (none) :=
 (zM (f:=100) (by kernel_rfl) (by kernel_rfl) (by kernel_rfl) [x0,x1]).trans (by kernel_rfl)
def S101_0a(v0:List DV)(v1:Int):St :=
 zr 22 [(0,(.d (.sl 2 v0))),(3,(.d (eI v1)))] []
noncomputable def zFh(v0:List DV)(v1:Int):Option CR:=goQ 101 0 (S101_0a v0 v1)
theorem zFg(v0:List DV)(v1:Int):zFh v0 v1 =
 ifO (decide (v1<(((Aa v0):Nat):Int)))
 (ifO (decide (((0:Int)<=v1)/\(v1<(((Aa v0):Nat):Int))))
 (ifO (zF EE 6 141 (nth v0 (Ab v1)))
 (zH (zB 164 [(.agg 1 [(eI (zC (nth (flds (nth v0 (Ab v1))) 0))),(eI (zC (nth (flds (nth v0 (Ab v1))) 1)))])])
 (λr0=>ifO (zF EE 6 3 r0)
 (ifO (bne (zC r0) 0)
 (some (.val (eI (zC r0))))
 ((zFh v0 (Ac .i64 (v1+(1:Int))))))
 (none))
 (λ_ _=>none))
 (none))
 (none))
 (some (.val (eI 0))) :=
 (zb 101 0 _).trans (by kernel_rfl)
theorem C101(x0:DV):zB 101 [x0] =
 ifO (zV (zF EE 6) [81] [x0])
 (ifO (decide ((((Aa (elems x0)):Nat):Int)>(256:Int)))
 (some (.val (eI 5)))
 ((zFh (elems x0) (0:Int))))
 (none) :=
 (zM (f:=101) (by kernel_rfl) (by kernel_rfl) (by kernel_rfl) [x0]).trans (by kernel_rfl)
def S102_0a(v0:List DV)(v1:Int)(v2:ByteArray)(v3:Int)(v4:List DV)(v5:ByteArray)(v6 v7 v8:List DV)(v9:Int)(v10:List DV):St :=
 zr 61 [(1,(.d (.sl 2 v0))),(2,(.ptr 2 416 0 [])),(4,(.ptr 4 3 0 [])),(7,(.d (eI 0))),(8,(.ptr 8 3 0 [])),(9,(.d (eI v1)))] [(2,(.mk false (.dc 416 [(.agg 4 [(.agg 0 [(.str v2),(eI v3),(.sl 3 v4)]),(.agg 0 [(.str v5),(.sl 1 v6),(.sl 1 v7)]),(.agg 1 [(.sl 1 v8),(eI v9)]),(.agg 3 v10)])]))),(4,(.mk false (.dc 3 [(.agg 0 [(.str (bs [])),(eI 0),.nl])]))),(8,(.mk false (.dc 3 [(.agg 0 [(.str (bs [])),(eI 0),.nl])])))]
noncomputable def zFf(v0:List DV)(v1:Int)(v2:ByteArray)(v3:Int)(v4:List DV)(v5:ByteArray)(v6 v7 v8:List DV)(v9:Int)(v10:List DV):Option CR:=goQ 102 0 (S102_0a v0 v1 v2 v3 v4 v5 v6 v7 v8 v9 v10)
def S102_1a(v0:List DV)(v1 v2:Int)(v3:ByteArray)(v4:Int)(v5:List DV)(v6:ByteArray)(v7 v8 v9:List DV)(v10:Int)(v11:List DV):St :=
 zr 61 [(1,(.d (.sl 2 v0))),(2,(.ptr 2 416 0 [])),(4,(.ptr 4 3 0 [])),(7,(.d (eI 0))),(8,(.ptr 8 3 0 [])),(9,(.d (eI v1))),(10,(.d (eI v2)))] [(2,(.mk false (.dc 416 [(.agg 4 [(.agg 0 [(.str v3),(eI v4),(.sl 3 v5)]),(.agg 0 [(.str v6),(.sl 1 v7),(.sl 1 v8)]),(.agg 1 [(.sl 1 v9),(eI v10)]),(.agg 3 v11)])]))),(4,(.mk false (.dc 3 [(.agg 0 [(.str (bs [])),(eI 0),.nl])]))),(8,(.mk false (.dc 3 [(.agg 0 [(.str (bs [])),(eI 0),.nl])])))]
noncomputable def zCv(v0:List DV)(v1 v2:Int)(v3:ByteArray)(v4:Int)(v5:List DV)(v6:ByteArray)(v7 v8 v9:List DV)(v10:Int)(v11:List DV):Option CR:=goQ 102 1 (S102_1a v0 v1 v2 v3 v4 v5 v6 v7 v8 v9 v10 v11)
def S102_1b(v0:List DV)(v1 v2 v3:Int)(v4:ByteArray)(v5:Int)(v6:List DV)(v7:ByteArray)(v8 v9 v10:List DV)(v11:Int)(v12:List DV)(v13:ByteArray)(v14:Int)(v15:List DV):St :=
 zr 61 [(1,(.d (.sl 2 v0))),(2,(.ptr 2 416 0 [])),(4,(.ptr 4 3 0 [])),(7,(.d (eI v1))),(8,(.ptr 8 3 0 [])),(9,(.d (eI v2))),(10,(.d (eI v3)))] [(2,(.mk false (.dc 416 [(.agg 4 [(.agg 0 [(.str v4),(eI v5),(.sl 3 v6)]),(.agg 0 [(.str v7),(.sl 1 v8),(.sl 1 v9)]),(.agg 1 [(.sl 1 v10),(eI v11)]),(.agg 3 v12)])]))),(4,(.mk false (.dc 3 [(.agg 0 [(.str (bs [])),(eI 0),.nl])]))),(8,(.mk false (.dc 3 [(.agg 0 [(.str v13),(eI v14),(.sl 3 v15)])])))]
noncomputable def zAP(v0:List DV)(v1 v2 v3:Int)(v4:ByteArray)(v5:Int)(v6:List DV)(v7:ByteArray)(v8 v9 v10:List DV)(v11:Int)(v12:List DV)(v13:ByteArray)(v14:Int)(v15:List DV):Option CR:=goQ 102 1 (S102_1b v0 v1 v2 v3 v4 v5 v6 v7 v8 v9 v10 v11 v12 v13 v14 v15)
def S102_0b(v0:List DV)(v1 v2:Int)(v3:ByteArray)(v4:Int)(v5:List DV)(v6:ByteArray)(v7 v8 v9:List DV)(v10:Int)(v11:List DV)(v12:ByteArray)(v13:Int)(v14:List DV):St :=
 zr 61 [(1,(.d (.sl 2 v0))),(2,(.ptr 2 416 0 [])),(4,(.ptr 4 3 0 [])),(7,(.d (eI v1))),(8,(.ptr 8 3 0 [])),(9,(.d (eI v2)))] [(2,(.mk false (.dc 416 [(.agg 4 [(.agg 0 [(.str v3),(eI v4),(.sl 3 v5)]),(.agg 0 [(.str v6),(.sl 1 v7),(.sl 1 v8)]),(.agg 1 [(.sl 1 v9),(eI v10)]),(.agg 3 v11)])]))),(4,(.mk false (.dc 3 [(.agg 0 [(.str (bs [])),(eI 0),.nl])]))),(8,(.mk false (.dc 3 [(.agg 0 [(.str v12),(eI v13),(.sl 3 v14)])])))]
noncomputable def zIB(v0:List DV)(v1 v2:Int)(v3:ByteArray)(v4:Int)(v5:List DV)(v6:ByteArray)(v7 v8 v9:List DV)(v10:Int)(v11:List DV)(v12:ByteArray)(v13:Int)(v14:List DV):Option CR:=goQ 102 0 (S102_0b v0 v1 v2 v3 v4 v5 v6 v7 v8 v9 v10 v11 v12 v13 v14)
theorem zFe(v0:List DV)(v1:Int)(v2:ByteArray)(v3:Int)(v4:List DV)(v5:ByteArray)(v6 v7 v8:List DV)(v9:Int)(v10:List DV):zFf v0 v1 v2 v3 v4 v5 v6 v7 v8 v9 v10 =
 ifO (decide (v1<(((Aa v4):Nat):Int)))
 ((zCv v0 v1 (0:Int) v2 v3 v4 v5 v6 v7 v8 v9 v10))
 (some (.val (.tup [(.agg 0 [(.str (bs [])),(eI 0),(.sl 3 [])]),(eI 0),(eI 7)]))) :=
 (zb 102 0 _).trans (by kernel_rfl)
theorem zFc(v0:List DV)(v1 v2:Int)(v3:ByteArray)(v4:Int)(v5:List DV)(v6:ByteArray)(v7 v8 v9:List DV)(v10:Int)(v11:List DV):zCv v0 v1 v2 v3 v4 v5 v6 v7 v8 v9 v10 v11 =
 ifO (decide (v2<(((Aa v0):Nat):Int)))
 (ifO (decide (((0:Int)<=v2)/\(v2<(((Aa v0):Nat):Int))))
 (ifO (zF EE 6 141 (nth v0 (Ab v2)))
 (zH (zB 98 [(.agg 0 [(.str v3),(eI v4),(.sl 3 v5)]),(eI v1),(.agg 1 [(eI (zC (nth (flds (nth v0 (Ab v2))) 0))),(eI (zC (nth (flds (nth v0 (Ab v2))) 1)))])])
 (λr0=>ifO (zF EE 6 24 r0)
 (zH (zB 69 [(.agg 0 [(.str (zX (nth (flds r0) 0))),(eI (zC (nth (flds r0) 1))),(.sl 3 (elems (nth (flds r0) 2)))])])
 (λr1=>ifO (zF EE 6 3 r1)
 (ifO ((zC r1) == (0:Int))
 (ifO (decide (((0:Int)<=v2)/\(v2<(((Aa v0):Nat):Int))))
 (ifO (zF EE 6 141 (nth v0 (Ab v2)))
 (zH (zB 99 [(.agg 4 [(.agg 0 [(.str v3),(eI v4),(.sl 3 v5)]),(.agg 0 [(.str v6),(.sl 1 v7),(.sl 1 v8)]),(.agg 1 [(.sl 1 v9),(eI v10)]),(.agg 3 v11)]),(eI v1),(.agg 1 [(eI (zC (nth (flds (nth v0 (Ab v2))) 0))),(eI (zC (nth (flds (nth v0 (Ab v2))) 1)))])])
 (λr2=>ifO (zF EE 6 3 r2)
 (ifO (decide ((zC r2)>(0:Int)))
 (ifO (decide (((0:Int)<=v2)/\(v2<(((Aa v0):Nat):Int))))
 (ifO (zF EE 6 141 (nth v0 (Ab v2)))
 (zH (zB 99 [(.agg 4 [(.agg 0 [(.str v3),(eI v4),(.sl 3 v5)]),(.agg 0 [(.str v6),(.sl 1 v7),(.sl 1 v8)]),(.agg 1 [(.sl 1 v9),(eI v10)]),(.agg 3 v11)]),(eI v1),(.agg 1 [(eI (zC (nth (flds (nth v0 (Ab v2))) 0))),(eI (zC (nth (flds (nth v0 (Ab v2))) 1)))])])
 (λr3=>ifO (zF EE 6 3 r3)
 ((zAP v0 (zC r3) v1 (Ac .i64 (v2+(1:Int))) v3 v4 v5 v6 v7 v8 v9 v10 v11 (zX (nth (flds r0) 0)) (zC (nth (flds r0) 1)) (elems (nth (flds r0) 2))))
 (none))
 (λ_ _=>none))
 (none))
 (none))
 ((zCv v0 v1 (Ac .i64 (v2+(1:Int))) v3 v4 v5 v6 v7 v8 v9 v10 v11)))
 (none))
 (λ_ _=>none))
 (none))
 (none))
 ((zCv v0 v1 (Ac .i64 (v2+(1:Int))) v3 v4 v5 v6 v7 v8 v9 v10 v11)))
 (none))
 (λ_ _=>none))
 (none))
 (λ_ _=>none))
 (none))
 (none))
 ((zFf v0 (Ac .i64 (v1+(1:Int))) v3 v4 v5 v6 v7 v8 v9 v10 v11)) :=
 (zb 102 1 _).trans (by kernel_rfl)
theorem zFb(v0:List DV)(v1 v2 v3:Int)(v4:ByteArray)(v5:Int)(v6:List DV)(v7:ByteArray)(v8 v9 v10:List DV)(v11:Int)(v12:List DV)(v13:ByteArray)(v14:Int)(v15:List DV):zAP v0 v1 v2 v3 v4 v5 v6 v7 v8 v9 v10 v11 v12 v13 v14 v15 =
 ifO (decide (v3<(((Aa v0):Nat):Int)))
 (ifO (decide (((0:Int)<=v3)/\(v3<(((Aa v0):Nat):Int))))
 (ifO (zF EE 6 141 (nth v0 (Ab v3)))
 (zH (zB 98 [(.agg 0 [(.str v4),(eI v5),(.sl 3 v6)]),(eI v2),(.agg 1 [(eI (zC (nth (flds (nth v0 (Ab v3))) 0))),(eI (zC (nth (flds (nth v0 (Ab v3))) 1)))])])
 (λr12=>ifO (zF EE 6 24 r12)
 (zH (zB 69 [(.agg 0 [(.str (zX (nth (flds r12) 0))),(eI (zC (nth (flds r12) 1))),(.sl 3 (elems (nth (flds r12) 2)))])])
 (λr13=>ifO (zF EE 6 3 r13)
 (ifO ((zC r13) == (0:Int))
 (ifO (decide (((0:Int)<=v3)/\(v3<(((Aa v0):Nat):Int))))
 (ifO (zF EE 6 141 (nth v0 (Ab v3)))
 (zH (zB 99 [(.agg 4 [(.agg 0 [(.str v4),(eI v5),(.sl 3 v6)]),(.agg 0 [(.str v7),(.sl 1 v8),(.sl 1 v9)]),(.agg 1 [(.sl 1 v10),(eI v11)]),(.agg 3 v12)]),(eI v2),(.agg 1 [(eI (zC (nth (flds (nth v0 (Ab v3))) 0))),(eI (zC (nth (flds (nth v0 (Ab v3))) 1)))])])
 (λr14=>ifO (zF EE 6 3 r14)
 (ifO (decide ((zC r14)>v1))
 (ifO (decide (((0:Int)<=v3)/\(v3<(((Aa v0):Nat):Int))))
 (ifO (zF EE 6 141 (nth v0 (Ab v3)))
 (zH (zB 99 [(.agg 4 [(.agg 0 [(.str v4),(eI v5),(.sl 3 v6)]),(.agg 0 [(.str v7),(.sl 1 v8),(.sl 1 v9)]),(.agg 1 [(.sl 1 v10),(eI v11)]),(.agg 3 v12)]),(eI v2),(.agg 1 [(eI (zC (nth (flds (nth v0 (Ab v3))) 0))),(eI (zC (nth (flds (nth v0 (Ab v3))) 1)))])])
 (λr15=>ifO (zF EE 6 3 r15)
 ((zAP v0 (zC r15) v2 (Ac .i64 (v3+(1:Int))) v4 v5 v6 v7 v8 v9 v10 v11 v12 (zX (nth (flds r12) 0)) (zC (nth (flds r12) 1)) (elems (nth (flds r12) 2))))
 (none))
 (λ_ _=>none))
 (none))
 (none))
 ((zAP v0 v1 v2 (Ac .i64 (v3+(1:Int))) v4 v5 v6 v7 v8 v9 v10 v11 v12 v13 v14 v15)))
 (none))
 (λ_ _=>none))
 (none))
 (none))
 ((zAP v0 v1 v2 (Ac .i64 (v3+(1:Int))) v4 v5 v6 v7 v8 v9 v10 v11 v12 v13 v14 v15)))
 (none))
 (λ_ _=>none))
 (none))
 (λ_ _=>none))
 (none))
 (none))
 ((zIB v0 v1 (Ac .i64 (v2+(1:Int))) v4 v5 v6 v7 v8 v9 v10 v11 v12 v13 v14 v15)) :=
 (zb 102 1 _).trans (by kernel_rfl)
theorem zFd(v0:List DV)(v1 v2:Int)(v3:ByteArray)(v4:Int)(v5:List DV)(v6:ByteArray)(v7 v8 v9:List DV)(v10:Int)(v11:List DV)(v12:ByteArray)(v13:Int)(v14:List DV):zIB v0 v1 v2 v3 v4 v5 v6 v7 v8 v9 v10 v11 v12 v13 v14 =
 ifO (decide (v2<(((Aa v5):Nat):Int)))
 ((zAP v0 v1 v2 (0:Int) v3 v4 v5 v6 v7 v8 v9 v10 v11 v12 v13 v14))
 (ifO (v1 == (0:Int))
 (some (.val (.tup [(.agg 0 [(.str (bs [])),(eI 0),(.sl 3 [])]),(eI 0),(eI 7)])))
 (some (.val (.tup [(.agg 0 [(.str v12),(eI v13),(.sl 3 v14)]),(eI v1),(eI 0)])))) :=
 (zb 102 0 _).trans (by kernel_rfl)
theorem C102(x0 x1:DV):zB 102 [x0,x1] =
 ifO (zV (zF EE 6) [34,81] [x0,x1])
 ((zFf (elems x1) (0:Int) (zX (nth (flds (nth (flds x0) 0)) 0)) (zC (nth (flds (nth (flds x0) 0)) 1)) (elems (nth (flds (nth (flds x0) 0)) 2)) (zX (nth (flds (nth (flds x0) 1)) 0)) (elems (nth (flds (nth (flds x0) 1)) 1)) (elems (nth (flds (nth (flds x0) 1)) 2)) (elems (nth (flds (nth (flds x0) 2)) 0)) (zC (nth (flds (nth (flds x0) 2)) 1)) (flds (nth (flds x0) 3))))
 (none) :=
 (zM (f:=102) (by kernel_rfl) (by kernel_rfl) (by kernel_rfl) [x0,x1]).trans (by kernel_rfl)
def S103_0a(v0:Int)(v1:ByteArray)(v2:Int)(v3:List DV)(v4:ByteArray)(v5:Int)(v6:List DV):St :=
 zr 45 [(2,(.ptr 2 3 0 [])),(3,(.ptr 3 3 0 [])),(5,(.d (eI v0)))] [(2,(.mk false (.dc 3 [(.agg 0 [(.str v1),(eI v2),(.sl 3 v3)])]))),(3,(.mk false (.dc 3 [(.agg 0 [(.str v4),(eI v5),(.sl 3 v6)])])))]
noncomputable def zFa(v0:Int)(v1:ByteArray)(v2:Int)(v3:List DV)(v4:ByteArray)(v5:Int)(v6:List DV):Option CR:=goQ 103 0 (S103_0a v0 v1 v2 v3 v4 v5 v6)
theorem zFZ(v0:Int)(v1:ByteArray)(v2:Int)(v3:List DV)(v4:ByteArray)(v5:Int)(v6:List DV):zFa v0 v1 v2 v3 v4 v5 v6 =
 ifO (decide (v0<(((Aa v3):Nat):Int)))
 (ifO (decide (((0:Int)<=v0)/\(v0<(((Aa v3):Nat):Int))))
 (ifO (zF EE 6 143 (nth v3 (Ab v0)))
 (ifO (decide (((0:Int)<=v0)/\(v0<(((Aa v6):Nat):Int))))
 (ifO (zF EE 6 143 (nth v6 (Ab v0)))
 (ifO (ifO.match_1 (λy782=>Bool) true (λy775=>(!(Bn (YT EE 143 (.agg 9 [(.str (zX (nth (flds (nth v3 (Ab v0))) 0))),(.agg 1 [(eI (zC (nth (flds (nth (flds (nth v3 (Ab v0))) 1)) 0))),(eI (zC (nth (flds (nth (flds (nth v3 (Ab v0))) 1)) 1)))])]) (.agg 9 [(.str (zX (nth (flds (nth v6 (Ab v0))) 0))),(.agg 1 [(eI (zC (nth (flds (nth (flds (nth v6 (Ab v0))) 1)) 0))),(eI (zC (nth (flds (nth (flds (nth v6 (Ab v0))) 1)) 1)))])])) false))) (λy459=>(Bn (YT EE 143 (.agg 9 [(.str (zX (nth (flds (nth v3 (Ab v0))) 0))),(.agg 1 [(eI (zC (nth (flds (nth (flds (nth v3 (Ab v0))) 1)) 0))),(eI (zC (nth (flds (nth (flds (nth v3 (Ab v0))) 1)) 1)))])]) (.agg 9 [(.str (zX (nth (flds (nth v6 (Ab v0))) 0))),(.agg 1 [(eI (zC (nth (flds (nth (flds (nth v6 (Ab v0))) 1)) 0))),(eI (zC (nth (flds (nth (flds (nth v6 (Ab v0))) 1)) 1)))])])) false)))
 (some (.val (.bool false)))
 ((zFa (Ac .i64 (v0+(1:Int))) v1 v2 v3 v4 v5 v6)))
 (none))
 (none))
 (none))
 (none))
 (some (.val (.bool true))) :=
 (zb 103 0 _).trans (by kernel_rfl)
theorem C103(x0 x1:DV):zB 103 [x0,x1] =
 ifO (zV (zF EE 6) [24,24] [x0,x1])
 (ifO (!((Ao (zX (nth (flds x0) 0))) == (Ao (zX (nth (flds x1) 0)))))
 (some (.val (.bool false)))
 (ifO (bne (zC (nth (flds x0) 1)) (zC (nth (flds x1) 1)))
 (some (.val (.bool false)))
 (ifO (bne (((Aa (elems (nth (flds x0) 2))):Nat):Int) (((Aa (elems (nth (flds x1) 2))):Nat):Int))
 (some (.val (.bool false)))
 ((zFa (0:Int) (zX (nth (flds x0) 0)) (zC (nth (flds x0) 1)) (elems (nth (flds x0) 2)) (zX (nth (flds x1) 0)) (zC (nth (flds x1) 1)) (elems (nth (flds x1) 2)))))))
 (none) :=
 (zM (f:=103) (by kernel_rfl) (by kernel_rfl) (by kernel_rfl) [x0,x1]).trans (by kernel_rfl)
end Go.Am
namespace Go.Am
open Go.Proofs
open Go
variable[OO]
def S207_0a(v0:Nat)(v1 v2 v3:List DV)(v4:Int):St :=
 zr 22 [(1,(.d (.fn v0 v1 v2))),(5,(.d .nl)),(8,(.d (.sl 2 v3))),(9,(.d (eI v4))),(10,(.d (eI 0)))] []
noncomputable def L207_0a(v0:Nat)(v1 v2 v3:List DV)(v4:Int):Option CR:=goQ 207 0 (S207_0a v0 v1 v2 v3 v4)
def S207_0b(v0:Nat)(v1 v2 v3 v4:List DV)(v5 v6:Int):St :=
 zr 22 [(1,(.d (.fn v0 v1 v2))),(5,(.own 19 0 (Aa v3) 1)),(8,(.d (.sl 2 v4))),(9,(.d (eI v5))),(10,(.d (eI v6)))] [(19,(.mk false (.dc 1 v3)))]
noncomputable def zE5(v0:Nat)(v1 v2 v3 v4:List DV)(v5 v6:Int):Option CR:=goQ 207 0 (S207_0b v0 v1 v2 v3 v4 v5 v6)
theorem L207_0a_eq(v0:Nat)(v1 v2 v3:List DV)(v4:Int):L207_0a v0 v1 v2 v3 v4 =
 ifO (decide ((0:Int)<v4))
 (ifO (decide (((0:Int)<=(0:Int))/\((0:Int)<(((Aa v3):Nat):Int))))
 (ifO (zF EE 6 141 (nth v3 0))
 (zH (zB v0 (zy EE v0 ((v1++[(.agg 1 [(eI (zC (nth (flds (nth v3 0)) 0))),(eI (zC (nth (flds (nth v3 0)) 1)))])])++v2)))
 (λr0=>ifO (zF EE 6 46 r0)
 ((zE5 v0 v1 v2 [(eI (zC r0))] v3 v4 (1:Int)))
 (none))
 (λ_ _=>none))
 (none))
 (none))
 (some (.val (.sl 1 []))) :=
 (zb 207 0 _).trans (by kernel_rfl)
theorem zE4(v0:Nat)(v1 v2 v3 v4:List DV)(v5 v6:Int):zE5 v0 v1 v2 v3 v4 v5 v6 =
 ifO (decide (v6<v5))
 (ifO (decide (((0:Int)<=v6)/\(v6<(((Aa v4):Nat):Int))))
 (ifO (zF EE 6 141 (nth v4 (Ab v6)))
 (zH (zB v0 (zy EE v0 ((v1++[(.agg 1 [(eI (zC (nth (flds (nth v4 (Ab v6))) 0))),(eI (zC (nth (flds (nth v4 (Ab v6))) 1)))])])++v2)))
 (λr3=>ifO (zF EE 6 46 r3)
 (ifO (decide ((Aa v3)=(Aa v3)))
 (ifO (decide ((((2 * ((Aa v3)+1))+200) * 8)<=281474976710656))
 ((zE5 v0 v1 v2 (v3++[(eI (zC r3))]) v4 v5 (Ac .i64 (v6+(1:Int)))))
 (none))
 (none))
 (none))
 (λ_ _=>none))
 (none))
 (none))
 (ifO (decide ((0+(Aa v3))<=(Aa v3)))
 (some (.val (.sl 1 (Aq (Aa v3) (As 0 v3)))))
 (none)) :=
 (zb 207 0 _).trans (by kernel_rfl)
theorem C207(x0 x1:DV):zB 207 [x0,x1] =
 ifO (zV (zF EE 6) [81,276] [x0,x1])
 ((L207_0a (zDz x1) (fnA x1) (fnC x1) (elems x0) (((Aa (elems x0)):Nat):Int)))
 (none) :=
 (zM (f:=207) (by kernel_rfl) (by kernel_rfl) (by kernel_rfl) [x0,x1]).trans (by kernel_rfl)
end Go.Am
namespace Go.Am
open Go.Proofs
open Go
abbrev s0:Si:=⟨bs [],0,[]⟩
abbrev zCx:=Option (Int×Si)
def impV:zCx->Int
 | none=>0
 | some x=>x.1
def jq(f:Fm)(i:Nat)(st:zCx)(p:Pt):zCx:=if jM (qT f.s i p)=0/\Y6 f (qT f.s i p)>impV st then some (Y6 f (qT f.s i p),qT f.s i p) else st
def zCL(f:Fm)(l:List Pt)(st:zCx)(i:Nat):zCx:=l.foldl (jq f i) st
def Yi(f:Fm)(l:List Pt)(is:List Nat)(st:zCx):zCx:=is.foldl (zCL f l) st
def zEY:zCx->CR
 | none=>.val (.tup [eSi s0,eI 0,eI 7])
 | some (m,s)=>if m=0 then .val (.tup [eSi s0,eI 0,eI 7]) else .val (.tup [eSi s,eI m,eI 0])
theorem beq_z{x:Int}(h:x=0):(x == 0)=true:=by rw[h];rfl
theorem beq_n{x:Int}(h:x≠0):(x == 0)=false:=by simp[h]
variable[OO]
noncomputable def I100(f:Fm)(l:List Pt)(i k:Nat):zCx->Option CR
 | none=>zCw (l.map ePt) i f.s.tb.length l.length k f.s.name f.s.least (f.s.tb.map eTb) f.w.rule (f.w.d.map eI) (f.w.w.map eI) (f.c.p.map eI) f.c.cut (f.r.map jC)
 | some x=>zAQ (l.map ePt) x.1 i f.s.tb.length l.length k f.s.name f.s.least (f.s.tb.map eTb) f.w.rule (f.w.d.map eI) (f.w.w.map eI) (f.c.p.map eI) f.c.cut (f.r.map jC) x.2.name x.2.least (x.2.tb.map eTb)
noncomputable def O100(f:Fm)(l:List Pt)(i:Nat):zCx->Option CR
 | none=>zFm (l.map ePt) f.s.tb.length i f.s.name f.s.least (f.s.tb.map eTb) f.w.rule (f.w.d.map eI) (f.w.w.map eI) (f.c.p.map eI) f.c.cut (f.r.map jC)
 | some x=>zIC (l.map ePt) x.1 f.s.tb.length i f.s.name f.s.least (f.s.tb.map eTb) f.w.rule (f.w.d.map eI) (f.w.w.map eI) (f.c.p.map eI) f.c.cut (f.r.map jC) x.2.name x.2.least (x.2.tb.map eTb)
theorem row100[KnW](f:Fm)(h:okFm f)(l:List Pt)(hl:l.length<=100000)(i:Nat)(hi:i<f.s.tb.length)(hn:f.s.tb.length<=100000) :
  ∀k,k<=l.length->∀st,I100 f l i k st=O100 f l (i+1) ((l.drop k).foldl (jq f i) st):=by
 apply down (P:=λk=>∀st,I100 f l i k st=O100 f l (i+1) ((l.drop k).foldl (jq f i) st))
 ·intro st;rw[AG,Bk];cases st with
  | none =>
   unfold I100 O100;rw[zFj];simp only[An,decide_false,zU];rw[wr ((i:Int)+1) (by omega)]
   rfl
  | some x =>
   unfold I100 O100
   try dsimp only
   rw[zFi];simp only[An,decide_false,zU];rw[wr ((i:Int)+1) (by omega)]
   rfl
 ·intro k hk ih st;have e1:(k:Int)<l.length:=by omega
  have e0:(0:Int)<=(k:Int):=by omega
  have hag:=c205 f.s i l[k] hi hn;rw[za l k hk,Bh,<-ih];cases st with
  | none =>
   unfold I100;rw[zFj];simp only[Ad,e1,e0,and_self,decide_true,zD,Af,zO _ l k hk,h141,zQ,zS,zW,zh,zI,hag,zJ,h58,zZ,zR,c158,h46];rw[wr ((k:Int)+1) (by omega)]
   by_cases h1:jM (qT f.s i l[k])=0
   ·rw[bne_z h1,zU,c204 f _ h h1];simp only[zJ,h3,zD,zI];by_cases h2:Y6 f (qT f.s i l[k])>0
    ·refine(ifO_decT h2 _ _).trans ?_;rw[show jq f i none l[k]=some (Y6 f (qT f.s i l[k]),qT f.s i l[k]) from if_pos ⟨h1,h2⟩]
     rfl
    ·refine(ifO_decF h2 _ _).trans ?_;rw[show jq f i none l[k]=none from if_neg (λhh=>h2 hh.2)]
     rfl
   ·rw[bne_n h1,zD,show jq f i none l[k]=none from if_neg (λhh=>h1 hh.1)]
    rfl
  | some x =>
   unfold I100
   try dsimp only
   rw[zFi];simp only[Ad,e1,e0,and_self,decide_true,zD,Af,zO _ l k hk,h141,zQ,zS,zW,zh,zI,hag,zJ,h58,zZ,zR,c158,h46];rw[wr ((k:Int)+1) (by omega)]
   by_cases h1:jM (qT f.s i l[k])=0
   ·rw[bne_z h1,zU,c204 f _ h h1];simp only[zJ,h3,zD,zI];by_cases h2:Y6 f (qT f.s i l[k])>x.1
    ·refine(ifO_decT h2 _ _).trans ?_;rw[show jq f i (some x) l[k]=some (Y6 f (qT f.s i l[k]),qT f.s i l[k]) from if_pos ⟨h1,h2⟩]
     rfl
    ·refine(ifO_decF h2 _ _).trans ?_;rw[show jq f i (some x) l[k]=some x from if_neg (λhh=>h2 hh.2)]
     rfl
   ·rw[bne_n h1,zD,show jq f i (some x) l[k]=some x from if_neg (λhh=>h1 hh.1)]
    rfl
theorem all100[KnW](f:Fm)(h:okFm f)(l:List Pt)(hl:l.length<=100000)(hn:f.s.tb.length<=100000) :
  ∀i,i<=f.s.tb.length->∀st,O100 f l i st=some (zEY (Yi f l ((Ap f.s.tb.length).drop i) st)):=by
 apply down (P:=λi=>∀st,O100 f l i st=some (zEY (Yi f l ((Ap f.s.tb.length).drop i) st)))
 ·intro st;rw[show(Ap f.s.tb.length).drop f.s.tb.length=[] from AK (by simp)]
  cases st with
  | none =>
   unfold O100;rw[zFl];simp only[An,decide_false,zU];rfl
  | some x =>
   unfold O100
   try dsimp only
   rw[zFk];simp only[JY];simp only[An,decide_false,zU];show _=some (zEY (some x));unfold zEY;by_cases hx:x.1=0
   ·rw[if_pos hx];simp only[hx,if_true];rfl
   ·rw[if_neg hx];simp only[hx,if_false]
 ·intro i hi ih st;have e1:(i:Int)<f.s.tb.length:=by omega
  have hd:(Ap f.s.tb.length).drop i=i :: (Ap f.s.tb.length).drop (i+1):=by
   have:=za (Ap f.s.tb.length) i (by simpa using hi)
   rwa [A8] at this
  rw[hd];have hr:=row100 f h l hl i hi hn 0 (Aj _) st;rw[Ak] at hr;show _=some (zEY (Yi f l ((Ap f.s.tb.length).drop (i+1)) (zCL f l st i)));rw[<-ih (zCL f l st i)];unfold zCL;rw[<-hr];cases st with
  | none =>
   unfold O100 I100;rw[zFl];simp only[e1,decide_true,zD,Ad];rfl
  | some x =>
   unfold O100 I100
   try dsimp only
   rw[zFk];simp only[e1,decide_true,zD,Ad];rfl
noncomputable def I102(f:Fm)(l:List Pt)(i k:Nat):zCx->Option CR
 | none=>zCv (l.map ePt) i k f.s.name f.s.least (f.s.tb.map eTb) f.w.rule (f.w.d.map eI) (f.w.w.map eI) (f.c.p.map eI) f.c.cut (f.r.map jC)
 | some x=>zAP (l.map ePt) x.1 i k f.s.name f.s.least (f.s.tb.map eTb) f.w.rule (f.w.d.map eI) (f.w.w.map eI) (f.c.p.map eI) f.c.cut (f.r.map jC) x.2.name x.2.least (x.2.tb.map eTb)
noncomputable def O102(f:Fm)(l:List Pt)(i:Nat):zCx->Option CR
 | none=>zFf (l.map ePt) i f.s.name f.s.least (f.s.tb.map eTb) f.w.rule (f.w.d.map eI) (f.w.w.map eI) (f.c.p.map eI) f.c.cut (f.r.map jC)
 | some x=>zIB (l.map ePt) x.1 i f.s.name f.s.least (f.s.tb.map eTb) f.w.rule (f.w.d.map eI) (f.w.w.map eI) (f.c.p.map eI) f.c.cut (f.r.map jC) x.2.name x.2.least (x.2.tb.map eTb)
theorem row102[KnW](f:Fm)(h:okFm f)(l:List Pt)(hl:l.length<=100000)(i:Nat)(hi:i<f.s.tb.length)(hn:f.s.tb.length<=100000) :
  ∀k,k<=l.length->∀st,I102 f l i k st=O102 f l (i+1) ((l.drop k).foldl (jq f i) st):=by
 apply down (P:=λk=>∀st,I102 f l i k st=O102 f l (i+1) ((l.drop k).foldl (jq f i) st))
 ·intro st;rw[AG,Bk];cases st with
  | none =>
   unfold I102 O102;rw[zFc];simp only[Ad,An,decide_false,zU];rw[wr ((i:Int)+1) (by omega)]
   rfl
  | some x =>
   unfold I102 O102
   try dsimp only
   rw[zFb];simp only[Ad,An,decide_false,zU];rw[wr ((i:Int)+1) (by omega)]
   rfl
 ·intro k hk ih st;have e1:(k:Int)<l.length:=by omega
  have e0:(0:Int)<=(k:Int):=by omega
  have hag:=c98 f.s i l[k] hi hn;rw[za l k hk,Bh,<-ih];cases st with
  | none =>
   unfold I102;rw[zFc];simp only[Ad,e1,e0,and_self,decide_true,zD,Af,zO _ l k hk,h141,zQ,zS,zW,zh,zI,hag,zJ,h24,zZ,zR,c69,h3];rw[wr ((k:Int)+1) (by omega)]
   by_cases h1:jM (qT f.s i l[k])=0
   ·rw[beq_z h1,zD,c99 f h i l[k] hi hn h1];simp only[zJ,h3,zD,zI];by_cases h2:Y6 f (qT f.s i l[k])>0
    ·refine(ifO_decT h2 _ _).trans ?_;rw[show jq f i none l[k]=some (Y6 f (qT f.s i l[k]),qT f.s i l[k]) from if_pos ⟨h1,h2⟩]
     rfl
    ·refine(ifO_decF h2 _ _).trans ?_;rw[show jq f i none l[k]=none from if_neg (λhh=>h2 hh.2)]
     rfl
   ·rw[beq_n h1,zU,show jq f i none l[k]=none from if_neg (λhh=>h1 hh.1)]
    rfl
  | some x =>
   unfold I102
   try dsimp only
   rw[zFb];simp only[Ad,e1,e0,and_self,decide_true,zD,Af,zO _ l k hk,h141,zQ,zS,zW,zh,zI,hag,zJ,h24,zZ,zR,c69,h3];rw[wr ((k:Int)+1) (by omega)]
   by_cases h1:jM (qT f.s i l[k])=0
   ·rw[beq_z h1,zD,c99 f h i l[k] hi hn h1];simp only[zJ,h3,zD,zI];by_cases h2:Y6 f (qT f.s i l[k])>x.1
    ·refine(ifO_decT h2 _ _).trans ?_;rw[show jq f i (some x) l[k]=some (Y6 f (qT f.s i l[k]),qT f.s i l[k]) from if_pos ⟨h1,h2⟩]
     rfl
    ·refine(ifO_decF h2 _ _).trans ?_;rw[show jq f i (some x) l[k]=some x from if_neg (λhh=>h2 hh.2)]
     rfl
   ·rw[beq_n h1,zU,show jq f i (some x) l[k]=some x from if_neg (λhh=>h1 hh.1)]
    rfl
theorem all102[KnW](f:Fm)(h:okFm f)(l:List Pt)(hl:l.length<=100000)(hn:f.s.tb.length<=100000) :
  ∀i,i<=f.s.tb.length->∀st,O102 f l i st=some (zEY (Yi f l ((Ap f.s.tb.length).drop i) st)):=by
 apply down (P:=λi=>∀st,O102 f l i st=some (zEY (Yi f l ((Ap f.s.tb.length).drop i) st)))
 ·intro st;rw[show(Ap f.s.tb.length).drop f.s.tb.length=[] from AK (by simp)]
  cases st with
  | none =>
   unfold O102;rw[zFe];simp only[Ad,An,decide_false,zU];rfl
  | some x =>
   unfold O102
   try dsimp only
   rw[zFd];simp only[JY];simp only[Ad,An,decide_false,zU];show _=some (zEY (some x));unfold zEY;by_cases hx:x.1=0
   ·rw[if_pos hx];simp only[hx,if_true];rfl
   ·rw[if_neg hx];simp only[hx,if_false]
 ·intro i hi ih st;have e1:(i:Int)<f.s.tb.length:=by omega
  have hd:(Ap f.s.tb.length).drop i=i :: (Ap f.s.tb.length).drop (i+1):=by
   have:=za (Ap f.s.tb.length) i (by simpa using hi)
   rwa [A8] at this
  rw[hd];have hr:=row102 f h l hl i hi hn 0 (Aj _) st;rw[Ak] at hr;show _=some (zEY (Yi f l ((Ap f.s.tb.length).drop (i+1)) (zCL f l st i)));rw[<-ih (zCL f l st i)];unfold zCL;rw[<-hr];cases st with
  | none =>
   unfold O102 I102;rw[zFe];simp only[e1,decide_true,zD,Ad];rfl
  | some x =>
   unfold O102 I102
   try dsimp only
   rw[zFd];simp only[e1,decide_true,zD,Ad];rfl
end Go.Am
namespace Go.Am
open Go.Proofs
open Go
variable[OO]
def S15_1008a(v0 v1 v2 v3:Int)(v4:ByteArray)(v5:Int)(v6:List DV)(v7:ByteArray)(v8:Int)(v9:List DV):St :=
 zr 68 [(5,(.ptr 5 3 0 [])),(6,(.d (eI v0))),(7,(.d (eI v1))),(8,(.d (eI v2))),(9,(.ptr 9 3 0 [])),(10,(.d (eI v3)))] [(5,(.mk false (.dc 3 [(.agg 0 [(.str v4),(eI v5),(.sl 3 v6)])]))),(9,(.mk false (.dc 3 [(.agg 0 [(.str v7),(eI v8),(.sl 3 v9)])])))]
noncomputable def Ys(v0 v1 v2 v3:Int)(v4:ByteArray)(v5:Int)(v6:List DV)(v7:ByteArray)(v8:Int)(v9:List DV):Option CR:=goQ 15 1008 (S15_1008a v0 v1 v2 v3 v4 v5 v6 v7 v8 v9)
def S15_1008b(v0 v1 v2:Int)(v3:ByteArray)(v4:Int)(v5:List DV):St :=
 zr 68 [(5,(.ptr 5 3 0 [])),(6,(.d (eI v0))),(7,(.d (eI v1))),(8,(.d (eI v2))),(9,(.ptr 9 3 0 [])),(10,(.d (eI 0)))] [(5,(.mk false (.dc 3 [(.agg 0 [(.str v3),(eI v4),(.sl 3 v5)])]))),(9,(.mk false (.dc 3 [(.agg 0 [(.str (bs [])),(eI 0),.nl])])))]
noncomputable def Yr(v0 v1 v2:Int)(v3:ByteArray)(v4:Int)(v5:List DV):Option CR:=goQ 15 1008 (S15_1008b v0 v1 v2 v3 v4 v5)
theorem zHm(v0 v1 v2 v3:Int)(v4:ByteArray)(v5:Int)(v6:List DV)(v7:ByteArray)(v8:Int)(v9:List DV):Ys v0 v1 v2 v3 v4 v5 v6 v7 v8 v9 =
 zH (zB 104 [(.agg 0 [(.str v4),(eI v5),(.sl 3 v6)])])
 (λr81=>ifO (zF EE 6 24 r81)
 (zH (zB 103 [(.agg 0 [(.str (zX (nth (flds r81) 0))),(eI (zC (nth (flds r81) 1))),(.sl 3 (elems (nth (flds r81) 2)))]),(.agg 0 [(.str v7),(eI v8),(.sl 3 v9)])])
 (λr82=>ifO (zF EE 6 4 r82)
 (ifO (jm r82)
 (ifO (v0 == v3)
 (some (.val (.bool (v1 == v2))))
 (some (.val (.bool false))))
 (some (.val (.bool false))))
 (none))
 (λ_ _=>none))
 (none))
 (λ_ _=>none) :=
 (zb 15 1008 _).trans (by kernel_rfl)
theorem zHl(v0 v1 v2:Int)(v3:ByteArray)(v4:Int)(v5:List DV):Yr v0 v1 v2 v3 v4 v5 =
 zH (zB 104 [(.agg 0 [(.str v3),(eI v4),(.sl 3 v5)])])
 (λr87=>ifO (zF EE 6 24 r87)
 (zH (zB 103 [(.agg 0 [(.str (zX (nth (flds r87) 0))),(eI (zC (nth (flds r87) 1))),(.sl 3 (elems (nth (flds r87) 2)))]),(.agg 0 [(.str (bs [])),(eI 0),(.sl 3 [])])])
 (λr88=>ifO (zF EE 6 4 r88)
 (ifO (jm r88)
 (ifO (v0 == (0:Int))
 (some (.val (.bool (v1 == v2))))
 (some (.val (.bool false))))
 (some (.val (.bool false))))
 (none))
 (λ_ _=>none))
 (none))
 (λ_ _=>none) :=
 (zb 15 1008 _).trans (by kernel_rfl)
theorem C15(x0 x1:DV):zB 15 [x0,x1] =
 ifO (zV (zF EE 6) [34,81] [x0,x1])
 (zH (zB 33 [])
 (λr0=>ifO (zF EE 6 4 r0)
 (ifO (!(jm r0))
 (zH (zB 33 [])
 (λr1=>ifO (zF EE 6 4 r1)
 (some (.val (.bool (jm r1))))
 (none))
 (λ_ _=>none))
 (zH (zB 21 [(.agg 4 [(.agg 0 [(.str (zX (nth (flds (nth (flds x0) 0)) 0))),(eI (zC (nth (flds (nth (flds x0) 0)) 1))),(.sl 3 (elems (nth (flds (nth (flds x0) 0)) 2)))]),(.agg 0 [(.str (zX (nth (flds (nth (flds x0) 1)) 0))),(.sl 1 (elems (nth (flds (nth (flds x0) 1)) 1))),(.sl 1 (elems (nth (flds (nth (flds x0) 1)) 2)))]),(.agg 1 [(.sl 1 (elems (nth (flds (nth (flds x0) 2)) 0))),(eI (zC (nth (flds (nth (flds x0) 2)) 1)))]),(.agg 3 (flds (nth (flds x0) 3)))]),(eI 4)])
 (λr4=>ifO (zF EE 6 4 r4)
 (ifO (!(jm r4))
 (zH (zB 33 [])
 (λr5=>ifO (zF EE 6 4 r5)
 (some (.val (.bool (jm r5))))
 (none))
 (λ_ _=>none))
 (ifO (decide ((((Aa (elems x1)):Nat):Int)>(5:Int)))
 (ifO (bne (((Aa (elems x1)):Nat):Int) (257:Int))
 (zH (zB 33 [])
 (λr8=>ifO (zF EE 6 4 r8)
 (some (.val (.bool (jm r8))))
 (none))
 (λ_ _=>none))
 (zH (zB 34 [(.agg 4 [(.agg 0 [(.str (zX (nth (flds (nth (flds x0) 0)) 0))),(eI (zC (nth (flds (nth (flds x0) 0)) 1))),(.sl 3 (elems (nth (flds (nth (flds x0) 0)) 2)))]),(.agg 0 [(.str (zX (nth (flds (nth (flds x0) 1)) 0))),(.sl 1 (elems (nth (flds (nth (flds x0) 1)) 1))),(.sl 1 (elems (nth (flds (nth (flds x0) 1)) 2)))]),(.agg 1 [(.sl 1 (elems (nth (flds (nth (flds x0) 2)) 0))),(eI (zC (nth (flds (nth (flds x0) 2)) 1)))]),(.agg 3 (flds (nth (flds x0) 3)))])])
 (λr11=>ifO (zF EE 6 62 r11)
 (ifO (decide ((((2 * (0+(Aa (elems x1))))+200) * 16)<=281474976710656))
 (ifO (AJ (elems x1))
 (zH (zB 100 [(.agg 4 [(.agg 0 [(.str (zX (nth (flds (nth (flds r11) 0)) 0))),(eI (zC (nth (flds (nth (flds r11) 0)) 1))),(.sl 3 (elems (nth (flds (nth (flds r11) 0)) 2)))]),(.agg 0 [(.str (zX (nth (flds (nth (flds r11) 1)) 0))),(.sl 1 (elems (nth (flds (nth (flds r11) 1)) 1))),(.sl 1 (elems (nth (flds (nth (flds r11) 1)) 2)))]),(.agg 1 [(.sl 1 (elems (nth (flds (nth (flds r11) 2)) 0))),(eI (zC (nth (flds (nth (flds r11) 2)) 1)))]),(.agg 3 (flds (nth (flds r11) 3)))]),(.sl 2 [])])
 (λr12=>ifO ((DV.isTup r12) && (zV (zF EE 6) [58,3,46] (tups r12)))
 (zH (zB 22 [(.agg 4 [(.agg 0 [(.str (zX (nth (flds (nth (flds x0) 0)) 0))),(eI (zC (nth (flds (nth (flds x0) 0)) 1))),(.sl 3 (elems (nth (flds (nth (flds x0) 0)) 2)))]),(.agg 0 [(.str (zX (nth (flds (nth (flds x0) 1)) 0))),(.sl 1 (elems (nth (flds (nth (flds x0) 1)) 1))),(.sl 1 (elems (nth (flds (nth (flds x0) 1)) 2)))]),(.agg 1 [(.sl 1 (elems (nth (flds (nth (flds x0) 2)) 0))),(eI (zC (nth (flds (nth (flds x0) 2)) 1)))]),(.agg 3 (flds (nth (flds x0) 3)))])])
 (λr13=>ifO (zF EE 6 3 r13)
 (zH (zB 101 [(.sl 2 (elems x1))])
 (λr14=>ifO (zF EE 6 3 r14)
 (zH (zB 35 [(.sl 1 [(eI (zC r13)),(eI (zC r14))])])
 (λr15=>ifO (zF EE 6 3 r15)
 (ifO ((zC r15) == (0:Int))
 (zH (zB 102 [(.agg 4 [(.agg 0 [(.str (zX (nth (flds (nth (flds x0) 0)) 0))),(eI (zC (nth (flds (nth (flds x0) 0)) 1))),(.sl 3 (elems (nth (flds (nth (flds x0) 0)) 2)))]),(.agg 0 [(.str (zX (nth (flds (nth (flds x0) 1)) 0))),(.sl 1 (elems (nth (flds (nth (flds x0) 1)) 1))),(.sl 1 (elems (nth (flds (nth (flds x0) 1)) 2)))]),(.agg 1 [(.sl 1 (elems (nth (flds (nth (flds x0) 2)) 0))),(eI (zC (nth (flds (nth (flds x0) 2)) 1)))]),(.agg 3 (flds (nth (flds x0) 3)))]),(.sl 2 (elems x1))])
 (λr16=>ifO ((DV.isTup r16) && (zV (zF EE 6) [24,3,3] (tups r16)))
 ((Ys (zC (nth (tups r12) 1)) (zC (nth (tups r12) 2)) (zC (nth (tups r16) 2)) (zC (nth (tups r16) 1)) (zX (nth (flds (nth (tups r12) 0)) 0)) (zC (nth (flds (nth (tups r12) 0)) 1)) (elems (nth (flds (nth (tups r12) 0)) 2)) (zX (nth (flds (nth (tups r16) 0)) 0)) (zC (nth (flds (nth (tups r16) 0)) 1)) (elems (nth (flds (nth (tups r16) 0)) 2))))
 (none))
 (λ_ _=>none))
 ((Yr (zC (nth (tups r12) 1)) (zC (nth (tups r12) 2)) (zC r15) (zX (nth (flds (nth (tups r12) 0)) 0)) (zC (nth (flds (nth (tups r12) 0)) 1)) (elems (nth (flds (nth (tups r12) 0)) 2)))))
 (none))
 (λ_ _=>none))
 (none))
 (λ_ _=>none))
 (none))
 (λ_ _=>none))
 (none))
 (λ_ _=>none))
 (ifO (decide ((0+(Aa ([]++(elems x1))))<=(Aa ([]++(elems x1)))))
 (zH (zB 100 [(.agg 4 [(.agg 0 [(.str (zX (nth (flds (nth (flds r11) 0)) 0))),(eI (zC (nth (flds (nth (flds r11) 0)) 1))),(.sl 3 (elems (nth (flds (nth (flds r11) 0)) 2)))]),(.agg 0 [(.str (zX (nth (flds (nth (flds r11) 1)) 0))),(.sl 1 (elems (nth (flds (nth (flds r11) 1)) 1))),(.sl 1 (elems (nth (flds (nth (flds r11) 1)) 2)))]),(.agg 1 [(.sl 1 (elems (nth (flds (nth (flds r11) 2)) 0))),(eI (zC (nth (flds (nth (flds r11) 2)) 1)))]),(.agg 3 (flds (nth (flds r11) 3)))]),(.sl 2 (Aq (Aa ([]++(elems x1))) (As 0 ([]++(elems x1)))))])
 (λr27=>ifO ((DV.isTup r27) && (zV (zF EE 6) [58,3,46] (tups r27)))
 (zH (zB 22 [(.agg 4 [(.agg 0 [(.str (zX (nth (flds (nth (flds x0) 0)) 0))),(eI (zC (nth (flds (nth (flds x0) 0)) 1))),(.sl 3 (elems (nth (flds (nth (flds x0) 0)) 2)))]),(.agg 0 [(.str (zX (nth (flds (nth (flds x0) 1)) 0))),(.sl 1 (elems (nth (flds (nth (flds x0) 1)) 1))),(.sl 1 (elems (nth (flds (nth (flds x0) 1)) 2)))]),(.agg 1 [(.sl 1 (elems (nth (flds (nth (flds x0) 2)) 0))),(eI (zC (nth (flds (nth (flds x0) 2)) 1)))]),(.agg 3 (flds (nth (flds x0) 3)))])])
 (λr28=>ifO (zF EE 6 3 r28)
 (zH (zB 101 [(.sl 2 (elems x1))])
 (λr29=>ifO (zF EE 6 3 r29)
 (zH (zB 35 [(.sl 1 [(eI (zC r28)),(eI (zC r29))])])
 (λr30=>ifO (zF EE 6 3 r30)
 (ifO ((zC r30) == (0:Int))
 (zH (zB 102 [(.agg 4 [(.agg 0 [(.str (zX (nth (flds (nth (flds x0) 0)) 0))),(eI (zC (nth (flds (nth (flds x0) 0)) 1))),(.sl 3 (elems (nth (flds (nth (flds x0) 0)) 2)))]),(.agg 0 [(.str (zX (nth (flds (nth (flds x0) 1)) 0))),(.sl 1 (elems (nth (flds (nth (flds x0) 1)) 1))),(.sl 1 (elems (nth (flds (nth (flds x0) 1)) 2)))]),(.agg 1 [(.sl 1 (elems (nth (flds (nth (flds x0) 2)) 0))),(eI (zC (nth (flds (nth (flds x0) 2)) 1)))]),(.agg 3 (flds (nth (flds x0) 3)))]),(.sl 2 (elems x1))])
 (λr31=>ifO ((DV.isTup r31) && (zV (zF EE 6) [24,3,3] (tups r31)))
 ((Ys (zC (nth (tups r27) 1)) (zC (nth (tups r27) 2)) (zC (nth (tups r31) 2)) (zC (nth (tups r31) 1)) (zX (nth (flds (nth (tups r27) 0)) 0)) (zC (nth (flds (nth (tups r27) 0)) 1)) (elems (nth (flds (nth (tups r27) 0)) 2)) (zX (nth (flds (nth (tups r31) 0)) 0)) (zC (nth (flds (nth (tups r31) 0)) 1)) (elems (nth (flds (nth (tups r31) 0)) 2))))
 (none))
 (λ_ _=>none))
 ((Yr (zC (nth (tups r27) 1)) (zC (nth (tups r27) 2)) (zC r30) (zX (nth (flds (nth (tups r27) 0)) 0)) (zC (nth (flds (nth (tups r27) 0)) 1)) (elems (nth (flds (nth (tups r27) 0)) 2)))))
 (none))
 (λ_ _=>none))
 (none))
 (λ_ _=>none))
 (none))
 (λ_ _=>none))
 (none))
 (λ_ _=>none))
 (none)))
 (none))
 (none))
 (λ_ _=>none)))
 (zH (zB 34 [(.agg 4 [(.agg 0 [(.str (zX (nth (flds (nth (flds x0) 0)) 0))),(eI (zC (nth (flds (nth (flds x0) 0)) 1))),(.sl 3 (elems (nth (flds (nth (flds x0) 0)) 2)))]),(.agg 0 [(.str (zX (nth (flds (nth (flds x0) 1)) 0))),(.sl 1 (elems (nth (flds (nth (flds x0) 1)) 1))),(.sl 1 (elems (nth (flds (nth (flds x0) 1)) 2)))]),(.agg 1 [(.sl 1 (elems (nth (flds (nth (flds x0) 2)) 0))),(eI (zC (nth (flds (nth (flds x0) 2)) 1)))]),(.agg 3 (flds (nth (flds x0) 3)))])])
 (λr44=>ifO (zF EE 6 62 r44)
 (ifO (decide ((((2 * (0+(Aa (elems x1))))+200) * 16)<=281474976710656))
 (ifO (AJ (elems x1))
 (zH (zB 100 [(.agg 4 [(.agg 0 [(.str (zX (nth (flds (nth (flds r44) 0)) 0))),(eI (zC (nth (flds (nth (flds r44) 0)) 1))),(.sl 3 (elems (nth (flds (nth (flds r44) 0)) 2)))]),(.agg 0 [(.str (zX (nth (flds (nth (flds r44) 1)) 0))),(.sl 1 (elems (nth (flds (nth (flds r44) 1)) 1))),(.sl 1 (elems (nth (flds (nth (flds r44) 1)) 2)))]),(.agg 1 [(.sl 1 (elems (nth (flds (nth (flds r44) 2)) 0))),(eI (zC (nth (flds (nth (flds r44) 2)) 1)))]),(.agg 3 (flds (nth (flds r44) 3)))]),(.sl 2 [])])
 (λr45=>ifO ((DV.isTup r45) && (zV (zF EE 6) [58,3,46] (tups r45)))
 (zH (zB 22 [(.agg 4 [(.agg 0 [(.str (zX (nth (flds (nth (flds x0) 0)) 0))),(eI (zC (nth (flds (nth (flds x0) 0)) 1))),(.sl 3 (elems (nth (flds (nth (flds x0) 0)) 2)))]),(.agg 0 [(.str (zX (nth (flds (nth (flds x0) 1)) 0))),(.sl 1 (elems (nth (flds (nth (flds x0) 1)) 1))),(.sl 1 (elems (nth (flds (nth (flds x0) 1)) 2)))]),(.agg 1 [(.sl 1 (elems (nth (flds (nth (flds x0) 2)) 0))),(eI (zC (nth (flds (nth (flds x0) 2)) 1)))]),(.agg 3 (flds (nth (flds x0) 3)))])])
 (λr46=>ifO (zF EE 6 3 r46)
 (zH (zB 101 [(.sl 2 (elems x1))])
 (λr47=>ifO (zF EE 6 3 r47)
 (zH (zB 35 [(.sl 1 [(eI (zC r46)),(eI (zC r47))])])
 (λr48=>ifO (zF EE 6 3 r48)
 (ifO ((zC r48) == (0:Int))
 (zH (zB 102 [(.agg 4 [(.agg 0 [(.str (zX (nth (flds (nth (flds x0) 0)) 0))),(eI (zC (nth (flds (nth (flds x0) 0)) 1))),(.sl 3 (elems (nth (flds (nth (flds x0) 0)) 2)))]),(.agg 0 [(.str (zX (nth (flds (nth (flds x0) 1)) 0))),(.sl 1 (elems (nth (flds (nth (flds x0) 1)) 1))),(.sl 1 (elems (nth (flds (nth (flds x0) 1)) 2)))]),(.agg 1 [(.sl 1 (elems (nth (flds (nth (flds x0) 2)) 0))),(eI (zC (nth (flds (nth (flds x0) 2)) 1)))]),(.agg 3 (flds (nth (flds x0) 3)))]),(.sl 2 (elems x1))])
 (λr49=>ifO ((DV.isTup r49) && (zV (zF EE 6) [24,3,3] (tups r49)))
 ((Ys (zC (nth (tups r45) 1)) (zC (nth (tups r45) 2)) (zC (nth (tups r49) 2)) (zC (nth (tups r49) 1)) (zX (nth (flds (nth (tups r45) 0)) 0)) (zC (nth (flds (nth (tups r45) 0)) 1)) (elems (nth (flds (nth (tups r45) 0)) 2)) (zX (nth (flds (nth (tups r49) 0)) 0)) (zC (nth (flds (nth (tups r49) 0)) 1)) (elems (nth (flds (nth (tups r49) 0)) 2))))
 (none))
 (λ_ _=>none))
 ((Yr (zC (nth (tups r45) 1)) (zC (nth (tups r45) 2)) (zC r48) (zX (nth (flds (nth (tups r45) 0)) 0)) (zC (nth (flds (nth (tups r45) 0)) 1)) (elems (nth (flds (nth (tups r45) 0)) 2)))))
 (none))
 (λ_ _=>none))
 (none))
 (λ_ _=>none))
 (none))
 (λ_ _=>none))
 (none))
 (λ_ _=>none))
 (ifO (decide ((0+(Aa ([]++(elems x1))))<=(Aa ([]++(elems x1)))))
 (zH (zB 100 [(.agg 4 [(.agg 0 [(.str (zX (nth (flds (nth (flds r44) 0)) 0))),(eI (zC (nth (flds (nth (flds r44) 0)) 1))),(.sl 3 (elems (nth (flds (nth (flds r44) 0)) 2)))]),(.agg 0 [(.str (zX (nth (flds (nth (flds r44) 1)) 0))),(.sl 1 (elems (nth (flds (nth (flds r44) 1)) 1))),(.sl 1 (elems (nth (flds (nth (flds r44) 1)) 2)))]),(.agg 1 [(.sl 1 (elems (nth (flds (nth (flds r44) 2)) 0))),(eI (zC (nth (flds (nth (flds r44) 2)) 1)))]),(.agg 3 (flds (nth (flds r44) 3)))]),(.sl 2 (Aq (Aa ([]++(elems x1))) (As 0 ([]++(elems x1)))))])
 (λr60=>ifO ((DV.isTup r60) && (zV (zF EE 6) [58,3,46] (tups r60)))
 (zH (zB 22 [(.agg 4 [(.agg 0 [(.str (zX (nth (flds (nth (flds x0) 0)) 0))),(eI (zC (nth (flds (nth (flds x0) 0)) 1))),(.sl 3 (elems (nth (flds (nth (flds x0) 0)) 2)))]),(.agg 0 [(.str (zX (nth (flds (nth (flds x0) 1)) 0))),(.sl 1 (elems (nth (flds (nth (flds x0) 1)) 1))),(.sl 1 (elems (nth (flds (nth (flds x0) 1)) 2)))]),(.agg 1 [(.sl 1 (elems (nth (flds (nth (flds x0) 2)) 0))),(eI (zC (nth (flds (nth (flds x0) 2)) 1)))]),(.agg 3 (flds (nth (flds x0) 3)))])])
 (λr61=>ifO (zF EE 6 3 r61)
 (zH (zB 101 [(.sl 2 (elems x1))])
 (λr62=>ifO (zF EE 6 3 r62)
 (zH (zB 35 [(.sl 1 [(eI (zC r61)),(eI (zC r62))])])
 (λr63=>ifO (zF EE 6 3 r63)
 (ifO ((zC r63) == (0:Int))
 (zH (zB 102 [(.agg 4 [(.agg 0 [(.str (zX (nth (flds (nth (flds x0) 0)) 0))),(eI (zC (nth (flds (nth (flds x0) 0)) 1))),(.sl 3 (elems (nth (flds (nth (flds x0) 0)) 2)))]),(.agg 0 [(.str (zX (nth (flds (nth (flds x0) 1)) 0))),(.sl 1 (elems (nth (flds (nth (flds x0) 1)) 1))),(.sl 1 (elems (nth (flds (nth (flds x0) 1)) 2)))]),(.agg 1 [(.sl 1 (elems (nth (flds (nth (flds x0) 2)) 0))),(eI (zC (nth (flds (nth (flds x0) 2)) 1)))]),(.agg 3 (flds (nth (flds x0) 3)))]),(.sl 2 (elems x1))])
 (λr64=>ifO ((DV.isTup r64) && (zV (zF EE 6) [24,3,3] (tups r64)))
 ((Ys (zC (nth (tups r60) 1)) (zC (nth (tups r60) 2)) (zC (nth (tups r64) 2)) (zC (nth (tups r64) 1)) (zX (nth (flds (nth (tups r60) 0)) 0)) (zC (nth (flds (nth (tups r60) 0)) 1)) (elems (nth (flds (nth (tups r60) 0)) 2)) (zX (nth (flds (nth (tups r64) 0)) 0)) (zC (nth (flds (nth (tups r64) 0)) 1)) (elems (nth (flds (nth (tups r64) 0)) 2))))
 (none))
 (λ_ _=>none))
 ((Yr (zC (nth (tups r60) 1)) (zC (nth (tups r60) 2)) (zC r63) (zX (nth (flds (nth (tups r60) 0)) 0)) (zC (nth (flds (nth (tups r60) 0)) 1)) (elems (nth (flds (nth (tups r60) 0)) 2)))))
 (none))
 (λ_ _=>none))
 (none))
 (λ_ _=>none))
 (none))
 (λ_ _=>none))
 (none))
 (λ_ _=>none))
 (none)))
 (none))
 (none))
 (λ_ _=>none))))
 (none))
 (λ_ _=>none)))
 (none))
 (λ_ _=>none))
 (none) :=
 (zM (f:=15) (by kernel_rfl) (by kernel_rfl) (by kernel_rfl) [x0,x1]).trans (by kernel_rfl)
end Go.Am
namespace Go.Am
open Go.Proofs
open Go
variable[OO]
def zCj(l:List Pt):Int:=if 256<l.length then 5 else zT (l.map ptE)
theorem cn168(p:Pt):zy EE 168 ([]++[ePt p]++[])=[ePt p]:=by kernel_rfl
theorem l207b(l:List Pt)(hl:l.length<=100000):∀k,k<=l.length->zE5 168 [] [] (((l.take k).map ptE).map eI) (l.map ePt) l.length k=some (.val (.sl 1 ((l.map ptE).map eI))):=by
 apply down
 ·rw[zE4];simp only[An,decide_false,zU,Av,Aw,decide_true,zD,Ak,AT]
 ·intro k hk ih;have e1:(k:Int)<l.length:=by omega
  have e0:(0:Int)<=(k:Int):=by omega
  have hm:min k l.length=k:=by omega
  have e2:(2 * (k+1)+200) * 8<=281474976710656:=by omega
  have hx:zB 168 (zy EE 168 ([]++[ePt l[k]]++[]))=some (.val (eI (ptE l[k]))):=(congrArg (zB 168) (cn168 l[k])).trans (c168 l[k]);rw[<-ih,zE4];simp only[Ad,AU,hm,e1,e0,e2,and_self,decide_true,zD,Af,zO _ l k hk,h141,zI,hx,zJ,h46,zQ,zS,zW];rw[wr ((k:Int)+1) (by omega),Ah hk,AW,AW]
  rfl
theorem c207(l:List Pt)(hl:l.length<=100000):zB 207 [.sl 2 (l.map ePt),.fn 168 [] []]=some (.val (.sl 1 ((l.map ptE).map eI))):=by
 rw[C207];simp only[zK,zN,h81,h276,Ag,zD,zR,Yb,QA,q0,Ad];rw[L207_0a_eq];by_cases h:l=[]
 ·subst h;rfl
 ·have h0:0<l.length:=AA.2 h;have h1:=l207b l hl 1 (by omega)
  have hx:zB 168 (zy EE 168 ([]++[ePt l[0]]++[]))=some (.val (eI (ptE l[0]))):=(congrArg (zB 168) (cn168 l[0])).trans (c168 l[0]);have e1:(0:Int)<l.length:=by omega
  rw[tk1 l h0] at h1;simp only[Ad,e1,A6,and_self,decide_true,zD,zO _ l 0 h0,h141,zI,hx,zJ,h46,zQ,zS,zW];exact h1
theorem l101(l:List Pt)(hl:l.length<=100000):∀i,i<=l.length->zFh (l.map ePt) i=some (.val (eI (zT ((l.drop i).map ptE)))):=by
 apply down
 ·rw[zFg];simp only[Ad,An,decide_false,zU,AG,List.map_nil];rfl
 ·intro i hi ih;have e1:(i:Int)<l.length:=by omega
  have e0:(0:Int)<=(i:Int):=by omega
  rw[zFg,za l i hi];simp only[Ad,e1,e0,and_self,decide_true,zD,Af,zO _ l i hi,h141,zI,zQ,zS,zW,c164,zJ,h3,AY];rw[wr ((i:Int)+1) (by omega),show((i:Int)+1)=((i+1:Nat):Int) by omega,ih,zT]
  by_cases h0:ptE l[i]=0
  ·rw[bne_z h0,zU,if_pos h0]
  ·rw[bne_n h0,zD,if_neg h0]
theorem c101(l:List Pt)(hl:l.length<=100000):zB 101 [.sl 2 (l.map ePt)]=some (.val (eI (zCj l))):=by
 rw[C101];simp only[zK,zN,h81,Ag,zD,zR,Ad];unfold zCj;by_cases h:256<l.length
 ·refine(ifO_decT (by omega) _ _).trans ?_
  rw[if_pos h]
 ·refine(ifO_decF (by omega) _ _).trans ?_
  rw[if_neg h];exact l101 l hl 0 (Aj _)
def zHz(f:Fm)(l:List Pt):Int:=zT [YO f,zCj l]
def impF(f:Fm)(l:List Pt):CR:=if zHz f l=0 then zEY (Yi f l (Ap f.s.tb.length) none) else .val (.tup [eSi s0,eI 0,eI (zHz f l)])
theorem impE_1(f:Fm)(l:List Pt):zT [YO f,if decide ((l.length:Int)>256)=true then 5 else 0]≠0->zT [YO f,if decide ((l.length:Int)>256)=true then 5 else 0]=zHz f l:=by
 intro h;unfold zHz zCj;by_cases h1:256<l.length
 ·rw[if_pos h1];rw[show decide ((l.length:Int)>256)=true from decide_eq_true (by omega),if_pos rfl]
 ·rw[show decide ((l.length:Int)>256)=false from decide_eq_false (by omega)] at h ⊢
  simp only[A9,if_false] at h ⊢;unfold zT zT zT at h ⊢;by_cases h0:YO f=0
  ·rw[if_pos h0] at h;simp at h
  ·rw[if_neg h0,if_neg h0]
theorem impE_2(f:Fm)(l:List Pt)(h:zT [YO f,if decide ((l.length:Int)>256)=true then 5 else 0]=0):YO f=0/\l.length<=256/\zHz f l=zT (l.map ptE):=by
 obtain⟨h1,h2⟩:=jE h;have h3:=(jE h2).1;have h4:¬256<l.length:=λhh=>by
  rw[show decide ((l.length:Int)>256)=true from decide_eq_true (by omega),if_pos rfl] at h3
  omega
 refine⟨h1,by omega,?_⟩
 unfold zHz zCj;rw[h1,if_neg h4];show(if zT (l.map ptE)=0 then (0:Int) else zT (l.map ptE))=_
 split
 ·rename_i h;exact h.symm
 ·rfl
theorem c100[KnW](f:Fm)(hr:zu f.r)(l:List Pt)(hl:l.length<=100000)(hn:f.s.tb.length<=100000):zB 100 [eFm f,.sl 2 (l.map ePt)]=some (impF f l):=by
 rw[C100];simp only[zK,zN,hFm f hr,h81,Ag,zD,zQ,zS,zW,zh,zi,zZ,zI,zR,c40 f hr,zJ,h46,c169,Qs,Ad];unfold impF;by_cases h0:zT [YO f,if decide ((l.length:Int)>256)=true then 5 else 0]=0
 ·obtain⟨h1,h2,h3'⟩:=impE_2 f l h0;refine(congrArg (λb=>ifO b _ _) (bne_z h0)).trans ?_
  rw[zU,c207 l hl,h3'];simp only[zJ,h290,zD,zR,c148 _ (show(l.map ptE).length<=4611686018427387904 by rw[Ad];omega),h46,zI]
  by_cases h4:zT (l.map ptE)=0
  ·rw[bne_z h4,zU,if_pos h4];exact all100 f (farm_ok h1 hr) l hl hn 0 (Aj _) none
  ·rw[bne_n h4,zD,if_neg h4];rfl
 ·refine(congrArg (λb=>ifO b _ _) (bne_n h0)).trans ?_
  rw[zD,impE_1 f l h0,if_neg (by rw[<-impE_1 f l h0];exact h0)]
  rfl
theorem c102[KnW](f:Fm)(h:okFm f)(l:List Pt)(hl:l.length<=100000)(hn:f.s.tb.length<=100000):zB 102 [eFm f,.sl 2 (l.map ePt)]=some (zEY (Yi f l (Ap f.s.tb.length) none)):=by rw[C102];simp only[zK,zN,hFm' f h.r,h81,Ag,zD,zQ,zS,zW,zh,zi,zZ,zI,zR];exact all102 f h l hl hn 0 (Aj _) none
theorem l104b(l:List Tb)(hl:l.length<=100000)(nm:ByteArray)(le:Int):∀k,k<=l.length->zFY (l.map eTb) l.length k nm le ((l.take k).map eTb)=some (.val (eSi ⟨nm,le,l⟩)):=by
 apply down
 ·rw[zFX];simp only[An,decide_false,zU,Av,Aw,decide_true,zD,Ak,AT]
 ·intro k hk ih;have e1:(k:Int)<l.length:=by omega
  have e0:(0:Int)<=(k:Int):=by omega
  have hm:min k l.length=k:=by omega
  have e2:(2 * (k+1)+200) * 32<=281474976710656:=by omega
  rw[<-ih,zFX];simp only[Ad,AU,hm,e1,e0,e2,and_self,decide_true,zD,Af,zO _ l k hk,h176,zI,zZ,zQ,zS,zW];rw[wr ((k:Int)+1) (by omega),Ah hk,AW]
  rfl
theorem c104(s:Si)(hl:s.tb.length<=100000):zB 104 [eSi s]=some (.val (eSi s)):=by
 rw[C104];simp only[zK,zN,h58,Ag,zD,zR,zQ,zS,zW,zh,zZ,zI,Ad];rw[L104_0a_eq];by_cases h:s.tb=[]
 ·obtain⟨a,b,l⟩:=s;simp only at h;subst h;rfl
 ·have h0:0<s.tb.length:=AA.2 h;have h1:=l104b s.tb hl s.name s.least 1 (by omega)
  have e1:(0:Int)<s.tb.length:=by omega
  rw[tk1 s.tb h0] at h1;simp only[Ad,e1,A6,and_self,decide_true,zD,zO _ s.tb 0 h0,h176,zI,zZ,zQ,zS,zW];exact h1
theorem m1t(a b:Unit->Bool):ifO.match_1 (λ_=>Bool) true a b=a ():=rfl
theorem eqTb(n n':ByteArray)(a b c d:Int):YT EE 143 (.agg 9 [.str n,.agg 1 [eI a,eI b]]) (.agg 9 [.str n',.agg 1 [eI c,eI d]])=some ((Ao n == Ao n') && (((a == c) && ((b == d) && true)) && true)):=by kernel_rfl
theorem l103(s:Si)(hl:s.tb.length<=100000):∀k,k<=s.tb.length->zFa k s.name s.least (s.tb.map eTb) s.name s.least (s.tb.map eTb)=some (.val (.bool true)):=by
 apply down
 ·rw[zFZ];simp only[Ad,An,decide_false,zU]
 ·intro k hk ih;have e1:(k:Int)<s.tb.length:=by omega
  have e0:(0:Int)<=(k:Int):=by omega
  rw[zFZ];simp only[Ad,e1,e0,and_self,decide_true,zD,Af,zO _ s.tb k hk,h143,zI,zZ,zQ,zS,zW,eqTb,m1t,Option.isSome_some,Option.getD_some,beq_self_eq_true,Ag,AD,zU];rw[wr ((k:Int)+1) (by omega)]
  exact ih
theorem c103(s:Si)(hl:s.tb.length<=100000):zB 103 [eSi s,eSi s]=some (.val (.bool true)):=by rw[C103];simp only[zK,zN,h24,Ag,zD,zR,zQ,zS,zW,zh,zZ,zI,beq_self_eq_true,AD,zU,bne_self_eq_false];exact l103 s hl 0 (Aj _)
def zEX:zCx->Si×Int×Int
 | none=>(s0,0,7)
 | some x=>if x.1=0 then (s0,0,7) else (x.2,x.1,0)
theorem impR_eq(st:zCx):zEY st=.val (.tup [eSi (zEX st).1,eI (zEX st).2.1,eI (zEX st).2.2]):=by
 cases st with
 | none=>rfl
 | some x =>
  unfold zEY zEX;dsimp only;by_cases h:x.1=0
  ·rw[if_pos h,if_pos h]
  ·rw[if_neg h,if_neg h]
def Found(f:Fm)(l:List Pt):zCx->Prop
 | none=>True
 | some x=>∃i p,i<f.s.tb.length/\p∈l/\x.2=qT f.s i p/\jM x.2=0/\x.1=Y6 f x.2/\0<x.1
theorem impV_0{f:Fm}{l:List Pt}{st:zCx}(h:Found f l st):0<=impV st:=by
 cases st with
 | none=>exact A6 _
 | some x=>obtain⟨_,_,_,_,_,_,_,h⟩:=h;exact Int.le_of_lt h
theorem found_step{f:Fm}{l:List Pt}{i:Nat}(hi:i<f.s.tb.length){p:Pt}(hp:p∈l){st:zCx}(h:Found f l st):Found f l (jq f i st p):=by
 unfold jq;split
 ·rename_i h1;have:=impV_0 h;exact⟨i,p,hi,hp,rfl,h1.1,rfl,by omega⟩
 ·exact h
theorem zHB{f:Fm}{l:List Pt}{i:Nat}(hi:i<f.s.tb.length):∀(m:List Pt),(∀p∈m,p∈l)->∀st,Found f l st->Found f l (m.foldl (jq f i) st)
 | [],_,st,h=>h
 | p :: m,hm,st,h=>zHB hi m (λq hq=>hm q (by simp[hq])) _ (found_step hi (hm p (by simp)) h)
theorem zHC{f:Fm}{l:List Pt}:∀(is:List Nat),(∀i∈is,i<f.s.tb.length)->∀st,Found f l st->Found f l (Yi f l is st)
 | [],_,st,h=>h
 | i :: is,his,st,h=>zHC is (λq hq=>his q (by simp[hq])) _ (zHB (his i (by simp)) l (λ_ h=>h) st h)
theorem found(f:Fm)(l:List Pt):Found f l (Yi f l (Ap f.s.tb.length) none):=zHC _ (λi hi=>by simpa using hi) none trivial
theorem movS_len(s:Si)(i:Nat)(p:Pt):(qT s i p).tb.length=s.tb.length:=by simp[qT]
theorem impRT_len(f:Fm)(l:List Pt){n:Nat}(hn:f.s.tb.length<=n):(zEX (Yi f l (Ap f.s.tb.length) none)).1.tb.length<=n:=by
 have h:=found f l;revert h;generalize Yi f l (Ap f.s.tb.length) none=st;intro h;cases st with
 | none=>exact Aj _
 | some x =>
  obtain⟨i,p,hi,_,h2,_⟩:=h;unfold zEX;dsimp only;split
  ·exact Aj _
  ·rw[h2,movS_len];exact hn
def impT(f:Fm)(l:List Pt):Si×Int×Int:=if zHz f l=0 then zEX (Yi f l (Ap f.s.tb.length) none) else (s0,0,zHz f l)
theorem impF_eq(f:Fm)(l:List Pt):impF f l=.val (.tup [eSi (impT f l).1,eI (impT f l).2.1,eI (impT f l).2.2]):=by
 unfold impF impT;by_cases h:zHz f l=0
 ·rw[if_pos h,if_pos h,impR_eq]
 ·rw[if_neg h,if_neg h]
theorem fin15a(s:Si)(hl:s.tb.length<=100000)(m e:Int):Ys m e e m s.name s.least (s.tb.map eTb) s.name s.least (s.tb.map eTb)=some (.val (.bool true)):=by have e1:=c104 s hl;have e2:=c103 s hl;rw[zHm,e1];simp only[zJ,h24,zD,zQ,zS,zW,zh,zZ,zI,zR,e2,h4,zp,beq_self_eq_true]
theorem fin15b(e:Int):Yr 0 e e (bs []) 0 []=some (.val (.bool true)):=by
 have e1:=c104 s0 (by decide)
 have e2:=c103 s0 (by decide)
 rw[zHl];refine(congrArg (λx=>zH x _ _) e1).trans ?_
 simp only[zJ,h24,zD,zQ,zS,zW,zh,zZ,zI,zR];refine(congrArg (λx=>zH x _ _) e2).trans ?_
 simp only[zJ,h4,zD,zp,beq_self_eq_true]
set_option maxHeartbeats 4000000 in
theorem core15[KnW](f:Fm)(hr:zu f.r)(l:List Pt)(hl:l.length<=100000)(hn:f.s.tb.length<=100000):(zH (zB 100 [(.agg 4 [(.agg 0 [(.str (zX (nth (flds (nth (flds (eFm f)) 0)) 0))),(.int .i64 (zC (nth (flds (nth (flds (eFm f)) 0)) 1))),(.sl 3 (elems (nth (flds (nth (flds (eFm f)) 0)) 2)))]),(.agg 0 [(.str (zX (nth (flds (nth (flds (eFm f)) 1)) 0))),(.sl 1 (elems (nth (flds (nth (flds (eFm f)) 1)) 1))),(.sl 1 (elems (nth (flds (nth (flds (eFm f)) 1)) 2)))]),(.agg 1 [(.sl 1 (elems (nth (flds (nth (flds (eFm f)) 2)) 0))),(.int .i64 (zC (nth (flds (nth (flds (eFm f)) 2)) 1)))]),(.agg 3 (flds (nth (flds (eFm f)) 3)))]),(.sl 2 (l.map ePt))])
   (λr12=>ifO ((DV.isTup r12) && (zV (zF EE 6) [58,3,46] (tups r12)))
   (zH (zB 22 [(.agg 4 [(.agg 0 [(.str (zX (nth (flds (nth (flds (eFm f)) 0)) 0))),(.int .i64 (zC (nth (flds (nth (flds (eFm f)) 0)) 1))),(.sl 3 (elems (nth (flds (nth (flds (eFm f)) 0)) 2)))]),(.agg 0 [(.str (zX (nth (flds (nth (flds (eFm f)) 1)) 0))),(.sl 1 (elems (nth (flds (nth (flds (eFm f)) 1)) 1))),(.sl 1 (elems (nth (flds (nth (flds (eFm f)) 1)) 2)))]),(.agg 1 [(.sl 1 (elems (nth (flds (nth (flds (eFm f)) 2)) 0))),(.int .i64 (zC (nth (flds (nth (flds (eFm f)) 2)) 1)))]),(.agg 3 (flds (nth (flds (eFm f)) 3)))])])
   (λr13=>ifO (zF EE 6 3 r13)
   (zH (zB 101 [(.sl 2 (elems (DV.sl 2 (l.map ePt))))])
   (λr14=>ifO (zF EE 6 3 r14)
   (zH (zB 35 [(.sl 1 [(.int .i64 (zC r13)),(.int .i64 (zC r14))])])
   (λr15=>ifO (zF EE 6 3 r15)
   (ifO ((zC r15) == (0:Int))
   (zH (zB 102 [(.agg 4 [(.agg 0 [(.str (zX (nth (flds (nth (flds (eFm f)) 0)) 0))),(.int .i64 (zC (nth (flds (nth (flds (eFm f)) 0)) 1))),(.sl 3 (elems (nth (flds (nth (flds (eFm f)) 0)) 2)))]),(.agg 0 [(.str (zX (nth (flds (nth (flds (eFm f)) 1)) 0))),(.sl 1 (elems (nth (flds (nth (flds (eFm f)) 1)) 1))),(.sl 1 (elems (nth (flds (nth (flds (eFm f)) 1)) 2)))]),(.agg 1 [(.sl 1 (elems (nth (flds (nth (flds (eFm f)) 2)) 0))),(.int .i64 (zC (nth (flds (nth (flds (eFm f)) 2)) 1)))]),(.agg 3 (flds (nth (flds (eFm f)) 3)))]),(.sl 2 (elems (DV.sl 2 (l.map ePt))))])
   (λr16=>ifO ((DV.isTup r16) && (zV (zF EE 6) [24,3,3] (tups r16)))
   ((Ys (zC (nth (tups r12) 1)) (zC (nth (tups r12) 2)) (zC (nth (tups r16) 2)) (zC (nth (tups r16) 1)) (zX (nth (flds (nth (tups r12) 0)) 0)) (zC (nth (flds (nth (tups r12) 0)) 1)) (elems (nth (flds (nth (tups r12) 0)) 2)) (zX (nth (flds (nth (tups r16) 0)) 0)) (zC (nth (flds (nth (tups r16) 0)) 1)) (elems (nth (flds (nth (tups r16) 0)) 2))))
   (none))
   (λ_ _=>none))
   ((Yr (zC (nth (tups r12) 1)) (zC (nth (tups r12) 2)) (zC r15) (zX (nth (flds (nth (tups r12) 0)) 0)) (zC (nth (flds (nth (tups r12) 0)) 1)) (elems (nth (flds (nth (tups r12) 0)) 2)))))
   (none))
   (λ_ _=>none))
   (none))
   (λ_ _=>none))
   (none))
   (λ_ _=>none))
   (none))
   (λ_ _=>none))=some (.val (.bool true)):=by
 simp only[c100 f hr l hl hn,impF_eq,zJ,hFm f hr,zD,zQ,zS,zW,zh,zi,zZ,zI,zR,c22 f hr,c101 l hl,c35_2,z1,z8,zK,zN,h58,h24,h3,h46,Ag];simp only[JY];by_cases h0:zHz f l=0
 ·refine(if_pos h0).trans ?_;have hok:=farm_ok (jE h0).1 hr;have hT:impT f l=zEX (Yi f l (Ap f.s.tb.length) none):=by unfold impT;rw[if_pos h0]
  rw[c102 f hok l hl hn,impR_eq,<-hT];simp only[zJ,zD,zQ,zS,zW,zh,zZ,zI,zR,z1,z8,zK,zN,h24,h3,Ag];exact fin15a _ (by rw[hT];exact impRT_len f l hn) _ _
 ·refine(if_neg h0).trans ?_;have hT:impT f l=(s0,0,zHz f l):=by unfold impT;rw[if_neg h0]
  rw[hT];exact fin15b _
set_option maxHeartbeats 4000000 in
theorem law15[KnW](f:Fm)(hr:zu f.r)(l:List Pt)(haw:zB 33 []=some (.val (.bool true))):zB 15 [eFm f,.sl 2 (l.map ePt)]=some (.val (.bool true)):=by
 rw[C15];simp only[haw,zJ,zK,zN,hFm' f hr,h81,h4,Ag,zD,zp,AD,zU,zQ,zS,zW,zh,zi,zZ,zI,zR,Ad];rw[c21 f hr 4 (by omega)]
 cases hS:zGE f 4 with
 | false=>simp only[zJ,h4,zD,zp,Bool.not_false]
 | true =>
  obtain⟨l1,l2,l3,l4⟩:=shortF_len hS;simp only[zJ,h4,zD,zp,AD,zU];have e34:=c34 f hr (by omega) (by omega) (by omega) (by omega)
  by_cases hgt:(l.length:Int)>5
  ·refine(ifO_decT hgt _ _).trans ?_;by_cases h257:(l.length:Int)=257
   ·rw[show((l.length:Int) != 257)=false by rw[h257];rfl,zU]
    simp only[e34,zJ,hFm f hr,zD,zQ,zS,zW,zh,zi,zZ,zI,zR,Ad,AL,Av];rw[decide_eq_true (show(2 * l.length+200) * 16<=281474976710656 by omega),zD]
    by_cases h0:l=[]
    ·subst h0;exact core15 f hr [] (by simp) (by omega)
    ·have hne:(l.map ePt).isEmpty=false:=by
      cases l with
      | nil=>exact absurd rfl h0
      | cons a l=>rfl
     rw[hne,zU,decide_eq_true (Aw _),zD,Ai (by simp)]
     exact core15 f hr l (by omega) (by omega)
   ·rw[show((l.length:Int) != 257)=true by simp[h257],zD]
  ·refine(ifO_decF hgt _ _).trans ?_;simp only[e34,zJ,hFm f hr,zD,zQ,zS,zW,zh,zi,zZ,zI,zR,Ad,AL,Av];rw[decide_eq_true (show(2 * l.length+200) * 16<=281474976710656 by omega),zD]
   by_cases h0:l=[]
   ·subst h0;exact core15 f hr [] (by simp) (by omega)
   ·have hne:(l.map ePt).isEmpty=false:=by
     cases l with
     | nil=>exact absurd rfl h0
     | cons a l=>rfl
    rw[hne,zU,decide_eq_true (Aw _),zD,Ai (by simp)]
    exact core15 f hr l (by omega) (by omega)
end Go.Am
namespace Go.Am
open Go.Proofs
open Go Go.RowKit
noncomputable def orc4(f:FuncId):Option (List DV->Option CR):=if f=267 then some (orT T267) else orc3 f
theorem orc4_ok(f:FuncId)(h:(zGK f).isNone=true):orc4 f=none:=by
 unfold orc4;split
 ·rename_i e;subst e;simp[zGK] at h
 ·exact zHs f h
noncomputable abbrev oo4:OO:=⟨orc4,orc4_ok⟩
theorem env4:EnvOKo PP EE oo4.o:=by
 refine⟨QE _ _ _,JK,λf fn h=>E0_F _ _ _ f fn h,λf g h=>?_⟩
 have h:orc4 f=some g:=h;unfold orc4 at h;split at h
 ·rename_i e;subst e;injection h with h
  subst h;exact Qk at267
 ·exact env3.orc f g h
theorem o4{f:FuncId}(h:f≠267)(h':f≠50):oo4.o f=orc2 f:=(if_neg h:orc4 f=orc3 f).trans (o3 h')
theorem o450:oo4.o 50=some (orT T50):=(if_neg (by decide):orc4 50=orc3 50).trans o350
theorem knW4:@KnW oo4:=zIN (o4 (f:=200) (by decide) (by decide))
theorem knO4:@KnO oo4:=knO_of (o4 (f:=68) (by decide) (by decide))
theorem knS4:@KnS oo4:=zIO (o4 (f:=243) (by decide) (by decide)) (o4 (f:=161) (by decide) (by decide)) (o4 (f:=210) (by decide) (by decide)) (o4 (f:=208) (by decide) (by decide))
theorem c50v4{p:Pn}{gs:List (List Int)}{n:Int}(h:@V50 oo2 p gs n):@zB oo4 50 [ePn p,eGs gs,eI n]=some (.val (.tup [eI (YQ p gs n).1,eI (YQ p gs n).2])):=by
 refine J9 (o:=oo4) (f:=50) o450 (.inl ⟨p,gs,n,h,rfl,rfl⟩) ?_;rintro r' (⟨p',gs',n',_,e,rfl⟩ | ⟨hn,_⟩)
 ·injection e with e1 e;injection e with e2 e
  injection e with e3 _;rw[zEl _ _ e1,zH6 e2,Y7 e3]
 ·exact(hn ⟨p,gs,n,h,rfl⟩).elim
theorem knB4:@KnB oo4:=@KnB.mk oo4 ((c50v4 v50S).trans (by rw[boundS]))
theorem awake4:@zB oo4 33 []=some (.val (.bool true)):=@awake oo4 knW4 knS4 knO4 knB4
end Go.Am
