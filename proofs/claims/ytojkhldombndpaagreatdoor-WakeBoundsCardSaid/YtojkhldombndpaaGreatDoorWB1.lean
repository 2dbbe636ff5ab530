/- WakeBounds: for every input the law returns true, and each argument reads afterwards as it read before. Part 1. -/
import Derived.Below
import Derived.Carry
import Derived.ChangeArms
import Derived.ChangeSame
import Derived.DataReads
import Derived.Deep.OwnRows
import Derived.Deep.RegionLaw
import Derived.Deep.RegionWith
import Derived.DeepKeys
import Derived.Ground.Names2Prog
import Derived.Ground.NamesProg
import Derived.Ground.SlgnProg
import Derived.Ground.SlsfProg
import Derived.IntWalk
import Derived.KernelRfl
import Derived.LaidMore
import Derived.Laws.AppendOwn
import Derived.Laws.BytesString
import Derived.Laws.CopyRow
import Derived.Laws.IdiomStrings
import Derived.Laws.OwnMore
import Derived.Laws.RangeAny
import Derived.Lib.AppendIntMem
import Derived.Lib.ItoaLen
import Derived.Lib.ItoaNum
import Derived.Lib.Join
import Derived.LoopIn
import Derived.LoopN
import Derived.LoopNIn
import Derived.LoopTactic
import Derived.MapKept
import Derived.Maps.Ext
import Derived.Maps.OwnSet
import Derived.Maps.RangeWalk
import Derived.OpenShut
import Derived.Orders
import Derived.OrdersIn
import Derived.OwnWalkIn
import Derived.ProofKit
import Derived.RangeFuncBound
import Derived.RangeFuncCalls
import Derived.RangeFuncLeaves
import Derived.RangeFuncNested
import Derived.Scope
import Derived.SevenTiedAt
import Derived.Shelf.Abstract
import Derived.Shelf.LaysM
import Derived.Shelf.SlSortCmp.NoneTotal
import Derived.Shelf.Slices.Clone
import Derived.Shelf.Slices.In.SortNone
import Derived.Shelf.Slices.SearchI
import Derived.Shelf.SlicesE.Clone
import Derived.Shelf.Small.Bits
import Derived.Shelf.Sort.Plain
import Derived.Shelf.Strconv.Itoa0
import Derived.Shelf.Strconv.Itoa1
import Derived.Shelf.Strconv.Itoa2
import Derived.Shelf.Strconv.Itoa3
import Derived.Shelf.Strings.Builder1
import Derived.Shelf.Strings.Builder2
import Derived.Shelf.Strings.Count
import Derived.Shelf.Strings.Cut
import Derived.Shelf.Strings.Explode
import Derived.Shelf.Strings.OnBuilder
import Derived.Shelf.Strings.RuneCount
import Derived.Shelf.Strings.Search1
import Derived.Shelf.Strings.Search2
import Derived.Shelf.Strings.Search3
import Derived.Shelf.Strings.Shaped
import Derived.Shelf.Strings.Split
import Derived.Shelf.Strings.SplitShaped
import Derived.Shelf.Unicode.Decode
import Derived.Shelf.Unicode.DecodeAny
import Derived.Shelf.Unicode.DecodeSlow
import Derived.Shelf.Utf8.RuneCount
import Derived.Sort.LotA
import Derived.Stop.Joined
import Derived.Tactics
import Derived.Tactics2
import Derived.TacticsInMore
import Derived.Test.YtojkhldombndpaaGreatDoorCards
import Derived.Test.YtojkhldombndpaaGreatDoorProg
import Derived.Test.YtojkhldombndpaaGreatDoorRows
import Derived.Test.YtojkhldombndpaaGreatDoorTie
import Derived.WalkKit
import Derived.WideShapes
import Derived.Test.YtojkhldombndpaaGreatDoorD6
set_option linter.all false
open List renaming length->Aa,length_map->Ad,getElem_mem->Ag,take_of_length_le->Ah,replicate->Ai,drop_zero->Aj,take_succ_eq_append_getElem->Al,append_assoc->Ao,nil_append->Ap,length_cons->Aq,take->Ar,getD_eq_getElem?_getD->Au,drop->Aw,getElem?_eq_getElem->Ax,length_append->Az,map_append->AA,length_nil->AB,map_cons->AD,drop_length->AE,flatten_cons->AF,getElem_map->AG,mem_cons->AH,map->AI,mem_map->AJ,any_cons->AL,mem_append->AM,length_pos_iff->AN,map_nil->AO,range->AP,mem_singleton->AQ,cons_append->AU,isEmpty->AX,append_nil->AZ,set_append_right->A0,set->A3,range'->A4,pairwise_append->A5,replicate_succ->A7,set_cons_zero->A8,map_replicate->A9,nodup_append->Bd,map_set->Be,getElem_take->Bf,take_length->Bh,length_take->Bi,drop_eq_getElem_cons->Bk,map_map->Bn,getElem_cons_zero->Bo,map_congr_left->Bs,pairwise_cons->Bu,foldl_cons->BC,mem_range->BE
open Go.IntKind renaming wrap->Ab,i64->Ay
open Int renaming toNat->Ac,toNat_natCast->Ae,lt_irrefl->An,tdiv->Av,tdiv_eq_ediv_of_nonneg->AR,le_refl->AS,mul_nonneg->A6,add_assoc->Ba,zero_add->Bp,add_zero->Bq,tmod->Bt,toNat_of_nonneg->Bv,natCast_nonneg->Bz,natCast_zero->BD,natCast_one->BF,natCast_add->BG,lt_or_le->BI
open Bool renaming and_self->Af,false_or->AT,false_eq_true->Bb,not_false->Bj,not_true->Bl,true_or->BH
open Nat renaming zero_le->Ak,zero_add->At,le_refl->AC,lt_or_ge->AY,add_sub_cancel->By
open ByteArray renaming toList->As,size->Bg
open Option renaming getD->AK,getD_some->Bc,none->Bm,isSome_some->Br,map_some->Bw,map_none->Bx,isSome->BB
open List.Perm renaming refl->AW
open Go.Proofs.SlLaysE0 renaming n41->BA
open Go.RowKit.Below renaming refl->BJ
open List.Sublist renaming append_left->BK
open Option.some renaming injEq->BL,inj->BM
namespace Go.Am
open Go.Proofs
open Go
theorem Le.refl(X:List Nat)(s:St):Le X s s:=⟨λ_=>.inr rfl,λ_=>.inr rfl⟩
section
variable{hp hp':List (Option OB)}
variable{E:Env}{X:List Nat}{s t:St}
end
section
variable{E:Env}{X:List Nat}{s t:St}{call:FuncId->List DV->Option CR}
end
end Go.Am
namespace Go.Am
open Go.Proofs
open Go
@[simp] theorem h24(a1:ByteArray)(a2:Int)(a3:List DV):zF EE 6 24 (.agg 0 [(.str a1),(.int .i64 a2),(.sl 3 a3)])=true:=by kernel_rfl
@[simp] theorem h27(a1:ByteArray)(a2:List DV)(a3:List DV):zF EE 6 27 (.agg 0 [(.str a1),(.sl 1 a2),(.sl 1 a3)])=true:=by kernel_rfl
@[simp] theorem h29(a1:List DV)(a2:Int):zF EE 6 29 (.agg 1 [(.sl 1 a1),(.int .i64 a2)])=true:=by kernel_rfl
@[simp] theorem h32(a1:List DV):zF EE 6 32 (.agg 3 a1)=decide (a1.length=8):=by kernel_rfl
@[simp] theorem h34(a1:ByteArray)(a2:Int)(a3:List DV)(a4:ByteArray)(a5:List DV)(a6:List DV)(a7:List DV)(a8:Int)(a9:List DV):zF EE 6 34 (.agg 4 [(.agg 0 [(.str a1),(.int .i64 a2),(.sl 3 a3)]),(.agg 0 [(.str a4),(.sl 1 a5),(.sl 1 a6)]),(.agg 1 [(.sl 1 a7),(.int .i64 a8)]),(.agg 3 a9)])=(decide (a9.length=8) && true):=by kernel_rfl
@[simp] theorem h83(a1:List DV)(a2:Int)(a3:ByteArray)(a4:List DV)(a5:List DV)(a6:List DV)(a7:Int)(a8:List DV):zF EE 6 83 (.agg 6 [(.sl 2 a1),(.int .i64 a2),(.agg 0 [(.str a3),(.sl 1 a4),(.sl 1 a5)]),(.agg 1 [(.sl 1 a6),(.int .i64 a7)]),(.agg 3 a8)])=(decide (a8.length=8) && true):=by kernel_rfl
@[simp] theorem h143(a1:ByteArray)(a2:Int)(a3:Int):zF EE 6 143 (.agg 9 [(.str a1),(.agg 1 [(.int .i64 a2),(.int .i64 a3)])])=true:=by kernel_rfl
@[simp] theorem h278(a1:List DV)(a2:List DV):zF EE 6 278 (.mp a1 a2)=true:=by kernel_rfl
end Go.Am
namespace Go.Am
open Go.Proofs
open Go
variable[OO]
def S156_0a(v0 v1:List DV)(v2:Int)(v3:ByteArray)(v4:Int)(v5:List DV)(v6:ByteArray)(v7 v8 v9:List DV)(v10:Int)(v11 v12:List DV):St :=
 zr 49 [(4,(.ptr 4 416 0 [])),(9,(.own 16 0 (Aa v0) 1)),(10,(.d (.sl 1 v1))),(11,(.d (eI v2)))] [(4,(.mk false (.dc 416 [(.agg 4 [(.agg 0 [(.str v3),(eI v4),(.sl 3 v5)]),(.agg 0 [(.str v6),(.sl 1 v7),(.sl 1 v8)]),(.agg 1 [(.sl 1 v9),(eI v10)]),(.agg 3 v11)])]))),(16,(.mk false (.dc 1 v12)))]
noncomputable def L156_0a(v0 v1:List DV)(v2:Int)(v3:ByteArray)(v4:Int)(v5:List DV)(v6:ByteArray)(v7 v8 v9:List DV)(v10:Int)(v11 v12:List DV):Option CR:=goQ 156 0 (S156_0a v0 v1 v2 v3 v4 v5 v6 v7 v8 v9 v10 v11 v12)
theorem L156_0a_eq(v0 v1:List DV)(v2:Int)(v3:ByteArray)(v4:Int)(v5:List DV)(v6:ByteArray)(v7 v8 v9:List DV)(v10:Int)(v11 v12:List DV):L156_0a v0 v1 v2 v3 v4 v5 v6 v7 v8 v9 v10 v11 v12 =
 ifO (decide (v2<(((Aa v1):Nat):Int)))
 (ifO (decide (((0:Int)<=v2)/\(v2<(((Aa v1):Nat):Int))))
 (ifO (zF EE 6 3 (nth v1 (Ac v2)))
 (zH (zB 111 [(.agg 1 [(.sl 1 v9),(eI v10)]),(eI (zC (nth v1 (Ac v2))))])
 (λr3=>ifO (zF EE 6 3 r3)
 (ifO (decide (((0:Int)<=v2)/\(v2<(((Aa v0):Nat):Int))))
 (ifO (decide ((0+(Ac v2))<(Aa v12)))
 ((L156_0a v0 v1 (Ab .i64 (v2+(1:Int))) v3 v4 v5 v6 v7 v8 v9 v10 v11 (A3 v12 (0+(Ac v2)) (eI (zC r3)))))
 (none))
 (none))
 (none))
 (λ_ _=>none))
 (none))
 (none))
 (ifO (decide ((0+(Aa v0))<=(Aa v12)))
 (some (.val (.sl 1 (Ar (Aa v0) (Aw 0 v12)))))
 (none)) :=
 (zb 156 0 _).trans (by kernel_rfl)
theorem C156(x0 x1 x2 x3:DV):zB 156 [x0,x1,x2,x3] =
 ifO (zV (zF EE 6) [34,3,3,3] [x0,x1,x2,x3])
 (ifO (decide (((0:Int)<=(((Aa (elems (nth (flds (nth (flds x0) 0)) 2))):Nat):Int))/\(((((Aa (elems (nth (flds (nth (flds x0) 0)) 2))):Nat):Int)=(((Aa (elems (nth (flds (nth (flds x0) 0)) 2))):Nat):Int))/\((((8:Int) * (((Aa (elems (nth (flds (nth (flds x0) 0)) 2))):Nat):Int))<=(281474976710656:Int))/\((((Aa (elems (nth (flds (nth (flds x0) 0)) 2))):Nat):Int)<=(9223372036854775807:Int))))))
 (ifO (decide ((zC x2)>=(zC (nth (flds (nth (flds x0) 2)) 1))))
 (ifO (decide ((0+(Aa (α:=DV) (Ai (Ac (((Aa (elems (nth (flds (nth (flds x0) 0)) 2))):Nat):Int)) (eI 0))))<=(Aa (α:=DV) (Ai (Ac (((Aa (elems (nth (flds (nth (flds x0) 0)) 2))):Nat):Int)) (eI 0)))))
 (some (.val (.sl 1 (Ar (Aa (α:=DV) (Ai (Ac (((Aa (elems (nth (flds (nth (flds x0) 0)) 2))):Nat):Int)) (eI 0))) (Aw 0 (Ai (Ac (((Aa (elems (nth (flds (nth (flds x0) 0)) 2))):Nat):Int)) (eI 0)))))))
 (none))
 (zH (zB 81 [(.agg 0 [(.str (zX (nth (flds (nth (flds x0) 0)) 0))),(eI (zC (nth (flds (nth (flds x0) 0)) 1))),(.sl 3 (elems (nth (flds (nth (flds x0) 0)) 2)))]),(.agg 0 [(.str (zX (nth (flds (nth (flds x0) 1)) 0))),(.sl 1 (elems (nth (flds (nth (flds x0) 1)) 1))),(.sl 1 (elems (nth (flds (nth (flds x0) 1)) 2)))]),(eI (zC x1)),(eI (Ab .i64 ((zC x2)+(zC x3))))])
 (λr0=>ifO (zF EE 6 25 r0)
 ((L156_0a (Ai (Ac (((Aa (elems (nth (flds (nth (flds x0) 0)) 2))):Nat):Int)) (eI 0)) (elems r0) (0:Int) (zX (nth (flds (nth (flds x0) 0)) 0)) (zC (nth (flds (nth (flds x0) 0)) 1)) (elems (nth (flds (nth (flds x0) 0)) 2)) (zX (nth (flds (nth (flds x0) 1)) 0)) (elems (nth (flds (nth (flds x0) 1)) 1)) (elems (nth (flds (nth (flds x0) 1)) 2)) (elems (nth (flds (nth (flds x0) 2)) 0)) (zC (nth (flds (nth (flds x0) 2)) 1)) (flds (nth (flds x0) 3)) (Ai (Ac (((Aa (elems (nth (flds (nth (flds x0) 0)) 2))):Nat):Int)) (eI 0))))
 (none))
 (λ_ _=>none)))
 (none))
 (none) :=
 (zM (f:=156) (by kernel_rfl) (by kernel_rfl) (by kernel_rfl) [x0,x1,x2,x3]).trans (by kernel_rfl)
def S157_0a(v0 v1 v2:Int)(v3:ByteArray)(v4:Int)(v5:List DV)(v6:ByteArray)(v7 v8 v9:List DV)(v10:Int)(v11:List DV):St :=
 zr 39 [(1,(.d (eI v0))),(2,(.ptr 2 416 0 [])),(5,(.d (eI v1))),(6,(.d (eI v2)))] [(2,(.mk false (.dc 416 [(.agg 4 [(.agg 0 [(.str v3),(eI v4),(.sl 3 v5)]),(.agg 0 [(.str v6),(.sl 1 v7),(.sl 1 v8)]),(.agg 1 [(.sl 1 v9),(eI v10)]),(.agg 3 v11)])])))]
noncomputable def L157_0a(v0 v1 v2:Int)(v3:ByteArray)(v4:Int)(v5:List DV)(v6:ByteArray)(v7 v8 v9:List DV)(v10:Int)(v11:List DV):Option CR:=goQ 157 0 (S157_0a v0 v1 v2 v3 v4 v5 v6 v7 v8 v9 v10 v11)
def S157_1a(v0 v1 v2 v3:Int)(v4:ByteArray)(v5:Int)(v6:List DV)(v7:ByteArray)(v8 v9 v10:List DV)(v11:Int)(v12:List DV):St :=
 zr 39 [(1,(.d (eI v0))),(2,(.ptr 2 416 0 [])),(5,(.d (eI v1))),(6,(.d (eI v2))),(7,(.d (eI v3)))] [(2,(.mk false (.dc 416 [(.agg 4 [(.agg 0 [(.str v4),(eI v5),(.sl 3 v6)]),(.agg 0 [(.str v7),(.sl 1 v8),(.sl 1 v9)]),(.agg 1 [(.sl 1 v10),(eI v11)]),(.agg 3 v12)])])))]
noncomputable def L157_1a(v0 v1 v2 v3:Int)(v4:ByteArray)(v5:Int)(v6:List DV)(v7:ByteArray)(v8 v9 v10:List DV)(v11:Int)(v12:List DV):Option CR:=goQ 157 1 (S157_1a v0 v1 v2 v3 v4 v5 v6 v7 v8 v9 v10 v11 v12)
theorem L157_0a_eq(v0 v1 v2:Int)(v3:ByteArray)(v4:Int)(v5:List DV)(v6:ByteArray)(v7 v8 v9:List DV)(v10:Int)(v11:List DV):L157_0a v0 v1 v2 v3 v4 v5 v6 v7 v8 v9 v10 v11 =
 ifO (decide (v2<(8:Int)))
 ((L157_1a v0 v1 v2 (0:Int) v3 v4 v5 v6 v7 v8 v9 v10 v11))
 (some (.val (eI v1))) :=
 (zb 157 0 _).trans (by kernel_rfl)
theorem L157_1a_eq(v0 v1 v2 v3:Int)(v4:ByteArray)(v5:Int)(v6:List DV)(v7:ByteArray)(v8 v9 v10:List DV)(v11:Int)(v12:List DV):L157_1a v0 v1 v2 v3 v4 v5 v6 v7 v8 v9 v10 v11 v12 =
 ifO (decide (v3<=(50:Int)))
 (ifO (decide (((0:Int)<=v2)/\(v2<(8:Int))))
 (ifO (decide (((0:Int)<=v3)/\(v3<(51:Int))))
 (ifO (jK 3 (Ac v2) (.agg 3 v12))
 (ifO (jK 2 (Ac v3) (nth v12 (Ac v2)))
 (ifO (zF EE 6 3 (nth (flds (nth v12 (Ac v2))) (Ac v3)))
 (ifO (decide ((zC (nth (flds (nth v12 (Ac v2))) (Ac v3)))>(0:Int)))
 (ifO (decide (((0:Int)<=v2)/\(v2<(8:Int))))
 (ifO (decide (((0:Int)<=v3)/\(v3<(51:Int))))
 (ifO (jK 3 (Ac v2) (.agg 3 v12))
 (ifO (jK 2 (Ac v3) (nth v12 (Ac v2)))
 (ifO (zF EE 6 3 (nth (flds (nth v12 (Ac v2))) (Ac v3)))
 (zH (zB 156 [(.agg 4 [(.agg 0 [(.str v4),(eI v5),(.sl 3 v6)]),(.agg 0 [(.str v7),(.sl 1 v8),(.sl 1 v9)]),(.agg 1 [(.sl 1 v10),(eI v11)]),(.agg 3 v12)]),(eI v2),(eI v3),(eI v0)])
 (λr0=>ifO (zF EE 6 25 r0)
 (zH (zB 238 [(.sl 1 (elems r0))])
 (λr1=>ifO (zF EE 6 3 r1)
 ((L157_1a v0 (Ab .i64 (v1+(Ab .i64 ((zC (nth (flds (nth v12 (Ac v2))) (Ac v3))) * (zC r1))))) v2 (Ab .i64 (v3+(1:Int))) v4 v5 v6 v7 v8 v9 v10 v11 v12))
 (none))
 (λ_ _=>none))
 (none))
 (λ_ _=>none))
 (none))
 (none))
 (none))
 (none))
 (none))
 ((L157_1a v0 v1 v2 (Ab .i64 (v3+(1:Int))) v4 v5 v6 v7 v8 v9 v10 v11 v12)))
 (none))
 (none))
 (none))
 (none))
 (none))
 ((L157_0a v0 v1 (Ab .i64 (v2+(1:Int))) v4 v5 v6 v7 v8 v9 v10 v11 v12)) :=
 (zb 157 1 _).trans (by kernel_rfl)
theorem C157(x0 x1:DV):zB 157 [x0,x1] =
 ifO (zV (zF EE 6) [34,3] [x0,x1])
 ((L157_0a (zC x1) (0:Int) (0:Int) (zX (nth (flds (nth (flds x0) 0)) 0)) (zC (nth (flds (nth (flds x0) 0)) 1)) (elems (nth (flds (nth (flds x0) 0)) 2)) (zX (nth (flds (nth (flds x0) 1)) 0)) (elems (nth (flds (nth (flds x0) 1)) 1)) (elems (nth (flds (nth (flds x0) 1)) 2)) (elems (nth (flds (nth (flds x0) 2)) 0)) (zC (nth (flds (nth (flds x0) 2)) 1)) (flds (nth (flds x0) 3))))
 (none) :=
 (zM (f:=157) (by kernel_rfl) (by kernel_rfl) (by kernel_rfl) [x0,x1]).trans (by kernel_rfl)
theorem C39(x0:DV):zB 39 [x0] =
 ifO (zV (zF EE 6) [34] [x0])
 (zH (zB 157 [(.agg 4 [(.agg 0 [(.str (zX (nth (flds (nth (flds x0) 0)) 0))),(eI (zC (nth (flds (nth (flds x0) 0)) 1))),(.sl 3 (elems (nth (flds (nth (flds x0) 0)) 2)))]),(.agg 0 [(.str (zX (nth (flds (nth (flds x0) 1)) 0))),(.sl 1 (elems (nth (flds (nth (flds x0) 1)) 1))),(.sl 1 (elems (nth (flds (nth (flds x0) 1)) 2)))]),(.agg 1 [(.sl 1 (elems (nth (flds (nth (flds x0) 2)) 0))),(eI (zC (nth (flds (nth (flds x0) 2)) 1)))]),(.agg 3 (flds (nth (flds x0) 3)))]),(eI 0)])
 (λr0=>ifO (zF EE 6 3 r0)
 (some (.val (eI (zC r0))))
 (none))
 (λ_ _=>none))
 (none) :=
 (zM (f:=39) (by kernel_rfl) (by kernel_rfl) (by kernel_rfl) [x0]).trans (by kernel_rfl)
theorem C111(x0 x1:DV):zB 111 [x0,x1] =
 ifO (zV (zF EE 6) [29,3] [x0,x1])
 (ifO (decide ((Ab .i64 (Av (zC x1) (256:Int)))>=(Ab .i64 ((((Aa (elems (nth (flds x0) 0))):Nat):Int) - (1:Int)))))
 (ifO (decide (((0:Int)<=(Ab .i64 ((((Aa (elems (nth (flds x0) 0))):Nat):Int) - (1:Int))))/\((Ab .i64 ((((Aa (elems (nth (flds x0) 0))):Nat):Int) - (1:Int)))<(((Aa (elems (nth (flds x0) 0))):Nat):Int))))
 (ifO (zF EE 6 3 (nth (elems (nth (flds x0) 0)) (Ac (Ab .i64 ((((Aa (elems (nth (flds x0) 0))):Nat):Int) - (1:Int))))))
 (some (.val (eI (Ab .i64 ((256:Int) * (zC (nth (elems (nth (flds x0) 0)) (Ac (Ab .i64 ((((Aa (elems (nth (flds x0) 0))):Nat):Int) - (1:Int)))))))))))
 (none))
 (none))
 (ifO (decide (((0:Int)<=(Ab .i64 (Av (zC x1) (256:Int))))/\((Ab .i64 (Av (zC x1) (256:Int)))<(((Aa (elems (nth (flds x0) 0))):Nat):Int))))
 (ifO (zF EE 6 3 (nth (elems (nth (flds x0) 0)) (Ac (Ab .i64 (Av (zC x1) (256:Int))))))
 (ifO (decide (((0:Int)<=(Ab .i64 ((Ab .i64 (Av (zC x1) (256:Int)))+(1:Int))))/\((Ab .i64 ((Ab .i64 (Av (zC x1) (256:Int)))+(1:Int)))<(((Aa (elems (nth (flds x0) 0))):Nat):Int))))
 (ifO (zF EE 6 3 (nth (elems (nth (flds x0) 0)) (Ac (Ab .i64 ((Ab .i64 (Av (zC x1) (256:Int)))+(1:Int))))))
 (ifO (decide (((0:Int)<=(Ab .i64 (Av (zC x1) (256:Int))))/\((Ab .i64 (Av (zC x1) (256:Int)))<(((Aa (elems (nth (flds x0) 0))):Nat):Int))))
 (ifO (zF EE 6 3 (nth (elems (nth (flds x0) 0)) (Ac (Ab .i64 (Av (zC x1) (256:Int))))))
 (some (.val (eI (Ab .i64 ((Ab .i64 ((256:Int) * (zC (nth (elems (nth (flds x0) 0)) (Ac (Ab .i64 (Av (zC x1) (256:Int))))))))+(Ab .i64 ((Ab .i64 ((zC (nth (elems (nth (flds x0) 0)) (Ac (Ab .i64 ((Ab .i64 (Av (zC x1) (256:Int)))+(1:Int)))))) - (zC (nth (elems (nth (flds x0) 0)) (Ac (Ab .i64 (Av (zC x1) (256:Int)))))))) * (Ab .i64 ((zC x1) - (Ab .i64 ((256:Int) * (Ab .i64 (Av (zC x1) (256:Int))))))))))))))
 (none))
 (none))
 (none))
 (none))
 (none))
 (none)))
 (none) :=
 (zM (f:=111) (by kernel_rfl) (by kernel_rfl) (by kernel_rfl) [x0,x1]).trans (by kernel_rfl)
def S110_0a(v0:Int)(v1:List DV)(v2:Int):St :=
 zr 60 [(1,(.ptr 1 2 0 [])),(3,(.d (eI v0)))] [(1,(.mk false (.dc 2 [(.agg 1 [(.sl 1 v1),(eI v2)])])))]
noncomputable def L110_0a(v0:Int)(v1:List DV)(v2:Int):Option CR:=goQ 110 0 (S110_0a v0 v1 v2)
theorem L110_0a_eq(v0:Int)(v1:List DV)(v2:Int):L110_0a v0 v1 v2 =
 ifO (decide (v0<(((Aa v1):Nat):Int)))
 (ifO (decide (((0:Int)<=v0)/\(v0<(((Aa v1):Nat):Int))))
 (ifO (zF EE 6 3 (nth v1 (Ac v0)))
 (zH (zB 37 [(eI (zC (nth v1 (Ac v0)))),(eI 0),(eI 100000)])
 (λr0=>ifO (zF EE 6 3 r0)
 (ifO (bne (zC r0) 0)
 (some (.val (eI (zC r0))))
 (ifO (decide (v0>(0:Int)))
 (ifO (decide (((0:Int)<=v0)/\(v0<(((Aa v1):Nat):Int))))
 (ifO (zF EE 6 3 (nth v1 (Ac v0)))
 (ifO (decide (((0:Int)<=(Ab .i64 (v0 - (1:Int))))/\((Ab .i64 (v0 - (1:Int)))<(((Aa v1):Nat):Int))))
 (ifO (zF EE 6 3 (nth v1 (Ac (Ab .i64 (v0 - (1:Int))))))
 (ifO (decide ((zC (nth v1 (Ac v0)))<(zC (nth v1 (Ac (Ab .i64 (v0 - (1:Int))))))))
 (some (.val (eI 11)))
 (ifO (v0 == (0:Int))
 (ifO (decide (((0:Int)<=v0)/\(v0<(((Aa v1):Nat):Int))))
 (ifO (zF EE 6 3 (nth v1 (Ac v0)))
 (ifO (bne (zC (nth v1 (Ac v0))) (0:Int))
 (some (.val (eI 6)))
 ((L110_0a (Ab .i64 (v0+(1:Int))) v1 v2)))
 (none))
 (none))
 ((L110_0a (Ab .i64 (v0+(1:Int))) v1 v2))))
 (none))
 (none))
 (none))
 (none))
 (ifO (v0 == (0:Int))
 (ifO (decide (((0:Int)<=v0)/\(v0<(((Aa v1):Nat):Int))))
 (ifO (zF EE 6 3 (nth v1 (Ac v0)))
 (ifO (bne (zC (nth v1 (Ac v0))) (0:Int))
 (some (.val (eI 6)))
 ((L110_0a (Ab .i64 (v0+(1:Int))) v1 v2)))
 (none))
 (none))
 ((L110_0a (Ab .i64 (v0+(1:Int))) v1 v2)))))
 (none))
 (λ_ _=>none))
 (none))
 (none))
 (zH (zB 37 [(eI v2),(eI 1),(eI 51)])
 (λr3=>ifO (zF EE 6 3 r3)
 (some (.val (eI (zC r3))))
 (none))
 (λ_ _=>none)) :=
 (zb 110 0 _).trans (by kernel_rfl)
theorem C110(x0:DV):zB 110 [x0] =
 ifO (zV (zF EE 6) [29] [x0])
 (ifO (decide ((((Aa (elems (nth (flds x0) 0))):Nat):Int)<(2:Int)))
 (some (.val (eI 2)))
 (ifO (decide ((((Aa (elems (nth (flds x0) 0))):Nat):Int)>(51:Int)))
 (some (.val (eI 2)))
 ((L110_0a (0:Int) (elems (nth (flds x0) 0)) (zC (nth (flds x0) 1))))))
 (none) :=
 (zM (f:=110) (by kernel_rfl) (by kernel_rfl) (by kernel_rfl) [x0]).trans (by kernel_rfl)
theorem C63(x0:DV):zB 63 [x0] =
 ifO (zV (zF EE 6) [27] [x0])
 (ifO (decide ((((Bg (zX (nth (flds x0) 0))):Nat):Int)<=(40:Int)))
 (ifO (decide ((((Aa (elems (nth (flds x0) 1))):Nat):Int)<=(6:Int)))
 (ifO (decide ((((Aa (elems (nth (flds x0) 2))):Nat):Int)<=(6:Int)))
 (some (.val (.bool true)))
 (some (.val (.bool ((((Aa (elems (nth (flds x0) 2))):Nat):Int) == (33:Int))))))
 (ifO ((((Aa (elems (nth (flds x0) 1))):Nat):Int) == (33:Int))
 (ifO (decide ((((Aa (elems (nth (flds x0) 2))):Nat):Int)<=(6:Int)))
 (some (.val (.bool true)))
 (some (.val (.bool ((((Aa (elems (nth (flds x0) 2))):Nat):Int) == (33:Int))))))
 (some (.val (.bool false)))))
 (some (.val (.bool false))))
 (none) :=
 (zM (f:=63) (by kernel_rfl) (by kernel_rfl) (by kernel_rfl) [x0]).trans (by kernel_rfl)
def S128_0a(v0 v1:Int)(v2:List DV):St :=
 zr 23 [(1,(.ptr 1 408 0 [])),(3,(.d (eI v0))),(4,(.d (eI v1)))] [(1,(.mk false (.dc 408 [(.agg 3 v2)])))]
noncomputable def L128_0a(v0 v1:Int)(v2:List DV):Option CR:=goQ 128 0 (S128_0a v0 v1 v2)
def S128_1a(v0 v1 v2:Int)(v3:List DV):St :=
 zr 23 [(1,(.ptr 1 408 0 [])),(3,(.d (eI v0))),(4,(.d (eI v1))),(5,(.d (eI v2)))] [(1,(.mk false (.dc 408 [(.agg 3 v3)])))]
noncomputable def L128_1a(v0 v1 v2:Int)(v3:List DV):Option CR:=goQ 128 1 (S128_1a v0 v1 v2 v3)
theorem L128_0a_eq(v0 v1:Int)(v2:List DV):L128_0a v0 v1 v2 =
 ifO (decide (v1<(8:Int)))
 ((L128_1a v0 v1 (0:Int) v2))
 (some (.val (eI v0))) :=
 (zb 128 0 _).trans (by kernel_rfl)
theorem L128_1a_eq(v0 v1 v2:Int)(v3:List DV):L128_1a v0 v1 v2 v3 =
 ifO (decide (v2<=(50:Int)))
 (ifO (decide (((0:Int)<=v1)/\(v1<(8:Int))))
 (ifO (decide (((0:Int)<=v2)/\(v2<(51:Int))))
 (ifO (jK 3 (Ac v1) (.agg 3 v3))
 (ifO (jK 2 (Ac v2) (nth v3 (Ac v1)))
 (ifO (zF EE 6 3 (nth (flds (nth v3 (Ac v1))) (Ac v2)))
 (ifO (decide ((zC (nth (flds (nth v3 (Ac v1))) (Ac v2)))>(0:Int)))
 ((L128_1a (Ab .i64 (v0+(1:Int))) v1 (Ab .i64 (v2+(1:Int))) v3))
 ((L128_1a v0 v1 (Ab .i64 (v2+(1:Int))) v3)))
 (none))
 (none))
 (none))
 (none))
 (none))
 ((L128_0a v0 (Ab .i64 (v1+(1:Int))) v3)) :=
 (zb 128 1 _).trans (by kernel_rfl)
theorem C128(x0:DV):zB 128 [x0] =
 ifO (zV (zF EE 6) [32] [x0])
 ((L128_0a (0:Int) (0:Int) (flds x0)))
 (none) :=
 (zM (f:=128) (by kernel_rfl) (by kernel_rfl) (by kernel_rfl) [x0]).trans (by kernel_rfl)
theorem C105(x0:DV):zB 105 [x0] =
 ifO (zV (zF EE 6) [29] [x0])
 (some (.val (.bool (decide ((((Aa (elems (nth (flds x0) 0))):Nat):Int)<=(52:Int))))))
 (none) :=
 (zM (f:=105) (by kernel_rfl) (by kernel_rfl) (by kernel_rfl) [x0]).trans (by kernel_rfl)
end Go.Am
namespace Go.Am
open Go.Proofs
open Go
variable[OO]
theorem C56(x0:DV):zB 56 [x0] =
 ifO (zV (zF EE 6) [25] [x0])
 (ifO (decide ((((2 * (0+(Aa (elems x0))))+200) * 8)<=281474976710656))
 (ifO (AX (elems x0))
 (some (.val (.sl 1 [])))
 (ifO (decide ((0+(Aa ([]++(elems x0))))<=(Aa ([]++(elems x0)))))
 (some (.val (.sl 1 (Ar (Aa ([]++(elems x0))) (Aw 0 ([]++(elems x0)))))))
 (none)))
 (none))
 (none) :=
 (zM (f:=56) (by kernel_rfl) (by kernel_rfl) (by kernel_rfl) [x0]).trans (by kernel_rfl)
theorem C67(x0:DV):zB 67 [x0] =
 ifO (zV (zF EE 6) [27] [x0])
 (zH (zB 56 [(.sl 1 (elems (nth (flds x0) 1)))])
 (λr0=>ifO (zF EE 6 25 r0)
 (zH (zB 56 [(.sl 1 (elems (nth (flds x0) 2)))])
 (λr1=>ifO (zF EE 6 25 r1)
 (some (.val (.agg 0 [(.str (zX (nth (flds x0) 0))),(.sl 1 (elems r0)),(.sl 1 (elems r1))])))
 (none))
 (λ_ _=>none))
 (none))
 (λ_ _=>none))
 (none) :=
 (zM (f:=67) (by kernel_rfl) (by kernel_rfl) (by kernel_rfl) [x0]).trans (by kernel_rfl)
theorem C107(x0:DV):zB 107 [x0] =
 ifO (zV (zF EE 6) [29] [x0])
 (zH (zB 56 [(.sl 1 (elems (nth (flds x0) 0)))])
 (λr0=>ifO (zF EE 6 25 r0)
 (some (.val (.agg 1 [(.sl 1 (elems r0)),(eI (zC (nth (flds x0) 1)))])))
 (none))
 (λ_ _=>none))
 (none) :=
 (zM (f:=107) (by kernel_rfl) (by kernel_rfl) (by kernel_rfl) [x0]).trans (by kernel_rfl)
end Go.Am
namespace Go.Am
open Go.Proofs
open Go
variable[OO]
def S71_0a(v0:Int)(v1:ByteArray)(v2 v3:List DV):St :=
 zr 91 [(1,(.ptr 1 3 0 [])),(3,(.d (eI v0)))] [(1,(.mk false (.dc 3 [(.agg 0 [(.str v1),(.sl 1 v2),(.sl 1 v3)])])))]
noncomputable def L71_0a(v0:Int)(v1:ByteArray)(v2 v3:List DV):Option CR:=goQ 71 0 (S71_0a v0 v1 v2 v3)
def S71_1a(v0:Int)(v1:ByteArray)(v2 v3:List DV):St :=
 zr 91 [(1,(.ptr 1 3 0 [])),(5,(.d (eI v0)))] [(1,(.mk false (.dc 3 [(.agg 0 [(.str v1),(.sl 1 v2),(.sl 1 v3)])])))]
noncomputable def L71_1a(v0:Int)(v1:ByteArray)(v2 v3:List DV):Option CR:=goQ 71 1 (S71_1a v0 v1 v2 v3)
theorem L71_0a_eq(v0:Int)(v1:ByteArray)(v2 v3:List DV):L71_0a v0 v1 v2 v3 =
 ifO (decide (v0<(((Aa v2):Nat):Int)))
 (ifO (decide (((0:Int)<=v0)/\(v0<(((Aa v2):Nat):Int))))
 (ifO (zF EE 6 3 (nth v2 (Ac v0)))
 (zH (zB 37 [(eI (zC (nth v2 (Ac v0)))),(eI 0),(eI 256)])
 (λr6=>ifO (zF EE 6 3 r6)
 (ifO (bne (zC r6) 0)
 (some (.val (eI (zC r6))))
 (ifO (decide (v0>(0:Int)))
 (ifO (decide (((0:Int)<=v0)/\(v0<(((Aa v2):Nat):Int))))
 (ifO (zF EE 6 3 (nth v2 (Ac v0)))
 (ifO (decide (((0:Int)<=(Ab .i64 (v0 - (1:Int))))/\((Ab .i64 (v0 - (1:Int)))<(((Aa v2):Nat):Int))))
 (ifO (zF EE 6 3 (nth v2 (Ac (Ab .i64 (v0 - (1:Int))))))
 (ifO (decide ((zC (nth v2 (Ac v0)))>(zC (nth v2 (Ac (Ab .i64 (v0 - (1:Int))))))))
 (some (.val (eI 11)))
 ((L71_0a (Ab .i64 (v0+(1:Int))) v1 v2 v3)))
 (none))
 (none))
 (none))
 (none))
 ((L71_0a (Ab .i64 (v0+(1:Int))) v1 v2 v3))))
 (none))
 (λ_ _=>none))
 (none))
 (none))
 ((L71_1a (0:Int) v1 v2 v3)) :=
 (zb 71 0 _).trans (by kernel_rfl)
theorem L71_1a_eq(v0:Int)(v1:ByteArray)(v2 v3:List DV):L71_1a v0 v1 v2 v3 =
 ifO (decide (v0<(((Aa v3):Nat):Int)))
 (ifO (decide (((0:Int)<=v0)/\(v0<(((Aa v3):Nat):Int))))
 (ifO (zF EE 6 3 (nth v3 (Ac v0)))
 (zH (zB 37 [(eI (zC (nth v3 (Ac v0)))),(eI 0),(eI 100)])
 (λr9=>ifO (zF EE 6 3 r9)
 (ifO (bne (zC r9) 0)
 (some (.val (eI (zC r9))))
 (ifO (decide (v0>(0:Int)))
 (ifO (decide (((0:Int)<=v0)/\(v0<(((Aa v3):Nat):Int))))
 (ifO (zF EE 6 3 (nth v3 (Ac v0)))
 (ifO (decide (((0:Int)<=(Ab .i64 (v0 - (1:Int))))/\((Ab .i64 (v0 - (1:Int)))<(((Aa v3):Nat):Int))))
 (ifO (zF EE 6 3 (nth v3 (Ac (Ab .i64 (v0 - (1:Int))))))
 (ifO (decide ((zC (nth v3 (Ac v0)))<(zC (nth v3 (Ac (Ab .i64 (v0 - (1:Int))))))))
 (some (.val (eI 11)))
 ((L71_1a (Ab .i64 (v0+(1:Int))) v1 v2 v3)))
 (none))
 (none))
 (none))
 (none))
 ((L71_1a (Ab .i64 (v0+(1:Int))) v1 v2 v3))))
 (none))
 (λ_ _=>none))
 (none))
 (none))
 (some (.val (eI 0))) :=
 (zb 71 1 _).trans (by kernel_rfl)
theorem C71(x0:DV):zB 71 [x0] =
 ifO (zV (zF EE 6) [27] [x0])
 (zH (zB 92 [])
 (λr0=>ifO (zF EE 6 173 r0)
 (zH (zB 193 [(.sl 1 (elems r0)),(.str (zX (nth (flds x0) 0)))])
 (λr1=>ifO (zF EE 6 4 r1)
 (ifO (!(jm r1))
 (some (.val (eI 13)))
 (ifO ((((Aa (elems (nth (flds x0) 1))):Nat):Int) == (0:Int))
 (some (.val (eI 12)))
 (ifO (decide ((((Aa (elems (nth (flds x0) 1))):Nat):Int)>(32:Int)))
 (some (.val (eI 5)))
 (ifO (bne (((Aa (elems (nth (flds x0) 2))):Nat):Int) (((Aa (elems (nth (flds x0) 1))):Nat):Int))
 (some (.val (eI 2)))
 ((L71_0a (0:Int) (zX (nth (flds x0) 0)) (elems (nth (flds x0) 1)) (elems (nth (flds x0) 2))))))))
 (none))
 (λ_ _=>none))
 (none))
 (λ_ _=>none))
 (none) :=
 (zM (f:=71) (by kernel_rfl) (by kernel_rfl) (by kernel_rfl) [x0]).trans (by kernel_rfl)
theorem C72(x0 x1 x2:DV):zB 72 [x0,x1,x2] =
 ifO (zV (zF EE 6) [141,141,3] [x0,x1,x2])
 (zH (zB 194 [(eI (zC x2))])
 (λr0=>ifO (zF EE 6 141 r0)
 (zH (zB 195 [(.agg 1 [(eI (Ab .i64 ((zC (nth (flds x1) 0)) - (zC (nth (flds x0) 0))))),(eI (Ab .i64 ((zC (nth (flds x1) 1)) - (zC (nth (flds x0) 1)))))]),(eI (zC x2))])
 (λr1=>ifO (zF EE 6 3 r1)
 (ifO ((Bt (zC x2) (2:Int)) == (1:Int))
 (zH (zB 196 [(eI (zC r1))])
 (λr2=>ifO (zF EE 6 3 r2)
 (zH (zB 197 [(eI (Ab .i64 ((Ab .i64 ((Ab .i64 ((zC (nth (flds x1) 0)) - (zC (nth (flds x0) 0)))) * (zC (nth (flds r0) 1)))) - (Ab .i64 ((Ab .i64 ((zC (nth (flds x1) 1)) - (zC (nth (flds x0) 1)))) * (zC (nth (flds r0) 0)))))))])
 (λr3=>ifO (zF EE 6 3 r3)
 (some (.val (.tup [(eI (zC r2)),(eI (zC r3))])))
 (none))
 (λ_ _=>none))
 (none))
 (λ_ _=>none))
 (zH (zB 197 [(eI (Ab .i64 ((Ab .i64 ((Ab .i64 ((zC (nth (flds x1) 0)) - (zC (nth (flds x0) 0)))) * (zC (nth (flds r0) 1)))) - (Ab .i64 ((Ab .i64 ((zC (nth (flds x1) 1)) - (zC (nth (flds x0) 1)))) * (zC (nth (flds r0) 0)))))))])
 (λr8=>ifO (zF EE 6 3 r8)
 (some (.val (.tup [(eI (zC r1)),(eI (zC r8))])))
 (none))
 (λ_ _=>none)))
 (none))
 (λ_ _=>none))
 (none))
 (λ_ _=>none))
 (none) :=
 (zM (f:=72) (by kernel_rfl) (by kernel_rfl) (by kernel_rfl) [x0,x1,x2]).trans (by kernel_rfl)
theorem C73(x0 x1 x2:DV):zB 73 [x0,x1,x2] =
 ifO (zV (zF EE 6) [27,3,3] [x0,x1,x2])
 (ifO (decide ((zC x1)<(1:Int)))
 (some (.val (eI 0)))
 (ifO (decide ((zC x1)>(((Aa (elems (nth (flds x0) 1))):Nat):Int)))
 (some (.val (eI 0)))
 (ifO (decide (((0:Int)<=(Ab .i64 ((zC x1) - (1:Int))))/\((Ab .i64 ((zC x1) - (1:Int)))<(((Aa (elems (nth (flds x0) 2))):Nat):Int))))
 (ifO (zF EE 6 3 (nth (elems (nth (flds x0) 2)) (Ac (Ab .i64 ((zC x1) - (1:Int))))))
 (ifO (decide ((zC x2)>(zC (nth (elems (nth (flds x0) 2)) (Ac (Ab .i64 ((zC x1) - (1:Int))))))))
 (some (.val (eI 0)))
 (ifO (decide (((0:Int)<=(Ab .i64 ((zC x1) - (1:Int))))/\((Ab .i64 ((zC x1) - (1:Int)))<(((Aa (elems (nth (flds x0) 1))):Nat):Int))))
 (ifO (zF EE 6 3 (nth (elems (nth (flds x0) 1)) (Ac (Ab .i64 ((zC x1) - (1:Int))))))
 (some (.val (eI (zC (nth (elems (nth (flds x0) 1)) (Ac (Ab .i64 ((zC x1) - (1:Int)))))))))
 (none))
 (none)))
 (none))
 (none))))
 (none) :=
 (zM (f:=73) (by kernel_rfl) (by kernel_rfl) (by kernel_rfl) [x0,x1,x2]).trans (by kernel_rfl)
theorem C195(x0 x1:DV):zB 195 [x0,x1] =
 ifO (zV (zF EE 6) [141,3] [x0,x1])
 (zH (zB 194 [(eI (zC x1))])
 (λr0=>ifO (zF EE 6 141 r0)
 (zH (zB 194 [(eI (zC x1))])
 (λr1=>ifO (zF EE 6 141 r1)
 (some (.val (eI (Ab .i64 ((Ab .i64 ((zC (nth (flds x0) 0)) * (zC (nth (flds r0) 0))))+(Ab .i64 ((zC (nth (flds x0) 1)) * (zC (nth (flds r1) 1)))))))))
 (none))
 (λ_ _=>none))
 (none))
 (λ_ _=>none))
 (none) :=
 (zM (f:=195) (by kernel_rfl) (by kernel_rfl) (by kernel_rfl) [x0,x1]).trans (by kernel_rfl)
theorem C196(x0:DV):zB 196 [x0] =
 ifO (zV (zF EE 6) [3] [x0])
 (ifO (decide ((zC x0)<(0:Int)))
 (ifO (bne (Bt (zC x0) (2:Int)) 0)
 (some (.val (eI (Ab .i64 ((Ab .i64 (Av (zC x0) (2:Int))) - (1:Int))))))
 (some (.val (eI (Ab .i64 (Av (zC x0) (2:Int)))))))
 (some (.val (eI (Ab .i64 (Av (zC x0) (2:Int)))))))
 (none) :=
 (zM (f:=196) (by kernel_rfl) (by kernel_rfl) (by kernel_rfl) [x0]).trans (by kernel_rfl)
theorem C197(x0:DV):zB 197 [x0] =
 ifO (zV (zF EE 6) [3] [x0])
 (some (.val (eI (ite ((Ab .i64 ((0:Int) - (zC x0)))>(zC x0)) (Ab .i64 ((0:Int) - (zC x0))) (zC x0)))))
 (none) :=
 (zM (f:=197) (by kernel_rfl) (by kernel_rfl) (by kernel_rfl) [x0]).trans (by kernel_rfl)
def S193_0a(v0:List DV)(v1:ByteArray)(v2:Int):St :=
 zr 18 [(0,(.d (.sl 1 v0))),(1,(.d (.str v1))),(5,(.d (eI v2)))] []
noncomputable def L193_0a(v0:List DV)(v1:ByteArray)(v2:Int):Option CR:=goQ 193 0 (S193_0a v0 v1 v2)
theorem L193_0a_eq(v0:List DV)(v1:ByteArray)(v2:Int):L193_0a v0 v1 v2 =
 ifO (decide (v2<(((Aa v0):Nat):Int)))
 (ifO (decide (((0:Int)<=v2)/\(v2<(((Aa v0):Nat):Int))))
 (ifO (zF EE 6 9 (nth v0 (Ac v2)))
 (ifO ((As (zX (nth v0 (Ac v2)))) == (As v1))
 (some (.val (.bool true)))
 ((L193_0a v0 v1 (Ab .i64 (v2+(1:Int))))))
 (none))
 (none))
 (some (.val (.bool false))) :=
 (zb 193 0 _).trans (by kernel_rfl)
theorem C193(x0 x1:DV):zB 193 [x0,x1] =
 ifO (zV (zF EE 6) [173,9] [x0,x1])
 ((L193_0a (elems x0) (zX x1) (0:Int)))
 (none) :=
 (zM (f:=193) (by kernel_rfl) (by kernel_rfl) (by kernel_rfl) [x0,x1]).trans (by kernel_rfl)
theorem C92:zB 92 [] =
 some (.val (.sl 1 [(.str (bs [103,114,101,97,116,101,115,116])),(.str (bs [115,113,117,97,114,101,115])),(.str (bs [115,117,109]))])) :=
 (zM (f:=92) (by kernel_rfl) (by kernel_rfl) (by kernel_rfl) []).trans (by kernel_rfl)
def S79_0a(v0:Int)(v1:ByteArray)(v2:Int)(v3:List DV)(v4:ByteArray)(v5 v6:List DV):St :=
 zr 63 [(2,(.d (eI v0))),(3,(.ptr 3 3 0 [])),(4,(.ptr 4 3 0 [])),(7,(.d .nl)),(8,(.d (eI 0)))] [(3,(.mk false (.dc 3 [(.agg 0 [(.str v1),(eI v2),(.sl 3 v3)])]))),(4,(.mk false (.dc 3 [(.agg 0 [(.str v4),(.sl 1 v5),(.sl 1 v6)])])))]
noncomputable def L79_0a(v0:Int)(v1:ByteArray)(v2:Int)(v3:List DV)(v4:ByteArray)(v5 v6:List DV):Option CR:=goQ 79 0 (S79_0a v0 v1 v2 v3 v4 v5 v6)
def S79_1a(v0:Int)(v1:List DV)(v2:Int)(v3:ByteArray)(v4:Int)(v5:List DV)(v6:ByteArray)(v7 v8 v9:List DV):St :=
 zr 63 [(2,(.d (eI v0))),(3,(.ptr 3 3 0 [])),(4,(.ptr 4 3 0 [])),(7,(.d .nl)),(8,(.d (eI 0))),(9,(.own 23 0 (Aa v1) 1)),(10,(.d (eI v2)))] [(3,(.mk false (.dc 3 [(.agg 0 [(.str v3),(eI v4),(.sl 3 v5)])]))),(4,(.mk false (.dc 3 [(.agg 0 [(.str v6),(.sl 1 v7),(.sl 1 v8)])]))),(23,(.mk false (.dc 1 v9)))]
noncomputable def L79_1a(v0:Int)(v1:List DV)(v2:Int)(v3:ByteArray)(v4:Int)(v5:List DV)(v6:ByteArray)(v7 v8 v9:List DV):Option CR:=goQ 79 1 (S79_1a v0 v1 v2 v3 v4 v5 v6 v7 v8 v9)
def S79_0b(v0:Int)(v1:List DV)(v2:Int)(v3:ByteArray)(v4:Int)(v5:List DV)(v6:ByteArray)(v7 v8:List DV):St :=
 zr 63 [(2,(.d (eI v0))),(3,(.ptr 3 3 0 [])),(4,(.ptr 4 3 0 [])),(7,(.own 61 0 (Aa v1) 1)),(8,(.d (eI v2)))] [(3,(.mk false (.dc 3 [(.agg 0 [(.str v3),(eI v4),(.sl 3 v5)])]))),(4,(.mk false (.dc 3 [(.agg 0 [(.str v6),(.sl 1 v7),(.sl 1 v8)])]))),(61,(.mk false (.dc 1 v1)))]
noncomputable def L79_0b(v0:Int)(v1:List DV)(v2:Int)(v3:ByteArray)(v4:Int)(v5:List DV)(v6:ByteArray)(v7 v8:List DV):Option CR:=goQ 79 0 (S79_0b v0 v1 v2 v3 v4 v5 v6 v7 v8)
def S79_1b(v0:Int)(v1:List DV)(v2:Int)(v3:List DV)(v4:Int)(v5:ByteArray)(v6:Int)(v7:List DV)(v8:ByteArray)(v9 v10 v11:List DV):St :=
 zr 63 [(2,(.d (eI v0))),(3,(.ptr 3 3 0 [])),(4,(.ptr 4 3 0 [])),(7,(.own 61 0 (Aa v1) 1)),(8,(.d (eI v2))),(9,(.own 23 0 (Aa v3) 1)),(10,(.d (eI v4)))] [(3,(.mk false (.dc 3 [(.agg 0 [(.str v5),(eI v6),(.sl 3 v7)])]))),(4,(.mk false (.dc 3 [(.agg 0 [(.str v8),(.sl 1 v9),(.sl 1 v10)])]))),(23,(.mk false (.dc 1 v11))),(61,(.mk false (.dc 1 v1)))]
noncomputable def L79_1b(v0:Int)(v1:List DV)(v2:Int)(v3:List DV)(v4:Int)(v5:ByteArray)(v6:Int)(v7:List DV)(v8:ByteArray)(v9 v10 v11:List DV):Option CR:=goQ 79 1 (S79_1b v0 v1 v2 v3 v4 v5 v6 v7 v8 v9 v10 v11)
theorem L79_0a_eq(v0:Int)(v1:ByteArray)(v2:Int)(v3:List DV)(v4:ByteArray)(v5 v6:List DV):L79_0a v0 v1 v2 v3 v4 v5 v6 =
 ifO (decide ((0:Int)<(((Aa v3):Nat):Int)))
 (ifO (decide (((0:Int)<=(((Aa v3):Nat):Int))/\(((((Aa v3):Nat):Int)=(((Aa v3):Nat):Int))/\((((8:Int) * (((Aa v3):Nat):Int))<=(281474976710656:Int))/\((((Aa v3):Nat):Int)<=(9223372036854775807:Int))))))
 ((L79_1a v0 (Ai (Ac (((Aa v3):Nat):Int)) (eI 0)) (0:Int) v1 v2 v3 v4 v5 v6 (Ai (Ac (((Aa v3):Nat):Int)) (eI 0))))
 (none))
 (some (.val (.sl 1 []))) :=
 (zb 79 0 _).trans (by kernel_rfl)
theorem L79_1a_eq(v0:Int)(v1:List DV)(v2:Int)(v3:ByteArray)(v4:Int)(v5:List DV)(v6:ByteArray)(v7 v8 v9:List DV):L79_1a v0 v1 v2 v3 v4 v5 v6 v7 v8 v9 =
 ifO (decide (v2<(((Aa v5):Nat):Int)))
 (ifO (bne v2 (0:Int))
 (ifO (decide (((0:Int)<=v2)/\(v2<(((Aa v5):Nat):Int))))
 (ifO (jK 9 1 (nth v5 (Ac v2)))
 (ifO (zF EE 6 141 (nth (flds (nth v5 (Ac v2))) 1))
 (ifO (decide (((0:Int)<=(0:Int))/\((0:Int)<(((Aa v5):Nat):Int))))
 (ifO (jK 9 1 (nth v5 0))
 (ifO (zF EE 6 141 (nth (flds (nth v5 0)) 1))
 (zH (zB 72 [(.agg 1 [(eI (zC (nth (flds (nth (flds (nth v5 (Ac v2))) 1)) 0))),(eI (zC (nth (flds (nth (flds (nth v5 (Ac v2))) 1)) 1)))]),(.agg 1 [(eI (zC (nth (flds (nth (flds (nth v5 0)) 1)) 0))),(eI (zC (nth (flds (nth (flds (nth v5 0)) 1)) 1)))]),(eI v0)])
 (λr0=>ifO ((DV.isTup r0) && (zV (zF EE 6) [3,3] (tups r0)))
 (zH (zB 73 [(.agg 0 [(.str v6),(.sl 1 v7),(.sl 1 v8)]),(eI (zC (nth (tups r0) 0))),(eI (zC (nth (tups r0) 1)))])
 (λr1=>ifO (zF EE 6 3 r1)
 (ifO (decide (((0:Int)<=v2)/\(v2<(((Aa v1):Nat):Int))))
 (ifO (decide ((0+(Ac v2))<(Aa v9)))
 ((L79_1a v0 v1 (Ab .i64 (v2+(1:Int))) v3 v4 v5 v6 v7 v8 (A3 v9 (0+(Ac v2)) (eI (zC r1)))))
 (none))
 (none))
 (none))
 (λ_ _=>none))
 (none))
 (λ_ _=>none))
 (none))
 (none))
 (none))
 (none))
 (none))
 (none))
 ((L79_1a v0 v1 (Ab .i64 (v2+(1:Int))) v3 v4 v5 v6 v7 v8 v9)))
 (ifO (decide ((0+(Aa v1))<=(Aa v9)))
 ((L79_0b v0 [(.sl 1 (Ar (Aa v1) (Aw 0 v9)))] (1:Int) v3 v4 v5 v6 v7 v8))
 (none)) :=
 (zb 79 1 _).trans (by kernel_rfl)
theorem L79_0b_eq(v0:Int)(v1:List DV)(v2:Int)(v3:ByteArray)(v4:Int)(v5:List DV)(v6:ByteArray)(v7 v8:List DV):L79_0b v0 v1 v2 v3 v4 v5 v6 v7 v8 =
 ifO (decide (v2<(((Aa v5):Nat):Int)))
 (ifO (decide (((0:Int)<=(((Aa v5):Nat):Int))/\(((((Aa v5):Nat):Int)=(((Aa v5):Nat):Int))/\((((8:Int) * (((Aa v5):Nat):Int))<=(281474976710656:Int))/\((((Aa v5):Nat):Int)<=(9223372036854775807:Int))))))
 ((L79_1b v0 v1 v2 (Ai (Ac (((Aa v5):Nat):Int)) (eI 0)) (0:Int) v3 v4 v5 v6 v7 v8 (Ai (Ac (((Aa v5):Nat):Int)) (eI 0))))
 (none))
 (ifO (decide ((0+(Aa v1))<=(Aa v1)))
 (some (.val (.sl 1 (AI (cnE EE 25) (Ar (Aa v1) (Aw 0 v1))))))
 (none)) :=
 (zb 79 0 _).trans (by kernel_rfl)
theorem L79_1b_eq(v0:Int)(v1:List DV)(v2:Int)(v3:List DV)(v4:Int)(v5:ByteArray)(v6:Int)(v7:List DV)(v8:ByteArray)(v9 v10 v11:List DV):L79_1b v0 v1 v2 v3 v4 v5 v6 v7 v8 v9 v10 v11 =
 ifO (decide (v4<(((Aa v7):Nat):Int)))
 (ifO (bne v4 v2)
 (ifO (decide (((0:Int)<=v4)/\(v4<(((Aa v7):Nat):Int))))
 (ifO (jK 9 1 (nth v7 (Ac v4)))
 (ifO (zF EE 6 141 (nth (flds (nth v7 (Ac v4))) 1))
 (ifO (decide (((0:Int)<=v2)/\(v2<(((Aa v7):Nat):Int))))
 (ifO (jK 9 1 (nth v7 (Ac v2)))
 (ifO (zF EE 6 141 (nth (flds (nth v7 (Ac v2))) 1))
 (zH (zB 72 [(.agg 1 [(eI (zC (nth (flds (nth (flds (nth v7 (Ac v4))) 1)) 0))),(eI (zC (nth (flds (nth (flds (nth v7 (Ac v4))) 1)) 1)))]),(.agg 1 [(eI (zC (nth (flds (nth (flds (nth v7 (Ac v2))) 1)) 0))),(eI (zC (nth (flds (nth (flds (nth v7 (Ac v2))) 1)) 1)))]),(eI v0)])
 (λr6=>ifO ((DV.isTup r6) && (zV (zF EE 6) [3,3] (tups r6)))
 (zH (zB 73 [(.agg 0 [(.str v8),(.sl 1 v9),(.sl 1 v10)]),(eI (zC (nth (tups r6) 0))),(eI (zC (nth (tups r6) 1)))])
 (λr7=>ifO (zF EE 6 3 r7)
 (ifO (decide (((0:Int)<=v4)/\(v4<(((Aa v3):Nat):Int))))
 (ifO (decide ((0+(Ac v4))<(Aa v11)))
 ((L79_1b v0 v1 v2 v3 (Ab .i64 (v4+(1:Int))) v5 v6 v7 v8 v9 v10 (A3 v11 (0+(Ac v4)) (eI (zC r7)))))
 (none))
 (none))
 (none))
 (λ_ _=>none))
 (none))
 (λ_ _=>none))
 (none))
 (none))
 (none))
 (none))
 (none))
 (none))
 ((L79_1b v0 v1 v2 v3 (Ab .i64 (v4+(1:Int))) v5 v6 v7 v8 v9 v10 v11)))
 (ifO (decide ((Aa v1)=(Aa v1)))
 (ifO (decide ((0+(Aa v3))<=(Aa v11)))
 (ifO (decide ((((2 * ((Aa v1)+1))+200) * 24)<=281474976710656))
 ((L79_0b v0 (v1++[(.sl 1 (Ar (Aa v3) (Aw 0 v11)))]) (Ab .i64 (v2+(1:Int))) v5 v6 v7 v8 v9 v10))
 (none))
 (none))
 (none)) :=
 (zb 79 1 _).trans (by kernel_rfl)
theorem C79(x0 x1 x2:DV):zB 79 [x0,x1,x2] =
 ifO (zV (zF EE 6) [24,27,3] [x0,x1,x2])
 ((L79_0a (zC x2) (zX (nth (flds x0) 0)) (zC (nth (flds x0) 1)) (elems (nth (flds x0) 2)) (zX (nth (flds x1) 0)) (elems (nth (flds x1) 1)) (elems (nth (flds x1) 2))))
 (none) :=
 (zM (f:=79) (by kernel_rfl) (by kernel_rfl) (by kernel_rfl) [x0,x1,x2]).trans (by kernel_rfl)
def S80_0a(v0:List DV)(v1:ByteArray)(v2 v3:List DV):St :=
 zr 31 [(4,(.ptr 4 3 0 [])),(7,(.d .nl)),(8,(.d (.sl 1 v0))),(9,(.d (eI 0)))] [(4,(.mk false (.dc 3 [(.agg 0 [(.str v1),(.sl 1 v2),(.sl 1 v3)])])))]
noncomputable def L80_0a(v0:List DV)(v1:ByteArray)(v2 v3:List DV):Option CR:=goQ 80 0 (S80_0a v0 v1 v2 v3)
def S80_0b(v0 v1:List DV)(v2:Int)(v3:ByteArray)(v4 v5:List DV):St :=
 zr 31 [(4,(.ptr 4 3 0 [])),(7,(.own 29 0 (Aa v0) 1)),(8,(.d (.sl 1 v1))),(9,(.d (eI v2)))] [(4,(.mk false (.dc 3 [(.agg 0 [(.str v3),(.sl 1 v4),(.sl 1 v5)])]))),(29,(.mk false (.dc 1 v0)))]
noncomputable def L80_0b(v0 v1:List DV)(v2:Int)(v3:ByteArray)(v4 v5:List DV):Option CR:=goQ 80 0 (S80_0b v0 v1 v2 v3 v4 v5)
theorem L80_0a_eq(v0:List DV)(v1:ByteArray)(v2 v3:List DV):L80_0a v0 v1 v2 v3 =
 ifO (decide ((0:Int)<(((Aa v0):Nat):Int)))
 (ifO (decide (((0:Int)<=(0:Int))/\((0:Int)<(((Aa v0):Nat):Int))))
 (ifO (zF EE 6 25 (nth v0 0))
 (zH (zB 201 [(.str v1),(.sl 1 (elems (nth v0 0)))])
 (λr3=>ifO (zF EE 6 3 r3)
 ((L80_0b [(eI (zC r3))] v0 (1:Int) v1 v2 v3))
 (none))
 (λ_ _=>none))
 (none))
 (none))
 (some (.val .nl)) :=
 (zb 80 0 _).trans (by kernel_rfl)
theorem L80_0b_eq(v0 v1:List DV)(v2:Int)(v3:ByteArray)(v4 v5:List DV):L80_0b v0 v1 v2 v3 v4 v5 =
 ifO (decide (v2<(((Aa v1):Nat):Int)))
 (ifO (decide (((0:Int)<=v2)/\(v2<(((Aa v1):Nat):Int))))
 (ifO (zF EE 6 25 (nth v1 (Ac v2)))
 (zH (zB 201 [(.str v3),(.sl 1 (elems (nth v1 (Ac v2))))])
 (λr6=>ifO (zF EE 6 3 r6)
 (ifO (decide ((Aa v0)=(Aa v0)))
 (ifO (decide ((((2 * ((Aa v0)+1))+200) * 8)<=281474976710656))
 ((L80_0b (v0++[(eI (zC r6))]) v1 (Ab .i64 (v2+(1:Int))) v3 v4 v5))
 (none))
 (none))
 (none))
 (λ_ _=>none))
 (none))
 (none))
 (ifO (decide ((Aa v0)=(Aa v0)))
 (some (.fresh 1 v0))
 (none)) :=
 (zb 80 0 _).trans (by kernel_rfl)
theorem C80(x0 x1 x2:DV):zB 80 [x0,x1,x2] =
 ifO (zV (zF EE 6) [24,27,3] [x0,x1,x2])
 (zH (zB 79 [(.agg 0 [(.str (zX (nth (flds x0) 0))),(eI (zC (nth (flds x0) 1))),(.sl 3 (elems (nth (flds x0) 2)))]),(.agg 0 [(.str (zX (nth (flds x1) 0))),(.sl 1 (elems (nth (flds x1) 1))),(.sl 1 (elems (nth (flds x1) 2)))]),(eI (zC x2))])
 (λr0=>ifO (zF EE 6 95 r0)
 ((L80_0a (elems r0) (zX (nth (flds x1) 0)) (elems (nth (flds x1) 1)) (elems (nth (flds x1) 2))))
 (none))
 (λ_ _=>none))
 (none) :=
 (zM (f:=80) (by kernel_rfl) (by kernel_rfl) (by kernel_rfl) [x0,x1,x2]).trans (by kernel_rfl)
def S81_0a(v0:Int):St :=
 zr 32 [(3,(.d (eI v0))),(9,(.d .nl)),(10,(.d (eI 0)))] []
noncomputable def L81_0a(v0:Int):Option CR:=goQ 81 0 (S81_0a v0)
def S81_0b(v0:Int)(v1:List DV)(v2:Int)(v3:List DV):St :=
 zr 32 [(3,(.d (eI v0))),(9,(.own 14 0 (Aa v1) 1)),(10,(.d (eI v2)))] [(14,(.mk false (.dc 1 v3)))]
noncomputable def L81_0b(v0:Int)(v1:List DV)(v2:Int)(v3:List DV):Option CR:=goQ 81 0 (S81_0b v0 v1 v2 v3)
theorem L81_0a_eq(v0:Int):L81_0a v0 =
 some (.val (.sl 1 [])) :=
 (zb 81 0 _).trans (by kernel_rfl)
theorem L81_0b_eq(v0:Int)(v1:List DV)(v2:Int)(v3:List DV):L81_0b v0 v1 v2 v3 =
 ifO (decide (v2<(((Aa v1):Nat):Int)))
 (ifO (decide (((0:Int)<=v2)/\(v2<(((Aa v1):Nat):Int))))
 (ifO (decide ((0+(Ac v2))<(Aa v3)))
 (ifO (zF EE 6 3 (nth v3 (0+(Ac v2))))
 (ifO (decide (((0:Int)<=v2)/\(v2<(((Aa v1):Nat):Int))))
 (ifO (decide ((0+(Ac v2))<(Aa v3)))
 ((L81_0b v0 v1 (Ab .i64 (v2+(1:Int))) (A3 v3 (0+(Ac v2)) (eI (Ab .i64 (v0 * (Ab .i64 ((256:Int) - (zC (nth v3 (0+(Ac v2))))))))))))
 (none))
 (none))
 (none))
 (none))
 (none))
 (ifO (decide ((0+(Aa v1))<=(Aa v3)))
 (some (.val (.sl 1 (Ar (Aa v1) (Aw 0 v3)))))
 (none)) :=
 (zb 81 0 _).trans (by kernel_rfl)
theorem C81(x0 x1 x2 x3:DV):zB 81 [x0,x1,x2,x3] =
 ifO (zV (zF EE 6) [24,27,3,3] [x0,x1,x2,x3])
 (zH (zB 80 [(.agg 0 [(.str (zX (nth (flds x0) 0))),(eI (zC (nth (flds x0) 1))),(.sl 3 (elems (nth (flds x0) 2)))]),(.agg 0 [(.str (zX (nth (flds x1) 0))),(.sl 1 (elems (nth (flds x1) 1))),(.sl 1 (elems (nth (flds x1) 2)))]),(eI (zC x2))])
 (λr0=>ifO (zJc r0)
 ((L81_0a (zC x3)))
 (none))
 (λs1 l2=>ifO (s1 == 1)
 ((L81_0b (zC x3) l2 (0:Int) l2))
 (none)))
 (none) :=
 (zM (f:=81) (by kernel_rfl) (by kernel_rfl) (by kernel_rfl) [x0,x1,x2,x3]).trans (by kernel_rfl)
def S201_0a(v0:ByteArray)(v1:List DV)(v2 v3:Int):St :=
 zr 55 [(0,(.d (.str v0))),(1,(.d (.sl 1 v1))),(5,(.d (eI v2))),(6,(.d (eI v3)))] []
noncomputable def L201_0a(v0:ByteArray)(v1:List DV)(v2 v3:Int):Option CR:=goQ 201 0 (S201_0a v0 v1 v2 v3)
def S201_1a(v0 v1:Int):St :=
 zr 55 [(5,(.d (eI v0))),(7,(.d (eI v1)))] []
noncomputable def L201_1a(v0 v1:Int):Option CR:=goQ 201 1 (S201_1a v0 v1)
theorem L201_0a_eq(v0:ByteArray)(v1:List DV)(v2 v3:Int):L201_0a v0 v1 v2 v3 =
 ifO (decide (v3<(((Aa v1):Nat):Int)))
 (ifO ((As v0) == (As (bs [115,117,109])))
 (ifO (decide (((0:Int)<=v3)/\(v3<(((Aa v1):Nat):Int))))
 (ifO (zF EE 6 3 (nth v1 (Ac v3)))
 ((L201_0a v0 v1 (Ab .i64 (v2+(zC (nth v1 (Ac v3))))) (Ab .i64 (v3+(1:Int)))))
 (none))
 (none))
 (ifO ((As v0) == (As (bs [103,114,101,97,116,101,115,116])))
 (ifO (decide (((0:Int)<=v3)/\(v3<(((Aa v1):Nat):Int))))
 (ifO (zF EE 6 3 (nth v1 (Ac v3)))
 ((L201_0a v0 v1 (ite ((zC (nth v1 (Ac v3)))>v2) (zC (nth v1 (Ac v3))) v2) (Ab .i64 (v3+(1:Int)))))
 (none))
 (none))
 (ifO (decide (((0:Int)<=v3)/\(v3<(((Aa v1):Nat):Int))))
 (ifO (zF EE 6 3 (nth v1 (Ac v3)))
 (ifO (decide (((0:Int)<=v3)/\(v3<(((Aa v1):Nat):Int))))
 (ifO (zF EE 6 3 (nth v1 (Ac v3)))
 ((L201_0a v0 v1 (Ab .i64 (v2+(Ab .i64 ((zC (nth v1 (Ac v3))) * (zC (nth v1 (Ac v3))))))) (Ab .i64 (v3+(1:Int)))))
 (none))
 (none))
 (none))
 (none))))
 (ifO ((As v0) == (As (bs [115,113,117,97,114,101,115])))
 ((L201_1a v2 (0:Int)))
 (some (.val (eI (ite ((256:Int)<v2) (256:Int) v2))))) :=
 (zb 201 0 _).trans (by kernel_rfl)
theorem L201_1a_eq(v0 v1:Int):L201_1a v0 v1 =
 ifO (decide ((Ab .i64 ((Ab .i64 (v1+(1:Int))) * (Ab .i64 (v1+(1:Int)))))<=v0))
 ((L201_1a v0 (Ab .i64 (v1+(1:Int)))))
 (some (.val (eI (ite ((256:Int)<v1) (256:Int) v1)))) :=
 (zb 201 1 _).trans (by kernel_rfl)
theorem C201(x0 x1:DV):zB 201 [x0,x1] =
 ifO (zV (zF EE 6) [9,25] [x0,x1])
 ((L201_0a (zX x0) (elems x1) (0:Int) (0:Int)))
 (none) :=
 (zM (f:=201) (by kernel_rfl) (by kernel_rfl) (by kernel_rfl) [x0,x1]).trans (by kernel_rfl)
def S172_0a(v0:List DV)(v1 v2:Int):St :=
 zr 18 [(0,(.d (.sl 1 v0))),(1,(.d (eI v1))),(5,(.d (eI v2)))] []
noncomputable def L172_0a(v0:List DV)(v1 v2:Int):Option CR:=goQ 172 0 (S172_0a v0 v1 v2)
theorem L172_0a_eq(v0:List DV)(v1 v2:Int):L172_0a v0 v1 v2 =
 ifO (decide (v2<(((Aa v0):Nat):Int)))
 (ifO (decide (((0:Int)<=v2)/\(v2<(((Aa v0):Nat):Int))))
 (ifO (zF EE 6 3 (nth v0 (Ac v2)))
 (ifO ((zC (nth v0 (Ac v2))) == v1)
 (some (.val (.bool true)))
 ((L172_0a v0 v1 (Ab .i64 (v2+(1:Int))))))
 (none))
 (none))
 (some (.val (.bool false))) :=
 (zb 172 0 _).trans (by kernel_rfl)
theorem C172(x0 x1:DV):zB 172 [x0,x1] =
 ifO (zV (zF EE 6) [25,3] [x0,x1])
 ((L172_0a (elems x0) (zC x1) (0:Int)))
 (none) :=
 (zM (f:=172) (by kernel_rfl) (by kernel_rfl) (by kernel_rfl) [x0,x1]).trans (by kernel_rfl)
end Go.Am
namespace Go.Am
open Go.Proofs
open Go
variable[OO]
def S69_0a(v0:Int)(v1:ByteArray)(v2:Int)(v3:List DV):St :=
 zr 73 [(1,(.ptr 1 3 0 [])),(3,(.d (eI v0)))] [(1,(.mk false (.dc 3 [(.agg 0 [(.str v1),(eI v2),(.sl 3 v3)])])))]
noncomputable def L69_0a(v0:Int)(v1:ByteArray)(v2:Int)(v3:List DV):Option CR:=goQ 69 0 (S69_0a v0 v1 v2 v3)
def S69_1a(v0 v1:Int)(v2:ByteArray)(v3:Int)(v4:List DV)(v5:ByteArray)(v6 v7:Int):St :=
 zr 73 [(1,(.ptr 1 3 0 [])),(3,(.d (eI v0))),(4,(.ptr 4 3 0 [])),(5,(.d (eI v1)))] [(1,(.mk false (.dc 3 [(.agg 0 [(.str v2),(eI v3),(.sl 3 v4)])]))),(4,(.mk false (.dc 3 [(.agg 9 [(.str v5),(.agg 1 [(eI v6),(eI v7)])])])))]
noncomputable def L69_1a(v0 v1:Int)(v2:ByteArray)(v3:Int)(v4:List DV)(v5:ByteArray)(v6 v7:Int):Option CR:=goQ 69 1 (S69_1a v0 v1 v2 v3 v4 v5 v6 v7)
def S69_2a(v0 v1:Int)(v2:ByteArray)(v3:Int)(v4:List DV)(v5:ByteArray)(v6 v7:Int):St :=
 zr 73 [(1,(.ptr 1 3 0 [])),(3,(.d (eI v0))),(4,(.ptr 4 3 0 [])),(6,(.d (eI v1)))] [(1,(.mk false (.dc 3 [(.agg 0 [(.str v2),(eI v3),(.sl 3 v4)])]))),(4,(.mk false (.dc 3 [(.agg 9 [(.str v5),(.agg 1 [(eI v6),(eI v7)])])])))]
noncomputable def L69_2a(v0 v1:Int)(v2:ByteArray)(v3:Int)(v4:List DV)(v5:ByteArray)(v6 v7:Int):Option CR:=goQ 69 2 (S69_2a v0 v1 v2 v3 v4 v5 v6 v7)
theorem L69_0a_eq(v0:Int)(v1:ByteArray)(v2:Int)(v3:List DV):L69_0a v0 v1 v2 v3 =
 ifO (decide (v0<(((Aa v3):Nat):Int)))
 (ifO (decide (((0:Int)<=v0)/\(v0<(((Aa v3):Nat):Int))))
 (ifO (zF EE 6 143 (nth v3 (Ac v0)))
 (zH (zB 130 [(.str (zX (nth (flds (nth v3 (Ac v0))) 0)))])
 (λr6=>ifO (zF EE 6 4 r6)
 (ifO (!(jm r6))
 (some (.val (eI 8)))
 (zH (zB 164 [(.agg 1 [(eI (zC (nth (flds (nth (flds (nth v3 (Ac v0))) 1)) 0))),(eI (zC (nth (flds (nth (flds (nth v3 (Ac v0))) 1)) 1)))])])
 (λr7=>ifO (zF EE 6 3 r7)
 (ifO (bne (zC r7) 0)
 (some (.val (eI 3)))
 ((L69_1a v0 (0:Int) v1 v2 v3 (zX (nth (flds (nth v3 (Ac v0))) 0)) (zC (nth (flds (nth (flds (nth v3 (Ac v0))) 1)) 0)) (zC (nth (flds (nth (flds (nth v3 (Ac v0))) 1)) 1)))))
 (none))
 (λ_ _=>none)))
 (none))
 (λ_ _=>none))
 (none))
 (none))
 (some (.val (eI 0))) :=
 (zb 69 0 _).trans (by kernel_rfl)
theorem L69_1a_eq(v0 v1:Int)(v2:ByteArray)(v3:Int)(v4:List DV)(v5:ByteArray)(v6 v7:Int):L69_1a v0 v1 v2 v3 v4 v5 v6 v7 =
 ifO (decide (v1<v0))
 (ifO (decide (((0:Int)<=v1)/\(v1<(((Aa v4):Nat):Int))))
 (ifO (jK 9 0 (nth v4 (Ac v1)))
 (ifO (zF EE 6 9 (nth (flds (nth v4 (Ac v1))) 0))
 (ifO ((As (zX (nth (flds (nth v4 (Ac v1))) 0))) == (As v5))
 (some (.val (eI 9)))
 ((L69_1a v0 (Ab .i64 (v1+(1:Int))) v2 v3 v4 v5 v6 v7)))
 (none))
 (none))
 (none))
 ((L69_2a v0 (0:Int) v2 v3 v4 v5 v6 v7)) :=
 (zb 69 1 _).trans (by kernel_rfl)
theorem L69_2a_eq(v0 v1:Int)(v2:ByteArray)(v3:Int)(v4:List DV)(v5:ByteArray)(v6 v7:Int):L69_2a v0 v1 v2 v3 v4 v5 v6 v7 =
 ifO (decide (v1<v0))
 (ifO (decide (((0:Int)<=v1)/\(v1<(((Aa v4):Nat):Int))))
 (ifO (jK 9 1 (nth v4 (Ac v1)))
 (ifO (zF EE 6 141 (nth (flds (nth v4 (Ac v1))) 1))
 (zH (zB 192 [(.agg 1 [(eI (zC (nth (flds (nth (flds (nth v4 (Ac v1))) 1)) 0))),(eI (zC (nth (flds (nth (flds (nth v4 (Ac v1))) 1)) 1)))]),(.agg 1 [(eI v6),(eI v7)])])
 (λr12=>ifO (zF EE 6 3 r12)
 (ifO (decide ((zC r12)<(Ab .i64 (v3 * v3))))
 (some (.val (eI 15)))
 ((L69_2a v0 (Ab .i64 (v1+(1:Int))) v2 v3 v4 v5 v6 v7)))
 (none))
 (λ_ _=>none))
 (none))
 (none))
 (none))
 ((L69_0a (Ab .i64 (v0+(1:Int))) v2 v3 v4)) :=
 (zb 69 2 _).trans (by kernel_rfl)
theorem C69(x0:DV):zB 69 [x0] =
 ifO (zV (zF EE 6) [24] [x0])
 (zH (zB 130 [(.str (zX (nth (flds x0) 0)))])
 (λr0=>ifO (zF EE 6 4 r0)
 (ifO (!(jm r0))
 (some (.val (eI 8)))
 (zH (zB 37 [(eI (zC (nth (flds x0) 1))),(eI 1),(eI 1000)])
 (λr1=>ifO (zF EE 6 3 r1)
 (ifO (bne (zC r1) 0)
 (some (.val (eI 3)))
 (ifO (decide ((((Aa (elems (nth (flds x0) 2))):Nat):Int)>(64:Int)))
 (some (.val (eI 5)))
 ((L69_0a (0:Int) (zX (nth (flds x0) 0)) (zC (nth (flds x0) 1)) (elems (nth (flds x0) 2))))))
 (none))
 (λ_ _=>none)))
 (none))
 (λ_ _=>none))
 (none) :=
 (zM (f:=69) (by kernel_rfl) (by kernel_rfl) (by kernel_rfl) [x0]).trans (by kernel_rfl)
def S129_0a(v0:Int)(v1:List DV):St :=
 zr 20 [(1,(.ptr 1 408 0 [])),(3,(.d (eI v0)))] [(1,(.mk false (.dc 408 [(.agg 3 v1)])))]
noncomputable def L129_0a(v0:Int)(v1:List DV):Option CR:=goQ 129 0 (S129_0a v0 v1)
def S129_1a(v0 v1:Int)(v2:List DV):St :=
 zr 20 [(1,(.ptr 1 408 0 [])),(3,(.d (eI v0))),(4,(.d (eI v1)))] [(1,(.mk false (.dc 408 [(.agg 3 v2)])))]
noncomputable def L129_1a(v0 v1:Int)(v2:List DV):Option CR:=goQ 129 1 (S129_1a v0 v1 v2)
theorem L129_0a_eq(v0:Int)(v1:List DV):L129_0a v0 v1 =
 ifO (decide (v0<(8:Int)))
 ((L129_1a v0 (0:Int) v1))
 (some (.val (eI 0))) :=
 (zb 129 0 _).trans (by kernel_rfl)
theorem L129_1a_eq(v0 v1:Int)(v2:List DV):L129_1a v0 v1 v2 =
 ifO (decide (v1<=(50:Int)))
 (ifO (decide (((0:Int)<=v0)/\(v0<(8:Int))))
 (ifO (decide (((0:Int)<=v1)/\(v1<(51:Int))))
 (ifO (jK 3 (Ac v0) (.agg 3 v2))
 (ifO (jK 2 (Ac v1) (nth v2 (Ac v0)))
 (ifO (zF EE 6 3 (nth (flds (nth v2 (Ac v0))) (Ac v1)))
 (zH (zB 37 [(eI (zC (nth (flds (nth v2 (Ac v0))) (Ac v1)))),(eI 0),(eI 40000)])
 (λr0=>ifO (zF EE 6 3 r0)
 (ifO (bne (zC r0) 0)
 (some (.val (eI 3)))
 ((L129_1a v0 (Ab .i64 (v1+(1:Int))) v2)))
 (none))
 (λ_ _=>none))
 (none))
 (none))
 (none))
 (none))
 (none))
 ((L129_0a (Ab .i64 (v0+(1:Int))) v2)) :=
 (zb 129 1 _).trans (by kernel_rfl)
theorem C129(x0:DV):zB 129 [x0] =
 ifO (zV (zF EE 6) [32] [x0])
 ((L129_0a (0:Int) (flds x0)))
 (none) :=
 (zM (f:=129) (by kernel_rfl) (by kernel_rfl) (by kernel_rfl) [x0]).trans (by kernel_rfl)
theorem C194(x0:DV):zB 194 [x0] =
 ifO (zV (zF EE 6) [3] [x0])
 (ifO (decide ((0:Int)<=(zC x0)))
 (ifO (jK 17 (Ac (zC x0)) (.agg 17 [(.agg 1 [(eI 0),(eI (-1))]),(.agg 1 [(eI (-1)),(eI (-1))]),(.agg 1 [(eI (-1)),(eI 0)]),(.agg 1 [(eI (-1)),(eI 1)]),(.agg 1 [(eI 0),(eI 1)]),(.agg 1 [(eI 1),(eI 1)]),(.agg 1 [(eI 1),(eI 0)]),(.agg 1 [(eI 1),(eI (-1))])]))
 (ifO (zF EE 6 141 (nth [(.agg 1 [(eI 0),(eI (-1))]),(.agg 1 [(eI (-1)),(eI (-1))]),(.agg 1 [(eI (-1)),(eI 0)]),(.agg 1 [(eI (-1)),(eI 1)]),(.agg 1 [(eI 0),(eI 1)]),(.agg 1 [(eI 1),(eI 1)]),(.agg 1 [(eI 1),(eI 0)]),(.agg 1 [(eI 1),(eI (-1))])] (Ac (zC x0))))
 (some (.val (.agg 1 [(eI (zC (nth (flds (nth [(.agg 1 [(eI 0),(eI (-1))]),(.agg 1 [(eI (-1)),(eI (-1))]),(.agg 1 [(eI (-1)),(eI 0)]),(.agg 1 [(eI (-1)),(eI 1)]),(.agg 1 [(eI 0),(eI 1)]),(.agg 1 [(eI 1),(eI 1)]),(.agg 1 [(eI 1),(eI 0)]),(.agg 1 [(eI 1),(eI (-1))])] (Ac (zC x0)))) 0))),(eI (zC (nth (flds (nth [(.agg 1 [(eI 0),(eI (-1))]),(.agg 1 [(eI (-1)),(eI (-1))]),(.agg 1 [(eI (-1)),(eI 0)]),(.agg 1 [(eI (-1)),(eI 1)]),(.agg 1 [(eI 0),(eI 1)]),(.agg 1 [(eI 1),(eI 1)]),(.agg 1 [(eI 1),(eI 0)]),(.agg 1 [(eI 1),(eI (-1))])] (Ac (zC x0)))) 1)))])))
 (none))
 (none))
 (none))
 (none) :=
 (zM (f:=194) (by kernel_rfl) (by kernel_rfl) (by kernel_rfl) [x0]).trans (by kernel_rfl)
end Go.Am
namespace Go.Am
open Go.Proofs
open Go
variable[OO]
def S35_0a(v0:List DV)(v1:Int):St :=
 zr 19 [(0,(.d (.sl 1 v0))),(3,(.d (eI v1)))] []
noncomputable def L35_0a(v0:List DV)(v1:Int):Option CR:=goQ 35 0 (S35_0a v0 v1)
theorem L35_0a_eq(v0:List DV)(v1:Int):L35_0a v0 v1 =
 ifO (decide (v1<(((Aa v0):Nat):Int)))
 (ifO (decide (((0:Int)<=v1)/\(v1<(((Aa v0):Nat):Int))))
 (ifO (zF EE 6 3 (nth v0 (Ac v1)))
 (ifO (bne (zC (nth v0 (Ac v1))) (0:Int))
 (ifO (decide (((0:Int)<=v1)/\(v1<(((Aa v0):Nat):Int))))
 (ifO (zF EE 6 3 (nth v0 (Ac v1)))
 (some (.val (eI (zC (nth v0 (Ac v1))))))
 (none))
 (none))
 ((L35_0a v0 (Ab .i64 (v1+(1:Int))))))
 (none))
 (none))
 (some (.val (eI 0))) :=
 (zb 35 0 _).trans (by kernel_rfl)
theorem C35(x0:DV):zB 35 [x0] =
 ifO (zV (zF EE 6) [25] [x0])
 ((L35_0a (elems x0) (0:Int)))
 (none) :=
 (zM (f:=35) (by kernel_rfl) (by kernel_rfl) (by kernel_rfl) [x0]).trans (by kernel_rfl)
theorem C37(x0 x1 x2:DV):zB 37 [x0,x1,x2] =
 ifO (zV (zF EE 6) [3,3,3] [x0,x1,x2])
 (ifO (decide ((zC x0)<(zC x1)))
 (some (.val (eI 3)))
 (ifO (decide ((zC x0)>(zC x2)))
 (some (.val (eI 3)))
 (some (.val (eI 0)))))
 (none) :=
 (zM (f:=37) (by kernel_rfl) (by kernel_rfl) (by kernel_rfl) [x0,x1,x2]).trans (by kernel_rfl)
theorem C164(x0:DV):zB 164 [x0] =
 ifO (zV (zF EE 6) [141] [x0])
 (zH (zB 37 [(eI (zC (nth (flds x0) 0))),(eI (-1000)),(eI 1000)])
 (λr0=>ifO (zF EE 6 3 r0)
 (zH (zB 37 [(eI (zC (nth (flds x0) 1))),(eI (-1000)),(eI 1000)])
 (λr1=>ifO (zF EE 6 3 r1)
 (zH (zB 35 [(.sl 1 [(eI (zC r0)),(eI (zC r1))])])
 (λr2=>ifO (zF EE 6 3 r2)
 (some (.val (eI (zC r2))))
 (none))
 (λ_ _=>none))
 (none))
 (λ_ _=>none))
 (none))
 (λ_ _=>none))
 (none) :=
 (zM (f:=164) (by kernel_rfl) (by kernel_rfl) (by kernel_rfl) [x0]).trans (by kernel_rfl)
theorem C42(x0 x1 x2 x3:DV):zB 42 [x0,x1,x2,x3] =
 ifO (zV (zF EE 6) [3,46,3,3] [x0,x1,x2,x3])
 (ifO ((zC x1) == (zC x2))
 (ifO (bne (zC x2) 0)
 (ifO ((zC x0) == (0:Int))
 (some (.val (.bool true)))
 (ifO ((zC x2) == (0:Int))
 (some (.val (.bool ((zC x0) == (zC x3)))))
 (some (.val (.bool false)))))
 (ifO ((zC x2) == (0:Int))
 (some (.val (.bool ((zC x0) == (zC x3)))))
 (some (.val (.bool false)))))
 (some (.val (.bool false))))
 (none) :=
 (zM (f:=42) (by kernel_rfl) (by kernel_rfl) (by kernel_rfl) [x0,x1,x2,x3]).trans (by kernel_rfl)
def S238_0a(v0:List DV)(v1 v2:Int):St :=
 zr 18 [(0,(.d (.sl 1 v0))),(3,(.d (eI v1))),(4,(.d (eI v2)))] []
noncomputable def L238_0a(v0:List DV)(v1 v2:Int):Option CR:=goQ 238 0 (S238_0a v0 v1 v2)
theorem L238_0a_eq(v0:List DV)(v1 v2:Int):L238_0a v0 v1 v2 =
 ifO (decide (v2<(((Aa v0):Nat):Int)))
 (ifO (decide (((0:Int)<=v2)/\(v2<(((Aa v0):Nat):Int))))
 (ifO (zF EE 6 3 (nth v0 (Ac v2)))
 ((L238_0a v0 (Ab .i64 (v1+(zC (nth v0 (Ac v2))))) (Ab .i64 (v2+(1:Int)))))
 (none))
 (none))
 (some (.val (eI v1))) :=
 (zb 238 0 _).trans (by kernel_rfl)
theorem C238(x0:DV):zB 238 [x0] =
 ifO (zV (zF EE 6) [25] [x0])
 ((L238_0a (elems x0) (0:Int) (0:Int)))
 (none) :=
 (zM (f:=238) (by kernel_rfl) (by kernel_rfl) (by kernel_rfl) [x0]).trans (by kernel_rfl)
end Go.Am
namespace Go.Am
open Go.Proofs
open Go
variable[OO]
@[simp] theorem c37(n a b:Int):zB 37 [eI n,eI a,eI b]=some (.val (eI (zf n a b))):=by rw[C37];simp[zP,zf];by_cases h:n<a <;> by_cases h':n>b <;> simp[h,h']
end Go.Am
namespace Go.Am
open Go.Proofs
open Go
variable[OO]
theorem l35(l:List Int)(hl:l.length<=4611686018427387904):∀i,i<=l.length->L35_0a (l.map eI) i=some (.val (eI (zT (l.drop i)))):=by
 apply down
 ·rw[L35_0a_eq];simp[zT]
 ·intro i hi ih;rw[L35_0a_eq,za l i hi];have e1:(i:Int)<l.length:=by omega
  simp[e1,zO _ l i hi,zz,zT,wr (i+1) (by omega)]
  split
  ·exact_mod_cast ih
  ·rfl
@[simp] theorem c35(l:List Int)(hl:l.length<=4611686018427387904):zB 35 [.sl 1 (l.map eI)]=some (.val (eI (zT l))):=by rw[C35];simpa using l35 l hl 0 (Ak _)
@[simp] theorem c35_2(a b:Int):zB 35 [.sl 1 [eI a,eI b]]=some (.val (eI (zT [a,b]))):=c35 [a,b] (by simp)
@[simp] theorem c35_4(a b c d:Int):zB 35 [.sl 1 [eI a,eI b,eI c,eI d]]=some (.val (eI (zT [a,b,c,d]))):=c35 [a,b,c,d] (by simp)
theorem ptE_or(p:Pt):ptE p=0\/ptE p=3:=by unfold ptE zT zf;by_cases h1:p.x < -1000\/p.x>1000 <;> by_cases h2:p.y < -1000\/p.y>1000 <;> simp[h1,h2,zT]
@[simp] theorem c164(p:Pt):zB 164 [ePt p]=some (.val (eI (ptE p))):=by rw[C164];simp[ptE]
theorem memB_cons(n k:ByteArray)(ks:List ByteArray):YB n (k :: ks)=(decide (n=k) || YB n ks):=rfl
theorem apart_comm(a b:Pt):jQ a b=jQ b a:=by
 have e:∀x y:Int,(x - y) * (x - y)=(y - x) * (y - x):=λx y=>by rw[show x - y=-(y - x) by omega,Int.neg_mul_neg]
 unfold jQ;rw[e a.x b.x,e a.y b.y]
theorem l69_2(s:Si)(i:Nat)(hi:i<s.tb.length)(hl:s.tb.length<=64)(hp:∀o∈s.tb.take i,JP o.at')(ht:JP s.tb[i].at')(h1:1<=s.least)(h2:s.least<=1000) :
  ∀k,k<=i->L69_2a i k s.name s.least (s.tb.map eTb) s.tb[i].name s.tb[i].at'.x s.tb[i].at'.y =
   if ((s.tb.take i).drop k).any (λo=>decide (jQ s.tb[i].at' o.at'<s.least * s.least)) then some (.val (eI 15)) else L69_0a ((i+1:Nat):Int) s.name s.least (s.tb.map eTb):=by
 apply down
 ·rw[L69_2a_eq];simp[wr ((i:Int)+1) (by omega)]
 ·intro k hk ih;have hkl:k<s.tb.length:=by omega
  have hb:=YV s.least 1000 (by omega) h2
  have hkt:k<(s.tb.take i).length:=by simp;omega
  have ha:=hp s.tb[k] (by rw[List.mem_take_iff_getElem];exact⟨k,by omega,rfl⟩)
  have e1:(k:Int)<i:=by omega
  have e2:(k:Int)<s.tb.length:=by omega
  have step:L69_2a i k s.name s.least (s.tb.map eTb) s.tb[i].name s.tb[i].at'.x s.tb[i].at'.y =
    if jQ s.tb[i].at' s.tb[k].at'<s.least * s.least then some (.val (eI 15)) else L69_2a i ((k+1:Nat):Int) s.name s.least (s.tb.map eTb) s.tb[i].name s.tb[i].at'.x s.tb[i].at'.y:=by
   rw[L69_2a_eq];simp only[zP];simp[e1,e2,zO _ s.tb k hkl,c192 s.tb[k].at' s.tb[i].at' ha ht,wr (s.least * s.least) (by omega),wr (k+1) (by omega),apart_comm s.tb[k].at']
   rfl
  rw[step,ih,za _ k hkt,AL,Bf];by_cases hd:jQ s.tb[i].at' s.tb[k].at'<s.least * s.least
  ·rw[if_pos hd,decide_eq_true hd,BH,if_pos rfl]
  ·rw[if_neg hd,decide_eq_false hd,AT]
theorem l69_1(s:Si)(i:Nat)(hi:i<s.tb.length)(hl:s.tb.length<=64) :
  ∀k,k<=i->L69_1a i k s.name s.least (s.tb.map eTb) s.tb[i].name s.tb[i].at'.x s.tb[i].at'.y =
   if YB s.tb[i].name (((s.tb.take i).map (·.name)).drop k) then some (.val (eI 9)) else L69_2a i (0:Nat) s.name s.least (s.tb.map eTb) s.tb[i].name s.tb[i].at'.x s.tb[i].at'.y:=by
 apply down
 ·rw[L69_1a_eq];simp[YB]
 ·intro k hk ih;have hkl:k<s.tb.length:=by omega
  have hkt:k<((s.tb.take i).map (·.name)).length:=by simp;omega
  have e1:(k:Int)<i:=by omega
  have e2:(k:Int)<s.tb.length:=by omega
  have step:L69_1a i k s.name s.least (s.tb.map eTb) s.tb[i].name s.tb[i].at'.x s.tb[i].at'.y =
    if s.tb[i].name=s.tb[k].name then some (.val (eI 9)) else L69_1a i ((k+1:Nat):Int) s.name s.least (s.tb.map eTb) s.tb[i].name s.tb[i].at'.x s.tb[i].at'.y:=by
   rw[L69_1a_eq];simp only[Jg,zP];simp[e1,e2,zO _ s.tb k hkl,wr (k+1) (by omega),eq_comm (a:=s.tb[k].name)]
  rw[step,ih,za _ k hkt,memB_cons];simp only[AG,Bf];by_cases hd:s.tb[i].name=s.tb[k].name
  ·rw[if_pos hd,decide_eq_true hd,BH,if_pos rfl]
  ·rw[if_neg hd,decide_eq_false hd,AT]
theorem l69_0(s:Si)(hl:s.tb.length<=64)(h1:1<=s.least)(h2:s.least<=1000) :
  ∀i,i<=s.tb.length->(∀o∈s.tb.take i,JP o.at')->L69_0a i s.name s.least (s.tb.map eTb)=some (.val (eI (jY s.least (s.tb.take i) (s.tb.drop i)))):=by
 apply down (P:=λi=>(∀o∈s.tb.take i,JP o.at')->L69_0a i s.name s.least (s.tb.map eTb)=some (.val (eI (jY s.least (s.tb.take i) (s.tb.drop i)))))
 ·intro _;rw[L69_0a_eq];simp[jY]
 ·intro i hi ih hp;have e1:(i:Int)<s.tb.length:=by omega
  have htk:s.tb.take (i+1)=s.tb.take i++[s.tb[i]]:=by rw[Al hi]
  rw[za s.tb i hi,jY];rw[htk] at ih;have step:L69_0a i s.name s.least (s.tb.map eTb) =
    if jJ s.tb[i].name=true then (if ptE s.tb[i].at'=0 then L69_1a i (0:Nat) s.name s.least (s.tb.map eTb) s.tb[i].name s.tb[i].at'.x s.tb[i].at'.y else some (.val (eI 3))) else some (.val (eI 8)):=by
   rw[L69_0a_eq];simp only[zP,zz];simp[e1,zO _ s.tb i hi,c130];cases jJ s.tb[i].name
   ·simp
   ·simp only[Bl,zU,if_true];rfl
  rw[step];cases hn:jJ s.tb[i].name with
  | false=>simp[zT]
  | true =>
   by_cases hq:ptE s.tb[i].at'=0
   ·have ht:JP s.tb[i].at':=(zDs _).1 hq;simp only[if_true,hq];rw[l69_1 s i hi hl 0 (Ak _),Aj];cases hm:YB s.tb[i].name ((s.tb.take i).map (·.name)) with
    | true=>simp[zT]
    | false =>
     simp only[Bb,if_false,zT,if_true,ne_eq,not_true_eq_false];rw[l69_2 s i hi hl hp ht h1 h2 0 (Ak _),Aj];split
     ·rfl
     ·refine ih λo ho=>?_
      rcases AM.1 ho with ho | ho
      ·exact hp o ho
      ·rw[AQ.1 ho];exact ht
   ·rcases ptE_or s.tb[i].at' with h | h
    ·exact absurd h hq
    ·simp[h,zT]
theorem c69(s:Si):zB 69 [eSi s]=some (.val (eI (jM s))):=by
 rw[C69];simp only[zz,zP];simp[jM,c130];cases hn:jJ s.name with
 | false=>simp[zT]
 | true =>
  by_cases hr:zf s.least 1 1000=0
  ·by_cases hl:(64:Int)<s.tb.length
   ·simp[hr,hl,zT]
   ·have h0:zT [if jJ s.name then 0 else 8,zf s.least 1 1000,if (64:Int)<s.tb.length then 5 else 0]=0:=by simp[zT,hn,hr,hl]
    obtain⟨_,h1,h2,h3⟩:=qi h0;have:=l69_0 s h3 h1 h2 0 (Ak _) (by simp)
    simpa[hr,hl,zT] using this
  ·have hr3:zf s.least 1 1000=3:=by unfold zf at hr ⊢;split at hr <;> simp_all
   simp[hr3,zT]
end Go.Am
namespace Go.Am
open Go.Proofs
open Go
variable[OO]
theorem l193(l:List ByteArray)(n:ByteArray)(hl:l.length<=1000):∀i,i<=l.length->L193_0a (l.map .str) n i=some (.val (.bool (YB n (l.drop i)))):=by
 apply down
 ·rw[L193_0a_eq];simp[YB]
 ·intro i hi ih;have e1:(i:Int)<l.length:=by omega
  rw[L193_0a_eq,za l i hi,memB_cons];simp only[Jg,zP,wr ((i:Int)+1) (by omega)]
  by_cases h:l[i]=n
  ·simp[e1,zO _ l i hi,h]
  ·have h':¬n=l[i]:=λe=>h e.symm
   simp only[decide_eq_false h',AT];simp[e1,zO _ l i hi,h]
   exact_mod_cast ih
theorem c193(l:List ByteArray)(n:ByteArray)(hl:l.length<=1000):zB 193 [.sl 1 (l.map .str),.str n]=some (.val (.bool (YB n l))):=by rw[C193];simpa using l193 l n hl 0 (Ak _)
theorem l71_1(d w:List Int)(nm:ByteArray)(hl:w.length<=1000):∀i,i<=w.length->L71_1a i nm (d.map eI) (w.map eI)=some (.val (eI (jt 100 true (z6 w i) (w.drop i)))):=by
 apply down
 ·rw[L71_1a_eq];simp[jt]
 ·intro i hi ih;have e1:(i:Int)<w.length:=by omega
  rw[za w i hi,jt];rw[YH w i hi] at ih;have step:L71_1a i nm (d.map eI) (w.map eI)=if jV 100 true (z6 w i) w[i]=0 then L71_1a ((i+1:Nat):Int) nm (d.map eI) (w.map eI) else some (.val (eI (jV 100 true (z6 w i) w[i]))):=by
   rw[L71_1a_eq];simp only[zP,zz];by_cases hr:zf w[i] 0 100=0
   ·cases i with
    | zero =>
     simp[e1,hi,zO _ w 0 hi,z6,jV,wr 1 (by omega),hr,zT]
    | succ j =>
     have hj:j<w.length:=by omega
     have e2:(((j+1:Nat):Int) - 1)=(j:Int):=by omega
     have e3:(j:Int)<w.length:=by omega
     have e4:((j+1:Nat):Int)>0:=by omega
     have e5:((j+1:Nat):Int)<w.length:=by omega
     have e6:(0:Int)<=((j+1:Nat):Int):=by omega
     rw[e2,wr (j:Int) (by omega)]
     rw[wr (((j+1:Nat):Int)+1) (by omega)]
     simp only[e4,e5,e6,e3,Bz,and_self,if_true,Ae,zO _ w (j+1) hi,zO _ w j hj];have e7:(j:Int)+1<w.length:=by omega
     by_cases hc:w[j+1]<w[j]
     ·simp[jV,z6,hj,e7,hc,hr,zT]
     ·simp[jV,z6,hj,e7,hc,hr,zT]
   ·have hs:jV 100 true (z6 w i) w[i]=zf w[i] 0 100:=by unfold jV;rw[zT,if_neg hr]
    simp[e1,hi,zO _ w i hi,hs,hr]
  rw[step,ih];split <;> rfl
theorem l71_0(d w:List Int)(nm:ByteArray)(hl:d.length<=1000):∀i,i<=d.length->L71_0a i nm (d.map eI) (w.map eI)=if jt 256 false (z6 d i) (d.drop i)=0 then L71_1a (0:Nat) nm (d.map eI) (w.map eI) else some (.val (eI (jt 256 false (z6 d i) (d.drop i)))):=by
 apply down
 ·rw[L71_0a_eq];simp[jt]
 ·intro i hi ih;have e1:(i:Int)<d.length:=by omega
  rw[za d i hi,jt];rw[YH d i hi] at ih;have step:L71_0a i nm (d.map eI) (w.map eI)=if jV 256 false (z6 d i) d[i]=0 then L71_0a ((i+1:Nat):Int) nm (d.map eI) (w.map eI) else some (.val (eI (jV 256 false (z6 d i) d[i]))):=by
   rw[L71_0a_eq];simp only[zP,zz];by_cases hr:zf d[i] 0 256=0
   ·cases i with
    | zero =>
     simp[e1,hi,zO _ d 0 hi,z6,jV,wr 1 (by omega),hr,zT]
    | succ j =>
     have hj:j<d.length:=by omega
     have e2:(((j+1:Nat):Int) - 1)=(j:Int):=by omega
     have e3:(j:Int)<d.length:=by omega
     have e4:((j+1:Nat):Int)>0:=by omega
     have e5:((j+1:Nat):Int)<d.length:=by omega
     have e6:(0:Int)<=((j+1:Nat):Int):=by omega
     rw[e2,wr (j:Int) (by omega)]
     rw[wr (((j+1:Nat):Int)+1) (by omega)]
     simp only[e4,e5,e6,e3,Bz,and_self,if_true,Ae,zO _ d (j+1) hi,zO _ d j hj];have e7:(j:Int)+1<d.length:=by omega
     by_cases hc:d[j+1]>d[j]
     ·simp[jV,z6,hj,e7,hc,hr,zT]
     ·simp[jV,z6,hj,e7,hc,hr,zT]
   ·have hs:jV 256 false (z6 d i) d[i]=zf d[i] 0 256:=by unfold jV;rw[zT,if_neg hr]
    simp[e1,hi,zO _ d i hi,hs,hr]
  rw[step];by_cases h:jV 256 false (z6 d i) d[i]=0
  ·rw[if_pos h,if_pos h,ih]
  ·rw[if_neg h,if_neg h,if_neg h]
theorem c71(w:Wk):zB 71 [eWk w]=some (.val (eI (wakeE w))):=by
 have key:wakeH w=0->L71_0a 0 w.rule (w.d.map eI) (w.w.map eI)=some (.val (eI (if jt 256 false none w.d=0 then jt 100 true none w.w else jt 256 false none w.d))):=by
  intro h;obtain⟨_,_,h3,h4⟩:=wakeH_facts h;have a:=l71_0 w.d w.w w.rule (by omega) 0 (Ak _)
  have b:=l71_1 w.d w.w w.rule (by omega) 0 (Ak _)
  simp only[z6,if_true,Aj,BD] at a b;rw[a,b];split <;> rfl
 have h193:zB 193 [.sl 1 [.str rG,.str rS,.str rM],.str w.rule]=some (.val (.bool (ji w.rule))):=c193 [rG,rS,rM] w.rule (by simp)
 have fin:(if wakeH w=0 then L71_0a 0 w.rule (w.d.map eI) (w.w.map eI) else some (.val (eI (wakeH w))))=some (.val (eI (wakeE w))):=by
  unfold wakeE;by_cases h:wakeH w=0
  ·rw[if_pos h,if_pos h,key h]
  ·rw[if_neg h,if_neg h]
 rw[<-fin,C71,C92];simp only[zz,zP,JY];simp[h193];cases hk:ji w.rule with
 | false=>simp[wakeH,hk,zT]
 | true =>
  by_cases h1:w.d=[]
  ·simp[wakeH,hk,zT,h1]
  ·by_cases h2:(32:Int)<w.d.length
   ·simp[wakeH,hk,zT,h1,h2]
   ·by_cases h3:(w.w.length:Int)=w.d.length
    ·simp[wakeH,hk,zT,h1,h2,h3]
    ·simp[wakeH,hk,zT,h1,h2,h3]
end Go.Am
namespace Go.Am
open Go.Proofs
open Go
variable[OO]
theorem c194(n:Int)(h0:0<=n)(h7:n<=7):zB 194 [eI n]=some (.val (ePt (zY n))):=by
 rcases zC1 h0 h7 with rfl | rfl | rfl | rfl | rfl | rfl | rfl | rfl <;> (rw[C194];simp[zY,nth])
theorem c195(p:Pt)(n:Int)(h0:0<=n)(h7:n<=7)(k:Int)(hk:k<=1000000)(hx:-k<=p.x)(hx':p.x<=k)(hy:-k<=p.y)(hy':p.y<=k):zB 195 [ePt p,eI n]=some (.val (eI (zBb p (zY n)))):=by
 obtain⟨s1,s2,s3,s4⟩:=YG n;have h1:=jX p.x (zY n).x k hx hx' s1 s2;have h2:=jX p.y (zY n).y k hy hy' s3 s4;rw[C195];simp[c194 n h0 h7];rw[wr (p.x * (zY n).x) (by omega),wr (p.y * (zY n).y) (by omega),wr _ (by omega)]
 rfl
theorem c196(n:Int)(h:-1000000<=n)(h':n<=1000000):zB 196 [eI n]=some (.val (eI (Int.fdiv n 2))):=by
 have e:Int.fdiv n 2=n / 2:=Int.fdiv_eq_ediv_of_nonneg n (by omega)
 have t:Av n 2=if n<0 then -((-n) / 2) else n / 2:=by
  split
  ·have:=Int.neg_tdiv (a:=-n) (b:=2);rw[Int.neg_neg] at this;rw[this,AR (by omega)]
  ·rw[AR (by omega)]
 have m:Bt n 2=n - 2 * Av n 2:=by have:=Int.tmod_add_mul_tdiv n 2;omega
 rw[C196,e];simp only[zP,zz];simp only[zK,h3,zN,Af,zD,zI];simp only[m,t];by_cases hn:n<0
 ·simp only[hn,if_true,wr (-(-n / 2)) (by omega),wr (-(-n / 2) - 1) (by omega)]
  split
  ·congr 3;omega
  ·congr 3;omega
 ·simp only[hn,if_false,wr (n / 2) (by omega)]
theorem c197(n:Int)(h:-1000000<=n)(h':n<=1000000):zB 197 [eI n]=some (.val (eI (if 0 - n>n then 0 - n else n))):=by rw[C197];simp only[zK,h3,zN,Af,zD,zI];simp only[wr (0 - n) (by omega)]
theorem c72(a b:Pt)(n:Int)(h0:0<=n)(h7:n<=7)(ha:JP a)(hb:JP b):zB 72 [ePt a,ePt b,eI n]=some (.val (.tup [eI (Y8 n (zY n) a b).1,eI (Y8 n (zY n) a b).2])):=by
 obtain⟨a1,a2,a3,a4⟩:=ha;obtain⟨b1,b2,b3,b4⟩:=hb;have hal:=c195 ⟨b.x - a.x,b.y - a.y⟩ n h0 h7 2000 (by omega) (by simp;omega) (by simp;omega) (by simp;omega) (by simp;omega)
 obtain⟨s1,s2,s3,s4⟩:=YG n;have h1:=jX (b.x - a.x) (zY n).y 2000 (by omega) (by omega) s3 s4
 have h2:=jX (b.y - a.y) (zY n).x 2000 (by omega) (by omega) s1 s2
 have h5:=jX (b.x - a.x) (zY n).x 2000 (by omega) (by omega) s1 s2
 have h6:=jX (b.y - a.y) (zY n).y 2000 (by omega) (by omega) s3 s4
 have hab:=c197 ((b.x - a.x) * (zY n).y - (b.y - a.y) * (zY n).x) (by omega) (by omega)
 have hha:=c196 ((b.x - a.x) * (zY n).x+(b.y - a.y) * (zY n).y) (by omega) (by omega)
 rw[C72];simp only[zK,h3,h141,zN,Af,zD,zQ,zS,zW,zI,c194 n h0 h7,zJ];simp only[wr (b.x - a.x) (by omega),wr (b.y - a.y) (by omega),wr ((b.x - a.x) * (zY n).y) (by omega),wr ((b.y - a.y) * (zY n).x) (by omega),wr ((b.x - a.x) * (zY n).y - (b.y - a.y) * (zY n).x) (by omega)]
 simp only[hal,zJ,h3,zD,zI,JY,hab,zBb,hha,Y8,relI];by_cases h:Bt n 2=1
 ·simp only[h,if_true]
 ·simp only[h,if_false]
theorem c73(w:Wk)(s o:Int)(hl:w.w.length=w.d.length)(hd:w.d.length<=1000):zB 73 [eWk w,eI s,eI o]=some (.val (eI (zBz w.d w.w s o))):=by
 rw[C73];simp only[zP];by_cases h1:s<1
 ·simp[h1,zBz]
 ·by_cases h2:s>w.d.length
  ·simp[h1,h2,zBz]
  ·obtain⟨k,rfl⟩:∃k:Nat,s=(k:Int)+1:=⟨(s - 1).toNat,by omega⟩
   have hk:k<w.d.length:=by omega
   have hk':k<w.w.length:=by omega
   have e1:((k:Int)+1 - 1)=k:=by omega
   have e2:(k:Int)<w.d.length:=by omega
   have e3:(k:Int)<w.w.length:=by omega
   simp only[zBz,e1,Ae];simp[h1,h2,e2,e3,wr (k:Int) (by omega),zO _ w.d k hk,zO _ w.w k hk',hk,hk']
   by_cases h4:o>w.w[k]
   ·simp[h4]
   ·simp[h4]
end Go.Am
namespace Go.Am
open Go.Proofs
open Go
variable[OO]
def listB(l:List Int)(e bad:Int)(want:List Int):Bool:=if e=bad then (if bad=0 then decide (l=want) else decide (l=[])) else false
def numB(n e bad want:Int):Bool:=if e=bad then (if bad=0 then decide (n=want) else decide (n=0)) else false
theorem c42(n e bad want:Int):zB 42 [eI n,eI e,eI bad,eI want]=some (.val (.bool (numB n e bad want))):=by
 rw[C42];simp only[zz,JY];by_cases h1:e=bad
 ·by_cases h2:bad=0
  ·by_cases h4:n=want
   ·simp[h1,h2,numB,h4]
   ·simp[h1,h2,numB,h4]
  ·by_cases h3:n=0
   ·simp[h1,h2,numB,h3]
   ·simp[h1,h2,numB,h3]
 ·simp[h1,numB]
theorem c56(l:List Int)(hb:l.length<=1000000):zB 56 [.sl 1 (l.map eI)]=some (.val (.sl 1 (l.map eI))):=by
 rw[C56];simp only[zP];have h1:(2 * l.length+200) * 8<=281474976710656:=by omega
 cases l with
 | nil=>simp
 | cons a l =>
  simp only[Aq] at h1;simp[h1];exact Ah (by simp)
theorem c67(w:Wk)(h1:w.d.length<=1000000)(h2:w.w.length<=1000000):zB 67 [eWk w]=some (.val (eWk w)):=by rw[C67];simp[c56 w.d h1,c56 w.w h2]
theorem c107(c:Cu)(h1:c.p.length<=1000000):zB 107 [eCu c]=some (.val (eCu c)):=by rw[C107];simp[c56 c.p h1]
def short33(n:Nat):Bool:=decide ((n:Int)<=6) || ((n:Int) == 33)
def shortW(w:Wk):Bool:=decide ((w.rule.size:Int)<=40) && short33 w.d.length && short33 w.w.length
theorem c63(w:Wk):zB 63 [eWk w]=some (.val (.bool (shortW w))):=by
 rw[C63];simp only[zP,JY];unfold shortW short33;by_cases h1:(w.rule.size:Int)<=40
 ·by_cases h2:(w.d.length:Int)<=6
  ·by_cases h3:(w.w.length:Int)<=6
   ·simp[h1,h2,h3]
   ·simp[h1,h2,h3]
  ·by_cases h4:(w.d.length:Int)=33
   ·by_cases h3:(w.w.length:Int)<=6
    ·simp[h1,h2,h3,h4]
    ·simp[h1,h2,h3,h4]
   ·simp[h1,h2,h4]
 ·simp[h1]
end Go.Am
namespace Go.Am
open Go.Proofs
open Go
variable[OO]
theorem short33_le{n:Nat}(h:short33 n=true):n<=33:=by simp[short33] at h;omega
end Go.Am
namespace Go.Am
open Go.Proofs
open Go
variable[OO]
theorem l238(l:List Int)(hl:l.length<=100000)(hb:∀x∈l,0<=x/\x<=100000000):∀i,i<=l.length->∀n:Int,0<=n->n<=i * 100000000->L238_0a (l.map eI) n i=some (.val (eI (n+jZ (l.drop i)))):=by
 apply down (P:=λi=>∀n:Int,0<=n->n<=i * 100000000->L238_0a (l.map eI) n i=some (.val (eI (n+jZ (l.drop i)))))
 ·intro n _ _;rw[L238_0a_eq];simp[jZ]
 ·intro i hi ih n h0 h1;have e1:(i:Int)<l.length:=by omega
  have hx:=hb l[i] (Ag hi);have ih':=ih (n+l[i]) (by omega) (by omega)
  rw[L238_0a_eq,za l i hi];simp only[zP];simp[e1,zO _ l i hi,wr ((i:Int)+1) (by omega),wr (n+l[i]) (by omega),jZ]
  rw[show((i:Int)+1)=((i+1:Nat):Int) by omega,ih']
  simp;omega
theorem c238(l:List Int)(hl:l.length<=100000)(hb:∀x∈l,0<=x/\x<=100000000):zB 238 [.sl 1 (l.map eI)]=some (.val (eI (jZ l))):=by rw[C238];simpa using l238 l hl hb 0 (Ak _) 0 (by omega) (by omega)
theorem rS_ne_rM:¬rS=rM:=by decide
theorem rG_ne_rM:¬rG=rM:=by decide
theorem rG_ne_rS:¬rG=rS:=by decide
end Go.Am
namespace Go.Am
open Go.Proofs
open Go
variable[OO]
theorem l110(l:List Int)(cut:Int)(hl:l.length<=1000):∀i,i<=l.length->L110_0a i (l.map eI) cut=some (.val (eI (Jl cut (if i=0 then none else some (l.getD (i - 1) 0)) (l.drop i)))):=by
 apply down
 ·rw[L110_0a_eq];simp[Jl]
 ·intro i hi ih;have e1:(i:Int)<l.length:=by omega
  have hgi:l.getD i 0=l[i]:=by rw[Au,Ax hi];rfl
  rw[if_neg (by omega:¬i+1=0),By,hgi] at ih
  have ih2:L110_0a (Ay.wrap ((i:Int)+1)) (l.map eI) cut=some (.val (eI (Jl cut (some l[i]) (l.drop (i+1))))):=by rw[wr ((i:Int)+1) (by omega)];exact_mod_cast ih
  rw[L110_0a_eq,za l i hi];have hn:=zO eI l i hi;have e7:(0:Int)<=(i:Int):=by omega
  simp only[zP,JY,zz];simp only[Ad,e1,e7,if_true,and_self,Ae,hn,h3,ih2,zD,c37,zJ];by_cases hz:i=0
  ·subst hz;simp only[BD,gt_iff_lt,An,if_false,if_true];rw[Jl];by_cases hX:zf l[0] 0 100000=0
   ·refine(if_pos hX).trans ?_;by_cases h6:l[0]=0
    ·refine(if_pos h6).trans ?_;have e:jc none l[0]=0:=by rw[h6] at hX;simp[jc,zT,hX,h6]
     rw[if_pos e]
    ·refine(if_neg h6).trans ?_;have e:jc none l[0]=6:=by simp[jc,zT,hX,h6]
     rw[e];rfl
   ·refine(if_neg hX).trans ?_;have e:jc none l[0]=zf l[0] 0 100000:=by simp[jc,zT,hX]
    rw[e,if_neg hX];rfl
  ·obtain⟨k,rfl⟩:∃k,i=k+1:=⟨i - 1,by omega⟩
   have hk:k<l.length:=by omega
   have hgk:l.getD k 0=l[k]:=by rw[Au,Ax hk];rfl
   have hnk:=zO eI l k hk;have e3:Ay.wrap (((k+1:Nat):Int) - 1)=k:=by rw[wr _ (by omega)];omega
   have e5:((k+1:Nat):Int)>0:=by omega
   have e6:¬((k+1:Nat):Int)=0:=by omega
   have e8:(0:Int)<=(k:Int)/\(k:Int)<l.length:=by omega
   simp only[e3,e5,e6,e8,if_true,if_false,and_self,Ae,hnk,h3,zD];rw[Jl];simp only[By,hgk,Nat.add_eq_zero_iff,Nat.one_ne_zero,and_false,if_false];by_cases hX:zf l[k+1] 0 100000=0
   ·refine(if_pos hX).trans ?_;by_cases h6:l[k+1]<l[k]
    ·refine(if_pos h6).trans ?_;have e:jc (some l[k]) l[k+1]=11:=by simp[jc,zT,hX,h6]
     rw[e];rfl
    ·refine(if_neg h6).trans ?_;rw[if_pos (by simp[jc,zT,hX,h6])]
   ·refine(if_neg hX).trans ?_;have e:jc (some l[k]) l[k+1]=zf l[k+1] 0 100000:=by simp[jc,zT,hX]
    rw[e,if_neg hX];rfl
theorem c110(c:Cu):zB 110 [eCu c]=some (.val (eI (YK c))):=by
 rw[C110];simp only[zP];simp only[zK,zN,h29,Af,zD,zQ,zS,zW,zR,zI,Ad];unfold YK;by_cases h1:(c.p.length:Int)<2
 ·simp[h1]
 ·by_cases h2:(c.p.length:Int)>51
  ·simp[h1,h2]
  ·rw[if_neg h1,if_neg h2,if_neg h1,if_neg h2,<-zBA];have:=l110 c.p c.cut (by omega) 0 (Ak _)
   simpa using this
theorem l129_1(r:List (List Int))(s:Nat)(hs:s<r.length)(h8:r.length=8)(hrow:r[s].length=51):∀k,k<=r[s].length->L129_1a s k (r.map jC)=if J5 (r[s].drop k)=0 then L129_0a (Ay.wrap ((s:Int)+1)) (r.map jC) else some (.val (eI 3)):=by
 apply down
 ·rw[L129_1a_eq];simp only[zP];rw[if_neg (by omega)]
  simp[J5]
 ·intro k hk ih;have e1:(k:Int)<=50:=by omega
  have e2:(0:Int)<=(s:Int)/\(s:Int)<8:=by omega
  have e3:(0:Int)<=(k:Int)/\(k:Int)<51:=by omega
  rw[L129_1a_eq,za r[s] k hk];simp only[zP,zz];rw[if_pos e1,if_pos e2,if_pos e3];simp only[Ae,js _ _ _ _ hs,zD,zO _ r s hs,js _ _ _ _ hk,zQ,zO _ r[s] k hk,h3,zI,c37,zJ];rw[wr ((k:Int)+1) (by omega),show((k:Int)+1)=((k+1:Nat):Int) by omega,ih]
  rw[Q0];rcases zCV r[s][k] 0 40000 with hr | hr
  ·simp[hr]
  ·simp[hr]
theorem l129_0(r:List (List Int))(h:zu r):∀s,s<=r.length->L129_0a s (r.map jC)=some (.val (eI (qj (r.drop s)))):=by
 apply down
 ·rw[L129_0a_eq];have:=h.1;simp only[zP];rw[if_neg (by omega)]
  simp[qj]
 ·intro s hs ih;have hl:=h.1;have hrow:=h.2 r[s] (Ag hs);have e1:(s:Int)<8:=by omega
  rw[L129_0a_eq,za r s hs];simp only[zP];rw[if_pos e1];have:=l129_1 r s hs hl hrow 0 (Ak _);rw[show((0:Nat):Int)=0 from rfl] at this
  rw[this,wr ((s:Int)+1) (by omega),show((s:Int)+1)=((s+1:Nat):Int) by omega,ih,Aj]
  rw[zBl];split <;> simp_all
theorem c129(r:List (List Int))(h:zu r):zB 129 [eRo r]=some (.val (eI (qj r))):=by rw[C129];simp only[zK,zN,h32,Ad,h.1,decide_true,Af,zD,zQ];have:=l129_0 r h 0 (Ak _);simpa using this
theorem hFm'(f:Fm)(h:zu f.r):zF EE 6 34 (eFm f)=true:=by rw[h34];simp[h.1]
end Go.Am
namespace Go.Am
open Go.Proofs
open Go
variable[OO]
def fillR(row:List Int)(k:Nat):List Int:=row.take k++Ai (row.length - k) 0
theorem fillR_len(row:List Int)(k:Nat)(h:k<=row.length):(fillR row k).length=row.length:=by simp[fillR];omega
theorem fillR_zero(row:List Int):fillR row 0=Ai row.length 0:=by simp[fillR]
theorem fillR_end(row:List Int):fillR row row.length=row:=by simp[fillR]
theorem fillR_set(row:List Int)(k:Nat)(h:k<row.length):(fillR row k).set k row[k]=fillR row (k+1):=by
 unfold fillR;rw[A0 _ _ (by simp;omega)]
 have e1:row.length - k=(row.length - (k+1))+1:=by omega
 have e2:k - (Ar k row).length=0:=by simp;omega
 rw[e1,e2,A7,A8,Al h,Ao];rfl
theorem fillR_skip(row:List Int)(k:Nat)(h:k<row.length)(h0:row[k]=0):fillR row (k+1)=fillR row k:=by
 unfold fillR;have e1:row.length - k=(row.length - (k+1))+1:=by omega
 rw[e1,A7,Al h,Ao,h0];rfl
theorem ptAt'(s:Si)(i:Nat)(h:i<s.tb.length):(zo s).getD i default=s.tb[i].at':=by rw[Au];simp[zo,h]
theorem rowP'_get(w:Wk)(s:Si)(sec:Int)(st:Pt)(j i:Nat)(hi:i<(jk w (zo s) sec st j).length):(jk w (zo s) sec st j)[i]=if i=j then 0 else zGV w sec st ((zo s).getD i default) ((zo s).getD j default):=by simp[jk]
theorem rowP'_len(w:Wk)(s:Si)(sec:Int)(st:Pt)(j:Nat):(jk w (zo s) sec st j).length=s.tb.length:=by simp[jk,zo]
section
variable{s:Si}{w:Wk}{sec:Int}(h:SiteOK s w sec)
include h
theorem l79_1b(V:List DV)(hV:V.length<=1000)(j:Nat)(hj:j<s.tb.length):∀k,k<=(jk w (zo s) sec (zY sec) j).length ->
  L79_1b sec V j (Ai s.tb.length (eI 0)) k s.name s.least (s.tb.map eTb) w.rule (w.d.map eI) (w.w.map eI) ((fillR (jk w (zo s) sec (zY sec) j) k).map eI) =
   L79_0b sec (V++[.sl 1 ((jk w (zo s) sec (zY sec) j).map eI)]) ((j+1:Nat):Int) s.name s.least (s.tb.map eTb) w.rule (w.d.map eI) (w.w.map eI):=by
 have hlen:=rowP'_len w s sec (zY sec) j;generalize hrow:jk w (zo s) sec (zY sec) j=row at hlen ⊢;have hl:=h.l;apply down
 ·rw[L79_1b_eq,fillR_end];simp only[zP];have e:(2 * (V.length+1)+200) * 24<=281474976710656:=by omega
  simp[hlen,e,wr ((j:Int)+1) (by omega)]
  rw[Ah (by simp;omega)]
 ·intro k hk ih;have hk':k<s.tb.length:=by omega
  have hrk:row[k]=if k=j then 0 else zGV w sec (zY sec) ((zo s).getD k default) ((zo s).getD j default):=by subst hrow;exact rowP'_get w s sec (zY sec) j k hk
  have e1:(k:Int)<s.tb.length:=by omega
  have e2:(j:Int)<s.tb.length:=by omega
  rw[L79_1b_eq,<-ih];simp only[zP,zz];by_cases hkj:k=j
  ·rw[if_pos hkj] at hrk;rw[fillR_skip row k hk hrk];subst hkj;simp[e1,wr ((k:Int)+1) (by omega)]
  ·rw[if_neg hkj,ptAt' s k hk',ptAt' s j hj] at hrk;have hne:¬((k:Int)=(j:Int)):=by omega
   have c1:=c72 s.tb[k].at' s.tb[j].at' sec h.s.1 h.s.2 (h.p _ (Ag hk')) (h.p _ (Ag hj));have c2:=c73 w (Y8 sec (zY sec) s.tb[k].at' s.tb[j].at').1 (Y8 sec (zY sec) s.tb[k].at' s.tb[j].at').2 h.w.2.1 (by have:=h.w.2.2;omega)
   have hset:=fillR_set row k hk;have hfl:=fillR_len row k (by omega)
   rw[hrk] at hset;simp only[zGV] at hset;have e3:k<(AI eI (fillR row k)).length:=by simp[hfl];omega
   simp[e1,e2,hne,zO _ s.tb k hk',zO _ s.tb j hj,c1,c2,wr ((k:Int)+1) (by omega),hfl,hlen,hk']
   rw[<-hset,Be]
theorem l79_1a:∀k,k<=(jk w (zo s) sec (zY sec) 0).length->0<s.tb.length ->
  L79_1a sec (Ai s.tb.length (eI 0)) k s.name s.least (s.tb.map eTb) w.rule (w.d.map eI) (w.w.map eI) ((fillR (jk w (zo s) sec (zY sec) 0) k).map eI) =
   L79_0b sec [.sl 1 ((jk w (zo s) sec (zY sec) 0).map eI)] 1 s.name s.least (s.tb.map eTb) w.rule (w.d.map eI) (w.w.map eI):=by
 have hlen:=rowP'_len w s sec (zY sec) 0;generalize hrow:jk w (zo s) sec (zY sec) 0=row at hlen ⊢;have hl:=h.l;apply down (P:=λk=>0<s.tb.length->L79_1a sec (Ai s.tb.length (eI 0)) k s.name s.least (s.tb.map eTb) w.rule (w.d.map eI) (w.w.map eI) ((fillR row k).map eI) =
   L79_0b sec [.sl 1 (row.map eI)] 1 s.name s.least (s.tb.map eTb) w.rule (w.d.map eI) (w.w.map eI))
 ·intro _;rw[L79_1a_eq,fillR_end];simp only[zP];simp[hlen];rw[Ah (by simp;omega)]
 ·intro k hk ih h0;have ih:=ih h0;have hk':k<s.tb.length:=by omega
  have hrk:row[k]=if k=0 then 0 else zGV w sec (zY sec) ((zo s).getD k default) ((zo s).getD 0 default):=by subst hrow;exact rowP'_get w s sec (zY sec) 0 k hk
  have e1:(k:Int)<s.tb.length:=by omega
  have e2:(0:Int)<s.tb.length:=by omega
  rw[L79_1a_eq,<-ih];simp only[zP,zz];by_cases hkj:k=0
  ·rw[if_pos hkj] at hrk;rw[fillR_skip row k hk hrk];subst hkj;simp[e2,h0,wr 1 (by omega)]
  ·rw[if_neg hkj,ptAt' s k hk',ptAt' s 0 h0] at hrk;have hne:¬((k:Int)=0):=by omega
   have c1:=c72 s.tb[k].at' s.tb[0].at' sec h.s.1 h.s.2 (h.p _ (Ag hk')) (h.p _ (Ag h0));have c2:=c73 w (Y8 sec (zY sec) s.tb[k].at' s.tb[0].at').1 (Y8 sec (zY sec) s.tb[k].at' s.tb[0].at').2 h.w.2.1 (by have:=h.w.2.2;omega)
   have hset:=fillR_set row k hk;have hfl:=fillR_len row k (by omega)
   rw[hrk] at hset;simp only[zGV] at hset;have e3:k<(AI eI (fillR row k)).length:=by simp[hfl];omega
   simp[e1,e2,hne,hkj,zO _ s.tb k hk',zO _ s.tb 0 h0,c1,c2,wr ((k:Int)+1) (by omega),hfl,hlen,hk',h0]
   rw[<-hset,Be]
theorem l79_0b:∀j,j<=s.tb.length->L79_0b sec (((AP j).map (jk w (zo s) sec (zY sec))).map λr=>.sl 1 (r.map eI)) j s.name s.least (s.tb.map eTb) w.rule (w.d.map eI) (w.w.map eI) =
  some (.val (.sl 1 ((wakesP w (zo s) sec (zY sec)).map λr=>.sl 1 (r.map eI)))):=by
 have hl:=h.l;apply down
 ·rw[L79_0b_eq];simp only[zP];have:=zIU ((AP s.tb.length).map (jk w (zo s) sec (zY sec)));simp only[Ad,An,if_false,At,AC,if_true,Aj];rw[Ah (by simp),this]
  simp[wakesP,zo]
 ·intro j hj ih;have e1:(j:Int)<s.tb.length:=by omega
  have k1:=l79_1b h (((AP j).map (jk w (zo s) sec (zY sec))).map λr=>.sl 1 (r.map eI)) (by simp;omega) j hj 0 (Ak _)
  rw[fillR_zero,rowP'_len,A9,show((0:Nat):Int)=0 from rfl] at k1
  rw[L79_0b_eq];simp only[zP,Ad,Ae,true_and];rw[if_pos e1,if_pos (by omega),k1,<-ih]
  congr 1;rw[List.range_succ];simp
theorem c79:zB 79 [eSi s,eWk w,eI sec]=some (.val (.sl 1 ((wakesP w (zo s) sec (zY sec)).map λr=>.sl 1 (r.map eI)))):=by
 rw[C79];simp only[zK,zN,h24,h27,h3,Af,zD,zQ,zS,zW,zh,zZ,zI,zR];have hl:=h.l;rw[L79_0a_eq];simp only[zP,Ad,Ae,true_and];by_cases h0:s.tb.length=0
 ·rw[if_neg (by omega)]
  simp[wakesP,zo,h0]
 ·have h0':0<s.tb.length:=by omega
  have k1:=l79_1a h 0 (Ak _) h0';rw[fillR_zero,rowP'_len,A9,show((0:Nat):Int)=0 from rfl] at k1
  have k2:=l79_0b h 1 h0';rw[if_pos (by omega),if_pos (by omega),k1]
  simpa using k2
end
theorem beqB(a b:ByteArray):(a.toList == b.toList)=decide (a=b):=Jg a b
theorem l201_1(n:Int)(h0:0<=n)(hn:n<=100000000):∀(k:Nat) (r:Int),0<=r->r * r<=n->n - r<=k->L201_1a n r=some (.val (eI (Yn (qR n)))):=by
 intro k;induction k with
 | zero =>
  intro r h1 h2 h3;have hr:=qk n 0 r h1 h2 (by omega)
  have he:r=qR n:=IsRoot.unique hr (Yd h0);rw[L201_1a_eq];have hlt:=hr.2.2;simp only[zCJ] at hlt;have hr1:r<=10000:=by
   rcases BI 10000 r with hh | hh
   ·have:=JV (a:=10001) (b:=r) (by omega) (by omega);omega
   ·exact hh
  have hs:=JV (a:=r+1) (b:=10001) (by omega) (by omega)
  have hs0:=A6 (a:=r+1) (b:=r+1) (by omega) (by omega)
  simp only[zP];rw[wr (r+1) (by omega),wr ((r+1) * (r+1)) (by omega),if_neg (by omega),<-he]
  unfold Yn;split <;> split <;> first | rfl | (congr 3;omega)
 | succ k ih =>
  intro r h1 h2 h3;have hr1:r<=10000:=by
   rcases BI 10000 r with hh | hh
   ·have:=JV (a:=10001) (b:=r) (by omega) (by omega);omega
   ·exact hh
  have hs:=JV (a:=r+1) (b:=10001) (by omega) (by omega)
  have hs0:=A6 (a:=r+1) (b:=r+1) (by omega) (by omega)
  rw[L201_1a_eq];simp only[zP];rw[wr (r+1) (by omega),wr ((r+1) * (r+1)) (by omega)]
  by_cases hc:(r+1) * (r+1)<=n
  ·rw[if_pos hc];exact ih (r+1) (by omega) hc (by omega)
  ·rw[if_neg hc];have he:r=qR n:=IsRoot.unique ⟨h1,h2,by omega⟩ (Yd h0)
   rw[<-he];unfold Yn;split <;> split <;> first | rfl | (congr 3;omega)
theorem capI_swap(n:Int):(if (256:Int)<n then (256:Int) else n)=Yn n:=by unfold Yn;split <;> split <;> omega
section
variable(l:List Int)(hl:l.length<=64)(hb:∀x∈l,0<=x/\x<=256)
include hl hb
theorem l201_M:∀i,i<=l.length->∀n:Int,0<=n->n<=i * 256->L201_0a rM (l.map eI) n i=some (.val (eI (Yn (n+jZ (l.drop i))))):=by
 apply down (P:=λi=>∀n:Int,0<=n->n<=i * 256->L201_0a rM (l.map eI) n i=some (.val (eI (Yn (n+jZ (l.drop i))))))
 ·intro n _ _;rw[L201_0a_eq];simp only[beqB,zP,Ad,An,if_false];rw[if_neg zFv,capI_swap];simp[jZ]
 ·intro i hi ih n h0 h1;have e1:(i:Int)<l.length:=by omega
  have e0:(0:Int)<=(i:Int):=by omega
  have hx:=hb l[i] (Ag hi);have ih':=ih (n+l[i]) (by omega) (by omega)
  rw[L201_0a_eq,za l i hi];simp only[beqB,zP,Ad,e1,e0,and_self,if_true];simp only[Ae,zO _ l i hi,h3,zD,zI];rw[wr (n+l[i]) (by omega),wr ((i:Int)+1) (by omega),show((i:Int)+1)=((i+1:Nat):Int) by omega,ih',jZ,Ba]
theorem l201_G:∀i,i<=l.length->∀n:Int,L201_0a rG (l.map eI) n i=some (.val (eI (Yn (zB9 n (l.drop i))))):=by
 apply down (P:=λi=>∀n:Int,L201_0a rG (l.map eI) n i=some (.val (eI (Yn (zB9 n (l.drop i))))))
 ·intro n;rw[L201_0a_eq];simp only[beqB,zP,Ad,An,if_false];rw[if_neg rG_ne_rS,capI_swap];simp[zB9]
 ·intro i hi ih n;have e1:(i:Int)<l.length:=by omega
  have e0:(0:Int)<=(i:Int):=by omega
  have ih':=ih (if l[i]>n then l[i] else n)
  rw[L201_0a_eq,za l i hi];simp only[beqB,zP,Ad,e1,e0,and_self,if_true];rw[if_neg rG_ne_rM];simp only[Ae,zO _ l i hi,h3,zD,zI];rw[wr ((i:Int)+1) (by omega),show((i:Int)+1)=((i+1:Nat):Int) by omega,ih',zB9]
theorem l201_S:∀i,i<=l.length->∀n:Int,0<=n->n<=i * 65536->L201_0a rS (l.map eI) n i=some (.val (eI (Yn (qR (n+jZ (sqI (l.drop i))))))):=by
 apply down (P:=λi=>∀n:Int,0<=n->n<=i * 65536->L201_0a rS (l.map eI) n i=some (.val (eI (Yn (qR (n+jZ (sqI (l.drop i))))))))
 ·intro n h0 h1;rw[L201_0a_eq];simp only[beqB,zP,Ad,An,if_false];rw[if_pos trivial,l201_1 n h0 (by omega) n.toNat 0 (by omega) (by omega) (by omega)]
  simp[jZ,sqI]
 ·intro i hi ih n h0 h1;have e1:(i:Int)<l.length:=by omega
  have e0:(0:Int)<=(i:Int):=by omega
  have hx:=hb l[i] (Ag hi);have hs:=JV (a:=l[i]) (b:=256) hx.1 hx.2;have hs0:=A6 hx.1 hx.1;have ih':=ih (n+l[i] * l[i]) (by omega) (by omega)
  rw[L201_0a_eq,za l i hi];simp only[beqB,zP,Ad,e1,e0,and_self,if_true];rw[if_neg rS_ne_rM,if_neg zFu];simp only[Ae,zO _ l i hi,h3,zD,zI];rw[wr (l[i] * l[i]) (by omega),wr (n+l[i] * l[i]) (by omega),wr ((i:Int)+1) (by omega),show((i:Int)+1)=((i+1:Nat):Int) by omega,ih']
  show _=some (CR.val (eI (Yn (qR (n+(l[i] * l[i]+jZ (sqI (l.drop (i+1)))))))));rw[Ba]
theorem c201(rule:ByteArray)(hk:ji rule=true):zB 201 [.str rule,.sl 1 (l.map eI)]=some (.val (eI (Yn (QW rule l)))):=by
 rw[C201];simp only[zK,zN,h9,h25,Af,zD,zZ,zR];unfold QW;by_cases h1:rule=rG
 ·subst h1;have:=l201_G l hl hb 0 (Ak _) 0;rw[if_pos rfl];simpa using this
 ·by_cases h2:rule=rS
  ·subst h2;have:=l201_S l hl hb 0 (Ak _) 0 (by omega) (by omega)
   rw[if_neg h1,if_pos rfl];simpa using this
  ·have h3:rule=rM:=by simpa[ji,YB,h1,h2] using hk
   subst h3;have:=l201_M l hl hb 0 (Ak _) 0 (by omega) (by omega)
   rw[if_neg h1,if_neg h2];simpa using this
end
theorem l80b{s:Si}{w:Wk}{sec:Int}(h:SiteOK s w sec)(hk:ji w.rule=true):∀j,j<=(wakesP w (zo s) sec (zY sec)).length ->
  L80_0b (((wakesP w (zo s) sec (zY sec)).take j).map λl=>eI (Yn (QW w.rule l))) ((wakesP w (zo s) sec (zY sec)).map λr=>.sl 1 (r.map eI)) j w.rule (w.d.map eI) (w.w.map eI) =
   some (.fresh 1 ((JA w (zo s) sec (zY sec)).map eI)):=by
 have hb:=wakesP_bound h.w (zo s) sec (zY sec);have hlen:(wakesP w (zo s) sec (zY sec)).length=s.tb.length:=by simp[wakesP,zo]
 have hpl:(zo s).length=s.tb.length:=jA s;have hl:=h.l;unfold JA;generalize wakesP w (zo s) sec (zY sec)=W at hb hlen ⊢;apply down
 ·rw[L80_0b_eq];simp only[zP,Ad,Bi,Nat.min_self,An,if_false,if_true,Bh];simp
 ·intro j hj ih;have e1:(j:Int)<W.length:=by omega
  have hx:=hb W[j] (Ag hj);have c:=c201 W[j] (by omega) hx.2 w.rule hk
  have hm:min j W.length=j:=by omega
  have e2:(2 * (j+1)+200) * 8<=281474976710656:=by omega
  rw[<-ih,L80_0b_eq];simp only[zP];simp[e1,zO _ W j hj,hm,e2,wr ((j:Int)+1) (by omega),c]
  congr 1;rw[Al (by simpa using hj)]
  simp
theorem c80{s:Si}{w:Wk}{sec:Int}(h:SiteOK s w sec)(hk:ji w.rule=true):zB 80 [eSi s,eWk w,eI sec]=some (qy (JA w (zo s) sec (zY sec))):=by
 rw[C80];simp only[zK,zN,h24,h27,h3,Af,zD,zQ,zS,zW,zh,zZ,zI,zR,c79 h,zJ,h95];rw[L80_0a_eq];have hb:=wakesP_bound h.w (zo s) sec (zY sec);have hlen:(wakesP w (zo s) sec (zY sec)).length=s.tb.length:=by simp[wakesP,zo]
 have hcl:=jw w (zo s) sec (zY sec);rw[jA] at hcl;have hl:=h.l;have hpl:=jA s;simp only[zP,Ad];unfold qy;by_cases h0:s.tb.length=0
 ·rw[if_neg (by omega),if_pos (List.eq_nil_of_length_eq_zero (by omega))]
 ·have h0':0<(wakesP w (zo s) sec (zY sec)).length:=by omega
  have hx:=hb _ (Ag h0');have c:=c201 (wakesP w (zo s) sec (zY sec))[0] (by omega) hx.2 w.rule hk
  have k:=l80b h hk 1 h0';rw[tk1 _ h0'] at k;rw[if_pos (by omega),if_pos (by omega),if_neg (λhh=>by rw[hh] at hcl;simp at hcl;omega)]
  rw[zO _ _ 0 h0'];simp only[h25,zD,zR,c,zJ,h3,zI];simpa using k
def slowR(l:List Int)(v:Int)(k:Nat):List Int:=(jL l v).take k++l.drop k
theorem slowR_set(l:List Int)(v:Int)(k:Nat)(h:k<l.length):(slowR l v k).set k (v * (256 - l[k]))=slowR l v (k+1):=by
 unfold slowR;have hs:(jL l v).length=l.length:=by simp[jL]
 have e:(jL l v)[k]'(by omega)=v * (256 - l[k]):=by simp[jL]
 rw[A0 _ _ (by simp;omega),Bk h]
 have e2:k - (Ar k (jL l v)).length=0:=by simp;omega
 rw[e2,A8,Al (by omega),Ao,e]
 rfl
theorem slowR_get(l:List Int)(v:Int)(k:Nat)(h:k<l.length)(h':k<(slowR l v k).length):(slowR l v k)[k]=l[k]:=by
 have hs:(jL l v).length=l.length:=by simp[jL]
 have e:(slowR l v k)[k]? = some l[k]:=by
  unfold slowR;rw[List.getElem?_append_right (by simp;omega)]
  simp[hs,Nat.min_eq_left (Nat.le_of_lt h),h]
 rw[Ax h'] at e;exact BM e
theorem slowR_len(l:List Int)(v:Int)(k:Nat)(h:k<=l.length):(slowR l v k).length=l.length:=by simp[slowR,jL];omega
theorem l81b(l:List Int)(v:Int)(hl:l.length<=64)(hv:0<=v/\v<=51)(hd:∀d∈l,0<=d/\d<=256):∀k,k<=l.length ->
  L81_0b v (l.map eI) k ((slowR l v k).map eI)=some (.val (.sl 1 ((jL l v).map eI))):=by
 apply down
 ·rw[L81_0b_eq];have:slowR l v l.length=jL l v:=by unfold slowR;rw[AE,AZ,Ah (by simp[jL])]
  rw[this];have hs:(jL l v).length=l.length:=by simp[jL]
  simp only[zP,Ad,An,if_false,At,hs,AC,if_true,Aj];rw[Ah (by simp[hs])]
 ·intro k hk ih;have e1:(k:Int)<l.length:=by omega
  have hsl:=slowR_len l v k (by omega)
  have hk':k<(slowR l v k).length:=by omega
  have hx:=hd l[k] (Ag hk);have h1:=A6 hv.1 (show 0<=256 - l[k] by omega)
  have h2:v * (256 - l[k])<=51 * 256:=Int.mul_le_mul hv.2 (by omega) (by omega) (by omega)
  rw[L81_0b_eq,<-ih];simp only[zP,Ad,At,Ae];rw[if_pos e1,if_pos (by omega),if_pos hk',zO _ _ k hk',slowR_get l v k hk hk']
  simp only[h3,zD,zI];rw[if_pos (by omega),if_pos hk',wr (256 - l[k]) (by omega),wr (v * (256 - l[k])) (by omega),wr ((k:Int)+1) (by omega),<-slowR_set l v k hk,Be]
  rfl
theorem c81{s:Si}{w:Wk}{sec:Int}(h:SiteOK s w sec)(hk:ji w.rule=true)(v:Int)(hv:0<=v/\v<=51) :
  zB 81 [eSi s,eWk w,eI sec,eI v]=some (.val (.sl 1 ((jL (JA w (zo s) sec (zY sec)) v).map eI))):=by
 rw[C81];simp only[zK,zN,h24,h27,h3,Af,zD,zQ,zS,zW,zh,zi,zZ,zI,zR,c80 h hk];have hcl:=jw w (zo s) sec (zY sec);rw[jA] at hcl;have hcb:=j9 h.w (zo s) sec (zY sec);have hl:=h.l;unfold qy;generalize JA w (zo s) sec (zY sec)=l at hcl hcb ⊢;by_cases h0:l=[]
 ·subst h0;rw[if_pos rfl];simp[L81_0a_eq,jL,zJc]
 ·rw[if_neg h0];have:=l81b l v (by omega) hv hcb 0 (Ak _)
  have e:slowR l v 0=l:=by simp[slowR]
  rw[e] at this;simp only[qr,beq_self_eq_true,zD];exact this
theorem c111(c:Cu)(hc:okCu c)(v:Int)(h0:0<=v)(h1:v<=13056):zB 111 [eCu c,eI v]=some (.val (eI (YA c v))):=by
 obtain⟨hl,hl',hp,_,_⟩:=hc;have e3:Av v 256=v / 256:=AR h0;have g:=λi=>qU (b:=100000) (by decide) hp i
 rw[C111];simp only[zK,zN,h29,h3,Af,zD,zQ,zS,zW,zR,zI,Ad,e3,zP];rw[wr (v / 256) (by omega),wr ((c.p.length:Int) - 1) (by omega),wr (v / 256+1) (by omega),wr (256 * (v / 256)) (by omega),wr (v - 256 * (v / 256)) (by omega)]
 have em:v - 256 * (v / 256)=v % 256:=by omega
 rw[em];unfold YA zIM;by_cases hk:v / 256>=(c.p.length:Int) - 1
 ·have hi:((c.p.length:Int) - 1).toNat<c.p.length:=by omega
  have hn:=zO eI c.p ((c.p.length:Int) - 1).toNat hi;have hg:=g (c.p.length - 1);have hgd:c.p.getD (c.p.length - 1) 0=c.p[((c.p.length:Int) - 1).toNat]:=by
   rw[Au,Ax (by omega)]
   exact zBu (by omega) _ _
  rw[hgd] at hg ⊢;rw[if_pos hk,if_pos hk,if_pos (by omega),hn]
  simp only[h3,zD,zI];rw[wr _ (by omega)]
 ·obtain⟨k,hk'⟩:∃k:Nat,v / 256=k:=⟨(v / 256).toNat,by omega⟩
  have hf0:=Int.emod_nonneg v (show(256:Int)≠0 by decide)
  have hf1:=Int.emod_lt_of_pos v (show(0:Int)<256 by decide)
  rw[hk'] at hk ⊢;have hi:k<c.p.length:=by omega
  have hi1:k+1<c.p.length:=by omega
  have hn:=zO eI c.p k hi;have hn1:=zO eI c.p (k+1) hi1;have hg:=g k;have hg1:=g (k+1);have hgd:c.p.getD k 0=c.p[k]:=by rw[Au,Ax hi];rfl
  have hgd1:c.p.getD (k+1) 0=c.p[k+1]:=by rw[Au,Ax hi1];rfl
  rw[hgd] at hg;rw[hgd1] at hg1;have hb:=zA6 (f:=v % 256) hg hg1 ⟨hf0,by omega⟩
  have hb1:-25600000<=(c.p[k+1] - c.p[k]) * (v % 256)/\(c.p[k+1] - c.p[k]) * (v % 256)<=25600000:=by omega
  have et:((k:Int)+1).toNat=k+1:=by omega
  rw[if_neg hk,if_neg hk];have c1:(0:Int)<=(k:Int)/\(k:Int)<(c.p.length:Int):=by omega
  have c2:(0:Int)<=(k:Int)+1/\(k:Int)+1<(c.p.length:Int):=by omega
  simp only[c1,c2,and_self,if_true,Ae,et,hn,hn1,h3,zD,zI,hgd,hgd1];rw[wr (256 * c.p[k]) (by omega),wr (c.p[k+1] - c.p[k]) (by omega),wr ((c.p[k+1] - c.p[k]) * (v % 256)) (by omega),wr _ (by omega)]
def turnL(a b:List Int)(k:Nat):List Int:=b.take k++a.drop k
theorem turnL_set(a b:List Int)(h:a.length=b.length)(k:Nat)(hk:k<b.length):(turnL a b k).set k b[k]=turnL a b (k+1):=by
 unfold turnL;rw[A0 _ _ (by simp;omega),Bk (by omega:k<a.length)]
 have e2:k - (Ar k b).length=0:=by simp;omega
 rw[e2,A8,Al hk,Ao];rfl
theorem turnL_len(a b:List Int)(h:a.length=b.length)(k:Nat)(hk:k<=b.length):(turnL a b k).length=b.length:=by simp[turnL];omega
theorem okFm.site{f:Fm}(h:okFm f)(sec:Int)(hs:0<=sec/\sec<=7):SiteOK f.s f.w sec:=by refine⟨h.w,by have:=h.l;rwa [jA] at this,λt ht=>h.p _ (AJ.2 ⟨t,ht,rfl⟩),hs⟩
def powA(f:Fm)(sec v above:Int):List Int:=if v>=f.c.cut then Ai f.s.tb.length 0 else qA f.w f.c (zo f.s) sec v above
theorem l156(f:Fm)(h:okFm f)(l:List Int)(hl:l.length=f.s.tb.length)(hb:∀x∈l,0<=x/\x<=13056)(z:List Int)(hz:z.length=l.length):∀k,k<=l.length ->
  L156_0a (z.map eI) (l.map eI) k f.s.name f.s.least (f.s.tb.map eTb) f.w.rule (f.w.d.map eI) (f.w.w.map eI) (f.c.p.map eI) f.c.cut (f.r.map jC) ((turnL z (l.map (YA f.c)) k).map eI)=some (.val (.sl 1 ((l.map (YA f.c)).map eI))):=by
 have h64:=h.l;rw[jA] at h64;apply down
 ·rw[L156_0a_eq];have:turnL z (l.map (YA f.c)) l.length=l.map (YA f.c):=by unfold turnL;rw[List.drop_eq_nil_of_le (by omega),AZ,Ah (by simp)]
  rw[this];simp only[zP,Ad,An,if_false,At,hz,AC,if_true,Aj];rw[Ah (by simp)]
 ·intro k hk ih;have e1:(k:Int)<l.length:=by omega
  have hx:=hb l[k] (Ag hk);have c:=c111 f.c h.c l[k] hx.1 hx.2;have htl:=turnL_len z (l.map (YA f.c)) (by simp[hz]) k (by simp;omega)
  have hset:=turnL_set z (l.map (YA f.c)) (by simp[hz]) k (by simpa using hk)
  rw[Ad] at htl;rw[L156_0a_eq,<-ih];simp only[zP,Ad,At,Ae,hz,htl];rw[if_pos e1,if_pos (by omega),zO _ l k hk]
  simp only[h3,zD,zI,c,zJ];rw[if_pos (by omega),if_pos hk,wr ((k:Int)+1) (by omega),<-hset,Be,AG]
  rfl
theorem c156(f:Fm)(h:okFm f)(sec v above:Int)(hs:0<=sec/\sec<=7)(hv:0<=v/\v<=50)(ha:0<=above/\above<=1) :
  zB 156 [eFm f,eI sec,eI v,eI above]=some (.val (.sl 1 ((powA f sec v above).map eI))):=by
 have h64:=h.l;rw[jA] at h64;rw[C156];simp only[zK,zN,hFm' f h.r,h3,Af,zD,zQ,zS,zW,zh,zi,zZ,zI,zR,zP,Ad,Ae];have g1:(0:Int)<=(f.s.tb.length:Int):=by omega
 have g2:8 * (f.s.tb.length:Int)<=281474976710656:=by omega
 have g3:(f.s.tb.length:Int)<=9223372036854775807:=by omega
 simp only[g1,g2,g3,and_self,if_true];unfold powA;by_cases hc:v>=f.c.cut
 ·rw[if_pos hc];refine(congrArg (λb=>ifO b _ _) (decide_eq_true hc)).trans ?_
  simp
 ·rw[if_neg hc];refine(congrArg (λb=>ifO b _ _) (decide_eq_false hc)).trans ?_
  rw[zU,wr (v+above) (by omega),c81 (h.site sec hs) h.k (v+above) (by omega)]
  simp only[zJ,h25,zD,zR];have hcb:=j9 h.w (zo f.s) sec (zY sec);have hsb:=qh hcb (v:=v+above) (b:=51) (by omega) (by omega)
  have hsl:(jL (JA f.w (zo f.s) sec (zY sec)) (v+above)).length=f.s.tb.length:=by simp[jL,jw,jA]
  have:=l156 f h _ hsl (λx hx=>by have:=hsb x hx;omega) (Ai f.s.tb.length 0) (by simp[hsl]) 0 (Ak _)
  have e:turnL (Ai f.s.tb.length 0) ((jL (JA f.w (zo f.s) sec (zY sec)) (v+above)).map (YA f.c)) 0=Ai f.s.tb.length 0:=by simp[turnL]
  rw[e,A9] at this;exact this
theorem sum_zero(n:Nat):jZ (Ai n 0)=0:=by
 induction n with
 | zero=>rfl
 | succ n ih=>rw[A7,jZ,ih];rfl
theorem l157_1(f:Fm)(h:okFm f)(above:Int)(ha:0<=above/\above<=1)(sec:Nat)(hsec:sec<f.r.length)(hrow:f.r[sec].length=51)(hq:∀q∈f.r[sec],0<=q/\q<=40000) :
  ∀k,k<=f.r[sec].length->∀n:Int,0<=n->n<=(sec * 51+k) * 65536000000000 ->
   L157_1a above n sec k f.s.name f.s.least (f.s.tb.map eTb) f.w.rule (f.w.d.map eI) (f.w.w.map eI) (f.c.p.map eI) f.c.cut (f.r.map jC) =
   L157_0a above (n+qw f.w f.c (zo f.s) above sec k (f.r[sec].drop k)) (Ay.wrap ((sec:Int)+1)) f.s.name f.s.least (f.s.tb.map eTb) f.w.rule (f.w.d.map eI) (f.w.w.map eI) (f.c.p.map eI) f.c.cut (f.r.map jC):=by
 have h8:=h.r.1;have h64:=h.l;have hpl:=jA f.s;apply down (P:=λk=>∀n:Int,0<=n->n<=(sec * 51+k) * 65536000000000 ->
   L157_1a above n sec k f.s.name f.s.least (f.s.tb.map eTb) f.w.rule (f.w.d.map eI) (f.w.w.map eI) (f.c.p.map eI) f.c.cut (f.r.map jC) =
   L157_0a above (n+qw f.w f.c (zo f.s) above sec k (f.r[sec].drop k)) (Ay.wrap ((sec:Int)+1)) f.s.name f.s.least (f.s.tb.map eTb) f.w.rule (f.w.d.map eI) (f.w.w.map eI) (f.c.p.map eI) f.c.cut (f.r.map jC))
 ·intro n _ _;rw[L157_1a_eq];simp only[zP];rw[if_neg (by omega)]
  simp[qw]
 ·intro k hk ih n h0 h1;have e0:(k:Int)<=50:=by omega
  have e1:(0:Int)<=(sec:Int)/\(sec:Int)<8:=by omega
  have e2:(0:Int)<=(k:Int)/\(k:Int)<51:=by omega
  have hqk:=hq f.r[sec][k] (Ag hk);have c156':=c156 f h sec k above (by omega) (by omega) ha
  have hpb:=Q7 h.c.2.2.1 f.w (zo f.s) sec k above;have hsum:=zCQ h.c.2.2.1 f.w h.l sec k above;have hce:=qq h.c.2.2.1 f.w h.l above sec k hqk;have hpA:jZ (powA f sec k above)=if (k:Int)<f.c.cut then jZ (qA f.w f.c (zo f.s) sec k above) else 0:=by
   unfold powA;by_cases hc:(k:Int)>=f.c.cut
   ·rw[if_pos hc,if_neg (by omega),sum_zero]
   ·rw[if_neg hc,if_pos (by omega)]
  have c238':=c238 (powA f sec k above) (by unfold powA;split <;> simp[zCW] <;> omega) (λx hx=>by
   unfold powA at hx;split at hx
   ·rw[List.eq_of_mem_replicate hx];omega
   ·have:=hpb x hx;omega)
  have ih':=ih (n+qD f.w f.c (zo f.s) above sec k f.r[sec][k]) (by omega) (by simp only[BG,BF];omega)
  have e3:((k:Int)+1)=((k+1:Nat):Int):=by omega
  rw[L157_1a_eq,za f.r[sec] k hk,qw];simp only[zP];rw[if_pos e0];simp only[if_pos e1,if_pos e2];simp only[Ae,js _ _ _ _ hsec,zD,zO _ f.r sec hsec,js _ _ _ _ hk,zQ,zO _ f.r[sec] k hk,h3,zI,c156',zJ,h25,zR,c238'];rw[wr ((k:Int)+1) (by omega),hpA]
  by_cases c1:f.r[sec][k]>0
  ·by_cases c2:(k:Int)<f.c.cut
   ·have hv:qD f.w f.c (zo f.s) above sec k f.r[sec][k]=f.r[sec][k] * jZ (qA f.w f.c (zo f.s) sec k above):=if_pos ⟨c1,c2⟩;rw[hv] at hce ih' ⊢;rw[if_pos c1,if_pos c2,wr (f.r[sec][k] * _) (by omega),wr (n+_) (by omega),e3,ih',Ba]
   ·have hv:qD f.w f.c (zo f.s) above sec k f.r[sec][k]=0:=if_neg (λhh=>c2 hh.2)
    rw[hv] at hce ih' ⊢;rw[Bq] at ih';rw[if_pos c1,if_neg c2,Int.mul_zero,wr 0 (by omega),Bq,wr n (by omega),e3,ih',Bp]
  ·have hv:qD f.w f.c (zo f.s) above sec k f.r[sec][k]=0:=if_neg (λhh=>c1 hh.1)
   rw[hv] at hce ih' ⊢;rw[Bq] at ih';rw[if_neg c1,e3,ih',Bp]
theorem l157_0(f:Fm)(h:okFm f)(above:Int)(ha:0<=above/\above<=1):∀s,s<=f.r.length->∀n:Int,0<=n->n<=(s * 51:Int) * 65536000000000 ->
  L157_0a above n s f.s.name f.s.least (f.s.tb.map eTb) f.w.rule (f.w.d.map eI) (f.w.w.map eI) (f.c.p.map eI) f.c.cut (f.r.map jC)=some (.val (eI (n+enE f.w f.c (zo f.s) above s (f.r.drop s)))):=by
 apply down (P:=λs=>∀n:Int,0<=n->n<=(s * 51:Int) * 65536000000000 ->
  L157_0a above n s f.s.name f.s.least (f.s.tb.map eTb) f.w.rule (f.w.d.map eI) (f.w.w.map eI) (f.c.p.map eI) f.c.cut (f.r.map jC)=some (.val (eI (n+enE f.w f.c (zo f.s) above s (f.r.drop s)))))
 ·intro n _ _;have:=h.r.1;rw[L157_0a_eq];simp only[zP];rw[if_neg (by omega)]
  simp[enE]
 ·intro s hs ih n h0 h1;have hl:=h.r.1;have hrow:=h.r.2 f.r[s] (Ag hs);have hq:=h.q f.r[s] (Ag hs);have hre:=qQ h.c.2.2.1 f.w h.l above s f.r[s] 0 hq;rw[hrow] at hre;have ih':=ih (n+qw f.w f.c (zo f.s) above s 0 f.r[s]) (by omega) (by simp only[BG,BF];omega)
  have e2:((s:Int)+1)=((s+1:Nat):Int):=by omega
  have k1:=l157_1 f h above ha s hs hrow hq 0 (Ak _) n h0 (by omega)
  rw[show((0:Nat):Int)=0 from rfl,Aj] at k1
  rw[L157_0a_eq,za f.r s hs,enE];simp only[zP];rw[if_pos (by omega),k1,wr ((s:Int)+1) (by omega),e2,ih',Ba]
theorem c157(f:Fm)(h:okFm f)(above:Int)(ha:0<=above/\above<=1):zB 157 [eFm f,eI above]=some (.val (eI (jl f.w f.c f.r (zo f.s) above))):=by
 rw[C157];simp only[zK,zN,hFm' f h.r,h3,Af,zD,zQ,zS,zW,zh,zi,zZ,zI,zR];have:=l157_0 f h above ha 0 (Ak _) 0 (by omega) (by omega)
 rw[Bp,Aj] at this;exact this
theorem c39(f:Fm)(h:okFm f):zB 39 [eFm f]=some (.val (eI (jl f.w f.c f.r (zo f.s) 0))):=by rw[C39];simp only[zK,zN,hFm' f h.r,h3,Af,zD,zQ,zS,zW,zh,zi,zZ,zI,zR,c157 f h 0 (by omega),zJ]
end Go.Am
namespace Go.Am
open Go.Proofs
open Go
section
variable(en:List Nat->Int)
def J7(ok:List Nat->Bool):List Nat->List Nat->Nat->Ch
 | _,taken,0=>if ok taken then some (taken,en taken) else none
 | [],_,_+1=>none
 | i :: l,taken,n+1=>pick (J7 ok l (taken++[i]) n) (J7 ok l taken (n+1))
theorem zDJ{ok:List Nat->Bool}(hm:∀a b,ok (a++b)=true->ok a=true):∀(l taken:List Nat) (n:Nat),ok taken=false->J7 en ok l taken n=none
 | l,taken,0,h=>by cases l <;> simp[J7,h]
 | [],taken,n+1,h=>rfl
 | i :: l,taken,n+1,h=>by
  have h1:ok (taken++[i])=false:=by
   cases hh:ok (taken++[i]) with
   | false=>rfl
   | true=>rw[hm _ _ hh] at h;cases h
  rw[J7,zDJ hm l _ n h1,zDJ hm l _ (n+1) h];rfl
theorem zF7{ok:List Nat->Bool}{near:Nat->Nat->Bool}(hm:∀a b,ok (a++b)=true->ok a=true){D:List Nat}(hn:∀a i,(∀x∈a,x∈D)->i∈D->i ∉ a->ok a=true->ok (a++[i])=!(a.any λt=>near t i)) :
  ∀(l taken:List Nat) (n:Nat),ok taken=true->(∀x∈l,x∈D)->(∀x∈taken,x∈D)->(taken++l).Nodup->j7 en near l taken n=J7 en ok l taken n
 | l,taken,0,h,_,_,_=>by cases l <;> simp[j7,J7,h]
 | [],taken,n+1,h,_,_,_=>rfl
 | i :: l,taken,n+1,h,hl,ht,hd=>by
  have hd':=Bd.1 hd;have hi:i ∉ taken:=λhh=>hd'.2.2 i hh i (by simp) rfl
  have hstep:=hn taken i ht (hl i (by simp)) hi h
  have hd2:(taken++l).Nodup:=hd.sublist (BK (List.sublist_cons_self i l) taken);have hd3:((taken++[i])++l).Nodup:=by rw[Ao];exact hd
  have ih2:=zF7 hm hn l taken (n+1) h (λx hx=>hl x (by simp[hx])) ht hd2
  rw[j7,J7,ih2];cases hc:taken.any (λt=>near t i) with
  | true =>
   rw[hc] at hstep;rw[if_pos rfl,zDJ en hm l (taken++[i]) n hstep]
  | false =>
   rw[hc] at hstep;rw[if_neg (by simp),zF7 hm hn l (taken++[i]) n hstep (λx hx=>hl x (by simp[hx])) (λx hx=>by
    rcases AM.1 hx with hx | hx
    ·exact ht x hx
    ·exact hl x (by simp at hx;simp[hx])) hd3]
theorem zAt{ok:List Nat->Bool}:∀(l taken:List Nat) (n:Nat) (r:List Nat×Int),J7 en ok l taken n=some r->∃s,s.Sublist l/\s.length=n/\r=(taken++s,en (taken++s))/\ok (taken++s)=true
 | l,taken,0,r,h=>by
  have h':(if ok taken then some (taken,en taken) else none)=some r:=by cases l <;> exact h
  split at h'
  ·rename_i hk;injection h' with h'
   exact⟨[],List.nil_sublist l,rfl,by simp[<-h'],by simpa using hk⟩
  ·cases h'
 | [],taken,n+1,r,h=>by cases h
 | i :: l,taken,n+1,r,h=>by
  rw[J7] at h;rcases zG0 h with h | h
  ·obtain⟨s,h1,h2,h3,h4⟩:=zAt l _ n r h;exact⟨i :: s,h1.cons_cons i,by simp[h2],by simpa using h3,by simpa using h4⟩
  ·obtain⟨s,h1,h2,h3,h4⟩:=zAt l _ (n+1) r h;exact⟨s,h1.cons i,h2,h3,h4⟩
end
def Sums:List (Nat->Option Int)->Nat->Int->Prop
 | [],n,x=>n=0/\x=0
 | f :: fs,n,x=>∃c y m z,f c=some y/\Sums fs m z/\n=c+m/\x=y+z
theorem Sums_snoc:∀(fs:List (Nat->Option Int)) (f:Nat->Option Int) (n:Nat) (x:Int),Sums (fs++[f]) n x ↔ ∃m z c y,Sums fs m z/\f c=some y/\n=m+c/\x=z+y
 | [],f,n,x=>by
  constructor
  ·rintro⟨c,y,m,z,h1,⟨hm,hz⟩,hn,hx⟩;exact⟨0,0,c,y,⟨rfl,rfl⟩,h1,by omega,by omega⟩
  ·rintro⟨m,z,d,y,⟨hm,hz⟩,h1,hn,hx⟩;exact⟨d,y,0,0,h1,⟨rfl,rfl⟩,by omega,by omega⟩
 | g :: fs,f,n,x=>by
  constructor
  ·rintro⟨c,y,m,z,h1,h2,rfl,rfl⟩;obtain⟨m',z',c',y',k1,k2,rfl,rfl⟩:=(Sums_snoc fs f m z).1 h2;exact⟨c+m',y+z',c',y',⟨c,y,m',z',h1,k1,rfl,rfl⟩,k2,by omega,by omega⟩
  ·rintro⟨m',z',c',y',⟨c,y,m,z,h1,h2,rfl,rfl⟩,k2,rfl,rfl⟩;exact⟨c,y,m+c',z+y',h1,(Sums_snoc fs f _ _).2 ⟨m,z,c',y',h2,k2,rfl,rfl⟩,by omega,by omega⟩
theorem IsMax.congr{S T:Int->Prop}{o:Option Int}(h:IsMax S o)(e:∀x,S x ↔ T x):IsMax T o:=by
 cases o with
 | none=>exact λx hx=>h x ((e x).2 hx)
 | some m=>exact⟨(e m).1 h.1,λx hx=>h.2 x ((e x).2 hx)⟩
theorem IsMax.dom{S T:Int->Prop}{o:Option Int}(h:IsMax S o)(sub:∀x,S x->T x)(dom:∀x,T x->∃y,S y/\x<=y):IsMax T o:=by
 cases o with
 | none =>
  intro x hx;obtain⟨y,hy,_⟩:=dom x hx;exact h y hy
 | some m =>
  refine⟨sub m h.1,λx hx=>?_⟩
  obtain⟨y,hy,hxy⟩:=dom x hx;have:=h.2 y hy;omega
def boundR:List (Nat->Option Int)->List Nat->Nat->Option Int
 | [],_,n=>if n=0 then some 0 else none
 | f :: fs,lens,n=>(AP (min n (lens.headD 0)+1)).foldl (λacc c=>match f c,boundR fs lens.tail (n - c) with
  | some e,some rest=>(match acc with | none=>some (e+rest) | some m=>if e+rest>m then some (e+rest) else some m)
  | _,_=>acc) none
theorem fold_max(g:Nat->Option Int):∀(l:List Nat) (acc:Option Int) (S:Int->Prop),IsMax S acc ->
  IsMax (λx=>S x\/∃c∈l,g c=some x) (l.foldl (λacc c=>match g c with | some e=>(match acc with | none=>some e | some m=>if e>m then some e else some m) | none=>acc) acc)
 | [],acc,S,h=>h.congr λx=>by simp
 | c :: l,acc,S,h=>by
  rw[BC];refine(fold_max g l _ (λx=>S x\/g c=some x) ?_).congr λx=>?_
  ·cases hg:g c with
   | none=>exact h.congr λx=>by simp
   | some e =>
    cases acc with
    | none=>exact⟨.inr rfl,λx hx=>by
      rcases hx with hx | hx
      ·exact absurd hx (h x)
      ·injection hx with hx;omega⟩
    | some m =>
     dsimp only;split
     ·exact⟨.inr rfl,λx hx=>by
       rcases hx with hx | hx
       ·have:=h.2 x hx;omega
       ·injection hx with hx;omega⟩
     ·exact⟨.inl h.1,λx hx=>by
       rcases hx with hx | hx
       ·exact h.2 x hx
       ·injection hx with hx;omega⟩
  ·constructor
   ·rintro ((h | h) | ⟨d,h1,h2⟩)
    ·exact .inl h
    ·exact .inr ⟨c,by simp,h⟩
    ·exact .inr ⟨d,by simp[h1],h2⟩
   ·rintro (h | ⟨d,h1,h2⟩)
    ·exact .inl (.inl h)
    ·rcases AH.1 h1 with rfl | h1
     ·exact .inl (.inr h2)
     ·exact .inr ⟨d,h1,h2⟩
def oadd:Option Int->Option Int->Option Int
 | some a,some b=>some (a+b)
 | _,_=>none
theorem boundR_max:∀(fs:List (Nat->Option Int)) (lens:List Nat) (n:Nat),lens.length=fs.length->(∀i (h:i<fs.length) (h':i<lens.length) c,lens[i]<c->fs[i] c=none)->IsMax (Sums fs n) (boundR fs lens n)
 | [],lens,n,_,_=>by
  unfold boundR;split
  ·rename_i h;exact⟨⟨h,rfl⟩,λx hx=>by have:=hx.2;omega⟩
  ·rename_i h;exact λx hx=>h hx.1
 | f :: fs,[],n,h,_=>by simp at h
 | f :: fs,len :: lens,n,h,hl=>by
  have ih:=λm=>boundR_max fs lens m (by simpa using h) λi a b c=>hl (i+1) (by simpa using a) (by simpa using b) c
  have h0:=hl 0 (by simp) (by simp)
  simp only[Bo] at h0;have e:boundR (f :: fs) (len :: lens) n=(AP (min n len+1)).foldl (λacc c=>match oadd (f c) (boundR fs lens (n - c)) with | some e=>(match acc with | none=>some e | some m=>if e>m then some e else some m) | none=>acc) none:=by rw[boundR];congr 1;funext acc c;simp only[List.tail_cons];cases f c <;> cases boundR fs lens (n - c) <;> rfl
  rw[e];refine(fold_max (λc=>oadd (f c) (boundR fs lens (n - c))) _ none (λ_=>False) (λx h=>h)).dom (λx hx=>?_) (λx hx=>?_)
  ·rcases hx with h | ⟨c,hc,hx⟩
   ·exact h.elim
   ·simp only[BE] at hc;cases hf:f c with
    | none=>rw[hf] at hx;simp[oadd] at hx
    | some y =>
     have hm:=ih (n - c);cases hb:boundR fs lens (n - c) with
     | none=>rw[hf,hb] at hx;simp[oadd] at hx
     | some z =>
      rw[hf,hb] at hx;rw[hb] at hm;simp only[oadd,BL] at hx;exact⟨c,y,n - c,z,hf,hm.1,by omega,hx.symm⟩
  ·obtain⟨c,y,m,z,h1,h2,rfl,rfl⟩:=hx;have hc:c<=len:=by
    rcases AY len c with hh | hh
    ·rw[h0 c hh] at h1;cases h1
    ·exact hh
   have hm:=ih m;cases hb:boundR fs lens m with
   | none=>rw[hb] at hm;exact absurd h2 (hm z)
   | some z' =>
    rw[hb] at hm;refine⟨y+z',.inr ⟨c,by simp only[BE];omega,?_⟩,by have:=hm.2 z h2;omega⟩
    rw[show c+m - c=m by omega,h1,hb];rfl
end Go.Am
namespace Go.Am
open Go.Proofs
open Go
theorem d81{n:Nat}{x:DV}(h:DT EE (n+3) 81 x):∃l:List Pt,x=.sl 2 (l.map ePt)/\∀p∈l,in64 p.x/\in64 p.y:=by
 obtain⟨ed,xs,h1,h2,h3⟩:=(show DT EE (n+3) 81 x=(∃(ed:TD) (xs:List DV),EE.D 141=some ed/\x=DV.sl ed.size xs/\∀y∈xs,DT EE (n+2) 141 y) by kernel_rfl) ▸ h
 have e:EE.D 141=some td141:=by kernel_rfl
 rw[e] at h1;injection h1 with h1
 subst h1;obtain⟨l,rfl,hl⟩:=lst ePt (λp=>in64 p.x/\in64 p.y) _ (λy hy=>d141 hy) xs h3
 exact⟨l,h2,hl⟩
theorem d83{n:Nat}{x:DV}(h:DT EE (n+4) 83 x):∃p:Pn,x=ePn p/\zu p.r/\in64 p.least:=by
 obtain⟨xs,h1,h2,h3⟩:=(show DT EE (n+4) 83 x=(∃xs:List DV,x=DV.agg 6 xs/\xs.length=([81,3,27,29,32]:List Nat).length/\∀(i:Nat) (u:TypeId) (y:DV),([81,3,27,29,32]:List Nat)[i]? = some u->xs[i]? = some y->DT EE (n+3) u y) by kernel_rfl) ▸ h
 obtain⟨a,b,c,d,e,rfl⟩:=fld5 h2;obtain⟨ps,rfl,_⟩:=d81 (h3 0 81 a rfl rfl);obtain⟨m,rfl,hm⟩:=d3 (h3 1 3 b rfl rfl);obtain⟨w,rfl,_⟩:=d27 (h3 2 27 c rfl rfl);obtain⟨cu,rfl,_⟩:=d29 (h3 3 29 d rfl rfl);obtain⟨r,rfl,hr,_⟩:=d32 (h3 4 32 e rfl rfl);exact⟨⟨ps,m,w,cu,r⟩,h1,hr,hm⟩
abbrev eGl(g:List Int):DV:=.sl 1 (g.map eI)
theorem d95{n:Nat}{x:DV}(h:DT EE (n+3) 95 x):∃gs:List (List Int),x=.sl 1 (gs.map eGl):=by
 obtain⟨ed,xs,h1,h2,h3⟩:=(show DT EE (n+3) 95 x=(∃(ed:TD) (xs:List DV),EE.D 25=some ed/\x=DV.sl ed.size xs/\∀y∈xs,DT EE (n+2) 25 y) by kernel_rfl) ▸ h
 have e:EE.D 25=some td25:=by kernel_rfl
 rw[e] at h1;injection h1 with h1
 subst h1;obtain⟨l,rfl,_⟩:=lst eGl (λ_=>True) _ (λy hy=>by obtain⟨l,e,_⟩:=d25 hy;exact⟨l,e,trivial⟩) xs h3
 exact⟨l,h2⟩
end Go.Am
namespace Go.Am
open Go.Proofs
open Go
variable[OO]
def blowRow(n:Int):List Int->Int
 | []=>n
 | q :: r=>blowRow (if q>0 then n+1 else n) r
def blowR(n:Int):List (List Int)->Int
 | []=>n
 | row :: r=>blowR (blowRow n row) r
theorem blowRow_bnd:∀(l:List Int) (n:Int),n<=blowRow n l/\blowRow n l<=n+l.length
 | [],n=>by simp[blowRow]
 | q :: l,n=>by
  have:=blowRow_bnd l (if q>0 then n+1 else n)
  simp only[blowRow,Aq];by_cases h:q>0
  ·simp only[h,if_true] at this ⊢;omega
  ·simp only[h,if_false] at this ⊢;omega
theorem l128_1(r:List (List Int))(s:Nat)(hs:s<r.length)(h8:r.length=8)(hrow:r[s].length=51):∀k,k<=r[s].length->∀n:Int,0<=n->n<=s * 51+k->L128_1a n s k (r.map jC)=L128_0a (blowRow n (r[s].drop k)) (Ay.wrap ((s:Int)+1)) (r.map jC):=by
 refine down (P:=λk=>∀n:Int,0<=n->n<=s * 51+k->L128_1a n s k (r.map jC)=L128_0a (blowRow n (r[s].drop k)) (Ay.wrap ((s:Int)+1)) (r.map jC)) r[s].length ?_ ?_
 ·intro n h0 hn;rw[L128_1a_eq];simp only[zP];rw[if_neg (by omega)]
  simp[blowRow]
 ·intro k hk ih n h0 hn;have e1:(k:Int)<=50:=by omega
  have e2:(0:Int)<=(s:Int)/\(s:Int)<8:=by omega
  have e3:(0:Int)<=(k:Int)/\(k:Int)<51:=by omega
  rw[L128_1a_eq,za r[s] k hk];simp only[zP];rw[if_pos e1,if_pos e2,if_pos e3];simp only[Ae,js _ _ _ _ hs,zD,zO _ r s hs,js _ _ _ _ hk,zQ,zO _ r[s] k hk,h3,zI];rw[wr ((k:Int)+1) (by omega),wr (n+1) (by omega),show((k:Int)+1)=((k+1:Nat):Int) by omega]
  by_cases hq:r[s][k]>0
  ·rw[if_pos hq,ih (n+1) (by omega) (by omega)]
   simp only[blowRow,if_pos hq]
  ·rw[if_neg hq,ih n h0 (by omega)]
   simp only[blowRow,if_neg hq]
theorem l128_0(r:List (List Int))(h:zu r):∀s,s<=r.length->∀n:Int,0<=n->n<=s * 51->L128_0a n s (r.map jC)=some (.val (eI (blowR n (r.drop s)))):=by
 have hl:=h.1;refine down (P:=λs=>∀n:Int,0<=n->n<=s * 51->L128_0a n s (r.map jC)=some (.val (eI (blowR n (r.drop s))))) r.length ?_ ?_
 ·intro n h0 hn;rw[L128_0a_eq];simp only[zP];rw[if_neg (by omega)]
  simp[blowR]
 ·intro s hs ih n h0 hn;have hrow:=h.2 r[s] (Ag hs);have e1:(s:Int)<8:=by omega
  have hb:=blowRow_bnd r[s] n;rw[L128_0a_eq,za r s hs];simp only[zP];rw[if_pos e1];have:=l128_1 r s hs hl hrow 0 (Ak _) n h0 (by omega)
  rw[show((0:Nat):Int)=0 from rfl] at this
  rw[this,wr ((s:Int)+1) (by omega),show((s:Int)+1)=((s+1:Nat):Int) by omega,Aj,ih _ (by omega) (by omega)]
  rfl
theorem c128(r:List (List Int))(h:zu r):zB 128 [eRo r]=some (.val (eI (blowR 0 r))):=by
 rw[C128];simp only[zK,zN,h32,Ad,h.1,decide_true,Af,zD,zQ];have:=l128_0 r h 0 (Ak _) 0 (by omega) (by omega)
 simpa using this
theorem c105(c:Cu):zB 105 [eCu c]=some (.val (.bool (decide ((c.p.length:Int)<=52)))):=by rw[C105];simp
end Go.Am
namespace Go.Am
open Go.Proofs
open Go
variable[OO]
def txtN(n:Nat):ByteArray:=bs [48+n]
def nmT(n:Nat):ByteArray:=bs [116]++txtN n
def tbT(p:Pn)(i:Nat):Tb:=⟨nmT i,p.ps.getD i default⟩
def Ja(p:Pn)(l:List Nat):Si:=⟨bs [97],p.least,l.map (tbT p)⟩
def okC(p:Pn)(l:List Nat):Bool:=jY p.least [] (l.map (tbT p)) == 0
theorem nmT_name:∀n,n<10->jJ (nmT n)=true:=by decide
theorem nmT_inj:∀a,a<10->∀b,b<10->nmT a=nmT b->a=b:=by decide
theorem zDQ(least:Int):∀(x y prev:List Tb),jY least prev (x++y)=0->jY least prev x=0
 | [],y,prev,_=>rfl
 | t :: x,y,prev,h=>by
  rw[AU,jY] at h;rw[jY];generalize zT [if jJ t.name then 0 else 8,ptE t.at',if YB t.name (prev.map (·.name)) then 9 else 0]=E at h ⊢
  generalize (prev.any λo=>decide (jQ t.at' o.at'<least * least))=b at h ⊢
  by_cases h1:E≠0
  ·rw[if_pos h1] at h;exact absurd h h1
  ·rw[if_neg h1] at h ⊢;cases b with
   | true=>cases h
   | false=>exact zDQ least x y _ h
theorem zDP(least:Int)(t:Tb):∀(x prev:List Tb),jY least prev x=0->jY least prev (x++[t])=jY least (prev++x) [t]
 | [],prev,_=>by rw[Ap,AZ]
 | u :: x,prev,h=>by
  rw[jY] at h;rw[AU,jY];generalize zT [if jJ u.name then 0 else 8,ptE u.at',if YB u.name (prev.map (·.name)) then 9 else 0]=E at h ⊢
  generalize (prev.any λo=>decide (jQ u.at' o.at'<least * least))=b at h ⊢
  by_cases h1:E≠0
  ·rw[if_pos h1] at h;exact absurd h h1
  ·rw[if_neg h1] at h ⊢;cases b with
   | true=>cases h
   | false =>
    have:=zDP least t x (prev++[u]) h;rw[Ao] at this;exact this
theorem zJq{α:Type}{f g:α->Bool}:∀{l:List α},(∀x∈l,f x=g x)->l.any f=l.any g
 | [],_=>rfl
 | x :: l,h=>by rw[AL,AL,h x (by simp),zJq λy hy=>h y (by simp[hy])]
theorem okC_left(p:Pn)(a b:List Nat)(h:okC p (a++b)=true):okC p a=true:=by unfold okC at h ⊢;rw[AA] at h;exact beq_iff_eq.2 (zDQ _ _ _ _ (beq_iff_eq.1 h))
theorem okC_snoc(p:Pn)(hl:p.ps.length<=8)(hp:∀q∈p.ps,JP q)(a:List Nat)(i:Nat)(ha:∀x∈a,x∈AP p.ps.length)(hi:i∈AP p.ps.length)(hn:i ∉ a)(h:okC p a=true) :
  okC p (a++[i])=!(a.any λt=>jP p t i):=by
 have hi':i<p.ps.length:=by simpa using hi
 unfold okC at h ⊢;rw[AA,AD,AO,zDP _ _ _ _ (beq_iff_eq.1 h),Ap];have h1:jJ (tbT p i).name=true:=nmT_name i (by omega)
 have h2:ptE (tbT p i).at'=0:=by refine(zDs _).2 ?_;show JP (p.ps.getD i default);rw[zBP p.ps i hi'];exact hp _ (Ag hi')
 have h3:YB (tbT p i).name ((a.map (tbT p)).map (·.name))=false:=by
  rw[YB,List.any_eq_false];intro k hk;rw[Bn] at hk;obtain⟨j,hj,rfl⟩:=AJ.1 hk;intro e;have hj':j<p.ps.length:=by simpa using ha j hj
  have:=nmT_inj i (by omega) j (by omega) (of_decide_eq_true e)
  exact hn (this ▸ hj)
 have h4:(a.map (tbT p)).any (λo=>decide (jQ (tbT p i).at' o.at'<p.least * p.least))=a.any λt=>jP p t i:=by
  rw[List.any_map];refine zJq λt ht=>?_
  have ht':t<p.ps.length:=by simpa using ha t ht
  have hne:i≠t:=λe=>hn (e ▸ ht)
  show decide (jQ (p.ps.getD i default) (p.ps.getD t default)<p.least * p.least)=jP p t i;unfold jP;rw[show decide (i<p.ps.length/\t<p.ps.length/\i≠t)=true from decide_eq_true ⟨hi',ht',hne⟩,Bool.true_and]
 rw[jY,h1,h2,h3,h4];cases a.any λt=>jP p t i <;> rfl
theorem best_same(p:Pn)(hl:p.ps.length<=8)(hp:∀q∈p.ps,JP q)(l:List Nat)(hd:l.Nodup)(hs:∀i∈l,i<p.ps.length)(n:Nat):J7 (enP p) (okC p) l [] n=j7 (enP p) (jP p) l [] n :=
 (zF7 (enP p) (okC_left p) (okC_snoc p hl hp) l [] n rfl (λx hx=>by simpa using hs x hx) (λx hx=>by simp at hx) (by simpa using hd)).symm
theorem chosen_0(p:Pn)(hl:1<=p.least/\p.least<=1000)(l:List Nat)(h:l.length<=64):jM (Ja p l)=jY p.least [] (l.map (tbT p)):=by
 have h1:zT [if jJ (bs [97]) then 0 else 8,zf p.least 1 1000,if (64:Int)<(l.map (tbT p)).length then 5 else 0]=0:=by
  rw[show jJ (bs [97])=true by decide,jW.2 hl,Ad,if_neg (show ¬(64:Int)<(l.length:Nat) by omega)]
  rfl
 unfold jM;show(if zT [if jJ (bs [97]) then 0 else 8,zf p.least 1 1000,if (64:Int)<(l.map (tbT p)).length then 5 else 0]≠0 then _ else _)=_
 rw[if_neg (by rw[h1];simp)]
 rfl
theorem zAm(p:Pn)(l:List Nat):zo (Ja p l)=l.map λi=>p.ps.getD i default:=by unfold zo Ja;rw[Bn];rfl
end Go.Am
namespace Go.Am
open Go.Proofs
open Go Go.RowKit Go.Proofs
def clone3_ren:Go.Shelf.Ren:=⟨λ| 41=>267 | n=>n,λ| 22=>56 | 23=>176 | 4=>4 | n=>n,λ| n=>n⟩
theorem clone3_lays:BA Tryz.prog clone3_ren:={
 mixed:=by kernel_rfl
 f41:=⟨Tryz.f267.name,by decide,Tryz.func267.trans (congrArg some (by kernel_rfl))⟩
 t4:=Tryz.underlying4
 a4:=Tryz.isAgg4
 z4:=Tryz.sizeOf4
 v4:=Tryz.zeroValue4
 t22:=Tryz.underlying56
 a22:=Tryz.isAgg56
 z22:=Tryz.sizeOf56
 v22:=Tryz.zeroValue56 }
section
open Go.Shelf
variable{P:Program}{ρ:Ren}
set_option maxHeartbeats 2000000 in
set_option maxRecDepth 100000 in
theorem clone_zeroE(L:SlLaysE0.n41 P ρ)(i0:TypeInfo)(z:Value)(hi:P.info? (ρ.t 23)=some i0)(hz0:i0.zero=some z)(size:Nat)(z23:∀w,(Go.sizeOf (ρ.t 23)).run P w=.ok size w)(a:Addr)(c:Nat)(w:World) :
  Calls P (ρ.f 41) #[.slice (some a) 0 c] w λe w'=>∃ad,e=.returned (.slice (some ad) 0 0)/\Below w.heap.size w w':=by
 have mixed:=L.mixed;have t4:=L.t4;have a4:=L.a4;have z4:=L.z4;have v4:=L.v4;have t22:=L.t22;have a22:=L.a22;have z22:=L.z22;have v22:=L.v22;have q22:∀(w:World) (a:Option Addr) (n c n' c':Nat),(binOp .eql (ρ.t 22) (.slice a n c) (.slice none n' c')).run P w=.ok (.bool a.isNone) w:=λw a n c n' c'=>Lib.run_eql_slice_nil w _ _ a n c n' c' L.t22
 have u22:∀w,Sem.run P (underlying (ρ.t 22)) w=.ok (TypeDesc.slice (ρ.t 23)) w:=run_underlying t22;obtain⟨_,_,FG⟩:=L.f41
 go_enter FG,SlBodyN.n41_ntmps ρ
 go_wp2_with (at_builtin;refine J8 rfl _ _ (ρ.t 22) rfl (ρ.t 23) i0 z t22 hi hz0 _ _ _ rfl rfl ?_)
 go_wp2;go_ret;exact⟨_,rfl,(BJ _ w).alloc (AC _) _⟩
end
def tbC(t:Tb):List Value:=[.string t.name,.int .i64 t.at'.x,.int .i64 t.at'.y]
theorem RD.tb{L:Nat->List Nat}{S:Nat->Prop}{w:World}{t:Tb}{cs:List Value}(h:RD L S w (eTb t) cs):cs=tbC t:=by
 cases h with
 | agg _ _ css hl h hz =>
  match css,hl with
  | [c0,c1],_ =>
   have e0:RD L S w (.str t.name) c0:=h 0 (by simp) (by simp)
   have e1:RD L S w (ePt t.at') c1:=h 1 (by simp) (by simp)
   have:=e0.str1;subst this;cases e1 with
   | agg _ _ css' hl' h' hz' =>
    match css',hl' with
    | [d0,d1],_ =>
     have f0:RD L S w (eI t.at'.x) d0:=h' 0 (by simp) (by simp)
     have f1:RD L S w (eI t.at'.y) d1:=h' 1 (by simp) (by simp)
     have:=f0.int1;subst this;have:=f1.int1;subst this;rfl
theorem rd_tb{S:Nat->Prop}{w:World}(t:Tb):RD EE.L S w (eTb t) (tbC t):=by
 have hp:=RD.agg (L:=EE.L) (S:=S) (w:=w) 1 [eI t.at'.x,eI t.at'.y] [[.int .i64 t.at'.x],[.int .i64 t.at'.y]] rfl (λi h h'=>by
  match i,h,h' with
  | 0,_,_=>exact .int _ _
  | 1,_,_=>exact .int _ _) (by kernel_rfl)
 exact RD.agg (L:=EE.L) (S:=S) (w:=w) 9 [.str t.name,ePt t.at'] [[.string t.name],[.int .i64 t.at'.x,.int .i64 t.at'.y]] rfl (λi h h'=>by
  match i,h,h' with
  | 0,_,_=>exact .str _
  | 1,_,_=>exact hp) (by kernel_rfl)
def freshT(l:List Tb):CR:=if l=[] then .val .nl else .fresh 3 (l.map eTb)
def T267(ds:List DV)(r:CR):Prop:=∃l:List Tb,l.length<=100000/\ds=[.sl 3 (l.map eTb)]/\r=freshT l
theorem flat3_len:∀l:List Tb,((l.map tbC).flatten).length=l.length * 3
 | []=>rfl
 | t :: l=>by have:=flat3_len l;simp only[AD,AF,Az,Aq,this];show 3+l.length * 3=_;omega
theorem flat3_one:∀l:List Tb,∀u∈(l.map tbC).flatten,u.oneCell'=true
 | [],u,h=>by simp at h
 | t :: l,u,h=>by
  simp only[AD,AF,AM] at h;rcases h with h | h
  ·simp only[tbC,AH,List.not_mem_nil,or_false] at h;rcases h with rfl | rfl | rfl <;> rfl
  ·exact flat3_one l u h
theorem at267(ds:List DV)(r:CR):T267 ds r->qM PP EE 267 ds r:=by
 rintro⟨l,hl,rfl,rfl⟩;refine⟨enters Tryz.func267 (by kernel_rfl) (by kernel_rfl),λS w vals hg hlt hlen hv=>?_⟩
 obtain⟨v,rfl⟩:∃v,vals=[v]:=List.length_eq_one_iff.1 hlen;have h0:=hv 0 (by simp) (by simp)
 simp only[Bo] at h0;obtain⟨a,c,css,rfl,hc,hcl,hel,hz,hm⟩:=RV.sl (E:=EE) h0;simp only[Ad] at hc hcl hel hm;have hcss:css=l.map tbC:=List.ext_getElem (by simpa using hcl) λi h1 h2=>by
  have:=hel i (by simpa using h2) h1
  rw[AG] at this ⊢;exact RD.tb this
 obtain⟨i0,hi,hz0,hz1,hz2⟩:=info_parts (P:=Tryz.prog) (e:=176) (z:=.agg #[.string ⟨#[]⟩,.int .i64 0,.int .i64 0]) (size:=3) (bytes:=32) (by kernel_rfl)
 by_cases h:l=[]
 ·subst h;rw[show freshT []=.val .nl from rfl]
  cases a with
  | none=>exact(AnyE.slices_Clone_nil clone3_lays 0 c w).mono λe w' ⟨h1,h2⟩=>⟨_,h1,by subst h2;exact Y0 hlt (BJ _ _) ⟨RD.nl none,rfl⟩⟩
  | some ad=>exact(clone_zeroE clone3_lays i0 _ hi hz0 3 Tryz.sizeOf176 ad c w).mono λe w' ⟨ad',h1,h2⟩=>⟨_,h1,Y0 hlt h2 ⟨RD.nl (some ad'),rfl⟩⟩
 ·rw[show freshT l=.fresh 3 (l.map eTb) from if_neg h]
  have h0:0<l.length:=AN.2 h;obtain⟨ad,rfl,hsp,hS,hcell⟩:=hm h0;have ead:ad=⟨ad.block,ad.off,none⟩:=by rw[<-hsp]
  rw[hcss] at hcell;simp only[Ad];rw[ead];refine(AnyE.slices_Clone clone3_lays i0 _ 3 32 hi hz0 hz1 hz2 rfl (by omega) Tryz.sizeOf176 ad.block ad.off l.length c (l.map tbC).flatten w (flat3_len l) (by unfold maxLen;omega) (by omega) (λj u hj=>?_) (flat3_one l)).mono λe w' ⟨v',h1,hown,hne,hB⟩=>⟨v',h1,?_⟩
  ·have:=hcell j u hj;rw[jr hsp] at this;exact this
  ·rcases hown.2 with ⟨h2,_⟩ | ⟨g,cap,cur,rfl,hg1,hg2,hg3,hg4,hg5,hg6⟩
   ·exact absurd h2 hne
   ·refine⟨S,hB,λ_ h=>h,λ_ h=>.inl h,λb hb=>Nat.lt_of_lt_of_le (hlt b hb) hB.size,g,hg1,λhx=>absurd (hlt g hx) (by omega),λφ=>?_,λφ s hs=>?_⟩
    ·refine⟨cur,176,l.map tbC,hg2,by simp,λi h h'=>?_,λc hc=>?_,?_⟩
     ·simp only[AG];exact rd_tb _
     ·obtain⟨m,_,rfl⟩:=AJ.1 hc;rfl
     ·rw[List.prefix_iff_eq_take,flat3_len];exact hg6.symm
    ·refine⟨?_,rfl⟩;have:=RA.own (L:=EE.L) (S:=S) (φ:=φ) (w:=w') s 0 l.length 3 g cap hs hg3 ⟨cur,176,hg2,by omega⟩
     simpa[vcs,Value.cells] using this
end Go.Am
namespace Go.Am
open Go.Proofs
open Go
class KnT[OO]:Prop where
 clone:∀l:List Tb,l.length<=100000->zB 267 [.sl 3 (l.map eTb)]=some (freshT l)
variable[OO]
theorem ifO_decT{p:Prop}[Decidable p](h:p)(x y:Option CR):ifO (decide p) x y=x:=by rw[decide_eq_true h];rfl
theorem ifO_decF{p:Prop}[Decidable p](h:¬p)(x y:Option CR):ifO (decide p) x y=y:=by rw[decide_eq_false h];rfl
theorem bne_z{x:Int}(h:x=0):(x != 0)=false:=by rw[h];rfl
theorem bne_n{x:Int}(h:x≠0):(x != 0)=true:=by simp[h]
end Go.Am
namespace Go.Am
open Go.Proofs
open Go
theorem beq_z{x:Int}(h:x=0):(x == 0)=true:=by rw[h];rfl
theorem beq_n{x:Int}(h:x≠0):(x == 0)=false:=by simp[h]
variable[OO]
end Go.Am
namespace Go.Am
open Go.Proofs
open Go
variable[OO]
theorem C43(x0 x1:DV):zB 43 [x0,x1] =
 ifO (zV (zF EE 6) [83,3] [x0,x1])
 (ifO (decide ((((Aa (elems (nth (flds x0) 0))):Nat):Int)<=(zC x1)))
 (zH (zB 63 [(.agg 0 [(.str (zX (nth (flds (nth (flds x0) 2)) 0))),(.sl 1 (elems (nth (flds (nth (flds x0) 2)) 1))),(.sl 1 (elems (nth (flds (nth (flds x0) 2)) 2)))])])
 (λr0=>ifO (zF EE 6 4 r0)
 (ifO (jm r0)
 (zH (zB 105 [(.agg 1 [(.sl 1 (elems (nth (flds (nth (flds x0) 3)) 0))),(eI (zC (nth (flds (nth (flds x0) 3)) 1)))])])
 (λr1=>ifO (zF EE 6 4 r1)
 (ifO (jm r1)
 (zH (zB 128 [(.agg 3 (flds (nth (flds x0) 4)))])
 (λr2=>ifO (zF EE 6 3 r2)
 (some (.val (.bool (decide ((zC r2)<=(4:Int))))))
 (none))
 (λ_ _=>none))
 (some (.val (.bool false))))
 (none))
 (λ_ _=>none))
 (some (.val (.bool false))))
 (none))
 (λ_ _=>none))
 (ifO ((((Aa (elems (nth (flds x0) 0))):Nat):Int) == (9:Int))
 (zH (zB 63 [(.agg 0 [(.str (zX (nth (flds (nth (flds x0) 2)) 0))),(.sl 1 (elems (nth (flds (nth (flds x0) 2)) 1))),(.sl 1 (elems (nth (flds (nth (flds x0) 2)) 2)))])])
 (λr9=>ifO (zF EE 6 4 r9)
 (ifO (jm r9)
 (zH (zB 105 [(.agg 1 [(.sl 1 (elems (nth (flds (nth (flds x0) 3)) 0))),(eI (zC (nth (flds (nth (flds x0) 3)) 1)))])])
 (λr10=>ifO (zF EE 6 4 r10)
 (ifO (jm r10)
 (zH (zB 128 [(.agg 3 (flds (nth (flds x0) 4)))])
 (λr11=>ifO (zF EE 6 3 r11)
 (some (.val (.bool (decide ((zC r11)<=(4:Int))))))
 (none))
 (λ_ _=>none))
 (some (.val (.bool false))))
 (none))
 (λ_ _=>none))
 (some (.val (.bool false))))
 (none))
 (λ_ _=>none))
 (ifO ((((Aa (elems (nth (flds x0) 0))):Nat):Int) == (65:Int))
 (zH (zB 63 [(.agg 0 [(.str (zX (nth (flds (nth (flds x0) 2)) 0))),(.sl 1 (elems (nth (flds (nth (flds x0) 2)) 1))),(.sl 1 (elems (nth (flds (nth (flds x0) 2)) 2)))])])
 (λr18=>ifO (zF EE 6 4 r18)
 (ifO (jm r18)
 (zH (zB 105 [(.agg 1 [(.sl 1 (elems (nth (flds (nth (flds x0) 3)) 0))),(eI (zC (nth (flds (nth (flds x0) 3)) 1)))])])
 (λr19=>ifO (zF EE 6 4 r19)
 (ifO (jm r19)
 (zH (zB 128 [(.agg 3 (flds (nth (flds x0) 4)))])
 (λr20=>ifO (zF EE 6 3 r20)
 (some (.val (.bool (decide ((zC r20)<=(4:Int))))))
 (none))
 (λ_ _=>none))
 (some (.val (.bool false))))
 (none))
 (λ_ _=>none))
 (some (.val (.bool false))))
 (none))
 (λ_ _=>none))
 (some (.val (.bool false))))))
 (none) :=
 (zM (f:=43) (by kernel_rfl) (by kernel_rfl) (by kernel_rfl) [x0,x1]).trans (by kernel_rfl)
theorem C45(x0:DV):zB 45 [x0] =
 ifO (zV (zF EE 6) [83] [x0])
 (ifO (decide ((((2 * (0+(Aa (elems (nth (flds x0) 0)))))+200) * 16)<=281474976710656))
 (ifO (AX (elems (nth (flds x0) 0)))
 (zH (zB 67 [(.agg 0 [(.str (zX (nth (flds (nth (flds x0) 2)) 0))),(.sl 1 (elems (nth (flds (nth (flds x0) 2)) 1))),(.sl 1 (elems (nth (flds (nth (flds x0) 2)) 2)))])])
 (λr0=>ifO (zF EE 6 59 r0)
 (zH (zB 107 [(.agg 1 [(.sl 1 (elems (nth (flds (nth (flds x0) 3)) 0))),(eI (zC (nth (flds (nth (flds x0) 3)) 1)))])])
 (λr1=>ifO (zF EE 6 60 r1)
 (some (.val (.agg 6 [(.sl 2 []),(eI (zC (nth (flds x0) 1))),(.agg 0 [(.str (zX (nth (flds r0) 0))),(.sl 1 (elems (nth (flds r0) 1))),(.sl 1 (elems (nth (flds r0) 2)))]),(.agg 1 [(.sl 1 (elems (nth (flds r1) 0))),(eI (zC (nth (flds r1) 1)))]),(.agg 3 (flds (nth (flds x0) 4)))])))
 (none))
 (λ_ _=>none))
 (none))
 (λ_ _=>none))
 (zH (zB 67 [(.agg 0 [(.str (zX (nth (flds (nth (flds x0) 2)) 0))),(.sl 1 (elems (nth (flds (nth (flds x0) 2)) 1))),(.sl 1 (elems (nth (flds (nth (flds x0) 2)) 2)))])])
 (λr6=>ifO (zF EE 6 59 r6)
 (zH (zB 107 [(.agg 1 [(.sl 1 (elems (nth (flds (nth (flds x0) 3)) 0))),(eI (zC (nth (flds (nth (flds x0) 3)) 1)))])])
 (λr7=>ifO (zF EE 6 60 r7)
 (ifO (decide ((0+(Aa ([]++(elems (nth (flds x0) 0)))))<=(Aa ([]++(elems (nth (flds x0) 0))))))
 (some (.val (.agg 6 [(.sl 2 (Ar (Aa ([]++(elems (nth (flds x0) 0)))) (Aw 0 ([]++(elems (nth (flds x0) 0)))))),(eI (zC (nth (flds x0) 1))),(.agg 0 [(.str (zX (nth (flds r6) 0))),(.sl 1 (elems (nth (flds r6) 1))),(.sl 1 (elems (nth (flds r6) 2)))]),(.agg 1 [(.sl 1 (elems (nth (flds r7) 0))),(eI (zC (nth (flds r7) 1)))]),(.agg 3 (flds (nth (flds x0) 4)))])))
 (none))
 (none))
 (λ_ _=>none))
 (none))
 (λ_ _=>none)))
 (none))
 (none) :=
 (zM (f:=45) (by kernel_rfl) (by kernel_rfl) (by kernel_rfl) [x0]).trans (by kernel_rfl)
def S46_0a(v0:Int)(v1:List DV)(v2:Int)(v3:ByteArray)(v4 v5 v6:List DV)(v7:Int)(v8:List DV):St :=
 zr 57 [(1,(.ptr 1 415 0 [])),(3,(.d (eI v0)))] [(1,(.mk false (.dc 415 [(.agg 6 [(.sl 2 v1),(eI v2),(.agg 0 [(.str v3),(.sl 1 v4),(.sl 1 v5)]),(.agg 1 [(.sl 1 v6),(eI v7)]),(.agg 3 v8)])])))]
noncomputable def zGb(v0:Int)(v1:List DV)(v2:Int)(v3:ByteArray)(v4 v5 v6:List DV)(v7:Int)(v8:List DV):Option CR:=goQ 46 0 (S46_0a v0 v1 v2 v3 v4 v5 v6 v7 v8)
def S46_1a(v0 v1:Int)(v2:List DV)(v3:Int)(v4:ByteArray)(v5 v6 v7:List DV)(v8:Int)(v9:List DV):St :=
 zr 57 [(1,(.ptr 1 415 0 [])),(3,(.d (eI v0))),(5,(.d (eI v1)))] [(1,(.mk false (.dc 415 [(.agg 6 [(.sl 2 v2),(eI v3),(.agg 0 [(.str v4),(.sl 1 v5),(.sl 1 v6)]),(.agg 1 [(.sl 1 v7),(eI v8)]),(.agg 3 v9)])])))]
noncomputable def zIc(v0 v1:Int)(v2:List DV)(v3:Int)(v4:ByteArray)(v5 v6 v7:List DV)(v8:Int)(v9:List DV):Option CR:=goQ 46 1 (S46_1a v0 v1 v2 v3 v4 v5 v6 v7 v8 v9)
theorem zHT(v0:Int)(v1:List DV)(v2:Int)(v3:ByteArray)(v4 v5 v6:List DV)(v7:Int)(v8:List DV):zGb v0 v1 v2 v3 v4 v5 v6 v7 v8 =
 ifO (decide (v0<(((Aa v1):Nat):Int)))
 (ifO (decide (((0:Int)<=v0)/\(v0<(((Aa v1):Nat):Int))))
 (ifO (zF EE 6 141 (nth v1 (Ac v0)))
 (zH (zB 164 [(.agg 1 [(eI (zC (nth (flds (nth v1 (Ac v0))) 0))),(eI (zC (nth (flds (nth v1 (Ac v0))) 1)))])])
 (λr0=>ifO (zF EE 6 3 r0)
 (ifO (bne (zC r0) 0)
 (some (.val (eI (zC r0))))
 ((zIc v0 (0:Int) v1 v2 v3 v4 v5 v6 v7 v8)))
 (none))
 (λ_ _=>none))
 (none))
 (none))
 (zH (zB 69 [(.agg 0 [(.str (bs [97])),(eI v2),(.sl 3 [])])])
 (λr3=>ifO (zF EE 6 3 r3)
 (zH (zB 71 [(.agg 0 [(.str v3),(.sl 1 v4),(.sl 1 v5)])])
 (λr4=>ifO (zF EE 6 3 r4)
 (zH (zB 110 [(.agg 1 [(.sl 1 v6),(eI v7)])])
 (λr5=>ifO (zF EE 6 3 r5)
 (zH (zB 129 [(.agg 3 v8)])
 (λr6=>ifO (zF EE 6 3 r6)
 (zH (zB 35 [(.sl 1 [(eI (zC r3)),(eI (zC r4)),(eI (zC r5)),(eI (zC r6))])])
 (λr7=>ifO (zF EE 6 3 r7)
 (some (.val (eI (zC r7))))
 (none))
 (λ_ _=>none))
 (none))
 (λ_ _=>none))
 (none))
 (λ_ _=>none))
 (none))
 (λ_ _=>none))
 (none))
 (λ_ _=>none)) :=
 (zb 46 0 _).trans (by kernel_rfl)
theorem zHS(v0 v1:Int)(v2:List DV)(v3:Int)(v4:ByteArray)(v5 v6 v7:List DV)(v8:Int)(v9:List DV):zIc v0 v1 v2 v3 v4 v5 v6 v7 v8 v9 =
 ifO (decide (v1<v0))
 (ifO (decide (((0:Int)<=v1)/\(v1<(((Aa v2):Nat):Int))))
 (ifO (zF EE 6 141 (nth v2 (Ac v1)))
 (ifO (decide (((0:Int)<=v0)/\(v0<(((Aa v2):Nat):Int))))
 (ifO (zF EE 6 141 (nth v2 (Ac v0)))
 (ifO (ifO.match_1 (λy964=>Bool) false (λy967=>(!(AK (YT EE 141 (.agg 1 [(eI (zC (nth (flds (nth v2 (Ac v1))) 0))),(eI (zC (nth (flds (nth v2 (Ac v1))) 1)))]) (.agg 1 [(eI (zC (nth (flds (nth v2 (Ac v0))) 0))),(eI (zC (nth (flds (nth v2 (Ac v0))) 1)))])) false))) (λy327=>(AK (YT EE 141 (.agg 1 [(eI (zC (nth (flds (nth v2 (Ac v1))) 0))),(eI (zC (nth (flds (nth v2 (Ac v1))) 1)))]) (.agg 1 [(eI (zC (nth (flds (nth v2 (Ac v0))) 0))),(eI (zC (nth (flds (nth v2 (Ac v0))) 1)))])) false)))
 (some (.val (eI 9)))
 ((zIc v0 (Ab .i64 (v1+(1:Int))) v2 v3 v4 v5 v6 v7 v8 v9)))
 (none))
 (none))
 (none))
 (none))
 ((zGb (Ab .i64 (v0+(1:Int))) v2 v3 v4 v5 v6 v7 v8 v9)) :=
 (zb 46 1 _).trans (by kernel_rfl)
theorem C46(x0:DV):zB 46 [x0] =
 ifO (zV (zF EE 6) [83] [x0])
 (ifO (decide ((((Aa (elems (nth (flds x0) 0))):Nat):Int)>(64:Int)))
 (some (.val (eI 5)))
 ((zGb (0:Int) (elems (nth (flds x0) 0)) (zC (nth (flds x0) 1)) (zX (nth (flds (nth (flds x0) 2)) 0)) (elems (nth (flds (nth (flds x0) 2)) 1)) (elems (nth (flds (nth (flds x0) 2)) 2)) (elems (nth (flds (nth (flds x0) 3)) 0)) (zC (nth (flds (nth (flds x0) 3)) 1)) (flds (nth (flds x0) 4)))))
 (none) :=
 (zM (f:=46) (by kernel_rfl) (by kernel_rfl) (by kernel_rfl) [x0]).trans (by kernel_rfl)
def S55_0a(v0 v1:List DV)(v2:Int)(v3:ByteArray)(v4 v5 v6:List DV)(v7:Int)(v8:List DV):St :=
 zr 48 [(1,(.d (.sl 1 v0))),(2,(.ptr 2 415 0 [])),(4,(.ptr 4 416 0 [])),(6,(.ptr 6 3 0 [])),(7,(.d (eI 0)))] [(2,(.mk false (.dc 415 [(.agg 6 [(.sl 2 v1),(eI v2),(.agg 0 [(.str v3),(.sl 1 v4),(.sl 1 v5)]),(.agg 1 [(.sl 1 v6),(eI v7)]),(.agg 3 v8)])]))),(4,(.mk false (.dc 416 [(.agg 4 [(.agg 0 [(.str (bs [])),(eI 0),.nl]),(.agg 0 [(.str (bs [])),.nl,.nl]),(.agg 1 [.nl,(eI 0)]),(.agg 3 (Ai (α:=DV) 8 (.agg 2 (Ai (α:=DV) 51 (eI 0)))))])]))),(6,(.mk false (.dc 3 [(.agg 0 [(.str (bs [97])),(eI v2),.nl])])))]
noncomputable def L55_0a(v0 v1:List DV)(v2:Int)(v3:ByteArray)(v4 v5 v6:List DV)(v7:Int)(v8:List DV):Option CR:=goQ 55 0 (S55_0a v0 v1 v2 v3 v4 v5 v6 v7 v8)
def S55_0b(v0:List DV)(v1:Int)(v2:List DV)(v3:Int)(v4:ByteArray)(v5 v6 v7:List DV)(v8:Int)(v9 v10:List DV):St :=
 zr 48 [(1,(.d (.sl 1 v0))),(2,(.ptr 2 415 0 [])),(4,(.ptr 4 416 0 [])),(6,(.ptr 6 3 0 [])),(7,(.d (eI v1)))] [(2,(.mk false (.dc 415 [(.agg 6 [(.sl 2 v2),(eI v3),(.agg 0 [(.str v4),(.sl 1 v5),(.sl 1 v6)]),(.agg 1 [(.sl 1 v7),(eI v8)]),(.agg 3 v9)])]))),(4,(.mk false (.dc 416 [(.agg 4 [(.agg 0 [(.str (bs [])),(eI 0),.nl]),(.agg 0 [(.str (bs [])),.nl,.nl]),(.agg 1 [.nl,(eI 0)]),(.agg 3 (Ai (α:=DV) 8 (.agg 2 (Ai (α:=DV) 51 (eI 0)))))])]))),(6,(.mk false (.ac 3 [(.agg 0 [(.d (.str (bs [97]))),(.d (eI v3)),(.own 35 0 (Aa v10) 3)])]))),(35,(.mk false (.dc 3 v10)))]
noncomputable def zIZ(v0:List DV)(v1:Int)(v2:List DV)(v3:Int)(v4:ByteArray)(v5 v6 v7:List DV)(v8:Int)(v9 v10:List DV):Option CR:=goQ 55 0 (S55_0b v0 v1 v2 v3 v4 v5 v6 v7 v8 v9 v10)
theorem L55_0a_eq(v0 v1:List DV)(v2:Int)(v3:ByteArray)(v4 v5 v6:List DV)(v7:Int)(v8:List DV):L55_0a v0 v1 v2 v3 v4 v5 v6 v7 v8 =
 ifO (decide ((0:Int)<(((Aa v0):Nat):Int)))
 (ifO (decide (((0:Int)<=(0:Int))/\((0:Int)<(((Aa v0):Nat):Int))))
 (ifO (zF EE 6 3 (nth v0 0))
 (zH (zB 174 [(eI (zC (nth v0 0)))])
 (λr0=>ifO (zF EE 6 9 r0)
 (ifO (decide ((((1+(Bg (zX r0))):Nat):Int)<=(9223372036854775807:Int)))
 (ifO (decide (((0:Int)<=(0:Int))/\((0:Int)<(((Aa v0):Nat):Int))))
 (ifO (zF EE 6 3 (nth v0 0))
 (ifO (decide (((0:Int)<=(zC (nth v0 0)))/\((zC (nth v0 0))<(((Aa v1):Nat):Int))))
 (ifO (zF EE 6 141 (nth v1 (Ac (zC (nth v0 0)))))
 ((zIZ v0 (1:Int) v1 v2 v3 v4 v5 v6 v7 v8 [(.agg 9 [(.str ((bs [116])++(zX r0))),(.agg 1 [(eI (zC (nth (flds (nth v1 (Ac (zC (nth v0 0))))) 0))),(eI (zC (nth (flds (nth v1 (Ac (zC (nth v0 0))))) 1)))])])]))
 (none))
 (none))
 (none))
 (none))
 (none))
 (none))
 (λ_ _=>none))
 (none))
 (none))
 (zH (zB 69 [(.agg 0 [(.str (bs [97])),(eI v2),(.sl 3 [])])])
 (λr3=>ifO (zF EE 6 3 r3)
 (some (.val (.tup [(.agg 4 [(.agg 0 [(.str (bs [97])),(eI v2),(.sl 3 [])]),(.agg 0 [(.str v3),(.sl 1 v4),(.sl 1 v5)]),(.agg 1 [(.sl 1 v6),(eI v7)]),(.agg 3 v8)]),(.bool ((zC r3) == (0:Int)))])))
 (none))
 (λ_ _=>none)) :=
 (zb 55 0 _).trans (by kernel_rfl)
theorem zHP(v0:List DV)(v1:Int)(v2:List DV)(v3:Int)(v4:ByteArray)(v5 v6 v7:List DV)(v8:Int)(v9 v10:List DV):zIZ v0 v1 v2 v3 v4 v5 v6 v7 v8 v9 v10 =
 ifO (decide (v1<(((Aa v0):Nat):Int)))
 (ifO (decide (((0:Int)<=v1)/\(v1<(((Aa v0):Nat):Int))))
 (ifO (zF EE 6 3 (nth v0 (Ac v1)))
 (zH (zB 174 [(eI (zC (nth v0 (Ac v1))))])
 (λr6=>ifO (zF EE 6 9 r6)
 (ifO (decide ((((1+(Bg (zX r6))):Nat):Int)<=(9223372036854775807:Int)))
 (ifO (decide (((0:Int)<=v1)/\(v1<(((Aa v0):Nat):Int))))
 (ifO (zF EE 6 3 (nth v0 (Ac v1)))
 (ifO (decide (((0:Int)<=(zC (nth v0 (Ac v1))))/\((zC (nth v0 (Ac v1)))<(((Aa v2):Nat):Int))))
 (ifO (zF EE 6 141 (nth v2 (Ac (zC (nth v0 (Ac v1))))))
 (ifO (decide ((Aa v10)=(Aa v10)))
 (ifO (decide ((((2 * ((Aa v10)+1))+200) * 32)<=281474976710656))
 ((zIZ v0 (Ab .i64 (v1+(1:Int))) v2 v3 v4 v5 v6 v7 v8 v9 (v10++[(.agg 9 [(.str ((bs [116])++(zX r6))),(.agg 1 [(eI (zC (nth (flds (nth v2 (Ac (zC (nth v0 (Ac v1)))))) 0))),(eI (zC (nth (flds (nth v2 (Ac (zC (nth v0 (Ac v1)))))) 1)))])])])))
 (none))
 (none))
 (none))
 (none))
 (none))
 (none))
 (none))
 (none))
 (λ_ _=>none))
 (none))
 (none))
 (ifO (decide ((0+(Aa v10))<=(Aa v10)))
 (zH (zB 69 [(.agg 0 [(.str (bs [97])),(eI v3),(.sl 3 (Ar (Aa v10) (Aw 0 v10)))])])
 (λr9=>ifO (zF EE 6 3 r9)
 (ifO (decide ((0+(Aa v10))<=(Aa v10)))
 (some (.val (.tup [(.agg 4 [(.agg 0 [(.str (bs [97])),(eI v3),(.sl 3 (Ar (Aa v10) (Aw 0 v10)))]),(.agg 0 [(.str v4),(.sl 1 v5),(.sl 1 v6)]),(.agg 1 [(.sl 1 v7),(eI v8)]),(.agg 3 v9)]),(.bool ((zC r9) == (0:Int)))])))
 (none))
 (none))
 (λ_ _=>none))
 (none)) :=
 (zb 55 0 _).trans (by kernel_rfl)
theorem C55(x0 x1:DV):zB 55 [x0,x1] =
 ifO (zV (zF EE 6) [83,25] [x0,x1])
 ((L55_0a (elems x1) (elems (nth (flds x0) 0)) (zC (nth (flds x0) 1)) (zX (nth (flds (nth (flds x0) 2)) 0)) (elems (nth (flds (nth (flds x0) 2)) 1)) (elems (nth (flds (nth (flds x0) 2)) 2)) (elems (nth (flds (nth (flds x0) 3)) 0)) (zC (nth (flds (nth (flds x0) 3)) 1)) (flds (nth (flds x0) 4))))
 (none) :=
 (zM (f:=55) (by kernel_rfl) (by kernel_rfl) (by kernel_rfl) [x0,x1]).trans (by kernel_rfl)
theorem C47(x0 x1 x2:DV):zB 47 [x0,x1,x2] =
 ifO (zV (zF EE 6) [83,25,3] [x0,x1,x2])
 (zH (zB 165 [(.agg 6 [(.sl 2 (elems (nth (flds x0) 0))),(eI (zC (nth (flds x0) 1))),(.agg 0 [(.str (zX (nth (flds (nth (flds x0) 2)) 0))),(.sl 1 (elems (nth (flds (nth (flds x0) 2)) 1))),(.sl 1 (elems (nth (flds (nth (flds x0) 2)) 2)))]),(.agg 1 [(.sl 1 (elems (nth (flds (nth (flds x0) 3)) 0))),(eI (zC (nth (flds (nth (flds x0) 3)) 1)))]),(.agg 3 (flds (nth (flds x0) 4)))]),(.sl 1 (elems x1)),(.sl 1 []),(eI 0),(eI (zC x2))])
 (λr0=>ifO ((DV.isTup r0) && (zV (zF EE 6) [25,3,4] (tups r0)))
 (some (.val (.tup [(.sl 1 (elems (nth (tups r0) 0))),(eI (zC (nth (tups r0) 1))),(.bool (jm (nth (tups r0) 2)))])))
 (none))
 (λ_ _=>none))
 (none) :=
 (zM (f:=47) (by kernel_rfl) (by kernel_rfl) (by kernel_rfl) [x0,x1,x2]).trans (by kernel_rfl)
end Go.Am
namespace Go.Am
open Go.Proofs
open Go
variable[OO]
def S165_0a(v0 v1:List DV)(v2 v3:Int)(v4:List DV)(v5:Int)(v6:ByteArray)(v7 v8 v9:List DV)(v10:Int)(v11:List DV):St :=
 zr 77 [(1,(.d (.sl 1 v0))),(2,(.d (.sl 1 v1))),(4,(.d (eI v2))),(5,(.ptr 5 415 0 [])),(15,(.d .nl)),(16,(.d (eI 0))),(17,(.d (.bool false))),(18,(.d (eI v3)))] [(5,(.mk false (.dc 415 [(.agg 6 [(.sl 2 v4),(eI v5),(.agg 0 [(.str v6),(.sl 1 v7),(.sl 1 v8)]),(.agg 1 [(.sl 1 v9),(eI v10)]),(.agg 3 v11)])])))]
noncomputable def zBe(v0 v1:List DV)(v2 v3:Int)(v4:List DV)(v5:Int)(v6:ByteArray)(v7 v8 v9:List DV)(v10:Int)(v11:List DV):Option CR:=goQ 165 0 (S165_0a v0 v1 v2 v3 v4 v5 v6 v7 v8 v9 v10 v11)
def S165_0b(v0 v1:List DV)(v2:Int)(v3:List DV)(v4 v5:Int)(v6:List DV)(v7:Int)(v8:ByteArray)(v9 v10 v11:List DV)(v12:Int)(v13:List DV):St :=
 zr 77 [(1,(.d (.sl 1 v0))),(2,(.d (.sl 1 v1))),(4,(.d (eI v2))),(5,(.ptr 5 415 0 [])),(15,(.d (.sl 1 v3))),(16,(.d (eI v4))),(17,(.d (.bool true))),(18,(.d (eI v5)))] [(5,(.mk false (.dc 415 [(.agg 6 [(.sl 2 v6),(eI v7),(.agg 0 [(.str v8),(.sl 1 v9),(.sl 1 v10)]),(.agg 1 [(.sl 1 v11),(eI v12)]),(.agg 3 v13)])])))]
noncomputable def Ju(v0 v1:List DV)(v2:Int)(v3:List DV)(v4 v5:Int)(v6:List DV)(v7:Int)(v8:ByteArray)(v9 v10 v11:List DV)(v12:Int)(v13:List DV):Option CR:=goQ 165 0 (S165_0b v0 v1 v2 v3 v4 v5 v6 v7 v8 v9 v10 v11 v12 v13)
theorem zFA(v0 v1:List DV)(v2 v3:Int)(v4:List DV)(v5:Int)(v6:ByteArray)(v7 v8 v9:List DV)(v10:Int)(v11:List DV):zBe v0 v1 v2 v3 v4 v5 v6 v7 v8 v9 v10 v11 =
 ifO (decide (v3<(((Aa v0):Nat):Int)))
 (ifO (decide ((((2 * (0+(Aa v1)))+200) * 8)<=281474976710656))
 (ifO (AX v1)
 (ifO (decide (((0:Int)<=v3)/\(v3<(((Aa v0):Nat):Int))))
 (ifO (zF EE 6 3 (nth v0 (Ac v3)))
 (zH (zB 165 [(.agg 6 [(.sl 2 v4),(eI v5),(.agg 0 [(.str v6),(.sl 1 v7),(.sl 1 v8)]),(.agg 1 [(.sl 1 v9),(eI v10)]),(.agg 3 v11)]),(.sl 1 v0),(.sl 1 [(eI (zC (nth v0 (Ac v3))))]),(eI (Ab .i64 (v3+(1:Int)))),(eI (Ab .i64 (v2 - (1:Int))))])
 (λr6=>ifO ((DV.isTup r6) && (zV (zF EE 6) [25,3,4] (tups r6)))
 (ifO (jm (nth (tups r6) 2))
 ((Ju v0 v1 v2 (elems (nth (tups r6) 0)) (zC (nth (tups r6) 1)) (Ab .i64 (v3+(1:Int))) v4 v5 v6 v7 v8 v9 v10 v11))
 ((zBe v0 v1 v2 (Ab .i64 (v3+(1:Int))) v4 v5 v6 v7 v8 v9 v10 v11)))
 (none))
 (λ_ _=>none))
 (none))
 (none))
 (ifO (decide (((0:Int)<=v3)/\(v3<(((Aa v0):Nat):Int))))
 (ifO (zF EE 6 3 (nth v0 (Ac v3)))
 (ifO (decide ((Aa ([]++v1))=(Aa ([]++v1))))
 (ifO (decide ((((2 * ((Aa ([]++v1))+1))+200) * 8)<=281474976710656))
 (ifO (decide ((0+(Aa (([]++v1)++[(eI (zC (nth v0 (Ac v3))))])))<=(Aa (([]++v1)++[(eI (zC (nth v0 (Ac v3))))]))))
 (zH (zB 165 [(.agg 6 [(.sl 2 v4),(eI v5),(.agg 0 [(.str v6),(.sl 1 v7),(.sl 1 v8)]),(.agg 1 [(.sl 1 v9),(eI v10)]),(.agg 3 v11)]),(.sl 1 v0),(.sl 1 (Ar (Aa (([]++v1)++[(eI (zC (nth v0 (Ac v3))))])) (Aw 0 (([]++v1)++[(eI (zC (nth v0 (Ac v3))))])))),(eI (Ab .i64 (v3+(1:Int)))),(eI (Ab .i64 (v2 - (1:Int))))])
 (λr9=>ifO ((DV.isTup r9) && (zV (zF EE 6) [25,3,4] (tups r9)))
 (ifO (jm (nth (tups r9) 2))
 ((Ju v0 v1 v2 (elems (nth (tups r9) 0)) (zC (nth (tups r9) 1)) (Ab .i64 (v3+(1:Int))) v4 v5 v6 v7 v8 v9 v10 v11))
 ((zBe v0 v1 v2 (Ab .i64 (v3+(1:Int))) v4 v5 v6 v7 v8 v9 v10 v11)))
 (none))
 (λ_ _=>none))
 (none))
 (none))
 (none))
 (none))
 (none)))
 (none))
 (some (.val (.tup [(.sl 1 []),(eI 0),(.bool false)]))) :=
 (zb 165 0 _).trans (by kernel_rfl)
theorem zE9(v0 v1:List DV)(v2:Int)(v3:List DV)(v4 v5:Int)(v6:List DV)(v7:Int)(v8:ByteArray)(v9 v10 v11:List DV)(v12:Int)(v13:List DV):Ju v0 v1 v2 v3 v4 v5 v6 v7 v8 v9 v10 v11 v12 v13 =
 ifO (decide (v5<(((Aa v0):Nat):Int)))
 (ifO (decide ((((2 * (0+(Aa v1)))+200) * 8)<=281474976710656))
 (ifO (AX v1)
 (ifO (decide (((0:Int)<=v5)/\(v5<(((Aa v0):Nat):Int))))
 (ifO (zF EE 6 3 (nth v0 (Ac v5)))
 (zH (zB 165 [(.agg 6 [(.sl 2 v6),(eI v7),(.agg 0 [(.str v8),(.sl 1 v9),(.sl 1 v10)]),(.agg 1 [(.sl 1 v11),(eI v12)]),(.agg 3 v13)]),(.sl 1 v0),(.sl 1 [(eI (zC (nth v0 (Ac v5))))]),(eI (Ab .i64 (v5+(1:Int)))),(eI (Ab .i64 (v2 - (1:Int))))])
 (λr12=>ifO ((DV.isTup r12) && (zV (zF EE 6) [25,3,4] (tups r12)))
 (ifO (jm (nth (tups r12) 2))
 (ifO (decide ((zC (nth (tups r12) 1))>v4))
 ((Ju v0 v1 v2 (elems (nth (tups r12) 0)) (zC (nth (tups r12) 1)) (Ab .i64 (v5+(1:Int))) v6 v7 v8 v9 v10 v11 v12 v13))
 ((Ju v0 v1 v2 v3 v4 (Ab .i64 (v5+(1:Int))) v6 v7 v8 v9 v10 v11 v12 v13)))
 ((Ju v0 v1 v2 v3 v4 (Ab .i64 (v5+(1:Int))) v6 v7 v8 v9 v10 v11 v12 v13)))
 (none))
 (λ_ _=>none))
 (none))
 (none))
 (ifO (decide (((0:Int)<=v5)/\(v5<(((Aa v0):Nat):Int))))
 (ifO (zF EE 6 3 (nth v0 (Ac v5)))
 (ifO (decide ((Aa ([]++v1))=(Aa ([]++v1))))
 (ifO (decide ((((2 * ((Aa ([]++v1))+1))+200) * 8)<=281474976710656))
 (ifO (decide ((0+(Aa (([]++v1)++[(eI (zC (nth v0 (Ac v5))))])))<=(Aa (([]++v1)++[(eI (zC (nth v0 (Ac v5))))]))))
 (zH (zB 165 [(.agg 6 [(.sl 2 v6),(eI v7),(.agg 0 [(.str v8),(.sl 1 v9),(.sl 1 v10)]),(.agg 1 [(.sl 1 v11),(eI v12)]),(.agg 3 v13)]),(.sl 1 v0),(.sl 1 (Ar (Aa (([]++v1)++[(eI (zC (nth v0 (Ac v5))))])) (Aw 0 (([]++v1)++[(eI (zC (nth v0 (Ac v5))))])))),(eI (Ab .i64 (v5+(1:Int)))),(eI (Ab .i64 (v2 - (1:Int))))])
 (λr15=>ifO ((DV.isTup r15) && (zV (zF EE 6) [25,3,4] (tups r15)))
 (ifO (jm (nth (tups r15) 2))
 (ifO (decide ((zC (nth (tups r15) 1))>v4))
 ((Ju v0 v1 v2 (elems (nth (tups r15) 0)) (zC (nth (tups r15) 1)) (Ab .i64 (v5+(1:Int))) v6 v7 v8 v9 v10 v11 v12 v13))
 ((Ju v0 v1 v2 v3 v4 (Ab .i64 (v5+(1:Int))) v6 v7 v8 v9 v10 v11 v12 v13)))
 ((Ju v0 v1 v2 v3 v4 (Ab .i64 (v5+(1:Int))) v6 v7 v8 v9 v10 v11 v12 v13)))
 (none))
 (λ_ _=>none))
 (none))
 (none))
 (none))
 (none))
 (none)))
 (none))
 (some (.val (.tup [(.sl 1 v3),(eI v4),(.bool true)]))) :=
 (zb 165 0 _).trans (by kernel_rfl)
theorem C165(x0 x1 x2 x3 x4:DV):zB 165 [x0,x1,x2,x3,x4] =
 ifO (zV (zF EE 6) [83,25,25,3,3] [x0,x1,x2,x3,x4])
 (ifO ((zC x4) == (0:Int))
 (zH (zB 55 [(.agg 6 [(.sl 2 (elems (nth (flds x0) 0))),(eI (zC (nth (flds x0) 1))),(.agg 0 [(.str (zX (nth (flds (nth (flds x0) 2)) 0))),(.sl 1 (elems (nth (flds (nth (flds x0) 2)) 1))),(.sl 1 (elems (nth (flds (nth (flds x0) 2)) 2)))]),(.agg 1 [(.sl 1 (elems (nth (flds (nth (flds x0) 3)) 0))),(eI (zC (nth (flds (nth (flds x0) 3)) 1)))]),(.agg 3 (flds (nth (flds x0) 4)))]),(.sl 1 (elems x2))])
 (λr0=>ifO ((DV.isTup r0) && (zV (zF EE 6) [34,4] (tups r0)))
 (ifO (!(jm (nth (tups r0) 1)))
 (some (.val (.tup [(.sl 1 []),(eI 0),(.bool false)])))
 (zH (zB 39 [(.agg 4 [(.agg 0 [(.str (zX (nth (flds (nth (flds (nth (tups r0) 0)) 0)) 0))),(eI (zC (nth (flds (nth (flds (nth (tups r0) 0)) 0)) 1))),(.sl 3 (elems (nth (flds (nth (flds (nth (tups r0) 0)) 0)) 2)))]),(.agg 0 [(.str (zX (nth (flds (nth (flds (nth (tups r0) 0)) 1)) 0))),(.sl 1 (elems (nth (flds (nth (flds (nth (tups r0) 0)) 1)) 1))),(.sl 1 (elems (nth (flds (nth (flds (nth (tups r0) 0)) 1)) 2)))]),(.agg 1 [(.sl 1 (elems (nth (flds (nth (flds (nth (tups r0) 0)) 2)) 0))),(eI (zC (nth (flds (nth (flds (nth (tups r0) 0)) 2)) 1)))]),(.agg 3 (flds (nth (flds (nth (tups r0) 0)) 3)))])])
 (λr1=>ifO (zF EE 6 3 r1)
 (some (.val (.tup [(.sl 1 (elems x2)),(eI (zC r1)),(.bool true)])))
 (none))
 (λ_ _=>none)))
 (none))
 (λ_ _=>none))
 ((zBe (elems x1) (elems x2) (zC x4) (zC x3) (elems (nth (flds x0) 0)) (zC (nth (flds x0) 1)) (zX (nth (flds (nth (flds x0) 2)) 0)) (elems (nth (flds (nth (flds x0) 2)) 1)) (elems (nth (flds (nth (flds x0) 2)) 2)) (elems (nth (flds (nth (flds x0) 3)) 0)) (zC (nth (flds (nth (flds x0) 3)) 1)) (flds (nth (flds x0) 4)))))
 (none) :=
 (zM (f:=165) (by kernel_rfl) (by kernel_rfl) (by kernel_rfl) [x0,x1,x2,x3,x4]).trans (by kernel_rfl)
end Go.Am
namespace Go.Am
open Go.Proofs
open Go
class KnX[OO]:Prop where
 text:∀n:Nat,n<=9->zB 174 [eN n]=some (.val (.str (txtN n)))
variable[OO]
theorem hPn'(p:Pn)(hr:zu p.r):zF EE 6 83 (ePn p)=true:=by rw[h83];simp[hr.1]
def zIF(p:Pn):Bool:=if shortW p.w then (if (p.c.p.length:Int)<=52 then decide (blowR 0 p.r<=4) else false) else false
def zGD(p:Pn)(n:Int):Bool:=if (p.ps.length:Int)<=n\/(p.ps.length:Int)=9\/(p.ps.length:Int)=65 then zIF p else false
theorem shortT_eq(p:Pn)(hr:zu p.r) :
  zH (zB 63 [eWk p.w]) (λr0=>ifO (zF EE 6 4 r0) (ifO (jm r0) (zH (zB 105 [eCu p.c]) (λr1=>ifO (zF EE 6 4 r1) (ifO (jm r1) (zH (zB 128 [eRo p.r]) (λr2=>ifO (zF EE 6 3 r2) (some (.val (.bool (decide ((zC r2)<=(4:Int)))))) (none)) (λ_ _=>none)) (some (.val (.bool false)))) (none)) (λ_ _=>none)) (some (.val (.bool false)))) (none)) (λ_ _=>none)=some (.val (.bool (zIF p))):=by
 unfold zIF;rw[c63 p.w];cases hW:shortW p.w with
 | false=>simp only[zJ,h4,zD,zp,zU,Bb,if_false]
 | true =>
  simp only[zJ,h4,zD,zp,c105 p.c,if_true];by_cases hc:(p.c.p.length:Int)<=52
  ·rw[decide_eq_true hc,if_pos hc];simp only[zD,c128 p.r hr,zJ,h3,zI];exact congrArg (λb=>some (CR.val (DV.bool b))) (decide_eq_decide.2 Iff.rfl)
  ·rw[decide_eq_false hc,if_neg hc,zU]
theorem c43(p:Pn)(hr:zu p.r)(n:Int):zB 43 [ePn p,eI n]=some (.val (.bool (zGD p n))):=by
 rw[C43];simp only[zK,zN,hPn' p hr,h3,Af,zD,zQ,zS,zW,zh,zi,je,zZ,zI,zR,Ad,shortT_eq p hr];unfold zGD;by_cases h1:(p.ps.length:Int)<=n
 ·rw[decide_eq_true h1,zD,if_pos (.inl h1)]
 ·rw[decide_eq_false h1,zU];by_cases h2:(p.ps.length:Int)=9
  ·rw[if_pos (.inr (.inl h2)),show((p.ps.length:Int) == 9)=true from beq_iff_eq.2 h2,zD]
  ·rw[show((p.ps.length:Int) == 9)=false from beq_eq_false_iff_ne.2 h2,zU]
   by_cases h3':(p.ps.length:Int)=65
   ·rw[if_pos (.inr (.inr h3')),show((p.ps.length:Int) == 65)=true from beq_iff_eq.2 h3',zD]
   ·rw[show((p.ps.length:Int) == 65)=false from beq_eq_false_iff_ne.2 h3',zU,if_neg (by omega)]
theorem c45(p:Pn)(hr:zu p.r)(h1:p.ps.length<=100000)(h2:p.w.d.length<=100000)(h3':p.w.w.length<=100000)(h4':p.c.p.length<=100000):zB 45 [ePn p]=some (.val (ePn p)):=by
 rw[C45];simp only[zK,zN,hPn' p hr,Af,zD,zQ,zS,zW,zh,zi,je,zZ,zI,zR,Ad,c67 p.w (by omega) (by omega),c107 p.c (by omega),zJ,h59,h60,Ap,At,AC,decide_true,Aj]
 rw[decide_eq_true (show(2 * p.ps.length+200) * 16<=281474976710656 by omega),zD]
 by_cases h0:p.ps=[]
 ·show _=some (CR.val (.agg 6 [.sl 2 (p.ps.map ePt),eI p.least,eWk p.w,eCu p.c,eRo p.r]));rw[h0];rfl
 ·have hne:(p.ps.map ePt).isEmpty=false:=by
   cases hp:p.ps with
   | nil=>exact absurd hp h0
   | cons a l=>rfl
  rw[hne,zU,Ah (by simp)]
theorem eqPt(a b:Pt):YT EE 141 (ePt a) (ePt b)=some (decide (a=b)):=by
 refine(show YT EE 141 (.agg 1 [eI a.x,eI a.y]) (.agg 1 [eI b.x,eI b.y])=some ((a.x == b.x) && ((a.y == b.y) && true)) by kernel_rfl).trans ?_
 obtain⟨ax,ay⟩:=a;obtain⟨bx,by'⟩:=b
 by_cases h1:ax=bx <;> by_cases h2:ay=by' <;> simp[h1,h2]
theorem l46_1(p:Pn)(hl:p.ps.length<=64)(i:Nat)(hi:i<p.ps.length):∀k,k<=i->zIc i k (p.ps.map ePt) p.least p.w.rule (p.w.d.map eI) (p.w.w.map eI) (p.c.p.map eI) p.c.cut (p.r.map jC) =
  if ((p.ps.take i).drop k).any (λq=>decide (p.ps[i]=q))=true then some (.val (eI 9)) else zGb ((i+1:Nat):Int) (p.ps.map ePt) p.least p.w.rule (p.w.d.map eI) (p.w.w.map eI) (p.c.p.map eI) p.c.cut (p.r.map jC):=by
 apply down
 ·rw[zHS];simp only[An,decide_false,zU];rw[wr ((i:Int)+1) (by omega),List.drop_of_length_le (by simp;omega)]
  rfl
 ·intro k hk ih;have e1:(k:Int)<(i:Int):=by omega
  have e0:(0:Int)<=(k:Int):=by omega
  have e2:(k:Int)<p.ps.length:=by omega
  have e3:(0:Int)<=(i:Int):=by omega
  have e4:(i:Int)<p.ps.length:=by omega
  have hk':k<p.ps.length:=by omega
  have hd:(p.ps.take i).drop k=p.ps[k] :: (p.ps.take i).drop (k+1):=by
   have:=za (p.ps.take i) k (by simp;omega)
   rwa [Bf] at this
  rw[zHS,hd,AL];simp only[Ad,e0,e1,e2,e3,e4,and_self,decide_true,zD,Ae,zO _ p.ps k hk',zO _ p.ps i hi,h141,zQ,zS,zW,zI,m1,eqPt,Bc];rw[wr ((k:Int)+1) (by omega)]
  by_cases he:p.ps[k]=p.ps[i]
  ·rw[decide_eq_true he,decide_eq_true he.symm];simp
  ·rw[decide_eq_false he,decide_eq_false (λh=>he h.symm)]
   simp only[Bj,zU,AT];exact ih
theorem name_a:jJ (bs [97])=true:=by decide
theorem l46_0(p:Pn)(hr:zu p.r)(hl:p.ps.length<=64):∀i,i<=p.ps.length->zGb i (p.ps.map ePt) p.least p.w.rule (p.w.d.map eI) (p.w.w.map eI) (p.c.p.map eI) p.c.cut (p.r.map jC) =
  some (.val (eI (if JE (p.ps.take i) (p.ps.drop i)=0 then restE p else JE (p.ps.take i) (p.ps.drop i)))):=by
 apply down
 ·rw[zHT];have hs:zB 69 [.agg 0 [.str (bs [97]),.int .i64 p.least,.sl 3 []]]=some (.val (eI (zf p.least 1 1000))):=(c69 ⟨bs [97],p.least,[]⟩).trans (by rw[site0 _ name_a])
  simp only[Ad,An,decide_false,zU,hs,zJ,h3,zD,zI,c71,c110,c129 p.r hr,c35_4,AE,JE,if_true];rfl
 ·intro i hi ih;have e1:(i:Int)<p.ps.length:=by omega
  have e0:(0:Int)<=(i:Int):=by omega
  have h1:=l46_1 p hl i hi 0 (Ak _);rw[Aj,ih] at h1;rw[zHT,za p.ps i hi];simp only[Ad,e1,e0,and_self,decide_true,zD,Ae,zO _ p.ps i hi,h141,zQ,zS,zW,zI,c164,zJ,h3];rw[JE,<-Al hi];have hS:zGI (p.ps.take i) p.ps[i]=if ptE p.ps[i]=0 then (if (p.ps.take i).any (λq=>decide (p.ps[i]=q))=true then 9 else 0) else ptE p.ps[i]:=by
   unfold zGI zT zT zT;by_cases hz:ptE p.ps[i]=0
   ·rw[if_pos hz,if_pos hz];by_cases hb:(p.ps.take i).any (λq=>decide (p.ps[i]=q))=true
    ·rw[if_pos hb];rfl
    ·rw[if_neg hb];rfl
   ·rw[if_neg hz,if_neg hz]
  by_cases hz:ptE p.ps[i]=0
  ·rw[bne_z hz,zU];rw[if_pos hz] at hS;refine Eq.trans (show _=_ from h1) ?_
   by_cases hb:(p.ps.take i).any (λq=>decide (p.ps[i]=q))=true
   ·rw[if_pos hb] at hS;rw[if_pos hb,hS];rfl
   ·rw[if_neg hb] at hS;rw[if_neg hb,hS];rfl
  ·rw[bne_n hz,zD];rw[if_neg hz] at hS;rw[hS,if_neg hz,if_neg hz]
theorem c46(p:Pn)(hr:zu p.r):zB 46 [ePn p]=some (.val (eI (zAU p))):=by
 rw[C46];simp only[zK,zN,hPn' p hr,Af,zD,zQ,zS,zW,zh,zi,je,zZ,zI,zR,Ad];unfold zAU;by_cases h:64<p.ps.length
 ·rw[if_pos h];exact ifO_decT (by omega) _ _
 ·rw[if_neg h];refine(ifO_decF (by omega) _ _).trans ?_
  have:=l46_0 p hr (by omega) 0 (Ak _)
  rw[List.take_zero,Aj] at this;exact this
def choR(p:Pn)(l:List Nat):CR:=.val (.tup [eFm ⟨Ja p l,p.w,p.c,p.r⟩,.bool (jM (Ja p l) == 0)])
theorem zI8(n:Nat):(txtN n).size=1:=rfl
theorem l55b[KnX](p:Pn)(h10:p.ps.length<=10)(l:List Nat)(hl:l.length<=64)(hi:∀i∈l,i<p.ps.length):∀k,k<=l.length->zIZ (l.map eN) k (p.ps.map ePt) p.least p.w.rule (p.w.d.map eI) (p.w.w.map eI) (p.c.p.map eI) p.c.cut (p.r.map jC) (((l.take k).map (tbT p)).map eTb)=some (choR p l):=by
 apply down
 ·rw[zHP];have hs:zB 69 [.agg 0 [.str (bs [97]),.int .i64 p.least,.sl 3 ((l.map (tbT p)).map eTb)]]=some (.val (eI (jM (Ja p l)))):=c69 (Ja p l);simp only[Ad,An,decide_false,zU,At,AC,decide_true,zD,Aj,Bh];rw[Ah (by simp),hs]
  simp only[zJ,h3,zD,zI];rfl
 ·intro k hk ih;have e1:(k:Int)<l.length:=by omega
  have e0:(0:Int)<=(k:Int):=by omega
  have hm:min k l.length=k:=by omega
  have hlk:l[k]<p.ps.length:=hi _ (Ag hk);have e2:(2 * (k+1)+200) * 32<=281474976710656:=by omega
  have e3:(0:Int)<=(l[k]:Int):=by omega
  have e4:(l[k]:Int)<p.ps.length:=by omega
  have e5:((1+1:Nat):Int)<=9223372036854775807:=by omega
  rw[<-ih,zHP];simp only[Ad,Bi,hm,e0,e1,e2,e3,e4,and_self,decide_true,zD,Ae,zO _ l k hk,zO _ p.ps l[k] hlk,h3,h9,h141,zI,zZ,zQ,zS,zW,KnX.text l[k] (by omega),zJ,zI8,e5]
  rw[wr ((k:Int)+1) (by omega),Al hk,AA,AA]
  have:tbT p l[k]=⟨bs [116]++txtN l[k],p.ps[l[k]]⟩:=by unfold tbT;rw[zBP p.ps _ hlk];rfl
  rw[AD,AO,AD,AO,this];rfl
theorem c55[KnX](p:Pn)(hr:zu p.r)(h10:p.ps.length<=10)(l:List Nat)(hl:l.length<=64)(hi:∀i∈l,i<p.ps.length):zB 55 [ePn p,.sl 1 (l.map eN)]=some (choR p l):=by
 rw[C55];simp only[zK,zN,hPn' p hr,h25,Af,zD,zQ,zS,zW,zh,zi,je,zZ,zI,zR];rw[L55_0a_eq];by_cases h:l=[]
 ·subst h;have hs:zB 69 [.agg 0 [.str (bs [97]),.int .i64 p.least,.sl 3 []]]=some (.val (eI (jM (Ja p [])))):=c69 (Ja p []);refine(ifO_decF (by simp) _ _).trans ?_
  rw[hs];simp only[zJ,h3,zD,zI];rfl
 ·have h0:0<l.length:=AN.2 h;have e1:(0:Int)<l.length:=by omega
  have hlk:l[0]<p.ps.length:=hi _ (Ag h0);have e3:(0:Int)<=(l[0]:Int):=by omega
  have e4:(l[0]:Int)<p.ps.length:=by omega
  have e5:((1+1:Nat):Int)<=9223372036854775807:=by omega
  have h1:=l55b p h10 l hl hi 1 (by omega)
  rw[tk1 l h0,AD,AO,show tbT p l[0]=⟨bs [116]++txtN l[0],p.ps[l[0]]⟩ by unfold tbT;rw[zBP p.ps _ hlk];rfl] at h1
  simp only[Ad,e1,e3,e4,AS,and_self,decide_true,zD,zO _ l 0 h0,Ae,zO _ p.ps l[0] hlk,h3,h9,h141,zI,zZ,zQ,zS,zW,KnX.text l[0] (by omega),zJ,zI8,e5]
  exact h1
end Go.Am
namespace Go.Am
open Go.Proofs
open Go
variable[OO]
def eRr:Ch->CR
 | none=>.val (.tup [.sl 1 [],eI 0,.bool false])
 | some x=>.val (.tup [.sl 1 (x.1.map eN),eI x.2,.bool true])
noncomputable def I165(p:Pn)(l taken:List Nat)(n k:Nat):Ch->Option CR
 | none=>zBe (l.map eN) (taken.map eN) n k (p.ps.map ePt) p.least p.w.rule (p.w.d.map eI) (p.w.w.map eI) (p.c.p.map eI) p.c.cut (p.r.map jC)
 | some x=>Ju (l.map eN) (taken.map eN) n (x.1.map eN) x.2 k (p.ps.map ePt) p.least p.w.rule (p.w.d.map eI) (p.w.w.map eI) (p.c.p.map eI) p.c.cut (p.r.map jC)
theorem zHU{p:Pn}(h:PlanOK p){l:List Nat}(hl:l.length<=64)(hi:∀i∈l,i<p.ps.length):okFm ⟨Ja p l,p.w,p.c,p.r⟩ :=
 ⟨h.v.w,h.v.k,h.v.c,h.v.r,h.v.q,by show(zo (Ja p l)).length<=64;rw[zAm,Ad];exact hl,λq hq=>by
  have hq:q∈zo (Ja p l):=hq;rw[zAm] at hq;obtain⟨i,hi',rfl⟩:=AJ.1 hq;rw[zBP p.ps i (hi i hi')];exact h.v.p _ (Ag _)⟩
theorem pick_none'(st:Ch):pick st none=st:=by cases st <;> rfl
section
variable[KnW][KnX](p:Pn)(h:PlanOK p)
include h
theorem n165_0(l taken:List Nat)(hl:l.length<=1000)(k:Nat)(ht:taken.length<=64)(hi:∀i∈taken,i<p.ps.length) :
  zB 165 [ePn p,.sl 1 (l.map eN),.sl 1 (taken.map eN),eN k,eN 0]=some (eRr (if okC p taken then some (taken,enP p taken) else none)):=by
 have hv:=zHU h ht hi;have e55:=c55 p h.v.r (by have:=h.l;omega) taken ht hi
 have e39:=c39 ⟨Ja p taken,p.w,p.c,p.r⟩ hv;have hF:=hFm' ⟨Ja p taken,p.w,p.c,p.r⟩ h.v.r;unfold choR at e55;rw[chosen_0 p h.least taken ht] at e55;rw[C165];simp only[zK,zN,hPn' p h.v.r,h25,h3,Af,zD,zQ,zS,zW,zh,zi,je,zZ,zI,zR];rw[show(((0:Nat):Int) == 0)=true from rfl,zD,e55]
 simp only[zJ,z1,z8,zK,zN,hF,h4,Af,zD,zS,zW,zh,zi,zQ,zp,zZ,zI,zR];show ifO (!(okC p taken)) _ _=_;cases hok:okC p taken with
 | false=>simp only[Bj,zD,Bb,if_false];rfl
 | true =>
  rw[Bl,zU];refine(congrArg (λx=>zH x _ _) e39).trans ?_
  simp only[zJ,h3,zD,zI,if_true];show _=some (CR.val (.tup [.sl 1 (taken.map eN),eI (enP p taken),.bool true]));show some (CR.val (.tup [.sl 1 (taken.map eN),eI (jl p.w p.c p.r (zo (Ja p taken)) 0),.bool true]))=_;rw[zAm];rfl
theorem n165_l(l:List Nat)(hl:l.length<=1000)(n:Nat)
  (ih:∀taken k,taken.length+n<=64->k<=l.length->(∀i∈taken,i<p.ps.length)->zB 165 [ePn p,.sl 1 (l.map eN),.sl 1 (taken.map eN),eN k,eN n]=some (eRr (J7 (enP p) (okC p) (l.drop k) taken n)))
  (hls:∀i∈l,i<p.ps.length) (taken:List Nat) (ht:taken.length+(n+1)<=64) (hi:∀i∈taken,i<p.ps.length) :
  ∀k,k<=l.length->∀st,I165 p l taken (n+1) k st=some (eRr (pick st (J7 (enP p) (okC p) (l.drop k) taken (n+1)))):=by
 apply down (P:=λk=>∀st,I165 p l taken (n+1) k st=some (eRr (pick st (J7 (enP p) (okC p) (l.drop k) taken (n+1)))))
 ·intro st;rw[AE,J7,pick_none'];cases st with
  | none =>
   unfold I165;rw[zFA];simp only[Ad,An,decide_false,zU];rfl
  | some x =>
   unfold I165;dsimp only;rw[zE9];simp only[Ad,An,decide_false,zU];rfl
 ·intro k hk ihk st;have e1:(k:Int)<l.length:=by omega
  have e0:(0:Int)<=(k:Int):=by omega
  have e2:(2 * taken.length+200) * 8<=281474976710656:=by omega
  have e3:(2 * (taken.length+1)+200) * 8<=281474976710656:=by omega
  have w1:Ay.wrap ((k:Int)+1)=((k+1:Nat):Int):=by rw[wr ((k:Int)+1) (by omega)];rfl
  have w2:Ay.wrap (((n+1:Nat):Int) - 1)=(n:Int):=by rw[wr _ (by omega)];omega
  have hr:=ih (taken++[l[k]]) (k+1) (by simp;omega) (by omega) (λi hi'=>by
   rcases AM.1 hi' with h' | h'
   ·exact hi i h'
   ·rw[AQ] at h';subst h';exact hls _ (Ag hk))
  rw[AA,AD,AO] at hr;rw[za l k hk,J7,<-zEP,<-ihk];have hne:taken≠[]->(taken.map eN).isEmpty=false:=λh0=>by
   cases taken with
   | nil=>exact absurd rfl h0
   | cons a l=>rfl
  generalize J7 (enP p) (okC p) (l.drop (k+1)) (taken++[l[k]]) n=X at hr ⊢;cases st with
  | none =>
   unfold I165;rw[zFA];simp only[Ad,e1,e0,At,e2,and_self,decide_true,zD,Ae,zO _ l k hk,h3,zI,Ap,e3,Az,Aq,AB,AC,Aj,w1,w2];have key:∀a:List DV,a=taken.map eN++[eN l[k]]->zH (zB 165 [ePn p,.sl 1 (l.map eN),.sl 1 a,eN (k+1),eN n])
     (λr9=>ifO ((DV.isTup r9) && (zV (zF EE 6) [25,3,4] (tups r9)))
      (ifO (jm (nth (tups r9) 2)) (Ju (l.map eN) (taken.map eN) ((n+1:Nat):Int) (elems (nth (tups r9) 0)) (zC (nth (tups r9) 1)) ((k+1:Nat):Int) (p.ps.map ePt) p.least p.w.rule (p.w.d.map eI) (p.w.w.map eI) (p.c.p.map eI) p.c.cut (p.r.map jC))
       (zBe (l.map eN) (taken.map eN) ((n+1:Nat):Int) ((k+1:Nat):Int) (p.ps.map ePt) p.least p.w.rule (p.w.d.map eI) (p.w.w.map eI) (p.c.p.map eI) p.c.cut (p.r.map jC))) none) (λ_ _=>none)=I165 p l taken (n+1) (k+1) (pick none X):=by
    rintro _ rfl;rw[hr];cases X with
    | none=>simp only[eRr,zJ,z1,z8,zK,zN,h25,h3,h4,Af,zD,zS,zW,zh,zp,zU];rfl
    | some x=>simp only[eRr,zJ,z1,z8,zK,zN,h25,h3,h4,Af,zD,zS,zW,zh,zp,zR,zI];rfl
   by_cases h0:taken=[]
   ·subst h0;exact key [eN l[k]] rfl
   ·rw[hne h0,zU];exact key _ (by rw[Ah (by simp)])
  | some y =>
   unfold I165;dsimp only;rw[zE9];simp only[Ad,e1,e0,At,e2,and_self,decide_true,zD,Ae,zO _ l k hk,h3,zI,Ap,e3,Az,Aq,AB,AC,Aj,w1,w2];have key:∀a:List DV,a=taken.map eN++[eN l[k]]->zH (zB 165 [ePn p,.sl 1 (l.map eN),.sl 1 a,eN (k+1),eN n])
     (λr9=>ifO ((DV.isTup r9) && (zV (zF EE 6) [25,3,4] (tups r9)))
      (ifO (jm (nth (tups r9) 2)) (ifO (decide (zC (nth (tups r9) 1)>y.2)) (Ju (l.map eN) (taken.map eN) ((n+1:Nat):Int) (elems (nth (tups r9) 0)) (zC (nth (tups r9) 1)) ((k+1:Nat):Int) (p.ps.map ePt) p.least p.w.rule (p.w.d.map eI) (p.w.w.map eI) (p.c.p.map eI) p.c.cut (p.r.map jC))
       (Ju (l.map eN) (taken.map eN) ((n+1:Nat):Int) (y.1.map eN) y.2 ((k+1:Nat):Int) (p.ps.map ePt) p.least p.w.rule (p.w.d.map eI) (p.w.w.map eI) (p.c.p.map eI) p.c.cut (p.r.map jC)))
       (Ju (l.map eN) (taken.map eN) ((n+1:Nat):Int) (y.1.map eN) y.2 ((k+1:Nat):Int) (p.ps.map ePt) p.least p.w.rule (p.w.d.map eI) (p.w.w.map eI) (p.c.p.map eI) p.c.cut (p.r.map jC))) none) (λ_ _=>none)=I165 p l taken (n+1) (k+1) (pick (some y) X):=by
    rintro _ rfl;rw[hr];cases X with
    | none=>simp only[eRr,zJ,z1,z8,zK,zN,h25,h3,h4,Af,zD,zS,zW,zh,zp,zU];rfl
    | some x =>
     simp only[eRr,zJ,z1,z8,zK,zN,h25,h3,h4,Af,zD,zS,zW,zh,zp,zR,zI];by_cases hx:x.2>y.2
     ·refine(ifO_decT hx _ _).trans ?_;rw[show pick (some y) (some x)=some x from if_pos hx];rfl
     ·refine(ifO_decF hx _ _).trans ?_;rw[show pick (some y) (some x)=some y from if_neg hx];rfl
   by_cases h0:taken=[]
   ·subst h0;exact key [eN l[k]] rfl
   ·rw[hne h0,zU];exact key _ (by rw[Ah (by simp)])
theorem c165(l:List Nat)(hl:l.length<=1000)(hls:∀i∈l,i<p.ps.length):∀n taken k,taken.length+n<=64->k<=l.length->(∀i∈taken,i<p.ps.length) ->
  zB 165 [ePn p,.sl 1 (l.map eN),.sl 1 (taken.map eN),eN k,eN n]=some (eRr (J7 (enP p) (okC p) (l.drop k) taken n))
 | 0,taken,k,ht,hk,hi=>by
  rw[n165_0 p h l taken hl k (by omega) hi]
  cases l.drop k <;> rfl
 | n+1,taken,k,ht,hk,hi=>by
  have hloop:=n165_l p h l hl n (λtaken k a b c=>c165 l hl hls n taken k a b c) hls taken ht hi k hk none
  have e:pick none (J7 (enP p) (okC p) (l.drop k) taken (n+1))=J7 (enP p) (okC p) (l.drop k) taken (n+1):=rfl;rw[e] at hloop;rw[C165];simp only[zK,zN,hPn' p h.v.r,h25,h3,Af,zD,zQ,zS,zW,zh,zi,je,zZ,zI,zR];rw[beq_n (show((n+1:Nat):Int)≠0 by omega),zU]
  exact hloop
theorem c47(l:List Nat)(hl:l.length<=1000)(hls:∀i∈l,i<p.ps.length)(n:Nat)(hn:n<=64):zB 47 [ePn p,.sl 1 (l.map eN),eN n]=some (eRr (J7 (enP p) (okC p) l [] n)):=by
 have e:=c165 p h l hl hls n [] 0 (by simpa using hn) (Ak _) (λi hi=>by simp at hi)
 rw[Aj] at e;rw[C47];simp only[zK,zN,hPn' p h.v.r,h25,h3,Af,zD,zQ,zS,zW,zh,zi,je,zZ,zI,zR];refine(congrArg (λx=>zH x _ _) e).trans ?_
 cases J7 (enP p) (okC p) l [] n with
 | none=>simp only[eRr,zJ,z1,z8,zK,zN,h25,h3,h4,Af,zD,zS,zW,zh,zp,zR,zI]
 | some x=>simp only[eRr,zJ,z1,z8,zK,zN,h25,h3,h4,Af,zD,zS,zW,zh,zp,zR,zI]
end
end Go.Am
namespace Go.Am
open Go.Proofs
open Go
variable[OO]
theorem shortP_len{p:Pn}{n:Int}(h:zGD p n=true):((p.ps.length:Int)<=n\/p.ps.length=9\/p.ps.length=65)/\p.w.d.length<=33/\p.w.w.length<=33/\p.c.p.length<=52:=by
 unfold zGD at h;split at h
 ·rename_i h1;unfold zIF at h;split at h
  ·rename_i h2;split at h
   ·rename_i h3;simp only[shortW,Bool.and_eq_true] at h2;exact⟨by omega,short33_le h2.1.2,short33_le h2.2,by omega⟩
   ·cases h
  ·cases h
 ·cases h
end Go.Am
namespace Go.Am
open Go.Proofs
open Go
variable[OO]
def S6_0a(v0:List DV)(v1 v2 v3:Int)(v4:List DV)(v5:Int)(v6:ByteArray)(v7 v8 v9:List DV)(v10:Int)(v11:List DV):St :=
 zr 84 [(1,(.d (.sl 1 v0))),(2,(.d (eI v1))),(3,(.ptr 3 415 0 [])),(27,(.d (.sl 1 v0))),(28,(.d (eI v2))),(29,(.d (eI v3)))] [(3,(.mk false (.dc 415 [(.agg 6 [(.sl 2 v4),(eI v5),(.agg 0 [(.str v6),(.sl 1 v7),(.sl 1 v8)]),(.agg 1 [(.sl 1 v9),(eI v10)]),(.agg 3 v11)])])))]
noncomputable def L6_0a(v0:List DV)(v1 v2 v3:Int)(v4:List DV)(v5:Int)(v6:ByteArray)(v7 v8 v9:List DV)(v10:Int)(v11:List DV):Option CR:=goQ 6 0 (S6_0a v0 v1 v2 v3 v4 v5 v6 v7 v8 v9 v10 v11)
def S6_1014a(v0:List DV)(v1 v2 v3 v4:Int)(v5:List DV)(v6:Int)(v7:ByteArray)(v8 v9 v10:List DV)(v11:Int)(v12:List DV):St :=
 zr 84 [(1,(.d (.sl 1 v0))),(2,(.d (eI v1))),(3,(.ptr 3 415 0 [])),(9,(.d (eI v2))),(10,(.d (eI v3))),(11,(.d (eI v4)))] [(3,(.mk false (.dc 415 [(.agg 6 [(.sl 2 v5),(eI v6),(.agg 0 [(.str v7),(.sl 1 v8),(.sl 1 v9)]),(.agg 1 [(.sl 1 v10),(eI v11)]),(.agg 3 v12)])])))]
noncomputable def L6_1014a(v0:List DV)(v1 v2 v3 v4:Int)(v5:List DV)(v6:Int)(v7:ByteArray)(v8 v9 v10:List DV)(v11:Int)(v12:List DV):Option CR:=goQ 6 1014 (S6_1014a v0 v1 v2 v3 v4 v5 v6 v7 v8 v9 v10 v11 v12)
def S6_1016a(v0:List DV)(v1 v2 v3 v4:Int)(v5:List DV)(v6:Int)(v7:ByteArray)(v8 v9 v10:List DV)(v11:Int)(v12:List DV):St :=
 zr 84 [(1,(.d (.sl 1 v0))),(2,(.d (eI v1))),(3,(.ptr 3 415 0 [])),(9,(.d (eI v2))),(10,(.d (eI v3))),(11,(.d (eI v4)))] [(3,(.mk false (.dc 415 [(.agg 6 [(.sl 2 v5),(eI v6),(.agg 0 [(.str v7),(.sl 1 v8),(.sl 1 v9)]),(.agg 1 [(.sl 1 v10),(eI v11)]),(.agg 3 v12)])])))]
noncomputable def L6_1016a(v0:List DV)(v1 v2 v3 v4:Int)(v5:List DV)(v6:Int)(v7:ByteArray)(v8 v9 v10:List DV)(v11:Int)(v12:List DV):Option CR:=goQ 6 1016 (S6_1016a v0 v1 v2 v3 v4 v5 v6 v7 v8 v9 v10 v11 v12)
theorem L6_0a_eq(v0:List DV)(v1 v2 v3:Int)(v4:List DV)(v5:Int)(v6:ByteArray)(v7 v8 v9:List DV)(v10:Int)(v11:List DV):L6_0a v0 v1 v2 v3 v4 v5 v6 v7 v8 v9 v10 v11 =
 ifO (decide (v3<v2))
 (ifO (decide (((0:Int)<=v3)/\(v3<(((Aa v0):Nat):Int))))
 (ifO (zF EE 6 25 (nth v0 (Ac v3)))
 (ifO (decide ((((Aa (elems (nth v0 (Ac v3)))):Nat):Int)>(6:Int)))
 (some (.val (.bool true)))
 ((L6_0a v0 v1 v2 (Ab .i64 (v3+(1:Int))) v4 v5 v6 v7 v8 v9 v10 v11)))
 (none))
 (none))
 (zH (zB 45 [(.agg 6 [(.sl 2 v4),(eI v5),(.agg 0 [(.str v6),(.sl 1 v7),(.sl 1 v8)]),(.agg 1 [(.sl 1 v9),(eI v10)]),(.agg 3 v11)])])
 (λr15=>ifO (zF EE 6 88 r15)
 (zH (zB 51 [(.sl 1 (AI (cnE EE 25) v0))])
 (λr16=>ifO (zF EE 6 95 r16)
 (zH (zB 50 [(.agg 6 [(.sl 2 (elems (nth (flds r15) 0))),(eI (zC (nth (flds r15) 1))),(.agg 0 [(.str (zX (nth (flds (nth (flds r15) 2)) 0))),(.sl 1 (elems (nth (flds (nth (flds r15) 2)) 1))),(.sl 1 (elems (nth (flds (nth (flds r15) 2)) 2)))]),(.agg 1 [(.sl 1 (elems (nth (flds (nth (flds r15) 3)) 0))),(eI (zC (nth (flds (nth (flds r15) 3)) 1)))]),(.agg 3 (flds (nth (flds r15) 4)))]),(.sl 1 (AI (cnE EE 25) (elems r16))),(eI v1)])
 (λr17=>ifO ((DV.isTup r17) && (zV (zF EE 6) [3,46] (tups r17)))
 (zH (zB 46 [(.agg 6 [(.sl 2 v4),(eI v5),(.agg 0 [(.str v6),(.sl 1 v7),(.sl 1 v8)]),(.agg 1 [(.sl 1 v9),(eI v10)]),(.agg 3 v11)])])
 (λr18=>ifO (zF EE 6 3 r18)
 (ifO ((zC r18) == (0:Int))
 (ifO (decide ((((Aa v4):Nat):Int)>(8:Int)))
 ((L6_1014a v0 v1 (zC (nth (tups r17) 0)) (zC (nth (tups r17) 1)) (23:Int) v4 v5 v6 v7 v8 v9 v10 v11))
 ((L6_1014a v0 v1 (zC (nth (tups r17) 0)) (zC (nth (tups r17) 1)) (zC r18) v4 v5 v6 v7 v8 v9 v10 v11)))
 ((L6_1014a v0 v1 (zC (nth (tups r17) 0)) (zC (nth (tups r17) 1)) (zC r18) v4 v5 v6 v7 v8 v9 v10 v11)))
 (none))
 (λ_ _=>none))
 (none))
 (λ_ _=>none))
 (none))
 (λ_ _=>none))
 (none))
 (λ_ _=>none)) :=
 (zb 6 0 _).trans (by kernel_rfl)
theorem L6_1014a_eq(v0:List DV)(v1 v2 v3 v4:Int)(v5:List DV)(v6:Int)(v7:ByteArray)(v8 v9 v10:List DV)(v11:Int)(v12:List DV):L6_1014a v0 v1 v2 v3 v4 v5 v6 v7 v8 v9 v10 v11 v12 =
 ifO (v4 == (0:Int))
 (zH (zB 52 [(.agg 6 [(.sl 2 v5),(eI v6),(.agg 0 [(.str v7),(.sl 1 v8),(.sl 1 v9)]),(.agg 1 [(.sl 1 v10),(eI v11)]),(.agg 3 v12)]),(.sl 1 (AI (cnE EE 25) v0))])
 (λr27=>ifO (zF EE 6 3 r27)
 (zH (zB 37 [(eI v1),(eI 0),(eI (((Aa v5):Nat):Int))])
 (λr28=>ifO (zF EE 6 3 r28)
 (zH (zB 35 [(.sl 1 [(eI (zC r27)),(eI (zC r28))])])
 (λr29=>ifO (zF EE 6 3 r29)
 ((L6_1016a v0 v1 v2 v3 (zC r29) v5 v6 v7 v8 v9 v10 v11 v12))
 (none))
 (λ_ _=>none))
 (none))
 (λ_ _=>none))
 (none))
 (λ_ _=>none))
 ((L6_1016a v0 v1 v2 v3 v4 v5 v6 v7 v8 v9 v10 v11 v12)) :=
 (zb 6 1014 _).trans (by kernel_rfl)
theorem L6_1016a_eq(v0:List DV)(v1 v2 v3 v4:Int)(v5:List DV)(v6:Int)(v7:ByteArray)(v8 v9 v10:List DV)(v11:Int)(v12:List DV):L6_1016a v0 v1 v2 v3 v4 v5 v6 v7 v8 v9 v10 v11 v12 =
 ifO (v4 == (0:Int))
 (zH (zB 53 [(.agg 6 [(.sl 2 v5),(eI v6),(.agg 0 [(.str v7),(.sl 1 v8),(.sl 1 v9)]),(.agg 1 [(.sl 1 v10),(eI v11)]),(.agg 3 v12)]),(.sl 1 (AI (cnE EE 25) v0)),(eI v1)])
 (λr36=>ifO ((DV.isTup r36) && (zV (zF EE 6) [3,4] (tups r36)))
 (ifO (!(jm (nth (tups r36) 1)))
 (zH (zB 42 [(eI v2),(eI v3),(eI 24),(eI (zC (nth (tups r36) 0)))])
 (λr37=>ifO (zF EE 6 4 r37)
 (some (.val (.bool (jm r37))))
 (none))
 (λ_ _=>none))
 (zH (zB 42 [(eI v2),(eI v3),(eI v4),(eI (zC (nth (tups r36) 0)))])
 (λr40=>ifO (zF EE 6 4 r40)
 (some (.val (.bool (jm r40))))
 (none))
 (λ_ _=>none)))
 (none))
 (λ_ _=>none))
 (zH (zB 42 [(eI v2),(eI v3),(eI v4),(eI 0)])
 (λr45=>ifO (zF EE 6 4 r45)
 (some (.val (.bool (jm r45))))
 (none))
 (λ_ _=>none)) :=
 (zb 6 1016 _).trans (by kernel_rfl)
theorem C6(x0 x1 x2:DV):zB 6 [x0,x1,x2] =
 ifO (zV (zF EE 6) [83,95,3] [x0,x1,x2])
 (zH (zB 33 [])
 (λr0=>ifO (zF EE 6 4 r0)
 (ifO (!(jm r0))
 (zH (zB 33 [])
 (λr1=>ifO (zF EE 6 4 r1)
 (some (.val (.bool (jm r1))))
 (none))
 (λ_ _=>none))
 (zH (zB 43 [(.agg 6 [(.sl 2 (elems (nth (flds x0) 0))),(eI (zC (nth (flds x0) 1))),(.agg 0 [(.str (zX (nth (flds (nth (flds x0) 2)) 0))),(.sl 1 (elems (nth (flds (nth (flds x0) 2)) 1))),(.sl 1 (elems (nth (flds (nth (flds x0) 2)) 2)))]),(.agg 1 [(.sl 1 (elems (nth (flds (nth (flds x0) 3)) 0))),(eI (zC (nth (flds (nth (flds x0) 3)) 1)))]),(.agg 3 (flds (nth (flds x0) 4)))]),(eI 5)])
 (λr4=>ifO (zF EE 6 4 r4)
 (ifO (!(jm r4))
 (zH (zB 33 [])
 (λr5=>ifO (zF EE 6 4 r5)
 (some (.val (.bool (jm r5))))
 (none))
 (λ_ _=>none))
 (ifO (decide ((((Aa (elems x1)):Nat):Int)>(6:Int)))
 (zH (zB 33 [])
 (λr8=>ifO (zF EE 6 4 r8)
 (some (.val (.bool (jm r8))))
 (none))
 (λ_ _=>none))
 ((L6_0a (elems x1) (zC x2) (((Aa (elems x1)):Nat):Int) (0:Int) (elems (nth (flds x0) 0)) (zC (nth (flds x0) 1)) (zX (nth (flds (nth (flds x0) 2)) 0)) (elems (nth (flds (nth (flds x0) 2)) 1)) (elems (nth (flds (nth (flds x0) 2)) 2)) (elems (nth (flds (nth (flds x0) 3)) 0)) (zC (nth (flds (nth (flds x0) 3)) 1)) (flds (nth (flds x0) 4))))))
 (none))
 (λ_ _=>none)))
 (none))
 (λ_ _=>none))
 (none) :=
 (zM (f:=6) (by kernel_rfl) (by kernel_rfl) (by kernel_rfl) [x0,x1,x2]).trans (by kernel_rfl)
def S51_0a(v0:List DV)(v1:Int):St :=
 zr 19 [(3,(.d .nl)),(6,(.d (.sl 1 v0))),(7,(.d (eI v1))),(8,(.d (eI 0)))] []
noncomputable def L51_0a(v0:List DV)(v1:Int):Option CR:=goQ 51 0 (S51_0a v0 v1)
def S51_0b(v0 v1:List DV)(v2 v3:Int):St :=
 zr 19 [(3,(.own 16 0 (Aa v0) 1)),(6,(.d (.sl 1 v1))),(7,(.d (eI v2))),(8,(.d (eI v3)))] [(16,(.mk false (.dc 1 v0)))]
noncomputable def L51_0b(v0 v1:List DV)(v2 v3:Int):Option CR:=goQ 51 0 (S51_0b v0 v1 v2 v3)
theorem L51_0a_eq(v0:List DV)(v1:Int):L51_0a v0 v1 =
 ifO (decide ((0:Int)<v1))
 (ifO (decide (((0:Int)<=(0:Int))/\((0:Int)<(((Aa v0):Nat):Int))))
 (ifO (zF EE 6 25 (nth v0 0))
 (zH (zB 56 [(.sl 1 (elems (nth v0 0)))])
 (λr0=>ifO (zF EE 6 25 r0)
 ((L51_0b [(.sl 1 (elems r0))] v0 v1 (1:Int)))
 (none))
 (λ_ _=>none))
 (none))
 (none))
 (some (.val (.sl 1 []))) :=
 (zb 51 0 _).trans (by kernel_rfl)
theorem L51_0b_eq(v0 v1:List DV)(v2 v3:Int):L51_0b v0 v1 v2 v3 =
 ifO (decide (v3<v2))
 (ifO (decide (((0:Int)<=v3)/\(v3<(((Aa v1):Nat):Int))))
 (ifO (zF EE 6 25 (nth v1 (Ac v3)))
 (zH (zB 56 [(.sl 1 (elems (nth v1 (Ac v3))))])
 (λr3=>ifO (zF EE 6 25 r3)
 (ifO (decide ((Aa v0)=(Aa v0)))
 (ifO (decide ((((2 * ((Aa v0)+1))+200) * 24)<=281474976710656))
 ((L51_0b (v0++[(.sl 1 (elems r3))]) v1 v2 (Ab .i64 (v3+(1:Int)))))
 (none))
 (none))
 (none))
 (λ_ _=>none))
 (none))
 (none))
 (ifO (decide ((0+(Aa v0))<=(Aa v0)))
 (some (.val (.sl 1 (AI (cnE EE 25) (Ar (Aa v0) (Aw 0 v0))))))
 (none)) :=
 (zb 51 0 _).trans (by kernel_rfl)
theorem C51(x0:DV):zB 51 [x0] =
 ifO (zV (zF EE 6) [95] [x0])
 ((L51_0a (elems x0) (((Aa (elems x0)):Nat):Int)))
 (none) :=
 (zM (f:=51) (by kernel_rfl) (by kernel_rfl) (by kernel_rfl) [x0]).trans (by kernel_rfl)
def S52_0a(v0:List DV)(v1:Int)(v2:List DV)(v3:Int)(v4:ByteArray)(v5 v6 v7:List DV)(v8:Int)(v9:List DV):St :=
 zr 53 [(1,(.d (.sl 1 v0))),(2,(.ptr 2 415 0 [])),(5,(.d .nl)),(6,(.d (eI v1)))] [(2,(.mk false (.dc 415 [(.agg 6 [(.sl 2 v2),(eI v3),(.agg 0 [(.str v4),(.sl 1 v5),(.sl 1 v6)]),(.agg 1 [(.sl 1 v7),(eI v8)]),(.agg 3 v9)])])))]
noncomputable def L52_0a(v0:List DV)(v1:Int)(v2:List DV)(v3:Int)(v4:ByteArray)(v5 v6 v7:List DV)(v8:Int)(v9:List DV):Option CR:=goQ 52 0 (S52_0a v0 v1 v2 v3 v4 v5 v6 v7 v8 v9)
def S52_1a(v0:List DV)(v1:Int)(v2:List DV)(v3:Int)(v4:ByteArray)(v5 v6 v7:List DV)(v8:Int)(v9:List DV):St :=
 zr 53 [(1,(.d (.sl 1 v0))),(2,(.ptr 2 415 0 [])),(5,(.d .nl)),(6,(.d (eI v1))),(7,(.d (eI 0)))] [(2,(.mk false (.dc 415 [(.agg 6 [(.sl 2 v2),(eI v3),(.agg 0 [(.str v4),(.sl 1 v5),(.sl 1 v6)]),(.agg 1 [(.sl 1 v7),(eI v8)]),(.agg 3 v9)])])))]
noncomputable def L52_1a(v0:List DV)(v1:Int)(v2:List DV)(v3:Int)(v4:ByteArray)(v5 v6 v7:List DV)(v8:Int)(v9:List DV):Option CR:=goQ 52 1 (S52_1a v0 v1 v2 v3 v4 v5 v6 v7 v8 v9)
def S52_1b(v0 v1:List DV)(v2 v3:Int)(v4:List DV)(v5:Int)(v6:ByteArray)(v7 v8 v9:List DV)(v10:Int)(v11:List DV):St :=
 zr 53 [(1,(.d (.sl 1 v0))),(2,(.ptr 2 415 0 [])),(5,(.own 46 0 (Aa v1) 1)),(6,(.d (eI v2))),(7,(.d (eI v3)))] [(2,(.mk false (.dc 415 [(.agg 6 [(.sl 2 v4),(eI v5),(.agg 0 [(.str v6),(.sl 1 v7),(.sl 1 v8)]),(.agg 1 [(.sl 1 v9),(eI v10)]),(.agg 3 v11)])]))),(46,(.mk false (.dc 1 v1)))]
noncomputable def L52_1b(v0 v1:List DV)(v2 v3:Int)(v4:List DV)(v5:Int)(v6:ByteArray)(v7 v8 v9:List DV)(v10:Int)(v11:List DV):Option CR:=goQ 52 1 (S52_1b v0 v1 v2 v3 v4 v5 v6 v7 v8 v9 v10 v11)
def S52_0b(v0 v1:List DV)(v2:Int)(v3:List DV)(v4:Int)(v5:ByteArray)(v6 v7 v8:List DV)(v9:Int)(v10:List DV):St :=
 zr 53 [(1,(.d (.sl 1 v0))),(2,(.ptr 2 415 0 [])),(5,(.own 46 0 (Aa v1) 1)),(6,(.d (eI v2)))] [(2,(.mk false (.dc 415 [(.agg 6 [(.sl 2 v3),(eI v4),(.agg 0 [(.str v5),(.sl 1 v6),(.sl 1 v7)]),(.agg 1 [(.sl 1 v8),(eI v9)]),(.agg 3 v10)])]))),(46,(.mk false (.dc 1 v1)))]
noncomputable def L52_0b(v0 v1:List DV)(v2:Int)(v3:List DV)(v4:Int)(v5:ByteArray)(v6 v7 v8:List DV)(v9:Int)(v10:List DV):Option CR:=goQ 52 0 (S52_0b v0 v1 v2 v3 v4 v5 v6 v7 v8 v9 v10)
theorem L52_0a_eq(v0:List DV)(v1:Int)(v2:List DV)(v3:Int)(v4:ByteArray)(v5 v6 v7:List DV)(v8:Int)(v9:List DV):L52_0a v0 v1 v2 v3 v4 v5 v6 v7 v8 v9 =
 ifO (decide (v1<(((Aa v0):Nat):Int)))
 ((L52_1a v0 v1 v2 v3 v4 v5 v6 v7 v8 v9))
 (ifO (bne (0:Int) (((Aa v2):Nat):Int))
 (some (.val (eI 2)))
 (some (.val (eI 0)))) :=
 (zb 52 0 _).trans (by kernel_rfl)
theorem L52_1a_eq(v0:List DV)(v1:Int)(v2:List DV)(v3:Int)(v4:ByteArray)(v5 v6 v7:List DV)(v8:Int)(v9:List DV):L52_1a v0 v1 v2 v3 v4 v5 v6 v7 v8 v9 =
 ifO (decide (((0:Int)<=v1)/\(v1<(((Aa v0):Nat):Int))))
 (ifO (zF EE 6 25 (nth v0 (Ac v1)))
 (ifO (decide ((0:Int)<(((Aa (elems (nth v0 (Ac v1)))):Nat):Int)))
 (ifO (decide (((0:Int)<=v1)/\(v1<(((Aa v0):Nat):Int))))
 (ifO (zF EE 6 25 (nth v0 (Ac v1)))
 (ifO (decide (((0:Int)<=(0:Int))/\((0:Int)<(((Aa (elems (nth v0 (Ac v1)))):Nat):Int))))
 (ifO (zF EE 6 3 (nth (elems (nth v0 (Ac v1))) 0))
 (ifO (decide ((zC (nth (elems (nth v0 (Ac v1))) 0))<(0:Int)))
 (some (.val (eI 10)))
 (ifO (decide ((zC (nth (elems (nth v0 (Ac v1))) 0))>=(((Aa v2):Nat):Int)))
 (some (.val (eI 10)))
 (zH (zB 172 [(.sl 1 []),(eI (zC (nth (elems (nth v0 (Ac v1))) 0)))])
 (λr0=>ifO (zF EE 6 4 r0)
 (ifO (jm r0)
 (some (.val (eI 9)))
 ((L52_1b v0 [(eI (zC (nth (elems (nth v0 (Ac v1))) 0)))] v1 (1:Int) v2 v3 v4 v5 v6 v7 v8 v9)))
 (none))
 (λ_ _=>none))))
 (none))
 (none))
 (none))
 (none))
 ((L52_0a v0 (Ab .i64 (v1+(1:Int))) v2 v3 v4 v5 v6 v7 v8 v9)))
 (none))
 (none) :=
 (zb 52 1 _).trans (by kernel_rfl)
theorem L52_1b_eq(v0 v1:List DV)(v2 v3:Int)(v4:List DV)(v5:Int)(v6:ByteArray)(v7 v8 v9:List DV)(v10:Int)(v11:List DV):L52_1b v0 v1 v2 v3 v4 v5 v6 v7 v8 v9 v10 v11 =
 ifO (decide (((0:Int)<=v2)/\(v2<(((Aa v0):Nat):Int))))
 (ifO (zF EE 6 25 (nth v0 (Ac v2)))
 (ifO (decide (v3<(((Aa (elems (nth v0 (Ac v2)))):Nat):Int)))
 (ifO (decide (((0:Int)<=v2)/\(v2<(((Aa v0):Nat):Int))))
 (ifO (zF EE 6 25 (nth v0 (Ac v2)))
 (ifO (decide (((0:Int)<=v3)/\(v3<(((Aa (elems (nth v0 (Ac v2)))):Nat):Int))))
 (ifO (zF EE 6 3 (nth (elems (nth v0 (Ac v2))) (Ac v3)))
 (ifO (decide ((zC (nth (elems (nth v0 (Ac v2))) (Ac v3)))<(0:Int)))
 (some (.val (eI 10)))
 (ifO (decide ((zC (nth (elems (nth v0 (Ac v2))) (Ac v3)))>=(((Aa v4):Nat):Int)))
 (some (.val (eI 10)))
 (ifO (decide ((0+(Aa v1))<=(Aa v1)))
 (zH (zB 172 [(.sl 1 (Ar (Aa v1) (Aw 0 v1))),(eI (zC (nth (elems (nth v0 (Ac v2))) (Ac v3))))])
 (λr3=>ifO (zF EE 6 4 r3)
 (ifO (jm r3)
 (some (.val (eI 9)))
 (ifO (decide ((Aa v1)=(Aa v1)))
 (ifO (decide ((((2 * ((Aa v1)+1))+200) * 8)<=281474976710656))
 ((L52_1b v0 (v1++[(eI (zC (nth (elems (nth v0 (Ac v2))) (Ac v3))))]) v2 (Ab .i64 (v3+(1:Int))) v4 v5 v6 v7 v8 v9 v10 v11))
 (none))
 (none)))
 (none))
 (λ_ _=>none))
 (none))))
 (none))
 (none))
 (none))
 (none))
 ((L52_0b v0 v1 (Ab .i64 (v2+(1:Int))) v4 v5 v6 v7 v8 v9 v10 v11)))
 (none))
 (none) :=
 (zb 52 1 _).trans (by kernel_rfl)
theorem L52_0b_eq(v0 v1:List DV)(v2:Int)(v3:List DV)(v4:Int)(v5:ByteArray)(v6 v7 v8:List DV)(v9:Int)(v10:List DV):L52_0b v0 v1 v2 v3 v4 v5 v6 v7 v8 v9 v10 =
 ifO (decide (v2<(((Aa v0):Nat):Int)))
 ((L52_1b v0 v1 v2 (0:Int) v3 v4 v5 v6 v7 v8 v9 v10))
 (ifO (bne (((Aa v1):Nat):Int) (((Aa v3):Nat):Int))
 (some (.val (eI 2)))
 (some (.val (eI 0)))) :=
 (zb 52 0 _).trans (by kernel_rfl)
theorem C52(x0 x1:DV):zB 52 [x0,x1] =
 ifO (zV (zF EE 6) [83,95] [x0,x1])
 ((L52_0a (elems x1) (0:Int) (elems (nth (flds x0) 0)) (zC (nth (flds x0) 1)) (zX (nth (flds (nth (flds x0) 2)) 0)) (elems (nth (flds (nth (flds x0) 2)) 1)) (elems (nth (flds (nth (flds x0) 2)) 2)) (elems (nth (flds (nth (flds x0) 3)) 0)) (zC (nth (flds (nth (flds x0) 3)) 1)) (flds (nth (flds x0) 4))))
 (none) :=
 (zM (f:=52) (by kernel_rfl) (by kernel_rfl) (by kernel_rfl) [x0,x1]).trans (by kernel_rfl)
def S53_0a(v0:List DV)(v1 v2:Int)(v3:Bool)(v4:Int)(v5:List DV)(v6:Int)(v7:ByteArray)(v8 v9 v10:List DV)(v11:Int)(v12:List DV):St :=
 zr 75 [(1,(.d (.sl 1 v0))),(2,(.d (eI v1))),(3,(.ptr 3 415 0 [])),(8,(.d (eI v2))),(9,(.d (.bool v3))),(10,(.d (eI v4)))] [(3,(.mk false (.dc 415 [(.agg 6 [(.sl 2 v5),(eI v6),(.agg 0 [(.str v7),(.sl 1 v8),(.sl 1 v9)]),(.agg 1 [(.sl 1 v10),(eI v11)]),(.agg 3 v12)])])))]
noncomputable def L53_0a(v0:List DV)(v1 v2:Int)(v3:Bool)(v4:Int)(v5:List DV)(v6:Int)(v7:ByteArray)(v8 v9 v10:List DV)(v11:Int)(v12:List DV):Option CR:=goQ 53 0 (S53_0a v0 v1 v2 v3 v4 v5 v6 v7 v8 v9 v10 v11 v12)
theorem L53_0a_eq(v0:List DV)(v1 v2:Int)(v3:Bool)(v4:Int)(v5:List DV)(v6:Int)(v7:ByteArray)(v8 v9 v10:List DV)(v11:Int)(v12:List DV):L53_0a v0 v1 v2 v3 v4 v5 v6 v7 v8 v9 v10 v11 v12 =
 ifO (decide (v4<=v1))
 (ifO (decide (((0:Int)<=(0:Int))/\((0:Int)<(((Aa v0):Nat):Int))))
 (ifO (zF EE 6 25 (nth v0 0))
 (ifO (decide (v4<=(((Aa (elems (nth v0 0))):Nat):Int)))
 (ifO (decide (((0:Int)<=(0:Int))/\((0:Int)<(((Aa v0):Nat):Int))))
 (ifO (zF EE 6 25 (nth v0 0))
 (zH (zB 173 [(.sl 1 (elems (nth v0 0)))])
 (λr0=>ifO (zF EE 6 25 r0)
 (zH (zB 47 [(.agg 6 [(.sl 2 v5),(eI v6),(.agg 0 [(.str v7),(.sl 1 v8),(.sl 1 v9)]),(.agg 1 [(.sl 1 v10),(eI v11)]),(.agg 3 v12)]),(.sl 1 (elems r0)),(eI v4)])
 (λr1=>ifO ((DV.isTup r1) && (zV (zF EE 6) [25,3,4] (tups r1)))
 (ifO (decide ((1<=(Aa v0))/\((Aa v0)<=(Aa v0))))
 (zH (zB 53 [(.agg 6 [(.sl 2 v5),(eI v6),(.agg 0 [(.str v7),(.sl 1 v8),(.sl 1 v9)]),(.agg 1 [(.sl 1 v10),(eI v11)]),(.agg 3 v12)]),(.sl 1 (AI (cnE EE 25) (Aw 1 (Ar (Aa v0) v0)))),(eI (Ab .i64 (v1 - v4)))])
 (λr2=>ifO ((DV.isTup r2) && (zV (zF EE 6) [3,4] (tups r2)))
 (ifO (jm (nth (tups r1) 2))
 (ifO (jm (nth (tups r2) 1))
 (ifO (!v3)
 ((L53_0a v0 v1 (Ab .i64 ((zC (nth (tups r1) 1))+(zC (nth (tups r2) 0)))) true (Ab .i64 (v4+(1:Int))) v5 v6 v7 v8 v9 v10 v11 v12))
 (ifO (decide ((Ab .i64 ((zC (nth (tups r1) 1))+(zC (nth (tups r2) 0))))>v2))
 ((L53_0a v0 v1 (Ab .i64 ((zC (nth (tups r1) 1))+(zC (nth (tups r2) 0)))) true (Ab .i64 (v4+(1:Int))) v5 v6 v7 v8 v9 v10 v11 v12))
 ((L53_0a v0 v1 v2 v3 (Ab .i64 (v4+(1:Int))) v5 v6 v7 v8 v9 v10 v11 v12))))
 ((L53_0a v0 v1 v2 v3 (Ab .i64 (v4+(1:Int))) v5 v6 v7 v8 v9 v10 v11 v12)))
 ((L53_0a v0 v1 v2 v3 (Ab .i64 (v4+(1:Int))) v5 v6 v7 v8 v9 v10 v11 v12)))
 (none))
 (λ_ _=>none))
 (none))
 (none))
 (λ_ _=>none))
 (none))
 (λ_ _=>none))
 (none))
 (none))
 (some (.val (.tup [(eI v2),(.bool v3)]))))
 (none))
 (none))
 (some (.val (.tup [(eI v2),(.bool v3)]))) :=
 (zb 53 0 _).trans (by kernel_rfl)
theorem C53(x0 x1 x2:DV):zB 53 [x0,x1,x2] =
 ifO (zV (zF EE 6) [83,95,3] [x0,x1,x2])
 (ifO ((((Aa (elems x1)):Nat):Int) == (0:Int))
 (some (.val (.tup [(eI 0),(.bool ((zC x2) == (0:Int)))])))
 ((L53_0a (elems x1) (zC x2) (0:Int) false (0:Int) (elems (nth (flds x0) 0)) (zC (nth (flds x0) 1)) (zX (nth (flds (nth (flds x0) 2)) 0)) (elems (nth (flds (nth (flds x0) 2)) 1)) (elems (nth (flds (nth (flds x0) 2)) 2)) (elems (nth (flds (nth (flds x0) 3)) 0)) (zC (nth (flds (nth (flds x0) 3)) 1)) (flds (nth (flds x0) 4)))))
 (none) :=
 (zM (f:=53) (by kernel_rfl) (by kernel_rfl) (by kernel_rfl) [x0,x1,x2]).trans (by kernel_rfl)
def S173_0a:St :=
 zr 49 [(3,(.d .nl)),(4,(.d (eI 1)))] []
noncomputable def L173_0a:Option CR:=goQ 173 0 (S173_0a)
def S173_0b(v0:List DV)(v1:Int)(v2:List DV):St :=
 zr 49 [(3,(.own 8 0 (Aa v0) 1)),(4,(.d (eI v1)))] [(8,(.mk false (.dc 1 v2)))]
noncomputable def L173_0b(v0:List DV)(v1:Int)(v2:List DV):Option CR:=goQ 173 0 (S173_0b v0 v1 v2)
def S173_1a(v0:List DV)(v1 v2:Int)(v3:List DV):St :=
 zr 49 [(3,(.own 8 0 (Aa v0) 1)),(4,(.d (eI v1))),(5,(.d (eI v2)))] [(8,(.mk false (.dc 1 v3)))]
noncomputable def L173_1a(v0:List DV)(v1 v2:Int)(v3:List DV):Option CR:=goQ 173 1 (S173_1a v0 v1 v2 v3)
theorem L173_0a_eq:L173_0a =
 some (.val (.sl 1 [])) :=
 (show L173_0a=goQ 173 0 (S173_0a) from rfl).trans ((zb 173 0 _).trans (by kernel_rfl))
theorem L173_0b_eq(v0:List DV)(v1:Int)(v2:List DV):L173_0b v0 v1 v2 =
 ifO (decide (v1<(((Aa v0):Nat):Int)))
 ((L173_1a v0 v1 v1 v2))
 (ifO (decide ((0+(Aa v0))<=(Aa v2)))
 (some (.val (.sl 1 (Ar (Aa v0) (Aw 0 v2)))))
 (none)) :=
 (zb 173 0 _).trans (by kernel_rfl)
theorem L173_1a_eq(v0:List DV)(v1 v2:Int)(v3:List DV):L173_1a v0 v1 v2 v3 =
 ifO (decide (v2>(0:Int)))
 (ifO (decide (((0:Int)<=v2)/\(v2<(((Aa v0):Nat):Int))))
 (ifO (decide ((0+(Ac v2))<(Aa v3)))
 (ifO (zF EE 6 3 (nth v3 (0+(Ac v2))))
 (ifO (decide (((0:Int)<=(Ab .i64 (v2 - (1:Int))))/\((Ab .i64 (v2 - (1:Int)))<(((Aa v0):Nat):Int))))
 (ifO (decide ((0+(Ac (Ab .i64 (v2 - (1:Int)))))<(Aa v3)))
 (ifO (zF EE 6 3 (nth v3 (0+(Ac (Ab .i64 (v2 - (1:Int)))))))
 (ifO (decide ((zC (nth v3 (0+(Ac v2))))<(zC (nth v3 (0+(Ac (Ab .i64 (v2 - (1:Int)))))))))
 (ifO (decide (((0:Int)<=(Ab .i64 (v2 - (1:Int))))/\((Ab .i64 (v2 - (1:Int)))<(((Aa v0):Nat):Int))))
 (ifO (decide ((0+(Ac (Ab .i64 (v2 - (1:Int)))))<(Aa v3)))
 (ifO (zF EE 6 3 (nth v3 (0+(Ac (Ab .i64 (v2 - (1:Int)))))))
 (ifO (decide (((0:Int)<=v2)/\(v2<(((Aa v0):Nat):Int))))
 (ifO (decide ((0+(Ac v2))<(Aa v3)))
 (ifO (zF EE 6 3 (nth v3 (0+(Ac v2))))
 (ifO (decide (((0:Int)<=v2)/\(v2<(((Aa v0):Nat):Int))))
 (ifO (decide ((0+(Ac v2))<(Aa v3)))
 (ifO (decide (((0:Int)<=(Ab .i64 (v2 - (1:Int))))/\((Ab .i64 (v2 - (1:Int)))<(((Aa v0):Nat):Int))))
 (ifO (decide ((0+(Ac (Ab .i64 (v2 - (1:Int)))))<(Aa (A3 v3 (0+(Ac v2)) (eI (zC (nth v3 (0+(Ac (Ab .i64 (v2 - (1:Int))))))))))))
 ((L173_1a v0 v1 (Ab .i64 (v2 - (1:Int))) (A3 (A3 v3 (0+(Ac v2)) (eI (zC (nth v3 (0+(Ac (Ab .i64 (v2 - (1:Int))))))))) (0+(Ac (Ab .i64 (v2 - (1:Int))))) (eI (zC (nth v3 (0+(Ac v2))))))))
 (none))
 (none))
 (none))
 (none))
 (none))
 (none))
 (none))
 (none))
 (none))
 (none))
 ((L173_0b v0 (Ab .i64 (v1+(1:Int))) v3)))
 (none))
 (none))
 (none))
 (none))
 (none))
 (none))
 ((L173_0b v0 (Ab .i64 (v1+(1:Int))) v3)) :=
 (zb 173 1 _).trans (by kernel_rfl)
theorem C173(x0:DV):zB 173 [x0] =
 ifO (zV (zF EE 6) [25] [x0])
 (ifO (decide ((((2 * (0+(Aa (elems x0))))+200) * 8)<=281474976710656))
 (ifO (AX (elems x0))
 ((L173_0a))
 ((L173_0b ([]++(elems x0)) (1:Int) ([]++(elems x0)))))
 (none))
 (none) :=
 (zM (f:=173) (by kernel_rfl) (by kernel_rfl) (by kernel_rfl) [x0]).trans (by kernel_rfl)
end Go.Am
namespace Go.Am
open Go.Proofs
open Go
theorem Sums_rev:∀(fs:List (Nat->Option Int)) (n:Nat) (x:Int),Sums fs.reverse n x ↔ Sums fs n x
 | [],n,x=>Iff.rfl
 | f :: fs,n,x=>by
  rw[List.reverse_cons,Sums_snoc];constructor
  ·rintro⟨m,z,c,y,h1,h2,rfl,rfl⟩;exact⟨c,y,m,z,h2,(Sums_rev fs m z).1 h1,by omega,by omega⟩
  ·rintro⟨c,y,m,z,h1,h2,rfl,rfl⟩;exact⟨m,z,c,y,(Sums_rev fs m z).2 h2,h1,by omega,by omega⟩
theorem Sums_bnd{Y:Int}:∀(fs:List (Nat->Option Int)),(∀f∈fs,∀c y,f c=some y->0<=y/\y<=Y)->∀n x,Sums fs n x->0<=x/\x<=fs.length * Y
 | [],_,n,x,h=>by
  obtain⟨_,rfl⟩:=h;simp
 | f :: fs,hb,n,x,h=>by
  obtain⟨c,y,m,z,h1,h2,rfl,rfl⟩:=h;have:=hb f (by simp) c y h1
  have:=Sums_bnd fs (λg hg=>hb g (by simp[hg])) m z h2
  have e:((f :: fs).length:Int) * Y=fs.length * Y+Y:=by simp[Int.add_mul]
  rw[e];omega
theorem midF_max{d0:Int->Option Int}{f:Nat->Option Int}{S:Nat->Int->Prop}(hd:∀m:Nat,IsMax (S m) (d0 m))(hn:∀m:Int,m<0->d0 m=none)(n:Nat):∀k,IsMax (λx=>∃c y m z,c<k/\f c=some y/\S m z/\n=c+m/\x=y+z) (zDy d0 f k n)
 | 0=>λx ⟨c,_,_,_,h,_⟩=>by omega
 | k+1=>by
  have ih:=midF_max (f:=f) hd hn n k;unfold zDy;cases hf:f k with
  | none =>
   refine ih.congr λx=>⟨λ⟨c,y,m,z,h1,h⟩=>⟨c,y,m,z,by omega,h⟩,λ⟨c,y,m,z,h1,h2,h⟩=>⟨c,y,m,z,?_,h2,h⟩⟩
   rcases AY c k with h | h
   ·exact h
   ·obtain rfl:c=k:=by omega
    rw[hf] at h2;cases h2
  | some be =>
   show IsMax _ (zGk be (d0 ((n:Int) - k)) (zDy d0 f k n));have split:∀x,(∃c y m z,c<k+1/\f c=some y/\S m z/\n=c+m/\x=y+z) ↔ (∃c y m z,c<k/\f c=some y/\S m z/\n=c+m/\x=y+z)\/∃m z,S m z/\n=k+m/\x=be+z:=λx=>by
    constructor
    ·rintro⟨c,y,m,z,h1,h2,h⟩;rcases AY c k with h3 | h3
     ·exact .inl ⟨c,y,m,z,h3,h2,h⟩
     ·obtain rfl:c=k:=by omega
      rw[hf] at h2;injection h2 with h2
      subst h2;exact .inr ⟨m,z,h⟩
    ·rintro (⟨c,y,m,z,h1,h⟩ | ⟨m,z,h⟩)
     ·exact⟨c,y,m,z,by omega,h⟩
     ·exact⟨k,be,m,z,by omega,hf,h⟩
   rcases AY n k with hk | hk
   ·rw[hn _ (by omega)]
    refine ih.congr λx=>?_
    rw[split x];exact⟨.inl,λh=>h.elim id λ⟨m,z,_,h,_⟩=>by omega⟩
   ·have hm:=hd (n - k);rw[show((n - k:Nat):Int)=(n:Int) - k by omega] at hm
    cases hx:d0 ((n:Int) - k) with
    | none =>
     rw[hx] at hm;refine ih.congr λx=>?_
     rw[split x];refine⟨.inl,λh=>h.elim id λ⟨m,z,h1,h2,_⟩=>?_⟩
     obtain rfl:m=n - k:=by omega
     exact(hm z h1).elim
    | some e =>
     rw[hx] at hm;cases hy:zDy d0 f k n with
     | none =>
      rw[hy] at ih;refine⟨(split _).2 (.inr ⟨n - k,e,hm.1,by omega,by omega⟩),λx hx'=>?_⟩
      rcases (split x).1 hx' with h | ⟨m,z,h1,h2,rfl⟩
      ·exact(ih x h).elim
      ·obtain rfl:m=n - k:=by omega
       have:=hm.2 z h1;omega
     | some old =>
      rw[hy] at ih;have hmax:∀x,(∃c y m z,c<k+1/\f c=some y/\S m z/\n=c+m/\x=y+z)->x<=old\/x<=e+be:=λx hx'=>by
       rcases (split x).1 hx' with h | ⟨m,z,h1,h2,rfl⟩
       ·exact .inl (ih.2 x h)
       ·obtain rfl:m=n - k:=by omega
        have:=hm.2 z h1;exact .inr (by omega)
      show IsMax _ (some (if e+be>old then e+be else old))
      by_cases hc:e+be>old
      ·rw[if_pos hc];refine⟨(split _).2 (.inr ⟨n - k,e,hm.1,by omega,by omega⟩),λx hx'=>?_⟩
       have:=hmax x hx';omega
      ·rw[if_neg hc];refine⟨(split _).2 (.inl ih.1),λx hx'=>?_⟩
       have:=hmax x hx';omega
theorem midF_neg{d0:Int->Option Int}{f:Nat->Option Int}(hn:∀m:Int,m<0->d0 m=none)(m:Int)(hm:m<0):∀k,zDy d0 f k m=none
 | 0=>rfl
 | k+1=>by
  unfold zDy;cases f k with
  | none=>exact midF_neg (f:=f) hn m hm k
  | some be =>
   show zGk be (d0 (m - k)) _=none;rw[hn _ (by omega)]
   exact midF_neg (f:=f) hn m hm k
theorem outF_neg(bst:List Int->Nat->Option Int):∀(gs:List (List Int)) (m:Int),m<0->zDx bst gs m=none
 | [],m,h=>if_neg (by omega)
 | g :: gs,m,h=>midF_neg (outF_neg bst gs) m h _
def grpF(bst:List Int->Nat->Option Int)(g:List Int)(c:Nat):Option Int:=bst (JH g) c
theorem outF_max(bst:List Int->Nat->Option Int):∀(gs:List (List Int)),(∀g∈gs,∀c,g.length<c->grpF bst g c=none)->∀n:Nat,IsMax (Sums (gs.map (grpF bst)) n) (zDx bst gs n)
 | [],_,n=>by
  unfold zDx;by_cases h:n=0
  ·rw[if_pos (by omega)]
   exact⟨⟨h,rfl⟩,λx hx=>by rw[hx.2];exact AS _⟩
  ·rw[if_neg (by omega)]
   exact λx hx=>h hx.1
 | g :: gs,hl,n=>by
  have ih:=outF_max bst gs λg hg=>hl g (by simp[hg])
  have:=midF_max (f:=grpF bst g) ih (outF_neg bst gs) n (g.length+1);refine IsMax.congr this λx=>⟨λ⟨c,y,m,z,_,h⟩=>⟨c,y,m,z,h⟩,λ⟨c,y,m,z,h1,h⟩=>⟨c,y,m,z,?_,h1,h⟩⟩
  rcases AY g.length c with h2 | h2
  ·rw[hl g (by simp) c h2] at h1;cases h1
  ·omega
theorem bound_same(bst:List Int->Nat->Option Int)(gs:List (List Int))(hl:∀g∈gs,∀c,g.length<c->grpF bst g c=none)(n:Nat):zDx bst gs.reverse n=boundR (gs.map (grpF bst)) (gs.map Aa) n:=by
 have h1:=outF_max bst gs.reverse (λg hg=>hl g (by simpa using hg)) n
 rw[List.map_reverse] at h1;have h2:=boundR_max (gs.map (grpF bst)) (gs.map Aa) n (by simp) λi h h' c hc=>by simp only[AG] at hc ⊢;exact hl _ (Ag _) c hc
 exact(h1.congr (Sums_rev _ n)).unique h2
end Go.Am
namespace Go.Am
open Go.Proofs
open Go
theorem any_mem(ks:List Int)(n:Int):(ks.any λx=>x == n)=decide (n∈ks):=by
 induction ks with
 | nil=>rfl
 | cons a l ih =>
  rw[AL,ih];by_cases h:a=n
  ·simp[h]
  ·have:¬n=a:=λe=>h e.symm
   simp[h,this]
theorem step_lo{N:Int}{ks:List Int}{i:Int}(h:i<0\/i>=N):QS N ks i=10:=by unfold QS;rw[if_pos h];rfl
theorem step_in{N:Int}{ks:List Int}{i:Int}(h:¬(i<0\/i>=N)):QS N ks i=if i∈ks then 9 else 0:=by
 unfold QS;rw[if_neg h];by_cases h1:i∈ks
 ·rw[if_pos h1];rfl
 ·rw[if_neg h1];rfl
theorem groupK_len(N:Int):∀(g ks:List Int),(J3 N ks g).2.length<=ks.length+g.length
 | [],ks=>by simp[J3]
 | i :: g,ks=>by
  unfold J3;split
  ·have:=groupK_len N g (ks++[i]);simp only[Az,Aq,AB] at this ⊢;omega
  ·simp
theorem groupK_in{N:Int}{ks g:List Int}{i:Int}(h:QS N ks i=0):J3 N ks (i :: g)=J3 N (ks++[i]) g:=by rw[J3,if_pos h]
theorem groupK_bad{N:Int}{ks g:List Int}{i:Int}(h:QS N ks i≠0):J3 N ks (i :: g)=(QS N ks i,ks):=by rw[J3,if_neg h]
theorem sortI_sorted(l:List Int):(JH l).Pairwise (·<=·):=by
 have:=List.pairwise_mergeSort (le:=λx y:Int=>decide (x<=y)) (λa b c h1 h2=>by simp only[decide_eq_true_eq] at h1 h2 ⊢;omega) (λa b=>by simp only[Bool.or_eq_true,decide_eq_true_eq];omega) l
 exact this.imp λh=>of_decide_eq_true h
theorem sortI_perm(l:List Int):(JH l).Perm l:=List.mergeSort_perm l _
theorem sortI_of{l l':List Int}(h:l'.Pairwise (·<=·))(hp:l'.Perm l):l'=JH l :=
 List.Perm.eq_of_pairwise (λa b _ _ h1 h2=>by omega) h (sortI_sorted l) (hp.trans (sortI_perm l).symm)
noncomputable def bstR(p:Pn)(l:List Int)(k:Nat):Option Int:=(J7 (enP p) (okC p) (l.map Ac) [] k).map (·.2)
theorem bstR_bnd{p:Pn}(h:PlanOK p){l:List Int}(hl:l.length<=64)(k:Nat)(e:Int)(hb:bstR p l k=some e):0<=e/\e<=30000000000000000:=by
 unfold bstR at hb;cases hc:J7 (enP p) (okC p) (l.map Ac) [] k with
 | none=>rw[hc] at hb;cases hb
 | some c =>
  obtain⟨s,h1,h2,h3,_⟩:=zAt (enP p) _ _ _ _ hc;rw[hc] at hb;injection hb with hb
  rw[h3,Ap] at hb;have:=h1.length_le;rw[Ad] at this;have:=zHF h s (by omega)
  have hb:enP p s=e:=hb;omega
theorem bstR_none{p:Pn}{l:List Int}{k:Nat}(h:l.length<k):bstR p l k=none:=by
 unfold bstR;cases hc:J7 (enP p) (okC p) (l.map Ac) [] k with
 | none=>rfl
 | some c =>
  obtain⟨s,h1,h2,_⟩:=zAt (enP p) _ _ _ _ hc;have:=h1.length_le;rw[Ad] at this;omega
def stepB(f g:Nat->Option Int)(n:Nat)(acc:Option Int)(c:Nat):Option Int:=match f c,g (n - c) with
 | some e,some rest=>(match acc with | none=>some (e+rest) | some m=>if e+rest>m then some (e+rest) else some m)
 | _,_=>acc
theorem boundR_step(f:Nat->Option Int)(fs:List (Nat->Option Int))(len:Nat)(lens:List Nat)(n:Nat):boundR (f :: fs) (len :: lens) n=(A4 0 (min n len+1)).foldl (stepB f (boundR fs lens) n) none:=by rw[boundR,List.range_eq_range'];rfl
def eBd:Option Int->CR
 | none=>.val (.tup [eI 0,.bool false])
 | some x=>.val (.tup [eI x,.bool true])
theorem eBd_eq(acc:Option Int):some (eBd acc)=some (CR.val (.tup [eI (acc.getD 0),.bool acc.isSome])):=by cases acc <;> rfl
theorem map_back(p:Pn){l:List Int}(hi:∀i∈l,0<=i/\i<p.ps.length):l.map eI=(l.map Ac).map eN:=by
 rw[Bn];refine Bs λi hi'=>?_
 have:=hi i hi';show eI i=eI ((i.toNat:Nat):Int);rw[Bv this.1]
noncomputable def bndR(p:Pn)(gs:List (List Int))(n:Nat):Option Int:=boundR (gs.map (grpF (bstR p))) (gs.map Aa) n
theorem grp_none(p:Pn)(gs:List (List Int)):∀i (h:i<(gs.map (grpF (bstR p))).length) (h':i<(gs.map Aa).length) c,(gs.map Aa)[i]<c->(gs.map (grpF (bstR p)))[i] c=none:=λi h h' c hc=>by simp only[AG] at hc ⊢;exact bstR_none (by rw[qF];exact hc)
theorem bndR_bnd(p:Pn)(h:PlanOK p)(gs:List (List Int))(hl:gs.length<=50)(hg:∀g∈gs,g.length<=64)(n:Nat)(y:Int)(hy:bndR p gs n=some y):0<=y/\y<=1600000000000000000:=by
 have h1:=boundR_max (gs.map (grpF (bstR p))) (gs.map Aa) n (by simp) (grp_none p gs)
 unfold bndR at hy;rw[hy] at h1;have h2:=Sums_bnd (Y:=30000000000000000) (gs.map (grpF (bstR p))) (λf hf c y hy=>by
  obtain⟨g,hg',rfl⟩:=AJ.1 hf;exact bstR_bnd h (by rw[qF];exact hg g hg') c y hy) n y h1.1
 rw[Ad] at h2;have h4:(gs.length:Int) * 30000000000000000<=50 * 30000000000000000:=Int.mul_le_mul_of_nonneg_right (by omega) (by omega)
 omega
variable[OO]
theorem l51b(gs:List (List Int))(hl:gs.length<=100000)(hg:∀g∈gs,g.length<=100000):∀k,k<=gs.length->L51_0b ((gs.take k).map λg=>DV.sl 1 (g.map eI)) (gs.map λg=>DV.sl 1 (g.map eI)) gs.length k=some (.val (.sl 1 (gs.map λg=>DV.sl 1 (g.map eI)))):=by
 apply down
 ·rw[L51_0b_eq];simp only[An,decide_false,zU,At,AC,decide_true,zD,Aj,Bh,zIU]
 ·intro k hk ih;have e1:(k:Int)<gs.length:=by omega
  have e0:(0:Int)<=(k:Int):=by omega
  have hm:min k gs.length=k:=by omega
  have e2:(2 * (k+1)+200) * 24<=281474976710656:=by omega
  have e56:=c56 gs[k] (by have:=hg _ (Ag hk);omega)
  rw[<-ih,L51_0b_eq];simp only[Ad,Bi,hm,e1,e0,e2,and_self,decide_true,zD,Ae,zO _ gs k hk,h25,zR,e56,zJ];rw[wr ((k:Int)+1) (by omega),Al hk,AA]
  rfl
theorem c51(gs:List (List Int))(hl:gs.length<=100000)(hg:∀g∈gs,g.length<=100000):zB 51 [eGs gs]=some (.val (eGs gs)):=by
 unfold eGs;rw[C51];simp only[zK,zN,h95,Af,zD,zR,Ad];rw[L51_0a_eq];by_cases h:gs=[]
 ·subst h;rfl
 ·have h0:0<gs.length:=AN.2 h;have h1:=l51b gs hl hg 1 (by omega)
  have e1:(0:Int)<gs.length:=by omega
  have e56:=c56 gs[0] (by have:=hg _ (Ag h0);omega)
  rw[tk1 gs h0] at h1;simp only[Ad,e1,AS,and_self,decide_true,zD,zO _ gs 0 h0,h25,zR,e56,zJ];exact h1
theorem l172(ks:List Int)(hl:ks.length<=100000)(n:Int):∀i,i<=ks.length->L172_0a (ks.map eI) n i=some (.val (.bool ((ks.drop i).any λx=>x == n))):=by
 apply down
 ·rw[L172_0a_eq];simp only[Ad,An,decide_false,zU,AE,List.any_nil]
 ·intro i hi ih;have e1:(i:Int)<ks.length:=by omega
  have e0:(0:Int)<=(i:Int):=by omega
  rw[L172_0a_eq,za ks i hi,AL];simp only[Ad,e1,e0,and_self,decide_true,zD,Ae,zO _ ks i hi,h3,zI];rw[wr ((i:Int)+1) (by omega)]
  cases ks[i] == n with
  | true=>rfl
  | false=>rw[zU,AT];exact ih
theorem c172(ks:List Int)(hl:ks.length<=100000)(n:Int):zB 172 [.sl 1 (ks.map eI),eI n]=some (.val (.bool (decide (n∈ks)))):=by rw[C172];simp only[zK,zN,h25,h3,Af,zD,zR,zI];have:=l172 ks hl n 0 (Ak _);rw[Aj,any_mem] at this;exact this
section
variable(p:Pn)(gs:List (List Int))(hl:gs.length<=50)(hg:∀g∈gs,g.length<=1000)
include hl hg
theorem l52_1(j:Nat)(hj:j<gs.length):∀k,k<=gs[j].length->∀ks:List Int,ks.length+(gs[j].length - k)<=100000 ->
  L52_1b (gs.map λg=>DV.sl 1 (g.map eI)) (ks.map eI) j k (p.ps.map ePt) p.least p.w.rule (p.w.d.map eI) (p.w.w.map eI) (p.c.p.map eI) p.c.cut (p.r.map jC) =
  if (J3 p.ps.length ks (gs[j].drop k)).1=0 then L52_0b (gs.map λg=>DV.sl 1 (g.map eI)) ((J3 p.ps.length ks (gs[j].drop k)).2.map eI) ((j+1:Nat):Int) (p.ps.map ePt) p.least p.w.rule (p.w.d.map eI) (p.w.w.map eI) (p.c.p.map eI) p.c.cut (p.r.map jC)
  else some (.val (eI (J3 p.ps.length ks (gs[j].drop k)).1)):=by
 have f1:(j:Int)<gs.length:=by omega
 have f0:(0:Int)<=(j:Int):=by omega
 have hgj:gs[j].length<=1000:=hg _ (Ag hj);apply down (P:=λk=>∀ks:List Int,ks.length+(gs[j].length - k)<=100000 ->
  L52_1b (gs.map λg=>DV.sl 1 (g.map eI)) (ks.map eI) j k (p.ps.map ePt) p.least p.w.rule (p.w.d.map eI) (p.w.w.map eI) (p.c.p.map eI) p.c.cut (p.r.map jC) =
  if (J3 p.ps.length ks (gs[j].drop k)).1=0 then L52_0b (gs.map λg=>DV.sl 1 (g.map eI)) ((J3 p.ps.length ks (gs[j].drop k)).2.map eI) ((j+1:Nat):Int) (p.ps.map ePt) p.least p.w.rule (p.w.d.map eI) (p.w.w.map eI) (p.c.p.map eI) p.c.cut (p.r.map jC)
  else some (.val (eI (J3 p.ps.length ks (gs[j].drop k)).1)))
 ·intro ks hks;rw[L52_1b_eq];simp only[Ad,f1,f0,and_self,decide_true,zD,Ae,zO _ gs j hj,h25,zR,An,decide_false,zU,AE,J3,if_true];rw[wr ((j:Int)+1) (by omega)]
  rfl
 ·intro k hk ih ks hks;have e1:(k:Int)<gs[j].length:=by omega
  have e0:(0:Int)<=(k:Int):=by omega
  have e2:(2 * (ks.length+1)+200) * 8<=281474976710656:=by omega
  rw[L52_1b_eq,za gs[j] k hk,J3];simp only[Ad,f1,f0,e1,e0,and_self,decide_true,zD,Ae,zO _ gs j hj,h25,zR,zO _ gs[j] k hk,h3,zI,At,AC,Aj];by_cases h1:gs[j][k]<0
  ·refine(ifO_decT h1 _ _).trans ?_;rw[step_lo (.inl h1)];rfl
  ·refine(ifO_decF h1 _ _).trans ?_;by_cases h2:gs[j][k]>=(p.ps.length:Int)
   ·refine(ifO_decT h2 _ _).trans ?_;rw[step_lo (.inr h2)];rfl
   ·refine(ifO_decF h2 _ _).trans ?_;rw[step_in (by omega),Ah (by simp),c172 ks (by omega)]
    simp only[zJ,h4,zD,zp,e2,decide_true];by_cases h5:gs[j][k]∈ks
    ·rw[decide_eq_true h5,zD,if_pos h5];rfl
    ·rw[decide_eq_false h5,zU,if_neg h5,if_pos rfl,wr ((k:Int)+1) (by omega)]
     have:=ih (ks++[gs[j][k]]) (by simp;omega)
     rw[AA] at this;exact this
theorem l52_0b:∀j,j<=gs.length->∀ks:List Int,ks.length+(gs.length - j) * 1000<=90000 ->
  L52_0b (gs.map λg=>DV.sl 1 (g.map eI)) (ks.map eI) j (p.ps.map ePt) p.least p.w.rule (p.w.d.map eI) (p.w.w.map eI) (p.c.p.map eI) p.c.cut (p.r.map jC)=some (.val (eI (zAM p.ps.length ks (gs.drop j)))):=by
 apply down (P:=λj=>∀ks:List Int,ks.length+(gs.length - j) * 1000<=90000 ->
  L52_0b (gs.map λg=>DV.sl 1 (g.map eI)) (ks.map eI) j (p.ps.map ePt) p.least p.w.rule (p.w.d.map eI) (p.w.w.map eI) (p.c.p.map eI) p.c.cut (p.r.map jC)=some (.val (eI (zAM p.ps.length ks (gs.drop j)))))
 ·intro ks hks;rw[L52_0b_eq];simp only[Ad,An,decide_false,zU,AE,zAM];by_cases h:(ks.length:Int)=p.ps.length
  ·rw[if_pos h,h,show bne (p.ps.length:Int) (p.ps.length:Int)=false by simp,zU]
  ·rw[if_neg h,show bne (ks.length:Int) (p.ps.length:Int)=true by simpa[bne] using h,zD]
 ·intro j hj ih ks hks;have e1:(j:Int)<gs.length:=by omega
  have hgj:gs[j].length<=1000:=hg _ (Ag hj);have h1:=l52_1 p gs hl hg j hj 0 (Ak _) ks (by omega)
  rw[Aj] at h1;have hk:=groupK_len p.ps.length gs[j] ks;have h2:=ih (J3 p.ps.length ks gs[j]).2 (by
   have:(gs.length - j) * 1000=(gs.length - (j+1)) * 1000+1000:=by omega
   omega)
  rw[h2] at h1;rw[L52_0b_eq,za gs j hj,zAM];simp only[Ad,e1,decide_true,zD];refine(show _=L52_1b _ _ _ ((0:Nat):Int) _ _ _ _ _ _ _ _ from rfl).trans (h1.trans ?_)
  split <;> rfl
theorem l52_0a:∀j,j<=gs.length ->
  L52_0a (gs.map λg=>DV.sl 1 (g.map eI)) j (p.ps.map ePt) p.least p.w.rule (p.w.d.map eI) (p.w.w.map eI) (p.c.p.map eI) p.c.cut (p.r.map jC)=some (.val (eI (zAM p.ps.length [] (gs.drop j)))):=by
 apply down
 ·rw[L52_0a_eq];simp only[Ad,An,decide_false,zU,AE,zAM,AB];by_cases h:((0:Nat):Int)=p.ps.length
  ·rw[if_pos h,show bne (0:Int) (p.ps.length:Int)=false by rw[<-h];rfl,zU]
  ·rw[if_neg h,show bne (0:Int) (p.ps.length:Int)=true by simpa[bne] using h,zD]
 ·intro j hj ih;have f1:(j:Int)<gs.length:=by omega
  have f0:(0:Int)<=(j:Int):=by omega
  have hgj:gs[j].length<=1000:=hg _ (Ag hj);rw[L52_0a_eq,za gs j hj,zAM];simp only[Ad,f1,decide_true,zD];rw[L52_1a_eq];simp only[Ad,f1,f0,and_self,decide_true,zD,Ae,zO _ gs j hj,h25,zR];by_cases h:gs[j]=[]
  ·rw[h];simp only[AB,An,decide_false,zU,J3,if_true,show ¬((0:Int)<((0:Nat):Int)) by omega]
   rw[wr ((j:Int)+1) (by omega)]
   exact ih
  ·have h0:0<gs[j].length:=AN.2 h;have e1:(0:Int)<gs[j].length:=by omega
   have hl1:=l52_1 p gs hl hg j hj 1 (by omega) [gs[j][0]] (by simp;omega)
   have hk:=groupK_len p.ps.length (gs[j].drop 1) [gs[j][0]];have h2:=l52_0b p gs hl hg (j+1) (by omega) (J3 p.ps.length [gs[j][0]] (gs[j].drop 1)).2 (by
    simp only[Aq,AB,List.length_drop] at hk;have:(gs.length - j) * 1000=(gs.length - (j+1)) * 1000+1000:=by omega
    omega)
   rw[h2] at hl1;have e0:=za gs[j] 0 h0;rw[Aj] at e0;rw[show J3 p.ps.length [] gs[j]=J3 p.ps.length [] (gs[j][0] :: gs[j].drop 1) from congrArg _ e0]
   simp only[e1,AS,and_self,decide_true,zD,zO _ gs[j] 0 h0,h3,zI];have c0:zB 172 [.sl 1 [],eI gs[j][0]]=some (.val (.bool false)):=(c172 [] (by simp) gs[j][0]).trans (by simp)
   by_cases h1:gs[j][0]<0
   ·refine(ifO_decT h1 _ _).trans ?_;rw[groupK_bad (by rw[step_lo (.inl h1)];decide),step_lo (.inl h1)]
    rfl
   ·refine(ifO_decF h1 _ _).trans ?_;by_cases h2':gs[j][0]>=(p.ps.length:Int)
    ·refine(ifO_decT h2' _ _).trans ?_;rw[groupK_bad (by rw[step_lo (.inr h2')];decide),step_lo (.inr h2')]
     rfl
    ·refine(ifO_decF h2' _ _).trans ?_;rw[groupK_in (by rw[step_in (by omega)];simp),c0]
     simp only[zJ,h4,zD,zp,zU,Ap];refine hl1.trans ?_;split <;> rfl
end
theorem c52(p:Pn)(hr:zu p.r)(gs:List (List Int))(hl:gs.length<=50)(hg:∀g∈gs,g.length<=1000):zB 52 [ePn p,eGs gs]=some (.val (eI (zAM p.ps.length [] gs))):=by unfold eGs;rw[C52];simp only[zK,zN,hPn' p hr,h95,Af,zD,zQ,zS,zW,zh,zi,je,zR,zI,zZ];exact l52_0a p gs hl hg 0 (Ak _)
theorem l173_1(xs:List DV)(i:Nat)(x:Int)(B:List Int)(hi:i<=100000)(hx:xs.length<=100000):∀(n:Nat) (A1 A2:List Int),A1.length=n->(A1++x :: (A2++B)).length=xs.length->(A1++A2).Pairwise (·<=·)->(∀a∈A2,x<=a) ->
  ∃C:List Int,C.Pairwise (·<=·)/\C.Perm (A1++x :: A2)/\L173_1a xs i n ((A1++x :: (A2++B)).map eI)=L173_0b xs ((i+1:Nat):Int) ((C++B).map eI)
 | 0,A1,A2,hn,hlen,hs,hA=>by
  obtain rfl:=List.length_eq_zero_iff.1 hn;refine⟨x :: A2,Bu.2 ⟨hA,hs⟩,AW _,?_⟩;rw[L173_1a_eq,wr ((i:Int)+1) (by omega)]
  simp only[show ¬(((0:Nat):Int)>0) by omega,decide_false,zU]
  rfl
 | n+1,A1,A2,hn,hlen,hs,hA=>by
  obtain⟨A,a,rfl⟩:∃A a,A1=A++[a]:=⟨A1.dropLast,A1.getLast (by rintro rfl;simp at hn),(List.dropLast_concat_getLast _).symm⟩
  have hAn:A.length=n:=by simpa using hn
  have e:(A++[a]++x :: (A2++B))=A++a :: x :: (A2++B):=by simp
  rw[e] at hlen ⊢;generalize hL:A++a :: x :: (A2++B)=L at hlen ⊢;have k0:n<L.length:=by rw[<-hL];simp;omega
  have k1:n+1<L.length:=by rw[<-hL];simp;omega
  have g0:L[n]=a:=by subst hL;subst hAn;simp
  have g1:L[n+1]=x:=by subst hL;subst hAn;simp
  have m1:(((n+1:Nat):Int)>0):=by omega
  have m2:((n+1:Nat):Int)<xs.length:=by omega
  have m3:(0:Int)<=((n+1:Nat):Int):=by omega
  have w1:Ay.wrap (((n+1:Nat):Int) - 1)=((n:Nat):Int):=by rw[wr _ (by omega)];omega
  have m4:(n:Int)<xs.length:=by omega
  have m5:(0:Int)<=(n:Int):=by omega
  rw[L173_1a_eq];simp only[m1,m2,m3,m4,m5,w1,and_self,decide_true,zD,At,Ae,Ad,k0,k1,zO _ L n k0,zO _ L (n+1) k1,h3,zI,g0,g1,List.length_set];by_cases hc:x<a
  ·obtain⟨C,c1,c2,c3⟩:=l173_1 xs i x B hi hx n A (a :: A2) hAn (by rw[<-hlen,<-hL];simp) (by rw[Ao] at hs;exact hs) (λb hb=>by
    rcases AH.1 hb with rfl | hb
    ·omega
    ·exact hA b hb)
   refine⟨C,c1,c2.trans ?_,(ifO_decT hc _ _).trans ?_⟩
   ·simp only[Ao,AU,Ap];exact(List.Perm.swap a x A2).append_left A
   ·have es:((L.map eI).set (n+1) (eI a)).set n (eI x)=(A++x :: (a :: A2++B)).map eI:=by subst hL;subst hAn;simp[AA,List.set_append]
    rw[es];exact c3
  ·have hax:a<=x:=by omega
   refine⟨A++[a]++x :: A2,?_,AW _,(ifO_decF hc _ _).trans ?_⟩
   ·have h1:=A5.1 hs;refine A5.2 ⟨h1.1,Bu.2 ⟨hA,h1.2.1⟩,λb hb c hc'=>?_⟩
    have hba:b<=a:=by
     rcases AM.1 hb with hb' | hb'
     ·exact(A5.1 h1.1).2.2 b hb' a (by simp)
     ·rw[AQ] at hb';omega
    rcases AH.1 hc' with rfl | hc'
    ·omega
    ·exact h1.2.2 b hb c hc'
   ·rw[wr ((i:Int)+1) (by omega),<-hL]
    simp only[Ao,AU,Ap];rfl
theorem l173_0(l:List Int)(hl:l.length<=100000):∀(B A:List Int),A.Pairwise (·<=·)->(A++B).Perm l->L173_0b (l.map eI) A.length ((A++B).map eI)=some (.val (.sl 1 ((JH l).map eI)))
 | [],A,hA,hp=>by
  rw[AZ] at hp ⊢;have e:=sortI_of hA hp;have hn:=hp.length_eq;rw[L173_0b_eq];simp only[Ad,hn,An,decide_false,zU,At,AC,decide_true,zD,Aj];rw[Ah (by simp[hn]),e]
 | x :: B,A,hA,hp=>by
  have hn:=hp.length_eq;simp only[Az,Aq] at hn;have e1:(A.length:Int)<l.length:=by omega
  obtain⟨C,c1,c2,c3⟩:=l173_1 (l.map eI) A.length x B (by omega) (by simp;omega) A.length A [] rfl (by simp;omega) (by simpa using hA) (by simp)
  have hc:=c2.length_eq;simp only[Az,Aq,AB] at hc;rw[L173_0b_eq];simp only[Ad,e1,decide_true,zD];rw[Ap] at c3;rw[c3];have:=l173_0 l hl B C c1 (((List.Perm.append_right B c2).trans (by simp)).trans hp)
  rw[hc] at this;exact this
theorem c173(l:List Int)(hl:l.length<=100000):zB 173 [.sl 1 (l.map eI)]=some (.val (.sl 1 ((JH l).map eI))):=by
 have e1:(2 * l.length+200) * 8<=281474976710656:=by omega
 rw[C173];simp only[zK,zN,h25,Af,zD,zR,Ad,At,e1,decide_true,Ap];cases l with
 | nil =>
  refine L173_0a_eq.trans ?_;rw[<-sortI_of (l:=[]) (l':=[]) (by simp) (AW _)]
  rfl
 | cons a l=>exact l173_0 (a :: l) hl l [a] (by simp) (AW _)
noncomputable def I53(p:Pn)(gs:List (List Int))(n c:Nat):Option Int->Option CR
 | none=>L53_0a (gs.map λg=>DV.sl 1 (g.map eI)) n 0 false c (p.ps.map ePt) p.least p.w.rule (p.w.d.map eI) (p.w.w.map eI) (p.c.p.map eI) p.c.cut (p.r.map jC)
 | some x=>L53_0a (gs.map λg=>DV.sl 1 (g.map eI)) n x true c (p.ps.map ePt) p.least p.w.rule (p.w.d.map eI) (p.w.w.map eI) (p.c.p.map eI) p.c.cut (p.r.map jC)
theorem I53_eq(p:Pn)(gs:List (List Int))(n c:Nat)(acc:Option Int):I53 p gs n c acc=L53_0a (gs.map λg=>DV.sl 1 (g.map eI)) n (acc.getD 0) acc.isSome c (p.ps.map ePt) p.least p.w.rule (p.w.d.map eI) (p.w.w.map eI) (p.c.p.map eI) p.c.cut (p.r.map jC):=by cases acc <;> rfl
section
variable[KnW][KnX](p:Pn)(h:PlanOK p)
include h
theorem n53(g:List Int)(gs:List (List Int))(hlg:g.length<=64)(hig:∀i∈g,0<=i/\i<p.ps.length)(n:Nat)(hn:n<=64)(F:Nat->Option Int)(hF:∀m y,F m=some y->0<=y/\y<=1600000000000000000)
  (ih:∀m:Nat,m<=64->zB 53 [ePn p,eGs gs,eI m]=some (eBd (F m))) :
  ∀c,c<=min n g.length+1->∀acc,I53 p (g :: gs) n c acc=some (eBd ((A4 c (min n g.length+1 - c)).foldl (stepB (grpF (bstR p) g) F n) acc)):=by
 apply down (P:=λc=>∀acc,I53 p (g :: gs) n c acc=some (eBd ((A4 c (min n g.length+1 - c)).foldl (stepB (grpF (bstR p) g) F n) acc)))
 ·intro acc;rw[I53_eq,Nat.sub_self,List.range'_zero,List.foldl_nil,eBd_eq,L53_0a_eq];by_cases h1:((min n g.length+1:Nat):Int)<=n
  ·have h2:¬(((min n g.length+1:Nat):Int)<=g.length):=by omega
   simp only[h1,decide_true,zD,Ad,Aq,AS,show(0:Int)<((gs.length+1:Nat):Int) by omega,and_self,AD,zS,h25,zR,h2,decide_false,zU]
  ·simp only[h1,decide_false,zU]
 ·intro c hc ihc acc;have h1:(c:Int)<=n:=by omega
  have h2:(c:Int)<=g.length:=by omega
  have hcl:c<=64:=by omega
  have hs:=qF g;have hmem:∀i∈JH g,0<=i/\i<p.ps.length:=λi hi=>hig i ((sortI_perm g).mem_iff.1 hi)
  have e173:=c173 g (by omega)
  have e47:=c47 p h ((JH g).map Ac) (by simp;omega) (λi hi=>by
   obtain⟨x,hx,rfl⟩:=AJ.1 hi;have:=hmem x hx;omega) c hcl
  rw[<-map_back p hmem] at e47;have e53:=ih (n - c) (by omega)
  have w1:Ay.wrap ((n:Int) - (c:Int))=((n - c:Nat):Int):=by rw[wr _ (by omega)];omega
  have w2:Ay.wrap ((c:Int)+1)=((c+1:Nat):Int):=by rw[wr _ (by omega)];rfl
  have hr:A4 c (min n g.length+1 - c)=c :: A4 (c+1) (min n g.length+1 - (c+1)):=by rw[show min n g.length+1 - c=(min n g.length+1 - (c+1))+1 by omega,List.range'_succ]
  rw[hr,BC,<-ihc,I53_eq,I53_eq,L53_0a_eq];have hg1:grpF (bstR p) g c=(J7 (enP p) (okC p) ((JH g).map Ac) [] c).map (·.2):=rfl;have hgb:∀y,grpF (bstR p) g c=some y->0<=y/\y<=30000000000000000:=λy hy=>bstR_bnd h (by omega) c y hy
  have e53':zB 53 [.agg 6 [.sl 2 (p.ps.map ePt),eI p.least,.agg 0 [.str p.w.rule,.sl 1 (p.w.d.map eI),.sl 1 (p.w.w.map eI)],.agg 1 [.sl 1 (p.c.p.map eI),eI p.c.cut],.agg 3 (p.r.map jC)],.sl 1 (gs.map λg=>DV.sl 1 (g.map eI)),eI ((n - c:Nat):Int)]=some (eBd (F (n - c))):=e53
  have e47':zB 47 [.agg 6 [.sl 2 (p.ps.map ePt),eI p.least,.agg 0 [.str p.w.rule,.sl 1 (p.w.d.map eI),.sl 1 (p.w.w.map eI)],.agg 1 [.sl 1 (p.c.p.map eI),eI p.c.cut],.agg 3 (p.r.map jC)],.sl 1 ((JH g).map eI),eI (c:Int)]=some (eRr (J7 (enP p) (okC p) ((JH g).map Ac) [] c)):=e47;simp only[h1,h2,decide_true,zD,Ad,Aq,AS,show(0:Int)<((gs.length+1:Nat):Int) by omega,and_self,AD,zS,h25,zR,e173,zJ,e47']
  have e1:AI (cnE EE 25) (Aw 1 (Ar (gs.length+1) (DV.sl 1 (g.map eI) :: gs.map λg=>DV.sl 1 (g.map eI))))=gs.map λg=>DV.sl 1 (g.map eI):=by
   rw[Ah (by simp)]
   exact zIU gs
  rw[e1,w1,e53',w2];have hle:(1<=gs.length+1/\gs.length+1<=gs.length+1):=by omega
  unfold stepB;rw[hg1] at hgb ⊢;cases hX:J7 (enP p) (okC p) ((JH g).map Ac) [] c with
  | none =>
   cases hY:F (n - c) with
   | none=>simp only[eRr,eBd,zJ,z1,z8,zK,zN,h25,h3,h4,Af,zD,zU,zS,zW,zh,zp,zI,hle,and_self,decide_true,Bx]
   | some y=>simp only[eRr,eBd,zJ,z1,z8,zK,zN,h25,h3,h4,Af,zD,zU,zS,zW,zh,zp,zI,hle,and_self,decide_true,Bx]
  | some x =>
   cases hY:F (n - c) with
   | none=>simp only[eRr,eBd,zJ,z1,z8,zK,zN,h25,h3,h4,Af,zD,zU,zS,zW,zh,zp,zI,hle,and_self,decide_true,Bw]
   | some y =>
    rw[hX] at hgb;have b1:=hgb x.2 rfl;have b2:=hF _ _ hY;simp only[eRr,eBd,zJ,z1,z8,zK,zN,h25,h3,h4,Af,zD,zU,zS,zW,zh,zp,zI,hle,and_self,decide_true,Bw];have hw:=wr (x.2+y) (by omega)
    simp only[hw];cases acc with
    | none=>simp only[Option.isSome_none,Bj,zD,Bc,Br]
    | some m =>
     simp only[Br,Bl,zU,Bc];by_cases hm:x.2+y>m
     ·refine(ifO_decT hm _ _).trans ?_;rw[if_pos hm];rfl
     ·refine(ifO_decF hm _ _).trans ?_;rw[if_neg hm];rfl
theorem c53:∀(gs:List (List Int)),gs.length<=50->(∀g∈gs,g.length<=64)->(∀g∈gs,∀i∈g,0<=i/\i<p.ps.length)->∀n:Nat,n<=64->zB 53 [ePn p,eGs gs,eI n]=some (eBd (bndR p gs n))
 | [],_,_,_,n,hn=>by
  unfold eGs;rw[C53];simp only[zK,zN,hPn' p h.v.r,h95,h3,Af,zD,zR,AO,AB,zI];rw[show(((0:Nat):Int) == 0)=true from rfl,zD]
  show _=some (eBd (if n=0 then some 0 else none))
  by_cases h0:n=0
  ·rw[if_pos h0,h0];rfl
  ·rw[if_neg h0,show((n:Int) == 0)=false from beq_n (by omega)];rfl
 | g :: gs,hl,hg,hi,n,hn=>by
  have hl':gs.length<=50:=by simp at hl;omega
  have hg':∀g∈gs,g.length<=64:=λx hx=>hg x (by simp[hx])
  have ih:=λm hm=>c53 gs hl' hg' (λx hx=>hi x (by simp[hx])) m hm
  have hn53:=n53 p h g gs (hg g (by simp)) (hi g (by simp)) n hn (bndR p gs) (bndR_bnd p h gs hl' hg') ih 0 (by omega) none
  unfold eGs;rw[C53];simp only[zK,zN,hPn' p h.v.r,h95,h3,Af,zD,zR,Ad,zI,zQ,zS,zW,zh,zi,je,zZ];rw[beq_n (show(((g :: gs).length:Nat):Int)≠0 by simp;omega),zU]
  refine(show _=I53 p (g :: gs) n 0 none from rfl).trans (hn53.trans ?_)
  rw[Nat.sub_zero];exact congrArg (λo=>some (eBd o)) (boundR_step _ _ _ _ n).symm
end
end Go.Am
namespace Go.Am
open Go.Proofs
open Go
variable[OO]
def bndE(p:Pn)(gs:List (List Int))(n:Int):Int:=if zJi p=0 then zT [zAM p.ps.length [] gs,zf n 0 p.ps.length] else zJi p
theorem bndE_0{p:Pn}{gs:List (List Int)}{n:Int}(h:bndE p gs n=0):zJi p=0/\zAM p.ps.length [] gs=0/\zf n 0 p.ps.length=0:=by
 unfold bndE at h;split at h
 ·rename_i hf;have h1:=jE h;exact⟨hf,h1.1,(jE h1.2).1⟩
 ·rename_i hf;exact absurd h hf
theorem bndE_of{p:Pn}{gs:List (List Int)}{n:Int}(h1:zJi p=0)(h2:zAM p.ps.length [] gs=0)(h3:zf n 0 p.ps.length=0):bndE p gs n=0:=by unfold bndE;rw[if_pos h1,h2,h3];rfl
theorem groupK_0(N:Int):∀(g ks:List Int),(J3 N ks g).1=0->(J3 N ks g).2=ks++g/\(∀i∈g,0<=i/\i<N)/\(ks.Nodup->(ks++g).Nodup)
 | [],ks,_=>⟨by simp[J3],λi hi=>by simp at hi,λh=>by simpa using h⟩
 | i :: g,ks,h=>by
  unfold J3 at h ⊢;by_cases hs:QS N ks i=0
  ·rw[if_pos hs] at h ⊢;have hi:¬(i<0\/i>=N):=λh'=>by rw[step_lo h'] at hs;cases hs
   rw[step_in hi] at hs;have hk:i ∉ ks:=λh'=>by rw[if_pos h'] at hs;cases hs
   obtain⟨h1,h2,h3⟩:=groupK_0 N g (ks++[i]) h;refine⟨by rw[h1];simp,λj hj=>?_,λhd=>?_⟩
   ·rcases AH.1 hj with rfl | hj
    ·omega
    ·exact h2 j hj
   ·have:=h3 (by
     refine Bd.2 ⟨hd,by simp,λa ha b hb e=>?_⟩
     rw[AQ] at hb;subst hb;subst e;exact hk ha)
    simpa using this
  ·rw[if_neg hs] at h;exact absurd h hs
theorem groupsK_0(N:Int):∀(gs:List (List Int)) (ks:List Int),zAM N ks gs=0->((ks++gs.flatten).length:Int)=N/\(∀g∈gs,∀i∈g,0<=i/\i<N)/\(ks.Nodup->(ks++gs.flatten).Nodup)
 | [],ks,h=>by
  unfold zAM at h;split at h
  ·rename_i h';exact⟨by simpa using h',λg hg=>by simp at hg,λhd=>by simpa using hd⟩
  ·cases h
 | g :: gs,ks,h=>by
  unfold zAM at h;split at h
  ·rename_i h';obtain⟨h1,h2,h3⟩:=groupK_0 N g ks h';rw[h1] at h;obtain⟨k1,k2,k3⟩:=groupsK_0 N gs (ks++g) h;refine⟨?_,λa ha=>?_,λhd=>?_⟩
   ·rw[AF,<-Ao];exact k1
   ·rcases AH.1 ha with rfl | ha
    ·exact h2
    ·exact k2 a ha
   ·rw[AF,<-Ao];exact k3 (h3 hd)
  ·rename_i h';exact absurd h h'
theorem sumLen_flat:∀gs:List (List Int),JJ gs=gs.flatten.length
 | []=>rfl
 | g :: gs=>by rw[AF,Az,<-sumLen_flat gs];rfl
theorem nodup_toNat{l:List Int}(hd:l.Nodup)(h:∀i∈l,0<=i):(l.map Ac).Nodup:=by
 refine List.pairwise_map.2 (hd.imp_of_mem λ{a b} ha hb hne e=>hne ?_)
 have:=h a ha;have:=h b hb;omega
theorem nodup_flat{gs:List (List Int)}(h:gs.flatten.Nodup){g:List Int}(hg:g∈gs):g.Nodup:=by
 induction gs with
 | nil=>simp at hg
 | cons a gs ih =>
  rw[AF] at h;have h':=Bd.1 h;rcases AH.1 hg with rfl | hg
  ·exact h'.1
  ·exact ih h'.2.1 hg
theorem bst_eq{p:Pn}(h:PlanOK p){g:List Int}(hd:g.Nodup)(hi:∀i∈g,0<=i/\i<p.ps.length)(c:Nat):bstP p (JH g) c=bstR p (JH g) c:=by
 have hm:∀i∈JH g,0<=i/\i<p.ps.length:=λi h=>hi i ((sortI_perm g).mem_iff.1 h)
 unfold bstP bstR;rw[best_same p h.l h.v.p ((JH g).map Ac) (nodup_toNat ((sortI_perm g).nodup_iff.2 hd) λi h=>(hm i h).1) (λi hi'=>by
  obtain⟨x,hx,rfl⟩:=AJ.1 hi';have:=hm x hx;omega) c]
noncomputable def bndA(p:Pn)(gs:List (List Int))(n:Int):Int×Int:=if bndE p gs n=0 then (match bndR p gs n.toNat with | some v=>(v,0) | none=>(0,24)) else (0,bndE p gs n)
theorem bound_eq{p:Pn}(hr:zu p.r){gs:List (List Int)}{n:Int}(hb:bndE p gs n=0):YQ p gs n=bndA p gs n:=by
 obtain⟨hf,hg,hn⟩:=bndE_0 hb;have h:=zH3 hf hr;obtain⟨_,hi,hd⟩:=groupsK_0 _ gs [] hg;have hd:=hd List.nodup_nil;rw[Ap] at hd;obtain⟨h0,_⟩:=zJI hn;have e1:gs.map (grpF (bstP p))=gs.map (grpF (bstR p)):=Bs λg hg=>by funext c;exact bst_eq h (nodup_flat hd hg) (hi g hg) c
 have e2:=bound_same (bstP p) gs (λg hg c hc=>by
  show bstP p (JH g) c=none;rw[bst_eq h (nodup_flat hd hg) (hi g hg) c];exact bstR_none (by rw[qF];exact hc)) n.toNat
 rw[Bv h0,e1] at e2;unfold YQ bndA;rw[e2,if_pos hb];rfl
end Go.Am
namespace Go.Am
open Go.Proofs
open Go
variable[OO]
theorem C50(ho:OO.o 50=none)(x0 x1 x2:DV):zB 50 [x0,x1,x2] =
 ifO (zV (zF EE 6) [88,95,3] [x0,x1,x2])
 (zH (zB 160 [(.agg 6 [(.sl 2 (elems (nth (flds x0) 0))),(eI (zC (nth (flds x0) 1))),(.agg 0 [(.str (zX (nth (flds (nth (flds x0) 2)) 0))),(.sl 1 (elems (nth (flds (nth (flds x0) 2)) 1))),(.sl 1 (elems (nth (flds (nth (flds x0) 2)) 2)))]),(.agg 1 [(.sl 1 (elems (nth (flds (nth (flds x0) 3)) 0))),(eI (zC (nth (flds (nth (flds x0) 3)) 1)))]),(.agg 3 (flds (nth (flds x0) 4)))])])
 (λr0=>ifO (zF EE 6 46 r0)
  (ifO (bne (zC r0) 0)
  (some (.val (.tup [(eI 0),(eI (zC r0))])))
  (zH (zB 170 [(.agg 6 [(.sl 2 (elems (nth (flds x0) 0))),(eI (zC (nth (flds x0) 1))),(.agg 0 [(.str (zX (nth (flds (nth (flds x0) 2)) 0))),(.sl 1 (elems (nth (flds (nth (flds x0) 2)) 1))),(.sl 1 (elems (nth (flds (nth (flds x0) 2)) 2)))]),(.agg 1 [(.sl 1 (elems (nth (flds (nth (flds x0) 3)) 0))),(eI (zC (nth (flds (nth (flds x0) 3)) 1)))]),(.agg 3 (flds (nth (flds x0) 4)))]),(.sl 1 (AI (cnE EE 25) (elems x1)))])
   (λr1=>ifO (zF EE 6 46 r1)
   (zH (zB 149 [(eI (zC x2)),(eI 0),(eI (((Aa (elems (nth (flds x0) 0))):Nat):Int))])
    (λr2=>ifO (zF EE 6 46 r2)
    (zH (zB 148 [(.sl 1 [(eI (zC r1)),(eI (zC r2))])])
     (λr3=>ifO (zF EE 6 46 r3)
     (ifO (bne (zC r3) 0)
      (some (.val (.tup [(eI 0),(eI (zC r3))])))
      (zH (zB 161 [(.agg 6 [(.sl 2 (elems (nth (flds x0) 0))),(eI (zC (nth (flds x0) 1))),(.agg 0 [(.str (zX (nth (flds (nth (flds x0) 2)) 0))),(.sl 1 (elems (nth (flds (nth (flds x0) 2)) 1))),(.sl 1 (elems (nth (flds (nth (flds x0) 2)) 2)))]),(.agg 1 [(.sl 1 (elems (nth (flds (nth (flds x0) 3)) 0))),(eI (zC (nth (flds (nth (flds x0) 3)) 1)))]),(.agg 3 (flds (nth (flds x0) 4)))])])
      (λr4=>ifO (zF EE 6 268 r4)
       (zH (zB 171 [(.dp (undp r4)),(.sl 1 (AI (cnE EE 25) (elems x1)))])
       (λr5=>ifO (zF EE 6 278 r5)
        (ifO (BB (jh (eI (zC x2)) (keys r5) (vals r5)))
        (ifO (BB (AK (jh (eI (zC x2)) (keys r5) (vals r5)) (Bm)))
         (ifO (zF EE 6 3 (AK (AK (jh (eI (zC x2)) (keys r5) (vals r5)) (Bm)) .nl))
         (some (.val (.tup [(eI (zC (AK (AK (jh (eI (zC x2)) (keys r5) (vals r5)) (Bm)) .nl))),(eI 0)])))
         (none))
        (some (.val (.tup [(eI 0),(eI 24)]))))
        (none))
       (none))
       (λ_ _=>none))
      (none))
      (λ_ _=>none)))
     (none))
    (λ_ _=>none))
    (none))
   (λ_ _=>none))
   (none))
  (λ_ _=>none)))
 (none))
 (λ_ _=>none))
 (none) :=
 (callLo_eq (E:=EE) (X:=XX) ho (by kernel_rfl) (by kernel_rfl) [x0,x1,x2]).trans (by kernel_rfl)
end Go.Am
namespace Go.Am
open Go.Proofs
open Go
variable[OO]
def S171_0a(v0:DV)(v1:List DV)(v2:Int):St :=
 zr 81 [(0,(.d (.dp v0))),(5,(.omp 17)),(19,(.d (.sl 1 v1))),(20,(.d (eI v2))),(21,(.d (eI 0)))] [(17,(.mk false (.mp [(eI 0)] [(eI 0)])))]
noncomputable def L171_0a(v0:DV)(v1:List DV)(v2:Int):Option CR:=goQ 171 0 (S171_0a v0 v1 v2)
def S171_1a(v0:DV)(v1 v2:List DV)(v3 v4 v5:Int):St :=
 zr 81 [(0,(.d (.dp v0))),(5,(.omp 17)),(8,(.d (.sl 1 v1))),(9,(.omp 28)),(19,(.d (.sl 1 v2))),(20,(.d (eI v3))),(21,(.d (eI 0))),(31,(.d (eI v4))),(32,(.d (eI v5)))] [(17,(.mk false (.mp [(eI 0)] [(eI 0)]))),(28,(.mk false (.mp [] [])))]
noncomputable def L171_1a(v0:DV)(v1 v2:List DV)(v3 v4 v5:Int):Option CR:=goQ 171 1 (S171_1a v0 v1 v2 v3 v4 v5)
theorem L171_0a_eq(v0:DV)(v1:List DV)(v2:Int):L171_0a v0 v1 v2 =
 ifO (decide ((0:Int)<v2))
 (ifO (decide (((0:Int)<=(0:Int))/\((0:Int)<(((Aa v1):Nat):Int))))
 (ifO (zF EE 6 25 (nth v1 0))
 (zH (zB 246 [(.sl 1 (elems (nth v1 0)))])
 (λr0=>ifO (zF EE 6 365 r0)
 (zH (zB 245 [(.fn (zDz r0) (fnA r0) (fnC r0))])
 (λr1=>ifO (zF EE 6 25 r1)
 ((L171_1a v0 (elems r1) v1 v2 (Ab .i64 ((((Aa (elems r1)):Nat):Int)+(1:Int))) (0:Int)))
 (none))
 (λ_ _=>none))
 (none))
 (λ_ _=>none))
 (none))
 (none))
 (some (.val (.mp [(eI 0)] [(eI 0)]))) :=
 (zb 171 0 _).trans (by kernel_rfl)
theorem C171(x0 x1:DV):zB 171 [x0,x1] =
 ifO (zV (zF EE 6) [268,95] [x0,x1])
 ((L171_0a (undp x0) (elems x1) (((Aa (elems x1)):Nat):Int)))
 (none) :=
 (zM (f:=171) (by kernel_rfl) (by kernel_rfl) (by kernel_rfl) [x0,x1]).trans (by kernel_rfl)
end Go.Am
