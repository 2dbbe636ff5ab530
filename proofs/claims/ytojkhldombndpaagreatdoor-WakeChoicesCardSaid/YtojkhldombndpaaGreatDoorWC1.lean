/- WakeChoices: for every input the law returns true, and each argument reads afterwards as it read before. Part 1. -/
import Derived.Below
import Derived.Carry
import Derived.ChangeArms
import Derived.ChangeSame
import Derived.DataReads
import Derived.Deep.OwnRows
import Derived.Deep.RegionLaw
import Derived.Deep.RegionWith
import Derived.DeepKeys
import Derived.Ground.Names2Prog
import Derived.Ground.NamesProg
import Derived.Ground.SlgnProg
import Derived.Ground.SlsfProg
import Derived.IntWalk
import Derived.KernelRfl
import Derived.LaidMore
import Derived.Laws.AppendOwn
import Derived.Laws.BytesString
import Derived.Laws.CopyRow
import Derived.Laws.IdiomStrings
import Derived.Laws.OwnMore
import Derived.Laws.RangeAny
import Derived.Lib.AppendIntMem
import Derived.Lib.ItoaLen
import Derived.Lib.ItoaNum
import Derived.Lib.Join
import Derived.LoopIn
import Derived.LoopN
import Derived.LoopNIn
import Derived.LoopTactic
import Derived.MapKept
import Derived.Maps.Ext
import Derived.Maps.OwnSet
import Derived.Maps.RangeWalk
import Derived.OpenShut
import Derived.Orders
import Derived.OrdersIn
import Derived.OwnWalkIn
import Derived.ProofKit
import Derived.RangeFuncBound
import Derived.RangeFuncCalls
import Derived.RangeFuncLeaves
import Derived.RangeFuncNested
import Derived.Scope
import Derived.SevenTiedAt
import Derived.Shelf.Abstract
import Derived.Shelf.LaysM
import Derived.Shelf.SlSortCmp.NoneTotal
import Derived.Shelf.Slices.Clone
import Derived.Shelf.Slices.In.SortNone
import Derived.Shelf.Slices.SearchI
import Derived.Shelf.SlicesE.Clone
import Derived.Shelf.Small.Bits
import Derived.Shelf.Sort.Plain
import Derived.Shelf.Strconv.Itoa0
import Derived.Shelf.Strconv.Itoa1
import Derived.Shelf.Strconv.Itoa2
import Derived.Shelf.Strconv.Itoa3
import Derived.Shelf.Strings.Builder1
import Derived.Shelf.Strings.Builder2
import Derived.Shelf.Strings.Count
import Derived.Shelf.Strings.Cut
import Derived.Shelf.Strings.Explode
import Derived.Shelf.Strings.OnBuilder
import Derived.Shelf.Strings.RuneCount
import Derived.Shelf.Strings.Search1
import Derived.Shelf.Strings.Search2
import Derived.Shelf.Strings.Search3
import Derived.Shelf.Strings.Shaped
import Derived.Shelf.Strings.Split
import Derived.Shelf.Strings.SplitShaped
import Derived.Shelf.Unicode.Decode
import Derived.Shelf.Unicode.DecodeAny
import Derived.Shelf.Unicode.DecodeSlow
import Derived.Shelf.Utf8.RuneCount
import Derived.Sort.LotA
import Derived.Stop.Joined
import Derived.Tactics
import Derived.Tactics2
import Derived.TacticsInMore
import Derived.Test.YtojkhldombndpaaGreatDoorCards
import Derived.Test.YtojkhldombndpaaGreatDoorProg
import Derived.Test.YtojkhldombndpaaGreatDoorRows
import Derived.Test.YtojkhldombndpaaGreatDoorTie
import Derived.WalkKit
import Derived.WideShapes
import Derived.Test.YtojkhldombndpaaGreatDoorD6
set_option linter.all false
open List renaming length->Aa,length_map->Ad,map_append->Ah,take_succ_eq_append_getElem->Ai,range->Aj,drop_zero->An,replicate->Ao,nil_append->Ap,take_of_length_le->Aq,flatten_cons->As,mem_map->At,mem_singleton->Au,take->Av,drop->Aw,mem_range->Ax,getElem_mem->Ay,getElem_map->Az,map_map->AA,nodup_append->AB,length_range->AC,getD_eq_getElem?_getD->AD,length_take->AF,mem_cons->AG,map_cons->AH,getElem?_eq_getElem->AI,getElem_cons_zero->AL,append_assoc->AM,length_pos_iff->AQ,filter_sublist->AR,map_nil->AS,length_append->AT,length_cons->AY,cons_append->AZ,mem_append->A3,pairwise_append->A6,map_congr_left->A7,any_cons->A8,pairwise_map->Bc,getElem_take->Bd,nodup_range->Bf,ext_getElem->Bg,mem_filter->Bh,append_nil->Bi,pairwise_lt_range->Bn,length_eq_one_iff->Bo,take_append_drop->Bp,length_replicate->Bq,set->Br,mem_of_mem_take->Bs,map->Bt,getElem_range->Bv,any_eq_false->By,take_length->BA,length_drop->BB,map_take->BG,map_set->BI,isEmpty->BJ
open Int renaming toNat->Ab,toNat_natCast->Ae,tmod->Af,lt_irrefl->AJ,le_refl->AK,tmod_lt_of_pos->AU,tmod_nonneg->A4,neg_mul_neg->A5,toNat_of_nonneg->A9,mul_le_mul_of_nonneg_left->Bj,mul_nonneg->Bk,natCast_nonneg->Bz,natCast_zero->BF,add_zero->BM,neg_sub->BO
open Go.IntKind renaming wrap->Ac,i64->Ar,u8->AX
open Bool renaming and_self->Ag,not_false->AN,not_true->Ba,false_or->Bb,false_eq_true->Bw,true_or->BK
open Nat renaming cast->Ak,zero_le->Al,le_refl->AE,zero_add->AO,lt_or_ge->A0,add_sub_cancel->Bx
open Option renaming getD->AP,none->Bm,isSome->BD
open ByteArray renaming toList->AW,size->Be
open Go.Value renaming int->Bl
open Go.RowKit.Below renaming refl->Bu
open Go.Proofs.SlLaysE0 renaming n41->BC
open Go.Obj renaming cells->BE
open UInt8 renaming ofNat->BH
open List.Pairwise renaming nil->BL
open List.Sublist renaming append_left->BN
open Option.some renaming injEq->BP
namespace Go.Am
open Go.Proofs
open Go
@[simp] theorem h24(a1:ByteArray)(a2:Int)(a3:List DV):zF EE 6 24 (.agg 0 [(.str a1),(.int .i64 a2),(.sl 3 a3)])=true:=by kernel_rfl
@[simp] theorem h27(a1:ByteArray)(a2:List DV)(a3:List DV):zF EE 6 27 (.agg 0 [(.str a1),(.sl 1 a2),(.sl 1 a3)])=true:=by kernel_rfl
@[simp] theorem h29(a1:List DV)(a2:Int):zF EE 6 29 (.agg 1 [(.sl 1 a1),(.int .i64 a2)])=true:=by kernel_rfl
@[simp] theorem h32(a1:List DV):zF EE 6 32 (.agg 3 a1)=decide (a1.length=8):=by kernel_rfl
@[simp] theorem h34(a1:ByteArray)(a2:Int)(a3:List DV)(a4:ByteArray)(a5:List DV)(a6:List DV)(a7:List DV)(a8:Int)(a9:List DV):zF EE 6 34 (.agg 4 [(.agg 0 [(.str a1),(.int .i64 a2),(.sl 3 a3)]),(.agg 0 [(.str a4),(.sl 1 a5),(.sl 1 a6)]),(.agg 1 [(.sl 1 a7),(.int .i64 a8)]),(.agg 3 a9)])=(decide (a9.length=8) && true):=by kernel_rfl
@[simp] theorem h83(a1:List DV)(a2:Int)(a3:ByteArray)(a4:List DV)(a5:List DV)(a6:List DV)(a7:Int)(a8:List DV):zF EE 6 83 (.agg 6 [(.sl 2 a1),(.int .i64 a2),(.agg 0 [(.str a3),(.sl 1 a4),(.sl 1 a5)]),(.agg 1 [(.sl 1 a6),(.int .i64 a7)]),(.agg 3 a8)])=(decide (a8.length=8) && true):=by kernel_rfl
@[simp] theorem h143(a1:ByteArray)(a2:Int)(a3:Int):zF EE 6 143 (.agg 9 [(.str a1),(.agg 1 [(.int .i64 a2),(.int .i64 a3)])])=true:=by kernel_rfl
@[simp] theorem h278(a1:List DV)(a2:List DV):zF EE 6 278 (.mp a1 a2)=true:=by kernel_rfl
end Go.Am
namespace Go.Am
open Go.Proofs
open Go
theorem sum_nonneg:∀{l:List Int},(∀x∈l,0<=x)->0<=jZ l
 | [],_=>AK 0
 | y :: r,h=>by
  have:=sum_nonneg (l:=r) λz hz=>h z (by simp[hz])
  have:=h y (by simp)
  rw[jZ];omega
theorem sq_nonneg'{l:List Int}:∀x∈sqI l,0<=x:=by
 intro x hx;obtain⟨y,_,rfl⟩:=At.1 hx;rcases Int.le_total 0 y with h | h
 ·exact Bk h h
 ·have:=Bk (a:=-y) (b:=-y) (by omega) (by omega)
  rwa [A5] at this
theorem capI_mono{a b:Int}(h:a<=b):Yn a<=Yn b:=by unfold Yn;split <;> split <;> omega
theorem sum_append:∀(a b:List Int),jZ (a++b)=jZ a+jZ b
 | [],b=>by simp[jZ]
 | x :: a,b=>by simp only[AZ,jZ,sum_append a b];omega
theorem maxL_append:∀(a b:List Int) (n:Int),zB9 n (a++b)=zB9 (zB9 n a) b
 | [],b,n=>rfl
 | x :: a,b,n=>by simp only[AZ,zB9];exact maxL_append a b _
theorem root_mono{a b:Int}(h0:0<=a)(h:a<=b):qR a<=qR b:=by
 obtain⟨r0,r1,r2⟩:=Yd h0;obtain⟨s0,s1,s2⟩:=Yd (n:=b) (by omega)
 rcases Int.lt_or_le (qR b) (qR a) with c | c
 ·have:=JV (a:=qR b+1) (b:=qR a) (by omega) (by omega);omega
 ·exact c
theorem combI_part(rule:ByteArray){a b:List Int}(h:∀x∈a++b,0<=x):QW rule a<=QW rule (a++b):=by
 unfold QW;split
 ·rw[maxL_append];exact maxL_ge b _
 ·split
  ·refine root_mono (sum_nonneg sq_nonneg') ?_;have e:sqI (a++b)=sqI a++sqI b:=Ah;rw[e,sum_append];have:=sum_nonneg (sq_nonneg' (l:=b));omega
  ·rw[sum_append];have:=sum_nonneg (l:=b) λx hx=>h x (by simp[hx])
   omega
end Go.Am
namespace Go.Am
open Go.Proofs
open Go
variable[OO]
def S110_0a(v0:Int)(v1:List DV)(v2:Int):St :=
 zr 60 [(1,(.ptr 1 2 0 [])),(3,(.d (eI v0)))] [(1,(.mk false (.dc 2 [(.agg 1 [(.sl 1 v1),(eI v2)])])))]
noncomputable def L110_0a(v0:Int)(v1:List DV)(v2:Int):Option CR:=goQ 110 0 (S110_0a v0 v1 v2)
theorem L110_0a_eq(v0:Int)(v1:List DV)(v2:Int):L110_0a v0 v1 v2 =
 ifO (decide (v0<(((Aa v1):Nat):Int)))
 (ifO (decide (((0:Int)<=v0)/\(v0<(((Aa v1):Nat):Int))))
 (ifO (zF EE 6 3 (nth v1 (Ab v0)))
 (zH (zB 37 [(eI (zC (nth v1 (Ab v0)))),(eI 0),(eI 100000)])
 (λr0=>ifO (zF EE 6 3 r0)
 (ifO (bne (zC r0) 0)
 (some (.val (eI (zC r0))))
 (ifO (decide (v0>(0:Int)))
 (ifO (decide (((0:Int)<=v0)/\(v0<(((Aa v1):Nat):Int))))
 (ifO (zF EE 6 3 (nth v1 (Ab v0)))
 (ifO (decide (((0:Int)<=(Ac .i64 (v0 - (1:Int))))/\((Ac .i64 (v0 - (1:Int)))<(((Aa v1):Nat):Int))))
 (ifO (zF EE 6 3 (nth v1 (Ab (Ac .i64 (v0 - (1:Int))))))
 (ifO (decide ((zC (nth v1 (Ab v0)))<(zC (nth v1 (Ab (Ac .i64 (v0 - (1:Int))))))))
 (some (.val (eI 11)))
 (ifO (v0 == (0:Int))
 (ifO (decide (((0:Int)<=v0)/\(v0<(((Aa v1):Nat):Int))))
 (ifO (zF EE 6 3 (nth v1 (Ab v0)))
 (ifO (bne (zC (nth v1 (Ab v0))) (0:Int))
 (some (.val (eI 6)))
 ((L110_0a (Ac .i64 (v0+(1:Int))) v1 v2)))
 (none))
 (none))
 ((L110_0a (Ac .i64 (v0+(1:Int))) v1 v2))))
 (none))
 (none))
 (none))
 (none))
 (ifO (v0 == (0:Int))
 (ifO (decide (((0:Int)<=v0)/\(v0<(((Aa v1):Nat):Int))))
 (ifO (zF EE 6 3 (nth v1 (Ab v0)))
 (ifO (bne (zC (nth v1 (Ab v0))) (0:Int))
 (some (.val (eI 6)))
 ((L110_0a (Ac .i64 (v0+(1:Int))) v1 v2)))
 (none))
 (none))
 ((L110_0a (Ac .i64 (v0+(1:Int))) v1 v2)))))
 (none))
 (λ_ _=>none))
 (none))
 (none))
 (zH (zB 37 [(eI v2),(eI 1),(eI 51)])
 (λr3=>ifO (zF EE 6 3 r3)
 (some (.val (eI (zC r3))))
 (none))
 (λ_ _=>none)) :=
 (zb 110 0 _).trans (by kernel_rfl)
theorem C110(x0:DV):zB 110 [x0] =
 ifO (zV (zF EE 6) [29] [x0])
 (ifO (decide ((((Aa (elems (nth (flds x0) 0))):Nat):Int)<(2:Int)))
 (some (.val (eI 2)))
 (ifO (decide ((((Aa (elems (nth (flds x0) 0))):Nat):Int)>(51:Int)))
 (some (.val (eI 2)))
 ((L110_0a (0:Int) (elems (nth (flds x0) 0)) (zC (nth (flds x0) 1))))))
 (none) :=
 (zM (f:=110) (by kernel_rfl) (by kernel_rfl) (by kernel_rfl) [x0]).trans (by kernel_rfl)
theorem C63(x0:DV):zB 63 [x0] =
 ifO (zV (zF EE 6) [27] [x0])
 (ifO (decide ((((Be (zX (nth (flds x0) 0))):Nat):Int)<=(40:Int)))
 (ifO (decide ((((Aa (elems (nth (flds x0) 1))):Nat):Int)<=(6:Int)))
 (ifO (decide ((((Aa (elems (nth (flds x0) 2))):Nat):Int)<=(6:Int)))
 (some (.val (.bool true)))
 (some (.val (.bool ((((Aa (elems (nth (flds x0) 2))):Nat):Int) == (33:Int))))))
 (ifO ((((Aa (elems (nth (flds x0) 1))):Nat):Int) == (33:Int))
 (ifO (decide ((((Aa (elems (nth (flds x0) 2))):Nat):Int)<=(6:Int)))
 (some (.val (.bool true)))
 (some (.val (.bool ((((Aa (elems (nth (flds x0) 2))):Nat):Int) == (33:Int))))))
 (some (.val (.bool false)))))
 (some (.val (.bool false))))
 (none) :=
 (zM (f:=63) (by kernel_rfl) (by kernel_rfl) (by kernel_rfl) [x0]).trans (by kernel_rfl)
def S128_0a(v0 v1:Int)(v2:List DV):St :=
 zr 23 [(1,(.ptr 1 408 0 [])),(3,(.d (eI v0))),(4,(.d (eI v1)))] [(1,(.mk false (.dc 408 [(.agg 3 v2)])))]
noncomputable def L128_0a(v0 v1:Int)(v2:List DV):Option CR:=goQ 128 0 (S128_0a v0 v1 v2)
def S128_1a(v0 v1 v2:Int)(v3:List DV):St :=
 zr 23 [(1,(.ptr 1 408 0 [])),(3,(.d (eI v0))),(4,(.d (eI v1))),(5,(.d (eI v2)))] [(1,(.mk false (.dc 408 [(.agg 3 v3)])))]
noncomputable def L128_1a(v0 v1 v2:Int)(v3:List DV):Option CR:=goQ 128 1 (S128_1a v0 v1 v2 v3)
theorem L128_0a_eq(v0 v1:Int)(v2:List DV):L128_0a v0 v1 v2 =
 ifO (decide (v1<(8:Int)))
 ((L128_1a v0 v1 (0:Int) v2))
 (some (.val (eI v0))) :=
 (zb 128 0 _).trans (by kernel_rfl)
theorem L128_1a_eq(v0 v1 v2:Int)(v3:List DV):L128_1a v0 v1 v2 v3 =
 ifO (decide (v2<=(50:Int)))
 (ifO (decide (((0:Int)<=v1)/\(v1<(8:Int))))
 (ifO (decide (((0:Int)<=v2)/\(v2<(51:Int))))
 (ifO (jK 3 (Ab v1) (.agg 3 v3))
 (ifO (jK 2 (Ab v2) (nth v3 (Ab v1)))
 (ifO (zF EE 6 3 (nth (flds (nth v3 (Ab v1))) (Ab v2)))
 (ifO (decide ((zC (nth (flds (nth v3 (Ab v1))) (Ab v2)))>(0:Int)))
 ((L128_1a (Ac .i64 (v0+(1:Int))) v1 (Ac .i64 (v2+(1:Int))) v3))
 ((L128_1a v0 v1 (Ac .i64 (v2+(1:Int))) v3)))
 (none))
 (none))
 (none))
 (none))
 (none))
 ((L128_0a v0 (Ac .i64 (v1+(1:Int))) v3)) :=
 (zb 128 1 _).trans (by kernel_rfl)
theorem C128(x0:DV):zB 128 [x0] =
 ifO (zV (zF EE 6) [32] [x0])
 ((L128_0a (0:Int) (0:Int) (flds x0)))
 (none) :=
 (zM (f:=128) (by kernel_rfl) (by kernel_rfl) (by kernel_rfl) [x0]).trans (by kernel_rfl)
theorem C105(x0:DV):zB 105 [x0] =
 ifO (zV (zF EE 6) [29] [x0])
 (some (.val (.bool (decide ((((Aa (elems (nth (flds x0) 0))):Nat):Int)<=(52:Int))))))
 (none) :=
 (zM (f:=105) (by kernel_rfl) (by kernel_rfl) (by kernel_rfl) [x0]).trans (by kernel_rfl)
end Go.Am
namespace Go.Am
open Go.Proofs
open Go
variable[OO]
theorem C34(x0:DV):zB 34 [x0] =
 ifO (zV (zF EE 6) [34] [x0])
 (zH (zB 65 [(.agg 0 [(.str (zX (nth (flds (nth (flds x0) 0)) 0))),(eI (zC (nth (flds (nth (flds x0) 0)) 1))),(.sl 3 (elems (nth (flds (nth (flds x0) 0)) 2)))])])
 (λr0=>ifO (zF EE 6 58 r0)
 (zH (zB 67 [(.agg 0 [(.str (zX (nth (flds (nth (flds x0) 1)) 0))),(.sl 1 (elems (nth (flds (nth (flds x0) 1)) 1))),(.sl 1 (elems (nth (flds (nth (flds x0) 1)) 2)))])])
 (λr1=>ifO (zF EE 6 59 r1)
 (zH (zB 107 [(.agg 1 [(.sl 1 (elems (nth (flds (nth (flds x0) 2)) 0))),(eI (zC (nth (flds (nth (flds x0) 2)) 1)))])])
 (λr2=>ifO (zF EE 6 60 r2)
 (some (.val (.agg 4 [(.agg 0 [(.str (zX (nth (flds r0) 0))),(eI (zC (nth (flds r0) 1))),(.sl 3 (elems (nth (flds r0) 2)))]),(.agg 0 [(.str (zX (nth (flds r1) 0))),(.sl 1 (elems (nth (flds r1) 1))),(.sl 1 (elems (nth (flds r1) 2)))]),(.agg 1 [(.sl 1 (elems (nth (flds r2) 0))),(eI (zC (nth (flds r2) 1)))]),(.agg 3 (flds (nth (flds x0) 3)))])))
 (none))
 (λ_ _=>none))
 (none))
 (λ_ _=>none))
 (none))
 (λ_ _=>none))
 (none) :=
 (zM (f:=34) (by kernel_rfl) (by kernel_rfl) (by kernel_rfl) [x0]).trans (by kernel_rfl)
theorem C56(x0:DV):zB 56 [x0] =
 ifO (zV (zF EE 6) [25] [x0])
 (ifO (decide ((((2 * (0+(Aa (elems x0))))+200) * 8)<=281474976710656))
 (ifO (BJ (elems x0))
 (some (.val (.sl 1 [])))
 (ifO (decide ((0+(Aa ([]++(elems x0))))<=(Aa ([]++(elems x0)))))
 (some (.val (.sl 1 (Av (Aa ([]++(elems x0))) (Aw 0 ([]++(elems x0)))))))
 (none)))
 (none))
 (none) :=
 (zM (f:=56) (by kernel_rfl) (by kernel_rfl) (by kernel_rfl) [x0]).trans (by kernel_rfl)
theorem C67(x0:DV):zB 67 [x0] =
 ifO (zV (zF EE 6) [27] [x0])
 (zH (zB 56 [(.sl 1 (elems (nth (flds x0) 1)))])
 (λr0=>ifO (zF EE 6 25 r0)
 (zH (zB 56 [(.sl 1 (elems (nth (flds x0) 2)))])
 (λr1=>ifO (zF EE 6 25 r1)
 (some (.val (.agg 0 [(.str (zX (nth (flds x0) 0))),(.sl 1 (elems r0)),(.sl 1 (elems r1))])))
 (none))
 (λ_ _=>none))
 (none))
 (λ_ _=>none))
 (none) :=
 (zM (f:=67) (by kernel_rfl) (by kernel_rfl) (by kernel_rfl) [x0]).trans (by kernel_rfl)
theorem C107(x0:DV):zB 107 [x0] =
 ifO (zV (zF EE 6) [29] [x0])
 (zH (zB 56 [(.sl 1 (elems (nth (flds x0) 0)))])
 (λr0=>ifO (zF EE 6 25 r0)
 (some (.val (.agg 1 [(.sl 1 (elems r0)),(eI (zC (nth (flds x0) 1)))])))
 (none))
 (λ_ _=>none))
 (none) :=
 (zM (f:=107) (by kernel_rfl) (by kernel_rfl) (by kernel_rfl) [x0]).trans (by kernel_rfl)
end Go.Am
namespace Go.Am
open Go.Proofs
open Go
variable[OO]
def S71_0a(v0:Int)(v1:ByteArray)(v2 v3:List DV):St :=
 zr 91 [(1,(.ptr 1 3 0 [])),(3,(.d (eI v0)))] [(1,(.mk false (.dc 3 [(.agg 0 [(.str v1),(.sl 1 v2),(.sl 1 v3)])])))]
noncomputable def L71_0a(v0:Int)(v1:ByteArray)(v2 v3:List DV):Option CR:=goQ 71 0 (S71_0a v0 v1 v2 v3)
def S71_1a(v0:Int)(v1:ByteArray)(v2 v3:List DV):St :=
 zr 91 [(1,(.ptr 1 3 0 [])),(5,(.d (eI v0)))] [(1,(.mk false (.dc 3 [(.agg 0 [(.str v1),(.sl 1 v2),(.sl 1 v3)])])))]
noncomputable def L71_1a(v0:Int)(v1:ByteArray)(v2 v3:List DV):Option CR:=goQ 71 1 (S71_1a v0 v1 v2 v3)
theorem L71_0a_eq(v0:Int)(v1:ByteArray)(v2 v3:List DV):L71_0a v0 v1 v2 v3 =
 ifO (decide (v0<(((Aa v2):Nat):Int)))
 (ifO (decide (((0:Int)<=v0)/\(v0<(((Aa v2):Nat):Int))))
 (ifO (zF EE 6 3 (nth v2 (Ab v0)))
 (zH (zB 37 [(eI (zC (nth v2 (Ab v0)))),(eI 0),(eI 256)])
 (λr6=>ifO (zF EE 6 3 r6)
 (ifO (bne (zC r6) 0)
 (some (.val (eI (zC r6))))
 (ifO (decide (v0>(0:Int)))
 (ifO (decide (((0:Int)<=v0)/\(v0<(((Aa v2):Nat):Int))))
 (ifO (zF EE 6 3 (nth v2 (Ab v0)))
 (ifO (decide (((0:Int)<=(Ac .i64 (v0 - (1:Int))))/\((Ac .i64 (v0 - (1:Int)))<(((Aa v2):Nat):Int))))
 (ifO (zF EE 6 3 (nth v2 (Ab (Ac .i64 (v0 - (1:Int))))))
 (ifO (decide ((zC (nth v2 (Ab v0)))>(zC (nth v2 (Ab (Ac .i64 (v0 - (1:Int))))))))
 (some (.val (eI 11)))
 ((L71_0a (Ac .i64 (v0+(1:Int))) v1 v2 v3)))
 (none))
 (none))
 (none))
 (none))
 ((L71_0a (Ac .i64 (v0+(1:Int))) v1 v2 v3))))
 (none))
 (λ_ _=>none))
 (none))
 (none))
 ((L71_1a (0:Int) v1 v2 v3)) :=
 (zb 71 0 _).trans (by kernel_rfl)
theorem L71_1a_eq(v0:Int)(v1:ByteArray)(v2 v3:List DV):L71_1a v0 v1 v2 v3 =
 ifO (decide (v0<(((Aa v3):Nat):Int)))
 (ifO (decide (((0:Int)<=v0)/\(v0<(((Aa v3):Nat):Int))))
 (ifO (zF EE 6 3 (nth v3 (Ab v0)))
 (zH (zB 37 [(eI (zC (nth v3 (Ab v0)))),(eI 0),(eI 100)])
 (λr9=>ifO (zF EE 6 3 r9)
 (ifO (bne (zC r9) 0)
 (some (.val (eI (zC r9))))
 (ifO (decide (v0>(0:Int)))
 (ifO (decide (((0:Int)<=v0)/\(v0<(((Aa v3):Nat):Int))))
 (ifO (zF EE 6 3 (nth v3 (Ab v0)))
 (ifO (decide (((0:Int)<=(Ac .i64 (v0 - (1:Int))))/\((Ac .i64 (v0 - (1:Int)))<(((Aa v3):Nat):Int))))
 (ifO (zF EE 6 3 (nth v3 (Ab (Ac .i64 (v0 - (1:Int))))))
 (ifO (decide ((zC (nth v3 (Ab v0)))<(zC (nth v3 (Ab (Ac .i64 (v0 - (1:Int))))))))
 (some (.val (eI 11)))
 ((L71_1a (Ac .i64 (v0+(1:Int))) v1 v2 v3)))
 (none))
 (none))
 (none))
 (none))
 ((L71_1a (Ac .i64 (v0+(1:Int))) v1 v2 v3))))
 (none))
 (λ_ _=>none))
 (none))
 (none))
 (some (.val (eI 0))) :=
 (zb 71 1 _).trans (by kernel_rfl)
theorem C71(x0:DV):zB 71 [x0] =
 ifO (zV (zF EE 6) [27] [x0])
 (zH (zB 92 [])
 (λr0=>ifO (zF EE 6 173 r0)
 (zH (zB 193 [(.sl 1 (elems r0)),(.str (zX (nth (flds x0) 0)))])
 (λr1=>ifO (zF EE 6 4 r1)
 (ifO (!(jm r1))
 (some (.val (eI 13)))
 (ifO ((((Aa (elems (nth (flds x0) 1))):Nat):Int) == (0:Int))
 (some (.val (eI 12)))
 (ifO (decide ((((Aa (elems (nth (flds x0) 1))):Nat):Int)>(32:Int)))
 (some (.val (eI 5)))
 (ifO (bne (((Aa (elems (nth (flds x0) 2))):Nat):Int) (((Aa (elems (nth (flds x0) 1))):Nat):Int))
 (some (.val (eI 2)))
 ((L71_0a (0:Int) (zX (nth (flds x0) 0)) (elems (nth (flds x0) 1)) (elems (nth (flds x0) 2))))))))
 (none))
 (λ_ _=>none))
 (none))
 (λ_ _=>none))
 (none) :=
 (zM (f:=71) (by kernel_rfl) (by kernel_rfl) (by kernel_rfl) [x0]).trans (by kernel_rfl)
def S193_0a(v0:List DV)(v1:ByteArray)(v2:Int):St :=
 zr 18 [(0,(.d (.sl 1 v0))),(1,(.d (.str v1))),(5,(.d (eI v2)))] []
noncomputable def L193_0a(v0:List DV)(v1:ByteArray)(v2:Int):Option CR:=goQ 193 0 (S193_0a v0 v1 v2)
theorem L193_0a_eq(v0:List DV)(v1:ByteArray)(v2:Int):L193_0a v0 v1 v2 =
 ifO (decide (v2<(((Aa v0):Nat):Int)))
 (ifO (decide (((0:Int)<=v2)/\(v2<(((Aa v0):Nat):Int))))
 (ifO (zF EE 6 9 (nth v0 (Ab v2)))
 (ifO ((AW (zX (nth v0 (Ab v2)))) == (AW v1))
 (some (.val (.bool true)))
 ((L193_0a v0 v1 (Ac .i64 (v2+(1:Int))))))
 (none))
 (none))
 (some (.val (.bool false))) :=
 (zb 193 0 _).trans (by kernel_rfl)
theorem C193(x0 x1:DV):zB 193 [x0,x1] =
 ifO (zV (zF EE 6) [173,9] [x0,x1])
 ((L193_0a (elems x0) (zX x1) (0:Int)))
 (none) :=
 (zM (f:=193) (by kernel_rfl) (by kernel_rfl) (by kernel_rfl) [x0,x1]).trans (by kernel_rfl)
theorem C92:zB 92 [] =
 some (.val (.sl 1 [(.str (bs [103,114,101,97,116,101,115,116])),(.str (bs [115,113,117,97,114,101,115])),(.str (bs [115,117,109]))])) :=
 (zM (f:=92) (by kernel_rfl) (by kernel_rfl) (by kernel_rfl) []).trans (by kernel_rfl)
end Go.Am
namespace Go.Am
open Go.Proofs
open Go
variable[OO]
def S69_0a(v0:Int)(v1:ByteArray)(v2:Int)(v3:List DV):St :=
 zr 73 [(1,(.ptr 1 3 0 [])),(3,(.d (eI v0)))] [(1,(.mk false (.dc 3 [(.agg 0 [(.str v1),(eI v2),(.sl 3 v3)])])))]
noncomputable def L69_0a(v0:Int)(v1:ByteArray)(v2:Int)(v3:List DV):Option CR:=goQ 69 0 (S69_0a v0 v1 v2 v3)
def S69_1a(v0 v1:Int)(v2:ByteArray)(v3:Int)(v4:List DV)(v5:ByteArray)(v6 v7:Int):St :=
 zr 73 [(1,(.ptr 1 3 0 [])),(3,(.d (eI v0))),(4,(.ptr 4 3 0 [])),(5,(.d (eI v1)))] [(1,(.mk false (.dc 3 [(.agg 0 [(.str v2),(eI v3),(.sl 3 v4)])]))),(4,(.mk false (.dc 3 [(.agg 9 [(.str v5),(.agg 1 [(eI v6),(eI v7)])])])))]
noncomputable def L69_1a(v0 v1:Int)(v2:ByteArray)(v3:Int)(v4:List DV)(v5:ByteArray)(v6 v7:Int):Option CR:=goQ 69 1 (S69_1a v0 v1 v2 v3 v4 v5 v6 v7)
def S69_2a(v0 v1:Int)(v2:ByteArray)(v3:Int)(v4:List DV)(v5:ByteArray)(v6 v7:Int):St :=
 zr 73 [(1,(.ptr 1 3 0 [])),(3,(.d (eI v0))),(4,(.ptr 4 3 0 [])),(6,(.d (eI v1)))] [(1,(.mk false (.dc 3 [(.agg 0 [(.str v2),(eI v3),(.sl 3 v4)])]))),(4,(.mk false (.dc 3 [(.agg 9 [(.str v5),(.agg 1 [(eI v6),(eI v7)])])])))]
noncomputable def L69_2a(v0 v1:Int)(v2:ByteArray)(v3:Int)(v4:List DV)(v5:ByteArray)(v6 v7:Int):Option CR:=goQ 69 2 (S69_2a v0 v1 v2 v3 v4 v5 v6 v7)
theorem L69_0a_eq(v0:Int)(v1:ByteArray)(v2:Int)(v3:List DV):L69_0a v0 v1 v2 v3 =
 ifO (decide (v0<(((Aa v3):Nat):Int)))
 (ifO (decide (((0:Int)<=v0)/\(v0<(((Aa v3):Nat):Int))))
 (ifO (zF EE 6 143 (nth v3 (Ab v0)))
 (zH (zB 130 [(.str (zX (nth (flds (nth v3 (Ab v0))) 0)))])
 (λr6=>ifO (zF EE 6 4 r6)
 (ifO (!(jm r6))
 (some (.val (eI 8)))
 (zH (zB 164 [(.agg 1 [(eI (zC (nth (flds (nth (flds (nth v3 (Ab v0))) 1)) 0))),(eI (zC (nth (flds (nth (flds (nth v3 (Ab v0))) 1)) 1)))])])
 (λr7=>ifO (zF EE 6 3 r7)
 (ifO (bne (zC r7) 0)
 (some (.val (eI 3)))
 ((L69_1a v0 (0:Int) v1 v2 v3 (zX (nth (flds (nth v3 (Ab v0))) 0)) (zC (nth (flds (nth (flds (nth v3 (Ab v0))) 1)) 0)) (zC (nth (flds (nth (flds (nth v3 (Ab v0))) 1)) 1)))))
 (none))
 (λ_ _=>none)))
 (none))
 (λ_ _=>none))
 (none))
 (none))
 (some (.val (eI 0))) :=
 (zb 69 0 _).trans (by kernel_rfl)
theorem L69_1a_eq(v0 v1:Int)(v2:ByteArray)(v3:Int)(v4:List DV)(v5:ByteArray)(v6 v7:Int):L69_1a v0 v1 v2 v3 v4 v5 v6 v7 =
 ifO (decide (v1<v0))
 (ifO (decide (((0:Int)<=v1)/\(v1<(((Aa v4):Nat):Int))))
 (ifO (jK 9 0 (nth v4 (Ab v1)))
 (ifO (zF EE 6 9 (nth (flds (nth v4 (Ab v1))) 0))
 (ifO ((AW (zX (nth (flds (nth v4 (Ab v1))) 0))) == (AW v5))
 (some (.val (eI 9)))
 ((L69_1a v0 (Ac .i64 (v1+(1:Int))) v2 v3 v4 v5 v6 v7)))
 (none))
 (none))
 (none))
 ((L69_2a v0 (0:Int) v2 v3 v4 v5 v6 v7)) :=
 (zb 69 1 _).trans (by kernel_rfl)
theorem L69_2a_eq(v0 v1:Int)(v2:ByteArray)(v3:Int)(v4:List DV)(v5:ByteArray)(v6 v7:Int):L69_2a v0 v1 v2 v3 v4 v5 v6 v7 =
 ifO (decide (v1<v0))
 (ifO (decide (((0:Int)<=v1)/\(v1<(((Aa v4):Nat):Int))))
 (ifO (jK 9 1 (nth v4 (Ab v1)))
 (ifO (zF EE 6 141 (nth (flds (nth v4 (Ab v1))) 1))
 (zH (zB 192 [(.agg 1 [(eI (zC (nth (flds (nth (flds (nth v4 (Ab v1))) 1)) 0))),(eI (zC (nth (flds (nth (flds (nth v4 (Ab v1))) 1)) 1)))]),(.agg 1 [(eI v6),(eI v7)])])
 (λr12=>ifO (zF EE 6 3 r12)
 (ifO (decide ((zC r12)<(Ac .i64 (v3 * v3))))
 (some (.val (eI 15)))
 ((L69_2a v0 (Ac .i64 (v1+(1:Int))) v2 v3 v4 v5 v6 v7)))
 (none))
 (λ_ _=>none))
 (none))
 (none))
 (none))
 ((L69_0a (Ac .i64 (v0+(1:Int))) v2 v3 v4)) :=
 (zb 69 2 _).trans (by kernel_rfl)
theorem C69(x0:DV):zB 69 [x0] =
 ifO (zV (zF EE 6) [24] [x0])
 (zH (zB 130 [(.str (zX (nth (flds x0) 0)))])
 (λr0=>ifO (zF EE 6 4 r0)
 (ifO (!(jm r0))
 (some (.val (eI 8)))
 (zH (zB 37 [(eI (zC (nth (flds x0) 1))),(eI 1),(eI 1000)])
 (λr1=>ifO (zF EE 6 3 r1)
 (ifO (bne (zC r1) 0)
 (some (.val (eI 3)))
 (ifO (decide ((((Aa (elems (nth (flds x0) 2))):Nat):Int)>(64:Int)))
 (some (.val (eI 5)))
 ((L69_0a (0:Int) (zX (nth (flds x0) 0)) (zC (nth (flds x0) 1)) (elems (nth (flds x0) 2))))))
 (none))
 (λ_ _=>none)))
 (none))
 (λ_ _=>none))
 (none) :=
 (zM (f:=69) (by kernel_rfl) (by kernel_rfl) (by kernel_rfl) [x0]).trans (by kernel_rfl)
def S65_0a(v0:List DV)(v1:Int)(v2:ByteArray)(v3:Int):St :=
 zr 26 [(2,(.ptr 2 3 0 [])),(3,(.ptr 3 3 0 [])),(12,(.d (.sl 3 v0))),(13,(.d (eI v1))),(14,(.d (eI 0)))] [(2,(.mk false (.dc 3 [(.agg 0 [(.str (bs [])),(eI 0),.nl])]))),(3,(.mk false (.dc 3 [(.agg 0 [(.str v2),(eI v3),.nl])])))]
noncomputable def L65_0a(v0:List DV)(v1:Int)(v2:ByteArray)(v3:Int):Option CR:=goQ 65 0 (S65_0a v0 v1 v2 v3)
def S65_0b(v0:List DV)(v1 v2:Int)(v3:ByteArray)(v4:Int)(v5:List DV):St :=
 zr 26 [(2,(.ptr 2 3 0 [])),(3,(.ptr 3 3 0 [])),(12,(.d (.sl 3 v0))),(13,(.d (eI v1))),(14,(.d (eI v2)))] [(2,(.mk false (.dc 3 [(.agg 0 [(.str (bs [])),(eI 0),.nl])]))),(3,(.mk false (.ac 3 [(.agg 0 [(.d (.str v3)),(.d (eI v4)),(.own 22 0 (Aa v5) 3)])]))),(22,(.mk false (.dc 3 v5)))]
noncomputable def zIY(v0:List DV)(v1 v2:Int)(v3:ByteArray)(v4:Int)(v5:List DV):Option CR:=goQ 65 0 (S65_0b v0 v1 v2 v3 v4 v5)
theorem L65_0a_eq(v0:List DV)(v1:Int)(v2:ByteArray)(v3:Int):L65_0a v0 v1 v2 v3 =
 ifO (decide ((0:Int)<v1))
 (ifO (decide (((0:Int)<=(0:Int))/\((0:Int)<(((Aa v0):Nat):Int))))
 (ifO (zF EE 6 143 (nth v0 0))
 ((zIY v0 v1 (1:Int) v2 v3 [(.agg 9 [(.str (zX (nth (flds (nth v0 0)) 0))),(.agg 1 [(eI (zC (nth (flds (nth (flds (nth v0 0)) 1)) 0))),(eI (zC (nth (flds (nth (flds (nth v0 0)) 1)) 1)))])])]))
 (none))
 (none))
 (some (.val (.agg 0 [(.str v2),(eI v3),(.sl 3 [])]))) :=
 (zb 65 0 _).trans (by kernel_rfl)
theorem zHN(v0:List DV)(v1 v2:Int)(v3:ByteArray)(v4:Int)(v5:List DV):zIY v0 v1 v2 v3 v4 v5 =
 ifO (decide (v2<v1))
 (ifO (decide (((0:Int)<=v2)/\(v2<(((Aa v0):Nat):Int))))
 (ifO (zF EE 6 143 (nth v0 (Ab v2)))
 (ifO (decide ((Aa v5)=(Aa v5)))
 (ifO (decide ((((2 * ((Aa v5)+1))+200) * 32)<=281474976710656))
 ((zIY v0 v1 (Ac .i64 (v2+(1:Int))) v3 v4 (v5++[(.agg 9 [(.str (zX (nth (flds (nth v0 (Ab v2))) 0))),(.agg 1 [(eI (zC (nth (flds (nth (flds (nth v0 (Ab v2))) 1)) 0))),(eI (zC (nth (flds (nth (flds (nth v0 (Ab v2))) 1)) 1)))])])])))
 (none))
 (none))
 (none))
 (none))
 (ifO (decide ((0+(Aa v5))<=(Aa v5)))
 (some (.val (.agg 0 [(.str v3),(eI v4),(.sl 3 (Av (Aa v5) (Aw 0 v5)))])))
 (none)) :=
 (zb 65 0 _).trans (by kernel_rfl)
theorem C65(x0:DV):zB 65 [x0] =
 ifO (zV (zF EE 6) [24] [x0])
 ((L65_0a (elems (nth (flds x0) 2)) (((Aa (elems (nth (flds x0) 2))):Nat):Int) (zX (nth (flds x0) 0)) (zC (nth (flds x0) 1))))
 (none) :=
 (zM (f:=65) (by kernel_rfl) (by kernel_rfl) (by kernel_rfl) [x0]).trans (by kernel_rfl)
def S129_0a(v0:Int)(v1:List DV):St :=
 zr 20 [(1,(.ptr 1 408 0 [])),(3,(.d (eI v0)))] [(1,(.mk false (.dc 408 [(.agg 3 v1)])))]
noncomputable def L129_0a(v0:Int)(v1:List DV):Option CR:=goQ 129 0 (S129_0a v0 v1)
def S129_1a(v0 v1:Int)(v2:List DV):St :=
 zr 20 [(1,(.ptr 1 408 0 [])),(3,(.d (eI v0))),(4,(.d (eI v1)))] [(1,(.mk false (.dc 408 [(.agg 3 v2)])))]
noncomputable def L129_1a(v0 v1:Int)(v2:List DV):Option CR:=goQ 129 1 (S129_1a v0 v1 v2)
theorem L129_0a_eq(v0:Int)(v1:List DV):L129_0a v0 v1 =
 ifO (decide (v0<(8:Int)))
 ((L129_1a v0 (0:Int) v1))
 (some (.val (eI 0))) :=
 (zb 129 0 _).trans (by kernel_rfl)
theorem L129_1a_eq(v0 v1:Int)(v2:List DV):L129_1a v0 v1 v2 =
 ifO (decide (v1<=(50:Int)))
 (ifO (decide (((0:Int)<=v0)/\(v0<(8:Int))))
 (ifO (decide (((0:Int)<=v1)/\(v1<(51:Int))))
 (ifO (jK 3 (Ab v0) (.agg 3 v2))
 (ifO (jK 2 (Ab v1) (nth v2 (Ab v0)))
 (ifO (zF EE 6 3 (nth (flds (nth v2 (Ab v0))) (Ab v1)))
 (zH (zB 37 [(eI (zC (nth (flds (nth v2 (Ab v0))) (Ab v1)))),(eI 0),(eI 40000)])
 (λr0=>ifO (zF EE 6 3 r0)
 (ifO (bne (zC r0) 0)
 (some (.val (eI 3)))
 ((L129_1a v0 (Ac .i64 (v1+(1:Int))) v2)))
 (none))
 (λ_ _=>none))
 (none))
 (none))
 (none))
 (none))
 (none))
 ((L129_0a (Ac .i64 (v0+(1:Int))) v2)) :=
 (zb 129 1 _).trans (by kernel_rfl)
theorem C129(x0:DV):zB 129 [x0] =
 ifO (zV (zF EE 6) [32] [x0])
 ((L129_0a (0:Int) (flds x0)))
 (none) :=
 (zM (f:=129) (by kernel_rfl) (by kernel_rfl) (by kernel_rfl) [x0]).trans (by kernel_rfl)
end Go.Am
namespace Go.Am
open Go.Proofs
open Go
variable[OO]
def S35_0a(v0:List DV)(v1:Int):St :=
 zr 19 [(0,(.d (.sl 1 v0))),(3,(.d (eI v1)))] []
noncomputable def L35_0a(v0:List DV)(v1:Int):Option CR:=goQ 35 0 (S35_0a v0 v1)
theorem L35_0a_eq(v0:List DV)(v1:Int):L35_0a v0 v1 =
 ifO (decide (v1<(((Aa v0):Nat):Int)))
 (ifO (decide (((0:Int)<=v1)/\(v1<(((Aa v0):Nat):Int))))
 (ifO (zF EE 6 3 (nth v0 (Ab v1)))
 (ifO (bne (zC (nth v0 (Ab v1))) (0:Int))
 (ifO (decide (((0:Int)<=v1)/\(v1<(((Aa v0):Nat):Int))))
 (ifO (zF EE 6 3 (nth v0 (Ab v1)))
 (some (.val (eI (zC (nth v0 (Ab v1))))))
 (none))
 (none))
 ((L35_0a v0 (Ac .i64 (v1+(1:Int))))))
 (none))
 (none))
 (some (.val (eI 0))) :=
 (zb 35 0 _).trans (by kernel_rfl)
theorem C35(x0:DV):zB 35 [x0] =
 ifO (zV (zF EE 6) [25] [x0])
 ((L35_0a (elems x0) (0:Int)))
 (none) :=
 (zM (f:=35) (by kernel_rfl) (by kernel_rfl) (by kernel_rfl) [x0]).trans (by kernel_rfl)
theorem C37(x0 x1 x2:DV):zB 37 [x0,x1,x2] =
 ifO (zV (zF EE 6) [3,3,3] [x0,x1,x2])
 (ifO (decide ((zC x0)<(zC x1)))
 (some (.val (eI 3)))
 (ifO (decide ((zC x0)>(zC x2)))
 (some (.val (eI 3)))
 (some (.val (eI 0)))))
 (none) :=
 (zM (f:=37) (by kernel_rfl) (by kernel_rfl) (by kernel_rfl) [x0,x1,x2]).trans (by kernel_rfl)
theorem C164(x0:DV):zB 164 [x0] =
 ifO (zV (zF EE 6) [141] [x0])
 (zH (zB 37 [(eI (zC (nth (flds x0) 0))),(eI (-1000)),(eI 1000)])
 (λr0=>ifO (zF EE 6 3 r0)
 (zH (zB 37 [(eI (zC (nth (flds x0) 1))),(eI (-1000)),(eI 1000)])
 (λr1=>ifO (zF EE 6 3 r1)
 (zH (zB 35 [(.sl 1 [(eI (zC r0)),(eI (zC r1))])])
 (λr2=>ifO (zF EE 6 3 r2)
 (some (.val (eI (zC r2))))
 (none))
 (λ_ _=>none))
 (none))
 (λ_ _=>none))
 (none))
 (λ_ _=>none))
 (none) :=
 (zM (f:=164) (by kernel_rfl) (by kernel_rfl) (by kernel_rfl) [x0]).trans (by kernel_rfl)
end Go.Am
namespace Go.Am
open Go.Proofs
open Go
variable[OO]
@[simp] theorem c37(n a b:Int):zB 37 [eI n,eI a,eI b]=some (.val (eI (zf n a b))):=by rw[C37];simp[zP,zf];by_cases h:n<a <;> by_cases h':n>b <;> simp[h,h']
end Go.Am
namespace Go.Am
open Go.Proofs
open Go
variable[OO]
theorem l35(l:List Int)(hl:l.length<=4611686018427387904):∀i,i<=l.length->L35_0a (l.map eI) i=some (.val (eI (zT (l.drop i)))):=by
 apply down
 ·rw[L35_0a_eq];simp[zT]
 ·intro i hi ih;rw[L35_0a_eq,za l i hi];have e1:(i:Int)<l.length:=by omega
  simp[e1,zO _ l i hi,zz,zT,wr (i+1) (by omega)]
  split
  ·exact_mod_cast ih
  ·rfl
@[simp] theorem c35(l:List Int)(hl:l.length<=4611686018427387904):zB 35 [.sl 1 (l.map eI)]=some (.val (eI (zT l))):=by rw[C35];simpa using l35 l hl 0 (Al _)
@[simp] theorem c35_2(a b:Int):zB 35 [.sl 1 [eI a,eI b]]=some (.val (eI (zT [a,b]))):=c35 [a,b] (by simp)
@[simp] theorem c35_4(a b c d:Int):zB 35 [.sl 1 [eI a,eI b,eI c,eI d]]=some (.val (eI (zT [a,b,c,d]))):=c35 [a,b,c,d] (by simp)
theorem ptE_or(p:Pt):ptE p=0\/ptE p=3:=by unfold ptE zT zf;by_cases h1:p.x < -1000\/p.x>1000 <;> by_cases h2:p.y < -1000\/p.y>1000 <;> simp[h1,h2,zT]
@[simp] theorem c164(p:Pt):zB 164 [ePt p]=some (.val (eI (ptE p))):=by rw[C164];simp[ptE]
theorem memB_cons(n k:ByteArray)(ks:List ByteArray):YB n (k :: ks)=(decide (n=k) || YB n ks):=rfl
theorem apart_comm(a b:Pt):jQ a b=jQ b a:=by
 have e:∀x y:Int,(x - y) * (x - y)=(y - x) * (y - x):=λx y=>by rw[show x - y=-(y - x) by omega,A5]
 unfold jQ;rw[e a.x b.x,e a.y b.y]
theorem l69_2(s:Si)(i:Nat)(hi:i<s.tb.length)(hl:s.tb.length<=64)(hp:∀o∈s.tb.take i,JP o.at')(ht:JP s.tb[i].at')(h1:1<=s.least)(h2:s.least<=1000) :
  ∀k,k<=i->L69_2a i k s.name s.least (s.tb.map eTb) s.tb[i].name s.tb[i].at'.x s.tb[i].at'.y =
   if ((s.tb.take i).drop k).any (λo=>decide (jQ s.tb[i].at' o.at'<s.least * s.least)) then some (.val (eI 15)) else L69_0a ((i+1:Nat):Int) s.name s.least (s.tb.map eTb):=by
 apply down
 ·rw[L69_2a_eq];simp[wr ((i:Int)+1) (by omega)]
 ·intro k hk ih;have hkl:k<s.tb.length:=by omega
  have hb:=YV s.least 1000 (by omega) h2
  have hkt:k<(s.tb.take i).length:=by simp;omega
  have ha:=hp s.tb[k] (by rw[List.mem_take_iff_getElem];exact⟨k,by omega,rfl⟩)
  have e1:(k:Int)<i:=by omega
  have e2:(k:Int)<s.tb.length:=by omega
  have step:L69_2a i k s.name s.least (s.tb.map eTb) s.tb[i].name s.tb[i].at'.x s.tb[i].at'.y =
    if jQ s.tb[i].at' s.tb[k].at'<s.least * s.least then some (.val (eI 15)) else L69_2a i ((k+1:Nat):Int) s.name s.least (s.tb.map eTb) s.tb[i].name s.tb[i].at'.x s.tb[i].at'.y:=by
   rw[L69_2a_eq];simp only[zP];simp[e1,e2,zO _ s.tb k hkl,c192 s.tb[k].at' s.tb[i].at' ha ht,wr (s.least * s.least) (by omega),wr (k+1) (by omega),apart_comm s.tb[k].at']
   rfl
  rw[step,ih,za _ k hkt,A8,Bd];by_cases hd:jQ s.tb[i].at' s.tb[k].at'<s.least * s.least
  ·rw[if_pos hd,decide_eq_true hd,BK,if_pos rfl]
  ·rw[if_neg hd,decide_eq_false hd,Bb]
theorem l69_1(s:Si)(i:Nat)(hi:i<s.tb.length)(hl:s.tb.length<=64) :
  ∀k,k<=i->L69_1a i k s.name s.least (s.tb.map eTb) s.tb[i].name s.tb[i].at'.x s.tb[i].at'.y =
   if YB s.tb[i].name (((s.tb.take i).map (·.name)).drop k) then some (.val (eI 9)) else L69_2a i (0:Nat) s.name s.least (s.tb.map eTb) s.tb[i].name s.tb[i].at'.x s.tb[i].at'.y:=by
 apply down
 ·rw[L69_1a_eq];simp[YB]
 ·intro k hk ih;have hkl:k<s.tb.length:=by omega
  have hkt:k<((s.tb.take i).map (·.name)).length:=by simp;omega
  have e1:(k:Int)<i:=by omega
  have e2:(k:Int)<s.tb.length:=by omega
  have step:L69_1a i k s.name s.least (s.tb.map eTb) s.tb[i].name s.tb[i].at'.x s.tb[i].at'.y =
    if s.tb[i].name=s.tb[k].name then some (.val (eI 9)) else L69_1a i ((k+1:Nat):Int) s.name s.least (s.tb.map eTb) s.tb[i].name s.tb[i].at'.x s.tb[i].at'.y:=by
   rw[L69_1a_eq];simp only[Jg,zP];simp[e1,e2,zO _ s.tb k hkl,wr (k+1) (by omega),eq_comm (a:=s.tb[k].name)]
  rw[step,ih,za _ k hkt,memB_cons];simp only[Az,Bd];by_cases hd:s.tb[i].name=s.tb[k].name
  ·rw[if_pos hd,decide_eq_true hd,BK,if_pos rfl]
  ·rw[if_neg hd,decide_eq_false hd,Bb]
theorem l69_0(s:Si)(hl:s.tb.length<=64)(h1:1<=s.least)(h2:s.least<=1000) :
  ∀i,i<=s.tb.length->(∀o∈s.tb.take i,JP o.at')->L69_0a i s.name s.least (s.tb.map eTb)=some (.val (eI (jY s.least (s.tb.take i) (s.tb.drop i)))):=by
 apply down (P:=λi=>(∀o∈s.tb.take i,JP o.at')->L69_0a i s.name s.least (s.tb.map eTb)=some (.val (eI (jY s.least (s.tb.take i) (s.tb.drop i)))))
 ·intro _;rw[L69_0a_eq];simp[jY]
 ·intro i hi ih hp;have e1:(i:Int)<s.tb.length:=by omega
  have htk:s.tb.take (i+1)=s.tb.take i++[s.tb[i]]:=by rw[Ai hi]
  rw[za s.tb i hi,jY];rw[htk] at ih;have step:L69_0a i s.name s.least (s.tb.map eTb) =
    if jJ s.tb[i].name=true then (if ptE s.tb[i].at'=0 then L69_1a i (0:Nat) s.name s.least (s.tb.map eTb) s.tb[i].name s.tb[i].at'.x s.tb[i].at'.y else some (.val (eI 3))) else some (.val (eI 8)):=by
   rw[L69_0a_eq];simp only[zP,zz];simp[e1,zO _ s.tb i hi,c130];cases jJ s.tb[i].name
   ·simp
   ·simp only[Ba,zU,if_true];rfl
  rw[step];cases hn:jJ s.tb[i].name with
  | false=>simp[zT]
  | true =>
   by_cases hq:ptE s.tb[i].at'=0
   ·have ht:JP s.tb[i].at':=(zDs _).1 hq;simp only[if_true,hq];rw[l69_1 s i hi hl 0 (Al _),An];cases hm:YB s.tb[i].name ((s.tb.take i).map (·.name)) with
    | true=>simp[zT]
    | false =>
     simp only[Bw,if_false,zT,if_true,ne_eq,not_true_eq_false];rw[l69_2 s i hi hl hp ht h1 h2 0 (Al _),An];split
     ·rfl
     ·refine ih λo ho=>?_
      rcases A3.1 ho with ho | ho
      ·exact hp o ho
      ·rw[Au.1 ho];exact ht
   ·rcases ptE_or s.tb[i].at' with h | h
    ·exact absurd h hq
    ·simp[h,zT]
theorem c69(s:Si):zB 69 [eSi s]=some (.val (eI (jM s))):=by
 rw[C69];simp only[zz,zP];simp[jM,c130];cases hn:jJ s.name with
 | false=>simp[zT]
 | true =>
  by_cases hr:zf s.least 1 1000=0
  ·by_cases hl:(64:Int)<s.tb.length
   ·simp[hr,hl,zT]
   ·have h0:zT [if jJ s.name then 0 else 8,zf s.least 1 1000,if (64:Int)<s.tb.length then 5 else 0]=0:=by simp[zT,hn,hr,hl]
    obtain⟨_,h1,h2,h3⟩:=qi h0;have:=l69_0 s h3 h1 h2 0 (Al _) (by simp)
    simpa[hr,hl,zT] using this
  ·have hr3:zf s.least 1 1000=3:=by unfold zf at hr ⊢;split at hr <;> simp_all
   simp[hr3,zT]
end Go.Am
namespace Go.Am
open Go.Proofs
open Go
variable[OO]
theorem l193(l:List ByteArray)(n:ByteArray)(hl:l.length<=1000):∀i,i<=l.length->L193_0a (l.map .str) n i=some (.val (.bool (YB n (l.drop i)))):=by
 apply down
 ·rw[L193_0a_eq];simp[YB]
 ·intro i hi ih;have e1:(i:Int)<l.length:=by omega
  rw[L193_0a_eq,za l i hi,memB_cons];simp only[Jg,zP,wr ((i:Int)+1) (by omega)]
  by_cases h:l[i]=n
  ·simp[e1,zO _ l i hi,h]
  ·have h':¬n=l[i]:=λe=>h e.symm
   simp only[decide_eq_false h',Bb];simp[e1,zO _ l i hi,h]
   exact_mod_cast ih
theorem c193(l:List ByteArray)(n:ByteArray)(hl:l.length<=1000):zB 193 [.sl 1 (l.map .str),.str n]=some (.val (.bool (YB n l))):=by rw[C193];simpa using l193 l n hl 0 (Al _)
theorem l71_1(d w:List Int)(nm:ByteArray)(hl:w.length<=1000):∀i,i<=w.length->L71_1a i nm (d.map eI) (w.map eI)=some (.val (eI (jt 100 true (z6 w i) (w.drop i)))):=by
 apply down
 ·rw[L71_1a_eq];simp[jt]
 ·intro i hi ih;have e1:(i:Int)<w.length:=by omega
  rw[za w i hi,jt];rw[YH w i hi] at ih;have step:L71_1a i nm (d.map eI) (w.map eI)=if jV 100 true (z6 w i) w[i]=0 then L71_1a ((i+1:Nat):Int) nm (d.map eI) (w.map eI) else some (.val (eI (jV 100 true (z6 w i) w[i]))):=by
   rw[L71_1a_eq];simp only[zP,zz];by_cases hr:zf w[i] 0 100=0
   ·cases i with
    | zero =>
     simp[e1,hi,zO _ w 0 hi,z6,jV,wr 1 (by omega),hr,zT]
    | succ j =>
     have hj:j<w.length:=by omega
     have e2:(((j+1:Nat):Int) - 1)=(j:Int):=by omega
     have e3:(j:Int)<w.length:=by omega
     have e4:((j+1:Nat):Int)>0:=by omega
     have e5:((j+1:Nat):Int)<w.length:=by omega
     have e6:(0:Int)<=((j+1:Nat):Int):=by omega
     rw[e2,wr (j:Int) (by omega)]
     rw[wr (((j+1:Nat):Int)+1) (by omega)]
     simp only[e4,e5,e6,e3,Bz,and_self,if_true,Ae,zO _ w (j+1) hi,zO _ w j hj];have e7:(j:Int)+1<w.length:=by omega
     by_cases hc:w[j+1]<w[j]
     ·simp[jV,z6,hj,e7,hc,hr,zT]
     ·simp[jV,z6,hj,e7,hc,hr,zT]
   ·have hs:jV 100 true (z6 w i) w[i]=zf w[i] 0 100:=by unfold jV;rw[zT,if_neg hr]
    simp[e1,hi,zO _ w i hi,hs,hr]
  rw[step,ih];split <;> rfl
theorem l71_0(d w:List Int)(nm:ByteArray)(hl:d.length<=1000):∀i,i<=d.length->L71_0a i nm (d.map eI) (w.map eI)=if jt 256 false (z6 d i) (d.drop i)=0 then L71_1a (0:Nat) nm (d.map eI) (w.map eI) else some (.val (eI (jt 256 false (z6 d i) (d.drop i)))):=by
 apply down
 ·rw[L71_0a_eq];simp[jt]
 ·intro i hi ih;have e1:(i:Int)<d.length:=by omega
  rw[za d i hi,jt];rw[YH d i hi] at ih;have step:L71_0a i nm (d.map eI) (w.map eI)=if jV 256 false (z6 d i) d[i]=0 then L71_0a ((i+1:Nat):Int) nm (d.map eI) (w.map eI) else some (.val (eI (jV 256 false (z6 d i) d[i]))):=by
   rw[L71_0a_eq];simp only[zP,zz];by_cases hr:zf d[i] 0 256=0
   ·cases i with
    | zero =>
     simp[e1,hi,zO _ d 0 hi,z6,jV,wr 1 (by omega),hr,zT]
    | succ j =>
     have hj:j<d.length:=by omega
     have e2:(((j+1:Nat):Int) - 1)=(j:Int):=by omega
     have e3:(j:Int)<d.length:=by omega
     have e4:((j+1:Nat):Int)>0:=by omega
     have e5:((j+1:Nat):Int)<d.length:=by omega
     have e6:(0:Int)<=((j+1:Nat):Int):=by omega
     rw[e2,wr (j:Int) (by omega)]
     rw[wr (((j+1:Nat):Int)+1) (by omega)]
     simp only[e4,e5,e6,e3,Bz,and_self,if_true,Ae,zO _ d (j+1) hi,zO _ d j hj];have e7:(j:Int)+1<d.length:=by omega
     by_cases hc:d[j+1]>d[j]
     ·simp[jV,z6,hj,e7,hc,hr,zT]
     ·simp[jV,z6,hj,e7,hc,hr,zT]
   ·have hs:jV 256 false (z6 d i) d[i]=zf d[i] 0 256:=by unfold jV;rw[zT,if_neg hr]
    simp[e1,hi,zO _ d i hi,hs,hr]
  rw[step];by_cases h:jV 256 false (z6 d i) d[i]=0
  ·rw[if_pos h,if_pos h,ih]
  ·rw[if_neg h,if_neg h,if_neg h]
theorem c71(w:Wk):zB 71 [eWk w]=some (.val (eI (wakeE w))):=by
 have key:wakeH w=0->L71_0a 0 w.rule (w.d.map eI) (w.w.map eI)=some (.val (eI (if jt 256 false none w.d=0 then jt 100 true none w.w else jt 256 false none w.d))):=by
  intro h;obtain⟨_,_,h3,h4⟩:=wakeH_facts h;have a:=l71_0 w.d w.w w.rule (by omega) 0 (Al _)
  have b:=l71_1 w.d w.w w.rule (by omega) 0 (Al _)
  simp only[z6,if_true,An,BF] at a b;rw[a,b];split <;> rfl
 have h193:zB 193 [.sl 1 [.str rG,.str rS,.str rM],.str w.rule]=some (.val (.bool (ji w.rule))):=c193 [rG,rS,rM] w.rule (by simp)
 have fin:(if wakeH w=0 then L71_0a 0 w.rule (w.d.map eI) (w.w.map eI) else some (.val (eI (wakeH w))))=some (.val (eI (wakeE w))):=by
  unfold wakeE;by_cases h:wakeH w=0
  ·rw[if_pos h,if_pos h,key h]
  ·rw[if_neg h,if_neg h]
 rw[<-fin,C71,C92];simp only[zz,zP,JY];simp[h193];cases hk:ji w.rule with
 | false=>simp[wakeH,hk,zT]
 | true =>
  by_cases h1:w.d=[]
  ·simp[wakeH,hk,zT,h1]
  ·by_cases h2:(32:Int)<w.d.length
   ·simp[wakeH,hk,zT,h1,h2]
   ·by_cases h3:(w.w.length:Int)=w.d.length
    ·simp[wakeH,hk,zT,h1,h2,h3]
    ·simp[wakeH,hk,zT,h1,h2,h3]
end Go.Am
namespace Go.Am
open Go.Proofs
open Go
variable[OO]
def listB(l:List Int)(e bad:Int)(want:List Int):Bool:=if e=bad then (if bad=0 then decide (l=want) else decide (l=[])) else false
theorem c56(l:List Int)(hb:l.length<=1000000):zB 56 [.sl 1 (l.map eI)]=some (.val (.sl 1 (l.map eI))):=by
 rw[C56];simp only[zP];have h1:(2 * l.length+200) * 8<=281474976710656:=by omega
 cases l with
 | nil=>simp
 | cons a l =>
  simp only[AY] at h1;simp[h1];exact Aq (by simp)
theorem c67(w:Wk)(h1:w.d.length<=1000000)(h2:w.w.length<=1000000):zB 67 [eWk w]=some (.val (eWk w)):=by rw[C67];simp[c56 w.d h1,c56 w.w h2]
theorem c107(c:Cu)(h1:c.p.length<=1000000):zB 107 [eCu c]=some (.val (eCu c)):=by rw[C107];simp[c56 c.p h1]
def short33(n:Nat):Bool:=decide ((n:Int)<=6) || ((n:Int) == 33)
def shortW(w:Wk):Bool:=decide ((w.rule.size:Int)<=40) && short33 w.d.length && short33 w.w.length
theorem c63(w:Wk):zB 63 [eWk w]=some (.val (.bool (shortW w))):=by
 rw[C63];simp only[zP,JY];unfold shortW short33;by_cases h1:(w.rule.size:Int)<=40
 ·by_cases h2:(w.d.length:Int)<=6
  ·by_cases h3:(w.w.length:Int)<=6
   ·simp[h1,h2,h3]
   ·simp[h1,h2,h3]
  ·by_cases h4:(w.d.length:Int)=33
   ·by_cases h3:(w.w.length:Int)<=6
    ·simp[h1,h2,h3,h4]
    ·simp[h1,h2,h3,h4]
   ·simp[h1,h2,h4]
 ·simp[h1]
end Go.Am
namespace Go.Am
open Go.Proofs
open Go
variable[OO]
theorem l65_b(tbs:List Tb)(nm:ByteArray)(least:Int)(hl:tbs.length<=100000):∀i,i<=tbs.length->zIY (tbs.map eTb) tbs.length i nm least ((tbs.take i).map eTb)=some (.val (.agg 0 [.str nm,eI least,.sl 3 (tbs.map eTb)])):=by
 apply down
 ·rw[zHN];simp;exact Aq (by simp)
 ·intro i hi ih;have e1:(i:Int)<tbs.length:=by omega
  have htk:tbs.take (i+1)=tbs.take i++[tbs[i]]:=by rw[Ai hi]
  rw[<-ih];rw[zHN];simp only[zP];have hm:min i tbs.length=i:=by omega
  have e2:(2 * (i+1)+200) * 32<=281474976710656:=by omega
  simp[e1,zO _ tbs i hi,hm,e2,wr ((i:Int)+1) (by omega)]
  congr 1;rw[Ai (by simpa using hi)]
  simp
theorem c65(s:Si)(hl:s.tb.length<=100000):zB 65 [eSi s]=some (.val (eSi s)):=by
 rw[C65];simp;rw[L65_0a_eq];simp only[zP];by_cases h:s.tb=[]
 ·simp[h]
 ·have h0:0<s.tb.length:=AQ.2 h;have h1:=l65_b s.tb s.name s.least hl 1 (by omega)
  have e:s.tb.take 1=[s.tb[0]]:=by rw[Ai h0];simp
  rw[e] at h1;simp[h0,zO _ s.tb 0 h0];simpa using h1
end Go.Am
namespace Go.Am
open Go.Proofs
open Go
variable[OO]
theorem short33_le{n:Nat}(h:short33 n=true):n<=33:=by simp[short33] at h;omega
end Go.Am
namespace Go.Am
open Go.Proofs
open Go
variable[OO]
theorem l110(l:List Int)(cut:Int)(hl:l.length<=1000):∀i,i<=l.length->L110_0a i (l.map eI) cut=some (.val (eI (Jl cut (if i=0 then none else some (l.getD (i - 1) 0)) (l.drop i)))):=by
 apply down
 ·rw[L110_0a_eq];simp[Jl]
 ·intro i hi ih;have e1:(i:Int)<l.length:=by omega
  have hgi:l.getD i 0=l[i]:=by rw[AD,AI hi];rfl
  rw[if_neg (by omega:¬i+1=0),Bx,hgi] at ih
  have ih2:L110_0a (Ar.wrap ((i:Int)+1)) (l.map eI) cut=some (.val (eI (Jl cut (some l[i]) (l.drop (i+1))))):=by rw[wr ((i:Int)+1) (by omega)];exact_mod_cast ih
  rw[L110_0a_eq,za l i hi];have hn:=zO eI l i hi;have e7:(0:Int)<=(i:Int):=by omega
  simp only[zP,JY,zz];simp only[Ad,e1,e7,if_true,and_self,Ae,hn,h3,ih2,zD,c37,zJ];by_cases hz:i=0
  ·subst hz;simp only[BF,gt_iff_lt,AJ,if_false,if_true];rw[Jl];by_cases hX:zf l[0] 0 100000=0
   ·refine(if_pos hX).trans ?_;by_cases h6:l[0]=0
    ·refine(if_pos h6).trans ?_;have e:jc none l[0]=0:=by rw[h6] at hX;simp[jc,zT,hX,h6]
     rw[if_pos e]
    ·refine(if_neg h6).trans ?_;have e:jc none l[0]=6:=by simp[jc,zT,hX,h6]
     rw[e];rfl
   ·refine(if_neg hX).trans ?_;have e:jc none l[0]=zf l[0] 0 100000:=by simp[jc,zT,hX]
    rw[e,if_neg hX];rfl
  ·obtain⟨k,rfl⟩:∃k,i=k+1:=⟨i - 1,by omega⟩
   have hk:k<l.length:=by omega
   have hgk:l.getD k 0=l[k]:=by rw[AD,AI hk];rfl
   have hnk:=zO eI l k hk;have e3:Ar.wrap (((k+1:Nat):Int) - 1)=k:=by rw[wr _ (by omega)];omega
   have e5:((k+1:Nat):Int)>0:=by omega
   have e6:¬((k+1:Nat):Int)=0:=by omega
   have e8:(0:Int)<=(k:Int)/\(k:Int)<l.length:=by omega
   simp only[e3,e5,e6,e8,if_true,if_false,and_self,Ae,hnk,h3,zD];rw[Jl];simp only[Bx,hgk,Nat.add_eq_zero_iff,Nat.one_ne_zero,and_false,if_false];by_cases hX:zf l[k+1] 0 100000=0
   ·refine(if_pos hX).trans ?_;by_cases h6:l[k+1]<l[k]
    ·refine(if_pos h6).trans ?_;have e:jc (some l[k]) l[k+1]=11:=by simp[jc,zT,hX,h6]
     rw[e];rfl
    ·refine(if_neg h6).trans ?_;rw[if_pos (by simp[jc,zT,hX,h6])]
   ·refine(if_neg hX).trans ?_;have e:jc (some l[k]) l[k+1]=zf l[k+1] 0 100000:=by simp[jc,zT,hX]
    rw[e,if_neg hX];rfl
theorem c110(c:Cu):zB 110 [eCu c]=some (.val (eI (YK c))):=by
 rw[C110];simp only[zP];simp only[zK,zN,h29,Ag,zD,zQ,zS,zW,zR,zI,Ad];unfold YK;by_cases h1:(c.p.length:Int)<2
 ·simp[h1]
 ·by_cases h2:(c.p.length:Int)>51
  ·simp[h1,h2]
  ·rw[if_neg h1,if_neg h2,if_neg h1,if_neg h2,<-zBA];have:=l110 c.p c.cut (by omega) 0 (Al _)
   simpa using this
theorem l129_1(r:List (List Int))(s:Nat)(hs:s<r.length)(h8:r.length=8)(hrow:r[s].length=51):∀k,k<=r[s].length->L129_1a s k (r.map jC)=if J5 (r[s].drop k)=0 then L129_0a (Ar.wrap ((s:Int)+1)) (r.map jC) else some (.val (eI 3)):=by
 apply down
 ·rw[L129_1a_eq];simp only[zP];rw[if_neg (by omega)]
  simp[J5]
 ·intro k hk ih;have e1:(k:Int)<=50:=by omega
  have e2:(0:Int)<=(s:Int)/\(s:Int)<8:=by omega
  have e3:(0:Int)<=(k:Int)/\(k:Int)<51:=by omega
  rw[L129_1a_eq,za r[s] k hk];simp only[zP,zz];rw[if_pos e1,if_pos e2,if_pos e3];simp only[Ae,js _ _ _ _ hs,zD,zO _ r s hs,js _ _ _ _ hk,zQ,zO _ r[s] k hk,h3,zI,c37,zJ];rw[wr ((k:Int)+1) (by omega),show((k:Int)+1)=((k+1:Nat):Int) by omega,ih]
  rw[Q0];rcases zCV r[s][k] 0 40000 with hr | hr
  ·simp[hr]
  ·simp[hr]
theorem l129_0(r:List (List Int))(h:zu r):∀s,s<=r.length->L129_0a s (r.map jC)=some (.val (eI (qj (r.drop s)))):=by
 apply down
 ·rw[L129_0a_eq];have:=h.1;simp only[zP];rw[if_neg (by omega)]
  simp[qj]
 ·intro s hs ih;have hl:=h.1;have hrow:=h.2 r[s] (Ay hs);have e1:(s:Int)<8:=by omega
  rw[L129_0a_eq,za r s hs];simp only[zP];rw[if_pos e1];have:=l129_1 r s hs hl hrow 0 (Al _);rw[show((0:Nat):Int)=0 from rfl] at this
  rw[this,wr ((s:Int)+1) (by omega),show((s:Int)+1)=((s+1:Nat):Int) by omega,ih,An]
  rw[zBl];split <;> simp_all
theorem c129(r:List (List Int))(h:zu r):zB 129 [eRo r]=some (.val (eI (qj r))):=by rw[C129];simp only[zK,zN,h32,Ad,h.1,decide_true,Ag,zD,zQ];have:=l129_0 r h 0 (Al _);simpa using this
theorem hFm'(f:Fm)(h:zu f.r):zF EE 6 34 (eFm f)=true:=by rw[h34];simp[h.1]
end Go.Am
namespace Go.Am
open Go.Proofs
open Go
theorem sumI_perm{a b:List Int}(h:a.Perm b):jZ a=jZ b:=by
 induction h with
 | nil=>rfl
 | cons x _ ih=>simp only[jZ,ih]
 | swap x y l=>simp only[jZ];omega
 | trans _ _ h1 h2=>exact h1.trans h2
theorem maxL_perm{a b:List Int}(h:a.Perm b):∀n,zB9 n a=zB9 n b:=by
 induction h with
 | nil=>intro n;rfl
 | cons x _ ih=>intro n;simp only[zB9];exact ih _
 | swap x y l =>
  intro n;simp only[zB9];congr 1;split <;> split <;> (try split) <;> (try split) <;> omega
 | trans _ _ h1 h2=>intro n;exact(h1 n).trans (h2 n)
theorem combI_perm(rule:ByteArray){a b:List Int}(h:a.Perm b):QW rule a=QW rule b:=by unfold QW;rw[maxL_perm h,sumI_perm h,show jZ (sqI a)=jZ (sqI b) from sumI_perm (h.map _)]
end Go.Am
namespace Go.Am
open Go.Proofs
open Go
section
variable(en:List Nat->Int)
def J7(ok:List Nat->Bool):List Nat->List Nat->Nat->Ch
 | _,taken,0=>if ok taken then some (taken,en taken) else none
 | [],_,_+1=>none
 | i :: l,taken,n+1=>pick (J7 ok l (taken++[i]) n) (J7 ok l taken (n+1))
theorem zDJ{ok:List Nat->Bool}(hm:∀a b,ok (a++b)=true->ok a=true):∀(l taken:List Nat) (n:Nat),ok taken=false->J7 en ok l taken n=none
 | l,taken,0,h=>by cases l <;> simp[J7,h]
 | [],taken,n+1,h=>rfl
 | i :: l,taken,n+1,h=>by
  have h1:ok (taken++[i])=false:=by
   cases hh:ok (taken++[i]) with
   | false=>rfl
   | true=>rw[hm _ _ hh] at h;cases h
  rw[J7,zDJ hm l _ n h1,zDJ hm l _ (n+1) h];rfl
theorem zF7{ok:List Nat->Bool}{near:Nat->Nat->Bool}(hm:∀a b,ok (a++b)=true->ok a=true){D:List Nat}(hn:∀a i,(∀x∈a,x∈D)->i∈D->i ∉ a->ok a=true->ok (a++[i])=!(a.any λt=>near t i)) :
  ∀(l taken:List Nat) (n:Nat),ok taken=true->(∀x∈l,x∈D)->(∀x∈taken,x∈D)->(taken++l).Nodup->j7 en near l taken n=J7 en ok l taken n
 | l,taken,0,h,_,_,_=>by cases l <;> simp[j7,J7,h]
 | [],taken,n+1,h,_,_,_=>rfl
 | i :: l,taken,n+1,h,hl,ht,hd=>by
  have hd':=AB.1 hd;have hi:i ∉ taken:=λhh=>hd'.2.2 i hh i (by simp) rfl
  have hstep:=hn taken i ht (hl i (by simp)) hi h
  have hd2:(taken++l).Nodup:=hd.sublist (BN (List.sublist_cons_self i l) taken);have hd3:((taken++[i])++l).Nodup:=by rw[AM];exact hd
  have ih2:=zF7 hm hn l taken (n+1) h (λx hx=>hl x (by simp[hx])) ht hd2
  rw[j7,J7,ih2];cases hc:taken.any (λt=>near t i) with
  | true =>
   rw[hc] at hstep;rw[if_pos rfl,zDJ en hm l (taken++[i]) n hstep]
  | false =>
   rw[hc] at hstep;rw[if_neg (by simp),zF7 hm hn l (taken++[i]) n hstep (λx hx=>hl x (by simp[hx])) (λx hx=>by
    rcases A3.1 hx with hx | hx
    ·exact ht x hx
    ·exact hl x (by simp at hx;simp[hx])) hd3]
theorem pick_ge{a b:Ch}{x:List Nat×Int}(h:a=some x\/b=some x):∃r,pick a b=some r/\x.2<=r.2:=by
 cases a with
 | none =>
  rcases h with h | h
  ·cases h
  ·exact⟨x,h,AK _⟩
 | some u =>
  cases b with
  | none =>
   rcases h with h | h
   ·exact⟨u,rfl,by cases h;exact AK _⟩
   ·cases h
  | some y =>
   simp only[pick];split
   ·refine⟨y,rfl,?_⟩;rcases h with h | h <;> cases h <;> omega
   ·refine⟨u,rfl,?_⟩;rcases h with h | h <;> cases h <;> omega
theorem zAt{ok:List Nat->Bool}:∀(l taken:List Nat) (n:Nat) (r:List Nat×Int),J7 en ok l taken n=some r->∃s,s.Sublist l/\s.length=n/\r=(taken++s,en (taken++s))/\ok (taken++s)=true
 | l,taken,0,r,h=>by
  have h':(if ok taken then some (taken,en taken) else none)=some r:=by cases l <;> exact h
  split at h'
  ·rename_i hk;injection h' with h'
   exact⟨[],List.nil_sublist l,rfl,by simp[<-h'],by simpa using hk⟩
  ·cases h'
 | [],taken,n+1,r,h=>by cases h
 | i :: l,taken,n+1,r,h=>by
  rw[J7] at h;rcases zG0 h with h | h
  ·obtain⟨s,h1,h2,h3,h4⟩:=zAt l _ n r h;exact⟨i :: s,h1.cons_cons i,by simp[h2],by simpa using h3,by simpa using h4⟩
  ·obtain⟨s,h1,h2,h3,h4⟩:=zAt l _ (n+1) r h;exact⟨s,h1.cons i,h2,h3,h4⟩
theorem bestR_most{ok:List Nat->Bool}:∀(l taken s:List Nat),s.Sublist l->ok (taken++s)=true->∃r,J7 en ok l taken s.length=some r/\en (taken++s)<=r.2
 | l,taken,[],_,hk=>by
  refine⟨(taken,en taken),?_,by simp⟩
  have hk':ok taken=true:=by simpa using hk
  cases l <;> simp[J7,hk']
 | [],taken,x :: s,hs,_=>by cases hs
 | i :: l,taken,x :: s,hs,hk=>by
  rw[AY,J7];cases hs with
  | cons _ hs =>
   obtain⟨r,h1,h2⟩:=bestR_most l taken (x :: s) hs hk;obtain⟨r',h3,h4⟩:=pick_ge (a:=J7 en ok l (taken++[i]) s.length) (.inr h1);exact⟨r',h3,by omega⟩
  | cons_cons _ hs =>
   have e:taken++i :: s=(taken++[i])++s:=by simp
   rw[e] at hk ⊢;obtain⟨r,h1,h2⟩:=bestR_most l (taken++[i]) s hs hk;obtain⟨r',h3,h4⟩:=pick_ge (b:=J7 en ok l taken (s.length+1)) (.inl h1);exact⟨r',h3,by omega⟩
end
theorem defP_self(w:Wk)(sec:Int)(st a:Pt):zGV w sec st a a=0:=by
 have e:(Y8 sec st a a).1=0:=by
  simp only[Y8,relI,Int.sub_self,Int.zero_mul,BM];split
  ·rfl
  ·rfl
 unfold zGV zBz;rw[e,if_pos (by omega)]
theorem rowP'_eq(w:Wk)(ps:List Pt)(sec:Int)(st:Pt)(j:Nat):jk w ps sec st j=ps.map λa=>zGV w sec st a (ps.getD j default):=by
 refine Bg (by simp[jk]) λi h1 h2=>?_
 have hi:i<ps.length:=by simpa[jk] using h1
 have e:ps.getD i default=ps[i]:=by rw[AD,AI hi];rfl
 simp only[jk,Az,Bv];rw[<-e];by_cases h:i=j
 ·subst h;rw[if_pos rfl,defP_self]
 ·rw[if_neg h]
def combB(w:Wk)(ps:List Pt)(sec:Int)(st b:Pt):Int:=Yn (QW w.rule (ps.map λa=>zGV w sec st a b))
theorem combP_eq(w:Wk)(ps:List Pt)(sec:Int)(st:Pt):JA w ps sec st=ps.map (combB w ps sec st):=by
 refine Bg (by simp[jw]) λj h1 h2=>?_
 have hj:j<ps.length:=by simpa using h2
 have e:ps.getD j default=ps[j]:=by rw[AD,AI hj];rfl
 simp only[JA,wakesP,Az,Bv,rowP'_eq,e,combB]
theorem combB_perm(w:Wk){ps ps':List Pt}(h:ps.Perm ps')(sec:Int)(st b:Pt):combB w ps sec st b=combB w ps' sec st b:=by unfold combB;rw[combI_perm w.rule (h.map _)]
theorem powP_perm(w:Wk)(c:Cu){ps ps':List Pt}(h:ps.Perm ps')(sec v above:Int):(qA w c ps sec v above).Perm (qA w c ps' sec v above):=by
 unfold qA jL;rw[combP_eq,combP_eq];have e:ps.map (combB w ps sec (zY sec))=ps.map (combB w ps' sec (zY sec)):=A7 λb _=>combB_perm w h sec _ b
 rw[e];exact((h.map _).map _).map _
theorem rowE_perm(w:Wk)(c:Cu){ps ps':List Pt}(h:ps.Perm ps')(above sec:Int):∀(l:List Int) (v:Int),qw w c ps above sec v l=qw w c ps' above sec v l
 | [],_=>rfl
 | q :: r,v=>by simp only[qw,qD,sumI_perm (powP_perm w c h sec v above),rowE_perm w c h above sec r]
theorem enE_perm(w:Wk)(c:Cu){ps ps':List Pt}(h:ps.Perm ps')(above:Int):∀(l:List (List Int)) (s:Int),enE w c ps above s l=enE w c ps' above s l
 | [],_=>rfl
 | q :: r,s=>by simp only[enE,rowE_perm w c h,enE_perm w c h above r]
theorem energy_perm(w:Wk)(c:Cu)(r:List (List Int)){ps ps':List Pt}(h:ps.Perm ps')(above:Int):jl w c r ps above=jl w c r ps' above:=enE_perm w c h above r 0
def Sums:List (Nat->Option Int)->Nat->Int->Prop
 | [],n,x=>n=0/\x=0
 | f :: fs,n,x=>∃c y m z,f c=some y/\Sums fs m z/\n=c+m/\x=y+z
theorem Sums_snoc:∀(fs:List (Nat->Option Int)) (f:Nat->Option Int) (n:Nat) (x:Int),Sums (fs++[f]) n x ↔ ∃m z c y,Sums fs m z/\f c=some y/\n=m+c/\x=z+y
 | [],f,n,x=>by
  constructor
  ·rintro⟨c,y,m,z,h1,⟨hm,hz⟩,hn,hx⟩;exact⟨0,0,c,y,⟨rfl,rfl⟩,h1,by omega,by omega⟩
  ·rintro⟨m,z,d,y,⟨hm,hz⟩,h1,hn,hx⟩;exact⟨d,y,0,0,h1,⟨rfl,rfl⟩,by omega,by omega⟩
 | g :: fs,f,n,x=>by
  constructor
  ·rintro⟨c,y,m,z,h1,h2,rfl,rfl⟩;obtain⟨m',z',c',y',k1,k2,rfl,rfl⟩:=(Sums_snoc fs f m z).1 h2;exact⟨c+m',y+z',c',y',⟨c,y,m',z',h1,k1,rfl,rfl⟩,k2,by omega,by omega⟩
  ·rintro⟨m',z',c',y',⟨c,y,m,z,h1,h2,rfl,rfl⟩,k2,rfl,rfl⟩;exact⟨c,y,m+c',z+y',h1,(Sums_snoc fs f _ _).2 ⟨m,z,c',y',h2,k2,rfl,rfl⟩,by omega,by omega⟩
theorem IsMax.congr{S T:Int->Prop}{o:Option Int}(h:IsMax S o)(e:∀x,S x ↔ T x):IsMax T o:=by
 cases o with
 | none=>exact λx hx=>h x ((e x).2 hx)
 | some m=>exact⟨(e m).1 h.1,λx hx=>h.2 x ((e x).2 hx)⟩
theorem IsMax.dom{S T:Int->Prop}{o:Option Int}(h:IsMax S o)(sub:∀x,S x->T x)(dom:∀x,T x->∃y,S y/\x<=y):IsMax T o:=by
 cases o with
 | none =>
  intro x hx;obtain⟨y,hy,_⟩:=dom x hx;exact h y hy
 | some m =>
  refine⟨sub m h.1,λx hx=>?_⟩
  obtain⟨y,hy,hxy⟩:=dom x hx;have:=h.2 y hy;omega
def boundR:List (Nat->Option Int)->List Nat->Nat->Option Int
 | [],_,n=>if n=0 then some 0 else none
 | f :: fs,lens,n=>(Aj (min n (lens.headD 0)+1)).foldl (λacc c=>match f c,boundR fs lens.tail (n - c) with
  | some e,some rest=>(match acc with | none=>some (e+rest) | some m=>if e+rest>m then some (e+rest) else some m)
  | _,_=>acc) none
theorem fold_max(g:Nat->Option Int):∀(l:List Nat) (acc:Option Int) (S:Int->Prop),IsMax S acc ->
  IsMax (λx=>S x\/∃c∈l,g c=some x) (l.foldl (λacc c=>match g c with | some e=>(match acc with | none=>some e | some m=>if e>m then some e else some m) | none=>acc) acc)
 | [],acc,S,h=>h.congr λx=>by simp
 | c :: l,acc,S,h=>by
  rw[List.foldl_cons];refine(fold_max g l _ (λx=>S x\/g c=some x) ?_).congr λx=>?_
  ·cases hg:g c with
   | none=>exact h.congr λx=>by simp
   | some e =>
    cases acc with
    | none=>exact⟨.inr rfl,λx hx=>by
      rcases hx with hx | hx
      ·exact absurd hx (h x)
      ·injection hx with hx;omega⟩
    | some m =>
     dsimp only;split
     ·exact⟨.inr rfl,λx hx=>by
       rcases hx with hx | hx
       ·have:=h.2 x hx;omega
       ·injection hx with hx;omega⟩
     ·exact⟨.inl h.1,λx hx=>by
       rcases hx with hx | hx
       ·exact h.2 x hx
       ·injection hx with hx;omega⟩
  ·constructor
   ·rintro ((h | h) | ⟨d,h1,h2⟩)
    ·exact .inl h
    ·exact .inr ⟨c,by simp,h⟩
    ·exact .inr ⟨d,by simp[h1],h2⟩
   ·rintro (h | ⟨d,h1,h2⟩)
    ·exact .inl (.inl h)
    ·rcases AG.1 h1 with rfl | h1
     ·exact .inl (.inr h2)
     ·exact .inr ⟨d,h1,h2⟩
def oadd:Option Int->Option Int->Option Int
 | some a,some b=>some (a+b)
 | _,_=>none
theorem boundR_max:∀(fs:List (Nat->Option Int)) (lens:List Nat) (n:Nat),lens.length=fs.length->(∀i (h:i<fs.length) (h':i<lens.length) c,lens[i]<c->fs[i] c=none)->IsMax (Sums fs n) (boundR fs lens n)
 | [],lens,n,_,_=>by
  unfold boundR;split
  ·rename_i h;exact⟨⟨h,rfl⟩,λx hx=>by have:=hx.2;omega⟩
  ·rename_i h;exact λx hx=>h hx.1
 | f :: fs,[],n,h,_=>by simp at h
 | f :: fs,len :: lens,n,h,hl=>by
  have ih:=λm=>boundR_max fs lens m (by simpa using h) λi a b c=>hl (i+1) (by simpa using a) (by simpa using b) c
  have h0:=hl 0 (by simp) (by simp)
  simp only[AL] at h0;have e:boundR (f :: fs) (len :: lens) n=(Aj (min n len+1)).foldl (λacc c=>match oadd (f c) (boundR fs lens (n - c)) with | some e=>(match acc with | none=>some e | some m=>if e>m then some e else some m) | none=>acc) none:=by rw[boundR];congr 1;funext acc c;simp only[List.tail_cons];cases f c <;> cases boundR fs lens (n - c) <;> rfl
  rw[e];refine(fold_max (λc=>oadd (f c) (boundR fs lens (n - c))) _ none (λ_=>False) (λx h=>h)).dom (λx hx=>?_) (λx hx=>?_)
  ·rcases hx with h | ⟨c,hc,hx⟩
   ·exact h.elim
   ·simp only[Ax] at hc;cases hf:f c with
    | none=>rw[hf] at hx;simp[oadd] at hx
    | some y =>
     have hm:=ih (n - c);cases hb:boundR fs lens (n - c) with
     | none=>rw[hf,hb] at hx;simp[oadd] at hx
     | some z =>
      rw[hf,hb] at hx;rw[hb] at hm;simp only[oadd,BP] at hx;exact⟨c,y,n - c,z,hf,hm.1,by omega,hx.symm⟩
  ·obtain⟨c,y,m,z,h1,h2,rfl,rfl⟩:=hx;have hc:c<=len:=by
    rcases A0 len c with hh | hh
    ·rw[h0 c hh] at h1;cases h1
    ·exact hh
   have hm:=ih m;cases hb:boundR fs lens m with
   | none=>rw[hb] at hm;exact absurd h2 (hm z)
   | some z' =>
    rw[hb] at hm;refine⟨y+z',.inr ⟨c,by simp only[Ax];omega,?_⟩,by have:=hm.2 z h2;omega⟩
    rw[show c+m - c=m by omega,h1,hb];rfl
end Go.Am
namespace Go.Am
open Go.Proofs
open Go
theorem d81{n:Nat}{x:DV}(h:DT EE (n+3) 81 x):∃l:List Pt,x=.sl 2 (l.map ePt)/\∀p∈l,in64 p.x/\in64 p.y:=by
 obtain⟨ed,xs,h1,h2,h3⟩:=(show DT EE (n+3) 81 x=(∃(ed:TD) (xs:List DV),EE.D 141=some ed/\x=DV.sl ed.size xs/\∀y∈xs,DT EE (n+2) 141 y) by kernel_rfl) ▸ h
 have e:EE.D 141=some td141:=by kernel_rfl
 rw[e] at h1;injection h1 with h1
 subst h1;obtain⟨l,rfl,hl⟩:=lst ePt (λp=>in64 p.x/\in64 p.y) _ (λy hy=>d141 hy) xs h3
 exact⟨l,h2,hl⟩
theorem d5{n:Nat}{x:DV}(h:DT EE (n+1) 5 x):∃a:Nat,x=.int .u8 a/\a<=255:=by
 obtain⟨m,h1,h2,h3⟩:=(show DT EE (n+1) 5 x=(∃m:Int,x=DV.int .u8 m/\AX.min<=m/\m<=AX.max) by kernel_rfl) ▸ h
 have h2:(0:Int)<=m:=h2;have h3:m<=(255:Int):=h3;exact⟨m.toNat,by rw[h1,A9 h2],by omega⟩
theorem d83{n:Nat}{x:DV}(h:DT EE (n+4) 83 x):∃p:Pn,x=ePn p/\zu p.r/\in64 p.least:=by
 obtain⟨xs,h1,h2,h3⟩:=(show DT EE (n+4) 83 x=(∃xs:List DV,x=DV.agg 6 xs/\xs.length=([81,3,27,29,32]:List Nat).length/\∀(i:Nat) (u:TypeId) (y:DV),([81,3,27,29,32]:List Nat)[i]? = some u->xs[i]? = some y->DT EE (n+3) u y) by kernel_rfl) ▸ h
 obtain⟨a,b,c,d,e,rfl⟩:=fld5 h2;obtain⟨ps,rfl,_⟩:=d81 (h3 0 81 a rfl rfl);obtain⟨m,rfl,hm⟩:=d3 (h3 1 3 b rfl rfl);obtain⟨w,rfl,_⟩:=d27 (h3 2 27 c rfl rfl);obtain⟨cu,rfl,_⟩:=d29 (h3 3 29 d rfl rfl);obtain⟨r,rfl,hr,_⟩:=d32 (h3 4 32 e rfl rfl);exact⟨⟨ps,m,w,cu,r⟩,h1,hr,hm⟩
end Go.Am
namespace Go.Am
open Go.Proofs
open Go
variable[OO]
def blowRow(n:Int):List Int->Int
 | []=>n
 | q :: r=>blowRow (if q>0 then n+1 else n) r
def blowR(n:Int):List (List Int)->Int
 | []=>n
 | row :: r=>blowR (blowRow n row) r
theorem blowRow_bnd:∀(l:List Int) (n:Int),n<=blowRow n l/\blowRow n l<=n+l.length
 | [],n=>by simp[blowRow]
 | q :: l,n=>by
  have:=blowRow_bnd l (if q>0 then n+1 else n)
  simp only[blowRow,AY];by_cases h:q>0
  ·simp only[h,if_true] at this ⊢;omega
  ·simp only[h,if_false] at this ⊢;omega
theorem l128_1(r:List (List Int))(s:Nat)(hs:s<r.length)(h8:r.length=8)(hrow:r[s].length=51):∀k,k<=r[s].length->∀n:Int,0<=n->n<=s * 51+k->L128_1a n s k (r.map jC)=L128_0a (blowRow n (r[s].drop k)) (Ar.wrap ((s:Int)+1)) (r.map jC):=by
 refine down (P:=λk=>∀n:Int,0<=n->n<=s * 51+k->L128_1a n s k (r.map jC)=L128_0a (blowRow n (r[s].drop k)) (Ar.wrap ((s:Int)+1)) (r.map jC)) r[s].length ?_ ?_
 ·intro n h0 hn;rw[L128_1a_eq];simp only[zP];rw[if_neg (by omega)]
  simp[blowRow]
 ·intro k hk ih n h0 hn;have e1:(k:Int)<=50:=by omega
  have e2:(0:Int)<=(s:Int)/\(s:Int)<8:=by omega
  have e3:(0:Int)<=(k:Int)/\(k:Int)<51:=by omega
  rw[L128_1a_eq,za r[s] k hk];simp only[zP];rw[if_pos e1,if_pos e2,if_pos e3];simp only[Ae,js _ _ _ _ hs,zD,zO _ r s hs,js _ _ _ _ hk,zQ,zO _ r[s] k hk,h3,zI];rw[wr ((k:Int)+1) (by omega),wr (n+1) (by omega),show((k:Int)+1)=((k+1:Nat):Int) by omega]
  by_cases hq:r[s][k]>0
  ·rw[if_pos hq,ih (n+1) (by omega) (by omega)]
   simp only[blowRow,if_pos hq]
  ·rw[if_neg hq,ih n h0 (by omega)]
   simp only[blowRow,if_neg hq]
theorem l128_0(r:List (List Int))(h:zu r):∀s,s<=r.length->∀n:Int,0<=n->n<=s * 51->L128_0a n s (r.map jC)=some (.val (eI (blowR n (r.drop s)))):=by
 have hl:=h.1;refine down (P:=λs=>∀n:Int,0<=n->n<=s * 51->L128_0a n s (r.map jC)=some (.val (eI (blowR n (r.drop s))))) r.length ?_ ?_
 ·intro n h0 hn;rw[L128_0a_eq];simp only[zP];rw[if_neg (by omega)]
  simp[blowR]
 ·intro s hs ih n h0 hn;have hrow:=h.2 r[s] (Ay hs);have e1:(s:Int)<8:=by omega
  have hb:=blowRow_bnd r[s] n;rw[L128_0a_eq,za r s hs];simp only[zP];rw[if_pos e1];have:=l128_1 r s hs hl hrow 0 (Al _) n h0 (by omega)
  rw[show((0:Nat):Int)=0 from rfl] at this
  rw[this,wr ((s:Int)+1) (by omega),show((s:Int)+1)=((s+1:Nat):Int) by omega,An,ih _ (by omega) (by omega)]
  rfl
theorem c128(r:List (List Int))(h:zu r):zB 128 [eRo r]=some (.val (eI (blowR 0 r))):=by
 rw[C128];simp only[zK,zN,h32,Ad,h.1,decide_true,Ag,zD,zQ];have:=l128_0 r h 0 (Al _) 0 (by omega) (by omega)
 simpa using this
theorem c105(c:Cu):zB 105 [eCu c]=some (.val (.bool (decide ((c.p.length:Int)<=52)))):=by rw[C105];simp
theorem c34(f:Fm)(h:zu f.r)(h1:f.s.tb.length<=100000)(h2:f.w.d.length<=100000)(h3':f.w.w.length<=100000)(h4':f.c.p.length<=100000):zB 34 [eFm f]=some (.val (eFm f)):=by rw[C34];simp only[zK,zN,hFm' f h,Ag,zD,zQ,zS,zW,zh,zi,zZ,zI,zR,c65 f.s h1,c67 f.w (by omega) (by omega),c107 f.c (by omega),zJ,h58,h59,h60]
end Go.Am
namespace Go.Am
open Go.Proofs
open Go
variable[OO]
def txtN(n:Nat):ByteArray:=bs [48+n]
def nmT(n:Nat):ByteArray:=bs [116]++txtN n
def tbT(p:Pn)(i:Nat):Tb:=⟨nmT i,p.ps.getD i default⟩
def Ja(p:Pn)(l:List Nat):Si:=⟨bs [97],p.least,l.map (tbT p)⟩
def okC(p:Pn)(l:List Nat):Bool:=jY p.least [] (l.map (tbT p)) == 0
theorem nmT_name:∀n,n<10->jJ (nmT n)=true:=by decide
theorem nmT_inj:∀a,a<10->∀b,b<10->nmT a=nmT b->a=b:=by decide
theorem zDQ(least:Int):∀(x y prev:List Tb),jY least prev (x++y)=0->jY least prev x=0
 | [],y,prev,_=>rfl
 | t :: x,y,prev,h=>by
  rw[AZ,jY] at h;rw[jY];generalize zT [if jJ t.name then 0 else 8,ptE t.at',if YB t.name (prev.map (·.name)) then 9 else 0]=E at h ⊢
  generalize (prev.any λo=>decide (jQ t.at' o.at'<least * least))=b at h ⊢
  by_cases h1:E≠0
  ·rw[if_pos h1] at h;exact absurd h h1
  ·rw[if_neg h1] at h ⊢;cases b with
   | true=>cases h
   | false=>exact zDQ least x y _ h
theorem zDP(least:Int)(t:Tb):∀(x prev:List Tb),jY least prev x=0->jY least prev (x++[t])=jY least (prev++x) [t]
 | [],prev,_=>by rw[Ap,Bi]
 | u :: x,prev,h=>by
  rw[jY] at h;rw[AZ,jY];generalize zT [if jJ u.name then 0 else 8,ptE u.at',if YB u.name (prev.map (·.name)) then 9 else 0]=E at h ⊢
  generalize (prev.any λo=>decide (jQ u.at' o.at'<least * least))=b at h ⊢
  by_cases h1:E≠0
  ·rw[if_pos h1] at h;exact absurd h h1
  ·rw[if_neg h1] at h ⊢;cases b with
   | true=>cases h
   | false =>
    have:=zDP least t x (prev++[u]) h;rw[AM] at this;exact this
theorem zJq{α:Type}{f g:α->Bool}:∀{l:List α},(∀x∈l,f x=g x)->l.any f=l.any g
 | [],_=>rfl
 | x :: l,h=>by rw[A8,A8,h x (by simp),zJq λy hy=>h y (by simp[hy])]
theorem okC_left(p:Pn)(a b:List Nat)(h:okC p (a++b)=true):okC p a=true:=by unfold okC at h ⊢;rw[Ah] at h;exact beq_iff_eq.2 (zDQ _ _ _ _ (beq_iff_eq.1 h))
theorem okC_snoc(p:Pn)(hl:p.ps.length<=8)(hp:∀q∈p.ps,JP q)(a:List Nat)(i:Nat)(ha:∀x∈a,x∈Aj p.ps.length)(hi:i∈Aj p.ps.length)(hn:i ∉ a)(h:okC p a=true) :
  okC p (a++[i])=!(a.any λt=>jP p t i):=by
 have hi':i<p.ps.length:=by simpa using hi
 unfold okC at h ⊢;rw[Ah,AH,AS,zDP _ _ _ _ (beq_iff_eq.1 h),Ap];have h1:jJ (tbT p i).name=true:=nmT_name i (by omega)
 have h2:ptE (tbT p i).at'=0:=by refine(zDs _).2 ?_;show JP (p.ps.getD i default);rw[zBP p.ps i hi'];exact hp _ (Ay hi')
 have h3:YB (tbT p i).name ((a.map (tbT p)).map (·.name))=false:=by
  rw[YB,By];intro k hk;rw[AA] at hk;obtain⟨j,hj,rfl⟩:=At.1 hk;intro e;have hj':j<p.ps.length:=by simpa using ha j hj
  have:=nmT_inj i (by omega) j (by omega) (of_decide_eq_true e)
  exact hn (this ▸ hj)
 have h4:(a.map (tbT p)).any (λo=>decide (jQ (tbT p i).at' o.at'<p.least * p.least))=a.any λt=>jP p t i:=by
  rw[List.any_map];refine zJq λt ht=>?_
  have ht':t<p.ps.length:=by simpa using ha t ht
  have hne:i≠t:=λe=>hn (e ▸ ht)
  show decide (jQ (p.ps.getD i default) (p.ps.getD t default)<p.least * p.least)=jP p t i;unfold jP;rw[show decide (i<p.ps.length/\t<p.ps.length/\i≠t)=true from decide_eq_true ⟨hi',ht',hne⟩,Bool.true_and]
 rw[jY,h1,h2,h3,h4];cases a.any λt=>jP p t i <;> rfl
theorem best_same(p:Pn)(hl:p.ps.length<=8)(hp:∀q∈p.ps,JP q)(l:List Nat)(hd:l.Nodup)(hs:∀i∈l,i<p.ps.length)(n:Nat):J7 (enP p) (okC p) l [] n=j7 (enP p) (jP p) l [] n :=
 (zF7 (enP p) (okC_left p) (okC_snoc p hl hp) l [] n rfl (λx hx=>by simpa using hs x hx) (λx hx=>by simp at hx) (by simpa using hd)).symm
theorem chosen_0(p:Pn)(hl:1<=p.least/\p.least<=1000)(l:List Nat)(h:l.length<=64):jM (Ja p l)=jY p.least [] (l.map (tbT p)):=by
 have h1:zT [if jJ (bs [97]) then 0 else 8,zf p.least 1 1000,if (64:Int)<(l.map (tbT p)).length then 5 else 0]=0:=by
  rw[show jJ (bs [97])=true by decide,jW.2 hl,Ad,if_neg (show ¬(64:Int)<(l.length:Nat) by omega)]
  rfl
 unfold jM;show(if zT [if jJ (bs [97]) then 0 else 8,zf p.least 1 1000,if (64:Int)<(l.map (tbT p)).length then 5 else 0]≠0 then _ else _)=_
 rw[if_neg (by rw[h1];simp)]
 rfl
theorem zAm(p:Pn)(l:List Nat):zo (Ja p l)=l.map λi=>p.ps.getD i default:=by unfold zo Ja;rw[AA];rfl
end Go.Am
namespace Go.Am
open Go.Proofs
open Go Go.RowKit Go.Proofs
def clone3_ren:Go.Shelf.Ren:=⟨λ| 41=>267 | n=>n,λ| 22=>56 | 23=>176 | 4=>4 | n=>n,λ| n=>n⟩
theorem clone3_lays:BC Tryz.prog clone3_ren:={
 mixed:=by kernel_rfl
 f41:=⟨Tryz.f267.name,by decide,Tryz.func267.trans (congrArg some (by kernel_rfl))⟩
 t4:=Tryz.underlying4
 a4:=Tryz.isAgg4
 z4:=Tryz.sizeOf4
 v4:=Tryz.zeroValue4
 t22:=Tryz.underlying56
 a22:=Tryz.isAgg56
 z22:=Tryz.sizeOf56
 v22:=Tryz.zeroValue56 }
section
open Go.Shelf
variable{P:Program}{ρ:Ren}
set_option maxHeartbeats 2000000 in
set_option maxRecDepth 100000 in
theorem clone_zeroE(L:SlLaysE0.n41 P ρ)(i0:TypeInfo)(z:Value)(hi:P.info? (ρ.t 23)=some i0)(hz0:i0.zero=some z)(size:Nat)(z23:∀w,(Go.sizeOf (ρ.t 23)).run P w=.ok size w)(a:Addr)(c:Nat)(w:World) :
  Calls P (ρ.f 41) #[.slice (some a) 0 c] w λe w'=>∃ad,e=.returned (.slice (some ad) 0 0)/\Below w.heap.size w w':=by
 have mixed:=L.mixed;have t4:=L.t4;have a4:=L.a4;have z4:=L.z4;have v4:=L.v4;have t22:=L.t22;have a22:=L.a22;have z22:=L.z22;have v22:=L.v22;have q22:∀(w:World) (a:Option Addr) (n c n' c':Nat),(binOp .eql (ρ.t 22) (.slice a n c) (.slice none n' c')).run P w=.ok (.bool a.isNone) w:=λw a n c n' c'=>Lib.run_eql_slice_nil w _ _ a n c n' c' L.t22
 have u22:∀w,Sem.run P (underlying (ρ.t 22)) w=.ok (TypeDesc.slice (ρ.t 23)) w:=run_underlying t22;obtain⟨_,_,FG⟩:=L.f41
 go_enter FG,SlBodyN.n41_ntmps ρ
 go_wp2_with (at_builtin;refine J8 rfl _ _ (ρ.t 22) rfl (ρ.t 23) i0 z t22 hi hz0 _ _ _ rfl rfl ?_)
 go_wp2;go_ret;exact⟨_,rfl,(Bu _ w).alloc (AE _) _⟩
end
def tbC(t:Tb):List Value:=[.string t.name,.int .i64 t.at'.x,.int .i64 t.at'.y]
theorem RD.tb{L:Nat->List Nat}{S:Nat->Prop}{w:World}{t:Tb}{cs:List Value}(h:RD L S w (eTb t) cs):cs=tbC t:=by
 cases h with
 | agg _ _ css hl h hz =>
  match css,hl with
  | [c0,c1],_ =>
   have e0:RD L S w (.str t.name) c0:=h 0 (by simp) (by simp)
   have e1:RD L S w (ePt t.at') c1:=h 1 (by simp) (by simp)
   have:=e0.str1;subst this;cases e1 with
   | agg _ _ css' hl' h' hz' =>
    match css',hl' with
    | [d0,d1],_ =>
     have f0:RD L S w (eI t.at'.x) d0:=h' 0 (by simp) (by simp)
     have f1:RD L S w (eI t.at'.y) d1:=h' 1 (by simp) (by simp)
     have:=f0.int1;subst this;have:=f1.int1;subst this;rfl
theorem rd_tb{S:Nat->Prop}{w:World}(t:Tb):RD EE.L S w (eTb t) (tbC t):=by
 have hp:=RD.agg (L:=EE.L) (S:=S) (w:=w) 1 [eI t.at'.x,eI t.at'.y] [[.int .i64 t.at'.x],[.int .i64 t.at'.y]] rfl (λi h h'=>by
  match i,h,h' with
  | 0,_,_=>exact .int _ _
  | 1,_,_=>exact .int _ _) (by kernel_rfl)
 exact RD.agg (L:=EE.L) (S:=S) (w:=w) 9 [.str t.name,ePt t.at'] [[.string t.name],[.int .i64 t.at'.x,.int .i64 t.at'.y]] rfl (λi h h'=>by
  match i,h,h' with
  | 0,_,_=>exact .str _
  | 1,_,_=>exact hp) (by kernel_rfl)
def freshT(l:List Tb):CR:=if l=[] then .val .nl else .fresh 3 (l.map eTb)
def T267(ds:List DV)(r:CR):Prop:=∃l:List Tb,l.length<=100000/\ds=[.sl 3 (l.map eTb)]/\r=freshT l
theorem flat3_len:∀l:List Tb,((l.map tbC).flatten).length=l.length * 3
 | []=>rfl
 | t :: l=>by have:=flat3_len l;simp only[AH,As,AT,AY,this];show 3+l.length * 3=_;omega
theorem flat3_one:∀l:List Tb,∀u∈(l.map tbC).flatten,u.oneCell'=true
 | [],u,h=>by simp at h
 | t :: l,u,h=>by
  simp only[AH,As,A3] at h;rcases h with h | h
  ·simp only[tbC,AG,List.not_mem_nil,or_false] at h;rcases h with rfl | rfl | rfl <;> rfl
  ·exact flat3_one l u h
theorem at267(ds:List DV)(r:CR):T267 ds r->qM PP EE 267 ds r:=by
 rintro⟨l,hl,rfl,rfl⟩;refine⟨enters Tryz.func267 (by kernel_rfl) (by kernel_rfl),λS w vals hg hlt hlen hv=>?_⟩
 obtain⟨v,rfl⟩:∃v,vals=[v]:=Bo.1 hlen;have h0:=hv 0 (by simp) (by simp)
 simp only[AL] at h0;obtain⟨a,c,css,rfl,hc,hcl,hel,hz,hm⟩:=RV.sl (E:=EE) h0;simp only[Ad] at hc hcl hel hm;have hcss:css=l.map tbC:=Bg (by simpa using hcl) λi h1 h2=>by
  have:=hel i (by simpa using h2) h1
  rw[Az] at this ⊢;exact RD.tb this
 obtain⟨i0,hi,hz0,hz1,hz2⟩:=info_parts (P:=Tryz.prog) (e:=176) (z:=.agg #[.string ⟨#[]⟩,.int .i64 0,.int .i64 0]) (size:=3) (bytes:=32) (by kernel_rfl)
 by_cases h:l=[]
 ·subst h;rw[show freshT []=.val .nl from rfl]
  cases a with
  | none=>exact(AnyE.slices_Clone_nil clone3_lays 0 c w).mono λe w' ⟨h1,h2⟩=>⟨_,h1,by subst h2;exact Y0 hlt (Bu _ _) ⟨RD.nl none,rfl⟩⟩
  | some ad=>exact(clone_zeroE clone3_lays i0 _ hi hz0 3 Tryz.sizeOf176 ad c w).mono λe w' ⟨ad',h1,h2⟩=>⟨_,h1,Y0 hlt h2 ⟨RD.nl (some ad'),rfl⟩⟩
 ·rw[show freshT l=.fresh 3 (l.map eTb) from if_neg h]
  have h0:0<l.length:=AQ.2 h;obtain⟨ad,rfl,hsp,hS,hcell⟩:=hm h0;have ead:ad=⟨ad.block,ad.off,none⟩:=by rw[<-hsp]
  rw[hcss] at hcell;simp only[Ad];rw[ead];refine(AnyE.slices_Clone clone3_lays i0 _ 3 32 hi hz0 hz1 hz2 rfl (by omega) Tryz.sizeOf176 ad.block ad.off l.length c (l.map tbC).flatten w (flat3_len l) (by unfold maxLen;omega) (by omega) (λj u hj=>?_) (flat3_one l)).mono λe w' ⟨v',h1,hown,hne,hB⟩=>⟨v',h1,?_⟩
  ·have:=hcell j u hj;rw[jr hsp] at this;exact this
  ·rcases hown.2 with ⟨h2,_⟩ | ⟨g,cap,cur,rfl,hg1,hg2,hg3,hg4,hg5,hg6⟩
   ·exact absurd h2 hne
   ·refine⟨S,hB,λ_ h=>h,λ_ h=>.inl h,λb hb=>Nat.lt_of_lt_of_le (hlt b hb) hB.size,g,hg1,λhx=>absurd (hlt g hx) (by omega),λφ=>?_,λφ s hs=>?_⟩
    ·refine⟨cur,176,l.map tbC,hg2,by simp,λi h h'=>?_,λc hc=>?_,?_⟩
     ·simp only[Az];exact rd_tb _
     ·obtain⟨m,_,rfl⟩:=At.1 hc;rfl
     ·rw[List.prefix_iff_eq_take,flat3_len];exact hg6.symm
    ·refine⟨?_,rfl⟩;have:=RA.own (L:=EE.L) (S:=S) (φ:=φ) (w:=w') s 0 l.length 3 g cap hs hg3 ⟨cur,176,hg2,by omega⟩
     simpa[vcs,Value.cells] using this
end Go.Am
namespace Go.Am
open Go.Proofs
open Go
class KnT[OO]:Prop where
 clone:∀l:List Tb,l.length<=100000->zB 267 [.sl 3 (l.map eTb)]=some (freshT l)
variable[OO]
theorem ifO_decT{p:Prop}[Decidable p](h:p)(x y:Option CR):ifO (decide p) x y=x:=by rw[decide_eq_true h];rfl
theorem ifO_decF{p:Prop}[Decidable p](h:¬p)(x y:Option CR):ifO (decide p) x y=y:=by rw[decide_eq_false h];rfl
theorem bne_z{x:Int}(h:x=0):(x != 0)=false:=by rw[h];rfl
theorem bne_n{x:Int}(h:x≠0):(x != 0)=true:=by simp[h]
end Go.Am
namespace Go.Am
open Go.Proofs
open Go
theorem beq_n{x:Int}(h:x≠0):(x == 0)=false:=by simp[h]
variable[OO]
end Go.Am
namespace Go.Am
open Go.Proofs
open Go
variable[OO]
theorem C43(x0 x1:DV):zB 43 [x0,x1] =
 ifO (zV (zF EE 6) [83,3] [x0,x1])
 (ifO (decide ((((Aa (elems (nth (flds x0) 0))):Nat):Int)<=(zC x1)))
 (zH (zB 63 [(.agg 0 [(.str (zX (nth (flds (nth (flds x0) 2)) 0))),(.sl 1 (elems (nth (flds (nth (flds x0) 2)) 1))),(.sl 1 (elems (nth (flds (nth (flds x0) 2)) 2)))])])
 (λr0=>ifO (zF EE 6 4 r0)
 (ifO (jm r0)
 (zH (zB 105 [(.agg 1 [(.sl 1 (elems (nth (flds (nth (flds x0) 3)) 0))),(eI (zC (nth (flds (nth (flds x0) 3)) 1)))])])
 (λr1=>ifO (zF EE 6 4 r1)
 (ifO (jm r1)
 (zH (zB 128 [(.agg 3 (flds (nth (flds x0) 4)))])
 (λr2=>ifO (zF EE 6 3 r2)
 (some (.val (.bool (decide ((zC r2)<=(4:Int))))))
 (none))
 (λ_ _=>none))
 (some (.val (.bool false))))
 (none))
 (λ_ _=>none))
 (some (.val (.bool false))))
 (none))
 (λ_ _=>none))
 (ifO ((((Aa (elems (nth (flds x0) 0))):Nat):Int) == (9:Int))
 (zH (zB 63 [(.agg 0 [(.str (zX (nth (flds (nth (flds x0) 2)) 0))),(.sl 1 (elems (nth (flds (nth (flds x0) 2)) 1))),(.sl 1 (elems (nth (flds (nth (flds x0) 2)) 2)))])])
 (λr9=>ifO (zF EE 6 4 r9)
 (ifO (jm r9)
 (zH (zB 105 [(.agg 1 [(.sl 1 (elems (nth (flds (nth (flds x0) 3)) 0))),(eI (zC (nth (flds (nth (flds x0) 3)) 1)))])])
 (λr10=>ifO (zF EE 6 4 r10)
 (ifO (jm r10)
 (zH (zB 128 [(.agg 3 (flds (nth (flds x0) 4)))])
 (λr11=>ifO (zF EE 6 3 r11)
 (some (.val (.bool (decide ((zC r11)<=(4:Int))))))
 (none))
 (λ_ _=>none))
 (some (.val (.bool false))))
 (none))
 (λ_ _=>none))
 (some (.val (.bool false))))
 (none))
 (λ_ _=>none))
 (ifO ((((Aa (elems (nth (flds x0) 0))):Nat):Int) == (65:Int))
 (zH (zB 63 [(.agg 0 [(.str (zX (nth (flds (nth (flds x0) 2)) 0))),(.sl 1 (elems (nth (flds (nth (flds x0) 2)) 1))),(.sl 1 (elems (nth (flds (nth (flds x0) 2)) 2)))])])
 (λr18=>ifO (zF EE 6 4 r18)
 (ifO (jm r18)
 (zH (zB 105 [(.agg 1 [(.sl 1 (elems (nth (flds (nth (flds x0) 3)) 0))),(eI (zC (nth (flds (nth (flds x0) 3)) 1)))])])
 (λr19=>ifO (zF EE 6 4 r19)
 (ifO (jm r19)
 (zH (zB 128 [(.agg 3 (flds (nth (flds x0) 4)))])
 (λr20=>ifO (zF EE 6 3 r20)
 (some (.val (.bool (decide ((zC r20)<=(4:Int))))))
 (none))
 (λ_ _=>none))
 (some (.val (.bool false))))
 (none))
 (λ_ _=>none))
 (some (.val (.bool false))))
 (none))
 (λ_ _=>none))
 (some (.val (.bool false))))))
 (none) :=
 (zM (f:=43) (by kernel_rfl) (by kernel_rfl) (by kernel_rfl) [x0,x1]).trans (by kernel_rfl)
theorem C45(x0:DV):zB 45 [x0] =
 ifO (zV (zF EE 6) [83] [x0])
 (ifO (decide ((((2 * (0+(Aa (elems (nth (flds x0) 0)))))+200) * 16)<=281474976710656))
 (ifO (BJ (elems (nth (flds x0) 0)))
 (zH (zB 67 [(.agg 0 [(.str (zX (nth (flds (nth (flds x0) 2)) 0))),(.sl 1 (elems (nth (flds (nth (flds x0) 2)) 1))),(.sl 1 (elems (nth (flds (nth (flds x0) 2)) 2)))])])
 (λr0=>ifO (zF EE 6 59 r0)
 (zH (zB 107 [(.agg 1 [(.sl 1 (elems (nth (flds (nth (flds x0) 3)) 0))),(eI (zC (nth (flds (nth (flds x0) 3)) 1)))])])
 (λr1=>ifO (zF EE 6 60 r1)
 (some (.val (.agg 6 [(.sl 2 []),(eI (zC (nth (flds x0) 1))),(.agg 0 [(.str (zX (nth (flds r0) 0))),(.sl 1 (elems (nth (flds r0) 1))),(.sl 1 (elems (nth (flds r0) 2)))]),(.agg 1 [(.sl 1 (elems (nth (flds r1) 0))),(eI (zC (nth (flds r1) 1)))]),(.agg 3 (flds (nth (flds x0) 4)))])))
 (none))
 (λ_ _=>none))
 (none))
 (λ_ _=>none))
 (zH (zB 67 [(.agg 0 [(.str (zX (nth (flds (nth (flds x0) 2)) 0))),(.sl 1 (elems (nth (flds (nth (flds x0) 2)) 1))),(.sl 1 (elems (nth (flds (nth (flds x0) 2)) 2)))])])
 (λr6=>ifO (zF EE 6 59 r6)
 (zH (zB 107 [(.agg 1 [(.sl 1 (elems (nth (flds (nth (flds x0) 3)) 0))),(eI (zC (nth (flds (nth (flds x0) 3)) 1)))])])
 (λr7=>ifO (zF EE 6 60 r7)
 (ifO (decide ((0+(Aa ([]++(elems (nth (flds x0) 0)))))<=(Aa ([]++(elems (nth (flds x0) 0))))))
 (some (.val (.agg 6 [(.sl 2 (Av (Aa ([]++(elems (nth (flds x0) 0)))) (Aw 0 ([]++(elems (nth (flds x0) 0)))))),(eI (zC (nth (flds x0) 1))),(.agg 0 [(.str (zX (nth (flds r6) 0))),(.sl 1 (elems (nth (flds r6) 1))),(.sl 1 (elems (nth (flds r6) 2)))]),(.agg 1 [(.sl 1 (elems (nth (flds r7) 0))),(eI (zC (nth (flds r7) 1)))]),(.agg 3 (flds (nth (flds x0) 4)))])))
 (none))
 (none))
 (λ_ _=>none))
 (none))
 (λ_ _=>none)))
 (none))
 (none) :=
 (zM (f:=45) (by kernel_rfl) (by kernel_rfl) (by kernel_rfl) [x0]).trans (by kernel_rfl)
def S46_0a(v0:Int)(v1:List DV)(v2:Int)(v3:ByteArray)(v4 v5 v6:List DV)(v7:Int)(v8:List DV):St :=
 zr 57 [(1,(.ptr 1 415 0 [])),(3,(.d (eI v0)))] [(1,(.mk false (.dc 415 [(.agg 6 [(.sl 2 v1),(eI v2),(.agg 0 [(.str v3),(.sl 1 v4),(.sl 1 v5)]),(.agg 1 [(.sl 1 v6),(eI v7)]),(.agg 3 v8)])])))]
noncomputable def zGb(v0:Int)(v1:List DV)(v2:Int)(v3:ByteArray)(v4 v5 v6:List DV)(v7:Int)(v8:List DV):Option CR:=goQ 46 0 (S46_0a v0 v1 v2 v3 v4 v5 v6 v7 v8)
def S46_1a(v0 v1:Int)(v2:List DV)(v3:Int)(v4:ByteArray)(v5 v6 v7:List DV)(v8:Int)(v9:List DV):St :=
 zr 57 [(1,(.ptr 1 415 0 [])),(3,(.d (eI v0))),(5,(.d (eI v1)))] [(1,(.mk false (.dc 415 [(.agg 6 [(.sl 2 v2),(eI v3),(.agg 0 [(.str v4),(.sl 1 v5),(.sl 1 v6)]),(.agg 1 [(.sl 1 v7),(eI v8)]),(.agg 3 v9)])])))]
noncomputable def zIc(v0 v1:Int)(v2:List DV)(v3:Int)(v4:ByteArray)(v5 v6 v7:List DV)(v8:Int)(v9:List DV):Option CR:=goQ 46 1 (S46_1a v0 v1 v2 v3 v4 v5 v6 v7 v8 v9)
theorem zHT(v0:Int)(v1:List DV)(v2:Int)(v3:ByteArray)(v4 v5 v6:List DV)(v7:Int)(v8:List DV):zGb v0 v1 v2 v3 v4 v5 v6 v7 v8 =
 ifO (decide (v0<(((Aa v1):Nat):Int)))
 (ifO (decide (((0:Int)<=v0)/\(v0<(((Aa v1):Nat):Int))))
 (ifO (zF EE 6 141 (nth v1 (Ab v0)))
 (zH (zB 164 [(.agg 1 [(eI (zC (nth (flds (nth v1 (Ab v0))) 0))),(eI (zC (nth (flds (nth v1 (Ab v0))) 1)))])])
 (λr0=>ifO (zF EE 6 3 r0)
 (ifO (bne (zC r0) 0)
 (some (.val (eI (zC r0))))
 ((zIc v0 (0:Int) v1 v2 v3 v4 v5 v6 v7 v8)))
 (none))
 (λ_ _=>none))
 (none))
 (none))
 (zH (zB 69 [(.agg 0 [(.str (bs [97])),(eI v2),(.sl 3 [])])])
 (λr3=>ifO (zF EE 6 3 r3)
 (zH (zB 71 [(.agg 0 [(.str v3),(.sl 1 v4),(.sl 1 v5)])])
 (λr4=>ifO (zF EE 6 3 r4)
 (zH (zB 110 [(.agg 1 [(.sl 1 v6),(eI v7)])])
 (λr5=>ifO (zF EE 6 3 r5)
 (zH (zB 129 [(.agg 3 v8)])
 (λr6=>ifO (zF EE 6 3 r6)
 (zH (zB 35 [(.sl 1 [(eI (zC r3)),(eI (zC r4)),(eI (zC r5)),(eI (zC r6))])])
 (λr7=>ifO (zF EE 6 3 r7)
 (some (.val (eI (zC r7))))
 (none))
 (λ_ _=>none))
 (none))
 (λ_ _=>none))
 (none))
 (λ_ _=>none))
 (none))
 (λ_ _=>none))
 (none))
 (λ_ _=>none)) :=
 (zb 46 0 _).trans (by kernel_rfl)
theorem zHS(v0 v1:Int)(v2:List DV)(v3:Int)(v4:ByteArray)(v5 v6 v7:List DV)(v8:Int)(v9:List DV):zIc v0 v1 v2 v3 v4 v5 v6 v7 v8 v9 =
 ifO (decide (v1<v0))
 (ifO (decide (((0:Int)<=v1)/\(v1<(((Aa v2):Nat):Int))))
 (ifO (zF EE 6 141 (nth v2 (Ab v1)))
 (ifO (decide (((0:Int)<=v0)/\(v0<(((Aa v2):Nat):Int))))
 (ifO (zF EE 6 141 (nth v2 (Ab v0)))
 (ifO (ifO.match_1 (λy964=>Bool) false (λy967=>(!(AP (YT EE 141 (.agg 1 [(eI (zC (nth (flds (nth v2 (Ab v1))) 0))),(eI (zC (nth (flds (nth v2 (Ab v1))) 1)))]) (.agg 1 [(eI (zC (nth (flds (nth v2 (Ab v0))) 0))),(eI (zC (nth (flds (nth v2 (Ab v0))) 1)))])) false))) (λy327=>(AP (YT EE 141 (.agg 1 [(eI (zC (nth (flds (nth v2 (Ab v1))) 0))),(eI (zC (nth (flds (nth v2 (Ab v1))) 1)))]) (.agg 1 [(eI (zC (nth (flds (nth v2 (Ab v0))) 0))),(eI (zC (nth (flds (nth v2 (Ab v0))) 1)))])) false)))
 (some (.val (eI 9)))
 ((zIc v0 (Ac .i64 (v1+(1:Int))) v2 v3 v4 v5 v6 v7 v8 v9)))
 (none))
 (none))
 (none))
 (none))
 ((zGb (Ac .i64 (v0+(1:Int))) v2 v3 v4 v5 v6 v7 v8 v9)) :=
 (zb 46 1 _).trans (by kernel_rfl)
theorem C46(x0:DV):zB 46 [x0] =
 ifO (zV (zF EE 6) [83] [x0])
 (ifO (decide ((((Aa (elems (nth (flds x0) 0))):Nat):Int)>(64:Int)))
 (some (.val (eI 5)))
 ((zGb (0:Int) (elems (nth (flds x0) 0)) (zC (nth (flds x0) 1)) (zX (nth (flds (nth (flds x0) 2)) 0)) (elems (nth (flds (nth (flds x0) 2)) 1)) (elems (nth (flds (nth (flds x0) 2)) 2)) (elems (nth (flds (nth (flds x0) 3)) 0)) (zC (nth (flds (nth (flds x0) 3)) 1)) (flds (nth (flds x0) 4)))))
 (none) :=
 (zM (f:=46) (by kernel_rfl) (by kernel_rfl) (by kernel_rfl) [x0]).trans (by kernel_rfl)
def S55_0a(v0 v1:List DV)(v2:Int)(v3:ByteArray)(v4 v5 v6:List DV)(v7:Int)(v8:List DV):St :=
 zr 48 [(1,(.d (.sl 1 v0))),(2,(.ptr 2 415 0 [])),(4,(.ptr 4 416 0 [])),(6,(.ptr 6 3 0 [])),(7,(.d (eI 0)))] [(2,(.mk false (.dc 415 [(.agg 6 [(.sl 2 v1),(eI v2),(.agg 0 [(.str v3),(.sl 1 v4),(.sl 1 v5)]),(.agg 1 [(.sl 1 v6),(eI v7)]),(.agg 3 v8)])]))),(4,(.mk false (.dc 416 [(.agg 4 [(.agg 0 [(.str (bs [])),(eI 0),.nl]),(.agg 0 [(.str (bs [])),.nl,.nl]),(.agg 1 [.nl,(eI 0)]),(.agg 3 (Ao (α:=DV) 8 (.agg 2 (Ao (α:=DV) 51 (eI 0)))))])]))),(6,(.mk false (.dc 3 [(.agg 0 [(.str (bs [97])),(eI v2),.nl])])))]
noncomputable def L55_0a(v0 v1:List DV)(v2:Int)(v3:ByteArray)(v4 v5 v6:List DV)(v7:Int)(v8:List DV):Option CR:=goQ 55 0 (S55_0a v0 v1 v2 v3 v4 v5 v6 v7 v8)
def S55_0b(v0:List DV)(v1:Int)(v2:List DV)(v3:Int)(v4:ByteArray)(v5 v6 v7:List DV)(v8:Int)(v9 v10:List DV):St :=
 zr 48 [(1,(.d (.sl 1 v0))),(2,(.ptr 2 415 0 [])),(4,(.ptr 4 416 0 [])),(6,(.ptr 6 3 0 [])),(7,(.d (eI v1)))] [(2,(.mk false (.dc 415 [(.agg 6 [(.sl 2 v2),(eI v3),(.agg 0 [(.str v4),(.sl 1 v5),(.sl 1 v6)]),(.agg 1 [(.sl 1 v7),(eI v8)]),(.agg 3 v9)])]))),(4,(.mk false (.dc 416 [(.agg 4 [(.agg 0 [(.str (bs [])),(eI 0),.nl]),(.agg 0 [(.str (bs [])),.nl,.nl]),(.agg 1 [.nl,(eI 0)]),(.agg 3 (Ao (α:=DV) 8 (.agg 2 (Ao (α:=DV) 51 (eI 0)))))])]))),(6,(.mk false (.ac 3 [(.agg 0 [(.d (.str (bs [97]))),(.d (eI v3)),(.own 35 0 (Aa v10) 3)])]))),(35,(.mk false (.dc 3 v10)))]
noncomputable def zIZ(v0:List DV)(v1:Int)(v2:List DV)(v3:Int)(v4:ByteArray)(v5 v6 v7:List DV)(v8:Int)(v9 v10:List DV):Option CR:=goQ 55 0 (S55_0b v0 v1 v2 v3 v4 v5 v6 v7 v8 v9 v10)
theorem L55_0a_eq(v0 v1:List DV)(v2:Int)(v3:ByteArray)(v4 v5 v6:List DV)(v7:Int)(v8:List DV):L55_0a v0 v1 v2 v3 v4 v5 v6 v7 v8 =
 ifO (decide ((0:Int)<(((Aa v0):Nat):Int)))
 (ifO (decide (((0:Int)<=(0:Int))/\((0:Int)<(((Aa v0):Nat):Int))))
 (ifO (zF EE 6 3 (nth v0 0))
 (zH (zB 174 [(eI (zC (nth v0 0)))])
 (λr0=>ifO (zF EE 6 9 r0)
 (ifO (decide ((((1+(Be (zX r0))):Nat):Int)<=(9223372036854775807:Int)))
 (ifO (decide (((0:Int)<=(0:Int))/\((0:Int)<(((Aa v0):Nat):Int))))
 (ifO (zF EE 6 3 (nth v0 0))
 (ifO (decide (((0:Int)<=(zC (nth v0 0)))/\((zC (nth v0 0))<(((Aa v1):Nat):Int))))
 (ifO (zF EE 6 141 (nth v1 (Ab (zC (nth v0 0)))))
 ((zIZ v0 (1:Int) v1 v2 v3 v4 v5 v6 v7 v8 [(.agg 9 [(.str ((bs [116])++(zX r0))),(.agg 1 [(eI (zC (nth (flds (nth v1 (Ab (zC (nth v0 0))))) 0))),(eI (zC (nth (flds (nth v1 (Ab (zC (nth v0 0))))) 1)))])])]))
 (none))
 (none))
 (none))
 (none))
 (none))
 (none))
 (λ_ _=>none))
 (none))
 (none))
 (zH (zB 69 [(.agg 0 [(.str (bs [97])),(eI v2),(.sl 3 [])])])
 (λr3=>ifO (zF EE 6 3 r3)
 (some (.val (.tup [(.agg 4 [(.agg 0 [(.str (bs [97])),(eI v2),(.sl 3 [])]),(.agg 0 [(.str v3),(.sl 1 v4),(.sl 1 v5)]),(.agg 1 [(.sl 1 v6),(eI v7)]),(.agg 3 v8)]),(.bool ((zC r3) == (0:Int)))])))
 (none))
 (λ_ _=>none)) :=
 (zb 55 0 _).trans (by kernel_rfl)
theorem zHP(v0:List DV)(v1:Int)(v2:List DV)(v3:Int)(v4:ByteArray)(v5 v6 v7:List DV)(v8:Int)(v9 v10:List DV):zIZ v0 v1 v2 v3 v4 v5 v6 v7 v8 v9 v10 =
 ifO (decide (v1<(((Aa v0):Nat):Int)))
 (ifO (decide (((0:Int)<=v1)/\(v1<(((Aa v0):Nat):Int))))
 (ifO (zF EE 6 3 (nth v0 (Ab v1)))
 (zH (zB 174 [(eI (zC (nth v0 (Ab v1))))])
 (λr6=>ifO (zF EE 6 9 r6)
 (ifO (decide ((((1+(Be (zX r6))):Nat):Int)<=(9223372036854775807:Int)))
 (ifO (decide (((0:Int)<=v1)/\(v1<(((Aa v0):Nat):Int))))
 (ifO (zF EE 6 3 (nth v0 (Ab v1)))
 (ifO (decide (((0:Int)<=(zC (nth v0 (Ab v1))))/\((zC (nth v0 (Ab v1)))<(((Aa v2):Nat):Int))))
 (ifO (zF EE 6 141 (nth v2 (Ab (zC (nth v0 (Ab v1))))))
 (ifO (decide ((Aa v10)=(Aa v10)))
 (ifO (decide ((((2 * ((Aa v10)+1))+200) * 32)<=281474976710656))
 ((zIZ v0 (Ac .i64 (v1+(1:Int))) v2 v3 v4 v5 v6 v7 v8 v9 (v10++[(.agg 9 [(.str ((bs [116])++(zX r6))),(.agg 1 [(eI (zC (nth (flds (nth v2 (Ab (zC (nth v0 (Ab v1)))))) 0))),(eI (zC (nth (flds (nth v2 (Ab (zC (nth v0 (Ab v1)))))) 1)))])])])))
 (none))
 (none))
 (none))
 (none))
 (none))
 (none))
 (none))
 (none))
 (λ_ _=>none))
 (none))
 (none))
 (ifO (decide ((0+(Aa v10))<=(Aa v10)))
 (zH (zB 69 [(.agg 0 [(.str (bs [97])),(eI v3),(.sl 3 (Av (Aa v10) (Aw 0 v10)))])])
 (λr9=>ifO (zF EE 6 3 r9)
 (ifO (decide ((0+(Aa v10))<=(Aa v10)))
 (some (.val (.tup [(.agg 4 [(.agg 0 [(.str (bs [97])),(eI v3),(.sl 3 (Av (Aa v10) (Aw 0 v10)))]),(.agg 0 [(.str v4),(.sl 1 v5),(.sl 1 v6)]),(.agg 1 [(.sl 1 v7),(eI v8)]),(.agg 3 v9)]),(.bool ((zC r9) == (0:Int)))])))
 (none))
 (none))
 (λ_ _=>none))
 (none)) :=
 (zb 55 0 _).trans (by kernel_rfl)
theorem C55(x0 x1:DV):zB 55 [x0,x1] =
 ifO (zV (zF EE 6) [83,25] [x0,x1])
 ((L55_0a (elems x1) (elems (nth (flds x0) 0)) (zC (nth (flds x0) 1)) (zX (nth (flds (nth (flds x0) 2)) 0)) (elems (nth (flds (nth (flds x0) 2)) 1)) (elems (nth (flds (nth (flds x0) 2)) 2)) (elems (nth (flds (nth (flds x0) 3)) 0)) (zC (nth (flds (nth (flds x0) 3)) 1)) (flds (nth (flds x0) 4))))
 (none) :=
 (zM (f:=55) (by kernel_rfl) (by kernel_rfl) (by kernel_rfl) [x0,x1]).trans (by kernel_rfl)
end Go.Am
namespace Go.Am
open Go.Proofs
open Go
class KnX[OO]:Prop where
 text:∀n:Nat,n<=9->zB 174 [eN n]=some (.val (.str (txtN n)))
variable[OO]
theorem hPn'(p:Pn)(hr:zu p.r):zF EE 6 83 (ePn p)=true:=by rw[h83];simp[hr.1]
def zIF(p:Pn):Bool:=if shortW p.w then (if (p.c.p.length:Int)<=52 then decide (blowR 0 p.r<=4) else false) else false
def zGD(p:Pn)(n:Int):Bool:=if (p.ps.length:Int)<=n\/(p.ps.length:Int)=9\/(p.ps.length:Int)=65 then zIF p else false
theorem shortT_eq(p:Pn)(hr:zu p.r) :
  zH (zB 63 [eWk p.w]) (λr0=>ifO (zF EE 6 4 r0) (ifO (jm r0) (zH (zB 105 [eCu p.c]) (λr1=>ifO (zF EE 6 4 r1) (ifO (jm r1) (zH (zB 128 [eRo p.r]) (λr2=>ifO (zF EE 6 3 r2) (some (.val (.bool (decide ((zC r2)<=(4:Int)))))) (none)) (λ_ _=>none)) (some (.val (.bool false)))) (none)) (λ_ _=>none)) (some (.val (.bool false)))) (none)) (λ_ _=>none)=some (.val (.bool (zIF p))):=by
 unfold zIF;rw[c63 p.w];cases hW:shortW p.w with
 | false=>simp only[zJ,h4,zD,zp,zU,Bw,if_false]
 | true =>
  simp only[zJ,h4,zD,zp,c105 p.c,if_true];by_cases hc:(p.c.p.length:Int)<=52
  ·rw[decide_eq_true hc,if_pos hc];simp only[zD,c128 p.r hr,zJ,h3,zI];exact congrArg (λb=>some (CR.val (DV.bool b))) (decide_eq_decide.2 Iff.rfl)
  ·rw[decide_eq_false hc,if_neg hc,zU]
theorem c43(p:Pn)(hr:zu p.r)(n:Int):zB 43 [ePn p,eI n]=some (.val (.bool (zGD p n))):=by
 rw[C43];simp only[zK,zN,hPn' p hr,h3,Ag,zD,zQ,zS,zW,zh,zi,je,zZ,zI,zR,Ad,shortT_eq p hr];unfold zGD;by_cases h1:(p.ps.length:Int)<=n
 ·rw[decide_eq_true h1,zD,if_pos (.inl h1)]
 ·rw[decide_eq_false h1,zU];by_cases h2:(p.ps.length:Int)=9
  ·rw[if_pos (.inr (.inl h2)),show((p.ps.length:Int) == 9)=true from beq_iff_eq.2 h2,zD]
  ·rw[show((p.ps.length:Int) == 9)=false from beq_eq_false_iff_ne.2 h2,zU]
   by_cases h3':(p.ps.length:Int)=65
   ·rw[if_pos (.inr (.inr h3')),show((p.ps.length:Int) == 65)=true from beq_iff_eq.2 h3',zD]
   ·rw[show((p.ps.length:Int) == 65)=false from beq_eq_false_iff_ne.2 h3',zU,if_neg (by omega)]
theorem c45(p:Pn)(hr:zu p.r)(h1:p.ps.length<=100000)(h2:p.w.d.length<=100000)(h3':p.w.w.length<=100000)(h4':p.c.p.length<=100000):zB 45 [ePn p]=some (.val (ePn p)):=by
 rw[C45];simp only[zK,zN,hPn' p hr,Ag,zD,zQ,zS,zW,zh,zi,je,zZ,zI,zR,Ad,c67 p.w (by omega) (by omega),c107 p.c (by omega),zJ,h59,h60,Ap,AO,AE,decide_true,An]
 rw[decide_eq_true (show(2 * p.ps.length+200) * 16<=281474976710656 by omega),zD]
 by_cases h0:p.ps=[]
 ·show _=some (CR.val (.agg 6 [.sl 2 (p.ps.map ePt),eI p.least,eWk p.w,eCu p.c,eRo p.r]));rw[h0];rfl
 ·have hne:(p.ps.map ePt).isEmpty=false:=by
   cases hp:p.ps with
   | nil=>exact absurd hp h0
   | cons a l=>rfl
  rw[hne,zU,Aq (by simp)]
theorem eqPt(a b:Pt):YT EE 141 (ePt a) (ePt b)=some (decide (a=b)):=by
 refine(show YT EE 141 (.agg 1 [eI a.x,eI a.y]) (.agg 1 [eI b.x,eI b.y])=some ((a.x == b.x) && ((a.y == b.y) && true)) by kernel_rfl).trans ?_
 obtain⟨ax,ay⟩:=a;obtain⟨bx,by'⟩:=b
 by_cases h1:ax=bx <;> by_cases h2:ay=by' <;> simp[h1,h2]
theorem l46_1(p:Pn)(hl:p.ps.length<=64)(i:Nat)(hi:i<p.ps.length):∀k,k<=i->zIc i k (p.ps.map ePt) p.least p.w.rule (p.w.d.map eI) (p.w.w.map eI) (p.c.p.map eI) p.c.cut (p.r.map jC) =
  if ((p.ps.take i).drop k).any (λq=>decide (p.ps[i]=q))=true then some (.val (eI 9)) else zGb ((i+1:Nat):Int) (p.ps.map ePt) p.least p.w.rule (p.w.d.map eI) (p.w.w.map eI) (p.c.p.map eI) p.c.cut (p.r.map jC):=by
 apply down
 ·rw[zHS];simp only[AJ,decide_false,zU];rw[wr ((i:Int)+1) (by omega),List.drop_of_length_le (by simp;omega)]
  rfl
 ·intro k hk ih;have e1:(k:Int)<(i:Int):=by omega
  have e0:(0:Int)<=(k:Int):=by omega
  have e2:(k:Int)<p.ps.length:=by omega
  have e3:(0:Int)<=(i:Int):=by omega
  have e4:(i:Int)<p.ps.length:=by omega
  have hk':k<p.ps.length:=by omega
  have hd:(p.ps.take i).drop k=p.ps[k] :: (p.ps.take i).drop (k+1):=by
   have:=za (p.ps.take i) k (by simp;omega)
   rwa [Bd] at this
  rw[zHS,hd,A8];simp only[Ad,e0,e1,e2,e3,e4,and_self,decide_true,zD,Ae,zO _ p.ps k hk',zO _ p.ps i hi,h141,zQ,zS,zW,zI,m1,eqPt,Option.getD_some];rw[wr ((k:Int)+1) (by omega)]
  by_cases he:p.ps[k]=p.ps[i]
  ·rw[decide_eq_true he,decide_eq_true he.symm];simp
  ·rw[decide_eq_false he,decide_eq_false (λh=>he h.symm)]
   simp only[AN,zU,Bb];exact ih
theorem name_a:jJ (bs [97])=true:=by decide
theorem l46_0(p:Pn)(hr:zu p.r)(hl:p.ps.length<=64):∀i,i<=p.ps.length->zGb i (p.ps.map ePt) p.least p.w.rule (p.w.d.map eI) (p.w.w.map eI) (p.c.p.map eI) p.c.cut (p.r.map jC) =
  some (.val (eI (if JE (p.ps.take i) (p.ps.drop i)=0 then restE p else JE (p.ps.take i) (p.ps.drop i)))):=by
 apply down
 ·rw[zHT];have hs:zB 69 [.agg 0 [.str (bs [97]),.int .i64 p.least,.sl 3 []]]=some (.val (eI (zf p.least 1 1000))):=(c69 ⟨bs [97],p.least,[]⟩).trans (by rw[site0 _ name_a])
  simp only[Ad,AJ,decide_false,zU,hs,zJ,h3,zD,zI,c71,c110,c129 p.r hr,c35_4,List.drop_length,JE,if_true];rfl
 ·intro i hi ih;have e1:(i:Int)<p.ps.length:=by omega
  have e0:(0:Int)<=(i:Int):=by omega
  have h1:=l46_1 p hl i hi 0 (Al _);rw[An,ih] at h1;rw[zHT,za p.ps i hi];simp only[Ad,e1,e0,and_self,decide_true,zD,Ae,zO _ p.ps i hi,h141,zQ,zS,zW,zI,c164,zJ,h3];rw[JE,<-Ai hi];have hS:zGI (p.ps.take i) p.ps[i]=if ptE p.ps[i]=0 then (if (p.ps.take i).any (λq=>decide (p.ps[i]=q))=true then 9 else 0) else ptE p.ps[i]:=by
   unfold zGI zT zT zT;by_cases hz:ptE p.ps[i]=0
   ·rw[if_pos hz,if_pos hz];by_cases hb:(p.ps.take i).any (λq=>decide (p.ps[i]=q))=true
    ·rw[if_pos hb];rfl
    ·rw[if_neg hb];rfl
   ·rw[if_neg hz,if_neg hz]
  by_cases hz:ptE p.ps[i]=0
  ·rw[bne_z hz,zU];rw[if_pos hz] at hS;refine Eq.trans (show _=_ from h1) ?_
   by_cases hb:(p.ps.take i).any (λq=>decide (p.ps[i]=q))=true
   ·rw[if_pos hb] at hS;rw[if_pos hb,hS];rfl
   ·rw[if_neg hb] at hS;rw[if_neg hb,hS];rfl
  ·rw[bne_n hz,zD];rw[if_neg hz] at hS;rw[hS,if_neg hz,if_neg hz]
theorem c46(p:Pn)(hr:zu p.r):zB 46 [ePn p]=some (.val (eI (zAU p))):=by
 rw[C46];simp only[zK,zN,hPn' p hr,Ag,zD,zQ,zS,zW,zh,zi,je,zZ,zI,zR,Ad];unfold zAU;by_cases h:64<p.ps.length
 ·rw[if_pos h];exact ifO_decT (by omega) _ _
 ·rw[if_neg h];refine(ifO_decF (by omega) _ _).trans ?_
  have:=l46_0 p hr (by omega) 0 (Al _)
  rw[List.take_zero,An] at this;exact this
def choR(p:Pn)(l:List Nat):CR:=.val (.tup [eFm ⟨Ja p l,p.w,p.c,p.r⟩,.bool (jM (Ja p l) == 0)])
theorem zI8(n:Nat):(txtN n).size=1:=rfl
theorem l55b[KnX](p:Pn)(h10:p.ps.length<=10)(l:List Nat)(hl:l.length<=64)(hi:∀i∈l,i<p.ps.length):∀k,k<=l.length->zIZ (l.map eN) k (p.ps.map ePt) p.least p.w.rule (p.w.d.map eI) (p.w.w.map eI) (p.c.p.map eI) p.c.cut (p.r.map jC) (((l.take k).map (tbT p)).map eTb)=some (choR p l):=by
 apply down
 ·rw[zHP];have hs:zB 69 [.agg 0 [.str (bs [97]),.int .i64 p.least,.sl 3 ((l.map (tbT p)).map eTb)]]=some (.val (eI (jM (Ja p l)))):=c69 (Ja p l);simp only[Ad,AJ,decide_false,zU,AO,AE,decide_true,zD,An,BA];rw[Aq (by simp),hs]
  simp only[zJ,h3,zD,zI];rfl
 ·intro k hk ih;have e1:(k:Int)<l.length:=by omega
  have e0:(0:Int)<=(k:Int):=by omega
  have hm:min k l.length=k:=by omega
  have hlk:l[k]<p.ps.length:=hi _ (Ay hk);have e2:(2 * (k+1)+200) * 32<=281474976710656:=by omega
  have e3:(0:Int)<=(l[k]:Int):=by omega
  have e4:(l[k]:Int)<p.ps.length:=by omega
  have e5:((1+1:Nat):Int)<=9223372036854775807:=by omega
  rw[<-ih,zHP];simp only[Ad,AF,hm,e0,e1,e2,e3,e4,and_self,decide_true,zD,Ae,zO _ l k hk,zO _ p.ps l[k] hlk,h3,h9,h141,zI,zZ,zQ,zS,zW,KnX.text l[k] (by omega),zJ,zI8,e5]
  rw[wr ((k:Int)+1) (by omega),Ai hk,Ah,Ah]
  have:tbT p l[k]=⟨bs [116]++txtN l[k],p.ps[l[k]]⟩:=by unfold tbT;rw[zBP p.ps _ hlk];rfl
  rw[AH,AS,AH,AS,this];rfl
theorem c55[KnX](p:Pn)(hr:zu p.r)(h10:p.ps.length<=10)(l:List Nat)(hl:l.length<=64)(hi:∀i∈l,i<p.ps.length):zB 55 [ePn p,.sl 1 (l.map eN)]=some (choR p l):=by
 rw[C55];simp only[zK,zN,hPn' p hr,h25,Ag,zD,zQ,zS,zW,zh,zi,je,zZ,zI,zR];rw[L55_0a_eq];by_cases h:l=[]
 ·subst h;have hs:zB 69 [.agg 0 [.str (bs [97]),.int .i64 p.least,.sl 3 []]]=some (.val (eI (jM (Ja p [])))):=c69 (Ja p []);refine(ifO_decF (by simp) _ _).trans ?_
  rw[hs];simp only[zJ,h3,zD,zI];rfl
 ·have h0:0<l.length:=AQ.2 h;have e1:(0:Int)<l.length:=by omega
  have hlk:l[0]<p.ps.length:=hi _ (Ay h0);have e3:(0:Int)<=(l[0]:Int):=by omega
  have e4:(l[0]:Int)<p.ps.length:=by omega
  have e5:((1+1:Nat):Int)<=9223372036854775807:=by omega
  have h1:=l55b p h10 l hl hi 1 (by omega)
  rw[tk1 l h0,AH,AS,show tbT p l[0]=⟨bs [116]++txtN l[0],p.ps[l[0]]⟩ by unfold tbT;rw[zBP p.ps _ hlk];rfl] at h1
  simp only[Ad,e1,e3,e4,AK,and_self,decide_true,zD,zO _ l 0 h0,Ae,zO _ p.ps l[0] hlk,h3,h9,h141,zI,zZ,zQ,zS,zW,KnX.text l[0] (by omega),zJ,zI8,e5]
  exact h1
end Go.Am
namespace Go.Am
open Go.Proofs
open Go
variable[OO]
theorem shortP_len{p:Pn}{n:Int}(h:zGD p n=true):((p.ps.length:Int)<=n\/p.ps.length=9\/p.ps.length=65)/\p.w.d.length<=33/\p.w.w.length<=33/\p.c.p.length<=52:=by
 unfold zGD at h;split at h
 ·rename_i h1;unfold zIF at h;split at h
  ·rename_i h2;split at h
   ·rename_i h3;simp only[shortW,Bool.and_eq_true] at h2;exact⟨by omega,short33_le h2.1.2,short33_le h2.2,by omega⟩
   ·cases h
  ·cases h
 ·cases h
end Go.Am
namespace Go.Am
open Go.Proofs
open Go
theorem Sums_rev:∀(fs:List (Nat->Option Int)) (n:Nat) (x:Int),Sums fs.reverse n x ↔ Sums fs n x
 | [],n,x=>Iff.rfl
 | f :: fs,n,x=>by
  rw[List.reverse_cons,Sums_snoc];constructor
  ·rintro⟨m,z,c,y,h1,h2,rfl,rfl⟩;exact⟨c,y,m,z,h2,(Sums_rev fs m z).1 h1,by omega,by omega⟩
  ·rintro⟨c,y,m,z,h1,h2,rfl,rfl⟩;exact⟨m,z,c,y,(Sums_rev fs m z).2 h2,h1,by omega,by omega⟩
theorem midF_max{d0:Int->Option Int}{f:Nat->Option Int}{S:Nat->Int->Prop}(hd:∀m:Nat,IsMax (S m) (d0 m))(hn:∀m:Int,m<0->d0 m=none)(n:Nat):∀k,IsMax (λx=>∃c y m z,c<k/\f c=some y/\S m z/\n=c+m/\x=y+z) (zDy d0 f k n)
 | 0=>λx ⟨c,_,_,_,h,_⟩=>by omega
 | k+1=>by
  have ih:=midF_max (f:=f) hd hn n k;unfold zDy;cases hf:f k with
  | none =>
   refine ih.congr λx=>⟨λ⟨c,y,m,z,h1,h⟩=>⟨c,y,m,z,by omega,h⟩,λ⟨c,y,m,z,h1,h2,h⟩=>⟨c,y,m,z,?_,h2,h⟩⟩
   rcases A0 c k with h | h
   ·exact h
   ·obtain rfl:c=k:=by omega
    rw[hf] at h2;cases h2
  | some be =>
   show IsMax _ (zGk be (d0 ((n:Int) - k)) (zDy d0 f k n));have split:∀x,(∃c y m z,c<k+1/\f c=some y/\S m z/\n=c+m/\x=y+z) ↔ (∃c y m z,c<k/\f c=some y/\S m z/\n=c+m/\x=y+z)\/∃m z,S m z/\n=k+m/\x=be+z:=λx=>by
    constructor
    ·rintro⟨c,y,m,z,h1,h2,h⟩;rcases A0 c k with h3 | h3
     ·exact .inl ⟨c,y,m,z,h3,h2,h⟩
     ·obtain rfl:c=k:=by omega
      rw[hf] at h2;injection h2 with h2
      subst h2;exact .inr ⟨m,z,h⟩
    ·rintro (⟨c,y,m,z,h1,h⟩ | ⟨m,z,h⟩)
     ·exact⟨c,y,m,z,by omega,h⟩
     ·exact⟨k,be,m,z,by omega,hf,h⟩
   rcases A0 n k with hk | hk
   ·rw[hn _ (by omega)]
    refine ih.congr λx=>?_
    rw[split x];exact⟨.inl,λh=>h.elim id λ⟨m,z,_,h,_⟩=>by omega⟩
   ·have hm:=hd (n - k);rw[show((n - k:Nat):Int)=(n:Int) - k by omega] at hm
    cases hx:d0 ((n:Int) - k) with
    | none =>
     rw[hx] at hm;refine ih.congr λx=>?_
     rw[split x];refine⟨.inl,λh=>h.elim id λ⟨m,z,h1,h2,_⟩=>?_⟩
     obtain rfl:m=n - k:=by omega
     exact(hm z h1).elim
    | some e =>
     rw[hx] at hm;cases hy:zDy d0 f k n with
     | none =>
      rw[hy] at ih;refine⟨(split _).2 (.inr ⟨n - k,e,hm.1,by omega,by omega⟩),λx hx'=>?_⟩
      rcases (split x).1 hx' with h | ⟨m,z,h1,h2,rfl⟩
      ·exact(ih x h).elim
      ·obtain rfl:m=n - k:=by omega
       have:=hm.2 z h1;omega
     | some old =>
      rw[hy] at ih;have hmax:∀x,(∃c y m z,c<k+1/\f c=some y/\S m z/\n=c+m/\x=y+z)->x<=old\/x<=e+be:=λx hx'=>by
       rcases (split x).1 hx' with h | ⟨m,z,h1,h2,rfl⟩
       ·exact .inl (ih.2 x h)
       ·obtain rfl:m=n - k:=by omega
        have:=hm.2 z h1;exact .inr (by omega)
      show IsMax _ (some (if e+be>old then e+be else old))
      by_cases hc:e+be>old
      ·rw[if_pos hc];refine⟨(split _).2 (.inr ⟨n - k,e,hm.1,by omega,by omega⟩),λx hx'=>?_⟩
       have:=hmax x hx';omega
      ·rw[if_neg hc];refine⟨(split _).2 (.inl ih.1),λx hx'=>?_⟩
       have:=hmax x hx';omega
theorem midF_neg{d0:Int->Option Int}{f:Nat->Option Int}(hn:∀m:Int,m<0->d0 m=none)(m:Int)(hm:m<0):∀k,zDy d0 f k m=none
 | 0=>rfl
 | k+1=>by
  unfold zDy;cases f k with
  | none=>exact midF_neg (f:=f) hn m hm k
  | some be =>
   show zGk be (d0 (m - k)) _=none;rw[hn _ (by omega)]
   exact midF_neg (f:=f) hn m hm k
theorem outF_neg(bst:List Int->Nat->Option Int):∀(gs:List (List Int)) (m:Int),m<0->zDx bst gs m=none
 | [],m,h=>if_neg (by omega)
 | g :: gs,m,h=>midF_neg (outF_neg bst gs) m h _
def grpF(bst:List Int->Nat->Option Int)(g:List Int)(c:Nat):Option Int:=bst (JH g) c
theorem outF_max(bst:List Int->Nat->Option Int):∀(gs:List (List Int)),(∀g∈gs,∀c,g.length<c->grpF bst g c=none)->∀n:Nat,IsMax (Sums (gs.map (grpF bst)) n) (zDx bst gs n)
 | [],_,n=>by
  unfold zDx;by_cases h:n=0
  ·rw[if_pos (by omega)]
   exact⟨⟨h,rfl⟩,λx hx=>by rw[hx.2];exact AK _⟩
  ·rw[if_neg (by omega)]
   exact λx hx=>h hx.1
 | g :: gs,hl,n=>by
  have ih:=outF_max bst gs λg hg=>hl g (by simp[hg])
  have:=midF_max (f:=grpF bst g) ih (outF_neg bst gs) n (g.length+1);refine IsMax.congr this λx=>⟨λ⟨c,y,m,z,_,h⟩=>⟨c,y,m,z,h⟩,λ⟨c,y,m,z,h1,h⟩=>⟨c,y,m,z,?_,h1,h⟩⟩
  rcases A0 g.length c with h2 | h2
  ·rw[hl g (by simp) c h2] at h1;cases h1
  ·omega
theorem bound_same(bst:List Int->Nat->Option Int)(gs:List (List Int))(hl:∀g∈gs,∀c,g.length<c->grpF bst g c=none)(n:Nat):zDx bst gs.reverse n=boundR (gs.map (grpF bst)) (gs.map Aa) n:=by
 have h1:=outF_max bst gs.reverse (λg hg=>hl g (by simpa using hg)) n
 rw[List.map_reverse] at h1;have h2:=boundR_max (gs.map (grpF bst)) (gs.map Aa) n (by simp) λi h h' c hc=>by simp only[Az] at hc ⊢;exact hl _ (Ay _) c hc
 exact(h1.congr (Sums_rev _ n)).unique h2
end Go.Am
namespace Go.Am
open Go.Proofs
open Go
theorem step_lo{N:Int}{ks:List Int}{i:Int}(h:i<0\/i>=N):QS N ks i=10:=by unfold QS;rw[if_pos h];rfl
theorem step_in{N:Int}{ks:List Int}{i:Int}(h:¬(i<0\/i>=N)):QS N ks i=if i∈ks then 9 else 0:=by
 unfold QS;rw[if_neg h];by_cases h1:i∈ks
 ·rw[if_pos h1];rfl
 ·rw[if_neg h1];rfl
theorem sortI_sorted(l:List Int):(JH l).Pairwise (·<=·):=by
 have:=List.pairwise_mergeSort (le:=λx y:Int=>decide (x<=y)) (λa b c h1 h2=>by simp only[decide_eq_true_eq] at h1 h2 ⊢;omega) (λa b=>by simp only[Bool.or_eq_true,decide_eq_true_eq];omega) l
 exact this.imp λh=>of_decide_eq_true h
theorem sortI_perm(l:List Int):(JH l).Perm l:=List.mergeSort_perm l _
theorem sortI_of{l l':List Int}(h:l'.Pairwise (·<=·))(hp:l'.Perm l):l'=JH l :=
 List.Perm.eq_of_pairwise (λa b _ _ h1 h2=>by omega) h (sortI_sorted l) (hp.trans (sortI_perm l).symm)
noncomputable def bstR(p:Pn)(l:List Int)(k:Nat):Option Int:=(J7 (enP p) (okC p) (l.map Ab) [] k).map (·.2)
theorem bstR_none{p:Pn}{l:List Int}{k:Nat}(h:l.length<k):bstR p l k=none:=by
 unfold bstR;cases hc:J7 (enP p) (okC p) (l.map Ab) [] k with
 | none=>rfl
 | some c =>
  obtain⟨s,h1,h2,_⟩:=zAt (enP p) _ _ _ _ hc;have:=h1.length_le;rw[Ad] at this;omega
noncomputable def bndR(p:Pn)(gs:List (List Int))(n:Nat):Option Int:=boundR (gs.map (grpF (bstR p))) (gs.map Aa) n
theorem grp_none(p:Pn)(gs:List (List Int)):∀i (h:i<(gs.map (grpF (bstR p))).length) (h':i<(gs.map Aa).length) c,(gs.map Aa)[i]<c->(gs.map (grpF (bstR p)))[i] c=none:=λi h h' c hc=>by simp only[Az] at hc ⊢;exact bstR_none (by rw[qF];exact hc)
variable[OO]
section
variable(p:Pn)(gs:List (List Int))(hl:gs.length<=50)(hg:∀g∈gs,g.length<=1000)
include hl hg
end
section
variable[KnW][KnX](p:Pn)(h:PlanOK p)
include h
end
end Go.Am
namespace Go.Am
open Go.Proofs
open Go
variable[OO]
def bndE(p:Pn)(gs:List (List Int))(n:Int):Int:=if zJi p=0 then zT [zAM p.ps.length [] gs,zf n 0 p.ps.length] else zJi p
theorem bndE_0{p:Pn}{gs:List (List Int)}{n:Int}(h:bndE p gs n=0):zJi p=0/\zAM p.ps.length [] gs=0/\zf n 0 p.ps.length=0:=by
 unfold bndE at h;split at h
 ·rename_i hf;have h1:=jE h;exact⟨hf,h1.1,(jE h1.2).1⟩
 ·rename_i hf;exact absurd h hf
theorem bndE_of{p:Pn}{gs:List (List Int)}{n:Int}(h1:zJi p=0)(h2:zAM p.ps.length [] gs=0)(h3:zf n 0 p.ps.length=0):bndE p gs n=0:=by unfold bndE;rw[if_pos h1,h2,h3];rfl
theorem groupK_0(N:Int):∀(g ks:List Int),(J3 N ks g).1=0->(J3 N ks g).2=ks++g/\(∀i∈g,0<=i/\i<N)/\(ks.Nodup->(ks++g).Nodup)
 | [],ks,_=>⟨by simp[J3],λi hi=>by simp at hi,λh=>by simpa using h⟩
 | i :: g,ks,h=>by
  unfold J3 at h ⊢;by_cases hs:QS N ks i=0
  ·rw[if_pos hs] at h ⊢;have hi:¬(i<0\/i>=N):=λh'=>by rw[step_lo h'] at hs;cases hs
   rw[step_in hi] at hs;have hk:i ∉ ks:=λh'=>by rw[if_pos h'] at hs;cases hs
   obtain⟨h1,h2,h3⟩:=groupK_0 N g (ks++[i]) h;refine⟨by rw[h1];simp,λj hj=>?_,λhd=>?_⟩
   ·rcases AG.1 hj with rfl | hj
    ·omega
    ·exact h2 j hj
   ·have:=h3 (by
     refine AB.2 ⟨hd,by simp,λa ha b hb e=>?_⟩
     rw[Au] at hb;subst hb;subst e;exact hk ha)
    simpa using this
  ·rw[if_neg hs] at h;exact absurd h hs
theorem groupsK_0(N:Int):∀(gs:List (List Int)) (ks:List Int),zAM N ks gs=0->((ks++gs.flatten).length:Int)=N/\(∀g∈gs,∀i∈g,0<=i/\i<N)/\(ks.Nodup->(ks++gs.flatten).Nodup)
 | [],ks,h=>by
  unfold zAM at h;split at h
  ·rename_i h';exact⟨by simpa using h',λg hg=>by simp at hg,λhd=>by simpa using hd⟩
  ·cases h
 | g :: gs,ks,h=>by
  unfold zAM at h;split at h
  ·rename_i h';obtain⟨h1,h2,h3⟩:=groupK_0 N g ks h';rw[h1] at h;obtain⟨k1,k2,k3⟩:=groupsK_0 N gs (ks++g) h;refine⟨?_,λa ha=>?_,λhd=>?_⟩
   ·rw[As,<-AM];exact k1
   ·rcases AG.1 ha with rfl | ha
    ·exact h2
    ·exact k2 a ha
   ·rw[As,<-AM];exact k3 (h3 hd)
  ·rename_i h';exact absurd h h'
theorem sumLen_flat:∀gs:List (List Int),JJ gs=gs.flatten.length
 | []=>rfl
 | g :: gs=>by rw[As,AT,<-sumLen_flat gs];rfl
theorem nodup_toNat{l:List Int}(hd:l.Nodup)(h:∀i∈l,0<=i):(l.map Ab).Nodup:=by
 refine Bc.2 (hd.imp_of_mem λ{a b} ha hb hne e=>hne ?_)
 have:=h a ha;have:=h b hb;omega
theorem nodup_flat{gs:List (List Int)}(h:gs.flatten.Nodup){g:List Int}(hg:g∈gs):g.Nodup:=by
 induction gs with
 | nil=>simp at hg
 | cons a gs ih =>
  rw[As] at h;have h':=AB.1 h;rcases AG.1 hg with rfl | hg
  ·exact h'.1
  ·exact ih h'.2.1 hg
theorem bst_eq{p:Pn}(h:PlanOK p){g:List Int}(hd:g.Nodup)(hi:∀i∈g,0<=i/\i<p.ps.length)(c:Nat):bstP p (JH g) c=bstR p (JH g) c:=by
 have hm:∀i∈JH g,0<=i/\i<p.ps.length:=λi h=>hi i ((sortI_perm g).mem_iff.1 h)
 unfold bstP bstR;rw[best_same p h.l h.v.p ((JH g).map Ab) (nodup_toNat ((sortI_perm g).nodup_iff.2 hd) λi h=>(hm i h).1) (λi hi'=>by
  obtain⟨x,hx,rfl⟩:=At.1 hi';have:=hm x hx;omega) c]
noncomputable def bndA(p:Pn)(gs:List (List Int))(n:Int):Int×Int:=if bndE p gs n=0 then (match bndR p gs n.toNat with | some v=>(v,0) | none=>(0,24)) else (0,bndE p gs n)
theorem bound_eq{p:Pn}(hr:zu p.r){gs:List (List Int)}{n:Int}(hb:bndE p gs n=0):YQ p gs n=bndA p gs n:=by
 obtain⟨hf,hg,hn⟩:=bndE_0 hb;have h:=zH3 hf hr;obtain⟨_,hi,hd⟩:=groupsK_0 _ gs [] hg;have hd:=hd List.nodup_nil;rw[Ap] at hd;obtain⟨h0,_⟩:=zJI hn;have e1:gs.map (grpF (bstP p))=gs.map (grpF (bstR p)):=A7 λg hg=>by funext c;exact bst_eq h (nodup_flat hd hg) (hi g hg) c
 have e2:=bound_same (bstP p) gs (λg hg c hc=>by
  show bstP p (JH g) c=none;rw[bst_eq h (nodup_flat hd hg) (hi g hg) c];exact bstR_none (by rw[qF];exact hc)) n.toNat
 rw[A9 h0,e1] at e2;unfold YQ bndA;rw[e2,if_pos hb];rfl
end Go.Am
namespace Go.Am
open Go.Proofs
open Go
variable[OO]
theorem apart_comm2(a b:Pt):jQ a b=jQ b a:=by
 unfold jQ;have h1:(a.x - b.x) * (a.x - b.x)=(b.x - a.x) * (b.x - a.x):=by rw[<-A5,BO]
 have h2:(a.y - b.y) * (a.y - b.y)=(b.y - a.y) * (b.y - a.y):=by rw[<-A5,BO]
 rw[h1,h2]
theorem nearP_symm(p:Pn)(a b:Nat):jP p a b=jP p b a:=by unfold jP;rw[apart_comm2];congr 1;exact decide_eq_decide.2 ⟨λh=>⟨h.2.1,h.1,λe=>h.2.2 e.symm⟩,λh=>⟨h.2.1,h.1,λe=>h.2.2 e.symm⟩⟩
theorem okC_pair(p:Pn)(hl:p.ps.length<=8)(hp:∀q∈p.ps,JP q):∀(b a:List Nat),(∀x∈a++b,x<p.ps.length)->(a++b).Nodup->okC p a=true->a.Pairwise (λx y=>jP p x y=false) ->
  (okC p (a++b)=true ↔ (a++b).Pairwise (λx y=>jP p x y=false))
 | [],a,_,_,hok,hpw=>by
  rw[Bi];exact⟨λ_=>hpw,λ_=>hok⟩
 | i :: b,a,hD,hn,hok,hpw=>by
  have hs:=okC_snoc p hl hp a i (λx hx=>Ax.2 (hD x (by simp[hx]))) (Ax.2 (hD i (by simp))) (λh=>(AB.1 hn).2.2 i h i (by simp) rfl) hok
  have e:a++i :: b=(a++[i])++b:=by simp
  rw[e] at hD hn ⊢;cases hc:a.any λt=>jP p t i with
  | true =>
   rw[hc] at hs;constructor
   ·intro h;have:=okC_left p (a++[i]) b h;rw[hs] at this;cases this
   ·intro h;obtain⟨t,ht,htn⟩:=List.any_eq_true.1 hc;have:=(A6.1 (A6.1 h).1).2.2 t ht i (by simp)
    rw[htn] at this;cases this
  | false =>
   rw[hc] at hs;refine okC_pair p hl hp b (a++[i]) hD hn hs (A6.2 ⟨hpw,by simp,λt ht j hj=>?_⟩)
   rw[Au] at hj;subst hj;cases hx:jP p t j with
   | false=>rfl
   | true=>exact absurd hx (By.1 hc t ht)
theorem okC_iff{p:Pn}(h:PlanOK p){l:List Nat}(hD:∀x∈l,x<p.ps.length)(hn:l.Nodup):okC p l=true ↔ l.Pairwise (λx y=>jP p x y=false) :=
 okC_pair p h.l h.v.p l [] hD hn rfl BL
theorem okC_perm{p:Pn}(h:PlanOK p){l l':List Nat}(hp:l.Perm l')(hD:∀x∈l,x<p.ps.length)(hn:l.Nodup)(hok:okC p l=true):okC p l'=true :=
 (okC_iff h (λx hx=>hD x (hp.mem_iff.2 hx)) (hp.nodup_iff.1 hn)).2 ((List.Perm.pairwise_iff (λ{x y} hxy=>by rw[nearP_symm];exact hxy) hp).1 ((okC_iff h hD hn).1 hok))
theorem okC_sub{p:Pn}(h:PlanOK p){l l':List Nat}(hs:l'.Sublist l)(hD:∀x∈l,x<p.ps.length)(hn:l.Nodup)(hok:okC p l=true):okC p l'=true :=
 (okC_iff h (λx hx=>hD x (hs.subset hx)) (hn.sublist hs)).2 (((okC_iff h hD hn).1 hok).sublist hs)
theorem enP_perm(p:Pn){l l':List Nat}(hp:l.Perm l'):enP p l=enP p l':=energy_perm p.w p.c p.r (hp.map _) 0
theorem combB_part{w:Wk}(hw:zJR w)(a b:List Pt)(sec:Int)(st x:Pt):combB w a sec st x<=combB w (a++b) sec st x:=by
 unfold combB;refine capI_mono ?_;rw[Ah];refine combI_part w.rule λd hd=>?_
 rw[<-Ah] at hd;obtain⟨y,_,rfl⟩:=At.1 hd;exact(defI_bound hw.1 _ _).1
theorem combB_bound{w:Wk}(hw:zJR w)(ps:List Pt)(sec:Int)(st x:Pt):0<=combB w ps sec st x/\combB w ps sec st x<=256:=by
 unfold combB;exact capI_bound (zHf λd hd=>by
  obtain⟨y,_,rfl⟩:=At.1 hd;exact defI_bound hw.1 _ _)
theorem powP_map(w:Wk)(c:Cu)(ps:List Pt)(sec v:Int):qA w c ps sec v 0=ps.map λb=>YA c (v * (256 - combB w ps sec (zY sec) b)):=by unfold qA jL;rw[combP_eq,AA,AA,BM];rfl
theorem powP_split{w:Wk}{c:Cu}(hw:zJR w)(hl:2<=c.p.length)(hi:incr c.p)(a b:List Pt)(sec v:Int)(hv:0<=v):jZ (qA w c (a++b) sec v 0)<=jZ (qA w c a sec v 0)+jZ (qA w c b sec v 0):=by
 rw[powP_map,powP_map,powP_map,Ah,sum_append];have k:∀(x y:List Pt) (q:Pt),combB w x sec (zY sec) q<=combB w y sec (zY sec) q->YA c (v * (256 - combB w y sec (zY sec) q))<=YA c (v * (256 - combB w x sec (zY sec) q)):=λx y q h=>by have b1:=combB_bound hw y sec (zY sec) q;exact valP_mono hl hi (Bk hv (by omega)) (Bj (by omega) hv)
 have h1:=zDN (f:=λq=>YA c (v * (256 - combB w (a++b) sec (zY sec) q))) (g:=λq=>YA c (v * (256 - combB w a sec (zY sec) q))) a λq _=>k a (a++b) q (combB_part hw a b sec _ q)
 have h2:=zDN (f:=λq=>YA c (v * (256 - combB w (a++b) sec (zY sec) q))) (g:=λq=>YA c (v * (256 - combB w b sec (zY sec) q))) b λq _=>k b (a++b) q (by
  rw[combB_perm w (List.perm_append_comm (l₁:=a) (l₂:=b))];exact combB_part hw b a sec _ q)
 omega
theorem rowE_split2{w:Wk}{c:Cu}{ps a b:List Pt}{sec:Int}(h:∀v,0<=v->jZ (qA w c ps sec v 0)<=jZ (qA w c a sec v 0)+jZ (qA w c b sec v 0)) :
  ∀(l:List Int) (v:Int),0<=v->(∀q∈l,0<=q)->qw w c ps 0 sec v l<=qw w c a 0 sec v l+qw w c b 0 sec v l
 | [],_,_,_=>by simp[qw]
 | q :: r,v,h0,hq=>by
  have k1:=rowE_split2 h r (v+1) (by omega) λx hx=>hq x (by simp[hx])
  have k3:=hq q (by simp)
  have k2:=Bj (h v h0) k3;rw[Int.mul_add] at k2;simp only[qw,qD];by_cases hc:q>0/\v<c.cut
  ·simp only[if_pos hc];omega
  ·simp only[if_neg hc];omega
theorem enE_split2{w:Wk}{c:Cu}{ps a b:List Pt}(h:∀sec v,0<=v->jZ (qA w c ps sec v 0)<=jZ (qA w c a sec v 0)+jZ (qA w c b sec v 0)) :
  ∀(l:List (List Int)) (s:Int),okQ l->enE w c ps 0 s l<=enE w c a 0 s l+enE w c b 0 s l
 | [],_,_=>by simp[enE]
 | q :: r,s,hq=>by
  have k1:=enE_split2 h r (s+1) λx hx=>hq x (by simp[hx])
  have k2:=rowE_split2 (h s) q 0 (AK 0) λx hx=>(hq q (by simp) x hx).1
  simp only[enE];omega
theorem enP_split{p:Pn}(h:PlanOK p)(hi:incr p.c.p)(a b:List Nat):enP p (a++b)<=enP p a+enP p b:=by unfold enP jl;rw[Ah];exact enE_split2 (λsec v hv=>powP_split h.v.w h.v.c.1 hi _ _ sec v hv) p.r 0 h.v.q
theorem rowE_nil(w:Wk)(c:Cu)(sec:Int):∀(l:List Int) (v:Int),qw w c [] 0 sec v l=0
 | [],_=>rfl
 | q :: r,v=>by
  have e:qA w c [] sec v 0=[]:=by rw[powP_map];rfl
  simp only[qw,qD,e,jZ,rowE_nil w c sec r];split <;> simp
theorem enE_nil(w:Wk)(c:Cu):∀(l:List (List Int)) (s:Int),enE w c [] 0 s l=0
 | [],_=>rfl
 | q :: r,s=>by simp only[enE,rowE_nil,enE_nil w c r];rfl
theorem enP_nil(p:Pn):enP p []=0:=enE_nil p.w p.c p.r 0
theorem fewE_incr{p:Pn}(h:zJi p=0)(hr:zu p.r):incr p.c.p:=by
 have hl:=(zH3 h hr).l;obtain⟨h1,_⟩:=jE h;unfold zAU at h1;rw[if_neg (by omega)] at h1
 split at h1
 ·obtain⟨_,_,c,_⟩:=zF3 h1;exact(zGW p.c.p (QY c).2).1
 ·rename_i hg;exact absurd h1 hg
structure Grp(p:Pn)(g:List Int):Prop where
 d:g.Nodup
 i:∀i∈g,0<=i/\i<p.ps.length
theorem grp_sort{p:Pn}{g:List Int}(hg:Grp p g):((JH g).map Ab).Nodup/\∀x,x∈(JH g).map Ab ↔ (x:Int)∈g:=by
 have hm:∀i∈JH g,0<=i/\i<p.ps.length:=λi h=>hg.i i ((sortI_perm g).mem_iff.1 h)
 refine⟨nodup_toNat ((sortI_perm g).nodup_iff.2 hg.d) λi h=>(hm i h).1,λx=>⟨λh=>?_,λh=>?_⟩⟩
 ·obtain⟨i,hi,rfl⟩:=At.1 h;have:=hm i hi;rw[A9 this.1];exact(sortI_perm g).mem_iff.1 hi
 ·exact At.2 ⟨(x:Int),(sortI_perm g).mem_iff.2 h,by simp⟩
theorem grp_found{p:Pn}{g:List Int}(hg:Grp p g){c:Nat}{y:Int}(h:grpF (bstR p) g c=some y):∃s:List Nat,s.Nodup/\(∀x∈s,(x:Int)∈g)/\s.length=c/\y=enP p s/\okC p s=true:=by
 obtain⟨h1,h2⟩:=grp_sort hg;have h:(J7 (enP p) (okC p) ((JH g).map Ab) [] c).map (·.2)=some y:=h;cases hb:J7 (enP p) (okC p) ((JH g).map Ab) [] c with
 | none=>rw[hb] at h;cases h
 | some r =>
  rw[hb] at h;injection h with h
  obtain⟨s,k1,k2,k3,k4⟩:=zAt (enP p) _ _ _ _ hb;rw[Ap] at k3 k4;exact⟨s,h1.sublist k1,λx hx=>(h2 x).1 (k1.subset hx),k2,by rw[<-h,k3],k4⟩
theorem grp_most{p:Pn}(h:PlanOK p){g:List Int}(hg:Grp p g){s:List Nat}(hn:s.Nodup)(hs:∀x∈s,(x:Int)∈g)(hok:okC p s=true):∃y,grpF (bstR p) g s.length=some y/\enP p s<=y:=by
 obtain⟨h1,h2⟩:=grp_sort hg;have hp:s.Perm (((JH g).map Ab).filter λx=>decide (x∈s)):=(List.perm_ext_iff_of_nodup hn (h1.sublist AR)).2 λx=>by rw[Bh,h2];exact⟨λhx=>⟨hs x hx,decide_eq_true hx⟩,λhx=>of_decide_eq_true hx.2⟩
 have hD:∀x∈s,x<p.ps.length:=λx hx=>by have:=hg.i _ (hs x hx);omega
 have hok':=okC_perm h hp hD hn hok;obtain⟨r,k1,k2⟩:=bestR_most (enP p) ((JH g).map Ab) [] (((JH g).map Ab).filter λx=>decide (x∈s)) AR (by rw[Ap];exact hok')
 rw[Ap,<-enP_perm p hp] at k2;rw[<-hp.length_eq] at k1;refine⟨r.2,?_,k2⟩;show(J7 (enP p) (okC p) ((JH g).map Ab) [] s.length).map (·.2)=some r.2;rw[k1];rfl
theorem grp_split{p:Pn}(h:PlanOK p)(hi:incr p.c.p){g a b:List Int}(hg:Grp p g)(ha:Grp p a)(hb:Grp p b)(hab:∀x∈g,x∈a\/x∈b){c:Nat}{y:Int}(hy:grpF (bstR p) g c=some y) :
  ∃c1 y1 c2 y2,grpF (bstR p) a c1=some y1/\grpF (bstR p) b c2=some y2/\c=c1+c2/\y<=y1+y2:=by
 obtain⟨s,s1,s2,s3,s4,s5⟩:=grp_found hg hy;have hD:∀x∈s,x<p.ps.length:=λx hx=>by have:=hg.i _ (s2 x hx);omega
 have hperm:=List.filter_append_perm (λx:Nat=>decide ((x:Int)∈a)) s
 have u1:(s.filter λx:Nat=>decide ((x:Int)∈a)).Sublist s:=AR
 have u2:(s.filter λx:Nat=>!decide ((x:Int)∈a)).Sublist s:=AR
 obtain⟨y1,a1,a2⟩:=grp_most h ha (s1.sublist u1) (λx hx=>of_decide_eq_true (Bh.1 hx).2) (okC_sub h u1 hD s1 s5)
 obtain⟨y2,b1,b2⟩:=grp_most h hb (s1.sublist u2) (λx hx=>by
  obtain⟨hx1,hx2⟩:=Bh.1 hx;rcases hab _ (s2 x hx1) with h' | h'
  ·rw[decide_eq_true h'] at hx2;cases hx2
  ·exact h') (okC_sub h u2 hD s1 s5)
 have hlen:=hperm.length_eq;rw[AT] at hlen;have he:=enP_perm p hperm;have hsp:=enP_split h hi (s.filter λx:Nat=>decide ((x:Int)∈a)) (s.filter λx:Nat=>!decide ((x:Int)∈a))
 exact⟨_,y1,_,y2,a1,b1,by omega,by omega⟩
theorem Sums_app:∀(fs gs:List (Nat->Option Int)) (m n:Nat) (x y:Int),Sums fs m x->Sums gs n y->Sums (fs++gs) (m+n) (x+y)
 | [],gs,m,n,x,y,h,k=>by
  obtain⟨rfl,rfl⟩:=h;rw[AO,Int.zero_add];exact k
 | f :: fs,gs,m,n,x,y,h,k=>by obtain⟨c,y1,m1,z,h1,h2,rfl,rfl⟩:=h;exact⟨c,y1,m1+n,z+y,h1,Sums_app fs gs m1 n z y h2 k,by omega,by omega⟩
theorem singles{p:Pn}(h:PlanOK p)(hi:incr p.c.p):∀(g:List Int),Grp p g->∀c y,grpF (bstR p) g c=some y->∃z,Sums ((g.map λi=>[i]).map (grpF (bstR p))) c z/\y<=z
 | [],hg,c,y,hy=>by
  obtain⟨s,s1,s2,s3,s4,s5⟩:=grp_found hg hy;cases s with
  | nil =>
   refine⟨0,⟨s3.symm,rfl⟩,?_⟩;rw[s4,enP_nil];exact AK _
  | cons a s=>exact absurd (s2 a (by simp)) (by simp)
 | i :: g,hg,c,y,hy=>by
  have h1:=List.nodup_cons.1 hg.d;have hg1:Grp p [i]:=⟨by simp,λj hj=>by rw[Au] at hj;subst hj;exact hg.i _ (by simp)⟩
  have hg2:Grp p g:=⟨h1.2,λj hj=>hg.i j (by simp[hj])⟩
  obtain⟨c1,y1,c2,y2,a1,a2,rfl,a4⟩:=grp_split h hi hg hg1 hg2 (λx hx=>by
   rcases AG.1 hx with rfl | hx
   ·exact .inl (by simp)
   ·exact .inr hx) hy
  obtain⟨z,z1,z2⟩:=singles h hi g hg2 c2 y2 a2;exact⟨y1+z,⟨c1,y1,c2,z,a1,z1,rfl,rfl⟩,by omega⟩
theorem bnd_max(p:Pn)(gs:List (List Int))(n:Nat):IsMax (Sums (gs.map (grpF (bstR p))) n) (bndR p gs n) :=
 boundR_max (gs.map (grpF (bstR p))) (gs.map Aa) n (by simp) (grp_none p gs)
theorem bnd_ge{p:Pn}{gs:List (List Int)}{n:Nat}{x:Int}(h:Sums (gs.map (grpF (bstR p))) n x):∃v,bndR p gs n=some v/\x<=v/\Sums (gs.map (grpF (bstR p))) n v:=by
 have hm:=bnd_max p gs n;cases hb:bndR p gs n with
 | none=>rw[hb] at hm;exact absurd h (hm x)
 | some v=>rw[hb] at hm;exact⟨v,rfl,hm.2 x h,hm.1⟩
theorem sums_one{f:Nat->Option Int}{n:Nat}{x:Int}:Sums [f] n x ↔ f n=some x:=by
 constructor
 ·rintro⟨c,y,m,z,h1,⟨rfl,rfl⟩,rfl,rfl⟩;simpa using h1
 ·intro h;exact⟨n,x,0,0,h,⟨rfl,rfl⟩,rfl,by omega⟩
theorem bnd_one(p:Pn)(g:List Int)(n:Nat):bndR p [g] n=grpF (bstR p) g n:=by
 refine((bnd_max p [g] n).congr (λx=>sums_one)).unique ?_
 cases h:grpF (bstR p) g n with
 | none=>exact λx hx=>by cases (show none=some x from hx)
 | some v=>exact⟨rfl,λx hx=>by
   injection (show some v=some x from hx) with hx
   omega⟩
theorem groupK_of(N:Int):∀(g ks:List Int),(∀i∈g,0<=i/\i<N)->(ks++g).Nodup->J3 N ks g=(0,ks++g)
 | [],ks,_,_=>by simp[J3]
 | i :: g,ks,hi,hn=>by
  have h0:=hi i (by simp)
  have hs:QS N ks i=0:=by
   rw[step_in (by omega),if_neg]
   exact λh=>(AB.1 hn).2.2 i h i (by simp) rfl
  unfold J3;rw[if_pos hs,groupK_of N g (ks++[i]) (λj hj=>hi j (by simp[hj])) (by simpa using hn)]
  simp
theorem groupsK_of(N:Int):∀(gs:List (List Int)) (ks:List Int),(∀g∈gs,∀i∈g,0<=i/\i<N)->(ks++gs.flatten).Nodup->((ks++gs.flatten).length:Int)=N->zAM N ks gs=0
 | [],ks,_,_,hl=>by
  unfold zAM;rw[if_pos (by simpa using hl)]
 | g :: gs,ks,hi,hn,hl=>by
  rw[As,<-AM] at hn hl;unfold zAM;rw[groupK_of N g ks (hi g (by simp)) (AB.1 hn).1]
  dsimp only;rw[if_pos rfl];exact groupsK_of N gs (ks++g) (λa ha=>hi a (by simp[ha])) hn hl
section
variable{p:Pn}(hf:zJi p=0)(hr:zu p.r){o:List Nat}(ho:o.Perm (Aj p.ps.length))
include hf hr ho
theorem ord_bnd{gs:List (List Int)}(hgs:gs.flatten=o.map (Ak:Nat->Int)){k:Nat}(hk:k<=p.ps.length):bndE p gs k=0/\∀g∈gs,Grp p g:=by
 have hn:(o.map (Ak:Nat->Int)).Nodup:=Bc.2 ((ho.nodup_iff.2 Bf).imp λh e=>h (by omega))
 have hi:∀g∈gs,∀i∈g,0<=i/\i<(p.ps.length:Int):=λg hg i hi=>by have:i∈gs.flatten:=List.mem_flatten.2 ⟨g,hg,hi⟩;rw[hgs] at this;obtain⟨x,hx,rfl⟩:=At.1 this;have:=Ax.1 (ho.mem_iff.1 hx);omega
 have hl:=ho.length_eq;rw[AC] at hl;refine⟨bndE_of hf (groupsK_of _ gs [] hi (by rw[Ap,hgs];exact hn) (by rw[Ap,hgs,Ad,hl])) (jW.2 (by omega)),λg hg=>⟨nodup_flat (by rw[hgs];exact hn) hg,hi g hg⟩⟩
theorem ord_sort:(JH (o.map (Ak:Nat->Int))).map Ab=Aj p.ps.length:=by
 have:(Aj p.ps.length).map (Ak:Nat->Int)=JH (o.map (Ak:Nat->Int)) :=
  sortI_of (Bc.2 (Bn.imp λh=>by omega)) ((ho.symm).map _)
 rw[<-this,AA]
 conv=>rhs;rw[<-List.map_id (Aj p.ps.length)]
 exact A7 λx _=>by simp
omit hf hr ho in
theorem flat_single:∀o:List Nat,(o.map λi:Nat=>[(i:Int)]).flatten=o.map (Ak:Nat->Int)
 | []=>rfl
 | a :: o=>by rw[AH,As,flat_single o];rfl
theorem choices{k:Nat}(hk:k<=p.ps.length)(at':Nat) :
  (J7 (enP p) (okC p) (Aj p.ps.length) [] k=none->okC p (o.take k)=false) /\
  ∀c e,J7 (enP p) (okC p) (Aj p.ps.length) [] k=some (c,e) ->
   (okC p (o.take k)=true->enP p (o.take k)<=e)/\bndA p [o.map (Ak:Nat->Int)] k=(e,0) /\
   ∃y z,bndA p [(o.take at').map (Ak:Nat->Int),(o.drop at').map (Ak:Nat->Int)] k=(y,0)/\bndA p (o.map λi:Nat=>[(i:Int)]) k=(z,0)/\e<=y/\y<=z:=by
 have h:=zH3 hf hr;have hi:=fewE_incr hf hr;have hn:=ho.nodup_iff.2 Bf;have hl:=ho.length_eq;rw[AC] at hl;have hkl:(o.take k).length=k:=by rw[AF];omega
 obtain⟨b1,g1⟩:=ord_bnd hf hr ho (gs:=[o.map (Ak:Nat->Int)]) (by simp) hk
 obtain⟨b2,g2⟩:=ord_bnd hf hr ho (gs:=[(o.take at').map (Ak:Nat->Int),(o.drop at').map (Ak:Nat->Int)]) (by simp[<-Ah]) hk
 obtain⟨b3,g3⟩:=ord_bnd hf hr ho (gs:=o.map λi:Nat=>[(i:Int)]) (flat_single o) hk
 have hG:=g1 _ (Au.2 rfl);have hA:=g2 ((o.take at').map (Ak:Nat->Int)) (by simp)
 have hB:=g2 ((o.drop at').map (Ak:Nat->Int)) (by simp)
 have hgk:∀m,grpF (bstR p) (o.map (Ak:Nat->Int)) m=(J7 (enP p) (okC p) (Aj p.ps.length) [] m).map (·.2):=λm=>by show(J7 (enP p) (okC p) ((JH (o.map (Ak:Nat->Int))).map Ab) [] m).map (·.2)=_;rw[ord_sort hf hr ho]
 have hmost:okC p (o.take k)=true->∃y,grpF (bstR p) (o.map (Ak:Nat->Int)) k=some y/\enP p (o.take k)<=y:=λhok=>by
  have:=grp_most h hG (hn.sublist (List.take_sublist k o)) (λx hx=>At.2 ⟨x,Bs hx,rfl⟩) hok
  rwa [hkl] at this
 constructor
 ·intro hnone;cases hok:okC p (o.take k) with
  | false=>rfl
  | true =>
   obtain⟨y,hy,_⟩:=hmost hok;rw[hgk,hnone] at hy;cases hy
 ·intro c e hsome;have hy:grpF (bstR p) (o.map (Ak:Nat->Int)) k=some e:=by rw[hgk,hsome];rfl
  refine⟨λhok=>?_,?_,?_⟩
  ·obtain⟨y,hy',hle⟩:=hmost hok;rw[hy] at hy';injection hy' with hy'
   omega
  ·unfold bndA;rw[if_pos b1,Ae,bnd_one,hy]
  ·obtain⟨c1,y1,c2,y2,a1,a2,a3,a4⟩:=grp_split h hi hG hA hB (λx hx=>by
    rw[<-A3,<-Ah,Bp];exact hx) hy
   obtain⟨y,v1,v2,v3⟩:=bnd_ge (p:=p) (gs:=[(o.take at').map (Ak:Nat->Int),(o.drop at').map (Ak:Nat->Int)]) (n:=k) (x:=y1+y2) ⟨c1,y1,c2,y2,a1,sums_one.2 a2,a3,rfl⟩;obtain⟨d1,x1,d2,x2,e1,e2,e3,e4⟩:=v3;have e2:=sums_one.1 e2;obtain⟨z1,z2,z3⟩:=singles h hi _ hA d1 x1 e1;obtain⟨w1,w2,w3⟩:=singles h hi _ hB d2 x2 e2;have hS:=Sums_app _ _ _ _ _ _ z2 w2;rw[<-Ah,<-Ah,<-Ah,Bp,<-e3] at hS;have hS:Sums ((o.map λi:Nat=>[(i:Int)]).map (grpF (bstR p))) k (z1+w1):=by rw[AA,AA] at hS;rw[AA];exact hS
   obtain⟨z,u1,u2,_⟩:=bnd_ge (p:=p) (gs:=o.map λi:Nat=>[(i:Int)]) hS
   refine⟨y,z,?_,?_,by omega,by omega⟩
   ·unfold bndA;rw[if_pos b2,Ae,v1]
   ·unfold bndA;rw[if_pos b3,Ae,u1]
end
end Go.Am
namespace Go.Am
open Go.Proofs
open Go
variable[OO]
theorem C50(ho:OO.o 50=none)(x0 x1 x2:DV):zB 50 [x0,x1,x2] =
 ifO (zV (zF EE 6) [88,95,3] [x0,x1,x2])
 (zH (zB 160 [(.agg 6 [(.sl 2 (elems (nth (flds x0) 0))),(eI (zC (nth (flds x0) 1))),(.agg 0 [(.str (zX (nth (flds (nth (flds x0) 2)) 0))),(.sl 1 (elems (nth (flds (nth (flds x0) 2)) 1))),(.sl 1 (elems (nth (flds (nth (flds x0) 2)) 2)))]),(.agg 1 [(.sl 1 (elems (nth (flds (nth (flds x0) 3)) 0))),(eI (zC (nth (flds (nth (flds x0) 3)) 1)))]),(.agg 3 (flds (nth (flds x0) 4)))])])
 (λr0=>ifO (zF EE 6 46 r0)
  (ifO (bne (zC r0) 0)
  (some (.val (.tup [(eI 0),(eI (zC r0))])))
  (zH (zB 170 [(.agg 6 [(.sl 2 (elems (nth (flds x0) 0))),(eI (zC (nth (flds x0) 1))),(.agg 0 [(.str (zX (nth (flds (nth (flds x0) 2)) 0))),(.sl 1 (elems (nth (flds (nth (flds x0) 2)) 1))),(.sl 1 (elems (nth (flds (nth (flds x0) 2)) 2)))]),(.agg 1 [(.sl 1 (elems (nth (flds (nth (flds x0) 3)) 0))),(eI (zC (nth (flds (nth (flds x0) 3)) 1)))]),(.agg 3 (flds (nth (flds x0) 4)))]),(.sl 1 (Bt (cnE EE 25) (elems x1)))])
   (λr1=>ifO (zF EE 6 46 r1)
   (zH (zB 149 [(eI (zC x2)),(eI 0),(eI (((Aa (elems (nth (flds x0) 0))):Nat):Int))])
    (λr2=>ifO (zF EE 6 46 r2)
    (zH (zB 148 [(.sl 1 [(eI (zC r1)),(eI (zC r2))])])
     (λr3=>ifO (zF EE 6 46 r3)
     (ifO (bne (zC r3) 0)
      (some (.val (.tup [(eI 0),(eI (zC r3))])))
      (zH (zB 161 [(.agg 6 [(.sl 2 (elems (nth (flds x0) 0))),(eI (zC (nth (flds x0) 1))),(.agg 0 [(.str (zX (nth (flds (nth (flds x0) 2)) 0))),(.sl 1 (elems (nth (flds (nth (flds x0) 2)) 1))),(.sl 1 (elems (nth (flds (nth (flds x0) 2)) 2)))]),(.agg 1 [(.sl 1 (elems (nth (flds (nth (flds x0) 3)) 0))),(eI (zC (nth (flds (nth (flds x0) 3)) 1)))]),(.agg 3 (flds (nth (flds x0) 4)))])])
      (λr4=>ifO (zF EE 6 268 r4)
       (zH (zB 171 [(.dp (undp r4)),(.sl 1 (Bt (cnE EE 25) (elems x1)))])
       (λr5=>ifO (zF EE 6 278 r5)
        (ifO (BD (jh (eI (zC x2)) (keys r5) (vals r5)))
        (ifO (BD (AP (jh (eI (zC x2)) (keys r5) (vals r5)) (Bm)))
         (ifO (zF EE 6 3 (AP (AP (jh (eI (zC x2)) (keys r5) (vals r5)) (Bm)) .nl))
         (some (.val (.tup [(eI (zC (AP (AP (jh (eI (zC x2)) (keys r5) (vals r5)) (Bm)) .nl))),(eI 0)])))
         (none))
        (some (.val (.tup [(eI 0),(eI 24)]))))
        (none))
       (none))
       (λ_ _=>none))
      (none))
      (λ_ _=>none)))
     (none))
    (λ_ _=>none))
    (none))
   (λ_ _=>none))
   (none))
  (λ_ _=>none)))
 (none))
 (λ_ _=>none))
 (none) :=
 (callLo_eq (E:=EE) (X:=XX) ho (by kernel_rfl) (by kernel_rfl) [x0,x1,x2]).trans (by kernel_rfl)
end Go.Am
namespace Go.Am
open Go.Proofs
open Go
variable[OO]
def S171_0a(v0:DV)(v1:List DV)(v2:Int):St :=
 zr 81 [(0,(.d (.dp v0))),(5,(.omp 17)),(19,(.d (.sl 1 v1))),(20,(.d (eI v2))),(21,(.d (eI 0)))] [(17,(.mk false (.mp [(eI 0)] [(eI 0)])))]
noncomputable def L171_0a(v0:DV)(v1:List DV)(v2:Int):Option CR:=goQ 171 0 (S171_0a v0 v1 v2)
def S171_1a(v0:DV)(v1 v2:List DV)(v3 v4 v5:Int):St :=
 zr 81 [(0,(.d (.dp v0))),(5,(.omp 17)),(8,(.d (.sl 1 v1))),(9,(.omp 28)),(19,(.d (.sl 1 v2))),(20,(.d (eI v3))),(21,(.d (eI 0))),(31,(.d (eI v4))),(32,(.d (eI v5)))] [(17,(.mk false (.mp [(eI 0)] [(eI 0)]))),(28,(.mk false (.mp [] [])))]
noncomputable def L171_1a(v0:DV)(v1 v2:List DV)(v3 v4 v5:Int):Option CR:=goQ 171 1 (S171_1a v0 v1 v2 v3 v4 v5)
theorem L171_0a_eq(v0:DV)(v1:List DV)(v2:Int):L171_0a v0 v1 v2 =
 ifO (decide ((0:Int)<v2))
 (ifO (decide (((0:Int)<=(0:Int))/\((0:Int)<(((Aa v1):Nat):Int))))
 (ifO (zF EE 6 25 (nth v1 0))
 (zH (zB 246 [(.sl 1 (elems (nth v1 0)))])
 (λr0=>ifO (zF EE 6 365 r0)
 (zH (zB 245 [(.fn (zDz r0) (fnA r0) (fnC r0))])
 (λr1=>ifO (zF EE 6 25 r1)
 ((L171_1a v0 (elems r1) v1 v2 (Ac .i64 ((((Aa (elems r1)):Nat):Int)+(1:Int))) (0:Int)))
 (none))
 (λ_ _=>none))
 (none))
 (λ_ _=>none))
 (none))
 (none))
 (some (.val (.mp [(eI 0)] [(eI 0)]))) :=
 (zb 171 0 _).trans (by kernel_rfl)
theorem C171(x0 x1:DV):zB 171 [x0,x1] =
 ifO (zV (zF EE 6) [268,95] [x0,x1])
 ((L171_0a (undp x0) (elems x1) (((Aa (elems x1)):Nat):Int)))
 (none) :=
 (zM (f:=171) (by kernel_rfl) (by kernel_rfl) (by kernel_rfl) [x0,x1]).trans (by kernel_rfl)
end Go.Am
namespace Go.Am
open Go.Proofs
open Go
section
variable[OO]
theorem c50_err(ho:OO.o 50=none)(p:Pn)(hr:zu p.r)(gs:List (List Int))(hl:gs.length<=1000)(hg:∀g∈gs,g.length<=1000)(n:Int)(hb:bndE p gs n≠0):zB 50 [ePn p,eGs gs,eI n]=some (.val (.tup [eI 0,eI (bndE p gs n)])):=by
 have e170:=c170 p hr gs hl hg;unfold bndE at hb ⊢;unfold eGs;rw[C50 ho];simp only[zK,zN,hPn p hr,h95,h3,Ag,zD,zQ,zS,zW,zh,zi,je,zZ,zI,zR,Ad,c160 p hr,zJ,h46];by_cases hf:zJi p=0
 ·rw[if_pos hf] at hb ⊢;rw[hf,show bne (0:Int) 0=false from rfl,zU]
  simp only[zIU,e170,zJ,h46,zD,c149,zI,Qs];rw[show bne (zT [zAM p.ps.length [] gs,zf n 0 p.ps.length]) 0=true by simpa[bne] using hb,zD]
 ·rw[if_neg hf,show bne (zJi p) 0=true by simpa[bne] using hf,zD]
theorem c171_nil(s:DV):zB 171 [.dp s,.sl 1 []]=some (.val (.mp [eI 0] [eI 0])):=by rw[C171];simp only[zK,zN,h268,h95,Ag,zD,zR,List.length_nil,QG];rw[L171_0a_eq];rfl
theorem c50_nil[KnS](ho:OO.o 50=none)(p:Pn)(hr:zu p.r)(n:Int)(hb:bndE p [] n=0):n=0/\zB 50 [ePn p,eGs [],eI n]=some (.val (.tup [eI 0,eI 0])):=by
 obtain⟨hf,hg,hn⟩:=bndE_0 hb;have h:=zH3 hf hr;have h0:p.ps.length=0:=by have:=(groupsK_0 _ [] [] hg).1;simp at this;omega
 have hn0:n=0:=by have:=zJI hn;omega
 subst hn0;have e170:=c170 p hr [] (by simp) (by simp)
 rw[hg,AS] at e170;rw[h0] at hn;refine⟨rfl,?_⟩;unfold eGs;rw[C50 ho];simp only[zK,zN,hPn p hr,h95,h3,Ag,zD,zQ,zS,zW,zh,zi,je,zZ,zI,zR,Ad,c160 p hr,zJ,h46,hf,h0,AS,e170,c149,hn,Qs,zT,bne_self_eq_false,zU,KnS.search p hr h.l h.v.p h.least.1 h.least.2,h268,QG,c171_nil,h278,if_true,ne_eq,not_true_eq_false,if_false];rfl
end
class KnF[OO]:Prop where
 bound:∀(p:Pn) (gs:List (List Int)) (n:Int),zu p.r->gs.length<=30->(∀g∈gs,g.length<=1000)->zB 50 [ePn p,eGs gs,eI n]=some (.val (.tup [eI (bndA p gs n).1,eI (bndA p gs n).2]))
section
variable[OO]
end
end Go.Am
namespace Go.Am
open Go.Proofs
open Go
variable[OO]
def S54_0a(v0 v1:Int)(v2:List DV)(v3:Int)(v4:List DV):St :=
 zr 50 [(0,(.d (eI v0))),(1,(.d (eI v1))),(5,(.own 11 0 (Aa v2) 1)),(6,(.d (eI v3)))] [(11,(.mk false (.dc 1 v4)))]
noncomputable def L54_0a(v0 v1:Int)(v2:List DV)(v3:Int)(v4:List DV):Option CR:=goQ 54 0 (S54_0a v0 v1 v2 v3 v4)
def S54_1a(v0:List DV)(v1 v2:Int)(v3:List DV):St :=
 zr 50 [(5,(.own 11 0 (Aa v0) 1)),(7,(.d (eI v1))),(8,(.d (eI v2)))] [(11,(.mk false (.dc 1 v3)))]
noncomputable def L54_1a(v0:List DV)(v1 v2:Int)(v3:List DV):Option CR:=goQ 54 1 (S54_1a v0 v1 v2 v3)
theorem L54_0a_eq(v0 v1:Int)(v2:List DV)(v3:Int)(v4:List DV):L54_0a v0 v1 v2 v3 v4 =
 ifO (decide (v3<v1))
 (ifO (decide (((0:Int)<=v3)/\(v3<(((Aa v2):Nat):Int))))
 (ifO (decide ((0+(Ab v3))<(Aa v4)))
 ((L54_0a v0 v1 v2 (Ac .i64 (v3+(1:Int))) (Br v4 (0+(Ab v3)) (eI v3))))
 (none))
 (none))
 ((L54_1a v2 v0 (Ac .i64 (v1 - (1:Int))) v4)) :=
 (zb 54 0 _).trans (by kernel_rfl)
theorem L54_1a_eq(v0:List DV)(v1 v2:Int)(v3:List DV):L54_1a v0 v1 v2 v3 =
 ifO (decide (v2>(0:Int)))
 (ifO (!((Ac .i64 (v2+(1:Int))) == (0:Int)))
 (ifO (decide (((0:Int)<=(Af (Af (Ac .i64 ((950706376:Int) * v1)) (2147483647:Int)) (Ac .i64 (v2+(1:Int)))))/\((Af (Af (Ac .i64 ((950706376:Int) * v1)) (2147483647:Int)) (Ac .i64 (v2+(1:Int))))<(((Aa v0):Nat):Int))))
 (ifO (decide ((0+(Ab (Af (Af (Ac .i64 ((950706376:Int) * v1)) (2147483647:Int)) (Ac .i64 (v2+(1:Int))))))<(Aa v3)))
 (ifO (zF EE 6 3 (nth v3 (0+(Ab (Af (Af (Ac .i64 ((950706376:Int) * v1)) (2147483647:Int)) (Ac .i64 (v2+(1:Int))))))))
 (ifO (decide (((0:Int)<=v2)/\(v2<(((Aa v0):Nat):Int))))
 (ifO (decide ((0+(Ab v2))<(Aa v3)))
 (ifO (zF EE 6 3 (nth v3 (0+(Ab v2))))
 (ifO (decide (((0:Int)<=v2)/\(v2<(((Aa v0):Nat):Int))))
 (ifO (decide ((0+(Ab v2))<(Aa v3)))
 (ifO (decide (((0:Int)<=(Af (Af (Ac .i64 ((950706376:Int) * v1)) (2147483647:Int)) (Ac .i64 (v2+(1:Int)))))/\((Af (Af (Ac .i64 ((950706376:Int) * v1)) (2147483647:Int)) (Ac .i64 (v2+(1:Int))))<(((Aa v0):Nat):Int))))
 (ifO (decide ((0+(Ab (Af (Af (Ac .i64 ((950706376:Int) * v1)) (2147483647:Int)) (Ac .i64 (v2+(1:Int))))))<(Aa (Br v3 (0+(Ab v2)) (eI (zC (nth v3 (0+(Ab (Af (Af (Ac .i64 ((950706376:Int) * v1)) (2147483647:Int)) (Ac .i64 (v2+(1:Int)))))))))))))
 ((L54_1a v0 (Af (Ac .i64 ((950706376:Int) * v1)) (2147483647:Int)) (Ac .i64 (v2 - (1:Int))) (Br (Br v3 (0+(Ab v2)) (eI (zC (nth v3 (0+(Ab (Af (Af (Ac .i64 ((950706376:Int) * v1)) (2147483647:Int)) (Ac .i64 (v2+(1:Int)))))))))) (0+(Ab (Af (Af (Ac .i64 ((950706376:Int) * v1)) (2147483647:Int)) (Ac .i64 (v2+(1:Int)))))) (eI (zC (nth v3 (0+(Ab v2))))))))
 (none))
 (none))
 (none))
 (none))
 (none))
 (none))
 (none))
 (none))
 (none))
 (none))
 (none))
 (ifO (decide ((0+(Aa v0))<=(Aa v3)))
 (some (.val (.sl 1 (Av (Aa v0) (Aw 0 v3)))))
 (none)) :=
 (zb 54 1 _).trans (by kernel_rfl)
theorem C54(x0 x1:DV):zB 54 [x0,x1] =
 ifO (zV (zF EE 6) [3,3] [x0,x1])
 (ifO (decide (((0:Int)<=(zC x1))/\(((zC x1)=(zC x1))/\((((8:Int) * (zC x1))<=(281474976710656:Int))/\((zC x1)<=(9223372036854775807:Int))))))
 ((L54_0a (zC x0) (zC x1) (Ao (Ab (zC x1)) (eI 0)) (0:Int) (Ao (Ab (zC x1)) (eI 0))))
 (none))
 (none) :=
 (zM (f:=54) (by kernel_rfl) (by kernel_rfl) (by kernel_rfl) [x0,x1]).trans (by kernel_rfl)
def S7_0a(v0 v1:Int)(v2 v3:List DV)(v4:Int)(v5:Bool)(v6 v7:Int)(v8:List DV)(v9:Int)(v10:ByteArray)(v11 v12 v13:List DV)(v14:Int)(v15:List DV)(v16:ByteArray)(v17:Int)(v18:List DV)(v19:ByteArray)(v20 v21 v22:List DV)(v23:Int)(v24:List DV):St :=
 zr 248 [(2,(.d (eI v0))),(3,(.ptr 3 415 0 [])),(7,(.d (eI v1))),(8,(.d (.sl 1 v2))),(9,(.d (.sl 1 v3))),(10,(.d (eI v4))),(12,(.ptr 12 416 0 [])),(13,(.d (.bool v5))),(105,(.d (.sl 1 v3))),(106,(.d (eI v6))),(107,(.d (eI v7)))] [(3,(.mk false (.dc 415 [(.agg 6 [(.sl 2 v8),(eI v9),(.agg 0 [(.str v10),(.sl 1 v11),(.sl 1 v12)]),(.agg 1 [(.sl 1 v13),(eI v14)]),(.agg 3 v15)])]))),(12,(.mk false (.dc 416 [(.agg 4 [(.agg 0 [(.str v16),(eI v17),(.sl 3 v18)]),(.agg 0 [(.str v19),(.sl 1 v20),(.sl 1 v21)]),(.agg 1 [(.sl 1 v22),(eI v23)]),(.agg 3 v24)])])))]
noncomputable def L7_0a(v0 v1:Int)(v2 v3:List DV)(v4:Int)(v5:Bool)(v6 v7:Int)(v8:List DV)(v9:Int)(v10:ByteArray)(v11 v12 v13:List DV)(v14:Int)(v15:List DV)(v16:ByteArray)(v17:Int)(v18:List DV)(v19:ByteArray)(v20 v21 v22:List DV)(v23:Int)(v24:List DV):Option CR:=goQ 7 0 (S7_0a v0 v1 v2 v3 v4 v5 v6 v7 v8 v9 v10 v11 v12 v13 v14 v15 v16 v17 v18 v19 v20 v21 v22 v23 v24)
def S7_1027a(v0 v1:Int)(v2:List DV)(v3:Int)(v4:List DV)(v5:Int)(v6:ByteArray)(v7 v8 v9:List DV)(v10:Int)(v11:List DV):St :=
 zr 248 [(2,(.d (eI v0))),(3,(.ptr 3 415 0 [])),(7,(.d (eI v1))),(8,(.d (.sl 1 v2))),(10,(.d (eI v3)))] [(3,(.mk false (.dc 415 [(.agg 6 [(.sl 2 v4),(eI v5),(.agg 0 [(.str v6),(.sl 1 v7),(.sl 1 v8)]),(.agg 1 [(.sl 1 v9),(eI v10)]),(.agg 3 v11)])])))]
noncomputable def L7_1027a(v0 v1:Int)(v2:List DV)(v3:Int)(v4:List DV)(v5:Int)(v6:ByteArray)(v7 v8 v9:List DV)(v10:Int)(v11:List DV):Option CR:=goQ 7 1027 (S7_1027a v0 v1 v2 v3 v4 v5 v6 v7 v8 v9 v10 v11)
def S7_1a(v0 v1 v2 v3 v4 v5:Int)(v6:List DV)(v7:Int)(v8:List DV)(v9:Int)(v10:ByteArray)(v11 v12 v13:List DV)(v14:Int)(v15:List DV):St :=
 zr 248 [(3,(.ptr 3 415 0 [])),(7,(.d (eI v0))),(10,(.d (eI v1))),(23,(.d (eI v2))),(24,(.d (eI v3))),(25,(.d (eI v4))),(26,(.d (eI v5))),(27,(.d .nl)),(203,(.d (.sl 1 v6))),(204,(.d (eI v7))),(205,(.d (eI 0)))] [(3,(.mk false (.dc 415 [(.agg 6 [(.sl 2 v8),(eI v9),(.agg 0 [(.str v10),(.sl 1 v11),(.sl 1 v12)]),(.agg 1 [(.sl 1 v13),(eI v14)]),(.agg 3 v15)])])))]
noncomputable def L7_1a(v0 v1 v2 v3 v4 v5:Int)(v6:List DV)(v7:Int)(v8:List DV)(v9:Int)(v10:ByteArray)(v11 v12 v13:List DV)(v14:Int)(v15:List DV):Option CR:=goQ 7 1 (S7_1a v0 v1 v2 v3 v4 v5 v6 v7 v8 v9 v10 v11 v12 v13 v14 v15)
def S7_1b(v0 v1 v2 v3 v4 v5:Int)(v6 v7:List DV)(v8 v9:Int)(v10:List DV)(v11:Int)(v12:ByteArray)(v13 v14 v15:List DV)(v16:Int)(v17:List DV):St :=
 zr 248 [(3,(.ptr 3 415 0 [])),(7,(.d (eI v0))),(10,(.d (eI v1))),(23,(.d (eI v2))),(24,(.d (eI v3))),(25,(.d (eI v4))),(26,(.d (eI v5))),(27,(.own 213 0 (Aa v6) 1)),(203,(.d (.sl 1 v7))),(204,(.d (eI v8))),(205,(.d (eI v9)))] [(3,(.mk false (.dc 415 [(.agg 6 [(.sl 2 v10),(eI v11),(.agg 0 [(.str v12),(.sl 1 v13),(.sl 1 v14)]),(.agg 1 [(.sl 1 v15),(eI v16)]),(.agg 3 v17)])]))),(213,(.mk false (.dc 1 v6)))]
noncomputable def L7_1b(v0 v1 v2 v3 v4 v5:Int)(v6 v7:List DV)(v8 v9:Int)(v10:List DV)(v11:Int)(v12:ByteArray)(v13 v14 v15:List DV)(v16:Int)(v17:List DV):Option CR:=goQ 7 1 (S7_1b v0 v1 v2 v3 v4 v5 v6 v7 v8 v9 v10 v11 v12 v13 v14 v15 v16 v17)
theorem L7_0a_eq(v0 v1:Int)(v2 v3:List DV)(v4:Int)(v5:Bool)(v6 v7:Int)(v8:List DV)(v9:Int)(v10:ByteArray)(v11 v12 v13:List DV)(v14:Int)(v15:List DV)(v16:ByteArray)(v17:Int)(v18:List DV)(v19:ByteArray)(v20 v21 v22:List DV)(v23:Int)(v24:List DV):L7_0a v0 v1 v2 v3 v4 v5 v6 v7 v8 v9 v10 v11 v12 v13 v14 v15 v16 v17 v18 v19 v20 v21 v22 v23 v24 =
 ifO (decide (v7<v6))
 (ifO (decide (((0:Int)<=v7)/\(v7<(((Aa v3):Nat):Int))))
 (ifO (zF EE 6 3 (nth v3 (Ab v7)))
 (ifO (decide ((zC (nth v3 (Ab v7)))<(0:Int)))
 (some (.val (.bool false)))
 (ifO (decide ((zC (nth v3 (Ab v7)))>=(((Aa v8):Nat):Int)))
 (some (.val (.bool false)))
 (ifO (decide (v7>(0:Int)))
 (ifO (decide (((0:Int)<=(Ac .i64 (v7 - (1:Int))))/\((Ac .i64 (v7 - (1:Int)))<(((Aa v3):Nat):Int))))
 (ifO (zF EE 6 3 (nth v3 (Ab (Ac .i64 (v7 - (1:Int))))))
 (ifO (decide ((zC (nth v3 (Ab v7)))<=(zC (nth v3 (Ab (Ac .i64 (v7 - (1:Int))))))))
 (some (.val (.bool false)))
 ((L7_0a v0 v1 v2 v3 v4 v5 v6 (Ac .i64 (v7+(1:Int))) v8 v9 v10 v11 v12 v13 v14 v15 v16 v17 v18 v19 v20 v21 v22 v23 v24)))
 (none))
 (none))
 ((L7_0a v0 v1 v2 v3 v4 v5 v6 (Ac .i64 (v7+(1:Int))) v8 v9 v10 v11 v12 v13 v14 v15 v16 v17 v18 v19 v20 v21 v22 v23 v24)))))
 (none))
 (none))
 (zH (zB 55 [(.agg 6 [(.sl 2 v8),(eI v9),(.agg 0 [(.str v10),(.sl 1 v11),(.sl 1 v12)]),(.agg 1 [(.sl 1 v13),(eI v14)]),(.agg 3 v15)]),(.sl 1 v3)])
 (λr42=>ifO ((DV.isTup r42) && (zV (zF EE 6) [34,4] (tups r42)))
 (zH (zB 34 [(.agg 4 [(.agg 0 [(.str (zX (nth (flds (nth (flds (nth (tups r42) 0)) 0)) 0))),(eI (zC (nth (flds (nth (flds (nth (tups r42) 0)) 0)) 1))),(.sl 3 (elems (nth (flds (nth (flds (nth (tups r42) 0)) 0)) 2)))]),(.agg 0 [(.str (zX (nth (flds (nth (flds (nth (tups r42) 0)) 1)) 0))),(.sl 1 (elems (nth (flds (nth (flds (nth (tups r42) 0)) 1)) 1))),(.sl 1 (elems (nth (flds (nth (flds (nth (tups r42) 0)) 1)) 2)))]),(.agg 1 [(.sl 1 (elems (nth (flds (nth (flds (nth (tups r42) 0)) 2)) 0))),(eI (zC (nth (flds (nth (flds (nth (tups r42) 0)) 2)) 1)))]),(.agg 3 (flds (nth (flds (nth (tups r42) 0)) 3)))])])
 (λr43=>ifO (zF EE 6 62 r43)
 (zH (zB 30 [(.agg 4 [(.agg 0 [(.str (zX (nth (flds (nth (flds r43) 0)) 0))),(eI (zC (nth (flds (nth (flds r43) 0)) 1))),(.sl 3 (elems (nth (flds (nth (flds r43) 0)) 2)))]),(.agg 0 [(.str (zX (nth (flds (nth (flds r43) 1)) 0))),(.sl 1 (elems (nth (flds (nth (flds r43) 1)) 1))),(.sl 1 (elems (nth (flds (nth (flds r43) 1)) 2)))]),(.agg 1 [(.sl 1 (elems (nth (flds (nth (flds r43) 2)) 0))),(eI (zC (nth (flds (nth (flds r43) 2)) 1)))]),(.agg 3 (flds (nth (flds r43) 3)))])])
 (λr44=>ifO ((DV.isTup r44) && (zV (zF EE 6) [3,46] (tups r44)))
 (ifO (!(jm (nth (tups r42) 1)))
 (some (.val (.bool false)))
 (ifO (bne (zC (nth (tups r44) 1)) (0:Int))
 (some (.val (.bool false)))
 (ifO (bne (zC (nth (tups r44) 0)) v4)
 (some (.val (.bool false)))
 (ifO v5
 (zH (zB 34 [(.agg 4 [(.agg 0 [(.str v16),(eI v17),(.sl 3 v18)]),(.agg 0 [(.str v19),(.sl 1 v20),(.sl 1 v21)]),(.agg 1 [(.sl 1 v22),(eI v23)]),(.agg 3 v24)])])
 (λr45=>ifO (zF EE 6 62 r45)
 (zH (zB 30 [(.agg 4 [(.agg 0 [(.str (zX (nth (flds (nth (flds r45) 0)) 0))),(eI (zC (nth (flds (nth (flds r45) 0)) 1))),(.sl 3 (elems (nth (flds (nth (flds r45) 0)) 2)))]),(.agg 0 [(.str (zX (nth (flds (nth (flds r45) 1)) 0))),(.sl 1 (elems (nth (flds (nth (flds r45) 1)) 1))),(.sl 1 (elems (nth (flds (nth (flds r45) 1)) 2)))]),(.agg 1 [(.sl 1 (elems (nth (flds (nth (flds r45) 2)) 0))),(eI (zC (nth (flds (nth (flds r45) 2)) 1)))]),(.agg 3 (flds (nth (flds r45) 3)))])])
 (λr46=>ifO ((DV.isTup r46) && (zV (zF EE 6) [3,46] (tups r46)))
 (ifO (bne (zC (nth (tups r46) 1)) (0:Int))
 (some (.val (.bool false)))
 (ifO (decide ((zC (nth (tups r46) 0))>v4))
 (some (.val (.bool false)))
 ((L7_1027a v0 v1 v2 v4 v8 v9 v10 v11 v12 v13 v14 v15))))
 (none))
 (λ_ _=>none))
 (none))
 (λ_ _=>none))
 ((L7_1027a v0 v1 v2 v4 v8 v9 v10 v11 v12 v13 v14 v15))))))
 (none))
 (λ_ _=>none))
 (none))
 (λ_ _=>none))
 (none))
 (λ_ _=>none)) :=
 (zb 7 0 _).trans (by kernel_rfl)
theorem L7_1027a_eq(v0 v1:Int)(v2:List DV)(v3:Int)(v4:List DV)(v5:Int)(v6:ByteArray)(v7 v8 v9:List DV)(v10:Int)(v11:List DV):L7_1027a v0 v1 v2 v3 v4 v5 v6 v7 v8 v9 v10 v11 =
 ifO (!((((Aa v2):Nat):Int) == (0:Int)))
 (zH (zB 45 [(.agg 6 [(.sl 2 v4),(eI v5),(.agg 0 [(.str v6),(.sl 1 v7),(.sl 1 v8)]),(.agg 1 [(.sl 1 v9),(eI v10)]),(.agg 3 v11)])])
 (λr57=>ifO (zF EE 6 88 r57)
 (zH (zB 56 [(.sl 1 v2)])
 (λr58=>ifO (zF EE 6 25 r58)
 (zH (zB 50 [(.agg 6 [(.sl 2 (elems (nth (flds r57) 0))),(eI (zC (nth (flds r57) 1))),(.agg 0 [(.str (zX (nth (flds (nth (flds r57) 2)) 0))),(.sl 1 (elems (nth (flds (nth (flds r57) 2)) 1))),(.sl 1 (elems (nth (flds (nth (flds r57) 2)) 2)))]),(.agg 1 [(.sl 1 (elems (nth (flds (nth (flds r57) 3)) 0))),(eI (zC (nth (flds (nth (flds r57) 3)) 1)))]),(.agg 3 (flds (nth (flds r57) 4)))]),(.sl 1 [(.sl 1 (elems r58))]),(eI v1)])
 (λr59=>ifO ((DV.isTup r59) && (zV (zF EE 6) [3,46] (tups r59)))
 (zH (zB 45 [(.agg 6 [(.sl 2 v4),(eI v5),(.agg 0 [(.str v6),(.sl 1 v7),(.sl 1 v8)]),(.agg 1 [(.sl 1 v9),(eI v10)]),(.agg 3 v11)])])
 (λr60=>ifO (zF EE 6 88 r60)
 (ifO (decide ((0:Int)<=(Ac .i64 ((1:Int)+(Af v0 (((Aa v2):Nat):Int))))))
 (ifO (decide ((0<=(Ab (Ac .i64 ((1:Int)+(Af v0 (((Aa v2):Nat):Int))))))/\((Ab (Ac .i64 ((1:Int)+(Af v0 (((Aa v2):Nat):Int)))))<=(Aa v2))))
 (zH (zB 56 [(.sl 1 (Aw 0 (Av (Ab (Ac .i64 ((1:Int)+(Af v0 (((Aa v2):Nat):Int))))) v2)))])
 (λr61=>ifO (zF EE 6 25 r61)
 (ifO (decide ((0:Int)<=(Ac .i64 ((1:Int)+(Af v0 (((Aa v2):Nat):Int))))))
 (ifO (decide (((Ab (Ac .i64 ((1:Int)+(Af v0 (((Aa v2):Nat):Int)))))<=(Aa v2))/\((Aa v2)<=(Aa v2))))
 (zH (zB 56 [(.sl 1 (Aw (Ab (Ac .i64 ((1:Int)+(Af v0 (((Aa v2):Nat):Int))))) (Av (Aa v2) v2)))])
 (λr62=>ifO (zF EE 6 25 r62)
 (zH (zB 50 [(.agg 6 [(.sl 2 (elems (nth (flds r60) 0))),(eI (zC (nth (flds r60) 1))),(.agg 0 [(.str (zX (nth (flds (nth (flds r60) 2)) 0))),(.sl 1 (elems (nth (flds (nth (flds r60) 2)) 1))),(.sl 1 (elems (nth (flds (nth (flds r60) 2)) 2)))]),(.agg 1 [(.sl 1 (elems (nth (flds (nth (flds r60) 3)) 0))),(eI (zC (nth (flds (nth (flds r60) 3)) 1)))]),(.agg 3 (flds (nth (flds r60) 4)))]),(.sl 1 [(.sl 1 (elems r61)),(.sl 1 (elems r62))]),(eI v1)])
 (λr63=>ifO ((DV.isTup r63) && (zV (zF EE 6) [3,46] (tups r63)))
 ((L7_1a v1 v3 (zC (nth (tups r59) 0)) (zC (nth (tups r59) 1)) (zC (nth (tups r63) 0)) (zC (nth (tups r63) 1)) v2 (((Aa v2):Nat):Int) v4 v5 v6 v7 v8 v9 v10 v11))
 (none))
 (λ_ _=>none))
 (none))
 (λ_ _=>none))
 (none))
 (none))
 (none))
 (λ_ _=>none))
 (none))
 (none))
 (none))
 (λ_ _=>none))
 (none))
 (λ_ _=>none))
 (none))
 (λ_ _=>none))
 (none))
 (λ_ _=>none))
 (none) :=
 (zb 7 1027 _).trans (by kernel_rfl)
theorem L7_1a_eq(v0 v1 v2 v3 v4 v5:Int)(v6:List DV)(v7:Int)(v8:List DV)(v9:Int)(v10:ByteArray)(v11 v12 v13:List DV)(v14:Int)(v15:List DV):L7_1a v0 v1 v2 v3 v4 v5 v6 v7 v8 v9 v10 v11 v12 v13 v14 v15 =
 ifO (decide ((0:Int)<v7))
 (ifO (decide (((0:Int)<=(0:Int))/\((0:Int)<(((Aa v6):Nat):Int))))
 (ifO (zF EE 6 3 (nth v6 0))
 ((L7_1b v0 v1 v2 v3 v4 v5 [(.sl 1 [(eI (zC (nth v6 0)))])] v6 v7 (1:Int) v8 v9 v10 v11 v12 v13 v14 v15))
 (none))
 (none))
 (zH (zB 45 [(.agg 6 [(.sl 2 v8),(eI v9),(.agg 0 [(.str v10),(.sl 1 v11),(.sl 1 v12)]),(.agg 1 [(.sl 1 v13),(eI v14)]),(.agg 3 v15)])])
 (λr78=>ifO (zF EE 6 88 r78)
 (zH (zB 50 [(.agg 6 [(.sl 2 (elems (nth (flds r78) 0))),(eI (zC (nth (flds r78) 1))),(.agg 0 [(.str (zX (nth (flds (nth (flds r78) 2)) 0))),(.sl 1 (elems (nth (flds (nth (flds r78) 2)) 1))),(.sl 1 (elems (nth (flds (nth (flds r78) 2)) 2)))]),(.agg 1 [(.sl 1 (elems (nth (flds (nth (flds r78) 3)) 0))),(eI (zC (nth (flds (nth (flds r78) 3)) 1)))]),(.agg 3 (flds (nth (flds r78) 4)))]),(.sl 1 []),(eI v0)])
 (λr79=>ifO ((DV.isTup r79) && (zV (zF EE 6) [3,46] (tups r79)))
 (ifO (v3 == (0:Int))
 (ifO (v5 == (0:Int))
 (ifO ((zC (nth (tups r79) 1)) == (0:Int))
 (ifO (v2 == v1)
 (ifO (decide (v4>=v2))
 (some (.val (.bool (decide ((zC (nth (tups r79) 0))>=v4)))))
 (some (.val (.bool false))))
 (some (.val (.bool false))))
 (some (.val (.bool false))))
 (some (.val (.bool false))))
 (some (.val (.bool false))))
 (none))
 (λ_ _=>none))
 (none))
 (λ_ _=>none)) :=
 (zb 7 1 _).trans (by kernel_rfl)
theorem L7_1b_eq(v0 v1 v2 v3 v4 v5:Int)(v6 v7:List DV)(v8 v9:Int)(v10:List DV)(v11:Int)(v12:ByteArray)(v13 v14 v15:List DV)(v16:Int)(v17:List DV):L7_1b v0 v1 v2 v3 v4 v5 v6 v7 v8 v9 v10 v11 v12 v13 v14 v15 v16 v17 =
 ifO (decide (v9<v8))
 (ifO (decide (((0:Int)<=v9)/\(v9<(((Aa v7):Nat):Int))))
 (ifO (zF EE 6 3 (nth v7 (Ab v9)))
 (ifO (decide ((Aa v6)=(Aa v6)))
 (ifO (decide ((((2 * ((Aa v6)+1))+200) * 24)<=281474976710656))
 ((L7_1b v0 v1 v2 v3 v4 v5 (v6++[(.sl 1 [(eI (zC (nth v7 (Ab v9))))])]) v7 v8 (Ac .i64 (v9+(1:Int))) v10 v11 v12 v13 v14 v15 v16 v17))
 (none))
 (none))
 (none))
 (none))
 (zH (zB 45 [(.agg 6 [(.sl 2 v10),(eI v11),(.agg 0 [(.str v12),(.sl 1 v13),(.sl 1 v14)]),(.agg 1 [(.sl 1 v15),(eI v16)]),(.agg 3 v17)])])
 (λr84=>ifO (zF EE 6 88 r84)
 (ifO (decide ((0+(Aa v6))<=(Aa v6)))
 (zH (zB 50 [(.agg 6 [(.sl 2 (elems (nth (flds r84) 0))),(eI (zC (nth (flds r84) 1))),(.agg 0 [(.str (zX (nth (flds (nth (flds r84) 2)) 0))),(.sl 1 (elems (nth (flds (nth (flds r84) 2)) 1))),(.sl 1 (elems (nth (flds (nth (flds r84) 2)) 2)))]),(.agg 1 [(.sl 1 (elems (nth (flds (nth (flds r84) 3)) 0))),(eI (zC (nth (flds (nth (flds r84) 3)) 1)))]),(.agg 3 (flds (nth (flds r84) 4)))]),(.sl 1 (Bt (cnE EE 25) (Av (Aa v6) (Aw 0 v6)))),(eI v0)])
 (λr85=>ifO ((DV.isTup r85) && (zV (zF EE 6) [3,46] (tups r85)))
 (ifO (v3 == (0:Int))
 (ifO (v5 == (0:Int))
 (ifO ((zC (nth (tups r85) 1)) == (0:Int))
 (ifO (v2 == v1)
 (ifO (decide (v4>=v2))
 (some (.val (.bool (decide ((zC (nth (tups r85) 0))>=v4)))))
 (some (.val (.bool false))))
 (some (.val (.bool false))))
 (some (.val (.bool false))))
 (some (.val (.bool false))))
 (some (.val (.bool false))))
 (none))
 (λ_ _=>none))
 (none))
 (none))
 (λ_ _=>none)) :=
 (zb 7 1 _).trans (by kernel_rfl)
theorem C7(x0 x1 x2:DV):zB 7 [x0,x1,x2] =
 ifO (zV (zF EE 6) [83,5,3] [x0,x1,x2])
 (zH (zB 33 [])
 (λr0=>ifO (zF EE 6 4 r0)
 (ifO (!(jm r0))
 (zH (zB 33 [])
 (λr1=>ifO (zF EE 6 4 r1)
 (some (.val (.bool (jm r1))))
 (none))
 (λ_ _=>none))
 (zH (zB 43 [(.agg 6 [(.sl 2 (elems (nth (flds x0) 0))),(eI (zC (nth (flds x0) 1))),(.agg 0 [(.str (zX (nth (flds (nth (flds x0) 2)) 0))),(.sl 1 (elems (nth (flds (nth (flds x0) 2)) 1))),(.sl 1 (elems (nth (flds (nth (flds x0) 2)) 2)))]),(.agg 1 [(.sl 1 (elems (nth (flds (nth (flds x0) 3)) 0))),(eI (zC (nth (flds (nth (flds x0) 3)) 1)))]),(.agg 3 (flds (nth (flds x0) 4)))]),(eI 5)])
 (λr4=>ifO (zF EE 6 4 r4)
 (ifO (!(jm r4))
 (zH (zB 33 [])
 (λr5=>ifO (zF EE 6 4 r5)
 (some (.val (.bool (jm r5))))
 (none))
 (λ_ _=>none))
 (ifO (decide ((((Aa (elems (nth (flds x0) 0))):Nat):Int)>(5:Int)))
 (zH (zB 33 [])
 (λr8=>ifO (zF EE 6 4 r8)
 (some (.val (.bool (jm r8))))
 (none))
 (λ_ _=>none))
 (zH (zB 46 [(.agg 6 [(.sl 2 (elems (nth (flds x0) 0))),(eI (zC (nth (flds x0) 1))),(.agg 0 [(.str (zX (nth (flds (nth (flds x0) 2)) 0))),(.sl 1 (elems (nth (flds (nth (flds x0) 2)) 1))),(.sl 1 (elems (nth (flds (nth (flds x0) 2)) 2)))]),(.agg 1 [(.sl 1 (elems (nth (flds (nth (flds x0) 3)) 0))),(eI (zC (nth (flds (nth (flds x0) 3)) 1)))]),(.agg 3 (flds (nth (flds x0) 4)))])])
 (λr11=>ifO (zF EE 6 3 r11)
 (ifO (bne (zC r11) 0)
 (zH (zB 33 [])
 (λr12=>ifO (zF EE 6 4 r12)
 (some (.val (.bool (jm r12))))
 (none))
 (λ_ _=>none))
 (ifO ((((Aa (elems (nth (flds x0) 0))):Nat):Int) == (0:Int))
 (zH (zB 33 [])
 (λr15=>ifO (zF EE 6 4 r15)
 (some (.val (.bool (jm r15))))
 (none))
 (λ_ _=>none))
 (ifO (decide ((zC x2)<(1:Int)))
 (zH (zB 33 [])
 (λr18=>ifO (zF EE 6 4 r18)
 (some (.val (.bool (jm r18))))
 (none))
 (λ_ _=>none))
 (ifO (decide ((zC x2)>(2147483646:Int)))
 (zH (zB 33 [])
 (λr21=>ifO (zF EE 6 4 r21)
 (some (.val (.bool (jm r21))))
 (none))
 (λ_ _=>none))
 (ifO (!((Ac .i64 ((((Aa (elems (nth (flds x0) 0))):Nat):Int)+(1:Int))) == (0:Int)))
 (zH (zB 54 [(eI (zC x2)),(eI (((Aa (elems (nth (flds x0) 0))):Nat):Int))])
 (λr24=>ifO (zF EE 6 25 r24)
 (zH (zB 45 [(.agg 6 [(.sl 2 (elems (nth (flds x0) 0))),(eI (zC (nth (flds x0) 1))),(.agg 0 [(.str (zX (nth (flds (nth (flds x0) 2)) 0))),(.sl 1 (elems (nth (flds (nth (flds x0) 2)) 1))),(.sl 1 (elems (nth (flds (nth (flds x0) 2)) 2)))]),(.agg 1 [(.sl 1 (elems (nth (flds (nth (flds x0) 3)) 0))),(eI (zC (nth (flds (nth (flds x0) 3)) 1)))]),(.agg 3 (flds (nth (flds x0) 4)))])])
 (λr25=>ifO (zF EE 6 88 r25)
 (zH (zB 44 [(.agg 6 [(.sl 2 (elems (nth (flds r25) 0))),(eI (zC (nth (flds r25) 1))),(.agg 0 [(.str (zX (nth (flds (nth (flds r25) 2)) 0))),(.sl 1 (elems (nth (flds (nth (flds r25) 2)) 1))),(.sl 1 (elems (nth (flds (nth (flds r25) 2)) 2)))]),(.agg 1 [(.sl 1 (elems (nth (flds (nth (flds r25) 3)) 0))),(eI (zC (nth (flds (nth (flds r25) 3)) 1)))]),(.agg 3 (flds (nth (flds r25) 4)))]),(eI (Af (Ac .i64 (zC x1)) (Ac .i64 ((((Aa (elems (nth (flds x0) 0))):Nat):Int)+(1:Int)))))])
 (λr26=>ifO ((DV.isTup r26) && (zV (zF EE 6) [25,3,46] (tups r26)))
 (ifO (decide ((0:Int)<=(Af (Ac .i64 (zC x1)) (Ac .i64 ((((Aa (elems (nth (flds x0) 0))):Nat):Int)+(1:Int))))))
 (ifO (decide ((0<=(Ab (Af (Ac .i64 (zC x1)) (Ac .i64 ((((Aa (elems (nth (flds x0) 0))):Nat):Int)+(1:Int))))))/\((Ab (Af (Ac .i64 (zC x1)) (Ac .i64 ((((Aa (elems (nth (flds x0) 0))):Nat):Int)+(1:Int)))))<=(Aa (elems r24)))))
 (zH (zB 55 [(.agg 6 [(.sl 2 (elems (nth (flds x0) 0))),(eI (zC (nth (flds x0) 1))),(.agg 0 [(.str (zX (nth (flds (nth (flds x0) 2)) 0))),(.sl 1 (elems (nth (flds (nth (flds x0) 2)) 1))),(.sl 1 (elems (nth (flds (nth (flds x0) 2)) 2)))]),(.agg 1 [(.sl 1 (elems (nth (flds (nth (flds x0) 3)) 0))),(eI (zC (nth (flds (nth (flds x0) 3)) 1)))]),(.agg 3 (flds (nth (flds x0) 4)))]),(.sl 1 (Aw 0 (Av (Ab (Af (Ac .i64 (zC x1)) (Ac .i64 ((((Aa (elems (nth (flds x0) 0))):Nat):Int)+(1:Int))))) (elems r24))))])
 (λr27=>ifO ((DV.isTup r27) && (zV (zF EE 6) [34,4] (tups r27)))
 (ifO (bne (zC (nth (tups r26) 2)) (0:Int))
 (ifO ((zC (nth (tups r26) 2)) == (24:Int))
 (some (.val (.bool (!(jm (nth (tups r27) 1))))))
 (some (.val (.bool false))))
 (ifO (bne (((Aa (elems (nth (tups r26) 0))):Nat):Int) (Af (Ac .i64 (zC x1)) (Ac .i64 ((((Aa (elems (nth (flds x0) 0))):Nat):Int)+(1:Int)))))
 (some (.val (.bool false)))
 ((L7_0a (zC x2) (Af (Ac .i64 (zC x1)) (Ac .i64 ((((Aa (elems (nth (flds x0) 0))):Nat):Int)+(1:Int)))) (elems r24) (elems (nth (tups r26) 0)) (zC (nth (tups r26) 1)) (jm (nth (tups r27) 1)) (((Aa (elems (nth (tups r26) 0))):Nat):Int) (0:Int) (elems (nth (flds x0) 0)) (zC (nth (flds x0) 1)) (zX (nth (flds (nth (flds x0) 2)) 0)) (elems (nth (flds (nth (flds x0) 2)) 1)) (elems (nth (flds (nth (flds x0) 2)) 2)) (elems (nth (flds (nth (flds x0) 3)) 0)) (zC (nth (flds (nth (flds x0) 3)) 1)) (flds (nth (flds x0) 4)) (zX (nth (flds (nth (flds (nth (tups r27) 0)) 0)) 0)) (zC (nth (flds (nth (flds (nth (tups r27) 0)) 0)) 1)) (elems (nth (flds (nth (flds (nth (tups r27) 0)) 0)) 2)) (zX (nth (flds (nth (flds (nth (tups r27) 0)) 1)) 0)) (elems (nth (flds (nth (flds (nth (tups r27) 0)) 1)) 1)) (elems (nth (flds (nth (flds (nth (tups r27) 0)) 1)) 2)) (elems (nth (flds (nth (flds (nth (tups r27) 0)) 2)) 0)) (zC (nth (flds (nth (flds (nth (tups r27) 0)) 2)) 1)) (flds (nth (flds (nth (tups r27) 0)) 3))))))
 (none))
 (λ_ _=>none))
 (none))
 (none))
 (none))
 (λ_ _=>none))
 (none))
 (λ_ _=>none))
 (none))
 (λ_ _=>none))
 (none))))))
 (none))
 (λ_ _=>none))))
 (none))
 (λ_ _=>none)))
 (none))
 (λ_ _=>none))
 (none) :=
 (zM (f:=7) (by kernel_rfl) (by kernel_rfl) (by kernel_rfl) [x0,x1,x2]).trans (by kernel_rfl)
end Go.Am
namespace Go.Am
open Go.Proofs
open Go
variable[OO]
theorem l54_0(N:Nat)(hN:N<=100)(key:Int)(z:List DV)(hz:z.length=N):∀k,k<=N->L54_0a key N z k ((Aj k).map eN++Ao (N - k) (eI 0))=L54_1a z key ((N:Int) - 1) ((Aj N).map eN):=by
 apply down
 ·rw[L54_0a_eq];simp only[AJ,decide_false,zU,Nat.sub_self,List.replicate_zero,Bi];rw[wr ((N:Int) - 1) (by omega)]
 ·intro k hk ih;have e1:(k:Int)<N:=by omega
  have e0:(0:Int)<=(k:Int):=by omega
  rw[<-ih,L54_0a_eq];simp only[e1,e0,hz,and_self,decide_true,zD,AO,Ae,AT,Ad,AC,Bq,show k<k+(N - k) by omega]
  rw[wr ((k:Int)+1) (by omega)]
  have e:((Aj k).map eN++Ao (N - k) (eI 0)).set k (eI k)=(Aj (k+1)).map eN++Ao (N - (k+1)) (eI 0):=by
   rw[show N - k=(N - (k+1))+1 by omega,List.replicate_succ,List.set_append,if_neg (by simp),List.range_succ,Ah]
   simp
  rw[e];rfl
theorem l54_1(N:Nat)(hN:N<=100)(z:List DV)(hz:z.length=N):∀(i:Nat),i<N->∀x:Int,0<=x->x<=2147483646->∀l:List Nat,l.Perm (Aj N) ->
  ∃o:List Nat,o.Perm (Aj N)/\L54_1a z x i (l.map eN)=some (.val (.sl 1 (o.map eN)))
 | 0,_,x,h0,h1,l,hp=>by
  have hl:=hp.length_eq;rw[AC] at hl;refine⟨l,hp,?_⟩;rw[L54_1a_eq];simp only[show ¬(((0:Nat):Int)>0) by omega,decide_false,zU,hz,Ad,hl,AO,AE,decide_true,zD,An]
  rw[Aq (by simp[hl])]
 | i+1,hi,x,h0,h1,l,hp=>by
  have hl:=hp.length_eq;rw[AC] at hl;have w1:Ar.wrap (950706376 * x)=950706376 * x:=wr _ (by omega)
  have w2:Ar.wrap (((i+1:Nat):Int)+1)=((i+2:Nat):Int):=by rw[wr _ (by omega)];omega
  have hx1:0<=Af (950706376 * x) 2147483647:=A4 _ (by omega)
  have hx2:Af (950706376 * x) 2147483647<2147483647:=AU _ (by omega)
  generalize hX:Af (950706376 * x) 2147483647=X at hx1 hx2;have hk1:0<=Af X ((i+2:Nat):Int):=A4 _ hx1;have hk2:Af X ((i+2:Nat):Int)<((i+2:Nat):Int):=AU _ (by omega)
  obtain⟨k,hk⟩:∃k:Nat,Af X ((i+2:Nat):Int)=k:=⟨(Af X ((i+2:Nat):Int)).toNat,by omega⟩
  rw[hk] at hk1 hk2;have kl:k<l.length:=by omega
  have il:i+1<l.length:=by omega
  have m1:(((i+1:Nat):Int)>0):=by omega
  have m2:(((i+2:Nat):Int) == 0)=false:=beq_n (by omega)
  have m3:(k:Int)<N:=by omega
  have m4:((i+1:Nat):Int)<N:=by omega
  have m5:(0:Int)<=((i+1:Nat):Int):=by omega
  have kn:k<N:=by omega
  have jn:i+1<N:=by omega
  have w3:Ar.wrap (((i+1:Nat):Int) - 1)=(i:Int):=by rw[wr _ (by omega)];omega
  obtain⟨o,o1,o2⟩:=l54_1 N hN z hz i (by omega) X hx1 (by omega) ((l.set (i+1) l[k]).set k l[i+1]) ((List.set_set_perm il kl).trans hp)
  refine⟨o,o1,?_⟩;rw[<-o2,L54_1a_eq,w1,hX,w2,hk];simp only[m1,m2,m3,m4,m5,hk1,hz,hl,kn,jn,AN,and_self,decide_true,zD,AO,Ae,Ad,List.length_set,zO _ l k kl,zO _ l (i+1) il,h3,zI,w3];have e:((l.map eN).set (i+1) (eI (l[k]:Nat))).set k (eI (l[i+1]:Nat))=((l.set (i+1) l[k]).set k l[i+1]).map eN:=by rw[BI,BI]
  rw[e]
theorem c54(key:Int)(hk:1<=key/\key<=2147483646)(N:Nat)(h0:0<N)(hN:N<=100):∃o:List Nat,o.Perm (Aj N)/\zB 54 [eI key,eI N]=some (.val (.sl 1 (o.map eN))):=by
 have hz:(Ao N (DV.int .i64 0)).length=N:=Bq;obtain⟨o,o1,o2⟩:=l54_1 N hN (Ao N (.int .i64 0)) hz (N - 1) (by omega) key (by omega) hk.2 (Aj N) (List.Perm.refl _)
 refine⟨o,o1,?_⟩;have e:=l54_0 N hN key (Ao N (.int .i64 0)) hz 0 (Al _);rw[show((N:Int) - 1)=((N - 1:Nat):Int) by omega,o2] at e
 rw[C54];simp only[zK,zN,h3,Ag,zD,zI,Ae];refine(ifO_decT ⟨by omega,by trivial,by omega,by omega⟩ _ _).trans ?_
 exact e
theorem c56n(l:List Nat)(hl:l.length<=1000000):zB 56 [.sl 1 (l.map eN)]=some (.val (.sl 1 (l.map eN))):=by rw[zHv];exact c56 _ (by simpa using hl)
theorem gs1(l:List Nat):eGs [l.map (Ak:Nat->Int)]=.sl 1 [.sl 1 (l.map eN)]:=by rw[zHv];rfl
theorem gs2(a b:List Nat):eGs [a.map (Ak:Nat->Int),b.map (Ak:Nat->Int)]=.sl 1 [.sl 1 (a.map eN),.sl 1 (b.map eN)]:=by rw[zHv,zHv];rfl
def at7(key:Int)(n:Nat):Nat:=(1+Af key n).toNat
section
variable(p:Pn)(hr:zu p.r)(l1:p.ps.length<=5)(l2:p.w.d.length<=33)(l3:p.w.w.length<=33)(l4:p.c.p.length<=52)(key:Int)(hk:1<=key)(k:Nat)(o:List Nat)(ho:o.length=p.ps.length)(h0:0<o.length)(e y z:Int)
include hr l1 l2 l3 l4 ho h0
theorem end7(e50:zB 50 [ePn p,eGs (o.map λi:Nat=>[(i:Int)]),eI k]=some (.val (.tup [eI z,eI 0])))(hey:e<=y)(hyz:y<=z):∀j,j<=o.length->1<=j ->
  L7_1b k e e 0 y 0 ((o.take j).map λi=>.sl 1 [eN i]) (o.map eN) o.length j (p.ps.map ePt) p.least p.w.rule (p.w.d.map eI) (p.w.w.map eI) (p.c.p.map eI) p.c.cut (p.r.map jC)=some (.val (.bool true)):=by
 have e45:=c45 p hr (by omega) (by omega) (by omega) (by omega)
 apply down (P:=λj=>1<=j->L7_1b k e e 0 y 0 ((o.take j).map λi=>.sl 1 [eN i]) (o.map eN) o.length j (p.ps.map ePt) p.least p.w.rule (p.w.d.map eI) (p.w.w.map eI) (p.c.p.map eI) p.c.cut (p.r.map jC)=some (.val (.bool true)))
 ·intro _;rw[L7_1b_eq];have e1:Bt (cnE EE 25) (Av (Aa ((o.take o.length).map λi=>DV.sl 1 [eN i])) (Aw 0 ((o.take o.length).map λi=>DV.sl 1 [eN i])))=(o.map λi:Nat=>[(i:Int)]).map λg=>DV.sl 1 (g.map eI):=by
   rw[BA,An,Aq (AE _)];have:(o.map λi=>DV.sl 1 [eN i])=(o.map λi:Nat=>[(i:Int)]).map λg=>DV.sl 1 (g.map eI):=by rw[AA];rfl
   rw[this];exact zIU _
  rw[e1];unfold eGs at e50;simp only[AJ,decide_false,zU,e45,zJ,hPn p hr,zD,AO,AE,decide_true,zQ,zS,zW,zh,zi,je,zZ,zI,zR,e50,z1,z8,zK,zN,h3,h46,Ag,beq_self_eq_true];rw[decide_eq_true (show y>=e from hey),zD]
  exact congrArg (λb=>some (CR.val (DV.bool b))) (decide_eq_true hyz)
 ·intro j hj ih h1;have e1:(j:Int)<o.length:=by omega
  have e0:(0:Int)<=(j:Int):=by omega
  have e2:(2 * (j+1)+200) * 24<=281474976710656:=by omega
  have hm:min j o.length=j:=by omega
  rw[L7_1b_eq];simp only[Ad,AF,hm,e1,e0,e2,and_self,decide_true,zD,Ae,zO _ o j hj,h3,zI];rw[wr ((j:Int)+1) (by omega)]
  have:=ih (by omega)
  rw[Ai hj,Ah] at this;exact this
theorem last7(e50:zB 50 [ePn p,eGs (o.map λi:Nat=>[(i:Int)]),eI k]=some (.val (.tup [eI z,eI 0])))(hey:e<=y)(hyz:y<=z) :
  L7_1a k e e 0 y 0 (o.map eN) o.length (p.ps.map ePt) p.least p.w.rule (p.w.d.map eI) (p.w.w.map eI) (p.c.p.map eI) p.c.cut (p.r.map jC)=some (.val (.bool true)):=by
 have h:=end7 p hr l1 l2 l3 l4 k o ho h0 e y z e50 hey hyz 1 (by omega) (AE 1)
 rw[tk1 o h0] at h;have e1:(0:Int)<o.length:=by omega
 rw[L7_1a_eq];simp only[Ad,e1,AK,and_self,decide_true,zD,zO _ o 0 h0,h3,zI];exact h
theorem mid7(e1:zB 50 [ePn p,eGs [o.map (Ak:Nat->Int)],eI k]=some (.val (.tup [eI e,eI 0])))
  (e2:zB 50 [ePn p,eGs [(o.take (at7 key o.length)).map (Ak:Nat->Int),(o.drop (at7 key o.length)).map (Ak:Nat->Int)],eI k]=some (.val (.tup [eI y,eI 0])))
  (e50:zB 50 [ePn p,eGs (o.map λi:Nat=>[(i:Int)]),eI k]=some (.val (.tup [eI z,eI 0]))) (hk:1<=key) (hey:e<=y) (hyz:y<=z) :
  L7_1027a key k (o.map eN) e (p.ps.map ePt) p.least p.w.rule (p.w.d.map eI) (p.w.w.map eI) (p.c.p.map eI) p.c.cut (p.r.map jC)=some (.val (.bool true)):=by
 have e45:=c45 p hr (by omega) (by omega) (by omega) (by omega)
 have t1:0<=Af key (o.length:Nat):=A4 _ (by omega)
 have t2:Af key (o.length:Nat)<(o.length:Nat):=AU _ (by omega)
 have w:Ar.wrap (1+Af key (o.length:Nat))=((at7 key o.length:Nat):Int):=by
  rw[wr _ (by omega)]
  unfold at7;omega
 have ha:at7 key o.length<=o.length:=by unfold at7;omega
 generalize at7 key o.length=m at w ha e2;have hb:(((o.length:Nat):Int) == 0)=false:=beq_n (by omega)
 have hz1:(0:Int)<=(m:Int):=by omega
 rw[gs1] at e1;rw[gs2] at e2;have c0:=c56n o (by omega)
 have ca:=c56n (o.take m) (by rw[AF];omega)
 have cb:=c56n (o.drop m) (by rw[BB];omega)
 have h:=last7 p hr l1 l2 l3 l4 k o ho h0 e y z e50 hey hyz;have u1:Aw 0 (Av m (o.map eN))=(o.take m).map eN:=by rw[An,BG]
 have u2:Aw m (Av o.length (o.map eN))=(o.drop m).map eN:=by rw[Aq (by simp),List.map_drop]
 rw[L7_1027a_eq];simp only[Ad];rw[hb,AN,zD,w];simp only[Ae,u1,u2,hz1,ha,Al,AE,and_self,decide_true,zD,e45,zJ,hPn p hr,c0,ca,cb,h25,zQ,zS,zW,zh,zi,je,zZ,zI,zR,e1,e2,z1,z8,zK,zN,h3,h46,Ag];exact h
end
section
variable[KnW](p:Pn)(hr:zu p.r)(key:Int)(k:Nat)(o:List Nat)(e:Int)
theorem tail7(c:List Nat)(f f':Fm)(hF:zu f.r)(hF':zu f'.r)(a1:f.s.tb.length<=100000)(a2:f.w.d.length<=100000)(a3:f.w.w.length<=100000)(a4:f.c.p.length<=100000)
  (b1:f'.s.tb.length<=100000) (b2:f'.w.d.length<=100000) (b3:f'.w.w.length<=100000) (b4:f'.c.p.length<=100000) (e55:zB 55 [ePn p,.sl 1 (c.map eN)]=some (.val (.tup [eFm f,.bool true])))
  (e0:YO f=0) (e1:enF f 0=e) (b:Bool) (hb:b=true->YO f'=0/\enF f' 0<=e)
  (h:L7_1027a key k (o.map eN) e (p.ps.map ePt) p.least p.w.rule (p.w.d.map eI) (p.w.w.map eI) (p.c.p.map eI) p.c.cut (p.r.map jC)=some (.val (.bool true))) :
  L7_0a key k (o.map eN) (c.map eN) e b c.length c.length (p.ps.map ePt) p.least p.w.rule (p.w.d.map eI) (p.w.w.map eI) (p.c.p.map eI) p.c.cut (p.r.map jC) f'.s.name f'.s.least (f'.s.tb.map eTb) f'.w.rule (f'.w.d.map eI) (f'.w.w.map eI) (f'.c.p.map eI) f'.c.cut (f'.r.map jC)=some (.val (.bool true)):=by
 have e34:=c34 f hF a1 a2 a3 a4;have e30:=c30 f hF;rw[e0,e1] at e30;rw[L7_0a_eq];simp only[AJ,decide_false,zU,e55,zJ,z1,z8,zK,zN,hFm' f hF,hFm f hF,h4,Ag,zD,zS,zW,zh,zi,zQ,zZ,zI,zR,e34,e30,h3,h46,zp,Ba,bne_self_eq_false];cases b with
 | false=>rw[zU];exact h
 | true =>
  obtain⟨k1,k2⟩:=hb rfl;have f34:=c34 f' hF' b1 b2 b3 b4;have f30:=c30 f' hF';rw[k1] at f30;simp only[zD,f34,zJ,hFm f' hF',f30,z1,z8,zK,zN,h3,h46,Ag,zS,zW,zh,zi,zQ,zZ,zI,zR,bne_self_eq_false,zU];exact(ifO_decF (by omega) _ _).trans h
theorem l7_0(c:List Nat)(hc:c.Pairwise (·<·))(hi:∀i∈c,i<p.ps.length)(hl:c.length<=1000)(b:Bool)(f':Fm)
  (h:L7_0a key k (o.map eN) (c.map eN) e b c.length c.length (p.ps.map ePt) p.least p.w.rule (p.w.d.map eI) (p.w.w.map eI) (p.c.p.map eI) p.c.cut (p.r.map jC) f'.s.name f'.s.least (f'.s.tb.map eTb) f'.w.rule (f'.w.d.map eI) (f'.w.w.map eI) (f'.c.p.map eI) f'.c.cut (f'.r.map jC)=some (.val (.bool true))) :
  ∀i,i<=c.length->L7_0a key k (o.map eN) (c.map eN) e b c.length i (p.ps.map ePt) p.least p.w.rule (p.w.d.map eI) (p.w.w.map eI) (p.c.p.map eI) p.c.cut (p.r.map jC) f'.s.name f'.s.least (f'.s.tb.map eTb) f'.w.rule (f'.w.d.map eI) (f'.w.w.map eI) (f'.c.p.map eI) f'.c.cut (f'.r.map jC)=some (.val (.bool true)):=by
 apply down
 ·exact h
 ·intro i hi' ih;have e1:(i:Int)<c.length:=by omega
  have e0:(0:Int)<=(i:Int):=by omega
  have hci:=hi _ (Ay hi');have n1:¬((c[i]:Nat):Int)<0:=by omega
  have n2:¬((c[i]:Nat):Int)>=(p.ps.length:Nat):=by omega
  have ih':∀X:Option CR,X=L7_0a key k (o.map eN) (c.map eN) e b c.length ((i+1:Nat):Int) (p.ps.map ePt) p.least p.w.rule (p.w.d.map eI) (p.w.w.map eI) (p.c.p.map eI) p.c.cut (p.r.map jC) f'.s.name f'.s.least (f'.s.tb.map eTb) f'.w.rule (f'.w.d.map eI) (f'.w.w.map eI) (f'.c.p.map eI) f'.c.cut (f'.r.map jC)->X=some (.val (.bool true)):=λX hX=>hX.trans ih
  have w1:Ar.wrap ((i:Int)+1)=((i+1:Nat):Int):=by rw[wr _ (by omega)];rfl
  rw[L7_0a_eq];simp only[Ad,e1,e0,and_self,decide_true,zD,Ae,zO _ c i hi',h3,zI,n1,n2,decide_false,zU,w1];by_cases hp:(i:Int)>0
  ·refine(ifO_decT hp _ _).trans ?_;have w2:Ar.wrap ((i:Int) - 1)=((i - 1:Nat):Int):=by rw[wr _ (by omega)];omega
   have hj:i - 1<c.length:=by omega
   have f1:((i - 1:Nat):Int)<c.length:=by omega
   have f0:(0:Int)<=((i - 1:Nat):Int):=by omega
   have hlt:=List.pairwise_iff_getElem.1 hc (i - 1) i hj hi' (by omega)
   rw[w2];simp only[f1,f0,and_self,decide_true,zD,Ae,zO _ c (i - 1) hj,h3,zI];exact(ifO_decF (by omega) _ _).trans (ih' _ rfl)
  ·exact(ifO_decF hp _ _).trans (ih' _ rfl)
end
theorem ch_farm{p:Pn}(hf:zJi p=0)(hr:zu p.r){l:List Nat}(hl:l.length<=64)(hok:okC p l=true):YO ⟨Ja p l,p.w,p.c,p.r⟩=0/\enF ⟨Ja p l,p.w,p.c,p.r⟩ 0=enP p l:=by
 have h:=zH3 hf hr;have hs:jM (Ja p l)=0:=(chosen_0 p h.least l hl).trans (beq_iff_eq.1 hok);have h8:=h.l;obtain⟨h1,_⟩:=jE hf;unfold zAU at h1;rw[if_neg (by omega),if_pos h.go] at h1
 obtain⟨_,b,c,d⟩:=zF3 h1;have hF:YO ⟨Ja p l,p.w,p.c,p.r⟩=0:=by show zT [jM (Ja p l),wakeE p.w,YK p.c,qj p.r]=0;rw[hs,b,c,d];rfl
 refine⟨hF,?_⟩;unfold enF;rw[if_pos hF];show jl p.w p.c p.r (zo (Ja p l)) 0=_;rw[zAm];rfl
theorem ch_55[KnX]{p:Pn}(hf:zJi p=0)(hr:zu p.r)(l:List Nat)(hl:l.length<=64)(hi:∀i∈l,i<p.ps.length):zB 55 [ePn p,.sl 1 (l.map eN)]=some (.val (.tup [eFm ⟨Ja p l,p.w,p.c,p.r⟩,.bool (okC p l)])):=by
 have h:=zH3 hf hr;have e:=c55 p hr (by have:=h.l;omega) l hl hi
 unfold choR at e;rw[chosen_0 p h.least l hl] at e;exact e
set_option maxHeartbeats 8000000 in
theorem law7[KnW][KnS][KnX][KnF](p:Pn)(hr:zu p.r)(n:Nat)(hn:n<=255)(key:Int)(haw:zB 33 []=some (.val (.bool true))):zB 7 [ePn p,.int .u8 n,eI key]=some (.val (.bool true)):=by
 rw[C7];simp only[haw,zJ,zK,zN,hPn' p hr,h3,h4,h5,Ag,zD,zp,Ba,zU,zQ,zS,zW,zh,zi,je,zZ,zI,zR,Ad];rw[c43 p hr 5];cases hS:zGD p 5 with
 | false=>simp only[zJ,h4,zD,zp,AN]
 | true =>
  obtain⟨_,l2,l3,l4⟩:=shortP_len hS;simp only[zJ,h4,zD,zp,Ba,zU];by_cases l5:(p.ps.length:Int)>5
  ·exact ifO_decT l5 _ _
  refine(ifO_decF l5 _ _).trans ?_;simp only[c46 p hr,zJ,h3,zD,zI];by_cases hP:zAU p=0
  case neg=>rw[show bne (zAU p) 0=true by simpa[bne] using hP,zD]
  rw[hP,bne_self_eq_false,zU];by_cases hz:p.ps.length=0
  ·rw[hz];rfl
  rw[show(((p.ps.length:Nat):Int) == 0)=false from beq_n (by omega),zU]
  by_cases k1:key<1
  ·exact ifO_decT k1 _ _
  refine(ifO_decF k1 _ _).trans ?_;by_cases k2:key>2147483646
  ·exact ifO_decT k2 _ _
  refine(ifO_decF k2 _ _).trans ?_;have hf:zJi p=0:=by
   unfold zJi;rw[hP,if_neg (by omega)]
   rfl
  have h:=zH3 hf hr;have w1:Ar.wrap (((p.ps.length:Nat):Int)+1)=((p.ps.length+1:Nat):Int):=by rw[wr _ (by omega)];rfl
  have w2:Ar.wrap ((n:Nat):Int)=(n:Int):=wr _ (by omega)
  have t1:0<=Af (n:Int) ((p.ps.length+1:Nat):Int):=A4 _ (by omega)
  have t2:Af (n:Int) ((p.ps.length+1:Nat):Int)<((p.ps.length+1:Nat):Int):=AU _ (by omega)
  obtain⟨k,hk⟩:∃k:Nat,Af (n:Int) ((p.ps.length+1:Nat):Int)=k:=⟨(Af (n:Int) ((p.ps.length+1:Nat):Int)).toNat,by omega⟩
  rw[hk] at t1 t2;rw[w1,w2,hk,show(((p.ps.length+1:Nat):Int) == 0)=false from beq_n (by omega),AN,zD]
  obtain⟨o,ho,e54⟩:=c54 key (by omega) p.ps.length (by omega) (by omega)
  have hol:=ho.length_eq;rw[AC] at hol;have hoi:∀i∈o,i<p.ps.length:=λi hi=>Ax.1 (ho.mem_iff.1 hi)
  have e45:=c45 p hr (by omega) (by omega) (by omega) (by omega)
  have e44:=c44 p hr (k:Int);have hbe:zCe p k=0:=by
   unfold zCe;rw[hf,jW.2 (by omega)]
   rfl
  have hsame:=best_same p h.l h.v.p (Aj p.ps.length) Bf (λi hi=>Ax.1 hi) k
  have hF:QX p k=match J7 (enP p) (okC p) (Aj p.ps.length) [] k with | none=>([],0,24) | some (c,e)=>(c,e,0):=by unfold QX;rw[if_pos hbe,Ae,hsame];cases j7 (enP p) (jP p) (Aj p.ps.length) [] k <;> rfl
  rw[hF] at e44;have hkl:(o.take k).length=k:=by rw[AF];omega
  have e55:=ch_55 hf hr (o.take k) (by omega) (λi hi=>hoi i (Bs hi))
  have hch:=ch_farm (l:=o.take k) hf hr (by omega)
  have b1:(Ja p (o.take k)).tb.length<=100000:=by show((o.take k).map (tbT p)).length<=100000;rw[Ad];omega
  obtain⟨f',hf'⟩:∃f':Fm,f'=⟨Ja p (o.take k),p.w,p.c,p.r⟩:=⟨_,rfl⟩;rw[<-hf'] at e55 hch;have hFr:zu f'.r:=by rw[hf'];exact hr
  have c1:f'.s.tb.length<=100000:=by rw[hf'];exact b1
  have c2:f'.w.d.length<=100000:=by rw[hf'];show p.w.d.length<=100000;omega
  have c3:f'.w.w.length<=100000:=by rw[hf'];show p.w.w.length<=100000;omega
  have c4:f'.c.p.length<=100000:=by rw[hf'];show p.c.p.length<=100000;omega
  have hz1:(0:Int)<=(k:Int):=by omega
  have u1:Aw 0 (Av k (o.map eN))=(o.take k).map eN:=by rw[An,BG]
  obtain⟨q1,q2⟩:=choices hf hr ho (k:=k) (by omega) (at7 key o.length)
  simp only[e54,zJ,h25,zD,e45,hPn p hr,zQ,zS,zW,zh,zi,je,zZ,zI,zR,e44];cases hX:J7 (enP p) (okC p) (Aj p.ps.length) [] k with
  | none =>
   rw[q1 hX] at e55;simp only[z1,z8,zK,zN,h25,h3,h46,Ag,zD,hz1,decide_true,Ae,Al,Ad,show k<=o.length by omega,and_self,u1,e55,zJ,hFm' f' hFr,h4,zS,zW,zh,zI,zp,show bne (24:Int) 0=true from rfl,beq_self_eq_true,AN]
  | some x =>
   obtain⟨c,e⟩:=x;obtain⟨r1,r2,y,z,r3,r4,r5,r6⟩:=q2 c e hX;obtain⟨s,s1,s2,s3,s4⟩:=zAt (enP p) _ _ _ _ hX;rw[Ap] at s3 s4;injection s3 with s3 s5
   subst s3;have hci:∀i∈c,i<p.ps.length:=λi hi=>Ax.1 (s1.subset hi)
   have hcp:c.Pairwise (·<·):=Bn.sublist s1;have g55:=ch_55 hf hr c (by omega) hci
   obtain⟨g0,g1⟩:=ch_farm (l:=c) hf hr (by omega) s4
   rw[s4] at g55;have bd:=λgs (hgl:gs.length<=30) (hgg:∀g∈gs,g.length<=1000)=>KnF.bound p gs (k:Int) hr hgl hgg
   have d1:=bd [o.map (Ak:Nat->Int)] (by simp) (λg hg=>by rw[Au] at hg;subst hg;rw[Ad];omega)
   have d2:=bd [(o.take (at7 key o.length)).map (Ak:Nat->Int),(o.drop (at7 key o.length)).map (Ak:Nat->Int)] (by simp) (λg hg=>by
    rcases AG.1 hg with rfl | hg
    ·rw[Ad,AF];omega
    ·rw[Au] at hg;subst hg;rw[Ad,BB];omega)
   have d3:=bd (o.map λi:Nat=>[(i:Int)]) (by rw[Ad];omega) (λg hg=>by
    obtain⟨i,_,rfl⟩:=At.1 hg;simp)
   rw[r2] at d1;rw[r3] at d2;rw[r4] at d3;have hm:=mid7 p hr (by omega) l2 l3 l4 key k o hol (by omega) e y z d1 d2 d3 (by omega) r5 r6
   have ht:=tail7 p key k o e c ⟨Ja p c,p.w,p.c,p.r⟩ f' hr hFr (by
    show(c.map (tbT p)).length<=100000;rw[Ad];omega) (by show p.w.d.length<=100000;omega) (by show p.w.w.length<=100000;omega) (by show p.c.p.length<=100000;omega) c1 c2 c3 c4 g55 g0 (g1.trans s5.symm) (okC p (o.take k)) (λhb=>by
     obtain⟨v1,v2⟩:=hch hb;exact⟨v1,by rw[v2];exact r1 hb⟩) hm
   have hl:=l7_0 p key k o e c hcp hci (by omega) (okC p (o.take k)) f' ht 0 (Al _)
   have e55':zB 55 [ePn p,.sl 1 ((o.take k).map eN)]=some (.val (.tup [eFm f',.bool (okC p (o.take k))])):=e55;simp only[z1,z8,zK,zN,h25,h3,h46,Ag,zD,hz1,decide_true,Ae,Al,Ad,show k<=o.length by omega,and_self,u1,e55',zJ,hFm' f' hFr,h4,zS,zW,zh,zi,zI,zp,bne_self_eq_false,zU,zR,s2,zQ,zZ]
   rw[s2] at hl;exact hl
end Go.Am
namespace Go.Am
open Go.Proofs
open Go Go.RowKit
noncomputable def orc4(f:FuncId):Option (List DV->Option CR):=if f=267 then some (orT T267) else orc3 f
theorem orc4_ok(f:FuncId)(h:(zGK f).isNone=true):orc4 f=none:=by
 unfold orc4;split
 ·rename_i e;subst e;simp[zGK] at h
 ·exact zHs f h
noncomputable abbrev oo4:OO:=⟨orc4,orc4_ok⟩
theorem env4:EnvOKo PP EE oo4.o:=by
 refine⟨QE _ _ _,JK,λf fn h=>E0_F _ _ _ f fn h,λf g h=>?_⟩
 have h:orc4 f=some g:=h;unfold orc4 at h;split at h
 ·rename_i e;subst e;injection h with h
  subst h;exact Qk at267
 ·exact env3.orc f g h
theorem o4{f:FuncId}(h:f≠267)(h':f≠50):oo4.o f=orc2 f:=(if_neg h:orc4 f=orc3 f).trans (o3 h')
theorem o450:oo4.o 50=some (orT T50):=(if_neg (by decide):orc4 50=orc3 50).trans o350
end Go.Am
namespace Go.Am
open Go.Proofs
open Go Go.RowKit Go.Proofs
theorem txt_conv(n:Nat)(hn:n<=9)(w:World):Sem.run PP (convert 51 9 (Value.slice (some ⟨w.heap.size,0,none⟩) 1 1)) (w.alloc (BE #[Bl AX (48+(n:Int))] 5))=.ok (.string (txtN n)) (w.alloc (BE #[Bl AX (48+(n:Int))] 5)):=by
 have h:=run_convert_bytes_back (P:=PP) (w.alloc (BE #[Bl AX (48+(n:Int))] 5)) 51 9 5 ⟨w.heap.size,0,none⟩ 1 [BH (48+n)] Tryz.underlying51 Tryz.underlying5 Tryz.underlying9 (λj hj=>by
  have hj0:j=0:=by simpa using hj
  subst hj0;have e:((BH (48+n)).toNat:Int)=48+(n:Int):=by rw[UInt8.toNat_ofNat'];omega
  have hc:=World.cell?_alloc_mark w #[Bl AX (48+(n:Int))] 5 (0,0) 0;simp only[AL,e];exact hc)
 exact h
set_option maxRecDepth 100000 in
theorem text_walk(n:Nat)(hn:n<=9)(w:World):Calls PP 174 #[.int .i64 (n:Int)] w λe w'=>e=.returned (.string (txtN n))/\Below w.heap.size w w':=by
 go_enter Tryz.func174,Tryz.ntmps174
 go_wp2;rw[txt_conv n hn w];go_wp2;go_ret;exact⟨rfl,(Bu _ w).alloc (AE _) _⟩
def T174(ds:List DV)(r:CR):Prop:=∃n:Nat,n<=9/\ds=[eN n]/\r=.val (.str (txtN n))
theorem at174(ds:List DV)(r:CR):T174 ds r->qM PP EE 174 ds r:=by
 rintro⟨n,hn,rfl,rfl⟩;refine⟨enters Tryz.func174 (by kernel_rfl) (by kernel_rfl),λS w vals hg hlt hlen hv=>?_⟩
 obtain⟨v,rfl⟩:∃v,vals=[v]:=Bo.1 hlen;have h0:=hv 0 (by simp) (by simp)
 simp only[AL] at h0;have e:=RD.int1 (RV.rd rfl h0).1;rw[jB (RV.rd rfl h0).2] at e;obtain rfl:v=.int .i64 (n:Int):=by simpa using e
 exact(text_walk n hn w).mono λe w' ⟨h1,h2⟩=>⟨_,h1,Y0 hlt h2 ⟨RD.str _,rfl⟩⟩
end Go.Am
namespace Go.Am
open Go.Proofs
open Go Go.RowKit
noncomputable def orc5(f:FuncId):Option (List DV->Option CR):=if f=174 then some (orT T174) else orc4 f
theorem orc5_ok(f:FuncId)(h:(zGK f).isNone=true):orc5 f=none:=by
 unfold orc5;split
 ·rename_i e;subst e;simp[zGK] at h
 ·exact orc4_ok f h
noncomputable abbrev oo5:OO:=⟨orc5,orc5_ok⟩
theorem env5:EnvOKo PP EE oo5.o:=by
 refine⟨QE _ _ _,JK,λf fn h=>E0_F _ _ _ f fn h,λf g h=>?_⟩
 have h:orc5 f=some g:=h;unfold orc5 at h;split at h
 ·rename_i e;subst e;injection h with h
  subst h;exact Qk at174
 ·exact env4.orc f g h
theorem o5{f:FuncId}(h0:f≠174)(h:f≠267)(h':f≠50):oo5.o f=orc2 f:=(if_neg h0:orc5 f=orc4 f).trans (o4 h h')
theorem o550:oo5.o 50=some (orT T50):=(if_neg (by decide):orc5 50=orc4 50).trans o450
theorem o5174:oo5.o 174=some (orT T174):=(if_pos rfl:orc5 174=some (orT T174))
theorem knW5:@KnW oo5:=zIN (o5 (f:=200) (by decide) (by decide) (by decide))
theorem knO5:@KnO oo5:=knO_of (o5 (f:=68) (by decide) (by decide) (by decide))
theorem knS5:@KnS oo5:=zIO (o5 (f:=243) (by decide) (by decide) (by decide)) (o5 (f:=161) (by decide) (by decide) (by decide)) (o5 (f:=210) (by decide) (by decide) (by decide)) (o5 (f:=208) (by decide) (by decide) (by decide))
theorem knX5:@KnX oo5:=@KnX.mk oo5 λn hn=>J9 (o:=oo5) (f:=174) o5174 ⟨n,hn,rfl,rfl⟩ (by
 rintro r' ⟨n',_,e,rfl⟩;injection e with e _
 have e:=Y7 e;have e:n=n':=by omega
 rw[e])
theorem c50v5{p:Pn}{gs:List (List Int)}{n:Int}(h:@V50 oo2 p gs n):@zB oo5 50 [ePn p,eGs gs,eI n]=some (.val (.tup [eI (YQ p gs n).1,eI (YQ p gs n).2])):=by
 refine J9 (o:=oo5) (f:=50) o550 (.inl ⟨p,gs,n,h,rfl,rfl⟩) ?_;rintro r' (⟨p',gs',n',_,e,rfl⟩ | ⟨hn,_⟩)
 ·injection e with e1 e;injection e with e2 e
  injection e with e3 _;rw[zEl _ _ e1,zH6 e2,Y7 e3]
 ·exact(hn ⟨p,gs,n,h,rfl⟩).elim
theorem knB5:@KnB oo5:=@KnB.mk oo5 ((c50v5 v50S).trans (by rw[boundS]))
theorem awake5:@zB oo5 33 []=some (.val (.bool true)):=@awake oo5 knW5 knS5 knO5 knB5
end Go.Am
namespace Go.Am
open Go.Proofs
open Go Go.RowKit
theorem v50_E{p:Pn}{gs:List (List Int)}{n:Int}(hl:gs.length<=30)(hg:∀g∈gs,g.length<=1000)(h:@V50 oo2 p gs n):bndE p gs n=0:=by
 letI:OO:=oo2;have e:=@c170 oo2 p h.r gs (by omega) hg
 have e':=h.grp;unfold eGs at e';rw[e] at e';injection e' with e'
 injection e' with e'
 exact bndE_of h.few (Y7 e') h.n
theorem t50_2{p:Pn}{gs:List (List Int)}{n:Int}{r:CR}(hno:¬@V50 oo2 p gs n)(h:@zB oo2 50 [ePn p,eGs gs,eI n]=some r):@zB oo5 50 [ePn p,eGs gs,eI n]=some r:=by
 have hn:¬∃p' gs' n',@V50 oo2 p' gs' n'/\[ePn p,eGs gs,eI n]=[ePn p',eGs gs',eI n']:=by
  rintro⟨p',gs',n',hv,e⟩;injection e with e1 e
  injection e with e2 e;injection e with e3 _
  rw[zEl _ _ e1,zH6 e2,Y7 e3] at hno;exact hno hv
 refine J9 (o:=oo5) (f:=50) o550 (.inr ⟨hn,h⟩) ?_;rintro r' (⟨p',gs',n',hv,e,_⟩ | ⟨_,h'⟩)
 ·exact(hn ⟨p',gs',n',hv,e⟩).elim
 ·rw[h] at h';injection h' with h'
  exact h'.symm
theorem knF5:@KnF oo5:=@KnF.mk oo5 λp gs n hr hl hg=>by
 letI:OO:=oo2;have ho:oo2.o 50=none:=rfl;by_cases hb:bndE p gs n=0
 ·by_cases h0:gs=[]
  ·subst h0;obtain⟨rfl,e⟩:=@c50_nil oo2 knS2 ho p hr n hb;have ea:bndA p [] 0=(0,0):=by unfold bndA;rw[if_pos hb];rfl
   rw[ea];exact t50_2 (λhv=>by have:=hv.pos;simp at this) e
  ·obtain⟨hf,hk,hn⟩:=bndE_0 hb;have hP:=zH3 hf hr;obtain⟨k1,k2,_⟩:=groupsK_0 _ gs [] hk;have e170:=@c170 oo2 p hr gs (by omega) hg
   rw[hk] at e170;have hV:@V50 oo2 p gs n:=@V50.mk oo2 p gs n hr hf e170 k2 (AQ.2 h0) hl (by
    rw[sumLen_flat];rw[Ap] at k1;have:=hP.l;omega) hn
   rw[<-bound_eq hr hb];exact c50v5 hV
 ·have ea:bndA p gs n=(0,bndE p gs n):=if_neg hb;rw[ea];exact t50_2 (λhv=>hb (v50_E hl hg hv)) (@c50_err oo2 ho p hr gs (by omega) hg n hb)
end Go.Am
