/- The abstract machine, the contracts of the functions that are walked by hand, and the examples of the document. Part 4. -/
import Derived.Test.YtojkhldombndpaaGreatDoorD3
set_option linter.all false
open Go.IntKind renaming wrap->Aa,i64->A5
open List renaming length->Ab,getD_eq_getElem?_getD->Ai,getElem?_eq_getElem->Aj,nil_append->Al,length_cons->An,getElem_mem->Ap,replicate->Aq,append_assoc->Ar,cons_append->Au,take_succ_eq_append_getElem->Av,take_of_length_le->Aw,mem_map->AC,take->AG,size_toArray->AH,drop->AL,length_nil->AM,length_map->AN,mem_singleton->AQ,length_pos_iff->AU,range->AY,mem_cons->A0,map_append->A4,replicate_succ->Ba,append_toArray->Bb,map_cons->Bc,push_toArray->Bf,getElem?_map->Bg,ext_getElem->Bj,eq_nil_of_length_eq_zero->Bk,range_succ->Bl,append_nil->Bm,getElem?_append_right->Br,any_cons->Bu,getElem?_replicate->By,getElem?_cons_zero->Bz,take_append_drop->BC,singleton_append->BD,getElem?_toArray->BE,getElem?_eq_none->BF,pairwise_append->BH,mem_iff_getElem->BI,map->BJ,map_replicate->BR,range_zero->BW,mem_append->BX,take_succ->B2,drop_zero->B3
open Int renaming toNat->Ac,mul_nonneg->As,tdiv->Ax,le_refl->AD,mul_le_mul->AK,mul_le_mul_of_nonneg_right->AR,mul_le_mul_of_nonneg_left->AS,natCast_one->AW,natCast_add->AX,toNat_natCast->A3,emod_lt_of_pos->Be,one_mul->Bn,add_mul->Bo,emod_nonneg->Bq,tmod->Bs,tdiv_eq_ediv_of_nonneg->Bt,add_zero->BG,mul_one->BM,natCast_nonneg->BT,natCast_zero->BY,mul_zero->Cf,mul_comm->Cg,le_trans->Ci,sub_mul->Cj,mul_sub->Ck
open Option renaming getD->Ad,isSome->AB,none->AF,getD_some->BQ
open Go.Utf8 renaming decode->Ae
open Go.World renaming size_alloc->Af,alloc_heap_new->At,putObj_heap_other->AP,cell?->AZ,cell?_of_block->BB,ownsRow_nil->BP,setCell->BZ,frozen?->B0
open Go.RowKit.Below renaming heap_alloc->Ag,refl->BN,heap_setCell->BO,setCell->B4
open Array renaming getElem?_eq_some_iff->Ah,replicate_zero->A7,replicate_succ->A8,getD_eq_getD_getElem?->Bp,getElem?_modify->BA
open Bool renaming and_self->Ak,true_or->Bh,false_or->Bv,or_true->Cd
open UInt8 renaming toNat->Ao
open Prod renaming fst->Ay,snd->AJ,mk->BS
open Nat renaming zero_le->Az,le_refl->AA,reduceSub->Bw,reduceAdd->Bx,min_eq_left->B1,zero_add->Ce
open Go.Shelf renaming Ren->AE
open Go.Value renaming ownBlock->AI,int->Bi
open ByteArray renaming size->AO,empty->BL
open Option.some renaming injEq->AT
open Go.ByteArray renaming toList_eq->A6
open Go.Region renaming wanted->A9
open Go.Fence renaming wide->Bd
open List.cons renaming injEq->BK
open Go.Proofs.SlLaysF0 renaming n6->BU
open Go.Oper renaming semAt_some->BV,wp->B9
open Go.Proofs.LaysM renaming n171->B5
open Go.Proofs.Lays2 renaming n37->B6,n15->B7
open Go.Act renaming eval->B8
open Go.Proofs.Lays renaming n189->Ca,n156->Cb
open Go.Exit renaming inBlock->Cc
open Go.Value.slice renaming injEq->Cl
namespace Go.Proofs
open Go.Shelf
def Tryz.lays156_ren:AE:=⟨λ| 156=>208 | 165=>268 | 166=>269 | 169=>270 | 240=>312 | 241=>313 | 276=>345 | 277=>346 | n=>n,λ| 31=>173 | 9=>9 | 3=>3 | 4=>4 | 0=>0 | 20=>20 | 72=>387 | 76=>329 | 70=>385 | 37=>51 | 75=>328 | 127=>422 | 164=>448 | 5=>5 | 80=>389 | n=>n,λ| n=>n⟩
theorem Tryz.lays156:Cb Tryz.prog Tryz.lays156_ren:={
 mixed:=by kernel_rfl
 f156:=Tryz.func208.trans (congrArg some (by kernel_rfl))
 f165:=Tryz.func268.trans (congrArg some (by kernel_rfl))
 f166:=Tryz.func269.trans (congrArg some (by kernel_rfl))
 f169:=Tryz.func270.trans (congrArg some (by kernel_rfl))
 f240:=Tryz.func312.trans (congrArg some (by kernel_rfl))
 f241:=Tryz.func313.trans (congrArg some (by kernel_rfl))
 f276:=Tryz.func345.trans (congrArg some (by kernel_rfl))
 f277:=Tryz.func346.trans (congrArg some (by kernel_rfl))
 t0:=Tryz.underlying0
 a0:=Tryz.isAgg0
 z0:=Tryz.sizeOf0
 v0:=Tryz.zeroValue0
 t3:=Tryz.underlying3
 a3:=Tryz.isAgg3
 z3:=Tryz.sizeOf3
 v3:=Tryz.zeroValue3
 t4:=Tryz.underlying4
 a4:=Tryz.isAgg4
 z4:=Tryz.sizeOf4
 v4:=Tryz.zeroValue4
 t9:=Tryz.underlying9
 a9:=Tryz.isAgg9
 z9:=Tryz.sizeOf9
 v9:=Tryz.zeroValue9
 t20:=Tryz.underlying20
 a20:=Tryz.isAgg20
 z20:=Tryz.sizeOf20
 v20:=Tryz.zeroValue20
 t31:=Tryz.underlying173
 a31:=Tryz.isAgg173
 z31:=Tryz.sizeOf173
 v31:=Tryz.zeroValue173
 t37:=Tryz.underlying51
 a37:=Tryz.isAgg51
 z37:=Tryz.sizeOf51
 v37:=Tryz.zeroValue51
 t70:=Tryz.underlying385
 a70:=Tryz.isAgg385
 z70:=Tryz.sizeOf385
 v70:=Tryz.zeroValue385
 t72:=Tryz.underlying387
 a72:=Tryz.isAgg387
 z72:=Tryz.sizeOf387
 v72:=Tryz.zeroValue387
 t75:=Tryz.underlying328
 a75:=Tryz.isAgg328
 z75:=Tryz.sizeOf328
 v75:=Tryz.zeroValue328
 t76:=Tryz.underlying329
 a76:=Tryz.isAgg329
 z76:=Tryz.sizeOf329
 v76:=Tryz.zeroValue329
 t127:=Tryz.underlying422
 a127:=Tryz.isAgg422
 z127:=Tryz.sizeOf422
 v127:=Tryz.zeroValue422
 t164:=Tryz.underlying448
 a164:=Tryz.isAgg448
 z164:=Tryz.sizeOf448
 v164:=Tryz.zeroValue448 }
theorem Tryz.Builder_Extra_156:Builder.Extra Tryz.prog Tryz.lays156_ren:={
 sizeBuilder:=by kernel_rfl
 liesBuilder:=by kernel_rfl
 t5:=Tryz.underlying5
 a5:=Tryz.isAgg5
 z5:=Tryz.sizeOf5
 v5:=Tryz.zeroValue5
 infoByte:=by kernel_rfl
 cellsByte:=by kernel_rfl
 sizeByte:=by kernel_rfl
 neB5:=by decide }
open Go.RowKit in
theorem Tryz.strings_Join_none(a:Option Addr)(c:Nat)(sep:ByteArray)(w:World) :
  Calls Tryz.prog 208 #[.slice a 0 c,.string sep] w λe w'=>e=.returned (.string ⟨#[]⟩)/\w'=w:=Any.strings_Join_none Tryz.lays156 Tryz.Builder_Extra_156 a c sep w
open Go.RowKit in
theorem Tryz.strings_Join(bk o c:Nat)(xs:List ByteArray)(sep:ByteArray)(w:World)(hcells:∀(j:Nat) x,xs[j]? = some x->w.cell? ⟨bk,o+j,none⟩=some (.string x))(hbk:bk<w.heap.size)(hN:xs.length<=140737488355328)(hcap:xs.length<=c)(hlen:(Lib.join (xs.map (·.data.toList)) sep.data.toList).length<=140737488355328) :
  Calls Tryz.prog 208 #[.slice (some ⟨bk,o,none⟩) xs.length c,.string sep] w λe w'=>e=.returned (.string ⟨(Lib.join (xs.map (·.data.toList)) sep.data.toList).toArray⟩)/\Below w.heap.size w w':=Any.strings_Join Tryz.lays156 Tryz.Builder_Extra_156 bk o c xs sep w hcells hbk hN hcap hlen
def Tryz.lays318_ren:AE:=⟨λ| 318=>381 | n=>n,λ| 3=>3 | 4=>4 | n=>n,λ| n=>n⟩
def Tryz.laysM246_ren:AE:=⟨λ| 246=>314 | 283=>347 | 284=>348 | 285=>349 | 286=>350 | 129=>310 | 317=>380 | 318=>381 | 319=>382 | 320=>383 | 337=>397 | 338=>398 | n=>n,λ| 2=>2 | 3=>3 | 9=>9 | 4=>4 | 171=>451 | 0=>0 | 53=>421 | 37=>51 | 5=>5 | 173=>453 | 212=>480 | 51=>237 | 20=>20 | 213=>481 | 46=>235 | 232=>500 | 233=>501 | n=>n,λ| 17=>5 | 18=>8 | 19=>9 | n=>n⟩
def Tryz.laysM243_ren:AE:=⟨λ| 243=>271 | 246=>314 | 283=>347 | 284=>348 | 285=>349 | 286=>350 | 129=>310 | 317=>380 | 318=>381 | 319=>382 | 320=>383 | 337=>397 | 338=>398 | n=>n,λ| 3=>3 | 9=>9 | 2=>2 | 4=>4 | 171=>451 | 0=>0 | 53=>421 | 37=>51 | 5=>5 | 173=>453 | 212=>480 | 51=>237 | 20=>20 | 213=>481 | 46=>235 | 232=>500 | 233=>501 | n=>n,λ| 17=>5 | 18=>8 | 19=>9 | n=>n⟩
def Tryz.laysM171_ren:AE:=⟨λ| 171=>210 | 243=>271 | 246=>314 | 283=>347 | 284=>348 | 285=>349 | 286=>350 | 129=>310 | 317=>380 | 318=>381 | 319=>382 | 320=>383 | 337=>397 | 338=>398 | n=>n,λ| 3=>3 | 9=>9 | 2=>2 | 4=>4 | 171=>451 | 0=>0 | 53=>421 | 37=>51 | 5=>5 | 173=>453 | 212=>480 | 51=>237 | 20=>20 | 213=>481 | 46=>235 | 232=>500 | 233=>501 | n=>n,λ| 17=>5 | 18=>8 | 19=>9 | n=>n⟩
theorem Tryz.laysM171:B5 Tryz.prog Tryz.laysM171_ren:={
 mixed:=by kernel_rfl
 f129:=Tryz.func310.trans (congrArg some (by kernel_rfl))
 f171:=Tryz.func210.trans (congrArg some (by kernel_rfl))
 f243:=Tryz.func271.trans (congrArg some (by kernel_rfl))
 f246:=Tryz.func314.trans (congrArg some (by kernel_rfl))
 f283:=Tryz.func347.trans (congrArg some (by kernel_rfl))
 f284:=Tryz.func348.trans (congrArg some (by kernel_rfl))
 f285:=Tryz.func349.trans (congrArg some (by kernel_rfl))
 f286:=Tryz.func350.trans (congrArg some (by kernel_rfl))
 f317:=Tryz.func380.trans (congrArg some (by kernel_rfl))
 f318:=Tryz.func381.trans (congrArg some (by kernel_rfl))
 f319:=Tryz.func382.trans (congrArg some (by kernel_rfl))
 f320:=Tryz.func383.trans (congrArg some (by kernel_rfl))
 f337:=Tryz.func397.trans (congrArg some (by kernel_rfl))
 f338:=Tryz.func398.trans (congrArg some (by kernel_rfl))
 t0:=Tryz.underlying0
 a0:=Tryz.isAgg0
 z0:=Tryz.sizeOf0
 v0:=Tryz.zeroValue0
 t2:=Tryz.underlying2
 a2:=Tryz.isAgg2
 z2:=Tryz.sizeOf2
 v2:=Tryz.zeroValue2
 t3:=Tryz.underlying3
 a3:=Tryz.isAgg3
 z3:=Tryz.sizeOf3
 v3:=Tryz.zeroValue3
 t4:=Tryz.underlying4
 a4:=Tryz.isAgg4
 z4:=Tryz.sizeOf4
 v4:=Tryz.zeroValue4
 t5:=Tryz.underlying5
 a5:=Tryz.isAgg5
 z5:=Tryz.sizeOf5
 v5:=Tryz.zeroValue5
 t9:=Tryz.underlying9
 a9:=Tryz.isAgg9
 z9:=Tryz.sizeOf9
 v9:=Tryz.zeroValue9
 t20:=Tryz.underlying20
 a20:=Tryz.isAgg20
 z20:=Tryz.sizeOf20
 v20:=Tryz.zeroValue20
 t37:=Tryz.underlying51
 a37:=Tryz.isAgg51
 z37:=Tryz.sizeOf51
 v37:=Tryz.zeroValue51
 t46:=Tryz.underlying235
 a46:=Tryz.isAgg235
 z46:=Tryz.sizeOf235
 v46:=Tryz.zeroValue235
 t51:=Tryz.underlying237
 a51:=Tryz.isAgg237
 z51:=Tryz.sizeOf237
 v51:=Tryz.zeroValue237
 t53:=Tryz.underlying421
 a53:=Tryz.isAgg421
 z53:=Tryz.sizeOf421
 v53:=Tryz.zeroValue421
 t171:=Tryz.underlying451
 a171:=Tryz.isAgg451
 z171:=Tryz.sizeOf451
 v171:=Tryz.zeroValue451
 t173:=Tryz.underlying453
 a173:=Tryz.isAgg453
 z173:=Tryz.sizeOf453
 v173:=Tryz.zeroValue453
 t212:=Tryz.underlying480
 a212:=Tryz.isAgg480
 z212:=Tryz.sizeOf480
 v212:=Tryz.zeroValue480
 t213:=Tryz.underlying481
 a213:=Tryz.isAgg481
 z213:=Tryz.sizeOf481
 t232:=Tryz.underlying500
 a232:=Tryz.isAgg500
 z232:=Tryz.sizeOf500
 v232:=Tryz.zeroValue500
 t233:=Tryz.underlying501
 a233:=Tryz.isAgg501
 z233:=Tryz.sizeOf501
 v233:=Tryz.zeroValue501
 g17:=by kernel_rfl
 g18:=by kernel_rfl
 g19:=by kernel_rfl
 i0:=by kernel_rfl
 i2:=by kernel_rfl
 i3:=by kernel_rfl
 i4:=by kernel_rfl
 i5:=by kernel_rfl
 i9:=by kernel_rfl
 i20:=by kernel_rfl
 i37:=by kernel_rfl
 i46:=by kernel_rfl
 i51:=by kernel_rfl
 i53:=by kernel_rfl
 i171:=by kernel_rfl
 i173:=by kernel_rfl
 i212:=by kernel_rfl
 i232:=by kernel_rfl
 i233:=by kernel_rfl
 m17:=by kernel_rfl
 m18:=by kernel_rfl
 m19:=by kernel_rfl }
open Go.RowKit Go.Sort Go.Lib in
theorem Tryz.strconv_Itoa(n:Int)(h0:-9223372036854775808<=n)(h1:n<=9223372036854775807)(w:World)(htab:Lib.TabIs Tryz.prog w "internal/strconv.uint64pow10" .u64 Lib.pow10Tab) :
  Calls Tryz.prog 210 #[.int .i64 n] w λe w'=>e=.returned (.string ⟨(Lib.itoa n).toArray⟩)/\∃k os,w'=grow (w.drewN k) os:=Any.strconv_Itoa Tryz.laysM171 n h0 h1 w htab
def Tryz.laysNm215_ren:AE:=⟨λ| 15=>243 | n=>n,λ| 22=>25 | 3=>3 | 4=>4 | n=>n,λ| n=>n⟩
theorem Tryz.laysNm215:B7 Tryz.prog Tryz.laysNm215_ren:={
 mixed:=by kernel_rfl
 f15:=Tryz.func243.trans (congrArg some (by kernel_rfl))
 t3:=Tryz.underlying3
 a3:=Tryz.isAgg3
 z3:=Tryz.sizeOf3
 v3:=Tryz.zeroValue3
 t4:=Tryz.underlying4
 a4:=Tryz.isAgg4
 z4:=Tryz.sizeOf4
 v4:=Tryz.zeroValue4
 t22:=Tryz.underlying25
 a22:=Tryz.isAgg25
 z22:=Tryz.sizeOf25
 v22:=Tryz.zeroValue25
 i3:=by kernel_rfl }
open Go.RowKit Go.Lib in
theorem Tryz.slices_Clone_int(b off n c:Nat)(zs:List Int)(w:World)(hz:n<=zs.length)(hbig:n * 8<=140737488355328)(hc:∀j,j<zs.length->w.cell? ⟨b,off+j,none⟩=some (.int .i64 (zs.getD j 0))) :
  Calls Tryz.prog 243 #[.slice (some ⟨b,off,none⟩) n c] w λe w'=>∃v',e=.returned v'/\w'.ownsRow w.heap.size 3 1 v' n ((zs.take n).map (Bi .i64))/\v'≠.slice none 0 0/\Below w.heap.size w w':=Any.slices_Clone_int Tryz.laysNm215 b off n c zs w hz hbig hc
open Go.RowKit Go.Lib in
theorem Tryz.slices_Clone_int_nil(n c:Nat)(w:World) :
  Calls Tryz.prog 243 #[.slice none n c] w λe w'=>e=.returned (.slice none 0 0)/\w'=w:=Any.slices_Clone_int_nil Tryz.laysNm215 n c w
def Tryz.laysNm237_ren:AE:=⟨λ| 37=>311 | n=>n,λ| 3=>3 | 4=>4 | n=>n,λ| n=>n⟩
theorem Tryz.laysNm237:B6 Tryz.prog Tryz.laysNm237_ren:={
 mixed:=by kernel_rfl
 f37:=Tryz.func311.trans (congrArg some (by kernel_rfl))
 t3:=Tryz.underlying3
 a3:=Tryz.isAgg3
 z3:=Tryz.sizeOf3
 v3:=Tryz.zeroValue3
 t4:=Tryz.underlying4
 a4:=Tryz.isAgg4
 z4:=Tryz.sizeOf4
 v4:=Tryz.zeroValue4 }
open Go.RowKit Go.Lib in
theorem Tryz.cmp_isNaN_int2(x:Int)(w:World) :
  Calls Tryz.prog 311 #[.int .i64 x] w λe w'=>e=.returned (.bool false)/\w'=w:=Any.cmp_isNaN_int2 Tryz.laysNm237 x w
end Go.Proofs
namespace Go.Am
open Go.Proofs
open Go
@[simp] theorem zD(x y:Option CR):ifO true x y=x:=rfl
@[simp] theorem zU(x y:Option CR):ifO false x y=y:=rfl
theorem zP(p:Prop)[Decidable p](x y:Option CR):ifO (decide p) x y=if p then x else y:=by by_cases h:p <;> simp[h]
theorem zz(a b:Int)(x y:Option CR):ifO (bne a b) x y=if a=b then y else x:=by
 by_cases h:a=b
 ·subst h;simp[bne]
 ·have:(a == b)=false:=beq_eq_false_iff_ne.2 h;simp[bne,this,h]
theorem JY(a b:Int)(x y:Option CR):ifO (a == b) x y=if a=b then x else y:=by
 by_cases h:a=b
 ·subst h;simp
 ·have:(a == b)=false:=beq_eq_false_iff_ne.2 h;simp[this,h]
@[simp] theorem zJ(x:DV)(kv:DV->Option CR)(kf:Nat->List DV->Option CR):zH (some (.val x)) kv kf=kv x:=rfl
@[simp] theorem qr(s:Nat)(xs:List DV)(kv:DV->Option CR)(kf:Nat->List DV->Option CR):zH (some (.fresh s xs)) kv kf=kf s xs:=rfl
@[simp] theorem zI(k:IntKind)(n:Int):zC (.int k n)=n:=rfl
@[simp] theorem zp(b:Bool):jm (.bool b)=b:=rfl
@[simp] theorem zZ(s:ByteArray):zX (.str s)=s:=rfl
@[simp] theorem zR(n:Nat)(xs:List DV):elems (.sl n xs)=xs:=rfl
@[simp] theorem zQ(n:Nat)(xs:List DV):flds (.agg n xs)=xs:=rfl
@[simp] theorem QG(x:DV):undp (.dp x)=x:=rfl
@[simp] theorem Yb(f:FuncId)(a c:List DV):zDz (.fn f a c)=f:=rfl
@[simp] theorem QA(f:FuncId)(a c:List DV):fnA (.fn f a c)=a:=rfl
@[simp] theorem q0(f:FuncId)(a c:List DV):fnC (.fn f a c)=c:=rfl
@[simp] theorem keys_mp(a c:List DV):keys (.mp a c)=a:=rfl
@[simp] theorem vals_mp(a c:List DV):vals (.mp a c)=c:=rfl
@[simp] theorem z8(a:List DV):tups (.tup a)=a:=rfl
@[simp] theorem zS(x:DV)(l:List DV):nth (x :: l) 0=x:=rfl
@[simp] theorem nth_succ(x:DV)(l:List DV)(n:Nat):nth (x :: l) (n+1)=nth l n:=rfl
@[simp] theorem zW(x y:DV)(l:List DV):nth (x :: y :: l) 1=y:=rfl
@[simp] theorem zh(x y z:DV)(l:List DV):nth (x :: y :: z :: l) 2=z:=rfl
@[simp] theorem zi(x y z u:DV)(l:List DV):nth (x :: y :: z :: u :: l) 3=u:=rfl
@[simp] theorem je(x y z u v:DV)(l:List DV):nth (x :: y :: z :: u :: v :: l) 4=v:=rfl
@[simp] theorem z1(l:List DV):(DV.tup l).isTup=true:=rfl
theorem zO{α:Type}(f:α->DV)(l:List α)(i:Nat)(h:i<l.length):nth (l.map f) i=f l[i]:=by unfold nth;simp[h]
@[simp] theorem zN(f:TypeId->DV->Bool):zV f [] []=true:=rfl
@[simp] theorem zK(f:TypeId->DV->Bool)(t:TypeId)(x:DV)(ts:List TypeId)(xs:List DV):zV f (t :: ts) (x :: xs)=(f t x && zV f ts xs):=rfl
theorem wr(n:Int)(h:-9223372036854775808<=n/\n<=9223372036854775807):A5.wrap n=n:=IntWalk.i64_in n h
theorem down{P:Nat->Prop}(n:Nat)(hn:P n)(hs:∀i,i<n->P (i+1)->P i):∀i,i<=n->P i:=by
 intro i hi;obtain⟨k,rfl⟩:∃k,n=i+k:=⟨n - i,by omega⟩
 clear hi;induction k generalizing i with
 | zero=>exact hn
 | succ k ih=>exact hs i (by omega) (ih (i+1) (by rw[show i+1+k=i+(k+1) by omega];exact hn) (λj hj=>hs j (by omega)))
theorem za{α:Type}(l:List α)(i:Nat)(h:i<l.length):l.drop i=l[i] :: l.drop (i+1):=by simp
end Go.Am
namespace Go.Am
open Go.Proofs
open Go
@[simp] theorem h3(a1:Int):zF EE 6 3 (.int .i64 a1)=true:=by kernel_rfl
@[simp] theorem h4(a1:Bool):zF EE 6 4 (.bool a1)=true:=by kernel_rfl
@[simp] theorem h5(a1:Int):zF EE 6 5 (.int .u8 a1)=true:=by kernel_rfl
@[simp] theorem h9(a1:ByteArray):zF EE 6 9 (.str a1)=true:=by kernel_rfl
@[simp] theorem h25(a1:List DV):zF EE 6 25 (.sl 1 a1)=true:=by kernel_rfl
@[simp] theorem h30(a1:List DV):zF EE 6 30 (.agg 2 a1)=decide (a1.length=51):=by kernel_rfl
@[simp] theorem h45(a1:List DV):zF EE 6 45 (.agg 3 a1)=decide (a1.length=8):=by kernel_rfl
@[simp] theorem h46(a1:Int):zF EE 6 46 (.int .i64 a1)=true:=by kernel_rfl
@[simp] theorem h56(a1:List DV):zF EE 6 56 (.sl 3 a1)=true:=by kernel_rfl
@[simp] theorem h58(a1:ByteArray)(a2:Int)(a3:List DV):zF EE 6 58 (.agg 0 [(.str a1),(.int .i64 a2),(.sl 3 a3)])=true:=by kernel_rfl
@[simp] theorem h59(a1:ByteArray)(a2:List DV)(a3:List DV):zF EE 6 59 (.agg 0 [(.str a1),(.sl 1 a2),(.sl 1 a3)])=true:=by kernel_rfl
@[simp] theorem h60(a1:List DV)(a2:Int):zF EE 6 60 (.agg 1 [(.sl 1 a1),(.int .i64 a2)])=true:=by kernel_rfl
@[simp] theorem h62(a1:ByteArray)(a2:Int)(a3:List DV)(a4:ByteArray)(a5:List DV)(a6:List DV)(a7:List DV)(a8:Int)(a9:List DV):zF EE 6 62 (.agg 4 [(.agg 0 [(.str a1),(.int .i64 a2),(.sl 3 a3)]),(.agg 0 [(.str a4),(.sl 1 a5),(.sl 1 a6)]),(.agg 1 [(.sl 1 a7),(.int .i64 a8)]),(.agg 3 a9)])=(decide (a9.length=8) && true):=by kernel_rfl
@[simp] theorem h73(a1:FuncId)(a2:List DV)(a3:List DV):zF EE 6 73 (.fn a1 a2 a3)=true:=by kernel_rfl
@[simp] theorem h74(a1:FuncId)(a2:List DV)(a3:List DV):zF EE 6 74 (.fn a1 a2 a3)=true:=by kernel_rfl
@[simp] theorem h81(a1:List DV):zF EE 6 81 (.sl 2 a1)=true:=by kernel_rfl
@[simp] theorem h88(a1:List DV)(a2:Int)(a3:ByteArray)(a4:List DV)(a5:List DV)(a6:List DV)(a7:Int)(a8:List DV):zF EE 6 88 (.agg 6 [(.sl 2 a1),(.int .i64 a2),(.agg 0 [(.str a3),(.sl 1 a4),(.sl 1 a5)]),(.agg 1 [(.sl 1 a6),(.int .i64 a7)]),(.agg 3 a8)])=(decide (a8.length=8) && true):=by kernel_rfl
@[simp] theorem h95(a1:List DV):zF EE 6 95 (.sl 1 a1)=true:=by kernel_rfl
@[simp] theorem h141(a1:Int)(a2:Int):zF EE 6 141 (.agg 1 [(.int .i64 a1),(.int .i64 a2)])=true:=by kernel_rfl
@[simp] theorem h173(a1:List DV):zF EE 6 173 (.sl 1 a1)=true:=by kernel_rfl
@[simp] theorem h176(a1:ByteArray)(a2:Int)(a3:Int):zF EE 6 176 (.agg 9 [(.str a1),(.agg 1 [(.int .i64 a2),(.int .i64 a3)])])=true:=by kernel_rfl
@[simp] theorem h246(a1:ByteArray)(a2:List DV)(a3:List DV)(a4:List DV)(a5:Int)(a6:List DV):zF EE 6 246 (.agg 13 [(.agg 0 [(.str a1),(.sl 1 a2),(.sl 1 a3)]),(.agg 1 [(.sl 1 a4),(.int .i64 a5)]),(.agg 3 a6)])=(decide (a6.length=8) && true):=by kernel_rfl
@[simp] theorem h251(a1:Int)(a2:Int)(a3:Int):zF EE 6 251 (.agg 9 [(.int .i64 a1),(.agg 1 [(.int .i64 a2),(.int .i64 a3)])])=true:=by kernel_rfl
@[simp] theorem h266(a1:List DV)(a2:Int):zF EE 6 266 (.agg 1 [(.sl 1 a1),(.int .i64 a2)])=true:=by kernel_rfl
@[simp] theorem h268(a1:DV):zF EE 6 268 (.dp a1)=true:=by kernel_rfl
@[simp] theorem h275(a1:FuncId)(a2:List DV)(a3:List DV):zF EE 6 275 (.fn a1 a2 a3)=true:=by kernel_rfl
@[simp] theorem h280(a1:FuncId)(a2:List DV)(a3:List DV):zF EE 6 280 (.fn a1 a2 a3)=true:=by kernel_rfl
@[simp] theorem h290(a1:List DV):zF EE 6 290 (.sl 1 a1)=true:=by kernel_rfl
@[simp] theorem h300(a1:List DV):zF EE 6 300 (.sl 2 a1)=true:=by kernel_rfl
@[simp] theorem h302(a1:Int)(a2:Int):zF EE 6 302 (.agg 1 [(.int .i64 a1),(.int .i64 a2)])=true:=by kernel_rfl
@[simp] theorem h305(a1:FuncId)(a2:List DV)(a3:List DV):zF EE 6 305 (.fn a1 a2 a3)=true:=by kernel_rfl
@[simp] theorem h309(a1:FuncId)(a2:List DV)(a3:List DV):zF EE 6 309 (.fn a1 a2 a3)=true:=by kernel_rfl
@[simp] theorem h312(a1:FuncId)(a2:List DV)(a3:List DV):zF EE 6 312 (.agg 12 [(.fn a1 a2 a3)])=true:=by kernel_rfl
@[simp] theorem h314(a1:List DV)(a2:List DV):zF EE 6 314 (.mp a1 a2)=true:=by kernel_rfl
@[simp] theorem h349(a1:FuncId)(a2:List DV)(a3:List DV):zF EE 6 349 (.fn a1 a2 a3)=true:=by kernel_rfl
end Go.Am
namespace Go.Am
open Go.Proofs
open Go
class OO where
 o:Orc
 ok:∀f,(zGK f).isNone=true->o f=none
noncomputable def zB[OO]:FuncId->List DV->Option CR:=Qr OO.o EE XX
noncomputable def goQ[OO]:FuncId->Nat->St->Option CR:=goLo OO.o EE XX
theorem zb[OO](f:FuncId)(j:Nat)(st:St):goQ f j st=run zB (goQ f) (zEU EE XX f (JI EE f) (YL EE f) j st):=goLo_eq f j st
theorem zM[OO]{f:FuncId}(ho:(zGK f).isNone=true)(hF:(EE.F f).isSome=true)(hb:((JI EE f).body).isSome=true)(a:List DV) :
  zB f a=run zB (goQ f) (funX EE XX f (JI EE f) (YL EE f) a):=callLo_eq (OO.ok f ho) hF hb a
theorem callQ_orc[OO]{f:FuncId}{g:List DV->Option CR}(h:OO.o f=some g)(a:List DV):zB f a=g a:=callLo_orc h a
end Go.Am
namespace Go.Am
open Go.Proofs
open Go Go.RowKit
noncomputable abbrev PP:Program:=Tryz.prog
def qM(P:Program)(E:Env)(f:FuncId)(ds:List DV)(r:CR):Prop :=
 Enters P f/\∀(S:Nat->Prop) (w:World) (vals:List Value),GlobOK E S w->(∀b,S b->b<w.heap.size)->vals.length=ds.length ->
  (∀i (h:i<ds.length) (h':i<vals.length),RV E.L S w ds[i] vals[i])->Calls P f vals.toArray w λe w'=>∃v,e=.returned v/\zAa E S w r v w'
open Classical in
noncomputable def orT(T:List DV->CR->Prop)(ds:List DV):Option CR:=if h:∃r,T ds r then some h.choose else none
theorem Qk{P:Program}{E:Env}{f:FuncId}{T:List DV->CR->Prop}(h:∀ds r,T ds r->qM P E f ds r):JC P E λf' ds=>if f'=f then orT T ds else none:=by
 intro f' ds r h1;dsimp only at h1;split at h1
 ·rename_i e;subst e;unfold orT at h1;split at h1
  ·rename_i hx;injection h1 with h1
   exact h1 ▸ h ds _ hx.choose_spec
  ·cases h1
 ·cases h1
theorem orT_of{T:List DV->CR->Prop}{ds:List DV}{r:CR}(h:T ds r)(hu:∀r',T ds r'->r'=r):orT T ds=some r:=by unfold orT;rw[dif_pos ⟨r,h⟩];exact congrArg some (hu _ (Exists.choose_spec (⟨r,h⟩:∃r,T ds r)))
section
variable{L:Nat->List Nat}{S:Nat->Prop}{w:World}
theorem RD.int1{k:IntKind}{m:Int}{cs:List Value}(h:RD L S w (.int k m) cs):cs=[.int k m]:=by cases h;rfl
theorem RD.str1{s:ByteArray}{cs:List Value}(h:RD L S w (.str s) cs):cs=[.string s]:=by cases h;rfl
theorem flat1{α:Type}(g:α->Value):∀l:List α,(l.map λx=>[g x]).flatten=l.map g
 | []=>rfl
 | x :: l=>by rw[Bc,List.flatten_cons,flat1 g l];rfl
theorem RD.sl1{α:Type}{e:α->DV}{g:α->Value}(he:∀x cs,RD L S w (e x) cs->cs=[g x]){l:List α}{cs:List Value}(h:RD L S w (.sl 1 (l.map e)) cs) :
  ∃a c,cs=[.slice a l.length c]/\l.length<=c/\(0<l.length->∃ad,a=some ad/\ad.spot=none/\S ad.block/\∀j x,l[j]? = some x->w.cell? (ad.add j)=some (g x)):=by
 cases h with
 | sl _ _ a n c css hn hc hl h hz hm =>
  have hn':l.length=n:=by simpa using hn
  subst hn';refine⟨a,c,rfl,hc,λh0=>?_⟩
  obtain⟨ad,e1,e2,e3,e4⟩:=hm h0;refine⟨ad,e1,e2,e3,λj x hx=>e4 j _ ?_⟩
  have hcss:css=l.map λx=>[g x]:=by
   apply Bj (by simpa using hl)
   intro i h1 h2;have:=h i (by simpa using h2) h1
   rw[List.getElem_map] at this ⊢;exact he _ _ this
  rw[hcss];rw[flat1,Bg,hx];rfl
theorem zCT{v:Value}{x:DV}{a:Option Addr}{n c:Nat}(h:RV L S w x v)(hx:x.isTup=false)(ha:x.isAgg=false)(e:vcs v=[.slice a n c]):v=.slice a n c:=by have:=(RV.rd hx h).2;rw[ha] at this;rw[jB this] at e;simpa using e
end
theorem Y0{E:Env}{S:Nat->Prop}{w w':World}{x:DV}{v:Value}(hlt:∀b,S b->b<w.heap.size)(hB:Below w.heap.size w w')(h:RV E.L S w' x v):zAa E S w (.val x) v w' :=
 ⟨S,hB,λ_ h=>h,λ_ h=>.inl h,λb hb=>Nat.lt_of_lt_of_le (hlt b hb) hB.size,h⟩
theorem J8{P:Program}{w:World}{ops:Array Oper}{rest:List Oper}{o:Oper}{a:Act}{Q:Exit->Act->World->Prop}(hgd:o.guard=none)(s x:Operand)(t:TypeId)
  (ho:o.op=.call { callee:=.builtin .append,args:=#[s,x],argTypes:=#[t,t] })
  (e:TypeId) (i:TypeInfo) (z:Value) (ht:P.underlying t=some (.slice e)) (hi:P.info? e=some i) (hz:i.zero=some z)
  (ad ax:Option Addr) (cx:Nat) (hs:a.eval s=.slice ad 0 0) (hx:a.eval x=.slice ax 0 cx)
  (h:wpList P ops Q rest (a.put o.dst (.slice ad 0 0)) w):wpList P ops Q (o :: rest) a w:=by
 refine wpList_plain hgd λK hK=>?_
 have hrun:=Qx (P:=P) (w:=w) t o.type e i ht hi (ad:=ad) (news:=[]) (ux:=.slice ax 0 cx) ⟨ax,cx,rfl,Az _,λh=>by omega⟩ (by simp)
 unfold B9;simp[execOp,ho,resolve,invoke,builtin,hs,hx,hrun,Result.andThen];exact hK _ _ h
section
open Go.Proofs Go.Shelf
variable{P:Program}{ρ:Ren}
set_option maxHeartbeats 2000000 in
set_option maxRecDepth 100000 in
theorem clone_zero(L:Lays2.n15 P ρ)(a:Addr)(c:Nat)(w:World) :
  Calls P (ρ.f 15) #[.slice (some a) 0 c] w λe w'=>∃ad,e=.returned (.slice (some ad) 0 0)/\Below w.heap.size w w':=by
 have mixed:=L.mixed;have t3:=L.t3;have a3:=L.a3;have z3:=L.z3;have v3:=L.v3;have t4:=L.t4;have a4:=L.a4;have z4:=L.z4;have v4:=L.v4;have t22:=L.t22;have a22:=L.a22;have z22:=L.z22;have v22:=L.v22;obtain⟨i0,hi,hz0,hz1,hz2⟩:=info_parts L.i3;have q22:∀(w:World) (a:Option Addr) (n c n' c':Nat),(binOp .eql (ρ.t 22) (.slice a n c) (.slice none n' c')).run P w=.ok (.bool a.isNone) w:=λw a n c n' c'=>Lib.run_eql_slice_nil w _ _ a n c n' c' L.t22
 have u22:∀w,Sem.run P (underlying (ρ.t 22)) w=.ok (TypeDesc.slice (ρ.t 3)) w:=run_underlying t22
 go_enter L.f15,Body2.n15_ntmps ρ
 go_wp2_with (at_builtin;refine J8 rfl _ _ (ρ.t 22) rfl (ρ.t 3) i0 (.int .i64 0) t22 hi hz0 _ _ _ rfl rfl ?_)
 go_wp2;go_ret;exact⟨_,rfl,(BN _ w).alloc (AA _) _⟩
end
end Go.Am
namespace Go.Am
open Go.Proofs
open Go Go.RowKit
open Classical
noncomputable def KT(t:St->Prop)(s:St):Option CR:=if t s then some (.val .nl) else none
noncomputable def gT(t:St->Prop):Nat->St->Option CR
 | 0,s=>KT t s
 | _+1,_=>none
theorem Le.trans{s t u:St}(h:Le [] s t)(k:Le [] t u):Le [] s u:=by
 refine⟨λi=>?_,λb=>?_⟩
 ·rcases h.tm i with ⟨h1,h2⟩ | h1
  ·refine .inl ⟨h1,?_⟩;rcases k.tm i with ⟨_,k2⟩ | k1
   ·exact k2
   ·rw[<-k1];exact h2
  ·rcases k.tm i with ⟨k1,k2⟩ | k1
   ·exact .inl ⟨h1.trans k1,k2⟩
   ·exact .inr (h1.trans k1)
 ·rcases h.hp b with ⟨h1,h2,h3⟩ | h1
  ·refine .inl ⟨h1,?_,h3⟩;rcases k.hp b with ⟨_,k2,_⟩ | k1
   ·exact k2
   ·rw[<-k1];exact h2
  ·rcases k.hp b with ⟨k1,k2,k3⟩ | k1
   ·exact .inl ⟨h1.trans k1,k2,k3⟩
   ·exact .inr (h1.trans k1)
theorem KT_of{t:St->Prop}{s:St}{r:CR}(h:KT t s=some r):t s:=by
 unfold KT at h;split at h
 ·assumption
 ·cases h
theorem zId{t:St->Prop}{s:St}(h:t s):KT t s=some (.val .nl):=if_pos h
section
variable[OO]
theorem zHr{f:FuncId}{c:Code}{st t:St}{M:Nat}(hM:1<=M)(hn:z7 c=0)(h:run zB (gT (Le [] t)) (pcX f c st)=some (.val .nl)) :
  exec EE M (j6 EE zB) c st (KLe t)=some (.val .nl):=by
 let Kx:Ex->St->Tr:=λe st=>match e with | .normal=>.goto 0 st | _=>.fail
 let head:Nat->St->Tr:=λj st=>match j with | 0=>(if Le [] t st then .ret (.val .nl) else .fail) | j+1=>Jj EE XX (XX.fx f) (j+1) c 0 0 Kx st
 refine zDC (E:=EE) (X:=XX) (F:=XX.fx f) (call:=zB) (head:=head) (M:=M) (r:=.val .nl) c 1 hM 0 0 (by omega) Kx (KLe t) (λj hj st=>?_) (λp hp e st h=>?_) (λe s s' h1 h2=>?_) 1 (AA 1) st ?_
 ·rcases hj with h | h
  ·omega
  ·obtain⟨k,rfl⟩:∃k,j=k+1:=⟨j - 1,by omega⟩
   rfl
 ·cases e with
  | normal =>
   have h1:goX zB head p 0 st=some (.val .nl):=h;cases p with
   | zero=>simp[goX] at h1
   | succ p =>
    have h2:run zB (goX zB head p) (if Le [] t st then .ret (.val .nl) else .fail)=some (.val .nl):=h1
    unfold KLe;split at h2
    ·rename_i hl;exact if_pos ⟨rfl,hl⟩
    ·simp[run] at h2
  | _=>simp[Kx,run] at h
 ·obtain⟨rfl,hl⟩:=zBg h2;exact if_pos ⟨rfl,hl.trans h1⟩
 ·refine YW (λ_ _ _ h=>h) (λj s r hj=>?_) _ h
  cases j with
  | succ j=>cases hj
  | zero =>
   have hj1:KT (Le [] t) s=some r:=hj;have hl:=KT_of hj1;rw[zId hl] at hj1;injection hj1 with hj1
   subst hj1;show run zB (goX zB head 0) (if Le [] t s then .ret (.val .nl) else .fail)=_
   rw[if_pos hl];rfl
end
section
variable{P:Program}{E:Env}{call:FuncId->List DV->Option CR}{base:Nat}{S:Nat->Prop}{φ:Nat->Option Nat}{a:Act}{w:World}
theorem zDF{fn:Func}{ds:List DV}{vals:List Value}(hg:GlobOK E S w)(hlt:∀b,S b->b<w.heap.size)(hlen:vals.length=ds.length)(hle:ds.length<=fn.ntmps)
  (hrv:∀i (h:i<ds.length) (h':i<vals.length),RV E.L S w ds[i] vals[i]) :
  Rel E w.heap.size S (λ_=>none) (entry fn ds) { tmps:=vals.toArray++Array.replicate (fn.ntmps - vals.toArray.size) undef,defers:=[] } w:=by
 refine⟨hg,λt v hv=>zJl hlen hrv hle t v hv,λb ob hb=>?_,λb b' ob ob' cb h1=>?_,hlt,AA _,rfl⟩
 ·unfold slot at hb;simp only[entry,By] at hb;split at hb
  ·rename_i hx;split at hx <;> simp at hx
  ·cases hb
 ·unfold slot at h1;simp only[entry,By] at h1;split at h1
  ·rename_i hx;split at hx <;> simp at hx
  ·cases h1
theorem exec_piece(hD:DOK P E)(hm:P.follows .mixedOrders=true)(hc:JC P E call){n:Nat}{c:Code}{st t:St}{Q:Exit->Act->World->Prop}(h:exec E n call c st (KLe t)=some (.val .nl))(hR:Rel E base S φ st a w)
  (hk:∀S' φ' a' w',Rel E base S' φ' t a' w'->Grow base S S' w w'->Q .normal a' w'):c.wp P Q a w :=
 YE hD hm hc c h hR λex st' S' φ' a' w' k1 k2 k3=>by obtain⟨rfl,hl⟩:=zBg k1;exact hk S' φ' a' w' (k2.le hl) k3
theorem exec_pre3(hD:DOK P E)(hm:P.follows .mixedOrders=true)(hc:JC P E call){n:Nat}{c1 c2 c3 rng tail:Code}{st t:St}{Q:Exit->Act->World->Prop}(h:exec E n call (.seq c1 (.seq c2 c3)) st (KLe t)=some (.val .nl))(hR:Rel E base S φ st a w)
  (hk:∀S' φ' a' w',Rel E base S' φ' t a' w'->Grow base S S' w w'->rng.wp P (Exit.then (tail.wp P Q) Q) a' w'):(Code.seq c1 (.seq c2 (.seq (.seq c3 rng) tail))).wp P Q a w:=by
 refine wp_seq (YE hD hm hc c1 (K:=QR (λst'=>exec E n call (.seq c2 c3) st' (KLe t)) (KLe t)) h hR λex st1 S1 φ1 a1 w1 k1 k2 k3=>?_)
 cases ex with
 | exit id=>exact absurd (zBg k1).1 (by simp)
 | ret=>exact absurd (zBg k1).1 (by simp)
 | normal =>
  refine wp_seq (YE hD hm hc c2 (K:=QR (λst'=>exec E n call c3 st' (KLe t)) (KLe t)) k1 k2 λex st2 S2 φ2 a2 w2 j1 j2 j3=>?_)
  cases ex with
  | exit id=>exact absurd (zBg j1).1 (by simp)
  | ret=>exact absurd (zBg j1).1 (by simp)
  | normal =>
   refine wp_seq (wp_seq (exec_piece hD hm hc j1 j2 λS' φ' a' w' i1 i2=>?_))
   exact hk S' φ' a' w' i1 ((k3.trans j3).trans i2)
theorem tail_wp{fn:Func}{i ty t1 t2 p:Nat}{s1 s2:String}{af1 af2:Array Edge}{w0:World}{S0:Nat->Prop}{tm:List AV}{hp:List (Option OB)}{Dd:Nat}{x:AV}{r:CR}{fresh:Bool}
  (hD:DOK P E) (hR:Rel E w0.heap.size S φ ⟨tm,hp⟩ a w) (hG:Grow w0.heap.size S0 S w0 w) (hdf:w.heap[Dd]? = some (.deferred (some []))) (hnS:¬S Dd) (hb:w0.heap.size<=Dd)
  {v:AV} (htm:tm[p]? = some v) (hl:Yg E ty hp v=some { v:=x }) (hfin:fin E fresh fn ⟨j5 (j5 tm (some t1) x) (some t2) x,hp⟩=some r) (h1:t1<tm.length) :
  (Code.seq (.region i #[{ dst:=some t1,op:=.load ty (.tmp p),type:=ty,pos:=s1,after:=af1,guard:=none },{ dst:=some t2,op:=.assign (.tmp t1),type:=ty,pos:=s2,after:=af2,guard:=none }] false) .ret).wp P
   (bodyPostM Bd 0 P fn λe w'=>∃v,e=.returned v/\zAa E S0 w0 r v w') { a with defers:={ target:=.collected Dd,args:=#[] } :: a.defers } w:=by
 obtain⟨u,hu,hru⟩:=hR.tm p v htm;obtain⟨x',ur,he,hrun,hrx⟩:=qo hD hR hru hl;have he':x=x':=by simpa using congrArg Eff.v he
 subst he';have hev:a.eval (.tmp p)=u:=by simp only[B8,Bp,hu,BQ]
 let b:Act:={ a with defers:={ target:=.collected Dd,args:=#[] } :: a.defers }
 have hlen:∃u1,a.tmps[t1]? = some u1:=by obtain⟨v1,hv1⟩:∃v1,tm[t1]? = some v1:=⟨_,Aj h1⟩;obtain⟨u1,hu1,_⟩:=hR.tm t1 v1 hv1;exact⟨u1,hu1⟩
 obtain⟨u1,hu1⟩:=hlen;have hlt1:t1<a.tmps.size:=(Ah.1 hu1).1;have hput:(b.put (some t1) ur).eval (.tmp t1)=ur:=by simp only[B8,Act.put,b,Bp,Array.getElem?_setIfInBounds_self_of_lt hlt1,BQ]
 have hlast:bodyPostM Bd 0 P fn (λe w'=>∃v,e=.returned v/\zAa E S0 w0 r v w') .ret ((b.put (some t1) ur).put (some t2) ur) w:=by
  have hR2:=(hR.put (some t1) hrx).put (some t2) hrx;have hodd:Odd (.deferred (some [])):=zHu _;have hR3:=hR2.turn hdf hodd hnS (.deferred none);have hG3:Grow w0.heap.size S0 S w0 (w.putObj Dd (.deferred none)):=⟨Qa hG.below hR.base hb _,hG.sub,hG.new,λk hk=>by
   rw[AP (by rintro rfl;exact hnS (hG.sub _ hk))]
   exact hG.kept k hk⟩
  obtain⟨hd,v,hv1,hv2⟩:=Jz hD hR3 hG3 hfin;show LeavesInM Bd 0 P fn _ _ ({ target:=.collected Dd,args:=#[] } :: a.defers) .returning w;rw[hR.dfr];exact⟨by simp,.inl ⟨Dd,_,rfl,run_takeDeferred hdf,v,hv1,v,rfl,hv2⟩⟩
 refine wp_seq (wp_region ?_);simp only[AH,An,AM,Ce,Bl,BW,Al,Au,wpOps,BE,Bz,List.getElem?_cons_succ,A9,if_true];refine .inl ?_;have e1:b.eval (.tmp p)=u:=hev;unfold B9;simp only[execOp];rw[show({ a with defers:={ target:=.collected Dd,args:=#[] } :: a.defers }:Act)=b from rfl,e1]
 simp only[Sem.run_bind,hrun,Result.andThen_ok,Sem.run_pure,Oper.upon];refine .inl ?_;rw[hput];exact wp_ret hlast
end
end Go.Am
namespace Go.Am
open Go.Proofs
open Go Go.RowKit
def zDS(n b:Nat):Value:=.slice (some ⟨b,0,none⟩) n n
def zrow(n:Nat):Array Value:=madeCells #[.int .i64 0] n
structure RowsI(W wr:World)(wk wd:Array Value)(pa:Option Addr)(n c k:Nat):Prop where
 below:Below W.heap.size W wr
 h0:wr.heap[W.heap.size]? = some (.cells wk 59 (0,0))
 h1:wr.heap[W.heap.size+1]? = some (.cells #[.slice pa n c] 81 (0,0))
 h2:wr.heap[W.heap.size+1+1]? = some (.cells wd 251 (0,0))
 out:∃(v:Value) (rs:List Nat),wr.heap[W.heap.size+1+1+1]? = some (.cells #[v] 95 (0,0))/\wr.ownsRow (W.heap.size+1+1+1+1) 25 1 v k (rs.map (zDS n))/\rs.length=k/\rs.Nodup /\
  ∀b∈rs,W.heap.size+1+1+1+1<=b/\wr.heap[b]? = some (.cells (zrow n) 3 (0,0))/\v.ownBlock≠some b
theorem zDj{P:Program}{ops:Array Oper}{o:Oper}{a:Act}{w:World}{K:Act->World->Prop}{Q:Exit->Act->World->Prop}{E:Prop}
  (hg:o.guard=none) (s x:Operand) (t:TypeId) (hop:o.op=Op.call { callee:=Callee.builtin Builtin.append,args:=#[s,x],argTypes:=#[t,t] })
  (base:Nat) (e:TypeId) (i:TypeInfo) (z:Value) (size bytes:Nat) (ht:P.underlying t=some (.slice e)) (hi:P.info? e=some i) (hz:i.zero=some z)
  (hsize:i.size=size) (hby:i.bytes=bytes) (hzs:z.cells.size=size) (hsz:0<size)
  (v:Value) (n:Nat) (xs:List Value) (hs:a.eval s=v) (hown:w.ownsRow base e size v n xs)
  (ad:Addr) (m c:Nat) (news:List Value) (hx:a.eval x=.slice (some ad) m c) (hl:news.length=m * size) (hnews:∀j u,news[j]? = some u->w.cell? (ad.add j)=some u) (h1:∀u∈news,u.oneCell'=true)
  (h63:n+m<=maxLen) (hbytes:(n+m) * bytes<=140737488355328) (hbase:base<=w.heap.size)
  (hK:∀v' w',w'.ownsRow base e size v' (n+m) (xs++news)->w.grownBy w' v.ownBlock->K (a.put o.dst v') w') :
  if A9 o (yielded ops a.tmps)=true then B9 P o a w K Q else E:=by
 rw[if_pos (by simp[A9,hg])]
 exact wp_append_own w s x t hop base e i z size bytes ht hi hz hsize hby hzs hsz v n xs hs hown ad m c news hx hl hnews h1 h63 hbytes hbase λv' w' h1 h2 _=>hK v' w' h1 h2
theorem rows_start(W:World)(wk wd:Array Value)(pa:Option Addr)(n c:Nat) :
  RowsI W ((((W.alloc (.cells wk 59)).alloc (.cells #[.slice pa n c] 81)).alloc (.cells wd 251)).alloc (.cells #[.slice none 0 0] 95)) wk wd pa n c 0:=by
 have h0:(W.alloc (.cells wk 59)).heap[W.heap.size]? = some (.cells wk 59 (0,0)):=At _ _;have h1:((W.alloc (.cells wk 59)).alloc (.cells #[.slice pa n c] 81)).heap[W.heap.size+1]? = some (.cells #[.slice pa n c] 81 (0,0)):=by have:=At (W.alloc (.cells wk 59)) (.cells #[.slice pa n c] 81);rwa [Af] at this
 have h2:(((W.alloc (.cells wk 59)).alloc (.cells #[.slice pa n c] 81)).alloc (.cells wd 251)).heap[W.heap.size+1+1]? = some (.cells wd 251 (0,0)):=by have:=At ((W.alloc (.cells wk 59)).alloc (.cells #[.slice pa n c] 81)) (.cells wd 251);rwa [Af,Af] at this
 have h3:((((W.alloc (.cells wk 59)).alloc (.cells #[.slice pa n c] 81)).alloc (.cells wd 251)).alloc (.cells #[.slice none 0 0] 95)).heap[W.heap.size+1+1+1]? = some (.cells #[.slice none 0 0] 95 (0,0)):=by have:=At (((W.alloc (.cells wk 59)).alloc (.cells #[.slice pa n c] 81)).alloc (.cells wd 251)) (.cells #[.slice none 0 0] 95);rwa [Af,Af,Af] at this
 refine⟨((((BN _ W).alloc (AA _) _).alloc (by simp <;> omega) _).alloc (by simp <;> omega) _).alloc (by simp <;> omega) _,?_,?_,?_,.slice none 0 0,[],h3,BP _ _ _ _,rfl,List.nodup_nil,λb hb=>by simp at hb⟩
 ·rw[Ag _ _ _ (by simp <;> omega),Ag _ _ _ (by simp <;> omega),Ag _ _ _ (by simp <;> omega)];exact h0
 ·rw[Ag _ _ _ (by simp <;> omega),Ag _ _ _ (by simp <;> omega)];exact h1
 ·rw[Ag _ _ _ (by simp <;> omega)];exact h2
theorem own_up{w:World}{base e size n:Nat}{v:Value}{xs:List Value}(h:w.ownsRow base e size v n xs)(o1 o2:Obj):((w.alloc o1).alloc o2).drew.ownsRow base e size v n xs:=by refine⟨h.1,h.2.imp id ?_⟩;rintro⟨g,cap,cur,e1,e2,e3,e4⟩;refine⟨g,cap,cur,e1,e2,?_,e4⟩;have hlt:g<w.heap.size:=(Ah.1 e3).1;exact(Ag _ _ _ (by simp;omega)).trans ((Ag _ _ _ hlt).trans e3)
theorem news_up(w:World)(o1:Obj)(n b t:Nat):∀(j:Nat) (u:Value),[zDS n b][j]? = some u->((w.alloc o1).alloc (.cells #[.slice (some ⟨b,0,none⟩) n n] t)).drew.cell? ((⟨w.heap.size+1,0,none⟩:Addr).add j)=some u:=by
 intro j u hj;cases j with
 | zero =>
  have:=At (w.alloc o1) (.cells #[.slice (some ⟨b,0,none⟩) n n] t);rw[Af] at this;rw[jr rfl];show AZ (World.drew _) _=_;unfold AZ;rw[show((w.alloc o1).alloc (.cells #[.slice (some ⟨b,0,none⟩) n n] t)).drew.heap=((w.alloc o1).alloc (.cells #[.slice (some ⟨b,0,none⟩) n n] t)).heap from rfl]
  simp only[this];exact hj
 | succ j=>simp at hj
theorem ones_row(n b:Nat):∀u∈[zDS n b],u.oneCell'=true:=by intro u hu;rw[AQ.1 hu];rfl
theorem base_up{w:World}{b:Nat}(h:b<=w.heap.size)(o1 o2:Obj):b<=((w.alloc o1).alloc o2).drew.heap.size:=by show b<=((w.alloc o1).alloc o2).heap.size;rw[Af,Af];omega
theorem zHx{wr w2:World}{o1 o2:Obj}{v:Value}(h2:(((wr.alloc o1).alloc o2).drew).grownBy w2 v.ownBlock){k:Nat}(hk:k<wr.heap.size)(hne:some k≠v.ownBlock):w2.heap[k]? = wr.heap[k]?:=by
 refine(h2.block k ?_ hne).trans ?_
 ·show k<((wr.alloc o1).alloc o2).heap.size;rw[Af,Af];omega
 ·exact(Ag _ _ _ (by simp;omega)).trans (Ag _ _ _ hk)
theorem zGJ{w:World}{base e size n:Nat}{v:Value}{xs:List Value}(h:w.ownsRow base e size v n xs){k:Nat}(hk:k<base):some k≠v.ownBlock:=by
 rcases h.2 with ⟨rfl,_⟩ | ⟨g,cap,cur,rfl,e2,_⟩
 ·simp[AI]
 ·simp only[AI];intro e;injection e with e
  omega
theorem zCX{w:World}{base e size k:Nat}{v:Value}{xs:List Value}(h:w.ownsRow base e size v (k+1) xs):∃g cap,v=.slice (some ⟨g,0,none⟩) (k+1) cap:=by
 rcases h.2 with ⟨_,h⟩ | ⟨g,cap,cur,e1,_⟩
 ·omega
 ·exact⟨g,cap,e1⟩
theorem zEp{w:World}{b:Nat}{v:Value}{t:Nat}(h:w.heap[b]? = some (.cells #[v] t (0,0))):w.cell? ⟨b,0,none⟩=some v/\w.frozen? ⟨b,0,none⟩=false:=by
 constructor
 ·unfold AZ;simp only[h];rfl
 ·unfold B0;simp[h]
theorem rows_step{W wr w2:World}{wk wd:Array Value}{pa:Option Addr}{n c k:Nat}{v v':Value}{rs:List Nat}{O:Obj}(h:RowsI W wr wk wd pa n c k)
  (hv:wr.heap[W.heap.size+1+1+1]? = some (.cells #[v] 95 (0,0))) (hown:wr.ownsRow (W.heap.size+1+1+1+1) 25 1 v k (rs.map (zDS n))) (hl:rs.length=k) (hnd:rs.Nodup)
  (hrs:∀b∈rs,W.heap.size+1+1+1+1<=b/\wr.heap[b]? = some (.cells (zrow n) 3 (0,0))/\v.ownBlock≠some b)
  (h1:w2.ownsRow (W.heap.size+1+1+1+1) 25 1 v' (k+1) (rs.map (zDS n)++[zDS n wr.heap.size])) (h2:(((wr.alloc (.cells (zrow n) 3)).alloc O).drew).grownBy w2 v.ownBlock) :
  RowsI W (w2.setCell ⟨W.heap.size+1+1+1,0,none⟩ v') wk wd pa n c (k+1):=by
 obtain⟨g,cap,rfl⟩:=zCX h1;have hbs:W.heap.size+1+1+1+1<=wr.heap.size:=(Ah.1 hv).1;have hkeep:∀j,j<W.heap.size+1+1+1+1->w2.heap[j]? = wr.heap[j]?:=λj hj=>zHx h2 (by omega) (zGJ hown (by omega))
 have hset:∀j,j≠W.heap.size+1+1+1->(w2.setCell ⟨W.heap.size+1+1+1,0,none⟩ (.slice (some ⟨g,0,none⟩) (k+1) cap)).heap[j]? = w2.heap[j]?:=λj hj=>BO _ _ _ _ hj
 have hvb:∀b,v.ownBlock=some b->b<wr.heap.size/\∃cur,wr.heap[b]? = some (.cells cur 25 (0,0)):=by
  intro b hb;rcases hown.2 with ⟨rfl,_⟩ | ⟨g,cap,cur,rfl,e2,e3,_⟩
  ·simp[AI] at hb
  ·simp only[AI,AT] at hb;subst hb;exact⟨(Ah.1 e3).1,cur,e3⟩
 have hnew:w2.heap[wr.heap.size]? = some (.cells (zrow n) 3 (0,0)):=by
  refine(h2.block wr.heap.size ?_ ?_).trans ?_
  ·show wr.heap.size<((wr.alloc _).alloc _).heap.size;rw[Af,Af];omega
  ·intro e;have:=(hvb _ e.symm).1;omega
  ·exact(Ag _ _ _ (by simp)).trans (At _ _)
 have hrows:∀b∈rs++[wr.heap.size],W.heap.size+1+1+1+1<=b/\w2.heap[b]? = some (.cells (zrow n) 3 (0,0)):=by
  intro b hb;rcases BX.1 hb with hb | hb
  ·obtain⟨b1,b2,b3⟩:=hrs b hb;have hlt:b<wr.heap.size:=(Ah.1 b2).1;exact⟨b1,(zHx h2 hlt (λe=>b3 e.symm)).trans b2⟩
  ·rw[AQ.1 hb];exact⟨hbs,hnew⟩
 have hcell:(w2.setCell ⟨W.heap.size+1+1+1,0,none⟩ (.slice (some ⟨g,0,none⟩) (k+1) cap)).heap[W.heap.size+1+1+1]? = some (.cells #[.slice (some ⟨g,0,none⟩) (k+1) cap] 95 (0,0)):=by
  have h0:=(hkeep _ (by omega)).trans hv
  unfold BZ;simp only[BA,if_true,h0];rfl
 have hg:W.heap.size+1+1+1+1<=g/\∃cur,w2.heap[g]? = some (.cells cur 25 (0,0)):=by
  rcases h1.2 with ⟨e,_⟩ | ⟨g',cap',cur,e1,e2,e3,_⟩
  ·simp at e
  ·simp only[Cl,AT,Addr.mk.injEq,and_true,true_and] at e1;obtain⟨rfl,rfl⟩:=e1;exact⟨e2,cur,e3⟩
 refine⟨?_,?_,?_,?_,.slice (some ⟨g,0,none⟩) (k+1) cap,rs++[wr.heap.size],hcell,?_,by simp[hl],?_,λb hb=>?_⟩
 ·refine B4 (h.below.trans ⟨h2.os,h2.tape,h2.output,?_,λj hj=>hkeep j (by omega)⟩) (by show W.heap.size<=W.heap.size+1+1+1;omega) _
  have:=h2.size;have e:(((wr.alloc (.cells (zrow n) 3)).alloc O).drew).heap.size=wr.heap.size+1+1:=by show((wr.alloc _).alloc _).heap.size=_;rw[Af,Af]
  omega
 ·rw[hset _ (by omega),hkeep _ (by omega)];exact h.h0
 ·rw[hset _ (by omega),hkeep _ (by omega)];exact h.h1
 ·rw[hset _ (by omega),hkeep _ (by omega)];exact h.h2
 ·rw[A4];refine⟨h1.1,h1.2.imp id ?_⟩;rintro⟨g',cap',cur,e1,e2,e3,e4⟩;exact⟨g',cap',cur,e1,e2,(hset _ (by omega)).trans e3,e4⟩
 ·rw[List.nodup_append];refine⟨hnd,by simp,λa ha b hb=>?_⟩
  rw[AQ.1 hb];rintro rfl;have:=(Ah.1 (hrs _ ha).2.1).1;omega
 ·obtain⟨b1,b2⟩:=hrows b hb;refine⟨b1,(hset _ (by omega)).trans b2,?_⟩
  simp only[AI,ne_eq,AT];rintro rfl;obtain⟨_,cur,hc⟩:=hg;rw[b2] at hc;injection hc with hc
  injection hc with _ hc _;exact absurd hc (by decide)
structure Facts(W:World)(wk wd:Array Value)(pa:Option Addr)(n c:Nat)(a:Act)(w:World):Prop where
 dfr:a.defers=[]
 size:a.tmps.size=47
 t3:a.tmps[3]? = some (.pointer (some ⟨W.heap.size,0,none⟩))
 t4:a.tmps[4]? = some (.pointer (some ⟨W.heap.size+1,0,none⟩))
 t5:a.tmps[5]? = some (.pointer (some ⟨W.heap.size+1+1,0,none⟩))
 t7:a.tmps[7]? = some (.pointer (some ⟨W.heap.size+1+1+1,0,none⟩))
 rows:RowsI W w wk wd pa n c n
def Q1(W:World)(wk wd:Array Value)(pa:Option Addr)(n c:Nat):Exit->Act->World->Prop
 | .normal,a,w=>Facts W wk wd pa n c a w
 | _,_,_=>False
noncomputable def k200r:Code:=match Tryz.f200.body with
 | some (.seq _ (.seq _ (.seq _ r)))=>r
 | _=>.skip
set_option maxRecDepth 100000 in
set_option maxHeartbeats 4000000 in
theorem rows200(wk wd:Array Value)(pa:Option Addr)(n c:Nat)(hn:n<=64)(W:World)(R:Ending->World->Prop)
  (hrest:∀a w,Facts W wk wd pa n c a w->k200r.wp Tryz.prog (bodyPostM Bd 0 Tryz.prog Tryz.f200 R) a w):Calls Tryz.prog 200 #[.agg wk,.slice pa n c,.agg wd] W R:=by
 have mixed:Tryz.prog.follows .mixedOrders=true:=by kernel_rfl
 have info3:(Tryz.prog.info? 3).map (λi=>(i.zero,i.size,i.bytes))=some (some (.int .i64 0),1,8):=by kernel_rfl
 have info25:(Tryz.prog.info? 25).map (λi=>(i.zero,i.size,i.bytes))=some (some (.slice none 0 0),1,24):=by kernel_rfl
 obtain⟨i25,hi25,hz25,hs25,hb25⟩:=info_parts info25;have hmk25:=run_make_row' (P:=Tryz.prog) 25 3 (.int .i64 0) 8 Tryz.underlying25 info3 rfl .i64 .i64 n (by omega) (by omega)
 refine(callsIn_wide (n:=0)).1 (callsIn_of_wp_marks Tryz.func200 rfl trivial (wpIn_wide.2 ?_));simp only[Tryz.ntmps200,AH,An,AM,Bx,Bw,A8,A7,Bf,Bb,Al,Au];go_wp2;rename_i K ha;refine Code.wp_mono (Q:=Cc 0 (Q1 W wk wd pa n c)) (λe a w h=>?_) ?_
 ·cases e with
  | normal=>exact ha a w (hrest a w h)
  | exit i =>
   simp only[Cc] at h ⊢;split at h
   ·rename_i e0;rw[if_pos e0];exact ha a w (hrest a w h)
   ·exact h.elim
  | _=>exact False.elim h
 clear ha K hrest
 go_loopw [12] (λp wr=>∃k:Nat,p=.int .i64 k/\k<=n/\RowsI W wr wk wd pa n c k) (λp _=>n - QT p)
 case atStart=>exact⟨0,rfl,Az _,rows_start W wk wd pa n c⟩
 case round =>
  obtain⟨k,rfl,hk,hI⟩:=hrel;obtain⟨v,rs,hv,hown,hl,hnd,hrs⟩:=hI.out;have hc4:wr.cell? ⟨W.heap.size+1,0,none⟩=some (.slice pa n c):=by unfold AZ;simp only[hI.h1];rfl
  have hc7:wr.cell? ⟨W.heap.size+1+1+1,0,none⟩=some v:=by unfold AZ;simp only[hv];rfl
  have hf7:wr.frozen? ⟨W.heap.size+1+1+1,0,none⟩=false:=by unfold B0;simp[hv]
  by_cases hkn:k<n
  ·have h63:k+1<=maxLen:=by unfold maxLen;omega
   have h24:(k+1) * 24<=140737488355328:=by omega
   have hbs:W.heap.size+1+1+1+1<=wr.heap.size:=(Ah.1 hv).1;have hc7a:∀o,(wr.alloc o).cell? ⟨W.heap.size+1+1+1,0,none⟩=some v:=λo=>(BB (a:=⟨W.heap.size+1+1+1,0,none⟩) (Ag _ _ _ (by show W.heap.size+1+1+1<_;omega))).trans hc7
   have hc7b:∀o o',((wr.alloc o).alloc o').cell? ⟨W.heap.size+1+1+1,0,none⟩=some v:=λo o'=>(BB (a:=⟨W.heap.size+1+1+1,0,none⟩) (Ag _ _ _ (by show W.heap.size+1+1+1<_;rw[Af];omega))).trans (hc7a o)
   go_wp2
   go_region_law (refine zDj rfl (.tmp 14) (.tmp 18) 95 rfl (W.heap.size+1+1+1+1) 25 i25 (.slice none 0 0) 1 24 Tryz.underlying95 hi25 hz25 hs25 hb25 rfl (by decide) v k (rs.map (zDS n)) rfl (own_up hown _ _) _ 1 1 [zDS n wr.heap.size] rfl rfl (news_up _ _ _ _ _) (ones_row _ _) h63 h24 (base_up hbs _ _) ?_;intro v' w2 hv' hw2;obtain⟨g,cap,rfl⟩:=zCX hv';obtain⟨hcA,hfA⟩:=zEp ((zHx hw2 (by omega) (zGJ hown (by omega))).trans hv))
   all_goals
    have hstep:=rows_step hI hv hown hl hnd hrs hv' hw2;rename_i K ha;refine ha _ _ ?_;clear hI hv hown hl hnd hrs hv' hw2 hcA hfA hc4 hc7 hf7 hc7a hc7b hmk25;go_wp2
    go_roundw
    case rel=>exact⟨k+1,by simp,by omega,hstep⟩
    case measure=>simp[QT];omega
  ·go_wp2;obtain rfl:k=n:=by omega
   exact⟨rfl,rfl,rfl,rfl,rfl,rfl,hI⟩
end Go.Am
namespace Go.Am
open Go.Proofs
open Go Go.RowKit
attribute [local go_sem] BV
theorem own_up1{w:World}{base e size n:Nat}{v:Value}{xs:List Value}(h:w.ownsRow base e size v n xs)(o1:Obj):(w.alloc o1).ownsRow base e size v n xs:=by refine⟨h.1,h.2.imp id ?_⟩;rintro⟨g,cap,cur,e1,e2,e3,e4⟩;exact⟨g,cap,cur,e1,e2,(Ag _ _ _ (Ah.1 e3).1).trans e3,e4⟩
theorem news_up1(w:World)(x:Value)(t:Nat):∀(j:Nat) (u:Value),[x][j]? = some u->(w.alloc (.cells #[x] t)).cell? ((⟨w.heap.size,0,none⟩:Addr).add j)=some u:=by
 intro j u hj;cases j with
 | zero =>
  rw[jr rfl];unfold AZ;simp only[At];exact hj
 | succ j=>simp at hj
theorem zAw{wr w2:World}{o1:Obj}{v:Value}(h2:(wr.alloc o1).grownBy w2 v.ownBlock){k:Nat}(hk:k<wr.heap.size)(hne:some k≠v.ownBlock):w2.heap[k]? = wr.heap[k]?:=by refine(h2.block k ?_ hne).trans (Ag _ _ _ hk);rw[Af];omega
theorem zJP{w:World}{base e size n:Nat}{v:Value}{xs:List Value}(h:w.ownsRow base e size v n xs){k:Nat}(hk:∀cs t,w.heap[k]?≠some (.cells cs t (0,0))):some k≠v.ownBlock:=by
 rcases h.2 with ⟨rfl,_⟩ | ⟨g,cap,cur,rfl,e2,e3,_⟩
 ·simp[AI]
 ·simp only[AI];intro e;injection e with e
  subst e;exact hk _ _ e3
structure AppI(W:World)(l:List Int)(k:Nat)(V:World):Prop where
 le:k<=l.length
 below:Below W.heap.size W V
 out:∃v,V.heap[W.heap.size]? = some (.cells #[v] 25 (0,0))/\V.ownsRow (W.heap.size+1) 3 1 v k ((l.take k).map (Bi .i64))
theorem zC4{V V':World}{base e size k:Nat}{v:Value}{xs:List Value}(h:V.ownsRow base e size v k xs)(hk:∀g cs t,base<=g->V.heap[g]? = some (.cells cs t (0,0))->V'.heap[g]? = V.heap[g]?):V'.ownsRow base e size v k xs:=by refine⟨h.1,h.2.imp id ?_⟩;rintro⟨g,cap,cur,e1,e2,e3,e4⟩;exact⟨g,cap,cur,e1,e2,(hk g _ _ e2 e3).trans e3,e4⟩
theorem asg1_wp{P:Program}{F:Fence}{l n:Nat}{i1:Nat}{t1 p1:Tmp}{ty:TypeId}{s1:String}{K:Act->World->Prop}{a:Act}{w:World}(h:K (a.put (some t1) (a.eval (.tmp p1))) w) :
  (Code.region i1 #[{ dst:=some t1,op:=.assign (.tmp p1),type:=ty,pos:=s1,after:=#[],guard:=none }] false).wpIn (F.inRound l) n P (Exit.then K (λ_ _ _=>False)) a w:=by
 refine wpIn_region ?_;simp only[AH,An,AM,Ce,Bl,BW,Al,wpOpsIn,BE,Bz,A9,if_true,Oper.wpIn];refine⟨λf hf=>by simp[Oper.about] at hf,?_⟩
 rw[show(F.inRound l).round=some l from rfl,Oper.semAt_eq _ _ _ (λc h=>by cases h)]
 simp only[go_sem];exact h
set_option maxRecDepth 100000 in
set_option maxHeartbeats 2000000 in
theorem append_seq(gf:Nat)(lb:Array Value)(l:List Int)(hl:l.length<=100000)(W:World)(C:World->Prop)(eg:∀args w,(callFunc gf args).run Tryz.prog w=.ok (.enter gf args) w)
  (hseq:SeqR Tryz.prog gf lb (l.map encI) C) (hC:∀V,Below W.heap.size W V->C V) :
  Calls Tryz.prog 327 #[.slice none 0 0,.func (.func gf) #[] lb] W λe w'=>∃v,e=.returned v/\w'.ownsRow (W.heap.size+1) 3 1 v l.length (l.map (Bi .i64))/\Below W.heap.size W w':=by
 have info3:(Tryz.prog.info? 3).map (λi=>(i.zero,i.size,i.bytes))=some (some (.int .i64 0),1,8):=by kernel_rfl
 obtain⟨i3,hi3,hz3,hs3,hb3⟩:=info_parts info3;refine(callsIn_wide (n:=0)).1 (callsIn_of_wp_marks Tryz.func327 rfl trivial ?_);simp only[Tryz.ntmps327,AH,An,AM,Bx,Bw,A8,A7,Bf,Bb,Al,Au]
 gi_wp2
 rename_i K ha;have hb0:(W.alloc (.cells #[.slice none 0 0] 25)).heap.size=W.heap.size+1:=Af _ _;refine zAh (gf:=gf) (lb:=lb) (C:=C) (xs:=l.map encI) rfl eg hseq (λx hx=>by obtain⟨p,_,rfl⟩:=AC.1 hx;rfl) (AppI W l) ?_ ?_ ?_
  (λx=>({ tmps:=((#[7]:Array Tmp).zip x).foldl (λt (p,v)=>t.setIfInBounds p v) #[.slice none 0 0,.func (.func gf) #[] lb,.pointer (some ⟨W.heap.size,0,none⟩),undef,.slice none 0 0,undef,.func (.func gf) #[] lb,undef,undef,undef,undef,undef,undef],defers:=[] }:Act).put (some 5)
   (({ tmps:=((#[7]:Array Tmp).zip x).foldl (λt (p,v)=>t.setIfInBounds p v) #[.slice none 0 0,.func (.func gf) #[] lb,.pointer (some ⟨W.heap.size,0,none⟩),undef,.slice none 0 0,undef,.func (.func gf) #[] lb,undef,undef,undef,undef,undef,undef],defers:=[] }:Act).eval (.tmp 7))) ?_ ?_ ?_
 ·intro k V r o hI hlo;rw[hb0] at hlo ⊢;obtain⟨v,h1,h2⟩:=hI.out;refine⟨hI.le,Qa hI.below hI.below.size (by omega) o,v,?_,zC4 h2 λg cs t hg hh=>AP ?_⟩
  ·exact(AP (by omega)).trans h1
  ·rintro rfl;rw[hlo] at hh;injection hh with hh
   cases hh
 ·intro k V hI;exact hC V hI.below
 ·intro r;refine⟨Az _,(((BN _ W).alloc (AA _) _).alloc (by simp) _).alloc (by simp <;> omega) _,.slice none 0 0,?_,BP _ _ _ _⟩
  rw[Ag _ _ _ (by simp <;> omega),Ag _ _ _ (by simp)]
  exact At _ _
 ·intro k x V K hx hK;exact asg1_wp hK
 ·intro k x V r hx hI hlo hDo;rw[hb0] at hlo hDo ⊢;rw[Bg] at hx;have hkl:k<l.length:=by
   by_cases h:k<l.length
   ·exact h
   ·rw[BF (by omega)] at hx;simp at hx
  rw[Aj hkl] at hx;simp only[Option.map_some,AT] at hx;subst hx;obtain⟨v,h1,h2⟩:=hI.out;obtain⟨hc1,hf1⟩:=zEp h1;have hbs:W.heap.size+1<=V.heap.size:=(Ah.1 h1).1;have hVl:W.heap.size+1+1<V.heap.size:=(Ah.1 hlo).1;have h63:k+1<=maxLen:=by unfold maxLen;omega
  have h8:(k+1) * 8<=140737488355328:=by omega
  simp only[encI,Act.put,B8,List.zip_toArray,List.zip_cons_cons,List.zip_nil_left,AH,An,AM,List.foldl_toArray',List.foldl_cons,List.foldl_nil]
  gi_wp2_with (gi_at_builtin;refine wpListIn_append_own _ rfl (.tmp 8) (.tmp 10) 25 rfl (W.heap.size+1) 3 i3 (.int .i64 0) 1 8 Tryz.underlying25 hi3 hz3 hs3 hb3 rfl (by decide) v k _ rfl (own_up1 h2 _) _ 1 1 [.int .i64 l[k]] rfl rfl (news_up1 _ _ _) (by intro u hu;rw[AQ.1 hu];rfl) h63 h8 (by rw[Af];omega) ?_;intro v' w2 hv' hw2 _;obtain⟨g,cap,rfl⟩:=zCX hv';obtain⟨hcA,hfA⟩:=zEp ((zAw hw2 (by omega) (zGJ h2 (by omega))).trans h1))
  have hset:∀j,j≠W.heap.size->(w2.setCell ⟨W.heap.size,0,none⟩ (.slice (some ⟨g,0,none⟩) (k+1) cap)).heap[j]? = w2.heap[j]?:=λj hj=>BO _ _ _ _ hj
  have hN:=(zAw hw2 (show W.heap.size<V.heap.size by omega) (zGJ h2 (by omega))).trans h1
  have hsz:V.heap.size<=w2.heap.size:=by have:=hw2.size;rw[Af] at this;omega
  refine⟨⟨by omega,?_,.slice (some ⟨g,0,none⟩) (k+1) cap,?_,?_⟩,?_,?_⟩
  ·refine B4 (hI.below.trans ⟨hw2.os,hw2.tape,hw2.output,hsz,λj hj=>zAw hw2 (by omega) (zGJ h2 (by omega))⟩) (AA _) _
  ·unfold BZ;simp only[BA,if_true,hN];rfl
  ·rw[B2,Aj hkl,A4];exact zC4 hv' λg cs t hg _=>hset _ (by omega)
  ·rw[hset _ (by omega),zAw hw2 hVl (zJP h2 (λcs t h=>by rw[hlo] at h;injection h with h;cases h))]
   simp
  ·rw[hset _ (by omega),zAw hw2 (by omega) (zJP h2 (λcs t h=>by rw[hDo] at h;injection h with h;cases h))]
   exact hDo
 ·intro V hI hDo;rw[AN] at hI;rw[hb0] at hDo ⊢;refine ha _ _ ?_;clear ha;obtain⟨v,h1,h2⟩:=hI.out;have hc1:=(zEp h1).1
  gi_wp2
  show LeavesInM Bd 0 Tryz.prog Tryz.f327 _ _ [{ target:=.collected (W.heap.size+1),args:=#[] }] .returning V;refine⟨by simp,.inl ⟨_,_,rfl,run_takeDeferred hDo,v,by rw[results_tmp (fn:=Tryz.f327) (t:=4) rfl];rfl,v,rfl,zC4 ?_ λg cs t hg hh=>AP ?_,Qa hI.below hI.below.size (by omega) _⟩⟩
  ·rw[List.take_length] at h2;exact h2
  ·rintro rfl;rw[hDo] at hh;injection hh with hh
   cases hh
end Go.Am
namespace Go.Proofs
open Go.Shelf
def Tryz.lays189_ren:AE:=⟨λ| 189=>286 | 125=>259 | 257=>328 | 128=>309 | 129=>310 | 294=>365 | 295=>366 | 296=>367 | 297=>368 | 298=>369 | 299=>370 | 216=>371 | 300=>372 | 301=>373 | 328=>393 | 329=>341 | 330=>342 | 331=>394 | 332=>395 | 215=>311 | 343=>403 | n=>n,λ| 28=>25 | 3=>3 | 46=>235 | 0=>0 | 51=>237 | 53=>421 | 4=>4 | 183=>414 | 182=>413 | 131=>99 | 5=>5 | 9=>9 | 218=>442 | 222=>446 | 228=>477 | 229=>138 | n=>n,λ| n=>n⟩
theorem Tryz.lays189:Ca Tryz.prog Tryz.lays189_ren:={
 mixed:=by kernel_rfl
 f125:=Tryz.func259.trans (congrArg some (by kernel_rfl))
 f128:=Tryz.func309.trans (congrArg some (by kernel_rfl))
 f129:=Tryz.func310.trans (congrArg some (by kernel_rfl))
 f189:=Tryz.func286.trans (congrArg some (by kernel_rfl))
 f215:=Tryz.func311.trans (congrArg some (by kernel_rfl))
 f216:=Tryz.func371.trans (congrArg some (by kernel_rfl))
 f257:=Tryz.func328.trans (congrArg some (by kernel_rfl))
 f294:=Tryz.func365.trans (congrArg some (by kernel_rfl))
 f295:=Tryz.func366.trans (congrArg some (by kernel_rfl))
 f296:=Tryz.func367.trans (congrArg some (by kernel_rfl))
 f297:=Tryz.func368.trans (congrArg some (by kernel_rfl))
 f298:=Tryz.func369.trans (congrArg some (by kernel_rfl))
 f299:=Tryz.func370.trans (congrArg some (by kernel_rfl))
 f300:=Tryz.func372.trans (congrArg some (by kernel_rfl))
 f301:=Tryz.func373.trans (congrArg some (by kernel_rfl))
 f328:=Tryz.func393.trans (congrArg some (by kernel_rfl))
 f329:=Tryz.func341.trans (congrArg some (by kernel_rfl))
 f330:=Tryz.func342.trans (congrArg some (by kernel_rfl))
 f331:=Tryz.func394.trans (congrArg some (by kernel_rfl))
 f332:=Tryz.func395.trans (congrArg some (by kernel_rfl))
 f343:=Tryz.func403.trans (congrArg some (by kernel_rfl))
 t0:=Tryz.underlying0
 a0:=Tryz.isAgg0
 z0:=Tryz.sizeOf0
 v0:=Tryz.zeroValue0
 t3:=Tryz.underlying3
 a3:=Tryz.isAgg3
 z3:=Tryz.sizeOf3
 v3:=Tryz.zeroValue3
 t4:=Tryz.underlying4
 a4:=Tryz.isAgg4
 z4:=Tryz.sizeOf4
 v4:=Tryz.zeroValue4
 t5:=Tryz.underlying5
 a5:=Tryz.isAgg5
 z5:=Tryz.sizeOf5
 v5:=Tryz.zeroValue5
 t9:=Tryz.underlying9
 a9:=Tryz.isAgg9
 z9:=Tryz.sizeOf9
 v9:=Tryz.zeroValue9
 t28:=Tryz.underlying25
 a28:=Tryz.isAgg25
 z28:=Tryz.sizeOf25
 v28:=Tryz.zeroValue25
 t46:=Tryz.underlying235
 a46:=Tryz.isAgg235
 z46:=Tryz.sizeOf235
 v46:=Tryz.zeroValue235
 t51:=Tryz.underlying237
 a51:=Tryz.isAgg237
 z51:=Tryz.sizeOf237
 v51:=Tryz.zeroValue237
 t53:=Tryz.underlying421
 a53:=Tryz.isAgg421
 z53:=Tryz.sizeOf421
 v53:=Tryz.zeroValue421
 t131:=Tryz.underlying99
 a131:=Tryz.isAgg99
 z131:=Tryz.sizeOf99
 v131:=Tryz.zeroValue99
 t182:=Tryz.underlying413
 a182:=Tryz.isAgg413
 z182:=Tryz.sizeOf413
 v182:=Tryz.zeroValue413
 t183:=Tryz.underlying414
 a183:=Tryz.isAgg414
 z183:=Tryz.sizeOf414
 v183:=Tryz.zeroValue414
 t218:=Tryz.underlying442
 a218:=Tryz.isAgg442
 z218:=Tryz.sizeOf442
 v218:=Tryz.zeroValue442
 t222:=Tryz.underlying446
 a222:=Tryz.isAgg446
 z222:=Tryz.sizeOf446
 v222:=Tryz.zeroValue446
 t228:=Tryz.underlying477
 a228:=Tryz.isAgg477
 z228:=Tryz.sizeOf477
 v228:=Tryz.zeroValue477
 t229:=Tryz.underlying138
 a229:=Tryz.isAgg138
 z229:=Tryz.sizeOf138
 v229:=Tryz.zeroValue138 }
open Go.Sort Go.RowKit in
theorem Tryz.slices_Sort_int(blk off cap:Nat)(zs:List Int)(w:World)(hH:Holds (Bi .i64) w blk off zs.toArray)(hblk:blk<w.heap.size)(hsz:zs.length<4611686018427387904) :
  Calls Tryz.prog 286 #[.slice (some ⟨blk,off,none⟩) zs.length cap] w λe w' =>
   e=.returned (.tuple #[])/\∃n os,w'=grow (putRow (Bi .i64) (Sort.ahead w n) blk off (zs.mergeSort λx y=>decide (x<=y)).toArray) os:=Any.slices_Sort_int Tryz.lays189 blk off cap zs w hH hblk hsz
open Go.RowKit Go.Sort in
theorem Tryz.slices_Sort_int_none(p:Option Addr)(cap:Nat)(w:World) :
  Calls Tryz.prog 286 #[.slice p 0 cap] w λe w'=>e=.returned (.tuple #[])/\w'=w:=Any.slices_Sort_int_none Tryz.lays189 p cap w
end Go.Proofs
namespace Go.Am
open Go.Proofs
open Go
def jZ:List Int->Int
 | []=>0
 | x :: r=>x+jZ r
def zB9(a:Int):List Int->Int
 | []=>a
 | x :: r=>zB9 (if x>a then x else a) r
def zCJ(n:Int):Nat->Int->Int
 | 0,r=>r
 | f+1,r=>if (r+1) * (r+1)<=n then zCJ n f (r+1) else r
def qR(n:Int):Int:=zCJ n n.toNat 0
def sqI(l:List Int):List Int:=l.map λn=>n * n
def QW(rule:ByteArray)(l:List Int):Int:=if rule=rG then zB9 0 l else if rule=rS then qR (jZ (sqI l)) else jZ l
def Yn(n:Int):Int:=if n<256 then n else 256
def zGV(w:Wk)(sec:Int)(st a b:Pt):Int:=zBz w.d w.w (Y8 sec st a b).1 (Y8 sec st a b).2
def jk(w:Wk)(ps:List Pt)(sec:Int)(st:Pt)(j:Nat):List Int :=
 (AY ps.length).map λi=>if i=j then 0 else zGV w sec st (ps.getD i default) (ps.getD j default)
def wakesP(w:Wk)(ps:List Pt)(sec:Int)(st:Pt):List (List Int):=(AY ps.length).map (jk w ps sec st)
def JA(w:Wk)(ps:List Pt)(sec:Int)(st:Pt):List Int:=(wakesP w ps sec st).map λl=>Yn (QW w.rule l)
def jL(l:List Int)(v:Int):List Int:=l.map λd=>v * (256 - d)
def zIM(c:Cu):Int:=c.p.getD (c.p.length - 1) 0
def YA(c:Cu)(v:Int):Int :=
 if v / 256>=(c.p.length:Int) - 1 then 256 * zIM c
 else 256 * c.p.getD (v / 256).toNat 0+(c.p.getD ((v / 256).toNat+1) 0 - c.p.getD (v / 256).toNat 0) * (v % 256)
def qA(w:Wk)(c:Cu)(ps:List Pt)(sec v above:Int):List Int:=(jL (JA w ps sec (zY sec)) (v+above)).map (YA c)
def qD(w:Wk)(c:Cu)(ps:List Pt)(above sec v q:Int):Int:=if q>0/\v<c.cut then q * jZ (qA w c ps sec v above) else 0
def qw(w:Wk)(c:Cu)(ps:List Pt)(above sec:Int):Int->List Int->Int
 | _,[]=>0
 | v,q :: r=>qD w c ps above sec v q+qw w c ps above sec (v+1) r
def enE(w:Wk)(c:Cu)(ps:List Pt)(above:Int):Int->List (List Int)->Int
 | _,[]=>0
 | s,row :: r=>qw w c ps above s 0 row+enE w c ps above (s+1) r
def jl(w:Wk)(c:Cu)(r:List (List Int))(ps:List Pt)(above:Int):Int:=enE w c ps above 0 r
def zo(s:Si):List Pt:=s.tb.map (·.at')
def wkFree:Wk:=⟨rM,[0],[0]⟩
def jc:Option Int->Int->Int
 | none,p=>zT [zf p 0 100000,0,if p=0 then 0 else 6]
 | some q,p=>zT [zf p 0 100000,if p<q then 11 else 0,0]
def J4:Option Int->List Int->Int
 | _,[]=>0
 | prev,p :: r=>if jc prev p=0 then J4 (some p) r else jc prev p
def YK(c:Cu):Int :=
 if (c.p.length:Int)<2 then 2 else if (c.p.length:Int)>51 then 2 else
  if J4 none c.p=0 then zf c.cut 1 51 else J4 none c.p
def J5:List Int->Int
 | []=>0
 | q :: r=>if zf q 0 40000=0 then J5 r else 3
def qj:List (List Int)->Int
 | []=>0
 | row :: r=>if J5 row=0 then qj r else 3
def YO(f:Fm):Int:=zT [jM f.s,wakeE f.w,YK f.c,qj f.r]
def zu(r:List (List Int)):Prop:=r.length=8/\∀row∈r,row.length=51
def okQ(r:List (List Int)):Prop:=∀row∈r,∀q∈row,0<=q/\q<=40000
def okCu(c:Cu):Prop:=2<=c.p.length/\c.p.length<=51/\(∀p∈c.p,0<=p/\p<=100000)/\1<=c.cut/\c.cut<=51
def zJR(w:Wk):Prop:=(∀d∈w.d,0<=d/\d<=256)/\w.w.length=w.d.length/\w.d.length<=32
theorem jW{n a b:Int}:zf n a b=0 ↔ a<=n/\n<=b:=by unfold zf;split <;> omega
theorem zCV(n a b:Int):zf n a b=0\/zf n a b=3:=by unfold zf;split <;> simp
theorem zEo:∀{l},J5 l=0->∀q∈l,0<=q/\q<=40000
 | [],_,q,h=>by simp at h
 | x :: r,h,q,hq=>by
  unfold J5 at h;split at h
  ·rename_i h0;rcases A0.1 hq with rfl | hq
   ·exact jW.1 h0
   ·exact zEo h q hq
  ·simp at h
theorem zFt:∀{l},qj l=0->okQ l
 | [],_,row,h=>by simp at h
 | x :: r,h,row,hq=>by
  unfold qj at h;split at h
  ·rename_i h0;rcases A0.1 hq with rfl | hq
   ·exact zEo h0
   ·exact zFt h row hq
  ·simp at h
theorem zAy{a b c:Int}(h:zT [a,b,c]=0):a=0/\b=0/\c=0:=by
 simp only[zT] at h;split at h
 ·split at h
  ·split at h
   ·exact⟨by assumption,by assumption,by assumption⟩
   ·rename_i k;exact absurd h k
  ·rename_i k;exact absurd h k
 ·rename_i k;exact absurd h k
theorem zF3{a b c d:Int}(h:zT [a,b,c,d]=0):a=0/\b=0/\c=0/\d=0:=by
 simp only[zT] at h;split at h
 ·split at h
  ·split at h
   ·split at h
    ·exact⟨by assumption,by assumption,by assumption,by assumption⟩
    ·rename_i k;exact absurd h k
   ·rename_i k;exact absurd h k
  ·rename_i k;exact absurd h k
 ·rename_i k;exact absurd h k
theorem curveS_ok{prev:Option Int}{p:Int}(h:jc prev p=0):0<=p/\p<=100000:=by
 cases prev with
 | none=>exact jW.1 (zAy h).1
 | some q=>exact jW.1 (zAy h).1
theorem zEm:∀{l:List Int} {prev},J4 prev l=0->∀p∈l,0<=p/\p<=100000
 | [],_,_,q,h=>by simp at h
 | x :: r,prev,h,q,hq=>by
  unfold J4 at h;split at h
  ·rename_i h0;rcases A0.1 hq with rfl | hq
   ·exact curveS_ok h0
   ·exact zEm h q hq
  ·rename_i h0;exact absurd h h0
theorem QY{c:Cu}(h:YK c=0):okCu c/\J4 none c.p=0:=by
 unfold YK at h;split at h
 ·simp at h
 ·split at h
  ·simp at h
  ·split at h
   ·rename_i h1;have:=jW.1 h;exact⟨⟨by omega,by omega,zEm h1,this.1,this.2⟩,h1⟩
   ·rename_i h1;exact absurd h h1
theorem qN{b:Int}:∀l:List Int,(∀x∈l,0<=x/\x<=b)->0<=jZ l/\jZ l<=l.length * b
 | [],_=>by simp[jZ]
 | x :: r,h=>by
  have h1:=h x (by simp)
  have h2:=qN r λy hy=>h y (by simp[hy])
  simp only[jZ,An,AX,AW,Bo,Bn];omega
theorem maxL_ge:∀(l:List Int) (a:Int),a<=zB9 a l
 | [],a=>AD a
 | x :: r,a=>by
  unfold zB9;have:=maxL_ge r (if x>a then x else a)
  split at this <;> (split <;> omega)
def IsRoot(r n:Int):Prop:=0<=r/\r * r<=n/\n<(r+1) * (r+1)
theorem JV{a b:Int}(h0:0<=a)(h:a<=b):a * a<=b * b:=AK h h h0 (by omega)
theorem IsRoot.unique{r s n:Int}(h:IsRoot r n)(k:IsRoot s n):r=s:=by
 obtain⟨h1,h2,h3⟩:=h;obtain⟨k1,k2,k3⟩:=k;rcases Int.lt_trichotomy r s with c | c | c
 ·have:=JV (a:=r+1) (b:=s) (by omega) (by omega);omega
 ·exact c
 ·have:=JV (a:=s+1) (b:=r) (by omega) (by omega);omega
theorem qk(n:Int):∀(f:Nat) (r:Int),0<=r->r * r<=n->n<=r+f->IsRoot (zCJ n f r) n
 | 0,r,h0,h1,h2=>by
  refine⟨h0,h1,?_⟩;have:(r+1) * (r+1)=r * r+2 * r+1:=by rw[Bo,Int.mul_add,BM,Bn];omega
  have hr:0<=r * r:=As h0 h0;simp only[zCJ];omega
 | f+1,r,h0,h1,h2=>by
  unfold zCJ;split
  ·rename_i h;exact qk n f (r+1) (by omega) h (by omega)
  ·rename_i h;exact⟨h0,h1,by omega⟩
theorem Yd{n:Int}(h:0<=n):IsRoot (qR n) n:=qk n _ 0 (AD 0) (by simpa using h) (by omega)
theorem zGm{l:List Int}{b:Int}(h:∀x∈l,0<=x/\x<=b):∀x∈sqI l,0<=x/\x<=b * b:=by intro x hx;obtain⟨y,hy,rfl⟩:=AC.1 hx;have:=h y hy;exact⟨As this.1 this.1,JV this.1 this.2⟩
theorem zHf{rule:ByteArray}{l:List Int}(h:∀x∈l,0<=x/\x<=256):0<=QW rule l:=by
 unfold QW;split
 ·exact maxL_ge l 0
 ·split
  ·exact(Yd (qN _ (zGm h)).1).1
  ·exact(qN l h).1
theorem capI_bound{n:Int}(h:0<=n):0<=Yn n/\Yn n<=256:=by unfold Yn;split <;> omega
theorem getD_mem{α:Type}{l:List α}{i:Nat}{d:α}(h:i<l.length):l.getD i d∈l:=by rw[Ai,Aj h];simp
theorem qU{l:List Int}{b:Int}(hb:0<=b)(h:∀x∈l,0<=x/\x<=b)(i:Nat):0<=l.getD i 0/\l.getD i 0<=b:=by
 by_cases hi:i<l.length
 ·exact h _ (getD_mem hi)
 ·rw[Ai,BF (by omega)];simp[hb]
theorem defI_bound{d w:List Int}(h:∀x∈d,0<=x/\x<=256)(s o:Int):0<=zBz d w s o/\zBz d w s o<=256:=by
 unfold zBz;split
 ·simp
 ·exact qU (by decide) h _
theorem zIm{w:Wk}(h:zJR w)(ps:List Pt)(sec:Int)(st:Pt)(j:Nat):∀x∈jk w ps sec st j,0<=x/\x<=256:=by
 intro x hx;obtain⟨i,_,rfl⟩:=AC.1 hx;split
 ·simp
 ·exact defI_bound h.1 _ _
theorem wakesP_bound{w:Wk}(h:zJR w)(ps:List Pt)(sec:Int)(st:Pt):∀l∈wakesP w ps sec st,l.length=ps.length/\∀x∈l,0<=x/\x<=256:=by intro l hl;obtain⟨j,_,rfl⟩:=AC.1 hl;exact⟨by simp[jk],zIm h ps sec st j⟩
theorem j9{w:Wk}(h:zJR w)(ps:List Pt)(sec:Int)(st:Pt):∀d∈JA w ps sec st,0<=d/\d<=256:=by intro d hd;obtain⟨l,hl,rfl⟩:=AC.1 hd;exact capI_bound (zHf (wakesP_bound h ps sec st l hl).2)
theorem jw(w:Wk)(ps:List Pt)(sec:Int)(st:Pt):(JA w ps sec st).length=ps.length:=by simp[JA,wakesP]
theorem qh{l:List Int}(h:∀d∈l,0<=d/\d<=256){v b:Int}(hv:0<=v)(hb:v<=b):∀x∈jL l v,0<=x/\x<=b * 256:=by intro x hx;obtain⟨d,hd,rfl⟩:=AC.1 hx;have:=h d hd;exact⟨As hv (by omega),AK hb (by omega) (by omega) (by omega)⟩
theorem zA6{p q f b:Int}(hp:0<=p/\p<=b)(hq:0<=q/\q<=b)(hf:0<=f/\f<=256):0<=256 * p+(q - p) * f/\256 * p+(q - p) * f<=256 * b:=by
 have e:256 * p+(q - p) * f=p * (256 - f)+q * f:=by rw[Cj,Ck,Cg 256 p];omega
 have h1:=As hp.1 (show 0<=256 - f by omega)
 have h2:=As hq.1 hf.1;have h3:=AR hp.2 (show 0<=256 - f by omega)
 have h4:=AR hq.2 hf.1;have h5:b * (256 - f)+b * f=256 * b:=by rw[Ck,Cg b 256];omega
 omega
theorem valP_bound{c:Cu}(h:∀p∈c.p,0<=p/\p<=100000)(v:Int):0<=YA c v/\YA c v<=25600000:=by
 unfold YA;have g:=λi=>qU (b:=100000) (by decide) h i
 split
 ·have:=g (c.p.length - 1);unfold zIM;omega
 ·exact zA6 (b:=100000) (g _) (g _) ⟨Bq v (by decide),by have:=Be v (show(0:Int)<256 by decide);omega⟩
theorem Q7{c:Cu}(h:∀p∈c.p,0<=p/\p<=100000)(w:Wk)(ps:List Pt)(sec v above:Int):∀x∈qA w c ps sec v above,0<=x/\x<=25600000:=by intro x hx;obtain⟨y,_,rfl⟩:=AC.1 hx;exact valP_bound h y
theorem zCW(w:Wk)(c:Cu)(ps:List Pt)(sec v above:Int):(qA w c ps sec v above).length=ps.length:=by simp[qA,jL,jw]
theorem zCQ{c:Cu}(h:∀p∈c.p,0<=p/\p<=100000)(w:Wk){ps:List Pt}(hl:ps.length<=64)(sec v above:Int):0<=jZ (qA w c ps sec v above)/\jZ (qA w c ps sec v above)<=1638400000:=by
 have:=qN _ (Q7 h w ps sec v above);rw[zCW] at this;have h1:(ps.length:Int) * 25600000<=64 * 25600000:=AR (by omega) (by decide)
 omega
theorem qq{c:Cu}(h:∀p∈c.p,0<=p/\p<=100000)(w:Wk){ps:List Pt}(hl:ps.length<=64)(above sec v:Int){q:Int}(hq:0<=q/\q<=40000):0<=qD w c ps above sec v q/\qD w c ps above sec v q<=65536000000000:=by
 unfold qD;split
 ·have h1:=zCQ h w hl sec v above;exact⟨As hq.1 h1.1,AK hq.2 h1.2 h1.1 (by decide)⟩
 ·simp
theorem qQ{c:Cu}(h:∀p∈c.p,0<=p/\p<=100000)(w:Wk){ps:List Pt}(hl:ps.length<=64)(above sec:Int):∀(l:List Int) (v:Int),(∀q∈l,0<=q/\q<=40000)->0<=qw w c ps above sec v l/\qw w c ps above sec v l<=l.length * 65536000000000
 | [],v,_=>by simp[qw]
 | q :: r,v,hq=>by
  have h1:=qq h w hl above sec v (hq q (by simp))
  have h2:=qQ h w hl above sec r (v+1) λx hx=>hq x (by simp[hx])
  simp only[qw,An,AX,AW,Bo,Bn];omega
theorem zHG{c:Cu}(h:∀p∈c.p,0<=p/\p<=100000)(w:Wk){ps:List Pt}(hl:ps.length<=64)(above:Int):∀(l:List (List Int)) (s:Int),(∀row∈l,row.length=51)->okQ l->0<=enE w c ps above s l/\enE w c ps above s l<=l.length * 3342336000000000
 | [],v,_,_=>by simp[enE]
 | q :: r,v,hq,hk=>by
  have h1:=qQ h w hl above v q 0 (hk q (by simp))
  have h2:=zHG h w hl above r (v+1) (λx hx=>hq x (by simp[hx])) (λx hx=>hk x (by simp[hx]))
  have h3:=hq q (by simp)
  rw[h3] at h1;simp only[enE,An,AX,AW,Bo,Bn];omega
theorem Yl{c:Cu}(h:okCu c)(w:Wk){ps:List Pt}(hl:ps.length<=64)(above:Int){r:List (List Int)}(hr:zu r)(hq:okQ r):0<=jl w c r ps above/\jl w c r ps above<=26738688000000000:=by have:=zHG h.2.2.1 w hl above r 0 hr.2 hq;rw[hr.1] at this;unfold jl;omega
theorem zGw(w:Wk)(c:Cu)(ps:List Pt)(above sec:Int):∀(l:List Int) (v:Int),(∀q∈l,q=0)->qw w c ps above sec v l=0
 | [],_,_=>rfl
 | q :: r,v,h=>by
  unfold qw qD;rw[h q (by simp),if_neg (by omega),zGw w c ps above sec r (v+1) λx hx=>h x (by simp[hx])]
  rfl
end Go.Am
namespace Go.Am
open Go.Proofs
open Go
def incr(l:List Int):Prop:=∀i j,i<=j->j<l.length->l.getD i 0<=l.getD j 0
theorem JQ(x:Int)(l:List Int)(i:Nat):(x :: l).getD (i+1) 0=l.getD i 0:=by simp[Ai]
theorem zCE:∀(l:List Int) (q:Int),J4 (some q) l=0->(∀i,i<l.length->q<=l.getD i 0)/\incr l
 | [],q,_=>⟨λi h=>by simp at h,λi j _ h=>by simp at h⟩
 | x :: r,q,h=>by
  unfold J4 at h;split at h
  ·rename_i h0;obtain⟨_,h1,_⟩:=zAy h0;have hq:q<=x:=by
    rcases Int.lt_or_le x q with hh | hh
    ·rw[if_pos hh] at h1;simp at h1
    ·exact hh
   obtain⟨k1,k2⟩:=zCE r x h;refine⟨λi hi=>?_,λi j hij hj=>?_⟩
   ·cases i with
    | zero=>exact hq
    | succ i =>
     rw[JQ];have:=k1 i (by simpa using hi)
     omega
   ·cases j with
    | zero =>
     obtain rfl:i=0:=by omega
     exact AD _
    | succ j =>
     rw[JQ];cases i with
     | zero=>exact k1 j (by simpa using hj)
     | succ i=>rw[JQ];exact k2 i j (by omega) (by simpa using hj)
  ·rename_i h0;exact absurd h h0
theorem zGW(l:List Int)(h:J4 none l=0):incr l/\l.getD 0 0=0:=by
 cases l with
 | nil=>exact⟨λi j _ h=>by simp at h,rfl⟩
 | cons x r =>
  unfold J4 at h;split at h
  ·rename_i h0;obtain⟨_,_,h2⟩:=zAy h0;have hx:x=0:=by
    by_cases hh:x=0
    ·exact hh
    ·rw[if_neg hh] at h2;simp at h2
   obtain⟨k1,k2⟩:=zCE r x h;refine⟨λi j hij hj=>?_,hx⟩
   cases j with
   | zero =>
    obtain rfl:i=0:=by omega
    exact AD _
   | succ j =>
    rw[JQ];cases i with
    | zero=>exact k1 j (by simpa using hj)
    | succ i=>rw[JQ];exact k2 i j (by omega) (by simpa using hj)
  ·rename_i h0;exact absurd h h0
theorem zFy{p q f g:Int}(h:p<=q)(hf:f<=g):256 * p+(q - p) * f<=256 * p+(q - p) * g:=by
 have:=AS hf (show 0<=q - p by omega)
 omega
theorem zGi{c:Cu}(hi:incr c.p)(v:Int)(h0:0<=v)(k:Nat)(hk:v / 256=k)(hl:k+1<c.p.length):YA c v=256 * c.p.getD k 0+(c.p.getD (k+1) 0 - c.p.getD k 0) * (v % 256)/\256 * c.p.getD k 0<=YA c v/\YA c v<=256 * c.p.getD (k+1) 0:=by
 have e:YA c v=256 * c.p.getD k 0+(c.p.getD (k+1) 0 - c.p.getD k 0) * (v % 256):=by
  unfold YA;rw[hk,if_neg (by omega)]
  simp
 have hf0:=Bq v (show(256:Int)≠0 by decide)
 have hf1:=Be v (show(0:Int)<256 by decide)
 have hp:=hi k (k+1) (by omega) hl
 have m0:=zFy hp hf0;have m1:=zFy hp (show v % 256<=256 by omega)
 rw[Cf,BG] at m0;have e2:256 * c.p.getD k 0+(c.p.getD (k+1) 0 - c.p.getD k 0) * 256=256 * c.p.getD (k+1) 0:=by rw[Cj];omega
 rw[e2] at m1;rw[e];exact⟨rfl,m0,m1⟩
theorem valP_mono{c:Cu}(hl:2<=c.p.length)(hi:incr c.p){v v':Int}(h0:0<=v)(h:v<=v'):YA c v<=YA c v':=by
 obtain⟨k,hk⟩:∃k:Nat,v / 256=k:=⟨(v / 256).toNat,by omega⟩
 obtain⟨k',hk'⟩:∃k:Nat,v' / 256=k:=⟨(v' / 256).toNat,by omega⟩
 have hkk:k<=k':=by omega
 have last:∀(u:Int) (j:Nat),u / 256=j->c.p.length<=j+1->YA c u=256 * c.p.getD (c.p.length - 1) 0:=by intro u j hj hlj;unfold YA zIM;rw[hj,if_pos (by omega)]
 by_cases c1:k+1<c.p.length
 ·obtain⟨e1,a1,b1⟩:=zGi hi v h0 k hk c1;by_cases c2:k'+1<c.p.length
  ·obtain⟨e2,a2,b2⟩:=zGi hi v' (by omega) k' hk' c2
   by_cases he:k=k'
   ·subst he;rw[e1,e2];exact zFy (hi k (k+1) (by omega) c1) (by omega)
   ·have:=hi (k+1) k' (by omega) (by omega)
    omega
  ·rw[last v' k' hk' (by omega)]
   have:=hi (k+1) (c.p.length - 1) (by omega) (by omega)
   omega
 ·rw[last v k hk (by omega),last v' k' hk' (by omega)]
  exact AD _
theorem zDN{α:Type}{f g:α->Int}:∀l:List α,(∀x∈l,f x<=g x)->jZ (l.map f)<=jZ (l.map g)
 | [],_=>AD _
 | x :: r,h=>by
  have h1:=h x (by simp)
  have h2:=zDN r λy hy=>h y (by simp[hy])
  simp only[Bc,jZ];omega
theorem rowE_le{w w':Wk}{c:Cu}{ps ps':List Pt}{above above' sec:Int}(h:∀v,0<=v->v<=50->jZ (qA w c ps sec v above)<=jZ (qA w' c ps' sec v above')) :
  ∀(l:List Int) (v:Int),0<=v->v+l.length<=51->(∀q∈l,0<=q)->qw w c ps above sec v l<=qw w' c ps' above' sec v l
 | [],_,_,_,_=>AD _
 | q :: r,v,h0,h1,hq=>by
  simp only[An,AX,AW] at h1;have k1:=rowE_le h r (v+1) (by omega) (by omega) λx hx=>hq x (by simp[hx])
  have k2:=h v h0 (by omega)
  have k3:=hq q (by simp)
  simp only[qw,qD];have:(if q>0/\v<c.cut then q * jZ (qA w c ps sec v above) else 0)<=if q>0/\v<c.cut then q * jZ (qA w' c ps' sec v above') else 0:=by
   split
   ·exact AS k2 k3
   ·exact AD _
  omega
theorem enE_le{w w':Wk}{c:Cu}{ps ps':List Pt}{above above':Int}(h:∀sec v,0<=sec->sec<=7->0<=v->v<=50->jZ (qA w c ps sec v above)<=jZ (qA w' c ps' sec v above')) :
  ∀(l:List (List Int)) (s:Int),0<=s->s+l.length<=8->(∀row∈l,row.length=51)->okQ l->enE w c ps above s l<=enE w' c ps' above' s l
 | [],_,_,_,_,_=>AD _
 | q :: r,s,h0,h1,hr,hq=>by
  simp only[An,AX,AW] at h1;have k1:=enE_le h r (s+1) (by omega) (by omega) (λx hx=>hr x (by simp[hx])) λx hx=>hq x (by simp[hx])
  have hl:=hr q (by simp)
  have k2:=rowE_le (sec:=s) (λv a b=>h s v h0 (by omega) a b) q 0 (AD 0) (by omega) λx hx=>(hq q (by simp) x hx).1
  simp only[enE];omega
theorem energyI_le{w w':Wk}{c:Cu}{ps ps':List Pt}{above above':Int}{r:List (List Int)}(hr:zu r)(hq:okQ r)(h:∀sec v,0<=sec->sec<=7->0<=v->v<=50->jZ (qA w c ps sec v above)<=jZ (qA w' c ps' sec v above')) :
  jl w c r ps above<=jl w' c r ps' above' :=
 enE_le h r 0 (AD 0) (by have:=hr.1;omega) hr.2 hq
theorem defI_free(s o:Int):zBz [0] [0] s o=0:=by
 unfold zBz;split
 ·rfl
 ·have:∀i:Nat,([0]:List Int).getD i 0=0:=by
   intro i;cases i with
   | zero=>rfl
   | succ i=>simp[Ai]
  exact this _
theorem zGl:∀l:List Int,(∀x∈l,x=0)->jZ l=0
 | [],_=>rfl
 | x :: r,h=>by rw[jZ,h x (by simp),zGl r λy hy=>h y (by simp[hy])];rfl
theorem combP_free(ps:List Pt)(sec:Int)(st:Pt):∀d∈JA wkFree ps sec st,d=0:=by
 intro d hd;obtain⟨l,hl,rfl⟩:=AC.1 hd;obtain⟨j,_,rfl⟩:=AC.1 hl;have hz:∀x∈jk wkFree ps sec st j,x=0:=by
  intro x hx;obtain⟨i,_,rfl⟩:=AC.1 hx;split
  ·rfl
  ·exact defI_free _ _
 have:QW wkFree.rule (jk wkFree ps sec st j)=0:=by
  unfold QW wkFree;rw[if_neg (by decide),if_neg (by decide)]
  exact zGl _ hz
 rw[this];rfl
theorem zIz(ps:List Pt)(sec:Int)(st:Pt):JA wkFree ps sec st=Aq ps.length 0:=by
 refine Bj (by simp[jw]) λi h1 h2=>?_
 rw[List.getElem_replicate];exact combP_free ps sec st _ (Ap h1)
theorem zHc{w:Wk}{c:Cu}(hw:zJR w)(hl:2<=c.p.length)(hi:incr c.p)(ps:List Pt)(sec v:Int)(hv:0<=v):jZ (qA w c ps sec v 0)<=jZ (qA wkFree c ps sec v 0):=by
 have e:qA wkFree c ps sec v 0=(JA w ps sec (zY sec)).map λ_=>YA c (v * 256):=by
  unfold qA jL;rw[zIz,BR,BR,BG];have:=jw w ps sec (zY sec);refine Bj (by simp[this]) λi h1 h2=>?_
  simp
 have e':qA w c ps sec v 0=(JA w ps sec (zY sec)).map λd=>YA c (v * (256 - d)):=by unfold qA jL;rw[List.map_map,BG];rfl
 rw[e,e'];refine zDN _ λd hd=>valP_mono hl hi ?_ ?_
 ·exact As hv (by have:=j9 hw ps sec (zY sec) d hd;omega)
 ·exact AS (by have:=j9 hw ps sec (zY sec) d hd;omega) hv
theorem zEB{w:Wk}{c:Cu}{r:List (List Int)}(hw:zJR w)(hc:okCu c)(hi:incr c.p)(hr:zu r)(hq:okQ r)(ps:List Pt):jl w c r ps 0<=jl wkFree c r ps 0 :=
 energyI_le hr hq λsec v _ _ hv _=>zHc hw hc.1 hi ps sec v hv
end Go.Am
namespace Go.Am
open Go.Proofs
open Go
theorem zA4(key:Nat->Int)(out:List Nat)(i:Nat):∀a,a<=out.length ->
  zDU key out i a<=a/\(∀m,zDU key out i a<=m->m<a->key i<key (out.getD m 0))/\(0<zDU key out i a->key (out.getD (zDU key out i a - 1) 0)<=key i)
 | 0,_=>⟨AA _,λm _ h=>by omega,λh=>by simp[zDU] at h⟩
 | a+1,h=>by
  unfold zDU;split
  ·rename_i hk;obtain⟨h1,h2,h3⟩:=zA4 key out i a (by omega)
   refine⟨by omega,λm hm hm'=>?_,h3⟩
   by_cases e:m=a
   ·subst e;exact hk
   ·exact h2 m hm (by omega)
  ·rename_i hk;exact⟨AA _,λm _ h=>by omega,λ_=>by simp at hk ⊢;exact hk⟩
def zFo(key:Nat->Int)(l:List Nat):Prop:=∀i j,i<j->j<l.length->key (l.getD i 0)<=key (l.getD j 0)
theorem zJg{l:List Nat}{i:Nat}(h:i<l.length):l.getD i 0=l[i]:=by rw[Ai,Aj h];rfl
theorem zJd(key:Nat->Int)(out:List Nat)(i k:Nat):(insR key out i).getD k 0 =
  if k<zDU key out i out.length then out.getD k 0 else if k=zDU key out i out.length then i else out.getD (k - 1) 0:=by
 have hp:=(zA4 key out i out.length (AA _)).1;unfold insR;generalize zDU key out i out.length=p at hp ⊢;simp only[Ai];by_cases h1:k<p
 ·rw[if_pos h1,Ar,List.getElem?_append_left (by simp;omega),List.getElem?_take_of_lt h1]
 ·rw[if_neg h1];by_cases h2:k=p
  ·subst h2;rw[if_pos rfl,Ar,Br (by simp;omega)]
   simp[B1 hp]
  ·rw[if_neg h2,Br (by simp;omega),List.getElem?_drop]
   congr 2;simp[B1 hp];omega
theorem zIt{key:Nat->Int}{out:List Nat}(i:Nat)(h:zFo key out):zFo key (insR key out i):=by
 obtain⟨hp,h2,h3⟩:=zA4 key out i out.length (AA _);intro a b hab hb;have hlen:(insR key out i).length=out.length+1:=by unfold insR;simp;omega
 rw[zJd,zJd];generalize zDU key out i out.length=p at hp h2 h3 ⊢;have hlow:∀a,a<p->key (out.getD a 0)<=key i:=by
  intro a ha;have h0:=h3 (by omega)
  by_cases e:a=p - 1
  ·rw[e];exact h0
  ·exact Ci (h a (p - 1) (by omega) (by omega)) h0
 by_cases c1:a<p
 ·rw[if_pos c1];by_cases c2:b<p
  ·rw[if_pos c2];exact h a b hab (by omega)
  ·rw[if_neg c2];by_cases c3:b=p
   ·rw[if_pos c3];exact hlow a c1
   ·rw[if_neg c3];exact h a (b - 1) (by omega) (by omega)
 ·rw[if_neg c1,if_neg (by omega:¬b<p),if_neg (by omega:¬b=p)]
  by_cases c2:a=p
  ·rw[if_pos c2];exact Int.le_of_lt (h2 (b - 1) (by omega) (by omega))
  ·rw[if_neg c2];exact h (a - 1) (b - 1) (by omega) (by omega)
theorem zBJ(key:Nat->Int):∀n,zFo key (jG key n)
 | 0=>λi j _ h=>by simp[jG] at h
 | n+1=>zIt n (zBJ key n)
theorem insR_perm(key:Nat->Int)(out:List Nat)(i:Nat):(insR key out i).Perm (i :: out):=by unfold insR;rw[Ar];refine(List.perm_middle (a:=i) (l₁:=out.take (zDU key out i out.length)) (l₂:=out.drop (zDU key out i out.length))).trans ?_;rw[BC]
theorem qm(key:Nat->Int):∀n,(jG key n).Perm (AY n)
 | 0=>.refl _
 | n+1=>by rw[jG,Bl];exact(insR_perm key _ n).trans (((qm key n).cons n).trans (List.perm_append_singleton n (AY n)).symm)
theorem zIq(key:Nat->Int)(n i:Nat):i∈jG key n ↔ i<n:=by rw[(qm key n).mem_iff,List.mem_range]
theorem JR(key:Nat->Int)(n:Nat):(jG key n).length=n:=by rw[(qm key n).length_eq,List.length_range]
end Go.Am
namespace Go.Am
open Go.Proofs
open Go Go.RowKit
attribute [local go_sem] BV
def orZ(x y:Int):Int:=if x=0 then y else x
set_option maxRecDepth 100000 in
set_option maxHeartbeats 2000000 in
theorem or2(x y:Int)(b:Nat)(w:World)(h0:w.cell? ⟨b,0,none⟩=some (.int .i64 x))(h1:w.cell? ⟨b,1,none⟩=some (.int .i64 y)) :
  Calls Tryz.prog 260 #[.slice (some ⟨b,0,none⟩) 2 2] w λe w'=>e=.returned (.int .i64 (orZ x y))/\w'=w:=by
 unfold orZ;refine(callsIn_wide (n:=0)).1 (callsIn_of_wp Tryz.func260 rfl trivial ?_ rfl);simp only[Tryz.ntmps260,AH,An,AM,Bx,Bw,A8,A7,Bf,Bb,Al,Au]
 gi_wp2
 gi_loopw [8] (λp wr=>wr=w/\(p=.int .i64 0\/(p=.int .i64 1/\x=0)\/(p=.int .i64 2/\x=0/\y=0))) (λp _=>2 - QT p)
 case atStart=>exact⟨rfl,.inl rfl⟩
 case round =>
  obtain⟨rfl,rfl | ⟨rfl,hx⟩ | ⟨rfl,hx,hy⟩⟩:=hrel
  ·by_cases hx:x=0
   ·gi_wp2
    exact⟨⟨trivial,.inr (.inl ⟨rfl,hx⟩)⟩,by simp[QT]⟩
   ·gi_wp2
    go_ret;simp[hx]
  ·by_cases hy:y=0
   ·gi_wp2
    exact⟨⟨trivial,.inr (.inr ⟨rfl,hx,hy⟩)⟩,by simp[QT]⟩
   ·gi_wp2
    go_ret;simp[hx]
  ·gi_wp2
   go_ret;simp[hx,hy]
def zJo(x y:Int):Int:=if x<y then -1 else if x>y then 1 else 0
set_option maxRecDepth 100000 in
set_option maxHeartbeats 2000000 in
theorem cmp2(x y:Int)(w:World):Calls Tryz.prog 261 #[.int .i64 x,.int .i64 y] w λe w'=>e=.returned (.int .i64 (zJo x y))/\w'=w:=by
 have hcon:=λ(z:Int) (W':World)=>Tryz.cmp_isNaN_int2 z W'
 go_enter Tryz.func261,Tryz.ntmps261
 by_cases h1:x<y
 ·go_wp2_with (go_at_call 311;refine(hcon _ _).mono ?_;rintro e w' ⟨rfl,rfl⟩)
  go_ret;simp[zJo,h1]
 ·by_cases h2:x>y
  ·go_wp2_with (go_at_call 311;refine(hcon _ _).mono ?_;rintro e w' ⟨rfl,rfl⟩)
   go_ret;simp[zJo,h1,h2]
  ·go_wp2_with (go_at_call 311;refine(hcon _ _).mono ?_;rintro e w' ⟨rfl,rfl⟩)
   go_ret;refine⟨?_,rfl⟩;unfold zJo;rw[if_neg (by omega),if_neg (by omega)]
   rfl
end Go.Am
namespace Go.Proofs
open Go.Shelf
def Tryz.sortPl_ren:AE:=⟨λ| 6=>188 | 15=>259 | 14=>258 | 28=>309 | 29=>310 | 20=>301 | 21=>302 | 22=>303 | 23=>304 | 24=>305 | 25=>306 | 26=>307 | 27=>308 | 46=>340 | 47=>341 | 48=>342 | 49=>343 | 50=>344 | 57=>379 | n=>n,λ| 22=>300 | 24=>302 | 25=>304 | 3=>3 | 39=>235 | 0=>0 | 53=>237 | 55=>421 | 4=>4 | 46=>414 | 45=>413 | 50=>99 | 5=>5 | 9=>9 | 66=>442 | 70=>446 | 76=>477 | 77=>138 | n=>n,λ| n=>n⟩
theorem Tryz.sortPl:BU Tryz.prog Tryz.sortPl_ren:={
 mixed:=by kernel_rfl
 f6:=⟨Tryz.f188.name,by decide,Tryz.func188.trans (congrArg some (by kernel_rfl))⟩
 f14:=⟨Tryz.f258.name,by decide,Tryz.func258.trans (congrArg some (by kernel_rfl))⟩
 f15:=Tryz.func259.trans (congrArg some (by kernel_rfl))
 f20:=⟨Tryz.f301.name,by decide,Tryz.func301.trans (congrArg some (by kernel_rfl))⟩
 f21:=⟨Tryz.f302.name,by decide,Tryz.func302.trans (congrArg some (by kernel_rfl))⟩
 f22:=⟨Tryz.f303.name,by decide,Tryz.func303.trans (congrArg some (by kernel_rfl))⟩
 f23:=⟨Tryz.f304.name,by decide,Tryz.func304.trans (congrArg some (by kernel_rfl))⟩
 f24:=⟨Tryz.f305.name,by decide,Tryz.func305.trans (congrArg some (by kernel_rfl))⟩
 f25:=⟨Tryz.f306.name,by decide,Tryz.func306.trans (congrArg some (by kernel_rfl))⟩
 f26:=⟨Tryz.f307.name,by decide,Tryz.func307.trans (congrArg some (by kernel_rfl))⟩
 f27:=⟨Tryz.f308.name,by decide,Tryz.func308.trans (congrArg some (by kernel_rfl))⟩
 f28:=Tryz.func309.trans (congrArg some (by kernel_rfl))
 f29:=Tryz.func310.trans (congrArg some (by kernel_rfl))
 f46:=⟨Tryz.f340.name,by decide,Tryz.func340.trans (congrArg some (by kernel_rfl))⟩
 f47:=Tryz.func341.trans (congrArg some (by kernel_rfl))
 f48:=Tryz.func342.trans (congrArg some (by kernel_rfl))
 f49:=⟨Tryz.f343.name,by decide,Tryz.func343.trans (congrArg some (by kernel_rfl))⟩
 f50:=⟨Tryz.f344.name,by decide,Tryz.func344.trans (congrArg some (by kernel_rfl))⟩
 f57:=⟨Tryz.f379.name,by decide,Tryz.func379.trans (congrArg some (by kernel_rfl))⟩
 t0:=Tryz.underlying0
 a0:=Tryz.isAgg0
 z0:=Tryz.sizeOf0
 v0:=Tryz.zeroValue0
 t3:=Tryz.underlying3
 a3:=Tryz.isAgg3
 z3:=Tryz.sizeOf3
 v3:=Tryz.zeroValue3
 t4:=Tryz.underlying4
 a4:=Tryz.isAgg4
 z4:=Tryz.sizeOf4
 v4:=Tryz.zeroValue4
 t5:=Tryz.underlying5
 a5:=Tryz.isAgg5
 z5:=Tryz.sizeOf5
 v5:=Tryz.zeroValue5
 t9:=Tryz.underlying9
 a9:=Tryz.isAgg9
 z9:=Tryz.sizeOf9
 v9:=Tryz.zeroValue9
 t22:=Tryz.underlying300
 a22:=Tryz.isAgg300
 z22:=Tryz.sizeOf300
 v22:=Tryz.zeroValue300
 t25:=Tryz.underlying304
 a25:=Tryz.isAgg304
 z25:=Tryz.sizeOf304
 v25:=Tryz.zeroValue304
 t39:=Tryz.underlying235
 a39:=Tryz.isAgg235
 z39:=Tryz.sizeOf235
 v39:=Tryz.zeroValue235
 t45:=Tryz.underlying413
 a45:=Tryz.isAgg413
 z45:=Tryz.sizeOf413
 v45:=Tryz.zeroValue413
 t46:=Tryz.underlying414
 a46:=Tryz.isAgg414
 z46:=Tryz.sizeOf414
 v46:=Tryz.zeroValue414
 t50:=Tryz.underlying99
 a50:=Tryz.isAgg99
 z50:=Tryz.sizeOf99
 v50:=Tryz.zeroValue99
 t53:=Tryz.underlying237
 a53:=Tryz.isAgg237
 z53:=Tryz.sizeOf237
 v53:=Tryz.zeroValue237
 t55:=Tryz.underlying421
 a55:=Tryz.isAgg421
 z55:=Tryz.sizeOf421
 v55:=Tryz.zeroValue421
 t66:=Tryz.underlying442
 a66:=Tryz.isAgg442
 z66:=Tryz.sizeOf442
 v66:=Tryz.zeroValue442
 t70:=Tryz.underlying446
 a70:=Tryz.isAgg446
 z70:=Tryz.sizeOf446
 v70:=Tryz.zeroValue446
 t76:=Tryz.underlying477
 a76:=Tryz.isAgg477
 z76:=Tryz.sizeOf477
 v76:=Tryz.zeroValue477
 t77:=Tryz.underlying138
 a77:=Tryz.isAgg138
 z77:=Tryz.sizeOf138
 v77:=Tryz.zeroValue138 }
end Go.Proofs
namespace Go.Am
open Go.Proofs
open Go Go.RowKit Go.Sort Go.Proofs
def lexR(key:Nat->Int)(a b:Nat):Prop:=key a<key b\/key a=key b/\a<b
theorem zEQ(key:Nat->Int):∀n,(jG key n).Pairwise (lexR key)
 | 0=>.nil
 | n+1=>by
  have ih:=zEQ key n;have hs:=zBJ key n;have hm:=λa=>zIq key n a
  rw[jG];generalize jG key n=out at ih hs hm;obtain⟨hp,h2,h3⟩:=zA4 key out n out.length (AA _);unfold insR;generalize zDU key out n out.length=p at hp h2 h3 ⊢;have hlow:∀a,a<p->key (out.getD a 0)<=key n:=by
   intro a ha;have h0:=h3 (by omega)
   by_cases e:a=p - 1
   ·rw[e];exact h0
   ·exact Ci (hs a (p - 1) (by omega) (by omega)) h0
  have hA:∀x∈out.take p,key x<=key n/\x<n:=by
   intro x hx;obtain⟨i,hi,rfl⟩:=BI.1 hx;have hi':i<p/\i<out.length:=by simp at hi;omega
   have:=hlow i hi'.1;rw[zJg hi'.2] at this;rw[List.getElem_take];exact⟨this,(hm _).1 (Ap _)⟩
  have hB:∀x∈out.drop p,key n<key x:=by
   intro x hx;obtain⟨i,hi,rfl⟩:=BI.1 hx;have hi':p+i<out.length:=by simp at hi;omega
   have:=h2 (p+i) (by omega) hi'
   rw[zJg hi'] at this
   rwa [List.getElem_drop]
  have hAB:(out.take p++out.drop p).Pairwise (lexR key):=by rw[BC];exact ih
  rw[BH] at hAB;rw[Ar,BH];refine⟨hAB.1,?_,?_⟩
  ·rw[BD,List.pairwise_cons];exact⟨λx hx=>.inl (hB x hx),hAB.2.1⟩
  ·intro a ha b hb;rw[BD,A0] at hb;rcases hb with rfl | hb
   ·obtain⟨h1,h2⟩:=hA a ha;rcases Int.lt_or_eq_of_le h1 with h | h
    ·exact .inl h
    ·exact .inr ⟨h,h2⟩
   ·exact hAB.2.2 a ha b hb
def cfP(p q:Pt):Int:=orZ (zJo p.x q.x) (zJo p.y q.y)
theorem cfP_lt(p q:Pt):ltOf cfP p q=true ↔ (p.x<q.x\/p.x=q.x/\p.y<q.y):=by unfold ltOf cfP orZ zJo;rw[decide_eq_true_eq];split <;> split <;> (try split) <;> (try split) <;> omega
theorem zEn(p q:Pt):ltOf cfP p q=false ↔ ¬(p.x<q.x\/p.x=q.x/\p.y<q.y):=by rw[<-cfP_lt,Bool.not_eq_true]
theorem cfP_swo:SWO (ltOf cfP) where
 irrefl x:=(zEn x x).2 (by omega)
 trans x y z h1 h2:=by rw[cfP_lt] at *;omega
 ntrans x y z h1 h2:=by rw[zEn] at *;omega
theorem zHI(x y:Pt)(h1:ltOf cfP x y=false)(h2:ltOf cfP y x=false):x=y:=by rw[zEn] at h1 h2;obtain⟨a,b⟩:=x;obtain⟨c,d⟩:=y;simp only at h1 h2;rw[Pt.mk.injEq];omega
def plP(key:Nat->Int)(i:Nat):Pt:=⟨key i,i⟩
theorem zIp(key:Nat->Int)(n:Nat):(((AY n).map (plP key)).mergeSort λx y=>!(ltOf cfP) y x)=(jG key n).map (plP key):=by
 have h:=sorted_unique_holds (lt:=ltOf cfP) cfP_swo zHI ((AY n).map (plP key)).toArray ((jG key n).map (plP key)).toArray ?_ ?_
 ·simpa using h.symm
 ·refine⟨by simp[JR],λi hi=>?_,?_⟩
  ·have:n<=i:=by simpa using hi
   simp[JR,this]
  ·have:=(qm key n).map (plP key);have e1:=Aw (i:=n) (l:=(jG key n).map (plP key)) (by simp[JR])
   have e2:=Aw (i:=n) (l:=(AY n).map (plP key)) (by simp)
   simpa[Array.extract_size,e1,e2] using this
 ·intro i j h1 h2 h3;have hj:j<(jG key n).length:=by rw[JR];simpa using h3
  have hi:i<(jG key n).length:=by omega
  have hl:=(List.pairwise_iff_getElem.1 (zEQ key n)) i j hi hj h2;have e:∀k (h:k<(jG key n).length),((jG key n).map (plP key)).toArray[k]! = plP key (jG key n)[k]:=λk h=>by simp[h]
  rw[e j hj,e i hi,zEn];unfold lexR at hl;simp only[plP];omega
end Go.Am
namespace Go.Am
open Go.Proofs
open Go
def seqs:List Code->Code->Code
 | [],t=>t
 | c :: cs,t=>.seq c (seqs cs t)
noncomputable def k68:Code:=YL EE 68
noncomputable def cs68:List Code:=[sq1 k68,sq1 (sq2 k68),sq1 (sq2 (sq2 k68)),sq1 (sq2 (sq2 (sq2 k68))),sq1 (sq2 (sq2 (sq2 (sq2 k68)))),sq1 (sq2 (sq2 (sq2 (sq2 (sq2 k68)))))]
noncomputable def k68t:Code:=sq2 (sq2 (sq2 (sq2 (sq2 (sq2 k68)))))
noncomputable def K68(e:Ex)(st:St):Tr:=match e with
 | .normal=>.goto 900 st
 | e=>zHE EE (EE.fresh 68) (JI EE 68) e st
noncomputable def k68a:Code:=seqs cs68 .skip
noncomputable def a68(s sec:DV):Tr:=zGS EE (XX.fx 68) (JI EE 68) [s,sec] λst=>J0 EE XX (XX.fx 68) k68a 0 0 st K68
abbrev dWd(sec x y:Int):DV:=.agg 9 [.int .i64 sec,.agg 1 [.int .i64 x,.int .i64 y]]
noncomputable def l68(sec x y:Int)(tb l:List DV)(v27 v28:Int):Tr:=Jj EE XX (XX.fx 68) 0 k68a 0 0 K68
 (zr 47 [(7,.ptr 7 3 0 []),(9,.own 41 0 l.length 2),(26,.d (.sl 3 tb)),(27,.d (.int .i64 v27)),(28,.d (.int .i64 v28))] [(7,⟨false,.dc 3 [dWd sec x y]⟩),(41,⟨false,.dc 2 l⟩)])
noncomputable def z68(sec x y:Int)(tb:List DV)(v27 v28:Int):Tr:=Jj EE XX (XX.fx 68) 0 k68a 0 0 K68
 (zr 47 [(7,.ptr 7 3 0 []),(9,.d .nl),(26,.d (.sl 3 tb)),(27,.d (.int .i64 v27)),(28,.d (.int .i64 v28))] [(7,⟨false,.dc 3 [dWd sec x y]⟩)])
noncomputable def t68(l:List DV):Tr:=J0 EE XX (XX.fx 68) (sq2 k68t) 0 0 (zr 47 [(9,.own 41 0 l.length 2)] [(41,⟨false,.dc 2 l⟩)]) (zHE EE (EE.fresh 68) (JI EE 68))
noncomputable def u68:Tr:=J0 EE XX (XX.fx 68) (sq2 k68t) 0 0 (zr 47 [(9,.d .nl)] []) (zHE EE (EE.fresh 68) (JI EE 68))
end Go.Am
namespace Go.Am
open Go.Proofs
open Go Go.RowKit
open Classical
section
variable{call:FuncId->List DV->Option CR}{head:Nat->St->Tr}
noncomputable def goH(call:FuncId->List DV->Option CR)(head:Nat->St->Tr)(j:Nat)(st:St):Option CR :=
 if h:∃n,(goX call head n j st).isSome=true then goX call head h.choose j st else none
theorem goX_up{n m:Nat}(h:n<=m):SubG (goX call head n) (goX call head m):=Qo (λ_ _ _ h=>h) _ h
theorem zEc{j:Nat}{st:St}{r:CR}:goH call head j st=some r ↔ ∃n,goX call head n j st=some r:=by
 unfold goH;constructor
 ·intro h;split at h
  ·exact⟨_,h⟩
  ·cases h
 ·rintro⟨n,h⟩;have hex:∃n,(goX call head n j st).isSome=true:=⟨n,by rw[h];rfl⟩
  rw[dif_pos hex];obtain⟨r',hr'⟩:=Option.isSome_iff_exists.1 hex.choose_spec;rw[hr'];rcases Nat.le_total n hex.choose with k | k
  ·have:=goX_up k _ _ _ h;rw[hr'] at this;exact this
  ·have:=goX_up k _ _ _ hr';rw[h] at this;exact this.symm
theorem zJG{r:CR}:∀t:Tr,run call (goH call head) t=some r->∃n,run call (goX call head n) t=some r:=by
 intro t;induction t with
 | fail=>intro h;simp[run] at h
 | ret r'=>intro h;exact⟨0,h⟩
 | ifB b t e iht ihe =>
  intro h;rcases Qf h with ⟨rfl,h⟩ | ⟨rfl,h⟩
  ·exact iht h
  ·exact ihe h
 | call g a kv kf ihv ihf =>
  intro h;rcases Qg h with ⟨x,h1,h⟩ | ⟨s,xs,h1,h⟩
  ·obtain⟨m,hm⟩:=ihv x h;exact⟨m,by simp only[run,h1,zH];exact hm⟩
  ·obtain⟨m,hm⟩:=ihf s xs h;exact⟨m,by simp only[run,h1,zH];exact hm⟩
 | goto j st=>intro h;exact zEc.1 h
theorem zGQ(j:Nat)(st:St):goH call head j st=run call (goH call head) (head j st):=by
 apply zER;intro r;constructor
 ·intro h;obtain⟨n,h⟩:=zEc.1 h;cases n with
  | zero=>simp[goX] at h
  | succ n=>exact YW (λ_ _ _ h=>h) (λ_ _ _ h=>zEc.2 ⟨n,h⟩) _ h
 ·intro h;obtain⟨n,h⟩:=zJG _ h;exact zEc.2 ⟨n+1,h⟩
theorem zAI{E:Env}{X:XC}{F:XF}{c:Code}{st:St}{Kx:Ex->St->Tr}{K:Ex->St->Option CR}{r:CR}(hn:z7 c<=1000)(hh:∀j,InL c 0 0 j->∀st,head j st=Jj E X F j c 0 0 Kx st)
  (hK:∀p e st,run call (goX call head p) (Kx e st)=some r->K e st=some r) (hm:Mono r K K) (h:run call (goH call head) (J0 E X F c 0 0 st Kx)=some r):∃M,exec E M (j6 E call) c st K=some r:=by
 obtain⟨n,hn'⟩:=zJG _ h;exact⟨n,zDC c n (AA n) 0 0 (by omega) Kx K hh (λp _ e st h=>hK p e st h) hm n (AA n) st hn'⟩
end
section
variable{P:Program}{E:Env}{call:FuncId->List DV->Option CR}
theorem zCS(hD:DOK P E)(hm:P.follows .mixedOrders=true)(hc:JC P E call){n base:Nat}{K:Ex->St->Option CR}{r:CR}{T:Code}{Q:Exit->Act->World->Prop}:∀(cs:List Code) {S:Nat->Prop} {φ:Nat->Option Nat} {st:St} {a:Act} {w:World},
  exec E n call (seqs cs .skip) st K=some r->Rel E base S φ st a w ->
  (∀st' S' φ' a' w',K .normal st'=some r->Rel E base S' φ' st' a' w'->Grow base S S' w w'->T.wp P Q a' w') ->
  (∀ex st' S' φ' a' w',ex≠.normal->K ex st'=some r->Rel E base S' φ' st' a' w'->Grow base S S' w w'->Q (zBE ex) a' w')->(seqs cs T).wp P Q a w
 | [],S,φ,st,a,w,h,hR,hT,_=>hT st S φ a w h hR Grow.refl
 | c :: cs,S,φ,st,a,w,h,hR,hT,hx=>by
  refine wp_seq (YE hD hm hc c (K:=QR (λst'=>exec E n call (seqs cs .skip) st' K) K) h hR λex st' S' φ' a' w' k1 k2 k3=>?_)
  cases ex with
  | normal=>exact zCS hD hm hc cs k1 k2 (λst2 S2 φ2 a2 w2 j1 j2 j3=>hT st2 S2 φ2 a2 w2 j1 j2 (k3.trans j3)) (λex st2 S2 φ2 a2 w2 j0 j1 j2 j3=>hx ex st2 S2 φ2 a2 w2 j0 j1 j2 (k3.trans j3))
  | exit id=>exact hx (.exit id) st' S' φ' a' w' (by simp) k1 k2 k3
  | ret=>exact hx .ret st' S' φ' a' w' (by simp) k1 k2 k3
end
end Go.Am
namespace Go.Am
open Go.Proofs
open Go
variable[OO]
theorem C64(x0 x1 x2 x3:DV):zB 64 [x0,x1,x2,x3] =
 ifO (zV (zF EE 6) [58,3,3,3] [x0,x1,x2,x3])
 (zH (zB 158 [(.agg 0 [(.str (zX (nth (flds x0) 0))),(eI (zC (nth (flds x0) 1))),(.sl 3 (elems (nth (flds x0) 2)))])])
 (λr0=>ifO (zF EE 6 46 r0)
 (ifO (bne (zC r0) 0)
 (some (.val (.tup [(eI 0),(eI 0),(eI (zC r0))])))
 (zH (zB 147 [(eI (zC x1))])
 (λr1=>ifO ((DV.isTup r1) && (zV (zF EE 6) [251,46] (tups r1)))
 (ifO (decide ((zC x2)<(0:Int)))
 (zH (zB 169 [(.bool true),(eI 10)])
 (λr2=>ifO (zF EE 6 46 r2)
 (ifO (decide ((zC x3)<(0:Int)))
 (zH (zB 169 [(.bool true),(eI 10)])
 (λr3=>ifO (zF EE 6 46 r3)
 (zH (zB 169 [(.bool ((zC x2) == (zC x3))),(eI 9)])
 (λr4=>ifO (zF EE 6 46 r4)
 (zH (zB 148 [(.sl 1 [(eI (zC (nth (tups r1) 1))),(eI (zC r2)),(eI (zC r3)),(eI (zC r4))])])
 (λr5=>ifO (zF EE 6 46 r5)
 (ifO (bne (zC r5) 0)
 (some (.val (.tup [(eI 0),(eI 0),(eI (zC r5))])))
 (ifO (decide (((0:Int)<=(zC x2))/\((zC x2)<(((Ab (elems (nth (flds x0) 2))):Nat):Int))))
 (ifO (jK 9 1 (nth (elems (nth (flds x0) 2)) (Ac (zC x2))))
 (ifO (zF EE 6 141 (nth (flds (nth (elems (nth (flds x0) 2)) (Ac (zC x2)))) 1))
 (ifO (decide (((0:Int)<=(zC x3))/\((zC x3)<(((Ab (elems (nth (flds x0) 2))):Nat):Int))))
 (ifO (jK 9 1 (nth (elems (nth (flds x0) 2)) (Ac (zC x3))))
 (ifO (zF EE 6 141 (nth (flds (nth (elems (nth (flds x0) 2)) (Ac (zC x3)))) 1))
 (zH (zB 185 [(.agg 9 [(eI (zC (nth (flds (nth (tups r1) 0)) 0))),(.agg 1 [(eI (zC (nth (flds (nth (flds (nth (tups r1) 0)) 1)) 0))),(eI (zC (nth (flds (nth (flds (nth (tups r1) 0)) 1)) 1)))])]),(.agg 1 [(eI (zC (nth (flds (nth (flds (nth (elems (nth (flds x0) 2)) (Ac (zC x2)))) 1)) 0))),(eI (zC (nth (flds (nth (flds (nth (elems (nth (flds x0) 2)) (Ac (zC x2)))) 1)) 1)))]),(.agg 1 [(eI (zC (nth (flds (nth (flds (nth (elems (nth (flds x0) 2)) (Ac (zC x3)))) 1)) 0))),(eI (zC (nth (flds (nth (flds (nth (elems (nth (flds x0) 2)) (Ac (zC x3)))) 1)) 1)))])])
 (λr6=>ifO ((DV.isTup r6) && (zV (zF EE 6) [3,3] (tups r6)))
 (some (.val (.tup [(eI (zC (nth (tups r6) 0))),(eI (zC (nth (tups r6) 1))),(eI 0)])))
 (none))
 (λ_ _=>none))
 (none))
 (none))
 (none))
 (none))
 (none))
 (none)))
 (none))
 (λ_ _=>none))
 (none))
 (λ_ _=>none))
 (none))
 (λ_ _=>none))
 (zH (zB 169 [(.bool (decide ((zC x3)>=(((Ab (elems (nth (flds x0) 2))):Nat):Int)))),(eI 10)])
 (λr15=>ifO (zF EE 6 46 r15)
 (zH (zB 169 [(.bool ((zC x2) == (zC x3))),(eI 9)])
 (λr16=>ifO (zF EE 6 46 r16)
 (zH (zB 148 [(.sl 1 [(eI (zC (nth (tups r1) 1))),(eI (zC r2)),(eI (zC r15)),(eI (zC r16))])])
 (λr17=>ifO (zF EE 6 46 r17)
 (ifO (bne (zC r17) 0)
 (some (.val (.tup [(eI 0),(eI 0),(eI (zC r17))])))
 (ifO (decide (((0:Int)<=(zC x2))/\((zC x2)<(((Ab (elems (nth (flds x0) 2))):Nat):Int))))
 (ifO (jK 9 1 (nth (elems (nth (flds x0) 2)) (Ac (zC x2))))
 (ifO (zF EE 6 141 (nth (flds (nth (elems (nth (flds x0) 2)) (Ac (zC x2)))) 1))
 (ifO (decide (((0:Int)<=(zC x3))/\((zC x3)<(((Ab (elems (nth (flds x0) 2))):Nat):Int))))
 (ifO (jK 9 1 (nth (elems (nth (flds x0) 2)) (Ac (zC x3))))
 (ifO (zF EE 6 141 (nth (flds (nth (elems (nth (flds x0) 2)) (Ac (zC x3)))) 1))
 (zH (zB 185 [(.agg 9 [(eI (zC (nth (flds (nth (tups r1) 0)) 0))),(.agg 1 [(eI (zC (nth (flds (nth (flds (nth (tups r1) 0)) 1)) 0))),(eI (zC (nth (flds (nth (flds (nth (tups r1) 0)) 1)) 1)))])]),(.agg 1 [(eI (zC (nth (flds (nth (flds (nth (elems (nth (flds x0) 2)) (Ac (zC x2)))) 1)) 0))),(eI (zC (nth (flds (nth (flds (nth (elems (nth (flds x0) 2)) (Ac (zC x2)))) 1)) 1)))]),(.agg 1 [(eI (zC (nth (flds (nth (flds (nth (elems (nth (flds x0) 2)) (Ac (zC x3)))) 1)) 0))),(eI (zC (nth (flds (nth (flds (nth (elems (nth (flds x0) 2)) (Ac (zC x3)))) 1)) 1)))])])
 (λr18=>ifO ((DV.isTup r18) && (zV (zF EE 6) [3,3] (tups r18)))
 (some (.val (.tup [(eI (zC (nth (tups r18) 0))),(eI (zC (nth (tups r18) 1))),(eI 0)])))
 (none))
 (λ_ _=>none))
 (none))
 (none))
 (none))
 (none))
 (none))
 (none)))
 (none))
 (λ_ _=>none))
 (none))
 (λ_ _=>none))
 (none))
 (λ_ _=>none)))
 (none))
 (λ_ _=>none))
 (zH (zB 169 [(.bool (decide ((zC x2)>=(((Ab (elems (nth (flds x0) 2))):Nat):Int)))),(eI 10)])
 (λr29=>ifO (zF EE 6 46 r29)
 (ifO (decide ((zC x3)<(0:Int)))
 (zH (zB 169 [(.bool true),(eI 10)])
 (λr30=>ifO (zF EE 6 46 r30)
 (zH (zB 169 [(.bool ((zC x2) == (zC x3))),(eI 9)])
 (λr31=>ifO (zF EE 6 46 r31)
 (zH (zB 148 [(.sl 1 [(eI (zC (nth (tups r1) 1))),(eI (zC r29)),(eI (zC r30)),(eI (zC r31))])])
 (λr32=>ifO (zF EE 6 46 r32)
 (ifO (bne (zC r32) 0)
 (some (.val (.tup [(eI 0),(eI 0),(eI (zC r32))])))
 (ifO (decide (((0:Int)<=(zC x2))/\((zC x2)<(((Ab (elems (nth (flds x0) 2))):Nat):Int))))
 (ifO (jK 9 1 (nth (elems (nth (flds x0) 2)) (Ac (zC x2))))
 (ifO (zF EE 6 141 (nth (flds (nth (elems (nth (flds x0) 2)) (Ac (zC x2)))) 1))
 (ifO (decide (((0:Int)<=(zC x3))/\((zC x3)<(((Ab (elems (nth (flds x0) 2))):Nat):Int))))
 (ifO (jK 9 1 (nth (elems (nth (flds x0) 2)) (Ac (zC x3))))
 (ifO (zF EE 6 141 (nth (flds (nth (elems (nth (flds x0) 2)) (Ac (zC x3)))) 1))
 (zH (zB 185 [(.agg 9 [(eI (zC (nth (flds (nth (tups r1) 0)) 0))),(.agg 1 [(eI (zC (nth (flds (nth (flds (nth (tups r1) 0)) 1)) 0))),(eI (zC (nth (flds (nth (flds (nth (tups r1) 0)) 1)) 1)))])]),(.agg 1 [(eI (zC (nth (flds (nth (flds (nth (elems (nth (flds x0) 2)) (Ac (zC x2)))) 1)) 0))),(eI (zC (nth (flds (nth (flds (nth (elems (nth (flds x0) 2)) (Ac (zC x2)))) 1)) 1)))]),(.agg 1 [(eI (zC (nth (flds (nth (flds (nth (elems (nth (flds x0) 2)) (Ac (zC x3)))) 1)) 0))),(eI (zC (nth (flds (nth (flds (nth (elems (nth (flds x0) 2)) (Ac (zC x3)))) 1)) 1)))])])
 (λr33=>ifO ((DV.isTup r33) && (zV (zF EE 6) [3,3] (tups r33)))
 (some (.val (.tup [(eI (zC (nth (tups r33) 0))),(eI (zC (nth (tups r33) 1))),(eI 0)])))
 (none))
 (λ_ _=>none))
 (none))
 (none))
 (none))
 (none))
 (none))
 (none)))
 (none))
 (λ_ _=>none))
 (none))
 (λ_ _=>none))
 (none))
 (λ_ _=>none))
 (zH (zB 169 [(.bool (decide ((zC x3)>=(((Ab (elems (nth (flds x0) 2))):Nat):Int)))),(eI 10)])
 (λr42=>ifO (zF EE 6 46 r42)
 (zH (zB 169 [(.bool ((zC x2) == (zC x3))),(eI 9)])
 (λr43=>ifO (zF EE 6 46 r43)
 (zH (zB 148 [(.sl 1 [(eI (zC (nth (tups r1) 1))),(eI (zC r29)),(eI (zC r42)),(eI (zC r43))])])
 (λr44=>ifO (zF EE 6 46 r44)
 (ifO (bne (zC r44) 0)
 (some (.val (.tup [(eI 0),(eI 0),(eI (zC r44))])))
 (ifO (decide (((0:Int)<=(zC x2))/\((zC x2)<(((Ab (elems (nth (flds x0) 2))):Nat):Int))))
 (ifO (jK 9 1 (nth (elems (nth (flds x0) 2)) (Ac (zC x2))))
 (ifO (zF EE 6 141 (nth (flds (nth (elems (nth (flds x0) 2)) (Ac (zC x2)))) 1))
 (ifO (decide (((0:Int)<=(zC x3))/\((zC x3)<(((Ab (elems (nth (flds x0) 2))):Nat):Int))))
 (ifO (jK 9 1 (nth (elems (nth (flds x0) 2)) (Ac (zC x3))))
 (ifO (zF EE 6 141 (nth (flds (nth (elems (nth (flds x0) 2)) (Ac (zC x3)))) 1))
 (zH (zB 185 [(.agg 9 [(eI (zC (nth (flds (nth (tups r1) 0)) 0))),(.agg 1 [(eI (zC (nth (flds (nth (flds (nth (tups r1) 0)) 1)) 0))),(eI (zC (nth (flds (nth (flds (nth (tups r1) 0)) 1)) 1)))])]),(.agg 1 [(eI (zC (nth (flds (nth (flds (nth (elems (nth (flds x0) 2)) (Ac (zC x2)))) 1)) 0))),(eI (zC (nth (flds (nth (flds (nth (elems (nth (flds x0) 2)) (Ac (zC x2)))) 1)) 1)))]),(.agg 1 [(eI (zC (nth (flds (nth (flds (nth (elems (nth (flds x0) 2)) (Ac (zC x3)))) 1)) 0))),(eI (zC (nth (flds (nth (flds (nth (elems (nth (flds x0) 2)) (Ac (zC x3)))) 1)) 1)))])])
 (λr45=>ifO ((DV.isTup r45) && (zV (zF EE 6) [3,3] (tups r45)))
 (some (.val (.tup [(eI (zC (nth (tups r45) 0))),(eI (zC (nth (tups r45) 1))),(eI 0)])))
 (none))
 (λ_ _=>none))
 (none))
 (none))
 (none))
 (none))
 (none))
 (none)))
 (none))
 (λ_ _=>none))
 (none))
 (λ_ _=>none))
 (none))
 (λ_ _=>none)))
 (none))
 (λ_ _=>none)))
 (none))
 (λ_ _=>none)))
 (none))
 (λ_ _=>none))
 (none) :=
 (zM (f:=64) (by kernel_rfl) (by kernel_rfl) (by kernel_rfl) [x0,x1,x2,x3]).trans (by kernel_rfl)
theorem C77(x0 x1 x2:DV):zB 77 [x0,x1,x2] =
 ifO (zV (zF EE 6) [58,59,3] [x0,x1,x2])
 (zH (zB 199 [(.agg 0 [(.str (zX (nth (flds x0) 0))),(eI (zC (nth (flds x0) 1))),(.sl 3 (elems (nth (flds x0) 2)))]),(.agg 0 [(.str (zX (nth (flds x1) 0))),(.sl 1 (elems (nth (flds x1) 1))),(.sl 1 (elems (nth (flds x1) 2)))]),(eI (zC x2))])
 (λr0=>ifO ((DV.isTup r0) && (zV (zF EE 6) [251,46] (tups r0)))
 (ifO (bne (zC (nth (tups r0) 1)) (0:Int))
 (some (.val (.tup [(.sl 1 []),(eI (zC (nth (tups r0) 1)))])))
 (zH (zB 146 [(.agg 0 [(.str (zX (nth (flds x0) 0))),(eI (zC (nth (flds x0) 1))),(.sl 3 (elems (nth (flds x0) 2)))])])
 (λr1=>ifO (zF EE 6 81 r1)
 (zH (zB 153 [(.agg 0 [(.str (zX (nth (flds x1) 0))),(.sl 1 (elems (nth (flds x1) 1))),(.sl 1 (elems (nth (flds x1) 2)))]),(.sl 2 (elems r1)),(.agg 9 [(eI (zC (nth (flds (nth (tups r0) 0)) 0))),(.agg 1 [(eI (zC (nth (flds (nth (flds (nth (tups r0) 0)) 1)) 0))),(eI (zC (nth (flds (nth (flds (nth (tups r0) 0)) 1)) 1)))])])])
 (λr2=>ifO (zF EE 6 25 r2)
 (some (.val (.tup [(.sl 1 (elems r2)),(eI 0)])))
 (none))
 (λ_ _=>none))
 (none))
 (λ_ _=>none)))
 (none))
 (λ_ _=>none))
 (none) :=
 (zM (f:=77) (by kernel_rfl) (by kernel_rfl) (by kernel_rfl) [x0,x1,x2]).trans (by kernel_rfl)
theorem C78(x0 x1 x2 x3:DV):zB 78 [x0,x1,x2,x3] =
 ifO (zV (zF EE 6) [58,59,3,3] [x0,x1,x2,x3])
 (zH (zB 199 [(.agg 0 [(.str (zX (nth (flds x0) 0))),(eI (zC (nth (flds x0) 1))),(.sl 3 (elems (nth (flds x0) 2)))]),(.agg 0 [(.str (zX (nth (flds x1) 0))),(.sl 1 (elems (nth (flds x1) 1))),(.sl 1 (elems (nth (flds x1) 2)))]),(eI (zC x2))])
 (λr0=>ifO ((DV.isTup r0) && (zV (zF EE 6) [251,46] (tups r0)))
 (zH (zB 149 [(eI (zC x3)),(eI 0),(eI 50)])
 (λr1=>ifO (zF EE 6 46 r1)
 (zH (zB 148 [(.sl 1 [(eI (zC (nth (tups r0) 1))),(eI (zC r1))])])
 (λr2=>ifO (zF EE 6 46 r2)
 (ifO (bne (zC r2) 0)
 (some (.val (.tup [(.sl 1 []),(eI (zC r2))])))
 (zH (zB 146 [(.agg 0 [(.str (zX (nth (flds x0) 0))),(eI (zC (nth (flds x0) 1))),(.sl 3 (elems (nth (flds x0) 2)))])])
 (λr3=>ifO (zF EE 6 81 r3)
 (zH (zB 153 [(.agg 0 [(.str (zX (nth (flds x1) 0))),(.sl 1 (elems (nth (flds x1) 1))),(.sl 1 (elems (nth (flds x1) 2)))]),(.sl 2 (elems r3)),(.agg 9 [(eI (zC (nth (flds (nth (tups r0) 0)) 0))),(.agg 1 [(eI (zC (nth (flds (nth (flds (nth (tups r0) 0)) 1)) 0))),(eI (zC (nth (flds (nth (flds (nth (tups r0) 0)) 1)) 1)))])])])
 (λr4=>ifO (zF EE 6 25 r4)
 (zH (zB 152 [(.sl 1 (elems r4)),(eI (zC x3))])
 (λr5=>ifO (zF EE 6 25 r5)
 (some (.val (.tup [(.sl 1 (elems r5)),(eI 0)])))
 (none))
 (λ_ _=>none))
 (none))
 (λ_ _=>none))
 (none))
 (λ_ _=>none)))
 (none))
 (λ_ _=>none))
 (none))
 (λ_ _=>none))
 (none))
 (λ_ _=>none))
 (none) :=
 (zM (f:=78) (by kernel_rfl) (by kernel_rfl) (by kernel_rfl) [x0,x1,x2,x3]).trans (by kernel_rfl)
theorem C32(x0 x1 x2:DV):zB 32 [x0,x1,x2] =
 ifO (zV (zF EE 6) [62,3,3] [x0,x1,x2])
 (zH (zB 40 [(.agg 4 [(.agg 0 [(.str (zX (nth (flds (nth (flds x0) 0)) 0))),(eI (zC (nth (flds (nth (flds x0) 0)) 1))),(.sl 3 (elems (nth (flds (nth (flds x0) 0)) 2)))]),(.agg 0 [(.str (zX (nth (flds (nth (flds x0) 1)) 0))),(.sl 1 (elems (nth (flds (nth (flds x0) 1)) 1))),(.sl 1 (elems (nth (flds (nth (flds x0) 1)) 2)))]),(.agg 1 [(.sl 1 (elems (nth (flds (nth (flds x0) 2)) 0))),(eI (zC (nth (flds (nth (flds x0) 2)) 1)))]),(.agg 3 (flds (nth (flds x0) 3)))])])
 (λr0=>ifO (zF EE 6 46 r0)
 (ifO (bne (zC r0) 0)
 (some (.val (.tup [(.sl 1 []),(eI (zC r0))])))
 (zH (zB 147 [(eI (zC x1))])
 (λr1=>ifO ((DV.isTup r1) && (zV (zF EE 6) [251,46] (tups r1)))
 (zH (zB 149 [(eI (zC x2)),(eI 0),(eI 50)])
 (λr2=>ifO (zF EE 6 46 r2)
 (zH (zB 148 [(.sl 1 [(eI (zC (nth (tups r1) 1))),(eI (zC r2))])])
 (λr3=>ifO (zF EE 6 46 r3)
 (ifO (bne (zC r3) 0)
 (some (.val (.tup [(.sl 1 []),(eI (zC r3))])))
 (ifO (decide ((zC x2)>=(zC (nth (flds (nth (flds x0) 2)) 1))))
 (ifO (decide (((0:Int)<=(((Ab (elems (nth (flds (nth (flds x0) 0)) 2))):Nat):Int))/\(((((Ab (elems (nth (flds (nth (flds x0) 0)) 2))):Nat):Int)=(((Ab (elems (nth (flds (nth (flds x0) 0)) 2))):Nat):Int))/\((((8:Int) * (((Ab (elems (nth (flds (nth (flds x0) 0)) 2))):Nat):Int))<=(281474976710656:Int))/\((((Ab (elems (nth (flds (nth (flds x0) 0)) 2))):Nat):Int)<=(9223372036854775807:Int))))))
 (ifO (decide ((0+(Ab (α:=DV) (Aq (Ac (((Ab (elems (nth (flds (nth (flds x0) 0)) 2))):Nat):Int)) (eI 0))))<=(Ab (α:=DV) (Aq (Ac (((Ab (elems (nth (flds (nth (flds x0) 0)) 2))):Nat):Int)) (eI 0)))))
 (some (.val (.tup [(.sl 1 (AG (Ab (α:=DV) (Aq (Ac (((Ab (elems (nth (flds (nth (flds x0) 0)) 2))):Nat):Int)) (eI 0))) (AL 0 (Aq (Ac (((Ab (elems (nth (flds (nth (flds x0) 0)) 2))):Nat):Int)) (eI 0))))),(eI 0)])))
 (none))
 (none))
 (zH (zB 146 [(.agg 0 [(.str (zX (nth (flds (nth (flds x0) 0)) 0))),(eI (zC (nth (flds (nth (flds x0) 0)) 1))),(.sl 3 (elems (nth (flds (nth (flds x0) 0)) 2)))])])
 (λr4=>ifO (zF EE 6 81 r4)
 (zH (zB 153 [(.agg 0 [(.str (zX (nth (flds (nth (flds x0) 1)) 0))),(.sl 1 (elems (nth (flds (nth (flds x0) 1)) 1))),(.sl 1 (elems (nth (flds (nth (flds x0) 1)) 2)))]),(.sl 2 (elems r4)),(.agg 9 [(eI (zC (nth (flds (nth (tups r1) 0)) 0))),(.agg 1 [(eI (zC (nth (flds (nth (flds (nth (tups r1) 0)) 1)) 0))),(eI (zC (nth (flds (nth (flds (nth (tups r1) 0)) 1)) 1)))])])])
 (λr5=>ifO (zF EE 6 25 r5)
 (zH (zB 152 [(.sl 1 (elems r5)),(eI (zC x2))])
 (λr6=>ifO (zF EE 6 25 r6)
 (zH (zB 151 [(.sl 1 (elems r6)),(.fn 150 [(.agg 1 [(.sl 1 (elems (nth (flds (nth (flds x0) 2)) 0))),(eI (zC (nth (flds (nth (flds x0) 2)) 1)))])] [])])
 (λr7=>ifO (zF EE 6 25 r7)
 (some (.val (.tup [(.sl 1 (elems r7)),(eI 0)])))
 (none))
 (λ_ _=>none))
 (none))
 (λ_ _=>none))
 (none))
 (λ_ _=>none))
 (none))
 (λ_ _=>none))))
 (none))
 (λ_ _=>none))
 (none))
 (λ_ _=>none))
 (none))
 (λ_ _=>none)))
 (none))
 (λ_ _=>none))
 (none) :=
 (zM (f:=32) (by kernel_rfl) (by kernel_rfl) (by kernel_rfl) [x0,x1,x2]).trans (by kernel_rfl)
theorem C106(x0 x1:DV):zB 106 [x0,x1] =
 ifO (zV (zF EE 6) [60,3] [x0,x1])
 (zH (zB 114 [(.agg 1 [(.sl 1 (elems (nth (flds x0) 0))),(eI (zC (nth (flds x0) 1)))])])
 (λr0=>ifO (zF EE 6 46 r0)
 (zH (zB 149 [(eI (zC x1)),(eI 0),(eI 13056)])
 (λr1=>ifO (zF EE 6 46 r1)
 (zH (zB 148 [(.sl 1 [(eI (zC r0)),(eI (zC r1))])])
 (λr2=>ifO (zF EE 6 46 r2)
 (ifO (bne (zC r2) 0)
 (some (.val (.tup [(eI 0),(eI (zC r2))])))
 (zH (zB 150 [(.agg 1 [(.sl 1 (elems (nth (flds x0) 0))),(eI (zC (nth (flds x0) 1)))]),(eI (zC x1))])
 (λr3=>ifO (zF EE 6 3 r3)
 (some (.val (.tup [(eI (zC r3)),(eI 0)])))
 (none))
 (λ_ _=>none)))
 (none))
 (λ_ _=>none))
 (none))
 (λ_ _=>none))
 (none))
 (λ_ _=>none))
 (none) :=
 (zM (f:=106) (by kernel_rfl) (by kernel_rfl) (by kernel_rfl) [x0,x1]).trans (by kernel_rfl)
theorem C30(x0:DV):zB 30 [x0] =
 ifO (zV (zF EE 6) [62] [x0])
 (zH (zB 40 [(.agg 4 [(.agg 0 [(.str (zX (nth (flds (nth (flds x0) 0)) 0))),(eI (zC (nth (flds (nth (flds x0) 0)) 1))),(.sl 3 (elems (nth (flds (nth (flds x0) 0)) 2)))]),(.agg 0 [(.str (zX (nth (flds (nth (flds x0) 1)) 0))),(.sl 1 (elems (nth (flds (nth (flds x0) 1)) 1))),(.sl 1 (elems (nth (flds (nth (flds x0) 1)) 2)))]),(.agg 1 [(.sl 1 (elems (nth (flds (nth (flds x0) 2)) 0))),(eI (zC (nth (flds (nth (flds x0) 2)) 1)))]),(.agg 3 (flds (nth (flds x0) 3)))])])
 (λr0=>ifO (zF EE 6 46 r0)
 (ifO (bne (zC r0) 0)
 (some (.val (.tup [(eI 0),(eI (zC r0))])))
 (zH (zB 144 [(.agg 4 [(.agg 0 [(.str (zX (nth (flds (nth (flds x0) 0)) 0))),(eI (zC (nth (flds (nth (flds x0) 0)) 1))),(.sl 3 (elems (nth (flds (nth (flds x0) 0)) 2)))]),(.agg 0 [(.str (zX (nth (flds (nth (flds x0) 1)) 0))),(.sl 1 (elems (nth (flds (nth (flds x0) 1)) 1))),(.sl 1 (elems (nth (flds (nth (flds x0) 1)) 2)))]),(.agg 1 [(.sl 1 (elems (nth (flds (nth (flds x0) 2)) 0))),(eI (zC (nth (flds (nth (flds x0) 2)) 1)))]),(.agg 3 (flds (nth (flds x0) 3)))])])
 (λr1=>ifO (zF EE 6 246 r1)
 (zH (zB 146 [(.agg 0 [(.str (zX (nth (flds (nth (flds x0) 0)) 0))),(eI (zC (nth (flds (nth (flds x0) 0)) 1))),(.sl 3 (elems (nth (flds (nth (flds x0) 0)) 2)))])])
 (λr2=>ifO (zF EE 6 81 r2)
 (zH (zB 145 [(.agg 13 [(.agg 0 [(.str (zX (nth (flds (nth (flds r1) 0)) 0))),(.sl 1 (elems (nth (flds (nth (flds r1) 0)) 1))),(.sl 1 (elems (nth (flds (nth (flds r1) 0)) 2)))]),(.agg 1 [(.sl 1 (elems (nth (flds (nth (flds r1) 1)) 0))),(eI (zC (nth (flds (nth (flds r1) 1)) 1)))]),(.agg 3 (flds (nth (flds r1) 2)))]),(.sl 2 (elems r2)),(eI 0)])
 (λr3=>ifO (zF EE 6 3 r3)
 (some (.val (.tup [(eI (zC r3)),(eI 0)])))
 (none))
 (λ_ _=>none))
 (none))
 (λ_ _=>none))
 (none))
 (λ_ _=>none)))
 (none))
 (λ_ _=>none))
 (none) :=
 (zM (f:=30) (by kernel_rfl) (by kernel_rfl) (by kernel_rfl) [x0]).trans (by kernel_rfl)
theorem C84(x0:DV):zB 84 [x0] =
 ifO (zV (zF EE 6) [62] [x0])
 (zH (zB 40 [(.agg 4 [(.agg 0 [(.str (zX (nth (flds (nth (flds x0) 0)) 0))),(eI (zC (nth (flds (nth (flds x0) 0)) 1))),(.sl 3 (elems (nth (flds (nth (flds x0) 0)) 2)))]),(.agg 0 [(.str (zX (nth (flds (nth (flds x0) 1)) 0))),(.sl 1 (elems (nth (flds (nth (flds x0) 1)) 1))),(.sl 1 (elems (nth (flds (nth (flds x0) 1)) 2)))]),(.agg 1 [(.sl 1 (elems (nth (flds (nth (flds x0) 2)) 0))),(eI (zC (nth (flds (nth (flds x0) 2)) 1)))]),(.agg 3 (flds (nth (flds x0) 3)))])])
 (λr0=>ifO (zF EE 6 46 r0)
 (ifO (bne (zC r0) 0)
 (some (.val (.tup [(eI 0),(eI (zC r0))])))
 (zH (zB 144 [(.agg 4 [(.agg 0 [(.str (zX (nth (flds (nth (flds x0) 0)) 0))),(eI (zC (nth (flds (nth (flds x0) 0)) 1))),(.sl 3 (elems (nth (flds (nth (flds x0) 0)) 2)))]),(.agg 0 [(.str (zX (nth (flds (nth (flds x0) 1)) 0))),(.sl 1 (elems (nth (flds (nth (flds x0) 1)) 1))),(.sl 1 (elems (nth (flds (nth (flds x0) 1)) 2)))]),(.agg 1 [(.sl 1 (elems (nth (flds (nth (flds x0) 2)) 0))),(eI (zC (nth (flds (nth (flds x0) 2)) 1)))]),(.agg 3 (flds (nth (flds x0) 3)))])])
 (λr1=>ifO (zF EE 6 246 r1)
 (zH (zB 202 [(.agg 13 [(.agg 0 [(.str (zX (nth (flds (nth (flds r1) 0)) 0))),(.sl 1 (elems (nth (flds (nth (flds r1) 0)) 1))),(.sl 1 (elems (nth (flds (nth (flds r1) 0)) 2)))]),(.agg 1 [(.sl 1 (elems (nth (flds (nth (flds r1) 1)) 0))),(eI (zC (nth (flds (nth (flds r1) 1)) 1)))]),(.agg 3 (flds (nth (flds r1) 2)))])])
 (λr2=>ifO (zF EE 6 246 r2)
 (zH (zB 146 [(.agg 0 [(.str (zX (nth (flds (nth (flds x0) 0)) 0))),(eI (zC (nth (flds (nth (flds x0) 0)) 1))),(.sl 3 (elems (nth (flds (nth (flds x0) 0)) 2)))])])
 (λr3=>ifO (zF EE 6 81 r3)
 (zH (zB 145 [(.agg 13 [(.agg 0 [(.str (zX (nth (flds (nth (flds r2) 0)) 0))),(.sl 1 (elems (nth (flds (nth (flds r2) 0)) 1))),(.sl 1 (elems (nth (flds (nth (flds r2) 0)) 2)))]),(.agg 1 [(.sl 1 (elems (nth (flds (nth (flds r2) 1)) 0))),(eI (zC (nth (flds (nth (flds r2) 1)) 1)))]),(.agg 3 (flds (nth (flds r2) 2)))]),(.sl 2 (elems r3)),(eI 0)])
 (λr4=>ifO (zF EE 6 3 r4)
 (some (.val (.tup [(eI (zC r4)),(eI 0)])))
 (none))
 (λ_ _=>none))
 (none))
 (λ_ _=>none))
 (none))
 (λ_ _=>none))
 (none))
 (λ_ _=>none)))
 (none))
 (λ_ _=>none))
 (none) :=
 (zM (f:=84) (by kernel_rfl) (by kernel_rfl) (by kernel_rfl) [x0]).trans (by kernel_rfl)
def S85_0a(v0 v1 v2 v3:Int):St :=
 zr 47 [(2,(.ptr 2 2 0 [])),(4,(.d (eI v0))),(6,(.d (eI v1))),(7,(.d (eI v2))),(8,(.d (eI v3)))] [(2,(.mk false (.dc 2 [(.agg 1 [(eI 0),(eI 0)])])))]
noncomputable def zIX(v0 v1 v2 v3:Int):Option CR:=goQ 85 0 (S85_0a v0 v1 v2 v3)
theorem L85_0a_eq(v0 v1 v2 v3:Int):zIX v0 v1 v2 v3 =
 ifO (bne v3 (0:Int))
 (ifO (!(v3 == (0:Int)))
 ((zIX v0 v1 v3 (Bs v2 v3)))
 (none))
 (ifO (!(v2 == (0:Int)))
 (ifO (!(v2 == (0:Int)))
 (some (.val (.tup [(.agg 1 [(eI (Aa .i64 (Ax v1 v2))),(eI (Aa .i64 (Ax v0 v2)))]),(eI 0)])))
 (none))
 (none)) :=
 (zb 85 0 _).trans (by kernel_rfl)
theorem C85(x0:DV):zB 85 [x0] =
 ifO (zV (zF EE 6) [62] [x0])
 (zH (zB 84 [(.agg 4 [(.agg 0 [(.str (zX (nth (flds (nth (flds x0) 0)) 0))),(eI (zC (nth (flds (nth (flds x0) 0)) 1))),(.sl 3 (elems (nth (flds (nth (flds x0) 0)) 2)))]),(.agg 0 [(.str (zX (nth (flds (nth (flds x0) 1)) 0))),(.sl 1 (elems (nth (flds (nth (flds x0) 1)) 1))),(.sl 1 (elems (nth (flds (nth (flds x0) 1)) 2)))]),(.agg 1 [(.sl 1 (elems (nth (flds (nth (flds x0) 2)) 0))),(eI (zC (nth (flds (nth (flds x0) 2)) 1)))]),(.agg 3 (flds (nth (flds x0) 3)))])])
 (λr0=>ifO ((DV.isTup r0) && (zV (zF EE 6) [3,46] (tups r0)))
 (zH (zB 169 [(.bool ((zC (nth (tups r0) 0)) == (0:Int))),(eI 6)])
 (λr1=>ifO (zF EE 6 46 r1)
 (zH (zB 148 [(.sl 1 [(eI (zC (nth (tups r0) 1))),(eI (zC r1))])])
 (λr2=>ifO (zF EE 6 46 r2)
 (ifO (bne (zC r2) 0)
 (some (.val (.tup [(.agg 1 [(eI 0),(eI 0)]),(eI (zC r2))])))
 (zH (zB 144 [(.agg 4 [(.agg 0 [(.str (zX (nth (flds (nth (flds x0) 0)) 0))),(eI (zC (nth (flds (nth (flds x0) 0)) 1))),(.sl 3 (elems (nth (flds (nth (flds x0) 0)) 2)))]),(.agg 0 [(.str (zX (nth (flds (nth (flds x0) 1)) 0))),(.sl 1 (elems (nth (flds (nth (flds x0) 1)) 1))),(.sl 1 (elems (nth (flds (nth (flds x0) 1)) 2)))]),(.agg 1 [(.sl 1 (elems (nth (flds (nth (flds x0) 2)) 0))),(eI (zC (nth (flds (nth (flds x0) 2)) 1)))]),(.agg 3 (flds (nth (flds x0) 3)))])])
 (λr3=>ifO (zF EE 6 246 r3)
 (zH (zB 146 [(.agg 0 [(.str (zX (nth (flds (nth (flds x0) 0)) 0))),(eI (zC (nth (flds (nth (flds x0) 0)) 1))),(.sl 3 (elems (nth (flds (nth (flds x0) 0)) 2)))])])
 (λr4=>ifO (zF EE 6 81 r4)
 (zH (zB 145 [(.agg 13 [(.agg 0 [(.str (zX (nth (flds (nth (flds r3) 0)) 0))),(.sl 1 (elems (nth (flds (nth (flds r3) 0)) 1))),(.sl 1 (elems (nth (flds (nth (flds r3) 0)) 2)))]),(.agg 1 [(.sl 1 (elems (nth (flds (nth (flds r3) 1)) 0))),(eI (zC (nth (flds (nth (flds r3) 1)) 1)))]),(.agg 3 (flds (nth (flds r3) 2)))]),(.sl 2 (elems r4)),(eI 0)])
 (λr5=>ifO (zF EE 6 3 r5)
 ((zIX (zC (nth (tups r0) 0)) (Aa .i64 ((zC (nth (tups r0) 0)) - (zC r5))) (Aa .i64 ((zC (nth (tups r0) 0)) - (zC r5))) (zC (nth (tups r0) 0))))
 (none))
 (λ_ _=>none))
 (none))
 (λ_ _=>none))
 (none))
 (λ_ _=>none)))
 (none))
 (λ_ _=>none))
 (none))
 (λ_ _=>none))
 (none))
 (λ_ _=>none))
 (none) :=
 (zM (f:=85) (by kernel_rfl) (by kernel_rfl) (by kernel_rfl) [x0]).trans (by kernel_rfl)
theorem C40(x0:DV):zB 40 [x0] =
 ifO (zV (zF EE 6) [62] [x0])
 (zH (zB 158 [(.agg 0 [(.str (zX (nth (flds (nth (flds x0) 0)) 0))),(eI (zC (nth (flds (nth (flds x0) 0)) 1))),(.sl 3 (elems (nth (flds (nth (flds x0) 0)) 2)))])])
 (λr0=>ifO (zF EE 6 46 r0)
 (zH (zB 75 [(.agg 0 [(.str (zX (nth (flds (nth (flds x0) 1)) 0))),(.sl 1 (elems (nth (flds (nth (flds x0) 1)) 1))),(.sl 1 (elems (nth (flds (nth (flds x0) 1)) 2)))])])
 (λr1=>ifO (zF EE 6 46 r1)
 (zH (zB 114 [(.agg 1 [(.sl 1 (elems (nth (flds (nth (flds x0) 2)) 0))),(eI (zC (nth (flds (nth (flds x0) 2)) 1)))])])
 (λr2=>ifO (zF EE 6 46 r2)
 (zH (zB 159 [(.agg 3 (flds (nth (flds x0) 3)))])
 (λr3=>ifO (zF EE 6 46 r3)
 (zH (zB 148 [(.sl 1 [(eI (zC r0)),(eI (zC r1)),(eI (zC r2)),(eI (zC r3))])])
 (λr4=>ifO (zF EE 6 46 r4)
 (some (.val (eI (zC r4))))
 (none))
 (λ_ _=>none))
 (none))
 (λ_ _=>none))
 (none))
 (λ_ _=>none))
 (none))
 (λ_ _=>none))
 (none))
 (λ_ _=>none))
 (none) :=
 (zM (f:=40) (by kernel_rfl) (by kernel_rfl) (by kernel_rfl) [x0]).trans (by kernel_rfl)
def S114_0a(v0:List DV)(v1 v2 v3:Int):St :=
 zr 56 [(1,(.ptr 1 2 0 [])),(17,(.d (.sl 1 v0))),(18,(.d (eI v1))),(19,(.d (eI v2)))] [(1,(.mk false (.dc 2 [(.agg 1 [(.sl 1 v0),(eI v3)])])))]
noncomputable def QQ(v0:List DV)(v1 v2 v3:Int):Option CR:=goQ 114 0 (S114_0a v0 v1 v2 v3)
theorem zFW(v0:List DV)(v1 v2 v3:Int):QQ v0 v1 v2 v3 =
 ifO (decide (v2<v1))
 (ifO (decide (((0:Int)<=v2)/\(v2<(((Ab v0):Nat):Int))))
 (ifO (zF EE 6 3 (nth v0 (Ac v2)))
 (zH (zB 149 [(eI (zC (nth v0 (Ac v2)))),(eI 0),(eI 100000)])
 (λr0=>ifO (zF EE 6 46 r0)
 (ifO (decide (v2>(0:Int)))
 (ifO (decide (((0:Int)<=(ite ((Aa .i64 (v2 - (1:Int)))>(0:Int)) (Aa .i64 (v2 - (1:Int))) (0:Int)))/\((ite ((Aa .i64 (v2 - (1:Int)))>(0:Int)) (Aa .i64 (v2 - (1:Int))) (0:Int))<(((Ab v0):Nat):Int))))
 (ifO (zF EE 6 3 (nth v0 (Ac (ite ((Aa .i64 (v2 - (1:Int)))>(0:Int)) (Aa .i64 (v2 - (1:Int))) (0:Int)))))
 (zH (zB 169 [(.bool (decide ((zC (nth v0 (Ac v2)))<(zC (nth v0 (Ac (ite ((Aa .i64 (v2 - (1:Int)))>(0:Int)) (Aa .i64 (v2 - (1:Int))) (0:Int)))))))),(eI 11)])
 (λr1=>ifO (zF EE 6 46 r1)
 (ifO (v2 == (0:Int))
 (zH (zB 169 [(.bool (bne (zC (nth v0 (Ac v2))) (0:Int))),(eI 6)])
 (λr2=>ifO (zF EE 6 46 r2)
 (zH (zB 148 [(.sl 1 [(eI (zC r0)),(eI (zC r1)),(eI (zC r2))])])
 (λr3=>ifO (zF EE 6 46 r3)
 (ifO (bne (zC r3) 0)
 (some (.val (eI (zC r3))))
 ((QQ v0 v1 (Aa .i64 (v2+(1:Int))) v3)))
 (none))
 (λ_ _=>none))
 (none))
 (λ_ _=>none))
 (zH (zB 169 [(.bool false),(eI 6)])
 (λr8=>ifO (zF EE 6 46 r8)
 (zH (zB 148 [(.sl 1 [(eI (zC r0)),(eI (zC r1)),(eI (zC r8))])])
 (λr9=>ifO (zF EE 6 46 r9)
 (ifO (bne (zC r9) 0)
 (some (.val (eI (zC r9))))
 ((QQ v0 v1 (Aa .i64 (v2+(1:Int))) v3)))
 (none))
 (λ_ _=>none))
 (none))
 (λ_ _=>none)))
 (none))
 (λ_ _=>none))
 (none))
 (none))
 (zH (zB 169 [(.bool false),(eI 11)])
 (λr16=>ifO (zF EE 6 46 r16)
 (ifO (v2 == (0:Int))
 (zH (zB 169 [(.bool (bne (zC (nth v0 (Ac v2))) (0:Int))),(eI 6)])
 (λr17=>ifO (zF EE 6 46 r17)
 (zH (zB 148 [(.sl 1 [(eI (zC r0)),(eI (zC r16)),(eI (zC r17))])])
 (λr18=>ifO (zF EE 6 46 r18)
 (ifO (bne (zC r18) 0)
 (some (.val (eI (zC r18))))
 ((QQ v0 v1 (Aa .i64 (v2+(1:Int))) v3)))
 (none))
 (λ_ _=>none))
 (none))
 (λ_ _=>none))
 (zH (zB 169 [(.bool false),(eI 6)])
 (λr23=>ifO (zF EE 6 46 r23)
 (zH (zB 148 [(.sl 1 [(eI (zC r0)),(eI (zC r16)),(eI (zC r23))])])
 (λr24=>ifO (zF EE 6 46 r24)
 (ifO (bne (zC r24) 0)
 (some (.val (eI (zC r24))))
 ((QQ v0 v1 (Aa .i64 (v2+(1:Int))) v3)))
 (none))
 (λ_ _=>none))
 (none))
 (λ_ _=>none)))
 (none))
 (λ_ _=>none)))
 (none))
 (λ_ _=>none))
 (none))
 (none))
 (zH (zB 149 [(eI v3),(eI 1),(eI 51)])
 (λr33=>ifO (zF EE 6 46 r33)
 (some (.val (eI (zC r33))))
 (none))
 (λ_ _=>none)) :=
 (zb 114 0 _).trans (by kernel_rfl)
theorem C114(x0:DV):zB 114 [x0] =
 ifO (zV (zF EE 6) [60] [x0])
 (ifO (decide ((((Ab (elems (nth (flds x0) 0))):Nat):Int)<(2:Int)))
 (some (.val (eI 2)))
 (ifO (decide ((((Ab (elems (nth (flds x0) 0))):Nat):Int)>(51:Int)))
 (some (.val (eI 2)))
 ((QQ (elems (nth (flds x0) 0)) (((Ab (elems (nth (flds x0) 0))):Nat):Int) (0:Int) (zC (nth (flds x0) 1))))))
 (none) :=
 (zM (f:=114) (by kernel_rfl) (by kernel_rfl) (by kernel_rfl) [x0]).trans (by kernel_rfl)
end Go.Am
namespace Go.Am
open Go.Proofs
open Go
variable[OO]
def S75_0a(v0:List DV)(v1 v2:Int)(v3:ByteArray)(v4:List DV):St :=
 zr 103 [(1,(.ptr 1 3 0 [])),(44,(.d (.sl 1 v0))),(45,(.d (eI v1))),(46,(.d (eI v2)))] [(1,(.mk false (.dc 3 [(.agg 0 [(.str v3),(.sl 1 v0),(.sl 1 v4)])])))]
noncomputable def Qw(v0:List DV)(v1 v2:Int)(v3:ByteArray)(v4:List DV):Option CR:=goQ 75 0 (S75_0a v0 v1 v2 v3 v4)
def S75_1a(v0:List DV)(v1 v2:Int)(v3:ByteArray)(v4:List DV):St :=
 zr 103 [(1,(.ptr 1 3 0 [])),(74,(.d (.sl 1 v0))),(75,(.d (eI v1))),(76,(.d (eI v2)))] [(1,(.mk false (.dc 3 [(.agg 0 [(.str v3),(.sl 1 v4),(.sl 1 v0)])])))]
noncomputable def zBd(v0:List DV)(v1 v2:Int)(v3:ByteArray)(v4:List DV):Option CR:=goQ 75 1 (S75_1a v0 v1 v2 v3 v4)
theorem zHM(v0:List DV)(v1 v2:Int)(v3:ByteArray)(v4:List DV):Qw v0 v1 v2 v3 v4 =
 ifO (decide (v2<v1))
 (ifO (decide (((0:Int)<=v2)/\(v2<(((Ab v0):Nat):Int))))
 (ifO (zF EE 6 3 (nth v0 (Ac v2)))
 (zH (zB 149 [(eI (zC (nth v0 (Ac v2)))),(eI 0),(eI 256)])
 (λr33=>ifO (zF EE 6 46 r33)
 (ifO (decide (v2>(0:Int)))
 (ifO (decide (((0:Int)<=(ite ((Aa .i64 (v2 - (1:Int)))>(0:Int)) (Aa .i64 (v2 - (1:Int))) (0:Int)))/\((ite ((Aa .i64 (v2 - (1:Int)))>(0:Int)) (Aa .i64 (v2 - (1:Int))) (0:Int))<(((Ab v0):Nat):Int))))
 (ifO (zF EE 6 3 (nth v0 (Ac (ite ((Aa .i64 (v2 - (1:Int)))>(0:Int)) (Aa .i64 (v2 - (1:Int))) (0:Int)))))
 (zH (zB 169 [(.bool (decide ((zC (nth v0 (Ac v2)))>(zC (nth v0 (Ac (ite ((Aa .i64 (v2 - (1:Int)))>(0:Int)) (Aa .i64 (v2 - (1:Int))) (0:Int)))))))),(eI 11)])
 (λr34=>ifO (zF EE 6 46 r34)
 (zH (zB 148 [(.sl 1 [(eI (zC r33)),(eI (zC r34))])])
 (λr35=>ifO (zF EE 6 46 r35)
 (ifO (bne (zC r35) 0)
 (some (.val (eI (zC r35))))
 ((Qw v0 v1 (Aa .i64 (v2+(1:Int))) v3 v4)))
 (none))
 (λ_ _=>none))
 (none))
 (λ_ _=>none))
 (none))
 (none))
 (zH (zB 169 [(.bool false),(eI 11)])
 (λr40=>ifO (zF EE 6 46 r40)
 (zH (zB 148 [(.sl 1 [(eI (zC r33)),(eI (zC r40))])])
 (λr41=>ifO (zF EE 6 46 r41)
 (ifO (bne (zC r41) 0)
 (some (.val (eI (zC r41))))
 ((Qw v0 v1 (Aa .i64 (v2+(1:Int))) v3 v4)))
 (none))
 (λ_ _=>none))
 (none))
 (λ_ _=>none)))
 (none))
 (λ_ _=>none))
 (none))
 (none))
 ((zBd v4 (((Ab v4):Nat):Int) (0:Int) v3 v0)) :=
 (zb 75 0 _).trans (by kernel_rfl)
theorem zHL(v0:List DV)(v1 v2:Int)(v3:ByteArray)(v4:List DV):zBd v0 v1 v2 v3 v4 =
 ifO (decide (v2<v1))
 (ifO (decide (((0:Int)<=v2)/\(v2<(((Ab v0):Nat):Int))))
 (ifO (zF EE 6 3 (nth v0 (Ac v2)))
 (zH (zB 149 [(eI (zC (nth v0 (Ac v2)))),(eI 0),(eI 100)])
 (λr48=>ifO (zF EE 6 46 r48)
 (ifO (decide (v2>(0:Int)))
 (ifO (decide (((0:Int)<=(ite ((Aa .i64 (v2 - (1:Int)))>(0:Int)) (Aa .i64 (v2 - (1:Int))) (0:Int)))/\((ite ((Aa .i64 (v2 - (1:Int)))>(0:Int)) (Aa .i64 (v2 - (1:Int))) (0:Int))<(((Ab v0):Nat):Int))))
 (ifO (zF EE 6 3 (nth v0 (Ac (ite ((Aa .i64 (v2 - (1:Int)))>(0:Int)) (Aa .i64 (v2 - (1:Int))) (0:Int)))))
 (zH (zB 169 [(.bool (decide ((zC (nth v0 (Ac v2)))<(zC (nth v0 (Ac (ite ((Aa .i64 (v2 - (1:Int)))>(0:Int)) (Aa .i64 (v2 - (1:Int))) (0:Int)))))))),(eI 11)])
 (λr49=>ifO (zF EE 6 46 r49)
 (zH (zB 148 [(.sl 1 [(eI (zC r48)),(eI (zC r49))])])
 (λr50=>ifO (zF EE 6 46 r50)
 (ifO (bne (zC r50) 0)
 (some (.val (eI (zC r50))))
 ((zBd v0 v1 (Aa .i64 (v2+(1:Int))) v3 v4)))
 (none))
 (λ_ _=>none))
 (none))
 (λ_ _=>none))
 (none))
 (none))
 (zH (zB 169 [(.bool false),(eI 11)])
 (λr55=>ifO (zF EE 6 46 r55)
 (zH (zB 148 [(.sl 1 [(eI (zC r48)),(eI (zC r55))])])
 (λr56=>ifO (zF EE 6 46 r56)
 (ifO (bne (zC r56) 0)
 (some (.val (eI (zC r56))))
 ((zBd v0 v1 (Aa .i64 (v2+(1:Int))) v3 v4)))
 (none))
 (λ_ _=>none))
 (none))
 (λ_ _=>none)))
 (none))
 (λ_ _=>none))
 (none))
 (none))
 (some (.val (eI 0))) :=
 (zb 75 1 _).trans (by kernel_rfl)
theorem C75(x0:DV):zB 75 [x0] =
 ifO (zV (zF EE 6) [59] [x0])
 (zH (zB 198 [])
 (λr0=>ifO (zF EE 6 314 r0)
 (ifO (AB (jh (.str (zX (nth (flds x0) 0))) (keys r0) (vals r0)))
 (ifO (AB (Ad (jh (.str (zX (nth (flds x0) 0))) (keys r0) (vals r0)) (AF)))
 (ifO (zF EE 6 312 (Ad (Ad (jh (.str (zX (nth (flds x0) 0))) (keys r0) (vals r0)) (AF)) .nl))
 (zH (zB 169 [(.bool false),(eI 13)])
 (λr1=>ifO (zF EE 6 46 r1)
 (zH (zB 169 [(.bool ((((Ab (elems (nth (flds x0) 1))):Nat):Int) == (0:Int))),(eI 12)])
 (λr2=>ifO (zF EE 6 46 r2)
 (zH (zB 169 [(.bool (decide ((((Ab (elems (nth (flds x0) 1))):Nat):Int)>(32:Int)))),(eI 5)])
 (λr3=>ifO (zF EE 6 46 r3)
 (zH (zB 169 [(.bool (bne (((Ab (elems (nth (flds x0) 2))):Nat):Int) (((Ab (elems (nth (flds x0) 1))):Nat):Int))),(eI 2)])
 (λr4=>ifO (zF EE 6 46 r4)
 (zH (zB 148 [(.sl 1 [(eI (zC r1)),(eI (zC r2)),(eI (zC r3)),(eI (zC r4))])])
 (λr5=>ifO (zF EE 6 46 r5)
 (ifO (bne (zC r5) 0)
 (some (.val (eI (zC r5))))
 ((Qw (elems (nth (flds x0) 1)) (((Ab (elems (nth (flds x0) 1))):Nat):Int) (0:Int) (zX (nth (flds x0) 0)) (elems (nth (flds x0) 2)))))
 (none))
 (λ_ _=>none))
 (none))
 (λ_ _=>none))
 (none))
 (λ_ _=>none))
 (none))
 (λ_ _=>none))
 (none))
 (λ_ _=>none))
 (none))
 (zH (zB 169 [(.bool true),(eI 13)])
 (λr16=>ifO (zF EE 6 46 r16)
 (zH (zB 169 [(.bool ((((Ab (elems (nth (flds x0) 1))):Nat):Int) == (0:Int))),(eI 12)])
 (λr17=>ifO (zF EE 6 46 r17)
 (zH (zB 169 [(.bool (decide ((((Ab (elems (nth (flds x0) 1))):Nat):Int)>(32:Int)))),(eI 5)])
 (λr18=>ifO (zF EE 6 46 r18)
 (zH (zB 169 [(.bool (bne (((Ab (elems (nth (flds x0) 2))):Nat):Int) (((Ab (elems (nth (flds x0) 1))):Nat):Int))),(eI 2)])
 (λr19=>ifO (zF EE 6 46 r19)
 (zH (zB 148 [(.sl 1 [(eI (zC r16)),(eI (zC r17)),(eI (zC r18)),(eI (zC r19))])])
 (λr20=>ifO (zF EE 6 46 r20)
 (ifO (bne (zC r20) 0)
 (some (.val (eI (zC r20))))
 ((Qw (elems (nth (flds x0) 1)) (((Ab (elems (nth (flds x0) 1))):Nat):Int) (0:Int) (zX (nth (flds x0) 0)) (elems (nth (flds x0) 2)))))
 (none))
 (λ_ _=>none))
 (none))
 (λ_ _=>none))
 (none))
 (λ_ _=>none))
 (none))
 (λ_ _=>none))
 (none))
 (λ_ _=>none)))
 (none))
 (none))
 (λ_ _=>none))
 (none) :=
 (zM (f:=75) (by kernel_rfl) (by kernel_rfl) (by kernel_rfl) [x0]).trans (by kernel_rfl)
theorem C147(x0:DV):zB 147 [x0] =
 ifO (zV (zF EE 6) [3] [x0])
 (zH (zB 149 [(eI (zC x0)),(eI 0),(eI 7)])
 (λr0=>ifO (zF EE 6 46 r0)
 (ifO (bne (zC r0) 0)
 (some (.val (.tup [(.agg 9 [(eI 0),(.agg 1 [(eI 0),(eI 0)])]),(eI (zC r0))])))
 (zH (zB 234 [(eI (zC x0))])
 (λr1=>ifO ((DV.isTup r1) && (zV (zF EE 6) [141,46] (tups r1)))
 (some (.val (.tup [(.agg 9 [(eI (zC x0)),(.agg 1 [(eI (zC (nth (flds (nth (tups r1) 0)) 0))),(eI (zC (nth (flds (nth (tups r1) 0)) 1)))])]),(eI (zC (nth (tups r1) 1)))])))
 (none))
 (λ_ _=>none)))
 (none))
 (λ_ _=>none))
 (none) :=
 (zM (f:=147) (by kernel_rfl) (by kernel_rfl) (by kernel_rfl) [x0]).trans (by kernel_rfl)
theorem C150(x0 x1:DV):zB 150 [x0,x1] =
 ifO (zV (zF EE 6) [60,3] [x0,x1])
 (ifO (decide ((Aa .i64 (Ax (zC x1) (256:Int)))>=(Aa .i64 ((((Ab (elems (nth (flds x0) 0))):Nat):Int) - (1:Int)))))
 (ifO (decide (((0:Int)<=(Aa .i64 ((((Ab (elems (nth (flds x0) 0))):Nat):Int) - (1:Int))))/\((Aa .i64 ((((Ab (elems (nth (flds x0) 0))):Nat):Int) - (1:Int)))<(((Ab (elems (nth (flds x0) 0))):Nat):Int))))
 (ifO (zF EE 6 3 (nth (elems (nth (flds x0) 0)) (Ac (Aa .i64 ((((Ab (elems (nth (flds x0) 0))):Nat):Int) - (1:Int))))))
 (some (.val (eI (Aa .i64 ((256:Int) * (zC (nth (elems (nth (flds x0) 0)) (Ac (Aa .i64 ((((Ab (elems (nth (flds x0) 0))):Nat):Int) - (1:Int)))))))))))
 (none))
 (none))
 (ifO (decide (((0:Int)<=(Aa .i64 (Ax (zC x1) (256:Int))))/\((Aa .i64 (Ax (zC x1) (256:Int)))<(((Ab (elems (nth (flds x0) 0))):Nat):Int))))
 (ifO (zF EE 6 3 (nth (elems (nth (flds x0) 0)) (Ac (Aa .i64 (Ax (zC x1) (256:Int))))))
 (ifO (decide (((0:Int)<=(Aa .i64 ((Aa .i64 (Ax (zC x1) (256:Int)))+(1:Int))))/\((Aa .i64 ((Aa .i64 (Ax (zC x1) (256:Int)))+(1:Int)))<(((Ab (elems (nth (flds x0) 0))):Nat):Int))))
 (ifO (zF EE 6 3 (nth (elems (nth (flds x0) 0)) (Ac (Aa .i64 ((Aa .i64 (Ax (zC x1) (256:Int)))+(1:Int))))))
 (ifO (decide (((0:Int)<=(Aa .i64 (Ax (zC x1) (256:Int))))/\((Aa .i64 (Ax (zC x1) (256:Int)))<(((Ab (elems (nth (flds x0) 0))):Nat):Int))))
 (ifO (zF EE 6 3 (nth (elems (nth (flds x0) 0)) (Ac (Aa .i64 (Ax (zC x1) (256:Int))))))
 (some (.val (eI (Aa .i64 ((Aa .i64 ((256:Int) * (zC (nth (elems (nth (flds x0) 0)) (Ac (Aa .i64 (Ax (zC x1) (256:Int))))))))+(Aa .i64 ((Aa .i64 ((zC (nth (elems (nth (flds x0) 0)) (Ac (Aa .i64 ((Aa .i64 (Ax (zC x1) (256:Int)))+(1:Int)))))) - (zC (nth (elems (nth (flds x0) 0)) (Ac (Aa .i64 (Ax (zC x1) (256:Int)))))))) * (Bs (zC x1) (256:Int)))))))))
 (none))
 (none))
 (none))
 (none))
 (none))
 (none)))
 (none) :=
 (zM (f:=150) (by kernel_rfl) (by kernel_rfl) (by kernel_rfl) [x0,x1]).trans (by kernel_rfl)
def S151_0a(v0:Nat)(v1 v2 v3:List DV)(v4:Int):St :=
 zr 22 [(1,(.d (.fn v0 v1 v2))),(5,(.d .nl)),(8,(.d (.sl 1 v3))),(9,(.d (eI v4))),(10,(.d (eI 0)))] []
noncomputable def L151_0a(v0:Nat)(v1 v2 v3:List DV)(v4:Int):Option CR:=goQ 151 0 (S151_0a v0 v1 v2 v3 v4)
def S151_0b(v0:Nat)(v1 v2 v3 v4:List DV)(v5 v6:Int):St :=
 zr 22 [(1,(.d (.fn v0 v1 v2))),(5,(.own 19 0 (Ab v3) 1)),(8,(.d (.sl 1 v4))),(9,(.d (eI v5))),(10,(.d (eI v6)))] [(19,(.mk false (.dc 1 v3)))]
noncomputable def zFN(v0:Nat)(v1 v2 v3 v4:List DV)(v5 v6:Int):Option CR:=goQ 151 0 (S151_0b v0 v1 v2 v3 v4 v5 v6)
theorem L151_0a_eq(v0:Nat)(v1 v2 v3:List DV)(v4:Int):L151_0a v0 v1 v2 v3 v4 =
 ifO (decide ((0:Int)<v4))
 (ifO (decide (((0:Int)<=(0:Int))/\((0:Int)<(((Ab v3):Nat):Int))))
 (ifO (zF EE 6 3 (nth v3 0))
 (zH (zB v0 (zy EE v0 ((v1++[(eI (zC (nth v3 0)))])++v2)))
 (λr0=>ifO (zF EE 6 3 r0)
 ((zFN v0 v1 v2 [(eI (zC r0))] v3 v4 (1:Int)))
 (none))
 (λ_ _=>none))
 (none))
 (none))
 (some (.val (.sl 1 []))) :=
 (zb 151 0 _).trans (by kernel_rfl)
theorem zFM(v0:Nat)(v1 v2 v3 v4:List DV)(v5 v6:Int):zFN v0 v1 v2 v3 v4 v5 v6 =
 ifO (decide (v6<v5))
 (ifO (decide (((0:Int)<=v6)/\(v6<(((Ab v4):Nat):Int))))
 (ifO (zF EE 6 3 (nth v4 (Ac v6)))
 (zH (zB v0 (zy EE v0 ((v1++[(eI (zC (nth v4 (Ac v6))))])++v2)))
 (λr3=>ifO (zF EE 6 3 r3)
 (ifO (decide ((Ab v3)=(Ab v3)))
 (ifO (decide ((((2 * ((Ab v3)+1))+200) * 8)<=281474976710656))
 ((zFN v0 v1 v2 (v3++[(eI (zC r3))]) v4 v5 (Aa .i64 (v6+(1:Int)))))
 (none))
 (none))
 (none))
 (λ_ _=>none))
 (none))
 (none))
 (ifO (decide ((0+(Ab v3))<=(Ab v3)))
 (some (.val (.sl 1 (AG (Ab v3) (AL 0 v3)))))
 (none)) :=
 (zb 151 0 _).trans (by kernel_rfl)
theorem C151(x0 x1:DV):zB 151 [x0,x1] =
 ifO (zV (zF EE 6) [25,74] [x0,x1])
 ((L151_0a (zDz x1) (fnA x1) (fnC x1) (elems x0) (((Ab (elems x0)):Nat):Int)))
 (none) :=
 (zM (f:=151) (by kernel_rfl) (by kernel_rfl) (by kernel_rfl) [x0,x1]).trans (by kernel_rfl)
theorem C152(x0 x1:DV):zB 152 [x0,x1] =
 ifO (zV (zF EE 6) [25,3] [x0,x1])
 (zH (zB 151 [(.sl 1 (elems x0)),(.fn 235 [] [(.dp (eI (zC x1)))])])
 (λr0=>ifO (zF EE 6 25 r0)
 (some (.val (.sl 1 (elems r0))))
 (none))
 (λ_ _=>none))
 (none) :=
 (zM (f:=152) (by kernel_rfl) (by kernel_rfl) (by kernel_rfl) [x0,x1]).trans (by kernel_rfl)
theorem C153(x0 x1 x2:DV):zB 153 [x0,x1,x2] =
 ifO (zV (zF EE 6) [59,81,251] [x0,x1,x2])
 (zH (zB 198 [])
 (λr0=>ifO (zF EE 6 314 r0)
 (ifO (AB (jh (.str (zX (nth (flds x0) 0))) (keys r0) (vals r0)))
 (ifO (AB (Ad (jh (.str (zX (nth (flds x0) 0))) (keys r0) (vals r0)) (AF)))
 (ifO (zF EE 6 312 (Ad (Ad (jh (.str (zX (nth (flds x0) 0))) (keys r0) (vals r0)) (AF)) .nl))
 (zH (zB 200 [(.agg 0 [(.str (zX (nth (flds x0) 0))),(.sl 1 (elems (nth (flds x0) 1))),(.sl 1 (elems (nth (flds x0) 2)))]),(.sl 2 (elems x1)),(.agg 9 [(eI (zC (nth (flds x2) 0))),(.agg 1 [(eI (zC (nth (flds (nth (flds x2) 1)) 0))),(eI (zC (nth (flds (nth (flds x2) 1)) 1)))])])])
 (λr1=>ifO (zF EE 6 95 r1)
 (zH (zB 236 [(.sl 1 (BJ (cnE EE 25) (elems r1))),(.fn 237 [] [(.dp (.fn (zDz (nth (flds (Ad (Ad (jh (.str (zX (nth (flds x0) 0))) (keys r0) (vals r0)) (AF)) .nl)) 0)) (fnA (nth (flds (Ad (Ad (jh (.str (zX (nth (flds x0) 0))) (keys r0) (vals r0)) (AF)) .nl)) 0)) (fnC (nth (flds (Ad (Ad (jh (.str (zX (nth (flds x0) 0))) (keys r0) (vals r0)) (AF)) .nl)) 0))))])])
 (λr2=>ifO (zF EE 6 25 r2)
 (some (.val (.sl 1 (elems r2))))
 (none))
 (λ_ _=>none))
 (none))
 (λ_ _=>none))
 (none))
 (zH (zB 200 [(.agg 0 [(.str (zX (nth (flds x0) 0))),(.sl 1 (elems (nth (flds x0) 1))),(.sl 1 (elems (nth (flds x0) 2)))]),(.sl 2 (elems x1)),(.agg 9 [(eI (zC (nth (flds x2) 0))),(.agg 1 [(eI (zC (nth (flds (nth (flds x2) 1)) 0))),(eI (zC (nth (flds (nth (flds x2) 1)) 1)))])])])
 (λr7=>ifO (zF EE 6 95 r7)
 (zH (zB 236 [(.sl 1 (BJ (cnE EE 25) (elems r7))),(.fn 237 [] [(.dp .nilFn)])])
 (λr8=>ifO (zF EE 6 25 r8)
 (some (.val (.sl 1 (elems r8))))
 (none))
 (λ_ _=>none))
 (none))
 (λ_ _=>none)))
 (none))
 (none))
 (λ_ _=>none))
 (none) :=
 (zM (f:=153) (by kernel_rfl) (by kernel_rfl) (by kernel_rfl) [x0,x1,x2]).trans (by kernel_rfl)
theorem C185(x0 x1 x2:DV):zB 185 [x0,x1,x2] =
 ifO (zV (zF EE 6) [251,141,141] [x0,x1,x2])
 (zH (zB 187 [(.agg 9 [(eI (zC (nth (flds x0) 0))),(.agg 1 [(eI (zC (nth (flds (nth (flds x0) 1)) 0))),(eI (zC (nth (flds (nth (flds x0) 1)) 1)))])]),(.agg 1 [(eI (Aa .i64 ((zC (nth (flds x2) 0)) - (zC (nth (flds x1) 0))))),(eI (Aa .i64 ((zC (nth (flds x2) 1)) - (zC (nth (flds x1) 1)))))])])
 (λr0=>ifO (zF EE 6 3 r0)
 (ifO ((Bs (zC (nth (flds x0) 0)) (2:Int)) == (1:Int))
 (some (.val (.tup [(eI (Int.fdiv (zC r0) (2:Int))),(eI (ite ((Aa .i64 ((0:Int) - (Aa .i64 ((Aa .i64 ((Aa .i64 ((zC (nth (flds x2) 0)) - (zC (nth (flds x1) 0)))) * (zC (nth (flds (nth (flds x0) 1)) 1)))) - (Aa .i64 ((Aa .i64 ((zC (nth (flds x2) 1)) - (zC (nth (flds x1) 1)))) * (zC (nth (flds (nth (flds x0) 1)) 0))))))))>(Aa .i64 ((Aa .i64 ((Aa .i64 ((zC (nth (flds x2) 0)) - (zC (nth (flds x1) 0)))) * (zC (nth (flds (nth (flds x0) 1)) 1)))) - (Aa .i64 ((Aa .i64 ((zC (nth (flds x2) 1)) - (zC (nth (flds x1) 1)))) * (zC (nth (flds (nth (flds x0) 1)) 0))))))) (Aa .i64 ((0:Int) - (Aa .i64 ((Aa .i64 ((Aa .i64 ((zC (nth (flds x2) 0)) - (zC (nth (flds x1) 0)))) * (zC (nth (flds (nth (flds x0) 1)) 1)))) - (Aa .i64 ((Aa .i64 ((zC (nth (flds x2) 1)) - (zC (nth (flds x1) 1)))) * (zC (nth (flds (nth (flds x0) 1)) 0)))))))) (Aa .i64 ((Aa .i64 ((Aa .i64 ((zC (nth (flds x2) 0)) - (zC (nth (flds x1) 0)))) * (zC (nth (flds (nth (flds x0) 1)) 1)))) - (Aa .i64 ((Aa .i64 ((zC (nth (flds x2) 1)) - (zC (nth (flds x1) 1)))) * (zC (nth (flds (nth (flds x0) 1)) 0))))))))])))
 (some (.val (.tup [(eI (zC r0)),(eI (ite ((Aa .i64 ((0:Int) - (Aa .i64 ((Aa .i64 ((Aa .i64 ((zC (nth (flds x2) 0)) - (zC (nth (flds x1) 0)))) * (zC (nth (flds (nth (flds x0) 1)) 1)))) - (Aa .i64 ((Aa .i64 ((zC (nth (flds x2) 1)) - (zC (nth (flds x1) 1)))) * (zC (nth (flds (nth (flds x0) 1)) 0))))))))>(Aa .i64 ((Aa .i64 ((Aa .i64 ((zC (nth (flds x2) 0)) - (zC (nth (flds x1) 0)))) * (zC (nth (flds (nth (flds x0) 1)) 1)))) - (Aa .i64 ((Aa .i64 ((zC (nth (flds x2) 1)) - (zC (nth (flds x1) 1)))) * (zC (nth (flds (nth (flds x0) 1)) 0))))))) (Aa .i64 ((0:Int) - (Aa .i64 ((Aa .i64 ((Aa .i64 ((zC (nth (flds x2) 0)) - (zC (nth (flds x1) 0)))) * (zC (nth (flds (nth (flds x0) 1)) 1)))) - (Aa .i64 ((Aa .i64 ((zC (nth (flds x2) 1)) - (zC (nth (flds x1) 1)))) * (zC (nth (flds (nth (flds x0) 1)) 0)))))))) (Aa .i64 ((Aa .i64 ((Aa .i64 ((zC (nth (flds x2) 0)) - (zC (nth (flds x1) 0)))) * (zC (nth (flds (nth (flds x0) 1)) 1)))) - (Aa .i64 ((Aa .i64 ((zC (nth (flds x2) 1)) - (zC (nth (flds x1) 1)))) * (zC (nth (flds (nth (flds x0) 1)) 0))))))))]))))
 (none))
 (λ_ _=>none))
 (none) :=
 (zM (f:=185) (by kernel_rfl) (by kernel_rfl) (by kernel_rfl) [x0,x1,x2]).trans (by kernel_rfl)
theorem C186(x0 x1 x2:DV):zB 186 [x0,x1,x2] =
 ifO (zV (zF EE 6) [59,3,3] [x0,x1,x2])
 (ifO (decide ((zC x1)<(1:Int)))
 (some (.val (eI 0)))
 (ifO (decide ((zC x1)>(((Ab (elems (nth (flds x0) 1))):Nat):Int)))
 (some (.val (eI 0)))
 (ifO (decide (((0:Int)<=(Aa .i64 ((zC x1) - (1:Int))))/\((Aa .i64 ((zC x1) - (1:Int)))<(((Ab (elems (nth (flds x0) 2))):Nat):Int))))
 (ifO (zF EE 6 3 (nth (elems (nth (flds x0) 2)) (Ac (Aa .i64 ((zC x1) - (1:Int))))))
 (ifO (decide ((zC x2)>(zC (nth (elems (nth (flds x0) 2)) (Ac (Aa .i64 ((zC x1) - (1:Int))))))))
 (some (.val (eI 0)))
 (ifO (decide (((0:Int)<=(Aa .i64 ((zC x1) - (1:Int))))/\((Aa .i64 ((zC x1) - (1:Int)))<(((Ab (elems (nth (flds x0) 1))):Nat):Int))))
 (ifO (zF EE 6 3 (nth (elems (nth (flds x0) 1)) (Ac (Aa .i64 ((zC x1) - (1:Int))))))
 (some (.val (eI (zC (nth (elems (nth (flds x0) 1)) (Ac (Aa .i64 ((zC x1) - (1:Int)))))))))
 (none))
 (none)))
 (none))
 (none))))
 (none) :=
 (zM (f:=186) (by kernel_rfl) (by kernel_rfl) (by kernel_rfl) [x0,x1,x2]).trans (by kernel_rfl)
theorem C187(x0 x1:DV):zB 187 [x0,x1] =
 ifO (zV (zF EE 6) [251,141] [x0,x1])
 (some (.val (eI (Aa .i64 ((Aa .i64 ((zC (nth (flds x1) 0)) * (zC (nth (flds (nth (flds x0) 1)) 0))))+(Aa .i64 ((zC (nth (flds x1) 1)) * (zC (nth (flds (nth (flds x0) 1)) 1)))))))))
 (none) :=
 (zM (f:=187) (by kernel_rfl) (by kernel_rfl) (by kernel_rfl) [x0,x1]).trans (by kernel_rfl)
theorem C198:zB 198 [] =
 some (.val (.mp [(.str (bs [103,114,101,97,116,101,115,116])),(.str (bs [115,113,117,97,114,101,115])),(.str (bs [115,117,109]))] [(.agg 12 [(.fn 262 [] [])]),(.agg 12 [(.fn 264 [] [])]),(.agg 12 [(.fn 231 [] [])])])) :=
 (zM (f:=198) (by kernel_rfl) (by kernel_rfl) (by kernel_rfl) []).trans (by kernel_rfl)
theorem C199(x0 x1 x2:DV):zB 199 [x0,x1,x2] =
 ifO (zV (zF EE 6) [58,59,3] [x0,x1,x2])
 (zH (zB 158 [(.agg 0 [(.str (zX (nth (flds x0) 0))),(eI (zC (nth (flds x0) 1))),(.sl 3 (elems (nth (flds x0) 2)))])])
 (λr0=>ifO (zF EE 6 46 r0)
 (zH (zB 75 [(.agg 0 [(.str (zX (nth (flds x1) 0))),(.sl 1 (elems (nth (flds x1) 1))),(.sl 1 (elems (nth (flds x1) 2)))])])
 (λr1=>ifO (zF EE 6 46 r1)
 (zH (zB 148 [(.sl 1 [(eI (zC r0)),(eI (zC r1))])])
 (λr2=>ifO (zF EE 6 46 r2)
 (ifO (bne (zC r2) 0)
 (some (.val (.tup [(.agg 9 [(eI 0),(.agg 1 [(eI 0),(eI 0)])]),(eI (zC r2))])))
 (zH (zB 147 [(eI (zC x2))])
 (λr3=>ifO ((DV.isTup r3) && (zV (zF EE 6) [251,46] (tups r3)))
 (some (.val (.tup [(.agg 9 [(eI (zC (nth (flds (nth (tups r3) 0)) 0))),(.agg 1 [(eI (zC (nth (flds (nth (flds (nth (tups r3) 0)) 1)) 0))),(eI (zC (nth (flds (nth (flds (nth (tups r3) 0)) 1)) 1)))])]),(eI (zC (nth (tups r3) 1)))])))
 (none))
 (λ_ _=>none)))
 (none))
 (λ_ _=>none))
 (none))
 (λ_ _=>none))
 (none))
 (λ_ _=>none))
 (none) :=
 (zM (f:=199) (by kernel_rfl) (by kernel_rfl) (by kernel_rfl) [x0,x1,x2]).trans (by kernel_rfl)
def S232_0a(v0:Nat)(v1 v2 v3:List DV)(v4:Int):St :=
 zr 22 [(1,(.d (.fn v0 v1 v2))),(5,(.d .nl)),(8,(.d (.sl 3 v3))),(9,(.d (eI v4))),(10,(.d (eI 0)))] []
noncomputable def L232_0a(v0:Nat)(v1 v2 v3:List DV)(v4:Int):Option CR:=goQ 232 0 (S232_0a v0 v1 v2 v3 v4)
def S232_0b(v0:Nat)(v1 v2 v3 v4:List DV)(v5 v6:Int):St :=
 zr 22 [(1,(.d (.fn v0 v1 v2))),(5,(.own 19 0 (Ab v3) 2)),(8,(.d (.sl 3 v4))),(9,(.d (eI v5))),(10,(.d (eI v6)))] [(19,(.mk false (.dc 2 v3)))]
noncomputable def zE0(v0:Nat)(v1 v2 v3 v4:List DV)(v5 v6:Int):Option CR:=goQ 232 0 (S232_0b v0 v1 v2 v3 v4 v5 v6)
theorem L232_0a_eq(v0:Nat)(v1 v2 v3:List DV)(v4:Int):L232_0a v0 v1 v2 v3 v4 =
 ifO (decide ((0:Int)<v4))
 (ifO (decide (((0:Int)<=(0:Int))/\((0:Int)<(((Ab v3):Nat):Int))))
 (ifO (zF EE 6 176 (nth v3 0))
 (zH (zB v0 (zy EE v0 ((v1++[(.agg 9 [(.str (zX (nth (flds (nth v3 0)) 0))),(.agg 1 [(eI (zC (nth (flds (nth (flds (nth v3 0)) 1)) 0))),(eI (zC (nth (flds (nth (flds (nth v3 0)) 1)) 1)))])])])++v2)))
 (λr0=>ifO (zF EE 6 141 r0)
 ((zE0 v0 v1 v2 [(.agg 1 [(eI (zC (nth (flds r0) 0))),(eI (zC (nth (flds r0) 1)))])] v3 v4 (1:Int)))
 (none))
 (λ_ _=>none))
 (none))
 (none))
 (some (.val (.sl 2 []))) :=
 (zb 232 0 _).trans (by kernel_rfl)
theorem zEz(v0:Nat)(v1 v2 v3 v4:List DV)(v5 v6:Int):zE0 v0 v1 v2 v3 v4 v5 v6 =
 ifO (decide (v6<v5))
 (ifO (decide (((0:Int)<=v6)/\(v6<(((Ab v4):Nat):Int))))
 (ifO (zF EE 6 176 (nth v4 (Ac v6)))
 (zH (zB v0 (zy EE v0 ((v1++[(.agg 9 [(.str (zX (nth (flds (nth v4 (Ac v6))) 0))),(.agg 1 [(eI (zC (nth (flds (nth (flds (nth v4 (Ac v6))) 1)) 0))),(eI (zC (nth (flds (nth (flds (nth v4 (Ac v6))) 1)) 1)))])])])++v2)))
 (λr3=>ifO (zF EE 6 141 r3)
 (ifO (decide ((Ab v3)=(Ab v3)))
 (ifO (decide ((((2 * ((Ab v3)+1))+200) * 16)<=281474976710656))
 ((zE0 v0 v1 v2 (v3++[(.agg 1 [(eI (zC (nth (flds r3) 0))),(eI (zC (nth (flds r3) 1)))])]) v4 v5 (Aa .i64 (v6+(1:Int)))))
 (none))
 (none))
 (none))
 (λ_ _=>none))
 (none))
 (none))
 (ifO (decide ((0+(Ab v3))<=(Ab v3)))
 (some (.val (.sl 2 (AG (Ab v3) (AL 0 v3)))))
 (none)) :=
 (zb 232 0 _).trans (by kernel_rfl)
theorem C232(x0 x1:DV):zB 232 [x0,x1] =
 ifO (zV (zF EE 6) [56,349] [x0,x1])
 ((L232_0a (zDz x1) (fnA x1) (fnC x1) (elems x0) (((Ab (elems x0)):Nat):Int)))
 (none) :=
 (zM (f:=232) (by kernel_rfl) (by kernel_rfl) (by kernel_rfl) [x0,x1]).trans (by kernel_rfl)
theorem C233(x0:DV):zB 233 [x0] =
 ifO (zV (zF EE 6) [176] [x0])
 (some (.val (.agg 1 [(eI (zC (nth (flds (nth (flds x0) 1)) 0))),(eI (zC (nth (flds (nth (flds x0) 1)) 1)))])))
 (none) :=
 (zM (f:=233) (by kernel_rfl) (by kernel_rfl) (by kernel_rfl) [x0]).trans (by kernel_rfl)
theorem C235(x0 x1:DV):zB 235 [x0,x1] =
 ifO (((zV (zF EE 6) [3] [x0]) && true) && (List.all [x1] zHy))
 (ifO (zF EE 6 3 (undp x1))
 (some (.val (eI (Aa .i64 ((zC (undp x1)) * (Aa .i64 ((256:Int) - (zC x0))))))))
 (none))
 (none) :=
 (zM (f:=235) (by kernel_rfl) (by kernel_rfl) (by kernel_rfl) [x0,x1]).trans (by kernel_rfl)
def S236_0a(v0:Nat)(v1 v2 v3:List DV)(v4:Int):St :=
 zr 22 [(1,(.d (.fn v0 v1 v2))),(5,(.d .nl)),(8,(.d (.sl 1 v3))),(9,(.d (eI v4))),(10,(.d (eI 0)))] []
noncomputable def L236_0a(v0:Nat)(v1 v2 v3:List DV)(v4:Int):Option CR:=goQ 236 0 (S236_0a v0 v1 v2 v3 v4)
def S236_0b(v0:Nat)(v1 v2 v3 v4:List DV)(v5 v6:Int):St :=
 zr 22 [(1,(.d (.fn v0 v1 v2))),(5,(.own 19 0 (Ab v3) 1)),(8,(.d (.sl 1 v4))),(9,(.d (eI v5))),(10,(.d (eI v6)))] [(19,(.mk false (.dc 1 v3)))]
noncomputable def zEy(v0:Nat)(v1 v2 v3 v4:List DV)(v5 v6:Int):Option CR:=goQ 236 0 (S236_0b v0 v1 v2 v3 v4 v5 v6)
theorem L236_0a_eq(v0:Nat)(v1 v2 v3:List DV)(v4:Int):L236_0a v0 v1 v2 v3 v4 =
 ifO (decide ((0:Int)<v4))
 (ifO (decide (((0:Int)<=(0:Int))/\((0:Int)<(((Ab v3):Nat):Int))))
 (ifO (zF EE 6 25 (nth v3 0))
 (zH (zB v0 (zy EE v0 ((v1++[(.sl 1 (elems (nth v3 0)))])++v2)))
 (λr0=>ifO (zF EE 6 3 r0)
 ((zEy v0 v1 v2 [(eI (zC r0))] v3 v4 (1:Int)))
 (none))
 (λ_ _=>none))
 (none))
 (none))
 (some (.val (.sl 1 []))) :=
 (zb 236 0 _).trans (by kernel_rfl)
theorem zEx(v0:Nat)(v1 v2 v3 v4:List DV)(v5 v6:Int):zEy v0 v1 v2 v3 v4 v5 v6 =
 ifO (decide (v6<v5))
 (ifO (decide (((0:Int)<=v6)/\(v6<(((Ab v4):Nat):Int))))
 (ifO (zF EE 6 25 (nth v4 (Ac v6)))
 (zH (zB v0 (zy EE v0 ((v1++[(.sl 1 (elems (nth v4 (Ac v6))))])++v2)))
 (λr3=>ifO (zF EE 6 3 r3)
 (ifO (decide ((Ab v3)=(Ab v3)))
 (ifO (decide ((((2 * ((Ab v3)+1))+200) * 8)<=281474976710656))
 ((zEy v0 v1 v2 (v3++[(eI (zC r3))]) v4 v5 (Aa .i64 (v6+(1:Int)))))
 (none))
 (none))
 (none))
 (λ_ _=>none))
 (none))
 (none))
 (ifO (decide ((0+(Ab v3))<=(Ab v3)))
 (some (.val (.sl 1 (AG (Ab v3) (AL 0 v3)))))
 (none)) :=
 (zb 236 0 _).trans (by kernel_rfl)
theorem C236(x0 x1:DV):zB 236 [x0,x1] =
 ifO (zV (zF EE 6) [95,73] [x0,x1])
 ((L236_0a (zDz x1) (fnA x1) (fnC x1) (elems x0) (((Ab (elems x0)):Nat):Int)))
 (none) :=
 (zM (f:=236) (by kernel_rfl) (by kernel_rfl) (by kernel_rfl) [x0,x1]).trans (by kernel_rfl)
theorem C237(x0 x1:DV):zB 237 [x0,x1] =
 ifO (((zV (zF EE 6) [25] [x0]) && true) && (List.all [x1] zHy))
 (ifO (zF EE 6 73 (undp x1))
 (zH (zB (zDz (undp x1)) (zy EE (zDz (undp x1)) (((fnA (undp x1))++[(.sl 1 (elems x0))])++(fnC (undp x1)))))
 (λr0=>ifO (zF EE 6 3 r0)
 (some (.val (eI (ite ((zC r0)<(256:Int)) (zC r0) (256:Int)))))
 (none))
 (λ_ _=>none))
 (none))
 (none) :=
 (zM (f:=237) (by kernel_rfl) (by kernel_rfl) (by kernel_rfl) [x0,x1]).trans (by kernel_rfl)
theorem C262(x0:DV):zB 262 [x0] =
 ifO (zV (zF EE 6) [25] [x0])
 (ifO (decide ((((2 * (1+(Ab (elems x0))))+200) * 8)<=281474976710656))
 (ifO (decide ((0+(Ab ([(eI 0)]++(elems x0))))<=(Ab ([(eI 0)]++(elems x0)))))
 (zH (zB 263 [(.sl 1 (AG (Ab ([(eI 0)]++(elems x0))) (AL 0 ([(eI 0)]++(elems x0)))))])
 (λr0=>ifO (zF EE 6 3 r0)
 (some (.val (eI (zC r0))))
 (none))
 (λ_ _=>none))
 (none))
 (none))
 (none) :=
 (zM (f:=262) (by kernel_rfl) (by kernel_rfl) (by kernel_rfl) [x0]).trans (by kernel_rfl)
def S263_0a(v0:List DV)(v1 v2:Int):St :=
 zr 25 [(0,(.d (.sl 1 v0))),(3,(.d (eI v1))),(4,(.d (eI v2)))] []
noncomputable def zCq(v0:List DV)(v1 v2:Int):Option CR:=goQ 263 0 (S263_0a v0 v1 v2)
theorem zEv(v0:List DV)(v1 v2:Int):zCq v0 v1 v2 =
 ifO (decide (v2<(((Ab v0):Nat):Int)))
 (ifO (decide (((0:Int)<=v2)/\(v2<(((Ab v0):Nat):Int))))
 (ifO (zF EE 6 3 (nth v0 (Ac v2)))
 ((zCq v0 (ite ((zC (nth v0 (Ac v2)))>v1) (zC (nth v0 (Ac v2))) v1) (Aa .i64 (v2+(1:Int)))))
 (none))
 (none))
 (some (.val (eI v1))) :=
 (zb 263 0 _).trans (by kernel_rfl)
theorem C263(x0:DV):zB 263 [x0] =
 ifO (zV (zF EE 6) [25] [x0])
 (ifO (decide ((((Ab (elems x0)):Nat):Int)<(1:Int)))
 (none)
 (ifO (decide (((0:Int)<=(0:Int))/\((0:Int)<(((Ab (elems x0)):Nat):Int))))
 (ifO (zF EE 6 3 (nth (elems x0) 0))
 ((zCq (elems x0) (zC (nth (elems x0) 0)) (1:Int)))
 (none))
 (none)))
 (none) :=
 (zM (f:=263) (by kernel_rfl) (by kernel_rfl) (by kernel_rfl) [x0]).trans (by kernel_rfl)
theorem C264(x0:DV):zB 264 [x0] =
 ifO (zV (zF EE 6) [25] [x0])
 (zH (zB 151 [(.sl 1 (elems x0)),(.fn 266 [] [])])
 (λr0=>ifO (zF EE 6 25 r0)
 (zH (zB 231 [(.sl 1 (elems r0))])
 (λr1=>ifO (zF EE 6 3 r1)
 (zH (zB 265 [(eI (zC r1))])
 (λr2=>ifO (zF EE 6 3 r2)
 (some (.val (eI (zC r2))))
 (none))
 (λ_ _=>none))
 (none))
 (λ_ _=>none))
 (none))
 (λ_ _=>none))
 (none) :=
 (zM (f:=264) (by kernel_rfl) (by kernel_rfl) (by kernel_rfl) [x0]).trans (by kernel_rfl)
def S265_0a(v0 v1 v2:Int):St :=
 zr 22 [(0,(.d (eI v0))),(3,(.d (eI v1))),(4,(.d (eI v2)))] []
noncomputable def zCp(v0 v1 v2:Int):Option CR:=goQ 265 0 (S265_0a v0 v1 v2)
theorem L265_0a_eq(v0 v1 v2:Int):zCp v0 v1 v2 =
 ifO (decide ((Aa .i64 (v2 - v1))>(1:Int)))
 (ifO (decide ((Aa .i64 ((Aa .i64 (Ax (Aa .i64 (v1+v2)) (2:Int))) * (Aa .i64 (Ax (Aa .i64 (v1+v2)) (2:Int)))))<=v0))
 ((zCp v0 (Aa .i64 (Ax (Aa .i64 (v1+v2)) (2:Int))) v2))
 ((zCp v0 v1 (Aa .i64 (Ax (Aa .i64 (v1+v2)) (2:Int))))))
 (some (.val (eI v1))) :=
 (zb 265 0 _).trans (by kernel_rfl)
theorem C265(x0:DV):zB 265 [x0] =
 ifO (zV (zF EE 6) [3] [x0])
 ((zCp (zC x0) (0:Int) (65536:Int)))
 (none) :=
 (zM (f:=265) (by kernel_rfl) (by kernel_rfl) (by kernel_rfl) [x0]).trans (by kernel_rfl)
theorem C266(x0:DV):zB 266 [x0] =
 ifO (zV (zF EE 6) [3] [x0])
 (some (.val (eI (Aa .i64 ((zC x0) * (zC x0))))))
 (none) :=
 (zM (f:=266) (by kernel_rfl) (by kernel_rfl) (by kernel_rfl) [x0]).trans (by kernel_rfl)
theorem C146(x0:DV):zB 146 [x0] =
 ifO (zV (zF EE 6) [58] [x0])
 (zH (zB 232 [(.sl 3 (elems (nth (flds x0) 2))),(.fn 233 [] [])])
 (λr0=>ifO (zF EE 6 81 r0)
 (some (.val (.sl 2 (elems r0))))
 (none))
 (λ_ _=>none))
 (none) :=
 (zM (f:=146) (by kernel_rfl) (by kernel_rfl) (by kernel_rfl) [x0]).trans (by kernel_rfl)
theorem C144(x0:DV):zB 144 [x0] =
 ifO (zV (zF EE 6) [62] [x0])
 (some (.val (.agg 13 [(.agg 0 [(.str (zX (nth (flds (nth (flds x0) 1)) 0))),(.sl 1 (elems (nth (flds (nth (flds x0) 1)) 1))),(.sl 1 (elems (nth (flds (nth (flds x0) 1)) 2)))]),(.agg 1 [(.sl 1 (elems (nth (flds (nth (flds x0) 2)) 0))),(eI (zC (nth (flds (nth (flds x0) 2)) 1)))]),(.agg 3 (flds (nth (flds x0) 3)))])))
 (none) :=
 (zM (f:=144) (by kernel_rfl) (by kernel_rfl) (by kernel_rfl) [x0]).trans (by kernel_rfl)
def S145_0a(v0:List DV)(v1 v2:Int)(v3:List DV)(v4:Int)(v5:ByteArray)(v6 v7 v8:List DV)(v9:Int):St :=
 zr 65 [(1,(.d (.sl 2 v0))),(2,(.d (eI v1))),(3,(.ptr 3 413 0 [])),(7,(.d (eI v2))),(16,(.d (.agg 3 v3))),(17,(.d (eI v4)))] [(3,(.mk false (.dc 413 [(.agg 13 [(.agg 0 [(.str v5),(.sl 1 v6),(.sl 1 v7)]),(.agg 1 [(.sl 1 v8),(eI v9)]),(.agg 3 v3)])])))]
noncomputable def QP(v0:List DV)(v1 v2:Int)(v3:List DV)(v4:Int)(v5:ByteArray)(v6 v7 v8:List DV)(v9:Int):Option CR:=goQ 145 0 (S145_0a v0 v1 v2 v3 v4 v5 v6 v7 v8 v9)
def S145_1a(v0:List DV)(v1 v2:Int)(v3 v4:List DV)(v5:Int)(v6:List DV)(v7:Int)(v8:ByteArray)(v9 v10 v11:List DV)(v12:Int):St :=
 zr 65 [(1,(.d (.sl 2 v0))),(2,(.d (eI v1))),(3,(.ptr 3 413 0 [])),(7,(.d (eI v2))),(12,(.d (.sl 1 v3))),(16,(.d (.agg 3 v4))),(17,(.d (eI v5))),(34,(.d (.agg 2 v6))),(35,(.d (eI v7)))] [(3,(.mk false (.dc 413 [(.agg 13 [(.agg 0 [(.str v8),(.sl 1 v9),(.sl 1 v10)]),(.agg 1 [(.sl 1 v11),(eI v12)]),(.agg 3 v4)])])))]
noncomputable def QO(v0:List DV)(v1 v2:Int)(v3 v4:List DV)(v5:Int)(v6:List DV)(v7:Int)(v8:ByteArray)(v9 v10 v11:List DV)(v12:Int):Option CR:=goQ 145 1 (S145_1a v0 v1 v2 v3 v4 v5 v6 v7 v8 v9 v10 v11 v12)
theorem zFR(v0:List DV)(v1 v2:Int)(v3:List DV)(v4:Int)(v5:ByteArray)(v6 v7 v8:List DV)(v9:Int):QP v0 v1 v2 v3 v4 v5 v6 v7 v8 v9 =
 ifO (decide (v4<(8:Int)))
 (ifO (decide ((0:Int)<=v4))
 (ifO (jK 3 (Ac v4) (.agg 3 v3))
 (ifO (zF EE 6 30 (nth v3 (Ac v4)))
 (zH (zB 230 [])
 (λr0=>ifO (zF EE 6 30 r0)
 (ifO (AB (YT EE 30 (.agg 2 (flds (nth v3 (Ac v4)))) (.agg 2 (flds r0))))
 (ifO (ifO.match_1 (λy240=>Bool) false (λy297=>(!(Ad (YT EE 30 (.agg 2 (flds (nth v3 (Ac v4)))) (.agg 2 (flds r0))) false))) (λy810=>(Ad (YT EE 30 (.agg 2 (flds (nth v3 (Ac v4)))) (.agg 2 (flds r0))) false)))
 ((QP v0 v1 v2 v3 (Aa .i64 (v4+(1:Int))) v5 v6 v7 v8 v9))
 (zH (zB 147 [(eI v4)])
 (λr1=>ifO ((DV.isTup r1) && (zV (zF EE 6) [251,46] (tups r1)))
 (zH (zB 153 [(.agg 0 [(.str v5),(.sl 1 v6),(.sl 1 v7)]),(.sl 2 v0),(.agg 9 [(eI (zC (nth (flds (nth (tups r1) 0)) 0))),(.agg 1 [(eI (zC (nth (flds (nth (flds (nth (tups r1) 0)) 1)) 0))),(eI (zC (nth (flds (nth (flds (nth (tups r1) 0)) 1)) 1)))])])])
 (λr2=>ifO (zF EE 6 25 r2)
 ((QO v0 v1 v2 (elems r2) v3 v4 (flds (nth v3 (Ac v4))) (0:Int) v5 v6 v7 v8 v9))
 (none))
 (λ_ _=>none))
 (none))
 (λ_ _=>none)))
 (none))
 (none))
 (λ_ _=>none))
 (none))
 (none))
 (none))
 (some (.val (eI v2))) :=
 (zb 145 0 _).trans (by kernel_rfl)
theorem zFQ(v0:List DV)(v1 v2:Int)(v3 v4:List DV)(v5:Int)(v6:List DV)(v7:Int)(v8:ByteArray)(v9 v10 v11:List DV)(v12:Int):QO v0 v1 v2 v3 v4 v5 v6 v7 v8 v9 v10 v11 v12 =
 ifO (decide (v7<(51:Int)))
 (ifO (decide ((0:Int)<=v7))
 (ifO (jK 2 (Ac v7) (.agg 2 v6))
 (ifO (zF EE 6 3 (nth v6 (Ac v7)))
 (ifO (decide ((zC (nth v6 (Ac v7)))>(0:Int)))
 (ifO (decide (v7<v12))
 (zH (zB 152 [(.sl 1 v3),(eI (Aa .i64 (v7+v1)))])
 (λr9=>ifO (zF EE 6 25 r9)
 (zH (zB 151 [(.sl 1 (elems r9)),(.fn 150 [(.agg 1 [(.sl 1 v11),(eI v12)])] [])])
 (λr10=>ifO (zF EE 6 25 r10)
 (zH (zB 231 [(.sl 1 (elems r10))])
 (λr11=>ifO (zF EE 6 3 r11)
 ((QO v0 v1 (Aa .i64 (v2+(Aa .i64 ((zC (nth v6 (Ac v7))) * (zC r11))))) v3 v4 v5 v6 (Aa .i64 (v7+(1:Int))) v8 v9 v10 v11 v12))
 (none))
 (λ_ _=>none))
 (none))
 (λ_ _=>none))
 (none))
 (λ_ _=>none))
 ((QO v0 v1 v2 v3 v4 v5 v6 (Aa .i64 (v7+(1:Int))) v8 v9 v10 v11 v12)))
 ((QO v0 v1 v2 v3 v4 v5 v6 (Aa .i64 (v7+(1:Int))) v8 v9 v10 v11 v12)))
 (none))
 (none))
 (none))
 ((QP v0 v1 v2 v4 (Aa .i64 (v5+(1:Int))) v8 v9 v10 v11 v12)) :=
 (zb 145 1 _).trans (by kernel_rfl)
theorem C145(x0 x1 x2:DV):zB 145 [x0,x1,x2] =
 ifO (zV (zF EE 6) [246,81,3] [x0,x1,x2])
 ((QP (elems x1) (zC x2) (0:Int) (flds (nth (flds x0) 2)) (0:Int) (zX (nth (flds (nth (flds x0) 0)) 0)) (elems (nth (flds (nth (flds x0) 0)) 1)) (elems (nth (flds (nth (flds x0) 0)) 2)) (elems (nth (flds (nth (flds x0) 1)) 0)) (zC (nth (flds (nth (flds x0) 1)) 1))))
 (none) :=
 (zM (f:=145) (by kernel_rfl) (by kernel_rfl) (by kernel_rfl) [x0,x1,x2]).trans (by kernel_rfl)
theorem C230:zB 230 [] =
 some (.val (.agg 2 (Aq (α:=DV) 51 (eI 0)))) :=
 (zM (f:=230) (by kernel_rfl) (by kernel_rfl) (by kernel_rfl) []).trans (by kernel_rfl)
theorem C202(x0:DV):zB 202 [x0] =
 ifO (zV (zF EE 6) [246] [x0])
 (some (.val (.agg 13 [(.agg 0 [(.str (bs [115,117,109])),(.sl 1 [(eI 0)]),(.sl 1 [(eI 0)])]),(.agg 1 [(.sl 1 (elems (nth (flds (nth (flds x0) 1)) 0))),(eI (zC (nth (flds (nth (flds x0) 1)) 1)))]),(.agg 3 (flds (nth (flds x0) 2)))])))
 (none) :=
 (zM (f:=202) (by kernel_rfl) (by kernel_rfl) (by kernel_rfl) [x0]).trans (by kernel_rfl)
end Go.Am
namespace Go.Am
open Go.Proofs
open Go
variable[OO]
def S158_0a(v0:Int)(v1:List DV)(v2 v3:Int)(v4:ByteArray)(v5:Int)(v6 v7:List DV):St :=
 zr 76 [(1,(.ptr 1 3 0 [])),(4,(.omp 26)),(5,(.d (eI v0))),(28,(.d (.sl 3 v1))),(29,(.d (eI v2))),(30,(.d (eI v3)))] [(1,(.mk false (.dc 3 [(.agg 0 [(.str v4),(eI v5),(.sl 3 v1)])]))),(26,(.mk false (.mp v6 v7)))]
noncomputable def zAO(v0:Int)(v1:List DV)(v2 v3:Int)(v4:ByteArray)(v5:Int)(v6 v7:List DV):Option CR:=goQ 158 0 (S158_0a v0 v1 v2 v3 v4 v5 v6 v7)
def S158_1a(v0:Int)(v1:List DV)(v2 v3:Int)(v4:List DV)(v5 v6:Int)(v7:ByteArray)(v8:Int)(v9:ByteArray)(v10 v11:Int)(v12 v13:List DV):St :=
 zr 76 [(1,(.ptr 1 3 0 [])),(4,(.omp 26)),(5,(.d (eI v0))),(7,(.ptr 7 3 0 [])),(28,(.d (.sl 3 v1))),(29,(.d (eI v2))),(30,(.d (eI v3))),(56,(.d (.sl 3 v4))),(57,(.d (eI v5))),(58,(.d (eI v6)))] [(1,(.mk false (.dc 3 [(.agg 0 [(.str v7),(eI v8),(.sl 3 v1)])]))),(7,(.mk false (.dc 3 [(.agg 9 [(.str v9),(.agg 1 [(eI v10),(eI v11)])])]))),(26,(.mk false (.mp v12 v13)))]
noncomputable def QN(v0:Int)(v1:List DV)(v2 v3:Int)(v4:List DV)(v5 v6:Int)(v7:ByteArray)(v8:Int)(v9:ByteArray)(v10 v11:Int)(v12 v13:List DV):Option CR:=goQ 158 1 (S158_1a v0 v1 v2 v3 v4 v5 v6 v7 v8 v9 v10 v11 v12 v13)
theorem zFL(v0:Int)(v1:List DV)(v2 v3:Int)(v4:ByteArray)(v5:Int)(v6 v7:List DV):zAO v0 v1 v2 v3 v4 v5 v6 v7 =
 ifO (decide (v3<v2))
 (ifO (decide (((0:Int)<=v3)/\(v3<(((Ab v1):Nat):Int))))
 (ifO (zF EE 6 176 (nth v1 (Ac v3)))
 (zH (zB 224 [(.str (zX (nth (flds (nth v1 (Ac v3))) 0)))])
 (λr12=>ifO (zF EE 6 46 r12)
 (zH (zB 239 [(.agg 1 [(eI (zC (nth (flds (nth (flds (nth v1 (Ac v3))) 1)) 0))),(eI (zC (nth (flds (nth (flds (nth v1 (Ac v3))) 1)) 1)))])])
 (λr13=>ifO (zF EE 6 46 r13)
 (ifO (AB (jh (.str (zX (nth (flds (nth v1 (Ac v3))) 0))) v6 v7))
 (ifO (AB (Ad (jh (.str (zX (nth (flds (nth v1 (Ac v3))) 0))) v6 v7) (AF)))
 (ifO (zF EE 6 4 (Ad (Ad (jh (.str (zX (nth (flds (nth v1 (Ac v3))) 0))) v6 v7) (AF)) .nl))
 (zH (zB 136 [(.bool (jm (Ad (Ad (jh (.str (zX (nth (flds (nth v1 (Ac v3))) 0))) v6 v7) (AF)) .nl))),(eI 9)])
 (λr14=>ifO (zF EE 6 46 r14)
 (zH (zB 134 [(.sl 1 [(eI (zC r12)),(eI (zC r13)),(eI (zC r14))])])
 (λr15=>ifO (zF EE 6 46 r15)
 (ifO (bne (zC r15) 0)
 (some (.val (eI (zC r15))))
 (ifO (AB (Y9 (.str (zX (nth (flds (nth v1 (Ac v3))) 0))) (.bool true) v6 v7))
 (ifO (decide ((0:Int)<=v3))
 (ifO (decide ((0<=(Ac v3))/\((Ac v3)<=(Ab v1))))
 ((QN (zC r15) v1 v2 v3 (AL 0 (AG (Ac v3) v1)) (((Ab (AL 0 (AG (Ac v3) v1))):Nat):Int) (0:Int) v4 v5 (zX (nth (flds (nth v1 (Ac v3))) 0)) (zC (nth (flds (nth (flds (nth v1 (Ac v3))) 1)) 0)) (zC (nth (flds (nth (flds (nth v1 (Ac v3))) 1)) 1)) (Ay (Ad (Y9 (.str (zX (nth (flds (nth v1 (Ac v3))) 0))) (.bool true) v6 v7) (BS [] []))) (AJ (Ad (Y9 (.str (zX (nth (flds (nth v1 (Ac v3))) 0))) (.bool true) v6 v7) (BS [] [])))))
 (none))
 (none))
 (none)))
 (none))
 (λ_ _=>none))
 (none))
 (λ_ _=>none))
 (none))
 (zH (zB 136 [(.bool false),(eI 9)])
 (λr20=>ifO (zF EE 6 46 r20)
 (zH (zB 134 [(.sl 1 [(eI (zC r12)),(eI (zC r13)),(eI (zC r20))])])
 (λr21=>ifO (zF EE 6 46 r21)
 (ifO (bne (zC r21) 0)
 (some (.val (eI (zC r21))))
 (ifO (AB (Y9 (.str (zX (nth (flds (nth v1 (Ac v3))) 0))) (.bool true) v6 v7))
 (ifO (decide ((0:Int)<=v3))
 (ifO (decide ((0<=(Ac v3))/\((Ac v3)<=(Ab v1))))
 ((QN (zC r21) v1 v2 v3 (AL 0 (AG (Ac v3) v1)) (((Ab (AL 0 (AG (Ac v3) v1))):Nat):Int) (0:Int) v4 v5 (zX (nth (flds (nth v1 (Ac v3))) 0)) (zC (nth (flds (nth (flds (nth v1 (Ac v3))) 1)) 0)) (zC (nth (flds (nth (flds (nth v1 (Ac v3))) 1)) 1)) (Ay (Ad (Y9 (.str (zX (nth (flds (nth v1 (Ac v3))) 0))) (.bool true) v6 v7) (BS [] []))) (AJ (Ad (Y9 (.str (zX (nth (flds (nth v1 (Ac v3))) 0))) (.bool true) v6 v7) (BS [] [])))))
 (none))
 (none))
 (none)))
 (none))
 (λ_ _=>none))
 (none))
 (λ_ _=>none)))
 (none))
 (none))
 (λ_ _=>none))
 (none))
 (λ_ _=>none))
 (none))
 (none))
 (some (.val (eI v0))) :=
 (zb 158 0 _).trans (by kernel_rfl)
theorem zFK(v0:Int)(v1:List DV)(v2 v3:Int)(v4:List DV)(v5 v6:Int)(v7:ByteArray)(v8:Int)(v9:ByteArray)(v10 v11:Int)(v12 v13:List DV):QN v0 v1 v2 v3 v4 v5 v6 v7 v8 v9 v10 v11 v12 v13 =
 ifO (decide (v6<v5))
 (ifO (decide (((0:Int)<=v6)/\(v6<(((Ab v4):Nat):Int))))
 (ifO (zF EE 6 176 (nth v4 (Ac v6)))
 (zH (zB 240 [(.agg 1 [(eI v10),(eI v11)]),(.agg 1 [(eI (zC (nth (flds (nth (flds (nth v4 (Ac v6))) 1)) 0))),(eI (zC (nth (flds (nth (flds (nth v4 (Ac v6))) 1)) 1)))])])
 (λr30=>ifO (zF EE 6 3 r30)
 (ifO (decide ((zC r30)<(Aa .i64 (v8 * v8))))
 (some (.val (eI 15)))
 ((QN v0 v1 v2 v3 v4 v5 (Aa .i64 (v6+(1:Int))) v7 v8 v9 v10 v11 v12 v13)))
 (none))
 (λ_ _=>none))
 (none))
 (none))
 ((zAO v0 v1 v2 (Aa .i64 (v3+(1:Int))) v7 v8 v12 v13)) :=
 (zb 158 1 _).trans (by kernel_rfl)
theorem C158(x0:DV):zB 158 [x0] =
 ifO (zV (zF EE 6) [58] [x0])
 (zH (zB 224 [(.str (zX (nth (flds x0) 0)))])
 (λr0=>ifO (zF EE 6 46 r0)
 (zH (zB 225 [(eI (zC (nth (flds x0) 1))),(eI 1),(eI 1000)])
 (λr1=>ifO (zF EE 6 46 r1)
 (zH (zB 136 [(.bool (decide ((((Ab (elems (nth (flds x0) 2))):Nat):Int)>(64:Int)))),(eI 5)])
 (λr2=>ifO (zF EE 6 46 r2)
 (zH (zB 134 [(.sl 1 [(eI (zC r0)),(eI (zC r1)),(eI (zC r2))])])
 (λr3=>ifO (zF EE 6 46 r3)
 (ifO (bne (zC r3) 0)
 (some (.val (eI (zC r3))))
 ((zAO (0:Int) (elems (nth (flds x0) 2)) (((Ab (elems (nth (flds x0) 2))):Nat):Int) (0:Int) (zX (nth (flds x0) 0)) (zC (nth (flds x0) 1)) [] [])))
 (none))
 (λ_ _=>none))
 (none))
 (λ_ _=>none))
 (none))
 (λ_ _=>none))
 (none))
 (λ_ _=>none))
 (none) :=
 (zM (f:=158) (by kernel_rfl) (by kernel_rfl) (by kernel_rfl) [x0]).trans (by kernel_rfl)
def S279_0a(v0:ByteArray)(v1:Nat):St :=
 zr 49 [(0,(.d (.str v0))),(10,(.it 10))] [(10,(.mk false (.sit v0 v1)))]
noncomputable def Jc(v0:ByteArray)(v1:Nat):Option CR:=goQ 279 0 (S279_0a v0 v1)
theorem zB2(v0:ByteArray)(v1:Nat):Jc v0 v1 =
 ifO (decide (v1<(AO v0)))
 (ifO (decide ((((Ay (Ae v0 v1)):Nat):Int)>=(65:Int)))
 (ifO (decide ((((Ay (Ae v0 v1)):Nat):Int)<=(90:Int)))
 ((Jc v0 (v1+(AJ (Ae v0 v1)))))
 (ifO (decide ((((Ay (Ae v0 v1)):Nat):Int)>=(97:Int)))
 (ifO (!(decide ((((Ay (Ae v0 v1)):Nat):Int)<=(122:Int))))
 (ifO (((v1:Nat):Int) == (0:Int))
 (some (.val (.bool false)))
 (ifO (bne (((Ay (Ae v0 v1)):Nat):Int) (95:Int))
 (ifO (decide ((((Ay (Ae v0 v1)):Nat):Int)<(48:Int)))
 (some (.val (.bool false)))
 (ifO (decide ((((Ay (Ae v0 v1)):Nat):Int)>(57:Int)))
 (some (.val (.bool false)))
 ((Jc v0 (v1+(AJ (Ae v0 v1)))))))
 ((Jc v0 (v1+(AJ (Ae v0 v1)))))))
 ((Jc v0 (v1+(AJ (Ae v0 v1))))))
 (ifO (((v1:Nat):Int) == (0:Int))
 (some (.val (.bool false)))
 (ifO (bne (((Ay (Ae v0 v1)):Nat):Int) (95:Int))
 (ifO (decide ((((Ay (Ae v0 v1)):Nat):Int)<(48:Int)))
 (some (.val (.bool false)))
 (ifO (decide ((((Ay (Ae v0 v1)):Nat):Int)>(57:Int)))
 (some (.val (.bool false)))
 ((Jc v0 (v1+(AJ (Ae v0 v1)))))))
 ((Jc v0 (v1+(AJ (Ae v0 v1)))))))))
 (ifO (decide ((((Ay (Ae v0 v1)):Nat):Int)>=(97:Int)))
 (ifO (!(decide ((((Ay (Ae v0 v1)):Nat):Int)<=(122:Int))))
 (ifO (((v1:Nat):Int) == (0:Int))
 (some (.val (.bool false)))
 (ifO (bne (((Ay (Ae v0 v1)):Nat):Int) (95:Int))
 (ifO (decide ((((Ay (Ae v0 v1)):Nat):Int)<(48:Int)))
 (some (.val (.bool false)))
 (ifO (decide ((((Ay (Ae v0 v1)):Nat):Int)>(57:Int)))
 (some (.val (.bool false)))
 ((Jc v0 (v1+(AJ (Ae v0 v1)))))))
 ((Jc v0 (v1+(AJ (Ae v0 v1)))))))
 ((Jc v0 (v1+(AJ (Ae v0 v1))))))
 (ifO (((v1:Nat):Int) == (0:Int))
 (some (.val (.bool false)))
 (ifO (bne (((Ay (Ae v0 v1)):Nat):Int) (95:Int))
 (ifO (decide ((((Ay (Ae v0 v1)):Nat):Int)<(48:Int)))
 (some (.val (.bool false)))
 (ifO (decide ((((Ay (Ae v0 v1)):Nat):Int)>(57:Int)))
 (some (.val (.bool false)))
 ((Jc v0 (v1+(AJ (Ae v0 v1)))))))
 ((Jc v0 (v1+(AJ (Ae v0 v1)))))))))
 (some (.val (.bool (!((ByteArray.toList v0) == []))))) :=
 (zb 279 0 _).trans (by kernel_rfl)
theorem C279(x0:DV):zB 279 [x0] =
 ifO (zV (zF EE 6) [9] [x0])
 (ifO (decide ((((AO (zX x0)):Nat):Int)>(24:Int)))
 (some (.val (.bool false)))
 ((Jc (zX x0) 0)))
 (none) :=
 (zM (f:=279) (by kernel_rfl) (by kernel_rfl) (by kernel_rfl) [x0]).trans (by kernel_rfl)
def S130_0a(v0:ByteArray)(v1:Int):St :=
 zr 50 [(0,(.d (.str v0))),(3,(.d (eI v1)))] []
noncomputable def Jv(v0:ByteArray)(v1:Int):Option CR:=goQ 130 0 (S130_0a v0 v1)
theorem zFU(v0:ByteArray)(v1:Int):Jv v0 v1 =
 ifO (decide (v1<(((AO v0):Nat):Int)))
 (ifO (decide (((0:Int)<=v1)/\(v1<(((AO v0):Nat):Int))))
 (ifO (decide ((((Ao (Ad (v0)[(Ac v1)]? (0:UInt8))):Nat):Int)>=(97:Int)))
 (ifO (decide ((((Ao (Ad (v0)[(Ac v1)]? (0:UInt8))):Nat):Int)<=(122:Int)))
 ((Jv v0 (Aa .i64 (v1+(1:Int)))))
 (ifO (decide ((((Ao (Ad (v0)[(Ac v1)]? (0:UInt8))):Nat):Int)>=(65:Int)))
 (ifO (decide ((((Ao (Ad (v0)[(Ac v1)]? (0:UInt8))):Nat):Int)<=(90:Int)))
 ((Jv v0 (Aa .i64 (v1+(1:Int)))))
 (ifO (v1 == (0:Int))
 (some (.val (.bool false)))
 (ifO (bne (((Ao (Ad (v0)[(Ac v1)]? (0:UInt8))):Nat):Int) (95:Int))
 (ifO (decide ((((Ao (Ad (v0)[(Ac v1)]? (0:UInt8))):Nat):Int)<(48:Int)))
 (some (.val (.bool false)))
 (ifO (decide ((((Ao (Ad (v0)[(Ac v1)]? (0:UInt8))):Nat):Int)>(57:Int)))
 (some (.val (.bool false)))
 ((Jv v0 (Aa .i64 (v1+(1:Int)))))))
 ((Jv v0 (Aa .i64 (v1+(1:Int))))))))
 (ifO (v1 == (0:Int))
 (some (.val (.bool false)))
 (ifO (bne (((Ao (Ad (v0)[(Ac v1)]? (0:UInt8))):Nat):Int) (95:Int))
 (ifO (decide ((((Ao (Ad (v0)[(Ac v1)]? (0:UInt8))):Nat):Int)<(48:Int)))
 (some (.val (.bool false)))
 (ifO (decide ((((Ao (Ad (v0)[(Ac v1)]? (0:UInt8))):Nat):Int)>(57:Int)))
 (some (.val (.bool false)))
 ((Jv v0 (Aa .i64 (v1+(1:Int)))))))
 ((Jv v0 (Aa .i64 (v1+(1:Int)))))))))
 (ifO (decide ((((Ao (Ad (v0)[(Ac v1)]? (0:UInt8))):Nat):Int)>=(65:Int)))
 (ifO (decide ((((Ao (Ad (v0)[(Ac v1)]? (0:UInt8))):Nat):Int)<=(90:Int)))
 ((Jv v0 (Aa .i64 (v1+(1:Int)))))
 (ifO (v1 == (0:Int))
 (some (.val (.bool false)))
 (ifO (bne (((Ao (Ad (v0)[(Ac v1)]? (0:UInt8))):Nat):Int) (95:Int))
 (ifO (decide ((((Ao (Ad (v0)[(Ac v1)]? (0:UInt8))):Nat):Int)<(48:Int)))
 (some (.val (.bool false)))
 (ifO (decide ((((Ao (Ad (v0)[(Ac v1)]? (0:UInt8))):Nat):Int)>(57:Int)))
 (some (.val (.bool false)))
 ((Jv v0 (Aa .i64 (v1+(1:Int)))))))
 ((Jv v0 (Aa .i64 (v1+(1:Int))))))))
 (ifO (v1 == (0:Int))
 (some (.val (.bool false)))
 (ifO (bne (((Ao (Ad (v0)[(Ac v1)]? (0:UInt8))):Nat):Int) (95:Int))
 (ifO (decide ((((Ao (Ad (v0)[(Ac v1)]? (0:UInt8))):Nat):Int)<(48:Int)))
 (some (.val (.bool false)))
 (ifO (decide ((((Ao (Ad (v0)[(Ac v1)]? (0:UInt8))):Nat):Int)>(57:Int)))
 (some (.val (.bool false)))
 ((Jv v0 (Aa .i64 (v1+(1:Int)))))))
 ((Jv v0 (Aa .i64 (v1+(1:Int)))))))))
 (none))
 (some (.val (.bool true))) :=
 (zb 130 0 _).trans (by kernel_rfl)
theorem C130(x0:DV):zB 130 [x0] =
 ifO (zV (zF EE 6) [9] [x0])
 (ifO ((((AO (zX x0)):Nat):Int) == (0:Int))
 (some (.val (.bool false)))
 (ifO (decide ((((AO (zX x0)):Nat):Int)>(24:Int)))
 (some (.val (.bool false)))
 ((Jv (zX x0) (0:Int)))))
 (none) :=
 (zM (f:=130) (by kernel_rfl) (by kernel_rfl) (by kernel_rfl) [x0]).trans (by kernel_rfl)
theorem C234(x0:DV):zB 234 [x0] =
 ifO (zV (zF EE 6) [3] [x0])
 (zH (zB 225 [(eI (zC x0)),(eI 0),(eI 7)])
 (λr0=>ifO (zF EE 6 46 r0)
 (ifO (bne (zC r0) 0)
 (some (.val (.tup [(.agg 1 [(eI 0),(eI 0)]),(eI (zC r0))])))
 (ifO (decide ((0:Int)<=(zC x0)))
 (ifO (jK 17 (Ac (zC x0)) (.agg 17 [(.agg 1 [(eI 0),(eI (-1))]),(.agg 1 [(eI (-1)),(eI (-1))]),(.agg 1 [(eI (-1)),(eI 0)]),(.agg 1 [(eI (-1)),(eI 1)]),(.agg 1 [(eI 0),(eI 1)]),(.agg 1 [(eI 1),(eI 1)]),(.agg 1 [(eI 1),(eI 0)]),(.agg 1 [(eI 1),(eI (-1))])]))
 (ifO (zF EE 6 141 (nth [(.agg 1 [(eI 0),(eI (-1))]),(.agg 1 [(eI (-1)),(eI (-1))]),(.agg 1 [(eI (-1)),(eI 0)]),(.agg 1 [(eI (-1)),(eI 1)]),(.agg 1 [(eI 0),(eI 1)]),(.agg 1 [(eI 1),(eI 1)]),(.agg 1 [(eI 1),(eI 0)]),(.agg 1 [(eI 1),(eI (-1))])] (Ac (zC x0))))
 (some (.val (.tup [(.agg 1 [(eI (zC (nth (flds (nth [(.agg 1 [(eI 0),(eI (-1))]),(.agg 1 [(eI (-1)),(eI (-1))]),(.agg 1 [(eI (-1)),(eI 0)]),(.agg 1 [(eI (-1)),(eI 1)]),(.agg 1 [(eI 0),(eI 1)]),(.agg 1 [(eI 1),(eI 1)]),(.agg 1 [(eI 1),(eI 0)]),(.agg 1 [(eI 1),(eI (-1))])] (Ac (zC x0)))) 0))),(eI (zC (nth (flds (nth [(.agg 1 [(eI 0),(eI (-1))]),(.agg 1 [(eI (-1)),(eI (-1))]),(.agg 1 [(eI (-1)),(eI 0)]),(.agg 1 [(eI (-1)),(eI 1)]),(.agg 1 [(eI 0),(eI 1)]),(.agg 1 [(eI 1),(eI 1)]),(.agg 1 [(eI 1),(eI 0)]),(.agg 1 [(eI 1),(eI (-1))])] (Ac (zC x0)))) 1)))]),(eI 0)])))
 (none))
 (none))
 (none)))
 (none))
 (λ_ _=>none))
 (none) :=
 (zM (f:=234) (by kernel_rfl) (by kernel_rfl) (by kernel_rfl) [x0]).trans (by kernel_rfl)
end Go.Am
namespace Go.Am
open Go.Proofs
open Go
variable[OO]
def S134_0a(v0:List DV)(v1 v2:Int):St :=
 zr 15 [(5,(.d (.sl 1 v0))),(6,(.d (eI v1))),(7,(.d (eI v2)))] []
noncomputable def zFT(v0:List DV)(v1 v2:Int):Option CR:=goQ 134 0 (S134_0a v0 v1 v2)
theorem zFS(v0:List DV)(v1 v2:Int):zFT v0 v1 v2 =
 ifO (decide (v2<v1))
 (ifO (decide (((0:Int)<=v2)/\(v2<(((Ab v0):Nat):Int))))
 (ifO (zF EE 6 46 (nth v0 (Ac v2)))
 (ifO (bne (zC (nth v0 (Ac v2))) (0:Int))
 (some (.val (eI (zC (nth v0 (Ac v2))))))
 ((zFT v0 v1 (Aa .i64 (v2+(1:Int))))))
 (none))
 (none))
 (some (.val (eI 0))) :=
 (zb 134 0 _).trans (by kernel_rfl)
theorem C134(x0:DV):zB 134 [x0] =
 ifO (zV (zF EE 6) [290] [x0])
 ((zFT (elems x0) (((Ab (elems x0)):Nat):Int) (0:Int)))
 (none) :=
 (zM (f:=134) (by kernel_rfl) (by kernel_rfl) (by kernel_rfl) [x0]).trans (by kernel_rfl)
theorem C136(x0 x1:DV):zB 136 [x0,x1] =
 ifO (zV (zF EE 6) [4,46] [x0,x1])
 (ifO (jm x0)
 (some (.val (eI (zC x1))))
 (some (.val (eI 0))))
 (none) :=
 (zM (f:=136) (by kernel_rfl) (by kernel_rfl) (by kernel_rfl) [x0,x1]).trans (by kernel_rfl)
def S148_0a(v0:List DV)(v1 v2:Int):St :=
 zr 15 [(5,(.d (.sl 1 v0))),(6,(.d (eI v1))),(7,(.d (eI v2)))] []
noncomputable def zFP(v0:List DV)(v1 v2:Int):Option CR:=goQ 148 0 (S148_0a v0 v1 v2)
theorem zFO(v0:List DV)(v1 v2:Int):zFP v0 v1 v2 =
 ifO (decide (v2<v1))
 (ifO (decide (((0:Int)<=v2)/\(v2<(((Ab v0):Nat):Int))))
 (ifO (zF EE 6 46 (nth v0 (Ac v2)))
 (ifO (bne (zC (nth v0 (Ac v2))) (0:Int))
 (some (.val (eI (zC (nth v0 (Ac v2))))))
 ((zFP v0 v1 (Aa .i64 (v2+(1:Int))))))
 (none))
 (none))
 (some (.val (eI 0))) :=
 (zb 148 0 _).trans (by kernel_rfl)
theorem C148(x0:DV):zB 148 [x0] =
 ifO (zV (zF EE 6) [290] [x0])
 ((zFP (elems x0) (((Ab (elems x0)):Nat):Int) (0:Int)))
 (none) :=
 (zM (f:=148) (by kernel_rfl) (by kernel_rfl) (by kernel_rfl) [x0]).trans (by kernel_rfl)
theorem C149(x0 x1 x2:DV):zB 149 [x0,x1,x2] =
 ifO (zV (zF EE 6) [3,3,3] [x0,x1,x2])
 (ifO (decide ((zC x0)<(zC x1)))
 (zH (zB 169 [(.bool true),(eI 3)])
 (λr0=>ifO (zF EE 6 46 r0)
 (some (.val (eI (zC r0))))
 (none))
 (λ_ _=>none))
 (zH (zB 169 [(.bool (decide ((zC x0)>(zC x2)))),(eI 3)])
 (λr3=>ifO (zF EE 6 46 r3)
 (some (.val (eI (zC r3))))
 (none))
 (λ_ _=>none)))
 (none) :=
 (zM (f:=149) (by kernel_rfl) (by kernel_rfl) (by kernel_rfl) [x0,x1,x2]).trans (by kernel_rfl)
theorem C169(x0 x1:DV):zB 169 [x0,x1] =
 ifO (zV (zF EE 6) [4,46] [x0,x1])
 (ifO (jm x0)
 (some (.val (eI (zC x1))))
 (some (.val (eI 0))))
 (none) :=
 (zM (f:=169) (by kernel_rfl) (by kernel_rfl) (by kernel_rfl) [x0,x1]).trans (by kernel_rfl)
theorem C224(x0:DV):zB 224 [x0] =
 ifO (zV (zF EE 6) [9] [x0])
 (zH (zB 279 [(.str (zX x0))])
 (λr0=>ifO (zF EE 6 4 r0)
 (zH (zB 136 [(.bool (!(jm r0))),(eI 8)])
 (λr1=>ifO (zF EE 6 46 r1)
 (some (.val (eI (zC r1))))
 (none))
 (λ_ _=>none))
 (none))
 (λ_ _=>none))
 (none) :=
 (zM (f:=224) (by kernel_rfl) (by kernel_rfl) (by kernel_rfl) [x0]).trans (by kernel_rfl)
theorem C225(x0 x1 x2:DV):zB 225 [x0,x1,x2] =
 ifO (zV (zF EE 6) [3,3,3] [x0,x1,x2])
 (ifO (decide ((zC x0)<(zC x1)))
 (zH (zB 136 [(.bool true),(eI 3)])
 (λr0=>ifO (zF EE 6 46 r0)
 (some (.val (eI (zC r0))))
 (none))
 (λ_ _=>none))
 (zH (zB 136 [(.bool (decide ((zC x0)>(zC x2)))),(eI 3)])
 (λr3=>ifO (zF EE 6 46 r3)
 (some (.val (eI (zC r3))))
 (none))
 (λ_ _=>none)))
 (none) :=
 (zM (f:=225) (by kernel_rfl) (by kernel_rfl) (by kernel_rfl) [x0,x1,x2]).trans (by kernel_rfl)
theorem C168(x0:DV):zB 168 [x0] =
 ifO (zV (zF EE 6) [141] [x0])
 (zH (zB 149 [(eI (zC (nth (flds x0) 0))),(eI (-1000)),(eI 1000)])
 (λr0=>ifO (zF EE 6 46 r0)
 (zH (zB 149 [(eI (zC (nth (flds x0) 1))),(eI (-1000)),(eI 1000)])
 (λr1=>ifO (zF EE 6 46 r1)
 (zH (zB 148 [(.sl 1 [(eI (zC r0)),(eI (zC r1))])])
 (λr2=>ifO (zF EE 6 46 r2)
 (some (.val (eI (zC r2))))
 (none))
 (λ_ _=>none))
 (none))
 (λ_ _=>none))
 (none))
 (λ_ _=>none))
 (none) :=
 (zM (f:=168) (by kernel_rfl) (by kernel_rfl) (by kernel_rfl) [x0]).trans (by kernel_rfl)
theorem C239(x0:DV):zB 239 [x0] =
 ifO (zV (zF EE 6) [141] [x0])
 (zH (zB 225 [(eI (zC (nth (flds x0) 0))),(eI (-1000)),(eI 1000)])
 (λr0=>ifO (zF EE 6 46 r0)
 (zH (zB 225 [(eI (zC (nth (flds x0) 1))),(eI (-1000)),(eI 1000)])
 (λr1=>ifO (zF EE 6 46 r1)
 (zH (zB 134 [(.sl 1 [(eI (zC r0)),(eI (zC r1))])])
 (λr2=>ifO (zF EE 6 46 r2)
 (some (.val (eI (zC r2))))
 (none))
 (λ_ _=>none))
 (none))
 (λ_ _=>none))
 (none))
 (λ_ _=>none))
 (none) :=
 (zM (f:=239) (by kernel_rfl) (by kernel_rfl) (by kernel_rfl) [x0]).trans (by kernel_rfl)
theorem C192(x0 x1:DV):zB 192 [x0,x1] =
 ifO (zV (zF EE 6) [141,141] [x0,x1])
 (some (.val (eI (Aa .i64 ((Aa .i64 ((Aa .i64 ((zC (nth (flds x0) 0)) - (zC (nth (flds x1) 0)))) * (Aa .i64 ((zC (nth (flds x0) 0)) - (zC (nth (flds x1) 0))))))+(Aa .i64 ((Aa .i64 ((zC (nth (flds x0) 1)) - (zC (nth (flds x1) 1)))) * (Aa .i64 ((zC (nth (flds x0) 1)) - (zC (nth (flds x1) 1)))))))))))
 (none) :=
 (zM (f:=192) (by kernel_rfl) (by kernel_rfl) (by kernel_rfl) [x0,x1]).trans (by kernel_rfl)
theorem C240(x0 x1:DV):zB 240 [x0,x1] =
 ifO (zV (zF EE 6) [141,141] [x0,x1])
 (some (.val (eI (Aa .i64 ((Aa .i64 ((Aa .i64 ((zC (nth (flds x0) 0)) - (zC (nth (flds x1) 0)))) * (Aa .i64 ((zC (nth (flds x0) 0)) - (zC (nth (flds x1) 0))))))+(Aa .i64 ((Aa .i64 ((zC (nth (flds x0) 1)) - (zC (nth (flds x1) 1)))) * (Aa .i64 ((zC (nth (flds x0) 1)) - (zC (nth (flds x1) 1)))))))))))
 (none) :=
 (zM (f:=240) (by kernel_rfl) (by kernel_rfl) (by kernel_rfl) [x0,x1]).trans (by kernel_rfl)
def S126_0a(v0 v1:List DV)(v2:Int):St :=
 zr 26 [(0,(.d (.sl 1 v0))),(1,(.d (.sl 1 v1))),(5,(.d (eI v2)))] []
noncomputable def zCu(v0 v1:List DV)(v2:Int):Option CR:=goQ 126 0 (S126_0a v0 v1 v2)
theorem zFV(v0 v1:List DV)(v2:Int):zCu v0 v1 v2 =
 ifO (decide (v2<(((Ab v0):Nat):Int)))
 (ifO (decide (((0:Int)<=v2)/\(v2<(((Ab v0):Nat):Int))))
 (ifO (zF EE 6 3 (nth v0 (Ac v2)))
 (ifO (decide (((0:Int)<=v2)/\(v2<(((Ab v1):Nat):Int))))
 (ifO (zF EE 6 3 (nth v1 (Ac v2)))
 (ifO (bne (zC (nth v0 (Ac v2))) (zC (nth v1 (Ac v2))))
 (some (.val (.bool false)))
 ((zCu v0 v1 (Aa .i64 (v2+(1:Int))))))
 (none))
 (none))
 (none))
 (none))
 (some (.val (.bool true))) :=
 (zb 126 0 _).trans (by kernel_rfl)
theorem C126(x0 x1:DV):zB 126 [x0,x1] =
 ifO (zV (zF EE 6) [25,25] [x0,x1])
 (ifO (bne (((Ab (elems x0)):Nat):Int) (((Ab (elems x1)):Nat):Int))
 (some (.val (.bool false)))
 ((zCu (elems x0) (elems x1) (0:Int))))
 (none) :=
 (zM (f:=126) (by kernel_rfl) (by kernel_rfl) (by kernel_rfl) [x0,x1]).trans (by kernel_rfl)
def S231_0a(v0:Int)(v1:List DV)(v2 v3:Int):St :=
 zr 17 [(3,(.d (eI v0))),(6,(.d (.sl 1 v1))),(7,(.d (eI v2))),(8,(.d (eI v3)))] []
noncomputable def zCs(v0:Int)(v1:List DV)(v2 v3:Int):Option CR:=goQ 231 0 (S231_0a v0 v1 v2 v3)
theorem zE1(v0:Int)(v1:List DV)(v2 v3:Int):zCs v0 v1 v2 v3 =
 ifO (decide (v3<v2))
 (ifO (decide (((0:Int)<=v3)/\(v3<(((Ab v1):Nat):Int))))
 (ifO (zF EE 6 3 (nth v1 (Ac v3)))
 ((zCs (Aa .i64 (v0+(zC (nth v1 (Ac v3))))) v1 v2 (Aa .i64 (v3+(1:Int)))))
 (none))
 (none))
 (some (.val (eI v0))) :=
 (zb 231 0 _).trans (by kernel_rfl)
theorem C231(x0:DV):zB 231 [x0] =
 ifO (zV (zF EE 6) [25] [x0])
 ((zCs (0:Int) (elems x0) (((Ab (elems x0)):Nat):Int) (0:Int)))
 (none) :=
 (zM (f:=231) (by kernel_rfl) (by kernel_rfl) (by kernel_rfl) [x0]).trans (by kernel_rfl)
end Go.Am
namespace Go.Am
open Go.Proofs
open Go
variable[OO]
@[simp] theorem c169(b:Bool)(e:Int):zB 169 [.bool b,eI e]=some (.val (eI (if b then e else 0))):=by rw[C169];simp;cases b <;> simp
@[simp] theorem c136(b:Bool)(e:Int):zB 136 [.bool b,eI e]=some (.val (eI (if b then e else 0))):=by rw[C136];simp;cases b <;> simp
@[simp] theorem c149(n a b:Int):zB 149 [eI n,eI a,eI b]=some (.val (eI (zf n a b))):=by rw[C149];simp[zP,zf];by_cases h:n<a <;> simp[h]
@[simp] theorem c225(n a b:Int):zB 225 [eI n,eI a,eI b]=some (.val (eI (zf n a b))):=by rw[C225];simp[zP,zf];by_cases h:n<a <;> simp[h]
theorem l148(l:List Int)(hl:l.length<=4611686018427387904):∀i,i<=l.length->zFP (l.map eI) l.length i=some (.val (eI (zT (l.drop i)))):=by
 apply down
 ·rw[zFO];simp[zT]
 ·intro i hi ih;rw[zFO,za l i hi];have e1:(i:Int)<l.length:=by omega
  simp[e1,zO _ l i hi,zz,zT,wr (i+1) (by omega)]
  split
  ·exact_mod_cast ih
  ·rfl
@[simp] theorem c148(l:List Int)(hl:l.length<=4611686018427387904):zB 148 [.sl 1 (l.map eI)]=some (.val (eI (zT l))):=by rw[C148];simpa using l148 l hl 0 (Az _)
end Go.Am
namespace Go.Am
open Go.Proofs
open Go
variable[OO]
theorem zJp(s:ByteArray)(i:Nat)(h:i<s.size):jn s i=(s[i]'h).toNat:=by unfold jn;rw[getElem?_pos s i h];rfl
theorem lt_not(c:Nat)(k:Int)(m:Nat)(h:k=m):decide (((c:Nat):Int)<k)=!decide (m<=c):=by
 subst h;by_cases h:m<=c
 ·simp[h]
 ·simp[h];omega
theorem gt_not(c:Nat)(k:Int)(m:Nat)(h:k=m):decide (((c:Nat):Int)>k)=!decide (c<=m):=by
 subst h;by_cases h:c<=m
 ·simp[h]
 ·simp[h];omega
theorem zEq(c:Nat)(k:Int)(m:Nat)(h:k=m):(((c:Nat):Int) == k)=(c == m):=by
 subst h;by_cases h:c=m
 ·subst h;simp
 ·have h1:(c == m)=false:=beq_eq_false_iff_ne.2 h;have h2:(((c:Nat):Int) == (m:Int))=false:=beq_eq_false_iff_ne.2 (by omega)
  rw[h1,h2]
theorem zH8(c:Nat)(k:Int)(m:Nat)(h:k=m):bne ((c:Nat):Int) k=!(c == m):=by unfold bne;rw[zEq c k m h]
theorem ge_is(c:Nat)(k:Int)(m:Nat)(h:k=m):decide (((c:Nat):Int)>=k)=decide (m<=c):=decide_eq_decide.2 (by omega)
theorem le_is(c:Nat)(k:Int)(m:Nat)(h:k=m):decide (((c:Nat):Int)<=k)=decide (c<=m):=decide_eq_decide.2 (by omega)
theorem l130(s:ByteArray)(hs:s.size<=1000):∀i,i<=s.size->Jv s i=some (.val (.bool (qG s i (s.size - i)))):=by
 apply down
 ·rw[zFU];simp[qG]
 ·intro i hi ih;have e:s.size - i=(s.size - (i+1))+1:=by omega
  rw[zFU,e,qG,wr ((i:Int)+1) (by omega)]
  have e1:(i:Int)<s.size:=by omega
  have e2:((i:Int)+1)=((i+1:Nat):Int):=by omega
  rw[e2,ih];have e3:(Ao (Ad (s)[(Ac (i:Int))]? (0:UInt8)))=jn s i:=by simp[jn]
  rw[e3];have g1:=ge_is (jn s i) 97 97 rfl;have g2:=ge_is (jn s i) 65 65 rfl;have l1:=le_is (jn s i) 122 122 rfl;have l2:=le_is (jn s i) 90 90 rfl;have t1:=lt_not (jn s i) 48 48 rfl;have t2:=gt_not (jn s i) 57 57 rfl;have bn:=zH8 (jn s i) 95 95 rfl;have z:=zEq i 0 0 rfl;have e4:decide ((0:Int)<=(i:Int)/\(i:Int)<((s.size:Nat):Int))=true:=by simp;omega
  have e5:decide ((i:Int)<((s.size:Nat):Int))=true:=by simp;omega
  simp only[e4,e5,zD,g1,g2,l1,l2,t1,t2,bn,z,okAt];generalize qG s (i+1) (s.size - (i+1))=r;generalize decide (97<=jn s i)=b1;generalize decide (65<=jn s i)=b2;generalize decide (jn s i<=122)=b3;generalize decide (jn s i<=90)=b4;generalize decide (48<=jn s i)=b5;generalize decide (jn s i<=57)=b6;generalize (jn s i == 95)=b7;generalize (i == 0)=b8;cases b1 <;> cases b2 <;> cases b3 <;> cases b4 <;> cases b5 <;> cases b6 <;> cases b7 <;> cases b8 <;> rfl
theorem c130(s:ByteArray):zB 130 [.str s]=some (.val (.bool (jJ s))):=by
 rw[C130];simp only[zP,JY];by_cases h0:s.size=0
 ·have hn:jJ s=false:=by unfold jJ;rw[decide_eq_false (show ¬0<s.size by omega)];rfl
  rw[hn];simp[h0]
 ·by_cases h1:s.size<=24
  ·have h2:¬((s.size:Int)>24):=by omega
   have h3:¬((s.size:Int)=0):=by omega
   have h4:0<s.size:=by omega
   have:=l130 s (by omega) 0 (Az _)
   simp only[BY] at this;have hn:jJ s=qG s 0 s.size:=by unfold jJ;rw[decide_eq_true h4,decide_eq_true h1];rfl
   have h5:s≠BL:=by rintro rfl;simp at h0
   rw[hn];simp[h2,h5,this]
  ·have h2:((s.size:Int)>24):=by omega
   have h5:s≠BL:=by rintro rfl;simp at h0
   simp[h2,h5,jJ,h1]
theorem dec_low(s:ByteArray)(i:Nat)(h:i<s.size)(ha:jn s i<128):Ae s i=(jn s i,1):=by rw[zJp s i h] at ha ⊢;exact decode_ascii s i h ha
theorem dec_high(s:ByteArray)(i:Nat)(h:i<s.size)(ha:128<=jn s i):128<=(Ae s i).1:=by rw[zJp s i h] at ha;exact(decode_high s i h ha).1
theorem zGr(s:ByteArray):s.toList.length=s.size:=by rw[A6];rfl
theorem l279(s:ByteArray)(hz:0<s.size):∀i,i<=s.size->Jc s i=some (.val (.bool (qG s i (s.size - i)))):=by
 apply down
 ·rw[zB2];have:s.toList≠[]:=by intro h;have:=zGr s;rw[h] at this;simp at this;omega
  simp[qG,this]
 ·intro i hi ih;have e:s.size - i=(s.size - (i+1))+1:=by omega
  rw[zB2,e,qG];have e1:decide (i<s.size)=true:=by simp[hi]
  by_cases hb:jn s i<128
  ·rw[dec_low s i hi hb];simp only;rw[ih];have g1:=ge_is (jn s i) 97 97 rfl;have g2:=ge_is (jn s i) 65 65 rfl;have l1:=le_is (jn s i) 122 122 rfl;have l2:=le_is (jn s i) 90 90 rfl;have t1:=lt_not (jn s i) 48 48 rfl;have t2:=gt_not (jn s i) 57 57 rfl;have bn:=zH8 (jn s i) 95 95 rfl;have z:=zEq i 0 0 rfl;simp only[e1,zD,g1,g2,l1,l2,t1,t2,bn,z,okAt];generalize qG s (i+1) (s.size - (i+1))=r;generalize decide (97<=jn s i)=b1;generalize decide (65<=jn s i)=b2;generalize decide (jn s i<=122)=b3;generalize decide (jn s i<=90)=b4;generalize decide (48<=jn s i)=b5;generalize decide (jn s i<=57)=b6;generalize (jn s i == 95)=b7;generalize (i == 0)=b8;cases b1 <;> cases b2 <;> cases b3 <;> cases b4 <;> cases b5 <;> cases b6 <;> cases b7 <;> cases b8 <;> rfl
  ·have hh:=dec_high s i hi (by omega)
   generalize Ae s i=d at hh ⊢;have g1:decide (((d.1:Nat):Int)>=97)=true:=by simp;omega
   have g2:decide (((d.1:Nat):Int)>=65)=true:=by simp;omega
   have l1:decide (((d.1:Nat):Int)<=122)=false:=by simp;omega
   have l2:decide (((d.1:Nat):Int)<=90)=false:=by simp;omega
   have t1:decide (((d.1:Nat):Int)<48)=false:=by simp;omega
   have t2:decide (((d.1:Nat):Int)>57)=true:=by simp;omega
   have bn:bne ((d.1:Nat):Int) 95=true:=by rw[zH8 d.1 95 95 rfl];simp;omega
   have z:=zEq i 0 0 rfl;have hok:okAt i (jn s i)=false:=by simp[okAt];omega
   simp only[e1,zD,zU,g1,g2,l1,l2,t1,t2,bn,z,hok,Bool.false_and,Bool.not_false];generalize (i == 0)=b8;cases b8 <;> rfl
theorem c279(s:ByteArray):zB 279 [.str s]=some (.val (.bool (jJ s))):=by
 rw[C279];simp only[zP];by_cases h1:s.size<=24
 ·have h2:¬((s.size:Int)>24):=by omega
  by_cases h0:s.size=0
  ·have hl:s.toList=[]:=Bk (by rw[zGr];exact h0)
   have hn:jJ s=false:=by unfold jJ;rw[decide_eq_false (show ¬0<s.size by omega)];rfl
   have e:Jc s 0=some (.val (.bool false)):=by rw[zB2];simp[h0,hl]
   rw[hn];simp[h2,e]
  ·have h4:0<s.size:=by omega
   have hn:jJ s=qG s 0 s.size:=by unfold jJ;rw[decide_eq_true h4,decide_eq_true h1];rfl
   rw[hn];simp[h2,l279 s h4 0 (Az _)]
 ·have h2:((s.size:Int)>24):=by omega
  simp[h2,jJ,h1]
@[simp] theorem c224(s:ByteArray):zB 224 [.str s]=some (.val (eI (if jJ s then 0 else 8))):=by rw[C224];simp[c279];cases jJ s <;> simp
end Go.Am
namespace Go.Am
open Go.Proofs
open Go
variable[OO]
theorem l134(l:List Int)(hl:l.length<=4611686018427387904):∀i,i<=l.length->zFT (l.map eI) l.length i=some (.val (eI (zT (l.drop i)))):=by
 apply down
 ·rw[zFS];simp[zT]
 ·intro i hi ih;rw[zFS,za l i hi];have e1:(i:Int)<l.length:=by omega
  simp[e1,zO _ l i hi,zz,zT,wr (i+1) (by omega)]
  split
  ·exact_mod_cast ih
  ·rfl
@[simp] theorem c134(l:List Int)(hl:l.length<=4611686018427387904):zB 134 [.sl 1 (l.map eI)]=some (.val (eI (zT l))):=by rw[C134];simpa using l134 l hl 0 (Az _)
@[simp] theorem Qs(a b:Int):zB 148 [.sl 1 [eI a,eI b]]=some (.val (eI (zT [a,b]))):=c148 [a,b] (by simp)
@[simp] theorem c148_3(a b c:Int):zB 148 [.sl 1 [eI a,eI b,eI c]]=some (.val (eI (zT [a,b,c]))):=c148 [a,b,c] (by simp)
@[simp] theorem c148_4(a b c d:Int):zB 148 [.sl 1 [eI a,eI b,eI c,eI d]]=some (.val (eI (zT [a,b,c,d]))):=c148 [a,b,c,d] (by simp)
@[simp] theorem c134_2(a b:Int):zB 134 [.sl 1 [eI a,eI b]]=some (.val (eI (zT [a,b]))):=c134 [a,b] (by simp)
@[simp] theorem c134_3(a b c:Int):zB 134 [.sl 1 [eI a,eI b,eI c]]=some (.val (eI (zT [a,b,c]))):=c134 [a,b,c] (by simp)
theorem zDs(p:Pt):ptE p=0 ↔ JP p:=by unfold ptE JP zT zf;by_cases h1:p.x < -1000\/p.x>1000 <;> by_cases h2:p.y < -1000\/p.y>1000 <;> simp[h1,h2,zT] <;> omega
theorem YV(d k:Int)(h:-k<=d)(h':d<=k):0<=d * d/\d * d<=k * k:=by
 by_cases hd:0<=d
 ·exact⟨As hd hd,AK h' h' hd (by omega)⟩
 ·have h1:=As (a:=-d) (b:=-d) (by omega) (by omega)
  have h2:=AK (a:=-d) (b:=-d) (c:=k) (d:=k) (by omega) (by omega) (by omega) (by omega)
  rw[Int.neg_mul_neg] at h1 h2;exact⟨h1,h2⟩
@[simp] theorem c168(p:Pt):zB 168 [ePt p]=some (.val (eI (ptE p))):=by rw[C168];simp[ptE]
@[simp] theorem c239(p:Pt):zB 239 [ePt p]=some (.val (eI (ptE p))):=by rw[C239];simp[ptE]
theorem apart_fit(a b:Pt)(ha:JP a)(hb:JP b):0<=jQ a b/\jQ a b<=8000000:=by
 obtain⟨a1,a2,a3,a4⟩:=ha;obtain⟨b1,b2,b3,b4⟩:=hb;have h1:=YV (a.x - b.x) 2000 (by omega) (by omega)
 have h2:=YV (a.y - b.y) 2000 (by omega) (by omega)
 unfold jQ;omega
theorem c192(a b:Pt)(ha:JP a)(hb:JP b):zB 192 [ePt a,ePt b]=some (.val (eI (jQ a b))):=by
 obtain⟨a1,a2,a3,a4⟩:=ha;obtain⟨b1,b2,b3,b4⟩:=hb;have h1:=YV (a.x - b.x) 2000 (by omega) (by omega)
 have h2:=YV (a.y - b.y) 2000 (by omega) (by omega)
 rw[C192];simp only[zK,h141,zN,Ak,zD,zQ,zS,zW,zI];rw[wr (a.x - b.x) (by omega),wr (a.y - b.y) (by omega),wr ((a.x - b.x) * (a.x - b.x)) (by omega),wr ((a.y - b.y) * (a.y - b.y)) (by omega),wr _ (by omega)]
 rfl
theorem c240(a b:Pt)(ha:JP a)(hb:JP b):zB 240 [ePt a,ePt b]=some (.val (eI (jQ a b))):=by
 obtain⟨a1,a2,a3,a4⟩:=ha;obtain⟨b1,b2,b3,b4⟩:=hb;have h1:=YV (a.x - b.x) 2000 (by omega) (by omega)
 have h2:=YV (a.y - b.y) 2000 (by omega) (by omega)
 rw[C240];simp only[zK,h141,zN,Ak,zD,zQ,zS,zW,zI];rw[wr (a.x - b.x) (by omega),wr (a.y - b.y) (by omega),wr ((a.x - b.x) * (a.x - b.x)) (by omega),wr ((a.y - b.y) * (a.y - b.y)) (by omega),wr _ (by omega)]
 rfl
theorem Jg(a b:ByteArray):(a.toList == b.toList)=decide (a=b):=by
 by_cases h:a=b
 ·subst h;simp
 ·have:a.toList≠b.toList:=λe=>h (WideShapes.bytes_inj (by rw[<-A6,<-A6];exact e))
  rw[decide_eq_false h];exact beq_eq_false_iff_ne.2 this
theorem zDB(n:ByteArray):∀(ks:List ByteArray),jh (.str n) (ks.map .str) (Aq ks.length (.bool true))=some (if YB n ks then some (.bool true) else none)
 | []=>rfl
 | k :: ks=>by
  simp only[Bc,An,Ba,jh,JG,Jg,zL];by_cases h:n=k
  ·simp[h,YB]
  ·have e:YB n (k :: ks)=YB n ks:=by simp[YB,h]
   rw[e];simp only[decide_eq_false h,zDB n ks]
theorem zJJ(n:ByteArray):∀(ks:List ByteArray),YB n ks=false->Y9 (.str n) (.bool true) (ks.map .str) (Aq ks.length (.bool true))=some ((ks++[n]).map .str,Aq (ks++[n]).length (.bool true))
 | [],_=>rfl
 | k :: ks,h=>by simp only[YB,Bu,Bool.or_eq_false_iff] at h;have h1:¬n=k:=of_decide_eq_false h.1;simp only[Bc,An,Ba,Y9,JG,Jg,zL,decide_eq_false h1];rw[zJJ n ks h.2];simp[Ba]
theorem firstL_9(a b:Int):zT [a,b,9]≠0:=by
 unfold zT;split
 ·unfold zT;split
  ·simp[zT]
  ·assumption
 ·assumption
theorem zEd{a b c:Int}(h:zT [a,b,c]=0):b=0:=by
 unfold zT at h;split at h
 ·unfold zT at h;split at h
  ·assumption
  ·exact h
 ·rename_i h0;exact absurd h h0
theorem jE{a:Int}{l:List Int}(h:zT (a :: l)=0):a=0/\zT l=0:=by
 unfold zT at h;split at h
 ·rename_i h0;exact⟨h0,h⟩
 ·rename_i h0;exact absurd h h0
theorem l158_1(e:Int)(tbs prev:List Tb)(n i:Nat)(nm:ByteArray)(least:Int)(t:Tb)(ks vs:List DV)(hl:prev.length<=1000)(hp:∀o∈prev,JP o.at')(ht:JP t.at')(h1:1<=least)(h2:least<=1000) :
  ∀k,k<=prev.length->QN e (tbs.map eTb) n i (prev.map eTb) prev.length k nm least t.name t.at'.x t.at'.y ks vs =
   if (prev.drop k).any (λo=>decide (jQ t.at' o.at'<least * least)) then some (.val (eI 15)) else zAO e (tbs.map eTb) n (A5.wrap (i+1)) nm least ks vs:=by
 apply down
 ·rw[zFK];simp
 ·intro k hk ih;have e1:(k:Int)<prev.length:=by omega
  have hb:=YV least 1000 (by omega) h2
  have ha:=hp prev[k] (Ap hk);have step:QN e (tbs.map eTb) n i (prev.map eTb) prev.length k nm least t.name t.at'.x t.at'.y ks vs =
    if jQ t.at' prev[k].at'<least * least then some (.val (eI 15)) else QN e (tbs.map eTb) n i (prev.map eTb) prev.length ((k+1:Nat):Int) nm least t.name t.at'.x t.at'.y ks vs:=by
   rw[zFK];simp only[zP];simp[e1,zO _ prev k hk,c240 t.at' prev[k].at' ht ha,wr (least * least) (by omega),wr (k+1) (by omega)]
   rfl
  rw[step,ih,za prev k hk,Bu];by_cases hd:jQ t.at' prev[k].at'<least * least
  ·rw[if_pos hd,decide_eq_true hd,Bh,if_pos rfl]
  ·rw[if_neg hd,decide_eq_false hd,Bv]
theorem l158_0(s:Si)(hn:s.tb.length<=64)(h1:1<=s.least)(h2:s.least<=1000) :
  ∀i,i<=s.tb.length->(∀o∈s.tb.take i,JP o.at') ->
   zAO 0 (s.tb.map eTb) s.tb.length i s.name s.least (((s.tb.take i).map (·.name)).map .str) (Aq ((s.tb.take i).map (·.name)).length (.bool true))=some (.val (eI (jY s.least (s.tb.take i) (s.tb.drop i)))):=by
 apply down (P:=λi=>(∀o∈s.tb.take i,JP o.at')->zAO 0 (s.tb.map eTb) s.tb.length i s.name s.least (((s.tb.take i).map (·.name)).map .str) (Aq ((s.tb.take i).map (·.name)).length (.bool true))=some (.val (eI (jY s.least (s.tb.take i) (s.tb.drop i)))))
 ·intro _;rw[zFL];simp[jY]
 ·intro i hi ih hp;have e1:(i:Int)<s.tb.length:=by omega
  have htk:s.tb.take (i+1)=s.tb.take i++[s.tb[i]]:=by rw[Av hi]
  rw[za s.tb i hi,jY];generalize hks:(s.tb.take i).map (·.name)=ks at *
  have hkl:ks.length=i:=by rw[<-hks];simp;omega
  have hkn:((s.tb.take (i+1)).map (·.name))=ks++[s.tb[i].name]:=by rw[htk,A4,hks];rfl
  rw[htk] at ih;generalize he:zT [if jJ s.tb[i].name then 0 else 8,ptE s.tb[i].at',if YB s.tb[i].name ks then 9 else 0]=e
  have step:zAO 0 (s.tb.map eTb) s.tb.length i s.name s.least (ks.map .str) (Aq ks.length (.bool true)) =
    if e=0 then QN e (s.tb.map eTb) s.tb.length i ((s.tb.take i).map eTb) (s.tb.take i).length (0:Nat) s.name s.least s.tb[i].name s.tb[i].at'.x s.tb[i].at'.y ((ks++[s.tb[i].name]).map .str) (Aq (ks++[s.tb[i].name]).length (.bool true))
    else some (.val (eI e)):=by
   rw[zFL];simp only[zP,zz];cases hm:YB s.tb[i].name ks with
   | true =>
    simp[hm] at he;have hne:e≠0:=by rw[<-he];exact firstL_9 _ _
    simp[e1,zO _ s.tb i hi,zDB,hm,he,hne]
   | false =>
    simp[hm] at he;simp[e1,zO _ s.tb i hi,zDB,hm,he,zJJ _ _ hm,Nat.le_of_lt hi]
  rw[step];by_cases h0:e=0
  ·subst h0;have ht:JP s.tb[i].at':=(zDs _).1 (zEd he);rw[if_pos rfl,l158_1 0 s.tb (s.tb.take i) s.tb.length i s.name s.least s.tb[i] _ _ (by simp;omega) hp ht h1 h2 0 (Az _),B3]
   simp only[ne_eq,not_true_eq_false,if_false];split
   ·rfl
   ·rw[wr ((i:Int)+1) (by omega)]
    have hp':∀o∈s.tb.take i++[s.tb[i]],JP o.at':=by
     intro o ho;rcases BX.1 ho with ho | ho
     ·exact hp o ho
     ·rw[AQ.1 ho];exact ht
    have:=ih hp';rw[A4,hks] at this;exact this
  ·rw[if_neg h0,if_pos h0]
theorem qi{s:Si}(h:zT [if jJ s.name then 0 else 8,zf s.least 1 1000,if (64:Int)<s.tb.length then 5 else 0]=0):jJ s.name=true/\1<=s.least/\s.least<=1000/\s.tb.length<=64:=by
 obtain⟨h1,h⟩:=jE h;obtain⟨h2,h⟩:=jE h;obtain⟨h3,h⟩:=jE h;refine⟨?_,?_,?_,?_⟩
 ·cases hn:jJ s.name
  ·simp[hn] at h1
  ·rfl
 ·unfold zf at h2;split at h2 <;> omega
 ·unfold zf at h2;split at h2 <;> omega
 ·split at h3 <;> omega
theorem c158(s:Si):zB 158 [eSi s]=some (.val (eI (jM s))):=by
 rw[C158];simp only[zz];simp[jM];by_cases h0:zT [if jJ s.name then 0 else 8,zf s.least 1 1000,if (64:Int)<s.tb.length then 5 else 0]=0
 ·obtain⟨_,h1,h2,h3⟩:=qi h0;have:=l158_0 s h3 h1 h2 0 (Az _) (by simp)
  simpa[h0] using this
 ·simp[h0]
@[simp] theorem isAg_agg(t i:Nat)(fs:List DV):jK t i (.agg t fs)=decide (i<fs.length):=by simp[jK]
end Go.Am
namespace Go.Am
open Go.Proofs
open Go
variable[OO]
def z6(l:List Int)(i:Nat):Option Int:=if i=0 then none else l[i - 1]?
theorem YH(l:List Int)(i:Nat)(h:i<l.length):z6 l (i+1)=some l[i]:=by simp[z6,h]
theorem ite_gt0(j:Nat):(if ((j:Nat):Int)>0 then ((j:Nat):Int) else 0)=(j:Int):=by split <;> omega
theorem l75_1(d w:List Int)(nm:ByteArray)(hl:w.length<=1000):∀i,i<=w.length->zBd (w.map eI) w.length i nm (d.map eI)=some (.val (eI (jt 100 true (z6 w i) (w.drop i)))):=by
 apply down
 ·rw[zHL];simp[jt]
 ·intro i hi ih;have e1:(i:Int)<w.length:=by omega
  rw[za w i hi,jt];rw[YH w i hi] at ih;have step:zBd (w.map eI) w.length i nm (d.map eI)=if jV 100 true (z6 w i) w[i]=0 then zBd (w.map eI) w.length ((i+1:Nat):Int) nm (d.map eI) else some (.val (eI (jV 100 true (z6 w i) w[i]))):=by
   rw[zHL];simp only[zP,zz];cases i with
   | zero =>
    simp[e1,hi,zO _ w 0 hi,z6,jV,wr 1 (by omega)]
    all_goals rfl
   | succ j =>
    have hj:j<w.length:=by omega
    have e2:(((j+1:Nat):Int) - 1)=(j:Int):=by omega
    have e3:(j:Int)<w.length:=by omega
    have e4:((j+1:Nat):Int)>0:=by omega
    have e5:((j+1:Nat):Int)<w.length:=by omega
    have e6:(0:Int)<=((j+1:Nat):Int):=by omega
    rw[e2,wr (j:Int) (by omega),ite_gt0]
    rw[wr (((j+1:Nat):Int)+1) (by omega)]
    simp only[e4,e5,e6,e3,BT,and_self,if_true,A3,zO _ w (j+1) hi,zO _ w j hj];have e7:(j:Int)+1<w.length:=by omega
    by_cases hc:w[j+1]<w[j]
    ·simp[jV,z6,hj,e7,hc]
     all_goals rfl
    ·simp[jV,z6,hj,e7,hc]
     all_goals rfl
  rw[step,ih];split <;> rfl
theorem l75_0(d w:List Int)(nm:ByteArray)(hl:d.length<=1000):∀i,i<=d.length->Qw (d.map eI) d.length i nm (w.map eI)=if jt 256 false (z6 d i) (d.drop i)=0 then zBd (w.map eI) w.length (0:Nat) nm (d.map eI) else some (.val (eI (jt 256 false (z6 d i) (d.drop i)))):=by
 apply down
 ·rw[zHM];simp[jt]
 ·intro i hi ih;have e1:(i:Int)<d.length:=by omega
  rw[za d i hi,jt];rw[YH d i hi] at ih;have step:Qw (d.map eI) d.length i nm (w.map eI)=if jV 256 false (z6 d i) d[i]=0 then Qw (d.map eI) d.length ((i+1:Nat):Int) nm (w.map eI) else some (.val (eI (jV 256 false (z6 d i) d[i]))):=by
   rw[zHM];simp only[zP,zz];cases i with
   | zero =>
    simp[e1,hi,zO _ d 0 hi,z6,jV,wr 1 (by omega)]
    all_goals rfl
   | succ j =>
    have hj:j<d.length:=by omega
    have e2:(((j+1:Nat):Int) - 1)=(j:Int):=by omega
    have e3:(j:Int)<d.length:=by omega
    have e4:((j+1:Nat):Int)>0:=by omega
    have e5:((j+1:Nat):Int)<d.length:=by omega
    have e6:(0:Int)<=((j+1:Nat):Int):=by omega
    rw[e2,wr (j:Int) (by omega),ite_gt0]
    rw[wr (((j+1:Nat):Int)+1) (by omega)]
    simp only[e4,e5,e6,e3,BT,and_self,if_true,A3,zO _ d (j+1) hi,zO _ d j hj];have e7:(j:Int)+1<d.length:=by omega
    by_cases hc:d[j+1]>d[j]
    ·simp[jV,z6,hj,e7,hc]
     all_goals rfl
    ·simp[jV,z6,hj,e7,hc]
     all_goals rfl
  rw[step];by_cases h:jV 256 false (z6 d i) d[i]=0
  ·rw[if_pos h,if_pos h,ih]
  ·rw[if_neg h,if_neg h,if_neg h]
def ruleF(r:ByteArray):FuncId:=if r=rG then 262 else if r=rS then 264 else 231
theorem findK_rule(r:ByteArray):jh (.str r) [.str rG,.str rS,.str rM] [.agg 12 [.fn 262 [] []],.agg 12 [.fn 264 [] []],.agg 12 [.fn 231 [] []]]=some (if ji r then some (.agg 12 [.fn (ruleF r) [] []]) else none):=by
 simp only[jh,JG,Jg,zL,ji,YB,Bu,List.any_nil,ruleF];by_cases h1:r=rG
 ·simp only[decide_eq_true h1,if_pos h1,Bh,if_true]
 ·by_cases h2:r=rS
  ·simp only[decide_eq_false h1,if_neg h1,decide_eq_true h2,if_pos h2,Bh,Cd,if_true,Bv]
  ·by_cases h3:r=rM
   ·simp only[decide_eq_false h1,if_neg h1,decide_eq_false h2,if_neg h2,decide_eq_true h3,Bh,Cd,if_true,Bv]
   ·simp only[decide_eq_false h1,decide_eq_false h2,decide_eq_false h3,Bool.or_false,Bool.false_eq_true,if_false]
theorem wakeH_facts{w:Wk}(h:wakeH w=0):ji w.rule=true/\w.d.length≠0/\w.d.length<=32/\w.w.length=w.d.length:=by
 unfold wakeH at h;obtain⟨h1,h⟩:=jE h;obtain⟨h2,h⟩:=jE h;obtain⟨h3,h⟩:=jE h;obtain⟨h4,h⟩:=jE h;refine⟨?_,?_,?_,?_⟩
 ·cases hn:ji w.rule
  ·simp[hn] at h1
  ·rfl
 ·intro e;rw[if_pos (Bk e)] at h2;cases h2
 ·split at h3 <;> omega
 ·split at h4 <;> omega
theorem c75(w:Wk):zB 75 [eWk w]=some (.val (eI (wakeE w))):=by
 have key:wakeH w=0->Qw (w.d.map eI) w.d.length 0 w.rule (w.w.map eI)=some (.val (eI (if jt 256 false none w.d=0 then jt 100 true none w.w else jt 256 false none w.d))):=by
  intro h;obtain⟨_,_,h3,h4⟩:=wakeH_facts h;have a:=l75_0 w.d w.w w.rule (by omega) 0 (Az _)
  have b:=l75_1 w.d w.w w.rule (by omega) 0 (Az _)
  simp only[z6,if_true,B3,BY] at a b;rw[a,b];split <;> rfl
 rw[C75,C198];simp only[zJ,zz];have fin:(if wakeH w=0 then Qw (w.d.map eI) w.d.length 0 w.rule (w.w.map eI) else some (.val (eI (wakeH w))))=some (.val (eI (wakeE w))):=by
  unfold wakeE;by_cases h:wakeH w=0
  ·rw[if_pos h,if_pos h,key h]
  ·rw[if_neg h,if_neg h]
 rw[<-fin];simp[findK_rule];cases hk:ji w.rule with
 | true =>
  simp[wakeH,hk];rfl
 | false =>
  simp[wakeH,hk];rfl
end Go.Am
namespace Go.Am
open Go.Proofs
open Go
variable[OO]
theorem zC1{n:Int}(h0:0<=n)(h7:n<=7):n=0\/n=1\/n=2\/n=3\/n=4\/n=5\/n=6\/n=7:=by omega
theorem YG(n:Int):-1<=(zY n).x/\(zY n).x<=1/\-1<=(zY n).y/\(zY n).y<=1:=by
 unfold zY
 repeat' split
 all_goals simp
theorem c234(n:Int):zB 234 [eI n]=some (.val (.tup [if zf n 0 7=0 then ePt (zY n) else ePt ⟨0,0⟩,eI (zf n 0 7)])):=by
 by_cases h:zf n 0 7=0
 ·have h0:0<=n/\n<=7:=by unfold zf at h;split at h <;> omega
  rcases zC1 h0.1 h0.2 with rfl | rfl | rfl | rfl | rfl | rfl | rfl | rfl <;> (rw[C234];simp[zY,nth,zf])
 ·rw[C234];simp only[zz];simp[h]
abbrev eWd(sec:Int)(p:Pt):DV:=.agg 9 [eI sec,ePt p]
theorem c147(n:Int):zB 147 [eI n]=some (.val (.tup [if zf n 0 7=0 then eWd n (zY n) else eWd 0 ⟨0,0⟩,eI (zf n 0 7)])):=by
 by_cases h:zf n 0 7=0
 ·rw[C147];simp only[zz];simp[h,c234]
 ·rw[C147];simp only[zz];simp[h]
theorem jX(a b k:Int)(h:-k<=a)(h':a<=k)(hb:-1<=b)(hb':b<=1):-k<=a * b/\a * b<=k:=by
 have:b=-1\/b=0\/b=1:=by omega
 rcases this with rfl | rfl | rfl
 ·rw[Int.mul_neg,BM];omega
 ·rw[Cf];omega
 ·rw[BM];omega
def zBG(p:Pt):Prop:=-1<=p.x/\p.x<=1/\-1<=p.y/\p.y<=1
theorem c187(sec:Int)(st p:Pt)(hs:zBG st)(k:Int)(hk:k<=1000000)(hx:-k<=p.x)(hx':p.x<=k)(hy:-k<=p.y)(hy':p.y<=k):zB 187 [eWd sec st,ePt p]=some (.val (eI (zBb p st))):=by
 obtain⟨s1,s2,s3,s4⟩:=hs;have h1:=jX p.x st.x k hx hx' s1 s2;have h2:=jX p.y st.y k hy hy' s3 s4;rw[C187];simp only[zK,h251,h141,zN,Ak,zD,zQ,zS,zW,zI];rw[wr (p.x * st.x) (by omega),wr (p.y * st.y) (by omega),wr _ (by omega)]
 rfl
theorem c185(sec:Int)(st a b:Pt)(hs:zBG st)(ha:JP a)(hb:JP b):zB 185 [eWd sec st,ePt a,ePt b]=some (.val (.tup [eI (Y8 sec st a b).1,eI (Y8 sec st a b).2])):=by
 obtain⟨a1,a2,a3,a4⟩:=ha;obtain⟨b1,b2,b3,b4⟩:=hb;have hal:=c187 sec st ⟨b.x - a.x,b.y - a.y⟩ hs 2000 (by omega) (by simp;omega) (by simp;omega) (by simp;omega) (by simp;omega)
 obtain⟨s1,s2,s3,s4⟩:=hs;have h1:=jX (b.x - a.x) st.y 2000 (by omega) (by omega) s3 s4
 have h2:=jX (b.y - a.y) st.x 2000 (by omega) (by omega) s1 s2
 rw[C185];simp only[zK,h251,h141,zN,Ak,zD,zQ,zS,zW,zI];simp only[wr (b.x - a.x) (by omega),wr (b.y - a.y) (by omega),wr ((b.x - a.x) * st.y) (by omega),wr ((b.y - a.y) * st.x) (by omega),wr ((b.x - a.x) * st.y - (b.y - a.y) * st.x) (by omega),wr (0 - ((b.x - a.x) * st.y - (b.y - a.y) * st.x)) (by omega)]
 simp only[hal,zJ,h3,zD,zI,JY,Y8,relI,zBb];by_cases h:Bs sec 2=1
 ·simp only[h,if_true]
 ·simp only[h,if_false]
theorem c186(w:Wk)(s o:Int)(hl:w.w.length=w.d.length)(hd:w.d.length<=1000):zB 186 [eWk w,eI s,eI o]=some (.val (eI (zBz w.d w.w s o))):=by
 rw[C186];simp only[zP];by_cases h1:s<1
 ·simp[h1,zBz]
 ·by_cases h2:s>w.d.length
  ·simp[h1,h2,zBz]
  ·obtain⟨k,rfl⟩:∃k:Nat,s=(k:Int)+1:=⟨(s - 1).toNat,by omega⟩
   have hk:k<w.d.length:=by omega
   have hk':k<w.w.length:=by omega
   have e1:((k:Int)+1 - 1)=k:=by omega
   have e2:(k:Int)<w.d.length:=by omega
   have e3:(k:Int)<w.w.length:=by omega
   simp only[zBz,e1,A3];simp[h1,h2,e2,e3,wr (k:Int) (by omega),zO _ w.d k hk,zO _ w.w k hk',hk,hk']
   by_cases h4:o>w.w[k]
   ·simp[h4]
   ·simp[h4]
end Go.Am
namespace Go.Am
open Go.Proofs
open Go
variable[OO]
theorem l126(a b:List Int)(hl:a.length=b.length)(hb:a.length<=1000000):∀i,i<=a.length->zCu (a.map eI) (b.map eI) i=some (.val (.bool (decide (a.drop i=b.drop i)))):=by
 apply down
 ·rw[zFV];simp[hl]
 ·intro i hi ih;have e1:(i:Int)<a.length:=by omega
  have hi':i<b.length:=by omega
  have e2:(i:Int)<b.length:=by omega
  rw[za a i hi,za b i hi'];rw[zFV];simp only[zP,zz,wr ((i:Int)+1) (by omega)]
  by_cases h:a[i]=b[i]
  ·have ih':zCu (a.map eI) (b.map eI) ((i:Int)+1)=some (.val (.bool (decide (a.drop (i+1)=b.drop (i+1))))):=by exact_mod_cast ih
   have hd:decide (a[i] :: a.drop (i+1)=b[i] :: b.drop (i+1))=decide (a.drop (i+1)=b.drop (i+1)):=decide_eq_decide.2 (by simp only[BK,h,true_and])
   rw[hd,<-ih'];simp[e1,e2,zO _ a i hi,zO _ b i hi',h]
  ·have hd:decide (a[i] :: a.drop (i+1)=b[i] :: b.drop (i+1))=false:=decide_eq_false (by simp only[BK,h,false_and,not_false_eq_true])
   rw[hd];simp[e1,e2,zO _ a i hi,zO _ b i hi',h]
theorem c126(a b:List Int)(hb:a.length<=1000000):zB 126 [.sl 1 (a.map eI),.sl 1 (b.map eI)]=some (.val (.bool (decide (a=b)))):=by
 rw[C126];simp only[zz];by_cases h:a.length=b.length
 ·have:=l126 a b h hb 0 (Az _);simpa[h] using this
 ·have h':¬(a.length:Int)=b.length:=by omega
  have hd:decide (a=b)=false:=decide_eq_false (by rintro rfl;exact h rfl)
  simp[h',hd]
end Go.Am
namespace Go.Am
open Go.Proofs
open Go
variable[OO]
theorem Yw(a:Int)(l:List Int):zT (a :: l)=0 ↔ a=0/\zT l=0:=by
 constructor
 ·exact jE
 ·rintro⟨rfl,h⟩;simp[zT,h]
theorem zAG:zT []=0:=rfl
theorem zGt(least:Int):∀(l prev:List Tb),jY least prev l=0->∀t∈l,JP t.at'/\jJ t.name=true
 | [],_,_,t,ht=>by simp at ht
 | u :: l,prev,h,t,ht=>by
  rw[jY] at h;by_cases hz:zT [if jJ u.name then 0 else 8,ptE u.at',if YB u.name (prev.map (·.name)) then 9 else 0]=0
  ·rw[if_neg (by rw[hz];simp)] at h
   by_cases ha:(prev.any λo=>decide (jQ u.at' o.at'<least * least))=true
   ·rw[if_pos ha] at h;cases h
   ·rw[if_neg ha] at h;rcases A0.1 ht with rfl | ht
    ·refine⟨(zDs _).1 (zEd hz),?_⟩;have:=(jE hz).1;cases hn:jJ t.name
     ·simp[hn] at this
     ·rfl
    ·exact zGt least l _ h t ht
  ·rw[if_pos hz] at h;exact absurd h hz
theorem Yz{s:Si}(h:jM s=0):(∀t∈s.tb,JP t.at'/\jJ t.name=true)/\jJ s.name=true/\1<=s.least/\s.least<=1000/\s.tb.length<=64:=by
 unfold jM at h;by_cases hz:zT [if jJ s.name then 0 else 8,zf s.least 1 1000,if (64:Int)<s.tb.length then 5 else 0]=0
 ·rw[if_neg (by rw[hz];simp)] at h
  exact⟨zGt _ _ _ h,qi hz⟩
 ·rw[if_pos hz] at h;exact absurd h hz
def idxE(n i:Int):Int:=if i<0\/i>=n then 10 else 0
def relH(s:Si)(sec i j:Int):Int:=zT [zf sec 0 7,idxE s.tb.length i,idxE s.tb.length j,if i=j then 9 else 0]
def ptAt(s:Si)(i:Int):Pt:=((s.tb[i.toNat]?).map (·.at')).getD ⟨0,0⟩
def relA(s:Si)(sec i j:Int):Int×Int×Int :=
 if jM s=0 then (if relH s sec i j=0 then ((Y8 sec (zY sec) (ptAt s i) (ptAt s j)).1,(Y8 sec (zY sec) (ptAt s i) (ptAt s j)).2,0) else (0,0,relH s sec i j)) else (0,0,jM s)
theorem zJI{n a b:Int}(h:zf n a b=0):a<=n/\n<=b:=by unfold zf at h;split at h <;> omega
theorem idx_ok{n i:Int}(h:idxE n i=0):0<=i/\i<n:=by unfold idxE at h;split at h <;> omega
theorem ptAt_of(s:Si)(k:Nat)(h:k<s.tb.length):ptAt s (k:Int)=s.tb[k].at':=by simp[ptAt,h]
theorem c64(s:Si)(sec i j:Int):zB 64 [eSi s,eI sec,eI i,eI j]=some (.val (.tup [eI (relA s sec i j).1,eI (relA s sec i j).2.1,eI (relA s sec i j).2.2])):=by
 rw[C64];simp only[zP,zz];unfold relA;by_cases he:jM s=0
 ·obtain⟨hok,_,_,_,hl⟩:=Yz he;by_cases hh:relH s sec i j=0
  ·have hh':=hh;unfold relH at hh';simp only[Yw] at hh';obtain⟨h1,h2,h3',h4,_⟩:=hh';have r1:=zJI h1;obtain⟨i0,i1⟩:=idx_ok h2;obtain⟨j0,j1⟩:=idx_ok h3';obtain⟨a,rfl⟩:∃a:Nat,i=a:=⟨i.toNat,by omega⟩
   obtain⟨b,rfl⟩:∃b:Nat,j=b:=⟨j.toNat,by omega⟩
   have ha:a<s.tb.length:=by omega
   have hb:b<s.tb.length:=by omega
   have hij:¬(a:Int)=b:=by intro e;rw[if_pos e] at h4;cases h4
   have hij':¬a=b:=by omega
   have ea:=(hok s.tb[a] (Ap ha)).1;have eb:=(hok s.tb[b] (Ap hb)).1;have hc:=c185 sec (zY sec) s.tb[a].at' s.tb[b].at' (YG sec) ea eb;have na:¬(a:Int)<0:=by omega
   have nb:¬(b:Int)<0:=by omega
   have na':¬(s.tb.length:Int)<=a:=by omega
   have nb':¬(s.tb.length:Int)<=b:=by omega
   have na2:¬s.tb.length<=a:=by omega
   have nb2:¬s.tb.length<=b:=by omega
   rw[ptAt_of s a ha,ptAt_of s b hb];simp[c158,he,c147,h1,hh,na,nb,na',nb',na2,nb2,hij,hij',Yw,zAG,zO _ s.tb a ha,zO _ s.tb b hb,ha,hb,hc]
  ·have hw:zF EE 6 251 (if zf sec 0 7=0 then eWd sec (zY sec) else eWd 0 ⟨0,0⟩)=true:=by split <;> simp
   simp only[he,hh,if_true,if_false];by_cases hi:i<0
   ·by_cases hj:j<0
    ·simp[c158,he,c147,hi,hj,Yw,zAG,relH,idxE,hw]
    ·simp[c158,he,c147,hi,hj,Yw,zAG,relH,idxE,hw]
   ·by_cases hj:j<0
    ·simp[c158,he,c147,hi,hj,Yw,zAG,relH,idxE,hw]
    ·have hh2:=hh;simp[relH,idxE,hi,hj] at hh2;simp[c158,he,c147,hi,hj,relH,idxE,hh2,hw]
 ·simp[c158,he]
end Go.Am
namespace Go.Am
open Go.Proofs
open Go
variable[OO]
theorem tk1{α:Type}(l:List α)(h:0<l.length):l.take 1=[l[0]]:=by rw[Av h];simp
theorem l151b(f:FuncId)(a c:List DV)(g:Int->Int)(l:List Int)(hl:l.length<=100000)(hg:∀x∈l,zB f (zy EE f ((a++[eI x])++c))=some (.val (eI (g x)))) :
  ∀i,i<=l.length->zFN f a c ((l.take i).map λx=>eI (g x)) (l.map eI) l.length i=some (.val (.sl 1 ((l.map g).map eI))):=by
 apply down
 ·rw[zFM];simp;exact(Aw (by simp)).trans (by simp)
 ·intro i hi ih;have e1:(i:Int)<l.length:=by omega
  have hx:=hg l[i] (Ap hi);have hm:min i l.length=i:=by omega
  have e2:(2 * (i+1)+200) * 8<=281474976710656:=by omega
  rw[<-ih,zFM];simp only[zP];simp only[Ar,Au,Al,eI,eTb,ePt] at hx;simp[e1,zO _ l i hi,hm,e2,wr ((i:Int)+1) (by omega),hx]
  congr 1;rw[Av (by simpa using hi)]
  simp
theorem c151(f:FuncId)(a c:List DV)(g:Int->Int)(l:List Int)(hl:l.length<=100000)(hg:∀x∈l,zB f (zy EE f ((a++[eI x])++c))=some (.val (eI (g x)))) :
  zB 151 [.sl 1 (l.map eI),.fn f a c]=some (.val (.sl 1 ((l.map g).map eI))):=by
 rw[C151];simp only[zK,zN,h25,h74,Ak,zD,zR,Yb,QA,q0,AN];rw[L151_0a_eq];simp only[zP];by_cases h:l=[]
 ·simp[h]
 ·have h0:0<l.length:=AU.2 h;have h1:=l151b f a c g l hl hg 1 (by omega)
  have hx:=hg l[0] (Ap h0);rw[tk1 l h0] at h1;simp only[Ar,Au,Al,eI,eTb,ePt] at hx;simp[h0,zO _ l 0 h0,hx];simpa using h1
theorem l236b(f:FuncId)(a c:List DV)(g:List Int->Int)(l:List (List Int))(hl:l.length<=100000)(hg:∀x∈l,zB f (zy EE f ((a++[.sl 1 (x.map eI)])++c))=some (.val (eI (g x)))) :
  ∀i,i<=l.length->zEy f a c ((l.take i).map λx=>eI (g x)) (l.map λr=>.sl 1 (r.map eI)) l.length i=some (.val (.sl 1 ((l.map g).map eI))):=by
 apply down
 ·rw[zEx];simp;exact(Aw (by simp)).trans (by simp)
 ·intro i hi ih;have e1:(i:Int)<l.length:=by omega
  have hx:=hg l[i] (Ap hi);have hm:min i l.length=i:=by omega
  have e2:(2 * (i+1)+200) * 8<=281474976710656:=by omega
  rw[<-ih,zEx];simp only[zP];simp only[Ar,Au,Al,eI,eTb,ePt] at hx;simp[e1,zO _ l i hi,hm,e2,wr ((i:Int)+1) (by omega),hx]
  congr 1;rw[Av (by simpa using hi)]
  simp
theorem c236(f:FuncId)(a c:List DV)(g:List Int->Int)(l:List (List Int))(hl:l.length<=100000)(hg:∀x∈l,zB f (zy EE f ((a++[.sl 1 (x.map eI)])++c))=some (.val (eI (g x)))) :
  zB 236 [.sl 1 (l.map λr=>.sl 1 (r.map eI)),.fn f a c]=some (.val (.sl 1 ((l.map g).map eI))):=by
 rw[C236];simp only[zK,zN,h95,h73,Ak,zD,zR,Yb,QA,q0,AN];rw[L236_0a_eq];simp only[zP];by_cases h:l=[]
 ·simp[h]
 ·have h0:0<l.length:=AU.2 h;have h1:=l236b f a c g l hl hg 1 (by omega)
  have hx:=hg l[0] (Ap h0);rw[tk1 l h0] at h1;simp only[Ar,Au,Al,eI,eTb,ePt] at hx;simp[h0,zO _ l 0 h0,hx];simpa using h1
theorem l232b(f:FuncId)(a c:List DV)(g:Tb->Pt)(l:List Tb)(hl:l.length<=100000)(hg:∀x∈l,zB f (zy EE f ((a++[eTb x])++c))=some (.val (ePt (g x)))) :
  ∀i,i<=l.length->zE0 f a c ((l.take i).map λx=>ePt (g x)) (l.map eTb) l.length i=some (.val (.sl 2 ((l.map g).map ePt))):=by
 apply down
 ·rw[zEz];simp;exact(Aw (by simp)).trans (by simp)
 ·intro i hi ih;have e1:(i:Int)<l.length:=by omega
  have hx:=hg l[i] (Ap hi);have hm:min i l.length=i:=by omega
  have e2:(2 * (i+1)+200) * 16<=281474976710656:=by omega
  rw[<-ih,zEz];simp only[zP];simp only[Ar,Au,Al,eI,eTb,ePt] at hx;simp[e1,zO _ l i hi,hm,e2,wr ((i:Int)+1) (by omega),hx]
  congr 1;rw[Av (by simpa using hi)]
  simp
theorem c232(f:FuncId)(a c:List DV)(g:Tb->Pt)(l:List Tb)(hl:l.length<=100000)(hg:∀x∈l,zB f (zy EE f ((a++[eTb x])++c))=some (.val (ePt (g x)))) :
  zB 232 [.sl 3 (l.map eTb),.fn f a c]=some (.val (.sl 2 ((l.map g).map ePt))):=by
 rw[C232];simp only[zK,zN,h56,h349,Ak,zD,zR,Yb,QA,q0,AN];rw[L232_0a_eq];simp only[zP];by_cases h:l=[]
 ·simp[h]
 ·have h0:0<l.length:=AU.2 h;have h1:=l232b f a c g l hl hg 1 (by omega)
  have hx:=hg l[0] (Ap h0);rw[tk1 l h0] at h1;simp only[Ar,Au,Al,eI,eTb,ePt] at hx;simp[h0,zO _ l 0 h0,hx];simpa using h1
theorem c233(t:Tb):zB 233 [eTb t]=some (.val (ePt t.at')):=by rw[C233];simp
theorem c146(s:Si)(hl:s.tb.length<=100000):zB 146 [eSi s]=some (.val (.sl 2 ((zo s).map ePt))):=by
 have h:=c232 233 [] [] (·.at') s.tb hl λx _=>(show zB 233 (zy EE 233 [eTb x])=zB 233 [eTb x] from congrArg (zB 233) (by kernel_rfl)).trans (c233 x)
 rw[C146];simp only[zK,zN,h58,Ak,zD,zQ,zS,zW,zh,zR,h,zJ,h81];rfl
theorem l231(l:List Int)(hl:l.length<=100000)(hb:∀x∈l,0<=x/\x<=100000000):∀i,i<=l.length->∀n:Int,0<=n->n<=i * 100000000->zCs n (l.map eI) l.length i=some (.val (eI (n+jZ (l.drop i)))):=by
 apply down (P:=λi=>∀n:Int,0<=n->n<=i * 100000000->zCs n (l.map eI) l.length i=some (.val (eI (n+jZ (l.drop i)))))
 ·intro n _ _;rw[zE1];simp[jZ]
 ·intro i hi ih n h0 h1;have e1:(i:Int)<l.length:=by omega
  have hx:=hb l[i] (Ap hi);have ih':=ih (n+l[i]) (by omega) (by omega)
  rw[zE1,za l i hi];simp only[zP];simp[e1,zO _ l i hi,wr ((i:Int)+1) (by omega),wr (n+l[i]) (by omega),jZ]
  rw[show((i:Int)+1)=((i+1:Nat):Int) by omega,ih']
  simp;omega
theorem c231(l:List Int)(hl:l.length<=100000)(hb:∀x∈l,0<=x/\x<=100000000):zB 231 [.sl 1 (l.map eI)]=some (.val (eI (jZ l))):=by rw[C231];simpa using l231 l hl hb 0 (Az _) 0 (by omega) (by omega)
theorem l263(l:List Int)(hl:l.length<=100000):∀i,i<=l.length->∀n:Int,zCq (l.map eI) n i=some (.val (eI (zB9 n (l.drop i)))):=by
 apply down (P:=λi=>∀n:Int,zCq (l.map eI) n i=some (.val (eI (zB9 n (l.drop i)))))
 ·intro n;rw[zEv];simp[zB9]
 ·intro i hi ih n;have e1:(i:Int)<l.length:=by omega
  have ih':=ih (if l[i]>n then l[i] else n)
  rw[zEv,za l i hi];simp only[zP];simp[e1,zO _ l i hi,wr ((i:Int)+1) (by omega),zB9]
  rw[show((i:Int)+1)=((i+1:Nat):Int) by omega]
  exact ih'
theorem c262(l:List Int)(hl:l.length<=10000):zB 262 [.sl 1 (l.map eI)]=some (.val (eI (zB9 0 l))):=by
 have h1:=l263 (0 :: l) (by simp;omega) 1 (by simp) 0
 have e2:(2 * (1+l.length)+200) * 8<=281474976710656:=by omega
 have h2:zB 263 [.sl 1 ((0 :: l).map eI)]=some (.val (eI (zB9 0 l))):=by rw[C263];simp only[zP];simp;exact⟨by omega,by simpa using h1⟩
 have tkm:AG l.length (BJ eI l)=BJ eI l:=Aw (by simp)
 rw[C262];simp only[zP];simp[e2,tkm];simpa using congrArg (λo=>zH o (λr0=>ifO (zF EE 6 3 r0) (some (.val (.int .i64 (zC r0)))) none) λ_ _=>none) h2
theorem l265(n:Int)(h0:0<=n)(hn:n<4294967296):∀(k:Nat) (lo hi:Int),0<=lo->lo<hi->hi<=65536->(hi - lo).toNat<=k->lo * lo<=n->n<hi * hi->zCp n lo hi=some (.val (eI (qR n)))
 | 0,lo,hi,_,h2,_,h4,_,_=>by omega
 | k+1,lo,hi,h1,h2,h3,h4,h5,h6=>by
  rw[L265_0a_eq];have e1:A5.wrap (hi - lo)=hi - lo:=wr _ (by omega)
  have e2:A5.wrap (lo+hi)=lo+hi:=wr _ (by omega)
  have e3:Ax (lo+hi) 2=(lo+hi) / 2:=Bt (by omega)
  have e4:A5.wrap ((lo+hi) / 2)=(lo+hi) / 2:=wr _ (by omega)
  simp only[zP,e1,e2,e3,e4];by_cases hd:hi - lo>1
  ·rw[if_pos hd];have hm0:lo<(lo+hi) / 2:=by omega
   have hm1:(lo+hi) / 2<hi:=by omega
   generalize (lo+hi) / 2=m at hm0 hm1;have hsq:=JV (a:=m) (b:=65536) (by omega) (by omega)
   have hnn:=As (a:=m) (b:=m) (by omega) (by omega)
   rw[wr (m * m) (by omega)]
   by_cases hc:m * m<=n
   ·rw[if_pos hc];exact l265 n h0 hn k m hi (by omega) hm1 h3 (by omega) hc h6
   ·rw[if_neg hc];exact l265 n h0 hn k lo m h1 (by omega) (by omega) (by omega) h5 (by omega)
  ·rw[if_neg hd];have:hi=lo+1:=by omega
   subst this;rw[IsRoot.unique ⟨h1,h5,h6⟩ (Yd h0)]
theorem c265(n:Int)(h0:0<=n)(hn:n<4294967296):zB 265 [eI n]=some (.val (eI (qR n))):=by rw[C265];simp only[zK,zN,h3,Ak,zD,zI];exact l265 n h0 hn 65536 0 65536 (by omega) (by omega) (by omega) (by omega) (by simpa using h0) (by simpa using hn)
theorem c266(n:Int)(h0:0<=n)(hn:n<=256):zB 266 [eI n]=some (.val (eI (n * n))):=by have:=JV (a:=n) (b:=256) h0 hn;have:=As h0 h0;rw[C266];simp only[zK,zN,h3,Ak,zD,zI,wr (n * n) (by omega)]
theorem c264(l:List Int)(hl:l.length<=64)(hb:∀x∈l,0<=x/\x<=256):zB 264 [.sl 1 (l.map eI)]=some (.val (eI (qR (jZ (sqI l))))):=by
 have h1:=c151 266 [] [] (λn=>n * n) l (by omega) λx hx=>(show zB 266 (zy EE 266 [eI x])=zB 266 [eI x] from congrArg (zB 266) (by kernel_rfl)).trans (c266 x (hb x hx).1 (hb x hx).2)
 have hs:=zGm hb;have hsum:=qN _ hs;have hlen:(sqI l).length=l.length:=by simp[sqI]
 have h2:=c231 (sqI l) (by omega) λx hx=>by have:=hs x hx;omega
 have h3':=c265 (jZ (sqI l)) hsum.1 (by rw[hlen] at hsum;have:(l.length:Int) * (256 * 256)<=64 * 65536:=AK (by omega) (by omega) (by omega) (by omega);omega)
 have e:(l.map λn=>n * n)=sqI l:=rfl
 rw[e] at h1;rw[C264];simp only[zK,zN,h25,Ak,zD,zR,h1,zJ,h2,h3,zI,h3']
theorem zFu:¬rS=rG:=by decide
theorem zFv:¬rM=rS:=by decide
theorem rM_ne_rG:¬rM=rG:=by decide
theorem zBu{α:Type}{l:List α}{i j:Nat}(h:i=j)(hi:i<l.length)(hj:j<l.length):l[i]=l[j]:=by subst h;rfl
theorem c237(rule:ByteArray)(hk:ji rule=true)(f:FuncId)(hf:f=if rule=rG then 262 else if rule=rS then 264 else 231)(l:List Int)(hl:l.length<=64)(hb:∀x∈l,0<=x/\x<=256) :
  zB 237 [.sl 1 (l.map eI),.dp (.fn f [] [])]=some (.val (eI (Yn (QW rule l)))):=by
 have key:zB f (zy EE f [.sl 1 (l.map eI)])=some (.val (eI (QW rule l))):=by
  unfold QW;by_cases h1:rule=rG
  ·rw[if_pos h1] at hf;subst hf;rw[if_pos h1];exact(show zB 262 (zy EE 262 [.sl 1 (l.map eI)])=zB 262 [.sl 1 (l.map eI)] from congrArg (zB 262) (by kernel_rfl)).trans (c262 l (by omega))
  ·rw[if_neg h1] at hf;by_cases h2:rule=rS
   ·rw[if_pos h2] at hf;subst hf;rw[if_neg h1,if_pos h2];exact(show zB 264 (zy EE 264 [.sl 1 (l.map eI)])=zB 264 [.sl 1 (l.map eI)] from congrArg (zB 264) (by kernel_rfl)).trans (c264 l hl hb)
   ·rw[if_neg h2] at hf;subst hf;rw[if_neg h1,if_neg h2];exact(show zB 231 (zy EE 231 [.sl 1 (l.map eI)])=zB 231 [.sl 1 (l.map eI)] from congrArg (zB 231) (by kernel_rfl)).trans (c231 l (by omega) λx hx=>by have:=hb x hx;omega)
 rw[C237];simp only[zK,zN,h25,Ak,zD,zR,QG,Yb,QA,q0,Al,Bm,h73,key,zJ,h3,zI];simp only[zHy,List.all_cons,List.all_nil,Ak,zD];rfl
theorem find_rule(rule:ByteArray)(hk:ji rule=true) :
  jh (.str rule) [.str rG,.str rS,.str rM] [.agg 12 [.fn 262 [] []],.agg 12 [.fn 264 [] []],.agg 12 [.fn 231 [] []]]=some (some (.agg 12 [.fn (if rule=rG then 262 else if rule=rS then 264 else 231) [] []])):=by
 simp only[jh,JG,Jg,zL];by_cases h1:rule=rG
 ·simp[h1]
 ·by_cases h2:rule=rS
  ·simp[h2,zFu]
  ·have h3:rule=rM:=by simpa[ji,YB,h1,h2] using hk
   simp[h3,rM_ne_rG,zFv]
theorem c235(v d:Int)(hv:0<=v/\v<=51)(hd:0<=d/\d<=256):zB 235 [eI d,.dp (eI v)]=some (.val (eI (v * (256 - d)))):=by
 have h1:=As hv.1 (show 0<=256 - d by omega)
 have h2:v * (256 - d)<=51 * 256:=AK hv.2 (by omega) (by omega) (by omega)
 rw[C235];simp only[zK,zN,h3,Ak,zD,QG,zI,wr (256 - d) (by omega),wr (v * (256 - d)) (by omega)]
 simp[zHy]
theorem c152(l:List Int)(v:Int)(hl:l.length<=100000)(hv:0<=v/\v<=51)(hd:∀d∈l,0<=d/\d<=256):zB 152 [.sl 1 (l.map eI),eI v]=some (.val (.sl 1 ((jL l v).map eI))):=by
 have h:=c151 235 [] [.dp (eI v)] (λd=>v * (256 - d)) l hl λx hx=>(show zB 235 (zy EE 235 [eI x,.dp (eI v)])=zB 235 [eI x,.dp (eI v)] from congrArg (zB 235) (by kernel_rfl)).trans (c235 v x hv (hd x hx))
 rw[C152];simp only[zK,zN,h25,h3,Ak,zD,zR,zI,h,zJ];rfl
theorem zGh(c:Cu)(hc:okCu c)(v:Int)(h0:0<=v)(h1:v<=13056):zB 150 [eCu c,eI v]=some (.val (eI (YA c v))):=by
 obtain⟨hl,hl',hp,_,_⟩:=hc;have e3:Ax v 256=v / 256:=Bt h0;have e4:Bs v 256=v % 256:=Int.tmod_eq_emod_of_nonneg h0;have g:=λi=>qU (b:=100000) (by decide) hp i
 rw[C150];simp only[zK,zN,h60,h3,Ak,zD,zQ,zS,zW,zR,zI,AN,e3,e4,zP];rw[wr (v / 256) (by omega),wr ((c.p.length:Int) - 1) (by omega),wr (v / 256+1) (by omega)]
 unfold YA zIM;by_cases hk:v / 256>=(c.p.length:Int) - 1
 ·have hi:((c.p.length:Int) - 1).toNat<c.p.length:=by omega
  have hn:=zO eI c.p ((c.p.length:Int) - 1).toNat hi;have hg:=g (c.p.length - 1);have hgd:c.p.getD (c.p.length - 1) 0=c.p[((c.p.length:Int) - 1).toNat]:=by
   rw[Ai,Aj (by omega)]
   exact zBu (by omega) _ _
  rw[hgd] at hg ⊢;rw[if_pos hk,if_pos hk,if_pos (by omega),hn]
  simp only[h3,zD,zI];rw[wr _ (by omega)]
 ·obtain⟨k,hk'⟩:∃k:Nat,v / 256=k:=⟨(v / 256).toNat,by omega⟩
  have hf0:=Bq v (show(256:Int)≠0 by decide)
  have hf1:=Be v (show(0:Int)<256 by decide)
  rw[hk'] at hk ⊢;have hi:k<c.p.length:=by omega
  have hi1:k+1<c.p.length:=by omega
  have hn:=zO eI c.p k hi;have hn1:=zO eI c.p (k+1) hi1;have hg:=g k;have hg1:=g (k+1);have hgd:c.p.getD k 0=c.p[k]:=by rw[Ai,Aj hi];rfl
  have hgd1:c.p.getD (k+1) 0=c.p[k+1]:=by rw[Ai,Aj hi1];rfl
  rw[hgd] at hg;rw[hgd1] at hg1;have hb:=zA6 (f:=v % 256) hg hg1 ⟨hf0,by omega⟩
  have hb1:-25600000<=(c.p[k+1] - c.p[k]) * (v % 256)/\(c.p[k+1] - c.p[k]) * (v % 256)<=25600000:=by omega
  have et:((k:Int)+1).toNat=k+1:=by omega
  rw[if_neg hk,if_neg hk];have c1:(0:Int)<=(k:Int)/\(k:Int)<(c.p.length:Int):=by omega
  have c2:(0:Int)<=(k:Int)+1/\(k:Int)+1<(c.p.length:Int):=by omega
  simp only[c1,c2,and_self,if_true,A3,et,hn,hn1,h3,zD,zI,hgd,hgd1];rw[wr (256 * c.p[k]) (by omega),wr (c.p[k+1] - c.p[k]) (by omega),wr ((c.p[k+1] - c.p[k]) * (v % 256)) (by omega),wr _ (by omega)]
theorem c151v(c:Cu)(hc:okCu c)(l:List Int)(hl:l.length<=100000)(hb:∀x∈l,0<=x/\x<=13056):zB 151 [.sl 1 (l.map eI),.fn 150 [eCu c] []]=some (.val (.sl 1 ((l.map (YA c)).map eI))) :=
 c151 150 [eCu c] [] (YA c) l hl λx hx=>(show zB 150 (zy EE 150 [eCu c,eI x])=zB 150 [eCu c,eI x] from congrArg (zB 150) (by kernel_rfl)).trans (zGh c hc x (hb x hx).1 (hb x hx).2)
end Go.Am
namespace Go.Am
open Go.Proofs
open Go
variable[OO]
def S190_0a(v0:Nat)(v1 v2 v3:List DV)(v4:Int):St :=
 zr 22 [(1,(.d (.fn v0 v1 v2))),(5,(.d .nl)),(8,(.d (.sl 2 v3))),(9,(.d (eI v4))),(10,(.d (eI 0)))] []
noncomputable def L190_0a(v0:Nat)(v1 v2 v3:List DV)(v4:Int):Option CR:=goQ 190 0 (S190_0a v0 v1 v2 v3 v4)
def S190_0b(v0:Nat)(v1 v2 v3 v4:List DV)(v5 v6:Int):St :=
 zr 22 [(1,(.d (.fn v0 v1 v2))),(5,(.own 19 0 (Ab v3) 1)),(8,(.d (.sl 2 v4))),(9,(.d (eI v5))),(10,(.d (eI v6)))] [(19,(.mk false (.dc 1 v3)))]
noncomputable def zE7(v0:Nat)(v1 v2 v3 v4:List DV)(v5 v6:Int):Option CR:=goQ 190 0 (S190_0b v0 v1 v2 v3 v4 v5 v6)
theorem L190_0a_eq(v0:Nat)(v1 v2 v3:List DV)(v4:Int):L190_0a v0 v1 v2 v3 v4 =
 ifO (decide ((0:Int)<v4))
 (ifO (decide (((0:Int)<=(0:Int))/\((0:Int)<(((Ab v3):Nat):Int))))
 (ifO (zF EE 6 302 (nth v3 0))
 (zH (zB v0 (zy EE v0 ((v1++[(.agg 1 [(eI (zC (nth (flds (nth v3 0)) 0))),(eI (zC (nth (flds (nth v3 0)) 1)))])])++v2)))
 (λr0=>ifO (zF EE 6 3 r0)
 ((zE7 v0 v1 v2 [(eI (zC r0))] v3 v4 (1:Int)))
 (none))
 (λ_ _=>none))
 (none))
 (none))
 (some (.val (.sl 1 []))) :=
 (zb 190 0 _).trans (by kernel_rfl)
theorem zE6(v0:Nat)(v1 v2 v3 v4:List DV)(v5 v6:Int):zE7 v0 v1 v2 v3 v4 v5 v6 =
 ifO (decide (v6<v5))
 (ifO (decide (((0:Int)<=v6)/\(v6<(((Ab v4):Nat):Int))))
 (ifO (zF EE 6 302 (nth v4 (Ac v6)))
 (zH (zB v0 (zy EE v0 ((v1++[(.agg 1 [(eI (zC (nth (flds (nth v4 (Ac v6))) 0))),(eI (zC (nth (flds (nth v4 (Ac v6))) 1)))])])++v2)))
 (λr3=>ifO (zF EE 6 3 r3)
 (ifO (decide ((Ab v3)=(Ab v3)))
 (ifO (decide ((((2 * ((Ab v3)+1))+200) * 8)<=281474976710656))
 ((zE7 v0 v1 v2 (v3++[(eI (zC r3))]) v4 v5 (Aa .i64 (v6+(1:Int)))))
 (none))
 (none))
 (none))
 (λ_ _=>none))
 (none))
 (none))
 (ifO (decide ((0+(Ab v3))<=(Ab v3)))
 (some (.val (.sl 1 (AG (Ab v3) (AL 0 v3)))))
 (none)) :=
 (zb 190 0 _).trans (by kernel_rfl)
theorem C190(x0 x1:DV):zB 190 [x0,x1] =
 ifO (zV (zF EE 6) [300,305] [x0,x1])
 ((L190_0a (zDz x1) (fnA x1) (fnC x1) (elems x0) (((Ab (elems x0)):Nat):Int)))
 (none) :=
 (zM (f:=190) (by kernel_rfl) (by kernel_rfl) (by kernel_rfl) [x0,x1]).trans (by kernel_rfl)
theorem C191(x0:DV):zB 191 [x0] =
 ifO (zV (zF EE 6) [302] [x0])
 (some (.val (eI (zC (nth (flds x0) 1)))))
 (none) :=
 (zM (f:=191) (by kernel_rfl) (by kernel_rfl) (by kernel_rfl) [x0]).trans (by kernel_rfl)
end Go.Am
namespace Go.Am
open Go.Proofs
open Go
variable[OO]
theorem a68_run(g:Nat->St->Option CR)(s sec:DV):run (zB) g (a68 s sec) =
 ifO (zV (zF EE 6) [58,3] [s,sec])
 (zH (zB 158 [(.agg 0 [(.str (zX (nth (flds s) 0))),(.int .i64 (zC (nth (flds s) 1))),(.sl 3 (elems (nth (flds s) 2)))])])
 (λr0=>ifO (zF EE 6 46 r0)
 (ifO (bne (zC r0) 0)
 (some (.val (.tup [(.sl 1 []),(.int .i64 (zC r0))])))
 (zH (zB 147 [(.int .i64 (zC sec))])
 (λr1=>ifO ((DV.isTup r1) && (zV (zF EE 6) [251,46] (tups r1)))
 (ifO (bne (zC (nth (tups r1) 1)) (0:Int))
 (some (.val (.tup [(.sl 1 []),(.int .i64 (zC (nth (tups r1) 1)))])))
 ((g 0 (zr 47 [(7,(.ptr 7 3 0 [])),(9,(.d .nl)),(26,(.d (.sl 3 (elems (nth (flds s) 2))))),(27,(.d (.int .i64 (((Ab (elems (nth (flds s) 2))):Nat):Int)))),(28,(.d (.int .i64 0)))] [(7,(.mk false (.dc 3 [(.agg 9 [(.int .i64 (zC (nth (flds (nth (tups r1) 0)) 0))),(.agg 1 [(.int .i64 (zC (nth (flds (nth (flds (nth (tups r1) 0)) 1)) 0))),(.int .i64 (zC (nth (flds (nth (flds (nth (tups r1) 0)) 1)) 1)))])])])))]))))
 (none))
 (λ_ _=>none)))
 (none))
 (λ_ _=>none))
 (none):=by kernel_rfl
theorem l68_run(g:Nat->St->Option CR)(sec x y:Int)(tb l:List DV)(v27 v28:Int):run (zB) g (l68 sec x y tb l v27 v28) =
 ifO (decide (v28<v27))
 (ifO (decide (((0:Int)<=v28)/\(v28<(((Ab tb):Nat):Int))))
 (ifO (zF EE 6 176 (nth tb (Ac v28)))
 (zH (zB 187 [(.agg 9 [(.int .i64 sec),(.agg 1 [(.int .i64 x),(.int .i64 y)])]),(.agg 1 [(.int .i64 (zC (nth (flds (nth (flds (nth tb (Ac v28))) 1)) 0))),(.int .i64 (zC (nth (flds (nth (flds (nth tb (Ac v28))) 1)) 1)))])])
 (λr0=>ifO (zF EE 6 3 r0)
 (ifO (decide ((Ab l)=(Ab l)))
 (ifO (decide ((((2 * ((Ab l)+1))+200) * 16)<=281474976710656))
 ((g 0 (zr 47 [(7,(.ptr 7 3 0 [])),(9,(.own 41 0 (Ab (l++[(.agg 1 [(.int .i64 (zC r0)),(.int .i64 v28)])])) 2)),(26,(.d (.sl 3 tb))),(27,(.d (.int .i64 v27))),(28,(.d (.int .i64 (Aa .i64 (v28+(1:Int))))))] [(7,(.mk false (.dc 3 [(.agg 9 [(.int .i64 sec),(.agg 1 [(.int .i64 x),(.int .i64 y)])])]))),(41,(.mk false (.dc 2 (l++[(.agg 1 [(.int .i64 (zC r0)),(.int .i64 v28)])]))))])))
 (none))
 (none))
 (none))
 (λ_ _=>none))
 (none))
 (none))
 ((g 900 (zr 47 [(7,(.ptr 7 3 0 [])),(9,(.own 41 0 (Ab l) 2)),(26,(.d (.sl 3 tb))),(27,(.d (.int .i64 v27))),(28,(.d (.int .i64 v28))),(29,(.d (.bool false)))] [(7,(.mk false (.dc 3 [(.agg 9 [(.int .i64 sec),(.agg 1 [(.int .i64 x),(.int .i64 y)])])]))),(41,(.mk false (.dc 2 l)))]))):=by kernel_rfl
theorem z68_run(g:Nat->St->Option CR)(sec x y:Int)(tb:List DV)(v27 v28:Int):run (zB) g (z68 sec x y tb v27 v28) =
 ifO (decide (v28<v27))
 (ifO (decide (((0:Int)<=v28)/\(v28<(((Ab tb):Nat):Int))))
 (ifO (zF EE 6 176 (nth tb (Ac v28)))
 (zH (zB 187 [(.agg 9 [(.int .i64 sec),(.agg 1 [(.int .i64 x),(.int .i64 y)])]),(.agg 1 [(.int .i64 (zC (nth (flds (nth (flds (nth tb (Ac v28))) 1)) 0))),(.int .i64 (zC (nth (flds (nth (flds (nth tb (Ac v28))) 1)) 1)))])])
 (λr0=>ifO (zF EE 6 3 r0)
 ((g 0 (zr 47 [(7,(.ptr 7 3 0 [])),(9,(.own 41 0 (Ab [(DV.agg 1 [(.int .i64 (zC r0)),(.int .i64 v28)])]) 2)),(26,(.d (.sl 3 tb))),(27,(.d (.int .i64 v27))),(28,(.d (.int .i64 (Aa .i64 (v28+(1:Int))))))] [(7,(.mk false (.dc 3 [(.agg 9 [(.int .i64 sec),(.agg 1 [(.int .i64 x),(.int .i64 y)])])]))),(41,(.mk false (.dc 2 [(.agg 1 [(.int .i64 (zC r0)),(.int .i64 v28)])])))])))
 (none))
 (λ_ _=>none))
 (none))
 (none))
 ((g 900 (zr 47 [(7,(.ptr 7 3 0 [])),(9,(.d .nl)),(26,(.d (.sl 3 tb))),(27,(.d (.int .i64 v27))),(28,(.d (.int .i64 v28))),(29,(.d (.bool false)))] [(7,(.mk false (.dc 3 [(.agg 9 [(.int .i64 sec),(.agg 1 [(.int .i64 x),(.int .i64 y)])])])))]))):=by kernel_rfl
theorem t68_run(g:Nat->St->Option CR)(l:List DV):run (zB) g (t68 l) =
 ifO (decide ((0+(Ab l))<=(Ab l)))
 (zH (zB 190 [(.sl 2 (AG (Ab l) (AL 0 l))),(.fn 191 [] [])])
 (λr0=>ifO (zF EE 6 25 r0)
 (some (.val (.tup [(.sl 1 (elems r0)),(.int .i64 0)])))
 (none))
 (λ_ _=>none))
 (none):=by kernel_rfl
theorem u68_run(g:Nat->St->Option CR):run (zB) g (u68) =
 zH (zB 190 [(.sl 2 []),(.fn 191 [] [])])
 (λr0=>ifO (zF EE 6 25 r0)
 (some (.val (.tup [(.sl 1 (elems r0)),(.int .i64 0)])))
 (none))
 (λ_ _=>none):=by kernel_rfl
theorem c191(p:Pt):zB 191 [ePt p]=some (.val (eI p.y)):=by rw[C191];simp
theorem l190b(l:List Pt)(hl:l.length<=100000) :
  ∀i,i<=l.length->zE7 191 [] [] ((l.take i).map λx=>eI x.y) (l.map ePt) l.length i=some (.val (.sl 1 ((l.map (·.y)).map eI))):=by
 apply down
 ·rw[zE6];simp;exact(Aw (by simp)).trans (by simp)
 ·intro i hi ih;have e1:(i:Int)<l.length:=by omega
  have hx:=c191 l[i];have hm:min i l.length=i:=by omega
  have e2:(2 * (i+1)+200) * 8<=281474976710656:=by omega
  have hcn:∀x:DV,zy EE 191 [x]=[cnE EE 302 x]:=λx=>by kernel_rfl
  have hcn2:∀p:Pt,cnE EE 302 (ePt p)=ePt p:=λp=>by kernel_rfl
  rw[<-ih,zE6];simp only[zP];have hy:∀p:Pt,zB 191 (zy EE 191 (([]++[ePt p])++[]))=some (.val (eI p.y)):=λp=>by rw[Al,Bm,hcn,hcn2];exact c191 p
  simp only[ePt,eI] at hy;simp[e1,zO _ l i hi,hm,e2,wr ((i:Int)+1) (by omega)]
  have:=hy l[i];simp only[Al,Bm] at this;rw[this];simp;congr 1;rw[B2,Bg,Aj hi];rfl
theorem c190(l:List Pt)(hl:l.length<=100000):zB 190 [.sl 2 (l.map ePt),.fn 191 [] []]=some (.val (.sl 1 ((l.map (·.y)).map eI))):=by
 rw[C190];simp only[zK,zN,h300,h305,Ak,zD,zR,Yb,QA,q0,AN];rw[L190_0a_eq];simp only[zP];by_cases h:l=[]
 ·simp[h]
 ·have h0:0<l.length:=AU.2 h;have h1:=l190b l hl 1 (by omega)
  have hcn:∀p:Pt,zB 191 (zy EE 191 [ePt p])=some (.val (eI p.y)):=λp=>(congrArg (zB 191) (show zy EE 191 [ePt p]=[ePt p] by kernel_rfl)).trans (c191 p)
  have hx:=hcn l[0];rw[tk1 l h0] at h1;simp only[ePt,eI] at hx;simp[h0,zO _ l 0 h0,hx];simpa using h1
end Go.Am
