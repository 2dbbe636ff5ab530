/- The abstract machine, the contracts of the functions that are walked by hand, and the examples of the document. Part 3. -/
import Derived.Test.YtojkhldombndpaaGreatDoorD2
set_option linter.all false
open List renaming replicate->Aa,getElem?_eq_getElem->Ac,getElem?_eq_some_iff->Ad,mem_cons->Ag,getElem?_set_self->Ai,getElem?_map->Aj,nil_append->Ao,mem_iff_getElem?->Aq,getElem?_eq_none->Ar,not_mem_nil->As,length_cons->At,all_eq_true->Au,getElem?_cons_zero->Av,size_toArray->Aw,getElem_map->Ax,cons_append->Ay,getElem?_set_ne->Az,length_nil->AB,getElem?_zipIdx->AI,append_toArray->AJ,map_cons->AK,push_toArray->AL,append_assoc->AM,range'_succ->AO,getElem_mem->AP,range->AT,getElem?_eq_none_iff->AU,length_eq_zero_iff->A0,getElem?_replicate->A3,getElem?_cons_succ->A4,mem_map->A5,getElem_cons_zero->A6,take_append_drop->A8,getElem?_toArray->A9,length_append->Bg,getElem?_set->Bh,flatten_cons->Bi,length_drop->Bl,range_zero->Bo,range_succ->Bp,append_nil->Bq,drop_drop->Bs,range'->BB
open Bool renaming and_eq_true->Ab,not_eq_true'->AC
open Array renaming getElem?_eq_some_iff->Ae,getElem?_setIfInBounds_ne->Ak,replicate_zero->AG,replicate_succ->AH,replicate->Bm
open Option renaming isSome_iff_exists->Af,map_some->AD,isNone_none->Bb,getD_some->Bf
open Go.Fence renaming wide->Ah
open Go.Value renaming int->Al
open Option.some renaming injEq->An
open Go.World renaming putObj_heap_other->Ap,putObj_heap_same->AX,alloc_heap_new->A7
open Nat renaming le_refl->AA,le_max_right->AE,reduceSub->AY,reduceAdd->AZ,zero_le->Bd,le_max_left->Br,zero_add->Bx,le_total->By,beq->Bz,add_comm->BA,one_mul->BE,le_succ->BF,add_mul->BG
open Go.Oper renaming semAt_some->AF,semAt_eq->AW,about->BD,wpIn->BH
open Go.RowKit.Below renaming heap_alloc->AN
open Go.Exit renaming normal->AQ
open And renaming intro->AR
open Go.DataW renaming trod_int->AS,trod->Be,trod_array->Bk
open Go.Lib renaming pow10Tab->Ba
open List.cons renaming injEq->Bc
open Int renaming not_lt->Bj
open Go.Region renaming wanted->Bn,Mode->Bu
open Go.Code renaming rangeFunc->Bt
open Go.Value.pointer renaming injEq->Bv
open Go.Utf8 renaming decode->Bw
open Go.Act renaming put->BC
namespace Go.Am
open Go.Proofs
open Go
inductive Tr where
 | fail
 | ret (r:CR)
 | ifB (b:Bool) (t e:Tr)
 | call (f:FuncId) (args:List DV) (kv:DV->Tr) (kf:Nat->List DV->Tr)
 | goto (j:Nat) (st:St)
def ifO(b:Bool)(x y:Option CR):Option CR:=match b with | true=>x | false=>y
def zH(o:Option CR)(kv:DV->Option CR)(kf:Nat->List DV->Option CR):Option CR :=
 match o with
 | some (.val x)=>kv x
 | some (.fresh s xs)=>kf s xs
 | none=>none
def run(call:FuncId->List DV->Option CR)(go:Nat->St->Option CR):Tr->Option CR
 | .fail=>none
 | .ret r=>some r
 | .ifB b t e=>ifO b (run call go t) (run call go e)
 | .call f a kv kf=>zH (call f a) (λx=>run call go (kv x)) (λs xs=>run call go (kf s xs))
 | .goto j st=>go j st
def zC:DV->Int | .int _ n=>n | _=>0
def jm:DV->Bool | .bool b=>b | _=>false
def zX:DV->ByteArray | .str s=>s | _=>ByteArray.empty
def elems:DV->List DV | .sl _ xs=>xs | _=>[]
def flds:DV->List DV | .agg _ xs=>xs | _=>[]
def undp:DV->DV | .dp x=>x | _=>.nl
def zDz:DV->FuncId | .fn f _ _=>f | _=>0
def fnA:DV->List DV | .fn _ a _=>a | _=>[]
def fnC:DV->List DV | .fn _ _ c=>c | _=>[]
def keys:DV->List DV | .mp ks _=>ks | _=>[]
def vals:DV->List DV | .mp _ vs=>vs | _=>[]
def tups:DV->List DV | .tup xs=>xs | _=>[]
def nth(xs:List DV)(i:Nat):DV:=match xs[i]? with | some x=>x | none=>.nl
def jK(tag i:Nat):DV->Bool | .agg t xs=>(t == tag) && decide (i<xs.length) | _=>false
def zJc:DV->Bool | .nl=>true | _=>false
def zV(f:TypeId->DV->Bool):List TypeId->List DV->Bool
 | [],[]=>true
 | t :: ts,x :: xs=>f t x && zV f ts xs
 | _,_=>false
def zDo(f:TypeId->DV->DV):List TypeId->List DV->Nat->List DV
 | [],_,_=>[]
 | t :: ts,xs,i=>f t (nth xs i) :: zDo f ts xs (i+1)
def zF(E:Env):Nat->TypeId->DV->Bool
 | 0,_,_=>false
 | n+1,t,x=>match E.D t with
  | none=>false
  | some td=>match td.k with
   | .int k=>match x with | .int k' _=>k' == k | _=>false
   | .bool=>match x with | .bool _=>true | _=>false
   | .str=>match x with | .str _=>true | _=>false
   | .slice e=>match E.D e with
    | some ed=>match x with | .sl s _=>s == ed.size | _=>false
    | none=>false
   | .map _ _=>match x with | .mp _ _=>true | _=>false
   | .struct tag=>match x with | .agg u xs=>(u == tag) && zV (zF E n) (E.flds t) xs | _=>false
   | .array tag m _=>match x with | .agg u xs=>(u == tag) && decide (xs.length=m) | _=>false
   | .ptr _=>match x with | .dp _=>true | _=>false
   | .func=>match x with | .fn _ _ _=>true | _=>false
   | .iface=>match x with | .nilIf=>true | .ifc _ _=>true | _=>false
   | _=>false
def zH4(E:Env):Nat->TypeId->DV->DV
 | 0,_,x=>x
 | n+1,t,x=>match E.D t with
  | none=>x
  | some td=>match td.k with
   | .int k=>.int k (zC x)
   | .bool=>.bool (jm x)
   | .str=>.str (zX x)
   | .slice e=>match E.D e with
    | some ed=>.sl ed.size (elems x)
    | none=>x
   | .map _ _=>.mp (keys x) (vals x)
   | .struct tag=>.agg tag (zDo (zH4 E n) (E.flds t) (flds x) 0)
   | .array tag _ _=>.agg tag (flds x)
   | .ptr _=>.dp (undp x)
   | .func=>.fn (zDz x) (fnA x) (fnC x)
   | _=>x
def shD:Nat:=6
def needs(E:Env):Nat->TypeId->Bool
 | 0,_=>false
 | n+1,t=>match E.D t with
  | none=>false
  | some td=>match td.k with
   | .slice _=>true
   | .struct _=>(E.flds t).any (needs E n)
   | _=>false
def zJn(f:TypeId->DV->DV):List TypeId->List DV->List DV
 | t :: ts,x :: xs=>f t x :: zJn f ts xs
 | _,xs=>xs
def cnE(E:Env)(t:TypeId)(x:DV):DV :=
 match E.D t with
 | none=>x
 | some td=>match td.k with
  | .slice e=>match E.D e with
   | some ed=>match x with
    | .nl=>.sl ed.size []
    | x=>x
   | none=>x
  | _=>x
def cnT(E:Env):Nat->TypeId->DV->DV
 | 0,_,x=>x
 | n+1,t,x=>match needs E (n+1) t with
  | false=>x
  | true=>match E.D t with
   | none=>x
   | some td=>match td.k with
    | .slice e=>match E.D e with
     | some ed=>match x with
      | .nl=>.sl ed.size []
      | .sl s xs=>match needs E n e with
       | true=>.sl s (xs.map (cnE E e))
       | false=>.sl s xs
      | x=>x
     | none=>x
    | .struct tag=>match x with
     | .agg u xs=>match u == tag with
      | true=>.agg u (zJn (cnT E n) (E.flds t) xs)
      | false=>.agg u xs
     | x=>x
    | _=>x
def zy(E:Env)(f:FuncId)(ds:List DV):List DV :=
 match E.F f with
 | some fn=>zJn (cnT E shD) fn.params.toList ds
 | none=>ds
def cnRes(E:Env)(fn:Func)(x:DV):DV :=
 match fn.resultTypes.toList with
 | [t]=>cnT E shD t x
 | ts=>match x with
  | .tup xs=>.tup (zJn (cnT E shD) ts xs)
  | x=>x
structure XF where
 cells:List Nat:=[]
 live:List (List Nat):=[]
 caps:Nat:=0
 cuts:List (Nat×List Nat):=[]
 deriving Inhabited
structure XC where
 arr:List Nat
 fx:FuncId->XF
def gd(b:Bool)(t:Tr):Tr:=.ifB b t .fail
def hard(b:Bool)(t:Tr):Tr:=match b with | true=>t | false=>.fail
def jR{α:Type}(o:Option α)(k:α->Tr):Tr:=match o with | some a=>k a | none=>.fail
def eqX(E:Env)(t:TypeId)(neg:Bool)(x y:DV)(k:DV->Tr):Tr :=
 gd (YT E t x y).isSome (k (.bool (match neg with | true=>!((YT E t x y).getD false) | false=>(YT E t x y).getD false)))
def intX(E:Env)(op:BinOp)(t:TypeId)(k1:IntKind)(a:Int)(k2:IntKind)(b:Int)(k:DV->Tr):Tr :=
 match op with
 | .quo=>hard (decide (k1=k2)) (gd (!(b == 0)) (k (.int k1 (k1.wrap (a.tdiv b)))))
 | .rem=>hard (decide (k1=k2)) (gd (!(b == 0)) (k (.int k1 (a.tmod b))))
 | .shl=>gd (decide (0<=b)) (k (.int k1 (k1.wrap (a * 2 ^ (min b.toNat k1.bits)))))
 | .shr=>gd (decide (0<=b)) (k (.int k1 (a.fdiv (2 ^ (min b.toNat k1.bits)))))
 | op=>jR (zDh E op t (.int k1 a) (.int k2 b)) k
def binX(E:Env)(op:BinOp)(t:TypeId)(x y:DV)(k:DV->Tr):Tr :=
 match x with
 | .int k1 a=>match y with
  | .int k2 b=>intX E op t k1 a k2 b k
  | _=>.fail
 | .str a=>match y with
  | .str b=>match op with
   | .add=>gd (decide (((a.size+b.size:Nat):Int)<=IntKind.i64.max)) (k (.str (a++b)))
   | op=>jR (zDh E op t (.str a) (.str b)) k
  | _=>.fail
 | x=>match op with
  | .eql=>eqX E t false x y k
  | .neq=>eqX E t true x y k
  | _=>.fail
def getBX(blk:Blk)(sz e:Nat)(k:AV->Tr):Tr :=
 match blk with
 | .dc s xs=>hard (s == sz) (gd (decide (e<xs.length)) (k (.d (nth xs e))))
 | .ac s xs=>hard (s == sz) (jR xs[e]? k)
 | _=>.fail
def zIR:List (Nat×Nat)->AV->(AV->Tr)->Tr
 | [],v,k=>k v
 | (tag,i) :: p,v,k=>match v with
  | .d x=>gd (jK tag i x) (zIR p (.d (nth (flds x) i)) k)
  | .agg t fs=>hard (t == tag) (jR fs[i]? λx=>zIR p x k)
  | _=>.fail
def unif(l:List Nat)(n:Nat):Bool:=decide (3<=l.length) && l.all λm=>Bz m n
def szX(l:List Nat)(i n:Nat)(t:Tr):Tr:=match unif l n with
 | true=>gd (decide (i<l.length)) t
 | false=>hard (decide (n=l.getD i 0)) t
def setPX(L:Nat->List Nat):List (Nat×Nat)->AV->AV->(AV->Tr)->Tr
 | [],new,_,k=>k new
 | (tag,i) :: p,new,v,k=>match v with
  | .d x=>gd (jK tag i x) (setPX L p new (.d (nth (flds x) i)) λy=>szX (L tag) i (Jm L y) <| match y with
    | .d y=>k (.d (.agg tag ((flds x).set i y)))
    | y=>k (.agg tag (((flds x).map .d).set i y)))
  | .agg t fs=>hard (t == tag) (jR fs[i]? λx=>setPX L p new x λy=>hard (decide (Jm L y=(L tag).getD i 0)) (jR (setF tag i y (.agg t fs)) k))
  | _=>.fail
def setBX(blk:Blk)(e:Nat)(v:AV)(k:Blk->Tr):Tr :=
 match blk with
 | .dc s xs=>match v with
  | .d y=>k (.dc s (xs.set e y))
  | v=>k (.ac s ((xs.map .d).set e v))
 | .ac s xs=>k (.ac s (xs.set e v))
 | _=>.fail
def shX(E:Env)(td:TD)(asis:Bool)(t:TypeId)(v:AV)(k:AV->Tr):Tr :=
 match asis with
 | true=>hard (fits td v) (k v)
 | false=>match v with
  | .d x=>gd (zF E shD t x) (k (.d (zH4 E shD t x)))
  | v=>hard (fits td v) (k v)
def loadX(E:Env)(X:XC)(F:XF)(t:TypeId)(hp:List (Option OB))(a:AV)(k:Eff->Tr):Tr :=
 jR (E.D t) λtd=>match a with
  | .d (.dp x)=>shX E td false t (.d x) λv=>k { v }
  | .ptr b sz e p=>jR (slot hp b) λob=>getBX ob.blk sz e λv=>zIR p v λx =>
    shX E td (F.cells.contains b && p.all λq=>!X.arr.contains q.1) t x λv=>k { v }
  | _=>.fail
def storeX(E:Env)(t:TypeId)(hp:List (Option OB))(a x:AV)(k:Eff->Tr):Tr :=
 jR (E.D t) λtd=>match a with
  | .ptr b sz e p=>jR (slot hp b) λob=>hard (!ob.fz) <| hard (fits td x) <|
    getBX ob.blk sz e λv=>setPX E.L p x v λy=>hard (decide (Jm E.L y=sz)) <|
    setBX ob.blk e y λblk=>k { v:=.d (.tup []),upd:=some (b,blk) }
  | _=>.fail
def zBp(E:Env)(t:TypeId)(dst:Nat)(l c:AV)(k:Eff->Tr):Tr :=
 jR (E.D t) λtd=>match td.k with
  | .slice e=>jR (E.D e) λed=>jR (asI l) λn=>jR (asI c) λm=>hard (decide (0<ed.size)) <|
   gd (decide (0<=n/\n=m/\ed.bytes * m<=281474976710656/\m<=9223372036854775807)) <|
    k { v:=.own dst 0 (Aa n.toNat ed.zero).length ed.size,new:=some (.dc ed.size (Aa n.toNat ed.zero)) }
  | _=>.fail
def zBw(E:Env)(t:TypeId)(x:AV)(i:Nat)(k:Eff->Tr):Tr :=
 jR (E.D t) λtd=>match td.k with
  | .struct tag=>match x with
   | .ptr b sz e p=>hard (decide (i<(E.L tag).length)) (k { v:=.ptr b sz e (p++[(tag,i)]) })
   | .d (.dp x)=>gd (jK tag i x) (k { v:=.d (.dp (nth (flds x) i)) })
   | _=>.fail
  | _=>.fail
def zBq(E:Env)(t:TypeId)(x ix:AV)(k:Eff->Tr):Tr :=
 jR (E.D t) λtd=>jR (asI ix) λi=>match td.k with
  | .slice e=>jR (E.D e) λed=>match x with
   | .d (.sl sz xs)=>hard (sz == ed.size) <| gd (decide (0<=i/\i<xs.length)) (k { v:=.d (.dp (nth xs i.toNat)) })
   | .own b off len sz=>hard (sz == ed.size) <| gd (decide (0<=i/\i<len)) (k { v:=.ptr b sz (off+i.toNat) [] })
   | _=>.fail
  | .array tag n _=>match x with
   | .ptr b sz e p=>gd (decide (0<=i/\i<n)) (k { v:=.ptr b sz e (p++[(tag,i.toNat)]) })
   | .d (.dp x)=>gd (decide (0<=i)) (gd (jK tag i.toNat x) (k { v:=.d (.dp (nth (flds x) i.toNat)) }))
   | _=>.fail
  | _=>.fail
def indexX(E:Env)(t:TypeId)(x ix:AV)(k:Eff->Tr):Tr :=
 jR (E.D t) λtd=>jR (asI ix) λi=>match td.k with
  | .array tag _ e=>jR (E.D e) λed=>gd (decide (0<=i)) <| match x with
   | .d x=>gd (jK tag i.toNat x) (shX E ed false e (.d (nth (flds x) i.toNat)) λv=>k { v })
   | .agg u fs=>hard (u == tag) (jR fs[i.toNat]? λv=>hard (fits ed v) (k { v }))
   | _=>.fail
  | .str=>match x with
   | .d (.str s)=>gd (decide (0<=i/\i<s.size)) (k { v:=.d (.int .u8 (s[i.toNat]?.getD 0).toNat) })
   | _=>.fail
  | _=>.fail
def zCM(d:Nat)(o:Option AV)(k:Nat->Tr):Tr :=
 match o with
 | none=>k d
 | some v=>jR (asI v) λi=>gd (decide (0<=i)) (k i.toNat)
def sliceX(E:Env)(t:TypeId)(x:AV)(lo hi mx:Option AV)(k:Eff->Tr):Tr :=
 jR (E.D t) λtd=>match mx with
 | some _=>.fail
 | none=>zCM 0 lo λl=>match td.k with
  | .str=>match x with
   | .d (.str s)=>zCM s.size hi λh=>gd (decide (l<=h/\h<=s.size)) (k { v:=.d (.str (s.extract l h)) })
   | _=>.fail
  | .slice e=>jR (E.D e) λed=>match x with
   | .d (.sl sz xs)=>hard (sz == ed.size) <| zCM xs.length hi λh=>gd (decide (l<=h/\h<=xs.length)) (k { v:=.d (.sl sz ((xs.take h).drop l)) })
   | .d .nl=>zCM 0 hi λh=>gd (decide (l=0/\h=0)) (k { v:=.d .nl })
   | .own b off len sz=>hard (sz == ed.size) <| zCM len hi λh=>gd (decide (l<=h/\h<=len)) (k { v:=.own b (off+l) (h - l) sz })
   | _=>.fail
  | _=>.fail
def mapX(hp:List (Option OB))(m:AV)(k:List DV->List DV->Tr):Tr :=
 match m with
 | .d (.mp ks vs)=>k ks vs
 | .d .nilMp=>k [] []
 | .omp b=>match slot hp b with
  | some ⟨_,.mp ks vs⟩=>k ks vs
  | _=>.fail
 | _=>.fail
def zHw(E:Env)(t:TypeId)(hp:List (Option OB))(m key:AV)(ok:Bool)(k:Eff->Tr):Tr :=
 jR (E.D t) λtd=>match td.k with
  | .map kt et=>jR (E.D kt) λkd=>jR (E.D et) λed=>match key with
   | .d x=>hard (jp kd x) <| mapX hp m λks vs =>
    gd (jh x ks vs).isSome <| .ifB (((jh x ks vs).getD none).isSome)
     (gd (zF E shD et (((jh x ks vs).getD none).getD .nl)) <|
      k { v:=.d (match ok with | true=>.tup [zH4 E shD et (((jh x ks vs).getD none).getD .nl),.bool true] | false=>zH4 E shD et (((jh x ks vs).getD none).getD .nl)) })
     (k { v:=.d (match ok with | true=>.tup [ed.zero,.bool false] | false=>ed.zero) })
   | _=>.fail
  | _=>.fail
def zAB(E:Env)(t:TypeId)(hp:List (Option OB))(m key v:AV)(k:Eff->Tr):Tr :=
 jR (E.D t) λtd=>match td.k with
  | .map kt et=>jR (E.D kt) λkd=>jR (E.D et) λed=>match m,key,v with
   | .omp b,.d x,.d v=>hard (jp kd x) <| hard (fits ed (.d v)) <| match slot hp b with
    | some ⟨false,.mp ks vs⟩=>gd (Y9 x v ks vs).isSome <| k { v:=.d (.tup []),upd:=some (b,.mp ((Y9 x v ks vs).getD ([],[])).1 ((Y9 x v ks vs).getD ([],[])).2) }
    | _=>.fail
   | _,_,_=>.fail
  | _=>.fail
def nextX(hp:List (Option OB))(isString:Bool)(v:AV)(k:Eff->Tr):Tr :=
 match v with
 | .it b=>hard isString <| match slot hp b with
  | some ⟨false,.sit s pos⟩=>.ifB (decide (pos<s.size))
    (k { v:=.d (.tup [.bool true,.int .i64 pos,.int .i32 (Bw s pos).1]),upd:=some (b,.sit s (pos+(Bw s pos).2)) })
    (k { v:=.d (.tup [.bool false]) })
  | _=>.fail
 | _=>.fail
def zBo(f:AV->(DV->Tr)->Tr):List AV->(List DV->Tr)->Tr
 | [],k=>k []
 | v :: r,k=>f v λx=>zBo f r λxs=>k (x :: xs)
def zAT(hp:List (Option OB)):Nat->AV->(DV->Tr)->Tr
 | 0,v,k=>match v with
  | .d x=>k x
  | _=>.fail
 | n+1,v,k=>match v with
  | .d x=>k x
  | .own b off len sz=>match slot hp b with
   | some ⟨_,.dc s xs⟩=>hard (s == sz) (gd (decide (off+len<=xs.length)) (k (.sl sz ((xs.drop off).take len))))
   | some ⟨_,.ac s xs⟩=>hard (s == sz && decide (off+len<=xs.length)) (zBo (zAT hp n) ((xs.drop off).take len) λds=>k (.sl sz ds))
   | _=>.fail
  | .ptr b sz e p=>jR (slot hp b) λob=>getBX ob.blk sz e λv=>zIR p v λx=>zAT hp n x λy=>hard (!y.isTup) (k (.dp y))
  | .omp b=>match slot hp b with
   | some ⟨_,.mp ks vs⟩=>k (.mp ks vs)
   | _=>.fail
  | .agg tag fs=>zBo (zAT hp n) fs λds=>k (.agg tag ds)
  | .fn f a c=>zBo (zAT hp n) a λx=>zBo (zAT hp n) c λy=>k (.fn f x y)
  | _=>.fail
def zIT(hp:List (Option OB))(sz:Nat)(v:AV)(k:List DV->List Nat->Tr):Tr :=
 match v with
 | .d .nl=>k [] []
 | .d (.sl s xs)=>hard (s == sz) (k xs [])
 | .own b off len s=>hard (s == sz) <| match slot hp b with
  | some ⟨_,.dc s' xs⟩=>hard (s' == sz) (gd (decide (off+len<=xs.length)) (k ((xs.drop off).take len) []))
  | some ⟨_,.ac s' xs⟩=>hard (s' == sz && decide (off+len<=xs.length)) (zBo (zAT hp zx) ((xs.drop off).take len) λds=>k ds (((xs.drop off).take len).flatMap (sites hp zx)))
  | _=>.fail
 | _=>.fail
def baseX(hp:List (Option OB))(sz:Nat)(v:AV)(k:List DV->Option Nat->Tr):Tr :=
 match v with
 | .d .nl=>k [] none
 | .own b off len s=>hard (s == sz && off == 0) <| match slot hp b with
  | some ⟨false,.dc s' xs⟩=>hard (s' == sz) (gd (decide (len=xs.length)) (k xs (some b)))
  | _=>.fail
 | _=>.fail
def zIA(E:Env)(ts:List TypeId)(dst:Nat)(hp:List (Option OB))(args:List AV)(k:Eff->Tr):Tr :=
 match args with
 | [s,x]=>match ts with
  | [t,u]=>hard (decide (t=u)) <| jR (E.D t) λtd=>match td.k with
   | .slice e=>jR (E.D e) λed=>hard (decide (0<ed.size/\0<ed.bytes)) <| baseX hp ed.size s λbs kil=>zIT hp ed.size x λel frz =>
    gd (decide ((2 * (bs.length+el.length)+200) * ed.bytes<=281474976710656)) <| match kil with
     | none=>.ifB el.isEmpty (k { v:=.d .nl }) (k { v:=.own dst 0 (bs++el).length ed.size,new:=some (.dc ed.size (bs++el)),frz })
     | some b=>k { v:=.own dst 0 (bs++el).length ed.size,new:=some (.dc ed.size (bs++el)),kil:=some b,frz }
   | _=>.fail
  | _=>.fail
 | _=>.fail
def copyX(E:Env)(ts:List TypeId)(hp:List (Option OB))(args:List AV)(k:Eff->Tr):Tr :=
 match args with
 | [s,x]=>match ts with
  | [t,_]=>jR (E.D t) λtd=>match td.k with
   | .slice e=>jR (E.D e) λed=>match s with
    | .own b off len sz=>hard (decide (sz=ed.size)) <| match slot hp b with
     | some ⟨false,.dc s' xs⟩=>hard (s' == sz) <| gd (decide (off+len<=xs.length)) <| zIT hp ed.size x λel frz =>
       k { v:=.d (.int .i64 (min el.length len:Nat)),upd:=some (b,.dc s' (xs.take off++el.take (min el.length len)++xs.drop (off+min el.length len))),frz }
     | _=>.fail
    | _=>.fail
   | _=>.fail
  | _=>.fail
 | _=>.fail
def resX(E:Env)(ts:List TypeId)(x:DV)(k:DV->Tr):Tr :=
 match ts with
 | [t]=>gd (zF E shD t x) (k (zH4 E shD t x))
 | ts=>gd (x.isTup && zV (zF E shD) ts (tups x)) (k (.tup (zDo (zH4 E shD) ts (tups x) 0)))
def eszR(E:Env)(fn:Func):Nat :=
 match fn.resultTypes.toList with
 | [t]=>match E.D t with
  | some td=>match td.k with
   | .slice e=>match E.D e with
    | some ed=>ed.size
    | none=>0
   | _=>0
  | none=>0
 | _=>0
def nodeX(E:Env)(dst:Nat)(o:Operand)(ty:TypeId)(f:FuncId)(ds:List DV)(ss:List Nat)(k:Eff->Tr):Tr :=
 match o with
 | .func g=>match E.F g with
  | some fn=>match E.fresh g with
   | true=>.call f (zy E f ds) (λx=>gd (zJc x) (k (deliver dst ss (.val .nl)))) λs xs=>gd (s == eszR E fn) (k (deliver dst ss (.fresh (eszR E fn) xs)))
   | false=>.call f (zy E f ds) (λx=>resX E fn.resultTypes.toList x λy=>k (deliver dst ss (.val y))) λ_ _=>.fail
  | none=>.fail
 | _=>.call f (zy E f ds) (λx=>resX E [ty] x λy=>k (deliver dst ss (.val y))) λ_ _=>.fail
def callX1(E:Env)(dst:Nat)(hp:List (Option OB))(o:Operand)(ty:TypeId)(f:AV)(args:List AV)(k:Eff->Tr):Tr :=
 match f with
 | .d (.fn g a c)=>zBo (zAT hp zx) args λds=>nodeX E dst o ty g (a++ds++c) (ja hp args) k
 | .fn g a c=>zBo (zAT hp zx) (a++args++c) λds=>nodeX E dst o ty g ds (ja hp (a++args++c)) k
 | _=>.fail
def opX(E:Env)(X:XC)(F:XF)(o:Oper)(tm:List AV)(hp:List (Option OB))(k:Eff->Tr):Tr :=
 match o.op with
 | .pick c a b=>jR (evO E tm c) λc=>jR (asB c) λc=>.ifB c (jR (evO E tm a) λv=>k { v }) (jR (evO E tm b) λv=>k { v })
 | .binOp op t x y _=>jR (evO E tm x) λa=>jR (evO E tm y) λb=>match a with
  | .d a=>match b with
   | .d b=>hard (zEZ x y a b) (binX E op t a b λr=>k { v:=.d r })
   | _=>.fail
  | _=>.fail
 | .load t a=>jR (evO E tm a) λp=>loadX E X F t hp p k
 | .store t a x=>jR (evO E tm a) λp=>jR (evO E tm x) λv=>storeX E t hp p v k
 | .makeSlice t l c=>jR (evO E tm l) λl=>jR (evO E tm c) λc=>zBp E t (zg o) l c k
 | .slice t x lo hi mx=>jR (evO E tm x) λx=>jR (QU E tm lo) λlo=>jR (QU E tm hi) λhi=>jR (QU E tm mx) λmx=>sliceX E t x lo hi mx k
 | .fieldAddr t x i=>jR (evO E tm x) λx=>zBw E t x i k
 | .indexAddr t x i=>jR (evO E tm x) λx=>jR (evO E tm i) λi=>zBq E t x i k
 | .index t x i=>jR (evO E tm x) λx=>jR (evO E tm i) λi=>indexX E t x i k
 | .lookup t m key ok=>jR (evO E tm m) λm=>jR (evO E tm key) λkey=>zHw E t hp m key ok k
 | .mapUpdate t m key x=>jR (evO E tm m) λm=>jR (evO E tm key) λkey=>jR (evO E tm x) λx=>zAB E t hp m key x k
 | .insert t m key x=>jR (evO E tm m) λm=>jR (evO E tm key) λkey=>jR (evO E tm x) λx=>zAB E t hp m key x k
 | .next i s=>jR (evO E tm i) λi=>nextX hp s i k
 | .call c=>match c.callee with
  | .value f=>jR (evL E tm c.args.toList) λargs=>jR (evO E tm f) λv=>callX1 E (zg o) hp f o.type v args k
  | .builtin .append=>jR (evL E tm c.args.toList) λargs=>zIA E c.argTypes.toList (zg o) hp args k
  | .builtin .copy=>jR (evL E tm c.args.toList) λargs=>copyX E c.argTypes.toList hp args k
  | _=>jR (jj E (λ_ _=>none) o.op (zg o) tm hp) k
 | _=>jR (jj E (λ_ _=>none) o.op (zg o) tm hp) k
def frcV(v:AV)(k:AV->Tr):Tr :=
 match v with
 | .d x=>k (.d x)
 | .undef=>k .undef
 | .own b off len sz=>k (.own b off len sz)
 | .ptr b sz e p=>k (.ptr b sz e p)
 | .omp b=>k (.omp b)
 | .it b=>k (.it b)
 | .agg t fs=>k (.agg t fs)
 | .fn f a c=>k (.fn f a c)
def frcL:List AV->(List AV->Tr)->Tr
 | [],k=>k []
 | v :: r,k=>frcV v λv=>frcL r λr=>k (v :: r)
def frcB(b:Blk)(k:Blk->Tr):Tr :=
 match b with
 | .dc s xs=>k (.dc s xs)
 | .ac s xs=>frcL xs λxs=>k (.ac s xs)
 | .mp ks vs=>k (.mp ks vs)
 | .sit s p=>k (.sit s p)
def frcZ(z:Bool)(k:Bool->Tr):Tr:=match z with | true=>k true | false=>k false
def frcH:List (Option OB)->(List (Option OB)->Tr)->Tr
 | [],k=>k []
 | o :: r,k=>match o with
  | none=>frcH r λr=>k (none :: r)
  | some ⟨z,b⟩=>frcZ z λz=>frcB b λb=>frcH r λr=>k (some ⟨z,b⟩ :: r)
def frc(st:St)(k:St->Tr):Tr:=frcL st.tm λtm=>frcH st.hp λhp=>k ⟨tm,hp⟩
def setK:List AV->Nat->AV->(List AV->Tr)->Tr
 | [],_,_,k=>k []
 | _ :: r,0,v,k=>frcV v λv=>k (v :: r)
 | x :: r,n+1,v,k=>setK r n v λr=>k (x :: r)
def putK'(tm:List AV)(dst:Option Tmp)(v:AV)(k:List AV->Tr):Tr :=
 match dst with
 | some t=>setK tm t v k
 | none=>k tm
def Eff.quiet(ef:Eff):Bool :=
 (match ef.new with | none=>true | some _=>false) && (match ef.upd with | none=>true | some _=>false) && (match ef.kil with | none=>true | some _=>false) && (match ef.frz with | []=>true | _=>false)
def zIQ(ops:List Oper)(o:Oper)(tm:List AV)(k:Bool->List AV->Tr):Tr :=
 match o.guard with
 | none=>k true tm
 | some (j,want)=>match ops[j]? with
  | some g=>match g.dst with
   | some t=>match tm[t]? with
    | some (.d (.bool b))=>.ifB b (match want with | true=>k true (tm.set t (.d (.bool true))) | false=>k false (tm.set t (.d (.bool true))))
      (match want with | true=>k false (tm.set t (.d (.bool false))) | false=>k true (tm.set t (.d (.bool false))))
    | some (.d (.tup []))=>k false tm
    | _=>.fail
   | none=>.fail
  | none=>.fail
def zIE(E:Env)(X:XC)(F:XF)(o:Oper)(st:St)(k:St->Tr):Tr :=
 opX E X F o st.tm st.hp λef=>match ef.quiet with
 | true=>putK' st.tm o.dst ef.v λtm=>k ⟨tm,st.hp⟩
 | false=>hard ef.ok <|
  match ef.new with
  | none=>frc (zq ef o.dst (zg o) st) k
  | some b=>hard (o.dst.isSome && zn (zg o) b) (frc (zq ef o.dst (zg o) (clear (zg o) st)) k)
def stepFX(E:Env)(X:XC)(F:XF)(loud:Bool)(may:Option Nat)(o:Oper)(st:St)(k:St->Tr):Tr :=
 opX E X F o st.tm st.hp λef=>match ef.quiet with
 | true=>putK' st.tm o.dst ef.v λtm=>k ⟨tm,st.hp⟩
 | false=>hard (ef.ok && (loud || (ef.upd.isNone && (ef.kil.isNone || ef.kil == may)))) <|
  match ef.new with
  | none=>frc (zq ef o.dst (zg o) st) k
  | some b=>hard (o.dst.isSome && zn (zg o) b && (slot st.hp (zg o)).isNone) (frc (zq ef o.dst (zg o) st) k)
def zCi(E:Env)(X:XC)(F:XF)(ops:List Oper):List Oper->St->(St->Tr)->Tr
 | [],st,K=>K st
 | o :: r,st,K=>zIQ ops o st.tm λg tm=>match g with
  | true=>zIE E X F o { st with tm } λst'=>zCi E X F ops r st' K
  | false=>zCi E X F ops r { st with tm:=j5 tm o.dst (.d (.tup [])) } K
def Qi(E:Env)(X:XC)(F:XF)(ops:List Oper):List (Oper×Bool)->St->(St->Tr)->Tr
 | [],st,K=>K st
 | (o,pv) :: r,st,K=>zIQ ops o st.tm λg tm=>match g with
  | true=>match pv with
   | true=>zIE E X F o { st with tm } λst'=>Qi E X F ops r st' K
   | false=>stepFX E X F (cls ops o.op).loud (qn ops o.op) o { st with tm } λst'=>Qi E X F ops r st' K
  | false=>Qi E X F ops r { st with tm:=j5 tm o.dst (.d (.tup [])) } K
def zBk(E:Env)(X:XC)(F:XF)(ops:List Oper)(draw:Bool)(st:St)(K:St->Tr):Tr :=
 match draw with
 | false=>zCi E X F ops ops st K
 | true=>hard (zIJ ops) (frc (clearL (anews ops) st) λst=>Qi E X F ops (ops.zipIdx.map λ(o,i)=>(o,pivot ops i)) st K)
def zBi(f:St->Tr)(K:Ex->St->Tr):Ex->St->Tr
 | .normal,st=>f st
 | e,st=>K e st
def zIV(id:Nat)(K:Ex->St->Tr):Ex->St->Tr
 | .exit i,st=>match i == id with | true=>K .normal st | false=>K (.exit i) st
 | e,st=>K e st
def z7:Code->Nat
 | .seq a b=>z7 a+z7 b
 | .cond _ a b=>z7 a+z7 b
 | .block _ c=>z7 c
 | .scope c=>z7 c
 | .loop c=>z7 c+1
 | _=>0
def j8:Code->Nat
 | .seq a b=>j8 a+j8 b+1
 | .cond _ a b=>j8 a+j8 b
 | .block _ c=>j8 c
 | .scope c=>j8 c
 | .loop c=>j8 c
 | _=>0
def reach(hp:List (Option OB)):Nat->AV->List Nat
 | 0,_=>[]
 | n+1,v=>match v with
  | .own b _ _ _=>b :: (match slot hp b with | some ⟨_,.ac _ xs⟩=>xs.flatMap (reach hp n) | _=>[])
  | .ptr b _ _ _=>b :: (match slot hp b with | some ⟨_,.ac _ xs⟩=>xs.flatMap (reach hp n) | _=>[])
  | .omp b=>[b]
  | .it b=>[b]
  | .agg _ fs=>fs.flatMap (reach hp n)
  | .fn _ a c=>a.flatMap (reach hp n)++c.flatMap (reach hp n)
  | _=>[]
def zEW(live:List Nat):Nat->List AV->List AV
 | _,[]=>[]
 | i,v :: r=>(match live.contains i with | true=>v | false=>.undef) :: zEW live (i+1) r
def zIP(ss:List Nat):Nat->List (Option OB)->List (Option OB)
 | _,[]=>[]
 | b,o :: r=>(match ss.contains b with | true=>o | false=>none) :: zIP ss (b+1) r
def forget(live:List Nat)(st:St):St :=
 { tm:=zEW live 0 st.tm,hp:=zIP ((zEW live 0 st.tm).flatMap (reach st.hp zx)) 0 st.hp }
def setTm(st:St)(o:Operand)(b:Bool):St :=
 match o with
 | .tmp t=>{ st with tm:=st.tm.set t (.d (.bool b)) }
 | _=>st
def J0(E:Env)(X:XC)(F:XF):Code->Nat->Nat->St->(Ex->St->Tr)->Tr
 | .skip,_,_,st,K=>K .normal st
 | .label _,_,_,st,K=>K .normal st
 | .region _ ops draw,_,_,st,K=>zBk E X F ops.toList draw st (K .normal)
 | .seq a b,n,q,st,K=>match F.cuts.lookup q with
  | none=>J0 E X F a n (q+1) st (zBi (λst'=>J0 E X F b (n+z7 a) (q+1+j8 a) st' K) K)
  | some live=>J0 E X F a n (q+1) st (zBi (λst'=>frc (forget live st') (.goto (1000+q))) K)
 | .cond c a b,n,q,st,K=>jR (evO E st.tm c) λv=>jR (asB v) λt =>
   .ifB t (J0 E X F a n q (setTm st c true) K) (J0 E X F b (n+z7 a) (q+j8 a) (setTm st c false) K)
 | .block id c,n,q,st,K=>J0 E X F c n q st (zIV id K)
 | .scope c,n,q,st,K=>J0 E X F c n q st K
 | .loop _,n,_,st,_=>frc (forget (F.live.getD n []) st) (.goto n)
 | .exit id,_,_,st,K=>K (.exit id) st
 | .ret,_,_,st,K=>K .ret st
 | _,_,_,_,_=>.fail
def inA(j n q:Nat):Bool:=match decide (j<1000) with | true=>decide (j<n) | false=>decide (j<1000+q)
def Jj(E:Env)(X:XC)(F:XF)(j:Nat):Code->Nat->Nat->(Ex->St->Tr)->St->Tr
 | .seq a b,n,q,K,st=>match decide (j=1000+q) with
  | true=>J0 E X F b (n+z7 a) (q+1+j8 a) st K
  | false=>match inA j (n+z7 a) (q+1+j8 a) with
   | true=>match F.cuts.lookup q with
    | none=>Jj E X F j a n (q+1) (zBi (λst'=>J0 E X F b (n+z7 a) (q+1+j8 a) st' K) K) st
    | some live=>Jj E X F j a n (q+1) (zBi (λst'=>frc (forget live st') (.goto (1000+q))) K) st
   | false=>Jj E X F j b (n+z7 a) (q+1+j8 a) K st
 | .cond _ a b,n,q,K,st=>match inA j (n+z7 a) (q+j8 a) with
  | true=>Jj E X F j a n q K st
  | false=>Jj E X F j b (n+z7 a) (q+j8 a) K st
 | .block id c,n,q,K,st=>Jj E X F j c n q (zIV id K) st
 | .scope c,n,q,K,st=>Jj E X F j c n q K st
 | .loop c,n,q,K,st=>match decide (j=n) with
  | true=>J0 E X F c (n+1) q st (zBi (λst'=>frc (forget (F.live.getD n []) st') (.goto n)) K)
  | false=>Jj E X F j c (n+1) q (zBi (λst'=>frc (forget (F.live.getD n []) st') (.goto n)) K) st
 | _,_,_,_,_=>.fail
def freshX(st:St)(v:AV):Tr :=
 match v with
 | .d .nl=>.ret (.val .nl)
 | .own b off len sz=>match slot st.hp b with
  | some ⟨false,.dc s xs⟩=>hard (s == sz && off == 0) (gd (decide (len=xs.length)) (.ret (.fresh sz xs)))
  | _=>.fail
 | _=>.fail
def finX(E:Env)(fresh:Bool)(fn:Func)(st:St):Tr :=
 jR (zDl E st fn.results.toList) λvs=>match vs with
  | [v]=>match fresh with
   | true=>freshX st v
   | false=>zAT st.hp zx v λx=>hard (!x.isTup) (.ret (.val (cnRes E fn x)))
  | vs=>zBo (zAT st.hp zx) vs λxs=>hard (!fresh && zIK xs) (.ret (.val (cnRes E fn (.tup xs))))
def zHE(E:Env)(fresh:Bool)(fn:Func):Ex->St->Tr
 | .exit _,_=>.fail
 | _,st=>finX E fresh fn st
def zHy:DV->Bool | .dp _=>true | _=>false
def zGS(E:Env)(F:XF)(fn:Func)(args:List DV)(k:St->Tr):Tr :=
 match F.caps with
 | 0=>gd (zV (zF E shD) fn.params.toList args)
   (k { tm:=(zDo (zH4 E shD) fn.params.toList args 0).map .d++Aa (fn.ntmps - fn.params.toList.length) .undef,hp:=Aa fn.ntmps none })
 | c+1=>gd (zV (zF E shD) fn.params.toList (args.take fn.params.toList.length) && decide ((args.drop fn.params.toList.length).length=c+1) && (args.drop fn.params.toList.length).all zHy)
   (k { tm:=(zDo (zH4 E shD) fn.params.toList (args.take fn.params.toList.length) 0++(args.drop fn.params.toList.length).map λx=>DV.dp (undp x)).map .d++Aa (fn.ntmps - (fn.params.toList.length+(c+1))) .undef,hp:=Aa fn.ntmps none })
def funX(E:Env)(X:XC)(f:FuncId)(fn:Func)(c:Code)(args:List DV):Tr :=
 hard (decide (fn.params.toList.length+(X.fx f).caps<=fn.ntmps) && decide (z7 c<=1000)) (zGS E (X.fx f) fn args λst=>J0 E X (X.fx f) c 0 0 st (zHE E (E.fresh f) fn))
def zEU(E:Env)(X:XC)(f:FuncId)(fn:Func)(c:Code)(j:Nat)(st:St):Tr :=
 Jj E X (X.fx f) j c 0 0 (zHE E (E.fresh f) fn) st
def goX(call:FuncId->List DV->Option CR)(head:Nat->St->Tr):Nat->Nat->St->Option CR
 | 0,_,_=>none
 | n+1,j,st=>run call (goX call head n) (head j st)
end Go.Am
namespace Go.Am
open Go.Proofs
open Go
section
variable{E:Env}{call:FuncId->List DV->Option CR}{go:Nat->St->Option CR}{r:CR}
theorem jD{b:Bool}{t:Tr}(h:run call go (gd b t)=some r):b=true/\run call go t=some r:=by
 cases b
 ·simp[gd,run,ifO] at h
 ·exact⟨rfl,by simpa[gd,run,ifO] using h⟩
theorem zm{b:Bool}{t:Tr}(h:run call go (hard b t)=some r):b=true/\run call go t=some r:=by
 cases b
 ·simp[hard,run] at h
 ·exact⟨rfl,h⟩
theorem ze{α:Type}{o:Option α}{k:α->Tr}(h:run call go (jR o k)=some r):∃a,o=some a/\run call go (k a)=some r:=by
 cases o
 ·simp[jR,run] at h
 ·exact⟨_,rfl,h⟩
theorem Qf{b:Bool}{t e:Tr}(h:run call go (.ifB b t e)=some r):(b=true/\run call go t=some r)\/(b=false/\run call go e=some r):=by
 cases b
 ·exact .inr ⟨rfl,by simpa[run,ifO] using h⟩
 ·exact .inl ⟨rfl,by simpa[run,ifO] using h⟩
theorem zj{P:Prop}(h:run call go .fail=some r):P:=by simp[run] at h
theorem Qg{f:FuncId}{a:List DV}{kv:DV->Tr}{kf:Nat->List DV->Tr}(h:run call go (.call f a kv kf)=some r) :
  (∃x,call f a=some (.val x)/\run call go (kv x)=some r)\/(∃s xs,call f a=some (.fresh s xs)/\run call go (kf s xs)=some r):=by
 simp only[run,zH] at h;split at h
 ·rename_i x hx;exact .inl ⟨x,hx,h⟩
 ·rename_i s xs hx;exact .inr ⟨s,xs,hx,h⟩
 ·cases h
theorem zGN{xs:List DV}{i:Nat}(h:i<xs.length):xs[i]? = some (nth xs i):=by unfold nth;rw[Ac h]
theorem zJj{f:TypeId->DV->Bool}{g:TypeId->DV->DV}(hfg:∀t x,f t x=true->g t x=x):∀(ts:List TypeId) (xs pre:List DV),zV f ts xs=true->zDo g ts (pre++xs) pre.length=xs
 | [],[],pre,h=>rfl
 | t :: ts,x :: xs,pre,h=>by
  simp only[zV,Ab] at h;have e:nth (pre++x :: xs) pre.length=x:=by simp[nth]
  have:=zJj hfg ts xs (pre++[x]) h.2;simp only[AM,List.singleton_append,Bg,List.length_singleton] at this;simp only[zDo,e,hfg t x h.1,this]
 | [],_ :: _,_,h=>by simp[zV] at h
 | _ :: _,[],_,h=>by simp[zV] at h
theorem zAH{f:TypeId->DV->Bool}{g:TypeId->DV->DV}(hfg:∀t x,f t x=true->g t x=x){ts:List TypeId}{xs:List DV}(h:zV f ts xs=true):zDo g ts xs 0=xs :=
 zJj hfg ts xs [] h
theorem zC7{f:TypeId->DV->Bool}:∀{ts:List TypeId} {xs:List DV},zV f ts xs=true->xs.length=ts.length
 | [],[],_=>rfl
 | t :: ts,x :: xs,h=>by
  simp only[zV,Ab] at h;simp[zC7 h.2]
 | [],_ :: _,h=>by simp[zV] at h
 | _ :: _,[],h=>by simp[zV] at h
theorem zAL:∀(n:Nat) (t:TypeId) (x:DV),zF E n t x=true->zH4 E n t x=x
 | 0,t,x,h=>by simp[zF] at h
 | n+1,t,x,h=>by
  simp only[zF] at h;simp only[zH4];cases hd:E.D t with
  | none=>simp[hd] at h
  | some td =>
   rw[hd] at h;simp only at h ⊢;cases hk:td.k <;> rw[hk] at h <;> simp only at h ⊢
   case int k=>cases x <;> simp only[beq_iff_eq] at h <;> first | cases h;done | (subst h;rfl)
   case bool=>cases x <;> simp only at h <;> first | cases h;done | rfl
   case str=>cases x <;> simp only at h <;> first | cases h;done | rfl
   case ptr=>cases x <;> simp only at h <;> first | cases h;done | rfl
   case slice e =>
    cases he:E.D e with
    | none=>simp[he] at h
    | some ed =>
     rw[he] at h;simp only at h ⊢;cases x <;> simp only[beq_iff_eq] at h <;> first | cases h;done | (subst h;rfl)
   case map=>cases x <;> simp only at h <;> first | cases h;done | rfl
   case struct tag =>
    cases x <;> simp only[Ab,beq_iff_eq] at h <;> first | cases h;done | skip
    obtain⟨h1,h2⟩:=h;subst h1;simp only[flds];rw[zAH (λt x=>zAL n t x) h2]
   case array tag m e =>
    cases x <;> simp only[Ab,beq_iff_eq] at h <;> first | cases h;done | skip
    obtain⟨h1,h2⟩:=h;subst h1;rfl
   case func=>cases x <;> simp only at h <;> first | cases h;done | rfl
theorem has_fits{n:Nat}{t:TypeId}{x:DV}{td:TD}(h:zF E n t x=true)(hd:E.D t=some td):fits td (.d x)=true/\x.isTup=false:=by
 cases n with
 | zero=>simp[zF] at h
 | succ n =>
  simp only[zF,hd] at h;cases hk:td.k <;> rw[hk] at h <;> simp only at h <;> simp only[fits,hk]
  case slice e =>
   cases he:E.D e with
   | none=>simp[he] at h
   | some ed=>rw[he] at h;cases x <;> first | exact⟨rfl,rfl⟩ | simp at h
  case struct tag=>cases x <;> first | (simp only[Ab] at h;exact⟨h.1,rfl⟩) | simp at h
  case array tag m e=>cases x <;> first | (simp only[Ab] at h;exact⟨h.1,rfl⟩) | simp at h
  all_goals cases x <;> first | exact⟨rfl,rfl⟩ | simp at h
theorem zC9{blk:Blk}{sz e:Nat}{k:AV->Tr}(h:run call go (getBX blk sz e k)=some r):∃v,blk.get sz e=some v/\run call go (k v)=some r:=by
 unfold getBX at h;split at h
 ·obtain⟨h1,h⟩:=zm h;obtain⟨h2,h⟩:=jD h;simp only[beq_iff_eq] at h1;simp only[decide_eq_true_eq] at h2;exact⟨_,by simp only[Blk.get,h1,if_true,zGN h2],h⟩
 ·obtain⟨h1,h⟩:=zm h;obtain⟨v,h2,h⟩:=ze h;simp only[beq_iff_eq] at h1;exact⟨v,by simp only[Blk.get,h1,if_true,h2],h⟩
 ·exact zj h
theorem zCZ{tag i:Nat}{x:DV}(h:jK tag i x=true):∃fs,x=.agg tag fs/\i<fs.length:=by
 cases x <;> simp only[jK] at h <;> first | cases h;done | skip
 simp only[Ab,beq_iff_eq,decide_eq_true_eq] at h;obtain⟨h1,h2⟩:=h;subst h1;exact⟨_,rfl,h2⟩
theorem zC8{tag i:Nat}{x:DV}(h:jK tag i x=true):zBt tag i (.d x)=some (.d (nth (flds x) i)):=by obtain⟨fs,rfl,h2⟩:=zCZ h;simp only[zBt,if_true,flds,zGN h2]
theorem zA8:∀{p:List (Nat×Nat)} {v:AV} {k:AV->Tr},run call go (zIR p v k)=some r->∃x,zDe p v=some x/\run call go (k x)=some r
 | [],v,k,h=>⟨v,rfl,h⟩
 | (tag,i) :: p,v,k,h=>by
  simp only[zIR] at h;split at h
  ·obtain⟨h1,h⟩:=jD h;obtain⟨x,h2,h⟩:=zA8 h;exact⟨x,by simp only[zDe,zC8 h1,h2],h⟩
  ·obtain⟨h1,h⟩:=zm h;obtain⟨v,h2,h⟩:=ze h;obtain⟨x,h3,h⟩:=zA8 h;simp only[beq_iff_eq] at h1;exact⟨x,by simp only[zDe,zBt,h1,if_true,h2,h3],h⟩
  ·exact zj h
theorem szX_run{l:List Nat}{i n:Nat}{t:Tr}(h:run call go (szX l i n t)=some r):n=l.getD i 0/\run call go t=some r:=by
 unfold szX at h;split at h
 ·rename_i hu;obtain⟨h1,h⟩:=jD h;simp only[decide_eq_true_eq] at h1;simp only[unif,Ab,Au] at hu;have:=Nat.eq_of_beq_eq_true (hu.2 _ (AP h1));refine⟨?_,h⟩;rw[List.getD_eq_getElem?_getD,Ac h1];exact this.symm
 ·obtain⟨h1,h⟩:=zm h;exact⟨of_decide_eq_true h1,h⟩
theorem zC0{L:Nat->List Nat}:∀{p:List (Nat×Nat)} {new v:AV} {k:AV->Tr},run call go (setPX L p new v k)=some r->∃y,zGu L p new v=some y/\run call go (k y)=some r
 | [],new,v,k,h=>⟨new,rfl,h⟩
 | (tag,i) :: p,new,v,k,h=>by
  simp only[setPX] at h;split at h
  ·rename_i x;obtain⟨h1,h⟩:=jD h;have hg:=zC8 h1;obtain⟨fs,rfl,e2⟩:=zCZ h1;obtain⟨y,h2,h⟩:=zC0 h;obtain⟨h3,h⟩:=szX_run h;have fin:∀{z:AV},setF tag i y (.d (.agg tag fs))=some z->run call go (k z)=some r->∃y,zGu L ((tag,i) :: p) new (.d (.agg tag fs))=some y/\run call go (k y)=some r:=λhz hk =>
    ⟨_,by simp only[zGu,hg,h2,h3,if_true,hz],hk⟩
   cases y <;> exact fin (by simp only[setF,if_true,e2,flds]) h
  ·rename_i t fs;obtain⟨h1,h⟩:=zm h;obtain⟨x,h2,h⟩:=ze h;obtain⟨y,h3,h⟩:=zC0 h;obtain⟨h4,h⟩:=zm h;obtain⟨z,h5,h6⟩:=ze h;simp only[beq_iff_eq] at h1;subst h1;simp only[decide_eq_true_eq] at h4;exact⟨z,by simp only[zGu,zBt,if_true,h2,h3,h4,h5],h6⟩
  ·exact zj h
theorem setBX_run{blk:Blk}{sz e:Nat}{v v0:AV}(hg:blk.get sz e=some v0){k:Blk->Tr}(h:run call go (setBX blk e v k)=some r):∃b,blk.set sz e v=some b/\run call go (k b)=some r:=by
 cases blk with
 | dc s xs =>
  simp only[Blk.get] at hg;split at hg
  case isFalse=>cases hg
  rename_i hs;have hlt:e<xs.length:=by
   split at hg
   ·rename_i x hx;exact(Ad.1 hx).1
   ·cases hg
  simp only[setBX] at h;cases v <;> exact⟨_,by simp only[Blk.set,hs,if_true,hlt] <;> rfl,h⟩
 | ac s xs =>
  simp only[Blk.get] at hg;split at hg
  case isFalse=>cases hg
  rename_i hs;have hlt:e<xs.length:=(Ad.1 hg).1;simp only[setBX] at h;exact⟨_,by simp only[Blk.set,hs,if_true,hlt] <;> rfl,h⟩
 | mp _ _=>simp[Blk.get] at hg
 | sit _ _=>simp[Blk.get] at hg
theorem zHq{td:TD}{asis:Bool}{t:TypeId}{v:AV}(hd:E.D t=some td){k:AV->Tr}(h:run call go (shX E td asis t v k)=some r):fits td v=true/\run call go (k v)=some r:=by
 unfold shX at h;split at h
 ·exact zm h
 ·split at h
  ·obtain⟨h1,h⟩:=jD h;rw[zAL _ _ _ h1] at h;exact⟨(has_fits h1 hd).1,h⟩
  ·exact zm h
theorem loadX_run{X:XC}{F:XF}{t:TypeId}{hp:List (Option OB)}{a:AV}{k:Eff->Tr}(h:run call go (loadX E X F t hp a k)=some r):∃ef,Yg E t hp a=some ef/\run call go (k ef)=some r:=by
 unfold loadX at h;obtain⟨td,hd,h⟩:=ze h;split at h
 ·obtain⟨h1,h⟩:=zHq hd h;exact⟨_,by simp only[Yg,hd,zL,h1,zc] <;> rfl,h⟩
 ·obtain⟨ob,h1,h⟩:=ze h;obtain⟨v,h2,h⟩:=zC9 h;obtain⟨x,h3,h⟩:=zA8 h;obtain⟨h4,h⟩:=zHq hd h;exact⟨_,by simp only[Yg,hd,zL,h1,h2,h3,h4,zc] <;> rfl,h⟩
 ·exact zj h
theorem storeX_run{t:TypeId}{hp:List (Option OB)}{a x:AV}{k:Eff->Tr}(h:run call go (storeX E t hp a x k)=some r):∃ef,Y5 E t hp a x=some ef/\run call go (k ef)=some r:=by
 unfold storeX at h;obtain⟨td,hd,h⟩:=ze h;split at h
 ·obtain⟨ob,h1,h⟩:=ze h;obtain⟨h2,h⟩:=zm h;obtain⟨h3,h⟩:=zm h;obtain⟨v,h4,h⟩:=zC9 h;obtain⟨y,h5,h⟩:=zC0 h;obtain⟨h6,h⟩:=zm h;obtain⟨b,h7,h⟩:=setBX_run h4 h;exact⟨_,by simp only[Y5,hd,zL,h1,h2,h3,h4,h5,h6,h7,zc],h⟩
 ·exact zj h
theorem zD4{t:TypeId}{dst:Nat}{l c:AV}{k:Eff->Tr}(h:run call go (zBp E t dst l c k)=some r):∃ef,Jq E t dst l c=some ef/\run call go (k ef)=some r:=by
 unfold zBp at h;obtain⟨td,hd,h⟩:=ze h;split at h
 ·rename_i e hk;obtain⟨ed,he,h⟩:=ze h;obtain⟨n,hn,h⟩:=ze h;obtain⟨m,hm,h⟩:=ze h;obtain⟨h1,h⟩:=zm h;obtain⟨h2,h⟩:=jD h;simp only[List.length_replicate] at h;simp only[decide_eq_true_eq] at h1 h2;exact⟨_,by simp only[Jq,hd,zL,hk,he,hn,hm,decide_eq_true (AR h1 h2),zc],h⟩
 ·exact zj h
theorem zD8{t:TypeId}{x:AV}{i:Nat}{k:Eff->Tr}(h:run call go (zBw E t x i k)=some r):∃ef,jy E t x i=some ef/\run call go (k ef)=some r:=by
 unfold zBw at h;obtain⟨td,hd,h⟩:=ze h;split at h
 ·rename_i tag hk;split at h
  ·obtain⟨h1,h⟩:=zm h;exact⟨_,by simp only[jy,hd,zL,hk,h1,zc] <;> rfl,h⟩
  ·obtain⟨h1,h⟩:=jD h;obtain⟨fs,rfl,e2⟩:=zCZ h1;exact⟨_,by simp only[jy,hd,zL,hk,if_true,zGN e2,flds] <;> rfl,h⟩
  ·exact zj h
 ·exact zj h
theorem zD6{t:TypeId}{x ix:AV}{k:Eff->Tr}(h:run call go (zBq E t x ix k)=some r):∃ef,jb E t x ix=some ef/\run call go (k ef)=some r:=by
 unfold zBq at h;obtain⟨td,hd,k1⟩:=ze h;obtain⟨i,hi,k2⟩:=ze k1;clear h k1;split at k2
 ·rename_i e hk;obtain⟨ed,he,h⟩:=ze k2;clear k2;split at h
  ·rename_i sz xs;obtain⟨h1,h⟩:=zm h;obtain⟨h2,h⟩:=jD h;simp only[beq_iff_eq] at h1;simp only[decide_eq_true_eq] at h2;have hlt:i.toNat<xs.length:=by omega
   refine⟨_,?_,h⟩;simp only[jb,hd,zL,hi,hk,he,decide_eq_true (AR h1 h2.1),zc,zGN hlt] <;> rfl
  ·obtain⟨h1,h⟩:=zm h;obtain⟨h2,h⟩:=jD h;simp only[beq_iff_eq] at h1;simp only[decide_eq_true_eq] at h2;exact⟨_,by simp only[jb,hd,zL,hi,hk,he,decide_eq_true (AR h1 h2),zc] <;> rfl,h⟩
  ·exact zj h
 ·rename_i tag n e hk;have h:=k2;clear k2;split at h
  ·obtain⟨h2,h⟩:=jD h;exact⟨_,by simp only[jb,hd,zL,hi,hk,h2,zc] <;> rfl,h⟩
  ·obtain⟨h2,h⟩:=jD h;obtain⟨h1,h⟩:=jD h;obtain⟨fs,rfl,e2⟩:=zCZ h1;exact⟨_,by simp only[jb,hd,zL,hi,hk,if_true,h2,zc,zGN e2,flds] <;> rfl,h⟩
  ·exact zj h
 ·exact zj k2
theorem indexX_run{t:TypeId}{x ix:AV}{k:Eff->Tr}(h:run call go (indexX E t x ix k)=some r):∃ef,qJ E t x ix=some ef/\run call go (k ef)=some r:=by
 unfold indexX at h;obtain⟨td,hd,k1⟩:=ze h;obtain⟨i,hi,k2⟩:=ze k1;clear h k1;split at k2
 ·rename_i tag n e hk;obtain⟨ed,he,h⟩:=ze k2;obtain⟨h0,h⟩:=jD h;split at h
  ·obtain⟨h1,h⟩:=jD h;obtain⟨h2,h⟩:=zHq he h;exact⟨_,by simp only[qJ,hd,zL,hi,hk,he,h0,zc,zC8 h1,h2] <;> rfl,h⟩
  ·obtain⟨h1,h⟩:=zm h;obtain⟨v,h2,h⟩:=ze h;obtain⟨h3,h⟩:=zm h;simp only[beq_iff_eq] at h1;exact⟨_,by simp only[qJ,hd,zL,hi,hk,he,h0,zc,zBt,h1,if_true,h2,h3] <;> rfl,h⟩
  ·exact zj h
 ·rename_i hk;have h:=k2;clear k2;split at h
  ·rename_i s;obtain⟨h1,h⟩:=jD h;simp only[decide_eq_true_eq] at h1;have hlt:i.toNat<s.size:=by omega
   refine⟨_,?_,h⟩;have e:s[i.toNat]? = some (s[i.toNat]?.getD 0):=by rw[getElem?_pos s i.toNat hlt];rfl
   simp only[qJ,hd,zL,hi,hk,decide_eq_true h1.1,zc];rw[e];rfl
  ·exact zj h
 ·exact zj k2
theorem qX{d:Nat}{o:Option AV}{k:Nat->Tr}(h:run call go (zCM d o k)=some r):∃n,bound? d o=some n/\run call go (k n)=some r:=by
 unfold zCM at h;split at h
 ·exact⟨d,rfl,h⟩
 ·obtain⟨i,hi,h⟩:=ze h;obtain⟨h1,h⟩:=jD h;exact⟨i.toNat,by simp only[bound?,hi,zL,h1,zc],h⟩
theorem sliceX_run{t:TypeId}{x:AV}{lo hi mx:Option AV}{k:Eff->Tr}(h:run call go (sliceX E t x lo hi mx k)=some r):∃ef,Yc E t x lo hi mx=some ef/\run call go (k ef)=some r:=by
 unfold sliceX at h;obtain⟨td,hd,h⟩:=ze h;split at h
 ·exact zj h
 obtain⟨l,hl,h⟩:=qX h;split at h
 ·rename_i hk;split at h
  ·obtain⟨m,hm,h⟩:=qX h;obtain⟨h1,h⟩:=jD h;simp only[decide_eq_true_eq] at h1;refine⟨_,?_,h⟩;simp only[Yc,hd,zL,hl,hk,hm,h1.1,h1.2,Bb,and_self,decide_true,zc];rfl
  ·exact zj h
 ·rename_i e hk;obtain⟨ed,he,h⟩:=ze h;split at h
  ·obtain⟨h0,h⟩:=zm h;obtain⟨m,hm,h⟩:=qX h;obtain⟨h1,h⟩:=jD h;simp only[beq_iff_eq] at h0;simp only[decide_eq_true_eq] at h1;refine⟨_,?_,h⟩;simp only[Yc,hd,zL,hl,hk,he,hm,h0,h1.1,h1.2,and_self,decide_true,zc];rfl
  ·obtain⟨m,hm,h⟩:=qX h;obtain⟨h1,h⟩:=jD h;simp only[decide_eq_true_eq] at h1;refine⟨_,?_,h⟩;simp only[Yc,hd,zL,hl,hk,he,hm,h1.1,h1.2,and_self,decide_true,zc];rfl
  ·obtain⟨h0,h⟩:=zm h;obtain⟨m,hm,h⟩:=qX h;obtain⟨h1,h⟩:=jD h;simp only[beq_iff_eq] at h0;simp only[decide_eq_true_eq] at h1;refine⟨_,?_,h⟩;simp only[Yc,hd,zL,hl,hk,he,hm,h0,h1.1,h1.2,Bb,and_self,decide_true,zc];rfl
  ·exact zj h
 ·exact zj h
theorem mapX_run{hp:List (Option OB)}{m:AV}{k:List DV->List DV->Tr}(h:run call go (mapX hp m k)=some r):∃mv,zAC hp m=some mv/\run call go (k mv.1 mv.2)=some r:=by
 unfold mapX at h;split at h
 ·exact⟨_,rfl,h⟩
 ·exact⟨_,rfl,h⟩
 ·split at h
  ·rename_i hs;exact⟨_,by simp only[zAC,hs] <;> rfl,h⟩
  ·exact zj h
 ·exact zj h
theorem zAc{α:Type}{o:Option α}(h:o.isSome=true)(d:α):o=some (o.getD d):=by cases o <;> simp at h ⊢
theorem zIs{t:TypeId}{hp:List (Option OB)}{m key:AV}{ok:Bool}{k:Eff->Tr}(h:run call go (zHw E t hp m key ok k)=some r):∃ef,JX E t hp m key ok=some ef/\run call go (k ef)=some r:=by
 unfold zHw at h;obtain⟨td,hd,k1⟩:=ze h;clear h;split at k1
 ·rename_i kt et hk;obtain⟨kd,hkd,k2⟩:=ze k1;obtain⟨ed,hed,h⟩:=ze k2;clear k1 k2;split at h
  ·rename_i x;obtain⟨h1,h⟩:=zm h;obtain⟨mv,h2,h⟩:=mapX_run h;obtain⟨h3,h⟩:=jD h;obtain⟨q,hq⟩:=Af.1 h3;simp only[hq,Bf] at h;cases q with
   | some v =>
    rcases Qf h with ⟨_,h⟩ | ⟨h4,h⟩
    ·obtain⟨h5,h⟩:=jD h;simp only[zAL _ _ _ h5] at h;exact⟨_,by simp only[JX,hd,zL,hk,hkd,hed,h1,zc,h2,hq] <;> rfl,h⟩
    ·simp at h4
   | none =>
    rcases Qf h with ⟨h4,h⟩ | ⟨_,h⟩
    ·simp at h4
    ·exact⟨_,by simp only[JX,hd,zL,hk,hkd,hed,h1,zc,h2,hq] <;> rfl,h⟩
  ·exact zj h
 ·exact zj k1
theorem zAe{t:TypeId}{hp:List (Option OB)}{m key v:AV}{k:Eff->Tr}(h:run call go (zAB E t hp m key v k)=some r):∃ef,jN E t hp m key v=some ef/\run call go (k ef)=some r:=by
 unfold zAB at h;obtain⟨td,hd,h⟩:=ze h;split at h
 ·rename_i kt et hk;obtain⟨kd,hkd,h⟩:=ze h;obtain⟨ed,hed,h⟩:=ze h;split at h
  ·obtain⟨h1,h⟩:=zm h;obtain⟨h2,h⟩:=zm h;split at h
   ·rename_i hs;obtain⟨h3,h⟩:=jD h;have e3:=zAc h3 ([],[]);refine⟨_,?_,h⟩;simp only[jN,hd,zL,hk,hkd,hed,h1,h2,zc,hs];rw[e3];rfl
   ·exact zj h
  ·exact zj h
 ·exact zj h
theorem nextX_run{hp:List (Option OB)}{s:Bool}{v:AV}{k:Eff->Tr}(h:run call go (nextX hp s v k)=some r):∃ef,zAW hp s v=some ef/\run call go (k ef)=some r:=by
 unfold nextX at h;split at h
 ·obtain⟨h1,h⟩:=zm h;split at h
  ·rename_i hs;rcases Qf h with ⟨h2,h⟩ | ⟨h2,h⟩
   ·simp only[decide_eq_true_eq] at h2;exact⟨_,by simp only[zAW,h1,zc,hs,h2,if_true],h⟩
   ·simp only[decide_eq_false_iff_not] at h2;exact⟨_,by simp only[zAW,h1,zc,hs,h2,if_false] <;> rfl,h⟩
  ·exact zj h
 ·exact zj h
theorem Jy{f:AV->(DV->Tr)->Tr}{g:AV->Option DV}(hf:∀v k,run call go (f v k)=some r->∃x,g v=some x/\run call go (k x)=some r) :
  ∀{l:List AV} {k:List DV->Tr},run call go (zBo f l k)=some r->∃xs,zAD g l=some xs/\run call go (k xs)=some r
 | [],k,h=>⟨[],rfl,h⟩
 | v :: l,k,h=>by simp only[zBo] at h;obtain⟨x,h1,h⟩:=hf _ _ h;obtain⟨xs,h2,h⟩:=Jy hf h;exact⟨x :: xs,by simp only[zAD,h1,h2],h⟩
theorem Jd{hp:List (Option OB)}:∀(n:Nat) (v:AV) (k:DV->Tr),run call go (zAT hp n v k)=some r->∃x,snap hp n v=some x/\run call go (k x)=some r
 | 0,v,k,h=>by
  simp only[zAT] at h;split at h
  ·exact⟨_,by simp only[snap],h⟩
  ·exact zj h
 | n+1,v,k,h=>by
  simp only[zAT] at h;split at h
  ·exact⟨_,by simp only[snap],h⟩
  ·split at h
   ·rename_i hs;obtain⟨h1,h⟩:=zm h;obtain⟨h2,h⟩:=jD h;simp only[beq_iff_eq] at h1;simp only[decide_eq_true_eq] at h2;exact⟨_,by simp only[snap,hs,h1,h2,and_self,if_true],h⟩
   ·rename_i hs;obtain⟨h1,h⟩:=zm h;simp only[Ab,beq_iff_eq,decide_eq_true_eq] at h1;obtain⟨ds,h2,h⟩:=Jy (λv k=>Jd n v k) h
    exact⟨_,by simp only[snap,hs,h1.1,h1.2,and_self,if_true,h2],h⟩
   ·exact zj h
  ·obtain⟨ob,h1,h⟩:=ze h;obtain⟨v,h2,h⟩:=zC9 h;obtain⟨x,h3,h⟩:=zA8 h;obtain⟨y,h4,h⟩:=Jd n x _ h;obtain⟨h5,h⟩:=zm h;simp only[AC] at h5;exact⟨_,by simp only[snap,h1,h2,h3,h4,h5] <;> rfl,h⟩
  ·split at h
   ·rename_i hs;exact⟨_,by simp only[snap,hs],h⟩
   ·exact zj h
  ·obtain⟨ds,h2,h⟩:=Jy (λv k=>Jd n v k) h
   exact⟨_,by simp only[snap,h2],h⟩
  ·obtain⟨ds,h2,h⟩:=Jy (λv k=>Jd n v k) h
   obtain⟨es,h3,h⟩:=Jy (λv k=>Jd n v k) h
   exact⟨_,by simp only[snap,h2,h3],h⟩
  ·exact zj h
theorem Qb{hp:List (Option OB)}:∀vs:List AV,Ji hp vs=zAD (snap hp zx) vs
 | []=>rfl
 | v :: r=>by
  simp only[Ji,zAD,Qb r];cases snap hp zx v <;> simp only[bnd_none,zL]
  cases zAD (snap hp zx) r <;> rfl
theorem zCz{hp:List (Option OB)}:∀{xs ys:List AV} {a b:List DV},Ji hp xs=some a->Ji hp ys=some b->Ji hp (xs++ys)=some (a++b)
 | [],ys,a,b,h1,h2=>by simp only[Ji,An] at h1;subst h1;exact h2
 | x :: xs,ys,a,b,h1,h2=>by
  simp only[Ji] at h1;cases hx:snap hp zx x with
  | none=>rw[hx] at h1;cases h1
  | some u =>
   rw[hx,zL] at h1;cases hs:Ji hp xs with
   | none=>rw[hs] at h1;cases h1
   | some us =>
    rw[hs] at h1;simp only[zL,An] at h1;subst h1;simp only[Ay,Ji,hx,zL,zCz hs h2]
theorem snap_d{hp:List (Option OB)}(n:Nat)(x:DV):snap hp n (.d x)=some x:=by cases n <;> rfl
theorem sites_d{hp:List (Option OB)}(n:Nat)(x:DV):sites hp n (.d x)=[]:=by cases n <;> rfl
theorem zHp{hp:List (Option OB)}:∀xs:List DV,Ji hp (xs.map .d)=some xs
 | []=>rfl
 | x :: xs=>by simp only[AK,Ji,snap_d,zL,zHp xs]
theorem zEL{hp:List (Option OB)}:∀xs ys:List AV,ja hp (xs++ys)=ja hp xs++ja hp ys
 | [],ys=>rfl
 | x :: xs,ys=>by simp only[Ay,ja,zEL xs ys,AM]
theorem zJB{hp:List (Option OB)}:∀xs:List DV,ja hp (xs.map .d)=[]
 | []=>rfl
 | x :: xs=>by simp only[AK,ja,sites_d,zJB xs,Bq]
theorem zEh{hp:List (Option OB)}{sz:Nat}{v:AV}{k:List DV->List Nat->Tr}(h:run call go (zIT hp sz v k)=some r):∃el,jg hp sz v=some el/\run call go (k el.1 el.2)=some r:=by
 unfold zIT at h;split at h
 ·exact⟨_,rfl,h⟩
 ·obtain⟨h1,h⟩:=zm h;simp only[beq_iff_eq] at h1;exact⟨_,by simp only[jg,h1,if_true] <;> rfl,h⟩
 ·obtain⟨h1,h⟩:=zm h;simp only[beq_iff_eq] at h1;split at h
  ·rename_i hs;obtain⟨h2,h⟩:=zm h;obtain⟨h3,h⟩:=jD h;simp only[beq_iff_eq] at h2;simp only[decide_eq_true_eq] at h3;exact⟨_,by simp only[jg,h1,if_true,hs,h2,h3,and_self] <;> rfl,h⟩
  ·rename_i hs;obtain⟨h2,h⟩:=zm h;simp only[Ab,beq_iff_eq,decide_eq_true_eq] at h2;obtain⟨ds,h3,h⟩:=Jy (λv k=>Jd zx v k) h
   exact⟨_,by simp only[jg,h1,if_true,hs,h2.1,h2.2,and_self,h3] <;> rfl,h⟩
  ·exact zj h
 ·exact zj h
theorem baseX_run{hp:List (Option OB)}{sz:Nat}{v:AV}{k:List DV->Option Nat->Tr}(h:run call go (baseX hp sz v k)=some r):∃bs,YR hp sz v=some bs/\run call go (k bs.1 bs.2)=some r:=by
 unfold baseX at h;split at h
 ·exact⟨_,rfl,h⟩
 ·obtain⟨h1,h⟩:=zm h;simp only[Ab,beq_iff_eq] at h1;split at h
  ·rename_i hs;obtain⟨h2,h⟩:=zm h;obtain⟨h3,h⟩:=jD h;simp only[beq_iff_eq] at h2;simp only[decide_eq_true_eq] at h3;exact⟨_,by simp only[YR,h1.1,h1.2,and_self,if_true,hs,h2,h3] <;> rfl,h⟩
  ·exact zj h
 ·exact zj h
theorem zI4{ts:List TypeId}{dst:Nat}{hp:List (Option OB)}{args:List AV}{k:Eff->Tr}(h:run call go (zIA E ts dst hp args k)=some r):∃ef,Jb E ts dst hp args=some ef/\run call go (k ef)=some r:=by
 unfold zIA at h;split at h
 ·split at h
  ·obtain⟨h1,h⟩:=zm h;obtain⟨td,hd,h⟩:=ze h;split at h
   ·rename_i e hk;obtain⟨ed,he,h⟩:=ze h;obtain⟨h2,h⟩:=zm h;obtain⟨bs,h3,h⟩:=baseX_run h;obtain⟨el,h4,h⟩:=zEh h;obtain⟨h5,h⟩:=jD h;simp only[Bg] at h;simp only[decide_eq_true_eq] at h2 h5;have hg:decide (0<ed.size/\0<ed.bytes/\(2 * (bs.1.length+el.1.length)+200) * ed.bytes<=281474976710656)=true:=decide_eq_true ⟨h2.1,h2.2,h5⟩;split at h
    ·rename_i hb;rcases Qf h with ⟨h6,h⟩ | ⟨h6,h⟩
     ·have e6:el.1=[]:=List.isEmpty_iff.1 h6;refine⟨_,?_,h⟩;simp only[Jb,h1,zc,hd,zL,hk,he,h3,h4,hg];simp only[hb,e6];rfl
     ·refine⟨_,?_,h⟩;simp only[Jb,h1,zc,hd,zL,hk,he,h3,h4,hg];simp only[hb];cases hel:el.1 with
      | nil=>rw[hel] at h6;simp at h6
      | cons a l=>rfl
    ·rename_i b hb;exact⟨_,by simp only[Jb,h1,zc,hd,zL,hk,he,h3,h4,hg,hb],h⟩
   ·exact zj h
  ·exact zj h
 ·exact zj h
theorem copyX_run{ts:List TypeId}{hp:List (Option OB)}{args:List AV}{k:Eff->Tr}(h:run call go (copyX E ts hp args k)=some r):∃ef,zBB E ts hp args=some ef/\run call go (k ef)=some r:=by
 unfold copyX at h;split at h
 ·split at h
  ·obtain⟨td,hd,h⟩:=ze h;split at h
   ·rename_i e hk;obtain⟨ed,he,h⟩:=ze h;split at h
    ·obtain⟨h1,h⟩:=zm h;split at h
     ·rename_i hs;obtain⟨h2,h⟩:=zm h;obtain⟨h3,h⟩:=jD h;obtain⟨el,h4,h⟩:=zEh h;simp only[beq_iff_eq] at h2;simp only[decide_eq_true_eq] at h3;exact⟨_,by simp only[zBB,hd,zL,hk,he,h1,zc,hs,decide_eq_true (AR h2 h3),h4],h⟩
     ·exact zj h
    ·exact zj h
   ·exact zj h
  ·exact zj h
 ·exact zj h
def j6(E:Env)(call:FuncId->List DV->Option CR)(f:FuncId)(ds:List DV):Option CR:=call f (zy E f ds)
theorem zJH{ts:List TypeId}{x:DV}{k:DV->Tr}(h:run call go (resX E ts x k)=some r):run call go (k x)=some r:=by
 have many:∀{ts:List TypeId},run call go (gd (x.isTup && zV (zF E shD) ts (tups x)) (k (.tup (zDo (zH4 E shD) ts (tups x) 0))))=some r->run call go (k x)=some r:=by
  intro ts h;obtain⟨h1,h⟩:=jD h;simp only[Ab] at h1;rw[zAH (λt x=>zAL shD t x) h1.2] at h
  cases x with
  | tup xs=>exact h
  | _=>simp[DV.isTup] at h1
 unfold resX at h;split at h
 ·obtain⟨h1,h⟩:=jD h;rw[zAL _ _ _ h1] at h;exact h
 ·exact many h
theorem zG2{dst:Nat}{o:Operand}{ty:TypeId}{f:FuncId}{ds:List DV}{ss:List Nat}{k:Eff->Tr}(h:run call go (nodeX E dst o ty f ds ss k)=some r) :
  ∃c,j6 E call f ds=some c/\run call go (k (deliver dst ss c))=some r:=by
 unfold nodeX at h;split at h
 ·split at h
  ·split at h
   ·rcases Qg h with ⟨x,h1,h⟩ | ⟨s,xs,h1,h⟩
    ·obtain⟨h2,h⟩:=jD h;have e:x=.nl:=by cases x <;> simp[zJc] at h2 <;> rfl
     subst e;exact⟨_,h1,h⟩
    ·obtain⟨h2,h3⟩:=jD h;simp only[beq_iff_eq] at h2;subst h2;exact⟨_,h1,h3⟩
   ·rcases Qg h with ⟨x,h1,h⟩ | ⟨s,xs,h1,h⟩
    ·exact⟨_,h1,zJH h⟩
    ·exact zj h
  ·exact zj h
 ·rcases Qg h with ⟨x,h1,h⟩ | ⟨s,xs,h1,h⟩
  ·exact⟨_,h1,zJH h⟩
  ·exact zj h
theorem callX1_run{dst:Nat}{hp:List (Option OB)}{o:Operand}{ty:TypeId}{f:AV}{args:List AV}{k:Eff->Tr}(h:run call go (callX1 E dst hp o ty f args k)=some r) :
  ∃ef,qs (j6 E call) dst hp f args=some ef/\run call go (k ef)=some r:=by
 unfold callX1 at h;split at h
 ·rename_i g a c;obtain⟨ds,h1,h⟩:=Jy (λv k=>Jd zx v k) h
  obtain⟨cr,h2,h⟩:=zG2 h;rw[<-Qb] at h1;refine⟨_,?_,h⟩;have e1:Ji hp (a.map .d++args++c.map .d)=some (a++ds++c):=zCz (zCz (zHp a) h1) (zHp c);have e2:ja hp (a.map .d++args++c.map .d)=ja hp args:=by simp only[zEL,zJB,Ao,Bq]
  simp only[qs,YY,zL,e1,e2,h2]
 ·rename_i g a c;obtain⟨ds,h1,h⟩:=Jy (λv k=>Jd zx v k) h
  obtain⟨cr,h2,h⟩:=zG2 h;rw[<-Qb] at h1;refine⟨_,?_,h⟩;simp only[qs,YY,zL,h1,h2]
 ·exact zj h
theorem eqX_run{t:TypeId}{neg:Bool}{x y:DV}{k:DV->Tr}(h:run call go (eqX E t neg x y k)=some r):∃b,YT E t x y=some b/\run call go (k (.bool (match neg with | true=>!b | false=>b)))=some r:=by unfold eqX at h;obtain⟨h1,h⟩:=jD h;refine⟨_,zAc h1 false,?_⟩;cases neg <;> exact h
theorem binX_run{op:BinOp}{t:TypeId}{x y:DV}{k:DV->Tr}(h:run call go (binX E op t x y k)=some r):∃z,zDh E op t x y=some z/\run call go (k z)=some r:=by
 unfold binX at h;split at h
 ·split at h
  ·rename_i k1 a _ k2 b;unfold intX at h;split at h
   ·obtain⟨h1,h⟩:=zm h;obtain⟨h2,h⟩:=jD h;simp only[decide_eq_true_eq] at h1;simp only[AC,beq_eq_false_iff_ne,ne_eq] at h2;exact⟨_,by simp only[zDh,h1,if_true,zDu,h2,if_false],h⟩
   ·obtain⟨h1,h⟩:=zm h;obtain⟨h2,h⟩:=jD h;simp only[decide_eq_true_eq] at h1;simp only[AC,beq_eq_false_iff_ne,ne_eq] at h2;exact⟨_,by simp only[zDh,h1,if_true,zDu,h2,if_false],h⟩
   ·obtain⟨h2,h⟩:=jD h;simp only[decide_eq_true_eq] at h2;exact⟨_,by simp only[zDh,zGF,if_neg (Bj.2 h2)],h⟩
   ·obtain⟨h2,h⟩:=jD h;simp only[decide_eq_true_eq] at h2;exact⟨_,by simp only[zDh,zGF,if_neg (Bj.2 h2)],h⟩
   ·exact ze h
  ·exact zj h
 ·split at h
  ·split at h
   ·obtain⟨h1,h⟩:=jD h;simp only[decide_eq_true_eq] at h1;exact⟨_,by simp only[zDh,strS,if_neg (Bj.2 h1)],h⟩
   ·exact ze h
  ·exact zj h
 ·rename_i h1 h2;split at h
  ·obtain⟨b,h3,h⟩:=eqX_run h;refine⟨_,?_,h⟩;cases x <;> first | exact absurd rfl (h1 _ _) | exact absurd rfl (h2 _) | (simp only[zDh,h3,zL])
  ·obtain⟨b,h3,h⟩:=eqX_run h;refine⟨_,?_,h⟩;cases x <;> first | exact absurd rfl (h1 _ _) | exact absurd rfl (h2 _) | (simp only[zDh,h3,zL])
  ·exact zj h
theorem opX_run{X:XC}{F:XF}{o:Oper}{tm:List AV}{hp:List (Option OB)}{k:Eff->Tr}(h:run call go (opX E X F o tm hp k)=some r) :
  ∃ef,jj E (j6 E call) o.op (zg o) tm hp=some ef/\run call go (k ef)=some r:=by
 unfold opX at h;generalize o.op=op at h ⊢;cases op
 case pick c a b =>
  obtain⟨v,h1,h⟩:=ze h;obtain⟨b0,h2,h⟩:=ze h;rcases Qf h with ⟨h3,h⟩ | ⟨h3,h⟩
  ·obtain⟨u,h4,h⟩:=ze h;exact⟨_,by simp only[jj,h1,zL,h2,h3,h4] <;> rfl,h⟩
  ·obtain⟨u,h4,h⟩:=ze h;exact⟨_,by simp only[jj,h1,zL,h2,h3,h4] <;> rfl,h⟩
 case binOp op t x y yt =>
  obtain⟨a,h1,h⟩:=ze h;obtain⟨b,h2,h⟩:=ze h;simp only at h;split at h
  ·split at h
   ·obtain⟨h3,h⟩:=zm h;obtain⟨z,h4,h⟩:=binX_run h;exact⟨_,by simp only[jj,h1,zL,h2,h3,zc,h4] <;> rfl,h⟩
   ·exact zj h
  ·exact zj h
 case load t a =>
  obtain⟨p,h1,h⟩:=ze h;obtain⟨ef,h2,h⟩:=loadX_run h;exact⟨ef,by simp only[jj,h1,zL,h2],h⟩
 case store t a x =>
  obtain⟨p,h1,h⟩:=ze h;obtain⟨v,h3,h⟩:=ze h;obtain⟨ef,h2,h⟩:=storeX_run h;exact⟨ef,by simp only[jj,h1,h3,zL,h2],h⟩
 case makeSlice t l c =>
  obtain⟨p,h1,h⟩:=ze h;obtain⟨v,h3,h⟩:=ze h;obtain⟨ef,h2,h⟩:=zD4 h;exact⟨ef,by simp only[jj,h1,h3,zL,h2],h⟩
 case slice t x lo hi mx =>
  obtain⟨p,h1,h⟩:=ze h;obtain⟨v,h3,h⟩:=ze h;obtain⟨v2,h4,h⟩:=ze h;obtain⟨v3,h5,h⟩:=ze h;obtain⟨ef,h2,h⟩:=sliceX_run h;exact⟨ef,by simp only[jj,h1,h3,h4,h5,zL,h2],h⟩
 case fieldAddr t x i =>
  obtain⟨p,h1,h⟩:=ze h;obtain⟨ef,h2,h⟩:=zD8 h;exact⟨ef,by simp only[jj,h1,zL,h2],h⟩
 case indexAddr t x i =>
  obtain⟨p,h1,h⟩:=ze h;obtain⟨v,h3,h⟩:=ze h;obtain⟨ef,h2,h⟩:=zD6 h;exact⟨ef,by simp only[jj,h1,h3,zL,h2],h⟩
 case index t x i =>
  obtain⟨p,h1,h⟩:=ze h;obtain⟨v,h3,h⟩:=ze h;obtain⟨ef,h2,h⟩:=indexX_run h;exact⟨ef,by simp only[jj,h1,h3,zL,h2],h⟩
 case lookup t m key ok =>
  obtain⟨p,h1,h⟩:=ze h;obtain⟨v,h3,h⟩:=ze h;obtain⟨ef,h2,h⟩:=zIs h;exact⟨ef,by simp only[jj,h1,h3,zL,h2],h⟩
 case mapUpdate t m key x =>
  obtain⟨p,h1,h⟩:=ze h;obtain⟨v,h3,h⟩:=ze h;obtain⟨v2,h4,h⟩:=ze h;obtain⟨ef,h2,h⟩:=zAe h;exact⟨ef,by simp only[jj,h1,h3,h4,zL,h2],h⟩
 case insert t m key x =>
  obtain⟨p,h1,h⟩:=ze h;obtain⟨v,h3,h⟩:=ze h;obtain⟨v2,h4,h⟩:=ze h;obtain⟨ef,h2,h⟩:=zAe h;exact⟨ef,by simp only[jj,h1,h3,h4,zL,h2],h⟩
 case next i s =>
  obtain⟨p,h1,h⟩:=ze h;obtain⟨ef,h2,h⟩:=nextX_run h;exact⟨ef,by simp only[jj,h1,zL,h2],h⟩
 case call c =>
  simp only at h;split at h
  ·rename_i f hc;obtain⟨args,h1,h⟩:=ze h;obtain⟨v,h3,h⟩:=ze h;obtain⟨ef,h2,h⟩:=callX1_run h;exact⟨ef,by simp only[jj,h1,hc,h3,zL,h2],h⟩
  ·rename_i hc;obtain⟨args,h1,h⟩:=ze h;obtain⟨ef,h2,h⟩:=zI4 h;exact⟨ef,by simp only[jj,h1,hc,zL,h2],h⟩
  ·rename_i hc;obtain⟨args,h1,h⟩:=ze h;obtain⟨ef,h2,h⟩:=copyX_run h;exact⟨ef,by simp only[jj,h1,hc,zL,h2],h⟩
  ·rename_i k1 k2 k3;obtain⟨ef,h1,h⟩:=ze h;refine⟨ef,?_,h⟩;rw[<-h1];simp only[jj];cases hcc:c.callee with
   | value f=>exact absurd hcc (k1 f)
   | builtin b=>cases b <;> rfl
   | _=>rfl
 case makeFunc f a c =>
  obtain⟨ef,h1,h⟩:=ze h;exact⟨ef,by cases f <;> exact h1,h⟩
 all_goals
  obtain⟨ef,h1,h⟩:=ze h;exact⟨ef,h1,h⟩
end
end Go.Am
namespace Go.Am
open Go.Proofs
open Go
structure Le(X:List Nat)(s t:St):Prop where
 tm:∀i:Nat,(s.tm[i]? = some AV.undef/\(t.tm[i]?).isSome=true)\/s.tm[i]? = t.tm[i]?
 hp:∀b:Nat,(s.hp[b]? = some none/\(t.hp[b]?).isSome=true/\b ∉ X)\/s.hp[b]? = t.hp[b]?
def HLe(hp hp':List (Option OB)):Prop:=∀b ob,slot hp b=some ob->slot hp' b=some ob
def Lev(v w:AV):Prop:=v=.undef\/v=w
theorem Le.hle{X:List Nat}{s t:St}(h:Le X s t):HLe s.hp t.hp:=by
 intro b ob hs;rw[JW] at hs ⊢;rcases h.hp b with ⟨h1,_⟩ | h1
 ·rw[h1] at hs;simp at hs
 ·rw[<-h1];exact hs
theorem zAK{α β:Type}{f g:α->Option β}(h:∀v x,f v=some x->g v=some x):∀{l:List α} {xs:List β},zAD f l=some xs->zAD g l=some xs
 | [],xs,e=>e
 | v :: l,xs,e=>by
  simp only[zAD] at e ⊢;cases h1:f v with
  | none=>simp[h1] at e
  | some x =>
   rw[h1] at e;simp only at e;cases h2:zAD f l with
   | none=>simp[h2] at e
   | some ys =>
    rw[h2] at e;simp only[h v x h1,zAK h h2];exact e
theorem qd{α β:Type}{f:α->Option β}:∀{l:List α} {xs:List β},zAD f l=some xs->∀v∈l,∃x,f v=some x
 | [],xs,e,v,hv=>by simp at hv
 | u :: l,xs,e,v,hv=>by
  simp only[zAD] at e;cases h1:f u with
  | none=>simp[h1] at e
  | some x =>
   rw[h1] at e;simp only at e;cases h2:zAD f l with
   | none=>simp[h2] at e
   | some ys =>
    rcases Ag.1 hv with rfl | hv
    ·exact⟨x,h1⟩
    ·exact qd h2 v hv
section
variable{hp hp':List (Option OB)}
theorem QH(h:HLe hp hp'):∀(n:Nat) (v:AV) (x:DV),snap hp n v=some x->snap hp' n v=some x
 | 0,v,x,e=>by cases v <;> simp only[snap] at e ⊢ <;> first | exact e | (split at e <;> first | (rename_i hs;rw[h _ _ hs];exact e) | cases e)
 | n+1,v,x,e=>by
  cases v with
  | d y=>exact e
  | undef=>exact e
  | own b off len sz =>
   simp only[snap] at e ⊢;split at e
   ·rename_i hs;rw[h _ _ hs];exact e
   ·rename_i hs;rw[h _ _ hs];simp only at e ⊢;split at e
    ·rename_i hc;rw[if_pos hc];split at e
     ·rename_i hm;rw[zAK (QH h n) hm];exact e
     ·cases e
    ·cases e
   ·cases e
  | ptr b sz e' p =>
   simp only[snap] at e ⊢;cases hs:slot hp b with
   | none=>simp[hs] at e
   | some ob =>
    rw[hs] at e;rw[h _ _ hs];simp only at e ⊢;cases hg:ob.blk.get sz e' with
    | none=>simp[hg] at e
    | some v =>
     rw[hg] at e;simp only at e ⊢;cases hx:zDe p v with
     | none=>simp[hx] at e
     | some y =>
      rw[hx] at e;simp only at e ⊢;cases hy:snap hp n y with
      | none=>simp[hy] at e
      | some z=>rw[hy] at e;rw[QH h n y z hy];exact e
  | omp b=>simp only[snap] at e ⊢;split at e <;> first | (rename_i hs;rw[h _ _ hs];exact e) | cases e
  | it b=>exact e
  | agg tag fs =>
   simp only[snap] at e ⊢;split at e
   ·rename_i hm;rw[zAK (QH h n) hm];exact e
   ·cases e
  | fn f a c =>
   simp only[snap] at e ⊢;split at e
   ·rename_i hm hm2;rw[zAK (QH h n) hm,zAK (QH h n) hm2];exact e
   ·cases e
theorem qa(h:HLe hp hp'):∀(n:Nat) (v:AV) (x:DV),snap hp n v=some x->sites hp' n v=sites hp n v
 | 0,v,x,e=>by
  cases v <;> simp only[snap] at e <;> first | cases e;done | rfl
 | n+1,v,x,e=>by
  cases v with
  | d y=>rfl
  | undef=>rfl
  | own b off len sz =>
   simp only[snap] at e;simp only[sites];split at e
   ·rename_i hs;rw[hs,h _ _ hs]
   ·rename_i hs;rw[hs,h _ _ hs];simp only at e ⊢;split at e
    ·split at e
     ·rename_i hm;congr 1;exact jH λu hu=>by obtain⟨y,hy⟩:=qd hm u hu;exact qa h n u y hy
     ·cases e
    ·cases e
   ·cases e
  | ptr b sz e' p =>
   simp only[snap] at e;simp only[sites];cases hs:slot hp b with
   | none=>simp[hs] at e
   | some ob =>
    rw[hs] at e;rw[h _ _ hs];simp only at e ⊢;cases hg:ob.blk.get sz e' with
    | none=>simp[hg] at e
    | some v =>
     rw[hg] at e;simp only at e ⊢;cases hx:zDe p v with
     | none=>simp[hx] at e
     | some y =>
      rw[hx] at e;simp only at e ⊢;cases hy:snap hp n y with
      | none=>simp[hy] at e
      | some z=>rw[qa h n y z hy]
  | omp b=>rfl
  | it b=>rfl
  | agg tag fs =>
   simp only[snap] at e;simp only[sites];split at e
   ·rename_i hm;exact jH λu hu=>by obtain⟨y,hy⟩:=qd hm u hu;exact qa h n u y hy
   ·cases e
  | fn f a c =>
   simp only[snap] at e;simp only[sites];split at e
   ·rename_i hm hm2;congr 1
    ·exact jH λu hu=>by obtain⟨y,hy⟩:=qd hm u hu;exact qa h n u y hy
    ·exact jH λu hu=>by obtain⟨y,hy⟩:=qd hm2 u hu;exact qa h n u y hy
   ·cases e
theorem zJA(h:HLe hp hp'){vs:List AV}{xs:List DV}(e:Ji hp vs=some xs):Ji hp' vs=some xs:=by rw[Qb] at e ⊢;exact zAK (QH h zx) e
theorem zGs(h:HLe hp hp'):∀{vs:List AV} {xs:List DV},Ji hp vs=some xs->ja hp' vs=ja hp vs
 | [],xs,e=>rfl
 | v :: vs,xs,e=>by simp only[Ji] at e;obtain⟨x,h1,e1⟩:=zA e;obtain⟨ys,h2,e2⟩:=zA e1;simp only[ja,qa h _ _ _ h1,zGs h h2]
theorem zEI(n:Nat):snap hp n .undef=none:=by cases n <;> rfl
theorem zGq{vs:List AV}{xs:List DV}(e:Ji hp vs=some xs):∀v∈vs,v≠.undef:=by rw[Qb] at e;intro v hv hu;obtain⟨x,hx⟩:=qd e v hv;subst hu;rw[zEI] at hx;cases hx
variable{E:Env}{X:List Nat}{s t:St}
theorem ev_le(h:Le X s t){x:Operand}{v:AV}(e:evO E s.tm x=some v):∃w,evO E t.tm x=some w/\Lev v w:=by
 cases x with
 | tmp i =>
  simp only[evO] at e ⊢;rcases h.tm i with ⟨h1,h2⟩ | h1
  ·rw[h1] at e;injection e with e
   cases ht:t.tm[i]? with
   | none=>rw[ht] at h2;simp at h2
   | some w=>exact⟨w,rfl,.inl e.symm⟩
  ·rw[<-h1];exact⟨v,e,.inr rfl⟩
 | const c=>exact⟨v,e,.inr rfl⟩
 | global g=>exact⟨v,e,.inr rfl⟩
 | func f=>exact⟨v,e,.inr rfl⟩
theorem Js(h:Le X s t){x:Operand}{v:AV}(e:evO E s.tm x=some v)(hv:v≠.undef):evO E t.tm x=some v:=by
 obtain⟨w,h1,h2⟩:=ev_le h e;rcases h2 with h2 | h2
 ·exact absurd h2 hv
 ·rw[h2];exact h1
theorem zAY(h:Le X s t):∀{xs:List Operand} {vs:List AV},evL E s.tm xs=some vs->(∀v∈vs,v≠.undef)->evL E t.tm xs=some vs
 | [],vs,e,_=>e
 | x :: xs,vs,e,hn=>by
  simp only[evL] at e ⊢;obtain⟨v,h1,e1⟩:=zA e;obtain⟨us,h2,e2⟩:=zA e1;injection e2 with e2;subst e2
  rw[Js h h1 (hn v (by simp)),zL,zAY h h2 λu hu=>hn u (by simp[hu]),zL]
theorem zBx(h:Le X s t):∀{xs:List (Nat×Operand)} {vs:List (Nat×AV)},JZ E s.tm xs=some vs->(∀v∈vs,v.2≠.undef)->JZ E t.tm xs=some vs
 | [],vs,e,_=>e
 | (i,x) :: xs,vs,e,hn=>by
  simp only[JZ] at e ⊢;obtain⟨v,h1,e1⟩:=zA e;obtain⟨us,h2,e2⟩:=zA e1;injection e2 with e2;subst e2
  rw[Js h h1 (hn (i,v) (by simp)),zL,zBx h h2 λu hu=>hn u (by simp[hu]),zL]
theorem zF4{L:Nat->List Nat}{sizes:List Nat}:∀{ps:List (Nat×AV)} {vs ws:List AV},fill L sizes ps vs=some ws->∀p∈ps,p.2≠.undef
 | [],vs,ws,_,p,hp=>by simp at hp
 | (i,v) :: ps,vs,ws,e,p,hp=>by
  simp only[fill] at e;split at e
  ·rename_i hc;rcases Ag.1 hp with rfl | hp
   ·rintro hu;simp only at hu;rw[hu] at hc;simp[stores] at hc
   ·exact zF4 e p hp
  ·cases e
theorem buildE_noU{t:TypeId}{ps:List (Nat×AV)}{ef:Eff}(e:zAZ E t ps=some ef):∀p∈ps,p.2≠.undef:=by
 have key:∀{tag:Nat} {z:DV},Qt E tag z ps=some ef->∀p∈ps,p.2≠.undef:=by
  intro tag z e;unfold Qt at e;split at e
  ·split at e
   ·obtain⟨fs,h1,_⟩:=zA e;exact zF4 h1
   ·cases e
  ·cases e
 unfold zAZ at e;obtain⟨td,_,e1⟩:=zA e;split at e1
 ·exact key e1
 ·exact key e1
 ·cases e1
theorem zDq{t:TypeId}{d n:Nat}{ps:List (Nat×AV)}{ef:Eff}(e:JM E t d n ps=some ef):∀p∈ps,p.2≠.undef:=by
 unfold JM at e;obtain⟨td,_,e1⟩:=zA e;split at e1
 ·obtain⟨ed,_,e2⟩:=zA e1;obtain⟨_,e3⟩:=zG e2;obtain⟨fs,h1,_⟩:=zA e3;exact zF4 h1
 ·cases e1
def LeE(ef ef':Eff):Prop:=Lev ef.v ef'.v/\ef'.new=ef.new/\ef'.upd=ef.upd/\ef'.kil=ef.kil/\ef'.frz=ef.frz
theorem LeE.refl(ef:Eff):LeE ef ef:=⟨.inr rfl,rfl,rfl,rfl,rfl⟩
theorem zJW(h:HLe hp hp'){m:AV}{r:List DV×List DV}(e:zAC hp m=some r):zAC hp' m=some r:=by
 unfold zAC at e ⊢;split at e
 ·exact e
 ·exact e
 ·split at e
  ·rename_i hs;simp only[h _ _ hs];exact e
  ·cases e
 ·cases e
theorem zEi(h:HLe hp hp'){sz:Nat}{v:AV}{r:List DV×List Nat}(e:jg hp sz v=some r):jg hp' sz v=some r:=by
 unfold jg at e ⊢;split at e
 ·exact e
 ·exact e
 ·split at e
  ·rename_i hs1;simp only[hs1,if_true] at e ⊢;split at e
   ·rename_i hs;rw[h _ _ hs];exact e
   ·rename_i hs;rw[h _ _ hs];simp only at e ⊢;split at e
    ·rename_i hc;rw[if_pos hc];split at e
     ·rename_i hm;rw[zAK (QH h _) hm];have:∀l:List AV,(∀v∈l,∃x,snap hp zx v=some x)->l.flatMap (sites hp' zx)=l.flatMap (sites hp zx):=λl hl =>
       jH λu hu=>by obtain⟨y,hy⟩:=hl u hu;exact qa h _ u y hy
      simp only;rw[this _ (qd hm)];exact e
     ·cases e
    ·cases e
   ·cases e
  ·cases e
 ·cases e
theorem baseOf_le(h:HLe hp hp'){sz:Nat}{v:AV}{r:List DV×Option Nat}(e:YR hp sz v=some r):YR hp' sz v=some r:=by
 unfold YR at e ⊢;split at e
 ·exact e
 ·split at e
  ·rename_i hs1;rw[if_pos hs1];split at e
   ·rename_i hs;rw[h _ _ hs];exact e
   ·cases e
  ·cases e
 ·cases e
theorem zJX(h:HLe hp hp'){t:TypeId}{a:AV}{ef:Eff}(e:Yg E t hp a=some ef):Yg E t hp' a=some ef:=by
 unfold Yg at e ⊢;obtain⟨td,hd,e1⟩:=zA e;rw[hd,zL];split at e1
 ·exact e1
 ·obtain⟨ob,hs,e2⟩:=zA e1;simp only[h _ _ hs,zL];exact e2
 ·cases e1
theorem storeE_le(h:HLe hp hp'){t:TypeId}{a x:AV}{ef:Eff}(e:Y5 E t hp a x=some ef):Y5 E t hp' a x=some ef:=by
 unfold Y5 at e ⊢;obtain⟨td,hd,e1⟩:=zA e;rw[hd,zL];split at e1
 ·obtain⟨ob,hs,e2⟩:=zA e1;simp only[h _ _ hs,zL];exact e2
 ·cases e1
theorem lookupE_le(h:HLe hp hp'){t:TypeId}{m k:AV}{ok:Bool}{ef:Eff}(e:JX E t hp m k ok=some ef):JX E t hp' m k ok=some ef:=by
 unfold JX at e ⊢;obtain⟨td,hd,e1⟩:=zA e;rw[hd,zL];split at e1
 ·rename_i kt et hk;obtain⟨kd,hkd,e2⟩:=zA e1;obtain⟨ed,hed,e3⟩:=zA e2;simp only[hkd,hed,zL];split at e3
  ·obtain⟨h1,e4⟩:=zG e3;obtain⟨mv,hm,e5⟩:=zA e4;simp only[h1,zc,zJW h hm,zL];exact e5
  ·cases e3
 ·cases e1
theorem zBN(h:HLe hp hp'){t:TypeId}{m k v:AV}{ef:Eff}(e:jN E t hp m k v=some ef):jN E t hp' m k v=some ef:=by
 unfold jN at e ⊢;obtain⟨td,hd,e1⟩:=zA e;rw[hd,zL];split at e1
 ·rename_i kt et hk;obtain⟨kd,hkd,e2⟩:=zA e1;obtain⟨ed,hed,e3⟩:=zA e2;simp only[hkd,hed,zL];split at e3
  ·obtain⟨h1,e4⟩:=zG e3;obtain⟨h2,e5⟩:=zG e4;simp only[h1,h2,zc];split at e5
   ·rename_i hs;rw[h _ _ hs];exact e5
   ·cases e5
  ·cases e3
 ·cases e1
theorem nextE_le(h:HLe hp hp'){b:Bool}{v:AV}{ef:Eff}(e:zAW hp b v=some ef):zAW hp' b v=some ef:=by
 unfold zAW at e ⊢;split at e
 ·obtain⟨h1,e1⟩:=zG e;simp only[h1,zc];split at e1
  ·rename_i hs;rw[h _ _ hs];exact e1
  ·cases e1
 ·cases e
theorem callE_le(h:HLe hp hp'){call:FuncId->List DV->Option CR}{d:Nat}{f:AV}{args:List AV}{ef:Eff}(e:qs call d hp f args=some ef):qs call d hp' f args=some ef:=by unfold qs at e ⊢;obtain⟨c,h1,e1⟩:=zA e;obtain⟨ds,h2,e2⟩:=zA e1;rw[h1,zL,zJA h h2,zL,zGs h h2];exact e2
theorem appendE_le(h:HLe hp hp'){ts:List TypeId}{d:Nat}{args:List AV}{ef:Eff}(e:Jb E ts d hp args=some ef):Jb E ts d hp' args=some ef/\∀v∈args,v≠.undef:=by
 unfold Jb at e ⊢;split at e
 ·rename_i s x;split at e
  ·obtain⟨h1,e1⟩:=zG e;obtain⟨td,hd,e2⟩:=zA e1;simp only[h1,zc,hd,zL];split at e2
   ·obtain⟨ed,he,e3⟩:=zA e2;obtain⟨bs,hb,e4⟩:=zA e3;obtain⟨el,hl,e5⟩:=zA e4;simp only[he,zL,baseOf_le h hb,zEi h hl];refine⟨e5,λv hv=>?_⟩
    simp only[Ag,As,or_false] at hv;rcases hv with rfl | rfl
    ·rintro rfl;simp[YR] at hb
    ·rintro rfl;simp[jg] at hl
   ·cases e2
  ·cases e
 ·cases e
theorem copyE_le(h:HLe hp hp'){ts:List TypeId}{args:List AV}{ef:Eff}(e:zBB E ts hp args=some ef):zBB E ts hp' args=some ef/\∀v∈args,v≠.undef:=by
 unfold zBB at e ⊢;split at e
 ·rename_i s x;split at e
  ·obtain⟨td,hd,e2⟩:=zA e;simp only[hd,zL];split at e2
   ·obtain⟨ed,he,e3⟩:=zA e2;simp only[he,zL];split at e3
    ·obtain⟨h1,e4⟩:=zG e3;simp only[h1,zc];split at e4
     ·rename_i hs;obtain⟨h2,e5⟩:=zG e4;obtain⟨el,hl,e6⟩:=zA e5;rw[h _ _ hs];simp only[h2,zc,zEi h hl,zL];refine⟨e6,λv hv=>?_⟩
      simp only[Ag,As,or_false] at hv;rcases hv with rfl | rfl
      ·simp
      ·rintro rfl;simp[jg] at hl
     ·cases e4
    ·cases e3
   ·cases e2
  ·cases e
 ·cases e
theorem lenE_le(h:HLe hp hp'){ts:List TypeId}{args:List AV}{ef:Eff}(e:zCA E ts hp args=some ef):(zCA E ts hp' args=some ef/\∀v∈args,v≠.undef)\/(∃t n v,ts=[t]/\args=[v]/\ef={ v:=.d (.int .i64 n) }/\∀hp2 w,zCA E ts hp2 [w]=some ef):=by
 unfold zCA at e;split at e
 ·rename_i x;split at e
  ·rename_i t;obtain⟨td,hd,e2⟩:=zA e;split at e2
   ·rename_i hk;left;refine⟨by simp only[zCA,hd,zL,hk];exact e2,by simp⟩
   ·rename_i hk;left;refine⟨by simp only[zCA,hd,zL,hk];exact e2,by simp⟩
   ·rename_i hk;left;refine⟨by simp only[zCA,hd,zL,hk];exact e2,by simp⟩
   ·rename_i hk;left;refine⟨by simp only[zCA,hd,zL,hk];exact e2,by simp⟩
   ·rename_i hk;right;simp only[zk] at e2;injection e2 with e2
    exact⟨_,_,_,rfl,rfl,e2.symm,λhp2 w=>by simp only[zCA,hd,zL,hk,zk,e2]⟩
   ·rename_i hk;obtain⟨mv,hm,e3⟩:=zA e2;left;refine⟨by simp only[zCA,hd,zL,hk,zJW h hm];exact e3,?_⟩
    intro v hv;simp only[Ag,As,or_false] at hv;rintro rfl;subst hv;simp[zAC] at hm
   ·cases e2
  ·cases e
 ·cases e
theorem zDA{f:Int->Int->Int}{k:IntKind}:∀{a:Int} {vs:List AV} {m:Int},qV f k a vs=some m->∀v∈vs,v≠.undef
 | a,[],m,_,v,hv=>by simp at hv
 | a,u :: vs,m,e,v,hv=>by
  cases u with
  | d x =>
   cases x with
   | int k' b =>
    simp only[qV] at e;split at e
    ·rcases Ag.1 hv with rfl | hv
     ·simp
     ·exact zDA e v hv
    ·cases e
   | _=>simp[qV] at e
  | _=>simp[qV] at e
theorem maxE_noU{vs:List AV}{ef:Eff}(e:maxE vs=some ef):∀v∈vs,v≠.undef:=by
 unfold maxE at e;split at e
 ·obtain⟨m,h1,_⟩:=zA e;intro v hv;rcases Ag.1 hv with rfl | hv
  ·simp
  ·exact zDA h1 v hv
 ·cases e
theorem minE_noU{vs:List AV}{ef:Eff}(e:minE vs=some ef):∀v∈vs,v≠.undef:=by
 unfold minE at e;split at e
 ·obtain⟨m,h1,_⟩:=zA e;intro v hv;rcases Ag.1 hv with rfl | hv
  ·simp
  ·exact zDA h1 v hv
 ·cases e
theorem zDH{d n:Nat}{v:AV}(e:bound? d (some v)=some n):v≠.undef:=by rintro rfl;simp[bound?,asI] at e
theorem zF5(h:Le X s t){x:Option Operand}{v:Option AV}(e:QU E s.tm x=some v)(hv:v≠some .undef):QU E t.tm x=some v:=by
 cases x with
 | none=>exact e
 | some o =>
  simp only[QU] at e ⊢;obtain⟨u,h1,e1⟩:=zA e;injection e1 with e1;subst e1
  rw[Js h h1 (λhu=>hv (by rw[hu])),zL]
theorem sliceE_noU{t:TypeId}{x:AV}{lo hi mx:Option AV}{ef:Eff}(e:Yc E t x lo hi mx=some ef):x≠.undef/\lo≠some .undef/\hi≠some .undef/\mx≠some .undef:=by
 have bn:∀{d n:Nat} {o:Option AV},bound? d o=some n->o≠some .undef:=by rintro d n o e rfl;exact zDH e rfl
 unfold Yc at e;obtain⟨td,hd,e1⟩:=zA e;obtain⟨l,hl,e2⟩:=zA e1;split at e2
 ·obtain⟨m,hm,e3⟩:=zA e2;obtain⟨h1,e4⟩:=zG e3;simp only[decide_eq_true_eq] at h1;refine⟨by simp,bn hl,bn hm,?_⟩
  rintro rfl;simp at h1
 ·obtain⟨ed,_,e3⟩:=zA e2;obtain⟨m,hm,e4⟩:=zA e3;obtain⟨h1,e5⟩:=zG e4;refine⟨by simp,bn hl,bn hm,?_⟩
  rintro rfl;simp only at e5;obtain⟨q,hq,_⟩:=zA e5;exact zDH hq rfl
 ·obtain⟨ed,_,e3⟩:=zA e2;obtain⟨m,hm,e4⟩:=zA e3;obtain⟨h1,e5⟩:=zG e4;refine⟨by simp,bn hl,bn hm,?_⟩
  rintro rfl;simp only at e5;obtain⟨q,hq,_⟩:=zA e5;exact zDH hq rfl
 ·obtain⟨ed,_,e3⟩:=zA e2;obtain⟨m,hm,e4⟩:=zA e3;obtain⟨h1,e5⟩:=zG e4;simp only[decide_eq_true_eq] at h1;refine⟨by simp,bn hl,bn hm,?_⟩
  rintro rfl;simp at h1
 ·cases e2
theorem zJh{td:TD}{v:AV}(h:fits td v=true):v≠.undef:=by rintro rfl;unfold fits at h;split at h <;> simp at h
theorem effE_le(h:Le X s t){call:FuncId->List DV->Option CR}{op:Op}{d:Nat}{ef:Eff}(e:jj E call op d s.tm s.hp=some ef):∃ef',jj E call op d t.tm t.hp=some ef'/\LeE ef ef':=by
 have hh:=h.hle;have one:∀{x:Operand} {g g':AV->Option Eff},bnd (evO E s.tm x) g=some ef->(g .undef=some ef->False)->(∀v,g v=some ef->g' v=some ef)->∃ef',bnd (evO E t.tm x) g'=some ef'/\LeE ef ef':=by
  intro x g g' e hn hg;obtain⟨v,h1,e1⟩:=zA e;have hv:v≠.undef:=λhu=>hn (hu ▸ e1)
  exact⟨ef,by rw[Js h h1 hv,zL];exact hg v e1,LeE.refl ef⟩
 have mv:∀{x:Operand},bnd (evO E s.tm x) zk=some ef->∃ef',bnd (evO E t.tm x) zk=some ef'/\LeE ef ef':=by
  intro x e;obtain⟨v,h1,e1⟩:=zA e;obtain⟨w,h2,h3⟩:=ev_le h h1;simp only[zk] at e1;injection e1 with e1;subst e1
  exact⟨{ v:=w },by rw[h2,zL];rfl,h3,rfl,rfl,rfl,rfl⟩
 cases op <;> simp only[jj] at e ⊢ <;> try (cases e;done)
 case move x=>exact mv e
 case assign x=>exact mv e
 case pick c a b =>
  obtain⟨v,h1,e1⟩:=zA e;obtain⟨b0,h2,e2⟩:=zA e1;rw[Js h h1 (by rintro rfl;simp[asB] at h2),zL,h2,zL]
  exact mv e2
 case alloc ty=>exact⟨ef,e,LeE.refl ef⟩
 case box ty x =>
  refine one e (λe=>?_) λ_ h=>h
  obtain⟨td,_,e1⟩:=zA e;obtain⟨h1,_⟩:=zG e1;simp only[Ab] at h1;exact zJh h1.1 rfl
 case build ty ps =>
  obtain⟨vs,h1,e1⟩:=zA e;exact⟨ef,by rw[zBx h h1 (buildE_noU e1),zL];exact e1,LeE.refl ef⟩
 case buildSlice ty n ps =>
  obtain⟨vs,h1,e1⟩:=zA e;exact⟨ef,by rw[zBx h h1 (zDq e1),zL];exact e1,LeE.refl ef⟩
 case load ty a=>exact one e (λe=>by unfold Yg at e;obtain⟨td,_,e1⟩:=zA e;cases e1) λv e=>zJX hh e
 case store ty a x =>
  obtain⟨p,h1,e1⟩:=zA e;obtain⟨v,h2,e2⟩:=zA e1;have e3:=e2;unfold Y5 at e3;obtain⟨td,_,e4⟩:=zA e3;split at e4
  ·obtain⟨ob,_,e5⟩:=zA e4;obtain⟨_,e6⟩:=zG e5;obtain⟨hf,_⟩:=zG e6;exact⟨ef,by rw[Js h h1 (by simp),zL,Js h h2 (zJh hf),zL];exact storeE_le hh e2,LeE.refl ef⟩
  ·cases e4
 case nilCheck x=>exact one e (λe=>by cases e) λ_ h=>h
 case binOp op ty x y yt =>
  obtain⟨a,h1,e1⟩:=zA e;obtain⟨b,h2,e2⟩:=zA e1;split at e2
  ·exact⟨ef,by rw[Js h h1 (by simp),zL,Js h h2 (by simp),zL];exact e2,LeE.refl ef⟩
  ·cases e2
 case unOp op ty x=>exact one e (λe=>by cases e) λ_ h=>h
 case convert a b x=>exact one e (λe=>by cases e) λ_ h=>h
 case makeFunc f a c =>
  cases f <;> simp only[jj] at e ⊢ <;> try (cases e;done)
  obtain⟨a1,h1,e1⟩:=zA e;obtain⟨c1,h2,e2⟩:=zA e1;obtain⟨hg,e3⟩:=zG e2;simp only[Ab] at hg;have ns:∀{l:List AV},qO l=true->∀v∈l,v≠.undef:=by
   intro l;induction l with
   | nil=>intro _ v hv;simp at hv
   | cons u l ih =>
    intro hs v hv;simp only[qO,Ab] at hs;rcases Ag.1 hv with rfl | hv
    ·rintro rfl;simp[stores] at hs
    ·exact ih hs.2 v hv
  exact⟨ef,by rw[zAY h h1 (ns hg.1),zL,zAY h h2 (ns hg.2),zL];exact e2,LeE.refl ef⟩
 case makeMap ty n=>exact⟨ef,e,LeE.refl ef⟩
 case makeSlice ty l c =>
  obtain⟨a,h1,e1⟩:=zA e;obtain⟨b,h2,e2⟩:=zA e1;have e3:=e2;unfold Jq at e3;obtain⟨td,_,e4⟩:=zA e3;split at e4
  ·obtain⟨ed,_,e5⟩:=zA e4;obtain⟨n,hn,e6⟩:=zA e5;obtain⟨m,hm,e7⟩:=zA e6;exact⟨ef,by rw[Js h h1 (by rintro rfl;simp[asI] at hn),zL,Js h h2 (by rintro rfl;simp[asI] at hm),zL];exact e2,LeE.refl ef⟩
  ·cases e4
 case slice ty x lo hi mx =>
  obtain⟨a,h1,e1⟩:=zA e;obtain⟨b,h2,e2⟩:=zA e1;obtain⟨c,h3,e3⟩:=zA e2;obtain⟨m,h4,e4⟩:=zA e3;obtain⟨n1,n2,n3,n4⟩:=sliceE_noU e4;exact⟨ef,by rw[Js h h1 n1,zL,zF5 h h2 n2,zL,zF5 h h3 n3,zL,zF5 h h4 n4,zL];exact e4,LeE.refl ef⟩
 case fieldAddr ty x i =>
  refine one e (λe=>?_) λ_ h=>h
  unfold jy at e;obtain⟨td,_,e1⟩:=zA e;split at e1 <;> cases e1
 case field ty x i =>
  refine one e (λe=>?_) λ_ h=>h
  unfold zBT at e;obtain⟨td,_,e1⟩:=zA e;split at e1
  ·obtain⟨_,_,e2⟩:=zA e1;obtain⟨_,_,e3⟩:=zA e2;obtain⟨_,h4,_⟩:=zA e3;simp[zBt] at h4
  ·cases e1
 case indexAddr ty x i =>
  obtain⟨a,h1,e1⟩:=zA e;obtain⟨b,h2,e2⟩:=zA e1;have e3:=e2;unfold jb at e3;obtain⟨td,_,e4⟩:=zA e3;obtain⟨n,hn,e5⟩:=zA e4;have hb:b≠.undef:=by rintro rfl;simp[asI] at hn
  have ha:a≠.undef:=by
   rintro rfl;split at e5
   ·obtain⟨_,_,e6⟩:=zA e5;cases e6
   ·cases e5
   ·cases e5
  exact⟨ef,by rw[Js h h1 ha,zL,Js h h2 hb,zL];exact e2,LeE.refl ef⟩
 case index ty x i =>
  obtain⟨a,h1,e1⟩:=zA e;obtain⟨b,h2,e2⟩:=zA e1;have e3:=e2;unfold qJ at e3;obtain⟨td,_,e4⟩:=zA e3;obtain⟨n,hn,e5⟩:=zA e4;obtain⟨_,e6⟩:=zG e5;have hb:b≠.undef:=by rintro rfl;simp[asI] at hn
  have ha:a≠.undef:=by
   rintro rfl;split at e6
   ·obtain⟨_,_,e7⟩:=zA e6;obtain⟨_,h8,_⟩:=zA e7;simp[zBt] at h8
   ·cases e6
   ·cases e6
  exact⟨ef,by rw[Js h h1 ha,zL,Js h h2 hb,zL];exact e2,LeE.refl ef⟩
 case lookup ty m k ok =>
  obtain⟨a,h1,e1⟩:=zA e;obtain⟨b,h2,e2⟩:=zA e1;have e3:=e2;unfold JX at e3;obtain⟨td,_,e4⟩:=zA e3;split at e4
  ·obtain⟨_,_,e5⟩:=zA e4;obtain⟨_,_,e6⟩:=zA e5;split at e6
   ·obtain⟨_,e7⟩:=zG e6;obtain⟨mv,hm,_⟩:=zA e7;exact⟨ef,by rw[Js h h1 (by rintro rfl;simp[zAC] at hm),zL,Js h h2 (by simp),zL];exact lookupE_le hh e2,LeE.refl ef⟩
   ·cases e6
  ·cases e4
 case mapUpdate ty m k x =>
  obtain⟨a,h1,e1⟩:=zA e;obtain⟨b,h2,e2⟩:=zA e1;obtain⟨c,h3,e2'⟩:=zA e2;have e3:=e2';unfold jN at e3;obtain⟨td,_,e4⟩:=zA e3;split at e4
  ·obtain⟨_,_,e5⟩:=zA e4;obtain⟨_,_,e6⟩:=zA e5;split at e6
   ·exact⟨ef,by rw[Js h h1 (by simp),zL,Js h h2 (by simp),zL,Js h h3 (by simp),zL];exact zBN hh e2',LeE.refl ef⟩
   ·cases e6
  ·cases e4
 case insert ty m k x =>
  obtain⟨a,h1,e1⟩:=zA e;obtain⟨b,h2,e2⟩:=zA e1;obtain⟨c,h3,e2'⟩:=zA e2;have e3:=e2';unfold jN at e3;obtain⟨td,_,e4⟩:=zA e3;split at e4
  ·obtain⟨_,_,e5⟩:=zA e4;obtain⟨_,_,e6⟩:=zA e5;split at e6
   ·exact⟨ef,by rw[Js h h1 (by simp),zL,Js h h2 (by simp),zL,Js h h3 (by simp),zL];exact zBN hh e2',LeE.refl ef⟩
   ·cases e6
  ·cases e4
 case range ty x =>
  obtain⟨td,hd,e1⟩:=zA e;rw[hd,zL];split at e1
  ·exact one e1 (λe=>by cases e) λ_ h=>h
  ·cases e1
 case next i b=>exact one e (λe=>by cases e) λv e=>nextE_le hh e
 case extract x i=>exact one e (λe=>by cases e) λ_ h=>h
 case call c =>
  obtain⟨args,h1,e1⟩:=zA e;split at e1
  ·rename_i f hc;obtain⟨v,h2,e2⟩:=zA e1;have e3:=e2;unfold qs at e3;obtain⟨c1,h3,e4⟩:=zA e3;obtain⟨ds,h4,e5⟩:=zA e4;have hv:v≠.undef:=by rintro rfl;simp[YY] at h3
   have ha:∀u∈args,u≠.undef:=λu hu=>zGq h4 u (by simp[hu])
   exact⟨ef,by rw[zAY h h1 ha,zL];rw[Js h h2 hv,zL];exact callE_le hh e2,LeE.refl ef⟩
  ·rename_i hc;obtain⟨e2,ha⟩:=appendE_le hh e1;exact⟨ef,by rw[zAY h h1 ha,zL];exact e2,LeE.refl ef⟩
  ·rename_i hc;obtain⟨e2,ha⟩:=copyE_le hh e1;exact⟨ef,by rw[zAY h h1 ha,zL];exact e2,LeE.refl ef⟩
  ·rename_i hc;rcases lenE_le hh e1 with ⟨e2,ha⟩ | ⟨ty,n,v,hts,rfl,rfl,hall⟩
   ·exact⟨ef,by rw[zAY h h1 ha,zL];exact e2,LeE.refl ef⟩
   ·obtain⟨x,hx⟩:∃x,c.args.toList=[x]:=by
     cases hl:c.args.toList with
     | nil=>rw[hl] at h1;simp[evL] at h1
     | cons x r =>
      cases r with
      | nil=>exact⟨x,rfl⟩
      | cons y r =>
       rw[hl] at h1;simp only[evL] at h1;obtain⟨u,_,e2⟩:=zA h1;obtain⟨us,h3,e3⟩:=zA e2;obtain⟨u2,_,e4⟩:=zA h3;obtain⟨us2,_,e5⟩:=zA e4;injection e5 with e5;subst e5
       simp at e3
    rw[hx] at h1 ⊢;simp only[evL,zL] at h1 ⊢;obtain⟨u,h2,e2⟩:=zA h1;obtain⟨w,h3,_⟩:=ev_le h h2;rw[h3];simp only[zL];exact⟨_,hall _ _,LeE.refl _⟩
  ·rename_i hc;exact⟨ef,by rw[zAY h h1 (maxE_noU e1),zL];exact e1,LeE.refl ef⟩
  ·rename_i hc;exact⟨ef,by rw[zAY h h1 (minE_noU e1),zL];exact e1,LeE.refl ef⟩
  ·cases e1
end
section
variable{E:Env}{X:List Nat}{s t:St}{call:FuncId->List DV->Option CR}
theorem putT_get(tm:List AV)(d:Option Tmp)(v:AV)(i:Nat):(j5 tm d v)[i]? = if d=some i then (tm[i]?).map λ_=>v else tm[i]?:=by
 cases d with
 | none=>simp[j5]
 | some k =>
  simp only[j5,An];by_cases e:k=i
  ·subst e;rw[if_pos rfl];cases h:tm[k]? with
   | none =>
    have:=AU.1 h;rw[List.set_eq_of_length_le this,h];rfl
   | some u =>
    have hlt:k<tm.length:=(Ad.1 h).1;rw[Ai hlt];rfl
  ·rw[if_neg e,Az e]
theorem Le.put(h:Le X s t)(d:Option Tmp){v w:AV}(hv:Lev v w)(hs ht:List (Option OB))(hp:∀b,(hs[b]? = some none/\(ht[b]?).isSome=true/\b ∉ X)\/hs[b]? = ht[b]?) :
  Le X { tm:=j5 s.tm d v,hp:=hs } { tm:=j5 t.tm d w,hp:=ht }:=by
 refine⟨λi=>?_,hp⟩
 simp only[putT_get];by_cases e:d=some i
 ·simp only[if_pos e];rcases h.tm i with ⟨h1,h2⟩ | h1
  ·rw[h1];cases ht:t.tm[i]? with
   | none=>rw[ht] at h2;simp at h2
   | some u =>
    rcases hv with rfl | rfl
    ·exact .inl ⟨rfl,rfl⟩
    ·exact .inr rfl
  ·rw[h1];rcases hv with rfl | rfl
   ·cases t.tm[i]? with
    | none=>exact .inr rfl
    | some u=>exact .inl ⟨rfl,rfl⟩
   ·exact .inr rfl
 ·simp only[if_neg e];exact h.tm i
theorem FF_none(ef:Eff)(k b:Nat):FF ef k b none=none\/∃blk,ef.new=some blk/\b=k/\∀o,FF ef k b o=some ⟨false,blk⟩:=by
 have e:F3 ef b (F2 ef b (F1 ef b none))=none:=by
  have h1:F1 ef b none=none:=by unfold F1;split <;> rfl
  have h2:F2 ef b none=none:=by unfold F2;cases ef.upd with | none=>rfl | some p=>obtain⟨u,blk⟩:=p;simp only;split <;> rfl
  rw[h1,h2];unfold F3;split <;> rfl
 unfold FF;rw[e];unfold F4;cases hn:ef.new with
 | none=>exact .inl rfl
 | some blk =>
  simp only;by_cases hb:b=k
  ·simp only[if_pos hb];exact .inr ⟨blk,rfl,hb,λ_=>rfl⟩
  ·simp only[if_neg hb];exact .inl trivial
theorem Le.apply(h:Le X s t){ef ef':Eff}(he:LeE ef ef')(d:Option Tmp)(k:Nat):Le X (zq ef d k s) (zq ef' d k t):=by
 obtain⟨hv,h1,h2,h3,h4⟩:=he;have hFF:FF ef' k=FF ef k:=by funext b o;unfold FF F1 F2 F3 F4;rw[h1,h2,h3,h4]
 have:=h.put d hv (zq ef d k s).hp (zq ef' d k t).hp λb=>?_
 ·exact this
 ·rw[YD,YD,hFF];rcases h.hp b with ⟨g1,g2,g3⟩ | g1
  ·rw[g1];cases ht:t.hp[b]? with
   | none=>rw[ht] at g2;simp at g2
   | some o =>
    simp only[AD];rcases FF_none ef k b with e | ⟨blk,_,_,e⟩
    ·rw[e];exact .inl ⟨rfl,rfl,g3⟩
    ·rw[e,e];exact .inr rfl
  ·rw[g1];exact .inr rfl
theorem Le.clear(h:Le X s t)(b:Nat):Le X (Am.clear b s) (Am.clear b t):=by
 refine⟨λi=>?_,λc=>?_⟩
 ·simp only[Am.clear,Y3,Aj];rcases h.tm i with ⟨h1,h2⟩ | h1
  ·left;rw[h1];refine⟨rfl,?_⟩;cases ht:t.tm[i]? with
   | none=>rw[ht] at h2;simp at h2
   | some u=>rfl
  ·rw[h1];exact .inr rfl
 ·simp only[Am.clear];by_cases e:c=b
  ·subst e;right;rcases h.hp c with ⟨h1,h2,_⟩ | h1
   ·have l1:c<s.hp.length:=(Ad.1 h1).1;have l2:c<t.hp.length:=by
     cases ht:t.hp[c]? with
     | none=>rw[ht] at h2;simp at h2
     | some u=>exact(Ad.1 ht).1
    rw[Ai (by simpa using l1),Ai (by simpa using l2)]
   ·by_cases l1:c<s.hp.length
    ·have l2:c<t.hp.length:=by rw[Ac l1] at h1;exact(Ad.1 h1.symm).1
     rw[Ai (by simpa using l1),Ai (by simpa using l2)]
    ·have l2:¬c<t.hp.length:=by
      rw[Ar (by omega)] at h1
      have:=AU.1 h1.symm;omega
     rw[Ar (by simp;omega),Ar (by simp;omega)]
  ·rw[Az (Ne.symm e),Az (Ne.symm e)];simp only[Aj];rcases h.hp c with ⟨h1,h2,h3⟩ | h1
   ·left;rw[h1];refine⟨rfl,?_,h3⟩;cases ht:t.hp[c]? with
    | none=>rw[ht] at h2;simp at h2
    | some u=>rfl
   ·rw[h1];exact .inr rfl
theorem Le.more{Y:List Nat}(h:Le X s t)(hY:∀b∈Y,s.hp[b]? = t.hp[b]?):Le Y s t:=by
 refine⟨h.tm,λb=>?_⟩
 by_cases hb:b∈Y
 ·exact .inr (hY b hb)
 ·rcases h.hp b with ⟨h1,h2,_⟩ | h1
  ·exact .inl ⟨h1,h2,hb⟩
  ·exact .inr h1
theorem Le.less{Y:List Nat}(h:Le X s t)(hY:∀b∈Y,b∈X):Le Y s t :=
 h.more λb hb=>by
  rcases h.hp b with ⟨_,_,h1⟩ | h1
  ·exact absurd (hY b hb) h1
  ·exact h1
theorem zBa{b:Nat}{u:St}:(Am.clear b u).hp[b]? = (u.hp[b]?).map λ_=>none:=by
 simp only[Am.clear];by_cases l:b<u.hp.length
 ·rw[Ai (by simpa using l),Ac l];rfl
 ·rw[Ar (by simp;omega),Ar (by omega)];rfl
theorem Le.len(h:Le X s t)(b:Nat):(s.hp[b]?).isSome=(t.hp[b]?).isSome:=by
 rcases h.hp b with ⟨h1,h2,_⟩ | h1
 ·rw[h1,h2];rfl
 ·rw[h1]
theorem Le.clearL:∀{L X:List Nat} {s t:St},Le X s t->Le (X++L) (Am.clearL L s) (Am.clearL L t)
 | [],X,s,t,h=>by simpa[Am.clearL] using h
 | b :: L,X,s,t,h=>by
  simp only[Am.clearL];have h1:Le (X++[b]) (Am.clear b s) (Am.clear b t):=by
   refine(h.clear b).more λc hc=>?_
   simp only[List.mem_append,Ag,As,or_false] at hc;by_cases e:c=b
   ·subst e;rw[zBa,zBa];have:=h.len c;cases h1:s.hp[c]? <;> cases h2:t.hp[c]? <;> simp[h1,h2] at this ⊢
   ·rcases hc with hc | hc
    ·rcases (h.clear b).hp c with ⟨_,_,k⟩ | k
     ·exact absurd hc k
     ·exact k
    ·exact absurd hc e
  have:=h1.clearL (L:=L);simpa[AM] using this
theorem zHA(h:Le X s t){ops:List Oper}{o:Oper}{b:Bool}(e:jv ops o s.tm=some b):jv ops o t.tm=some b:=by
 unfold jv at e ⊢;split at e
 ·exact e
 ·split at e
  ·split at e
   ·rename_i i hi;rcases h.tm i with ⟨h1,h2⟩ | h1
    ·rw[h1] at e;simp at e
    ·rw[<-h1];exact e
   ·cases e
  ·cases e
theorem zI9(h:Le X s t){o:Oper}{s':St}(e:YU E call o s=some s'):∃t',YU E call o t=some t'/\Le X s' t':=by
 unfold YU at e ⊢;obtain⟨ef,h1,e1⟩:=zA e;obtain⟨h2,e2⟩:=zG e1;obtain⟨ef',h3,h4⟩:=effE_le h h1;have hok:ef'.ok=ef.ok:=by unfold Eff.ok;rw[h4.2.2.1,h4.2.2.2.1,h4.2.2.2.2]
 rw[h3,zL,hok,h2,zc];have hn:=h4.2.1;rw[hn];cases hnew:ef.new with
 | none =>
  rw[hnew] at e2;simp only at e2 ⊢;injection e2 with e2;subst e2
  exact⟨_,rfl,h.apply h4 _ _⟩
 | some blk =>
  rw[hnew] at e2;simp only at e2 ⊢;obtain⟨h5,e3⟩:=zG e2;injection e3 with e3;subst e3
  rw[h5,zc];exact⟨_,rfl,(h.clear _).apply h4 _ _⟩
theorem stepF_le(h:Le X s t){loud:Bool}{may:Option Nat}{o:Oper}(hX:owns o.op=true->o.dst.isSome=true->zg o∈X){s':St}(e:zCR E call loud may o s=some s'):∃t',zCR E call loud may o t=some t'/\Le X s' t':=by
 unfold zCR at e ⊢;obtain⟨ef,h1,e1⟩:=zA e;obtain⟨h2,e2⟩:=zG e1;obtain⟨ef',h3,h4⟩:=effE_le h h1;have hok:(ef'.ok && (loud || (ef'.upd.isNone && (ef'.kil.isNone || ef'.kil == may))))=(ef.ok && (loud || (ef.upd.isNone && (ef.kil.isNone || ef.kil == may)))):=by unfold Eff.ok;rw[h4.2.2.1,h4.2.2.2.1,h4.2.2.2.2]
 rw[h3,zL,hok,h2,zc];rw[h4.2.1];cases hnew:ef.new with
 | none =>
  rw[hnew] at e2;simp only at e2 ⊢;injection e2 with e2;subst e2
  exact⟨_,rfl,h.apply h4 _ _⟩
 | some blk =>
  rw[hnew] at e2;simp only at e2 ⊢;obtain⟨h5,e3⟩:=zG e2;injection e3 with e3;subst e3
  simp only[Ab] at h5;have hin:zg o∈X:=hX ((Qq h1).new (by rw[hnew];rfl)) h5.1.1
  have hsl:(slot t.hp (zg o)).isNone=true:=by
   rcases h.hp (zg o) with ⟨_,_,k⟩ | k
   ·exact absurd hin k
   ·rw[JW,<-k,<-JW];exact h5.2
  rw[h5.1.1,h5.1.2,hsl];exact⟨_,rfl,h.apply h4 _ _⟩
theorem zC2{ops:List Oper}{r:CR}:∀{l:List Oper} {s t:St} {K K':St->Option CR},Le X s t->(∀s t,Le X s t->K s=some r->K' t=some r) ->
  Qh (YU E call) ops l s K=some r->Qh (YU E call) ops l t K'=some r
 | [],s,t,K,K',h,hK,e=>hK s t h e
 | o :: l,s,t,K,K',h,hK,e=>by
  simp only[Qh] at e ⊢;obtain⟨g,h1,e1⟩:=zA e;rw[zHA h h1,zL];cases g with
  | true =>
   simp only at e1 ⊢;obtain⟨s',h2,e2⟩:=zA e1;obtain⟨t',h3,h4⟩:=zI9 h h2;rw[h3,zL];exact zC2 h4 hK e2
  | false =>
   simp only at e1 ⊢;exact zC2 (h.put o.dst (.inr rfl) s.hp t.hp h.hp) hK e1
theorem Q6{ops:List Oper}{r:CR}:∀{l:List (Oper×Bool)} {s t:St} {K K':St->Option CR},(∀o,(o,false)∈l->owns o.op=true->o.dst.isSome=true->zg o∈X)->Le X s t->(∀s t,Le X s t->K s=some r->K' t=some r) ->
  Ya E call ops l s K=some r->Ya E call ops l t K'=some r
 | [],s,t,K,K',_,h,hK,e=>hK s t h e
 | (o,pv) :: l,s,t,K,K',hX,h,hK,e=>by
  simp only[Ya] at e ⊢;obtain⟨g,h1,e1⟩:=zA e;rw[zHA h h1,zL];have hX':∀o,(o,false)∈l->owns o.op=true->o.dst.isSome=true->zg o∈X:=λo ho=>hX o (by simp[ho])
  cases g with
  | true =>
   simp only at e1 ⊢;obtain⟨s',h2,e2⟩:=zA e1;cases pv with
   | true =>
    simp only at h2 ⊢;obtain⟨t',h3,h4⟩:=zI9 h h2;rw[h3,zL];exact Q6 hX' h4 hK e2
   | false =>
    simp only at h2 ⊢;obtain⟨t',h3,h4⟩:=stepF_le h (hX o (by simp)) h2
    rw[h3,zL];exact Q6 hX' h4 hK e2
  | false =>
   simp only at e1 ⊢;exact Q6 hX' (h.put o.dst (.inr rfl) s.hp t.hp h.hp) hK e1
theorem zHZ{ops:List Oper}{draw:Bool}{r:CR}{K K':St->Option CR}(h:Le [] s t)(hK:∀s t,Le [] s t->K s=some r->K' t=some r)
  (e:Je E call ops draw s K=some r):Je E call ops draw t K'=some r:=by
 cases draw with
 | false=>exact zC2 h hK e
 | true =>
  simp only[Je] at e ⊢;obtain⟨h1,e1⟩:=zG e;rw[h1,zc];have h2:=h.clearL (L:=anews ops);refine Q6 (λo ho hw hd=>?_) h2 (λs t hst=>hK s t (hst.less (by simp))) e1
  rw[A5] at ho;obtain⟨⟨o',i⟩,hm,ho⟩:=ho;simp only[Prod.mk.injEq] at ho;obtain⟨rfl,hpv⟩:=ho;have hi:ops[i]? = some o':=by have:=List.mem_zipIdx_iff_getElem?.1 hm;simpa using this
  obtain⟨d,hd'⟩:=Af.1 hd;simp only[Ao,zg,hd',Bf];exact zG4 hi hpv hw hd'
def Mono(r:CR)(K K':Ex->St->Option CR):Prop:=∀e s t,Le [] s t->K e s=some r->K' e t=some r
theorem zCP{r:CR}{f f':St->Option CR}{K K':Ex->St->Option CR}(hf:∀s t,Le [] s t->f s=some r->f' t=some r)(hK:Mono r K K'):Mono r (QR f K) (QR f' K'):=by
 intro e s t h1 h2;cases e with
 | normal=>exact hf s t h1 h2
 | exit i=>exact hK (.exit i) s t h1 h2
 | ret=>exact hK .ret s t h1 h2
theorem zHK{r:CR}{K K':Ex->St->Option CR}(id:Nat)(hK:Mono r K K'):Mono r (Qu id K) (Qu id K'):=by
 intro e s t h1 h2;cases e with
 | normal=>exact hK .normal s t h1 h2
 | ret=>exact hK .ret s t h1 h2
 | exit i =>
  simp only[Qu] at h2 ⊢;split at h2
  ·rename_i he;rw[if_pos he];exact hK .normal s t h1 h2
  ·rename_i he;rw[if_neg he];exact hK (.exit i) s t h1 h2
theorem zFz{r:CR}{body:St->(Ex->St->Option CR)->Option CR}(hb:∀s t K K',Le [] s t->Mono r K K'->body s K=some r->body t K'=some r) :
  ∀(n:Nat) {s t:St} {K K':Ex->St->Option CR},Le [] s t->Mono r K K'->zAE body n s K=some r->zAE body n t K'=some r
 | 0,s,t,K,K',h,hK,e=>by simp[zAE] at e
 | n+1,s,t,K,K',h,hK,e=>hb s t _ _ h (zCP (λs t hst e=>zFz hb n hst hK e) hK) e
theorem zH5{r:CR}{m:Nat}:∀(c:Code) {s t:St} {K K':Ex->St->Option CR},Le [] s t->Mono r K K'->exec E m call c s K=some r->exec E m call c t K'=some r:=by
 intro c;induction c with
 | skip=>intro s t K K' h hK e;exact hK .normal s t h e
 | label l=>intro s t K K' h hK e;exact hK .normal s t h e
 | region id ops draw=>intro s t K K' h hK e;exact zHZ h (λs t hst=>hK .normal s t hst) e
 | seq a b iha ihb=>intro s t K K' h hK e;exact iha h (zCP (λs t hst e=>ihb hst hK e) hK) e
 | cond c a b iha ihb =>
  intro s t K K' h hK e;simp only[exec] at e ⊢;obtain⟨v,h1,e1⟩:=zA e;obtain⟨x,h2,e2⟩:=zA e1;rw[Js h h1 (by rintro rfl;simp[asB] at h2),zL,h2,zL]
  cases x with
  | true=>exact iha h hK e2
  | false=>exact ihb h hK e2
 | block id c ih=>intro s t K K' h hK e;exact ih h (zHK id hK) e
 | scope c ih=>intro s t K K' h hK e;exact ih h hK e
 | loop c ih=>intro s t K K' h hK e;exact zFz (λs t K K' h hK e=>ih h hK e) m h hK e
 | exit id=>intro s t K K' h hK e;exact hK (.exit id) s t h e
 | ret=>intro s t K K' h hK e;exact hK .ret s t h e
 | _=>intro s t K K' h hK e;simp[exec] at e
theorem zCU(h:Le [] s t):∀{rs:List ResultVar} {vs:List AV},zDl E s rs=some vs->(∀v∈vs,v≠.undef)->zDl E t rs=some vs
 | [],vs,e,_=>e
 | x :: rs,vs,e,hn=>by
  simp only[zDl] at e ⊢;obtain⟨v,h1,e1⟩:=zA e;obtain⟨us,h2,e2⟩:=zA e1;injection e2 with e2;subst e2
  rw[zCU h h2 λu hu=>hn u (by simp[hu])]
  have hv:v≠.undef:=hn v (by simp)
  have:zIG E t x=some v:=by
   cases x with
   | tmp i =>
    simp only[zIG] at h1 ⊢;rcases h.tm i with ⟨g1,_⟩ | g1
    ·rw[g1] at h1;injection h1 with h1;exact absurd h1.symm hv
    ·rw[<-g1];exact h1
   | cell a ty =>
    simp only[zIG] at h1 ⊢;obtain⟨p,g1,e3⟩:=zA h1;obtain⟨ef,g2,e4⟩:=zA e3;have hp:p≠.undef:=by rintro rfl;unfold Yg at g2;obtain⟨td,_,e5⟩:=zA g2;cases e5
    rcases h.tm a with ⟨k1,_⟩ | k1
    ·rw[k1] at g1;injection g1 with g1;exact absurd g1.symm hp
    ·rw[<-k1,g1,zL,zJX h.hle g2,zL];exact e4
  rw[this];rfl
theorem freshR_noU{v:AV}{r:CR}(e:zAX s v=some r):v≠.undef:=by rintro rfl;simp[zAX] at e
theorem freshR_le(h:Le [] s t){v:AV}{r:CR}(e:zAX s v=some r):zAX t v=some r:=by
 unfold zAX at e ⊢;split at e
 ·exact e
 ·split at e
  ·rename_i hs;rw[h.hle _ _ hs];exact e
  ·cases e
 ·cases e
theorem fin_le(h:Le [] s t){fresh:Bool}{fn:Func}{r:CR}(e:fin E fresh fn s=some r):fin E fresh fn t=some r:=by
 unfold fin at e ⊢;obtain⟨vs,h1,e1⟩:=zA e;split at e1
 ·rename_i v;cases fresh with
  | true =>
   simp only at e1;rw[zCU h h1 (by intro u hu;simp only[Ag,As,or_false] at hu;subst hu;exact freshR_noU e1),zL]
   exact freshR_le h e1
  | false =>
   simp only at e1;obtain⟨x,h2,e2⟩:=zA e1;rw[zCU h h1 (by intro u hu;simp only[Ag,As,or_false] at hu;subst hu;rintro rfl;rw[zEI] at h2;cases h2),zL]
   simp only[QH h.hle _ _ _ h2,zL];exact e2
 ·rename_i hne;obtain⟨xs,h2,e2⟩:=zA e1;rw[zCU h h1 (zGq h2),zL];split
  ·rename_i v;exact absurd rfl (hne v)
  ·rw[zJA h.hle h2,zL];exact e2
end
theorem zG7(live:List Nat):∀(n:Nat) (tm:List AV) (i:Nat),((zEW live n tm)[i]? = some .undef/\(tm[i]?).isSome=true)\/(zEW live n tm)[i]? = tm[i]?
 | n,[],i=>.inr rfl
 | n,v :: r,0=>by
  simp only[zEW,Av];split
  ·exact .inr rfl
  ·exact .inl ⟨rfl,rfl⟩
 | n,v :: r,i+1=>by simp only[zEW,A4];exact zG7 live (n+1) r i
theorem zG8(ss:List Nat):∀(n:Nat) (hp:List (Option OB)) (b:Nat),((zIP ss n hp)[b]? = some none/\(hp[b]?).isSome=true)\/(zIP ss n hp)[b]? = hp[b]?
 | n,[],b=>.inr rfl
 | n,o :: r,0=>by
  simp only[zIP,Av];split
  ·exact .inr rfl
  ·exact .inl ⟨rfl,rfl⟩
 | n,o :: r,b+1=>by simp only[zIP,A4];exact zG8 ss (n+1) r b
theorem Jf(L:List Nat)(st:St):Le [] (forget L st) st:=by
 refine⟨zG7 L 0 st.tm,λb=>?_⟩
 rcases zG8 ((zEW L 0 st.tm).flatMap (reach st.hp zx)) 0 st.hp b with ⟨h1,h2⟩ | h1
 ·exact .inl ⟨h1,h2,by simp⟩
 ·exact .inr h1
end Go.Am
namespace Go.Am
open Go.Proofs
open Go Go.RowKit
theorem frcV_eq(v:AV)(k:AV->Tr):frcV v k=k v:=by cases v <;> rfl
theorem zH1:∀(l:List AV) (k:List AV->Tr),frcL l k=k l
 | [],k=>rfl
 | v :: r,k=>by simp only[frcL,frcV_eq,zH1 r]
theorem frcB_eq(b:Blk)(k:Blk->Tr):frcB b k=k b:=by cases b <;> simp only[frcB,zH1]
theorem frcZ_eq(z:Bool)(k:Bool->Tr):frcZ z k=k z:=by cases z <;> rfl
theorem zH2:∀(l:List (Option OB)) (k:List (Option OB)->Tr),frcH l k=k l
 | [],k=>rfl
 | none :: r,k=>by simp only[frcH,zH2 r]
 | some ⟨z,b⟩ :: r,k=>by simp only[frcH,frcZ_eq,frcB_eq,zH2 r]
theorem zBQ(st:St)(k:St->Tr):frc st k=k st:=by simp only[frc,zH1,zH2]
theorem zFr{l:List AV}{i:Nat}{v:AV}(h:l[i]? = some v):l.set i v=l:=by
 apply List.ext_getElem?;intro j;by_cases e:i=j
 ·subst e;have hlt:i<l.length:=(Ad.1 h).1;rw[Ai hlt,h]
 ·rw[Az e]
section
variable{E:Env}{X:XC}{F:XF}{call:FuncId->List DV->Option CR}{go:Nat->St->Option CR}{r:CR}
theorem zEa{ops:List Oper}{o:Oper}{tm:List AV}{k:Bool->List AV->Tr}(h:run call go (zIQ ops o tm k)=some r):∃b,jv ops o tm=some b/\run call go (k b tm)=some r:=by
 unfold zIQ at h;unfold jv;split at h
 ·rename_i hg;rw[hg];exact⟨true,rfl,h⟩
 ·rename_i j want hg;rw[hg];simp only;split at h
  ·rename_i g hj;rw[hj];simp only;split at h
   ·rename_i t ht;rw[ht];simp only;split at h
    ·rename_i b hb;rw[hb];simp only;rcases Qf h with ⟨h1,h⟩ | ⟨h1,h⟩
     ·subst h1;rw[zFr hb] at h;cases want
      ·exact⟨false,rfl,h⟩
      ·exact⟨true,rfl,h⟩
     ·subst h1;rw[zFr hb] at h;cases want
      ·exact⟨true,rfl,h⟩
      ·exact⟨false,rfl,h⟩
    ·rename_i hb;rw[hb];exact⟨false,rfl,h⟩
    ·exact zj h
   ·exact zj h
  ·exact zj h
theorem setK_eq:∀(l:List AV) (i:Nat) (v:AV) (k:List AV->Tr),setK l i v k=k (l.set i v)
 | [],i,v,k=>rfl
 | x :: r,0,v,k=>by simp only[setK,frcV_eq,List.set_cons_zero]
 | x :: r,n+1,v,k=>by simp only[setK,setK_eq r n v,List.set_cons_succ]
theorem zJL(tm:List AV)(d:Option Tmp)(v:AV)(k:List AV->Tr):putK' tm d v k=k (j5 tm d v):=by
 cases d with
 | none=>rfl
 | some t=>exact setK_eq tm t v k
theorem zGx{ef:Eff}(h:ef.quiet=true):ef={ v:=ef.v }:=by obtain⟨v,n,u,k,f⟩:=ef;unfold Eff.quiet at h;cases n <;> cases u <;> cases k <;> cases f <;> simp at h ⊢
theorem zEG{o:Oper}{st:St}{k:St->Tr}(h:run call go (zIE E X F o st k)=some r):∃st',YU E (j6 E call) o st=some st'/\run call go (k st')=some r:=by
 unfold zIE at h;obtain⟨ef,h1,h0⟩:=opX_run h;clear h;cases hq:ef.quiet with
 | true =>
  rw[hq] at h0;simp only at h0;rw[zJL] at h0;have e:=zGx hq;refine⟨⟨j5 st.tm o.dst ef.v,st.hp⟩,?_,h0⟩;unfold YU;rw[h1,zL,e];simp[Eff.ok,zq,freezeL,zHo,zEV]
 | false =>
 rw[hq] at h0;have h:=h0;clear h0;obtain⟨h2,h⟩:=zm h;unfold YU;rw[h1,zL,h2,zc];split at h
 ·rename_i hn;rw[zBQ] at h;rw[hn];exact⟨_,rfl,h⟩
 ·rename_i b hn;obtain⟨h3,h⟩:=zm h;rw[zBQ] at h;rw[hn];simp only[h3,zc];exact⟨_,rfl,h⟩
theorem stepFX_run{loud:Bool}{may:Option Nat}{o:Oper}{st:St}{k:St->Tr}(h:run call go (stepFX E X F loud may o st k)=some r):∃st',zCR E (j6 E call) loud may o st=some st'/\run call go (k st')=some r:=by
 unfold stepFX at h;obtain⟨ef,h1,h0⟩:=opX_run h;clear h;cases hq:ef.quiet with
 | true =>
  rw[hq] at h0;simp only at h0;rw[zJL] at h0;have e:=zGx hq;refine⟨⟨j5 st.tm o.dst ef.v,st.hp⟩,?_,h0⟩;unfold zCR;rw[h1,zL,e];simp[Eff.ok,zq,freezeL,zHo,zEV]
 | false =>
 rw[hq] at h0;have h:=h0;clear h0;obtain⟨h2,h⟩:=zm h;unfold zCR;rw[h1,zL,h2,zc];split at h
 ·rename_i hn;rw[zBQ] at h;rw[hn];exact⟨_,rfl,h⟩
 ·rename_i b hn;obtain⟨h3,h⟩:=zm h;rw[zBQ] at h;rw[hn];simp only[h3,zc];exact⟨_,rfl,h⟩
theorem zAk{ops:List Oper}:∀{l:List Oper} {st:St} {Kx:St->Tr} {K:St->Option CR},(∀st,run call go (Kx st)=some r->K st=some r) ->
  run call go (zCi E X F ops l st Kx)=some r->Qh (YU E (j6 E call)) ops l st K=some r
 | [],st,Kx,K,hK,h=>hK st h
 | o :: l,st,Kx,K,hK,h=>by
  simp only[zCi] at h;obtain⟨b,h1,h⟩:=zEa h;simp only[Qh,h1,zL];cases b with
  | true =>
   obtain⟨st',h2,h⟩:=zEG h;have h2':YU E (j6 E call) o st=some st':=h2;simp only[h2',zL];exact zAk hK h
  | false=>exact zAk hK h
theorem qC{ops:List Oper}:∀{l:List (Oper×Bool)} {st:St} {Kx:St->Tr} {K:St->Option CR},(∀st,run call go (Kx st)=some r->K st=some r) ->
  run call go (Qi E X F ops l st Kx)=some r->Ya E (j6 E call) ops l st K=some r
 | [],st,Kx,K,hK,h=>hK st h
 | (o,pv) :: l,st,Kx,K,hK,h=>by
  simp only[Qi] at h;obtain⟨b,h1,h⟩:=zEa h;simp only[Ya,h1,zL];cases b with
  | true =>
   cases pv with
   | true =>
    obtain⟨st',h2,h⟩:=zEG h;have h2':YU E (j6 E call) o st=some st':=h2;simp only[h2',zL];exact qC hK h
   | false =>
    obtain⟨st',h2,h⟩:=stepFX_run h;have h2':zCR E (j6 E call) (cls ops o.op).loud (qn ops o.op) o st=some st':=h2;simp only[h2',zL];exact qC hK h
  | false=>exact qC hK h
theorem zD0{ops:List Oper}{draw:Bool}{st:St}{Kx:St->Tr}{K:St->Option CR}(hK:∀st,run call go (Kx st)=some r->K st=some r)
  (h:run call go (zBk E X F ops draw st Kx)=some r):Je E (j6 E call) ops draw st K=some r:=by
 cases draw with
 | false=>exact zAk hK h
 | true =>
  simp only[zBk] at h;obtain⟨h1,h⟩:=zm h;rw[zBQ] at h;simp only[Je,h1,zc];exact qC hK h
theorem zJC{st:St}{c:Operand}{v:AV}{b:Bool}(h1:evO E st.tm c=some v)(h2:asB v=some b):setTm st c b=st:=by
 cases c with
 | tmp t =>
  simp only[evO] at h1;have hv:v=.d (.bool b):=by
   unfold asB at h2;split at h2
   ·injection h2 with h2;rw[h2]
   ·cases h2
  subst hv;simp only[setTm,zFr h1]
 | _=>rfl
end
section
variable{E:Env}{X:XC}{F:XF}{call:FuncId->List DV->Option CR}{head:Nat->St->Tr}{r:CR}{M:Nat}
def InL(c:Code)(n q j:Nat):Prop:=(n<=j/\j<n+z7 c/\j<1000)\/(1000+q<=j/\j<1000+q+j8 c)
theorem zF2{j n q:Nat}(h:(j<1000/\j<n)\/(1000<=j/\j<1000+q)):inA j n q=true:=by
 unfold inA;rcases h with ⟨h1,h2⟩ | ⟨h1,h2⟩
 ·simp[h1,h2]
 ·rw[decide_eq_false (by omega)];simp[h2]
theorem zG9{j n q:Nat}(h:(j<1000/\n<=j)\/(1000<=j/\1000+q<=j)):inA j n q=false:=by
 unfold inA;rcases h with ⟨h1,h2⟩ | ⟨h1,h2⟩
 ·simp[h1,h2]
 ·rw[decide_eq_false (by omega)];simp[h2]
theorem zDC:∀(c:Code) (m0:Nat) (_:m0<=M) (n q:Nat) (_:n+z7 c<=1000) (Kx:Ex->St->Tr) (K:Ex->St->Option CR),
  (∀j,InL c n q j->∀st,head j st=Jj E X F j c n q Kx st) ->
  (∀p,p<=m0->∀e st,run call (goX call head p) (Kx e st)=some r->K e st=some r)->Mono r K K ->
  ∀p,p<=m0->∀st,run call (goX call head p) (J0 E X F c n q st Kx)=some r->exec E M (j6 E call) c st K=some r:=by
 intro c;induction c with
 | skip=>intro m0 hM n q hN Kx K hh hK hm p hp st h;exact hK p hp .normal st h
 | label l=>intro m0 hM n q hN Kx K hh hK hm p hp st h;exact hK p hp .normal st h
 | region id ops draw=>intro m0 hM n q hN Kx K hh hK hm p hp st h;exact zD0 (λst=>hK p hp .normal st) h
 | seq a b iha ihb =>
  intro m0 hM n q hN Kx K hh hK hm p hp st h;have hla:z7 (.seq a b)=z7 a+z7 b:=rfl;have hsa:j8 (.seq a b)=j8 a+j8 b+1:=rfl;have hb:∀m,m<=m0->∀st,run call (goX call head m) (J0 E X F b (n+z7 a) (q+1+j8 a) st Kx)=some r->exec E M (j6 E call) b st K=some r:=by
   refine ihb m0 hM (n+z7 a) (q+1+j8 a) (by omega) Kx K (λj hj st=>?_) hK hm
   unfold InL at hj;rw[hh j (by unfold InL;omega)]
   simp only[Jj,decide_eq_false (show ¬j=1000+q by omega),zG9 (j:=j) (n:=n+z7 a) (q:=q+1+j8 a) (by omega)]
  have hmono:Mono r (QR (λst'=>exec E M (j6 E call) b st' K) K) (QR (λst'=>exec E M (j6 E call) b st' K) K):=zCP (λs t hst e=>zH5 b hst hm e) hm
  show exec E M (j6 E call) a st (QR (λst'=>exec E M (j6 E call) b st' K) K)=some r
  simp only[J0] at h;cases hc:F.cuts.lookup q with
  | none =>
   rw[hc] at h;refine iha m0 hM n (q+1) (by omega) (zBi (λst'=>J0 E X F b (n+z7 a) (q+1+j8 a) st' Kx) Kx) _ (λj hj st=>?_) (λp hp e st h=>?_) hmono p hp st h
   ·unfold InL at hj;rw[hh j (by unfold InL;omega)]
    simp only[Jj,decide_eq_false (show ¬j=1000+q by omega),zF2 (j:=j) (n:=n+z7 a) (q:=q+1+j8 a) (by omega),hc]
   ·cases e with
    | normal=>exact hb p hp st h
    | exit i=>exact hK p hp (.exit i) st h
    | ret=>exact hK p hp .ret st h
  | some live =>
   rw[hc] at h;refine iha m0 hM n (q+1) (by omega) (zBi (λst'=>frc (forget live st') (.goto (1000+q))) Kx) _ (λj hj st=>?_) (λp hp e st h=>?_) hmono p hp st h
   ·unfold InL at hj;rw[hh j (by unfold InL;omega)]
    simp only[Jj,decide_eq_false (show ¬j=1000+q by omega),zF2 (j:=j) (n:=n+z7 a) (q:=q+1+j8 a) (by omega),hc]
   ·cases e with
    | normal =>
     simp only[zBi,zBQ,run] at h;show exec E M (j6 E call) b st K=some r;cases p with
     | zero=>simp[goX] at h
     | succ p =>
      simp only[goX] at h;rw[hh (1000+q) (by unfold InL;omega)] at h
      simp only[Jj,decide_true] at h;exact zH5 b (Jf _ st) hm (hb p (by omega) _ h)
    | exit i=>exact hK p hp (.exit i) st h
    | ret=>exact hK p hp .ret st h
 | cond c a b iha ihb =>
  intro m0 hM n q hN Kx K hh hK hm p hp st h;have hla:z7 (.cond c a b)=z7 a+z7 b:=rfl;have hsa:j8 (.cond c a b)=j8 a+j8 b:=rfl;simp only[J0] at h;obtain⟨v,h1,h⟩:=ze h;obtain⟨t,h2,h⟩:=ze h;simp only[exec,h1,h2,zL];rcases Qf h with ⟨h3,h⟩ | ⟨h3,h⟩
  ·subst h3;rw[zJC h1 h2] at h;refine iha m0 hM n q (by omega) Kx K (λj hj st=>?_) hK hm p hp st h
   unfold InL at hj;rw[hh j (by unfold InL;omega)]
   simp only[Jj,zF2 (j:=j) (n:=n+z7 a) (q:=q+j8 a) (by omega)]
  ·subst h3;rw[zJC h1 h2] at h;refine ihb m0 hM (n+z7 a) (q+j8 a) (by omega) Kx K (λj hj st=>?_) hK hm p hp st h
   unfold InL at hj;rw[hh j (by unfold InL;omega)]
   simp only[Jj,zG9 (j:=j) (n:=n+z7 a) (q:=q+j8 a) (by omega)]
 | block id c ih =>
  intro m0 hM n q hN Kx K hh hK hm p hp st h;refine ih m0 hM n q hN (zIV id Kx) (Qu id K) (λj hj st=>hh j hj st) (λp hp e st h=>?_) (zHK id hm) p hp st h
  cases e with
  | normal=>exact hK p hp .normal st h
  | ret=>exact hK p hp .ret st h
  | exit i =>
   simp only[zIV] at h;simp only[Qu];by_cases hi:i=id
   ·rw[if_pos hi];rw[show(i == id)=true by simp[hi]] at h
    exact hK p hp .normal st h
   ·rw[if_neg hi];rw[show(i == id)=false by simp[hi]] at h
    exact hK p hp (.exit i) st h
 | scope c ih=>intro m0 hM n q hN Kx K hh hK hm p hp st h;exact ih m0 hM n q hN Kx K (λj hj st=>hh j hj st) hK hm p hp st h
 | exit id=>intro m0 hM n q hN Kx K hh hK hm p hp st h;exact hK p hp (.exit id) st h
 | ret=>intro m0 hM n q hN Kx K hh hK hm p hp st h;exact hK p hp .ret st h
 | loop c ih =>
  intro m0 hM n q hN Kx K hh hK hm p hp st h;have hn:z7 (.loop c)=z7 c+1:=rfl;have hs:j8 (.loop c)=j8 c:=rfl;have lmono:∀N,∀{s t:St},Le [] s t->zAE (exec E M (j6 E call) c) N s K=some r->zAE (exec E M (j6 E call) c) N t K=some r :=
   λN s t hst e=>zFz (λs t K K' h hK e=>zH5 c h hK e) N hst hm e
  have claim:∀p,p<=m0->∀st,goX call head p n st=some r->∀N,p<=N->zAE (exec E M (j6 E call) c) N st K=some r:=by
   intro p;induction p using Nat.strongRecOn with
   | _ p ihp =>
    intro hp st h N hN';cases p with
    | zero=>simp[goX] at h
    | succ p =>
     cases N with
     | zero=>omega
     | succ N =>
      simp only[goX] at h;rw[hh n (by unfold InL;omega)] at h
      simp only[Jj,decide_true] at h;refine ih p (by omega) (n+1) q (by omega) (zBi (λst'=>frc (forget (F.live.getD n []) st') (.goto n)) Kx) (QR (λst'=>zAE (exec E M (j6 E call) c) N st' K) K) (λj hj st=>?_) (λp' hp' e st h=>?_)
       (zCP (λs t hst e=>lmono N hst e) hm) p (AA p) st h
      ·unfold InL at hj;rw[hh j (by unfold InL;omega)]
       simp only[Jj,decide_eq_false (show ¬j=n by omega)]
      ·cases e with
       | normal =>
        simp only[zBi,zBQ,run] at h;simp only[QR];exact lmono N (Jf _ st) (ihp p' (by omega) (by omega) _ h N (by omega))
       | exit i=>exact hK p' (by omega) (.exit i) st h
       | ret=>exact hK p' (by omega) .ret st h
  simp only[J0,zBQ,run] at h;show zAE (exec E M (j6 E call) c) M st K=some r;exact lmono M (Jf _ st) (claim p hp _ h M (by omega))
 | _=>intro m0 hM n q hN Kx K hh hK hm p hp st h;simp[J0,run] at h
end
section
variable{P:Program}{E:Env}{S:Nat->Prop}{w:World}
theorem zCd{f:TypeId->DV->DV}:∀(ts:List TypeId) (xs:List DV),(zJn f ts xs).length=xs.length/\∀i (h:i<xs.length) (h':i<(zJn f ts xs).length),(zJn f ts xs)[i]=xs[i]\/∃t,(zJn f ts xs)[i]=f t xs[i]
 | [],xs=>by cases xs <;> exact⟨rfl,λi h h'=>.inl rfl⟩
 | t :: ts,[]=>⟨rfl,λi h h'=>by simp at h⟩
 | t :: ts,x :: xs=>by
  obtain⟨h1,h2⟩:=zCd (f:=f) ts xs;refine⟨by simp[zJn,h1],λi h h'=>?_⟩
  cases i with
  | zero=>exact .inr ⟨t,rfl⟩
  | succ i=>exact h2 i (by simpa using h) (by simpa[zJn] using h')
theorem cnE_RD(t:TypeId)(x:DV)(cs:List Value)(h:RD E.L S w x cs):RD E.L S w (cnE E t x) cs:=by
 unfold cnE;split
 ·exact h
 ·split
  ·split
   ·split
    ·cases h with
     | nl a=>exact .sl _ [] a 0 0 [] rfl (AA 0) rfl (λi h=>by simp at h) (by simp) (by simp)
    ·exact h
   ·exact h
  ·exact h
theorem cnT_RD:∀(n:Nat) (t:TypeId) (x:DV) (cs:List Value),RD E.L S w x cs->RD E.L S w (cnT E n t x) cs/\(cnT E n t x).isAgg=x.isAgg/\(cnT E n t x).isTup=x.isTup
 | 0,t,x,cs,h=>⟨h,rfl,rfl⟩
 | n+1,t,x,cs,h=>by
  simp only[cnT];split
  ·exact⟨h,rfl,rfl⟩
  ·split
   ·exact⟨h,rfl,rfl⟩
   ·split
    ·split
     ·split
      ·cases h with
       | nl a=>exact⟨.sl _ [] a 0 0 [] rfl (AA 0) rfl (λi h=>by simp at h) (by simp) (by simp),rfl,rfl⟩
      ·split
       ·cases h with
        | sl sz xs a n' c css hn hc hl hx hz hm =>
         refine⟨.sl _ _ a n' c css (by simpa using hn) hc (by simpa using hl) (λi h1 h2=>?_) hz hm,rfl,rfl⟩
         simp only[Ax];exact cnE_RD _ _ _ (hx i (by simpa using h1) h2)
       ·exact⟨h,rfl,rfl⟩
      ·exact⟨h,rfl,rfl⟩
     ·exact⟨h,rfl,rfl⟩
    ·split
     ·split
      ·cases h with
       | agg tag fs css hl hx hz =>
        have key:=λl=>zCd (f:=cnT E n) (E.flds t) l
        refine⟨.agg _ _ css (by rw[(key _).1];exact hl) (λi k1 k2=>?_) hz,rfl,rfl⟩
        have k3:=k1;rw[(key _).1] at k3;have hi:=hx i k3 k2;rcases (key _).2 i k3 k1 with e | ⟨t',e⟩
        ·rw[e];exact hi
        ·rw[e];exact(cnT_RD n t' _ _ hi).1
      ·exact⟨h,rfl,rfl⟩
     ·exact⟨h,rfl,rfl⟩
    ·exact⟨h,rfl,rfl⟩
theorem cnT_tup(n:Nat)(t:TypeId)(xs:List DV):cnT E n t (.tup xs)=.tup xs:=by
 cases n with
 | zero=>rfl
 | succ n =>
  simp only[cnT];split
  ·rfl
  ·split
   ·rfl
   ·split
    ·split <;> rfl
    ·rfl
    ·rfl
theorem cnT_RV{n:Nat}{t:TypeId}{x:DV}{v:Value}(h:RV E.L S w x v):RV E.L S w (cnT E n t x) v:=by
 cases hx:x.isTup with
 | true =>
  cases x <;> simp[DV.isTup] at hx
  rw[cnT_tup];exact h
 | false =>
  obtain⟨h1,h2⟩:=RV.rd hx h;obtain⟨k1,k2,k3⟩:=cnT_RD n t x _ h1;exact RV.of (by rw[k3,hx]) k1 (by rw[k2];exact h2)
theorem cnArgs_RV{f:FuncId}{ds:List DV}{us:List Value}(h:∀i (h:i<ds.length) (h':i<us.length),RV E.L S w ds[i] us[i]) :
  (zy E f ds).length=ds.length/\∀i (h:i<(zy E f ds).length) (h':i<us.length),RV E.L S w (zy E f ds)[i] us[i]:=by
 unfold zy;split
 ·rename_i fn _;obtain⟨h1,h2⟩:=zCd (f:=cnT E shD) fn.params.toList ds;refine⟨h1,λi k1 k2=>?_⟩
  have k3:i<ds.length:=h1 ▸ k1;rcases h2 i k3 k1 with e | ⟨t',e⟩
  ·simp only[e];exact h i k3 k2
  ·simp only[e];exact cnT_RV (h i k3 k2)
 ·exact⟨rfl,h⟩
theorem zAz{call:FuncId->List DV->Option CR}(hc:JC P E call):JC P E (j6 E call):=by
 intro f ds r h;obtain⟨h1,h2⟩:=hc f _ r h;refine⟨h1,λS w us hg hlt hlen hrv=>?_⟩
 obtain⟨k1,k2⟩:=cnArgs_RV (f:=f) hrv;exact h2 S w us hg hlt (by rw[hlen,k1]) k2
def zCF(E:Env)(fresh:Bool)(fn:Func)(r:CR):CR :=
 match fresh with
 | true=>r
 | false=>match r with
  | .val x=>.val (cnRes E fn x)
  | r=>r
theorem cnRes_RV{fn:Func}{x:DV}{v:Value}(h:RV E.L S w x v):RV E.L S w (cnRes E fn x) v:=by
 unfold cnRes;split
 ·exact cnT_RV h
 ·split
  ·rename_i ts _ xs;obtain⟨vs,e,hl,hx⟩:=h;obtain⟨h1,h2⟩:=zCd (f:=cnT E shD) fn.resultTypes.toList xs;refine⟨vs,e,by rw[hl,h1],λi k1 k2=>?_⟩
   have hi:=hx i (by omega) k2
   rcases h2 i (by omega) k1 with e | ⟨t',e⟩
   ·rw[e];exact hi
   ·obtain⟨j1,j2,j3⟩:=cnT_RD shD t' _ _ hi.1;rw[e];exact⟨j1,by rw[j2];exact hi.2⟩
  ·exact h
theorem QL{fresh:Bool}{fn:Func}{r:CR}{v:Value}{w':World}(h:zAa E S w r v w'):zAa E S w (zCF E fresh fn r) v w':=by
 unfold zCF;split
 ·exact h
 ·split
  ·obtain⟨S',h1,h2,h3,h4,h5⟩:=h;exact⟨S',h1,h2,h3,h4,cnRes_RV h5⟩
  ·exact h
theorem qe{call:FuncId->List DV->Option CR}{go:Nat->St->Option CR}{r:CR}{fresh:Bool}{fn:Func}{e:Ex}{st:St}(h:run call go (zHE E fresh fn e st)=some r) :
  bnd (zEf E fresh fn e st) (λr0=>some (zCF E fresh fn r0))=some r:=by
 have key:run call go (finX E fresh fn st)=some r->bnd (fin E fresh fn st) (λr0=>some (zCF E fresh fn r0))=some r:=by
  intro h;unfold finX at h;obtain⟨vs,h1,h⟩:=ze h;unfold fin;rw[h1,zL];split at h
  ·rename_i v;split at h
   ·unfold freshX at h;simp only;split at h
    ·simp only[run] at h;simp only[zAX,zL,zCF];exact h
    ·split at h
     ·rename_i hs;obtain⟨h2,h⟩:=zm h;obtain⟨h3,h⟩:=jD h;simp only[Ab,beq_iff_eq] at h2;simp only[decide_eq_true_eq] at h3;simp only[run] at h;simp only[zAX,hs,h2.1,h2.2,h3,and_self,if_true,zL,zCF];exact h
     ·exact zj h
    ·exact zj h
   ·obtain⟨x,h2,h⟩:=Jd zx v _ h;obtain⟨h3,h⟩:=zm h;simp only[run] at h;simp only[h2,zL,h3,zc,zCF];exact h
  ·rename_i hne;obtain⟨xs,h2,h⟩:=Jy (λv k=>Jd zx v k) h
   obtain⟨h3,h⟩:=zm h;simp only[run] at h;rw[<-Qb] at h2;split
   ·rename_i v;exact absurd rfl (hne v)
   ·rw[h2,zL,h3,zc,zL];simp only[Ab,AC] at h3;simp only[h3.1,zCF];exact h
 cases e with
 | normal=>exact key h
 | ret=>exact key h
 | exit i=>simp[zHE,run] at h
theorem Yp{fresh:Bool}{fn:Func}{r:CR}:Mono r (λe st=>bnd (zEf E fresh fn e st) (λr0=>some (zCF E fresh fn r0))) (λe st=>bnd (zEf E fresh fn e st) (λr0=>some (zCF E fresh fn r0))):=by
 intro e s t hst h;obtain⟨r0,h1,h2⟩:=zA h;have key:fin E fresh fn s=some r0->bnd (fin E fresh fn t) (λr0=>some (zCF E fresh fn r0))=some r:=λh1=>by rw[fin_le hst h1,zL];exact h2
 cases e with
 | normal=>exact key h1
 | ret=>exact key h1
 | exit i=>simp[zEf] at h1
theorem map_dp:∀{l:List DV},l.all zHy=true->(l.map λx=>DV.dp (undp x))=l
 | [],_=>rfl
 | x :: l,h=>by
  simp only[List.all_cons,Ab] at h;have e:DV.dp (undp x)=x:=by
   cases x with
   | dp y=>rfl
   | _=>simp[zHy] at h
  simp only[AK,e,map_dp h.2]
theorem zBy{call:FuncId->List DV->Option CR}{go:Nat->St->Option CR}{r:CR}{F:XF}{fn:Func}{ds:List DV}{k:St->Tr}(hlen:fn.params.toList.length+F.caps<=fn.ntmps)
  (h:run call go (zGS E F fn ds k)=some r):ds.length<=fn.ntmps/\run call go (k (entry fn ds))=some r:=by
 unfold zGS at h;split at h
 ·rename_i hc;rw[hc] at hlen;obtain⟨hsh,h⟩:=jD h;have hdl:=zC7 hsh;rw[zAH (λt x=>zAL shD t x) hsh,<-hdl] at h
  exact⟨by omega,h⟩
 ·rename_i c hc;rw[hc] at hlen;obtain⟨hg,h⟩:=jD h;simp only[Ab,decide_eq_true_eq] at hg;obtain⟨⟨h1,h2⟩,h3⟩:=hg;have hdl:=zC7 h1;rw[zAH (λt x=>zAL shD t x) h1,map_dp h3,A8] at h
  have hl:ds.length=fn.params.toList.length+(c+1):=by have:=Bl (l:=ds) (i:=fn.params.toList.length);have:=List.length_take (l:=ds) (i:=fn.params.toList.length);omega
  rw[<-hl] at h;exact⟨by omega,h⟩
end
end Go.Am
namespace Go.Am
open Go.Proofs
open Go
def Sub(call call':FuncId->List DV->Option CR):Prop:=∀f a r,call f a=some r->call' f a=some r
def SubG(go go':Nat->St->Option CR):Prop:=∀j st r,go j st=some r->go' j st=some r
theorem YW{call call':FuncId->List DV->Option CR}{go go':Nat->St->Option CR}(hc:Sub call call')(hg:SubG go go'){r:CR}:∀t:Tr,run call go t=some r->run call' go' t=some r:=by
 intro t;induction t with
 | fail=>intro h;simp[run] at h
 | ret r'=>intro h;exact h
 | ifB b t e iht ihe =>
  intro h;rcases Qf h with ⟨rfl,h⟩ | ⟨rfl,h⟩
  ·exact iht h
  ·exact ihe h
 | call f a kv kf ihv ihf =>
  intro h;rcases Qg h with ⟨x,h1,h⟩ | ⟨s,xs,h1,h⟩
  ·simp only[run,hc _ _ _ h1,zH];exact ihv x h
  ·simp only[run,hc _ _ _ h1,zH];exact ihf s xs h
 | goto j st=>intro h;exact hg j st r h
theorem Qo{call call':FuncId->List DV->Option CR}(hc:Sub call call')(head:Nat->St->Tr):∀{n m:Nat},n<=m->SubG (goX call head n) (goX call' head m)
 | 0,m,_=>λj st r h=>by simp[goX] at h
 | n+1,0,hle=>by omega
 | n+1,m+1,hle=>λj st r h=>by simp only[goX] at h ⊢;exact YW hc (Qo hc head (by omega)) _ h
section
variable{E:Env}{X:XC}
end
def JI(E:Env)(f:FuncId):Func:=match E.F f with | some fn=>fn | none=>default
def YL(E:Env)(f:FuncId):Code:=match (JI E f).body with | some c=>c | none=>.skip
section
variable{E:Env}{X:XC}
theorem zER{α:Type}{a b:Option α}(h:∀r,a=some r ↔ b=some r):a=b:=by
 cases a with
 | none =>
  cases b with
  | none=>rfl
  | some y=>exact absurd ((h y).2 rfl) (by simp)
 | some x=>exact((h x).1 rfl).symm
end
end Go.Am
namespace Go.Am
open Go.Proofs
open Go
def bs(l:List Nat):ByteArray:=⟨(l.map UInt8.ofNat).toArray⟩
abbrev eI(n:Int):DV:=.int .i64 n
structure Pt where
 x:Int
 y:Int
 deriving DecidableEq,Inhabited
structure Tb where
 name:ByteArray
 at':Pt
 deriving DecidableEq,Inhabited
structure Si where
 name:ByteArray
 least:Int
 tb:List Tb
structure Wk where
 rule:ByteArray
 d:List Int
 w:List Int
structure Cu where
 p:List Int
 cut:Int
structure Fm where
 s:Si
 w:Wk
 c:Cu
 r:List (List Int)
structure Pn where
 ps:List Pt
 least:Int
 w:Wk
 c:Cu
 r:List (List Int)
abbrev ePt(p:Pt):DV:=.agg 1 [eI p.x,eI p.y]
abbrev eTb(t:Tb):DV:=.agg 9 [.str t.name,ePt t.at']
abbrev eSi(s:Si):DV:=.agg 0 [.str s.name,eI s.least,.sl 3 (s.tb.map eTb)]
abbrev eWk(w:Wk):DV:=.agg 0 [.str w.rule,.sl 1 (w.d.map eI),.sl 1 (w.w.map eI)]
abbrev eCu(c:Cu):DV:=.agg 1 [.sl 1 (c.p.map eI),eI c.cut]
abbrev jC(l:List Int):DV:=.agg 2 (l.map eI)
abbrev eRo(r:List (List Int)):DV:=.agg 3 (r.map jC)
abbrev eFm(f:Fm):DV:=.agg 4 [eSi f.s,eWk f.w,eCu f.c,eRo f.r]
abbrev ePn(p:Pn):DV:=.agg 6 [.sl 2 (p.ps.map ePt),eI p.least,eWk p.w,eCu p.c,eRo p.r]
def ints(l:List Int):List DV:=l.map (DV.int .i64)
def intsOf(x:DV):List Int:=(elems x).map zC
def ptX(p:DV):Int:=zC (nth (flds p) 0)
def ptY(p:DV):Int:=zC (nth (flds p) 1)
def relI(sec sx sy ax ay bx by':Int):Int×Int :=
 (if Int.tmod sec 2=1 then Int.fdiv ((bx - ax) * sx+(by' - ay) * sy) 2 else (bx - ax) * sx+(by' - ay) * sy,
  if 0 - ((bx - ax) * sy - (by' - ay) * sx)>(bx - ax) * sy - (by' - ay) * sx then 0 - ((bx - ax) * sy - (by' - ay) * sx) else (bx - ax) * sy - (by' - ay) * sx)
def zBz(d w:List Int)(steps off:Int):Int :=
 if steps<1\/steps>d.length\/off>w.getD (steps - 1).toNat 0 then 0 else d.getD (steps - 1).toNat 0
def wakesI(d w:List Int)(sec sx sy:Int)(ps:List (Int×Int)):List (List Int) :=
 (AT ps.length).map λj=>(AT ps.length).map λi =>
  if i=j then 0 else
   let a:=ps.getD i (0,0)
   let b:=ps.getD j (0,0)
   let r:=relI sec sx sy a.1 a.2 b.1 b.2
   zBz d w r.1 r.2
def zT:List Int->Int
 | []=>0
 | x :: r=>if x=0 then zT r else x
def zf(n a b:Int):Int:=if n<a\/n>b then 3 else 0
def jn(s:ByteArray)(i:Nat):Nat:=(s[i]?.getD 0).toNat
def okAt(i c:Nat):Bool:=((decide (65<=c) && decide (c<=90)) || (decide (97<=c) && decide (c<=122))) || (!(i == 0) && (c == 95 || (decide (48<=c) && decide (c<=57))))
def qG(s:ByteArray):Nat->Nat->Bool
 | _,0=>true
 | i,n+1=>okAt i (jn s i) && qG s (i+1) n
def jJ(s:ByteArray):Bool:=decide (0<s.size) && decide (s.size<=24) && qG s 0 s.size
def ptE(p:Pt):Int:=zT [zf p.x (-1000) 1000,zf p.y (-1000) 1000]
def JP(p:Pt):Prop:=-1000<=p.x/\p.x<=1000/\-1000<=p.y/\p.y<=1000
def jQ(a b:Pt):Int:=(a.x - b.x) * (a.x - b.x)+(a.y - b.y) * (a.y - b.y)
def YB(n:ByteArray)(ks:List ByteArray):Bool:=ks.any λk=>decide (n=k)
def jY(least:Int)(prev:List Tb):List Tb->Int
 | []=>0
 | t :: r =>
  if zT [if jJ t.name then 0 else 8,ptE t.at',if YB t.name (prev.map (·.name)) then 9 else 0]≠0 then zT [if jJ t.name then 0 else 8,ptE t.at',if YB t.name (prev.map (·.name)) then 9 else 0]
  else if prev.any (λo=>decide (jQ t.at' o.at'<least * least)) then 15 else jY least (prev++[t]) r
def jM(s:Si):Int :=
 if zT [if jJ s.name then 0 else 8,zf s.least 1 1000,if (64:Int)<s.tb.length then 5 else 0]≠0 then zT [if jJ s.name then 0 else 8,zf s.least 1 1000,if (64:Int)<s.tb.length then 5 else 0]
 else jY s.least [] s.tb
def jV(hi:Int)(up:Bool)(prev:Option Int)(d:Int):Int :=
 zT [zf d 0 hi,match prev with | some p=>if (if up then d<p else d>p) then 11 else 0 | none=>0]
def jt(hi:Int)(up:Bool)(prev:Option Int):List Int->Int
 | []=>0
 | d :: r=>if jV hi up prev d=0 then jt hi up (some d) r else jV hi up prev d
abbrev rG:ByteArray:=bs [103,114,101,97,116,101,115,116]
abbrev rS:ByteArray:=bs [115,113,117,97,114,101,115]
abbrev rM:ByteArray:=bs [115,117,109]
def ji(r:ByteArray):Bool:=YB r [rG,rS,rM]
def wakeH(w:Wk):Int:=zT [if ji w.rule then 0 else 13,if w.d=[] then 12 else 0,if (32:Int)<w.d.length then 5 else 0,if (w.w.length:Int)=w.d.length then 0 else 2]
def wakeE(w:Wk):Int :=
 if wakeH w=0 then
  if jt 256 false none w.d=0 then jt 100 true none w.w else jt 256 false none w.d
 else wakeH w
def zY(n:Int):Pt :=
 if n=0 then ⟨0,-1⟩ else if n=1 then ⟨-1,-1⟩ else if n=2 then ⟨-1,0⟩ else if n=3 then ⟨-1,1⟩ else if n=4 then ⟨0,1⟩ else if n=5 then ⟨1,1⟩ else if n=6 then ⟨1,0⟩ else ⟨1,-1⟩
def zBb(p st:Pt):Int:=p.x * st.x+p.y * st.y
def Y8(sec:Int)(st a b:Pt):Int×Int:=relI sec st.x st.y a.x a.y b.x b.y
def zDU(key:Nat->Int)(out:List Nat)(i:Nat):Nat->Nat
 | 0=>0
 | a+1=>if key (out.getD a 0)>key i then zDU key out i a else a+1
def insR(key:Nat->Int)(out:List Nat)(i:Nat):List Nat:=out.take (zDU key out i out.length)++[i]++out.drop (zDU key out i out.length)
def jG(key:Nat->Int):Nat->List Nat
 | 0=>[]
 | n+1=>insR key (jG key n) n
abbrev eN(n:Nat):DV:=eI (n:Int)
def J1(s:Si)(sec:Int)(i:Nat):Int:=zBb ((s.tb.getD i default).at') (zY sec)
def ptOf(x:DV):Pt:=⟨zC (nth (flds x) 0),zC (nth (flds x) 1)⟩
def tbOf(x:DV):Tb:=⟨zX (nth (flds x) 0),ptOf (nth (flds x) 1)⟩
def siOf(x:DV):Si:=⟨zX (nth (flds x) 0),zC (nth (flds x) 1),(elems (nth (flds x) 2)).map tbOf⟩
def YI(s:Si)(n:Int):List Nat×Int :=
 if jM s=0 then (if zf n 0 7=0 then (jG (J1 s n) s.tb.length,0) else ([],zf n 0 7)) else ([],jM s)
end Go.Am
namespace Go.Am
open Go.Proofs
open Go Go.RowKit
def L0:List (List Nat) :=
 [[1,1,1],[1,1],Aa 51 1,[51,51,51,51,51,51,51,51],[3,3,2,408],[1,1,1,1],[1,1,3,2,408],[1,1,3],[1,1,1,1,1],[1,2],[2,2,2,2,2,2],[1,1,1,1,1,1],[1],[3,2,408],[1,1,1,1,1,1,1,1],[8,8,8,8,8,8,8,8],[415,413,64],[2,2,2,2,2,2,2,2]]
def td3:TD:={ k:=(.int .i64),size:=1,bytes:=8,zero:=(.int .i64 0),eqOK:=true }
def td4:TD:={ k:=.bool,size:=1,bytes:=1,zero:=(.bool false),eqOK:=true }
def td5:TD:={ k:=(.int .u8),size:=1,bytes:=1,zero:=(.int .u8 0),eqOK:=true }
def td9:TD:={ k:=.str,size:=1,bytes:=16,zero:=(.str ⟨#[]⟩),eqOK:=true }
def td21:TD:={ k:=(.int .i32),size:=1,bytes:=4,zero:=(.int .i32 0),eqOK:=true }
def td22:TD:={ k:=(.slice 143),size:=1,bytes:=24,zero:=.nl,eqOK:=true }
def td24:TD:={ k:=(.struct 0),size:=3,bytes:=48,zero:=(.agg 0 [(.str ⟨#[]⟩),(.int .i64 0),.nl]),eqOK:=true }
def td25:TD:={ k:=(.slice 3),size:=1,bytes:=24,zero:=.nl,eqOK:=true }
def td27:TD:={ k:=(.struct 0),size:=3,bytes:=64,zero:=(.agg 0 [(.str ⟨#[]⟩),.nl,.nl]),eqOK:=true }
def td29:TD:={ k:=(.struct 1),size:=2,bytes:=32,zero:=(.agg 1 [.nl,(.int .i64 0)]),eqOK:=true }
def td30:TD:={ k:=(.array 2 51 3),size:=51,bytes:=408,zero:=(.agg 2 (Aa 51 (.int .i64 0))),eqOK:=true }
def td32:TD:={ k:=(.array 3 8 30),size:=408,bytes:=3264,zero:=(.agg 3 (Aa 8 (.agg 2 (Aa 51 (.int .i64 0))))),eqOK:=true }
def td34:TD:={ k:=(.struct 4),size:=416,bytes:=3408,zero:=(.agg 4 [(.agg 0 [(.str ⟨#[]⟩),(.int .i64 0),.nl]),(.agg 0 [(.str ⟨#[]⟩),.nl,.nl]),(.agg 1 [.nl,(.int .i64 0)]),(.agg 3 (Aa 8 (.agg 2 (Aa 51 (.int .i64 0)))))]),eqOK:=true }
def td35:TD:={ k:=(.slice 69),size:=1,bytes:=24,zero:=.nl,eqOK:=true }
def td36:TD:={ k:=(.slice 225),size:=1,bytes:=24,zero:=.nl,eqOK:=true }
def td38:TD:={ k:=(.struct 5),size:=4,bytes:=72,zero:=(.agg 5 [(.str ⟨#[]⟩),(.int .i64 0),.nl,.nl]),eqOK:=true }
def td45:TD:={ k:=(.array 3 8 30),size:=408,bytes:=3264,zero:=(.agg 3 (Aa 8 (.agg 2 (Aa 51 (.int .i64 0))))),eqOK:=true }
def td46:TD:={ k:=(.int .i64),size:=1,bytes:=8,zero:=(.int .i64 0),eqOK:=true }
def td49:TD:={ k:=(.struct 5),size:=4,bytes:=72,zero:=(.agg 5 [(.str ⟨#[]⟩),(.int .i64 0),.nl,.nl]),eqOK:=true }
def td51:TD:={ k:=(.slice 5),size:=1,bytes:=24,zero:=.nl,eqOK:=true }
def td56:TD:={ k:=(.slice 176),size:=1,bytes:=24,zero:=.nl,eqOK:=true }
def td58:TD:={ k:=(.struct 0),size:=3,bytes:=48,zero:=(.agg 0 [(.str ⟨#[]⟩),(.int .i64 0),.nl]),eqOK:=true }
def td59:TD:={ k:=(.struct 0),size:=3,bytes:=64,zero:=(.agg 0 [(.str ⟨#[]⟩),.nl,.nl]),eqOK:=true }
def td60:TD:={ k:=(.struct 1),size:=2,bytes:=32,zero:=(.agg 1 [.nl,(.int .i64 0)]),eqOK:=true }
def td62:TD:={ k:=(.struct 4),size:=416,bytes:=3408,zero:=(.agg 4 [(.agg 0 [(.str ⟨#[]⟩),(.int .i64 0),.nl]),(.agg 0 [(.str ⟨#[]⟩),.nl,.nl]),(.agg 1 [.nl,(.int .i64 0)]),(.agg 3 (Aa 8 (.agg 2 (Aa 51 (.int .i64 0)))))]),eqOK:=true }
def td69:TD:={ k:=(.flt .f32),size:=1,bytes:=4,zero:=(.flt .f32 0),eqOK:=true }
def td72:TD:={ k:=(.struct 5),size:=4,bytes:=32,zero:=(.agg 5 [(.int .i64 0),(.int .i64 0),(.int .i64 0),(.int .i64 0)]),eqOK:=true }
def td73:TD:={ k:=.func,size:=1,bytes:=8,zero:=.nilFn,eqOK:=true }
def td74:TD:={ k:=.func,size:=1,bytes:=8,zero:=.nilFn,eqOK:=true }
def td81:TD:={ k:=(.slice 141),size:=1,bytes:=24,zero:=.nl,eqOK:=true }
def td83:TD:={ k:=(.struct 6),size:=415,bytes:=3392,zero:=(.agg 6 [.nl,(.int .i64 0),(.agg 0 [(.str ⟨#[]⟩),.nl,.nl]),(.agg 1 [.nl,(.int .i64 0)]),(.agg 3 (Aa 8 (.agg 2 (Aa 51 (.int .i64 0)))))]),eqOK:=true }
def td88:TD:={ k:=(.struct 6),size:=415,bytes:=3392,zero:=(.agg 6 [.nl,(.int .i64 0),(.agg 0 [(.str ⟨#[]⟩),.nl,.nl]),(.agg 1 [.nl,(.int .i64 0)]),(.agg 3 (Aa 8 (.agg 2 (Aa 51 (.int .i64 0)))))]),eqOK:=true }
def td95:TD:={ k:=(.slice 25),size:=1,bytes:=24,zero:=.nl,eqOK:=true }
def td107:TD:={ k:=(.slice 117),size:=1,bytes:=24,zero:=.nl,eqOK:=true }
def td108:TD:={ k:=(.int .u16),size:=1,bytes:=2,zero:=(.int .u16 0),eqOK:=true }
def td110:TD:={ k:=(.struct 0),size:=3,bytes:=24,zero:=(.agg 0 [(.int .i64 0),(.int .i64 0),(.int .i64 0)]),eqOK:=true }
def td112:TD:={ k:=(.struct 7),size:=5,bytes:=56,zero:=(.agg 7 [.nl,(.int .u16 0),(.agg 0 [(.int .i64 0),(.int .i64 0),(.int .i64 0)])]),eqOK:=true }
def td114:TD:={ k:=(.slice 120),size:=1,bytes:=24,zero:=.nl,eqOK:=true }
def td115:TD:={ k:=(.slice 121),size:=1,bytes:=24,zero:=.nl,eqOK:=true }
def td117:TD:={ k:=(.struct 1),size:=2,bytes:=2,zero:=(.agg 1 [(.int .u8 0),(.int .u8 0)]),eqOK:=true }
def td120:TD:={ k:=(.struct 8),size:=5,bytes:=40,zero:=(.agg 8 [(.int .i64 0),(.int .i64 0),(.int .i64 0),(.int .i64 0),(.int .i64 0)]),eqOK:=true }
def td121:TD:={ k:=(.struct 0),size:=3,bytes:=24,zero:=(.agg 0 [(.int .i64 0),(.int .i64 0),(.int .i64 0)]),eqOK:=true }
def td123:TD:={ k:=(.struct 8),size:=5,bytes:=40,zero:=(.agg 8 [(.int .i64 0),(.int .i64 0),(.int .i64 0),(.int .i64 0),(.int .i64 0)]),eqOK:=true }
def td141:TD:={ k:=(.struct 1),size:=2,bytes:=16,zero:=(.agg 1 [(.int .i64 0),(.int .i64 0)]),eqOK:=true }
def td143:TD:={ k:=(.struct 9),size:=3,bytes:=32,zero:=(.agg 9 [(.str ⟨#[]⟩),(.agg 1 [(.int .i64 0),(.int .i64 0)])]),eqOK:=true }
def td156:TD:={ k:=(.array 1 2 3),size:=2,bytes:=16,zero:=(.agg 1 (Aa 2 (.int .i64 0))),eqOK:=true }
def td160:TD:={ k:=(.struct 1),size:=2,bytes:=16,zero:=(.agg 1 [(.int .i64 0),(.int .i64 0)]),eqOK:=true }
def td167:TD:={ k:=(.array 10 6 156),size:=12,bytes:=96,zero:=(.agg 10 (Aa 6 (.agg 1 (Aa 2 (.int .i64 0))))),eqOK:=true }
def td168:TD:={ k:=(.slice 34),size:=1,bytes:=24,zero:=.nl,eqOK:=true }
def td171:TD:={ k:=(.array 11 6 3),size:=6,bytes:=48,zero:=(.agg 11 (Aa 6 (.int .i64 0))),eqOK:=true }
def td172:TD:={ k:=(.array 0 3 25),size:=3,bytes:=72,zero:=(.agg 0 (Aa 3 .nl)),eqOK:=true }
def td173:TD:={ k:=(.slice 9),size:=1,bytes:=24,zero:=.nl,eqOK:=true }
def td176:TD:={ k:=(.struct 9),size:=3,bytes:=32,zero:=(.agg 9 [(.str ⟨#[]⟩),(.agg 1 [(.int .i64 0),(.int .i64 0)])]),eqOK:=true }
def td208:TD:={ k:=(.array 1 2 5),size:=2,bytes:=2,zero:=(.agg 1 (Aa 2 (.int .u8 0))),eqOK:=true }
def td217:TD:={ k:=(.array 1 2 25),size:=2,bytes:=48,zero:=(.agg 1 (Aa 2 .nl)),eqOK:=true }
def td225:TD:={ k:=(.struct 1),size:=2,bytes:=16,zero:=(.agg 1 [(.int .i64 0),(.int .i64 0)]),eqOK:=true }
def td230:TD:={ k:=(.slice 4),size:=1,bytes:=24,zero:=.nl,eqOK:=true }
def td233:TD:={ k:=.func,size:=1,bytes:=8,zero:=.nilFn,eqOK:=true }
def td235:TD:={ k:=(.int .u64),size:=1,bytes:=8,zero:=(.int .u64 0),eqOK:=true }
def td237:TD:={ k:=(.int .u32),size:=1,bytes:=4,zero:=(.int .u32 0),eqOK:=true }
def td240:TD:={ k:=(.ptr 242),size:=1,bytes:=8,zero:=.nilPtr,eqOK:=true }
def td242:TD:={ k:=(.struct 12),size:=1,bytes:=24,zero:=(.agg 12 [.nl]),eqOK:=true }
def td246:TD:={ k:=(.struct 13),size:=413,bytes:=3360,zero:=(.agg 13 [(.agg 0 [(.str ⟨#[]⟩),.nl,.nl]),(.agg 1 [.nl,(.int .i64 0)]),(.agg 3 (Aa 8 (.agg 2 (Aa 51 (.int .i64 0)))))]),eqOK:=true }
def td251:TD:={ k:=(.struct 9),size:=3,bytes:=24,zero:=(.agg 9 [(.int .i64 0),(.agg 1 [(.int .i64 0),(.int .i64 0)])]),eqOK:=true }
def td266:TD:={ k:=(.struct 1),size:=2,bytes:=32,zero:=(.agg 1 [.nl,(.int .i64 0)]),eqOK:=true }
def td268:TD:={ k:=(.ptr 357),size:=1,bytes:=8,zero:=.nilPtr,eqOK:=true }
def td275:TD:={ k:=.func,size:=1,bytes:=8,zero:=.nilFn,eqOK:=true }
def td276:TD:={ k:=.func,size:=1,bytes:=8,zero:=.nilFn,eqOK:=true }
def td278:TD:={ k:=(.map 3 3),size:=1,bytes:=8,zero:=.nilMp,eqOK:=true }
def td280:TD:={ k:=.func,size:=1,bytes:=8,zero:=.nilFn,eqOK:=true }
def td282:TD:={ k:=(.cpx .f64),size:=1,bytes:=16,zero:=(.cpx .f64 0 0),eqOK:=true }
def td286:TD:={ k:=(.struct 1),size:=2,bytes:=24,zero:=(.agg 1 [(.int .i64 0),(.cpx .f64 0 0)]),eqOK:=true }
def td287:TD:={ k:=(.slice 286),size:=1,bytes:=24,zero:=.nl,eqOK:=true }
def td288:TD:={ k:=(.slice 282),size:=1,bytes:=24,zero:=.nl,eqOK:=true }
def td290:TD:={ k:=(.slice 46),size:=1,bytes:=24,zero:=.nl,eqOK:=true }
def td292:TD:={ k:=.func,size:=1,bytes:=8,zero:=.nilFn,eqOK:=true }
def td293:TD:={ k:=(.slice 297),size:=1,bytes:=24,zero:=.nl,eqOK:=true }
def td297:TD:={ k:=(.struct 1),size:=2,bytes:=16,zero:=(.agg 1 [(.int .i64 0),(.int .i64 0)]),eqOK:=true }
def td300:TD:={ k:=(.slice 302),size:=1,bytes:=24,zero:=.nl,eqOK:=true }
def td302:TD:={ k:=(.struct 1),size:=2,bytes:=16,zero:=(.agg 1 [(.int .i64 0),(.int .i64 0)]),eqOK:=true }
def td304:TD:={ k:=.func,size:=1,bytes:=8,zero:=.nilFn,eqOK:=true }
def td305:TD:={ k:=.func,size:=1,bytes:=8,zero:=.nilFn,eqOK:=true }
def td309:TD:={ k:=.func,size:=1,bytes:=8,zero:=.nilFn,eqOK:=true }
def td312:TD:={ k:=(.struct 12),size:=1,bytes:=8,zero:=(.agg 12 [.nilFn]),eqOK:=true }
def td314:TD:={ k:=(.map 9 312),size:=1,bytes:=8,zero:=.nilMp,eqOK:=true }
def td328:TD:={ k:=.iface,size:=1,bytes:=16,zero:=.nilIf,eqOK:=false }
def td334:TD:={ k:=.func,size:=1,bytes:=8,zero:=.nilFn,eqOK:=true }
def td336:TD:={ k:=.func,size:=1,bytes:=8,zero:=.nilFn,eqOK:=true }
def td341:TD:={ k:=(.flt .f64),size:=1,bytes:=8,zero:=(.flt .f64 0),eqOK:=true }
def td345:TD:={ k:=.func,size:=1,bytes:=8,zero:=.nilFn,eqOK:=true }
def td346:TD:={ k:=(.array 5 4 5),size:=4,bytes:=4,zero:=(.agg 5 (Aa 4 (.int .u8 0))),eqOK:=true }
def td349:TD:={ k:=.func,size:=1,bytes:=8,zero:=.nilFn,eqOK:=true }
def td353:TD:={ k:=(.map 9 4),size:=1,bytes:=8,zero:=.nilMp,eqOK:=true }
def td354:TD:={ k:=(.array 14 8 4),size:=8,bytes:=8,zero:=(.agg 14 (Aa 8 (.bool false))),eqOK:=true }
def td355:TD:={ k:=(.array 15 8 354),size:=64,bytes:=64,zero:=(.agg 15 (Aa 8 (.agg 14 (Aa 8 (.bool false))))),eqOK:=true }
def td357:TD:={ k:=(.struct 16),size:=892,bytes:=6816,zero:=(.agg 16 [(.agg 6 [.nl,(.int .i64 0),(.agg 0 [(.str ⟨#[]⟩),.nl,.nl]),(.agg 1 [.nl,(.int .i64 0)]),(.agg 3 (Aa 8 (.agg 2 (Aa 51 (.int .i64 0)))))]),(.agg 13 [(.agg 0 [(.str ⟨#[]⟩),.nl,.nl]),(.agg 1 [.nl,(.int .i64 0)]),(.agg 3 (Aa 8 (.agg 2 (Aa 51 (.int .i64 0)))))]),(.agg 15 (Aa 8 (.agg 14 (Aa 8 (.bool false)))))]),eqOK:=true }
def td359:TD:={ k:=.func,size:=1,bytes:=8,zero:=.nilFn,eqOK:=true }
def td362:TD:={ k:=(.map 3 4),size:=1,bytes:=8,zero:=.nilMp,eqOK:=true }
def td365:TD:={ k:=.func,size:=1,bytes:=8,zero:=.nilFn,eqOK:=true }
def td369:TD:={ k:=.func,size:=1,bytes:=8,zero:=.nilFn,eqOK:=true }
def td370:TD:={ k:=.func,size:=1,bytes:=8,zero:=.nilFn,eqOK:=true }
def td372:TD:={ k:=(.slice 374),size:=1,bytes:=24,zero:=.nl,eqOK:=true }
def td374:TD:={ k:=(.struct 1),size:=2,bytes:=16,zero:=(.agg 1 [(.int .i64 0),(.int .i64 0)]),eqOK:=true }
def td376:TD:={ k:=.func,size:=1,bytes:=8,zero:=.nilFn,eqOK:=true }
def td383:TD:={ k:=(.array 17 8 141),size:=16,bytes:=128,zero:=(.agg 17 (Aa 8 (.agg 1 [(.int .i64 0),(.int .i64 0)]))),eqOK:=true }
def td392:TD:={ k:=(.ptr 58),size:=1,bytes:=8,zero:=.nilPtr,eqOK:=true }
def td393:TD:={ k:=(.ptr 395),size:=1,bytes:=8,zero:=.nilPtr,eqOK:=true }
def td395:TD:={ k:=(.struct 1),size:=2,bytes:=32,zero:=(.agg 1 [.nl,(.bool false)]),eqOK:=true }
def td398:TD:={ k:=.func,size:=1,bytes:=8,zero:=.nilFn,eqOK:=true }
def td401:TD:={ k:=.func,size:=1,bytes:=8,zero:=.nilFn,eqOK:=true }
def td404:TD:={ k:=.func,size:=1,bytes:=8,zero:=.nilFn,eqOK:=true }
def td407:TD:={ k:=(.array 8 5 3),size:=5,bytes:=40,zero:=(.agg 8 (Aa 5 (.int .i64 0))),eqOK:=true }
def td413:TD:={ k:=(.int .i64),size:=1,bytes:=8,zero:=(.int .i64 0),eqOK:=true }
def td442:TD:={ k:=(.int .u64),size:=1,bytes:=8,zero:=(.int .u64 0),eqOK:=true }
def td446:TD:={ k:=(.ptr 3),size:=1,bytes:=8,zero:=.nilPtr,eqOK:=true }
def dTab:List (Nat×TD):=[(3,td3),(4,td4),(5,td5),(9,td9),(21,td21),(22,td22),(24,td24),(25,td25),(27,td27),(29,td29),(30,td30),(32,td32),(34,td34),(35,td35),(36,td36),(38,td38),(45,td45),(46,td46),(49,td49),(51,td51),(56,td56),(58,td58),(59,td59),(60,td60),(62,td62),(69,td69),(72,td72),(73,td73),(74,td74),(81,td81),(83,td83),(88,td88),(95,td95),(107,td107),(108,td108),(110,td110),(112,td112),(114,td114),(115,td115),(117,td117),(120,td120),(121,td121),(123,td123),(141,td141),(143,td143),(156,td156),(160,td160),(167,td167),(168,td168),(171,td171),(172,td172),(173,td173),(176,td176),(208,td208),(217,td217),(225,td225),(230,td230),(233,td233),(235,td235),(237,td237),(240,td240),(242,td242),(246,td246),(251,td251),(266,td266),(268,td268),(275,td275),(276,td276),(278,td278),(280,td280),(282,td282),(286,td286),(287,td287),(288,td288),(290,td290),(292,td292),(293,td293),(297,td297),(300,td300),(302,td302),(304,td304),(305,td305),(309,td309),(312,td312),(314,td314),(328,td328),(334,td334),(336,td336),(341,td341),(345,td345),(346,td346),(349,td349),(353,td353),(354,td354),(355,td355),(357,td357),(359,td359),(362,td362),(365,td365),(369,td369),(370,td370),(372,td372),(374,td374),(376,td376),(383,td383),(392,td392),(393,td393),(395,td395),(398,td398),(401,td401),(404,td404),(407,td407),(413,td413),(442,td442),(446,td446)]
def fldTab:List (Nat×List Nat):=[(24,[9,3,22]),(27,[9,25,25]),(29,[25,3]),(34,[24,27,29,32]),(38,[9,3,35,36]),(49,[9,3,35,36]),(58,[9,3,56]),(59,[9,25,25]),(60,[25,3]),(62,[58,59,60,45]),(72,[3,3,3,3]),(83,[81,3,27,29,32]),(88,[81,3,59,60,45]),(110,[3,3,3]),(112,[107,108,110]),(117,[5,5]),(120,[3,3,3,3,3]),(121,[3,3,3]),(123,[3,3,3,3,3]),(141,[3,3]),(143,[9,141]),(160,[3,3]),(176,[9,141]),(225,[3,3]),(242,[51]),(246,[59,60,45]),(251,[3,141]),(266,[25,3]),(286,[3,282]),(297,[3,3]),(302,[3,3]),(312,[73]),(357,[88,246,355]),(374,[3,3]),(395,[173,4])]
noncomputable def fTab:List (Nat×Func):=[(3,Tryz.f3),(4,Tryz.f4),(5,Tryz.f5),(6,Tryz.f6),(7,Tryz.f7),(8,Tryz.f8),(9,Tryz.f9),(10,Tryz.f10),(11,Tryz.f11),(12,Tryz.f12),(13,Tryz.f13),(14,Tryz.f14),(15,Tryz.f15),(16,Tryz.f16),(17,Tryz.f17),(18,Tryz.f18),(19,Tryz.f19),(20,Tryz.f20),(21,Tryz.f21),(22,Tryz.f22),(23,Tryz.f23),(24,Tryz.f24),(25,Tryz.f25),(26,Tryz.f26),(27,Tryz.f27),(28,Tryz.f28),(29,Tryz.f29),(30,Tryz.f30),(31,Tryz.f31),(32,Tryz.f32),(33,Tryz.f33),(34,Tryz.f34),(35,Tryz.f35),(36,Tryz.f36),(37,Tryz.f37),(38,Tryz.f38),(39,Tryz.f39),(40,Tryz.f40),(41,Tryz.f41),(42,Tryz.f42),(43,Tryz.f43),(44,Tryz.f44),(45,Tryz.f45),(46,Tryz.f46),(47,Tryz.f47),(48,Tryz.f48),(49,Tryz.f49),(50,Tryz.f50),(51,Tryz.f51),(52,Tryz.f52),(53,Tryz.f53),(54,Tryz.f54),(55,Tryz.f55),(56,Tryz.f56),(57,Tryz.f57),(58,Tryz.f58),(59,Tryz.f59),(60,Tryz.f60),(61,Tryz.f61),(62,Tryz.f62),(63,Tryz.f63),(64,Tryz.f64),(65,Tryz.f65),(66,Tryz.f66),(67,Tryz.f67),(68,Tryz.f68),(69,Tryz.f69),(70,Tryz.f70),(71,Tryz.f71),(72,Tryz.f72),(73,Tryz.f73),(74,Tryz.f74),(75,Tryz.f75),(76,Tryz.f76),(77,Tryz.f77),(78,Tryz.f78),(79,Tryz.f79),(80,Tryz.f80),(81,Tryz.f81),(82,Tryz.f82),(83,Tryz.f83),(84,Tryz.f84),(85,Tryz.f85),(86,Tryz.f86),(87,Tryz.f87),(88,Tryz.f88),(89,Tryz.f89),(90,Tryz.f90),(91,Tryz.f91),(92,Tryz.f92),(93,Tryz.f93),(94,Tryz.f94),(95,Tryz.f95),(96,Tryz.f96),(97,Tryz.f97),(98,Tryz.f98),(99,Tryz.f99),(100,Tryz.f100),(101,Tryz.f101),(102,Tryz.f102),(103,Tryz.f103),(104,Tryz.f104),(105,Tryz.f105),(106,Tryz.f106),(107,Tryz.f107),(108,Tryz.f108),(109,Tryz.f109),(110,Tryz.f110),(111,Tryz.f111),(112,Tryz.f112),(113,Tryz.f113),(114,Tryz.f114),(115,Tryz.f115),(116,Tryz.f116),(117,Tryz.f117),(118,Tryz.f118),(119,Tryz.f119),(120,Tryz.f120),(121,Tryz.f121),(122,Tryz.f122),(123,Tryz.f123),(124,Tryz.f124),(125,Tryz.f125),(126,Tryz.f126),(127,Tryz.f127),(128,Tryz.f128),(129,Tryz.f129),(130,Tryz.f130),(131,Tryz.f131),(132,Tryz.f132),(133,Tryz.f133),(134,Tryz.f134),(135,Tryz.f135),(136,Tryz.f136),(137,Tryz.f137),(138,Tryz.f138),(139,Tryz.f139),(142,Tryz.f142),(144,Tryz.f144),(145,Tryz.f145),(146,Tryz.f146),(147,Tryz.f147),(148,Tryz.f148),(149,Tryz.f149),(150,Tryz.f150),(151,Tryz.f151),(152,Tryz.f152),(153,Tryz.f153),(154,Tryz.f154),(155,Tryz.f155),(156,Tryz.f156),(157,Tryz.f157),(158,Tryz.f158),(159,Tryz.f159),(160,Tryz.f160),(161,Tryz.f161),(162,Tryz.f162),(163,Tryz.f163),(164,Tryz.f164),(165,Tryz.f165),(166,Tryz.f166),(167,Tryz.f167),(168,Tryz.f168),(169,Tryz.f169),(170,Tryz.f170),(171,Tryz.f171),(172,Tryz.f172),(173,Tryz.f173),(174,Tryz.f174),(175,Tryz.f175),(176,Tryz.f176),(177,Tryz.f177),(178,Tryz.f178),(179,Tryz.f179),(180,Tryz.f180),(181,Tryz.f181),(182,Tryz.f182),(183,Tryz.f183),(184,Tryz.f184),(185,Tryz.f185),(186,Tryz.f186),(187,Tryz.f187),(188,Tryz.f188),(189,Tryz.f189),(190,Tryz.f190),(191,Tryz.f191),(192,Tryz.f192),(193,Tryz.f193),(194,Tryz.f194),(195,Tryz.f195),(196,Tryz.f196),(197,Tryz.f197),(198,Tryz.f198),(199,Tryz.f199),(200,Tryz.f200),(201,Tryz.f201),(202,Tryz.f202),(203,Tryz.f203),(204,Tryz.f204),(205,Tryz.f205),(206,Tryz.f206),(207,Tryz.f207),(209,Tryz.f209),(213,Tryz.f213),(214,Tryz.f214),(215,Tryz.f215),(216,Tryz.f216),(217,Tryz.f217),(218,Tryz.f218),(219,Tryz.f219),(221,Tryz.f221),(222,Tryz.f222),(223,Tryz.f223),(224,Tryz.f224),(225,Tryz.f225),(226,Tryz.f226),(227,Tryz.f227),(228,Tryz.f228),(230,Tryz.f230),(231,Tryz.f231),(232,Tryz.f232),(233,Tryz.f233),(234,Tryz.f234),(235,Tryz.f235),(236,Tryz.f236),(237,Tryz.f237),(238,Tryz.f238),(239,Tryz.f239),(240,Tryz.f240),(241,Tryz.f241),(242,Tryz.f242),(243,Tryz.f243),(244,Tryz.f244),(245,Tryz.f245),(246,Tryz.f246),(247,Tryz.f247),(248,Tryz.f248),(249,Tryz.f249),(250,Tryz.f250),(251,Tryz.f251),(252,Tryz.f252),(253,Tryz.f253),(254,Tryz.f254),(255,Tryz.f255),(256,Tryz.f256),(257,Tryz.f257),(258,Tryz.f258),(262,Tryz.f262),(263,Tryz.f263),(264,Tryz.f264),(265,Tryz.f265),(266,Tryz.f266),(267,Tryz.f267),(276,Tryz.f276),(277,Tryz.f277),(279,Tryz.f279),(280,Tryz.f280),(281,Tryz.f281),(282,Tryz.f282),(283,Tryz.f283),(284,Tryz.f284),(285,Tryz.f285),(286,Tryz.f286),(287,Tryz.f287),(288,Tryz.f288),(289,Tryz.f289),(290,Tryz.f290),(291,Tryz.f291),(292,Tryz.f292),(293,Tryz.f293),(294,Tryz.f294),(295,Tryz.f295),(296,Tryz.f296),(297,Tryz.f297),(298,Tryz.f298),(299,Tryz.f299),(300,Tryz.f300),(301,Tryz.f301),(302,Tryz.f302),(303,Tryz.f303),(304,Tryz.f304),(305,Tryz.f305),(306,Tryz.f306),(307,Tryz.f307),(308,Tryz.f308),(327,Tryz.f327),(328,Tryz.f328),(329,Tryz.f329),(330,Tryz.f330),(331,Tryz.f331),(332,Tryz.f332),(333,Tryz.f333),(334,Tryz.f334),(335,Tryz.f335),(336,Tryz.f336),(337,Tryz.f337),(338,Tryz.f338),(339,Tryz.f339),(340,Tryz.f340),(341,Tryz.f341),(343,Tryz.f343),(344,Tryz.f344),(365,Tryz.f365),(366,Tryz.f366),(367,Tryz.f367),(368,Tryz.f368),(369,Tryz.f369),(370,Tryz.f370),(372,Tryz.f372),(373,Tryz.f373),(374,Tryz.f374),(375,Tryz.f375),(376,Tryz.f376),(377,Tryz.f377),(378,Tryz.f378),(379,Tryz.f379),(393,Tryz.f393),(394,Tryz.f394),(395,Tryz.f395),(396,Tryz.f396),(403,Tryz.f403),(208,Tryz.f208),(210,Tryz.f210),(211,Tryz.f211),(212,Tryz.f212),(220,Tryz.f220),(260,Tryz.f260),(261,Tryz.f261),(311,Tryz.f311)]
def pt(x y:Int):DV:=.agg 1 [.int .i64 x,.int .i64 y]
def zGB:DV:=.agg 17 [pt 0 (-1),pt (-1) (-1),pt (-1) 0,pt (-1) 1,pt 0 1,pt 1 1,pt 1 0,pt 1 (-1)]
noncomputable def E0(steps:Nat)(fresh:FuncId->Bool)(orc:FuncId->Option (List DV->Option CR)):Env where
 D t:=dTab.lookup t
 L g:=L0.getD g []
 flds t:=(fldTab.lookup t).getD []
 glob g:=if g=steps then some zGB else none
 F f:=fTab.lookup f
 fresh:=fresh
 orc:=orc
 gtab g:=if g=5 then some (Ba.map λz=>Al .u64 z).toArray else none
theorem qx{β:Type}{k:Nat}{v:β}:∀{l:List (Nat×β)},l.lookup k=some v->(k,v)∈l
 | [],h=>by simp at h
 | (k',v') :: l,h=>by
  rw[List.lookup_cons] at h;split at h
  ·rename_i e;injection h with h;subst h
   have:k=k':=by simpa using e
   subst this;exact List.mem_cons_self
  ·exact List.mem_cons_of_mem _ (qx h)
set_option maxRecDepth 100000 in
theorem chk_all(steps:Nat)(fresh:FuncId->Bool)(orc:FuncId->Option (List DV->Option CR)):(dTab.all λp=>chkTD Tryz.prog (E0 steps fresh orc) p.1 p.2)=true:=by kernel_rfl
set_option maxRecDepth 100000 in
theorem QE(steps:Nat)(fresh:FuncId->Bool)(orc:FuncId->Option (List DV->Option CR)):DOK Tryz.prog (E0 steps fresh orc):=λ_ d h =>
 zI0 (Au.1 (chk_all steps fresh orc) _ (qx h))
set_option maxRecDepth 100000 in
theorem JK:Tryz.prog.follows .mixedOrders=true:=by kernel_rfl
end Go.Am
namespace Go.Am
open Go.Proofs
open Go
def o200:List DV->Option CR
 | [w,ps,b]=>some (.val (.sl 1 ((wakesI (intsOf (nth (flds w) 1)) (intsOf (nth (flds w) 2)) (zC (nth (flds b) 0)) (ptX (nth (flds b) 1)) (ptY (nth (flds b) 1)) ((elems ps).map λp=>(ptX p,ptY p))).map λr=>.sl 1 (ints r))))
 | _=>none
def o161:List DV->Option CR
 | [p]=>some (.val (.dp (.agg 16 [p,.agg 13 [nth (flds p) 2,nth (flds p) 3,nth (flds p) 4],
   .agg 15 ((AT 8).map λj=>.agg 14 ((AT 8).map λi=>.bool (
    let n:=(elems (nth (flds p) 0)).length
    let least:=zC (nth (flds p) 1)
    decide (i<n/\j<n/\i≠j) &&
     let a:=nth (elems (nth (flds p) 0)) i
     let b:=nth (elems (nth (flds p) 0)) j
     decide ((ptX a - ptX b) * (ptX a - ptX b)+(ptY a - ptY b) * (ptY a - ptY b)<least * least))))])))
 | _=>none
def oClone(sz:Nat):List DV->Option CR
 | [x]=>match elems x with
  | []=>some (.val .nl)
  | xs=>some (.fresh sz xs)
 | _=>none
def o210:List DV->Option CR
 | [x]=>some (.val (.str ⟨(Lib.itoa (zC x)).toArray⟩))
 | _=>none
def joinB(sep:List UInt8):List (List UInt8)->List UInt8
 | []=>[]
 | [x]=>x
 | x :: xs=>x++sep++joinB sep xs
def o208:List DV->Option CR
 | [x,s]=>some (.val (.str ⟨(joinB (zX s).data.toList ((elems x).map λy=>(zX y).data.toList)).toArray⟩))
 | _=>none
def o50:List DV->Option CR
 | _=>some (.val (.tup [.int .i64 307200,.int .i64 0]))
noncomputable def EB:Env:=E0 1 (λ_=>false) (λ_=>none)
noncomputable def okSi(x:DV):Bool:=zF EB 6 58 x && (elems (nth (flds x) 2)).all (zF EB 6 176)
noncomputable def o68:List DV->Option CR
 | [x,.int .i64 n]=>if okSi x then some (.val (.tup [.sl 1 ((YI (siOf x) n).1.map eN),eI (YI (siOf x) n).2])) else none
 | _=>none
def freshF(f:FuncId):Bool:=[243,267,80].contains f
noncomputable def zGK(f:FuncId):Option (List DV->Option CR) :=
 match f with
 | 200=>some o200
 | 161=>some o161
 | 243=>some (oClone 1)
 | 267=>some (oClone 3)
 | 210=>some o210
 | 208=>some o208
 | 50=>some o50
 | 68=>some o68
 | 174=>some λ_=>none
 | _=>none
end Go.Am
namespace Go.Am
open Go.Proofs
open Go
set_option maxRecDepth 100000 in
def xTab:List (Nat×XF):=[
 (3,⟨[3,4,5,7,9,15,17,19,21],[[3,4,5,21,22,23,24,147,148],[3,4,5,21,22,23,24,147,148,189,190,191]],0,[]⟩),
 (4,⟨[2,3],[],0,[(10,[2,5,6,7,8,9,10,11,12]),(12,[2,5,6,7,8,9,10,11,12])]⟩),
 (5,⟨[2],[],0,[(7,[1,2,5,6,7,8,9]),(9,[1,2,5,6,7,8,9]),(13,[2,5,6,7,8,9,10,11])]⟩),
 (6,⟨[3],[[1,2,3,27,28,29]],0,[(14,[1,2,3,9,10,11]),(16,[1,2,3,9,10,11])]⟩),
 (7,⟨[3,12,16],[[2,3,7,8,9,10,12,13,105,106,107],[3,7,10,23,24,25,26,27,203,204,205]],0,[(27,[2,3,7,8,10])]⟩),
 (8,⟨[2,3,5,13,29],[[2,3,5,6,7,8,9,10,11,56,57,58],[2,3,5,6,7,8,9,10,11,18,19,56,57,58,99,100,101],[2,3,5,6,7,8,9,10,11,18,19,24,56,57,58,143,144,145]],0,[]⟩),
 (9,⟨[3,4,5],[],0,[(9,[3,4,5,7,8,9,10,11,12,13,14,15]),(14,[3,4,5,7,8,9,10,11,12,13,14,15,16,17,18,19,20]),(16,[3,4,5,7,8,9,10,11,12,13,14,15,16,17,18,19,20]),(18,[4,7,8,9,10,11,12,13,14,15,16,17,18,19,20])]⟩),
 (10,⟨[3,4,5],[],0,[(11,[3,4,5,7,8,9,10,11,12,13,14,15,16,17]),(13,[7,8,9,10,11,12,13,14,15,16,17])]⟩),
 (11,⟨[1,3,7,11,12],[],0,[(12,[3,4,5,6,7,8,9,10,11,12,13])]⟩),
 (12,⟨[3,8,9,10,13,14,17,19,20],[[2,3,8,9,10,58,59],[2,3,8,9,10,84],[2,3,8,9,10,13,14,94],[2,3,8,9,10,13,14,15,94,97],[17,126,127,128]],0,[]⟩),
 (13,⟨[2,3,12,17,20,23,33],[[2,5,6,7,8,12,106,107,108],[2,5,6,7,8,12,118,119],[2,5,6,7,8,12,15,118,119,133,134],[2,5,6,7,8,17,185,186,187],[2,7,8,17,24,26,262,263]],0,[]⟩),
 (14,⟨[3,4],[],0,[(8,[2,3,4,7,8,9,10,11,12,13,14]),(12,[7,8,9,10,11,12,13,14])]⟩),
 (15,⟨[2,5,9],[],0,[(8,[5,6,7,8,9,10])]⟩),
 (16,⟨[3,4,9,10,16,17,22,25],[[3,7,18,23,25,26,200,201]],0,[(8,[2,3,4,7])]⟩),
 (17,⟨[3,11,17],[],0,[(10,[2,3,7,8,9,10,11,12,13,14,15,16]),(12,[2,3,7,8,9,10,11,12,13,14,15,16])]⟩),
 (18,⟨[3,9,11],[],0,[(9,[1,3])]⟩),
 (19,⟨[3,5,8,9,11,15,18,21,22,24,26,28,31,34,35,36,44],[[1,3,5,7,8,11,18,19,127,128,129],[5,35,37,39,40,44,311,312]],0,[(34,[1,3,5,11,19])]⟩),
 (20,⟨[1,2,4],[],0,[]⟩),
 (21,⟨[2],[],0,[]⟩),
 (22,⟨[1],[],0,[]⟩),
 (23,⟨[1],[[1,4]],0,[]⟩),
 (24,⟨[2,3,4,6],[[2,3,4,6,7]],0,[]⟩),
 (25,⟨[2,3,4,5,7,8],[],0,[]⟩),
 (26,⟨[1,2],[],0,[]⟩),
 (27,⟨[1,5,8],[[1,5,6,41,42,43],[5,6,56,57,58]],0,[]⟩),
 (28,⟨[2,6,57],[[2,6,8,9,90,91],[2,6,8,105,106]],0,[]⟩),
 (29,⟨[1,2],[],0,[]⟩),
 (30,⟨[1],[],0,[]⟩),
 (31,⟨[],[[0,1,5]],0,[]⟩),
 (32,⟨[3,9],[],0,[]⟩),
 (33,⟨[1,24],[],0,[]⟩),
 (34,⟨[1,2],[],0,[]⟩),
 (35,⟨[],[[0,3]],0,[]⟩),
 (38,⟨[3],[],0,[]⟩),
 (39,⟨[1],[],0,[]⟩),
 (40,⟨[1],[],0,[]⟩),
 (43,⟨[2],[],0,[]⟩),
 (44,⟨[2,8],[],0,[]⟩),
 (45,⟨[1,2],[],0,[]⟩),
 (46,⟨[1],[[1,3],[1,3,5]],0,[]⟩),
 (47,⟨[3],[],0,[]⟩),
 (48,⟨[1],[[1,3,4]],0,[]⟩),
 (49,⟨[1,4],[[1,12,13,14]],0,[]⟩),
 (50,⟨[3],[],0,[]⟩),
 (51,⟨[],[[3,6,7,8]],0,[]⟩),
 (52,⟨[2],[[1,2,5,6],[1,2,5,6,7]],0,[]⟩),
 (53,⟨[3],[[1,2,3,8,9,10]],0,[]⟩),
 (54,⟨[],[[0,1,5,6],[5,7,8]],0,[]⟩),
 (55,⟨[2,4,6],[[1,2,4,6,7]],0,[]⟩),
 (57,⟨[1],[],0,[]⟩),
 (59,⟨[1,2,3,5],[[2,3,41,42,43]],0,[]⟩),
 (61,⟨[4,8,10],[[4,6,8,21,22,23]],0,[]⟩),
 (62,⟨[2],[[2,5]],0,[]⟩),
 (63,⟨[1],[],0,[]⟩),
 (64,⟨[4,12],[],0,[]⟩),
 (65,⟨[1,2,3,5],[[2,3,12,13,14]],0,[]⟩),
 (66,⟨[3],[],0,[]⟩),
 (67,⟨[1,2],[],0,[]⟩),
 (68,⟨[2,7,11],[[7,9,26,27,28]],0,[]⟩),
 (69,⟨[1,4],[[1,3],[1,3,4,5],[1,3,4,6]],0,[]⟩),
 (70,⟨[2],[],0,[]⟩),
 (71,⟨[1],[[1,3],[1,5]],0,[]⟩),
 (72,⟨[3,4,8,9],[],0,[]⟩),
 (73,⟨[3],[],0,[]⟩),
 (74,⟨[2],[[1,2,5,6],[1,2,5,6,7]],0,[]⟩),
 (75,⟨[1,3],[[1,44,45,46],[1,74,75,76]],0,[]⟩),
 (76,⟨[3,4,8],[],0,[]⟩),
 (77,⟨[3,4,8],[],0,[]⟩),
 (78,⟨[4,5,10],[],0,[]⟩),
 (79,⟨[3,4],[[2,3,4,7,8],[2,3,4,7,8,9,10]],0,[]⟩),
 (80,⟨[3,4],[[4,7,8,9]],0,[]⟩),
 (81,⟨[4,5],[[3,9,10]],0,[]⟩),
 (82,⟨[],[[0,1,5]],0,[]⟩),
 (83,⟨[1,2,5],[],0,[]⟩),
 (84,⟨[1],[],0,[]⟩),
 (85,⟨[1,2],[[2,4,6,7,8]],0,[]⟩),
 (86,⟨[1],[],0,[]⟩),
 (87,⟨[1,3],[],0,[]⟩),
 (88,⟨[4],[[0,1,4,5,6]],0,[]⟩),
 (89,⟨[2,4,5],[[1,2,4,5,6]],0,[]⟩),
 (90,⟨[2,4,5],[[1,2,4,5,6]],0,[]⟩),
 (91,⟨[],[[0,1,5]],0,[]⟩),
 (93,⟨[],[[3,6,7,8]],0,[]⟩),
 (94,⟨[2,3,7],[],0,[]⟩),
 (95,⟨[3,5,9],[],0,[]⟩),
 (96,⟨[2,3,4],[],0,[]⟩),
 (97,⟨[2,3],[],0,[]⟩),
 (98,⟨[3,5,6,7],[],0,[]⟩),
 (99,⟨[3,5],[],0,[]⟩),
 (100,⟨[2,4,9,13,14],[[1,2,4,9,10,38,39],[1,2,4,9,10,11,38,39,42,43,44]],0,[]⟩),
 (101,⟨[],[[0,3]],0,[]⟩),
 (102,⟨[2,4,8,11],[[1,2,4,7,8,9],[1,2,4,7,8,9,10]],0,[]⟩),
 (103,⟨[2,3],[[2,3,5]],0,[]⟩),
 (104,⟨[1,2,3,5],[[2,3,12,13,14]],0,[]⟩),
 (105,⟨[1],[],0,[]⟩),
 (106,⟨[2],[],0,[]⟩),
 (107,⟨[1,2],[],0,[]⟩),
 (108,⟨[1],[],0,[]⟩),
 (109,⟨[2,9],[[2,4,16,17,18]],0,[]⟩),
 (110,⟨[1],[[1,3]],0,[]⟩),
 (111,⟨[2],[],0,[]⟩),
 (112,⟨[1],[[1,3,4]],0,[]⟩),
 (113,⟨[2,5],[[2,4,5,6]],0,[]⟩),
 (114,⟨[1],[[1,17,18,19]],0,[]⟩),
 (115,⟨[2,3],[],0,[]⟩),
 (116,⟨[2,3,4],[],0,[]⟩),
 (117,⟨[1,2,3,5],[[2,3,12,13,14]],0,[]⟩),
 (118,⟨[2,4,7,9],[[1,4,7,20,21]],0,[]⟩),
 (119,⟨[1],[],0,[]⟩),
 (120,⟨[2,5],[[0,2,5,6]],0,[]⟩),
 (121,⟨[2,4],[[1,2,4,5]],0,[]⟩),
 (122,⟨[1],[],0,[]⟩),
 (123,⟨[1,2,3,5],[[2,3,12,13,14]],0,[]⟩),
 (124,⟨[1,2],[],0,[]⟩),
 (125,⟨[1,2],[],0,[]⟩),
 (126,⟨[],[[0,1,5]],0,[]⟩),
 (127,⟨[1,7],[[5,15,16],[5,15,16,19,20]],0,[]⟩),
 (128,⟨[1],[[1,3,4],[1,3,4,5]],0,[]⟩),
 (129,⟨[1],[[1,3],[1,3,4]],0,[]⟩),
 (130,⟨[],[[0,3]],0,[]⟩),
 (131,⟨[],[[0,3]],0,[]⟩),
 (132,⟨[],[[0,3]],0,[]⟩),
 (134,⟨[],[[5,6,7]],0,[]⟩),
 (135,⟨[1],[[1,28,29,30],[1,65,66,67]],0,[]⟩),
 (137,⟨[1,5],[[3,12,13,14],[3,5,6,12,13,14]],0,[]⟩),
 (138,⟨[1],[],0,[]⟩),
 (139,⟨[],[[1,5,6,7]],1,[]⟩),
 (142,⟨[3],[[4,22,23]],0,[]⟩),
 (144,⟨[1,2],[],0,[]⟩),
 (145,⟨[3,9,10],[[1,2,3,7,16,17],[1,2,3,7,12,16,17,34,35]],0,[]⟩),
 (146,⟨[1],[],0,[]⟩),
 (147,⟨[2,5],[],0,[]⟩),
 (148,⟨[],[[5,6,7]],0,[]⟩),
 (150,⟨[2],[],0,[]⟩),
 (151,⟨[],[[1,5,8,9,10]],0,[]⟩),
 (152,⟨[3],[],0,[]⟩),
 (153,⟨[3,5,7],[],0,[]⟩),
 (154,⟨[0,1],[],0,[]⟩),
 (155,⟨[0,1],[],0,[]⟩),
 (156,⟨[4],[[4,9,10,11]],0,[]⟩),
 (157,⟨[2],[[1,2,5,6],[1,2,5,6,7]],0,[]⟩),
 (158,⟨[1,7,9],[[1,4,5,28,29,30],[1,4,5,7,28,29,30,56,57,58]],0,[]⟩),
 (159,⟨[1,4],[[11,12],[11,12,15,16]],0,[]⟩),
 (160,⟨[1],[],0,[]⟩),
 (161,⟨[1,16,3,6],[],0,[]⟩),
 (162,⟨[8,10,16],[[0,1,2,3,8,10,11,25,26,27],[0,1,2,3,8,10,11,12,13,25,26,27,32,33,34]],0,[]⟩),
 (163,⟨[1],[[3,7,8]],0,[]⟩),
 (164,⟨[1],[],0,[]⟩),
 (165,⟨[5,13],[[1,2,4,5,15,16,17,18]],0,[]⟩),
 (167,⟨[2],[],1,[]⟩),
 (168,⟨[1],[],0,[]⟩),
 (170,⟨[2],[[2,5,12,13,14],[2,5,12,13,14,18,19,20]],0,[]⟩),
 (171,⟨[11],[[0,5,19,20,21],[0,5,8,9,19,20,21,31,32],[0,5,8,9,10,11,19,20,21,31,32,45]],0,[]⟩),
 (172,⟨[],[[0,1,5]],0,[]⟩),
 (173,⟨[],[[3,4],[3,4,5]],0,[]⟩),
 (177,⟨[2,3],[],0,[]⟩),
 (178,⟨[],[[5,6,7]],0,[]⟩),
 (180,⟨[],[[1,5,8,9,10]],0,[]⟩),
 (183,⟨[11],[[1,5,6,7,24,25,26],[5,57,58,59]],0,[]⟩),
 (184,⟨[9],[[1,7,25,26,27]],0,[]⟩),
 (185,⟨[3,4,5,8],[],0,[]⟩),
 (186,⟨[3],[],0,[]⟩),
 (187,⟨[2,3],[],0,[]⟩),
 (189,⟨[2,3],[],0,[]⟩),
 (190,⟨[7],[[1,5,8,9,10]],0,[]⟩),
 (191,⟨[1],[],0,[]⟩),
 (192,⟨[2,3],[],0,[]⟩),
 (193,⟨[],[[0,1,5]],0,[]⟩),
 (194,⟨[2],[],0,[]⟩),
 (195,⟨[2],[],0,[]⟩),
 (199,⟨[3,4,6],[],0,[]⟩),
 (200,⟨[3,4,5,7],[[4,7,11,12]],0,[]⟩),
 (201,⟨[],[[0,1,5,6],[5,7]],0,[]⟩),
 (202,⟨[1,2],[],0,[]⟩),
 (203,⟨[2,3,4],[],0,[]⟩),
 (204,⟨[2,3,5],[],0,[]⟩),
 (205,⟨[3,5,6],[],0,[]⟩),
 (206,⟨[2,3,4],[],0,[]⟩),
 (207,⟨[7],[[1,5,8,9,10]],0,[]⟩),
 (209,⟨[],[[1,5,8,9,10]],0,[]⟩),
 (213,⟨[],[[0,1,5,6,7]],0,[]⟩),
 (214,⟨[],[[0,6,7]],0,[]⟩),
 (216,⟨[2,4],[[1,2,4,5,16,17]],0,[]⟩),
 (217,⟨[2,3],[[2,3,4,5]],1,[]⟩),
 (218,⟨[7],[[1,5,8,9,10]],0,[]⟩),
 (219,⟨[1],[],0,[]⟩),
 (221,⟨[14,10],[],0,[]⟩),
 (223,⟨[1],[],0,[]⟩),
 (227,⟨[5],[[3,10,11,12]],0,[]⟩),
 (228,⟨[],[[0,3,9,10,11]],1,[]⟩),
 (230,⟨[0,1],[],0,[]⟩),
 (231,⟨[],[[3,6,7,8]],0,[]⟩),
 (232,⟨[7],[[1,5,8,9,10]],0,[]⟩),
 (233,⟨[1,2],[],0,[]⟩),
 (234,⟨[2],[],0,[]⟩),
 (235,⟨[],[],1,[]⟩),
 (236,⟨[],[[1,5,8,9,10]],0,[]⟩),
 (237,⟨[],[],1,[]⟩),
 (238,⟨[],[[0,3,4]],0,[]⟩),
 (239,⟨[1],[],0,[]⟩),
 (240,⟨[2,3],[],0,[]⟩),
 (241,⟨[1],[],0,[]⟩),
 (242,⟨[2],[],0,[]⟩),
 (244,⟨[],[[0,1,7,8]],0,[]⟩),
 (246,⟨[1],[],0,[]⟩),
 (248,⟨[],[[0,5,10,11,12]],0,[]⟩),
 (249,⟨[1,3,5],[],0,[]⟩),
 (250,⟨[1],[],0,[]⟩),
 (251,⟨[2,3,4],[],0,[]⟩),
 (253,⟨[],[[3,6,7,8]],0,[]⟩),
 (255,⟨[2,3],[],0,[]⟩),
 (258,⟨[],[[0,1,2,3,4,10,11]],0,[]⟩),
 (260,⟨[],[[3,6,7,8]],0,[]⟩),
 (263,⟨[],[[0,3,4]],0,[]⟩),
 (265,⟨[],[[0,3,4]],0,[]⟩),
 (279,⟨[],[[0,10]],0,[]⟩),
 (281,⟨[1],[],0,[]⟩),
 (282,⟨[],[[0,1,5,6],[0,1,3,5,6,9,10]],1,[]⟩),
 (283,⟨[],[[1,5,8,9,10]],0,[]⟩),
 (284,⟨[3],[],1,[]⟩),
 (287,⟨[],[[0,5,6,7]],1,[]⟩),
 (288,⟨[],[[5,6,7]],0,[]⟩),
 (289,⟨[4],[[9,10,11]],0,[]⟩),
 (291,⟨[],[[1,8,9,10]],0,[]⟩),
 (293,⟨[3,5,6,6],[[0,5,6]],0,[]⟩),
 (295,⟨[1,2],[],0,[]⟩),
 (297,⟨[3],[],0,[]⟩),
 (298,⟨[],[[0,1,2,3,4,10,11]],0,[]⟩),
 (299,⟨[7],[[1,5,8,9,10]],0,[]⟩),
 (300,⟨[7],[[1,5,8,9,10]],0,[]⟩),
 (301,⟨[],[[0,1,2,3,8],[0,1,2,3,8,9]],0,[]⟩),
 (302,⟨[],[[0,3,8,9,10,11],[0,3,8,9,12]],0,[]⟩),
 (303,⟨[9],[[0,1,8,9,10,11]],0,[]⟩),
 (304,⟨[11],[],0,[]⟩),
 (305,⟨[],[[0,8,9]],0,[]⟩),
 (306,⟨[],[[0,1,2,3,9,10],[0,1,2,3,9,10],[0,1,2,3,9,10,11],[0,1,2,3,9,10,12]],0,[]⟩),
 (307,⟨[],[[0,1,4,11,12],[0,1,4,11,12],[0,1,4,11,12]],0,[]⟩),
 (308,⟨[],[[0,1,4,12,13],[0,1,4,12,13],[0,1,4,12,13],[0,1,4,12,13],[0,1,4,12,13]],0,[]⟩),
 (327,⟨[2],[],0,[]⟩),
 (328,⟨[],[[0,1,2,3,8,9]],0,[]⟩),
 (331,⟨[2,3],[],0,[]⟩),
 (332,⟨[],[[0,1,2,3,8],[0,1,2,3,8,9]],0,[]⟩),
 (333,⟨[],[[0,3,8,9,10,11],[0,3,8,9,12]],0,[]⟩),
 (334,⟨[9],[[0,1,8,9,10,11]],0,[]⟩),
 (335,⟨[11],[],0,[]⟩),
 (336,⟨[],[[0,8,9]],0,[]⟩),
 (337,⟨[],[[0,1,2,3,9,10],[0,1,2,3,9,10],[0,1,2,3,9,10,11],[0,1,2,3,9,10,12]],0,[]⟩),
 (338,⟨[],[[0,1,4,11,12],[0,1,4,11,12],[0,1,4,11,12]],0,[]⟩),
 (339,⟨[],[[0,1,4,12,13],[0,1,4,12,13],[0,1,4,12,13],[0,1,4,12,13],[0,1,4,12,13]],0,[]⟩),
 (340,⟨[],[[0,2,3,4,10]],0,[]⟩),
 (365,⟨[],[[0,1,2,6],[0,1,2,6,7]],0,[]⟩),
 (366,⟨[],[[0,6,7,8,9],[0,6,7,10]],0,[]⟩),
 (367,⟨[7],[[0,1,6,7,8,9]],0,[]⟩),
 (368,⟨[9],[],0,[]⟩),
 (369,⟨[],[[0,6,7]],0,[]⟩),
 (370,⟨[],[[0,1,2,7,8],[0,1,2,7,8],[0,1,2,7,8,9],[0,1,2,7,8,10]],0,[]⟩),
 (372,⟨[],[[0,1,9,10],[0,1,9,10],[0,1,9,10]],0,[]⟩),
 (373,⟨[],[[0,1,10,11],[0,1,10,11],[0,1,10,11],[0,1,10,11],[0,1,10,11]],0,[]⟩),
 (375,⟨[],[[0,1,2]],2,[]⟩),
 (376,⟨[],[[0,2,3,4,10]],0,[]⟩),
 (393,⟨[],[[0,2,3,8]],0,[]⟩)]
def stTm:Nat->Nat->List (Nat×AV)->List AV
 | 0,_,_=>[]
 | n+1,i,[]=>.undef :: stTm n (i+1) []
 | n+1,i,(j,v) :: r=>match Bz i j with
  | true=>v :: stTm n (i+1) r
  | false=>.undef :: stTm n (i+1) ((j,v) :: r)
def stHp:Nat->Nat->List (Nat×OB)->List (Option OB)
 | 0,_,_=>[]
 | n+1,i,[]=>none :: stHp n (i+1) []
 | n+1,i,(j,v) :: r=>match Bz i j with
  | true=>some v :: stHp n (i+1) r
  | false=>none :: stHp n (i+1) ((j,v) :: r)
def zr(n:Nat)(tm:List (Nat×AV))(hp:List (Nat×OB)):St:={ tm:=stTm n 0 tm,hp:=stHp n 0 hp }
noncomputable def EE:Env:=E0 1 freshF zGK
def XX:XC:={ arr:=[2,3,10,11,14,15,17],fx:=λf=>(xTab.lookup f).getD {} }
end Go.Am
namespace Go.Am
open Go.Proofs
open Go Go.RowKit Go.ChangeShapes Go.WideShapes Go.WideElems
theorem pieces{α:Type}(m:Nat):∀(css:List (List α)) (cs:List α),cs.length=css.length * m->(∀i (hi:i<css.length),(cs.drop (i * m)).take m=css[i])->cs=css.flatten
 | [],cs,hl,_=>by
  have:cs.length=0:=by simpa using hl
  simpa using A0.1 this
 | c :: css,cs,hl,h=>by
  have h0:=h 0 (by simp)
  have ht:=pieces m css (cs.drop m) (by simp only[At,BG,BE] at hl;rw[Bl];omega) (λi hi=>by
   have:=h (i+1) (by simp;omega)
   rw[Bs];rw[BG,BE] at this;simpa[BA] using this)
  simp only[Nat.zero_mul,List.drop_zero,A6] at h0;rw[Bi,<-ht,<-h0,A8]
section
variable{H:Type}{enc:TypeId×Value->H}{P:Program}{w:World}{base:Nat}{spare:Nat->Bool}{held:Bool}
theorem trod_ints{k:IntKind}{t e:TypeId}{n fuel:Nat}{cs:List Value}{d:DataW H}{ps:List MemPlace}(ht:P.underlying t=some (.array n e))(he:P.underlying e=some (.int k))(hc:P.cellsOf e=1)(hct:P.cellsOf t=n)
  (zs:List Int) (hn:zs.length=n) (h:Be enc P w base spare held fuel t cs=some (d,ps)) (hz:d=.agg (zs.map λz=>.lit (.int k z))):cs=zs.map (Al k):=by
 obtain⟨xs,m,_,hx,hl,hxl,hel⟩:=Bk ht h;rw[hc] at hel;rw[hct] at hl;injection hx with hx _
 rw[hz] at hx;injection hx with hx
 have:=pieces 1 (zs.map λz=>[Al k z]) cs (by simp[hl,hn]) (λi hi=>by
  have hi':i<n:=by simpa[hn] using hi
  have hxi:i<xs.length:=by omega
  have h1:=hel i hi';rw[Ac hxi] at h1;obtain⟨q,e1,e2,_⟩:=AS he h1;rw[e1,Ax];have h2:(zs.map λz=>(DataW.lit (.int k z):DataW H))[i]? = (xs.map (·.1))[i]?:=by rw[hx]
  rw[Aj,Aj,Ac hxi,Ac (by omega),e2] at h2
  simp only[AD,An] at h2;injection h2 with h2
  injection h2 with _ h2;rw[h2])
 rw[this];induction zs with
 | nil=>rfl
 | cons z zs _=>exact flat1' (Al k) (z :: zs)
where flat1' {α:Type} (g:α->Value):∀l:List α,(l.map λx=>[g x]).flatten=l.map g
 | []=>rfl
 | x :: l=>by rw[AK,Bi,flat1' g l];rfl
theorem trod_pts{k:IntKind}{t e ei:TypeId}{f0 f1:Field}{n fuel:Nat}{cs:List Value}{d:DataW H}{ps:List MemPlace}(ht:P.underlying t=some (.array n e))(he:P.underlying e=some (.struct #[f0,f1]))(h0:f0.type=ei/\f0.offset=0)(h1:f1.type=ei/\f1.offset=1)
  (hi:P.underlying ei=some (.int k)) (hci:P.cellsOf ei=1) (hc:P.cellsOf e=2) (hct:P.cellsOf t=n * 2)
  (zs:List (Int×Int)) (hn:zs.length=n) (h:Be enc P w base spare held fuel t cs=some (d,ps)) (hz:d=.agg (zs.map λz=>.agg [.lit (.int k z.1),.lit (.int k z.2)])) :
  cs=(zs.map λz=>[Al k z.1,Al k z.2]).flatten:=by
 obtain⟨xs,m,_,hx,hl,hxl,hel⟩:=Bk ht h;rw[hc] at hel;rw[hct] at hl;injection hx with hx _
 rw[hz] at hx;injection hx with hx
 refine pieces 2 (zs.map λz=>[Al k z.1,Al k z.2]) cs (by simp[hl,hn]) (λi hi'=>?_)
 have hi':i<n:=by simpa[hn] using hi'
 have hxi:i<xs.length:=by omega
 have hq:=hel i hi';rw[Ac hxi] at hq;obtain⟨y0,y1,m',e1,e2,e3,e4⟩:=trod_struct2 he hq;rw[h0.1,h0.2,hci] at e3;rw[h1.1,h1.2,hci] at e4;obtain⟨a,a1,a2,_⟩:=AS hi e3;obtain⟨b,b1,b2,_⟩:=AS hi e4;have h2:(zs.map λz=>(DataW.agg [.lit (.int k z.1),.lit (.int k z.2)]:DataW H))[i]? = (xs.map (·.1))[i]?:=by rw[hx]
 rw[Aj,Aj,Ac hxi,Ac (by omega),e1,a2,b2] at h2
 simp only[AD,An,DataW.agg.injEq,Bc,DataW.lit.injEq,Lit.int.injEq,and_true,true_and] at h2;rw[hc] at e2;generalize (cs.drop (i * 2)).take 2=q at *
 match q,e2 with
 | [u,v],_ =>
  simp at a1 b1;rw[Ax,a1,b1,h2.1,h2.2]
end
theorem zF1{P:Program}{w:World}:∀{l:List (String×DataW Unit)} {ps:List MemPlace},DataW.LaidVars P w l ps->∀{n:String} {d:DataW Unit},(n,d)∈l ->
  ∃g t cs fuel p,P.globalNamed n=some g/\(P.globals[g]?).map (·.type)=some t/\w.var? P n=some cs/\Be (λ_=>()) P w 0 (λ_=>true) false fuel t cs.toList=some (d,p)
 | [],_,_,_,_,hm=>by simp at hm
 | (n0,d0) :: r,ps,h,n,d,hm=>by
  obtain⟨g,t,cs,fuel,p,q,h1,h2,h3,h4,h5,_⟩:=h;rcases Ag.1 hm with e | hm
  ·injection e with e1 e2;subst e1 e2
   exact⟨g,t,cs,fuel,p,h1,h2,h3,h4⟩
  ·exact zF1 h5 hm
def stepsL:List (Int×Int):=[(0,-1),(-1,-1),(-1,0),(-1,1),(0,1),(1,1),(1,0),(1,-1)]
def stepsC:List Value:=(stepsL.map λz=>[Al .i64 z.1,Al .i64 z.2]).flatten
theorem rd_steps{S:Nat->Prop}{w:World}:RD EE.L S w zGB stepsC:=by
 have pt1:∀z:Int×Int,RD EE.L S w (pt z.1 z.2) [Al .i64 z.1,Al .i64 z.2]:=λz=>by
  have h:=RD.agg (L:=EE.L) (S:=S) (w:=w) 1 [DV.int .i64 z.1,.int .i64 z.2] [[Al .i64 z.1],[.int .i64 z.2]] rfl (λi h h'=>by
   match i,h,h' with
   | 0,_,_=>exact .int _ _
   | 1,_,_=>exact .int _ _) (by kernel_rfl)
  exact h
 have h:=RD.agg (L:=EE.L) (S:=S) (w:=w) 17 (stepsL.map λz=>pt z.1 z.2) (stepsL.map λz=>[Al .i64 z.1,Al .i64 z.2]) (by simp) (λi h h'=>by
  rw[Ax,Ax];exact pt1 _) (by kernel_rfl)
 exact h
theorem glob_mk{W:World}(h1:∀j,W.cell? ⟨1,j,none⟩=stepsC[j]?)(h5:∃t fr,W.heap[5]? = some (.cells (Ba.map λz=>Al .u64 z).toArray t fr)):GlobOK EE (λb=>b<W.heap.size) W:=by
 have hs5:5<W.heap.size:=by obtain⟨t,fr,h⟩:=h5;exact(Ae.1 h).1
 refine⟨λg x h=>?_,λg cs h=>?_⟩
 ·have e:EE.glob g=if g=1 then some zGB else none:=rfl
  rw[e] at h;split at h
  ·rename_i hg;injection h with h
   subst hg h;exact RV.mkDp rfl (show 1<W.heap.size by omega) (λj u hu=>by
    rw[jr rfl];simpa using(h1 j).trans hu) rd_steps
  ·cases h
 ·have e:EE.gtab g=if g=5 then some (Ba.map λz=>Al .u64 z).toArray else none:=rfl
  rw[e] at h;split at h
  ·rename_i hg;injection h with h
   subst hg h;exact⟨hs5,h5⟩
  ·cases h
end Go.Am
namespace Go.Am
open Go.Proofs
open Go Go.RowKit
def noDef(ops:Array Oper):Bool:=ops.toList.all λo=>match o.op with | .defer _=>false | _=>true
section
variable{P:Program}{ops:Array Oper}{Q:Exit->Act->World->Prop}{l n:Nat}
theorem zJT(h:noDef ops=true){i:Nat}{o:Oper}(ho:ops[i]? = some o):∀c,o.op≠.defer c:=by
 intro c hc;have hm:o∈ops.toList:=by obtain⟨hi,rfl⟩:=Ae.1 ho;simp
 have:=Au.1 h o hm;rw[hc] at this;simp at this
theorem upon_In{o:Oper}{a:Act}{K K':Act->World->Prop}(hQ:¬LetsOut Q)(h:∀a w,K a w->K' a w){r:Result Next}(hh:o.upon P a K Q r):o.uponIn (Ah.inRound l) n P a K' Q r:=by
 cases r with
 | ok x w' =>
  cases x with
  | value v=>exact h _ _ hh
  | skip=>exact h _ _ hh
  | defer d=>exact h _ _ hh
  | enter f args =>
   refine⟨λe=>by simp[Ah] at e,?_⟩
   refine(CallsIn.inRound l (callsIn_wide.2 hh)).mono λe w'' he=>?_
   cases e with
   | returned v=>exact h _ _ he
   | panicked c=>exact he
   | outgrown=>exact he
  | row rw args =>
   refine⟨λe=>by simp[Ah] at e,?_⟩
   intro c cs _;obtain⟨v,w'',h1,h2⟩:=hh c cs;exact⟨v,w'',h _ _ h1,stepsIn_wide.2 h2⟩
  | round l f t a b=>exact hh.elim
  | _=>exact hh.elim
 | halt x w' =>
  cases x <;> simp only[Oper.upon] at hh <;> exact hh
theorem wp_In{o:Oper}{a:Act}{w:World}{K K':Act->World->Prop}(hd:∀c,o.op≠.defer c)(hQ:¬LetsOut Q)(h:∀a w,K a w->K' a w)(hh:o.wp P a w K Q\/(o.asks P a w/\LetsOut Q)):o.wpIn (Ah.inRound l) n P a w K' Q:=by
 refine⟨λ_ _=>trivial,?_⟩
 have hh:=hh.resolve_right λhx=>hQ hx.2
 rw[show(Ah.inRound l).round=some l from rfl,AW _ _ _ hd]
 exact upon_In hQ h hh
theorem zCN(hn:noDef ops=true)(hQ:¬LetsOut Q):∀(is:List Nat) (a:Act) (w:World),wpOps P ops Q is a w->wpOpsIn (Ah.inRound l) n P ops Q is a w
 | [],a,w,h=>h
 | i :: is,a,w,h=>by
  simp only[wpOps,wpOpsIn] at h ⊢;cases ho:ops[i]? with
  | none=>rw[ho] at h;exact zCN hn hQ is a w h
  | some o =>
   rw[ho] at h;simp only at h ⊢;split
   ·rename_i hw;rw[if_pos hw] at h;exact wp_In (zJT hn ho) hQ (λa w h=>zCN hn hQ is a w h) h
   ·rename_i hw;rw[if_neg hw] at h;exact⟨λ_ _=>trivial,zCN hn hQ is _ w h⟩
theorem zCO{md:Bu}(hn:noDef ops=true)(hQ:¬LetsOut Q):∀(fuel:Nat) (listed:Array Bool) (a:Act) (w:World),wpAny P md ops Q fuel listed a w->wpAnyIn (Ah.inRound l) n P md ops Q fuel listed a w
 | 0,listed,a,w,h=>h
 | fuel+1,listed,a,w,h=>by
  refine⟨h.1,λi hi=>?_⟩
  have hh:=h.2 i hi;unfold wpOp at hh;unfold wpOpIn;cases ho:ops[i]? with
  | none=>rw[ho] at hh;exact zCO hn hQ fuel _ a w hh
  | some o =>
   rw[ho] at hh;simp only at hh ⊢;split
   ·rename_i hw;rw[if_pos hw] at hh;exact wp_In (zJT hn ho) hQ (λa w h=>zCO hn hQ fuel _ a w h) hh
   ·rename_i hw;rw[if_neg hw] at hh;exact⟨λ_ _=>trivial,zCO hn hQ fuel _ _ w hh⟩
end
section
variable{P:Program}{E:Env}{call:FuncId->List DV->Option CR}{base:Nat}{S:Nat->Prop}{φ:Nat->Option Nat}{st:St}{a:Act}{w:World}{l m:Nat}
def inR:Code->Bool
 | .skip=>true
 | .region _ ops _=>noDef ops
 | .seq x y=>inR x && inR y
 | .block _ c=>inR c
 | .cond _ x y=>inR x && inR y
 | .exit _=>true
 | _=>false
end
end Go.Am
namespace Go.Am
open Go.Proofs
open Go Go.RowKit
attribute [local go_sem] AF
def SeqR(P:Program)(g:Nat)(lb:Array Value)(xs:List (Array Value))(C:World->Prop):Prop :=
 ∀(l:Nat) (J:Nat->World->Prop) (W:World),(∀k W,J k W->C W) ->
  (∀k x W1,xs[k]? = some x->J k W1->YieldAt Ah 0 P l x W1 λe W'=>e=.returned (.bool true)/\J (k+1) W') ->
  J 0 W->CallsIn Ah 0 P g (#[.func (.yield l) #[] #[]]++lb) W λe W'=>(∃v,e=.returned v)/\J xs.length W'
section
variable{P:Program}
theorem zAh{g:Operand}{ps:Array Tmp}{assign body:Code}{Q:Exit->Act->World->Prop}{a:Act}{w:World}
  {gf:Nat} {lb:Array Value} (hg:a.eval g=.func (.func gf) #[] lb) (eg:∀args w,(callFunc gf args).run P w=.ok (.enter gf args) w)
  {xs:List (Array Value)} {C:World->Prop} (hseq:SeqR P gf lb xs C) (hps:∀x∈xs,x.size=ps.size)
  (I:Nat->World->Prop) (hI:∀k W r o,I k W->W.heap[w.heap.size+1]? = some (.loop r)->I k (W.putObj (w.heap.size+1) o))
  (hIC:∀k W,I k W->C W)
  (h0:∀r,I 0 ((w.alloc (.deferred (some []))).alloc (.loop r))) (a₁:Array Value->Act)
  (hassign:∀(k:Nat) (x:Array Value) (W:World) (K:Act->World->Prop),xs[k]? = some x->K (a₁ x) W ->
   assign.wpIn (Ah.inRound (w.heap.size+1)) 0 P (Exit.then K (λ_ _ _=>False)) { tmps:=(ps.zip x).foldl (λt (p,v)=>t.setIfInBounds p v) a.tmps,defers:=[] } W)
  (hbody:∀(k:Nat) (x:Array Value) (W:World) (r:Loop),xs[k]? = some x->I k W->W.heap[w.heap.size+1]? = some (.loop r)->W.heap[w.heap.size]? = some (.deferred (some [])) ->
   body.wpIn (Ah.inRound (w.heap.size+1)) 0 P (λe _ W'=>e=.normal/\I (k+1) W'/\W'.heap[w.heap.size+1]? = W.heap[w.heap.size+1]?/\W'.heap[w.heap.size]? = W.heap[w.heap.size]?) (a₁ x) W)
  (hdone:∀(W:World),I xs.length W->W.heap[w.heap.size]? = some (.deferred (some []))->Q .normal { a with defers:={ target:=.collected w.heap.size,args:=#[] } :: a.defers } W) :
  (Bt g ps assign body).wpIn Ah 0 P Q a w:=by
 refine wpIn_rangeFunc ?_;intro fn hfn;obtain⟨rec,hrec⟩:∃rec:LoopState->Option Code->Loop,rec=λst pe=>{ state:=st,pending:=pe,fn,tmps:=a.tmps,params:=ps,assign,body,defers:=w.heap.size }:=⟨_,rfl⟩
 obtain⟨W1,hW1⟩:∃W1,(w.alloc (.deferred (some []))).alloc (.loop (rec .ready none))=W1:=⟨_,rfl⟩;have hL1:W1.heap[w.heap.size+1]? = some (.loop (rec .ready none)):=by rw[<-hW1];have:=A7 (w.alloc (.deferred (some []))) (.loop (rec .ready none));rwa [World.size_alloc] at this
 have hK1:W1.heap[w.heap.size]? = some (.deferred (some [])):=by rw[<-hW1];exact(AN _ _ _ (by simp)).trans (A7 w _)
 have hI1:I 0 W1:=by rw[<-hW1];exact h0 _
 refine⟨w.heap.size+1,[{ target:=.collected w.heap.size,args:=#[] }],W1,{ target:=.fn (.func gf) lb,args:=#[.func (.yield (w.heap.size+1)) #[] #[]] },W1,gf,
  #[.func (.yield (w.heap.size+1)) #[] #[]]++lb,W1,?_,?_,?_,?_,λh=>by simp[Ah] at h,?_⟩
 ·rw[<-hW1,hrec];exact run_enterLoop_outer _ _ _ _ _
 ·simp only[resolve,hg];simp[go_sem]
 ·intro f' hf';trivial
 ·simp[invoke,go_sem,eg]
 ·refine(hseq (w.heap.size+1)
   (λk W=>I k W/\W.heap[w.heap.size+1]? = some (.loop (rec .ready none))/\W.heap[w.heap.size]? = some (.deferred (some [])))
   W1 (λk W h=>hIC k W h.1) ?_ ⟨hI1,hL1,hK1⟩).mono ?_
  ·rintro k x W hx ⟨hi,hl,hk⟩;have hlt:w.heap.size+1<W.heap.size:=(Ae.1 hl).1;have hy:=run_yield (P:=P) (args:=x) hl (by rw[hrec];exact hps x (Aq.2 ⟨k,hx⟩))
   rw[hrec] at hy;refine⟨fn,_,assign,body,hy,roundIn_of_wpIn hfn (hassign k x W _ hx ?_)⟩;refine⟨_,run_beginRound hl (by rw[hrec]),?_⟩
   have hl2:(W.putObj (w.heap.size+1) (.loop { rec .ready none with state:=.busy })).heap[w.heap.size+1]? = some (.loop { rec .ready none with state:=.busy }):=AX hlt
   have hk2:(W.putObj (w.heap.size+1) (.loop { rec .ready none with state:=.busy })).heap[w.heap.size]? = some (.deferred (some [])):=(Ap (by omega)).trans hk
   refine wpIn_mono (hbody k x _ _ hx (hI k W _ _ hi hl) hl2 hk2) ?_;rintro e a3 W3 ⟨rfl,hi3,e1,e2⟩;have hl3:=e1.trans hl2;have hk3:=e2.trans hk2;have hr:=run_endRound (P:=P) none hl3;have hlt3:w.heap.size+1<W3.heap.size:=(Ae.1 hl3).1;refine⟨_,_,hr,rfl,hI _ _ _ _ hi3 hl3,?_,(Ap (by omega)).trans hk3⟩
   rw[AX hlt3,hrec];rfl
  ·rintro e W2 ⟨⟨v,rfl⟩,hi,hl,hk⟩;exact⟨none,_,by have:=run_endLoop (P:=P) hl (by rw[hrec];simp);rw[hrec] at this;exact this,hdone _ (hI _ _ _ _ hi hl) ((Ap (by omega)).trans hk)⟩
end
end Go.Am
namespace Go.Am
open Go.Proofs
open Go Go.RowKit
attribute [local go_sem] AF
def encP(p:Nat×Nat):Array Value:=#[.int .i64 p.1,.int .i64 p.2]
def zDw(n j i:Nat):List (Nat×Nat):=((BB i (n - i)).filter (·≠j)).map λi=>(j,i)
def zA2(n j:Nat):List (Nat×Nat):=(BB j (n - j)).flatMap λj=>zDw n j 0
def jI(n:Nat):List (Nat×Nat):=zA2 n 0
theorem rowP_end(n j:Nat):zDw n j n=[]:=by simp[zDw]
theorem rowP_eq{n j:Nat}(h:j<n):zDw n j j=zDw n j (j+1):=by
 unfold zDw;rw[show n - j=(n - (j+1))+1 by omega,AO]
 simp
theorem rowP_ne{n j i:Nat}(h:i<n)(hn:i≠j):zDw n j i=(j,i) :: zDw n j (i+1):=by
 unfold zDw;rw[show n - i=(n - (i+1))+1 by omega,AO]
 simp[hn]
theorem restP_end(n:Nat):zA2 n n=[]:=by simp[zA2]
theorem restP_succ{n j:Nat}(h:j<n):zA2 n j=zDw n j 0++zA2 n (j+1):=by
 unfold zA2;rw[show n - j=(n - (j+1))+1 by omega,AO]
 simp
theorem zC5{n:Nat}{p:Nat×Nat}(h:p∈jI n):p.1<n/\p.2<n/\p.1≠p.2:=by unfold jI zA2 zDw at h;simp only[List.mem_flatMap,List.mem_range',A5,List.mem_filter] at h;obtain⟨a,⟨i,h1,h2⟩,b,⟨⟨k,h3,h4⟩,h5⟩,rfl⟩:=h;simp at h5;refine⟨by simp;omega,by simp;omega,λe=>h5 e.symm⟩
def QT:Value->Nat
 | .int _ x=>x.toNat
 | _=>0
set_option maxRecDepth 100000 in
set_option maxHeartbeats 2000000 in
theorem zG1(ad:Addr)(n:Nat)(hn:(n:Int)<9223372036854775807) :
  SeqR Tryz.prog 282 #[.pointer (some ad)] ((jI n).map encP) (λW=>W.cell? ad=some (.int .i64 n)):=by
 intro l J W hC hY h0;refine callsIn_of_wp Tryz.func282 rfl trivial ?_ rfl;simp only[Tryz.ntmps282,Aw,At,AB,AZ,AY,AH,AG,AL,AJ,Ao,Ay];have hW:=hC _ _ h0
 gi_wp2
 gi_loopw [6] (λp wr=>∃j k:Nat,p=.int .i64 j/\j<=n/\k<=(jI n).length/\(jI n).drop k=zA2 n j/\J k wr) (λp _=>n - QT p)
 case atStart=>exact⟨0,0,rfl,by omega,by omega,rfl,h0⟩
 case round =>
  obtain⟨j,k,rfl,hj,hk,hd,hJ⟩:=hrel;have hc:=hC _ _ hJ;by_cases hjn:j<n
  ·gi_wp2
   gi_loopw [10] (λp wr=>∃i k:Nat,p=.int .i64 i/\i<=n/\k<=(jI n).length/\(jI n).drop k=zDw n j i++zA2 n (j+1)/\J k wr) (λp _=>n - QT p)
   case atStart=>exact⟨0,k,rfl,by omega,hk,hd.trans (restP_succ hjn),hJ⟩
   case round =>
    obtain⟨i,k',rfl,hi,hk',hd',hJ'⟩:=hrel;have hc':=hC _ _ hJ';by_cases hin:i<n
    ·by_cases hij:i=j
     ·iterate 48 gi_step
      refine AR (λ(f:FuncId) _=>trivial) ?_
      iterate 4 gi_step
      gi_wp2
      go_roundw
      case rel=>exact⟨i+1,k',by simp;omega,by omega,hk',by rw[hd',hij,rowP_eq hjn],hJ'⟩
      case measure=>simp[QT];omega
     ·have hx:(jI n).drop k'=(j,i) :: (zDw n j (i+1)++zA2 n (j+1)):=by rw[hd',rowP_ne hin hij];rfl
      have hx0:((jI n).map encP)[k']? = some #[.int .i64 j,.int .i64 i]:=by
       have:(jI n)[k']? = some (j,i):=by have:=congrArg List.head? hx;simpa[List.head?_drop] using this
       rw[Aj,this];rfl
      have hlt:k'<(jI n).length:=by have:=congrArg List.length hx;simp at this;omega
      have hx1:(jI n).drop (k'+1)=zDw n j (i+1)++zA2 n (j+1):=by have:=congrArg (List.drop 1) hx;simpa[Bs,BA] using this
      obtain⟨fn,tmps,assign,body,hy,hR⟩:=hY k' _ wr hx0 hJ';have hne:¬(i:Int)=(j:Int):=by omega
      gi_wp2
      refine⟨rfl,hR.mono ?_⟩;rintro e W3 ⟨rfl,hJ3⟩
      gi_wp2
      go_roundw
      case rel=>exact⟨i+1,k'+1,by simp,by omega,by omega,hx1,hJ3⟩
      case measure=>simp[QT];omega
    ·gi_wp2
     obtain rfl:i=n:=by omega
     refine⟨⟨j+1,k',by simp,by omega,hk',by rw[hd',rowP_end,Ao],hJ'⟩,by simp[QT];omega⟩
  ·gi_wp2
   go_end0
   obtain rfl:j=n:=by omega
   rw[restP_end] at hd;have:=List.drop_eq_nil_iff.1 hd;obtain rfl:k=(jI j).length:=by omega
   exact⟨⟨_,rfl⟩,by simpa using hJ⟩
end Go.Am
namespace Go.Am
open Go.Proofs
open Go Go.RowKit
attribute [local go_sem] AF
def encI(m:Int):Array Value:=#[.int .i64 m]
def zAR(W:World)(b o:Nat)(l:List Int):Prop:=∀j (h:j<l.length),W.cell? ⟨b,o+j,none⟩=some (.int .i64 l[j])
set_option maxRecDepth 100000 in
set_option maxHeartbeats 2000000 in
theorem values_seq(ad:Addr)(b o c:Nat)(l:List Int)(hn:(l.length:Int)<9223372036854775807) :
  SeqR Tryz.prog 287 #[.pointer (some ad)] (l.map encI) (λW=>W.cell? ad=some (.slice (some ⟨b,o,none⟩) l.length c)/\zAR W b o l):=by
 intro lo J W hC hY h0;refine callsIn_of_wp Tryz.func287 rfl trivial ?_ rfl;simp only[Tryz.ntmps287,Aw,At,AB,AZ,AY,AH,AG,AL,AJ,Ao,Ay];have hW:=(hC _ _ h0).1
 gi_wp2
 gi_loopw [7] (λp wr=>∃k:Nat,p=.int .i64 k/\k<=l.length/\J k wr) (λp _=>l.length - QT p)
 case atStart=>exact⟨0,rfl,Bd _,h0⟩
 case round =>
  obtain⟨k,rfl,hk,hJ⟩:=hrel;by_cases hkn:k<l.length
  ·have hc:=(hC _ _ hJ).2 k hkn;have hx:(l.map encI)[k]? = some #[.int .i64 l[k]]:=by rw[Aj,Ac hkn];rfl
   obtain⟨fn,tmps,assign,body,hy,hR⟩:=hY k _ wr hx hJ
   gi_wp2
   refine⟨rfl,hR.mono ?_⟩;rintro e W3 ⟨rfl,hJ3⟩
   gi_wp2
   go_roundw
   case rel=>exact⟨k+1,by simp,by omega,hJ3⟩
   case measure=>simp[QT];omega
  ·gi_wp2
   go_end0
   obtain rfl:k=l.length:=by omega
   exact⟨⟨_,rfl⟩,by simpa using hJ⟩
set_option maxRecDepth 100000 in
set_option maxHeartbeats 2000000 in
theorem zIf(ad:Addr)(a:Option Addr)(c:Nat) :
  SeqR Tryz.prog 287 #[.pointer (some ad)] [] (λW=>W.cell? ad=some (.slice a 0 c)):=by
 intro lo J W hC hY h0;refine callsIn_of_wp Tryz.func287 rfl trivial ?_ rfl;simp only[Tryz.ntmps287,Aw,At,AB,AZ,AY,AH,AG,AL,AJ,Ao,Ay];have hW:=hC _ _ h0
 gi_wp2
 gi_loopw [7] (λp wr=>p=.int .i64 0/\J 0 wr) (λp _=>0)
 case atStart=>exact⟨rfl,h0⟩
 case round =>
  obtain⟨rfl,hJ⟩:=hrel
  gi_wp2
  go_end0
  exact⟨⟨_,rfl⟩,hJ⟩
end Go.Am
namespace Go.Am
open Go.Proofs
open Go Go.RowKit
abbrev Orc:=FuncId->Option (List DV->Option CR)
def jd(o:Orc)(E:Env)(X:XC):Nat->FuncId->List DV->Option CR
 | 0,_,_=>none
 | n+1,f,args=>match o f with
  | some g=>g args
  | none=>match E.F f with
   | some fn=>match fn.body with
    | some c=>run (jd o E X n) (goX (jd o E X n) (zEU E X f fn c) n) (funX E X f fn c args)
    | none=>none
   | none=>none
section
variable{o:Orc}{E:Env}{X:XC}
theorem Yy:∀n,Sub (jd o E X n) (jd o E X (n+1))
 | 0=>λf a r h=>by simp[jd] at h
 | n+1=>λf a r h=>by
  rw[jd] at h ⊢;split at h
  ·rename_i g hg;exact h
  ·split at h
   ·split at h
    ·exact YW (Yy n) (Qo (Yy n) _ (BF n)) _ h
    ·cases h
   ·cases h
theorem Jn{n m:Nat}(h:n<=m):Sub (jd o E X n) (jd o E X m):=by
 induction h with
 | refl=>exact λ_ _ _ h=>h
 | step _ ih=>exact λf a r h=>Yy _ f a r (ih f a r h)
end
open Classical in
noncomputable def Qr(o:Orc)(E:Env)(X:XC)(f:FuncId)(a:List DV):Option CR :=
 if h:∃n,(jd o E X n f a).isSome=true then jd o E X h.choose f a else none
def zH0(o:Orc)(E:Env)(X:XC)(f:FuncId)(n:Nat):Nat->St->Option CR:=goX (jd o E X n) (zEU E X f (JI E f) (YL E f)) n
open Classical in
noncomputable def goLo(o:Orc)(E:Env)(X:XC)(f:FuncId)(j:Nat)(st:St):Option CR :=
 if h:∃n,(zH0 o E X f n j st).isSome=true then zH0 o E X f h.choose j st else none
section
variable{o:Orc}{E:Env}{X:XC}
theorem zA7{f:FuncId}{n m:Nat}(h:n<=m):SubG (zH0 o E X f n) (zH0 o E X f m):=Qo (Jn h) _ h
theorem Jt{f:FuncId}{a:List DV}{r:CR}:Qr o E X f a=some r ↔ ∃n,jd o E X n f a=some r:=by
 unfold Qr;constructor
 ·intro h;split at h
  ·exact⟨_,h⟩
  ·cases h
 ·rintro⟨n,h⟩;have hex:∃n,(jd o E X n f a).isSome=true:=⟨n,by rw[h];rfl⟩
  rw[dif_pos hex];obtain⟨r',hr'⟩:=Af.1 hex.choose_spec;rw[hr'];rcases By n hex.choose with k | k
  ·have:=Jn k _ _ _ h;rw[hr'] at this;exact this
  ·have:=Jn k _ _ _ hr';rw[h] at this;exact this.symm
theorem zCa{f:FuncId}{j:Nat}{st:St}{r:CR}:goLo o E X f j st=some r ↔ ∃n,zH0 o E X f n j st=some r:=by
 unfold goLo;constructor
 ·intro h;split at h
  ·exact⟨_,h⟩
  ·cases h
 ·rintro⟨n,h⟩;have hex:∃n,(zH0 o E X f n j st).isSome=true:=⟨n,by rw[h];rfl⟩
  rw[dif_pos hex];obtain⟨r',hr'⟩:=Af.1 hex.choose_spec;rw[hr'];rcases By n hex.choose with k | k
  ·have:=zA7 k _ _ _ h;rw[hr'] at this;exact this
  ·have:=zA7 k _ _ _ hr';rw[h] at this;exact this.symm
theorem zJF{f:FuncId}{r:CR}:∀t:Tr,run (Qr o E X) (goLo o E X f) t=some r->∃n,run (jd o E X n) (zH0 o E X f n) t=some r:=by
 intro t;induction t with
 | fail=>intro h;simp[run] at h
 | ret r'=>intro h;exact⟨0,h⟩
 | ifB b t e iht ihe =>
  intro h;rcases Qf h with ⟨rfl,h⟩ | ⟨rfl,h⟩
  ·exact iht h
  ·exact ihe h
 | call g a kv kf ihv ihf =>
  intro h;rcases Qg h with ⟨x,h1,h⟩ | ⟨s,xs,h1,h⟩
  ·obtain⟨n,hn⟩:=Jt.1 h1;obtain⟨m,hm⟩:=ihv x h;refine⟨max n m,?_⟩;simp only[run,Jn (Br n m) _ _ _ hn,zH];exact YW (Jn (AE n m)) (zA7 (AE n m)) _ hm
  ·obtain⟨n,hn⟩:=Jt.1 h1;obtain⟨m,hm⟩:=ihf s xs h;refine⟨max n m,?_⟩;simp only[run,Jn (Br n m) _ _ _ hn,zH];exact YW (Jn (AE n m)) (zA7 (AE n m)) _ hm
 | goto j st=>intro h;exact zCa.1 h
theorem run_upo{f:FuncId}{n:Nat}{r:CR}(t:Tr)(h:run (jd o E X n) (zH0 o E X f n) t=some r):run (Qr o E X) (goLo o E X f) t=some r :=
 YW (λ_ _ _ h=>Jt.2 ⟨n,h⟩) (λ_ _ _ h=>zCa.2 ⟨n,h⟩) t h
theorem goLo_eq(f:FuncId)(j:Nat)(st:St):goLo o E X f j st=run (Qr o E X) (goLo o E X f) (zEU E X f (JI E f) (YL E f) j st):=by
 apply zER;intro r;constructor
 ·intro h;obtain⟨n,h⟩:=zCa.1 h;cases n with
  | zero=>simp[zH0,goX] at h
  | succ n =>
   have h':run (jd o E X (n+1)) (goX (jd o E X (n+1)) (zEU E X f (JI E f) (YL E f)) n) (zEU E X f (JI E f) (YL E f) j st)=some r:=h;exact run_upo (n:=n+1) _ (YW (λ_ _ _ h=>h) (Qo (λ_ _ _ h=>h) _ (BF n)) _ h')
 ·intro h;obtain⟨n,h⟩:=zJF _ h;refine zCa.2 ⟨n+1,?_⟩;show run (jd o E X (n+1)) (goX (jd o E X (n+1)) (zEU E X f (JI E f) (YL E f)) n) (zEU E X f (JI E f) (YL E f) j st)=some r;exact YW (Yy n) (Qo (Yy n) _ (AA n)) _ h
theorem callLo_orc{f:FuncId}{g:List DV->Option CR}(ho:o f=some g)(a:List DV):Qr o E X f a=g a:=by
 apply zER;intro r;constructor
 ·intro h;obtain⟨n,h⟩:=Jt.1 h;cases n with
  | zero=>simp[jd] at h
  | succ n=>rw[jd,ho] at h;exact h
 ·intro h;exact Jt.2 ⟨1,by rw[jd,ho];exact h⟩
theorem callLo_eq{f:FuncId}(ho':o f=none)(hF:(E.F f).isSome=true)(hb:((JI E f).body).isSome=true)(a:List DV) :
  Qr o E X f a=run (Qr o E X) (goLo o E X f) (funX E X f (JI E f) (YL E f) a):=by
 obtain⟨fn,hfn⟩:=Af.1 hF;have e1:JI E f=fn:=by unfold JI;rw[hfn]
 obtain⟨c,hc⟩:=Af.1 hb;have e2:YL E f=c:=by unfold YL;rw[hc]
 have hs:∀n,jd o E X (n+1) f a=run (jd o E X n) (zH0 o E X f n) (funX E X f (JI E f) (YL E f) a):=by intro n;rw[e1] at hc;rw[jd,ho',hfn];simp only[hc];unfold zH0;rw[e1,e2]
 apply zER;intro r;constructor
 ·intro h;obtain⟨n,h⟩:=Jt.1 h;cases n with
  | zero=>simp[jd] at h
  | succ n=>rw[hs] at h;exact run_upo _ h
 ·intro h;obtain⟨n,h⟩:=zJF _ h;exact Jt.2 ⟨n+1,by rw[hs];exact h⟩
end
structure EnvOKo(P:Program)(E:Env)(o:Orc):Prop where
 D:DOK P E
 mixed:P.follows .mixedOrders=true
 F:∀f fn,E.F f=some fn->P.funcs[f]? = some fn/\(fn.name == "runtime.NumGoroutine")=false
 orc:∀f g,o f=some g->JC P E λf' ds=>if f'=f then g ds else none
theorem zHh{P:Program}{E:Env}{o:Orc}(hE:EnvOKo P E o)(X:XC):∀n,JC P E (jd o E X n):=by
 intro n;induction n with
 | zero=>intro f ds r h;simp[jd] at h
 | succ n ih =>
  intro f ds r h;simp only[jd] at h;cases ho:o f with
  | some g =>
   rw[ho] at h;exact hE.orc f g ho f ds r (by simpa using h)
  | none =>
   rw[ho] at h;simp only at h;cases hF:E.F f with
   | none=>rw[hF] at h;simp at h
   | some fn =>
    rw[hF] at h;simp only at h;obtain⟨hf,hname⟩:=hE.F f fn hF;cases hb:fn.body with
    | none=>rw[hb] at h;simp at h
    | some c =>
     rw[hb] at h;simp only at h;unfold funX at h;obtain⟨hlen0,h⟩:=zm h;simp only[Ab,decide_eq_true_eq] at hlen0;obtain⟨hlen0,hloops⟩:=hlen0;obtain⟨hle,h⟩:=zBy hlen0 h;have hex:=zDC (E:=E) (X:=X) (F:=X.fx f) (M:=n) c n (AA n) 0 0 (by omega) (zHE E (E.fresh f) fn) (λe st=>bnd (zEf E (E.fresh f) fn e st) (λr0=>some (zCF E (E.fresh f) fn r0)))
      (λj _ st=>rfl) (λq _ e st h=>qe h) Yp n (AA n) (entry fn ds) h
     refine⟨⟨fn,hf,hname,by rw[hb];rfl⟩,λS w vals hglob hlt hlen hrv=>?_⟩
     refine calls_of_wp hf hb ?_;have hR:Rel E w.heap.size S (λ_=>none) (entry fn ds) { tmps:=vals.toArray++Bm (fn.ntmps - vals.toArray.size) undef,defers:=[] } w:=by
      refine⟨hglob,λt v hv=>?_,λb ob hb=>?_,λb b' ob ob' cb h1=>?_,hlt,AA _,rfl⟩
      ·exact zJl hlen hrv hle t v hv
      ·unfold slot at hb;simp only[entry,A3] at hb;split at hb
       ·rename_i hx;split at hx <;> simp at hx
       ·cases hb
      ·unfold slot at h1;simp only[entry,A3] at h1;split at h1
       ·rename_i hx;split at hx <;> simp at hx
       ·cases h1
     refine YE hE.D hE.mixed (zAz ih) c hex hR λex st' S' φ' a' w' k1 k2 k3=>?_
     obtain⟨r0,k4,k5⟩:=zA k1;injection k5 with k5
     cases ex with
     | exit id=>simp[zEf] at k4
     | normal =>
      obtain⟨h1,v,h2,h3⟩:=Jz hE.D k2 k3 k4;exact⟨h1,v,h2,v,rfl,k5 ▸ QL h3⟩
     | ret =>
      obtain⟨h1,v,h2,h3⟩:=Jz hE.D k2 k3 k4;exact⟨h1,v,h2,v,rfl,k5 ▸ QL h3⟩
theorem jo{P:Program}{E:Env}{o:Orc}(hE:EnvOKo P E o)(X:XC):JC P E (Qr o E X):=by intro f ds r h;obtain⟨n,h⟩:=Jt.1 h;exact zHh hE X n f ds r h
end Go.Am
namespace Go.Am
open Go.Proofs
open Go Go.RowKit
mutual
def nz(L:Nat->List Nat):DV->Bool
 | .sl sz xs=>(decide (0<sz) || xs.isEmpty) && nzL L xs
 | .agg _ fs=>nzL L fs
 | .dp x=>nz L x && decide (0<Jm L (.d x))
 | .fn _ x y=>nzL L x && nzL L y
 | .mp ks vs=>nzL L ks && nzL L vs
 | .ifc _ x=>nz L x
 | _=>true
def nzL(L:Nat->List Nat):List DV->Bool
 | []=>true
 | x :: xs=>nz L x && nzL L xs
end
theorem Y1{L:Nat->List Nat}:∀{xs:List DV},nzL L xs=true->∀i (h:i<xs.length),nz L xs[i]=true
 | [],_,i,h=>by simp at h
 | x :: xs,hn,i,h=>by
  simp only[nzL,Ab] at hn;cases i with
  | zero=>exact hn.1
  | succ i=>exact Y1 hn.2 i (by simpa using h)
theorem zBM{L:Nat->List Nat}:∀{xs:List DV},(∀x∈xs,nz L x=true)->nzL L xs=true
 | [],_=>rfl
 | x :: xs,h=>by simp only[nzL,Ab];exact⟨h x (by simp),zBM λy hy=>h y (by simp[hy])⟩
mutual
def nzV(L:Nat->List Nat):AV->Bool
 | .d x=>nz L x
 | .agg _ fs=>zJS L fs
 | .fn _ x y=>zJS L x && zJS L y
 | _=>true
def zJS(L:Nat->List Nat):List AV->Bool
 | []=>true
 | x :: xs=>nzV L x && zJS L xs
end
theorem Ql{L:Nat->List Nat}:∀{xs:List AV},zJS L xs=true->∀i (h:i<xs.length),nzV L xs[i]=true
 | [],_,i,h=>by simp at h
 | x :: xs,hn,i,h=>by
  simp only[zJS,Ab] at hn;cases i with
  | zero=>exact hn.1
  | succ i=>exact Ql hn.2 i (by simpa using h)
def nzB(L:Nat->List Nat):Option OB->Bool
 | some ⟨_,.dc _ xs⟩=>nzL L xs
 | some ⟨_,.ac _ xs⟩=>zJS L xs
 | some ⟨_,.mp ks vs⟩=>nzL L ks && nzL L vs
 | _=>true
def nzSt(L:Nat->List Nat)(st:St):Bool:=zJS L st.tm && st.hp.all (nzB L)
def Odd(o:Obj):Prop:=(∀cs t s,o≠.cells cs t s)/\(∀es c,o≠.map es c)/\∀s p,o≠.stringIter s p
section
variable{L:Nat->List Nat}{S:Nat->Prop}{φ:Nat->Option Nat}{w:World}{l:Nat}{o:Obj}
def cutS(S:Nat->Prop)(l:Nat):Nat->Prop:=λb=>S b/\b≠l
theorem cell_ne(ho:w.heap[l]? = some o)(hx:Odd o){ad:Addr}{u:Value}(h:w.cell? ad=some u):ad.block≠l:=by
 rintro rfl;unfold World.cell? at h;rw[ho] at h;cases o with
 | cells cs t s=>exact hx.1 cs t s rfl
 | _=>simp at h
theorem RD.cut(ho:w.heap[l]? = some o)(hx:Odd o){x:DV}{cs:List Value}(h:RD L S w x cs)(hn:nz L x=true):RD L (cutS S l) w x cs:=by
 induction h with
 | bool b=>exact .bool b
 | int k n=>exact .int k n
 | flt k b=>exact .flt k b
 | cpx k a b=>exact .cpx k a b
 | str s=>exact .str s
 | nl a=>exact .nl a
 | nilFn=>exact .nilFn
 | nilPtr=>exact .nilPtr
 | nilMp=>exact .nilMp
 | nilIf=>exact .nilIf
 | sl sz xs a n c css hn1 hc hl _ hz hm ih =>
  simp only[nz,Ab,Bool.or_eq_true,decide_eq_true_eq] at hn;refine .sl sz xs a n c css hn1 hc hl (λi h h'=>ih i h h' (Y1 hn.2 i h)) hz λh0=>?_
  obtain⟨ad,e,hsp,hs,hcell⟩:=hm h0;refine⟨ad,e,hsp,⟨hs,?_⟩,hcell⟩;have hsz:0<sz:=by
   rcases hn.1 with h | h
   ·exact h
   ·simp at h;subst h;simp at hn1;omega
  have hcl:0<css.length:=by omega
  have hc0:=hz css[0] (AP hcl);obtain⟨u,rest,hu⟩:∃u rest,css.flatten=u :: rest:=by
   cases css with
   | nil=>simp at hcl
   | cons c r =>
    simp at hc0;cases c with
    | nil=>simp at hc0;omega
    | cons u c=>exact⟨u,c++r.flatten,by simp⟩
  have:=hcell 0 u (by rw[hu];rfl)
  have hne:=cell_ne ho hx this
  rwa [Jh] at hne
 | agg tag fs css hl _ hz ih =>
  simp only[nz] at hn;exact .agg tag fs css hl (λi h h'=>ih i h h' (Y1 hn i h)) hz
 | dp x ad cs hsp hs hm hr hxt ih =>
  simp only[nz,Ab,decide_eq_true_eq] at hn;refine .dp x ad cs hsp ⟨hs,?_⟩ hm (ih hn.1) hxt;have hlen:=hr.len;cases cs with
  | nil=>simp at hlen;omega
  | cons u cs =>
   have hne:=cell_ne ho hx (hm 0 u rfl)
   rwa [Jh] at hne
 | fn f x y vx vy hx' hy _ h2 _ h4 ih1 ih3 =>
  simp only[nz,Ab] at hn;exact .fn f x y vx vy hx' hy (λi h h'=>ih1 i h h' (Y1 hn.1 i h)) h2 (λi h h'=>ih3 i h h' (Y1 hn.2 i h)) h4
 | mp ks vs r es clock hs hr hk hv _ h2 _ h4 ih1 ih3 =>
  simp only[nz,Ab] at hn;refine .mp ks vs r es clock ⟨hs,?_⟩ hr hk hv (λi h h'=>ih1 i h h' (Y1 hn.1 i h)) h2 (λi h h'=>ih3 i h h' (Y1 hn.2 i h)) h4
  rintro rfl;rw[hr] at ho;injection ho with ho
  exact hx.2.1 _ _ ho.symm
 | ifc t x v _ h2 ih =>
  simp only[nz] at hn;exact .ifc t x v (ih hn) h2
theorem RV.cut(ho:w.heap[l]? = some o)(hx:Odd o){x:DV}{v:Value}(ht:x.isTup=false)(h:RV L S w x v)(hn:nz L x=true):RV L (cutS S l) w x v :=
 RV.of ht ((RV.rd ht h).1.cut ho hx hn) (RV.rd ht h).2
theorem RA.cut(ho:w.heap[l]? = some o)(hx:Odd o){v:AV}{cs:List Value}(h:RA L S φ w v cs)(hn:nzV L v=true):RA L (cutS S l) φ w v cs:=by
 induction h with
 | d x cs h=>exact .d x cs (h.cut ho hx hn)
 | undef cs h1=>exact .undef cs h1
 | own b off len sz cb c hb hc hr=>exact .own b off len sz cb c hb hc hr
 | own0 b off sz a=>exact .own0 b off sz a
 | ptr b sz e p cb hb=>exact .ptr b sz e p cb hb
 | omp b r hb=>exact .omp b r hb
 | it b r hb=>exact .it b r hb
 | agg tag fs css hl _ hz ih =>
  simp only[nzV] at hn;exact .agg tag fs css hl (λi h h'=>ih i h h' (Ql hn i h)) hz
 | fn f x y vx vy hx' hy _ h2 _ h4 ih1 ih3 =>
  simp only[nzV,Ab] at hn;exact .fn f x y vx vy hx' hy (λi h h'=>ih1 i h h' (Ql hn.1 i h)) h2 (λi h h'=>ih3 i h h' (Ql hn.2 i h)) h4
theorem RAV.cut(ho:w.heap[l]? = some o)(hx:Odd o){v:AV}{u:Value}(ht:∀xs,v≠.d (.tup xs))(h:RAV L S φ w v u)(hn:nzV L v=true):RAV L (cutS S l) φ w v u:=by
 cases v with
 | undef=>trivial
 | d x=>exact RV.cut ho hx (by cases x <;> first | rfl | exact absurd rfl (ht _)) h hn
 | _=>exact⟨h.1.cut ho hx hn,h.2⟩
theorem RB.ne(ho:w.heap[l]? = some o)(hx:Odd o){b:Blk}{cb:Nat}(h:RB L S φ w b cb):cb≠l:=by
 rintro rfl;cases b with
 | dc sz xs=>obtain⟨cs,t,css,h1,_⟩:=h;rw[ho] at h1;injection h1 with h1;exact hx.1 _ _ _ h1
 | ac sz xs=>obtain⟨cs,t,css,h1,_⟩:=h;rw[ho] at h1;injection h1 with h1;exact hx.1 _ _ _ h1
 | mp ks vs=>obtain⟨es,c,h1,_⟩:=h;rw[ho] at h1;injection h1 with h1;exact hx.2.1 _ _ h1
 | sit s p=>rw[show w.heap[cb]? = _ from h] at ho;injection ho with ho;exact hx.2.2 _ _ ho.symm
theorem RB.cut(ho:w.heap[l]? = some o)(hx:Odd o){b:Blk}{cb:Nat}{z:Bool}(h:RB L S φ w b cb)(hn:nzB L (some ⟨z,b⟩)=true):RB L (cutS S l) φ w b cb:=by
 cases b with
 | dc sz xs =>
  obtain⟨cs,t,css,h1,h2,h3,h4⟩:=h;exact⟨cs,t,css,h1,h2,λi a b=>(h3 i a b).cut ho hx (Y1 hn i a),h4⟩
 | ac sz xs =>
  obtain⟨cs,t,css,h1,h2,h3,h4⟩:=h;exact⟨cs,t,css,h1,h2,λi a b=>(h3 i a b).cut ho hx (Ql hn i a),h4⟩
 | mp ks vs =>
  simp only[nzB,Ab] at hn;obtain⟨es,clock,h1,h2,h3,h4,h5⟩:=h;exact⟨es,clock,h1,h2,h3,λi a b=>⟨(h4 i a b).1.cut ho hx (Y1 hn.1 i a),(h4 i a b).2⟩,λi a b=>⟨(h5 i a b).1.cut ho hx (Y1 hn.2 i a),(h5 i a b).2⟩⟩
 | sit s p=>exact h
end
section
variable{E:Env}{base:Nat}{S:Nat->Prop}{φ:Nat->Option Nat}{st:St}{a:Act}{w:World}{l:Nat}{o:Obj}
def noTupV(st:St):Bool:=st.tm.all λv=>match v with | .d (.tup _)=>false | _=>true
theorem Rel.cut(ho:w.heap[l]? = some o)(hx:Odd o)(h:Rel E base S φ st a w)(hg:∀g x,E.glob g=some x->nz E.L (.dp x)=true)(ht:noTupV st=true)(hn:nzSt E.L st=true):Rel E base (cutS S l) φ st a w:=by
 unfold nzSt at hn;rw[Ab] at hn;refine⟨⟨λg x e=>RV.cut ho hx rfl (h.glob.val g x e) (hg g x e),λg cs e=>⟨⟨(h.glob.tab g cs e).1,by
  rintro rfl;obtain⟨t,fr,hh⟩:=(h.glob.tab g cs e).2;rw[ho] at hh;injection hh with hh
  exact hx.1 _ _ _ hh⟩,(h.glob.tab g cs e).2⟩⟩,λt v hv=>?_,λb ob hob=>?_,h.inj,λb hb=>h.lt b hb.1,h.base,h.dfr⟩
 ·obtain⟨u,hu,hr⟩:=h.tm t v hv;obtain⟨hlt,rfl⟩:=Ad.1 hv;refine⟨u,hu,hr.cut ho hx (λxs e=>?_) (Ql hn.1 t hlt)⟩
  have:=Au.1 ht _ (AP hlt);rw[e] at this;simp at this
 ·obtain⟨cb,h1,h2,h3,h4⟩:=h.blk b ob hob;obtain⟨z,bk⟩:=ob;have hm:some (⟨z,bk⟩:OB)∈st.hp:=by
   unfold slot at hob;split at hob
   ·rename_i x hx';cases hob;exact Aq.2 ⟨b,hx'⟩
   ·cases hob
  have hnb:=Au.1 hn.2 _ hm;refine⟨cb,h1,h2,h3.cut ho hx (z:=z) hnb,⟨λhh=>h4.1 hh.1,λhh=>⟨h4.2 hh,h3.ne ho hx⟩⟩⟩
theorem Rel.le{s t:St}(hle:Le [] s t)(h:Rel E base S φ t a w):Rel E base S φ s a w:=by
 have hs:=hle.hle;refine⟨h.glob,λi v hv=>?_,λb ob hob=>h.blk b ob (hs b ob hob),λb b' ob ob' c h1 h2=>h.inj b b' ob ob' c (hs _ _ h1) (hs _ _ h2),h.lt,h.base,h.dfr⟩
 rcases hle.tm i with ⟨h1,h2⟩ | h1
 ·obtain⟨x,hx⟩:=Af.1 h2;obtain⟨u,hu,_⟩:=h.tm i x hx;rw[h1] at hv;injection hv with hv;subst hv
  exact⟨u,hu,trivial⟩
 ·exact h.tm i v (h1 ▸ hv)
theorem Rel.turn(ho:w.heap[l]? = some o)(hx:Odd o)(hS:¬S l)(h:Rel E base S φ st a w)(o':Obj):Rel E base S φ st a (w.putObj l o'):=by
 have hlt:l<w.heap.size:=(Ae.1 ho).1;have hb:∀k,k≠l->(w.putObj l o').heap[k]? = w.heap[k]?:=λk hk=>Ap hk
 have hr:∀cb n,Room w cb n->Room (w.putObj l o') cb n:=by
  rintro cb n ⟨cs,t,h1,h2⟩;refine⟨cs,t,(hb cb ?_).trans h1,h2⟩;rintro rfl;rw[ho] at h1;injection h1 with h1
  exact hx.1 _ _ _ h1
 have k:Keep S S φ φ w (w.putObj l o'):=⟨λ_ h=>h,λb hb'=>hb b (by rintro rfl;exact hS hb'),λ_ _ h=>h,λb cb n _ hr'=>hr cb n hr'⟩
 have hsz:(w.putObj l o').heap.size=w.heap.size:=by simp
 refine⟨h.glob.mono k.sub k.heap,h.tm.mono k,λb ob hob=>?_,h.inj,λb hb'=>by rw[hsz];exact h.lt b hb',by rw[hsz];exact h.base,h.dfr⟩
 obtain⟨c,hc,h1,h2,h3⟩:=h.blk b ob hob;exact⟨c,hc,h1,h2.mono k (hb c (h2.ne ho hx)),h3⟩
theorem Rel.stay(ho:w.heap[l]? = some o)(hx:Odd o)(h:Rel E base S φ st a w):Rel E base (λb=>S b\/b=l) φ st a w:=by
 have hlt:l<w.heap.size:=(Ae.1 ho).1;have k:Keep S (λb=>S b\/b=l) φ φ w w:=⟨λ_ h=>.inl h,λ_ _=>rfl,λ_ _ h=>h,λ_ _ _ _ h=>h⟩
 refine⟨h.glob.mono k.sub k.heap,h.tm.mono k,λb ob hob=>?_,h.inj,λb hb=>hb.elim (h.lt b) (λe=>e ▸ hlt),h.base,h.dfr⟩
 obtain⟨c,hc,h1,h2,h3⟩:=h.blk b ob hob;exact⟨c,hc,h1,h2.mono k rfl,⟨λhh=>hh.elim h3.1 (λe=>absurd e (h2.ne ho hx)),λhh=>.inl (h3.2 hh)⟩⟩
end
end Go.Am
namespace Go.Am
open Go.Proofs
open Go Go.RowKit
def KeepD(D:List Nat)(a a':Act):Prop:=∀i:Nat,i ∉ D->a'.tmps[i]? = a.tmps[i]?
theorem KeepD.refl(D:List Nat)(a:Act):KeepD D a a:=λ_ _=>rfl
theorem KeepD.trans{D:List Nat}{a b c:Act}(h:KeepD D a b)(k:KeepD D b c):KeepD D a c:=λi hi=>(k i hi).trans (h i hi)
def dstIn(D:List Nat)(o:Oper):Bool:=match o.dst with | some d=>D.contains d | none=>true
def zGU(D:List Nat)(ops:Array Oper):Bool:=ops.toList.all (dstIn D)
def zDp(D:List Nat):Code->Bool
 | .region _ ops _=>zGU D ops
 | .seq x y=>zDp D x && zDp D y
 | .block _ c=>zDp D c
 | .cond _ x y=>zDp D x && zDp D y
 | _=>true
theorem KeepD.put{D:List Nat}{a0 a:Act}(h:KeepD D a0 a){o:Oper}(hd:dstIn D o=true)(v:Value):KeepD D a0 (a.put o.dst v):=by
 intro i hi;unfold dstIn at hd;cases ho:o.dst with
 | none=>exact h i hi
 | some d =>
  rw[ho] at hd;simp only[List.contains_iff_mem] at hd;have hne:d≠i:=by rintro rfl;exact hi hd
  simp only[BC];rw[Ak hne];exact h i hi
section
variable{F:Fence}{P:Program}{ops:Array Oper}{Q:Exit->Act->World->Prop}{n:Nat}{D:List Nat}{a0:Act}
def QK(D:List Nat)(a0:Act)(Q:Exit->Act->World->Prop):Exit->Act->World->Prop:=λe a w=>Q e a w/\(e=.normal->KeepD D a0 a)
theorem QK_out(h:LetsOut Q):LetsOut (QK D a0 Q):=by obtain⟨a,w,h⟩:=h;exact⟨a,w,h,λe=>by cases e⟩
theorem zGj{o:Oper}{a:Act}{K K':Act->World->Prop}(hd:dstIn D o=true)(h:∀a w,K a w->KeepD D a0 a->K' a w)(ha:KeepD D a0 a){r:Result Next}(hh:o.uponIn F n P a K Q r):o.uponIn F n P a K' (QK D a0 Q) r:=by
 cases r with
 | ok x w' =>
  cases x with
  | value v=>exact h _ _ hh (ha.put hd v)
  | skip=>exact h _ _ hh (ha.put hd undef)
  | defer d=>exact h _ _ hh (KeepD.put (a:={ a with defers:=d :: a.defers }) ha hd undef)
  | enter f args =>
   refine⟨hh.1,hh.2.mono λe w'' he=>?_⟩
   cases e with
   | returned v=>exact h _ _ he (ha.put hd v)
   | panicked c=>exact⟨he,λe=>by cases e⟩
   | outgrown=>exact QK_out he
  | row rw args=>exact⟨hh.1,hh.2.mono λv w'' he=>h _ _ he (ha.put hd v)⟩
  | round l f t a b =>
   refine⟨hh.1,hh.2.mono λe w'' he=>?_⟩
   cases e with
   | returned v=>exact h _ _ he (ha.put hd v)
   | panicked c=>exact⟨he,λe=>by cases e⟩
   | outgrown=>exact QK_out he
  | _=>exact hh.elim
 | halt x w' =>
  cases x <;> simp only[Oper.uponIn] at hh ⊢ <;> first | exact hh | exact⟨hh,λe=>by cases e⟩
theorem zCb(hd:zGU D ops=true){i:Nat}{o:Oper}(ho:ops[i]? = some o):dstIn D o=true:=by obtain⟨hi,rfl⟩:=Ae.1 ho;exact Au.1 hd _ (by simp)
theorem Q2(hd:zGU D ops=true):∀(is:List Nat) (a:Act) (w:World),wpOpsIn F n P ops Q is a w->KeepD D a0 a->wpOpsIn F n P ops (QK D a0 Q) is a w
 | [],a,w,h,ha=>⟨h,λ_=>ha⟩
 | i :: is,a,w,h,ha=>by
  simp only[wpOpsIn] at h ⊢;cases ho:ops[i]? with
  | none=>rw[ho] at h;exact Q2 hd is a w h ha
  | some o =>
   rw[ho] at h;simp only at h ⊢;split
   ·rename_i hw;rw[if_pos hw] at h;exact⟨h.1,zGj (zCb hd ho) (λa w h ha=>Q2 hd is a w h ha) ha h.2⟩
   ·rename_i hw;rw[if_neg hw] at h;exact⟨h.1,Q2 hd is _ w h.2 (ha.put (zCb hd ho) undef)⟩
theorem Q3{md:Bu}(hd:zGU D ops=true):∀(fuel:Nat) (listed:Array Bool) (a:Act) (w:World),wpAnyIn F n P md ops Q fuel listed a w->KeepD D a0 a->wpAnyIn F n P md ops (QK D a0 Q) fuel listed a w
 | 0,listed,a,w,h,ha=>⟨h.1,h.2,λ_=>ha⟩
 | fuel+1,listed,a,w,h,ha=>by
  refine⟨λe=>⟨h.1 e,λ_=>ha⟩,λi hi=>?_⟩
  have hh:=h.2 i hi;unfold wpOpIn at hh ⊢;cases ho:ops[i]? with
  | none=>rw[ho] at hh;exact Q3 hd fuel _ a w hh ha
  | some o =>
   rw[ho] at hh;simp only at hh ⊢;split
   ·rename_i hw;rw[if_pos hw] at hh;exact⟨hh.1,zGj (zCb hd ho) (λa w h ha=>Q3 hd fuel _ a w h ha) ha hh.2⟩
   ·rename_i hw;rw[if_neg hw] at hh;exact⟨hh.1,Q3 hd fuel _ _ w hh.2 (ha.put (zCb hd ho) undef)⟩
end
section
variable{P:Program}{E:Env}{call:FuncId->List DV->Option CR}{base:Nat}{S:Nat->Prop}{φ:Nat->Option Nat}{st:St}{a:Act}{w:World}{l m:Nat}{D:List Nat}
theorem zCh(hD:DOK P E)(hm:P.follows .mixedOrders=true)(hc:JC P E call){id:Nat}{ops:Array Oper}(hn:noDef ops=true)(hd:zGU D ops=true){draw:Bool}{K:St->Option CR}{r:CR}{Q:Exit->Act->World->Prop}(hQ:¬LetsOut Q)(h:Je E call ops.toList draw st K=some r)
  (hR:Rel E base S φ st a w) (hK:∀st' S' φ' a' w',K st'=some r->Rel E base S' φ' st' a' w'->Grow base S S' w w'->KeepD D a a'->Q .normal a' w'):(Code.region id ops draw).wpIn (Ah.inRound l) m P Q a w:=by
 have h1:¬LetsOut (λe a' w'=>KeepD D a a'->Q e a' w')->True:=λ_=>trivial
 refine wpIn_mono (Q:=QK D a (λe a' w'=>e=.normal/\(KeepD D a a'->Q e a' w'))) ?_ (λe a' w' hq=>?_)
 ·cases draw with
  | false =>
   have hQ':¬LetsOut (λe a' w'=>e=AQ/\(KeepD D a a'->Q e a' w')):=by rintro⟨a,w,e,_⟩;cases e
   refine wpIn_region (Q2 hd _ _ _ (zCN hn hQ' _ _ _ ?_) (KeepD.refl D a));have:=qB hD hc (Q:=λe a' w'=>e=AQ/\(KeepD D a a'->Q e a' w')) ops.toList 0 (by simp) (Bd _) h hR (λst' S' φ' a' w' k1 k2 k3=>⟨rfl,λk4=>hK st' S' φ' a' w' k1 k2 k3 k4⟩)
   rw[List.range_eq_range'];simpa using this
  | true =>
   have hQ':¬LetsOut (λe a' w'=>e=AQ/\(KeepD D a a'->Q e a' w')):=by rintro⟨a,w,e,_⟩;cases e
   refine wpIn_region_any hm (Q3 hd _ _ _ _ (zCO hn hQ' _ _ _ _ ?_) (KeepD.refl D a));simp only[Je] at h;obtain⟨hok,h⟩:=zG h;have hs:=stat_of hok;obtain⟨stf,hseq,hKf⟩:=zAl ops.toList.zipIdx _ h;obtain⟨hRd,hGd⟩:=hR.drew;obtain⟨φ1,hR1⟩:=hRd.clearL (anews ops.toList);have hz:∀p∈ops.toList.zipIdx,ops.toList[p.2]? = some p.1:=λp hp=>by obtain⟨k,hk⟩:=Aq.1 hp;simp only[AI,Option.map_eq_some_iff] at hk;obtain⟨x,hx,e⟩:=hk;subst e;simpa using hx
   refine zI7 (Q:=λe a' w'=>e=AQ/\(KeepD D a a'->Q e a' w')) hD hc hs ops.size (Bm ops.size false) ops.toList.zipIdx (by simp) (λi hi=>?_) hz ?_ (λj o ho hd=>?_) (Inv.start _ _ st) (by simp) hR1 hseq (λS' φ' a' w' k1 k2=>⟨rfl,λk4=>hK stf S' φ' a' w' hKf k1 (hGd.trans k2) k4⟩)
   ·constructor
    ·intro _;exact⟨ops[i],by rw[Aq];exact⟨i,by simp[AI,hi]⟩⟩
    ·intro _;simp[hi]
   ·rw[List.pairwise_iff_getElem];intro i j hi hj hij;simp;exact hij
   ·exact absurd (by rw[Aq];exact⟨j,by simp only[AI,ho];simp⟩) (hd o)
 ·obtain⟨⟨rfl,h2⟩,h3⟩:=hq;exact h2 (h3 rfl)
theorem zDf(hD:DOK P E)(hm:P.follows .mixedOrders=true)(hc:JC P E call){n:Nat}{r:CR}:∀(c:Code) (_:inR c=true) (_:zDp D c=true) {K:Ex->St->Option CR} {S:Nat->Prop} {φ:Nat->Option Nat} {st:St} {a:Act} {w:World} {Q:Exit->Act->World->Prop} (_:¬LetsOut Q),
  exec E n call c st K=some r->Rel E base S φ st a w->(∀ex st' S' φ' a' w',K ex st'=some r->Rel E base S' φ' st' a' w'->Grow base S S' w w'->KeepD D a a'->Q (zBE ex) a' w')->c.wpIn (Ah.inRound l) m P Q a w:=by
 intro c;induction c with
 | skip=>intro _ _ K S φ st a w Q hQ h hR hK;exact wpIn_skip (hK .normal st S φ a w h hR Grow.refl (KeepD.refl _ _))
 | region id ops draw=>intro hi hd K S φ st a w Q hQ h hR hK;exact zCh hD hm hc hi hd hQ h hR λst' S' φ' a' w' k1 k2 k3 k4=>hK .normal st' S' φ' a' w' k1 k2 k3 k4
 | seq x y ihx ihy =>
  intro hi hd K S φ st a w Q hQ h hR hK;simp only[inR,Ab] at hi;simp only[zDp,Ab] at hd;refine wpIn_seq (ihx hi.1 hd.1 (K:=QR (λst'=>exec E n call y st' K) K) (λhx=>hQ hx) h hR λex st' S' φ' a' w' k1 k2 k3 k4=>?_)
  cases ex with
  | normal=>exact ihy hi.2 hd.2 hQ k1 k2 λex st2 S2 φ2 a2 w2 j1 j2 j3 j4=>hK ex st2 S2 φ2 a2 w2 j1 j2 (k3.trans j3) (k4.trans j4)
  | exit id=>exact hK (.exit id) st' S' φ' a' w' k1 k2 k3 k4
  | ret=>exact hK .ret st' S' φ' a' w' k1 k2 k3 k4
 | cond c x y ihx ihy =>
  intro hi hd K S φ st a w Q hQ h hR hK;simp only[inR,Ab] at hi;simp only[zDp,Ab] at hd;simp only[exec] at h;obtain⟨v,hv,h⟩:=zA h;obtain⟨t,ht,h⟩:=zA h;have hc:=zF8 ht (hR.ev c v hv);cases t with
  | true=>exact wpIn_cond_true hc (ihx hi.1 hd.1 hQ h hR hK)
  | false=>exact wpIn_cond_false hc (ihy hi.2 hd.2 hQ h hR hK)
 | block id c ih =>
  intro hi hd K S φ st a w Q hQ h hR hK;refine wpIn_block (ih hi hd (K:=Qu id K) (λhx=>hQ hx) h hR λex st' S' φ' a' w' k1 k2 k3 k4=>?_)
  cases ex with
  | normal=>exact hK .normal st' S' φ' a' w' k1 k2 k3 k4
  | ret=>exact hK .ret st' S' φ' a' w' k1 k2 k3 k4
  | exit i =>
   simp only[Qu] at k1;simp only[zBE,Exit.inBlock];split at k1
   ·rename_i e;rw[if_pos e];exact hK .normal st' S' φ' a' w' k1 k2 k3 k4
   ·rename_i e;rw[if_neg e];exact hK (.exit i) st' S' φ' a' w' k1 k2 k3 k4
 | exit id=>intro _ _ K S φ st a w Q hQ h hR hK;exact wpIn_exit (hK (.exit id) st S φ a w h hR Grow.refl (KeepD.refl _ _))
 | _=>intro hi;simp[inR] at hi
end
end Go.Am
namespace Go.Am
open Go.Proofs
open Go Go.RowKit
attribute [local go_sem] AF
open Classical in
noncomputable def KLe(t:St):Ex->St->Option CR:=λe s=>if e=.normal/\Le [] t s then some (.val .nl) else none
theorem zBg{t s:St}{e:Ex}(h:KLe t e s=some (.val .nl)):e=.normal/\Le [] t s:=by
 unfold KLe at h;split at h
 ·assumption
 ·cases h
def asgC(i1 i2:Nat)(t1 t2 p1 p2:Tmp)(ty:TypeId)(s1 s2:String):Code :=
 .seq (.region i1 #[{ dst:=some t1,op:=.assign (.tmp p1),type:=ty,pos:=s1,after:=#[],guard:=none }] false)
  (.region i2 #[{ dst:=some t2,op:=.assign (.tmp p2),type:=ty,pos:=s2,after:=#[],guard:=none }] false)
theorem asg_wp{P:Program}{F:Fence}{l n:Nat}{i1 i2:Nat}{t1 t2 p1 p2:Tmp}{ty:TypeId}{s1 s2:String}{K:Act->World->Prop}{a:Act}{w:World}(h:K ((a.put (some t1) (a.eval (.tmp p1))).put (some t2) ((a.put (some t1) (a.eval (.tmp p1))).eval (.tmp p2))) w) :
  (asgC i1 i2 t1 t2 p1 p2 ty s1 s2).wpIn (F.inRound l) n P (Exit.then K (λ_ _ _=>False)) a w:=by
 refine wpIn_seq (wpIn_region ?_);simp only[Aw,At,AB,Bx,Bp,Bo,Ao,wpOpsIn,A9,Av,Bn,if_true,BH];refine⟨λf hf=>by simp[BD] at hf,?_⟩
 rw[show(F.inRound l).round=some l from rfl,AW _ _ _ (λc h=>by cases h)]
 simp only[go_sem];refine wpIn_region ?_;simp only[Aw,At,AB,Bx,Bp,Bo,Ao,wpOpsIn,A9,Av,Bn,if_true,BH];refine⟨λf hf=>by simp[BD] at hf,?_⟩
 rw[show(F.inRound l).round=some l from rfl,AW _ _ _ (λc h=>by cases h)]
 simp only[go_sem];exact h
theorem Qa{n:Nat}{w W:World}(hB:Below n w W)(hn:n<=W.heap.size){l:Nat}(hl:n<=l)(o:Obj):Below n w (W.putObj l o) :=
 hB.grown (grownBy_putObj' W l o) hn (λk e=>by cases e;exact hl)
theorem zFx(r:Loop):Odd (.loop r):=⟨(λ_ _ _ h=>by cases h),(λ_ _ h=>by cases h),(λ_ _ h=>by cases h)⟩
theorem zHu(d:Option (List Deferred)):Odd (.deferred d):=⟨(λ_ _ _ h=>by cases h),(λ_ _ h=>by cases h),(λ_ _ h=>by cases h)⟩
theorem zJk{E:Env}{base:Nat}{S:Nat->Prop}{φ:Nat->Option Nat}{st:St}{a:Act}{w:World}(hR:Rel E base S φ st a w){g:Operand}{f:FuncId}{x:DV}(hg:evO E st.tm g=some (.d (.fn f [] [.dp x]))) :
  ∃ad cs,a.eval g=.func (.func f) #[] #[.pointer (some ad)]/\RD E.L S w x cs/\(∀j u,cs[j]? = some u->w.cell? (ad.add j)=some u)/\ad.spot=none:=by
 have h:=hR.ev g _ hg;have h:=(RV.rd (x:=.fn f [] [.dp x]) rfl h).1;have ha:∀v:Value,RD E.L S w (.fn f [] [.dp x]) (vcs v)->J2 v=false->∃ad cs,v=.func (.func f) #[] #[.pointer (some ad)]/\RD E.L S w x cs/\(∀j u,cs[j]? = some u->w.cell? (ad.add j)=some u)/\ad.spot=none:=by
  intro v hv hag;rw[jB hag] at hv;cases hv with
  | fn _ _ _ vx vy hx hy h1 h2 h3 h4 =>
   obtain rfl:vx=[]:=A0.1 (by simpa using hx)
   obtain⟨u,rfl⟩:∃u,vy=[u]:=List.length_eq_one_iff.1 (by simpa using hy)
   have h30:=h3 0 (by simp) (by simp)
   have h40:=h4 0 (by simp) (by simp)
   simp only[A6] at h30 h40;rw[jB (by rw[h40];rfl)] at h30
   cases h30 with
   | dp _ ad cs hs hS hm hx hxt=>exact⟨ad,cs,rfl,hx,hm,hs⟩
 exact ha _ h (RV.rd (x:=.fn f [] [.dp x]) rfl (hR.ev g _ hg)).2
section
variable{E:Env}{call:FuncId->List DV->Option CR}{base:Nat}{S:Nat->Prop}{φ:Nat->Option Nat}{a:Act}{w:World}
theorem wp_pairs(hD:DOK Tryz.prog E)(hc:JC Tryz.prog E call){M n:Nat}{g:Operand}{t1 t2 p1 p2 i1 i2:Nat}{ty:TypeId}{s1 s2:String}{body:Code}{Q:Exit->Act->World->Prop}{tm:List AV}(hpk:Nat->List (Option OB))
  (hR:Rel E base S φ ⟨tm,hpk 0⟩ a w) (hn:(n:Int)<9223372036854775807) (hg:evO E tm g=some (.d (.fn 282 [] [.dp (.int .i64 n)])))
  (hgl:∀g x,E.glob g=some x->nz E.L (.dp x)=true) (hnt:noTupV ⟨tm,[]⟩=true) (hnz:zJS E.L tm=true) (hnh:∀k,k<=(jI n).length->(hpk k).all (nzB E.L)=true)
  (D:List Nat) (hdead:∀i∈D,tm[i]? = some .undef\/tm[i]? = none) (hmD:p1∈D/\p2∈D/\t1∈D/\t2∈D) (hne:p1≠p2) (hne2:t1≠p2) (hlen:p1<tm.length/\p2<tm.length)
  (hi:inR body=true) (hd:zDp D body=true)
  (hexec:∀k p,(jI n)[k]? = some p->exec E M call body ⟨j5 (j5 (j5 (j5 tm (some p1) (.d (.int .i64 p.1))) (some p2) (.d (.int .i64 p.2))) (some t1) (.d (.int .i64 p.1))) (some t2) (.d (.int .i64 p.2)),hpk k⟩ (KLe ⟨tm,hpk (k+1)⟩)=some (.val .nl))
  (hdone:∀S' φ' W,Rel E base S' φ' ⟨tm,hpk (jI n).length⟩ a W->Grow base S S' w W->¬S' w.heap.size->W.heap[w.heap.size]? = some (.deferred (some [])) ->
   Q .normal { a with defers:={ target:=.collected w.heap.size,args:=#[] } :: a.defers } W) :
  (Bt g #[p1,p2] (asgC i1 i2 t1 t2 p1 p2 ty s1 s2) body).wpIn Ah 0 Tryz.prog Q a w:=by
 obtain⟨ad,cs,hev,hcs,hcell,hsp⟩:=zJk hR hg;have hb0:base<=w.heap.size:=hR.base;let l:=w.heap.size+1
 let Dd:=w.heap.size
 let I:Nat->World->Prop:=λk W=>k<=(jI n).length/\∃S' φ',Rel E base S' φ' ⟨tm,hpk k⟩ a W/\Grow base S S' w W/\¬S' l/\¬S' Dd
 refine zAh (C:=λW=>W.cell? ad=some (.int .i64 n)) (xs:=(jI n).map encP) hev ?_ (zG1 ad n hn) ?_ I ?_ ?_ ?_
  (λx=>(({ tmps:=((#[p1,p2]:Array Tmp).zip x).foldl (λt (p,v)=>t.setIfInBounds p v) a.tmps,defers:=[] }:Act).put (some t1) (({ tmps:=((#[p1,p2]:Array Tmp).zip x).foldl (λt (p,v)=>t.setIfInBounds p v) a.tmps,defers:=[] }:Act).eval (.tmp p1))).put (some t2)
   ((({ tmps:=((#[p1,p2]:Array Tmp).zip x).foldl (λt (p,v)=>t.setIfInBounds p v) a.tmps,defers:=[] }:Act).put (some t1) (({ tmps:=((#[p1,p2]:Array Tmp).zip x).foldl (λt (p,v)=>t.setIfInBounds p v) a.tmps,defers:=[] }:Act).eval (.tmp p1))).eval (.tmp p2)))
  ?_ ?_ ?_
 ·exact Go.Proofs.enters_of Tryz.func282 (by kernel_rfl) rfl
 ·intro x hx;obtain⟨p,_,rfl⟩:=A5.1 hx;rfl
 ·rintro k W r o ⟨hk,S',φ',hR',hG,h1,h2⟩ hl;refine⟨hk,S',φ',hR'.turn hl (zFx r) h1 o,⟨Qa hG.below hR'.base (by omega) o,hG.sub,hG.new,λb hb=>?_⟩,h1,h2⟩
  have:=hR.lt b hb;rw[Ap (by omega)]
  exact hG.kept b hb
 ·rintro k W ⟨hk,S',φ',hR',hG,h1,h2⟩;obtain⟨ad',cs',hev',hcs',hcell',hsp'⟩:=zJk hR' hg;rw[hev] at hev';simp only[Value.func.injEq,Array.mk.injEq,Bc,Bv,An,and_true,true_and] at hev';obtain rfl:ad=ad':=by simpa using hev'
  cases hcs' with
  | int _ _ =>
   have:=hcell' 0 _ rfl
   rwa [jr hsp',Nat.add_zero,show(⟨ad.block,ad.off,none⟩:Addr)=ad by rw[<-hsp']] at this
 ·intro r;have hB:Below base w ((w.alloc (.deferred (some []))).alloc (.loop r)):=((Below.refl _ w).alloc hb0 _).alloc (by simp;omega) _
  have hold:∀b,b<w.heap.size->((w.alloc (.deferred (some []))).alloc (.loop r)).heap[b]? = w.heap[b]?:=λb hb=>(AN _ _ b (by simp;omega)).trans (AN _ _ b hb)
  have hG:Grow base S S w ((w.alloc (.deferred (some []))).alloc (.loop r)):=⟨hB,λ_ h=>h,λ_ h=>.inl h,λb hb=>hold b (hR.lt b hb)⟩
  refine⟨Bd _,S,φ,hR.world hG (λb hb=>?_) (λ_ _ h=>h) hold,hG,λh=>?_,λh=>?_⟩
  ·have:=hR.lt b hb;simp;omega
  ·have:=hR.lt _ h;omega
  ·have:=hR.lt _ h;exact absurd this (Nat.lt_irrefl _)
 ·intro k x W K hx hK;exact asg_wp hK
 ·rintro k x W r hx ⟨hk,S',φ',hR',hG,h1,h2⟩ hl hDd;rw[Aj] at hx;cases hp:(jI n)[k]? with
  | none=>rw[hp] at hx;simp at hx
  | some p =>
  rw[hp] at hx;simp only[AD,An] at hx;subst hx;have hklt:k<(jI n).length:=(Ad.1 hp).1;have ha0:({ tmps:=((#[p1,p2]:Array Tmp).zip (encP p)).foldl (λt (p,v)=>t.setIfInBounds p v) a.tmps,defers:=[] }:Act)=(a.put (some p1) (.int .i64 p.1)).put (some p2) (.int .i64 p.2):=by
   have hd0:a.defers=[]:=hR.dfr;have:∀(t:Array Value) (d:List Deferred),d=[]->({ tmps:=t,defers:=[] }:Act)=⟨t,d⟩:=λt d h=>by rw[h]
   refine(this _ _ hd0).trans ?_;simp[encP,BC]
  rw[ha0];have hi64:∀m:Nat,RAV E.L (λb=>(S' b\/b=l)\/b=Dd) φ' W (.d (.int .i64 m)) (.int .i64 m):=λm=>⟨.int _ _,rfl⟩
  have hR2:=(((hR'.stay hl (zFx r)).stay hDd (zHu _)).put (some p1) (hi64 p.1)).put (some p2) (hi64 p.2);have hR3:=hR2.put (some t1) (hR2.ev (.tmp p1) (.d (.int .i64 p.1)) (by simp[evO,j5,Bh,hne.symm,hlen.1]))
  have hR4:=hR3.put (some t2) (hR3.ev (.tmp p2) (.d (.int .i64 p.2)) (by simp[evO,j5,Bh,hne2,hlen.2]))
  refine zDf hD (by kernel_rfl) hc body hi hd (by rintro⟨a,w,h,_⟩;cases h) (hexec k p hp) hR4 ?_
  intro ex st' S3 φ3 a3 W3 hK3 hR5 hG5 hkeep;obtain⟨rfl,hle⟩:=zBg hK3;have hkl:W3.heap[l]? = W.heap[l]?:=hG5.kept l (.inl (.inr rfl));have hkD:W3.heap[Dd]? = W.heap[Dd]?:=hG5.kept Dd (.inr rfl);refine⟨rfl,⟨by omega,?_⟩,hkl,hkD⟩
  have hR6:=hR5.le hle;have hnt':noTupV ⟨tm,hpk (k+1)⟩=true:=hnt;have hnz':nzSt E.L ⟨tm,hpk (k+1)⟩=true:=by simp only[nzSt,hnz,hnh (k+1) (by omega),Bool.and_self]
  have hR7:=(hR6.cut (hkl.trans hl) (zFx r) hgl hnt' hnz').cut (hkD.trans hDd) (zHu _) hgl hnt' hnz';refine⟨_,φ3,⟨hR7.glob,?_,hR7.blk,hR7.inj,hR7.lt,hR7.base,hR.dfr⟩,⟨hG.below.trans hG5.below,λb hb=>?_,λb hb=>?_,λb hb=>?_⟩,λh=>h.1.2 rfl,λh=>h.2 rfl⟩
  ·intro i v hv;by_cases hiD:i∈D
   ·rcases hdead i hiD with e | e
    ·obtain⟨u,hu,_⟩:=hR.tm i _ e;rw[show tm[i]? = _ from hv] at e
     injection e with e;subst e
     exact⟨u,hu,trivial⟩
    ·rw[show tm[i]? = _ from hv] at e;cases e
   ·obtain⟨u,hu,hr⟩:=hR7.tm i v hv;refine⟨u,?_,hr⟩;rw[<-hu,hkeep i hiD];have n1:p1≠i:=by rintro rfl;exact hiD hmD.1
    have n2:p2≠i:=by rintro rfl;exact hiD hmD.2.1
    have n3:t1≠i:=by rintro rfl;exact hiD hmD.2.2.1
    have n4:t2≠i:=by rintro rfl;exact hiD hmD.2.2.2
    simp only[BC];rw[Ak n4,Ak n3,Ak n2,Ak n1]
  ·have:=hR.lt b hb;exact⟨⟨hG5.sub b (.inl (.inl (hG.sub b hb))),by show b≠w.heap.size+1;omega⟩,by show b≠w.heap.size;omega⟩
  ·rcases hG5.new b hb.1.1 with ((h | h) | h) | h
   ·exact hG.new b h
   ·exact absurd h hb.1.2
   ·exact absurd h hb.2
   ·exact .inr h
  ·exact(hG5.kept b (.inl (.inl (hG.sub b hb)))).trans (hG.kept b hb)
 ·rintro W ⟨_,S',φ',hR',hG,h1,h2⟩ hK;rw[List.length_map] at hR';exact hdone S' φ' W hR' hG h2 hK
end
end Go.Am
namespace Go.Am
open Go.Proofs
open Go
def sq1:Code->Code | .seq x _=>x | c=>c
def sq2:Code->Code | .seq _ y=>y | c=>c
def bk1:Code->Code | .block _ c=>c | c=>c
def rfA:Code->Code | .rangeFunc _ _ a _=>a | c=>c
def rfB:Code->Code | .rangeFunc _ _ _ b=>b | c=>c
noncomputable def pcX(f:FuncId)(c:Code)(st:St):Tr:=J0 EE XX (XX.fx f) c 0 0 st (λe st=>match e with | .normal=>.goto 0 st | _=>.fail)
noncomputable def k161:Code:=YL EE 161
noncomputable def k161a:Code:=.seq (sq1 k161) (.seq (sq1 (sq2 k161)) (sq1 (sq1 (sq2 (sq2 k161)))))
noncomputable def k161r:Code:=bk1 (sq2 (sq1 (sq2 (sq2 k161))))
abbrev dWk(ru:ByteArray)(d wd:List DV):DV:=.agg 0 [.str ru,.sl 1 d,.sl 1 wd]
abbrev dCu(pw:List DV)(cut:Int):DV:=.agg 1 [.sl 1 pw,.int .i64 cut]
abbrev dPn(ps:List DV)(least:Int)(ru:ByteArray)(d wd pw:List DV)(cut:Int)(rs:List DV):DV:=.agg 6 [.sl 2 ps,.int .i64 least,dWk ru d wd,dCu pw cut,.agg 3 rs]
noncomputable def p161a(ps:List DV)(least:Int)(ru:ByteArray)(d wd pw:List DV)(cut:Int)(rs:List DV):Tr:=pcX 161 k161a (zr 50 [(0,.d (dPn ps least ru d wd pw cut rs))] [])
noncomputable def k161b:Code:=rfB k161r
abbrev dSe(ps:List DV)(least:Int)(ru:ByteArray)(d wd pw:List DV)(cut:Int)(rs ns:List DV):DV:=.agg 16 [dPn ps least ru d wd pw cut rs,.agg 13 [dWk ru d wd,dCu pw cut,.agg 3 rs],.agg 15 ns]
def tm161(n:Int):List AV:=stTm 50 0 [(1,.ptr 1 415 0 []),(3,.ptr 3 1 0 []),(20,.d (.fn 282 [] [.dp (.int .i64 n)]))]
def hp161(ps:List DV)(least:Int)(ru:ByteArray)(d wd pw:List DV)(cut:Int)(rs ns:List DV):List (Option OB) :=
 stHp 50 0 [(1,⟨false,.dc 415 [dPn ps least ru d wd pw cut rs]⟩),(3,⟨false,.ac 1 [.ptr 16 892 0 []]⟩),(16,⟨false,.dc 892 [dSe ps least ru d wd pw cut rs ns]⟩)]
def rd161(n:Int)(j i:Nat):List AV:=j5 (j5 (j5 (j5 (tm161 n) (some 21) (.d (.int .i64 j))) (some 22) (.d (.int .i64 i))) (some 4) (.d (.int .i64 j))) (some 5) (.d (.int .i64 i))
noncomputable def p161c(j i:Nat)(n:Int)(ps:List DV)(least:Int)(ru:ByteArray)(d wd pw:List DV)(cut:Int)(rs ns:List DV):Tr:=pcX 161 k161b ⟨rd161 n j i,hp161 ps least ru d wd pw cut rs ns⟩
noncomputable def k200:Code:=YL EE 200
noncomputable def k200z:Code:=sq2 (sq2 (sq2 k200))
noncomputable def k200b:Code:=rfB (bk1 (sq2 (sq1 k200z)))
def tm200(ru:ByteArray)(d wd ps:List DV)(sec x y:Int):List AV :=
 stTm 47 0 [(3,.d (.dp (dWk ru d wd))),(4,.d (.dp (.sl 2 ps))),(5,.d (.dp (.agg 9 [.int .i64 sec,.agg 1 [.int .i64 x,.int .i64 y]]))),(7,.ptr 7 1 0 [])]
noncomputable def hp200(j n:Nat)(row:List DV):List (Option OB):=stHp 47 0 [(7,⟨true,.ac 1 [.own 19 0 n 1]⟩),(19,⟨true,.ac 1 (Aa j .undef++[.own 20 0 n 1])⟩),(20,⟨false,.dc 1 row⟩)]
def rd200(j i:Nat)(ru:ByteArray)(d wd ps:List DV)(sec x y:Int):List AV :=
 j5 (j5 (tm200 ru d wd ps sec x y) (some 8) (.d (.int .i64 j))) (some 9) (.d (.int .i64 i))
noncomputable def p200c(j i n:Nat)(ru:ByteArray)(d wd ps:List DV)(sec x y:Int)(row:List DV):Tr:=pcX 200 k200b ⟨rd200 j i ru d wd ps sec x y,hp200 j n row⟩
end Go.Am
