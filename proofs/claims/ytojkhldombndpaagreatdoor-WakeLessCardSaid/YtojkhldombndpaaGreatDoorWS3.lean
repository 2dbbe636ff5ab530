/- WakeLess: for every input the law returns true, and each argument reads afterwards as it read before. Part 3. -/
import Derived.Test.YtojkhldombndpaaGreatDoorWS2
set_option linter.all false
namespace Go.Am
open Go.Proofs
open Go
inductive Tr where
 | fail
 | ret (r:CR)
 | ifB (b:Bool) (t e:Tr)
 | call (f:FuncId) (args:List DV) (kv:DV->Tr) (kf:Nat->List DV->Tr)
 | goto (j:Nat) (st:St)
def ifO(b:Bool)(x y:Option CR):Option CR:=match b with | true=>x | false=>y
def zI(o:Option CR)(kv:DV->Option CR)(kf:Nat->List DV->Option CR):Option CR :=
 match o with
 | some (.val x)=>kv x
 | some (.fresh s xs)=>kf s xs
 | none=>none
def run(call:FuncId->List DV->Option CR)(go:Nat->St->Option CR):Tr->Option CR
 | .fail=>none
 | .ret r=>some r
 | .ifB b t e=>ifO b (run call go t) (run call go e)
 | .call f a kv kf=>zI (call f a) (λx=>run call go (kv x)) (λs xs=>run call go (kf s xs))
 | .goto j st=>go j st
def zC:DV->Int | .int _ n=>n | _=>0
def YI:DV->Bool | .bool b=>b | _=>false
def ze:DV->ByteArray | .str s=>s | _=>ByteArray.empty
def elems:DV->List DV | .sl _ xs=>xs | _=>[]
def flds:DV->List DV | .agg _ xs=>xs | _=>[]
def undp:DV->DV | .dp x=>x | _=>.nl
def zEv:DV->FuncId | .fn f _ _=>f | _=>0
def fnA:DV->List DV | .fn _ a _=>a | _=>[]
def fnC:DV->List DV | .fn _ _ c=>c | _=>[]
def keys:DV->List DV | .mp ks _=>ks | _=>[]
def vals:DV->List DV | .mp _ vs=>vs | _=>[]
def tups:DV->List DV | .tup xs=>xs | _=>[]
def nth(xs:List DV)(i:Nat):DV:=match xs[i]? with | some x=>x | none=>.nl
def jQ(tag i:Nat):DV->Bool | .agg t xs=>(t == tag) && decide (i<xs.length) | _=>false
def isNl:DV->Bool | .nl=>true | _=>false
def zS(f:TypeId->DV->Bool):List TypeId->List DV->Bool
 | [],[]=>true
 | t :: ts,x :: xs=>f t x && zS f ts xs
 | _,_=>false
def zD0(f:TypeId->DV->DV):List TypeId->List DV->Nat->List DV
 | [],_,_=>[]
 | t :: ts,xs,i=>f t (nth xs i) :: zD0 f ts xs (i+1)
def zH(E:Env):Nat->TypeId->DV->Bool
 | 0,_,_=>false
 | n+1,t,x=>match E.D t with
  | none=>false
  | some td=>match td.k with
   | .int k=>match x with | .int k' _=>k' == k | _=>false
   | .bool=>match x with | .bool _=>true | _=>false
   | .str=>match x with | .str _=>true | _=>false
   | .slice e=>match E.D e with
    | some ed=>match x with | .sl s _=>s == ed.size | _=>false
    | none=>false
   | .map _ _=>match x with | .mp _ _=>true | _=>false
   | .struct tag=>match x with | .agg u xs=>(u == tag) && zS (zH E n) (E.flds t) xs | _=>false
   | .array tag m _=>match x with | .agg u xs=>(u == tag) && decide (xs.length=m) | _=>false
   | .ptr _=>match x with | .dp _=>true | _=>false
   | .func=>match x with | .fn _ _ _=>true | _=>false
   | .iface=>match x with | .nilIf=>true | .ifc _ _=>true | _=>false
   | _=>false
def zIG(E:Env):Nat->TypeId->DV->DV
 | 0,_,x=>x
 | n+1,t,x=>match E.D t with
  | none=>x
  | some td=>match td.k with
   | .int k=>.int k (zC x)
   | .bool=>.bool (YI x)
   | .str=>.str (ze x)
   | .slice e=>match E.D e with
    | some ed=>.sl ed.size (elems x)
    | none=>x
   | .map _ _=>.mp (keys x) (vals x)
   | .struct tag=>.agg tag (zD0 (zIG E n) (E.flds t) (flds x) 0)
   | .array tag _ _=>.agg tag (flds x)
   | .ptr _=>.dp (undp x)
   | .func=>.fn (zEv x) (fnA x) (fnC x)
   | _=>x
def shD:Nat:=6
def needs(E:Env):Nat->TypeId->Bool
 | 0,_=>false
 | n+1,t=>match E.D t with
  | none=>false
  | some td=>match td.k with
   | .slice _=>true
   | .struct _=>(E.flds t).any (needs E n)
   | _=>false
def zJw(f:TypeId->DV->DV):List TypeId->List DV->List DV
 | t :: ts,x :: xs=>f t x :: zJw f ts xs
 | _,xs=>xs
def cnE(E:Env)(t:TypeId)(x:DV):DV :=
 match E.D t with
 | none=>x
 | some td=>match td.k with
  | .slice e=>match E.D e with
   | some ed=>match x with
    | .nl=>.sl ed.size []
    | x=>x
   | none=>x
  | _=>x
def cnT(E:Env):Nat->TypeId->DV->DV
 | 0,_,x=>x
 | n+1,t,x=>match needs E (n+1) t with
  | false=>x
  | true=>match E.D t with
   | none=>x
   | some td=>match td.k with
    | .slice e=>match E.D e with
     | some ed=>match x with
      | .nl=>.sl ed.size []
      | .sl s xs=>match needs E n e with
       | true=>.sl s (xs.map (cnE E e))
       | false=>.sl s xs
      | x=>x
     | none=>x
    | .struct tag=>match x with
     | .agg u xs=>match u == tag with
      | true=>.agg u (zJw (cnT E n) (E.flds t) xs)
      | false=>.agg u xs
     | x=>x
    | _=>x
def zu(E:Env)(f:FuncId)(ds:List DV):List DV :=
 match E.F f with
 | some fn=>zJw (cnT E shD) fn.params.toList ds
 | none=>ds
def cnRes(E:Env)(fn:Func)(x:DV):DV :=
 match fn.resultTypes.toList with
 | [t]=>cnT E shD t x
 | ts=>match x with
  | .tup xs=>.tup (zJw (cnT E shD) ts xs)
  | x=>x
structure XF where
 cells:List Nat:=[]
 live:List (List Nat):=[]
 caps:Nat:=0
 cuts:List (Nat×List Nat):=[]
 deriving Inhabited
structure XC where
 arr:List Nat
 fx:FuncId->XF
def gd(b:Bool)(t:Tr):Tr:=.ifB b t .fail
def hard(b:Bool)(t:Tr):Tr:=match b with | true=>t | false=>.fail
def hardI(ox oy:Operand)(x y:DV)(t:Tr):Tr:=match Js ox with
 | true=>t
 | false=>match Js oy with
  | true=>t
  | false=>hard (zAB ox oy x y) t
def jL{α:Type}(o:Option α)(k:α->Tr):Tr:=match o with | some a=>k a | none=>.fail
def eqX(E:Env)(t:TypeId)(neg:Bool)(x y:DV)(k:DV->Tr):Tr :=
 gd (Y0 E t x y).isSome (k (.bool (match neg with | true=>!((Y0 E t x y).getD false) | false=>(Y0 E t x y).getD false)))
def intX(E:Env)(op:BinOp)(t:TypeId)(k1:IntKind)(a:Int)(k2:IntKind)(b:Int)(k:DV->Tr):Tr :=
 match op with
 | .quo=>hard (decide (k1=k2)) (gd (!(b == 0)) (k (.int k1 (k1.wrap (a.tdiv b)))))
 | .rem=>hard (decide (k1=k2)) (gd (!(b == 0)) (k (.int k1 (a.tmod b))))
 | .shl=>gd (decide (0<=b)) (k (.int k1 (k1.wrap (a * 2 ^ (min b.toNat k1.bits)))))
 | .shr=>gd (decide (0<=b)) (k (.int k1 (a.fdiv (2 ^ (min b.toNat k1.bits)))))
 | op=>jL (zBt E op t (.int k1 a) (.int k2 b)) k
def binX(E:Env)(op:BinOp)(t:TypeId)(x y:DV)(k:DV->Tr):Tr :=
 match x with
 | .int k1 a=>match y with
  | .int k2 b=>intX E op t k1 a k2 b k
  | _=>.fail
 | .str a=>match y with
  | .str b=>match op with
   | .add=>gd (decide (((a.size+b.size:Nat):Int)<=IntKind.i64.max)) (k (.str (a++b)))
   | op=>jL (zBt E op t (.str a) (.str b)) k
  | _=>.fail
 | x=>match op with
  | .eql=>eqX E t false x y k
  | .neq=>eqX E t true x y k
  | _=>.fail
def isIf(E:Env)(t:TypeId):Bool:=match E.D t with
 | some td=>match td.k with
  | .iface=>true
  | _=>false
 | none=>false
def binXI(E:Env)(op:BinOp)(t:TypeId)(x y:DV)(k:DV->Tr):Tr:=match isIf E t with
 | true=>match op with
  | .eql=>eqX E t false x y k
  | .neq=>eqX E t true x y k
  | _=>.fail
 | false=>binX E op t x y k
def getBX(blk:Blk)(sz e:Nat)(k:AV->Tr):Tr :=
 match blk with
 | .dc s xs=>hard (s == sz) (gd (decide (e<xs.length)) (k (.d (nth xs e))))
 | .ac s xs=>hard (s == sz) (jL xs[e]? k)
 | _=>.fail
def zIX:List (Nat×Nat)->AV->(AV->Tr)->Tr
 | [],v,k=>k v
 | (tag,i) :: p,v,k=>match v with
  | .d x=>gd (jQ tag i x) (zIX p (.d (nth (flds x) i)) k)
  | .agg t fs=>hard (t == tag) (jL fs[i]? λx=>zIX p x k)
  | _=>.fail
def unif(l:List Nat)(n:Nat):Bool:=decide (3<=l.length) && l.all λm=>Nat.beq m n
def szX(l:List Nat)(i n:Nat)(t:Tr):Tr:=match unif l n with
 | true=>gd (decide (i<l.length)) t
 | false=>hard (decide (n=l.getD i 0)) t
def setPX(L:Nat->List Nat):List (Nat×Nat)->AV->AV->(AV->Tr)->Tr
 | [],new,_,k=>k new
 | (tag,i) :: p,new,v,k=>match v with
  | .d x=>gd (jQ tag i x) (setPX L p new (.d (nth (flds x) i)) λy=>szX (L tag) i (JZ L y) <| match y with
    | .d y=>k (.d (.agg tag ((flds x).set i y)))
    | y=>k (.agg tag (((flds x).map .d).set i y)))
  | .agg t fs=>hard (t == tag) (jL fs[i]? λx=>setPX L p new x λy=>hard (decide (JZ L y=(L tag).getD i 0)) (jL (setF tag i y (.agg t fs)) k))
  | _=>.fail
def setBX(blk:Blk)(e:Nat)(v:AV)(k:Blk->Tr):Tr :=
 match blk with
 | .dc s xs=>match v with
  | .d y=>k (.dc s (xs.set e y))
  | v=>k (.ac s ((xs.map .d).set e v))
 | .ac s xs=>k (.ac s (xs.set e v))
 | _=>.fail
def shX(E:Env)(td:TD)(asis:Bool)(t:TypeId)(v:AV)(k:AV->Tr):Tr :=
 match asis with
 | true=>hard (fits td v) (k v)
 | false=>match v with
  | .d x=>gd (zH E shD t x) (k (.d (zIG E shD t x)))
  | v=>hard (fits td v) (k v)
def loadX(E:Env)(X:XC)(F:XF)(t:TypeId)(hp:List (Option OB))(a:AV)(k:Eff->Tr):Tr :=
 jL (E.D t) λtd=>match a with
  | .d (.dp x)=>shX E td false t (.d x) λv=>k { v }
  | .ptr b sz e p=>jL (slot hp b) λob=>getBX ob.blk sz e λv=>zIX p v λx =>
    shX E td (F.cells.contains b && p.all λq=>!X.arr.contains q.1) t x λv=>k { v }
  | _=>.fail
def storeX(E:Env)(t:TypeId)(hp:List (Option OB))(a x:AV)(k:Eff->Tr):Tr :=
 jL (E.D t) λtd=>match a with
  | .ptr b sz e p=>jL (slot hp b) λob=>hard (!ob.fz) <| hard (fits td x) <|
    getBX ob.blk sz e λv=>setPX E.L p x v λy=>hard (decide (JZ E.L y=sz)) <|
    setBX ob.blk e y λblk=>k { v:=.d (.tup []),upd:=some (b,blk) }
  | _=>.fail
def zBi(E:Env)(t:TypeId)(dst:Nat)(l c:AV)(k:Eff->Tr):Tr :=
 jL (E.D t) λtd=>match td.k with
  | .slice e=>jL (E.D e) λed=>jL (asI l) λn=>jL (asI c) λm=>hard (decide (0<ed.size)) <|
   gd (decide (0<=n/\n=m/\ed.bytes * m<=281474976710656/\m<=9223372036854775807)) <|
    k { v:=.own dst 0 (List.replicate n.toNat ed.zero).length ed.size,new:=some (.dc ed.size (List.replicate n.toNat ed.zero)) }
  | _=>.fail
def zBp(E:Env)(t:TypeId)(x:AV)(i:Nat)(k:Eff->Tr):Tr :=
 jL (E.D t) λtd=>match td.k with
  | .struct tag=>match x with
   | .ptr b sz e p=>hard (decide (i<(E.L tag).length)) (k { v:=.ptr b sz e (p++[(tag,i)]) })
   | .d (.dp x)=>gd (jQ tag i x) (k { v:=.d (.dp (nth (flds x) i)) })
   | _=>.fail
  | _=>.fail
def zBj(E:Env)(t:TypeId)(x ix:AV)(k:Eff->Tr):Tr :=
 jL (E.D t) λtd=>jL (asI ix) λi=>match td.k with
  | .slice e=>jL (E.D e) λed=>match x with
   | .d (.sl sz xs)=>hard (sz == ed.size) <| gd (decide (0<=i/\i<xs.length)) (k { v:=.d (.dp (nth xs i.toNat)) })
   | .own b off len sz=>hard (sz == ed.size) <| gd (decide (0<=i/\i<len)) (k { v:=.ptr b sz (off+i.toNat) [] })
   | _=>.fail
  | .array tag n _=>match x with
   | .ptr b sz e p=>gd (decide (0<=i/\i<n)) (k { v:=.ptr b sz e (p++[(tag,i.toNat)]) })
   | .d (.dp x)=>gd (decide (0<=i)) (gd (jQ tag i.toNat x) (k { v:=.d (.dp (nth (flds x) i.toNat)) }))
   | _=>.fail
  | _=>.fail
def indexX(E:Env)(t:TypeId)(x ix:AV)(k:Eff->Tr):Tr :=
 jL (E.D t) λtd=>jL (asI ix) λi=>match td.k with
  | .array tag _ e=>jL (E.D e) λed=>gd (decide (0<=i)) <| match x with
   | .d x=>gd (jQ tag i.toNat x) (shX E ed false e (.d (nth (flds x) i.toNat)) λv=>k { v })
   | .agg u fs=>hard (u == tag) (jL fs[i.toNat]? λv=>hard (fits ed v) (k { v }))
   | _=>.fail
  | .str=>match x with
   | .d (.str s)=>gd (decide (0<=i/\i<s.size)) (k { v:=.d (.int .u8 (s[i.toNat]?.getD 0).toNat) })
   | _=>.fail
  | _=>.fail
def zCH(d:Nat)(o:Option AV)(k:Nat->Tr):Tr :=
 match o with
 | none=>k d
 | some v=>jL (asI v) λi=>gd (decide (0<=i)) (k i.toNat)
def sliceX(E:Env)(t:TypeId)(x:AV)(lo hi mx:Option AV)(k:Eff->Tr):Tr :=
 jL (E.D t) λtd=>match mx with
 | some _=>.fail
 | none=>zCH 0 lo λl=>match td.k with
  | .str=>match x with
   | .d (.str s)=>zCH s.size hi λh=>gd (decide (l<=h/\h<=s.size)) (k { v:=.d (.str (s.extract l h)) })
   | _=>.fail
  | .slice e=>jL (E.D e) λed=>match x with
   | .d (.sl sz xs)=>hard (sz == ed.size) <| zCH xs.length hi λh=>gd (decide (l<=h/\h<=xs.length)) (k { v:=.d (.sl sz ((xs.take h).drop l)) })
   | .d .nl=>zCH 0 hi λh=>gd (decide (l=0/\h=0)) (k { v:=.d .nl })
   | .own b off len sz=>hard (sz == ed.size) <| zCH len hi λh=>gd (decide (l<=h/\h<=len)) (k { v:=.own b (off+l) (h - l) sz })
   | _=>.fail
  | _=>.fail
def mapX(hp:List (Option OB))(m:AV)(k:List DV->List DV->Tr):Tr :=
 match m with
 | .d (.mp ks vs)=>k ks vs
 | .d .nilMp=>k [] []
 | .omp b=>match slot hp b with
  | some ⟨_,.mp ks vs⟩=>k ks vs
  | _=>.fail
 | _=>.fail
def zIA(E:Env)(t:TypeId)(hp:List (Option OB))(m key:AV)(ok:Bool)(k:Eff->Tr):Tr :=
 jL (E.D t) λtd=>match td.k with
  | .map kt et=>jL (E.D kt) λkd=>jL (E.D et) λed=>match key with
   | .d x=>hard (ji kd x) <| mapX hp m λks vs =>
    gd (ja x ks vs).isSome <| .ifB (((ja x ks vs).getD none).isSome)
     (gd (zH E shD et (((ja x ks vs).getD none).getD .nl)) <|
      k { v:=.d (match ok with | true=>.tup [zIG E shD et (((ja x ks vs).getD none).getD .nl),.bool true] | false=>zIG E shD et (((ja x ks vs).getD none).getD .nl)) })
     (k { v:=.d (match ok with | true=>.tup [ed.zero,.bool false] | false=>ed.zero) })
   | _=>.fail
  | _=>.fail
def Qz(E:Env)(t:TypeId)(hp:List (Option OB))(m key v:AV)(k:Eff->Tr):Tr :=
 jL (E.D t) λtd=>match td.k with
  | .map kt et=>jL (E.D kt) λkd=>jL (E.D et) λed=>match m,key,v with
   | .omp b,.d x,.d v=>hard (ji kd x) <| hard (fits ed (.d v)) <| match slot hp b with
    | some ⟨false,.mp ks vs⟩=>gd (Yz x v ks vs).isSome <| k { v:=.d (.tup []),upd:=some (b,.mp ((Yz x v ks vs).getD ([],[])).1 ((Yz x v ks vs).getD ([],[])).2) }
    | _=>.fail
   | _,_,_=>.fail
  | _=>.fail
def nextX(hp:List (Option OB))(isString:Bool)(v:AV)(k:Eff->Tr):Tr :=
 match v with
 | .it b=>hard isString <| match slot hp b with
  | some ⟨false,.sit s pos⟩=>.ifB (decide (pos<s.size))
    (k { v:=.d (.tup [.bool true,.int .i64 pos,.int .i32 (Utf8.decode s pos).1]),upd:=some (b,.sit s (pos+(Utf8.decode s pos).2)) })
    (k { v:=.d (.tup [.bool false]) })
  | _=>.fail
 | _=>.fail
def zBh(f:AV->(DV->Tr)->Tr):List AV->(List DV->Tr)->Tr
 | [],k=>k []
 | v :: r,k=>f v λx=>zBh f r λxs=>k (x :: xs)
def zAI(hp:List (Option OB)):Nat->AV->(DV->Tr)->Tr
 | 0,v,k=>match v with
  | .d x=>k x
  | _=>.fail
 | n+1,v,k=>match v with
  | .d x=>k x
  | .own b off len sz=>match slot hp b with
   | some ⟨_,.dc s xs⟩=>hard (s == sz) (gd (decide (off+len<=xs.length)) (k (.sl sz ((xs.drop off).take len))))
   | some ⟨_,.ac s xs⟩=>hard (s == sz && decide (off+len<=xs.length)) (zBh (zAI hp n) ((xs.drop off).take len) λds=>k (.sl sz ds))
   | _=>.fail
  | .ptr b sz e p=>jL (slot hp b) λob=>getBX ob.blk sz e λv=>zIX p v λx=>zAI hp n x λy=>hard (!y.isTup) (k (.dp y))
  | .omp b=>match slot hp b with
   | some ⟨_,.mp ks vs⟩=>k (.mp ks vs)
   | _=>.fail
  | .agg tag fs=>zBh (zAI hp n) fs λds=>k (.agg tag ds)
  | .fn f a c=>zBh (zAI hp n) a λx=>zBh (zAI hp n) c λy=>k (.fn f x y)
  | _=>.fail
def zIa(hp:List (Option OB))(sz:Nat)(v:AV)(k:List DV->List Nat->Tr):Tr :=
 match v with
 | .d .nl=>k [] []
 | .d (.sl s xs)=>hard (s == sz) (k xs [])
 | .own b off len s=>hard (s == sz) <| match slot hp b with
  | some ⟨_,.dc s' xs⟩=>hard (s' == sz) (gd (decide (off+len<=xs.length)) (k ((xs.drop off).take len) []))
  | some ⟨_,.ac s' xs⟩=>hard (s' == sz && decide (off+len<=xs.length)) (zBh (zAI hp zp) ((xs.drop off).take len) λds=>k ds (((xs.drop off).take len).flatMap (sites hp zp)))
  | _=>.fail
 | _=>.fail
def baseX(hp:List (Option OB))(sz:Nat)(v:AV)(k:List DV->Option Nat->Tr):Tr :=
 match v with
 | .d .nl=>k [] none
 | .own b off len s=>hard (s == sz && off == 0) <| match slot hp b with
  | some ⟨false,.dc s' xs⟩=>hard (s' == sz) (gd (decide (len=xs.length)) (k xs (some b)))
  | _=>.fail
 | _=>.fail
def zIM(E:Env)(ts:List TypeId)(dst:Nat)(hp:List (Option OB))(args:List AV)(k:Eff->Tr):Tr :=
 match args with
 | [s,x]=>match ts with
  | [t,u]=>hard (decide (t=u)) <| jL (E.D t) λtd=>match td.k with
   | .slice e=>jL (E.D e) λed=>hard (decide (0<ed.size/\0<ed.bytes)) <| baseX hp ed.size s λbs kil=>zIa hp ed.size x λel frz =>
    gd (decide ((2 * (bs.length+el.length)+200) * ed.bytes<=281474976710656)) <| match kil with
     | none=>.ifB el.isEmpty (k { v:=.d .nl }) (k { v:=.own dst 0 (bs++el).length ed.size,new:=some (.dc ed.size (bs++el)),frz })
     | some b=>k { v:=.own dst 0 (bs++el).length ed.size,new:=some (.dc ed.size (bs++el)),kil:=some b,frz }
   | _=>.fail
  | _=>.fail
 | _=>.fail
def copyX(E:Env)(ts:List TypeId)(hp:List (Option OB))(args:List AV)(k:Eff->Tr):Tr :=
 match args with
 | [s,x]=>match ts with
  | [t,_]=>jL (E.D t) λtd=>match td.k with
   | .slice e=>jL (E.D e) λed=>match s with
    | .own b off len sz=>hard (decide (sz=ed.size)) <| match slot hp b with
     | some ⟨false,.dc s' xs⟩=>hard (s' == sz) <| gd (decide (off+len<=xs.length)) <| zIa hp ed.size x λel frz =>
       k { v:=.d (.int .i64 (min el.length len:Nat)),upd:=some (b,.dc s' (xs.take off++el.take (min el.length len)++xs.drop (off+min el.length len))),frz }
     | _=>.fail
    | _=>.fail
   | _=>.fail
  | _=>.fail
 | _=>.fail
def resX(E:Env)(ts:List TypeId)(x:DV)(k:DV->Tr):Tr :=
 match ts with
 | [t]=>gd (zH E shD t x) (k (zIG E shD t x))
 | ts=>gd (x.isTup && zS (zH E shD) ts (tups x)) (k (.tup (zD0 (zIG E shD) ts (tups x) 0)))
def eszR(E:Env)(fn:Func):Nat :=
 match fn.resultTypes.toList with
 | [t]=>match E.D t with
  | some td=>match td.k with
   | .slice e=>match E.D e with
    | some ed=>ed.size
    | none=>0
   | _=>0
  | none=>0
 | _=>0
def nodeX(E:Env)(dst:Nat)(o:Operand)(ty:TypeId)(f:FuncId)(ds:List DV)(ss:List Nat)(k:Eff->Tr):Tr :=
 match o with
 | .func g=>match E.F g with
  | some fn=>match E.fresh g with
   | true=>.call f (zu E f ds) (λx=>gd (isNl x) (k (deliver dst ss (.val .nl)))) λs xs=>gd (s == eszR E fn) (k (deliver dst ss (.fresh (eszR E fn) xs)))
   | false=>.call f (zu E f ds) (λx=>resX E fn.resultTypes.toList x λy=>k (deliver dst ss (.val y))) λ_ _=>.fail
  | none=>.fail
 | _=>.call f (zu E f ds) (λx=>resX E [ty] x λy=>k (deliver dst ss (.val y))) λ_ _=>.fail
def callX1(E:Env)(dst:Nat)(hp:List (Option OB))(o:Operand)(ty:TypeId)(f:AV)(args:List AV)(k:Eff->Tr):Tr :=
 match f with
 | .d (.fn g a c)=>zBh (zAI hp zp) args λds=>nodeX E dst o ty g (a++ds++c) (jR hp args) k
 | .fn g a c=>zBh (zAI hp zp) (a++args++c) λds=>nodeX E dst o ty g ds (jR hp (a++args++c)) k
 | _=>.fail
def opX(E:Env)(X:XC)(F:XF)(o:Oper)(tm:List AV)(hp:List (Option OB))(k:Eff->Tr):Tr :=
 match o.op with
 | .pick c a b=>jL (evO E tm c) λc=>jL (asB c) λc=>.ifB c (jL (evO E tm a) λv=>k { v }) (jL (evO E tm b) λv=>k { v })
 | .binOp op t x y _=>jL (evO E tm x) λa=>jL (evO E tm y) λb=>match a with
  | .d a=>match b with
   | .d b=>hardI x y a b (binXI E op t a b λr=>k { v:=.d r })
   | _=>.fail
  | _=>.fail
 | .load t a=>jL (evO E tm a) λp=>loadX E X F t hp p k
 | .store t a x=>jL (evO E tm a) λp=>jL (evO E tm x) λv=>storeX E t hp p v k
 | .makeSlice t l c=>jL (evO E tm l) λl=>jL (evO E tm c) λc=>zBi E t (zW o) l c k
 | .slice t x lo hi mx=>jL (evO E tm x) λx=>jL (QJ E tm lo) λlo=>jL (QJ E tm hi) λhi=>jL (QJ E tm mx) λmx=>sliceX E t x lo hi mx k
 | .fieldAddr t x i=>jL (evO E tm x) λx=>zBp E t x i k
 | .indexAddr t x i=>jL (evO E tm x) λx=>jL (evO E tm i) λi=>zBj E t x i k
 | .index t x i=>jL (evO E tm x) λx=>jL (evO E tm i) λi=>indexX E t x i k
 | .lookup t m key ok=>jL (evO E tm m) λm=>jL (evO E tm key) λkey=>zIA E t hp m key ok k
 | .mapUpdate t m key x=>jL (evO E tm m) λm=>jL (evO E tm key) λkey=>jL (evO E tm x) λx=>Qz E t hp m key x k
 | .insert t m key x=>jL (evO E tm m) λm=>jL (evO E tm key) λkey=>jL (evO E tm x) λx=>Qz E t hp m key x k
 | .next i s=>jL (evO E tm i) λi=>nextX hp s i k
 | .call c=>match c.callee with
  | .value f=>jL (evL E tm c.args.toList) λargs=>jL (evO E tm f) λv=>callX1 E (zW o) hp f o.type v args k
  | .builtin .append=>jL (evL E tm c.args.toList) λargs=>zIM E c.argTypes.toList (zW o) hp args k
  | .builtin .copy=>jL (evL E tm c.args.toList) λargs=>copyX E c.argTypes.toList hp args k
  | _=>jL (jY E (λ_ _=>none) o.op (zW o) tm hp) k
 | _=>jL (jY E (λ_ _=>none) o.op (zW o) tm hp) k
def frcV(v:AV)(k:AV->Tr):Tr :=
 match v with
 | .d x=>k (.d x)
 | .undef=>k .undef
 | .own b off len sz=>k (.own b off len sz)
 | .ptr b sz e p=>k (.ptr b sz e p)
 | .omp b=>k (.omp b)
 | .it b=>k (.it b)
 | .agg t fs=>k (.agg t fs)
 | .fn f a c=>k (.fn f a c)
def frcL:List AV->(List AV->Tr)->Tr
 | [],k=>k []
 | v :: r,k=>frcV v λv=>frcL r λr=>k (v :: r)
def frcB(b:Blk)(k:Blk->Tr):Tr :=
 match b with
 | .dc s xs=>k (.dc s xs)
 | .ac s xs=>frcL xs λxs=>k (.ac s xs)
 | .mp ks vs=>k (.mp ks vs)
 | .sit s p=>k (.sit s p)
def frcZ(z:Bool)(k:Bool->Tr):Tr:=match z with | true=>k true | false=>k false
def frcH:List (Option OB)->(List (Option OB)->Tr)->Tr
 | [],k=>k []
 | o :: r,k=>match o with
  | none=>frcH r λr=>k (none :: r)
  | some ⟨z,b⟩=>frcZ z λz=>frcB b λb=>frcH r λr=>k (some ⟨z,b⟩ :: r)
def frc(st:St)(k:St->Tr):Tr:=frcL st.tm λtm=>frcH st.hp λhp=>k ⟨tm,hp⟩
def setK:List AV->Nat->AV->(List AV->Tr)->Tr
 | [],_,_,k=>k []
 | _ :: r,0,v,k=>frcV v λv=>k (v :: r)
 | x :: r,n+1,v,k=>setK r n v λr=>k (x :: r)
def putK'(tm:List AV)(dst:Option Tmp)(v:AV)(k:List AV->Tr):Tr :=
 match dst with
 | some t=>setK tm t v k
 | none=>k tm
def Eff.quiet(ef:Eff):Bool :=
 (match ef.new with | none=>true | some _=>false) && (match ef.upd with | none=>true | some _=>false) && (match ef.kil with | none=>true | some _=>false) && (match ef.frz with | []=>true | _=>false)
def zIW(ops:List Oper)(o:Oper)(tm:List AV)(k:Bool->List AV->Tr):Tr :=
 match o.guard with
 | none=>k true tm
 | some (j,want)=>match ops[j]? with
  | some g=>match g.dst with
   | some t=>match tm[t]? with
    | some (.d (.bool b))=>.ifB b (match want with | true=>k true (tm.set t (.d (.bool true))) | false=>k false (tm.set t (.d (.bool true))))
      (match want with | true=>k false (tm.set t (.d (.bool false))) | false=>k true (tm.set t (.d (.bool false))))
    | some (.d (.tup []))=>k false tm
    | _=>.fail
   | none=>.fail
  | none=>.fail
def zIO(E:Env)(X:XC)(F:XF)(o:Oper)(st:St)(k:St->Tr):Tr :=
 opX E X F o st.tm st.hp λef=>match ef.quiet with
 | true=>putK' st.tm o.dst ef.v λtm=>k ⟨tm,st.hp⟩
 | false=>hard ef.ok <|
  match ef.new with
  | none=>frc (zj ef o.dst (zW o) st) k
  | some b=>hard (o.dst.isSome && zh (zW o) b) (frc (zj ef o.dst (zW o) (clear (zW o) st)) k)
def stepFX(E:Env)(X:XC)(F:XF)(loud:Bool)(may:Option Nat)(o:Oper)(st:St)(k:St->Tr):Tr :=
 opX E X F o st.tm st.hp λef=>match ef.quiet with
 | true=>putK' st.tm o.dst ef.v λtm=>k ⟨tm,st.hp⟩
 | false=>hard (ef.ok && (loud || (ef.upd.isNone && (ef.kil.isNone || ef.kil == may)))) <|
  match ef.new with
  | none=>frc (zj ef o.dst (zW o) st) k
  | some b=>hard (o.dst.isSome && zh (zW o) b && (slot st.hp (zW o)).isNone) (frc (zj ef o.dst (zW o) st) k)
def zCk(E:Env)(X:XC)(F:XF)(ops:List Oper):List Oper->St->(St->Tr)->Tr
 | [],st,K=>K st
 | o :: r,st,K=>zIW ops o st.tm λg tm=>match g with
  | true=>zIO E X F o { st with tm } λst'=>zCk E X F ops r st' K
  | false=>zCk E X F ops r { st with tm:=jh tm o.dst (.d (.tup [])) } K
def qQ(E:Env)(X:XC)(F:XF)(ops:List Oper):List (Oper×Bool)->St->(St->Tr)->Tr
 | [],st,K=>K st
 | (o,pv) :: r,st,K=>zIW ops o st.tm λg tm=>match g with
  | true=>match pv with
   | true=>zIO E X F o { st with tm } λst'=>qQ E X F ops r st' K
   | false=>stepFX E X F (cls ops o.op).loud (qa ops o.op) o { st with tm } λst'=>qQ E X F ops r st' K
  | false=>qQ E X F ops r { st with tm:=jh tm o.dst (.d (.tup [])) } K
def frcBL:List Bool->(List Bool->Tr)->Tr
 | [],k=>k []
 | true :: r,k=>frcBL r λl=>k (true :: l)
 | false :: r,k=>frcBL r λl=>k (false :: l)
def pivots(ops:List Oper):List Bool:=(List.range ops.length).map λi=>pivot ops i
def zBc(E:Env)(X:XC)(F:XF)(ops:List Oper)(draw:Bool)(st:St)(K:St->Tr):Tr :=
 match draw with
 | false=>zCk E X F ops ops st K
 | true=>match zAK ops with
  | true=>frcBL (pivots ops) λpv=>frc (clearL (anews ops) st) λst=>qQ E X F ops (ops.zip pv) st K
  | false=>hard (zEk ops) (frcBL (pivots ops) λpv=>frc (clearL (anews ops) st) λst=>qQ E X F ops (ops.zip pv) st λst=>hard (lsOK ops st.tm) (K st))
def zBY(f:St->Tr)(K:Ex->St->Tr):Ex->St->Tr
 | .normal,st=>f st
 | e,st=>K e st
def zId(id:Nat)(K:Ex->St->Tr):Ex->St->Tr
 | .exit i,st=>match i == id with | true=>K .normal st | false=>K (.exit i) st
 | e,st=>K e st
def zw:Code->Nat
 | .seq a b=>zw a+zw b
 | .cond _ a b=>zw a+zw b
 | .block _ c=>zw c
 | .scope c=>zw c
 | .loop c=>zw c+1
 | _=>0
def jt:Code->Nat
 | .seq a b=>jt a+jt b+1
 | .cond _ a b=>jt a+jt b
 | .block _ c=>jt c
 | .scope c=>jt c
 | .loop c=>jt c
 | _=>0
def reach(hp:List (Option OB)):Nat->AV->List Nat
 | 0,_=>[]
 | n+1,v=>match v with
  | .own b _ _ _=>b :: (match slot hp b with | some ⟨_,.ac _ xs⟩=>xs.flatMap (reach hp n) | _=>[])
  | .ptr b _ _ _=>b :: (match slot hp b with | some ⟨_,.ac _ xs⟩=>xs.flatMap (reach hp n) | _=>[])
  | .omp b=>[b]
  | .it b=>[b]
  | .agg _ fs=>fs.flatMap (reach hp n)
  | .fn _ a c=>a.flatMap (reach hp n)++c.flatMap (reach hp n)
  | _=>[]
def zEr(live:List Nat):Nat->List AV->List AV
 | _,[]=>[]
 | i,v :: r=>(match live.contains i with | true=>v | false=>.undef) :: zEr live (i+1) r
def zIV(ss:List Nat):Nat->List (Option OB)->List (Option OB)
 | _,[]=>[]
 | b,o :: r=>(match ss.contains b with | true=>o | false=>none) :: zIV ss (b+1) r
def forget(live:List Nat)(st:St):St :=
 { tm:=zEr live 0 st.tm,hp:=zIV ((zEr live 0 st.tm).flatMap (reach st.hp zp)) 0 st.hp }
def setTm(st:St)(o:Operand)(b:Bool):St :=
 match o with
 | .tmp t=>{ st with tm:=st.tm.set t (.d (.bool b)) }
 | _=>st
def Jw(E:Env)(X:XC)(F:XF):Code->Nat->Nat->St->(Ex->St->Tr)->Tr
 | .skip,_,_,st,K=>K .normal st
 | .label _,_,_,st,K=>K .normal st
 | .region _ ops draw,_,_,st,K=>zBc E X F ops.toList draw st (K .normal)
 | .seq a b,n,q,st,K=>match F.cuts.lookup q with
  | none=>Jw E X F a n (q+1) st (zBY (λst'=>Jw E X F b (n+zw a) (q+1+jt a) st' K) K)
  | some live=>Jw E X F a n (q+1) st (zBY (λst'=>frc (forget live st') (.goto (1000+q))) K)
 | .cond c a b,n,q,st,K=>jL (evO E st.tm c) λv=>jL (asB v) λt =>
   .ifB t (Jw E X F a n q (setTm st c true) K) (Jw E X F b (n+zw a) (q+jt a) (setTm st c false) K)
 | .block id c,n,q,st,K=>Jw E X F c n q st (zId id K)
 | .scope c,n,q,st,K=>Jw E X F c n q st K
 | .loop _,n,_,st,_=>frc (forget (F.live.getD n []) st) (.goto n)
 | .exit id,_,_,st,K=>K (.exit id) st
 | .ret,_,_,st,K=>K .ret st
 | _,_,_,_,_=>.fail
def inA(j n q:Nat):Bool:=match decide (j<1000) with | true=>decide (j<n) | false=>decide (j<1000+q)
def JX(E:Env)(X:XC)(F:XF)(j:Nat):Code->Nat->Nat->(Ex->St->Tr)->St->Tr
 | .seq a b,n,q,K,st=>match decide (j=1000+q) with
  | true=>Jw E X F b (n+zw a) (q+1+jt a) st K
  | false=>match inA j (n+zw a) (q+1+jt a) with
   | true=>match F.cuts.lookup q with
    | none=>JX E X F j a n (q+1) (zBY (λst'=>Jw E X F b (n+zw a) (q+1+jt a) st' K) K) st
    | some live=>JX E X F j a n (q+1) (zBY (λst'=>frc (forget live st') (.goto (1000+q))) K) st
   | false=>JX E X F j b (n+zw a) (q+1+jt a) K st
 | .cond _ a b,n,q,K,st=>match inA j (n+zw a) (q+jt a) with
  | true=>JX E X F j a n q K st
  | false=>JX E X F j b (n+zw a) (q+jt a) K st
 | .block id c,n,q,K,st=>JX E X F j c n q (zId id K) st
 | .scope c,n,q,K,st=>JX E X F j c n q K st
 | .loop c,n,q,K,st=>match decide (j=n) with
  | true=>Jw E X F c (n+1) q st (zBY (λst'=>frc (forget (F.live.getD n []) st') (.goto n)) K)
  | false=>JX E X F j c (n+1) q (zBY (λst'=>frc (forget (F.live.getD n []) st') (.goto n)) K) st
 | _,_,_,_,_=>.fail
def freshX(st:St)(v:AV):Tr :=
 match v with
 | .d .nl=>.ret (.val .nl)
 | .own b off len sz=>match slot st.hp b with
  | some ⟨false,.dc s xs⟩=>hard (s == sz && off == 0) (gd (decide (len=xs.length)) (.ret (.fresh sz xs)))
  | _=>.fail
 | _=>.fail
def finX(E:Env)(fresh:Bool)(fn:Func)(st:St):Tr :=
 jL (zDx E st fn.results.toList) λvs=>match vs with
  | [v]=>match fresh with
   | true=>freshX st v
   | false=>zAI st.hp zp v λx=>hard (!x.isTup) (.ret (.val (cnRes E fn x)))
  | vs=>zBh (zAI st.hp zp) vs λxs=>hard (!fresh && zIT xs) (.ret (.val (cnRes E fn (.tup xs))))
def zHL(E:Env)(fresh:Bool)(fn:Func):Ex->St->Tr
 | .exit _,_=>.fail
 | _,st=>finX E fresh fn st
def zIC:DV->Bool | .dp _=>true | _=>false
def zGY(E:Env)(F:XF)(fn:Func)(args:List DV)(k:St->Tr):Tr :=
 match F.caps with
 | 0=>gd (zS (zH E shD) fn.params.toList args)
   (k { tm:=(zD0 (zIG E shD) fn.params.toList args 0).map .d++List.replicate (fn.ntmps - fn.params.toList.length) .undef,hp:=List.replicate fn.ntmps none })
 | c+1=>gd (zS (zH E shD) fn.params.toList (args.take fn.params.toList.length) && decide ((args.drop fn.params.toList.length).length=c+1) && (args.drop fn.params.toList.length).all zIC)
   (k { tm:=(zD0 (zIG E shD) fn.params.toList (args.take fn.params.toList.length) 0++(args.drop fn.params.toList.length).map λx=>DV.dp (undp x)).map .d++List.replicate (fn.ntmps - (fn.params.toList.length+(c+1))) .undef,hp:=List.replicate fn.ntmps none })
def funX(E:Env)(X:XC)(f:FuncId)(fn:Func)(c:Code)(args:List DV):Tr :=
 hard (decide (fn.params.toList.length+(X.fx f).caps<=fn.ntmps) && decide (zw c<=1000)) (zGY E (X.fx f) fn args λst=>Jw E X (X.fx f) c 0 0 st (zHL E (E.fresh f) fn))
def zEo(E:Env)(X:XC)(f:FuncId)(fn:Func)(c:Code)(j:Nat)(st:St):Tr :=
 JX E X (X.fx f) j c 0 0 (zHL E (E.fresh f) fn) st
def goX(call:FuncId->List DV->Option CR)(head:Nat->St->Tr):Nat->Nat->St->Option CR
 | 0,_,_=>none
 | n+1,j,st=>run call (goX call head n) (head j st)
end Go.Am
namespace Go.Am
open Go.Proofs
open Go
section
variable{E:Env}{call:FuncId->List DV->Option CR}{go:Nat->St->Option CR}{r:CR}
theorem z7{b:Bool}{t:Tr}(h:run call go (gd b t)=some r):b=true/\run call go t=some r:=by
 cases b
 ·simp[gd,run,ifO] at h
 ·exact⟨rfl,by simpa[gd,run,ifO] using h⟩
theorem zg{b:Bool}{t:Tr}(h:run call go (hard b t)=some r):b=true/\run call go t=some r:=by
 cases b
 ·simp[hard,run] at h
 ·exact⟨rfl,h⟩
theorem zBG{ox oy:Operand}{x y:DV}(h:Js ox=true\/Js oy=true):zAB ox oy x y=true:=by
 unfold zAB;split
 ·rcases h with h | h <;> simp[h]
 ·rfl
theorem run_hardI{ox oy:Operand}{x y:DV}{t:Tr}(h:run call go (hardI ox oy x y t)=some r):zAB ox oy x y=true/\run call go t=some r:=by
 unfold hardI at h;cases h1:Js ox with
 | true=>rw[h1] at h;exact⟨zBG (.inl h1),h⟩
 | false =>
  rw[h1] at h;cases h2:Js oy with
  | true=>rw[h2] at h;exact⟨zBG (.inr h2),h⟩
  | false=>rw[h2] at h;exact zg h
theorem zU{α:Type}{o:Option α}{k:α->Tr}(h:run call go (jL o k)=some r):∃a,o=some a/\run call go (k a)=some r:=by
 cases o
 ·simp[jL,run] at h
 ·exact⟨_,rfl,h⟩
theorem QR{b:Bool}{t e:Tr}(h:run call go (.ifB b t e)=some r):(b=true/\run call go t=some r)\/(b=false/\run call go e=some r):=by
 cases b
 ·exact .inr ⟨rfl,by simpa[run,ifO] using h⟩
 ·exact .inl ⟨rfl,by simpa[run,ifO] using h⟩
theorem za{P:Prop}(h:run call go .fail=some r):P:=by simp[run] at h
theorem QS{f:FuncId}{a:List DV}{kv:DV->Tr}{kf:Nat->List DV->Tr}(h:run call go (.call f a kv kf)=some r) :
  (∃x,call f a=some (.val x)/\run call go (kv x)=some r)\/(∃s xs,call f a=some (.fresh s xs)/\run call go (kf s xs)=some r):=by
 simp only[run,zI] at h;split at h
 ·rename_i x hx;exact .inl ⟨x,hx,h⟩
 ·rename_i s xs hx;exact .inr ⟨s,xs,hx,h⟩
 ·cases h
theorem zGR{xs:List DV}{i:Nat}(h:i<xs.length):xs[i]? = some (nth xs i):=by unfold nth;rw[List.getElem?_eq_getElem h]
theorem zJr{f:TypeId->DV->Bool}{g:TypeId->DV->DV}(hfg:∀t x,f t x=true->g t x=x):∀(ts:List TypeId) (xs pre:List DV),zS f ts xs=true->zD0 g ts (pre++xs) pre.length=xs
 | [],[],pre,h=>rfl
 | t :: ts,x :: xs,pre,h=>by
  simp only[zS,Bool.and_eq_true] at h;have e:nth (pre++x :: xs) pre.length=x:=by simp[nth]
  have:=zJr hfg ts xs (pre++[x]) h.2;simp only[List.append_assoc,List.singleton_append,List.length_append,List.length_singleton] at this;simp only[zD0,e,hfg t x h.1,this]
 | [],_ :: _,_,h=>by simp[zS] at h
 | _ :: _,[],_,h=>by simp[zS] at h
theorem Q6{f:TypeId->DV->Bool}{g:TypeId->DV->DV}(hfg:∀t x,f t x=true->g t x=x){ts:List TypeId}{xs:List DV}(h:zS f ts xs=true):zD0 g ts xs 0=xs :=
 zJr hfg ts xs [] h
theorem zDC{f:TypeId->DV->Bool}:∀{ts:List TypeId} {xs:List DV},zS f ts xs=true->xs.length=ts.length
 | [],[],_=>rfl
 | t :: ts,x :: xs,h=>by
  simp only[zS,Bool.and_eq_true] at h;simp[zDC h.2]
 | [],_ :: _,h=>by simp[zS] at h
 | _ :: _,[],h=>by simp[zS] at h
theorem zAC:∀(n:Nat) (t:TypeId) (x:DV),zH E n t x=true->zIG E n t x=x
 | 0,t,x,h=>by simp[zH] at h
 | n+1,t,x,h=>by
  simp only[zH] at h;simp only[zIG];cases hd:E.D t with
  | none=>simp[hd] at h
  | some td =>
   rw[hd] at h;simp only at h ⊢;cases hk:td.k <;> rw[hk] at h <;> simp only at h ⊢
   case int k=>cases x <;> simp only[beq_iff_eq] at h <;> first | cases h;done | (subst h;rfl)
   case bool=>cases x <;> simp only at h <;> first | cases h;done | rfl
   case str=>cases x <;> simp only at h <;> first | cases h;done | rfl
   case ptr=>cases x <;> simp only at h <;> first | cases h;done | rfl
   case slice e =>
    cases he:E.D e with
    | none=>simp[he] at h
    | some ed =>
     rw[he] at h;simp only at h ⊢;cases x <;> simp only[beq_iff_eq] at h <;> first | cases h;done | (subst h;rfl)
   case map=>cases x <;> simp only at h <;> first | cases h;done | rfl
   case struct tag =>
    cases x <;> simp only[Bool.and_eq_true,beq_iff_eq] at h <;> first | cases h;done | skip
    obtain⟨h1,h2⟩:=h;subst h1;simp only[flds];rw[Q6 (λt x=>zAC n t x) h2]
   case array tag m e =>
    cases x <;> simp only[Bool.and_eq_true,beq_iff_eq] at h <;> first | cases h;done | skip
    obtain⟨h1,h2⟩:=h;subst h1;rfl
   case func=>cases x <;> simp only at h <;> first | cases h;done | rfl
theorem has_fits{n:Nat}{t:TypeId}{x:DV}{td:TD}(h:zH E n t x=true)(hd:E.D t=some td):fits td (.d x)=true/\x.isTup=false:=by
 cases n with
 | zero=>simp[zH] at h
 | succ n =>
  simp only[zH,hd] at h;cases hk:td.k <;> rw[hk] at h <;> simp only at h <;> simp only[fits,hk]
  case slice e =>
   cases he:E.D e with
   | none=>simp[he] at h
   | some ed=>rw[he] at h;cases x <;> first | exact⟨rfl,rfl⟩ | simp at h
  case struct tag=>cases x <;> first | (simp only[Bool.and_eq_true] at h;exact⟨h.1,rfl⟩) | simp at h
  case array tag m e=>cases x <;> first | (simp only[Bool.and_eq_true] at h;exact⟨h.1,rfl⟩) | simp at h
  all_goals cases x <;> first | exact⟨rfl,rfl⟩ | simp at h
theorem zDE{blk:Blk}{sz e:Nat}{k:AV->Tr}(h:run call go (getBX blk sz e k)=some r):∃v,blk.get sz e=some v/\run call go (k v)=some r:=by
 unfold getBX at h;split at h
 ·obtain⟨h1,h⟩:=zg h;obtain⟨h2,h⟩:=z7 h;simp only[beq_iff_eq] at h1;simp only[decide_eq_true_eq] at h2;exact⟨_,by simp only[Blk.get,h1,if_true,zGR h2],h⟩
 ·obtain⟨h1,h⟩:=zg h;obtain⟨v,h2,h⟩:=zU h;simp only[beq_iff_eq] at h1;exact⟨v,by simp only[Blk.get,h1,if_true,h2],h⟩
 ·exact za h
theorem zCY{tag i:Nat}{x:DV}(h:jQ tag i x=true):∃fs,x=.agg tag fs/\i<fs.length:=by
 cases x <;> simp only[jQ] at h <;> first | cases h;done | skip
 simp only[Bool.and_eq_true,beq_iff_eq,decide_eq_true_eq] at h;obtain⟨h1,h2⟩:=h;subst h1;exact⟨_,rfl,h2⟩
theorem zDD{tag i:Nat}{x:DV}(h:jQ tag i x=true):zBm tag i (.d x)=some (.d (nth (flds x) i)):=by obtain⟨fs,rfl,h2⟩:=zCY h;simp only[zBm,if_true,flds,zGR h2]
theorem zA1:∀{p:List (Nat×Nat)} {v:AV} {k:AV->Tr},run call go (zIX p v k)=some r->∃x,zDo p v=some x/\run call go (k x)=some r
 | [],v,k,h=>⟨v,rfl,h⟩
 | (tag,i) :: p,v,k,h=>by
  simp only[zIX] at h;split at h
  ·obtain⟨h1,h⟩:=z7 h;obtain⟨x,h2,h⟩:=zA1 h;exact⟨x,by simp only[zDo,zDD h1,h2],h⟩
  ·obtain⟨h1,h⟩:=zg h;obtain⟨v,h2,h⟩:=zU h;obtain⟨x,h3,h⟩:=zA1 h;simp only[beq_iff_eq] at h1;exact⟨x,by simp only[zDo,zBm,h1,if_true,h2,h3],h⟩
  ·exact za h
theorem szX_run{l:List Nat}{i n:Nat}{t:Tr}(h:run call go (szX l i n t)=some r):n=l.getD i 0/\run call go t=some r:=by
 unfold szX at h;split at h
 ·rename_i hu;obtain⟨h1,h⟩:=z7 h;simp only[decide_eq_true_eq] at h1;simp only[unif,Bool.and_eq_true,List.all_eq_true] at hu;have:=Nat.eq_of_beq_eq_true (hu.2 _ (List.getElem_mem h1));refine⟨?_,h⟩;rw[List.getD_eq_getElem?_getD,List.getElem?_eq_getElem h1];exact this.symm
 ·obtain⟨h1,h⟩:=zg h;exact⟨of_decide_eq_true h1,h⟩
theorem zC5{L:Nat->List Nat}:∀{p:List (Nat×Nat)} {new v:AV} {k:AV->Tr},run call go (setPX L p new v k)=some r->∃y,zG3 L p new v=some y/\run call go (k y)=some r
 | [],new,v,k,h=>⟨new,rfl,h⟩
 | (tag,i) :: p,new,v,k,h=>by
  simp only[setPX] at h;split at h
  ·rename_i x;obtain⟨h1,h⟩:=z7 h;have hg:=zDD h1;obtain⟨fs,rfl,e2⟩:=zCY h1;obtain⟨y,h2,h⟩:=zC5 h;obtain⟨h3,h⟩:=szX_run h;have fin:∀{z:AV},setF tag i y (.d (.agg tag fs))=some z->run call go (k z)=some r->∃y,zG3 L ((tag,i) :: p) new (.d (.agg tag fs))=some y/\run call go (k y)=some r:=λhz hk =>
    ⟨_,by simp only[zG3,hg,h2,h3,if_true,hz],hk⟩
   cases y <;> exact fin (by simp only[setF,if_true,e2,flds]) h
  ·rename_i t fs;obtain⟨h1,h⟩:=zg h;obtain⟨x,h2,h⟩:=zU h;obtain⟨y,h3,h⟩:=zC5 h;obtain⟨h4,h⟩:=zg h;obtain⟨z,h5,h6⟩:=zU h;simp only[beq_iff_eq] at h1;subst h1;simp only[decide_eq_true_eq] at h4;exact⟨z,by simp only[zG3,zBm,if_true,h2,h3,h4,h5],h6⟩
  ·exact za h
theorem setBX_run{blk:Blk}{sz e:Nat}{v v0:AV}(hg:blk.get sz e=some v0){k:Blk->Tr}(h:run call go (setBX blk e v k)=some r):∃b,blk.set sz e v=some b/\run call go (k b)=some r:=by
 cases blk with
 | dc s xs =>
  simp only[Blk.get] at hg;split at hg
  case isFalse=>cases hg
  rename_i hs;have hlt:e<xs.length:=by
   split at hg
   ·rename_i x hx;exact(List.getElem?_eq_some_iff.1 hx).1
   ·cases hg
  simp only[setBX] at h;cases v <;> exact⟨_,by simp only[Blk.set,hs,if_true,hlt] <;> rfl,h⟩
 | ac s xs =>
  simp only[Blk.get] at hg;split at hg
  case isFalse=>cases hg
  rename_i hs;have hlt:e<xs.length:=(List.getElem?_eq_some_iff.1 hg).1;simp only[setBX] at h;exact⟨_,by simp only[Blk.set,hs,if_true,hlt] <;> rfl,h⟩
 | mp _ _=>simp[Blk.get] at hg
 | sit _ _=>simp[Blk.get] at hg
theorem zH5{td:TD}{asis:Bool}{t:TypeId}{v:AV}(hd:E.D t=some td){k:AV->Tr}(h:run call go (shX E td asis t v k)=some r):fits td v=true/\run call go (k v)=some r:=by
 unfold shX at h;split at h
 ·exact zg h
 ·split at h
  ·obtain⟨h1,h⟩:=z7 h;rw[zAC _ _ _ h1] at h;exact⟨(has_fits h1 hd).1,h⟩
  ·exact zg h
theorem loadX_run{X:XC}{F:XF}{t:TypeId}{hp:List (Option OB)}{a:AV}{k:Eff->Tr}(h:run call go (loadX E X F t hp a k)=some r):∃ef,JJ E t hp a=some ef/\run call go (k ef)=some r:=by
 unfold loadX at h;obtain⟨td,hd,h⟩:=zU h;split at h
 ·obtain⟨h1,h⟩:=zH5 hd h;exact⟨_,by simp only[JJ,hd,zG,h1,zR] <;> rfl,h⟩
 ·obtain⟨ob,h1,h⟩:=zU h;obtain⟨v,h2,h⟩:=zDE h;obtain⟨x,h3,h⟩:=zA1 h;obtain⟨h4,h⟩:=zH5 hd h;exact⟨_,by simp only[JJ,hd,zG,h1,h2,h3,h4,zR] <;> rfl,h⟩
 ·exact za h
theorem storeX_run{t:TypeId}{hp:List (Option OB)}{a x:AV}{k:Eff->Tr}(h:run call go (storeX E t hp a x k)=some r):∃ef,J8 E t hp a x=some ef/\run call go (k ef)=some r:=by
 unfold storeX at h;obtain⟨td,hd,h⟩:=zU h;split at h
 ·obtain⟨ob,h1,h⟩:=zU h;obtain⟨h2,h⟩:=zg h;obtain⟨h3,h⟩:=zg h;obtain⟨v,h4,h⟩:=zDE h;obtain⟨y,h5,h⟩:=zC5 h;obtain⟨h6,h⟩:=zg h;obtain⟨b,h7,h⟩:=setBX_run h4 h;exact⟨_,by simp only[J8,hd,zG,h1,h2,h3,h4,h5,h6,h7,zR],h⟩
 ·exact za h
theorem zEH{t:TypeId}{dst:Nat}{l c:AV}{k:Eff->Tr}(h:run call go (zBi E t dst l c k)=some r):∃ef,Jh E t dst l c=some ef/\run call go (k ef)=some r:=by
 unfold zBi at h;obtain⟨td,hd,h⟩:=zU h;split at h
 ·rename_i e hk;obtain⟨ed,he,h⟩:=zU h;obtain⟨n,hn,h⟩:=zU h;obtain⟨m,hm,h⟩:=zU h;obtain⟨h1,h⟩:=zg h;obtain⟨h2,h⟩:=z7 h;simp only[List.length_replicate] at h;simp only[decide_eq_true_eq] at h1 h2;exact⟨_,by simp only[Jh,hd,zG,hk,he,hn,hm,decide_eq_true (And.intro h1 h2),zR],h⟩
 ·exact za h
theorem zEL{t:TypeId}{x:AV}{i:Nat}{k:Eff->Tr}(h:run call go (zBp E t x i k)=some r):∃ef,jm E t x i=some ef/\run call go (k ef)=some r:=by
 unfold zBp at h;obtain⟨td,hd,h⟩:=zU h;split at h
 ·rename_i tag hk;split at h
  ·obtain⟨h1,h⟩:=zg h;exact⟨_,by simp only[jm,hd,zG,hk,h1,zR] <;> rfl,h⟩
  ·obtain⟨h1,h⟩:=z7 h;obtain⟨fs,rfl,e2⟩:=zCY h1;exact⟨_,by simp only[jm,hd,zG,hk,if_true,zGR e2,flds] <;> rfl,h⟩
  ·exact za h
 ·exact za h
theorem zEJ{t:TypeId}{x ix:AV}{k:Eff->Tr}(h:run call go (zBj E t x ix k)=some r):∃ef,jU E t x ix=some ef/\run call go (k ef)=some r:=by
 unfold zBj at h;obtain⟨td,hd,k1⟩:=zU h;obtain⟨i,hi,k2⟩:=zU k1;clear h k1;split at k2
 ·rename_i e hk;obtain⟨ed,he,h⟩:=zU k2;clear k2;split at h
  ·rename_i sz xs;obtain⟨h1,h⟩:=zg h;obtain⟨h2,h⟩:=z7 h;simp only[beq_iff_eq] at h1;simp only[decide_eq_true_eq] at h2;have hlt:i.toNat<xs.length:=by omega
   refine⟨_,?_,h⟩;simp only[jU,hd,zG,hi,hk,he,decide_eq_true (And.intro h1 h2.1),zR,zGR hlt] <;> rfl
  ·obtain⟨h1,h⟩:=zg h;obtain⟨h2,h⟩:=z7 h;simp only[beq_iff_eq] at h1;simp only[decide_eq_true_eq] at h2;exact⟨_,by simp only[jU,hd,zG,hi,hk,he,decide_eq_true (And.intro h1 h2),zR] <;> rfl,h⟩
  ·exact za h
 ·rename_i tag n e hk;have h:=k2;clear k2;split at h
  ·obtain⟨h2,h⟩:=z7 h;exact⟨_,by simp only[jU,hd,zG,hi,hk,h2,zR] <;> rfl,h⟩
  ·obtain⟨h2,h⟩:=z7 h;obtain⟨h1,h⟩:=z7 h;obtain⟨fs,rfl,e2⟩:=zCY h1;exact⟨_,by simp only[jU,hd,zG,hi,hk,if_true,h2,zR,zGR e2,flds] <;> rfl,h⟩
  ·exact za h
 ·exact za k2
theorem indexX_run{t:TypeId}{x ix:AV}{k:Eff->Tr}(h:run call go (indexX E t x ix k)=some r):∃ef,Y9 E t x ix=some ef/\run call go (k ef)=some r:=by
 unfold indexX at h;obtain⟨td,hd,k1⟩:=zU h;obtain⟨i,hi,k2⟩:=zU k1;clear h k1;split at k2
 ·rename_i tag n e hk;obtain⟨ed,he,h⟩:=zU k2;obtain⟨h0,h⟩:=z7 h;split at h
  ·obtain⟨h1,h⟩:=z7 h;obtain⟨h2,h⟩:=zH5 he h;exact⟨_,by simp only[Y9,hd,zG,hi,hk,he,h0,zR,zDD h1,h2] <;> rfl,h⟩
  ·obtain⟨h1,h⟩:=zg h;obtain⟨v,h2,h⟩:=zU h;obtain⟨h3,h⟩:=zg h;simp only[beq_iff_eq] at h1;exact⟨_,by simp only[Y9,hd,zG,hi,hk,he,h0,zR,zBm,h1,if_true,h2,h3] <;> rfl,h⟩
  ·exact za h
 ·rename_i hk;have h:=k2;clear k2;split at h
  ·rename_i s;obtain⟨h1,h⟩:=z7 h;simp only[decide_eq_true_eq] at h1;have hlt:i.toNat<s.size:=by omega
   refine⟨_,?_,h⟩;have e:s[i.toNat]? = some (s[i.toNat]?.getD 0):=by rw[getElem?_pos s i.toNat hlt];rfl
   simp only[Y9,hd,zG,hi,hk,decide_eq_true h1.1,zR];rw[e];rfl
  ·exact za h
 ·exact za k2
theorem qK{d:Nat}{o:Option AV}{k:Nat->Tr}(h:run call go (zCH d o k)=some r):∃n,bound? d o=some n/\run call go (k n)=some r:=by
 unfold zCH at h;split at h
 ·exact⟨d,rfl,h⟩
 ·obtain⟨i,hi,h⟩:=zU h;obtain⟨h1,h⟩:=z7 h;exact⟨i.toNat,by simp only[bound?,hi,zG,h1,zR],h⟩
theorem sliceX_run{t:TypeId}{x:AV}{lo hi mx:Option AV}{k:Eff->Tr}(h:run call go (sliceX E t x lo hi mx k)=some r):∃ef,YW E t x lo hi mx=some ef/\run call go (k ef)=some r:=by
 unfold sliceX at h;obtain⟨td,hd,h⟩:=zU h;split at h
 ·exact za h
 obtain⟨l,hl,h⟩:=qK h;split at h
 ·rename_i hk;split at h
  ·obtain⟨m,hm,h⟩:=qK h;obtain⟨h1,h⟩:=z7 h;simp only[decide_eq_true_eq] at h1;refine⟨_,?_,h⟩;simp only[YW,hd,zG,hl,hk,hm,h1.1,h1.2,Option.isNone_none,and_self,decide_true,zR];rfl
  ·exact za h
 ·rename_i e hk;obtain⟨ed,he,h⟩:=zU h;split at h
  ·obtain⟨h0,h⟩:=zg h;obtain⟨m,hm,h⟩:=qK h;obtain⟨h1,h⟩:=z7 h;simp only[beq_iff_eq] at h0;simp only[decide_eq_true_eq] at h1;refine⟨_,?_,h⟩;simp only[YW,hd,zG,hl,hk,he,hm,h0,h1.1,h1.2,and_self,decide_true,zR];rfl
  ·obtain⟨m,hm,h⟩:=qK h;obtain⟨h1,h⟩:=z7 h;simp only[decide_eq_true_eq] at h1;refine⟨_,?_,h⟩;simp only[YW,hd,zG,hl,hk,he,hm,h1.1,h1.2,and_self,decide_true,zR];rfl
  ·obtain⟨h0,h⟩:=zg h;obtain⟨m,hm,h⟩:=qK h;obtain⟨h1,h⟩:=z7 h;simp only[beq_iff_eq] at h0;simp only[decide_eq_true_eq] at h1;refine⟨_,?_,h⟩;simp only[YW,hd,zG,hl,hk,he,hm,h0,h1.1,h1.2,Option.isNone_none,and_self,decide_true,zR];rfl
  ·exact za h
 ·exact za h
theorem mapX_run{hp:List (Option OB)}{m:AV}{k:List DV->List DV->Tr}(h:run call go (mapX hp m k)=some r):∃mv,Q0 hp m=some mv/\run call go (k mv.1 mv.2)=some r:=by
 unfold mapX at h;split at h
 ·exact⟨_,rfl,h⟩
 ·exact⟨_,rfl,h⟩
 ·split at h
  ·rename_i hs;exact⟨_,by simp only[Q0,hs] <;> rfl,h⟩
  ·exact za h
 ·exact za h
theorem zAW{α:Type}{o:Option α}(h:o.isSome=true)(d:α):o=some (o.getD d):=by cases o <;> simp at h ⊢
theorem zI0{t:TypeId}{hp:List (Option OB)}{m key:AV}{ok:Bool}{k:Eff->Tr}(h:run call go (zIA E t hp m key ok k)=some r):∃ef,JN E t hp m key ok=some ef/\run call go (k ef)=some r:=by
 unfold zIA at h;obtain⟨td,hd,k1⟩:=zU h;clear h;split at k1
 ·rename_i kt et hk;obtain⟨kd,hkd,k2⟩:=zU k1;obtain⟨ed,hed,h⟩:=zU k2;clear k1 k2;split at h
  ·rename_i x;obtain⟨h1,h⟩:=zg h;obtain⟨mv,h2,h⟩:=mapX_run h;obtain⟨h3,h⟩:=z7 h;obtain⟨q,hq⟩:=Option.isSome_iff_exists.1 h3;simp only[hq,Option.getD_some] at h;cases q with
   | some v =>
    rcases QR h with ⟨_,h⟩ | ⟨h4,h⟩
    ·obtain⟨h5,h⟩:=z7 h;simp only[zAC _ _ _ h5] at h;exact⟨_,by simp only[JN,hd,zG,hk,hkd,hed,h1,zR,h2,hq] <;> rfl,h⟩
    ·simp at h4
   | none =>
    rcases QR h with ⟨h4,h⟩ | ⟨_,h⟩
    ·simp at h4
    ·exact⟨_,by simp only[JN,hd,zG,hk,hkd,hed,h1,zR,h2,hq] <;> rfl,h⟩
  ·exact za h
 ·exact za k1
theorem zAZ{t:TypeId}{hp:List (Option OB)}{m key v:AV}{k:Eff->Tr}(h:run call go (Qz E t hp m key v k)=some r):∃ef,jG E t hp m key v=some ef/\run call go (k ef)=some r:=by
 unfold Qz at h;obtain⟨td,hd,h⟩:=zU h;split at h
 ·rename_i kt et hk;obtain⟨kd,hkd,h⟩:=zU h;obtain⟨ed,hed,h⟩:=zU h;split at h
  ·obtain⟨h1,h⟩:=zg h;obtain⟨h2,h⟩:=zg h;split at h
   ·rename_i hs;obtain⟨h3,h⟩:=z7 h;have e3:=zAW h3 ([],[]);refine⟨_,?_,h⟩;simp only[jG,hd,zG,hk,hkd,hed,h1,h2,zR,hs];rw[e3];rfl
   ·exact za h
  ·exact za h
 ·exact za h
theorem nextX_run{hp:List (Option OB)}{s:Bool}{v:AV}{k:Eff->Tr}(h:run call go (nextX hp s v k)=some r):∃ef,zAL hp s v=some ef/\run call go (k ef)=some r:=by
 unfold nextX at h;split at h
 ·obtain⟨h1,h⟩:=zg h;split at h
  ·rename_i hs;rcases QR h with ⟨h2,h⟩ | ⟨h2,h⟩
   ·simp only[decide_eq_true_eq] at h2;exact⟨_,by simp only[zAL,h1,zR,hs,h2,if_true],h⟩
   ·simp only[decide_eq_false_iff_not] at h2;exact⟨_,by simp only[zAL,h1,zR,hs,h2,if_false] <;> rfl,h⟩
  ·exact za h
 ·exact za h
theorem Ju{f:AV->(DV->Tr)->Tr}{g:AV->Option DV}(hf:∀v k,run call go (f v k)=some r->∃x,g v=some x/\run call go (k x)=some r) :
  ∀{l:List AV} {k:List DV->Tr},run call go (zBh f l k)=some r->∃xs,Q2 g l=some xs/\run call go (k xs)=some r
 | [],k,h=>⟨[],rfl,h⟩
 | v :: l,k,h=>by simp only[zBh] at h;obtain⟨x,h1,h⟩:=hf _ _ h;obtain⟨xs,h2,h⟩:=Ju hf h;exact⟨x :: xs,by simp only[Q2,h1,h2],h⟩
theorem JR{hp:List (Option OB)}:∀(n:Nat) (v:AV) (k:DV->Tr),run call go (zAI hp n v k)=some r->∃x,snap hp n v=some x/\run call go (k x)=some r
 | 0,v,k,h=>by
  simp only[zAI] at h;split at h
  ·exact⟨_,by simp only[snap],h⟩
  ·exact za h
 | n+1,v,k,h=>by
  simp only[zAI] at h;split at h
  ·exact⟨_,by simp only[snap],h⟩
  ·split at h
   ·rename_i hs;obtain⟨h1,h⟩:=zg h;obtain⟨h2,h⟩:=z7 h;simp only[beq_iff_eq] at h1;simp only[decide_eq_true_eq] at h2;exact⟨_,by simp only[snap,hs,h1,h2,and_self,if_true],h⟩
   ·rename_i hs;obtain⟨h1,h⟩:=zg h;simp only[Bool.and_eq_true,beq_iff_eq,decide_eq_true_eq] at h1;obtain⟨ds,h2,h⟩:=Ju (λv k=>JR n v k) h
    exact⟨_,by simp only[snap,hs,h1.1,h1.2,and_self,if_true,h2],h⟩
   ·exact za h
  ·obtain⟨ob,h1,h⟩:=zU h;obtain⟨v,h2,h⟩:=zDE h;obtain⟨x,h3,h⟩:=zA1 h;obtain⟨y,h4,h⟩:=JR n x _ h;obtain⟨h5,h⟩:=zg h;simp only[Bool.not_eq_true'] at h5;exact⟨_,by simp only[snap,h1,h2,h3,h4,h5] <;> rfl,h⟩
  ·split at h
   ·rename_i hs;exact⟨_,by simp only[snap,hs],h⟩
   ·exact za h
  ·obtain⟨ds,h2,h⟩:=Ju (λv k=>JR n v k) h
   exact⟨_,by simp only[snap,h2],h⟩
  ·obtain⟨ds,h2,h⟩:=Ju (λv k=>JR n v k) h
   obtain⟨es,h3,h⟩:=Ju (λv k=>JR n v k) h
   exact⟨_,by simp only[snap,h2,h3],h⟩
  ·exact za h
theorem QN{hp:List (Option OB)}:∀vs:List AV,JV hp vs=Q2 (snap hp zp) vs
 | []=>rfl
 | v :: r=>by
  simp only[JV,Q2,QN r];cases snap hp zp v <;> simp only[bnd_none,zG]
  cases Q2 (snap hp zp) r <;> rfl
theorem zC4{hp:List (Option OB)}:∀{xs ys:List AV} {a b:List DV},JV hp xs=some a->JV hp ys=some b->JV hp (xs++ys)=some (a++b)
 | [],ys,a,b,h1,h2=>by simp only[JV,Option.some.injEq] at h1;subst h1;exact h2
 | x :: xs,ys,a,b,h1,h2=>by
  simp only[JV] at h1;cases hx:snap hp zp x with
  | none=>rw[hx] at h1;cases h1
  | some u =>
   rw[hx,zG] at h1;cases hs:JV hp xs with
   | none=>rw[hs] at h1;cases h1
   | some us =>
    rw[hs] at h1;simp only[zG,Option.some.injEq] at h1;subst h1;simp only[List.cons_append,JV,hx,zG,zC4 hs h2]
theorem snap_d{hp:List (Option OB)}(n:Nat)(x:DV):snap hp n (.d x)=some x:=by cases n <;> rfl
theorem sites_d{hp:List (Option OB)}(n:Nat)(x:DV):sites hp n (.d x)=[]:=by cases n <;> rfl
theorem zH4{hp:List (Option OB)}:∀xs:List DV,JV hp (xs.map .d)=some xs
 | []=>rfl
 | x :: xs=>by simp only[List.map_cons,JV,snap_d,zG,zH4 xs]
theorem zEa{hp:List (Option OB)}:∀xs ys:List AV,jR hp (xs++ys)=jR hp xs++jR hp ys
 | [],ys=>rfl
 | x :: xs,ys=>by simp only[List.cons_append,jR,zEa xs ys,List.append_assoc]
theorem zJL{hp:List (Option OB)}:∀xs:List DV,jR hp (xs.map .d)=[]
 | []=>rfl
 | x :: xs=>by simp only[List.map_cons,jR,sites_d,zJL xs,List.append_nil]
theorem zE2{hp:List (Option OB)}{sz:Nat}{v:AV}{k:List DV->List Nat->Tr}(h:run call go (zIa hp sz v k)=some r):∃el,jX hp sz v=some el/\run call go (k el.1 el.2)=some r:=by
 unfold zIa at h;split at h
 ·exact⟨_,rfl,h⟩
 ·obtain⟨h1,h⟩:=zg h;simp only[beq_iff_eq] at h1;exact⟨_,by simp only[jX,h1,if_true] <;> rfl,h⟩
 ·obtain⟨h1,h⟩:=zg h;simp only[beq_iff_eq] at h1;split at h
  ·rename_i hs;obtain⟨h2,h⟩:=zg h;obtain⟨h3,h⟩:=z7 h;simp only[beq_iff_eq] at h2;simp only[decide_eq_true_eq] at h3;exact⟨_,by simp only[jX,h1,if_true,hs,h2,h3,and_self] <;> rfl,h⟩
  ·rename_i hs;obtain⟨h2,h⟩:=zg h;simp only[Bool.and_eq_true,beq_iff_eq,decide_eq_true_eq] at h2;obtain⟨ds,h3,h⟩:=Ju (λv k=>JR zp v k) h
   exact⟨_,by simp only[jX,h1,if_true,hs,h2.1,h2.2,and_self,h3] <;> rfl,h⟩
  ·exact za h
 ·exact za h
theorem baseX_run{hp:List (Option OB)}{sz:Nat}{v:AV}{k:List DV->Option Nat->Tr}(h:run call go (baseX hp sz v k)=some r):∃bs,YK hp sz v=some bs/\run call go (k bs.1 bs.2)=some r:=by
 unfold baseX at h;split at h
 ·exact⟨_,rfl,h⟩
 ·obtain⟨h1,h⟩:=zg h;simp only[Bool.and_eq_true,beq_iff_eq] at h1;split at h
  ·rename_i hs;obtain⟨h2,h⟩:=zg h;obtain⟨h3,h⟩:=z7 h;simp only[beq_iff_eq] at h2;simp only[decide_eq_true_eq] at h3;exact⟨_,by simp only[YK,h1.1,h1.2,and_self,if_true,hs,h2,h3] <;> rfl,h⟩
  ·exact za h
 ·exact za h
theorem zJE{ts:List TypeId}{dst:Nat}{hp:List (Option OB)}{args:List AV}{k:Eff->Tr}(h:run call go (zIM E ts dst hp args k)=some r):∃ef,JP E ts dst hp args=some ef/\run call go (k ef)=some r:=by
 unfold zIM at h;split at h
 ·split at h
  ·obtain⟨h1,h⟩:=zg h;obtain⟨td,hd,h⟩:=zU h;split at h
   ·rename_i e hk;obtain⟨ed,he,h⟩:=zU h;obtain⟨h2,h⟩:=zg h;obtain⟨bs,h3,h⟩:=baseX_run h;obtain⟨el,h4,h⟩:=zE2 h;obtain⟨h5,h⟩:=z7 h;simp only[List.length_append] at h;simp only[decide_eq_true_eq] at h2 h5;have hg:decide (0<ed.size/\0<ed.bytes/\(2 * (bs.1.length+el.1.length)+200) * ed.bytes<=281474976710656)=true:=decide_eq_true ⟨h2.1,h2.2,h5⟩;split at h
    ·rename_i hb;rcases QR h with ⟨h6,h⟩ | ⟨h6,h⟩
     ·have e6:el.1=[]:=List.isEmpty_iff.1 h6;refine⟨_,?_,h⟩;simp only[JP,h1,zR,hd,zG,hk,he,h3,h4,hg];simp only[hb,e6];rfl
     ·refine⟨_,?_,h⟩;simp only[JP,h1,zR,hd,zG,hk,he,h3,h4,hg];simp only[hb];cases hel:el.1 with
      | nil=>rw[hel] at h6;simp at h6
      | cons a l=>rfl
    ·rename_i b hb;exact⟨_,by simp only[JP,h1,zR,hd,zG,hk,he,h3,h4,hg,hb],h⟩
   ·exact za h
  ·exact za h
 ·exact za h
theorem copyX_run{ts:List TypeId}{hp:List (Option OB)}{args:List AV}{k:Eff->Tr}(h:run call go (copyX E ts hp args k)=some r):∃ef,zA3 E ts hp args=some ef/\run call go (k ef)=some r:=by
 unfold copyX at h;split at h
 ·split at h
  ·obtain⟨td,hd,h⟩:=zU h;split at h
   ·rename_i e hk;obtain⟨ed,he,h⟩:=zU h;split at h
    ·obtain⟨h1,h⟩:=zg h;split at h
     ·rename_i hs;obtain⟨h2,h⟩:=zg h;obtain⟨h3,h⟩:=z7 h;obtain⟨el,h4,h⟩:=zE2 h;simp only[beq_iff_eq] at h2;simp only[decide_eq_true_eq] at h3;exact⟨_,by simp only[zA3,hd,zG,hk,he,h1,zR,hs,decide_eq_true (And.intro h2 h3),h4],h⟩
     ·exact za h
    ·exact za h
   ·exact za h
  ·exact za h
 ·exact za h
def jr(E:Env)(call:FuncId->List DV->Option CR)(f:FuncId)(ds:List DV):Option CR:=call f (zu E f ds)
theorem zJR{ts:List TypeId}{x:DV}{k:DV->Tr}(h:run call go (resX E ts x k)=some r):run call go (k x)=some r:=by
 have many:∀{ts:List TypeId},run call go (gd (x.isTup && zS (zH E shD) ts (tups x)) (k (.tup (zD0 (zIG E shD) ts (tups x) 0))))=some r->run call go (k x)=some r:=by
  intro ts h;obtain⟨h1,h⟩:=z7 h;simp only[Bool.and_eq_true] at h1;rw[Q6 (λt x=>zAC shD t x) h1.2] at h
  cases x with
  | tup xs=>exact h
  | _=>simp[DV.isTup] at h1
 unfold resX at h;split at h
 ·obtain⟨h1,h⟩:=z7 h;rw[zAC _ _ _ h1] at h;exact h
 ·exact many h
theorem zG8{dst:Nat}{o:Operand}{ty:TypeId}{f:FuncId}{ds:List DV}{ss:List Nat}{k:Eff->Tr}(h:run call go (nodeX E dst o ty f ds ss k)=some r) :
  ∃c,jr E call f ds=some c/\run call go (k (deliver dst ss c))=some r:=by
 unfold nodeX at h;split at h
 ·split at h
  ·split at h
   ·rcases QS h with ⟨x,h1,h⟩ | ⟨s,xs,h1,h⟩
    ·obtain⟨h2,h⟩:=z7 h;have e:x=.nl:=by cases x <;> simp[isNl] at h2 <;> rfl
     subst e;exact⟨_,h1,h⟩
    ·obtain⟨h2,h3⟩:=z7 h;simp only[beq_iff_eq] at h2;subst h2;exact⟨_,h1,h3⟩
   ·rcases QS h with ⟨x,h1,h⟩ | ⟨s,xs,h1,h⟩
    ·exact⟨_,h1,zJR h⟩
    ·exact za h
  ·exact za h
 ·rcases QS h with ⟨x,h1,h⟩ | ⟨s,xs,h1,h⟩
  ·exact⟨_,h1,zJR h⟩
  ·exact za h
theorem callX1_run{dst:Nat}{hp:List (Option OB)}{o:Operand}{ty:TypeId}{f:AV}{args:List AV}{k:Eff->Tr}(h:run call go (callX1 E dst hp o ty f args k)=some r) :
  ∃ef,qe (jr E call) dst hp f args=some ef/\run call go (k ef)=some r:=by
 unfold callX1 at h;split at h
 ·rename_i g a c;obtain⟨ds,h1,h⟩:=Ju (λv k=>JR zp v k) h
  obtain⟨cr,h2,h⟩:=zG8 h;rw[<-QN] at h1;refine⟨_,?_,h⟩;have e1:JV hp (a.map .d++args++c.map .d)=some (a++ds++c):=zC4 (zC4 (zH4 a) h1) (zH4 c);have e2:jR hp (a.map .d++args++c.map .d)=jR hp args:=by simp only[zEa,zJL,List.nil_append,List.append_nil]
  simp only[qe,YS,zG,e1,e2,h2]
 ·rename_i g a c;obtain⟨ds,h1,h⟩:=Ju (λv k=>JR zp v k) h
  obtain⟨cr,h2,h⟩:=zG8 h;rw[<-QN] at h1;refine⟨_,?_,h⟩;simp only[qe,YS,zG,h1,h2]
 ·exact za h
theorem zE0{t:TypeId}{neg:Bool}{x y:DV}{k:DV->Tr}(h:run call go (eqX E t neg x y k)=some r):∃b,Y0 E t x y=some b/\run call go (k (.bool (match neg with | true=>!b | false=>b)))=some r:=by unfold eqX at h;obtain⟨h1,h⟩:=z7 h;refine⟨_,zAW h1 false,?_⟩;cases neg <;> exact h
theorem binX_run{op:BinOp}{t:TypeId}{x y:DV}{k:DV->Tr}(h:run call go (binX E op t x y k)=some r):∃z,zBt E op t x y=some z/\run call go (k z)=some r:=by
 unfold binX at h;split at h
 ·split at h
  ·rename_i k1 a _ k2 b;unfold intX at h;split at h
   ·obtain⟨h1,h⟩:=zg h;obtain⟨h2,h⟩:=z7 h;simp only[decide_eq_true_eq] at h1;simp only[Bool.not_eq_true',beq_eq_false_iff_ne,ne_eq] at h2;exact⟨_,by simp only[zBt,h1,if_true,zD7,h2,if_false],h⟩
   ·obtain⟨h1,h⟩:=zg h;obtain⟨h2,h⟩:=z7 h;simp only[decide_eq_true_eq] at h1;simp only[Bool.not_eq_true',beq_eq_false_iff_ne,ne_eq] at h2;exact⟨_,by simp only[zBt,h1,if_true,zD7,h2,if_false],h⟩
   ·obtain⟨h2,h⟩:=z7 h;simp only[decide_eq_true_eq] at h2;exact⟨_,by simp only[zBt,zGJ,if_neg (Int.not_lt.2 h2)],h⟩
   ·obtain⟨h2,h⟩:=z7 h;simp only[decide_eq_true_eq] at h2;exact⟨_,by simp only[zBt,zGJ,if_neg (Int.not_lt.2 h2)],h⟩
   ·exact zU h
  ·exact za h
 ·split at h
  ·split at h
   ·obtain⟨h1,h⟩:=z7 h;simp only[decide_eq_true_eq] at h1;exact⟨_,by simp only[zBt,strS,if_neg (Int.not_lt.2 h1)],h⟩
   ·exact zU h
  ·exact za h
 ·rename_i h1 h2;split at h
  ·obtain⟨b,h3,h⟩:=zE0 h;refine⟨_,?_,h⟩;cases x <;> first | exact absurd rfl (h1 _ _) | exact absurd rfl (h2 _) | (simp only[zBt,h3,zG])
  ·obtain⟨b,h3,h⟩:=zE0 h;refine⟨_,?_,h⟩;cases x <;> first | exact absurd rfl (h1 _ _) | exact absurd rfl (h2 _) | (simp only[zBt,h3,zG])
  ·exact za h
theorem eqOp_if{t:TypeId}{x y:DV}{b:Bool}(hi:isIf E t=true)(h:Y0 E t x y=some b):x=.nilIf\/∃u z,x=.ifc u z:=by
 unfold isIf at hi;cases hD:E.D t with
 | none=>rw[hD] at hi;cases hi
 | some td =>
  rw[hD] at hi;simp only at hi;cases hk:td.k with
  | iface =>
   have ht:∀n y z,eqT E n t y z=none:=λn y z=>by
    cases n with
    | zero=>rfl
    | succ n =>
     unfold eqT;rw[hD];simp only[zG,hk]
   have hn:∀y z,(∀u v,y≠.ifc u v)->y≠.nilIf->qJ td.k y z=none:=λy z h1 h2=>by unfold qJ;rw[hk];cases y <;> first | rfl | exact absurd rfl h2 | exact absurd rfl (h1 _ _)
   refine Classical.byContradiction λhc=>?_
   have h1:x≠.nilIf:=λe=>hc (.inl e)
   have h2:∀u v,x≠.ifc u v:=λu v e=>hc (.inr ⟨u,v,e⟩)
   have h3:=hn x y h2 h1;unfold Y0 at h;split at h
   ·rw[hD,zG,ht] at h;cases he:td.eqOK <;> rw[he] at h <;> cases h
   ·rw[ht] at h;cases h
   ·rw[hD,zG,h3] at h;cases h
  | _=>rw[hk] at hi;cases hi
theorem binXI_run{op:BinOp}{t:TypeId}{x y:DV}{k:DV->Tr}(h:run call go (binXI E op t x y k)=some r):∃z,zBt E op t x y=some z/\run call go (k z)=some r:=by
 unfold binXI at h;cases hi:isIf E t with
 | false=>rw[hi] at h;exact binX_run h
 | true =>
  rw[hi] at h;simp only at h;split at h
  ·obtain⟨b,h3,h⟩:=zE0 h;refine⟨_,?_,h⟩;rcases eqOp_if hi h3 with rfl | ⟨u,z,rfl⟩ <;> simp only[zBt,h3,zG]
  ·obtain⟨b,h3,h⟩:=zE0 h;refine⟨_,?_,h⟩;rcases eqOp_if hi h3 with rfl | ⟨u,z,rfl⟩ <;> simp only[zBt,h3,zG]
  ·exact za h
theorem opX_run{X:XC}{F:XF}{o:Oper}{tm:List AV}{hp:List (Option OB)}{k:Eff->Tr}(h:run call go (opX E X F o tm hp k)=some r) :
  ∃ef,jY E (jr E call) o.op (zW o) tm hp=some ef/\run call go (k ef)=some r:=by
 unfold opX at h;generalize o.op=op at h ⊢;cases op
 case pick c a b =>
  obtain⟨v,h1,h⟩:=zU h;obtain⟨b0,h2,h⟩:=zU h;rcases QR h with ⟨h3,h⟩ | ⟨h3,h⟩
  ·obtain⟨u,h4,h⟩:=zU h;exact⟨_,by simp only[jY,h1,zG,h2,h3,h4] <;> rfl,h⟩
  ·obtain⟨u,h4,h⟩:=zU h;exact⟨_,by simp only[jY,h1,zG,h2,h3,h4] <;> rfl,h⟩
 case binOp op t x y yt =>
  obtain⟨a,h1,h⟩:=zU h;obtain⟨b,h2,h⟩:=zU h;simp only at h;split at h
  ·split at h
   ·obtain⟨h3,h⟩:=run_hardI h;obtain⟨z,h4,h⟩:=binXI_run h;exact⟨_,by simp only[jY,h1,zG,h2,h3,zR,h4] <;> rfl,h⟩
   ·exact za h
  ·exact za h
 case load t a =>
  obtain⟨p,h1,h⟩:=zU h;obtain⟨ef,h2,h⟩:=loadX_run h;exact⟨ef,by simp only[jY,h1,zG,h2],h⟩
 case store t a x =>
  obtain⟨p,h1,h⟩:=zU h;obtain⟨v,h3,h⟩:=zU h;obtain⟨ef,h2,h⟩:=storeX_run h;exact⟨ef,by simp only[jY,h1,h3,zG,h2],h⟩
 case makeSlice t l c =>
  obtain⟨p,h1,h⟩:=zU h;obtain⟨v,h3,h⟩:=zU h;obtain⟨ef,h2,h⟩:=zEH h;exact⟨ef,by simp only[jY,h1,h3,zG,h2],h⟩
 case slice t x lo hi mx =>
  obtain⟨p,h1,h⟩:=zU h;obtain⟨v,h3,h⟩:=zU h;obtain⟨v2,h4,h⟩:=zU h;obtain⟨v3,h5,h⟩:=zU h;obtain⟨ef,h2,h⟩:=sliceX_run h;exact⟨ef,by simp only[jY,h1,h3,h4,h5,zG,h2],h⟩
 case fieldAddr t x i =>
  obtain⟨p,h1,h⟩:=zU h;obtain⟨ef,h2,h⟩:=zEL h;exact⟨ef,by simp only[jY,h1,zG,h2],h⟩
 case indexAddr t x i =>
  obtain⟨p,h1,h⟩:=zU h;obtain⟨v,h3,h⟩:=zU h;obtain⟨ef,h2,h⟩:=zEJ h;exact⟨ef,by simp only[jY,h1,h3,zG,h2],h⟩
 case index t x i =>
  obtain⟨p,h1,h⟩:=zU h;obtain⟨v,h3,h⟩:=zU h;obtain⟨ef,h2,h⟩:=indexX_run h;exact⟨ef,by simp only[jY,h1,h3,zG,h2],h⟩
 case lookup t m key ok =>
  obtain⟨p,h1,h⟩:=zU h;obtain⟨v,h3,h⟩:=zU h;obtain⟨ef,h2,h⟩:=zI0 h;exact⟨ef,by simp only[jY,h1,h3,zG,h2],h⟩
 case mapUpdate t m key x =>
  obtain⟨p,h1,h⟩:=zU h;obtain⟨v,h3,h⟩:=zU h;obtain⟨v2,h4,h⟩:=zU h;obtain⟨ef,h2,h⟩:=zAZ h;exact⟨ef,by simp only[jY,h1,h3,h4,zG,h2],h⟩
 case insert t m key x =>
  obtain⟨p,h1,h⟩:=zU h;obtain⟨v,h3,h⟩:=zU h;obtain⟨v2,h4,h⟩:=zU h;obtain⟨ef,h2,h⟩:=zAZ h;exact⟨ef,by simp only[jY,h1,h3,h4,zG,h2],h⟩
 case next i s =>
  obtain⟨p,h1,h⟩:=zU h;obtain⟨ef,h2,h⟩:=nextX_run h;exact⟨ef,by simp only[jY,h1,zG,h2],h⟩
 case call c =>
  simp only at h;split at h
  ·rename_i f hc;obtain⟨args,h1,h⟩:=zU h;obtain⟨v,h3,h⟩:=zU h;obtain⟨ef,h2,h⟩:=callX1_run h;exact⟨ef,by simp only[jY,h1,hc,h3,zG,h2],h⟩
  ·rename_i hc;obtain⟨args,h1,h⟩:=zU h;obtain⟨ef,h2,h⟩:=zJE h;exact⟨ef,by simp only[jY,h1,hc,zG,h2],h⟩
  ·rename_i hc;obtain⟨args,h1,h⟩:=zU h;obtain⟨ef,h2,h⟩:=copyX_run h;exact⟨ef,by simp only[jY,h1,hc,zG,h2],h⟩
  ·rename_i k1 k2 k3;obtain⟨ef,h1,h⟩:=zU h;refine⟨ef,?_,h⟩;rw[<-h1];simp only[jY];cases hcc:c.callee with
   | value f=>exact absurd hcc (k1 f)
   | builtin b=>cases b <;> rfl
   | _=>rfl
 case makeFunc f a c =>
  obtain⟨ef,h1,h⟩:=zU h;exact⟨ef,by cases f <;> exact h1,h⟩
 all_goals
  obtain⟨ef,h1,h⟩:=zU h;exact⟨ef,h1,h⟩
end
end Go.Am
namespace Go.Am
open Go.Proofs
open Go
structure Le(X:List Nat)(s t:St):Prop where
 tm:∀i:Nat,(s.tm[i]? = some AV.undef/\(t.tm[i]?).isSome=true)\/s.tm[i]? = t.tm[i]?
 hp:∀b:Nat,(s.hp[b]? = some none/\(t.hp[b]?).isSome=true/\b ∉ X)\/s.hp[b]? = t.hp[b]?
def HLe(hp hp':List (Option OB)):Prop:=∀b ob,slot hp b=some ob->slot hp' b=some ob
def Lev(v w:AV):Prop:=v=.undef\/v=w
theorem Le.hle{X:List Nat}{s t:St}(h:Le X s t):HLe s.hp t.hp:=by
 intro b ob hs;rw[JM] at hs ⊢;rcases h.hp b with ⟨h1,_⟩ | h1
 ·rw[h1] at hs;simp at hs
 ·rw[<-h1];exact hs
theorem zAA{α β:Type}{f g:α->Option β}(h:∀v x,f v=some x->g v=some x):∀{l:List α} {xs:List β},Q2 f l=some xs->Q2 g l=some xs
 | [],xs,e=>e
 | v :: l,xs,e=>by
  simp only[Q2] at e ⊢;cases h1:f v with
  | none=>simp[h1] at e
  | some x =>
   rw[h1] at e;simp only at e;cases h2:Q2 f l with
   | none=>simp[h2] at e
   | some ys =>
    rw[h2] at e;simp only[h v x h1,zAA h h2];exact e
theorem qT{α β:Type}{f:α->Option β}:∀{l:List α} {xs:List β},Q2 f l=some xs->∀v∈l,∃x,f v=some x
 | [],xs,e,v,hv=>by simp at hv
 | u :: l,xs,e,v,hv=>by
  simp only[Q2] at e;cases h1:f u with
  | none=>simp[h1] at e
  | some x =>
   rw[h1] at e;simp only at e;cases h2:Q2 f l with
   | none=>simp[h2] at e
   | some ys =>
    rcases List.mem_cons.1 hv with rfl | hv
    ·exact⟨x,h1⟩
    ·exact qT h2 v hv
section
variable{hp hp':List (Option OB)}
theorem qv(h:HLe hp hp'):∀(n:Nat) (v:AV) (x:DV),snap hp n v=some x->snap hp' n v=some x
 | 0,v,x,e=>by cases v <;> simp only[snap] at e ⊢ <;> first | exact e | (split at e <;> first | (rename_i hs;rw[h _ _ hs];exact e) | cases e)
 | n+1,v,x,e=>by
  cases v with
  | d y=>exact e
  | undef=>exact e
  | own b off len sz =>
   simp only[snap] at e ⊢;split at e
   ·rename_i hs;rw[h _ _ hs];exact e
   ·rename_i hs;rw[h _ _ hs];simp only at e ⊢;split at e
    ·rename_i hc;rw[if_pos hc];split at e
     ·rename_i hm;rw[zAA (qv h n) hm];exact e
     ·cases e
    ·cases e
   ·cases e
  | ptr b sz e' p =>
   simp only[snap] at e ⊢;cases hs:slot hp b with
   | none=>simp[hs] at e
   | some ob =>
    rw[hs] at e;rw[h _ _ hs];simp only at e ⊢;cases hg:ob.blk.get sz e' with
    | none=>simp[hg] at e
    | some v =>
     rw[hg] at e;simp only at e ⊢;cases hx:zDo p v with
     | none=>simp[hx] at e
     | some y =>
      rw[hx] at e;simp only at e ⊢;cases hy:snap hp n y with
      | none=>simp[hy] at e
      | some z=>rw[hy] at e;rw[qv h n y z hy];exact e
  | omp b=>simp only[snap] at e ⊢;split at e <;> first | (rename_i hs;rw[h _ _ hs];exact e) | cases e
  | it b=>exact e
  | agg tag fs =>
   simp only[snap] at e ⊢;split at e
   ·rename_i hm;rw[zAA (qv h n) hm];exact e
   ·cases e
  | fn f a c =>
   simp only[snap] at e ⊢;split at e
   ·rename_i hm hm2;rw[zAA (qv h n) hm,zAA (qv h n) hm2];exact e
   ·cases e
theorem qO(h:HLe hp hp'):∀(n:Nat) (v:AV) (x:DV),snap hp n v=some x->sites hp' n v=sites hp n v
 | 0,v,x,e=>by
  cases v <;> simp only[snap] at e <;> first | cases e;done | rfl
 | n+1,v,x,e=>by
  cases v with
  | d y=>rfl
  | undef=>rfl
  | own b off len sz =>
   simp only[snap] at e;simp only[sites];split at e
   ·rename_i hs;rw[hs,h _ _ hs]
   ·rename_i hs;rw[hs,h _ _ hs];simp only at e ⊢;split at e
    ·split at e
     ·rename_i hm;congr 1;exact jB λu hu=>by obtain⟨y,hy⟩:=qT hm u hu;exact qO h n u y hy
     ·cases e
    ·cases e
   ·cases e
  | ptr b sz e' p =>
   simp only[snap] at e;simp only[sites];cases hs:slot hp b with
   | none=>simp[hs] at e
   | some ob =>
    rw[hs] at e;rw[h _ _ hs];simp only at e ⊢;cases hg:ob.blk.get sz e' with
    | none=>simp[hg] at e
    | some v =>
     rw[hg] at e;simp only at e ⊢;cases hx:zDo p v with
     | none=>simp[hx] at e
     | some y =>
      rw[hx] at e;simp only at e ⊢;cases hy:snap hp n y with
      | none=>simp[hy] at e
      | some z=>rw[qO h n y z hy]
  | omp b=>rfl
  | it b=>rfl
  | agg tag fs =>
   simp only[snap] at e;simp only[sites];split at e
   ·rename_i hm;exact jB λu hu=>by obtain⟨y,hy⟩:=qT hm u hu;exact qO h n u y hy
   ·cases e
  | fn f a c =>
   simp only[snap] at e;simp only[sites];split at e
   ·rename_i hm hm2;congr 1
    ·exact jB λu hu=>by obtain⟨y,hy⟩:=qT hm u hu;exact qO h n u y hy
    ·exact jB λu hu=>by obtain⟨y,hy⟩:=qT hm2 u hu;exact qO h n u y hy
   ·cases e
theorem zJK(h:HLe hp hp'){vs:List AV}{xs:List DV}(e:JV hp vs=some xs):JV hp' vs=some xs:=by rw[QN] at e ⊢;exact zAA (qv h zp) e
theorem zG0(h:HLe hp hp'):∀{vs:List AV} {xs:List DV},JV hp vs=some xs->jR hp' vs=jR hp vs
 | [],xs,e=>rfl
 | v :: vs,xs,e=>by simp only[JV] at e;obtain⟨x,h1,e1⟩:=zA e;obtain⟨ys,h2,e2⟩:=zA e1;simp only[jR,qO h _ _ _ h1,zG0 h h2]
theorem zEX(n:Nat):snap hp n .undef=none:=by cases n <;> rfl
theorem zGx{vs:List AV}{xs:List DV}(e:JV hp vs=some xs):∀v∈vs,v≠.undef:=by rw[QN] at e;intro v hv hu;obtain⟨x,hx⟩:=qT e v hv;subst hu;rw[zEX] at hx;cases hx
variable{E:Env}{X:List Nat}{s t:St}
theorem ev_le(h:Le X s t){x:Operand}{v:AV}(e:evO E s.tm x=some v):∃w,evO E t.tm x=some w/\Lev v w:=by
 cases x with
 | tmp i =>
  simp only[evO] at e ⊢;rcases h.tm i with ⟨h1,h2⟩ | h1
  ·rw[h1] at e;injection e with e
   cases ht:t.tm[i]? with
   | none=>rw[ht] at h2;simp at h2
   | some w=>exact⟨w,rfl,.inl e.symm⟩
  ·rw[<-h1];exact⟨v,e,.inr rfl⟩
 | const c=>exact⟨v,e,.inr rfl⟩
 | global g=>exact⟨v,e,.inr rfl⟩
 | func f=>exact⟨v,e,.inr rfl⟩
theorem Jk(h:Le X s t){x:Operand}{v:AV}(e:evO E s.tm x=some v)(hv:v≠.undef):evO E t.tm x=some v:=by
 obtain⟨w,h1,h2⟩:=ev_le h e;rcases h2 with h2 | h2
 ·exact absurd h2 hv
 ·rw[h2];exact h1
theorem zAO(h:Le X s t):∀{xs:List Operand} {vs:List AV},evL E s.tm xs=some vs->(∀v∈vs,v≠.undef)->evL E t.tm xs=some vs
 | [],vs,e,_=>e
 | x :: xs,vs,e,hn=>by
  simp only[evL] at e ⊢;obtain⟨v,h1,e1⟩:=zA e;obtain⟨us,h2,e2⟩:=zA e1;injection e2 with e2;subst e2
  rw[Jk h h1 (hn v (by simp)),zG,zAO h h2 λu hu=>hn u (by simp[hu]),zG]
theorem zBq(h:Le X s t):∀{xs:List (Nat×Operand)} {vs:List (Nat×AV)},JO E s.tm xs=some vs->(∀v∈vs,v.2≠.undef)->JO E t.tm xs=some vs
 | [],vs,e,_=>e
 | (i,x) :: xs,vs,e,hn=>by
  simp only[JO] at e ⊢;obtain⟨v,h1,e1⟩:=zA e;obtain⟨us,h2,e2⟩:=zA e1;injection e2 with e2;subst e2
  rw[Jk h h1 (hn (i,v) (by simp)),zG,zBq h h2 λu hu=>hn u (by simp[hu]),zG]
theorem zGC{L:Nat->List Nat}{sizes:List Nat}:∀{ps:List (Nat×AV)} {vs ws:List AV},fill L sizes ps vs=some ws->∀p∈ps,p.2≠.undef
 | [],vs,ws,_,p,hp=>by simp at hp
 | (i,v) :: ps,vs,ws,e,p,hp=>by
  simp only[fill] at e;split at e
  ·rename_i hc;rcases List.mem_cons.1 hp with rfl | hp
   ·rintro hu;simp only at hu;rw[hu] at hc;simp[stores] at hc
   ·exact zGC e p hp
  ·cases e
theorem buildE_noU{t:TypeId}{ps:List (Nat×AV)}{ef:Eff}(e:zAQ E t ps=some ef):∀p∈ps,p.2≠.undef:=by
 have key:∀{tag:Nat} {z:DV},Qg E tag z ps=some ef->∀p∈ps,p.2≠.undef:=by
  intro tag z e;unfold Qg at e;split at e
  ·split at e
   ·obtain⟨fs,h1,_⟩:=zA e;exact zGC h1
   ·cases e
  ·cases e
 unfold zAQ at e;obtain⟨td,_,e1⟩:=zA e;split at e1
 ·exact key e1
 ·exact key e1
 ·cases e1
theorem zD2{t:TypeId}{d n:Nat}{ps:List (Nat×AV)}{ef:Eff}(e:JB E t d n ps=some ef):∀p∈ps,p.2≠.undef:=by
 unfold JB at e;obtain⟨td,_,e1⟩:=zA e;split at e1
 ·obtain⟨ed,_,e2⟩:=zA e1;obtain⟨_,e3⟩:=zE e2;obtain⟨fs,h1,_⟩:=zA e3;exact zGC h1
 ·cases e1
def LeE(ef ef':Eff):Prop:=Lev ef.v ef'.v/\ef'.new=ef.new/\ef'.upd=ef.upd/\ef'.kil=ef.kil/\ef'.frz=ef.frz
theorem LeE.refl(ef:Eff):LeE ef ef:=⟨.inr rfl,rfl,rfl,rfl,rfl⟩
theorem zJh(h:HLe hp hp'){m:AV}{r:List DV×List DV}(e:Q0 hp m=some r):Q0 hp' m=some r:=by
 unfold Q0 at e ⊢;split at e
 ·exact e
 ·exact e
 ·split at e
  ·rename_i hs;simp only[h _ _ hs];exact e
  ·cases e
 ·cases e
theorem zE3(h:HLe hp hp'){sz:Nat}{v:AV}{r:List DV×List Nat}(e:jX hp sz v=some r):jX hp' sz v=some r:=by
 unfold jX at e ⊢;split at e
 ·exact e
 ·exact e
 ·split at e
  ·rename_i hs1;simp only[hs1,if_true] at e ⊢;split at e
   ·rename_i hs;rw[h _ _ hs];exact e
   ·rename_i hs;rw[h _ _ hs];simp only at e ⊢;split at e
    ·rename_i hc;rw[if_pos hc];split at e
     ·rename_i hm;rw[zAA (qv h _) hm];have:∀l:List AV,(∀v∈l,∃x,snap hp zp v=some x)->l.flatMap (sites hp' zp)=l.flatMap (sites hp zp):=λl hl =>
       jB λu hu=>by obtain⟨y,hy⟩:=hl u hu;exact qO h _ u y hy
      simp only;rw[this _ (qT hm)];exact e
     ·cases e
    ·cases e
   ·cases e
  ·cases e
 ·cases e
theorem baseOf_le(h:HLe hp hp'){sz:Nat}{v:AV}{r:List DV×Option Nat}(e:YK hp sz v=some r):YK hp' sz v=some r:=by
 unfold YK at e ⊢;split at e
 ·exact e
 ·split at e
  ·rename_i hs1;rw[if_pos hs1];split at e
   ·rename_i hs;rw[h _ _ hs];exact e
   ·cases e
  ·cases e
 ·cases e
theorem zJi(h:HLe hp hp'){t:TypeId}{a:AV}{ef:Eff}(e:JJ E t hp a=some ef):JJ E t hp' a=some ef:=by
 unfold JJ at e ⊢;obtain⟨td,hd,e1⟩:=zA e;rw[hd,zG];split at e1
 ·exact e1
 ·obtain⟨ob,hs,e2⟩:=zA e1;simp only[h _ _ hs,zG];exact e2
 ·cases e1
theorem storeE_le(h:HLe hp hp'){t:TypeId}{a x:AV}{ef:Eff}(e:J8 E t hp a x=some ef):J8 E t hp' a x=some ef:=by
 unfold J8 at e ⊢;obtain⟨td,hd,e1⟩:=zA e;rw[hd,zG];split at e1
 ·obtain⟨ob,hs,e2⟩:=zA e1;simp only[h _ _ hs,zG];exact e2
 ·cases e1
theorem lookupE_le(h:HLe hp hp'){t:TypeId}{m k:AV}{ok:Bool}{ef:Eff}(e:JN E t hp m k ok=some ef):JN E t hp' m k ok=some ef:=by
 unfold JN at e ⊢;obtain⟨td,hd,e1⟩:=zA e;rw[hd,zG];split at e1
 ·rename_i kt et hk;obtain⟨kd,hkd,e2⟩:=zA e1;obtain⟨ed,hed,e3⟩:=zA e2;simp only[hkd,hed,zG];split at e3
  ·obtain⟨h1,e4⟩:=zE e3;obtain⟨mv,hm,e5⟩:=zA e4;simp only[h1,zR,zJh h hm,zG];exact e5
  ·cases e3
 ·cases e1
theorem zBF(h:HLe hp hp'){t:TypeId}{m k v:AV}{ef:Eff}(e:jG E t hp m k v=some ef):jG E t hp' m k v=some ef:=by
 unfold jG at e ⊢;obtain⟨td,hd,e1⟩:=zA e;rw[hd,zG];split at e1
 ·rename_i kt et hk;obtain⟨kd,hkd,e2⟩:=zA e1;obtain⟨ed,hed,e3⟩:=zA e2;simp only[hkd,hed,zG];split at e3
  ·obtain⟨h1,e4⟩:=zE e3;obtain⟨h2,e5⟩:=zE e4;simp only[h1,h2,zR];split at e5
   ·rename_i hs;rw[h _ _ hs];exact e5
   ·cases e5
  ·cases e3
 ·cases e1
theorem nextE_le(h:HLe hp hp'){b:Bool}{v:AV}{ef:Eff}(e:zAL hp b v=some ef):zAL hp' b v=some ef:=by
 unfold zAL at e ⊢;split at e
 ·obtain⟨h1,e1⟩:=zE e;simp only[h1,zR];split at e1
  ·rename_i hs;rw[h _ _ hs];exact e1
  ·cases e1
 ·cases e
theorem callE_le(h:HLe hp hp'){call:FuncId->List DV->Option CR}{d:Nat}{f:AV}{args:List AV}{ef:Eff}(e:qe call d hp f args=some ef):qe call d hp' f args=some ef:=by unfold qe at e ⊢;obtain⟨c,h1,e1⟩:=zA e;obtain⟨ds,h2,e2⟩:=zA e1;rw[h1,zG,zJK h h2,zG,zG0 h h2];exact e2
theorem appendE_le(h:HLe hp hp'){ts:List TypeId}{d:Nat}{args:List AV}{ef:Eff}(e:JP E ts d hp args=some ef):JP E ts d hp' args=some ef/\∀v∈args,v≠.undef:=by
 unfold JP at e ⊢;split at e
 ·rename_i s x;split at e
  ·obtain⟨h1,e1⟩:=zE e;obtain⟨td,hd,e2⟩:=zA e1;simp only[h1,zR,hd,zG];split at e2
   ·obtain⟨ed,he,e3⟩:=zA e2;obtain⟨bs,hb,e4⟩:=zA e3;obtain⟨el,hl,e5⟩:=zA e4;simp only[he,zG,baseOf_le h hb,zE3 h hl];refine⟨e5,λv hv=>?_⟩
    simp only[List.mem_cons,List.not_mem_nil,or_false] at hv;rcases hv with rfl | rfl
    ·rintro rfl;simp[YK] at hb
    ·rintro rfl;simp[jX] at hl
   ·cases e2
  ·cases e
 ·cases e
theorem copyE_le(h:HLe hp hp'){ts:List TypeId}{args:List AV}{ef:Eff}(e:zA3 E ts hp args=some ef):zA3 E ts hp' args=some ef/\∀v∈args,v≠.undef:=by
 unfold zA3 at e ⊢;split at e
 ·rename_i s x;split at e
  ·obtain⟨td,hd,e2⟩:=zA e;simp only[hd,zG];split at e2
   ·obtain⟨ed,he,e3⟩:=zA e2;simp only[he,zG];split at e3
    ·obtain⟨h1,e4⟩:=zE e3;simp only[h1,zR];split at e4
     ·rename_i hs;obtain⟨h2,e5⟩:=zE e4;obtain⟨el,hl,e6⟩:=zA e5;rw[h _ _ hs];simp only[h2,zR,zE3 h hl,zG];refine⟨e6,λv hv=>?_⟩
      simp only[List.mem_cons,List.not_mem_nil,or_false] at hv;rcases hv with rfl | rfl
      ·simp
      ·rintro rfl;simp[jX] at hl
     ·cases e4
    ·cases e3
   ·cases e2
  ·cases e
 ·cases e
theorem lenE_le(h:HLe hp hp'){ts:List TypeId}{args:List AV}{ef:Eff}(e:zB5 E ts hp args=some ef):(zB5 E ts hp' args=some ef/\∀v∈args,v≠.undef)\/(∃t n v,ts=[t]/\args=[v]/\ef={ v:=.d (.int .i64 n) }/\∀hp2 w,zB5 E ts hp2 [w]=some ef):=by
 unfold zB5 at e;split at e
 ·rename_i x;split at e
  ·rename_i t;obtain⟨td,hd,e2⟩:=zA e;split at e2
   ·rename_i hk;left;refine⟨by simp only[zB5,hd,zG,hk];exact e2,by simp⟩
   ·rename_i hk;left;refine⟨by simp only[zB5,hd,zG,hk];exact e2,by simp⟩
   ·rename_i hk;left;refine⟨by simp only[zB5,hd,zG,hk];exact e2,by simp⟩
   ·rename_i hk;left;refine⟨by simp only[zB5,hd,zG,hk];exact e2,by simp⟩
   ·rename_i hk;right;simp only[zc] at e2;injection e2 with e2
    exact⟨_,_,_,rfl,rfl,e2.symm,λhp2 w=>by simp only[zB5,hd,zG,hk,zc,e2]⟩
   ·rename_i hk;obtain⟨mv,hm,e3⟩:=zA e2;left;refine⟨by simp only[zB5,hd,zG,hk,zJh h hm];exact e3,?_⟩
    intro v hv;simp only[List.mem_cons,List.not_mem_nil,or_false] at hv;rintro rfl;subst hv;simp[Q0] at hm
   ·cases e2
  ·cases e
 ·cases e
theorem zDF{f:Int->Int->Int}{k:IntKind}:∀{a:Int} {vs:List AV} {m:Int},qH f k a vs=some m->∀v∈vs,v≠.undef
 | a,[],m,_,v,hv=>by simp at hv
 | a,u :: vs,m,e,v,hv=>by
  cases u with
  | d x =>
   cases x with
   | int k' b =>
    simp only[qH] at e;split at e
    ·rcases List.mem_cons.1 hv with rfl | hv
     ·simp
     ·exact zDF e v hv
    ·cases e
   | _=>simp[qH] at e
  | _=>simp[qH] at e
theorem maxE_noU{vs:List AV}{ef:Eff}(e:maxE vs=some ef):∀v∈vs,v≠.undef:=by
 unfold maxE at e;split at e
 ·obtain⟨m,h1,_⟩:=zA e;intro v hv;rcases List.mem_cons.1 hv with rfl | hv
  ·simp
  ·exact zDF h1 v hv
 ·cases e
theorem minE_noU{vs:List AV}{ef:Eff}(e:minE vs=some ef):∀v∈vs,v≠.undef:=by
 unfold minE at e;split at e
 ·obtain⟨m,h1,_⟩:=zA e;intro v hv;rcases List.mem_cons.1 hv with rfl | hv
  ·simp
  ·exact zDF h1 v hv
 ·cases e
theorem zDP{d n:Nat}{v:AV}(e:bound? d (some v)=some n):v≠.undef:=by rintro rfl;simp[bound?,asI] at e
theorem zGD(h:Le X s t){x:Option Operand}{v:Option AV}(e:QJ E s.tm x=some v)(hv:v≠some .undef):QJ E t.tm x=some v:=by
 cases x with
 | none=>exact e
 | some o =>
  simp only[QJ] at e ⊢;obtain⟨u,h1,e1⟩:=zA e;injection e1 with e1;subst e1
  rw[Jk h h1 (λhu=>hv (by rw[hu])),zG]
theorem sliceE_noU{t:TypeId}{x:AV}{lo hi mx:Option AV}{ef:Eff}(e:YW E t x lo hi mx=some ef):x≠.undef/\lo≠some .undef/\hi≠some .undef/\mx≠some .undef:=by
 have bn:∀{d n:Nat} {o:Option AV},bound? d o=some n->o≠some .undef:=by rintro d n o e rfl;exact zDP e rfl
 unfold YW at e;obtain⟨td,hd,e1⟩:=zA e;obtain⟨l,hl,e2⟩:=zA e1;split at e2
 ·obtain⟨m,hm,e3⟩:=zA e2;obtain⟨h1,e4⟩:=zE e3;simp only[decide_eq_true_eq] at h1;refine⟨by simp,bn hl,bn hm,?_⟩
  rintro rfl;simp at h1
 ·obtain⟨ed,_,e3⟩:=zA e2;obtain⟨m,hm,e4⟩:=zA e3;obtain⟨h1,e5⟩:=zE e4;refine⟨by simp,bn hl,bn hm,?_⟩
  rintro rfl;simp only at e5;obtain⟨q,hq,_⟩:=zA e5;exact zDP hq rfl
 ·obtain⟨ed,_,e3⟩:=zA e2;obtain⟨m,hm,e4⟩:=zA e3;obtain⟨h1,e5⟩:=zE e4;refine⟨by simp,bn hl,bn hm,?_⟩
  rintro rfl;simp only at e5;obtain⟨q,hq,_⟩:=zA e5;exact zDP hq rfl
 ·obtain⟨ed,_,e3⟩:=zA e2;obtain⟨m,hm,e4⟩:=zA e3;obtain⟨h1,e5⟩:=zE e4;simp only[decide_eq_true_eq] at h1;refine⟨by simp,bn hl,bn hm,?_⟩
  rintro rfl;simp at h1
 ·cases e2
theorem zJq{td:TD}{v:AV}(h:fits td v=true):v≠.undef:=by rintro rfl;unfold fits at h;split at h <;> simp at h
theorem effE_le(h:Le X s t){call:FuncId->List DV->Option CR}{op:Op}{d:Nat}{ef:Eff}(e:jY E call op d s.tm s.hp=some ef):∃ef',jY E call op d t.tm t.hp=some ef'/\LeE ef ef':=by
 have hh:=h.hle;have one:∀{x:Operand} {g g':AV->Option Eff},bnd (evO E s.tm x) g=some ef->(g .undef=some ef->False)->(∀v,g v=some ef->g' v=some ef)->∃ef',bnd (evO E t.tm x) g'=some ef'/\LeE ef ef':=by
  intro x g g' e hn hg;obtain⟨v,h1,e1⟩:=zA e;have hv:v≠.undef:=λhu=>hn (hu ▸ e1)
  exact⟨ef,by rw[Jk h h1 hv,zG];exact hg v e1,LeE.refl ef⟩
 have mv:∀{x:Operand},bnd (evO E s.tm x) zc=some ef->∃ef',bnd (evO E t.tm x) zc=some ef'/\LeE ef ef':=by
  intro x e;obtain⟨v,h1,e1⟩:=zA e;obtain⟨w,h2,h3⟩:=ev_le h h1;simp only[zc] at e1;injection e1 with e1;subst e1
  exact⟨{ v:=w },by rw[h2,zG];rfl,h3,rfl,rfl,rfl,rfl⟩
 cases op <;> simp only[jY] at e ⊢ <;> try (cases e;done)
 case move x=>exact mv e
 case assign x=>exact mv e
 case pick c a b =>
  obtain⟨v,h1,e1⟩:=zA e;obtain⟨b0,h2,e2⟩:=zA e1;rw[Jk h h1 (by rintro rfl;simp[asB] at h2),zG,h2,zG]
  exact mv e2
 case alloc ty=>exact⟨ef,e,LeE.refl ef⟩
 case box ty x =>
  refine one e (λe=>?_) λ_ h=>h
  obtain⟨td,_,e1⟩:=zA e;obtain⟨h1,_⟩:=zE e1;simp only[Bool.and_eq_true] at h1;exact zJq h1.1 rfl
 case build ty ps =>
  obtain⟨vs,h1,e1⟩:=zA e;exact⟨ef,by rw[zBq h h1 (buildE_noU e1),zG];exact e1,LeE.refl ef⟩
 case buildSlice ty n ps =>
  obtain⟨vs,h1,e1⟩:=zA e;exact⟨ef,by rw[zBq h h1 (zD2 e1),zG];exact e1,LeE.refl ef⟩
 case load ty a=>exact one e (λe=>by unfold JJ at e;obtain⟨td,_,e1⟩:=zA e;cases e1) λv e=>zJi hh e
 case store ty a x =>
  obtain⟨p,h1,e1⟩:=zA e;obtain⟨v,h2,e2⟩:=zA e1;have e3:=e2;unfold J8 at e3;obtain⟨td,_,e4⟩:=zA e3;split at e4
  ·obtain⟨ob,_,e5⟩:=zA e4;obtain⟨_,e6⟩:=zE e5;obtain⟨hf,_⟩:=zE e6;exact⟨ef,by rw[Jk h h1 (by simp),zG,Jk h h2 (zJq hf),zG];exact storeE_le hh e2,LeE.refl ef⟩
  ·cases e4
 case nilCheck x=>exact one e (λe=>by cases e) λ_ h=>h
 case binOp op ty x y yt =>
  obtain⟨a,h1,e1⟩:=zA e;obtain⟨b,h2,e2⟩:=zA e1;split at e2
  ·exact⟨ef,by rw[Jk h h1 (by simp),zG,Jk h h2 (by simp),zG];exact e2,LeE.refl ef⟩
  ·cases e2
 case unOp op ty x=>exact one e (λe=>by cases e) λ_ h=>h
 case convert a b x=>exact one e (λe=>by cases e) λ_ h=>h
 case makeFunc f a c =>
  cases f <;> simp only[jY] at e ⊢ <;> try (cases e;done)
  obtain⟨a1,h1,e1⟩:=zA e;obtain⟨c1,h2,e2⟩:=zA e1;obtain⟨hg,e3⟩:=zE e2;simp only[Bool.and_eq_true] at hg;have ns:∀{l:List AV},qD l=true->∀v∈l,v≠.undef:=by
   intro l;induction l with
   | nil=>intro _ v hv;simp at hv
   | cons u l ih =>
    intro hs v hv;simp only[qD,Bool.and_eq_true] at hs;rcases List.mem_cons.1 hv with rfl | hv
    ·rintro rfl;simp[stores] at hs
    ·exact ih hs.2 v hv
  exact⟨ef,by rw[zAO h h1 (ns hg.1),zG,zAO h h2 (ns hg.2),zG];exact e2,LeE.refl ef⟩
 case makeMap ty n=>exact⟨ef,e,LeE.refl ef⟩
 case makeSlice ty l c =>
  obtain⟨a,h1,e1⟩:=zA e;obtain⟨b,h2,e2⟩:=zA e1;have e3:=e2;unfold Jh at e3;obtain⟨td,_,e4⟩:=zA e3;split at e4
  ·obtain⟨ed,_,e5⟩:=zA e4;obtain⟨n,hn,e6⟩:=zA e5;obtain⟨m,hm,e7⟩:=zA e6;exact⟨ef,by rw[Jk h h1 (by rintro rfl;simp[asI] at hn),zG,Jk h h2 (by rintro rfl;simp[asI] at hm),zG];exact e2,LeE.refl ef⟩
  ·cases e4
 case slice ty x lo hi mx =>
  obtain⟨a,h1,e1⟩:=zA e;obtain⟨b,h2,e2⟩:=zA e1;obtain⟨c,h3,e3⟩:=zA e2;obtain⟨m,h4,e4⟩:=zA e3;obtain⟨n1,n2,n3,n4⟩:=sliceE_noU e4;exact⟨ef,by rw[Jk h h1 n1,zG,zGD h h2 n2,zG,zGD h h3 n3,zG,zGD h h4 n4,zG];exact e4,LeE.refl ef⟩
 case fieldAddr ty x i =>
  refine one e (λe=>?_) λ_ h=>h
  unfold jm at e;obtain⟨td,_,e1⟩:=zA e;split at e1 <;> cases e1
 case field ty x i =>
  refine one e (λe=>?_) λ_ h=>h
  unfold zBK at e;obtain⟨td,_,e1⟩:=zA e;split at e1
  ·obtain⟨_,_,e2⟩:=zA e1;obtain⟨_,_,e3⟩:=zA e2;obtain⟨_,h4,_⟩:=zA e3;simp[zBm] at h4
  ·cases e1
 case indexAddr ty x i =>
  obtain⟨a,h1,e1⟩:=zA e;obtain⟨b,h2,e2⟩:=zA e1;have e3:=e2;unfold jU at e3;obtain⟨td,_,e4⟩:=zA e3;obtain⟨n,hn,e5⟩:=zA e4;have hb:b≠.undef:=by rintro rfl;simp[asI] at hn
  have ha:a≠.undef:=by
   rintro rfl;split at e5
   ·obtain⟨_,_,e6⟩:=zA e5;cases e6
   ·cases e5
   ·cases e5
  exact⟨ef,by rw[Jk h h1 ha,zG,Jk h h2 hb,zG];exact e2,LeE.refl ef⟩
 case index ty x i =>
  obtain⟨a,h1,e1⟩:=zA e;obtain⟨b,h2,e2⟩:=zA e1;have e3:=e2;unfold Y9 at e3;obtain⟨td,_,e4⟩:=zA e3;obtain⟨n,hn,e5⟩:=zA e4;obtain⟨_,e6⟩:=zE e5;have hb:b≠.undef:=by rintro rfl;simp[asI] at hn
  have ha:a≠.undef:=by
   rintro rfl;split at e6
   ·obtain⟨_,_,e7⟩:=zA e6;obtain⟨_,h8,_⟩:=zA e7;simp[zBm] at h8
   ·cases e6
   ·cases e6
  exact⟨ef,by rw[Jk h h1 ha,zG,Jk h h2 hb,zG];exact e2,LeE.refl ef⟩
 case lookup ty m k ok =>
  obtain⟨a,h1,e1⟩:=zA e;obtain⟨b,h2,e2⟩:=zA e1;have e3:=e2;unfold JN at e3;obtain⟨td,_,e4⟩:=zA e3;split at e4
  ·obtain⟨_,_,e5⟩:=zA e4;obtain⟨_,_,e6⟩:=zA e5;split at e6
   ·obtain⟨_,e7⟩:=zE e6;obtain⟨mv,hm,_⟩:=zA e7;exact⟨ef,by rw[Jk h h1 (by rintro rfl;simp[Q0] at hm),zG,Jk h h2 (by simp),zG];exact lookupE_le hh e2,LeE.refl ef⟩
   ·cases e6
  ·cases e4
 case mapUpdate ty m k x =>
  obtain⟨a,h1,e1⟩:=zA e;obtain⟨b,h2,e2⟩:=zA e1;obtain⟨c,h3,e2'⟩:=zA e2;have e3:=e2';unfold jG at e3;obtain⟨td,_,e4⟩:=zA e3;split at e4
  ·obtain⟨_,_,e5⟩:=zA e4;obtain⟨_,_,e6⟩:=zA e5;split at e6
   ·exact⟨ef,by rw[Jk h h1 (by simp),zG,Jk h h2 (by simp),zG,Jk h h3 (by simp),zG];exact zBF hh e2',LeE.refl ef⟩
   ·cases e6
  ·cases e4
 case insert ty m k x =>
  obtain⟨a,h1,e1⟩:=zA e;obtain⟨b,h2,e2⟩:=zA e1;obtain⟨c,h3,e2'⟩:=zA e2;have e3:=e2';unfold jG at e3;obtain⟨td,_,e4⟩:=zA e3;split at e4
  ·obtain⟨_,_,e5⟩:=zA e4;obtain⟨_,_,e6⟩:=zA e5;split at e6
   ·exact⟨ef,by rw[Jk h h1 (by simp),zG,Jk h h2 (by simp),zG,Jk h h3 (by simp),zG];exact zBF hh e2',LeE.refl ef⟩
   ·cases e6
  ·cases e4
 case range ty x =>
  obtain⟨td,hd,e1⟩:=zA e;rw[hd,zG];split at e1
  ·exact one e1 (λe=>by cases e) λ_ h=>h
  ·cases e1
 case next i b=>exact one e (λe=>by cases e) λv e=>nextE_le hh e
 case extract x i=>exact one e (λe=>by cases e) λ_ h=>h
 case call c =>
  obtain⟨args,h1,e1⟩:=zA e;split at e1
  ·rename_i f hc;obtain⟨v,h2,e2⟩:=zA e1;have e3:=e2;unfold qe at e3;obtain⟨c1,h3,e4⟩:=zA e3;obtain⟨ds,h4,e5⟩:=zA e4;have hv:v≠.undef:=by rintro rfl;simp[YS] at h3
   have ha:∀u∈args,u≠.undef:=λu hu=>zGx h4 u (by simp[hu])
   exact⟨ef,by rw[zAO h h1 ha,zG];rw[Jk h h2 hv,zG];exact callE_le hh e2,LeE.refl ef⟩
  ·rename_i hc;obtain⟨e2,ha⟩:=appendE_le hh e1;exact⟨ef,by rw[zAO h h1 ha,zG];exact e2,LeE.refl ef⟩
  ·rename_i hc;obtain⟨e2,ha⟩:=copyE_le hh e1;exact⟨ef,by rw[zAO h h1 ha,zG];exact e2,LeE.refl ef⟩
  ·rename_i hc;rcases lenE_le hh e1 with ⟨e2,ha⟩ | ⟨ty,n,v,hts,rfl,rfl,hall⟩
   ·exact⟨ef,by rw[zAO h h1 ha,zG];exact e2,LeE.refl ef⟩
   ·obtain⟨x,hx⟩:∃x,c.args.toList=[x]:=by
     cases hl:c.args.toList with
     | nil=>rw[hl] at h1;simp[evL] at h1
     | cons x r =>
      cases r with
      | nil=>exact⟨x,rfl⟩
      | cons y r =>
       rw[hl] at h1;simp only[evL] at h1;obtain⟨u,_,e2⟩:=zA h1;obtain⟨us,h3,e3⟩:=zA e2;obtain⟨u2,_,e4⟩:=zA h3;obtain⟨us2,_,e5⟩:=zA e4;injection e5 with e5;subst e5
       simp at e3
    rw[hx] at h1 ⊢;simp only[evL,zG] at h1 ⊢;obtain⟨u,h2,e2⟩:=zA h1;obtain⟨w,h3,_⟩:=ev_le h h2;rw[h3];simp only[zG];exact⟨_,hall _ _,LeE.refl _⟩
  ·rename_i hc;exact⟨ef,by rw[zAO h h1 (maxE_noU e1),zG];exact e1,LeE.refl ef⟩
  ·rename_i hc;exact⟨ef,by rw[zAO h h1 (minE_noU e1),zG];exact e1,LeE.refl ef⟩
  ·cases e1
end
section
variable{E:Env}{X:List Nat}{s t:St}{call:FuncId->List DV->Option CR}
theorem putT_get(tm:List AV)(d:Option Tmp)(v:AV)(i:Nat):(jh tm d v)[i]? = if d=some i then (tm[i]?).map λ_=>v else tm[i]?:=by
 cases d with
 | none=>simp[jh]
 | some k =>
  simp only[jh,Option.some.injEq];by_cases e:k=i
  ·subst e;rw[if_pos rfl];cases h:tm[k]? with
   | none =>
    have:=List.getElem?_eq_none_iff.1 h;rw[List.set_eq_of_length_le this,h];rfl
   | some u =>
    have hlt:k<tm.length:=(List.getElem?_eq_some_iff.1 h).1;rw[List.getElem?_set_self hlt];rfl
  ·rw[if_neg e,List.getElem?_set_ne e]
theorem Le.put(h:Le X s t)(d:Option Tmp){v w:AV}(hv:Lev v w)(hs ht:List (Option OB))(hp:∀b,(hs[b]? = some none/\(ht[b]?).isSome=true/\b ∉ X)\/hs[b]? = ht[b]?) :
  Le X { tm:=jh s.tm d v,hp:=hs } { tm:=jh t.tm d w,hp:=ht }:=by
 refine⟨λi=>?_,hp⟩
 simp only[putT_get];by_cases e:d=some i
 ·simp only[if_pos e];rcases h.tm i with ⟨h1,h2⟩ | h1
  ·rw[h1];cases ht:t.tm[i]? with
   | none=>rw[ht] at h2;simp at h2
   | some u =>
    rcases hv with rfl | rfl
    ·exact .inl ⟨rfl,rfl⟩
    ·exact .inr rfl
  ·rw[h1];rcases hv with rfl | rfl
   ·cases t.tm[i]? with
    | none=>exact .inr rfl
    | some u=>exact .inl ⟨rfl,rfl⟩
   ·exact .inr rfl
 ·simp only[if_neg e];exact h.tm i
theorem FF_none(ef:Eff)(k b:Nat):FF ef k b none=none\/∃blk,ef.new=some blk/\b=k/\∀o,FF ef k b o=some ⟨false,blk⟩:=by
 have e:F3 ef b (F2 ef b (F1 ef b none))=none:=by
  have h1:F1 ef b none=none:=by unfold F1;split <;> rfl
  have h2:F2 ef b none=none:=by unfold F2;cases ef.upd with | none=>rfl | some p=>obtain⟨u,blk⟩:=p;simp only;split <;> rfl
  rw[h1,h2];unfold F3;split <;> rfl
 unfold FF;rw[e];unfold F4;cases hn:ef.new with
 | none=>exact .inl rfl
 | some blk =>
  simp only;by_cases hb:b=k
  ·simp only[if_pos hb];exact .inr ⟨blk,rfl,hb,λ_=>rfl⟩
  ·simp only[if_neg hb];exact .inl trivial
theorem Le.apply(h:Le X s t){ef ef':Eff}(he:LeE ef ef')(d:Option Tmp)(k:Nat):Le X (zj ef d k s) (zj ef' d k t):=by
 obtain⟨hv,h1,h2,h3,h4⟩:=he;have hFF:FF ef' k=FF ef k:=by funext b o;unfold FF F1 F2 F3 F4;rw[h1,h2,h3,h4]
 have:=h.put d hv (zj ef d k s).hp (zj ef' d k t).hp λb=>?_
 ·exact this
 ·rw[J4,J4,hFF];rcases h.hp b with ⟨g1,g2,g3⟩ | g1
  ·rw[g1];cases ht:t.hp[b]? with
   | none=>rw[ht] at g2;simp at g2
   | some o =>
    simp only[Option.map_some];rcases FF_none ef k b with e | ⟨blk,_,_,e⟩
    ·rw[e];exact .inl ⟨rfl,rfl,g3⟩
    ·rw[e,e];exact .inr rfl
  ·rw[g1];exact .inr rfl
theorem Le.clear(h:Le X s t)(b:Nat):Le X (Am.clear b s) (Am.clear b t):=by
 refine⟨λi=>?_,λc=>?_⟩
 ·simp only[Am.clear,Yv,List.getElem?_map];rcases h.tm i with ⟨h1,h2⟩ | h1
  ·left;rw[h1];refine⟨rfl,?_⟩;cases ht:t.tm[i]? with
   | none=>rw[ht] at h2;simp at h2
   | some u=>rfl
  ·rw[h1];exact .inr rfl
 ·simp only[Am.clear];by_cases e:c=b
  ·subst e;right;rcases h.hp c with ⟨h1,h2,_⟩ | h1
   ·have l1:c<s.hp.length:=(List.getElem?_eq_some_iff.1 h1).1;have l2:c<t.hp.length:=by
     cases ht:t.hp[c]? with
     | none=>rw[ht] at h2;simp at h2
     | some u=>exact(List.getElem?_eq_some_iff.1 ht).1
    rw[List.getElem?_set_self (by simpa using l1),List.getElem?_set_self (by simpa using l2)]
   ·by_cases l1:c<s.hp.length
    ·have l2:c<t.hp.length:=by rw[List.getElem?_eq_getElem l1] at h1;exact(List.getElem?_eq_some_iff.1 h1.symm).1
     rw[List.getElem?_set_self (by simpa using l1),List.getElem?_set_self (by simpa using l2)]
    ·have l2:¬c<t.hp.length:=by
      rw[List.getElem?_eq_none (by omega)] at h1
      have:=List.getElem?_eq_none_iff.1 h1.symm;omega
     rw[List.getElem?_eq_none (by simp;omega),List.getElem?_eq_none (by simp;omega)]
  ·rw[List.getElem?_set_ne (Ne.symm e),List.getElem?_set_ne (Ne.symm e)];simp only[List.getElem?_map];rcases h.hp c with ⟨h1,h2,h3⟩ | h1
   ·left;rw[h1];refine⟨rfl,?_,h3⟩;cases ht:t.hp[c]? with
    | none=>rw[ht] at h2;simp at h2
    | some u=>rfl
   ·rw[h1];exact .inr rfl
theorem Le.more{Y:List Nat}(h:Le X s t)(hY:∀b∈Y,s.hp[b]? = t.hp[b]?):Le Y s t:=by
 refine⟨h.tm,λb=>?_⟩
 by_cases hb:b∈Y
 ·exact .inr (hY b hb)
 ·rcases h.hp b with ⟨h1,h2,_⟩ | h1
  ·exact .inl ⟨h1,h2,hb⟩
  ·exact .inr h1
theorem Le.less{Y:List Nat}(h:Le X s t)(hY:∀b∈Y,b∈X):Le Y s t :=
 h.more λb hb=>by
  rcases h.hp b with ⟨_,_,h1⟩ | h1
  ·exact absurd (hY b hb) h1
  ·exact h1
theorem zBQ{b:Nat}{u:St}:(Am.clear b u).hp[b]? = (u.hp[b]?).map λ_=>none:=by
 simp only[Am.clear];by_cases l:b<u.hp.length
 ·rw[List.getElem?_set_self (by simpa using l),List.getElem?_eq_getElem l];rfl
 ·rw[List.getElem?_eq_none (by simp;omega),List.getElem?_eq_none (by omega)];rfl
theorem Le.len(h:Le X s t)(b:Nat):(s.hp[b]?).isSome=(t.hp[b]?).isSome:=by
 rcases h.hp b with ⟨h1,h2,_⟩ | h1
 ·rw[h1,h2];rfl
 ·rw[h1]
theorem Le.clearL:∀{L X:List Nat} {s t:St},Le X s t->Le (X++L) (Am.clearL L s) (Am.clearL L t)
 | [],X,s,t,h=>by simpa[Am.clearL] using h
 | b :: L,X,s,t,h=>by
  simp only[Am.clearL];have h1:Le (X++[b]) (Am.clear b s) (Am.clear b t):=by
   refine(h.clear b).more λc hc=>?_
   simp only[List.mem_append,List.mem_cons,List.not_mem_nil,or_false] at hc;by_cases e:c=b
   ·subst e;rw[zBQ,zBQ];have:=h.len c;cases h1:s.hp[c]? <;> cases h2:t.hp[c]? <;> simp[h1,h2] at this ⊢
   ·rcases hc with hc | hc
    ·rcases (h.clear b).hp c with ⟨_,_,k⟩ | k
     ·exact absurd hc k
     ·exact k
    ·exact absurd hc e
  have:=h1.clearL (L:=L);simpa[List.append_assoc] using this
theorem zHI(h:Le X s t){ops:List Oper}{o:Oper}{b:Bool}(e:jc ops o s.tm=some b):jc ops o t.tm=some b:=by
 unfold jc at e ⊢;split at e
 ·exact e
 ·split at e
  ·split at e
   ·rename_i i hi;rcases h.tm i with ⟨h1,h2⟩ | h1
    ·rw[h1] at e;simp at e
    ·rw[<-h1];exact e
   ·cases e
  ·cases e
theorem zJJ(h:Le X s t){o:Oper}{s':St}(e:YN E call o s=some s'):∃t',YN E call o t=some t'/\Le X s' t':=by
 unfold YN at e ⊢;obtain⟨ef,h1,e1⟩:=zA e;obtain⟨h2,e2⟩:=zE e1;obtain⟨ef',h3,h4⟩:=effE_le h h1;have hok:ef'.ok=ef.ok:=by unfold Eff.ok;rw[h4.2.2.1,h4.2.2.2.1,h4.2.2.2.2]
 rw[h3,zG,hok,h2,zR];have hn:=h4.2.1;rw[hn];cases hnew:ef.new with
 | none =>
  rw[hnew] at e2;simp only at e2 ⊢;injection e2 with e2;subst e2
  exact⟨_,rfl,h.apply h4 _ _⟩
 | some blk =>
  rw[hnew] at e2;simp only at e2 ⊢;obtain⟨h5,e3⟩:=zE e2;injection e3 with e3;subst e3
  rw[h5,zR];exact⟨_,rfl,(h.clear _).apply h4 _ _⟩
theorem stepF_le(h:Le X s t){loud:Bool}{may:Option Nat}{o:Oper}(hX:owns o.op=true->o.dst.isSome=true->zW o∈X){s':St}(e:zCQ E call loud may o s=some s'):∃t',zCQ E call loud may o t=some t'/\Le X s' t':=by
 unfold zCQ at e ⊢;obtain⟨ef,h1,e1⟩:=zA e;obtain⟨h2,e2⟩:=zE e1;obtain⟨ef',h3,h4⟩:=effE_le h h1;have hok:(ef'.ok && (loud || (ef'.upd.isNone && (ef'.kil.isNone || ef'.kil == may))))=(ef.ok && (loud || (ef.upd.isNone && (ef.kil.isNone || ef.kil == may)))):=by unfold Eff.ok;rw[h4.2.2.1,h4.2.2.2.1,h4.2.2.2.2]
 rw[h3,zG,hok,h2,zR];rw[h4.2.1];cases hnew:ef.new with
 | none =>
  rw[hnew] at e2;simp only at e2 ⊢;injection e2 with e2;subst e2
  exact⟨_,rfl,h.apply h4 _ _⟩
 | some blk =>
  rw[hnew] at e2;simp only at e2 ⊢;obtain⟨h5,e3⟩:=zE e2;injection e3 with e3;subst e3
  simp only[Bool.and_eq_true] at h5;have hin:zW o∈X:=hX ((Qd h1).new (by rw[hnew];rfl)) h5.1.1
  have hsl:(slot t.hp (zW o)).isNone=true:=by
   rcases h.hp (zW o) with ⟨_,_,k⟩ | k
   ·exact absurd hin k
   ·rw[JM,<-k,<-JM];exact h5.2
  rw[h5.1.1,h5.1.2,hsl];exact⟨_,rfl,h.apply h4 _ _⟩
theorem zC6{ops:List Oper}{r:CR}:∀{l:List Oper} {s t:St} {K K':St->Option CR},Le X s t->(∀s t,Le X s t->K s=some r->K' t=some r) ->
  QT (YN E call) ops l s K=some r->QT (YN E call) ops l t K'=some r
 | [],s,t,K,K',h,hK,e=>hK s t h e
 | o :: l,s,t,K,K',h,hK,e=>by
  simp only[QT] at e ⊢;obtain⟨g,h1,e1⟩:=zA e;rw[zHI h h1,zG];cases g with
  | true =>
   simp only at e1 ⊢;obtain⟨s',h2,e2⟩:=zA e1;obtain⟨t',h3,h4⟩:=zJJ h h2;rw[h3,zG];exact zC6 h4 hK e2
  | false =>
   simp only at e1 ⊢;exact zC6 (h.put o.dst (.inr rfl) s.hp t.hp h.hp) hK e1
theorem qF{ops:List Oper}{r:CR}:∀{l:List (Oper×Bool)} {s t:St} {K K':St->Option CR},(∀o,(o,false)∈l->owns o.op=true->o.dst.isSome=true->zW o∈X)->Le X s t->(∀s t,Le X s t->K s=some r->K' t=some r) ->
  YD E call ops l s K=some r->YD E call ops l t K'=some r
 | [],s,t,K,K',_,h,hK,e=>hK s t h e
 | (o,pv) :: l,s,t,K,K',hX,h,hK,e=>by
  simp only[YD] at e ⊢;obtain⟨g,h1,e1⟩:=zA e;rw[zHI h h1,zG];have hX':∀o,(o,false)∈l->owns o.op=true->o.dst.isSome=true->zW o∈X:=λo ho=>hX o (by simp[ho])
  cases g with
  | true =>
   simp only at e1 ⊢;obtain⟨s',h2,e2⟩:=zA e1;cases pv with
   | true =>
    simp only at h2 ⊢;obtain⟨t',h3,h4⟩:=zJJ h h2;rw[h3,zG];exact qF hX' h4 hK e2
   | false =>
    simp only at h2 ⊢;obtain⟨t',h3,h4⟩:=stepF_le h (hX o (by simp)) h2
    rw[h3,zG];exact qF hX' h4 hK e2
  | false =>
   simp only at e1 ⊢;exact qF hX' (h.put o.dst (.inr rfl) s.hp t.hp h.hp) hK e1
theorem lsOK_le{X:List Nat}{s t:St}{ops:List Oper}(h:Le X s t)(e:lsOK ops s.tm=true):lsOK ops t.tm=true:=by
 unfold lsOK at e ⊢;refine List.all_eq_true.2 λj hj=>List.all_eq_true.2 λi hi=>?_
 have e1:=List.all_eq_true.1 (List.all_eq_true.1 e j hj) i hi;cases ha:ops[i]? with
 | none=>rw[ha] at e1;cases e1
 | some a =>
  cases hb:ops[j]? with
  | none=>rw[ha,hb] at e1;cases e1
  | some b =>
   rw[ha,hb] at e1;simp only[Bool.or_eq_true] at e1 ⊢;refine e1.imp id λe2=>?_
   cases hl:zD6 ops i j a b with
   | none=>rw[hl] at e2;cases e2
   | some pq =>
    rw[hl] at e2;refine zDA e2 (λv hv k=>?_) (λv hv k=>?_)
    ·rcases h.tm pq.1 with ⟨g,_⟩ | g
     ·rw[g] at k;injection k with k;subst k;cases hv
     ·rw[<-g];exact k
    ·rcases h.tm pq.2 with ⟨g,_⟩ | g
     ·rw[g] at k;injection k with k;subst k;cases hv
     ·rw[<-g];exact k
theorem zHn{ops:List Oper}{draw:Bool}{r:CR}{K K':St->Option CR}(h:Le [] s t)(hK:∀s t,Le [] s t->K s=some r->K' t=some r)
  (e:JS E call ops draw s K=some r):JS E call ops draw t K'=some r:=by
 cases draw with
 | false=>exact zC6 h hK e
 | true =>
  have h2:=h.clearL (L:=anews ops);have hin:∀o,(o,false)∈(ops.zipIdx.map λ(o,i)=>(o,pivot ops i))->owns o.op=true->o.dst.isSome=true->zW o∈[]++anews ops:=λo ho hw hd=>by
   rw[List.mem_map] at ho;obtain⟨⟨o',i⟩,hm,ho⟩:=ho;simp only[Prod.mk.injEq] at ho;obtain⟨rfl,hpv⟩:=ho;have hi:ops[i]? = some o':=by have:=List.mem_zipIdx_iff_getElem?.1 hm;simpa using this
   obtain⟨d,hd'⟩:=Option.isSome_iff_exists.1 hd;simp only[List.nil_append,zW,hd',Option.getD_some];exact zHB hi hpv hw hd'
  simp only[JS] at e ⊢;cases h0:zAK ops with
  | true =>
   rw[h0] at e;simp only at e ⊢;exact qF hin h2 (λs t hst=>hK s t (hst.less (by simp))) e
  | false =>
   rw[h0] at e;simp only at e ⊢;obtain⟨h1,e1⟩:=zE e;rw[h1,zR];refine qF hin h2 (λs t hst hk=>?_) e1
   obtain⟨h3,hk⟩:=zE hk;rw[lsOK_le hst h3,zR];exact hK s t (hst.less (by simp)) hk
def Mono(r:CR)(K K':Ex->St->Option CR):Prop:=∀e s t,Le [] s t->K e s=some r->K' e t=some r
theorem zCP{r:CR}{f f':St->Option CR}{K K':Ex->St->Option CR}(hf:∀s t,Le [] s t->f s=some r->f' t=some r)(hK:Mono r K K'):Mono r (QF f K) (QF f' K'):=by
 intro e s t h1 h2;cases e with
 | normal=>exact hf s t h1 h2
 | exit i=>exact hK (.exit i) s t h1 h2
 | ret=>exact hK .ret s t h1 h2
theorem zHQ{r:CR}{K K':Ex->St->Option CR}(id:Nat)(hK:Mono r K K'):Mono r (Qh id K) (Qh id K'):=by
 intro e s t h1 h2;cases e with
 | normal=>exact hK .normal s t h1 h2
 | ret=>exact hK .ret s t h1 h2
 | exit i =>
  simp only[Qh] at h2 ⊢;split at h2
  ·rename_i he;rw[if_pos he];exact hK .normal s t h1 h2
  ·rename_i he;rw[if_neg he];exact hK (.exit i) s t h1 h2
theorem zF8{r:CR}{body:St->(Ex->St->Option CR)->Option CR}(hb:∀s t K K',Le [] s t->Mono r K K'->body s K=some r->body t K'=some r) :
  ∀(n:Nat) {s t:St} {K K':Ex->St->Option CR},Le [] s t->Mono r K K'->Q3 body n s K=some r->Q3 body n t K'=some r
 | 0,s,t,K,K',h,hK,e=>by simp[Q3] at e
 | n+1,s,t,K,K',h,hK,e=>hb s t _ _ h (zCP (λs t hst e=>zF8 hb n hst hK e) hK) e
theorem zIH{r:CR}{m:Nat}:∀(c:Code) {s t:St} {K K':Ex->St->Option CR},Le [] s t->Mono r K K'->exec E m call c s K=some r->exec E m call c t K'=some r:=by
 intro c;induction c with
 | skip=>intro s t K K' h hK e;exact hK .normal s t h e
 | label l=>intro s t K K' h hK e;exact hK .normal s t h e
 | region id ops draw=>intro s t K K' h hK e;exact zHn h (λs t hst=>hK .normal s t hst) e
 | seq a b iha ihb=>intro s t K K' h hK e;exact iha h (zCP (λs t hst e=>ihb hst hK e) hK) e
 | cond c a b iha ihb =>
  intro s t K K' h hK e;simp only[exec] at e ⊢;obtain⟨v,h1,e1⟩:=zA e;obtain⟨x,h2,e2⟩:=zA e1;rw[Jk h h1 (by rintro rfl;simp[asB] at h2),zG,h2,zG]
  cases x with
  | true=>exact iha h hK e2
  | false=>exact ihb h hK e2
 | block id c ih=>intro s t K K' h hK e;exact ih h (zHQ id hK) e
 | scope c ih=>intro s t K K' h hK e;exact ih h hK e
 | loop c ih=>intro s t K K' h hK e;exact zF8 (λs t K K' h hK e=>ih h hK e) m h hK e
 | exit id=>intro s t K K' h hK e;exact hK (.exit id) s t h e
 | ret=>intro s t K K' h hK e;exact hK .ret s t h e
 | _=>intro s t K K' h hK e;simp[exec] at e
theorem zCT(h:Le [] s t):∀{rs:List ResultVar} {vs:List AV},zDx E s rs=some vs->(∀v∈vs,v≠.undef)->zDx E t rs=some vs
 | [],vs,e,_=>e
 | x :: rs,vs,e,hn=>by
  simp only[zDx] at e ⊢;obtain⟨v,h1,e1⟩:=zA e;obtain⟨us,h2,e2⟩:=zA e1;injection e2 with e2;subst e2
  rw[zCT h h2 λu hu=>hn u (by simp[hu])]
  have hv:v≠.undef:=hn v (by simp)
  have:zIP E t x=some v:=by
   cases x with
   | tmp i =>
    simp only[zIP] at h1 ⊢;rcases h.tm i with ⟨g1,_⟩ | g1
    ·rw[g1] at h1;injection h1 with h1;exact absurd h1.symm hv
    ·rw[<-g1];exact h1
   | cell a ty =>
    simp only[zIP] at h1 ⊢;obtain⟨p,g1,e3⟩:=zA h1;obtain⟨ef,g2,e4⟩:=zA e3;have hp:p≠.undef:=by rintro rfl;unfold JJ at g2;obtain⟨td,_,e5⟩:=zA g2;cases e5
    rcases h.tm a with ⟨k1,_⟩ | k1
    ·rw[k1] at g1;injection g1 with g1;exact absurd g1.symm hp
    ·rw[<-k1,g1,zG,zJi h.hle g2,zG];exact e4
  rw[this];rfl
theorem freshR_noU{v:AV}{r:CR}(e:zAM s v=some r):v≠.undef:=by rintro rfl;simp[zAM] at e
theorem freshR_le(h:Le [] s t){v:AV}{r:CR}(e:zAM s v=some r):zAM t v=some r:=by
 unfold zAM at e ⊢;split at e
 ·exact e
 ·split at e
  ·rename_i hs;rw[h.hle _ _ hs];exact e
  ·cases e
 ·cases e
theorem fin_le(h:Le [] s t){fresh:Bool}{fn:Func}{r:CR}(e:fin E fresh fn s=some r):fin E fresh fn t=some r:=by
 unfold fin at e ⊢;obtain⟨vs,h1,e1⟩:=zA e;split at e1
 ·rename_i v;cases fresh with
  | true =>
   simp only at e1;rw[zCT h h1 (by intro u hu;simp only[List.mem_cons,List.not_mem_nil,or_false] at hu;subst hu;exact freshR_noU e1),zG]
   exact freshR_le h e1
  | false =>
   simp only at e1;obtain⟨x,h2,e2⟩:=zA e1;rw[zCT h h1 (by intro u hu;simp only[List.mem_cons,List.not_mem_nil,or_false] at hu;subst hu;rintro rfl;rw[zEX] at h2;cases h2),zG]
   simp only[qv h.hle _ _ _ h2,zG];exact e2
 ·rename_i hne;obtain⟨xs,h2,e2⟩:=zA e1;rw[zCT h h1 (zGx h2),zG];split
  ·rename_i v;exact absurd rfl (hne v)
  ·rw[zJK h.hle h2,zG];exact e2
end
theorem zHF(live:List Nat):∀(n:Nat) (tm:List AV) (i:Nat),((zEr live n tm)[i]? = some .undef/\(tm[i]?).isSome=true)\/(zEr live n tm)[i]? = tm[i]?
 | n,[],i=>.inr rfl
 | n,v :: r,0=>by
  simp only[zEr,List.getElem?_cons_zero];split
  ·exact .inr rfl
  ·exact .inl ⟨rfl,rfl⟩
 | n,v :: r,i+1=>by simp only[zEr,List.getElem?_cons_succ];exact zHF live (n+1) r i
theorem zHG(ss:List Nat):∀(n:Nat) (hp:List (Option OB)) (b:Nat),((zIV ss n hp)[b]? = some none/\(hp[b]?).isSome=true)\/(zIV ss n hp)[b]? = hp[b]?
 | n,[],b=>.inr rfl
 | n,o :: r,0=>by
  simp only[zIV,List.getElem?_cons_zero];split
  ·exact .inr rfl
  ·exact .inl ⟨rfl,rfl⟩
 | n,o :: r,b+1=>by simp only[zIV,List.getElem?_cons_succ];exact zHG ss (n+1) r b
theorem JT(L:List Nat)(st:St):Le [] (forget L st) st:=by
 refine⟨zHF L 0 st.tm,λb=>?_⟩
 rcases zHG ((zEr L 0 st.tm).flatMap (reach st.hp zp)) 0 st.hp b with ⟨h1,h2⟩ | h1
 ·exact .inl ⟨h1,h2,by simp⟩
 ·exact .inr h1
end Go.Am
namespace Go.Am
open Go.Proofs
open Go Go.RowKit
theorem frcV_eq(v:AV)(k:AV->Tr):frcV v k=k v:=by cases v <;> rfl
theorem zIE:∀(l:List AV) (k:List AV->Tr),frcL l k=k l
 | [],k=>rfl
 | v :: r,k=>by simp only[frcL,frcV_eq,zIE r]
theorem frcB_eq(b:Blk)(k:Blk->Tr):frcB b k=k b:=by cases b <;> simp only[frcB,zIE]
theorem frcZ_eq(z:Bool)(k:Bool->Tr):frcZ z k=k z:=by cases z <;> rfl
theorem zIF:∀(l:List (Option OB)) (k:List (Option OB)->Tr),frcH l k=k l
 | [],k=>rfl
 | none :: r,k=>by simp only[frcH,zIF r]
 | some ⟨z,b⟩ :: r,k=>by simp only[frcH,frcZ_eq,frcB_eq,zIF r]
theorem zAN(st:St)(k:St->Tr):frc st k=k st:=by simp only[frc,zIE,zIF]
theorem zF1{l:List AV}{i:Nat}{v:AV}(h:l[i]? = some v):l.set i v=l:=by
 apply List.ext_getElem?;intro j;by_cases e:i=j
 ·subst e;have hlt:i<l.length:=(List.getElem?_eq_some_iff.1 h).1;rw[List.getElem?_set_self hlt,h]
 ·rw[List.getElem?_set_ne e]
section
variable{E:Env}{X:XC}{F:XF}{call:FuncId->List DV->Option CR}{go:Nat->St->Option CR}{r:CR}
theorem zEs{ops:List Oper}{o:Oper}{tm:List AV}{k:Bool->List AV->Tr}(h:run call go (zIW ops o tm k)=some r):∃b,jc ops o tm=some b/\run call go (k b tm)=some r:=by
 unfold zIW at h;unfold jc;split at h
 ·rename_i hg;rw[hg];exact⟨true,rfl,h⟩
 ·rename_i j want hg;rw[hg];simp only;split at h
  ·rename_i g hj;rw[hj];simp only;split at h
   ·rename_i t ht;rw[ht];simp only;split at h
    ·rename_i b hb;rw[hb];simp only;rcases QR h with ⟨h1,h⟩ | ⟨h1,h⟩
     ·subst h1;rw[zF1 hb] at h;cases want
      ·exact⟨false,rfl,h⟩
      ·exact⟨true,rfl,h⟩
     ·subst h1;rw[zF1 hb] at h;cases want
      ·exact⟨true,rfl,h⟩
      ·exact⟨false,rfl,h⟩
    ·rename_i hb;rw[hb];exact⟨false,rfl,h⟩
    ·exact za h
   ·exact za h
  ·exact za h
theorem setK_eq:∀(l:List AV) (i:Nat) (v:AV) (k:List AV->Tr),setK l i v k=k (l.set i v)
 | [],i,v,k=>rfl
 | x :: r,0,v,k=>by simp only[setK,frcV_eq,List.set_cons_zero]
 | x :: r,n+1,v,k=>by simp only[setK,setK_eq r n v,List.set_cons_succ]
theorem zJV(tm:List AV)(d:Option Tmp)(v:AV)(k:List AV->Tr):putK' tm d v k=k (jh tm d v):=by
 cases d with
 | none=>rfl
 | some t=>exact setK_eq tm t v k
theorem zG5{ef:Eff}(h:ef.quiet=true):ef={ v:=ef.v }:=by obtain⟨v,n,u,k,f⟩:=ef;unfold Eff.quiet at h;cases n <;> cases u <;> cases k <;> cases f <;> simp at h ⊢
theorem zEV{o:Oper}{st:St}{k:St->Tr}(h:run call go (zIO E X F o st k)=some r):∃st',YN E (jr E call) o st=some st'/\run call go (k st')=some r:=by
 unfold zIO at h;obtain⟨ef,h1,h0⟩:=opX_run h;clear h;cases hq:ef.quiet with
 | true =>
  rw[hq] at h0;simp only at h0;rw[zJV] at h0;have e:=zG5 hq;refine⟨⟨jh st.tm o.dst ef.v,st.hp⟩,?_,h0⟩;unfold YN;rw[h1,zG,e];simp[Eff.ok,zj,freezeL,zCh,zDl]
 | false =>
 rw[hq] at h0;have h:=h0;clear h0;obtain⟨h2,h⟩:=zg h;unfold YN;rw[h1,zG,h2,zR];split at h
 ·rename_i hn;rw[zAN] at h;rw[hn];exact⟨_,rfl,h⟩
 ·rename_i b hn;obtain⟨h3,h⟩:=zg h;rw[zAN] at h;rw[hn];simp only[h3,zR];exact⟨_,rfl,h⟩
theorem stepFX_run{loud:Bool}{may:Option Nat}{o:Oper}{st:St}{k:St->Tr}(h:run call go (stepFX E X F loud may o st k)=some r):∃st',zCQ E (jr E call) loud may o st=some st'/\run call go (k st')=some r:=by
 unfold stepFX at h;obtain⟨ef,h1,h0⟩:=opX_run h;clear h;cases hq:ef.quiet with
 | true =>
  rw[hq] at h0;simp only at h0;rw[zJV] at h0;have e:=zG5 hq;refine⟨⟨jh st.tm o.dst ef.v,st.hp⟩,?_,h0⟩;unfold zCQ;rw[h1,zG,e];simp[Eff.ok,zj,freezeL,zCh,zDl]
 | false =>
 rw[hq] at h0;have h:=h0;clear h0;obtain⟨h2,h⟩:=zg h;unfold zCQ;rw[h1,zG,h2,zR];split at h
 ·rename_i hn;rw[zAN] at h;rw[hn];exact⟨_,rfl,h⟩
 ·rename_i b hn;obtain⟨h3,h⟩:=zg h;rw[zAN] at h;rw[hn];simp only[h3,zR];exact⟨_,rfl,h⟩
theorem zAi{ops:List Oper}:∀{l:List Oper} {st:St} {Kx:St->Tr} {K:St->Option CR},(∀st,run call go (Kx st)=some r->K st=some r) ->
  run call go (zCk E X F ops l st Kx)=some r->QT (YN E (jr E call)) ops l st K=some r
 | [],st,Kx,K,hK,h=>hK st h
 | o :: l,st,Kx,K,hK,h=>by
  simp only[zCk] at h;obtain⟨b,h1,h⟩:=zEs h;simp only[QT,h1,zG];cases b with
  | true =>
   obtain⟨st',h2,h⟩:=zEV h;have h2':YN E (jr E call) o st=some st':=h2;simp only[h2',zG];exact zAi hK h
  | false=>exact zAi hK h
theorem YF{ops:List Oper}:∀{l:List (Oper×Bool)} {st:St} {Kx:St->Tr} {K:St->Option CR},(∀st,run call go (Kx st)=some r->K st=some r) ->
  run call go (qQ E X F ops l st Kx)=some r->YD E (jr E call) ops l st K=some r
 | [],st,Kx,K,hK,h=>hK st h
 | (o,pv) :: l,st,Kx,K,hK,h=>by
  simp only[qQ] at h;obtain⟨b,h1,h⟩:=zEs h;simp only[YD,h1,zG];cases b with
  | true =>
   cases pv with
   | true =>
    obtain⟨st',h2,h⟩:=zEV h;have h2':YN E (jr E call) o st=some st':=h2;simp only[h2',zG];exact YF hK h
   | false =>
    obtain⟨st',h2,h⟩:=stepFX_run h;have h2':zCQ E (jr E call) (cls ops o.op).loud (qa ops o.op) o st=some st':=h2;simp only[h2',zG];exact YF hK h
  | false=>exact YF hK h
theorem zCb:∀(l:List Bool) (k:List Bool->Tr),frcBL l k=k l
 | [],_=>rfl
 | true :: r,k=>zCb r _
 | false :: r,k=>zCb r _
theorem zES(ops:List Oper):ops.zip (pivots ops)=ops.zipIdx.map λ(o,i)=>(o,pivot ops i):=by
 apply List.ext_getElem
 ·simp[pivots]
 ·intro i h1 h2;simp[pivots]
theorem zED{ops:List Oper}{draw:Bool}{st:St}{Kx:St->Tr}{K:St->Option CR}(hK:∀st,run call go (Kx st)=some r->K st=some r)
  (h:run call go (zBc E X F ops draw st Kx)=some r):JS E (jr E call) ops draw st K=some r:=by
 cases draw with
 | false=>exact zAi hK h
 | true =>
  simp only[zBc] at h;simp only[JS];cases h0:zAK ops with
  | true =>
   rw[h0] at h;simp only at h;rw[zCb,zAN,zES] at h;exact YF hK h
  | false =>
   rw[h0] at h;simp only at h;obtain⟨h1,h⟩:=zg h;rw[zCb,zAN,zES] at h;simp only[h1,zR];refine YF (λst h=>?_) h
   obtain⟨h2,h⟩:=zg h;rw[h2,zR];exact hK st h
theorem zJM{st:St}{c:Operand}{v:AV}{b:Bool}(h1:evO E st.tm c=some v)(h2:asB v=some b):setTm st c b=st:=by
 cases c with
 | tmp t =>
  simp only[evO] at h1;have hv:v=.d (.bool b):=by
   unfold asB at h2;split at h2
   ·injection h2 with h2;rw[h2]
   ·cases h2
  subst hv;simp only[setTm,zF1 h1]
 | _=>rfl
end
section
variable{E:Env}{X:XC}{F:XF}{call:FuncId->List DV->Option CR}{head:Nat->St->Tr}{r:CR}{M:Nat}
def InL(c:Code)(n q j:Nat):Prop:=(n<=j/\j<n+zw c/\j<1000)\/(1000+q<=j/\j<1000+q+jt c)
theorem zGA{j n q:Nat}(h:(j<1000/\j<n)\/(1000<=j/\j<1000+q)):inA j n q=true:=by
 unfold inA;rcases h with ⟨h1,h2⟩ | ⟨h1,h2⟩
 ·simp[h1,h2]
 ·rw[decide_eq_false (by omega)];simp[h2]
theorem zHH{j n q:Nat}(h:(j<1000/\n<=j)\/(1000<=j/\1000+q<=j)):inA j n q=false:=by
 unfold inA;rcases h with ⟨h1,h2⟩ | ⟨h1,h2⟩
 ·simp[h1,h2]
 ·rw[decide_eq_false (by omega)];simp[h2]
theorem zDI:∀(c:Code) (m0:Nat) (_:m0<=M) (n q:Nat) (_:n+zw c<=1000) (Kx:Ex->St->Tr) (K:Ex->St->Option CR),
  (∀j,InL c n q j->∀st,head j st=JX E X F j c n q Kx st) ->
  (∀p,p<=m0->∀e st,run call (goX call head p) (Kx e st)=some r->K e st=some r)->Mono r K K ->
  ∀p,p<=m0->∀st,run call (goX call head p) (Jw E X F c n q st Kx)=some r->exec E M (jr E call) c st K=some r:=by
 intro c;induction c with
 | skip=>intro m0 hM n q hN Kx K hh hK hm p hp st h;exact hK p hp .normal st h
 | label l=>intro m0 hM n q hN Kx K hh hK hm p hp st h;exact hK p hp .normal st h
 | region id ops draw=>intro m0 hM n q hN Kx K hh hK hm p hp st h;exact zED (λst=>hK p hp .normal st) h
 | seq a b iha ihb =>
  intro m0 hM n q hN Kx K hh hK hm p hp st h;have hla:zw (.seq a b)=zw a+zw b:=rfl;have hsa:jt (.seq a b)=jt a+jt b+1:=rfl;have hb:∀m,m<=m0->∀st,run call (goX call head m) (Jw E X F b (n+zw a) (q+1+jt a) st Kx)=some r->exec E M (jr E call) b st K=some r:=by
   refine ihb m0 hM (n+zw a) (q+1+jt a) (by omega) Kx K (λj hj st=>?_) hK hm
   unfold InL at hj;rw[hh j (by unfold InL;omega)]
   simp only[JX,decide_eq_false (show ¬j=1000+q by omega),zHH (j:=j) (n:=n+zw a) (q:=q+1+jt a) (by omega)]
  have hmono:Mono r (QF (λst'=>exec E M (jr E call) b st' K) K) (QF (λst'=>exec E M (jr E call) b st' K) K):=zCP (λs t hst e=>zIH b hst hm e) hm
  show exec E M (jr E call) a st (QF (λst'=>exec E M (jr E call) b st' K) K)=some r
  simp only[Jw] at h;cases hc:F.cuts.lookup q with
  | none =>
   rw[hc] at h;refine iha m0 hM n (q+1) (by omega) (zBY (λst'=>Jw E X F b (n+zw a) (q+1+jt a) st' Kx) Kx) _ (λj hj st=>?_) (λp hp e st h=>?_) hmono p hp st h
   ·unfold InL at hj;rw[hh j (by unfold InL;omega)]
    simp only[JX,decide_eq_false (show ¬j=1000+q by omega),zGA (j:=j) (n:=n+zw a) (q:=q+1+jt a) (by omega),hc]
   ·cases e with
    | normal=>exact hb p hp st h
    | exit i=>exact hK p hp (.exit i) st h
    | ret=>exact hK p hp .ret st h
  | some live =>
   rw[hc] at h;refine iha m0 hM n (q+1) (by omega) (zBY (λst'=>frc (forget live st') (.goto (1000+q))) Kx) _ (λj hj st=>?_) (λp hp e st h=>?_) hmono p hp st h
   ·unfold InL at hj;rw[hh j (by unfold InL;omega)]
    simp only[JX,decide_eq_false (show ¬j=1000+q by omega),zGA (j:=j) (n:=n+zw a) (q:=q+1+jt a) (by omega),hc]
   ·cases e with
    | normal =>
     simp only[zBY,zAN,run] at h;show exec E M (jr E call) b st K=some r;cases p with
     | zero=>simp[goX] at h
     | succ p =>
      simp only[goX] at h;rw[hh (1000+q) (by unfold InL;omega)] at h
      simp only[JX,decide_true] at h;exact zIH b (JT _ st) hm (hb p (by omega) _ h)
    | exit i=>exact hK p hp (.exit i) st h
    | ret=>exact hK p hp .ret st h
 | cond c a b iha ihb =>
  intro m0 hM n q hN Kx K hh hK hm p hp st h;have hla:zw (.cond c a b)=zw a+zw b:=rfl;have hsa:jt (.cond c a b)=jt a+jt b:=rfl;simp only[Jw] at h;obtain⟨v,h1,h⟩:=zU h;obtain⟨t,h2,h⟩:=zU h;simp only[exec,h1,h2,zG];rcases QR h with ⟨h3,h⟩ | ⟨h3,h⟩
  ·subst h3;rw[zJM h1 h2] at h;refine iha m0 hM n q (by omega) Kx K (λj hj st=>?_) hK hm p hp st h
   unfold InL at hj;rw[hh j (by unfold InL;omega)]
   simp only[JX,zGA (j:=j) (n:=n+zw a) (q:=q+jt a) (by omega)]
  ·subst h3;rw[zJM h1 h2] at h;refine ihb m0 hM (n+zw a) (q+jt a) (by omega) Kx K (λj hj st=>?_) hK hm p hp st h
   unfold InL at hj;rw[hh j (by unfold InL;omega)]
   simp only[JX,zHH (j:=j) (n:=n+zw a) (q:=q+jt a) (by omega)]
 | block id c ih =>
  intro m0 hM n q hN Kx K hh hK hm p hp st h;refine ih m0 hM n q hN (zId id Kx) (Qh id K) (λj hj st=>hh j hj st) (λp hp e st h=>?_) (zHQ id hm) p hp st h
  cases e with
  | normal=>exact hK p hp .normal st h
  | ret=>exact hK p hp .ret st h
  | exit i =>
   simp only[zId] at h;simp only[Qh];by_cases hi:i=id
   ·rw[if_pos hi];rw[show(i == id)=true by simp[hi]] at h
    exact hK p hp .normal st h
   ·rw[if_neg hi];rw[show(i == id)=false by simp[hi]] at h
    exact hK p hp (.exit i) st h
 | scope c ih=>intro m0 hM n q hN Kx K hh hK hm p hp st h;exact ih m0 hM n q hN Kx K (λj hj st=>hh j hj st) hK hm p hp st h
 | exit id=>intro m0 hM n q hN Kx K hh hK hm p hp st h;exact hK p hp (.exit id) st h
 | ret=>intro m0 hM n q hN Kx K hh hK hm p hp st h;exact hK p hp .ret st h
 | loop c ih =>
  intro m0 hM n q hN Kx K hh hK hm p hp st h;have hn:zw (.loop c)=zw c+1:=rfl;have hs:jt (.loop c)=jt c:=rfl;have lmono:∀N,∀{s t:St},Le [] s t->Q3 (exec E M (jr E call) c) N s K=some r->Q3 (exec E M (jr E call) c) N t K=some r :=
   λN s t hst e=>zF8 (λs t K K' h hK e=>zIH c h hK e) N hst hm e
  have claim:∀p,p<=m0->∀st,goX call head p n st=some r->∀N,p<=N->Q3 (exec E M (jr E call) c) N st K=some r:=by
   intro p;induction p using Nat.strongRecOn with
   | _ p ihp =>
    intro hp st h N hN';cases p with
    | zero=>simp[goX] at h
    | succ p =>
     cases N with
     | zero=>omega
     | succ N =>
      simp only[goX] at h;rw[hh n (by unfold InL;omega)] at h
      simp only[JX,decide_true] at h;refine ih p (by omega) (n+1) q (by omega) (zBY (λst'=>frc (forget (F.live.getD n []) st') (.goto n)) Kx) (QF (λst'=>Q3 (exec E M (jr E call) c) N st' K) K) (λj hj st=>?_) (λp' hp' e st h=>?_)
       (zCP (λs t hst e=>lmono N hst e) hm) p (Nat.le_refl p) st h
      ·unfold InL at hj;rw[hh j (by unfold InL;omega)]
       simp only[JX,decide_eq_false (show ¬j=n by omega)]
      ·cases e with
       | normal =>
        simp only[zBY,zAN,run] at h;simp only[QF];exact lmono N (JT _ st) (ihp p' (by omega) (by omega) _ h N (by omega))
       | exit i=>exact hK p' (by omega) (.exit i) st h
       | ret=>exact hK p' (by omega) .ret st h
  simp only[Jw,zAN,run] at h;show Q3 (exec E M (jr E call) c) M st K=some r;exact lmono M (JT _ st) (claim p hp _ h M (by omega))
 | _=>intro m0 hM n q hN Kx K hh hK hm p hp st h;simp[Jw,run] at h
end
section
variable{P:Program}{E:Env}{S:Nat->Prop}{w:World}
theorem zCe{f:TypeId->DV->DV}:∀(ts:List TypeId) (xs:List DV),(zJw f ts xs).length=xs.length/\∀i (h:i<xs.length) (h':i<(zJw f ts xs).length),(zJw f ts xs)[i]=xs[i]\/∃t,(zJw f ts xs)[i]=f t xs[i]
 | [],xs=>by cases xs <;> exact⟨rfl,λi h h'=>.inl rfl⟩
 | t :: ts,[]=>⟨rfl,λi h h'=>by simp at h⟩
 | t :: ts,x :: xs=>by
  obtain⟨h1,h2⟩:=zCe (f:=f) ts xs;refine⟨by simp[zJw,h1],λi h h'=>?_⟩
  cases i with
  | zero=>exact .inr ⟨t,rfl⟩
  | succ i=>exact h2 i (by simpa using h) (by simpa[zJw] using h')
theorem cnE_RD(t:TypeId)(x:DV)(cs:List Value)(h:RD E.L S w x cs):RD E.L S w (cnE E t x) cs:=by
 unfold cnE;split
 ·exact h
 ·split
  ·split
   ·split
    ·cases h with
     | nl a=>exact .sl _ [] a 0 0 [] rfl (Nat.le_refl 0) rfl (λi h=>by simp at h) (by simp) (by simp)
    ·exact h
   ·exact h
  ·exact h
theorem cnT_RD:∀(n:Nat) (t:TypeId) (x:DV) (cs:List Value),RD E.L S w x cs->RD E.L S w (cnT E n t x) cs/\(cnT E n t x).isAgg=x.isAgg/\(cnT E n t x).isTup=x.isTup
 | 0,t,x,cs,h=>⟨h,rfl,rfl⟩
 | n+1,t,x,cs,h=>by
  simp only[cnT];split
  ·exact⟨h,rfl,rfl⟩
  ·split
   ·exact⟨h,rfl,rfl⟩
   ·split
    ·split
     ·split
      ·cases h with
       | nl a=>exact⟨.sl _ [] a 0 0 [] rfl (Nat.le_refl 0) rfl (λi h=>by simp at h) (by simp) (by simp),rfl,rfl⟩
      ·split
       ·cases h with
        | sl sz xs a n' c css hn hc hl hx hz hm =>
         refine⟨.sl _ _ a n' c css (by simpa using hn) hc (by simpa using hl) (λi h1 h2=>?_) hz hm,rfl,rfl⟩
         simp only[List.getElem_map];exact cnE_RD _ _ _ (hx i (by simpa using h1) h2)
       ·exact⟨h,rfl,rfl⟩
      ·exact⟨h,rfl,rfl⟩
     ·exact⟨h,rfl,rfl⟩
    ·split
     ·split
      ·cases h with
       | agg tag fs css hl hx hz =>
        have key:=λl=>zCe (f:=cnT E n) (E.flds t) l
        refine⟨.agg _ _ css (by rw[(key _).1];exact hl) (λi k1 k2=>?_) hz,rfl,rfl⟩
        have k3:=k1;rw[(key _).1] at k3;have hi:=hx i k3 k2;rcases (key _).2 i k3 k1 with e | ⟨t',e⟩
        ·rw[e];exact hi
        ·rw[e];exact(cnT_RD n t' _ _ hi).1
      ·exact⟨h,rfl,rfl⟩
     ·exact⟨h,rfl,rfl⟩
    ·exact⟨h,rfl,rfl⟩
theorem cnT_tup(n:Nat)(t:TypeId)(xs:List DV):cnT E n t (.tup xs)=.tup xs:=by
 cases n with
 | zero=>rfl
 | succ n =>
  simp only[cnT];split
  ·rfl
  ·split
   ·rfl
   ·split
    ·split <;> rfl
    ·rfl
    ·rfl
theorem cnT_RV{n:Nat}{t:TypeId}{x:DV}{v:Value}(h:RV E.L S w x v):RV E.L S w (cnT E n t x) v:=by
 cases hx:x.isTup with
 | true =>
  cases x <;> simp[DV.isTup] at hx
  rw[cnT_tup];exact h
 | false =>
  obtain⟨h1,h2⟩:=RV.rd hx h;obtain⟨k1,k2,k3⟩:=cnT_RD n t x _ h1;exact RV.of (by rw[k3,hx]) k1 (by rw[k2];exact h2)
theorem cnArgs_RV{f:FuncId}{ds:List DV}{us:List Value}(h:∀i (h:i<ds.length) (h':i<us.length),RV E.L S w ds[i] us[i]) :
  (zu E f ds).length=ds.length/\∀i (h:i<(zu E f ds).length) (h':i<us.length),RV E.L S w (zu E f ds)[i] us[i]:=by
 unfold zu;split
 ·rename_i fn _;obtain⟨h1,h2⟩:=zCe (f:=cnT E shD) fn.params.toList ds;refine⟨h1,λi k1 k2=>?_⟩
  have k3:i<ds.length:=h1 ▸ k1;rcases h2 i k3 k1 with e | ⟨t',e⟩
  ·simp only[e];exact h i k3 k2
  ·simp only[e];exact cnT_RV (h i k3 k2)
 ·exact⟨rfl,h⟩
theorem zAt{call:FuncId->List DV->Option CR}(hc:jv P E call):jv P E (jr E call):=by
 intro f ds r h;obtain⟨h1,h2⟩:=hc f _ r h;refine⟨h1,λS w us hg hlt hlen hrv=>?_⟩
 obtain⟨k1,k2⟩:=cnArgs_RV (f:=f) hrv;exact h2 S w us hg hlt (by rw[hlen,k1]) k2
def zCA(E:Env)(fresh:Bool)(fn:Func)(r:CR):CR :=
 match fresh with
 | true=>r
 | false=>match r with
  | .val x=>.val (cnRes E fn x)
  | r=>r
theorem cnRes_RV{fn:Func}{x:DV}{v:Value}(h:RV E.L S w x v):RV E.L S w (cnRes E fn x) v:=by
 unfold cnRes;split
 ·exact cnT_RV h
 ·split
  ·rename_i ts _ xs;obtain⟨vs,e,hl,hx⟩:=h;obtain⟨h1,h2⟩:=zCe (f:=cnT E shD) fn.resultTypes.toList xs;refine⟨vs,e,by rw[hl,h1],λi k1 k2=>?_⟩
   have hi:=hx i (by omega) k2
   rcases h2 i (by omega) k1 with e | ⟨t',e⟩
   ·rw[e];exact hi
   ·obtain⟨j1,j2,j3⟩:=cnT_RD shD t' _ _ hi.1;rw[e];exact⟨j1,by rw[j2];exact hi.2⟩
  ·exact h
theorem qz{fresh:Bool}{fn:Func}{r:CR}{v:Value}{w':World}(h:zAR E S w r v w'):zAR E S w (zCA E fresh fn r) v w':=by
 unfold zCA;split
 ·exact h
 ·split
  ·obtain⟨S',h1,h2,h3,h4,h5⟩:=h;exact⟨S',h1,h2,h3,h4,cnRes_RV h5⟩
  ·exact h
theorem qV{call:FuncId->List DV->Option CR}{go:Nat->St->Option CR}{r:CR}{fresh:Bool}{fn:Func}{e:Ex}{st:St}(h:run call go (zHL E fresh fn e st)=some r) :
  bnd (zEy E fresh fn e st) (λr0=>some (zCA E fresh fn r0))=some r:=by
 have key:run call go (finX E fresh fn st)=some r->bnd (fin E fresh fn st) (λr0=>some (zCA E fresh fn r0))=some r:=by
  intro h;unfold finX at h;obtain⟨vs,h1,h⟩:=zU h;unfold fin;rw[h1,zG];split at h
  ·rename_i v;split at h
   ·unfold freshX at h;simp only;split at h
    ·simp only[run] at h;simp only[zAM,zG,zCA];exact h
    ·split at h
     ·rename_i hs;obtain⟨h2,h⟩:=zg h;obtain⟨h3,h⟩:=z7 h;simp only[Bool.and_eq_true,beq_iff_eq] at h2;simp only[decide_eq_true_eq] at h3;simp only[run] at h;simp only[zAM,hs,h2.1,h2.2,h3,and_self,if_true,zG,zCA];exact h
     ·exact za h
    ·exact za h
   ·obtain⟨x,h2,h⟩:=JR zp v _ h;obtain⟨h3,h⟩:=zg h;simp only[run] at h;simp only[h2,zG,h3,zR,zCA];exact h
  ·rename_i hne;obtain⟨xs,h2,h⟩:=Ju (λv k=>JR zp v k) h
   obtain⟨h3,h⟩:=zg h;simp only[run] at h;rw[<-QN] at h2;split
   ·rename_i v;exact absurd rfl (hne v)
   ·rw[h2,zG,h3,zR,zG];simp only[Bool.and_eq_true,Bool.not_eq_true'] at h3;simp only[h3.1,zCA];exact h
 cases e with
 | normal=>exact key h
 | ret=>exact key h
 | exit i=>simp[zHL,run] at h
theorem Yg{fresh:Bool}{fn:Func}{r:CR}:Mono r (λe st=>bnd (zEy E fresh fn e st) (λr0=>some (zCA E fresh fn r0))) (λe st=>bnd (zEy E fresh fn e st) (λr0=>some (zCA E fresh fn r0))):=by
 intro e s t hst h;obtain⟨r0,h1,h2⟩:=zA h;have key:fin E fresh fn s=some r0->bnd (fin E fresh fn t) (λr0=>some (zCA E fresh fn r0))=some r:=λh1=>by rw[fin_le hst h1,zG];exact h2
 cases e with
 | normal=>exact key h1
 | ret=>exact key h1
 | exit i=>simp[zEy] at h1
theorem map_dp:∀{l:List DV},l.all zIC=true->(l.map λx=>DV.dp (undp x))=l
 | [],_=>rfl
 | x :: l,h=>by
  simp only[List.all_cons,Bool.and_eq_true] at h;have e:DV.dp (undp x)=x:=by
   cases x with
   | dp y=>rfl
   | _=>simp[zIC] at h
  simp only[List.map_cons,e,map_dp h.2]
theorem zBr{call:FuncId->List DV->Option CR}{go:Nat->St->Option CR}{r:CR}{F:XF}{fn:Func}{ds:List DV}{k:St->Tr}(hlen:fn.params.toList.length+F.caps<=fn.ntmps)
  (h:run call go (zGY E F fn ds k)=some r):ds.length<=fn.ntmps/\run call go (k (entry fn ds))=some r:=by
 unfold zGY at h;split at h
 ·rename_i hc;rw[hc] at hlen;obtain⟨hsh,h⟩:=z7 h;have hdl:=zDC hsh;rw[Q6 (λt x=>zAC shD t x) hsh,<-hdl] at h
  exact⟨by omega,h⟩
 ·rename_i c hc;rw[hc] at hlen;obtain⟨hg,h⟩:=z7 h;simp only[Bool.and_eq_true,decide_eq_true_eq] at hg;obtain⟨⟨h1,h2⟩,h3⟩:=hg;have hdl:=zDC h1;rw[Q6 (λt x=>zAC shD t x) h1,map_dp h3,List.take_append_drop] at h
  have hl:ds.length=fn.params.toList.length+(c+1):=by have:=List.length_drop (l:=ds) (i:=fn.params.toList.length);have:=List.length_take (l:=ds) (i:=fn.params.toList.length);omega
  rw[<-hl] at h;exact⟨by omega,h⟩
end
end Go.Am
namespace Go.Am
open Go.Proofs
open Go
def Sub(call call':FuncId->List DV->Option CR):Prop:=∀f a r,call f a=some r->call' f a=some r
def SubG(go go':Nat->St->Option CR):Prop:=∀j st r,go j st=some r->go' j st=some r
theorem YO{call call':FuncId->List DV->Option CR}{go go':Nat->St->Option CR}(hc:Sub call call')(hg:SubG go go'){r:CR}:∀t:Tr,run call go t=some r->run call' go' t=some r:=by
 intro t;induction t with
 | fail=>intro h;simp[run] at h
 | ret r'=>intro h;exact h
 | ifB b t e iht ihe =>
  intro h;rcases QR h with ⟨rfl,h⟩ | ⟨rfl,h⟩
  ·exact iht h
  ·exact ihe h
 | call f a kv kf ihv ihf =>
  intro h;rcases QS h with ⟨x,h1,h⟩ | ⟨s,xs,h1,h⟩
  ·simp only[run,hc _ _ _ h1,zI];exact ihv x h
  ·simp only[run,hc _ _ _ h1,zI];exact ihf s xs h
 | goto j st=>intro h;exact hg j st r h
theorem QZ{call call':FuncId->List DV->Option CR}(hc:Sub call call')(head:Nat->St->Tr):∀{n m:Nat},n<=m->SubG (goX call head n) (goX call' head m)
 | 0,m,_=>λj st r h=>by simp[goX] at h
 | n+1,0,hle=>by omega
 | n+1,m+1,hle=>λj st r h=>by simp only[goX] at h ⊢;exact YO hc (QZ hc head (by omega)) _ h
section
variable{E:Env}{X:XC}
end
def j7(E:Env)(f:FuncId):Func:=match E.F f with | some fn=>fn | none=>default
def YC(E:Env)(f:FuncId):Code:=match (j7 E f).body with | some c=>c | none=>.skip
section
variable{E:Env}{X:XC}
theorem zEj{α:Type}{a b:Option α}(h:∀r,a=some r ↔ b=some r):a=b:=by
 cases a with
 | none =>
  cases b with
  | none=>rfl
  | some y=>exact absurd ((h y).2 rfl) (by simp)
 | some x=>exact((h x).1 rfl).symm
end
end Go.Am
namespace Go.Am
open Go.Proofs
open Go
def bs(l:List Nat):ByteArray:=⟨(l.map UInt8.ofNat).toArray⟩
abbrev eI(n:Int):DV:=.int .i64 n
structure Pt where
 x:Int
 y:Int
 deriving DecidableEq,Inhabited
structure Tb where
 name:ByteArray
 at':Pt
 deriving DecidableEq,Inhabited
structure Si where
 name:ByteArray
 least:Int
 tb:List Tb
structure Wk where
 rule:ByteArray
 d:List Int
 w:List Int
structure Cu where
 p:List Int
 cut:Int
structure Fm where
 s:Si
 w:Wk
 c:Cu
 r:List (List Int)
structure Pn where
 ps:List Pt
 least:Int
 w:Wk
 c:Cu
 r:List (List Int)
abbrev ePt(p:Pt):DV:=.agg 1 [eI p.x,eI p.y]
abbrev eTb(t:Tb):DV:=.agg 9 [.str t.name,ePt t.at']
abbrev eSi(s:Si):DV:=.agg 0 [.str s.name,eI s.least,.sl 3 (s.tb.map eTb)]
abbrev eWk(w:Wk):DV:=.agg 0 [.str w.rule,.sl 1 (w.d.map eI),.sl 1 (w.w.map eI)]
abbrev eCu(c:Cu):DV:=.agg 1 [.sl 1 (c.p.map eI),eI c.cut]
abbrev jj(l:List Int):DV:=.agg 2 (l.map eI)
abbrev eRo(r:List (List Int)):DV:=.agg 3 (r.map jj)
abbrev eFm(f:Fm):DV:=.agg 4 [eSi f.s,eWk f.w,eCu f.c,eRo f.r]
abbrev ePn(p:Pn):DV:=.agg 6 [.sl 2 (p.ps.map ePt),eI p.least,eWk p.w,eCu p.c,eRo p.r]
def ints(l:List Int):List DV:=l.map (DV.int .i64)
def intsOf(x:DV):List Int:=(elems x).map zC
def ptX(p:DV):Int:=zC (nth (flds p) 0)
def ptY(p:DV):Int:=zC (nth (flds p) 1)
def relI(sec sx sy ax ay bx by':Int):Int×Int :=
 (if Int.tmod sec 2=1 then Int.fdiv ((bx - ax) * sx+(by' - ay) * sy) 2 else (bx - ax) * sx+(by' - ay) * sy,
  if 0 - ((bx - ax) * sy - (by' - ay) * sx)>(bx - ax) * sy - (by' - ay) * sx then 0 - ((bx - ax) * sy - (by' - ay) * sx) else (bx - ax) * sy - (by' - ay) * sx)
def zGa(d w:List Int)(steps off:Int):Int :=
 if steps<1\/steps>d.length\/off>w.getD (steps - 1).toNat 0 then 0 else d.getD (steps - 1).toNat 0
def wakesI(d w:List Int)(sec sx sy:Int)(ps:List (Int×Int)):List (List Int) :=
 (List.range ps.length).map λj=>(List.range ps.length).map λi =>
  if i=j then 0 else
   let a:=ps.getD i (0,0)
   let b:=ps.getD j (0,0)
   let r:=relI sec sx sy a.1 a.2 b.1 b.2
   zGa d w r.1 r.2
def zO:List Int->Int
 | []=>0
 | x :: r=>if x=0 then zO r else x
def zZ(n a b:Int):Int:=if n<a\/n>b then 3 else 0
def jf(s:ByteArray)(i:Nat):Nat:=(s[i]?.getD 0).toNat
def okAt(i c:Nat):Bool:=((decide (65<=c) && decide (c<=90)) || (decide (97<=c) && decide (c<=122))) || (!(i == 0) && (c == 95 || (decide (48<=c) && decide (c<=57))))
def Y6(s:ByteArray):Nat->Nat->Bool
 | _,0=>true
 | i,n+1=>okAt i (jf s i) && Y6 s (i+1) n
def jO(s:ByteArray):Bool:=decide (0<s.size) && decide (s.size<=24) && Y6 s 0 s.size
def ptE(p:Pt):Int:=zO [zZ p.x (-1000) 1000,zZ p.y (-1000) 1000]
def YG(p:Pt):Prop:=-1000<=p.x/\p.x<=1000/\-1000<=p.y/\p.y<=1000
def js(a b:Pt):Int:=(a.x - b.x) * (a.x - b.x)+(a.y - b.y) * (a.y - b.y)
def qw(n:ByteArray)(ks:List ByteArray):Bool:=ks.any λk=>decide (n=k)
def JW(least:Int)(prev:List Tb):List Tb->Int
 | []=>0
 | t :: r =>
  if zO [if jO t.name then 0 else 8,ptE t.at',if qw t.name (prev.map (·.name)) then 9 else 0]≠0 then zO [if jO t.name then 0 else 8,ptE t.at',if qw t.name (prev.map (·.name)) then 9 else 0]
  else if prev.any (λo=>decide (js t.at' o.at'<least * least)) then 15 else JW least (prev++[t]) r
def jb(s:Si):Int :=
 if zO [if jO s.name then 0 else 8,zZ s.least 1 1000,if (64:Int)<s.tb.length then 5 else 0]≠0 then zO [if jO s.name then 0 else 8,zZ s.least 1 1000,if (64:Int)<s.tb.length then 5 else 0]
 else JW s.least [] s.tb
def JE(hi:Int)(up:Bool)(prev:Option Int)(d:Int):Int :=
 zO [zZ d 0 hi,match prev with | some p=>if (if up then d<p else d>p) then 11 else 0 | none=>0]
def Ji(hi:Int)(up:Bool)(prev:Option Int):List Int->Int
 | []=>0
 | d :: r=>if JE hi up prev d=0 then Ji hi up (some d) r else JE hi up prev d
abbrev rG:ByteArray:=bs [103,114,101,97,116,101,115,116]
abbrev rS:ByteArray:=bs [115,113,117,97,114,101,115]
abbrev rM:ByteArray:=bs [115,117,109]
def jq(r:ByteArray):Bool:=qw r [rG,rS,rM]
def wakeH(w:Wk):Int:=zO [if jq w.rule then 0 else 13,if w.d=[] then 12 else 0,if (32:Int)<w.d.length then 5 else 0,if (w.w.length:Int)=w.d.length then 0 else 2]
def wakeE(w:Wk):Int :=
 if wakeH w=0 then
  if Ji 256 false none w.d=0 then Ji 100 true none w.w else Ji 256 false none w.d
 else wakeH w
def zo(n:Int):Pt :=
 if n=0 then ⟨0,-1⟩ else if n=1 then ⟨-1,-1⟩ else if n=2 then ⟨-1,0⟩ else if n=3 then ⟨-1,1⟩ else if n=4 then ⟨0,1⟩ else if n=5 then ⟨1,1⟩ else if n=6 then ⟨1,0⟩ else ⟨1,-1⟩
def qr(p st:Pt):Int:=p.x * st.x+p.y * st.y
def zB2(sec:Int)(st a b:Pt):Int×Int:=relI sec st.x st.y a.x a.y b.x b.y
def zDc(key:Nat->Int)(out:List Nat)(i:Nat):Nat->Nat
 | 0=>0
 | a+1=>if key (out.getD a 0)>key i then zDc key out i a else a+1
def insR(key:Nat->Int)(out:List Nat)(i:Nat):List Nat:=out.take (zDc key out i out.length)++[i]++out.drop (zDc key out i out.length)
def zr(key:Nat->Int):Nat->List Nat
 | 0=>[]
 | n+1=>insR key (zr key n) n
abbrev eN(n:Nat):DV:=eI (n:Int)
def JG(s:Si)(sec:Int)(i:Nat):Int:=qr ((s.tb.getD i default).at') (zo sec)
def ptOf(x:DV):Pt:=⟨zC (nth (flds x) 0),zC (nth (flds x) 1)⟩
def tbOf(x:DV):Tb:=⟨ze (nth (flds x) 0),ptOf (nth (flds x) 1)⟩
def siOf(x:DV):Si:=⟨ze (nth (flds x) 0),zC (nth (flds x) 1),(elems (nth (flds x) 2)).map tbOf⟩
def Jo(s:Si)(n:Int):List Nat×Int :=
 if jb s=0 then (if zZ n 0 7=0 then (zr (JG s n) s.tb.length,0) else ([],zZ n 0 7)) else ([],jb s)
end Go.Am
namespace Go.Am
open Go.Proofs
open Go Go.RowKit
def L0:List (List Nat) :=
 [[1,1,1],[1,1],List.replicate 51 1,[51,51,51,51,51,51,51,51],[3,3,2,408],[1,1,1,1],[1,1,3,2,408],[1,1,3],[1,1,1,1,1],[1,2],[2,2,2,2,2,2],[1,1,1,1,1,1],[1],[3,2,408],[1,1,1,1,1,1,1,1],[8,8,8,8,8,8,8,8],[415,413,64],[2,2,2,2,2,2,2,2]]
def td3:TD:={ k:=(.int .i64),size:=1,bytes:=8,zero:=(.int .i64 0),eqOK:=true }
def td4:TD:={ k:=.bool,size:=1,bytes:=1,zero:=(.bool false),eqOK:=true }
def td5:TD:={ k:=(.int .u8),size:=1,bytes:=1,zero:=(.int .u8 0),eqOK:=true }
def td9:TD:={ k:=.str,size:=1,bytes:=16,zero:=(.str ⟨#[]⟩),eqOK:=true }
def td21:TD:={ k:=(.int .i32),size:=1,bytes:=4,zero:=(.int .i32 0),eqOK:=true }
def td22:TD:={ k:=(.slice 143),size:=1,bytes:=24,zero:=.nl,eqOK:=true }
def td24:TD:={ k:=(.struct 0),size:=3,bytes:=48,zero:=(.agg 0 [(.str ⟨#[]⟩),(.int .i64 0),.nl]),eqOK:=true }
def td25:TD:={ k:=(.slice 3),size:=1,bytes:=24,zero:=.nl,eqOK:=true }
def td27:TD:={ k:=(.struct 0),size:=3,bytes:=64,zero:=(.agg 0 [(.str ⟨#[]⟩),.nl,.nl]),eqOK:=true }
def td29:TD:={ k:=(.struct 1),size:=2,bytes:=32,zero:=(.agg 1 [.nl,(.int .i64 0)]),eqOK:=true }
def td30:TD:={ k:=(.array 2 51 3),size:=51,bytes:=408,zero:=(.agg 2 (List.replicate 51 (.int .i64 0))),eqOK:=true }
def td32:TD:={ k:=(.array 3 8 30),size:=408,bytes:=3264,zero:=(.agg 3 (List.replicate 8 (.agg 2 (List.replicate 51 (.int .i64 0))))),eqOK:=true }
def td34:TD:={ k:=(.struct 4),size:=416,bytes:=3408,zero:=(.agg 4 [(.agg 0 [(.str ⟨#[]⟩),(.int .i64 0),.nl]),(.agg 0 [(.str ⟨#[]⟩),.nl,.nl]),(.agg 1 [.nl,(.int .i64 0)]),(.agg 3 (List.replicate 8 (.agg 2 (List.replicate 51 (.int .i64 0)))))]),eqOK:=true }
def td35:TD:={ k:=(.slice 69),size:=1,bytes:=24,zero:=.nl,eqOK:=true }
def td36:TD:={ k:=(.slice 225),size:=1,bytes:=24,zero:=.nl,eqOK:=true }
def td38:TD:={ k:=(.struct 5),size:=4,bytes:=72,zero:=(.agg 5 [(.str ⟨#[]⟩),(.int .i64 0),.nl,.nl]),eqOK:=true }
def td45:TD:={ k:=(.array 3 8 30),size:=408,bytes:=3264,zero:=(.agg 3 (List.replicate 8 (.agg 2 (List.replicate 51 (.int .i64 0))))),eqOK:=true }
def td46:TD:={ k:=(.int .i64),size:=1,bytes:=8,zero:=(.int .i64 0),eqOK:=true }
def td49:TD:={ k:=(.struct 5),size:=4,bytes:=72,zero:=(.agg 5 [(.str ⟨#[]⟩),(.int .i64 0),.nl,.nl]),eqOK:=true }
def td51:TD:={ k:=(.slice 5),size:=1,bytes:=24,zero:=.nl,eqOK:=true }
def td56:TD:={ k:=(.slice 176),size:=1,bytes:=24,zero:=.nl,eqOK:=true }
def td58:TD:={ k:=(.struct 0),size:=3,bytes:=48,zero:=(.agg 0 [(.str ⟨#[]⟩),(.int .i64 0),.nl]),eqOK:=true }
def td59:TD:={ k:=(.struct 0),size:=3,bytes:=64,zero:=(.agg 0 [(.str ⟨#[]⟩),.nl,.nl]),eqOK:=true }
def td60:TD:={ k:=(.struct 1),size:=2,bytes:=32,zero:=(.agg 1 [.nl,(.int .i64 0)]),eqOK:=true }
def td62:TD:={ k:=(.struct 4),size:=416,bytes:=3408,zero:=(.agg 4 [(.agg 0 [(.str ⟨#[]⟩),(.int .i64 0),.nl]),(.agg 0 [(.str ⟨#[]⟩),.nl,.nl]),(.agg 1 [.nl,(.int .i64 0)]),(.agg 3 (List.replicate 8 (.agg 2 (List.replicate 51 (.int .i64 0)))))]),eqOK:=true }
def td69:TD:={ k:=(.flt .f32),size:=1,bytes:=4,zero:=(.flt .f32 0),eqOK:=true }
def td72:TD:={ k:=(.struct 5),size:=4,bytes:=32,zero:=(.agg 5 [(.int .i64 0),(.int .i64 0),(.int .i64 0),(.int .i64 0)]),eqOK:=true }
def td73:TD:={ k:=.func,size:=1,bytes:=8,zero:=.nilFn,eqOK:=true }
def td74:TD:={ k:=.func,size:=1,bytes:=8,zero:=.nilFn,eqOK:=true }
def td81:TD:={ k:=(.slice 141),size:=1,bytes:=24,zero:=.nl,eqOK:=true }
def td83:TD:={ k:=(.struct 6),size:=415,bytes:=3392,zero:=(.agg 6 [.nl,(.int .i64 0),(.agg 0 [(.str ⟨#[]⟩),.nl,.nl]),(.agg 1 [.nl,(.int .i64 0)]),(.agg 3 (List.replicate 8 (.agg 2 (List.replicate 51 (.int .i64 0)))))]),eqOK:=true }
def td88:TD:={ k:=(.struct 6),size:=415,bytes:=3392,zero:=(.agg 6 [.nl,(.int .i64 0),(.agg 0 [(.str ⟨#[]⟩),.nl,.nl]),(.agg 1 [.nl,(.int .i64 0)]),(.agg 3 (List.replicate 8 (.agg 2 (List.replicate 51 (.int .i64 0)))))]),eqOK:=true }
def td95:TD:={ k:=(.slice 25),size:=1,bytes:=24,zero:=.nl,eqOK:=true }
def td107:TD:={ k:=(.slice 117),size:=1,bytes:=24,zero:=.nl,eqOK:=true }
def td108:TD:={ k:=(.int .u16),size:=1,bytes:=2,zero:=(.int .u16 0),eqOK:=true }
def td110:TD:={ k:=(.struct 0),size:=3,bytes:=24,zero:=(.agg 0 [(.int .i64 0),(.int .i64 0),(.int .i64 0)]),eqOK:=true }
def td112:TD:={ k:=(.struct 7),size:=5,bytes:=56,zero:=(.agg 7 [.nl,(.int .u16 0),(.agg 0 [(.int .i64 0),(.int .i64 0),(.int .i64 0)])]),eqOK:=true }
def td114:TD:={ k:=(.slice 120),size:=1,bytes:=24,zero:=.nl,eqOK:=true }
def td115:TD:={ k:=(.slice 121),size:=1,bytes:=24,zero:=.nl,eqOK:=true }
def td117:TD:={ k:=(.struct 1),size:=2,bytes:=2,zero:=(.agg 1 [(.int .u8 0),(.int .u8 0)]),eqOK:=true }
def td120:TD:={ k:=(.struct 8),size:=5,bytes:=40,zero:=(.agg 8 [(.int .i64 0),(.int .i64 0),(.int .i64 0),(.int .i64 0),(.int .i64 0)]),eqOK:=true }
def td121:TD:={ k:=(.struct 0),size:=3,bytes:=24,zero:=(.agg 0 [(.int .i64 0),(.int .i64 0),(.int .i64 0)]),eqOK:=true }
def td123:TD:={ k:=(.struct 8),size:=5,bytes:=40,zero:=(.agg 8 [(.int .i64 0),(.int .i64 0),(.int .i64 0),(.int .i64 0),(.int .i64 0)]),eqOK:=true }
def td141:TD:={ k:=(.struct 1),size:=2,bytes:=16,zero:=(.agg 1 [(.int .i64 0),(.int .i64 0)]),eqOK:=true }
def td143:TD:={ k:=(.struct 9),size:=3,bytes:=32,zero:=(.agg 9 [(.str ⟨#[]⟩),(.agg 1 [(.int .i64 0),(.int .i64 0)])]),eqOK:=true }
def td156:TD:={ k:=(.array 1 2 3),size:=2,bytes:=16,zero:=(.agg 1 (List.replicate 2 (.int .i64 0))),eqOK:=true }
def td160:TD:={ k:=(.struct 1),size:=2,bytes:=16,zero:=(.agg 1 [(.int .i64 0),(.int .i64 0)]),eqOK:=true }
def td167:TD:={ k:=(.array 10 6 156),size:=12,bytes:=96,zero:=(.agg 10 (List.replicate 6 (.agg 1 (List.replicate 2 (.int .i64 0))))),eqOK:=true }
def td168:TD:={ k:=(.slice 34),size:=1,bytes:=24,zero:=.nl,eqOK:=true }
def td171:TD:={ k:=(.array 11 6 3),size:=6,bytes:=48,zero:=(.agg 11 (List.replicate 6 (.int .i64 0))),eqOK:=true }
def td172:TD:={ k:=(.array 0 3 25),size:=3,bytes:=72,zero:=(.agg 0 (List.replicate 3 .nl)),eqOK:=true }
def td173:TD:={ k:=(.slice 9),size:=1,bytes:=24,zero:=.nl,eqOK:=true }
def td176:TD:={ k:=(.struct 9),size:=3,bytes:=32,zero:=(.agg 9 [(.str ⟨#[]⟩),(.agg 1 [(.int .i64 0),(.int .i64 0)])]),eqOK:=true }
def td208:TD:={ k:=(.array 1 2 5),size:=2,bytes:=2,zero:=(.agg 1 (List.replicate 2 (.int .u8 0))),eqOK:=true }
def td217:TD:={ k:=(.array 1 2 25),size:=2,bytes:=48,zero:=(.agg 1 (List.replicate 2 .nl)),eqOK:=true }
def td225:TD:={ k:=(.struct 1),size:=2,bytes:=16,zero:=(.agg 1 [(.int .i64 0),(.int .i64 0)]),eqOK:=true }
def td230:TD:={ k:=(.slice 4),size:=1,bytes:=24,zero:=.nl,eqOK:=true }
def td233:TD:={ k:=.func,size:=1,bytes:=8,zero:=.nilFn,eqOK:=true }
def td235:TD:={ k:=(.int .u64),size:=1,bytes:=8,zero:=(.int .u64 0),eqOK:=true }
def td237:TD:={ k:=(.int .u32),size:=1,bytes:=4,zero:=(.int .u32 0),eqOK:=true }
def td240:TD:={ k:=(.ptr 242),size:=1,bytes:=8,zero:=.nilPtr,eqOK:=true }
def td242:TD:={ k:=(.struct 12),size:=1,bytes:=24,zero:=(.agg 12 [.nl]),eqOK:=true }
def td246:TD:={ k:=(.struct 13),size:=413,bytes:=3360,zero:=(.agg 13 [(.agg 0 [(.str ⟨#[]⟩),.nl,.nl]),(.agg 1 [.nl,(.int .i64 0)]),(.agg 3 (List.replicate 8 (.agg 2 (List.replicate 51 (.int .i64 0)))))]),eqOK:=true }
def td251:TD:={ k:=(.struct 9),size:=3,bytes:=24,zero:=(.agg 9 [(.int .i64 0),(.agg 1 [(.int .i64 0),(.int .i64 0)])]),eqOK:=true }
def td266:TD:={ k:=(.struct 1),size:=2,bytes:=32,zero:=(.agg 1 [.nl,(.int .i64 0)]),eqOK:=true }
def td268:TD:={ k:=(.ptr 357),size:=1,bytes:=8,zero:=.nilPtr,eqOK:=true }
def td275:TD:={ k:=.func,size:=1,bytes:=8,zero:=.nilFn,eqOK:=true }
def td276:TD:={ k:=.func,size:=1,bytes:=8,zero:=.nilFn,eqOK:=true }
def td278:TD:={ k:=(.map 3 3),size:=1,bytes:=8,zero:=.nilMp,eqOK:=true }
def td280:TD:={ k:=.func,size:=1,bytes:=8,zero:=.nilFn,eqOK:=true }
def td282:TD:={ k:=(.cpx .f64),size:=1,bytes:=16,zero:=(.cpx .f64 0 0),eqOK:=true }
def td286:TD:={ k:=(.struct 1),size:=2,bytes:=24,zero:=(.agg 1 [(.int .i64 0),(.cpx .f64 0 0)]),eqOK:=true }
def td287:TD:={ k:=(.slice 286),size:=1,bytes:=24,zero:=.nl,eqOK:=true }
def td288:TD:={ k:=(.slice 282),size:=1,bytes:=24,zero:=.nl,eqOK:=true }
def td290:TD:={ k:=(.slice 46),size:=1,bytes:=24,zero:=.nl,eqOK:=true }
def td292:TD:={ k:=.func,size:=1,bytes:=8,zero:=.nilFn,eqOK:=true }
def td293:TD:={ k:=(.slice 297),size:=1,bytes:=24,zero:=.nl,eqOK:=true }
def td297:TD:={ k:=(.struct 1),size:=2,bytes:=16,zero:=(.agg 1 [(.int .i64 0),(.int .i64 0)]),eqOK:=true }
def td300:TD:={ k:=(.slice 302),size:=1,bytes:=24,zero:=.nl,eqOK:=true }
def td302:TD:={ k:=(.struct 1),size:=2,bytes:=16,zero:=(.agg 1 [(.int .i64 0),(.int .i64 0)]),eqOK:=true }
def td304:TD:={ k:=.func,size:=1,bytes:=8,zero:=.nilFn,eqOK:=true }
def td305:TD:={ k:=.func,size:=1,bytes:=8,zero:=.nilFn,eqOK:=true }
def td309:TD:={ k:=.func,size:=1,bytes:=8,zero:=.nilFn,eqOK:=true }
def td312:TD:={ k:=(.struct 12),size:=1,bytes:=8,zero:=(.agg 12 [.nilFn]),eqOK:=true }
def td314:TD:={ k:=(.map 9 312),size:=1,bytes:=8,zero:=.nilMp,eqOK:=true }
def td328:TD:={ k:=.iface,size:=1,bytes:=16,zero:=.nilIf,eqOK:=false }
def td334:TD:={ k:=.func,size:=1,bytes:=8,zero:=.nilFn,eqOK:=true }
def td336:TD:={ k:=.func,size:=1,bytes:=8,zero:=.nilFn,eqOK:=true }
def td341:TD:={ k:=(.flt .f64),size:=1,bytes:=8,zero:=(.flt .f64 0),eqOK:=true }
def td345:TD:={ k:=.func,size:=1,bytes:=8,zero:=.nilFn,eqOK:=true }
def td346:TD:={ k:=(.array 5 4 5),size:=4,bytes:=4,zero:=(.agg 5 (List.replicate 4 (.int .u8 0))),eqOK:=true }
def td349:TD:={ k:=.func,size:=1,bytes:=8,zero:=.nilFn,eqOK:=true }
def td353:TD:={ k:=(.map 9 4),size:=1,bytes:=8,zero:=.nilMp,eqOK:=true }
def td354:TD:={ k:=(.array 14 8 4),size:=8,bytes:=8,zero:=(.agg 14 (List.replicate 8 (.bool false))),eqOK:=true }
def td355:TD:={ k:=(.array 15 8 354),size:=64,bytes:=64,zero:=(.agg 15 (List.replicate 8 (.agg 14 (List.replicate 8 (.bool false))))),eqOK:=true }
def td357:TD:={ k:=(.struct 16),size:=892,bytes:=6816,zero:=(.agg 16 [(.agg 6 [.nl,(.int .i64 0),(.agg 0 [(.str ⟨#[]⟩),.nl,.nl]),(.agg 1 [.nl,(.int .i64 0)]),(.agg 3 (List.replicate 8 (.agg 2 (List.replicate 51 (.int .i64 0)))))]),(.agg 13 [(.agg 0 [(.str ⟨#[]⟩),.nl,.nl]),(.agg 1 [.nl,(.int .i64 0)]),(.agg 3 (List.replicate 8 (.agg 2 (List.replicate 51 (.int .i64 0)))))]),(.agg 15 (List.replicate 8 (.agg 14 (List.replicate 8 (.bool false)))))]),eqOK:=true }
def td359:TD:={ k:=.func,size:=1,bytes:=8,zero:=.nilFn,eqOK:=true }
def td362:TD:={ k:=(.map 3 4),size:=1,bytes:=8,zero:=.nilMp,eqOK:=true }
def td365:TD:={ k:=.func,size:=1,bytes:=8,zero:=.nilFn,eqOK:=true }
def td369:TD:={ k:=.func,size:=1,bytes:=8,zero:=.nilFn,eqOK:=true }
def td370:TD:={ k:=.func,size:=1,bytes:=8,zero:=.nilFn,eqOK:=true }
def td372:TD:={ k:=(.slice 374),size:=1,bytes:=24,zero:=.nl,eqOK:=true }
def td374:TD:={ k:=(.struct 1),size:=2,bytes:=16,zero:=(.agg 1 [(.int .i64 0),(.int .i64 0)]),eqOK:=true }
def td376:TD:={ k:=.func,size:=1,bytes:=8,zero:=.nilFn,eqOK:=true }
def td383:TD:={ k:=(.array 17 8 141),size:=16,bytes:=128,zero:=(.agg 17 (List.replicate 8 (.agg 1 [(.int .i64 0),(.int .i64 0)]))),eqOK:=true }
def td392:TD:={ k:=(.ptr 58),size:=1,bytes:=8,zero:=.nilPtr,eqOK:=true }
def td393:TD:={ k:=(.ptr 395),size:=1,bytes:=8,zero:=.nilPtr,eqOK:=true }
def td395:TD:={ k:=(.struct 1),size:=2,bytes:=32,zero:=(.agg 1 [.nl,(.bool false)]),eqOK:=true }
def td398:TD:={ k:=.func,size:=1,bytes:=8,zero:=.nilFn,eqOK:=true }
def td401:TD:={ k:=.func,size:=1,bytes:=8,zero:=.nilFn,eqOK:=true }
def td404:TD:={ k:=.func,size:=1,bytes:=8,zero:=.nilFn,eqOK:=true }
def td407:TD:={ k:=(.array 8 5 3),size:=5,bytes:=40,zero:=(.agg 8 (List.replicate 5 (.int .i64 0))),eqOK:=true }
def td413:TD:={ k:=(.int .i64),size:=1,bytes:=8,zero:=(.int .i64 0),eqOK:=true }
def td442:TD:={ k:=(.int .u64),size:=1,bytes:=8,zero:=(.int .u64 0),eqOK:=true }
def td446:TD:={ k:=(.ptr 3),size:=1,bytes:=8,zero:=.nilPtr,eqOK:=true }
def dTab:List (Nat×TD):=[(3,td3),(4,td4),(5,td5),(9,td9),(21,td21),(22,td22),(24,td24),(25,td25),(27,td27),(29,td29),(30,td30),(32,td32),(34,td34),(35,td35),(36,td36),(38,td38),(45,td45),(46,td46),(49,td49),(51,td51),(56,td56),(58,td58),(59,td59),(60,td60),(62,td62),(69,td69),(72,td72),(73,td73),(74,td74),(81,td81),(83,td83),(88,td88),(95,td95),(107,td107),(108,td108),(110,td110),(112,td112),(114,td114),(115,td115),(117,td117),(120,td120),(121,td121),(123,td123),(141,td141),(143,td143),(156,td156),(160,td160),(167,td167),(168,td168),(171,td171),(172,td172),(173,td173),(176,td176),(208,td208),(217,td217),(225,td225),(230,td230),(233,td233),(235,td235),(237,td237),(240,td240),(242,td242),(246,td246),(251,td251),(266,td266),(268,td268),(275,td275),(276,td276),(278,td278),(280,td280),(282,td282),(286,td286),(287,td287),(288,td288),(290,td290),(292,td292),(293,td293),(297,td297),(300,td300),(302,td302),(304,td304),(305,td305),(309,td309),(312,td312),(314,td314),(328,td328),(334,td334),(336,td336),(341,td341),(345,td345),(346,td346),(349,td349),(353,td353),(354,td354),(355,td355),(357,td357),(359,td359),(362,td362),(365,td365),(369,td369),(370,td370),(372,td372),(374,td374),(376,td376),(383,td383),(392,td392),(393,td393),(395,td395),(398,td398),(401,td401),(404,td404),(407,td407),(413,td413),(442,td442),(446,td446)]
def fldTab:List (Nat×List Nat):=[(24,[9,3,22]),(27,[9,25,25]),(29,[25,3]),(34,[24,27,29,32]),(38,[9,3,35,36]),(49,[9,3,35,36]),(58,[9,3,56]),(59,[9,25,25]),(60,[25,3]),(62,[58,59,60,45]),(72,[3,3,3,3]),(83,[81,3,27,29,32]),(88,[81,3,59,60,45]),(110,[3,3,3]),(112,[107,108,110]),(117,[5,5]),(120,[3,3,3,3,3]),(121,[3,3,3]),(123,[3,3,3,3,3]),(141,[3,3]),(143,[9,141]),(160,[3,3]),(176,[9,141]),(225,[3,3]),(242,[51]),(246,[59,60,45]),(251,[3,141]),(266,[25,3]),(286,[3,282]),(297,[3,3]),(302,[3,3]),(312,[73]),(357,[88,246,355]),(374,[3,3]),(395,[173,4])]
noncomputable def fTab:List (Nat×Func):=[(3,Tryz.f3),(4,Tryz.f4),(5,Tryz.f5),(6,Tryz.f6),(7,Tryz.f7),(8,Tryz.f8),(9,Tryz.f9),(10,Tryz.f10),(11,Tryz.f11),(12,Tryz.f12),(13,Tryz.f13),(14,Tryz.f14),(15,Tryz.f15),(16,Tryz.f16),(17,Tryz.f17),(18,Tryz.f18),(19,Tryz.f19),(20,Tryz.f20),(21,Tryz.f21),(22,Tryz.f22),(23,Tryz.f23),(24,Tryz.f24),(25,Tryz.f25),(26,Tryz.f26),(27,Tryz.f27),(28,Tryz.f28),(29,Tryz.f29),(30,Tryz.f30),(31,Tryz.f31),(32,Tryz.f32),(33,Tryz.f33),(34,Tryz.f34),(35,Tryz.f35),(36,Tryz.f36),(37,Tryz.f37),(38,Tryz.f38),(39,Tryz.f39),(40,Tryz.f40),(41,Tryz.f41),(42,Tryz.f42),(43,Tryz.f43),(44,Tryz.f44),(45,Tryz.f45),(46,Tryz.f46),(47,Tryz.f47),(48,Tryz.f48),(49,Tryz.f49),(50,Tryz.f50),(51,Tryz.f51),(52,Tryz.f52),(53,Tryz.f53),(54,Tryz.f54),(55,Tryz.f55),(56,Tryz.f56),(57,Tryz.f57),(58,Tryz.f58),(59,Tryz.f59),(60,Tryz.f60),(61,Tryz.f61),(62,Tryz.f62),(63,Tryz.f63),(64,Tryz.f64),(65,Tryz.f65),(66,Tryz.f66),(67,Tryz.f67),(68,Tryz.f68),(69,Tryz.f69),(70,Tryz.f70),(71,Tryz.f71),(72,Tryz.f72),(73,Tryz.f73),(74,Tryz.f74),(75,Tryz.f75),(76,Tryz.f76),(77,Tryz.f77),(78,Tryz.f78),(79,Tryz.f79),(80,Tryz.f80),(81,Tryz.f81),(82,Tryz.f82),(83,Tryz.f83),(84,Tryz.f84),(85,Tryz.f85),(86,Tryz.f86),(87,Tryz.f87),(88,Tryz.f88),(89,Tryz.f89),(90,Tryz.f90),(91,Tryz.f91),(92,Tryz.f92),(93,Tryz.f93),(94,Tryz.f94),(95,Tryz.f95),(96,Tryz.f96),(97,Tryz.f97),(98,Tryz.f98),(99,Tryz.f99),(100,Tryz.f100),(101,Tryz.f101),(102,Tryz.f102),(103,Tryz.f103),(104,Tryz.f104),(105,Tryz.f105),(106,Tryz.f106),(107,Tryz.f107),(108,Tryz.f108),(109,Tryz.f109),(110,Tryz.f110),(111,Tryz.f111),(112,Tryz.f112),(113,Tryz.f113),(114,Tryz.f114),(115,Tryz.f115),(116,Tryz.f116),(117,Tryz.f117),(118,Tryz.f118),(119,Tryz.f119),(120,Tryz.f120),(121,Tryz.f121),(122,Tryz.f122),(123,Tryz.f123),(124,Tryz.f124),(125,Tryz.f125),(126,Tryz.f126),(127,Tryz.f127),(128,Tryz.f128),(129,Tryz.f129),(130,Tryz.f130),(131,Tryz.f131),(132,Tryz.f132),(133,Tryz.f133),(134,Tryz.f134),(135,Tryz.f135),(136,Tryz.f136),(137,Tryz.f137),(138,Tryz.f138),(139,Tryz.f139),(142,Tryz.f142),(144,Tryz.f144),(145,Tryz.f145),(146,Tryz.f146),(147,Tryz.f147),(148,Tryz.f148),(149,Tryz.f149),(150,Tryz.f150),(151,Tryz.f151),(152,Tryz.f152),(153,Tryz.f153),(154,Tryz.f154),(155,Tryz.f155),(156,Tryz.f156),(157,Tryz.f157),(158,Tryz.f158),(159,Tryz.f159),(160,Tryz.f160),(161,Tryz.f161),(162,Tryz.f162),(163,Tryz.f163),(164,Tryz.f164),(165,Tryz.f165),(166,Tryz.f166),(167,Tryz.f167),(168,Tryz.f168),(169,Tryz.f169),(170,Tryz.f170),(171,Tryz.f171),(172,Tryz.f172),(173,Tryz.f173),(174,Tryz.f174),(175,Tryz.f175),(176,Tryz.f176),(177,Tryz.f177),(178,Tryz.f178),(179,Tryz.f179),(180,Tryz.f180),(181,Tryz.f181),(182,Tryz.f182),(183,Tryz.f183),(184,Tryz.f184),(185,Tryz.f185),(186,Tryz.f186),(187,Tryz.f187),(188,Tryz.f188),(189,Tryz.f189),(190,Tryz.f190),(191,Tryz.f191),(192,Tryz.f192),(193,Tryz.f193),(194,Tryz.f194),(195,Tryz.f195),(196,Tryz.f196),(197,Tryz.f197),(198,Tryz.f198),(199,Tryz.f199),(200,Tryz.f200),(201,Tryz.f201),(202,Tryz.f202),(203,Tryz.f203),(204,Tryz.f204),(205,Tryz.f205),(206,Tryz.f206),(207,Tryz.f207),(209,Tryz.f209),(213,Tryz.f213),(214,Tryz.f214),(215,Tryz.f215),(216,Tryz.f216),(217,Tryz.f217),(218,Tryz.f218),(219,Tryz.f219),(221,Tryz.f221),(222,Tryz.f222),(223,Tryz.f223),(224,Tryz.f224),(225,Tryz.f225),(226,Tryz.f226),(227,Tryz.f227),(228,Tryz.f228),(230,Tryz.f230),(231,Tryz.f231),(232,Tryz.f232),(233,Tryz.f233),(234,Tryz.f234),(235,Tryz.f235),(236,Tryz.f236),(237,Tryz.f237),(238,Tryz.f238),(239,Tryz.f239),(240,Tryz.f240),(241,Tryz.f241),(242,Tryz.f242),(243,Tryz.f243),(244,Tryz.f244),(245,Tryz.f245),(246,Tryz.f246),(247,Tryz.f247),(248,Tryz.f248),(249,Tryz.f249),(250,Tryz.f250),(251,Tryz.f251),(252,Tryz.f252),(253,Tryz.f253),(254,Tryz.f254),(255,Tryz.f255),(256,Tryz.f256),(257,Tryz.f257),(258,Tryz.f258),(262,Tryz.f262),(263,Tryz.f263),(264,Tryz.f264),(265,Tryz.f265),(266,Tryz.f266),(267,Tryz.f267),(276,Tryz.f276),(277,Tryz.f277),(279,Tryz.f279),(280,Tryz.f280),(281,Tryz.f281),(282,Tryz.f282),(283,Tryz.f283),(284,Tryz.f284),(285,Tryz.f285),(286,Tryz.f286),(287,Tryz.f287),(288,Tryz.f288),(289,Tryz.f289),(290,Tryz.f290),(291,Tryz.f291),(292,Tryz.f292),(293,Tryz.f293),(294,Tryz.f294),(295,Tryz.f295),(296,Tryz.f296),(297,Tryz.f297),(298,Tryz.f298),(299,Tryz.f299),(300,Tryz.f300),(301,Tryz.f301),(302,Tryz.f302),(303,Tryz.f303),(304,Tryz.f304),(305,Tryz.f305),(306,Tryz.f306),(307,Tryz.f307),(308,Tryz.f308),(327,Tryz.f327),(328,Tryz.f328),(329,Tryz.f329),(330,Tryz.f330),(331,Tryz.f331),(332,Tryz.f332),(333,Tryz.f333),(334,Tryz.f334),(335,Tryz.f335),(336,Tryz.f336),(337,Tryz.f337),(338,Tryz.f338),(339,Tryz.f339),(340,Tryz.f340),(341,Tryz.f341),(343,Tryz.f343),(344,Tryz.f344),(365,Tryz.f365),(366,Tryz.f366),(367,Tryz.f367),(368,Tryz.f368),(369,Tryz.f369),(370,Tryz.f370),(372,Tryz.f372),(373,Tryz.f373),(374,Tryz.f374),(375,Tryz.f375),(376,Tryz.f376),(377,Tryz.f377),(378,Tryz.f378),(379,Tryz.f379),(393,Tryz.f393),(394,Tryz.f394),(395,Tryz.f395),(396,Tryz.f396),(403,Tryz.f403),(208,Tryz.f208),(210,Tryz.f210),(211,Tryz.f211),(212,Tryz.f212),(220,Tryz.f220),(260,Tryz.f260),(261,Tryz.f261),(311,Tryz.f311)]
def pt(x y:Int):DV:=.agg 1 [.int .i64 x,.int .i64 y]
def zGG:DV:=.agg 17 [pt 0 (-1),pt (-1) (-1),pt (-1) 0,pt (-1) 1,pt 0 1,pt 1 1,pt 1 0,pt 1 (-1)]
noncomputable def E0(steps:Nat)(fresh:FuncId->Bool)(orc:FuncId->Option (List DV->Option CR)):Env where
 D t:=dTab.lookup t
 L g:=L0.getD g []
 flds t:=(fldTab.lookup t).getD []
 glob g:=if g=steps then some zGG else none
 F f:=fTab.lookup f
 fresh:=fresh
 orc:=orc
 gtab g:=if g=5 then some (Lib.pow10Tab.map λz=>Value.int .u64 z).toArray else none
theorem qi{β:Type}{k:Nat}{v:β}:∀{l:List (Nat×β)},l.lookup k=some v->(k,v)∈l
 | [],h=>by simp at h
 | (k',v') :: l,h=>by
  rw[List.lookup_cons] at h;split at h
  ·rename_i e;injection h with h;subst h
   have:k=k':=by simpa using e
   subst this;exact List.mem_cons_self
  ·exact List.mem_cons_of_mem _ (qi h)
set_option maxRecDepth 100000 in
theorem chk_all(steps:Nat)(fresh:FuncId->Bool)(orc:FuncId->Option (List DV->Option CR)):(dTab.all λp=>chkTD Tryz.prog (E0 steps fresh orc) p.1 p.2)=true:=by kernel_rfl
set_option maxRecDepth 100000 in
theorem zAU(steps:Nat)(fresh:FuncId->Bool)(orc:FuncId->Option (List DV->Option CR)):DOK Tryz.prog (E0 steps fresh orc):=λ_ d h =>
 zJA (List.all_eq_true.1 (chk_all steps fresh orc) _ (qi h))
set_option maxRecDepth 100000 in
theorem Jt:Tryz.prog.follows .mixedOrders=true:=by kernel_rfl
end Go.Am
namespace Go.Am
open Go.Proofs
open Go
def o200:List DV->Option CR
 | [w,ps,b]=>some (.val (.sl 1 ((wakesI (intsOf (nth (flds w) 1)) (intsOf (nth (flds w) 2)) (zC (nth (flds b) 0)) (ptX (nth (flds b) 1)) (ptY (nth (flds b) 1)) ((elems ps).map λp=>(ptX p,ptY p))).map λr=>.sl 1 (ints r))))
 | _=>none
def o161:List DV->Option CR
 | [p]=>some (.val (.dp (.agg 16 [p,.agg 13 [nth (flds p) 2,nth (flds p) 3,nth (flds p) 4],
   .agg 15 ((List.range 8).map λj=>.agg 14 ((List.range 8).map λi=>.bool (
    let n:=(elems (nth (flds p) 0)).length
    let least:=zC (nth (flds p) 1)
    decide (i<n/\j<n/\i≠j) &&
     let a:=nth (elems (nth (flds p) 0)) i
     let b:=nth (elems (nth (flds p) 0)) j
     decide ((ptX a - ptX b) * (ptX a - ptX b)+(ptY a - ptY b) * (ptY a - ptY b)<least * least))))])))
 | _=>none
def oClone(sz:Nat):List DV->Option CR
 | [x]=>match elems x with
  | []=>some (.val .nl)
  | xs=>some (.fresh sz xs)
 | _=>none
def o210:List DV->Option CR
 | [x]=>some (.val (.str ⟨(Lib.itoa (zC x)).toArray⟩))
 | _=>none
def joinB(sep:List UInt8):List (List UInt8)->List UInt8
 | []=>[]
 | [x]=>x
 | x :: xs=>x++sep++joinB sep xs
def o208:List DV->Option CR
 | [x,s]=>some (.val (.str ⟨(joinB (ze s).data.toList ((elems x).map λy=>(ze y).data.toList)).toArray⟩))
 | _=>none
def o50:List DV->Option CR
 | _=>some (.val (.tup [.int .i64 307200,.int .i64 0]))
noncomputable def EB:Env:=E0 1 (λ_=>false) (λ_=>none)
noncomputable def okSi(x:DV):Bool:=zH EB 6 58 x && (elems (nth (flds x) 2)).all (zH EB 6 176)
noncomputable def o68:List DV->Option CR
 | [x,.int .i64 n]=>if okSi x then some (.val (.tup [.sl 1 ((Jo (siOf x) n).1.map eN),eI (Jo (siOf x) n).2])) else none
 | _=>none
def freshF(f:FuncId):Bool:=[243,267,80].contains f
noncomputable def orcF(f:FuncId):Option (List DV->Option CR) :=
 match f with
 | 200=>some o200
 | 161=>some o161
 | 243=>some (oClone 1)
 | 267=>some (oClone 3)
 | 210=>some o210
 | 208=>some o208
 | 50=>some o50
 | 68=>some o68
 | 174=>some λ_=>none
 | 211=>some λ_=>none
 | 212=>some λ_=>none
 | _=>none
end Go.Am
namespace Go.Am
open Go.Proofs
open Go
set_option maxRecDepth 100000 in
def xTab:List (Nat×XF):=[
 (3,⟨[3,4,5,7,9,15,17,19,21],[[3,4,5,21,22,23,24,147,148],[3,4,5,21,22,23,24,147,148,189,190,191]],0,[]⟩),
 (4,⟨[2,3],[],0,[(10,[2,5,6,7,8,9,10,11,12]),(12,[2,5,6,7,8,9,10,11,12])]⟩),
 (5,⟨[2],[],0,[(7,[1,2,5,6,7,8,9]),(9,[1,2,5,6,7,8,9]),(13,[2,5,6,7,8,9,10,11])]⟩),
 (6,⟨[3],[[1,2,3,27,28,29]],0,[(14,[1,2,3,9,10,11]),(16,[1,2,3,9,10,11])]⟩),
 (7,⟨[3,12,16],[[2,3,7,8,9,10,12,13,105,106,107],[3,7,10,23,24,25,26,27,203,204,205]],0,[(27,[2,3,7,8,10])]⟩),
 (8,⟨[2,3,5,13,29],[[2,3,5,6,7,8,9,10,11,56,57,58],[2,3,5,6,7,8,9,10,11,18,19,56,57,58,99,100,101],[2,3,5,6,7,8,9,10,11,18,19,24,56,57,58,143,144,145]],0,[]⟩),
 (9,⟨[3,4,5],[],0,[(9,[3,4,5,7,8,9,10,11,12,13,14,15]),(14,[3,4,5,7,8,9,10,11,12,13,14,15,16,17,18,19,20]),(16,[3,4,5,7,8,9,10,11,12,13,14,15,16,17,18,19,20]),(18,[4,7,8,9,10,11,12,13,14,15,16,17,18,19,20])]⟩),
 (10,⟨[3,4,5],[],0,[(11,[3,4,5,7,8,9,10,11,12,13,14,15,16,17]),(13,[7,8,9,10,11,12,13,14,15,16,17])]⟩),
 (11,⟨[1,3,7,11,12],[],0,[(12,[3,4,5,6,7,8,9,10,11,12,13])]⟩),
 (12,⟨[3,8,9,10,13,14,19],[[2,3,8,9,10,58,59],[2,3,8,9,10,84],[2,3,8,9,10,13,14,94],[2,3,8,9,10,13,14,15,94,97],[17,126,127,128]],0,[]⟩),
 (13,⟨[2,3,12,17,20,23],[[2,5,6,7,8,12,106,107,108],[2,5,6,7,8,12,118,119],[2,5,6,7,8,12,15,118,119,133,134],[2,5,6,7,8,17,185,186,187],[2,7,8,17,24,26,262,263]],0,[]⟩),
 (14,⟨[3,4],[],0,[(8,[2,3,4,7,8,9,10,11,12,13,14]),(12,[7,8,9,10,11,12,13,14])]⟩),
 (15,⟨[2,5,9],[],0,[(8,[5,6,7,8,9,10])]⟩),
 (16,⟨[3,4,9,10,16,17,22,25],[[3,7,18,23,25,26,200,201]],0,[(8,[2,3,4,7])]⟩),
 (17,⟨[3,11,17],[],0,[(10,[2,3,7,8,9,10,11,12,13,14,15,16]),(12,[2,3,7,8,9,10,11,12,13,14,15,16])]⟩),
 (18,⟨[3,9,11],[],0,[(9,[1,3])]⟩),
 (19,⟨[3,5,8,9,11,15,18,21,22,24,26,28,31,34,35,36,44],[[1,3,5,7,8,11,18,19,127,128,129],[5,35,37,39,40,44,311,312]],0,[(34,[1,3,5,11,19])]⟩),
 (20,⟨[1,2,4],[],0,[]⟩),
 (21,⟨[2],[],0,[]⟩),
 (22,⟨[1],[],0,[]⟩),
 (23,⟨[1],[[1,4]],0,[]⟩),
 (24,⟨[2,3,4,6],[[2,3,4,6,7]],0,[]⟩),
 (25,⟨[2,3,4,5,7,8],[],0,[]⟩),
 (26,⟨[1,2],[],0,[]⟩),
 (27,⟨[1,5,8],[[1,5,6,41,42,43],[5,6,56,57,58]],0,[]⟩),
 (28,⟨[2,6,57],[[2,6,8,9,90,91],[2,6,8,105,106]],0,[]⟩),
 (29,⟨[1,2],[],0,[]⟩),
 (30,⟨[1],[],0,[]⟩),
 (31,⟨[],[[0,1,5]],0,[]⟩),
 (32,⟨[3,9],[],0,[]⟩),
 (33,⟨[1,24],[],0,[]⟩),
 (34,⟨[1,2],[],0,[]⟩),
 (35,⟨[],[[0,3]],0,[]⟩),
 (38,⟨[3],[],0,[]⟩),
 (39,⟨[1],[],0,[]⟩),
 (40,⟨[1],[],0,[]⟩),
 (43,⟨[2],[],0,[]⟩),
 (44,⟨[2,8],[],0,[]⟩),
 (45,⟨[1,2],[],0,[]⟩),
 (46,⟨[1],[[1,3],[1,3,5]],0,[]⟩),
 (47,⟨[3],[],0,[]⟩),
 (48,⟨[1],[[1,3,4]],0,[]⟩),
 (49,⟨[1,4],[[1,12,13,14]],0,[]⟩),
 (50,⟨[3],[],0,[]⟩),
 (51,⟨[],[[3,6,7,8]],0,[]⟩),
 (52,⟨[2],[[1,2,5,6],[1,2,5,6,7]],0,[]⟩),
 (53,⟨[3],[[1,2,3,8,9,10]],0,[]⟩),
 (54,⟨[],[[0,1,5,6],[5,7,8]],0,[]⟩),
 (55,⟨[2,4,6],[[1,2,4,6,7]],0,[]⟩),
 (57,⟨[1],[],0,[]⟩),
 (59,⟨[1,2,3,5],[[2,3,41,42,43]],0,[]⟩),
 (61,⟨[4,8,10],[[4,6,8,21,22,23]],0,[]⟩),
 (62,⟨[2],[[2,5]],0,[]⟩),
 (63,⟨[1],[],0,[]⟩),
 (64,⟨[4,12],[],0,[]⟩),
 (65,⟨[1,2,3,5],[[2,3,12,13,14]],0,[]⟩),
 (66,⟨[3],[],0,[]⟩),
 (67,⟨[1,2],[],0,[]⟩),
 (68,⟨[2,7,11],[[7,9,26,27,28]],0,[]⟩),
 (69,⟨[1,4],[[1,3],[1,3,4,5],[1,3,4,6]],0,[]⟩),
 (70,⟨[2],[],0,[]⟩),
 (71,⟨[1],[[1,3],[1,5]],0,[]⟩),
 (72,⟨[3,4,8,9],[],0,[]⟩),
 (73,⟨[3],[],0,[]⟩),
 (74,⟨[2],[[1,2,5,6],[1,2,5,6,7]],0,[]⟩),
 (75,⟨[1,3],[[1,44,45,46],[1,74,75,76]],0,[]⟩),
 (76,⟨[3,4,8],[],0,[]⟩),
 (77,⟨[3,4,8],[],0,[]⟩),
 (78,⟨[4,5,10],[],0,[]⟩),
 (79,⟨[3,4],[[2,3,4,7,8],[2,3,4,7,8,9,10]],0,[]⟩),
 (80,⟨[3,4],[[4,7,8,9]],0,[]⟩),
 (81,⟨[4,5],[[3,9,10]],0,[]⟩),
 (82,⟨[],[[0,1,5]],0,[]⟩),
 (83,⟨[1,2,5],[],0,[]⟩),
 (84,⟨[1],[],0,[]⟩),
 (85,⟨[1,2],[[2,4,6,7,8]],0,[]⟩),
 (86,⟨[1],[],0,[]⟩),
 (87,⟨[1,3],[],0,[]⟩),
 (88,⟨[4],[[0,1,4,5,6]],0,[]⟩),
 (89,⟨[2,4,5],[[1,2,4,5,6]],0,[]⟩),
 (90,⟨[2,4,5],[[1,2,4,5,6]],0,[]⟩),
 (91,⟨[],[[0,1,5]],0,[]⟩),
 (93,⟨[],[[3,6,7,8]],0,[]⟩),
 (94,⟨[2,3,7],[],0,[]⟩),
 (95,⟨[3,5,9],[],0,[]⟩),
 (96,⟨[2,3,4],[],0,[]⟩),
 (97,⟨[2,3],[],0,[]⟩),
 (98,⟨[3,5,6,7],[],0,[]⟩),
 (99,⟨[3,5],[],0,[]⟩),
 (100,⟨[2,4,9,13,14],[[1,2,4,9,10,38,39],[1,2,4,9,10,11,38,39,42,43,44]],0,[]⟩),
 (101,⟨[],[[0,3]],0,[]⟩),
 (102,⟨[2,4,8,11],[[1,2,4,7,8,9],[1,2,4,7,8,9,10]],0,[]⟩),
 (103,⟨[2,3],[[2,3,5]],0,[]⟩),
 (104,⟨[1,2,3,5],[[2,3,12,13,14]],0,[]⟩),
 (105,⟨[1],[],0,[]⟩),
 (106,⟨[2],[],0,[]⟩),
 (107,⟨[1,2],[],0,[]⟩),
 (108,⟨[1],[],0,[]⟩),
 (109,⟨[2,9],[[2,4,16,17,18]],0,[]⟩),
 (110,⟨[1],[[1,3]],0,[]⟩),
 (111,⟨[2],[],0,[]⟩),
 (112,⟨[1],[[1,3,4]],0,[]⟩),
 (113,⟨[2,5],[[2,4,5,6]],0,[]⟩),
 (114,⟨[1],[[1,17,18,19]],0,[]⟩),
 (115,⟨[2,3],[],0,[]⟩),
 (116,⟨[2,3,4],[],0,[]⟩),
 (117,⟨[1,2,3,5],[[2,3,12,13,14]],0,[]⟩),
 (118,⟨[2,4,7,9],[[1,4,7,20,21]],0,[]⟩),
 (119,⟨[1],[],0,[]⟩),
 (120,⟨[2,5],[[0,2,5,6]],0,[]⟩),
 (121,⟨[2,4],[[1,2,4,5]],0,[]⟩),
 (122,⟨[1],[],0,[]⟩),
 (123,⟨[1,2,3,5],[[2,3,12,13,14]],0,[]⟩),
 (124,⟨[1,2],[],0,[]⟩),
 (125,⟨[1,2],[],0,[]⟩),
 (126,⟨[],[[0,1,5]],0,[]⟩),
 (127,⟨[1,7],[[5,15,16],[5,15,16,19,20]],0,[]⟩),
 (128,⟨[1],[[1,3,4],[1,3,4,5]],0,[]⟩),
 (129,⟨[1],[[1,3],[1,3,4]],0,[]⟩),
 (130,⟨[],[[0,3]],0,[]⟩),
 (131,⟨[],[[0,3]],0,[]⟩),
 (132,⟨[],[[0,3]],0,[]⟩),
 (134,⟨[],[[5,6,7]],0,[]⟩),
 (135,⟨[1],[[1,28,29,30],[1,65,66,67]],0,[]⟩),
 (137,⟨[1,5],[[3,12,13,14],[3,5,6,12,13,14]],0,[]⟩),
 (138,⟨[1],[],0,[]⟩),
 (139,⟨[],[[1,5,6,7]],1,[]⟩),
 (142,⟨[3],[[4,22,23]],0,[]⟩),
 (144,⟨[1,2],[],0,[]⟩),
 (145,⟨[3,9,10],[[1,2,3,7,16,17],[1,2,3,7,12,16,17,34,35]],0,[]⟩),
 (146,⟨[1],[],0,[]⟩),
 (147,⟨[2,5],[],0,[]⟩),
 (148,⟨[],[[5,6,7]],0,[]⟩),
 (150,⟨[2],[],0,[]⟩),
 (151,⟨[],[[1,5,8,9,10]],0,[]⟩),
 (152,⟨[3],[],0,[]⟩),
 (153,⟨[3,5,7],[],0,[]⟩),
 (154,⟨[0,1],[],0,[]⟩),
 (155,⟨[0,1],[],0,[]⟩),
 (156,⟨[4],[[4,9,10,11]],0,[]⟩),
 (157,⟨[2],[[1,2,5,6],[1,2,5,6,7]],0,[]⟩),
 (158,⟨[1,7,9],[[1,4,5,28,29,30],[1,4,5,7,28,29,30,56,57,58]],0,[]⟩),
 (159,⟨[1,4],[[11,12],[11,12,15,16]],0,[]⟩),
 (160,⟨[1],[],0,[]⟩),
 (161,⟨[1,16,3,6],[],0,[]⟩),
 (162,⟨[8,10,16],[[0,1,2,3,8,10,11,25,26,27],[0,1,2,3,8,10,11,12,13,25,26,27,32,33,34]],0,[]⟩),
 (163,⟨[1],[[3,7,8]],0,[]⟩),
 (164,⟨[1],[],0,[]⟩),
 (165,⟨[5,13],[[1,2,4,5,15,16,17,18]],0,[]⟩),
 (167,⟨[2],[],1,[]⟩),
 (168,⟨[1],[],0,[]⟩),
 (170,⟨[2],[[2,5,12,13,14],[2,5,12,13,14,18,19,20]],0,[]⟩),
 (171,⟨[11],[[0,5,19,20,21],[0,5,8,9,19,20,21,31,32],[0,5,8,9,10,11,19,20,21,31,32,45]],0,[]⟩),
 (172,⟨[],[[0,1,5]],0,[]⟩),
 (173,⟨[],[[3,4],[3,4,5]],0,[]⟩),
 (177,⟨[2,3],[],0,[]⟩),
 (178,⟨[],[[5,6,7]],0,[]⟩),
 (180,⟨[],[[1,5,8,9,10]],0,[]⟩),
 (183,⟨[11],[[1,5,6,7,24,25,26],[5,57,58,59]],0,[]⟩),
 (184,⟨[9],[[1,7,25,26,27]],0,[]⟩),
 (185,⟨[3,4,5,8],[],0,[]⟩),
 (186,⟨[3],[],0,[]⟩),
 (187,⟨[2,3],[],0,[]⟩),
 (189,⟨[2,3],[],0,[]⟩),
 (190,⟨[7],[[1,5,8,9,10]],0,[]⟩),
 (191,⟨[1],[],0,[]⟩),
 (192,⟨[2,3],[],0,[]⟩),
 (193,⟨[],[[0,1,5]],0,[]⟩),
 (194,⟨[2],[],0,[]⟩),
 (195,⟨[2],[],0,[]⟩),
 (199,⟨[3,4,6],[],0,[]⟩),
 (200,⟨[3,4,5,7],[[4,7,11,12]],0,[]⟩),
 (201,⟨[],[[0,1,5,6],[5,7]],0,[]⟩),
 (202,⟨[1,2],[],0,[]⟩),
 (203,⟨[2,3,4],[],0,[]⟩),
 (204,⟨[2,3,5],[],0,[]⟩),
 (205,⟨[3,5,6],[],0,[]⟩),
 (206,⟨[2,3,4],[],0,[]⟩),
 (207,⟨[7],[[1,5,8,9,10]],0,[]⟩),
 (209,⟨[],[[1,5,8,9,10]],0,[]⟩),
 (213,⟨[],[[0,1,5,6,7]],0,[]⟩),
 (214,⟨[],[[0,6,7]],0,[]⟩),
 (216,⟨[2,4],[[1,2,4,5,16,17]],0,[]⟩),
 (217,⟨[2,3],[[2,3,4,5]],1,[]⟩),
 (218,⟨[7],[[1,5,8,9,10]],0,[]⟩),
 (219,⟨[1],[],0,[]⟩),
 (221,⟨[14,10],[],0,[]⟩),
 (223,⟨[1],[],0,[]⟩),
 (227,⟨[5],[[3,10,11,12]],0,[]⟩),
 (228,⟨[],[[0,3,9,10,11]],1,[]⟩),
 (230,⟨[0,1],[],0,[]⟩),
 (231,⟨[],[[3,6,7,8]],0,[]⟩),
 (232,⟨[7],[[1,5,8,9,10]],0,[]⟩),
 (233,⟨[1,2],[],0,[]⟩),
 (234,⟨[2],[],0,[]⟩),
 (235,⟨[],[],1,[]⟩),
 (236,⟨[],[[1,5,8,9,10]],0,[]⟩),
 (237,⟨[],[],1,[]⟩),
 (238,⟨[],[[0,3,4]],0,[]⟩),
 (239,⟨[1],[],0,[]⟩),
 (240,⟨[2,3],[],0,[]⟩),
 (241,⟨[1],[],0,[]⟩),
 (242,⟨[2],[],0,[]⟩),
 (244,⟨[],[[0,1,7,8]],0,[]⟩),
 (246,⟨[1],[],0,[]⟩),
 (248,⟨[],[[0,5,10,11,12]],0,[]⟩),
 (249,⟨[1,3,5],[],0,[]⟩),
 (250,⟨[1],[],0,[]⟩),
 (251,⟨[2,3,4],[],0,[]⟩),
 (253,⟨[],[[3,6,7,8]],0,[]⟩),
 (255,⟨[2,3],[],0,[]⟩),
 (258,⟨[],[[0,1,2,3,4,10,11]],0,[]⟩),
 (260,⟨[],[[3,6,7,8]],0,[]⟩),
 (263,⟨[],[[0,3,4]],0,[]⟩),
 (265,⟨[],[[0,3,4]],0,[]⟩),
 (279,⟨[],[[0,10]],0,[]⟩),
 (281,⟨[1],[],0,[]⟩),
 (282,⟨[],[[0,1,5,6],[0,1,3,5,6,9,10]],1,[]⟩),
 (283,⟨[],[[1,5,8,9,10]],0,[]⟩),
 (284,⟨[3],[],1,[]⟩),
 (287,⟨[],[[0,5,6,7]],1,[]⟩),
 (288,⟨[],[[5,6,7]],0,[]⟩),
 (289,⟨[4],[[9,10,11]],0,[]⟩),
 (291,⟨[],[[1,8,9,10]],0,[]⟩),
 (293,⟨[3,5,6,6],[[0,5,6]],0,[]⟩),
 (295,⟨[1,2],[],0,[]⟩),
 (297,⟨[3],[],0,[]⟩),
 (298,⟨[],[[0,1,2,3,4,10,11]],0,[]⟩),
 (299,⟨[7],[[1,5,8,9,10]],0,[]⟩),
 (300,⟨[7],[[1,5,8,9,10]],0,[]⟩),
 (301,⟨[],[[0,1,2,3,8],[0,1,2,3,8,9]],0,[]⟩),
 (302,⟨[],[[0,3,8,9,10,11],[0,3,8,9,12]],0,[]⟩),
 (303,⟨[9],[[0,1,8,9,10,11]],0,[]⟩),
 (304,⟨[11],[],0,[]⟩),
 (305,⟨[],[[0,8,9]],0,[]⟩),
 (306,⟨[],[[0,1,2,3,9,10],[0,1,2,3,9,10],[0,1,2,3,9,10,11],[0,1,2,3,9,10,12]],0,[]⟩),
 (307,⟨[],[[0,1,4,11,12],[0,1,4,11,12],[0,1,4,11,12]],0,[]⟩),
 (308,⟨[],[[0,1,4,12,13],[0,1,4,12,13],[0,1,4,12,13],[0,1,4,12,13],[0,1,4,12,13]],0,[]⟩),
 (327,⟨[2],[],0,[]⟩),
 (328,⟨[],[[0,1,2,3,8,9]],0,[]⟩),
 (331,⟨[2,3],[],0,[]⟩),
 (332,⟨[],[[0,1,2,3,8],[0,1,2,3,8,9]],0,[]⟩),
 (333,⟨[],[[0,3,8,9,10,11],[0,3,8,9,12]],0,[]⟩),
 (334,⟨[9],[[0,1,8,9,10,11]],0,[]⟩),
 (335,⟨[11],[],0,[]⟩),
 (336,⟨[],[[0,8,9]],0,[]⟩),
 (337,⟨[],[[0,1,2,3,9,10],[0,1,2,3,9,10],[0,1,2,3,9,10,11],[0,1,2,3,9,10,12]],0,[]⟩),
 (338,⟨[],[[0,1,4,11,12],[0,1,4,11,12],[0,1,4,11,12]],0,[]⟩),
 (339,⟨[],[[0,1,4,12,13],[0,1,4,12,13],[0,1,4,12,13],[0,1,4,12,13],[0,1,4,12,13]],0,[]⟩),
 (340,⟨[],[[0,2,3,4,10]],0,[]⟩),
 (365,⟨[],[[0,1,2,6],[0,1,2,6,7]],0,[]⟩),
 (366,⟨[],[[0,6,7,8,9],[0,6,7,10]],0,[]⟩),
 (367,⟨[7],[[0,1,6,7,8,9]],0,[]⟩),
 (368,⟨[9],[],0,[]⟩),
 (369,⟨[],[[0,6,7]],0,[]⟩),
 (370,⟨[],[[0,1,2,7,8],[0,1,2,7,8],[0,1,2,7,8,9],[0,1,2,7,8,10]],0,[]⟩),
 (372,⟨[],[[0,1,9,10],[0,1,9,10],[0,1,9,10]],0,[]⟩),
 (373,⟨[],[[0,1,10,11],[0,1,10,11],[0,1,10,11],[0,1,10,11],[0,1,10,11]],0,[]⟩),
 (375,⟨[],[[0,1,2]],2,[]⟩),
 (376,⟨[],[[0,2,3,4,10]],0,[]⟩),
 (393,⟨[],[[0,2,3,8]],0,[]⟩)]
def stTm:Nat->Nat->List (Nat×AV)->List AV
 | 0,_,_=>[]
 | n+1,i,[]=>.undef :: stTm n (i+1) []
 | n+1,i,(j,v) :: r=>match Nat.beq i j with
  | true=>v :: stTm n (i+1) r
  | false=>.undef :: stTm n (i+1) ((j,v) :: r)
def stHp:Nat->Nat->List (Nat×OB)->List (Option OB)
 | 0,_,_=>[]
 | n+1,i,[]=>none :: stHp n (i+1) []
 | n+1,i,(j,v) :: r=>match Nat.beq i j with
  | true=>some v :: stHp n (i+1) r
  | false=>none :: stHp n (i+1) ((j,v) :: r)
def zx(n:Nat)(tm:List (Nat×AV))(hp:List (Nat×OB)):St:={ tm:=stTm n 0 tm,hp:=stHp n 0 hp }
noncomputable def EE:Env:=E0 1 freshF orcF
def XX:XC:={ arr:=[2,3,10,11,14,15,17],fx:=λf=>(xTab.lookup f).getD {} }
end Go.Am
namespace Go.Am
open Go.Proofs
open Go Go.RowKit Go.ChangeShapes Go.WideShapes Go.WideElems
theorem pieces{α:Type}(m:Nat):∀(css:List (List α)) (cs:List α),cs.length=css.length * m->(∀i (hi:i<css.length),(cs.drop (i * m)).take m=css[i])->cs=css.flatten
 | [],cs,hl,_=>by
  have:cs.length=0:=by simpa using hl
  simpa using List.length_eq_zero_iff.1 this
 | c :: css,cs,hl,h=>by
  have h0:=h 0 (by simp)
  have ht:=pieces m css (cs.drop m) (by simp only[List.length_cons,Nat.add_mul,Nat.one_mul] at hl;rw[List.length_drop];omega) (λi hi=>by
   have:=h (i+1) (by simp;omega)
   rw[List.drop_drop];rw[Nat.add_mul,Nat.one_mul] at this;simpa[Nat.add_comm] using this)
  simp only[Nat.zero_mul,List.drop_zero,List.getElem_cons_zero] at h0;rw[List.flatten_cons,<-ht,<-h0,List.take_append_drop]
section
variable{H:Type}{enc:TypeId×Value->H}{P:Program}{w:World}{base:Nat}{spare:Nat->Bool}{held:Bool}
theorem trod_ints{k:IntKind}{t e:TypeId}{n fuel:Nat}{cs:List Value}{d:DataW H}{ps:List MemPlace}(ht:P.underlying t=some (.array n e))(he:P.underlying e=some (.int k))(hc:P.cellsOf e=1)(hct:P.cellsOf t=n)
  (zs:List Int) (hn:zs.length=n) (h:DataW.trod enc P w base spare held fuel t cs=some (d,ps)) (hz:d=.agg (zs.map λz=>.lit (.int k z))):cs=zs.map (Value.int k):=by
 obtain⟨xs,m,_,hx,hl,hxl,hel⟩:=DataW.trod_array ht h;rw[hc] at hel;rw[hct] at hl;injection hx with hx _
 rw[hz] at hx;injection hx with hx
 have:=pieces 1 (zs.map λz=>[Value.int k z]) cs (by simp[hl,hn]) (λi hi=>by
  have hi':i<n:=by simpa[hn] using hi
  have hxi:i<xs.length:=by omega
  have h1:=hel i hi';rw[List.getElem?_eq_getElem hxi] at h1;obtain⟨q,e1,e2,_⟩:=DataW.trod_int he h1;rw[e1,List.getElem_map];have h2:(zs.map λz=>(DataW.lit (.int k z):DataW H))[i]? = (xs.map (·.1))[i]?:=by rw[hx]
  rw[List.getElem?_map,List.getElem?_map,List.getElem?_eq_getElem hxi,List.getElem?_eq_getElem (by omega),e2] at h2
  simp only[Option.map_some,Option.some.injEq] at h2;injection h2 with h2
  injection h2 with _ h2;rw[h2])
 rw[this];induction zs with
 | nil=>rfl
 | cons z zs _=>exact flat1' (Value.int k) (z :: zs)
where flat1' {α:Type} (g:α->Value):∀l:List α,(l.map λx=>[g x]).flatten=l.map g
 | []=>rfl
 | x :: l=>by rw[List.map_cons,List.flatten_cons,flat1' g l];rfl
theorem trod_pts{k:IntKind}{t e ei:TypeId}{f0 f1:Field}{n fuel:Nat}{cs:List Value}{d:DataW H}{ps:List MemPlace}(ht:P.underlying t=some (.array n e))(he:P.underlying e=some (.struct #[f0,f1]))(h0:f0.type=ei/\f0.offset=0)(h1:f1.type=ei/\f1.offset=1)
  (hi:P.underlying ei=some (.int k)) (hci:P.cellsOf ei=1) (hc:P.cellsOf e=2) (hct:P.cellsOf t=n * 2)
  (zs:List (Int×Int)) (hn:zs.length=n) (h:DataW.trod enc P w base spare held fuel t cs=some (d,ps)) (hz:d=.agg (zs.map λz=>.agg [.lit (.int k z.1),.lit (.int k z.2)])) :
  cs=(zs.map λz=>[Value.int k z.1,Value.int k z.2]).flatten:=by
 obtain⟨xs,m,_,hx,hl,hxl,hel⟩:=DataW.trod_array ht h;rw[hc] at hel;rw[hct] at hl;injection hx with hx _
 rw[hz] at hx;injection hx with hx
 refine pieces 2 (zs.map λz=>[Value.int k z.1,Value.int k z.2]) cs (by simp[hl,hn]) (λi hi'=>?_)
 have hi':i<n:=by simpa[hn] using hi'
 have hxi:i<xs.length:=by omega
 have hq:=hel i hi';rw[List.getElem?_eq_getElem hxi] at hq;obtain⟨y0,y1,m',e1,e2,e3,e4⟩:=trod_struct2 he hq;rw[h0.1,h0.2,hci] at e3;rw[h1.1,h1.2,hci] at e4;obtain⟨a,a1,a2,_⟩:=DataW.trod_int hi e3;obtain⟨b,b1,b2,_⟩:=DataW.trod_int hi e4;have h2:(zs.map λz=>(DataW.agg [.lit (.int k z.1),.lit (.int k z.2)]:DataW H))[i]? = (xs.map (·.1))[i]?:=by rw[hx]
 rw[List.getElem?_map,List.getElem?_map,List.getElem?_eq_getElem hxi,List.getElem?_eq_getElem (by omega),e1,a2,b2] at h2
 simp only[Option.map_some,Option.some.injEq,DataW.agg.injEq,List.cons.injEq,DataW.lit.injEq,Lit.int.injEq,and_true,true_and] at h2;rw[hc] at e2;generalize (cs.drop (i * 2)).take 2=q at *
 match q,e2 with
 | [u,v],_ =>
  simp at a1 b1;rw[List.getElem_map,a1,b1,h2.1,h2.2]
end
theorem zF9{P:Program}{w:World}:∀{l:List (String×DataW Unit)} {ps:List MemPlace},DataW.LaidVars P w l ps->∀{n:String} {d:DataW Unit},(n,d)∈l ->
  ∃g t cs fuel p,P.globalNamed n=some g/\(P.globals[g]?).map (·.type)=some t/\w.var? P n=some cs/\DataW.trod (λ_=>()) P w 0 (λ_=>true) false fuel t cs.toList=some (d,p)
 | [],_,_,_,_,hm=>by simp at hm
 | (n0,d0) :: r,ps,h,n,d,hm=>by
  obtain⟨g,t,cs,fuel,p,q,h1,h2,h3,h4,h5,_⟩:=h;rcases List.mem_cons.1 hm with e | hm
  ·injection e with e1 e2;subst e1 e2
   exact⟨g,t,cs,fuel,p,h1,h2,h3,h4⟩
  ·exact zF9 h5 hm
def stepsL:List (Int×Int):=[(0,-1),(-1,-1),(-1,0),(-1,1),(0,1),(1,1),(1,0),(1,-1)]
def stepsC:List Value:=(stepsL.map λz=>[Value.int .i64 z.1,Value.int .i64 z.2]).flatten
theorem rd_steps{S:Nat->Prop}{w:World}:RD EE.L S w zGG stepsC:=by
 have pt1:∀z:Int×Int,RD EE.L S w (pt z.1 z.2) [Value.int .i64 z.1,Value.int .i64 z.2]:=λz=>by
  have h:=RD.agg (L:=EE.L) (S:=S) (w:=w) 1 [DV.int .i64 z.1,.int .i64 z.2] [[Value.int .i64 z.1],[.int .i64 z.2]] rfl (λi h h'=>by
   match i,h,h' with
   | 0,_,_=>exact .int _ _
   | 1,_,_=>exact .int _ _) (by kernel_rfl)
  exact h
 have h:=RD.agg (L:=EE.L) (S:=S) (w:=w) 17 (stepsL.map λz=>pt z.1 z.2) (stepsL.map λz=>[Value.int .i64 z.1,Value.int .i64 z.2]) (by simp) (λi h h'=>by
  rw[List.getElem_map,List.getElem_map];exact pt1 _) (by kernel_rfl)
 exact h
theorem glob_mk{W:World}(h1:∀j,W.cell? ⟨1,j,none⟩=stepsC[j]?)(h5:∃t fr,W.heap[5]? = some (.cells (Lib.pow10Tab.map λz=>Value.int .u64 z).toArray t fr)):GlobOK EE (λb=>b<W.heap.size) W:=by
 have hs5:5<W.heap.size:=by obtain⟨t,fr,h⟩:=h5;exact(Array.getElem?_eq_some_iff.1 h).1
 refine⟨λg x h=>?_,λg cs h=>?_,λg k h=>by cases h⟩
 ·have e:EE.glob g=if g=1 then some zGG else none:=rfl
  rw[e] at h;split at h
  ·rename_i hg;injection h with h
   subst hg h;exact RV.mkDp rfl (show 1<W.heap.size by omega) (λj u hu=>by
    rw[jk rfl];simpa using(h1 j).trans hu) rd_steps
  ·cases h
 ·have e:EE.gtab g=if g=5 then some (Lib.pow10Tab.map λz=>Value.int .u64 z).toArray else none:=rfl
  rw[e] at h;split at h
  ·rename_i hg;injection h with h
   subst hg h;exact⟨hs5,h5⟩
  ·cases h
end Go.Am
namespace Go.Proofs.YtojkhldombndpaaGreatDoor
open Go Go.Am Go.RowKit Go.ChangeShapes Go.WideShapes Go.ChangeAt
theorem own:ownKnob Tryz.prog.godebug=Option.none:=by kernel_rfl
theorem laidOutT:laidOutB Tryz.prog=true:=by kernel_rfl
theorem E0D:DOK Tryz.prog EE:=zAU _ _ _
theorem gSteps:Tryz.prog.globalNamed "nacelle/site.steps"=some 1:=by kernel_rfl
theorem tSteps:(Tryz.prog.globals[1]?).map (·.type)=some 383:=by kernel_rfl
theorem gPow:Tryz.prog.globalNamed "internal/strconv.uint64pow10"=some 5:=by kernel_rfl
theorem tPow:(Tryz.prog.globals[5]?).map (·.type)=some 480:=by kernel_rfl
abbrev laid2:List (String×DataW Unit):=[("math/bits.deBruijn32tab",Rows.laid_math_bits_deBruijn32tab),("math/bits.deBruijn64tab",Rows.laid_math_bits_deBruijn64tab),("internal/strconv.uint64pow10",Rows.laid_internal_strconv_uint64pow10),("nacelle/site.steps",Rows.laid_nacelle_site_steps)]
theorem zGV{W:World}(h:laidMetH Tryz.prog laid2 W):GlobOK EE (λb=>b<W.heap.size) W:=by
 rw[MakeChecks.laidMetH_plain _ _ _ (by kernel_rfl)] at h
 obtain⟨ps,hl,_,_⟩:=h;obtain⟨g,t,cs,fuel,p,e1,e2,e3,e4⟩:=zF9 (n:="nacelle/site.steps") (d:=Rows.laid_nacelle_site_steps) hl (by simp[laid2])
 obtain rfl:=Option.some.inj (gSteps.symm.trans e1);obtain rfl:=Option.some.inj (tSteps.symm.trans e2);obtain⟨g',t',cs',fuel',p',f1,f2,f3,f4⟩:=zF9 (n:="internal/strconv.uint64pow10") (d:=Rows.laid_internal_strconv_uint64pow10) hl (by simp[laid2])
 obtain rfl:=Option.some.inj (gPow.symm.trans f1);obtain rfl:=Option.some.inj (tPow.symm.trans f2);have hc:=trod_pts (k:=.i64) (n:=8) (ei:=3) Tryz.underlying383 Tryz.underlying141 ⟨rfl,rfl⟩ ⟨rfl,rfl⟩ Tryz.underlying3 (by kernel_rfl) (by kernel_rfl) (by kernel_rfl) stepsL rfl e4 rfl
 have hd:=trod_ints (k:=.u64) (n:=20) Tryz.underlying480 Tryz.underlying421 (by kernel_rfl) (by kernel_rfl) Lib.pow10Tab rfl f4 rfl
 refine glob_mk (λj=>?_) ?_
 ·rw[World.var?_cell e1 e3 j,<-Array.getElem?_toList,hc];rfl
 ·simp only[World.var?,f1,Option.bind_some] at f3;split at f3
  ·rename_i c t fr hh;injection f3 with f3
   subst f3;refine⟨t,fr,?_⟩;rw[hh,<-hd]
  ·cases f3
theorem door_met2(os:Os)(args:Array Value):laidMetH Tryz.prog laid2 ((World.doorLaid Tryz.prog 100 os).forCall (λ_ _=>0) ⟨#[],args,[]⟩).memory :=
 laidMetH_of_parts3 (fuel:=8) (laidMet_of_run' 8 (by kernel_rfl) (by kernel_rfl)) (by kernel_rfl) (by kernel_rfl)
end Go.Proofs.YtojkhldombndpaaGreatDoor
namespace Go.Am
open Go.Proofs
open Go Go.RowKit
def noDef(ops:Array Oper):Bool:=ops.toList.all λo=>match o.op with | .defer _=>false | _=>true
section
variable{P:Program}{ops:Array Oper}{Q:Exit->Act->World->Prop}{l n:Nat}
theorem zJe(h:noDef ops=true){i:Nat}{o:Oper}(ho:ops[i]? = some o):∀c,o.op≠.defer c:=by
 intro c hc;have hm:o∈ops.toList:=by obtain⟨hi,rfl⟩:=Array.getElem?_eq_some_iff.1 ho;simp
 have:=List.all_eq_true.1 h o hm;rw[hc] at this;simp at this
theorem upon_In{o:Oper}{a:Act}{K K':Act->World->Prop}(hQ:¬LetsOut Q)(h:∀a w,K a w->K' a w){r:Result Next}(hh:o.upon P a K Q r):o.uponIn (Fence.wide.inRound l) n P a K' Q r:=by
 cases r with
 | ok x w' =>
  cases x with
  | value v=>exact h _ _ hh
  | skip=>exact h _ _ hh
  | defer d=>exact h _ _ hh
  | enter f args =>
   refine⟨λe=>by simp[Fence.wide] at e,?_⟩
   refine(CallsIn.inRound l (callsIn_wide.2 hh)).mono λe w'' he=>?_
   cases e with
   | returned v=>exact h _ _ he
   | panicked c=>exact he
   | outgrown=>exact he
  | row rw args =>
   refine⟨λe=>by simp[Fence.wide] at e,?_⟩
   intro c cs _;obtain⟨v,w'',h1,h2⟩:=hh c cs;exact⟨v,w'',h _ _ h1,stepsIn_wide.2 h2⟩
  | round l f t a b=>exact hh.elim
  | _=>exact hh.elim
 | halt x w' =>
  cases x <;> simp only[Oper.upon] at hh <;> exact hh
theorem wp_In{o:Oper}{a:Act}{w:World}{K K':Act->World->Prop}(hd:∀c,o.op≠.defer c)(hQ:¬LetsOut Q)(h:∀a w,K a w->K' a w)(hh:o.wp P a w K Q\/(o.asks P a w/\LetsOut Q)):o.wpIn (Fence.wide.inRound l) n P a w K' Q:=by
 refine⟨λ_ _=>trivial,?_⟩
 have hh:=hh.resolve_right λhx=>hQ hx.2
 rw[show(Fence.wide.inRound l).round=some l from rfl,Oper.semAt_eq _ _ _ hd]
 exact upon_In hQ h hh
theorem zCM(hn:noDef ops=true)(hQ:¬LetsOut Q):∀(is:List Nat) (a:Act) (w:World),wpOps P ops Q is a w->wpOpsIn (Fence.wide.inRound l) n P ops Q is a w
 | [],a,w,h=>h
 | i :: is,a,w,h=>by
  simp only[wpOps,wpOpsIn] at h ⊢;cases ho:ops[i]? with
  | none=>rw[ho] at h;exact zCM hn hQ is a w h
  | some o =>
   rw[ho] at h;simp only at h ⊢;split
   ·rename_i hw;rw[if_pos hw] at h;exact wp_In (zJe hn ho) hQ (λa w h=>zCM hn hQ is a w h) h
   ·rename_i hw;rw[if_neg hw] at h;exact⟨λ_ _=>trivial,zCM hn hQ is _ w h⟩
theorem zCN{md:Region.Mode}(hn:noDef ops=true)(hQ:¬LetsOut Q):∀(fuel:Nat) (listed:Array Bool) (a:Act) (w:World),wpAny P md ops Q fuel listed a w->wpAnyIn (Fence.wide.inRound l) n P md ops Q fuel listed a w
 | 0,listed,a,w,h=>h
 | fuel+1,listed,a,w,h=>by
  refine⟨h.1,λi hi=>?_⟩
  have hh:=h.2 i hi;unfold wpOp at hh;unfold wpOpIn;cases ho:ops[i]? with
  | none=>rw[ho] at hh;exact zCN hn hQ fuel _ a w hh
  | some o =>
   rw[ho] at hh;simp only at hh ⊢;split
   ·rename_i hw;rw[if_pos hw] at hh;exact wp_In (zJe hn ho) hQ (λa w h=>zCN hn hQ fuel _ a w h) hh
   ·rename_i hw;rw[if_neg hw] at hh;exact⟨λ_ _=>trivial,zCN hn hQ fuel _ _ w hh⟩
end
section
variable{P:Program}{E:Env}{call:FuncId->List DV->Option CR}{base:Nat}{S:Nat->Prop}{φ:Nat->Option Nat}{st:St}{a:Act}{w:World}{l m:Nat}
def inR:Code->Bool
 | .skip=>true
 | .region _ ops _=>noDef ops
 | .seq x y=>inR x && inR y
 | .block _ c=>inR c
 | .cond _ x y=>inR x && inR y
 | .exit _=>true
 | _=>false
end
end Go.Am
namespace Go.Am
open Go.Proofs
open Go Go.RowKit
attribute [local go_sem] Oper.semAt_some
def SeqR(P:Program)(g:Nat)(lb:Array Value)(xs:List (Array Value))(C:World->Prop):Prop :=
 ∀(l:Nat) (J:Nat->World->Prop) (W:World),(∀k W,J k W->C W) ->
  (∀k x W1,xs[k]? = some x->J k W1->YieldAt Fence.wide 0 P l x W1 λe W'=>e=.returned (.bool true)/\J (k+1) W') ->
  J 0 W->CallsIn Fence.wide 0 P g (#[.func (.yield l) #[] #[]]++lb) W λe W'=>(∃v,e=.returned v)/\J xs.length W'
section
variable{P:Program}
theorem zAd{g:Operand}{ps:Array Tmp}{assign body:Code}{Q:Exit->Act->World->Prop}{a:Act}{w:World}
  {gf:Nat} {lb:Array Value} (hg:a.eval g=.func (.func gf) #[] lb) (eg:∀args w,(callFunc gf args).run P w=.ok (.enter gf args) w)
  {xs:List (Array Value)} {C:World->Prop} (hseq:SeqR P gf lb xs C) (hps:∀x∈xs,x.size=ps.size)
  (I:Nat->World->Prop) (hI:∀k W r o,I k W->W.heap[w.heap.size+1]? = some (.loop r)->I k (W.putObj (w.heap.size+1) o))
  (hIC:∀k W,I k W->C W)
  (h0:∀r,I 0 ((w.alloc (.deferred (some []))).alloc (.loop r))) (a₁:Array Value->Act)
  (hassign:∀(k:Nat) (x:Array Value) (W:World) (K:Act->World->Prop),xs[k]? = some x->K (a₁ x) W ->
   assign.wpIn (Fence.wide.inRound (w.heap.size+1)) 0 P (Exit.then K (λ_ _ _=>False)) { tmps:=(ps.zip x).foldl (λt (p,v)=>t.setIfInBounds p v) a.tmps,defers:=[] } W)
  (hbody:∀(k:Nat) (x:Array Value) (W:World) (r:Loop),xs[k]? = some x->I k W->W.heap[w.heap.size+1]? = some (.loop r)->W.heap[w.heap.size]? = some (.deferred (some [])) ->
   body.wpIn (Fence.wide.inRound (w.heap.size+1)) 0 P (λe _ W'=>e=.normal/\I (k+1) W'/\W'.heap[w.heap.size+1]? = W.heap[w.heap.size+1]?/\W'.heap[w.heap.size]? = W.heap[w.heap.size]?) (a₁ x) W)
  (hdone:∀(W:World),I xs.length W->W.heap[w.heap.size]? = some (.deferred (some []))->Q .normal { a with defers:={ target:=.collected w.heap.size,args:=#[] } :: a.defers } W) :
  (Code.rangeFunc g ps assign body).wpIn Fence.wide 0 P Q a w:=by
 refine wpIn_rangeFunc ?_;intro fn hfn;obtain⟨rec,hrec⟩:∃rec:LoopState->Option Code->Loop,rec=λst pe=>{ state:=st,pending:=pe,fn,tmps:=a.tmps,params:=ps,assign,body,defers:=w.heap.size }:=⟨_,rfl⟩
 obtain⟨W1,hW1⟩:∃W1,(w.alloc (.deferred (some []))).alloc (.loop (rec .ready none))=W1:=⟨_,rfl⟩;have hL1:W1.heap[w.heap.size+1]? = some (.loop (rec .ready none)):=by rw[<-hW1];have:=World.alloc_heap_new (w.alloc (.deferred (some []))) (.loop (rec .ready none));rwa [World.size_alloc] at this
 have hK1:W1.heap[w.heap.size]? = some (.deferred (some [])):=by rw[<-hW1];exact(Below.heap_alloc _ _ _ (by simp)).trans (World.alloc_heap_new w _)
 have hI1:I 0 W1:=by rw[<-hW1];exact h0 _
 refine⟨w.heap.size+1,[{ target:=.collected w.heap.size,args:=#[] }],W1,{ target:=.fn (.func gf) lb,args:=#[.func (.yield (w.heap.size+1)) #[] #[]] },W1,gf,
  #[.func (.yield (w.heap.size+1)) #[] #[]]++lb,W1,?_,?_,?_,?_,λh=>by simp[Fence.wide] at h,?_⟩
 ·rw[<-hW1,hrec];exact run_enterLoop_outer _ _ _ _ _
 ·simp only[resolve,hg];simp[go_sem]
 ·intro f' hf';trivial
 ·simp[invoke,go_sem,eg]
 ·refine(hseq (w.heap.size+1)
   (λk W=>I k W/\W.heap[w.heap.size+1]? = some (.loop (rec .ready none))/\W.heap[w.heap.size]? = some (.deferred (some [])))
   W1 (λk W h=>hIC k W h.1) ?_ ⟨hI1,hL1,hK1⟩).mono ?_
  ·rintro k x W hx ⟨hi,hl,hk⟩;have hlt:w.heap.size+1<W.heap.size:=(Array.getElem?_eq_some_iff.1 hl).1;have hy:=run_yield (P:=P) (args:=x) hl (by rw[hrec];exact hps x (List.mem_iff_getElem?.2 ⟨k,hx⟩))
   rw[hrec] at hy;refine⟨fn,_,assign,body,hy,roundIn_of_wpIn hfn (hassign k x W _ hx ?_)⟩;refine⟨_,run_beginRound hl (by rw[hrec]),?_⟩
   have hl2:(W.putObj (w.heap.size+1) (.loop { rec .ready none with state:=.busy })).heap[w.heap.size+1]? = some (.loop { rec .ready none with state:=.busy }):=World.putObj_heap_same hlt
   have hk2:(W.putObj (w.heap.size+1) (.loop { rec .ready none with state:=.busy })).heap[w.heap.size]? = some (.deferred (some [])):=(World.putObj_heap_other (by omega)).trans hk
   refine wpIn_mono (hbody k x _ _ hx (hI k W _ _ hi hl) hl2 hk2) ?_;rintro e a3 W3 ⟨rfl,hi3,e1,e2⟩;have hl3:=e1.trans hl2;have hk3:=e2.trans hk2;have hr:=run_endRound (P:=P) none hl3;have hlt3:w.heap.size+1<W3.heap.size:=(Array.getElem?_eq_some_iff.1 hl3).1;refine⟨_,_,hr,rfl,hI _ _ _ _ hi3 hl3,?_,(World.putObj_heap_other (by omega)).trans hk3⟩
   rw[World.putObj_heap_same hlt3,hrec];rfl
  ·rintro e W2 ⟨⟨v,rfl⟩,hi,hl,hk⟩;exact⟨none,_,by have:=run_endLoop (P:=P) hl (by rw[hrec];simp);rw[hrec] at this;exact this,hdone _ (hI _ _ _ _ hi hl) ((World.putObj_heap_other (by omega)).trans hk)⟩
end
end Go.Am
namespace Go.Am
open Go.Proofs
open Go Go.RowKit
attribute [local go_sem] Oper.semAt_some
def encP(p:Nat×Nat):Array Value:=#[.int .i64 p.1,.int .i64 p.2]
def zEA(n j i:Nat):List (Nat×Nat):=((List.range' i (n - i)).filter (·≠j)).map λi=>(j,i)
def zAv(n j:Nat):List (Nat×Nat):=(List.range' j (n - j)).flatMap λj=>zEA n j 0
def jC(n:Nat):List (Nat×Nat):=zAv n 0
theorem rowP_end(n j:Nat):zEA n j n=[]:=by simp[zEA]
theorem rowP_eq{n j:Nat}(h:j<n):zEA n j j=zEA n j (j+1):=by
 unfold zEA;rw[show n - j=(n - (j+1))+1 by omega,List.range'_succ]
 simp
theorem rowP_ne{n j i:Nat}(h:i<n)(hn:i≠j):zEA n j i=(j,i) :: zEA n j (i+1):=by
 unfold zEA;rw[show n - i=(n - (i+1))+1 by omega,List.range'_succ]
 simp[hn]
theorem restP_end(n:Nat):zAv n n=[]:=by simp[zAv]
theorem restP_succ{n j:Nat}(h:j<n):zAv n j=zEA n j 0++zAv n (j+1):=by
 unfold zAv;rw[show n - j=(n - (j+1))+1 by omega,List.range'_succ]
 simp
theorem zC9{n:Nat}{p:Nat×Nat}(h:p∈jC n):p.1<n/\p.2<n/\p.1≠p.2:=by unfold jC zAv zEA at h;simp only[List.mem_flatMap,List.mem_range',List.mem_map,List.mem_filter] at h;obtain⟨a,⟨i,h1,h2⟩,b,⟨⟨k,h3,h4⟩,h5⟩,rfl⟩:=h;simp at h5;refine⟨by simp;omega,by simp;omega,λe=>h5 e.symm⟩
def QI:Value->Nat
 | .int _ x=>x.toNat
 | _=>0
set_option maxRecDepth 100000 in
set_option maxHeartbeats 2000000 in
theorem zG7(ad:Addr)(n:Nat)(hn:(n:Int)<9223372036854775807) :
  SeqR Tryz.prog 282 #[.pointer (some ad)] ((jC n).map encP) (λW=>W.cell? ad=some (.int .i64 n)):=by
 intro l J W hC hY h0;refine callsIn_of_wp Tryz.func282 rfl trivial ?_ rfl;simp only[Tryz.ntmps282,List.size_toArray,List.length_cons,List.length_nil,Nat.reduceAdd,Nat.reduceSub,Array.replicate_succ,Array.replicate_zero,List.push_toArray,List.append_toArray,List.nil_append,List.cons_append];have hW:=hC _ _ h0
 gi_wp2
 gi_loopw [6] (λp wr=>∃j k:Nat,p=.int .i64 j/\j<=n/\k<=(jC n).length/\(jC n).drop k=zAv n j/\J k wr) (λp _=>n - QI p)
 case atStart=>exact⟨0,0,rfl,by omega,by omega,rfl,h0⟩
 case round =>
  obtain⟨j,k,rfl,hj,hk,hd,hJ⟩:=hrel;have hc:=hC _ _ hJ;by_cases hjn:j<n
  ·gi_wp2
   gi_loopw [10] (λp wr=>∃i k:Nat,p=.int .i64 i/\i<=n/\k<=(jC n).length/\(jC n).drop k=zEA n j i++zAv n (j+1)/\J k wr) (λp _=>n - QI p)
   case atStart=>exact⟨0,k,rfl,by omega,hk,hd.trans (restP_succ hjn),hJ⟩
   case round =>
    obtain⟨i,k',rfl,hi,hk',hd',hJ'⟩:=hrel;have hc':=hC _ _ hJ';by_cases hin:i<n
    ·by_cases hij:i=j
     ·iterate 48 gi_step
      refine And.intro (λ(f:FuncId) _=>trivial) ?_
      iterate 4 gi_step
      gi_wp2
      go_roundw
      case rel=>exact⟨i+1,k',by simp;omega,by omega,hk',by rw[hd',hij,rowP_eq hjn],hJ'⟩
      case measure=>simp[QI];omega
     ·have hx:(jC n).drop k'=(j,i) :: (zEA n j (i+1)++zAv n (j+1)):=by rw[hd',rowP_ne hin hij];rfl
      have hx0:((jC n).map encP)[k']? = some #[.int .i64 j,.int .i64 i]:=by
       have:(jC n)[k']? = some (j,i):=by have:=congrArg List.head? hx;simpa[List.head?_drop] using this
       rw[List.getElem?_map,this];rfl
      have hlt:k'<(jC n).length:=by have:=congrArg List.length hx;simp at this;omega
      have hx1:(jC n).drop (k'+1)=zEA n j (i+1)++zAv n (j+1):=by have:=congrArg (List.drop 1) hx;simpa[List.drop_drop,Nat.add_comm] using this
      obtain⟨fn,tmps,assign,body,hy,hR⟩:=hY k' _ wr hx0 hJ';have hne:¬(i:Int)=(j:Int):=by omega
      gi_wp2
      refine⟨rfl,hR.mono ?_⟩;rintro e W3 ⟨rfl,hJ3⟩
      gi_wp2
      go_roundw
      case rel=>exact⟨i+1,k'+1,by simp,by omega,by omega,hx1,hJ3⟩
      case measure=>simp[QI];omega
    ·gi_wp2
     obtain rfl:i=n:=by omega
     refine⟨⟨j+1,k',by simp,by omega,hk',by rw[hd',rowP_end,List.nil_append],hJ'⟩,by simp[QI];omega⟩
  ·gi_wp2
   go_end0
   obtain rfl:j=n:=by omega
   rw[restP_end] at hd;have:=List.drop_eq_nil_iff.1 hd;obtain rfl:k=(jC j).length:=by omega
   exact⟨⟨_,rfl⟩,by simpa using hJ⟩
end Go.Am
namespace Go.Am
open Go.Proofs
open Go Go.RowKit
attribute [local go_sem] Oper.semAt_some
def encI(m:Int):Array Value:=#[.int .i64 m]
def zAH(W:World)(b o:Nat)(l:List Int):Prop:=∀j (h:j<l.length),W.cell? ⟨b,o+j,none⟩=some (.int .i64 l[j])
set_option maxRecDepth 100000 in
set_option maxHeartbeats 2000000 in
theorem values_seq(ad:Addr)(b o c:Nat)(l:List Int)(hn:(l.length:Int)<9223372036854775807) :
  SeqR Tryz.prog 287 #[.pointer (some ad)] (l.map encI) (λW=>W.cell? ad=some (.slice (some ⟨b,o,none⟩) l.length c)/\zAH W b o l):=by
 intro lo J W hC hY h0;refine callsIn_of_wp Tryz.func287 rfl trivial ?_ rfl;simp only[Tryz.ntmps287,List.size_toArray,List.length_cons,List.length_nil,Nat.reduceAdd,Nat.reduceSub,Array.replicate_succ,Array.replicate_zero,List.push_toArray,List.append_toArray,List.nil_append,List.cons_append];have hW:=(hC _ _ h0).1
 gi_wp2
 gi_loopw [7] (λp wr=>∃k:Nat,p=.int .i64 k/\k<=l.length/\J k wr) (λp _=>l.length - QI p)
 case atStart=>exact⟨0,rfl,Nat.zero_le _,h0⟩
 case round =>
  obtain⟨k,rfl,hk,hJ⟩:=hrel;by_cases hkn:k<l.length
  ·have hc:=(hC _ _ hJ).2 k hkn;have hx:(l.map encI)[k]? = some #[.int .i64 l[k]]:=by rw[List.getElem?_map,List.getElem?_eq_getElem hkn];rfl
   obtain⟨fn,tmps,assign,body,hy,hR⟩:=hY k _ wr hx hJ
   gi_wp2
   refine⟨rfl,hR.mono ?_⟩;rintro e W3 ⟨rfl,hJ3⟩
   gi_wp2
   go_roundw
   case rel=>exact⟨k+1,by simp,by omega,hJ3⟩
   case measure=>simp[QI];omega
  ·gi_wp2
   go_end0
   obtain rfl:k=l.length:=by omega
   exact⟨⟨_,rfl⟩,by simpa using hJ⟩
set_option maxRecDepth 100000 in
set_option maxHeartbeats 2000000 in
theorem zIn(ad:Addr)(a:Option Addr)(c:Nat) :
  SeqR Tryz.prog 287 #[.pointer (some ad)] [] (λW=>W.cell? ad=some (.slice a 0 c)):=by
 intro lo J W hC hY h0;refine callsIn_of_wp Tryz.func287 rfl trivial ?_ rfl;simp only[Tryz.ntmps287,List.size_toArray,List.length_cons,List.length_nil,Nat.reduceAdd,Nat.reduceSub,Array.replicate_succ,Array.replicate_zero,List.push_toArray,List.append_toArray,List.nil_append,List.cons_append];have hW:=hC _ _ h0
 gi_wp2
 gi_loopw [7] (λp wr=>p=.int .i64 0/\J 0 wr) (λp _=>0)
 case atStart=>exact⟨rfl,h0⟩
 case round =>
  obtain⟨rfl,hJ⟩:=hrel
  gi_wp2
  go_end0
  exact⟨⟨_,rfl⟩,hJ⟩
end Go.Am
namespace Go.Am
open Go.Proofs
open Go Go.RowKit
abbrev Orc:=FuncId->Option (List DV->Option CR)
def jV(o:Orc)(E:Env)(X:XC):Nat->FuncId->List DV->Option CR
 | 0,_,_=>none
 | n+1,f,args=>match o f with
  | some g=>g args
  | none=>match E.F f with
   | some fn=>match fn.body with
    | some c=>run (jV o E X n) (goX (jV o E X n) (zEo E X f fn c) n) (funX E X f fn c args)
    | none=>none
   | none=>none
section
variable{o:Orc}{E:Env}{X:XC}
theorem Yq:∀n,Sub (jV o E X n) (jV o E X (n+1))
 | 0=>λf a r h=>by simp[jV] at h
 | n+1=>λf a r h=>by
  rw[jV] at h ⊢;split at h
  ·rename_i g hg;exact h
  ·split at h
   ·split at h
    ·exact YO (Yq n) (QZ (Yq n) _ (Nat.le_succ n)) _ h
    ·cases h
   ·cases h
theorem Jd{n m:Nat}(h:n<=m):Sub (jV o E X n) (jV o E X m):=by
 induction h with
 | refl=>exact λ_ _ _ h=>h
 | step _ ih=>exact λf a r h=>Yq _ f a r (ih f a r h)
end
open Classical in
noncomputable def Qf(o:Orc)(E:Env)(X:XC)(f:FuncId)(a:List DV):Option CR :=
 if h:∃n,(jV o E X n f a).isSome=true then jV o E X h.choose f a else none
def zID(o:Orc)(E:Env)(X:XC)(f:FuncId)(n:Nat):Nat->St->Option CR:=goX (jV o E X n) (zEo E X f (j7 E f) (YC E f)) n
open Classical in
noncomputable def goLo(o:Orc)(E:Env)(X:XC)(f:FuncId)(j:Nat)(st:St):Option CR :=
 if h:∃n,(zID o E X f n j st).isSome=true then zID o E X f h.choose j st else none
section
variable{o:Orc}{E:Env}{X:XC}
theorem zA0{f:FuncId}{n m:Nat}(h:n<=m):SubG (zID o E X f n) (zID o E X f m):=QZ (Jd h) _ h
theorem Jm{f:FuncId}{a:List DV}{r:CR}:Qf o E X f a=some r ↔ ∃n,jV o E X n f a=some r:=by
 unfold Qf;constructor
 ·intro h;split at h
  ·exact⟨_,h⟩
  ·cases h
 ·rintro⟨n,h⟩;have hex:∃n,(jV o E X n f a).isSome=true:=⟨n,by rw[h];rfl⟩
  rw[dif_pos hex];obtain⟨r',hr'⟩:=Option.isSome_iff_exists.1 hex.choose_spec;rw[hr'];rcases Nat.le_total n hex.choose with k | k
  ·have:=Jd k _ _ _ h;rw[hr'] at this;exact this
  ·have:=Jd k _ _ _ hr';rw[h] at this;exact this.symm
theorem zCZ{f:FuncId}{j:Nat}{st:St}{r:CR}:goLo o E X f j st=some r ↔ ∃n,zID o E X f n j st=some r:=by
 unfold goLo;constructor
 ·intro h;split at h
  ·exact⟨_,h⟩
  ·cases h
 ·rintro⟨n,h⟩;have hex:∃n,(zID o E X f n j st).isSome=true:=⟨n,by rw[h];rfl⟩
  rw[dif_pos hex];obtain⟨r',hr'⟩:=Option.isSome_iff_exists.1 hex.choose_spec;rw[hr'];rcases Nat.le_total n hex.choose with k | k
  ·have:=zA0 k _ _ _ h;rw[hr'] at this;exact this
  ·have:=zA0 k _ _ _ hr';rw[h] at this;exact this.symm
theorem zJP{f:FuncId}{r:CR}:∀t:Tr,run (Qf o E X) (goLo o E X f) t=some r->∃n,run (jV o E X n) (zID o E X f n) t=some r:=by
 intro t;induction t with
 | fail=>intro h;simp[run] at h
 | ret r'=>intro h;exact⟨0,h⟩
 | ifB b t e iht ihe =>
  intro h;rcases QR h with ⟨rfl,h⟩ | ⟨rfl,h⟩
  ·exact iht h
  ·exact ihe h
 | call g a kv kf ihv ihf =>
  intro h;rcases QS h with ⟨x,h1,h⟩ | ⟨s,xs,h1,h⟩
  ·obtain⟨n,hn⟩:=Jm.1 h1;obtain⟨m,hm⟩:=ihv x h;refine⟨max n m,?_⟩;simp only[run,Jd (Nat.le_max_left n m) _ _ _ hn,zI];exact YO (Jd (Nat.le_max_right n m)) (zA0 (Nat.le_max_right n m)) _ hm
  ·obtain⟨n,hn⟩:=Jm.1 h1;obtain⟨m,hm⟩:=ihf s xs h;refine⟨max n m,?_⟩;simp only[run,Jd (Nat.le_max_left n m) _ _ _ hn,zI];exact YO (Jd (Nat.le_max_right n m)) (zA0 (Nat.le_max_right n m)) _ hm
 | goto j st=>intro h;exact zCZ.1 h
theorem run_upo{f:FuncId}{n:Nat}{r:CR}(t:Tr)(h:run (jV o E X n) (zID o E X f n) t=some r):run (Qf o E X) (goLo o E X f) t=some r :=
 YO (λ_ _ _ h=>Jm.2 ⟨n,h⟩) (λ_ _ _ h=>zCZ.2 ⟨n,h⟩) t h
theorem goLo_eq(f:FuncId)(j:Nat)(st:St):goLo o E X f j st=run (Qf o E X) (goLo o E X f) (zEo E X f (j7 E f) (YC E f) j st):=by
 apply zEj;intro r;constructor
 ·intro h;obtain⟨n,h⟩:=zCZ.1 h;cases n with
  | zero=>simp[zID,goX] at h
  | succ n =>
   have h':run (jV o E X (n+1)) (goX (jV o E X (n+1)) (zEo E X f (j7 E f) (YC E f)) n) (zEo E X f (j7 E f) (YC E f) j st)=some r:=h;exact run_upo (n:=n+1) _ (YO (λ_ _ _ h=>h) (QZ (λ_ _ _ h=>h) _ (Nat.le_succ n)) _ h')
 ·intro h;obtain⟨n,h⟩:=zJP _ h;refine zCZ.2 ⟨n+1,?_⟩;show run (jV o E X (n+1)) (goX (jV o E X (n+1)) (zEo E X f (j7 E f) (YC E f)) n) (zEo E X f (j7 E f) (YC E f) j st)=some r;exact YO (Yq n) (QZ (Yq n) _ (Nat.le_refl n)) _ h
theorem callLo_orc{f:FuncId}{g:List DV->Option CR}(ho:o f=some g)(a:List DV):Qf o E X f a=g a:=by
 apply zEj;intro r;constructor
 ·intro h;obtain⟨n,h⟩:=Jm.1 h;cases n with
  | zero=>simp[jV] at h
  | succ n=>rw[jV,ho] at h;exact h
 ·intro h;exact Jm.2 ⟨1,by rw[jV,ho];exact h⟩
theorem callLo_eq{f:FuncId}(ho':o f=none)(hF:(E.F f).isSome=true)(hb:((j7 E f).body).isSome=true)(a:List DV) :
  Qf o E X f a=run (Qf o E X) (goLo o E X f) (funX E X f (j7 E f) (YC E f) a):=by
 obtain⟨fn,hfn⟩:=Option.isSome_iff_exists.1 hF;have e1:j7 E f=fn:=by unfold j7;rw[hfn]
 obtain⟨c,hc⟩:=Option.isSome_iff_exists.1 hb;have e2:YC E f=c:=by unfold YC;rw[hc]
 have hs:∀n,jV o E X (n+1) f a=run (jV o E X n) (zID o E X f n) (funX E X f (j7 E f) (YC E f) a):=by intro n;rw[e1] at hc;rw[jV,ho',hfn];simp only[hc];unfold zID;rw[e1,e2]
 apply zEj;intro r;constructor
 ·intro h;obtain⟨n,h⟩:=Jm.1 h;cases n with
  | zero=>simp[jV] at h
  | succ n=>rw[hs] at h;exact run_upo _ h
 ·intro h;obtain⟨n,h⟩:=zJP _ h;exact Jm.2 ⟨n+1,by rw[hs];exact h⟩
end
structure EnvOKo(P:Program)(E:Env)(o:Orc):Prop where
 D:DOK P E
 mixed:P.follows .mixedOrders=true
 F:∀f fn,E.F f=some fn->P.funcs[f]? = some fn/\(fn.name == "runtime.NumGoroutine")=false
 orc:∀f g,o f=some g->jv P E λf' ds=>if f'=f then g ds else none
theorem zHz{P:Program}{E:Env}{o:Orc}(hE:EnvOKo P E o)(X:XC):∀n,jv P E (jV o E X n):=by
 intro n;induction n with
 | zero=>intro f ds r h;simp[jV] at h
 | succ n ih =>
  intro f ds r h;simp only[jV] at h;cases ho:o f with
  | some g =>
   rw[ho] at h;exact hE.orc f g ho f ds r (by simpa using h)
  | none =>
   rw[ho] at h;simp only at h;cases hF:E.F f with
   | none=>rw[hF] at h;simp at h
   | some fn =>
    rw[hF] at h;simp only at h;obtain⟨hf,hname⟩:=hE.F f fn hF;cases hb:fn.body with
    | none=>rw[hb] at h;simp at h
    | some c =>
     rw[hb] at h;simp only at h;unfold funX at h;obtain⟨hlen0,h⟩:=zg h;simp only[Bool.and_eq_true,decide_eq_true_eq] at hlen0;obtain⟨hlen0,hloops⟩:=hlen0;obtain⟨hle,h⟩:=zBr hlen0 h;have hex:=zDI (E:=E) (X:=X) (F:=X.fx f) (M:=n) c n (Nat.le_refl n) 0 0 (by omega) (zHL E (E.fresh f) fn) (λe st=>bnd (zEy E (E.fresh f) fn e st) (λr0=>some (zCA E (E.fresh f) fn r0)))
      (λj _ st=>rfl) (λq _ e st h=>qV h) Yg n (Nat.le_refl n) (entry fn ds) h
     refine⟨⟨fn,hf,hname,by rw[hb];rfl⟩,λS w vals hglob hlt hlen hrv=>?_⟩
     refine calls_of_wp hf hb ?_;have hR:Rel E w.heap.size S (λ_=>none) (entry fn ds) { tmps:=vals.toArray++Array.replicate (fn.ntmps - vals.toArray.size) undef,defers:=[] } w:=by
      refine⟨hglob,λt v hv=>?_,λb ob hb=>?_,λb b' ob ob' cb h1=>?_,hlt,Nat.le_refl _,rfl⟩
      ·exact zJt hlen hrv hle t v hv
      ·unfold slot at hb;simp only[entry,List.getElem?_replicate] at hb;split at hb
       ·rename_i hx;split at hx <;> simp at hx
       ·cases hb
      ·unfold slot at h1;simp only[entry,List.getElem?_replicate] at h1;split at h1
       ·rename_i hx;split at hx <;> simp at hx
       ·cases h1
     refine J6 hE.D hE.mixed (zAt ih) c hex hR λex st' S' φ' a' w' k1 k2 k3=>?_
     obtain⟨r0,k4,k5⟩:=zA k1;injection k5 with k5
     cases ex with
     | exit id=>simp[zEy] at k4
     | normal =>
      obtain⟨h1,v,h2,h3⟩:=Jv hE.D k2 k3 k4;exact⟨h1,v,h2,v,rfl,k5 ▸ qz h3⟩
     | ret =>
      obtain⟨h1,v,h2,h3⟩:=Jv hE.D k2 k3 k4;exact⟨h1,v,h2,v,rfl,k5 ▸ qz h3⟩
theorem jg{P:Program}{E:Env}{o:Orc}(hE:EnvOKo P E o)(X:XC):jv P E (Qf o E X):=by intro f ds r h;obtain⟨n,h⟩:=Jm.1 h;exact zHz hE X n f ds r h
end Go.Am
namespace Go.Am
open Go.Proofs
open Go Go.RowKit
mutual
def nz(L:Nat->List Nat):DV->Bool
 | .sl sz xs=>(decide (0<sz) || xs.isEmpty) && nzL L xs
 | .agg _ fs=>nzL L fs
 | .dp x=>nz L x && decide (0<JZ L (.d x))
 | .fn _ x y=>nzL L x && nzL L y
 | .mp ks vs=>nzL L ks && nzL L vs
 | .ifc _ x=>nz L x
 | _=>true
def nzL(L:Nat->List Nat):List DV->Bool
 | []=>true
 | x :: xs=>nz L x && nzL L xs
end
theorem Yt{L:Nat->List Nat}:∀{xs:List DV},nzL L xs=true->∀i (h:i<xs.length),nz L xs[i]=true
 | [],_,i,h=>by simp at h
 | x :: xs,hn,i,h=>by
  simp only[nzL,Bool.and_eq_true] at hn;cases i with
  | zero=>exact hn.1
  | succ i=>exact Yt hn.2 i (by simpa using h)
theorem zBE{L:Nat->List Nat}:∀{xs:List DV},(∀x∈xs,nz L x=true)->nzL L xs=true
 | [],_=>rfl
 | x :: xs,h=>by simp only[nzL,Bool.and_eq_true];exact⟨h x (by simp),zBE λy hy=>h y (by simp[hy])⟩
mutual
def nzV(L:Nat->List Nat):AV->Bool
 | .d x=>nz L x
 | .agg _ fs=>zJd L fs
 | .fn _ x y=>zJd L x && zJd L y
 | _=>true
def zJd(L:Nat->List Nat):List AV->Bool
 | []=>true
 | x :: xs=>nzV L x && zJd L xs
end
theorem QV{L:Nat->List Nat}:∀{xs:List AV},zJd L xs=true->∀i (h:i<xs.length),nzV L xs[i]=true
 | [],_,i,h=>by simp at h
 | x :: xs,hn,i,h=>by
  simp only[zJd,Bool.and_eq_true] at hn;cases i with
  | zero=>exact hn.1
  | succ i=>exact QV hn.2 i (by simpa using h)
def nzB(L:Nat->List Nat):Option OB->Bool
 | some ⟨_,.dc _ xs⟩=>nzL L xs
 | some ⟨_,.ac _ xs⟩=>zJd L xs
 | some ⟨_,.mp ks vs⟩=>nzL L ks && nzL L vs
 | _=>true
def nzSt(L:Nat->List Nat)(st:St):Bool:=zJd L st.tm && st.hp.all (nzB L)
def Odd(o:Obj):Prop:=(∀cs t s,o≠.cells cs t s)/\(∀es c,o≠.map es c)/\∀s p,o≠.stringIter s p
section
variable{L:Nat->List Nat}{S:Nat->Prop}{φ:Nat->Option Nat}{w:World}{l:Nat}{o:Obj}
def cutS(S:Nat->Prop)(l:Nat):Nat->Prop:=λb=>S b/\b≠l
theorem cell_ne(ho:w.heap[l]? = some o)(hx:Odd o){ad:Addr}{u:Value}(h:w.cell? ad=some u):ad.block≠l:=by
 rintro rfl;unfold World.cell? at h;rw[ho] at h;cases o with
 | cells cs t s=>exact hx.1 cs t s rfl
 | _=>simp at h
theorem RD.cut(ho:w.heap[l]? = some o)(hx:Odd o){x:DV}{cs:List Value}(h:RD L S w x cs)(hn:nz L x=true):RD L (cutS S l) w x cs:=by
 induction h with
 | bool b=>exact .bool b
 | int k n=>exact .int k n
 | flt k b=>exact .flt k b
 | cpx k a b=>exact .cpx k a b
 | str s=>exact .str s
 | nl a=>exact .nl a
 | nilFn=>exact .nilFn
 | nilPtr=>exact .nilPtr
 | nilMp=>exact .nilMp
 | nilIf=>exact .nilIf
 | sl sz xs a n c css hn1 hc hl _ hz hm ih =>
  simp only[nz,Bool.and_eq_true,Bool.or_eq_true,decide_eq_true_eq] at hn;refine .sl sz xs a n c css hn1 hc hl (λi h h'=>ih i h h' (Yt hn.2 i h)) hz λh0=>?_
  obtain⟨ad,e,hsp,hs,hcell⟩:=hm h0;refine⟨ad,e,hsp,⟨hs,?_⟩,hcell⟩;have hsz:0<sz:=by
   rcases hn.1 with h | h
   ·exact h
   ·simp at h;subst h;simp at hn1;omega
  have hcl:0<css.length:=by omega
  have hc0:=hz css[0] (List.getElem_mem hcl);obtain⟨u,rest,hu⟩:∃u rest,css.flatten=u :: rest:=by
   cases css with
   | nil=>simp at hcl
   | cons c r =>
    simp at hc0;cases c with
    | nil=>simp at hc0;omega
    | cons u c=>exact⟨u,c++r.flatten,by simp⟩
  have:=hcell 0 u (by rw[hu];rfl)
  have hne:=cell_ne ho hx this
  rwa [JU] at hne
 | agg tag fs css hl _ hz ih =>
  simp only[nz] at hn;exact .agg tag fs css hl (λi h h'=>ih i h h' (Yt hn i h)) hz
 | dp x ad cs hsp hs hm hr hxt ih =>
  simp only[nz,Bool.and_eq_true,decide_eq_true_eq] at hn;refine .dp x ad cs hsp ⟨hs,?_⟩ hm (ih hn.1) hxt;have hlen:=hr.len;cases cs with
  | nil=>simp at hlen;omega
  | cons u cs =>
   have hne:=cell_ne ho hx (hm 0 u rfl)
   rwa [JU] at hne
 | fn f x y vx vy hx' hy _ h2 _ h4 ih1 ih3 =>
  simp only[nz,Bool.and_eq_true] at hn;exact .fn f x y vx vy hx' hy (λi h h'=>ih1 i h h' (Yt hn.1 i h)) h2 (λi h h'=>ih3 i h h' (Yt hn.2 i h)) h4
 | mp ks vs r es clock hs hr hk hv _ h2 _ h4 ih1 ih3 =>
  simp only[nz,Bool.and_eq_true] at hn;refine .mp ks vs r es clock ⟨hs,?_⟩ hr hk hv (λi h h'=>ih1 i h h' (Yt hn.1 i h)) h2 (λi h h'=>ih3 i h h' (Yt hn.2 i h)) h4
  rintro rfl;rw[hr] at ho;injection ho with ho
  exact hx.2.1 _ _ ho.symm
 | ifc t x v _ h2 ih =>
  simp only[nz] at hn;exact .ifc t x v (ih hn) h2
theorem RV.cut(ho:w.heap[l]? = some o)(hx:Odd o){x:DV}{v:Value}(ht:x.isTup=false)(h:RV L S w x v)(hn:nz L x=true):RV L (cutS S l) w x v :=
 RV.of ht ((RV.rd ht h).1.cut ho hx hn) (RV.rd ht h).2
theorem RA.cut(ho:w.heap[l]? = some o)(hx:Odd o){v:AV}{cs:List Value}(h:RA L S φ w v cs)(hn:nzV L v=true):RA L (cutS S l) φ w v cs:=by
 induction h with
 | d x cs h=>exact .d x cs (h.cut ho hx hn)
 | undef cs h1=>exact .undef cs h1
 | own b off len sz cb c hb hc hr=>exact .own b off len sz cb c hb hc hr
 | own0 b off sz a=>exact .own0 b off sz a
 | ptr b sz e p cb hb=>exact .ptr b sz e p cb hb
 | omp b r hb=>exact .omp b r hb
 | it b r hb=>exact .it b r hb
 | agg tag fs css hl _ hz ih =>
  simp only[nzV] at hn;exact .agg tag fs css hl (λi h h'=>ih i h h' (QV hn i h)) hz
 | fn f x y vx vy hx' hy _ h2 _ h4 ih1 ih3 =>
  simp only[nzV,Bool.and_eq_true] at hn;exact .fn f x y vx vy hx' hy (λi h h'=>ih1 i h h' (QV hn.1 i h)) h2 (λi h h'=>ih3 i h h' (QV hn.2 i h)) h4
theorem RAV.cut(ho:w.heap[l]? = some o)(hx:Odd o){v:AV}{u:Value}(ht:∀xs,v≠.d (.tup xs))(h:RAV L S φ w v u)(hn:nzV L v=true):RAV L (cutS S l) φ w v u:=by
 cases v with
 | undef=>trivial
 | d x=>exact RV.cut ho hx (by cases x <;> first | rfl | exact absurd rfl (ht _)) h hn
 | _=>exact⟨h.1.cut ho hx hn,h.2⟩
theorem RB.ne(ho:w.heap[l]? = some o)(hx:Odd o){b:Blk}{cb:Nat}(h:RB L S φ w b cb):cb≠l:=by
 rintro rfl;cases b with
 | dc sz xs=>obtain⟨cs,t,css,h1,_⟩:=h;rw[ho] at h1;injection h1 with h1;exact hx.1 _ _ _ h1
 | ac sz xs=>obtain⟨cs,t,css,h1,_⟩:=h;rw[ho] at h1;injection h1 with h1;exact hx.1 _ _ _ h1
 | mp ks vs=>obtain⟨es,c,h1,_⟩:=h;rw[ho] at h1;injection h1 with h1;exact hx.2.1 _ _ h1
 | sit s p=>rw[show w.heap[cb]? = _ from h] at ho;injection ho with ho;exact hx.2.2 _ _ ho.symm
theorem RB.cut(ho:w.heap[l]? = some o)(hx:Odd o){b:Blk}{cb:Nat}{z:Bool}(h:RB L S φ w b cb)(hn:nzB L (some ⟨z,b⟩)=true):RB L (cutS S l) φ w b cb:=by
 cases b with
 | dc sz xs =>
  obtain⟨cs,t,css,h1,h2,h3,h4⟩:=h;exact⟨cs,t,css,h1,h2,λi a b=>(h3 i a b).cut ho hx (Yt hn i a),h4⟩
 | ac sz xs =>
  obtain⟨cs,t,css,h1,h2,h3,h4⟩:=h;exact⟨cs,t,css,h1,h2,λi a b=>(h3 i a b).cut ho hx (QV hn i a),h4⟩
 | mp ks vs =>
  simp only[nzB,Bool.and_eq_true] at hn;obtain⟨es,clock,h1,h2,h3,h4,h5⟩:=h;exact⟨es,clock,h1,h2,h3,λi a b=>⟨(h4 i a b).1.cut ho hx (Yt hn.1 i a),(h4 i a b).2⟩,λi a b=>⟨(h5 i a b).1.cut ho hx (Yt hn.2 i a),(h5 i a b).2⟩⟩
 | sit s p=>exact h
end
section
variable{E:Env}{base:Nat}{S:Nat->Prop}{φ:Nat->Option Nat}{st:St}{a:Act}{w:World}{l:Nat}{o:Obj}
def noTupV(st:St):Bool:=st.tm.all λv=>match v with | .d (.tup _)=>false | _=>true
theorem Rel.cut(ho:w.heap[l]? = some o)(hx:Odd o)(h:Rel E base S φ st a w)(hg:∀g x,E.glob g=some x->nz E.L (.dp x)=true)(ht:noTupV st=true)(hn:nzSt E.L st=true):Rel E base (cutS S l) φ st a w:=by
 unfold nzSt at hn;rw[Bool.and_eq_true] at hn;refine⟨⟨λg x e=>RV.cut ho hx rfl (h.glob.val g x e) (hg g x e),λg cs e=>⟨⟨(h.glob.tab g cs e).1,by
  rintro rfl;obtain⟨t,fr,hh⟩:=(h.glob.tab g cs e).2;rw[ho] at hh;injection hh with hh
  exact hx.1 _ _ _ hh⟩,(h.glob.tab g cs e).2⟩,λg k e=>⟨⟨(h.glob.one g k e).1,by
  rintro rfl;obtain⟨v,t,fr,hh,_⟩:=(h.glob.one g k e).2;rw[ho] at hh;injection hh with hh
  exact hx.1 _ _ _ hh⟩,(h.glob.one g k e).2⟩⟩,λt v hv=>?_,λb ob hob=>?_,h.inj,λb hb=>h.lt b hb.1,h.base,h.dfr⟩
 ·obtain⟨u,hu,hr⟩:=h.tm t v hv;obtain⟨hlt,rfl⟩:=List.getElem?_eq_some_iff.1 hv;refine⟨u,hu,hr.cut ho hx (λxs e=>?_) (QV hn.1 t hlt)⟩
  have:=List.all_eq_true.1 ht _ (List.getElem_mem hlt);rw[e] at this;simp at this
 ·obtain⟨cb,h1,h2,h3,h4⟩:=h.blk b ob hob;obtain⟨z,bk⟩:=ob;have hm:some (⟨z,bk⟩:OB)∈st.hp:=by
   unfold slot at hob;split at hob
   ·rename_i x hx';cases hob;exact List.mem_iff_getElem?.2 ⟨b,hx'⟩
   ·cases hob
  have hnb:=List.all_eq_true.1 hn.2 _ hm;refine⟨cb,h1,h2,h3.cut ho hx (z:=z) hnb,⟨λhh=>h4.1 hh.1,λhh=>⟨h4.2 hh,h3.ne ho hx⟩⟩⟩
theorem Rel.le{s t:St}(hle:Le [] s t)(h:Rel E base S φ t a w):Rel E base S φ s a w:=by
 have hs:=hle.hle;refine⟨h.glob,λi v hv=>?_,λb ob hob=>h.blk b ob (hs b ob hob),λb b' ob ob' c h1 h2=>h.inj b b' ob ob' c (hs _ _ h1) (hs _ _ h2),h.lt,h.base,h.dfr⟩
 rcases hle.tm i with ⟨h1,h2⟩ | h1
 ·obtain⟨x,hx⟩:=Option.isSome_iff_exists.1 h2;obtain⟨u,hu,_⟩:=h.tm i x hx;rw[h1] at hv;injection hv with hv;subst hv
  exact⟨u,hu,trivial⟩
 ·exact h.tm i v (h1 ▸ hv)
theorem Rel.turn(ho:w.heap[l]? = some o)(hx:Odd o)(hS:¬S l)(h:Rel E base S φ st a w)(o':Obj):Rel E base S φ st a (w.putObj l o'):=by
 have hlt:l<w.heap.size:=(Array.getElem?_eq_some_iff.1 ho).1;have hb:∀k,k≠l->(w.putObj l o').heap[k]? = w.heap[k]?:=λk hk=>World.putObj_heap_other hk
 have hr:∀cb n,Room w cb n->Room (w.putObj l o') cb n:=by
  rintro cb n ⟨cs,t,h1,h2⟩;refine⟨cs,t,(hb cb ?_).trans h1,h2⟩;rintro rfl;rw[ho] at h1;injection h1 with h1
  exact hx.1 _ _ _ h1
 have k:Keep S S φ φ w (w.putObj l o'):=⟨λ_ h=>h,λb hb'=>hb b (by rintro rfl;exact hS hb'),λ_ _ h=>h,λb cb n _ hr'=>hr cb n hr'⟩
 have hsz:(w.putObj l o').heap.size=w.heap.size:=by simp
 refine⟨h.glob.mono k.sub k.heap,h.tm.mono k,λb ob hob=>?_,h.inj,λb hb'=>by rw[hsz];exact h.lt b hb',by rw[hsz];exact h.base,h.dfr⟩
 obtain⟨c,hc,h1,h2,h3⟩:=h.blk b ob hob;exact⟨c,hc,h1,h2.mono k (hb c (h2.ne ho hx)),h3⟩
theorem Rel.stay(ho:w.heap[l]? = some o)(hx:Odd o)(h:Rel E base S φ st a w):Rel E base (λb=>S b\/b=l) φ st a w:=by
 have hlt:l<w.heap.size:=(Array.getElem?_eq_some_iff.1 ho).1;have k:Keep S (λb=>S b\/b=l) φ φ w w:=⟨λ_ h=>.inl h,λ_ _=>rfl,λ_ _ h=>h,λ_ _ _ _ h=>h⟩
 refine⟨h.glob.mono k.sub k.heap,h.tm.mono k,λb ob hob=>?_,h.inj,λb hb=>hb.elim (h.lt b) (λe=>e ▸ hlt),h.base,h.dfr⟩
 obtain⟨c,hc,h1,h2,h3⟩:=h.blk b ob hob;exact⟨c,hc,h1,h2.mono k rfl,⟨λhh=>hh.elim h3.1 (λe=>absurd e (h2.ne ho hx)),λhh=>.inl (h3.2 hh)⟩⟩
end
end Go.Am
namespace Go.Am
open Go.Proofs
open Go Go.RowKit
def KeepD(D:List Nat)(a a':Act):Prop:=∀i:Nat,i ∉ D->a'.tmps[i]? = a.tmps[i]?
theorem KeepD.refl(D:List Nat)(a:Act):KeepD D a a:=λ_ _=>rfl
theorem KeepD.trans{D:List Nat}{a b c:Act}(h:KeepD D a b)(k:KeepD D b c):KeepD D a c:=λi hi=>(k i hi).trans (h i hi)
def dstIn(D:List Nat)(o:Oper):Bool:=match o.dst with | some d=>D.contains d | none=>true
def zGZ(D:List Nat)(ops:Array Oper):Bool:=ops.toList.all (dstIn D)
def zD1(D:List Nat):Code->Bool
 | .region _ ops _=>zGZ D ops
 | .seq x y=>zD1 D x && zD1 D y
 | .block _ c=>zD1 D c
 | .cond _ x y=>zD1 D x && zD1 D y
 | _=>true
theorem KeepD.put{D:List Nat}{a0 a:Act}(h:KeepD D a0 a){o:Oper}(hd:dstIn D o=true)(v:Value):KeepD D a0 (a.put o.dst v):=by
 intro i hi;unfold dstIn at hd;cases ho:o.dst with
 | none=>exact h i hi
 | some d =>
  rw[ho] at hd;simp only[List.contains_iff_mem] at hd;have hne:d≠i:=by rintro rfl;exact hi hd
  simp only[Act.put];rw[Array.getElem?_setIfInBounds_ne hne];exact h i hi
section
variable{F:Fence}{P:Program}{ops:Array Oper}{Q:Exit->Act->World->Prop}{n:Nat}{D:List Nat}{a0:Act}
def QK(D:List Nat)(a0:Act)(Q:Exit->Act->World->Prop):Exit->Act->World->Prop:=λe a w=>Q e a w/\(e=.normal->KeepD D a0 a)
theorem QK_out(h:LetsOut Q):LetsOut (QK D a0 Q):=by obtain⟨a,w,h⟩:=h;exact⟨a,w,h,λe=>by cases e⟩
theorem zGq{o:Oper}{a:Act}{K K':Act->World->Prop}(hd:dstIn D o=true)(h:∀a w,K a w->KeepD D a0 a->K' a w)(ha:KeepD D a0 a){r:Result Next}(hh:o.uponIn F n P a K Q r):o.uponIn F n P a K' (QK D a0 Q) r:=by
 cases r with
 | ok x w' =>
  cases x with
  | value v=>exact h _ _ hh (ha.put hd v)
  | skip=>exact h _ _ hh (ha.put hd undef)
  | defer d=>exact h _ _ hh (KeepD.put (a:={ a with defers:=d :: a.defers }) ha hd undef)
  | enter f args =>
   refine⟨hh.1,hh.2.mono λe w'' he=>?_⟩
   cases e with
   | returned v=>exact h _ _ he (ha.put hd v)
   | panicked c=>exact⟨he,λe=>by cases e⟩
   | outgrown=>exact QK_out he
  | row rw args=>exact⟨hh.1,hh.2.mono λv w'' he=>h _ _ he (ha.put hd v)⟩
  | round l f t a b =>
   refine⟨hh.1,hh.2.mono λe w'' he=>?_⟩
   cases e with
   | returned v=>exact h _ _ he (ha.put hd v)
   | panicked c=>exact⟨he,λe=>by cases e⟩
   | outgrown=>exact QK_out he
  | _=>exact hh.elim
 | halt x w' =>
  cases x <;> simp only[Oper.uponIn] at hh ⊢ <;> first | exact hh | exact⟨hh,λe=>by cases e⟩
theorem zCc(hd:zGZ D ops=true){i:Nat}{o:Oper}(ho:ops[i]? = some o):dstIn D o=true:=by obtain⟨hi,rfl⟩:=Array.getElem?_eq_some_iff.1 ho;exact List.all_eq_true.1 hd _ (by simp)
theorem Qo(hd:zGZ D ops=true):∀(is:List Nat) (a:Act) (w:World),wpOpsIn F n P ops Q is a w->KeepD D a0 a->wpOpsIn F n P ops (QK D a0 Q) is a w
 | [],a,w,h,ha=>⟨h,λ_=>ha⟩
 | i :: is,a,w,h,ha=>by
  simp only[wpOpsIn] at h ⊢;cases ho:ops[i]? with
  | none=>rw[ho] at h;exact Qo hd is a w h ha
  | some o =>
   rw[ho] at h;simp only at h ⊢;split
   ·rename_i hw;rw[if_pos hw] at h;exact⟨h.1,zGq (zCc hd ho) (λa w h ha=>Qo hd is a w h ha) ha h.2⟩
   ·rename_i hw;rw[if_neg hw] at h;exact⟨h.1,Qo hd is _ w h.2 (ha.put (zCc hd ho) undef)⟩
theorem Qp{md:Region.Mode}(hd:zGZ D ops=true):∀(fuel:Nat) (listed:Array Bool) (a:Act) (w:World),wpAnyIn F n P md ops Q fuel listed a w->KeepD D a0 a->wpAnyIn F n P md ops (QK D a0 Q) fuel listed a w
 | 0,listed,a,w,h,ha=>⟨h.1,h.2,λ_=>ha⟩
 | fuel+1,listed,a,w,h,ha=>by
  refine⟨λe=>⟨h.1 e,λ_=>ha⟩,λi hi=>?_⟩
  have hh:=h.2 i hi;unfold wpOpIn at hh ⊢;cases ho:ops[i]? with
  | none=>rw[ho] at hh;exact Qp hd fuel _ a w hh ha
  | some o =>
   rw[ho] at hh;simp only at hh ⊢;split
   ·rename_i hw;rw[if_pos hw] at hh;exact⟨hh.1,zGq (zCc hd ho) (λa w h ha=>Qp hd fuel _ a w h ha) ha hh.2⟩
   ·rename_i hw;rw[if_neg hw] at hh;exact⟨hh.1,Qp hd fuel _ _ w hh.2 (ha.put (zCc hd ho) undef)⟩
end
section
variable{P:Program}{E:Env}{call:FuncId->List DV->Option CR}{base:Nat}{S:Nat->Prop}{φ:Nat->Option Nat}{st:St}{a:Act}{w:World}{l m:Nat}{D:List Nat}
theorem zCj(hD:DOK P E)(hm:P.follows .mixedOrders=true)(hc:jv P E call){id:Nat}{ops:Array Oper}(hn:noDef ops=true)(hd:zGZ D ops=true){draw:Bool}{K:St->Option CR}{r:CR}{Q:Exit->Act->World->Prop}(hQ:¬LetsOut Q)(h:JS E call ops.toList draw st K=some r)
  (hR:Rel E base S φ st a w) (hK:∀st' S' φ' a' w',K st'=some r->Rel E base S' φ' st' a' w'->Grow base S S' w w'->KeepD D a a'->Q .normal a' w'):(Code.region id ops draw).wpIn (Fence.wide.inRound l) m P Q a w:=by
 have h1:¬LetsOut (λe a' w'=>KeepD D a a'->Q e a' w')->True:=λ_=>trivial
 refine wpIn_mono (Q:=QK D a (λe a' w'=>e=.normal/\(KeepD D a a'->Q e a' w'))) ?_ (λe a' w' hq=>?_)
 ·cases draw with
  | false =>
   have hQ':¬LetsOut (λe a' w'=>e=Exit.normal/\(KeepD D a a'->Q e a' w')):=by rintro⟨a,w,e,_⟩;cases e
   refine wpIn_region (Qo hd _ _ _ (zCM hn hQ' _ _ _ ?_) (KeepD.refl D a));have:=Y1 hD hc (Q:=λe a' w'=>e=Exit.normal/\(KeepD D a a'->Q e a' w')) ops.toList 0 (by simp) (Nat.zero_le _) h hR (λst' S' φ' a' w' k1 k2 k3=>⟨rfl,λk4=>hK st' S' φ' a' w' k1 k2 k3 k4⟩)
   rw[List.range_eq_range'];simpa using this
  | true =>
   have hQ':¬LetsOut (λe a' w'=>e=Exit.normal/\(KeepD D a a'->Q e a' w')):=by rintro⟨a,w,e,_⟩;cases e
   refine wpIn_region_any hm (Qp hd _ _ _ _ (zCN hn hQ' _ _ _ _ ?_) (KeepD.refl D a));obtain⟨stf,hseq,hKf,hs,hord⟩:=zAX h;obtain⟨hRd,hGd⟩:=hR.drew;obtain⟨φ1,hR1⟩:=hRd.clearL (anews ops.toList);have hz:∀p∈ops.toList.zipIdx,ops.toList[p.2]? = some p.1:=λp hp=>by obtain⟨k,hk⟩:=List.mem_iff_getElem?.1 hp;simp only[List.getElem?_zipIdx,Option.map_eq_some_iff] at hk;obtain⟨x,hx,e⟩:=hk;subst e;simpa using hx
   refine zJF (Q:=λe a' w'=>e=Exit.normal/\(KeepD D a a'->Q e a' w')) hD hc hs hord ops.size (Array.replicate ops.size false) ops.toList.zipIdx (by simp) (λi hi=>?_) hz ?_ (λj o ho hd=>?_) (Inv.start _ _ st) (by simp) hR1 hseq (λS' φ' a' w' k1 k2=>⟨rfl,λk4=>hK stf S' φ' a' w' hKf k1 (hGd.trans k2) k4⟩)
   ·constructor
    ·intro _;exact⟨ops[i],by rw[List.mem_iff_getElem?];exact⟨i,by simp[List.getElem?_zipIdx,hi]⟩⟩
    ·intro _;simp[hi]
   ·rw[List.pairwise_iff_getElem];intro i j hi hj hij;simp;exact hij
   ·exact absurd (by rw[List.mem_iff_getElem?];exact⟨j,by simp only[List.getElem?_zipIdx,ho];simp⟩) (hd o)
 ·obtain⟨⟨rfl,h2⟩,h3⟩:=hq;exact h2 (h3 rfl)
theorem zDp(hD:DOK P E)(hm:P.follows .mixedOrders=true)(hc:jv P E call){n:Nat}{r:CR}:∀(c:Code) (_:inR c=true) (_:zD1 D c=true) {K:Ex->St->Option CR} {S:Nat->Prop} {φ:Nat->Option Nat} {st:St} {a:Act} {w:World} {Q:Exit->Act->World->Prop} (_:¬LetsOut Q),
  exec E n call c st K=some r->Rel E base S φ st a w->(∀ex st' S' φ' a' w',K ex st'=some r->Rel E base S' φ' st' a' w'->Grow base S S' w w'->KeepD D a a'->Q (zA6 ex) a' w')->c.wpIn (Fence.wide.inRound l) m P Q a w:=by
 intro c;induction c with
 | skip=>intro _ _ K S φ st a w Q hQ h hR hK;exact wpIn_skip (hK .normal st S φ a w h hR Grow.refl (KeepD.refl _ _))
 | region id ops draw=>intro hi hd K S φ st a w Q hQ h hR hK;exact zCj hD hm hc hi hd hQ h hR λst' S' φ' a' w' k1 k2 k3 k4=>hK .normal st' S' φ' a' w' k1 k2 k3 k4
 | seq x y ihx ihy =>
  intro hi hd K S φ st a w Q hQ h hR hK;simp only[inR,Bool.and_eq_true] at hi;simp only[zD1,Bool.and_eq_true] at hd;refine wpIn_seq (ihx hi.1 hd.1 (K:=QF (λst'=>exec E n call y st' K) K) (λhx=>hQ hx) h hR λex st' S' φ' a' w' k1 k2 k3 k4=>?_)
  cases ex with
  | normal=>exact ihy hi.2 hd.2 hQ k1 k2 λex st2 S2 φ2 a2 w2 j1 j2 j3 j4=>hK ex st2 S2 φ2 a2 w2 j1 j2 (k3.trans j3) (k4.trans j4)
  | exit id=>exact hK (.exit id) st' S' φ' a' w' k1 k2 k3 k4
  | ret=>exact hK .ret st' S' φ' a' w' k1 k2 k3 k4
 | cond c x y ihx ihy =>
  intro hi hd K S φ st a w Q hQ h hR hK;simp only[inR,Bool.and_eq_true] at hi;simp only[zD1,Bool.and_eq_true] at hd;simp only[exec] at h;obtain⟨v,hv,h⟩:=zA h;obtain⟨t,ht,h⟩:=zA h;have hc:=zGF ht (hR.ev c v hv);cases t with
  | true=>exact wpIn_cond_true hc (ihx hi.1 hd.1 hQ h hR hK)
  | false=>exact wpIn_cond_false hc (ihy hi.2 hd.2 hQ h hR hK)
 | block id c ih =>
  intro hi hd K S φ st a w Q hQ h hR hK;refine wpIn_block (ih hi hd (K:=Qh id K) (λhx=>hQ hx) h hR λex st' S' φ' a' w' k1 k2 k3 k4=>?_)
  cases ex with
  | normal=>exact hK .normal st' S' φ' a' w' k1 k2 k3 k4
  | ret=>exact hK .ret st' S' φ' a' w' k1 k2 k3 k4
  | exit i =>
   simp only[Qh] at k1;simp only[zA6,Exit.inBlock];split at k1
   ·rename_i e;rw[if_pos e];exact hK .normal st' S' φ' a' w' k1 k2 k3 k4
   ·rename_i e;rw[if_neg e];exact hK (.exit i) st' S' φ' a' w' k1 k2 k3 k4
 | exit id=>intro _ _ K S φ st a w Q hQ h hR hK;exact wpIn_exit (hK (.exit id) st S φ a w h hR Grow.refl (KeepD.refl _ _))
 | _=>intro hi;simp[inR] at hi
end
end Go.Am
