/- WakeLess: for every input the law returns true, and each argument reads afterwards as it read before. Part 1. -/
import Derived.Below
import Derived.Carry
import Derived.ChangeArms
import Derived.ChangeSame
import Derived.DataReads
import Derived.Deep.OwnRows
import Derived.Deep.RegionLaw
import Derived.Deep.RegionWith
import Derived.DeepKeys
import Derived.Ground.Names2Prog
import Derived.Ground.NamesProg
import Derived.Ground.SlgnProg
import Derived.Ground.SlsfProg
import Derived.IntWalk
import Derived.KernelRfl
import Derived.LaidMore
import Derived.Laws.AppendOwn
import Derived.Laws.CopyRow
import Derived.Laws.OwnMore
import Derived.Laws.RangeAny
import Derived.Lib.AppendIntMem
import Derived.Lib.ItoaLen
import Derived.Lib.ItoaNum
import Derived.Lib.Join
import Derived.LoopIn
import Derived.LoopN
import Derived.LoopNIn
import Derived.LoopTactic
import Derived.MapKept
import Derived.Maps.Ext
import Derived.Maps.OwnSet
import Derived.Maps.RangeWalk
import Derived.OpenShut
import Derived.Orders
import Derived.OrdersIn
import Derived.OwnWalkIn
import Derived.ProofKit
import Derived.RangeFuncBound
import Derived.RangeFuncCalls
import Derived.RangeFuncLeaves
import Derived.RangeFuncNested
import Derived.Scope
import Derived.SevenTiedAt
import Derived.Shelf.Abstract
import Derived.Shelf.LaysM
import Derived.Shelf.SlSortCmp.NoneTotal
import Derived.Shelf.Slices.Clone
import Derived.Shelf.Slices.In.SortNone
import Derived.Shelf.Slices.SearchI
import Derived.Shelf.SlicesE.Clone
import Derived.Shelf.Small.Bits
import Derived.Shelf.Sort.Plain
import Derived.Shelf.Strconv.Itoa0
import Derived.Shelf.Strconv.Itoa1
import Derived.Shelf.Strconv.Itoa2
import Derived.Shelf.Strconv.Itoa3
import Derived.Shelf.Strings.Builder1
import Derived.Shelf.Strings.Builder2
import Derived.Shelf.Strings.Count
import Derived.Shelf.Strings.Cut
import Derived.Shelf.Strings.Explode
import Derived.Shelf.Strings.OnBuilder
import Derived.Shelf.Strings.RuneCount
import Derived.Shelf.Strings.Search1
import Derived.Shelf.Strings.Search2
import Derived.Shelf.Strings.Search3
import Derived.Shelf.Strings.Shaped
import Derived.Shelf.Strings.Split
import Derived.Shelf.Strings.SplitShaped
import Derived.Shelf.Unicode.Decode
import Derived.Shelf.Unicode.DecodeAny
import Derived.Shelf.Unicode.DecodeSlow
import Derived.Shelf.Utf8.RuneCount
import Derived.Sort.LotA
import Derived.Stop.Joined
import Derived.Tactics
import Derived.Tactics2
import Derived.TacticsInMore
import Derived.Test.YtojkhldombndpaaGreatDoorCards
import Derived.Test.YtojkhldombndpaaGreatDoorProg
import Derived.Test.YtojkhldombndpaaGreatDoorRows
import Derived.Test.YtojkhldombndpaaGreatDoorTie
import Derived.WalkKit
import Derived.WideShapes
set_option linter.all false
namespace Go.Am
open Go.Proofs
open Go
inductive DV where
 | bool (b:Bool)
 | int (k:IntKind) (n:Int)
 | flt (k:FloatKind) (b:Nat)
 | cpx (k:FloatKind) (re im:Nat)
 | str (s:ByteArray)
 | nl
 | sl (sz:Nat) (xs:List DV)
 | agg (tag:Nat) (fs:List DV)
 | fn (f:FuncId) (first cap:List DV)
 | nilFn
 | nilPtr
 | dp (x:DV)
 | mp (ks vs:List DV)
 | nilMp
 | nilIf
 | ifc (t:TypeId) (x:DV)
 | tup (vs:List DV)
 deriving Inhabited
def DV.isAgg:DV->Bool
 | .agg _ _=>true
 | _=>false
def DV.isTup:DV->Bool
 | .tup _=>true
 | _=>false
inductive AV where
 | d (x:DV)
 | undef
 | own (b off len sz:Nat)
 | ptr (b sz e:Nat) (p:List (Nat×Nat))
 | omp (b:Nat)
 | it (b:Nat)
 | agg (tag:Nat) (fs:List AV)
 | fn (f:FuncId) (first cap:List AV)
 deriving Inhabited
inductive Blk where
 | dc (sz:Nat) (xs:List DV)
 | ac (sz:Nat) (xs:List AV)
 | mp (ks vs:List DV)
 | sit (s:ByteArray) (pos:Nat)
 deriving Inhabited
structure OB where
 fz:Bool
 blk:Blk
 deriving Inhabited
structure St where
 tm:List AV
 hp:List (Option OB)
inductive TK where
 | int (k:IntKind) | bool | str | flt (k:FloatKind) | cpx (k:FloatKind)
 | ptr (e:TypeId) | slice (e:TypeId) | map (k e:TypeId)
 | struct (tag:Nat) | array (tag n:Nat) (e:TypeId) | func | iface
 deriving DecidableEq,Inhabited
structure TD where
 k:TK
 size:Nat
 bytes:Nat
 zero:DV
 eqOK:Bool
 deriving Inhabited
inductive CR where
 | val (x:DV)
 | fresh (sz:Nat) (xs:List DV)
 deriving Inhabited
structure Env where
 D:TypeId->Option TD
 L:Nat->List Nat
 flds:TypeId->List TypeId
 glob:Nat->Option DV
 F:FuncId->Option Func
 fresh:FuncId->Bool
 orc:FuncId->Option (List DV->Option CR)
 gtab:Nat->Option (Array Value):=λ_=>none
 gone:Nat->Option Nat:=λ_=>none
def bnd{α β:Type}(o:Option α)(k:α->Option β):Option β :=
 match o with
 | some a=>k a
 | none=>none
@[simp] theorem zG{α β:Type}(a:α)(k:α->Option β):bnd (some a) k=k a:=rfl
@[simp] theorem bnd_none{α β:Type}(k:α->Option β):bnd none k=none:=rfl
theorem zJC{α β:Type}{o:Option α}{k:α->Option β}{b:β}:bnd o k=some b ↔ ∃a,o=some a/\k a=some b:=by cases o <;> simp[bnd]
def zm{β:Type}(b:Bool)(k:Option β):Option β :=
 match b with
 | true=>k
 | false=>none
@[simp] theorem zR{β:Type}(k:Option β):zm true k=k:=rfl
@[simp] theorem guardB_false{β:Type}(k:Option β):zm false k=none:=rfl
theorem zEK{β:Type}{b:Bool}{k:Option β}{x:β}:zm b k=some x ↔ b=true/\k=some x:=by cases b <;> simp
def zII:Value->Option DV
 | .bool b=>some (.bool b)
 | .int k n=>some (.int k n)
 | .float k b=>some (.flt k b)
 | .complex k a b=>some (.cpx k a b)
 | .string s=>some (.str s)
 | .pointer none=>some .nilPtr
 | .slice none 0 0=>some .nl
 | .map none=>some .nilMp
 | .nilFunc=>some .nilFn
 | .nilIface=>some .nilIf
 | _=>none
def evO(E:Env)(tm:List AV):Operand->Option AV
 | .tmp t=>tm[t]?
 | .const v=>match zII v with | some x=>some (.d x) | none=>none
 | .global g=>match E.glob g with | some x=>some (.d (.dp x)) | none=>none
 | .func f=>some (.d (.fn f [] []))
def allD:List AV->Option (List DV)
 | []=>some []
 | .d x :: r=>match allD r with | some xs=>some (x :: xs) | none=>none
 | _ :: _=>none
def zGl(tag:Nat)(fs:List AV):AV :=
 match allD fs with
 | some ds=>.d (.agg tag ds)
 | none=>.agg tag fs
def mkFn(f:FuncId)(first cap:List AV):AV :=
 match allD first,allD cap with
 | some a,some b=>.d (.fn f a b)
 | _,_=>.fn f first cap
def JZ(L:Nat->List Nat):AV->Nat
 | .d (.agg t _)=>(L t).sum
 | .agg t _=>(L t).sum
 | _=>1
def stores:AV->Bool
 | .d (.tup _)=>false
 | .undef=>false
 | _=>true
def fits(td:TD)(v:AV):Bool :=
 match td.k with
 | .struct tag | .array tag _ _=>match v with
  | .d (.agg t _)=>t == tag
  | .agg t _=>t == tag
  | _=>false
 | _=>match v with
  | .d (.agg _ _)=>false
  | .d (.tup _)=>false
  | .agg _ _=>false
  | .undef=>false
  | _=>true
def zBm(tag i:Nat):AV->Option AV
 | .d (.agg t fs)=>if t=tag then (match fs[i]? with | some x=>some (.d x) | none=>none) else none
 | .agg t fs=>if t=tag then fs[i]? else none
 | _=>none
def zDo:List (Nat×Nat)->AV->Option AV
 | [],v=>some v
 | (tag,i) :: p,v=>match zBm tag i v with
  | some x=>zDo p x
  | none=>none
def setF(tag i:Nat)(new:AV):AV->Option AV
 | .d (.agg t fs) =>
  if t=tag then
   if i<fs.length then
    match new with
    | .d y=>some (.d (.agg t (fs.set i y)))
    | _=>some (.agg t ((fs.map .d).set i new))
   else none
  else none
 | .agg t fs=>if t=tag then (if i<fs.length then some (zGl t (fs.set i new)) else none) else none
 | _=>none
def zG3(L:Nat->List Nat):List (Nat×Nat)->AV->AV->Option AV
 | [],new,_=>some new
 | (tag,i) :: p,new,v=>match zBm tag i v with
  | some x=>match zG3 L p new x with
   | some y=>if JZ L y=(L tag).getD i 0 then setF tag i y v else none
   | none=>none
  | none=>none
def Blk.get(sz e:Nat):Blk->Option AV
 | .dc s xs=>if s=sz then (match xs[e]? with | some x=>some (.d x) | none=>none) else none
 | .ac s xs=>if s=sz then xs[e]? else none
 | _=>none
def Blk.set(sz e:Nat)(v:AV):Blk->Option Blk
 | .dc s xs =>
  if s=sz then
   if e<xs.length then
    match v with
    | .d y=>some (.dc s (xs.set e y))
    | _=>some (.ac s ((xs.map .d).set e v))
   else none
  else none
 | .ac s xs=>if s=sz then (if e<xs.length then some (.ac s (xs.set e v)) else none) else none
 | _=>none
def zGk(sz:Nat)(vs:List AV):Blk :=
 match allD vs with
 | some ds=>.dc sz ds
 | none=>.ac sz vs
def slot(hp:List (Option OB))(b:Nat):Option OB :=
 match hp[b]? with
 | some (some ob)=>some ob
 | _=>none
def Q2{α β:Type}(f:α->Option β):List α->Option (List β)
 | []=>some []
 | x :: r=>match f x with
  | some y=>match Q2 f r with
   | some ys=>some (y :: ys)
   | none=>none
  | none=>none
def snap(hp:List (Option OB)):Nat->AV->Option DV
 | _,.d x=>some x
 | _,.undef=>none
 | n+1,.own b off len sz=>match slot hp b with
  | some ⟨_,.dc s xs⟩=>if s=sz/\off+len<=xs.length then some (.sl sz ((xs.drop off).take len)) else none
  | some ⟨_,.ac s xs⟩=>if s=sz/\off+len<=xs.length then (match Q2 (snap hp n) ((xs.drop off).take len) with | some ds=>some (.sl sz ds) | none=>none) else none
  | _=>none
 | n+1,.ptr b sz e p=>match slot hp b with
  | some ob=>match ob.blk.get sz e with
   | some v=>match zDo p v with
    | some x=>match snap hp n x with
     | some y=>if y.isTup then none else some (.dp y)
     | none=>none
    | none=>none
   | none=>none
  | none=>none
 | _,.omp b=>match slot hp b with
  | some ⟨_,.mp ks vs⟩=>some (.mp ks vs)
  | _=>none
 | _,.it _=>none
 | n+1,.agg tag fs=>match Q2 (snap hp n) fs with | some ds=>some (.agg tag ds) | none=>none
 | n+1,.fn f a c=>match Q2 (snap hp n) a,Q2 (snap hp n) c with | some x,some y=>some (.fn f x y) | _,_=>none
 | 0,_=>none
def zp:Nat:=12
def Yu:DV->Bool
 | .bool _ | .int _ _ | .flt _ _ | .cpx _ _ _ | .str _ | .nl | .nilFn | .nilPtr | .nilMp | .nilIf=>true
 | .tup vs=>vs.all λ| .bool _ | .int _ _ | .flt _ _ | .cpx _ _ _ | .str _ | .nl | .nilFn | .nilPtr | .nilMp | .nilIf=>true | _=>false
 | _=>false
def sites(hp:List (Option OB)):Nat->AV->List Nat
 | n+1,.own b off len _=>b :: (match slot hp b with | some ⟨_,.ac _ xs⟩=>((xs.drop off).take len).flatMap (sites hp n) | _=>[])
 | n+1,.ptr b sz e p=>b :: (match slot hp b with
  | some ob=>match ob.blk.get sz e with
   | some v=>match zDo p v with
    | some x=>sites hp n x
    | none=>[]
   | none=>[]
  | none=>[])
 | _,.omp b=>[b]
 | _,.it b=>[b]
 | n+1,.agg _ fs=>fs.flatMap (sites hp n)
 | n+1,.fn _ a c=>a.flatMap (sites hp n)++c.flatMap (sites hp n)
 | _,_=>[]
end Go.Am
namespace Go.Am
open Go.Proofs
open Go
def qD:List AV->Bool
 | []=>true
 | v :: r=>stores v && qD r
mutual
def jd(b:Nat):AV->AV
 | .own c o l s=>if c=b then .undef else .own c o l s
 | .ptr c s e p=>if c=b then .undef else .ptr c s e p
 | .omp c=>if c=b then .undef else .omp c
 | .it c=>if c=b then .undef else .it c
 | .agg t fs=>.agg t (qd b fs)
 | .fn f x y=>.fn f (qd b x) (qd b y)
 | .d x=>.d x
 | .undef=>.undef
def qd(b:Nat):List AV->List AV
 | []=>[]
 | v :: r=>jd b v :: qd b r
end
def J3(b:Nat):Option OB->Option OB
 | some ⟨z,.ac s xs⟩=>some ⟨z,.ac s (qd b xs)⟩
 | o=>o
mutual
def zf(b:Nat):AV->Bool
 | .own c _ _ _=>!(c == b)
 | .ptr c _ _ _=>!(c == b)
 | .omp c=>!(c == b)
 | .it c=>!(c == b)
 | .agg _ fs=>jM b fs
 | .fn _ x y=>jM b x && jM b y
 | .d _=>true
 | .undef=>true
def jM(b:Nat):List AV->Bool
 | []=>true
 | v :: r=>zf b v && jM b r
end
def zh(b:Nat):Blk->Bool
 | .ac _ xs=>jM b xs
 | _=>true
def clear(b:Nat)(st:St):St :=
 { tm:=qd b st.tm,hp:=(st.hp.map (J3 b)).set b none }
def cmpI(op:BinOp)(a b:Int):Option Bool :=
 match op with
 | .eql=>some (a == b)
 | .neq=>some (a != b)
 | .lss=>some (decide (a<b))
 | .leq=>some (decide (a<=b))
 | .gtr=>some (decide (a>b))
 | .geq=>some (decide (a>=b))
 | _=>none
def zD7(op:BinOp)(k:IntKind)(a b:Int):Option DV :=
 match op with
 | .add=>some (.int k (k.wrap (a+b)))
 | .sub=>some (.int k (k.wrap (a - b)))
 | .mul=>some (.int k (k.wrap (a * b)))
 | .quo=>if b=0 then none else some (.int k (k.wrap (a.tdiv b)))
 | .rem=>if b=0 then none else some (.int k (a.tmod b))
 | .and=>some (.int k (k.wrap (BitVec.ofInt k.bits a &&& BitVec.ofInt k.bits b).toNat))
 | .or=>some (.int k (k.wrap (BitVec.ofInt k.bits a ||| BitVec.ofInt k.bits b).toNat))
 | .xor=>some (.int k (k.wrap (BitVec.ofInt k.bits a ^^^ BitVec.ofInt k.bits b).toNat))
 | .andNot=>some (.int k (k.wrap (BitVec.ofInt k.bits a &&& ~~~(BitVec.ofInt k.bits b)).toNat))
 | op=>match cmpI op a b with | some r=>some (.bool r) | none=>none
def zGJ(op:BinOp)(k:IntKind)(a b:Int):Option DV :=
 if b<0 then none else
 match op with
 | .shl=>some (.int k (k.wrap (a * 2 ^ (min b.toNat k.bits))))
 | .shr=>some (.int k (a.fdiv (2 ^ (min b.toNat k.bits))))
 | _=>none
def strS(op:BinOp)(a b:ByteArray):Option DV :=
 match op with
 | .add=>if ((a.size+b.size:Nat):Int)>IntKind.i64.max then none else some (.str (a++b))
 | .eql=>some (.bool (a.toList == b.toList))
 | .neq=>some (.bool (!(a.toList == b.toList)))
 | .lss=>some (.bool (Op.bytesLess a.toList b.toList))
 | .leq=>some (.bool (Op.bytesLess a.toList b.toList || a.toList == b.toList))
 | .gtr=>some (.bool (!(Op.bytesLess a.toList b.toList || a.toList == b.toList)))
 | .geq=>some (.bool (!Op.bytesLess a.toList b.toList))
 | _=>none
def jy:DV->DV->Option Bool
 | .bool a,.bool b=>some (a == b)
 | .int k a,.int k' b=>if k=k' then some (a == b) else none
 | .str a,.str b=>some (a.toList == b.toList)
 | _,_=>none
def ji(td:TD):DV->Bool
 | .int k _=>match td.k with | .int k'=>k == k' | _=>false
 | .str _=>match td.k with | .str=>true | _=>false
 | .bool _=>match td.k with | .bool=>true | _=>false
 | _=>false
def zBL(f:TypeId->DV->DV->Option Bool):List TypeId->List DV->List DV->Option Bool
 | [],[],[]=>some true
 | t :: ts,x :: xs,y :: ys=>bnd (f t x y) λa=>bnd (zBL f ts xs ys) λb=>some (a && b)
 | _,_,_=>none
def eqT(E:Env):Nat->TypeId->DV->DV->Option Bool
 | 0,_,_,_=>none
 | n+1,t,x,y=>bnd (E.D t) λtd=>match td.k with
  | .int _ | .bool | .str=>zm (ji td x && ji td y) (jy x y)
  | .struct tag=>zm td.eqOK <| match x,y with
   | .agg u xs,.agg v ys=>if u=tag/\v=tag then zBL (eqT E n) (E.flds t) xs ys else none
   | _,_=>none
  | .array tag m e=>match x,y with
   | .agg u xs,.agg v ys=>if u=tag/\v=tag then zBL (eqT E n) (List.replicate m e) xs ys else none
   | _,_=>none
  | _=>none
def qJ(k:TK)(x y:DV):Option Bool :=
 match k with
 | .ptr _=>match x,y with
  | .nilPtr,.nilPtr=>some true
  | .dp _,.nilPtr | .nilPtr,.dp _=>some false
  | _,_=>none
 | .iface=>match x,y with
  | .nilIf,.nilIf=>some true
  | .ifc _ _,.nilIf | .nilIf,.ifc _ _=>some false
  | _,_=>none
 | .func=>match x,y with
  | .nilFn,.nilFn=>some true
  | .fn _ _ _,.nilFn | .nilFn,.fn _ _ _=>some false
  | _,_=>none
 | .map _ _=>match x,y with
  | .nilMp,.nilMp=>some true
  | .mp _ _,.nilMp | .nilMp,.mp _ _=>some false
  | _,_=>none
 | _=>none
def Y0(E:Env)(t:TypeId)(x y:DV):Option Bool :=
 match x with
 | .agg _ _=>bnd (E.D t) λtd=>zm td.eqOK (eqT E 10 t x y)
 | .bool _=>eqT E 10 t x y
 | _=>bnd (E.D t) λtd=>qJ td.k x y
def Js:Operand->Bool
 | .const _=>true
 | _=>false
def zAB(ox oy:Operand)(x y:DV):Bool :=
 match x,y with
 | .nilIf,.nilIf=>Js ox || Js oy
 | _,_=>true
def zBt(E:Env)(op:BinOp)(t:TypeId)(x y:DV):Option DV :=
 match x,y with
 | .int k a,.int k' b=>match op with
  | .shl | .shr=>zGJ op k a b
  | op=>if k=k' then zD7 op k a b else none
 | .str a,.str b=>strS op a b
 | x,y=>match op with
  | .eql=>bnd (Y0 E t x y) λb=>some (.bool b)
  | .neq=>bnd (Y0 E t x y) λb=>some (.bool (!b))
  | _=>none
def unD(op:UnOp)(x:DV):Option DV :=
 match op,x with
 | .neg,.int k n=>some (.int k (k.wrap (0 - n)))
 | .not,.bool b=>some (.bool (!b))
 | .xor,.int k n=>some (.int k (k.wrap (BitVec.ofInt k.bits (if k.signed then -1 else k.max) ^^^ BitVec.ofInt k.bits n).toNat))
 | _,_=>none
def convD(E:Env)(src dst:TypeId)(x:DV):Option DV :=
 match E.D src,E.D dst with
 | some s,some t=>match t.k,x with
  | .int k,.int _ n=>some (.int k (k.wrap n))
  | .str,.str b=>match s.k with
   | .str=>some (.str b)
   | _=>none
  | _,_=>none
 | _,_=>none
structure Eff where
 v:AV
 new:Option Blk:=none
 upd:Option (Nat×Blk):=none
 kil:Option Nat:=none
 frz:List Nat:=[]
def zc(v:AV):Option Eff:=some { v }
def asI:AV->Option Int
 | .d (.int _ n)=>some n
 | _=>none
def asB:AV->Option Bool
 | .d (.bool b)=>some b
 | _=>none
def fill(L:Nat->List Nat)(sizes:List Nat):List (Nat×AV)->List AV->Option (List AV)
 | [],vs=>some vs
 | (i,v) :: r,vs=>if i<vs.length/\JZ L v=sizes.getD i 0/\stores v=true then fill L sizes r (vs.set i v) else none
def JO(E:Env)(tm:List AV):List (Nat×Operand)->Option (List (Nat×AV))
 | []=>some []
 | (i,o) :: r=>bnd (evO E tm o) λv=>bnd (JO E tm r) λvs=>some ((i,v) :: vs)
def evL(E:Env)(tm:List AV):List Operand->Option (List AV)
 | []=>some []
 | o :: r=>bnd (evO E tm o) λv=>bnd (evL E tm r) λvs=>some (v :: vs)
def Qg(E:Env)(tag:Nat)(z:DV)(ps:List (Nat×AV)):Option Eff :=
 match z with
 | .agg t zs=>if t=tag then bnd (fill E.L (E.L tag) ps (zs.map .d)) λfs=>zc (zGl tag fs) else none
 | _=>none
def zAQ(E:Env)(t:TypeId)(ps:List (Nat×AV)):Option Eff :=
 bnd (E.D t) λtd=>match td.k with
  | .struct tag=>Qg E tag td.zero ps
  | .array tag _ _=>Qg E tag td.zero ps
  | _=>none
def JB(E:Env)(t:TypeId)(dst n:Nat)(ps:List (Nat×AV)):Option Eff :=
 bnd (E.D t) λtd=>match td.k with
  | .slice e=>bnd (E.D e) λed =>
   zm (decide (0<ed.size/\n * ed.size<=16777216)) <|
   bnd (fill E.L (List.replicate n ed.size) ps (List.replicate n (.d ed.zero))) λvs=>match n with
    | 0=>zc (.d .nl)
    | n=>some { v:=.own dst 0 n ed.size,new:=some (zGk ed.size vs) }
  | _=>none
def JJ(E:Env)(t:TypeId)(hp:List (Option OB))(a:AV):Option Eff :=
 bnd (E.D t) λtd=>match a with
  | .d (.dp x)=>zm (fits td (.d x)) (zc (.d x))
  | .ptr b sz e p=>bnd (slot hp b) λob=>bnd (ob.blk.get sz e) λv=>bnd (zDo p v) λx=>zm (fits td x) (zc x)
  | _=>none
def J8(E:Env)(t:TypeId)(hp:List (Option OB))(a x:AV):Option Eff :=
 bnd (E.D t) λtd=>match a with
  | .ptr b sz e p=>bnd (slot hp b) λob=>zm (!ob.fz) <| zm (fits td x) <|
    bnd (ob.blk.get sz e) λv=>bnd (zG3 E.L p x v) λy=>zm (decide (JZ E.L y=sz)) <|
    bnd (ob.blk.set sz e y) λblk=>some { v:=.d (.tup []),upd:=some (b,blk) }
  | _=>none
def Yf:AV->Option Eff
 | .undef=>none
 | .d .nilPtr=>none
 | .d .nilFn=>none
 | .d .nilIf=>none
 | v=>zc v
def Jh(E:Env)(t:TypeId)(dst:Nat)(l c:AV):Option Eff :=
 bnd (E.D t) λtd=>match td.k with
  | .slice e=>bnd (E.D e) λed=>bnd (asI l) λn=>bnd (asI c) λm =>
   zm (decide (0<ed.size/\0<=n/\n=m/\ed.bytes * m<=281474976710656/\m<=9223372036854775807)) <|
    some { v:=.own dst 0 n.toNat ed.size,new:=some (.dc ed.size (List.replicate n.toNat ed.zero)) }
  | _=>none
def jm(E:Env)(t:TypeId)(x:AV)(i:Nat):Option Eff :=
 bnd (E.D t) λtd=>match td.k with
  | .struct tag=>match x with
   | .ptr b sz e p=>zm (decide (i<(E.L tag).length)) (zc (.ptr b sz e (p++[(tag,i)])))
   | .d (.dp (.agg u fs))=>if u=tag then (match fs[i]? with | some y=>zc (.d (.dp y)) | none=>none) else none
   | _=>none
  | _=>none
def zBK(E:Env)(t:TypeId)(x:AV)(i:Nat):Option Eff :=
 bnd (E.D t) λtd=>match td.k with
  | .struct tag=>bnd ((E.flds t)[i]?) λft=>bnd (E.D ft) λfd=>bnd (zBm tag i x) λv=>zm (fits fd v) (zc v)
  | _=>none
def jU(E:Env)(t:TypeId)(x ix:AV):Option Eff :=
 bnd (E.D t) λtd=>bnd (asI ix) λi=>match td.k with
  | .slice e=>bnd (E.D e) λed=>match x with
   | .d (.sl sz xs)=>zm (decide (sz=ed.size/\0<=i)) (match xs[i.toNat]? with | some y=>zc (.d (.dp y)) | none=>none)
   | .own b off len sz=>zm (decide (sz=ed.size/\0<=i/\i<len)) (zc (.ptr b sz (off+i.toNat) []))
   | _=>none
  | .array tag n _=>match x with
   | .ptr b sz e p=>zm (decide (0<=i/\i<n)) (zc (.ptr b sz e (p++[(tag,i.toNat)])))
   | .d (.dp (.agg u fs))=>if u=tag then zm (decide (0<=i)) (match fs[i.toNat]? with | some y=>zc (.d (.dp y)) | none=>none) else none
   | _=>none
  | _=>none
def Y9(E:Env)(t:TypeId)(x ix:AV):Option Eff :=
 bnd (E.D t) λtd=>bnd (asI ix) λi=>zm (decide (0<=i)) <| match td.k with
  | .array tag _ e=>bnd (E.D e) λed=>bnd (zBm tag i.toNat x) λv=>zm (fits ed v) (zc v)
  | .str=>match x with
   | .d (.str s)=>match s[i.toNat]? with
    | some b=>zc (.d (.int .u8 b.toNat))
    | none=>none
   | _=>none
  | _=>none
def bound?(d:Nat):Option AV->Option Nat
 | none=>some d
 | some v=>bnd (asI v) λi=>zm (decide (0<=i)) (some i.toNat)
def YW(E:Env)(t:TypeId)(x:AV)(lo hi mx:Option AV):Option Eff :=
 bnd (E.D t) λtd=>bnd (bound? 0 lo) λl=>match td.k,x with
  | .str,.d (.str s)=>bnd (bound? s.size hi) λh=>zm (decide (l<=h/\h<=s.size/\mx.isNone)) (zc (.d (.str (s.extract l h))))
  | .slice e,.d (.sl sz xs)=>bnd (E.D e) λed=>bnd (bound? xs.length hi) λh=>zm (decide (sz=ed.size/\l<=h/\h<=xs.length)) <|
    match mx with
    | none=>zc (.d (.sl sz ((xs.take h).drop l)))
    | some m=>bnd (bound? 0 (some m)) λm=>zm (decide (m=l/\h=l/\hi.isSome)) (zc (.d .nl))
  | .slice e,.d .nl=>bnd (E.D e) λ_=>bnd (bound? 0 hi) λh=>zm (decide (l=0/\h=0)) <| match mx with
    | none=>zc (.d .nl)
    | some m=>bnd (bound? 0 (some m)) λm=>zm (decide (m=0/\hi.isSome)) (zc (.d .nl))
  | .slice e,.own b off len sz=>bnd (E.D e) λed=>bnd (bound? len hi) λh=>zm (decide (sz=ed.size/\l<=h/\h<=len/\mx.isNone)) (zc (.own b (off+l) (h - l) sz))
  | _,_=>none
def ja(k:DV):List DV->List DV->Option (Option DV)
 | [],_=>some none
 | x :: ks,v :: vs=>bnd (jy k x) λb=>match b with
  | true=>some (some v)
  | false=>ja k ks vs
 | _,[]=>none
def Yz(k v:DV):List DV->List DV->Option (List DV×List DV)
 | [],_=>some ([k],[v])
 | x :: ks,y :: vs=>bnd (jy k x) λb=>match b with
  | true=>some (k :: ks,v :: vs)
  | false=>bnd (Yz k v ks vs) λr=>some (x :: r.1,y :: r.2)
 | _,[]=>none
def Q0(hp:List (Option OB)):AV->Option (List DV×List DV)
 | .d (.mp ks vs)=>some (ks,vs)
 | .d .nilMp=>some ([],[])
 | .omp b=>match slot hp b with
  | some ⟨_,.mp ks vs⟩=>some (ks,vs)
  | _=>none
 | _=>none
def JN(E:Env)(t:TypeId)(hp:List (Option OB))(m k:AV)(ok:Bool):Option Eff :=
 bnd (E.D t) λtd=>match td.k with
  | .map kt et=>bnd (E.D kt) λkd=>bnd (E.D et) λed=>match k with
   | .d k=>zm (ji kd k) <| bnd (Q0 hp m) λmv=>bnd (ja k mv.1 mv.2) λr =>
     match r with
     | some v=>zc (.d (match ok with | true=>.tup [v,.bool true] | false=>v))
     | none=>zc (.d (match ok with | true=>.tup [ed.zero,.bool false] | false=>ed.zero))
   | _=>none
  | _=>none
def jG(E:Env)(t:TypeId)(hp:List (Option OB))(m k v:AV):Option Eff :=
 bnd (E.D t) λtd=>match td.k with
  | .map kt et=>bnd (E.D kt) λkd=>bnd (E.D et) λed=>match m,k,v with
   | .omp b,.d k,.d v=>zm (ji kd k) <| zm (fits ed (.d v)) <| match slot hp b with
    | some ⟨false,.mp ks vs⟩=>bnd (Yz k v ks vs) λr=>some { v:=.d (.tup []),upd:=some (b,.mp r.1 r.2) }
    | _=>none
   | _,_,_=>none
  | _=>none
def zGL(dst:Nat):AV->Option Eff
 | .d (.str s)=>some { v:=.it dst,new:=some (.sit s 0) }
 | _=>none
def zAL(hp:List (Option OB))(isString:Bool):AV->Option Eff
 | .it b=>zm isString <| match slot hp b with
  | some ⟨false,.sit s pos⟩ =>
   if pos<s.size then
    some { v:=.d (.tup [.bool true,.int .i64 pos,.int .i32 (Utf8.decode s pos).1]),upd:=some (b,.sit s (pos+(Utf8.decode s pos).2)) }
   else zc (.d (.tup [.bool false]))
  | _=>none
 | _=>none
def Qc(i:Nat):AV->Option Eff
 | .d (.tup vs)=>match vs[i]? with
  | some v=>zc (.d v)
  | none=>none
 | _=>none
def jX(hp:List (Option OB))(sz:Nat):AV->Option (List DV×List Nat)
 | .d .nl=>some ([],[])
 | .d (.sl s xs)=>if s=sz then some (xs,[]) else none
 | .own b off len s=>if s=sz then (match slot hp b with
  | some ⟨_,.dc s' xs⟩=>if s'=sz/\off+len<=xs.length then some ((xs.drop off).take len,[]) else none
  | some ⟨_,.ac s' xs⟩=>if s'=sz/\off+len<=xs.length then (match Q2 (snap hp zp) ((xs.drop off).take len) with
   | some ds=>some (ds,((xs.drop off).take len).flatMap (sites hp zp))
   | none=>none) else none
  | _=>none) else none
 | _=>none
def YK(hp:List (Option OB))(sz:Nat):AV->Option (List DV×Option Nat)
 | .d .nl=>some ([],none)
 | .own b off len s=>if s=sz/\off=0 then (match slot hp b with
  | some ⟨false,.dc s' xs⟩=>if s'=sz/\len=xs.length then some (xs,some b) else none
  | _=>none) else none
 | _=>none
def JP(E:Env)(ts:List TypeId)(dst:Nat)(hp:List (Option OB)):List AV->Option Eff
 | [s,x]=>match ts with
  | [t,u]=>zm (decide (t=u)) <| bnd (E.D t) λtd=>match td.k with
   | .slice e=>bnd (E.D e) λed=>bnd (YK hp ed.size s) λbs=>bnd (jX hp ed.size x) λel =>
    zm (decide (0<ed.size/\0<ed.bytes/\(2 * (bs.1.length+el.1.length)+200) * ed.bytes<=281474976710656)) <|
     match bs.2,el.1 with
     | none,[]=>zc (.d .nl)
     | kil,ds=>some { v:=.own dst 0 (bs.1.length+ds.length) ed.size,new:=some (.dc ed.size (bs.1++ds)),kil,frz:=el.2 }
   | _=>none
  | _=>none
 | _=>none
def zA3(E:Env)(ts:List TypeId)(hp:List (Option OB)):List AV->Option Eff
 | [s,x]=>match ts with
  | [t,_]=>bnd (E.D t) λtd=>match td.k with
   | .slice e=>bnd (E.D e) λed=>match s with
    | .own b off len sz=>zm (decide (sz=ed.size)) <| match slot hp b with
     | some ⟨false,.dc s' xs⟩=>zm (decide (s'=sz/\off+len<=xs.length)) <| bnd (jX hp ed.size x) λel =>
       some { v:=.d (.int .i64 (min el.1.length len:Nat)),upd:=some (b,.dc s' (xs.take off++el.1.take (min el.1.length len)++xs.drop (off+min el.1.length len))),frz:=el.2 }
     | _=>none
    | _=>none
   | _=>none
  | _=>none
 | _=>none
def zB5(E:Env)(ts:List TypeId)(hp:List (Option OB)):List AV->Option Eff
 | [x]=>match ts with
  | [t]=>bnd (E.D t) λtd=>match td.k,x with
   | .str,.d (.str s)=>zc (.d (.int .i64 s.size))
   | .slice _,.d .nl=>zc (.d (.int .i64 0))
   | .slice _,.d (.sl _ xs)=>zc (.d (.int .i64 xs.length))
   | .slice _,.own _ _ n _=>zc (.d (.int .i64 n))
   | .array _ n _,_=>zc (.d (.int .i64 n))
   | .map _ _,m=>bnd (Q0 hp m) λmv=>zc (.d (.int .i64 mv.1.length))
   | _,_=>none
  | _=>none
 | _=>none
def qH(f:Int->Int->Int)(k:IntKind):Int->List AV->Option Int
 | a,[]=>some a
 | a,.d (.int k' b) :: r=>if k=k' then qH f k (f a b) r else none
 | _,_ :: _=>none
def maxE:List AV->Option Eff
 | .d (.int k a) :: r=>bnd (qH (λx y=>if y>x then y else x) k a r) λm=>zc (.d (.int k m))
 | _=>none
def minE:List AV->Option Eff
 | .d (.int k a) :: r=>bnd (qH (λx y=>if y<x then y else x) k a r) λm=>zc (.d (.int k m))
 | _=>none
def deliver(dst:Nat)(ss:List Nat):CR->Eff
 | .val r=>{ v:=.d r,frz:=match ss with | []=>[] | ss=>match Yu r with | true=>[] | false=>ss }
 | .fresh sz xs=>{ v:=.own dst 0 xs.length sz,new:=some (.dc sz xs),frz:=ss }
def JV(hp:List (Option OB)):List AV->Option (List DV)
 | []=>some []
 | v :: r=>bnd (snap hp zp v) λx=>bnd (JV hp r) λxs=>some (x :: xs)
def jR(hp:List (Option OB)):List AV->List Nat
 | []=>[]
 | v :: r=>sites hp zp v++jR hp r
def YS:AV->Option (FuncId×List AV×List AV)
 | .d (.fn f a c)=>some (f,a.map .d,c.map .d)
 | .fn f a c=>some (f,a,c)
 | _=>none
def qe(call:FuncId->List DV->Option CR)(dst:Nat)(hp:List (Option OB))(f:AV)(args:List AV):Option Eff :=
 bnd (YS f) λc=>bnd (JV hp (c.2.1++args++c.2.2)) λds=>bnd (call c.1 ds) λr =>
  some (deliver dst (jR hp (c.2.1++args++c.2.2)) r)
def QJ(E:Env)(tm:List AV):Option Operand->Option (Option AV)
 | none=>some none
 | some o=>bnd (evO E tm o) λv=>some (some v)
def jY(E:Env)(call:FuncId->List DV->Option CR)(op:Op)(dst:Nat)(tm:List AV)(hp:List (Option OB)):Option Eff :=
 match op with
 | .move x | .assign x=>bnd (evO E tm x) zc
 | .pick c a b=>bnd (evO E tm c) λc=>bnd (asB c) λc=>bnd (evO E tm (match c with | true=>a | false=>b)) zc
 | .alloc t=>bnd (E.D t) λtd=>zm (decide (0<td.size)) <| some { v:=.ptr dst td.size 0 [],new:=some (.dc td.size [td.zero]) }
 | .box t x=>bnd (evO E tm x) λv=>bnd (E.D t) λtd=>zm (fits td v && decide (JZ E.L v=td.size/\0<td.size)) <|
   some { v:=.ptr dst td.size 0 [],new:=some (zGk td.size [v]) }
 | .build t ps=>bnd (JO E tm ps.toList) λvs=>zAQ E t vs
 | .buildSlice t n ps=>bnd (JO E tm ps.toList) λvs=>JB E t dst n vs
 | .load t a=>bnd (evO E tm a) λp=>JJ E t hp p
 | .store t a x=>bnd (evO E tm a) λp=>bnd (evO E tm x) λv=>J8 E t hp p v
 | .nilCheck x=>bnd (evO E tm x) Yf
 | .binOp op t x y _=>bnd (evO E tm x) λa=>bnd (evO E tm y) λb=>match a,b with
  | .d a,.d b=>zm (zAB x y a b) (bnd (zBt E op t a b) λr=>zc (.d r))
  | _,_=>none
 | .unOp op _ x=>bnd (evO E tm x) λa=>match a with
  | .d a=>bnd (unD op a) λr=>zc (.d r)
  | _=>none
 | .convert s t x=>bnd (evO E tm x) λa=>match a with
  | .d a=>bnd (convD E s t a) λr=>zc (.d r)
  | _=>none
 | .makeFunc (.func f) first cap=>bnd (evL E tm first.toList) λa=>bnd (evL E tm cap.toList) λc=>zm (qD a && qD c) (zc (mkFn f a c))
 | .makeMap t r=>match r with
  | none=>bnd (E.D t) λtd=>match td.k with
   | .map _ _=>some { v:=.omp dst,new:=some (.mp [] []) }
   | _=>none
  | some _=>none
 | .makeSlice t l c=>bnd (evO E tm l) λl=>bnd (evO E tm c) λc=>Jh E t dst l c
 | .slice t x lo hi mx=>bnd (evO E tm x) λx=>bnd (QJ E tm lo) λlo=>bnd (QJ E tm hi) λhi=>bnd (QJ E tm mx) λmx=>YW E t x lo hi mx
 | .fieldAddr t x i=>bnd (evO E tm x) λx=>jm E t x i
 | .field t x i=>bnd (evO E tm x) λx=>zBK E t x i
 | .indexAddr t x i=>bnd (evO E tm x) λx=>bnd (evO E tm i) λi=>jU E t x i
 | .index t x i=>bnd (evO E tm x) λx=>bnd (evO E tm i) λi=>Y9 E t x i
 | .lookup t m k ok=>bnd (evO E tm m) λm=>bnd (evO E tm k) λk=>JN E t hp m k ok
 | .mapUpdate t m k x | .insert t m k x=>bnd (evO E tm m) λm=>bnd (evO E tm k) λk=>bnd (evO E tm x) λx=>jG E t hp m k x
 | .range t x=>bnd (E.D t) λtd=>match td.k with
  | .str=>bnd (evO E tm x) λx=>zGL dst x
  | _=>none
 | .next i s=>bnd (evO E tm i) λi=>zAL hp s i
 | .extract x i=>bnd (evO E tm x) λx=>Qc i x
 | .call c=>bnd (evL E tm c.args.toList) λargs=>match c.callee with
  | .value f=>bnd (evO E tm f) λf=>qe call dst hp f args
  | .builtin .append=>JP E c.argTypes.toList dst hp args
  | .builtin .copy=>zA3 E c.argTypes.toList hp args
  | .builtin .len=>zB5 E c.argTypes.toList hp args
  | .builtin .max=>maxE args
  | .builtin .min=>minE args
  | _=>none
 | _=>none
def jh(tm:List AV)(dst:Option Tmp)(v:AV):List AV :=
 match dst with
 | some t=>tm.set t v
 | none=>tm
def freeze1(hp:List (Option OB))(b:Nat):List (Option OB) :=
 match slot hp b with
 | some ob=>hp.set b (some { ob with fz:=true })
 | none=>hp
def freezeL(hp:List (Option OB)):List Nat->List (Option OB)
 | []=>hp
 | b :: r=>freezeL (freeze1 hp b) r
def zCh(hp:List (Option OB)):Option (Nat×Blk)->List (Option OB)
 | some (b,blk)=>match slot hp b with
  | some ob=>hp.set b (some { ob with blk })
  | none=>hp
 | none=>hp
def zDl(hp:List (Option OB)):Option Nat->List (Option OB)
 | some b=>hp.set b none
 | none=>hp
def zj(ef:Eff)(dst:Option Tmp)(site:Nat)(st:St):St :=
 let hp:=zDl (zCh (freezeL st.hp ef.frz) ef.upd) ef.kil
 { tm:=jh st.tm dst ef.v,hp:=match ef.new with | some b=>hp.set site (some ⟨false,b⟩) | none=>hp }
def zW(o:Oper):Nat:=o.dst.getD 0
def jc(ops:List Oper)(o:Oper)(tm:List AV):Option Bool :=
 match o.guard with
 | none=>some true
 | some (j,want)=>match ops[j]? with
  | some g=>match g.dst with
   | some t=>match tm[t]? with
    | some (.d (.bool b))=>some (b == want)
    | some (.d (.tup []))=>some false
    | _=>none
   | none=>none
  | none=>none
def Eff.ok(ef:Eff):Bool :=
 (match ef.upd with | some (b,_)=>!ef.frz.contains b | none=>true) && (match ef.kil with | some b=>!ef.frz.contains b | none=>true)
def YN(E:Env)(call:FuncId->List DV->Option CR)(o:Oper)(st:St):Option St :=
 bnd (jY E call o.op (zW o) st.tm st.hp) λef=>zm ef.ok <|
  match ef.new with
  | none=>some (zj ef o.dst (zW o) st)
  | some b=>zm (o.dst.isSome && zh (zW o) b) (some (zj ef o.dst (zW o) (clear (zW o) st)))
def zCQ(E:Env)(call:FuncId->List DV->Option CR)(loud:Bool)(may:Option Nat)(o:Oper)(st:St):Option St :=
 bnd (jY E call o.op (zW o) st.tm st.hp) λef=>zm (ef.ok && (loud || (ef.upd.isNone && (ef.kil.isNone || ef.kil == may)))) <|
  match ef.new with
  | none=>some (zj ef o.dst (zW o) st)
  | some b=>zm (o.dst.isSome && zh (zW o) b && (slot st.hp (zW o)).isNone) (some (zj ef o.dst (zW o) st))
def QT(step:Oper->St->Option St)(ops:List Oper):List Oper->St->(St->Option CR)->Option CR
 | [],st,K=>K st
 | o :: r,st,K=>bnd (jc ops o st.tm) λg=>match g with
  | true=>bnd (step o st) λst'=>QT step ops r st' K
  | false=>QT step ops r { st with tm:=jh st.tm o.dst (.d (.tup [])) } K
end Go.Am
namespace Go.Am
open Go.Proofs
open Go
def looks(ops:List Oper)(o:Oper):List Tmp :=
 (o.op.operands.toList.filterMap λ| .tmp t=>some t | _=>none) ++
 (match o.guard with
  | some (g,_)=>((ops[g]?).bind (·.dst)).toList
  | none=>[])
def owns:Op->Bool
 | .alloc _ | .box _ _ | .buildSlice _ _ _ | .makeMap _ _ | .makeSlice _ _ _ | .range _ _=>true
 | .call c=>match c.callee with
  | .value _=>true
  | .builtin .append=>true
  | _=>false
 | _=>false
def zCF(acc:List Nat)(es:List Edge):Nat :=
 es.foldl (λs e=>if Region.binds .any e then s ||| (2 ^ e.on) ||| acc.getD e.on 0 else s) 0
def qL:List Oper->List Nat->List Nat
 | [],acc=>acc
 | o :: r,acc=>qL r (acc++[zCF acc o.after.toList])
def pivot(ops:List Oper)(i:Nat):Bool :=
 (List.range ops.length).all λj=>j == i || (if j<i then ((qL ops []).getD i 0).testBit j else ((qL ops []).getD j 0).testBit i)
def anews(ops:List Oper):List Nat :=
 ops.zipIdx.filterMap λ(o,i)=>if pivot ops i then none else if owns o.op then o.dst else none
def zIe:Op->Option Tmp
 | .call c=>match c.callee,c.args.toList.head? with
  | .builtin .append,some (.tmp t)=>some t
  | _,_=>none
 | _=>none
def nilBase(ops:List Oper)(c:Call):Bool :=
 match c.args.toList.head? with
 | some (.const (.slice none 0 0))=>true
 | some (.tmp t)=>ops.any λo=>o.dst == some t && (match o.op with | .buildSlice _ 0 _=>true | _=>false)
 | _=>false
def priv(ops:List Oper)(t:Tmp):Bool :=
 (anews ops).contains t && decide ((ops.filter λo=>(looks ops o).contains t).length<=1)
inductive Cls where
 | P | A | R | C | S
 deriving DecidableEq
def cls(ops:List Oper):Op->Cls
 | .alloc _ | .box _ _ | .buildSlice _ _ _ | .makeMap _ _ | .makeSlice _ _ _ | .range _ _=>.A
 | .load _ _ | .lookup _ _ _ _=>.R
 | .store _ _ _ | .mapUpdate _ _ _ _ | .insert _ _ _ _ | .next _ _=>.S
 | .call c=>match c.callee with
  | .value _=>.R
  | .builtin .append=>match nilBase ops c with
   | true=>.R
   | false=>match zIe (.call c) with
    | some t=>match priv ops t with
     | true=>.C
     | false=>.S
    | none=>.S
  | .builtin .copy=>.S
  | .builtin .len=>.R
  | _=>.P
 | _=>.P
def Cls.loud:Cls->Bool
 | .S=>true
 | _=>false
def Cls.heeds:Cls->Bool
 | .R | .S | .C=>true
 | _=>false
def qa(ops:List Oper)(o:Op):Option Nat :=
 match cls ops o with
 | .C=>zIe o
 | _=>none
def hits(ops:List Oper)(a b:Oper):Bool :=
 match a.dst with
 | some d=>(looks ops b).contains d
 | none=>false
def clash(ops:List Oper)(a b:Oper):Bool :=
 hits ops a b || hits ops b a || (a.dst.isSome && a.dst == b.dst) ||
 ((cls ops a.op).loud && (cls ops b.op).heeds) || ((cls ops b.op).loud && (cls ops a.op).heeds)
def Yi(ops:List Oper):Bool :=
 ops.zipIdx.all λ(o,i)=>o.after.toList.all λe=>!Region.binds .any e || decide (e.on<i)
def zCW(ops:List Oper):Bool :=
 ops.all λo=>(!owns o.op || o.dst.isSome) && match o.dst with | some d=>!(looks ops o).contains d | none=>true
def zAK(ops:List Oper):Bool :=
 zCW ops && Yi ops &&
 (List.range ops.length).all λj=>(List.range j).all λi =>
  match ops[i]?,ops[j]? with
  | some a,some b=>(!(a.dst.isSome && a.dst == b.dst)) && (!clash ops a b || ((qL ops []).getD j 0).testBit i)
  | _,_=>false
def early(ops:List Oper)(k:Nat)(t:Tmp):Bool:=(ops.drop k).all λo=>!(o.dst == some t)
def zD6(ops:List Oper)(i j:Nat)(a b:Oper):Option (Tmp×Tmp) :=
 match a.guard,b.guard,a.op,b.op with
 | none,none,.load _ (.tmp p),.store _ (.tmp q) _=>if b.dst.isNone && early ops i p && early ops j q && !hits ops a b then some (p,q) else none
 | none,none,.store _ (.tmp q) _,.load _ (.tmp p)=>if a.dst.isNone && early ops j p && early ops i q && !hits ops b a then some (p,q) else none
 | _,_,_,_=>none
def zHE(tm:List AV)(p q:Tmp):Bool :=
 match tm[p]?,tm[q]? with
 | some (.ptr b _ _ _),some (.ptr c _ _ _)=>!(b == c)
 | some (.d _),some (.ptr _ _ _ _)=>true
 | _,_=>false
def lsOK(ops:List Oper)(tm:List AV):Bool :=
 (List.range ops.length).all λj=>(List.range j).all λi =>
  match ops[i]?,ops[j]? with
  | some a,some b=>(!clash ops a b || ((qL ops []).getD j 0).testBit i) || (match zD6 ops i j a b with | some pq=>zHE tm pq.1 pq.2 | none=>false)
  | _,_=>false
def zEk(ops:List Oper):Bool :=
 zCW ops && Yi ops &&
 (List.range ops.length).all λj=>(List.range j).all λi =>
  match ops[i]?,ops[j]? with
  | some a,some b=>!(a.dst.isSome && a.dst == b.dst)
  | _,_=>false
def clearL:List Nat->St->St
 | [],st=>st
 | b :: r,st=>clearL r (clear b st)
def YD(E:Env)(call:FuncId->List DV->Option CR)(ops:List Oper):List (Oper×Bool)->St->(St->Option CR)->Option CR
 | [],st,K=>K st
 | (o,pv) :: r,st,K=>bnd (jc ops o st.tm) λg=>match g with
  | true=>bnd (match pv with | true=>YN E call o st | false=>zCQ E call (cls ops o.op).loud (qa ops o.op) o st) λst'=>YD E call ops r st' K
  | false=>YD E call ops r { st with tm:=jh st.tm o.dst (.d (.tup [])) } K
def JS(E:Env)(call:FuncId->List DV->Option CR)(ops:List Oper)(draw:Bool)(st:St)(K:St->Option CR):Option CR :=
 match draw with
 | false=>QT (YN E call) ops ops st K
 | true=>match zAK ops with
  | true=>YD E call ops (ops.zipIdx.map λ(o,i)=>(o,pivot ops i)) (clearL (anews ops) st) K
  | false=>zm (zEk ops) (YD E call ops (ops.zipIdx.map λ(o,i)=>(o,pivot ops i)) (clearL (anews ops) st) λst=>zm (lsOK ops st.tm) (K st))
inductive Ex where
 | normal
 | exit (id:Nat)
 | ret
def QF(f:St->Option CR)(K:Ex->St->Option CR):Ex->St->Option CR
 | .normal,st=>f st
 | e,st=>K e st
def Qh(id:Nat)(K:Ex->St->Option CR):Ex->St->Option CR
 | .exit i,st=>if i=id then K .normal st else K (.exit i) st
 | e,st=>K e st
def Q3(body:St->(Ex->St->Option CR)->Option CR):Nat->St->(Ex->St->Option CR)->Option CR
 | 0,_,_=>none
 | n+1,st,K=>body st (QF (λst'=>Q3 body n st' K) K)
def exec(E:Env)(n:Nat)(call:FuncId->List DV->Option CR):Code->St->(Ex->St->Option CR)->Option CR
 | .skip,st,K=>K .normal st
 | .label _,st,K=>K .normal st
 | .region _ ops draw,st,K=>JS E call ops.toList draw st (K .normal)
 | .seq a b,st,K=>exec E n call a st (QF (λst'=>exec E n call b st' K) K)
 | .cond c a b,st,K=>bnd (evO E st.tm c) λv=>bnd (asB v) λt=>match t with
  | true=>exec E n call a st K
  | false=>exec E n call b st K
 | .block id c,st,K=>exec E n call c st (Qh id K)
 | .scope c,st,K=>exec E n call c st K
 | .loop c,st,K=>Q3 (exec E n call c) n st K
 | .exit id,st,K=>K (.exit id) st
 | .ret,st,K=>K .ret st
 | _,_,_=>none
def entry(fn:Func)(args:List DV):St :=
 { tm:=args.map .d++List.replicate (fn.ntmps - args.length) .undef,hp:=List.replicate fn.ntmps none }
def zIP(E:Env)(st:St):ResultVar->Option AV
 | .tmp t=>st.tm[t]?
 | .cell a t=>bnd (st.tm[a]?) λp=>bnd (JJ E t st.hp p) λef=>some ef.v
def zDx(E:Env)(st:St):List ResultVar->Option (List AV)
 | []=>some []
 | r :: rs=>bnd (zIP E st r) λv=>bnd (zDx E st rs) λvs=>some (v :: vs)
def zIT:List DV->Bool
 | []=>true
 | x :: r=>!x.isTup && zIT r
def zAM(st:St):AV->Option CR
 | .d .nl=>some (.val .nl)
 | .own b off len sz=>match slot st.hp b with
  | some ⟨false,.dc s xs⟩=>if s=sz/\off=0/\len=xs.length then some (.fresh sz xs) else none
  | _=>none
 | _=>none
def fin(E:Env)(fresh:Bool)(fn:Func)(st:St):Option CR :=
 bnd (zDx E st fn.results.toList) λvs=>match vs with
  | [v]=>match fresh with
   | true=>zAM st v
   | false=>bnd (snap st.hp zp v) λx=>zm (!x.isTup) (some (.val x))
  | vs=>bnd (JV st.hp vs) λxs=>zm (!fresh && zIT xs) (some (.val (.tup xs)))
def zEy(E:Env)(fresh:Bool)(fn:Func):Ex->St->Option CR
 | .exit _,_=>none
 | _,st=>fin E fresh fn st
end Go.Am
namespace Go.Am
open Go.Proofs
open Go Go.RowKit
def vcs(v:Value):List Value:=v.cells.toList
def Jx:Value->Bool
 | .agg _=>true
 | _=>false
inductive RD(L:Nat->List Nat)(S:Nat->Prop)(w:World):DV->List Value->Prop where
 | bool (b:Bool):RD L S w (.bool b) [.bool b]
 | int (k:IntKind) (n:Int):RD L S w (.int k n) [.int k n]
 | flt (k:FloatKind) (b:Nat):RD L S w (.flt k b) [.float k b]
 | cpx (k:FloatKind) (x y:Nat):RD L S w (.cpx k x y) [.complex k x y]
 | str (s:ByteArray):RD L S w (.str s) [.string s]
 | nl (a:Option Addr):RD L S w .nl [.slice a 0 0]
 | nilFn:RD L S w .nilFn [.nilFunc]
 | nilPtr:RD L S w .nilPtr [.pointer none]
 | nilMp:RD L S w .nilMp [.map none]
 | nilIf:RD L S w .nilIf [.nilIface]
 | sl (sz:Nat) (xs:List DV) (a:Option Addr) (n c:Nat) (css:List (List Value)) (hn:xs.length=n) (hc:n<=c) (hl:css.length=xs.length)
   (h:∀i (h:i<xs.length) (h':i<css.length),RD L S w xs[i] css[i]) (hz:∀cs∈css,cs.length=sz)
   (hm:0<n->∃ad,a=some ad/\ad.spot=none/\S ad.block/\∀j u,css.flatten[j]? = some u->w.cell? (ad.add j)=some u) :
   RD L S w (.sl sz xs) [.slice a n c]
 | agg (tag:Nat) (fs:List DV) (css:List (List Value)) (hl:css.length=fs.length)
   (h:∀i (h:i<fs.length) (h':i<css.length),RD L S w fs[i] css[i]) (hz:css.map (·.length)=L tag):RD L S w (.agg tag fs) css.flatten
 | dp (x:DV) (ad:Addr) (cs:List Value) (hs:ad.spot=none) (hS:S ad.block) (hm:∀j u,cs[j]? = some u->w.cell? (ad.add j)=some u) (h:RD L S w x cs)
   (hx:x.isTup=false):RD L S w (.dp x) [.pointer (some ad)]
 | fn (f:FuncId) (x y:List DV) (vx vy:List Value) (hx:vx.length=x.length) (hy:vy.length=y.length)
   (h1:∀i (h:i<x.length) (h':i<vx.length),RD L S w x[i] (vcs vx[i])) (h2:∀i (h:i<x.length) (h':i<vx.length),Jx vx[i]=x[i].isAgg)
   (h3:∀i (h:i<y.length) (h':i<vy.length),RD L S w y[i] (vcs vy[i])) (h4:∀i (h:i<y.length) (h':i<vy.length),Jx vy[i]=y[i].isAgg) :
   RD L S w (.fn f x y) [.func (.func f) vx.toArray vy.toArray]
 | mp (ks vs:List DV) (r:Nat) (es:List MapEntry) (clock:Nat) (hS:S r) (hr:w.heap[r]? = some (.map es.toArray clock)) (hk:es.length=ks.length) (hv:es.length=vs.length)
   (h1:∀i (h:i<ks.length) (h':i<es.length),RD L S w ks[i] (vcs es[i].key)) (h2:∀i (h:i<ks.length) (h':i<es.length),Jx es[i].key=ks[i].isAgg)
   (h3:∀i (h:i<vs.length) (h':i<es.length),RD L S w vs[i] (vcs es[i].val)) (h4:∀i (h:i<vs.length) (h':i<es.length),Jx es[i].val=vs[i].isAgg) :
   RD L S w (.mp ks vs) [.map (some r)]
 | ifc (t:TypeId) (x:DV) (v:Value) (h:RD L S w x (vcs v)) (h2:Jx v=x.isAgg):RD L S w (.ifc t x) [.iface t v]
section
variable{L:Nat->List Nat}{S S':Nat->Prop}{w w':World}
theorem zCC{w w':World}{ad:Addr}(h:w'.heap[ad.block]? = w.heap[ad.block]?):w'.cell? ad=w.cell? ad:=by simp only[World.cell?,h]
theorem JU(a:Addr)(n:Nat):(a.add n).block=a.block:=by unfold Addr.add;split <;> rfl
theorem zAu{a:Addr}(h:a.spot=none)(n:Nat):(a.add n).spot=none:=by unfold Addr.add;split <;> simp[h]
theorem jk{a:Addr}(h:a.spot=none)(n:Nat):a.add n=⟨a.block,a.off+n,none⟩:=by
 cases a with | mk b o s=>simp at h;subst h;unfold Addr.add;split <;> simp[*]
theorem zCt{a:Addr}(h:a.spot=none)(m n:Nat):(a.add m).add n=a.add (m+n):=by rw[jk (zAu h m),jk h,jk h];simp[Nat.add_assoc]
theorem RD.mono{x:DV}{cs:List Value}(h:RD L S w x cs)(hS:∀b,S b->S' b)(hw:∀b,S b->w'.heap[b]? = w.heap[b]?):RD L S' w' x cs:=by
 induction h with
 | bool b=>exact .bool b
 | int k n=>exact .int k n
 | flt k b=>exact .flt k b
 | cpx k a b=>exact .cpx k a b
 | str s=>exact .str s
 | nl a=>exact .nl a
 | nilFn=>exact .nilFn
 | nilPtr=>exact .nilPtr
 | nilMp=>exact .nilMp
 | nilIf=>exact .nilIf
 | sl sz xs a n c css hn hc hl _ hz hm ih =>
  refine .sl sz xs a n c css hn hc hl ih hz λh0=>?_
  obtain⟨ad,e,hsp,hs,hcell⟩:=hm h0;exact⟨ad,e,hsp,hS _ hs,λj u hu=>by rw[zCC (w:=w) (by rw[JU];exact hw _ hs)];exact hcell j u hu⟩
 | agg tag fs css hl _ hz ih=>exact .agg tag fs css hl ih hz
 | dp x ad cs hsp hs hm _ hx ih=>exact .dp x ad cs hsp (hS _ hs) (λj u hu=>by rw[zCC (w:=w) (by rw[JU];exact hw _ hs)];exact hm j u hu) ih hx
 | fn f x y vx vy hx hy _ h2 _ h4 ih1 ih3=>exact .fn f x y vx vy hx hy ih1 h2 ih3 h4
 | mp ks vs r es clock hs hr hk hv _ h2 _ h4 ih1 ih3=>exact .mp ks vs r es clock (hS _ hs) (by rw[hw _ hs];exact hr) hk hv ih1 h2 ih3 h4
 | ifc t x v _ h2 ih=>exact .ifc t x v ih h2
def RV(L:Nat->List Nat)(S:Nat->Prop)(w:World):DV->Value->Prop
 | .tup xs,v=>∃vs:List Value,v=.tuple vs.toArray/\vs.length=xs.length/\∀i (h:i<xs.length) (h':i<vs.length),RD L S w xs[i] (vcs vs[i])/\Jx vs[i]=xs[i].isAgg
 | x,v=>RD L S w x (vcs v)/\Jx v=x.isAgg
theorem RV.of{x:DV}{v:Value}(hx:x.isTup=false)(h:RD L S w x (vcs v))(ha:Jx v=x.isAgg):RV L S w x v:=by cases x <;> first | exact⟨h,ha⟩ | simp[DV.isTup] at hx
theorem RV.rd{x:DV}{v:Value}(hx:x.isTup=false)(h:RV L S w x v):RD L S w x (vcs v)/\Jx v=x.isAgg:=by cases x <;> first | exact h | simp[DV.isTup] at hx
theorem RV.mono{x:DV}{v:Value}(h:RV L S w x v)(hS:∀b,S b->S' b)(hw:∀b,S b->w'.heap[b]? = w.heap[b]?):RV L S' w' x v:=by
 cases x with
 | tup xs =>
  obtain⟨vs,e,hl,h⟩:=h;exact⟨vs,e,hl,λi a b=>⟨(h i a b).1.mono hS hw,(h i a b).2⟩⟩
 | _=>exact⟨h.1.mono hS hw,h.2⟩
theorem RD.notTup{x:DV}{cs:List Value}(h:RD L S w x cs):x.isTup=false:=by cases h <;> rfl
theorem RD.one{x:DV}{cs:List Value}(h:RD L S w x cs)(hx:x.isAgg=false):∃u,cs=[u]/\Jx u=false:=by cases h <;> first | exact⟨_,rfl,rfl⟩ | simp[DV.isAgg] at hx
theorem z6{v:Value}(h:Jx v=false):vcs v=[v]:=by cases v <;> first | rfl | simp[Jx] at h
theorem zGe{v:Value}(h:Jx v=true):∃cs:Array Value,v=.agg cs:=by cases v <;> first | exact⟨_,rfl⟩ | simp[Jx] at h
def ofCells(agg:Bool)(cs:List Value):Value:=if agg then .agg cs.toArray else cs.headD undef
theorem RV.ofCells{x:DV}{cs:List Value}(h:RD L S w x cs):RV L S w x (ofCells x.isAgg cs):=by
 refine RV.of h.notTup ?_ ?_
 ·cases hx:x.isAgg with
  | true=>simpa[Am.ofCells,vcs,Value.cells] using h
  | false =>
   obtain⟨u,rfl,hu⟩:=h.one hx;simpa[Am.ofCells,z6 hu] using h
 ·cases hx:x.isAgg with
  | true=>rfl
  | false =>
   obtain⟨u,rfl,hu⟩:=h.one hx;simpa[Am.ofCells] using hu
end
def Yo(L:Nat->List Nat):List (Nat×Nat)->Nat
 | []=>0
 | (tag,i) :: p=>((L tag).take i).sum+Yo L p
def AV.isAgg:AV->Bool
 | .d x=>x.isAgg
 | .agg _ _=>true
 | _=>false
def Room(w:World)(cb n:Nat):Prop:=∃cs t,w.heap[cb]? = some (.cells cs t (0,0))/\n<=cs.size
inductive RA(L:Nat->List Nat)(S:Nat->Prop)(φ:Nat->Option Nat)(w:World):AV->List Value->Prop where
 | d (x:DV) (cs:List Value) (h:RD L S w x cs):RA L S φ w (.d x) cs
 | undef (cs:List Value) (h1:∀u∈cs,u.oneCell'=true):RA L S φ w .undef cs
 | own (b off len sz cb c:Nat) (hb:φ b=some cb) (hc:len<=c) (hr:Room w cb ((off+c) * sz)):RA L S φ w (.own b off len sz) [.slice (some ⟨cb,off * sz,none⟩) len c]
 | own0 (b off sz:Nat) (a:Option Addr):RA L S φ w (.own b off 0 sz) [.slice a 0 0]
 | ptr (b sz e:Nat) (p:List (Nat×Nat)) (cb:Nat) (hb:φ b=some cb):RA L S φ w (.ptr b sz e p) [.pointer (some ⟨cb,e * sz+Yo L p,none⟩)]
 | omp (b r:Nat) (hb:φ b=some r):RA L S φ w (.omp b) [.map (some r)]
 | it (b r:Nat) (hb:φ b=some r):RA L S φ w (.it b) [.pointer (some ⟨r,0,none⟩)]
 | agg (tag:Nat) (fs:List AV) (css:List (List Value)) (hl:css.length=fs.length)
   (h:∀i (h:i<fs.length) (h':i<css.length),RA L S φ w fs[i] css[i]) (hz:css.map (·.length)=L tag):RA L S φ w (.agg tag fs) css.flatten
 | fn (f:FuncId) (x y:List AV) (vx vy:List Value) (hx:vx.length=x.length) (hy:vy.length=y.length)
   (h1:∀i (h:i<x.length) (h':i<vx.length),RA L S φ w x[i] (vcs vx[i])) (h2:∀i (h:i<x.length) (h':i<vx.length),x[i]=.undef\/Jx vx[i]=x[i].isAgg)
   (h3:∀i (h:i<y.length) (h':i<vy.length),RA L S φ w y[i] (vcs vy[i])) (h4:∀i (h:i<y.length) (h':i<vy.length),y[i]=.undef\/Jx vy[i]=y[i].isAgg) :
   RA L S φ w (.fn f x y) [.func (.func f) vx.toArray vy.toArray]
def RAV(L:Nat->List Nat)(S:Nat->Prop)(φ:Nat->Option Nat)(w:World):AV->Value->Prop
 | .undef,_=>True
 | .d x,v=>RV L S w x v
 | a,v=>RA L S φ w a (vcs v)/\Jx v=a.isAgg
section
variable{L:Nat->List Nat}{S S':Nat->Prop}{φ φ':Nat->Option Nat}{w w':World}
structure Keep(S S':Nat->Prop)(φ φ':Nat->Option Nat)(w w':World):Prop where
 sub:∀b,S b->S' b
 heap:∀b,S b->w'.heap[b]? = w.heap[b]?
 phi:∀b cb,φ b=some cb->φ' b=some cb
 room:∀b cb n,φ b=some cb->Room w cb n->Room w' cb n
theorem Keep.refl:Keep S S φ φ w w:=⟨λ_ h=>h,λ_ _=>rfl,λ_ _ h=>h,λ_ _ _ _ h=>h⟩
theorem Keep.trans{S'':Nat->Prop}{φ'':Nat->Option Nat}{w'':World}(h:Keep S S' φ φ' w w')(k:Keep S' S'' φ' φ'' w' w''):Keep S S'' φ φ'' w w'' :=
 ⟨λ_ hb=>k.sub _ (h.sub _ hb),λ_ hb=>(k.heap _ (h.sub _ hb)).trans (h.heap _ hb),λ_ _ hb=>k.phi _ _ (h.phi _ _ hb),λb cb n hb hr=>k.room b cb n (h.phi _ _ hb) (h.room b cb n hb hr)⟩
theorem RA.mono{v:AV}{cs:List Value}(h:RA L S φ w v cs)(k:Keep S S' φ φ' w w'):RA L S' φ' w' v cs:=by
 induction h with
 | d x cs h=>exact .d x cs (h.mono k.sub k.heap)
 | undef cs h1=>exact .undef cs h1
 | own b off len sz cb c hb hc hr=>exact .own b off len sz cb c (k.phi _ _ hb) hc (k.room b cb _ hb hr)
 | own0 b off sz a=>exact .own0 b off sz a
 | ptr b sz e p cb hb=>exact .ptr b sz e p cb (k.phi _ _ hb)
 | omp b r hb=>exact .omp b r (k.phi _ _ hb)
 | it b r hb=>exact .it b r (k.phi _ _ hb)
 | agg tag fs css hl _ hz ih=>exact .agg tag fs css hl ih hz
 | fn f x y vx vy hx hy _ h2 _ h4 ih1 ih3=>exact .fn f x y vx vy hx hy ih1 h2 ih3 h4
theorem RAV.mono{v:AV}{u:Value}(h:RAV L S φ w v u)(k:Keep S S' φ φ' w w'):RAV L S' φ' w' v u:=by
 cases v with
 | undef=>trivial
 | d x=>exact RV.mono h k.sub k.heap
 | _=>exact⟨h.1.mono k,h.2⟩
theorem RAV.cells{v:AV}{u:Value}(h:RAV L S φ w v u)(hv:stores v=true):RA L S φ w v (vcs u)/\Jx u=v.isAgg:=by
 cases v with
 | undef=>simp[stores] at hv
 | d x =>
  have hx:x.isTup=false:=by cases x <;> first | rfl | simp[stores] at hv
  exact⟨.d x _ (RV.rd hx h).1,(RV.rd hx h).2⟩
 | _=>exact h
theorem RD.oneCell{x:DV}{cs:List Value}(h:RD L S w x cs):∀u∈cs,u.oneCell'=true:=by
 induction h with
 | agg tag fs css hl _ hz ih =>
  intro u hu;obtain⟨c,hc,hu⟩:=List.mem_flatten.1 hu;obtain⟨i,hi,rfl⟩:=List.mem_iff_getElem.1 hc;exact ih i (by omega) hi u hu
 | _=>intro u hu;simp at hu;subst hu;rfl
theorem RA.oneCell{v:AV}{cs:List Value}(h:RA L S φ w v cs):∀u∈cs,u.oneCell'=true:=by
 induction h with
 | d x cs h=>exact h.oneCell
 | undef cs h1=>exact h1
 | agg tag fs css hl _ hz ih =>
  intro u hu;obtain⟨c,hc,hu⟩:=List.mem_flatten.1 hu;obtain⟨i,hi,rfl⟩:=List.mem_iff_getElem.1 hc;exact ih i (by omega) hi u hu
 | _=>intro u hu;simp at hu;subst hu;rfl
theorem RAV.of{v:AV}{u:Value}(h:RA L S φ w v (vcs u))(ha:v=.undef\/Jx u=v.isAgg):RAV L S φ w v u:=by
 cases v with
 | undef=>trivial
 | d x =>
  cases h with
  | d _ _ h=>exact RV.of h.notTup h (ha.resolve_left (by simp))
 | _=>exact⟨h,ha.resolve_left (by simp)⟩
theorem RA.one{v:AV}{cs:List Value}(h:RA L S φ w v cs)(hv:v.isAgg=false)(hu:v≠.undef):∃u,cs=[u]/\Jx u=false:=by
 cases h with
 | d x cs h=>exact h.one hv
 | undef=>exact absurd rfl hu
 | agg=>simp[AV.isAgg] at hv
 | _=>exact⟨_,rfl,rfl⟩
theorem RAV.ofCells{v:AV}{cs:List Value}(h:RA L S φ w v cs):RAV L S φ w v (ofCells v.isAgg cs):=by
 by_cases hu:v=.undef
 ·subst hu;trivial
 refine RAV.of ?_ (.inr ?_)
 ·cases hx:v.isAgg with
  | true=>simpa[Am.ofCells,vcs,Value.cells] using h
  | false =>
   obtain⟨u,rfl,ha⟩:=h.one hx hu;simpa[Am.ofCells,z6 ha] using h
 ·cases hx:v.isAgg with
  | true=>rfl
  | false =>
   obtain⟨u,rfl,ha⟩:=h.one hx hu;simpa[Am.ofCells] using ha
theorem RD.len{x:DV}{cs:List Value}(h:RD L S w x cs):cs.length=JZ L (.d x):=by
 cases h with
 | agg tag fs css hl _ hz=>simp[JZ,List.length_flatten,hz]
 | _=>rfl
theorem RA.len{v:AV}{cs:List Value}(h:RA L S φ w v cs)(hv:v≠.undef):cs.length=JZ L v:=by
 cases h with
 | d x cs h=>exact h.len
 | undef=>exact absurd rfl hv
 | agg tag fs css hl _ hz=>simp[JZ,List.length_flatten,hz]
 | _=>rfl
end
def RB(L:Nat->List Nat)(S:Nat->Prop)(φ:Nat->Option Nat)(w:World):Blk->Nat->Prop
 | .dc sz xs,cb=>∃(cs:Array Value) (t:TypeId) (css:List (List Value)),w.heap[cb]? = some (.cells cs t (0,0))/\css.length=xs.length/\(∀i (h:i<xs.length) (h':i<css.length),RD L S w xs[i] css[i]) /\
   (∀c∈css,c.length=sz)/\css.flatten <+: cs.toList
 | .ac sz xs,cb=>∃(cs:Array Value) (t:TypeId) (css:List (List Value)),w.heap[cb]? = some (.cells cs t (0,0))/\css.length=xs.length/\(∀i (h:i<xs.length) (h':i<css.length),RA L S φ w xs[i] css[i]) /\
   (∀c∈css,c.length=sz)/\css.flatten <+: cs.toList
 | .mp ks vs,cb=>∃(es:List MapEntry) (clock:Nat),w.heap[cb]? = some (.map es.toArray clock)/\es.length=ks.length/\es.length=vs.length /\
   (∀i (h:i<ks.length) (h':i<es.length),RD L S w ks[i] (vcs es[i].key)/\Jx es[i].key=ks[i].isAgg) /\
   (∀i (h:i<vs.length) (h':i<es.length),RD L S w vs[i] (vcs es[i].val)/\Jx es[i].val=vs[i].isAgg)
 | .sit s pos,cb=>w.heap[cb]? = some (.stringIter s pos)
theorem RB.lt{L:Nat->List Nat}{S:Nat->Prop}{φ:Nat->Option Nat}{w:World}{k:Blk}{cb:Nat}(h:RB L S φ w k cb):cb<w.heap.size:=by
 have key:∀o:Obj,w.heap[cb]? = some o->cb<w.heap.size:=λo h=>(Array.getElem?_eq_some_iff.1 h).1
 cases k with
 | dc sz xs=>obtain⟨cs,t,css,h,_⟩:=h;exact key _ h
 | ac sz xs=>obtain⟨cs,t,css,h,_⟩:=h;exact key _ h
 | mp ks vs=>obtain⟨es,c,h,_⟩:=h;exact key _ h
 | sit s p=>exact key _ h
theorem RB.mono{L:Nat->List Nat}{S S':Nat->Prop}{φ φ':Nat->Option Nat}{w w':World}{b:Blk}{cb:Nat}(h:RB L S φ w b cb)(k:Keep S S' φ φ' w w')
  (hcb:w'.heap[cb]? = w.heap[cb]?):RB L S' φ' w' b cb:=by
 cases b with
 | dc sz xs =>
  obtain⟨cs,t,css,h1,h2,h3,h4,h5⟩:=h;exact⟨cs,t,css,hcb.trans h1,h2,λi a b=>(h3 i a b).mono k.sub k.heap,h4,h5⟩
 | ac sz xs =>
  obtain⟨cs,t,css,h1,h2,h3,h4,h5⟩:=h;exact⟨cs,t,css,hcb.trans h1,h2,λi a b=>(h3 i a b).mono k,h4,h5⟩
 | mp ks vs =>
  obtain⟨es,clock,h1,h2,h3,h4,h5⟩:=h;exact⟨es,clock,hcb.trans h1,h2,h3,λi a b=>⟨(h4 i a b).1.mono k.sub k.heap,(h4 i a b).2⟩,λi a b=>⟨(h5 i a b).1.mono k.sub k.heap,(h5 i a b).2⟩⟩
 | sit s pos=>exact hcb.trans h
end Go.Am
namespace Go.Am
open Go.Proofs
open Go Go.RowKit
def Dsc(P:Program)(L:Nat->List Nat)(FL:TypeId->List TypeId)(t:TypeId):TK->Prop
 | .int k=>P.underlying t=some (.int k)
 | .bool=>P.underlying t=some .bool
 | .str=>P.underlying t=some .string
 | .flt k=>P.underlying t=some (.float k)
 | .cpx k=>P.underlying t=some (.complex k)
 | .ptr e=>P.underlying t=some (.pointer e)
 | .slice e=>P.underlying t=some (.slice e)
 | .map k e=>P.underlying t=some (.map k e)
 | .func=>∃a b c,P.underlying t=some (.func a b c)
 | .iface=>∃ms,P.underlying t=some (.interface ms)
 | .struct tag=>∃fs:Array Field,P.underlying t=some (.struct fs)/\fs.toList.map (·.type)=FL t/\fs.size=(L tag).length /\
   ∀i f,fs[i]? = some f->f.offset=((L tag).take i).sum/\∃j,P.info? f.type=some j/\(L tag)[i]? = some j.size/\j.size≠0
 | .array tag n e=>P.underlying t=some (.array n e)/\∃j,P.info? e=some j/\L tag=List.replicate n j.size
def TK.isAgg:TK->Bool
 | .struct _ | .array _ _ _=>true
 | _=>false
structure TOK(P:Program)(E:Env)(t:TypeId)(d:TD):Prop where
 info:∃(i:TypeInfo) (z:Value),P.info? t=some i/\i.size=d.size/\i.bytes=d.bytes/\i.zero=some z/\∀S w,RV E.L S w d.zero z
 desc:Dsc P E.L E.flds t d.k
 size:match d.k with | .struct tag | .array tag _ _=>d.size=(E.L tag).sum | _=>d.size=1
 zt:d.zero.isTup=false
 zfit:fits d (.d d.zero)=true
 eq:d.eqOK=true->P.eqGuardType P.depth t=false/\P.stoodInHeld t=false/\match d.k with | .struct _=>∀f∈P.fieldsOf t,f.name≠"_" | _=>True
def DOK(P:Program)(E:Env):Prop:=∀t d,E.D t=some d->TOK P E t d
section
variable{P:Program}{E:Env}{S:Nat->Prop}{φ:Nat->Option Nat}{w:World}
theorem zA{α β:Type}{o:Option α}{k:α->Option β}{b:β}(h:bnd o k=some b):∃a,o=some a/\k a=some b:=zJC.1 h
theorem zE{β:Type}{b:Bool}{k:Option β}{x:β}(h:zm b k=some x):b=true/\k=some x:=zEK.1 h
theorem TOK.isAgg{t:TypeId}{d:TD}(h:TOK P E t d)(w:World):(isAgg t).run P w=.ok d.k.isAgg w:=by
 have hd:=h.desc;unfold Dsc at hd;cases hk:d.k <;> simp only[hk] at hd
 case func=>obtain⟨a,b,c,hd⟩:=hd;simp[Go.isAgg,run_underlying hd,TK.isAgg]
 case iface=>obtain⟨a,hd⟩:=hd;simp[Go.isAgg,run_underlying hd,TK.isAgg]
 case struct=>obtain⟨a,hd,_⟩:=hd;simp[Go.isAgg,run_underlying hd,TK.isAgg]
 case array=>obtain⟨hd,_⟩:=hd;simp[Go.isAgg,run_underlying hd,TK.isAgg]
 all_goals simp[Go.isAgg,run_underlying hd,TK.isAgg]
theorem TOK.sizeOf{t:TypeId}{d:TD}(h:TOK P E t d)(w:World):(sizeOf t).run P w=.ok d.size w:=by obtain⟨i,z,hi,hs,_⟩:=h.info;simp[Go.sizeOf,typeInfo,hi,hs]
theorem TOK.typeInfo{t:TypeId}{d:TD}(h:TOK P E t d):∃i:TypeInfo,i.size=d.size/\i.bytes=d.bytes/\∀w,(typeInfo t).run P w=.ok i w:=by obtain⟨i,z,hi,hs,hb,_⟩:=h.info;exact⟨i,hs,hb,λw=>by simp[Go.typeInfo,hi]⟩
theorem TOK.zeroValue{t:TypeId}{d:TD}(h:TOK P E t d):∃z,(∀w,(zeroValue t).run P w=.ok z w)/\∀S w,RV E.L S w d.zero z:=by obtain⟨i,z,hi,_,_,hz,hr⟩:=h.info;exact⟨z,λw=>by simp[Go.zeroValue,Go.typeInfo,hi,hz],hr⟩
theorem jP{t:TypeId}{d:TD}{v:AV}(h:TOK P E t d)(hf:fits d v=true):d.size=JZ E.L v/\d.k.isAgg=v.isAgg/\stores v=true:=by
 have hs:=h.size;unfold fits at hf;cases hk:d.k <;> simp only[hk] at hs hf
 case struct tag =>
  cases v <;> try (simp at hf;done)
  case d x=>cases x <;> simp at hf;subst hf;exact⟨hs,rfl,rfl⟩
  case agg t fs=>simp at hf;subst hf;exact⟨hs,rfl,rfl⟩
 case array tag n e =>
  cases v <;> try (simp at hf;done)
  case d x=>cases x <;> simp at hf;subst hf;exact⟨hs,rfl,rfl⟩
  case agg t fs=>simp at hf;subst hf;exact⟨hs,rfl,rfl⟩
 all_goals
  cases v <;> try (simp at hf;done)
  case d x=>cases x <;> first | (simp at hf;done) | exact⟨hs,rfl,rfl⟩
  all_goals first | exact⟨hs,rfl,rfl⟩ | (simp at hf;done)
theorem zGb{v:Value}{x:DV}(h:zII v=some x):RV E.L S w x v/\x.isTup=false:=by
 unfold zII at h;split at h <;> simp at h <;> subst h
 ·exact⟨⟨.bool _,rfl⟩,rfl⟩
 ·exact⟨⟨.int _ _,rfl⟩,rfl⟩
 ·exact⟨⟨.flt _ _,rfl⟩,rfl⟩
 ·exact⟨⟨.cpx _ _ _,rfl⟩,rfl⟩
 ·exact⟨⟨.str _,rfl⟩,rfl⟩
 ·exact⟨⟨.nilPtr,rfl⟩,rfl⟩
 ·exact⟨⟨.nl _,rfl⟩,rfl⟩
 ·exact⟨⟨.nilMp,rfl⟩,rfl⟩
 ·exact⟨⟨.nilFn,rfl⟩,rfl⟩
 ·exact⟨⟨.nilIf,rfl⟩,rfl⟩
def okV(k:Nat)(v:Value):Prop:=match k with
 | 0=>∃m,v=.int .i64 m
 | _=>v=.nilIface\/∃te pe,v=.iface te pe
structure GlobOK(E:Env)(S:Nat->Prop)(w:World):Prop where
 val:∀g x,E.glob g=some x->RV E.L S w (.dp x) (.pointer (some ⟨g,0,none⟩))
 tab:∀g cs,E.gtab g=some cs->S g/\∃t fr,w.heap[g]? = some (.cells cs t fr)
 one:∀g k,E.gone g=some k->S g/\∃v t fr,w.heap[g]? = some (.cells #[v] t fr)/\okV k v
def TmOK(L:Nat->List Nat)(S:Nat->Prop)(φ:Nat->Option Nat)(w:World)(tm:List AV)(a:Act):Prop :=
 ∀(t:Tmp) (v:AV),tm[t]? = some v->∃u,a.tmps[t]? = some u/\RAV L S φ w v u
theorem evO_sound{tm:List AV}{a:Act}{x:Operand}{v:AV}(h:evO E tm x=some v)(ht:∀(t:Tmp) (v:AV),x=.tmp t->tm[t]? = some v->∃u,a.tmps[t]? = some u/\RAV E.L S φ w v u)
  (hg:GlobOK E S w):RAV E.L S φ w v (a.eval x):=by
 cases x with
 | tmp t =>
  obtain⟨u,hu,hr⟩:=ht t v rfl h;have:a.eval (.tmp t)=u:=by simp[Act.eval,hu]
  rw[this];exact hr
 | const c =>
  simp only[evO] at h;split at h
  ·rename_i x hx;simp at h;subst h;exact(zGb hx).1
  ·simp at h
 | global g =>
  simp only[evO] at h;split at h
  ·rename_i x hx;simp at h;subst h;exact hg.val g x hx
  ·simp at h
 | func f =>
  simp only[evO,Option.some.injEq] at h;subst h;exact⟨.fn f [] [] [] [] rfl rfl (by simp) (by simp) (by simp) (by simp),rfl⟩
theorem RV.bool{b:Bool}{v:Value}(h:RV E.L S w (.bool b) v):v=.bool b:=by obtain⟨h,ha⟩:=h;rw[z6 ha] at h;cases h;rfl
theorem RV.int{k:IntKind}{n:Int}{v:Value}(h:RV E.L S w (.int k n) v):v=.int k n:=by obtain⟨h,ha⟩:=h;rw[z6 ha] at h;cases h;rfl
theorem RV.str{s:ByteArray}{v:Value}(h:RV E.L S w (.str s) v):v=.string s:=by obtain⟨h,ha⟩:=h;rw[z6 ha] at h;cases h;rfl
theorem RV.nl{v:Value}(h:RV E.L S w .nl v):∃a,v=.slice a 0 0:=by obtain⟨h,ha⟩:=h;rw[z6 ha] at h;cases h;exact⟨_,rfl⟩
theorem RV.agg{t:Nat}{fs:List DV}{v:Value}(h:RV E.L S w (.agg t fs) v):∃cs:Array Value,v=.agg cs/\RD E.L S w (.agg t fs) cs.toList:=by obtain⟨h,ha⟩:=h;obtain⟨cs,rfl⟩:=zGe ha;exact⟨cs,rfl,h⟩
theorem RV.mkInt(k:IntKind)(n:Int):RV E.L S w (.int k n) (.int k n):=⟨.int k n,rfl⟩
theorem RV.mkBool(b:Bool):RV E.L S w (.bool b) (.bool b):=⟨.bool b,rfl⟩
theorem RV.mkStr(s:ByteArray):RV E.L S w (.str s) (.string s):=⟨.str s,rfl⟩
theorem QL{v:AV}{u:Value}{n:Int}(h:asI v=some n)(hr:RAV E.L S φ w v u):∃k,u=.int k n/\v=.d (.int k n):=by
 unfold asI at h;split at h <;> simp at h
 subst h;exact⟨_,RV.int hr,rfl⟩
def toV:DV->Value
 | .int k n=>.int k n
 | .bool b=>.bool b
 | .str s=>.string s
 | _=>undef
theorem zH1{op:BinOp}{t:TypeId}{k:IntKind}{a b:Int}{r:DV}(h:zD7 op k a b=some r)(ho:op≠.shl/\op≠.shr) :
  (∀w,(binOp op t (.int k a) (.int k b)).run P w=.ok (toV r) w)/\∀S w,RV E.L S w r (toV r):=by
 cases op <;> simp only[zD7,cmpI] at h
 case quo =>
  by_cases hb:b=0
  ·simp[hb] at h
  ·simp[hb] at h;subst h;exact⟨λw=>by simp[binOp,Op.intDiv,hb,toV],λS w=>RV.mkInt _ _⟩
 case rem =>
  by_cases hb:b=0
  ·simp[hb] at h
  ·simp[hb] at h;subst h;exact⟨λw=>by simp[binOp,Op.intDiv,hb,toV],λS w=>RV.mkInt _ _⟩
 case shl=>simp at ho
 case shr=>simp at ho
 all_goals
  injection h with h;subst h
  refine⟨λw=>?_,λS w=>?_⟩
  ·simp only[binOp,ne_eq,not_true_eq_false,if_false];rfl
  ·first | exact RV.mkInt _ _ | exact RV.mkBool _
theorem zHm{op:BinOp}{t:TypeId}{k k':IntKind}{a b:Int}{r:DV}(h:zGJ op k a b=some r)(ho:op=.shl\/op=.shr) :
  (∀w,(binOp op t (.int k a) (.int k' b)).run P w=.ok (toV r) w)/\∀S w,RV E.L S w r (toV r):=by
 unfold zGJ at h;by_cases hb:b<0
 ·simp[hb] at h
 ·rcases ho with rfl | rfl
  ·simp[hb] at h;subst h;exact⟨λw=>by simp[binOp,Op.shift,hb,toV],λS w=>RV.mkInt _ _⟩
  ·simp[hb] at h;subst h;exact⟨λw=>by simp[binOp,Op.shift,hb,toV],λS w=>RV.mkInt _ _⟩
theorem binD_int{op:BinOp}{t:TypeId}{k k':IntKind}{a b:Int}{r:DV}(h:zBt E op t (.int k a) (.int k' b)=some r) :
  (∀w,(binOp op t (.int k a) (.int k' b)).run P w=.ok (toV r) w)/\∀S w,RV E.L S w r (toV r):=by
 by_cases ho:op=.shl\/op=.shr
 ·refine zHm ?_ ho;rcases ho with rfl | rfl <;> exact h
 ·have h':(if k=k' then zD7 op k a b else none)=some r:=by unfold zBt at h;cases op <;> first | exact h | simp at ho
  by_cases hk:k=k'
  ·subst hk;rw[if_pos rfl] at h';exact zH1 h' ⟨λe=>ho (.inl e),λe=>ho (.inr e)⟩
  ·simp[hk] at h'
theorem strS_sound{op:BinOp}{t:TypeId}{a b:ByteArray}{r:DV}(h:strS op a b=some r) :
  (∀w,(binOp op t (.string a) (.string b)).run P w=.ok (toV r) w)/\∀S w,RV E.L S w r (toV r):=by
 unfold strS at h;cases op <;> simp only at h
 case add =>
  by_cases hb:((a.size+b.size:Nat):Int)>IntKind.i64.max
  ·rw[if_pos hb] at h;simp at h
  ·rw[if_neg hb] at h;simp at h;subst h;exact⟨λw=>by simp only[binOp,Op.stringOp];rw[if_neg hb];simp[toV],λS w=>RV.mkStr _⟩
 all_goals
  first
   | (simp at h;done)
   | (simp at h;subst h;exact⟨λw=>by simp[binOp,Op.stringOp,toV],λS w=>RV.mkBool _⟩)
end
end Go.Am
namespace Go.Am
open Go.Proofs
open Go Go.RowKit
section
variable{P:Program}{E:Env}{S:Nat->Prop}{φ:Nat->Option Nat}{w:World}
theorem JD{α:Type}:∀(css:List (List α)) (i:Nat) (h:i<css.length),(css.flatten.drop ((css.map (·.length)).take i).sum).take css[i].length=css[i]
 | [],i,h=>by simp at h
 | c :: css,0,_=>by simp
 | c :: css,i+1,h=>by
  have ih:=JD css i (by simpa using h)
  have e:(((c :: css).map (·.length)).take (i+1)).sum=c.length+((css.map (·.length)).take i).sum:=by simp
  simp only[List.flatten_cons,List.getElem_cons_succ,e];rw[List.drop_append,List.drop_eq_nil_of_le (by omega),List.nil_append,show c.length+((css.map (·.length)).take i).sum - c.length=((css.map (·.length)).take i).sum from by omega]
  exact ih
theorem zBI{α:Type}:∀(css:List (List α)) (i:Nat) (h:i<css.length),((css.map (·.length)).take i).sum+css[i].length<=css.flatten.length
 | [],i,h=>by simp at h
 | c :: css,0,_=>by simp
 | c :: css,i+1,h=>by
  have ih:=zBI css i (by simpa using h)
  simp only[List.flatten_cons,List.getElem_cons_succ,List.map_cons,List.take_succ_cons,List.sum_cons,List.length_append];omega
theorem zEM{α:Type}(cs:Array α)(o n:Nat):(cs.extract o (o+n)).toList=(cs.toList.drop o).take n:=by simp[Array.toList_extract]
theorem QQ{t:TypeId}{d:TD}(h:TOK P E t d)(cs:Array Value)(o:Nat)(c:List Value)(hc:(cs.toList.drop o).take d.size=c)(hl:c.length=d.size)
  (h1:d.k.isAgg=false->d.size=1) (w:World):(part t cs o).run P w=.ok (ofCells d.k.isAgg c) w:=by
 unfold part;simp only[Sem.run_bind,h.isAgg,Result.andThen_ok];cases hk:d.k.isAgg with
 | true =>
  simp only[if_true,Sem.run_bind,h.sizeOf,Result.andThen_ok,Sem.run_pure,ofCells];congr 2;apply Array.ext';simpa[zEM] using hc
 | false =>
  have hd:=h1 hk;rw[hd] at hc hl;obtain⟨u,rfl⟩:∃u,c=[u]:=by
   match c,hl with
   | [u],_=>exact⟨u,rfl⟩
  have:cs[o]? = some u:=by
   have h0:((cs.toList.drop o).take 1)[0]? = some u:=by rw[hc];rfl
   simpa[List.getElem?_take,List.getElem?_drop] using h0
  simp[this,ofCells]
theorem TOK.one{t:TypeId}{d:TD}(h:TOK P E t d)(hk:d.k.isAgg=false):d.size=1:=by have hs:=h.size;cases hd:d.k <;> simp only[hd] at hs hk <;> first | exact hs | simp[TK.isAgg] at hk
theorem Yb{t:TypeId}{d:TD}{x:DV}(h:TOK P E t d)(hk:ji d x=true){v:Value}(hr:RV E.L S w x v) :
  (∃k n,x=.int k n/\v=.int k n/\P.underlying t=some (.int k))\/(∃s,x=.str s/\v=.string s/\P.underlying t=some .string)\/(∃b,x=.bool b/\v=.bool b/\P.underlying t=some .bool):=by
 have hd:=h.desc;unfold ji at hk;split at hk
 ·split at hk
  ·rename_i k n k' e;simp at hk;subst hk;simp only[e,Dsc] at hd;exact .inl ⟨_,_,rfl,hr.int,hd⟩
  ·simp at hk
 ·split at hk
  ·rename_i s e;simp only[e,Dsc] at hd;exact .inr (.inl ⟨_,rfl,hr.str,hd⟩)
  ·simp at hk
 ·split at hk
  ·rename_i b e;simp only[e,Dsc] at hd;exact .inr (.inr ⟨_,rfl,hr.bool,hd⟩)
  ·simp at hk
 ·simp at hk
def zIN(P:Program)(E:Env)(f:TypeId->DV->DV->Option Bool)(n:Nat):Prop :=
 ∀(t:TypeId) (x y:DV) (b:Bool) (S:Nat->Prop) (w:World) (u v:Value),f t x y=some b->RV E.L S w x u->RV E.L S w y v ->
  ∀d,n<=d->∀w',(Op.equalIn d t u v).run P w'=.ok b w'
theorem zDK{n:Nat}{t:TypeId}{x y:DV}{b:Bool}(hD:DOK P E)(h:eqT E n t x y=some b):∃d,TOK P E t d/\d.k.isAgg=x.isAgg/\d.k.isAgg=y.isAgg:=by
 cases n with
 | zero=>simp[eqT] at h
 | succ n =>
  simp only[eqT] at h;obtain⟨d,hd,h⟩:=zA h;refine⟨d,hD t d hd,?_⟩;have key:∀x,ji d x=true->d.k.isAgg=x.isAgg:=by
   intro x hx;unfold ji at hx;split at hx <;> try (simp at hx;done)
   all_goals (split at hx <;> simp_all[TK.isAgg,DV.isAgg])
  split at h
  ·obtain⟨h1,_⟩:=zE h;simp at h1;exact⟨key _ h1.1,key _ h1.2⟩
  ·obtain⟨h1,_⟩:=zE h;simp at h1;exact⟨key _ h1.1,key _ h1.2⟩
  ·obtain⟨h1,_⟩:=zE h;simp at h1;exact⟨key _ h1.1,key _ h1.2⟩
  ·rename_i hk;obtain⟨_,h⟩:=zE h;split at h
   ·rw[hk];exact⟨rfl,rfl⟩
   ·simp at h
  ·rename_i hk;split at h
   ·rw[hk];exact⟨rfl,rfl⟩
   ·simp at h
  ·simp at h
theorem zAb{n:Nat}(hD:DOK P E)(ih:zIN P E (eqT E n) n)(xs ys:Array Value)(tag:Nat)(css dss:List (List Value))(hx:xs.toList=css.flatten)(hy:ys.toList=dss.flatten)
  (hzx:css.map (·.length)=E.L tag) (hzy:dss.map (·.length)=E.L tag) (d:Nat) (hd:n<=d) :
  ∀(fs:List Field) (i:Nat) (x y:List DV) (b:Bool),(∀f∈fs,f.name≠"_") ->
   (∀j f,fs[j]? = some f->f.offset=((E.L tag).take (i+j)).sum/\∃q,P.info? f.type=some q/\(E.L tag)[i+j]? = some q.size/\q.size≠0) ->
   zBL (eqT E n) (fs.map (·.type)) x y=some b ->
   (∀j (h:j<x.length) (h':i+j<css.length),RD E.L S w x[j] css[i+j])->(∀j (h:j<y.length) (h':i+j<dss.length),RD E.L S w y[j] dss[i+j]) ->
   ∀w',(Op.eqFields d xs ys fs).run P w'=.ok b w'
 | [],i,x,y,b,_,_,h,_,_,w'=>by
  cases x <;> cases y <;> simp[zBL] at h
  subst h;simp[Op.eqFields]
 | f :: fs,i,x,y,b,hn,ho,h,h1,h2,w'=>by
  cases x with
  | nil=>cases y <;> simp[zBL] at h
  | cons x xs' =>
   cases y with
   | nil=>simp[zBL] at h
   | cons y ys' =>
    simp only[List.map_cons,zBL] at h;obtain⟨a,ha,h⟩:=zA h;obtain⟨c,hc,h⟩:=zA h;simp at h;obtain⟨hoff,q,hq,hsz,hq0⟩:=ho 0 f rfl;obtain⟨td,ht,hax,hay⟩:=zDK hD ha;obtain⟨iq,_,hiq,hsq,_⟩:=ht.info;have hqs:q.size=td.size:=by rw[hq] at hiq;cases hiq;exact hsq
    have hlx:(css.map (·.length))[i]? = some td.size:=by rw[hzx,<-hqs];simpa using hsz
    have hly:(dss.map (·.length))[i]? = some td.size:=by rw[hzy,<-hqs];simpa using hsz
    have hix:i<css.length:=by
     rcases Nat.lt_or_ge i css.length with h | h
     ·exact h
     ·rw[List.getElem?_eq_none (by simpa using h)] at hlx;cases hlx
    have hiy:i<dss.length:=by
     rcases Nat.lt_or_ge i dss.length with h | h
     ·exact h
     ·rw[List.getElem?_eq_none (by simpa using h)] at hly;cases hly
    have hcx:css[i].length=td.size:=by simpa[hix] using hlx
    have hcy:dss[i].length=td.size:=by simpa[hiy] using hly
    have rx:RD E.L S w x css[i]:=h1 0 (by simp) (by simpa using hix)
    have ry:RD E.L S w y dss[i]:=h2 0 (by simp) (by simpa using hiy)
    have px:=QQ ht xs f.offset css[i] (by rw[hx,hoff,<-hcx,Nat.add_zero,<-hzx];exact JD css i hix) hcx ht.one
    have py:=QQ ht ys f.offset dss[i] (by rw[hy,hoff,<-hcy,Nat.add_zero,<-hzy];exact JD dss i hiy) hcy ht.one
    have pe:=ih f.type x y a S w _ _ ha (RV.ofCells rx) (RV.ofCells ry) d hd;have hrest:=zAb hD ih xs ys tag css dss hx hy hzx hzy d hd fs (i+1) xs' ys' c (λg hg=>hn g (by simp[hg]))
     (λj g hj=>by have:=ho (j+1) g (by simpa using hj);simpa[Nat.add_assoc,Nat.add_comm 1 j] using this) hc
     (λj hj hj'=>by have:=h1 (j+1) (by simpa using hj) (by omega);simpa[Nat.add_assoc,Nat.add_comm 1 j] using this)
     (λj hj hj'=>by have:=h2 (j+1) (by simpa using hj) (by omega);simpa[Nat.add_assoc,Nat.add_comm 1 j] using this)
    rw[hax] at px;rw[hay] at py;simp only[Op.eqFields,hn f (by simp),ne_eq,not_false_eq_true,if_true,Sem.run_bind,px,py,pe,Result.andThen_ok]
    subst h;cases a with
    | false=>simp
    | true=>simpa using hrest w'
theorem zBM{n:Nat}(hD:DOK P E)(ih:zIN P E (eqT E n) n)(xs ys:Array Value)(tag:Nat)(css dss:List (List Value))(hx:xs.toList=css.flatten)(hy:ys.toList=dss.flatten)
  (e:TypeId) (m sz:Nat) (hL:E.L tag=List.replicate m sz) (hzx:css.map (·.length)=E.L tag) (hzy:dss.map (·.length)=E.L tag) (d:Nat) (hd:n<=d) (hsz:∃q,P.info? e=some q/\q.size=sz) :
  ∀(k i:Nat) (x y:List DV) (b:Bool),i+k=m ->
   zBL (eqT E n) (List.replicate k e) x y=some b ->
   (∀j (h:j<x.length) (h':i+j<css.length),RD E.L S w x[j] css[i+j])->(∀j (h:j<y.length) (h':i+j<dss.length),RD E.L S w y[j] dss[i+j]) ->
   ∀w',(Op.eqItems d e sz xs ys (List.range' i k)).run P w'=.ok b w'
 | 0,i,x,y,b,_,h,_,_,w'=>by
  cases x <;> cases y <;> simp[zBL] at h
  subst h;simp[Op.eqItems]
 | k+1,i,x,y,b,hk,h,h1,h2,w'=>by
  cases x with
  | nil=>cases y <;> simp[zBL,List.replicate_succ] at h
  | cons x xs' =>
   cases y with
   | nil=>simp[zBL,List.replicate_succ] at h
   | cons y ys' =>
    simp only[List.replicate_succ,zBL] at h;obtain⟨a,ha,h⟩:=zA h;obtain⟨c,hc,h⟩:=zA h;simp at h;obtain⟨q,hq,hqz⟩:=hsz;obtain⟨td,ht,hax,hay⟩:=zDK hD ha;obtain⟨iq,_,hiq,hsq,_⟩:=ht.info;have hqs:sz=td.size:=by rw[hq] at hiq;cases hiq;rw[<-hqz];exact hsq
    have hlen:css.length=m:=by have:=congrArg List.length hzx;simpa[hL] using this
    have hlen':dss.length=m:=by have:=congrArg List.length hzy;simpa[hL] using this
    have hix:i<css.length:=by omega
    have hiy:i<dss.length:=by omega
    have hcx:css[i].length=td.size:=by
     have:(css.map (·.length))[i]'(by simpa using hix)=sz:=by simp only[hzx,hL,List.getElem_replicate]
     simpa[hqs] using this
    have hcy:dss[i].length=td.size:=by
     have:(dss.map (·.length))[i]'(by simpa using hiy)=sz:=by simp only[hzy,hL,List.getElem_replicate]
     simpa[hqs] using this
    have hoff:i * sz=((E.L tag).take i).sum:=by rw[hL,List.take_replicate,List.sum_replicate_nat,Nat.min_eq_left (by omega)]
    have rx:RD E.L S w x css[i]:=h1 0 (by simp) (by simpa using hix)
    have ry:RD E.L S w y dss[i]:=h2 0 (by simp) (by simpa using hiy)
    have px:=QQ ht xs (i * sz) css[i] (by rw[hx,hoff,<-hcx,<-hzx];exact JD css i hix) hcx ht.one
    have py:=QQ ht ys (i * sz) dss[i] (by rw[hy,hoff,<-hcy,<-hzy];exact JD dss i hiy) hcy ht.one
    have pe:=ih e x y a S w _ _ ha (RV.ofCells rx) (RV.ofCells ry) d hd;have hrest:=zBM hD ih xs ys tag css dss hx hy e m sz hL hzx hzy d hd ⟨q,hq,hqz⟩ k (i+1) xs' ys' c (by omega) hc
     (λj hj hj'=>by have:=h1 (j+1) (by simpa using hj) (by omega);simpa[Nat.add_assoc,Nat.add_comm 1 j] using this)
     (λj hj hj'=>by have:=h2 (j+1) (by simpa using hj) (by omega);simpa[Nat.add_assoc,Nat.add_comm 1 j] using this)
    rw[hax] at px;rw[hay] at py;simp only[List.range'_succ,Op.eqItems,Sem.run_bind,px,py,pe,Result.andThen_ok];subst h;cases a with
    | false=>simp
    | true=>simpa using hrest w'
theorem RD.aggParts{t:Nat}{fs:List DV}{cs:List Value}(h:RD E.L S w (.agg t fs) cs):∃css:List (List Value),cs=css.flatten/\css.length=fs.length /\
  (∀i (h:i<fs.length) (h':i<css.length),RD E.L S w fs[i] css[i])/\css.map (·.length)=E.L t:=by
 cases h with
 | agg _ _ css hl h hz=>exact⟨css,rfl,hl,h,hz⟩
theorem zDJ(hD:DOK P E):∀n,zIN P E (eqT E n) n
 | 0=>λt x y b S w u v h=>by simp[eqT] at h
 | n+1=>λt x y b S w u v h hu hv d hd w'=>by
  have ih:=zDJ hD n;obtain⟨d,rfl⟩:∃k,d=k+1:=⟨d - 1,by omega⟩
  have hnd:n<=d:=by omega
  simp only[eqT] at h;obtain⟨td,htd,h⟩:=zA h;have ht:=hD t td htd;have scal:zm (ji td x && ji td y) (jy x y)=some b->(Op.equalIn (d+1) t u v).run P w'=.ok b w':=by
   intro h;obtain⟨h1,h⟩:=zE h;simp at h1;rcases Yb ht h1.1 hu with ⟨k,m,rfl,rfl,hk⟩ | ⟨s,rfl,rfl,hk⟩ | ⟨c,rfl,rfl,hk⟩
   ·rcases Yb ht h1.2 hv with ⟨k',m',rfl,rfl,hk'⟩ | ⟨s',rfl,rfl,hk'⟩ | ⟨c',rfl,rfl,hk'⟩
    ·rw[hk] at hk';cases hk';simp[jy] at h;subst h;exact run_equalIn_int w' d t k k m m' hk
    ·rw[hk] at hk';cases hk'
    ·rw[hk] at hk';cases hk'
   ·rcases Yb ht h1.2 hv with ⟨k',m',rfl,rfl,hk'⟩ | ⟨s',rfl,rfl,hk'⟩ | ⟨c',rfl,rfl,hk'⟩
    ·rw[hk] at hk';cases hk'
    ·simp[jy] at h;subst h;exact run_equalIn_string w' d t s s' hk
    ·rw[hk] at hk';cases hk'
   ·rcases Yb ht h1.2 hv with ⟨k',m',rfl,rfl,hk'⟩ | ⟨s',rfl,rfl,hk'⟩ | ⟨c',rfl,rfl,hk'⟩
    ·rw[hk] at hk';cases hk'
    ·rw[hk] at hk';cases hk'
    ·simp[jy] at h;subst h;exact run_equalIn_bool w' d t c c' hk
  have hdsc:=ht.desc;split at h
  ·exact scal h
  ·exact scal h
  ·exact scal h
  ·rename_i tag hk;obtain⟨heq,h⟩:=zE h;split at h
   ·rename_i u' xs v' ys;split at h
    ·rename_i huv;obtain⟨rfl,rfl⟩:=huv;obtain⟨cs,rfl,hx⟩:=hu.agg;obtain⟨ds,rfl,hy⟩:=hv.agg;obtain⟨css,e1,hl1,hr1,hz1⟩:=hx.aggParts;obtain⟨dss,e2,hl2,hr2,hz2⟩:=hy.aggParts;obtain⟨_,hst,hnm⟩:=ht.eq heq;simp only[hk,Dsc] at hdsc hnm;obtain⟨fs,hfs,hfl,hfz,hfo⟩:=hdsc;have hff:P.fieldsOf t=fs:=by simp[Program.fieldsOf,hfs]
     rw[run_equalIn_struct w' d t cs ds (by rw[hff];exact hfs) hst,hff]
     refine zAb (S:=S) (w:=w) hD ih cs ds _ css dss e1 e2 hz1 hz2 d hnd fs.toList 0 _ _ b (λf hf=>hnm f (by rw[hff];simpa using hf)) ?_ (by rw[hfl];exact h) ?_ ?_ w'
     ·intro j f hj;have:=hfo j f (by simpa using hj)
      simpa using this
     ·intro j h h';simpa using hr1 j h (by simpa using h')
     ·intro j h h';simpa using hr2 j h (by simpa using h')
    ·simp at h
   ·simp at h
  ·rename_i tag m e hk;split at h
   ·rename_i u' xs v' ys;split at h
    ·rename_i huv;obtain⟨rfl,rfl⟩:=huv;obtain⟨cs,rfl,hx⟩:=hu.agg;obtain⟨ds,rfl,hy⟩:=hv.agg;obtain⟨css,e1,hl1,hr1,hz1⟩:=hx.aggParts;obtain⟨dss,e2,hl2,hr2,hz2⟩:=hy.aggParts;simp only[hk,Dsc] at hdsc;obtain⟨hu,j,hj,hL⟩:=hdsc;rw[run_equalIn_array w' d cs ds hu hj,List.range_eq_range',Program.cellsOf,hj];refine zBM (S:=S) (w:=w) hD ih cs ds _ css dss e1 e2 e m j.size hL hz1 hz2 d hnd ⟨j,hj,rfl⟩ m 0 _ _ b (by simp) h ?_ ?_ w'
     ·intro j h h';simpa using hr1 j h (by simpa using h')
     ·intro j h h';simpa using hr2 j h (by simpa using h')
    ·simp at h
   ·simp at h
  ·simp at h
end
end Go.Am
namespace Go.Am
open Go.Proofs
open Go Go.RowKit
section
variable{P:Program}{E:Env}{S:Nat->Prop}{φ:Nat->Option Nat}{w:World}
theorem zB8:∀(v:List Value) (k off:Nat) (cells:Array Value),off+k+v.length<=cells.size ->
  ((v.zipIdx k).foldl (λcs (p:Value×Nat)=>cs.setIfInBounds (off+p.2) p.1) cells).toList=cells.toList.take (off+k)++v++cells.toList.drop (off+k+v.length)
 | [],k,off,cells,_=>by simp
 | c :: v,k,off,cells,h=>by
  simp only[List.length_cons] at h;rw[List.zipIdx_cons,List.foldl_cons,zB8 v (k+1) off _ (by simp;omega)]
  have hk:off+k<cells.toList.length:=by simp;omega
  rw[Array.toList_setIfInBounds,List.drop_set_of_lt (by simp;omega),<-Nat.add_assoc]
  have h1:(cells.toList.set (off+k) c).take (off+k+1)=cells.toList.take (off+k)++[c]:=by
   rw[List.set_eq_take_append_cons_drop,if_pos hk,List.take_append,List.take_of_length_le (by simp;omega)]
   have:off+k+1 - (List.take (off+k) cells.toList).length=1:=by rw[List.length_take];omega
   rw[this];simp
  rw[h1];simp only[List.length_cons,List.append_assoc,List.cons_append,List.nil_append];rw[show off+k+1+v.length=off+k+(v.length+1) from by omega]
theorem zAh{α:Type}(c:List α):∀(css:List (List α)) (i:Nat) (h:i<css.length),
  (css.set i c).flatten=css.flatten.take ((css.map (·.length)).take i).sum++c++css.flatten.drop (((css.map (·.length)).take i).sum+css[i].length)
 | [],i,h=>by simp at h
 | d :: css,0,_=>by simp
 | d :: css,i+1,h=>by
  have ih:=zAh c css i (by simpa using h)
  simp only[List.set_cons_succ,List.flatten_cons,List.map_cons,List.take_succ_cons,List.sum_cons,List.getElem_cons_succ,ih];rw[List.take_length_add_append,Nat.add_assoc,List.drop_length_add_append];simp[List.append_assoc]
def zBR(L:Nat->List Nat)(S:Nat->Prop)(φ:Nat->Option Nat)(w:World):List (Nat×AV)->List (Nat×Value)->Prop
 | [],[]=>True
 | (i,v) :: r,(j,u) :: s=>i=j/\RAV L S φ w v u/\zBR L S φ w r s
 | _,_=>False
theorem zBo(sizes:List Nat)(place:Nat->Option (Nat×Nat))(hp:∀i (h:i<sizes.length),place i=some ((sizes.take i).sum,sizes[i])) :
  ∀(ps:List (Nat×AV)) (us:List (Nat×Value)) (vs vs':List AV) (css:List (List Value)) (cells:Array Value),
   fill E.L sizes ps vs=some vs'->zBR E.L S φ w ps us->css.length=vs.length->(∀i (h:i<vs.length) (h':i<css.length),RA E.L S φ w vs[i] css[i]) ->
   css.map (·.length)=sizes->cells.toList=css.flatten ->
   ∃(cells':Array Value) (css':List (List Value)),Instr.fill place cells us=some cells'/\css'.length=vs'.length/\(∀i (h:i<vs'.length) (h':i<css'.length),RA E.L S φ w vs'[i] css'[i]) /\
    css'.map (·.length)=sizes/\cells'.toList=css'.flatten/\vs'.length=vs.length
 | [],us,vs,vs',css,cells,h,hu,hl,hr,hz,hc=>by
  cases us with
  | cons _ _=>exact hu.elim
  | nil =>
   simp[fill] at h;subst h;exact⟨cells,css,rfl,hl,hr,hz,hc,rfl⟩
 | (i,v) :: ps,us,vs,vs',css,cells,h,hu,hl,hr,hz,hc=>by
  cases us with
  | nil=>exact hu.elim
  | cons p us =>
   obtain⟨j,u⟩:=p;obtain⟨rfl,hvu,hu⟩:=hu;simp only[fill] at h;split at h
   case isFalse=>simp at h
   rename_i hcond;obtain⟨hi,hn,hst⟩:=hcond;obtain⟨hra,hag⟩:=hvu.cells hst;have hv:v≠.undef:=by rintro rfl;simp[stores] at hst
   have hln:=hra.len hv;have hic:i<css.length:=by omega
   have his:i<sizes.length:=by rw[<-hz];simpa using hic
   have hsi:sizes[i]=css[i].length:=by simp only[<-hz,List.getElem_map]
   have hvl:(vcs u).length=css[i].length:=by rw[hln,hn,<-hsi];simp[his]
   have hb:=zBI css i hic;have hsz:cells.size=css.flatten.length:=by rw[<-hc];simp
   have e0:(sizes.take i).sum=((css.map (·.length)).take i).sum:=by rw[hz]
   have hus:u.cells.size=css[i].length:=by rw[<-hvl];simp[vcs]
   have hfold:((u.cells.zipIdx.foldl (λ(cs:Array Value) (x:Value×Nat)=>cs.setIfInBounds ((sizes.take i).sum+x.2) x.1) cells)).toList=(css.set i (vcs u)).flatten:=by
    rw[zAh (vcs u) css i hic,<-hc,<-e0,<-Array.foldl_toList,Array.toList_zipIdx];have:=zB8 (vcs u) 0 ((sizes.take i).sum) cells (by rw[hvl,e0];omega)
    simp only[Nat.add_zero] at this;rw[<-hvl];exact this
   have hstep:Instr.fill place cells ((i,u) :: us)=Instr.fill place (u.cells.zipIdx.foldl (λ(cs:Array Value) (x:Value×Nat)=>cs.setIfInBounds ((sizes.take i).sum+x.2) x.1) cells) us:=by simp only[Instr.fill,hp i his];rw[if_neg];simp only[ne_eq,Bool.or_eq_true,decide_eq_true_eq,not_or,Decidable.not_not];refine⟨by rw[hus,hsi],by omega⟩
   rw[hstep];have hrec:=zBo sizes place hp ps us (vs.set i v) vs' (css.set i (vcs u)) _ h hu (by simp[hl]) (λk h1 h2=>by
     simp only[List.length_set] at h1 h2;by_cases hk:i=k
     ·subst hk;simpa using hra
     ·simp only[List.getElem_set,if_neg hk];exact hr k h1 h2)
    (by
     rw[<-hz];apply List.ext_getElem
     ·simp
     ·intro k h1 h2;simp only[List.getElem_map,List.getElem_set];split
      ·rename_i e;subst e;exact hvl
      ·rfl) hfold
   simpa using hrec
theorem zA4{vs:List AV}{ds:List DV}(h:allD vs=some ds):vs=ds.map .d:=by
 induction vs generalizing ds with
 | nil=>simp[allD] at h;subst h;rfl
 | cons v r ih =>
  cases v <;> simp only[allD] at h <;> try (simp at h;done)
  split at h
  ·rename_i x xs hx;simp at h;subst h;simp[ih hx]
  ·simp at h
theorem zDg{tag:Nat}{fs:List AV}{css:List (List Value)}(hl:css.length=fs.length)(h:∀i (h:i<fs.length) (h':i<css.length),RA E.L S φ w fs[i] css[i])
  (hz:css.map (·.length)=E.L tag):RA E.L S φ w (zGl tag fs) css.flatten/\(zGl tag fs).isAgg=true:=by
 unfold zGl;split
 ·rename_i ds hd;have e:=zA4 hd;subst e;refine⟨.d _ _ (.agg tag ds css (by simpa using hl) (λi h1 h2=>?_) hz),rfl⟩
  have:=h i (by simpa using h1) h2
  simp only[List.getElem_map] at this;cases this with
  | d _ _ h=>exact h
 ·exact⟨.agg tag fs css hl h hz,rfl⟩
theorem RAV.mkAgg'{v:AV}{cs:Array Value}(h:RA E.L S φ w v cs.toList)(hv:v.isAgg=true):RAV E.L S φ w v (.agg cs) :=
 RAV.of (u:=.agg cs) h (.inr (by rw[hv];rfl))
theorem qm{tm:List AV}{a:Act}(he:∀x v,evO E tm x=some v->RAV E.L S φ w v (a.eval x)) :
  ∀(ps:List (Nat×Operand)) (vs:List (Nat×AV)),JO E tm ps=some vs->zBR E.L S φ w vs (ps.map λ(i,x)=>(i,a.eval x))
 | [],vs,h=>by simp[JO] at h;subst h;trivial
 | (i,o) :: r,vs,h=>by simp only[JO] at h;obtain⟨v,hv,h⟩:=zA h;obtain⟨vs',hvs,h⟩:=zA h;simp at h;subst h;exact⟨rfl,he o v hv,qm he r vs' hvs⟩
theorem zHK{tm:List AV}{a:Act}(he:∀x v,evO E tm x=some v->RAV E.L S φ w v (a.eval x)) :
  ∀(ps:List Operand) (vs:List AV),evL E tm ps=some vs->vs.length=ps.length/\∀i (h:i<vs.length) (h':i<ps.length),RAV E.L S φ w vs[i] (a.eval ps[i])
 | [],vs,h=>by simp[evL] at h;subst h;exact⟨rfl,λi h=>by simp at h⟩
 | o :: r,vs,h=>by
  simp only[evL] at h;obtain⟨v,hv,h⟩:=zA h;obtain⟨vs',hvs,h⟩:=zA h;simp at h;subst h;obtain⟨hl,hr⟩:=zHK he r vs' hvs;refine⟨by simp[hl],λi h1 h2=>?_⟩
  cases i with
  | zero=>exact he o v hv
  | succ i=>exact hr i (by simpa using h1) (by simpa using h2)
theorem zCD{t:TypeId}{td:TD}(ht:TOK P E t td){tag:Nat}{ps:List (Nat×AV)}{us:List (Nat×Value)}{ef:Eff}(h:Qg E tag td.zero ps=some ef)(hu:zBR E.L S φ w ps us)
  (place:Nat->Option (Nat×Nat)) (hp:∀i (h:i<(E.L tag).length),place i=some (((E.L tag).take i).sum,(E.L tag)[i])) :
  ∃v i z u,ef={ v }/\P.info? t=some i/\i.zero=some z/\Instr.fill place z.cells us=some u/\RAV E.L S φ w v (.agg u):=by
 unfold Qg at h;split at h
 case h_2=>simp at h
 rename_i t' zs hzero;split at h
 case isFalse=>simp at h
 rename_i e;subst e;obtain⟨fs,hfs,h⟩:=zA h;simp[zc] at h;subst h;obtain⟨i,z,hi,_,_,hz,hzr⟩:=ht.info;obtain⟨cs,rfl,hrd⟩:=(hzero ▸ hzr S w:RV E.L S w (.agg t' zs) z).agg;obtain⟨css,hcs,hl,hr,hsz⟩:=hrd.aggParts;have hra:∀i (h:i<(zs.map AV.d).length) (h':i<css.length),RA E.L S φ w (zs.map AV.d)[i] css[i]:=λk h1 h2=>by simp only[List.getElem_map];exact .d _ _ (hr k (by simpa using h1) h2)
 obtain⟨cells',css',h1,h2,h3,h4,h5,h6⟩:=zBo (E.L t') place hp ps us _ fs css cs hfs hu (by simpa using hl) hra hsz hcs
 obtain⟨hm,hma⟩:=zDg h2 h3 h4;exact⟨_,i,_,cells',rfl,hi,hz,h1,RAV.mkAgg' (by rw[h5];exact hm) hma⟩
theorem zH0(hD:DOK P E){t:TypeId}{ps:List (Nat×AV)}{us:List (Nat×Value)}{ef:Eff}(h:zAQ E t ps=some ef)(hu:zBR E.L S φ w ps us) :
  ∃v u,ef={ v }/\P.built t us=some u/\RAV E.L S φ w v (.agg u):=by
 unfold zAQ at h;obtain⟨td,htd,h⟩:=zA h;have ht:=hD t td htd;have hdsc:=ht.desc;split at h
 ·rename_i tag hk;simp only[hk,Dsc] at hdsc;obtain⟨fields,hf,_,hfn,hfo⟩:=hdsc;have hmap:∀(fs:List Field) (k:Nat),(∀j f,fs[j]? = some f->fields[k+j]? = some f) ->
    fs.mapM (λf=>(P.info? f.type).map λi=>(f.offset,i.size))=some ((List.range' k fs.length).map λj=>(((E.L tag).take j).sum,(E.L tag).getD j 0)):=by
   intro fs;induction fs with
   | nil=>intro k _;simp
   | cons f fs ih =>
    intro k hj;obtain⟨ho,q,hq,hq2,_⟩:=hfo k f (hj 0 f rfl);have ih':=ih (k+1) (λj g hg=>by have:=hj (j+1) g (by simpa using hg);simpa[Nat.add_assoc,Nat.add_comm 1 j] using this)
    simp[List.mapM_cons,hq,ih',List.range'_succ,ho,hq2]
  have hm:=hmap fields.toList 0 (λj f hj=>by simpa using hj)
  obtain⟨v,i,z,u,rfl,hi,hz,hfill,hv⟩:=zCD ht h hu (((List.range' 0 fields.toList.length).map λj=>(((E.L tag).take j).sum,(E.L tag).getD j 0)).toArray[·]?) (λi hi=>by
   simp[hfn,hi])
  refine⟨v,u,rfl,?_,hv⟩;simp only[Program.built,hi,hf,hz,hm];exact hfill
 ·rename_i tag n e hk;simp only[hk,Dsc] at hdsc;obtain⟨hu',j,hj,hL⟩:=hdsc;obtain⟨v,i,z,u,rfl,hi,hz,hfill,hv⟩:=zCD ht h hu (λi=>some (i * j.size,j.size)) (λi hi=>by
   rw[hL] at hi;simp only[List.length_replicate] at hi;simp only[hL,List.take_replicate,List.sum_replicate_nat,List.getElem_replicate,Nat.min_eq_left (Nat.le_of_lt hi)])
  refine⟨v,u,rfl,?_,hv⟩;simp only[Program.built,hi,hu',hz,hj];exact hfill
 ·simp at h
end
end Go.Am
namespace Go.Am
open Go.Proofs
open Go Go.RowKit
section
variable{P:Program}{E:Env}{S:Nat->Prop}{φ:Nat->Option Nat}{w:World}
theorem zBl{tag i:Nat}{v x:AV}{cs:List Value}(h:zBm tag i v=some x)(hr:RA E.L S φ w v cs) :
  ∃(css:List (List Value)) (h':i<css.length),cs=css.flatten/\css.map (·.length)=E.L tag/\RA E.L S φ w x css[i]:=by
 unfold zBm at h;split at h
 ·rename_i t fs;split at h
  case isFalse=>simp at h
  rename_i e;subst e;split at h
  case h_2=>simp at h
  rename_i y hy;simp at h;subst h;cases hr with
  | d _ _ hr =>
   obtain⟨css,rfl,hl,hp,hz⟩:=hr.aggParts;obtain⟨hi,rfl⟩:=List.getElem?_eq_some_iff.1 hy;exact⟨css,by omega,rfl,hz,.d _ _ (hp i hi (by omega))⟩
 ·rename_i t fs;split at h
  case isFalse=>simp at h
  rename_i e;subst e;cases hr with
  | agg _ _ css hl hp hz =>
   obtain⟨hi,rfl⟩:=List.getElem?_eq_some_iff.1 h;exact⟨css,by omega,rfl,hz,hp i hi (by omega)⟩
 ·simp at h
theorem zJo{tag i:Nat}{v x:AV}(h:zBm tag i v=some x):v.isAgg=true/\stores v=true:=by
 unfold zBm at h;split at h
 ·exact⟨rfl,rfl⟩
 ·exact⟨rfl,rfl⟩
 ·simp at h
theorem JH{α:Type}{sz:Nat}:∀(css:List (List α)),(∀c∈css,c.length=sz)->∀i (h:i<css.length) j,j<sz->css.flatten[i * sz+j]? = css[i][j]?
 | [],_,i,h,_,_=>by simp at h
 | c :: css,hz,0,_,j,hj=>by
  have:=hz c (by simp)
  simp[List.getElem?_append_left,this,hj]
 | c :: css,hz,i+1,h,j,hj=>by
  have hc:=hz c (by simp)
  have ih:=JH css (λd hd=>hz d (by simp[hd])) i (by simpa using h) j hj
  rw[List.flatten_cons,List.getElem?_append_right (by rw[hc,Nat.succ_mul];omega),hc,show(i+1) * sz+j - sz=i * sz+j from by rw[Nat.succ_mul];omega,ih]
  simp
theorem qI{α:Type}:∀(css:List (List α)) (i:Nat) (h:i<css.length) (j:Nat),j<css[i].length->css.flatten[((css.map (·.length)).take i).sum+j]? = css[i][j]?
 | [],i,h,_,_=>by simp at h
 | c :: css,0,_,j,hj=>by simp at hj;simp[List.getElem?_append_left,hj]
 | c :: css,i+1,h,j,hj=>by
  have ih:=qI css i (by simpa using h) j (by simpa using hj)
  simp only[List.map_cons,List.take_succ_cons,List.sum_cons,List.flatten_cons,List.getElem_cons_succ];rw[List.getElem?_append_right (by omega),show c.length+((css.map (·.length)).take i).sum+j - c.length=((css.map (·.length)).take i).sum+j from by omega,ih]
theorem zDe(L:Nat->List Nat)(p q:List (Nat×Nat)):Yo L (p++q)=Yo L p+Yo L q:=by
 induction p with
 | nil=>simp[Yo]
 | cons x p ih=>obtain⟨t,i⟩:=x;simp[Yo,ih];omega
theorem RV.dp{x:DV}{v:Value}(h:RV E.L S w (.dp x) v):∃ad cs,v=.pointer (some ad)/\ad.spot=none/\S ad.block/\(∀j u,cs[j]? = some u->w.cell? (ad.add j)=some u)/\RD E.L S w x cs:=by
 obtain⟨h,ha⟩:=h;rw[z6 ha] at h;cases h with
 | dp _ ad cs h1 h2 h3 h4 _=>exact⟨ad,cs,rfl,h1,h2,h3,h4⟩
theorem RAV.one{v:AV}{u:Value}(h:RAV E.L S φ w v u)(hs:stores v=true)(ha:v.isAgg=false):RA E.L S φ w v [u]:=by
 obtain⟨h1,h2⟩:=h.cells hs;rw[ha] at h2
 rwa [z6 h2] at h1
theorem RAV.ptr{b sz e:Nat}{p:List (Nat×Nat)}{u:Value}(h:RAV E.L S φ w (.ptr b sz e p) u):∃cb,u=.pointer (some ⟨cb,e * sz+Yo E.L p,none⟩)/\φ b=some cb:=by
 have h:=RAV.one (v:=.ptr b sz e p) h rfl rfl;cases h with
 | ptr _ _ _ _ cb hb=>exact⟨cb,rfl,hb⟩
theorem RAV.mkPtr{b sz e:Nat}{p:List (Nat×Nat)}{cb o:Nat}(hb:φ b=some cb)(ho:o=e * sz+Yo E.L p):RAV E.L S φ w (.ptr b sz e p) (.pointer (some ⟨cb,o,none⟩)):=by subst ho;exact⟨.ptr b sz e p cb hb,rfl⟩
theorem RV.mkDp{x:DV}{ad:Addr}{cs:List Value}(hs:ad.spot=none)(hS:S ad.block)(hm:∀j u,cs[j]? = some u->w.cell? (ad.add j)=some u)(h:RD E.L S w x cs) :
  RV E.L S w (.dp x) (.pointer (some ad)):=⟨.dp x ad cs hs hS hm h h.notTup,rfl⟩
def zAS(P:Program)(E:Env)(S:Nat->Prop)(φ:Nat->Option Nat)(w:World)(s:Sem Value)(ef:Eff):Prop :=
 ∃v u,ef={ v }/\(∀w',s.run P w'=.ok u w')/\RAV E.L S φ w v u
theorem structF{t:TypeId}{td:TD}{tag:Nat}(ht:TOK P E t td)(hk:td.k=.struct tag):∃fs:Array Field,P.underlying t=some (.struct fs)/\fs.toList.map (·.type)=E.flds t/\fs.size=(E.L tag).length /\
  ∀i f,fs[i]? = some f->f.offset=((E.L tag).take i).sum/\∃j,P.info? f.type=some j/\(E.L tag)[i]? = some j.size/\j.size≠0:=by
 have h:=ht.desc;simp only[hk,Dsc] at h;exact h
theorem zHw(hD:DOK P E){t:TypeId}{x:AV}{i:Nat}{ef:Eff}(h:zBK E t x i=some ef){u:Value}(hu:RAV E.L S φ w x u):zAS P E S φ w (Instr.field t u i) ef:=by
 unfold zBK at h;obtain⟨td,htd,h⟩:=zA h;have ht:=hD t td htd;split at h
 case h_2=>simp at h
 rename_i tag hk;obtain⟨ft,hft,h⟩:=zA h;obtain⟨fd,hfd,h⟩:=zA h;obtain⟨v,hv,h⟩:=zA h;obtain⟨hfit,h⟩:=zE h;simp[zc] at h;subst h;obtain⟨fs,hfs,hfl,hfn,hfo⟩:=structF ht hk;obtain⟨hag,hst⟩:=zJo hv;obtain⟨hra,hau⟩:=hu.cells hst;rw[hag] at hau;obtain⟨cs,rfl⟩:=zGe hau;obtain⟨css,hi,hcs,hz,hr⟩:=zBl hv hra;have hif:i<fs.size:=by have:=congrArg List.length hz;simp at this;omega
 obtain⟨ho,j,hj,hj2,_⟩:=hfo i fs[i] (by simp[hif])
 have hty:fs[i].type=ft:=by rw[<-hfl] at hft;simp[hif] at hft;exact hft
 have hf:=hD ft fd hfd;obtain⟨iq,_,hiq,hsq,_⟩:=hf.info;have hsz:css[i].length=fd.size:=by
  have h1:(css.map (·.length))[i]? = some css[i].length:=by simp[hi]
  rw[hz,hj2] at h1;rw[hty] at hj;rw[hj] at hiq;cases hiq;rw[<-hsq];simpa using h1.symm
 have hpart:=λw'=>QQ (P:=P) hf cs fs[i].offset css[i] (by
  have:cs.toList=css.flatten:=hcs;rw[this,ho,<-hsz,<-hz];exact JD css i hi) hsz hf.one w'
 obtain⟨_,hka,_⟩:=jP hf hfit;rw[hka] at hpart;refine⟨v,_,rfl,λw'=>?_,RAV.ofCells hr⟩
 unfold Instr.field;simp only[Sem.run_bind,run_underlying hfs,Result.andThen_ok,asAgg,Sem.run_pure];simp only[Array.getElem?_eq_getElem hif,Sem.run_bind,Sem.run_pure,Result.andThen_ok,hty];exact hpart w'
theorem zCq(hD:DOK P E){t:TypeId}{x:AV}{i:Nat}{ef:Eff}(h:jm E t x i=some ef){u:Value}(hu:RAV E.L S φ w x u):zAS P E S φ w (Instr.fieldAt t u i) ef:=by
 unfold jm at h;obtain⟨td,htd,h⟩:=zA h;have ht:=hD t td htd;split at h
 case h_2=>simp at h
 rename_i tag hk;obtain⟨fs,hfs,hfl,hfn,hfo⟩:=structF ht hk;have hrun:∀(hi:i<fs.size) (a:Addr) (w':World),(Instr.fieldAt t (.pointer (some a)) i).run P w'=.ok (.pointer (some (a.add ((E.L tag).take i).sum))) w':=by
  intro hi a w';obtain⟨ho,j,hj,hj2,hj0⟩:=hfo i fs[i] (by simp[hi])
  unfold Instr.fieldAt;simp only[Sem.run_bind,run_underlying hfs,Result.andThen_ok,Array.getElem?_eq_getElem hi,Instr.sureAddr,Sem.run_pure];simp[fieldPlace,sizeOf,typeInfo,hj,hj0,ho]
 split at h
 ·rename_i b sz e p;obtain⟨hi,h⟩:=zE h;simp at hi;simp[zc] at h;subst h;obtain⟨cb,rfl,hb⟩:=hu.ptr;refine⟨_,_,rfl,λw'=>hrun (by omega) _ w',?_⟩
  rw[jk rfl];exact RAV.mkPtr hb (by rw[zDe];simp[Yo];omega)
 ·rename_i u' fs';split at h
  case isFalse=>simp at h
  rename_i e;subst e;split at h
  case h_2=>simp at h
  rename_i y hy;simp[zc] at h;subst h;obtain⟨ad,cs,rfl,hsp,hS,hm,hr⟩:=RV.dp hu;obtain⟨css,rfl,hl,hp,hz⟩:=hr.aggParts;obtain⟨hi,rfl⟩:=List.getElem?_eq_some_iff.1 hy;have hi':i<css.length:=by omega
  have hif:i<fs.size:=by rw[hfn,<-hz];simpa using hi'
  refine⟨_,_,rfl,λw'=>hrun hif ad w',?_⟩
  refine RV.mkDp (cs:=css[i]) (zAu hsp _) (by rw[JU];exact hS) (λj u hj=>?_) (hp i hi hi')
  obtain⟨hj',_⟩:=List.getElem?_eq_some_iff.1 hj;rw[zCt hsp,<-hz];exact hm _ u (by rw[qI css i hi' j hj'];exact hj)
 ·simp at h
theorem QO{t:TypeId}{td:TD}{e:TypeId}(ht:TOK P E t td)(hk:td.k=.slice e):P.underlying t=some (.slice e):=by have h:=ht.desc;simp only[hk,Dsc] at h;exact h
theorem arrayT{t:TypeId}{td:TD}{tag n:Nat}{e:TypeId}(ht:TOK P E t td)(hk:td.k=.array tag n e):P.underlying t=some (.array n e)/\∃j,P.info? e=some j/\E.L tag=List.replicate n j.size:=by have h:=ht.desc;simp only[hk,Dsc] at h;exact h
theorem RV.sl{sz:Nat}{xs:List DV}{v:Value}(h:RV E.L S w (.sl sz xs) v):∃(a:Option Addr) (c:Nat) (css:List (List Value)),v=.slice a xs.length c/\xs.length<=c/\css.length=xs.length /\
  (∀i (h:i<xs.length) (h':i<css.length),RD E.L S w xs[i] css[i])/\(∀cs∈css,cs.length=sz) /\
  (0<xs.length->∃ad,a=some ad/\ad.spot=none/\S ad.block/\∀j u,css.flatten[j]? = some u->w.cell? (ad.add j)=some u):=by
 obtain⟨h,ha⟩:=h;rw[z6 ha] at h;cases h with
 | sl _ _ a n c css hn hc hl hp hz hm=>subst hn;exact⟨a,c,css,rfl,hc,hl,hp,hz,hm⟩
theorem RAV.own{b off len sz:Nat}{u:Value}(h:RAV E.L S φ w (.own b off len sz) u) :
  (∃cb c,φ b=some cb/\len<=c/\Room w cb ((off+c) * sz)/\u=.slice (some ⟨cb,off * sz,none⟩) len c)\/(∃a,len=0/\u=.slice a 0 0):=by
 have h:=RAV.one (v:=.own b off len sz) h rfl rfl;cases h with
 | own _ _ _ _ cb c hb hc hr=>exact .inl ⟨cb,c,hb,hc,hr,rfl⟩
 | own0 _ _ _ a=>exact .inr ⟨a,rfl,rfl⟩
theorem mem_len{sz:Nat}{css:List (List Value)}(hz:∀cs∈css,cs.length=sz){i:Nat}(h:i<css.length):css[i].length=sz:=hz _ (List.getElem_mem h)
theorem zCp(hD:DOK P E){t:TypeId}{x ix:AV}{ef:Eff}(h:jU E t x ix=some ef){u v:Value}(hu:RAV E.L S φ w x u)(hv:RAV E.L S φ w ix v) :
  zAS P E S φ w (Instr.indexAt t u v) ef:=by
 unfold jU at h;obtain⟨td,htd,h⟩:=zA h;have ht:=hD t td htd;obtain⟨i,hi,h⟩:=zA h;obtain⟨k,rfl,_⟩:=QL hi hv;split at h
 ·rename_i e hk;have hut:=QO ht hk;obtain⟨ed,hed,h⟩:=zA h;have he:=hD e ed hed;have hrun:∀(a:Addr) (n c:Nat) (w':World),0<=i->i<(n:Int)->(Instr.indexAt t (.slice (some a) n c) (.int k i)).run P w'=.ok (.pointer (some (a.add (i.toNat * ed.size)))) w':=by intro a n c w' h0 h1;unfold Instr.indexAt;simp only[asIntOf,Sem.run_bind,Sem.run_pure,Result.andThen_ok,run_underlying hut];simp[h0,h1,he.sizeOf]
  split at h
  ·rename_i sz xs;obtain⟨hg,h⟩:=zE h;simp at hg;obtain⟨hse,h0⟩:=hg;split at h
   case h_2=>simp at h
   rename_i y hy;simp[zc] at h;subst h;obtain⟨hix,rfl⟩:=List.getElem?_eq_some_iff.1 hy;obtain⟨a,c,css,rfl,hc,hl,hp,hz,hm⟩:=RV.sl hu;obtain⟨ad,rfl,hsp,hS,hcell⟩:=hm (by omega)
   have hic:i.toNat<css.length:=by omega
   refine⟨_,_,rfl,λw'=>hrun ad _ c w' h0 (by omega),?_⟩
   refine RV.mkDp (cs:=css[i.toNat]) (zAu hsp _) (by rw[JU];exact hS) (λj u hj=>?_) (hp _ hix hic)
   obtain⟨hj',_⟩:=List.getElem?_eq_some_iff.1 hj;rw[mem_len hz hic] at hj';rw[zCt hsp,<-hse];exact hcell _ u (by rw[JH css hz _ hic j hj'];exact hj)
  ·rename_i b off len sz;obtain⟨hg,h⟩:=zE h;simp at hg;obtain⟨hse,h0,h1⟩:=hg;simp[zc] at h;subst h;rcases hu.own with ⟨cb,c,hb,hc,hr,rfl⟩ | ⟨a,hl,rfl⟩
   ·refine⟨_,_,rfl,λw'=>hrun _ _ c w' h0 h1,?_⟩
    rw[jk rfl,<-hse];exact RAV.mkPtr hb (by simp[Yo,Nat.add_mul])
   ·omega
  ·simp at h
 ·rename_i tag n e hk;obtain⟨hut,j,hj,hL⟩:=arrayT ht hk;have hrun:∀(a:Addr) (w':World),0<=i->i<(n:Int)->(Instr.indexAt t (.pointer (some a)) (.int k i)).run P w'=.ok (.pointer (some (a.add (i.toNat * j.size)))) w':=by intro a w' h0 h1;unfold Instr.indexAt;simp only[asIntOf,Sem.run_bind,Sem.run_pure,Result.andThen_ok,run_underlying hut,Instr.sureAddr];simp[h0,h1,sizeOf,typeInfo,hj]
  have hsum:∀m:Nat,m<=n->((E.L tag).take m).sum=m * j.size:=λm hm=>by rw[hL,List.take_replicate,List.sum_replicate_nat,Nat.min_eq_left hm]
  split at h
  ·rename_i b sz e p;obtain⟨hg,h⟩:=zE h;simp at hg;simp[zc] at h;subst h;obtain⟨cb,rfl,hb⟩:=hu.ptr;refine⟨_,_,rfl,λw'=>hrun _ w' hg.1 hg.2,?_⟩
   rw[jk rfl];exact RAV.mkPtr hb (by rw[zDe];simp[Yo,hsum _ (show i.toNat<=n by omega)];omega)
  ·rename_i u' fs';split at h
   case isFalse=>simp at h
   rename_i e';subst e';obtain⟨hg,h⟩:=zE h;simp at hg;split at h
   case h_2=>simp at h
   rename_i y hy;simp[zc] at h;subst h;obtain⟨ad,cs,rfl,hsp,hS,hm,hr⟩:=RV.dp hu;obtain⟨css,rfl,hl,hp,hz⟩:=hr.aggParts;obtain⟨hi,rfl⟩:=List.getElem?_eq_some_iff.1 hy;have hi':i.toNat<css.length:=by omega
   have hn:css.length=n:=by have:=congrArg List.length hz;simpa[hL] using this
   refine⟨_,_,rfl,λw'=>hrun ad w' hg (by omega),?_⟩
   refine RV.mkDp (cs:=css[i.toNat]) (zAu hsp _) (by rw[JU];exact hS) (λq u hq=>?_) (hp _ hi hi')
   obtain⟨hq',_⟩:=List.getElem?_eq_some_iff.1 hq;rw[zCt hsp,<-hsum _ (show i.toNat<=n by omega),<-hz]
   exact hm _ u (by rw[qI css _ hi' q hq'];exact hq)
  ·simp at h
 ·simp at h
theorem zHv(hD:DOK P E){t:TypeId}{x ix:AV}{ef:Eff}(h:Y9 E t x ix=some ef){u v:Value}(hu:RAV E.L S φ w x u)(hv:RAV E.L S φ w ix v) :
  zAS P E S φ w (Instr.index t u v) ef:=by
 unfold Y9 at h;obtain⟨td,htd,h⟩:=zA h;have ht:=hD t td htd;obtain⟨i,hi,h⟩:=zA h;obtain⟨k,rfl,_⟩:=QL hi hv;obtain⟨h0,h⟩:=zE h;simp at h0;split at h
 ·rename_i tag n e hk;obtain⟨hut,j,hj,hL⟩:=arrayT ht hk;obtain⟨ed,hed,h⟩:=zA h;obtain⟨y,hy,h⟩:=zA h;obtain⟨hfit,h⟩:=zE h;simp[zc] at h;subst h;have he:=hD e ed hed;obtain⟨hag,hst⟩:=zJo hy;obtain⟨hra,hau⟩:=hu.cells hst;rw[hag] at hau;obtain⟨cs,rfl⟩:=zGe hau;obtain⟨css,hic,hcs,hz,hr⟩:=zBl hy hra;have hn:css.length=n:=by have:=congrArg List.length hz;simpa[hL] using this
  obtain⟨iq,_,hiq,hsq,_⟩:=he.info;rw[hj] at hiq;cases hiq;have hsz:css[i.toNat].length=ed.size:=by
   have h1:(css.map (·.length))[i.toNat]? = some css[i.toNat].length:=by simp[hic]
   rw[hz,hL,List.getElem?_replicate,if_pos (by omega)] at h1
   rw[<-hsq];simpa using h1.symm
  have hpart:=λw'=>QQ (P:=P) he cs (i.toNat * j.size) css[i.toNat] (by
   have e1:cs.toList=css.flatten:=hcs;have e2:i.toNat * j.size=((css.map (·.length)).take i.toNat).sum:=by rw[hz,hL,List.take_replicate,List.sum_replicate_nat,Nat.min_eq_left (by omega)]
   rw[e1,e2,<-hsz];exact JD css _ hic) hsz he.one w'
  obtain⟨_,hka,_⟩:=jP he hfit;rw[hka] at hpart;refine⟨y,_,rfl,λw'=>?_,RAV.ofCells hr⟩
  unfold Instr.index;simp only[asIntOf,Sem.run_bind,Sem.run_pure,Result.andThen_ok,run_underlying hut];rw[if_pos ⟨h0,by omega⟩]
  simp only[Sem.run_bind,sizeOf,typeInfo,hj,run_program,Result.andThen_ok,Sem.run_pure];exact hpart w'
 ·rename_i hk;have hut:P.underlying t=some .string:=by have h:=ht.desc;simp only[hk,Dsc] at h;exact h
  split at h
  case h_2=>simp at h
  rename_i s;split at h
  case h_2=>simp at h
  rename_i b hb;simp[zc] at h;subst h;have:=RV.str hu;subst this;refine⟨_,_,rfl,λw'=>?_,RV.mkInt _ _⟩
  unfold Instr.index;simp only[asIntOf,Sem.run_bind,Sem.run_pure,Result.andThen_ok,run_underlying hut];simp[h0,hb]
 ·simp at h
end
end Go.Am
namespace Go.Am
open Go.Proofs
open Go Go.RowKit
section
variable{P:Program}{E:Env}{S:Nat->Prop}{φ:Nat->Option Nat}{w:World}
def OptOK(L:Nat->List Nat)(S:Nat->Prop)(φ:Nat->Option Nat)(w:World):Option AV->Option Value->Prop
 | some v,some u=>RAV L S φ w v u
 | none,none=>True
 | _,_=>False
theorem Je{d:Nat}{v:Option AV}{n:Nat}{u:Option Value}(h:bound? d v=some n)(hu:OptOK E.L S φ w v u) :
  (u=none/\n=d)\/∃k i,u=some (.int k i)/\0<=i/\i.toNat=n:=by
 cases v with
 | none =>
  cases u with
  | none=>simp[bound?] at h;exact .inl ⟨rfl,h.symm⟩
  | some u=>exact hu.elim
 | some v =>
  cases u with
  | none=>exact hu.elim
  | some u =>
   simp only[bound?] at h;obtain⟨i,hi,h⟩:=zA h;obtain⟨h0,h⟩:=zE h;simp at h0 h;obtain⟨k,rfl,_⟩:=QL hi hu;exact .inr ⟨k,i,rfl,h0,h⟩
theorem jN(k:IntKind)(i:Int)(n:Nat)(c:BoundsCode)(h0:0<=i)(h1:i.toNat<=n)(w:World):(Instr.sliceBound (.int k i) n c).run P w=.ok i.toNat w:=by unfold Instr.sliceBound;simp only[asIntOf,Sem.run_bind,Sem.run_pure,Result.andThen_ok];rw[if_pos ⟨h0,by omega⟩];simp
theorem Yl(b:Bool)(len cap l h:Nat)(lo hi:Option Value)(hlo:(lo=none/\l=0)\/∃k i,lo=some (.int k i)/\0<=i/\i.toNat=l)(hhi:(hi=none/\h=len)\/∃k i,hi=some (.int k i)/\0<=i/\i.toNat=h)
  (hlh:l<=h) (hc:h<=cap) (w:World):(Instr.sliceBounds b len cap lo hi none).run P w=.ok (l,h,cap) w:=by
 unfold Instr.sliceBounds;rcases hlo with ⟨rfl,rfl⟩ | ⟨k,i,rfl,hi0,rfl⟩ <;> rcases hhi with ⟨rfl,rfl⟩ | ⟨k',i',rfl,hi0',rfl⟩
 ·simp
 ·cases b <;> simp[jN k' i' cap _ hi0' hc]
 ·simp[jN k i _ _ hi0 hlh]
 ·cases b <;> simp[jN k' i' cap _ hi0' hc,jN k i _ _ hi0 hlh]
theorem zDY(len cap l h m:Nat)(lo hi mx:Option Value)(hlo:(lo=none/\l=0)\/∃k i,lo=some (.int k i)/\0<=i/\i.toNat=l)(hhi:∃k i,hi=some (.int k i)/\0<=i/\i.toNat=h)
  (hmx:∃k i,mx=some (.int k i)/\0<=i/\i.toNat=m) (hlh:l<=h) (hc:h<=m) (hm:m<=cap) (w:World):(Instr.sliceBounds true len cap lo hi mx).run P w=.ok (l,h,m) w:=by
 unfold Instr.sliceBounds;obtain⟨k',i',rfl,hi0',rfl⟩:=hhi;obtain⟨k2,i2,rfl,hi02,rfl⟩:=hmx;rcases hlo with ⟨rfl,rfl⟩ | ⟨k,i,rfl,hi0,rfl⟩
 ·simp[jN k' i' _ _ hi0' hc,jN k2 i2 _ _ hi02 hm]
 ·simp[jN k' i' _ _ hi0' hc,jN k i _ _ hi0 hlh,jN k2 i2 _ _ hi02 hm]
theorem Jp{α:Type}{sz:Nat}:∀(css:List (List α)),(∀c∈css,c.length=sz)->∀l,(css.drop l).flatten=css.flatten.drop (l * sz)
 | [],_,l=>by simp
 | c :: css,hz,0=>by simp
 | c :: css,hz,l+1=>by
  have hc:=hz c (by simp)
  rw[List.drop_succ_cons,Jp css (λd hd=>hz d (by simp[hd])) l,List.flatten_cons,Nat.succ_mul,Nat.add_comm,<-hc,List.drop_length_add_append]
theorem Jj{α:Type}(css:List (List α))(h j:Nat)(u:α)(hj:(css.take h).flatten[j]? = some u):css.flatten[j]? = some u:=by
 have e:css.flatten=(css.take h).flatten++(css.drop h).flatten:=by rw[<-List.flatten_append,List.take_append_drop]
 rw[e,List.getElem?_append_left (List.getElem?_eq_some_iff.1 hj).1];exact hj
theorem RD.sub{sz:Nat}{xs:List DV}{a:Option Addr}{c:Nat}{css:List (List Value)}(hc:xs.length<=c)(hl:css.length=xs.length)
  (hp:∀i (h:i<xs.length) (h':i<css.length),RD E.L S w xs[i] css[i]) (hz:∀cs∈css,cs.length=sz)
  (hm:0<xs.length->∃ad,a=some ad/\ad.spot=none/\S ad.block/\∀j u,css.flatten[j]? = some u->w.cell? (ad.add j)=some u)
  {l h:Nat} (hlh:l<=h) (hh:h<=xs.length) :
  RD E.L S w (.sl sz ((xs.take h).drop l)) [.slice (if c=l then a else a.map (·.add (l * sz))) (h - l) (c - l)]:=by
 refine .sl sz _ _ _ _ ((css.take h).drop l) (by simp;omega) (by omega) (by simp;omega) (λi h1 h2=>?_) (λcs hcs=>hz cs (List.mem_of_mem_take (List.mem_of_mem_drop hcs))) (λh0=>?_)
 ·simp only[List.getElem_drop,List.getElem_take];exact hp _ (by simp at h1;omega) (by simp at h2;omega)
 ·obtain⟨ad,rfl,hsp,hS,hcell⟩:=hm (by omega)
  refine⟨ad.add (l * sz),by rw[if_neg (by omega)];rfl,zAu hsp _,by rw[JU];exact hS,λj u hj=>?_⟩
  rw[zCt hsp];refine hcell _ u ?_;rw[Jp _ (λc hc=>hz c (List.mem_of_mem_take hc)),List.getElem?_drop] at hj
  exact Jj css h _ u hj
theorem OptOK.none'{v:Option AV}{u:Option Value}(h:OptOK E.L S φ w v u)(e:v=none):u=none:=by
 subst e;cases u with
 | none=>rfl
 | some _=>exact h.elim
theorem jA{t:TypeId}{d:TypeDesc}(h:P.underlying t=some d)(hd:∀n e,d≠.array n e)(x:Value)(lo hi mx:Option Value)(w:World) :
  (Instr.sliceAt t x lo hi mx).run P w=(Instr.slice t x lo hi mx).run P w:=by
 unfold Instr.sliceAt;simp only[Sem.run_bind,run_underlying h,Result.andThen_ok]
theorem zHl(hD:DOK P E){t:TypeId}{x:AV}{lo hi mx:Option AV}{ef:Eff}(h:YW E t x lo hi mx=some ef){u:Value}{ulo uhi umx:Option Value}(hu:RAV E.L S φ w x u)
  (hlo:OptOK E.L S φ w lo ulo) (hhi:OptOK E.L S φ w hi uhi) (hmx:OptOK E.L S φ w mx umx):zAS P E S φ w (Instr.sliceAt t u ulo uhi umx) ef:=by
 unfold YW at h;obtain⟨td,htd,h1⟩:=zA h;clear h;have ht:=hD t td htd;obtain⟨l,hl,h⟩:=zA h1;clear h1;have bl:=Je hl hlo;split at h
 ·rename_i s hk;have hut:P.underlying t=some .string:=by have h:=ht.desc;simp only[hk,Dsc] at h;exact h
  obtain⟨hh,hhd,h⟩:=zA h;have bh:=Je hhd hhi;obtain⟨hg,h⟩:=zE h;simp at hg;obtain⟨g1,g2,g3⟩:=hg;have:umx=none:=hmx.none' g3;subst this;simp[zc] at h;subst h;have:=RV.str hu;subst this;refine⟨_,_,rfl,λw'=>?_,RV.mkStr _⟩
  rw[jA hut (by simp)]
  unfold Instr.slice;simp only[Sem.run_bind,run_underlying hut,Result.andThen_ok];simp[Yl false s.size s.size l hh ulo uhi bl bh g1 g2]
 ·rename_i e sz xs hk;have hut:=QO ht hk;obtain⟨ed,hed,h⟩:=zA h;have he:=hD e ed hed;obtain⟨hh,hhd,h⟩:=zA h;have bh:=Je hhd hhi;obtain⟨hg,h⟩:=zE h;simp at hg;obtain⟨g0,g1,g2⟩:=hg;obtain⟨a,c,css,rfl,hc,hln,hp,hz,hm⟩:=RV.sl hu;split at h
  ·have:umx=none:=by cases umx with | none=>rfl | some _=>exact hmx.elim
   subst this;simp[zc] at h;subst h;have hsub:=RD.sub hc hln hp hz hm g1 g2;refine⟨_,.slice (if c=l then a else a.map (·.add (l * sz))) (hh - l) (c - l),rfl,λw'=>?_,⟨hsub,rfl⟩⟩
   rw[jA hut (by simp)]
   unfold Instr.slice;simp only[Sem.run_bind,run_underlying hut,Result.andThen_ok,Yl (P:=P) true xs.length c l hh ulo uhi bl bh g1 (by omega),he.sizeOf,Sem.run_pure,g0]
  ·rename_i m;obtain⟨mm,hmm,h⟩:=zA h;obtain⟨um,rfl⟩:∃um,umx=some um:=by cases umx with | none=>exact hmx.elim | some um=>exact⟨um,rfl⟩
   have bm:=Je (E:=E) (S:=S) (φ:=φ) (w:=w) (u:=some um) hmm hmx;obtain⟨hg,h⟩:=zE h;simp at hg;obtain⟨q1,q2,q3⟩:=hg;simp[zc] at h;subst h;have bm':∃k i,some um=some (.int k i)/\0<=i/\i.toNat=l:=by
    rcases bm with ⟨e,_⟩ | ⟨k,i,e,h0,h1⟩
    ·cases e
    ·exact⟨k,i,e,h0,by omega⟩
   have bh':∃k i,uhi=some (.int k i)/\0<=i/\i.toNat=l:=by
    rcases bh with ⟨e,_⟩ | ⟨k,i,e,h0,h1⟩
    ·subst e;cases hi with
     | none=>simp at q3
     | some _=>exact hhi.elim
    ·exact⟨k,i,e,h0,by omega⟩
   refine⟨_,.slice a 0 0,rfl,λw'=>?_,⟨.nl _,rfl⟩⟩
   rw[jA hut (by simp)]
   unfold Instr.slice;simp only[Sem.run_bind,run_underlying hut,Result.andThen_ok,zDY (P:=P) xs.length c l l l ulo uhi (some um) bl bh' bm' (Nat.le_refl _) (Nat.le_refl _) (by omega),he.sizeOf,Sem.run_pure]
   simp
 ·rename_i e hk;have hut:=QO ht hk;obtain⟨ed,hed,h⟩:=zA h;have he:=hD e ed hed;obtain⟨hh,hhd,h⟩:=zA h;have bh:=Je hhd hhi;obtain⟨hg,h⟩:=zE h;simp at hg;obtain⟨g1,g2⟩:=hg;subst g1;subst g2;obtain⟨a,rfl⟩:=RV.nl hu;split at h
  ·have:umx=none:=by cases umx with | none=>rfl | some _=>exact hmx.elim
   subst this;simp[zc] at h;subst h;refine⟨_,.slice a 0 0,rfl,λw'=>?_,⟨.nl _,rfl⟩⟩
   rw[jA hut (by simp)]
   unfold Instr.slice;simp only[Sem.run_bind,run_underlying hut,Result.andThen_ok,Yl (P:=P) true 0 0 0 0 ulo uhi bl bh (Nat.le_refl _) (Nat.le_refl _),he.sizeOf,Sem.run_pure];simp
  ·rename_i m;obtain⟨mm,hmm,h⟩:=zA h;obtain⟨um,rfl⟩:∃um,umx=some um:=by cases umx with | none=>exact hmx.elim | some um=>exact⟨um,rfl⟩
   have bm:=Je (E:=E) (S:=S) (φ:=φ) (w:=w) (u:=some um) hmm hmx;obtain⟨hg,h⟩:=zE h;simp at hg;obtain⟨q1,q3⟩:=hg;simp[zc] at h;subst h;have bm':∃k i,some um=some (.int k i)/\0<=i/\i.toNat=0:=by
    rcases bm with ⟨e,_⟩ | ⟨k,i,e,h0,h1⟩
    ·cases e
    ·exact⟨k,i,e,h0,by omega⟩
   have bh':∃k i,uhi=some (.int k i)/\0<=i/\i.toNat=0:=by
    rcases bh with ⟨e,_⟩ | ⟨k,i,e,h0,h1⟩
    ·subst e;cases hi with
     | none=>simp at q3
     | some _=>exact hhi.elim
    ·exact⟨k,i,e,h0,by omega⟩
   refine⟨_,.slice a 0 0,rfl,λw'=>?_,⟨.nl _,rfl⟩⟩
   rw[jA hut (by simp)]
   unfold Instr.slice;simp only[Sem.run_bind,run_underlying hut,Result.andThen_ok,zDY (P:=P) 0 0 0 0 0 ulo uhi (some um) bl bh' bm' (Nat.le_refl _) (Nat.le_refl _) (Nat.le_refl _),he.sizeOf,Sem.run_pure];simp
 ·rename_i e b off len sz hk;have hut:=QO ht hk;obtain⟨ed,hed,h⟩:=zA h;have he:=hD e ed hed;obtain⟨hh,hhd,h⟩:=zA h;have bh:=Je hhd hhi;obtain⟨hg,h⟩:=zE h;simp at hg;obtain⟨g0,g1,g2,g3⟩:=hg;have:umx=none:=hmx.none' g3;subst this;simp[zc] at h;subst h;rcases hu.own with ⟨cb,c,hb,hc,hr,rfl⟩ | ⟨a,hl0,rfl⟩
  ·have hrun:∀w',(Instr.sliceAt t (.slice (some ⟨cb,off * sz,none⟩) len c) ulo uhi none).run P w'=.ok (.slice (if c=l then some ⟨cb,off * sz,none⟩ else some ⟨cb,(off+l) * sz,none⟩) (hh - l) (c - l)) w':=by
    intro w';rw[jA hut (by simp)]
    unfold Instr.slice;simp only[Sem.run_bind,run_underlying hut,Result.andThen_ok,Yl (P:=P) true len c l hh ulo uhi bl bh g1 (by omega),he.sizeOf,Sem.run_pure,<-g0]
    simp[jk,Nat.add_mul]
   by_cases hcl:c=l
   ·have e1:hh - l=0:=by omega
    rw[e1];exact⟨_,_,rfl,λw'=>by rw[hrun,e1,hcl,if_pos rfl,Nat.sub_self],⟨.own0 _ _ _ _,rfl⟩⟩
   ·exact⟨_,_,rfl,λw'=>by rw[hrun,if_neg hcl],⟨RA.own b (off+l) (hh - l) sz cb (c - l) hb (by omega) (by rw[show off+l+(c - l)=off+c from by omega];exact hr),rfl⟩⟩
  ·have e1:hh=0:=by omega
   have e2:l=0:=by omega
   subst e1;subst e2;subst hl0;refine⟨_,.slice a 0 0,rfl,λw'=>?_,⟨.own0 _ _ _ _,rfl⟩⟩
   rw[jA hut (by simp)]
   unfold Instr.slice;simp only[Sem.run_bind,run_underlying hut,Result.andThen_ok,Yl (P:=P) true 0 0 0 0 ulo uhi bl bh (Nat.le_refl _) (Nat.le_refl _),he.sizeOf,Sem.run_pure];simp
 ·simp at h
theorem zEN{i:Nat}{x:AV}{ef:Eff}(h:Qc i x=some ef){u:Value}(hu:RAV E.L S φ w x u):zAS P E S φ w (Instr.extract u i) ef:=by
 unfold Qc at h;split at h
 case h_2=>simp at h
 rename_i vs;split at h
 case h_2=>simp at h
 rename_i v hv;simp[zc] at h;subst h;obtain⟨us,rfl,hl,hr⟩:=(hu:RV E.L S w (.tup vs) u);obtain⟨hi,rfl⟩:=List.getElem?_eq_some_iff.1 hv;have hi':i<us.length:=by omega
 obtain⟨h1,h2⟩:=hr i hi hi';refine⟨_,us[i],rfl,λw'=>?_,RV.of h1.notTup h1 h2⟩
 simp[Instr.extract,hi']
theorem zDz{x:AV}{ef:Eff}(h:Yf x=some ef){u:Value}(hu:RAV E.L S φ w x u)(hx:x≠.undef) :
  ∃v,ef={ v }/\(u≠.pointer none/\u≠.nilIface/\u≠.nilFunc/\∀n a b,u≠.func (.method n) a b)/\RAV E.L S φ w v u:=by
 unfold Yf at h;split at h <;> try (simp at h;done)
 rename_i h1 h2 h3;simp[zc] at h;subst h;refine⟨_,rfl,?_,hu⟩;cases x with
 | undef=>exact absurd rfl hx
 | d y =>
  cases y with
  | tup xs=>obtain⟨vs,rfl,_⟩:=(hu:RV E.L S w (.tup xs) u);simp
  | nilPtr=>exact absurd rfl h1
  | nilFn=>exact absurd rfl h2
  | nilIf=>exact absurd rfl h3
  | agg t fs=>obtain⟨cs,rfl,_⟩:=RV.agg hu;simp
  | _ =>
   obtain⟨hr,ha⟩:=hu;rw[z6 ha] at hr;cases hr <;> simp
 | agg t fs =>
  obtain⟨_,ha⟩:=hu;obtain⟨cs,rfl⟩:=zGe ha;simp
 | _ =>
  obtain⟨hr,ha⟩:=hu;rw[z6 ha] at hr;cases hr <;> simp
theorem unD_sound{op:UnOp}{x r:DV}(h:unD op x=some r){u:Value}(hu:RV E.L S w x u):(∀w',(Op.unary op u).run P w'=.ok (toV r) w')/\RV E.L S w r (toV r):=by
 unfold unD at h;split at h
 ·injection h with h;subst h
  have:=RV.int hu;subst this;exact⟨λw'=>rfl,RV.mkInt _ _⟩
 ·injection h with h;subst h
  have:=RV.bool hu;subst this;exact⟨λw'=>rfl,RV.mkBool _⟩
 ·injection h with h;subst h
  have:=RV.int hu;subst this;exact⟨λw'=>rfl,RV.mkInt _ _⟩
 ·simp at h
theorem zI7(hD:DOK P E){src dst:TypeId}{x r:DV}(h:convD E src dst x=some r){u:Value}(hu:RV E.L S w x u) :
  (∀w',(convert src dst u).run P w'=.ok (toV r) w')/\RV E.L S w r (toV r):=by
 unfold convD at h;split at h
 case h_2=>simp at h
 rename_i s t hs ht;have hs':=(hD src s hs).desc;have ht':=(hD dst t ht).desc;have anyU:∃d,P.underlying src=some d:=by
  cases hk:s.k <;> simp only[hk,Dsc] at hs'
  case func=>obtain⟨a,b,c,h⟩:=hs';exact⟨_,h⟩
  case iface=>obtain⟨a,h⟩:=hs';exact⟨_,h⟩
  case struct=>obtain⟨a,h,_⟩:=hs';exact⟨_,h⟩
  case array=>obtain⟨h,_⟩:=hs';exact⟨_,h⟩
  all_goals exact⟨_,hs'⟩
 split at h
 ·rename_i k k' n hk;injection h with h;subst h
  have:=RV.int hu;subst this;simp only[hk,Dsc] at ht';obtain⟨d,hd⟩:=anyU;refine⟨λw'=>?_,RV.mkInt _ _⟩
  simp[convert,run_underlying hd,run_underlying ht',Conv.intToInt,toV]
 ·rename_i b hk;split at h
  case h_2=>simp at h
  rename_i hk2;injection h with h;subst h
  have:=RV.str hu;subst this;simp only[hk,Dsc] at ht';simp only[hk2,Dsc] at hs';refine⟨λw'=>?_,RV.mkStr _⟩
  simp[convert,run_underlying hs',run_underlying ht',toV]
 ·simp at h
def ListOK(L:Nat->List Nat)(S:Nat->Prop)(φ:Nat->Option Nat)(w:World)(vs:List AV)(us:List Value):Prop :=
 us.length=vs.length/\∀i (h:i<vs.length) (h':i<us.length),RAV L S φ w vs[i] us[i]
theorem zIZ{tm:List AV}{a:Act}(he:∀x v,evO E tm x=some v->RAV E.L S φ w v (a.eval x)){ps:List Operand}{vs:List AV}(h:evL E tm ps=some vs):ListOK E.L S φ w vs (ps.map a.eval):=by obtain⟨h1,h2⟩:=zHK he ps vs h;exact⟨by simp[h1],λi a b=>by simpa using h2 i a (by simpa using b)⟩
theorem j9{vs:List AV}(h:qD vs=true){i:Nat}(hi:i<vs.length):stores vs[i]=true:=by
 induction vs generalizing i with
 | nil=>simp at hi
 | cons v r ih =>
  simp[qD] at h;cases i with
  | zero=>exact h.1
  | succ i=>exact ih h.2 (by simpa using hi)
theorem mkFn_sound{f:FuncId}{x y:List AV}{vx vy:List Value}(hx:ListOK E.L S φ w x vx)(hy:ListOK E.L S φ w y vy)(sx:qD x=true)(sy:qD y=true) :
  RAV E.L S φ w (mkFn f x y) (.func (.func f) vx.toArray vy.toArray):=by
 unfold mkFn;split
 ·rename_i a b ha hb;have ea:=zA4 ha;have eb:=zA4 hb;subst ea;subst eb;refine⟨.fn f a b vx vy (by simpa using hx.1) (by simpa using hy.1) (λi h h'=>?_) (λi h h'=>?_) (λi h h'=>?_) (λi h h'=>?_),rfl⟩
  ·have:=(RAV.cells (hx.2 i (by simpa using h) h') (j9 sx _)).1
   simp only[List.getElem_map] at this;cases this with | d _ _ h=>exact h
  ·have:=(RAV.cells (hx.2 i (by simpa using h) h') (j9 sx _)).2
   simpa[AV.isAgg] using this
  ·have:=(RAV.cells (hy.2 i (by simpa using h) h') (j9 sy _)).1
   simp only[List.getElem_map] at this;cases this with | d _ _ h=>exact h
  ·have:=(RAV.cells (hy.2 i (by simpa using h) h') (j9 sy _)).2
   simpa[AV.isAgg] using this
 ·refine⟨.fn f x y vx vy hx.1 hy.1 (λi h h'=>?_) (λi h h'=>?_) (λi h h'=>?_) (λi h h'=>?_),rfl⟩
  ·exact(RAV.cells (hx.2 i h h') (j9 sx _)).1
  ·exact .inr (RAV.cells (hx.2 i h h') (j9 sx _)).2
  ·exact(RAV.cells (hy.2 i h h') (j9 sy _)).1
  ·exact .inr (RAV.cells (hy.2 i h h') (j9 sy _)).2
theorem JI{op:BinOp}{t:TypeId}{ox oy:Operand}{u v:Value}(h1:∀cs ds,¬(u=.agg cs/\v=.agg ds))(h2:u=.nilIface/\v=.nilIface->Js ox=true\/Js oy=true)(w':World) :
  (eqGuard op t ox oy u v).run P w'=.ok () w':=by
 have key:(op=.eql\/op=.neq)\/(eqGuard op t ox oy u v)=pure ():=by cases op <;> first | exact .inl (.inl rfl) | exact .inl (.inr rfl) | exact .inr (by simp[eqGuard])
 rcases key with hop | hop
 ·by_cases hn:u=.nilIface/\v=.nilIface
  ·obtain⟨rfl,rfl⟩:=hn;have hc:=h2 ⟨rfl,rfl⟩;cases ox <;> cases oy <;> simp[Js] at hc <;> rcases hop with rfl | rfl <;> simp[eqGuard]
  ·rcases hop with rfl | rfl <;> cases u <;> cases v <;> first | (simp[eqGuard];done) | (exact absurd ⟨rfl,rfl⟩ (h1 _ _)) | (exact absurd ⟨rfl,rfl⟩ hn)
 ·rw[hop];simp
theorem eqT_bool{n:Nat}{t:TypeId}{c:Bool}{y:DV}{b:Bool}(h:eqT E (n+1) t (.bool c) y=some b):∃c',y=.bool c':=by
 simp only[eqT] at h;obtain⟨td,htd,h⟩:=zA h;cases hk:td.k <;> simp only[hk] at h
 case struct=>first | (simp at h;done) | (obtain⟨_,h⟩:=zE h;simp at h)
 case array=>first | (simp at h;done) | (obtain⟨_,h⟩:=zE h;simp at h)
 case int=>obtain⟨_,h⟩:=zE h;cases y <;> simp[jy] at h <;> exact⟨_,rfl⟩
 case bool=>obtain⟨_,h⟩:=zE h;cases y <;> simp[jy] at h <;> exact⟨_,rfl⟩
 case str=>obtain⟨_,h⟩:=zE h;cases y <;> simp[jy] at h <;> exact⟨_,rfl⟩
 all_goals simp at h
def EqVal(P:Program)(t:TypeId)(u v:Value)(b:Bool):Prop :=
 (∀d w',(Op.equalIn (d+1) t u v).run P w'=.ok b w')/\(∀cs ds,¬(u=.agg cs/\v=.agg ds)) /\
  (∀op,op=.eql\/op=.neq->binOp op t u v=(do let r <-Op.equal t u v;pure (.bool (if op=.eql then r else !r)):Sem Value))
theorem eqVal_ptr{t e:TypeId}(hd:P.underlying t=some (.pointer e)){x y:DV}{b:Bool}(h:qJ (.ptr e) x y=some b){u v:Value}(hu:RV E.L S w x u)(hv:RV E.L S w y v):EqVal P t u v b:=by
 simp only[qJ] at h;split at h <;> try (simp at h;done)
 all_goals
  injection h with h;subst h
  obtain⟨hr,ha⟩:=hu;obtain⟨hr',ha'⟩:=hv;rw[z6 ha] at hr;rw[z6 ha'] at hr';cases hr;cases hr';exact⟨λd w'=>by simp[Op.equalIn,run_underlying hd],by simp,λop ho=>by rcases ho with rfl | rfl <;> rfl⟩
theorem zI4{t:TypeId}{ms}(hd:P.underlying t=some (.interface ms)){x y:DV}{b:Bool}(h:qJ .iface x y=some b){u v:Value}(hu:RV E.L S w x u)(hv:RV E.L S w y v) :
  EqVal P t u v b/\(u=.nilIface/\v=.nilIface->x=.nilIf/\y=.nilIf):=by
 simp only[qJ] at h;split at h <;> try (simp at h;done)
 all_goals
  injection h with h;subst h
  obtain⟨hr,ha⟩:=hu;obtain⟨hr',ha'⟩:=hv;rw[z6 ha] at hr;rw[z6 ha'] at hr';cases hr;cases hr';exact⟨⟨λd w'=>by simp[Op.equalIn,run_underlying hd],by simp,λop ho=>by rcases ho with rfl | rfl <;> rfl⟩,by simp⟩
theorem eqVal_func{t:TypeId}{a1 a2 a3}(hd:P.underlying t=some (.func a1 a2 a3)){x y:DV}{b:Bool}(h:qJ .func x y=some b){u v:Value}(hu:RV E.L S w x u)(hv:RV E.L S w y v):EqVal P t u v b:=by
 simp only[qJ] at h;split at h <;> try (simp at h;done)
 all_goals
  injection h with h;subst h
  obtain⟨hr,ha⟩:=hu;obtain⟨hr',ha'⟩:=hv;rw[z6 ha] at hr;rw[z6 ha'] at hr';cases hr;cases hr';exact⟨λd w'=>by simp[Op.equalIn,run_underlying hd],by simp,λop ho=>by rcases ho with rfl | rfl <;> rfl⟩
theorem eqVal_map{t e1 e2:TypeId}(hd:P.underlying t=some (.map e1 e2)){x y:DV}{b:Bool}(h:qJ (.map e1 e2) x y=some b){u v:Value}(hu:RV E.L S w x u)(hv:RV E.L S w y v):EqVal P t u v b:=by
 simp only[qJ] at h;split at h <;> try (simp at h;done)
 all_goals
  injection h with h;subst h
  obtain⟨hr,ha⟩:=hu;obtain⟨hr',ha'⟩:=hv;rw[z6 ha] at hr;rw[z6 ha'] at hr';cases hr;cases hr';exact⟨λd w'=>by simp[Op.equalIn,run_underlying hd],by simp,λop ho=>by rcases ho with rfl | rfl <;> rfl⟩
theorem zI5{t:TypeId}{td:TD}(ht:TOK P E t td){x y:DV}{b:Bool}(h:qJ td.k x y=some b){u v:Value}(hu:RV E.L S w x u)(hv:RV E.L S w y v) :
  EqVal P t u v b/\(u=.nilIface/\v=.nilIface->x=.nilIf/\y=.nilIf):=by
 have hd:=ht.desc;have noI:∀{x y:DV},(∀t' y',x≠.ifc t' y')->x≠.nilIf->RV E.L S w x u->(u=.nilIface/\v=.nilIface->x=.nilIf/\y=.nilIf):=by
  intro x y h1 h2 hu hn;obtain⟨rfl,_⟩:=hn;cases x with
  | tup xs=>obtain⟨vs,h,_⟩:=hu;cases h
  | agg t' fs=>obtain⟨_,ha⟩:=hu;simp[Jx,DV.isAgg] at ha
  | nilIf=>exact absurd rfl h2
  | ifc t' y'=>exact absurd rfl (h1 t' y')
  | _=>obtain⟨hr,ha⟩:=hu;rw[z6 ha] at hr;cases hr
 cases hk:td.k with
 | ptr e =>
  simp only[hk,Dsc] at hd;rw[hk] at h;refine⟨eqVal_ptr hd h hu hv,noI ?_ ?_ hu⟩ <;> (intros;rintro rfl;simp[qJ] at h)
 | iface =>
  simp only[hk,Dsc] at hd;rw[hk] at h;obtain⟨ms,hd⟩:=hd;exact zI4 hd h hu hv
 | func =>
  simp only[hk,Dsc] at hd;rw[hk] at h;obtain⟨a1,a2,a3,hd⟩:=hd;refine⟨eqVal_func hd h hu hv,noI ?_ ?_ hu⟩ <;> (intros;rintro rfl;simp[qJ] at h)
 | map e1 e2 =>
  simp only[hk,Dsc] at hd;rw[hk] at h;refine⟨eqVal_map hd h hu hv,noI ?_ ?_ hu⟩ <;> (intros;rintro rfl;simp[qJ] at h)
 | _=>rw[hk] at h;simp[qJ] at h
theorem binD_other{op:BinOp}{t:TypeId}{x y r:DV}(h:zBt E op t x y=some r)(hi:¬∃k a k' b,x=.int k a/\y=.int k' b)(hs:¬∃a b,x=.str a/\y=.str b) :
  (op=.eql\/op=.neq)/\∃b,Y0 E t x y=some b/\r=.bool (if op=.eql then b else !b):=by
 unfold zBt at h;split at h
 ·exact absurd ⟨_,_,_,_,rfl,rfl⟩ hi
 ·exact absurd ⟨_,_,rfl,rfl⟩ hs
 ·split at h
  ·obtain⟨b,hb,h2⟩:=zA h;exact⟨.inl rfl,b,hb,by simpa using h2.symm⟩
  ·obtain⟨b,hb,h2⟩:=zA h;exact⟨.inr rfl,b,hb,by simpa using h2.symm⟩
  ·simp at h
theorem zIL{op:BinOp}(hop:op=.eql\/op=.neq){t:TypeId}{ox oy:Operand}{u v:Value}{b:Bool}{w':World}(hg:(eqGuard op t ox oy u v).run P w'=.ok () w')(he:(Op.equal t u v).run P w'=.ok b w')
  (hbin:binOp op t u v=(do let r <-Op.equal t u v;pure (.bool (if op=.eql then r else !r)):Sem Value)) :
  (do eqGuard op t ox oy u v;binOp op t u v:Sem Value).run P w'=.ok (toV (.bool (if op=.eql then b else !b))) w':=by
 rw[Sem.run_bind,hg,Result.andThen_ok,hbin,Sem.run_bind,he,Result.andThen_ok];rfl
theorem binE_sound(hD:DOK P E){op:BinOp}{t:TypeId}{ox oy:Operand}{x y r:DV}(hif:zAB ox oy x y=true)(h:zBt E op t x y=some r){u v:Value}(hu:RV E.L S w x u)(hv:RV E.L S w y v) :
  (∀w',(do eqGuard op t ox oy u v;binOp op t u v:Sem Value).run P w'=.ok (toV r) w')/\RV E.L S w r (toV r):=by
 by_cases hi:∃k a k' b,x=.int k a/\y=.int k' b
 ·obtain⟨k,a,k',b,rfl,rfl⟩:=hi;have e1:=RV.int hu;have e2:=RV.int hv;subst e1;subst e2;obtain⟨h1,h2⟩:=binD_int (P:=P) h;refine⟨λw'=>?_,h2 S w⟩
  rw[Sem.run_bind,JI (by simp) (by simp)]
  exact h1 w'
 by_cases hs:∃a b,x=.str a/\y=.str b
 ·obtain⟨a,b,rfl,rfl⟩:=hs;have e1:=RV.str hu;have e2:=RV.str hv;subst e1;subst e2;obtain⟨h1,h2⟩:=strS_sound (P:=P) (E:=E) (t:=t) (show strS op a b=some r from h)
  refine⟨λw'=>?_,h2 S w⟩
  rw[Sem.run_bind,JI (by simp) (by simp)]
  exact h1 w'
 obtain⟨hop,b,hb,hr⟩:=binD_other h hi hs;subst hr;refine⟨λw'=>?_,RV.mkBool _⟩
 by_cases hag:x.isAgg=true
 ·cases x with
  | agg tag fs =>
   simp only[Y0] at hb;obtain⟨td,htd,hb⟩:=zA hb;obtain⟨heq,hb⟩:=zE hb;have ht:=hD t td htd;obtain⟨_,hax,hay⟩:=zDK hD hb;obtain⟨cs,rfl,_⟩:=RV.agg hu;have:∃ds,v=.agg ds:=by
    cases y with
    | agg t' gs=>obtain⟨ds,rfl,_⟩:=RV.agg hv;exact⟨ds,rfl⟩
    | _=>rw[hay.1] at hay;simp[DV.isAgg] at hay
   obtain⟨ds,rfl⟩:=this;exact zIL hop (run_eqGuard_agg w' op t ox oy cs ds (ht.eq heq).1) (zDJ hD 10 t _ _ b S w _ _ hb hu hv 10000 (by omega) w') (by rcases hop with rfl | rfl <;> rfl)
  | _=>simp[DV.isAgg] at hag
 by_cases hbo:∃c,x=.bool c
 ·obtain⟨c,rfl⟩:=hbo;simp only[Y0] at hb;have e1:=RV.bool hu;subst e1;have:∃c',y=.bool c':=eqT_bool hb;obtain⟨c',rfl⟩:=this;have e2:=RV.bool hv;subst e2;exact zIL hop (JI (by simp) (by simp) w') (zDJ hD 10 t _ _ b S w _ _ hb hu hv 10000 (by omega) w') (by rcases hop with rfl | rfl <;> rfl)
 have hb':∃td,E.D t=some td/\qJ td.k x y=some b:=by
  unfold Y0 at hb;split at hb
  ·simp[DV.isAgg] at hag
  ·exact absurd ⟨_,rfl⟩ hbo
  ·exact zA hb
 obtain⟨td,htd,hb⟩:=hb';obtain⟨⟨h1,h3,h5⟩,h4⟩:=zI5 (hD t td htd) hb hu hv;refine zIL hop (JI h3 (λhn=>?_) w') (h1 _ w') (h5 op hop)
 obtain⟨rfl,rfl⟩:=h4 hn;simpa[zAB] using hif
end
end Go.Am
namespace Go.Am
open Go.Proofs
open Go Go.RowKit
section
variable{P:Program}{E:Env}{S:Nat->Prop}{φ:Nat->Option Nat}{w:World}
def zIQ:Op->Bool
 | .move _ | .assign _ | .pick _ _ _ | .build _ _ | .nilCheck _ | .binOp _ _ _ _ _ | .unOp _ _ _ | .convert _ _ _ | .makeFunc _ _ _ | .slice _ _ _ _ _
 | .fieldAddr _ _ _ | .field _ _ _ | .indexAddr _ _ _ | .index _ _ _ | .extract _ _=>true
 | .call c=>match c.callee with
  | .builtin .max | .builtin .min=>true
  | _=>false
 | _=>false
theorem amap{β:Type}(f:Operand->β)(xs:Array Operand):xs.map f=(xs.toList.map f).toArray:=by apply Array.ext';simp
theorem zAo{tm:List AV}{a:Act}(he:∀x v,evO E tm x=some v->RAV E.L S φ w v (a.eval x)){o:Option Operand}{v:Option AV}(h:QJ E tm o=some v):OptOK E.L S φ w v (o.map a.eval):=by
 cases o with
 | none=>simp[QJ] at h;subst h;trivial
 | some x =>
  simp only[QJ] at h;obtain⟨y,hy,h⟩:=zA h;injection h with h;subst h
  exact he x y hy
theorem foldMax{k:IntKind}:∀(vs:List AV) (us:List Value) (a m:Int),qH (λx y=>if y>x then y else x) k a vs=some m->ListOK E.L S φ w vs us ->
  ∀w',(us.foldlM Builtin.max2 (.int k a)).run P w'=.ok (.int k m) w'
 | [],us,a,m,h,hl,w'=>by
  have:us=[]:=List.eq_nil_of_length_eq_zero hl.1;subst this;simp[qH] at h;subst h;rfl
 | v :: r,us,a,m,h,hl,w'=>by
  cases us with
  | nil=>exact absurd hl.1 (by simp)
  | cons u us =>
   have h0:=hl.2 0 (by simp) (by simp)
   have hr:ListOK E.L S φ w r us:=⟨by simpa using hl.1,λi a b=>hl.2 (i+1) (by simp;omega) (by simp;omega)⟩
   cases v <;> try (simp[qH] at h;done)
   rename_i x;cases x <;> try (simp[qH] at h;done)
   rename_i k' b;simp only[qH] at h;split at h
   case isFalse=>simp at h
   rename_i hk;subst hk;have:=RV.int (show RV E.L S w (.int k b) u from h0)
   subst this;have ih:=foldMax r us _ m h hr w';rw[List.foldlM_cons,Sem.run_bind];simp only[Builtin.max2,Sem.run_pure,Result.andThen_ok];exact ih
theorem foldMin{k:IntKind}:∀(vs:List AV) (us:List Value) (a m:Int),qH (λx y=>if y<x then y else x) k a vs=some m->ListOK E.L S φ w vs us ->
  ∀w',(us.foldlM Builtin.min2 (.int k a)).run P w'=.ok (.int k m) w'
 | [],us,a,m,h,hl,w'=>by
  have:us=[]:=List.eq_nil_of_length_eq_zero hl.1;subst this;simp[qH] at h;subst h;rfl
 | v :: r,us,a,m,h,hl,w'=>by
  cases us with
  | nil=>exact absurd hl.1 (by simp)
  | cons u us =>
   have h0:=hl.2 0 (by simp) (by simp)
   have hr:ListOK E.L S φ w r us:=⟨by simpa using hl.1,λi a b=>hl.2 (i+1) (by simp;omega) (by simp;omega)⟩
   cases v <;> try (simp[qH] at h;done)
   rename_i x;cases x <;> try (simp[qH] at h;done)
   rename_i k' b;simp only[qH] at h;split at h
   case isFalse=>simp at h
   rename_i hk;subst hk;have:=RV.int (show RV E.L S w (.int k b) u from h0)
   subst this;have ih:=foldMin r us _ m h hr w';rw[List.foldlM_cons,Sem.run_bind];simp only[Builtin.min2,Sem.run_pure,Result.andThen_ok];exact ih
theorem maxE_sound{vs:List AV}{us:List Value}{ef:Eff}(h:maxE vs=some ef)(hl:ListOK E.L S φ w vs us)(ts:Array TypeId)(t:TypeId):zAS P E S φ w (Builtin.max_ ts t us.toArray) ef:=by
 unfold maxE at h;split at h
 case h_2=>simp at h
 rename_i k a r;obtain⟨m,hm,h⟩:=zA h;simp[zc] at h;subst h;cases us with
 | nil=>exact absurd hl.1 (by simp)
 | cons u us =>
  have h0:=hl.2 0 (by simp) (by simp)
  have hr:ListOK E.L S φ w r us:=⟨by simpa using hl.1,λi a b=>hl.2 (i+1) (by simp;omega) (by simp;omega)⟩
  have:=RV.int (show RV E.L S w (.int k a) u from h0)
  subst this;exact⟨_,.int k m,rfl,λw'=>by simpa[Builtin.max_] using foldMax r us a m hm hr w',RV.mkInt _ _⟩
theorem minE_sound{vs:List AV}{us:List Value}{ef:Eff}(h:minE vs=some ef)(hl:ListOK E.L S φ w vs us)(ts:Array TypeId)(t:TypeId):zAS P E S φ w (Builtin.min_ ts t us.toArray) ef:=by
 unfold minE at h;split at h
 case h_2=>simp at h
 rename_i k a r;obtain⟨m,hm,h⟩:=zA h;simp[zc] at h;subst h;cases us with
 | nil=>exact absurd hl.1 (by simp)
 | cons u us =>
  have h0:=hl.2 0 (by simp) (by simp)
  have hr:ListOK E.L S φ w r us:=⟨by simpa using hl.1,λi a b=>hl.2 (i+1) (by simp;omega) (by simp;omega)⟩
  have:=RV.int (show RV E.L S w (.int k a) u from h0)
  subst this;exact⟨_,.int k m,rfl,λw'=>by simpa[Builtin.min_] using foldMin r us a m hm hr w',RV.mkInt _ _⟩
theorem zGF{v:AV}{b:Bool}(h:Am.asB v=some b){u:Value}(hu:RAV E.L S φ w v u):u=.bool b:=by
 unfold Am.asB at h;split at h
 ·injection h with h;subst h;exact RV.bool hu
 ·simp at h
theorem pure_sound(hD:DOK P E){o:Oper}{tm:List AV}{a:Act}(he:∀x v,evO E tm x=some v->RAV E.L S φ w v (a.eval x)){call:FuncId->List DV->Option CR}{dst:Nat}{hp:List (Option OB)}{ef:Eff}
  (hpo:zIQ o.op=true) (h:jY E call o.op dst tm hp=some ef) :
  ∃v u,ef={ v }/\(∀w',(execOp a.eval o).run P w'=.ok (.value u) w')/\RAV E.L S φ w v u:=by
 have fin:∀{s:Sem Value},zAS P E S φ w s ef->(∀w',(execOp a.eval o).run P w'=(do pure (.value (<-s)):Sem Next).run P w') ->
   ∃v u,ef={ v }/\(∀w',(execOp a.eval o).run P w'=.ok (.value u) w')/\RAV E.L S φ w v u:=by
  intro s ⟨v,u,h1,h2,h3⟩ h4;exact⟨v,u,h1,λw'=>by rw[h4];simp[h2 w'],h3⟩
 have one:∀{x:Operand},bnd (evO E tm x) zc=some ef->(∀w',(execOp a.eval o).run P w'=.ok (.value (a.eval x)) w') ->
   ∃v u,ef={ v }/\(∀w',(execOp a.eval o).run P w'=.ok (.value u) w')/\RAV E.L S φ w v u:=by
  intro x h h4;obtain⟨v,hv,h⟩:=zA h;simp[zc] at h;subst h;exact⟨v,_,rfl,h4,he _ _ hv⟩
 cases ho:o.op <;> simp only[ho,zIQ] at hpo <;> try (simp at hpo;done)
 all_goals simp only[ho,jY] at h
 case move x=>exact one h λw'=>by simp[execOp,ho]
 case assign x=>exact one h λw'=>by simp[execOp,ho]
 case pick c x y =>
  obtain⟨v,hv,h⟩:=zA h;obtain⟨b,hb,h⟩:=zA h;have hc:=zGF hb (he _ _ hv);cases b
  ·exact one h λw'=>by simp[execOp,ho,hc,asBool]
  ·exact one h λw'=>by simp[execOp,ho,hc,asBool]
 case build t ps =>
  obtain⟨vs,hv,h⟩:=zA h;obtain⟨v,u,h1,h2,h3⟩:=zH0 hD h (qm he _ _ hv);refine⟨v,.agg u,h1,λw'=>?_,h3⟩
  have:=run_build (P:=P) w' t (ps.map λ(i,x)=>(i,a.eval x)) u (by simpa using h2)
  simp only[execOp,ho,Sem.run_bind];rw[this];simp
 case nilCheck x =>
  obtain⟨y,hv,h⟩:=zA h;have hy:y≠.undef:=by rintro rfl;simp[Yf] at h
  obtain⟨v,h1,⟨a1,a2,a3,a4⟩,h3⟩:=zDz h (he _ _ hv) hy;refine⟨v,_,h1,λw'=>?_,h3⟩
  simp only[execOp,ho];revert a1 a2 a3 a4;generalize a.eval x=u;intro a1 a2 a3 a4;cases u with
  | pointer p=>cases p with
   | none=>exact absurd rfl a1
   | some p=>simp
  | nilIface=>exact absurd rfl a2
  | nilFunc=>exact absurd rfl a3
  | func f x y=>cases f with
   | method n=>exact absurd rfl (a4 _ _ _)
   | _=>simp
  | _=>simp
 case binOp op t x y _ =>
  obtain⟨u,hu,h⟩:=zA h;obtain⟨v,hv,h⟩:=zA h;split at h
  case h_2=>simp at h
  rename_i x' y';obtain⟨hif,h⟩:=zE h;obtain⟨r,hr,h⟩:=zA h;simp[zc] at h;subst h;obtain⟨h1,h2⟩:=binE_sound hD hif hr (he _ _ hu) (he _ _ hv);refine⟨.d r,toV r,rfl,λw'=>?_,h2⟩
  simp only[execOp,ho];rw[Sem.run_bind,h1 w'];simp
 case unOp op t x =>
  obtain⟨u,hu,h⟩:=zA h;split at h
  case h_2=>simp at h
  obtain⟨r,hr,h⟩:=zA h;simp[zc] at h;subst h;obtain⟨h1,h2⟩:=unD_sound (P:=P) hr (he _ _ hu);refine⟨.d r,toV r,rfl,λw'=>?_,h2⟩
  simp only[execOp,ho];rw[Sem.run_bind,h1 w'];simp
 case convert s t x =>
  obtain⟨u,hu,h⟩:=zA h;split at h
  case h_2=>simp at h
  obtain⟨r,hr,h⟩:=zA h;simp[zc] at h;subst h;obtain⟨h1,h2⟩:=zI7 hD hr (he _ _ hu);refine⟨.d r,toV r,rfl,λw'=>?_,h2⟩
  simp only[execOp,ho];rw[Sem.run_bind,h1 w'];simp
 case makeFunc fn fs cs =>
  cases fn <;> try (simp[jY] at h;done)
  rename_i f;simp only[jY] at h;obtain⟨x,hx,h⟩:=zA h;obtain⟨y,hy,h⟩:=zA h;obtain⟨hs,h⟩:=zE h;simp only[Bool.and_eq_true] at hs;simp[zc] at h;subst h;refine⟨_,_,rfl,λw'=>?_,mkFn_sound (zIZ he hx) (zIZ he hy) hs.1 hs.2⟩
  simp only[execOp,ho,Instr.makeFunc,<-amap];simp
 case slice t x lo hi mx =>
  obtain⟨x',hx,h⟩:=zA h;obtain⟨lo',hlo,h⟩:=zA h;obtain⟨hi',hhi,h⟩:=zA h;obtain⟨mx',hmx,h⟩:=zA h;exact fin (zHl hD h (he _ _ hx) (zAo he hlo) (zAo he hhi) (zAo he hmx)) λw'=>by simp only[execOp,ho]
 case fieldAddr t x i =>
  obtain⟨x',hx,h⟩:=zA h;exact fin (zCq hD h (he _ _ hx)) λw'=>by simp only[execOp,ho]
 case field t x i =>
  obtain⟨x',hx,h⟩:=zA h;exact fin (zHw hD h (he _ _ hx)) λw'=>by simp only[execOp,ho]
 case indexAddr t x i =>
  obtain⟨x',hx,h⟩:=zA h;obtain⟨i',hi,h⟩:=zA h;exact fin (zCp hD h (he _ _ hx) (he _ _ hi)) λw'=>by simp only[execOp,ho]
 case index t x i =>
  obtain⟨x',hx,h⟩:=zA h;obtain⟨i',hi,h⟩:=zA h;exact fin (zHv hD h (he _ _ hx) (he _ _ hi)) λw'=>by simp only[execOp,ho]
 case extract x i =>
  obtain⟨x',hx,h⟩:=zA h;exact fin (zEN h (he _ _ hx)) λw'=>by simp only[execOp,ho]
 case call c =>
  obtain⟨vs,hv,h⟩:=zA h;have hl:=zIZ he hv;cases hc:c.callee with
  | value f=>simp[hc] at hpo
  | invoke r m=>simp[hc] at hpo
  | builtin b =>
   simp only[hc] at h hpo;cases b <;> try (simp at hpo;done)
   ·exact fin (maxE_sound h hl c.argTypes o.type) λw'=>by simp only[execOp,ho,resolve,hc,<-amap];simp[invoke,builtin]
   ·exact fin (minE_sound h hl c.argTypes o.type) λw'=>by simp only[execOp,ho,resolve,hc,<-amap];simp[invoke,builtin]
end
end Go.Am
namespace Go.Am
open Go.Proofs
open Go Go.RowKit
structure Rel(E:Env)(base:Nat)(S:Nat->Prop)(φ:Nat->Option Nat)(st:St)(a:Act)(w:World):Prop where
 glob:GlobOK E S w
 tm:TmOK E.L S φ w st.tm a
 blk:∀b ob,slot st.hp b=some ob->∃cb,φ b=some cb/\base<=cb/\RB E.L S φ w ob.blk cb/\(S cb ↔ ob.fz=true)
 inj:∀b b' ob ob' cb,slot st.hp b=some ob->slot st.hp b'=some ob'->φ b=some cb->φ b'=some cb->b=b'
 lt:∀b,S b->b<w.heap.size
 base:base<=w.heap.size
 dfr:a.defers=[]
structure Grow(base:Nat)(S S':Nat->Prop)(w w':World):Prop where
 below:Below base w w'
 sub:∀b,S b->S' b
 new:∀b,S' b->S b\/base<=b
 kept:∀b,S b->w'.heap[b]? = w.heap[b]?
theorem Grow.refl{base:Nat}{S:Nat->Prop}{w:World}:Grow base S S w w:=⟨Below.refl _ _,λ_ h=>h,λ_ h=>.inl h,λ_ _=>rfl⟩
theorem Grow.trans{base:Nat}{S S' S'':Nat->Prop}{w w' w'':World}(h:Grow base S S' w w')(k:Grow base S' S'' w' w''):Grow base S S'' w w'' :=
 ⟨h.below.trans k.below,λb hb=>k.sub b (h.sub b hb),λb hb=>(k.new b hb).elim (h.new b) .inr,λb hb=>(k.kept b (h.sub b hb)).trans (h.kept b hb)⟩
section
variable{P:Program}{E:Env}{base:Nat}{S S':Nat->Prop}{φ:Nat->Option Nat}{st:St}{a:Act}{w w':World}
def upd(φ:Nat->Option Nat)(s:Nat)(x:Option Nat):Nat->Option Nat:=λb=>if b=s then x else φ b
theorem zA9{hp:List (Option OB)}{s:Nat}{x:Option OB}{ob:OB}(h:slot (hp.set s x) s=some ob):x=some ob:=by
 unfold slot at h;by_cases hs:s<hp.length
 ·rw[List.getElem?_set_self hs] at h;cases x with
  | none=>simp at h
  | some y=>simpa using h
 ·rw[List.set_eq_of_length_le (by omega),List.getElem?_eq_none (by omega)] at h
  simp at h
theorem Ja{hp:List (Option OB)}{s b:Nat}{x:Option OB}(h:b≠s):slot (hp.set s x) b=slot hp b:=by unfold slot;rw[List.getElem?_set_ne (Ne.symm h)]
theorem Jr{hp:List (Option OB)}{s b:Nat}{x:Option OB}{ob:OB}(h:slot (hp.set s x) b=some ob):(b=s/\x=some ob)\/(b≠s/\slot hp b=some ob):=by
 by_cases hb:b=s
 ·subst hb;exact .inl ⟨rfl,zA9 h⟩
 ·rw[Ja hb] at h;exact .inr ⟨hb,h⟩
theorem GlobOK.mono(h:GlobOK E S w)(hS:∀b,S b->S' b)(hw:∀b,S b->w'.heap[b]? = w.heap[b]?):GlobOK E S' w' :=
 ⟨λg x hg=>(h.val g x hg).mono hS hw,λg cs hg=>⟨hS _ (h.tab g cs hg).1,by rw[hw _ (h.tab g cs hg).1];exact(h.tab g cs hg).2⟩,λg k hg=>⟨hS _ (h.one g k hg).1,by rw[hw _ (h.one g k hg).1];exact(h.one g k hg).2⟩⟩
theorem TmOK.mono{φ':Nat->Option Nat}{L:Nat->List Nat}{tm:List AV}(h:TmOK L S φ w tm a)(k:Keep S S' φ φ' w w'):TmOK L S' φ' w' tm a:=λt v hv=>by obtain⟨u,hu,hr⟩:=h t v hv;exact⟨u,hu,hr.mono k⟩
theorem TmOK.put{L:Nat->List Nat}{tm:List AV}(h:TmOK L S φ w tm a)(dst:Option Tmp){v:AV}{u:Value}(hv:RAV L S φ w v u):TmOK L S φ w (jh tm dst v) (a.put dst u):=by
 cases dst with
 | none=>exact h
 | some d =>
  intro t x hx;simp only[jh] at hx;by_cases ht:t=d
  ·subst ht;have hlt:t<tm.length:=by have:=(List.getElem?_eq_some_iff.1 hx).1;simpa using this
   rw[List.getElem?_set_self hlt] at hx;injection hx with hx;subst hx
   obtain⟨u',hu',_⟩:=h t tm[t] (List.getElem?_eq_getElem hlt);refine⟨u,?_,hv⟩;have hs:t<a.tmps.size:=(Array.getElem?_eq_some_iff.1 hu').1;simp[Act.put,Array.getElem?_setIfInBounds,hs]
  ·rw[List.getElem?_set_ne (Ne.symm ht)] at hx;obtain⟨u',hu',hr⟩:=h t x hx;exact⟨u',by simp[Act.put,Array.getElem?_setIfInBounds_ne (Ne.symm ht),hu'],hr⟩
theorem put_defers(a:Act)(dst:Option Tmp)(u:Value):(a.put dst u).defers=a.defers:=by cases dst <;> rfl
theorem Rel.put(h:Rel E base S φ st a w)(dst:Option Tmp){v:AV}{u:Value}(hv:RAV E.L S φ w v u):Rel E base S φ { st with tm:=jh st.tm dst v } (a.put dst u) w :=
 ⟨h.glob,h.tm.put dst hv,h.blk,h.inj,h.lt,h.base,by rw[put_defers];exact h.dfr⟩
theorem Rel.ev(h:Rel E base S φ st a w)(x:Operand)(v:AV)(hx:evO E st.tm x=some v):RAV E.L S φ w v (a.eval x) :=
 evO_sound hx (λt v _ hv=>h.tm t v hv) h.glob
def RoomKeep(w w':World)(cb:Nat):Prop:=∀n,Room w cb n->Room w' cb n
theorem RoomKeep.of{cb:Nat}(h:w'.heap[cb]? = w.heap[cb]?):RoomKeep w w' cb:=λn ⟨cs,t,h1,h2⟩=>⟨cs,t,h.trans h1,h2⟩
theorem Room.lt{cb n:Nat}(h:Room w cb n):cb<w.heap.size:=by obtain⟨cs,t,h1,_⟩:=h;exact(Array.getElem?_eq_some_iff.1 h1).1
structure But(cb:Nat)(w w':World):Prop where
 os:w'.os=w.os
 tape:w'.tape=w.tape
 output:w'.output=w.output
 size:w.heap.size<=w'.heap.size
 block:∀k,k<w.heap.size->k≠cb->w'.heap[k]? = w.heap[k]?
 room:RoomKeep w w' cb
theorem But.below{cb:Nat}(h:But cb w w')(hb:base<=w.heap.size)(hc:base<=cb):Below base w w' :=
 ⟨h.os,h.tape,h.output,h.size,λk hk=>h.block k (by omega) (by omega)⟩
theorem But.keep{cb:Nat}(h:But cb w w')(hlt:∀b,S b->b<w.heap.size)(hS:¬S cb):Keep S S φ φ w w' :=
 ⟨λ_ h=>h,λb hb=>h.block b (hlt b hb) (by rintro rfl;exact hS hb),λ_ _ h=>h,λb cb' n _ hr=>by
  by_cases e:cb'=cb
  ·subst e;exact h.room n hr
  ·exact RoomKeep.of (h.block cb' hr.lt e) n hr⟩
theorem But.grow{cb:Nat}(h:But cb w w')(hlt:∀b,S b->b<w.heap.size)(hS:¬S cb)(hb:base<=w.heap.size)(hc:base<=cb):Grow base S S w w' :=
 ⟨h.below hb hc,λ_ h=>h,λ_ h=>.inl h,λb hb=>h.block b (hlt b hb) (by rintro rfl;exact hS hb)⟩
theorem But.alloc(w:World)(o:Obj)(cb:Nat):But cb w (w.alloc o) :=
 ⟨rfl,rfl,rfl,by simp,λk hk _=>Below.heap_alloc _ _ _ hk,RoomKeep_alloc cb⟩
where RoomKeep_alloc (cb:Nat):RoomKeep w (w.alloc o) cb:=λn hr=>RoomKeep.of (Below.heap_alloc _ _ _ hr.lt) n hr
theorem But.drew(w:World)(cb:Nat):But cb w w.drew:=⟨rfl,rfl,rfl,Nat.le_refl _,λ_ _ _=>rfl,λ_ h=>h⟩
theorem But.trans{cb:Nat}{w'':World}(h:But cb w w')(k:But cb w' w''):But cb w w'' :=
 ⟨k.os.trans h.os,k.tape.trans h.tape,k.output.trans h.output,Nat.le_trans h.size k.size,λi hi hne=>(k.block i (by have:=h.size;omega) hne).trans (h.block i hi hne),λn hr=>k.room n (h.room n hr)⟩
theorem Rel.new(h:Rel E base S φ st a w){s cb:Nat}{blk:Blk}(hφ:φ s=none)(hb:base<=cb)(hS:¬S cb)(hw:But cb w w')
  (hsl:∀b ob,slot st.hp b=some ob->φ b≠some cb) (hr:RB E.L S (upd φ s (some cb)) w' blk cb) :
  Rel E base S (upd φ s (some cb)) { st with hp:=st.hp.set s (some ⟨false,blk⟩) } a w':=by
 have k0:Keep S S φ φ w w':=hw.keep h.lt hS;have k:Keep S S φ (upd φ s (some cb)) w w':=⟨k0.sub,k0.heap,λb c hc=>by
  unfold upd;rw[if_neg (by rintro rfl;rw[hφ] at hc;cases hc)];exact hc,k0.room⟩
 refine⟨h.glob.mono k.sub k.heap,h.tm.mono k,λb ob hob=>?_,λb b' ob ob' c h1 h2 e1 e2=>?_,λb hb=>Nat.lt_of_lt_of_le (h.lt b hb) hw.size,Nat.le_trans h.base hw.size,h.dfr⟩
 ·rcases Jr hob with ⟨rfl,e⟩ | ⟨hne,e⟩
  ·injection e with e;subst e
   exact⟨cb,by simp[upd],hb,hr,by simp[hS]⟩
  ·obtain⟨c,hc,h1,h2,h3⟩:=h.blk b ob e;have hcc:c≠cb:=by rintro rfl;exact hsl b ob e hc
   exact⟨c,k.phi b c hc,h1,h2.mono k (hw.block c h2.lt hcc),h3⟩
 ·rcases Jr h1 with ⟨rfl,_⟩ | ⟨n1,s1⟩ <;> rcases Jr h2 with ⟨rfl,_⟩ | ⟨n2,s2⟩
  ·rfl
  ·simp only[upd,if_true,if_neg n2] at e1 e2;injection e1 with e1;subst e1
   exact absurd e2 (hsl _ _ s2)
  ·simp only[upd,if_true,if_neg n1] at e1 e2;injection e2 with e2;subst e2
   exact absurd e1 (hsl _ _ s1)
  ·simp only[upd,if_neg n1,if_neg n2] at e1 e2;exact h.inj b b' ob ob' c s1 s2 e1 e2
theorem Rel.write(h:Rel E base S φ st a w){s cb:Nat}{blk blk0:Blk}(hs:slot st.hp s=some ⟨false,blk0⟩)(hφ:φ s=some cb)(hw:But cb w w')(hr:RB E.L S φ w' blk cb) :
  Rel E base S φ { st with hp:=st.hp.set s (some ⟨false,blk⟩) } a w':=by
 obtain⟨c,hc,hb,_,hS⟩:=h.blk s _ hs;rw[hφ] at hc;injection hc with hc;subst hc
 have hS:¬S cb:=λhh=>by simpa using hS.1 hh
 have k:Keep S S φ φ w w':=hw.keep h.lt hS;refine⟨h.glob.mono k.sub k.heap,h.tm.mono k,λb ob hob=>?_,λb b' ob ob' c h1 h2 e1 e2=>?_,λb hb=>Nat.lt_of_lt_of_le (h.lt b hb) hw.size,Nat.le_trans h.base hw.size,h.dfr⟩
 ·rcases Jr hob with ⟨rfl,e⟩ | ⟨hne,e⟩
  ·injection e with e;subst e
   exact⟨cb,hφ,hb,hr,by simp[hS]⟩
  ·obtain⟨c,hc,h1,h2,h3⟩:=h.blk b ob e;have hcc:c≠cb:=by rintro rfl;exact hne (h.inj b s _ _ _ e hs hc hφ)
   exact⟨c,hc,h1,h2.mono k (hw.block c h2.lt hcc),h3⟩
 ·have key:∀{x:Nat} {o:OB},slot (st.hp.set s (some ⟨false,blk⟩)) x=some o->∃o',slot st.hp x=some o':=by
   intro x o hx;rcases Jr hx with ⟨rfl,_⟩ | ⟨_,hx⟩
   ·exact⟨_,hs⟩
   ·exact⟨_,hx⟩
  obtain⟨o1,h1⟩:=key h1;obtain⟨o2,h2⟩:=key h2;exact h.inj b b' o1 o2 c h1 h2 e1 e2
theorem Rel.drop(h:Rel E base S φ st a w)(s:Nat):Rel E base S φ { st with hp:=st.hp.set s none } a w:=by
 have key:∀{x:Nat} {o:OB},slot (st.hp.set s none) x=some o->x≠s/\slot st.hp x=some o:=by
  intro x o hx;rcases Jr hx with ⟨rfl,e⟩ | hx
  ·cases e
  ·exact hx
 exact⟨h.glob,h.tm,λb ob hob=>h.blk b ob (key hob).2,λb b' ob ob' c h1 h2 e1 e2=>h.inj b b' ob ob' c (key h1).2 (key h2).2 e1 e2,h.lt,h.base,h.dfr⟩
theorem Rel.world(h:Rel E base S φ st a w)(g:Grow base S S' w w')(hlt:∀b,S' b->b<w'.heap.size)(hown:∀b,b<w.heap.size->¬S b->¬S' b)
  (hblk:∀b,b<w.heap.size->w'.heap[b]? = w.heap[b]?):Rel E base S' φ st a w':=by
 have k:Keep S S' φ φ w w':=⟨g.sub,g.kept,λ_ _ h=>h,λb cb n _ hr=>RoomKeep.of (hblk cb hr.lt) n hr⟩
 refine⟨h.glob.mono k.sub k.heap,h.tm.mono k,λb ob hob=>?_,h.inj,hlt,Nat.le_trans h.base g.below.size,h.dfr⟩
 obtain⟨c,hc,h1,h2,h3⟩:=h.blk b ob hob;refine⟨c,hc,h1,h2.mono k (hblk c h2.lt),⟨λhh=>h3.1 (Classical.byContradiction λhn=>hown c h2.lt hn hh),λhh=>g.sub _ (h3.2 hh)⟩⟩
theorem Rel.freeze1(h:Rel E base S φ st a w)(b:Nat):∃S',Rel E base S' φ { st with hp:=Am.freeze1 st.hp b } a w/\Grow base S S' w w/\(∀ob,slot st.hp b=some ob->∀cb,φ b=some cb->S' cb) /\
  ∀x,S' x->S x\/∃ob,slot st.hp b=some ob/\φ b=some x:=by
 unfold Am.freeze1;cases hs:slot st.hp b with
 | none=>exact⟨S,h,Grow.refl,(λob hob=>by cases hob),λx hx=>.inl hx⟩
 | some ob =>
  obtain⟨cb,hcb,hbase,hrb,hS⟩:=h.blk b ob hs;let S':Nat->Prop:=λx=>S x\/x=cb
  have k:Keep S S' φ φ w w:=⟨λ_ h=>.inl h,λ_ _=>rfl,λ_ _ h=>h,λ_ _ _ _ h=>h⟩
  refine⟨S',⟨h.glob.mono k.sub k.heap,h.tm.mono k,λx o hx=>?_,λx x' o o' c h1 h2 e1 e2=>?_,λx hx=>?_,h.base,h.dfr⟩,⟨Below.refl _ _,k.sub,λx hx=>?_,λ_ _=>rfl⟩,λo ho c hc=>?_,λx hx=>?_⟩
  ·rcases Jr hx with ⟨rfl,e⟩ | ⟨hne,hx⟩
   ·injection e with e;subst e
    exact⟨cb,hcb,hbase,hrb.mono k rfl,by simp[S']⟩
   ·obtain⟨c,hc,h1,h2,h3⟩:=h.blk x o hx;refine⟨c,hc,h1,h2.mono k rfl,⟨λhh=>hh.elim h3.1 λe=>?_,λhh=>.inl (h3.2 hh)⟩⟩
    subst e;exact absurd (h.inj x b _ _ _ hx hs hc hcb) hne
  ·have key:∀{y:Nat} {o:OB},slot (st.hp.set b (some { ob with fz:=true })) y=some o->∃o',slot st.hp y=some o':=by
    intro y o hy;rcases Jr hy with ⟨rfl,_⟩ | ⟨_,hy⟩
    ·exact⟨_,hs⟩
    ·exact⟨_,hy⟩
   obtain⟨o1,h1⟩:=key h1;obtain⟨o2,h2⟩:=key h2;exact h.inj x x' o1 o2 c h1 h2 e1 e2
  ·rcases hx with hx | rfl
   ·exact h.lt x hx
   ·exact hrb.lt
  ·rcases hx with hx | rfl
   ·exact .inl hx
   ·exact .inr hbase
  ·rw[hcb] at hc;injection hc with hc;exact .inr hc.symm
  ·rcases hx with hx | rfl
   ·exact .inl hx
   ·exact .inr ⟨ob,rfl,hcb⟩
theorem Yv(b:Nat)(l:List AV):qd b l=l.map (jd b):=by
 induction l with
 | nil=>rfl
 | cons v r ih=>simp[qd,ih]
theorem zAl(b:Nat)(v:AV):jd b v=.undef\/(jd b v).isAgg=v.isAgg:=by cases v <;> simp only[jd] <;> first | (split <;> simp[AV.isAgg];done) | (simp[AV.isAgg];done)
theorem RA.kill{s:Nat}{v:AV}{cs:List Value}(h:RA E.L S φ w v cs):RA E.L S (upd φ s none) w (jd s v) cs:=by
 have hup:∀{b cb:Nat},φ b=some cb->¬b=s->upd φ s none b=some cb:=by intro b cb hb hne;simp[upd,hne,hb]
 induction h with
 | d x cs h=>exact .d x cs h
 | undef cs h1=>exact .undef cs h1
 | own b off len sz cb c hb hc hr =>
  simp only[jd];split
  ·exact .undef _ (by intro u hu;simp at hu;subst hu;rfl)
  ·exact .own b off len sz cb c (hup hb (by assumption)) hc hr
 | own0 b off sz x =>
  simp only[jd];split
  ·exact .undef _ (by intro u hu;simp at hu;subst hu;rfl)
  ·exact .own0 b off sz x
 | ptr b sz e p cb hb =>
  simp only[jd];split
  ·exact .undef _ (by intro u hu;simp at hu;subst hu;rfl)
  ·exact .ptr b sz e p cb (hup hb (by assumption))
 | omp b r hb =>
  simp only[jd];split
  ·exact .undef _ (by intro u hu;simp at hu;subst hu;rfl)
  ·exact .omp b r (hup hb (by assumption))
 | it b r hb =>
  simp only[jd];split
  ·exact .undef _ (by intro u hu;simp at hu;subst hu;rfl)
  ·exact .it b r (hup hb (by assumption))
 | agg tag fs css hl _ hz ih =>
  simp only[jd,Yv];exact .agg tag _ css (by simpa using hl) (λi h1 h2=>by simpa using ih i (by simpa using h1) h2) hz
 | fn f x y vx vy hx hy _ h2 _ h4 ih1 ih3 =>
  simp only[jd,Yv];refine .fn f _ _ vx vy (by simpa using hx) (by simpa using hy) (λi a b=>by simpa using ih1 i (by simpa using a) b) (λi a b=>?_) (λi a b=>by simpa using ih3 i (by simpa using a) b) (λi a b=>?_)
  ·simp only[List.getElem_map];rcases zAl s (x[i]'(by simpa using a)) with e | e
   ·exact .inl e
   ·rcases h2 i (by simpa using a) b with e' | e'
    ·left;rw[e'];rfl
    ·exact .inr (e'.trans e.symm)
  ·simp only[List.getElem_map];rcases zAl s (y[i]'(by simpa using a)) with e | e
   ·exact .inl e
   ·rcases h4 i (by simpa using a) b with e' | e'
    ·left;rw[e'];rfl
    ·exact .inr (e'.trans e.symm)
theorem RAV.kill{s:Nat}{v:AV}{u:Value}(h:RAV E.L S φ w v u):RAV E.L S (upd φ s none) w (jd s v) u:=by
 cases v with
 | undef=>exact trivial
 | d x=>exact h
 | _ =>
  refine RAV.of h.1.kill ?_;rcases zAl s _ with e | e
  ·exact .inl e
  ·exact .inr (h.2.trans e.symm)
theorem Jg{s b:Nat}{ob:OB}(h:slot (clear s st).hp b=some ob):b≠s/\∃ob0,slot st.hp b=some ob0/\J3 s (some ob0)=some ob:=by
 unfold clear at h;rcases Jr h with ⟨_,e⟩ | ⟨hne,h⟩
 ·cases e
 ·refine⟨hne,?_⟩;unfold slot at h ⊢;rw[List.getElem?_map] at h;cases hb:st.hp[b]? with
  | none=>rw[hb] at h;simp at h
  | some o =>
   rw[hb] at h;cases o with
   | none=>simp[J3] at h
   | some ob0 =>
    refine⟨ob0,rfl,?_⟩;simp only[Option.map_some] at h;cases hk:J3 s (some ob0) with
    | none=>rw[hk] at h;simp at h
    | some o=>rw[hk] at h;simpa using h
theorem killO_fz{s:Nat}{ob ob0:OB}(h:J3 s (some ob0)=some ob):ob.fz=ob0.fz:=by
 unfold J3 at h;split at h
 ·rename_i hx;injection hx with hx;subst hx;injection h with h;subst h;rfl
 ·injection h with h;subst h;rfl
theorem RB.kill{s cb:Nat}{ob ob0:OB}(hk:J3 s (some ob0)=some ob)(h:RB E.L S φ w ob0.blk cb):RB E.L S (upd φ s none) w ob.blk cb:=by
 unfold J3 at hk;split at hk
 ·rename_i hx;injection hx with hx;subst hx;injection hk with hk;subst hk
  obtain⟨cs,t,css,h1,h2,h3,h4,h5⟩:=h;exact⟨cs,t,css,h1,by simpa[Yv] using h2,λi a b=>by simpa[Yv] using(h3 i (by simpa[Yv] using a) b).kill,h4,h5⟩
 ·rename_i hne;injection hk with hk;subst hk
  obtain⟨z,blk⟩:=ob0;cases blk with
  | ac sz xs=>exact absurd rfl (hne z sz xs)
  | _=>exact h
theorem Rel.clear(h:Rel E base S φ st a w)(s:Nat):Rel E base S (upd φ s none) (clear s st) a w:=by
 refine⟨h.glob,λt v hv=>?_,λb ob hob=>?_,λb b' ob ob' c h1 h2 e1 e2=>?_,h.lt,h.base,h.dfr⟩
 ·simp only[Am.clear,Yv,List.getElem?_map] at hv;cases ht:st.tm[t]? with
  | none=>rw[ht] at hv;cases hv
  | some x =>
   rw[ht] at hv;injection hv with hv;subst hv
   obtain⟨u,hu,hr⟩:=h.tm t x ht;exact⟨u,hu,hr.kill⟩
 ·obtain⟨hne,ob0,h0,hk⟩:=Jg hob;obtain⟨cb,hc,hb,hr,hS⟩:=h.blk b ob0 h0;exact⟨cb,by simp[upd,hne,hc],hb,hr.kill hk,by rw[killO_fz hk];exact hS⟩
 ·obtain⟨n1,o1,s1,_⟩:=Jg h1;obtain⟨n2,o2,s2,_⟩:=Jg h2;simp only[upd,if_neg n1,if_neg n2] at e1 e2;exact h.inj b b' o1 o2 c s1 s2 e1 e2
end
end Go.Am
namespace Go.Am
open Go.Proofs
open Go Go.RowKit
mutual
theorem killV_id(b:Nat):∀v:AV,zf b v=true->jd b v=v
 | .own c o l s,h=>by simp only[zf,Bool.not_eq_true',beq_eq_false_iff_ne] at h;simp[jd,h]
 | .ptr c s e p,h=>by simp only[zf,Bool.not_eq_true',beq_eq_false_iff_ne] at h;simp[jd,h]
 | .omp c,h=>by simp only[zf,Bool.not_eq_true',beq_eq_false_iff_ne] at h;simp[jd,h]
 | .it c,h=>by simp only[zf,Bool.not_eq_true',beq_eq_false_iff_ne] at h;simp[jd,h]
 | .agg t fs,h=>by simp only[zf] at h;simp only[jd,QX b fs h]
 | .fn f x y,h=>by simp only[zf,Bool.and_eq_true] at h;simp only[jd,QX b x h.1,QX b y h.2]
 | .d x,_=>rfl
 | .undef,_=>rfl
theorem QX(b:Nat):∀l:List AV,jM b l=true->qd b l=l
 | [],_=>rfl
 | v :: r,h=>by simp only[jM,Bool.and_eq_true] at h;simp only[qd,killV_id b v h.1,QX b r h.2]
end
theorem zJj{b:Nat}{z:Bool}{blk:Blk}(h:zh b blk=true):J3 b (some ⟨z,blk⟩)=some ⟨z,blk⟩:=by
 cases blk with
 | ac s xs=>simp only[zh] at h;simp[J3,QX b xs h]
 | _=>rfl
section
variable{P:Program}{E:Env}{base:Nat}{S:Nat->Prop}{φ:Nat->Option Nat}{st:St}{a:Act}{w:World}
def Done(E:Env)(base:Nat)(S:Nat->Prop)(st':St)(a:Act)(dst:Option Tmp)(w:World)(r:Result Next):Prop :=
 ∃n u w' S' φ',r=.ok n w'/\(n=.value u\/(n=.skip/\u=undef))/\Rel E base S' φ' st' (a.put dst u) w'/\Grow base S S' w w'
theorem RB.noRef{s cb:Nat}{blk:Blk}(hn:zh s blk=true)(h:RB E.L S φ w blk cb)(x:Option Nat):RB E.L S (upd φ s x) w blk cb:=by
 have h0:=RB.kill (ob:=⟨false,blk⟩) (ob0:=⟨false,blk⟩) (zJj (z:=false) hn) h;refine h0.mono (φ':=upd φ s x) ⟨λ_ h=>h,λ_ _=>rfl,λb c hc=>?_,λ_ _ _ _ h=>h⟩ rfl
 unfold upd at hc ⊢;split at hc
 ·cases hc
 ·rename_i hne;rw[if_neg hne];exact hc
theorem upd_upd{φ:Nat->Option Nat}{s:Nat}{x y:Option Nat}:upd (upd φ s x) s y=upd φ s y:=by funext b;unfold upd;split <;> rfl
theorem Rel.fresh(h:Rel E base S φ st a w)(b:Nat)(ob:OB)(hb:slot st.hp b=some ob):φ b≠some w.heap.size:=by
 obtain⟨c,hc,_,hr,_⟩:=h.blk b ob hb;rw[hc];intro e;injection e with e;have:=hr.lt;omega
theorem Rel.freshS(h:Rel E base S φ st a w):¬S w.heap.size:=λhs=>by have:=h.lt _ hs;omega
theorem Rel.newObj(h:Rel E base S φ st a w){s:Nat}{blk:Blk}{o:Obj}(hr:RB E.L S φ (w.alloc o) blk w.heap.size)(hn:zh s blk=true) :
  Rel E base S (upd φ s (some w.heap.size)) { Am.clear s st with hp:=(Am.clear s st).hp.set s (some ⟨false,blk⟩) } a (w.alloc o)/\Grow base S S w (w.alloc o):=by
 have h0:=h.clear s;have hw:=But.alloc w o w.heap.size;have:=h0.new (s:=s) (cb:=w.heap.size) (blk:=blk) (by simp[upd]) h0.base h0.freshS hw (λb ob hb=>h0.fresh b ob hb) (by rw[upd_upd];exact hr.noRef hn _)
 rw[upd_upd] at this;exact⟨this,hw.grow h0.lt h0.freshS h0.base h0.base⟩
def NewTo(P:Program)(E:Env)(S:Nat->Prop)(φ:Nat->Option Nat)(w:World)(s:Nat)(m:Sem Value)(ef:Eff):Prop :=
 ∃v blk u o,ef={ v,new:=some blk }/\m.run P w=.ok u (w.alloc o)/\RB E.L S φ (w.alloc o) blk w.heap.size/\∀φ',φ' s=some w.heap.size->RAV E.L S φ' (w.alloc o) v u
theorem NewTo.done(h:Rel E base S φ st a w){o:Oper}{m:Sem Value}{ef:Eff}(hn:NewTo P E S φ w (zW o) m ef)(hm:(execOp a.eval o).run P w=(do pure (.value (<-m)):Sem Next).run P w){st':St}
  (hs:(match ef.new with
   | none=>some (zj ef o.dst (zW o) st)
   | some b=>zm (o.dst.isSome && zh (zW o) b) (some (zj ef o.dst (zW o) (clear (zW o) st))))=some st') :
  Done E base S st' a o.dst w ((execOp a.eval o).run P w):=by
 obtain⟨v,blk,u,ob,rfl,hrun,hr,hv⟩:=hn;obtain⟨hg,hs⟩:=zE hs;simp only[Bool.and_eq_true] at hg;injection hs with hs;subst hs
 obtain⟨hrel,hgrow⟩:=h.newObj hr hg.2;refine⟨_,u,w.alloc ob,S,upd φ (zW o) (some w.heap.size),by rw[hm];simp[hrun],.inl rfl,?_,hgrow⟩
 exact hrel.put o.dst (hv _ (by simp[upd]))
theorem QY(w:World)(o:Obj):(w.alloc o).heap[w.heap.size]? = some o:=heap_alloc_new w o
theorem Room.new(w:World)(cs:Array Value)(t:TypeId)(n:Nat)(h:n<=cs.size):Room (w.alloc (.cells cs t)) w.heap.size n:=⟨cs,t,QY w _,h⟩
theorem Keep.alloc(hlt:∀b,S b->b<w.heap.size)(o:Obj):Keep S S φ φ w (w.alloc o) :=
 ⟨λ_ h=>h,λb hb=>Below.heap_alloc _ _ _ (hlt b hb),λ_ _ h=>h,λ_ _ n _ hr=>RoomKeep.of (Below.heap_alloc _ _ _ hr.lt) n hr⟩
theorem RB.mk{sz:Nat}{vs:List AV}{css:List (List Value)}{cs:Array Value}{t:TypeId}(hlt:∀b,S b->b<w.heap.size)(hl:css.length=vs.length)(hr:∀i (h:i<vs.length) (h':i<css.length),RA E.L S φ w vs[i] css[i])
  (hz:∀c∈css,c.length=sz) (hp:css.flatten <+: cs.toList):RB E.L S φ (w.alloc (.cells cs t)) (zGk sz vs) w.heap.size:=by
 have k:Keep S S φ φ w (w.alloc (.cells cs t)):=Keep.alloc hlt _;unfold zGk;split
 ·rename_i ds hd;have e:=zA4 hd;subst e;refine⟨cs,t,css,QY w _,by simpa using hl,λi h1 h2=>?_,hz,hp⟩
  have:=hr i (by simpa using h1) h2
  simp only[List.getElem_map] at this;cases this with
  | d _ _ h=>exact h.mono k.sub k.heap
 ·exact⟨cs,t,css,QY w _,hl,λi h1 h2=>(hr i h1 h2).mono k,hz,hp⟩
theorem RB.mkD{sz:Nat}{xs:List DV}{css:List (List Value)}{cs:Array Value}{t:TypeId}(hlt:∀b,S b->b<w.heap.size)(hl:css.length=xs.length)(hr:∀i (h:i<xs.length) (h':i<css.length),RD E.L S w xs[i] css[i])
  (hz:∀c∈css,c.length=sz) (hp:css.flatten <+: cs.toList):RB E.L S φ (w.alloc (.cells cs t)) (.dc sz xs) w.heap.size :=
 ⟨cs,t,css,QY w _,hl,λi h1 h2=>(hr i h1 h2).mono (λ_ h=>h) λb hb=>Below.heap_alloc _ _ _ (hlt b hb),hz,hp⟩
theorem RV.len{x:DV}{v:Value}(hx:x.isTup=false)(h:RV E.L S w x v):(vcs v).length=JZ E.L (.d x):=(RV.rd hx h).1.len
theorem zH2(hD:DOK P E)(hlt:∀b,S b->b<w.heap.size){t:TypeId}{s:Nat}{ef:Eff}
  (h:(bnd (E.D t) λtd=>zm (decide (0<td.size)) <| some { v:=.ptr s td.size 0 [],new:=some (.dc td.size [td.zero]):Eff })=some ef) :
  NewTo P E S φ w s (Instr.alloc t true (.tuple #[])) ef:=by
 obtain⟨td,htd,h⟩:=zA h;obtain⟨_,h⟩:=zE h;injection h with h;subst h
 have ht:=hD t td htd;obtain⟨i,z,hi,hsz,_,hz,hzr⟩:=ht.info;obtain⟨z',hz',hzr'⟩:=ht.zeroValue;have ez:z'=z:=by have:=hz' w;simp[Go.zeroValue,Go.typeInfo,hi,hz] at this;exact this.symm
 subst ez;have hrd:=RV.rd ht.zt (hzr S w);refine⟨_,_,.pointer (some ⟨w.heap.size,0,none⟩),.cells z'.cells t,rfl,by simp[Instr.alloc,hz',newVar,newRow],?_,λφ' hφ=>RAV.mkPtr hφ (by simp[Yo])⟩
 refine RB.mkD hlt (css:=[vcs z']) rfl (λk h1 h2=>?_) (λc hc=>?_) (by simp[vcs])
 ·simp only[List.length_singleton] at h1;have:k=0:=by omega
  subst this;exact hrd.1
 ·simp only[List.mem_singleton] at hc;subst hc;rw[hrd.1.len];have hs:=ht.size;exact(jP ht ht.zfit).1.symm
theorem boxE_sound(hD:DOK P E)(hlt:∀b,S b->b<w.heap.size){t:TypeId}{s:Nat}{x:AV}{u:Value}(hu:RAV E.L S φ w x u){ef:Eff}
  (h:(bnd (E.D t) λtd=>zm (fits td x && decide (JZ E.L x=td.size/\0<td.size)) <| some { v:=.ptr s td.size 0 [],new:=some (zGk td.size [x]):Eff })=some ef) :
  NewTo P E S φ w s (Instr.box t u) ef:=by
 obtain⟨td,htd,h⟩:=zA h;obtain⟨hg,h⟩:=zE h;simp only[Bool.and_eq_true,decide_eq_true_eq] at hg;obtain⟨hf,hsz,_⟩:=hg;injection h with h;subst h
 have ht:=hD t td htd;obtain⟨hra,hag⟩:=hu.cells (jP ht hf).2.2;have hx:x≠.undef:=by rintro rfl;have:=(jP ht hf).2.2;simp[stores] at this
 refine⟨_,_,.pointer (some ⟨w.heap.size,0,none⟩),.cells u.cells t,rfl,by simp[Instr.box,newVar,newRow],?_,λφ' hφ=>RAV.mkPtr hφ (by simp[Yo])⟩
 refine RB.mk hlt (css:=[vcs u]) rfl (λk h1 h2=>?_) (λc hc=>?_) (by simp[vcs])
 ·simp only[List.length_singleton] at h1;have:k=0:=by omega
  subst this;exact hra
 ·simp only[List.mem_singleton] at hc;subst hc;rw[hra.len hx];exact hsz
theorem qs{α:Type}(n:Nat)(c:List α):(List.replicate n c).flatten.length=n * c.length:=by
 induction n with
 | zero=>simp
 | succ n ih=>simp[List.replicate_succ,ih,Nat.succ_mul,Nat.add_comm]
theorem YL{α:Type}(c:List α):∀(n j:Nat),j<n * c.length->(List.replicate n c).flatten[j]? = c[j % c.length]?
 | 0,j,h=>by simp at h
 | n+1,j,h=>by
  rw[List.replicate_succ,List.flatten_cons];by_cases hj:j<c.length
  ·rw[List.getElem?_append_left hj,Nat.mod_eq_of_lt hj]
  ·rw[List.getElem?_append_right (by omega),YL c n (j - c.length) (by rw[Nat.add_mul,Nat.one_mul] at h;omega)]
   congr 1;exact(Nat.mod_eq_sub_mod (by omega)).symm
theorem zAa(z:Array Value)(n:Nat):(madeCells z (n * z.size)).toList=(List.replicate n z.toList).flatten:=by
 apply List.ext_getElem?;intro j;by_cases hj:j<n * z.size
 ·have hz:0<z.size:=by
   rcases Nat.eq_zero_or_pos z.size with e | e
   ·rw[e] at hj;simp at hj
   ·exact e
  rw[YL z.toList n j (by simpa using hj)]
  have hm:j % z.size<z.size:=Nat.mod_lt _ hz;simp[madeCells,hj,hm,getElem!_pos]
 ·have h1:(madeCells z (n * z.size)).toList.length=n * z.size:=by simp[size_madeCells]
  have h2:(List.replicate n z.toList).flatten.length=n * z.size:=by rw[qs];simp
  rw[List.getElem?_eq_none (by omega),List.getElem?_eq_none (by omega)]
theorem zCo(hD:DOK P E)(hlt:∀b,S b->b<w.heap.size){t:TypeId}{s:Nat}{l c:AV}{ul uc:Value}(hl:RAV E.L S φ w l ul)(hc:RAV E.L S φ w c uc){ef:Eff}(h:Jh E t s l c=some ef) :
  NewTo P E S φ w s (Instr.makeSlice t ul uc) ef:=by
 unfold Jh at h;obtain⟨td,htd,h⟩:=zA h;have ht:=hD t td htd;split at h
 case h_2=>simp at h
 rename_i e hk;obtain⟨ed,hed,h⟩:=zA h;obtain⟨n,hn,h⟩:=zA h;obtain⟨m,hm,h⟩:=zA h;obtain⟨hg,h⟩:=zE h;simp only[decide_eq_true_eq] at hg;obtain⟨hs0,hn0,hnm,hby,hmx⟩:=hg;injection h with h;subst h
 subst hnm;obtain⟨kl,rfl,_⟩:=QL hn hl;obtain⟨kc,rfl,_⟩:=QL hm hc;have he:=hD e ed hed;obtain⟨i,z,hi,hsz,hbz,hz,hzr⟩:=he.info;have hrd:=RV.rd he.zt (hzr S w);have hzl:z.cells.size=ed.size:=by have h1:(vcs z).length=JZ E.L (.d ed.zero):=hrd.1.len;rw[<-(jP he he.zfit).1] at h1;simpa[vcs] using h1
 have hrun:=run_make (P:=P) w t e i z (QO ht hk) hi hz kl kc n n hn0 (by omega) (by rw[hbz];exact hby) hmx
 have hcells:madeCells z.cells (n.toNat * i.size)=madeCells z.cells (n.toNat * z.cells.size):=by rw[hsz,hzl]
 refine⟨_,_,.slice (some ⟨w.heap.size,0,none⟩) n.toNat n.toNat,.cells (madeCells z.cells (n.toNat * z.cells.size)) e,rfl,by rw[<-hcells];exact hrun,?_,λφ' hφ=>?_⟩
 ·refine RB.mkD hlt (css:=List.replicate n.toNat (vcs z)) (by simp) (λk h1 h2=>?_) (λc hc=>?_) ?_
  ·simp only[List.getElem_replicate];exact hrd.1
  ·rw[List.mem_replicate] at hc;rw[hc.2];simpa[vcs] using hzl
  ·rw[zAa];exact List.prefix_refl _
 ·refine⟨?_,rfl⟩;have:=RA.own (L:=E.L) (S:=S) (φ:=φ') (w:=w.alloc (.cells (madeCells z.cells (n.toNat * z.cells.size)) e)) s 0 n.toNat ed.size w.heap.size n.toNat hφ (Nat.le_refl _)
   (Room.new _ _ _ _ (by rw[size_madeCells,hzl];simp))
  simpa[vcs,Value.cells] using this
theorem zBy(hD:DOK P E)(hlt:∀b,S b->b<w.heap.size){t:TypeId}{s n:Nat}{ps:List (Nat×AV)}{us:Array (Nat×Value)}{ef:Eff}(h:JB E t s n ps=some ef)(hu:zBR E.L S φ w ps us.toList) :
  NewTo P E S φ w s (Instr.buildSlice t n us) ef\/(ef={ v:=.d .nl }/\∃u o,(Instr.buildSlice t n us).run P w=.ok u (w.alloc o)/\∀w',RV E.L S w' .nl u):=by
 unfold JB at h;obtain⟨td,htd,h⟩:=zA h;have ht:=hD t td htd;split at h
 case h_2=>simp at h
 rename_i e hk;obtain⟨ed,hed,h⟩:=zA h;obtain⟨hg,h⟩:=zE h;simp only[decide_eq_true_eq] at hg;obtain⟨hs0,hcap⟩:=hg;obtain⟨vs,hvs,h⟩:=zA h;have he:=hD e ed hed;obtain⟨i,z,hi,hsz,hbz,hz,hzr⟩:=he.info;have hrd:=RV.rd he.zt (hzr S w);have hzl:z.cells.size=ed.size:=by have h1:(vcs z).length=JZ E.L (.d ed.zero):=hrd.1.len;rw[<-(jP he he.zfit).1] at h1;simpa[vcs] using h1
 have hmade:((Array.range (n * ed.size)).map λx=>z.cells[x % z.cells.size]!)=madeCells z.cells (n * z.cells.size):=by unfold madeCells;rw[hzl]
 obtain⟨cells',css',h1,h2,h3,h4,h5,h6⟩:=zBo (E:=E) (S:=S) (φ:=φ) (w:=w) (List.replicate n ed.size) (λi=>some (i * ed.size,ed.size)) (λi hi=>by
   simp only[List.length_replicate] at hi;simp only[List.take_replicate,List.sum_replicate_nat,List.getElem_replicate,Nat.min_eq_left (Nat.le_of_lt hi)]) ps us.toList _ vs (List.replicate n (vcs z)) (madeCells z.cells (n * z.cells.size)) hvs hu (by simp)
   (λk a b=>by simp only[List.getElem_replicate];exact .d _ _ hrd.1) (by simp[vcs,hzl]) (zAa _ _)
 have hrun:(Instr.buildSlice t n us).run P w=.ok (.slice (some ⟨w.heap.size,0,none⟩) n n) (w.alloc (.cells cells' e)):=by
  have hc:¬n * ed.size>2 ^ 24:=by omega
  have hso:=he.sizeOf w;unfold Instr.buildSlice;simp only[Sem.run_bind,run_underlying (QO ht hk),Result.andThen_ok,hso];rw[if_neg hc];by_cases hn:n * ed.size=0
  ·have hn0:n=0:=by
    rcases Nat.mul_eq_zero.1 hn with e | e
    ·exact e
    ·omega
   subst hn0;simp only[Nat.zero_mul,if_true] at h1 ⊢;have e0:madeCells z.cells 0=#[]:=by simp[madeCells]
   rw[e0] at h1;have e1:Array.range 0=#[]:=rfl;simp[e1,h1,newRow]
  ·rw[if_neg hn];have hzv:(zeroValue e).run P w=.ok z w:=by simp[Go.zeroValue,Go.typeInfo,hi,hz]
   simp only[Sem.run_bind,hzv,Result.andThen_ok,Sem.run_pure,hmade];simp[h1,newRow]
 have h2':css'.length=vs.length:=h2;have hlen:vs.length=n:=by rw[h6];simp
 cases n with
 | zero =>
  right;simp[zc] at h;exact⟨h.symm,_,_,hrun,λw'=>⟨.nl _,rfl⟩⟩
 | succ n =>
  left;simp only at h;injection h with h
  refine⟨_,_,_,_,h.symm,hrun,RB.mk hlt h2' h3 (λc hc=>?_) (by rw[h5];exact List.prefix_refl _),λφ' hφ=>?_⟩
  ·have:c.length∈css'.map (·.length):=List.mem_map.2 ⟨c,hc,rfl⟩;rw[h4,List.mem_replicate] at this;exact this.2
  ·refine⟨?_,rfl⟩;have hcl:cells'.size=(n+1) * ed.size:=by rw[<-Array.length_toList,h5,List.length_flatten,h4];simp
   have:=RA.own (L:=E.L) (S:=S) (φ:=φ') (w:=w.alloc (.cells cells' e)) s 0 (n+1) ed.size w.heap.size (n+1) hφ (Nat.le_refl _)
    (Room.new _ _ _ _ (by rw[hcl];simp))
   simpa[vcs,Value.cells] using this
theorem zEI{t:TypeId}{s:Nat}:NewTo P E S φ w s (Instr.makeMap t none) { v:=.omp s,new:=some (.mp [] []) } :=
 ⟨_,_,.map (some w.heap.size),.map #[] 0,rfl,by simp[Instr.makeMap],⟨[],0,QY w _,rfl,rfl,by simp,by simp⟩,λφ' hφ=>⟨.omp s _ hφ,rfl⟩⟩
theorem zHo{t:TypeId}{s:Nat}{x:AV}{u:Value}(hu:RAV E.L S φ w x u)(hD:DOK P E){td:TD}(htd:E.D t=some td)(hk:td.k=.str){ef:Eff}(h:zGL s x=some ef):NewTo P E S φ w s (Instr.range t u) ef:=by
 unfold zGL at h;split at h
 case h_2=>simp at h
 rename_i b;injection h with h;subst h
 have:=RV.str (show RV E.L S w (.str b) u from hu)
 subst this;have hd:=(hD t td htd).desc;simp only[hk,Dsc] at hd;exact⟨_,_,.pointer (some ⟨w.heap.size,0,none⟩),.stringIter b 0,rfl,by simp[Instr.range,run_underlying hd],QY w _,λφ' hφ=>⟨.it s _ hφ,rfl⟩⟩
end
end Go.Am
namespace Go.Am
open Go.Proofs
open Go Go.RowKit
section
variable{P:Program}{E:Env}{base:Nat}{S:Nat->Prop}{φ:Nat->Option Nat}{st:St}{a:Act}{w:World}
theorem zBk:∀(p:List (Nat×Nat)) {v x:AV} {cs:List Value},zDo p v=some x->RA E.L S φ w v cs ->
  ∃cs',RA E.L S φ w x cs'/\∀j u,cs'[j]? = some u->cs[Yo E.L p+j]? = some u
 | [],v,x,cs,h,hr=>by
  simp[zDo] at h;subst h;exact⟨cs,hr,λj u hj=>by simpa[Yo] using hj⟩
 | (tag,i) :: p,v,x,cs,h,hr=>by
  simp only[zDo] at h;split at h
  case h_2=>simp at h
  rename_i y hy;obtain⟨css,hi,rfl,hz,hr'⟩:=zBl hy hr;obtain⟨cs',h1,h2⟩:=zBk p h hr';refine⟨cs',h1,λj u hj=>?_⟩
  have h3:=h2 j u hj;have hlt:Yo E.L p+j<css[i].length:=(List.getElem?_eq_some_iff.1 h3).1;rw[<-qI css i hi _ hlt,hz] at h3;simpa[Yo,Nat.add_assoc] using h3
theorem qX{cb n:Nat}{cs:Array Value}{t:TypeId}{fr:Nat×Nat}(h:w.heap[cb]? = some (.cells cs t fr)):w.cell? ⟨cb,n,none⟩=cs[n]?:=by simp[World.cell?,h]
theorem YZ{α:Type}{l m:List α}(h:l <+: m){j:Nat}{u:α}(hj:l[j]? = some u):m[j]? = some u:=by obtain⟨r,rfl⟩:=h;rw[List.getElem?_append_left (List.getElem?_eq_some_iff.1 hj).1];exact hj
theorem Blk.get_sound{sz e:Nat}{blk:Blk}{v:AV}{cb:Nat}(h:blk.get sz e=some v)(hr:RB E.L S φ w blk cb) :
  ∃cs',RA E.L S φ w v cs'/\cs'.length=sz/\∀j u,cs'[j]? = some u->w.cell? ⟨cb,e * sz+j,none⟩=some u:=by
 unfold Blk.get at h;split at h
 ·rename_i s xs;split at h
  case isFalse=>simp at h
  rename_i hs;subst hs;split at h
  case h_2=>simp at h
  rename_i x hx;injection h with h;subst h
  obtain⟨cs,t,css,h1,h2,h3,h4,h5⟩:=hr;obtain⟨hlt,rfl⟩:=List.getElem?_eq_some_iff.1 hx;have hc:e<css.length:=by omega
  refine⟨css[e],.d _ _ (h3 e hlt hc),h4 _ (List.getElem_mem hc),λj u hj=>?_⟩
  rw[qX h1];have hjl:j<s:=by rw[<-h4 _ (List.getElem_mem hc)];exact(List.getElem?_eq_some_iff.1 hj).1
  rw[<-JH css h4 e hc j hjl] at hj;simpa using YZ h5 hj
 ·rename_i s xs;split at h
  case isFalse=>simp at h
  rename_i hs;subst hs;obtain⟨cs,t,css,h1,h2,h3,h4,h5⟩:=hr;obtain⟨hlt,rfl⟩:=List.getElem?_eq_some_iff.1 h;have hc:e<css.length:=by omega
  refine⟨css[e],h3 e hlt hc,h4 _ (List.getElem_mem hc),λj u hj=>?_⟩
  rw[qX h1];have hjl:j<s:=by rw[<-h4 _ (List.getElem_mem hc)];exact(List.getElem?_eq_some_iff.1 hj).1
  rw[<-JH css h4 e hc j hjl] at hj;simpa using YZ h5 hj
 ·simp at h
theorem YE{t:TypeId}{td:TD}(ht:TOK P E t td){v:AV}(hf:fits td v=true){ad:Addr}{cs:List Value}(hr:RA E.L S φ w v cs)(hm:∀j u,cs[j]? = some u->w.cell? (ad.add j)=some u) :
  (loadVar t ad).run P w=.ok (ofCells v.isAgg cs) w:=by
 obtain⟨h1,h2,h3⟩:=jP ht hf;have hv:v≠.undef:=by rintro rfl;simp[stores] at h3
 have hl:cs.length=td.size:=by rw[hr.len hv,h1]
 unfold loadVar;rw[Sem.run_bind,ht.isAgg w,Result.andThen_ok,h2];cases hb:v.isAgg with
 | true =>
  simp only[if_true,Sem.run_bind,ht.sizeOf w,Result.andThen_ok];rw[<-hl,run_loadCells_list (P:=P) w ad cs hm];simp[ofCells]
 | false =>
  obtain⟨u,rfl,_⟩:=hr.one hb hv;have:=hm 0 u rfl;rw[show ad.add 0=ad from by unfold Addr.add;simp] at this
  simp[run_load,this,ofCells]
theorem qc(hD:DOK P E)(h:Rel E base S φ st a w){t:TypeId}{x:AV}{u:Value}(hu:RAV E.L S φ w x u){ef:Eff}(hl:JJ E t st.hp x=some ef) :
  ∃v r,ef={ v }/\(Instr.loadAt t u).run P w=.ok r w/\RAV E.L S φ w v r:=by
 unfold JJ at hl;obtain⟨td,htd,hl1⟩:=zA hl;clear hl;have hl:=hl1;clear hl1;have ht:=hD t td htd;split at hl
 ·rename_i y;obtain⟨hf,hl⟩:=zE hl;simp[zc] at hl;subst hl;obtain⟨ad,cs,rfl,hs,_,hm,hr⟩:=RV.dp (show RV E.L S w (.dp y) u from hu)
  have hra:RA E.L S φ w (.d y) cs:=.d _ _ hr;refine⟨_,ofCells y.isAgg cs,rfl,?_,RV.ofCells hr⟩;simp only[Instr.loadAt,Instr.sureAddr,Sem.run_bind,Sem.run_pure,Result.andThen_ok];exact YE ht hf hra hm
 ·rename_i b sz e p;obtain⟨ob,hob,hl⟩:=zA hl;obtain⟨v,hv,hl⟩:=zA hl;obtain⟨y,hy,hl⟩:=zA hl;obtain⟨hf,hl⟩:=zE hl;simp[zc] at hl;subst hl;obtain⟨cb,rfl,hφ⟩:=hu.ptr;obtain⟨cb',hφ',_,hrb,_⟩:=h.blk b ob hob;rw[hφ] at hφ';injection hφ' with hφ';subst hφ'
  obtain⟨cs,hr,_,hm⟩:=Blk.get_sound hv hrb;obtain⟨cs',hr',hm'⟩:=zBk p hy hr;refine⟨_,ofCells y.isAgg cs',rfl,?_,RAV.ofCells hr'⟩;simp only[Instr.loadAt,Instr.sureAddr,Sem.run_bind,Sem.run_pure,Result.andThen_ok];refine YE ht hf hr' λj u hj=>?_
  rw[jk rfl];have:=hm _ u (hm' j u hj);simpa[Nat.add_assoc] using this
 ·simp at hl
theorem RV.mp{ks vs:List DV}{u:Value}(h:RV E.L S w (.mp ks vs) u):∃(r:Nat) (es:List MapEntry) (clock:Nat),u=.map (some r)/\w.heap[r]? = some (.map es.toArray clock)/\es.length=ks.length/\es.length=vs.length /\
  (∀i (h:i<ks.length) (h':i<es.length),RD E.L S w ks[i] (vcs es[i].key)/\Jx es[i].key=ks[i].isAgg) /\
  (∀i (h:i<vs.length) (h':i<es.length),RD E.L S w vs[i] (vcs es[i].val)/\Jx es[i].val=vs[i].isAgg):=by
 obtain⟨h,ha⟩:=h;rw[z6 ha] at h;cases h with
 | mp _ _ r es clock _ hr hk hv h1 h2 h3 h4=>exact⟨r,es,clock,rfl,hr,hk,hv,λi a b=>⟨h1 i a b,h2 i a b⟩,λi a b=>⟨h3 i a b,h4 i a b⟩⟩
theorem RAV.omp{b:Nat}{u:Value}(h:RAV E.L S φ w (.omp b) u):∃r,u=.map (some r)/\φ b=some r:=by
 have h:=RAV.one (v:=.omp b) h rfl rfl;cases h with
 | omp _ r hb=>exact⟨r,rfl,hb⟩
theorem RAV.it'{b:Nat}{u:Value}(h:RAV E.L S φ w (.it b) u):∃r,u=.pointer (some ⟨r,0,none⟩)/\φ b=some r:=by
 have h:=RAV.one (v:=.it b) h rfl rfl;cases h with
 | it _ r hb=>exact⟨r,rfl,hb⟩
theorem zDk(h:Rel E base S φ st a w){m:AV}{u:Value}(hu:RAV E.L S φ w m u){mv:List DV×List DV}(hm:Q0 st.hp m=some mv) :
  (u=.map none/\mv=([],[]))\/∃(r:Nat) (es:List MapEntry) (clock:Nat),u=.map (some r)/\w.heap[r]? = some (.map es.toArray clock)/\es.length=mv.1.length/\es.length=mv.2.length /\
   (∀i (h:i<mv.1.length) (h':i<es.length),RD E.L S w mv.1[i] (vcs es[i].key)/\Jx es[i].key=mv.1[i].isAgg) /\
   (∀i (h:i<mv.2.length) (h':i<es.length),RD E.L S w mv.2[i] (vcs es[i].val)/\Jx es[i].val=mv.2[i].isAgg):=by
 unfold Q0 at hm;split at hm
 ·injection hm with hm;subst hm
  exact .inr (RV.mp hu)
 ·injection hm with hm;subst hm
  obtain⟨hr,ha⟩:=(hu:RV E.L S w .nilMp u);rw[z6 ha] at hr;cases hr;exact .inl ⟨rfl,rfl⟩
 ·rename_i b;split at hm
  case h_2=>simp at hm
  rename_i z ks vs hs;injection hm with hm;subst hm
  obtain⟨r,rfl,hφ⟩:=hu.omp;obtain⟨cb,hφ',_,hrb,_⟩:=h.blk b _ hs;rw[hφ] at hφ';injection hφ' with hφ';subst hφ'
  obtain⟨es,clock,h1,h2,h3,h4,h5⟩:=hrb;exact .inr ⟨r,es,clock,rfl,h1,h2,h3,h4,h5⟩
 ·simp at hm
def zJk(td:TD):TypeDesc->Prop:=λd=>match td.k with
 | .int k=>d=.int k
 | .str=>d=.string
 | .bool=>d=.bool
 | _=>False
theorem zB6{t:TypeId}{td:TD}(ht:TOK P E t td){k:DV}(hk:ji td k=true){u:Value}(hu:RV E.L S w k u) :
  ∃d,P.underlying t=some d/\zJk td d/\MapKept.IsKey d u:=by
 have hd:=ht.desc;unfold ji at hk;split at hk <;> try (simp at hk;done)
 ·rename_i j n;split at hk
  case h_2=>simp at hk
  rename_i j' htk;simp only[htk,Dsc] at hd;simp only[beq_iff_eq] at hk;have:=RV.int hu;subst this;exact⟨_,hd,by simp[zJk,htk],by simp[MapKept.IsKey,hk]⟩
 ·split at hk
  case h_2=>simp at hk
  rename_i htk;simp only[htk,Dsc] at hd;have:=RV.str hu;subst this;exact⟨_,hd,by simp[zJk,htk],by simp[MapKept.IsKey]⟩
 ·split at hk
  case h_2=>simp at hk
  rename_i htk;simp only[htk,Dsc] at hd;have:=RV.bool hu;subst this;exact⟨_,hd,by simp[zJk,htk],by simp[MapKept.IsKey]⟩
theorem zBA{td:TD}{d:TypeDesc}(hd:zJk td d){k x:DV}(hk:ji td k=true){b:Bool}(hb:jy k x=some b){u v:Value}(hu:RV E.L S w k u)(hv:RV E.L S w x v):Instr.sameNow d u v=some b:=by
 unfold ji at hk;unfold jy at hb;split at hb
 ·rename_i p q;have e1:=RV.bool hu;have e2:=RV.bool hv;subst e1;subst e2;simp only at hk;split at hk
  case h_2=>simp at hk
  rename_i htk;simp only[zJk,htk] at hd;subst hd;injection hb with hb;subst hb
  rfl
 ·rename_i j p j' q;have e1:=RV.int hu;have e2:=RV.int hv;subst e1;subst e2;simp only at hk;split at hk
  case h_2=>simp at hk
  rename_i htk;simp only[zJk,htk] at hd;subst hd;split at hb
  case isFalse=>simp at hb
  rename_i e;subst e;injection hb with hb;subst hb
  simp[Instr.sameNow]
 ·rename_i p q;have e1:=RV.str hu;have e2:=RV.str hv;subst e1;subst e2;simp only at hk;split at hk
  case h_2=>simp at hk
  rename_i htk;simp only[zJk,htk] at hd;subst hd;injection hb with hb;subst hb
  simp only[Instr.sameNow,Option.some.injEq];have:(p == q)=(p.toList == q.toList):=by
   rw[Bool.eq_iff_iff,MapKept.bytes_beq];simp only[beq_iff_eq];constructor
   ·rintro rfl;rfl
   ·intro e;rw[Go.ByteArray.toList_eq,Go.ByteArray.toList_eq] at e;obtain⟨x⟩:=p;obtain⟨y⟩:=q;rw[show x=y from Array.ext' e]
  exact this
 ·simp at hb
theorem zBJ{td:TD}{d:TypeDesc}(hd:zJk td d){k:DV}(hk:ji td k=true){u:Value}(hu:RV E.L S w k u) :
  ∀(ks vs:List DV) (es:List MapEntry) (n:Nat) (r:Option DV),ja k ks vs=some r->es.length=ks.length->es.length=vs.length ->
   (∀i (h:i<ks.length) (h':i<es.length),RD E.L S w ks[i] (vcs es[i].key)/\Jx es[i].key=ks[i].isAgg) ->
   match r with
   | none=>Instr.findNow d u es n=some none
   | some v=>∃(i:Nat) (h:i<vs.length) (h':i<es.length),vs[i]=v/\Instr.findNow d u es n=some (some (n+i,es[i].val))
 | [],vs,es,n,r,h,h1,h2,h3=>by
  simp[ja] at h;subst h;have:es=[]:=List.eq_nil_of_length_eq_zero h1;subst this;rfl
 | x :: ks,[],es,n,r,h,h1,h2,h3=>by simp[ja] at h
 | x :: ks,v :: vs,[],n,r,h,h1,h2,h3=>by simp at h1
 | x :: ks,v :: vs,e :: es,n,r,h,h1,h2,h3=>by
  simp only[ja] at h;obtain⟨b,hb,h⟩:=zA h;have h0:=h3 0 (by simp) (by simp)
  simp only[List.getElem_cons_zero] at h0;have hs:=zBA hd hk hb hu (RV.of h0.1.notTup h0.1 h0.2);cases b with
  | true =>
   simp only[Option.some.injEq] at h;subst h;exact⟨0,by simp,by simp,rfl,by simp[Instr.findNow,hs]⟩
  | false =>
   have ih:=zBJ hd hk hu ks vs es (n+1) r h (by simpa using h1) (by simpa using h2) (λi a b=>h3 (i+1) (by simp;omega) (by simp;omega))
   cases r with
   | none=>simp only at ih ⊢;simp[Instr.findNow,hs,ih]
   | some y =>
    obtain⟨i,a,b,e1,e2⟩:=ih;refine⟨i+1,by simp;omega,by simp;omega,e1,?_⟩
    simp only[Instr.findNow,hs,e2];simp[Nat.add_assoc,Nat.add_comm 1 i]
theorem zGT(hD:DOK P E)(h:Rel E base S φ st a w){t:TypeId}{m k:AV}{ok:Bool}{um uk:Value}(hum:RAV E.L S φ w m um)(huk:RAV E.L S φ w k uk){ef:Eff}(hl:JN E t st.hp m k ok=some ef) :
  ∃v r,ef={ v }/\(Instr.lookup t um uk ok).run P w=.ok r w/\RAV E.L S φ w v r:=by
 unfold JN at hl;obtain⟨td,htd,hl1⟩:=zA hl;clear hl;have ht:=hD t td htd;split at hl1
 case h_2=>simp at hl1
 rename_i kt et hk;obtain⟨kd,hkd,hl2⟩:=zA hl1;clear hl1;obtain⟨ed,hed,hl3⟩:=zA hl2;clear hl2;split at hl3
 case h_2=>simp at hl3
 rename_i k';obtain⟨hkk,hl4⟩:=zE hl3;clear hl3;obtain⟨mv,hmv,hl5⟩:=zA hl4;clear hl4;obtain⟨r,hr,hl6⟩:=zA hl5;clear hl5;have hmt:=ht.desc;simp only[hk,Dsc] at hmt;obtain⟨d,hd1,hd2,hd3⟩:=zB6 (hD kt kd hkd) hkk (show RV E.L S w k' uk from huk)
 obtain⟨z,hz,hzr⟩:=(hD et ed hed).zeroValue;have hck:∀e,(Instr.checkKey e 10000 kt uk).run P w=.ok () w:=λe=>MapKept.run_checkKey hd1 hd3 e 9999
 have run:∀(es:List MapEntry) (x:Option (Nat×Value)),Instr.findNow d uk es 0=some x->((um=.map none/\es=[])\/∃r clock,um=.map (some r)/\w.heap[r]? = some (.map es.toArray clock)) ->
   (Instr.lookup t um uk ok).run P w=.ok (match x with | some (_,v)=>if ok then .tuple #[v,.bool true] else v | none=>if ok then .tuple #[z,.bool false] else z) w:=by
  intro es x hx hum;have hfk:=MapKept.run_findKey (P:=P) (w:=w) hd1 hx;rcases hum with ⟨rfl,rfl⟩ | ⟨r,clock,rfl,hh⟩
  ·have hfk':(Instr.findKey kt uk []).run P w=.ok x w:=hfk;cases x with
   | none=>simp[Instr.lookup,run_underlying hmt,hck,hfk',hz]
   | some y=>simp[Instr.lookup,run_underlying hmt,hck,hfk',hz]
  ·cases x with
   | none=>simp[Instr.lookup,run_underlying hmt,hck,hfk,hz,MapKept.run_getObj_map hh]
   | some y=>simp[Instr.lookup,run_underlying hmt,hck,hfk,hz,MapKept.run_getObj_map hh]
 have key:∃es:List MapEntry,((um=.map none/\es=[])\/∃r clock,um=.map (some r)/\w.heap[r]? = some (.map es.toArray clock))/\es.length=mv.1.length/\es.length=mv.2.length /\
   (∀i (h:i<mv.1.length) (h':i<es.length),RD E.L S w mv.1[i] (vcs es[i].key)/\Jx es[i].key=mv.1[i].isAgg) /\
   (∀i (h:i<mv.2.length) (h':i<es.length),RD E.L S w mv.2[i] (vcs es[i].val)/\Jx es[i].val=mv.2[i].isAgg):=by
  rcases zDk h hum hmv with ⟨rfl,rfl⟩ | ⟨r,es,clock,rfl,h1,h2,h3,h4,h5⟩
  ·exact⟨[],.inl ⟨rfl,rfl⟩,rfl,rfl,by simp,by simp⟩
  ·exact⟨es,.inr ⟨r,clock,rfl,h1⟩,h2,h3,h4,h5⟩
 obtain⟨es,hes,h2,h3,h4,h5⟩:=key;have hfn:=zBJ (E:=E) hd2 hkk (show RV E.L S w k' uk from huk) mv.1 mv.2 es 0 r hr h2 h3 h4
 cases r with
 | none =>
  simp only at hfn hl6;have hrun:=run es none hfn hes;cases ok with
  | true =>
   simp[zc] at hl6;subst hl6;exact⟨_,_,rfl,hrun,[z,.bool false],rfl,rfl,λi a b=>by
    match i,a with
    | 0,_=>exact RV.rd (hD et ed hed).zt (hzr S w)
    | 1,_=>exact⟨.bool false,rfl⟩⟩
  | false =>
   simp[zc] at hl6;subst hl6;exact⟨_,_,rfl,hrun,hzr S w⟩
 | some v =>
  obtain⟨i,a,b,e1,e2⟩:=hfn;simp only at hl6;have hrun:=run es _ e2 hes;have h6:=h5 i a b;rw[e1] at h6;cases ok with
  | true =>
   simp[zc] at hl6;subst hl6;exact⟨_,_,rfl,hrun,[es[i].val,.bool true],rfl,rfl,λj c d=>by
    match j,c with
    | 0,_=>exact h6
    | 1,_=>exact⟨.bool true,rfl⟩⟩
  | false =>
   simp[zc] at hl6;subst hl6;exact⟨_,_,rfl,hrun,RV.of h6.1.notTup h6.1 h6.2⟩
theorem lenE_sound(hD:DOK P E)(h:Rel E base S φ st a w){ts:Array TypeId}{vs:List AV}{us:List Value}(hu:ListOK E.L S φ w vs us){ef:Eff}(hl:zB5 E ts.toList st.hp vs=some ef)(ty:TypeId) :
  ∃v r,ef={ v }/\(Builtin.len_ ts ty us.toArray).run P w=.ok r w/\RAV E.L S φ w v r:=by
 unfold zB5 at hl;split at hl
 case h_2=>simp at hl
 rename_i x;split at hl
 case h_2=>simp at hl
 rename_i t hts;obtain⟨td,htd,hl1⟩:=zA hl;clear hl;have ht:=hD t td htd;have hd:=ht.desc;obtain⟨u,rfl⟩:∃u,us=[u]:=List.length_eq_one_iff.1 (by simpa using hu.1)
 have hx:=hu.2 0 (by simp) (by simp)
 clear hu;simp only[List.getElem_cons_zero] at hx;have ets:ts=#[t]:=Array.ext' (by simpa using hts)
 subst ets;split at hl1
 ·rename_i s hk;simp only[hk,Dsc] at hd;simp[zc] at hl1;subst hl1;have:=RV.str (show RV E.L S w (.str s) u from hx);subst this
  exact⟨_,goInt s.size,rfl,by simp[Builtin.len_,run_underlying hd],RV.mkInt _ _⟩
 ·rename_i e hk;simp only[hk,Dsc] at hd;simp[zc] at hl1;subst hl1;obtain⟨b,rfl⟩:=RV.nl (show RV E.L S w .nl u from hx)
  exact⟨_,goInt 0,rfl,by simp[Builtin.len_,run_underlying hd],RV.mkInt _ _⟩
 ·rename_i e sz xs hk;simp only[hk,Dsc] at hd;simp[zc] at hl1;subst hl1;obtain⟨b,c,css,rfl,_⟩:=RV.sl (show RV E.L S w (.sl sz xs) u from hx)
  exact⟨_,goInt xs.length,rfl,by simp[Builtin.len_,run_underlying hd],RV.mkInt _ _⟩
 ·rename_i e b off n sz hk;simp only[hk,Dsc] at hd;simp[zc] at hl1;subst hl1;rcases RAV.own hx with ⟨cb,c,_,_,_,rfl⟩ | ⟨b',rfl,rfl⟩
  ·exact⟨_,goInt n,rfl,by simp[Builtin.len_,run_underlying hd],RV.mkInt _ _⟩
  ·exact⟨_,goInt 0,rfl,by simp[Builtin.len_,run_underlying hd],RV.mkInt _ _⟩
 ·rename_i tag n e hk;simp only[hk,Dsc] at hd;simp[zc] at hl1;subst hl1;exact⟨_,goInt n,rfl,by simp[Builtin.len_,run_underlying hd.1],RV.mkInt _ _⟩
 ·rename_i k e hk;simp only[hk,Dsc] at hd;obtain⟨mv,hmv,hl2⟩:=zA hl1;clear hl1;simp[zc] at hl2;subst hl2;rcases zDk h hx hmv with ⟨rfl,rfl⟩ | ⟨r,es,clock,rfl,h1,h2,h3,h4,h5⟩
  ·exact⟨_,goInt 0,rfl,by simp[Builtin.len_,run_underlying hd],RV.mkInt _ _⟩
  ·exact⟨_,goInt mv.1.length,rfl,by simp[Builtin.len_,run_underlying hd,MapKept.run_getObj_map h1,h2],RV.mkInt _ _⟩
 ·simp at hl1
end
end Go.Am
namespace Go.Am
open Go.Proofs
open Go Go.RowKit
theorem Y8{α β:Type}{f:α->Option β}:∀{l:List α} {r:List β},Q2 f l=some r->r.length=l.length/\∀i (h:i<l.length) (h':i<r.length),f l[i]=some r[i]
 | [],r,h=>by simp[Q2] at h;subst h;exact⟨rfl,λi h=>by simp at h⟩
 | x :: l,r,h=>by
  simp only[Q2] at h;split at h
  case h_2=>simp at h
  rename_i y hy;split at h
  case h_2=>simp at h
  rename_i ys hys;injection h with h;subst h
  obtain⟨h1,h2⟩:=Y8 hys;refine⟨by simp[h1],λi a b=>?_⟩
  cases i with
  | zero=>exact hy
  | succ i=>exact h2 i (by simpa using a) (by simpa using b)
section
variable{P:Program}{E:Env}{base:Nat}{S:Nat->Prop}{φ:Nat->Option Nat}{st:St}{a:Act}{w:World}
theorem zEZ{hp:List (Option OB)}{n:Nat}{v:AV}{d:DV}{u:Value}(hs:snap hp n v=some d)(hv:v=.undef\/Jx u=v.isAgg):Jx u=d.isAgg:=by
 rcases hv with rfl | hv
 ·cases n <;> simp[snap] at hs
 rw[hv];cases v with
 | d y=>cases n <;> (simp only[snap] at hs;injection hs with hs;subst hs;rfl)
 | undef=>cases n <;> simp[snap] at hs
 | it b=>cases n <;> simp[snap] at hs
 | omp b =>
  have:∃ks vs,d=.mp ks vs:=by
   cases n <;> (simp only[snap] at hs;split at hs <;> first | (injection hs with hs;exact⟨_,_,hs.symm⟩) | (simp at hs))
  obtain⟨_,_,rfl⟩:=this;rfl
 | own b off len sz =>
  cases n with
  | zero=>simp[snap] at hs
  | succ n =>
   simp only[snap] at hs;split at hs
   ·split at hs
    ·injection hs with hs;subst hs;rfl
    ·simp at hs
   ·split at hs
    ·split at hs
     ·injection hs with hs;subst hs;rfl
     ·simp at hs
    ·simp at hs
   ·simp at hs
 | ptr b sz e p =>
  cases n with
  | zero=>simp[snap] at hs
  | succ n =>
   simp only[snap] at hs
   repeat' (split at hs)
   all_goals first | (simp at hs;done) | (injection hs with hs;subst hs;rfl)
 | agg t fs =>
  cases n with
  | zero=>simp[snap] at hs
  | succ n =>
   simp only[snap] at hs;split at hs
   ·injection hs with hs;subst hs;rfl
   ·simp at hs
 | fn f x y =>
  cases n with
  | zero=>simp[snap] at hs
  | succ n =>
   simp only[snap] at hs;split at hs
   ·injection hs with hs;subst hs;rfl
   ·simp at hs
def Plus(S:Nat->Prop)(φ:Nat->Option Nat)(hp:List (Option OB))(ss:List Nat):Nat->Prop:=λx=>S x\/∃s∈ss,∃ob,slot hp s=some ob/\φ s=some x
theorem Plus.mono{hp:List (Option OB)}{ss tt:List Nat}(h:∀s∈ss,s∈tt):∀x,Plus S φ hp ss x->Plus S φ hp tt x:=λx hx=>hx.imp id λ⟨s,hs,r⟩=>⟨s,h s hs,r⟩
theorem zEY(h:Rel E base S φ st a w):∀(n:Nat) (v:AV) (x:DV) (cs:List Value),snap st.hp n v=some x->RA E.L S φ w v cs->RD E.L (Plus S φ st.hp (sites st.hp n v)) w x cs:=by
 intro n;induction n with
 | zero =>
  intro v x cs hs hr;cases v <;> simp only[snap] at hs <;> try (simp at hs;done)
  ·injection hs with hs;subst hs
   cases hr with
   | d _ _ hr=>exact hr.mono (λb hb=>.inl hb) (λ_ _=>rfl)
  ·rename_i b;split at hs
   case h_2=>simp at hs
   rename_i z ks vs hsl;injection hs with hs;subst hs
   cases hr with
   | omp _ r hb =>
    obtain⟨cb,hc,_,hrb,_⟩:=h.blk b _ hsl;rw[hb] at hc;injection hc with hc;subst hc
    obtain⟨es,clock,h1,h2,h3,h4,h5⟩:=hrb;have hp:Plus S φ st.hp (sites st.hp 0 (.omp b)) r:=.inr ⟨b,by simp[sites],_,hsl,hb⟩
    refine .mp ks vs r es clock hp h1 h2 h3 (λi a b=>(h4 i a b).1.mono (λb hb=>.inl hb) λ_ _=>rfl) (λi a b=>(h4 i a b).2) (λi a b=>(h5 i a b).1.mono (λb hb=>.inl hb) λ_ _=>rfl) (λi a b=>(h5 i a b).2)
 | succ n ih =>
  intro v x cs hs hr;cases v with
  | d y =>
   simp only[snap] at hs;injection hs with hs;subst hs
   cases hr with
   | d _ _ hr=>exact hr.mono (λb hb=>.inl hb) (λ_ _=>rfl)
  | undef=>simp[snap] at hs
  | it b=>simp[snap] at hs
  | omp b =>
   simp only[snap] at hs;split at hs
   case h_2=>simp at hs
   rename_i z ks vs hsl;injection hs with hs;subst hs
   cases hr with
   | omp _ r hb =>
    obtain⟨cb,hc,_,hrb,_⟩:=h.blk b _ hsl;rw[hb] at hc;injection hc with hc;subst hc
    obtain⟨es,clock,h1,h2,h3,h4,h5⟩:=hrb;have hp:Plus S φ st.hp (sites st.hp (n+1) (.omp b)) r:=.inr ⟨b,by simp[sites],_,hsl,hb⟩
    refine .mp ks vs r es clock hp h1 h2 h3 (λi a b=>(h4 i a b).1.mono (λb hb=>.inl hb) λ_ _=>rfl) (λi a b=>(h4 i a b).2) (λi a b=>(h5 i a b).1.mono (λb hb=>.inl hb) λ_ _=>rfl) (λi a b=>(h5 i a b).2)
  | own b off len sz =>
   simp only[snap] at hs;cases hsl:slot st.hp b with
   | none=>rw[hsl] at hs;simp at hs
   | some ob =>
    obtain⟨z,blk⟩:=ob;rw[hsl] at hs;obtain⟨cb,hc,_,hrb,_⟩:=h.blk b _ hsl;cases blk with
    | mp ks vs=>simp at hs
    | sit s p=>simp at hs
    | dc s xs =>
     simp only at hs;split at hs
     case isFalse=>simp at hs
     rename_i hg;obtain⟨rfl,hlen⟩:=hg;injection hs with hs;subst hs
     obtain⟨cells,t,css,h1,h2,h3,h4,h5⟩:=hrb;have hp:Plus S φ st.hp (sites st.hp (n+1) (.own b off len s)) cb:=.inr ⟨b,by simp[sites],_,hsl,hc⟩
     cases hr with
     | own0 _ _ _ x=>exact .sl s _ x 0 0 [] (by simp) (Nat.le_refl _) (by simp) (by simp) (by simp) (by simp)
     | own _ _ _ _ cb' c hb hcl hroom =>
      rw[hb] at hc;injection hc with hc;subst hc
      refine .sl s _ _ len c ((css.drop off).take len) (by simp;omega) hcl (by simp;omega) (λi a1 a2=>?_) (λc hc=>h4 c (List.mem_of_mem_drop (List.mem_of_mem_take hc))) (λh0=>⟨_,rfl,rfl,hp,λj u hj=>?_⟩)
      ·simp only[List.getElem_take,List.getElem_drop];exact(h3 (off+i) (by simp at a1;omega) (by simp at a2;omega)).mono (λb hb=>.inl hb) λ_ _=>rfl
      ·rw[jk rfl];rw[qX h1];have e1:=Jj (css.drop off) len j u hj;rw[Jp css h4 off,List.getElem?_drop] at e1;simpa using YZ h5 e1
    | ac s xs =>
     simp only at hs;split at hs
     case isFalse=>simp at hs
     rename_i hg;obtain⟨rfl,hlen⟩:=hg;split at hs
     case h_2=>simp at hs
     rename_i ds hds;injection hs with hs;subst hs
     obtain⟨hdl,hdi⟩:=Y8 hds;obtain⟨cells,t,css,h1,h2,h3,h4,h5⟩:=hrb;have hp:Plus S φ st.hp (sites st.hp (n+1) (.own b off len s)) cb:=.inr ⟨b,by simp[sites],_,hsl,hc⟩
     have hxl:((xs.drop off).take len).length=len:=by simp;omega
     cases hr with
     | own0 _ _ _ x =>
      have:ds=[]:=List.eq_nil_of_length_eq_zero (by rw[hdl];simp)
      subst this;exact .sl s _ x 0 0 [] (by simp) (Nat.le_refl _) (by simp) (by simp) (by simp) (by simp)
     | own _ _ _ _ cb' c hb hcl hroom =>
      rw[hb] at hc;injection hc with hc;subst hc
      refine .sl s _ _ len c ((css.drop off).take len) (by omega) hcl (by rw[hdl];simp;omega) (λi a1 a2=>?_) (λc hc=>h4 c (List.mem_of_mem_drop (List.mem_of_mem_take hc))) (λh0=>⟨_,rfl,rfl,hp,λj u hj=>?_⟩)
      ·have hi:i<((xs.drop off).take len).length:=by omega
       have:=ih _ _ (((css.drop off).take len)[i]) (hdi i hi a1) (by
        simp only[List.getElem_take,List.getElem_drop];exact h3 (off+i) (by simp at hi;omega) (by simp at a2;omega))
       refine this.mono (Plus.mono λy hy=>?_) λ_ _=>rfl
       simp only[sites,hsl];exact List.mem_cons_of_mem _ (List.mem_flatMap.2 ⟨_,List.getElem_mem hi,hy⟩)
      ·rw[jk rfl];rw[qX h1];have e1:=Jj (css.drop off) len j u hj;rw[Jp css h4 off,List.getElem?_drop] at e1;simpa using YZ h5 e1
  | ptr b sz e p =>
   simp only[snap] at hs;split at hs
   case h_2=>simp at hs
   rename_i ob hsl;split at hs
   case h_2=>simp at hs
   rename_i v hv;split at hs
   case h_2=>simp at hs
   rename_i y hy;split at hs
   case h_2=>simp at hs
   rename_i d hd;split at hs
   case isTrue=>simp at hs
   rename_i htup;injection hs with hs;subst hs
   obtain⟨cb,hc,_,hrb,_⟩:=h.blk b _ hsl;obtain⟨cs1,hr1,_,hm1⟩:=Blk.get_sound hv hrb;obtain⟨cs2,hr2,hm2⟩:=zBk p hy hr1;have hp:Plus S φ st.hp (sites st.hp (n+1) (.ptr b sz e p)) cb:=.inr ⟨b,by simp[sites],_,hsl,hc⟩
   cases hr with
   | ptr _ _ _ _ cb' hb =>
    rw[hb] at hc;injection hc with hc;subst hc
    have hrd:=ih y d cs2 hd hr2;refine .dp d _ cs2 rfl hp (λj u hj=>?_) (hrd.mono (Plus.mono λs hs=>?_) λ_ _=>rfl) (by simpa using htup)
    ·rw[jk rfl];have:=hm1 _ u (hm2 j u hj);simpa[Nat.add_assoc] using this
    ·simp only[sites,hsl,hv,hy];exact List.mem_cons_of_mem _ hs
  | agg tag fs =>
   simp only[snap] at hs;split at hs
   case h_2=>simp at hs
   rename_i ds hds;injection hs with hs;subst hs
   obtain⟨hdl,hdi⟩:=Y8 hds;cases hr with
   | agg _ _ css hl hr hz =>
    refine .agg tag ds css (by omega) (λi a1 a2=>?_) hz
    have hi:i<fs.length:=by omega
    refine(ih _ _ _ (hdi i hi a1) (hr i hi a2)).mono (Plus.mono λs hs=>?_) λ_ _=>rfl
    simp only[sites];exact List.mem_flatMap.2 ⟨_,List.getElem_mem hi,hs⟩
  | fn f x y =>
   simp only[snap] at hs;split at hs
   case h_2=>simp at hs
   rename_i dx dy hdx hdy;injection hs with hs;subst hs
   obtain⟨h1,h2⟩:=Y8 hdx;obtain⟨h3,h4⟩:=Y8 hdy;have agg:=λ{v:AV} {d:DV} {u:Value}=>zEZ (hp:=st.hp) (n:=n) (v:=v) (d:=d) (u:=u)
   cases hr with
   | fn _ _ _ vx vy hx hy k1 k2 k3 k4 =>
    refine .fn f dx dy vx vy (by omega) (by omega) (λi a1 a2=>?_) (λi a1 a2=>agg (h2 i (by omega) a1) (k2 i (by omega) a2)) (λi a1 a2=>?_) (λi a1 a2=>agg (h4 i (by omega) a1) (k4 i (by omega) a2))
    ·refine(ih _ _ _ (h2 i (by omega) a1) (k1 i (by omega) a2)).mono (Plus.mono λs hs=>?_) λ_ _=>rfl
     simp only[sites];exact List.mem_append_left _ (List.mem_flatMap.2 ⟨_,List.getElem_mem _,hs⟩)
    ·refine(ih _ _ _ (h4 i (by omega) a1) (k3 i (by omega) a2)).mono (Plus.mono λs hs=>?_) λ_ _=>rfl
     simp only[sites];exact List.mem_append_right _ (List.mem_flatMap.2 ⟨_,List.getElem_mem _,hs⟩)
theorem snapV(h:Rel E base S φ st a w){n:Nat}{v:AV}{x:DV}(hs:snap st.hp n v=some x){u:Value}(hu:RAV E.L S φ w v u):RV E.L (Plus S φ st.hp (sites st.hp n v)) w x u:=by
 cases v with
 | undef=>cases n <;> simp[snap] at hs
 | d y =>
  have:x=y:=by cases n <;> (simp only[snap] at hs;injection hs with hs;exact hs.symm)
  subst this;exact RV.mono hu (λb hb=>.inl hb) λ_ _=>rfl
 | _ =>
  have hr:=zEY h _ _ _ _ hs hu.1;exact RV.of hr.notTup hr (zEZ hs (.inr hu.2))
theorem zBz{hp:List (Option OB)}{b s:Nat}:(∃ob,slot (freeze1 hp b) s=some ob) ↔ ∃ob,slot hp s=some ob:=by
 unfold freeze1;cases hb:slot hp b with
 | none=>exact Iff.rfl
 | some ob =>
  constructor
  ·rintro⟨o,ho⟩;rcases Jr ho with ⟨rfl,_⟩ | ⟨_,ho⟩
   ·exact⟨ob,hb⟩
   ·exact⟨o,ho⟩
  ·rintro⟨o,ho⟩;by_cases e:s=b
   ·subst e;have hlt:s<hp.length:=by
     unfold slot at ho;rcases Nat.lt_or_ge s hp.length with hh | hh
     ·exact hh
     ·rw[List.getElem?_eq_none hh] at ho;simp at ho
    exact⟨_,by unfold slot;rw[List.getElem?_set_self hlt]⟩
   ·rw[Ja e];exact⟨o,ho⟩
theorem Rel.freezeL(h:Rel E base S φ st a w):∀(ss:List Nat),∃S',Rel E base S' φ { st with hp:=Am.freezeL st.hp ss } a w/\Grow base S S' w w/\∀x,S' x ↔ Plus S φ st.hp ss x:=by
 intro ss;induction ss generalizing S st with
 | nil=>exact⟨S,h,Grow.refl,λx=>⟨.inl,λhx=>hx.elim id λ⟨s,hs,_⟩=>by simp at hs⟩⟩
 | cons b ss ih =>
  obtain⟨S1,h1,g1,f1,f2⟩:=h.freeze1 b;obtain⟨S2,h2,g2,f3⟩:=ih h1;refine⟨S2,h2,g1.trans g2,λx=>(f3 x).trans ⟨λhx=>?_,λhx=>?_⟩⟩
  ·rcases hx with hx | ⟨s,hs,ob,hob,hφ⟩
   ·rcases f2 x hx with hx | ⟨ob,hob,hφ⟩
    ·exact .inl hx
    ·exact .inr ⟨b,by simp,ob,hob,hφ⟩
   ·obtain⟨ob',hob'⟩:=zBz.1 ⟨ob,hob⟩;exact .inr ⟨s,by simp[hs],ob',hob',hφ⟩
  ·rcases hx with hx | ⟨s,hs,ob,hob,hφ⟩
   ·exact .inl (g1.sub x hx)
   ·rcases List.mem_cons.1 hs with rfl | hs
    ·exact .inl (f1 ob hob x hφ)
    ·obtain⟨ob',hob'⟩:=zBz.2 ⟨ob,hob⟩;exact .inr ⟨s,hs,ob',hob',hφ⟩
theorem zGX(hp:List (Option OB))(s b:Nat):freeze1 ((hp.map (J3 s)).set s none) b=((freeze1 hp b).map (J3 s)).set s none:=by
 unfold freeze1;by_cases hbs:b=s
 ·subst hbs;have h1:slot ((hp.map (J3 b)).set b none) b=none:=by
   cases h:slot ((hp.map (J3 b)).set b none) b with
   | none=>rfl
   | some ob=>have:=zA9 h;cases this
  rw[h1];cases slot hp b with
  | none=>rfl
  | some ob=>simp[List.map_set,List.set_set]
 ·rw[Ja hbs];cases hb:hp[b]? with
  | none =>
   have e1:slot hp b=none:=by simp[slot,hb]
   have e2:slot (hp.map (J3 s)) b=none:=by simp[slot,hb]
   rw[e1,e2]
  | some o =>
   cases o with
   | none =>
    have e1:slot hp b=none:=by simp[slot,hb]
    have e2:slot (hp.map (J3 s)) b=none:=by simp[slot,hb,J3]
    rw[e1,e2]
   | some ob =>
    obtain⟨z,blk⟩:=ob;have e1:slot hp b=some ⟨z,blk⟩:=by simp[slot,hb]
    have key:∃blk',(∀z,J3 s (some ⟨z,blk⟩)=some ⟨z,blk'⟩):=by
     cases blk with
     | ac t xs=>exact⟨.ac t (qd s xs),λ_=>rfl⟩
     | dc t xs=>exact⟨.dc t xs,λ_=>rfl⟩
     | mp ks vs=>exact⟨.mp ks vs,λ_=>rfl⟩
     | sit t p=>exact⟨.sit t p,λ_=>rfl⟩
    obtain⟨blk',hk⟩:=key;have e2:slot (hp.map (J3 s)) b=some ⟨z,blk'⟩:=by simp[slot,hb,hk]
    rw[e1,e2];simp only[List.map_set,hk];rw[List.set_comm _ _ hbs]
theorem qj(s:Nat):∀(ss:List Nat) (hp:List (Option OB)),Am.freezeL ((hp.map (J3 s)).set s none) ss=((Am.freezeL hp ss).map (J3 s)).set s none
 | [],hp=>rfl
 | b :: ss,hp=>by simp only[Am.freezeL];rw[zGX,qj s ss]
def SlC(w:World)(n:Nat)(flat:List Value)(u:Value):Prop :=
 ∃a c,u=.slice a n c/\n<=c/\(0<n->∃ad,a=some ad/\ad.spot=none/\∀j u,flat[j]? = some u->w.cell? (ad.add j)=some u)
theorem zBN(h:Rel E base S φ st a w){sz:Nat}{v:AV}{el:List DV×List Nat}(he:jX st.hp sz v=some el){u:Value}(hu:RAV E.L S φ w v u) :
  ∃css:List (List Value),css.length=el.1.length/\(∀i (h:i<el.1.length) (h':i<css.length),RD E.L (Plus S φ st.hp el.2) w el.1[i] css[i])/\(∀c∈css,c.length=sz)/\SlC w el.1.length css.flatten u:=by
 unfold jX at he;split at he
 ·injection he with he;subst he
  obtain⟨b,rfl⟩:=RV.nl (show RV E.L S w .nl u from hu)
  exact⟨[],rfl,by simp,by simp,b,0,rfl,Nat.le_refl _,by simp⟩
 ·rename_i s xs;split at he
  case isFalse=>simp at he
  rename_i e;subst e;injection he with he;subst he
  obtain⟨b,c,css,rfl,h1,h2,h3,h4,h5⟩:=RV.sl (show RV E.L S w (.sl s xs) u from hu)
  refine⟨css,h2,λi a1 a2=>(h3 i a1 a2).mono (λb hb=>.inl hb) λ_ _=>rfl,h4,b,c,rfl,h1,λh0=>?_⟩
  obtain⟨ad,e1,e2,_,e3⟩:=h5 h0;exact⟨ad,e1,e2,e3⟩
 ·rename_i b off len s;split at he
  case isFalse=>simp at he
  rename_i e;subst e;cases hsl:slot st.hp b with
  | none=>rw[hsl] at he;simp at he
  | some ob =>
   obtain⟨z,blk⟩:=ob;rw[hsl] at he;obtain⟨cb,hc,_,hrb,_⟩:=h.blk b _ hsl;have hsl':∀(css:List (List Value)) (cells:Array Value) (t:TypeId),w.heap[cb]? = some (.cells cells t (0,0))->(∀c∈css,c.length=s)->css.flatten <+: cells.toList->off+len<=css.length ->
     SlC w len ((css.drop off).take len).flatten u:=by
    intro css cells t h1 h4 h5 h6;rcases RAV.own hu with ⟨cb',c,hb,hcl,_,rfl⟩ | ⟨b',rfl,rfl⟩
    ·rw[hb] at hc;injection hc with hc;subst hc
     refine⟨_,_,rfl,hcl,λh0=>⟨_,rfl,rfl,λj u hj=>?_⟩⟩
     rw[jk rfl,qX h1];have e1:=Jj (css.drop off) len j u hj;rw[Jp css h4 off,List.getElem?_drop] at e1;simpa using YZ h5 e1
    ·exact⟨_,_,rfl,Nat.le_refl _,by simp⟩
   cases blk with
   | mp ks vs=>simp at he
   | sit s p=>simp at he
   | dc s' xs =>
    simp only at he;split at he
    case isFalse=>simp at he
    rename_i hg;obtain⟨rfl,hlen⟩:=hg;injection he with he;subst he
    obtain⟨cells,t,css,h1,h2,h3,h4,h5⟩:=hrb;have hl:((xs.drop off).take len).length=len:=by simp;omega
    refine⟨(css.drop off).take len,by simp;omega,λi a1 a2=>?_,λc hc=>h4 c (List.mem_of_mem_drop (List.mem_of_mem_take hc)),by simp only[hl];exact hsl' css cells t h1 h4 h5 (by omega)⟩
    simp only[List.getElem_take,List.getElem_drop];exact(h3 (off+i) (by simp at a1;omega) (by simp at a2;omega)).mono (λb hb=>.inl hb) λ_ _=>rfl
   | ac s' xs =>
    simp only at he;split at he
    case isFalse=>simp at he
    rename_i hg;obtain⟨rfl,hlen⟩:=hg;split at he
    case h_2=>simp at he
    rename_i ds hds;injection he with he;subst he
    obtain⟨hdl,hdi⟩:=Y8 hds;obtain⟨cells,t,css,h1,h2,h3,h4,h5⟩:=hrb;have hl:((xs.drop off).take len).length=len:=by simp;omega
    refine⟨(css.drop off).take len,by rw[hdl];simp;omega,λi a1 a2=>?_,λc hc=>h4 c (List.mem_of_mem_drop (List.mem_of_mem_take hc)),by simp only[hdl,hl];exact hsl' css cells t h1 h4 h5 (by omega)⟩
    have hi:i<((xs.drop off).take len).length:=by simp only at a1;omega
    have:=zEY h _ _ _ (((css.drop off).take len)[i]) (hdi i hi a1) (by
     simp only[List.getElem_take,List.getElem_drop];exact h3 (off+i) (by simp at hi;omega) (by simp at a2;omega))
    exact this.mono (Plus.mono λy hy=>List.mem_flatMap.2 ⟨_,List.getElem_mem hi,hy⟩) λ_ _=>rfl
 ·simp at he
theorem SlC.lenOf{n:Nat}{flat:List Value}{u:Value}(h:SlC w n flat u):(Builtin.lenOf u).run P w=.ok n w:=by obtain⟨a,c,rfl,_⟩:=h;rfl
theorem SlC.first{n m sz:Nat}{flat:List Value}{u:Value}(h:SlC w n flat u)(hm:m<=n)(hl:flat.length=n * sz):(Builtin.firstCells sz m u).run P w=.ok (flat.take (m * sz)).toArray w:=by
 obtain⟨a,c,rfl,_,hc⟩:=h;rcases Nat.eq_zero_or_pos n with rfl | h0
 ·have:m=0:=by omega
  subst this;cases a with
  | none=>simp[Builtin.firstCells]
  | some b =>
   have:=run_firstCells_some (P:=P) (w:=w) sz 0 b 0 c [] (by simp) (by simp)
   simpa using this
 ·obtain⟨ad,rfl,_,hcell⟩:=hc h0;refine run_firstCells_some (P:=P) (w:=w) sz m ad n c _ ?_ λj v hj=>?_
  ·rw[List.length_take,hl];exact Nat.min_eq_left (Nat.mul_le_mul_right _ hm)
  ·rw[List.getElem?_take] at hj;split at hj
   ·exact hcell j v hj
   ·simp at hj
end
end Go.Am
namespace Go.Am
open Go.Proofs
open Go Go.RowKit
def splice{α:Type}(l:List α)(o:Nat)(n:List α):List α:=l.take o++n++l.drop (o+n.length)
theorem ju{α:Type}{l:List α}{o:Nat}{n:List α}(h:o+n.length<=l.length):(splice l o n).length=l.length:=by simp[splice];omega
theorem getElem?_splice{α:Type}{l:List α}{o:Nat}{n:List α}(h:o+n.length<=l.length)(j:Nat):(splice l o n)[j]? = if j<o then l[j]? else if j<o+n.length then n[j - o]? else l[j]?:=by
 have h1:(l.take o).length=o:=by simp;omega
 unfold splice;by_cases a:j<o
 ·rw[if_pos a,List.getElem?_append_left (by simp;omega),List.getElem?_append_left (by omega),List.getElem?_take,if_pos a]
 ·rw[if_neg a];by_cases b:j<o+n.length
  ·rw[if_pos b,List.getElem?_append_left (by simp;omega),List.getElem?_append_right (by omega),h1]
  ·rw[if_neg b,List.getElem?_append_right (by simp;omega),List.getElem?_drop]
   congr 1;simp;omega
theorem zA7{α:Type}{l b n:List α}{p o:Nat}(hb:∀j,j<b.length->b[j]? = l[p+j]?)(hp:p+b.length<=l.length)(ho:o+n.length<=b.length):splice l p (splice b o n)=splice l (p+o) n:=by
 have h1:(splice b o n).length=b.length:=ju ho;apply List.ext_getElem?;intro j;have e1:=getElem?_splice (l:=l) (o:=p) (n:=splice b o n) (by omega) j
 have e2:=getElem?_splice (l:=l) (o:=p+o) (n:=n) (by omega) j
 rw[e1,e2,h1];by_cases a:j<p
 ·rw[if_pos a,if_pos (by omega)]
 ·rw[if_neg a];by_cases c:j<p+b.length
  ·rw[if_pos c,getElem?_splice ho];by_cases d:j<p+o
   ·rw[if_pos (by omega),if_pos d,hb _ (by omega)]
    congr 1;omega
   ·rw[if_neg (by omega),if_neg d]
    by_cases e:j<p+o+n.length
    ·rw[if_pos (by omega),if_pos e];congr 1;omega
    ·rw[if_neg (by omega),if_neg e,hb _ (by omega)];congr 1;omega
  ·rw[if_neg c,if_neg (by omega),if_neg (by omega)]
theorem zEc{α:Type}{css:List (List α)}{i:Nat}{n:List α}(h:i<css.length)(hn:n.length=css[i].length):(css.set i n).flatten=splice css.flatten (((css.map (·.length)).take i).sum) n:=by rw[zAh n css i h,splice,hn]
theorem zDS{l:List Nat}{i:Nat}(h:i<l.length):(l.take i).sum+l[i]<=l.sum:=by
 have:l.sum=(l.take i).sum+(l.drop i).sum:=by rw[<-List.sum_append_nat,List.take_append_drop]
 rw[this,List.drop_eq_getElem_cons h,List.sum_cons];omega
theorem zAm{α:Type}(css:List (List α)):css.flatten.length=(css.map (·.length)).sum:=List.length_flatten
theorem zC2{sz:Nat}{α:Type}{css:List (List α)}(hz:∀c∈css,c.length=sz):(css.map (·.length))=List.replicate css.length sz:=by
 apply List.ext_getElem
 ·simp
 ·intro i a b;simp only[List.getElem_map,List.getElem_replicate];exact hz _ (List.getElem_mem _)
section
variable{P:Program}{E:Env}{base:Nat}{S S':Nat->Prop}{φ:Nat->Option Nat}{st:St}{a:Act}{w w':World}
theorem getsetF{tag i:Nat}{v x:AV}{cs:List Value}(h:zBm tag i v=some x)(hr:RA E.L S φ w v cs) :
  ∃(css:List (List Value)) (hi:i<css.length),cs=css.flatten/\css.map (·.length)=E.L tag/\RA E.L S φ w x css[i] /\
   ∀y ncs v',setF tag i y v=some v'->RA E.L S φ w y ncs->ncs.length=css[i].length->RA E.L S φ w v' (css.set i ncs).flatten/\v'.isAgg=true:=by
 unfold zBm at h;split at h
 ·rename_i t fs;split at h
  case isFalse=>simp at h
  rename_i e;subst e;split at h
  case h_2=>simp at h
  rename_i z hz;injection h with h;subst h
  cases hr with
  | d _ _ hr =>
   cases hr with
   | agg _ _ css hl hp hsz =>
    obtain⟨hlt,rfl⟩:=List.getElem?_eq_some_iff.1 hz;have hc:i<css.length:=by omega
    refine⟨css,hc,rfl,hsz,.d _ _ (hp i hlt hc),λy ncs v' hs hy hn=>?_⟩
    have hsz':(css.set i ncs).map (·.length)=E.L t:=by
     rw[List.map_set,hn,<-hsz];apply List.ext_getElem
     ·simp
     ·intro k a b;rw[List.getElem_set];split
      ·rename_i e;subst e;simp
      ·rfl
    unfold setF at hs;simp only[if_true,hlt] at hs;cases y with
    | d y' =>
     simp only[Option.some.injEq] at hs;subst hs;cases hy with
     | d _ _ hy =>
      refine⟨.d _ _ (.agg t _ _ (by simpa using hl) (λk a b=>?_) hsz'),rfl⟩
      simp only[List.getElem_set];split
      ·exact hy
      ·exact hp k (by simpa using a) (by simpa using b)
    | _ =>
     simp only[Option.some.injEq] at hs;subst hs;refine⟨.agg t _ _ (by simpa using hl) (λk a b=>?_) hsz',rfl⟩
     simp only[List.getElem_set,List.getElem_map];split
     ·exact hy
     ·exact .d _ _ (hp k (by simpa using a) (by simpa using b))
 ·rename_i t fs;split at h
  case isFalse=>simp at h
  rename_i e;subst e;cases hr with
  | agg _ _ css hl hp hsz =>
   obtain⟨hlt,rfl⟩:=List.getElem?_eq_some_iff.1 h;have hc:i<css.length:=by omega
   refine⟨css,hc,rfl,hsz,hp i hlt hc,λy ncs v' hs hy hn=>?_⟩
   have hsz':(css.set i ncs).map (·.length)=E.L t:=by
    rw[List.map_set,hn,<-hsz];apply List.ext_getElem
    ·simp
    ·intro k a b;rw[List.getElem_set];split
     ·rename_i e;subst e;simp
     ·rfl
   unfold setF at hs;simp only[if_true,hlt,Option.some.injEq] at hs;subst hs;exact zDg (by simpa using hl) (λk a b=>by
    simp only[List.getElem_set];split
    ·exact hy
    ·exact hp k (by simpa using a) (by simpa using b)) hsz'
 ·simp at h
theorem zEd:∀(p:List (Nat×Nat)) {new v y:AV} {cs ncs:List Value},zG3 E.L p new v=some y->RA E.L S φ w v cs->RA E.L S φ w new ncs->new≠.undef->JZ E.L y=cs.length ->
  RA E.L S φ w y (splice cs (Yo E.L p) ncs)/\Yo E.L p+ncs.length<=cs.length/\y≠.undef
 | [],new,v,y,cs,ncs,h,hr,hn,hu,hc=>by
  simp[zG3] at h;subst h;have hl:=hn.len hu;rw[hc] at hl;have:splice cs (Yo E.L []) ncs=ncs:=by simp[splice,Yo,hl]
  rw[this];exact⟨hn,by simp[Yo];omega,hu⟩
 | (tag,i) :: p,new,v,y,cs,ncs,h,hr,hn,hu,hc=>by
  simp only[zG3] at h;split at h
  case h_2=>simp at h
  rename_i x hx;split at h
  case h_2=>simp at h
  rename_i y' hy';split at h
  case isFalse=>simp at h
  rename_i hcl;obtain⟨css,hi,rfl,hsz,hrx,hset⟩:=getsetF hx hr;have hci:(E.L tag).getD i 0=css[i].length:=by rw[<-hsz];simp[hi]
  obtain⟨h1,h2,h3⟩:=zEd p hy' hrx hn hu (by rw[hcl,hci])
  obtain⟨h4,h5⟩:=hset _ _ _ h h1 (ju h2);have hle:((css.map (·.length)).take i).sum+css[i].length<=css.flatten.length:=by
   rw[zAm];have:=zDS (l:=css.map (·.length)) (i:=i) (by simpa using hi)
   simpa using this
  have hat:∀j,j<css[i].length->css[i][j]? = css.flatten[((css.map (·.length)).take i).sum+j]?:=λj hj=>(qI css i hi j hj).symm
  rw[zEc hi (ju h2),zA7 hat hle h2,hsz] at h4;refine⟨by simpa[Yo] using h4,?_,?_⟩
  ·rw[hsz] at hle;simp only[Yo];omega
  ·rintro rfl;simp[AV.isAgg] at h5
theorem Blk.set_sound{sz e:Nat}{blk blk':Blk}{v:AV}{cb:Nat}(h:blk.set sz e v=some blk')(hr:RB E.L S φ w blk cb){ncs:List Value}(hv:RA E.L S φ w v ncs)(hn:ncs.length=sz) :
  ∃(cells:Array Value) (t:TypeId),w.heap[cb]? = some (.cells cells t (0,0))/\e * sz+sz<=cells.size /\
   (∀w',Keep S S φ φ w w'->w'.heap[cb]? = some (.cells (splice cells.toList (e * sz) ncs).toArray t (0,0))->RB E.L S φ w' blk' cb):=by
 have hpre:∀{css:List (List Value)} {cells:Array Value} (he:e<css.length) (h4:∀c∈css,c.length=sz) (h5:css.flatten <+: cells.toList),e * sz+sz<=cells.size/\(css.set e ncs).flatten <+: splice cells.toList (e * sz) ncs:=by
  intro css cells he h4 h5;have hc:css[e].length=sz:=h4 _ (List.getElem_mem he);have hsum:((css.map (·.length)).take e).sum=e * sz:=by rw[zC2 h4];simp[List.take_replicate,Nat.min_eq_left (Nat.le_of_lt he)]
  have hle:e * sz+sz<=css.flatten.length:=by
   have:=zDS (l:=css.map (·.length)) (i:=e) (by simpa using he)
   rw[hsum] at this;rw[zAm];simpa[hc] using this
  have hle2:css.flatten.length<=cells.size:=by simpa using h5.length_le
  refine⟨by omega,?_⟩
  rw[zEc he (by rw[hn,hc]),hsum]
  obtain⟨r,hr⟩:=h5;refine⟨r,?_⟩;rw[<-hr];unfold splice;rw[List.take_append_of_le_length (by omega),List.drop_append_of_le_length (by rw[hn];omega)]
  simp
 unfold Blk.set at h;split at h
 ·rename_i s xs;split at h
  case isFalse=>simp at h
  rename_i hs;subst hs;split at h
  case isFalse=>simp at h
  rename_i hlt;obtain⟨cells,t,css,h1,h2,h3,h4,h5⟩:=hr;have he:e<css.length:=by omega
  obtain⟨p1,p2⟩:=hpre he h4 h5;refine⟨cells,t,h1,p1,λw' k hw=>?_⟩
  have hz:∀c∈css.set e ncs,c.length=s:=λc hc=>by
   rcases List.mem_or_eq_of_mem_set hc with hc | rfl
   ·exact h4 c hc
   ·exact hn
  split at h
  ·rename_i y;injection h with h;subst h
   cases hv with
   | d _ _ hv =>
    refine⟨_,t,css.set e ncs,hw,by simpa using h2,λi a b=>?_,hz,by simpa using p2⟩
    simp only[List.getElem_set];split
    ·exact hv.mono k.sub k.heap
    ·exact(h3 i (by simpa using a) (by simpa using b)).mono k.sub k.heap
  ·injection h with h;subst h
   refine⟨_,t,css.set e ncs,hw,by simpa using h2,λi a b=>?_,hz,by simpa using p2⟩
   simp only[List.getElem_set,List.getElem_map];split
   ·exact hv.mono k
   ·exact .d _ _ ((h3 i (by simpa using a) (by simpa using b)).mono k.sub k.heap)
 ·rename_i s xs;split at h
  case isFalse=>simp at h
  rename_i hs;subst hs;split at h
  case isFalse=>simp at h
  rename_i hlt;obtain⟨cells,t,css,h1,h2,h3,h4,h5⟩:=hr;have he:e<css.length:=by omega
  obtain⟨p1,p2⟩:=hpre he h4 h5;refine⟨cells,t,h1,p1,λw' k hw=>?_⟩
  injection h with h;subst h
  refine⟨_,t,css.set e ncs,hw,by simpa using h2,λi a b=>?_,λc hc=>?_,by simpa using p2⟩
  ·simp only[List.getElem_set];split
   ·exact hv.mono k
   ·exact(h3 i (by simpa using a) (by simpa using b)).mono k
  ·rcases List.mem_or_eq_of_mem_set hc with hc | rfl
   ·exact h4 c hc
   ·exact hn
 ·simp at h
theorem But.setRow{cb:Nat}{cur new:Array Value}{t:TypeId}(h:w.heap[cb]? = some (.cells cur t (0,0)))(hs:new.size=cur.size):But cb w (w.setRow cb new) :=
 ⟨rfl,rfl,rfl,by simp,λk _ hne=>setRow_other w cb k new hne,λn ⟨cs,t',h1,h2⟩=>by
  rw[h] at h1;injection h1 with h1
  injection h1 with e1 e2 e3;subst e1
  exact⟨new,t,setRow_heap w cb cur new t (0,0) h,by omega⟩⟩
theorem zBu{v:AV}{b:Nat}{blk blk0:Blk}(h:slot st.hp b=some ⟨false,blk0⟩)(dst:Option Tmp)(s:Nat) :
  zj { v,upd:=some (b,blk) } dst s st={ tm:=jh st.tm dst v,hp:=st.hp.set b (some ⟨false,blk⟩) }:=by
 simp[zj,freezeL,zCh,h,zDl]
theorem zHj(hD:DOK P E)(h:Rel E base S φ st a w){t:TypeId}{p x:AV}{u v:Value}(hu:RAV E.L S φ w p u)(hv:RAV E.L S φ w x v){ef:Eff}(hs:J8 E t st.hp p x=some ef)(dst:Option Tmp)(s:Nat) :
  ef.new=none/\∃w',(Instr.storeAt t u v).run P w=.ok () w'/\Rel E base S φ (zj ef dst s st) (a.put dst undef) w'/\Grow base S S w w':=by
 unfold J8 at hs;obtain⟨td,htd,hs1⟩:=zA hs;clear hs;have ht:=hD t td htd;split at hs1
 case h_2=>simp at hs1
 rename_i b sz e q;obtain⟨ob,hob,hs2⟩:=zA hs1;clear hs1;obtain⟨hfz,hs3⟩:=zE hs2;clear hs2;obtain⟨hfit,hs4⟩:=zE hs3;clear hs3;obtain⟨v0,hget,hs5⟩:=zA hs4;clear hs4;obtain⟨y,hset,hs6⟩:=zA hs5;clear hs5;obtain⟨hcl,hs7⟩:=zE hs6;clear hs6;obtain⟨blk,hblk,hs8⟩:=zA hs7;clear hs7;injection hs8 with hs8;subst hs8
 obtain⟨z,blk0⟩:=ob;simp only[Bool.not_eq_true'] at hfz;subst hfz;obtain⟨cb,rfl,hφ⟩:=hu.ptr;obtain⟨cb',hφ',_,hrb,_⟩:=h.blk b _ hob;rw[hφ] at hφ';injection hφ' with hφ';subst hφ'
 obtain⟨hsz,hag,hst⟩:=jP ht hfit;have hxu:x≠.undef:=by rintro rfl;simp[stores] at hst
 obtain⟨hra,_⟩:=hv.cells hst;obtain⟨cs0,hr0,hl0,hm0⟩:=Blk.get_sound hget hrb;simp only[decide_eq_true_eq] at hcl;obtain⟨hy,hoff,hyu⟩:=zEd q hset hr0 hra hxu (by rw[hcl,hl0])
 obtain⟨cells,ty,hh,hfitc,hnew⟩:=Blk.set_sound hblk hrb hy (by rw[ju hoff,hl0])
 have hcur:∀j,j<cs0.length->cs0[j]? = cells.toList[e * sz+j]?:=λj hj=>by have:=hm0 j cs0[j] (List.getElem?_eq_getElem hj);rw[qX hh] at this;rw[List.getElem?_eq_getElem hj];simpa using this.symm
 have hrow:splice cells.toList (e * sz) (splice cs0 (Yo E.L q) (vcs v))=splice cells.toList (e * sz+Yo E.L q) (vcs v):=zA7 hcur (by rw[hl0,Array.length_toList];omega) hoff
 rw[hrow] at hnew;have hvl:(vcs v).length=td.size:=by rw[hra.len hxu,hsz]
 have hb:e * sz+Yo E.L q+(vcs v).length<=cells.size:=by omega
 have hrun:=run_storeCells_at (P:=P) cb (e * sz+Yo E.L q) ty (vcs v) 0 cells w hh (by omega) hra.oneCell
 simp only[Nat.add_zero] at hrun;have hsplice:(cells.toList.take (e * sz+Yo E.L q)++vcs v++cells.toList.drop (e * sz+Yo E.L q+(vcs v).length))=splice cells.toList (e * sz+Yo E.L q) (vcs v):=rfl;rw[hsplice] at hrun;have hbut:But cb w (w.setRow cb (splice cells.toList (e * sz+Yo E.L q) (vcs v)).toArray):=But.setRow hh (by rw[List.size_toArray,ju (by simpa using hb)];simp)
 refine⟨rfl,_,?_,?_,hbut.grow h.lt ?_ h.base ?_⟩
 ·have hc:v.cells.size=td.size:=by rw[<-hvl];simp[vcs]
  simp only[Instr.storeAt,Instr.sureAddr,storeVar,Sem.run_bind,Sem.run_pure,Result.andThen_ok,ht.sizeOf w];rw[if_neg (by simp[hc])]
  exact hrun
 ·rw[zBu hob];have:=h.write hob hφ hbut (hnew _ (hbut.keep h.lt (λhS=>?_)) (setRow_heap w cb cells _ ty (0,0) hh))
  ·exact this.put dst (v:=.d (.tup [])) ⟨[],rfl,rfl,λi a=>by simp at a⟩
  ·obtain⟨c,hc,_,_,hS'⟩:=h.blk b _ hob;rw[hφ] at hc;injection hc with hc;subst hc
   simpa using hS'.1 hS
 ·intro hS;obtain⟨c,hc,_,_,hS'⟩:=h.blk b _ hob;rw[hφ] at hc;injection hc with hc;subst hc
  simpa using hS'.1 hS
 ·obtain⟨c,hc,hbc,_⟩:=h.blk b _ hob;have e:cb=c:=Option.some.inj (hφ.symm.trans hc);omega
end
end Go.Am
namespace Go.Am
open Go.Proofs
open Go Go.RowKit
section
variable{P:Program}{E:Env}{base:Nat}{S S':Nat->Prop}{φ:Nat->Option Nat}{st:St}{a:Act}{w w':World}
theorem But.setObj{cb:Nat}(w:World)(o:Obj)(hr:∀cs t fr,w.heap[cb]?≠some (.cells cs t fr)):But cb w { w with heap:=w.heap.setIfInBounds cb o } :=
 ⟨rfl,rfl,rfl,by simp,λk _ hne=>by simp[Ne.symm hne],λn ⟨cs,t,h1,_⟩=>absurd h1 (hr cs t _)⟩
theorem zEg{td:TD}{d:TypeDesc}(hd:zJk td d){k v:DV}(hk:ji td k=true){u:Value}(hu:RV E.L S w k u) :
  ∀(ks vs:List DV) (es:List MapEntry) (n:Nat) (r:List DV×List DV),Yz k v ks vs=some r->es.length=ks.length->es.length=vs.length ->
   (∀i (h:i<ks.length) (h':i<es.length),RD E.L S w ks[i] (vcs es[i].key)/\Jx es[i].key=ks[i].isAgg) ->
   (Instr.findNow d u es n=some none/\r=(ks++[k],vs++[v])) \/
   ∃(i:Nat) (h:i<es.length) (h':i<ks.length),Instr.findNow d u es n=some (some (n+i,es[i].val))/\r=(ks.set i k,vs.set i v)/\jy k ks[i]=some true
 | [],vs,es,n,r,h,h1,h2,h3=>by
  have:es=[]:=List.eq_nil_of_length_eq_zero h1;subst this;have:vs=[]:=List.eq_nil_of_length_eq_zero h2.symm;subst this;simp[Yz] at h;subst h;exact .inl ⟨rfl,rfl⟩
 | x :: ks,[],es,n,r,h,h1,h2,h3=>by simp[Yz] at h
 | x :: ks,y :: vs,[],n,r,h,h1,h2,h3=>by simp at h1
 | x :: ks,y :: vs,e :: es,n,r,h,h1,h2,h3=>by
  simp only[Yz] at h;obtain⟨b,hb,h⟩:=zA h;have h0:=h3 0 (by simp) (by simp)
  simp only[List.getElem_cons_zero] at h0;have hs:=zBA hd hk hb hu (RV.of h0.1.notTup h0.1 h0.2);cases b with
  | true =>
   simp only[Option.some.injEq] at h;subst h;exact .inr ⟨0,by simp,by simp,by simp[Instr.findNow,hs],rfl,hb⟩
  | false =>
   simp only at h;obtain⟨r',hr',h⟩:=zA h;injection h with h;subst h
   rcases zEg hd hk hu ks vs es (n+1) r' hr' (by simpa using h1) (by simpa using h2) (λi a b=>h3 (i+1) (by simp;omega) (by simp;omega)) with ⟨e1,rfl⟩ | ⟨i,a,b,e1,rfl,e3⟩
   ·exact .inl ⟨by simp[Instr.findNow,hs,e1],rfl⟩
   ·refine .inr ⟨i+1,by simp;omega,by simp;omega,?_,rfl,e3⟩
    simp only[Instr.findNow,hs,e1];simp[Nat.add_assoc,Nat.add_comm 1 i]
theorem zIr{td:TD}{k x:DV}(hk:ji td k=true)(h:jy k x=some true){u v:Value}(hu:RV E.L S w k u)(hv:RV E.L S w x v):Instr.sameBits 10000 v u=true:=by
 unfold jy at h;split at h
 ·have e1:=RV.bool hu;have e2:=RV.bool hv;subst e1;subst e2;simp only[Option.some.injEq,beq_iff_eq] at h;simp[Instr.sameBits,h]
 ·have e1:=RV.int hu;have e2:=RV.int hv;subst e1;subst e2;split at h
  case isFalse=>simp at h
  rename_i e;subst e;simp only[Option.some.injEq,beq_iff_eq] at h;simp[Instr.sameBits,h]
 ·have e1:=RV.str hu;have e2:=RV.str hv;subst e1;subst e2;simp only[Option.some.injEq,beq_iff_eq] at h;rename_i p q;have:p=q:=by rw[Go.ByteArray.toList_eq,Go.ByteArray.toList_eq] at h;obtain⟨x⟩:=p;obtain⟨y⟩:=q;rw[show x=y from Array.ext' h]
  subst this;simp only[Instr.sameBits];exact(MapKept.bytes_beq _ _).2 rfl
 ·simp at h
theorem qy(hD:DOK P E)(h:Rel E base S φ st a w){t:TypeId}{m k x:AV}{um uk ux:Value}(hum:RAV E.L S φ w m um)(huk:RAV E.L S φ w k uk)(hux:RAV E.L S φ w x ux){ef:Eff}
  (hs:jG E t st.hp m k x=some ef) (dst:Option Tmp) (s:Nat) :
  ef.new=none/\∃w',(Instr.mapUpdate t um uk ux).run P w=.ok () w'/\Rel E base S φ (zj ef dst s st) (a.put dst undef) w'/\Grow base S S w w':=by
 unfold jG at hs;obtain⟨td,htd,hs1⟩:=zA hs;clear hs;have ht:=hD t td htd;split at hs1
 case h_2=>simp at hs1
 rename_i kt et hkk;obtain⟨kd,hkd,hs2⟩:=zA hs1;clear hs1;obtain⟨ed,hed,hs3⟩:=zA hs2;clear hs2;split at hs3
 case h_2=>simp at hs3
 rename_i b k' v';obtain⟨hkey,hs4⟩:=zE hs3;clear hs3;obtain⟨hfit,hs5⟩:=zE hs4;clear hs4;split at hs5
 case h_2=>simp at hs5
 rename_i ks vs hsl;obtain⟨r,hr,hs6⟩:=zA hs5;clear hs5;injection hs6 with hs6;subst hs6
 have hmt:=ht.desc;simp only[hkk,Dsc] at hmt;obtain⟨cb,rfl,hφ⟩:=hum.omp;obtain⟨cb',hφ',hbase,hrb,hS⟩:=h.blk b _ hsl;have e:cb=cb':=Option.some.inj (hφ.symm.trans hφ');subst e;have hnS:¬S cb:=λhh=>by simpa using hS.1 hh
 obtain⟨es,clock,h1,h2,h3,h4,h5⟩:=hrb;obtain⟨d,hd1,hd2,hd3⟩:=zB6 (hD kt kd hkd) hkey (show RV E.L S w k' uk from huk)
 have hck:(Instr.checkKey false 10000 kt uk).run P w=.ok () w:=MapKept.run_checkKey hd1 hd3 false 9999;have hput:=zEg (E:=E) hd2 hkey (show RV E.L S w k' uk from huk) ks vs es 0 r hr h2 h3 h4
 have hkr:RD E.L S w k' (vcs uk)/\Jx uk=k'.isAgg:=by
  have:k'.isTup=false:=by unfold ji at hkey;split at hkey <;> first | rfl | simp at hkey
  exact RV.rd this huk
 have hvst:=(jP (hD et ed hed) hfit).2.2;have hvr:RD E.L S w v' (vcs ux)/\Jx ux=v'.isAgg:=by
  have:v'.isTup=false:=by cases v' <;> first | rfl | simp[stores] at hvst
  exact RV.rd this hux
 have hnc:∀cs t fr,w.heap[cb]?≠some (.cells cs t fr):=λcs t fr hh=>by rw[h1] at hh;cases hh
 have fin:∀(es':List MapEntry) (clock':Nat),(Instr.mapUpdate t (.map (some cb)) uk ux).run P w=.ok () { w with heap:=w.heap.setIfInBounds cb (.map es'.toArray clock') } ->
   es'.length=r.1.length->es'.length=r.2.length->(∀i (h:i<r.1.length) (h':i<es'.length),RD E.L S w r.1[i] (vcs es'[i].key)/\Jx es'[i].key=r.1[i].isAgg) ->
   (∀i (h:i<r.2.length) (h':i<es'.length),RD E.L S w r.2[i] (vcs es'[i].val)/\Jx es'[i].val=r.2[i].isAgg) ->
   ∃w',(Instr.mapUpdate t (.map (some cb)) uk ux).run P w=.ok () w'/\Rel E base S φ (zj { v:=.d (.tup []),upd:=some (b,.mp r.1 r.2) } dst s st) (a.put dst undef) w'/\Grow base S S w w':=by
  intro es' clock' hrun l1 l2 r1 r2;have hbut:=But.setObj (cb:=cb) w (.map es'.toArray clock') hnc;have k:=hbut.keep (φ:=φ) h.lt hnS;refine⟨_,hrun,?_,hbut.grow h.lt hnS h.base hbase⟩;rw[zBu hsl];have hlt:cb<w.heap.size:=(Array.getElem?_eq_some_iff.1 h1).1;have:=h.write hsl hφ hbut (blk:=.mp r.1 r.2) ⟨es',clock',by simp[hlt],l1,l2,λi a b=>⟨(r1 i a b).1.mono k.sub k.heap,(r1 i a b).2⟩,λi a b=>⟨(r2 i a b).1.mono k.sub k.heap,(r2 i a b).2⟩⟩
  exact this.put dst (v:=.d (.tup [])) ⟨[],rfl,rfl,λi a=>by simp at a⟩
 refine⟨rfl,?_⟩;rcases hput with ⟨e1,rfl⟩ | ⟨i,hi,hi',e1,rfl,e3⟩
 ·refine fin (es++[{ key:=uk,val:=ux,born:=clock }]) (clock+1) ?_ (by simp[h2]) (by simp[h3]) (λi a b=>?_) (λi a b=>?_)
  ·have hfk:=MapKept.run_findKey (P:=P) (w:=w) hd1 e1;have hp:es.toArray.push ({ key:=uk,val:=ux,born:=clock }:MapEntry)=(es++[({ key:=uk,val:=ux,born:=clock }:MapEntry)]).toArray:=by simp
   rw[<-hp];simp[Instr.mapUpdate,run_underlying hmt,MapKept.run_getObj_map h1,hck,hfk,MapKept.run_setObj_map _ h1]
  ·by_cases hlt:i<ks.length
   ·simp only[List.getElem_append_left hlt,List.getElem_append_left (show i<es.length by omega)]
    exact h4 i hlt (by omega)
   ·have:i=ks.length:=by simp at a;omega
    subst this;simp only[List.getElem_append_right (Nat.le_refl _),List.getElem_append_right (show es.length<=ks.length by omega)]
    simpa[h2] using hkr
  ·by_cases hlt:i<vs.length
   ·simp only[List.getElem_append_left hlt,List.getElem_append_left (show i<es.length by omega)]
    exact h5 i hlt (by omega)
   ·have:i=vs.length:=by simp at a;omega
    subst this;simp only[List.getElem_append_right (Nat.le_refl _),List.getElem_append_right (show es.length<=vs.length by omega)]
    simpa[h3] using hvr
 ·have hold:=h4 i hi' hi;have hsb:=zIr hkey e3 (show RV E.L S w k' uk from huk) (RV.of hold.1.notTup hold.1 hold.2)
  refine fin (es.modify i λe=>{ e with key:=uk,val:=ux }) clock ?_ (by simp[h2]) (by simp[h3]) (λj a b=>?_) (λj a b=>?_)
  ·have hfk:=MapKept.run_findKey (P:=P) (w:=w) hd1 e1;have hp:(es.toArray.modify i λe:MapEntry=>{ e with key:=uk,val:=ux })=(es.modify i λe:MapEntry=>{ e with key:=uk,val:=ux }).toArray:=by simp
   rw[<-hp];have hget:(((es.toArray[i]?).map (·.key)).getD uk)=es[i].key:=by simp[hi]
   have hks:(Instr.keyThatStays es[i].key uk).run P w=.ok uk w:=by simp[Instr.keyThatStays,hsb]
   simp only[Nat.zero_add] at hfk;simp only[Instr.mapUpdate,Sem.run_bind,run_underlying hmt,Result.andThen_ok,MapKept.run_getObj_map h1,hck,hfk,hget,hks,MapKept.run_setObj_map _ h1]
  ·simp only[List.getElem_set,List.getElem_modify];split
   ·exact hkr
   ·exact h4 j (by simpa using a) (by simpa using b)
  ·simp only[List.getElem_set,List.getElem_modify];split
   ·exact hvr
   ·exact h5 j (by simpa using a) (by simpa using b)
theorem zIy(h:Rel E base S φ st a w){x:AV}{u:Value}(hu:RAV E.L S φ w x u){b:Bool}{ef:Eff}(hs:zAL st.hp b x=some ef)(ty:TypeId)(dst:Option Tmp)(s:Nat) :
  ef.new=none/\∃r w',(Instr.next u b ty).run P w=.ok r w'/\Rel E base S φ (zj ef dst s st) (a.put dst r) w'/\Grow base S S w w':=by
 unfold zAL at hs;split at hs
 case h_2=>simp at hs
 rename_i c;obtain⟨hb,hs1⟩:=zE hs;clear hs;subst hb;split at hs1
 case h_2=>simp at hs1
 rename_i str pos hsl;obtain⟨cb,rfl,hφ⟩:=hu.it';obtain⟨cb',hφ',hbase,hrb,hS⟩:=h.blk c _ hsl;have e:cb=cb':=Option.some.inj (hφ.symm.trans hφ');subst e;have hnS:¬S cb:=λhh=>by simpa using hS.1 hh
 have hget:(getObj cb).run P w=.ok (.stringIter str pos) w:=by have:w.heap[cb]? = some (.stringIter str pos):=hrb;simp[getObj,Sem.run,this]
 split at hs1
 ·rename_i hlt;injection hs1 with hs1;subst hs1
  have hset:∀o,(setObj cb o).run P w=.ok () { w with heap:=w.heap.setIfInBounds cb o }:=λo=>by have:w.heap[cb]? = some (.stringIter str pos):=hrb;simp[setObj,Sem.run,this]
  have hnc:∀cs t fr,w.heap[cb]?≠some (.cells cs t fr):=λcs t fr hh=>by have:w.heap[cb]? = some (.stringIter str pos):=hrb;rw[this] at hh;cases hh
  have hbut:=But.setObj (cb:=cb) w (.stringIter str (pos+(Utf8.decode str pos).2)) hnc;refine⟨rfl,.tuple #[.bool true,goInt pos,.int .i32 (Utf8.decode str pos).1],_,?_,?_,hbut.grow h.lt hnS h.base hbase⟩
  ·simp only[Instr.next,Sem.run_bind,hget,Result.andThen_ok];rw[if_pos hlt];simp[hset]
  ·rw[zBu hsl];have hclt:cb<w.heap.size:=(RB.lt (L:=E.L) (S:=S) (φ:=φ) (k:=.sit str pos) hrb);have:=h.write hsl hφ hbut (blk:=.sit str (pos+(Utf8.decode str pos).2)) (by show _=_;simp[hclt])
   refine this.put dst (v:=.d (.tup [.bool true,.int .i64 pos,.int .i32 (Utf8.decode str pos).1])) ⟨[.bool true,goInt pos,.int .i32 (Utf8.decode str pos).1],rfl,rfl,λi a b=>?_⟩
   match i,a with
   | 0,_=>exact⟨.bool _,rfl⟩
   | 1,_=>exact⟨.int _ _,rfl⟩
   | 2,_=>exact⟨.int _ _,rfl⟩
 ·rename_i hlt;simp[zc] at hs1;subst hs1;refine⟨rfl,.tuple #[.bool false],w,?_,?_,Grow.refl⟩
  ·simp only[Instr.next,Sem.run_bind,hget,Result.andThen_ok];rw[if_neg hlt];simp
  ·refine h.put dst (v:=.d (.tup [.bool false])) ⟨[.bool false],rfl,rfl,λi a b=>?_⟩
   match i,a with
   | 0,_=>exact⟨.bool _,rfl⟩
end
end Go.Am
