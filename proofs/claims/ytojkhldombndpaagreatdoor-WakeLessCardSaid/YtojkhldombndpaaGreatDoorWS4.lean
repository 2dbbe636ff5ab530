/- WakeLess: for every input the law returns true, and each argument reads afterwards as it read before. Part 4. -/
import Derived.Test.YtojkhldombndpaaGreatDoorWS3
set_option linter.all false
namespace Go.Am
open Go.Proofs
open Go Go.RowKit
attribute [local go_sem] Oper.semAt_some
open Classical in
noncomputable def KLe(t:St):Ex->St->Option CR:=λe s=>if e=.normal/\Le [] t s then some (.val .nl) else none
theorem zBW{t s:St}{e:Ex}(h:KLe t e s=some (.val .nl)):e=.normal/\Le [] t s:=by
 unfold KLe at h;split at h
 ·assumption
 ·cases h
def asgC(i1 i2:Nat)(t1 t2 p1 p2:Tmp)(ty:TypeId)(s1 s2:String):Code :=
 .seq (.region i1 #[{ dst:=some t1,op:=.assign (.tmp p1),type:=ty,pos:=s1,after:=#[],guard:=none }] false)
  (.region i2 #[{ dst:=some t2,op:=.assign (.tmp p2),type:=ty,pos:=s2,after:=#[],guard:=none }] false)
theorem asg_wp{P:Program}{F:Fence}{l n:Nat}{i1 i2:Nat}{t1 t2 p1 p2:Tmp}{ty:TypeId}{s1 s2:String}{K:Act->World->Prop}{a:Act}{w:World}(h:K ((a.put (some t1) (a.eval (.tmp p1))).put (some t2) ((a.put (some t1) (a.eval (.tmp p1))).eval (.tmp p2))) w) :
  (asgC i1 i2 t1 t2 p1 p2 ty s1 s2).wpIn (F.inRound l) n P (Exit.then K (λ_ _ _=>False)) a w:=by
 refine wpIn_seq (wpIn_region ?_);simp only[List.size_toArray,List.length_cons,List.length_nil,Nat.zero_add,List.range_succ,List.range_zero,List.nil_append,wpOpsIn,List.getElem?_toArray,List.getElem?_cons_zero,Region.wanted,if_true,Oper.wpIn];refine⟨λf hf=>by simp[Oper.about] at hf,?_⟩
 rw[show(F.inRound l).round=some l from rfl,Oper.semAt_eq _ _ _ (λc h=>by cases h)]
 simp only[go_sem];refine wpIn_region ?_;simp only[List.size_toArray,List.length_cons,List.length_nil,Nat.zero_add,List.range_succ,List.range_zero,List.nil_append,wpOpsIn,List.getElem?_toArray,List.getElem?_cons_zero,Region.wanted,if_true,Oper.wpIn];refine⟨λf hf=>by simp[Oper.about] at hf,?_⟩
 rw[show(F.inRound l).round=some l from rfl,Oper.semAt_eq _ _ _ (λc h=>by cases h)]
 simp only[go_sem];exact h
theorem QM{n:Nat}{w W:World}(hB:Below n w W)(hn:n<=W.heap.size){l:Nat}(hl:n<=l)(o:Obj):Below n w (W.putObj l o) :=
 hB.grown (grownBy_putObj' W l o) hn (λk e=>by cases e;exact hl)
theorem zF6(r:Loop):Odd (.loop r):=⟨(λ_ _ _ h=>by cases h),(λ_ _ h=>by cases h),(λ_ _ h=>by cases h)⟩
theorem zH9(d:Option (List Deferred)):Odd (.deferred d):=⟨(λ_ _ _ h=>by cases h),(λ_ _ h=>by cases h),(λ_ _ h=>by cases h)⟩
theorem zJs{E:Env}{base:Nat}{S:Nat->Prop}{φ:Nat->Option Nat}{st:St}{a:Act}{w:World}(hR:Rel E base S φ st a w){g:Operand}{f:FuncId}{x:DV}(hg:evO E st.tm g=some (.d (.fn f [] [.dp x]))) :
  ∃ad cs,a.eval g=.func (.func f) #[] #[.pointer (some ad)]/\RD E.L S w x cs/\(∀j u,cs[j]? = some u->w.cell? (ad.add j)=some u)/\ad.spot=none:=by
 have h:=hR.ev g _ hg;have h:=(RV.rd (x:=.fn f [] [.dp x]) rfl h).1;have ha:∀v:Value,RD E.L S w (.fn f [] [.dp x]) (vcs v)->Jx v=false->∃ad cs,v=.func (.func f) #[] #[.pointer (some ad)]/\RD E.L S w x cs/\(∀j u,cs[j]? = some u->w.cell? (ad.add j)=some u)/\ad.spot=none:=by
  intro v hv hag;rw[z6 hag] at hv;cases hv with
  | fn _ _ _ vx vy hx hy h1 h2 h3 h4 =>
   obtain rfl:vx=[]:=List.length_eq_zero_iff.1 (by simpa using hx)
   obtain⟨u,rfl⟩:∃u,vy=[u]:=List.length_eq_one_iff.1 (by simpa using hy)
   have h30:=h3 0 (by simp) (by simp)
   have h40:=h4 0 (by simp) (by simp)
   simp only[List.getElem_cons_zero] at h30 h40;rw[z6 (by rw[h40];rfl)] at h30
   cases h30 with
   | dp _ ad cs hs hS hm hx hxt=>exact⟨ad,cs,rfl,hx,hm,hs⟩
 exact ha _ h (RV.rd (x:=.fn f [] [.dp x]) rfl (hR.ev g _ hg)).2
section
variable{E:Env}{call:FuncId->List DV->Option CR}{base:Nat}{S:Nat->Prop}{φ:Nat->Option Nat}{a:Act}{w:World}
theorem wp_pairs(hD:DOK Tryz.prog E)(hc:jv Tryz.prog E call){M n:Nat}{g:Operand}{t1 t2 p1 p2 i1 i2:Nat}{ty:TypeId}{s1 s2:String}{body:Code}{Q:Exit->Act->World->Prop}{tm:List AV}(hpk:Nat->List (Option OB))
  (hR:Rel E base S φ ⟨tm,hpk 0⟩ a w) (hn:(n:Int)<9223372036854775807) (hg:evO E tm g=some (.d (.fn 282 [] [.dp (.int .i64 n)])))
  (hgl:∀g x,E.glob g=some x->nz E.L (.dp x)=true) (hnt:noTupV ⟨tm,[]⟩=true) (hnz:zJd E.L tm=true) (hnh:∀k,k<=(jC n).length->(hpk k).all (nzB E.L)=true)
  (D:List Nat) (hdead:∀i∈D,tm[i]? = some .undef\/tm[i]? = none) (hmD:p1∈D/\p2∈D/\t1∈D/\t2∈D) (hne:p1≠p2) (hne2:t1≠p2) (hlen:p1<tm.length/\p2<tm.length)
  (hi:inR body=true) (hd:zD1 D body=true)
  (hexec:∀k p,(jC n)[k]? = some p->exec E M call body ⟨jh (jh (jh (jh tm (some p1) (.d (.int .i64 p.1))) (some p2) (.d (.int .i64 p.2))) (some t1) (.d (.int .i64 p.1))) (some t2) (.d (.int .i64 p.2)),hpk k⟩ (KLe ⟨tm,hpk (k+1)⟩)=some (.val .nl))
  (hdone:∀S' φ' W,Rel E base S' φ' ⟨tm,hpk (jC n).length⟩ a W->Grow base S S' w W->¬S' w.heap.size->W.heap[w.heap.size]? = some (.deferred (some [])) ->
   Q .normal { a with defers:={ target:=.collected w.heap.size,args:=#[] } :: a.defers } W) :
  (Code.rangeFunc g #[p1,p2] (asgC i1 i2 t1 t2 p1 p2 ty s1 s2) body).wpIn Fence.wide 0 Tryz.prog Q a w:=by
 obtain⟨ad,cs,hev,hcs,hcell,hsp⟩:=zJs hR hg;have hb0:base<=w.heap.size:=hR.base;let l:=w.heap.size+1
 let Dd:=w.heap.size
 let I:Nat->World->Prop:=λk W=>k<=(jC n).length/\∃S' φ',Rel E base S' φ' ⟨tm,hpk k⟩ a W/\Grow base S S' w W/\¬S' l/\¬S' Dd
 refine zAd (C:=λW=>W.cell? ad=some (.int .i64 n)) (xs:=(jC n).map encP) hev ?_ (zG7 ad n hn) ?_ I ?_ ?_ ?_
  (λx=>(({ tmps:=((#[p1,p2]:Array Tmp).zip x).foldl (λt (p,v)=>t.setIfInBounds p v) a.tmps,defers:=[] }:Act).put (some t1) (({ tmps:=((#[p1,p2]:Array Tmp).zip x).foldl (λt (p,v)=>t.setIfInBounds p v) a.tmps,defers:=[] }:Act).eval (.tmp p1))).put (some t2)
   ((({ tmps:=((#[p1,p2]:Array Tmp).zip x).foldl (λt (p,v)=>t.setIfInBounds p v) a.tmps,defers:=[] }:Act).put (some t1) (({ tmps:=((#[p1,p2]:Array Tmp).zip x).foldl (λt (p,v)=>t.setIfInBounds p v) a.tmps,defers:=[] }:Act).eval (.tmp p1))).eval (.tmp p2)))
  ?_ ?_ ?_
 ·exact Go.Proofs.enters_of Tryz.func282 (by kernel_rfl) rfl
 ·intro x hx;obtain⟨p,_,rfl⟩:=List.mem_map.1 hx;rfl
 ·rintro k W r o ⟨hk,S',φ',hR',hG,h1,h2⟩ hl;refine⟨hk,S',φ',hR'.turn hl (zF6 r) h1 o,⟨QM hG.below hR'.base (by omega) o,hG.sub,hG.new,λb hb=>?_⟩,h1,h2⟩
  have:=hR.lt b hb;rw[World.putObj_heap_other (by omega)]
  exact hG.kept b hb
 ·rintro k W ⟨hk,S',φ',hR',hG,h1,h2⟩;obtain⟨ad',cs',hev',hcs',hcell',hsp'⟩:=zJs hR' hg;rw[hev] at hev';simp only[Value.func.injEq,Array.mk.injEq,List.cons.injEq,Value.pointer.injEq,Option.some.injEq,and_true,true_and] at hev';obtain rfl:ad=ad':=by simpa using hev'
  cases hcs' with
  | int _ _ =>
   have:=hcell' 0 _ rfl
   rwa [jk hsp',Nat.add_zero,show(⟨ad.block,ad.off,none⟩:Addr)=ad by rw[<-hsp']] at this
 ·intro r;have hB:Below base w ((w.alloc (.deferred (some []))).alloc (.loop r)):=((Below.refl _ w).alloc hb0 _).alloc (by simp;omega) _
  have hold:∀b,b<w.heap.size->((w.alloc (.deferred (some []))).alloc (.loop r)).heap[b]? = w.heap[b]?:=λb hb=>(Below.heap_alloc _ _ b (by simp;omega)).trans (Below.heap_alloc _ _ b hb)
  have hG:Grow base S S w ((w.alloc (.deferred (some []))).alloc (.loop r)):=⟨hB,λ_ h=>h,λ_ h=>.inl h,λb hb=>hold b (hR.lt b hb)⟩
  refine⟨Nat.zero_le _,S,φ,hR.world hG (λb hb=>?_) (λ_ _ h=>h) hold,hG,λh=>?_,λh=>?_⟩
  ·have:=hR.lt b hb;simp;omega
  ·have:=hR.lt _ h;omega
  ·have:=hR.lt _ h;exact absurd this (Nat.lt_irrefl _)
 ·intro k x W K hx hK;exact asg_wp hK
 ·rintro k x W r hx ⟨hk,S',φ',hR',hG,h1,h2⟩ hl hDd;rw[List.getElem?_map] at hx;cases hp:(jC n)[k]? with
  | none=>rw[hp] at hx;simp at hx
  | some p =>
  rw[hp] at hx;simp only[Option.map_some,Option.some.injEq] at hx;subst hx;have hklt:k<(jC n).length:=(List.getElem?_eq_some_iff.1 hp).1;have ha0:({ tmps:=((#[p1,p2]:Array Tmp).zip (encP p)).foldl (λt (p,v)=>t.setIfInBounds p v) a.tmps,defers:=[] }:Act)=(a.put (some p1) (.int .i64 p.1)).put (some p2) (.int .i64 p.2):=by
   have hd0:a.defers=[]:=hR.dfr;have:∀(t:Array Value) (d:List Deferred),d=[]->({ tmps:=t,defers:=[] }:Act)=⟨t,d⟩:=λt d h=>by rw[h]
   refine(this _ _ hd0).trans ?_;simp[encP,Act.put]
  rw[ha0];have hi64:∀m:Nat,RAV E.L (λb=>(S' b\/b=l)\/b=Dd) φ' W (.d (.int .i64 m)) (.int .i64 m):=λm=>⟨.int _ _,rfl⟩
  have hR2:=(((hR'.stay hl (zF6 r)).stay hDd (zH9 _)).put (some p1) (hi64 p.1)).put (some p2) (hi64 p.2);have hR3:=hR2.put (some t1) (hR2.ev (.tmp p1) (.d (.int .i64 p.1)) (by simp[evO,jh,List.getElem?_set,hne.symm,hlen.1]))
  have hR4:=hR3.put (some t2) (hR3.ev (.tmp p2) (.d (.int .i64 p.2)) (by simp[evO,jh,List.getElem?_set,hne2,hlen.2]))
  refine zDp hD (by kernel_rfl) hc body hi hd (by rintro⟨a,w,h,_⟩;cases h) (hexec k p hp) hR4 ?_
  intro ex st' S3 φ3 a3 W3 hK3 hR5 hG5 hkeep;obtain⟨rfl,hle⟩:=zBW hK3;have hkl:W3.heap[l]? = W.heap[l]?:=hG5.kept l (.inl (.inr rfl));have hkD:W3.heap[Dd]? = W.heap[Dd]?:=hG5.kept Dd (.inr rfl);refine⟨rfl,⟨by omega,?_⟩,hkl,hkD⟩
  have hR6:=hR5.le hle;have hnt':noTupV ⟨tm,hpk (k+1)⟩=true:=hnt;have hnz':nzSt E.L ⟨tm,hpk (k+1)⟩=true:=by simp only[nzSt,hnz,hnh (k+1) (by omega),Bool.and_self]
  have hR7:=(hR6.cut (hkl.trans hl) (zF6 r) hgl hnt' hnz').cut (hkD.trans hDd) (zH9 _) hgl hnt' hnz';refine⟨_,φ3,⟨hR7.glob,?_,hR7.blk,hR7.inj,hR7.lt,hR7.base,hR.dfr⟩,⟨hG.below.trans hG5.below,λb hb=>?_,λb hb=>?_,λb hb=>?_⟩,λh=>h.1.2 rfl,λh=>h.2 rfl⟩
  ·intro i v hv;by_cases hiD:i∈D
   ·rcases hdead i hiD with e | e
    ·obtain⟨u,hu,_⟩:=hR.tm i _ e;rw[show tm[i]? = _ from hv] at e
     injection e with e;subst e
     exact⟨u,hu,trivial⟩
    ·rw[show tm[i]? = _ from hv] at e;cases e
   ·obtain⟨u,hu,hr⟩:=hR7.tm i v hv;refine⟨u,?_,hr⟩;rw[<-hu,hkeep i hiD];have n1:p1≠i:=by rintro rfl;exact hiD hmD.1
    have n2:p2≠i:=by rintro rfl;exact hiD hmD.2.1
    have n3:t1≠i:=by rintro rfl;exact hiD hmD.2.2.1
    have n4:t2≠i:=by rintro rfl;exact hiD hmD.2.2.2
    simp only[Act.put];rw[Array.getElem?_setIfInBounds_ne n4,Array.getElem?_setIfInBounds_ne n3,Array.getElem?_setIfInBounds_ne n2,Array.getElem?_setIfInBounds_ne n1]
  ·have:=hR.lt b hb;exact⟨⟨hG5.sub b (.inl (.inl (hG.sub b hb))),by show b≠w.heap.size+1;omega⟩,by show b≠w.heap.size;omega⟩
  ·rcases hG5.new b hb.1.1 with ((h | h) | h) | h
   ·exact hG.new b h
   ·exact absurd h hb.1.2
   ·exact absurd h hb.2
   ·exact .inr h
  ·exact(hG5.kept b (.inl (.inl (hG.sub b hb)))).trans (hG.kept b hb)
 ·rintro W ⟨_,S',φ',hR',hG,h1,h2⟩ hK;rw[List.length_map] at hR';exact hdone S' φ' W hR' hG h2 hK
end
end Go.Am
namespace Go.Am
open Go.Proofs
open Go
def sq1:Code->Code | .seq x _=>x | c=>c
def sq2:Code->Code | .seq _ y=>y | c=>c
def bk1:Code->Code | .block _ c=>c | c=>c
def rfA:Code->Code | .rangeFunc _ _ a _=>a | c=>c
def rfB:Code->Code | .rangeFunc _ _ _ b=>b | c=>c
noncomputable def pcX(f:FuncId)(c:Code)(st:St):Tr:=Jw EE XX (XX.fx f) c 0 0 st (λe st=>match e with | .normal=>.goto 0 st | _=>.fail)
noncomputable def k161:Code:=YC EE 161
noncomputable def k161a:Code:=.seq (sq1 k161) (.seq (sq1 (sq2 k161)) (sq1 (sq1 (sq2 (sq2 k161)))))
noncomputable def k161r:Code:=bk1 (sq2 (sq1 (sq2 (sq2 k161))))
abbrev dWk(ru:ByteArray)(d wd:List DV):DV:=.agg 0 [.str ru,.sl 1 d,.sl 1 wd]
abbrev dCu(pw:List DV)(cut:Int):DV:=.agg 1 [.sl 1 pw,.int .i64 cut]
abbrev dPn(ps:List DV)(least:Int)(ru:ByteArray)(d wd pw:List DV)(cut:Int)(rs:List DV):DV:=.agg 6 [.sl 2 ps,.int .i64 least,dWk ru d wd,dCu pw cut,.agg 3 rs]
noncomputable def p161a(ps:List DV)(least:Int)(ru:ByteArray)(d wd pw:List DV)(cut:Int)(rs:List DV):Tr:=pcX 161 k161a (zx 50 [(0,.d (dPn ps least ru d wd pw cut rs))] [])
noncomputable def k161b:Code:=rfB k161r
abbrev dSe(ps:List DV)(least:Int)(ru:ByteArray)(d wd pw:List DV)(cut:Int)(rs ns:List DV):DV:=.agg 16 [dPn ps least ru d wd pw cut rs,.agg 13 [dWk ru d wd,dCu pw cut,.agg 3 rs],.agg 15 ns]
def tm161(n:Int):List AV:=stTm 50 0 [(1,.ptr 1 415 0 []),(3,.ptr 3 1 0 []),(20,.d (.fn 282 [] [.dp (.int .i64 n)]))]
def hp161(ps:List DV)(least:Int)(ru:ByteArray)(d wd pw:List DV)(cut:Int)(rs ns:List DV):List (Option OB) :=
 stHp 50 0 [(1,⟨false,.dc 415 [dPn ps least ru d wd pw cut rs]⟩),(3,⟨false,.ac 1 [.ptr 16 892 0 []]⟩),(16,⟨false,.dc 892 [dSe ps least ru d wd pw cut rs ns]⟩)]
def rd161(n:Int)(j i:Nat):List AV:=jh (jh (jh (jh (tm161 n) (some 21) (.d (.int .i64 j))) (some 22) (.d (.int .i64 i))) (some 4) (.d (.int .i64 j))) (some 5) (.d (.int .i64 i))
noncomputable def p161c(j i:Nat)(n:Int)(ps:List DV)(least:Int)(ru:ByteArray)(d wd pw:List DV)(cut:Int)(rs ns:List DV):Tr:=pcX 161 k161b ⟨rd161 n j i,hp161 ps least ru d wd pw cut rs ns⟩
noncomputable def k200:Code:=YC EE 200
noncomputable def k200z:Code:=sq2 (sq2 (sq2 k200))
noncomputable def k200b:Code:=rfB (bk1 (sq2 (sq1 k200z)))
def tm200(ru:ByteArray)(d wd ps:List DV)(sec x y:Int):List AV :=
 stTm 47 0 [(3,.d (.dp (dWk ru d wd))),(4,.d (.dp (.sl 2 ps))),(5,.d (.dp (.agg 9 [.int .i64 sec,.agg 1 [.int .i64 x,.int .i64 y]]))),(7,.ptr 7 1 0 [])]
noncomputable def hp200(j n:Nat)(row:List DV):List (Option OB):=stHp 47 0 [(7,⟨true,.ac 1 [.own 19 0 n 1]⟩),(19,⟨true,.ac 1 (List.replicate j .undef++[.own 20 0 n 1])⟩),(20,⟨false,.dc 1 row⟩)]
def rd200(j i:Nat)(ru:ByteArray)(d wd ps:List DV)(sec x y:Int):List AV :=
 jh (jh (tm200 ru d wd ps sec x y) (some 8) (.d (.int .i64 j))) (some 9) (.d (.int .i64 i))
noncomputable def p200c(j i n:Nat)(ru:ByteArray)(d wd ps:List DV)(sec x y:Int)(row:List DV):Tr:=pcX 200 k200b ⟨rd200 j i ru d wd ps sec x y,hp200 j n row⟩
end Go.Am
namespace Go.Proofs
open Go.Shelf
def Tryz.lays156_ren:Go.Shelf.Ren:=⟨λ| 156=>208 | 165=>268 | 166=>269 | 169=>270 | 240=>312 | 241=>313 | 276=>345 | 277=>346 | n=>n,λ| 31=>173 | 9=>9 | 3=>3 | 4=>4 | 0=>0 | 20=>20 | 72=>387 | 76=>329 | 70=>385 | 37=>51 | 75=>328 | 127=>422 | 164=>448 | 5=>5 | 80=>389 | n=>n,λ| n=>n⟩
theorem Tryz.lays156:Go.Proofs.Lays.n156 Tryz.prog Tryz.lays156_ren:={
 mixed:=by kernel_rfl
 f156:=Tryz.func208.trans (congrArg some (by kernel_rfl))
 f165:=Tryz.func268.trans (congrArg some (by kernel_rfl))
 f166:=Tryz.func269.trans (congrArg some (by kernel_rfl))
 f169:=Tryz.func270.trans (congrArg some (by kernel_rfl))
 f240:=Tryz.func312.trans (congrArg some (by kernel_rfl))
 f241:=Tryz.func313.trans (congrArg some (by kernel_rfl))
 f276:=Tryz.func345.trans (congrArg some (by kernel_rfl))
 f277:=Tryz.func346.trans (congrArg some (by kernel_rfl))
 t0:=Tryz.underlying0
 a0:=Tryz.isAgg0
 z0:=Tryz.sizeOf0
 v0:=Tryz.zeroValue0
 t3:=Tryz.underlying3
 a3:=Tryz.isAgg3
 z3:=Tryz.sizeOf3
 v3:=Tryz.zeroValue3
 t4:=Tryz.underlying4
 a4:=Tryz.isAgg4
 z4:=Tryz.sizeOf4
 v4:=Tryz.zeroValue4
 t9:=Tryz.underlying9
 a9:=Tryz.isAgg9
 z9:=Tryz.sizeOf9
 v9:=Tryz.zeroValue9
 t20:=Tryz.underlying20
 a20:=Tryz.isAgg20
 z20:=Tryz.sizeOf20
 v20:=Tryz.zeroValue20
 t31:=Tryz.underlying173
 a31:=Tryz.isAgg173
 z31:=Tryz.sizeOf173
 v31:=Tryz.zeroValue173
 t37:=Tryz.underlying51
 a37:=Tryz.isAgg51
 z37:=Tryz.sizeOf51
 v37:=Tryz.zeroValue51
 t70:=Tryz.underlying385
 a70:=Tryz.isAgg385
 z70:=Tryz.sizeOf385
 v70:=Tryz.zeroValue385
 t72:=Tryz.underlying387
 a72:=Tryz.isAgg387
 z72:=Tryz.sizeOf387
 v72:=Tryz.zeroValue387
 t75:=Tryz.underlying328
 a75:=Tryz.isAgg328
 z75:=Tryz.sizeOf328
 v75:=Tryz.zeroValue328
 t76:=Tryz.underlying329
 a76:=Tryz.isAgg329
 z76:=Tryz.sizeOf329
 v76:=Tryz.zeroValue329
 t127:=Tryz.underlying422
 a127:=Tryz.isAgg422
 z127:=Tryz.sizeOf422
 v127:=Tryz.zeroValue422
 t164:=Tryz.underlying448
 a164:=Tryz.isAgg448
 z164:=Tryz.sizeOf448
 v164:=Tryz.zeroValue448 }
theorem Tryz.Builder_Extra_156:Builder.Extra Tryz.prog Tryz.lays156_ren:={
 sizeBuilder:=by kernel_rfl
 liesBuilder:=by kernel_rfl
 t5:=Tryz.underlying5
 a5:=Tryz.isAgg5
 z5:=Tryz.sizeOf5
 v5:=Tryz.zeroValue5
 infoByte:=by kernel_rfl
 cellsByte:=by kernel_rfl
 sizeByte:=by kernel_rfl
 neB5:=by decide }
open Go.RowKit in
theorem Tryz.strings_Join_none(a:Option Addr)(c:Nat)(sep:ByteArray)(w:World) :
  Calls Tryz.prog 208 #[.slice a 0 c,.string sep] w λe w'=>e=.returned (.string ⟨#[]⟩)/\w'=w:=Any.strings_Join_none Tryz.lays156 Tryz.Builder_Extra_156 a c sep w
open Go.RowKit in
theorem Tryz.strings_Join(bk o c:Nat)(xs:List ByteArray)(sep:ByteArray)(w:World)(hcells:∀(j:Nat) x,xs[j]? = some x->w.cell? ⟨bk,o+j,none⟩=some (.string x))(hbk:bk<w.heap.size)(hN:xs.length<=140737488355328)(hcap:xs.length<=c)(hlen:(Lib.join (xs.map (·.data.toList)) sep.data.toList).length<=140737488355328) :
  Calls Tryz.prog 208 #[.slice (some ⟨bk,o,none⟩) xs.length c,.string sep] w λe w'=>e=.returned (.string ⟨(Lib.join (xs.map (·.data.toList)) sep.data.toList).toArray⟩)/\Below w.heap.size w w':=Any.strings_Join Tryz.lays156 Tryz.Builder_Extra_156 bk o c xs sep w hcells hbk hN hcap hlen
def Tryz.lays318_ren:Go.Shelf.Ren:=⟨λ| 318=>381 | n=>n,λ| 3=>3 | 4=>4 | n=>n,λ| n=>n⟩
def Tryz.laysM246_ren:Go.Shelf.Ren:=⟨λ| 246=>314 | 283=>347 | 284=>348 | 285=>349 | 286=>350 | 129=>310 | 317=>380 | 318=>381 | 319=>382 | 320=>383 | 337=>397 | 338=>398 | n=>n,λ| 2=>2 | 3=>3 | 9=>9 | 4=>4 | 171=>451 | 0=>0 | 53=>421 | 37=>51 | 5=>5 | 173=>453 | 212=>480 | 51=>237 | 20=>20 | 213=>481 | 46=>235 | 232=>500 | 233=>501 | n=>n,λ| 17=>5 | 18=>8 | 19=>9 | n=>n⟩
def Tryz.laysM243_ren:Go.Shelf.Ren:=⟨λ| 243=>271 | 246=>314 | 283=>347 | 284=>348 | 285=>349 | 286=>350 | 129=>310 | 317=>380 | 318=>381 | 319=>382 | 320=>383 | 337=>397 | 338=>398 | n=>n,λ| 3=>3 | 9=>9 | 2=>2 | 4=>4 | 171=>451 | 0=>0 | 53=>421 | 37=>51 | 5=>5 | 173=>453 | 212=>480 | 51=>237 | 20=>20 | 213=>481 | 46=>235 | 232=>500 | 233=>501 | n=>n,λ| 17=>5 | 18=>8 | 19=>9 | n=>n⟩
def Tryz.laysM171_ren:Go.Shelf.Ren:=⟨λ| 171=>210 | 243=>271 | 246=>314 | 283=>347 | 284=>348 | 285=>349 | 286=>350 | 129=>310 | 317=>380 | 318=>381 | 319=>382 | 320=>383 | 337=>397 | 338=>398 | n=>n,λ| 3=>3 | 9=>9 | 2=>2 | 4=>4 | 171=>451 | 0=>0 | 53=>421 | 37=>51 | 5=>5 | 173=>453 | 212=>480 | 51=>237 | 20=>20 | 213=>481 | 46=>235 | 232=>500 | 233=>501 | n=>n,λ| 17=>5 | 18=>8 | 19=>9 | n=>n⟩
theorem Tryz.laysM171:Go.Proofs.LaysM.n171 Tryz.prog Tryz.laysM171_ren:={
 mixed:=by kernel_rfl
 f129:=Tryz.func310.trans (congrArg some (by kernel_rfl))
 f171:=Tryz.func210.trans (congrArg some (by kernel_rfl))
 f243:=Tryz.func271.trans (congrArg some (by kernel_rfl))
 f246:=Tryz.func314.trans (congrArg some (by kernel_rfl))
 f283:=Tryz.func347.trans (congrArg some (by kernel_rfl))
 f284:=Tryz.func348.trans (congrArg some (by kernel_rfl))
 f285:=Tryz.func349.trans (congrArg some (by kernel_rfl))
 f286:=Tryz.func350.trans (congrArg some (by kernel_rfl))
 f317:=Tryz.func380.trans (congrArg some (by kernel_rfl))
 f318:=Tryz.func381.trans (congrArg some (by kernel_rfl))
 f319:=Tryz.func382.trans (congrArg some (by kernel_rfl))
 f320:=Tryz.func383.trans (congrArg some (by kernel_rfl))
 f337:=Tryz.func397.trans (congrArg some (by kernel_rfl))
 f338:=Tryz.func398.trans (congrArg some (by kernel_rfl))
 t0:=Tryz.underlying0
 a0:=Tryz.isAgg0
 z0:=Tryz.sizeOf0
 v0:=Tryz.zeroValue0
 t2:=Tryz.underlying2
 a2:=Tryz.isAgg2
 z2:=Tryz.sizeOf2
 v2:=Tryz.zeroValue2
 t3:=Tryz.underlying3
 a3:=Tryz.isAgg3
 z3:=Tryz.sizeOf3
 v3:=Tryz.zeroValue3
 t4:=Tryz.underlying4
 a4:=Tryz.isAgg4
 z4:=Tryz.sizeOf4
 v4:=Tryz.zeroValue4
 t5:=Tryz.underlying5
 a5:=Tryz.isAgg5
 z5:=Tryz.sizeOf5
 v5:=Tryz.zeroValue5
 t9:=Tryz.underlying9
 a9:=Tryz.isAgg9
 z9:=Tryz.sizeOf9
 v9:=Tryz.zeroValue9
 t20:=Tryz.underlying20
 a20:=Tryz.isAgg20
 z20:=Tryz.sizeOf20
 v20:=Tryz.zeroValue20
 t37:=Tryz.underlying51
 a37:=Tryz.isAgg51
 z37:=Tryz.sizeOf51
 v37:=Tryz.zeroValue51
 t46:=Tryz.underlying235
 a46:=Tryz.isAgg235
 z46:=Tryz.sizeOf235
 v46:=Tryz.zeroValue235
 t51:=Tryz.underlying237
 a51:=Tryz.isAgg237
 z51:=Tryz.sizeOf237
 v51:=Tryz.zeroValue237
 t53:=Tryz.underlying421
 a53:=Tryz.isAgg421
 z53:=Tryz.sizeOf421
 v53:=Tryz.zeroValue421
 t171:=Tryz.underlying451
 a171:=Tryz.isAgg451
 z171:=Tryz.sizeOf451
 v171:=Tryz.zeroValue451
 t173:=Tryz.underlying453
 a173:=Tryz.isAgg453
 z173:=Tryz.sizeOf453
 v173:=Tryz.zeroValue453
 t212:=Tryz.underlying480
 a212:=Tryz.isAgg480
 z212:=Tryz.sizeOf480
 v212:=Tryz.zeroValue480
 t213:=Tryz.underlying481
 a213:=Tryz.isAgg481
 z213:=Tryz.sizeOf481
 t232:=Tryz.underlying500
 a232:=Tryz.isAgg500
 z232:=Tryz.sizeOf500
 v232:=Tryz.zeroValue500
 t233:=Tryz.underlying501
 a233:=Tryz.isAgg501
 z233:=Tryz.sizeOf501
 v233:=Tryz.zeroValue501
 g17:=by kernel_rfl
 g18:=by kernel_rfl
 g19:=by kernel_rfl
 i0:=by kernel_rfl
 i2:=by kernel_rfl
 i3:=by kernel_rfl
 i4:=by kernel_rfl
 i5:=by kernel_rfl
 i9:=by kernel_rfl
 i20:=by kernel_rfl
 i37:=by kernel_rfl
 i46:=by kernel_rfl
 i51:=by kernel_rfl
 i53:=by kernel_rfl
 i171:=by kernel_rfl
 i173:=by kernel_rfl
 i212:=by kernel_rfl
 i232:=by kernel_rfl
 i233:=by kernel_rfl
 m17:=by kernel_rfl
 m18:=by kernel_rfl
 m19:=by kernel_rfl }
open Go.RowKit Go.Sort Go.Lib in
theorem Tryz.strconv_Itoa(n:Int)(h0:-9223372036854775808<=n)(h1:n<=9223372036854775807)(w:World)(htab:Lib.TabIs Tryz.prog w "internal/strconv.uint64pow10" .u64 Lib.pow10Tab) :
  Calls Tryz.prog 210 #[.int .i64 n] w λe w'=>e=.returned (.string ⟨(Lib.itoa n).toArray⟩)/\∃k os,w'=grow (w.drewN k) os:=Any.strconv_Itoa Tryz.laysM171 n h0 h1 w htab
def Tryz.laysNm215_ren:Go.Shelf.Ren:=⟨λ| 15=>243 | n=>n,λ| 22=>25 | 3=>3 | 4=>4 | n=>n,λ| n=>n⟩
theorem Tryz.laysNm215:Go.Proofs.Lays2.n15 Tryz.prog Tryz.laysNm215_ren:={
 mixed:=by kernel_rfl
 f15:=Tryz.func243.trans (congrArg some (by kernel_rfl))
 t3:=Tryz.underlying3
 a3:=Tryz.isAgg3
 z3:=Tryz.sizeOf3
 v3:=Tryz.zeroValue3
 t4:=Tryz.underlying4
 a4:=Tryz.isAgg4
 z4:=Tryz.sizeOf4
 v4:=Tryz.zeroValue4
 t22:=Tryz.underlying25
 a22:=Tryz.isAgg25
 z22:=Tryz.sizeOf25
 v22:=Tryz.zeroValue25
 i3:=by kernel_rfl }
open Go.RowKit Go.Lib in
theorem Tryz.slices_Clone_int(b off n c:Nat)(zs:List Int)(w:World)(hz:n<=zs.length)(hbig:n * 8<=140737488355328)(hc:∀j,j<zs.length->w.cell? ⟨b,off+j,none⟩=some (.int .i64 (zs.getD j 0))) :
  Calls Tryz.prog 243 #[.slice (some ⟨b,off,none⟩) n c] w λe w'=>∃v',e=.returned v'/\w'.ownsRow w.heap.size 3 1 v' n ((zs.take n).map (Value.int .i64))/\v'≠.slice none 0 0/\Below w.heap.size w w':=Any.slices_Clone_int Tryz.laysNm215 b off n c zs w hz hbig hc
open Go.RowKit Go.Lib in
theorem Tryz.slices_Clone_int_nil(n c:Nat)(w:World) :
  Calls Tryz.prog 243 #[.slice none n c] w λe w'=>e=.returned (.slice none 0 0)/\w'=w:=Any.slices_Clone_int_nil Tryz.laysNm215 n c w
def Tryz.laysNm237_ren:Go.Shelf.Ren:=⟨λ| 37=>311 | n=>n,λ| 3=>3 | 4=>4 | n=>n,λ| n=>n⟩
theorem Tryz.laysNm237:Go.Proofs.Lays2.n37 Tryz.prog Tryz.laysNm237_ren:={
 mixed:=by kernel_rfl
 f37:=Tryz.func311.trans (congrArg some (by kernel_rfl))
 t3:=Tryz.underlying3
 a3:=Tryz.isAgg3
 z3:=Tryz.sizeOf3
 v3:=Tryz.zeroValue3
 t4:=Tryz.underlying4
 a4:=Tryz.isAgg4
 z4:=Tryz.sizeOf4
 v4:=Tryz.zeroValue4 }
open Go.RowKit Go.Lib in
theorem Tryz.cmp_isNaN_int2(x:Int)(w:World) :
  Calls Tryz.prog 311 #[.int .i64 x] w λe w'=>e=.returned (.bool false)/\w'=w:=Any.cmp_isNaN_int2 Tryz.laysNm237 x w
end Go.Proofs
namespace Go.Am
open Go.Proofs
open Go
@[simp] theorem zF(x y:Option CR):ifO true x y=x:=rfl
@[simp] theorem zT(x y:Option CR):ifO false x y=y:=rfl
theorem zX(p:Prop)[Decidable p](x y:Option CR):ifO (decide p) x y=if p then x else y:=by by_cases h:p <;> simp[h]
theorem jE(a b:Int)(x y:Option CR):ifO (bne a b) x y=if a=b then y else x:=by
 by_cases h:a=b
 ·subst h;simp[bne]
 ·have:(a == b)=false:=beq_eq_false_iff_ne.2 h;simp[bne,this,h]
theorem zBH(a b:Int)(x y:Option CR):ifO (a == b) x y=if a=b then x else y:=by
 by_cases h:a=b
 ·subst h;simp
 ·have:(a == b)=false:=beq_eq_false_iff_ne.2 h;simp[this,h]
@[simp] theorem zJ(x:DV)(kv:DV->Option CR)(kf:Nat->List DV->Option CR):zI (some (.val x)) kv kf=kv x:=rfl
@[simp] theorem zDs(s:Nat)(xs:List DV)(kv:DV->Option CR)(kf:Nat->List DV->Option CR):zI (some (.fresh s xs)) kv kf=kf s xs:=rfl
@[simp] theorem zK(k:IntKind)(n:Int):zC (.int k n)=n:=rfl
@[simp] theorem z8(b:Bool):YI (.bool b)=b:=rfl
@[simp] theorem zl(s:ByteArray):ze (.str s)=s:=rfl
@[simp] theorem zQ(n:Nat)(xs:List DV):elems (.sl n xs)=xs:=rfl
@[simp] theorem zV(n:Nat)(xs:List DV):flds (.agg n xs)=xs:=rfl
@[simp] theorem qt(x:DV):undp (.dp x)=x:=rfl
@[simp] theorem Yx(f:FuncId)(a c:List DV):zEv (.fn f a c)=f:=rfl
@[simp] theorem Qb(f:FuncId)(a c:List DV):fnA (.fn f a c)=a:=rfl
@[simp] theorem Qa(f:FuncId)(a c:List DV):fnC (.fn f a c)=c:=rfl
@[simp] theorem keys_mp(a c:List DV):keys (.mp a c)=a:=rfl
@[simp] theorem vals_mp(a c:List DV):vals (.mp a c)=c:=rfl
@[simp] theorem jD(a:List DV):tups (.tup a)=a:=rfl
@[simp] theorem zY(x:DV)(l:List DV):nth (x :: l) 0=x:=rfl
@[simp] theorem nth_succ(x:DV)(l:List DV)(n:Nat):nth (x :: l) (n+1)=nth l n:=rfl
@[simp] theorem zb(x y:DV)(l:List DV):nth (x :: y :: l) 1=y:=rfl
@[simp] theorem zq(x y z:DV)(l:List DV):nth (x :: y :: z :: l) 2=z:=rfl
@[simp] theorem zy(x y z u:DV)(l:List DV):nth (x :: y :: z :: u :: l) 3=u:=rfl
@[simp] theorem QW(x y z u v:DV)(l:List DV):nth (x :: y :: z :: u :: v :: l) 4=v:=rfl
@[simp] theorem zz(l:List DV):(DV.tup l).isTup=true:=rfl
theorem zP{α:Type}(f:α->DV)(l:List α)(i:Nat)(h:i<l.length):nth (l.map f) i=f l[i]:=by unfold nth;simp[h]
@[simp] theorem zN(f:TypeId->DV->Bool):zS f [] []=true:=rfl
@[simp] theorem zL(f:TypeId->DV->Bool)(t:TypeId)(x:DV)(ts:List TypeId)(xs:List DV):zS f (t :: ts) (x :: xs)=(f t x && zS f ts xs):=rfl
theorem wr(n:Int)(h:-9223372036854775808<=n/\n<=9223372036854775807):IntKind.i64.wrap n=n:=IntWalk.i64_in n h
theorem down{P:Nat->Prop}(n:Nat)(hn:P n)(hs:∀i,i<n->P (i+1)->P i):∀i,i<=n->P i:=by
 intro i hi;obtain⟨k,rfl⟩:∃k,n=i+k:=⟨n - i,by omega⟩
 clear hi;induction k generalizing i with
 | zero=>exact hn
 | succ k ih=>exact hs i (by omega) (ih (i+1) (by rw[show i+1+k=i+(k+1) by omega];exact hn) (λj hj=>hs j (by omega)))
theorem zi{α:Type}(l:List α)(i:Nat)(h:i<l.length):l.drop i=l[i] :: l.drop (i+1):=by simp
end Go.Am
namespace Go.Am
open Go.Proofs
open Go
@[simp] theorem h3(a1:Int):zH EE 6 3 (.int .i64 a1)=true:=by kernel_rfl
@[simp] theorem h4(a1:Bool):zH EE 6 4 (.bool a1)=true:=by kernel_rfl
@[simp] theorem h5(a1:Int):zH EE 6 5 (.int .u8 a1)=true:=by kernel_rfl
@[simp] theorem h9(a1:ByteArray):zH EE 6 9 (.str a1)=true:=by kernel_rfl
@[simp] theorem h24(a1:ByteArray)(a2:Int)(a3:List DV):zH EE 6 24 (.agg 0 [(.str a1),(.int .i64 a2),(.sl 3 a3)])=true:=by kernel_rfl
@[simp] theorem h25(a1:List DV):zH EE 6 25 (.sl 1 a1)=true:=by kernel_rfl
@[simp] theorem h27(a1:ByteArray)(a2:List DV)(a3:List DV):zH EE 6 27 (.agg 0 [(.str a1),(.sl 1 a2),(.sl 1 a3)])=true:=by kernel_rfl
@[simp] theorem h29(a1:List DV)(a2:Int):zH EE 6 29 (.agg 1 [(.sl 1 a1),(.int .i64 a2)])=true:=by kernel_rfl
@[simp] theorem h30(a1:List DV):zH EE 6 30 (.agg 2 a1)=decide (a1.length=51):=by kernel_rfl
@[simp] theorem h32(a1:List DV):zH EE 6 32 (.agg 3 a1)=decide (a1.length=8):=by kernel_rfl
@[simp] theorem h34(a1:ByteArray)(a2:Int)(a3:List DV)(a4:ByteArray)(a5:List DV)(a6:List DV)(a7:List DV)(a8:Int)(a9:List DV):zH EE 6 34 (.agg 4 [(.agg 0 [(.str a1),(.int .i64 a2),(.sl 3 a3)]),(.agg 0 [(.str a4),(.sl 1 a5),(.sl 1 a6)]),(.agg 1 [(.sl 1 a7),(.int .i64 a8)]),(.agg 3 a9)])=(decide (a9.length=8) && true):=by kernel_rfl
@[simp] theorem h45(a1:List DV):zH EE 6 45 (.agg 3 a1)=decide (a1.length=8):=by kernel_rfl
@[simp] theorem h46(a1:Int):zH EE 6 46 (.int .i64 a1)=true:=by kernel_rfl
@[simp] theorem h56(a1:List DV):zH EE 6 56 (.sl 3 a1)=true:=by kernel_rfl
@[simp] theorem h58(a1:ByteArray)(a2:Int)(a3:List DV):zH EE 6 58 (.agg 0 [(.str a1),(.int .i64 a2),(.sl 3 a3)])=true:=by kernel_rfl
@[simp] theorem h59(a1:ByteArray)(a2:List DV)(a3:List DV):zH EE 6 59 (.agg 0 [(.str a1),(.sl 1 a2),(.sl 1 a3)])=true:=by kernel_rfl
@[simp] theorem h60(a1:List DV)(a2:Int):zH EE 6 60 (.agg 1 [(.sl 1 a1),(.int .i64 a2)])=true:=by kernel_rfl
@[simp] theorem h62(a1:ByteArray)(a2:Int)(a3:List DV)(a4:ByteArray)(a5:List DV)(a6:List DV)(a7:List DV)(a8:Int)(a9:List DV):zH EE 6 62 (.agg 4 [(.agg 0 [(.str a1),(.int .i64 a2),(.sl 3 a3)]),(.agg 0 [(.str a4),(.sl 1 a5),(.sl 1 a6)]),(.agg 1 [(.sl 1 a7),(.int .i64 a8)]),(.agg 3 a9)])=(decide (a9.length=8) && true):=by kernel_rfl
@[simp] theorem h72(a1:Int)(a2:Int)(a3:Int)(a4:Int):zH EE 6 72 (.agg 5 [(.int .i64 a1),(.int .i64 a2),(.int .i64 a3),(.int .i64 a4)])=true:=by kernel_rfl
@[simp] theorem h73(a1:FuncId)(a2:List DV)(a3:List DV):zH EE 6 73 (.fn a1 a2 a3)=true:=by kernel_rfl
@[simp] theorem h74(a1:FuncId)(a2:List DV)(a3:List DV):zH EE 6 74 (.fn a1 a2 a3)=true:=by kernel_rfl
@[simp] theorem h81(a1:List DV):zH EE 6 81 (.sl 2 a1)=true:=by kernel_rfl
@[simp] theorem h88(a1:List DV)(a2:Int)(a3:ByteArray)(a4:List DV)(a5:List DV)(a6:List DV)(a7:Int)(a8:List DV):zH EE 6 88 (.agg 6 [(.sl 2 a1),(.int .i64 a2),(.agg 0 [(.str a3),(.sl 1 a4),(.sl 1 a5)]),(.agg 1 [(.sl 1 a6),(.int .i64 a7)]),(.agg 3 a8)])=(decide (a8.length=8) && true):=by kernel_rfl
@[simp] theorem h95(a1:List DV):zH EE 6 95 (.sl 1 a1)=true:=by kernel_rfl
@[simp] theorem h141(a1:Int)(a2:Int):zH EE 6 141 (.agg 1 [(.int .i64 a1),(.int .i64 a2)])=true:=by kernel_rfl
@[simp] theorem h143(a1:ByteArray)(a2:Int)(a3:Int):zH EE 6 143 (.agg 9 [(.str a1),(.agg 1 [(.int .i64 a2),(.int .i64 a3)])])=true:=by kernel_rfl
@[simp] theorem h156(a1:List DV):zH EE 6 156 (.agg 1 a1)=decide (a1.length=2):=by kernel_rfl
@[simp] theorem h173(a1:List DV):zH EE 6 173 (.sl 1 a1)=true:=by kernel_rfl
@[simp] theorem h176(a1:ByteArray)(a2:Int)(a3:Int):zH EE 6 176 (.agg 9 [(.str a1),(.agg 1 [(.int .i64 a2),(.int .i64 a3)])])=true:=by kernel_rfl
@[simp] theorem h246(a1:ByteArray)(a2:List DV)(a3:List DV)(a4:List DV)(a5:Int)(a6:List DV):zH EE 6 246 (.agg 13 [(.agg 0 [(.str a1),(.sl 1 a2),(.sl 1 a3)]),(.agg 1 [(.sl 1 a4),(.int .i64 a5)]),(.agg 3 a6)])=(decide (a6.length=8) && true):=by kernel_rfl
@[simp] theorem h251(a1:Int)(a2:Int)(a3:Int):zH EE 6 251 (.agg 9 [(.int .i64 a1),(.agg 1 [(.int .i64 a2),(.int .i64 a3)])])=true:=by kernel_rfl
@[simp] theorem h266(a1:List DV)(a2:Int):zH EE 6 266 (.agg 1 [(.sl 1 a1),(.int .i64 a2)])=true:=by kernel_rfl
@[simp] theorem h268(a1:DV):zH EE 6 268 (.dp a1)=true:=by kernel_rfl
@[simp] theorem h275(a1:FuncId)(a2:List DV)(a3:List DV):zH EE 6 275 (.fn a1 a2 a3)=true:=by kernel_rfl
@[simp] theorem h280(a1:FuncId)(a2:List DV)(a3:List DV):zH EE 6 280 (.fn a1 a2 a3)=true:=by kernel_rfl
@[simp] theorem h290(a1:List DV):zH EE 6 290 (.sl 1 a1)=true:=by kernel_rfl
@[simp] theorem h300(a1:List DV):zH EE 6 300 (.sl 2 a1)=true:=by kernel_rfl
@[simp] theorem h302(a1:Int)(a2:Int):zH EE 6 302 (.agg 1 [(.int .i64 a1),(.int .i64 a2)])=true:=by kernel_rfl
@[simp] theorem h305(a1:FuncId)(a2:List DV)(a3:List DV):zH EE 6 305 (.fn a1 a2 a3)=true:=by kernel_rfl
@[simp] theorem h309(a1:FuncId)(a2:List DV)(a3:List DV):zH EE 6 309 (.fn a1 a2 a3)=true:=by kernel_rfl
@[simp] theorem h312(a1:FuncId)(a2:List DV)(a3:List DV):zH EE 6 312 (.agg 12 [(.fn a1 a2 a3)])=true:=by kernel_rfl
@[simp] theorem h314(a1:List DV)(a2:List DV):zH EE 6 314 (.mp a1 a2)=true:=by kernel_rfl
@[simp] theorem h349(a1:FuncId)(a2:List DV)(a3:List DV):zH EE 6 349 (.fn a1 a2 a3)=true:=by kernel_rfl
end Go.Am
namespace Go.Am
open Go.Proofs
open Go
class OO where
 o:Orc
 ok:∀f,(orcF f).isNone=true->o f=none
noncomputable def zB[OO]:FuncId->List DV->Option CR:=Qf OO.o EE XX
noncomputable def goQ[OO]:FuncId->Nat->St->Option CR:=goLo OO.o EE XX
theorem zk[OO](f:FuncId)(j:Nat)(st:St):goQ f j st=run zB (goQ f) (zEo EE XX f (j7 EE f) (YC EE f) j st):=goLo_eq f j st
theorem zM[OO]{f:FuncId}(ho:(orcF f).isNone=true)(hF:(EE.F f).isSome=true)(hb:((j7 EE f).body).isSome=true)(a:List DV) :
  zB f a=run zB (goQ f) (funX EE XX f (j7 EE f) (YC EE f) a):=callLo_eq (OO.ok f ho) hF hb a
theorem callQ_orc[OO]{f:FuncId}{g:List DV->Option CR}(h:OO.o f=some g)(a:List DV):zB f a=g a:=callLo_orc h a
end Go.Am
namespace Go.Am
open Go.Proofs
open Go Go.RowKit
noncomputable abbrev PP:Program:=Tryz.prog
def Qk(P:Program)(E:Env)(f:FuncId)(ds:List DV)(r:CR):Prop :=
 Enters P f/\∀(S:Nat->Prop) (w:World) (vals:List Value),GlobOK E S w->(∀b,S b->b<w.heap.size)->vals.length=ds.length ->
  (∀i (h:i<ds.length) (h':i<vals.length),RV E.L S w ds[i] vals[i])->Calls P f vals.toArray w λe w'=>∃v,e=.returned v/\zAR E S w r v w'
open Classical in
noncomputable def orT(T:List DV->CR->Prop)(ds:List DV):Option CR:=if h:∃r,T ds r then some h.choose else none
theorem zBB{P:Program}{E:Env}{f:FuncId}{T:List DV->CR->Prop}(h:∀ds r,T ds r->Qk P E f ds r):jv P E λf' ds=>if f'=f then orT T ds else none:=by
 intro f' ds r h1;dsimp only at h1;split at h1
 ·rename_i e;subst e;unfold orT at h1;split at h1
  ·rename_i hx;injection h1 with h1
   exact h1 ▸ h ds _ hx.choose_spec
  ·cases h1
 ·cases h1
theorem orT_of{T:List DV->CR->Prop}{ds:List DV}{r:CR}(h:T ds r)(hu:∀r',T ds r'->r'=r):orT T ds=some r:=by unfold orT;rw[dif_pos ⟨r,h⟩];exact congrArg some (hu _ (Exists.choose_spec (⟨r,h⟩:∃r,T ds r)))
section
variable{L:Nat->List Nat}{S:Nat->Prop}{w:World}
theorem RD.int1{k:IntKind}{m:Int}{cs:List Value}(h:RD L S w (.int k m) cs):cs=[.int k m]:=by cases h;rfl
theorem RD.str1{s:ByteArray}{cs:List Value}(h:RD L S w (.str s) cs):cs=[.string s]:=by cases h;rfl
theorem flat1{α:Type}(g:α->Value):∀l:List α,(l.map λx=>[g x]).flatten=l.map g
 | []=>rfl
 | x :: l=>by rw[List.map_cons,List.flatten_cons,flat1 g l];rfl
theorem RD.sl1{α:Type}{e:α->DV}{g:α->Value}(he:∀x cs,RD L S w (e x) cs->cs=[g x]){l:List α}{cs:List Value}(h:RD L S w (.sl 1 (l.map e)) cs) :
  ∃a c,cs=[.slice a l.length c]/\l.length<=c/\(0<l.length->∃ad,a=some ad/\ad.spot=none/\S ad.block/\∀j x,l[j]? = some x->w.cell? (ad.add j)=some (g x)):=by
 cases h with
 | sl _ _ a n c css hn hc hl h hz hm =>
  have hn':l.length=n:=by simpa using hn
  subst hn';refine⟨a,c,rfl,hc,λh0=>?_⟩
  obtain⟨ad,e1,e2,e3,e4⟩:=hm h0;refine⟨ad,e1,e2,e3,λj x hx=>e4 j _ ?_⟩
  have hcss:css=l.map λx=>[g x]:=by
   apply List.ext_getElem (by simpa using hl)
   intro i h1 h2;have:=h i (by simpa using h2) h1
   rw[List.getElem_map] at this ⊢;exact he _ _ this
  rw[hcss];rw[flat1,List.getElem?_map,hx];rfl
theorem zCS{v:Value}{x:DV}{a:Option Addr}{n c:Nat}(h:RV L S w x v)(hx:x.isTup=false)(ha:x.isAgg=false)(e:vcs v=[.slice a n c]):v=.slice a n c:=by have:=(RV.rd hx h).2;rw[ha] at this;rw[z6 this] at e;simpa using e
end
theorem Q9{E:Env}{S:Nat->Prop}{w w':World}{x:DV}{v:Value}(hlt:∀b,S b->b<w.heap.size)(hB:Below w.heap.size w w')(h:RV E.L S w' x v):zAR E S w (.val x) v w' :=
 ⟨S,hB,λ_ h=>h,λ_ h=>.inl h,λb hb=>Nat.lt_of_lt_of_le (hlt b hb) hB.size,h⟩
theorem Y2{P:Program}{w:World}{ops:Array Oper}{rest:List Oper}{o:Oper}{a:Act}{Q:Exit->Act->World->Prop}(hgd:o.guard=none)(s x:Operand)(t:TypeId)
  (ho:o.op=.call { callee:=.builtin .append,args:=#[s,x],argTypes:=#[t,t] })
  (e:TypeId) (i:TypeInfo) (z:Value) (ht:P.underlying t=some (.slice e)) (hi:P.info? e=some i) (hz:i.zero=some z)
  (ad ax:Option Addr) (cx:Nat) (hs:a.eval s=.slice ad 0 0) (hx:a.eval x=.slice ax 0 cx)
  (h:wpList P ops Q rest (a.put o.dst (.slice ad 0 0)) w):wpList P ops Q (o :: rest) a w:=by
 refine wpList_plain hgd λK hK=>?_
 have hrun:=Ql (P:=P) (w:=w) t o.type e i ht hi (ad:=ad) (news:=[]) (ux:=.slice ax 0 cx) ⟨ax,cx,rfl,Nat.zero_le _,λh=>by omega⟩ (by simp)
 unfold Oper.wp;simp[execOp,ho,resolve,invoke,builtin,hs,hx,hrun,Result.andThen];exact hK _ _ h
section
open Go.Proofs Go.Shelf
variable{P:Program}{ρ:Ren}
set_option maxHeartbeats 2000000 in
set_option maxRecDepth 100000 in
theorem clone_zero(L:Lays2.n15 P ρ)(a:Addr)(c:Nat)(w:World) :
  Calls P (ρ.f 15) #[.slice (some a) 0 c] w λe w'=>∃ad,e=.returned (.slice (some ad) 0 0)/\Below w.heap.size w w':=by
 have mixed:=L.mixed;have t3:=L.t3;have a3:=L.a3;have z3:=L.z3;have v3:=L.v3;have t4:=L.t4;have a4:=L.a4;have z4:=L.z4;have v4:=L.v4;have t22:=L.t22;have a22:=L.a22;have z22:=L.z22;have v22:=L.v22;obtain⟨i0,hi,hz0,hz1,hz2⟩:=info_parts L.i3;have q22:∀(w:World) (a:Option Addr) (n c n' c':Nat),(binOp .eql (ρ.t 22) (.slice a n c) (.slice none n' c')).run P w=.ok (.bool a.isNone) w:=λw a n c n' c'=>Lib.run_eql_slice_nil w _ _ a n c n' c' L.t22
 have u22:∀w,Sem.run P (underlying (ρ.t 22)) w=.ok (TypeDesc.slice (ρ.t 3)) w:=run_underlying t22
 go_enter L.f15,Body2.n15_ntmps ρ
 go_wp2_with (at_builtin;refine Y2 rfl _ _ (ρ.t 22) rfl (ρ.t 3) i0 (.int .i64 0) t22 hi hz0 _ _ _ rfl rfl ?_)
 go_wp2;go_ret;exact⟨_,rfl,(Below.refl _ w).alloc (Nat.le_refl _) _⟩
end
end Go.Am
namespace Go.Am
open Go.Proofs
open Go Go.RowKit
open Classical
noncomputable def KT(t:St->Prop)(s:St):Option CR:=if t s then some (.val .nl) else none
noncomputable def gT(t:St->Prop):Nat->St->Option CR
 | 0,s=>KT t s
 | _+1,_=>none
theorem Le.trans{s t u:St}(h:Le [] s t)(k:Le [] t u):Le [] s u:=by
 refine⟨λi=>?_,λb=>?_⟩
 ·rcases h.tm i with ⟨h1,h2⟩ | h1
  ·refine .inl ⟨h1,?_⟩;rcases k.tm i with ⟨_,k2⟩ | k1
   ·exact k2
   ·rw[<-k1];exact h2
  ·rcases k.tm i with ⟨k1,k2⟩ | k1
   ·exact .inl ⟨h1.trans k1,k2⟩
   ·exact .inr (h1.trans k1)
 ·rcases h.hp b with ⟨h1,h2,h3⟩ | h1
  ·refine .inl ⟨h1,?_,h3⟩;rcases k.hp b with ⟨_,k2,_⟩ | k1
   ·exact k2
   ·rw[<-k1];exact h2
  ·rcases k.hp b with ⟨k1,k2,k3⟩ | k1
   ·exact .inl ⟨h1.trans k1,k2,k3⟩
   ·exact .inr (h1.trans k1)
theorem KT_of{t:St->Prop}{s:St}{r:CR}(h:KT t s=some r):t s:=by
 unfold KT at h;split at h
 ·assumption
 ·cases h
theorem zIl{t:St->Prop}{s:St}(h:t s):KT t s=some (.val .nl):=if_pos h
section
variable[OO]
theorem zH7{f:FuncId}{c:Code}{st t:St}{M:Nat}(hM:1<=M)(hn:zw c=0)(h:run zB (gT (Le [] t)) (pcX f c st)=some (.val .nl)) :
  exec EE M (jr EE zB) c st (KLe t)=some (.val .nl):=by
 let Kx:Ex->St->Tr:=λe st=>match e with | .normal=>.goto 0 st | _=>.fail
 let head:Nat->St->Tr:=λj st=>match j with | 0=>(if Le [] t st then .ret (.val .nl) else .fail) | j+1=>JX EE XX (XX.fx f) (j+1) c 0 0 Kx st
 refine zDI (E:=EE) (X:=XX) (F:=XX.fx f) (call:=zB) (head:=head) (M:=M) (r:=.val .nl) c 1 hM 0 0 (by omega) Kx (KLe t) (λj hj st=>?_) (λp hp e st h=>?_) (λe s s' h1 h2=>?_) 1 (Nat.le_refl 1) st ?_
 ·rcases hj with h | h
  ·omega
  ·obtain⟨k,rfl⟩:∃k,j=k+1:=⟨j - 1,by omega⟩
   rfl
 ·cases e with
  | normal =>
   have h1:goX zB head p 0 st=some (.val .nl):=h;cases p with
   | zero=>simp[goX] at h1
   | succ p =>
    have h2:run zB (goX zB head p) (if Le [] t st then .ret (.val .nl) else .fail)=some (.val .nl):=h1
    unfold KLe;split at h2
    ·rename_i hl;exact if_pos ⟨rfl,hl⟩
    ·simp[run] at h2
  | _=>simp[Kx,run] at h
 ·obtain⟨rfl,hl⟩:=zBW h2;exact if_pos ⟨rfl,hl.trans h1⟩
 ·refine YO (λ_ _ _ h=>h) (λj s r hj=>?_) _ h
  cases j with
  | succ j=>cases hj
  | zero =>
   have hj1:KT (Le [] t) s=some r:=hj;have hl:=KT_of hj1;rw[zIl hl] at hj1;injection hj1 with hj1
   subst hj1;show run zB (goX zB head 0) (if Le [] t s then .ret (.val .nl) else .fail)=_
   rw[if_pos hl];rfl
end
section
variable{P:Program}{E:Env}{call:FuncId->List DV->Option CR}{base:Nat}{S:Nat->Prop}{φ:Nat->Option Nat}{a:Act}{w:World}
theorem zDL{fn:Func}{ds:List DV}{vals:List Value}(hg:GlobOK E S w)(hlt:∀b,S b->b<w.heap.size)(hlen:vals.length=ds.length)(hle:ds.length<=fn.ntmps)
  (hrv:∀i (h:i<ds.length) (h':i<vals.length),RV E.L S w ds[i] vals[i]) :
  Rel E w.heap.size S (λ_=>none) (entry fn ds) { tmps:=vals.toArray++Array.replicate (fn.ntmps - vals.toArray.size) undef,defers:=[] } w:=by
 refine⟨hg,λt v hv=>zJt hlen hrv hle t v hv,λb ob hb=>?_,λb b' ob ob' cb h1=>?_,hlt,Nat.le_refl _,rfl⟩
 ·unfold slot at hb;simp only[entry,List.getElem?_replicate] at hb;split at hb
  ·rename_i hx;split at hx <;> simp at hx
  ·cases hb
 ·unfold slot at h1;simp only[entry,List.getElem?_replicate] at h1;split at h1
  ·rename_i hx;split at hx <;> simp at hx
  ·cases h1
theorem exec_piece(hD:DOK P E)(hm:P.follows .mixedOrders=true)(hc:jv P E call){n:Nat}{c:Code}{st t:St}{Q:Exit->Act->World->Prop}(h:exec E n call c st (KLe t)=some (.val .nl))(hR:Rel E base S φ st a w)
  (hk:∀S' φ' a' w',Rel E base S' φ' t a' w'->Grow base S S' w w'->Q .normal a' w'):c.wp P Q a w :=
 J6 hD hm hc c h hR λex st' S' φ' a' w' k1 k2 k3=>by obtain⟨rfl,hl⟩:=zBW k1;exact hk S' φ' a' w' (k2.le hl) k3
theorem exec_pre3(hD:DOK P E)(hm:P.follows .mixedOrders=true)(hc:jv P E call){n:Nat}{c1 c2 c3 rng tail:Code}{st t:St}{Q:Exit->Act->World->Prop}(h:exec E n call (.seq c1 (.seq c2 c3)) st (KLe t)=some (.val .nl))(hR:Rel E base S φ st a w)
  (hk:∀S' φ' a' w',Rel E base S' φ' t a' w'->Grow base S S' w w'->rng.wp P (Exit.then (tail.wp P Q) Q) a' w'):(Code.seq c1 (.seq c2 (.seq (.seq c3 rng) tail))).wp P Q a w:=by
 refine wp_seq (J6 hD hm hc c1 (K:=QF (λst'=>exec E n call (.seq c2 c3) st' (KLe t)) (KLe t)) h hR λex st1 S1 φ1 a1 w1 k1 k2 k3=>?_)
 cases ex with
 | exit id=>exact absurd (zBW k1).1 (by simp)
 | ret=>exact absurd (zBW k1).1 (by simp)
 | normal =>
  refine wp_seq (J6 hD hm hc c2 (K:=QF (λst'=>exec E n call c3 st' (KLe t)) (KLe t)) k1 k2 λex st2 S2 φ2 a2 w2 j1 j2 j3=>?_)
  cases ex with
  | exit id=>exact absurd (zBW j1).1 (by simp)
  | ret=>exact absurd (zBW j1).1 (by simp)
  | normal =>
   refine wp_seq (wp_seq (exec_piece hD hm hc j1 j2 λS' φ' a' w' i1 i2=>?_))
   exact hk S' φ' a' w' i1 ((k3.trans j3).trans i2)
theorem tail_wp{fn:Func}{i ty t1 t2 p:Nat}{s1 s2:String}{af1 af2:Array Edge}{w0:World}{S0:Nat->Prop}{tm:List AV}{hp:List (Option OB)}{Dd:Nat}{x:AV}{r:CR}{fresh:Bool}
  (hD:DOK P E) (hR:Rel E w0.heap.size S φ ⟨tm,hp⟩ a w) (hG:Grow w0.heap.size S0 S w0 w) (hdf:w.heap[Dd]? = some (.deferred (some []))) (hnS:¬S Dd) (hb:w0.heap.size<=Dd)
  {v:AV} (htm:tm[p]? = some v) (hl:JJ E ty hp v=some { v:=x }) (hfin:fin E fresh fn ⟨jh (jh tm (some t1) x) (some t2) x,hp⟩=some r) (h1:t1<tm.length) :
  (Code.seq (.region i #[{ dst:=some t1,op:=.load ty (.tmp p),type:=ty,pos:=s1,after:=af1,guard:=none },{ dst:=some t2,op:=.assign (.tmp t1),type:=ty,pos:=s2,after:=af2,guard:=none }] false) .ret).wp P
   (bodyPostM Fence.wide 0 P fn λe w'=>∃v,e=.returned v/\zAR E S0 w0 r v w') { a with defers:={ target:=.collected Dd,args:=#[] } :: a.defers } w:=by
 obtain⟨u,hu,hru⟩:=hR.tm p v htm;obtain⟨x',ur,he,hrun,hrx⟩:=qc hD hR hru hl;have he':x=x':=by simpa using congrArg Eff.v he
 subst he';have hev:a.eval (.tmp p)=u:=by simp only[Act.eval,Array.getD_eq_getD_getElem?,hu,Option.getD_some]
 let b:Act:={ a with defers:={ target:=.collected Dd,args:=#[] } :: a.defers }
 have hlen:∃u1,a.tmps[t1]? = some u1:=by obtain⟨v1,hv1⟩:∃v1,tm[t1]? = some v1:=⟨_,List.getElem?_eq_getElem h1⟩;obtain⟨u1,hu1,_⟩:=hR.tm t1 v1 hv1;exact⟨u1,hu1⟩
 obtain⟨u1,hu1⟩:=hlen;have hlt1:t1<a.tmps.size:=(Array.getElem?_eq_some_iff.1 hu1).1;have hput:(b.put (some t1) ur).eval (.tmp t1)=ur:=by simp only[Act.eval,Act.put,b,Array.getD_eq_getD_getElem?,Array.getElem?_setIfInBounds_self_of_lt hlt1,Option.getD_some]
 have hlast:bodyPostM Fence.wide 0 P fn (λe w'=>∃v,e=.returned v/\zAR E S0 w0 r v w') .ret ((b.put (some t1) ur).put (some t2) ur) w:=by
  have hR2:=(hR.put (some t1) hrx).put (some t2) hrx;have hodd:Odd (.deferred (some [])):=zH9 _;have hR3:=hR2.turn hdf hodd hnS (.deferred none);have hG3:Grow w0.heap.size S0 S w0 (w.putObj Dd (.deferred none)):=⟨QM hG.below hR.base hb _,hG.sub,hG.new,λk hk=>by
   rw[World.putObj_heap_other (by rintro rfl;exact hnS (hG.sub _ hk))]
   exact hG.kept k hk⟩
  obtain⟨hd,v,hv1,hv2⟩:=Jv hD hR3 hG3 hfin;show LeavesInM Fence.wide 0 P fn _ _ ({ target:=.collected Dd,args:=#[] } :: a.defers) .returning w;rw[hR.dfr];exact⟨by simp,.inl ⟨Dd,_,rfl,run_takeDeferred hdf,v,hv1,v,rfl,hv2⟩⟩
 refine wp_seq (wp_region ?_);simp only[List.size_toArray,List.length_cons,List.length_nil,Nat.zero_add,List.range_succ,List.range_zero,List.nil_append,List.cons_append,wpOps,List.getElem?_toArray,List.getElem?_cons_zero,List.getElem?_cons_succ,Region.wanted,if_true];refine .inl ?_;have e1:b.eval (.tmp p)=u:=hev;unfold Oper.wp;simp only[execOp];rw[show({ a with defers:={ target:=.collected Dd,args:=#[] } :: a.defers }:Act)=b from rfl,e1]
 simp only[Sem.run_bind,hrun,Result.andThen_ok,Sem.run_pure,Oper.upon];refine .inl ?_;rw[hput];exact wp_ret hlast
end
end Go.Am
namespace Go.Am
open Go.Proofs
open Go Go.RowKit
def zDZ(n b:Nat):Value:=.slice (some ⟨b,0,none⟩) n n
def zrow(n:Nat):Array Value:=madeCells #[.int .i64 0] n
structure RowsI(W wr:World)(wk wd:Array Value)(pa:Option Addr)(n c k:Nat):Prop where
 below:Below W.heap.size W wr
 h0:wr.heap[W.heap.size]? = some (.cells wk 59 (0,0))
 h1:wr.heap[W.heap.size+1]? = some (.cells #[.slice pa n c] 81 (0,0))
 h2:wr.heap[W.heap.size+1+1]? = some (.cells wd 251 (0,0))
 out:∃(v:Value) (rs:List Nat),wr.heap[W.heap.size+1+1+1]? = some (.cells #[v] 95 (0,0))/\wr.ownsRow (W.heap.size+1+1+1+1) 25 1 v k (rs.map (zDZ n))/\rs.length=k/\rs.Nodup /\
  ∀b∈rs,W.heap.size+1+1+1+1<=b/\wr.heap[b]? = some (.cells (zrow n) 3 (0,0))/\v.ownBlock≠some b
theorem zDv{P:Program}{ops:Array Oper}{o:Oper}{a:Act}{w:World}{K:Act->World->Prop}{Q:Exit->Act->World->Prop}{E:Prop}
  (hg:o.guard=none) (s x:Operand) (t:TypeId) (hop:o.op=Op.call { callee:=Callee.builtin Builtin.append,args:=#[s,x],argTypes:=#[t,t] })
  (base:Nat) (e:TypeId) (i:TypeInfo) (z:Value) (size bytes:Nat) (ht:P.underlying t=some (.slice e)) (hi:P.info? e=some i) (hz:i.zero=some z)
  (hsize:i.size=size) (hby:i.bytes=bytes) (hzs:z.cells.size=size) (hsz:0<size)
  (v:Value) (n:Nat) (xs:List Value) (hs:a.eval s=v) (hown:w.ownsRow base e size v n xs)
  (ad:Addr) (m c:Nat) (news:List Value) (hx:a.eval x=.slice (some ad) m c) (hl:news.length=m * size) (hnews:∀j u,news[j]? = some u->w.cell? (ad.add j)=some u) (h1:∀u∈news,u.oneCell'=true)
  (h63:n+m<=maxLen) (hbytes:(n+m) * bytes<=140737488355328) (hbase:base<=w.heap.size)
  (hK:∀v' w',w'.ownsRow base e size v' (n+m) (xs++news)->w.grownBy w' v.ownBlock->K (a.put o.dst v') w') :
  if Region.wanted o (yielded ops a.tmps)=true then Oper.wp P o a w K Q else E:=by
 rw[if_pos (by simp[Region.wanted,hg])]
 exact wp_append_own w s x t hop base e i z size bytes ht hi hz hsize hby hzs hsz v n xs hs hown ad m c news hx hl hnews h1 h63 hbytes hbase λv' w' h1 h2 _=>hK v' w' h1 h2
theorem rows_start(W:World)(wk wd:Array Value)(pa:Option Addr)(n c:Nat) :
  RowsI W ((((W.alloc (.cells wk 59)).alloc (.cells #[.slice pa n c] 81)).alloc (.cells wd 251)).alloc (.cells #[.slice none 0 0] 95)) wk wd pa n c 0:=by
 have h0:(W.alloc (.cells wk 59)).heap[W.heap.size]? = some (.cells wk 59 (0,0)):=World.alloc_heap_new _ _;have h1:((W.alloc (.cells wk 59)).alloc (.cells #[.slice pa n c] 81)).heap[W.heap.size+1]? = some (.cells #[.slice pa n c] 81 (0,0)):=by have:=World.alloc_heap_new (W.alloc (.cells wk 59)) (.cells #[.slice pa n c] 81);rwa [World.size_alloc] at this
 have h2:(((W.alloc (.cells wk 59)).alloc (.cells #[.slice pa n c] 81)).alloc (.cells wd 251)).heap[W.heap.size+1+1]? = some (.cells wd 251 (0,0)):=by have:=World.alloc_heap_new ((W.alloc (.cells wk 59)).alloc (.cells #[.slice pa n c] 81)) (.cells wd 251);rwa [World.size_alloc,World.size_alloc] at this
 have h3:((((W.alloc (.cells wk 59)).alloc (.cells #[.slice pa n c] 81)).alloc (.cells wd 251)).alloc (.cells #[.slice none 0 0] 95)).heap[W.heap.size+1+1+1]? = some (.cells #[.slice none 0 0] 95 (0,0)):=by have:=World.alloc_heap_new (((W.alloc (.cells wk 59)).alloc (.cells #[.slice pa n c] 81)).alloc (.cells wd 251)) (.cells #[.slice none 0 0] 95);rwa [World.size_alloc,World.size_alloc,World.size_alloc] at this
 refine⟨((((Below.refl _ W).alloc (Nat.le_refl _) _).alloc (by simp <;> omega) _).alloc (by simp <;> omega) _).alloc (by simp <;> omega) _,?_,?_,?_,.slice none 0 0,[],h3,World.ownsRow_nil _ _ _ _,rfl,List.nodup_nil,λb hb=>by simp at hb⟩
 ·rw[Below.heap_alloc _ _ _ (by simp <;> omega),Below.heap_alloc _ _ _ (by simp <;> omega),Below.heap_alloc _ _ _ (by simp <;> omega)];exact h0
 ·rw[Below.heap_alloc _ _ _ (by simp <;> omega),Below.heap_alloc _ _ _ (by simp <;> omega)];exact h1
 ·rw[Below.heap_alloc _ _ _ (by simp <;> omega)];exact h2
theorem own_up{w:World}{base e size n:Nat}{v:Value}{xs:List Value}(h:w.ownsRow base e size v n xs)(o1 o2:Obj):((w.alloc o1).alloc o2).drew.ownsRow base e size v n xs:=by refine⟨h.1,h.2.imp id ?_⟩;rintro⟨g,cap,cur,e1,e2,e3,e4⟩;refine⟨g,cap,cur,e1,e2,?_,e4⟩;have hlt:g<w.heap.size:=(Array.getElem?_eq_some_iff.1 e3).1;exact(Below.heap_alloc _ _ _ (by simp;omega)).trans ((Below.heap_alloc _ _ _ hlt).trans e3)
theorem news_up(w:World)(o1:Obj)(n b t:Nat):∀(j:Nat) (u:Value),[zDZ n b][j]? = some u->((w.alloc o1).alloc (.cells #[.slice (some ⟨b,0,none⟩) n n] t)).drew.cell? ((⟨w.heap.size+1,0,none⟩:Addr).add j)=some u:=by
 intro j u hj;cases j with
 | zero =>
  have:=World.alloc_heap_new (w.alloc o1) (.cells #[.slice (some ⟨b,0,none⟩) n n] t);rw[World.size_alloc] at this;rw[jk rfl];show World.cell? (World.drew _) _=_;unfold World.cell?;rw[show((w.alloc o1).alloc (.cells #[.slice (some ⟨b,0,none⟩) n n] t)).drew.heap=((w.alloc o1).alloc (.cells #[.slice (some ⟨b,0,none⟩) n n] t)).heap from rfl]
  simp only[this];exact hj
 | succ j=>simp at hj
theorem ones_row(n b:Nat):∀u∈[zDZ n b],u.oneCell'=true:=by intro u hu;rw[List.mem_singleton.1 hu];rfl
theorem base_up{w:World}{b:Nat}(h:b<=w.heap.size)(o1 o2:Obj):b<=((w.alloc o1).alloc o2).drew.heap.size:=by show b<=((w.alloc o1).alloc o2).heap.size;rw[World.size_alloc,World.size_alloc];omega
theorem zIB{wr w2:World}{o1 o2:Obj}{v:Value}(h2:(((wr.alloc o1).alloc o2).drew).grownBy w2 v.ownBlock){k:Nat}(hk:k<wr.heap.size)(hne:some k≠v.ownBlock):w2.heap[k]? = wr.heap[k]?:=by
 refine(h2.block k ?_ hne).trans ?_
 ·show k<((wr.alloc o1).alloc o2).heap.size;rw[World.size_alloc,World.size_alloc];omega
 ·exact(Below.heap_alloc _ _ _ (by simp;omega)).trans (Below.heap_alloc _ _ _ hk)
theorem zGN{w:World}{base e size n:Nat}{v:Value}{xs:List Value}(h:w.ownsRow base e size v n xs){k:Nat}(hk:k<base):some k≠v.ownBlock:=by
 rcases h.2 with ⟨rfl,_⟩ | ⟨g,cap,cur,rfl,e2,_⟩
 ·simp[Value.ownBlock]
 ·simp only[Value.ownBlock];intro e;injection e with e
  omega
theorem zCX{w:World}{base e size k:Nat}{v:Value}{xs:List Value}(h:w.ownsRow base e size v (k+1) xs):∃g cap,v=.slice (some ⟨g,0,none⟩) (k+1) cap:=by
 rcases h.2 with ⟨_,h⟩ | ⟨g,cap,cur,e1,_⟩
 ·omega
 ·exact⟨g,cap,e1⟩
theorem zFA{w:World}{b:Nat}{v:Value}{t:Nat}(h:w.heap[b]? = some (.cells #[v] t (0,0))):w.cell? ⟨b,0,none⟩=some v/\w.frozen? ⟨b,0,none⟩=false:=by
 constructor
 ·unfold World.cell?;simp only[h];rfl
 ·unfold World.frozen?;simp[h]
theorem rows_step{W wr w2:World}{wk wd:Array Value}{pa:Option Addr}{n c k:Nat}{v v':Value}{rs:List Nat}{O:Obj}(h:RowsI W wr wk wd pa n c k)
  (hv:wr.heap[W.heap.size+1+1+1]? = some (.cells #[v] 95 (0,0))) (hown:wr.ownsRow (W.heap.size+1+1+1+1) 25 1 v k (rs.map (zDZ n))) (hl:rs.length=k) (hnd:rs.Nodup)
  (hrs:∀b∈rs,W.heap.size+1+1+1+1<=b/\wr.heap[b]? = some (.cells (zrow n) 3 (0,0))/\v.ownBlock≠some b)
  (h1:w2.ownsRow (W.heap.size+1+1+1+1) 25 1 v' (k+1) (rs.map (zDZ n)++[zDZ n wr.heap.size])) (h2:(((wr.alloc (.cells (zrow n) 3)).alloc O).drew).grownBy w2 v.ownBlock) :
  RowsI W (w2.setCell ⟨W.heap.size+1+1+1,0,none⟩ v') wk wd pa n c (k+1):=by
 obtain⟨g,cap,rfl⟩:=zCX h1;have hbs:W.heap.size+1+1+1+1<=wr.heap.size:=(Array.getElem?_eq_some_iff.1 hv).1;have hkeep:∀j,j<W.heap.size+1+1+1+1->w2.heap[j]? = wr.heap[j]?:=λj hj=>zIB h2 (by omega) (zGN hown (by omega))
 have hset:∀j,j≠W.heap.size+1+1+1->(w2.setCell ⟨W.heap.size+1+1+1,0,none⟩ (.slice (some ⟨g,0,none⟩) (k+1) cap)).heap[j]? = w2.heap[j]?:=λj hj=>Below.heap_setCell _ _ _ _ hj
 have hvb:∀b,v.ownBlock=some b->b<wr.heap.size/\∃cur,wr.heap[b]? = some (.cells cur 25 (0,0)):=by
  intro b hb;rcases hown.2 with ⟨rfl,_⟩ | ⟨g,cap,cur,rfl,e2,e3,_⟩
  ·simp[Value.ownBlock] at hb
  ·simp only[Value.ownBlock,Option.some.injEq] at hb;subst hb;exact⟨(Array.getElem?_eq_some_iff.1 e3).1,cur,e3⟩
 have hnew:w2.heap[wr.heap.size]? = some (.cells (zrow n) 3 (0,0)):=by
  refine(h2.block wr.heap.size ?_ ?_).trans ?_
  ·show wr.heap.size<((wr.alloc _).alloc _).heap.size;rw[World.size_alloc,World.size_alloc];omega
  ·intro e;have:=(hvb _ e.symm).1;omega
  ·exact(Below.heap_alloc _ _ _ (by simp)).trans (World.alloc_heap_new _ _)
 have hrows:∀b∈rs++[wr.heap.size],W.heap.size+1+1+1+1<=b/\w2.heap[b]? = some (.cells (zrow n) 3 (0,0)):=by
  intro b hb;rcases List.mem_append.1 hb with hb | hb
  ·obtain⟨b1,b2,b3⟩:=hrs b hb;have hlt:b<wr.heap.size:=(Array.getElem?_eq_some_iff.1 b2).1;exact⟨b1,(zIB h2 hlt (λe=>b3 e.symm)).trans b2⟩
  ·rw[List.mem_singleton.1 hb];exact⟨hbs,hnew⟩
 have hcell:(w2.setCell ⟨W.heap.size+1+1+1,0,none⟩ (.slice (some ⟨g,0,none⟩) (k+1) cap)).heap[W.heap.size+1+1+1]? = some (.cells #[.slice (some ⟨g,0,none⟩) (k+1) cap] 95 (0,0)):=by
  have h0:=(hkeep _ (by omega)).trans hv
  unfold World.setCell;simp only[Array.getElem?_modify,if_true,h0];rfl
 have hg:W.heap.size+1+1+1+1<=g/\∃cur,w2.heap[g]? = some (.cells cur 25 (0,0)):=by
  rcases h1.2 with ⟨e,_⟩ | ⟨g',cap',cur,e1,e2,e3,_⟩
  ·simp at e
  ·simp only[Value.slice.injEq,Option.some.injEq,Addr.mk.injEq,and_true,true_and] at e1;obtain⟨rfl,rfl⟩:=e1;exact⟨e2,cur,e3⟩
 refine⟨?_,?_,?_,?_,.slice (some ⟨g,0,none⟩) (k+1) cap,rs++[wr.heap.size],hcell,?_,by simp[hl],?_,λb hb=>?_⟩
 ·refine Below.setCell (h.below.trans ⟨h2.os,h2.tape,h2.output,?_,λj hj=>hkeep j (by omega)⟩) (by show W.heap.size<=W.heap.size+1+1+1;omega) _
  have:=h2.size;have e:(((wr.alloc (.cells (zrow n) 3)).alloc O).drew).heap.size=wr.heap.size+1+1:=by show((wr.alloc _).alloc _).heap.size=_;rw[World.size_alloc,World.size_alloc]
  omega
 ·rw[hset _ (by omega),hkeep _ (by omega)];exact h.h0
 ·rw[hset _ (by omega),hkeep _ (by omega)];exact h.h1
 ·rw[hset _ (by omega),hkeep _ (by omega)];exact h.h2
 ·rw[List.map_append];refine⟨h1.1,h1.2.imp id ?_⟩;rintro⟨g',cap',cur,e1,e2,e3,e4⟩;exact⟨g',cap',cur,e1,e2,(hset _ (by omega)).trans e3,e4⟩
 ·rw[List.nodup_append];refine⟨hnd,by simp,λa ha b hb=>?_⟩
  rw[List.mem_singleton.1 hb];rintro rfl;have:=(Array.getElem?_eq_some_iff.1 (hrs _ ha).2.1).1;omega
 ·obtain⟨b1,b2⟩:=hrows b hb;refine⟨b1,(hset _ (by omega)).trans b2,?_⟩
  simp only[Value.ownBlock,ne_eq,Option.some.injEq];rintro rfl;obtain⟨_,cur,hc⟩:=hg;rw[b2] at hc;injection hc with hc
  injection hc with _ hc _;exact absurd hc (by decide)
structure Facts(W:World)(wk wd:Array Value)(pa:Option Addr)(n c:Nat)(a:Act)(w:World):Prop where
 dfr:a.defers=[]
 size:a.tmps.size=47
 t3:a.tmps[3]? = some (.pointer (some ⟨W.heap.size,0,none⟩))
 t4:a.tmps[4]? = some (.pointer (some ⟨W.heap.size+1,0,none⟩))
 t5:a.tmps[5]? = some (.pointer (some ⟨W.heap.size+1+1,0,none⟩))
 t7:a.tmps[7]? = some (.pointer (some ⟨W.heap.size+1+1+1,0,none⟩))
 rows:RowsI W w wk wd pa n c n
def Q1(W:World)(wk wd:Array Value)(pa:Option Addr)(n c:Nat):Exit->Act->World->Prop
 | .normal,a,w=>Facts W wk wd pa n c a w
 | _,_,_=>False
noncomputable def k200r:Code:=match Tryz.f200.body with
 | some (.seq _ (.seq _ (.seq _ r)))=>r
 | _=>.skip
set_option maxRecDepth 100000 in
set_option maxHeartbeats 4000000 in
theorem rows200(wk wd:Array Value)(pa:Option Addr)(n c:Nat)(hn:n<=64)(W:World)(R:Ending->World->Prop)
  (hrest:∀a w,Facts W wk wd pa n c a w->k200r.wp Tryz.prog (bodyPostM Fence.wide 0 Tryz.prog Tryz.f200 R) a w):Calls Tryz.prog 200 #[.agg wk,.slice pa n c,.agg wd] W R:=by
 have mixed:Tryz.prog.follows .mixedOrders=true:=by kernel_rfl
 have info3:(Tryz.prog.info? 3).map (λi=>(i.zero,i.size,i.bytes))=some (some (.int .i64 0),1,8):=by kernel_rfl
 have info25:(Tryz.prog.info? 25).map (λi=>(i.zero,i.size,i.bytes))=some (some (.slice none 0 0),1,24):=by kernel_rfl
 obtain⟨i25,hi25,hz25,hs25,hb25⟩:=info_parts info25;have hmk25:=run_make_row' (P:=Tryz.prog) 25 3 (.int .i64 0) 8 Tryz.underlying25 info3 rfl .i64 .i64 n (by omega) (by omega)
 refine(callsIn_wide (n:=0)).1 (callsIn_of_wp_marks Tryz.func200 rfl trivial (wpIn_wide.2 ?_));simp only[Tryz.ntmps200,List.size_toArray,List.length_cons,List.length_nil,Nat.reduceAdd,Nat.reduceSub,Array.replicate_succ,Array.replicate_zero,List.push_toArray,List.append_toArray,List.nil_append,List.cons_append];go_wp2;rename_i K ha;refine Code.wp_mono (Q:=Exit.inBlock 0 (Q1 W wk wd pa n c)) (λe a w h=>?_) ?_
 ·cases e with
  | normal=>exact ha a w (hrest a w h)
  | exit i =>
   simp only[Exit.inBlock] at h ⊢;split at h
   ·rename_i e0;rw[if_pos e0];exact ha a w (hrest a w h)
   ·exact h.elim
  | _=>exact False.elim h
 clear ha K hrest
 go_loopw [12] (λp wr=>∃k:Nat,p=.int .i64 k/\k<=n/\RowsI W wr wk wd pa n c k) (λp _=>n - QI p)
 case atStart=>exact⟨0,rfl,Nat.zero_le _,rows_start W wk wd pa n c⟩
 case round =>
  obtain⟨k,rfl,hk,hI⟩:=hrel;obtain⟨v,rs,hv,hown,hl,hnd,hrs⟩:=hI.out;have hc4:wr.cell? ⟨W.heap.size+1,0,none⟩=some (.slice pa n c):=by unfold World.cell?;simp only[hI.h1];rfl
  have hc7:wr.cell? ⟨W.heap.size+1+1+1,0,none⟩=some v:=by unfold World.cell?;simp only[hv];rfl
  have hf7:wr.frozen? ⟨W.heap.size+1+1+1,0,none⟩=false:=by unfold World.frozen?;simp[hv]
  by_cases hkn:k<n
  ·have h63:k+1<=maxLen:=by unfold maxLen;omega
   have h24:(k+1) * 24<=140737488355328:=by omega
   have hbs:W.heap.size+1+1+1+1<=wr.heap.size:=(Array.getElem?_eq_some_iff.1 hv).1;have hc7a:∀o,(wr.alloc o).cell? ⟨W.heap.size+1+1+1,0,none⟩=some v:=λo=>(World.cell?_of_block (a:=⟨W.heap.size+1+1+1,0,none⟩) (Below.heap_alloc _ _ _ (by show W.heap.size+1+1+1<_;omega))).trans hc7
   have hc7b:∀o o',((wr.alloc o).alloc o').cell? ⟨W.heap.size+1+1+1,0,none⟩=some v:=λo o'=>(World.cell?_of_block (a:=⟨W.heap.size+1+1+1,0,none⟩) (Below.heap_alloc _ _ _ (by show W.heap.size+1+1+1<_;rw[World.size_alloc];omega))).trans (hc7a o)
   go_wp2
   go_region_law (refine zDv rfl (.tmp 14) (.tmp 18) 95 rfl (W.heap.size+1+1+1+1) 25 i25 (.slice none 0 0) 1 24 Tryz.underlying95 hi25 hz25 hs25 hb25 rfl (by decide) v k (rs.map (zDZ n)) rfl (own_up hown _ _) _ 1 1 [zDZ n wr.heap.size] rfl rfl (news_up _ _ _ _ _) (ones_row _ _) h63 h24 (base_up hbs _ _) ?_;intro v' w2 hv' hw2;obtain⟨g,cap,rfl⟩:=zCX hv';obtain⟨hcA,hfA⟩:=zFA ((zIB hw2 (by omega) (zGN hown (by omega))).trans hv))
   all_goals
    have hstep:=rows_step hI hv hown hl hnd hrs hv' hw2;rename_i K ha;refine ha _ _ ?_;clear hI hv hown hl hnd hrs hv' hw2 hcA hfA hc4 hc7 hf7 hc7a hc7b hmk25;go_wp2
    go_roundw
    case rel=>exact⟨k+1,by simp,by omega,hstep⟩
    case measure=>simp[QI];omega
  ·go_wp2;obtain rfl:k=n:=by omega
   exact⟨rfl,rfl,rfl,rfl,rfl,rfl,hI⟩
end Go.Am
namespace Go.Am
open Go.Proofs
open Go Go.RowKit
attribute [local go_sem] Oper.semAt_some
theorem own_up1{w:World}{base e size n:Nat}{v:Value}{xs:List Value}(h:w.ownsRow base e size v n xs)(o1:Obj):(w.alloc o1).ownsRow base e size v n xs:=by refine⟨h.1,h.2.imp id ?_⟩;rintro⟨g,cap,cur,e1,e2,e3,e4⟩;exact⟨g,cap,cur,e1,e2,(Below.heap_alloc _ _ _ (Array.getElem?_eq_some_iff.1 e3).1).trans e3,e4⟩
theorem news_up1(w:World)(x:Value)(t:Nat):∀(j:Nat) (u:Value),[x][j]? = some u->(w.alloc (.cells #[x] t)).cell? ((⟨w.heap.size,0,none⟩:Addr).add j)=some u:=by
 intro j u hj;cases j with
 | zero =>
  rw[jk rfl];unfold World.cell?;simp only[World.alloc_heap_new];exact hj
 | succ j=>simp at hj
theorem zAr{wr w2:World}{o1:Obj}{v:Value}(h2:(wr.alloc o1).grownBy w2 v.ownBlock){k:Nat}(hk:k<wr.heap.size)(hne:some k≠v.ownBlock):w2.heap[k]? = wr.heap[k]?:=by refine(h2.block k ?_ hne).trans (Below.heap_alloc _ _ _ hk);rw[World.size_alloc];omega
theorem zJa{w:World}{base e size n:Nat}{v:Value}{xs:List Value}(h:w.ownsRow base e size v n xs){k:Nat}(hk:∀cs t,w.heap[k]?≠some (.cells cs t (0,0))):some k≠v.ownBlock:=by
 rcases h.2 with ⟨rfl,_⟩ | ⟨g,cap,cur,rfl,e2,e3,_⟩
 ·simp[Value.ownBlock]
 ·simp only[Value.ownBlock];intro e;injection e with e
  subst e;exact hk _ _ e3
structure AppI(W:World)(l:List Int)(k:Nat)(V:World):Prop where
 le:k<=l.length
 below:Below W.heap.size W V
 out:∃v,V.heap[W.heap.size]? = some (.cells #[v] 25 (0,0))/\V.ownsRow (W.heap.size+1) 3 1 v k ((l.take k).map (Value.int .i64))
theorem zC8{V V':World}{base e size k:Nat}{v:Value}{xs:List Value}(h:V.ownsRow base e size v k xs)(hk:∀g cs t,base<=g->V.heap[g]? = some (.cells cs t (0,0))->V'.heap[g]? = V.heap[g]?):V'.ownsRow base e size v k xs:=by refine⟨h.1,h.2.imp id ?_⟩;rintro⟨g,cap,cur,e1,e2,e3,e4⟩;exact⟨g,cap,cur,e1,e2,(hk g _ _ e2 e3).trans e3,e4⟩
theorem asg1_wp{P:Program}{F:Fence}{l n:Nat}{i1:Nat}{t1 p1:Tmp}{ty:TypeId}{s1:String}{K:Act->World->Prop}{a:Act}{w:World}(h:K (a.put (some t1) (a.eval (.tmp p1))) w) :
  (Code.region i1 #[{ dst:=some t1,op:=.assign (.tmp p1),type:=ty,pos:=s1,after:=#[],guard:=none }] false).wpIn (F.inRound l) n P (Exit.then K (λ_ _ _=>False)) a w:=by
 refine wpIn_region ?_;simp only[List.size_toArray,List.length_cons,List.length_nil,Nat.zero_add,List.range_succ,List.range_zero,List.nil_append,wpOpsIn,List.getElem?_toArray,List.getElem?_cons_zero,Region.wanted,if_true,Oper.wpIn];refine⟨λf hf=>by simp[Oper.about] at hf,?_⟩
 rw[show(F.inRound l).round=some l from rfl,Oper.semAt_eq _ _ _ (λc h=>by cases h)]
 simp only[go_sem];exact h
set_option maxRecDepth 100000 in
set_option maxHeartbeats 2000000 in
theorem append_seq(gf:Nat)(lb:Array Value)(l:List Int)(hl:l.length<=100000)(W:World)(C:World->Prop)(eg:∀args w,(callFunc gf args).run Tryz.prog w=.ok (.enter gf args) w)
  (hseq:SeqR Tryz.prog gf lb (l.map encI) C) (hC:∀V,Below W.heap.size W V->C V) :
  Calls Tryz.prog 327 #[.slice none 0 0,.func (.func gf) #[] lb] W λe w'=>∃v,e=.returned v/\w'.ownsRow (W.heap.size+1) 3 1 v l.length (l.map (Value.int .i64))/\Below W.heap.size W w':=by
 have info3:(Tryz.prog.info? 3).map (λi=>(i.zero,i.size,i.bytes))=some (some (.int .i64 0),1,8):=by kernel_rfl
 obtain⟨i3,hi3,hz3,hs3,hb3⟩:=info_parts info3;refine(callsIn_wide (n:=0)).1 (callsIn_of_wp_marks Tryz.func327 rfl trivial ?_);simp only[Tryz.ntmps327,List.size_toArray,List.length_cons,List.length_nil,Nat.reduceAdd,Nat.reduceSub,Array.replicate_succ,Array.replicate_zero,List.push_toArray,List.append_toArray,List.nil_append,List.cons_append]
 gi_wp2
 rename_i K ha;have hb0:(W.alloc (.cells #[.slice none 0 0] 25)).heap.size=W.heap.size+1:=World.size_alloc _ _;refine zAd (gf:=gf) (lb:=lb) (C:=C) (xs:=l.map encI) rfl eg hseq (λx hx=>by obtain⟨p,_,rfl⟩:=List.mem_map.1 hx;rfl) (AppI W l) ?_ ?_ ?_
  (λx=>({ tmps:=((#[7]:Array Tmp).zip x).foldl (λt (p,v)=>t.setIfInBounds p v) #[.slice none 0 0,.func (.func gf) #[] lb,.pointer (some ⟨W.heap.size,0,none⟩),undef,.slice none 0 0,undef,.func (.func gf) #[] lb,undef,undef,undef,undef,undef,undef],defers:=[] }:Act).put (some 5)
   (({ tmps:=((#[7]:Array Tmp).zip x).foldl (λt (p,v)=>t.setIfInBounds p v) #[.slice none 0 0,.func (.func gf) #[] lb,.pointer (some ⟨W.heap.size,0,none⟩),undef,.slice none 0 0,undef,.func (.func gf) #[] lb,undef,undef,undef,undef,undef,undef],defers:=[] }:Act).eval (.tmp 7))) ?_ ?_ ?_
 ·intro k V r o hI hlo;rw[hb0] at hlo ⊢;obtain⟨v,h1,h2⟩:=hI.out;refine⟨hI.le,QM hI.below hI.below.size (by omega) o,v,?_,zC8 h2 λg cs t hg hh=>World.putObj_heap_other ?_⟩
  ·exact(World.putObj_heap_other (by omega)).trans h1
  ·rintro rfl;rw[hlo] at hh;injection hh with hh
   cases hh
 ·intro k V hI;exact hC V hI.below
 ·intro r;refine⟨Nat.zero_le _,(((Below.refl _ W).alloc (Nat.le_refl _) _).alloc (by simp) _).alloc (by simp <;> omega) _,.slice none 0 0,?_,World.ownsRow_nil _ _ _ _⟩
  rw[Below.heap_alloc _ _ _ (by simp <;> omega),Below.heap_alloc _ _ _ (by simp)]
  exact World.alloc_heap_new _ _
 ·intro k x V K hx hK;exact asg1_wp hK
 ·intro k x V r hx hI hlo hDo;rw[hb0] at hlo hDo ⊢;rw[List.getElem?_map] at hx;have hkl:k<l.length:=by
   by_cases h:k<l.length
   ·exact h
   ·rw[List.getElem?_eq_none (by omega)] at hx;simp at hx
  rw[List.getElem?_eq_getElem hkl] at hx;simp only[Option.map_some,Option.some.injEq] at hx;subst hx;obtain⟨v,h1,h2⟩:=hI.out;obtain⟨hc1,hf1⟩:=zFA h1;have hbs:W.heap.size+1<=V.heap.size:=(Array.getElem?_eq_some_iff.1 h1).1;have hVl:W.heap.size+1+1<V.heap.size:=(Array.getElem?_eq_some_iff.1 hlo).1;have h63:k+1<=maxLen:=by unfold maxLen;omega
  have h8:(k+1) * 8<=140737488355328:=by omega
  simp only[encI,Act.put,Act.eval,List.zip_toArray,List.zip_cons_cons,List.zip_nil_left,List.size_toArray,List.length_cons,List.length_nil,List.foldl_toArray',List.foldl_cons,List.foldl_nil]
  gi_wp2_with (gi_at_builtin;refine wpListIn_append_own _ rfl (.tmp 8) (.tmp 10) 25 rfl (W.heap.size+1) 3 i3 (.int .i64 0) 1 8 Tryz.underlying25 hi3 hz3 hs3 hb3 rfl (by decide) v k _ rfl (own_up1 h2 _) _ 1 1 [.int .i64 l[k]] rfl rfl (news_up1 _ _ _) (by intro u hu;rw[List.mem_singleton.1 hu];rfl) h63 h8 (by rw[World.size_alloc];omega) ?_;intro v' w2 hv' hw2 _;obtain⟨g,cap,rfl⟩:=zCX hv';obtain⟨hcA,hfA⟩:=zFA ((zAr hw2 (by omega) (zGN h2 (by omega))).trans h1))
  have hset:∀j,j≠W.heap.size->(w2.setCell ⟨W.heap.size,0,none⟩ (.slice (some ⟨g,0,none⟩) (k+1) cap)).heap[j]? = w2.heap[j]?:=λj hj=>Below.heap_setCell _ _ _ _ hj
  have hN:=(zAr hw2 (show W.heap.size<V.heap.size by omega) (zGN h2 (by omega))).trans h1
  have hsz:V.heap.size<=w2.heap.size:=by have:=hw2.size;rw[World.size_alloc] at this;omega
  refine⟨⟨by omega,?_,.slice (some ⟨g,0,none⟩) (k+1) cap,?_,?_⟩,?_,?_⟩
  ·refine Below.setCell (hI.below.trans ⟨hw2.os,hw2.tape,hw2.output,hsz,λj hj=>zAr hw2 (by omega) (zGN h2 (by omega))⟩) (Nat.le_refl _) _
  ·unfold World.setCell;simp only[Array.getElem?_modify,if_true,hN];rfl
  ·rw[List.take_succ,List.getElem?_eq_getElem hkl,List.map_append];exact zC8 hv' λg cs t hg _=>hset _ (by omega)
  ·rw[hset _ (by omega),zAr hw2 hVl (zJa h2 (λcs t h=>by rw[hlo] at h;injection h with h;cases h))]
   simp
  ·rw[hset _ (by omega),zAr hw2 (by omega) (zJa h2 (λcs t h=>by rw[hDo] at h;injection h with h;cases h))]
   exact hDo
 ·intro V hI hDo;rw[List.length_map] at hI;rw[hb0] at hDo ⊢;refine ha _ _ ?_;clear ha;obtain⟨v,h1,h2⟩:=hI.out;have hc1:=(zFA h1).1
  gi_wp2
  show LeavesInM Fence.wide 0 Tryz.prog Tryz.f327 _ _ [{ target:=.collected (W.heap.size+1),args:=#[] }] .returning V;refine⟨by simp,.inl ⟨_,_,rfl,run_takeDeferred hDo,v,by rw[results_tmp (fn:=Tryz.f327) (t:=4) rfl];rfl,v,rfl,zC8 ?_ λg cs t hg hh=>World.putObj_heap_other ?_,QM hI.below hI.below.size (by omega) _⟩⟩
  ·rw[List.take_length] at h2;exact h2
  ·rintro rfl;rw[hDo] at hh;injection hh with hh
   cases hh
end Go.Am
namespace Go.Proofs
open Go.Shelf
def Tryz.lays189_ren:Go.Shelf.Ren:=⟨λ| 189=>286 | 125=>259 | 257=>328 | 128=>309 | 129=>310 | 294=>365 | 295=>366 | 296=>367 | 297=>368 | 298=>369 | 299=>370 | 216=>371 | 300=>372 | 301=>373 | 328=>393 | 329=>341 | 330=>342 | 331=>394 | 332=>395 | 215=>311 | 343=>403 | n=>n,λ| 28=>25 | 3=>3 | 46=>235 | 0=>0 | 51=>237 | 53=>421 | 4=>4 | 183=>414 | 182=>413 | 131=>99 | 5=>5 | 9=>9 | 218=>442 | 222=>446 | 228=>477 | 229=>138 | n=>n,λ| n=>n⟩
theorem Tryz.lays189:Go.Proofs.Lays.n189 Tryz.prog Tryz.lays189_ren:={
 mixed:=by kernel_rfl
 f125:=Tryz.func259.trans (congrArg some (by kernel_rfl))
 f128:=Tryz.func309.trans (congrArg some (by kernel_rfl))
 f129:=Tryz.func310.trans (congrArg some (by kernel_rfl))
 f189:=Tryz.func286.trans (congrArg some (by kernel_rfl))
 f215:=Tryz.func311.trans (congrArg some (by kernel_rfl))
 f216:=Tryz.func371.trans (congrArg some (by kernel_rfl))
 f257:=Tryz.func328.trans (congrArg some (by kernel_rfl))
 f294:=Tryz.func365.trans (congrArg some (by kernel_rfl))
 f295:=Tryz.func366.trans (congrArg some (by kernel_rfl))
 f296:=Tryz.func367.trans (congrArg some (by kernel_rfl))
 f297:=Tryz.func368.trans (congrArg some (by kernel_rfl))
 f298:=Tryz.func369.trans (congrArg some (by kernel_rfl))
 f299:=Tryz.func370.trans (congrArg some (by kernel_rfl))
 f300:=Tryz.func372.trans (congrArg some (by kernel_rfl))
 f301:=Tryz.func373.trans (congrArg some (by kernel_rfl))
 f328:=Tryz.func393.trans (congrArg some (by kernel_rfl))
 f329:=Tryz.func341.trans (congrArg some (by kernel_rfl))
 f330:=Tryz.func342.trans (congrArg some (by kernel_rfl))
 f331:=Tryz.func394.trans (congrArg some (by kernel_rfl))
 f332:=Tryz.func395.trans (congrArg some (by kernel_rfl))
 f343:=Tryz.func403.trans (congrArg some (by kernel_rfl))
 t0:=Tryz.underlying0
 a0:=Tryz.isAgg0
 z0:=Tryz.sizeOf0
 v0:=Tryz.zeroValue0
 t3:=Tryz.underlying3
 a3:=Tryz.isAgg3
 z3:=Tryz.sizeOf3
 v3:=Tryz.zeroValue3
 t4:=Tryz.underlying4
 a4:=Tryz.isAgg4
 z4:=Tryz.sizeOf4
 v4:=Tryz.zeroValue4
 t5:=Tryz.underlying5
 a5:=Tryz.isAgg5
 z5:=Tryz.sizeOf5
 v5:=Tryz.zeroValue5
 t9:=Tryz.underlying9
 a9:=Tryz.isAgg9
 z9:=Tryz.sizeOf9
 v9:=Tryz.zeroValue9
 t28:=Tryz.underlying25
 a28:=Tryz.isAgg25
 z28:=Tryz.sizeOf25
 v28:=Tryz.zeroValue25
 t46:=Tryz.underlying235
 a46:=Tryz.isAgg235
 z46:=Tryz.sizeOf235
 v46:=Tryz.zeroValue235
 t51:=Tryz.underlying237
 a51:=Tryz.isAgg237
 z51:=Tryz.sizeOf237
 v51:=Tryz.zeroValue237
 t53:=Tryz.underlying421
 a53:=Tryz.isAgg421
 z53:=Tryz.sizeOf421
 v53:=Tryz.zeroValue421
 t131:=Tryz.underlying99
 a131:=Tryz.isAgg99
 z131:=Tryz.sizeOf99
 v131:=Tryz.zeroValue99
 t182:=Tryz.underlying413
 a182:=Tryz.isAgg413
 z182:=Tryz.sizeOf413
 v182:=Tryz.zeroValue413
 t183:=Tryz.underlying414
 a183:=Tryz.isAgg414
 z183:=Tryz.sizeOf414
 v183:=Tryz.zeroValue414
 t218:=Tryz.underlying442
 a218:=Tryz.isAgg442
 z218:=Tryz.sizeOf442
 v218:=Tryz.zeroValue442
 t222:=Tryz.underlying446
 a222:=Tryz.isAgg446
 z222:=Tryz.sizeOf446
 v222:=Tryz.zeroValue446
 t228:=Tryz.underlying477
 a228:=Tryz.isAgg477
 z228:=Tryz.sizeOf477
 v228:=Tryz.zeroValue477
 t229:=Tryz.underlying138
 a229:=Tryz.isAgg138
 z229:=Tryz.sizeOf138
 v229:=Tryz.zeroValue138 }
open Go.Sort Go.RowKit in
theorem Tryz.slices_Sort_int(blk off cap:Nat)(zs:List Int)(w:World)(hH:Holds (Value.int .i64) w blk off zs.toArray)(hblk:blk<w.heap.size)(hsz:zs.length<4611686018427387904) :
  Calls Tryz.prog 286 #[.slice (some ⟨blk,off,none⟩) zs.length cap] w λe w' =>
   e=.returned (.tuple #[])/\∃n os,w'=grow (putRow (Value.int .i64) (Sort.ahead w n) blk off (zs.mergeSort λx y=>decide (x<=y)).toArray) os:=Any.slices_Sort_int Tryz.lays189 blk off cap zs w hH hblk hsz
open Go.RowKit Go.Sort in
theorem Tryz.slices_Sort_int_none(p:Option Addr)(cap:Nat)(w:World) :
  Calls Tryz.prog 286 #[.slice p 0 cap] w λe w'=>e=.returned (.tuple #[])/\w'=w:=Any.slices_Sort_int_none Tryz.lays189 p cap w
end Go.Proofs
namespace Go.Am
open Go.Proofs
open Go
def z1:List Int->Int
 | []=>0
 | x :: r=>x+z1 r
def Y3(a:Int):List Int->Int
 | []=>a
 | x :: r=>Y3 (if x>a then x else a) r
def zGK(n:Int):Nat->Int->Int
 | 0,r=>r
 | f+1,r=>if (r+1) * (r+1)<=n then zGK n f (r+1) else r
def J1(n:Int):Int:=zGK n n.toNat 0
def sqI(l:List Int):List Int:=l.map λn=>n * n
def YR(rule:ByteArray)(l:List Int):Int:=if rule=rG then Y3 0 l else if rule=rS then J1 (z1 (sqI l)) else z1 l
def YM(n:Int):Int:=if n<256 then n else 256
def defP(w:Wk)(sec:Int)(st a b:Pt):Int:=zGa w.d w.w (zB2 sec st a b).1 (zB2 sec st a b).2
def jZ(w:Wk)(ps:List Pt)(sec:Int)(st:Pt)(j:Nat):List Int :=
 (List.range ps.length).map λi=>if i=j then 0 else defP w sec st (ps.getD i default) (ps.getD j default)
def wakesP(w:Wk)(ps:List Pt)(sec:Int)(st:Pt):List (List Int):=(List.range ps.length).map (jZ w ps sec st)
def je(w:Wk)(ps:List Pt)(sec:Int)(st:Pt):List Int:=(wakesP w ps sec st).map λl=>YM (YR w.rule l)
def QH(l:List Int)(v:Int):List Int:=l.map λd=>v * (256 - d)
def lastP(c:Cu):Int:=c.p.getD (c.p.length - 1) 0
def zAV(c:Cu)(v:Int):Int :=
 if v / 256>=(c.p.length:Int) - 1 then 256 * lastP c
 else 256 * c.p.getD (v / 256).toNat 0+(c.p.getD ((v / 256).toNat+1) 0 - c.p.getD (v / 256).toNat 0) * (v % 256)
def Ym(w:Wk)(c:Cu)(ps:List Pt)(sec v above:Int):List Int:=(QH (je w ps sec (zo sec)) (v+above)).map (zAV c)
def zCf(w:Wk)(c:Cu)(ps:List Pt)(above sec v q:Int):Int:=if q>0/\v<c.cut then q * z1 (Ym w c ps sec v above) else 0
def zCl(w:Wk)(c:Cu)(ps:List Pt)(above sec:Int):Int->List Int->Int
 | _,[]=>0
 | v,q :: r=>zCf w c ps above sec v q+zCl w c ps above sec (v+1) r
def enE(w:Wk)(c:Cu)(ps:List Pt)(above:Int):Int->List (List Int)->Int
 | _,[]=>0
 | s,row :: r=>zCl w c ps above s 0 row+enE w c ps above (s+1) r
def Jl(w:Wk)(c:Cu)(r:List (List Int))(ps:List Pt)(above:Int):Int:=enE w c ps above 0 r
def JA(s:Si):List Pt:=s.tb.map (·.at')
def wkFree:Wk:=⟨rM,[0],[0]⟩
def Jq:Option Int->Int->Int
 | none,p=>zO [zZ p 0 100000,0,if p=0 then 0 else 6]
 | some q,p=>zO [zZ p 0 100000,if p<q then 11 else 0,0]
def Jz:Option Int->List Int->Int
 | _,[]=>0
 | prev,p :: r=>if Jq prev p=0 then Jz (some p) r else Jq prev p
def YJ(c:Cu):Int :=
 if (c.p.length:Int)<2 then 2 else if (c.p.length:Int)>51 then 2 else
  if Jz none c.p=0 then zZ c.cut 1 51 else Jz none c.p
def YU:List Int->Int
 | []=>0
 | q :: r=>if zZ q 0 40000=0 then YU r else 3
def Qv:List (List Int)->Int
 | []=>0
 | row :: r=>if YU row=0 then Qv r else 3
def J5(f:Fm):Int:=zO [jb f.s,wakeE f.w,YJ f.c,Qv f.r]
def zv(r:List (List Int)):Prop:=r.length=8/\∀row∈r,row.length=51
def okQ(r:List (List Int)):Prop:=∀row∈r,∀q∈row,0<=q/\q<=40000
def okCu(c:Cu):Prop:=2<=c.p.length/\c.p.length<=51/\(∀p∈c.p,0<=p/\p<=100000)/\1<=c.cut/\c.cut<=51
def zCm(w:Wk):Prop:=(∀d∈w.d,0<=d/\d<=256)/\w.w.length=w.d.length/\w.d.length<=32
theorem jF{n a b:Int}:zZ n a b=0 ↔ a<=n/\n<=b:=by unfold zZ;split <;> omega
theorem zF4(n a b:Int):zZ n a b=0\/zZ n a b=3:=by unfold zZ;split <;> simp
theorem zE9:∀{l},YU l=0->∀q∈l,0<=q/\q<=40000
 | [],_,q,h=>by simp at h
 | x :: r,h,q,hq=>by
  unfold YU at h;split at h
  ·rename_i h0;rcases List.mem_cons.1 hq with rfl | hq
   ·exact jF.1 h0
   ·exact zE9 h q hq
  ·simp at h
theorem zF3:∀{l},Qv l=0->okQ l
 | [],_,row,h=>by simp at h
 | x :: r,h,row,hq=>by
  unfold Qv at h;split at h
  ·rename_i h0;rcases List.mem_cons.1 hq with rfl | hq
   ·exact zE9 h0
   ·exact zF3 h row hq
  ·simp at h
theorem zAs{a b c:Int}(h:zO [a,b,c]=0):a=0/\b=0/\c=0:=by
 simp only[zO] at h;split at h
 ·split at h
  ·split at h
   ·exact⟨by assumption,by assumption,by assumption⟩
   ·rename_i k;exact absurd h k
  ·rename_i k;exact absurd h k
 ·rename_i k;exact absurd h k
theorem YQ{a b c d:Int}(h:zO [a,b,c,d]=0):a=0/\b=0/\c=0/\d=0:=by
 simp only[zO] at h;split at h
 ·split at h
  ·split at h
   ·split at h
    ·exact⟨by assumption,by assumption,by assumption,by assumption⟩
    ·rename_i k;exact absurd h k
   ·rename_i k;exact absurd h k
  ·rename_i k;exact absurd h k
 ·rename_i k;exact absurd h k
theorem curveS_ok{prev:Option Int}{p:Int}(h:Jq prev p=0):0<=p/\p<=100000:=by
 cases prev with
 | none=>exact jF.1 (zAs h).1
 | some q=>exact jF.1 (zAs h).1
theorem zE7:∀{l:List Int} {prev},Jz prev l=0->∀p∈l,0<=p/\p<=100000
 | [],_,_,q,h=>by simp at h
 | x :: r,prev,h,q,hq=>by
  unfold Jz at h;split at h
  ·rename_i h0;rcases List.mem_cons.1 hq with rfl | hq
   ·exact curveS_ok h0
   ·exact zE7 h q hq
  ·rename_i h0;exact absurd h h0
theorem Yj{c:Cu}(h:YJ c=0):okCu c/\Jz none c.p=0:=by
 unfold YJ at h;split at h
 ·simp at h
 ·split at h
  ·simp at h
  ·split at h
   ·rename_i h1;have:=jF.1 h;exact⟨⟨by omega,by omega,zE7 h1,this.1,this.2⟩,h1⟩
   ·rename_i h1;exact absurd h h1
theorem qC{b:Int}:∀l:List Int,(∀x∈l,0<=x/\x<=b)->0<=z1 l/\z1 l<=l.length * b
 | [],_=>by simp[z1]
 | x :: r,h=>by
  have h1:=h x (by simp)
  have h2:=qC r λy hy=>h y (by simp[hy])
  simp only[z1,List.length_cons,Int.natCast_add,Int.natCast_one,Int.add_mul,Int.one_mul];omega
theorem zCn:∀(l:List Int) (a:Int),a<=Y3 a l
 | [],a=>Int.le_refl a
 | x :: r,a=>by
  unfold Y3;have:=zCn r (if x>a then x else a)
  split at this <;> (split <;> omega)
def IsRoot(r n:Int):Prop:=0<=r/\r * r<=n/\n<(r+1) * (r+1)
theorem qu{a b:Int}(h0:0<=a)(h:a<=b):a * a<=b * b:=Int.mul_le_mul h h h0 (by omega)
theorem IsRoot.unique{r s n:Int}(h:IsRoot r n)(k:IsRoot s n):r=s:=by
 obtain⟨h1,h2,h3⟩:=h;obtain⟨k1,k2,k3⟩:=k;rcases Int.lt_trichotomy r s with c | c | c
 ·have:=qu (a:=r+1) (b:=s) (by omega) (by omega);omega
 ·exact c
 ·have:=qu (a:=s+1) (b:=r) (by omega) (by omega);omega
theorem zDa(n:Int):∀(f:Nat) (r:Int),0<=r->r * r<=n->n<=r+f->IsRoot (zGK n f r) n
 | 0,r,h0,h1,h2=>by
  refine⟨h0,h1,?_⟩;have:(r+1) * (r+1)=r * r+2 * r+1:=by rw[Int.add_mul,Int.mul_add,Int.mul_one,Int.one_mul];omega
  have hr:0<=r * r:=Int.mul_nonneg h0 h0;simp only[zGK];omega
 | f+1,r,h0,h1,h2=>by
  unfold zGK;split
  ·rename_i h;exact zDa n f (r+1) (by omega) h (by omega)
  ·rename_i h;exact⟨h0,h1,by omega⟩
theorem YY{n:Int}(h:0<=n):IsRoot (J1 n) n:=zDa n _ 0 (Int.le_refl 0) (by simpa using h) (by omega)
theorem zGt{l:List Int}{b:Int}(h:∀x∈l,0<=x/\x<=b):∀x∈sqI l,0<=x/\x<=b * b:=by intro x hx;obtain⟨y,hy,rfl⟩:=List.mem_map.1 hx;have:=h y hy;exact⟨Int.mul_nonneg this.1 this.1,qu this.1 this.2⟩
theorem zHx{rule:ByteArray}{l:List Int}(h:∀x∈l,0<=x/\x<=256):0<=YR rule l:=by
 unfold YR;split
 ·exact zCn l 0
 ·split
  ·exact(YY (qC _ (zGt h)).1).1
  ·exact(qC l h).1
theorem capI_bound{n:Int}(h:0<=n):0<=YM n/\YM n<=256:=by unfold YM;split <;> omega
theorem zJp{α:Type}{l:List α}{i:Nat}{d:α}(h:i<l.length):l.getD i d∈l:=by rw[List.getD_eq_getElem?_getD,List.getElem?_eq_getElem h];simp
theorem zBn{l:List Int}{b:Int}(hb:0<=b)(h:∀x∈l,0<=x/\x<=b)(i:Nat):0<=l.getD i 0/\l.getD i 0<=b:=by
 by_cases hi:i<l.length
 ·exact h _ (zJp hi)
 ·rw[List.getD_eq_getElem?_getD,List.getElem?_eq_none (by omega)];simp[hb]
theorem defI_bound{d w:List Int}(h:∀x∈d,0<=x/\x<=256)(s o:Int):0<=zGa d w s o/\zGa d w s o<=256:=by
 unfold zGa;split
 ·simp
 ·exact zBn (by decide) h _
theorem J9{w:Wk}(h:zCm w)(ps:List Pt)(sec:Int)(st:Pt)(j:Nat):∀x∈jZ w ps sec st j,0<=x/\x<=256:=by
 intro x hx;obtain⟨i,_,rfl⟩:=List.mem_map.1 hx;split
 ·simp
 ·exact defI_bound h.1 _ _
theorem wakesP_bound{w:Wk}(h:zCm w)(ps:List Pt)(sec:Int)(st:Pt):∀l∈wakesP w ps sec st,l.length=ps.length/\∀x∈l,0<=x/\x<=256:=by intro l hl;obtain⟨j,_,rfl⟩:=List.mem_map.1 hl;exact⟨by simp[jZ],J9 h ps sec st j⟩
theorem Jc{w:Wk}(h:zCm w)(ps:List Pt)(sec:Int)(st:Pt):∀d∈je w ps sec st,0<=d/\d<=256:=by intro d hd;obtain⟨l,hl,rfl⟩:=List.mem_map.1 hd;exact capI_bound (zHx (wakesP_bound h ps sec st l hl).2)
theorem jK(w:Wk)(ps:List Pt)(sec:Int)(st:Pt):(je w ps sec st).length=ps.length:=by simp[je,wakesP]
theorem zDV{l:List Int}(h:∀d∈l,0<=d/\d<=256){v b:Int}(hv:0<=v)(hb:v<=b):∀x∈QH l v,0<=x/\x<=b * 256:=by intro x hx;obtain⟨d,hd,rfl⟩:=List.mem_map.1 hx;have:=h d hd;exact⟨Int.mul_nonneg hv (by omega),Int.mul_le_mul hb (by omega) (by omega) (by omega)⟩
theorem zHA{p q f b:Int}(hp:0<=p/\p<=b)(hq:0<=q/\q<=b)(hf:0<=f/\f<=256):0<=256 * p+(q - p) * f/\256 * p+(q - p) * f<=256 * b:=by
 have e:256 * p+(q - p) * f=p * (256 - f)+q * f:=by rw[Int.sub_mul,Int.mul_sub,Int.mul_comm 256 p];omega
 have h1:=Int.mul_nonneg hp.1 (show 0<=256 - f by omega)
 have h2:=Int.mul_nonneg hq.1 hf.1;have h3:=Int.mul_le_mul_of_nonneg_right hp.2 (show 0<=256 - f by omega)
 have h4:=Int.mul_le_mul_of_nonneg_right hq.2 hf.1;have h5:b * (256 - f)+b * f=256 * b:=by rw[Int.mul_sub,Int.mul_comm b 256];omega
 omega
theorem valP_bound{c:Cu}(h:∀p∈c.p,0<=p/\p<=100000)(v:Int):0<=zAV c v/\zAV c v<=25600000:=by
 unfold zAV;have g:=λi=>zBn (b:=100000) (by decide) h i
 split
 ·have:=g (c.p.length - 1);unfold lastP;omega
 ·exact zHA (b:=100000) (g _) (g _) ⟨Int.emod_nonneg v (by decide),by have:=Int.emod_lt_of_pos v (show(0:Int)<256 by decide);omega⟩
theorem zEh{c:Cu}(h:∀p∈c.p,0<=p/\p<=100000)(w:Wk)(ps:List Pt)(sec v above:Int):∀x∈Ym w c ps sec v above,0<=x/\x<=25600000:=by intro x hx;obtain⟨y,_,rfl⟩:=List.mem_map.1 hx;exact valP_bound h y
theorem zCU(w:Wk)(c:Cu)(ps:List Pt)(sec v above:Int):(Ym w c ps sec v above).length=ps.length:=by simp[Ym,QH,jK]
theorem zJH{c:Cu}(h:∀p∈c.p,0<=p/\p<=100000)(w:Wk){ps:List Pt}(hl:ps.length<=64)(sec v above:Int):0<=z1 (Ym w c ps sec v above)/\z1 (Ym w c ps sec v above)<=1638400000:=by
 have:=qC _ (zEh h w ps sec v above);rw[zCU] at this;have h1:(ps.length:Int) * 25600000<=64 * 25600000:=Int.mul_le_mul_of_nonneg_right (by omega) (by decide)
 omega
theorem zDr{c:Cu}(h:∀p∈c.p,0<=p/\p<=100000)(w:Wk){ps:List Pt}(hl:ps.length<=64)(above sec v:Int){q:Int}(hq:0<=q/\q<=40000):0<=zCf w c ps above sec v q/\zCf w c ps above sec v q<=65536000000000:=by
 unfold zCf;split
 ·have h1:=zJH h w hl sec v above;exact⟨Int.mul_nonneg hq.1 h1.1,Int.mul_le_mul hq.2 h1.2 h1.1 (by decide)⟩
 ·simp
theorem zBd{c:Cu}(h:∀p∈c.p,0<=p/\p<=100000)(w:Wk){ps:List Pt}(hl:ps.length<=64)(above sec:Int):∀(l:List Int) (v:Int),(∀q∈l,0<=q/\q<=40000)->0<=zCl w c ps above sec v l/\zCl w c ps above sec v l<=l.length * 65536000000000
 | [],v,_=>by simp[zCl]
 | q :: r,v,hq=>by
  have h1:=zDr h w hl above sec v (hq q (by simp))
  have h2:=zBd h w hl above sec r (v+1) λx hx=>hq x (by simp[hx])
  simp only[zCl,List.length_cons,Int.natCast_add,Int.natCast_one,Int.add_mul,Int.one_mul];omega
theorem zHN{c:Cu}(h:∀p∈c.p,0<=p/\p<=100000)(w:Wk){ps:List Pt}(hl:ps.length<=64)(above:Int):∀(l:List (List Int)) (s:Int),(∀row∈l,row.length=51)->okQ l->0<=enE w c ps above s l/\enE w c ps above s l<=l.length * 3342336000000000
 | [],v,_,_=>by simp[enE]
 | q :: r,v,hq,hk=>by
  have h1:=zBd h w hl above v q 0 (hk q (by simp))
  have h2:=zHN h w hl above r (v+1) (λx hx=>hq x (by simp[hx])) (λx hx=>hk x (by simp[hx]))
  have h3:=hq q (by simp)
  rw[h3] at h1;simp only[enE,List.length_cons,Int.natCast_add,Int.natCast_one,Int.add_mul,Int.one_mul];omega
theorem qo{c:Cu}(h:okCu c)(w:Wk){ps:List Pt}(hl:ps.length<=64)(above:Int){r:List (List Int)}(hr:zv r)(hq:okQ r):0<=Jl w c r ps above/\Jl w c r ps above<=26738688000000000:=by have:=zHN h.2.2.1 w hl above r 0 hr.2 hq;rw[hr.1] at this;unfold Jl;omega
theorem zG4(w:Wk)(c:Cu)(ps:List Pt)(above sec:Int):∀(l:List Int) (v:Int),(∀q∈l,q=0)->zCl w c ps above sec v l=0
 | [],_,_=>rfl
 | q :: r,v,h=>by
  unfold zCl zCf;rw[h q (by simp),if_neg (by omega),zG4 w c ps above sec r (v+1) λx hx=>h x (by simp[hx])]
  rfl
end Go.Am
namespace Go.Am
open Go.Proofs
open Go
def incr(l:List Int):Prop:=∀i j,i<=j->j<l.length->l.getD i 0<=l.getD j 0
theorem JF(x:Int)(l:List Int)(i:Nat):(x :: l).getD (i+1) 0=l.getD i 0:=by simp[List.getD_eq_getElem?_getD]
theorem zB9:∀(l:List Int) (q:Int),Jz (some q) l=0->(∀i,i<l.length->q<=l.getD i 0)/\incr l
 | [],q,_=>⟨λi h=>by simp at h,λi j _ h=>by simp at h⟩
 | x :: r,q,h=>by
  unfold Jz at h;split at h
  ·rename_i h0;obtain⟨_,h1,_⟩:=zAs h0;have hq:q<=x:=by
    rcases Int.lt_or_le x q with hh | hh
    ·rw[if_pos hh] at h1;simp at h1
    ·exact hh
   obtain⟨k1,k2⟩:=zB9 r x h;refine⟨λi hi=>?_,λi j hij hj=>?_⟩
   ·cases i with
    | zero=>exact hq
    | succ i =>
     rw[JF];have:=k1 i (by simpa using hi)
     omega
   ·cases j with
    | zero =>
     obtain rfl:i=0:=by omega
     exact Int.le_refl _
    | succ j =>
     rw[JF];cases i with
     | zero=>exact k1 j (by simpa using hj)
     | succ i=>rw[JF];exact k2 i j (by omega) (by simpa using hj)
  ·rename_i h0;exact absurd h h0
theorem qp(l:List Int)(h:Jz none l=0):incr l/\l.getD 0 0=0:=by
 cases l with
 | nil=>exact⟨λi j _ h=>by simp at h,rfl⟩
 | cons x r =>
  unfold Jz at h;split at h
  ·rename_i h0;obtain⟨_,_,h2⟩:=zAs h0;have hx:x=0:=by
    by_cases hh:x=0
    ·exact hh
    ·rw[if_neg hh] at h2;simp at h2
   obtain⟨k1,k2⟩:=zB9 r x h;refine⟨λi j hij hj=>?_,hx⟩
   cases j with
   | zero =>
    obtain rfl:i=0:=by omega
    exact Int.le_refl _
   | succ j =>
    rw[JF];cases i with
    | zero=>exact k1 j (by simpa using hj)
    | succ i=>rw[JF];exact k2 i j (by omega) (by simpa using hj)
  ·rename_i h0;exact absurd h h0
theorem zF7{p q f g:Int}(h:p<=q)(hf:f<=g):256 * p+(q - p) * f<=256 * p+(q - p) * g:=by
 have:=Int.mul_le_mul_of_nonneg_left hf (show 0<=q - p by omega)
 omega
theorem zGp{c:Cu}(hi:incr c.p)(v:Int)(h0:0<=v)(k:Nat)(hk:v / 256=k)(hl:k+1<c.p.length):zAV c v=256 * c.p.getD k 0+(c.p.getD (k+1) 0 - c.p.getD k 0) * (v % 256)/\256 * c.p.getD k 0<=zAV c v/\zAV c v<=256 * c.p.getD (k+1) 0:=by
 have e:zAV c v=256 * c.p.getD k 0+(c.p.getD (k+1) 0 - c.p.getD k 0) * (v % 256):=by
  unfold zAV;rw[hk,if_neg (by omega)]
  simp
 have hf0:=Int.emod_nonneg v (show(256:Int)≠0 by decide)
 have hf1:=Int.emod_lt_of_pos v (show(0:Int)<256 by decide)
 have hp:=hi k (k+1) (by omega) hl
 have m0:=zF7 hp hf0;have m1:=zF7 hp (show v % 256<=256 by omega)
 rw[Int.mul_zero,Int.add_zero] at m0;have e2:256 * c.p.getD k 0+(c.p.getD (k+1) 0 - c.p.getD k 0) * 256=256 * c.p.getD (k+1) 0:=by rw[Int.sub_mul];omega
 rw[e2] at m1;rw[e];exact⟨rfl,m0,m1⟩
theorem zC1{c:Cu}(hl:2<=c.p.length)(hi:incr c.p){v v':Int}(h0:0<=v)(h:v<=v'):zAV c v<=zAV c v':=by
 obtain⟨k,hk⟩:∃k:Nat,v / 256=k:=⟨(v / 256).toNat,by omega⟩
 obtain⟨k',hk'⟩:∃k:Nat,v' / 256=k:=⟨(v' / 256).toNat,by omega⟩
 have hkk:k<=k':=by omega
 have last:∀(u:Int) (j:Nat),u / 256=j->c.p.length<=j+1->zAV c u=256 * c.p.getD (c.p.length - 1) 0:=by intro u j hj hlj;unfold zAV lastP;rw[hj,if_pos (by omega)]
 by_cases c1:k+1<c.p.length
 ·obtain⟨e1,a1,b1⟩:=zGp hi v h0 k hk c1;by_cases c2:k'+1<c.p.length
  ·obtain⟨e2,a2,b2⟩:=zGp hi v' (by omega) k' hk' c2
   by_cases he:k=k'
   ·subst he;rw[e1,e2];exact zF7 (hi k (k+1) (by omega) c1) (by omega)
   ·have:=hi (k+1) k' (by omega) (by omega)
    omega
  ·rw[last v' k' hk' (by omega)]
   have:=hi (k+1) (c.p.length - 1) (by omega) (by omega)
   omega
 ·rw[last v k hk (by omega),last v' k' hk' (by omega)]
  exact Int.le_refl _
theorem zAe{α:Type}{f g:α->Int}:∀l:List α,(∀x∈l,f x<=g x)->z1 (l.map f)<=z1 (l.map g)
 | [],_=>Int.le_refl _
 | x :: r,h=>by
  have h1:=h x (by simp)
  have h2:=zAe r λy hy=>h y (by simp[hy])
  simp only[List.map_cons,z1];omega
theorem rowE_le{w w':Wk}{c:Cu}{ps ps':List Pt}{above above' sec:Int}(h:∀v,0<=v->v<=50->z1 (Ym w c ps sec v above)<=z1 (Ym w' c ps' sec v above')) :
  ∀(l:List Int) (v:Int),0<=v->v+l.length<=51->(∀q∈l,0<=q)->zCl w c ps above sec v l<=zCl w' c ps' above' sec v l
 | [],_,_,_,_=>Int.le_refl _
 | q :: r,v,h0,h1,hq=>by
  simp only[List.length_cons,Int.natCast_add,Int.natCast_one] at h1;have k1:=rowE_le h r (v+1) (by omega) (by omega) λx hx=>hq x (by simp[hx])
  have k2:=h v h0 (by omega)
  have k3:=hq q (by simp)
  simp only[zCl,zCf];have:(if q>0/\v<c.cut then q * z1 (Ym w c ps sec v above) else 0)<=if q>0/\v<c.cut then q * z1 (Ym w' c ps' sec v above') else 0:=by
   split
   ·exact Int.mul_le_mul_of_nonneg_left k2 k3
   ·exact Int.le_refl _
  omega
theorem enE_le{w w':Wk}{c:Cu}{ps ps':List Pt}{above above':Int}(h:∀sec v,0<=sec->sec<=7->0<=v->v<=50->z1 (Ym w c ps sec v above)<=z1 (Ym w' c ps' sec v above')) :
  ∀(l:List (List Int)) (s:Int),0<=s->s+l.length<=8->(∀row∈l,row.length=51)->okQ l->enE w c ps above s l<=enE w' c ps' above' s l
 | [],_,_,_,_,_=>Int.le_refl _
 | q :: r,s,h0,h1,hr,hq=>by
  simp only[List.length_cons,Int.natCast_add,Int.natCast_one] at h1;have k1:=enE_le h r (s+1) (by omega) (by omega) (λx hx=>hr x (by simp[hx])) λx hx=>hq x (by simp[hx])
  have hl:=hr q (by simp)
  have k2:=rowE_le (sec:=s) (λv a b=>h s v h0 (by omega) a b) q 0 (Int.le_refl 0) (by omega) λx hx=>(hq q (by simp) x hx).1
  simp only[enE];omega
theorem zE1{w w':Wk}{c:Cu}{ps ps':List Pt}{above above':Int}{r:List (List Int)}(hr:zv r)(hq:okQ r)(h:∀sec v,0<=sec->sec<=7->0<=v->v<=50->z1 (Ym w c ps sec v above)<=z1 (Ym w' c ps' sec v above')) :
  Jl w c r ps above<=Jl w' c r ps' above' :=
 enE_le h r 0 (Int.le_refl 0) (by have:=hr.1;omega) hr.2 hq
theorem defI_free(s o:Int):zGa [0] [0] s o=0:=by
 unfold zGa;split
 ·rfl
 ·have:∀i:Nat,([0]:List Int).getD i 0=0:=by
   intro i;cases i with
   | zero=>rfl
   | succ i=>simp[List.getD_eq_getElem?_getD]
  exact this _
theorem zGs:∀l:List Int,(∀x∈l,x=0)->z1 l=0
 | [],_=>rfl
 | x :: r,h=>by rw[z1,h x (by simp),zGs r λy hy=>h y (by simp[hy])];rfl
theorem combP_free(ps:List Pt)(sec:Int)(st:Pt):∀d∈je wkFree ps sec st,d=0:=by
 intro d hd;obtain⟨l,hl,rfl⟩:=List.mem_map.1 hd;obtain⟨j,_,rfl⟩:=List.mem_map.1 hl;have hz:∀x∈jZ wkFree ps sec st j,x=0:=by
  intro x hx;obtain⟨i,_,rfl⟩:=List.mem_map.1 hx;split
  ·rfl
  ·exact defI_free _ _
 have:YR wkFree.rule (jZ wkFree ps sec st j)=0:=by
  unfold YR wkFree;rw[if_neg (by decide),if_neg (by decide)]
  exact zGs _ hz
 rw[this];rfl
theorem zI8(ps:List Pt)(sec:Int)(st:Pt):je wkFree ps sec st=List.replicate ps.length 0:=by
 refine List.ext_getElem (by simp[jK]) λi h1 h2=>?_
 rw[List.getElem_replicate];exact combP_free ps sec st _ (List.getElem_mem h1)
theorem zHs{w:Wk}{c:Cu}(hw:zCm w)(hl:2<=c.p.length)(hi:incr c.p)(ps:List Pt)(sec v:Int)(hv:0<=v):z1 (Ym w c ps sec v 0)<=z1 (Ym wkFree c ps sec v 0):=by
 have e:Ym wkFree c ps sec v 0=(je w ps sec (zo sec)).map λ_=>zAV c (v * 256):=by
  unfold Ym QH;rw[zI8,List.map_replicate,List.map_replicate,Int.add_zero];have:=jK w ps sec (zo sec);refine List.ext_getElem (by simp[this]) λi h1 h2=>?_
  simp
 have e':Ym w c ps sec v 0=(je w ps sec (zo sec)).map λd=>zAV c (v * (256 - d)):=by unfold Ym QH;rw[List.map_map,Int.add_zero];rfl
 rw[e,e'];refine zAe _ λd hd=>zC1 hl hi ?_ ?_
 ·exact Int.mul_nonneg hv (by have:=Jc hw ps sec (zo sec) d hd;omega)
 ·exact Int.mul_le_mul_of_nonneg_left (by have:=Jc hw ps sec (zo sec) d hd;omega) hv
theorem zHr{w:Wk}{c:Cu}(hw:zCm w)(hl:2<=c.p.length)(hi:incr c.p)(ps:List Pt)(sec v:Int)(hv:0<=v):z1 (Ym w c ps sec v 0)<=z1 (Ym w c ps sec v 1):=by
 unfold Ym QH;rw[List.map_map,List.map_map];refine zAe _ λd hd=>?_
 have hb:=Jc hw ps sec (zo sec) d hd;refine zC1 hl hi ?_ ?_
 ·exact Int.mul_nonneg (by omega) (by omega)
 ·exact Int.mul_le_mul_of_nonneg_right (by omega) (by omega)
theorem zEP{w:Wk}{c:Cu}{r:List (List Int)}(hw:zCm w)(hc:okCu c)(hi:incr c.p)(hr:zv r)(hq:okQ r)(ps:List Pt):Jl w c r ps 0<=Jl wkFree c r ps 0 :=
 zE1 hr hq λsec v _ _ hv _=>zHs hw hc.1 hi ps sec v hv
theorem zEO{w:Wk}{c:Cu}{r:List (List Int)}(hw:zCm w)(hc:okCu c)(hi:incr c.p)(hr:zv r)(hq:okQ r)(ps:List Pt):Jl w c r ps 0<=Jl w c r ps 1 :=
 zE1 hr hq λsec v _ _ hv _=>zHr hw hc.1 hi ps sec v hv
end Go.Am
namespace Go.Am
open Go.Proofs
open Go
theorem defI_pos{d w:List Int}{s o:Int}(h:0<zGa d w s o):1<=s:=by
 unfold zGa at h;split at h
 ·simp at h
 ·rename_i hh;omega
theorem zC3{w:Wk}{sec:Int}{st a b:Pt}(h:0<defP w sec st a b):qr a st<qr b st:=by
 have h1:=defI_pos h;simp only[zB2,relI] at h1;unfold qr;have e:(b.x - a.x) * st.x+(b.y - a.y) * st.y=(b.x * st.x+b.y * st.y) - (a.x * st.x+a.y * st.y):=by rw[Int.sub_mul,Int.sub_mul];omega
 rw[e] at h1;split at h1
 ·rw[Int.fdiv_eq_ediv_of_nonneg _ (by decide)] at h1
  omega
 ·omega
theorem defP_other{w:Wk}{sec:Int}{st a b:Pt}(h:0<defP w sec st a b):defP w sec st b a=0\/defP w sec st b a<0:=by
 rcases Int.lt_trichotomy (defP w sec st b a) 0 with k | k | k
 ·exact .inr k
 ·exact .inl k
 ·have:=zC3 h;have:=zC3 k;omega
theorem zAx(key:Nat->Int)(out:List Nat)(i:Nat):∀a,a<=out.length ->
  zDc key out i a<=a/\(∀m,zDc key out i a<=m->m<a->key i<key (out.getD m 0))/\(0<zDc key out i a->key (out.getD (zDc key out i a - 1) 0)<=key i)
 | 0,_=>⟨Nat.le_refl _,λm _ h=>by omega,λh=>by simp[zDc] at h⟩
 | a+1,h=>by
  unfold zDc;split
  ·rename_i hk;obtain⟨h1,h2,h3⟩:=zAx key out i a (by omega)
   refine⟨by omega,λm hm hm'=>?_,h3⟩
   by_cases e:m=a
   ·subst e;exact hk
   ·exact h2 m hm (by omega)
  ·rename_i hk;exact⟨Nat.le_refl _,λm _ h=>by omega,λ_=>by simp at hk ⊢;exact hk⟩
def zFy(key:Nat->Int)(l:List Nat):Prop:=∀i j,i<j->j<l.length->key (l.getD i 0)<=key (l.getD j 0)
theorem zCa{l:List Nat}{i:Nat}(h:i<l.length):l.getD i 0=l[i]:=by rw[List.getD_eq_getElem?_getD,List.getElem?_eq_getElem h];rfl
theorem zJm(key:Nat->Int)(out:List Nat)(i k:Nat):(insR key out i).getD k 0 =
  if k<zDc key out i out.length then out.getD k 0 else if k=zDc key out i out.length then i else out.getD (k - 1) 0:=by
 have hp:=(zAx key out i out.length (Nat.le_refl _)).1;unfold insR;generalize zDc key out i out.length=p at hp ⊢;simp only[List.getD_eq_getElem?_getD];by_cases h1:k<p
 ·rw[if_pos h1,List.append_assoc,List.getElem?_append_left (by simp;omega),List.getElem?_take_of_lt h1]
 ·rw[if_neg h1];by_cases h2:k=p
  ·subst h2;rw[if_pos rfl,List.append_assoc,List.getElem?_append_right (by simp;omega)]
   simp[Nat.min_eq_left hp]
  ·rw[if_neg h2,List.getElem?_append_right (by simp;omega),List.getElem?_drop]
   congr 2;simp[Nat.min_eq_left hp];omega
theorem zI2{key:Nat->Int}{out:List Nat}(i:Nat)(h:zFy key out):zFy key (insR key out i):=by
 obtain⟨hp,h2,h3⟩:=zAx key out i out.length (Nat.le_refl _);intro a b hab hb;have hlen:(insR key out i).length=out.length+1:=by unfold insR;simp;omega
 rw[zJm,zJm];generalize zDc key out i out.length=p at hp h2 h3 ⊢;have hlow:∀a,a<p->key (out.getD a 0)<=key i:=by
  intro a ha;have h0:=h3 (by omega)
  by_cases e:a=p - 1
  ·rw[e];exact h0
  ·exact Int.le_trans (h a (p - 1) (by omega) (by omega)) h0
 by_cases c1:a<p
 ·rw[if_pos c1];by_cases c2:b<p
  ·rw[if_pos c2];exact h a b hab (by omega)
  ·rw[if_neg c2];by_cases c3:b=p
   ·rw[if_pos c3];exact hlow a c1
   ·rw[if_neg c3];exact h a (b - 1) (by omega) (by omega)
 ·rw[if_neg c1,if_neg (by omega:¬b<p),if_neg (by omega:¬b=p)]
  by_cases c2:a=p
  ·rw[if_pos c2];exact Int.le_of_lt (h2 (b - 1) (by omega) (by omega))
  ·rw[if_neg c2];exact h (a - 1) (b - 1) (by omega) (by omega)
theorem qh(key:Nat->Int):∀n,zFy key (zr key n)
 | 0=>λi j _ h=>by simp[zr] at h
 | n+1=>zI2 n (qh key n)
theorem insR_perm(key:Nat->Int)(out:List Nat)(i:Nat):(insR key out i).Perm (i :: out):=by unfold insR;rw[List.append_assoc];refine(List.perm_middle (a:=i) (l₁:=out.take (zDc key out i out.length)) (l₂:=out.drop (zDc key out i out.length))).trans ?_;rw[List.take_append_drop]
theorem Yn(key:Nat->Int):∀n,(zr key n).Perm (List.range n)
 | 0=>.refl _
 | n+1=>by rw[zr,List.range_succ];exact(insR_perm key _ n).trans (((Yn key n).cons n).trans (List.perm_append_singleton n (List.range n)).symm)
theorem zB3(key:Nat->Int)(n:Nat):(zr key n).Nodup:=(Yn key n).nodup_iff.2 List.nodup_range
theorem YA(key:Nat->Int)(n i:Nat):i∈zr key n ↔ i<n:=by rw[(Yn key n).mem_iff,List.mem_range]
theorem jS(key:Nat->Int)(n:Nat):(zr key n).length=n:=by rw[(Yn key n).length_eq,List.length_range]
theorem zHt{key:Nat->Int}{n a b:Nat}(ha:a<n)(hb:b<n)(h:key ((zr key n).getD a 0)<key ((zr key n).getD b 0)):a<b:=by
 have hl:=jS key n;rcases Nat.lt_trichotomy a b with c | c | c
 ·exact c
 ·subst c;omega
 ·have:=qh key n b a c (by omega);omega
theorem maxL_or:∀(l:List Int) (a:Int),Y3 a l=a\/Y3 a l∈l
 | [],a=>.inl rfl
 | x :: r,a=>by
  unfold Y3;rcases maxL_or r (if x>a then x else a) with h | h
  ·rw[h];split
   ·exact .inr (by simp)
   ·exact .inl rfl
  ·exact .inr (List.mem_cons_of_mem _ h)
theorem zEn:∀{l:List Int},(∀x∈l,0<=x)->∀x∈l,x<=z1 l
 | [],_,x,h=>by simp at h
 | y :: r,h,x,hx=>by
  have hr:=zEn (l:=r) λz hz=>h z (by simp[hz])
  have hs:0<=z1 r:=by
   cases r with
   | nil=>exact Int.le_refl 0
   | cons z r=>exact Int.le_trans (h z (by simp)) (hr z (by simp))
  have hy:=h y (by simp)
  rw[z1];rcases List.mem_cons.1 hx with rfl | hx
  ·omega
  ·have:=hr x hx;omega
theorem Jf:∀{l:List Int},(∀x∈l,0<=x)->0<=z1 l
 | [],_=>Int.le_refl 0
 | y :: r,h=>by
  have:=Jf (l:=r) λz hz=>h z (by simp[hz])
  have:=h y (by simp)
  rw[z1];omega
theorem qE{l:List Int}:∀x∈sqI l,0<=x:=by
 intro x hx;obtain⟨y,_,rfl⟩:=List.mem_map.1 hx;rcases Int.le_total 0 y with h | h
 ·exact Int.mul_nonneg h h
 ·have:=Int.mul_nonneg (a:=-y) (b:=-y) (by omega) (by omega)
  rwa [Int.neg_mul_neg] at this
theorem zJG:∀{l:List Int},(∀x∈l,0<=x)->z1 (sqI l)<=z1 l * z1 l
 | [],_=>Int.le_refl 0
 | y :: r,h=>by
  have h1:=zJG (l:=r) λz hz=>h z (by simp[hz])
  have h2:=Jf (l:=r) λz hz=>h z (by simp[hz])
  have h3:=Int.mul_nonneg (h y (by simp)) h2
  have e:(y+z1 r) * (y+z1 r)=y * y+2 * (y * z1 r)+z1 r * z1 r:=by rw[Int.add_mul,Int.mul_add,Int.mul_add,Int.mul_comm (z1 r) y];omega
  simp only[sqI,List.map_cons,z1] at h1 ⊢;rw[e];omega
theorem zIz{l:List Int}(h:∀x∈l,0<=x):Y3 0 l<=J1 (z1 (sqI l)):=by
 have hs:=Jf (qE (l:=l));obtain⟨r0,r1,r2⟩:=YY hs;have h0:=zCn l 0;have hm:Y3 0 l * Y3 0 l<=z1 (sqI l):=by
  rcases maxL_or l 0 with e | e
  ·rw[e];simpa using hs
  ·exact zEn qE _ (List.mem_map.2 ⟨_,e,rfl⟩)
 rcases Int.lt_or_le (J1 (z1 (sqI l))) (Y3 0 l) with c | c
 ·have:=qu (a:=J1 (z1 (sqI l))+1) (b:=Y3 0 l) (by omega) (by omega);omega
 ·exact c
theorem zIu{l:List Int}(h:∀x∈l,0<=x):J1 (z1 (sqI l))<=z1 l:=by
 have hs:=Jf (qE (l:=l));obtain⟨r0,r1,r2⟩:=YY hs;have h1:=zJG h;have h2:=Jf h;rcases Int.lt_or_le (z1 l) (J1 (z1 (sqI l))) with c | c
 ·have:=qu (a:=z1 l+1) (b:=J1 (z1 (sqI l))) (by omega) (by omega)
  have e:(z1 l+1) * (z1 l+1)=z1 l * z1 l+2 * z1 l+1:=by rw[Int.add_mul,Int.mul_add,Int.mul_one,Int.one_mul];omega
  omega
 ·exact c
theorem zDO{a b:Int}(h:a<=b):YM a<=YM b:=by unfold YM;split <;> split <;> omega
theorem comb_G(l:List Int):YR rG l=Y3 0 l:=by unfold YR;rw[if_pos rfl]
theorem comb_S(l:List Int):YR rS l=J1 (z1 (sqI l)):=by unfold YR;rw[if_neg (by decide),if_pos rfl]
theorem comb_M(l:List Int):YR rM l=z1 l:=by unfold YR;rw[if_neg (by decide),if_neg (by decide)]
theorem zBZ:∀(a b:List Int),z1 (a++b)=z1 a+z1 b
 | [],b=>by simp[z1]
 | x :: a,b=>by simp only[List.cons_append,z1,zBZ a b];omega
theorem zDi:∀(a b:List Int) (n:Int),Y3 n (a++b)=Y3 (Y3 n a) b
 | [],b,n=>rfl
 | x :: a,b,n=>by simp only[List.cons_append,Y3];exact zDi a b _
theorem root_mono{a b:Int}(h0:0<=a)(h:a<=b):J1 a<=J1 b:=by
 obtain⟨r0,r1,r2⟩:=YY h0;obtain⟨s0,s1,s2⟩:=YY (n:=b) (by omega)
 rcases Int.lt_or_le (J1 b) (J1 a) with c | c
 ·have:=qu (a:=J1 b+1) (b:=J1 a) (by omega) (by omega);omega
 ·exact c
theorem combI_part(rule:ByteArray){a b:List Int}(h:∀x∈a++b,0<=x):YR rule a<=YR rule (a++b):=by
 unfold YR;split
 ·rw[zDi];exact zCn b _
 ·split
  ·refine root_mono (Jf qE) ?_;have e:sqI (a++b)=sqI a++sqI b:=List.map_append;rw[e,zBZ];have:=Jf (qE (l:=b));omega
  ·rw[zBZ];have:=Jf (l:=b) λx hx=>h x (by simp[hx])
   omega
theorem rowP'_take(w:Wk)(ps:List Pt)(sec:Int)(st:Pt)(j m:Nat)(hj:j<m)(hm:m<=ps.length):jZ w (ps.take m) sec st j=(jZ w ps sec st j).take m:=by
 refine List.ext_getElem (by simp[jZ]) λi h1 h2=>?_
 have hi:i<m:=by simp[jZ] at h1;omega
 simp only[jZ,List.getElem_map,List.getElem_range,List.getElem_take];have e:∀k,k<m->(ps.take m).getD k default=ps.getD k default:=by intro k hk;rw[List.getD_eq_getElem?_getD,List.getD_eq_getElem?_getD,List.getElem?_take_of_lt hk]
 rw[e i hi,e j hj]
theorem zGc{w:Wk}(hw:zCm w)(ps:List Pt)(sec:Int)(st:Pt)(m:Nat)(hm:m<=ps.length)(j:Nat)(hj:j<m) :
  (je w (ps.take m) sec st).getD j 0<=(je w ps sec st).getD j 0:=by
 have l1:(je w (ps.take m) sec st).length=m:=by rw[jK];simp;omega
 have l2:=jK w ps sec st;have e1:(je w (ps.take m) sec st).getD j 0=YM (YR w.rule (jZ w (ps.take m) sec st j)):=by
  rw[List.getD_eq_getElem?_getD,List.getElem?_eq_getElem (by omega)]
  simp[je,wakesP]
 have e2:(je w ps sec st).getD j 0=YM (YR w.rule (jZ w ps sec st j)):=by
  rw[List.getD_eq_getElem?_getD,List.getElem?_eq_getElem (by omega)]
  simp[je,wakesP]
 rw[e1,e2,rowP'_take w ps sec st j m hj hm];refine zDO ?_;have:=combI_part w.rule (a:=(jZ w ps sec st j).take m) (b:=(jZ w ps sec st j).drop m) (by rw[List.take_append_drop];exact λx hx=>(J9 hw ps sec st j x hx).1)
 rwa [List.take_append_drop] at this
theorem zJY(w:Wk)(c:Cu)(ps:List Pt)(sec v above:Int)(j:Nat)(hj:j<ps.length):(Ym w c ps sec v above).getD j 0=zAV c ((v+above) * (256 - (je w ps sec (zo sec)).getD j 0)):=by
 have hl:=jK w ps sec (zo sec);have hp:=zCU w c ps sec v above;rw[List.getD_eq_getElem?_getD,List.getElem?_eq_getElem (by omega),List.getD_eq_getElem?_getD,List.getElem?_eq_getElem (by omega)]
 simp[Ym,QH]
theorem zHq{w:Wk}{c:Cu}(hw:zCm w)(hl:2<=c.p.length)(hi:incr c.p)(ps:List Pt)(sec v:Int)(hv:0<=v)(m:Nat)(hm:m<=ps.length)(j:Nat)(hj:j<m) :
  (Ym w c ps sec v 0).getD j 0<=(Ym w c (ps.take m) sec v 0).getD j 0:=by
 rw[zJY w c ps sec v 0 j (by omega),zJY w c (ps.take m) sec v 0 j (by simp;omega),Int.add_zero]
 have h1:=zGc hw ps sec (zo sec) m hm j hj;have b1:0<=(je w ps sec (zo sec)).getD j 0/\(je w ps sec (zo sec)).getD j 0<=256:=Jc hw ps sec (zo sec) _ (zJp (by rw[jK];omega))
 exact zC1 hl hi (Int.mul_nonneg hv (by omega)) (Int.mul_le_mul_of_nonneg_left (by omega) hv)
end Go.Am
namespace Go.Am
open Go.Proofs
open Go Go.RowKit
attribute [local go_sem] Oper.semAt_some
def orZ(x y:Int):Int:=if x=0 then y else x
set_option maxRecDepth 100000 in
set_option maxHeartbeats 2000000 in
theorem or2(x y:Int)(b:Nat)(w:World)(h0:w.cell? ⟨b,0,none⟩=some (.int .i64 x))(h1:w.cell? ⟨b,1,none⟩=some (.int .i64 y)) :
  Calls Tryz.prog 260 #[.slice (some ⟨b,0,none⟩) 2 2] w λe w'=>e=.returned (.int .i64 (orZ x y))/\w'=w:=by
 unfold orZ;refine(callsIn_wide (n:=0)).1 (callsIn_of_wp Tryz.func260 rfl trivial ?_ rfl);simp only[Tryz.ntmps260,List.size_toArray,List.length_cons,List.length_nil,Nat.reduceAdd,Nat.reduceSub,Array.replicate_succ,Array.replicate_zero,List.push_toArray,List.append_toArray,List.nil_append,List.cons_append]
 gi_wp2
 gi_loopw [8] (λp wr=>wr=w/\(p=.int .i64 0\/(p=.int .i64 1/\x=0)\/(p=.int .i64 2/\x=0/\y=0))) (λp _=>2 - QI p)
 case atStart=>exact⟨rfl,.inl rfl⟩
 case round =>
  obtain⟨rfl,rfl | ⟨rfl,hx⟩ | ⟨rfl,hx,hy⟩⟩:=hrel
  ·by_cases hx:x=0
   ·gi_wp2
    exact⟨⟨trivial,.inr (.inl ⟨rfl,hx⟩)⟩,by simp[QI]⟩
   ·gi_wp2
    go_ret;simp[hx]
  ·by_cases hy:y=0
   ·gi_wp2
    exact⟨⟨trivial,.inr (.inr ⟨rfl,hx,hy⟩)⟩,by simp[QI]⟩
   ·gi_wp2
    go_ret;simp[hx]
  ·gi_wp2
   go_ret;simp[hx,hy]
def zJx(x y:Int):Int:=if x<y then -1 else if x>y then 1 else 0
set_option maxRecDepth 100000 in
set_option maxHeartbeats 2000000 in
theorem cmp2(x y:Int)(w:World):Calls Tryz.prog 261 #[.int .i64 x,.int .i64 y] w λe w'=>e=.returned (.int .i64 (zJx x y))/\w'=w:=by
 have hcon:=λ(z:Int) (W':World)=>Tryz.cmp_isNaN_int2 z W'
 go_enter Tryz.func261,Tryz.ntmps261
 by_cases h1:x<y
 ·go_wp2_with (go_at_call 311;refine(hcon _ _).mono ?_;rintro e w' ⟨rfl,rfl⟩)
  go_ret;simp[zJx,h1]
 ·by_cases h2:x>y
  ·go_wp2_with (go_at_call 311;refine(hcon _ _).mono ?_;rintro e w' ⟨rfl,rfl⟩)
   go_ret;simp[zJx,h1,h2]
  ·go_wp2_with (go_at_call 311;refine(hcon _ _).mono ?_;rintro e w' ⟨rfl,rfl⟩)
   go_ret;refine⟨?_,rfl⟩;unfold zJx;rw[if_neg (by omega),if_neg (by omega)]
   rfl
end Go.Am
namespace Go.Proofs
open Go.Shelf
def Tryz.sortPl_ren:Go.Shelf.Ren:=⟨λ| 6=>188 | 15=>259 | 14=>258 | 28=>309 | 29=>310 | 20=>301 | 21=>302 | 22=>303 | 23=>304 | 24=>305 | 25=>306 | 26=>307 | 27=>308 | 46=>340 | 47=>341 | 48=>342 | 49=>343 | 50=>344 | 57=>379 | n=>n,λ| 22=>300 | 24=>302 | 25=>304 | 3=>3 | 39=>235 | 0=>0 | 53=>237 | 55=>421 | 4=>4 | 46=>414 | 45=>413 | 50=>99 | 5=>5 | 9=>9 | 66=>442 | 70=>446 | 76=>477 | 77=>138 | n=>n,λ| n=>n⟩
theorem Tryz.sortPl:Go.Proofs.SlLaysF0.n6 Tryz.prog Tryz.sortPl_ren:={
 mixed:=by kernel_rfl
 f6:=⟨Tryz.f188.name,by decide,Tryz.func188.trans (congrArg some (by kernel_rfl))⟩
 f14:=⟨Tryz.f258.name,by decide,Tryz.func258.trans (congrArg some (by kernel_rfl))⟩
 f15:=Tryz.func259.trans (congrArg some (by kernel_rfl))
 f20:=⟨Tryz.f301.name,by decide,Tryz.func301.trans (congrArg some (by kernel_rfl))⟩
 f21:=⟨Tryz.f302.name,by decide,Tryz.func302.trans (congrArg some (by kernel_rfl))⟩
 f22:=⟨Tryz.f303.name,by decide,Tryz.func303.trans (congrArg some (by kernel_rfl))⟩
 f23:=⟨Tryz.f304.name,by decide,Tryz.func304.trans (congrArg some (by kernel_rfl))⟩
 f24:=⟨Tryz.f305.name,by decide,Tryz.func305.trans (congrArg some (by kernel_rfl))⟩
 f25:=⟨Tryz.f306.name,by decide,Tryz.func306.trans (congrArg some (by kernel_rfl))⟩
 f26:=⟨Tryz.f307.name,by decide,Tryz.func307.trans (congrArg some (by kernel_rfl))⟩
 f27:=⟨Tryz.f308.name,by decide,Tryz.func308.trans (congrArg some (by kernel_rfl))⟩
 f28:=Tryz.func309.trans (congrArg some (by kernel_rfl))
 f29:=Tryz.func310.trans (congrArg some (by kernel_rfl))
 f46:=⟨Tryz.f340.name,by decide,Tryz.func340.trans (congrArg some (by kernel_rfl))⟩
 f47:=Tryz.func341.trans (congrArg some (by kernel_rfl))
 f48:=Tryz.func342.trans (congrArg some (by kernel_rfl))
 f49:=⟨Tryz.f343.name,by decide,Tryz.func343.trans (congrArg some (by kernel_rfl))⟩
 f50:=⟨Tryz.f344.name,by decide,Tryz.func344.trans (congrArg some (by kernel_rfl))⟩
 f57:=⟨Tryz.f379.name,by decide,Tryz.func379.trans (congrArg some (by kernel_rfl))⟩
 t0:=Tryz.underlying0
 a0:=Tryz.isAgg0
 z0:=Tryz.sizeOf0
 v0:=Tryz.zeroValue0
 t3:=Tryz.underlying3
 a3:=Tryz.isAgg3
 z3:=Tryz.sizeOf3
 v3:=Tryz.zeroValue3
 t4:=Tryz.underlying4
 a4:=Tryz.isAgg4
 z4:=Tryz.sizeOf4
 v4:=Tryz.zeroValue4
 t5:=Tryz.underlying5
 a5:=Tryz.isAgg5
 z5:=Tryz.sizeOf5
 v5:=Tryz.zeroValue5
 t9:=Tryz.underlying9
 a9:=Tryz.isAgg9
 z9:=Tryz.sizeOf9
 v9:=Tryz.zeroValue9
 t22:=Tryz.underlying300
 a22:=Tryz.isAgg300
 z22:=Tryz.sizeOf300
 v22:=Tryz.zeroValue300
 t25:=Tryz.underlying304
 a25:=Tryz.isAgg304
 z25:=Tryz.sizeOf304
 v25:=Tryz.zeroValue304
 t39:=Tryz.underlying235
 a39:=Tryz.isAgg235
 z39:=Tryz.sizeOf235
 v39:=Tryz.zeroValue235
 t45:=Tryz.underlying413
 a45:=Tryz.isAgg413
 z45:=Tryz.sizeOf413
 v45:=Tryz.zeroValue413
 t46:=Tryz.underlying414
 a46:=Tryz.isAgg414
 z46:=Tryz.sizeOf414
 v46:=Tryz.zeroValue414
 t50:=Tryz.underlying99
 a50:=Tryz.isAgg99
 z50:=Tryz.sizeOf99
 v50:=Tryz.zeroValue99
 t53:=Tryz.underlying237
 a53:=Tryz.isAgg237
 z53:=Tryz.sizeOf237
 v53:=Tryz.zeroValue237
 t55:=Tryz.underlying421
 a55:=Tryz.isAgg421
 z55:=Tryz.sizeOf421
 v55:=Tryz.zeroValue421
 t66:=Tryz.underlying442
 a66:=Tryz.isAgg442
 z66:=Tryz.sizeOf442
 v66:=Tryz.zeroValue442
 t70:=Tryz.underlying446
 a70:=Tryz.isAgg446
 z70:=Tryz.sizeOf446
 v70:=Tryz.zeroValue446
 t76:=Tryz.underlying477
 a76:=Tryz.isAgg477
 z76:=Tryz.sizeOf477
 v76:=Tryz.zeroValue477
 t77:=Tryz.underlying138
 a77:=Tryz.isAgg138
 z77:=Tryz.sizeOf138
 v77:=Tryz.zeroValue138 }
end Go.Proofs
namespace Go.Am
open Go.Proofs
open Go Go.RowKit Go.Sort Go.Proofs
def lexR(key:Nat->Int)(a b:Nat):Prop:=key a<key b\/key a=key b/\a<b
theorem zEi(key:Nat->Int):∀n,(zr key n).Pairwise (lexR key)
 | 0=>.nil
 | n+1=>by
  have ih:=zEi key n;have hs:=qh key n;have hm:=λa=>YA key n a
  rw[zr];generalize zr key n=out at ih hs hm;obtain⟨hp,h2,h3⟩:=zAx key out n out.length (Nat.le_refl _);unfold insR;generalize zDc key out n out.length=p at hp h2 h3 ⊢;have hlow:∀a,a<p->key (out.getD a 0)<=key n:=by
   intro a ha;have h0:=h3 (by omega)
   by_cases e:a=p - 1
   ·rw[e];exact h0
   ·exact Int.le_trans (hs a (p - 1) (by omega) (by omega)) h0
  have hA:∀x∈out.take p,key x<=key n/\x<n:=by
   intro x hx;obtain⟨i,hi,rfl⟩:=List.mem_iff_getElem.1 hx;have hi':i<p/\i<out.length:=by simp at hi;omega
   have:=hlow i hi'.1;rw[zCa hi'.2] at this;rw[List.getElem_take];exact⟨this,(hm _).1 (List.getElem_mem _)⟩
  have hB:∀x∈out.drop p,key n<key x:=by
   intro x hx;obtain⟨i,hi,rfl⟩:=List.mem_iff_getElem.1 hx;have hi':p+i<out.length:=by simp at hi;omega
   have:=h2 (p+i) (by omega) hi'
   rw[zCa hi'] at this
   rwa [List.getElem_drop]
  have hAB:(out.take p++out.drop p).Pairwise (lexR key):=by rw[List.take_append_drop];exact ih
  rw[List.pairwise_append] at hAB;rw[List.append_assoc,List.pairwise_append];refine⟨hAB.1,?_,?_⟩
  ·rw[List.singleton_append,List.pairwise_cons];exact⟨λx hx=>.inl (hB x hx),hAB.2.1⟩
  ·intro a ha b hb;rw[List.singleton_append,List.mem_cons] at hb;rcases hb with rfl | hb
   ·obtain⟨h1,h2⟩:=hA a ha;rcases Int.lt_or_eq_of_le h1 with h | h
    ·exact .inl h
    ·exact .inr ⟨h,h2⟩
   ·exact hAB.2.2 a ha b hb
def cfP(p q:Pt):Int:=orZ (zJx p.x q.x) (zJx p.y q.y)
theorem cfP_lt(p q:Pt):ltOf cfP p q=true ↔ (p.x<q.x\/p.x=q.x/\p.y<q.y):=by unfold ltOf cfP orZ zJx;rw[decide_eq_true_eq];split <;> split <;> (try split) <;> (try split) <;> omega
theorem zE8(p q:Pt):ltOf cfP p q=false ↔ ¬(p.x<q.x\/p.x=q.x/\p.y<q.y):=by rw[<-cfP_lt,Bool.not_eq_true]
theorem cfP_swo:SWO (ltOf cfP) where
 irrefl x:=(zE8 x x).2 (by omega)
 trans x y z h1 h2:=by rw[cfP_lt] at *;omega
 ntrans x y z h1 h2:=by rw[zE8] at *;omega
theorem zHO(x y:Pt)(h1:ltOf cfP x y=false)(h2:ltOf cfP y x=false):x=y:=by rw[zE8] at h1 h2;obtain⟨a,b⟩:=x;obtain⟨c,d⟩:=y;simp only at h1 h2;rw[Pt.mk.injEq];omega
def plP(key:Nat->Int)(i:Nat):Pt:=⟨key i,i⟩
theorem zIx(key:Nat->Int)(n:Nat):(((List.range n).map (plP key)).mergeSort λx y=>!(ltOf cfP) y x)=(zr key n).map (plP key):=by
 have h:=sorted_unique_holds (lt:=ltOf cfP) cfP_swo zHO ((List.range n).map (plP key)).toArray ((zr key n).map (plP key)).toArray ?_ ?_
 ·simpa using h.symm
 ·refine⟨by simp[jS],λi hi=>?_,?_⟩
  ·have:n<=i:=by simpa using hi
   simp[jS,this]
  ·have:=(Yn key n).map (plP key);have e1:=List.take_of_length_le (i:=n) (l:=(zr key n).map (plP key)) (by simp[jS])
   have e2:=List.take_of_length_le (i:=n) (l:=(List.range n).map (plP key)) (by simp)
   simpa[Array.extract_size,e1,e2] using this
 ·intro i j h1 h2 h3;have hj:j<(zr key n).length:=by rw[jS];simpa using h3
  have hi:i<(zr key n).length:=by omega
  have hl:=(List.pairwise_iff_getElem.1 (zEi key n)) i j hi hj h2;have e:∀k (h:k<(zr key n).length),((zr key n).map (plP key)).toArray[k]! = plP key (zr key n)[k]:=λk h=>by simp[h]
  rw[e j hj,e i hi,zE8];unfold lexR at hl;simp only[plP];omega
end Go.Am
namespace Go.Am
open Go.Proofs
open Go
def seqs:List Code->Code->Code
 | [],t=>t
 | c :: cs,t=>.seq c (seqs cs t)
noncomputable def k68:Code:=YC EE 68
noncomputable def cs68:List Code:=[sq1 k68,sq1 (sq2 k68),sq1 (sq2 (sq2 k68)),sq1 (sq2 (sq2 (sq2 k68))),sq1 (sq2 (sq2 (sq2 (sq2 k68)))),sq1 (sq2 (sq2 (sq2 (sq2 (sq2 k68)))))]
noncomputable def k68t:Code:=sq2 (sq2 (sq2 (sq2 (sq2 (sq2 k68)))))
noncomputable def K68(e:Ex)(st:St):Tr:=match e with
 | .normal=>.goto 900 st
 | e=>zHL EE (EE.fresh 68) (j7 EE 68) e st
noncomputable def k68a:Code:=seqs cs68 .skip
noncomputable def a68(s sec:DV):Tr:=zGY EE (XX.fx 68) (j7 EE 68) [s,sec] λst=>Jw EE XX (XX.fx 68) k68a 0 0 st K68
abbrev dWd(sec x y:Int):DV:=.agg 9 [.int .i64 sec,.agg 1 [.int .i64 x,.int .i64 y]]
noncomputable def l68(sec x y:Int)(tb l:List DV)(v27 v28:Int):Tr:=JX EE XX (XX.fx 68) 0 k68a 0 0 K68
 (zx 47 [(7,.ptr 7 3 0 []),(9,.own 41 0 l.length 2),(26,.d (.sl 3 tb)),(27,.d (.int .i64 v27)),(28,.d (.int .i64 v28))] [(7,⟨false,.dc 3 [dWd sec x y]⟩),(41,⟨false,.dc 2 l⟩)])
noncomputable def z68(sec x y:Int)(tb:List DV)(v27 v28:Int):Tr:=JX EE XX (XX.fx 68) 0 k68a 0 0 K68
 (zx 47 [(7,.ptr 7 3 0 []),(9,.d .nl),(26,.d (.sl 3 tb)),(27,.d (.int .i64 v27)),(28,.d (.int .i64 v28))] [(7,⟨false,.dc 3 [dWd sec x y]⟩)])
noncomputable def t68(l:List DV):Tr:=Jw EE XX (XX.fx 68) (sq2 k68t) 0 0 (zx 47 [(9,.own 41 0 l.length 2)] [(41,⟨false,.dc 2 l⟩)]) (zHL EE (EE.fresh 68) (j7 EE 68))
noncomputable def u68:Tr:=Jw EE XX (XX.fx 68) (sq2 k68t) 0 0 (zx 47 [(9,.d .nl)] []) (zHL EE (EE.fresh 68) (j7 EE 68))
end Go.Am
namespace Go.Am
open Go.Proofs
open Go Go.RowKit
open Classical
section
variable{call:FuncId->List DV->Option CR}{head:Nat->St->Tr}
noncomputable def goH(call:FuncId->List DV->Option CR)(head:Nat->St->Tr)(j:Nat)(st:St):Option CR :=
 if h:∃n,(goX call head n j st).isSome=true then goX call head h.choose j st else none
theorem goX_up{n m:Nat}(h:n<=m):SubG (goX call head n) (goX call head m):=QZ (λ_ _ _ h=>h) _ h
theorem zEu{j:Nat}{st:St}{r:CR}:goH call head j st=some r ↔ ∃n,goX call head n j st=some r:=by
 unfold goH;constructor
 ·intro h;split at h
  ·exact⟨_,h⟩
  ·cases h
 ·rintro⟨n,h⟩;have hex:∃n,(goX call head n j st).isSome=true:=⟨n,by rw[h];rfl⟩
  rw[dif_pos hex];obtain⟨r',hr'⟩:=Option.isSome_iff_exists.1 hex.choose_spec;rw[hr'];rcases Nat.le_total n hex.choose with k | k
  ·have:=goX_up k _ _ _ h;rw[hr'] at this;exact this
  ·have:=goX_up k _ _ _ hr';rw[h] at this;exact this.symm
theorem zJQ{r:CR}:∀t:Tr,run call (goH call head) t=some r->∃n,run call (goX call head n) t=some r:=by
 intro t;induction t with
 | fail=>intro h;simp[run] at h
 | ret r'=>intro h;exact⟨0,h⟩
 | ifB b t e iht ihe =>
  intro h;rcases QR h with ⟨rfl,h⟩ | ⟨rfl,h⟩
  ·exact iht h
  ·exact ihe h
 | call g a kv kf ihv ihf =>
  intro h;rcases QS h with ⟨x,h1,h⟩ | ⟨s,xs,h1,h⟩
  ·obtain⟨m,hm⟩:=ihv x h;exact⟨m,by simp only[run,h1,zI];exact hm⟩
  ·obtain⟨m,hm⟩:=ihf s xs h;exact⟨m,by simp only[run,h1,zI];exact hm⟩
 | goto j st=>intro h;exact zEu.1 h
theorem zGU(j:Nat)(st:St):goH call head j st=run call (goH call head) (head j st):=by
 apply zEj;intro r;constructor
 ·intro h;obtain⟨n,h⟩:=zEu.1 h;cases n with
  | zero=>simp[goX] at h
  | succ n=>exact YO (λ_ _ _ h=>h) (λ_ _ _ h=>zEu.2 ⟨n,h⟩) _ h
 ·intro h;obtain⟨n,h⟩:=zJQ _ h;exact zEu.2 ⟨n+1,h⟩
theorem Q7{E:Env}{X:XC}{F:XF}{c:Code}{st:St}{Kx:Ex->St->Tr}{K:Ex->St->Option CR}{r:CR}(hn:zw c<=1000)(hh:∀j,InL c 0 0 j->∀st,head j st=JX E X F j c 0 0 Kx st)
  (hK:∀p e st,run call (goX call head p) (Kx e st)=some r->K e st=some r) (hm:Mono r K K) (h:run call (goH call head) (Jw E X F c 0 0 st Kx)=some r):∃M,exec E M (jr E call) c st K=some r:=by
 obtain⟨n,hn'⟩:=zJQ _ h;exact⟨n,zDI c n (Nat.le_refl n) 0 0 (by omega) Kx K hh (λp _ e st h=>hK p e st h) hm n (Nat.le_refl n) st hn'⟩
end
section
variable{P:Program}{E:Env}{call:FuncId->List DV->Option CR}
theorem zCR(hD:DOK P E)(hm:P.follows .mixedOrders=true)(hc:jv P E call){n base:Nat}{K:Ex->St->Option CR}{r:CR}{T:Code}{Q:Exit->Act->World->Prop}:∀(cs:List Code) {S:Nat->Prop} {φ:Nat->Option Nat} {st:St} {a:Act} {w:World},
  exec E n call (seqs cs .skip) st K=some r->Rel E base S φ st a w ->
  (∀st' S' φ' a' w',K .normal st'=some r->Rel E base S' φ' st' a' w'->Grow base S S' w w'->T.wp P Q a' w') ->
  (∀ex st' S' φ' a' w',ex≠.normal->K ex st'=some r->Rel E base S' φ' st' a' w'->Grow base S S' w w'->Q (zA6 ex) a' w')->(seqs cs T).wp P Q a w
 | [],S,φ,st,a,w,h,hR,hT,_=>hT st S φ a w h hR Grow.refl
 | c :: cs,S,φ,st,a,w,h,hR,hT,hx=>by
  refine wp_seq (J6 hD hm hc c (K:=QF (λst'=>exec E n call (seqs cs .skip) st' K) K) h hR λex st' S' φ' a' w' k1 k2 k3=>?_)
  cases ex with
  | normal=>exact zCR hD hm hc cs k1 k2 (λst2 S2 φ2 a2 w2 j1 j2 j3=>hT st2 S2 φ2 a2 w2 j1 j2 (k3.trans j3)) (λex st2 S2 φ2 a2 w2 j0 j1 j2 j3=>hx ex st2 S2 φ2 a2 w2 j0 j1 j2 (k3.trans j3))
  | exit id=>exact hx (.exit id) st' S' φ' a' w' (by simp) k1 k2 k3
  | ret=>exact hx .ret st' S' φ' a' w' (by simp) k1 k2 k3
end
end Go.Am
namespace Go.Am
open Go.Proofs
open Go
variable[OO]
theorem C64(x0 x1 x2 x3:DV):zB 64 [x0,x1,x2,x3] =
 ifO (zS (zH EE 6) [58,3,3,3] [x0,x1,x2,x3])
 (zI (zB 158 [(.agg 0 [(.str (ze (nth (flds x0) 0))),(eI (zC (nth (flds x0) 1))),(.sl 3 (elems (nth (flds x0) 2)))])])
 (λr0=>ifO (zH EE 6 46 r0)
 (ifO (bne (zC r0) 0)
 (some (.val (.tup [(eI 0),(eI 0),(eI (zC r0))])))
 (zI (zB 147 [(eI (zC x1))])
 (λr1=>ifO ((DV.isTup r1) && (zS (zH EE 6) [251,46] (tups r1)))
 (ifO (decide ((zC x2)<(0:Int)))
 (zI (zB 169 [(.bool true),(eI 10)])
 (λr2=>ifO (zH EE 6 46 r2)
 (ifO (decide ((zC x3)<(0:Int)))
 (zI (zB 169 [(.bool true),(eI 10)])
 (λr3=>ifO (zH EE 6 46 r3)
 (zI (zB 169 [(.bool ((zC x2) == (zC x3))),(eI 9)])
 (λr4=>ifO (zH EE 6 46 r4)
 (zI (zB 148 [(.sl 1 [(eI (zC (nth (tups r1) 1))),(eI (zC r2)),(eI (zC r3)),(eI (zC r4))])])
 (λr5=>ifO (zH EE 6 46 r5)
 (ifO (bne (zC r5) 0)
 (some (.val (.tup [(eI 0),(eI 0),(eI (zC r5))])))
 (ifO (decide (((0:Int)<=(zC x2))/\((zC x2)<(((List.length (elems (nth (flds x0) 2))):Nat):Int))))
 (ifO (jQ 9 1 (nth (elems (nth (flds x0) 2)) (Int.toNat (zC x2))))
 (ifO (zH EE 6 141 (nth (flds (nth (elems (nth (flds x0) 2)) (Int.toNat (zC x2)))) 1))
 (ifO (decide (((0:Int)<=(zC x3))/\((zC x3)<(((List.length (elems (nth (flds x0) 2))):Nat):Int))))
 (ifO (jQ 9 1 (nth (elems (nth (flds x0) 2)) (Int.toNat (zC x3))))
 (ifO (zH EE 6 141 (nth (flds (nth (elems (nth (flds x0) 2)) (Int.toNat (zC x3)))) 1))
 (zI (zB 185 [(.agg 9 [(eI (zC (nth (flds (nth (tups r1) 0)) 0))),(.agg 1 [(eI (zC (nth (flds (nth (flds (nth (tups r1) 0)) 1)) 0))),(eI (zC (nth (flds (nth (flds (nth (tups r1) 0)) 1)) 1)))])]),(.agg 1 [(eI (zC (nth (flds (nth (flds (nth (elems (nth (flds x0) 2)) (Int.toNat (zC x2)))) 1)) 0))),(eI (zC (nth (flds (nth (flds (nth (elems (nth (flds x0) 2)) (Int.toNat (zC x2)))) 1)) 1)))]),(.agg 1 [(eI (zC (nth (flds (nth (flds (nth (elems (nth (flds x0) 2)) (Int.toNat (zC x3)))) 1)) 0))),(eI (zC (nth (flds (nth (flds (nth (elems (nth (flds x0) 2)) (Int.toNat (zC x3)))) 1)) 1)))])])
 (λr6=>ifO ((DV.isTup r6) && (zS (zH EE 6) [3,3] (tups r6)))
 (some (.val (.tup [(eI (zC (nth (tups r6) 0))),(eI (zC (nth (tups r6) 1))),(eI 0)])))
 (none))
 (λ_ _=>none))
 (none))
 (none))
 (none))
 (none))
 (none))
 (none)))
 (none))
 (λ_ _=>none))
 (none))
 (λ_ _=>none))
 (none))
 (λ_ _=>none))
 (zI (zB 169 [(.bool (decide ((zC x3)>=(((List.length (elems (nth (flds x0) 2))):Nat):Int)))),(eI 10)])
 (λr15=>ifO (zH EE 6 46 r15)
 (zI (zB 169 [(.bool ((zC x2) == (zC x3))),(eI 9)])
 (λr16=>ifO (zH EE 6 46 r16)
 (zI (zB 148 [(.sl 1 [(eI (zC (nth (tups r1) 1))),(eI (zC r2)),(eI (zC r15)),(eI (zC r16))])])
 (λr17=>ifO (zH EE 6 46 r17)
 (ifO (bne (zC r17) 0)
 (some (.val (.tup [(eI 0),(eI 0),(eI (zC r17))])))
 (ifO (decide (((0:Int)<=(zC x2))/\((zC x2)<(((List.length (elems (nth (flds x0) 2))):Nat):Int))))
 (ifO (jQ 9 1 (nth (elems (nth (flds x0) 2)) (Int.toNat (zC x2))))
 (ifO (zH EE 6 141 (nth (flds (nth (elems (nth (flds x0) 2)) (Int.toNat (zC x2)))) 1))
 (ifO (decide (((0:Int)<=(zC x3))/\((zC x3)<(((List.length (elems (nth (flds x0) 2))):Nat):Int))))
 (ifO (jQ 9 1 (nth (elems (nth (flds x0) 2)) (Int.toNat (zC x3))))
 (ifO (zH EE 6 141 (nth (flds (nth (elems (nth (flds x0) 2)) (Int.toNat (zC x3)))) 1))
 (zI (zB 185 [(.agg 9 [(eI (zC (nth (flds (nth (tups r1) 0)) 0))),(.agg 1 [(eI (zC (nth (flds (nth (flds (nth (tups r1) 0)) 1)) 0))),(eI (zC (nth (flds (nth (flds (nth (tups r1) 0)) 1)) 1)))])]),(.agg 1 [(eI (zC (nth (flds (nth (flds (nth (elems (nth (flds x0) 2)) (Int.toNat (zC x2)))) 1)) 0))),(eI (zC (nth (flds (nth (flds (nth (elems (nth (flds x0) 2)) (Int.toNat (zC x2)))) 1)) 1)))]),(.agg 1 [(eI (zC (nth (flds (nth (flds (nth (elems (nth (flds x0) 2)) (Int.toNat (zC x3)))) 1)) 0))),(eI (zC (nth (flds (nth (flds (nth (elems (nth (flds x0) 2)) (Int.toNat (zC x3)))) 1)) 1)))])])
 (λr18=>ifO ((DV.isTup r18) && (zS (zH EE 6) [3,3] (tups r18)))
 (some (.val (.tup [(eI (zC (nth (tups r18) 0))),(eI (zC (nth (tups r18) 1))),(eI 0)])))
 (none))
 (λ_ _=>none))
 (none))
 (none))
 (none))
 (none))
 (none))
 (none)))
 (none))
 (λ_ _=>none))
 (none))
 (λ_ _=>none))
 (none))
 (λ_ _=>none)))
 (none))
 (λ_ _=>none))
 (zI (zB 169 [(.bool (decide ((zC x2)>=(((List.length (elems (nth (flds x0) 2))):Nat):Int)))),(eI 10)])
 (λr29=>ifO (zH EE 6 46 r29)
 (ifO (decide ((zC x3)<(0:Int)))
 (zI (zB 169 [(.bool true),(eI 10)])
 (λr30=>ifO (zH EE 6 46 r30)
 (zI (zB 169 [(.bool ((zC x2) == (zC x3))),(eI 9)])
 (λr31=>ifO (zH EE 6 46 r31)
 (zI (zB 148 [(.sl 1 [(eI (zC (nth (tups r1) 1))),(eI (zC r29)),(eI (zC r30)),(eI (zC r31))])])
 (λr32=>ifO (zH EE 6 46 r32)
 (ifO (bne (zC r32) 0)
 (some (.val (.tup [(eI 0),(eI 0),(eI (zC r32))])))
 (ifO (decide (((0:Int)<=(zC x2))/\((zC x2)<(((List.length (elems (nth (flds x0) 2))):Nat):Int))))
 (ifO (jQ 9 1 (nth (elems (nth (flds x0) 2)) (Int.toNat (zC x2))))
 (ifO (zH EE 6 141 (nth (flds (nth (elems (nth (flds x0) 2)) (Int.toNat (zC x2)))) 1))
 (ifO (decide (((0:Int)<=(zC x3))/\((zC x3)<(((List.length (elems (nth (flds x0) 2))):Nat):Int))))
 (ifO (jQ 9 1 (nth (elems (nth (flds x0) 2)) (Int.toNat (zC x3))))
 (ifO (zH EE 6 141 (nth (flds (nth (elems (nth (flds x0) 2)) (Int.toNat (zC x3)))) 1))
 (zI (zB 185 [(.agg 9 [(eI (zC (nth (flds (nth (tups r1) 0)) 0))),(.agg 1 [(eI (zC (nth (flds (nth (flds (nth (tups r1) 0)) 1)) 0))),(eI (zC (nth (flds (nth (flds (nth (tups r1) 0)) 1)) 1)))])]),(.agg 1 [(eI (zC (nth (flds (nth (flds (nth (elems (nth (flds x0) 2)) (Int.toNat (zC x2)))) 1)) 0))),(eI (zC (nth (flds (nth (flds (nth (elems (nth (flds x0) 2)) (Int.toNat (zC x2)))) 1)) 1)))]),(.agg 1 [(eI (zC (nth (flds (nth (flds (nth (elems (nth (flds x0) 2)) (Int.toNat (zC x3)))) 1)) 0))),(eI (zC (nth (flds (nth (flds (nth (elems (nth (flds x0) 2)) (Int.toNat (zC x3)))) 1)) 1)))])])
 (λr33=>ifO ((DV.isTup r33) && (zS (zH EE 6) [3,3] (tups r33)))
 (some (.val (.tup [(eI (zC (nth (tups r33) 0))),(eI (zC (nth (tups r33) 1))),(eI 0)])))
 (none))
 (λ_ _=>none))
 (none))
 (none))
 (none))
 (none))
 (none))
 (none)))
 (none))
 (λ_ _=>none))
 (none))
 (λ_ _=>none))
 (none))
 (λ_ _=>none))
 (zI (zB 169 [(.bool (decide ((zC x3)>=(((List.length (elems (nth (flds x0) 2))):Nat):Int)))),(eI 10)])
 (λr42=>ifO (zH EE 6 46 r42)
 (zI (zB 169 [(.bool ((zC x2) == (zC x3))),(eI 9)])
 (λr43=>ifO (zH EE 6 46 r43)
 (zI (zB 148 [(.sl 1 [(eI (zC (nth (tups r1) 1))),(eI (zC r29)),(eI (zC r42)),(eI (zC r43))])])
 (λr44=>ifO (zH EE 6 46 r44)
 (ifO (bne (zC r44) 0)
 (some (.val (.tup [(eI 0),(eI 0),(eI (zC r44))])))
 (ifO (decide (((0:Int)<=(zC x2))/\((zC x2)<(((List.length (elems (nth (flds x0) 2))):Nat):Int))))
 (ifO (jQ 9 1 (nth (elems (nth (flds x0) 2)) (Int.toNat (zC x2))))
 (ifO (zH EE 6 141 (nth (flds (nth (elems (nth (flds x0) 2)) (Int.toNat (zC x2)))) 1))
 (ifO (decide (((0:Int)<=(zC x3))/\((zC x3)<(((List.length (elems (nth (flds x0) 2))):Nat):Int))))
 (ifO (jQ 9 1 (nth (elems (nth (flds x0) 2)) (Int.toNat (zC x3))))
 (ifO (zH EE 6 141 (nth (flds (nth (elems (nth (flds x0) 2)) (Int.toNat (zC x3)))) 1))
 (zI (zB 185 [(.agg 9 [(eI (zC (nth (flds (nth (tups r1) 0)) 0))),(.agg 1 [(eI (zC (nth (flds (nth (flds (nth (tups r1) 0)) 1)) 0))),(eI (zC (nth (flds (nth (flds (nth (tups r1) 0)) 1)) 1)))])]),(.agg 1 [(eI (zC (nth (flds (nth (flds (nth (elems (nth (flds x0) 2)) (Int.toNat (zC x2)))) 1)) 0))),(eI (zC (nth (flds (nth (flds (nth (elems (nth (flds x0) 2)) (Int.toNat (zC x2)))) 1)) 1)))]),(.agg 1 [(eI (zC (nth (flds (nth (flds (nth (elems (nth (flds x0) 2)) (Int.toNat (zC x3)))) 1)) 0))),(eI (zC (nth (flds (nth (flds (nth (elems (nth (flds x0) 2)) (Int.toNat (zC x3)))) 1)) 1)))])])
 (λr45=>ifO ((DV.isTup r45) && (zS (zH EE 6) [3,3] (tups r45)))
 (some (.val (.tup [(eI (zC (nth (tups r45) 0))),(eI (zC (nth (tups r45) 1))),(eI 0)])))
 (none))
 (λ_ _=>none))
 (none))
 (none))
 (none))
 (none))
 (none))
 (none)))
 (none))
 (λ_ _=>none))
 (none))
 (λ_ _=>none))
 (none))
 (λ_ _=>none)))
 (none))
 (λ_ _=>none)))
 (none))
 (λ_ _=>none)))
 (none))
 (λ_ _=>none))
 (none) :=
 (zM (f:=64) (by kernel_rfl) (by kernel_rfl) (by kernel_rfl) [x0,x1,x2,x3]).trans (by kernel_rfl)
theorem C77(x0 x1 x2:DV):zB 77 [x0,x1,x2] =
 ifO (zS (zH EE 6) [58,59,3] [x0,x1,x2])
 (zI (zB 199 [(.agg 0 [(.str (ze (nth (flds x0) 0))),(eI (zC (nth (flds x0) 1))),(.sl 3 (elems (nth (flds x0) 2)))]),(.agg 0 [(.str (ze (nth (flds x1) 0))),(.sl 1 (elems (nth (flds x1) 1))),(.sl 1 (elems (nth (flds x1) 2)))]),(eI (zC x2))])
 (λr0=>ifO ((DV.isTup r0) && (zS (zH EE 6) [251,46] (tups r0)))
 (ifO (bne (zC (nth (tups r0) 1)) (0:Int))
 (some (.val (.tup [(.sl 1 []),(eI (zC (nth (tups r0) 1)))])))
 (zI (zB 146 [(.agg 0 [(.str (ze (nth (flds x0) 0))),(eI (zC (nth (flds x0) 1))),(.sl 3 (elems (nth (flds x0) 2)))])])
 (λr1=>ifO (zH EE 6 81 r1)
 (zI (zB 153 [(.agg 0 [(.str (ze (nth (flds x1) 0))),(.sl 1 (elems (nth (flds x1) 1))),(.sl 1 (elems (nth (flds x1) 2)))]),(.sl 2 (elems r1)),(.agg 9 [(eI (zC (nth (flds (nth (tups r0) 0)) 0))),(.agg 1 [(eI (zC (nth (flds (nth (flds (nth (tups r0) 0)) 1)) 0))),(eI (zC (nth (flds (nth (flds (nth (tups r0) 0)) 1)) 1)))])])])
 (λr2=>ifO (zH EE 6 25 r2)
 (some (.val (.tup [(.sl 1 (elems r2)),(eI 0)])))
 (none))
 (λ_ _=>none))
 (none))
 (λ_ _=>none)))
 (none))
 (λ_ _=>none))
 (none) :=
 (zM (f:=77) (by kernel_rfl) (by kernel_rfl) (by kernel_rfl) [x0,x1,x2]).trans (by kernel_rfl)
theorem C78(x0 x1 x2 x3:DV):zB 78 [x0,x1,x2,x3] =
 ifO (zS (zH EE 6) [58,59,3,3] [x0,x1,x2,x3])
 (zI (zB 199 [(.agg 0 [(.str (ze (nth (flds x0) 0))),(eI (zC (nth (flds x0) 1))),(.sl 3 (elems (nth (flds x0) 2)))]),(.agg 0 [(.str (ze (nth (flds x1) 0))),(.sl 1 (elems (nth (flds x1) 1))),(.sl 1 (elems (nth (flds x1) 2)))]),(eI (zC x2))])
 (λr0=>ifO ((DV.isTup r0) && (zS (zH EE 6) [251,46] (tups r0)))
 (zI (zB 149 [(eI (zC x3)),(eI 0),(eI 50)])
 (λr1=>ifO (zH EE 6 46 r1)
 (zI (zB 148 [(.sl 1 [(eI (zC (nth (tups r0) 1))),(eI (zC r1))])])
 (λr2=>ifO (zH EE 6 46 r2)
 (ifO (bne (zC r2) 0)
 (some (.val (.tup [(.sl 1 []),(eI (zC r2))])))
 (zI (zB 146 [(.agg 0 [(.str (ze (nth (flds x0) 0))),(eI (zC (nth (flds x0) 1))),(.sl 3 (elems (nth (flds x0) 2)))])])
 (λr3=>ifO (zH EE 6 81 r3)
 (zI (zB 153 [(.agg 0 [(.str (ze (nth (flds x1) 0))),(.sl 1 (elems (nth (flds x1) 1))),(.sl 1 (elems (nth (flds x1) 2)))]),(.sl 2 (elems r3)),(.agg 9 [(eI (zC (nth (flds (nth (tups r0) 0)) 0))),(.agg 1 [(eI (zC (nth (flds (nth (flds (nth (tups r0) 0)) 1)) 0))),(eI (zC (nth (flds (nth (flds (nth (tups r0) 0)) 1)) 1)))])])])
 (λr4=>ifO (zH EE 6 25 r4)
 (zI (zB 152 [(.sl 1 (elems r4)),(eI (zC x3))])
 (λr5=>ifO (zH EE 6 25 r5)
 (some (.val (.tup [(.sl 1 (elems r5)),(eI 0)])))
 (none))
 (λ_ _=>none))
 (none))
 (λ_ _=>none))
 (none))
 (λ_ _=>none)))
 (none))
 (λ_ _=>none))
 (none))
 (λ_ _=>none))
 (none))
 (λ_ _=>none))
 (none) :=
 (zM (f:=78) (by kernel_rfl) (by kernel_rfl) (by kernel_rfl) [x0,x1,x2,x3]).trans (by kernel_rfl)
theorem C32(x0 x1 x2:DV):zB 32 [x0,x1,x2] =
 ifO (zS (zH EE 6) [62,3,3] [x0,x1,x2])
 (zI (zB 40 [(.agg 4 [(.agg 0 [(.str (ze (nth (flds (nth (flds x0) 0)) 0))),(eI (zC (nth (flds (nth (flds x0) 0)) 1))),(.sl 3 (elems (nth (flds (nth (flds x0) 0)) 2)))]),(.agg 0 [(.str (ze (nth (flds (nth (flds x0) 1)) 0))),(.sl 1 (elems (nth (flds (nth (flds x0) 1)) 1))),(.sl 1 (elems (nth (flds (nth (flds x0) 1)) 2)))]),(.agg 1 [(.sl 1 (elems (nth (flds (nth (flds x0) 2)) 0))),(eI (zC (nth (flds (nth (flds x0) 2)) 1)))]),(.agg 3 (flds (nth (flds x0) 3)))])])
 (λr0=>ifO (zH EE 6 46 r0)
 (ifO (bne (zC r0) 0)
 (some (.val (.tup [(.sl 1 []),(eI (zC r0))])))
 (zI (zB 147 [(eI (zC x1))])
 (λr1=>ifO ((DV.isTup r1) && (zS (zH EE 6) [251,46] (tups r1)))
 (zI (zB 149 [(eI (zC x2)),(eI 0),(eI 50)])
 (λr2=>ifO (zH EE 6 46 r2)
 (zI (zB 148 [(.sl 1 [(eI (zC (nth (tups r1) 1))),(eI (zC r2))])])
 (λr3=>ifO (zH EE 6 46 r3)
 (ifO (bne (zC r3) 0)
 (some (.val (.tup [(.sl 1 []),(eI (zC r3))])))
 (ifO (decide ((zC x2)>=(zC (nth (flds (nth (flds x0) 2)) 1))))
 (ifO (decide (((0:Int)<=(((List.length (elems (nth (flds (nth (flds x0) 0)) 2))):Nat):Int))/\(((((List.length (elems (nth (flds (nth (flds x0) 0)) 2))):Nat):Int)=(((List.length (elems (nth (flds (nth (flds x0) 0)) 2))):Nat):Int))/\((((8:Int) * (((List.length (elems (nth (flds (nth (flds x0) 0)) 2))):Nat):Int))<=(281474976710656:Int))/\((((List.length (elems (nth (flds (nth (flds x0) 0)) 2))):Nat):Int)<=(9223372036854775807:Int))))))
 (ifO (decide ((0+(List.length (α:=DV) (List.replicate (Int.toNat (((List.length (elems (nth (flds (nth (flds x0) 0)) 2))):Nat):Int)) (eI 0))))<=(List.length (α:=DV) (List.replicate (Int.toNat (((List.length (elems (nth (flds (nth (flds x0) 0)) 2))):Nat):Int)) (eI 0)))))
 (some (.val (.tup [(.sl 1 (List.take (List.length (α:=DV) (List.replicate (Int.toNat (((List.length (elems (nth (flds (nth (flds x0) 0)) 2))):Nat):Int)) (eI 0))) (List.drop 0 (List.replicate (Int.toNat (((List.length (elems (nth (flds (nth (flds x0) 0)) 2))):Nat):Int)) (eI 0))))),(eI 0)])))
 (none))
 (none))
 (zI (zB 146 [(.agg 0 [(.str (ze (nth (flds (nth (flds x0) 0)) 0))),(eI (zC (nth (flds (nth (flds x0) 0)) 1))),(.sl 3 (elems (nth (flds (nth (flds x0) 0)) 2)))])])
 (λr4=>ifO (zH EE 6 81 r4)
 (zI (zB 153 [(.agg 0 [(.str (ze (nth (flds (nth (flds x0) 1)) 0))),(.sl 1 (elems (nth (flds (nth (flds x0) 1)) 1))),(.sl 1 (elems (nth (flds (nth (flds x0) 1)) 2)))]),(.sl 2 (elems r4)),(.agg 9 [(eI (zC (nth (flds (nth (tups r1) 0)) 0))),(.agg 1 [(eI (zC (nth (flds (nth (flds (nth (tups r1) 0)) 1)) 0))),(eI (zC (nth (flds (nth (flds (nth (tups r1) 0)) 1)) 1)))])])])
 (λr5=>ifO (zH EE 6 25 r5)
 (zI (zB 152 [(.sl 1 (elems r5)),(eI (zC x2))])
 (λr6=>ifO (zH EE 6 25 r6)
 (zI (zB 151 [(.sl 1 (elems r6)),(.fn 150 [(.agg 1 [(.sl 1 (elems (nth (flds (nth (flds x0) 2)) 0))),(eI (zC (nth (flds (nth (flds x0) 2)) 1)))])] [])])
 (λr7=>ifO (zH EE 6 25 r7)
 (some (.val (.tup [(.sl 1 (elems r7)),(eI 0)])))
 (none))
 (λ_ _=>none))
 (none))
 (λ_ _=>none))
 (none))
 (λ_ _=>none))
 (none))
 (λ_ _=>none))))
 (none))
 (λ_ _=>none))
 (none))
 (λ_ _=>none))
 (none))
 (λ_ _=>none)))
 (none))
 (λ_ _=>none))
 (none) :=
 (zM (f:=32) (by kernel_rfl) (by kernel_rfl) (by kernel_rfl) [x0,x1,x2]).trans (by kernel_rfl)
theorem C106(x0 x1:DV):zB 106 [x0,x1] =
 ifO (zS (zH EE 6) [60,3] [x0,x1])
 (zI (zB 114 [(.agg 1 [(.sl 1 (elems (nth (flds x0) 0))),(eI (zC (nth (flds x0) 1)))])])
 (λr0=>ifO (zH EE 6 46 r0)
 (zI (zB 149 [(eI (zC x1)),(eI 0),(eI 13056)])
 (λr1=>ifO (zH EE 6 46 r1)
 (zI (zB 148 [(.sl 1 [(eI (zC r0)),(eI (zC r1))])])
 (λr2=>ifO (zH EE 6 46 r2)
 (ifO (bne (zC r2) 0)
 (some (.val (.tup [(eI 0),(eI (zC r2))])))
 (zI (zB 150 [(.agg 1 [(.sl 1 (elems (nth (flds x0) 0))),(eI (zC (nth (flds x0) 1)))]),(eI (zC x1))])
 (λr3=>ifO (zH EE 6 3 r3)
 (some (.val (.tup [(eI (zC r3)),(eI 0)])))
 (none))
 (λ_ _=>none)))
 (none))
 (λ_ _=>none))
 (none))
 (λ_ _=>none))
 (none))
 (λ_ _=>none))
 (none) :=
 (zM (f:=106) (by kernel_rfl) (by kernel_rfl) (by kernel_rfl) [x0,x1]).trans (by kernel_rfl)
theorem C30(x0:DV):zB 30 [x0] =
 ifO (zS (zH EE 6) [62] [x0])
 (zI (zB 40 [(.agg 4 [(.agg 0 [(.str (ze (nth (flds (nth (flds x0) 0)) 0))),(eI (zC (nth (flds (nth (flds x0) 0)) 1))),(.sl 3 (elems (nth (flds (nth (flds x0) 0)) 2)))]),(.agg 0 [(.str (ze (nth (flds (nth (flds x0) 1)) 0))),(.sl 1 (elems (nth (flds (nth (flds x0) 1)) 1))),(.sl 1 (elems (nth (flds (nth (flds x0) 1)) 2)))]),(.agg 1 [(.sl 1 (elems (nth (flds (nth (flds x0) 2)) 0))),(eI (zC (nth (flds (nth (flds x0) 2)) 1)))]),(.agg 3 (flds (nth (flds x0) 3)))])])
 (λr0=>ifO (zH EE 6 46 r0)
 (ifO (bne (zC r0) 0)
 (some (.val (.tup [(eI 0),(eI (zC r0))])))
 (zI (zB 144 [(.agg 4 [(.agg 0 [(.str (ze (nth (flds (nth (flds x0) 0)) 0))),(eI (zC (nth (flds (nth (flds x0) 0)) 1))),(.sl 3 (elems (nth (flds (nth (flds x0) 0)) 2)))]),(.agg 0 [(.str (ze (nth (flds (nth (flds x0) 1)) 0))),(.sl 1 (elems (nth (flds (nth (flds x0) 1)) 1))),(.sl 1 (elems (nth (flds (nth (flds x0) 1)) 2)))]),(.agg 1 [(.sl 1 (elems (nth (flds (nth (flds x0) 2)) 0))),(eI (zC (nth (flds (nth (flds x0) 2)) 1)))]),(.agg 3 (flds (nth (flds x0) 3)))])])
 (λr1=>ifO (zH EE 6 246 r1)
 (zI (zB 146 [(.agg 0 [(.str (ze (nth (flds (nth (flds x0) 0)) 0))),(eI (zC (nth (flds (nth (flds x0) 0)) 1))),(.sl 3 (elems (nth (flds (nth (flds x0) 0)) 2)))])])
 (λr2=>ifO (zH EE 6 81 r2)
 (zI (zB 145 [(.agg 13 [(.agg 0 [(.str (ze (nth (flds (nth (flds r1) 0)) 0))),(.sl 1 (elems (nth (flds (nth (flds r1) 0)) 1))),(.sl 1 (elems (nth (flds (nth (flds r1) 0)) 2)))]),(.agg 1 [(.sl 1 (elems (nth (flds (nth (flds r1) 1)) 0))),(eI (zC (nth (flds (nth (flds r1) 1)) 1)))]),(.agg 3 (flds (nth (flds r1) 2)))]),(.sl 2 (elems r2)),(eI 0)])
 (λr3=>ifO (zH EE 6 3 r3)
 (some (.val (.tup [(eI (zC r3)),(eI 0)])))
 (none))
 (λ_ _=>none))
 (none))
 (λ_ _=>none))
 (none))
 (λ_ _=>none)))
 (none))
 (λ_ _=>none))
 (none) :=
 (zM (f:=30) (by kernel_rfl) (by kernel_rfl) (by kernel_rfl) [x0]).trans (by kernel_rfl)
theorem C84(x0:DV):zB 84 [x0] =
 ifO (zS (zH EE 6) [62] [x0])
 (zI (zB 40 [(.agg 4 [(.agg 0 [(.str (ze (nth (flds (nth (flds x0) 0)) 0))),(eI (zC (nth (flds (nth (flds x0) 0)) 1))),(.sl 3 (elems (nth (flds (nth (flds x0) 0)) 2)))]),(.agg 0 [(.str (ze (nth (flds (nth (flds x0) 1)) 0))),(.sl 1 (elems (nth (flds (nth (flds x0) 1)) 1))),(.sl 1 (elems (nth (flds (nth (flds x0) 1)) 2)))]),(.agg 1 [(.sl 1 (elems (nth (flds (nth (flds x0) 2)) 0))),(eI (zC (nth (flds (nth (flds x0) 2)) 1)))]),(.agg 3 (flds (nth (flds x0) 3)))])])
 (λr0=>ifO (zH EE 6 46 r0)
 (ifO (bne (zC r0) 0)
 (some (.val (.tup [(eI 0),(eI (zC r0))])))
 (zI (zB 144 [(.agg 4 [(.agg 0 [(.str (ze (nth (flds (nth (flds x0) 0)) 0))),(eI (zC (nth (flds (nth (flds x0) 0)) 1))),(.sl 3 (elems (nth (flds (nth (flds x0) 0)) 2)))]),(.agg 0 [(.str (ze (nth (flds (nth (flds x0) 1)) 0))),(.sl 1 (elems (nth (flds (nth (flds x0) 1)) 1))),(.sl 1 (elems (nth (flds (nth (flds x0) 1)) 2)))]),(.agg 1 [(.sl 1 (elems (nth (flds (nth (flds x0) 2)) 0))),(eI (zC (nth (flds (nth (flds x0) 2)) 1)))]),(.agg 3 (flds (nth (flds x0) 3)))])])
 (λr1=>ifO (zH EE 6 246 r1)
 (zI (zB 202 [(.agg 13 [(.agg 0 [(.str (ze (nth (flds (nth (flds r1) 0)) 0))),(.sl 1 (elems (nth (flds (nth (flds r1) 0)) 1))),(.sl 1 (elems (nth (flds (nth (flds r1) 0)) 2)))]),(.agg 1 [(.sl 1 (elems (nth (flds (nth (flds r1) 1)) 0))),(eI (zC (nth (flds (nth (flds r1) 1)) 1)))]),(.agg 3 (flds (nth (flds r1) 2)))])])
 (λr2=>ifO (zH EE 6 246 r2)
 (zI (zB 146 [(.agg 0 [(.str (ze (nth (flds (nth (flds x0) 0)) 0))),(eI (zC (nth (flds (nth (flds x0) 0)) 1))),(.sl 3 (elems (nth (flds (nth (flds x0) 0)) 2)))])])
 (λr3=>ifO (zH EE 6 81 r3)
 (zI (zB 145 [(.agg 13 [(.agg 0 [(.str (ze (nth (flds (nth (flds r2) 0)) 0))),(.sl 1 (elems (nth (flds (nth (flds r2) 0)) 1))),(.sl 1 (elems (nth (flds (nth (flds r2) 0)) 2)))]),(.agg 1 [(.sl 1 (elems (nth (flds (nth (flds r2) 1)) 0))),(eI (zC (nth (flds (nth (flds r2) 1)) 1)))]),(.agg 3 (flds (nth (flds r2) 2)))]),(.sl 2 (elems r3)),(eI 0)])
 (λr4=>ifO (zH EE 6 3 r4)
 (some (.val (.tup [(eI (zC r4)),(eI 0)])))
 (none))
 (λ_ _=>none))
 (none))
 (λ_ _=>none))
 (none))
 (λ_ _=>none))
 (none))
 (λ_ _=>none)))
 (none))
 (λ_ _=>none))
 (none) :=
 (zM (f:=84) (by kernel_rfl) (by kernel_rfl) (by kernel_rfl) [x0]).trans (by kernel_rfl)
def S85_0a(v0 v1 v2 v3:Int):St :=
 zx 47 [(2,(.ptr 2 2 0 [])),(4,(.d (eI v0))),(6,(.d (eI v1))),(7,(.d (eI v2))),(8,(.d (eI v3)))] [(2,(.mk false (.dc 2 [(.agg 1 [(eI 0),(eI 0)])])))]
noncomputable def zIg(v0 v1 v2 v3:Int):Option CR:=goQ 85 0 (S85_0a v0 v1 v2 v3)
theorem L85_0a_eq(v0 v1 v2 v3:Int):zIg v0 v1 v2 v3 =
 ifO (bne v3 (0:Int))
 (ifO (!(v3 == (0:Int)))
 ((zIg v0 v1 v3 (Int.tmod v2 v3)))
 (none))
 (ifO (!(v2 == (0:Int)))
 (ifO (!(v2 == (0:Int)))
 (some (.val (.tup [(.agg 1 [(eI (IntKind.wrap .i64 (Int.tdiv v1 v2))),(eI (IntKind.wrap .i64 (Int.tdiv v0 v2)))]),(eI 0)])))
 (none))
 (none)) :=
 (zk 85 0 _).trans (by kernel_rfl)
theorem C85(x0:DV):zB 85 [x0] =
 ifO (zS (zH EE 6) [62] [x0])
 (zI (zB 84 [(.agg 4 [(.agg 0 [(.str (ze (nth (flds (nth (flds x0) 0)) 0))),(eI (zC (nth (flds (nth (flds x0) 0)) 1))),(.sl 3 (elems (nth (flds (nth (flds x0) 0)) 2)))]),(.agg 0 [(.str (ze (nth (flds (nth (flds x0) 1)) 0))),(.sl 1 (elems (nth (flds (nth (flds x0) 1)) 1))),(.sl 1 (elems (nth (flds (nth (flds x0) 1)) 2)))]),(.agg 1 [(.sl 1 (elems (nth (flds (nth (flds x0) 2)) 0))),(eI (zC (nth (flds (nth (flds x0) 2)) 1)))]),(.agg 3 (flds (nth (flds x0) 3)))])])
 (λr0=>ifO ((DV.isTup r0) && (zS (zH EE 6) [3,46] (tups r0)))
 (zI (zB 169 [(.bool ((zC (nth (tups r0) 0)) == (0:Int))),(eI 6)])
 (λr1=>ifO (zH EE 6 46 r1)
 (zI (zB 148 [(.sl 1 [(eI (zC (nth (tups r0) 1))),(eI (zC r1))])])
 (λr2=>ifO (zH EE 6 46 r2)
 (ifO (bne (zC r2) 0)
 (some (.val (.tup [(.agg 1 [(eI 0),(eI 0)]),(eI (zC r2))])))
 (zI (zB 144 [(.agg 4 [(.agg 0 [(.str (ze (nth (flds (nth (flds x0) 0)) 0))),(eI (zC (nth (flds (nth (flds x0) 0)) 1))),(.sl 3 (elems (nth (flds (nth (flds x0) 0)) 2)))]),(.agg 0 [(.str (ze (nth (flds (nth (flds x0) 1)) 0))),(.sl 1 (elems (nth (flds (nth (flds x0) 1)) 1))),(.sl 1 (elems (nth (flds (nth (flds x0) 1)) 2)))]),(.agg 1 [(.sl 1 (elems (nth (flds (nth (flds x0) 2)) 0))),(eI (zC (nth (flds (nth (flds x0) 2)) 1)))]),(.agg 3 (flds (nth (flds x0) 3)))])])
 (λr3=>ifO (zH EE 6 246 r3)
 (zI (zB 146 [(.agg 0 [(.str (ze (nth (flds (nth (flds x0) 0)) 0))),(eI (zC (nth (flds (nth (flds x0) 0)) 1))),(.sl 3 (elems (nth (flds (nth (flds x0) 0)) 2)))])])
 (λr4=>ifO (zH EE 6 81 r4)
 (zI (zB 145 [(.agg 13 [(.agg 0 [(.str (ze (nth (flds (nth (flds r3) 0)) 0))),(.sl 1 (elems (nth (flds (nth (flds r3) 0)) 1))),(.sl 1 (elems (nth (flds (nth (flds r3) 0)) 2)))]),(.agg 1 [(.sl 1 (elems (nth (flds (nth (flds r3) 1)) 0))),(eI (zC (nth (flds (nth (flds r3) 1)) 1)))]),(.agg 3 (flds (nth (flds r3) 2)))]),(.sl 2 (elems r4)),(eI 0)])
 (λr5=>ifO (zH EE 6 3 r5)
 ((zIg (zC (nth (tups r0) 0)) (IntKind.wrap .i64 ((zC (nth (tups r0) 0)) - (zC r5))) (IntKind.wrap .i64 ((zC (nth (tups r0) 0)) - (zC r5))) (zC (nth (tups r0) 0))))
 (none))
 (λ_ _=>none))
 (none))
 (λ_ _=>none))
 (none))
 (λ_ _=>none)))
 (none))
 (λ_ _=>none))
 (none))
 (λ_ _=>none))
 (none))
 (λ_ _=>none))
 (none) :=
 (zM (f:=85) (by kernel_rfl) (by kernel_rfl) (by kernel_rfl) [x0]).trans (by kernel_rfl)
theorem C83(x0:DV):zB 83 [x0] =
 ifO (zS (zH EE 6) [62] [x0])
 (zI (zB 40 [(.agg 4 [(.agg 0 [(.str (ze (nth (flds (nth (flds x0) 0)) 0))),(eI (zC (nth (flds (nth (flds x0) 0)) 1))),(.sl 3 (elems (nth (flds (nth (flds x0) 0)) 2)))]),(.agg 0 [(.str (ze (nth (flds (nth (flds x0) 1)) 0))),(.sl 1 (elems (nth (flds (nth (flds x0) 1)) 1))),(.sl 1 (elems (nth (flds (nth (flds x0) 1)) 2)))]),(.agg 1 [(.sl 1 (elems (nth (flds (nth (flds x0) 2)) 0))),(eI (zC (nth (flds (nth (flds x0) 2)) 1)))]),(.agg 3 (flds (nth (flds x0) 3)))])])
 (λr0=>ifO (zH EE 6 46 r0)
 (ifO (bne (zC r0) 0)
 (some (.val (.tup [(.agg 1 [(eI 0),(eI 0)]),(eI (zC r0))])))
 (zI (zB 144 [(.agg 4 [(.agg 0 [(.str (ze (nth (flds (nth (flds x0) 0)) 0))),(eI (zC (nth (flds (nth (flds x0) 0)) 1))),(.sl 3 (elems (nth (flds (nth (flds x0) 0)) 2)))]),(.agg 0 [(.str (ze (nth (flds (nth (flds x0) 1)) 0))),(.sl 1 (elems (nth (flds (nth (flds x0) 1)) 1))),(.sl 1 (elems (nth (flds (nth (flds x0) 1)) 2)))]),(.agg 1 [(.sl 1 (elems (nth (flds (nth (flds x0) 2)) 0))),(eI (zC (nth (flds (nth (flds x0) 2)) 1)))]),(.agg 3 (flds (nth (flds x0) 3)))])])
 (λr1=>ifO (zH EE 6 246 r1)
 (zI (zB 146 [(.agg 0 [(.str (ze (nth (flds (nth (flds x0) 0)) 0))),(eI (zC (nth (flds (nth (flds x0) 0)) 1))),(.sl 3 (elems (nth (flds (nth (flds x0) 0)) 2)))])])
 (λr2=>ifO (zH EE 6 81 r2)
 (zI (zB 145 [(.agg 13 [(.agg 0 [(.str (ze (nth (flds (nth (flds r1) 0)) 0))),(.sl 1 (elems (nth (flds (nth (flds r1) 0)) 1))),(.sl 1 (elems (nth (flds (nth (flds r1) 0)) 2)))]),(.agg 1 [(.sl 1 (elems (nth (flds (nth (flds r1) 1)) 0))),(eI (zC (nth (flds (nth (flds r1) 1)) 1)))]),(.agg 3 (flds (nth (flds r1) 2)))]),(.sl 2 (elems r2)),(eI 0)])
 (λr3=>ifO (zH EE 6 3 r3)
 (zI (zB 145 [(.agg 13 [(.agg 0 [(.str (ze (nth (flds (nth (flds r1) 0)) 0))),(.sl 1 (elems (nth (flds (nth (flds r1) 0)) 1))),(.sl 1 (elems (nth (flds (nth (flds r1) 0)) 2)))]),(.agg 1 [(.sl 1 (elems (nth (flds (nth (flds r1) 1)) 0))),(eI (zC (nth (flds (nth (flds r1) 1)) 1)))]),(.agg 3 (flds (nth (flds r1) 2)))]),(.sl 2 (elems r2)),(eI 1)])
 (λr4=>ifO (zH EE 6 3 r4)
 (some (.val (.tup [(.agg 1 [(eI (zC r3)),(eI (zC r4))]),(eI 0)])))
 (none))
 (λ_ _=>none))
 (none))
 (λ_ _=>none))
 (none))
 (λ_ _=>none))
 (none))
 (λ_ _=>none)))
 (none))
 (λ_ _=>none))
 (none) :=
 (zM (f:=83) (by kernel_rfl) (by kernel_rfl) (by kernel_rfl) [x0]).trans (by kernel_rfl)
theorem C40(x0:DV):zB 40 [x0] =
 ifO (zS (zH EE 6) [62] [x0])
 (zI (zB 158 [(.agg 0 [(.str (ze (nth (flds (nth (flds x0) 0)) 0))),(eI (zC (nth (flds (nth (flds x0) 0)) 1))),(.sl 3 (elems (nth (flds (nth (flds x0) 0)) 2)))])])
 (λr0=>ifO (zH EE 6 46 r0)
 (zI (zB 75 [(.agg 0 [(.str (ze (nth (flds (nth (flds x0) 1)) 0))),(.sl 1 (elems (nth (flds (nth (flds x0) 1)) 1))),(.sl 1 (elems (nth (flds (nth (flds x0) 1)) 2)))])])
 (λr1=>ifO (zH EE 6 46 r1)
 (zI (zB 114 [(.agg 1 [(.sl 1 (elems (nth (flds (nth (flds x0) 2)) 0))),(eI (zC (nth (flds (nth (flds x0) 2)) 1)))])])
 (λr2=>ifO (zH EE 6 46 r2)
 (zI (zB 159 [(.agg 3 (flds (nth (flds x0) 3)))])
 (λr3=>ifO (zH EE 6 46 r3)
 (zI (zB 148 [(.sl 1 [(eI (zC r0)),(eI (zC r1)),(eI (zC r2)),(eI (zC r3))])])
 (λr4=>ifO (zH EE 6 46 r4)
 (some (.val (eI (zC r4))))
 (none))
 (λ_ _=>none))
 (none))
 (λ_ _=>none))
 (none))
 (λ_ _=>none))
 (none))
 (λ_ _=>none))
 (none))
 (λ_ _=>none))
 (none) :=
 (zM (f:=40) (by kernel_rfl) (by kernel_rfl) (by kernel_rfl) [x0]).trans (by kernel_rfl)
def S114_0a(v0:List DV)(v1 v2 v3:Int):St :=
 zx 56 [(1,(.ptr 1 2 0 [])),(17,(.d (.sl 1 v0))),(18,(.d (eI v1))),(19,(.d (eI v2)))] [(1,(.mk false (.dc 2 [(.agg 1 [(.sl 1 v0),(eI v3)])])))]
noncomputable def QD(v0:List DV)(v1 v2 v3:Int):Option CR:=goQ 114 0 (S114_0a v0 v1 v2 v3)
theorem zFw(v0:List DV)(v1 v2 v3:Int):QD v0 v1 v2 v3 =
 ifO (decide (v2<v1))
 (ifO (decide (((0:Int)<=v2)/\(v2<(((List.length v0):Nat):Int))))
 (ifO (zH EE 6 3 (nth v0 (Int.toNat v2)))
 (zI (zB 149 [(eI (zC (nth v0 (Int.toNat v2)))),(eI 0),(eI 100000)])
 (λr0=>ifO (zH EE 6 46 r0)
 (ifO (decide (v2>(0:Int)))
 (ifO (decide (((0:Int)<=(ite ((IntKind.wrap .i64 (v2 - (1:Int)))>(0:Int)) (IntKind.wrap .i64 (v2 - (1:Int))) (0:Int)))/\((ite ((IntKind.wrap .i64 (v2 - (1:Int)))>(0:Int)) (IntKind.wrap .i64 (v2 - (1:Int))) (0:Int))<(((List.length v0):Nat):Int))))
 (ifO (zH EE 6 3 (nth v0 (Int.toNat (ite ((IntKind.wrap .i64 (v2 - (1:Int)))>(0:Int)) (IntKind.wrap .i64 (v2 - (1:Int))) (0:Int)))))
 (zI (zB 169 [(.bool (decide ((zC (nth v0 (Int.toNat v2)))<(zC (nth v0 (Int.toNat (ite ((IntKind.wrap .i64 (v2 - (1:Int)))>(0:Int)) (IntKind.wrap .i64 (v2 - (1:Int))) (0:Int)))))))),(eI 11)])
 (λr1=>ifO (zH EE 6 46 r1)
 (ifO (v2 == (0:Int))
 (zI (zB 169 [(.bool (bne (zC (nth v0 (Int.toNat v2))) (0:Int))),(eI 6)])
 (λr2=>ifO (zH EE 6 46 r2)
 (zI (zB 148 [(.sl 1 [(eI (zC r0)),(eI (zC r1)),(eI (zC r2))])])
 (λr3=>ifO (zH EE 6 46 r3)
 (ifO (bne (zC r3) 0)
 (some (.val (eI (zC r3))))
 ((QD v0 v1 (IntKind.wrap .i64 (v2+(1:Int))) v3)))
 (none))
 (λ_ _=>none))
 (none))
 (λ_ _=>none))
 (zI (zB 169 [(.bool false),(eI 6)])
 (λr8=>ifO (zH EE 6 46 r8)
 (zI (zB 148 [(.sl 1 [(eI (zC r0)),(eI (zC r1)),(eI (zC r8))])])
 (λr9=>ifO (zH EE 6 46 r9)
 (ifO (bne (zC r9) 0)
 (some (.val (eI (zC r9))))
 ((QD v0 v1 (IntKind.wrap .i64 (v2+(1:Int))) v3)))
 (none))
 (λ_ _=>none))
 (none))
 (λ_ _=>none)))
 (none))
 (λ_ _=>none))
 (none))
 (none))
 (zI (zB 169 [(.bool false),(eI 11)])
 (λr16=>ifO (zH EE 6 46 r16)
 (ifO (v2 == (0:Int))
 (zI (zB 169 [(.bool (bne (zC (nth v0 (Int.toNat v2))) (0:Int))),(eI 6)])
 (λr17=>ifO (zH EE 6 46 r17)
 (zI (zB 148 [(.sl 1 [(eI (zC r0)),(eI (zC r16)),(eI (zC r17))])])
 (λr18=>ifO (zH EE 6 46 r18)
 (ifO (bne (zC r18) 0)
 (some (.val (eI (zC r18))))
 ((QD v0 v1 (IntKind.wrap .i64 (v2+(1:Int))) v3)))
 (none))
 (λ_ _=>none))
 (none))
 (λ_ _=>none))
 (zI (zB 169 [(.bool false),(eI 6)])
 (λr23=>ifO (zH EE 6 46 r23)
 (zI (zB 148 [(.sl 1 [(eI (zC r0)),(eI (zC r16)),(eI (zC r23))])])
 (λr24=>ifO (zH EE 6 46 r24)
 (ifO (bne (zC r24) 0)
 (some (.val (eI (zC r24))))
 ((QD v0 v1 (IntKind.wrap .i64 (v2+(1:Int))) v3)))
 (none))
 (λ_ _=>none))
 (none))
 (λ_ _=>none)))
 (none))
 (λ_ _=>none)))
 (none))
 (λ_ _=>none))
 (none))
 (none))
 (zI (zB 149 [(eI v3),(eI 1),(eI 51)])
 (λr33=>ifO (zH EE 6 46 r33)
 (some (.val (eI (zC r33))))
 (none))
 (λ_ _=>none)) :=
 (zk 114 0 _).trans (by kernel_rfl)
theorem C114(x0:DV):zB 114 [x0] =
 ifO (zS (zH EE 6) [60] [x0])
 (ifO (decide ((((List.length (elems (nth (flds x0) 0))):Nat):Int)<(2:Int)))
 (some (.val (eI 2)))
 (ifO (decide ((((List.length (elems (nth (flds x0) 0))):Nat):Int)>(51:Int)))
 (some (.val (eI 2)))
 ((QD (elems (nth (flds x0) 0)) (((List.length (elems (nth (flds x0) 0))):Nat):Int) (0:Int) (zC (nth (flds x0) 1))))))
 (none) :=
 (zM (f:=114) (by kernel_rfl) (by kernel_rfl) (by kernel_rfl) [x0]).trans (by kernel_rfl)
theorem C76(x0 x1 x2:DV):zB 76 [x0,x1,x2] =
 ifO (zS (zH EE 6) [58,59,3] [x0,x1,x2])
 (zI (zB 199 [(.agg 0 [(.str (ze (nth (flds x0) 0))),(eI (zC (nth (flds x0) 1))),(.sl 3 (elems (nth (flds x0) 2)))]),(.agg 0 [(.str (ze (nth (flds x1) 0))),(.sl 1 (elems (nth (flds x1) 1))),(.sl 1 (elems (nth (flds x1) 2)))]),(eI (zC x2))])
 (λr0=>ifO ((DV.isTup r0) && (zS (zH EE 6) [251,46] (tups r0)))
 (ifO (bne (zC (nth (tups r0) 1)) (0:Int))
 (some (.val (.tup [(.sl 1 []),(eI (zC (nth (tups r0) 1)))])))
 (zI (zB 146 [(.agg 0 [(.str (ze (nth (flds x0) 0))),(eI (zC (nth (flds x0) 1))),(.sl 3 (elems (nth (flds x0) 2)))])])
 (λr1=>ifO (zH EE 6 81 r1)
 (zI (zB 200 [(.agg 0 [(.str (ze (nth (flds x1) 0))),(.sl 1 (elems (nth (flds x1) 1))),(.sl 1 (elems (nth (flds x1) 2)))]),(.sl 2 (elems r1)),(.agg 9 [(eI (zC (nth (flds (nth (tups r0) 0)) 0))),(.agg 1 [(eI (zC (nth (flds (nth (flds (nth (tups r0) 0)) 1)) 0))),(eI (zC (nth (flds (nth (flds (nth (tups r0) 0)) 1)) 1)))])])])
 (λr2=>ifO (zH EE 6 95 r2)
 (some (.val (.tup [(.sl 1 (List.map (cnE EE 25) (elems r2))),(eI 0)])))
 (none))
 (λ_ _=>none))
 (none))
 (λ_ _=>none)))
 (none))
 (λ_ _=>none))
 (none) :=
 (zM (f:=76) (by kernel_rfl) (by kernel_rfl) (by kernel_rfl) [x0,x1,x2]).trans (by kernel_rfl)
end Go.Am
namespace Go.Am
open Go.Proofs
open Go
variable[OO]
def S110_0a(v0:Int)(v1:List DV)(v2:Int):St :=
 zx 60 [(1,(.ptr 1 2 0 [])),(3,(.d (eI v0)))] [(1,(.mk false (.dc 2 [(.agg 1 [(.sl 1 v1),(eI v2)])])))]
noncomputable def QE(v0:Int)(v1:List DV)(v2:Int):Option CR:=goQ 110 0 (S110_0a v0 v1 v2)
theorem zFx(v0:Int)(v1:List DV)(v2:Int):QE v0 v1 v2 =
 ifO (decide (v0<(((List.length v1):Nat):Int)))
 (ifO (decide (((0:Int)<=v0)/\(v0<(((List.length v1):Nat):Int))))
 (ifO (zH EE 6 3 (nth v1 (Int.toNat v0)))
 (zI (zB 37 [(eI (zC (nth v1 (Int.toNat v0)))),(eI 0),(eI 100000)])
 (λr0=>ifO (zH EE 6 3 r0)
 (ifO (bne (zC r0) 0)
 (some (.val (eI (zC r0))))
 (ifO (decide (v0>(0:Int)))
 (ifO (decide (((0:Int)<=v0)/\(v0<(((List.length v1):Nat):Int))))
 (ifO (zH EE 6 3 (nth v1 (Int.toNat v0)))
 (ifO (decide (((0:Int)<=(IntKind.wrap .i64 (v0 - (1:Int))))/\((IntKind.wrap .i64 (v0 - (1:Int)))<(((List.length v1):Nat):Int))))
 (ifO (zH EE 6 3 (nth v1 (Int.toNat (IntKind.wrap .i64 (v0 - (1:Int))))))
 (ifO (decide ((zC (nth v1 (Int.toNat v0)))<(zC (nth v1 (Int.toNat (IntKind.wrap .i64 (v0 - (1:Int))))))))
 (some (.val (eI 11)))
 (ifO (v0 == (0:Int))
 (ifO (decide (((0:Int)<=v0)/\(v0<(((List.length v1):Nat):Int))))
 (ifO (zH EE 6 3 (nth v1 (Int.toNat v0)))
 (ifO (bne (zC (nth v1 (Int.toNat v0))) (0:Int))
 (some (.val (eI 6)))
 ((QE (IntKind.wrap .i64 (v0+(1:Int))) v1 v2)))
 (none))
 (none))
 ((QE (IntKind.wrap .i64 (v0+(1:Int))) v1 v2))))
 (none))
 (none))
 (none))
 (none))
 (ifO (v0 == (0:Int))
 (ifO (decide (((0:Int)<=v0)/\(v0<(((List.length v1):Nat):Int))))
 (ifO (zH EE 6 3 (nth v1 (Int.toNat v0)))
 (ifO (bne (zC (nth v1 (Int.toNat v0))) (0:Int))
 (some (.val (eI 6)))
 ((QE (IntKind.wrap .i64 (v0+(1:Int))) v1 v2)))
 (none))
 (none))
 ((QE (IntKind.wrap .i64 (v0+(1:Int))) v1 v2)))))
 (none))
 (λ_ _=>none))
 (none))
 (none))
 (zI (zB 37 [(eI v2),(eI 1),(eI 51)])
 (λr3=>ifO (zH EE 6 3 r3)
 (some (.val (eI (zC r3))))
 (none))
 (λ_ _=>none)) :=
 (zk 110 0 _).trans (by kernel_rfl)
theorem C110(x0:DV):zB 110 [x0] =
 ifO (zS (zH EE 6) [29] [x0])
 (ifO (decide ((((List.length (elems (nth (flds x0) 0))):Nat):Int)<(2:Int)))
 (some (.val (eI 2)))
 (ifO (decide ((((List.length (elems (nth (flds x0) 0))):Nat):Int)>(51:Int)))
 (some (.val (eI 2)))
 ((QE (0:Int) (elems (nth (flds x0) 0)) (zC (nth (flds x0) 1))))))
 (none) :=
 (zM (f:=110) (by kernel_rfl) (by kernel_rfl) (by kernel_rfl) [x0]).trans (by kernel_rfl)
theorem C22(x0:DV):zB 22 [x0] =
 ifO (zS (zH EE 6) [34] [x0])
 (zI (zB 69 [(.agg 0 [(.str (ze (nth (flds (nth (flds x0) 0)) 0))),(eI (zC (nth (flds (nth (flds x0) 0)) 1))),(.sl 3 (elems (nth (flds (nth (flds x0) 0)) 2)))])])
 (λr0=>ifO (zH EE 6 3 r0)
 (zI (zB 71 [(.agg 0 [(.str (ze (nth (flds (nth (flds x0) 1)) 0))),(.sl 1 (elems (nth (flds (nth (flds x0) 1)) 1))),(.sl 1 (elems (nth (flds (nth (flds x0) 1)) 2)))])])
 (λr1=>ifO (zH EE 6 3 r1)
 (zI (zB 110 [(.agg 1 [(.sl 1 (elems (nth (flds (nth (flds x0) 2)) 0))),(eI (zC (nth (flds (nth (flds x0) 2)) 1)))])])
 (λr2=>ifO (zH EE 6 3 r2)
 (zI (zB 129 [(.agg 3 (flds (nth (flds x0) 3)))])
 (λr3=>ifO (zH EE 6 3 r3)
 (zI (zB 35 [(.sl 1 [(eI (zC r0)),(eI (zC r1)),(eI (zC r2)),(eI (zC r3))])])
 (λr4=>ifO (zH EE 6 3 r4)
 (some (.val (eI (zC r4))))
 (none))
 (λ_ _=>none))
 (none))
 (λ_ _=>none))
 (none))
 (λ_ _=>none))
 (none))
 (λ_ _=>none))
 (none))
 (λ_ _=>none))
 (none) :=
 (zM (f:=22) (by kernel_rfl) (by kernel_rfl) (by kernel_rfl) [x0]).trans (by kernel_rfl)
theorem C21(x0 x1:DV):zB 21 [x0,x1] =
 ifO (zS (zH EE 6) [34,3] [x0,x1])
 (zI (zB 62 [(.agg 0 [(.str (ze (nth (flds (nth (flds x0) 0)) 0))),(eI (zC (nth (flds (nth (flds x0) 0)) 1))),(.sl 3 (elems (nth (flds (nth (flds x0) 0)) 2)))]),(eI (zC x1))])
 (λr0=>ifO (zH EE 6 4 r0)
 (ifO (YI r0)
 (zI (zB 63 [(.agg 0 [(.str (ze (nth (flds (nth (flds x0) 1)) 0))),(.sl 1 (elems (nth (flds (nth (flds x0) 1)) 1))),(.sl 1 (elems (nth (flds (nth (flds x0) 1)) 2)))])])
 (λr1=>ifO (zH EE 6 4 r1)
 (ifO (YI r1)
 (zI (zB 105 [(.agg 1 [(.sl 1 (elems (nth (flds (nth (flds x0) 2)) 0))),(eI (zC (nth (flds (nth (flds x0) 2)) 1)))])])
 (λr2=>ifO (zH EE 6 4 r2)
 (ifO (YI r2)
 (zI (zB 128 [(.agg 3 (flds (nth (flds x0) 3)))])
 (λr3=>ifO (zH EE 6 3 r3)
 (some (.val (.bool (decide ((zC r3)<=(6:Int))))))
 (none))
 (λ_ _=>none))
 (some (.val (.bool false))))
 (none))
 (λ_ _=>none))
 (some (.val (.bool false))))
 (none))
 (λ_ _=>none))
 (some (.val (.bool false))))
 (none))
 (λ_ _=>none))
 (none) :=
 (zM (f:=21) (by kernel_rfl) (by kernel_rfl) (by kernel_rfl) [x0,x1]).trans (by kernel_rfl)
theorem C63(x0:DV):zB 63 [x0] =
 ifO (zS (zH EE 6) [27] [x0])
 (ifO (decide ((((ByteArray.size (ze (nth (flds x0) 0))):Nat):Int)<=(40:Int)))
 (ifO (decide ((((List.length (elems (nth (flds x0) 1))):Nat):Int)<=(6:Int)))
 (ifO (decide ((((List.length (elems (nth (flds x0) 2))):Nat):Int)<=(6:Int)))
 (some (.val (.bool true)))
 (some (.val (.bool ((((List.length (elems (nth (flds x0) 2))):Nat):Int) == (33:Int))))))
 (ifO ((((List.length (elems (nth (flds x0) 1))):Nat):Int) == (33:Int))
 (ifO (decide ((((List.length (elems (nth (flds x0) 2))):Nat):Int)<=(6:Int)))
 (some (.val (.bool true)))
 (some (.val (.bool ((((List.length (elems (nth (flds x0) 2))):Nat):Int) == (33:Int))))))
 (some (.val (.bool false)))))
 (some (.val (.bool false))))
 (none) :=
 (zM (f:=63) (by kernel_rfl) (by kernel_rfl) (by kernel_rfl) [x0]).trans (by kernel_rfl)
def S128_0a(v0 v1:Int)(v2:List DV):St :=
 zx 23 [(1,(.ptr 1 408 0 [])),(3,(.d (eI v0))),(4,(.d (eI v1)))] [(1,(.mk false (.dc 408 [(.agg 3 v2)])))]
noncomputable def zAG(v0 v1:Int)(v2:List DV):Option CR:=goQ 128 0 (S128_0a v0 v1 v2)
def S128_1a(v0 v1 v2:Int)(v3:List DV):St :=
 zx 23 [(1,(.ptr 1 408 0 [])),(3,(.d (eI v0))),(4,(.d (eI v1))),(5,(.d (eI v2)))] [(1,(.mk false (.dc 408 [(.agg 3 v3)])))]
noncomputable def zBV(v0 v1 v2:Int)(v3:List DV):Option CR:=goQ 128 1 (S128_1a v0 v1 v2 v3)
theorem zFu(v0 v1:Int)(v2:List DV):zAG v0 v1 v2 =
 ifO (decide (v1<(8:Int)))
 ((zBV v0 v1 (0:Int) v2))
 (some (.val (eI v0))) :=
 (zk 128 0 _).trans (by kernel_rfl)
theorem zFt(v0 v1 v2:Int)(v3:List DV):zBV v0 v1 v2 v3 =
 ifO (decide (v2<=(50:Int)))
 (ifO (decide (((0:Int)<=v1)/\(v1<(8:Int))))
 (ifO (decide (((0:Int)<=v2)/\(v2<(51:Int))))
 (ifO (jQ 3 (Int.toNat v1) (.agg 3 v3))
 (ifO (jQ 2 (Int.toNat v2) (nth v3 (Int.toNat v1)))
 (ifO (zH EE 6 3 (nth (flds (nth v3 (Int.toNat v1))) (Int.toNat v2)))
 (ifO (decide ((zC (nth (flds (nth v3 (Int.toNat v1))) (Int.toNat v2)))>(0:Int)))
 ((zBV (IntKind.wrap .i64 (v0+(1:Int))) v1 (IntKind.wrap .i64 (v2+(1:Int))) v3))
 ((zBV v0 v1 (IntKind.wrap .i64 (v2+(1:Int))) v3)))
 (none))
 (none))
 (none))
 (none))
 (none))
 ((zAG v0 (IntKind.wrap .i64 (v1+(1:Int))) v3)) :=
 (zk 128 1 _).trans (by kernel_rfl)
theorem C128(x0:DV):zB 128 [x0] =
 ifO (zS (zH EE 6) [32] [x0])
 ((zAG (0:Int) (0:Int) (flds x0)))
 (none) :=
 (zM (f:=128) (by kernel_rfl) (by kernel_rfl) (by kernel_rfl) [x0]).trans (by kernel_rfl)
theorem C105(x0:DV):zB 105 [x0] =
 ifO (zS (zH EE 6) [29] [x0])
 (some (.val (.bool (decide ((((List.length (elems (nth (flds x0) 0))):Nat):Int)<=(52:Int))))))
 (none) :=
 (zM (f:=105) (by kernel_rfl) (by kernel_rfl) (by kernel_rfl) [x0]).trans (by kernel_rfl)
end Go.Am
namespace Go.Am
open Go.Proofs
open Go
variable[OO]
theorem C34(x0:DV):zB 34 [x0] =
 ifO (zS (zH EE 6) [34] [x0])
 (zI (zB 65 [(.agg 0 [(.str (ze (nth (flds (nth (flds x0) 0)) 0))),(eI (zC (nth (flds (nth (flds x0) 0)) 1))),(.sl 3 (elems (nth (flds (nth (flds x0) 0)) 2)))])])
 (λr0=>ifO (zH EE 6 58 r0)
 (zI (zB 67 [(.agg 0 [(.str (ze (nth (flds (nth (flds x0) 1)) 0))),(.sl 1 (elems (nth (flds (nth (flds x0) 1)) 1))),(.sl 1 (elems (nth (flds (nth (flds x0) 1)) 2)))])])
 (λr1=>ifO (zH EE 6 59 r1)
 (zI (zB 107 [(.agg 1 [(.sl 1 (elems (nth (flds (nth (flds x0) 2)) 0))),(eI (zC (nth (flds (nth (flds x0) 2)) 1)))])])
 (λr2=>ifO (zH EE 6 60 r2)
 (some (.val (.agg 4 [(.agg 0 [(.str (ze (nth (flds r0) 0))),(eI (zC (nth (flds r0) 1))),(.sl 3 (elems (nth (flds r0) 2)))]),(.agg 0 [(.str (ze (nth (flds r1) 0))),(.sl 1 (elems (nth (flds r1) 1))),(.sl 1 (elems (nth (flds r1) 2)))]),(.agg 1 [(.sl 1 (elems (nth (flds r2) 0))),(eI (zC (nth (flds r2) 1)))]),(.agg 3 (flds (nth (flds x0) 3)))])))
 (none))
 (λ_ _=>none))
 (none))
 (λ_ _=>none))
 (none))
 (λ_ _=>none))
 (none) :=
 (zM (f:=34) (by kernel_rfl) (by kernel_rfl) (by kernel_rfl) [x0]).trans (by kernel_rfl)
theorem C56(x0:DV):zB 56 [x0] =
 ifO (zS (zH EE 6) [25] [x0])
 (ifO (decide ((((2 * (0+(List.length (elems x0))))+200) * 8)<=281474976710656))
 (ifO (List.isEmpty (elems x0))
 (some (.val (.sl 1 [])))
 (ifO (decide ((0+(List.length ([]++(elems x0))))<=(List.length ([]++(elems x0)))))
 (some (.val (.sl 1 (List.take (List.length ([]++(elems x0))) (List.drop 0 ([]++(elems x0)))))))
 (none)))
 (none))
 (none) :=
 (zM (f:=56) (by kernel_rfl) (by kernel_rfl) (by kernel_rfl) [x0]).trans (by kernel_rfl)
theorem C67(x0:DV):zB 67 [x0] =
 ifO (zS (zH EE 6) [27] [x0])
 (zI (zB 56 [(.sl 1 (elems (nth (flds x0) 1)))])
 (λr0=>ifO (zH EE 6 25 r0)
 (zI (zB 56 [(.sl 1 (elems (nth (flds x0) 2)))])
 (λr1=>ifO (zH EE 6 25 r1)
 (some (.val (.agg 0 [(.str (ze (nth (flds x0) 0))),(.sl 1 (elems r0)),(.sl 1 (elems r1))])))
 (none))
 (λ_ _=>none))
 (none))
 (λ_ _=>none))
 (none) :=
 (zM (f:=67) (by kernel_rfl) (by kernel_rfl) (by kernel_rfl) [x0]).trans (by kernel_rfl)
theorem C107(x0:DV):zB 107 [x0] =
 ifO (zS (zH EE 6) [29] [x0])
 (zI (zB 56 [(.sl 1 (elems (nth (flds x0) 0)))])
 (λr0=>ifO (zH EE 6 25 r0)
 (some (.val (.agg 1 [(.sl 1 (elems r0)),(eI (zC (nth (flds x0) 1)))])))
 (none))
 (λ_ _=>none))
 (none) :=
 (zM (f:=107) (by kernel_rfl) (by kernel_rfl) (by kernel_rfl) [x0]).trans (by kernel_rfl)
end Go.Am
namespace Go.Am
open Go.Proofs
open Go
variable[OO]
def S75_0a(v0:List DV)(v1 v2:Int)(v3:ByteArray)(v4:List DV):St :=
 zx 103 [(1,(.ptr 1 3 0 [])),(44,(.d (.sl 1 v0))),(45,(.d (eI v1))),(46,(.d (eI v2)))] [(1,(.mk false (.dc 3 [(.agg 0 [(.str v3),(.sl 1 v0),(.sl 1 v4)])])))]
noncomputable def Qj(v0:List DV)(v1 v2:Int)(v3:ByteArray)(v4:List DV):Option CR:=goQ 75 0 (S75_0a v0 v1 v2 v3 v4)
def S75_1a(v0:List DV)(v1 v2:Int)(v3:ByteArray)(v4:List DV):St :=
 zx 103 [(1,(.ptr 1 3 0 [])),(74,(.d (.sl 1 v0))),(75,(.d (eI v1))),(76,(.d (eI v2)))] [(1,(.mk false (.dc 3 [(.agg 0 [(.str v3),(.sl 1 v4),(.sl 1 v0)])])))]
noncomputable def zBS(v0:List DV)(v1 v2:Int)(v3:ByteArray)(v4:List DV):Option CR:=goQ 75 1 (S75_1a v0 v1 v2 v3 v4)
theorem zHU(v0:List DV)(v1 v2:Int)(v3:ByteArray)(v4:List DV):Qj v0 v1 v2 v3 v4 =
 ifO (decide (v2<v1))
 (ifO (decide (((0:Int)<=v2)/\(v2<(((List.length v0):Nat):Int))))
 (ifO (zH EE 6 3 (nth v0 (Int.toNat v2)))
 (zI (zB 149 [(eI (zC (nth v0 (Int.toNat v2)))),(eI 0),(eI 256)])
 (λr33=>ifO (zH EE 6 46 r33)
 (ifO (decide (v2>(0:Int)))
 (ifO (decide (((0:Int)<=(ite ((IntKind.wrap .i64 (v2 - (1:Int)))>(0:Int)) (IntKind.wrap .i64 (v2 - (1:Int))) (0:Int)))/\((ite ((IntKind.wrap .i64 (v2 - (1:Int)))>(0:Int)) (IntKind.wrap .i64 (v2 - (1:Int))) (0:Int))<(((List.length v0):Nat):Int))))
 (ifO (zH EE 6 3 (nth v0 (Int.toNat (ite ((IntKind.wrap .i64 (v2 - (1:Int)))>(0:Int)) (IntKind.wrap .i64 (v2 - (1:Int))) (0:Int)))))
 (zI (zB 169 [(.bool (decide ((zC (nth v0 (Int.toNat v2)))>(zC (nth v0 (Int.toNat (ite ((IntKind.wrap .i64 (v2 - (1:Int)))>(0:Int)) (IntKind.wrap .i64 (v2 - (1:Int))) (0:Int)))))))),(eI 11)])
 (λr34=>ifO (zH EE 6 46 r34)
 (zI (zB 148 [(.sl 1 [(eI (zC r33)),(eI (zC r34))])])
 (λr35=>ifO (zH EE 6 46 r35)
 (ifO (bne (zC r35) 0)
 (some (.val (eI (zC r35))))
 ((Qj v0 v1 (IntKind.wrap .i64 (v2+(1:Int))) v3 v4)))
 (none))
 (λ_ _=>none))
 (none))
 (λ_ _=>none))
 (none))
 (none))
 (zI (zB 169 [(.bool false),(eI 11)])
 (λr40=>ifO (zH EE 6 46 r40)
 (zI (zB 148 [(.sl 1 [(eI (zC r33)),(eI (zC r40))])])
 (λr41=>ifO (zH EE 6 46 r41)
 (ifO (bne (zC r41) 0)
 (some (.val (eI (zC r41))))
 ((Qj v0 v1 (IntKind.wrap .i64 (v2+(1:Int))) v3 v4)))
 (none))
 (λ_ _=>none))
 (none))
 (λ_ _=>none)))
 (none))
 (λ_ _=>none))
 (none))
 (none))
 ((zBS v4 (((List.length v4):Nat):Int) (0:Int) v3 v0)) :=
 (zk 75 0 _).trans (by kernel_rfl)
theorem zHT(v0:List DV)(v1 v2:Int)(v3:ByteArray)(v4:List DV):zBS v0 v1 v2 v3 v4 =
 ifO (decide (v2<v1))
 (ifO (decide (((0:Int)<=v2)/\(v2<(((List.length v0):Nat):Int))))
 (ifO (zH EE 6 3 (nth v0 (Int.toNat v2)))
 (zI (zB 149 [(eI (zC (nth v0 (Int.toNat v2)))),(eI 0),(eI 100)])
 (λr48=>ifO (zH EE 6 46 r48)
 (ifO (decide (v2>(0:Int)))
 (ifO (decide (((0:Int)<=(ite ((IntKind.wrap .i64 (v2 - (1:Int)))>(0:Int)) (IntKind.wrap .i64 (v2 - (1:Int))) (0:Int)))/\((ite ((IntKind.wrap .i64 (v2 - (1:Int)))>(0:Int)) (IntKind.wrap .i64 (v2 - (1:Int))) (0:Int))<(((List.length v0):Nat):Int))))
 (ifO (zH EE 6 3 (nth v0 (Int.toNat (ite ((IntKind.wrap .i64 (v2 - (1:Int)))>(0:Int)) (IntKind.wrap .i64 (v2 - (1:Int))) (0:Int)))))
 (zI (zB 169 [(.bool (decide ((zC (nth v0 (Int.toNat v2)))<(zC (nth v0 (Int.toNat (ite ((IntKind.wrap .i64 (v2 - (1:Int)))>(0:Int)) (IntKind.wrap .i64 (v2 - (1:Int))) (0:Int)))))))),(eI 11)])
 (λr49=>ifO (zH EE 6 46 r49)
 (zI (zB 148 [(.sl 1 [(eI (zC r48)),(eI (zC r49))])])
 (λr50=>ifO (zH EE 6 46 r50)
 (ifO (bne (zC r50) 0)
 (some (.val (eI (zC r50))))
 ((zBS v0 v1 (IntKind.wrap .i64 (v2+(1:Int))) v3 v4)))
 (none))
 (λ_ _=>none))
 (none))
 (λ_ _=>none))
 (none))
 (none))
 (zI (zB 169 [(.bool false),(eI 11)])
 (λr55=>ifO (zH EE 6 46 r55)
 (zI (zB 148 [(.sl 1 [(eI (zC r48)),(eI (zC r55))])])
 (λr56=>ifO (zH EE 6 46 r56)
 (ifO (bne (zC r56) 0)
 (some (.val (eI (zC r56))))
 ((zBS v0 v1 (IntKind.wrap .i64 (v2+(1:Int))) v3 v4)))
 (none))
 (λ_ _=>none))
 (none))
 (λ_ _=>none)))
 (none))
 (λ_ _=>none))
 (none))
 (none))
 (some (.val (eI 0))) :=
 (zk 75 1 _).trans (by kernel_rfl)
theorem C75(x0:DV):zB 75 [x0] =
 ifO (zS (zH EE 6) [59] [x0])
 (zI (zB 198 [])
 (λr0=>ifO (zH EE 6 314 r0)
 (ifO (Option.isSome (ja (.str (ze (nth (flds x0) 0))) (keys r0) (vals r0)))
 (ifO (Option.isSome (Option.getD (ja (.str (ze (nth (flds x0) 0))) (keys r0) (vals r0)) (Option.none)))
 (ifO (zH EE 6 312 (Option.getD (Option.getD (ja (.str (ze (nth (flds x0) 0))) (keys r0) (vals r0)) (Option.none)) .nl))
 (zI (zB 169 [(.bool false),(eI 13)])
 (λr1=>ifO (zH EE 6 46 r1)
 (zI (zB 169 [(.bool ((((List.length (elems (nth (flds x0) 1))):Nat):Int) == (0:Int))),(eI 12)])
 (λr2=>ifO (zH EE 6 46 r2)
 (zI (zB 169 [(.bool (decide ((((List.length (elems (nth (flds x0) 1))):Nat):Int)>(32:Int)))),(eI 5)])
 (λr3=>ifO (zH EE 6 46 r3)
 (zI (zB 169 [(.bool (bne (((List.length (elems (nth (flds x0) 2))):Nat):Int) (((List.length (elems (nth (flds x0) 1))):Nat):Int))),(eI 2)])
 (λr4=>ifO (zH EE 6 46 r4)
 (zI (zB 148 [(.sl 1 [(eI (zC r1)),(eI (zC r2)),(eI (zC r3)),(eI (zC r4))])])
 (λr5=>ifO (zH EE 6 46 r5)
 (ifO (bne (zC r5) 0)
 (some (.val (eI (zC r5))))
 ((Qj (elems (nth (flds x0) 1)) (((List.length (elems (nth (flds x0) 1))):Nat):Int) (0:Int) (ze (nth (flds x0) 0)) (elems (nth (flds x0) 2)))))
 (none))
 (λ_ _=>none))
 (none))
 (λ_ _=>none))
 (none))
 (λ_ _=>none))
 (none))
 (λ_ _=>none))
 (none))
 (λ_ _=>none))
 (none))
 (zI (zB 169 [(.bool true),(eI 13)])
 (λr16=>ifO (zH EE 6 46 r16)
 (zI (zB 169 [(.bool ((((List.length (elems (nth (flds x0) 1))):Nat):Int) == (0:Int))),(eI 12)])
 (λr17=>ifO (zH EE 6 46 r17)
 (zI (zB 169 [(.bool (decide ((((List.length (elems (nth (flds x0) 1))):Nat):Int)>(32:Int)))),(eI 5)])
 (λr18=>ifO (zH EE 6 46 r18)
 (zI (zB 169 [(.bool (bne (((List.length (elems (nth (flds x0) 2))):Nat):Int) (((List.length (elems (nth (flds x0) 1))):Nat):Int))),(eI 2)])
 (λr19=>ifO (zH EE 6 46 r19)
 (zI (zB 148 [(.sl 1 [(eI (zC r16)),(eI (zC r17)),(eI (zC r18)),(eI (zC r19))])])
 (λr20=>ifO (zH EE 6 46 r20)
 (ifO (bne (zC r20) 0)
 (some (.val (eI (zC r20))))
 ((Qj (elems (nth (flds x0) 1)) (((List.length (elems (nth (flds x0) 1))):Nat):Int) (0:Int) (ze (nth (flds x0) 0)) (elems (nth (flds x0) 2)))))
 (none))
 (λ_ _=>none))
 (none))
 (λ_ _=>none))
 (none))
 (λ_ _=>none))
 (none))
 (λ_ _=>none))
 (none))
 (λ_ _=>none)))
 (none))
 (none))
 (λ_ _=>none))
 (none) :=
 (zM (f:=75) (by kernel_rfl) (by kernel_rfl) (by kernel_rfl) [x0]).trans (by kernel_rfl)
theorem C147(x0:DV):zB 147 [x0] =
 ifO (zS (zH EE 6) [3] [x0])
 (zI (zB 149 [(eI (zC x0)),(eI 0),(eI 7)])
 (λr0=>ifO (zH EE 6 46 r0)
 (ifO (bne (zC r0) 0)
 (some (.val (.tup [(.agg 9 [(eI 0),(.agg 1 [(eI 0),(eI 0)])]),(eI (zC r0))])))
 (zI (zB 234 [(eI (zC x0))])
 (λr1=>ifO ((DV.isTup r1) && (zS (zH EE 6) [141,46] (tups r1)))
 (some (.val (.tup [(.agg 9 [(eI (zC x0)),(.agg 1 [(eI (zC (nth (flds (nth (tups r1) 0)) 0))),(eI (zC (nth (flds (nth (tups r1) 0)) 1)))])]),(eI (zC (nth (tups r1) 1)))])))
 (none))
 (λ_ _=>none)))
 (none))
 (λ_ _=>none))
 (none) :=
 (zM (f:=147) (by kernel_rfl) (by kernel_rfl) (by kernel_rfl) [x0]).trans (by kernel_rfl)
theorem C150(x0 x1:DV):zB 150 [x0,x1] =
 ifO (zS (zH EE 6) [60,3] [x0,x1])
 (ifO (decide ((IntKind.wrap .i64 (Int.tdiv (zC x1) (256:Int)))>=(IntKind.wrap .i64 ((((List.length (elems (nth (flds x0) 0))):Nat):Int) - (1:Int)))))
 (ifO (decide (((0:Int)<=(IntKind.wrap .i64 ((((List.length (elems (nth (flds x0) 0))):Nat):Int) - (1:Int))))/\((IntKind.wrap .i64 ((((List.length (elems (nth (flds x0) 0))):Nat):Int) - (1:Int)))<(((List.length (elems (nth (flds x0) 0))):Nat):Int))))
 (ifO (zH EE 6 3 (nth (elems (nth (flds x0) 0)) (Int.toNat (IntKind.wrap .i64 ((((List.length (elems (nth (flds x0) 0))):Nat):Int) - (1:Int))))))
 (some (.val (eI (IntKind.wrap .i64 ((256:Int) * (zC (nth (elems (nth (flds x0) 0)) (Int.toNat (IntKind.wrap .i64 ((((List.length (elems (nth (flds x0) 0))):Nat):Int) - (1:Int)))))))))))
 (none))
 (none))
 (ifO (decide (((0:Int)<=(IntKind.wrap .i64 (Int.tdiv (zC x1) (256:Int))))/\((IntKind.wrap .i64 (Int.tdiv (zC x1) (256:Int)))<(((List.length (elems (nth (flds x0) 0))):Nat):Int))))
 (ifO (zH EE 6 3 (nth (elems (nth (flds x0) 0)) (Int.toNat (IntKind.wrap .i64 (Int.tdiv (zC x1) (256:Int))))))
 (ifO (decide (((0:Int)<=(IntKind.wrap .i64 ((IntKind.wrap .i64 (Int.tdiv (zC x1) (256:Int)))+(1:Int))))/\((IntKind.wrap .i64 ((IntKind.wrap .i64 (Int.tdiv (zC x1) (256:Int)))+(1:Int)))<(((List.length (elems (nth (flds x0) 0))):Nat):Int))))
 (ifO (zH EE 6 3 (nth (elems (nth (flds x0) 0)) (Int.toNat (IntKind.wrap .i64 ((IntKind.wrap .i64 (Int.tdiv (zC x1) (256:Int)))+(1:Int))))))
 (ifO (decide (((0:Int)<=(IntKind.wrap .i64 (Int.tdiv (zC x1) (256:Int))))/\((IntKind.wrap .i64 (Int.tdiv (zC x1) (256:Int)))<(((List.length (elems (nth (flds x0) 0))):Nat):Int))))
 (ifO (zH EE 6 3 (nth (elems (nth (flds x0) 0)) (Int.toNat (IntKind.wrap .i64 (Int.tdiv (zC x1) (256:Int))))))
 (some (.val (eI (IntKind.wrap .i64 ((IntKind.wrap .i64 ((256:Int) * (zC (nth (elems (nth (flds x0) 0)) (Int.toNat (IntKind.wrap .i64 (Int.tdiv (zC x1) (256:Int))))))))+(IntKind.wrap .i64 ((IntKind.wrap .i64 ((zC (nth (elems (nth (flds x0) 0)) (Int.toNat (IntKind.wrap .i64 ((IntKind.wrap .i64 (Int.tdiv (zC x1) (256:Int)))+(1:Int)))))) - (zC (nth (elems (nth (flds x0) 0)) (Int.toNat (IntKind.wrap .i64 (Int.tdiv (zC x1) (256:Int)))))))) * (Int.tmod (zC x1) (256:Int)))))))))
 (none))
 (none))
 (none))
 (none))
 (none))
 (none)))
 (none) :=
 (zM (f:=150) (by kernel_rfl) (by kernel_rfl) (by kernel_rfl) [x0,x1]).trans (by kernel_rfl)
def S151_0a(v0:Nat)(v1 v2 v3:List DV)(v4:Int):St :=
 zx 22 [(1,(.d (.fn v0 v1 v2))),(5,(.d .nl)),(8,(.d (.sl 1 v3))),(9,(.d (eI v4))),(10,(.d (eI 0)))] []
noncomputable def L151_0a(v0:Nat)(v1 v2 v3:List DV)(v4:Int):Option CR:=goQ 151 0 (S151_0a v0 v1 v2 v3 v4)
def S151_0b(v0:Nat)(v1 v2 v3 v4:List DV)(v5 v6:Int):St :=
 zx 22 [(1,(.d (.fn v0 v1 v2))),(5,(.own 19 0 (List.length v3) 1)),(8,(.d (.sl 1 v4))),(9,(.d (eI v5))),(10,(.d (eI v6)))] [(19,(.mk false (.dc 1 v3)))]
noncomputable def zFi(v0:Nat)(v1 v2 v3 v4:List DV)(v5 v6:Int):Option CR:=goQ 151 0 (S151_0b v0 v1 v2 v3 v4 v5 v6)
theorem L151_0a_eq(v0:Nat)(v1 v2 v3:List DV)(v4:Int):L151_0a v0 v1 v2 v3 v4 =
 ifO (decide ((0:Int)<v4))
 (ifO (decide (((0:Int)<=(0:Int))/\((0:Int)<(((List.length v3):Nat):Int))))
 (ifO (zH EE 6 3 (nth v3 0))
 (zI (zB v0 (zu EE v0 ((v1++[(eI (zC (nth v3 0)))])++v2)))
 (λr0=>ifO (zH EE 6 3 r0)
 ((zFi v0 v1 v2 [(eI (zC r0))] v3 v4 (1:Int)))
 (none))
 (λ_ _=>none))
 (none))
 (none))
 (some (.val (.sl 1 []))) :=
 (zk 151 0 _).trans (by kernel_rfl)
theorem zFh(v0:Nat)(v1 v2 v3 v4:List DV)(v5 v6:Int):zFi v0 v1 v2 v3 v4 v5 v6 =
 ifO (decide (v6<v5))
 (ifO (decide (((0:Int)<=v6)/\(v6<(((List.length v4):Nat):Int))))
 (ifO (zH EE 6 3 (nth v4 (Int.toNat v6)))
 (zI (zB v0 (zu EE v0 ((v1++[(eI (zC (nth v4 (Int.toNat v6))))])++v2)))
 (λr3=>ifO (zH EE 6 3 r3)
 (ifO (decide ((List.length v3)=(List.length v3)))
 (ifO (decide ((((2 * ((List.length v3)+1))+200) * 8)<=281474976710656))
 ((zFi v0 v1 v2 (v3++[(eI (zC r3))]) v4 v5 (IntKind.wrap .i64 (v6+(1:Int)))))
 (none))
 (none))
 (none))
 (λ_ _=>none))
 (none))
 (none))
 (ifO (decide ((0+(List.length v3))<=(List.length v3)))
 (some (.val (.sl 1 (List.take (List.length v3) (List.drop 0 v3)))))
 (none)) :=
 (zk 151 0 _).trans (by kernel_rfl)
theorem C151(x0 x1:DV):zB 151 [x0,x1] =
 ifO (zS (zH EE 6) [25,74] [x0,x1])
 ((L151_0a (zEv x1) (fnA x1) (fnC x1) (elems x0) (((List.length (elems x0)):Nat):Int)))
 (none) :=
 (zM (f:=151) (by kernel_rfl) (by kernel_rfl) (by kernel_rfl) [x0,x1]).trans (by kernel_rfl)
theorem C152(x0 x1:DV):zB 152 [x0,x1] =
 ifO (zS (zH EE 6) [25,3] [x0,x1])
 (zI (zB 151 [(.sl 1 (elems x0)),(.fn 235 [] [(.dp (eI (zC x1)))])])
 (λr0=>ifO (zH EE 6 25 r0)
 (some (.val (.sl 1 (elems r0))))
 (none))
 (λ_ _=>none))
 (none) :=
 (zM (f:=152) (by kernel_rfl) (by kernel_rfl) (by kernel_rfl) [x0,x1]).trans (by kernel_rfl)
theorem C153(x0 x1 x2:DV):zB 153 [x0,x1,x2] =
 ifO (zS (zH EE 6) [59,81,251] [x0,x1,x2])
 (zI (zB 198 [])
 (λr0=>ifO (zH EE 6 314 r0)
 (ifO (Option.isSome (ja (.str (ze (nth (flds x0) 0))) (keys r0) (vals r0)))
 (ifO (Option.isSome (Option.getD (ja (.str (ze (nth (flds x0) 0))) (keys r0) (vals r0)) (Option.none)))
 (ifO (zH EE 6 312 (Option.getD (Option.getD (ja (.str (ze (nth (flds x0) 0))) (keys r0) (vals r0)) (Option.none)) .nl))
 (zI (zB 200 [(.agg 0 [(.str (ze (nth (flds x0) 0))),(.sl 1 (elems (nth (flds x0) 1))),(.sl 1 (elems (nth (flds x0) 2)))]),(.sl 2 (elems x1)),(.agg 9 [(eI (zC (nth (flds x2) 0))),(.agg 1 [(eI (zC (nth (flds (nth (flds x2) 1)) 0))),(eI (zC (nth (flds (nth (flds x2) 1)) 1)))])])])
 (λr1=>ifO (zH EE 6 95 r1)
 (zI (zB 236 [(.sl 1 (List.map (cnE EE 25) (elems r1))),(.fn 237 [] [(.dp (.fn (zEv (nth (flds (Option.getD (Option.getD (ja (.str (ze (nth (flds x0) 0))) (keys r0) (vals r0)) (Option.none)) .nl)) 0)) (fnA (nth (flds (Option.getD (Option.getD (ja (.str (ze (nth (flds x0) 0))) (keys r0) (vals r0)) (Option.none)) .nl)) 0)) (fnC (nth (flds (Option.getD (Option.getD (ja (.str (ze (nth (flds x0) 0))) (keys r0) (vals r0)) (Option.none)) .nl)) 0))))])])
 (λr2=>ifO (zH EE 6 25 r2)
 (some (.val (.sl 1 (elems r2))))
 (none))
 (λ_ _=>none))
 (none))
 (λ_ _=>none))
 (none))
 (zI (zB 200 [(.agg 0 [(.str (ze (nth (flds x0) 0))),(.sl 1 (elems (nth (flds x0) 1))),(.sl 1 (elems (nth (flds x0) 2)))]),(.sl 2 (elems x1)),(.agg 9 [(eI (zC (nth (flds x2) 0))),(.agg 1 [(eI (zC (nth (flds (nth (flds x2) 1)) 0))),(eI (zC (nth (flds (nth (flds x2) 1)) 1)))])])])
 (λr7=>ifO (zH EE 6 95 r7)
 (zI (zB 236 [(.sl 1 (List.map (cnE EE 25) (elems r7))),(.fn 237 [] [(.dp .nilFn)])])
 (λr8=>ifO (zH EE 6 25 r8)
 (some (.val (.sl 1 (elems r8))))
 (none))
 (λ_ _=>none))
 (none))
 (λ_ _=>none)))
 (none))
 (none))
 (λ_ _=>none))
 (none) :=
 (zM (f:=153) (by kernel_rfl) (by kernel_rfl) (by kernel_rfl) [x0,x1,x2]).trans (by kernel_rfl)
theorem C185(x0 x1 x2:DV):zB 185 [x0,x1,x2] =
 ifO (zS (zH EE 6) [251,141,141] [x0,x1,x2])
 (zI (zB 187 [(.agg 9 [(eI (zC (nth (flds x0) 0))),(.agg 1 [(eI (zC (nth (flds (nth (flds x0) 1)) 0))),(eI (zC (nth (flds (nth (flds x0) 1)) 1)))])]),(.agg 1 [(eI (IntKind.wrap .i64 ((zC (nth (flds x2) 0)) - (zC (nth (flds x1) 0))))),(eI (IntKind.wrap .i64 ((zC (nth (flds x2) 1)) - (zC (nth (flds x1) 1)))))])])
 (λr0=>ifO (zH EE 6 3 r0)
 (ifO ((Int.tmod (zC (nth (flds x0) 0)) (2:Int)) == (1:Int))
 (some (.val (.tup [(eI (Int.fdiv (zC r0) (2:Int))),(eI (ite ((IntKind.wrap .i64 ((0:Int) - (IntKind.wrap .i64 ((IntKind.wrap .i64 ((IntKind.wrap .i64 ((zC (nth (flds x2) 0)) - (zC (nth (flds x1) 0)))) * (zC (nth (flds (nth (flds x0) 1)) 1)))) - (IntKind.wrap .i64 ((IntKind.wrap .i64 ((zC (nth (flds x2) 1)) - (zC (nth (flds x1) 1)))) * (zC (nth (flds (nth (flds x0) 1)) 0))))))))>(IntKind.wrap .i64 ((IntKind.wrap .i64 ((IntKind.wrap .i64 ((zC (nth (flds x2) 0)) - (zC (nth (flds x1) 0)))) * (zC (nth (flds (nth (flds x0) 1)) 1)))) - (IntKind.wrap .i64 ((IntKind.wrap .i64 ((zC (nth (flds x2) 1)) - (zC (nth (flds x1) 1)))) * (zC (nth (flds (nth (flds x0) 1)) 0))))))) (IntKind.wrap .i64 ((0:Int) - (IntKind.wrap .i64 ((IntKind.wrap .i64 ((IntKind.wrap .i64 ((zC (nth (flds x2) 0)) - (zC (nth (flds x1) 0)))) * (zC (nth (flds (nth (flds x0) 1)) 1)))) - (IntKind.wrap .i64 ((IntKind.wrap .i64 ((zC (nth (flds x2) 1)) - (zC (nth (flds x1) 1)))) * (zC (nth (flds (nth (flds x0) 1)) 0)))))))) (IntKind.wrap .i64 ((IntKind.wrap .i64 ((IntKind.wrap .i64 ((zC (nth (flds x2) 0)) - (zC (nth (flds x1) 0)))) * (zC (nth (flds (nth (flds x0) 1)) 1)))) - (IntKind.wrap .i64 ((IntKind.wrap .i64 ((zC (nth (flds x2) 1)) - (zC (nth (flds x1) 1)))) * (zC (nth (flds (nth (flds x0) 1)) 0))))))))])))
 (some (.val (.tup [(eI (zC r0)),(eI (ite ((IntKind.wrap .i64 ((0:Int) - (IntKind.wrap .i64 ((IntKind.wrap .i64 ((IntKind.wrap .i64 ((zC (nth (flds x2) 0)) - (zC (nth (flds x1) 0)))) * (zC (nth (flds (nth (flds x0) 1)) 1)))) - (IntKind.wrap .i64 ((IntKind.wrap .i64 ((zC (nth (flds x2) 1)) - (zC (nth (flds x1) 1)))) * (zC (nth (flds (nth (flds x0) 1)) 0))))))))>(IntKind.wrap .i64 ((IntKind.wrap .i64 ((IntKind.wrap .i64 ((zC (nth (flds x2) 0)) - (zC (nth (flds x1) 0)))) * (zC (nth (flds (nth (flds x0) 1)) 1)))) - (IntKind.wrap .i64 ((IntKind.wrap .i64 ((zC (nth (flds x2) 1)) - (zC (nth (flds x1) 1)))) * (zC (nth (flds (nth (flds x0) 1)) 0))))))) (IntKind.wrap .i64 ((0:Int) - (IntKind.wrap .i64 ((IntKind.wrap .i64 ((IntKind.wrap .i64 ((zC (nth (flds x2) 0)) - (zC (nth (flds x1) 0)))) * (zC (nth (flds (nth (flds x0) 1)) 1)))) - (IntKind.wrap .i64 ((IntKind.wrap .i64 ((zC (nth (flds x2) 1)) - (zC (nth (flds x1) 1)))) * (zC (nth (flds (nth (flds x0) 1)) 0)))))))) (IntKind.wrap .i64 ((IntKind.wrap .i64 ((IntKind.wrap .i64 ((zC (nth (flds x2) 0)) - (zC (nth (flds x1) 0)))) * (zC (nth (flds (nth (flds x0) 1)) 1)))) - (IntKind.wrap .i64 ((IntKind.wrap .i64 ((zC (nth (flds x2) 1)) - (zC (nth (flds x1) 1)))) * (zC (nth (flds (nth (flds x0) 1)) 0))))))))]))))
 (none))
 (λ_ _=>none))
 (none) :=
 (zM (f:=185) (by kernel_rfl) (by kernel_rfl) (by kernel_rfl) [x0,x1,x2]).trans (by kernel_rfl)
theorem C186(x0 x1 x2:DV):zB 186 [x0,x1,x2] =
 ifO (zS (zH EE 6) [59,3,3] [x0,x1,x2])
 (ifO (decide ((zC x1)<(1:Int)))
 (some (.val (eI 0)))
 (ifO (decide ((zC x1)>(((List.length (elems (nth (flds x0) 1))):Nat):Int)))
 (some (.val (eI 0)))
 (ifO (decide (((0:Int)<=(IntKind.wrap .i64 ((zC x1) - (1:Int))))/\((IntKind.wrap .i64 ((zC x1) - (1:Int)))<(((List.length (elems (nth (flds x0) 2))):Nat):Int))))
 (ifO (zH EE 6 3 (nth (elems (nth (flds x0) 2)) (Int.toNat (IntKind.wrap .i64 ((zC x1) - (1:Int))))))
 (ifO (decide ((zC x2)>(zC (nth (elems (nth (flds x0) 2)) (Int.toNat (IntKind.wrap .i64 ((zC x1) - (1:Int))))))))
 (some (.val (eI 0)))
 (ifO (decide (((0:Int)<=(IntKind.wrap .i64 ((zC x1) - (1:Int))))/\((IntKind.wrap .i64 ((zC x1) - (1:Int)))<(((List.length (elems (nth (flds x0) 1))):Nat):Int))))
 (ifO (zH EE 6 3 (nth (elems (nth (flds x0) 1)) (Int.toNat (IntKind.wrap .i64 ((zC x1) - (1:Int))))))
 (some (.val (eI (zC (nth (elems (nth (flds x0) 1)) (Int.toNat (IntKind.wrap .i64 ((zC x1) - (1:Int)))))))))
 (none))
 (none)))
 (none))
 (none))))
 (none) :=
 (zM (f:=186) (by kernel_rfl) (by kernel_rfl) (by kernel_rfl) [x0,x1,x2]).trans (by kernel_rfl)
theorem C187(x0 x1:DV):zB 187 [x0,x1] =
 ifO (zS (zH EE 6) [251,141] [x0,x1])
 (some (.val (eI (IntKind.wrap .i64 ((IntKind.wrap .i64 ((zC (nth (flds x1) 0)) * (zC (nth (flds (nth (flds x0) 1)) 0))))+(IntKind.wrap .i64 ((zC (nth (flds x1) 1)) * (zC (nth (flds (nth (flds x0) 1)) 1)))))))))
 (none) :=
 (zM (f:=187) (by kernel_rfl) (by kernel_rfl) (by kernel_rfl) [x0,x1]).trans (by kernel_rfl)
theorem C198:zB 198 [] =
 some (.val (.mp [(.str (bs [103,114,101,97,116,101,115,116])),(.str (bs [115,113,117,97,114,101,115])),(.str (bs [115,117,109]))] [(.agg 12 [(.fn 262 [] [])]),(.agg 12 [(.fn 264 [] [])]),(.agg 12 [(.fn 231 [] [])])])) :=
 (zM (f:=198) (by kernel_rfl) (by kernel_rfl) (by kernel_rfl) []).trans (by kernel_rfl)
theorem C199(x0 x1 x2:DV):zB 199 [x0,x1,x2] =
 ifO (zS (zH EE 6) [58,59,3] [x0,x1,x2])
 (zI (zB 158 [(.agg 0 [(.str (ze (nth (flds x0) 0))),(eI (zC (nth (flds x0) 1))),(.sl 3 (elems (nth (flds x0) 2)))])])
 (λr0=>ifO (zH EE 6 46 r0)
 (zI (zB 75 [(.agg 0 [(.str (ze (nth (flds x1) 0))),(.sl 1 (elems (nth (flds x1) 1))),(.sl 1 (elems (nth (flds x1) 2)))])])
 (λr1=>ifO (zH EE 6 46 r1)
 (zI (zB 148 [(.sl 1 [(eI (zC r0)),(eI (zC r1))])])
 (λr2=>ifO (zH EE 6 46 r2)
 (ifO (bne (zC r2) 0)
 (some (.val (.tup [(.agg 9 [(eI 0),(.agg 1 [(eI 0),(eI 0)])]),(eI (zC r2))])))
 (zI (zB 147 [(eI (zC x2))])
 (λr3=>ifO ((DV.isTup r3) && (zS (zH EE 6) [251,46] (tups r3)))
 (some (.val (.tup [(.agg 9 [(eI (zC (nth (flds (nth (tups r3) 0)) 0))),(.agg 1 [(eI (zC (nth (flds (nth (flds (nth (tups r3) 0)) 1)) 0))),(eI (zC (nth (flds (nth (flds (nth (tups r3) 0)) 1)) 1)))])]),(eI (zC (nth (tups r3) 1)))])))
 (none))
 (λ_ _=>none)))
 (none))
 (λ_ _=>none))
 (none))
 (λ_ _=>none))
 (none))
 (λ_ _=>none))
 (none) :=
 (zM (f:=199) (by kernel_rfl) (by kernel_rfl) (by kernel_rfl) [x0,x1,x2]).trans (by kernel_rfl)
def S232_0a(v0:Nat)(v1 v2 v3:List DV)(v4:Int):St :=
 zx 22 [(1,(.d (.fn v0 v1 v2))),(5,(.d .nl)),(8,(.d (.sl 3 v3))),(9,(.d (eI v4))),(10,(.d (eI 0)))] []
noncomputable def L232_0a(v0:Nat)(v1 v2 v3:List DV)(v4:Int):Option CR:=goQ 232 0 (S232_0a v0 v1 v2 v3 v4)
def S232_0b(v0:Nat)(v1 v2 v3 v4:List DV)(v5 v6:Int):St :=
 zx 22 [(1,(.d (.fn v0 v1 v2))),(5,(.own 19 0 (List.length v3) 2)),(8,(.d (.sl 3 v4))),(9,(.d (eI v5))),(10,(.d (eI v6)))] [(19,(.mk false (.dc 2 v3)))]
noncomputable def zFL(v0:Nat)(v1 v2 v3 v4:List DV)(v5 v6:Int):Option CR:=goQ 232 0 (S232_0b v0 v1 v2 v3 v4 v5 v6)
theorem L232_0a_eq(v0:Nat)(v1 v2 v3:List DV)(v4:Int):L232_0a v0 v1 v2 v3 v4 =
 ifO (decide ((0:Int)<v4))
 (ifO (decide (((0:Int)<=(0:Int))/\((0:Int)<(((List.length v3):Nat):Int))))
 (ifO (zH EE 6 176 (nth v3 0))
 (zI (zB v0 (zu EE v0 ((v1++[(.agg 9 [(.str (ze (nth (flds (nth v3 0)) 0))),(.agg 1 [(eI (zC (nth (flds (nth (flds (nth v3 0)) 1)) 0))),(eI (zC (nth (flds (nth (flds (nth v3 0)) 1)) 1)))])])])++v2)))
 (λr0=>ifO (zH EE 6 141 r0)
 ((zFL v0 v1 v2 [(.agg 1 [(eI (zC (nth (flds r0) 0))),(eI (zC (nth (flds r0) 1)))])] v3 v4 (1:Int)))
 (none))
 (λ_ _=>none))
 (none))
 (none))
 (some (.val (.sl 2 []))) :=
 (zk 232 0 _).trans (by kernel_rfl)
theorem zFK(v0:Nat)(v1 v2 v3 v4:List DV)(v5 v6:Int):zFL v0 v1 v2 v3 v4 v5 v6 =
 ifO (decide (v6<v5))
 (ifO (decide (((0:Int)<=v6)/\(v6<(((List.length v4):Nat):Int))))
 (ifO (zH EE 6 176 (nth v4 (Int.toNat v6)))
 (zI (zB v0 (zu EE v0 ((v1++[(.agg 9 [(.str (ze (nth (flds (nth v4 (Int.toNat v6))) 0))),(.agg 1 [(eI (zC (nth (flds (nth (flds (nth v4 (Int.toNat v6))) 1)) 0))),(eI (zC (nth (flds (nth (flds (nth v4 (Int.toNat v6))) 1)) 1)))])])])++v2)))
 (λr3=>ifO (zH EE 6 141 r3)
 (ifO (decide ((List.length v3)=(List.length v3)))
 (ifO (decide ((((2 * ((List.length v3)+1))+200) * 16)<=281474976710656))
 ((zFL v0 v1 v2 (v3++[(.agg 1 [(eI (zC (nth (flds r3) 0))),(eI (zC (nth (flds r3) 1)))])]) v4 v5 (IntKind.wrap .i64 (v6+(1:Int)))))
 (none))
 (none))
 (none))
 (λ_ _=>none))
 (none))
 (none))
 (ifO (decide ((0+(List.length v3))<=(List.length v3)))
 (some (.val (.sl 2 (List.take (List.length v3) (List.drop 0 v3)))))
 (none)) :=
 (zk 232 0 _).trans (by kernel_rfl)
theorem C232(x0 x1:DV):zB 232 [x0,x1] =
 ifO (zS (zH EE 6) [56,349] [x0,x1])
 ((L232_0a (zEv x1) (fnA x1) (fnC x1) (elems x0) (((List.length (elems x0)):Nat):Int)))
 (none) :=
 (zM (f:=232) (by kernel_rfl) (by kernel_rfl) (by kernel_rfl) [x0,x1]).trans (by kernel_rfl)
theorem C233(x0:DV):zB 233 [x0] =
 ifO (zS (zH EE 6) [176] [x0])
 (some (.val (.agg 1 [(eI (zC (nth (flds (nth (flds x0) 1)) 0))),(eI (zC (nth (flds (nth (flds x0) 1)) 1)))])))
 (none) :=
 (zM (f:=233) (by kernel_rfl) (by kernel_rfl) (by kernel_rfl) [x0]).trans (by kernel_rfl)
theorem C235(x0 x1:DV):zB 235 [x0,x1] =
 ifO (((zS (zH EE 6) [3] [x0]) && true) && (List.all [x1] zIC))
 (ifO (zH EE 6 3 (undp x1))
 (some (.val (eI (IntKind.wrap .i64 ((zC (undp x1)) * (IntKind.wrap .i64 ((256:Int) - (zC x0))))))))
 (none))
 (none) :=
 (zM (f:=235) (by kernel_rfl) (by kernel_rfl) (by kernel_rfl) [x0,x1]).trans (by kernel_rfl)
def S236_0a(v0:Nat)(v1 v2 v3:List DV)(v4:Int):St :=
 zx 22 [(1,(.d (.fn v0 v1 v2))),(5,(.d .nl)),(8,(.d (.sl 1 v3))),(9,(.d (eI v4))),(10,(.d (eI 0)))] []
noncomputable def L236_0a(v0:Nat)(v1 v2 v3:List DV)(v4:Int):Option CR:=goQ 236 0 (S236_0a v0 v1 v2 v3 v4)
def S236_0b(v0:Nat)(v1 v2 v3 v4:List DV)(v5 v6:Int):St :=
 zx 22 [(1,(.d (.fn v0 v1 v2))),(5,(.own 19 0 (List.length v3) 1)),(8,(.d (.sl 1 v4))),(9,(.d (eI v5))),(10,(.d (eI v6)))] [(19,(.mk false (.dc 1 v3)))]
noncomputable def zFJ(v0:Nat)(v1 v2 v3 v4:List DV)(v5 v6:Int):Option CR:=goQ 236 0 (S236_0b v0 v1 v2 v3 v4 v5 v6)
theorem L236_0a_eq(v0:Nat)(v1 v2 v3:List DV)(v4:Int):L236_0a v0 v1 v2 v3 v4 =
 ifO (decide ((0:Int)<v4))
 (ifO (decide (((0:Int)<=(0:Int))/\((0:Int)<(((List.length v3):Nat):Int))))
 (ifO (zH EE 6 25 (nth v3 0))
 (zI (zB v0 (zu EE v0 ((v1++[(.sl 1 (elems (nth v3 0)))])++v2)))
 (λr0=>ifO (zH EE 6 3 r0)
 ((zFJ v0 v1 v2 [(eI (zC r0))] v3 v4 (1:Int)))
 (none))
 (λ_ _=>none))
 (none))
 (none))
 (some (.val (.sl 1 []))) :=
 (zk 236 0 _).trans (by kernel_rfl)
theorem zFI(v0:Nat)(v1 v2 v3 v4:List DV)(v5 v6:Int):zFJ v0 v1 v2 v3 v4 v5 v6 =
 ifO (decide (v6<v5))
 (ifO (decide (((0:Int)<=v6)/\(v6<(((List.length v4):Nat):Int))))
 (ifO (zH EE 6 25 (nth v4 (Int.toNat v6)))
 (zI (zB v0 (zu EE v0 ((v1++[(.sl 1 (elems (nth v4 (Int.toNat v6))))])++v2)))
 (λr3=>ifO (zH EE 6 3 r3)
 (ifO (decide ((List.length v3)=(List.length v3)))
 (ifO (decide ((((2 * ((List.length v3)+1))+200) * 8)<=281474976710656))
 ((zFJ v0 v1 v2 (v3++[(eI (zC r3))]) v4 v5 (IntKind.wrap .i64 (v6+(1:Int)))))
 (none))
 (none))
 (none))
 (λ_ _=>none))
 (none))
 (none))
 (ifO (decide ((0+(List.length v3))<=(List.length v3)))
 (some (.val (.sl 1 (List.take (List.length v3) (List.drop 0 v3)))))
 (none)) :=
 (zk 236 0 _).trans (by kernel_rfl)
theorem C236(x0 x1:DV):zB 236 [x0,x1] =
 ifO (zS (zH EE 6) [95,73] [x0,x1])
 ((L236_0a (zEv x1) (fnA x1) (fnC x1) (elems x0) (((List.length (elems x0)):Nat):Int)))
 (none) :=
 (zM (f:=236) (by kernel_rfl) (by kernel_rfl) (by kernel_rfl) [x0,x1]).trans (by kernel_rfl)
theorem C237(x0 x1:DV):zB 237 [x0,x1] =
 ifO (((zS (zH EE 6) [25] [x0]) && true) && (List.all [x1] zIC))
 (ifO (zH EE 6 73 (undp x1))
 (zI (zB (zEv (undp x1)) (zu EE (zEv (undp x1)) (((fnA (undp x1))++[(.sl 1 (elems x0))])++(fnC (undp x1)))))
 (λr0=>ifO (zH EE 6 3 r0)
 (some (.val (eI (ite ((zC r0)<(256:Int)) (zC r0) (256:Int)))))
 (none))
 (λ_ _=>none))
 (none))
 (none) :=
 (zM (f:=237) (by kernel_rfl) (by kernel_rfl) (by kernel_rfl) [x0,x1]).trans (by kernel_rfl)
theorem C262(x0:DV):zB 262 [x0] =
 ifO (zS (zH EE 6) [25] [x0])
 (ifO (decide ((((2 * (1+(List.length (elems x0))))+200) * 8)<=281474976710656))
 (ifO (decide ((0+(List.length ([(eI 0)]++(elems x0))))<=(List.length ([(eI 0)]++(elems x0)))))
 (zI (zB 263 [(.sl 1 (List.take (List.length ([(eI 0)]++(elems x0))) (List.drop 0 ([(eI 0)]++(elems x0)))))])
 (λr0=>ifO (zH EE 6 3 r0)
 (some (.val (eI (zC r0))))
 (none))
 (λ_ _=>none))
 (none))
 (none))
 (none) :=
 (zM (f:=262) (by kernel_rfl) (by kernel_rfl) (by kernel_rfl) [x0]).trans (by kernel_rfl)
def S263_0a(v0:List DV)(v1 v2:Int):St :=
 zx 25 [(0,(.d (.sl 1 v0))),(3,(.d (eI v1))),(4,(.d (eI v2)))] []
noncomputable def zCv(v0:List DV)(v1 v2:Int):Option CR:=goQ 263 0 (S263_0a v0 v1 v2)
theorem zFG(v0:List DV)(v1 v2:Int):zCv v0 v1 v2 =
 ifO (decide (v2<(((List.length v0):Nat):Int)))
 (ifO (decide (((0:Int)<=v2)/\(v2<(((List.length v0):Nat):Int))))
 (ifO (zH EE 6 3 (nth v0 (Int.toNat v2)))
 ((zCv v0 (ite ((zC (nth v0 (Int.toNat v2)))>v1) (zC (nth v0 (Int.toNat v2))) v1) (IntKind.wrap .i64 (v2+(1:Int)))))
 (none))
 (none))
 (some (.val (eI v1))) :=
 (zk 263 0 _).trans (by kernel_rfl)
theorem C263(x0:DV):zB 263 [x0] =
 ifO (zS (zH EE 6) [25] [x0])
 (ifO (decide ((((List.length (elems x0)):Nat):Int)<(1:Int)))
 (none)
 (ifO (decide (((0:Int)<=(0:Int))/\((0:Int)<(((List.length (elems x0)):Nat):Int))))
 (ifO (zH EE 6 3 (nth (elems x0) 0))
 ((zCv (elems x0) (zC (nth (elems x0) 0)) (1:Int)))
 (none))
 (none)))
 (none) :=
 (zM (f:=263) (by kernel_rfl) (by kernel_rfl) (by kernel_rfl) [x0]).trans (by kernel_rfl)
theorem C264(x0:DV):zB 264 [x0] =
 ifO (zS (zH EE 6) [25] [x0])
 (zI (zB 151 [(.sl 1 (elems x0)),(.fn 266 [] [])])
 (λr0=>ifO (zH EE 6 25 r0)
 (zI (zB 231 [(.sl 1 (elems r0))])
 (λr1=>ifO (zH EE 6 3 r1)
 (zI (zB 265 [(eI (zC r1))])
 (λr2=>ifO (zH EE 6 3 r2)
 (some (.val (eI (zC r2))))
 (none))
 (λ_ _=>none))
 (none))
 (λ_ _=>none))
 (none))
 (λ_ _=>none))
 (none) :=
 (zM (f:=264) (by kernel_rfl) (by kernel_rfl) (by kernel_rfl) [x0]).trans (by kernel_rfl)
def S265_0a(v0 v1 v2:Int):St :=
 zx 22 [(0,(.d (eI v0))),(3,(.d (eI v1))),(4,(.d (eI v2)))] []
noncomputable def zCu(v0 v1 v2:Int):Option CR:=goQ 265 0 (S265_0a v0 v1 v2)
theorem L265_0a_eq(v0 v1 v2:Int):zCu v0 v1 v2 =
 ifO (decide ((IntKind.wrap .i64 (v2 - v1))>(1:Int)))
 (ifO (decide ((IntKind.wrap .i64 ((IntKind.wrap .i64 (Int.tdiv (IntKind.wrap .i64 (v1+v2)) (2:Int))) * (IntKind.wrap .i64 (Int.tdiv (IntKind.wrap .i64 (v1+v2)) (2:Int)))))<=v0))
 ((zCu v0 (IntKind.wrap .i64 (Int.tdiv (IntKind.wrap .i64 (v1+v2)) (2:Int))) v2))
 ((zCu v0 v1 (IntKind.wrap .i64 (Int.tdiv (IntKind.wrap .i64 (v1+v2)) (2:Int))))))
 (some (.val (eI v1))) :=
 (zk 265 0 _).trans (by kernel_rfl)
theorem C265(x0:DV):zB 265 [x0] =
 ifO (zS (zH EE 6) [3] [x0])
 ((zCu (zC x0) (0:Int) (65536:Int)))
 (none) :=
 (zM (f:=265) (by kernel_rfl) (by kernel_rfl) (by kernel_rfl) [x0]).trans (by kernel_rfl)
theorem C266(x0:DV):zB 266 [x0] =
 ifO (zS (zH EE 6) [3] [x0])
 (some (.val (eI (IntKind.wrap .i64 ((zC x0) * (zC x0))))))
 (none) :=
 (zM (f:=266) (by kernel_rfl) (by kernel_rfl) (by kernel_rfl) [x0]).trans (by kernel_rfl)
theorem C146(x0:DV):zB 146 [x0] =
 ifO (zS (zH EE 6) [58] [x0])
 (zI (zB 232 [(.sl 3 (elems (nth (flds x0) 2))),(.fn 233 [] [])])
 (λr0=>ifO (zH EE 6 81 r0)
 (some (.val (.sl 2 (elems r0))))
 (none))
 (λ_ _=>none))
 (none) :=
 (zM (f:=146) (by kernel_rfl) (by kernel_rfl) (by kernel_rfl) [x0]).trans (by kernel_rfl)
theorem C144(x0:DV):zB 144 [x0] =
 ifO (zS (zH EE 6) [62] [x0])
 (some (.val (.agg 13 [(.agg 0 [(.str (ze (nth (flds (nth (flds x0) 1)) 0))),(.sl 1 (elems (nth (flds (nth (flds x0) 1)) 1))),(.sl 1 (elems (nth (flds (nth (flds x0) 1)) 2)))]),(.agg 1 [(.sl 1 (elems (nth (flds (nth (flds x0) 2)) 0))),(eI (zC (nth (flds (nth (flds x0) 2)) 1)))]),(.agg 3 (flds (nth (flds x0) 3)))])))
 (none) :=
 (zM (f:=144) (by kernel_rfl) (by kernel_rfl) (by kernel_rfl) [x0]).trans (by kernel_rfl)
def S145_0a(v0:List DV)(v1 v2:Int)(v3:List DV)(v4:Int)(v5:ByteArray)(v6 v7 v8:List DV)(v9:Int):St :=
 zx 65 [(1,(.d (.sl 2 v0))),(2,(.d (eI v1))),(3,(.ptr 3 413 0 [])),(7,(.d (eI v2))),(16,(.d (.agg 3 v3))),(17,(.d (eI v4)))] [(3,(.mk false (.dc 413 [(.agg 13 [(.agg 0 [(.str v5),(.sl 1 v6),(.sl 1 v7)]),(.agg 1 [(.sl 1 v8),(eI v9)]),(.agg 3 v3)])])))]
noncomputable def QC(v0:List DV)(v1 v2:Int)(v3:List DV)(v4:Int)(v5:ByteArray)(v6 v7 v8:List DV)(v9:Int):Option CR:=goQ 145 0 (S145_0a v0 v1 v2 v3 v4 v5 v6 v7 v8 v9)
def S145_1a(v0:List DV)(v1 v2:Int)(v3 v4:List DV)(v5:Int)(v6:List DV)(v7:Int)(v8:ByteArray)(v9 v10 v11:List DV)(v12:Int):St :=
 zx 65 [(1,(.d (.sl 2 v0))),(2,(.d (eI v1))),(3,(.ptr 3 413 0 [])),(7,(.d (eI v2))),(12,(.d (.sl 1 v3))),(16,(.d (.agg 3 v4))),(17,(.d (eI v5))),(34,(.d (.agg 2 v6))),(35,(.d (eI v7)))] [(3,(.mk false (.dc 413 [(.agg 13 [(.agg 0 [(.str v8),(.sl 1 v9),(.sl 1 v10)]),(.agg 1 [(.sl 1 v11),(eI v12)]),(.agg 3 v4)])])))]
noncomputable def QB(v0:List DV)(v1 v2:Int)(v3 v4:List DV)(v5:Int)(v6:List DV)(v7:Int)(v8:ByteArray)(v9 v10 v11:List DV)(v12:Int):Option CR:=goQ 145 1 (S145_1a v0 v1 v2 v3 v4 v5 v6 v7 v8 v9 v10 v11 v12)
theorem zFm(v0:List DV)(v1 v2:Int)(v3:List DV)(v4:Int)(v5:ByteArray)(v6 v7 v8:List DV)(v9:Int):QC v0 v1 v2 v3 v4 v5 v6 v7 v8 v9 =
 ifO (decide (v4<(8:Int)))
 (ifO (decide ((0:Int)<=v4))
 (ifO (jQ 3 (Int.toNat v4) (.agg 3 v3))
 (ifO (zH EE 6 30 (nth v3 (Int.toNat v4)))
 (zI (zB 230 [])
 (λr0=>ifO (zH EE 6 30 r0)
 (ifO (Option.isSome (Y0 EE 30 (.agg 2 (flds (nth v3 (Int.toNat v4)))) (.agg 2 (flds r0))))
 (ifO (ifO.match_1 (λy240=>Bool) false (λy297=>(!(Option.getD (Y0 EE 30 (.agg 2 (flds (nth v3 (Int.toNat v4)))) (.agg 2 (flds r0))) false))) (λy810=>(Option.getD (Y0 EE 30 (.agg 2 (flds (nth v3 (Int.toNat v4)))) (.agg 2 (flds r0))) false)))
 ((QC v0 v1 v2 v3 (IntKind.wrap .i64 (v4+(1:Int))) v5 v6 v7 v8 v9))
 (zI (zB 147 [(eI v4)])
 (λr1=>ifO ((DV.isTup r1) && (zS (zH EE 6) [251,46] (tups r1)))
 (zI (zB 153 [(.agg 0 [(.str v5),(.sl 1 v6),(.sl 1 v7)]),(.sl 2 v0),(.agg 9 [(eI (zC (nth (flds (nth (tups r1) 0)) 0))),(.agg 1 [(eI (zC (nth (flds (nth (flds (nth (tups r1) 0)) 1)) 0))),(eI (zC (nth (flds (nth (flds (nth (tups r1) 0)) 1)) 1)))])])])
 (λr2=>ifO (zH EE 6 25 r2)
 ((QB v0 v1 v2 (elems r2) v3 v4 (flds (nth v3 (Int.toNat v4))) (0:Int) v5 v6 v7 v8 v9))
 (none))
 (λ_ _=>none))
 (none))
 (λ_ _=>none)))
 (none))
 (none))
 (λ_ _=>none))
 (none))
 (none))
 (none))
 (some (.val (eI v2))) :=
 (zk 145 0 _).trans (by kernel_rfl)
theorem zFl(v0:List DV)(v1 v2:Int)(v3 v4:List DV)(v5:Int)(v6:List DV)(v7:Int)(v8:ByteArray)(v9 v10 v11:List DV)(v12:Int):QB v0 v1 v2 v3 v4 v5 v6 v7 v8 v9 v10 v11 v12 =
 ifO (decide (v7<(51:Int)))
 (ifO (decide ((0:Int)<=v7))
 (ifO (jQ 2 (Int.toNat v7) (.agg 2 v6))
 (ifO (zH EE 6 3 (nth v6 (Int.toNat v7)))
 (ifO (decide ((zC (nth v6 (Int.toNat v7)))>(0:Int)))
 (ifO (decide (v7<v12))
 (zI (zB 152 [(.sl 1 v3),(eI (IntKind.wrap .i64 (v7+v1)))])
 (λr9=>ifO (zH EE 6 25 r9)
 (zI (zB 151 [(.sl 1 (elems r9)),(.fn 150 [(.agg 1 [(.sl 1 v11),(eI v12)])] [])])
 (λr10=>ifO (zH EE 6 25 r10)
 (zI (zB 231 [(.sl 1 (elems r10))])
 (λr11=>ifO (zH EE 6 3 r11)
 ((QB v0 v1 (IntKind.wrap .i64 (v2+(IntKind.wrap .i64 ((zC (nth v6 (Int.toNat v7))) * (zC r11))))) v3 v4 v5 v6 (IntKind.wrap .i64 (v7+(1:Int))) v8 v9 v10 v11 v12))
 (none))
 (λ_ _=>none))
 (none))
 (λ_ _=>none))
 (none))
 (λ_ _=>none))
 ((QB v0 v1 v2 v3 v4 v5 v6 (IntKind.wrap .i64 (v7+(1:Int))) v8 v9 v10 v11 v12)))
 ((QB v0 v1 v2 v3 v4 v5 v6 (IntKind.wrap .i64 (v7+(1:Int))) v8 v9 v10 v11 v12)))
 (none))
 (none))
 (none))
 ((QC v0 v1 v2 v4 (IntKind.wrap .i64 (v5+(1:Int))) v8 v9 v10 v11 v12)) :=
 (zk 145 1 _).trans (by kernel_rfl)
theorem C145(x0 x1 x2:DV):zB 145 [x0,x1,x2] =
 ifO (zS (zH EE 6) [246,81,3] [x0,x1,x2])
 ((QC (elems x1) (zC x2) (0:Int) (flds (nth (flds x0) 2)) (0:Int) (ze (nth (flds (nth (flds x0) 0)) 0)) (elems (nth (flds (nth (flds x0) 0)) 1)) (elems (nth (flds (nth (flds x0) 0)) 2)) (elems (nth (flds (nth (flds x0) 1)) 0)) (zC (nth (flds (nth (flds x0) 1)) 1))))
 (none) :=
 (zM (f:=145) (by kernel_rfl) (by kernel_rfl) (by kernel_rfl) [x0,x1,x2]).trans (by kernel_rfl)
theorem C230:zB 230 [] =
 some (.val (.agg 2 (List.replicate (α:=DV) 51 (eI 0)))) :=
 (zM (f:=230) (by kernel_rfl) (by kernel_rfl) (by kernel_rfl) []).trans (by kernel_rfl)
theorem C202(x0:DV):zB 202 [x0] =
 ifO (zS (zH EE 6) [246] [x0])
 (some (.val (.agg 13 [(.agg 0 [(.str (bs [115,117,109])),(.sl 1 [(eI 0)]),(.sl 1 [(eI 0)])]),(.agg 1 [(.sl 1 (elems (nth (flds (nth (flds x0) 1)) 0))),(eI (zC (nth (flds (nth (flds x0) 1)) 1)))]),(.agg 3 (flds (nth (flds x0) 2)))])))
 (none) :=
 (zM (f:=202) (by kernel_rfl) (by kernel_rfl) (by kernel_rfl) [x0]).trans (by kernel_rfl)
end Go.Am
namespace Go.Am
open Go.Proofs
open Go
variable[OO]
def S71_0a(v0:Int)(v1:ByteArray)(v2 v3:List DV):St :=
 zx 91 [(1,(.ptr 1 3 0 [])),(3,(.d (eI v0)))] [(1,(.mk false (.dc 3 [(.agg 0 [(.str v1),(.sl 1 v2),(.sl 1 v3)])])))]
noncomputable def zAT(v0:Int)(v1:ByteArray)(v2 v3:List DV):Option CR:=goQ 71 0 (S71_0a v0 v1 v2 v3)
def S71_1a(v0:Int)(v1:ByteArray)(v2 v3:List DV):St :=
 zx 91 [(1,(.ptr 1 3 0 [])),(5,(.d (eI v0)))] [(1,(.mk false (.dc 3 [(.agg 0 [(.str v1),(.sl 1 v2),(.sl 1 v3)])])))]
noncomputable def zBT(v0:Int)(v1:ByteArray)(v2 v3:List DV):Option CR:=goQ 71 1 (S71_1a v0 v1 v2 v3)
theorem zHW(v0:Int)(v1:ByteArray)(v2 v3:List DV):zAT v0 v1 v2 v3 =
 ifO (decide (v0<(((List.length v2):Nat):Int)))
 (ifO (decide (((0:Int)<=v0)/\(v0<(((List.length v2):Nat):Int))))
 (ifO (zH EE 6 3 (nth v2 (Int.toNat v0)))
 (zI (zB 37 [(eI (zC (nth v2 (Int.toNat v0)))),(eI 0),(eI 256)])
 (λr6=>ifO (zH EE 6 3 r6)
 (ifO (bne (zC r6) 0)
 (some (.val (eI (zC r6))))
 (ifO (decide (v0>(0:Int)))
 (ifO (decide (((0:Int)<=v0)/\(v0<(((List.length v2):Nat):Int))))
 (ifO (zH EE 6 3 (nth v2 (Int.toNat v0)))
 (ifO (decide (((0:Int)<=(IntKind.wrap .i64 (v0 - (1:Int))))/\((IntKind.wrap .i64 (v0 - (1:Int)))<(((List.length v2):Nat):Int))))
 (ifO (zH EE 6 3 (nth v2 (Int.toNat (IntKind.wrap .i64 (v0 - (1:Int))))))
 (ifO (decide ((zC (nth v2 (Int.toNat v0)))>(zC (nth v2 (Int.toNat (IntKind.wrap .i64 (v0 - (1:Int))))))))
 (some (.val (eI 11)))
 ((zAT (IntKind.wrap .i64 (v0+(1:Int))) v1 v2 v3)))
 (none))
 (none))
 (none))
 (none))
 ((zAT (IntKind.wrap .i64 (v0+(1:Int))) v1 v2 v3))))
 (none))
 (λ_ _=>none))
 (none))
 (none))
 ((zBT (0:Int) v1 v2 v3)) :=
 (zk 71 0 _).trans (by kernel_rfl)
theorem zHV(v0:Int)(v1:ByteArray)(v2 v3:List DV):zBT v0 v1 v2 v3 =
 ifO (decide (v0<(((List.length v3):Nat):Int)))
 (ifO (decide (((0:Int)<=v0)/\(v0<(((List.length v3):Nat):Int))))
 (ifO (zH EE 6 3 (nth v3 (Int.toNat v0)))
 (zI (zB 37 [(eI (zC (nth v3 (Int.toNat v0)))),(eI 0),(eI 100)])
 (λr9=>ifO (zH EE 6 3 r9)
 (ifO (bne (zC r9) 0)
 (some (.val (eI (zC r9))))
 (ifO (decide (v0>(0:Int)))
 (ifO (decide (((0:Int)<=v0)/\(v0<(((List.length v3):Nat):Int))))
 (ifO (zH EE 6 3 (nth v3 (Int.toNat v0)))
 (ifO (decide (((0:Int)<=(IntKind.wrap .i64 (v0 - (1:Int))))/\((IntKind.wrap .i64 (v0 - (1:Int)))<(((List.length v3):Nat):Int))))
 (ifO (zH EE 6 3 (nth v3 (Int.toNat (IntKind.wrap .i64 (v0 - (1:Int))))))
 (ifO (decide ((zC (nth v3 (Int.toNat v0)))<(zC (nth v3 (Int.toNat (IntKind.wrap .i64 (v0 - (1:Int))))))))
 (some (.val (eI 11)))
 ((zBT (IntKind.wrap .i64 (v0+(1:Int))) v1 v2 v3)))
 (none))
 (none))
 (none))
 (none))
 ((zBT (IntKind.wrap .i64 (v0+(1:Int))) v1 v2 v3))))
 (none))
 (λ_ _=>none))
 (none))
 (none))
 (some (.val (eI 0))) :=
 (zk 71 1 _).trans (by kernel_rfl)
theorem C71(x0:DV):zB 71 [x0] =
 ifO (zS (zH EE 6) [27] [x0])
 (zI (zB 92 [])
 (λr0=>ifO (zH EE 6 173 r0)
 (zI (zB 193 [(.sl 1 (elems r0)),(.str (ze (nth (flds x0) 0)))])
 (λr1=>ifO (zH EE 6 4 r1)
 (ifO (!(YI r1))
 (some (.val (eI 13)))
 (ifO ((((List.length (elems (nth (flds x0) 1))):Nat):Int) == (0:Int))
 (some (.val (eI 12)))
 (ifO (decide ((((List.length (elems (nth (flds x0) 1))):Nat):Int)>(32:Int)))
 (some (.val (eI 5)))
 (ifO (bne (((List.length (elems (nth (flds x0) 2))):Nat):Int) (((List.length (elems (nth (flds x0) 1))):Nat):Int))
 (some (.val (eI 2)))
 ((zAT (0:Int) (ze (nth (flds x0) 0)) (elems (nth (flds x0) 1)) (elems (nth (flds x0) 2))))))))
 (none))
 (λ_ _=>none))
 (none))
 (λ_ _=>none))
 (none) :=
 (zM (f:=71) (by kernel_rfl) (by kernel_rfl) (by kernel_rfl) [x0]).trans (by kernel_rfl)
def S193_0a(v0:List DV)(v1:ByteArray)(v2:Int):St :=
 zx 18 [(0,(.d (.sl 1 v0))),(1,(.d (.str v1))),(5,(.d (eI v2)))] []
noncomputable def zFQ(v0:List DV)(v1:ByteArray)(v2:Int):Option CR:=goQ 193 0 (S193_0a v0 v1 v2)
theorem zFP(v0:List DV)(v1:ByteArray)(v2:Int):zFQ v0 v1 v2 =
 ifO (decide (v2<(((List.length v0):Nat):Int)))
 (ifO (decide (((0:Int)<=v2)/\(v2<(((List.length v0):Nat):Int))))
 (ifO (zH EE 6 9 (nth v0 (Int.toNat v2)))
 (ifO ((ByteArray.toList (ze (nth v0 (Int.toNat v2)))) == (ByteArray.toList v1))
 (some (.val (.bool true)))
 ((zFQ v0 v1 (IntKind.wrap .i64 (v2+(1:Int))))))
 (none))
 (none))
 (some (.val (.bool false))) :=
 (zk 193 0 _).trans (by kernel_rfl)
theorem C193(x0 x1:DV):zB 193 [x0,x1] =
 ifO (zS (zH EE 6) [173,9] [x0,x1])
 ((zFQ (elems x0) (ze x1) (0:Int)))
 (none) :=
 (zM (f:=193) (by kernel_rfl) (by kernel_rfl) (by kernel_rfl) [x0,x1]).trans (by kernel_rfl)
theorem C92:zB 92 [] =
 some (.val (.sl 1 [(.str (bs [103,114,101,97,116,101,115,116])),(.str (bs [115,113,117,97,114,101,115])),(.str (bs [115,117,109]))])) :=
 (zM (f:=92) (by kernel_rfl) (by kernel_rfl) (by kernel_rfl) []).trans (by kernel_rfl)
def S172_0a(v0:List DV)(v1 v2:Int):St :=
 zx 18 [(0,(.d (.sl 1 v0))),(1,(.d (eI v1))),(5,(.d (eI v2)))] []
noncomputable def zFU(v0:List DV)(v1 v2:Int):Option CR:=goQ 172 0 (S172_0a v0 v1 v2)
theorem zFT(v0:List DV)(v1 v2:Int):zFU v0 v1 v2 =
 ifO (decide (v2<(((List.length v0):Nat):Int)))
 (ifO (decide (((0:Int)<=v2)/\(v2<(((List.length v0):Nat):Int))))
 (ifO (zH EE 6 3 (nth v0 (Int.toNat v2)))
 (ifO ((zC (nth v0 (Int.toNat v2))) == v1)
 (some (.val (.bool true)))
 ((zFU v0 v1 (IntKind.wrap .i64 (v2+(1:Int))))))
 (none))
 (none))
 (some (.val (.bool false))) :=
 (zk 172 0 _).trans (by kernel_rfl)
theorem C172(x0 x1:DV):zB 172 [x0,x1] =
 ifO (zS (zH EE 6) [25,3] [x0,x1])
 ((zFU (elems x0) (zC x1) (0:Int)))
 (none) :=
 (zM (f:=172) (by kernel_rfl) (by kernel_rfl) (by kernel_rfl) [x0,x1]).trans (by kernel_rfl)
end Go.Am
namespace Go.Am
open Go.Proofs
open Go
variable[OO]
def S158_0a(v0:Int)(v1:List DV)(v2 v3:Int)(v4:ByteArray)(v5:Int)(v6 v7:List DV):St :=
 zx 76 [(1,(.ptr 1 3 0 [])),(4,(.omp 26)),(5,(.d (eI v0))),(28,(.d (.sl 3 v1))),(29,(.d (eI v2))),(30,(.d (eI v3)))] [(1,(.mk false (.dc 3 [(.agg 0 [(.str v4),(eI v5),(.sl 3 v1)])]))),(26,(.mk false (.mp v6 v7)))]
noncomputable def zAF(v0:Int)(v1:List DV)(v2 v3:Int)(v4:ByteArray)(v5:Int)(v6 v7:List DV):Option CR:=goQ 158 0 (S158_0a v0 v1 v2 v3 v4 v5 v6 v7)
def S158_1a(v0:Int)(v1:List DV)(v2 v3:Int)(v4:List DV)(v5 v6:Int)(v7:ByteArray)(v8:Int)(v9:ByteArray)(v10 v11:Int)(v12 v13:List DV):St :=
 zx 76 [(1,(.ptr 1 3 0 [])),(4,(.omp 26)),(5,(.d (eI v0))),(7,(.ptr 7 3 0 [])),(28,(.d (.sl 3 v1))),(29,(.d (eI v2))),(30,(.d (eI v3))),(56,(.d (.sl 3 v4))),(57,(.d (eI v5))),(58,(.d (eI v6)))] [(1,(.mk false (.dc 3 [(.agg 0 [(.str v7),(eI v8),(.sl 3 v1)])]))),(7,(.mk false (.dc 3 [(.agg 9 [(.str v9),(.agg 1 [(eI v10),(eI v11)])])]))),(26,(.mk false (.mp v12 v13)))]
noncomputable def QA(v0:Int)(v1:List DV)(v2 v3:Int)(v4:List DV)(v5 v6:Int)(v7:ByteArray)(v8:Int)(v9:ByteArray)(v10 v11:Int)(v12 v13:List DV):Option CR:=goQ 158 1 (S158_1a v0 v1 v2 v3 v4 v5 v6 v7 v8 v9 v10 v11 v12 v13)
theorem zFg(v0:Int)(v1:List DV)(v2 v3:Int)(v4:ByteArray)(v5:Int)(v6 v7:List DV):zAF v0 v1 v2 v3 v4 v5 v6 v7 =
 ifO (decide (v3<v2))
 (ifO (decide (((0:Int)<=v3)/\(v3<(((List.length v1):Nat):Int))))
 (ifO (zH EE 6 176 (nth v1 (Int.toNat v3)))
 (zI (zB 224 [(.str (ze (nth (flds (nth v1 (Int.toNat v3))) 0)))])
 (λr12=>ifO (zH EE 6 46 r12)
 (zI (zB 239 [(.agg 1 [(eI (zC (nth (flds (nth (flds (nth v1 (Int.toNat v3))) 1)) 0))),(eI (zC (nth (flds (nth (flds (nth v1 (Int.toNat v3))) 1)) 1)))])])
 (λr13=>ifO (zH EE 6 46 r13)
 (ifO (Option.isSome (ja (.str (ze (nth (flds (nth v1 (Int.toNat v3))) 0))) v6 v7))
 (ifO (Option.isSome (Option.getD (ja (.str (ze (nth (flds (nth v1 (Int.toNat v3))) 0))) v6 v7) (Option.none)))
 (ifO (zH EE 6 4 (Option.getD (Option.getD (ja (.str (ze (nth (flds (nth v1 (Int.toNat v3))) 0))) v6 v7) (Option.none)) .nl))
 (zI (zB 136 [(.bool (YI (Option.getD (Option.getD (ja (.str (ze (nth (flds (nth v1 (Int.toNat v3))) 0))) v6 v7) (Option.none)) .nl))),(eI 9)])
 (λr14=>ifO (zH EE 6 46 r14)
 (zI (zB 134 [(.sl 1 [(eI (zC r12)),(eI (zC r13)),(eI (zC r14))])])
 (λr15=>ifO (zH EE 6 46 r15)
 (ifO (bne (zC r15) 0)
 (some (.val (eI (zC r15))))
 (ifO (Option.isSome (Yz (.str (ze (nth (flds (nth v1 (Int.toNat v3))) 0))) (.bool true) v6 v7))
 (ifO (decide ((0:Int)<=v3))
 (ifO (decide ((0<=(Int.toNat v3))/\((Int.toNat v3)<=(List.length v1))))
 ((QA (zC r15) v1 v2 v3 (List.drop 0 (List.take (Int.toNat v3) v1)) (((List.length (List.drop 0 (List.take (Int.toNat v3) v1))):Nat):Int) (0:Int) v4 v5 (ze (nth (flds (nth v1 (Int.toNat v3))) 0)) (zC (nth (flds (nth (flds (nth v1 (Int.toNat v3))) 1)) 0)) (zC (nth (flds (nth (flds (nth v1 (Int.toNat v3))) 1)) 1)) (Prod.fst (Option.getD (Yz (.str (ze (nth (flds (nth v1 (Int.toNat v3))) 0))) (.bool true) v6 v7) (Prod.mk [] []))) (Prod.snd (Option.getD (Yz (.str (ze (nth (flds (nth v1 (Int.toNat v3))) 0))) (.bool true) v6 v7) (Prod.mk [] [])))))
 (none))
 (none))
 (none)))
 (none))
 (λ_ _=>none))
 (none))
 (λ_ _=>none))
 (none))
 (zI (zB 136 [(.bool false),(eI 9)])
 (λr20=>ifO (zH EE 6 46 r20)
 (zI (zB 134 [(.sl 1 [(eI (zC r12)),(eI (zC r13)),(eI (zC r20))])])
 (λr21=>ifO (zH EE 6 46 r21)
 (ifO (bne (zC r21) 0)
 (some (.val (eI (zC r21))))
 (ifO (Option.isSome (Yz (.str (ze (nth (flds (nth v1 (Int.toNat v3))) 0))) (.bool true) v6 v7))
 (ifO (decide ((0:Int)<=v3))
 (ifO (decide ((0<=(Int.toNat v3))/\((Int.toNat v3)<=(List.length v1))))
 ((QA (zC r21) v1 v2 v3 (List.drop 0 (List.take (Int.toNat v3) v1)) (((List.length (List.drop 0 (List.take (Int.toNat v3) v1))):Nat):Int) (0:Int) v4 v5 (ze (nth (flds (nth v1 (Int.toNat v3))) 0)) (zC (nth (flds (nth (flds (nth v1 (Int.toNat v3))) 1)) 0)) (zC (nth (flds (nth (flds (nth v1 (Int.toNat v3))) 1)) 1)) (Prod.fst (Option.getD (Yz (.str (ze (nth (flds (nth v1 (Int.toNat v3))) 0))) (.bool true) v6 v7) (Prod.mk [] []))) (Prod.snd (Option.getD (Yz (.str (ze (nth (flds (nth v1 (Int.toNat v3))) 0))) (.bool true) v6 v7) (Prod.mk [] [])))))
 (none))
 (none))
 (none)))
 (none))
 (λ_ _=>none))
 (none))
 (λ_ _=>none)))
 (none))
 (none))
 (λ_ _=>none))
 (none))
 (λ_ _=>none))
 (none))
 (none))
 (some (.val (eI v0))) :=
 (zk 158 0 _).trans (by kernel_rfl)
theorem zFf(v0:Int)(v1:List DV)(v2 v3:Int)(v4:List DV)(v5 v6:Int)(v7:ByteArray)(v8:Int)(v9:ByteArray)(v10 v11:Int)(v12 v13:List DV):QA v0 v1 v2 v3 v4 v5 v6 v7 v8 v9 v10 v11 v12 v13 =
 ifO (decide (v6<v5))
 (ifO (decide (((0:Int)<=v6)/\(v6<(((List.length v4):Nat):Int))))
 (ifO (zH EE 6 176 (nth v4 (Int.toNat v6)))
 (zI (zB 240 [(.agg 1 [(eI v10),(eI v11)]),(.agg 1 [(eI (zC (nth (flds (nth (flds (nth v4 (Int.toNat v6))) 1)) 0))),(eI (zC (nth (flds (nth (flds (nth v4 (Int.toNat v6))) 1)) 1)))])])
 (λr30=>ifO (zH EE 6 3 r30)
 (ifO (decide ((zC r30)<(IntKind.wrap .i64 (v8 * v8))))
 (some (.val (eI 15)))
 ((QA v0 v1 v2 v3 v4 v5 (IntKind.wrap .i64 (v6+(1:Int))) v7 v8 v9 v10 v11 v12 v13)))
 (none))
 (λ_ _=>none))
 (none))
 (none))
 ((zAF v0 v1 v2 (IntKind.wrap .i64 (v3+(1:Int))) v7 v8 v12 v13)) :=
 (zk 158 1 _).trans (by kernel_rfl)
theorem C158(x0:DV):zB 158 [x0] =
 ifO (zS (zH EE 6) [58] [x0])
 (zI (zB 224 [(.str (ze (nth (flds x0) 0)))])
 (λr0=>ifO (zH EE 6 46 r0)
 (zI (zB 225 [(eI (zC (nth (flds x0) 1))),(eI 1),(eI 1000)])
 (λr1=>ifO (zH EE 6 46 r1)
 (zI (zB 136 [(.bool (decide ((((List.length (elems (nth (flds x0) 2))):Nat):Int)>(64:Int)))),(eI 5)])
 (λr2=>ifO (zH EE 6 46 r2)
 (zI (zB 134 [(.sl 1 [(eI (zC r0)),(eI (zC r1)),(eI (zC r2))])])
 (λr3=>ifO (zH EE 6 46 r3)
 (ifO (bne (zC r3) 0)
 (some (.val (eI (zC r3))))
 ((zAF (0:Int) (elems (nth (flds x0) 2)) (((List.length (elems (nth (flds x0) 2))):Nat):Int) (0:Int) (ze (nth (flds x0) 0)) (zC (nth (flds x0) 1)) [] [])))
 (none))
 (λ_ _=>none))
 (none))
 (λ_ _=>none))
 (none))
 (λ_ _=>none))
 (none))
 (λ_ _=>none))
 (none) :=
 (zM (f:=158) (by kernel_rfl) (by kernel_rfl) (by kernel_rfl) [x0]).trans (by kernel_rfl)
def S279_0a(v0:ByteArray)(v1:Nat):St :=
 zx 49 [(0,(.d (.str v0))),(10,(.it 10))] [(10,(.mk false (.sit v0 v1)))]
noncomputable def JQ(v0:ByteArray)(v1:Nat):Option CR:=goQ 279 0 (S279_0a v0 v1)
theorem zBv(v0:ByteArray)(v1:Nat):JQ v0 v1 =
 ifO (decide (v1<(ByteArray.size v0)))
 (ifO (decide ((((Prod.fst (Utf8.decode v0 v1)):Nat):Int)>=(65:Int)))
 (ifO (decide ((((Prod.fst (Utf8.decode v0 v1)):Nat):Int)<=(90:Int)))
 ((JQ v0 (v1+(Prod.snd (Utf8.decode v0 v1)))))
 (ifO (decide ((((Prod.fst (Utf8.decode v0 v1)):Nat):Int)>=(97:Int)))
 (ifO (!(decide ((((Prod.fst (Utf8.decode v0 v1)):Nat):Int)<=(122:Int))))
 (ifO (((v1:Nat):Int) == (0:Int))
 (some (.val (.bool false)))
 (ifO (bne (((Prod.fst (Utf8.decode v0 v1)):Nat):Int) (95:Int))
 (ifO (decide ((((Prod.fst (Utf8.decode v0 v1)):Nat):Int)<(48:Int)))
 (some (.val (.bool false)))
 (ifO (decide ((((Prod.fst (Utf8.decode v0 v1)):Nat):Int)>(57:Int)))
 (some (.val (.bool false)))
 ((JQ v0 (v1+(Prod.snd (Utf8.decode v0 v1)))))))
 ((JQ v0 (v1+(Prod.snd (Utf8.decode v0 v1)))))))
 ((JQ v0 (v1+(Prod.snd (Utf8.decode v0 v1))))))
 (ifO (((v1:Nat):Int) == (0:Int))
 (some (.val (.bool false)))
 (ifO (bne (((Prod.fst (Utf8.decode v0 v1)):Nat):Int) (95:Int))
 (ifO (decide ((((Prod.fst (Utf8.decode v0 v1)):Nat):Int)<(48:Int)))
 (some (.val (.bool false)))
 (ifO (decide ((((Prod.fst (Utf8.decode v0 v1)):Nat):Int)>(57:Int)))
 (some (.val (.bool false)))
 ((JQ v0 (v1+(Prod.snd (Utf8.decode v0 v1)))))))
 ((JQ v0 (v1+(Prod.snd (Utf8.decode v0 v1)))))))))
 (ifO (decide ((((Prod.fst (Utf8.decode v0 v1)):Nat):Int)>=(97:Int)))
 (ifO (!(decide ((((Prod.fst (Utf8.decode v0 v1)):Nat):Int)<=(122:Int))))
 (ifO (((v1:Nat):Int) == (0:Int))
 (some (.val (.bool false)))
 (ifO (bne (((Prod.fst (Utf8.decode v0 v1)):Nat):Int) (95:Int))
 (ifO (decide ((((Prod.fst (Utf8.decode v0 v1)):Nat):Int)<(48:Int)))
 (some (.val (.bool false)))
 (ifO (decide ((((Prod.fst (Utf8.decode v0 v1)):Nat):Int)>(57:Int)))
 (some (.val (.bool false)))
 ((JQ v0 (v1+(Prod.snd (Utf8.decode v0 v1)))))))
 ((JQ v0 (v1+(Prod.snd (Utf8.decode v0 v1)))))))
 ((JQ v0 (v1+(Prod.snd (Utf8.decode v0 v1))))))
 (ifO (((v1:Nat):Int) == (0:Int))
 (some (.val (.bool false)))
 (ifO (bne (((Prod.fst (Utf8.decode v0 v1)):Nat):Int) (95:Int))
 (ifO (decide ((((Prod.fst (Utf8.decode v0 v1)):Nat):Int)<(48:Int)))
 (some (.val (.bool false)))
 (ifO (decide ((((Prod.fst (Utf8.decode v0 v1)):Nat):Int)>(57:Int)))
 (some (.val (.bool false)))
 ((JQ v0 (v1+(Prod.snd (Utf8.decode v0 v1)))))))
 ((JQ v0 (v1+(Prod.snd (Utf8.decode v0 v1)))))))))
 (some (.val (.bool (!((ByteArray.toList v0) == []))))) :=
 (zk 279 0 _).trans (by kernel_rfl)
theorem C279(x0:DV):zB 279 [x0] =
 ifO (zS (zH EE 6) [9] [x0])
 (ifO (decide ((((ByteArray.size (ze x0)):Nat):Int)>(24:Int)))
 (some (.val (.bool false)))
 ((JQ (ze x0) 0)))
 (none) :=
 (zM (f:=279) (by kernel_rfl) (by kernel_rfl) (by kernel_rfl) [x0]).trans (by kernel_rfl)
def S130_0a(v0:ByteArray)(v1:Int):St :=
 zx 50 [(0,(.d (.str v0))),(3,(.d (eI v1)))] []
noncomputable def Jn(v0:ByteArray)(v1:Int):Option CR:=goQ 130 0 (S130_0a v0 v1)
theorem zFp(v0:ByteArray)(v1:Int):Jn v0 v1 =
 ifO (decide (v1<(((ByteArray.size v0):Nat):Int)))
 (ifO (decide (((0:Int)<=v1)/\(v1<(((ByteArray.size v0):Nat):Int))))
 (ifO (decide ((((UInt8.toNat (Option.getD (v0)[(Int.toNat v1)]? (0:UInt8))):Nat):Int)>=(97:Int)))
 (ifO (decide ((((UInt8.toNat (Option.getD (v0)[(Int.toNat v1)]? (0:UInt8))):Nat):Int)<=(122:Int)))
 ((Jn v0 (IntKind.wrap .i64 (v1+(1:Int)))))
 (ifO (decide ((((UInt8.toNat (Option.getD (v0)[(Int.toNat v1)]? (0:UInt8))):Nat):Int)>=(65:Int)))
 (ifO (decide ((((UInt8.toNat (Option.getD (v0)[(Int.toNat v1)]? (0:UInt8))):Nat):Int)<=(90:Int)))
 ((Jn v0 (IntKind.wrap .i64 (v1+(1:Int)))))
 (ifO (v1 == (0:Int))
 (some (.val (.bool false)))
 (ifO (bne (((UInt8.toNat (Option.getD (v0)[(Int.toNat v1)]? (0:UInt8))):Nat):Int) (95:Int))
 (ifO (decide ((((UInt8.toNat (Option.getD (v0)[(Int.toNat v1)]? (0:UInt8))):Nat):Int)<(48:Int)))
 (some (.val (.bool false)))
 (ifO (decide ((((UInt8.toNat (Option.getD (v0)[(Int.toNat v1)]? (0:UInt8))):Nat):Int)>(57:Int)))
 (some (.val (.bool false)))
 ((Jn v0 (IntKind.wrap .i64 (v1+(1:Int)))))))
 ((Jn v0 (IntKind.wrap .i64 (v1+(1:Int))))))))
 (ifO (v1 == (0:Int))
 (some (.val (.bool false)))
 (ifO (bne (((UInt8.toNat (Option.getD (v0)[(Int.toNat v1)]? (0:UInt8))):Nat):Int) (95:Int))
 (ifO (decide ((((UInt8.toNat (Option.getD (v0)[(Int.toNat v1)]? (0:UInt8))):Nat):Int)<(48:Int)))
 (some (.val (.bool false)))
 (ifO (decide ((((UInt8.toNat (Option.getD (v0)[(Int.toNat v1)]? (0:UInt8))):Nat):Int)>(57:Int)))
 (some (.val (.bool false)))
 ((Jn v0 (IntKind.wrap .i64 (v1+(1:Int)))))))
 ((Jn v0 (IntKind.wrap .i64 (v1+(1:Int)))))))))
 (ifO (decide ((((UInt8.toNat (Option.getD (v0)[(Int.toNat v1)]? (0:UInt8))):Nat):Int)>=(65:Int)))
 (ifO (decide ((((UInt8.toNat (Option.getD (v0)[(Int.toNat v1)]? (0:UInt8))):Nat):Int)<=(90:Int)))
 ((Jn v0 (IntKind.wrap .i64 (v1+(1:Int)))))
 (ifO (v1 == (0:Int))
 (some (.val (.bool false)))
 (ifO (bne (((UInt8.toNat (Option.getD (v0)[(Int.toNat v1)]? (0:UInt8))):Nat):Int) (95:Int))
 (ifO (decide ((((UInt8.toNat (Option.getD (v0)[(Int.toNat v1)]? (0:UInt8))):Nat):Int)<(48:Int)))
 (some (.val (.bool false)))
 (ifO (decide ((((UInt8.toNat (Option.getD (v0)[(Int.toNat v1)]? (0:UInt8))):Nat):Int)>(57:Int)))
 (some (.val (.bool false)))
 ((Jn v0 (IntKind.wrap .i64 (v1+(1:Int)))))))
 ((Jn v0 (IntKind.wrap .i64 (v1+(1:Int))))))))
 (ifO (v1 == (0:Int))
 (some (.val (.bool false)))
 (ifO (bne (((UInt8.toNat (Option.getD (v0)[(Int.toNat v1)]? (0:UInt8))):Nat):Int) (95:Int))
 (ifO (decide ((((UInt8.toNat (Option.getD (v0)[(Int.toNat v1)]? (0:UInt8))):Nat):Int)<(48:Int)))
 (some (.val (.bool false)))
 (ifO (decide ((((UInt8.toNat (Option.getD (v0)[(Int.toNat v1)]? (0:UInt8))):Nat):Int)>(57:Int)))
 (some (.val (.bool false)))
 ((Jn v0 (IntKind.wrap .i64 (v1+(1:Int)))))))
 ((Jn v0 (IntKind.wrap .i64 (v1+(1:Int)))))))))
 (none))
 (some (.val (.bool true))) :=
 (zk 130 0 _).trans (by kernel_rfl)
theorem C130(x0:DV):zB 130 [x0] =
 ifO (zS (zH EE 6) [9] [x0])
 (ifO ((((ByteArray.size (ze x0)):Nat):Int) == (0:Int))
 (some (.val (.bool false)))
 (ifO (decide ((((ByteArray.size (ze x0)):Nat):Int)>(24:Int)))
 (some (.val (.bool false)))
 ((Jn (ze x0) (0:Int)))))
 (none) :=
 (zM (f:=130) (by kernel_rfl) (by kernel_rfl) (by kernel_rfl) [x0]).trans (by kernel_rfl)
def S69_0a(v0:Int)(v1:ByteArray)(v2:Int)(v3:List DV):St :=
 zx 73 [(1,(.ptr 1 3 0 [])),(3,(.d (eI v0)))] [(1,(.mk false (.dc 3 [(.agg 0 [(.str v1),(eI v2),(.sl 3 v3)])])))]
noncomputable def zCK(v0:Int)(v1:ByteArray)(v2:Int)(v3:List DV):Option CR:=goQ 69 0 (S69_0a v0 v1 v2 v3)
def S69_1a(v0 v1:Int)(v2:ByteArray)(v3:Int)(v4:List DV)(v5:ByteArray)(v6 v7:Int):St :=
 zx 73 [(1,(.ptr 1 3 0 [])),(3,(.d (eI v0))),(4,(.ptr 4 3 0 [])),(5,(.d (eI v1)))] [(1,(.mk false (.dc 3 [(.agg 0 [(.str v2),(eI v3),(.sl 3 v4)])]))),(4,(.mk false (.dc 3 [(.agg 9 [(.str v5),(.agg 1 [(eI v6),(eI v7)])])])))]
noncomputable def zCJ(v0 v1:Int)(v2:ByteArray)(v3:Int)(v4:List DV)(v5:ByteArray)(v6 v7:Int):Option CR:=goQ 69 1 (S69_1a v0 v1 v2 v3 v4 v5 v6 v7)
def S69_2a(v0 v1:Int)(v2:ByteArray)(v3:Int)(v4:List DV)(v5:ByteArray)(v6 v7:Int):St :=
 zx 73 [(1,(.ptr 1 3 0 [])),(3,(.d (eI v0))),(4,(.ptr 4 3 0 [])),(6,(.d (eI v1)))] [(1,(.mk false (.dc 3 [(.agg 0 [(.str v2),(eI v3),(.sl 3 v4)])]))),(4,(.mk false (.dc 3 [(.agg 9 [(.str v5),(.agg 1 [(eI v6),(eI v7)])])])))]
noncomputable def zCI(v0 v1:Int)(v2:ByteArray)(v3:Int)(v4:List DV)(v5:ByteArray)(v6 v7:Int):Option CR:=goQ 69 2 (S69_2a v0 v1 v2 v3 v4 v5 v6 v7)
theorem zHZ(v0:Int)(v1:ByteArray)(v2:Int)(v3:List DV):zCK v0 v1 v2 v3 =
 ifO (decide (v0<(((List.length v3):Nat):Int)))
 (ifO (decide (((0:Int)<=v0)/\(v0<(((List.length v3):Nat):Int))))
 (ifO (zH EE 6 143 (nth v3 (Int.toNat v0)))
 (zI (zB 130 [(.str (ze (nth (flds (nth v3 (Int.toNat v0))) 0)))])
 (λr6=>ifO (zH EE 6 4 r6)
 (ifO (!(YI r6))
 (some (.val (eI 8)))
 (zI (zB 164 [(.agg 1 [(eI (zC (nth (flds (nth (flds (nth v3 (Int.toNat v0))) 1)) 0))),(eI (zC (nth (flds (nth (flds (nth v3 (Int.toNat v0))) 1)) 1)))])])
 (λr7=>ifO (zH EE 6 3 r7)
 (ifO (bne (zC r7) 0)
 (some (.val (eI 3)))
 ((zCJ v0 (0:Int) v1 v2 v3 (ze (nth (flds (nth v3 (Int.toNat v0))) 0)) (zC (nth (flds (nth (flds (nth v3 (Int.toNat v0))) 1)) 0)) (zC (nth (flds (nth (flds (nth v3 (Int.toNat v0))) 1)) 1)))))
 (none))
 (λ_ _=>none)))
 (none))
 (λ_ _=>none))
 (none))
 (none))
 (some (.val (eI 0))) :=
 (zk 69 0 _).trans (by kernel_rfl)
theorem zHY(v0 v1:Int)(v2:ByteArray)(v3:Int)(v4:List DV)(v5:ByteArray)(v6 v7:Int):zCJ v0 v1 v2 v3 v4 v5 v6 v7 =
 ifO (decide (v1<v0))
 (ifO (decide (((0:Int)<=v1)/\(v1<(((List.length v4):Nat):Int))))
 (ifO (jQ 9 0 (nth v4 (Int.toNat v1)))
 (ifO (zH EE 6 9 (nth (flds (nth v4 (Int.toNat v1))) 0))
 (ifO ((ByteArray.toList (ze (nth (flds (nth v4 (Int.toNat v1))) 0))) == (ByteArray.toList v5))
 (some (.val (eI 9)))
 ((zCJ v0 (IntKind.wrap .i64 (v1+(1:Int))) v2 v3 v4 v5 v6 v7)))
 (none))
 (none))
 (none))
 ((zCI v0 (0:Int) v2 v3 v4 v5 v6 v7)) :=
 (zk 69 1 _).trans (by kernel_rfl)
theorem zHX(v0 v1:Int)(v2:ByteArray)(v3:Int)(v4:List DV)(v5:ByteArray)(v6 v7:Int):zCI v0 v1 v2 v3 v4 v5 v6 v7 =
 ifO (decide (v1<v0))
 (ifO (decide (((0:Int)<=v1)/\(v1<(((List.length v4):Nat):Int))))
 (ifO (jQ 9 1 (nth v4 (Int.toNat v1)))
 (ifO (zH EE 6 141 (nth (flds (nth v4 (Int.toNat v1))) 1))
 (zI (zB 192 [(.agg 1 [(eI (zC (nth (flds (nth (flds (nth v4 (Int.toNat v1))) 1)) 0))),(eI (zC (nth (flds (nth (flds (nth v4 (Int.toNat v1))) 1)) 1)))]),(.agg 1 [(eI v6),(eI v7)])])
 (λr12=>ifO (zH EE 6 3 r12)
 (ifO (decide ((zC r12)<(IntKind.wrap .i64 (v3 * v3))))
 (some (.val (eI 15)))
 ((zCI v0 (IntKind.wrap .i64 (v1+(1:Int))) v2 v3 v4 v5 v6 v7)))
 (none))
 (λ_ _=>none))
 (none))
 (none))
 (none))
 ((zCK (IntKind.wrap .i64 (v0+(1:Int))) v2 v3 v4)) :=
 (zk 69 2 _).trans (by kernel_rfl)
theorem C69(x0:DV):zB 69 [x0] =
 ifO (zS (zH EE 6) [24] [x0])
 (zI (zB 130 [(.str (ze (nth (flds x0) 0)))])
 (λr0=>ifO (zH EE 6 4 r0)
 (ifO (!(YI r0))
 (some (.val (eI 8)))
 (zI (zB 37 [(eI (zC (nth (flds x0) 1))),(eI 1),(eI 1000)])
 (λr1=>ifO (zH EE 6 3 r1)
 (ifO (bne (zC r1) 0)
 (some (.val (eI 3)))
 (ifO (decide ((((List.length (elems (nth (flds x0) 2))):Nat):Int)>(64:Int)))
 (some (.val (eI 5)))
 ((zCK (0:Int) (ze (nth (flds x0) 0)) (zC (nth (flds x0) 1)) (elems (nth (flds x0) 2))))))
 (none))
 (λ_ _=>none)))
 (none))
 (λ_ _=>none))
 (none) :=
 (zM (f:=69) (by kernel_rfl) (by kernel_rfl) (by kernel_rfl) [x0]).trans (by kernel_rfl)
def S62_0a(v0:Int)(v1:ByteArray)(v2:Int)(v3:List DV):St :=
 zx 38 [(2,(.ptr 2 3 0 [])),(5,(.d (eI v0)))] [(2,(.mk false (.dc 3 [(.agg 0 [(.str v1),(eI v2),(.sl 3 v3)])])))]
noncomputable def zGg(v0:Int)(v1:ByteArray)(v2:Int)(v3:List DV):Option CR:=goQ 62 0 (S62_0a v0 v1 v2 v3)
theorem zHb(v0:Int)(v1:ByteArray)(v2:Int)(v3:List DV):zGg v0 v1 v2 v3 =
 ifO (decide (v0<(((List.length v3):Nat):Int)))
 (ifO (decide (((0:Int)<=v0)/\(v0<(((List.length v3):Nat):Int))))
 (ifO (jQ 9 0 (nth v3 (Int.toNat v0)))
 (ifO (zH EE 6 9 (nth (flds (nth v3 (Int.toNat v0))) 0))
 (ifO (decide ((((ByteArray.size (ze (nth (flds (nth v3 (Int.toNat v0))) 0))):Nat):Int)>(60:Int)))
 (some (.val (.bool false)))
 ((zGg (IntKind.wrap .i64 (v0+(1:Int))) v1 v2 v3)))
 (none))
 (none))
 (none))
 (some (.val (.bool true))) :=
 (zk 62 0 _).trans (by kernel_rfl)
theorem C62(x0 x1:DV):zB 62 [x0,x1] =
 ifO (zS (zH EE 6) [24,3] [x0,x1])
 (ifO (decide ((((ByteArray.size (ze (nth (flds x0) 0))):Nat):Int)>(60:Int)))
 (some (.val (.bool false)))
 (ifO (decide ((((List.length (elems (nth (flds x0) 2))):Nat):Int)>(zC x1)))
 (ifO (bne (((List.length (elems (nth (flds x0) 2))):Nat):Int) (65:Int))
 (some (.val (.bool false)))
 ((zGg (0:Int) (ze (nth (flds x0) 0)) (zC (nth (flds x0) 1)) (elems (nth (flds x0) 2)))))
 ((zGg (0:Int) (ze (nth (flds x0) 0)) (zC (nth (flds x0) 1)) (elems (nth (flds x0) 2))))))
 (none) :=
 (zM (f:=62) (by kernel_rfl) (by kernel_rfl) (by kernel_rfl) [x0,x1]).trans (by kernel_rfl)
def S65_0a(v0:List DV)(v1:Int)(v2:ByteArray)(v3:Int):St :=
 zx 26 [(2,(.ptr 2 3 0 [])),(3,(.ptr 3 3 0 [])),(12,(.d (.sl 3 v0))),(13,(.d (eI v1))),(14,(.d (eI 0)))] [(2,(.mk false (.dc 3 [(.agg 0 [(.str (bs [])),(eI 0),.nl])]))),(3,(.mk false (.dc 3 [(.agg 0 [(.str v2),(eI v3),.nl])])))]
noncomputable def L65_0a(v0:List DV)(v1:Int)(v2:ByteArray)(v3:Int):Option CR:=goQ 65 0 (S65_0a v0 v1 v2 v3)
def S65_0b(v0:List DV)(v1 v2:Int)(v3:ByteArray)(v4:Int)(v5:List DV):St :=
 zx 26 [(2,(.ptr 2 3 0 [])),(3,(.ptr 3 3 0 [])),(12,(.d (.sl 3 v0))),(13,(.d (eI v1))),(14,(.d (eI v2)))] [(2,(.mk false (.dc 3 [(.agg 0 [(.str (bs [])),(eI 0),.nl])]))),(3,(.mk false (.ac 3 [(.agg 0 [(.d (.str v3)),(.d (eI v4)),(.own 22 0 (List.length v5) 3)])]))),(22,(.mk false (.dc 3 v5)))]
noncomputable def zIh(v0:List DV)(v1 v2:Int)(v3:ByteArray)(v4:Int)(v5:List DV):Option CR:=goQ 65 0 (S65_0b v0 v1 v2 v3 v4 v5)
theorem L65_0a_eq(v0:List DV)(v1:Int)(v2:ByteArray)(v3:Int):L65_0a v0 v1 v2 v3 =
 ifO (decide ((0:Int)<v1))
 (ifO (decide (((0:Int)<=(0:Int))/\((0:Int)<(((List.length v0):Nat):Int))))
 (ifO (zH EE 6 143 (nth v0 0))
 ((zIh v0 v1 (1:Int) v2 v3 [(.agg 9 [(.str (ze (nth (flds (nth v0 0)) 0))),(.agg 1 [(eI (zC (nth (flds (nth (flds (nth v0 0)) 1)) 0))),(eI (zC (nth (flds (nth (flds (nth v0 0)) 1)) 1)))])])]))
 (none))
 (none))
 (some (.val (.agg 0 [(.str v2),(eI v3),(.sl 3 [])]))) :=
 (zk 65 0 _).trans (by kernel_rfl)
theorem zHa(v0:List DV)(v1 v2:Int)(v3:ByteArray)(v4:Int)(v5:List DV):zIh v0 v1 v2 v3 v4 v5 =
 ifO (decide (v2<v1))
 (ifO (decide (((0:Int)<=v2)/\(v2<(((List.length v0):Nat):Int))))
 (ifO (zH EE 6 143 (nth v0 (Int.toNat v2)))
 (ifO (decide ((List.length v5)=(List.length v5)))
 (ifO (decide ((((2 * ((List.length v5)+1))+200) * 32)<=281474976710656))
 ((zIh v0 v1 (IntKind.wrap .i64 (v2+(1:Int))) v3 v4 (v5++[(.agg 9 [(.str (ze (nth (flds (nth v0 (Int.toNat v2))) 0))),(.agg 1 [(eI (zC (nth (flds (nth (flds (nth v0 (Int.toNat v2))) 1)) 0))),(eI (zC (nth (flds (nth (flds (nth v0 (Int.toNat v2))) 1)) 1)))])])])))
 (none))
 (none))
 (none))
 (none))
 (ifO (decide ((0+(List.length v5))<=(List.length v5)))
 (some (.val (.agg 0 [(.str v3),(eI v4),(.sl 3 (List.take (List.length v5) (List.drop 0 v5)))])))
 (none)) :=
 (zk 65 0 _).trans (by kernel_rfl)
theorem C65(x0:DV):zB 65 [x0] =
 ifO (zS (zH EE 6) [24] [x0])
 ((L65_0a (elems (nth (flds x0) 2)) (((List.length (elems (nth (flds x0) 2))):Nat):Int) (ze (nth (flds x0) 0)) (zC (nth (flds x0) 1))))
 (none) :=
 (zM (f:=65) (by kernel_rfl) (by kernel_rfl) (by kernel_rfl) [x0]).trans (by kernel_rfl)
def S129_0a(v0:Int)(v1:List DV):St :=
 zx 20 [(1,(.ptr 1 408 0 [])),(3,(.d (eI v0)))] [(1,(.mk false (.dc 408 [(.agg 3 v1)])))]
noncomputable def zCz(v0:Int)(v1:List DV):Option CR:=goQ 129 0 (S129_0a v0 v1)
def S129_1a(v0 v1:Int)(v2:List DV):St :=
 zx 20 [(1,(.ptr 1 408 0 [])),(3,(.d (eI v0))),(4,(.d (eI v1)))] [(1,(.mk false (.dc 408 [(.agg 3 v2)])))]
noncomputable def zFr(v0 v1:Int)(v2:List DV):Option CR:=goQ 129 1 (S129_1a v0 v1 v2)
theorem zFs(v0:Int)(v1:List DV):zCz v0 v1 =
 ifO (decide (v0<(8:Int)))
 ((zFr v0 (0:Int) v1))
 (some (.val (eI 0))) :=
 (zk 129 0 _).trans (by kernel_rfl)
theorem zFq(v0 v1:Int)(v2:List DV):zFr v0 v1 v2 =
 ifO (decide (v1<=(50:Int)))
 (ifO (decide (((0:Int)<=v0)/\(v0<(8:Int))))
 (ifO (decide (((0:Int)<=v1)/\(v1<(51:Int))))
 (ifO (jQ 3 (Int.toNat v0) (.agg 3 v2))
 (ifO (jQ 2 (Int.toNat v1) (nth v2 (Int.toNat v0)))
 (ifO (zH EE 6 3 (nth (flds (nth v2 (Int.toNat v0))) (Int.toNat v1)))
 (zI (zB 37 [(eI (zC (nth (flds (nth v2 (Int.toNat v0))) (Int.toNat v1)))),(eI 0),(eI 40000)])
 (λr0=>ifO (zH EE 6 3 r0)
 (ifO (bne (zC r0) 0)
 (some (.val (eI 3)))
 ((zFr v0 (IntKind.wrap .i64 (v1+(1:Int))) v2)))
 (none))
 (λ_ _=>none))
 (none))
 (none))
 (none))
 (none))
 (none))
 ((zCz (IntKind.wrap .i64 (v0+(1:Int))) v2)) :=
 (zk 129 1 _).trans (by kernel_rfl)
theorem C129(x0:DV):zB 129 [x0] =
 ifO (zS (zH EE 6) [32] [x0])
 ((zCz (0:Int) (flds x0)))
 (none) :=
 (zM (f:=129) (by kernel_rfl) (by kernel_rfl) (by kernel_rfl) [x0]).trans (by kernel_rfl)
theorem C234(x0:DV):zB 234 [x0] =
 ifO (zS (zH EE 6) [3] [x0])
 (zI (zB 225 [(eI (zC x0)),(eI 0),(eI 7)])
 (λr0=>ifO (zH EE 6 46 r0)
 (ifO (bne (zC r0) 0)
 (some (.val (.tup [(.agg 1 [(eI 0),(eI 0)]),(eI (zC r0))])))
 (ifO (decide ((0:Int)<=(zC x0)))
 (ifO (jQ 17 (Int.toNat (zC x0)) (.agg 17 [(.agg 1 [(eI 0),(eI (-1))]),(.agg 1 [(eI (-1)),(eI (-1))]),(.agg 1 [(eI (-1)),(eI 0)]),(.agg 1 [(eI (-1)),(eI 1)]),(.agg 1 [(eI 0),(eI 1)]),(.agg 1 [(eI 1),(eI 1)]),(.agg 1 [(eI 1),(eI 0)]),(.agg 1 [(eI 1),(eI (-1))])]))
 (ifO (zH EE 6 141 (nth [(.agg 1 [(eI 0),(eI (-1))]),(.agg 1 [(eI (-1)),(eI (-1))]),(.agg 1 [(eI (-1)),(eI 0)]),(.agg 1 [(eI (-1)),(eI 1)]),(.agg 1 [(eI 0),(eI 1)]),(.agg 1 [(eI 1),(eI 1)]),(.agg 1 [(eI 1),(eI 0)]),(.agg 1 [(eI 1),(eI (-1))])] (Int.toNat (zC x0))))
 (some (.val (.tup [(.agg 1 [(eI (zC (nth (flds (nth [(.agg 1 [(eI 0),(eI (-1))]),(.agg 1 [(eI (-1)),(eI (-1))]),(.agg 1 [(eI (-1)),(eI 0)]),(.agg 1 [(eI (-1)),(eI 1)]),(.agg 1 [(eI 0),(eI 1)]),(.agg 1 [(eI 1),(eI 1)]),(.agg 1 [(eI 1),(eI 0)]),(.agg 1 [(eI 1),(eI (-1))])] (Int.toNat (zC x0)))) 0))),(eI (zC (nth (flds (nth [(.agg 1 [(eI 0),(eI (-1))]),(.agg 1 [(eI (-1)),(eI (-1))]),(.agg 1 [(eI (-1)),(eI 0)]),(.agg 1 [(eI (-1)),(eI 1)]),(.agg 1 [(eI 0),(eI 1)]),(.agg 1 [(eI 1),(eI 1)]),(.agg 1 [(eI 1),(eI 0)]),(.agg 1 [(eI 1),(eI (-1))])] (Int.toNat (zC x0)))) 1)))]),(eI 0)])))
 (none))
 (none))
 (none)))
 (none))
 (λ_ _=>none))
 (none) :=
 (zM (f:=234) (by kernel_rfl) (by kernel_rfl) (by kernel_rfl) [x0]).trans (by kernel_rfl)
end Go.Am
namespace Go.Am
open Go.Proofs
open Go
variable[OO]
def S35_0a(v0:List DV)(v1:Int):St :=
 zx 19 [(0,(.d (.sl 1 v0))),(3,(.d (eI v1)))] []
noncomputable def zIj(v0:List DV)(v1:Int):Option CR:=goQ 35 0 (S35_0a v0 v1)
theorem zHe(v0:List DV)(v1:Int):zIj v0 v1 =
 ifO (decide (v1<(((List.length v0):Nat):Int)))
 (ifO (decide (((0:Int)<=v1)/\(v1<(((List.length v0):Nat):Int))))
 (ifO (zH EE 6 3 (nth v0 (Int.toNat v1)))
 (ifO (bne (zC (nth v0 (Int.toNat v1))) (0:Int))
 (ifO (decide (((0:Int)<=v1)/\(v1<(((List.length v0):Nat):Int))))
 (ifO (zH EE 6 3 (nth v0 (Int.toNat v1)))
 (some (.val (eI (zC (nth v0 (Int.toNat v1))))))
 (none))
 (none))
 ((zIj v0 (IntKind.wrap .i64 (v1+(1:Int))))))
 (none))
 (none))
 (some (.val (eI 0))) :=
 (zk 35 0 _).trans (by kernel_rfl)
theorem C35(x0:DV):zB 35 [x0] =
 ifO (zS (zH EE 6) [25] [x0])
 ((zIj (elems x0) (0:Int)))
 (none) :=
 (zM (f:=35) (by kernel_rfl) (by kernel_rfl) (by kernel_rfl) [x0]).trans (by kernel_rfl)
theorem C37(x0 x1 x2:DV):zB 37 [x0,x1,x2] =
 ifO (zS (zH EE 6) [3,3,3] [x0,x1,x2])
 (ifO (decide ((zC x0)<(zC x1)))
 (some (.val (eI 3)))
 (ifO (decide ((zC x0)>(zC x2)))
 (some (.val (eI 3)))
 (some (.val (eI 0)))))
 (none) :=
 (zM (f:=37) (by kernel_rfl) (by kernel_rfl) (by kernel_rfl) [x0,x1,x2]).trans (by kernel_rfl)
def S134_0a(v0:List DV)(v1 v2:Int):St :=
 zx 15 [(5,(.d (.sl 1 v0))),(6,(.d (eI v1))),(7,(.d (eI v2)))] []
noncomputable def zFo(v0:List DV)(v1 v2:Int):Option CR:=goQ 134 0 (S134_0a v0 v1 v2)
theorem zFn(v0:List DV)(v1 v2:Int):zFo v0 v1 v2 =
 ifO (decide (v2<v1))
 (ifO (decide (((0:Int)<=v2)/\(v2<(((List.length v0):Nat):Int))))
 (ifO (zH EE 6 46 (nth v0 (Int.toNat v2)))
 (ifO (bne (zC (nth v0 (Int.toNat v2))) (0:Int))
 (some (.val (eI (zC (nth v0 (Int.toNat v2))))))
 ((zFo v0 v1 (IntKind.wrap .i64 (v2+(1:Int))))))
 (none))
 (none))
 (some (.val (eI 0))) :=
 (zk 134 0 _).trans (by kernel_rfl)
theorem C134(x0:DV):zB 134 [x0] =
 ifO (zS (zH EE 6) [290] [x0])
 ((zFo (elems x0) (((List.length (elems x0)):Nat):Int) (0:Int)))
 (none) :=
 (zM (f:=134) (by kernel_rfl) (by kernel_rfl) (by kernel_rfl) [x0]).trans (by kernel_rfl)
theorem C136(x0 x1:DV):zB 136 [x0,x1] =
 ifO (zS (zH EE 6) [4,46] [x0,x1])
 (ifO (YI x0)
 (some (.val (eI (zC x1))))
 (some (.val (eI 0))))
 (none) :=
 (zM (f:=136) (by kernel_rfl) (by kernel_rfl) (by kernel_rfl) [x0,x1]).trans (by kernel_rfl)
def S148_0a(v0:List DV)(v1 v2:Int):St :=
 zx 15 [(5,(.d (.sl 1 v0))),(6,(.d (eI v1))),(7,(.d (eI v2)))] []
noncomputable def zFk(v0:List DV)(v1 v2:Int):Option CR:=goQ 148 0 (S148_0a v0 v1 v2)
theorem zFj(v0:List DV)(v1 v2:Int):zFk v0 v1 v2 =
 ifO (decide (v2<v1))
 (ifO (decide (((0:Int)<=v2)/\(v2<(((List.length v0):Nat):Int))))
 (ifO (zH EE 6 46 (nth v0 (Int.toNat v2)))
 (ifO (bne (zC (nth v0 (Int.toNat v2))) (0:Int))
 (some (.val (eI (zC (nth v0 (Int.toNat v2))))))
 ((zFk v0 v1 (IntKind.wrap .i64 (v2+(1:Int))))))
 (none))
 (none))
 (some (.val (eI 0))) :=
 (zk 148 0 _).trans (by kernel_rfl)
theorem C148(x0:DV):zB 148 [x0] =
 ifO (zS (zH EE 6) [290] [x0])
 ((zFk (elems x0) (((List.length (elems x0)):Nat):Int) (0:Int)))
 (none) :=
 (zM (f:=148) (by kernel_rfl) (by kernel_rfl) (by kernel_rfl) [x0]).trans (by kernel_rfl)
theorem C149(x0 x1 x2:DV):zB 149 [x0,x1,x2] =
 ifO (zS (zH EE 6) [3,3,3] [x0,x1,x2])
 (ifO (decide ((zC x0)<(zC x1)))
 (zI (zB 169 [(.bool true),(eI 3)])
 (λr0=>ifO (zH EE 6 46 r0)
 (some (.val (eI (zC r0))))
 (none))
 (λ_ _=>none))
 (zI (zB 169 [(.bool (decide ((zC x0)>(zC x2)))),(eI 3)])
 (λr3=>ifO (zH EE 6 46 r3)
 (some (.val (eI (zC r3))))
 (none))
 (λ_ _=>none)))
 (none) :=
 (zM (f:=149) (by kernel_rfl) (by kernel_rfl) (by kernel_rfl) [x0,x1,x2]).trans (by kernel_rfl)
theorem C169(x0 x1:DV):zB 169 [x0,x1] =
 ifO (zS (zH EE 6) [4,46] [x0,x1])
 (ifO (YI x0)
 (some (.val (eI (zC x1))))
 (some (.val (eI 0))))
 (none) :=
 (zM (f:=169) (by kernel_rfl) (by kernel_rfl) (by kernel_rfl) [x0,x1]).trans (by kernel_rfl)
theorem C224(x0:DV):zB 224 [x0] =
 ifO (zS (zH EE 6) [9] [x0])
 (zI (zB 279 [(.str (ze x0))])
 (λr0=>ifO (zH EE 6 4 r0)
 (zI (zB 136 [(.bool (!(YI r0))),(eI 8)])
 (λr1=>ifO (zH EE 6 46 r1)
 (some (.val (eI (zC r1))))
 (none))
 (λ_ _=>none))
 (none))
 (λ_ _=>none))
 (none) :=
 (zM (f:=224) (by kernel_rfl) (by kernel_rfl) (by kernel_rfl) [x0]).trans (by kernel_rfl)
theorem C225(x0 x1 x2:DV):zB 225 [x0,x1,x2] =
 ifO (zS (zH EE 6) [3,3,3] [x0,x1,x2])
 (ifO (decide ((zC x0)<(zC x1)))
 (zI (zB 136 [(.bool true),(eI 3)])
 (λr0=>ifO (zH EE 6 46 r0)
 (some (.val (eI (zC r0))))
 (none))
 (λ_ _=>none))
 (zI (zB 136 [(.bool (decide ((zC x0)>(zC x2)))),(eI 3)])
 (λr3=>ifO (zH EE 6 46 r3)
 (some (.val (eI (zC r3))))
 (none))
 (λ_ _=>none)))
 (none) :=
 (zM (f:=225) (by kernel_rfl) (by kernel_rfl) (by kernel_rfl) [x0,x1,x2]).trans (by kernel_rfl)
theorem C168(x0:DV):zB 168 [x0] =
 ifO (zS (zH EE 6) [141] [x0])
 (zI (zB 149 [(eI (zC (nth (flds x0) 0))),(eI (-1000)),(eI 1000)])
 (λr0=>ifO (zH EE 6 46 r0)
 (zI (zB 149 [(eI (zC (nth (flds x0) 1))),(eI (-1000)),(eI 1000)])
 (λr1=>ifO (zH EE 6 46 r1)
 (zI (zB 148 [(.sl 1 [(eI (zC r0)),(eI (zC r1))])])
 (λr2=>ifO (zH EE 6 46 r2)
 (some (.val (eI (zC r2))))
 (none))
 (λ_ _=>none))
 (none))
 (λ_ _=>none))
 (none))
 (λ_ _=>none))
 (none) :=
 (zM (f:=168) (by kernel_rfl) (by kernel_rfl) (by kernel_rfl) [x0]).trans (by kernel_rfl)
theorem C239(x0:DV):zB 239 [x0] =
 ifO (zS (zH EE 6) [141] [x0])
 (zI (zB 225 [(eI (zC (nth (flds x0) 0))),(eI (-1000)),(eI 1000)])
 (λr0=>ifO (zH EE 6 46 r0)
 (zI (zB 225 [(eI (zC (nth (flds x0) 1))),(eI (-1000)),(eI 1000)])
 (λr1=>ifO (zH EE 6 46 r1)
 (zI (zB 134 [(.sl 1 [(eI (zC r0)),(eI (zC r1))])])
 (λr2=>ifO (zH EE 6 46 r2)
 (some (.val (eI (zC r2))))
 (none))
 (λ_ _=>none))
 (none))
 (λ_ _=>none))
 (none))
 (λ_ _=>none))
 (none) :=
 (zM (f:=239) (by kernel_rfl) (by kernel_rfl) (by kernel_rfl) [x0]).trans (by kernel_rfl)
theorem C164(x0:DV):zB 164 [x0] =
 ifO (zS (zH EE 6) [141] [x0])
 (zI (zB 37 [(eI (zC (nth (flds x0) 0))),(eI (-1000)),(eI 1000)])
 (λr0=>ifO (zH EE 6 3 r0)
 (zI (zB 37 [(eI (zC (nth (flds x0) 1))),(eI (-1000)),(eI 1000)])
 (λr1=>ifO (zH EE 6 3 r1)
 (zI (zB 35 [(.sl 1 [(eI (zC r0)),(eI (zC r1))])])
 (λr2=>ifO (zH EE 6 3 r2)
 (some (.val (eI (zC r2))))
 (none))
 (λ_ _=>none))
 (none))
 (λ_ _=>none))
 (none))
 (λ_ _=>none))
 (none) :=
 (zM (f:=164) (by kernel_rfl) (by kernel_rfl) (by kernel_rfl) [x0]).trans (by kernel_rfl)
theorem C192(x0 x1:DV):zB 192 [x0,x1] =
 ifO (zS (zH EE 6) [141,141] [x0,x1])
 (some (.val (eI (IntKind.wrap .i64 ((IntKind.wrap .i64 ((IntKind.wrap .i64 ((zC (nth (flds x0) 0)) - (zC (nth (flds x1) 0)))) * (IntKind.wrap .i64 ((zC (nth (flds x0) 0)) - (zC (nth (flds x1) 0))))))+(IntKind.wrap .i64 ((IntKind.wrap .i64 ((zC (nth (flds x0) 1)) - (zC (nth (flds x1) 1)))) * (IntKind.wrap .i64 ((zC (nth (flds x0) 1)) - (zC (nth (flds x1) 1)))))))))))
 (none) :=
 (zM (f:=192) (by kernel_rfl) (by kernel_rfl) (by kernel_rfl) [x0,x1]).trans (by kernel_rfl)
theorem C240(x0 x1:DV):zB 240 [x0,x1] =
 ifO (zS (zH EE 6) [141,141] [x0,x1])
 (some (.val (eI (IntKind.wrap .i64 ((IntKind.wrap .i64 ((IntKind.wrap .i64 ((zC (nth (flds x0) 0)) - (zC (nth (flds x1) 0)))) * (IntKind.wrap .i64 ((zC (nth (flds x0) 0)) - (zC (nth (flds x1) 0))))))+(IntKind.wrap .i64 ((IntKind.wrap .i64 ((zC (nth (flds x0) 1)) - (zC (nth (flds x1) 1)))) * (IntKind.wrap .i64 ((zC (nth (flds x0) 1)) - (zC (nth (flds x1) 1)))))))))))
 (none) :=
 (zM (f:=240) (by kernel_rfl) (by kernel_rfl) (by kernel_rfl) [x0,x1]).trans (by kernel_rfl)
def S126_0a(v0 v1:List DV)(v2:Int):St :=
 zx 26 [(0,(.d (.sl 1 v0))),(1,(.d (.sl 1 v1))),(5,(.d (eI v2)))] []
noncomputable def zC0(v0 v1:List DV)(v2:Int):Option CR:=goQ 126 0 (S126_0a v0 v1 v2)
theorem zFv(v0 v1:List DV)(v2:Int):zC0 v0 v1 v2 =
 ifO (decide (v2<(((List.length v0):Nat):Int)))
 (ifO (decide (((0:Int)<=v2)/\(v2<(((List.length v0):Nat):Int))))
 (ifO (zH EE 6 3 (nth v0 (Int.toNat v2)))
 (ifO (decide (((0:Int)<=v2)/\(v2<(((List.length v1):Nat):Int))))
 (ifO (zH EE 6 3 (nth v1 (Int.toNat v2)))
 (ifO (bne (zC (nth v0 (Int.toNat v2))) (zC (nth v1 (Int.toNat v2))))
 (some (.val (.bool false)))
 ((zC0 v0 v1 (IntKind.wrap .i64 (v2+(1:Int))))))
 (none))
 (none))
 (none))
 (none))
 (some (.val (.bool true))) :=
 (zk 126 0 _).trans (by kernel_rfl)
theorem C126(x0 x1:DV):zB 126 [x0,x1] =
 ifO (zS (zH EE 6) [25,25] [x0,x1])
 (ifO (bne (((List.length (elems x0)):Nat):Int) (((List.length (elems x1)):Nat):Int))
 (some (.val (.bool false)))
 ((zC0 (elems x0) (elems x1) (0:Int))))
 (none) :=
 (zM (f:=126) (by kernel_rfl) (by kernel_rfl) (by kernel_rfl) [x0,x1]).trans (by kernel_rfl)
def S231_0a(v0:Int)(v1:List DV)(v2 v3:Int):St :=
 zx 17 [(3,(.d (eI v0))),(6,(.d (.sl 1 v1))),(7,(.d (eI v2))),(8,(.d (eI v3)))] []
noncomputable def zCx(v0:Int)(v1:List DV)(v2 v3:Int):Option CR:=goQ 231 0 (S231_0a v0 v1 v2 v3)
theorem zFM(v0:Int)(v1:List DV)(v2 v3:Int):zCx v0 v1 v2 v3 =
 ifO (decide (v3<v2))
 (ifO (decide (((0:Int)<=v3)/\(v3<(((List.length v1):Nat):Int))))
 (ifO (zH EE 6 3 (nth v1 (Int.toNat v3)))
 ((zCx (IntKind.wrap .i64 (v0+(zC (nth v1 (Int.toNat v3))))) v1 v2 (IntKind.wrap .i64 (v3+(1:Int)))))
 (none))
 (none))
 (some (.val (eI v0))) :=
 (zk 231 0 _).trans (by kernel_rfl)
theorem C231(x0:DV):zB 231 [x0] =
 ifO (zS (zH EE 6) [25] [x0])
 ((zCx (0:Int) (elems x0) (((List.length (elems x0)):Nat):Int) (0:Int)))
 (none) :=
 (zM (f:=231) (by kernel_rfl) (by kernel_rfl) (by kernel_rfl) [x0]).trans (by kernel_rfl)
def S93_0a(v0:Int)(v1:List DV)(v2 v3:Int):St :=
 zx 17 [(3,(.d (eI v0))),(6,(.d (.sl 1 v1))),(7,(.d (eI v2))),(8,(.d (eI v3)))] []
noncomputable def zGf(v0:Int)(v1:List DV)(v2 v3:Int):Option CR:=goQ 93 0 (S93_0a v0 v1 v2 v3)
theorem zHR(v0:Int)(v1:List DV)(v2 v3:Int):zGf v0 v1 v2 v3 =
 ifO (decide (v3<v2))
 (ifO (decide (((0:Int)<=v3)/\(v3<(((List.length v1):Nat):Int))))
 (ifO (zH EE 6 3 (nth v1 (Int.toNat v3)))
 ((zGf (IntKind.wrap .i64 (v0+(zC (nth v1 (Int.toNat v3))))) v1 v2 (IntKind.wrap .i64 (v3+(1:Int)))))
 (none))
 (none))
 (some (.val (eI v0))) :=
 (zk 93 0 _).trans (by kernel_rfl)
theorem C93(x0:DV):zB 93 [x0] =
 ifO (zS (zH EE 6) [25] [x0])
 ((zGf (0:Int) (elems x0) (((List.length (elems x0)):Nat):Int) (0:Int)))
 (none) :=
 (zM (f:=93) (by kernel_rfl) (by kernel_rfl) (by kernel_rfl) [x0]).trans (by kernel_rfl)
end Go.Am
namespace Go.Am
open Go.Proofs
open Go
variable[OO]
@[simp] theorem c169(b:Bool)(e:Int):zB 169 [.bool b,eI e]=some (.val (eI (if b then e else 0))):=by rw[C169];simp;cases b <;> simp
@[simp] theorem c136(b:Bool)(e:Int):zB 136 [.bool b,eI e]=some (.val (eI (if b then e else 0))):=by rw[C136];simp;cases b <;> simp
@[simp] theorem c149(n a b:Int):zB 149 [eI n,eI a,eI b]=some (.val (eI (zZ n a b))):=by rw[C149];simp[zX,zZ];by_cases h:n<a <;> simp[h]
@[simp] theorem c225(n a b:Int):zB 225 [eI n,eI a,eI b]=some (.val (eI (zZ n a b))):=by rw[C225];simp[zX,zZ];by_cases h:n<a <;> simp[h]
@[simp] theorem c37(n a b:Int):zB 37 [eI n,eI a,eI b]=some (.val (eI (zZ n a b))):=by rw[C37];simp[zX,zZ];by_cases h:n<a <;> by_cases h':n>b <;> simp[h,h']
theorem l148(l:List Int)(hl:l.length<=4611686018427387904):∀i,i<=l.length->zFk (l.map eI) l.length i=some (.val (eI (zO (l.drop i)))):=by
 apply down
 ·rw[zFj];simp[zO]
 ·intro i hi ih;rw[zFj,zi l i hi];have e1:(i:Int)<l.length:=by omega
  simp[e1,zP _ l i hi,jE,zO,wr (i+1) (by omega)]
  split
  ·exact_mod_cast ih
  ·rfl
@[simp] theorem c148(l:List Int)(hl:l.length<=4611686018427387904):zB 148 [.sl 1 (l.map eI)]=some (.val (eI (zO l))):=by rw[C148];simpa using l148 l hl 0 (Nat.zero_le _)
end Go.Am
