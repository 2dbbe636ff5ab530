/- WakeLess: for every input the law returns true, and each argument reads afterwards as it read before. Part 6. -/
import Derived.Test.YtojkhldombndpaaGreatDoorWS5
set_option linter.all false
namespace Go.Am
open Go.Proofs
open Go
def fS:Fm:=⟨⟨bs [115],1,[⟨bs [97],⟨0,2⟩⟩,⟨bs [98],⟨0,1⟩⟩,⟨bs [99],⟨1,0⟩⟩]⟩,⟨rM,[128,64],[0,1]⟩,⟨[0,0,100,300,300],5⟩,(z51.set 4 2) :: List.replicate 7 z51⟩
def pS:Pn:=⟨[⟨0,2⟩,⟨0,1⟩,⟨1,1⟩],1,fS.w,fS.c,fS.r⟩
def gS:List (List Int):=[[0,1],[2]]
theorem okS:zv fS.r:=by
 refine⟨rfl,λr hr=>?_⟩
 rcases List.mem_cons.1 hr with rfl | hr
 ·rfl
 ·rw[List.eq_of_mem_replicate hr];rfl
variable[OO]
class KnB[OO]:Prop where
 bound:zB 50 [ePn pS,.sl 1 (gS.map λg=>.sl 1 (g.map eI)),eI 2]=some (.val (.tup [eI 307200,eI 0]))
theorem c154:zB 154 []=some (.val (eFm fS)):=C154.trans (by kernel_rfl)
theorem c155:zB 155 []=some (.val (ePn pS)):=by rw[C155,c154];simp only[zJ,hFm fS okS,zF,zV,zY,zb,zq,zy,zl,zK,zQ];rfl
theorem a1:zB 64 [eSi fS.s,eI 0,eI 0,eI 2]=some (.val (.tup [eI 2,eI 1,eI 0])):=(c64 fS.s 0 0 2).trans (by kernel_rfl)
theorem a2:zB 64 [eSi fS.s,eI 1,eI 0,eI 2]=some (.val (.tup [eI 0,eI 3,eI 0])):=(c64 fS.s 1 0 2).trans (by kernel_rfl)
theorem a3[KnW]:zB 77 [eSi fS.s,eWk fS.w,eI 0]=some (.val (.tup [.sl 1 [eI 0,eI 128,eI 64],eI 0])):=(c77 fS.s fS.w 0).trans (by kernel_rfl)
theorem a4[KnO]:zB 68 [eSi fS.s,eI 0]=some (.val (.tup [.sl 1 [eI 0,eI 1,eI 2],eI 0])):=(KnO.order fS.s 0).trans (by kernel_rfl)
theorem a5[KnW]:zB 78 [eSi fS.s,eWk fS.w,eI 0,eI 4]=some (.val (.tup [.sl 1 [eI 1024,eI 512,eI 768],eI 0])):=(c78 fS.s fS.w 0 4).trans (by kernel_rfl)
theorem a6[KnW]:zB 32 [eFm fS,eI 0,eI 4]=some (.val (.tup [.sl 1 [eI 76800,eI 25600,eI 76800],eI 0])):=(c32 fS okS 0 4).trans (by kernel_rfl)
theorem a7[KnW]:zB 32 [eFm fS,eI 0,eI 5]=some (.val (.tup [.sl 1 [eI 0,eI 0,eI 0],eI 0])):=(c32 fS okS 0 5).trans (by kernel_rfl)
theorem a8:zB 106 [eCu fS.c,eI 640]=some (.val (.tup [eI 51200,eI 0])):=(c106 fS.c 640).trans (by kernel_rfl)
theorem a14[KnW]:zB 30 [eFm fS]=some (.val (.tup [eI 358400,eI 0])):=(c30 fS okS).trans (by kernel_rfl)
theorem a15[KnW]:zB 84 [eFm fS]=some (.val (.tup [eI 460800,eI 0])):=(c84 fS okS).trans (by kernel_rfl)
theorem a16[KnW]:zB 85 [eFm fS]=some (.val (.tup [.agg 1 [eI 2,eI 9],eI 0])):=(c85 fS okS).trans (by kernel_rfl)
theorem a18[KnW][KnS]:zB 44 [ePn pS,eI 2]=some (.val (.tup [.sl 1 [eI 0,eI 2],eI 307200,eI 0])):=(c44 pS okS 2).trans (by kernel_rfl)
theorem textS:textB fS.c=bs [53,32,48,32,48,32,49,48,48,32,51,48,48,32,51,48,48]:=by
 have e5:Lib.itoa 5=[53]:=by rw[show(5:Int)=((5:Nat):Int) from rfl,Lib.itoa_nonneg,Lib.decDigits_one (by decide)];decide
 have e0:Lib.itoa 0=[48]:=by rw[show(0:Int)=((0:Nat):Int) from rfl,Lib.itoa_nonneg,Lib.decDigits_one (by decide)];decide
 have e100:Lib.itoa 100=[49,48,48]:=by rw[show(100:Int)=((100:Nat):Int) from rfl,Lib.itoa_nonneg,Lib.decDigits,dif_neg (by decide),Lib.decDigits_two (by decide) (by decide)];decide
 have e300:Lib.itoa 300=[51,48,48]:=by rw[show(300:Int)=((300:Nat):Int) from rfl,Lib.itoa_nonneg,Lib.decDigits,dif_neg (by decide),Lib.decDigits_two (by decide) (by decide)];decide
 unfold textB fS;simp only[List.map_cons,List.map_nil,e5,e0,e100,e300];decide
theorem a21[KnS]:zB 108 [eCu fS.c]=some (.val (.tup [.str (bs [53,32,48,32,48,32,49,48,48,32,51,48,48,32,51,48,48]),eI 0])):=by rw[c108,textS];exact(show _=_ by kernel_rfl)
theorem same3(a b c x y z:Int):zB 126 [.sl 1 [eI a,eI b,eI c],.sl 1 [eI x,eI y,eI z]]=some (.val (.bool (decide ([a,b,c]=[x,y,z])))):=c126 [a,b,c] [x,y,z] (by simp)
theorem same2(a b x y:Int):zB 126 [.sl 1 [eI a,eI b],.sl 1 [eI x,eI y]]=some (.val (.bool (decide ([a,b]=[x,y])))):=c126 [a,b] [x,y] (by simp)
theorem w0:IntKind.i64.wrap (0+0)=0:=by decide
theorem bneS(a:Int):bne a a=false:=by simp
theorem hRat(a b:Int):zH EE 6 160 (.agg 1 [eI a,eI b])=true:=by kernel_rfl
theorem eqRat(a b c d:Int):Y0 EE 160 (.agg 1 [eI a,eI b]) (.agg 1 [eI c,eI d])=some ((a == c) && ((b == d) && true)):=by kernel_rfl
set_option maxHeartbeats 4000000 in
theorem awake[KnW][KnS][KnO][KnB]:zB 33 []=some (.val (.bool true)):=by have hg:zB 50 [ePn pS,.sl 1 [.sl 1 [eI 0,eI 1],.sl 1 [eI 2]],eI 2]=some (.val (.tup [eI 307200,eI 0])):=KnB.bound;rw[C33,c154];simp only[zJ,hFm fS okS,zF,zV,zY,zb,zq,zy,zl,zK,zQ];simp only[a1,a2,a3,a4,a5,a6,a7,a8,zJ,zz,jD,zL,zN,h3,h46,h25,Bool.and_self,zF,zY,zb,zq,zK,zQ,w0,bneS,zT,same3,decide_true,h4,z8,Bool.not_true];simp only[a14,a15,a16,c155,zJ,zz,jD,zL,zN,h3,h46,hRat,Bool.and_self,zF,hPn pS okS,zV,zY,zb,zq,zy,QW,zl,zK,zQ];simp only[a18,hg,a21,zJ,zz,jD,zL,zN,h3,h46,h9,h25,Bool.and_self,zF,zV,zY,zb,zq,zl,zK,zQ,w0,beq_self_eq_true,m1,eqRat,Option.getD_some,same2,decide_true,h4,z8]
end Go.Am
namespace Go.Am
open Go.Proofs
open Go Go.RowKit Go.Maps
theorem rd_row{L:Nat->List Nat}{S:Nat->Prop}{V:World}{B n:Nat}{oa:Option Addr}{oc:Nat}{l:List Int}(hn:l.length=n)(hr:V.ownsRow B 3 1 (.slice oa n oc) n (l.map (Value.int .i64)))(hS:∀b,B<=b->b<V.heap.size->S b) :
  RV L S V (.sl 1 (l.map eI)) (.slice oa n oc):=by
 have hlt:∀{g:Nat} {o:Obj},V.heap[g]? = some o->g<V.heap.size:=λh=>(Array.getElem?_eq_some_iff.1 h).1
 have el:∀(i:Nat) (h:i<(l.map eI).length) (h':i<(l.map λm=>[Value.int .i64 m]).length),RD L S V (l.map eI)[i] (l.map λm=>[Value.int .i64 m])[i]:=λi h h'=>by rw[List.getElem_map,List.getElem_map];exact .int _ _
 have hz:∀cs∈(l.map λm=>[Value.int .i64 m]),cs.length=1:=λcs h=>by obtain⟨m,_,rfl⟩:=List.mem_map.1 h;rfl
 obtain⟨h1,h2⟩:=hr;have hc:n<=oc:=by
  rcases h2 with ⟨e,e2⟩ | ⟨g,cap,cur,e,hg,hh,hc1,_⟩
  ·omega
  ·injection e with _ _ e5;omega
 refine⟨.sl 1 (l.map eI) oa n oc (l.map λm=>[Value.int .i64 m]) (by simp[hn]) hc (by simp) el hz λh0=>?_,rfl⟩
 rcases h2 with ⟨e,e2⟩ | ⟨g,cap,cur,e,hg,hh,hc1,hc2,hsz,ht⟩
 ·omega
 ·injection e with e3 e4 e5;refine⟨⟨g,0,none⟩,e3,rfl,hS g hg (hlt hh),λj u hj=>?_⟩
  rw[flat1] at hj;have hj2:(cur.toList.take (n * 1))[j]? = some u:=by rw[ht];exact hj
  rw[List.getElem?_take] at hj2;split at hj2
  ·rw[jk rfl];simp only[World.cell?,hh,Nat.zero_add];simpa using hj2
  ·cases hj2
theorem ch_val{E:Env}{S:Nat->Prop}{w:World}{ys:List DV}{e:Int}{fd:Bool}{v:Value}(h:RV E.L S w (.tup [.agg 1 [.sl 1 ys,eI e],.bool fd]) v):∃pa pn pc,v=.tuple #[.agg #[.slice pa pn pc,.int .i64 e],.bool fd]:=by
 obtain⟨vs,rfl,hl,hv⟩:=h
 match vs,hl with
 | [va,vb],_ =>
  have h0:RV E.L S w (.agg 1 [.sl 1 ys,eI e]) va:=hv 0 (by simp) (by simp)
  have h1:RV E.L S w (.bool fd) vb:=hv 1 (by simp) (by simp)
  obtain rfl:=h1.bool;obtain⟨cs,rfl,hcs⟩:=h0.agg;generalize hq:cs.toList=q at hcs;cases hcs with
  | agg _ _ css hl h hz =>
   match css,hl with
   | [c0,c1],_ =>
    have e0:RD E.L S w (.sl 1 ys) c0:=h 0 (by simp) (by simp)
    have e1:RD E.L S w (eI e) c1:=h 1 (by simp) (by simp)
    have e2:=e1.int1;subst e2;cases e0 with
    | sl _ _ a n c _ _ _ _ _ _ _ =>
     refine⟨a,n,c,?_⟩;have:cs=#[.slice a n c,.int .i64 e]:=by apply Array.ext';simpa using hq
     rw[this]
theorem qf{en:List Nat->Int}{near:Nat->Nat->Bool}:∀(l taken:List Nat) (n:Nat) (c:List Nat) (e:Int),JL en near l taken n=some (c,e)->e=en c/\c.length=taken.length+n/\n<=l.length/\∀i∈c,i∈taken\/i∈l
 | l,taken,0,c,e,h=>by
  have h':some (taken,en taken)=some (c,e):=by cases l <;> exact h
  injection h' with h'
  injection h' with h1 h2
  subst h1;exact⟨h2.symm,rfl,Nat.zero_le _,λi hi=>.inl hi⟩
 | [],taken,n+1,c,e,h=>by cases h
 | i :: l,taken,n+1,c,e,h=>by
  rcases pick_some h with h | h
  ·split at h
   ·cases h
   ·obtain⟨h1,h2,h0,h3⟩:=qf l _ n c e h;refine⟨h1,by simp at h2;omega,by simp;omega,λj hj=>?_⟩
    rcases h3 j hj with h | h
    ·rcases List.mem_append.1 h with h | h
     ·exact .inl h
     ·simp at h;exact .inr (by simp[h])
    ·exact .inr (by simp[h])
  ·obtain⟨h1,h2,h0,h3⟩:=qf l taken (n+1) c e h;exact⟨h1,h2,by simp;omega,λj hj=>(h3 j hj).imp id λh=>by simp[h]⟩
theorem zHM{p:Pn}(h:PlanOK p)(c:List Nat)(hc:c.length<=64):0<=enP p c/\enP p c<=30000000000000000:=by
 have:=qo h.v.c p.w (ps:=c.map λi=>p.ps.getD i default) (by simpa using hc) 0 h.v.r h.v.q
 unfold enP;omega
theorem best_at[OO](hE:EnvOKo PP EE OO.o)[KnW][KnS]{p:Pn}(h:PlanOK p){S:Nat->Prop}{w1:World}{B:Nat}{sa:Option Addr}(hsa:RV EE.L S w1 (.dp (eSe p)) (.pointer sa))(hg:GlobOK EE S w1)(hlt:∀b,S b->b<B)(hBw:B<=w1.heap.size)
  (V:World) (l:List Nat) (oa:Option Addr) (n oc k:Nat) (hB:Below B w1 V) (hn:l.length=n) (hrow:V.ownsRow B 3 1 (.slice oa n oc) n ((l.map (Nat.cast:Nat->Int)).map (Value.int .i64))) (hk:k<=64) (hl:l.length<=1000) (hi:∀i∈l,i<p.ps.length) :
  Calls PP 162 #[.pointer sa,.slice oa n oc,.slice none 0 0,.int .i64 k] V λe w'=>∃(pa:Option Addr) (pn pc:Nat) (en:Int) (fd:Bool),e=.returned (.tuple #[.agg #[.slice pa pn pc,.int .i64 en],.bool fd])/\Below V.heap.size V w' /\
   (JL (enP p) (jT p) l [] k).map (·.2)=(if fd=true then some en else none)/\0<=en/\en<=1000000000000000000:=by
 have hVs:=hB.size;have key:=(jg hE XX 162 [.dp (eSe p),.sl 1 (l.map eN),.sl 1 (([]:List Nat).map eN),eN k] _ (c162 p h l [] k hl (by simpa using hk) hi (by simp))).2 (λb=>S b\/(B<=b/\b<V.heap.size)) V
  [.pointer sa,.slice oa n oc,.slice none 0 0,.int .i64 k] (hg.mono (λb hb=>.inl hb) (λb hb=>hB.block b (hlt b hb))) (λb hb=>by
   rcases hb with hb | hb
   ·have:=hlt b hb;omega
   ·exact hb.2) rfl (λi h1 h2=>by
   match i,h1,h2 with
   | 0,_,_=>exact hsa.mono (λb hb=>.inl hb) (λb hb=>hB.block b (hlt b hb))
   | 1,_,_ =>
    have:=rd_row (L:=EE.L) (S:=λb=>S b\/(B<=b/\b<V.heap.size)) (by simpa using hn) hrow (λb h1 h2=>.inr ⟨h1,h2⟩)
    rw[<-map_eN'] at this;exact this
   | 2,_,_=>exact⟨.sl 1 [] none 0 0 [] rfl (Nat.le_refl 0) rfl (λi h=>by simp at h) (by simp) (by simp),rfl⟩
   | 3,_,_=>exact .mkInt _ _)
 refine key.mono λe w' ⟨v,he,hr⟩=>?_
 subst he;cases hb:JL (enP p) (jT p) l [] k with
 | none =>
  rw[hb] at hr;obtain⟨S',hBl,_,_,_,hv⟩:=hr;obtain⟨pa,pn,pc,rfl⟩:=ch_val (E:=EE) hv;exact⟨pa,pn,pc,0,false,rfl,hBl,rfl,by omega,by omega⟩
 | some c =>
  obtain⟨c,e⟩:=c;rw[hb] at hr;obtain⟨S',hBl,_,_,_,hv⟩:=hr;obtain⟨pa,pn,pc,rfl⟩:=ch_val (E:=EE) hv;obtain⟨h1,h2,_,_⟩:=qf _ _ _ _ _ hb;have:=zHM h c (by simp at h2;omega)
  subst h1;exact⟨pa,pn,pc,_,true,rfl,hBl,rfl,by omega,by omega⟩
end Go.Am
namespace Go.Am
open Go.Proofs
open Go
theorem zJg{d0:Int->Option Int}{bst:Nat->Option Int}{M X Y:Int}(hX:0<=X)(hY:0<=Y)(hd:∀m v,d0 m=some v->0<=m/\m<=M/\0<=v/\v<=X)(hb:∀k e,bst k=some e->0<=e/\e<=Y) :
  ∀(L:Nat) (m v:Int),zEC d0 bst L m=some v->0<=m/\m+1<=M+L/\0<=v/\v<=X+Y
 | 0,m,v,h=>by cases h
 | L+1,m,v,h=>by
  unfold zEC at h;have ih:=zJg hX hY hd hb L m;cases hbl:bst L with
  | none =>
   rw[hbl] at h;have:=ih v h;omega
  | some be =>
   rw[hbl] at h;have hbe:=hb L be hbl;simp only[zGr] at h;cases hx:d0 (m - L) with
   | none =>
    rw[hx] at h;have:=ih v h;omega
   | some e =>
    rw[hx] at h;have he:=hd _ _ hx;cases hy:zEC d0 bst L m with
    | none =>
     rw[hy] at h;simp only[Option.some.injEq] at h;omega
    | some old =>
     rw[hy] at h;have ho:=ih old hy;simp only[Option.some.injEq] at h;split at h <;> omega
def j8:List (List Int)->Nat
 | []=>0
 | g :: gs=>g.length+j8 gs
theorem qg:∀a b:List (List Int),j8 (a++b)=j8 a+j8 b
 | [],b=>by simp[j8]
 | g :: a,b=>by have:=qg a b;simp only[List.cons_append,j8];omega
theorem zBa:∀a:List (List Int),j8 a.reverse=j8 a
 | []=>rfl
 | g :: a=>by rw[List.reverse_cons,qg,zBa a];simp only[j8];omega
theorem zDT(a:List (List Int))(k:Nat):j8 (a.take k)<=j8 a:=by have:=qg (a.take k) (a.drop k);rw[List.take_append_drop] at this;omega
theorem zJb{bst:List Int->Nat->Option Int}{Y:Int}(hY:0<=Y):∀gs:List (List Int),(∀g∈gs,∀k e,bst (j5 g) k=some e->0<=e/\e<=Y)->∀m v,zEB bst gs m=some v->0<=m/\m<=j8 gs/\0<=v/\v<=gs.length * Y
 | [],_,m,v,h=>by
  unfold zEB at h;split at h
  ·injection h with h;subst h
   rename_i h;subst h;simp[j8]
  ·cases h
 | g :: gs,hb,m,v,h=>by
  have ih:=zJb hY gs (λg hg=>hb g (by simp[hg]))
  have hl:(0:Int)<=gs.length * Y:=Int.mul_nonneg (by omega) hY
  have:=zJg hl hY (λm v h=>ih m v h) (hb g (by simp)) _ m v h
  have e:((g :: gs).length:Int) * Y=gs.length * Y+Y:=by simp[Int.add_mul]
  rw[e];simp only[j8];omega
theorem zJW:∀gs:List (List Int),zIS gs<=2 ^ j8 gs
 | []=>Nat.le_refl _
 | g :: gs=>by have h1:=zJW gs;have h2:g.length+1<=2 ^ g.length:=Nat.lt_two_pow_self;simp only[zIS,j8,Nat.pow_add];exact Nat.mul_le_mul h2 h1
noncomputable def bstP(p:Pn)(l:List Int)(k:Nat):Option Int:=(JL (enP p) (jT p) (l.map Int.toNat) [] k).map (·.2)
theorem bstP_bnd{p:Pn}(h:PlanOK p){l:List Int}(hl:l.length<=64)(k:Nat)(e:Int)(hb:bstP p l k=some e):0<=e/\e<=30000000000000000:=by
 unfold bstP at hb;cases hc:JL (enP p) (jT p) (l.map Int.toNat) [] k with
 | none=>rw[hc] at hb;cases hb
 | some c =>
  obtain⟨c,e'⟩:=c;rw[hc] at hb;injection hb with hb
  have hb:e'=e:=hb;obtain⟨h1,h2,h3,_⟩:=qf _ _ _ _ _ hc;have:=zHM h c (by simp at h2 h3;omega)
  omega
end Go.Am
namespace Go.Am
open Go.Proofs
open Go
noncomputable def k50:Code:=YC EE 50
noncomputable def cs50:List Code:=[sq1 k50,sq1 (sq2 k50),sq1 (sq2 (sq2 k50))]
noncomputable def k50t:Code:=sq2 (sq2 (sq2 k50))
noncomputable def K50(e:Ex)(st:St):Tr:=match e with
 | .normal=>.goto 900 st
 | e=>zHL EE (EE.fresh 50) (j7 EE 50) e st
noncomputable def k50a:Code:=seqs cs50 .skip
noncomputable def a50(p gs n:DV):Tr:=zGY EE (XX.fx 50) (j7 EE 50) [p,gs,n] λst=>Jw EE XX (XX.fx 50) k50a 0 0 st K50
noncomputable def t50(v:Int)(b:Bool):Tr:=Jw EE XX (XX.fx 50) (sq2 k50t) 0 0 (zx 42 [(10,.d (.int .i64 v)),(11,.d (.bool b))] []) (zHL EE (EE.fresh 50) (j7 EE 50))
end Go.Am
namespace Go.Am
open Go.Proofs
open Go Go.RowKit Go.Maps
theorem zBx{H:Type}{P:Program}(w:World){ops:Array Oper}{rest:List Oper}{o:Oper}{a:Act}{Q:Exit->Act->World->Prop}
  (hg:o.guard=none) (m x v:Operand) (t:TypeId) (hop:o.op=Op.insert t m x v)
  (k e:TypeId) (K:Keyed P k) (ht:P.underlying t=some (.map k e)) (R:Value->Option (DataW H×List MemPlace)) (b n:Nat) (D:DataW H)
  (hm:a.eval m=.map (some b)) (hown:w.ownsMap P k R b n D) (hn:n<maxLen) (key val:Value) (kl:Lit) (hx:a.eval x=key) (hv:a.eval v=val) (hkey:keyOf P k key=some kl)
  (d:DataW H) (ps:List MemPlace) (hval:R val=some (d,ps))
  (hK:∀w',w'.ownsMap P k R b (n+1) (D.put kl d)->w.grownBy w' (some b)->wpList P ops Q rest (a.put o.dst undef) w') :
  wpList P ops Q (o :: rest) a w:=by
 refine wpList_plain hg λK' hK'=>?_
 obtain⟨w',hrun,r1,r2⟩:=hown.update K ht hn hkey hval;unfold Oper.wp;simp[execOp,hop,hm,hx,hv,hrun,Result.andThen];exact hK' _ _ (hK w' r1 r2)
set_option maxRecDepth 100000 in
set_option maxHeartbeats 4000000 in
theorem calls171{H:Type}(V:World)(sa:Option Addr)(gb go gcap:Nat)(gs:List (List Int))(bst:List Int->Nat->Option Int)(ga:Nat->Option Addr)(gc:Nat->Nat)
  (hcell:∀j (h:j<gs.length),V.cell? ⟨gb,go+j,none⟩=some (.slice (ga j) gs[j].length (gc j))) (hgb:gb<V.heap.size) (hgl:gs.length<=64) (hlen64:∀j (h:j<gs.length),gs[j].length<=64)
  (hprod:∀k,zIS (gs.take k).reverse<=1000) (hF:∀k m v,zEB bst (gs.take k).reverse m=some v->0<=m/\m<=50/\0<=v/\v<=1000000000000000000)
  (hints:∀j (h:j<gs.length),0<gs[j].length->∃b o,ga j=some ⟨b,o,none⟩/\b<V.heap.size/\zAH V b o gs[j])
  (hbest:∀(W:World) (j:Nat) (h:j<gs.length) (oa:Option Addr) (oc k:Nat),Below V.heap.size V W->W.ownsRow V.heap.size 3 1 (.slice oa gs[j].length oc) gs[j].length ((j5 gs[j]).map (Value.int .i64))->k<=gs[j].length ->
   Calls Tryz.prog 162 #[.pointer sa,.slice oa gs[j].length oc,.slice none 0 0,.int .i64 k] W λe w'=>∃(pa:Option Addr) (pn pc:Nat) (en:Int) (fd:Bool),e=.returned (.tuple #[.agg #[.slice pa pn pc,.int .i64 en],.bool fd])/\Below W.heap.size W w'/\bst (j5 gs[j]) k=(if fd=true then some en else none)/\0<=en/\en<=1000000000000000000) :
  Calls Tryz.prog 171 #[.pointer sa,.slice (some ⟨gb,go,none⟩) gs.length gcap] V λe w'=>∃(b n:Nat) (D:DataW H),e=.returned (.map (some b))/\w'.ownsMap Tryz.prog 3 (plainElem Tryz.prog 3) b n D/\(∀m,fD D m=zEB bst gs.reverse m)/\Below V.heap.size V w':=by
 have hmm:=@run_makeMap Tryz.prog;have HC:Hid _:=hcell;have HI:Hid _:=hints;have HB:Hid _:=hbest;have HF:Hid _:=hF;have HP:Hid _:=hprod;have HL:Hid _:=hlen64;clear hcell hints hbest hF hprod hlen64;have hown0:(V.alloc (.map #[] 0)).ownsMap Tryz.prog 3 (plainElem Tryz.prog 3) V.heap.size 0 (.map []:DataW H):=World.ownsMap_made _ _ _ _
 go_enter Tryz.func171,Tryz.ntmps171
 go_wp2_with (first
  | (refine zBx _ rfl _ _ _ 278 rfl 3 3 law3 Tryz.underlying278 _ V.heap.size _ _ rfl hown0 (by unfold maxLen;omega) _ _ _ rfl rfl (keyOf_int_mk Tryz.underlying3 (by decide)) _ [] (plainElem_int Tryz.underlying3 (by decide)) ?_;intro w1 hown1 hg1;go_frame)
  | go_in)
 have hs1:V.heap.size+1<=w1.heap.size:=by have:=hg1.size;rw[World.size_alloc] at this;exact this
 have hB1:Below V.heap.size V w1:=((Below.refl V.heap.size V).alloc (Nat.le_refl _) _).grown hg1 (by rw[World.size_alloc];omega) (λj hj=>by cases hj;exact Nat.le_refl _)
 refine outer171 w1 sa V.heap.size gb go gcap V.heap.size 1 gs _ _ _ _ _ _ _ _ _ _ _ _ _ _ _ _ _ _ _ _ _ _ _ _ _ _ _ _ _ _ _ _ _ _ _ _ _ _ _ _ _ _ _ _ _ _ _ _ _ _ _ _ _ _ _ _ _ _ _ _ _ _ _ _ _ _ _ _ _ _ _ _ _ _ _ _ _ bst ga gc hown1 (by omega) ?_ hgb hgl HL.out ?_ (Nat.le_refl 1) (Nat.le_refl _) HP.out HF.out ?_ ?_ _ ?_
 ·intro j h;exact(World.cell?_of_block (a:=⟨gb,go+j,none⟩) (hB1.block gb hgb)).trans (HC.out j h)
 ·intro m;rw[fD_put ⟨[],rfl⟩];rfl
 ·intro j h h0;obtain⟨b,o,e1,e2,e3⟩:=HI.out j h h0;exact⟨b,o,e1,e2,λi hi=>(World.cell?_of_block (a:=⟨b,o+i,none⟩) (hB1.block b e2)).trans (e3 i hi)⟩
 ·intro W j h oa oc k hBW hrow hk;exact HB.out W j h oa oc k (hB1.trans hBW) hrow hk
 ·intro v21 v7 v8 v9 v10 v11 v12 v13 v14 v15 v16 v22 v23 v24 v25 v26 v27 v28 v29 v30 v31 v32 v33 v34 v35 v36 v37 v38 v39 v40 v41 v42 v43 v44 v45 v46 v47 v48 v49 v50 v51 v52 v53 v54 v55 v56 v57 v58 v59 v60 v61 v62 v63 v64 v65 v66 v67 v68 v69 v70 v71 v72 v73 v74 v75 v76 v77 v78 v79 b n D w' hb hown' hA' hB';have hend:∃(b' n:Nat) (D:DataW H),Ending.returned (.map (some b))=.returned (.map (some b'))/\w'.ownsMap Tryz.prog 3 (plainElem Tryz.prog 3) b' n D/\(∀m,fD D m=zEB bst gs.reverse m)/\Below V.heap.size V w':=⟨b,n,D,rfl,hown',hA',hB1.trans hB'⟩;clear HC HI HB HF HP HL hown' hA' hown1 hown0;go_wp2;go_ret;exact hend
end Go.Am
namespace Go.Am
open Go.Proofs
open Go Go.RowKit Go.Maps
open Classical
section
variable{P:Program}{ops:Array Oper}{Q:Exit->Act->World->Prop}{a:Act}{w:World}{rest:List Oper}{d:Option Tmp}{ty:TypeId}{s:String}{af:Array Edge}
theorem zH3(x:Operand){v:Value}(he:a.eval x=v)(h:wpList P ops Q rest (a.put d v) w):wpList P ops Q ({ dst:=d,op:=.move x,type:=ty,pos:=s,after:=af,guard:=none } :: rest) a w :=
 wpList_plain rfl λK hK=>by unfold Oper.wp;simp only[execOp,he,Sem.run_bind,Result.andThen_ok,Sem.run_pure,Oper.upon];exact hK _ _ h
theorem zGn(x:Operand){v:Value}(he:a.eval x=v)(h:wpList P ops Q rest (a.put d v) w):wpList P ops Q ({ dst:=d,op:=.assign x,type:=ty,pos:=s,after:=af,guard:=none } :: rest) a w :=
 wpList_plain rfl λK hK=>by unfold Oper.wp;simp only[execOp,he,Sem.run_bind,Result.andThen_ok,Sem.run_pure,Oper.upon];exact hK _ _ h
theorem wl_load{t:TypeId}(x:Operand){u v:Value}(he:a.eval x=u)(hrun:(Instr.loadAt t u).run P w=.ok v w)(h:wpList P ops Q rest (a.put d v) w):wpList P ops Q ({ dst:=d,op:=.load t x,type:=ty,pos:=s,after:=af,guard:=none } :: rest) a w :=
 wpList_plain rfl λK hK=>by unfold Oper.wp;simp only[execOp,he,Sem.run_bind,hrun,Result.andThen_ok,Sem.run_pure,Oper.upon];exact hK _ _ h
theorem zET(x:Operand)(i:Nat){u v:Value}(he:a.eval x=u)(hrun:(Instr.extract u i).run P w=.ok v w)(h:wpList P ops Q rest (a.put d v) w):wpList P ops Q ({ dst:=d,op:=.extract x i,type:=ty,pos:=s,after:=af,guard:=none } :: rest) a w :=
 wpList_plain rfl λK hK=>by unfold Oper.wp;simp only[execOp,he,Sem.run_bind,hrun,Result.andThen_ok,Sem.run_pure,Oper.upon];exact hK _ _ h
theorem wl_call1{f:FuncId}{ats:Array TypeId}(x:Operand){v:Value}{R:Ending->World->Prop}(he:a.eval x=v)(eg:∀args w,(callFunc f args).run P w=.ok (.enter f args) w)(hc:Calls P f #[v] w R)
  (h:∀e w',R e w'->∃u,e=.returned u/\wpList P ops Q rest (a.put d u) w'):wpList P ops Q ({ dst:=d,op:=.call { callee:=.value (.func f),args:=#[x],argTypes:=ats },type:=ty,pos:=s,after:=af,guard:=none } :: rest) a w :=
 wpList_plain rfl λK hK=>by
  have hev:a.eval (.func f)=.func (.func f) #[] #[]:=rfl;have hrun:(execOp a.eval { dst:=d,op:=.call { callee:=.value (.func f),args:=#[x],argTypes:=ats },type:=ty,pos:=s,after:=af,guard:=none }).run P w=.ok (.enter f #[v]) w:=by simp[execOp,resolve,Deferred.ofValue,invoke,hev,he,eg]
  unfold Oper.wp;rw[hrun];show Calls P f _ _ _;refine hc.mono λe w' hr=>?_
  obtain⟨u,rfl,hq⟩:=h e w' hr;exact hK _ _ hq
theorem wl_call2{f:FuncId}{ats:Array TypeId}(x y:Operand){v u:Value}{R:Ending->World->Prop}(he:a.eval x=v)(he':a.eval y=u)(eg:∀args w,(callFunc f args).run P w=.ok (.enter f args) w)(hc:Calls P f #[v,u] w R)
  (h:∀e w',R e w'->∃u,e=.returned u/\wpList P ops Q rest (a.put d u) w'):wpList P ops Q ({ dst:=d,op:=.call { callee:=.value (.func f),args:=#[x,y],argTypes:=ats },type:=ty,pos:=s,after:=af,guard:=none } :: rest) a w :=
 wpList_plain rfl λK hK=>by
  have hev:a.eval (.func f)=.func (.func f) #[] #[]:=rfl;have hrun:(execOp a.eval { dst:=d,op:=.call { callee:=.value (.func f),args:=#[x,y],argTypes:=ats },type:=ty,pos:=s,after:=af,guard:=none }).run P w=.ok (.enter f #[v,u]) w:=by simp[execOp,resolve,Deferred.ofValue,invoke,hev,he,he',eg]
  unfold Oper.wp;rw[hrun];show Calls P f _ _ _;refine hc.mono λe w' hr=>?_
  obtain⟨u,rfl,hq⟩:=h e w' hr;exact hK _ _ hq
theorem size_put(a:Act)(d:Option Tmp)(v:Value):(a.put d v).tmps.size=a.tmps.size:=by cases d <;> simp[Act.put]
theorem eval_same{a:Act}{t:Tmp}(h:t<a.tmps.size)(v:Value):(a.put (some t) v).eval (.tmp t)=v:=by simp only[Act.eval,Act.put,Array.getD_eq_getD_getElem?,Array.getElem?_setIfInBounds_self_of_lt h,Option.getD_some]
theorem Yy{a:Act}{t:Tmp}(h:41<a.tmps.size)(ht:t<=41)(v:Value):(a.put (some t) v).eval (.tmp t)=v:=eval_same (Nat.lt_of_le_of_lt ht h) v
theorem jo(a:Act){t t':Tmp}(h:t≠t')(v:Value):(a.put (some t) v).eval (.tmp t')=a.eval (.tmp t'):=by simp only[Act.eval,Act.put,Array.getD_eq_getD_getElem?];rw[Array.getElem?_setIfInBounds_ne h]
end
noncomputable def head50(r:CR)(tgt:St)(j:Nat)(st:St):Tr:=if j=900 then (if Le [] tgt st then .ret r else .fail) else JX EE XX (XX.fx 50) j k50a 0 0 K50 st
noncomputable def K50r(r:CR)(tgt:St)(e:Ex)(st:St):Option CR:=match e with
 | .normal=>if Le [] tgt st then some r else none
 | e=>bnd (zEy EE (EE.fresh 50) (j7 EE 50) e st) (λr0=>some (zCA EE (EE.fresh 50) (j7 EE 50) r0))
section
variable[OO]
theorem a50_run(g:Nat->St->Option CR)(p gs n:DV):run (zB) g (a50 p gs n) =
 ifO (zS (zH EE 6) [88,95,3] [p,gs,n])
 (zI (zB 160 [(.agg 6 [(.sl 2 (elems (nth (flds p) 0))),(.int .i64 (zC (nth (flds p) 1))),(.agg 0 [(.str (ze (nth (flds (nth (flds p) 2)) 0))),(.sl 1 (elems (nth (flds (nth (flds p) 2)) 1))),(.sl 1 (elems (nth (flds (nth (flds p) 2)) 2)))]),(.agg 1 [(.sl 1 (elems (nth (flds (nth (flds p) 3)) 0))),(.int .i64 (zC (nth (flds (nth (flds p) 3)) 1)))]),(.agg 3 (flds (nth (flds p) 4)))])])
 (λr0=>ifO (zH EE 6 46 r0)
  (ifO (bne (zC r0) 0)
  (some (.val (.tup [(.int .i64 0),(.int .i64 (zC r0))])))
  (zI (zB 170 [(.agg 6 [(.sl 2 (elems (nth (flds p) 0))),(.int .i64 (zC (nth (flds p) 1))),(.agg 0 [(.str (ze (nth (flds (nth (flds p) 2)) 0))),(.sl 1 (elems (nth (flds (nth (flds p) 2)) 1))),(.sl 1 (elems (nth (flds (nth (flds p) 2)) 2)))]),(.agg 1 [(.sl 1 (elems (nth (flds (nth (flds p) 3)) 0))),(.int .i64 (zC (nth (flds (nth (flds p) 3)) 1)))]),(.agg 3 (flds (nth (flds p) 4)))]),(.sl 1 (List.map (cnE EE 25) (elems gs)))])
   (λr1=>ifO (zH EE 6 46 r1)
   (zI (zB 149 [(.int .i64 (zC n)),(.int .i64 0),(.int .i64 (((List.length (elems (nth (flds p) 0))):Nat):Int))])
    (λr2=>ifO (zH EE 6 46 r2)
    (zI (zB 148 [(.sl 1 [(.int .i64 (zC r1)),(.int .i64 (zC r2))])])
     (λr3=>ifO (zH EE 6 46 r3)
     (ifO (bne (zC r3) 0)
      (some (.val (.tup [(.int .i64 0),(.int .i64 (zC r3))])))
      ((g 900 (zx 42 [(0,(.d (.agg 6 [(.sl 2 (elems (nth (flds p) 0))),(.int .i64 (zC (nth (flds p) 1))),(.agg 0 [(.str (ze (nth (flds (nth (flds p) 2)) 0))),(.sl 1 (elems (nth (flds (nth (flds p) 2)) 1))),(.sl 1 (elems (nth (flds (nth (flds p) 2)) 2)))]),(.agg 1 [(.sl 1 (elems (nth (flds (nth (flds p) 3)) 0))),(.int .i64 (zC (nth (flds (nth (flds p) 3)) 1)))]),(.agg 3 (flds (nth (flds p) 4)))]))),(1,(.d (.sl 1 (elems gs)))),(2,(.d (.int .i64 (zC n)))),(3,(.ptr 3 415 0 [])),(6,(.d (.int .i64 0))),(7,(.d (.int .i64 0))),(8,(.d (.int .i64 (zC r0)))),(9,(.d (.int .i64 (zC r3)))),(12,(.d (.agg 6 [(.sl 2 (elems (nth (flds p) 0))),(.int .i64 (zC (nth (flds p) 1))),(.agg 0 [(.str (ze (nth (flds (nth (flds p) 2)) 0))),(.sl 1 (elems (nth (flds (nth (flds p) 2)) 1))),(.sl 1 (elems (nth (flds (nth (flds p) 2)) 2)))]),(.agg 1 [(.sl 1 (elems (nth (flds (nth (flds p) 3)) 0))),(.int .i64 (zC (nth (flds (nth (flds p) 3)) 1)))]),(.agg 3 (flds (nth (flds p) 4)))]))),(13,(.d (.int .i64 (zC r0)))),(14,(.d (.int .i64 (zC r0)))),(15,(.d (.bool false))),(17,(.d (.agg 6 [(.sl 2 (elems (nth (flds p) 0))),(.int .i64 (zC (nth (flds p) 1))),(.agg 0 [(.str (ze (nth (flds (nth (flds p) 2)) 0))),(.sl 1 (elems (nth (flds (nth (flds p) 2)) 1))),(.sl 1 (elems (nth (flds (nth (flds p) 2)) 2)))]),(.agg 1 [(.sl 1 (elems (nth (flds (nth (flds p) 3)) 0))),(.int .i64 (zC (nth (flds (nth (flds p) 3)) 1)))]),(.agg 3 (flds (nth (flds p) 4)))]))),(18,(.d (.sl 1 (elems gs)))),(19,(.d (.int .i64 (zC r1)))),(20,(.d (.int .i64 (zC n)))),(21,(.ptr 3 415 0 [(.mk 6 0)])),(22,(.d (.sl 2 (elems (nth (flds p) 0))))),(23,(.d (.int .i64 (((List.length (elems (nth (flds p) 0))):Nat):Int)))),(24,(.d (.int .i64 (zC r2)))),(25,(.own 25 0 2 1)),(26,(.d (.int .i64 (zC r3)))),(27,(.d (.int .i64 (zC r3)))),(28,(.d (.bool false)))] [(3,(.mk false (.dc 415 [(.agg 6 [(.sl 2 (elems (nth (flds p) 0))),(.int .i64 (zC (nth (flds p) 1))),(.agg 0 [(.str (ze (nth (flds (nth (flds p) 2)) 0))),(.sl 1 (elems (nth (flds (nth (flds p) 2)) 1))),(.sl 1 (elems (nth (flds (nth (flds p) 2)) 2)))]),(.agg 1 [(.sl 1 (elems (nth (flds (nth (flds p) 3)) 0))),(.int .i64 (zC (nth (flds (nth (flds p) 3)) 1)))]),(.agg 3 (flds (nth (flds p) 4)))])]))),(25,(.mk false (.dc 1 [(.int .i64 (zC r1)),(.int .i64 (zC r2))])))]))))
     (none))
    (λ_ _=>none))
    (none))
   (λ_ _=>none))
   (none))
  (λ_ _=>none)))
 (none))
 (λ_ _=>none))
 (none):=by kernel_rfl
theorem t50_run(g:Nat->St->Option CR)(v:Int)(b:Bool):run (zB) g (t50 v b) =
 ifO (!b)
 (some (.val (.tup [(.int .i64 0),(.int .i64 24)])))
 (some (.val (.tup [(.int .i64 v),(.int .i64 0)]))):=by kernel_rfl
theorem go50_end{r:CR}{tgt st:St}(h:Le [] tgt st):goH zB (head50 r tgt) 900 st=some r:=by rw[zGU];unfold head50;rw[if_pos rfl,if_pos h];rfl
theorem mono50(r:CR)(tgt:St):Mono r (K50r r tgt) (K50r r tgt):=by
 intro e s t hst h;cases e with
 | normal =>
  unfold K50r at h ⊢;simp only at h ⊢;split at h
  ·rename_i hk;rw[if_pos (Le.trans hk hst)]
  ·cases h
 | ret=>exact Yg (E:=EE) (fresh:=EE.fresh 50) (fn:=j7 EE 50) .ret s t hst h
 | exit i=>exact Yg (E:=EE) (fresh:=EE.fresh 50) (fn:=j7 EE 50) (.exit i) s t hst h
theorem exec50(p gs n:DV)(r:CR)(tgt:St)(h:run zB (goH zB (head50 r tgt)) (a50 p gs n)=some r):∃M,exec EE M (jr EE zB) (seqs cs50 .skip) (entry Tryz.f50 [p,gs,n]) (K50r r tgt)=some r:=by
 obtain⟨_,h⟩:=zBr (by rw[show(j7 EE 50).params.toList.length+(XX.fx 50).caps=3 by kernel_rfl,show(j7 EE 50).ntmps=42 by kernel_rfl];omega) h
 refine Q7 (X:=XX) (F:=XX.fx 50) (head:=head50 r tgt) (show zw k50a<=1000 by rw[show zw k50a=0 by kernel_rfl];omega) (λj hj st=>?_) (λp e st h=>?_) (mono50 r tgt) h
 ·unfold head50;rw[if_neg ?_]
  ·rfl
  ·have:zw (seqs cs50 .skip)=0:=by kernel_rfl
   rcases hj with ⟨h1,h2,h3⟩ | ⟨h1,h2⟩ <;> omega
 ·cases e with
  | normal =>
   have h1:goX zB (head50 r tgt) p 900 st=some r:=h;cases p with
   | zero=>simp[goX] at h1
   | succ p =>
    have h2:run zB (goX zB (head50 r tgt) p) (head50 r tgt 900 st)=some r:=h1;unfold head50 at h2;rw[if_pos rfl] at h2;unfold K50r;simp only;split at h2
    ·rename_i hk;rw[if_pos hk]
    ·simp[run] at h2
  | ret=>exact qV (E:=EE) (fresh:=EE.fresh 50) (fn:=j7 EE 50) (e:=.ret) (st:=st) h
  | exit i=>exact qV (E:=EE) (fresh:=EE.fresh 50) (fn:=j7 EE 50) (e:=.exit i) (st:=st) h
theorem tail50(v:Int)(b:Bool):∃M,exec EE M (jr EE zB) (sq2 k50t) (zx 42 [(10,.d (.int .i64 v)),(11,.d (.bool b))] []) (λe st=>bnd (zEy EE (EE.fresh 50) (j7 EE 50) e st) λr0=>some (zCA EE (EE.fresh 50) (j7 EE 50) r0)) =
  some (.val (.tup [eI (if b then v else 0),eI (if b then 0 else 24)])):=by
 refine Q7 (X:=XX) (F:=XX.fx 50) (head:=λj st=>JX EE XX (XX.fx 50) j (sq2 k50t) 0 0 (zHL EE (EE.fresh 50) (j7 EE 50)) st) (show zw (sq2 k50t)<=1000 by rw[show zw (sq2 k50t)=0 by kernel_rfl];omega) (λ_ _ _=>rfl) (λp e st h=>qV h) Yg ?_
 refine(t50_run _ v b).trans ?_;cases b <;> rfl
def eGs(gs:List (List Int)):DV:=.sl 1 (gs.map λg=>.sl 1 (g.map eI))
def tgt50(p:Pn)(gs:List (List Int))(n:Int):St:=zx 42 [(1,.d (eGs gs)),(2,.d (eI n)),(3,.ptr 3 415 0 [])] [(3,⟨false,.dc 415 [ePn p]⟩)]
theorem run50(p:Pn)(hr:zv p.r)(gs:List (List Int))(n:Int)(r:CR)(hf:fewE p=0)(hg:zB 170 [ePn p,eGs gs]=some (.val (eI 0)))(hn:zZ n 0 p.ps.length=0):run zB (goH zB (head50 r (tgt50 p gs n))) (a50 (ePn p) (eGs gs) (eI n))=some r:=by
 rw[a50_run];have e0:zS (zH EE 6) [88,95,3] [ePn p,eGs gs,eI n]=true:=by rw[zL,hPn p hr];rfl
 have e1:=c160 p hr;rw[hf] at e1;have e3:∀m:Int,zH EE 6 46 (eI m)=true:=λm=>by kernel_rfl
 have e4:bne (zC (eI 0)) (0:Int)=false:=rfl;have hg':zB 170 [ePn p,.sl 1 ((gs.map λg=>DV.sl 1 (g.map eI)).map (cnE EE 25))]=some (.val (eI 0)):=by rw[zIb];exact hg
 have e5:=c149 n 0 p.ps.length;rw[hn] at e5;have e6:=zAP 0 0;rw[e0,zF];simp only[eGs,zV,zY,zb,zq,zy,QW,zQ,zK,zl,List.length_map];rw[e1];simp only[zJ];rw[e3,zF,e4,zT,hg'];simp only[zJ];rw[e3,zF,e5];simp only[zJ];rw[e3,zF,zK,e6];simp only[zJ];rw[show zO [0,0]=0 from rfl,e3,zF,e4,zT]
 refine go50_end ?_;show Le [] (tgt50 p gs n) _;rw[show tgt50 p gs n=forget [1,2,3] _ from ?_]
 ·exact JT _ _
 ·unfold tgt50 eGs ePn;kernel_rfl
end
end Go.Am
namespace Go.Am
open Go.Proofs
open Go Go.RowKit Go.Maps Go.Proofs
open Classical
structure V50[OO](p:Pn)(gs:List (List Int))(n:Int):Prop where
 r:zv p.r
 few:fewE p=0
 grp:zB 170 [ePn p,eGs gs]=some (.val (eI 0))
 idx:∀g∈gs,∀i∈g,0<=i/\i<p.ps.length
 pos:0<gs.length
 len:gs.length<=30
 sum:j8 gs<=8
 n:zZ n 0 p.ps.length=0
noncomputable def qq(p:Pn)(gs:List (List Int))(n:Int):Int×Int:=match zEB (bstP p) gs.reverse n with
 | some v=>(v,0)
 | none=>(0,24)
noncomputable def kk50:Code:=match Tryz.f50.body with | some c=>c | none=>.skip
theorem r50_eq:sq1 k50t=q1 (q2 (q2 (q2 kk50))):=by kernel_rfl
theorem body50:Tryz.f50.body=some (seqs cs50 (.seq (sq1 k50t) (sq2 k50t))):=by kernel_rfl
theorem Qr:∀{gs:List (List Int)} {g:List Int},g∈gs->g.length<=j8 gs
 | [],g,h=>by simp at h
 | a :: gs,g,h=>by
  simp only[j8];rcases List.mem_cons.1 h with rfl | h
  ·omega
  ·have:=Qr h;omega
theorem und42(t:Nat)(h:t<42):jh (zx 42 [] []).tm (some t) .undef=(zx 42 [] []).tm:=by
 have e:(zx 42 [] []).tm=List.replicate 42 .undef:=by kernel_rfl
 rw[e];show(List.replicate 42 AV.undef).set t .undef=_;apply List.ext_getElem (by simp)
 intro i h1 h2;rw[List.getElem_set];split
 ·exact(List.getElem_replicate _).symm
 ·rfl
theorem Rel.und{base:Nat}{S:Nat->Prop}{φ:Nat->Option Nat}{a:Act}{w:World}(h:Rel EE base S φ (zx 42 [] []) a w){t:Nat}(ht:t<42)(u:Value):Rel EE base S φ (zx 42 [] []) (a.put (some t) u) w:=by have h1:=h.put (some t) (v:=.undef) (u:=u) trivial;rw[und42 t ht] at h1;exact h1
section
variable[OO]
theorem groups_at{S:Nat->Prop}{w:World}{gs:List (List Int)}{v:Value}(h:RV EE.L S w (eGs gs) v)(hlt:∀b,S b->b<w.heap.size)(hpos:0<gs.length) :
  ∃(gb go gcap:Nat) (ga:Nat->Option Addr) (gc:Nat->Nat),v=.slice (some ⟨gb,go,none⟩) gs.length gcap/\gb<w.heap.size/\(∀j (h:j<gs.length),w.cell? ⟨gb,go+j,none⟩=some (.slice (ga j) gs[j].length (gc j))) /\
   (∀j (h:j<gs.length),0<gs[j].length->∃b o,ga j=some ⟨b,o,none⟩/\b<w.heap.size/\zAH w b o gs[j]):=by
 obtain⟨a,c,css,rfl,hc,hl,hel,hz,hm⟩:=h.sl;simp only[List.length_map] at hc hl hel hm ⊢;obtain⟨ad,rfl,hsp,hS,hcell⟩:=hm hpos;obtain⟨gb,go,sp⟩:=ad;simp only at hsp;subst hsp;have hone:∀j,j<gs.length->∃x:Option Addr×Nat,∀h:j<gs.length,w.cell? ⟨gb,go+j,none⟩=some (.slice x.1 gs[j].length x.2)/\(0<gs[j].length->∃b o,x.1=some ⟨b,o,none⟩/\b<w.heap.size/\zAH w b o gs[j]):=by
  intro j hj;have hj':j<css.length:=by omega
  have h1:=hel j hj hj';rw[List.getElem_map] at h1;obtain⟨a',c',e1,e2,e3⟩:=RD.sl1 (e:=eI) (g:=Value.int .i64) (λx cs h=>h.int1) h1
  refine⟨(a',c'),λ_=>⟨?_,λh0=>?_⟩⟩
  ·have hfl:=JH css hz j hj' 0 (by omega)
   have:=hcell j _ (by rw[show j=j * 1+0 by omega,hfl,e1];rfl)
   rw[jk rfl] at this;exact this
  ·obtain⟨ad,rfl,s1,s2,s3⟩:=e3 h0;obtain⟨b,o,sp⟩:=ad;simp only at s1;subst s1;refine⟨b,o,rfl,hlt b s2,λi hi=>?_⟩
   have:=s3 i _ (List.getElem?_eq_getElem hi);rw[jk rfl] at this;exact this
 obtain⟨xs,hxl,hxs⟩:=YB gs.length hone;refine⟨gb,go,c,λj=>(xs.getD j (none,0)).1,λj=>(xs.getD j (none,0)).2,rfl,hlt gb hS,λj h=>?_,λj h=>?_⟩
 ·have hj:j<xs.length:=by omega
  have e:xs.getD j (none,0)=xs[j]:=by rw[List.getD_eq_getElem?_getD,List.getElem?_eq_getElem hj];rfl
  show w.cell? _=some (.slice (xs.getD j (none,0)).1 gs[j].length (xs.getD j (none,0)).2);rw[e];exact(hxs j hj h).1
 ·have hj:j<xs.length:=by omega
  have e:xs.getD j (none,0)=xs[j]:=by rw[List.getD_eq_getElem?_getD,List.getElem?_eq_getElem hj];rfl
  show 0<gs[j].length->∃b o,(xs.getD j (none,0)).1=some ⟨b,o,none⟩/\b<w.heap.size/\zAH w b o gs[j];rw[e];exact(hxs j hj h).2
set_option maxHeartbeats 2000000 in
theorem at50v[KnW][KnS](hE:EnvOKo PP EE OO.o){p:Pn}{gs:List (List Int)}{n:Int}(h:V50 p gs n):Qk PP EE 50 [ePn p,eGs gs,eI n] (.val (.tup [eI (qq p gs n).1,eI (qq p gs n).2])):=by
 refine⟨enters Tryz.func50 (by kernel_rfl) (by kernel_rfl),λS w vals hg hlt hlen hv=>?_⟩
 have hok:=fewE_ok h.few h.r;have hc:jv PP EE (jr EE zB):=zAt (jg hE XX);have hD:DOK PP EE:=zAU _ _ _;have hR0:=zDL (E:=EE) (fn:=Tryz.f50) hg hlt hlen (show[ePn p,eGs gs,eI n].length<=Tryz.f50.ntmps by simp) hv
 refine calls_of_wp Tryz.func50 body50 ?_;generalize hr:CR.val (.tup [eI (qq p gs n).1,eI (qq p gs n).2])=r;have hret:∀ex st' (S':Nat->Prop) (φ':Nat->Option Nat) a' w',ex≠Ex.normal->K50r r (tgt50 p gs n) ex st'=some r->Rel EE w.heap.size S' φ' st' a' w'->Grow w.heap.size S S' w w' ->
   bodyPost PP Tryz.f50 (λe w'=>∃v,e=.returned v/\zAR EE S w r v w') (zA6 ex) a' w':=by
  intro ex st' S' φ' a' w' hne hk hR hG;cases ex with
  | normal=>exact absurd rfl hne
  | exit i=>simp[K50r,zEy,bnd] at hk
  | ret =>
   obtain⟨r0,k4,k5⟩:=zA (show bnd (fin EE (EE.fresh 50) (j7 EE 50) st') (λr0=>some (zCA EE (EE.fresh 50) (j7 EE 50) r0))=some r from hk)
   injection k5 with k5;obtain⟨h1,v,h2,h3⟩:=Jv hD hR hG k4
   exact⟨h1,v,h2,v,rfl,k5 ▸ qz h3⟩
 obtain⟨M,hex⟩:=exec50 (ePn p) (eGs gs) (eI n) r (tgt50 p gs n) (run50 p h.r gs n r h.few h.grp h.n);refine zCR hD Jt hc cs50 hex hR0 (λst1 S1 φ1 a1 w1 k1 hR1 hG1=>?_) hret
 have hle:Le [] (tgt50 p gs n) st1:=by
  unfold K50r at k1;simp only at k1;split at k1
  ·assumption
  ·cases k1
 have hR2:=hR1.le hle;obtain⟨u1,hu1,hr1⟩:=hR2.tm 1 (.d (eGs gs)) (by unfold tgt50 eGs ePn;kernel_rfl)
 obtain⟨u2,hu2,hr2⟩:=hR2.tm 2 (.d (eI n)) (by unfold tgt50 eGs ePn;kernel_rfl)
 obtain⟨u3,hu3,hr3⟩:=hR2.tm 3 (.ptr 3 415 0 []) (by unfold tgt50 eGs ePn;kernel_rfl)
 have h42:41<a1.tmps.size:=by
  obtain⟨u,hu,_⟩:=hR2.tm 41 .undef (by unfold tgt50 eGs ePn;kernel_rfl)
  exact(Array.getElem?_eq_some_iff.1 hu).1
 have ev1:a1.eval (.tmp 1)=u1:=by simp only[Act.eval,Array.getD_eq_getD_getElem?,hu1,Option.getD_some]
 have ev2:a1.eval (.tmp 2)=u2:=by simp only[Act.eval,Array.getD_eq_getD_getElem?,hu2,Option.getD_some]
 have ev3:a1.eval (.tmp 3)=u3:=by simp only[Act.eval,Array.getD_eq_getD_getElem?,hu3,Option.getD_some]
 have hr1:RV EE.L S1 w1 (eGs gs) u1:=hr1;have hr2:RV EE.L S1 w1 (eI n) u2:=hr2;obtain rfl:=hr2.int;obtain⟨x',ur,he,hrun,hrx⟩:=qc (t:=88) hD hR2 hr3 (ef:={ v:=.d (ePn p) }) (by unfold tgt50 eGs ePn;kernel_rfl)
 have he':AV.d (ePn p)=x':=by simpa using congrArg Eff.v he
 subst he';have hrx:RV EE.L S1 w1 (ePn p) ur:=hrx;have hRe:Rel EE w.heap.size S1 φ1 (zx 42 [] []) a1 w1:=hR2.le (by
  rw[show zx 42 [] []=forget [] (tgt50 p gs n) from by unfold tgt50 eGs ePn;kernel_rfl]
  exact JT _ _)
 have k161:=(jg hE XX 161 [ePn p] _ (KnS.search p h.r hok.l hok.v.p hok.least.1 hok.least.2)).2 S1 w1 [ur] hR2.glob hR2.lt rfl (λi h1 h2=>by
  match i,h1,h2 with
  | 0,_,_=>exact hrx)
 have eg161:∀args w,(callFunc 161 args).run PP w=.ok (.enter 161 args) w:=Go.Proofs.enters_of Tryz.func161 (by kernel_rfl) rfl
 have eg171:∀args w,(callFunc 171 args).run PP w=.ok (.enter 171 args) w:=Go.Proofs.enters_of Tryz.func171 (by kernel_rfl) rfl
 have hsz:∀(a:Act) (d:Option Tmp) (v:Value),41<a.tmps.size->41<(a.put d v).tmps.size:=λa d v h=>by rw[size_put];exact h
 have q1':=hsz a1 (some 31) ur h42;refine wp_seq ?_;rw[r50_eq];dsimp only[kk50,q1,q2,Tryz.f50];refine wp_region_lit ?_;refine wl_load (.tmp 3) ev3 hrun ?_;refine wl_call1 (.tmp 31) (Yy h42 (by decide) _) eg161 k161 λe w2 ⟨vp,he2,S2,hB2,hS12,hnew2,hlt2,hrp⟩=>⟨vp,he2,?_⟩
 obtain⟨ad,_,rfl,_⟩:=RV.dp hrp;have hB12:w1.heap.size<=w2.heap.size:=hB2.size;obtain⟨gb,go,gcap,ga,gc,rfl,hgb,hcell,hints⟩:=groups_at hr1 hR2.lt h.pos;have hg2:GlobOK EE S2 w2:=hR2.glob.mono hS12 (λb hb=>hB2.block b (hR2.lt b hb))
 have hk171:=calls171 (H:=Unit) w2 (some ad) gb go gcap gs (bstP p) ga gc (λj hj=>(World.cell?_of_block (a:=⟨gb,go+j,none⟩) (hB2.block gb hgb)).trans (hcell j hj)) (by omega) (by have:=h.len;omega)
  (λj hj=>by have:=Qr (List.getElem_mem hj);have:=h.sum;omega)
  (λk=>Nat.le_trans (zJW _) (Nat.le_trans (Nat.pow_le_pow_right (show 0<2 by omega) (show j8 (gs.take k).reverse<=8 by
   rw[zBa];exact Nat.le_trans (zDT gs k) h.sum)) (by decide)))
  (λk m v hm=>by
   have h1:=zJb (Y:=30000000000000000) (by omega) (gs.take k).reverse (λg hg k e he=>bstP_bnd hok (by
    rw[Y5];have:=Qr (List.mem_of_mem_take (List.mem_reverse.1 hg));have:=h.sum;omega) k e he) m v hm
   have h2:j8 (gs.take k).reverse<=8:=by rw[zBa];exact Nat.le_trans (zDT gs k) h.sum
   have h3:(gs.take k).reverse.length<=30:=by rw[List.length_reverse,List.length_take];have:=h.len;omega
   have h4:((gs.take k).reverse.length:Int) * 30000000000000000<=30 * 30000000000000000:=Int.mul_le_mul_of_nonneg_right (by omega) (by omega)
   omega)
  (λj hj h0=>by
   obtain⟨b,o,e1,e2,e3⟩:=hints j hj h0;exact⟨b,o,e1,by omega,λi hi=>(World.cell?_of_block (a:=⟨b,o+i,none⟩) (hB2.block b e2)).trans (e3 i hi)⟩)
  (λW j hj oa oc k hBW hrow hk=>by
   have hgm:=List.getElem_mem hj;have hmem:∀x∈j5 gs[j],0<=x/\x<p.ps.length:=λx hx=>h.idx _ hgm x (by unfold j5 at hx;exact(List.mem_mergeSort).1 hx)
   have hnn:((j5 gs[j]).map Int.toNat).map (Nat.cast:Nat->Int)=j5 gs[j]:=by
    rw[List.map_map]
    conv=>rhs;rw[<-List.map_id (j5 gs[j])]
    exact List.map_congr_left λx hx=>by have:=hmem x hx;show((x.toNat:Nat):Int)=x;omega
   have hl8:gs[j].length<=8:=by have:=Qr hgm;have:=h.sum;omega
   exact best_at hE hok hrp hg2 hlt2 (Nat.le_refl _) W ((j5 gs[j]).map Int.toNat) oa gs[j].length oc k hBW (by rw[List.length_map,Y5]) (by rw[hnn];exact hrow) (by omega) (by rw[List.length_map,Y5];omega) (λi hi=>by
    obtain⟨x,hx,rfl⟩:=List.mem_map.1 hi;have:=hmem x hx;omega))
 have q2':=hsz _ (some 32) (.pointer (some ad)) q1';refine zH3 (.tmp 1) ((jo _ (by decide) _).trans ((jo _ (by decide) _).trans ev1)) ?_
 have q3:=hsz _ (some 33) (.slice (some ⟨gb,go,none⟩) gs.length gcap) q2';refine wl_call2 (.tmp 32) (.tmp 33) ((jo _ (by decide) _).trans (Yy q1' (by decide) _)) (Yy q2' (by decide) _) eg171 hk171 λe w3 ⟨b,nn,D,he3,hown,hA,hB3⟩=>⟨_,he3,?_⟩
 have q4:=hsz _ (some 34) (.map (some b)) q3;refine zH3 (.tmp 2) ((jo _ (by decide) _).trans ((jo _ (by decide) _).trans ((jo _ (by decide) _).trans ((jo _ (by decide) _).trans ev2)))) ?_
 have q5:=hsz _ (some 35) (.int .i64 n) q4;have hnr:=zJS h.n;have h8:=hok.l;have zeroE:∀w,(zeroValue 3).run Tryz.prog w=.ok (.int .i64 0) w:=λw=>by kernel_rfl
 refine wpList_lookup_own_ok_int w3 rfl (.tmp 34) (.tmp 35) 278 rfl 3 3 .i64 law3 Tryz.underlying278 Tryz.underlying3 (zeroE _) b nn D ((jo _ (by decide) _).trans (Yy q3 (by decide) _)) hown (.int .i64 n) (.int .i64 n) (Yy q4 (by decide) _)
  (keyOf_int_mk Tryz.underlying3 (WalkArith.wf_i64 (by omega))) λc hat hcw=>?_
 generalize hhb:Maps.has D (.int .i64 n)=hb;have q6:=hsz _ (some 36) (.tuple #[.int .i64 c,.bool hb]) q5;refine zH3 (.tmp 36) (Yy q5 (by decide) _) ?_
 have q7:=hsz _ (some 30) (.tuple #[.int .i64 c,.bool hb]) q6;refine zET (.tmp 30) 0 (v:=.int .i64 c) (Yy q6 (by decide) _) rfl ?_
 have q8:=hsz _ (some 37) (.int .i64 c) q7;refine zET (.tmp 30) 1 (v:=.bool hb) ((jo _ (by decide) _).trans (Yy q6 (by decide) _)) rfl ?_
 have q9:=hsz _ (some 38) (.bool hb) q8;refine zGn (.tmp 37) ((jo _ (by decide) _).trans (Yy q7 (by decide) _)) ?_
 have q10:=hsz _ (some 10) (.int .i64 c) q9;refine zGn (.tmp 38) ((jo _ (by decide) _).trans (Yy q8 (by decide) _)) ?_
 refine wpList_nil ?_;have hB13:Below w1.heap.size w1 w3:=hB2.trans (hB3.mono hB12);have hbase:=hR2.base;have hG3:Grow w.heap.size S1 S1 w1 w3:=⟨hB13.mono hbase,λ_ h=>h,λ_ h=>.inl h,λb hb=>hB13.block b (hR2.lt b hb)⟩
 have hR3:Rel EE w.heap.size S1 φ1 (zx 42 [] []) a1 w3:=hRe.world hG3 (λb hb=>Nat.lt_of_lt_of_le (hR2.lt b hb) hB13.size) (λ_ _ h=>h) (λb hb=>hB13.block b hb)
 have hR4:=((((((((hR3.und (t:=31) (by omega) ur).und (t:=32) (by omega) (.pointer (some ad))).und (t:=33) (by omega) (.slice (some ⟨gb,go,none⟩) gs.length gcap)).und (t:=34) (by omega) (.map (some b))).und (t:=35) (by omega) (.int .i64 n)).und (t:=36) (by omega) (.tuple #[.int .i64 c,.bool hb])).und (t:=30) (by omega) (.tuple #[.int .i64 c,.bool hb])).und (t:=37) (by omega) (.int .i64 c)).und (t:=38) (by omega) (.bool hb)
 have hR5:=(hR4.put (some 10) (v:=.d (eI c)) (u:=.int .i64 c) (RV.mkInt _ _)).put (some 11) (v:=.d (.bool hb)) (u:=.bool hb) (RV.mkBool _);have hst:(⟨jh (jh (zx 42 [] []).tm (some 10) (.d (eI c))) (some 11) (.d (.bool hb)),(zx 42 [] []).hp⟩:St)=zx 42 [(10,.d (.int .i64 c)),(11,.d (.bool hb))] []:=by kernel_rfl
 have hR6:Rel EE w.heap.size S1 φ1 (zx 42 [(10,.d (.int .i64 c)),(11,.d (.bool hb))] []) _ w3:=hst ▸ hR5;have hval:r=.val (.tup [eI (if hb then c else 0),eI (if hb then 0 else 24)]):=by rw[<-hr];have h1:=(hA n).symm.trans (zEz hat);rw[hhb] at h1;unfold qq;rw[h1];cases hb <;> rfl
 obtain⟨M,ht⟩:=tail50 c hb;rw[<-hval] at ht;refine J6 hD Jt hc (sq2 k50t) ht hR6 λex st' S2 φ2 a2 w2 j1 j2 j3=>?_
 obtain⟨r0,k4,k5⟩:=zA j1;injection k5 with k5
 cases ex with
 | exit i=>simp[zEy] at k4
 | normal =>
  obtain⟨h1,v,h2,h3⟩:=Jv hD j2 ((hG1.trans hG3).trans j3) (show fin EE (EE.fresh 50) (j7 EE 50) st'=some r0 from k4)
  exact⟨h1,v,h2,v,rfl,k5 ▸ qz h3⟩
 | ret =>
  obtain⟨h1,v,h2,h3⟩:=Jv hD j2 ((hG1.trans hG3).trans j3) (show fin EE (EE.fresh 50) (j7 EE 50) st'=some r0 from k4)
  exact⟨h1,v,h2,v,rfl,k5 ▸ qz h3⟩
end
end Go.Am
namespace Go.Am
open Go.Proofs
open Go
variable[OO]
def s200(j i n:Nat)(ru:ByteArray)(d wd ps:List DV)(sec x y:Int)(r0:DV)(z:Int)(row:List DV):St :=
 (zx 47 [(3,(.d (.dp (.agg 0 [(.str ru),(.sl 1 d),(.sl 1 wd)])))),(4,(.d (.dp (.sl 2 ps)))),(5,(.d (.dp (.agg 9 [(.int .i64 sec),(.agg 1 [(.int .i64 x),(.int .i64 y)])])))),(7,(.ptr 7 1 0 [])),(8,(.d (.int .i64 ((j:Nat):Int)))),(9,(.d (.int .i64 ((i:Nat):Int)))),(26,(.own 19 0 n 1)),(27,(.d (.int .i64 ((j:Nat):Int)))),(28,(.ptr 19 1 j [])),(29,(.own 20 0 n 1)),(30,(.d (.int .i64 ((i:Nat):Int)))),(31,(.d (.agg 0 [(.str ru),(.sl 1 d),(.sl 1 wd)]))),(32,(.d (.agg 9 [(.int .i64 sec),(.agg 1 [(.int .i64 x),(.int .i64 y)])]))),(33,(.d (.sl 2 ps))),(34,(.d (.int .i64 ((i:Nat):Int)))),(35,(.d (.dp (nth ps (Int.toNat ((i:Nat):Int)))))),(36,(.d (.agg 1 [(.int .i64 (zC (nth (flds (nth ps (Int.toNat ((i:Nat):Int)))) 0))),(.int .i64 (zC (nth (flds (nth ps (Int.toNat ((i:Nat):Int)))) 1)))]))),(37,(.d (.sl 2 ps))),(38,(.d (.int .i64 ((j:Nat):Int)))),(39,(.d (.dp (nth ps j)))),(40,(.d (.agg 1 [(.int .i64 (zC (nth (flds (nth ps j)) 0))),(.int .i64 (zC (nth (flds (nth ps j)) 1)))]))),(41,(.d (.tup [(.int .i64 (zC (nth (tups r0) 0))),(.int .i64 (zC (nth (tups r0) 1)))]))),(42,(.d (.int .i64 (zC (nth (tups r0) 0))))),(43,(.d (.int .i64 (zC (nth (tups r0) 1))))),(44,(.d (.int .i64 z))),(45,(.ptr 20 1 (0+(Int.toNat ((i:Nat):Int))) []))] [(7,(.mk true (.ac 1 [(.own 19 0 n 1)]))),(19,(.mk true (.ac 1 (List.replicate j .undef++[.own 20 0 n 1])))),(20,(.mk false (.dc 1 (List.set row (0+(Int.toNat ((i:Nat):Int))) (.int .i64 z)))))])
noncomputable def X200(g:Nat->St->Option CR)(j i n:Nat)(ru:ByteArray)(d wd ps:List DV)(sec x y:Int)(row:List DV):Option CR :=
 ifO (decide (((0:Int)<=((j:Nat):Int))/\(((j:Nat):Int)<((n:Nat):Int))))
 (ifO (decide (((0:Int)<=((i:Nat):Int))/\(((i:Nat):Int)<(((List.length ps):Nat):Int))))
 (ifO (zH EE 6 141 (nth ps (Int.toNat ((i:Nat):Int))))
 (ifO (decide (((0:Int)<=((j:Nat):Int))/\(((j:Nat):Int)<(((List.length ps):Nat):Int))))
 (ifO (zH EE 6 141 (nth ps j))
 (zI (zB 185 [(.agg 9 [(.int .i64 sec),(.agg 1 [(.int .i64 x),(.int .i64 y)])]),(.agg 1 [(.int .i64 (zC (nth (flds (nth ps (Int.toNat ((i:Nat):Int)))) 0))),(.int .i64 (zC (nth (flds (nth ps (Int.toNat ((i:Nat):Int)))) 1)))]),(.agg 1 [(.int .i64 (zC (nth (flds (nth ps j)) 0))),(.int .i64 (zC (nth (flds (nth ps j)) 1)))])])
 (λr0=>ifO ((DV.isTup r0) && (zS (zH EE 6) [3,3] (tups r0)))
 (zI (zB 186 [(.agg 0 [(.str ru),(.sl 1 d),(.sl 1 wd)]),(.int .i64 (zC (nth (tups r0) 0))),(.int .i64 (zC (nth (tups r0) 1)))])
 (λr1=>ifO (zH EE 6 3 r1)
 (ifO (decide (((0:Int)<=((i:Nat):Int))/\(((i:Nat):Int)<((n:Nat):Int))))
 (ifO (decide ((0+(Int.toNat ((i:Nat):Int)))<(List.length row)))
 (g 0 (s200 j i n ru d wd ps sec x y r0 (zC r1) row))
 (none))
 (none))
 (none))
 (λ_ _=>none))
 (none))
 (λ_ _=>none))
 (none))
 (none))
 (none))
 (none))
 (none)
theorem p200c_run(g:Nat->St->Option CR)(i n:Nat)(ru:ByteArray)(d wd ps:List DV)(sec x y:Int)(row:List DV):∀(j:Nat) (_:j<64),run zB g (p200c j i n ru d wd ps sec x y row)=X200 g j i n ru d wd ps sec x y row
 | 0,_=>by kernel_rfl
 | 1,_=>by kernel_rfl
 | 2,_=>by kernel_rfl
 | 3,_=>by kernel_rfl
 | 4,_=>by kernel_rfl
 | 5,_=>by kernel_rfl
 | 6,_=>by kernel_rfl
 | 7,_=>by kernel_rfl
 | 8,_=>by kernel_rfl
 | 9,_=>by kernel_rfl
 | 10,_=>by kernel_rfl
 | 11,_=>by kernel_rfl
 | 12,_=>by kernel_rfl
 | 13,_=>by kernel_rfl
 | 14,_=>by kernel_rfl
 | 15,_=>by kernel_rfl
 | 16,_=>by kernel_rfl
 | 17,_=>by kernel_rfl
 | 18,_=>by kernel_rfl
 | 19,_=>by kernel_rfl
 | 20,_=>by kernel_rfl
 | 21,_=>by kernel_rfl
 | 22,_=>by kernel_rfl
 | 23,_=>by kernel_rfl
 | 24,_=>by kernel_rfl
 | 25,_=>by kernel_rfl
 | 26,_=>by kernel_rfl
 | 27,_=>by kernel_rfl
 | 28,_=>by kernel_rfl
 | 29,_=>by kernel_rfl
 | 30,_=>by kernel_rfl
 | 31,_=>by kernel_rfl
 | 32,_=>by kernel_rfl
 | 33,_=>by kernel_rfl
 | 34,_=>by kernel_rfl
 | 35,_=>by kernel_rfl
 | 36,_=>by kernel_rfl
 | 37,_=>by kernel_rfl
 | 38,_=>by kernel_rfl
 | 39,_=>by kernel_rfl
 | 40,_=>by kernel_rfl
 | 41,_=>by kernel_rfl
 | 42,_=>by kernel_rfl
 | 43,_=>by kernel_rfl
 | 44,_=>by kernel_rfl
 | 45,_=>by kernel_rfl
 | 46,_=>by kernel_rfl
 | 47,_=>by kernel_rfl
 | 48,_=>by kernel_rfl
 | 49,_=>by kernel_rfl
 | 50,_=>by kernel_rfl
 | 51,_=>by kernel_rfl
 | 52,_=>by kernel_rfl
 | 53,_=>by kernel_rfl
 | 54,_=>by kernel_rfl
 | 55,_=>by kernel_rfl
 | 56,_=>by kernel_rfl
 | 57,_=>by kernel_rfl
 | 58,_=>by kernel_rfl
 | 59,_=>by kernel_rfl
 | 60,_=>by kernel_rfl
 | 61,_=>by kernel_rfl
 | 62,_=>by kernel_rfl
 | 63,_=>by kernel_rfl
 | j+64,h=>absurd h (by omega)
theorem f200(i n:Nat)(ru:ByteArray)(d wd ps:List DV)(sec x y:Int)(r0:DV)(z:Int)(row:List DV):∀(j:Nat) (_:j<64),(⟨stTm 47 0 [(7,.ptr 7 1 0 [])],hp200 j n (List.set row (0+i) (.int .i64 z))⟩:St)=forget [7] (s200 j i n ru d wd ps sec x y r0 z row)
 | 0,_=>by kernel_rfl
 | 1,_=>by kernel_rfl
 | 2,_=>by kernel_rfl
 | 3,_=>by kernel_rfl
 | 4,_=>by kernel_rfl
 | 5,_=>by kernel_rfl
 | 6,_=>by kernel_rfl
 | 7,_=>by kernel_rfl
 | 8,_=>by kernel_rfl
 | 9,_=>by kernel_rfl
 | 10,_=>by kernel_rfl
 | 11,_=>by kernel_rfl
 | 12,_=>by kernel_rfl
 | 13,_=>by kernel_rfl
 | 14,_=>by kernel_rfl
 | 15,_=>by kernel_rfl
 | 16,_=>by kernel_rfl
 | 17,_=>by kernel_rfl
 | 18,_=>by kernel_rfl
 | 19,_=>by kernel_rfl
 | 20,_=>by kernel_rfl
 | 21,_=>by kernel_rfl
 | 22,_=>by kernel_rfl
 | 23,_=>by kernel_rfl
 | 24,_=>by kernel_rfl
 | 25,_=>by kernel_rfl
 | 26,_=>by kernel_rfl
 | 27,_=>by kernel_rfl
 | 28,_=>by kernel_rfl
 | 29,_=>by kernel_rfl
 | 30,_=>by kernel_rfl
 | 31,_=>by kernel_rfl
 | 32,_=>by kernel_rfl
 | 33,_=>by kernel_rfl
 | 34,_=>by kernel_rfl
 | 35,_=>by kernel_rfl
 | 36,_=>by kernel_rfl
 | 37,_=>by kernel_rfl
 | 38,_=>by kernel_rfl
 | 39,_=>by kernel_rfl
 | 40,_=>by kernel_rfl
 | 41,_=>by kernel_rfl
 | 42,_=>by kernel_rfl
 | 43,_=>by kernel_rfl
 | 44,_=>by kernel_rfl
 | 45,_=>by kernel_rfl
 | 46,_=>by kernel_rfl
 | 47,_=>by kernel_rfl
 | 48,_=>by kernel_rfl
 | 49,_=>by kernel_rfl
 | 50,_=>by kernel_rfl
 | 51,_=>by kernel_rfl
 | 52,_=>by kernel_rfl
 | 53,_=>by kernel_rfl
 | 54,_=>by kernel_rfl
 | 55,_=>by kernel_rfl
 | 56,_=>by kernel_rfl
 | 57,_=>by kernel_rfl
 | 58,_=>by kernel_rfl
 | 59,_=>by kernel_rfl
 | 60,_=>by kernel_rfl
 | 61,_=>by kernel_rfl
 | 62,_=>by kernel_rfl
 | 63,_=>by kernel_rfl
 | j+64,h=>absurd h (by omega)
end Go.Am
namespace Go.Am
open Go.Proofs
open Go
variable[OO]
theorem C241(x0:DV):zB 241 [x0] =
 ifO (zS (zH EE 6) [3] [x0])
 (some (.val (.fn 282 [] [(.dp (eI (zC x0)))])))
 (none) :=
 (zM (f:=241) (by kernel_rfl) (by kernel_rfl) (by kernel_rfl) [x0]).trans (by kernel_rfl)
end Go.Am
namespace Go.Am
open Go.Proofs
open Go
variable[OO]
def s161(j i:Nat)(x n:Int)(ps:List DV)(least:Int)(ru:ByteArray)(d wd pw:List DV)(cut:Int)(rs ns:List DV):St :=
 (zx 50 [(1,(.ptr 1 415 0 [])),(3,(.ptr 3 1 0 [])),(4,(.d (.int .i64 ((j:Nat):Int)))),(5,(.d (.int .i64 ((i:Nat):Int)))),(6,(.ptr 6 3 0 [])),(20,(.d (.fn 282 [] [(.dp (.int .i64 n))]))),(21,(.d (.int .i64 ((j:Nat):Int)))),(22,(.d (.int .i64 ((i:Nat):Int)))),(23,(.ptr 1 415 0 [(.mk 6 1)])),(24,(.d (.int .i64 least))),(25,(.ptr 1 415 0 [(.mk 6 0)])),(26,(.d (.sl 2 ps))),(27,(.d (.int .i64 ((i:Nat):Int)))),(28,(.d (.dp (nth ps i)))),(29,(.d (.agg 1 [(.int .i64 (zC (nth (flds (nth ps i)) 0))),(.int .i64 (zC (nth (flds (nth ps i)) 1)))]))),(30,(.d (.agg 9 [(.str (bs [97])),(.agg 1 [(.int .i64 (zC (nth (flds (nth ps i)) 0))),(.int .i64 (zC (nth (flds (nth ps i)) 1)))])]))),(31,(.ptr 1 415 0 [(.mk 6 0)])),(32,(.d (.sl 2 ps))),(33,(.d (.int .i64 ((j:Nat):Int)))),(34,(.d (.dp (nth ps j)))),(35,(.d (.agg 1 [(.int .i64 (zC (nth (flds (nth ps j)) 0))),(.int .i64 (zC (nth (flds (nth ps j)) 1)))]))),(36,(.d (.agg 9 [(.str (bs [98])),(.agg 1 [(.int .i64 (zC (nth (flds (nth ps j)) 0))),(.int .i64 (zC (nth (flds (nth ps j)) 1)))])]))),(37,(.own 37 0 2 3)),(38,(.agg 0 [(.d (.str (bs [112,108,97,110]))),(.d (.int .i64 least)),(.own 37 0 2 3)])),(39,(.ptr 16 892 0 [])),(40,(.d (.int .i64 ((j:Nat):Int)))),(41,(.d (.int .i64 ((i:Nat):Int)))),(42,(.agg 0 [(.d (.str (bs [112,108,97,110]))),(.d (.int .i64 least)),(.own 37 0 2 3)])),(43,(.d (.int .i64 (x)))),(44,(.d (.bool (bne (x) 0)))),(45,(.ptr 16 892 0 [])),(46,(.ptr 16 892 0 [(.mk 16 2)])),(47,(.ptr 16 892 0 [(.mk 16 2),(.mk 15 j)])),(48,(.ptr 16 892 0 [(.mk 16 2),(.mk 15 j),(.mk 14 i)]))] [(1,(.mk false (.dc 415 [(.agg 6 [(.sl 2 ps),(.int .i64 least),(.agg 0 [(.str ru),(.sl 1 d),(.sl 1 wd)]),(.agg 1 [(.sl 1 pw),(.int .i64 cut)]),(.agg 3 rs)])]))),(3,(.mk false (.ac 1 [(.ptr 16 892 0 [])]))),(6,(.mk false (.ac 3 [(.agg 0 [(.d (.str (bs [112,108,97,110]))),(.d (.int .i64 least)),(.own 37 0 2 3)])]))),(16,(.mk false (.dc 892 [(.agg 16 [(.agg 6 [(.sl 2 ps),(.int .i64 least),(.agg 0 [(.str ru),(.sl 1 d),(.sl 1 wd)]),(.agg 1 [(.sl 1 pw),(.int .i64 cut)]),(.agg 3 rs)]),(.agg 13 [(.agg 0 [(.str ru),(.sl 1 d),(.sl 1 wd)]),(.agg 1 [(.sl 1 pw),(.int .i64 cut)]),(.agg 3 rs)]),(.agg 15 (List.set ns j (.agg 14 (List.set (flds (nth ns j)) i (.bool (bne (x) 0))))))])]))),(37,(.mk false (.dc 3 [(.agg 9 [(.str (bs [97])),(.agg 1 [(.int .i64 (zC (nth (flds (nth ps i)) 0))),(.int .i64 (zC (nth (flds (nth ps i)) 1)))])]),(.agg 9 [(.str (bs [98])),(.agg 1 [(.int .i64 (zC (nth (flds (nth ps j)) 0))),(.int .i64 (zC (nth (flds (nth ps j)) 1)))])])])))])
theorem p161c_run(g:Nat->St->Option CR)(n:Int)(ps:List DV)(least:Int)(ru:ByteArray)(d wd pw:List DV)(cut:Int)(rs ns:List DV):∀(j i:Nat) (_:j<8) (_:i<8),run zB g (p161c j i n ps least ru d wd pw cut rs ns) =
 ifO (decide (((0:Int)<=((i:Nat):Int))/\(((i:Nat):Int)<(((List.length ps):Nat):Int))))
 (ifO (zH EE 6 141 (nth ps i))
 (ifO (decide (((0:Int)<=((j:Nat):Int))/\(((j:Nat):Int)<(((List.length ps):Nat):Int))))
 (ifO (zH EE 6 141 (nth ps j))
 (zI (zB 158 [(.agg 0 [(.str (bs [112,108,97,110])),(.int .i64 least),(.sl 3 [(.agg 9 [(.str (bs [97])),(.agg 1 [(.int .i64 (zC (nth (flds (nth ps i)) 0))),(.int .i64 (zC (nth (flds (nth ps i)) 1)))])]),(.agg 9 [(.str (bs [98])),(.agg 1 [(.int .i64 (zC (nth (flds (nth ps j)) 0))),(.int .i64 (zC (nth (flds (nth ps j)) 1)))])])])])])
 (λr0=>ifO (zH EE 6 46 r0)
 (ifO (jQ 15 j (.agg 15 ns))
 (ifO (jQ 14 i (nth ns j))
 (g 0 (s161 j i (zC r0) n ps least ru d wd pw cut rs ns))
 (none))
 (none))
 (none))
 (λ_ _=>none))
 (none))
 (none))
 (none))
 (none)
 | 0,0,_,_=>by kernel_rfl
 | 0,1,_,_=>by kernel_rfl
 | 0,2,_,_=>by kernel_rfl
 | 0,3,_,_=>by kernel_rfl
 | 0,4,_,_=>by kernel_rfl
 | 0,5,_,_=>by kernel_rfl
 | 0,6,_,_=>by kernel_rfl
 | 0,7,_,_=>by kernel_rfl
 | 1,0,_,_=>by kernel_rfl
 | 1,1,_,_=>by kernel_rfl
 | 1,2,_,_=>by kernel_rfl
 | 1,3,_,_=>by kernel_rfl
 | 1,4,_,_=>by kernel_rfl
 | 1,5,_,_=>by kernel_rfl
 | 1,6,_,_=>by kernel_rfl
 | 1,7,_,_=>by kernel_rfl
 | 2,0,_,_=>by kernel_rfl
 | 2,1,_,_=>by kernel_rfl
 | 2,2,_,_=>by kernel_rfl
 | 2,3,_,_=>by kernel_rfl
 | 2,4,_,_=>by kernel_rfl
 | 2,5,_,_=>by kernel_rfl
 | 2,6,_,_=>by kernel_rfl
 | 2,7,_,_=>by kernel_rfl
 | 3,0,_,_=>by kernel_rfl
 | 3,1,_,_=>by kernel_rfl
 | 3,2,_,_=>by kernel_rfl
 | 3,3,_,_=>by kernel_rfl
 | 3,4,_,_=>by kernel_rfl
 | 3,5,_,_=>by kernel_rfl
 | 3,6,_,_=>by kernel_rfl
 | 3,7,_,_=>by kernel_rfl
 | 4,0,_,_=>by kernel_rfl
 | 4,1,_,_=>by kernel_rfl
 | 4,2,_,_=>by kernel_rfl
 | 4,3,_,_=>by kernel_rfl
 | 4,4,_,_=>by kernel_rfl
 | 4,5,_,_=>by kernel_rfl
 | 4,6,_,_=>by kernel_rfl
 | 4,7,_,_=>by kernel_rfl
 | 5,0,_,_=>by kernel_rfl
 | 5,1,_,_=>by kernel_rfl
 | 5,2,_,_=>by kernel_rfl
 | 5,3,_,_=>by kernel_rfl
 | 5,4,_,_=>by kernel_rfl
 | 5,5,_,_=>by kernel_rfl
 | 5,6,_,_=>by kernel_rfl
 | 5,7,_,_=>by kernel_rfl
 | 6,0,_,_=>by kernel_rfl
 | 6,1,_,_=>by kernel_rfl
 | 6,2,_,_=>by kernel_rfl
 | 6,3,_,_=>by kernel_rfl
 | 6,4,_,_=>by kernel_rfl
 | 6,5,_,_=>by kernel_rfl
 | 6,6,_,_=>by kernel_rfl
 | 6,7,_,_=>by kernel_rfl
 | 7,0,_,_=>by kernel_rfl
 | 7,1,_,_=>by kernel_rfl
 | 7,2,_,_=>by kernel_rfl
 | 7,3,_,_=>by kernel_rfl
 | 7,4,_,_=>by kernel_rfl
 | 7,5,_,_=>by kernel_rfl
 | 7,6,_,_=>by kernel_rfl
 | 7,7,_,_=>by kernel_rfl
 | j+8,_,h,_=>absurd h (by omega)
 | 0,i+8,_,h=>absurd h (by omega)
 | 1,i+8,_,h=>absurd h (by omega)
 | 2,i+8,_,h=>absurd h (by omega)
 | 3,i+8,_,h=>absurd h (by omega)
 | 4,i+8,_,h=>absurd h (by omega)
 | 5,i+8,_,h=>absurd h (by omega)
 | 6,i+8,_,h=>absurd h (by omega)
 | 7,i+8,_,h=>absurd h (by omega)
set_option linter.unusedVariables false in
theorem p161a_run(g:Nat->St->Option CR)(ps:List DV)(least:Int)(ru:ByteArray)(d wd pw:List DV)(cut:Int)(rs:List DV):run (zB) g (p161a ps least ru d wd pw cut rs) =
 zI (zB 241 [(.int .i64 (((List.length ps):Nat):Int))])
 (λr0=>ifO (zH EE 6 359 r0)
 ((g 0 (zx 50 [(0,(.d (.agg 6 [(.sl 2 ps),(.int .i64 least),(.agg 0 [(.str ru),(.sl 1 d),(.sl 1 wd)]),(.agg 1 [(.sl 1 pw),(.int .i64 cut)]),(.agg 3 rs)]))),(1,(.ptr 1 415 0 [])),(2,(.d .nilPtr)),(3,(.ptr 3 1 0 [])),(7,(.d (.agg 6 [(.sl 2 ps),(.int .i64 least),(.agg 0 [(.str ru),(.sl 1 d),(.sl 1 wd)]),(.agg 1 [(.sl 1 pw),(.int .i64 cut)]),(.agg 3 rs)]))),(8,(.ptr 1 415 0 [(.mk 6 2)])),(9,(.d (.agg 0 [(.str ru),(.sl 1 d),(.sl 1 wd)]))),(10,(.ptr 1 415 0 [(.mk 6 3)])),(11,(.d (.agg 1 [(.sl 1 pw),(.int .i64 cut)]))),(12,(.ptr 1 415 0 [(.mk 6 4)])),(13,(.d (.agg 3 rs))),(14,(.d (.agg 13 [(.agg 0 [(.str ru),(.sl 1 d),(.sl 1 wd)]),(.agg 1 [(.sl 1 pw),(.int .i64 cut)]),(.agg 3 rs)]))),(15,(.d (.agg 16 [(.agg 6 [(.sl 2 ps),(.int .i64 least),(.agg 0 [(.str ru),(.sl 1 d),(.sl 1 wd)]),(.agg 1 [(.sl 1 pw),(.int .i64 cut)]),(.agg 3 rs)]),(.agg 13 [(.agg 0 [(.str ru),(.sl 1 d),(.sl 1 wd)]),(.agg 1 [(.sl 1 pw),(.int .i64 cut)]),(.agg 3 rs)]),(.agg 15 [(.agg 14 [(.bool false),(.bool false),(.bool false),(.bool false),(.bool false),(.bool false),(.bool false),(.bool false)]),(.agg 14 [(.bool false),(.bool false),(.bool false),(.bool false),(.bool false),(.bool false),(.bool false),(.bool false)]),(.agg 14 [(.bool false),(.bool false),(.bool false),(.bool false),(.bool false),(.bool false),(.bool false),(.bool false)]),(.agg 14 [(.bool false),(.bool false),(.bool false),(.bool false),(.bool false),(.bool false),(.bool false),(.bool false)]),(.agg 14 [(.bool false),(.bool false),(.bool false),(.bool false),(.bool false),(.bool false),(.bool false),(.bool false)]),(.agg 14 [(.bool false),(.bool false),(.bool false),(.bool false),(.bool false),(.bool false),(.bool false),(.bool false)]),(.agg 14 [(.bool false),(.bool false),(.bool false),(.bool false),(.bool false),(.bool false),(.bool false),(.bool false)]),(.agg 14 [(.bool false),(.bool false),(.bool false),(.bool false),(.bool false),(.bool false),(.bool false),(.bool false)])])]))),(16,(.ptr 16 892 0 [])),(17,(.ptr 1 415 0 [(.mk 6 0)])),(18,(.d (.sl 2 ps))),(19,(.d (.int .i64 (((List.length ps):Nat):Int)))),(20,(.d (.fn (zEv r0) (fnA r0) (fnC r0))))] [(1,(.mk false (.dc 415 [(.agg 6 [(.sl 2 ps),(.int .i64 least),(.agg 0 [(.str ru),(.sl 1 d),(.sl 1 wd)]),(.agg 1 [(.sl 1 pw),(.int .i64 cut)]),(.agg 3 rs)])]))),(3,(.mk false (.ac 1 [(.ptr 16 892 0 [])]))),(16,(.mk false (.dc 892 [(.agg 16 [(.agg 6 [(.sl 2 ps),(.int .i64 least),(.agg 0 [(.str ru),(.sl 1 d),(.sl 1 wd)]),(.agg 1 [(.sl 1 pw),(.int .i64 cut)]),(.agg 3 rs)]),(.agg 13 [(.agg 0 [(.str ru),(.sl 1 d),(.sl 1 wd)]),(.agg 1 [(.sl 1 pw),(.int .i64 cut)]),(.agg 3 rs)]),(.agg 15 [(.agg 14 [(.bool false),(.bool false),(.bool false),(.bool false),(.bool false),(.bool false),(.bool false),(.bool false)]),(.agg 14 [(.bool false),(.bool false),(.bool false),(.bool false),(.bool false),(.bool false),(.bool false),(.bool false)]),(.agg 14 [(.bool false),(.bool false),(.bool false),(.bool false),(.bool false),(.bool false),(.bool false),(.bool false)]),(.agg 14 [(.bool false),(.bool false),(.bool false),(.bool false),(.bool false),(.bool false),(.bool false),(.bool false)]),(.agg 14 [(.bool false),(.bool false),(.bool false),(.bool false),(.bool false),(.bool false),(.bool false),(.bool false)]),(.agg 14 [(.bool false),(.bool false),(.bool false),(.bool false),(.bool false),(.bool false),(.bool false),(.bool false)]),(.agg 14 [(.bool false),(.bool false),(.bool false),(.bool false),(.bool false),(.bool false),(.bool false),(.bool false)]),(.agg 14 [(.bool false),(.bool false),(.bool false),(.bool false),(.bool false),(.bool false),(.bool false),(.bool false)])])])])))])))
 (none))
 (λ_ _=>none):=by kernel_rfl
end Go.Am
namespace Go.Am
open Go.Proofs
open Go Go.RowKit
theorem zAw{n a b:Int}(h1:a<=n)(h2:n<=b):zZ n a b=0:=if_neg (by omega)
theorem sites2{a b:Pt}{least:Int}(ha:YG a)(hb:YG b)(h1:1<=least)(h2:least<=1000) :
  jb ⟨bs [112,108,97,110],least,[⟨bs [97],a⟩,⟨bs [98],b⟩]⟩=if js b a<least * least then 15 else 0:=by
 have n1:jO (bs [112,108,97,110])=true:=by kernel_rfl
 have n2:jO (bs [97])=true:=by kernel_rfl
 have n3:jO (bs [98])=true:=by kernel_rfl
 have pa:ptE a=0:=by obtain⟨x1,x2,x3,x4⟩:=ha;unfold ptE;rw[zAw x1 x2,zAw x3 x4];rfl
 have pb:ptE b=0:=by obtain⟨x1,x2,x3,x4⟩:=hb;unfold ptE;rw[zAw x1 x2,zAw x3 x4];rfl
 have hr:zZ least 1 1000=0:=by unfold zZ;rw[if_neg (by omega)]
 have hm:qw (bs [98]) [bs [97]]=false:=by kernel_rfl
 have hm0:qw (bs [97]) []=false:=rfl;simp[jb,JW,n1,n2,n3,pa,pb,hr,zO,hm,hm0]
def nbP(p:Pn)(k j i:Nat):Bool:=decide ((j,i)∈(jC p.ps.length).take k) && jT p j i
def nsP(p:Pn)(k:Nat):List DV:=(List.range 8).map λj=>.agg 14 ((List.range 8).map λi=>.bool (nbP p k j i))
theorem nsP_step(p:Pn)(k j i:Nat)(h:(jC p.ps.length)[k]? = some (j,i))(hj:j<8)(hi:i<8) :
  List.set (nsP p k) j (.agg 14 (List.set (flds (nth (nsP p k) j)) i (.bool (jT p j i))))=nsP p (k+1):=by
 have hb:∀a b,nbP p (k+1) a b=if a=j/\b=i then jT p j i else nbP p k a b:=by
  intro a b;unfold nbP;rw[List.take_succ,h];by_cases hab:a=j/\b=i
  ·obtain⟨rfl,rfl⟩:=hab;simp
  ·rw[if_neg hab];have:((a,b):Nat×Nat)≠(j,i):=by simpa using hab
   simp[this]
 have hn:nth (nsP p k) j=.agg 14 ((List.range 8).map λi=>.bool (nbP p k j i)):=by
  unfold nsP;rw[zP _ _ _ (by simpa using hj)]
  simp
 rw[hn];unfold nsP;refine List.ext_getElem (by simp) λa h1 h2=>?_
 have ha:a<8:=by simpa using h2
 rw[List.getElem_set];split
 ·rename_i e;subst e;simp only[List.getElem_map,List.getElem_range,zV];congr 1;refine List.ext_getElem (by simp) λb h3 h4=>?_
  rw[List.getElem_set];split
  ·rename_i e;subst e;simp[hb]
  ·rename_i e;simp only[List.getElem_map,List.getElem_range,hb];rw[if_neg (by rintro⟨_,rfl⟩;exact e rfl)]
 ·rename_i e;simp only[List.getElem_map,List.getElem_range];congr 1;refine List.map_congr_left λb _=>?_
  rw[hb,if_neg (by rintro⟨rfl,_⟩;exact e rfl)]
theorem zEm{n j i:Nat}(hj:j<n)(hi:i<n)(hne:i≠j):(j,i)∈jC n:=by unfold jC zAv zEA;simp only[List.mem_flatMap,List.mem_range',List.mem_map,List.mem_filter];exact⟨j,⟨j,by omega,by omega⟩,i,⟨⟨i,by omega,by omega⟩,by simpa using hne⟩,rfl⟩
theorem nsP_end(p:Pn):.agg 15 (nsP p (jC p.ps.length).length)=eNear p:=by
 unfold nsP;congr 1;refine List.map_congr_left λj _=>?_
 congr 1;refine List.map_congr_left λi _=>?_
 congr 1;unfold nbP;rw[List.take_length];by_cases h:jT p j i=true
 ·rw[h];unfold jT at h;simp only[Bool.and_eq_true,decide_eq_true_eq] at h;simp[zEm h.1.2.1 h.1.1 h.1.2.2]
 ·simp only[Bool.not_eq_true] at h;simp[h]
theorem nsP_zero(p:Pn):nsP p 0=List.replicate 8 (.agg 14 (List.replicate 8 (.bool false))):=by unfold nsP nbP;simp[List.range_succ,List.replicate]
def hpP(p:Pn)(k:Nat):List (Option OB):=hp161 (p.ps.map ePt) p.least p.w.rule (p.w.d.map eI) (p.w.w.map eI) (p.c.p.map eI) p.c.cut (p.r.map jj) (nsP p k)
def zGj(c:Code)(k:Nat):Array Edge:=match c with
 | .region _ ops _=>match ops[k]? with | some o=>o.after | none=>#[]
 | _=>#[]
def zAJ(c:Code)(k:Nat):String:=match c with
 | .region _ ops _=>match ops[k]? with | some o=>o.pos | none=>""
 | _=>""
section
variable[OO]
theorem a161(p:Pn):run zB (gT (Le [] ⟨tm161 p.ps.length,hpP p 0⟩)) (pcX 161 k161a (entry Tryz.f161 [ePn p]))=some (.val .nl):=by
 refine(show run zB (gT (Le [] ⟨tm161 p.ps.length,hpP p 0⟩)) (pcX 161 k161a (entry Tryz.f161 [ePn p])) =
  run zB (gT (Le [] ⟨tm161 p.ps.length,hpP p 0⟩)) (p161a (p.ps.map ePt) p.least p.w.rule (p.w.d.map eI) (p.w.w.map eI) (p.c.p.map eI) p.c.cut (p.r.map jj)) by kernel_rfl).trans ?_
 rw[p161a_run,C241,List.length_map];rw[show zS (zH EE 6) [3] [(.int .i64 (p.ps.length:Int))]=true by kernel_rfl]
 simp only[zF,zJ,zK];rw[show zH EE 6 359 (.fn 282 [] [.dp (.int .i64 (p.ps.length:Int))])=true by kernel_rfl,zF]
 refine zIl ?_;rw[show(⟨tm161 p.ps.length,hpP p 0⟩:St)=forget [1,3,20] _ from ?_]
 ·exact JT _ _
 ·unfold hpP;rw[nsP_zero];kernel_rfl
theorem b161(p:Pn)(hq:∀q∈p.ps,YG q)(h1:1<=p.least)(h2:p.least<=1000)(hl:p.ps.length<=8)(k j i:Nat)(hk:(jC p.ps.length)[k]? = some (j,i)) :
  run zB (gT (Le [] ⟨tm161 p.ps.length,hpP p (k+1)⟩)) (pcX 161 k161b ⟨rd161 p.ps.length j i,hpP p k⟩)=some (.val .nl):=by
 obtain⟨hj,hi,hne⟩:=zC9 (List.mem_of_getElem? hk);simp only at hj hi hne;have hj8:j<8:=by omega
 have hi8:i<8:=by omega
 show run zB (gT _) (p161c j i p.ps.length (p.ps.map ePt) p.least p.w.rule (p.w.d.map eI) (p.w.w.map eI) (p.c.p.map eI) p.c.cut (p.r.map jj) (nsP p k))=_;rw[p161c_run _ _ _ _ _ _ _ _ _ _ _ j i hj8 hi8,List.length_map];have e1:∀a (h:a<p.ps.length),nth (p.ps.map ePt) a=ePt p.ps[a]:=λa h=>zP ePt p.ps a h
 rw[e1 i hi,e1 j hj];have c1:((0:Int)<=((i:Nat):Int))/\(((i:Nat):Int)<((p.ps.length:Nat):Int)):=by omega
 have c2:((0:Int)<=((j:Nat):Int))/\(((j:Nat):Int)<((p.ps.length:Nat):Int)):=by omega
 have hh:∀q:Pt,zH EE 6 141 (ePt q)=true:=λq=>by kernel_rfl
 simp only[decide_eq_true c1,decide_eq_true c2,hh,zF];have ec:zB 158 [(.agg 0 [(.str (bs [112,108,97,110])),(.int .i64 p.least),(.sl 3 [(.agg 9 [(.str (bs [97])),(.agg 1 [(.int .i64 (zC (nth (flds (ePt p.ps[i])) 0))),(.int .i64 (zC (nth (flds (ePt p.ps[i])) 1)))])]),
   (.agg 9 [(.str (bs [98])),(.agg 1 [(.int .i64 (zC (nth (flds (ePt p.ps[j])) 0))),(.int .i64 (zC (nth (flds (ePt p.ps[j])) 1)))])])])])] =
   some (.val (eI (if js p.ps[j] p.ps[i]<p.least * p.least then 15 else 0))):=by
  rw[<-sites2 (hq _ (List.getElem_mem hi)) (hq _ (List.getElem_mem hj)) h1 h2];exact c158 ⟨bs [112,108,97,110],p.least,[⟨bs [97],p.ps[i]⟩,⟨bs [98],p.ps[j]⟩]⟩
 rw[ec];simp only[zJ,zK];rw[show ∀x:Int,zH EE 6 46 (eI x)=true from λx=>by kernel_rfl,zF]
 rw[show jQ 15 j (.agg 15 (nsP p k))=true by unfold jQ nsP;simp;omega,zF]
 have hn:nth (nsP p k) j=.agg 14 ((List.range 8).map λi=>.bool (nbP p k j i)):=by
  unfold nsP;rw[zP _ _ _ (by simpa using hj8)]
  simp
 rw[show jQ 14 i (nth (nsP p k) j)=true by rw[hn];unfold jQ;simp;omega,zF]
 refine zIl ?_;have hx:(bne (if js p.ps[j] p.ps[i]<p.least * p.least then (15:Int) else 0) 0)=jT p j i:=by
  unfold jT;rw[decide_eq_true ⟨hi,hj,λe=>hne e.symm⟩]
  have e2:js (p.ps.getD i default) (p.ps.getD j default)=js p.ps[j] p.ps[i]:=by simp only[List.getD_eq_getElem?_getD,List.getElem?_eq_getElem hi,List.getElem?_eq_getElem hj,Option.getD_some,js];rw[show(p.ps[i].x - p.ps[j].x)=-(p.ps[j].x - p.ps[i].x) by omega,show(p.ps[i].y - p.ps[j].y)=-(p.ps[j].y - p.ps[i].y) by omega,Int.neg_mul_neg,Int.neg_mul_neg]
  rw[e2];split
  ·rename_i h;simp[h]
  ·rename_i h;simp[h]
 have hs:=nsP_step p k j i hk hj8 hi8;rw[<-hx] at hs;rw[show(⟨tm161 p.ps.length,hpP p (k+1)⟩:St)=forget [1,3,20] _ from ?_]
 ·exact JT _ _
 ·unfold hpP;rw[<-hs];kernel_rfl
end
end Go.Am
namespace Go.Am
open Go.Proofs
open Go Go.RowKit
def T161(ds:List DV)(r:CR):Prop:=∃p:Pn,zv p.r/\p.ps.length<=8/\(∀q∈p.ps,YG q)/\1<=p.least/\p.least<=1000/\ds=[ePn p]/\r=.val (.dp (eSe p))
noncomputable def k161g:Code:=match k161r with | .rangeFunc _ _ a _=>a | c=>c
noncomputable def k161y:Code:=sq2 (sq2 (sq2 k161))
theorem glob_nz:∀g x,EE.glob g=some x->nz EE.L (.dp x)=true:=by
 intro g x h;have:EE.glob g=if g=1 then some zGG else none:=rfl
 rw[this] at h;split at h
 ·injection h with h;have e:nz EE.L (.dp zGG)=true:=by kernel_rfl
  exact h ▸ e
 ·cases h
theorem nz_pt(q:Pt):nz EE.L (ePt q)=true:=by kernel_rfl
theorem nz_ints(l:List Int):nzL EE.L (l.map eI)=true:=zBE λx hx=>by obtain⟨m,_,rfl⟩:=List.mem_map.1 hx;rfl
theorem nz_pts(l:List Pt):nzL EE.L (l.map ePt)=true:=zBE λx hx=>by obtain⟨m,_,rfl⟩:=List.mem_map.1 hx;exact nz_pt m
theorem nz_rows(l:List (List Int)):nzL EE.L (l.map jj)=true:=zBE λx hx=>by obtain⟨m,_,rfl⟩:=List.mem_map.1 hx;exact nz_ints m
theorem nz_ns(p:Pn)(k:Nat):nzL EE.L (nsP p k)=true:=zBE λx hx=>by obtain⟨m,_,rfl⟩:=List.mem_map.1 hx;show nzL EE.L _=true;exact zBE λy hy=>by obtain⟨m,_,rfl⟩:=List.mem_map.1 hy;rfl
theorem nz_hp(p:Pn)(k:Nat):(hpP p k).all (nzB EE.L)=true:=by
 have e:(hpP p k).all (nzB EE.L)=(nzL EE.L [dPn (p.ps.map ePt) p.least p.w.rule (p.w.d.map eI) (p.w.w.map eI) (p.c.p.map eI) p.c.cut (p.r.map jj)] &&
   nzL EE.L [dSe (p.ps.map ePt) p.least p.w.rule (p.w.d.map eI) (p.w.w.map eI) (p.c.p.map eI) p.c.cut (p.r.map jj) (nsP p k)]):=by
  unfold hpP;generalize nsP p k=ns;unfold hp161;simp only[stHp,List.all_cons,List.all_nil,nzB,zJd,nzV,Bool.true_and,Bool.and_true]
 rw[e];simp[nzL,nz,nz_ints,nz_pts,nz_rows,nz_ns]
set_option maxRecDepth 100000 in
theorem body161:∃i1 i2 s1 s2 i3 s3 s4 af1 af2,Tryz.f161.body=some (.seq (sq1 k161) (.seq (sq1 (sq2 k161)) (.seq (.seq (sq1 (sq1 (sq2 (sq2 k161)))) (.block 0 (.rangeFunc (.tmp 20) #[21,22] (asgC i1 i2 4 5 21 22 3 s1 s2) k161b)))
  (.seq (.region i3 #[{ dst:=some 49,op:=.load 268 (.tmp 3),type:=268,pos:=s3,after:=af1,guard:=none },{ dst:=some 2,op:=.assign (.tmp 49),type:=268,pos:=s4,after:=af2,guard:=none }] false) .ret)))) :=
 ⟨3,4,zAJ (sq1 k161g) 0,zAJ (sq2 k161g) 0,7,zAJ (sq1 k161y) 0,zAJ (sq1 k161y) 1,#[],#[{ on:=0,ground:=.data },{ on:=0,ground:=.phase }],by kernel_rfl⟩
theorem len161(n:Int):(tm161 n).length=50:=by kernel_rfl
def D161:List Nat:=[4,5,6]++List.range' 21 28
theorem dead161(n:Int):∀i∈D161,(tm161 n)[i]? = some .undef\/(tm161 n)[i]? = none:=by
 have h:D161.all (λi=>match (tm161 n)[i]? with | some .undef=>true | none=>true | _=>false)=true:=by kernel_rfl
 intro i hi;have:=List.all_eq_true.1 h i hi;revert this;cases (tm161 n)[i]? with
 | none=>intro _;exact .inr rfl
 | some v=>cases v <;> simp
theorem loopGuard(n:Nat)(h:n<=8):(n:Int)<9223372036854775807:=by omega
set_option maxHeartbeats 1000000 in
theorem at161[OO](hE:EnvOKo PP EE OO.o)(ds:List DV)(r:CR):T161 ds r->Qk PP EE 161 ds r:=by
 rintro⟨p,hr,hl,hq,h1,h2,rfl,rfl⟩;refine⟨enters Tryz.func161 (by kernel_rfl) (by kernel_rfl),λS w vals hg hlt hlen hv=>?_⟩
 obtain⟨i1,i2,s1,s2,i3,s3,s4,af1,af2,hb⟩:=body161;refine(callsIn_wide (n:=0)).1 (callsIn_of_wp_marks Tryz.func161 hb trivial (wpIn_wide.2 ?_));have hc:jv PP EE (jr EE zB):=zAt (jg hE XX);have hD:DOK PP EE:=zAU _ _ _;have hR0:=zDL (E:=EE) (fn:=Tryz.f161) hg hlt hlen (show[ePn p].length<=Tryz.f161.ntmps by simp) hv
 have hA:=zH7 (M:=1) (Nat.le_refl 1) (show zw k161a=0 by kernel_rfl) (a161 p)
 refine exec_pre3 hD Jt hc (t:=⟨tm161 p.ps.length,hpP p 0⟩) hA hR0 λS1 φ1 a1 w1 hR1 hG1=>?_
 refine wp_block (wpIn_wide.1 (wp_pairs (n:=p.ps.length) (M:=1) (tm:=tm161 p.ps.length) hD hc (hpP p) hR1 (loopGuard _ hl) (by kernel_rfl) glob_nz (by kernel_rfl) (by kernel_rfl) (λk _=>nz_hp p k) D161 (dead161 _)
  (by decide) (by decide) (by decide) (by rw[len161];decide) (by kernel_rfl) (by kernel_rfl) (λk q hk=>zH7 (Nat.le_refl 1) (by kernel_rfl) (b161 p hq h1 h2 hl k q.1 q.2 hk)) λS2 φ2 W hR2 hG2 hn2 hd2=>?_))
 have hw1:w.heap.size<=w1.heap.size:=hG1.below.size;show(Code.seq _ Code.ret).wp PP _ _ W;refine tail_wp (fn:=Tryz.f161) (x:=.ptr 16 892 0 []) (fresh:=false) (v:=.ptr 3 1 0 []) (w0:=w) (S0:=S) hD hR2 (hG1.trans hG2) hd2 hn2 hw1 (by kernel_rfl) (by kernel_rfl) ?_ (by rw[len161];decide)
 have e:fin EE false Tryz.f161 ⟨jh (jh (tm161 p.ps.length) (some 49) (AV.ptr 16 892 0 [])) (some 2) (AV.ptr 16 892 0 []),hpP p (jC p.ps.length).length⟩ =
   some (.val (.dp (.agg 16 [ePn p,eMd p.w p.c p.r,.agg 15 (nsP p (jC p.ps.length).length)]))):=by
  unfold hpP;generalize nsP p (jC p.ps.length).length=ns;kernel_rfl
 exact e.trans (by rw[nsP_end])
end Go.Am
namespace Go.Am
open Go.Proofs
open Go Go.RowKit
def T200(ds:List DV)(r:CR):Prop:=∃(w:Wk) (ps:List Pt) (sec:Int) (st:Pt),w.w.length=w.d.length/\w.d.length<=32/\ps.length<=64/\(∀p∈ps,YG p)/\zA8 st/\ds=[eWk w,.sl 2 (ps.map ePt),eWd sec st] /\
 r=.val (.sl 1 ((wakesP w ps sec st).map λr=>.sl 1 (r.map eI)))
def wakeAt(w:Wk)(ps:List Pt)(sec:Int)(st:Pt)(j i:Nat):Int:=defP w sec st (ps.getD i default) (ps.getD j default)
def zAY(w:Wk)(ps:List Pt)(sec:Int)(st:Pt)(k j:Nat):List Int:=(List.range ps.length).map λi=>if (j,i)∈(jC ps.length).take k then wakeAt w ps sec st j i else 0
theorem zF2(w:Wk)(ps:List Pt)(sec:Int)(st:Pt)(k j:Nat):(zAY w ps sec st k j).length=ps.length:=by simp[zAY]
theorem rowK_zero(w:Wk)(ps:List Pt)(sec:Int)(st:Pt)(j:Nat):zAY w ps sec st 0 j=List.replicate ps.length 0:=by unfold zAY;refine List.ext_getElem (by simp) λi h1 h2=>by simp
theorem rowK_end(w:Wk)(ps:List Pt)(sec:Int)(st:Pt)(j:Nat)(hj:j<ps.length):zAY w ps sec st (jC ps.length).length j=jZ w ps sec st j:=by
 unfold zAY jZ;rw[List.take_length];refine List.map_congr_left λi hi=>?_
 have hi':=List.mem_range.1 hi;by_cases h:i=j
 ·subst h;rw[if_pos rfl,if_neg];intro hm;exact(zC9 hm).2.2 rfl
 ·rw[if_neg h,if_pos (zEm hj hi' h)];rfl
theorem rowK_step(w:Wk)(ps:List Pt)(sec:Int)(st:Pt)(k j i:Nat)(h:(jC ps.length)[k]? = some (j,i)):zAY w ps sec st (k+1) j=(zAY w ps sec st k j).set i (wakeAt w ps sec st j i):=by
 unfold zAY;rw[List.take_succ,h];refine List.ext_getElem (by simp) λa h1 h2=>?_
 rw[List.getElem_set];simp only[List.getElem_map,List.getElem_range];by_cases e:i=a
 ·subst e;simp
 ·rw[if_neg e];have:¬((j,a)=(j,i)):=by simpa using λh=>e h.symm
  simp[this,Ne.symm e]
theorem rowK_other(w:Wk)(ps:List Pt)(sec:Int)(st:Pt)(k j i b:Nat)(h:(jC ps.length)[k]? = some (j,i))(hb:b≠j):zAY w ps sec st (k+1) b=zAY w ps sec st k b:=by
 unfold zAY;rw[List.take_succ,h];refine List.map_congr_left λa _=>?_
 have:¬((b,a)=(j,i)):=by simpa using λh=>absurd h hb
 simp[hb]
section
variable[OO]
theorem b200(w:Wk)(ps:List Pt)(sec:Int)(st:Pt)(hw:w.w.length=w.d.length)(hd:w.d.length<=32)(hp:ps.length<=64)(hq:∀p∈ps,YG p)(hs:zA8 st)(row:List Int)(hrow:row.length=ps.length)(j i:Nat)(hj:j<ps.length)(hi:i<ps.length) :
  run zB (gT (Le [] ⟨stTm 47 0 [(7,.ptr 7 1 0 [])],hp200 j ps.length ((row.set i (wakeAt w ps sec st j i)).map eI)⟩)) (pcX 200 k200b ⟨rd200 j i w.rule (w.d.map eI) (w.w.map eI) (ps.map ePt) sec st.x st.y,hp200 j ps.length (row.map eI)⟩)=some (.val .nl):=by
 show run zB (gT _) (p200c j i ps.length w.rule (w.d.map eI) (w.w.map eI) (ps.map ePt) sec st.x st.y (row.map eI))=_;rw[p200c_run _ i ps.length _ _ _ _ _ _ _ _ j (by omega)]
 unfold X200;rw[List.length_map,Int.toNat_natCast,zP ePt ps i hi,zP ePt ps j hj];have hh:∀q:Pt,zH EE 6 141 (ePt q)=true:=λq=>by kernel_rfl
 rw[decide_eq_true (show((0:Int)<=((j:Nat):Int))/\(((j:Nat):Int)<((ps.length:Nat):Int)) by omega),decide_eq_true (show((0:Int)<=((i:Nat):Int))/\(((i:Nat):Int)<((ps.length:Nat):Int)) by omega)]
 simp only[zF,hh];have e1:zB 185 [(.agg 9 [(.int .i64 sec),(.agg 1 [(.int .i64 st.x),(.int .i64 st.y)])]),(.agg 1 [(.int .i64 (zC (nth (flds (ePt ps[i])) 0))),(.int .i64 (zC (nth (flds (ePt ps[i])) 1)))]),(.agg 1 [(.int .i64 (zC (nth (flds (ePt ps[j])) 0))),(.int .i64 (zC (nth (flds (ePt ps[j])) 1)))])] =
   some (.val (.tup [eI (zB2 sec st ps[i] ps[j]).1,eI (zB2 sec st ps[i] ps[j]).2])):=c185 sec st ps[i] ps[j] hs (hq _ (List.getElem_mem hi)) (hq _ (List.getElem_mem hj))
 rw[e1];simp only[zJ];rw[show ∀a b:Int,(DV.isTup (.tup [eI a,eI b]) && zS (zH EE 6) [3,3] (tups (.tup [eI a,eI b])))=true from λa b=>by kernel_rfl,zF]
 have e2:zB 186 [(.agg 0 [(.str w.rule),(.sl 1 (w.d.map eI)),(.sl 1 (w.w.map eI))]),(.int .i64 (zC (nth (tups (.tup [eI (zB2 sec st ps[i] ps[j]).1,eI (zB2 sec st ps[i] ps[j]).2])) 0))),(.int .i64 (zC (nth (tups (.tup [eI (zB2 sec st ps[i] ps[j]).1,eI (zB2 sec st ps[i] ps[j]).2])) 1)))] =
   some (.val (eI (wakeAt w ps sec st j i))):=by
  have:=c186 w (zB2 sec st ps[i] ps[j]).1 (zB2 sec st ps[i] ps[j]).2 hw (by omega)
  refine this.trans ?_;unfold wakeAt defP;simp only[List.getD_eq_getElem?_getD,List.getElem?_eq_getElem hi,List.getElem?_eq_getElem hj,Option.getD_some]
 rw[e2];simp only[zJ];rw[show ∀a:Int,zH EE 6 3 (eI a)=true from λa=>by kernel_rfl,zF,decide_eq_true (show 0+i<(row.map eI).length by rw[List.length_map,hrow];omega),zF]
 refine zIl ?_;have hst:List.set (row.map eI) (0+i) (eI (wakeAt w ps sec st j i))=(row.set i (wakeAt w ps sec st j i)).map eI:=by rw[Nat.zero_add,List.map_set]
 rw[<-hst,f200 i ps.length w.rule (w.d.map eI) (w.w.map eI) (ps.map ePt) sec st.x st.y (.tup [eI (zB2 sec st ps[i] ps[j]).1,eI (zB2 sec st ps[i] ps[j]).2]) (wakeAt w ps sec st j i) (row.map eI) j (by omega)]
 exact JT _ _
end
end Go.Am
namespace Go.Am
open Go.Proofs
open Go Go.RowKit
theorem body200:∃i0 s01 s02 s03 a1 a2 a3 ats2 i1 i2 s1 s2 i3 s3 s4 af1 af2,k200r=.seq (.seq (.region i0 #[{ dst:=some 21,op:=.load 81 (.tmp 4),type:=81,pos:=s01,after:=a1,guard:=none },
   { dst:=some 22,op:=.call { callee:=.builtin .len,args:=#[.tmp 21],argTypes:=#[81] },type:=3,pos:=s02,after:=a2,guard:=none },
   { dst:=some 23,op:=.call { callee:=.value (.func 241),args:=#[.tmp 22],argTypes:=ats2 },type:=359,pos:=s03,after:=a3,guard:=none }] false)
   (.block 2 (.rangeFunc (.tmp 23) #[24,25] (asgC i1 i2 8 9 24 25 3 s1 s2) k200b)))
  (.seq (.region i3 #[{ dst:=some 46,op:=.load 95 (.tmp 7),type:=95,pos:=s3,after:=af1,guard:=none },{ dst:=some 6,op:=.assign (.tmp 46),type:=95,pos:=s4,after:=af2,guard:=none }] false) .ret) :=
 ⟨6,zAJ (sq1 (sq1 k200z)) 0,zAJ (sq1 (sq1 k200z)) 1,zAJ (sq1 (sq1 k200z)) 2,zGj (sq1 (sq1 k200z)) 0,zGj (sq1 (sq1 k200z)) 1,zGj (sq1 (sq1 k200z)) 2,#[3],7,8,
  zAJ (sq1 (rfA (bk1 (sq2 (sq1 k200z))))) 0,zAJ (sq2 (rfA (bk1 (sq2 (sq1 k200z))))) 0,10,zAJ (sq1 (sq2 k200z)) 0,zAJ (sq1 (sq2 k200z)) 1,zGj (sq1 (sq2 k200z)) 0,zGj (sq1 (sq2 k200z)) 1,by kernel_rfl⟩
theorem reg6_wp{P:Program}{a:Act}{w:World}{i:Nat}{s1 s2 s3:String}{a1 a2 a3:Array Edge}{ats2:Array TypeId}{pa:Option Addr}{n c:Nat}{R:Ending->World->Prop}{Q:Exit->Act->World->Prop}
  (hu:P.underlying 81=some (.slice 141)) (hrun:(Instr.loadAt 81 (a.eval (.tmp 4))).run P w=.ok (.slice pa n c) w) (hsz:a.tmps.size=47) (eg:∀args w,(callFunc 241 args).run P w=.ok (.enter 241 args) w) (hc:Calls P 241 #[.int .i64 n] w R)
  (hR:∀e w',R e w'->∃u,e=.returned u/\Q .normal (((a.put (some 21) (.slice pa n c)).put (some 22) (.int .i64 n)).put (some 23) u) w') :
  (Code.region i #[{ dst:=some 21,op:=.load 81 (.tmp 4),type:=81,pos:=s1,after:=a1,guard:=none },
   { dst:=some 22,op:=.call { callee:=.builtin .len,args:=#[.tmp 21],argTypes:=#[81] },type:=3,pos:=s2,after:=a2,guard:=none },
   { dst:=some 23,op:=.call { callee:=.value (.func 241),args:=#[.tmp 22],argTypes:=ats2 },type:=359,pos:=s3,after:=a3,guard:=none }] false).wp P Q a w:=by
 have e1:(a.put (some 21) (.slice pa n c)).eval (.tmp 21)=.slice pa n c:=by simp only[Act.eval,Act.put,Array.getD_eq_getD_getElem?,Array.getElem?_setIfInBounds_self_of_lt (show 21<a.tmps.size by omega),Option.getD_some]
 have e2:((a.put (some 21) (.slice pa n c)).put (some 22) (.int .i64 n)).eval (.tmp 22)=.int .i64 n:=by simp only[Act.eval,Act.put,Array.getD_eq_getD_getElem?];rw[Array.getElem?_setIfInBounds_self_of_lt (by simp;omega),Option.getD_some]
 refine wp_region ?_;simp only[List.size_toArray,List.length_cons,List.length_nil,Nat.zero_add,List.range_succ,List.range_zero,List.nil_append,List.cons_append,wpOps,List.getElem?_toArray,List.getElem?_cons_zero,List.getElem?_cons_succ,Region.wanted,if_true];refine .inl ?_;unfold Oper.wp;simp only[execOp,Sem.run_bind,hrun,Result.andThen_ok,Sem.run_pure,Oper.upon];refine .inl ?_;have hrun2:(execOp (a.put (some 21) (.slice pa n c)).eval { dst:=some 22,op:=.call { callee:=.builtin .len,args:=#[.tmp 21],argTypes:=#[81] },type:=3,pos:=s2,after:=a2,guard:=none }).run P w=.ok (.value (.int .i64 n)) w:=by simp[execOp,resolve,invoke,e1,builtin,Builtin.len_,run_underlying hu,goInt]
 simp only[execOp,Sem.run_bind] at hrun2;rw[hrun2];refine .inl ?_;have hev:∀x:Act,x.eval (.func 241)=.func (.func 241) #[] #[]:=λ_=>rfl
 have hrun3:(execOp ((a.put (some 21) (.slice pa n c)).put (some 22) (.int .i64 n)).eval { dst:=some 23,op:=.call { callee:=.value (.func 241),args:=#[.tmp 22],argTypes:=ats2 },type:=359,pos:=s3,after:=a3,guard:=none }).run P w=.ok (.enter 241 #[.int .i64 n]) w:=by simp[execOp,resolve,Deferred.ofValue,invoke,hev,e2,eg]
 simp only[execOp,Sem.run_bind] at hrun3;rw[hrun3];show Calls P 241 _ _ _;refine hc.mono λe w' h=>?_
 obtain⟨u,rfl,hq⟩:=hR e w' h;exact hq
theorem TmOK.set{L:Nat->List Nat}{S:Nat->Prop}{φ:Nat->Option Nat}{w:World}{tm:List AV}{a:Act}(h:TmOK L S φ w tm a){t:Nat}{v:AV}{u:Value}(hu:a.tmps[t]? = some u)(hv:RAV L S φ w v u):TmOK L S φ w (tm.set t v) a:=by
 intro i x hx;rw[List.getElem?_set] at hx;split at hx
 ·rename_i e;subst e;split at hx
  ·injection hx with hx;subst hx
   exact⟨u,hu,hv⟩
  ·cases hx
 ·exact h i x hx
theorem TmOK.undef{L:Nat->List Nat}{S:Nat->Prop}{φ:Nat->Option Nat}{w:World}{a:Act}{n:Nat}(hn:a.tmps.size=n):TmOK L S φ w (List.replicate n .undef) a:=by
 intro i x hx;rw[List.getElem?_replicate] at hx;split at hx
 ·rename_i hi;injection hx with hx
  subst hx;exact⟨a.tmps[i]'(by rw[hn];exact hi),by simp[hn,hi],trivial⟩
 ·cases hx
structure Mem(w:Wk)(ps:List Pt)(sec:Int)(st:Pt)(N:Nat)(v:Value)(g cap:Nat)(rs:List Nat)(S0:Nat->Prop)(wk wd:Array Value)(pa:Option Addr)(c k:Nat)(V:World):Prop where
 glob:GlobOK EE S0 V
 lt0:∀b,S0 b->b<N
 rw':RD EE.L S0 V (eWk w) wk.toList
 rp:RD EE.L S0 V (.sl 2 (ps.map ePt)) [.slice pa ps.length c]
 rd:RD EE.L S0 V (eWd sec st) wd.toList
 h0:V.heap[N]? = some (.cells wk 59 (0,0))
 h1:V.heap[N+1]? = some (.cells #[.slice pa ps.length c] 81 (0,0))
 h2:V.heap[N+1+1]? = some (.cells wd 251 (0,0))
 h3:V.heap[N+1+1+1]? = some (.cells #[v] 95 (0,0))
 hv:v=.slice (some ⟨g,0,none⟩) ps.length cap
 hg:N+1+1+1+1<=g
 hcap:ps.length<=cap
 out:∃cs t,V.heap[g]? = some (.cells cs t (0,0))/\rs.map (zDZ ps.length) <+: cs.toList/\cs.size=cap
 len:rs.length=ps.length
 nodup:rs.Nodup
 ge:∀b∈rs,N+1+1+1+1<=b/\b≠g
 rows:∀j (h:j<rs.length),∃cs t,V.heap[rs[j]]? = some (.cells cs t (0,0))/\(zAY w ps sec st k j).map (Value.int .i64) <+: cs.toList
structure Tms(N:Nat)(a:Act):Prop where
 dfr:a.defers=[]
 size:a.tmps.size=47
 t3:a.tmps[3]? = some (.pointer (some ⟨N,0,none⟩))
 t4:a.tmps[4]? = some (.pointer (some ⟨N+1,0,none⟩))
 t5:a.tmps[5]? = some (.pointer (some ⟨N+1+1,0,none⟩))
 t7:a.tmps[7]? = some (.pointer (some ⟨N+1+1+1,0,none⟩))
def phi200(N g b:Nat):Nat->Option Nat:=λs=>if s=7 then some (N+1+1+1) else if s=19 then some g else if s=20 then some b else none
theorem qW{w:World}{b t:Nat}{cs:Array Value}(h:w.heap[b]? = some (.cells cs t (0,0))):∀(j:Nat) (u:Value),cs.toList[j]? = some u->w.cell? ((⟨b,0,none⟩:Addr).add j)=some u:=by intro j u hu;rw[jk rfl];unfold World.cell?;simp only[h,Nat.zero_add];simpa using hu
theorem zF0{j n b:Nat}{row:List DV}{ob:OB}(h:slot (hp200 j n row) b=some ob) :
  (b=7/\ob=⟨true,.ac 1 [.own 19 0 n 1]⟩)\/(b=19/\ob=⟨true,.ac 1 (List.replicate j .undef++[.own 20 0 n 1])⟩)\/(b=20/\ob=⟨false,.dc 1 row⟩):=by
 have e:hp200 j n row=List.replicate 7 none++some ⟨true,.ac 1 [.own 19 0 n 1]⟩ :: (List.replicate 11 none++some ⟨true,.ac 1 (List.replicate j .undef++[.own 20 0 n 1])⟩ :: some ⟨false,.dc 1 row⟩ :: List.replicate 26 none):=by kernel_rfl
 rw[e] at h;unfold slot at h;by_cases h7:b<7
 ·rw[List.getElem?_append_left (by simpa using h7),List.getElem?_replicate,if_pos h7] at h;simp at h
 ·rw[List.getElem?_append_right (by simp;omega),List.length_replicate] at h
  by_cases e7:b=7
  ·subst e7;simp at h;exact .inl ⟨rfl,h.symm⟩
  ·obtain⟨m,rfl⟩:∃m,b=8+m:=⟨b - 8,by omega⟩
   rw[show 8+m - 7=m+1 by omega,List.getElem?_cons_succ] at h
   by_cases h11:m<11
   ·rw[List.getElem?_append_left (by simpa using h11),List.getElem?_replicate,if_pos h11] at h;simp at h
   ·rw[List.getElem?_append_right (by simp;omega),List.length_replicate] at h
    obtain⟨q,rfl⟩:∃q,m=11+q:=⟨m - 11,by omega⟩
    rw[show 11+q - 11=q by omega] at h
    match q with
    | 0=>simp at h;exact .inr (.inl ⟨rfl,h.symm⟩)
    | 1=>simp at h;exact .inr (.inr ⟨rfl,h.symm⟩)
    | q+2 =>
     rw[List.getElem?_cons_succ,List.getElem?_cons_succ,List.getElem?_replicate] at h;by_cases hq:q<26
     ·rw[if_pos hq] at h;simp at h
     ·rw[if_neg hq] at h;simp at h
theorem round_rel{w:Wk}{ps:List Pt}{sec:Int}{st:Pt}{N g cap c k:Nat}{v:Value}{rs:List Nat}{S0 S:Nat->Prop}{wk wd:Array Value}{pa:Option Addr}{V:World}{a:Act}(m:Mem w ps sec st N v g cap rs S0 wk wd pa c k V)(t:Tms N a)
  (hN:N<=V.heap.size) {j i:Nat} (hj:j<rs.length) (t8:a.tmps[8]? = some (.int .i64 (j:Int))) (t9:a.tmps[9]? = some (.int .i64 (i:Int)))
  (hS:∀b,S b->b<V.heap.size) (hS0:∀b,S0 b->S b) (h0:S N) (h1:S (N+1)) (h2:S (N+1+1)) (h3:S (N+1+1+1)) (hg:S g) (hr:¬S rs[j]) :
  Rel EE N S (phi200 N g rs[j]) ⟨rd200 j i w.rule (w.d.map eI) (w.w.map eI) (ps.map ePt) sec st.x st.y,hp200 j ps.length ((zAY w ps sec st k j).map eI)⟩ a V:=by
 have hrj:=List.getElem_mem hj;obtain⟨cs,tt,hrow,hpre⟩:=m.rows j hj;obtain⟨co,tO,hout,hopre,hosz⟩:=m.out;have hge:=m.ge _ hrj;have hlt:rs[j]<V.heap.size:=(Array.getElem?_eq_some_iff.1 hrow).1;have ho7:N+1+1+1<V.heap.size:=(Array.getElem?_eq_some_iff.1 m.h3).1;have hog:g<V.heap.size:=(Array.getElem?_eq_some_iff.1 hout).1;have mono:∀{x:DV} {cs:List Value},RD EE.L S0 V x cs->RD EE.L S V x cs:=λh=>h.mono hS0 λ_ _=>rfl
 have hroomg:Room V g ((0+cap) * 1):=⟨co,tO,hout,by omega⟩
 have hroomr:Room V rs[j] ((0+ps.length) * 1):=by refine⟨cs,tt,hrow,?_⟩;have h:=hpre.length_le;rw[List.length_map,zF2] at h;have:cs.toList.length=cs.size:=rfl;omega
 have f7:phi200 N g rs[j] 7=some (N+1+1+1):=rfl;have f19:phi200 N g rs[j] 19=some g:=rfl;have f20:phi200 N g rs[j] 20=some rs[j]:=rfl;refine⟨m.glob.mono hS0 λ_ _=>rfl,?_,?_,?_,hS,hN,t.dfr⟩
 ·have e:rd200 j i w.rule (w.d.map eI) (w.w.map eI) (ps.map ePt) sec st.x st.y =
    ((((((List.replicate 47 AV.undef).set 3 (.d (.dp (eWk w)))).set 4 (.d (.dp (.sl 2 (ps.map ePt))))).set 5 (.d (.dp (eWd sec st)))).set 7 (.ptr 7 1 0 [])).set 8 (.d (.int .i64 j))).set 9 (.d (.int .i64 i)):=by kernel_rfl
  show TmOK EE.L S _ V _ a;rw[e];refine((((((TmOK.undef t.size).set t.t3 ?_).set t.t4 ?_).set t.t5 ?_).set t.t7 ?_).set t8 ?_).set t9 ?_
  ·exact⟨RD.dp _ _ wk.toList rfl h0 (qW m.h0) (mono m.rw') rfl,rfl⟩
  ·exact⟨RD.dp _ _ [_] rfl h1 (qW m.h1) (mono m.rp) rfl,rfl⟩
  ·exact⟨RD.dp _ _ wd.toList rfl h2 (qW m.h2) (mono m.rd) rfl,rfl⟩
  ·exact⟨RA.ptr 7 1 0 [] _ f7,rfl⟩
  ·exact⟨.int _ _,rfl⟩
  ·exact⟨.int _ _,rfl⟩
 ·intro b ob hb;rcases zF0 hb with ⟨rfl,rfl⟩ | ⟨rfl,rfl⟩ | ⟨rfl,rfl⟩
  ·refine⟨_,f7,by omega,⟨#[v],95,[[v]],m.h3,rfl,λi a b=>?_,by simp,by simp⟩,by simpa using h3⟩
   match i,a with
   | 0,_ =>
    show RA _ _ _ _ (.own 19 0 ps.length 1) [v];rw[m.hv];exact RA.own 19 0 ps.length 1 g cap f19 m.hcap hroomg
  ·refine⟨_,f19,by have:=m.hg;omega,⟨co,tO,((rs.take (j+1)).map λb=>[zDZ ps.length b]),hout,?_,λi a b=>?_,?_,?_⟩,by simpa using hg⟩
   ·simp;omega
   ·by_cases hij:i<j
    ·rw[List.getElem_append_left (by simpa using hij),List.getElem_replicate]
     refine RA.undef _ λu hu=>?_
     rw[List.getElem_map] at hu;rw[List.mem_singleton.1 hu];rfl
    ·have hij':i=j:=by simp at a;omega
     subst hij';rw[List.getElem_append_right (by simp)]
     simp only[List.length_replicate,Nat.sub_self,List.getElem_cons_zero,List.getElem_map,List.getElem_take];exact RA.own 20 0 ps.length 1 rs[i] ps.length f20 (Nat.le_refl _) hroomr
   ·intro c hc;obtain⟨b,_,rfl⟩:=List.mem_map.1 hc;rfl
   ·rw[flat1 (zDZ ps.length)];refine List.IsPrefix.trans ?_ hopre;exact(List.take_prefix _ _).map _
  ·refine⟨_,f20,by omega,⟨cs,tt,(zAY w ps sec st k j).map λm=>[Value.int .i64 m],hrow,by simp,λi a b=>?_,λc hc=>?_,by rw[flat1 (Value.int .i64)];exact hpre⟩,by simpa using hr⟩
   ·simp only[List.getElem_map];exact .int _ _
   ·obtain⟨b,_,rfl⟩:=List.mem_map.1 hc;rfl
 ·intro b b' ob ob' cb h1 h2 h3 h4;rcases zF0 h1 with ⟨rfl,_⟩ | ⟨rfl,_⟩ | ⟨rfl,_⟩ <;> rcases zF0 h2 with ⟨rfl,_⟩ | ⟨rfl,_⟩ | ⟨rfl,_⟩ <;> first | rfl | (exfalso;simp only[f7,f19,f20,Option.some.injEq] at h3 h4;have:=m.hg;omega)
end Go.Am
namespace Go.Am
open Go.Proofs
open Go Go.RowKit
section
variable{L:Nat->List Nat}{S:Nat->Prop}{φ:Nat->Option Nat}{w:World}{cb:Nat}
theorem RB.ints{l:List Int}(h:RB L S φ w (.dc 1 (l.map eI)) cb):∃(cs:Array Value) (t:TypeId),w.heap[cb]? = some (.cells cs t (0,0))/\l.map (Value.int .i64) <+: cs.toList:=by
 obtain⟨cs,t,css,h1,h2,h3,h4,h5⟩:=h;refine⟨cs,t,h1,?_⟩;have:css=l.map λm=>[Value.int .i64 m]:=by
  refine List.ext_getElem (by simpa using h2) λi a b=>?_
  have h:=h3 i (by simpa using b) a
  rw[List.getElem_map] at h ⊢;exact RD.int1 h
 rw[this,flat1 (Value.int .i64)] at h5;exact h5
theorem flat_one{css:List (List Value)}(hz:∀c∈css,c.length=1)(i:Nat)(h:i<css.length)(x:Value)(hx:css[i]=[x]):css.flatten[i]? = some x:=by
 induction css generalizing i with
 | nil=>simp at h
 | cons c r ih =>
  have hc:=hz c (by simp)
  obtain⟨y,rfl⟩:=List.length_eq_one_iff.1 hc;cases i with
  | zero=>simp at hx;simp[hx]
  | succ i=>simpa using ih (λc hc=>hz c (by simp[hc])) i (by simpa using h) (by simpa using hx)
end
theorem round_back{N g cap n j:Nat}{v:Value}{rs:List Nat}{S:Nat->Prop}{φ:Nat->Option Nat}{V:World}{a:Act}{row:List Int}{co:Array Value}{tO:TypeId}
  (hR:Rel EE N S φ ⟨stTm 47 0 [(7,.ptr 7 1 0 [])],hp200 j n (row.map eI)⟩ a V) (ht:a.tmps[7]? = some (.pointer (some ⟨N+1+1+1,0,none⟩))) (h3:V.heap[N+1+1+1]? = some (.cells #[v] 95 (0,0)))
  (hv:v=.slice (some ⟨g,0,none⟩) n cap) (hg:V.heap[g]? = some (.cells co tO (0,0))) (hco:rs.map (zDZ n) <+: co.toList) (hj:j<rs.length) (hn:0<n) :
  ∃(cs:Array Value) (t:TypeId),V.heap[rs[j]]? = some (.cells cs t (0,0))/\row.map (Value.int .i64) <+: cs.toList:=by
 have ehp:hp200 j n (row.map eI)=List.replicate 7 none++some ⟨true,.ac 1 [.own 19 0 n 1]⟩ :: (List.replicate 11 none++some ⟨true,.ac 1 (List.replicate j .undef++[.own 20 0 n 1])⟩ :: some ⟨false,.dc 1 (row.map eI)⟩ :: List.replicate 26 none):=by kernel_rfl
 have s7:slot (hp200 j n (row.map eI)) 7=some ⟨true,.ac 1 [.own 19 0 n 1]⟩:=by rw[ehp];rfl
 have s19:slot (hp200 j n (row.map eI)) 19=some ⟨true,.ac 1 (List.replicate j .undef++[.own 20 0 n 1])⟩:=by rw[ehp];rfl
 have s20:slot (hp200 j n (row.map eI)) 20=some ⟨false,.dc 1 (row.map eI)⟩:=by rw[ehp];rfl
 obtain⟨u,hu,hru⟩:=hR.tm 7 (.ptr 7 1 0 []) (by kernel_rfl)
 rw[ht] at hu;injection hu with hu
 subst hu;have hφ7:φ 7=some (N+1+1+1):=by
  obtain⟨hr,_⟩:RA EE.L S φ V (.ptr 7 1 0 []) [.pointer (some ⟨N+1+1+1,0,none⟩)]/\_:=hru;cases hr with
  | ptr _ _ _ _ cb hb=>exact hb
 obtain⟨c7,e7,_,⟨cs7,t7,css7,h7,hl7,hr7,hz7,hp7⟩,_⟩:=hR.blk 7 _ s7;rw[hφ7] at e7;injection e7 with e7;subst e7
 rw[h3] at h7;injection h7 with h7;injection h7 with h7 _ _;subst h7
 have hc7:=hr7 0 (by simp) (by simp at hl7;omega)
 have hv7:css7[0]'(by simp at hl7;omega)=[v]:=by
  have hl0:css7.length=1:=by simpa using hl7
  obtain⟨c0,rfl⟩:=List.length_eq_one_iff.1 hl0;have hz:=hz7 c0 (by simp)
  obtain⟨x,rfl⟩:=List.length_eq_one_iff.1 hz;obtain⟨r,hr⟩:=hp7;have hr':x :: r=[v]:=hr;injection hr' with e1 _
  rw[<-e1];rfl
 simp only[List.getElem_cons_zero] at hc7;rw[hv7,hv] at hc7;have hφ19:φ 19=some g:=by
  generalize hm:n=m at hc7 hn;cases hc7 with
  | own _ _ _ _ cb c hb=>exact hb
  | own0=>omega
 obtain⟨c19,e19,_,⟨cs19,t19,css19,h19,hl19,hr19,hz19,hp19⟩,_⟩:=hR.blk 19 _ s19;rw[hφ19] at e19;injection e19 with e19;subst e19
 rw[hg] at h19;injection h19 with h19;injection h19 with h19 _ _;subst h19
 have hl19':css19.length=j+1:=by simpa using hl19
 have hcj:=hr19 j (by simp) (by omega)
 rw[List.getElem_append_right (by simp)] at hcj
 simp only[List.length_replicate,Nat.sub_self,List.getElem_cons_zero] at hcj;have hφ20:φ 20=some rs[j]:=by
  have hz:=hz19 css19[j] (List.getElem_mem _);obtain⟨x,hx⟩:=List.length_eq_one_iff.1 hz;have hf:=flat_one hz19 j (by omega) x hx
  have hx2:co.toList[j]? = some x:=by
   obtain⟨rest,hrest⟩:=hp19;rw[<-hrest,List.getElem?_append_left (by rw[List.length_flatten];have:=zC2 hz19;rw[this];simp;omega)]
   exact hf
  have hx3:co.toList[j]? = some (zDZ n rs[j]):=by
   obtain⟨rest,hrest⟩:=hco;rw[<-hrest,List.getElem?_append_left (by simpa using hj)]
   simp[hj]
  rw[hx2] at hx3;injection hx3 with hx3
  rw[hx,hx3] at hcj;unfold zDZ at hcj;generalize hm:n=m at hcj hn;cases hcj with
  | own _ _ _ _ cb c hb=>exact hb
  | own0=>omega
 obtain⟨c20,e20,_,h20,_⟩:=hR.blk 20 _ s20;rw[hφ20] at e20;injection e20 with e20;subst e20
 exact RB.ints h20
theorem Mem.kept{w:Wk}{ps:List Pt}{sec:Int}{st:Pt}{N g cap c k k':Nat}{v:Value}{rs:List Nat}{S0:Nat->Prop}{wk wd:Array Value}{pa:Option Addr}{V V':World}(m:Mem w ps sec st N v g cap rs S0 wk wd pa c k V)
  (hN:N<=V.heap.size) (hk:∀b,b<V.heap.size->b ∉ rs->V'.heap[b]? = V.heap[b]?) (hrows:∀j (h:j<rs.length),∃cs t,V'.heap[rs[j]]? = some (.cells cs t (0,0))/\(zAY w ps sec st k' j).map (Value.int .i64) <+: cs.toList) :
  Mem w ps sec st N v g cap rs S0 wk wd pa c k' V':=by
 have h3:N+1+1+1<V.heap.size:=(Array.getElem?_eq_some_iff.1 m.h3).1;have hg:g<V.heap.size:=by obtain⟨co,tO,h,_⟩:=m.out;exact(Array.getElem?_eq_some_iff.1 h).1
 have hn:∀b,b<N+1+1+1+1->V'.heap[b]? = V.heap[b]?:=λb hb=>hk b (by omega) λh=>by have:=(m.ge b h).1;omega
 have h0:∀b,S0 b->V'.heap[b]? = V.heap[b]?:=λb hb=>hn b (by have:=m.lt0 b hb;omega)
 refine⟨m.glob.mono (λ_ h=>h) h0,m.lt0,m.rw'.mono (λ_ h=>h) h0,m.rp.mono (λ_ h=>h) h0,m.rd.mono (λ_ h=>h) h0,(hn _ (by omega)).trans m.h0,(hn _ (by omega)).trans m.h1,(hn _ (by omega)).trans m.h2,(hn _ (by omega)).trans m.h3,m.hv,m.hg,m.hcap,?_,m.len,m.nodup,m.ge,hrows⟩
 obtain⟨co,tO,h,h'⟩:=m.out;exact⟨co,tO,(hk g hg λh=>(m.ge g h).2 rfl).trans h,h'⟩
end Go.Am
namespace Go.Am
open Go.Proofs
open Go Go.RowKit
attribute [local go_sem] Oper.semAt_some
theorem RD.rowz{w:Wk}{ps:List Pt}{sec:Int}{st:Pt}{N g cap c k:Nat}{v:Value}{rs:List Nat}{S0 S:Nat->Prop}{wk wd:Array Value}{pa:Option Addr}{V:World}(m:Mem w ps sec st N v g cap rs S0 wk wd pa c k V)
  (hS:∀b∈rs,S b) (hg:S g):RD EE.L S V (.sl 1 ((List.range ps.length).map λj=>.sl 1 ((zAY w ps sec st k j).map eI))) [v]:=by
 rw[m.hv];obtain⟨co,tO,hout,hpre,hsz⟩:=m.out;refine RD.sl 1 _ _ ps.length cap (rs.map λb=>[zDZ ps.length b]) (by simp) m.hcap (by simp[m.len]) (λj a b=>?_) (λcs hc=>by obtain⟨b,_,rfl⟩:=List.mem_map.1 hc;rfl) (λh0=>⟨_,rfl,rfl,hg,λj u hu=>?_⟩)
 ·have hj:j<rs.length:=by simpa using b
  simp only[List.getElem_map,List.getElem_range];obtain⟨cs,t,hrow,hp⟩:=m.rows j hj;refine RD.sl 1 _ _ ps.length ps.length ((zAY w ps sec st k j).map λm=>[Value.int .i64 m]) (by simp[zF2]) (Nat.le_refl _) (by simp) (λi a b=>?_) (λcs hc=>by obtain⟨b,_,rfl⟩:=List.mem_map.1 hc;rfl) (λ_=>⟨_,rfl,rfl,hS _ (List.getElem_mem hj),λi u hu=>?_⟩)
  ·simp only[List.getElem_map];exact .int _ _
  ·rw[flat1 (Value.int .i64)] at hu;refine qW hrow i u ?_;obtain⟨rest,hr⟩:=hp;rw[<-hr,List.getElem?_append_left (List.getElem?_eq_some_iff.1 hu).1];exact hu
 ·rw[flat1 (zDZ ps.length)] at hu;refine qW hout j u ?_;obtain⟨rest,hr⟩:=hpre;rw[<-hr,List.getElem?_append_left (List.getElem?_eq_some_iff.1 hu).1];exact hu
structure Inv200(w:Wk)(ps:List Pt)(sec:Int)(st:Pt)(W0 W1:World)(rs:List Nat)(k:Nat)(V:World):Prop where
 le:k<=(jC ps.length).length
 below:Below W0.heap.size W0 V
 size:W1.heap.size<=V.heap.size
 keep:∀b,b<W1.heap.size->b ∉ rs->V.heap[b]? = W1.heap[b]?
 rows:∀j (h:j<rs.length),∃cs t,V.heap[rs[j]]? = some (.cells cs t (0,0))/\(zAY w ps sec st k j).map (Value.int .i64) <+: cs.toList
def D200:List Nat:=List.range' 26 20
section
variable[OO]
theorem c241(n:Int):zB 241 [eI n]=some (.val (.fn 282 [] [.dp (eI n)])):=by
 rw[C241];rw[show zS (zH EE 6) [3] [eI n]=true by kernel_rfl,zF]
 rfl
theorem fn_form{L:Nat->List Nat}{S:Nat->Prop}{W:World}{n:Int}{u:Value}(h:RV L S W (.fn 282 [] [.dp (eI n)]) u) :
  ∃ad,u=.func (.func 282) #[] #[.pointer (some ad)]/\W.cell? ad=some (.int .i64 n)/\S ad.block:=by
 have hr:=(RV.rd rfl h).1;rw[z6 (RV.rd rfl h).2] at hr;cases hr with
 | fn _ _ _ vx vy hx hy h1 h2 h3 h4 =>
  obtain rfl:vx=[]:=List.length_eq_zero_iff.1 (by simpa using hx)
  obtain⟨u,rfl⟩:∃u,vy=[u]:=List.length_eq_one_iff.1 (by simpa using hy)
  have h30:=h3 0 (by simp) (by simp)
  have h40:=h4 0 (by simp) (by simp)
  simp only[List.getElem_cons_zero] at h30 h40;rw[z6 (by rw[h40];rfl)] at h30
  cases h30 with
  | dp _ ad cs hs hS hm hx hxt =>
   refine⟨ad,rfl,?_,hS⟩;have:=RD.int1 hx;subst this;have h0:=hm 0 _ rfl
   rwa [jk hs,Nat.add_zero,show(⟨ad.block,ad.off,none⟩:Addr)=ad by rw[<-hs]] at h0
set_option maxHeartbeats 2000000 in
theorem walk200(hE:EnvOKo PP EE OO.o)(w:Wk)(ps:List Pt)(sec:Int)(st:Pt)(hw:w.w.length=w.d.length)(hd:w.d.length<=32)(hp:ps.length<=64)(hq:∀p∈ps,YG p)(hs:zA8 st)
  (S0:Nat->Prop) (W0:World) (hg:GlobOK EE S0 W0) (hlt:∀b,S0 b->b<W0.heap.size) (wk wd:Array Value) (pa:Option Addr) (c:Nat)
  (h1:RD EE.L S0 W0 (eWk w) wk.toList) (h2:RD EE.L S0 W0 (.sl 2 (ps.map ePt)) [.slice pa ps.length c]) (h3:RD EE.L S0 W0 (eWd sec st) wd.toList) :
  Calls PP 200 #[.agg wk,.slice pa ps.length c,.agg wd] W0 λe w'=>∃v,e=.returned v/\zAR EE S0 W0 (.val (.sl 1 ((wakesP w ps sec st).map λr=>.sl 1 (r.map eI)))) v w':=by
 have hc:jv PP EE (jr EE zB):=zAt (jg hE XX);have hD:DOK PP EE:=zAU _ _ _;refine rows200 wk wd pa ps.length c hp W0 _ λa W hf=>?_
 obtain⟨v,rs,hv,hown,hl,hnd,hrs⟩:=hf.rows.out;have hbel:=hf.rows.below;have hW3:W0.heap.size+1+1+1<W.heap.size:=(Array.getElem?_eq_some_iff.1 hv).1;have hk0:∀b,S0 b->W.heap[b]? = W0.heap[b]?:=λb hb=>hbel.block b (hlt b hb)
 have hgW:GlobOK EE S0 W:=hg.mono (λ_ h=>h) hk0
 obtain⟨i0,s01,s02,s03,a1,a2,a3,ats2,i1,i2,s1,s2,i3,s3,s4,af1,af2,hb⟩:=body200;rw[hb];have hrun:(Instr.loadAt 81 (a.eval (.tmp 4))).run PP W=.ok (.slice pa ps.length c) W:=by
  have ht4:a.eval (.tmp 4)=.pointer (some ⟨W0.heap.size+1,0,none⟩):=by simp only[Act.eval,Array.getD_eq_getD_getElem?,hf.t4,Option.getD_some]
  rw[ht4];have h:=YE (t:=81) (td:=td81) (hD 81 td81 (by kernel_rfl)) (v:=.d (.sl 2 (ps.map ePt))) (by kernel_rfl) (ad:=⟨W0.heap.size+1,0,none⟩) (cs:=[.slice pa ps.length c])
   (RA.d (φ:=λ_=>none) _ _ (h2.mono (λ_ h=>h) hk0)) (qW hf.rows.h1)
  exact(show(Instr.loadAt 81 (.pointer (some ⟨W0.heap.size+1,0,none⟩))).run PP W=(loadVar 81 ⟨W0.heap.size+1,0,none⟩).run PP W from rfl).trans h
 have eg241:∀args w,(callFunc 241 args).run PP w=.ok (.enter 241 args) w:=Go.Proofs.enters_of Tryz.func241 (by kernel_rfl) rfl
 have eg282:∀args w,(callFunc 282 args).run PP w=.ok (.enter 282 args) w:=Go.Proofs.enters_of Tryz.func282 (by kernel_rfl) rfl
 have hc241:=(jg hE XX 241 [eI ps.length] _ (c241 ps.length)).2 S0 W [.int .i64 ps.length] hgW (λb hb=>by have:=hlt b hb;omega) rfl (λi a b=>by
  match i,a with
  | 0,_=>exact⟨.int _ _,rfl⟩)
 refine wp_seq (wp_seq (reg6_wp Tryz.underlying81 hrun hf.size eg241 hc241 λe W1 ⟨u,he,S',hB1,hS1,hS2,hS3,hru⟩=>⟨u,he,?_⟩))
 obtain⟨ad,rfl,hcell,hSad⟩:=fn_form hru;have hadlt:=hS3 _ hSad;have hadrs:ad.block ∉ rs:=λh=>by
  have hb:=(hrs _ h).1;have hlt':ad.block<W.heap.size:=(Array.getElem?_eq_some_iff.1 (hrs _ h).2.1).1;rcases hS2 _ hSad with h' | h'
  ·have:=hlt _ h';omega
  ·omega
 have hWs:W.heap.size<=W1.heap.size:=hB1.size;have hk1:∀b,b<W.heap.size->W1.heap[b]? = W.heap[b]?:=λb hb=>hB1.block b hb
 have hrlt:∀b∈rs,b<W.heap.size:=λb hb=>(Array.getElem?_eq_some_iff.1 (hrs b hb).2.1).1
 have hn63:(ps.length:Int)<9223372036854775807:=by omega
 generalize hact:((a.put (some 21) (.slice pa ps.length c)).put (some 22) (.int .i64 ps.length)).put (some 23) (.func (.func 282) #[] #[.pointer (some ad)])=A;have hA:Tms W0.heap.size A/\A.tmps[23]? = some (.func (.func 282) #[] #[.pointer (some ad)]):=by
  subst hact;have hz:=hf.size;refine⟨⟨hf.dfr,by simp[Act.put,hz],?_,?_,?_,?_⟩,?_⟩ <;> simp only[Act.put]
  ·rw[Array.getElem?_setIfInBounds_ne (by decide),Array.getElem?_setIfInBounds_ne (by decide),Array.getElem?_setIfInBounds_ne (by decide)];exact hf.t3
  ·rw[Array.getElem?_setIfInBounds_ne (by decide),Array.getElem?_setIfInBounds_ne (by decide),Array.getElem?_setIfInBounds_ne (by decide)];exact hf.t4
  ·rw[Array.getElem?_setIfInBounds_ne (by decide),Array.getElem?_setIfInBounds_ne (by decide),Array.getElem?_setIfInBounds_ne (by decide)];exact hf.t5
  ·rw[Array.getElem?_setIfInBounds_ne (by decide),Array.getElem?_setIfInBounds_ne (by decide),Array.getElem?_setIfInBounds_ne (by decide)];exact hf.t7
  ·exact Array.getElem?_setIfInBounds_self_of_lt (by simp[hz])
 obtain⟨hT,hA23⟩:=hA;clear hact;have hevg:A.eval (.tmp 23)=.func (.func 282) #[] #[.pointer (some ad)]:=by simp only[Act.eval,Array.getD_eq_getD_getElem?,hA23,Option.getD_some]
 have hzrow:∀j (h:j<rs.length),∃cs t,W1.heap[rs[j]]? = some (.cells cs t (0,0))/\(zAY w ps sec st 0 j).map (Value.int .i64) <+: cs.toList:=by
  intro j h;refine⟨_,_,(hk1 _ (hrlt _ (List.getElem_mem h))).trans (hrs _ (List.getElem_mem h)).2.1,?_⟩;rw[rowK_zero];have e:(zrow ps.length).toList=List.replicate ps.length (.int .i64 0):=by unfold zrow madeCells;refine List.ext_getElem (by simp) λi h1 h2=>by simp[Nat.mod_one]
  rw[e,List.map_replicate];exact List.prefix_refl _
 have hmem:0<ps.length->∃g cap,Mem w ps sec st W0.heap.size v g cap rs S0 wk wd pa c 0 W1:=by
  intro h0;obtain⟨m,hm⟩:∃m,ps.length=m+1:=⟨ps.length - 1,by omega⟩
  have hown':=hown;rw[hm] at hown';obtain⟨g,cap,hvg⟩:=zCX hown';rw[<-hm] at hvg;rcases hown.2 with ⟨_,e⟩ | ⟨g',cap',cur,e1,e2,e3,e4,_,e5,e6⟩
  ·omega
  ·rw[hvg] at e1;simp only[Value.slice.injEq,Option.some.injEq,Addr.mk.injEq,and_true,true_and] at e1;obtain⟨rfl,rfl⟩:=e1;have hglt:g<W.heap.size:=(Array.getElem?_eq_some_iff.1 e3).1;refine⟨g,cap,?_⟩;refine Mem.kept (V:=W) (k:=0) ⟨hgW,hlt,h1.mono (λ_ h=>h) hk0,h2.mono (λ_ h=>h) hk0,h3.mono (λ_ h=>h) hk0,hf.rows.h0,hf.rows.h1,hf.rows.h2,hv,hvg,e2,e4,⟨cur,25,e3,?_,by omega⟩,by rw[hl],hnd,λb hb=>⟨(hrs b hb).1,?_⟩,?_⟩ (by have:=hbel.size;omega) (λb hb _=>hk1 b hb) hzrow
   ·rw[<-e6];exact List.take_prefix _ _
   ·rintro rfl;have:=(hrs _ hb).2.2;rw[hvg] at this;exact this rfl
   ·intro j h;obtain⟨cs,t,h5,h6⟩:=hzrow j h;exact⟨cs,t,(hk1 _ (hrlt _ (List.getElem_mem h))).symm.trans h5,h6⟩
 have hn0:∀b∈rs,W0.heap.size+1+1+1+1<=b:=λb hb=>(hrs b hb).1
 have hInv0:∀V:World,Below W1.heap.size W1 V->Inv200 w ps sec st W0 W1 rs 0 V:=by
  intro V hV;refine⟨Nat.zero_le _,(hbel.trans (hB1.mono (by have:=hbel.size;omega))).trans (hV.mono (by have:=hbel.size;omega)),hV.size,λb hb _=>hV.block b hb,λj h=>?_⟩
  obtain⟨cs,t,h5,h6⟩:=hzrow j h;exact⟨cs,t,(hV.block _ (by have:=hrlt _ (List.getElem_mem h);omega)).trans h5,h6⟩
 have hmemV:∀k V,Inv200 w ps sec st W0 W1 rs k V->0<ps.length->∃g cap,Mem w ps sec st W0.heap.size v g cap rs S0 wk wd pa c k V:=by intro k V hI h0;obtain⟨g,cap,m⟩:=hmem h0;exact⟨g,cap,m.kept (by have:=hbel.size;omega) hI.keep hI.rows⟩
 refine wp_block (wpIn_wide.1 (zAd (C:=λW=>W.cell? ad=some (.int .i64 ps.length)) (xs:=(jC ps.length).map encP) hevg eg282 (zG7 ad ps.length hn63) (λx hx=>by obtain⟨p,_,rfl⟩:=List.mem_map.1 hx;rfl)
  (Inv200 w ps sec st W0 W1 rs) ?_ ?_ ?_ (λx=>(({ tmps:=((#[24,25]:Array Tmp).zip x).foldl (λt (p,v)=>t.setIfInBounds p v) A.tmps,defers:=[] }:Act).put (some 8) (({ tmps:=((#[24,25]:Array Tmp).zip x).foldl (λt (p,v)=>t.setIfInBounds p v) A.tmps,defers:=[] }:Act).eval (.tmp 24))).put (some 9)
   ((({ tmps:=((#[24,25]:Array Tmp).zip x).foldl (λt (p,v)=>t.setIfInBounds p v) A.tmps,defers:=[] }:Act).put (some 8) (({ tmps:=((#[24,25]:Array Tmp).zip x).foldl (λt (p,v)=>t.setIfInBounds p v) A.tmps,defers:=[] }:Act).eval (.tmp 24))).eval (.tmp 25))) ?_ ?_ ?_))
 ·
  intro k V r o hI hlo;have hne:∀b,b<W1.heap.size->(V.putObj (W1.heap.size+1) o).heap[b]? = V.heap[b]?:=λb hb=>World.putObj_heap_other (by omega)
  refine⟨hI.le,QM hI.below (by have:=hI.below.size;omega) (by have:=hbel.size;omega) o,by simpa[World.putObj] using hI.size,λb hb hr=>(hne b hb).trans (hI.keep b hb hr),λj h=>?_⟩
  obtain⟨cs,t,h5,h6⟩:=hI.rows j h;exact⟨cs,t,(hne _ (by have:=hrlt _ (List.getElem_mem h);omega)).trans h5,h6⟩
 ·intro k V hI;exact(World.cell?_of_block (a:=ad) (hI.keep _ hadlt hadrs)).trans hcell
 ·intro r;exact hInv0 _ (((Below.refl _ W1).alloc (Nat.le_refl _) _).alloc (by simp) _)
 ·intro k x V K hx hK;exact asg_wp hK
 ·rintro k x V r hx hI hlo hDo;rw[List.getElem?_map] at hx;cases hpk:(jC ps.length)[k]? with
  | none=>rw[hpk] at hx;simp at hx
  | some q =>
  rw[hpk] at hx;simp only[Option.map_some,Option.some.injEq] at hx;subst hx;obtain⟨j,i⟩:=q;obtain⟨hj,hi,hne⟩:=zC9 (List.mem_of_getElem? hpk);simp only at hj hi hne;have hkl:k<(jC ps.length).length:=(List.getElem?_eq_some_iff.1 hpk).1;obtain⟨g,cap,m⟩:=hmemV k V hI (by omega)
  have hjr:j<rs.length:=by omega
  have hsz:A.tmps.size=47:=hT.size;have hact:({ tmps:=((#[24,25]:Array Tmp).zip (encP (j,i))).foldl (λt (p,v)=>t.setIfInBounds p v) A.tmps,defers:=[] }:Act)=(A.put (some 24) (.int .i64 j)).put (some 25) (.int .i64 i):=by
   have hd0:A.defers=[]:=hT.dfr;have:∀(t:Array Value) (d:List Deferred),d=[]->({ tmps:=t,defers:=[] }:Act)=⟨t,d⟩:=λt d h=>by rw[h]
   refine(this _ _ hd0).trans ?_;simp[encP,Act.put]
  rw[hact];have ev1:((A.put (some 24) (.int .i64 j)).put (some 25) (.int .i64 i)).eval (.tmp 24)=.int .i64 j:=by simp only[Act.eval,Act.put,Array.getD_eq_getD_getElem?];rw[Array.getElem?_setIfInBounds_ne (by decide),Array.getElem?_setIfInBounds_self_of_lt (by omega),Option.getD_some]
  rw[ev1];have ev2:(((A.put (some 24) (.int .i64 j)).put (some 25) (.int .i64 i)).put (some 8) (.int .i64 j)).eval (.tmp 25)=.int .i64 i:=by simp only[Act.eval,Act.put,Array.getD_eq_getD_getElem?];rw[Array.getElem?_setIfInBounds_ne (by decide),Array.getElem?_setIfInBounds_self_of_lt (by simp;omega),Option.getD_some]
  rw[ev2];generalize hB:((((A.put (some 24) (.int .i64 j)).put (some 25) (.int .i64 i)).put (some 8) (.int .i64 j)).put (some 9) (.int .i64 i))=B;have hTB:Tms W0.heap.size B/\B.tmps[8]? = some (.int .i64 (j:Int))/\B.tmps[9]? = some (.int .i64 (i:Int)):=by
   subst hB;refine⟨⟨hT.dfr,by simp[Act.put,hsz],?_,?_,?_,?_⟩,?_,?_⟩ <;> simp only[Act.put]
   ·rw[Array.getElem?_setIfInBounds_ne (by decide),Array.getElem?_setIfInBounds_ne (by decide),Array.getElem?_setIfInBounds_ne (by decide),Array.getElem?_setIfInBounds_ne (by decide)];exact hT.t3
   ·rw[Array.getElem?_setIfInBounds_ne (by decide),Array.getElem?_setIfInBounds_ne (by decide),Array.getElem?_setIfInBounds_ne (by decide),Array.getElem?_setIfInBounds_ne (by decide)];exact hT.t4
   ·rw[Array.getElem?_setIfInBounds_ne (by decide),Array.getElem?_setIfInBounds_ne (by decide),Array.getElem?_setIfInBounds_ne (by decide),Array.getElem?_setIfInBounds_ne (by decide)];exact hT.t5
   ·rw[Array.getElem?_setIfInBounds_ne (by decide),Array.getElem?_setIfInBounds_ne (by decide),Array.getElem?_setIfInBounds_ne (by decide),Array.getElem?_setIfInBounds_ne (by decide)];exact hT.t7
   ·rw[Array.getElem?_setIfInBounds_ne (by decide),Array.getElem?_setIfInBounds_self_of_lt (by simp[hsz])]
   ·rw[Array.getElem?_setIfInBounds_self_of_lt (by simp[hsz])]
  obtain⟨hTB,hB8,hB9⟩:=hTB;clear hB;have hVs:=hI.size;have hlo':W1.heap.size+1<V.heap.size:=(Array.getElem?_eq_some_iff.1 hlo).1;let S:Nat->Prop:=λb=>(b<W1.heap.size/\b≠rs[j])\/b=W1.heap.size+1\/b=W1.heap.size
  have hrj:rs[j]<W1.heap.size:=by have:=hrlt _ (List.getElem_mem hjr);omega
  have hsm:∀b,b<W0.heap.size+1+1+1+1->S b:=λb hb=>.inl ⟨by omega,by have:=hn0 _ (List.getElem_mem hjr);omega⟩
  have hSg:S g:=by
   obtain⟨co,tO,h5,_⟩:=(hmem (by omega)).choose_spec.choose_spec.out
   obtain⟨g',cap',m'⟩:=hmem (by omega)
   have eg:g'=g:=by have e1:=m'.hv.symm.trans m.hv;simp only[Value.slice.injEq,Option.some.injEq,Addr.mk.injEq] at e1;exact e1.1.1
   subst eg;obtain⟨co,tO,h5,_⟩:=m'.out;exact .inl ⟨(Array.getElem?_eq_some_iff.1 h5).1,λe=>(m'.ge _ (List.getElem_mem hjr)).2 e.symm⟩
  have hRr:=round_rel m hTB (by have:=hbel.size;omega) hjr hB8 hB9 (S:=S) (λb hb=>by rcases hb with ⟨h,_⟩ | rfl | rfl <;> omega) (λb hb=>hsm b (by have:=hlt b hb;omega)) (hsm _ (by omega)) (hsm _ (by omega)) (hsm _ (by omega)) (hsm _ (by omega)) hSg
   (λh=>by rcases h with ⟨_,h⟩ | h | h <;> omega)
  refine zDp hD (by kernel_rfl) hc k200b (D:=D200) (by kernel_rfl) (by kernel_rfl) (by rintro⟨a,w,h,_⟩;cases h) (zH7 (M:=1) (Nat.le_refl 1) (by kernel_rfl) (b200 w ps sec st hw hd hp hq hs (zAY w ps sec st k j) (zF2 _ _ _ _ _ _) j i hj hi)) hRr ?_
  intro ex st' S3 φ3 a3 W3 hK3 hR5 hG5 hkeep;obtain⟨rfl,hle⟩:=zBW hK3;have hR6:=hR5.le hle;have hkS:∀b,S b->W3.heap[b]? = V.heap[b]?:=λb hb=>hG5.kept b hb
  refine⟨rfl,⟨by omega,hI.below.trans hG5.below,by have:=hG5.below.size;omega,λb hb hr=>?_,λb hb=>?_⟩,hkS _ (.inr (.inl rfl)),hkS _ (.inr (.inr rfl))⟩
  ·exact(hkS b (.inl ⟨hb,λe=>hr (e ▸ List.getElem_mem hjr)⟩)).trans (hI.keep b hb hr)
  ·by_cases hbj:b=j
   ·subst hbj;rw[rowK_step w ps sec st k b i hpk];obtain⟨co,tO,h5,h6,_⟩:=m.out;refine round_back hR6 ((hkeep 7 (by decide)).trans hTB.t7) ((hkS _ (hsm _ (by omega))).trans m.h3) m.hv ((hkS g hSg).trans h5) h6 hjr (by omega)
   ·obtain⟨cs,t,h5,h6⟩:=hI.rows b hb;refine⟨cs,t,(hkS _ (.inl ⟨by have:=hrlt _ (List.getElem_mem hb);omega,λe=>hbj ?_⟩)).trans h5,?_⟩
    ·exact(List.getElem_inj hnd).1 e
    ·rw[rowK_other w ps sec st k j i b hpk hbj];exact h6
 ·intro V hI hDo;rw[List.length_map] at hI;show(Code.seq _ Code.ret).wp PP _ _ V;let S:Nat->Prop:=λb=>S0 b\/(W0.heap.size<=b/\b<W1.heap.size)
  have hN1:W0.heap.size<=W.heap.size:=hbel.size;have hVs:=hI.size;have hkV:∀b,b<W0.heap.size+1+1+1+1->V.heap[b]? = W.heap[b]?:=λb hb=>(hI.keep b (by omega) (λh=>by have:=hn0 b h;omega)).trans (hk1 b (by omega))
  have hX:RD EE.L S V (.sl 1 ((wakesP w ps sec st).map λr=>.sl 1 (r.map eI))) [v]:=by
   by_cases h0:0<ps.length
   ·obtain⟨g,cap,m⟩:=hmemV _ V hI h0;have hgl:g<W1.heap.size:=by obtain⟨g',cap',m'⟩:=hmem h0;have e1:=m'.hv.symm.trans m.hv;simp only[Value.slice.injEq,Option.some.injEq,Addr.mk.injEq] at e1;rw[<-e1.1.1];obtain⟨co,tO,h5,_⟩:=m'.out;exact(Array.getElem?_eq_some_iff.1 h5).1
    have h:=RD.rowz m (S:=S) (λb hb=>.inr ⟨by have:=hn0 b hb;omega,by have:=hrlt b hb;omega⟩) (.inr ⟨by have:=m.hg;omega,hgl⟩)
    have e:((wakesP w ps sec st).map λr=>DV.sl 1 (r.map eI))=(List.range ps.length).map λj=>.sl 1 ((zAY w ps sec st (jC ps.length).length j).map eI):=by
     unfold wakesP;rw[List.map_map];refine List.map_congr_left λj hj=>?_
     rw[rowK_end w ps sec st j (List.mem_range.1 hj)];rfl
    rw[e];exact h
   ·have hz:ps.length=0:=by omega
    have e:wakesP w ps sec st=[]:=by unfold wakesP;rw[hz];rfl
    rw[e];rcases hown.2 with ⟨e1,_⟩ | ⟨g,cap,cur,e1,_,_,hcap,_⟩
    ·rw[e1];exact RD.sl 1 [] none 0 0 [] rfl (Nat.le_refl _) rfl (λi a=>by simp at a) (by simp) (λh=>by omega)
    ·rw[e1,hz];exact RD.sl 1 [] _ 0 cap [] rfl (Nat.zero_le _) rfl (λi a=>by simp at a) (by simp) (λh=>by omega)
  have hS0V:∀b,S0 b->V.heap[b]? = W0.heap[b]?:=λb hb=>hI.below.block b (hlt b hb)
  have hR:Rel EE W0.heap.size S (λ_=>none) ⟨(List.replicate 47 AV.undef).set 7 (.d (.dp (.sl 1 ((wakesP w ps sec st).map λr=>.sl 1 (r.map eI))))),List.replicate 47 none⟩ A V:=by
   refine⟨hg.mono (λ_ h=>.inl h) hS0V,?_,λb ob hb=>?_,λb b' ob ob' cb hb=>?_,λb hb=>?_,hI.below.size,hT.dfr⟩
   ·refine(TmOK.undef hT.size).set hT.t7 ?_;exact⟨RD.dp _ _ [v] rfl (.inr ⟨by show W0.heap.size<=W0.heap.size+1+1+1;omega,by show W0.heap.size+1+1+1<W1.heap.size;omega⟩) (qW ((hkV _ (by omega)).trans hv)) hX rfl,rfl⟩
   ·unfold slot at hb;simp only[List.getElem?_replicate] at hb;split at hb <;> simp_all
   ·unfold slot at hb;simp only[List.getElem?_replicate] at hb;split at hb <;> simp_all
   ·rcases hb with hb | hb
    ·have:=hlt b hb;have:=hI.below.size;omega
    ·omega
  have hG:Grow W0.heap.size S0 S W0 V:=⟨hI.below,λ_ h=>.inl h,λb hb=>hb.imp id λh=>h.1,hS0V⟩
  refine tail_wp (fn:=Tryz.f200) (x:=.d (.sl 1 ((wakesP w ps sec st).map λr=>.sl 1 (r.map eI)))) (fresh:=false) (v:=.d (.dp (.sl 1 ((wakesP w ps sec st).map λr=>.sl 1 (r.map eI))))) (w0:=W0) (S0:=S0) hD hR hG hDo
   (λh=>h.elim (λh=>by have:=hlt _ h;omega) (λh=>by omega)) (by omega) rfl (by kernel_rfl) (by kernel_rfl) (by simp)
theorem zJz{L:Nat->List Nat}{S:Nat->Prop}{W:World}{x:DV}{u:Value}(h:RV L S W x u)(hx:x.isTup=false)(ha:x.isAgg=true):∃cs:Array Value,u=.agg cs/\RD L S W x cs.toList:=by obtain⟨h1,h2⟩:=RV.rd hx h;rw[ha] at h2;obtain⟨cs,rfl⟩:=zGe h2;exact⟨cs,rfl,h1⟩
theorem at200(hE:EnvOKo PP EE OO.o)(ds:List DV)(r:CR):T200 ds r->Qk PP EE 200 ds r:=by
 rintro⟨w,ps,sec,st,hw,hd,hp,hq,hs,rfl,rfl⟩;refine⟨enters Tryz.func200 (by kernel_rfl) (by kernel_rfl),λS0 W0 vals hg hlt hlen hv=>?_⟩
 obtain⟨x,y,z,rfl⟩:∃x y z,vals=[x,y,z]:=by
  match vals,hlen with
  | [a,b,c],_=>exact⟨a,b,c,rfl⟩
 have h0:=hv 0 (by simp) (by simp)
 have h1:=hv 1 (by simp) (by simp)
 have h2:=hv 2 (by simp) (by simp)
 simp only[List.getElem_cons_zero,List.getElem_cons_succ] at h0 h1 h2;obtain⟨wk,rfl,hwk⟩:=zJz h0 rfl rfl;obtain⟨wd,rfl,hwd⟩:=zJz h2 rfl rfl;obtain⟨pa,c,rfl⟩:∃pa c,y=.slice pa ps.length c:=by
  have hy:=(RV.rd rfl h1).1;generalize hcs:vcs y=cs at hy;generalize hm:ps.map ePt=l at hy;cases hy with
  | sl _ _ pa n c css hn _ _ _ _ _ =>
   refine⟨pa,c,?_⟩;have:n=ps.length:=by rw[<-hn,<-hm,List.length_map]
   subst this;exact zCS h1 rfl rfl hcs
 exact walk200 hE w ps sec st hw hd hp hq hs S0 W0 hg hlt wk wd pa c hwk (RV.rd rfl h1).1 hwd
end
end Go.Am
namespace Go.Am
open Go.Proofs
open Go Go.RowKit Go.Sort Go.Proofs
open Classical
def T68(ds:List DV)(r:CR):Prop:=∃(s:Si) (n:Int),ds=[eSi s,eI n]/\r=.val (.tup [.sl 1 ((Jo s n).1.map eN),eI (Jo s n).2])
def okT:Option St->St->Prop
 | none,_=>False
 | some t,st=>Le [] t st
noncomputable def head68(r:CR)(tgt:Option St)(j:Nat)(st:St):Tr:=if j=900 then (if okT tgt st then .ret r else .fail) else JX EE XX (XX.fx 68) j k68a 0 0 K68 st
noncomputable def K68r(r:CR)(tgt:Option St)(e:Ex)(st:St):Option CR:=match e with
 | .normal=>if okT tgt st then some r else none
 | e=>bnd (zEy EE (EE.fresh 68) (j7 EE 68) e st) (λr0=>some (zCA EE (EE.fresh 68) (j7 EE 68) r0))
def t68St(l:List Pt):St:=if l=[] then zx 47 [(9,.d .nl)] [] else zx 47 [(9,.own 41 0 (l.map ePt).length 2)] [(41,⟨false,.dc 2 (l.map ePt)⟩)]
def plL(s:Si)(n:Int):List Pt:=(List.range s.tb.length).map (plP (JG s n))
section
variable[OO]
theorem zDB(r:CR)(tgt:Option St)(st:St):head68 r tgt 0 st=JX EE XX (XX.fx 68) 0 k68a 0 0 K68 st:=by unfold head68;rw[if_neg (by decide)]
theorem zJn{r:CR}{tgt:Option St}{st:St}(h:okT tgt st):goH zB (head68 r tgt) 900 st=some r:=by rw[zGU];unfold head68;rw[if_pos rfl,if_pos h];rfl
theorem key_at(s:Si)(n:Int)(i:Nat)(h:i<s.tb.length):JG s n i=qr (s.tb[i].at') (zo n):=by unfold JG;rw[List.getD_eq_getElem?_getD,List.getElem?_eq_getElem h,Option.getD_some]
theorem zD5(s:Si)(n:Int):(plL s n).length=s.tb.length:=by simp[plL]
theorem pl_at(s:Si)(n:Int)(i:Nat)(h:i<s.tb.length):(plL s n)[i]'(by rw[zD5];exact h)=⟨JG s n i,i⟩:=by simp[plL,plP]
theorem pl_take(s:Si)(n:Int)(i:Nat)(h:i<s.tb.length):(plL s n).take (i+1)=(plL s n).take i++[⟨JG s n i,i⟩]:=by
 rw[List.take_succ,List.getElem?_eq_getElem (by rw[zD5];exact h),pl_at s n i h]
 rfl
theorem call187(s:Si)(he:jb s=0)(n:Int)(i:Nat)(h:i<s.tb.length):zB 187 [.agg 9 [.int .i64 n,.agg 1 [.int .i64 (zo n).x,.int .i64 (zo n).y]],
  .agg 1 [.int .i64 (zC (nth (flds (nth (flds (eTb s.tb[i])) 1)) 0)),.int .i64 (zC (nth (flds (nth (flds (eTb s.tb[i])) 1)) 1))]]=some (.val (eI (JG s n i))):=by
 obtain⟨h1,_⟩:=qP he;obtain⟨a,b,c,d⟩:=(h1 _ (List.getElem_mem h)).1;rw[key_at s n i h];exact c187 n (zo n) s.tb[i].at' (zD3 n) 1000 (by omega) a b c d
def st68(s:Si)(n:Int)(i:Nat):St :=
 zx 47 [(7,.ptr 7 3 0 []),(9,.own 41 0 (((plL s n).take i).map ePt).length 2),(26,.d (.sl 3 (s.tb.map eTb))),(27,.d (.int .i64 (s.tb.length:Int))),(28,.d (.int .i64 (i:Int)))] [(7,⟨false,.dc 3 [dWd n (zo n).x (zo n).y]⟩),(41,⟨false,.dc 2 (((plL s n).take i).map ePt)⟩)]
theorem loop68(s:Si)(he:jb s=0)(n:Int)(r:CR):∀i,i<=s.tb.length->1<=i->goH zB (head68 r (some (t68St (plL s n)))) 0 (st68 s n i)=some r:=by
 obtain⟨h1,_,_,_,h64⟩:=qP he;refine down (P:=λi=>1<=i->goH zB (head68 r (some (t68St (plL s n)))) 0 (st68 s n i)=some r) s.tb.length ?_ ?_
 ·intro hpos;rw[zGU,zDB];refine(l68_run _ n (zo n).x (zo n).y (s.tb.map eTb) _ _ _).trans ?_;rw[decide_eq_false (by omega),zT]
  refine zJn ?_;show Le [] _ _;have hne:plL s n≠[]:=λe=>by have:=zD5 s n;rw[e] at this;simp at this;omega
  unfold t68St;rw[if_neg hne,<-zD5 s n,List.take_length];rw[show zx 47 [(9,.own 41 0 ((plL s n).map ePt).length 2)] [(41,⟨false,.dc 2 ((plL s n).map ePt)⟩)]=forget [9] _ from ?_]
  ·exact JT _ _
  ·kernel_rfl
 ·intro i hi ih hpos;rw[zGU,zDB];refine(l68_run _ n (zo n).x (zo n).y (s.tb.map eTb) _ _ _).trans ?_;rw[decide_eq_true (by omega),zF,List.length_map,decide_eq_true (by omega),zF,Int.toNat_natCast,zP eTb s.tb i hi]
  rw[show zH EE 6 176 (eTb s.tb[i])=true by kernel_rfl,zF,call187 s he n i hi]
  have hl:(((plL s n).take i).map ePt).length=i:=by rw[List.length_map,List.length_take,zD5];omega
  simp only[zJ];rw[show ∀m:Int,zH EE 6 3 (eI m)=true from λm=>by kernel_rfl,zF]
  simp only[decide_true,zF];rw[decide_eq_true (show(2 * ((((plL s n).take i).map ePt).length+1)+200) * 16<=281474976710656 by rw[hl];omega),zF,zK,wr ((i:Int)+1) (by omega)]
  have e:=ih (by omega)
  unfold st68 at e;rw[pl_take s n i hi,List.map_append] at e;exact e
theorem run68(s:Si)(n:Int)(r:CR)(he:jb s=0)(hn:zZ n 0 7=0):run zB (goH zB (head68 r (some (t68St (plL s n))))) (a68 (eSi s) (eI n))=some r:=by
 rw[a68_run];rw[show zS (zH EE 6) [58,3] [eSi s,eI n]=true by kernel_rfl,zF]
 have e1:zB 158 [(.agg 0 [(.str (ze (nth (flds (eSi s)) 0))),(.int .i64 (zC (nth (flds (eSi s)) 1))),(.sl 3 (elems (nth (flds (eSi s)) 2)))])]=some (.val (eI 0)):=by have:=c158 s;rw[he] at this;exact this
 have e2:zB 147 [.int .i64 (zC (eI n))]=some (.val (.tup [eWd n (zo n),eI 0])):=by have:=c147 n;rw[if_pos hn,hn] at this;exact this
 rw[e1];simp only[zJ];rw[show zH EE 6 46 (eI 0)=true by kernel_rfl,zF,show bne (zC (eI 0)) (0:Int)=false from rfl,zT,e2]
 simp only[zJ];rw[show(DV.isTup (.tup [eWd n (zo n),eI 0]) && zS (zH EE 6) [251,46] (tups (.tup [eWd n (zo n),eI 0])))=true by kernel_rfl,zF,show bne (zC (nth (tups (.tup [eWd n (zo n),eI 0])) 1)) (0:Int)=false from rfl,zT]
 rw[zGU,zDB];have hl:(elems (nth (flds (eSi s)) 2))=s.tb.map eTb:=rfl;rw[hl,List.length_map];refine(z68_run _ n (zo n).x (zo n).y (s.tb.map eTb) _ _).trans ?_;by_cases h0:s.tb.length=0
 ·rw[decide_eq_false (by omega),zT]
  refine zJn ?_;show Le [] _ _;have hne:plL s n=[]:=by unfold plL;rw[h0];rfl
  unfold t68St;rw[if_pos hne];rw[show zx 47 [(9,.d .nl)] []=forget [9] _ from ?_]
  ·exact JT _ _
  ·kernel_rfl
 ·rw[decide_eq_true (by omega),zF,List.length_map,decide_eq_true (by omega),zF,show Int.toNat 0=0 from rfl,zP eTb s.tb 0 (by omega)]
  rw[show zH EE 6 176 (eTb s.tb[0])=true by kernel_rfl,zF,call187 s he n 0 (by omega)]
  simp only[zJ];rw[show ∀m:Int,zH EE 6 3 (eI m)=true from λm=>by kernel_rfl,zF]
  have e:=loop68 s he n r 1 (by omega) (Nat.le_refl 1)
  unfold st68 at e;rw[pl_take s n 0 (by omega)] at e
  exact e
theorem run68e(s:Si)(n:Int)(r:CR)(tgt:Option St)(h:jb s≠0\/zZ n 0 7≠0)(hr:r=.val (.tup [.sl 1 [],eI (Jo s n).2])):run zB (goH zB (head68 r tgt)) (a68 (eSi s) (eI n))=some r:=by
 subst hr;rw[a68_run];rw[show zS (zH EE 6) [58,3] [eSi s,eI n]=true by kernel_rfl,zF]
 have e1:zB 158 [(.agg 0 [(.str (ze (nth (flds (eSi s)) 0))),(.int .i64 (zC (nth (flds (eSi s)) 1))),(.sl 3 (elems (nth (flds (eSi s)) 2)))])]=some (.val (eI (jb s))):=c158 s;rw[e1];simp only[zJ];rw[show ∀m:Int,zH EE 6 46 (eI m)=true from λm=>by kernel_rfl,zF,zK]
 by_cases he:jb s=0
 ·have hn:zZ n 0 7≠0:=h.resolve_left (λh=>h he)
  have e2:zB 147 [.int .i64 (zC (eI n))]=some (.val (.tup [eWd 0 ⟨0,0⟩,eI (zZ n 0 7)])):=by have:=c147 n;rw[if_neg hn] at this;exact this
  rw[he,show bne (0:Int) 0=false from rfl,zT,e2]
  simp only[zJ];rw[show ∀m,(DV.isTup (.tup [eWd 0 ⟨0,0⟩,eI m]) && zS (zH EE 6) [251,46] (tups (.tup [eWd 0 ⟨0,0⟩,eI m])))=true from λm=>by kernel_rfl,zF,
   show bne (zC (nth (tups (.tup [eWd 0 ⟨0,0⟩,eI (zZ n 0 7)])) 1)) (0:Int)=true from by simpa using hn,zF]
  rw[show(Jo s n).2=zZ n 0 7 by unfold Jo;rw[if_pos he,if_neg hn]]
  rfl
 ·rw[show bne (jb s) 0=true by simpa using he,zF]
  rw[show(Jo s n).2=jb s by unfold Jo;rw[if_neg he]]
end
end Go.Am
namespace Go.Am
open Go.Proofs
open Go Go.RowKit Go.Sort Go.Proofs
open Classical
theorem body68:∃i s1 s2 af1 af2 ats,Tryz.f68.body=some (seqs cs68 (.seq (.region i #[{ dst:=some 43,op:=.move (.tmp 9),type:=300,pos:=s1,after:=af1,guard:=none },
  { dst:=some 44,op:=.call { callee:=.value (.func 188),args:=#[.tmp 43,.func 189],argTypes:=ats },type:=0,pos:=s2,after:=af2,guard:=none }] false) (sq2 k68t))) :=
 ⟨13,zAJ (sq1 k68t) 0,zAJ (sq1 k68t) 1,zGj (sq1 k68t) 0,zGj (sq1 k68t) 1,#[300,304],by kernel_rfl⟩
theorem call_wp{P:Program}{a:Act}{w:World}{i t1 t2 p f g ty ty2:Nat}{s1 s2:String}{af1 af2:Array Edge}{ats:Array TypeId}{v:Value}{R:Ending->World->Prop}{Q:Exit->Act->World->Prop}
  (he:a.eval (.tmp p)=v) (h1:t1<a.tmps.size) (eg:∀args w,(callFunc f args).run P w=.ok (.enter f args) w) (hc:Calls P f #[v,.func (.func g) #[] #[]] w R)
  (hR:∀e w',R e w'->∃u,e=.returned u/\Q .normal ((a.put (some t1) v).put (some t2) u) w') :
  (Code.region i #[{ dst:=some t1,op:=.move (.tmp p),type:=ty,pos:=s1,after:=af1,guard:=none },
   { dst:=some t2,op:=.call { callee:=.value (.func f),args:=#[.tmp t1,.func g],argTypes:=ats },type:=ty2,pos:=s2,after:=af2,guard:=none }] false).wp P Q a w:=by
 have hput:(a.put (some t1) v).eval (.tmp t1)=v:=by simp only[Act.eval,Act.put,Array.getD_eq_getD_getElem?,Array.getElem?_setIfInBounds_self_of_lt h1,Option.getD_some]
 refine wp_region ?_;simp only[List.size_toArray,List.length_cons,List.length_nil,Nat.zero_add,List.range_succ,List.range_zero,List.nil_append,List.cons_append,wpOps,List.getElem?_toArray,List.getElem?_cons_zero,List.getElem?_cons_succ,Region.wanted,if_true];refine .inl ?_;unfold Oper.wp;simp only[execOp,he,Sem.run_bind,Result.andThen_ok,Sem.run_pure,Oper.upon];refine .inl ?_;have hev:∀x:Act,x.eval (.func f)=.func (.func f) #[] #[]:=λ_=>rfl
 have hev2:∀x:Act,x.eval (.func g)=.func (.func g) #[] #[]:=λ_=>rfl
 have hrun:(execOp (a.put (some t1) v).eval { dst:=some t2,op:=.call { callee:=.value (.func f),args:=#[.tmp t1,.func g],argTypes:=ats },type:=ty2,pos:=s2,after:=af2,guard:=none }).run P w=.ok (.enter f #[v,.func (.func g) #[] #[]]) w:=by simp[execOp,resolve,Deferred.ofValue,invoke,hev,hev2,hput,eg]
 have hrun':=hrun;simp only[execOp,Sem.run_bind] at hrun';rw[hrun'];show Calls P f _ _ _;refine hc.mono λe w' h=>?_
 obtain⟨u,rfl,hq⟩:=hR e w' h;exact hq
section
variable[OO]
theorem tail68(l:List Pt)(hl:l.length<=64):∃M,exec EE M (jr EE zB) (sq2 k68t) (t68St l) (λe st=>bnd (zEy EE (EE.fresh 68) (j7 EE 68) e st) λr0=>some (zCA EE (EE.fresh 68) (j7 EE 68) r0))=some (.val (.tup [.sl 1 ((l.map (·.y)).map eI),eI 0])):=by
 refine Q7 (X:=XX) (F:=XX.fx 68) (head:=λj st=>JX EE XX (XX.fx 68) j (sq2 k68t) 0 0 (zHL EE (EE.fresh 68) (j7 EE 68)) st) (show zw (sq2 k68t)<=1000 by rw[show zw (sq2 k68t)=0 by kernel_rfl];omega) (λ_ _ _=>rfl) (λp e st h=>qV h) Yg ?_
 unfold t68St;by_cases h:l=[]
 ·subst h;rw[if_pos rfl];refine(u68_run _).trans ?_;rw[show zB 190 [.sl 2 [],.fn 191 [] []]=_ from c190 [] (by simp)]
  simp only[zJ];rw[show zH EE 6 25 (.sl 1 (([]:List Pt).map (·.y) |>.map eI))=true by kernel_rfl,zF]
  rfl
 ·rw[if_neg h];refine(t68_run _ (l.map ePt)).trans ?_;rw[decide_eq_true (by omega),zF,List.drop_zero,List.take_length,c190 l (by omega)]
  simp only[zJ];rw[show ∀x:List DV,zH EE 6 25 (.sl 1 x)=true from λx=>by kernel_rfl,zF]
  rfl
theorem mono68(r:CR)(tgt:Option St):Mono r (K68r r tgt) (K68r r tgt):=by
 intro e s t hst h;cases e with
 | normal =>
  unfold K68r at h ⊢;simp only at h ⊢;split at h
  ·rename_i hk;rw[if_pos ?_];cases tgt with
   | none=>exact hk
   | some t0=>exact Le.trans hk hst
  ·cases h
 | ret=>exact Yg (E:=EE) (fresh:=EE.fresh 68) (fn:=j7 EE 68) .ret s t hst h
 | exit i=>exact Yg (E:=EE) (fresh:=EE.fresh 68) (fn:=j7 EE 68) (.exit i) s t hst h
theorem exec68(s:Si)(n:Int)(r:CR)(tgt:Option St)(h:run zB (goH zB (head68 r tgt)) (a68 (eSi s) (eI n))=some r):∃M,exec EE M (jr EE zB) (seqs cs68 .skip) (entry Tryz.f68 [eSi s,eI n]) (K68r r tgt)=some r:=by
 obtain⟨_,h⟩:=zBr (by rw[show(j7 EE 68).params.toList.length+(XX.fx 68).caps=2 by kernel_rfl,show(j7 EE 68).ntmps=47 by kernel_rfl];omega) h
 refine Q7 (X:=XX) (F:=XX.fx 68) (head:=head68 r tgt) (show zw k68a<=1000 by rw[show zw k68a=1 by kernel_rfl];omega) (λj hj st=>?_) (λp e st h=>?_) (mono68 r tgt) h
 ·unfold head68;rw[if_neg ?_]
  ·rfl
  ·have:zw (seqs cs68 .skip)=1:=by kernel_rfl
   rcases hj with ⟨h1,h2,h3⟩ | ⟨h1,h2⟩ <;> omega
 ·cases e with
  | normal =>
   have h1:goX zB (head68 r tgt) p 900 st=some r:=h;cases p with
   | zero=>simp[goX] at h1
   | succ p =>
    have h2:run zB (goX zB (head68 r tgt) p) (head68 r tgt 900 st)=some r:=h1;unfold head68 at h2;rw[if_pos rfl] at h2;unfold K68r;simp only;split at h2
    ·rename_i hk;rw[if_pos hk]
    ·simp[run] at h2
  | ret=>exact qV (E:=EE) (fresh:=EE.fresh 68) (fn:=j7 EE 68) (e:=.ret) (st:=st) h
  | exit i=>exact qV (E:=EE) (fresh:=EE.fresh 68) (fn:=j7 EE 68) (e:=.exit i) (st:=st) h
theorem und68(l:List Pt):jh (jh (t68St l).tm (some 43) .undef) (some 44) .undef=(t68St l).tm:=by
 unfold t68St;by_cases h:l=[]
 ·rw[if_pos h];kernel_rfl
 ·rw[if_neg h];kernel_rfl
set_option maxHeartbeats 1000000 in
theorem at68(hE:EnvOKo PP EE OO.o)(hcmp:∀(x y:Pt) (W:World),Calls PP 189 (#[.agg (JK x).toArray,.agg (JK y).toArray]++#[]) W λe w'=>e=.returned (.int .i64 (cfP x y))/\∃q os',w'=grow (W.drewN q) os')(ds:List DV)(r:CR):T68 ds r->Qk PP EE 68 ds r:=by
 rintro⟨s,n,rfl,rfl⟩;refine⟨enters Tryz.func68 (by kernel_rfl) (by kernel_rfl),λS w vals hg hlt hlen hv=>?_⟩
 obtain⟨i,s1,s2,af1,af2,ats,hb⟩:=body68;have hc:jv PP EE (jr EE zB):=zAt (jg hE XX);have hD:DOK PP EE:=zAU _ _ _;have hR0:=zDL (E:=EE) (fn:=Tryz.f68) hg hlt hlen (show[eSi s,eI n].length<=Tryz.f68.ntmps by simp) hv
 refine calls_of_wp Tryz.func68 hb ?_;have hret:∀(r:CR) (tgt:Option St) (T:Code) ex st' (S':Nat->Prop) (φ':Nat->Option Nat) a' w',ex≠Ex.normal->K68r r tgt ex st'=some r->Rel EE w.heap.size S' φ' st' a' w'->Grow w.heap.size S S' w w' ->
   bodyPost PP Tryz.f68 (λe w'=>∃v,e=.returned v/\zAR EE S w r v w') (zA6 ex) a' w':=by
  intro r tgt T ex st' S' φ' a' w' hne hk hR hG;cases ex with
  | normal=>exact absurd rfl hne
  | exit i=>simp[K68r,zEy,bnd] at hk
  | ret =>
   obtain⟨r0,k4,k5⟩:=zA (show bnd (fin EE (EE.fresh 68) (j7 EE 68) st') (λr0=>some (zCA EE (EE.fresh 68) (j7 EE 68) r0))=some r from hk)
   injection k5 with k5;obtain⟨h1,v,h2,h3⟩:=Jv hD hR hG k4
   exact⟨h1,v,h2,v,rfl,k5 ▸ qz h3⟩
 by_cases hok:jb s=0/\zZ n 0 7=0
 ·obtain⟨he,hn⟩:=hok;obtain⟨_,_,_,_,h64⟩:=qP he;have eo:Jo s n=(zr (JG s n) s.tb.length,0):=by unfold Jo;rw[if_pos he,if_pos hn]
  rw[eo];obtain⟨M,hex⟩:=exec68 s n _ (some (t68St (plL s n))) (run68 s n (.val (.tup [.sl 1 ((zr (JG s n) s.tb.length).map eN),eI 0])) he hn);refine zCR hD Jt hc cs68 hex hR0 (λst1 S1 φ1 a1 w1 k1 hR1 hG1=>?_) (hret _ _ .ret)
  have hle:Le [] (t68St (plL s n)) st1:=by
   unfold K68r at k1;simp only at k1;split at k1
   ·assumption
   ·cases k1
  have hR2:=hR1.le hle;have hlp:=zD5 s n;have hrest:∀(S':Nat->Prop) (φ':Nat->Option Nat) (a':Act) (w':World),Rel EE w.heap.size S' φ' (t68St ((zr (JG s n) s.tb.length).map (plP (JG s n)))) a' w'->Grow w.heap.size S S' w w' ->
    (sq2 k68t).wp PP (bodyPost PP Tryz.f68 (λe w'=>∃v,e=.returned v/\zAR EE S w (.val (.tup [.sl 1 ((zr (JG s n) s.tb.length).map eN),eI 0])) v w')) a' w':=by
   intro S' φ' a' w' hR' hG';obtain⟨M,ht⟩:=tail68 ((zr (JG s n) s.tb.length).map (plP (JG s n))) (by rw[List.length_map,jS];exact h64)
   rw[show(((zr (JG s n) s.tb.length).map (plP (JG s n))).map (·.y)).map eI=(zr (JG s n) s.tb.length).map eN by rw[List.map_map,List.map_map];rfl] at ht
   refine J6 hD Jt hc (sq2 k68t) ht hR' λex st' S2 φ2 a2 w2 j1 j2 j3=>?_
   obtain⟨r0,k4,k5⟩:=zA j1;injection k5 with k5
   cases ex with
   | exit i=>simp[zEy] at k4
   | normal =>
    obtain⟨h1,v,h2,h3⟩:=Jv hD j2 (hG'.trans j3) (show fin EE (EE.fresh 68) (j7 EE 68) st'=some r0 from k4)
    exact⟨h1,v,h2,v,rfl,k5 ▸ qz h3⟩
   | ret =>
    obtain⟨h1,v,h2,h3⟩:=Jv hD j2 (hG'.trans j3) (show fin EE (EE.fresh 68) (j7 EE 68) st'=some r0 from k4)
    exact⟨h1,v,h2,v,rfl,k5 ▸ qz h3⟩
  have hund:=und68 ((zr (JG s n) s.tb.length).map (plP (JG s n)));have eg:∀args w,(callFunc 188 args).run PP w=.ok (.enter 188 args) w:=Go.Proofs.enters_of Tryz.func188 (by kernel_rfl) rfl
  have hsz43:43<a1.tmps.size:=by
   have h47:(t68St (plL s n)).tm[43]? = some .undef:=by
    unfold t68St;by_cases h:plL s n=[]
    ·rw[if_pos h];kernel_rfl
    ·rw[if_neg h];kernel_rfl
   obtain⟨u,hu,_⟩:=hR2.tm 43 _ h47;exact(Array.getElem?_eq_some_iff.1 hu).1
  refine wp_seq ?_;by_cases h0:plL s n=[]
  ·have hl0:s.tb.length=0:=by rw[<-hlp,h0];rfl
   have e9:(t68St (plL s n)).tm[9]? = some (.d .nl):=by unfold t68St;rw[if_pos h0];kernel_rfl
   obtain⟨u,hu,hru⟩:=hR2.tm 9 _ e9;obtain⟨ad,rfl⟩:∃ad,u=.slice ad 0 0:=by
    have hru:RV EE.L S1 w1 .nl u:=hru;have:=(RV.rd rfl hru).1;generalize hcs:vcs u=cs at this;cases this with
    | nl ad=>exact⟨ad,zCS hru rfl rfl hcs⟩
   have hev:a1.eval (.tmp 9)=.slice ad 0 0:=by simp only[Act.eval,Array.getD_eq_getD_getElem?,hu,Option.getD_some]
   refine call_wp hev hsz43 eg (Go.Proofs.AnyF.slices_SortFunc_none Tryz.sortPl ad 0 _ w1) λe w' ⟨h1,h2⟩=>⟨_,h1,?_⟩
   subst h2;refine hrest S1 φ1 _ w' ?_ hG1;have h3:=(hR2.put (some 43) (v:=.undef) (u:=.slice ad 0 0) trivial).put (some 44) (v:=.undef) (u:=.tuple #[]) trivial;have e3:plL s n=(zr (JG s n) s.tb.length).map (plP (JG s n)):=by rw[h0,hl0];rfl
   rw[e3] at h3;simp only[hund] at h3;exact h3
  ·have hlen:(zr (JG s n) s.tb.length).length=s.tb.length:=jS _ _;have hne':(zr (JG s n) s.tb.length).map (plP (JG s n))≠[]:=by intro e;have:=congrArg List.length e;rw[List.length_map,hlen,<-hlp] at this;exact h0 (List.length_eq_zero_iff.1 this)
   have hs41:slot (t68St (plL s n)).hp 41=some ⟨false,.dc 2 ((plL s n).map ePt)⟩:=by unfold t68St;rw[if_neg h0];kernel_rfl
   have e9:(t68St (plL s n)).tm[9]? = some (.own 41 0 ((plL s n).map ePt).length 2):=by unfold t68St;rw[if_neg h0];kernel_rfl
   obtain⟨u,hu,hru⟩:=hR2.tm 9 _ e9;obtain⟨cb,hφ,hcb,hRB,hSf⟩:=hR2.blk 41 _ hs41;obtain⟨c,rfl,hcap⟩:∃c,u=.slice (some ⟨cb,0,none⟩) (plL s n).toArray.size c/\(plL s n).length<=c:=by
    obtain⟨hr,ha⟩:RA EE.L S1 φ1 w1 (.own 41 0 ((plL s n).map ePt).length 2) (vcs u)/\Jx u=_:=hru;rw[z6 ha] at hr;have hpos:((plL s n).map ePt).length≠0:=by rw[List.length_map];intro e;exact h0 (List.length_eq_zero_iff.1 e)
    generalize hm:((plL s n).map ePt).length=m at hr hpos;rw[List.length_map] at hm;cases hr with
    | own _ _ _ _ cb' c hb hc hr =>
     rw[hφ] at hb;injection hb with hb
     subst hb;exact⟨c,by simp[hm],by omega⟩
    | own0=>exact absurd rfl hpos
   have hev:a1.eval (.tmp 9)=.slice (some ⟨cb,0,none⟩) (plL s n).toArray.size c:=by simp only[Act.eval,Array.getD_eq_getD_getElem?,hu,Option.getD_some]
   obtain⟨cs,t,hcs,hpre⟩:=RB.pts hRB;have eg9:∀args w,(callFunc 189 args).run PP w=.ok (.enter 189 args) w:=Go.Proofs.enters_of Tryz.func189 (by kernel_rfl) rfl
   have hsort:=Go.Proofs.AnyQ.slices_SortFunc_total Tryz.sortPl 2 Tryz.isAgg302 Tryz.sizeOf302 JK (λ_=>rfl) (λx v hv=>by simp[JK] at hv;rcases hv with rfl | rfl <;> rfl) cfP cfP_swo 189 #[] cb 0 c (plL s n).toArray w1
    eg9 (λm os dk _ x y=>hcmp x y _) (holds_pts hcs hpre) (Array.getElem?_eq_some_iff.1 hcs).1 (by simp[hlp];omega) zHO
   refine call_wp hev hsz43 eg hsort λe w' ⟨h1,m,os,h2⟩=>⟨_,h1,?_⟩
   have hso:(((plL s n).toArray).toList.mergeSort λx y=>!(ltOf cfP) y x)=(zr (JG s n) s.tb.length).map (plP (JG s n)):=zIx _ _
   rw[hso] at h2;subst h2;have hbut:But cb w1 (sortWorldK JK 2 w1 cb 0 m ((zr (JG s n) s.tb.length).map (plP (JG s n))).toArray os):=sortK_but hcs;have hsz:((zr (JG s n) s.tb.length).map (plP (JG s n))).length=(plL s n).length:=by rw[List.length_map,hlen,hlp]
   have hRB':RB EE.L S1 φ1 (sortWorldK JK 2 w1 cb 0 m ((zr (JG s n) s.tb.length).map (plP (JG s n))).toArray os) (.dc 2 (((zr (JG s n) s.tb.length).map (plP (JG s n))).map ePt)) cb:=by
    refine RB.of_pts (by kernel_rfl) (zGv hcs) ?_
    rw[<-Q4];refine zDy ?_;have h3:=hpre.length_le;have h4:((plL s n).map JK).flatten.length=(plL s n).length * 2:=by rw[<-Q4];simp
    rw[size_flatK,List.size_toArray,hsz];have:cs.toList.length=cs.size:=rfl;omega
   have hW:=hR2.write hs41 hφ hbut hRB';have hst:(⟨(t68St (plL s n)).tm,(t68St (plL s n)).hp.set 41 (some ⟨false,.dc 2 (((zr (JG s n) s.tb.length).map (plP (JG s n))).map ePt)⟩)⟩:St)=t68St ((zr (JG s n) s.tb.length).map (plP (JG s n))):=by generalize (zr (JG s n) s.tb.length).map (plP (JG s n))=l' at hsz hne' ⊢;unfold t68St;rw[if_neg h0,if_neg hne',List.length_map,List.length_map,hsz];kernel_rfl
   have hW':Rel EE w.heap.size S1 φ1 (t68St ((zr (JG s n) s.tb.length).map (plP (JG s n)))) a1 _:=hst ▸ hW;have h3:=(hW'.put (some 43) (v:=.undef) (u:=.slice (some ⟨cb,0,none⟩) (plL s n).toArray.size c) trivial).put (some 44) (v:=.undef) (u:=.tuple #[]) trivial;simp only[hund] at h3;exact hrest S1 φ1 _ _ h3 (hG1.trans (hbut.grow hR2.lt (λh=>by simpa using hSf.1 h) hR2.base hcb))
 ·have hor:jb s≠0\/zZ n 0 7≠0:=by
   by_cases he:jb s=0
   ·exact .inr λh=>hok ⟨he,h⟩
   ·exact .inl he
  have e1:(Jo s n).1=[]:=by
   unfold Jo;by_cases he:jb s=0
   ·rw[if_pos he,if_neg (λh=>hok ⟨he,h⟩)]
   ·rw[if_neg he]
  rw[e1];obtain⟨M,hex⟩:=exec68 s n _ none (run68e s n (.val (.tup [.sl 1 [],eI (Jo s n).2])) none hor rfl);refine zCR hD Jt hc cs68 hex hR0 (λst1 S1 φ1 a1 w1 k1 hR1 hG1=>?_) (hret _ _ .ret)
  unfold K68r at k1;simp[okT] at k1
end
end Go.Am
namespace Go.Am
open Go.Proofs
open Go Go.RowKit
attribute [local go_sem] Oper.semAt_some
theorem cell3(W:World)(o1 o2:Obj)(cs:Array Value)(t k:Nat):(((W.alloc o1).alloc o2).alloc (.cells cs t)).drew.cell? ⟨W.heap.size+1+1,k,none⟩=cs[k]?:=by
 have h:(((W.alloc o1).alloc o2).alloc (.cells cs t)).heap[((W.alloc o1).alloc o2).heap.size]? = some (.cells cs t):=World.alloc_heap_new _ _;have e:((W.alloc o1).alloc o2).heap.size=W.heap.size+1+1:=by rw[World.size_alloc,World.size_alloc]
 rw[e] at h;show World.cell? (World.drew _) _=_;unfold World.cell?;rw[show(((W.alloc o1).alloc o2).alloc (.cells cs t)).drew.heap=(((W.alloc o1).alloc o2).alloc (.cells cs t)).heap from rfl,h]
 rfl
theorem post189{R:Ending->World->Prop}{a:Act}{w:World}{v:Value}(hd:a.defers=[])(h:a.tmps.getD 4 undef=v)(hR:R (.returned v) w):bodyPost Tryz.prog Tryz.f189 R .ret a w :=
 bodyPost_ret (results_tmp rfl _ _ _) hd (h ▸ hR)
set_option maxRecDepth 100000 in
set_option maxHeartbeats 4000000 in
theorem cmpPl(a i b j:Int)(W:World):Calls Tryz.prog 189 #[.agg #[.int .i64 a,.int .i64 i],.agg #[.int .i64 b,.int .i64 j]] W λe w' =>
  e=.returned (.int .i64 (orZ (zJx a b) (zJx i j)))/\∃q os',w'=Go.Sort.grow (W.drewN q) os':=by
 have hcmp:=λ(x y:Int) (W':World)=>cmp2 x y W'
 have hor:=λ(x y:Int) (b:Nat) (W':World) (h0:W'.cell? ⟨b,0,none⟩=some (.int .i64 x)) (h1:W'.cell? ⟨b,1,none⟩=some (.int .i64 y))=>or2 x y b W' h0 h1
 have mixed:Tryz.prog.follows .mixedOrders=true:=Jt;generalize zJx=f at hcmp ⊢;generalize orZ=g at hor ⊢;have hor3:Calls Tryz.prog 260 #[.slice (some ⟨W.heap.size+1+1,0,none⟩) 2 2] (((W.alloc (.cells #[.int .i64 a,.int .i64 i] 302)).alloc (.cells #[.int .i64 b,.int .i64 j] 302)).alloc (.cells #[.int .i64 (f a b),.int .i64 (f i j)] 3)).drew
   λe w'=>e=.returned (.int .i64 (g (f a b) (f i j)))/\w'=(((W.alloc (.cells #[.int .i64 a,.int .i64 i] 302)).alloc (.cells #[.int .i64 b,.int .i64 j] 302)).alloc (.cells #[.int .i64 (f a b),.int .i64 (f i j)] 3)).drew :=
  hor (f a b) (f i j) _ _ ((cell3 _ _ _ _ _ _).trans rfl) ((cell3 _ _ _ _ _ _).trans rfl)
 clear hor
 go_enter Tryz.func189,Tryz.ntmps189
 go_wp2
 go_region_with (first
  | (go_at_call 261;refine(hcmp _ _ _).mono ?_;rintro e w' ⟨rfl,rfl⟩)
  | (go_at_call 260;refine hor3.mono ?_;rintro e w' ⟨rfl,rfl⟩))
 all_goals
  rename_i K ha;refine ha _ _ (wp_ret ?_);refine post189 (v:=.int .i64 (g (f a b) (f i j))) ?_ ?_ ?_
  ·rfl
  ·rfl
  ·refine⟨rfl,1,#[.cells #[.int .i64 a,.int .i64 i] 302,.cells #[.int .i64 b,.int .i64 j] 302,.cells #[.int .i64 (f a b),.int .i64 (f i j)] 3],?_⟩;rw[Go.Sort.alloc_eq_grow,Go.Sort.alloc_eq_grow,Go.Sort.alloc_eq_grow,Go.Sort.grow_grow,Go.Sort.grow_grow];rfl
end Go.Am
namespace Go.Am
open Go.Proofs
open Go Go.RowKit
def fOK(p:Nat×Func):Prop:=Tryz.prog.funcs[p.1]? = some p.2/\(p.2.name == "runtime.NumGoroutine")=false
theorem fOK3:fOK (3,Tryz.f3):=⟨Tryz.func3,by kernel_rfl⟩
theorem fOK4:fOK (4,Tryz.f4):=⟨Tryz.func4,by kernel_rfl⟩
theorem fOK5:fOK (5,Tryz.f5):=⟨Tryz.func5,by kernel_rfl⟩
theorem fOK6:fOK (6,Tryz.f6):=⟨Tryz.func6,by kernel_rfl⟩
theorem fOK7:fOK (7,Tryz.f7):=⟨Tryz.func7,by kernel_rfl⟩
theorem fOK8:fOK (8,Tryz.f8):=⟨Tryz.func8,by kernel_rfl⟩
theorem fOK9:fOK (9,Tryz.f9):=⟨Tryz.func9,by kernel_rfl⟩
theorem fOK10:fOK (10,Tryz.f10):=⟨Tryz.func10,by kernel_rfl⟩
theorem fOK11:fOK (11,Tryz.f11):=⟨Tryz.func11,by kernel_rfl⟩
theorem fOK12:fOK (12,Tryz.f12):=⟨Tryz.func12,by kernel_rfl⟩
theorem fOK13:fOK (13,Tryz.f13):=⟨Tryz.func13,by kernel_rfl⟩
theorem fOK14:fOK (14,Tryz.f14):=⟨Tryz.func14,by kernel_rfl⟩
theorem fOK15:fOK (15,Tryz.f15):=⟨Tryz.func15,by kernel_rfl⟩
theorem fOK16:fOK (16,Tryz.f16):=⟨Tryz.func16,by kernel_rfl⟩
theorem fOK17:fOK (17,Tryz.f17):=⟨Tryz.func17,by kernel_rfl⟩
theorem fOK18:fOK (18,Tryz.f18):=⟨Tryz.func18,by kernel_rfl⟩
theorem fOK19:fOK (19,Tryz.f19):=⟨Tryz.func19,by kernel_rfl⟩
theorem fOK20:fOK (20,Tryz.f20):=⟨Tryz.func20,by kernel_rfl⟩
theorem fOK21:fOK (21,Tryz.f21):=⟨Tryz.func21,by kernel_rfl⟩
theorem fOK22:fOK (22,Tryz.f22):=⟨Tryz.func22,by kernel_rfl⟩
theorem fOK23:fOK (23,Tryz.f23):=⟨Tryz.func23,by kernel_rfl⟩
theorem fOK24:fOK (24,Tryz.f24):=⟨Tryz.func24,by kernel_rfl⟩
theorem fOK25:fOK (25,Tryz.f25):=⟨Tryz.func25,by kernel_rfl⟩
theorem fOK26:fOK (26,Tryz.f26):=⟨Tryz.func26,by kernel_rfl⟩
theorem fOK27:fOK (27,Tryz.f27):=⟨Tryz.func27,by kernel_rfl⟩
theorem fOK28:fOK (28,Tryz.f28):=⟨Tryz.func28,by kernel_rfl⟩
theorem fOK29:fOK (29,Tryz.f29):=⟨Tryz.func29,by kernel_rfl⟩
theorem fOK30:fOK (30,Tryz.f30):=⟨Tryz.func30,by kernel_rfl⟩
theorem fOK31:fOK (31,Tryz.f31):=⟨Tryz.func31,by kernel_rfl⟩
theorem fOK32:fOK (32,Tryz.f32):=⟨Tryz.func32,by kernel_rfl⟩
theorem fOK33:fOK (33,Tryz.f33):=⟨Tryz.func33,by kernel_rfl⟩
theorem fOK34:fOK (34,Tryz.f34):=⟨Tryz.func34,by kernel_rfl⟩
theorem fOK35:fOK (35,Tryz.f35):=⟨Tryz.func35,by kernel_rfl⟩
theorem fOK36:fOK (36,Tryz.f36):=⟨Tryz.func36,by kernel_rfl⟩
theorem fOK37:fOK (37,Tryz.f37):=⟨Tryz.func37,by kernel_rfl⟩
theorem fOK38:fOK (38,Tryz.f38):=⟨Tryz.func38,by kernel_rfl⟩
theorem fOK39:fOK (39,Tryz.f39):=⟨Tryz.func39,by kernel_rfl⟩
theorem fOK40:fOK (40,Tryz.f40):=⟨Tryz.func40,by kernel_rfl⟩
theorem fOK41:fOK (41,Tryz.f41):=⟨Tryz.func41,by kernel_rfl⟩
theorem fOK42:fOK (42,Tryz.f42):=⟨Tryz.func42,by kernel_rfl⟩
theorem fOK43:fOK (43,Tryz.f43):=⟨Tryz.func43,by kernel_rfl⟩
theorem fOK44:fOK (44,Tryz.f44):=⟨Tryz.func44,by kernel_rfl⟩
theorem fOK45:fOK (45,Tryz.f45):=⟨Tryz.func45,by kernel_rfl⟩
theorem fOK46:fOK (46,Tryz.f46):=⟨Tryz.func46,by kernel_rfl⟩
theorem fOK47:fOK (47,Tryz.f47):=⟨Tryz.func47,by kernel_rfl⟩
theorem fOK48:fOK (48,Tryz.f48):=⟨Tryz.func48,by kernel_rfl⟩
theorem fOK49:fOK (49,Tryz.f49):=⟨Tryz.func49,by kernel_rfl⟩
theorem fOK50:fOK (50,Tryz.f50):=⟨Tryz.func50,by kernel_rfl⟩
theorem fOK51:fOK (51,Tryz.f51):=⟨Tryz.func51,by kernel_rfl⟩
theorem fOK52:fOK (52,Tryz.f52):=⟨Tryz.func52,by kernel_rfl⟩
theorem fOK53:fOK (53,Tryz.f53):=⟨Tryz.func53,by kernel_rfl⟩
theorem fOK54:fOK (54,Tryz.f54):=⟨Tryz.func54,by kernel_rfl⟩
theorem fOK55:fOK (55,Tryz.f55):=⟨Tryz.func55,by kernel_rfl⟩
theorem fOK56:fOK (56,Tryz.f56):=⟨Tryz.func56,by kernel_rfl⟩
theorem fOK57:fOK (57,Tryz.f57):=⟨Tryz.func57,by kernel_rfl⟩
theorem fOK58:fOK (58,Tryz.f58):=⟨Tryz.func58,by kernel_rfl⟩
theorem fOK59:fOK (59,Tryz.f59):=⟨Tryz.func59,by kernel_rfl⟩
theorem fOK60:fOK (60,Tryz.f60):=⟨Tryz.func60,by kernel_rfl⟩
theorem fOK61:fOK (61,Tryz.f61):=⟨Tryz.func61,by kernel_rfl⟩
theorem fOK62:fOK (62,Tryz.f62):=⟨Tryz.func62,by kernel_rfl⟩
theorem fOK63:fOK (63,Tryz.f63):=⟨Tryz.func63,by kernel_rfl⟩
theorem fOK64:fOK (64,Tryz.f64):=⟨Tryz.func64,by kernel_rfl⟩
theorem fOK65:fOK (65,Tryz.f65):=⟨Tryz.func65,by kernel_rfl⟩
theorem fOK66:fOK (66,Tryz.f66):=⟨Tryz.func66,by kernel_rfl⟩
theorem fOK67:fOK (67,Tryz.f67):=⟨Tryz.func67,by kernel_rfl⟩
theorem fOK68:fOK (68,Tryz.f68):=⟨Tryz.func68,by kernel_rfl⟩
theorem fOK69:fOK (69,Tryz.f69):=⟨Tryz.func69,by kernel_rfl⟩
theorem fOK70:fOK (70,Tryz.f70):=⟨Tryz.func70,by kernel_rfl⟩
theorem fOK71:fOK (71,Tryz.f71):=⟨Tryz.func71,by kernel_rfl⟩
theorem fOK72:fOK (72,Tryz.f72):=⟨Tryz.func72,by kernel_rfl⟩
theorem fOK73:fOK (73,Tryz.f73):=⟨Tryz.func73,by kernel_rfl⟩
theorem fOK74:fOK (74,Tryz.f74):=⟨Tryz.func74,by kernel_rfl⟩
theorem fOK75:fOK (75,Tryz.f75):=⟨Tryz.func75,by kernel_rfl⟩
theorem fOK76:fOK (76,Tryz.f76):=⟨Tryz.func76,by kernel_rfl⟩
theorem fOK77:fOK (77,Tryz.f77):=⟨Tryz.func77,by kernel_rfl⟩
theorem fOK78:fOK (78,Tryz.f78):=⟨Tryz.func78,by kernel_rfl⟩
theorem fOK79:fOK (79,Tryz.f79):=⟨Tryz.func79,by kernel_rfl⟩
theorem fOK80:fOK (80,Tryz.f80):=⟨Tryz.func80,by kernel_rfl⟩
theorem fOK81:fOK (81,Tryz.f81):=⟨Tryz.func81,by kernel_rfl⟩
theorem fOK82:fOK (82,Tryz.f82):=⟨Tryz.func82,by kernel_rfl⟩
theorem fOK83:fOK (83,Tryz.f83):=⟨Tryz.func83,by kernel_rfl⟩
theorem fOK84:fOK (84,Tryz.f84):=⟨Tryz.func84,by kernel_rfl⟩
theorem fOK85:fOK (85,Tryz.f85):=⟨Tryz.func85,by kernel_rfl⟩
theorem fOK86:fOK (86,Tryz.f86):=⟨Tryz.func86,by kernel_rfl⟩
theorem fOK87:fOK (87,Tryz.f87):=⟨Tryz.func87,by kernel_rfl⟩
theorem fOK88:fOK (88,Tryz.f88):=⟨Tryz.func88,by kernel_rfl⟩
theorem fOK89:fOK (89,Tryz.f89):=⟨Tryz.func89,by kernel_rfl⟩
theorem fOK90:fOK (90,Tryz.f90):=⟨Tryz.func90,by kernel_rfl⟩
theorem fOK91:fOK (91,Tryz.f91):=⟨Tryz.func91,by kernel_rfl⟩
theorem fOK92:fOK (92,Tryz.f92):=⟨Tryz.func92,by kernel_rfl⟩
theorem fOK93:fOK (93,Tryz.f93):=⟨Tryz.func93,by kernel_rfl⟩
theorem fOK94:fOK (94,Tryz.f94):=⟨Tryz.func94,by kernel_rfl⟩
theorem fOK95:fOK (95,Tryz.f95):=⟨Tryz.func95,by kernel_rfl⟩
theorem fOK96:fOK (96,Tryz.f96):=⟨Tryz.func96,by kernel_rfl⟩
theorem fOK97:fOK (97,Tryz.f97):=⟨Tryz.func97,by kernel_rfl⟩
theorem fOK98:fOK (98,Tryz.f98):=⟨Tryz.func98,by kernel_rfl⟩
theorem fOK99:fOK (99,Tryz.f99):=⟨Tryz.func99,by kernel_rfl⟩
theorem fOK100:fOK (100,Tryz.f100):=⟨Tryz.func100,by kernel_rfl⟩
theorem fOK101:fOK (101,Tryz.f101):=⟨Tryz.func101,by kernel_rfl⟩
theorem fOK102:fOK (102,Tryz.f102):=⟨Tryz.func102,by kernel_rfl⟩
theorem fOK103:fOK (103,Tryz.f103):=⟨Tryz.func103,by kernel_rfl⟩
theorem fOK104:fOK (104,Tryz.f104):=⟨Tryz.func104,by kernel_rfl⟩
theorem fOK105:fOK (105,Tryz.f105):=⟨Tryz.func105,by kernel_rfl⟩
theorem fOK106:fOK (106,Tryz.f106):=⟨Tryz.func106,by kernel_rfl⟩
theorem fOK107:fOK (107,Tryz.f107):=⟨Tryz.func107,by kernel_rfl⟩
theorem fOK108:fOK (108,Tryz.f108):=⟨Tryz.func108,by kernel_rfl⟩
theorem fOK109:fOK (109,Tryz.f109):=⟨Tryz.func109,by kernel_rfl⟩
theorem fOK110:fOK (110,Tryz.f110):=⟨Tryz.func110,by kernel_rfl⟩
theorem fOK111:fOK (111,Tryz.f111):=⟨Tryz.func111,by kernel_rfl⟩
theorem fOK112:fOK (112,Tryz.f112):=⟨Tryz.func112,by kernel_rfl⟩
theorem fOK113:fOK (113,Tryz.f113):=⟨Tryz.func113,by kernel_rfl⟩
theorem fOK114:fOK (114,Tryz.f114):=⟨Tryz.func114,by kernel_rfl⟩
theorem fOK115:fOK (115,Tryz.f115):=⟨Tryz.func115,by kernel_rfl⟩
theorem fOK116:fOK (116,Tryz.f116):=⟨Tryz.func116,by kernel_rfl⟩
theorem fOK117:fOK (117,Tryz.f117):=⟨Tryz.func117,by kernel_rfl⟩
theorem fOK118:fOK (118,Tryz.f118):=⟨Tryz.func118,by kernel_rfl⟩
theorem fOK119:fOK (119,Tryz.f119):=⟨Tryz.func119,by kernel_rfl⟩
theorem fOK120:fOK (120,Tryz.f120):=⟨Tryz.func120,by kernel_rfl⟩
theorem fOK121:fOK (121,Tryz.f121):=⟨Tryz.func121,by kernel_rfl⟩
theorem fOK122:fOK (122,Tryz.f122):=⟨Tryz.func122,by kernel_rfl⟩
theorem fOK123:fOK (123,Tryz.f123):=⟨Tryz.func123,by kernel_rfl⟩
theorem fOK124:fOK (124,Tryz.f124):=⟨Tryz.func124,by kernel_rfl⟩
theorem fOK125:fOK (125,Tryz.f125):=⟨Tryz.func125,by kernel_rfl⟩
theorem fOK126:fOK (126,Tryz.f126):=⟨Tryz.func126,by kernel_rfl⟩
theorem fOK127:fOK (127,Tryz.f127):=⟨Tryz.func127,by kernel_rfl⟩
theorem fOK128:fOK (128,Tryz.f128):=⟨Tryz.func128,by kernel_rfl⟩
theorem fOK129:fOK (129,Tryz.f129):=⟨Tryz.func129,by kernel_rfl⟩
theorem fOK130:fOK (130,Tryz.f130):=⟨Tryz.func130,by kernel_rfl⟩
theorem fOK131:fOK (131,Tryz.f131):=⟨Tryz.func131,by kernel_rfl⟩
theorem fOK132:fOK (132,Tryz.f132):=⟨Tryz.func132,by kernel_rfl⟩
theorem fOK133:fOK (133,Tryz.f133):=⟨Tryz.func133,by kernel_rfl⟩
theorem fOK134:fOK (134,Tryz.f134):=⟨Tryz.func134,by kernel_rfl⟩
theorem fOK135:fOK (135,Tryz.f135):=⟨Tryz.func135,by kernel_rfl⟩
theorem fOK136:fOK (136,Tryz.f136):=⟨Tryz.func136,by kernel_rfl⟩
theorem fOK137:fOK (137,Tryz.f137):=⟨Tryz.func137,by kernel_rfl⟩
theorem fOK138:fOK (138,Tryz.f138):=⟨Tryz.func138,by kernel_rfl⟩
theorem fOK139:fOK (139,Tryz.f139):=⟨Tryz.func139,by kernel_rfl⟩
theorem fOK142:fOK (142,Tryz.f142):=⟨Tryz.func142,by kernel_rfl⟩
theorem fOK144:fOK (144,Tryz.f144):=⟨Tryz.func144,by kernel_rfl⟩
theorem fOK145:fOK (145,Tryz.f145):=⟨Tryz.func145,by kernel_rfl⟩
theorem fOK146:fOK (146,Tryz.f146):=⟨Tryz.func146,by kernel_rfl⟩
theorem fOK147:fOK (147,Tryz.f147):=⟨Tryz.func147,by kernel_rfl⟩
theorem fOK148:fOK (148,Tryz.f148):=⟨Tryz.func148,by kernel_rfl⟩
theorem fOK149:fOK (149,Tryz.f149):=⟨Tryz.func149,by kernel_rfl⟩
theorem fOK150:fOK (150,Tryz.f150):=⟨Tryz.func150,by kernel_rfl⟩
theorem fOK151:fOK (151,Tryz.f151):=⟨Tryz.func151,by kernel_rfl⟩
theorem fOK152:fOK (152,Tryz.f152):=⟨Tryz.func152,by kernel_rfl⟩
theorem fOK153:fOK (153,Tryz.f153):=⟨Tryz.func153,by kernel_rfl⟩
theorem fOK154:fOK (154,Tryz.f154):=⟨Tryz.func154,by kernel_rfl⟩
theorem fOK155:fOK (155,Tryz.f155):=⟨Tryz.func155,by kernel_rfl⟩
theorem fOK156:fOK (156,Tryz.f156):=⟨Tryz.func156,by kernel_rfl⟩
theorem fOK157:fOK (157,Tryz.f157):=⟨Tryz.func157,by kernel_rfl⟩
theorem fOK158:fOK (158,Tryz.f158):=⟨Tryz.func158,by kernel_rfl⟩
theorem fOK159:fOK (159,Tryz.f159):=⟨Tryz.func159,by kernel_rfl⟩
theorem fOK160:fOK (160,Tryz.f160):=⟨Tryz.func160,by kernel_rfl⟩
theorem fOK161:fOK (161,Tryz.f161):=⟨Tryz.func161,by kernel_rfl⟩
theorem fOK162:fOK (162,Tryz.f162):=⟨Tryz.func162,by kernel_rfl⟩
theorem fOK163:fOK (163,Tryz.f163):=⟨Tryz.func163,by kernel_rfl⟩
theorem fOK164:fOK (164,Tryz.f164):=⟨Tryz.func164,by kernel_rfl⟩
theorem fOK165:fOK (165,Tryz.f165):=⟨Tryz.func165,by kernel_rfl⟩
theorem fOK166:fOK (166,Tryz.f166):=⟨Tryz.func166,by kernel_rfl⟩
theorem fOK167:fOK (167,Tryz.f167):=⟨Tryz.func167,by kernel_rfl⟩
theorem fOK168:fOK (168,Tryz.f168):=⟨Tryz.func168,by kernel_rfl⟩
theorem fOK169:fOK (169,Tryz.f169):=⟨Tryz.func169,by kernel_rfl⟩
theorem fOK170:fOK (170,Tryz.f170):=⟨Tryz.func170,by kernel_rfl⟩
theorem fOK171:fOK (171,Tryz.f171):=⟨Tryz.func171,by kernel_rfl⟩
theorem fOK172:fOK (172,Tryz.f172):=⟨Tryz.func172,by kernel_rfl⟩
theorem fOK173:fOK (173,Tryz.f173):=⟨Tryz.func173,by kernel_rfl⟩
theorem fOK174:fOK (174,Tryz.f174):=⟨Tryz.func174,by kernel_rfl⟩
theorem fOK175:fOK (175,Tryz.f175):=⟨Tryz.func175,by kernel_rfl⟩
theorem fOK176:fOK (176,Tryz.f176):=⟨Tryz.func176,by kernel_rfl⟩
theorem fOK177:fOK (177,Tryz.f177):=⟨Tryz.func177,by kernel_rfl⟩
theorem fOK178:fOK (178,Tryz.f178):=⟨Tryz.func178,by kernel_rfl⟩
theorem fOK179:fOK (179,Tryz.f179):=⟨Tryz.func179,by kernel_rfl⟩
theorem fOK180:fOK (180,Tryz.f180):=⟨Tryz.func180,by kernel_rfl⟩
theorem fOK181:fOK (181,Tryz.f181):=⟨Tryz.func181,by kernel_rfl⟩
theorem fOK182:fOK (182,Tryz.f182):=⟨Tryz.func182,by kernel_rfl⟩
theorem fOK183:fOK (183,Tryz.f183):=⟨Tryz.func183,by kernel_rfl⟩
theorem fOK184:fOK (184,Tryz.f184):=⟨Tryz.func184,by kernel_rfl⟩
theorem fOK185:fOK (185,Tryz.f185):=⟨Tryz.func185,by kernel_rfl⟩
theorem fOK186:fOK (186,Tryz.f186):=⟨Tryz.func186,by kernel_rfl⟩
theorem fOK187:fOK (187,Tryz.f187):=⟨Tryz.func187,by kernel_rfl⟩
theorem fOK188:fOK (188,Tryz.f188):=⟨Tryz.func188,by kernel_rfl⟩
theorem fOK189:fOK (189,Tryz.f189):=⟨Tryz.func189,by kernel_rfl⟩
theorem fOK190:fOK (190,Tryz.f190):=⟨Tryz.func190,by kernel_rfl⟩
theorem fOK191:fOK (191,Tryz.f191):=⟨Tryz.func191,by kernel_rfl⟩
theorem fOK192:fOK (192,Tryz.f192):=⟨Tryz.func192,by kernel_rfl⟩
theorem fOK193:fOK (193,Tryz.f193):=⟨Tryz.func193,by kernel_rfl⟩
theorem fOK194:fOK (194,Tryz.f194):=⟨Tryz.func194,by kernel_rfl⟩
theorem fOK195:fOK (195,Tryz.f195):=⟨Tryz.func195,by kernel_rfl⟩
theorem fOK196:fOK (196,Tryz.f196):=⟨Tryz.func196,by kernel_rfl⟩
theorem fOK197:fOK (197,Tryz.f197):=⟨Tryz.func197,by kernel_rfl⟩
theorem fOK198:fOK (198,Tryz.f198):=⟨Tryz.func198,by kernel_rfl⟩
theorem fOK199:fOK (199,Tryz.f199):=⟨Tryz.func199,by kernel_rfl⟩
theorem fOK200:fOK (200,Tryz.f200):=⟨Tryz.func200,by kernel_rfl⟩
theorem fOK201:fOK (201,Tryz.f201):=⟨Tryz.func201,by kernel_rfl⟩
theorem fOK202:fOK (202,Tryz.f202):=⟨Tryz.func202,by kernel_rfl⟩
theorem fOK203:fOK (203,Tryz.f203):=⟨Tryz.func203,by kernel_rfl⟩
theorem fOK204:fOK (204,Tryz.f204):=⟨Tryz.func204,by kernel_rfl⟩
theorem fOK205:fOK (205,Tryz.f205):=⟨Tryz.func205,by kernel_rfl⟩
theorem fOK206:fOK (206,Tryz.f206):=⟨Tryz.func206,by kernel_rfl⟩
theorem fOK207:fOK (207,Tryz.f207):=⟨Tryz.func207,by kernel_rfl⟩
theorem fOK209:fOK (209,Tryz.f209):=⟨Tryz.func209,by kernel_rfl⟩
theorem fOK213:fOK (213,Tryz.f213):=⟨Tryz.func213,by kernel_rfl⟩
theorem fOK214:fOK (214,Tryz.f214):=⟨Tryz.func214,by kernel_rfl⟩
theorem fOK215:fOK (215,Tryz.f215):=⟨Tryz.func215,by kernel_rfl⟩
theorem fOK216:fOK (216,Tryz.f216):=⟨Tryz.func216,by kernel_rfl⟩
theorem fOK217:fOK (217,Tryz.f217):=⟨Tryz.func217,by kernel_rfl⟩
theorem fOK218:fOK (218,Tryz.f218):=⟨Tryz.func218,by kernel_rfl⟩
theorem fOK219:fOK (219,Tryz.f219):=⟨Tryz.func219,by kernel_rfl⟩
theorem fOK221:fOK (221,Tryz.f221):=⟨Tryz.func221,by kernel_rfl⟩
theorem fOK222:fOK (222,Tryz.f222):=⟨Tryz.func222,by kernel_rfl⟩
theorem fOK223:fOK (223,Tryz.f223):=⟨Tryz.func223,by kernel_rfl⟩
theorem fOK224:fOK (224,Tryz.f224):=⟨Tryz.func224,by kernel_rfl⟩
theorem fOK225:fOK (225,Tryz.f225):=⟨Tryz.func225,by kernel_rfl⟩
theorem fOK226:fOK (226,Tryz.f226):=⟨Tryz.func226,by kernel_rfl⟩
theorem fOK227:fOK (227,Tryz.f227):=⟨Tryz.func227,by kernel_rfl⟩
theorem fOK228:fOK (228,Tryz.f228):=⟨Tryz.func228,by kernel_rfl⟩
theorem fOK230:fOK (230,Tryz.f230):=⟨Tryz.func230,by kernel_rfl⟩
theorem fOK231:fOK (231,Tryz.f231):=⟨Tryz.func231,by kernel_rfl⟩
theorem fOK232:fOK (232,Tryz.f232):=⟨Tryz.func232,by kernel_rfl⟩
theorem fOK233:fOK (233,Tryz.f233):=⟨Tryz.func233,by kernel_rfl⟩
theorem fOK234:fOK (234,Tryz.f234):=⟨Tryz.func234,by kernel_rfl⟩
theorem fOK235:fOK (235,Tryz.f235):=⟨Tryz.func235,by kernel_rfl⟩
theorem fOK236:fOK (236,Tryz.f236):=⟨Tryz.func236,by kernel_rfl⟩
theorem fOK237:fOK (237,Tryz.f237):=⟨Tryz.func237,by kernel_rfl⟩
theorem fOK238:fOK (238,Tryz.f238):=⟨Tryz.func238,by kernel_rfl⟩
theorem fOK239:fOK (239,Tryz.f239):=⟨Tryz.func239,by kernel_rfl⟩
theorem fOK240:fOK (240,Tryz.f240):=⟨Tryz.func240,by kernel_rfl⟩
theorem fOK241:fOK (241,Tryz.f241):=⟨Tryz.func241,by kernel_rfl⟩
theorem fOK242:fOK (242,Tryz.f242):=⟨Tryz.func242,by kernel_rfl⟩
theorem fOK243:fOK (243,Tryz.f243):=⟨Tryz.func243,by kernel_rfl⟩
theorem fOK244:fOK (244,Tryz.f244):=⟨Tryz.func244,by kernel_rfl⟩
theorem fOK245:fOK (245,Tryz.f245):=⟨Tryz.func245,by kernel_rfl⟩
theorem fOK246:fOK (246,Tryz.f246):=⟨Tryz.func246,by kernel_rfl⟩
theorem fOK247:fOK (247,Tryz.f247):=⟨Tryz.func247,by kernel_rfl⟩
theorem fOK248:fOK (248,Tryz.f248):=⟨Tryz.func248,by kernel_rfl⟩
theorem fOK249:fOK (249,Tryz.f249):=⟨Tryz.func249,by kernel_rfl⟩
theorem fOK250:fOK (250,Tryz.f250):=⟨Tryz.func250,by kernel_rfl⟩
theorem fOK251:fOK (251,Tryz.f251):=⟨Tryz.func251,by kernel_rfl⟩
theorem fOK252:fOK (252,Tryz.f252):=⟨Tryz.func252,by kernel_rfl⟩
theorem fOK253:fOK (253,Tryz.f253):=⟨Tryz.func253,by kernel_rfl⟩
theorem fOK254:fOK (254,Tryz.f254):=⟨Tryz.func254,by kernel_rfl⟩
theorem fOK255:fOK (255,Tryz.f255):=⟨Tryz.func255,by kernel_rfl⟩
theorem fOK256:fOK (256,Tryz.f256):=⟨Tryz.func256,by kernel_rfl⟩
theorem fOK257:fOK (257,Tryz.f257):=⟨Tryz.func257,by kernel_rfl⟩
theorem fOK258:fOK (258,Tryz.f258):=⟨Tryz.func258,by kernel_rfl⟩
theorem fOK262:fOK (262,Tryz.f262):=⟨Tryz.func262,by kernel_rfl⟩
theorem fOK263:fOK (263,Tryz.f263):=⟨Tryz.func263,by kernel_rfl⟩
theorem fOK264:fOK (264,Tryz.f264):=⟨Tryz.func264,by kernel_rfl⟩
theorem fOK265:fOK (265,Tryz.f265):=⟨Tryz.func265,by kernel_rfl⟩
theorem fOK266:fOK (266,Tryz.f266):=⟨Tryz.func266,by kernel_rfl⟩
theorem fOK267:fOK (267,Tryz.f267):=⟨Tryz.func267,by kernel_rfl⟩
theorem fOK276:fOK (276,Tryz.f276):=⟨Tryz.func276,by kernel_rfl⟩
theorem fOK277:fOK (277,Tryz.f277):=⟨Tryz.func277,by kernel_rfl⟩
theorem fOK279:fOK (279,Tryz.f279):=⟨Tryz.func279,by kernel_rfl⟩
theorem fOK280:fOK (280,Tryz.f280):=⟨Tryz.func280,by kernel_rfl⟩
theorem fOK281:fOK (281,Tryz.f281):=⟨Tryz.func281,by kernel_rfl⟩
theorem fOK282:fOK (282,Tryz.f282):=⟨Tryz.func282,by kernel_rfl⟩
theorem fOK283:fOK (283,Tryz.f283):=⟨Tryz.func283,by kernel_rfl⟩
theorem fOK284:fOK (284,Tryz.f284):=⟨Tryz.func284,by kernel_rfl⟩
theorem fOK285:fOK (285,Tryz.f285):=⟨Tryz.func285,by kernel_rfl⟩
theorem fOK286:fOK (286,Tryz.f286):=⟨Tryz.func286,by kernel_rfl⟩
theorem fOK287:fOK (287,Tryz.f287):=⟨Tryz.func287,by kernel_rfl⟩
theorem fOK288:fOK (288,Tryz.f288):=⟨Tryz.func288,by kernel_rfl⟩
theorem fOK289:fOK (289,Tryz.f289):=⟨Tryz.func289,by kernel_rfl⟩
theorem fOK290:fOK (290,Tryz.f290):=⟨Tryz.func290,by kernel_rfl⟩
theorem fOK291:fOK (291,Tryz.f291):=⟨Tryz.func291,by kernel_rfl⟩
theorem fOK292:fOK (292,Tryz.f292):=⟨Tryz.func292,by kernel_rfl⟩
theorem fOK293:fOK (293,Tryz.f293):=⟨Tryz.func293,by kernel_rfl⟩
theorem fOK294:fOK (294,Tryz.f294):=⟨Tryz.func294,by kernel_rfl⟩
theorem fOK295:fOK (295,Tryz.f295):=⟨Tryz.func295,by kernel_rfl⟩
theorem fOK296:fOK (296,Tryz.f296):=⟨Tryz.func296,by kernel_rfl⟩
theorem fOK297:fOK (297,Tryz.f297):=⟨Tryz.func297,by kernel_rfl⟩
theorem fOK298:fOK (298,Tryz.f298):=⟨Tryz.func298,by kernel_rfl⟩
theorem fOK299:fOK (299,Tryz.f299):=⟨Tryz.func299,by kernel_rfl⟩
theorem fOK300:fOK (300,Tryz.f300):=⟨Tryz.func300,by kernel_rfl⟩
theorem fOK301:fOK (301,Tryz.f301):=⟨Tryz.func301,by kernel_rfl⟩
theorem fOK302:fOK (302,Tryz.f302):=⟨Tryz.func302,by kernel_rfl⟩
theorem fOK303:fOK (303,Tryz.f303):=⟨Tryz.func303,by kernel_rfl⟩
theorem fOK304:fOK (304,Tryz.f304):=⟨Tryz.func304,by kernel_rfl⟩
theorem fOK305:fOK (305,Tryz.f305):=⟨Tryz.func305,by kernel_rfl⟩
theorem fOK306:fOK (306,Tryz.f306):=⟨Tryz.func306,by kernel_rfl⟩
theorem fOK307:fOK (307,Tryz.f307):=⟨Tryz.func307,by kernel_rfl⟩
theorem fOK308:fOK (308,Tryz.f308):=⟨Tryz.func308,by kernel_rfl⟩
theorem fOK327:fOK (327,Tryz.f327):=⟨Tryz.func327,by kernel_rfl⟩
theorem fOK328:fOK (328,Tryz.f328):=⟨Tryz.func328,by kernel_rfl⟩
theorem fOK329:fOK (329,Tryz.f329):=⟨Tryz.func329,by kernel_rfl⟩
theorem fOK330:fOK (330,Tryz.f330):=⟨Tryz.func330,by kernel_rfl⟩
theorem fOK331:fOK (331,Tryz.f331):=⟨Tryz.func331,by kernel_rfl⟩
theorem fOK332:fOK (332,Tryz.f332):=⟨Tryz.func332,by kernel_rfl⟩
theorem fOK333:fOK (333,Tryz.f333):=⟨Tryz.func333,by kernel_rfl⟩
theorem fOK334:fOK (334,Tryz.f334):=⟨Tryz.func334,by kernel_rfl⟩
theorem fOK335:fOK (335,Tryz.f335):=⟨Tryz.func335,by kernel_rfl⟩
theorem fOK336:fOK (336,Tryz.f336):=⟨Tryz.func336,by kernel_rfl⟩
theorem fOK337:fOK (337,Tryz.f337):=⟨Tryz.func337,by kernel_rfl⟩
theorem fOK338:fOK (338,Tryz.f338):=⟨Tryz.func338,by kernel_rfl⟩
theorem fOK339:fOK (339,Tryz.f339):=⟨Tryz.func339,by kernel_rfl⟩
theorem fOK340:fOK (340,Tryz.f340):=⟨Tryz.func340,by kernel_rfl⟩
theorem fOK341:fOK (341,Tryz.f341):=⟨Tryz.func341,by kernel_rfl⟩
theorem fOK343:fOK (343,Tryz.f343):=⟨Tryz.func343,by kernel_rfl⟩
theorem fOK344:fOK (344,Tryz.f344):=⟨Tryz.func344,by kernel_rfl⟩
theorem fOK365:fOK (365,Tryz.f365):=⟨Tryz.func365,by kernel_rfl⟩
theorem fOK366:fOK (366,Tryz.f366):=⟨Tryz.func366,by kernel_rfl⟩
theorem fOK367:fOK (367,Tryz.f367):=⟨Tryz.func367,by kernel_rfl⟩
theorem fOK368:fOK (368,Tryz.f368):=⟨Tryz.func368,by kernel_rfl⟩
theorem fOK369:fOK (369,Tryz.f369):=⟨Tryz.func369,by kernel_rfl⟩
theorem fOK370:fOK (370,Tryz.f370):=⟨Tryz.func370,by kernel_rfl⟩
theorem fOK372:fOK (372,Tryz.f372):=⟨Tryz.func372,by kernel_rfl⟩
theorem fOK373:fOK (373,Tryz.f373):=⟨Tryz.func373,by kernel_rfl⟩
theorem fOK374:fOK (374,Tryz.f374):=⟨Tryz.func374,by kernel_rfl⟩
theorem fOK375:fOK (375,Tryz.f375):=⟨Tryz.func375,by kernel_rfl⟩
theorem fOK376:fOK (376,Tryz.f376):=⟨Tryz.func376,by kernel_rfl⟩
theorem fOK377:fOK (377,Tryz.f377):=⟨Tryz.func377,by kernel_rfl⟩
theorem fOK378:fOK (378,Tryz.f378):=⟨Tryz.func378,by kernel_rfl⟩
theorem fOK379:fOK (379,Tryz.f379):=⟨Tryz.func379,by kernel_rfl⟩
theorem fOK393:fOK (393,Tryz.f393):=⟨Tryz.func393,by kernel_rfl⟩
theorem fOK394:fOK (394,Tryz.f394):=⟨Tryz.func394,by kernel_rfl⟩
theorem fOK395:fOK (395,Tryz.f395):=⟨Tryz.func395,by kernel_rfl⟩
theorem fOK396:fOK (396,Tryz.f396):=⟨Tryz.func396,by kernel_rfl⟩
theorem fOK403:fOK (403,Tryz.f403):=⟨Tryz.func403,by kernel_rfl⟩
theorem fOK208:fOK (208,Tryz.f208):=⟨Tryz.func208,by kernel_rfl⟩
theorem fOK210:fOK (210,Tryz.f210):=⟨Tryz.func210,by kernel_rfl⟩
theorem fOK211:fOK (211,Tryz.f211):=⟨Tryz.func211,by kernel_rfl⟩
theorem fOK212:fOK (212,Tryz.f212):=⟨Tryz.func212,by kernel_rfl⟩
theorem fOK220:fOK (220,Tryz.f220):=⟨Tryz.func220,by kernel_rfl⟩
theorem fOK260:fOK (260,Tryz.f260):=⟨Tryz.func260,by kernel_rfl⟩
theorem fOK261:fOK (261,Tryz.f261):=⟨Tryz.func261,by kernel_rfl⟩
theorem fOK311:fOK (311,Tryz.f311):=⟨Tryz.func311,by kernel_rfl⟩
theorem nil_ok:∀q∈([]:List (Nat×Func)),fOK q:=λq h=>by cases h
theorem zD{p:Nat×Func}{l:List (Nat×Func)}(h:fOK p)(t:∀q∈l,fOK q):∀q∈p :: l,fOK q:=λq hq=>by
 rcases List.mem_cons.1 hq with rfl | hq
 ·exact h
 ·exact t q hq
set_option maxRecDepth 100000 in
theorem fTab_ok:∀p∈fTab,fOK p :=
 zD fOK3 (zD fOK4 (zD fOK5 (zD fOK6 (zD fOK7 (zD fOK8 (zD fOK9 (zD fOK10 (zD fOK11 (zD fOK12 (
 zD fOK13 (zD fOK14 (zD fOK15 (zD fOK16 (zD fOK17 (zD fOK18 (zD fOK19 (zD fOK20 (zD fOK21 (zD fOK22 (
 zD fOK23 (zD fOK24 (zD fOK25 (zD fOK26 (zD fOK27 (zD fOK28 (zD fOK29 (zD fOK30 (zD fOK31 (zD fOK32 (
 zD fOK33 (zD fOK34 (zD fOK35 (zD fOK36 (zD fOK37 (zD fOK38 (zD fOK39 (zD fOK40 (zD fOK41 (zD fOK42 (
 zD fOK43 (zD fOK44 (zD fOK45 (zD fOK46 (zD fOK47 (zD fOK48 (zD fOK49 (zD fOK50 (zD fOK51 (zD fOK52 (
 zD fOK53 (zD fOK54 (zD fOK55 (zD fOK56 (zD fOK57 (zD fOK58 (zD fOK59 (zD fOK60 (zD fOK61 (zD fOK62 (
 zD fOK63 (zD fOK64 (zD fOK65 (zD fOK66 (zD fOK67 (zD fOK68 (zD fOK69 (zD fOK70 (zD fOK71 (zD fOK72 (
 zD fOK73 (zD fOK74 (zD fOK75 (zD fOK76 (zD fOK77 (zD fOK78 (zD fOK79 (zD fOK80 (zD fOK81 (zD fOK82 (
 zD fOK83 (zD fOK84 (zD fOK85 (zD fOK86 (zD fOK87 (zD fOK88 (zD fOK89 (zD fOK90 (zD fOK91 (zD fOK92 (
 zD fOK93 (zD fOK94 (zD fOK95 (zD fOK96 (zD fOK97 (zD fOK98 (zD fOK99 (zD fOK100 (zD fOK101 (zD fOK102 (
 zD fOK103 (zD fOK104 (zD fOK105 (zD fOK106 (zD fOK107 (zD fOK108 (zD fOK109 (zD fOK110 (zD fOK111 (zD fOK112 (
 zD fOK113 (zD fOK114 (zD fOK115 (zD fOK116 (zD fOK117 (zD fOK118 (zD fOK119 (zD fOK120 (zD fOK121 (zD fOK122 (
 zD fOK123 (zD fOK124 (zD fOK125 (zD fOK126 (zD fOK127 (zD fOK128 (zD fOK129 (zD fOK130 (zD fOK131 (zD fOK132 (
 zD fOK133 (zD fOK134 (zD fOK135 (zD fOK136 (zD fOK137 (zD fOK138 (zD fOK139 (zD fOK142 (zD fOK144 (zD fOK145 (
 zD fOK146 (zD fOK147 (zD fOK148 (zD fOK149 (zD fOK150 (zD fOK151 (zD fOK152 (zD fOK153 (zD fOK154 (zD fOK155 (
 zD fOK156 (zD fOK157 (zD fOK158 (zD fOK159 (zD fOK160 (zD fOK161 (zD fOK162 (zD fOK163 (zD fOK164 (zD fOK165 (
 zD fOK166 (zD fOK167 (zD fOK168 (zD fOK169 (zD fOK170 (zD fOK171 (zD fOK172 (zD fOK173 (zD fOK174 (zD fOK175 (
 zD fOK176 (zD fOK177 (zD fOK178 (zD fOK179 (zD fOK180 (zD fOK181 (zD fOK182 (zD fOK183 (zD fOK184 (zD fOK185 (
 zD fOK186 (zD fOK187 (zD fOK188 (zD fOK189 (zD fOK190 (zD fOK191 (zD fOK192 (zD fOK193 (zD fOK194 (zD fOK195 (
 zD fOK196 (zD fOK197 (zD fOK198 (zD fOK199 (zD fOK200 (zD fOK201 (zD fOK202 (zD fOK203 (zD fOK204 (zD fOK205 (
 zD fOK206 (zD fOK207 (zD fOK209 (zD fOK213 (zD fOK214 (zD fOK215 (zD fOK216 (zD fOK217 (zD fOK218 (zD fOK219 (
 zD fOK221 (zD fOK222 (zD fOK223 (zD fOK224 (zD fOK225 (zD fOK226 (zD fOK227 (zD fOK228 (zD fOK230 (zD fOK231 (
 zD fOK232 (zD fOK233 (zD fOK234 (zD fOK235 (zD fOK236 (zD fOK237 (zD fOK238 (zD fOK239 (zD fOK240 (zD fOK241 (
 zD fOK242 (zD fOK243 (zD fOK244 (zD fOK245 (zD fOK246 (zD fOK247 (zD fOK248 (zD fOK249 (zD fOK250 (zD fOK251 (
 zD fOK252 (zD fOK253 (zD fOK254 (zD fOK255 (zD fOK256 (zD fOK257 (zD fOK258 (zD fOK262 (zD fOK263 (zD fOK264 (
 zD fOK265 (zD fOK266 (zD fOK267 (zD fOK276 (zD fOK277 (zD fOK279 (zD fOK280 (zD fOK281 (zD fOK282 (zD fOK283 (
 zD fOK284 (zD fOK285 (zD fOK286 (zD fOK287 (zD fOK288 (zD fOK289 (zD fOK290 (zD fOK291 (zD fOK292 (zD fOK293 (
 zD fOK294 (zD fOK295 (zD fOK296 (zD fOK297 (zD fOK298 (zD fOK299 (zD fOK300 (zD fOK301 (zD fOK302 (zD fOK303 (
 zD fOK304 (zD fOK305 (zD fOK306 (zD fOK307 (zD fOK308 (zD fOK327 (zD fOK328 (zD fOK329 (zD fOK330 (zD fOK331 (
 zD fOK332 (zD fOK333 (zD fOK334 (zD fOK335 (zD fOK336 (zD fOK337 (zD fOK338 (zD fOK339 (zD fOK340 (zD fOK341 (
 zD fOK343 (zD fOK344 (zD fOK365 (zD fOK366 (zD fOK367 (zD fOK368 (zD fOK369 (zD fOK370 (zD fOK372 (zD fOK373 (
 zD fOK374 (zD fOK375 (zD fOK376 (zD fOK377 (zD fOK378 (zD fOK379 (zD fOK393 (zD fOK394 (zD fOK395 (zD fOK396 (
 zD fOK403 (zD fOK208 (zD fOK210 (zD fOK211 (zD fOK212 (zD fOK220 (zD fOK260 (zD fOK261 (zD fOK311 (nil_ok)))))))))))))))))))))))))))))))))))))))))))))))))))))))))))))))))))))))))))))))))))))))))))))))))))))))))))))))))))))))))))))))))))))))))))))))))))))))))))))))))))))))))))))))))))))))))))))))))))))))))))))))))))))))))))))))))))))))))))))))))))))))))))))))))))))))))))))))))))))))))))))))))))))))))))))))))))))))))))))))))))))))))
set_option maxRecDepth 100000 in
theorem E0_F(steps:Nat)(fresh:FuncId->Bool)(orc:FuncId->Option (List DV->Option CR))(f:FuncId)(fn:Func)(h:(E0 steps fresh orc).F f=some fn):Tryz.prog.funcs[f]? = some fn/\(fn.name == "runtime.NumGoroutine")=false :=
 fTab_ok _ (qi h)
end Go.Am
namespace Go.Am
open Go.Proofs
open Go Go.RowKit
theorem Qe{a b:Int}(h:eI a=eI b):a=b:=by injection h
theorem qx{α:Type}{e:α->DV}(he:∀a b,e a=e b->a=b):∀{l l':List α},l.map e=l'.map e->l=l'
 | [],[],_=>rfl
 | [],_ :: _,h=>by simp at h
 | _ :: _,[],h=>by simp at h
 | a :: l,b :: l',h=>by simp only[List.map_cons,List.cons.injEq] at h;rw[he a b h.1,qx he h.2]
theorem JY{a b:DV}(h:a=b)(i:Nat):nth (flds a) i=nth (flds b) i:=by rw[h]
theorem QP{k:Nat}{a b:List DV}(h:DV.sl k a=DV.sl k b):a=b:=by injection h
theorem zBP{l l':List Int}(h:l.map eI=l'.map eI):l=l':=qx (λ_ _ h=>Qe h) h
theorem zE6(a b:Pt)(h:ePt a=ePt b):a=b:=by have h0:a.x=b.x:=Qe (JY h 0);have h1:a.y=b.y:=Qe (JY h 1);cases a;cases b;simp only at h0 h1;rw[h0,h1]
theorem eWk_inj(a b:Wk)(h:eWk a=eWk b):a=b:=by
 have h0:DV.str a.rule=DV.str b.rule:=JY h 0;have h1:a.d=b.d:=zBP (QP (JY h 1));have h2:a.w=b.w:=zBP (QP (JY h 2));injection h0 with h0
 cases a;cases b;simp only at h0 h1 h2;rw[h0,h1,h2]
theorem eCu_inj(a b:Cu)(h:eCu a=eCu b):a=b:=by have h0:a.p=b.p:=zBP (QP (JY h 0));have h1:a.cut=b.cut:=Qe (JY h 1);cases a;cases b;simp only at h0 h1;rw[h0,h1]
theorem eRow_inj(a b:List Int)(h:jj a=jj b):a=b:=by have h:a.map eI=b.map eI:=congrArg flds h;exact zBP h
theorem eTb_inj(a b:Tb)(h:eTb a=eTb b):a=b:=by
 have h0:DV.str a.name=DV.str b.name:=JY h 0;have h1:a.at'=b.at':=zE6 _ _ (JY h 1);injection h0 with h0
 cases a;cases b;simp only at h0 h1;rw[h0,h1]
theorem eSi_inj(a b:Si)(h:eSi a=eSi b):a=b:=by
 have h0:DV.str a.name=DV.str b.name:=JY h 0;have h1:a.least=b.least:=Qe (JY h 1);have h2:a.tb=b.tb:=qx eTb_inj (QP (JY h 2));injection h0 with h0
 cases a;cases b;simp only at h0 h1 h2;rw[h0,h1,h2]
theorem ePn_inj(a b:Pn)(h:ePn a=ePn b):a=b:=by have h0:a.ps=b.ps:=qx zE6 (QP (JY h 0));have h1:a.least=b.least:=Qe (JY h 1);have h2:a.w=b.w:=eWk_inj _ _ (JY h 2);have h3:a.c=b.c:=eCu_inj _ _ (JY h 3);have h4':eRo a.r=eRo b.r:=JY h 4;have h4:a.r=b.r:=qx eRow_inj (congrArg flds h4');cases a;cases b;simp only at h0 h1 h2 h3 h4;rw[h0,h1,h2,h3,h4]
theorem eStr_inj{l l':List ByteArray}(h:l.map DV.str=l'.map DV.str):l=l':=qx (λ_ _ h=>by injection h) h
abbrev oo1:OO:=⟨λ_=>none,λ_ _=>rfl⟩
theorem env1:EnvOKo PP EE oo1.o:=⟨zAU _ _ _,Jt,λf fn h=>E0_F _ _ _ f fn h,λf g h=>by cases h⟩
noncomputable def orc2(f:FuncId):Option (List DV->Option CR):=match f with
 | 243=>some (orT T243)
 | 210=>some (orT T210)
 | 208=>some (orT T208)
 | 161=>some (orT T161)
 | 200=>some (orT T200)
 | 68=>some (orT T68)
 | _=>none
theorem orc2_ok(f:FuncId)(h:(orcF f).isNone=true):orc2 f=none:=by unfold orc2;split <;> first | rfl | (exfalso;revert h;simp[orcF])
noncomputable abbrev oo2:OO:=⟨orc2,orc2_ok⟩
theorem env2:EnvOKo PP EE oo2.o:=by
 refine⟨zAU _ _ _,Jt,λf fn h=>E0_F _ _ _ f fn h,λf g h=>?_⟩
 have h:orc2 f=some g:=h;unfold orc2 at h;split at h
 ·injection h with h;subst h;exact zBB at243
 ·injection h with h;subst h;exact zBB at210
 ·injection h with h;subst h;exact zBB at208
 ·injection h with h;subst h;exact zBB (@at161 oo1 env1)
 ·injection h with h;subst h;exact zBB (@at200 oo1 env1)
 ·injection h with h;subst h;exact zBB (@at68 oo1 env1 λx y W=>cmpPl x.x x.y y.x y.y W)
 ·cases h
section
variable{o:OO}
theorem qR{f:FuncId}{T:List DV->CR->Prop}(h:o.o f=some (orT T)){ds:List DV}{r:CR}(h1:T ds r)(hu:∀r',T ds r'->r'=r):@zB o f ds=some r:=(@callQ_orc o f _ h ds).trans (orT_of h1 hu)
theorem knW_of(h:o.o 200=some (orT T200)):@KnW o:=@KnW.mk o λw ps sec st h1 h2 h3 h4 h5=>by
 refine qR h ⟨w,ps,sec,st,h1,h2,h3,h4,h5,rfl,rfl⟩ ?_;rintro r' ⟨w',ps',sec',st',_,_,_,_,_,e,rfl⟩;injection e with e1 e
 injection e with e2 e;injection e with e3 _
 have e4:sec=sec':=Qe (JY e3 0);have e5:st=st':=zE6 _ _ (JY e3 1);rw[eWk_inj _ _ e1,qx zE6 (QP e2),e4,e5]
theorem knO_of(h:o.o 68=some (orT T68)):@KnO o:=@KnO.mk o λs n=>by
 refine qR h ⟨s,n,rfl,rfl⟩ ?_;rintro r' ⟨s',n',e,rfl⟩;injection e with e1 e
 injection e with e2 _;rw[eSi_inj _ _ e1,Qe e2]
theorem knS_of(h1:o.o 243=some (orT T243))(h2:o.o 161=some (orT T161))(h3:o.o 210=some (orT T210))(h4:o.o 208=some (orT T208)):@KnS o:=@KnS.mk o
 (λl hl=>qR h1 ⟨l,hl,rfl,rfl⟩ (by
  rintro r' ⟨l',_,e,rfl⟩;injection e with e _
  rw[zBP (QP e)]))
 (λp a1 a2 a3 a4 a5=>qR h2 ⟨p,a1,a2,a3,a4,a5,rfl,rfl⟩ (by
  rintro r' ⟨p',_,_,_,_,_,e,rfl⟩;injection e with e _
  rw[ePn_inj _ _ e]))
 (λn a1 a2=>qR h3 ⟨n,a1,a2,rfl,rfl⟩ (by
  rintro r' ⟨n',_,_,e,rfl⟩;injection e with e _
  rw[Qe e]))
 (λl s a1 a2 a3=>qR h4 ⟨l,s,a1,a2,a3,rfl,rfl⟩ (by
  rintro r' ⟨l',s',_,_,_,e,rfl⟩;injection e with e1 e
  injection e with e2 _;injection e2 with e2
  rw[eStr_inj (QP e1),e2]))
end
theorem knW2:@KnW oo2:=knW_of rfl
theorem knS2:@KnS oo2:=knS_of rfl rfl rfl rfl
end Go.Am
namespace Go.Am
open Go.Proofs
open Go
variable[OO]
def S170_0a(v0:List DV)(v1 v2:Int)(v3:List DV)(v4:Int)(v5:ByteArray)(v6 v7 v8:List DV)(v9:Int)(v10 v11 v12:List DV):St :=
 zx 54 [(2,(.ptr 2 415 0 [])),(5,(.omp 11)),(12,(.d (.sl 1 v0))),(13,(.d (eI v1))),(14,(.d (eI v2)))] [(2,(.mk false (.dc 415 [(.agg 6 [(.sl 2 v3),(eI v4),(.agg 0 [(.str v5),(.sl 1 v6),(.sl 1 v7)]),(.agg 1 [(.sl 1 v8),(eI v9)]),(.agg 3 v10)])]))),(11,(.mk false (.mp v11 v12)))]
noncomputable def zAE(v0:List DV)(v1 v2:Int)(v3:List DV)(v4:Int)(v5:ByteArray)(v6 v7 v8:List DV)(v9:Int)(v10 v11 v12:List DV):Option CR:=goQ 170 0 (S170_0a v0 v1 v2 v3 v4 v5 v6 v7 v8 v9 v10 v11 v12)
def S170_1a(v0:List DV)(v1 v2:Int)(v3:List DV)(v4 v5:Int)(v6:List DV)(v7:Int)(v8:ByteArray)(v9 v10 v11:List DV)(v12:Int)(v13 v14 v15:List DV):St :=
 zx 54 [(2,(.ptr 2 415 0 [])),(5,(.omp 11)),(12,(.d (.sl 1 v0))),(13,(.d (eI v1))),(14,(.d (eI v2))),(18,(.d (.sl 1 v3))),(19,(.d (eI v4))),(20,(.d (eI v5)))] [(2,(.mk false (.dc 415 [(.agg 6 [(.sl 2 v6),(eI v7),(.agg 0 [(.str v8),(.sl 1 v9),(.sl 1 v10)]),(.agg 1 [(.sl 1 v11),(eI v12)]),(.agg 3 v13)])]))),(11,(.mk false (.mp v14 v15)))]
noncomputable def qN(v0:List DV)(v1 v2:Int)(v3:List DV)(v4 v5:Int)(v6:List DV)(v7:Int)(v8:ByteArray)(v9 v10 v11:List DV)(v12:Int)(v13 v14 v15:List DV):Option CR:=goQ 170 1 (S170_1a v0 v1 v2 v3 v4 v5 v6 v7 v8 v9 v10 v11 v12 v13 v14 v15)
theorem zFV(v0:List DV)(v1 v2:Int)(v3:List DV)(v4:Int)(v5:ByteArray)(v6 v7 v8:List DV)(v9:Int)(v10 v11 v12:List DV):zAE v0 v1 v2 v3 v4 v5 v6 v7 v8 v9 v10 v11 v12 =
 ifO (decide (v2<v1))
 (ifO (decide (((0:Int)<=v2)/\(v2<(((List.length v0):Nat):Int))))
 (ifO (zH EE 6 25 (nth v0 (Int.toNat v2)))
 ((qN v0 v1 v2 (elems (nth v0 (Int.toNat v2))) (((List.length (elems (nth v0 (Int.toNat v2)))):Nat):Int) (0:Int) v3 v4 v5 v6 v7 v8 v9 v10 v11 v12))
 (none))
 (none))
 (zI (zB 169 [(.bool (bne (((List.length (Prod.fst (Prod.mk v11 v12))):Nat):Int) (((List.length v3):Nat):Int))),(eI 2)])
 (λr0=>ifO (zH EE 6 46 r0)
 (some (.val (eI (zC r0))))
 (none))
 (λ_ _=>none)) :=
 (zk 170 0 _).trans (by kernel_rfl)
theorem qM(v0:List DV)(v1 v2:Int)(v3:List DV)(v4 v5:Int)(v6:List DV)(v7:Int)(v8:ByteArray)(v9 v10 v11:List DV)(v12:Int)(v13 v14 v15:List DV):qN v0 v1 v2 v3 v4 v5 v6 v7 v8 v9 v10 v11 v12 v13 v14 v15 =
 ifO (decide (v5<v4))
 (ifO (decide (((0:Int)<=v5)/\(v5<(((List.length v3):Nat):Int))))
 (ifO (zH EE 6 3 (nth v3 (Int.toNat v5)))
 (ifO (decide ((zC (nth v3 (Int.toNat v5)))<(0:Int)))
 (zI (zB 169 [(.bool true),(eI 10)])
 (λr3=>ifO (zH EE 6 46 r3)
 (ifO (Option.isSome (ja (eI (zC (nth v3 (Int.toNat v5)))) v14 v15))
 (ifO (Option.isSome (Option.getD (ja (eI (zC (nth v3 (Int.toNat v5)))) v14 v15) (Option.none)))
 (ifO (zH EE 6 4 (Option.getD (Option.getD (ja (eI (zC (nth v3 (Int.toNat v5)))) v14 v15) (Option.none)) .nl))
 (zI (zB 169 [(.bool (YI (Option.getD (Option.getD (ja (eI (zC (nth v3 (Int.toNat v5)))) v14 v15) (Option.none)) .nl))),(eI 9)])
 (λr4=>ifO (zH EE 6 46 r4)
 (zI (zB 148 [(.sl 1 [(eI (zC r3)),(eI (zC r4))])])
 (λr5=>ifO (zH EE 6 46 r5)
 (ifO (bne (zC r5) 0)
 (some (.val (eI (zC r5))))
 (ifO (Option.isSome (Yz (eI (zC (nth v3 (Int.toNat v5)))) (.bool true) v14 v15))
 ((qN v0 v1 v2 v3 v4 (IntKind.wrap .i64 (v5+(1:Int))) v6 v7 v8 v9 v10 v11 v12 v13 (Prod.fst (Option.getD (Yz (eI (zC (nth v3 (Int.toNat v5)))) (.bool true) v14 v15) (Prod.mk [] []))) (Prod.snd (Option.getD (Yz (eI (zC (nth v3 (Int.toNat v5)))) (.bool true) v14 v15) (Prod.mk [] [])))))
 (none)))
 (none))
 (λ_ _=>none))
 (none))
 (λ_ _=>none))
 (none))
 (zI (zB 169 [(.bool false),(eI 9)])
 (λr10=>ifO (zH EE 6 46 r10)
 (zI (zB 148 [(.sl 1 [(eI (zC r3)),(eI (zC r10))])])
 (λr11=>ifO (zH EE 6 46 r11)
 (ifO (bne (zC r11) 0)
 (some (.val (eI (zC r11))))
 (ifO (Option.isSome (Yz (eI (zC (nth v3 (Int.toNat v5)))) (.bool true) v14 v15))
 ((qN v0 v1 v2 v3 v4 (IntKind.wrap .i64 (v5+(1:Int))) v6 v7 v8 v9 v10 v11 v12 v13 (Prod.fst (Option.getD (Yz (eI (zC (nth v3 (Int.toNat v5)))) (.bool true) v14 v15) (Prod.mk [] []))) (Prod.snd (Option.getD (Yz (eI (zC (nth v3 (Int.toNat v5)))) (.bool true) v14 v15) (Prod.mk [] [])))))
 (none)))
 (none))
 (λ_ _=>none))
 (none))
 (λ_ _=>none)))
 (none))
 (none))
 (λ_ _=>none))
 (zI (zB 169 [(.bool (decide ((zC (nth v3 (Int.toNat v5)))>=(((List.length v6):Nat):Int)))),(eI 10)])
 (λr18=>ifO (zH EE 6 46 r18)
 (ifO (Option.isSome (ja (eI (zC (nth v3 (Int.toNat v5)))) v14 v15))
 (ifO (Option.isSome (Option.getD (ja (eI (zC (nth v3 (Int.toNat v5)))) v14 v15) (Option.none)))
 (ifO (zH EE 6 4 (Option.getD (Option.getD (ja (eI (zC (nth v3 (Int.toNat v5)))) v14 v15) (Option.none)) .nl))
 (zI (zB 169 [(.bool (YI (Option.getD (Option.getD (ja (eI (zC (nth v3 (Int.toNat v5)))) v14 v15) (Option.none)) .nl))),(eI 9)])
 (λr19=>ifO (zH EE 6 46 r19)
 (zI (zB 148 [(.sl 1 [(eI (zC r18)),(eI (zC r19))])])
 (λr20=>ifO (zH EE 6 46 r20)
 (ifO (bne (zC r20) 0)
 (some (.val (eI (zC r20))))
 (ifO (Option.isSome (Yz (eI (zC (nth v3 (Int.toNat v5)))) (.bool true) v14 v15))
 ((qN v0 v1 v2 v3 v4 (IntKind.wrap .i64 (v5+(1:Int))) v6 v7 v8 v9 v10 v11 v12 v13 (Prod.fst (Option.getD (Yz (eI (zC (nth v3 (Int.toNat v5)))) (.bool true) v14 v15) (Prod.mk [] []))) (Prod.snd (Option.getD (Yz (eI (zC (nth v3 (Int.toNat v5)))) (.bool true) v14 v15) (Prod.mk [] [])))))
 (none)))
 (none))
 (λ_ _=>none))
 (none))
 (λ_ _=>none))
 (none))
 (zI (zB 169 [(.bool false),(eI 9)])
 (λr25=>ifO (zH EE 6 46 r25)
 (zI (zB 148 [(.sl 1 [(eI (zC r18)),(eI (zC r25))])])
 (λr26=>ifO (zH EE 6 46 r26)
 (ifO (bne (zC r26) 0)
 (some (.val (eI (zC r26))))
 (ifO (Option.isSome (Yz (eI (zC (nth v3 (Int.toNat v5)))) (.bool true) v14 v15))
 ((qN v0 v1 v2 v3 v4 (IntKind.wrap .i64 (v5+(1:Int))) v6 v7 v8 v9 v10 v11 v12 v13 (Prod.fst (Option.getD (Yz (eI (zC (nth v3 (Int.toNat v5)))) (.bool true) v14 v15) (Prod.mk [] []))) (Prod.snd (Option.getD (Yz (eI (zC (nth v3 (Int.toNat v5)))) (.bool true) v14 v15) (Prod.mk [] [])))))
 (none)))
 (none))
 (λ_ _=>none))
 (none))
 (λ_ _=>none)))
 (none))
 (none))
 (λ_ _=>none)))
 (none))
 (none))
 ((zAE v0 v1 (IntKind.wrap .i64 (v2+(1:Int))) v6 v7 v8 v9 v10 v11 v12 v13 v14 v15)) :=
 (zk 170 1 _).trans (by kernel_rfl)
theorem C170(x0 x1:DV):zB 170 [x0,x1] =
 ifO (zS (zH EE 6) [88,95] [x0,x1])
 ((zAE (elems x1) (((List.length (elems x1)):Nat):Int) (0:Int) (elems (nth (flds x0) 0)) (zC (nth (flds x0) 1)) (ze (nth (flds (nth (flds x0) 2)) 0)) (elems (nth (flds (nth (flds x0) 2)) 1)) (elems (nth (flds (nth (flds x0) 2)) 2)) (elems (nth (flds (nth (flds x0) 3)) 0)) (zC (nth (flds (nth (flds x0) 3)) 1)) (flds (nth (flds x0) 4)) [] []))
 (none) :=
 (zM (f:=170) (by kernel_rfl) (by kernel_rfl) (by kernel_rfl) [x0,x1]).trans (by kernel_rfl)
end Go.Am
namespace Go.Am
open Go.Proofs
open Go
variable[OO]
def trs(n:Nat):List DV:=List.replicate n (.bool true)
theorem scal(a b:Int):jy (eI a) (eI b)=some (a == b):=by kernel_rfl
theorem zEx(i:Int):∀ks:List Int,ja (eI i) (ks.map eI) (trs ks.length)=some (if i∈ks then some (.bool true) else none)
 | []=>rfl
 | a :: ks=>by
  show bnd (jy (eI i) (eI a)) (λb=>match b with | true=>some (some (.bool true)) | false=>ja (eI i) (ks.map eI) (trs ks.length))=_
  rw[scal,zEx i ks];by_cases h:i=a
  ·subst h;simp
  ·have:(i == a)=false:=beq_eq_false_iff_ne.2 h;simp[this,h]
theorem zJU(i:Int):∀ks:List Int,i ∉ ks->Yz (eI i) (.bool true) (ks.map eI) (trs ks.length)=some ((ks++[i]).map eI,trs (ks++[i]).length)
 | [],_=>rfl
 | a :: ks,h=>by
  simp only[List.mem_cons,not_or] at h;show bnd (jy (eI i) (eI a)) (λb=>match b with | true=>some (eI i :: ks.map eI,.bool true :: trs ks.length) | false=>bnd (Yz (eI i) (.bool true) (ks.map eI) (trs ks.length)) λr=>some (eI a :: r.1,.bool true :: r.2))=_
  rw[scal,zJU i ks h.2,beq_eq_false_iff_ne.2 h.1];rfl
def QG(N:Int)(ks:List Int)(i:Int):Int:=zO [if i<0\/i>=N then 10 else 0,if i∈ks then 9 else 0]
def Jy(N:Int):List Int->List Int->Int×List Int
 | ks,[]=>(0,ks)
 | ks,i :: g=>if QG N ks i=0 then Jy N (ks++[i]) g else (QG N ks i,ks)
def zAD(N:Int):List Int->List (List Int)->Int
 | ks,[]=>if (ks.length:Int)=N then 0 else 2
 | ks,g :: gs=>if (Jy N ks g).1=0 then zAD N (Jy N ks g).2 gs else (Jy N ks g).1
section
variable(p:Pn)(gs:List (List Int))(hl:gs.length<=1000)
include hl
theorem l170_1(j:Nat)(g:List Int)(hg:g.length<=1000):∀k,k<=g.length->∀ks:List Int,qN (gs.map λg=>.sl 1 (g.map eI)) gs.length j (g.map eI) g.length k (p.ps.map ePt) p.least p.w.rule (p.w.d.map eI) (p.w.w.map eI) (p.c.p.map eI) p.c.cut (p.r.map jj) (ks.map eI) (trs ks.length) =
  if (Jy p.ps.length ks (g.drop k)).1=0 then zAE (gs.map λg=>.sl 1 (g.map eI)) gs.length (IntKind.i64.wrap ((j:Int)+1)) (p.ps.map ePt) p.least p.w.rule (p.w.d.map eI) (p.w.w.map eI) (p.c.p.map eI) p.c.cut (p.r.map jj) ((Jy p.ps.length ks (g.drop k)).2.map eI) (trs (Jy p.ps.length ks (g.drop k)).2.length)
  else some (.val (eI (Jy p.ps.length ks (g.drop k)).1)):=by
 refine down (P:=λk=>∀ks:List Int,qN (gs.map λg=>.sl 1 (g.map eI)) gs.length j (g.map eI) g.length k (p.ps.map ePt) p.least p.w.rule (p.w.d.map eI) (p.w.w.map eI) (p.c.p.map eI) p.c.cut (p.r.map jj) (ks.map eI) (trs ks.length) =
  if (Jy p.ps.length ks (g.drop k)).1=0 then zAE (gs.map λg=>.sl 1 (g.map eI)) gs.length (IntKind.i64.wrap ((j:Int)+1)) (p.ps.map ePt) p.least p.w.rule (p.w.d.map eI) (p.w.w.map eI) (p.c.p.map eI) p.c.cut (p.r.map jj) ((Jy p.ps.length ks (g.drop k)).2.map eI) (trs (Jy p.ps.length ks (g.drop k)).2.length)
  else some (.val (eI (Jy p.ps.length ks (g.drop k)).1))) g.length ?_ ?_
 ·intro ks;rw[qM];simp[Jy]
 ·intro k hk ih ks;have e1:(k:Int)<g.length:=by omega
  rw[zi g k hk];generalize hi:g[k]=i;have hf:=zEx i ks;have ha:zB 169 [.bool (decide (i>=(p.ps.length:Int))),eI 10]=some (.val (eI (if i>=(p.ps.length:Int) then 10 else 0))):=by rw[c169];by_cases h:i>=(p.ps.length:Int) <;> simp[h]
  by_cases hin:i∈ks
  ·have hs:¬QG p.ps.length ks i=0:=by unfold QG;rw[if_pos hin];by_cases h:i<0\/i>=(p.ps.length:Int) <;> simp[h,zO]
   rw[if_pos hin] at hf;simp only[Jy,if_neg hs];rw[qM];simp only[zX,jE];by_cases h1:i<0
   ·simp[e1,hk,zP _ g k hk,hi,hf,h1,QG,hin,zO]
   ·by_cases h2:i>=(p.ps.length:Int)
    ·simp[e1,hk,zP _ g k hk,hi,hf,h1,h2,QG,hin,zO]
    ·simp[e1,hk,zP _ g k hk,hi,hf,h1,h2,QG,hin,zO]
  ·have hp:=zJU i ks hin;rw[if_neg hin] at hf;by_cases h1:i<0
   ·have hs:¬QG p.ps.length ks i=0:=by simp[QG,h1,zO]
    simp only[Jy,if_neg hs];rw[qM];simp only[zX,jE];simp[e1,hk,zP _ g k hk,hi,hf,h1,QG,zO]
   ·by_cases h2:i>=(p.ps.length:Int)
    ·have hs:¬QG p.ps.length ks i=0:=by simp[QG,h2,zO]
     simp only[Jy,if_neg hs];rw[qM];simp only[zX,jE];simp[e1,hk,zP _ g k hk,hi,hf,h1,h2,QG,zO]
    ·have hs:QG p.ps.length ks i=0:=by simp[QG,h1,h2,hin,zO]
     have ih':=ih (ks++[i]);simp only[Jy,if_pos hs];rw[qM,<-ih'];simp only[zX,jE];simp[e1,hk,zP _ g k hk,hi,hf,h1,h2,hp,zO,wr ((k:Int)+1) (by omega)]
theorem l170_0(hg:∀g∈gs,g.length<=1000):∀j,j<=gs.length->∀ks:List Int,zAE (gs.map λg=>.sl 1 (g.map eI)) gs.length j (p.ps.map ePt) p.least p.w.rule (p.w.d.map eI) (p.w.w.map eI) (p.c.p.map eI) p.c.cut (p.r.map jj) (ks.map eI) (trs ks.length) =
  some (.val (eI (zAD p.ps.length ks (gs.drop j)))):=by
 refine down (P:=λj=>∀ks:List Int,zAE (gs.map λg=>.sl 1 (g.map eI)) gs.length j (p.ps.map ePt) p.least p.w.rule (p.w.d.map eI) (p.w.w.map eI) (p.c.p.map eI) p.c.cut (p.r.map jj) (ks.map eI) (trs ks.length) =
  some (.val (eI (zAD p.ps.length ks (gs.drop j))))) gs.length ?_ ?_
 ·intro ks;rw[zFV];simp only[zX,Int.lt_irrefl,if_false,List.drop_length,zAD,List.length_map];rw[show zB 169 [.bool (bne (ks.length:Int) (p.ps.length:Int)),.int .i64 2]=some (.val (eI (if (ks.length:Int)=p.ps.length then 0 else 2))) from(c169 _ _).trans (by
   by_cases h:(ks.length:Int)=p.ps.length
   ·rw[h];simp
   ·have:bne (ks.length:Int) (p.ps.length:Int)=true:=by simpa[bne] using h
    rw[this,if_neg h];rfl)]
  simp
 ·intro j hj ih ks;have e1:(j:Int)<gs.length:=by omega
  rw[zi gs j hj];have h1:=l170_1 p gs hl j gs[j] (hg _ (List.getElem_mem hj)) 0 (Nat.zero_le _) ks;have hw:IntKind.i64.wrap ((j:Int)+1)=((j+1:Nat):Int):=by rw[wr ((j:Int)+1) (by omega)];rfl
  rw[List.drop_zero,hw,ih] at h1;rw[zFV];simp only[zX,zAD];simp only[e1,hj,zP _ gs j hj,h25,zF,zQ,List.length_map,if_true,Int.natCast_nonneg,and_self,Int.toNat_natCast];refine(show _=qN _ _ _ _ _ ((0:Nat):Int) _ _ _ _ _ _ _ _ _ _ from rfl).trans (h1.trans ?_)
  split <;> rfl
end
theorem c170(p:Pn)(hr:zv p.r)(gs:List (List Int))(hl:gs.length<=1000)(hg:∀g∈gs,g.length<=1000):zB 170 [ePn p,.sl 1 (gs.map λg=>.sl 1 (g.map eI))]=some (.val (eI (zAD p.ps.length [] gs))):=by rw[C170];simp only[zL,zN,hPn p hr,h95,Bool.and_self,zF,zV,zY,zb,zq,zy,QW,zQ,zK,zl,List.length_map];exact l170_0 p gs hl hg 0 (Nat.zero_le _) []
end Go.Am
namespace Go.Am
open Go.Proofs
open Go Go.RowKit
theorem eGs_inj{a b:List (List Int)}(h:eGs a=eGs b):a=b:=qx (λ_ _ h=>zBP (QP h)) (QP h)
def T50(ds:List DV)(r:CR):Prop :=
 (∃p gs n,@V50 oo2 p gs n/\ds=[ePn p,eGs gs,eI n]/\r=.val (.tup [eI (qq p gs n).1,eI (qq p gs n).2])) \/
 ((¬∃p gs n,@V50 oo2 p gs n/\ds=[ePn p,eGs gs,eI n])/\@zB oo2 50 ds=some r)
theorem at50(ds:List DV)(r:CR):T50 ds r->Qk PP EE 50 ds r:=by
 rintro (⟨p,gs,n,h,rfl,rfl⟩ | ⟨_,h⟩)
 ·exact @at50v oo2 knW2 knS2 env2 p gs n h
 ·exact jg env2 XX 50 ds r h
noncomputable def orc3(f:FuncId):Option (List DV->Option CR):=if f=50 then some (orT T50) else orc2 f
theorem orc3_ok(f:FuncId)(h:(orcF f).isNone=true):orc3 f=none:=by
 unfold orc3;split
 ·rename_i e;subst e;simp[orcF] at h
 ·exact orc2_ok f h
noncomputable abbrev oo3:OO:=⟨orc3,orc3_ok⟩
theorem env3:EnvOKo PP EE oo3.o:=by
 refine⟨zAU _ _ _,Jt,λf fn h=>E0_F _ _ _ f fn h,λf g h=>?_⟩
 have h:orc3 f=some g:=h;unfold orc3 at h;split at h
 ·rename_i e;subst e;injection h with h
  subst h;exact zBB at50
 ·exact env2.orc f g h
theorem o3{f:FuncId}(h:f≠50):oo3.o f=orc2 f:=if_neg h
theorem o350:oo3.o 50=some (orT T50):=(if_pos rfl:orc3 50=some (orT T50))
theorem v50S:@V50 oo2 pS gS 2 :=
 @V50.mk oo2 pS gS 2 okS (by decide) ((@c170 oo2 pS okS gS (by decide) (by decide)).trans (by rw[show zAD pS.ps.length [] gS=0 by decide])) (by decide) (by decide) (by decide) (by decide) (by decide)
theorem sortS1:j5 [0,1]=[0,1]:=List.mergeSort_of_pairwise (by decide)
theorem sortS2:j5 [2]=[2]:=List.mergeSort_of_pairwise (by decide)
theorem boundS:qq pS gS 2=(307200,0):=by
 have e:zEB (bstP pS) gS.reverse 2=some 307200:=by show zEC (zEC (zEB (bstP pS) []) (bstP pS (j5 [0,1])) 3) (bstP pS (j5 [2])) 2 2=some 307200;rw[sortS1,sortS2];kernel_rfl
 unfold qq;rw[e]
end Go.Am
namespace Go.Am
open Go.Proofs
open Go Go.RowKit
theorem law_calls[OO](hE:EnvOKo PP EE OO.o){f:FuncId}{ds:List DV}(h:zB f ds=some (.val (.bool true))){W:World}{vals:List Value}(hg:GlobOK EE (λb=>b<W.heap.size) W)(hlen:vals.length=ds.length)
  (hv:∀i (h:i<ds.length) (h':i<vals.length),RV EE.L (λb=>b<W.heap.size) W ds[i] vals[i]):Calls PP f vals.toArray W λe W'=>e=.returned (.bool true)/\Below W.heap.size W W':=by
 have key:=(jg hE XX f ds _ h).2 _ W vals hg (λ_ h=>h) hlen hv
 refine key.mono λe W' ⟨v,he,S',hB,_,_,_,hr⟩=>?_
 subst he;exact⟨congrArg _ (RV.bool (E:=EE) hr),hB⟩
end Go.Am
namespace Go.Am
open Go.Proofs
open Go
def in64(m:Int):Prop:=-9223372036854775808<=m/\m<=9223372036854775807
theorem lst{α:Type}(e:α->DV)(Q:α->Prop)(P:DV->Prop)(h:∀y,P y->∃a,y=e a/\Q a):∀xs:List DV,(∀y∈xs,P y)->∃l:List α,xs=l.map e/\∀a∈l,Q a
 | [],_=>⟨[],rfl,λa h=>by simp at h⟩
 | x :: xs,hx=>by
  obtain⟨a,h1,h2⟩:=h x (hx x (by simp))
  obtain⟨l,h3,h4⟩:=lst e Q P h xs λy hy=>hx y (by simp[hy])
  refine⟨a :: l,by rw[h1,h3];rfl,λb hb=>?_⟩
  rcases List.mem_cons.1 hb with rfl | hb
  ·exact h2
  ·exact h4 b hb
theorem d3{n:Nat}{x:DV}(h:DT EE (n+1) 3 x):∃m,x=eI m/\in64 m:=by
 obtain⟨m,h1,h2,h3⟩:=(show DT EE (n+1) 3 x=(∃m:Int,x=DV.int .i64 m/\IntKind.i64.min<=m/\m<=IntKind.i64.max) by kernel_rfl) ▸ h
 exact⟨m,h1,h2,h3⟩
theorem d9{n:Nat}{x:DV}(h:DT EE (n+1) 9 x):∃s,x=.str s:=(show DT EE (n+1) 9 x=(∃s:ByteArray,x=DV.str s) by kernel_rfl) ▸ h
theorem d25{n:Nat}{x:DV}(h:DT EE (n+2) 25 x):∃l:List Int,x=.sl 1 (l.map eI)/\∀m∈l,in64 m:=by
 obtain⟨ed,xs,h1,h2,h3⟩:=(show DT EE (n+2) 25 x=(∃(ed:TD) (xs:List DV),EE.D 3=some ed/\x=DV.sl ed.size xs/\∀y∈xs,DT EE (n+1) 3 y) by kernel_rfl) ▸ h
 have e:EE.D 3=some td3:=by kernel_rfl
 rw[e] at h1;injection h1 with h1
 subst h1;obtain⟨l,rfl,hl⟩:=lst eI in64 _ (λy hy=>d3 hy) xs h3
 exact⟨l,h2,hl⟩
theorem fld2{x:List DV}(h:x.length=2):∃a b,x=[a,b]:=by match x,h with | [a,b],_=>exact⟨a,b,rfl⟩
theorem fld3{x:List DV}(h:x.length=3):∃a b c,x=[a,b,c]:=by match x,h with | [a,b,c],_=>exact⟨a,b,c,rfl⟩
theorem fld4{x:List DV}(h:x.length=4):∃a b c d,x=[a,b,c,d]:=by match x,h with | [a,b,c,d],_=>exact⟨a,b,c,d,rfl⟩
theorem d141{n:Nat}{x:DV}(h:DT EE (n+2) 141 x):∃p:Pt,x=ePt p/\in64 p.x/\in64 p.y:=by
 obtain⟨xs,h1,h2,h3⟩:=(show DT EE (n+2) 141 x=(∃xs:List DV,x=DV.agg 1 xs/\xs.length=([3,3]:List Nat).length/\∀(i:Nat) (u:TypeId) (y:DV),([3,3]:List Nat)[i]? = some u->xs[i]? = some y->DT EE (n+1) u y) by kernel_rfl) ▸ h
 obtain⟨a,b,rfl⟩:=fld2 h2;obtain⟨p,rfl,hp⟩:=d3 (h3 0 3 a rfl rfl);obtain⟨q,rfl,hq⟩:=d3 (h3 1 3 b rfl rfl);exact⟨⟨p,q⟩,h1,hp,hq⟩
theorem d143{n:Nat}{x:DV}(h:DT EE (n+3) 143 x):∃t:Tb,x=eTb t/\in64 t.at'.x/\in64 t.at'.y:=by
 obtain⟨xs,h1,h2,h3⟩:=(show DT EE (n+3) 143 x=(∃xs:List DV,x=DV.agg 9 xs/\xs.length=([9,141]:List Nat).length/\∀(i:Nat) (u:TypeId) (y:DV),([9,141]:List Nat)[i]? = some u->xs[i]? = some y->DT EE (n+2) u y) by kernel_rfl) ▸ h
 obtain⟨a,b,rfl⟩:=fld2 h2;obtain⟨s,rfl⟩:=d9 (h3 0 9 a rfl rfl);obtain⟨p,rfl,hp⟩:=d141 (h3 1 141 b rfl rfl);exact⟨⟨s,p⟩,h1,hp⟩
theorem d22{n:Nat}{x:DV}(h:DT EE (n+4) 22 x):∃l:List Tb,x=.sl 3 (l.map eTb)/\∀t∈l,in64 t.at'.x/\in64 t.at'.y:=by
 obtain⟨ed,xs,h1,h2,h3⟩:=(show DT EE (n+4) 22 x=(∃(ed:TD) (xs:List DV),EE.D 143=some ed/\x=DV.sl ed.size xs/\∀y∈xs,DT EE (n+3) 143 y) by kernel_rfl) ▸ h
 have e:EE.D 143=some td143:=by kernel_rfl
 rw[e] at h1;injection h1 with h1
 subst h1;obtain⟨l,rfl,hl⟩:=lst eTb (λt=>in64 t.at'.x/\in64 t.at'.y) _ (λy hy=>d143 hy) xs h3
 exact⟨l,h2,hl⟩
theorem d24{n:Nat}{x:DV}(h:DT EE (n+5) 24 x):∃s:Si,x=eSi s/\in64 s.least/\∀t∈s.tb,in64 t.at'.x/\in64 t.at'.y:=by
 obtain⟨xs,h1,h2,h3⟩:=(show DT EE (n+5) 24 x=(∃xs:List DV,x=DV.agg 0 xs/\xs.length=([9,3,22]:List Nat).length/\∀(i:Nat) (u:TypeId) (y:DV),([9,3,22]:List Nat)[i]? = some u->xs[i]? = some y->DT EE (n+4) u y) by kernel_rfl) ▸ h
 obtain⟨a,b,c,rfl⟩:=fld3 h2;obtain⟨s,rfl⟩:=d9 (h3 0 9 a rfl rfl);obtain⟨m,rfl,hm⟩:=d3 (h3 1 3 b rfl rfl);obtain⟨l,rfl,hl⟩:=d22 (h3 2 22 c rfl rfl);exact⟨⟨s,m,l⟩,h1,hm,hl⟩
def in64W(w:Wk):Prop:=(∀m∈w.d,in64 m)/\∀m∈w.w,in64 m
theorem d27{n:Nat}{x:DV}(h:DT EE (n+3) 27 x):∃w:Wk,x=eWk w/\in64W w:=by
 obtain⟨xs,h1,h2,h3⟩:=(show DT EE (n+3) 27 x=(∃xs:List DV,x=DV.agg 0 xs/\xs.length=([9,25,25]:List Nat).length/\∀(i:Nat) (u:TypeId) (y:DV),([9,25,25]:List Nat)[i]? = some u->xs[i]? = some y->DT EE (n+2) u y) by kernel_rfl) ▸ h
 obtain⟨a,b,c,rfl⟩:=fld3 h2;obtain⟨s,rfl⟩:=d9 (h3 0 9 a rfl rfl);obtain⟨l,rfl,hl⟩:=d25 (h3 1 25 b rfl rfl);obtain⟨k,rfl,hk⟩:=d25 (h3 2 25 c rfl rfl);exact⟨⟨s,l,k⟩,h1,hl,hk⟩
theorem d29{n:Nat}{x:DV}(h:DT EE (n+3) 29 x):∃c:Cu,x=eCu c/\(∀m∈c.p,in64 m)/\in64 c.cut:=by
 obtain⟨xs,h1,h2,h3⟩:=(show DT EE (n+3) 29 x=(∃xs:List DV,x=DV.agg 1 xs/\xs.length=([25,3]:List Nat).length/\∀(i:Nat) (u:TypeId) (y:DV),([25,3]:List Nat)[i]? = some u->xs[i]? = some y->DT EE (n+2) u y) by kernel_rfl) ▸ h
 obtain⟨a,b,rfl⟩:=fld2 h2;obtain⟨l,rfl,hl⟩:=d25 (h3 0 25 a rfl rfl);obtain⟨k,rfl,hk⟩:=d3 (h3 1 3 b rfl rfl);exact⟨⟨l,k⟩,h1,hl,hk⟩
theorem d30{n:Nat}{x:DV}(h:DT EE (n+2) 30 x):∃l:List Int,x=jj l/\l.length=51/\∀m∈l,in64 m:=by
 obtain⟨xs,h1,h2,h3⟩:=(show DT EE (n+2) 30 x=(∃xs:List DV,x=DV.agg 2 xs/\xs.length=51/\∀y∈xs,DT EE (n+1) 3 y) by kernel_rfl) ▸ h
 obtain⟨l,rfl,hl⟩:=lst eI in64 _ (λy hy=>d3 hy) xs h3
 exact⟨l,h1,by simpa using h2,hl⟩
theorem d32{n:Nat}{x:DV}(h:DT EE (n+3) 32 x):∃r:List (List Int),x=eRo r/\zv r/\∀l∈r,∀m∈l,in64 m:=by
 obtain⟨xs,h1,h2,h3⟩:=(show DT EE (n+3) 32 x=(∃xs:List DV,x=DV.agg 3 xs/\xs.length=8/\∀y∈xs,DT EE (n+2) 30 y) by kernel_rfl) ▸ h
 obtain⟨r,rfl,hr⟩:=lst jj (λl=>l.length=51/\∀m∈l,in64 m) _ (λy hy=>d30 hy) xs h3
 exact⟨r,h1,⟨by simpa using h2,λl hl=>(hr l hl).1⟩,λl hl=>(hr l hl).2⟩
structure In64F(f:Fm):Prop where
 least:in64 f.s.least
 tb:∀t∈f.s.tb,in64 t.at'.x/\in64 t.at'.y
 w:in64W f.w
 p:∀m∈f.c.p,in64 m
 cut:in64 f.c.cut
 r:∀l∈f.r,∀m∈l,in64 m
theorem d34{n:Nat}{x:DV}(h:DT EE (n+6) 34 x):∃f:Fm,x=eFm f/\zv f.r/\In64F f:=by
 obtain⟨xs,h1,h2,h3⟩:=(show DT EE (n+6) 34 x=(∃xs:List DV,x=DV.agg 4 xs/\xs.length=([24,27,29,32]:List Nat).length/\∀(i:Nat) (u:TypeId) (y:DV),([24,27,29,32]:List Nat)[i]? = some u->xs[i]? = some y->DT EE (n+5) u y) by kernel_rfl) ▸ h
 obtain⟨a,b,c,d,rfl⟩:=fld4 h2;obtain⟨s,rfl,hs,ht⟩:=d24 (h3 0 24 a rfl rfl);obtain⟨w,rfl,hw⟩:=d27 (h3 1 27 b rfl rfl);obtain⟨cu,rfl,hc,hcut⟩:=d29 (h3 2 29 c rfl rfl);obtain⟨r,rfl,hr,hr'⟩:=d32 (h3 3 32 d rfl rfl);exact⟨⟨s,w,cu,r⟩,h1,hr,⟨hs,ht,hw,hc,hcut,hr'⟩⟩
abbrev eSp(a b c d:Int):DV:=.agg 5 [eI a,eI b,eI c,eI d]
theorem d72{n:Nat}{x:DV}(h:DT EE (n+2) 72 x):∃a b c d:Int,x=eSp a b c d/\in64 a/\in64 b/\in64 c/\in64 d:=by
 obtain⟨xs,h1,h2,h3⟩:=(show DT EE (n+2) 72 x=(∃xs:List DV,x=DV.agg 5 xs/\xs.length=([3,3,3,3]:List Nat).length/\∀(i:Nat) (u:TypeId) (y:DV),([3,3,3,3]:List Nat)[i]? = some u->xs[i]? = some y->DT EE (n+1) u y) by kernel_rfl) ▸ h
 obtain⟨a,b,c,d,rfl⟩:=fld4 h2;obtain⟨a,rfl,ha⟩:=d3 (h3 0 3 a rfl rfl);obtain⟨b,rfl,hb⟩:=d3 (h3 1 3 b rfl rfl);obtain⟨c,rfl,hc⟩:=d3 (h3 2 3 c rfl rfl);obtain⟨d,rfl,hd⟩:=d3 (h3 3 3 d rfl rfl);exact⟨a,b,c,d,h1,ha,hb,hc,hd⟩
end Go.Am
namespace Go.Am
open Go.Proofs
open Go
variable[OO]
def S91_0a(v0:List DV)(v1 v2:Int):St :=
 zx 19 [(0,(.d (.sl 1 v0))),(1,(.d (eI v1))),(5,(.d (eI v2)))] []
noncomputable def zIf(v0:List DV)(v1 v2:Int):Option CR:=goQ 91 0 (S91_0a v0 v1 v2)
theorem zHS(v0:List DV)(v1 v2:Int):zIf v0 v1 v2 =
 ifO (decide (v2<v1))
 (zI (zB 172 [(.sl 1 v0),(eI v2)])
 (λr0=>ifO (zH EE 6 4 r0)
 (ifO (!(YI r0))
 (some (.val (.bool false)))
 ((zIf v0 v1 (IntKind.wrap .i64 (v2+(1:Int))))))
 (none))
 (λ_ _=>none))
 (some (.val (.bool true))) :=
 (zk 91 0 _).trans (by kernel_rfl)
theorem C91(x0 x1:DV):zB 91 [x0,x1] =
 ifO (zS (zH EE 6) [25,3] [x0,x1])
 (ifO (bne (((List.length (elems x0)):Nat):Int) (zC x1))
 (some (.val (.bool false)))
 ((zIf (elems x0) (zC x1) (0:Int))))
 (none) :=
 (zM (f:=91) (by kernel_rfl) (by kernel_rfl) (by kernel_rfl) [x0,x1]).trans (by kernel_rfl)
end Go.Am
namespace Go.Am
open Go.Proofs
open Go
variable[OO]
def YV(n:Int):List Int->Int
 | []=>n
 | q :: r=>YV (if q>0 then n+1 else n) r
def zIc(n:Int):List (List Int)->Int
 | []=>n
 | row :: r=>zIc (YV n row) r
theorem zDt:∀(l:List Int) (n:Int),n<=YV n l/\YV n l<=n+l.length
 | [],n=>by simp[YV]
 | q :: l,n=>by
  have:=zDt l (if q>0 then n+1 else n)
  simp only[YV,List.length_cons];by_cases h:q>0
  ·simp only[h,if_true] at this ⊢;omega
  ·simp only[h,if_false] at this ⊢;omega
theorem l128_1(r:List (List Int))(s:Nat)(hs:s<r.length)(h8:r.length=8)(hrow:r[s].length=51):∀k,k<=r[s].length->∀n:Int,0<=n->n<=s * 51+k->zBV n s k (r.map jj)=zAG (YV n (r[s].drop k)) (IntKind.i64.wrap ((s:Int)+1)) (r.map jj):=by
 refine down (P:=λk=>∀n:Int,0<=n->n<=s * 51+k->zBV n s k (r.map jj)=zAG (YV n (r[s].drop k)) (IntKind.i64.wrap ((s:Int)+1)) (r.map jj)) r[s].length ?_ ?_
 ·intro n h0 hn;rw[zFt];simp only[zX];rw[if_neg (by omega)]
  simp[YV]
 ·intro k hk ih n h0 hn;have e1:(k:Int)<=50:=by omega
  have e2:(0:Int)<=(s:Int)/\(s:Int)<8:=by omega
  have e3:(0:Int)<=(k:Int)/\(k:Int)<51:=by omega
  rw[zFt,zi r[s] k hk];simp only[zX];rw[if_pos e1,if_pos e2,if_pos e3];simp only[Int.toNat_natCast,Yw _ _ _ _ hs,zF,zP _ r s hs,Yw _ _ _ _ hk,zV,zP _ r[s] k hk,h3,zK];rw[wr ((k:Int)+1) (by omega),wr (n+1) (by omega),show((k:Int)+1)=((k+1:Nat):Int) by omega]
  by_cases hq:r[s][k]>0
  ·rw[if_pos hq,ih (n+1) (by omega) (by omega)]
   simp only[YV,if_pos hq]
  ·rw[if_neg hq,ih n h0 (by omega)]
   simp only[YV,if_neg hq]
theorem l128_0(r:List (List Int))(h:zv r):∀s,s<=r.length->∀n:Int,0<=n->n<=s * 51->zAG n s (r.map jj)=some (.val (eI (zIc n (r.drop s)))):=by
 have hl:=h.1;refine down (P:=λs=>∀n:Int,0<=n->n<=s * 51->zAG n s (r.map jj)=some (.val (eI (zIc n (r.drop s))))) r.length ?_ ?_
 ·intro n h0 hn;rw[zFu];simp only[zX];rw[if_neg (by omega)]
  simp[zIc]
 ·intro s hs ih n h0 hn;have hrow:=h.2 r[s] (List.getElem_mem hs);have e1:(s:Int)<8:=by omega
  have hb:=zDt r[s] n;rw[zFu,zi r s hs];simp only[zX];rw[if_pos e1];have:=l128_1 r s hs hl hrow 0 (Nat.zero_le _) n h0 (by omega)
  rw[show((0:Nat):Int)=0 from rfl] at this
  rw[this,wr ((s:Int)+1) (by omega),show((s:Int)+1)=((s+1:Nat):Int) by omega,List.drop_zero,ih _ (by omega) (by omega)]
  rfl
theorem c128(r:List (List Int))(h:zv r):zB 128 [eRo r]=some (.val (eI (zIc 0 r))):=by
 rw[C128];simp only[zL,zN,h32,List.length_map,h.1,decide_true,Bool.and_self,zF,zV];have:=l128_0 r h 0 (Nat.zero_le _) 0 (by omega) (by omega)
 simpa using this
theorem c105(c:Cu):zB 105 [eCu c]=some (.val (.bool (decide ((c.p.length:Int)<=52)))):=by rw[C105];simp
def zGI(f:Fm)(n:Int):Bool:=if zD4 f.s n then (if zGH f.w then (if (f.c.p.length:Int)<=52 then decide (zIc 0 f.r<=6) else false) else false) else false
theorem c21(f:Fm)(h:zv f.r)(n:Int)(hn:n<=100):zB 21 [eFm f,eI n]=some (.val (.bool (zGI f n))):=by
 rw[C21];simp only[zL,zN,hFm' f h,h3,Bool.and_self,zF,zV,zY,zb,zq,zy,zl,zK,zQ,c62 f.s n hn];unfold zGI;cases hS:zD4 f.s n with
 | false=>simp
 | true =>
  simp only[zJ,h4,zF,z8,c63 f.w];cases hW:zGH f.w with
  | false=>simp
  | true =>
   simp only[zJ,h4,zF,z8,c105 f.c];by_cases hc:(f.c.p.length:Int)<=52
   ·simp[hc,c128 f.r h];exact decide_eq_decide.2 Iff.rfl
   ·simp[hc]
theorem shortF_len{f:Fm}{n:Int}(h:zGI f n=true):((f.s.tb.length:Int)<=n\/f.s.tb.length=65)/\f.w.d.length<=33/\f.w.w.length<=33/\f.c.p.length<=52:=by
 unfold zGI at h;split at h
 ·rename_i h1;split at h
  ·rename_i h2;split at h
   ·rename_i h3;simp only[zGH,Bool.and_eq_true] at h2;exact⟨shortS_len h1,zEb h2.1.2,zEb h2.2,by omega⟩
   ·cases h
  ·cases h
 ·cases h
theorem c34(f:Fm)(h:zv f.r)(h1:f.s.tb.length<=100000)(h2:f.w.d.length<=100000)(h3':f.w.w.length<=100000)(h4':f.c.p.length<=100000):zB 34 [eFm f]=some (.val (eFm f)):=by rw[C34];simp only[zL,zN,hFm' f h,Bool.and_self,zF,zV,zY,zb,zq,zy,zl,zK,zQ,c65 f.s h1,c67 f.w (by omega) (by omega),c107 f.c (by omega),zJ,h58,h59,h60]
theorem farm_ok{f:Fm}(h:J5 f=0)(hr:zv f.r):okFm f:=(jn h hr).1
theorem zCV(f:Fm)(sec v:Int):(zBe f sec v).length=f.s.tb.length:=by
 unfold zBe;split
 ·simp
 ·rw[zCU,jp]
end Go.Am
namespace Go.Am
open Go.Proofs
open Go
variable[OO]
def txtN(n:Nat):ByteArray:=bs [48+n]
theorem zDX(least:Int):∀(x y prev:List Tb),JW least prev (x++y)=0->JW least prev x=0
 | [],y,prev,_=>rfl
 | t :: x,y,prev,h=>by
  rw[List.cons_append,JW] at h;rw[JW];generalize zO [if jO t.name then 0 else 8,ptE t.at',if qw t.name (prev.map (·.name)) then 9 else 0]=E at h ⊢
  generalize (prev.any λo=>decide (js t.at' o.at'<least * least))=b at h ⊢
  by_cases h1:E≠0
  ·rw[if_pos h1] at h;exact absurd h h1
  ·rw[if_neg h1] at h ⊢;cases b with
   | true=>cases h
   | false=>exact zDX least x y _ h
end Go.Am
namespace Go.Am
open Go.Proofs
open Go Go.RowKit Go.Proofs
def clone3_ren:Go.Shelf.Ren:=⟨λ| 41=>267 | n=>n,λ| 22=>56 | 23=>176 | 4=>4 | n=>n,λ| n=>n⟩
theorem zAq:Go.Proofs.SlLaysE0.n41 Tryz.prog clone3_ren:={
 mixed:=by kernel_rfl
 f41:=⟨Tryz.f267.name,by decide,Tryz.func267.trans (congrArg some (by kernel_rfl))⟩
 t4:=Tryz.underlying4
 a4:=Tryz.isAgg4
 z4:=Tryz.sizeOf4
 v4:=Tryz.zeroValue4
 t22:=Tryz.underlying56
 a22:=Tryz.isAgg56
 z22:=Tryz.sizeOf56
 v22:=Tryz.zeroValue56 }
section
open Go.Shelf
variable{P:Program}{ρ:Ren}
set_option maxHeartbeats 2000000 in
set_option maxRecDepth 100000 in
theorem zI9(L:SlLaysE0.n41 P ρ)(i0:TypeInfo)(z:Value)(hi:P.info? (ρ.t 23)=some i0)(hz0:i0.zero=some z)(size:Nat)(z23:∀w,(Go.sizeOf (ρ.t 23)).run P w=.ok size w)(a:Addr)(c:Nat)(w:World) :
  Calls P (ρ.f 41) #[.slice (some a) 0 c] w λe w'=>∃ad,e=.returned (.slice (some ad) 0 0)/\Below w.heap.size w w':=by
 have mixed:=L.mixed;have t4:=L.t4;have a4:=L.a4;have z4:=L.z4;have v4:=L.v4;have t22:=L.t22;have a22:=L.a22;have z22:=L.z22;have v22:=L.v22;have q22:∀(w:World) (a:Option Addr) (n c n' c':Nat),(binOp .eql (ρ.t 22) (.slice a n c) (.slice none n' c')).run P w=.ok (.bool a.isNone) w:=λw a n c n' c'=>Lib.run_eql_slice_nil w _ _ a n c n' c' L.t22
 have u22:∀w,Sem.run P (underlying (ρ.t 22)) w=.ok (TypeDesc.slice (ρ.t 23)) w:=run_underlying t22;obtain⟨_,_,FG⟩:=L.f41
 go_enter FG,SlBodyN.n41_ntmps ρ
 go_wp2_with (at_builtin;refine Y2 rfl _ _ (ρ.t 22) rfl (ρ.t 23) i0 z t22 hi hz0 _ _ _ rfl rfl ?_)
 go_wp2;go_ret;exact⟨_,rfl,(Below.refl _ w).alloc (Nat.le_refl _) _⟩
end
def tbC(t:Tb):List Value:=[.string t.name,.int .i64 t.at'.x,.int .i64 t.at'.y]
theorem RD.tb{L:Nat->List Nat}{S:Nat->Prop}{w:World}{t:Tb}{cs:List Value}(h:RD L S w (eTb t) cs):cs=tbC t:=by
 cases h with
 | agg _ _ css hl h hz =>
  match css,hl with
  | [c0,c1],_ =>
   have e0:RD L S w (.str t.name) c0:=h 0 (by simp) (by simp)
   have e1:RD L S w (ePt t.at') c1:=h 1 (by simp) (by simp)
   have:=e0.str1;subst this;cases e1 with
   | agg _ _ css' hl' h' hz' =>
    match css',hl' with
    | [d0,d1],_ =>
     have f0:RD L S w (eI t.at'.x) d0:=h' 0 (by simp) (by simp)
     have f1:RD L S w (eI t.at'.y) d1:=h' 1 (by simp) (by simp)
     have:=f0.int1;subst this;have:=f1.int1;subst this;rfl
theorem rd_tb{S:Nat->Prop}{w:World}(t:Tb):RD EE.L S w (eTb t) (tbC t):=by
 have hp:=RD.agg (L:=EE.L) (S:=S) (w:=w) 1 [eI t.at'.x,eI t.at'.y] [[.int .i64 t.at'.x],[.int .i64 t.at'.y]] rfl (λi h h'=>by
  match i,h,h' with
  | 0,_,_=>exact .int _ _
  | 1,_,_=>exact .int _ _) (by kernel_rfl)
 exact RD.agg (L:=EE.L) (S:=S) (w:=w) 9 [.str t.name,ePt t.at'] [[.string t.name],[.int .i64 t.at'.x,.int .i64 t.at'.y]] rfl (λi h h'=>by
  match i,h,h' with
  | 0,_,_=>exact .str _
  | 1,_,_=>exact hp) (by kernel_rfl)
def zIY(l:List Tb):CR:=if l=[] then .val .nl else .fresh 3 (l.map eTb)
def T267(ds:List DV)(r:CR):Prop:=∃l:List Tb,l.length<=100000/\ds=[.sl 3 (l.map eTb)]/\r=zIY l
theorem zDG:∀l:List Tb,((l.map tbC).flatten).length=l.length * 3
 | []=>rfl
 | t :: l=>by have:=zDG l;simp only[List.map_cons,List.flatten_cons,List.length_append,List.length_cons,this];show 3+l.length * 3=_;omega
theorem zHJ:∀l:List Tb,∀u∈(l.map tbC).flatten,u.oneCell'=true
 | [],u,h=>by simp at h
 | t :: l,u,h=>by
  simp only[List.map_cons,List.flatten_cons,List.mem_append] at h;rcases h with h | h
  ·simp only[tbC,List.mem_cons,List.not_mem_nil,or_false] at h;rcases h with rfl | rfl | rfl <;> rfl
  ·exact zHJ l u h
theorem at267(ds:List DV)(r:CR):T267 ds r->Qk PP EE 267 ds r:=by
 rintro⟨l,hl,rfl,rfl⟩;refine⟨enters Tryz.func267 (by kernel_rfl) (by kernel_rfl),λS w vals hg hlt hlen hv=>?_⟩
 obtain⟨v,rfl⟩:∃v,vals=[v]:=List.length_eq_one_iff.1 hlen;have h0:=hv 0 (by simp) (by simp)
 simp only[List.getElem_cons_zero] at h0;obtain⟨a,c,css,rfl,hc,hcl,hel,hz,hm⟩:=RV.sl (E:=EE) h0;simp only[List.length_map] at hc hcl hel hm;have hcss:css=l.map tbC:=List.ext_getElem (by simpa using hcl) λi h1 h2=>by
  have:=hel i (by simpa using h2) h1
  rw[List.getElem_map] at this ⊢;exact RD.tb this
 obtain⟨i0,hi,hz0,hz1,hz2⟩:=info_parts (P:=Tryz.prog) (e:=176) (z:=.agg #[.string ⟨#[]⟩,.int .i64 0,.int .i64 0]) (size:=3) (bytes:=32) (by kernel_rfl)
 by_cases h:l=[]
 ·subst h;rw[show zIY []=.val .nl from rfl]
  cases a with
  | none=>exact(AnyE.slices_Clone_nil zAq 0 c w).mono λe w' ⟨h1,h2⟩=>⟨_,h1,by subst h2;exact Q9 hlt (Below.refl _ _) ⟨RD.nl none,rfl⟩⟩
  | some ad=>exact(zI9 zAq i0 _ hi hz0 3 Tryz.sizeOf176 ad c w).mono λe w' ⟨ad',h1,h2⟩=>⟨_,h1,Q9 hlt h2 ⟨RD.nl (some ad'),rfl⟩⟩
 ·rw[show zIY l=.fresh 3 (l.map eTb) from if_neg h]
  have h0:0<l.length:=List.length_pos_iff.2 h;obtain⟨ad,rfl,hsp,hS,hcell⟩:=hm h0;have ead:ad=⟨ad.block,ad.off,none⟩:=by rw[<-hsp]
  rw[hcss] at hcell;simp only[List.length_map];rw[ead];refine(AnyE.slices_Clone zAq i0 _ 3 32 hi hz0 hz1 hz2 rfl (by omega) Tryz.sizeOf176 ad.block ad.off l.length c (l.map tbC).flatten w (zDG l) (by unfold maxLen;omega) (by omega) (λj u hj=>?_) (zHJ l)).mono λe w' ⟨v',h1,hown,hne,hB⟩=>⟨v',h1,?_⟩
  ·have:=hcell j u hj;rw[jk hsp] at this;exact this
  ·rcases hown.2 with ⟨h2,_⟩ | ⟨g,cap,cur,rfl,hg1,hg2,hg3,hg4,hg5,hg6⟩
   ·exact absurd h2 hne
   ·refine⟨S,hB,λ_ h=>h,λ_ h=>.inl h,λb hb=>Nat.lt_of_lt_of_le (hlt b hb) hB.size,g,hg1,λhx=>absurd (hlt g hx) (by omega),λφ=>?_,λφ s hs=>?_⟩
    ·refine⟨cur,176,l.map tbC,hg2,by simp,λi h h'=>?_,λc hc=>?_,?_⟩
     ·simp only[List.getElem_map];exact rd_tb _
     ·obtain⟨m,_,rfl⟩:=List.mem_map.1 hc;rfl
     ·rw[List.prefix_iff_eq_take,zDG];exact hg6.symm
    ·refine⟨?_,rfl⟩;have:=RA.own (L:=EE.L) (S:=S) (φ:=φ) (w:=w') s 0 l.length 3 g cap hs hg3 ⟨cur,176,hg2,by omega⟩
     simpa[vcs,Value.cells] using this
end Go.Am
namespace Go.Am
open Go.Proofs
open Go
class KnT[OO]:Prop where
 clone:∀l:List Tb,l.length<=100000->zB 267 [.sl 3 (l.map eTb)]=some (zIY l)
variable[OO]
end Go.Am
namespace Go.Am
open Go.Proofs
open Go
class KnX[OO]:Prop where
 text:∀n:Nat,n<=9->zB 174 [eN n]=some (.val (.str (txtN n)))
variable[OO]
end Go.Am
namespace Go.Am
open Go.Proofs
open Go
variable[OO]
def S51_0b(v0 v1:List DV)(v2 v3:Int):St :=
 zx 19 [(3,(.own 16 0 (List.length v0) 1)),(6,(.d (.sl 1 v1))),(7,(.d (eI v2))),(8,(.d (eI v3)))] [(16,(.mk false (.dc 1 v0)))]
noncomputable def L51_0b(v0 v1:List DV)(v2 v3:Int):Option CR:=goQ 51 0 (S51_0b v0 v1 v2 v3)
theorem zHc(v0 v1:List DV)(v2 v3:Int):L51_0b v0 v1 v2 v3 =
 ifO (decide (v3<v2))
 (ifO (decide (((0:Int)<=v3)/\(v3<(((List.length v1):Nat):Int))))
 (ifO (zH EE 6 25 (nth v1 (Int.toNat v3)))
 (zI (zB 56 [(.sl 1 (elems (nth v1 (Int.toNat v3))))])
 (λr3=>ifO (zH EE 6 25 r3)
 (ifO (decide ((List.length v0)=(List.length v0)))
 (ifO (decide ((((2 * ((List.length v0)+1))+200) * 24)<=281474976710656))
 ((L51_0b (v0++[(.sl 1 (elems r3))]) v1 v2 (IntKind.wrap .i64 (v3+(1:Int)))))
 (none))
 (none))
 (none))
 (λ_ _=>none))
 (none))
 (none))
 (ifO (decide ((0+(List.length v0))<=(List.length v0)))
 (some (.val (.sl 1 (List.map (cnE EE 25) (List.take (List.length v0) (List.drop 0 v0))))))
 (none)) :=
 (zk 51 0 _).trans (by kernel_rfl)
end Go.Am
namespace Go.Am
open Go.Proofs
open Go
theorem any_mem(ks:List Int)(n:Int):(ks.any λx=>x == n)=decide (n∈ks):=by
 induction ks with
 | nil=>rfl
 | cons a l ih =>
  rw[List.any_cons,ih];by_cases h:a=n
  ·simp[h]
  ·have:¬n=a:=λe=>h e.symm
   simp[h,this]
variable[OO]
theorem l51b(gs:List (List Int))(hl:gs.length<=100000)(hg:∀g∈gs,g.length<=100000):∀k,k<=gs.length->L51_0b ((gs.take k).map λg=>DV.sl 1 (g.map eI)) (gs.map λg=>DV.sl 1 (g.map eI)) gs.length k=some (.val (.sl 1 (gs.map λg=>DV.sl 1 (g.map eI)))):=by
 apply down
 ·rw[zHc];simp only[Int.lt_irrefl,decide_false,zT,Nat.zero_add,Nat.le_refl,decide_true,zF,List.drop_zero,List.take_length,zIb]
 ·intro k hk ih;have e1:(k:Int)<gs.length:=by omega
  have e0:(0:Int)<=(k:Int):=by omega
  have hm:min k gs.length=k:=by omega
  have e2:(2 * (k+1)+200) * 24<=281474976710656:=by omega
  have e56:=c56 gs[k] (by have:=hg _ (List.getElem_mem hk);omega)
  rw[<-ih,zHc];simp only[List.length_map,List.length_take,hm,e1,e0,e2,and_self,decide_true,zF,Int.toNat_natCast,zP _ gs k hk,h25,zQ,e56,zJ];rw[wr ((k:Int)+1) (by omega),List.take_succ_eq_append_getElem hk,List.map_append]
  rfl
theorem l172(ks:List Int)(hl:ks.length<=100000)(n:Int):∀i,i<=ks.length->zFU (ks.map eI) n i=some (.val (.bool ((ks.drop i).any λx=>x == n))):=by
 apply down
 ·rw[zFT];simp only[List.length_map,Int.lt_irrefl,decide_false,zT,List.drop_length,List.any_nil]
 ·intro i hi ih;have e1:(i:Int)<ks.length:=by omega
  have e0:(0:Int)<=(i:Int):=by omega
  rw[zFT,zi ks i hi,List.any_cons];simp only[List.length_map,e1,e0,and_self,decide_true,zF,Int.toNat_natCast,zP _ ks i hi,h3,zK];rw[wr ((i:Int)+1) (by omega)]
  cases ks[i] == n with
  | true=>rfl
  | false=>rw[zT,Bool.false_or];exact ih
theorem c172(ks:List Int)(hl:ks.length<=100000)(n:Int):zB 172 [.sl 1 (ks.map eI),eI n]=some (.val (.bool (decide (n∈ks)))):=by rw[C172];simp only[zL,zN,h25,h3,Bool.and_self,zF,zQ,zK];have:=l172 ks hl n 0 (Nat.zero_le _);rw[List.drop_zero,any_mem] at this;exact this
section
variable(p:Pn)(gs:List (List Int))(hl:gs.length<=50)(hg:∀g∈gs,g.length<=1000)
include hl hg
end
section
variable[KnW][KnX](p:Pn)(h:PlanOK p)
include h
end
end Go.Am
namespace Go.Am
open Go.Proofs
open Go
theorem firstL_3i{a b c:Int}:zO [a,b,c]=0 ↔ a=0/\b=0/\c=0:=by
 unfold zO;by_cases h1:a=0
 ·rw[if_pos h1];unfold zO;by_cases h2:b=0
  ·rw[if_pos h2];unfold zO;by_cases h3:c=0
   ·rw[if_pos h3];simp[zO,h1,h2,h3]
   ·rw[if_neg h3];simp[h3]
  ·rw[if_neg h2];simp[h2]
 ·rw[if_neg h1];simp[h1]
theorem zG2(s:Si):jb s=0 ↔ (jO s.name=true/\1<=s.least/\s.least<=1000/\s.tb.length<=64)/\JW s.least [] s.tb=0:=by
 unfold jb;have e1:zO [if jO s.name then 0 else 8,zZ s.least 1 1000,if (64:Int)<s.tb.length then 5 else 0]=0 ↔ jO s.name=true/\1<=s.least/\s.least<=1000/\s.tb.length<=64:=by
  rw[firstL_3i,jF];constructor
  ·rintro⟨h1,h2,h3⟩;refine⟨?_,h2.1,h2.2,?_⟩
   ·cases hn:jO s.name with
    | true=>rfl
    | false=>rw[hn] at h1;simp at h1
   ·by_cases h:(64:Int)<s.tb.length
    ·rw[if_pos h] at h3;cases h3
    ·omega
  ·rintro⟨h1,h2,h3,h4⟩;exact⟨by rw[h1];rfl,⟨h2,h3⟩,if_neg (by omega)⟩
 by_cases h:zO [if jO s.name then 0 else 8,zZ s.least 1 1000,if (64:Int)<s.tb.length then 5 else 0]=0
 ·rw[if_neg (by rw[h];simp)]
  exact⟨λk=>⟨e1.1 h,k⟩,λk=>k.2⟩
 ·rw[if_pos h];exact⟨λk=>absurd k h,λk=>absurd (e1.2 k.1) h⟩
theorem siteE_take[OO]{s:Si}(h:jb s=0)(m:Nat):jb ⟨s.name,s.least,s.tb.take m⟩=0:=by
 obtain⟨⟨h1,h2,h3,h4⟩,h5⟩:=(zG2 s).1 h;refine(zG2 _).2 ⟨⟨h1,h2,h3,?_⟩,?_⟩
 ·show(s.tb.take m).length<=64;simp;omega
 ·rw[<-List.take_append_drop m s.tb] at h5;exact zDX _ _ _ _ h5
theorem row_get(w:Wk)(ps:List Pt)(sec:Int)(st:Pt)(j i:Nat)(_:i<ps.length)(h:i<(jZ w ps sec st j).length):(jZ w ps sec st j)[i]=if i=j then 0 else defP w sec st (ps.getD i default) (ps.getD j default):=by simp[jZ]
theorem Q8(w:Wk)(ps:List Pt)(sec:Int)(st:Pt)(j:Nat):(jZ w ps sec st j).length=ps.length:=by simp[jZ]
theorem one_way{w:Wk}(hw:zCm w)(ps:List Pt)(sec:Int)(st:Pt){i j:Nat}(hi:i<ps.length)(hj:j<ps.length)
  (h:0<(jZ w ps sec st j)[i]'(by rw[Q8];exact hi)):(jZ w ps sec st i)[j]'(by rw[Q8];exact hj)=0/\qr (ps.getD i default) st<qr (ps.getD j default) st:=by
 rw[row_get _ _ _ _ _ _ hi] at h;by_cases e:i=j
 ·rw[if_pos e] at h;omega
 ·rw[if_neg e] at h;refine⟨?_,zC3 h⟩;have hb:=(J9 hw ps sec st i _ (List.getElem_mem (show j<(jZ w ps sec st i).length by rw[Q8];exact hj))).1
  rw[row_get _ _ _ _ _ _ hj,if_neg (λk=>e k.symm)] at hb ⊢
  rcases defP_other h with k | k
  ·exact k
  ·omega
def YX:List DV->Nat->List Nat->List DV
 | l,_,[]=>l
 | l,k,i :: r=>YX (l.set i (eN k)) (k+1) r
theorem zEe:∀(o:List Nat) (l:List DV) (k:Nat),(YX l k o).length=l.length
 | [],_,_=>rfl
 | i :: r,l,k=>by rw[YX,zEe r,List.length_set]
theorem zGQ{l:List DV}{i j:Nat}(h:i≠j)(x:DV):nth (l.set i x) j=nth l j:=by unfold nth;rw[List.getElem?_set_ne h]
theorem zHu{l:List DV}{i:Nat}(h:i<l.length)(x:DV):nth (l.set i x) i=x:=by unfold nth;rw[List.getElem?_set_self h]
theorem zB1:∀(o:List Nat) (l:List DV) (k i:Nat),i ∉ o->nth (YX l k o) i=nth l i
 | [],_,_,_,_=>rfl
 | x :: r,l,k,i,h=>by rw[YX,zB1 r _ _ _ (λe=>h (List.mem_cons_of_mem _ e)),zGQ (λe=>h (by rw[e];simp))]
theorem zBb:∀(o:List Nat) (l:List DV) (k:Nat),o.Nodup->(∀i∈o,i<l.length)->∀a (h:a<o.length),nth (YX l k o) o[a]=eN (k+a)
 | [],_,_,_,_,a,h=>by simp at h
 | x :: r,l,k,hn,hl,0,_=>by
  rw[YX];simp only[List.getElem_cons_zero];rw[zB1 r _ _ _ (List.nodup_cons.1 hn).1,zHu (hl x (by simp))]
  rfl
 | x :: r,l,k,hn,hl,a+1,h=>by
  rw[YX];simp only[List.getElem_cons_succ];rw[zBb r _ (k+1) (List.nodup_cons.1 hn).2 (λi hi=>by rw[List.length_set];exact hl i (by simp[hi])) a (by simpa using h)]
  rw[show k+1+a=k+(a+1) by omega]
theorem place_lt{key:Nat->Int}{n m:Nat}(hm:n<=m){i j:Nat}(hi:i<n)(hj:j<n)(h:key i<key j)(z:DV) :
  ∃a b:Nat,nth (YX (List.replicate m z) 0 (zr key n)) i=eN a/\nth (YX (List.replicate m z) 0 (zr key n)) j=eN b/\a<b/\b<n:=by
 obtain⟨a,ha,ea⟩:=List.getElem_of_mem ((YA key n i).2 hi);obtain⟨b,hb,eb⟩:=List.getElem_of_mem ((YA key n j).2 hj);have hl:∀x∈zr key n,x<(List.replicate m z).length:=λx hx=>by rw[List.length_replicate];have:=(YA key n x).1 hx;omega
 have ga:=zBb (zr key n) (List.replicate m z) 0 (zB3 key n) hl a ha;have gb:=zBb (zr key n) (List.replicate m z) 0 (zB3 key n) hl b hb;rw[ea,Nat.zero_add] at ga;rw[eb,Nat.zero_add] at gb;have hln:=jS key n;refine⟨a,b,ga,gb,?_,by omega⟩
 refine zHt (key:=key) (n:=n) (by omega) (by omega) ?_
 rw[zCa ha,zCa hb,ea,eb];exact h
theorem comb_rules{w:Wk}(hw:zCm w)(ps:List Pt)(sec:Int)(st:Pt)(j:Nat)(hj:j<ps.length) :
  let r:=jZ w ps sec st j
  (je ⟨rG,w.d,w.w⟩ ps sec st).getD j 0=YM (Y3 0 r)/\(je ⟨rS,w.d,w.w⟩ ps sec st).getD j 0=YM (J1 (z1 (sqI r)))/\(je ⟨rM,w.d,w.w⟩ ps sec st).getD j 0=YM (z1 r) /\
  0<=YM (Y3 0 r)/\YM (Y3 0 r)<=YM (J1 (z1 (sqI r)))/\YM (J1 (z1 (sqI r)))<=YM (z1 r)/\YM (z1 r)<=256:=by
 intro r;have hr:∀x∈r,0<=x:=λx hx=>(J9 hw ps sec st j x hx).1
 have get:∀rule:ByteArray,(je ⟨rule,w.d,w.w⟩ ps sec st).getD j 0=YM (YR rule r):=by
  intro rule;have hl:=jK ⟨rule,w.d,w.w⟩ ps sec st;rw[List.getD_eq_getElem?_getD,List.getElem?_eq_getElem (by omega)]
  simp only[je,wakesP,List.getElem_map,List.getElem_range,Option.getD_some];rfl
 refine⟨by rw[get,comb_G],by rw[get,comb_S],by rw[get,comb_M],?_,zDO (zIz hr),zDO (zIu hr),?_⟩
 ·have:0<=Y3 0 r:=zCn r 0;unfold YM;split <;> omega
 ·unfold YM;split <;> omega
end Go.Am
namespace Go.Am
open Go.Proofs
open Go
variable[OO]
theorem l91(ks:List Int)(hl:ks.length<=100000)(n:Nat)(hn:n<=100000)(h:∀i,i<n->(i:Int)∈ks):∀i,i<=n->zIf (ks.map eI) n i=some (.val (.bool true)):=by
 apply down
 ·rw[zHS];simp only[Int.lt_irrefl,decide_false,zT]
 ·intro i hi ih;have e1:(i:Int)<n:=by omega
  rw[zHS];simp only[e1,decide_true,zF,c172 ks hl,zJ,h4,z8,decide_eq_true (h i hi),Bool.not_true,zT];rw[wr ((i:Int)+1) (by omega)]
  exact ih
theorem c91(ks:List Int)(n:Nat)(hn:n<=100000)(hl:ks.length=n)(h:∀i,i<n->(i:Int)∈ks):zB 91 [.sl 1 (ks.map eI),eN n]=some (.val (.bool true)):=by rw[C91];simp only[zL,zN,h25,h3,Bool.and_self,zF,zQ,zK,List.length_map,hl,bne_self_eq_false,zT];exact l91 ks (by omega) n hn h 0 (Nat.zero_le _)
theorem l93(l:List Int)(hl:l.length<=1000)(hb:∀x∈l,0<=x/\x<=1000000):∀i,i<=l.length->∀s:Int,0<=s->s<=i * 1000000->zGf s (l.map eI) l.length i=some (.val (eI (s+z1 (l.drop i)))):=by
 refine down (P:=λi=>∀s:Int,0<=s->s<=i * 1000000->zGf s (l.map eI) l.length i=some (.val (eI (s+z1 (l.drop i))))) l.length ?_ ?_
 ·intro s _ _;rw[zHR];simp only[Int.lt_irrefl,decide_false,zT,List.drop_length,z1,Int.add_zero]
 ·intro i hi ih s h0 h1;have e1:(i:Int)<l.length:=by omega
  have e0:(0:Int)<=(i:Int):=by omega
  have hx:=hb l[i] (List.getElem_mem hi);rw[zHR,zi l i hi];simp only[List.length_map,e1,e0,and_self,decide_true,zF,Int.toNat_natCast,zP _ l i hi,h3,zK];rw[wr ((i:Int)+1) (by omega),wr (s+l[i]) (by omega)]
  have:=ih (s+l[i]) (by omega) (by omega)
  rw[show((i:Int)+1)=((i+1:Nat):Int) by omega,this,z1,Int.add_assoc]
theorem c93(l:List Int)(hl:l.length<=1000)(hb:∀x∈l,0<=x/\x<=1000000):zB 93 [.sl 1 (l.map eI)]=some (.val (eI (z1 l))):=by
 rw[C93];simp only[zL,zN,h25,Bool.and_self,zF,zQ,List.length_map];have:=l93 l hl hb 0 (Nat.zero_le _) 0 (by omega) (by omega)
 rw[List.drop_zero,Int.zero_add] at this;exact this
end Go.Am
namespace Go.Am
open Go.Proofs
open Go
variable[OO]
def S13_0a(v0 v1 v2:Int)(v3 v4:List DV)(v5 v6:Int)(v7:ByteArray)(v8:Int)(v9:List DV)(v10:ByteArray)(v11 v12 v13:List DV)(v14:Int)(v15 v16:List DV):St :=
 zx 387 [(2,(.ptr 2 416 0 [])),(5,(.d (eI v0))),(6,(.d (eI v1))),(7,(.d (eI v2))),(8,(.d (.sl 1 v3))),(12,(.ptr 12 6 0 [])),(106,(.d (.sl 1 v4))),(107,(.d (eI v5))),(108,(.d (eI v6)))] [(2,(.mk false (.dc 416 [(.agg 4 [(.agg 0 [(.str v7),(eI v8),(.sl 3 v9)]),(.agg 0 [(.str v10),(.sl 1 v11),(.sl 1 v12)]),(.agg 1 [(.sl 1 v13),(eI v14)]),(.agg 3 v15)])]))),(12,(.mk false (.dc 6 [(.agg 11 v16)])))]
noncomputable def zGi(v0 v1 v2:Int)(v3 v4:List DV)(v5 v6:Int)(v7:ByteArray)(v8:Int)(v9:List DV)(v10:ByteArray)(v11 v12 v13:List DV)(v14:Int)(v15 v16:List DV):Option CR:=goQ 13 0 (S13_0a v0 v1 v2 v3 v4 v5 v6 v7 v8 v9 v10 v11 v12 v13 v14 v15 v16)
def S13_1a(v0 v1 v2:Int)(v3:List DV)(v4 v5:Int)(v6:ByteArray)(v7:Int)(v8:List DV)(v9:ByteArray)(v10 v11 v12:List DV)(v13:Int)(v14 v15:List DV):St :=
 zx 387 [(2,(.ptr 2 416 0 [])),(5,(.d (eI v0))),(6,(.d (eI v1))),(7,(.d (eI v2))),(8,(.d (.sl 1 v3))),(12,(.ptr 12 6 0 [])),(118,(.d (eI v4))),(119,(.d (eI v5)))] [(2,(.mk false (.dc 416 [(.agg 4 [(.agg 0 [(.str v6),(eI v7),(.sl 3 v8)]),(.agg 0 [(.str v9),(.sl 1 v10),(.sl 1 v11)]),(.agg 1 [(.sl 1 v12),(eI v13)]),(.agg 3 v14)])]))),(12,(.mk false (.dc 6 [(.agg 11 v15)])))]
noncomputable def zCL(v0 v1 v2:Int)(v3:List DV)(v4 v5:Int)(v6:ByteArray)(v7:Int)(v8:List DV)(v9:ByteArray)(v10 v11 v12:List DV)(v13:Int)(v14 v15:List DV):Option CR:=goQ 13 1 (S13_1a v0 v1 v2 v3 v4 v5 v6 v7 v8 v9 v10 v11 v12 v13 v14 v15)
def S13_2a(v0 v1 v2:Int)(v3:List DV)(v4 v5 v6 v7:Int)(v8:ByteArray)(v9:Int)(v10:List DV)(v11:ByteArray)(v12 v13 v14:List DV)(v15:Int)(v16 v17:List DV):St :=
 zx 387 [(2,(.ptr 2 416 0 [])),(5,(.d (eI v0))),(6,(.d (eI v1))),(7,(.d (eI v2))),(8,(.d (.sl 1 v3))),(12,(.ptr 12 6 0 [])),(15,(.d (eI v4))),(118,(.d (eI v5))),(119,(.d (eI v4))),(133,(.d (eI v6))),(134,(.d (eI v7)))] [(2,(.mk false (.dc 416 [(.agg 4 [(.agg 0 [(.str v8),(eI v9),(.sl 3 v10)]),(.agg 0 [(.str v11),(.sl 1 v12),(.sl 1 v13)]),(.agg 1 [(.sl 1 v14),(eI v15)]),(.agg 3 v16)])]))),(12,(.mk false (.dc 6 [(.agg 11 v17)])))]
noncomputable def zGh(v0 v1 v2:Int)(v3:List DV)(v4 v5 v6 v7:Int)(v8:ByteArray)(v9:Int)(v10:List DV)(v11:ByteArray)(v12 v13 v14:List DV)(v15:Int)(v16 v17:List DV):Option CR:=goQ 13 2 (S13_2a v0 v1 v2 v3 v4 v5 v6 v7 v8 v9 v10 v11 v12 v13 v14 v15 v16 v17)
def S13_3a(v0 v1 v2:Int)(v3 v4:List DV)(v5:Int)(v6:ByteArray)(v7:Int)(v8:List DV)(v9:ByteArray)(v10 v11 v12:List DV)(v13:Int)(v14:List DV):St :=
 zx 387 [(2,(.ptr 2 416 0 [])),(5,(.d (eI v0))),(6,(.d (eI v1))),(7,(.d (eI v2))),(8,(.d (.sl 1 v3))),(17,(.ptr 17 3 0 [])),(185,(.d (.sl 1 v4))),(186,(.d (eI v5))),(187,(.d (eI 0)))] [(2,(.mk false (.dc 416 [(.agg 4 [(.agg 0 [(.str v6),(eI v7),(.sl 3 v8)]),(.agg 0 [(.str v9),(.sl 1 v10),(.sl 1 v11)]),(.agg 1 [(.sl 1 v12),(eI v13)]),(.agg 3 v14)])]))),(17,(.mk false (.dc 3 [(.agg 0 [.nl,.nl,.nl])])))]
noncomputable def zIk(v0 v1 v2:Int)(v3 v4:List DV)(v5:Int)(v6:ByteArray)(v7:Int)(v8:List DV)(v9:ByteArray)(v10 v11 v12:List DV)(v13:Int)(v14:List DV):Option CR:=goQ 13 3 (S13_3a v0 v1 v2 v3 v4 v5 v6 v7 v8 v9 v10 v11 v12 v13 v14)
def S13_3b(v0 v1 v2:Int)(v3 v4:List DV)(v5:Int)(v6:ByteArray)(v7:Int)(v8:List DV)(v9:ByteArray)(v10 v11 v12:List DV)(v13:Int)(v14 v15:List DV):St :=
 zx 387 [(2,(.ptr 2 416 0 [])),(5,(.d (eI v0))),(6,(.d (eI v1))),(7,(.d (eI v2))),(8,(.d (.sl 1 v3))),(17,(.ptr 17 3 0 [])),(185,(.d (.sl 1 v4))),(186,(.d (eI v5))),(187,(.d (eI 1)))] [(2,(.mk false (.dc 416 [(.agg 4 [(.agg 0 [(.str v6),(eI v7),(.sl 3 v8)]),(.agg 0 [(.str v9),(.sl 1 v10),(.sl 1 v11)]),(.agg 1 [(.sl 1 v12),(eI v13)]),(.agg 3 v14)])]))),(17,(.mk false (.dc 3 [(.agg 0 [(.sl 1 v15),.nl,.nl])])))]
noncomputable def L13_3b(v0 v1 v2:Int)(v3 v4:List DV)(v5:Int)(v6:ByteArray)(v7:Int)(v8:List DV)(v9:ByteArray)(v10 v11 v12:List DV)(v13:Int)(v14 v15:List DV):Option CR:=goQ 13 3 (S13_3b v0 v1 v2 v3 v4 v5 v6 v7 v8 v9 v10 v11 v12 v13 v14 v15)
def S13_4a(v0:Int)(v1 v2 v3:List DV)(v4:ByteArray)(v5:Int)(v6:List DV)(v7:ByteArray)(v8 v9 v10:List DV)(v11:Int)(v12:List DV):St :=
 zx 387 [(2,(.ptr 2 416 0 [])),(7,(.d (eI v0))),(8,(.d (.sl 1 v1))),(17,(.ptr 17 3 0 [])),(24,(.d (.sl 1 v2))),(26,(.d (.sl 1 v3))),(262,(.d (eI v0))),(263,(.d (eI 0)))] [(2,(.mk false (.dc 416 [(.agg 4 [(.agg 0 [(.str v4),(eI v5),(.sl 3 v6)]),(.agg 0 [(.str v7),(.sl 1 v8),(.sl 1 v9)]),(.agg 1 [(.sl 1 v10),(eI v11)]),(.agg 3 v12)])]))),(17,(.mk false (.dc 3 [(.agg 0 [.nl,.nl,.nl])])))]
noncomputable def L13_4a(v0:Int)(v1 v2 v3:List DV)(v4:ByteArray)(v5:Int)(v6:List DV)(v7:ByteArray)(v8 v9 v10:List DV)(v11:Int)(v12:List DV):Option CR:=goQ 13 4 (S13_4a v0 v1 v2 v3 v4 v5 v6 v7 v8 v9 v10 v11 v12)
def S13_3c(v0 v1 v2:Int)(v3 v4:List DV)(v5:Int)(v6:ByteArray)(v7:Int)(v8:List DV)(v9:ByteArray)(v10 v11 v12:List DV)(v13:Int)(v14 v15 v16:List DV):St :=
 zx 387 [(2,(.ptr 2 416 0 [])),(5,(.d (eI v0))),(6,(.d (eI v1))),(7,(.d (eI v2))),(8,(.d (.sl 1 v3))),(17,(.ptr 17 3 0 [])),(185,(.d (.sl 1 v4))),(186,(.d (eI v5))),(187,(.d (eI 2)))] [(2,(.mk false (.dc 416 [(.agg 4 [(.agg 0 [(.str v6),(eI v7),(.sl 3 v8)]),(.agg 0 [(.str v9),(.sl 1 v10),(.sl 1 v11)]),(.agg 1 [(.sl 1 v12),(eI v13)]),(.agg 3 v14)])]))),(17,(.mk false (.dc 3 [(.agg 0 [(.sl 1 v15),(.sl 1 v16),.nl])])))]
noncomputable def L13_3c(v0 v1 v2:Int)(v3 v4:List DV)(v5:Int)(v6:ByteArray)(v7:Int)(v8:List DV)(v9:ByteArray)(v10 v11 v12:List DV)(v13:Int)(v14 v15 v16:List DV):Option CR:=goQ 13 3 (S13_3c v0 v1 v2 v3 v4 v5 v6 v7 v8 v9 v10 v11 v12 v13 v14 v15 v16)
def S13_4b(v0:Int)(v1 v2 v3:List DV)(v4:ByteArray)(v5:Int)(v6:List DV)(v7:ByteArray)(v8 v9 v10:List DV)(v11:Int)(v12 v13:List DV):St :=
 zx 387 [(2,(.ptr 2 416 0 [])),(7,(.d (eI v0))),(8,(.d (.sl 1 v1))),(17,(.ptr 17 3 0 [])),(24,(.d (.sl 1 v2))),(26,(.d (.sl 1 v3))),(262,(.d (eI v0))),(263,(.d (eI 0)))] [(2,(.mk false (.dc 416 [(.agg 4 [(.agg 0 [(.str v4),(eI v5),(.sl 3 v6)]),(.agg 0 [(.str v7),(.sl 1 v8),(.sl 1 v9)]),(.agg 1 [(.sl 1 v10),(eI v11)]),(.agg 3 v12)])]))),(17,(.mk false (.dc 3 [(.agg 0 [(.sl 1 v13),.nl,.nl])])))]
noncomputable def L13_4b(v0:Int)(v1 v2 v3:List DV)(v4:ByteArray)(v5:Int)(v6:List DV)(v7:ByteArray)(v8 v9 v10:List DV)(v11:Int)(v12 v13:List DV):Option CR:=goQ 13 4 (S13_4b v0 v1 v2 v3 v4 v5 v6 v7 v8 v9 v10 v11 v12 v13)
def S13_3d(v0 v1 v2:Int)(v3 v4:List DV)(v5:Int)(v6:ByteArray)(v7:Int)(v8:List DV)(v9:ByteArray)(v10 v11 v12:List DV)(v13:Int)(v14 v15 v16 v17:List DV):St :=
 zx 387 [(2,(.ptr 2 416 0 [])),(5,(.d (eI v0))),(6,(.d (eI v1))),(7,(.d (eI v2))),(8,(.d (.sl 1 v3))),(17,(.ptr 17 3 0 [])),(185,(.d (.sl 1 v4))),(186,(.d (eI v5))),(187,(.d (eI 3)))] [(2,(.mk false (.dc 416 [(.agg 4 [(.agg 0 [(.str v6),(eI v7),(.sl 3 v8)]),(.agg 0 [(.str v9),(.sl 1 v10),(.sl 1 v11)]),(.agg 1 [(.sl 1 v12),(eI v13)]),(.agg 3 v14)])]))),(17,(.mk false (.dc 3 [(.agg 0 [(.sl 1 v15),(.sl 1 v16),(.sl 1 v17)])])))]
noncomputable def L13_3d(v0 v1 v2:Int)(v3 v4:List DV)(v5:Int)(v6:ByteArray)(v7:Int)(v8:List DV)(v9:ByteArray)(v10 v11 v12:List DV)(v13:Int)(v14 v15 v16 v17:List DV):Option CR:=goQ 13 3 (S13_3d v0 v1 v2 v3 v4 v5 v6 v7 v8 v9 v10 v11 v12 v13 v14 v15 v16 v17)
def S13_4c(v0:Int)(v1 v2 v3:List DV)(v4:ByteArray)(v5:Int)(v6:List DV)(v7:ByteArray)(v8 v9 v10:List DV)(v11:Int)(v12 v13 v14:List DV):St :=
 zx 387 [(2,(.ptr 2 416 0 [])),(7,(.d (eI v0))),(8,(.d (.sl 1 v1))),(17,(.ptr 17 3 0 [])),(24,(.d (.sl 1 v2))),(26,(.d (.sl 1 v3))),(262,(.d (eI v0))),(263,(.d (eI 0)))] [(2,(.mk false (.dc 416 [(.agg 4 [(.agg 0 [(.str v4),(eI v5),(.sl 3 v6)]),(.agg 0 [(.str v7),(.sl 1 v8),(.sl 1 v9)]),(.agg 1 [(.sl 1 v10),(eI v11)]),(.agg 3 v12)])]))),(17,(.mk false (.dc 3 [(.agg 0 [(.sl 1 v13),(.sl 1 v14),.nl])])))]
noncomputable def L13_4c(v0:Int)(v1 v2 v3:List DV)(v4:ByteArray)(v5:Int)(v6:List DV)(v7:ByteArray)(v8 v9 v10:List DV)(v11:Int)(v12 v13 v14:List DV):Option CR:=goQ 13 4 (S13_4c v0 v1 v2 v3 v4 v5 v6 v7 v8 v9 v10 v11 v12 v13 v14)
def S13_4d(v0:Int)(v1 v2 v3:List DV)(v4:Int)(v5:ByteArray)(v6:Int)(v7:List DV)(v8:ByteArray)(v9 v10 v11:List DV)(v12:Int)(v13 v14 v15 v16:List DV):St :=
 zx 387 [(2,(.ptr 2 416 0 [])),(7,(.d (eI v0))),(8,(.d (.sl 1 v1))),(17,(.ptr 17 3 0 [])),(24,(.d (.sl 1 v2))),(26,(.d (.sl 1 v3))),(262,(.d (eI v0))),(263,(.d (eI v4)))] [(2,(.mk false (.dc 416 [(.agg 4 [(.agg 0 [(.str v5),(eI v6),(.sl 3 v7)]),(.agg 0 [(.str v8),(.sl 1 v9),(.sl 1 v10)]),(.agg 1 [(.sl 1 v11),(eI v12)]),(.agg 3 v13)])]))),(17,(.mk false (.dc 3 [(.agg 0 [(.sl 1 v14),(.sl 1 v15),(.sl 1 v16)])])))]
noncomputable def zD8(v0:Int)(v1 v2 v3:List DV)(v4:Int)(v5:ByteArray)(v6:Int)(v7:List DV)(v8:ByteArray)(v9 v10 v11:List DV)(v12:Int)(v13 v14 v15 v16:List DV):Option CR:=goQ 13 4 (S13_4d v0 v1 v2 v3 v4 v5 v6 v7 v8 v9 v10 v11 v12 v13 v14 v15 v16)
end Go.Am
namespace Go.Am
open Go.Proofs
open Go
variable[OO]
theorem zHi(v0 v1 v2:Int)(v3 v4:List DV)(v5 v6:Int)(v7:ByteArray)(v8:Int)(v9:List DV)(v10:ByteArray)(v11 v12 v13:List DV)(v14:Int)(v15 v16:List DV):zGi v0 v1 v2 v3 v4 v5 v6 v7 v8 v9 v10 v11 v12 v13 v14 v15 v16 =
 ifO (decide (v6<v5))
 (ifO (decide (((0:Int)<=v6)/\(v6<(((List.length v4):Nat):Int))))
 (ifO (zH EE 6 3 (nth v4 (Int.toNat v6)))
 (ifO (decide (((0:Int)<=(zC (nth v4 (Int.toNat v6))))/\((zC (nth v4 (Int.toNat v6)))<(6:Int))))
 (ifO (jQ 11 (Int.toNat (zC (nth v4 (Int.toNat v6)))) (.agg 11 v16))
 (ifO (decide ((Int.toNat (zC (nth v4 (Int.toNat v6))))<6))
 ((zGi v0 v1 v2 v3 v4 v5 (IntKind.wrap .i64 (v6+(1:Int))) v7 v8 v9 v10 v11 v12 v13 v14 v15 (List.set v16 (Int.toNat (zC (nth v4 (Int.toNat v6)))) (eI v6))))
 (none))
 (none))
 (none))
 (none))
 (none))
 ((zCL v0 v1 v2 v3 (((List.length v3):Nat):Int) (0:Int) v7 v8 v9 v10 v11 v12 v13 v14 v15 v16)) :=
 (zk 13 0 _).trans (by kernel_rfl)
theorem zHh(v0 v1 v2:Int)(v3:List DV)(v4 v5:Int)(v6:ByteArray)(v7:Int)(v8:List DV)(v9:ByteArray)(v10 v11 v12:List DV)(v13:Int)(v14 v15:List DV):zCL v0 v1 v2 v3 v4 v5 v6 v7 v8 v9 v10 v11 v12 v13 v14 v15 =
 ifO (decide (v5<v4))
 (ifO (decide (((0:Int)<=v5)/\(v5<(((List.length v3):Nat):Int))))
 (ifO (zH EE 6 25 (nth v3 (Int.toNat v5)))
 (ifO (bne (((List.length (elems (nth v3 (Int.toNat v5)))):Nat):Int) v2)
 (some (.val (.bool false)))
 (ifO (decide (((0:Int)<=v5)/\(v5<(((List.length v3):Nat):Int))))
 (ifO (zH EE 6 25 (nth v3 (Int.toNat v5)))
 ((zGh v0 v1 v2 v3 v5 v4 (((List.length (elems (nth v3 (Int.toNat v5)))):Nat):Int) (0:Int) v6 v7 v8 v9 v10 v11 v12 v13 v14 v15))
 (none))
 (none)))
 (none))
 (none))
 (zI (zB 92 [])
 (λr42=>ifO (zH EE 6 173 r42)
 ((zIk v0 v1 v2 v3 (elems r42) (((List.length (elems r42)):Nat):Int) v6 v7 v8 v9 v10 v11 v12 v13 v14))
 (none))
 (λ_ _=>none)) :=
 (zk 13 1 _).trans (by kernel_rfl)
theorem zHg(v0 v1 v2:Int)(v3:List DV)(v4 v5 v6 v7:Int)(v8:ByteArray)(v9:Int)(v10:List DV)(v11:ByteArray)(v12 v13 v14:List DV)(v15:Int)(v16 v17:List DV):zGh v0 v1 v2 v3 v4 v5 v6 v7 v8 v9 v10 v11 v12 v13 v14 v15 v16 v17 =
 ifO (decide (v7<v6))
 (ifO (decide (((0:Int)<=v7)/\(v7<(((List.length v3):Nat):Int))))
 (ifO (zH EE 6 25 (nth v3 (Int.toNat v7)))
 (ifO (bne (((List.length (elems (nth v3 (Int.toNat v7)))):Nat):Int) v2)
 (some (.val (.bool false)))
 (ifO (decide (((0:Int)<=v4)/\(v4<(((List.length v3):Nat):Int))))
 (ifO (zH EE 6 25 (nth v3 (Int.toNat v4)))
 (ifO (decide (((0:Int)<=v7)/\(v7<(((List.length (elems (nth v3 (Int.toNat v4)))):Nat):Int))))
 (ifO (zH EE 6 3 (nth (elems (nth v3 (Int.toNat v4))) (Int.toNat v7)))
 (ifO (decide ((zC (nth (elems (nth v3 (Int.toNat v4))) (Int.toNat v7)))<(0:Int)))
 (some (.val (.bool false)))
 (ifO (decide (((0:Int)<=v4)/\(v4<(((List.length v3):Nat):Int))))
 (ifO (zH EE 6 25 (nth v3 (Int.toNat v4)))
 (ifO (decide (((0:Int)<=v7)/\(v7<(((List.length (elems (nth v3 (Int.toNat v4)))):Nat):Int))))
 (ifO (zH EE 6 3 (nth (elems (nth v3 (Int.toNat v4))) (Int.toNat v7)))
 (ifO (decide ((zC (nth (elems (nth v3 (Int.toNat v4))) (Int.toNat v7)))>(0:Int)))
 (ifO (decide (((0:Int)<=v7)/\(v7<(((List.length v3):Nat):Int))))
 (ifO (zH EE 6 25 (nth v3 (Int.toNat v7)))
 (ifO (decide (((0:Int)<=v4)/\(v4<(((List.length (elems (nth v3 (Int.toNat v7)))):Nat):Int))))
 (ifO (zH EE 6 3 (nth (elems (nth v3 (Int.toNat v7))) (Int.toNat v4)))
 (ifO (bne (zC (nth (elems (nth v3 (Int.toNat v7))) (Int.toNat v4))) (0:Int))
 (some (.val (.bool false)))
 (ifO (decide (((0:Int)<=v7)/\(v7<(6:Int))))
 (ifO (jQ 11 (Int.toNat v7) (.agg 11 v17))
 (ifO (zH EE 6 3 (nth v17 (Int.toNat v7)))
 (ifO (decide (((0:Int)<=v4)/\(v4<(6:Int))))
 (ifO (jQ 11 (Int.toNat v4) (.agg 11 v17))
 (ifO (zH EE 6 3 (nth v17 (Int.toNat v4)))
 (ifO (decide ((zC (nth v17 (Int.toNat v7)))>=(zC (nth v17 (Int.toNat v4)))))
 (some (.val (.bool false)))
 ((zGh v0 v1 v2 v3 v4 v5 v6 (IntKind.wrap .i64 (v7+(1:Int))) v8 v9 v10 v11 v12 v13 v14 v15 v16 v17)))
 (none))
 (none))
 (none))
 (none))
 (none))
 (none)))
 (none))
 (none))
 (none))
 (none))
 ((zGh v0 v1 v2 v3 v4 v5 v6 (IntKind.wrap .i64 (v7+(1:Int))) v8 v9 v10 v11 v12 v13 v14 v15 v16 v17)))
 (none))
 (none))
 (none))
 (none)))
 (none))
 (none))
 (none))
 (none)))
 (none))
 (none))
 ((zCL v0 v1 v2 v3 v5 (IntKind.wrap .i64 (v4+(1:Int))) v8 v9 v10 v11 v12 v13 v14 v15 v16 v17)) :=
 (zk 13 2 _).trans (by kernel_rfl)
end Go.Am
