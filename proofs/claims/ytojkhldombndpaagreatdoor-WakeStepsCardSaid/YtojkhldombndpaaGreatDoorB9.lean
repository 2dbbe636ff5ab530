/- The abstract machine, the contracts of the functions that are walked by hand, and the examples of the document. Part 9. -/
import Derived.Test.YtojkhldombndpaaGreatDoorB8
set_option linter.all false
namespace Go.Am
open Go.Proofs
open Go
def jc(p:Pn)(j i:Nat):Bool :=
 decide (i<p.ps.length/\j<p.ps.length/\i≠j) && decide (jB (p.ps.getD i default) (p.ps.getD j default)<p.least * p.least)
abbrev eNear(p:Pn):DV:=.agg 15 ((List.range 8).map λj=>.agg 14 ((List.range 8).map λi=>.bool (jc p j i)))
abbrev eSe(p:Pn):DV:=.agg 16 [ePn p,eMd p.w p.c p.r,eNear p]
def placeS(prev:List Pt)(p:Pt):Int:=zL [ptE p,if prev.any (λq=>decide (p=q)) then 9 else 0]
def Jz:List Pt->List Pt->Int
 | _,[]=>0
 | prev,p :: r=>if placeS prev p=0 then Jz (prev++[p]) r else placeS prev p
def restE(p:Pn):Int:=zL [zV p.least 1 1000,wakeE p.w,Jn p.c,Yf p.r]
def planE(p:Pn):Int:=if 64<p.ps.length then 5 else if Jz [] p.ps=0 then restE p else Jz [] p.ps
def fewE(p:Pn):Int:=zL [planE p,if 8<p.ps.length then 23 else 0]
def bestE(p:Pn)(n:Int):Int:=zL [fewE p,zV n 0 p.ps.length]
def enP(p:Pn)(l:List Nat):Int:=jN p.w p.c p.r (l.map λi=>p.ps.getD i default) 0
class KnS[OO]:Prop where
 clone:∀l:List Int,l.length<=100000->zA 243 [.sl 1 (l.map eI)]=some (Jl l)
 search:∀p:Pn,zm p.r->p.ps.length<=8->(∀q∈p.ps,okPt q)->1<=p.least->p.least<=1000->zA 161 [ePn p]=some (.val (.dp (eSe p)))
 itoa:∀n:Int,-9223372036854775808<=n->n<=9223372036854775807->zA 210 [eI n]=some (.val (.str ⟨(Lib.itoa n).toArray⟩))
 join:∀(l:List ByteArray) (s:ByteArray),l.length<=1000->(∀x∈l,x.size<=1000)->s.size<=1000->zA 208 [.sl 1 (l.map .str),.str s]=some (.val (.str ⟨(Lib.join (l.map (·.data.toList)) s.data.toList).toArray⟩))
variable[OO]
theorem c167(a b:Pt):zA 167 [ePt b,.dp (ePt a)]=some (.val (.bool (decide (a=b)))):=by
 rw[C167];have e:eqOp EE 141 (ePt a) (ePt b)=some (decide (a=b)):=by
  refine(show eqOp EE 141 (.agg 1 [eI a.x,eI a.y]) (.agg 1 [eI b.x,eI b.y])=some ((a.x == b.x) && ((a.y == b.y) && true)) by kernel_rfl).trans ?_
  obtain⟨ax,ay⟩:=a;obtain⟨bx,by'⟩:=b
  by_cases h1:ax=bx <;> by_cases h2:ay=by' <;> simp[h1,h2]
 simp only[zK,zM,h141,Bool.and_self,zB,qa,zR,zS,zW,zF,m1,e,Option.getD_some];simp[isDp]
theorem l244(x:Pt)(l:List Pt)(hl:l.length<=100000):∀i,i<=l.length->∃k:Int,L244_0a (l.map ePt) 167 [] [.dp (ePt x)] l.length i=some (.val (eI k))/\decide (k>=0)=(l.drop i).any λq=>decide (x=q):=by
 apply down (P:=λi=>∃k:Int,L244_0a (l.map ePt) 167 [] [.dp (ePt x)] l.length i=some (.val (eI k))/\decide (k>=0)=(l.drop i).any λq=>decide (x=q))
 ·rw[L244_0a_eq];exact⟨-1,by simp,by simp⟩
 ·intro i hi ih;obtain⟨k,h1,h2⟩:=ih;have e1:(i:Int)<l.length:=by omega
  have e0:(0:Int)<=(i:Int):=by omega
  have hc:zA 167 (z1 EE 167 [ePt l[i],.dp (ePt x)])=some (.val (.bool (decide (x=l[i])))):=(congrArg (zA 167) (show z1 EE 167 [ePt l[i],.dp (ePt x)]=[ePt l[i],.dp (ePt x)] by kernel_rfl)).trans (c167 x l[i])
  rw[L244_0a_eq,zT l i hi];simp only[zG];simp only[List.length_map,e1,e0,and_self,if_true,Int.toNat_natCast,zI _ l i hi,h141,zB,zR,zS,zW,zF,List.nil_append,List.cons_append,hc,zH,h4,zi];rw[wr ((i:Int)+1) (by omega),show((i:Int)+1)=((i+1:Nat):Int) by omega,List.any_cons]
  by_cases hx:x=l[i]
  ·exact⟨i,by simp[hx],by simp[hx]⟩
  ·exact⟨k,by simp only[decide_eq_false hx,za];exact h1,by rw[h2,decide_eq_false hx,Bool.false_or]⟩
theorem c166(x:Pt)(l:List Pt)(hl:l.length<=100000):zA 166 [.sl 2 (l.map ePt),.fn 167 [] [.dp (ePt x)]]=some (.val (.bool (l.any λq=>decide (x=q)))):=by
 obtain⟨k,h1,h2⟩:=l244 x l hl 0 (Nat.zero_le _);have h3:zA 244 [.sl 2 (l.map ePt),.fn 167 [] [.dp (ePt x)]]=some (.val (eI k)):=by rw[C244];simp only[zK,zM,h81,h275,Bool.and_self,zB,zQ,Yk,QR,QQ,List.length_map];exact h1
 rw[C166];simp only[zK,zM,h81,h275,Bool.and_self,zB,zQ,Yk,QR,QQ,h3,zH,Am.h3,zF];rw[List.drop_zero] at h2;exact congrArg (λb=>some (CR.val (DV.bool b))) h2
theorem site0(name:ByteArray)(hn:jE name=true)(least:Int):z8 ⟨name,least,[]⟩=zV least 1 1000:=by
 unfold z8;simp only[hn,if_true,List.length_nil,ja];rcases zAU least 1 1000 with h | h <;> simp[h,zL]
theorem name_plan:jE (bs [112,108,97,110])=true:=by decide
theorem l49(p:Pn)(hr:zm p.r)(hl:p.ps.length<=64):∀i,i<=p.ps.length->L49_0a (p.ps.map ePt) p.ps.length i p.least p.w.rule (p.w.d.map eI) (p.w.w.map eI) (p.c.p.map eI) p.c.cut (p.r.map eRow) =
  some (.val (eI (if Jz (p.ps.take i) (p.ps.drop i)=0 then restE p else Jz (p.ps.take i) (p.ps.drop i)))):=by
 apply down
 ·rw[L49_0a_eq];have hs:zA 158 [.agg 0 [.str (bs [112,108,97,110]),.int .i64 p.least,.sl 3 []]]=some (.val (eI (zV p.least 1 1000))):=(c158 ⟨bs [112,108,97,110],p.least,[]⟩).trans (by rw[site0 _ name_plan])
  simp only[zG,Int.lt_irrefl,if_false];simp only[hs,zH,h46,zB,zF,c75,c114,c159 p.r hr,c148_4,List.drop_length,Jz,if_true];rfl
 ·intro i hi ih;have e1:(i:Int)<p.ps.length:=by omega
  have e0:(0:Int)<=(i:Int):=by omega
  have e2:i<=p.ps.length:=by omega
  have hc:=c166 p.ps[i] (p.ps.take i) (by simp;omega)
  rw[List.map_take] at hc;rw[L49_0a_eq,zT p.ps i hi];simp only[zG];simp only[List.length_map,e1,e0,e2,Nat.zero_le,and_self,if_true,Int.toNat_natCast,zI _ p.ps i hi,h141,zB,zR,zS,zW,zF,List.drop_zero,hc,zH,h4,zi,c168,h46,c169,qY];rw[wr ((i:Int)+1) (by omega),show((i:Int)+1)=((i+1:Nat):Int) by omega,ih,Jz,List.take_succ_eq_append_getElem hi]
  by_cases hz:placeS (p.ps.take i) p.ps[i]=0
  ·refine(congrArg (λb=>ifO b _ _) (bne0 hz)).trans ?_
   rw[za,if_pos hz]
  ·refine(congrArg (λb=>ifO b _ _) (bne1 hz)).trans ?_
   rw[zB,if_neg hz,if_neg hz];rfl
theorem hPn(p:Pn)(hr:zm p.r):hasT EE 6 88 (ePn p)=true:=by rw[h88];simp[hr.1]
theorem c49(p:Pn)(hr:zm p.r):zA 49 [ePn p]=some (.val (eI (planE p))):=by
 rw[C49];simp only[zG];simp only[zK,zM,hPn p hr,Bool.and_self,zB,zR,zS,zW,zb,ze,QM,zX,zF,zQ,List.length_map];unfold planE;by_cases h:64<p.ps.length
 ·rw[if_pos (by omega),if_pos h]
 ·rw[if_neg (by omega),if_neg h]
  have:=l49 p hr (by omega) 0 (Nat.zero_le _)
  simpa using this
theorem c160(p:Pn)(hr:zm p.r):zA 160 [ePn p]=some (.val (eI (fewE p))):=by
 rw[C160];simp only[zK,zM,hPn p hr,Bool.and_self,zB,zR,zS,zW,zb,ze,QM,zX,zF,zQ,List.length_map,c49 p hr,zH,h46,c169,qY,decide_eq_true_eq];have e:((p.ps.length:Int)>8)=(8<p.ps.length):=propext (by omega)
 simp only[e];rfl
theorem placesGo_ok:∀{l prev:List Pt},Jz prev l=0->∀p∈l,okPt p
 | [],_,_,p,h=>by simp at h
 | x :: r,prev,h,p,hp=>by
  unfold Jz at h;split at h
  ·rename_i h0;rcases List.mem_cons.1 hp with rfl | hp
   ·exact(zAs _).1 (zy h0).1
   ·exact placesGo_ok h p hp
  ·rename_i h0;exact absurd h h0
structure PlanOK(P:Pn):Prop where
 v:Valid P.w P.c P.r P.ps
 l:P.ps.length<=8
 least:1<=P.least/\P.least<=1000
 go:Jz [] P.ps=0
theorem fewE_ok{p:Pn}(h:fewE p=0)(hr:zm p.r):PlanOK p:=by
 obtain⟨h1,h2⟩:=zy h;have h2:=(zy h2).1;have hl:p.ps.length<=8:=by
  rcases Nat.lt_or_ge 8 p.ps.length with hh | hh
  ·rw[if_pos hh] at h2;simp at h2
  ·exact hh
 unfold planE at h1;rw[if_neg (by omega)] at h1
 split at h1
 ·rename_i hg;obtain⟨a,b,c,d⟩:=firstL_4 h1;exact⟨⟨(wakeE_ok b).1,(wakeE_ok b).2,(qw c).1,hr,roseE_ok d,by omega,placesGo_ok hg⟩,hl,range_zero.1 a,hg⟩
 ·rename_i hg;exact absurd h1 hg
theorem getD_pt(l:List Pt)(i:Nat)(h:i<l.length):l.getD i default=l[i]:=by rw[List.getD_eq_getElem?_getD,List.getElem?_eq_getElem h];rfl
theorem c284(p:Pn)(i:Nat)(h:i<p.ps.length):zA 284 [eN i,.dp (.dp (eSe p))]=some (.val (ePt (p.ps.getD i default))):=by
 rw[C284,getD_pt p.ps i h];have e1:(i:Int)<p.ps.length:=by omega
 have e0:(0:Int)<=(i:Int):=by omega
 simp only[zK,zM,h3,h268,Bool.and_self,zB,qa,zR,zS,zW,zQ,h81,zF,List.length_map,e1,e0,and_self,decide_true,Int.toNat_natCast,zI _ p.ps i h,h141];simp[isDp,isAg]
theorem l283b(p:Pn)(l:List Nat)(hl:l.length<=100000)(hi:∀i∈l,i<p.ps.length):∀k,k<=l.length->L283_0b 284 [] [.dp (.dp (eSe p))] ((l.take k).map λi=>ePt (p.ps.getD i default)) (l.map eN) l.length k=some (.val (.sl 2 ((l.map λi=>p.ps.getD i default).map ePt))):=by
 apply down
 ·rw[L283_0b_eq];simp;exact(List.take_of_length_le (by simp)).trans (by simp)
 ·intro k hk ih;have e1:(k:Int)<l.length:=by omega
  have hx:zA 284 (z1 EE 284 [eN l[k],.dp (.dp (eSe p))])=some (.val (ePt (p.ps.getD l[k] default))):=(congrArg (zA 284) (show z1 EE 284 [eN l[k],.dp (.dp (eSe p))]=[eN l[k],.dp (.dp (eSe p))] by kernel_rfl)).trans (c284 p l[k] (hi _ (List.getElem_mem hk)))
  have hm:min k l.length=k:=by omega
  have e2:(2 * (k+1)+200) * 16<=281474976710656:=by omega
  have e0:(0:Int)<=(k:Int):=by omega
  rw[<-ih,L283_0b_eq];simp only[zG];simp only[List.length_map,List.length_take,hm,e1,e0,e2,and_self,if_true,Int.toNat_natCast,zI _ l k hk,h3,zB,zF,List.nil_append,List.cons_append,hx,zH,h141,zR,zS,zW];rw[wr ((k:Int)+1) (by omega),List.take_succ_eq_append_getElem hk,List.map_append]
  rfl
theorem c283(p:Pn)(l:List Nat)(hl:l.length<=100000)(hi:∀i∈l,i<p.ps.length):zA 283 [.sl 1 (l.map eN),.fn 284 [] [.dp (.dp (eSe p))]]=some (.val (.sl 2 ((l.map λi=>p.ps.getD i default).map ePt))):=by
 rw[C283];simp only[zK,zM,h25,h309,Bool.and_self,zB,zQ,Yk,QR,QQ,List.length_map];rw[L283_0a_eq];simp only[zG];by_cases h:l=[]
 ·simp[h]
 ·have h0:0<l.length:=List.length_pos_iff.2 h;have h1:=l283b p l hl hi 1 (by omega)
  have hx:zA 284 (z1 EE 284 [eN l[0],.dp (.dp (eSe p))])=some (.val (ePt (p.ps.getD l[0] default))):=(congrArg (zA 284) (show z1 EE 284 [eN l[0],.dp (.dp (eSe p))]=[eN l[0],.dp (.dp (eSe p))] by kernel_rfl)).trans (c284 p l[0] (hi _ (List.getElem_mem h0)))
  have e1:(0:Int)<l.length:=by omega
  rw[tk1 l h0] at h1;simp only[List.length_map,e1,Int.le_refl,and_self,if_true,zI _ l 0 h0,h3,zB,zF,List.nil_append,List.cons_append,hx,zH,h141,zR,zS,zW];simpa using h1
theorem c242[KnW](p:Pn)(h:PlanOK p)(l:List Nat)(hl:l.length<=64)(hi:∀i∈l,i<p.ps.length):zA 242 [.dp (eSe p),.sl 1 (l.map eN)]=some (.val (eI (enP p l))):=by
 have hv:Valid p.w p.c p.r (l.map λi=>p.ps.getD i default):=⟨h.v.w,h.v.k,h.v.c,h.v.r,h.v.q,by simpa using hl,λq hq=>by
  obtain⟨i,hi',rfl⟩:=List.mem_map.1 hq;rw[getD_pt p.ps i (hi i hi')];exact h.v.p _ (List.getElem_mem _)⟩
 rw[C242];simp only[zK,zM,h268,h25,Bool.and_self,zB,qa,zR,zS,zW,zb,zQ,hMd _ _ _ h.v.r,c283 p l (by omega) hi,zH,h81,zX,zF,c145 hv 0 (by omega),h3]
 simp[isAg,enP]
def eR:Ch->CR
 | none=>.val (.tup [.agg 1 [.sl 1 [],eI 0],.bool false])
 | some (c,e)=>.val (.tup [.agg 1 [.sl 1 (c.map eN),eI e],.bool true])
theorem map_eN'(l:List Nat):l.map eN=(l.map (Nat.cast:Nat->Int)).map eI:=by rw[List.map_map];rfl
section
variable[KnW][KnS](p:Pn)(h:PlanOK p)
include h
theorem near_get(t i:Nat)(ht:t<8)(hi:i<8):nth (flds (nth (flds (nth (flds (eSe p)) 2)) t)) i=.bool (jc p t i):=by
 have e1:nth (flds (nth (flds (eSe p)) 2)) t=.agg 14 ((List.range 8).map λi=>.bool (jc p t i)):=by
  show nth ((List.range 8).map λj=>.agg 14 ((List.range 8).map λi=>.bool (jc p j i))) t=_
  rw[zI _ _ t (by simpa using ht),List.getElem_range]
 rw[e1,zR,zI _ _ i (by simpa using hi),List.getElem_range]
def Rec(p:Pn)(l:List Nat):Prop:=∀(taken:List Nat) (n:Nat),taken.length+n<=64->(∀i∈l,i<p.ps.length)->(∀i∈taken,i<p.ps.length) ->
 zA 162 [.dp (eSe p),.sl 1 (l.map eN),.sl 1 (taken.map eN),eN n]=some (eR (JL (enP p) (jc p) l taken n))
theorem clone'(l:List Nat)(hl:l.length<=64):zA 243 [.sl 1 (l.map eN)]=some (if l=[] then .val .nl else .fresh 1 (l.map eN)):=by
 rw[map_eN',KnS.clone _ (by simp;omega)]
 unfold Jl;by_cases h:l=[]
 ·simp[h]
 ·simp[h]
theorem l162_1a(l taken:List Nat)(m:Nat)(hm:taken.length+(m+1)<=64)(k:Nat)(hk:k<l.length)(hll:l.length<=1000)(hl:∀i∈l,i<p.ps.length)(ht:∀i∈taken,i<p.ps.length)(hrec:Rec p (l.drop (k+1))) :
  ∀q,q<=taken.length->L162_1a (eSe p) (l.map eN) (taken.map eN) ((m+1:Nat):Int) k (l[k]:Nat) l.length taken.length q =
   match (if (taken.drop q).any (λt=>jc p t l[k]) then none else JL (enP p) (jc p) (l.drop (k+1)) (taken++[l[k]]) m:Ch) with
   | none=>qf (eSe p) (l.map eN) (taken.map eN) ((m+1:Nat):Int) l.length ((k+1:Nat):Int)
   | some (c,e)=>JC (eSe p) (l.map eN) (taken.map eN) ((m+1:Nat):Int) l.length ((k+1:Nat):Int) (c.map eN) e:=by
 have h8:=h.l;have hi8:l[k]<8:=by have:=hl _ (List.getElem_mem hk);omega
 apply down
 ·have hr:=hrec (taken++[l[k]]) m (by simp;omega) (λi hi=>hl i (List.mem_of_mem_drop hi)) (λi hi=>by
   rcases List.mem_append.1 hi with hi | hi
   ·exact ht i hi
   ·simp at hi;subst hi;exact hl _ (List.getElem_mem hk))
  rw[L162_1a_eq];have e2:((k:Int)+1)=((k+1:Nat):Int):=by omega
  have e3:(((m+1:Nat):Int) - 1)=(m:Int):=by omega
  have e4:(0:Int)<=((k+1:Nat):Int):=by omega
  have e5:k+1<=l.length:=by omega
  have e6:(2 * (taken.length+1)+200) * 8<=281474976710656:=by omega
  have w1:IntKind.i64.wrap ((k+1:Nat):Int)=((k+1:Nat):Int):=wr _ (by omega)
  have w2:IntKind.i64.wrap (m:Int)=(m:Int):=wr _ (by omega)
  have hdr:List.drop (k+1) (List.take l.length (List.map eN l))=(l.drop (k+1)).map eN:=by rw[List.take_of_length_le (by simp),List.map_drop]
  have htk:List.take (taken.map eN++[DV.int .i64 (l[k]:Int)]).length (taken.map eN++[DV.int .i64 (l[k]:Int)])=(taken++[l[k]]).map eN:=by rw[List.take_length];simp
  simp only[zG];simp only[Int.lt_irrefl,if_false,e2,w1,e4,if_true,Int.toNat_natCast,List.length_map,e5,Nat.le_refl,and_self,hdr,clone' p h taken (by omega),e3,w2,List.drop_zero,htk,List.drop_length,List.any_nil,Bool.false_eq_true]
  by_cases h0:taken=[]
  ·subst h0;simp only[if_true,zH,isNl,zB];simp only[List.nil_append,List.map_cons,List.map_nil] at hr;rw[hr];simp only[List.nil_append];cases JL (enP p) (jc p) (l.drop (k+1)) [l[k]] m with
   | none=>simp only[eR,zH,jA,jI,zK,zM,h266,h4,Bool.and_self,zB,zW,zi,za]
   | some x=>simp only[eR,zH,jA,jI,zK,zM,h266,h4,Bool.and_self,zB,zS,zW,zi,zR,zQ,zF]
  ·simp only[h0,if_false,JA,beq_self_eq_true,zB,List.length_append,List.length_map,List.length_cons,List.length_nil,Nat.zero_add,Nat.le_refl,if_true,e6];rw[show taken.length+1=(taken.map eN++[DV.int .i64 (l[k]:Int)]).length by simp,htk,hr]
   cases JL (enP p) (jc p) (l.drop (k+1)) (taken++[l[k]]) m with
   | none=>simp only[eR,zH,jA,jI,zK,zM,h266,h4,Bool.and_self,zB,zW,zi,za]
   | some x=>simp only[eR,zH,jA,jI,zK,zM,h266,h4,Bool.and_self,zB,zS,zW,zi,zR,zQ,zF]
 ·intro q hq ih;have ht8:taken[q]<8:=by have:=ht _ (List.getElem_mem hq);omega
  have e1:(q:Int)<taken.length:=by omega
  have e0:(0:Int)<=(q:Int):=by omega
  have e2:(0:Int)<=(taken[q]:Int):=by omega
  have e3:(0:Int)<=(l[k]:Int):=by omega
  have hn:=near_get p h taken[q] l[k] ht8 hi8;rw[L162_1a_eq,zT taken q hq,List.any_cons];simp only[zG];simp only[List.length_map,e1,e0,e2,e3,and_self,if_true,Int.toNat_natCast,zI _ taken q hq,h3,zB,zF,hn,h4,zi];have a1:isAg 16 2 (eSe p)=true:=rfl;have a2:isAg 15 taken[q] (nth (flds (eSe p)) 2)=true:=by simp[isAg];omega
  have a3:isAg 14 l[k] (nth (flds (nth (flds (eSe p)) 2)) taken[q])=true:=by
   have e1:nth (flds (nth (flds (eSe p)) 2)) taken[q]=.agg 14 ((List.range 8).map λi=>.bool (jc p taken[q] i)):=by
    show nth ((List.range 8).map λj=>.agg 14 ((List.range 8).map λi=>.bool (jc p j i))) taken[q]=_
    rw[zI _ _ _ (by simpa using ht8),List.getElem_range]
   rw[e1];simp[isAg];omega
  simp only[a1,a2,a3,zB];rw[wr ((k:Int)+1) (by omega),wr ((q:Int)+1) (by omega),show((q:Int)+1)=((q+1:Nat):Int) by omega,show((k:Int)+1)=((k+1:Nat):Int) by omega]
  cases hnn:jc p taken[q] l[k] with
  | true=>simp
  | false=>simp only[za,ih,Bool.false_or]
theorem l162_1b(c0:List Nat)(e0':Int)(l taken:List Nat)(m:Nat)(hm:taken.length+(m+1)<=64)(k:Nat)(hk:k<l.length)(hll:l.length<=1000)(hl:∀i∈l,i<p.ps.length)(ht:∀i∈taken,i<p.ps.length)(hrec:Rec p (l.drop (k+1))) :
  ∀q,q<=taken.length->L162_1b (eSe p) (l.map eN) (taken.map eN) ((m+1:Nat):Int) k (l[k]:Nat) l.length taken.length q (c0.map eN) e0' =
   match (if (taken.drop q).any (λt=>jc p t l[k]) then none else JL (enP p) (jc p) (l.drop (k+1)) (taken++[l[k]]) m:Ch) with
   | none=>JC (eSe p) (l.map eN) (taken.map eN) ((m+1:Nat):Int) l.length ((k+1:Nat):Int) (c0.map eN) e0'
   | some (c,e)=>if e>e0' then JC (eSe p) (l.map eN) (taken.map eN) ((m+1:Nat):Int) l.length ((k+1:Nat):Int) (c.map eN) e else JC (eSe p) (l.map eN) (taken.map eN) ((m+1:Nat):Int) l.length ((k+1:Nat):Int) (c0.map eN) e0':=by
 have h8:=h.l;have hi8:l[k]<8:=by have:=hl _ (List.getElem_mem hk);omega
 apply down
 ·have hr:=hrec (taken++[l[k]]) m (by simp;omega) (λi hi=>hl i (List.mem_of_mem_drop hi)) (λi hi=>by
   rcases List.mem_append.1 hi with hi | hi
   ·exact ht i hi
   ·simp at hi;subst hi;exact hl _ (List.getElem_mem hk))
  rw[L162_1b_eq];have e2:((k:Int)+1)=((k+1:Nat):Int):=by omega
  have e3:(((m+1:Nat):Int) - 1)=(m:Int):=by omega
  have e4:(0:Int)<=((k+1:Nat):Int):=by omega
  have e5:k+1<=l.length:=by omega
  have e6:(2 * (taken.length+1)+200) * 8<=281474976710656:=by omega
  have w1:IntKind.i64.wrap ((k+1:Nat):Int)=((k+1:Nat):Int):=wr _ (by omega)
  have w2:IntKind.i64.wrap (m:Int)=(m:Int):=wr _ (by omega)
  have hdr:List.drop (k+1) (List.take l.length (List.map eN l))=(l.drop (k+1)).map eN:=by rw[List.take_of_length_le (by simp),List.map_drop]
  have htk:List.take (taken.map eN++[DV.int .i64 (l[k]:Int)]).length (taken.map eN++[DV.int .i64 (l[k]:Int)])=(taken++[l[k]]).map eN:=by rw[List.take_length];simp
  simp only[zG];simp only[Int.lt_irrefl,if_false,e2,w1,e4,if_true,Int.toNat_natCast,List.length_map,e5,Nat.le_refl,and_self,hdr,clone' p h taken (by omega),e3,w2,List.drop_zero,htk,List.drop_length,List.any_nil,Bool.false_eq_true]
  by_cases h0:taken=[]
  ·subst h0;simp only[if_true,zH,isNl,zB];simp only[List.nil_append,List.map_cons,List.map_nil] at hr;rw[hr];simp only[List.nil_append];cases JL (enP p) (jc p) (l.drop (k+1)) [l[k]] m with
   | none=>simp only[eR,zH,jA,jI,zK,zM,h266,h4,Bool.and_self,zB,zW,zi,za]
   | some x=>simp only[eR,zH,jA,jI,zK,zM,h266,h4,Bool.and_self,zB,zS,zW,zi,zR,zQ,zF];rfl
  ·simp only[h0,if_false,JA,beq_self_eq_true,zB,List.length_append,List.length_map,List.length_cons,List.length_nil,Nat.zero_add,Nat.le_refl,if_true,e6];rw[show taken.length+1=(taken.map eN++[DV.int .i64 (l[k]:Int)]).length by simp,htk,hr]
   cases JL (enP p) (jc p) (l.drop (k+1)) (taken++[l[k]]) m with
   | none=>simp only[eR,zH,jA,jI,zK,zM,h266,h4,Bool.and_self,zB,zW,zi,za]
   | some x=>simp only[eR,zH,jA,jI,zK,zM,h266,h4,Bool.and_self,zB,zS,zW,zi,zR,zQ,zF];rfl
 ·intro q hq ih;have ht8:taken[q]<8:=by have:=ht _ (List.getElem_mem hq);omega
  have e1:(q:Int)<taken.length:=by omega
  have e0:(0:Int)<=(q:Int):=by omega
  have e2:(0:Int)<=(taken[q]:Int):=by omega
  have e3:(0:Int)<=(l[k]:Int):=by omega
  have hn:=near_get p h taken[q] l[k] ht8 hi8;rw[L162_1b_eq,zT taken q hq,List.any_cons];simp only[zG];simp only[List.length_map,e1,e0,e2,e3,and_self,if_true,Int.toNat_natCast,zI _ taken q hq,h3,zB,zF,hn,h4,zi];have a1:isAg 16 2 (eSe p)=true:=rfl;have a2:isAg 15 taken[q] (nth (flds (eSe p)) 2)=true:=by simp[isAg];omega
  have a3:isAg 14 l[k] (nth (flds (nth (flds (eSe p)) 2)) taken[q])=true:=by
   have e1:nth (flds (nth (flds (eSe p)) 2)) taken[q]=.agg 14 ((List.range 8).map λi=>.bool (jc p taken[q] i)):=by
    show nth ((List.range 8).map λj=>.agg 14 ((List.range 8).map λi=>.bool (jc p j i))) taken[q]=_
    rw[zI _ _ _ (by simpa using ht8),List.getElem_range]
   rw[e1];simp[isAg];omega
  simp only[a1,a2,a3,zB];rw[wr ((k:Int)+1) (by omega),wr ((q:Int)+1) (by omega),show((q:Int)+1)=((q+1:Nat):Int) by omega,show((k:Int)+1)=((k+1:Nat):Int) by omega]
  cases hnn:jc p taken[q] l[k] with
  | true=>simp
  | false=>simp only[za,ih,Bool.false_or]
theorem l162_0(l taken:List Nat)(m:Nat)(hm:taken.length+(m+1)<=64)(hll:l.length<=1000)(hl:∀i∈l,i<p.ps.length)(ht:∀i∈taken,i<p.ps.length)(hrec:∀k,k<l.length->Rec p (l.drop (k+1))) :
  ∀k,k<=l.length->qf (eSe p) (l.map eN) (taken.map eN) ((m+1:Nat):Int) l.length k=some (eR (JL (enP p) (jc p) (l.drop k) taken (m+1))) /\
   ∀(c:List Nat) (e:Int),JC (eSe p) (l.map eN) (taken.map eN) ((m+1:Nat):Int) l.length k (c.map eN) e=some (eR (pick (some (c,e)) (JL (enP p) (jc p) (l.drop k) taken (m+1)))):=by
 apply down (P:=λk=>qf (eSe p) (l.map eN) (taken.map eN) ((m+1:Nat):Int) l.length k=some (eR (JL (enP p) (jc p) (l.drop k) taken (m+1))) /\
   ∀(c:List Nat) (e:Int),JC (eSe p) (l.map eN) (taken.map eN) ((m+1:Nat):Int) l.length k (c.map eN) e=some (eR (pick (some (c,e)) (JL (enP p) (jc p) (l.drop k) taken (m+1)))))
 ·refine⟨?_,λc e=>?_⟩
  ·rw[zBX];simp[JL,eR]
  ·rw[L162_0b_eq];simp[JL,eR,pick]
 ·rintro k hk ⟨ih1,ih2⟩;have e1:(k:Int)<l.length:=by omega
  have e0:(0:Int)<=(k:Int):=by omega
  rw[zT l k hk];refine⟨?_,λc e=>?_⟩
  ·have h1:=l162_1a p h l taken m hm k hk hll hl ht (hrec k hk) 0 (Nat.zero_le _);rw[show((0:Nat):Int)=0 from rfl,List.drop_zero] at h1
   rw[zBX,JL];simp only[zG];simp only[List.length_map,e1,e0,and_self,if_true,Int.toNat_natCast,zI _ l k hk,h3,zB,zF];rw[h1];cases (if taken.any (λt=>jc p t l[k]) then none else JL (enP p) (jc p) (l.drop (k+1)) (taken++[l[k]]) m:Ch) with
   | none=>exact ih1
   | some x=>exact ih2 x.1 x.2
  ·have h1:=l162_1b p h c e l taken m hm k hk hll hl ht (hrec k hk) 0 (Nat.zero_le _);rw[show((0:Nat):Int)=0 from rfl,List.drop_zero] at h1
   rw[L162_0b_eq,JL,<-pick_assoc];simp only[zG];simp only[List.length_map,e1,e0,and_self,if_true,Int.toNat_natCast,zI _ l k hk,h3,zB,zF];rw[h1];cases (if taken.any (λt=>jc p t l[k]) then none else JL (enP p) (jc p) (l.drop (k+1)) (taken++[l[k]]) m:Ch) with
   | none=>rw[pick_none];exact ih2 c e
   | some x =>
    obtain⟨c',e'⟩:=x;simp only[pick];by_cases hx:e'>e
    ·rw[if_pos hx,if_pos hx];exact ih2 c' e'
    ·rw[if_neg hx,if_neg hx];exact ih2 c e
theorem rec_all:∀(N:Nat) (l:List Nat),l.length<=N->l.length<=1000->Rec p l:=by
 intro N;induction N with
 | zero =>
  intro l hl h1000 taken n hn hi ht;have:l=[]:=List.eq_nil_of_length_eq_zero (by omega)
  subst this;rw[C162];simp only[zK,zM,h268,h25,h3,Bool.and_self,zB,qa,zQ,zF];cases n with
  | zero =>
   simp only[Int.natCast_zero,beq_self_eq_true,zB,c242 p h taken (by omega) ht,zH,h3,zF]
   rfl
  | succ m =>
   have hb:(((m+1:Nat):Int) == (0:Int))=false:=by simp;omega
   rw[hb,za,zBX];simp[JL,eR]
 | succ N ih =>
  intro l hl h1000 taken n hn hi ht;rw[C162];simp only[zK,zM,h268,h25,h3,Bool.and_self,zB,qa,zQ,zF];cases n with
  | zero =>
   simp only[Int.natCast_zero,beq_self_eq_true,zB,c242 p h taken (by omega) ht,zH,h3,zF]
   cases l <;> rfl
  | succ m =>
   have hb:(((m+1:Nat):Int) == (0:Int))=false:=by simp;omega
   have:=(l162_0 p h l taken m hn h1000 hi ht (λk hk=>ih _ (by simp;omega) (by simp;omega)) 0 (Nat.zero_le _)).1
   rw[hb,za,List.length_map];rw[show((0:Nat):Int)=0 from rfl,List.drop_zero] at this
   exact this
theorem c162(l taken:List Nat)(n:Nat)(hll:l.length<=1000)(hn:taken.length+n<=64)(hl:∀i∈l,i<p.ps.length)(ht:∀i∈taken,i<p.ps.length) :
  zA 162 [.dp (eSe p),.sl 1 (l.map eN),.sl 1 (taken.map eN),eN n]=some (eR (JL (enP p) (jc p) l taken n)):=rec_all p h l.length l (Nat.le_refl _) hll taken n hn hl ht
end
theorem l163(n:Nat)(hn:n<=1000):∀k,k<=n->0<k->L163_0b ((List.range k).map eN) n k=some (.val (.sl 1 ((List.range n).map eN))):=by
 apply down (P:=λk=>0<k->L163_0b ((List.range k).map eN) n k=some (.val (.sl 1 ((List.range n).map eN))))
 ·intro _;rw[L163_0b_eq];simp only[zG,Int.lt_irrefl,if_false,List.length_map,List.length_range,Nat.zero_add,Nat.le_refl,if_true,List.drop_zero];rw[List.take_of_length_le (by simp)]
 ·intro k hk ih h0;have e1:(k:Int)<n:=by omega
  have e2:(2 * (k+1)+200) * 8<=281474976710656:=by omega
  rw[<-ih (by omega),L163_0b_eq]
  simp only[zG,List.length_map,List.length_range,e1,e2,if_true];rw[wr ((k:Int)+1) (by omega),List.range_succ,List.map_append]
  rfl
theorem c163(p:Pn)(hr:zm p.r)(hl:p.ps.length<=1000):zA 163 [ePn p]=some (.val (.sl 1 ((List.range p.ps.length).map eN))):=by
 rw[C163];simp only[zK,zM,hPn p hr,Bool.and_self,zB,zR,zS,zQ,List.length_map];rw[L163_0a_eq];simp only[zG];by_cases h:p.ps.length=0
 ·simp[h]
 ·have:=l163 p.ps.length hl 1 (by omega) (by omega)
  rw[if_pos (by omega)]
  exact this
def bestF(p:Pn)(n:Int):List Nat×Int×Int :=
 if bestE p n=0 then (match JL (enP p) (jc p) (List.range p.ps.length) [] n.toNat with | none=>([],0,24) | some (c,e)=>(c,e,0)) else ([],0,bestE p n)
theorem c44[KnW][KnS](p:Pn)(hr:zm p.r)(n:Int):zA 44 [ePn p,eI n]=some (.val (.tup [.sl 1 ((bestF p n).1.map eN),eI (bestF p n).2.1,eI (bestF p n).2.2])):=by
 rw[C44];simp only[zK,zM,hPn p hr,h3,Bool.and_self,zB,zR,zS,zW,zb,ze,QM,zX,zF,zQ,List.length_map,c160 p hr,zH,h46,c149,qY];have hbe:zL [fewE p,zV n 0 p.ps.length]=bestE p n:=rfl;rw[hbe];unfold bestF;by_cases h0:bestE p n=0
 ·obtain⟨h1,h2⟩:=zy h0;have h2:=range_zero.1 (zy h2).1;have hp:=fewE_ok h1 hr;obtain⟨k,rfl⟩:∃k:Nat,n=k:=⟨n.toNat,by omega⟩
  have hl8:=hp.l;have hc:=c162 p hp (List.range p.ps.length) [] k (by simp;omega) (by simp;omega) (λi hi=>by simpa using hi) (λi hi=>by simp at hi)
  simp only[List.map_nil] at hc;rw[if_pos h0];simp only[bne0 h0,za,KnS.search p hr hp.l hp.v.p hp.least.1 hp.least.2,zH,h268,zB,qa,c163 p hr (by omega),h25,zQ,hc,Int.toNat_natCast]
  cases JL (enP p) (jc p) (List.range p.ps.length) [] k with
  | none=>simp[eR]
  | some x=>simp[eR]
 ·rw[if_neg h0];simp[bne1 h0]
end Go.Am
namespace Go.Am
open Go.Proofs
open Go Go.RowKit
theorem enters{f:FuncId}{fn:Func}(h:PP.funcs[f]? = some fn)(h1:(fn.name == "runtime.NumGoroutine")=false)(h2:fn.body.isNone=false):Enters PP f:=⟨fn,h,h1,h2⟩
def T243(ds:List DV)(r:CR):Prop:=∃l:List Int,l.length<=100000/\ds=[.sl 1 (l.map eI)]/\r=Jl l
def T210(ds:List DV)(r:CR):Prop:=∃n:Int,-9223372036854775808<=n/\n<=9223372036854775807/\ds=[eI n]/\r=.val (.str ⟨(Lib.itoa n).toArray⟩)
def T208(ds:List DV)(r:CR):Prop:=∃(l:List ByteArray) (s:ByteArray),l.length<=1000/\(∀x∈l,x.size<=1000)/\s.size<=1000/\ds=[.sl 1 (l.map .str),.str s] /\
 r=.val (.str ⟨(Lib.join (l.map (·.data.toList)) s.data.toList).toArray⟩)
theorem at243(ds:List DV)(r:CR):T243 ds r->QZ PP EE 243 ds r:=by
 rintro⟨l,hl,rfl,rfl⟩;refine⟨enters Tryz.func243 (by kernel_rfl) (by kernel_rfl),λS w vals hg hlt hlen hv=>?_⟩
 obtain⟨v,rfl⟩:∃v,vals=[v]:=List.length_eq_one_iff.1 hlen;have h0:=hv 0 (by simp) (by simp)
 simp only[List.getElem_cons_zero] at h0;obtain⟨a,c,e,hc,hm⟩:=RD.sl1 (g:=Value.int .i64) (λx cs h=>RD.int1 h) (RV.rd rfl h0).1
 obtain rfl:=slice_of h0 rfl rfl e;by_cases h:l=[]
 ·subst h;rw[show Jl []=.val .nl from rfl]
  cases a with
  | none=>exact(Tryz.slices_Clone_int_nil 0 c w).mono λe w' ⟨h1,h2⟩=>⟨_,h1,by subst h2;exact Qu hlt (Below.refl _ _) ⟨RD.nl none,rfl⟩⟩
  | some ad=>exact(clone_zero Tryz.laysNm215 ad c w).mono λe w' ⟨ad',h1,h2⟩=>⟨_,h1,Qu hlt h2 ⟨RD.nl (some ad'),rfl⟩⟩
 ·rw[show Jl l=.fresh 1 (l.map eI) from if_neg h]
  have h0:0<l.length:=List.length_pos_iff.2 h;obtain⟨ad,rfl,hsp,hS,hcell⟩:=hm h0;have ead:ad=⟨ad.block,ad.off,none⟩:=by rw[<-hsp]
  rw[ead];refine(Tryz.slices_Clone_int ad.block ad.off l.length c l w (Nat.le_refl _) (by omega) (λj hj=>?_)).mono λe w' ⟨v',h1,hown,hne,hB⟩=>⟨v',h1,?_⟩
  ·have:=hcell j l[j] (List.getElem?_eq_getElem hj);rw[jo hsp] at this;rw[this,List.getD_eq_getElem?_getD,List.getElem?_eq_getElem hj];rfl
  ·rcases hown.2 with ⟨h2,_⟩ | ⟨g,cap,cur,rfl,hg1,hg2,hg3,hg4,hg5,hg6⟩
   ·exact absurd h2 hne
   ·refine⟨S,hB,λ_ h=>h,λ_ h=>.inl h,λb hb=>Nat.lt_of_lt_of_le (hlt b hb) hB.size,g,hg1,λhx=>absurd (hlt g hx) (by omega),λφ=>?_,λφ s hs=>?_⟩
    ·refine⟨cur,3,(l.map λm=>[Value.int .i64 m]),hg2,by simp,λi h h'=>?_,λc hc=>?_,?_⟩
     ·simp only[List.getElem_map];exact .int _ _
     ·obtain⟨m,_,rfl⟩:=List.mem_map.1 hc;rfl
     ·rw[flat1 (Value.int .i64),List.prefix_iff_eq_take,List.length_map];rw[List.take_of_length_le (Nat.le_refl _),Nat.mul_one] at hg6;exact hg6.symm
    ·refine⟨?_,rfl⟩;have:=RA.own (L:=EE.L) (S:=S) (φ:=φ) (w:=w') s 0 l.length 1 g cap hs hg3 ⟨cur,3,hg2,by omega⟩
     simpa[vcs,Value.cells] using this
theorem at210(ds:List DV)(r:CR):T210 ds r->QZ PP EE 210 ds r:=by
 rintro⟨n,hn1,hn2,rfl,rfl⟩;refine⟨enters Tryz.func210 (by kernel_rfl) (by kernel_rfl),λS w vals hg hlt hlen hv=>?_⟩
 obtain⟨v,rfl⟩:∃v,vals=[v]:=List.length_eq_one_iff.1 hlen;have h0:=hv 0 (by simp) (by simp)
 simp only[List.getElem_cons_zero] at h0;have e:=RD.int1 (RV.rd rfl h0).1;rw[jF (RV.rd rfl h0).2] at e;obtain rfl:v=.int .i64 n:=by simpa using e
 obtain⟨hS,t,fr,hw⟩:=hg.tab 5 (Lib.pow10Tab.map λz=>Value.int .u64 z).toArray (by kernel_rfl)
 have hT:Lib.TabIs PP w "internal/strconv.uint64pow10" .u64 Lib.pow10Tab:=by
  unfold Lib.TabIs World.var?;rw[show PP.globalNamed "internal/strconv.uint64pow10"=some 5 by kernel_rfl]
  simp only[Option.bind_some,hw]
 exact(Tryz.strconv_Itoa n hn1 hn2 w hT).mono λe w' ⟨h1,k,os,h2⟩=>⟨_,h1,Qu hlt (h2 ▸ Lib.below_grow _ _ (Nat.le_refl _) k os) ⟨RD.str _,rfl⟩⟩
theorem join_len(s:List UInt8)(hs:s.length<=1000):∀l:List (List UInt8),(∀x∈l,x.length<=1000)->(Lib.join l s).length<=l.length * 2000
 | [],_=>by simp[Lib.join]
 | [x],h=>by have:=h x (by simp);simp[Lib.join];omega
 | x :: y :: l,h=>by
  have h1:=h x (by simp)
  have h2:=join_len s hs (y :: l) λz hz=>h z (by simp[hz])
  rw[show Lib.join (x :: y :: l) s=x++s++Lib.join (y :: l) s by first | rfl | simp[Lib.join]]
  simp only[List.length_append,List.length_cons] at h2 ⊢;omega
theorem at208(ds:List DV)(r:CR):T208 ds r->QZ PP EE 208 ds r:=by
 rintro⟨l,s,hl,hx,hs,rfl,rfl⟩;refine⟨enters Tryz.func208 (by kernel_rfl) (by kernel_rfl),λS w vals hg hlt hlen hv=>?_⟩
 obtain⟨v,v2,rfl⟩:∃v v2,vals=[v,v2]:=by
  match vals,hlen with
  | [a,b],_=>exact⟨a,b,rfl⟩
 have h0:=hv 0 (by simp) (by simp)
 have h1:=hv 1 (by simp) (by simp)
 simp only[List.getElem_cons_zero,List.getElem_cons_succ] at h0 h1;have e:=RD.str1 (RV.rd rfl h1).1;rw[jF (RV.rd rfl h1).2] at e;obtain rfl:v2=.string s:=by simpa using e
 obtain⟨a,c,e,hc,hm⟩:=RD.sl1 (g:=Value.string) (λx cs h=>RD.str1 h) (RV.rd rfl h0).1
 obtain rfl:=slice_of h0 rfl rfl e;by_cases h:l=[]
 ·subst h;exact(Tryz.strings_Join_none a c s w).mono λe w' ⟨h1,h2⟩=>⟨_,h1,by subst h2;exact Qu hlt (Below.refl _ _) ⟨RD.str _,rfl⟩⟩
 ·have h0:0<l.length:=List.length_pos_iff.2 h;obtain⟨ad,rfl,hsp,hS,hcell⟩:=hm h0;have ead:ad=⟨ad.block,ad.off,none⟩:=by rw[<-hsp]
  rw[ead];have hln:=join_len s.data.toList (by simpa using hs) (l.map (·.data.toList)) (λx hx'=>by
   obtain⟨y,hy,rfl⟩:=List.mem_map.1 hx';have:=hx y hy;simpa using this)
  rw[List.length_map] at hln;exact(Tryz.strings_Join ad.block ad.off c l s w (λj x hx=>by have:=hcell j x hx;rwa [jo hsp] at this) (hlt _ hS) (by omega) hc (by omega)).mono
   λe w' ⟨h1,h2⟩=>⟨_,h1,Qu hlt h2 ⟨RD.str _,rfl⟩⟩
end Go.Am
namespace Go.Am
open Go.Proofs
open Go
variable[OO]
theorem C154:zA 154 [] =
 some (.val (.agg 4 [(.agg 0 [(.str (bs [115])),(eI 1),(.sl 3 [(.agg 9 [(.str (bs [97])),(.agg 1 [(eI 0),(eI 2)])]),(.agg 9 [(.str (bs [98])),(.agg 1 [(eI 0),(eI 1)])]),(.agg 9 [(.str (bs [99])),(.agg 1 [(eI 1),(eI 0)])])])]),(.agg 0 [(.str (bs [115,117,109])),(.sl 1 [(eI 128),(eI 64)]),(.sl 1 [(eI 0),(eI 1)])]),(.agg 1 [(.sl 1 [(eI 0),(eI 0),(eI 100),(eI 300),(eI 300)]),(eI 5)]),(.agg 3 [(.agg 2 [(eI 0),(eI 0),(eI 0),(eI 0),(eI 2),(eI 0),(eI 0),(eI 0),(eI 0),(eI 0),(eI 0),(eI 0),(eI 0),(eI 0),(eI 0),(eI 0),(eI 0),(eI 0),(eI 0),(eI 0),(eI 0),(eI 0),(eI 0),(eI 0),(eI 0),(eI 0),(eI 0),(eI 0),(eI 0),(eI 0),(eI 0),(eI 0),(eI 0),(eI 0),(eI 0),(eI 0),(eI 0),(eI 0),(eI 0),(eI 0),(eI 0),(eI 0),(eI 0),(eI 0),(eI 0),(eI 0),(eI 0),(eI 0),(eI 0),(eI 0),(eI 0)]),(.agg 2 (List.replicate (α:=DV) 51 (eI 0))),(.agg 2 (List.replicate (α:=DV) 51 (eI 0))),(.agg 2 (List.replicate (α:=DV) 51 (eI 0))),(.agg 2 (List.replicate (α:=DV) 51 (eI 0))),(.agg 2 (List.replicate (α:=DV) 51 (eI 0))),(.agg 2 (List.replicate (α:=DV) 51 (eI 0))),(.agg 2 (List.replicate (α:=DV) 51 (eI 0)))])])) :=
 (zE (f:=154) (by kernel_rfl) (by kernel_rfl) (by kernel_rfl) []).trans (by kernel_rfl)
theorem C155:zA 155 [] =
 zC (zA 154 [])
 (λr0=>ifO (hasT EE 6 62 r0)
 (some (.val (.agg 6 [(.sl 2 [(.agg 1 [(eI 0),(eI 2)]),(.agg 1 [(eI 0),(eI 1)]),(.agg 1 [(eI 1),(eI 1)])]),(eI 1),(.agg 0 [(.str (getS (nth (flds (nth (flds r0) 1)) 0))),(.sl 1 (elems (nth (flds (nth (flds r0) 1)) 1))),(.sl 1 (elems (nth (flds (nth (flds r0) 1)) 2)))]),(.agg 1 [(.sl 1 (elems (nth (flds (nth (flds r0) 2)) 0))),(eI (getI (nth (flds (nth (flds r0) 2)) 1)))]),(.agg 3 (flds (nth (flds r0) 3)))])))
 (none))
 (λ_ _=>none) :=
 (zE (f:=155) (by kernel_rfl) (by kernel_rfl) (by kernel_rfl) []).trans (by kernel_rfl)
end Go.Am
namespace Go.Am
open Go.Proofs
open Go
variable[OO]
theorem C33:zA 33 [] =
 zC (zA 154 [])
 (λr0=>ifO (hasT EE 6 62 r0)
 (zC (zA 64 [(.agg 0 [(.str (getS (nth (flds (nth (flds r0) 0)) 0))),(eI (getI (nth (flds (nth (flds r0) 0)) 1))),(.sl 3 (elems (nth (flds (nth (flds r0) 0)) 2)))]),(eI 0),(eI 0),(eI 2)])
 (λr1=>ifO ((DV.isTup r1) && (zP (hasT EE 6) [3,3,46] (tups r1)))
 (zC (zA 64 [(.agg 0 [(.str (getS (nth (flds (nth (flds r0) 0)) 0))),(eI (getI (nth (flds (nth (flds r0) 0)) 1))),(.sl 3 (elems (nth (flds (nth (flds r0) 0)) 2)))]),(eI 1),(eI 0),(eI 2)])
 (λr2=>ifO ((DV.isTup r2) && (zP (hasT EE 6) [3,3,46] (tups r2)))
 (zC (zA 77 [(.agg 0 [(.str (getS (nth (flds (nth (flds r0) 0)) 0))),(eI (getI (nth (flds (nth (flds r0) 0)) 1))),(.sl 3 (elems (nth (flds (nth (flds r0) 0)) 2)))]),(.agg 0 [(.str (getS (nth (flds (nth (flds r0) 1)) 0))),(.sl 1 (elems (nth (flds (nth (flds r0) 1)) 1))),(.sl 1 (elems (nth (flds (nth (flds r0) 1)) 2)))]),(eI 0)])
 (λr3=>ifO ((DV.isTup r3) && (zP (hasT EE 6) [25,46] (tups r3)))
 (zC (zA 68 [(.agg 0 [(.str (getS (nth (flds (nth (flds r0) 0)) 0))),(eI (getI (nth (flds (nth (flds r0) 0)) 1))),(.sl 3 (elems (nth (flds (nth (flds r0) 0)) 2)))]),(eI 0)])
 (λr4=>ifO ((DV.isTup r4) && (zP (hasT EE 6) [25,46] (tups r4)))
 (zC (zA 78 [(.agg 0 [(.str (getS (nth (flds (nth (flds r0) 0)) 0))),(eI (getI (nth (flds (nth (flds r0) 0)) 1))),(.sl 3 (elems (nth (flds (nth (flds r0) 0)) 2)))]),(.agg 0 [(.str (getS (nth (flds (nth (flds r0) 1)) 0))),(.sl 1 (elems (nth (flds (nth (flds r0) 1)) 1))),(.sl 1 (elems (nth (flds (nth (flds r0) 1)) 2)))]),(eI 0),(eI 4)])
 (λr5=>ifO ((DV.isTup r5) && (zP (hasT EE 6) [25,46] (tups r5)))
 (zC (zA 32 [(.agg 4 [(.agg 0 [(.str (getS (nth (flds (nth (flds r0) 0)) 0))),(eI (getI (nth (flds (nth (flds r0) 0)) 1))),(.sl 3 (elems (nth (flds (nth (flds r0) 0)) 2)))]),(.agg 0 [(.str (getS (nth (flds (nth (flds r0) 1)) 0))),(.sl 1 (elems (nth (flds (nth (flds r0) 1)) 1))),(.sl 1 (elems (nth (flds (nth (flds r0) 1)) 2)))]),(.agg 1 [(.sl 1 (elems (nth (flds (nth (flds r0) 2)) 0))),(eI (getI (nth (flds (nth (flds r0) 2)) 1)))]),(.agg 3 (flds (nth (flds r0) 3)))]),(eI 0),(eI 4)])
 (λr6=>ifO ((DV.isTup r6) && (zP (hasT EE 6) [25,46] (tups r6)))
 (zC (zA 32 [(.agg 4 [(.agg 0 [(.str (getS (nth (flds (nth (flds r0) 0)) 0))),(eI (getI (nth (flds (nth (flds r0) 0)) 1))),(.sl 3 (elems (nth (flds (nth (flds r0) 0)) 2)))]),(.agg 0 [(.str (getS (nth (flds (nth (flds r0) 1)) 0))),(.sl 1 (elems (nth (flds (nth (flds r0) 1)) 1))),(.sl 1 (elems (nth (flds (nth (flds r0) 1)) 2)))]),(.agg 1 [(.sl 1 (elems (nth (flds (nth (flds r0) 2)) 0))),(eI (getI (nth (flds (nth (flds r0) 2)) 1)))]),(.agg 3 (flds (nth (flds r0) 3)))]),(eI 0),(eI 5)])
 (λr7=>ifO ((DV.isTup r7) && (zP (hasT EE 6) [25,46] (tups r7)))
 (zC (zA 106 [(.agg 1 [(.sl 1 (elems (nth (flds (nth (flds r0) 2)) 0))),(eI (getI (nth (flds (nth (flds r0) 2)) 1)))]),(eI 640)])
 (λr8=>ifO ((DV.isTup r8) && (zP (hasT EE 6) [3,46] (tups r8)))
 (ifO (bne (IntKind.wrap .i64 ((IntKind.wrap .i64 ((IntKind.wrap .i64 ((IntKind.wrap .i64 ((IntKind.wrap .i64 ((IntKind.wrap .i64 ((IntKind.wrap .i64 ((getI (nth (tups r1) 2))+(getI (nth (tups r2) 2))))+(getI (nth (tups r3) 1))))+(getI (nth (tups r4) 1))))+(getI (nth (tups r5) 1))))+(getI (nth (tups r6) 1))))+(getI (nth (tups r7) 1))))+(getI (nth (tups r8) 1)))) (0:Int))
 (some (.val (.bool false)))
 (ifO (bne (getI (nth (tups r1) 0)) (2:Int))
 (some (.val (.bool false)))
 (ifO (bne (getI (nth (tups r1) 1)) (1:Int))
 (some (.val (.bool false)))
 (ifO (bne (getI (nth (tups r2) 0)) (0:Int))
 (some (.val (.bool false)))
 (ifO (bne (getI (nth (tups r2) 1)) (3:Int))
 (some (.val (.bool false)))
 (zC (zA 126 [(.sl 1 (elems (nth (tups r3) 0))),(.sl 1 [(eI 0),(eI 128),(eI 64)])])
 (λr9=>ifO (hasT EE 6 4 r9)
 (ifO (!(getB r9))
 (some (.val (.bool false)))
 (zC (zA 126 [(.sl 1 (elems (nth (tups r4) 0))),(.sl 1 [(eI 0),(eI 1),(eI 2)])])
 (λr10=>ifO (hasT EE 6 4 r10)
 (ifO (!(getB r10))
 (some (.val (.bool false)))
 (zC (zA 126 [(.sl 1 (elems (nth (tups r5) 0))),(.sl 1 [(eI 1024),(eI 512),(eI 768)])])
 (λr11=>ifO (hasT EE 6 4 r11)
 (ifO (!(getB r11))
 (some (.val (.bool false)))
 (zC (zA 126 [(.sl 1 (elems (nth (tups r6) 0))),(.sl 1 [(eI 76800),(eI 25600),(eI 76800)])])
 (λr12=>ifO (hasT EE 6 4 r12)
 (ifO (!(getB r12))
 (some (.val (.bool false)))
 (zC (zA 126 [(.sl 1 (elems (nth (tups r7) 0))),(.sl 1 [(eI 0),(eI 0),(eI 0)])])
 (λr13=>ifO (hasT EE 6 4 r13)
 (ifO (!(getB r13))
 (some (.val (.bool false)))
 (ifO (bne (getI (nth (tups r8) 0)) (51200:Int))
 (some (.val (.bool false)))
 (zC (zA 30 [(.agg 4 [(.agg 0 [(.str (getS (nth (flds (nth (flds r0) 0)) 0))),(eI (getI (nth (flds (nth (flds r0) 0)) 1))),(.sl 3 (elems (nth (flds (nth (flds r0) 0)) 2)))]),(.agg 0 [(.str (getS (nth (flds (nth (flds r0) 1)) 0))),(.sl 1 (elems (nth (flds (nth (flds r0) 1)) 1))),(.sl 1 (elems (nth (flds (nth (flds r0) 1)) 2)))]),(.agg 1 [(.sl 1 (elems (nth (flds (nth (flds r0) 2)) 0))),(eI (getI (nth (flds (nth (flds r0) 2)) 1)))]),(.agg 3 (flds (nth (flds r0) 3)))])])
 (λr14=>ifO ((DV.isTup r14) && (zP (hasT EE 6) [3,46] (tups r14)))
 (zC (zA 84 [(.agg 4 [(.agg 0 [(.str (getS (nth (flds (nth (flds r0) 0)) 0))),(eI (getI (nth (flds (nth (flds r0) 0)) 1))),(.sl 3 (elems (nth (flds (nth (flds r0) 0)) 2)))]),(.agg 0 [(.str (getS (nth (flds (nth (flds r0) 1)) 0))),(.sl 1 (elems (nth (flds (nth (flds r0) 1)) 1))),(.sl 1 (elems (nth (flds (nth (flds r0) 1)) 2)))]),(.agg 1 [(.sl 1 (elems (nth (flds (nth (flds r0) 2)) 0))),(eI (getI (nth (flds (nth (flds r0) 2)) 1)))]),(.agg 3 (flds (nth (flds r0) 3)))])])
 (λr15=>ifO ((DV.isTup r15) && (zP (hasT EE 6) [3,46] (tups r15)))
 (zC (zA 85 [(.agg 4 [(.agg 0 [(.str (getS (nth (flds (nth (flds r0) 0)) 0))),(eI (getI (nth (flds (nth (flds r0) 0)) 1))),(.sl 3 (elems (nth (flds (nth (flds r0) 0)) 2)))]),(.agg 0 [(.str (getS (nth (flds (nth (flds r0) 1)) 0))),(.sl 1 (elems (nth (flds (nth (flds r0) 1)) 1))),(.sl 1 (elems (nth (flds (nth (flds r0) 1)) 2)))]),(.agg 1 [(.sl 1 (elems (nth (flds (nth (flds r0) 2)) 0))),(eI (getI (nth (flds (nth (flds r0) 2)) 1)))]),(.agg 3 (flds (nth (flds r0) 3)))])])
 (λr16=>ifO ((DV.isTup r16) && (zP (hasT EE 6) [160,46] (tups r16)))
 (zC (zA 155 [])
 (λr17=>ifO (hasT EE 6 88 r17)
 (zC (zA 44 [(.agg 6 [(.sl 2 (elems (nth (flds r17) 0))),(eI (getI (nth (flds r17) 1))),(.agg 0 [(.str (getS (nth (flds (nth (flds r17) 2)) 0))),(.sl 1 (elems (nth (flds (nth (flds r17) 2)) 1))),(.sl 1 (elems (nth (flds (nth (flds r17) 2)) 2)))]),(.agg 1 [(.sl 1 (elems (nth (flds (nth (flds r17) 3)) 0))),(eI (getI (nth (flds (nth (flds r17) 3)) 1)))]),(.agg 3 (flds (nth (flds r17) 4)))]),(eI 2)])
 (λr18=>ifO ((DV.isTup r18) && (zP (hasT EE 6) [25,3,46] (tups r18)))
 (zC (zA 155 [])
 (λr19=>ifO (hasT EE 6 88 r19)
 (zC (zA 50 [(.agg 6 [(.sl 2 (elems (nth (flds r19) 0))),(eI (getI (nth (flds r19) 1))),(.agg 0 [(.str (getS (nth (flds (nth (flds r19) 2)) 0))),(.sl 1 (elems (nth (flds (nth (flds r19) 2)) 1))),(.sl 1 (elems (nth (flds (nth (flds r19) 2)) 2)))]),(.agg 1 [(.sl 1 (elems (nth (flds (nth (flds r19) 3)) 0))),(eI (getI (nth (flds (nth (flds r19) 3)) 1)))]),(.agg 3 (flds (nth (flds r19) 4)))]),(.sl 1 [(.sl 1 [(eI 0),(eI 1)]),(.sl 1 [(eI 2)])]),(eI 2)])
 (λr20=>ifO ((DV.isTup r20) && (zP (hasT EE 6) [3,46] (tups r20)))
 (zC (zA 108 [(.agg 1 [(.sl 1 (elems (nth (flds (nth (flds r0) 2)) 0))),(eI (getI (nth (flds (nth (flds r0) 2)) 1)))])])
 (λr21=>ifO ((DV.isTup r21) && (zP (hasT EE 6) [9,46] (tups r21)))
 (ifO ((IntKind.wrap .i64 ((IntKind.wrap .i64 ((IntKind.wrap .i64 ((IntKind.wrap .i64 ((IntKind.wrap .i64 ((getI (nth (tups r14) 1))+(getI (nth (tups r15) 1))))+(getI (nth (tups r16) 1))))+(getI (nth (tups r18) 2))))+(getI (nth (tups r20) 1))))+(getI (nth (tups r21) 1)))) == (0:Int))
 (ifO ((getI (nth (tups r14) 0)) == (358400:Int))
 (ifO ((getI (nth (tups r15) 0)) == (460800:Int))
 (ifO (ifO.match_1 (λy707=>Bool) false (λy298=>(!(Option.getD (eqOp EE 160 (.agg 1 [(eI (getI (nth (flds (nth (tups r16) 0)) 0))),(eI (getI (nth (flds (nth (tups r16) 0)) 1)))]) (.agg 1 [(eI 2),(eI 9)])) false))) (λy882=>(Option.getD (eqOp EE 160 (.agg 1 [(eI (getI (nth (flds (nth (tups r16) 0)) 0))),(eI (getI (nth (flds (nth (tups r16) 0)) 1)))]) (.agg 1 [(eI 2),(eI 9)])) false)))
 (zC (zA 126 [(.sl 1 (elems (nth (tups r18) 0))),(.sl 1 [(eI 0),(eI 2)])])
 (λr22=>ifO (hasT EE 6 4 r22)
 (ifO (getB r22)
 (ifO ((getI (nth (tups r18) 1)) == (307200:Int))
 (ifO ((getI (nth (tups r20) 0)) == (307200:Int))
 (some (.val (.bool ((ByteArray.toList (getS (nth (tups r21) 0))) == (ByteArray.toList (bs [53,32,48,32,48,32,49,48,48,32,51,48,48,32,51,48,48]))))))
 (some (.val (.bool false))))
 (some (.val (.bool false))))
 (some (.val (.bool false))))
 (none))
 (λ_ _=>none))
 (some (.val (.bool false))))
 (some (.val (.bool false))))
 (some (.val (.bool false))))
 (some (.val (.bool false))))
 (none))
 (λ_ _=>none))
 (none))
 (λ_ _=>none))
 (none))
 (λ_ _=>none))
 (none))
 (λ_ _=>none))
 (none))
 (λ_ _=>none))
 (none))
 (λ_ _=>none))
 (none))
 (λ_ _=>none))
 (none))
 (λ_ _=>none))))
 (none))
 (λ_ _=>none)))
 (none))
 (λ_ _=>none)))
 (none))
 (λ_ _=>none)))
 (none))
 (λ_ _=>none)))
 (none))
 (λ_ _=>none)))))))
 (none))
 (λ_ _=>none))
 (none))
 (λ_ _=>none))
 (none))
 (λ_ _=>none))
 (none))
 (λ_ _=>none))
 (none))
 (λ_ _=>none))
 (none))
 (λ_ _=>none))
 (none))
 (λ_ _=>none))
 (none))
 (λ_ _=>none))
 (none))
 (λ_ _=>none) :=
 (zE (f:=33) (by kernel_rfl) (by kernel_rfl) (by kernel_rfl) []).trans (by kernel_rfl)
end Go.Am
namespace Go.Am
open Go.Proofs
open Go
class KnO[OO]:Prop where
 order:∀(s:Si) (n:Int),zA 68 [eSi s,eI n]=some (.val (.tup [.sl 1 ((ji s n).1.map eN),eI (ji s n).2]))
variable[OO]
def lossP(lo fr:Int):Int×Int:=(Int.tdiv lo (Nat.gcd lo.toNat fr.toNat),Int.tdiv fr (Nat.gcd lo.toNat fr.toNat))
theorem l85(fr lo:Int)(h1:0<=fr/\fr<=1000000000000000000)(h2:0<=lo/\lo<=1000000000000000000):∀(b a:Nat),0<a\/0<b ->
  L85_0a fr lo a b=some (.val (.tup [.agg 1 [eI (Int.tdiv lo (Nat.gcd a b)),eI (Int.tdiv fr (Nat.gcd a b))],eI 0])):=by
 intro b;induction b using Nat.strongRecOn with
 | _ b ih =>
  intro a h0;rw[L85_0a_eq];by_cases hb:b=0
  ·subst hb;have ha:0<a:=by omega
   have hb0:(bne (((0:Nat):Int)) 0)=false:=rfl;have hbeq:((a:Int) == 0)=false:=by simp;omega
   have hw:∀x:Int,0<=x->x<=1000000000000000000->IntKind.i64.wrap (Int.tdiv x (a:Int))=Int.tdiv x (a:Int):=by
    intro x hx hx';have e:Int.tdiv x (a:Int)=x / (a:Int):=Int.tdiv_eq_ediv_of_nonneg hx;have q1:=Int.ediv_nonneg hx (show(0:Int)<=(a:Int) by omega)
    have q2:=Int.ediv_le_self (a:Int) hx;rw[e];exact wr _ (by omega)
   rw[hb0];simp only[za,hbeq,Bool.not_false,zB,Nat.gcd_zero_right,hw lo h2.1 h2.2,hw fr h1.1 h1.2]
  ·have hb0:(bne ((b:Nat):Int) 0)=true:=bne1 (by omega)
   have hbeq:((b:Int) == 0)=false:=by simp;omega
   have e:Int.tmod (a:Int) (b:Int)=((a % b:Nat):Int):=by rw[Int.tmod_eq_emod_of_nonneg (by omega)];simp
   have hlt:=Nat.mod_lt a (show 0<b by omega)
   rw[hb0];simp only[zB,hbeq,Bool.not_false,e];have hg:Nat.gcd b (a % b)=Nat.gcd a b:=by rw[Nat.gcd_comm a b,Nat.gcd_rec b a,Nat.gcd_comm]
   rw[ih (a % b) hlt b (by omega),hg]
def lossE(f:Fm):Int:=zL [jM f,if (jz f == 0)=true then 6 else 0]
theorem energy_b{f:Fm}(h:jM f=0)(hr:zm f.r):0<=enF f 0/\enF f 0<=jz f/\jz f<=100000000000000000:=by obtain⟨hv,hs⟩:=JG h hr;obtain⟨_,_,h3,_⟩:=firstL_4 h;have hi:=(curveGo_incr0 f.c.p (qw h3).2).1;have b1:=YU hv.c f.w hv.l 0 hr hv.q;have b2:=YU hv.c wkFree hv.l 0 hr hv.q;have b3:=energy_free_le hv.w hv.c hi hr hv.q (psOf f.s);unfold enF jz;rw[if_pos h,if_pos h];omega
theorem c85[KnW](f:Fm)(h:zm f.r):zA 85 [eFm f]=some (.val (.tup [.agg 1 [eI (if lossE f=0 then (lossP (jz f - enF f 0) (jz f)).1 else 0),eI (if lossE f=0 then (lossP (jz f - enF f 0) (jz f)).2 else 0)],eI (lossE f)])):=by
 rw[C85];simp only[zK,zM,hFm f h,Bool.and_self,zB,zR,zS,zW,zb,ze,zX,zF,zQ,c84 f h,zH,jA,jI,h3,h46,c169,qY];by_cases h0:lossE f=0
 ·obtain⟨k1,k2⟩:=zy h0;obtain⟨hv,hs⟩:=JG k1 h;have hl:=hv.l;rw[zn] at hl;have hen:jN f.w f.c f.r (psOf f.s) 0=enF f 0:=by unfold enF;rw[if_pos k1]
  have hb:=energy_b k1 h;have hz:¬jz f=0:=by intro hz;simp[hz,zL] at k2
  have key:=l85 (jz f) (jz f - enF f 0) (by omega) (by omega) (jz f).toNat (jz f - enF f 0).toNat (by omega)
  rw[show(((jz f).toNat:Nat):Int)=jz f by omega,show(((jz f - enF f 0).toNat:Nat):Int)=jz f - enF f 0 by omega] at key
  refine(congrArg (λb=>ifO b _ _) (show bne (lossE f) 0=false from bne0 h0)).trans ?_
  simp only[za,c144 f h,zH,hMd _ _ _ h,zB,c146 f.s (by omega),h81,zQ,zR,zS,zW,zb,zX,zF,c145 hv 0 (by omega),h3,hen,wr (jz f - enF f 0) (by omega),key,if_pos h0,lossP]
  rw[h0]
 ·refine(congrArg (λb=>ifO b _ _) (show bne (lossE f) 0=true from bne1 h0)).trans ?_
  simp only[zB,if_neg h0];rfl
def in64'(x:Int):Prop:=-9223372036854775808<=x/\x<=9223372036854775807
def itB(n:Int):ByteArray:=⟨(Lib.itoa n).toArray⟩
theorem itB_size(n:Int)(h0:-9223372036854775808<=n)(h1:n<=9223372036854775807):(itB n).size<=21:=Lib.itoa_length_le n h0 h1
def textB(c:Cu):ByteArray:=⟨(Lib.join ((c.cut :: c.p).map Lib.itoa) [32]).toArray⟩
section
variable[KnS]
theorem l209b(l:List Int)(hl:l.length<=1000)(hb:∀x∈l,in64' x):∀k,k<=l.length->L209_0b 210 [] [] ((l.take k).map λn=>.str (itB n)) (l.map eI) l.length k=some (.val (.sl 1 ((l.map itB).map .str))):=by
 apply down
 ·rw[L209_0b_eq];simp;exact(List.take_of_length_le (by simp)).trans (by simp)
 ·intro k hk ih;have e1:(k:Int)<l.length:=by omega
  have hx:=KnS.itoa l[k] (hb _ (List.getElem_mem hk)).1 (hb _ (List.getElem_mem hk)).2;have hx':zA 210 (z1 EE 210 [eI l[k]])=some (.val (.str (itB l[k]))):=(congrArg (zA 210) (show z1 EE 210 [eI l[k]]=[eI l[k]] by kernel_rfl)).trans hx
  have hm:min k l.length=k:=by omega
  have e2:(2 * (k+1)+200) * 16<=281474976710656:=by omega
  have e0:(0:Int)<=(k:Int):=by omega
  rw[<-ih,L209_0b_eq];simp only[zG];simp only[List.length_map,List.length_take,hm,e1,e0,e2,and_self,if_true,Int.toNat_natCast,zI _ l k hk,h3,zB,zF,List.nil_append,List.append_nil,hx',zH,h9,zX];rw[wr ((k:Int)+1) (by omega),List.take_succ_eq_append_getElem hk,List.map_append]
  rfl
theorem c209(l:List Int)(hl:l.length<=1000)(hb:∀x∈l,in64' x):zA 209 [.sl 1 (l.map eI),.fn 210 [] []]=some (.val (.sl 1 ((l.map itB).map .str))):=by
 rw[C209];simp only[zK,zM,h25,h280,Bool.and_self,zB,zQ,Yk,QR,QQ,List.length_map];rw[L209_0a_eq];simp only[zG];by_cases h:l=[]
 ·simp[h]
 ·have h0:0<l.length:=List.length_pos_iff.2 h;have h1:=l209b l hl hb 1 (by omega)
  have hx:=KnS.itoa l[0] (hb _ (List.getElem_mem h0)).1 (hb _ (List.getElem_mem h0)).2;have hx':zA 210 (z1 EE 210 [eI l[0]])=some (.val (.str (itB l[0]))):=(congrArg (zA 210) (show z1 EE 210 [eI l[0]]=[eI l[0]] by kernel_rfl)).trans hx
  have e1:(0:Int)<l.length:=by omega
  rw[tk1 l h0] at h1;simp only[List.length_map,e1,Int.le_refl,and_self,if_true,zI _ l 0 h0,h3,zB,zF,List.nil_append,List.append_nil,hx',zH,h9,zX];simpa using h1
theorem c108(c:Cu):zA 108 [eCu c]=some (.val (.tup [.str (if Jn c=0 then textB c else bs []),eI (Jn c)])):=by
 rw[C108];simp only[zK,zM,h60,Bool.and_self,zB,zR,zS,zW,zQ,zF,c114,zH,h46];by_cases h:Jn c=0
 ·obtain⟨⟨hl,hl',hp,hc⟩,_⟩:=qw h;have hb:∀x∈c.cut :: c.p,in64' x:=by
   intro x hx;rcases List.mem_cons.1 hx with rfl | hx
   ·exact⟨by omega,by omega⟩
   ·have:=hp x hx;exact⟨by omega,by omega⟩
  have h209:=c209 (c.cut :: c.p) (by simp;omega) hb
  have hj:=KnS.join ((c.cut :: c.p).map itB) (bs [32]) (by simp;omega) (λx hx=>by
   obtain⟨n,hn,rfl⟩:=List.mem_map.1 hx;have:=itB_size n (hb n hn).1 (hb n hn).2;omega) (by decide)
  have htk:List.take ([DV.int .i64 c.cut]++c.p.map eI).length ([DV.int .i64 c.cut]++c.p.map eI)=(c.cut :: c.p).map eI:=by rw[List.take_length];rfl
  have e1:(2 * (1+c.p.length)+200) * 8<=281474976710656:=by omega
  simp only[bne0 h,za,List.length_map,e1,decide_true,zB,Nat.zero_add,Nat.le_refl,List.drop_zero,htk,h209,zH,h173,zQ,hj,h9,zX,if_pos h];rw[h];have e:(List.map (λx=>x.data.toList) (List.map itB (c.cut :: c.p)))=(c.cut :: c.p).map Lib.itoa:=by rw[List.map_map];exact List.map_congr_left λn _=>by simp[itB]
  have e':(bs [32]).data.toList=[32]:=by decide
  rw[e,e'];rfl
 ·simp only[bne1 h,zB,if_neg h]
end
end Go.Am
namespace Go.Am
open Go.Proofs
open Go
def fS:Fm:=⟨⟨bs [115],1,[⟨bs [97],⟨0,2⟩⟩,⟨bs [98],⟨0,1⟩⟩,⟨bs [99],⟨1,0⟩⟩]⟩,⟨rM,[128,64],[0,1]⟩,⟨[0,0,100,300,300],5⟩,(z51.set 4 2) :: List.replicate 7 z51⟩
def pS:Pn:=⟨[⟨0,2⟩,⟨0,1⟩,⟨1,1⟩],1,fS.w,fS.c,fS.r⟩
def gS:List (List Int):=[[0,1],[2]]
theorem okS:zm fS.r:=by
 refine⟨rfl,λr hr=>?_⟩
 rcases List.mem_cons.1 hr with rfl | hr
 ·rfl
 ·rw[List.eq_of_mem_replicate hr];rfl
variable[OO]
class KnB[OO]:Prop where
 bound:zA 50 [ePn pS,.sl 1 (gS.map λg=>.sl 1 (g.map eI)),eI 2]=some (.val (.tup [eI 307200,eI 0]))
theorem c154:zA 154 []=some (.val (eFm fS)):=C154.trans (by kernel_rfl)
theorem c155:zA 155 []=some (.val (ePn pS)):=by rw[C155,c154];simp only[zH,hFm fS okS,zB,zR,zS,zW,zb,ze,zX,zF,zQ];rfl
theorem a1:zA 64 [eSi fS.s,eI 0,eI 0,eI 2]=some (.val (.tup [eI 2,eI 1,eI 0])):=(c64 fS.s 0 0 2).trans (by kernel_rfl)
theorem a2:zA 64 [eSi fS.s,eI 1,eI 0,eI 2]=some (.val (.tup [eI 0,eI 3,eI 0])):=(c64 fS.s 1 0 2).trans (by kernel_rfl)
theorem a3[KnW]:zA 77 [eSi fS.s,eWk fS.w,eI 0]=some (.val (.tup [.sl 1 [eI 0,eI 128,eI 64],eI 0])):=(c77 fS.s fS.w 0).trans (by kernel_rfl)
theorem a4[KnO]:zA 68 [eSi fS.s,eI 0]=some (.val (.tup [.sl 1 [eI 0,eI 1,eI 2],eI 0])):=(KnO.order fS.s 0).trans (by kernel_rfl)
theorem a5[KnW]:zA 78 [eSi fS.s,eWk fS.w,eI 0,eI 4]=some (.val (.tup [.sl 1 [eI 1024,eI 512,eI 768],eI 0])):=(c78 fS.s fS.w 0 4).trans (by kernel_rfl)
theorem a6[KnW]:zA 32 [eFm fS,eI 0,eI 4]=some (.val (.tup [.sl 1 [eI 76800,eI 25600,eI 76800],eI 0])):=(c32 fS okS 0 4).trans (by kernel_rfl)
theorem a7[KnW]:zA 32 [eFm fS,eI 0,eI 5]=some (.val (.tup [.sl 1 [eI 0,eI 0,eI 0],eI 0])):=(c32 fS okS 0 5).trans (by kernel_rfl)
theorem a8:zA 106 [eCu fS.c,eI 640]=some (.val (.tup [eI 51200,eI 0])):=(c106 fS.c 640).trans (by kernel_rfl)
theorem a14[KnW]:zA 30 [eFm fS]=some (.val (.tup [eI 358400,eI 0])):=(c30 fS okS).trans (by kernel_rfl)
theorem a15[KnW]:zA 84 [eFm fS]=some (.val (.tup [eI 460800,eI 0])):=(c84 fS okS).trans (by kernel_rfl)
theorem a16[KnW]:zA 85 [eFm fS]=some (.val (.tup [.agg 1 [eI 2,eI 9],eI 0])):=(c85 fS okS).trans (by kernel_rfl)
theorem a18[KnW][KnS]:zA 44 [ePn pS,eI 2]=some (.val (.tup [.sl 1 [eI 0,eI 2],eI 307200,eI 0])):=(c44 pS okS 2).trans (by kernel_rfl)
theorem textS:textB fS.c=bs [53,32,48,32,48,32,49,48,48,32,51,48,48,32,51,48,48]:=by
 have e5:Lib.itoa 5=[53]:=by rw[show(5:Int)=((5:Nat):Int) from rfl,Lib.itoa_nonneg,Lib.decDigits_one (by decide)];decide
 have e0:Lib.itoa 0=[48]:=by rw[show(0:Int)=((0:Nat):Int) from rfl,Lib.itoa_nonneg,Lib.decDigits_one (by decide)];decide
 have e100:Lib.itoa 100=[49,48,48]:=by rw[show(100:Int)=((100:Nat):Int) from rfl,Lib.itoa_nonneg,Lib.decDigits,dif_neg (by decide),Lib.decDigits_two (by decide) (by decide)];decide
 have e300:Lib.itoa 300=[51,48,48]:=by rw[show(300:Int)=((300:Nat):Int) from rfl,Lib.itoa_nonneg,Lib.decDigits,dif_neg (by decide),Lib.decDigits_two (by decide) (by decide)];decide
 unfold textB fS;simp only[List.map_cons,List.map_nil,e5,e0,e100,e300];decide
theorem a21[KnS]:zA 108 [eCu fS.c]=some (.val (.tup [.str (bs [53,32,48,32,48,32,49,48,48,32,51,48,48,32,51,48,48]),eI 0])):=by rw[c108,textS];exact(show _=_ by kernel_rfl)
theorem same3(a b c x y z:Int):zA 126 [.sl 1 [eI a,eI b,eI c],.sl 1 [eI x,eI y,eI z]]=some (.val (.bool (decide ([a,b,c]=[x,y,z])))):=c126 [a,b,c] [x,y,z] (by simp)
theorem same2(a b x y:Int):zA 126 [.sl 1 [eI a,eI b],.sl 1 [eI x,eI y]]=some (.val (.bool (decide ([a,b]=[x,y])))):=c126 [a,b] [x,y] (by simp)
theorem w0:IntKind.i64.wrap (0+0)=0:=by decide
theorem bneS(a:Int):bne a a=false:=by simp
theorem hRat(a b:Int):hasT EE 6 160 (.agg 1 [eI a,eI b])=true:=by kernel_rfl
theorem eqRat(a b c d:Int):eqOp EE 160 (.agg 1 [eI a,eI b]) (.agg 1 [eI c,eI d])=some ((a == c) && ((b == d) && true)):=by kernel_rfl
set_option maxHeartbeats 4000000 in
theorem awake[KnW][KnS][KnO][KnB]:zA 33 []=some (.val (.bool true)):=by have hg:zA 50 [ePn pS,.sl 1 [.sl 1 [eI 0,eI 1],.sl 1 [eI 2]],eI 2]=some (.val (.tup [eI 307200,eI 0])):=KnB.bound;rw[C33,c154];simp only[zH,hFm fS okS,zB,zR,zS,zW,zb,ze,zX,zF,zQ];simp only[a1,a2,a3,a4,a5,a6,a7,a8,zH,jA,jI,zK,zM,h3,h46,h25,Bool.and_self,zB,zS,zW,zb,zF,zQ,w0,bneS,za,same3,decide_true,h4,zi,Bool.not_true];simp only[a14,a15,a16,c155,zH,jA,jI,zK,zM,h3,h46,hRat,Bool.and_self,zB,hPn pS okS,zR,zS,zW,zb,ze,QM,zX,zF,zQ];simp only[a18,hg,a21,zH,jA,jI,zK,zM,h3,h46,h9,h25,Bool.and_self,zB,zR,zS,zW,zb,zX,zF,zQ,w0,beq_self_eq_true,m1,eqRat,Option.getD_some,same2,decide_true,h4,zi]
end Go.Am
namespace Go.Am
open Go.Proofs
open Go Go.RowKit Go.Maps
theorem rd_row{L:Nat->List Nat}{S:Nat->Prop}{V:World}{B n:Nat}{oa:Option Addr}{oc:Nat}{l:List Int}(hn:l.length=n)(hr:V.ownsRow B 3 1 (.slice oa n oc) n (l.map (Value.int .i64)))(hS:∀b,B<=b->b<V.heap.size->S b) :
  RV L S V (.sl 1 (l.map eI)) (.slice oa n oc):=by
 have hlt:∀{g:Nat} {o:Obj},V.heap[g]? = some o->g<V.heap.size:=λh=>(Array.getElem?_eq_some_iff.1 h).1
 have el:∀(i:Nat) (h:i<(l.map eI).length) (h':i<(l.map λm=>[Value.int .i64 m]).length),RD L S V (l.map eI)[i] (l.map λm=>[Value.int .i64 m])[i]:=λi h h'=>by rw[List.getElem_map,List.getElem_map];exact .int _ _
 have hz:∀cs∈(l.map λm=>[Value.int .i64 m]),cs.length=1:=λcs h=>by obtain⟨m,_,rfl⟩:=List.mem_map.1 h;rfl
 obtain⟨h1,h2⟩:=hr;have hc:n<=oc:=by
  rcases h2 with ⟨e,e2⟩ | ⟨g,cap,cur,e,hg,hh,hc1,_⟩
  ·omega
  ·injection e with _ _ e5;omega
 refine⟨.sl 1 (l.map eI) oa n oc (l.map λm=>[Value.int .i64 m]) (by simp[hn]) hc (by simp) el hz λh0=>?_,rfl⟩
 rcases h2 with ⟨e,e2⟩ | ⟨g,cap,cur,e,hg,hh,hc1,hc2,hsz,ht⟩
 ·omega
 ·injection e with e3 e4 e5;refine⟨⟨g,0,none⟩,e3,rfl,hS g hg (hlt hh),λj u hj=>?_⟩
  rw[flat1] at hj;have hj2:(cur.toList.take (n * 1))[j]? = some u:=by rw[ht];exact hj
  rw[List.getElem?_take] at hj2;split at hj2
  ·rw[jo rfl];simp only[World.cell?,hh,Nat.zero_add];simpa using hj2
  ·cases hj2
theorem ch_val{E:Env}{S:Nat->Prop}{w:World}{ys:List DV}{e:Int}{fd:Bool}{v:Value}(h:RV E.L S w (.tup [.agg 1 [.sl 1 ys,eI e],.bool fd]) v):∃pa pn pc,v=.tuple #[.agg #[.slice pa pn pc,.int .i64 e],.bool fd]:=by
 obtain⟨vs,rfl,hl,hv⟩:=h
 match vs,hl with
 | [va,vb],_ =>
  have h0:RV E.L S w (.agg 1 [.sl 1 ys,eI e]) va:=hv 0 (by simp) (by simp)
  have h1:RV E.L S w (.bool fd) vb:=hv 1 (by simp) (by simp)
  obtain rfl:=h1.bool;obtain⟨cs,rfl,hcs⟩:=h0.agg;generalize hq:cs.toList=q at hcs;cases hcs with
  | agg _ _ css hl h hz =>
   match css,hl with
   | [c0,c1],_ =>
    have e0:RD E.L S w (.sl 1 ys) c0:=h 0 (by simp) (by simp)
    have e1:RD E.L S w (eI e) c1:=h 1 (by simp) (by simp)
    have e2:=e1.int1;subst e2;cases e0 with
    | sl _ _ a n c _ _ _ _ _ _ _ =>
     refine⟨a,n,c,?_⟩;have:cs=#[.slice a n c,.int .i64 e]:=by apply Array.ext';simpa using hq
     rw[this]
theorem qO{en:List Nat->Int}{near:Nat->Nat->Bool}:∀(l taken:List Nat) (n:Nat) (c:List Nat) (e:Int),JL en near l taken n=some (c,e)->e=en c/\c.length=taken.length+n/\n<=l.length/\∀i∈c,i∈taken\/i∈l
 | l,taken,0,c,e,h=>by
  have h':some (taken,en taken)=some (c,e):=by cases l <;> exact h
  injection h' with h'
  injection h' with h1 h2
  subst h1;exact⟨h2.symm,rfl,Nat.zero_le _,λi hi=>.inl hi⟩
 | [],taken,n+1,c,e,h=>by cases h
 | i :: l,taken,n+1,c,e,h=>by
  rcases pick_some h with h | h
  ·split at h
   ·cases h
   ·obtain⟨h1,h2,h0,h3⟩:=qO l _ n c e h;refine⟨h1,by simp at h2;omega,by simp;omega,λj hj=>?_⟩
    rcases h3 j hj with h | h
    ·rcases List.mem_append.1 h with h | h
     ·exact .inl h
     ·simp at h;exact .inr (by simp[h])
    ·exact .inr (by simp[h])
  ·obtain⟨h1,h2,h0,h3⟩:=qO l taken (n+1) c e h;exact⟨h1,h2,by simp;omega,λj hj=>(h3 j hj).imp id λh=>by simp[h]⟩
theorem enP_bound{p:Pn}(h:PlanOK p)(c:List Nat)(hc:c.length<=64):0<=enP p c/\enP p c<=30000000000000000:=by
 have:=YU h.v.c p.w (ps:=c.map λi=>p.ps.getD i default) (by simpa using hc) 0 h.v.r h.v.q
 unfold enP;omega
theorem best_at[OO](hE:EnvOKo PP EE OO.o)[KnW][KnS]{p:Pn}(h:PlanOK p){S:Nat->Prop}{w1:World}{B:Nat}{sa:Option Addr}(hsa:RV EE.L S w1 (.dp (eSe p)) (.pointer sa))(hg:GlobOK EE S w1)(hlt:∀b,S b->b<B)(hBw:B<=w1.heap.size)
  (V:World) (l:List Nat) (oa:Option Addr) (n oc k:Nat) (hB:Below B w1 V) (hn:l.length=n) (hrow:V.ownsRow B 3 1 (.slice oa n oc) n ((l.map (Nat.cast:Nat->Int)).map (Value.int .i64))) (hk:k<=64) (hl:l.length<=1000) (hi:∀i∈l,i<p.ps.length) :
  Calls PP 162 #[.pointer sa,.slice oa n oc,.slice none 0 0,.int .i64 k] V λe w'=>∃(pa:Option Addr) (pn pc:Nat) (en:Int) (fd:Bool),e=.returned (.tuple #[.agg #[.slice pa pn pc,.int .i64 en],.bool fd])/\Below V.heap.size V w' /\
   (JL (enP p) (jc p) l [] k).map (·.2)=(if fd=true then some en else none)/\0<=en/\en<=1000000000000000000:=by
 have hVs:=hB.size;have key:=(jk hE XX 162 [.dp (eSe p),.sl 1 (l.map eN),.sl 1 (([]:List Nat).map eN),eN k] _ (c162 p h l [] k hl (by simpa using hk) hi (by simp))).2 (λb=>S b\/(B<=b/\b<V.heap.size)) V
  [.pointer sa,.slice oa n oc,.slice none 0 0,.int .i64 k] (hg.mono (λb hb=>.inl hb) (λb hb=>hB.block b (hlt b hb))) (λb hb=>by
   rcases hb with hb | hb
   ·have:=hlt b hb;omega
   ·exact hb.2) rfl (λi h1 h2=>by
   match i,h1,h2 with
   | 0,_,_=>exact hsa.mono (λb hb=>.inl hb) (λb hb=>hB.block b (hlt b hb))
   | 1,_,_ =>
    have:=rd_row (L:=EE.L) (S:=λb=>S b\/(B<=b/\b<V.heap.size)) (by simpa using hn) hrow (λb h1 h2=>.inr ⟨h1,h2⟩)
    rw[<-map_eN'] at this;exact this
   | 2,_,_=>exact⟨.sl 1 [] none 0 0 [] rfl (Nat.le_refl 0) rfl (λi h=>by simp at h) (by simp) (by simp),rfl⟩
   | 3,_,_=>exact .mkInt _ _)
 refine key.mono λe w' ⟨v,he,hr⟩=>?_
 subst he;cases hb:JL (enP p) (jc p) l [] k with
 | none =>
  rw[hb] at hr;obtain⟨S',hBl,_,_,_,hv⟩:=hr;obtain⟨pa,pn,pc,rfl⟩:=ch_val (E:=EE) hv;exact⟨pa,pn,pc,0,false,rfl,hBl,rfl,by omega,by omega⟩
 | some c =>
  obtain⟨c,e⟩:=c;rw[hb] at hr;obtain⟨S',hBl,_,_,_,hv⟩:=hr;obtain⟨pa,pn,pc,rfl⟩:=ch_val (E:=EE) hv;obtain⟨h1,h2,_,_⟩:=qO _ _ _ _ _ hb;have:=enP_bound h c (by simp at h2;omega)
  subst h1;exact⟨pa,pn,pc,_,true,rfl,hBl,rfl,by omega,by omega⟩
end Go.Am
namespace Go.Am
open Go.Proofs
open Go
theorem midF_bnd{d0:Int->Option Int}{bst:Nat->Option Int}{M X Y:Int}(hX:0<=X)(hY:0<=Y)(hd:∀m v,d0 m=some v->0<=m/\m<=M/\0<=v/\v<=X)(hb:∀k e,bst k=some e->0<=e/\e<=Y) :
  ∀(L:Nat) (m v:Int),midF d0 bst L m=some v->0<=m/\m+1<=M+L/\0<=v/\v<=X+Y
 | 0,m,v,h=>by cases h
 | L+1,m,v,h=>by
  unfold midF at h;have ih:=midF_bnd hX hY hd hb L m;cases hbl:bst L with
  | none =>
   rw[hbl] at h;have:=ih v h;omega
  | some be =>
   rw[hbl] at h;have hbe:=hb L be hbl;simp only[updP] at h;cases hx:d0 (m - L) with
   | none =>
    rw[hx] at h;have:=ih v h;omega
   | some e =>
    rw[hx] at h;have he:=hd _ _ hx;cases hy:midF d0 bst L m with
    | none =>
     rw[hy] at h;simp only[Option.some.injEq] at h;omega
    | some old =>
     rw[hy] at h;have ho:=ih old hy;simp only[Option.some.injEq] at h;split at h <;> omega
def j8:List (List Int)->Nat
 | []=>0
 | g :: gs=>g.length+j8 gs
theorem qQ:∀a b:List (List Int),j8 (a++b)=j8 a+j8 b
 | [],b=>by simp[j8]
 | g :: a,b=>by have:=qQ a b;simp only[List.cons_append,j8];omega
theorem zBH:∀a:List (List Int),j8 a.reverse=j8 a
 | []=>rfl
 | g :: a=>by rw[List.reverse_cons,qQ,zBH a];simp only[j8];omega
theorem sumLen_take(a:List (List Int))(k:Nat):j8 (a.take k)<=j8 a:=by have:=qQ (a.take k) (a.drop k);rw[List.take_append_drop] at this;omega
theorem outF_bnd{bst:List Int->Nat->Option Int}{Y:Int}(hY:0<=Y):∀gs:List (List Int),(∀g∈gs,∀k e,bst (j7 g) k=some e->0<=e/\e<=Y)->∀m v,outF bst gs m=some v->0<=m/\m<=j8 gs/\0<=v/\v<=gs.length * Y
 | [],_,m,v,h=>by
  unfold outF at h;split at h
  ·injection h with h;subst h
   rename_i h;subst h;simp[j8]
  ·cases h
 | g :: gs,hb,m,v,h=>by
  have ih:=outF_bnd hY gs (λg hg=>hb g (by simp[hg]))
  have hl:(0:Int)<=gs.length * Y:=Int.mul_nonneg (by omega) hY
  have:=midF_bnd hl hY (λm v h=>ih m v h) (hb g (by simp)) _ m v h
  have e:((g :: gs).length:Int) * Y=gs.length * Y+Y:=by simp[Int.add_mul]
  rw[e];simp only[j8];omega
theorem prodR_le:∀gs:List (List Int),prodR gs<=2 ^ j8 gs
 | []=>Nat.le_refl _
 | g :: gs=>by have h1:=prodR_le gs;have h2:g.length+1<=2 ^ g.length:=Nat.lt_two_pow_self;simp only[prodR,j8,Nat.pow_add];exact Nat.mul_le_mul h2 h1
noncomputable def bstP(p:Pn)(l:List Int)(k:Nat):Option Int:=(JL (enP p) (jc p) (l.map Int.toNat) [] k).map (·.2)
theorem bstP_bnd{p:Pn}(h:PlanOK p){l:List Int}(hl:l.length<=64)(k:Nat)(e:Int)(hb:bstP p l k=some e):0<=e/\e<=30000000000000000:=by
 unfold bstP at hb;cases hc:JL (enP p) (jc p) (l.map Int.toNat) [] k with
 | none=>rw[hc] at hb;cases hb
 | some c =>
  obtain⟨c,e'⟩:=c;rw[hc] at hb;injection hb with hb
  have hb:e'=e:=hb;obtain⟨h1,h2,h3,_⟩:=qO _ _ _ _ _ hc;have:=enP_bound h c (by simp at h2 h3;omega)
  omega
end Go.Am
namespace Go.Am
open Go.Proofs
open Go
noncomputable def k50:Code:=J7 EE 50
noncomputable def cs50:List Code:=[sq1 k50,sq1 (sq2 k50),sq1 (sq2 (sq2 k50))]
noncomputable def k50t:Code:=sq2 (sq2 (sq2 k50))
noncomputable def K50(e:Ex)(st:St):Tr:=match e with
 | .normal=>.goto 900 st
 | e=>endX EE (EE.fresh 50) (fnOf EE 50) e st
noncomputable def k50a:Code:=seqs cs50 .skip
noncomputable def a50(p gs n:DV):Tr:=entryX EE (XX.fx 50) (fnOf EE 50) [p,gs,n] λst=>Ju EE XX (XX.fx 50) k50a 0 0 st K50
noncomputable def t50(v:Int)(b:Bool):Tr:=Ju EE XX (XX.fx 50) (sq2 k50t) 0 0 (stOf 42 [(10,.d (.int .i64 v)),(11,.d (.bool b))] []) (endX EE (EE.fresh 50) (fnOf EE 50))
end Go.Am
namespace Go.Am
open Go.Proofs
open Go Go.RowKit Go.Maps
theorem zBY{H:Type}{P:Program}(w:World){ops:Array Oper}{rest:List Oper}{o:Oper}{a:Act}{Q:Exit->Act->World->Prop}
  (hg:o.guard=none) (m x v:Operand) (t:TypeId) (hop:o.op=Op.insert t m x v)
  (k e:TypeId) (K:Keyed P k) (ht:P.underlying t=some (.map k e)) (R:Value->Option (DataW H×List MemPlace)) (b n:Nat) (D:DataW H)
  (hm:a.eval m=.map (some b)) (hown:w.ownsMap P k R b n D) (hn:n<maxLen) (key val:Value) (kl:Lit) (hx:a.eval x=key) (hv:a.eval v=val) (hkey:keyOf P k key=some kl)
  (d:DataW H) (ps:List MemPlace) (hval:R val=some (d,ps))
  (hK:∀w',w'.ownsMap P k R b (n+1) (D.put kl d)->w.grownBy w' (some b)->wpList P ops Q rest (a.put o.dst undef) w') :
  wpList P ops Q (o :: rest) a w:=by
 refine wpList_plain hg λK' hK'=>?_
 obtain⟨w',hrun,r1,r2⟩:=hown.update K ht hn hkey hval;unfold Oper.wp;simp[execOp,hop,hm,hx,hv,hrun,Result.andThen];exact hK' _ _ (hK w' r1 r2)
set_option maxRecDepth 100000 in
set_option maxHeartbeats 4000000 in
theorem calls171{H:Type}(V:World)(sa:Option Addr)(gb go gcap:Nat)(gs:List (List Int))(bst:List Int->Nat->Option Int)(ga:Nat->Option Addr)(gc:Nat->Nat)
  (hcell:∀j (h:j<gs.length),V.cell? ⟨gb,go+j,none⟩=some (.slice (ga j) gs[j].length (gc j))) (hgb:gb<V.heap.size) (hgl:gs.length<=64) (hlen64:∀j (h:j<gs.length),gs[j].length<=64)
  (hprod:∀k,prodR (gs.take k).reverse<=1000) (hF:∀k m v,outF bst (gs.take k).reverse m=some v->0<=m/\m<=50/\0<=v/\v<=1000000000000000000)
  (hints:∀j (h:j<gs.length),0<gs[j].length->∃b o,ga j=some ⟨b,o,none⟩/\b<V.heap.size/\Q0 V b o gs[j])
  (hbest:∀(W:World) (j:Nat) (h:j<gs.length) (oa:Option Addr) (oc k:Nat),Below V.heap.size V W->W.ownsRow V.heap.size 3 1 (.slice oa gs[j].length oc) gs[j].length ((j7 gs[j]).map (Value.int .i64))->k<=gs[j].length ->
   Calls Tryz.prog 162 #[.pointer sa,.slice oa gs[j].length oc,.slice none 0 0,.int .i64 k] W λe w'=>∃(pa:Option Addr) (pn pc:Nat) (en:Int) (fd:Bool),e=.returned (.tuple #[.agg #[.slice pa pn pc,.int .i64 en],.bool fd])/\Below W.heap.size W w'/\bst (j7 gs[j]) k=(if fd=true then some en else none)/\0<=en/\en<=1000000000000000000) :
  Calls Tryz.prog 171 #[.pointer sa,.slice (some ⟨gb,go,none⟩) gs.length gcap] V λe w'=>∃(b n:Nat) (D:DataW H),e=.returned (.map (some b))/\w'.ownsMap Tryz.prog 3 (plainElem Tryz.prog 3) b n D/\(∀m,fD D m=outF bst gs.reverse m)/\Below V.heap.size V w':=by
 have hmm:=@run_makeMap Tryz.prog;have HC:Hid _:=hcell;have HI:Hid _:=hints;have HB:Hid _:=hbest;have HF:Hid _:=hF;have HP:Hid _:=hprod;have HL:Hid _:=hlen64;clear hcell hints hbest hF hprod hlen64;have hown0:(V.alloc (.map #[] 0)).ownsMap Tryz.prog 3 (plainElem Tryz.prog 3) V.heap.size 0 (.map []:DataW H):=World.ownsMap_made _ _ _ _
 go_enter Tryz.func171,Tryz.ntmps171
 go_wp2_with (first
  | (refine zBY _ rfl _ _ _ 278 rfl 3 3 law3 Tryz.underlying278 _ V.heap.size _ _ rfl hown0 (by unfold maxLen;omega) _ _ _ rfl rfl (keyOf_int_mk Tryz.underlying3 (by decide)) _ [] (plainElem_int Tryz.underlying3 (by decide)) ?_;intro w1 hown1 hg1;go_frame)
  | go_in)
 have hs1:V.heap.size+1<=w1.heap.size:=by have:=hg1.size;rw[World.size_alloc] at this;exact this
 have hB1:Below V.heap.size V w1:=((Below.refl V.heap.size V).alloc (Nat.le_refl _) _).grown hg1 (by rw[World.size_alloc];omega) (λj hj=>by cases hj;exact Nat.le_refl _)
 refine outer171 w1 sa V.heap.size gb go gcap V.heap.size 1 gs _ _ _ _ _ _ _ _ _ _ _ _ _ _ _ _ _ _ _ _ _ _ _ _ _ _ _ _ _ _ _ _ _ _ _ _ _ _ _ _ _ _ _ _ _ _ _ _ _ _ _ _ _ _ _ _ _ _ _ _ _ _ _ _ _ _ _ _ _ _ _ _ _ _ _ _ _ bst ga gc hown1 (by omega) ?_ hgb hgl HL.out ?_ (Nat.le_refl 1) (Nat.le_refl _) HP.out HF.out ?_ ?_ _ ?_
 ·intro j h;exact(World.cell?_of_block (a:=⟨gb,go+j,none⟩) (hB1.block gb hgb)).trans (HC.out j h)
 ·intro m;rw[fD_put ⟨[],rfl⟩];rfl
 ·intro j h h0;obtain⟨b,o,e1,e2,e3⟩:=HI.out j h h0;exact⟨b,o,e1,e2,λi hi=>(World.cell?_of_block (a:=⟨b,o+i,none⟩) (hB1.block b e2)).trans (e3 i hi)⟩
 ·intro W j h oa oc k hBW hrow hk;exact HB.out W j h oa oc k (hB1.trans hBW) hrow hk
 ·intro v21 v7 v8 v9 v10 v11 v12 v13 v14 v15 v16 v22 v23 v24 v25 v26 v27 v28 v29 v30 v31 v32 v33 v34 v35 v36 v37 v38 v39 v40 v41 v42 v43 v44 v45 v46 v47 v48 v49 v50 v51 v52 v53 v54 v55 v56 v57 v58 v59 v60 v61 v62 v63 v64 v65 v66 v67 v68 v69 v70 v71 v72 v73 v74 v75 v76 v77 v78 v79 b n D w' hb hown' hA' hB';have hend:∃(b' n:Nat) (D:DataW H),Ending.returned (.map (some b))=.returned (.map (some b'))/\w'.ownsMap Tryz.prog 3 (plainElem Tryz.prog 3) b' n D/\(∀m,fD D m=outF bst gs.reverse m)/\Below V.heap.size V w':=⟨b,n,D,rfl,hown',hA',hB1.trans hB'⟩;clear HC HI HB HF HP HL hown' hA' hown1 hown0;go_wp2;go_ret;exact hend
end Go.Am
namespace Go.Am
open Go.Proofs
open Go Go.RowKit Go.Maps
open Classical
section
variable{P:Program}{ops:Array Oper}{Q:Exit->Act->World->Prop}{a:Act}{w:World}{rest:List Oper}{d:Option Tmp}{ty:TypeId}{s:String}{af:Array Edge}
theorem wl_move(x:Operand){v:Value}(he:a.eval x=v)(h:wpList P ops Q rest (a.put d v) w):wpList P ops Q ({ dst:=d,op:=.move x,type:=ty,pos:=s,after:=af,guard:=none } :: rest) a w :=
 wpList_plain rfl λK hK=>by unfold Oper.wp;simp only[execOp,he,Sem.run_bind,Result.andThen_ok,Sem.run_pure,Oper.upon];exact hK _ _ h
theorem wl_assign(x:Operand){v:Value}(he:a.eval x=v)(h:wpList P ops Q rest (a.put d v) w):wpList P ops Q ({ dst:=d,op:=.assign x,type:=ty,pos:=s,after:=af,guard:=none } :: rest) a w :=
 wpList_plain rfl λK hK=>by unfold Oper.wp;simp only[execOp,he,Sem.run_bind,Result.andThen_ok,Sem.run_pure,Oper.upon];exact hK _ _ h
theorem wl_load{t:TypeId}(x:Operand){u v:Value}(he:a.eval x=u)(hrun:(Instr.loadAt t u).run P w=.ok v w)(h:wpList P ops Q rest (a.put d v) w):wpList P ops Q ({ dst:=d,op:=.load t x,type:=ty,pos:=s,after:=af,guard:=none } :: rest) a w :=
 wpList_plain rfl λK hK=>by unfold Oper.wp;simp only[execOp,he,Sem.run_bind,hrun,Result.andThen_ok,Sem.run_pure,Oper.upon];exact hK _ _ h
theorem wl_extract(x:Operand)(i:Nat){u v:Value}(he:a.eval x=u)(hrun:(Instr.extract u i).run P w=.ok v w)(h:wpList P ops Q rest (a.put d v) w):wpList P ops Q ({ dst:=d,op:=.extract x i,type:=ty,pos:=s,after:=af,guard:=none } :: rest) a w :=
 wpList_plain rfl λK hK=>by unfold Oper.wp;simp only[execOp,he,Sem.run_bind,hrun,Result.andThen_ok,Sem.run_pure,Oper.upon];exact hK _ _ h
theorem wl_call1{f:FuncId}{ats:Array TypeId}(x:Operand){v:Value}{R:Ending->World->Prop}(he:a.eval x=v)(eg:∀args w,(callFunc f args).run P w=.ok (.enter f args) w)(hc:Calls P f #[v] w R)
  (h:∀e w',R e w'->∃u,e=.returned u/\wpList P ops Q rest (a.put d u) w'):wpList P ops Q ({ dst:=d,op:=.call { callee:=.value (.func f),args:=#[x],argTypes:=ats },type:=ty,pos:=s,after:=af,guard:=none } :: rest) a w :=
 wpList_plain rfl λK hK=>by
  have hev:a.eval (.func f)=.func (.func f) #[] #[]:=rfl;have hrun:(execOp a.eval { dst:=d,op:=.call { callee:=.value (.func f),args:=#[x],argTypes:=ats },type:=ty,pos:=s,after:=af,guard:=none }).run P w=.ok (.enter f #[v]) w:=by simp[execOp,resolve,Deferred.ofValue,invoke,hev,he,eg]
  unfold Oper.wp;rw[hrun];show Calls P f _ _ _;refine hc.mono λe w' hr=>?_
  obtain⟨u,rfl,hq⟩:=h e w' hr;exact hK _ _ hq
theorem wl_call2{f:FuncId}{ats:Array TypeId}(x y:Operand){v u:Value}{R:Ending->World->Prop}(he:a.eval x=v)(he':a.eval y=u)(eg:∀args w,(callFunc f args).run P w=.ok (.enter f args) w)(hc:Calls P f #[v,u] w R)
  (h:∀e w',R e w'->∃u,e=.returned u/\wpList P ops Q rest (a.put d u) w'):wpList P ops Q ({ dst:=d,op:=.call { callee:=.value (.func f),args:=#[x,y],argTypes:=ats },type:=ty,pos:=s,after:=af,guard:=none } :: rest) a w :=
 wpList_plain rfl λK hK=>by
  have hev:a.eval (.func f)=.func (.func f) #[] #[]:=rfl;have hrun:(execOp a.eval { dst:=d,op:=.call { callee:=.value (.func f),args:=#[x,y],argTypes:=ats },type:=ty,pos:=s,after:=af,guard:=none }).run P w=.ok (.enter f #[v,u]) w:=by simp[execOp,resolve,Deferred.ofValue,invoke,hev,he,he',eg]
  unfold Oper.wp;rw[hrun];show Calls P f _ _ _;refine hc.mono λe w' hr=>?_
  obtain⟨u,rfl,hq⟩:=h e w' hr;exact hK _ _ hq
theorem size_put(a:Act)(d:Option Tmp)(v:Value):(a.put d v).tmps.size=a.tmps.size:=by cases d <;> simp[Act.put]
theorem eval_same{a:Act}{t:Tmp}(h:t<a.tmps.size)(v:Value):(a.put (some t) v).eval (.tmp t)=v:=by simp only[Act.eval,Act.put,Array.getD_eq_getD_getElem?,Array.getElem?_setIfInBounds_self_of_lt h,Option.getD_some]
theorem Yl{a:Act}{t:Tmp}(h:41<a.tmps.size)(ht:t<=41)(v:Value):(a.put (some t) v).eval (.tmp t)=v:=eval_same (Nat.lt_of_le_of_lt ht h) v
theorem jr(a:Act){t t':Tmp}(h:t≠t')(v:Value):(a.put (some t) v).eval (.tmp t')=a.eval (.tmp t'):=by simp only[Act.eval,Act.put,Array.getD_eq_getD_getElem?];rw[Array.getElem?_setIfInBounds_ne h]
end
noncomputable def head50(r:CR)(tgt:St)(j:Nat)(st:St):Tr:=if j=900 then (if Le [] tgt st then .ret r else .fail) else JZ EE XX (XX.fx 50) j k50a 0 0 K50 st
noncomputable def K50r(r:CR)(tgt:St)(e:Ex)(st:St):Option CR:=match e with
 | .normal=>if Le [] tgt st then some r else none
 | e=>bnd (finK EE (EE.fresh 50) (fnOf EE 50) e st) (λr0=>some (cnCR EE (EE.fresh 50) (fnOf EE 50) r0))
section
variable[OO]
theorem a50_run(g:Nat->St->Option CR)(p gs n:DV):run (zA) g (a50 p gs n) =
 ifO (zP (hasT EE 6) [88,95,3] [p,gs,n])
 (zC (zA 160 [(.agg 6 [(.sl 2 (elems (nth (flds p) 0))),(.int .i64 (getI (nth (flds p) 1))),(.agg 0 [(.str (getS (nth (flds (nth (flds p) 2)) 0))),(.sl 1 (elems (nth (flds (nth (flds p) 2)) 1))),(.sl 1 (elems (nth (flds (nth (flds p) 2)) 2)))]),(.agg 1 [(.sl 1 (elems (nth (flds (nth (flds p) 3)) 0))),(.int .i64 (getI (nth (flds (nth (flds p) 3)) 1)))]),(.agg 3 (flds (nth (flds p) 4)))])])
 (λr0=>ifO (hasT EE 6 46 r0)
  (ifO (bne (getI r0) 0)
  (some (.val (.tup [(.int .i64 0),(.int .i64 (getI r0))])))
  (zC (zA 170 [(.agg 6 [(.sl 2 (elems (nth (flds p) 0))),(.int .i64 (getI (nth (flds p) 1))),(.agg 0 [(.str (getS (nth (flds (nth (flds p) 2)) 0))),(.sl 1 (elems (nth (flds (nth (flds p) 2)) 1))),(.sl 1 (elems (nth (flds (nth (flds p) 2)) 2)))]),(.agg 1 [(.sl 1 (elems (nth (flds (nth (flds p) 3)) 0))),(.int .i64 (getI (nth (flds (nth (flds p) 3)) 1)))]),(.agg 3 (flds (nth (flds p) 4)))]),(.sl 1 (List.map (cnE EE 25) (elems gs)))])
   (λr1=>ifO (hasT EE 6 46 r1)
   (zC (zA 149 [(.int .i64 (getI n)),(.int .i64 0),(.int .i64 (((List.length (elems (nth (flds p) 0))):Nat):Int))])
    (λr2=>ifO (hasT EE 6 46 r2)
    (zC (zA 148 [(.sl 1 [(.int .i64 (getI r1)),(.int .i64 (getI r2))])])
     (λr3=>ifO (hasT EE 6 46 r3)
     (ifO (bne (getI r3) 0)
      (some (.val (.tup [(.int .i64 0),(.int .i64 (getI r3))])))
      ((g 900 (stOf 42 [(0,(.d (.agg 6 [(.sl 2 (elems (nth (flds p) 0))),(.int .i64 (getI (nth (flds p) 1))),(.agg 0 [(.str (getS (nth (flds (nth (flds p) 2)) 0))),(.sl 1 (elems (nth (flds (nth (flds p) 2)) 1))),(.sl 1 (elems (nth (flds (nth (flds p) 2)) 2)))]),(.agg 1 [(.sl 1 (elems (nth (flds (nth (flds p) 3)) 0))),(.int .i64 (getI (nth (flds (nth (flds p) 3)) 1)))]),(.agg 3 (flds (nth (flds p) 4)))]))),(1,(.d (.sl 1 (elems gs)))),(2,(.d (.int .i64 (getI n)))),(3,(.ptr 3 415 0 [])),(6,(.d (.int .i64 0))),(7,(.d (.int .i64 0))),(8,(.d (.int .i64 (getI r0)))),(9,(.d (.int .i64 (getI r3)))),(12,(.d (.agg 6 [(.sl 2 (elems (nth (flds p) 0))),(.int .i64 (getI (nth (flds p) 1))),(.agg 0 [(.str (getS (nth (flds (nth (flds p) 2)) 0))),(.sl 1 (elems (nth (flds (nth (flds p) 2)) 1))),(.sl 1 (elems (nth (flds (nth (flds p) 2)) 2)))]),(.agg 1 [(.sl 1 (elems (nth (flds (nth (flds p) 3)) 0))),(.int .i64 (getI (nth (flds (nth (flds p) 3)) 1)))]),(.agg 3 (flds (nth (flds p) 4)))]))),(13,(.d (.int .i64 (getI r0)))),(14,(.d (.int .i64 (getI r0)))),(15,(.d (.bool false))),(17,(.d (.agg 6 [(.sl 2 (elems (nth (flds p) 0))),(.int .i64 (getI (nth (flds p) 1))),(.agg 0 [(.str (getS (nth (flds (nth (flds p) 2)) 0))),(.sl 1 (elems (nth (flds (nth (flds p) 2)) 1))),(.sl 1 (elems (nth (flds (nth (flds p) 2)) 2)))]),(.agg 1 [(.sl 1 (elems (nth (flds (nth (flds p) 3)) 0))),(.int .i64 (getI (nth (flds (nth (flds p) 3)) 1)))]),(.agg 3 (flds (nth (flds p) 4)))]))),(18,(.d (.sl 1 (elems gs)))),(19,(.d (.int .i64 (getI r1)))),(20,(.d (.int .i64 (getI n)))),(21,(.ptr 3 415 0 [(.mk 6 0)])),(22,(.d (.sl 2 (elems (nth (flds p) 0))))),(23,(.d (.int .i64 (((List.length (elems (nth (flds p) 0))):Nat):Int)))),(24,(.d (.int .i64 (getI r2)))),(25,(.own 25 0 2 1)),(26,(.d (.int .i64 (getI r3)))),(27,(.d (.int .i64 (getI r3)))),(28,(.d (.bool false)))] [(3,(.mk false (.dc 415 [(.agg 6 [(.sl 2 (elems (nth (flds p) 0))),(.int .i64 (getI (nth (flds p) 1))),(.agg 0 [(.str (getS (nth (flds (nth (flds p) 2)) 0))),(.sl 1 (elems (nth (flds (nth (flds p) 2)) 1))),(.sl 1 (elems (nth (flds (nth (flds p) 2)) 2)))]),(.agg 1 [(.sl 1 (elems (nth (flds (nth (flds p) 3)) 0))),(.int .i64 (getI (nth (flds (nth (flds p) 3)) 1)))]),(.agg 3 (flds (nth (flds p) 4)))])]))),(25,(.mk false (.dc 1 [(.int .i64 (getI r1)),(.int .i64 (getI r2))])))]))))
     (none))
    (λ_ _=>none))
    (none))
   (λ_ _=>none))
   (none))
  (λ_ _=>none)))
 (none))
 (λ_ _=>none))
 (none):=by kernel_rfl
theorem t50_run(g:Nat->St->Option CR)(v:Int)(b:Bool):run (zA) g (t50 v b) =
 ifO (!b)
 (some (.val (.tup [(.int .i64 0),(.int .i64 24)])))
 (some (.val (.tup [(.int .i64 v),(.int .i64 0)]))):=by kernel_rfl
theorem go50_end{r:CR}{tgt st:St}(h:Le [] tgt st):goH zA (head50 r tgt) 900 st=some r:=by rw[goH_eq];unfold head50;rw[if_pos rfl,if_pos h];rfl
theorem mono50(r:CR)(tgt:St):Mono r (K50r r tgt) (K50r r tgt):=by
 intro e s t hst h;cases e with
 | normal =>
  unfold K50r at h ⊢;simp only at h ⊢;split at h
  ·rename_i hk;rw[if_pos (Le.trans hk hst)]
  ·cases h
 | ret=>exact YX (E:=EE) (fresh:=EE.fresh 50) (fn:=fnOf EE 50) .ret s t hst h
 | exit i=>exact YX (E:=EE) (fresh:=EE.fresh 50) (fn:=fnOf EE 50) (.exit i) s t hst h
theorem exec50(p gs n:DV)(r:CR)(tgt:St)(h:run zA (goH zA (head50 r tgt)) (a50 p gs n)=some r):∃M,exec EE M (jt EE zA) (seqs cs50 .skip) (entry Tryz.f50 [p,gs,n]) (K50r r tgt)=some r:=by
 obtain⟨_,h⟩:=zBU (by rw[show(fnOf EE 50).params.toList.length+(XX.fx 50).caps=3 by kernel_rfl,show(fnOf EE 50).ntmps=42 by kernel_rfl];omega) h
 refine Qt (X:=XX) (F:=XX.fx 50) (head:=head50 r tgt) (show z7 k50a<=1000 by rw[show z7 k50a=0 by kernel_rfl];omega) (λj hj st=>?_) (λp e st h=>?_) (mono50 r tgt) h
 ·unfold head50;rw[if_neg ?_]
  ·rfl
  ·have:z7 (seqs cs50 .skip)=0:=by kernel_rfl
   rcases hj with ⟨h1,h2,h3⟩ | ⟨h1,h2⟩ <;> omega
 ·cases e with
  | normal =>
   have h1:goX zA (head50 r tgt) p 900 st=some r:=h;cases p with
   | zero=>simp[goX] at h1
   | succ p =>
    have h2:run zA (goX zA (head50 r tgt) p) (head50 r tgt 900 st)=some r:=h1;unfold head50 at h2;rw[if_pos rfl] at h2;unfold K50r;simp only;split at h2
    ·rename_i hk;rw[if_pos hk]
    ·simp[run] at h2
  | ret=>exact qG (E:=EE) (fresh:=EE.fresh 50) (fn:=fnOf EE 50) (e:=.ret) (st:=st) h
  | exit i=>exact qG (E:=EE) (fresh:=EE.fresh 50) (fn:=fnOf EE 50) (e:=.exit i) (st:=st) h
theorem tail50(v:Int)(b:Bool):∃M,exec EE M (jt EE zA) (sq2 k50t) (stOf 42 [(10,.d (.int .i64 v)),(11,.d (.bool b))] []) (λe st=>bnd (finK EE (EE.fresh 50) (fnOf EE 50) e st) λr0=>some (cnCR EE (EE.fresh 50) (fnOf EE 50) r0)) =
  some (.val (.tup [eI (if b then v else 0),eI (if b then 0 else 24)])):=by
 refine Qt (X:=XX) (F:=XX.fx 50) (head:=λj st=>JZ EE XX (XX.fx 50) j (sq2 k50t) 0 0 (endX EE (EE.fresh 50) (fnOf EE 50)) st) (show z7 (sq2 k50t)<=1000 by rw[show z7 (sq2 k50t)=0 by kernel_rfl];omega) (λ_ _ _=>rfl) (λp e st h=>qG h) YX ?_
 refine(t50_run _ v b).trans ?_;cases b <;> rfl
def eGs(gs:List (List Int)):DV:=.sl 1 (gs.map λg=>.sl 1 (g.map eI))
def tgt50(p:Pn)(gs:List (List Int))(n:Int):St:=stOf 42 [(1,.d (eGs gs)),(2,.d (eI n)),(3,.ptr 3 415 0 [])] [(3,⟨false,.dc 415 [ePn p]⟩)]
theorem run50(p:Pn)(hr:zm p.r)(gs:List (List Int))(n:Int)(r:CR)(hf:fewE p=0)(hg:zA 170 [ePn p,eGs gs]=some (.val (eI 0)))(hn:zV n 0 p.ps.length=0):run zA (goH zA (head50 r (tgt50 p gs n))) (a50 (ePn p) (eGs gs) (eI n))=some r:=by
 rw[a50_run];have e0:zP (hasT EE 6) [88,95,3] [ePn p,eGs gs,eI n]=true:=by rw[zK,hPn p hr];rfl
 have e1:=c160 p hr;rw[hf] at e1;have e3:∀m:Int,hasT EE 6 46 (eI m)=true:=λm=>by kernel_rfl
 have e4:bne (getI (eI 0)) (0:Int)=false:=rfl;have hg':zA 170 [ePn p,.sl 1 ((gs.map λg=>DV.sl 1 (g.map eI)).map (cnE EE 25))]=some (.val (eI 0)):=by rw[zA8];exact hg
 have e5:=c149 n 0 p.ps.length;rw[hn] at e5;have e6:=qY 0 0;rw[e0,zB];simp only[eGs,zR,zS,zW,zb,ze,QM,zQ,zF,zX,List.length_map];rw[e1];simp only[zH];rw[e3,zB,e4,za,hg'];simp only[zH];rw[e3,zB,e5];simp only[zH];rw[e3,zB,zF,e6];simp only[zH];rw[show zL [0,0]=0 from rfl,e3,zB,e4,za]
 refine go50_end ?_;show Le [] (tgt50 p gs n) _;rw[show tgt50 p gs n=forget [1,2,3] _ from ?_]
 ·exact JW _ _
 ·unfold tgt50 eGs ePn;kernel_rfl
end
end Go.Am
namespace Go.Am
open Go.Proofs
open Go Go.RowKit Go.Maps Go.Proofs
open Classical
structure V50[OO](p:Pn)(gs:List (List Int))(n:Int):Prop where
 r:zm p.r
 few:fewE p=0
 grp:zA 170 [ePn p,eGs gs]=some (.val (eI 0))
 idx:∀g∈gs,∀i∈g,0<=i/\i<p.ps.length
 pos:0<gs.length
 len:gs.length<=30
 sum:j8 gs<=8
 n:zV n 0 p.ps.length=0
noncomputable def Yn(p:Pn)(gs:List (List Int))(n:Int):Int×Int:=match outF (bstP p) gs.reverse n with
 | some v=>(v,0)
 | none=>(0,24)
noncomputable def kk50:Code:=match Tryz.f50.body with | some c=>c | none=>.skip
theorem r50_eq:sq1 k50t=q1 (q2 (q2 (q2 kk50))):=by kernel_rfl
theorem body50:Tryz.f50.body=some (seqs cs50 (.seq (sq1 k50t) (sq2 k50t))):=by kernel_rfl
theorem Qg:∀{gs:List (List Int)} {g:List Int},g∈gs->g.length<=j8 gs
 | [],g,h=>by simp at h
 | a :: gs,g,h=>by
  simp only[j8];rcases List.mem_cons.1 h with rfl | h
  ·omega
  ·have:=Qg h;omega
theorem und42(t:Nat)(h:t<42):putT (stOf 42 [] []).tm (some t) .undef=(stOf 42 [] []).tm:=by
 have e:(stOf 42 [] []).tm=List.replicate 42 .undef:=by kernel_rfl
 rw[e];show(List.replicate 42 AV.undef).set t .undef=_;apply List.ext_getElem (by simp)
 intro i h1 h2;rw[List.getElem_set];split
 ·exact(List.getElem_replicate _).symm
 ·rfl
theorem Rel.und{base:Nat}{S:Nat->Prop}{φ:Nat->Option Nat}{a:Act}{w:World}(h:Rel EE base S φ (stOf 42 [] []) a w){t:Nat}(ht:t<42)(u:Value):Rel EE base S φ (stOf 42 [] []) (a.put (some t) u) w:=by have h1:=h.put (some t) (v:=.undef) (u:=u) trivial;rw[und42 t ht] at h1;exact h1
section
variable[OO]
theorem groups_at{S:Nat->Prop}{w:World}{gs:List (List Int)}{v:Value}(h:RV EE.L S w (eGs gs) v)(hlt:∀b,S b->b<w.heap.size)(hpos:0<gs.length) :
  ∃(gb go gcap:Nat) (ga:Nat->Option Addr) (gc:Nat->Nat),v=.slice (some ⟨gb,go,none⟩) gs.length gcap/\gb<w.heap.size/\(∀j (h:j<gs.length),w.cell? ⟨gb,go+j,none⟩=some (.slice (ga j) gs[j].length (gc j))) /\
   (∀j (h:j<gs.length),0<gs[j].length->∃b o,ga j=some ⟨b,o,none⟩/\b<w.heap.size/\Q0 w b o gs[j]):=by
 obtain⟨a,c,css,rfl,hc,hl,hel,hz,hm⟩:=h.sl;simp only[List.length_map] at hc hl hel hm ⊢;obtain⟨ad,rfl,hsp,hS,hcell⟩:=hm hpos;obtain⟨gb,go,sp⟩:=ad;simp only at hsp;subst hsp;have hone:∀j,j<gs.length->∃x:Option Addr×Nat,∀h:j<gs.length,w.cell? ⟨gb,go+j,none⟩=some (.slice x.1 gs[j].length x.2)/\(0<gs[j].length->∃b o,x.1=some ⟨b,o,none⟩/\b<w.heap.size/\Q0 w b o gs[j]):=by
  intro j hj;have hj':j<css.length:=by omega
  have h1:=hel j hj hj';rw[List.getElem_map] at h1;obtain⟨a',c',e1,e2,e3⟩:=RD.sl1 (e:=eI) (g:=Value.int .i64) (λx cs h=>h.int1) h1
  refine⟨(a',c'),λ_=>⟨?_,λh0=>?_⟩⟩
  ·have hfl:=JI css hz j hj' 0 (by omega)
   have:=hcell j _ (by rw[show j=j * 1+0 by omega,hfl,e1];rfl)
   rw[jo rfl] at this;exact this
  ·obtain⟨ad,rfl,s1,s2,s3⟩:=e3 h0;obtain⟨b,o,sp⟩:=ad;simp only at s1;subst s1;refine⟨b,o,rfl,hlt b s2,λi hi=>?_⟩
   have:=s3 i _ (List.getElem?_eq_getElem hi);rw[jo rfl] at this;exact this
 obtain⟨xs,hxl,hxs⟩:=J6 gs.length hone;refine⟨gb,go,c,λj=>(xs.getD j (none,0)).1,λj=>(xs.getD j (none,0)).2,rfl,hlt gb hS,λj h=>?_,λj h=>?_⟩
 ·have hj:j<xs.length:=by omega
  have e:xs.getD j (none,0)=xs[j]:=by rw[List.getD_eq_getElem?_getD,List.getElem?_eq_getElem hj];rfl
  show w.cell? _=some (.slice (xs.getD j (none,0)).1 gs[j].length (xs.getD j (none,0)).2);rw[e];exact(hxs j hj h).1
 ·have hj:j<xs.length:=by omega
  have e:xs.getD j (none,0)=xs[j]:=by rw[List.getD_eq_getElem?_getD,List.getElem?_eq_getElem hj];rfl
  show 0<gs[j].length->∃b o,(xs.getD j (none,0)).1=some ⟨b,o,none⟩/\b<w.heap.size/\Q0 w b o gs[j];rw[e];exact(hxs j hj h).2
set_option maxHeartbeats 2000000 in
theorem at50v[KnW][KnS](hE:EnvOKo PP EE OO.o){p:Pn}{gs:List (List Int)}{n:Int}(h:V50 p gs n):QZ PP EE 50 [ePn p,eGs gs,eI n] (.val (.tup [eI (Yn p gs n).1,eI (Yn p gs n).2])):=by
 refine⟨enters Tryz.func50 (by kernel_rfl) (by kernel_rfl),λS w vals hg hlt hlen hv=>?_⟩
 have hok:=fewE_ok h.few h.r;have hc:jw PP EE (jt EE zA):=zAa (jk hE XX);have hD:DOK PP EE:=zAC _ _ _;have hR0:=entry_rel (E:=EE) (fn:=Tryz.f50) hg hlt hlen (show[ePn p,eGs gs,eI n].length<=Tryz.f50.ntmps by simp) hv
 refine calls_of_wp Tryz.func50 body50 ?_;generalize hr:CR.val (.tup [eI (Yn p gs n).1,eI (Yn p gs n).2])=r;have hret:∀ex st' (S':Nat->Prop) (φ':Nat->Option Nat) a' w',ex≠Ex.normal->K50r r (tgt50 p gs n) ex st'=some r->Rel EE w.heap.size S' φ' st' a' w'->Grow w.heap.size S S' w w' ->
   bodyPost PP Tryz.f50 (λe w'=>∃v,e=.returned v/\zAA EE S w r v w') (zAn ex) a' w':=by
  intro ex st' S' φ' a' w' hne hk hR hG;cases ex with
  | normal=>exact absurd rfl hne
  | exit i=>simp[K50r,finK,bnd] at hk
  | ret =>
   obtain⟨r0,k4,k5⟩:=bind_some (show bnd (fin EE (EE.fresh 50) (fnOf EE 50) st') (λr0=>some (cnCR EE (EE.fresh 50) (fnOf EE 50) r0))=some r from hk)
   injection k5 with k5;obtain⟨h1,v,h2,h3⟩:=Jt hD hR hG k4
   exact⟨h1,v,h2,v,rfl,k5 ▸ qe h3⟩
 obtain⟨M,hex⟩:=exec50 (ePn p) (eGs gs) (eI n) r (tgt50 p gs n) (run50 p h.r gs n r h.few h.grp h.n);refine spine_wp hD Jr hc cs50 hex hR0 (λst1 S1 φ1 a1 w1 k1 hR1 hG1=>?_) hret
 have hle:Le [] (tgt50 p gs n) st1:=by
  unfold K50r at k1;simp only at k1;split at k1
  ·assumption
  ·cases k1
 have hR2:=hR1.le hle;obtain⟨u1,hu1,hr1⟩:=hR2.tm 1 (.d (eGs gs)) (by unfold tgt50 eGs ePn;kernel_rfl)
 obtain⟨u2,hu2,hr2⟩:=hR2.tm 2 (.d (eI n)) (by unfold tgt50 eGs ePn;kernel_rfl)
 obtain⟨u3,hu3,hr3⟩:=hR2.tm 3 (.ptr 3 415 0 []) (by unfold tgt50 eGs ePn;kernel_rfl)
 have h42:41<a1.tmps.size:=by
  obtain⟨u,hu,_⟩:=hR2.tm 41 .undef (by unfold tgt50 eGs ePn;kernel_rfl)
  exact(Array.getElem?_eq_some_iff.1 hu).1
 have ev1:a1.eval (.tmp 1)=u1:=by simp only[Act.eval,Array.getD_eq_getD_getElem?,hu1,Option.getD_some]
 have ev2:a1.eval (.tmp 2)=u2:=by simp only[Act.eval,Array.getD_eq_getD_getElem?,hu2,Option.getD_some]
 have ev3:a1.eval (.tmp 3)=u3:=by simp only[Act.eval,Array.getD_eq_getD_getElem?,hu3,Option.getD_some]
 have hr1:RV EE.L S1 w1 (eGs gs) u1:=hr1;have hr2:RV EE.L S1 w1 (eI n) u2:=hr2;obtain rfl:=hr2.int;obtain⟨x',ur,he,hrun,hrx⟩:=qL (t:=88) hD hR2 hr3 (ef:={ v:=.d (ePn p) }) (by unfold tgt50 eGs ePn;kernel_rfl)
 have he':AV.d (ePn p)=x':=by simpa using congrArg Eff.v he
 subst he';have hrx:RV EE.L S1 w1 (ePn p) ur:=hrx;have hRe:Rel EE w.heap.size S1 φ1 (stOf 42 [] []) a1 w1:=hR2.le (by
  rw[show stOf 42 [] []=forget [] (tgt50 p gs n) from by unfold tgt50 eGs ePn;kernel_rfl]
  exact JW _ _)
 have k161:=(jk hE XX 161 [ePn p] _ (KnS.search p h.r hok.l hok.v.p hok.least.1 hok.least.2)).2 S1 w1 [ur] hR2.glob hR2.lt rfl (λi h1 h2=>by
  match i,h1,h2 with
  | 0,_,_=>exact hrx)
 have eg161:∀args w,(callFunc 161 args).run PP w=.ok (.enter 161 args) w:=Go.Proofs.enters_of Tryz.func161 (by kernel_rfl) rfl
 have eg171:∀args w,(callFunc 171 args).run PP w=.ok (.enter 171 args) w:=Go.Proofs.enters_of Tryz.func171 (by kernel_rfl) rfl
 have hsz:∀(a:Act) (d:Option Tmp) (v:Value),41<a.tmps.size->41<(a.put d v).tmps.size:=λa d v h=>by rw[size_put];exact h
 have q1':=hsz a1 (some 31) ur h42;refine wp_seq ?_;rw[r50_eq];dsimp only[kk50,q1,q2,Tryz.f50];refine wp_region_lit ?_;refine wl_load (.tmp 3) ev3 hrun ?_;refine wl_call1 (.tmp 31) (Yl h42 (by decide) _) eg161 k161 λe w2 ⟨vp,he2,S2,hB2,hS12,hnew2,hlt2,hrp⟩=>⟨vp,he2,?_⟩
 obtain⟨ad,_,rfl,_⟩:=RV.dp hrp;have hB12:w1.heap.size<=w2.heap.size:=hB2.size;obtain⟨gb,go,gcap,ga,gc,rfl,hgb,hcell,hints⟩:=groups_at hr1 hR2.lt h.pos;have hg2:GlobOK EE S2 w2:=hR2.glob.mono hS12 (λb hb=>hB2.block b (hR2.lt b hb))
 have hk171:=calls171 (H:=Unit) w2 (some ad) gb go gcap gs (bstP p) ga gc (λj hj=>(World.cell?_of_block (a:=⟨gb,go+j,none⟩) (hB2.block gb hgb)).trans (hcell j hj)) (by omega) (by have:=h.len;omega)
  (λj hj=>by have:=Qg (List.getElem_mem hj);have:=h.sum;omega)
  (λk=>Nat.le_trans (prodR_le _) (Nat.le_trans (Nat.pow_le_pow_right (show 0<2 by omega) (show j8 (gs.take k).reverse<=8 by
   rw[zBH];exact Nat.le_trans (sumLen_take gs k) h.sum)) (by decide)))
  (λk m v hm=>by
   have h1:=outF_bnd (Y:=30000000000000000) (by omega) (gs.take k).reverse (λg hg k e he=>bstP_bnd hok (by
    rw[Yt];have:=Qg (List.mem_of_mem_take (List.mem_reverse.1 hg));have:=h.sum;omega) k e he) m v hm
   have h2:j8 (gs.take k).reverse<=8:=by rw[zBH];exact Nat.le_trans (sumLen_take gs k) h.sum
   have h3:(gs.take k).reverse.length<=30:=by rw[List.length_reverse,List.length_take];have:=h.len;omega
   have h4:((gs.take k).reverse.length:Int) * 30000000000000000<=30 * 30000000000000000:=Int.mul_le_mul_of_nonneg_right (by omega) (by omega)
   omega)
  (λj hj h0=>by
   obtain⟨b,o,e1,e2,e3⟩:=hints j hj h0;exact⟨b,o,e1,by omega,λi hi=>(World.cell?_of_block (a:=⟨b,o+i,none⟩) (hB2.block b e2)).trans (e3 i hi)⟩)
  (λW j hj oa oc k hBW hrow hk=>by
   have hgm:=List.getElem_mem hj;have hmem:∀x∈j7 gs[j],0<=x/\x<p.ps.length:=λx hx=>h.idx _ hgm x (by unfold j7 at hx;exact(List.mem_mergeSort).1 hx)
   have hnn:((j7 gs[j]).map Int.toNat).map (Nat.cast:Nat->Int)=j7 gs[j]:=by
    rw[List.map_map]
    conv=>rhs;rw[<-List.map_id (j7 gs[j])]
    exact List.map_congr_left λx hx=>by have:=hmem x hx;show((x.toNat:Nat):Int)=x;omega
   have hl8:gs[j].length<=8:=by have:=Qg hgm;have:=h.sum;omega
   exact best_at hE hok hrp hg2 hlt2 (Nat.le_refl _) W ((j7 gs[j]).map Int.toNat) oa gs[j].length oc k hBW (by rw[List.length_map,Yt]) (by rw[hnn];exact hrow) (by omega) (by rw[List.length_map,Yt];omega) (λi hi=>by
    obtain⟨x,hx,rfl⟩:=List.mem_map.1 hi;have:=hmem x hx;omega))
 have q2':=hsz _ (some 32) (.pointer (some ad)) q1';refine wl_move (.tmp 1) ((jr _ (by decide) _).trans ((jr _ (by decide) _).trans ev1)) ?_
 have q3:=hsz _ (some 33) (.slice (some ⟨gb,go,none⟩) gs.length gcap) q2';refine wl_call2 (.tmp 32) (.tmp 33) ((jr _ (by decide) _).trans (Yl q1' (by decide) _)) (Yl q2' (by decide) _) eg171 hk171 λe w3 ⟨b,nn,D,he3,hown,hA,hB3⟩=>⟨_,he3,?_⟩
 have q4:=hsz _ (some 34) (.map (some b)) q3;refine wl_move (.tmp 2) ((jr _ (by decide) _).trans ((jr _ (by decide) _).trans ((jr _ (by decide) _).trans ((jr _ (by decide) _).trans ev2)))) ?_
 have q5:=hsz _ (some 35) (.int .i64 n) q4;have hnr:=Yg h.n;have h8:=hok.l;have zeroE:∀w,(zeroValue 3).run Tryz.prog w=.ok (.int .i64 0) w:=λw=>by kernel_rfl
 refine wpList_lookup_own_ok_int w3 rfl (.tmp 34) (.tmp 35) 278 rfl 3 3 .i64 law3 Tryz.underlying278 Tryz.underlying3 (zeroE _) b nn D ((jr _ (by decide) _).trans (Yl q3 (by decide) _)) hown (.int .i64 n) (.int .i64 n) (Yl q4 (by decide) _)
  (keyOf_int_mk Tryz.underlying3 (WalkArith.wf_i64 (by omega))) λc hat hcw=>?_
 generalize hhb:Maps.has D (.int .i64 n)=hb;have q6:=hsz _ (some 36) (.tuple #[.int .i64 c,.bool hb]) q5;refine wl_move (.tmp 36) (Yl q5 (by decide) _) ?_
 have q7:=hsz _ (some 30) (.tuple #[.int .i64 c,.bool hb]) q6;refine wl_extract (.tmp 30) 0 (v:=.int .i64 c) (Yl q6 (by decide) _) rfl ?_
 have q8:=hsz _ (some 37) (.int .i64 c) q7;refine wl_extract (.tmp 30) 1 (v:=.bool hb) ((jr _ (by decide) _).trans (Yl q6 (by decide) _)) rfl ?_
 have q9:=hsz _ (some 38) (.bool hb) q8;refine wl_assign (.tmp 37) ((jr _ (by decide) _).trans (Yl q7 (by decide) _)) ?_
 have q10:=hsz _ (some 10) (.int .i64 c) q9;refine wl_assign (.tmp 38) ((jr _ (by decide) _).trans (Yl q8 (by decide) _)) ?_
 refine wpList_nil ?_;have hB13:Below w1.heap.size w1 w3:=hB2.trans (hB3.mono hB12);have hbase:=hR2.base;have hG3:Grow w.heap.size S1 S1 w1 w3:=⟨hB13.mono hbase,λ_ h=>h,λ_ h=>.inl h,λb hb=>hB13.block b (hR2.lt b hb)⟩
 have hR3:Rel EE w.heap.size S1 φ1 (stOf 42 [] []) a1 w3:=hRe.world hG3 (λb hb=>Nat.lt_of_lt_of_le (hR2.lt b hb) hB13.size) (λ_ _ h=>h) (λb hb=>hB13.block b hb)
 have hR4:=((((((((hR3.und (t:=31) (by omega) ur).und (t:=32) (by omega) (.pointer (some ad))).und (t:=33) (by omega) (.slice (some ⟨gb,go,none⟩) gs.length gcap)).und (t:=34) (by omega) (.map (some b))).und (t:=35) (by omega) (.int .i64 n)).und (t:=36) (by omega) (.tuple #[.int .i64 c,.bool hb])).und (t:=30) (by omega) (.tuple #[.int .i64 c,.bool hb])).und (t:=37) (by omega) (.int .i64 c)).und (t:=38) (by omega) (.bool hb)
 have hR5:=(hR4.put (some 10) (v:=.d (eI c)) (u:=.int .i64 c) (RV.mkInt _ _)).put (some 11) (v:=.d (.bool hb)) (u:=.bool hb) (RV.mkBool _);have hst:(⟨putT (putT (stOf 42 [] []).tm (some 10) (.d (eI c))) (some 11) (.d (.bool hb)),(stOf 42 [] []).hp⟩:St)=stOf 42 [(10,.d (.int .i64 c)),(11,.d (.bool hb))] []:=by kernel_rfl
 have hR6:Rel EE w.heap.size S1 φ1 (stOf 42 [(10,.d (.int .i64 c)),(11,.d (.bool hb))] []) _ w3:=hst ▸ hR5;have hval:r=.val (.tup [eI (if hb then c else 0),eI (if hb then 0 else 24)]):=by rw[<-hr];have h1:=(hA n).symm.trans (fD_look hat);rw[hhb] at h1;unfold Yn;rw[h1];cases hb <;> rfl
 obtain⟨M,ht⟩:=tail50 c hb;rw[<-hval] at ht;refine J2 hD Jr hc (sq2 k50t) ht hR6 λex st' S2 φ2 a2 w2 j1 j2 j3=>?_
 obtain⟨r0,k4,k5⟩:=bind_some j1;injection k5 with k5
 cases ex with
 | exit i=>simp[finK] at k4
 | normal =>
  obtain⟨h1,v,h2,h3⟩:=Jt hD j2 ((hG1.trans hG3).trans j3) (show fin EE (EE.fresh 50) (fnOf EE 50) st'=some r0 from k4)
  exact⟨h1,v,h2,v,rfl,k5 ▸ qe h3⟩
 | ret =>
  obtain⟨h1,v,h2,h3⟩:=Jt hD j2 ((hG1.trans hG3).trans j3) (show fin EE (EE.fresh 50) (fnOf EE 50) st'=some r0 from k4)
  exact⟨h1,v,h2,v,rfl,k5 ▸ qe h3⟩
end
end Go.Am
namespace Go.Am
open Go.Proofs
open Go
variable[OO]
def s200(j i n:Nat)(ru:ByteArray)(d wd ps:List DV)(sec x y:Int)(r0:DV)(z:Int)(row:List DV):St :=
 (stOf 47 [(3,(.d (.dp (.agg 0 [(.str ru),(.sl 1 d),(.sl 1 wd)])))),(4,(.d (.dp (.sl 2 ps)))),(5,(.d (.dp (.agg 9 [(.int .i64 sec),(.agg 1 [(.int .i64 x),(.int .i64 y)])])))),(7,(.ptr 7 1 0 [])),(8,(.d (.int .i64 ((j:Nat):Int)))),(9,(.d (.int .i64 ((i:Nat):Int)))),(26,(.own 19 0 n 1)),(27,(.d (.int .i64 ((j:Nat):Int)))),(28,(.ptr 19 1 j [])),(29,(.own 20 0 n 1)),(30,(.d (.int .i64 ((i:Nat):Int)))),(31,(.d (.agg 0 [(.str ru),(.sl 1 d),(.sl 1 wd)]))),(32,(.d (.agg 9 [(.int .i64 sec),(.agg 1 [(.int .i64 x),(.int .i64 y)])]))),(33,(.d (.sl 2 ps))),(34,(.d (.int .i64 ((i:Nat):Int)))),(35,(.d (.dp (nth ps (Int.toNat ((i:Nat):Int)))))),(36,(.d (.agg 1 [(.int .i64 (getI (nth (flds (nth ps (Int.toNat ((i:Nat):Int)))) 0))),(.int .i64 (getI (nth (flds (nth ps (Int.toNat ((i:Nat):Int)))) 1)))]))),(37,(.d (.sl 2 ps))),(38,(.d (.int .i64 ((j:Nat):Int)))),(39,(.d (.dp (nth ps j)))),(40,(.d (.agg 1 [(.int .i64 (getI (nth (flds (nth ps j)) 0))),(.int .i64 (getI (nth (flds (nth ps j)) 1)))]))),(41,(.d (.tup [(.int .i64 (getI (nth (tups r0) 0))),(.int .i64 (getI (nth (tups r0) 1)))]))),(42,(.d (.int .i64 (getI (nth (tups r0) 0))))),(43,(.d (.int .i64 (getI (nth (tups r0) 1))))),(44,(.d (.int .i64 z))),(45,(.ptr 20 1 (0+(Int.toNat ((i:Nat):Int))) []))] [(7,(.mk true (.ac 1 [(.own 19 0 n 1)]))),(19,(.mk true (.ac 1 (List.replicate j .undef++[.own 20 0 n 1])))),(20,(.mk false (.dc 1 (List.set row (0+(Int.toNat ((i:Nat):Int))) (.int .i64 z)))))])
noncomputable def X200(g:Nat->St->Option CR)(j i n:Nat)(ru:ByteArray)(d wd ps:List DV)(sec x y:Int)(row:List DV):Option CR :=
 ifO (decide (((0:Int)<=((j:Nat):Int))/\(((j:Nat):Int)<((n:Nat):Int))))
 (ifO (decide (((0:Int)<=((i:Nat):Int))/\(((i:Nat):Int)<(((List.length ps):Nat):Int))))
 (ifO (hasT EE 6 141 (nth ps (Int.toNat ((i:Nat):Int))))
 (ifO (decide (((0:Int)<=((j:Nat):Int))/\(((j:Nat):Int)<(((List.length ps):Nat):Int))))
 (ifO (hasT EE 6 141 (nth ps j))
 (zC (zA 185 [(.agg 9 [(.int .i64 sec),(.agg 1 [(.int .i64 x),(.int .i64 y)])]),(.agg 1 [(.int .i64 (getI (nth (flds (nth ps (Int.toNat ((i:Nat):Int)))) 0))),(.int .i64 (getI (nth (flds (nth ps (Int.toNat ((i:Nat):Int)))) 1)))]),(.agg 1 [(.int .i64 (getI (nth (flds (nth ps j)) 0))),(.int .i64 (getI (nth (flds (nth ps j)) 1)))])])
 (λr0=>ifO ((DV.isTup r0) && (zP (hasT EE 6) [3,3] (tups r0)))
 (zC (zA 186 [(.agg 0 [(.str ru),(.sl 1 d),(.sl 1 wd)]),(.int .i64 (getI (nth (tups r0) 0))),(.int .i64 (getI (nth (tups r0) 1)))])
 (λr1=>ifO (hasT EE 6 3 r1)
 (ifO (decide (((0:Int)<=((i:Nat):Int))/\(((i:Nat):Int)<((n:Nat):Int))))
 (ifO (decide ((0+(Int.toNat ((i:Nat):Int)))<(List.length row)))
 (g 0 (s200 j i n ru d wd ps sec x y r0 (getI r1) row))
 (none))
 (none))
 (none))
 (λ_ _=>none))
 (none))
 (λ_ _=>none))
 (none))
 (none))
 (none))
 (none))
 (none)
theorem p200c_run(g:Nat->St->Option CR)(i n:Nat)(ru:ByteArray)(d wd ps:List DV)(sec x y:Int)(row:List DV):∀(j:Nat) (_:j<64),run zA g (p200c j i n ru d wd ps sec x y row)=X200 g j i n ru d wd ps sec x y row
 | 0,_=>by kernel_rfl
 | 1,_=>by kernel_rfl
 | 2,_=>by kernel_rfl
 | 3,_=>by kernel_rfl
 | 4,_=>by kernel_rfl
 | 5,_=>by kernel_rfl
 | 6,_=>by kernel_rfl
 | 7,_=>by kernel_rfl
 | 8,_=>by kernel_rfl
 | 9,_=>by kernel_rfl
 | 10,_=>by kernel_rfl
 | 11,_=>by kernel_rfl
 | 12,_=>by kernel_rfl
 | 13,_=>by kernel_rfl
 | 14,_=>by kernel_rfl
 | 15,_=>by kernel_rfl
 | 16,_=>by kernel_rfl
 | 17,_=>by kernel_rfl
 | 18,_=>by kernel_rfl
 | 19,_=>by kernel_rfl
 | 20,_=>by kernel_rfl
 | 21,_=>by kernel_rfl
 | 22,_=>by kernel_rfl
 | 23,_=>by kernel_rfl
 | 24,_=>by kernel_rfl
 | 25,_=>by kernel_rfl
 | 26,_=>by kernel_rfl
 | 27,_=>by kernel_rfl
 | 28,_=>by kernel_rfl
 | 29,_=>by kernel_rfl
 | 30,_=>by kernel_rfl
 | 31,_=>by kernel_rfl
 | 32,_=>by kernel_rfl
 | 33,_=>by kernel_rfl
 | 34,_=>by kernel_rfl
 | 35,_=>by kernel_rfl
 | 36,_=>by kernel_rfl
 | 37,_=>by kernel_rfl
 | 38,_=>by kernel_rfl
 | 39,_=>by kernel_rfl
 | 40,_=>by kernel_rfl
 | 41,_=>by kernel_rfl
 | 42,_=>by kernel_rfl
 | 43,_=>by kernel_rfl
 | 44,_=>by kernel_rfl
 | 45,_=>by kernel_rfl
 | 46,_=>by kernel_rfl
 | 47,_=>by kernel_rfl
 | 48,_=>by kernel_rfl
 | 49,_=>by kernel_rfl
 | 50,_=>by kernel_rfl
 | 51,_=>by kernel_rfl
 | 52,_=>by kernel_rfl
 | 53,_=>by kernel_rfl
 | 54,_=>by kernel_rfl
 | 55,_=>by kernel_rfl
 | 56,_=>by kernel_rfl
 | 57,_=>by kernel_rfl
 | 58,_=>by kernel_rfl
 | 59,_=>by kernel_rfl
 | 60,_=>by kernel_rfl
 | 61,_=>by kernel_rfl
 | 62,_=>by kernel_rfl
 | 63,_=>by kernel_rfl
 | j+64,h=>absurd h (by omega)
theorem f200(i n:Nat)(ru:ByteArray)(d wd ps:List DV)(sec x y:Int)(r0:DV)(z:Int)(row:List DV):∀(j:Nat) (_:j<64),(⟨stTm 47 0 [(7,.ptr 7 1 0 [])],hp200 j n (List.set row (0+i) (.int .i64 z))⟩:St)=forget [7] (s200 j i n ru d wd ps sec x y r0 z row)
 | 0,_=>by kernel_rfl
 | 1,_=>by kernel_rfl
 | 2,_=>by kernel_rfl
 | 3,_=>by kernel_rfl
 | 4,_=>by kernel_rfl
 | 5,_=>by kernel_rfl
 | 6,_=>by kernel_rfl
 | 7,_=>by kernel_rfl
 | 8,_=>by kernel_rfl
 | 9,_=>by kernel_rfl
 | 10,_=>by kernel_rfl
 | 11,_=>by kernel_rfl
 | 12,_=>by kernel_rfl
 | 13,_=>by kernel_rfl
 | 14,_=>by kernel_rfl
 | 15,_=>by kernel_rfl
 | 16,_=>by kernel_rfl
 | 17,_=>by kernel_rfl
 | 18,_=>by kernel_rfl
 | 19,_=>by kernel_rfl
 | 20,_=>by kernel_rfl
 | 21,_=>by kernel_rfl
 | 22,_=>by kernel_rfl
 | 23,_=>by kernel_rfl
 | 24,_=>by kernel_rfl
 | 25,_=>by kernel_rfl
 | 26,_=>by kernel_rfl
 | 27,_=>by kernel_rfl
 | 28,_=>by kernel_rfl
 | 29,_=>by kernel_rfl
 | 30,_=>by kernel_rfl
 | 31,_=>by kernel_rfl
 | 32,_=>by kernel_rfl
 | 33,_=>by kernel_rfl
 | 34,_=>by kernel_rfl
 | 35,_=>by kernel_rfl
 | 36,_=>by kernel_rfl
 | 37,_=>by kernel_rfl
 | 38,_=>by kernel_rfl
 | 39,_=>by kernel_rfl
 | 40,_=>by kernel_rfl
 | 41,_=>by kernel_rfl
 | 42,_=>by kernel_rfl
 | 43,_=>by kernel_rfl
 | 44,_=>by kernel_rfl
 | 45,_=>by kernel_rfl
 | 46,_=>by kernel_rfl
 | 47,_=>by kernel_rfl
 | 48,_=>by kernel_rfl
 | 49,_=>by kernel_rfl
 | 50,_=>by kernel_rfl
 | 51,_=>by kernel_rfl
 | 52,_=>by kernel_rfl
 | 53,_=>by kernel_rfl
 | 54,_=>by kernel_rfl
 | 55,_=>by kernel_rfl
 | 56,_=>by kernel_rfl
 | 57,_=>by kernel_rfl
 | 58,_=>by kernel_rfl
 | 59,_=>by kernel_rfl
 | 60,_=>by kernel_rfl
 | 61,_=>by kernel_rfl
 | 62,_=>by kernel_rfl
 | 63,_=>by kernel_rfl
 | j+64,h=>absurd h (by omega)
end Go.Am
namespace Go.Am
open Go.Proofs
open Go
variable[OO]
theorem C241(x0:DV):zA 241 [x0] =
 ifO (zP (hasT EE 6) [3] [x0])
 (some (.val (.fn 282 [] [(.dp (eI (getI x0)))])))
 (none) :=
 (zE (f:=241) (by kernel_rfl) (by kernel_rfl) (by kernel_rfl) [x0]).trans (by kernel_rfl)
end Go.Am
namespace Go.Am
open Go.Proofs
open Go
variable[OO]
def s161(j i:Nat)(x n:Int)(ps:List DV)(least:Int)(ru:ByteArray)(d wd pw:List DV)(cut:Int)(rs ns:List DV):St :=
 (stOf 50 [(1,(.ptr 1 415 0 [])),(3,(.ptr 3 1 0 [])),(4,(.d (.int .i64 ((j:Nat):Int)))),(5,(.d (.int .i64 ((i:Nat):Int)))),(6,(.ptr 6 3 0 [])),(20,(.d (.fn 282 [] [(.dp (.int .i64 n))]))),(21,(.d (.int .i64 ((j:Nat):Int)))),(22,(.d (.int .i64 ((i:Nat):Int)))),(23,(.ptr 1 415 0 [(.mk 6 1)])),(24,(.d (.int .i64 least))),(25,(.ptr 1 415 0 [(.mk 6 0)])),(26,(.d (.sl 2 ps))),(27,(.d (.int .i64 ((i:Nat):Int)))),(28,(.d (.dp (nth ps i)))),(29,(.d (.agg 1 [(.int .i64 (getI (nth (flds (nth ps i)) 0))),(.int .i64 (getI (nth (flds (nth ps i)) 1)))]))),(30,(.d (.agg 9 [(.str (bs [97])),(.agg 1 [(.int .i64 (getI (nth (flds (nth ps i)) 0))),(.int .i64 (getI (nth (flds (nth ps i)) 1)))])]))),(31,(.ptr 1 415 0 [(.mk 6 0)])),(32,(.d (.sl 2 ps))),(33,(.d (.int .i64 ((j:Nat):Int)))),(34,(.d (.dp (nth ps j)))),(35,(.d (.agg 1 [(.int .i64 (getI (nth (flds (nth ps j)) 0))),(.int .i64 (getI (nth (flds (nth ps j)) 1)))]))),(36,(.d (.agg 9 [(.str (bs [98])),(.agg 1 [(.int .i64 (getI (nth (flds (nth ps j)) 0))),(.int .i64 (getI (nth (flds (nth ps j)) 1)))])]))),(37,(.own 37 0 2 3)),(38,(.agg 0 [(.d (.str (bs [112,108,97,110]))),(.d (.int .i64 least)),(.own 37 0 2 3)])),(39,(.ptr 16 892 0 [])),(40,(.d (.int .i64 ((j:Nat):Int)))),(41,(.d (.int .i64 ((i:Nat):Int)))),(42,(.agg 0 [(.d (.str (bs [112,108,97,110]))),(.d (.int .i64 least)),(.own 37 0 2 3)])),(43,(.d (.int .i64 (x)))),(44,(.d (.bool (bne (x) 0)))),(45,(.ptr 16 892 0 [])),(46,(.ptr 16 892 0 [(.mk 16 2)])),(47,(.ptr 16 892 0 [(.mk 16 2),(.mk 15 j)])),(48,(.ptr 16 892 0 [(.mk 16 2),(.mk 15 j),(.mk 14 i)]))] [(1,(.mk false (.dc 415 [(.agg 6 [(.sl 2 ps),(.int .i64 least),(.agg 0 [(.str ru),(.sl 1 d),(.sl 1 wd)]),(.agg 1 [(.sl 1 pw),(.int .i64 cut)]),(.agg 3 rs)])]))),(3,(.mk false (.ac 1 [(.ptr 16 892 0 [])]))),(6,(.mk false (.ac 3 [(.agg 0 [(.d (.str (bs [112,108,97,110]))),(.d (.int .i64 least)),(.own 37 0 2 3)])]))),(16,(.mk false (.dc 892 [(.agg 16 [(.agg 6 [(.sl 2 ps),(.int .i64 least),(.agg 0 [(.str ru),(.sl 1 d),(.sl 1 wd)]),(.agg 1 [(.sl 1 pw),(.int .i64 cut)]),(.agg 3 rs)]),(.agg 13 [(.agg 0 [(.str ru),(.sl 1 d),(.sl 1 wd)]),(.agg 1 [(.sl 1 pw),(.int .i64 cut)]),(.agg 3 rs)]),(.agg 15 (List.set ns j (.agg 14 (List.set (flds (nth ns j)) i (.bool (bne (x) 0))))))])]))),(37,(.mk false (.dc 3 [(.agg 9 [(.str (bs [97])),(.agg 1 [(.int .i64 (getI (nth (flds (nth ps i)) 0))),(.int .i64 (getI (nth (flds (nth ps i)) 1)))])]),(.agg 9 [(.str (bs [98])),(.agg 1 [(.int .i64 (getI (nth (flds (nth ps j)) 0))),(.int .i64 (getI (nth (flds (nth ps j)) 1)))])])])))])
theorem p161c_run(g:Nat->St->Option CR)(n:Int)(ps:List DV)(least:Int)(ru:ByteArray)(d wd pw:List DV)(cut:Int)(rs ns:List DV):∀(j i:Nat) (_:j<8) (_:i<8),run zA g (p161c j i n ps least ru d wd pw cut rs ns) =
 ifO (decide (((0:Int)<=((i:Nat):Int))/\(((i:Nat):Int)<(((List.length ps):Nat):Int))))
 (ifO (hasT EE 6 141 (nth ps i))
 (ifO (decide (((0:Int)<=((j:Nat):Int))/\(((j:Nat):Int)<(((List.length ps):Nat):Int))))
 (ifO (hasT EE 6 141 (nth ps j))
 (zC (zA 158 [(.agg 0 [(.str (bs [112,108,97,110])),(.int .i64 least),(.sl 3 [(.agg 9 [(.str (bs [97])),(.agg 1 [(.int .i64 (getI (nth (flds (nth ps i)) 0))),(.int .i64 (getI (nth (flds (nth ps i)) 1)))])]),(.agg 9 [(.str (bs [98])),(.agg 1 [(.int .i64 (getI (nth (flds (nth ps j)) 0))),(.int .i64 (getI (nth (flds (nth ps j)) 1)))])])])])])
 (λr0=>ifO (hasT EE 6 46 r0)
 (ifO (isAg 15 j (.agg 15 ns))
 (ifO (isAg 14 i (nth ns j))
 (g 0 (s161 j i (getI r0) n ps least ru d wd pw cut rs ns))
 (none))
 (none))
 (none))
 (λ_ _=>none))
 (none))
 (none))
 (none))
 (none)
 | 0,0,_,_=>by kernel_rfl
 | 0,1,_,_=>by kernel_rfl
 | 0,2,_,_=>by kernel_rfl
 | 0,3,_,_=>by kernel_rfl
 | 0,4,_,_=>by kernel_rfl
 | 0,5,_,_=>by kernel_rfl
 | 0,6,_,_=>by kernel_rfl
 | 0,7,_,_=>by kernel_rfl
 | 1,0,_,_=>by kernel_rfl
 | 1,1,_,_=>by kernel_rfl
 | 1,2,_,_=>by kernel_rfl
 | 1,3,_,_=>by kernel_rfl
 | 1,4,_,_=>by kernel_rfl
 | 1,5,_,_=>by kernel_rfl
 | 1,6,_,_=>by kernel_rfl
 | 1,7,_,_=>by kernel_rfl
 | 2,0,_,_=>by kernel_rfl
 | 2,1,_,_=>by kernel_rfl
 | 2,2,_,_=>by kernel_rfl
 | 2,3,_,_=>by kernel_rfl
 | 2,4,_,_=>by kernel_rfl
 | 2,5,_,_=>by kernel_rfl
 | 2,6,_,_=>by kernel_rfl
 | 2,7,_,_=>by kernel_rfl
 | 3,0,_,_=>by kernel_rfl
 | 3,1,_,_=>by kernel_rfl
 | 3,2,_,_=>by kernel_rfl
 | 3,3,_,_=>by kernel_rfl
 | 3,4,_,_=>by kernel_rfl
 | 3,5,_,_=>by kernel_rfl
 | 3,6,_,_=>by kernel_rfl
 | 3,7,_,_=>by kernel_rfl
 | 4,0,_,_=>by kernel_rfl
 | 4,1,_,_=>by kernel_rfl
 | 4,2,_,_=>by kernel_rfl
 | 4,3,_,_=>by kernel_rfl
 | 4,4,_,_=>by kernel_rfl
 | 4,5,_,_=>by kernel_rfl
 | 4,6,_,_=>by kernel_rfl
 | 4,7,_,_=>by kernel_rfl
 | 5,0,_,_=>by kernel_rfl
 | 5,1,_,_=>by kernel_rfl
 | 5,2,_,_=>by kernel_rfl
 | 5,3,_,_=>by kernel_rfl
 | 5,4,_,_=>by kernel_rfl
 | 5,5,_,_=>by kernel_rfl
 | 5,6,_,_=>by kernel_rfl
 | 5,7,_,_=>by kernel_rfl
 | 6,0,_,_=>by kernel_rfl
 | 6,1,_,_=>by kernel_rfl
 | 6,2,_,_=>by kernel_rfl
 | 6,3,_,_=>by kernel_rfl
 | 6,4,_,_=>by kernel_rfl
 | 6,5,_,_=>by kernel_rfl
 | 6,6,_,_=>by kernel_rfl
 | 6,7,_,_=>by kernel_rfl
 | 7,0,_,_=>by kernel_rfl
 | 7,1,_,_=>by kernel_rfl
 | 7,2,_,_=>by kernel_rfl
 | 7,3,_,_=>by kernel_rfl
 | 7,4,_,_=>by kernel_rfl
 | 7,5,_,_=>by kernel_rfl
 | 7,6,_,_=>by kernel_rfl
 | 7,7,_,_=>by kernel_rfl
 | j+8,_,h,_=>absurd h (by omega)
 | 0,i+8,_,h=>absurd h (by omega)
 | 1,i+8,_,h=>absurd h (by omega)
 | 2,i+8,_,h=>absurd h (by omega)
 | 3,i+8,_,h=>absurd h (by omega)
 | 4,i+8,_,h=>absurd h (by omega)
 | 5,i+8,_,h=>absurd h (by omega)
 | 6,i+8,_,h=>absurd h (by omega)
 | 7,i+8,_,h=>absurd h (by omega)
set_option linter.unusedVariables false in
theorem p161a_run(g:Nat->St->Option CR)(ps:List DV)(least:Int)(ru:ByteArray)(d wd pw:List DV)(cut:Int)(rs:List DV):run (zA) g (p161a ps least ru d wd pw cut rs) =
 zC (zA 241 [(.int .i64 (((List.length ps):Nat):Int))])
 (λr0=>ifO (hasT EE 6 359 r0)
 ((g 0 (stOf 50 [(0,(.d (.agg 6 [(.sl 2 ps),(.int .i64 least),(.agg 0 [(.str ru),(.sl 1 d),(.sl 1 wd)]),(.agg 1 [(.sl 1 pw),(.int .i64 cut)]),(.agg 3 rs)]))),(1,(.ptr 1 415 0 [])),(2,(.d .nilPtr)),(3,(.ptr 3 1 0 [])),(7,(.d (.agg 6 [(.sl 2 ps),(.int .i64 least),(.agg 0 [(.str ru),(.sl 1 d),(.sl 1 wd)]),(.agg 1 [(.sl 1 pw),(.int .i64 cut)]),(.agg 3 rs)]))),(8,(.ptr 1 415 0 [(.mk 6 2)])),(9,(.d (.agg 0 [(.str ru),(.sl 1 d),(.sl 1 wd)]))),(10,(.ptr 1 415 0 [(.mk 6 3)])),(11,(.d (.agg 1 [(.sl 1 pw),(.int .i64 cut)]))),(12,(.ptr 1 415 0 [(.mk 6 4)])),(13,(.d (.agg 3 rs))),(14,(.d (.agg 13 [(.agg 0 [(.str ru),(.sl 1 d),(.sl 1 wd)]),(.agg 1 [(.sl 1 pw),(.int .i64 cut)]),(.agg 3 rs)]))),(15,(.d (.agg 16 [(.agg 6 [(.sl 2 ps),(.int .i64 least),(.agg 0 [(.str ru),(.sl 1 d),(.sl 1 wd)]),(.agg 1 [(.sl 1 pw),(.int .i64 cut)]),(.agg 3 rs)]),(.agg 13 [(.agg 0 [(.str ru),(.sl 1 d),(.sl 1 wd)]),(.agg 1 [(.sl 1 pw),(.int .i64 cut)]),(.agg 3 rs)]),(.agg 15 [(.agg 14 [(.bool false),(.bool false),(.bool false),(.bool false),(.bool false),(.bool false),(.bool false),(.bool false)]),(.agg 14 [(.bool false),(.bool false),(.bool false),(.bool false),(.bool false),(.bool false),(.bool false),(.bool false)]),(.agg 14 [(.bool false),(.bool false),(.bool false),(.bool false),(.bool false),(.bool false),(.bool false),(.bool false)]),(.agg 14 [(.bool false),(.bool false),(.bool false),(.bool false),(.bool false),(.bool false),(.bool false),(.bool false)]),(.agg 14 [(.bool false),(.bool false),(.bool false),(.bool false),(.bool false),(.bool false),(.bool false),(.bool false)]),(.agg 14 [(.bool false),(.bool false),(.bool false),(.bool false),(.bool false),(.bool false),(.bool false),(.bool false)]),(.agg 14 [(.bool false),(.bool false),(.bool false),(.bool false),(.bool false),(.bool false),(.bool false),(.bool false)]),(.agg 14 [(.bool false),(.bool false),(.bool false),(.bool false),(.bool false),(.bool false),(.bool false),(.bool false)])])]))),(16,(.ptr 16 892 0 [])),(17,(.ptr 1 415 0 [(.mk 6 0)])),(18,(.d (.sl 2 ps))),(19,(.d (.int .i64 (((List.length ps):Nat):Int)))),(20,(.d (.fn (fnId r0) (fnA r0) (fnC r0))))] [(1,(.mk false (.dc 415 [(.agg 6 [(.sl 2 ps),(.int .i64 least),(.agg 0 [(.str ru),(.sl 1 d),(.sl 1 wd)]),(.agg 1 [(.sl 1 pw),(.int .i64 cut)]),(.agg 3 rs)])]))),(3,(.mk false (.ac 1 [(.ptr 16 892 0 [])]))),(16,(.mk false (.dc 892 [(.agg 16 [(.agg 6 [(.sl 2 ps),(.int .i64 least),(.agg 0 [(.str ru),(.sl 1 d),(.sl 1 wd)]),(.agg 1 [(.sl 1 pw),(.int .i64 cut)]),(.agg 3 rs)]),(.agg 13 [(.agg 0 [(.str ru),(.sl 1 d),(.sl 1 wd)]),(.agg 1 [(.sl 1 pw),(.int .i64 cut)]),(.agg 3 rs)]),(.agg 15 [(.agg 14 [(.bool false),(.bool false),(.bool false),(.bool false),(.bool false),(.bool false),(.bool false),(.bool false)]),(.agg 14 [(.bool false),(.bool false),(.bool false),(.bool false),(.bool false),(.bool false),(.bool false),(.bool false)]),(.agg 14 [(.bool false),(.bool false),(.bool false),(.bool false),(.bool false),(.bool false),(.bool false),(.bool false)]),(.agg 14 [(.bool false),(.bool false),(.bool false),(.bool false),(.bool false),(.bool false),(.bool false),(.bool false)]),(.agg 14 [(.bool false),(.bool false),(.bool false),(.bool false),(.bool false),(.bool false),(.bool false),(.bool false)]),(.agg 14 [(.bool false),(.bool false),(.bool false),(.bool false),(.bool false),(.bool false),(.bool false),(.bool false)]),(.agg 14 [(.bool false),(.bool false),(.bool false),(.bool false),(.bool false),(.bool false),(.bool false),(.bool false)]),(.agg 14 [(.bool false),(.bool false),(.bool false),(.bool false),(.bool false),(.bool false),(.bool false),(.bool false)])])])])))])))
 (none))
 (λ_ _=>none):=by kernel_rfl
end Go.Am
namespace Go.Am
open Go.Proofs
open Go Go.RowKit
theorem zAe{n a b:Int}(h1:a<=n)(h2:n<=b):zV n a b=0:=if_neg (by omega)
theorem sites2{a b:Pt}{least:Int}(ha:okPt a)(hb:okPt b)(h1:1<=least)(h2:least<=1000) :
  z8 ⟨bs [112,108,97,110],least,[⟨bs [97],a⟩,⟨bs [98],b⟩]⟩=if jB b a<least * least then 15 else 0:=by
 have n1:jE (bs [112,108,97,110])=true:=by kernel_rfl
 have n2:jE (bs [97])=true:=by kernel_rfl
 have n3:jE (bs [98])=true:=by kernel_rfl
 have pa:ptE a=0:=by obtain⟨x1,x2,x3,x4⟩:=ha;unfold ptE;rw[zAe x1 x2,zAe x3 x4];rfl
 have pb:ptE b=0:=by obtain⟨x1,x2,x3,x4⟩:=hb;unfold ptE;rw[zAe x1 x2,zAe x3 x4];rfl
 have hr:zV least 1 1000=0:=by unfold zV;rw[if_neg (by omega)]
 have hm:memB (bs [98]) [bs [97]]=false:=by kernel_rfl
 have hm0:memB (bs [97]) []=false:=rfl;simp[z8,ja,n1,n2,n3,pa,pb,hr,zL,hm,hm0]
def nbP(p:Pn)(k j i:Nat):Bool:=decide ((j,i)∈(jL p.ps.length).take k) && jc p j i
def nsP(p:Pn)(k:Nat):List DV:=(List.range 8).map λj=>.agg 14 ((List.range 8).map λi=>.bool (nbP p k j i))
theorem nsP_step(p:Pn)(k j i:Nat)(h:(jL p.ps.length)[k]? = some (j,i))(hj:j<8)(hi:i<8) :
  List.set (nsP p k) j (.agg 14 (List.set (flds (nth (nsP p k) j)) i (.bool (jc p j i))))=nsP p (k+1):=by
 have hb:∀a b,nbP p (k+1) a b=if a=j/\b=i then jc p j i else nbP p k a b:=by
  intro a b;unfold nbP;rw[List.take_succ,h];by_cases hab:a=j/\b=i
  ·obtain⟨rfl,rfl⟩:=hab;simp
  ·rw[if_neg hab];have:((a,b):Nat×Nat)≠(j,i):=by simpa using hab
   simp[this]
 have hn:nth (nsP p k) j=.agg 14 ((List.range 8).map λi=>.bool (nbP p k j i)):=by
  unfold nsP;rw[zI _ _ _ (by simpa using hj)]
  simp
 rw[hn];unfold nsP;refine List.ext_getElem (by simp) λa h1 h2=>?_
 have ha:a<8:=by simpa using h2
 rw[List.getElem_set];split
 ·rename_i e;subst e;simp only[List.getElem_map,List.getElem_range,zR];congr 1;refine List.ext_getElem (by simp) λb h3 h4=>?_
  rw[List.getElem_set];split
  ·rename_i e;subst e;simp[hb]
  ·rename_i e;simp only[List.getElem_map,List.getElem_range,hb];rw[if_neg (by rintro⟨_,rfl⟩;exact e rfl)]
 ·rename_i e;simp only[List.getElem_map,List.getElem_range];congr 1;refine List.map_congr_left λb _=>?_
  rw[hb,if_neg (by rintro⟨rfl,_⟩;exact e rfl)]
theorem mem_pairs'{n j i:Nat}(hj:j<n)(hi:i<n)(hne:i≠j):(j,i)∈jL n:=by unfold jL zAd rowP;simp only[List.mem_flatMap,List.mem_range',List.mem_map,List.mem_filter];exact⟨j,⟨j,by omega,by omega⟩,i,⟨⟨i,by omega,by omega⟩,by simpa using hne⟩,rfl⟩
theorem nsP_end(p:Pn):.agg 15 (nsP p (jL p.ps.length).length)=eNear p:=by
 unfold nsP;congr 1;refine List.map_congr_left λj _=>?_
 congr 1;refine List.map_congr_left λi _=>?_
 congr 1;unfold nbP;rw[List.take_length];by_cases h:jc p j i=true
 ·rw[h];unfold jc at h;simp only[Bool.and_eq_true,decide_eq_true_eq] at h;simp[mem_pairs' h.1.2.1 h.1.1 h.1.2.2]
 ·simp only[Bool.not_eq_true] at h;simp[h]
theorem nsP_zero(p:Pn):nsP p 0=List.replicate 8 (.agg 14 (List.replicate 8 (.bool false))):=by unfold nsP nbP;simp[List.range_succ,List.replicate]
def hpP(p:Pn)(k:Nat):List (Option OB):=hp161 (p.ps.map ePt) p.least p.w.rule (p.w.d.map eI) (p.w.w.map eI) (p.c.p.map eI) p.c.cut (p.r.map eRow) (nsP p k)
def opAft(c:Code)(k:Nat):Array Edge:=match c with
 | .region _ ops _=>match ops[k]? with | some o=>o.after | none=>#[]
 | _=>#[]
def Q5(c:Code)(k:Nat):String:=match c with
 | .region _ ops _=>match ops[k]? with | some o=>o.pos | none=>""
 | _=>""
section
variable[OO]
theorem a161(p:Pn):run zA (gT (Le [] ⟨tm161 p.ps.length,hpP p 0⟩)) (pcX 161 k161a (entry Tryz.f161 [ePn p]))=some (.val .nl):=by
 refine(show run zA (gT (Le [] ⟨tm161 p.ps.length,hpP p 0⟩)) (pcX 161 k161a (entry Tryz.f161 [ePn p])) =
  run zA (gT (Le [] ⟨tm161 p.ps.length,hpP p 0⟩)) (p161a (p.ps.map ePt) p.least p.w.rule (p.w.d.map eI) (p.w.w.map eI) (p.c.p.map eI) p.c.cut (p.r.map eRow)) by kernel_rfl).trans ?_
 rw[p161a_run,C241,List.length_map];rw[show zP (hasT EE 6) [3] [(.int .i64 (p.ps.length:Int))]=true by kernel_rfl]
 simp only[zB,zH,zF];rw[show hasT EE 6 359 (.fn 282 [] [.dp (.int .i64 (p.ps.length:Int))])=true by kernel_rfl,zB]
 refine KT_pos ?_;rw[show(⟨tm161 p.ps.length,hpP p 0⟩:St)=forget [1,3,20] _ from ?_]
 ·exact JW _ _
 ·unfold hpP;rw[nsP_zero];kernel_rfl
theorem b161(p:Pn)(hq:∀q∈p.ps,okPt q)(h1:1<=p.least)(h2:p.least<=1000)(hl:p.ps.length<=8)(k j i:Nat)(hk:(jL p.ps.length)[k]? = some (j,i)) :
  run zA (gT (Le [] ⟨tm161 p.ps.length,hpP p (k+1)⟩)) (pcX 161 k161b ⟨rd161 p.ps.length j i,hpP p k⟩)=some (.val .nl):=by
 obtain⟨hj,hi,hne⟩:=mem_pairs (List.mem_of_getElem? hk);simp only at hj hi hne;have hj8:j<8:=by omega
 have hi8:i<8:=by omega
 show run zA (gT _) (p161c j i p.ps.length (p.ps.map ePt) p.least p.w.rule (p.w.d.map eI) (p.w.w.map eI) (p.c.p.map eI) p.c.cut (p.r.map eRow) (nsP p k))=_;rw[p161c_run _ _ _ _ _ _ _ _ _ _ _ j i hj8 hi8,List.length_map];have e1:∀a (h:a<p.ps.length),nth (p.ps.map ePt) a=ePt p.ps[a]:=λa h=>zI ePt p.ps a h
 rw[e1 i hi,e1 j hj];have c1:((0:Int)<=((i:Nat):Int))/\(((i:Nat):Int)<((p.ps.length:Nat):Int)):=by omega
 have c2:((0:Int)<=((j:Nat):Int))/\(((j:Nat):Int)<((p.ps.length:Nat):Int)):=by omega
 have hh:∀q:Pt,hasT EE 6 141 (ePt q)=true:=λq=>by kernel_rfl
 simp only[decide_eq_true c1,decide_eq_true c2,hh,zB];have ec:zA 158 [(.agg 0 [(.str (bs [112,108,97,110])),(.int .i64 p.least),(.sl 3 [(.agg 9 [(.str (bs [97])),(.agg 1 [(.int .i64 (getI (nth (flds (ePt p.ps[i])) 0))),(.int .i64 (getI (nth (flds (ePt p.ps[i])) 1)))])]),
   (.agg 9 [(.str (bs [98])),(.agg 1 [(.int .i64 (getI (nth (flds (ePt p.ps[j])) 0))),(.int .i64 (getI (nth (flds (ePt p.ps[j])) 1)))])])])])] =
   some (.val (eI (if jB p.ps[j] p.ps[i]<p.least * p.least then 15 else 0))):=by
  rw[<-sites2 (hq _ (List.getElem_mem hi)) (hq _ (List.getElem_mem hj)) h1 h2];exact c158 ⟨bs [112,108,97,110],p.least,[⟨bs [97],p.ps[i]⟩,⟨bs [98],p.ps[j]⟩]⟩
 rw[ec];simp only[zH,zF];rw[show ∀x:Int,hasT EE 6 46 (eI x)=true from λx=>by kernel_rfl,zB]
 rw[show isAg 15 j (.agg 15 (nsP p k))=true by unfold isAg nsP;simp;omega,zB]
 have hn:nth (nsP p k) j=.agg 14 ((List.range 8).map λi=>.bool (nbP p k j i)):=by
  unfold nsP;rw[zI _ _ _ (by simpa using hj8)]
  simp
 rw[show isAg 14 i (nth (nsP p k) j)=true by rw[hn];unfold isAg;simp;omega,zB]
 refine KT_pos ?_;have hx:(bne (if jB p.ps[j] p.ps[i]<p.least * p.least then (15:Int) else 0) 0)=jc p j i:=by
  unfold jc;rw[decide_eq_true ⟨hi,hj,λe=>hne e.symm⟩]
  have e2:jB (p.ps.getD i default) (p.ps.getD j default)=jB p.ps[j] p.ps[i]:=by simp only[List.getD_eq_getElem?_getD,List.getElem?_eq_getElem hi,List.getElem?_eq_getElem hj,Option.getD_some,jB];rw[show(p.ps[i].x - p.ps[j].x)=-(p.ps[j].x - p.ps[i].x) by omega,show(p.ps[i].y - p.ps[j].y)=-(p.ps[j].y - p.ps[i].y) by omega,Int.neg_mul_neg,Int.neg_mul_neg]
  rw[e2];split
  ·rename_i h;simp[h]
  ·rename_i h;simp[h]
 have hs:=nsP_step p k j i hk hj8 hi8;rw[<-hx] at hs;rw[show(⟨tm161 p.ps.length,hpP p (k+1)⟩:St)=forget [1,3,20] _ from ?_]
 ·exact JW _ _
 ·unfold hpP;rw[<-hs];kernel_rfl
end
end Go.Am
namespace Go.Am
open Go.Proofs
open Go Go.RowKit
def T161(ds:List DV)(r:CR):Prop:=∃p:Pn,zm p.r/\p.ps.length<=8/\(∀q∈p.ps,okPt q)/\1<=p.least/\p.least<=1000/\ds=[ePn p]/\r=.val (.dp (eSe p))
noncomputable def k161g:Code:=match k161r with | .rangeFunc _ _ a _=>a | c=>c
noncomputable def k161y:Code:=sq2 (sq2 (sq2 k161))
theorem glob_nz:∀g x,EE.glob g=some x->nz EE.L (.dp x)=true:=by
 intro g x h;have:EE.glob g=if g=1 then some stepsD else none:=rfl
 rw[this] at h;split at h
 ·injection h with h;have e:nz EE.L (.dp stepsD)=true:=by kernel_rfl
  exact h ▸ e
 ·cases h
theorem nz_pt(q:Pt):nz EE.L (ePt q)=true:=by kernel_rfl
theorem nz_ints(l:List Int):nzL EE.L (l.map eI)=true:=zAy λx hx=>by obtain⟨m,_,rfl⟩:=List.mem_map.1 hx;rfl
theorem nz_pts(l:List Pt):nzL EE.L (l.map ePt)=true:=zAy λx hx=>by obtain⟨m,_,rfl⟩:=List.mem_map.1 hx;exact nz_pt m
theorem nz_rows(l:List (List Int)):nzL EE.L (l.map eRow)=true:=zAy λx hx=>by obtain⟨m,_,rfl⟩:=List.mem_map.1 hx;exact nz_ints m
theorem nz_ns(p:Pn)(k:Nat):nzL EE.L (nsP p k)=true:=zAy λx hx=>by obtain⟨m,_,rfl⟩:=List.mem_map.1 hx;show nzL EE.L _=true;exact zAy λy hy=>by obtain⟨m,_,rfl⟩:=List.mem_map.1 hy;rfl
theorem nz_hp(p:Pn)(k:Nat):(hpP p k).all (nzB EE.L)=true:=by
 have e:(hpP p k).all (nzB EE.L)=(nzL EE.L [dPn (p.ps.map ePt) p.least p.w.rule (p.w.d.map eI) (p.w.w.map eI) (p.c.p.map eI) p.c.cut (p.r.map eRow)] &&
   nzL EE.L [dSe (p.ps.map ePt) p.least p.w.rule (p.w.d.map eI) (p.w.w.map eI) (p.c.p.map eI) p.c.cut (p.r.map eRow) (nsP p k)]):=by
  unfold hpP;generalize nsP p k=ns;unfold hp161;simp only[stHp,List.all_cons,List.all_nil,nzB,nzVL,nzV,Bool.true_and,Bool.and_true]
 rw[e];simp[nzL,nz,nz_ints,nz_pts,nz_rows,nz_ns]
set_option maxRecDepth 100000 in
theorem body161:∃i1 i2 s1 s2 i3 s3 s4 af1 af2,Tryz.f161.body=some (.seq (sq1 k161) (.seq (sq1 (sq2 k161)) (.seq (.seq (sq1 (sq1 (sq2 (sq2 k161)))) (.block 0 (.rangeFunc (.tmp 20) #[21,22] (asgC i1 i2 4 5 21 22 3 s1 s2) k161b)))
  (.seq (.region i3 #[{ dst:=some 49,op:=.load 268 (.tmp 3),type:=268,pos:=s3,after:=af1,guard:=none },{ dst:=some 2,op:=.assign (.tmp 49),type:=268,pos:=s4,after:=af2,guard:=none }] false) .ret)))) :=
 ⟨3,4,Q5 (sq1 k161g) 0,Q5 (sq2 k161g) 0,7,Q5 (sq1 k161y) 0,Q5 (sq1 k161y) 1,#[],#[{ on:=0,ground:=.data },{ on:=0,ground:=.phase }],by kernel_rfl⟩
theorem len161(n:Int):(tm161 n).length=50:=by kernel_rfl
def D161:List Nat:=[4,5,6]++List.range' 21 28
theorem dead161(n:Int):∀i∈D161,(tm161 n)[i]? = some .undef\/(tm161 n)[i]? = none:=by
 have h:D161.all (λi=>match (tm161 n)[i]? with | some .undef=>true | none=>true | _=>false)=true:=by kernel_rfl
 intro i hi;have:=List.all_eq_true.1 h i hi;revert this;cases (tm161 n)[i]? with
 | none=>intro _;exact .inr rfl
 | some v=>cases v <;> simp
theorem loopGuard(n:Nat)(h:n<=8):(n:Int)<9223372036854775807:=by omega
set_option maxHeartbeats 1000000 in
theorem at161[OO](hE:EnvOKo PP EE OO.o)(ds:List DV)(r:CR):T161 ds r->QZ PP EE 161 ds r:=by
 rintro⟨p,hr,hl,hq,h1,h2,rfl,rfl⟩;refine⟨enters Tryz.func161 (by kernel_rfl) (by kernel_rfl),λS w vals hg hlt hlen hv=>?_⟩
 obtain⟨i1,i2,s1,s2,i3,s3,s4,af1,af2,hb⟩:=body161;refine(callsIn_wide (n:=0)).1 (callsIn_of_wp_marks Tryz.func161 hb trivial (wpIn_wide.2 ?_));have hc:jw PP EE (jt EE zA):=zAa (jk hE XX);have hD:DOK PP EE:=zAC _ _ _;have hR0:=entry_rel (E:=EE) (fn:=Tryz.f161) hg hlt hlen (show[ePn p].length<=Tryz.f161.ntmps by simp) hv
 have hA:=pc_exec (M:=1) (Nat.le_refl 1) (show z7 k161a=0 by kernel_rfl) (a161 p)
 refine exec_pre3 hD Jr hc (t:=⟨tm161 p.ps.length,hpP p 0⟩) hA hR0 λS1 φ1 a1 w1 hR1 hG1=>?_
 refine wp_block (wpIn_wide.1 (wp_pairs (n:=p.ps.length) (M:=1) (tm:=tm161 p.ps.length) hD hc (hpP p) hR1 (loopGuard _ hl) (by kernel_rfl) glob_nz (by kernel_rfl) (by kernel_rfl) (λk _=>nz_hp p k) D161 (dead161 _)
  (by decide) (by decide) (by decide) (by rw[len161];decide) (by kernel_rfl) (by kernel_rfl) (λk q hk=>pc_exec (Nat.le_refl 1) (by kernel_rfl) (b161 p hq h1 h2 hl k q.1 q.2 hk)) λS2 φ2 W hR2 hG2 hn2 hd2=>?_))
 have hw1:w.heap.size<=w1.heap.size:=hG1.below.size;show(Code.seq _ Code.ret).wp PP _ _ W;refine tail_wp (fn:=Tryz.f161) (x:=.ptr 16 892 0 []) (fresh:=false) (v:=.ptr 3 1 0 []) (w0:=w) (S0:=S) hD hR2 (hG1.trans hG2) hd2 hn2 hw1 (by kernel_rfl) (by kernel_rfl) ?_ (by rw[len161];decide)
 have e:fin EE false Tryz.f161 ⟨putT (putT (tm161 p.ps.length) (some 49) (AV.ptr 16 892 0 [])) (some 2) (AV.ptr 16 892 0 []),hpP p (jL p.ps.length).length⟩ =
   some (.val (.dp (.agg 16 [ePn p,eMd p.w p.c p.r,.agg 15 (nsP p (jL p.ps.length).length)]))):=by
  unfold hpP;generalize nsP p (jL p.ps.length).length=ns;kernel_rfl
 exact e.trans (by rw[nsP_end])
end Go.Am
namespace Go.Am
open Go.Proofs
open Go Go.RowKit
def T200(ds:List DV)(r:CR):Prop:=∃(w:Wk) (ps:List Pt) (sec:Int) (st:Pt),w.w.length=w.d.length/\w.d.length<=32/\ps.length<=64/\(∀p∈ps,okPt p)/\zAp st/\ds=[eWk w,.sl 2 (ps.map ePt),eWd sec st] /\
 r=.val (.sl 1 ((wakesP w ps sec st).map λr=>.sl 1 (r.map eI)))
def wakeAt(w:Wk)(ps:List Pt)(sec:Int)(st:Pt)(j i:Nat):Int:=defP w sec st (ps.getD i default) (ps.getD j default)
def rowK(w:Wk)(ps:List Pt)(sec:Int)(st:Pt)(k j:Nat):List Int:=(List.range ps.length).map λi=>if (j,i)∈(jL ps.length).take k then wakeAt w ps sec st j i else 0
theorem rowK_len(w:Wk)(ps:List Pt)(sec:Int)(st:Pt)(k j:Nat):(rowK w ps sec st k j).length=ps.length:=by simp[rowK]
theorem rowK_zero(w:Wk)(ps:List Pt)(sec:Int)(st:Pt)(j:Nat):rowK w ps sec st 0 j=List.replicate ps.length 0:=by unfold rowK;refine List.ext_getElem (by simp) λi h1 h2=>by simp
theorem rowK_end(w:Wk)(ps:List Pt)(sec:Int)(st:Pt)(j:Nat)(hj:j<ps.length):rowK w ps sec st (jL ps.length).length j=z6 w ps sec st j:=by
 unfold rowK z6;rw[List.take_length];refine List.map_congr_left λi hi=>?_
 have hi':=List.mem_range.1 hi;by_cases h:i=j
 ·subst h;rw[if_pos rfl,if_neg];intro hm;exact(mem_pairs hm).2.2 rfl
 ·rw[if_neg h,if_pos (mem_pairs' hj hi' h)];rfl
theorem rowK_step(w:Wk)(ps:List Pt)(sec:Int)(st:Pt)(k j i:Nat)(h:(jL ps.length)[k]? = some (j,i)):rowK w ps sec st (k+1) j=(rowK w ps sec st k j).set i (wakeAt w ps sec st j i):=by
 unfold rowK;rw[List.take_succ,h];refine List.ext_getElem (by simp) λa h1 h2=>?_
 rw[List.getElem_set];simp only[List.getElem_map,List.getElem_range];by_cases e:i=a
 ·subst e;simp
 ·rw[if_neg e];have:¬((j,a)=(j,i)):=by simpa using λh=>e h.symm
  simp[this,Ne.symm e]
theorem rowK_other(w:Wk)(ps:List Pt)(sec:Int)(st:Pt)(k j i b:Nat)(h:(jL ps.length)[k]? = some (j,i))(hb:b≠j):rowK w ps sec st (k+1) b=rowK w ps sec st k b:=by
 unfold rowK;rw[List.take_succ,h];refine List.map_congr_left λa _=>?_
 have:¬((b,a)=(j,i)):=by simpa using λh=>absurd h hb
 simp[hb]
section
variable[OO]
theorem b200(w:Wk)(ps:List Pt)(sec:Int)(st:Pt)(hw:w.w.length=w.d.length)(hd:w.d.length<=32)(hp:ps.length<=64)(hq:∀p∈ps,okPt p)(hs:zAp st)(row:List Int)(hrow:row.length=ps.length)(j i:Nat)(hj:j<ps.length)(hi:i<ps.length) :
  run zA (gT (Le [] ⟨stTm 47 0 [(7,.ptr 7 1 0 [])],hp200 j ps.length ((row.set i (wakeAt w ps sec st j i)).map eI)⟩)) (pcX 200 k200b ⟨rd200 j i w.rule (w.d.map eI) (w.w.map eI) (ps.map ePt) sec st.x st.y,hp200 j ps.length (row.map eI)⟩)=some (.val .nl):=by
 show run zA (gT _) (p200c j i ps.length w.rule (w.d.map eI) (w.w.map eI) (ps.map ePt) sec st.x st.y (row.map eI))=_;rw[p200c_run _ i ps.length _ _ _ _ _ _ _ _ j (by omega)]
 unfold X200;rw[List.length_map,Int.toNat_natCast,zI ePt ps i hi,zI ePt ps j hj];have hh:∀q:Pt,hasT EE 6 141 (ePt q)=true:=λq=>by kernel_rfl
 rw[decide_eq_true (show((0:Int)<=((j:Nat):Int))/\(((j:Nat):Int)<((ps.length:Nat):Int)) by omega),decide_eq_true (show((0:Int)<=((i:Nat):Int))/\(((i:Nat):Int)<((ps.length:Nat):Int)) by omega)]
 simp only[zB,hh];have e1:zA 185 [(.agg 9 [(.int .i64 sec),(.agg 1 [(.int .i64 st.x),(.int .i64 st.y)])]),(.agg 1 [(.int .i64 (getI (nth (flds (ePt ps[i])) 0))),(.int .i64 (getI (nth (flds (ePt ps[i])) 1)))]),(.agg 1 [(.int .i64 (getI (nth (flds (ePt ps[j])) 0))),(.int .i64 (getI (nth (flds (ePt ps[j])) 1)))])] =
   some (.val (.tup [eI (relP sec st ps[i] ps[j]).1,eI (relP sec st ps[i] ps[j]).2])):=c185 sec st ps[i] ps[j] hs (hq _ (List.getElem_mem hi)) (hq _ (List.getElem_mem hj))
 rw[e1];simp only[zH];rw[show ∀a b:Int,(DV.isTup (.tup [eI a,eI b]) && zP (hasT EE 6) [3,3] (tups (.tup [eI a,eI b])))=true from λa b=>by kernel_rfl,zB]
 have e2:zA 186 [(.agg 0 [(.str w.rule),(.sl 1 (w.d.map eI)),(.sl 1 (w.w.map eI))]),(.int .i64 (getI (nth (tups (.tup [eI (relP sec st ps[i] ps[j]).1,eI (relP sec st ps[i] ps[j]).2])) 0))),(.int .i64 (getI (nth (tups (.tup [eI (relP sec st ps[i] ps[j]).1,eI (relP sec st ps[i] ps[j]).2])) 1)))] =
   some (.val (eI (wakeAt w ps sec st j i))):=by
  have:=c186 w (relP sec st ps[i] ps[j]).1 (relP sec st ps[i] ps[j]).2 hw (by omega)
  refine this.trans ?_;unfold wakeAt defP;simp only[List.getD_eq_getElem?_getD,List.getElem?_eq_getElem hi,List.getElem?_eq_getElem hj,Option.getD_some]
 rw[e2];simp only[zH];rw[show ∀a:Int,hasT EE 6 3 (eI a)=true from λa=>by kernel_rfl,zB,decide_eq_true (show 0+i<(row.map eI).length by rw[List.length_map,hrow];omega),zB]
 refine KT_pos ?_;have hst:List.set (row.map eI) (0+i) (eI (wakeAt w ps sec st j i))=(row.set i (wakeAt w ps sec st j i)).map eI:=by rw[Nat.zero_add,List.map_set]
 rw[<-hst,f200 i ps.length w.rule (w.d.map eI) (w.w.map eI) (ps.map ePt) sec st.x st.y (.tup [eI (relP sec st ps[i] ps[j]).1,eI (relP sec st ps[i] ps[j]).2]) (wakeAt w ps sec st j i) (row.map eI) j (by omega)]
 exact JW _ _
end
end Go.Am
