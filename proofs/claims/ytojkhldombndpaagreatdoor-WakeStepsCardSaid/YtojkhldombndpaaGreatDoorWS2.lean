/- WakeSteps: for every input the law returns true, and each argument reads afterwards as it read before. Part 2. -/
import Derived.Test.YtojkhldombndpaaGreatDoorWS1
set_option linter.all false
namespace Go.Am
open Go.Proofs
open Go
variable[OO]
theorem mov_len(s:Si)(i:Nat)(p:Pt):(movS s i p).tb.length=s.tb.length:=by simp[movS]
theorem movS_self(s:Si)(i:Nat)(h:i<s.tb.length):movS s i (s.tb[i].at')=s:=by obtain⟨nm,le,l⟩:=s;simp only[movS,List.getD_eq_getElem?_getD,List.getElem?_eq_getElem h,Option.getD_some] at h ⊢;congr 1;exact List.set_getElem_self h
theorem movS_at(s:Si)(i j:Nat)(p:Pt)(h:j<s.tb.length):(movS s i p).tb[j]'(by rw[mov_len];exact h)=if i=j then ⟨s.tb[j].name,p⟩ else s.tb[j]:=by
 simp only[movS,List.getElem_set];split
 ·rename_i e;subst e;rw[List.getD_eq_getElem?_getD,List.getElem?_eq_getElem h];rfl
 ·rfl
theorem movS_back(s:Si)(i:Nat)(h:i<s.tb.length)(p:Pt):movS (movS s i p) i (s.tb[i].at')=s:=by
 have h2:i<(movS s i p).tb.length:=by rw[mov_len];exact h
 have e:(movS (movS s i p) i (s.tb[i].at')).tb=s.tb:=List.ext_getElem (by rw[mov_len,mov_len]) λj h3 h4=>by
  have h5:j<(movS s i p).tb.length:=by rw[mov_len];exact h4
  rw[movS_at (movS s i p) i j _ h5,movS_at s i j p h4];split
  ·rename_i e;subst e;rfl
  ·rfl
 show Si.mk s.name s.least (movS (movS s i p) i (s.tb[i].at')).tb=s;rw[e]
theorem raise_self(f:Fm):raiseI f f.s=0:=by unfold raiseI;omega
theorem raise_back{f:Fm}{k:Nat}{p:Pt}(h:k<f.s.tb.length):raiseI (ofF f (movS f.s k p)) (movS (movS f.s k p) k (f.s.tb[k].at'))=0 - raiseI f (movS f.s k p):=by rw[movS_back _ _ h];unfold raiseI;show jN f.w f.c f.r (psOf f.s) 0 - jN f.w f.c f.r (psOf (movS f.s k p)) 0=_;omega
theorem step_ge(f:Fm)(i:Nat)(st:ImpS)(p:Pt):impV st<=impV (impStep f i st p)/\(z8 (movS f.s i p)=0->raiseI f (movS f.s i p)<=impV (impStep f i st p)):=by
 unfold impStep;by_cases h:z8 (movS f.s i p)=0/\raiseI f (movS f.s i p)>impV st
 ·rw[if_pos h];exact⟨by show impV st<=raiseI f (movS f.s i p);omega,λ_=>Int.le_refl _⟩
 ·rw[if_neg h];exact⟨Int.le_refl _,λh1=>by
   rcases Int.lt_or_le (impV st) (raiseI f (movS f.s i p)) with h2 | h2
   ·exact absurd ⟨h1,h2⟩ h
   ·exact h2⟩
theorem all_ge(f:Fm)(p:Pt):∀(is:List Nat) (st:ImpS),impV st<=impV (impAll f [p] is st)/\∀i∈is,z8 (movS f.s i p)=0->raiseI f (movS f.s i p)<=impV (impAll f [p] is st)
 | [],st=>⟨Int.le_refl _,λi h=>by simp at h⟩
 | i :: is,st=>by
  obtain⟨h1,h2⟩:=step_ge f i st p;obtain⟨h3,h4⟩:=all_ge f p is (impStep f i st p);have e:impAll f [p] (i :: is) st=impAll f [p] is (impStep f i st p):=rfl;rw[e];refine⟨by omega,λj hj hs=>?_⟩
  rcases List.mem_cons.1 hj with rfl | hj
  ·have:=h2 hs;omega
  ·exact h4 j hj hs
theorem farmE_of{f:Fm}{s:Si}(h:jM f=0)(hs:z8 s=0):jM (ofF f s)=0:=by obtain⟨_,h2,h3,h4⟩:=firstL_4 h;show zL [z8 s,wakeE f.w,Jn f.c,Yf f.r]=0;rw[hs,h2,h3,h4];rfl
theorem enF_of{f:Fm}{s:Si}(h:jM f=0)(hs:z8 s=0):enF (ofF f s) 0=jN f.w f.c f.r (psOf s) 0:=by unfold enF;rw[if_pos (farmE_of h hs)];rfl
theorem enF_0{f:Fm}(h:jM f=0):enF f 0=jN f.w f.c f.r (psOf f.s) 0:=by unfold enF;rw[if_pos h]
theorem shortF_S{f:Fm}{n:Int}(h:shortF f n=true):shortS f.s n=true:=by
 unfold shortF at h;split at h
 ·assumption
 ·cases h
theorem shortS_mov{s:Si}{n:Int}(h:shortS s n=true)(i:Nat)(p:Pt):shortS (movS s i p) n=true:=by
 unfold shortS at h ⊢;have e1:(movS s i p).name=s.name:=rfl;rw[e1,mov_len];split at h
 ·cases h
 ·rename_i h1;split at h
  ·cases h
  ·rename_i h2;rw[if_neg h1,if_neg h2];rw[List.all_eq_true] at h ⊢;intro t ht;obtain⟨j,hj,rfl⟩:=List.getElem_of_mem ht;rw[mov_len] at hj;rw[movS_at s i j p hj];have:=h _ (List.getElem_mem hj);split
   ·exact this
   ·exact this
theorem place_of{s:Si}{i:Nat}{p:Pt}(hi:i<s.tb.length)(h:z8 (movS s i p)=0):ptE p=0:=by
 obtain⟨h1,_⟩:=Jq h;have hl:i<(movS s i p).tb.length:=by rw[mov_len];exact hi
 have:=(h1 _ (List.getElem_mem hl)).1;rw[movS_at s i i p hi,if_pos rfl] at this;exact(zAs p).2 this
theorem tmod_nat(a n:Nat):Int.tmod ((a:Nat):Int) ((n:Nat):Int)=((a % n:Nat):Int):=by
 rw[Int.tmod_eq_emod_of_nonneg (by omega)]
 exact(Int.natCast_emod a n).symm
abbrev eFs(f:Fm)(s:Si):DV:=.agg 4 [eSi s,eWk f.w,eCu f.c,eRo f.r]
theorem hFs(f:Fm)(s:Si)(hr:zm f.r):hasT EE 6 62 (eFs f s)=true:=hFm (ofF f s) hr
theorem c34s(f:Fm)(s:Si)(hr:zm f.r)(h1:s.tb.length<=100000)(h2:f.w.d.length<=100000)(h3':f.w.w.length<=100000)(h4':f.c.p.length<=100000):zA 34 [eFs f s]=some (.val (eFs f s)):=c34 (ofF f s) hr h1 h2 h3' h4'
theorem c30s[KnW](f:Fm)(s:Si)(hr:zm f.r):zA 30 [eFs f s]=some (.val (.tup [eI (enF (ofF f s) 0),eI (jM (ofF f s))])):=c30 (ofF f s) hr
theorem c95s[KnW](f:Fm)(s:Si)(hr:zm f.r)(hl:s.tb.length<=100000)(i:Int)(p:Pt):zA 95 [eFs f s,eI i,ePt p]=some (.val (.tup [eI (if moveE (ofF f s) i p=0 then raiseI (ofF f s) (movS s i.toNat p) else 0),eI (moveE (ofF f s) i p)])):=c95 (ofF f s) hr hl i p
theorem fin16[KnW](f:Fm)(hr:zm f.r)(hF:jM f=0)(l1:f.s.tb.length<=64)(l2:f.w.d.length<=33)(l3:f.w.w.length<=33)(l4:f.c.p.length<=52)(i:Nat)(hi:i<f.s.tb.length)(p:Pt)(hs:z8 (movS f.s i p)=0)(th:Int)(h0:0<raiseI f (movS f.s i p))(hth:th<=raiseI f (movS f.s i p)) :
  ∀k,k<=f.s.tb.length->L16_0a (enF f 0) th (raiseI f (movS f.s i p)) (if k<=i then 0 else 1) f.s.tb.length k f.s.name f.s.least (f.s.tb.map eTb) f.w.rule (f.w.d.map eI) (f.w.w.map eI) (f.c.p.map eI) f.c.cut (f.r.map eRow) (movS f.s i p).name (movS f.s i p).least ((movS f.s i p).tb.map eTb)=some (.val (.bool true)):=by
 apply down
 ·have hl2:(movS f.s i p).tb.length<=64:=by rw[mov_len];exact l1
  have e1:=c34s f (movS f.s i p) hr (by omega) (by omega) (by omega) (by omega)
  have e2:=c30s f (movS f.s i p) hr;rw[enF_of hF hs,farmE_of hF hs] at e2;have hok:=farm_ok hF hr;have b1:=YT hok;have b2:=YT (okFm_of hok hs);have hb:(ofF f (movS f.s i p)).w=f.w/\(ofF f (movS f.s i p)).c=f.c/\(ofF f (movS f.s i p)).r=f.r/\(ofF f (movS f.s i p)).s=movS f.s i p:=⟨rfl,rfl,rfl,rfl⟩;rw[hb.1,hb.2.1,hb.2.2.1,hb.2.2.2] at b2;rw[L16_0a_eq,if_neg (by omega)]
  simp only[Int.lt_irrefl,decide_false,za,e1,zH,hFs f _ hr,zB,zR,zS,zW,zb,ze,zX,zF,zQ,e2,jA,jI,zK,zM,h3,h46,Bool.and_self,beq_self_eq_true];rw[decide_eq_true (show raiseI f (movS f.s i p)>0 from h0),zB,decide_eq_true (show raiseI f (movS f.s i p)>=th from hth),zB,enF_0 hF]
  have he:raiseI f (movS f.s i p)=jN f.w f.c f.r (psOf (movS f.s i p)) 0 - jN f.w f.c f.r (psOf f.s) 0:=rfl;rw[wr _ (by omega),he,show jN f.w f.c f.r (psOf f.s) 0+(jN f.w f.c f.r (psOf (movS f.s i p)) 0 - jN f.w f.c f.r (psOf f.s) 0)=jN f.w f.c f.r (psOf (movS f.s i p)) 0 by omega]
  simp only[beq_self_eq_true]
 ·intro k hk ih;have e1:(k:Int)<f.s.tb.length:=by omega
  have e0:(0:Int)<=(k:Int):=by omega
  have hk2:k<(movS f.s i p).tb.length:=by rw[mov_len];exact hk
  rw[L16_0a_eq];simp only[List.length_map,mov_len,e1,e0,and_self,decide_true,zB,Int.toNat_natCast,zI _ f.s.tb k hk,zI _ (movS f.s i p).tb k hk2,movS_at f.s i k p hk,h143,zF,zX,zR,zS,zW,eqTb,m1t,Option.getD_some];rw[wr ((k:Int)+1) (by omega)]
  by_cases hik:i=k
  ·subst hik;have hne:¬(p=f.s.tb[i].at'):=λe=>by rw[e,movS_self _ _ hi,raise_self] at h0;omega
   have hx:((p.x == f.s.tb[i].at'.x) && (p.y == f.s.tb[i].at'.y))=false:=by
    cases hp:p with
    | mk a b =>
     cases hq:f.s.tb[i].at' with
     | mk c d =>
      rw[hp,hq] at hne;by_cases h1:a=c
      ·have h2:b≠d:=λh2=>hne (by rw[h1,h2])
       simp[h2]
      ·simp[h1]
   simp only[if_true,beq_self_eq_true,Bool.true_and,Bool.and_true,hx,Bool.not_false,zB];rw[if_pos (Nat.le_refl i),wr ((0:Int)+1) (by omega)]
   rw[if_neg (show ¬i+1<=i by omega)] at ih
   exact ih
  ·simp only[if_neg hik,beq_self_eq_true,Bool.and_self,Bool.not_true,za];have:(k<=i ↔ k+1<=i):=by omega
   simp only[this];exact ih
theorem found_p{f:Fm}{p:Pt}{x:Int×Si}(h:Found f [p] (some x)):∃i,i<f.s.tb.length/\x.2=movS f.s i p/\z8 (movS f.s i p)=0/\x.1=raiseI f (movS f.s i p)/\0<x.1:=by obtain⟨i,q,hi,hq,h1,h2,h3,h4⟩:=h;rw[List.mem_singleton] at hq;subst hq;rw[h1] at h2 h3;exact⟨i,hi,h1,h2,h3,h4⟩
set_option maxHeartbeats 4000000 in
theorem mid16[KnW](f:Fm)(hr:zm f.r)(hF:jM f=0)(hS:shortF f 4=true)(a:Nat)(ha:a<=255)(nm:ByteArray)(p:Pt)(h0:0<f.s.tb.length) :
  L16_1008a a (enF f 0) f.s.name f.s.least (f.s.tb.map eTb) f.w.rule (f.w.d.map eI) (f.w.w.map eI) (f.c.p.map eI) f.c.cut (f.r.map eRow) nm p.x p.y=some (.val (.bool true)):=by
 obtain⟨l1,l2,l3,l4⟩:=shortF_len hS;have hok:=farm_ok hF hr;have l1:f.s.tb.length<=64:=by have:=hok.l;rwa [zn] at this
 have hk:a % f.s.tb.length<f.s.tb.length:=Nat.mod_lt _ h0;have hw:IntKind.i64.wrap (a:Int)=(a:Int):=wr _ (by omega)
 have e34:=c34 f hr (by omega) (by omega) (by omega) (by omega)
 rw[L16_1008a_eq,hw];simp only[List.length_map,tmod_nat];rw[beq_n (show(f.s.tb.length:Int)≠0 by omega),Bool.not_false,zB]
 generalize hkk:a % f.s.tb.length=k at hk ⊢;have e98:=c98 f.s k p hk (by omega)
 rw[e98];simp only[zH,h24,zB,zR,zS,zW,zb,zX,zF,zQ,c69,h3];by_cases hM:z8 (movS f.s k p)=0
 ·rw[bne_z hM,za];have e34':=c34s f (movS f.s k p) hr (by rw[mov_len];omega) (by omega) (by omega) (by omega)
  have hmE:moveE f k p=0:=by
   have h1:zL [jM f,idxE f.s.tb.length k]=0:=by rw[hF,show idxE f.s.tb.length k=0 from if_neg (by omega)];rfl
   unfold moveE;rw[if_pos h1,Int.toNat_natCast];exact hM
  have hmE2:moveE (ofF f (movS f.s k p)) k (f.s.tb[k].at')=0:=by
   have h1:zL [jM (ofF f (movS f.s k p)),idxE (ofF f (movS f.s k p)).s.tb.length k]=0:=by rw[farmE_of hF hM,show idxE (ofF f (movS f.s k p)).s.tb.length k=0 from if_neg (by show ¬((k:Int)<0\/(k:Int)>=((movS f.s k p).tb.length:Nat));rw[mov_len];omega)];rfl
   unfold moveE;rw[if_pos h1,Int.toNat_natCast];show z8 (movS (movS f.s k p) k (f.s.tb[k].at'))=0;rw[movS_back _ _ hk];exact(JG hF hr).2
  have e95:=c95 f hr (by omega) k p
  rw[hmE,if_pos rfl,Int.toNat_natCast] at e95;have e95':=c95s f (movS f.s k p) hr (by rw[mov_len];omega) k (f.s.tb[k].at')
  rw[hmE2,if_pos rfl,Int.toNat_natCast,raise_back hk] at e95';have e100:zA 100 [eFm f,.sl 2 [ePt p]]=some (impF f [p]):=c100 f hr [p] (by simp) (by omega)
  have hI:impE f [p]=0:=by
   unfold impE placesE;rw[hF,if_neg (by simp)]
   show zL [0,zL [ptE p]]=0;rw[place_of hk hM];rfl
  have hT:impT f [p]=impRT (impAll f [p] (List.range f.s.tb.length) none):=by unfold impT;rw[if_pos hI]
  have hge:=(all_ge f p (List.range f.s.tb.length) none).2 k (by simpa using hk) hM
  have hfd:=found f [p];have b1:=YT hok;have b2:=YT (okFm_of hok hM);have hb:(ofF f (movS f.s k p)).w=f.w/\(ofF f (movS f.s k p)).c=f.c/\(ofF f (movS f.s k p)).r=f.r/\(ofF f (movS f.s k p)).s=movS f.s k p:=⟨rfl,rfl,rfl,rfl⟩;rw[hb.1,hb.2.1,hb.2.2.1,hb.2.2.2] at b2;have e1:(k:Int)<f.s.tb.length:=by omega
  have e0:(0:Int)<=(k:Int):=by omega
  have hag:isAg 9 1 (nth (f.s.tb.map eTb) k)=true:=by rw[zI eTb f.s.tb k hk];rfl
  rw[impF_eq,hT] at e100;simp only[e34,e34',zH,hFm f hr,hFs f _ hr,zB,zR,zS,zW,zb,ze,zX,zF,zQ,e95,e1,e0,and_self,decide_true,Int.toNat_natCast,hag,zI eTb f.s.tb k hk,h141,e95',e100,jA,jI,zK,zM,h58,h3,h46,Bool.and_self,bne_self_eq_false,za];rw[wr (raiseI f (movS f.s k p)+(0 - raiseI f (movS f.s k p))) (by omega),bne_z (by omega),za]
  revert hge hfd;generalize impAll f [p] (List.range f.s.tb.length) none=st;intro hge hfd;cases st with
  | none =>
   have hge:raiseI f (movS f.s k p)<=0:=hge;show some (CR.val (DV.bool (decide (raiseI f (movS f.s k p)<=0))))=_;rw[decide_eq_true hge]
  | some x =>
   obtain⟨i,hi,h1,h2,h3',h4'⟩:=found_p hfd;have hge:raiseI f (movS f.s k p)<=x.1:=hge;have hx:impRT (some x)=(movS f.s i p,x.1,0):=by
    show(if x.1=0 then (s0,(0:Int),(7:Int)) else (x.2,x.1,0))=_
    rw[if_neg (by omega),h1]
   have e104:=c104 (movS f.s i p) (by rw[mov_len];omega)
   have e62:=c62 (movS f.s i p) 4 (by omega)
   rw[shortS_mov (shortF_S hS)] at e62;rw[hx];simp only[bne_self_eq_false,za,e104,zH,h24,zB,zR,zS,zW,zb,zX,zF,zQ,e62,h4,zi,Bool.not_true,List.length_map,mov_len,c69,h3,h2];have hfin:=fin16 f hr hF l1 (by omega) (by omega) (by omega) i hi p h2 (raiseI f (movS f.s k p)) (by omega) (by omega) 0 (Nat.zero_le _)
   rw[if_pos (Nat.zero_le _)] at hfin;rw[h3'];exact hfin
 ·rw[bne_n hM,zB]
set_option maxHeartbeats 4000000 in
theorem law16[KnW][KnT](f:Fm)(hr:zm f.r)(t:Tb)(a:Nat)(ha:a<=255)(haw:zA 33 []=some (.val (.bool true))):zA 16 [eFm f,eTb t,.int .u8 a]=some (.val (.bool true)):=by
 rw[C16];simp only[haw,zH,zK,zM,hFm' f hr,h143,h5,h3,h4,Bool.and_self,zB,zi,Bool.not_true,za,zR,zS,zW,zb,ze,zX,zF,zQ,List.length_map];rw[c21 f hr 4 (by omega)]
 cases hS:shortF f 4 with
 | false=>simp only[zH,h4,zB,zi,Bool.not_false]
 | true =>
  obtain⟨l1,l2,l3,l4⟩:=shortF_len hS;simp only[zH,h4,zB,zi,Bool.not_true,za,c22 f hr,h3,zF];by_cases hF:jM f=0
  ·rw[bne_z hF,za];by_cases hn0:(f.s.tb.length:Int)=0
   ·rw[beq_z hn0,zB]
   ·rw[beq_n hn0,za];by_cases hn:((t.name.size:Nat):Int)>60
    ·exact ifO_decT hn _ _
    ·refine(ifO_decF hn _ _).trans ?_;have hok:=farm_ok hF hr;have hl:f.s.tb.length<=64:=by have:=hok.l;rwa [zn] at this
     have e34:=c34 f hr (by omega) (by omega) (by omega) (by omega)
     have e30:=c30 f hr;rw[hF] at e30;have hmid:=mid16 f hr hF hS a ha t.name t.at' (by omega)
     simp only[e34,zH,hFm f hr,zB,zR,zS,zW,zb,ze,zX,zF,zQ,e30,jA,jI,zK,zM,h3,h46,Bool.and_self,bne_self_eq_false,za,c96 f.s t (by omega),h24,c69]
     by_cases hW:z8 (qk f.s t)=0
     ·rw[beq_z hW,zB];have hg:gainE f t=0:=by unfold gainE;rw[if_pos hF];exact hW
      have e94:=c94 f hr (by omega) t
      rw[hg,if_pos rfl] at e94;have hwl:(qk f.s t).tb.length<=100000:=by simp[qk];omega
      have e34':=c34s f (qk f.s t) hr hwl (by omega) (by omega) (by omega)
      have e30':=c30s f (qk f.s t) hr;rw[enF_of hF hW,farmE_of hF hW] at e30';have b1:=YT hok;have b2:=YT (okFm_of hok hW);have hb:(ofF f (qk f.s t)).w=f.w/\(ofF f (qk f.s t)).c=f.c/\(ofF f (qk f.s t)).r=f.r/\(ofF f (qk f.s t)).s=qk f.s t:=⟨rfl,rfl,rfl,rfl⟩;rw[hb.1,hb.2.1,hb.2.2.1,hb.2.2.2] at b2;simp only[e34,e34',zH,hFm f hr,hFs f _ hr,zB,zR,zS,zW,zb,ze,zX,zF,zQ,e30',e94,jA,jI,zK,zM,h3,h46,Bool.and_self,bne_self_eq_false,za];rw[enF_0 hF,wr (jN f.w f.c f.r (psOf (qk f.s t)) 0 - jN f.w f.c f.r (psOf f.s) 0) (by omega)]
      rw[show(raiseI f (qk f.s t) != jN f.w f.c f.r (psOf (qk f.s t)) 0 - jN f.w f.c f.r (psOf f.s) 0)=false from bne_self_eq_false _,za]
      rw[enF_0 hF] at hmid;exact hmid
     ·rw[beq_n hW,za];exact hmid
  ·rw[bne_n hF,zB]
end Go.Am
namespace Go.Am
open Go.Proofs
open Go Go.RowKit
noncomputable def orc4(f:FuncId):Option (List DV->Option CR):=if f=267 then some (orT T267) else orc3 f
theorem orc4_ok(f:FuncId)(h:(orcF f).isNone=true):orc4 f=none:=by
 unfold orc4;split
 ·rename_i e;subst e;simp[orcF] at h
 ·exact orc3_ok f h
noncomputable abbrev oo4:OO:=⟨orc4,orc4_ok⟩
theorem env4:EnvOKo PP EE oo4.o:=by
 refine⟨zAC _ _ _,Jr,λf fn h=>E0_F _ _ _ f fn h,λf g h=>?_⟩
 have h:orc4 f=some g:=h;unfold orc4 at h;split at h
 ·rename_i e;subst e;injection h with h
  subst h;exact zAv at267
 ·exact env3.orc f g h
theorem o4{f:FuncId}(h:f≠267)(h':f≠50):oo4.o f=orc2 f:=(if_neg h:orc4 f=orc3 f).trans (o3 h')
theorem o450:oo4.o 50=some (orT T50):=(if_neg (by decide):orc4 50=orc3 50).trans o350
theorem o4267:oo4.o 267=some (orT T267):=(if_pos rfl:orc4 267=some (orT T267))
theorem knW4:@KnW oo4:=knW_of (o4 (f:=200) (by decide) (by decide))
theorem knO4:@KnO oo4:=knO_of (o4 (f:=68) (by decide) (by decide))
theorem knS4:@KnS oo4:=knS_of (o4 (f:=243) (by decide) (by decide)) (o4 (f:=161) (by decide) (by decide)) (o4 (f:=210) (by decide) (by decide)) (o4 (f:=208) (by decide) (by decide))
theorem knT4:@KnT oo4:=@KnT.mk oo4 λl hl=>YG (o:=oo4) (f:=267) o4267 ⟨l,hl,rfl,rfl⟩ (by
 rintro r' ⟨l',_,e,rfl⟩;injection e with e _
 rw[Y6 eTb_inj (qR e)])
theorem c50v4{p:Pn}{gs:List (List Int)}{n:Int}(h:@V50 oo2 p gs n):@zA oo4 50 [ePn p,eGs gs,eI n]=some (.val (.tup [eI (Yn p gs n).1,eI (Yn p gs n).2])):=by
 refine YG (o:=oo4) (f:=50) o450 (.inl ⟨p,gs,n,h,rfl,rfl⟩) ?_;rintro r' (⟨p',gs',n',_,e,rfl⟩ | ⟨hn,_⟩)
 ·injection e with e1 e;injection e with e2 e
  injection e with e3 _;rw[ePn_inj _ _ e1,eGs_inj e2,qX e3]
 ·exact(hn ⟨p,gs,n,h,rfl⟩).elim
theorem knB4:@KnB oo4:=@KnB.mk oo4 ((c50v4 v50S).trans (by rw[boundS]))
theorem awake4:@zA oo4 33 []=some (.val (.bool true)):=@awake oo4 knW4 knS4 knO4 knB4
end Go.Am
