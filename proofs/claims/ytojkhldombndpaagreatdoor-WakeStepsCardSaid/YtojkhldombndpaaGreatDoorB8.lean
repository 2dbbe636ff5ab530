/- The abstract machine, the contracts of the functions that are walked by hand, and the examples of the document. Part 8. -/
import Derived.Test.YtojkhldombndpaaGreatDoorB7
set_option linter.all false
namespace Go.Am
open Go.Proofs
open Go
variable[OO]
theorem tk1{α:Type}(l:List α)(h:0<l.length):l.take 1=[l[0]]:=by rw[List.take_succ_eq_append_getElem h];simp
theorem l151b(f:FuncId)(a c:List DV)(g:Int->Int)(l:List Int)(hl:l.length<=100000)(hg:∀x∈l,zA f (z1 EE f ((a++[eI x])++c))=some (.val (eI (g x)))) :
  ∀i,i<=l.length->L151_0b f a c ((l.take i).map λx=>eI (g x)) (l.map eI) l.length i=some (.val (.sl 1 ((l.map g).map eI))):=by
 apply down
 ·rw[L151_0b_eq];simp;exact(List.take_of_length_le (by simp)).trans (by simp)
 ·intro i hi ih;have e1:(i:Int)<l.length:=by omega
  have hx:=hg l[i] (List.getElem_mem hi);have hm:min i l.length=i:=by omega
  have e2:(2 * (i+1)+200) * 8<=281474976710656:=by omega
  rw[<-ih,L151_0b_eq];simp only[zG];simp only[List.append_assoc,List.cons_append,List.nil_append,eI,eTb,ePt] at hx;simp[e1,zI _ l i hi,hm,e2,wr ((i:Int)+1) (by omega),hx]
  congr 1;rw[List.take_succ_eq_append_getElem (by simpa using hi)]
  simp
theorem c151(f:FuncId)(a c:List DV)(g:Int->Int)(l:List Int)(hl:l.length<=100000)(hg:∀x∈l,zA f (z1 EE f ((a++[eI x])++c))=some (.val (eI (g x)))) :
  zA 151 [.sl 1 (l.map eI),.fn f a c]=some (.val (.sl 1 ((l.map g).map eI))):=by
 rw[C151];simp only[zK,zM,h25,h74,Bool.and_self,zB,zQ,Yk,QR,QQ,List.length_map];rw[L151_0a_eq];simp only[zG];by_cases h:l=[]
 ·simp[h]
 ·have h0:0<l.length:=List.length_pos_iff.2 h;have h1:=l151b f a c g l hl hg 1 (by omega)
  have hx:=hg l[0] (List.getElem_mem h0);rw[tk1 l h0] at h1;simp only[List.append_assoc,List.cons_append,List.nil_append,eI,eTb,ePt] at hx;simp[h0,zI _ l 0 h0,hx];simpa using h1
theorem l236b(f:FuncId)(a c:List DV)(g:List Int->Int)(l:List (List Int))(hl:l.length<=100000)(hg:∀x∈l,zA f (z1 EE f ((a++[.sl 1 (x.map eI)])++c))=some (.val (eI (g x)))) :
  ∀i,i<=l.length->L236_0b f a c ((l.take i).map λx=>eI (g x)) (l.map λr=>.sl 1 (r.map eI)) l.length i=some (.val (.sl 1 ((l.map g).map eI))):=by
 apply down
 ·rw[L236_0b_eq];simp;exact(List.take_of_length_le (by simp)).trans (by simp)
 ·intro i hi ih;have e1:(i:Int)<l.length:=by omega
  have hx:=hg l[i] (List.getElem_mem hi);have hm:min i l.length=i:=by omega
  have e2:(2 * (i+1)+200) * 8<=281474976710656:=by omega
  rw[<-ih,L236_0b_eq];simp only[zG];simp only[List.append_assoc,List.cons_append,List.nil_append,eI,eTb,ePt] at hx;simp[e1,zI _ l i hi,hm,e2,wr ((i:Int)+1) (by omega),hx]
  congr 1;rw[List.take_succ_eq_append_getElem (by simpa using hi)]
  simp
theorem c236(f:FuncId)(a c:List DV)(g:List Int->Int)(l:List (List Int))(hl:l.length<=100000)(hg:∀x∈l,zA f (z1 EE f ((a++[.sl 1 (x.map eI)])++c))=some (.val (eI (g x)))) :
  zA 236 [.sl 1 (l.map λr=>.sl 1 (r.map eI)),.fn f a c]=some (.val (.sl 1 ((l.map g).map eI))):=by
 rw[C236];simp only[zK,zM,h95,h73,Bool.and_self,zB,zQ,Yk,QR,QQ,List.length_map];rw[L236_0a_eq];simp only[zG];by_cases h:l=[]
 ·simp[h]
 ·have h0:0<l.length:=List.length_pos_iff.2 h;have h1:=l236b f a c g l hl hg 1 (by omega)
  have hx:=hg l[0] (List.getElem_mem h0);rw[tk1 l h0] at h1;simp only[List.append_assoc,List.cons_append,List.nil_append,eI,eTb,ePt] at hx;simp[h0,zI _ l 0 h0,hx];simpa using h1
theorem l232b(f:FuncId)(a c:List DV)(g:Tb->Pt)(l:List Tb)(hl:l.length<=100000)(hg:∀x∈l,zA f (z1 EE f ((a++[eTb x])++c))=some (.val (ePt (g x)))) :
  ∀i,i<=l.length->L232_0b f a c ((l.take i).map λx=>ePt (g x)) (l.map eTb) l.length i=some (.val (.sl 2 ((l.map g).map ePt))):=by
 apply down
 ·rw[L232_0b_eq];simp;exact(List.take_of_length_le (by simp)).trans (by simp)
 ·intro i hi ih;have e1:(i:Int)<l.length:=by omega
  have hx:=hg l[i] (List.getElem_mem hi);have hm:min i l.length=i:=by omega
  have e2:(2 * (i+1)+200) * 16<=281474976710656:=by omega
  rw[<-ih,L232_0b_eq];simp only[zG];simp only[List.append_assoc,List.cons_append,List.nil_append,eI,eTb,ePt] at hx;simp[e1,zI _ l i hi,hm,e2,wr ((i:Int)+1) (by omega),hx]
  congr 1;rw[List.take_succ_eq_append_getElem (by simpa using hi)]
  simp
theorem c232(f:FuncId)(a c:List DV)(g:Tb->Pt)(l:List Tb)(hl:l.length<=100000)(hg:∀x∈l,zA f (z1 EE f ((a++[eTb x])++c))=some (.val (ePt (g x)))) :
  zA 232 [.sl 3 (l.map eTb),.fn f a c]=some (.val (.sl 2 ((l.map g).map ePt))):=by
 rw[C232];simp only[zK,zM,h56,h349,Bool.and_self,zB,zQ,Yk,QR,QQ,List.length_map];rw[L232_0a_eq];simp only[zG];by_cases h:l=[]
 ·simp[h]
 ·have h0:0<l.length:=List.length_pos_iff.2 h;have h1:=l232b f a c g l hl hg 1 (by omega)
  have hx:=hg l[0] (List.getElem_mem h0);rw[tk1 l h0] at h1;simp only[List.append_assoc,List.cons_append,List.nil_append,eI,eTb,ePt] at hx;simp[h0,zI _ l 0 h0,hx];simpa using h1
theorem c233(t:Tb):zA 233 [eTb t]=some (.val (ePt t.at')):=by rw[C233];simp
theorem c146(s:Si)(hl:s.tb.length<=100000):zA 146 [eSi s]=some (.val (.sl 2 ((psOf s).map ePt))):=by
 have h:=c232 233 [] [] (·.at') s.tb hl λx _=>(show zA 233 (z1 EE 233 [eTb x])=zA 233 [eTb x] from congrArg (zA 233) (by kernel_rfl)).trans (c233 x)
 rw[C146];simp only[zK,zM,h58,Bool.and_self,zB,zR,zS,zW,zb,zQ,h,zH,h81];rfl
theorem l231(l:List Int)(hl:l.length<=100000)(hb:∀x∈l,0<=x/\x<=100000000):∀i,i<=l.length->∀n:Int,0<=n->n<=i * 100000000->L231_0a n (l.map eI) l.length i=some (.val (eI (n+sumI (l.drop i)))):=by
 apply down (P:=λi=>∀n:Int,0<=n->n<=i * 100000000->L231_0a n (l.map eI) l.length i=some (.val (eI (n+sumI (l.drop i)))))
 ·intro n _ _;rw[L231_0a_eq];simp[sumI]
 ·intro i hi ih n h0 h1;have e1:(i:Int)<l.length:=by omega
  have hx:=hb l[i] (List.getElem_mem hi);have ih':=ih (n+l[i]) (by omega) (by omega)
  rw[L231_0a_eq,zT l i hi];simp only[zG];simp[e1,zI _ l i hi,wr ((i:Int)+1) (by omega),wr (n+l[i]) (by omega),sumI]
  rw[show((i:Int)+1)=((i+1:Nat):Int) by omega,ih']
  simp;omega
theorem c231(l:List Int)(hl:l.length<=100000)(hb:∀x∈l,0<=x/\x<=100000000):zA 231 [.sl 1 (l.map eI)]=some (.val (eI (sumI l))):=by rw[C231];simpa using l231 l hl hb 0 (Nat.zero_le _) 0 (by omega) (by omega)
theorem l263(l:List Int)(hl:l.length<=100000):∀i,i<=l.length->∀n:Int,L263_0a (l.map eI) n i=some (.val (eI (maxL n (l.drop i)))):=by
 apply down (P:=λi=>∀n:Int,L263_0a (l.map eI) n i=some (.val (eI (maxL n (l.drop i)))))
 ·intro n;rw[L263_0a_eq];simp[maxL]
 ·intro i hi ih n;have e1:(i:Int)<l.length:=by omega
  have ih':=ih (if l[i]>n then l[i] else n)
  rw[L263_0a_eq,zT l i hi];simp only[zG];simp[e1,zI _ l i hi,wr ((i:Int)+1) (by omega),maxL]
  rw[show((i:Int)+1)=((i+1:Nat):Int) by omega]
  exact ih'
theorem c262(l:List Int)(hl:l.length<=10000):zA 262 [.sl 1 (l.map eI)]=some (.val (eI (maxL 0 l))):=by
 have h1:=l263 (0 :: l) (by simp;omega) 1 (by simp) 0
 have e2:(2 * (1+l.length)+200) * 8<=281474976710656:=by omega
 have h2:zA 263 [.sl 1 ((0 :: l).map eI)]=some (.val (eI (maxL 0 l))):=by rw[C263];simp only[zG];simp;exact⟨by omega,by simpa using h1⟩
 have tkm:List.take l.length (List.map eI l)=List.map eI l:=List.take_of_length_le (by simp)
 rw[C262];simp only[zG];simp[e2,tkm];simpa using congrArg (λo=>zC o (λr0=>ifO (hasT EE 6 3 r0) (some (.val (.int .i64 (getI r0)))) none) λ_ _=>none) h2
theorem l265(n:Int)(h0:0<=n)(hn:n<4294967296):∀(k:Nat) (lo hi:Int),0<=lo->lo<hi->hi<=65536->(hi - lo).toNat<=k->lo * lo<=n->n<hi * hi->L265_0a n lo hi=some (.val (eI (JE n)))
 | 0,lo,hi,_,h2,_,h4,_,_=>by omega
 | k+1,lo,hi,h1,h2,h3,h4,h5,h6=>by
  rw[L265_0a_eq];have e1:IntKind.i64.wrap (hi - lo)=hi - lo:=wr _ (by omega)
  have e2:IntKind.i64.wrap (lo+hi)=lo+hi:=wr _ (by omega)
  have e3:Int.tdiv (lo+hi) 2=(lo+hi) / 2:=Int.tdiv_eq_ediv_of_nonneg (by omega)
  have e4:IntKind.i64.wrap ((lo+hi) / 2)=(lo+hi) / 2:=wr _ (by omega)
  simp only[zG,e1,e2,e3,e4];by_cases hd:hi - lo>1
  ·rw[if_pos hd];have hm0:lo<(lo+hi) / 2:=by omega
   have hm1:(lo+hi) / 2<hi:=by omega
   generalize (lo+hi) / 2=m at hm0 hm1;have hsq:=jT (a:=m) (b:=65536) (by omega) (by omega)
   have hnn:=Int.mul_nonneg (a:=m) (b:=m) (by omega) (by omega)
   rw[wr (m * m) (by omega)]
   by_cases hc:m * m<=n
   ·rw[if_pos hc];exact l265 n h0 hn k m hi (by omega) hm1 h3 (by omega) hc h6
   ·rw[if_neg hc];exact l265 n h0 hn k lo m h1 (by omega) (by omega) (by omega) h5 (by omega)
  ·rw[if_neg hd];have:hi=lo+1:=by omega
   subst this;rw[IsRoot.unique ⟨h1,h5,h6⟩ (jy h0)]
theorem c265(n:Int)(h0:0<=n)(hn:n<4294967296):zA 265 [eI n]=some (.val (eI (JE n))):=by rw[C265];simp only[zK,zM,h3,Bool.and_self,zB,zF];exact l265 n h0 hn 65536 0 65536 (by omega) (by omega) (by omega) (by omega) (by simpa using h0) (by simpa using hn)
theorem c266(n:Int)(h0:0<=n)(hn:n<=256):zA 266 [eI n]=some (.val (eI (n * n))):=by have:=jT (a:=n) (b:=256) h0 hn;have:=Int.mul_nonneg h0 h0;rw[C266];simp only[zK,zM,h3,Bool.and_self,zB,zF,wr (n * n) (by omega)]
theorem c264(l:List Int)(hl:l.length<=64)(hb:∀x∈l,0<=x/\x<=256):zA 264 [.sl 1 (l.map eI)]=some (.val (eI (JE (sumI (sqI l))))):=by
 have h1:=c151 266 [] [] (λn=>n * n) l (by omega) λx hx=>(show zA 266 (z1 EE 266 [eI x])=zA 266 [eI x] from congrArg (zA 266) (by kernel_rfl)).trans (c266 x (hb x hx).1 (hb x hx).2)
 have hs:=sqI_bound hb;have hsum:=Y1 _ hs;have hlen:(sqI l).length=l.length:=by simp[sqI]
 have h2:=c231 (sqI l) (by omega) λx hx=>by have:=hs x hx;omega
 have h3':=c265 (sumI (sqI l)) hsum.1 (by rw[hlen] at hsum;have:(l.length:Int) * (256 * 256)<=64 * 65536:=Int.mul_le_mul (by omega) (by omega) (by omega) (by omega);omega)
 have e:(l.map λn=>n * n)=sqI l:=rfl
 rw[e] at h1;rw[C264];simp only[zK,zM,h25,Bool.and_self,zB,zQ,h1,zH,h2,h3,zF,h3']
theorem zAV:¬rS=rG:=by decide
theorem zAW:¬rM=rS:=by decide
theorem rM_ne_rG:¬rM=rG:=by decide
theorem Qp{α:Type}{l:List α}{i j:Nat}(h:i=j)(hi:i<l.length)(hj:j<l.length):l[i]=l[j]:=by subst h;rfl
theorem c237(rule:ByteArray)(hk:jD rule=true)(f:FuncId)(hf:f=if rule=rG then 262 else if rule=rS then 264 else 231)(l:List Int)(hl:l.length<=64)(hb:∀x∈l,0<=x/\x<=256) :
  zA 237 [.sl 1 (l.map eI),.dp (.fn f [] [])]=some (.val (eI (capI (YI rule l)))):=by
 have key:zA f (z1 EE f [.sl 1 (l.map eI)])=some (.val (eI (YI rule l))):=by
  unfold YI;by_cases h1:rule=rG
  ·rw[if_pos h1] at hf;subst hf;rw[if_pos h1];exact(show zA 262 (z1 EE 262 [.sl 1 (l.map eI)])=zA 262 [.sl 1 (l.map eI)] from congrArg (zA 262) (by kernel_rfl)).trans (c262 l (by omega))
  ·rw[if_neg h1] at hf;by_cases h2:rule=rS
   ·rw[if_pos h2] at hf;subst hf;rw[if_neg h1,if_pos h2];exact(show zA 264 (z1 EE 264 [.sl 1 (l.map eI)])=zA 264 [.sl 1 (l.map eI)] from congrArg (zA 264) (by kernel_rfl)).trans (c264 l hl hb)
   ·rw[if_neg h2] at hf;subst hf;rw[if_neg h1,if_neg h2];exact(show zA 231 (z1 EE 231 [.sl 1 (l.map eI)])=zA 231 [.sl 1 (l.map eI)] from congrArg (zA 231) (by kernel_rfl)).trans (c231 l (by omega) λx hx=>by have:=hb x hx;omega)
 rw[C237];simp only[zK,zM,h25,Bool.and_self,zB,zQ,qa,Yk,QR,QQ,List.nil_append,List.append_nil,h73,key,zH,h3,zF];simp only[isDp,List.all_cons,List.all_nil,Bool.and_self,zB];rfl
theorem find_rule(rule:ByteArray)(hk:jD rule=true) :
  jh (.str rule) [.str rG,.str rS,.str rM] [.agg 12 [.fn 262 [] []],.agg 12 [.fn 264 [] []],.agg 12 [.fn 231 [] []]]=some (some (.agg 12 [.fn (if rule=rG then 262 else if rule=rS then 264 else 231) [] []])):=by
 simp only[jh,j6,bytes_beq,zN];by_cases h1:rule=rG
 ·simp[h1]
 ·by_cases h2:rule=rS
  ·simp[h2,zAV]
  ·have h3:rule=rM:=by simpa[jD,memB,h1,h2] using hk
   simp[h3,rM_ne_rG,zAW]
theorem c235(v d:Int)(hv:0<=v/\v<=51)(hd:0<=d/\d<=256):zA 235 [eI d,.dp (eI v)]=some (.val (eI (v * (256 - d)))):=by
 have h1:=Int.mul_nonneg hv.1 (show 0<=256 - d by omega)
 have h2:v * (256 - d)<=51 * 256:=Int.mul_le_mul hv.2 (by omega) (by omega) (by omega)
 rw[C235];simp only[zK,zM,h3,Bool.and_self,zB,qa,zF,wr (256 - d) (by omega),wr (v * (256 - d)) (by omega)]
 simp[isDp]
theorem c152(l:List Int)(v:Int)(hl:l.length<=100000)(hv:0<=v/\v<=51)(hd:∀d∈l,0<=d/\d<=256):zA 152 [.sl 1 (l.map eI),eI v]=some (.val (.sl 1 ((zr l v).map eI))):=by
 have h:=c151 235 [] [.dp (eI v)] (λd=>v * (256 - d)) l hl λx hx=>(show zA 235 (z1 EE 235 [eI x,.dp (eI v)])=zA 235 [eI x,.dp (eI v)] from congrArg (zA 235) (by kernel_rfl)).trans (c235 v x hv (hd x hx))
 rw[C152];simp only[zK,zM,h25,h3,Bool.and_self,zB,zQ,zF,h,zH];rfl
theorem valP_prog(c:Cu)(hc:okCu c)(v:Int)(h0:0<=v)(h1:v<=13056):zA 150 [eCu c,eI v]=some (.val (eI (valP c v))):=by
 obtain⟨hl,hl',hp,_,_⟩:=hc;have e3:Int.tdiv v 256=v / 256:=Int.tdiv_eq_ediv_of_nonneg h0;have e4:Int.tmod v 256=v % 256:=Int.tmod_eq_emod_of_nonneg h0;have g:=λi=>YS (b:=100000) (by decide) hp i
 rw[C150];simp only[zK,zM,h60,h3,Bool.and_self,zB,zR,zS,zW,zQ,zF,List.length_map,e3,e4,zG];rw[wr (v / 256) (by omega),wr ((c.p.length:Int) - 1) (by omega),wr (v / 256+1) (by omega)]
 unfold valP lastP;by_cases hk:v / 256>=(c.p.length:Int) - 1
 ·have hi:((c.p.length:Int) - 1).toNat<c.p.length:=by omega
  have hn:=zI eI c.p ((c.p.length:Int) - 1).toNat hi;have hg:=g (c.p.length - 1);have hgd:c.p.getD (c.p.length - 1) 0=c.p[((c.p.length:Int) - 1).toNat]:=by
   rw[List.getD_eq_getElem?_getD,List.getElem?_eq_getElem (by omega)]
   exact Qp (by omega) _ _
  rw[hgd] at hg ⊢;rw[if_pos hk,if_pos hk,if_pos (by omega),hn]
  simp only[h3,zB,zF];rw[wr _ (by omega)]
 ·obtain⟨k,hk'⟩:∃k:Nat,v / 256=k:=⟨(v / 256).toNat,by omega⟩
  have hf0:=Int.emod_nonneg v (show(256:Int)≠0 by decide)
  have hf1:=Int.emod_lt_of_pos v (show(0:Int)<256 by decide)
  rw[hk'] at hk ⊢;have hi:k<c.p.length:=by omega
  have hi1:k+1<c.p.length:=by omega
  have hn:=zI eI c.p k hi;have hn1:=zI eI c.p (k+1) hi1;have hg:=g k;have hg1:=g (k+1);have hgd:c.p.getD k 0=c.p[k]:=by rw[List.getD_eq_getElem?_getD,List.getElem?_eq_getElem hi];rfl
  have hgd1:c.p.getD (k+1) 0=c.p[k+1]:=by rw[List.getD_eq_getElem?_getD,List.getElem?_eq_getElem hi1];rfl
  rw[hgd] at hg;rw[hgd1] at hg1;have hb:=qs (f:=v % 256) hg hg1 ⟨hf0,by omega⟩
  have hb1:-25600000<=(c.p[k+1] - c.p[k]) * (v % 256)/\(c.p[k+1] - c.p[k]) * (v % 256)<=25600000:=by omega
  have et:((k:Int)+1).toNat=k+1:=by omega
  rw[if_neg hk,if_neg hk];have c1:(0:Int)<=(k:Int)/\(k:Int)<(c.p.length:Int):=by omega
  have c2:(0:Int)<=(k:Int)+1/\(k:Int)+1<(c.p.length:Int):=by omega
  simp only[c1,c2,and_self,if_true,Int.toNat_natCast,et,hn,hn1,h3,zB,zF,hgd,hgd1];rw[wr (256 * c.p[k]) (by omega),wr (c.p[k+1] - c.p[k]) (by omega),wr ((c.p[k+1] - c.p[k]) * (v % 256)) (by omega),wr _ (by omega)]
theorem c151v(c:Cu)(hc:okCu c)(l:List Int)(hl:l.length<=100000)(hb:∀x∈l,0<=x/\x<=13056):zA 151 [.sl 1 (l.map eI),.fn 150 [eCu c] []]=some (.val (.sl 1 ((l.map (valP c)).map eI))) :=
 c151 150 [eCu c] [] (valP c) l hl λx hx=>(show zA 150 (z1 EE 150 [eCu c,eI x])=zA 150 [eCu c,eI x] from congrArg (zA 150) (by kernel_rfl)).trans (valP_prog c hc x (hb x hx).1 (hb x hx).2)
end Go.Am
namespace Go.Am
open Go.Proofs
open Go
variable[OO]
def S190_0a(v0:Nat)(v1 v2 v3:List DV)(v4:Int):St :=
 stOf 22 [(1,(.d (.fn v0 v1 v2))),(5,(.d .nl)),(8,(.d (.sl 2 v3))),(9,(.d (eI v4))),(10,(.d (eI 0)))] []
noncomputable def L190_0a(v0:Nat)(v1 v2 v3:List DV)(v4:Int):Option CR:=goQ 190 0 (S190_0a v0 v1 v2 v3 v4)
def S190_0b(v0:Nat)(v1 v2 v3 v4:List DV)(v5 v6:Int):St :=
 stOf 22 [(1,(.d (.fn v0 v1 v2))),(5,(.own 19 0 (List.length v3) 1)),(8,(.d (.sl 2 v4))),(9,(.d (eI v5))),(10,(.d (eI v6)))] [(19,(.mk false (.dc 1 v3)))]
noncomputable def L190_0b(v0:Nat)(v1 v2 v3 v4:List DV)(v5 v6:Int):Option CR:=goQ 190 0 (S190_0b v0 v1 v2 v3 v4 v5 v6)
theorem L190_0a_eq(v0:Nat)(v1 v2 v3:List DV)(v4:Int):L190_0a v0 v1 v2 v3 v4 =
 ifO (decide ((0:Int)<v4))
 (ifO (decide (((0:Int)<=(0:Int))/\((0:Int)<(((List.length v3):Nat):Int))))
 (ifO (hasT EE 6 302 (nth v3 0))
 (zC (zA v0 (z1 EE v0 ((v1++[(.agg 1 [(eI (getI (nth (flds (nth v3 0)) 0))),(eI (getI (nth (flds (nth v3 0)) 1)))])])++v2)))
 (λr0=>ifO (hasT EE 6 3 r0)
 ((L190_0b v0 v1 v2 [(eI (getI r0))] v3 v4 (1:Int)))
 (none))
 (λ_ _=>none))
 (none))
 (none))
 (some (.val (.sl 1 []))) :=
 (zU 190 0 _).trans (by kernel_rfl)
theorem L190_0b_eq(v0:Nat)(v1 v2 v3 v4:List DV)(v5 v6:Int):L190_0b v0 v1 v2 v3 v4 v5 v6 =
 ifO (decide (v6<v5))
 (ifO (decide (((0:Int)<=v6)/\(v6<(((List.length v4):Nat):Int))))
 (ifO (hasT EE 6 302 (nth v4 (Int.toNat v6)))
 (zC (zA v0 (z1 EE v0 ((v1++[(.agg 1 [(eI (getI (nth (flds (nth v4 (Int.toNat v6))) 0))),(eI (getI (nth (flds (nth v4 (Int.toNat v6))) 1)))])])++v2)))
 (λr3=>ifO (hasT EE 6 3 r3)
 (ifO (decide ((List.length v3)=(List.length v3)))
 (ifO (decide ((((2 * ((List.length v3)+1))+200) * 8)<=281474976710656))
 ((L190_0b v0 v1 v2 (v3++[(eI (getI r3))]) v4 v5 (IntKind.wrap .i64 (v6+(1:Int)))))
 (none))
 (none))
 (none))
 (λ_ _=>none))
 (none))
 (none))
 (ifO (decide ((0+(List.length v3))<=(List.length v3)))
 (some (.val (.sl 1 (List.take (List.length v3) (List.drop 0 v3)))))
 (none)) :=
 (zU 190 0 _).trans (by kernel_rfl)
theorem C190(x0 x1:DV):zA 190 [x0,x1] =
 ifO (zP (hasT EE 6) [300,305] [x0,x1])
 ((L190_0a (fnId x1) (fnA x1) (fnC x1) (elems x0) (((List.length (elems x0)):Nat):Int)))
 (none) :=
 (zE (f:=190) (by kernel_rfl) (by kernel_rfl) (by kernel_rfl) [x0,x1]).trans (by kernel_rfl)
theorem C191(x0:DV):zA 191 [x0] =
 ifO (zP (hasT EE 6) [302] [x0])
 (some (.val (eI (getI (nth (flds x0) 1)))))
 (none) :=
 (zE (f:=191) (by kernel_rfl) (by kernel_rfl) (by kernel_rfl) [x0]).trans (by kernel_rfl)
end Go.Am
namespace Go.Am
open Go.Proofs
open Go
variable[OO]
theorem a68_run(g:Nat->St->Option CR)(s sec:DV):run (zA) g (a68 s sec) =
 ifO (zP (hasT EE 6) [58,3] [s,sec])
 (zC (zA 158 [(.agg 0 [(.str (getS (nth (flds s) 0))),(.int .i64 (getI (nth (flds s) 1))),(.sl 3 (elems (nth (flds s) 2)))])])
 (λr0=>ifO (hasT EE 6 46 r0)
 (ifO (bne (getI r0) 0)
 (some (.val (.tup [(.sl 1 []),(.int .i64 (getI r0))])))
 (zC (zA 147 [(.int .i64 (getI sec))])
 (λr1=>ifO ((DV.isTup r1) && (zP (hasT EE 6) [251,46] (tups r1)))
 (ifO (bne (getI (nth (tups r1) 1)) (0:Int))
 (some (.val (.tup [(.sl 1 []),(.int .i64 (getI (nth (tups r1) 1)))])))
 ((g 0 (stOf 47 [(7,(.ptr 7 3 0 [])),(9,(.d .nl)),(26,(.d (.sl 3 (elems (nth (flds s) 2))))),(27,(.d (.int .i64 (((List.length (elems (nth (flds s) 2))):Nat):Int)))),(28,(.d (.int .i64 0)))] [(7,(.mk false (.dc 3 [(.agg 9 [(.int .i64 (getI (nth (flds (nth (tups r1) 0)) 0))),(.agg 1 [(.int .i64 (getI (nth (flds (nth (flds (nth (tups r1) 0)) 1)) 0))),(.int .i64 (getI (nth (flds (nth (flds (nth (tups r1) 0)) 1)) 1)))])])])))]))))
 (none))
 (λ_ _=>none)))
 (none))
 (λ_ _=>none))
 (none):=by kernel_rfl
theorem l68_run(g:Nat->St->Option CR)(sec x y:Int)(tb l:List DV)(v27 v28:Int):run (zA) g (l68 sec x y tb l v27 v28) =
 ifO (decide (v28<v27))
 (ifO (decide (((0:Int)<=v28)/\(v28<(((List.length tb):Nat):Int))))
 (ifO (hasT EE 6 176 (nth tb (Int.toNat v28)))
 (zC (zA 187 [(.agg 9 [(.int .i64 sec),(.agg 1 [(.int .i64 x),(.int .i64 y)])]),(.agg 1 [(.int .i64 (getI (nth (flds (nth (flds (nth tb (Int.toNat v28))) 1)) 0))),(.int .i64 (getI (nth (flds (nth (flds (nth tb (Int.toNat v28))) 1)) 1)))])])
 (λr0=>ifO (hasT EE 6 3 r0)
 (ifO (decide ((List.length l)=(List.length l)))
 (ifO (decide ((((2 * ((List.length l)+1))+200) * 16)<=281474976710656))
 ((g 0 (stOf 47 [(7,(.ptr 7 3 0 [])),(9,(.own 41 0 (List.length (l++[(.agg 1 [(.int .i64 (getI r0)),(.int .i64 v28)])])) 2)),(26,(.d (.sl 3 tb))),(27,(.d (.int .i64 v27))),(28,(.d (.int .i64 (IntKind.wrap .i64 (v28+(1:Int))))))] [(7,(.mk false (.dc 3 [(.agg 9 [(.int .i64 sec),(.agg 1 [(.int .i64 x),(.int .i64 y)])])]))),(41,(.mk false (.dc 2 (l++[(.agg 1 [(.int .i64 (getI r0)),(.int .i64 v28)])]))))])))
 (none))
 (none))
 (none))
 (λ_ _=>none))
 (none))
 (none))
 ((g 900 (stOf 47 [(7,(.ptr 7 3 0 [])),(9,(.own 41 0 (List.length l) 2)),(26,(.d (.sl 3 tb))),(27,(.d (.int .i64 v27))),(28,(.d (.int .i64 v28))),(29,(.d (.bool false)))] [(7,(.mk false (.dc 3 [(.agg 9 [(.int .i64 sec),(.agg 1 [(.int .i64 x),(.int .i64 y)])])]))),(41,(.mk false (.dc 2 l)))]))):=by kernel_rfl
theorem z68_run(g:Nat->St->Option CR)(sec x y:Int)(tb:List DV)(v27 v28:Int):run (zA) g (z68 sec x y tb v27 v28) =
 ifO (decide (v28<v27))
 (ifO (decide (((0:Int)<=v28)/\(v28<(((List.length tb):Nat):Int))))
 (ifO (hasT EE 6 176 (nth tb (Int.toNat v28)))
 (zC (zA 187 [(.agg 9 [(.int .i64 sec),(.agg 1 [(.int .i64 x),(.int .i64 y)])]),(.agg 1 [(.int .i64 (getI (nth (flds (nth (flds (nth tb (Int.toNat v28))) 1)) 0))),(.int .i64 (getI (nth (flds (nth (flds (nth tb (Int.toNat v28))) 1)) 1)))])])
 (λr0=>ifO (hasT EE 6 3 r0)
 ((g 0 (stOf 47 [(7,(.ptr 7 3 0 [])),(9,(.own 41 0 (List.length [(DV.agg 1 [(.int .i64 (getI r0)),(.int .i64 v28)])]) 2)),(26,(.d (.sl 3 tb))),(27,(.d (.int .i64 v27))),(28,(.d (.int .i64 (IntKind.wrap .i64 (v28+(1:Int))))))] [(7,(.mk false (.dc 3 [(.agg 9 [(.int .i64 sec),(.agg 1 [(.int .i64 x),(.int .i64 y)])])]))),(41,(.mk false (.dc 2 [(.agg 1 [(.int .i64 (getI r0)),(.int .i64 v28)])])))])))
 (none))
 (λ_ _=>none))
 (none))
 (none))
 ((g 900 (stOf 47 [(7,(.ptr 7 3 0 [])),(9,(.d .nl)),(26,(.d (.sl 3 tb))),(27,(.d (.int .i64 v27))),(28,(.d (.int .i64 v28))),(29,(.d (.bool false)))] [(7,(.mk false (.dc 3 [(.agg 9 [(.int .i64 sec),(.agg 1 [(.int .i64 x),(.int .i64 y)])])])))]))):=by kernel_rfl
theorem t68_run(g:Nat->St->Option CR)(l:List DV):run (zA) g (t68 l) =
 ifO (decide ((0+(List.length l))<=(List.length l)))
 (zC (zA 190 [(.sl 2 (List.take (List.length l) (List.drop 0 l))),(.fn 191 [] [])])
 (λr0=>ifO (hasT EE 6 25 r0)
 (some (.val (.tup [(.sl 1 (elems r0)),(.int .i64 0)])))
 (none))
 (λ_ _=>none))
 (none):=by kernel_rfl
theorem u68_run(g:Nat->St->Option CR):run (zA) g (u68) =
 zC (zA 190 [(.sl 2 []),(.fn 191 [] [])])
 (λr0=>ifO (hasT EE 6 25 r0)
 (some (.val (.tup [(.sl 1 (elems r0)),(.int .i64 0)])))
 (none))
 (λ_ _=>none):=by kernel_rfl
theorem c191(p:Pt):zA 191 [ePt p]=some (.val (eI p.y)):=by rw[C191];simp
theorem l190b(l:List Pt)(hl:l.length<=100000) :
  ∀i,i<=l.length->L190_0b 191 [] [] ((l.take i).map λx=>eI x.y) (l.map ePt) l.length i=some (.val (.sl 1 ((l.map (·.y)).map eI))):=by
 apply down
 ·rw[L190_0b_eq];simp;exact(List.take_of_length_le (by simp)).trans (by simp)
 ·intro i hi ih;have e1:(i:Int)<l.length:=by omega
  have hx:=c191 l[i];have hm:min i l.length=i:=by omega
  have e2:(2 * (i+1)+200) * 8<=281474976710656:=by omega
  have hcn:∀x:DV,z1 EE 191 [x]=[cnE EE 302 x]:=λx=>by kernel_rfl
  have hcn2:∀p:Pt,cnE EE 302 (ePt p)=ePt p:=λp=>by kernel_rfl
  rw[<-ih,L190_0b_eq];simp only[zG];have hy:∀p:Pt,zA 191 (z1 EE 191 (([]++[ePt p])++[]))=some (.val (eI p.y)):=λp=>by rw[List.nil_append,List.append_nil,hcn,hcn2];exact c191 p
  simp only[ePt,eI] at hy;simp[e1,zI _ l i hi,hm,e2,wr ((i:Int)+1) (by omega)]
  have:=hy l[i];simp only[List.nil_append,List.append_nil] at this;rw[this];simp;congr 1;rw[List.take_succ,List.getElem?_map,List.getElem?_eq_getElem hi];rfl
theorem c190(l:List Pt)(hl:l.length<=100000):zA 190 [.sl 2 (l.map ePt),.fn 191 [] []]=some (.val (.sl 1 ((l.map (·.y)).map eI))):=by
 rw[C190];simp only[zK,zM,h300,h305,Bool.and_self,zB,zQ,Yk,QR,QQ,List.length_map];rw[L190_0a_eq];simp only[zG];by_cases h:l=[]
 ·simp[h]
 ·have h0:0<l.length:=List.length_pos_iff.2 h;have h1:=l190b l hl 1 (by omega)
  have hcn:∀p:Pt,zA 191 (z1 EE 191 [ePt p])=some (.val (eI p.y)):=λp=>(congrArg (zA 191) (show z1 EE 191 [ePt p]=[ePt p] by kernel_rfl)).trans (c191 p)
  have hx:=hcn l[0];rw[tk1 l h0] at h1;simp only[ePt,eI] at hx;simp[h0,zI _ l 0 h0,hx];simpa using h1
end Go.Am
namespace Go.Am
open Go.Proofs
open Go Go.RowKit Go.Sort Go.Proofs
def JK(p:Pt):List Value:=[.int .i64 p.x,.int .i64 p.y]
theorem flat2(f:Nat->Pt):∀n,(List.range (n * 2)).map (λt=>(JK (f (t / 2)))[t % 2]!)=((List.range n).map λi=>JK (f i)).flatten
 | 0=>rfl
 | n+1=>by
  rw[show(n+1) * 2=n * 2+1+1 by omega,List.range_succ,List.range_succ,List.range_succ,List.map_append,List.map_append,flat2 f n,List.map_append,List.flatten_append]
  have e1:n * 2 / 2=n:=by omega
  have e2:n * 2 % 2=0:=by omega
  have e3:(n * 2+1) / 2=n:=by omega
  have e4:(n * 2+1) % 2=1:=by omega
  simp[e1,e2,e3,e4,JK]
theorem Qq(l:List Pt):(flatK JK 2 l.toArray).toList=(l.map JK).flatten:=by
 have h:(flatK JK 2 l.toArray).toList=(List.range (l.length * 2)).map (λt=>(JK (l.getD (t / 2) default))[t % 2]!):=by
  unfold flatK;simp only[Array.toList_map,Array.toList_range,List.size_toArray];refine List.map_congr_left λt ht=>?_
  have:t / 2<l.length:=by have:=List.mem_range.1 ht;omega
  simp[this]
 rw[h,flat2 (λi=>l.getD i default)]
 congr 1;refine List.ext_getElem (by simp) λi h1 h2=>?_
 have:i<l.length:=by simpa using h2
 simp[this]
section
variable{w:World}{blk n:Nat}{os:Array Obj}{d:Array Pt}
theorem sortK_other{j:Nat}(hj:j<w.heap.size)(hne:j≠blk):(sortWorldK JK 2 w blk 0 n d os).heap[j]? = w.heap[j]?:=by
 unfold sortWorldK putRowK putRow mapBlock Sort.ahead;rw[heap_grow_old _ _ (by simpa using hj)]
 simp only[Array.getElem?_modify];rw[if_neg (λe=>hne e.symm)]
theorem sortK_blk{cur:Array Value}{t:TypeId}{fr:Nat×Nat}(h:w.heap[blk]? = some (.cells cur t fr)):(sortWorldK JK 2 w blk 0 n d os).heap[blk]? = some (.cells (putCells id 0 (flatK JK 2 d) cur) t fr):=by
 have hj:blk<w.heap.size:=(Array.getElem?_eq_some_iff.1 h).1;unfold sortWorldK putRowK putRow mapBlock Sort.ahead;rw[heap_grow_old _ _ (by simpa using hj)]
 simp only[Array.getElem?_modify,if_true,h];rfl
theorem sortK_size:w.heap.size<=(sortWorldK JK 2 w blk 0 n d os).heap.size:=by unfold sortWorldK putRowK putRow mapBlock Sort.ahead grow;simp
theorem putCells_prefix{F cur:Array Value}(h:F.size<=cur.size):F.toList <+: (putCells id 0 F cur).toList:=by
 rw[List.prefix_iff_eq_take];refine List.ext_getElem (by simp[putCells,h]) λi h1 h2=>?_
 have hi:i<F.size:=by simpa using h1
 simp[putCells,hi]
theorem sortK_but{cur:Array Value}{t:TypeId}(h:w.heap[blk]? = some (.cells cur t (0,0))):But blk w (sortWorldK JK 2 w blk 0 n d os) :=
 ⟨rfl,rfl,rfl,sortK_size,λk hk hne=>sortK_other hk hne,λm ⟨cs,t',h1,h2⟩=>by
  rw[h] at h1;injection h1 with h1
  injection h1 with h3 h4 h5;subst h3
  exact⟨_,t,sortK_blk h,by simpa[putCells] using h2⟩⟩
end
section
variable{L:Nat->List Nat}{S:Nat->Prop}{φ:Nat->Option Nat}{w:World}{cb:Nat}
theorem RB.pts{l:List Pt}(h:RB L S φ w (.dc 2 (l.map ePt)) cb):∃(cs:Array Value) (t:TypeId),w.heap[cb]? = some (.cells cs t (0,0))/\(l.map JK).flatten <+: cs.toList:=by
 obtain⟨cs,t,css,h1,h2,h3,h4,h5⟩:=h;refine⟨cs,t,h1,?_⟩;have:css=l.map JK:=by
  refine List.ext_getElem (by simpa using h2) λi a b=>?_
  have h:=h3 i (by simpa using b) a
  rw[List.getElem_map] at h ⊢;generalize css[i]=c at h;have b':i<l.length:=by simpa using b
  generalize l[i]'b'=p at h ⊢;unfold ePt at h;cases h with
  | agg _ _ css hl hh hz =>
   match css,hl with
   | [a,b],_ =>
    have ha:=hh 0 (by simp) (by simp)
    have hb:=hh 1 (by simp) (by simp)
    simp only[List.getElem_cons_zero,List.getElem_cons_succ] at ha hb;rw[RD.int1 ha,RD.int1 hb];rfl
 rw[<-this];exact h5
theorem RB.of_pts(hL:L 1=[1,1]){l:List Pt}{cs:Array Value}{t:TypeId}(h:w.heap[cb]? = some (.cells cs t (0,0)))(hp:(l.map JK).flatten <+: cs.toList):RB L S φ w (.dc 2 (l.map ePt)) cb:=by
 refine⟨cs,t,l.map JK,h,by simp,λi a b=>?_,λc hc=>?_,hp⟩
 ·simp only[List.getElem_map];refine RD.agg 1 [_,_] [[_],[_]] rfl (λi a b=>?_) (by rw[hL];rfl)
  match i,a with
  | 0,_=>exact .int _ _
  | 1,_=>exact .int _ _
 ·obtain⟨p,_,rfl⟩:=List.mem_map.1 hc;rfl
theorem holds_pts{l:List Pt}{cs:Array Value}{t:TypeId}(h:w.heap[cb]? = some (.cells cs t (0,0)))(hp:(l.map JK).flatten <+: cs.toList):HoldsK JK 2 w cb 0 l.toArray:=by
 intro j hj;have hj':j<(flatK JK 2 l.toArray).toList.length:=by simpa using hj
 rw[Qq] at hj';obtain⟨rest,hr⟩:=hp;have e:cs[j]? = some ((flatK JK 2 l.toArray)[j]!):=by
  have e1:cs.toList[j]? = (flatK JK 2 l.toArray).toList[j]?:=by rw[<-hr,List.getElem?_append_left hj',Qq]
  rw[Array.getElem?_toList,Array.getElem?_toList] at e1;rw[e1,getElem!_pos _ j hj];simp[hj]
 rw[Nat.zero_add];refine⟨?_,?_⟩
 ·unfold World.cell?;simp only[h,id];exact e
 ·unfold World.frozen?;simp[h]
end
end Go.Am
namespace Go.Am
open Go.Proofs
open Go Go.RowKit Go.Sort
attribute [local go_sem] Oper.semAt_some
theorem sort1_other{w:World}{blk n:Nat}{os:Array Obj}{l:List Int}{j:Nat}(hj:j<w.heap.size)(hne:j≠blk):(grow (putRow (Value.int .i64) (Sort.ahead w n) blk 0 l.toArray) os).heap[j]? = w.heap[j]?:=by
 unfold putRow mapBlock Sort.ahead;rw[heap_grow_old _ _ (by simpa using hj)]
 simp only[Array.getElem?_modify];rw[if_neg (λe=>hne e.symm)]
theorem sort1_blk{w:World}{blk n:Nat}{os:Array Obj}{l:List Int}{cur:Array Value}{t:TypeId}{fr:Nat×Nat}(h:w.heap[blk]? = some (.cells cur t fr)):(grow (putRow (Value.int .i64) (Sort.ahead w n) blk 0 l.toArray) os).heap[blk]? = some (.cells (putCells (Value.int .i64) 0 l.toArray cur) t fr):=by
 have hj:blk<w.heap.size:=(Array.getElem?_eq_some_iff.1 h).1;unfold putRow mapBlock Sort.ahead;rw[heap_grow_old _ _ (by simpa using hj)]
 simp only[Array.getElem?_modify,if_true,h];rfl
theorem sort1_size{w:World}{blk n:Nat}{os:Array Obj}{l:List Int}:w.heap.size<=(grow (putRow (Value.int .i64) (Sort.ahead w n) blk 0 l.toArray) os).heap.size:=by unfold putRow mapBlock Sort.ahead grow;simp
def j7(l:List Int):List Int:=l.mergeSort λx y=>decide (x<=y)
theorem Yt(l:List Int):(j7 l).length=l.length:=List.length_mergeSort l
theorem sort_owned{w:World}{base:Nat}{v:Value}(l:List Int)(hl:l.length<=100000)(hv:w.ownsRow base 3 1 v l.length (l.map (Value.int .i64))) :
  Calls Tryz.prog 286 #[v] w λe w'=>e=.returned (.tuple #[])/\w'.ownsRow base 3 1 v l.length ((j7 l).map (Value.int .i64))/\(∀b0,b0<=base->Below b0 w w'):=by
 rcases hv.2 with ⟨rfl,e0⟩ | ⟨g,cap,cur,rfl,e2,e3,e4,e5,e6,e7⟩
 ·obtain rfl:=List.length_eq_zero_iff.1 e0;refine(Tryz.slices_Sort_int_none none 0 w).mono λe w' ⟨h1,h2⟩=>⟨h1,?_,λ_ _=>h2 ▸ Below.refl _ _⟩
  subst h2;simpa[j7] using hv
 ·have hlt:g<w.heap.size:=(Array.getElem?_eq_some_iff.1 e3).1;rw[Nat.mul_one] at e6 e7;have hH:Holds (Value.int .i64) w g 0 l.toArray:=by
   intro j hj;have hj':j<l.length:=by simpa using hj
   rw[Nat.zero_add];refine⟨?_,by unfold World.frozen?;simp[e3]⟩
   unfold World.cell?;simp only[e3];have h:=congrArg (λx:List Value=>x[j]?) e7
   simp only[List.getElem?_take,hj',if_true,List.getElem?_map,List.getElem?_eq_getElem hj',Option.map_some] at h;rw[Array.getElem?_toList] at h;rw[getElem!_pos _ j hj];simpa using h
  refine(Tryz.slices_Sort_int g 0 cap l w hH hlt (by omega)).mono λe w' ⟨h1,n,os,h2⟩=>⟨h1,?_,λb0 hb=>?_⟩
  ·subst h2;have hs:(j7 l).length<=cur.size:=by rw[Yt];omega
   refine⟨by simp[Yt],.inr ⟨g,cap,_,rfl,e2,sort1_blk (l:=j7 l) e3,e4,e5,by simp[putCells,e6],?_⟩⟩
   rw[Nat.mul_one];refine List.ext_getElem (by simp[putCells,Yt];omega) λi h1 h2=>?_
   have hi:i<(j7 l).length:=by simpa using h2
   simp[putCells,hi]
  ·subst h2;exact⟨rfl,rfl,rfl,sort1_size,λk hk=>sort1_other (by omega) (by omega)⟩
set_option maxRecDepth 100000 in
set_option maxHeartbeats 2000000 in
theorem sorted_seq(gf:Nat)(lb:Array Value)(l:List Int)(hl:l.length<=100000)(W:World)(C:World->Prop)(eg:∀args w,(callFunc gf args).run Tryz.prog w=.ok (.enter gf args) w)
  (hseq:SeqR Tryz.prog gf lb (l.map encI) C) (hC:∀V,Below W.heap.size W V->C V) :
  Calls Tryz.prog 245 #[.func (.func gf) #[] lb] W λe w'=>∃v,e=.returned v/\w'.ownsRow (W.heap.size+1) 3 1 v l.length ((j7 l).map (Value.int .i64))/\Below W.heap.size W w':=by
 have happ:=append_seq gf lb l hl W C eg hseq hC;have hcol:Calls Tryz.prog 285 #[.func (.func gf) #[] lb] W λe w'=>∃v,e=.returned v/\w'.ownsRow (W.heap.size+1) 3 1 v l.length (l.map (Value.int .i64))/\Below W.heap.size W w':=by
  clear hseq hC eg
  go_enter Tryz.func285,Tryz.ntmps285
  go_wp2_with (go_at_call 327;refine happ.mono ?_;rintro e w' ⟨v,rfl,hv,hB⟩)
  go_ret;exact⟨_,rfl,hv,hB⟩
 clear happ hseq hC eg
 go_enter Tryz.func245,Tryz.ntmps245
 go_wp2_with (go_at_call 285;refine hcol.mono ?_;rintro e w' ⟨v,rfl,hv,hB⟩)
 ·have hsort:=sort_owned l hl hv;have hb1:W.heap.size<=w'.heap.size:=hB.size;clear hcol
  go_wp2_with (go_at_call 286;refine hsort.mono ?_;rintro e w2 ⟨rfl,hv2,hB2⟩)
  go_ret;exact⟨_,rfl,hv2,hB.trans (hB2 _ (by omega))⟩
end Go.Am
namespace Go.Am
open Go.Proofs
open Go Go.RowKit Go.Maps
section
variable{H:Type}
def fD(D:DataW H)(m:Int):Option Int:=if Maps.has D (.int .i64 m)=true then (match D.atKey (.int .i64 m) (.lit (.int .i64 0)) with | .lit (.int .i64 v)=>some v | _=>none) else none
theorem fD_put{D:DataW H}(hD:IsMap D)(m v m':Int):fD (D.put (.int .i64 m) (.lit (.int .i64 v))) m'=if m'=m then some v else fD D m':=by
 obtain⟨es,rfl⟩:=hD;unfold fD;by_cases h:m'=m
 ·subst h;rw[if_pos rfl,has_put_same (k:=.int .i64 m') ⟨es,rfl⟩ trivial,atKey_put_same (k:=.int .i64 m') ⟨es,rfl⟩ trivial];rfl
 ·rw[if_neg h,has_put_other (by simpa using h),atKey_put_other (by simpa using h)]
end
theorem atKey_none{H:Type}{D:DataW H}{k:Lit}(h:Maps.has D k=false)(z:DataW H):D.atKey k z=z:=by
 cases D <;> try rfl
 rename_i es;have h:es.any (λp=>p.1.sameKey k)=false:=h
 show(match es.find? (λp=>p.1.sameKey k) with | some p=>p.2 | none=>z)=z
 rw[List.find?_eq_none.2 (λp hp=>by simpa using List.any_eq_false.1 h p hp)]
theorem fD_at{H:Type}{D:DataW H}{m v:Int}(h:∀zd,D.atKey (.int .i64 m) zd=.lit (.int .i64 v)):fD D m=some v:=by
 have hh:Maps.has D (.int .i64 m)=true:=by
  cases hb:Maps.has D (.int .i64 m) with
  | true=>rfl
  | false =>
   have e1:=h (.lit (.int .i64 (v+1)));rw[atKey_none hb] at e1;injection e1 with e1
   injection e1 with _ e1;omega
 unfold fD;rw[if_pos hh,h]
theorem fD_look{H:Type}{D:DataW H}{m c:Int}(h:D.atKey (.int .i64 m) (.lit (.int .i64 0))=.lit (.int .i64 c)):fD D m=if Maps.has D (.int .i64 m)=true then some c else none:=by unfold fD;rw[h]
theorem law3:Keyed Tryz.prog 3:=int_keyed Tryz.underlying3
noncomputable def k171:Code:=match Tryz.f171.body with | some c=>c | none=>.skip
def q1:Code->Code | .seq x _=>x | c=>c
def q2:Code->Code | .seq _ y=>y | c=>c
def qb:Code->Code | .block _ c=>c | c=>c
def ql:Code->Code | .loop c=>c | c=>c
noncomputable def k171G:Code:=ql (qb (q2 (q1 (q2 (q2 k171)))))
noncomputable def k171B:Code:=qb (q1 (q2 (q2 k171G)))
noncomputable def k171M:Code:=ql (qb (q2 (q1 (q2 (q2 (q2 k171B))))))
noncomputable def k171C:Code:=qb (q1 (q2 (q2 k171M)))
noncomputable def k171I:Code:=qb (q2 (q2 (q2 (q2 k171C))))
def updP(be:Int)(x y:Option Int):Option Int:=match x with
 | none=>y
 | some e=>match y with
  | none=>some (e+be)
  | some old=>some (if e+be>old then e+be else old)
theorem same_int(m x:Int):(Lit.int .i64 m).sameKey (.int .i64 x)=decide (m=x):=by show decide (IntKind.i64=IntKind.i64/\m=x)=_;simp
theorem rel_put{H:Type}{D0 Dn0 Dn:DataW H}{left:Lit->Bool}{x c e be:Int}(hA:∀m,fD Dn m=if left (.int .i64 (m - c))=true then fD Dn0 m else updP be (fD D0 (m - c)) (fD Dn0 m))(hm:IsMap Dn)(hx:fD D0 x=some e)
  (hl:left (.int .i64 x)=true) (hn:∀old,fD Dn (x+c)=some old->e+be>old) :
  ∀m,fD (Dn.put (.int .i64 (x+c)) (.lit (.int .i64 (e+be)))) m=if (left (.int .i64 (m - c)) && !(Lit.int .i64 (m - c)).sameKey (.int .i64 x))=true then fD Dn0 m else updP be (fD D0 (m - c)) (fD Dn0 m):=by
 intro m;rw[fD_put hm,same_int];by_cases h:m=x+c
 ·subst h;have e1:x+c - c=x:=by omega
  have h0:=hA (x+c);rw[e1,if_pos hl] at h0;rw[if_pos rfl,e1,hl,hx];simp only[decide_true,Bool.not_true,Bool.and_false,Bool.false_eq_true,if_false,updP];cases hd:fD Dn0 (x+c) with
  | none=>rfl
  | some old =>
   have:=hn old (h0.trans hd);simp only;rw[if_pos this]
 ·rw[if_neg h,hA m,decide_eq_false (by omega)]
  simp
theorem rel_same{H:Type}{D0 Dn0 Dn:DataW H}{left:Lit->Bool}{x c e be old:Int}(hA:∀m,fD Dn m=if left (.int .i64 (m - c))=true then fD Dn0 m else updP be (fD D0 (m - c)) (fD Dn0 m))(hx:fD D0 x=some e)
  (hl:left (.int .i64 x)=true) (ho:fD Dn (x+c)=some old) (hn:¬e+be>old) :
  ∀m,fD Dn m=if (left (.int .i64 (m - c)) && !(Lit.int .i64 (m - c)).sameKey (.int .i64 x))=true then fD Dn0 m else updP be (fD D0 (m - c)) (fD Dn0 m):=by
 intro m;rw[same_int];by_cases h:m=x+c
 ·subst h;have e1:x+c - c=x:=by omega
  have h0:=hA (x+c);rw[e1,if_pos hl] at h0;rw[e1,hl,hx];simp only[decide_true,Bool.not_true,Bool.and_false,Bool.false_eq_true,if_false,updP];rw[ho] at h0 ⊢;rw[<-h0];simp only;rw[if_neg hn]
 ·rw[hA m,decide_eq_false (by omega)]
  simp
structure KeepM(W w:World)(r bn:Nat):Prop where
 os:w.os=W.os
 tape:w.tape=W.tape
 output:w.output=W.output
 size:W.heap.size<=w.heap.size
 block:∀k,k<W.heap.size->k≠r->k≠bn->w.heap[k]? = W.heap[k]?
theorem KeepM.refl(W:World)(r bn:Nat):KeepM W W r bn:=⟨rfl,rfl,rfl,Nat.le_refl _,λ_ _ _ _=>rfl⟩
theorem KeepM.grown{W w w':World}{r bn j:Nat}(h:KeepM W w r bn)(hg:w.grownBy w' (some j))(hj:j=r\/j=bn):KeepM W w' r bn :=
 ⟨hg.os.trans h.os,hg.tape.trans h.tape,hg.output.trans h.output,Nat.le_trans h.size hg.size,λk h1 h2 h3=>(hg.block k (by have:=h.size;omega) (λe=>by injection e with e;rcases hj with rfl | rfl <;> omega)).trans (h.block k h1 h2 h3)⟩
set_option maxRecDepth 100000 in
set_option maxHeartbeats 4000000 in
theorem inner171{H:Type}(W:World)(sa:Option Addr)(b bn ab r n kn:Nat)(c be:Int)(D0 Dn0:DataW H)(u1 u2 u3 u4 u6 u7 u8 u12 u13 u14 u15 u16 u17 u18 u19 u20 u21 u22 u23 u24 u25 u26 u27 u28 u29 u30 u31 u32 u33 u34 u35 u36 u37 u38 u39 u40 u41 u42 u43 u44 u46 u47 u48 u49 u50 u51 u52 u53 u54 u55 u56 u57 u58 u59 u60 u61 u62 u63 u64 u65 u66 u67 u68 u69 u70 u71 u72 u73 u74 u75 u76 u77 u78 u79 u80:Value)
  (hrg:W.ranges Tryz.prog 3 (plainElem Tryz.prog 3) b r n D0 (Maps.has D0) (Maps.size D0)) (hout:W.ownsMap Tryz.prog 3 (plainElem Tryz.prog 3) bn kn Dn0)
  (hbc:W.cell? ⟨ab,1,none⟩=some (.int .i64 be)) (hbr:b≠r/\bn≠r/\b≠bn) (hab:ab≠r/\ab≠bn) (hb64:∀m v,fD D0 m=some v->0<=m/\m<=100/\0<=v/\v<=2000000000000000000) (hn64:∀m v,fD Dn0 m=some v->0<=v/\v<=2000000000000000000)
  (hc64:0<=c/\c<=100) (he64:0<=be/\be<=2000000000000000000) (hkn:kn+Maps.size D0<maxLen)
  (Q:Exit->Act->World->Prop) (hQ:∀(v13 v14 v15 v16 v46 v47 v48 v49 v50 v51 v52 v53 v54 v55 v56 v57 v58 v59 v60 v61 v62 v63 v64 v65 v66 v67 v68 v69 v70 v71 v72 v73 v74 v75 v76:Value) (Dn:DataW H) (cnt:Nat) (w':World),w'.ranges Tryz.prog 3 (plainElem Tryz.prog 3) b r n D0 (λ_=>false) 0->w'.ownsMap Tryz.prog 3 (plainElem Tryz.prog 3) bn (kn+Maps.size D0) Dn ->
   (∀m,fD Dn m=updP be (fD D0 (m - c)) (fD Dn0 m))->KeepM W w' r bn->Q (.exit 4) { tmps:=#[.pointer sa,u1,u2,u3,u4,.map (some b),u6,u7,u8,.map (some bn),.int .i64 c,.pointer (some ⟨ab,0,none⟩),u12,v13,v14,v15,v16,u17,u18,u19,u20,u21,u22,u23,u24,u25,u26,u27,u28,u29,u30,u31,u32,u33,u34,u35,u36,u37,u38,u39,u40,u41,u42,u43,u44,.pointer (some ⟨r,0,none⟩),v46,v47,v48,v49,v50,v51,v52,v53,v54,v55,v56,v57,v58,v59,v60,v61,v62,v63,v64,v65,v66,v67,v68,v69,v70,v71,v72,v73,v74,v75,v76,u77,u78,u79,u80],defers:=[] } w'):k171I.wp Tryz.prog Q { tmps:=#[.pointer sa,u1,u2,u3,u4,.map (some b),u6,u7,u8,.map (some bn),.int .i64 c,.pointer (some ⟨ab,0,none⟩),u12,u13,u14,u15,u16,u17,u18,u19,u20,u21,u22,u23,u24,u25,u26,u27,u28,u29,u30,u31,u32,u33,u34,u35,u36,u37,u38,u39,u40,u41,u42,u43,u44,.pointer (some ⟨r,0,none⟩),u46,u47,u48,u49,u50,u51,u52,u53,u54,u55,u56,u57,u58,u59,u60,u61,u62,u63,u64,u65,u66,u67,u68,u69,u70,u71,u72,u73,u74,u75,u76,u77,u78,u79,u80],defers:=[] } W:=by
 dsimp only[k171I,k171C,k171M,k171B,k171G,k171,q1,q2,qb,ql,Tryz.f171];have zeroE:∀w,(zeroValue 3).run Tryz.prog w=.ok (.int .i64 0) w:=λw=>by kernel_rfl
 go_loopw [46] (λ_ wr=>∃(left:Lit->Bool) (cnt:Nat) (Dn:DataW H),wr.ranges Tryz.prog 3 (plainElem Tryz.prog 3) b r n D0 left cnt/\cnt<=Maps.size D0 /\
   wr.ownsMap Tryz.prog 3 (plainElem Tryz.prog 3) bn (kn+(Maps.size D0 - cnt)) Dn/\(∀m,fD Dn m=if left (.int .i64 (m - c))=true then fD Dn0 m else updP be (fD D0 (m - c)) (fD Dn0 m))/\KeepM W wr r bn)
  (λ_ wr=>wr.rangeLeft b r)
 case atStart =>
  refine⟨_,_,Dn0,hrg,Nat.le_refl _,by simpa using hout,λm=>?_,KeepM.refl _ _ _⟩
  by_cases h:Maps.has D0 (.int .i64 (m - c))=true
  ·rw[if_pos h]
  ·rw[if_neg h];have:fD D0 (m - c)=none:=by unfold fD;rw[if_neg h]
   rw[this];rfl
 case round =>
  obtain⟨left,cnt,Dn,hrg,hcs,hout,hA,hnx⟩:=hrel
  go_wp2_with (first
   | (at_next;refine wpList_next_ranges_ii _ rfl _ rfl 3 3 .i64 .i64 law3 Tryz.underlying3 Tryz.underlying3 b r n _ _ _ rfl hrg ?_ ?_)
   | go_in)
  ·intro hc0 hl0;go_wp2;subst hc0;have hlf:left=λ_=>false:=funext hl0
   subst hlf;exact hQ _ _ _ _ _ _ _ _ _ _ _ _ _ _ _ _ _ _ _ _ _ _ _ _ _ _ _ _ _ _ _ _ _ _ _ Dn 0 wr hrg (by simpa using hout) (λm=>by simpa using hA m) hnx
  ·intro x e w1 cnt1 hwx hwc hlx hat hrg1 hlt hg1 hs1 hen;have hout1:=hout.kept hg1 (by simpa using hbr.2.1)
   have hfx:=fD_at hat;obtain⟨x1,x2,e1,e2⟩:=hb64 x e hfx;have hnx1:=hnx.grown hg1 (.inl rfl);have hbc1:w1.cell? ⟨ab,1,none⟩=some (.int .i64 be) :=
    (World.cell?_of_block (a:=⟨ab,1,none⟩) (hnx1.block ab (World.block_lt_of_cell? _ _ hbc) hab.1 hab.2)).trans hbc
   have hwk:(Lit.int .i64 (x+c)).wf=true:=WalkArith.wf_i64 (by omega)
   have hwe:(Lit.int .i64 (e+be)).wf=true:=WalkArith.wf_i64 (by omega)
   have ewr:wrap64 (x+c)=x+c:=by unfold wrap64;omega
   have ewe:wrap64 (e+be)=e+be:=by unfold wrap64;omega
   go_wp2_with (first
    | (at_lookup;refine wpList_lookup_own_ok_int _ rfl _ _ 278 rfl 3 3 .i64 law3 Tryz.underlying278 Tryz.underlying3 (zeroE _) bn _ _ rfl hout1 _ _ rfl (keyOf_int_mk Tryz.underlying3 (by first | exact hwk | (rw[ewr];exact hwk) | (show(Lit.int .i64 (wrap64 (x+c))).wf=true;rw[ewr];exact hwk))) ?_;intro old hold hwo)
    | (at_mapUpdate;refine wpList_mapUpdate_own _ rfl _ _ _ 278 rfl 3 3 law3 Tryz.underlying278 _ bn _ _ rfl hout1 (by omega) _ _ _ rfl rfl (keyOf_int_mk Tryz.underlying3 (by first | exact hwk | (rw[ewr];exact hwk) | (show(Lit.int .i64 (wrap64 (x+c))).wf=true;rw[ewr];exact hwk))) _ [] (plainElem_int Tryz.underlying3 (by first | exact hwe | (rw[ewe];exact hwe) | (show(Lit.int .i64 (wrap64 (e+be))).wf=true;rw[ewe];exact hwe))) ?_;intro w2 hout2 hg2;go_frame)
    | go_in)
   ·have hrg2:=hrg1.kept hg2 (λe=>by have:=Option.some.inj e;omega) (λe=>by have:=Option.some.inj e;omega)
    refine⟨⟨_,cnt1,_,hrg2,by omega,hout2.mono (by omega),rel_put hA hout.isMap hfx hlx (λo ho=>?_),hnx1.grown hg2 (.inr rfl)⟩,by rw[hrg2.left_eq,hrg.left_eq];exact hlt⟩
    rw[fD_look hold,if_pos (by assumption)] at ho
    injection ho with ho;have:old<e+be:=by assumption
    omega
   ·refine⟨⟨_,cnt1,_,hrg1,by omega,hout1.mono (by omega),rel_same (old:=old) (e:=e) hA hfx hlx ?_ ?_,hnx1⟩,by rw[hrg1.left_eq,hrg.left_eq];exact hlt⟩
    ·exact(fD_look hold).trans (if_pos (by assumption))
    ·have:e+be<=old:=by assumption
     omega
   ·have hrg2:=hrg1.kept hg2 (λe=>by have:=Option.some.inj e;omega) (λe=>by have:=Option.some.inj e;omega)
    refine⟨⟨_,cnt1,_,hrg2,by omega,hout2.mono (by omega),rel_put hA hout.isMap hfx hlx (λo ho=>?_),hnx1.grown hg2 (.inr rfl)⟩,by rw[hrg2.left_eq,hrg.left_eq];exact hlt⟩
    rw[fD_look hold,if_neg (by assumption)] at ho
    cases ho
end Go.Am
namespace Go.Am
open Go.Proofs
open Go Go.RowKit Go.Maps
def midF(d0:Int->Option Int)(bst:Nat->Option Int):Nat->Int->Option Int
 | 0,_=>none
 | k+1,m=>match bst k with
  | none=>midF d0 bst k m
  | some be=>updP be (d0 (m - k)) (midF d0 bst k m)
theorem QJ{H:Type}{P:Program}{w w':World}{k b n:Nat}{R:Value->Option (DataW H×List MemPlace)}{D:DataW H}(h:w.ownsMap P k R b n D)(e:w'.heap[b]? = w.heap[b]?):w'.ownsMap P k R b n D:=by unfold World.ownsMap at h ⊢;rw[e];exact h
theorem updP_bnd{be:Int}{x y:Option Int}(hb:0<=be/\be<=1000000000000000000)(hx:∀v,x=some v->0<=v/\v<=1000000000000000000)(hy:∀v,y=some v->0<=v/\v<=2000000000000000000):∀v,updP be x y=some v->0<=v/\v<=2000000000000000000:=by
 intro v h;unfold updP at h;cases x with
 | none=>exact hy v h
 | some e =>
  have he:=hx e rfl;cases y with
  | none=>simp at h;omega
  | some old =>
   have ho:=hy old rfl;simp only[Option.some.injEq] at h;split at h <;> omega
set_option maxRecDepth 100000 in
set_option maxHeartbeats 4000000 in
theorem mid171{H:Type}(W:World)(sa:Option Addr)(ov:Value)(b bn n L:Nat)(D0:DataW H)(u1 u2 u3 u4 u6 u7 u10 u11 u12 u13 u14 u15 u16 u17 u18 u19 u20 u21 u22 u23 u24 u25 u26 u27 u28 u29 u30 u33 u34 u35 u36 u37 u38 u39 u40 u41 u42 u43 u44 u45 u46 u47 u48 u49 u50 u51 u52 u53 u54 u55 u56 u57 u58 u59 u60 u61 u62 u63 u64 u65 u66 u67 u68 u69 u70 u71 u72 u73 u74 u75 u76 u77 u78 u79 u80:Value)(bst:Nat->Option Int)
  (hb:W.ownsMap Tryz.prog 3 (plainElem Tryz.prog 3) b n D0) (hbn:W.ownsMap Tryz.prog 3 (plainElem Tryz.prog 3) bn 0 (.map []:DataW H)) (hlt:b<bn)
  (hb64:∀m v,fD D0 m=some v->0<=m/\m<=50/\0<=v/\v<=1000000000000000000) (hL:L<=64)
  (hbest:∀(V:World) (k:Nat),Below bn W V->k<=L->Calls Tryz.prog 162 #[.pointer sa,ov,.slice none 0 0,.int .i64 k] V λe w'=>∃(pa:Option Addr) (pn pc:Nat) (en:Int) (fd:Bool),e=.returned (.tuple #[.agg #[.slice pa pn pc,.int .i64 en],.bool fd])/\Below V.heap.size V w'/\bst k=(if fd=true then some en else none)/\0<=en/\en<=1000000000000000000) (hsz0:Maps.size D0<=1000)
  (Q:Exit->Act->World->Prop) (hQ:∀(v10 v11 v12 v13 v14 v15 v16 v32 v33 v34 v35 v36 v37 v38 v39 v40 v41 v42 v43 v44 v45 v46 v47 v48 v49 v50 v51 v52 v53 v54 v55 v56 v57 v58 v59 v60 v61 v62 v63 v64 v65 v66 v67 v68 v69 v70 v71 v72 v73 v74 v75 v76 v77:Value) (kn:Nat) (Dn:DataW H) (w':World),w'.ownsMap Tryz.prog 3 (plainElem Tryz.prog 3) bn kn Dn->kn<=(L+1) * Maps.size D0->(∀m,fD Dn m=midF (fD D0) bst (L+1) m) ->
   Below bn W w'->bn<w'.heap.size->Q (.exit 2) { tmps:=#[.pointer sa,u1,u2,u3,u4,.map (some b),u6,u7,ov,.map (some bn),v10,v11,v12,v13,v14,v15,v16,u17,u18,u19,u20,u21,u22,u23,u24,u25,u26,u27,u28,u29,u30,.int .i64 ((L:Int)+1),v32,v33,v34,v35,v36,v37,v38,v39,v40,v41,v42,v43,v44,v45,v46,v47,v48,v49,v50,v51,v52,v53,v54,v55,v56,v57,v58,v59,v60,v61,v62,v63,v64,v65,v66,v67,v68,v69,v70,v71,v72,v73,v74,v75,v76,v77,u78,u79,u80],defers:=[] } w'):(Code.loop k171M).wp Tryz.prog Q { tmps:=#[.pointer sa,u1,u2,u3,u4,.map (some b),u6,u7,ov,.map (some bn),u10,u11,u12,u13,u14,u15,u16,u17,u18,u19,u20,u21,u22,u23,u24,u25,u26,u27,u28,u29,u30,.int .i64 ((L:Int)+1),.int .i64 0,u33,u34,u35,u36,u37,u38,u39,u40,u41,u42,u43,u44,u45,u46,u47,u48,u49,u50,u51,u52,u53,u54,u55,u56,u57,u58,u59,u60,u61,u62,u63,u64,u65,u66,u67,u68,u69,u70,u71,u72,u73,u74,u75,u76,u77,u78,u79,u80],defers:=[] } W:=by
 dsimp only[k171M,k171B,k171G,k171,q1,q2,qb,ql,Tryz.f171]
 go_loopw [32] (λp wr=>∃(k kn:Nat) (Dn:DataW H),p=.int .i64 k/\k<=L+1/\wr.ownsMap Tryz.prog 3 (plainElem Tryz.prog 3) bn kn Dn/\kn<=k * Maps.size D0/\(∀m,fD Dn m=midF (fD D0) bst k m)/\(∀m v,fD Dn m=some v->0<=v/\v<=2000000000000000000)/\Below bn W wr/\bn<wr.heap.size)
  (λp _=>L+1 - qo p)
 case atStart=>exact⟨0,0,.map [],rfl,by omega,hbn,Nat.zero_le _,λm=>rfl,(λm v h=>by cases h),Below.refl _ _,hbn.lt⟩
 case round =>
  obtain⟨k,kn,Dn,rfl,hk,hown,hkn,hA,hAb,hB,hs⟩:=hrel;by_cases hkl:k<L+1
  ·have hbl:b<wr.heap.size:=by omega
   have hbw:wr.ownsMap Tryz.prog 3 (plainElem Tryz.prog 3) b n D0:=QJ hb (hB.block b hlt);have hcall:=hbest wr k hB (by omega)
   go_wp2_with (first
    | (go_at_call 162;refine hcall.mono ?_;rintro e w1 ⟨pa,pn,pc,en,fd,rfl,hB1,hfd,hen1,hen2⟩;have hb1:=QJ hbw (hB1.block b hbl))
    | (at_range;refine wpList_range_own _ rfl _ 278 rfl 3 3 law3 Tryz.underlying278 _ b n _ rfl (hb1.alloc _) ?_;intro w0 hrg0 hg0 hs0)
    | go_in)
   ·have hfd':bst k=none:=by rw[hfd,if_neg];cases fd <;> simp_all
    have hw1s:=hB1.size;have hrel:∃(k1 kn:Nat) (D:DataW H),Value.int .i64 ((k:Int)+1)=.int .i64 k1/\k1<=L+1/\(w1.alloc (.cells #[.slice pa pn pc,.int .i64 en] 266)).ownsMap Tryz.prog 3 (plainElem Tryz.prog 3) bn kn D/\kn<=k1 * Maps.size D0/\(∀m,fD D m=midF (fD D0) bst k1 m)/\(∀m v,fD D m=some v->0<=v/\v<=2000000000000000000)/\Below bn W (w1.alloc (.cells #[.slice pa pn pc,.int .i64 en] 266))/\bn<(w1.alloc (.cells #[.slice pa pn pc,.int .i64 en] 266)).heap.size:=by
     refine⟨k+1,kn,Dn,by simp,by omega,(QJ hown (hB1.block bn hs)).alloc _,by rw[Nat.add_mul,Nat.one_mul];omega,λm=>?_,hAb,((hB.trans (hB1.mono (by omega))).alloc (by omega) _),by rw[World.size_alloc];omega⟩
     rw[hA m];show _=(match bst k with | none=>_ | some be=>_)
     rw[hfd']
    refine⟨hrel,?_⟩;simp[qo];omega
   ·go_frame
    have hsz1:(w1.alloc (.cells #[.slice pa pn pc,.int .i64 en] 266)).heap.size=w1.heap.size+1:=World.size_alloc _ _;have hfd':bst k=some en:=by rw[hfd,if_pos];cases fd <;> first | rfl | (exfalso;simp_all;done)
    have hown1:(w1.alloc (.cells #[.slice pa pn pc,.int .i64 en] 266)).ownsMap Tryz.prog 3 (plainElem Tryz.prog 3) bn kn Dn:=(QJ hown (hB1.block bn hs)).alloc _;have hw1s:=hB1.size;have hkk:kn+Maps.size D0<=(k+1) * Maps.size D0:=by rw[Nat.add_mul,Nat.one_mul];omega
    have hkk2:(k+1) * Maps.size D0<=65 * 1000:=Nat.mul_le_mul (by omega) hsz0
    refine inner171 w0 sa b bn w1.heap.size (w1.alloc (.cells #[.slice pa pn pc,.int .i64 en] 266)).heap.size n kn k en D0 Dn _ _ _ _ _ _ _ _ _ _ _ _ _ _ _ _ _ _ _ _ _ _ _ _ _ _ _ _ _ _ _ _ _ _ _ _ _ _ _ _ _ _ _ _ _ _ _ _ _ _ _ _ _ _ _ _ _ _ _ _ _ _ _ _ _ _ _ _ _ _ _ _ _ _ _ hrg0 ?_ ?_ ?_ ?_ ?_ ?_ ?_ ?_ ?_ _ ?_
    ·exact QJ hown1 (hg0.block bn (by rw[hsz1];omega) (by simp))
    ·refine(World.cell?_of_block (a:=⟨w1.heap.size,1,none⟩) (hg0.block w1.heap.size (by rw[hsz1];omega) (by simp))).trans ?_
     unfold World.cell?;simp only[World.alloc_heap_new];rfl
    ·rw[hsz1];omega
    ·rw[hsz1];omega
    ·intro m v h;have:=hb64 m v h;omega
    ·intro m v h;have:=hAb m v h;omega
    ·omega
    ·omega
    ·unfold maxLen;omega
    ·intro v13 v14 v15 v16 v46 v47 v48 v49 v50 v51 v52 v53 v54 v55 v56 v57 v58 v59 v60 v61 v62 v63 v64 v65 v66 v67 v68 v69 v70 v71 v72 v73 v74 v75 v76 Dn1 cnt w' hrg' hout' hA' hK';have hB2:Below bn W w':=by
      refine(hB.trans (hB1.mono (by omega))).trans ?_
      refine((((Below.refl bn w1).alloc (by omega) (.cells #[.slice pa pn pc,.int .i64 en] 266))).grown hg0 (by rw[hsz1];omega) (λj hj=>by cases hj)).trans ?_
      exact⟨hK'.os,hK'.tape,hK'.output,hK'.size,λj hj=>hK'.block j (by omega) (by rw[hsz1];omega) (by omega)⟩
     have hs2:bn<w'.heap.size:=by have:=hK'.size;omega
     have hrel:∃(k1 kn:Nat) (D:DataW H),Value.int .i64 ((k:Int)+1)=.int .i64 k1/\k1<=L+1/\w'.ownsMap Tryz.prog 3 (plainElem Tryz.prog 3) bn kn D/\kn<=k1 * Maps.size D0/\(∀m,fD D m=midF (fD D0) bst k1 m)/\(∀m v,fD D m=some v->0<=v/\v<=2000000000000000000)/\Below bn W w'/\bn<w'.heap.size:=by
      refine⟨k+1,kn+Maps.size D0,Dn1,by simp,by omega,hout',hkk,λm=>?_,λm v h=>?_,hB2,hs2⟩
      ·rw[hA' m,hA m];show _=(match bst k with | none=>_ | some be=>_)
       rw[hfd']
      ·rw[hA' m] at h;exact updP_bnd ⟨hen1,hen2⟩ (λv h=>by have:=hb64 _ v h;omega) (λv h=>hAb m v h) v h
     go_wp2;refine⟨hrel,?_⟩;simp[qo];omega
  ·go_wp2;obtain rfl:k=L+1:=by omega
   exact hQ _ _ _ _ _ _ _ _ _ _ _ _ _ _ _ _ _ _ _ _ _ _ _ _ _ _ _ _ _ _ _ _ _ _ _ _ _ _ _ _ _ _ _ _ _ _ _ _ _ _ _ _ _ kn Dn wr hown hkn hA hB hs
end Go.Am
namespace Go.Am
open Go.Proofs
open Go Go.RowKit Go.Maps
theorem sortedValues(V:World)(a:Option Addr)(c:Nat)(g:List Int)(hl:g.length<=100000)(hg:0<g.length->∃b o,a=some ⟨b,o,none⟩/\Q0 V b o g) :
  Calls Tryz.prog 245 #[.func (.func 287) #[] #[.pointer (some ⟨V.heap.size,0,none⟩)]] (V.alloc (.cells #[.slice a g.length c] 25)) λe w'=>∃oa oc,e=.returned (.slice oa g.length oc) /\
   w'.ownsRow (V.heap.size+1+1) 3 1 (.slice oa g.length oc) g.length ((j7 g).map (Value.int .i64))/\Below (V.heap.size+1) (V.alloc (.cells #[.slice a g.length c] 25)) w':=by
 have eg:∀args w,(callFunc 287 args).run Tryz.prog w=.ok (.enter 287 args) w:=Go.Proofs.enters_of Tryz.func287 (by kernel_rfl) rfl
 have hs:(V.alloc (.cells #[.slice a g.length c] 25)).heap.size=V.heap.size+1:=World.size_alloc _ _;have hbox:∀W',Below (V.heap.size+1) (V.alloc (.cells #[.slice a g.length c] 25)) W'->W'.cell? ⟨V.heap.size,0,none⟩=some (.slice a g.length c):=by
  intro W' hB;refine(World.cell?_of_block (a:=⟨V.heap.size,0,none⟩) (hB.block V.heap.size (by omega))).trans ?_
  unfold World.cell?;simp only[World.alloc_heap_new];rfl
 have form:∀(w':World) (v:Value),w'.ownsRow (V.heap.size+1+1) 3 1 v g.length ((j7 g).map (Value.int .i64))->∃oa oc,v=.slice oa g.length oc:=by
  intro w' v h;rcases h.2 with ⟨rfl,e⟩ | ⟨g',cap,_,rfl,_⟩
  ·exact⟨none,0,by rw[e]⟩
  ·exact⟨_,_,rfl⟩
 have fin:∀(R:Ending->World->Prop),(∀e w',(∃v,e=.returned v/\w'.ownsRow (V.heap.size+1+1) 3 1 v g.length ((j7 g).map (Value.int .i64))/\Below (V.heap.size+1) (V.alloc (.cells #[.slice a g.length c] 25)) w')->R e w') ->
   Calls Tryz.prog 245 #[.func (.func 287) #[] #[.pointer (some ⟨V.heap.size,0,none⟩)]] (V.alloc (.cells #[.slice a g.length c] 25)) R:=by
  intro R hR;by_cases h0:0<g.length
  ·obtain⟨b,o,rfl,hi⟩:=hg h0;have hblt:b<V.heap.size:=by have:=hi 0 h0;exact World.block_lt_of_cell? _ _ this
   have:=sorted_seq 287 #[.pointer (some ⟨V.heap.size,0,none⟩)] g hl (V.alloc (.cells #[.slice (some ⟨b,o,none⟩) g.length c] 25)) _ eg (values_seq ⟨V.heap.size,0,none⟩ b o c g (by omega)) (λW' hB=>by
    rw[hs] at hB;refine⟨hbox W' hB,λj hj=>?_⟩
    refine(World.cell?_of_block (a:=⟨b,o+j,none⟩) ((hB.block b (by omega)).trans (Below.heap_alloc _ _ _ hblt))).trans (hi j hj))
   rw[hs] at this;exact this.mono λe w' h=>hR e w' h
  ·have hz:g=[]:=List.length_eq_zero_iff.1 (by omega)
   subst hz;have:=sorted_seq 287 #[.pointer (some ⟨V.heap.size,0,none⟩)] [] (by simp) (V.alloc (.cells #[.slice a ([]:List Int).length c] 25)) _ eg (values_none ⟨V.heap.size,0,none⟩ a c) (λW' hB=>by
    rw[hs] at hB;exact hbox W' hB)
   rw[hs] at this;exact this.mono λe w' h=>hR e w' h
 refine fin _ λe w' ⟨v,he,hv,hB⟩=>?_
 obtain⟨oa,oc,rfl⟩:=form w' v hv;exact⟨oa,oc,he,hv,hB⟩
end Go.Am
namespace Go.Am
open Go.Proofs
open Go Go.RowKit Go.Maps
def outF(bst:List Int->Nat->Option Int):List (List Int)->Int->Option Int
 | [],m=>if m=0 then some 0 else none
 | g :: gs,m=>midF (outF bst gs) (bst (j7 g)) (g.length+1) m
def prodR:List (List Int)->Nat
 | []=>1
 | g :: gs=>(g.length+1) * prodR gs
set_option maxRecDepth 100000 in
set_option maxHeartbeats 4000000 in
theorem last171(wr:World)(sa:Option Addr)(b gb go gcap len:Nat)(u1 u2 u3 u4 u6 u7 u8 u9 u10 u11 u12 u13 u14 u15 u16 u17 u18 u22 u23 u24 u25 u26 u27 u28 u29 u30 u31 u32 u33 u34 u35 u36 u37 u38 u39 u40 u41 u42 u43 u44 u45 u46 u47 u48 u49 u50 u51 u52 u53 u54 u55 u56 u57 u58 u59 u60 u61 u62 u63 u64 u65 u66 u67 u68 u69 u70 u71 u72 u73 u74 u75 u76 u77 u78 u79 u80:Value)(R:Exit->Act->World->Prop)
  (hR:∀v22:Value,R (.exit 0) { tmps:=#[.pointer sa,u1,u2,u3,u4,.map (some b),u6,u7,u8,u9,u10,u11,u12,u13,u14,u15,u16,u17,u18,.slice (some ⟨gb,go,none⟩) len gcap,.int .i64 (len:Int),.int .i64 (len:Int),v22,u23,u24,u25,u26,u27,u28,u29,u30,u31,u32,u33,u34,u35,u36,u37,u38,u39,u40,u41,u42,u43,u44,u45,u46,u47,u48,u49,u50,u51,u52,u53,u54,u55,u56,u57,u58,u59,u60,u61,u62,u63,u64,u65,u66,u67,u68,u69,u70,u71,u72,u73,u74,u75,u76,u77,u78,u79,u80],defers:=[] } wr):k171G.wp Tryz.prog R { tmps:=#[.pointer sa,u1,u2,u3,u4,.map (some b),u6,u7,u8,u9,u10,u11,u12,u13,u14,u15,u16,u17,u18,.slice (some ⟨gb,go,none⟩) len gcap,.int .i64 (len:Int),.int .i64 (len:Int),u22,u23,u24,u25,u26,u27,u28,u29,u30,u31,u32,u33,u34,u35,u36,u37,u38,u39,u40,u41,u42,u43,u44,u45,u46,u47,u48,u49,u50,u51,u52,u53,u54,u55,u56,u57,u58,u59,u60,u61,u62,u63,u64,u65,u66,u67,u68,u69,u70,u71,u72,u73,u74,u75,u76,u77,u78,u79,u80],defers:=[] } wr:=by
 dsimp only[k171G,k171,q1,q2,qb,ql,Tryz.f171];go_wp2;exact hR _
set_option maxRecDepth 100000 in
set_option maxHeartbeats 4000000 in
theorem round171{H:Type}(wr:World)(sa:Option Addr)(b gb go gcap k len n:Nat)(ga:Option Addr)(gc:Nat)(g:List Int)(D:DataW H)(u1 u2 u3 u4 u6 u7 u8 u9 u10 u11 u12 u13 u14 u15 u16 u17 u18 u22 u23 u24 u25 u26 u27 u28 u29 u30 u31 u32 u33 u34 u35 u36 u37 u38 u39 u40 u41 u42 u43 u44 u45 u46 u47 u48 u49 u50 u51 u52 u53 u54 u55 u56 u57 u58 u59 u60 u61 u62 u63 u64 u65 u66 u67 u68 u69 u70 u71 u72 u73 u74 u75 u76 u77 u78 u79 u80:Value)(bst:List Int->Nat->Option Int)
  (hkl:k<len) (hlen:len<=64) (hg64:g.length<=64) (hc1:wr.cell? ⟨gb,go+k,none⟩=some (.slice ga g.length gc))
  (hsort:Calls Tryz.prog 245 #[.func (.func 287) #[] #[.pointer (some ⟨wr.heap.size,0,none⟩)]] (wr.alloc (.cells #[.slice ga g.length gc] 25)) λe w'=>∃oa oc,e=.returned (.slice oa g.length oc) /\
   w'.ownsRow (wr.heap.size+1+1) 3 1 (.slice oa g.length oc) g.length ((j7 g).map (Value.int .i64))/\Below (wr.heap.size+1) (wr.alloc (.cells #[.slice ga g.length gc] 25)) w')
  (hown:wr.ownsMap Tryz.prog 3 (plainElem Tryz.prog 3) b n D) (hbs:b<wr.heap.size) (hDb:∀m v,fD D m=some v->0<=m/\m<=50/\0<=v/\v<=1000000000000000000) (hsz:Maps.size D<=1000)
  (hbest:∀(V:World) (oa:Option Addr) (oc k:Nat),Below wr.heap.size wr V->V.ownsRow wr.heap.size 3 1 (.slice oa g.length oc) g.length ((j7 g).map (Value.int .i64))->k<=g.length ->
   Calls Tryz.prog 162 #[.pointer sa,.slice oa g.length oc,.slice none 0 0,.int .i64 k] V λe w'=>∃(pa:Option Addr) (pn pc:Nat) (en:Int) (fd:Bool),e=.returned (.tuple #[.agg #[.slice pa pn pc,.int .i64 en],.bool fd])/\Below V.heap.size V w'/\bst (j7 g) k=(if fd=true then some en else none)/\0<=en/\en<=1000000000000000000)
  (R:Exit->Act->World->Prop) (hR:∀(v7 v8 v9 v10 v11 v12 v13 v14 v15 v16 v22 v23 v24 v25 v26 v27 v28 v29 v30 v31 v32 v33 v34 v35 v36 v37 v38 v39 v40 v41 v42 v43 v44 v45 v46 v47 v48 v49 v50 v51 v52 v53 v54 v55 v56 v57 v58 v59 v60 v61 v62 v63 v64 v65 v66 v67 v68 v69 v70 v71 v72 v73 v74 v75 v76 v77 v78 v79:Value) (b1 kn:Nat) (Dn:DataW H) (w':World),wr.heap.size<b1->w'.ownsMap Tryz.prog 3 (plainElem Tryz.prog 3) b1 kn Dn->kn<=(g.length+1) * Maps.size D->(∀m,fD Dn m=midF (fD D) (bst (j7 g)) (g.length+1) m) ->
   Below wr.heap.size wr w'->b1<w'.heap.size->R .normal { tmps:=#[.pointer sa,u1,u2,u3,u4,.map (some b1),u6,v7,v8,v9,v10,v11,v12,v13,v14,v15,v16,u17,u18,.slice (some ⟨gb,go,none⟩) len gcap,.int .i64 (len:Int),.int .i64 ((k:Int)+1),v22,v23,v24,v25,v26,v27,v28,v29,v30,v31,v32,v33,v34,v35,v36,v37,v38,v39,v40,v41,v42,v43,v44,v45,v46,v47,v48,v49,v50,v51,v52,v53,v54,v55,v56,v57,v58,v59,v60,v61,v62,v63,v64,v65,v66,v67,v68,v69,v70,v71,v72,v73,v74,v75,v76,v77,v78,v79,u80],defers:=[] } w'):k171G.wp Tryz.prog R { tmps:=#[.pointer sa,u1,u2,u3,u4,.map (some b),u6,u7,u8,u9,u10,u11,u12,u13,u14,u15,u16,u17,u18,.slice (some ⟨gb,go,none⟩) len gcap,.int .i64 (len:Int),.int .i64 (k:Int),u22,u23,u24,u25,u26,u27,u28,u29,u30,u31,u32,u33,u34,u35,u36,u37,u38,u39,u40,u41,u42,u43,u44,u45,u46,u47,u48,u49,u50,u51,u52,u53,u54,u55,u56,u57,u58,u59,u60,u61,u62,u63,u64,u65,u66,u67,u68,u69,u70,u71,u72,u73,u74,u75,u76,u77,u78,u79,u80],defers:=[] } wr:=by
 have hmm:=@run_makeMap Tryz.prog;have HR:Hid _:=hR;have HB:Hid _:=hbest;have HD:Hid _:=hDb;clear hR hbest hDb;dsimp only[k171G,k171,q1,q2,qb,ql,Tryz.f171]
 go_wp2_with (first
  | (go_at_call 245;refine hsort.mono ?_;rintro e w1 ⟨oa,oc,rfl,hv,hB1⟩)
  | go_in)
 have hw1s:wr.heap.size+1<=w1.heap.size:=by have:=hB1.size;rw[World.size_alloc] at this;omega
 have hBw1:Below wr.heap.size wr w1:=((Below.refl wr.heap.size wr).alloc (Nat.le_refl _) _).trans (hB1.mono (by omega))
 refine mid171 (w1.alloc (.map #[] 0)) sa (.slice oa g.length oc) b w1.heap.size n g.length D _ _ _ _ _ _ _ _ _ _ _ _ _ _ _ _ _ _ _ _ _ _ _ _ _ _ _ _ _ _ _ _ _ _ _ _ _ _ _ _ _ _ _ _ _ _ _ _ _ _ _ _ _ _ _ _ _ _ _ _ _ _ _ _ _ _ _ _ _ _ _ _ _ _ _ (bst (j7 g)) ?_ ?_ ?_ ?_ ?_ ?_ ?_ _ ?_
 ·exact(QJ hown ((hB1.block b (by omega)).trans (Below.heap_alloc _ _ _ hbs))).alloc _
 ·exact World.ownsMap_made _ _ _ _
 ·omega
 ·exact HD.out
 ·exact hg64
 ·intro V k1 hBV hk1;have hBV':Below wr.heap.size wr V:=(hBw1.trans ((Below.refl wr.heap.size w1).alloc (by omega) _)).trans (hBV.mono (by omega))
  refine HB.out V oa oc k1 hBV' ⟨hv.1,hv.2.imp id ?_⟩ hk1;rintro⟨g',cap,cur,e1,e2,e3,e4⟩;have hglt:g'<w1.heap.size:=(Array.getElem?_eq_some_iff.1 e3).1;exact⟨g',cap,cur,e1,by omega,((hBV.block g' hglt).trans (Below.heap_alloc _ _ _ hglt)).trans e3,e4⟩
 ·exact hsz
 ·intro v10 v11 v12 v13 v14 v15 v16 v32 v33 v34 v35 v36 v37 v38 v39 v40 v41 v42 v43 v44 v45 v46 v47 v48 v49 v50 v51 v52 v53 v54 v55 v56 v57 v58 v59 v60 v61 v62 v63 v64 v65 v66 v67 v68 v69 v70 v71 v72 v73 v74 v75 v76 v77 kn Dn w' hown' hkn' hA' hB' hs';have hBw':Below wr.heap.size wr w':=(hBw1.trans ((Below.refl wr.heap.size w1).alloc (by omega) _)).trans (hB'.mono (by omega))
  have hlt1:wr.heap.size<w1.heap.size:=by omega
  have fin:∀(v7 v8 v9 v10 v11 v12 v13 v14 v15 v16 v22 v23 v24 v25 v26 v27 v28 v29 v30 v31 v32 v33 v34 v35 v36 v37 v38 v39 v40 v41 v42 v43 v44 v45 v46 v47 v48 v49 v50 v51 v52 v53 v54 v55 v56 v57 v58 v59 v60 v61 v62 v63 v64 v65 v66 v67 v68 v69 v70 v71 v72 v73 v74 v75 v76 v77 v78 v79:Value),R .normal { tmps:=#[.pointer sa,u1,u2,u3,u4,.map (some w1.heap.size),u6,v7,v8,v9,v10,v11,v12,v13,v14,v15,v16,u17,u18,.slice (some ⟨gb,go,none⟩) len gcap,.int .i64 (len:Int),.int .i64 ((k:Int)+1),v22,v23,v24,v25,v26,v27,v28,v29,v30,v31,v32,v33,v34,v35,v36,v37,v38,v39,v40,v41,v42,v43,v44,v45,v46,v47,v48,v49,v50,v51,v52,v53,v54,v55,v56,v57,v58,v59,v60,v61,v62,v63,v64,v65,v66,v67,v68,v69,v70,v71,v72,v73,v74,v75,v76,v77,v78,v79,u80],defers:=[] } w':=λv7 v8 v9 v10 v11 v12 v13 v14 v15 v16 v22 v23 v24 v25 v26 v27 v28 v29 v30 v31 v32 v33 v34 v35 v36 v37 v38 v39 v40 v41 v42 v43 v44 v45 v46 v47 v48 v49 v50 v51 v52 v53 v54 v55 v56 v57 v58 v59 v60 v61 v62 v63 v64 v65 v66 v67 v68 v69 v70 v71 v72 v73 v74 v75 v76 v77 v78 v79=>HR.out v7 v8 v9 v10 v11 v12 v13 v14 v15 v16 v22 v23 v24 v25 v26 v27 v28 v29 v30 v31 v32 v33 v34 v35 v36 v37 v38 v39 v40 v41 v42 v43 v44 v45 v46 v47 v48 v49 v50 v51 v52 v53 v54 v55 v56 v57 v58 v59 v60 v61 v62 v63 v64 v65 v66 v67 v68 v69 v70 v71 v72 v73 v74 v75 v76 v77 v78 v79 w1.heap.size kn Dn w' hlt1 hown' hkn' hA' hBw' hs'
  have HF:Hid _:=fin;clear fin HR HB HD hA' hown' hv hsort;go_wp2;exact HF.out _ _ _ _ _ _ _ _ _ _ _ _ _ _ _ _ _ _ _ _ _ _ _ _ _ _ _ _ _ _ _ _ _ _ _ _ _ _ _ _ _ _ _ _ _ _ _ _ _ _ _ _ _ _ _ _ _ _ _ _ _ _ _ _ _ _ _ _
theorem outer171{H:Type}(W:World)(sa:Option Addr)(b0 gb go gcap B n0:Nat)(gs:List (List Int))(D0:DataW H)(u1 u2 u3 u4 u6 u7 u8 u9 u10 u11 u12 u13 u14 u15 u16 u17 u18 u22 u23 u24 u25 u26 u27 u28 u29 u30 u31 u32 u33 u34 u35 u36 u37 u38 u39 u40 u41 u42 u43 u44 u45 u46 u47 u48 u49 u50 u51 u52 u53 u54 u55 u56 u57 u58 u59 u60 u61 u62 u63 u64 u65 u66 u67 u68 u69 u70 u71 u72 u73 u74 u75 u76 u77 u78 u79 u80:Value)(bst:List Int->Nat->Option Int)(ga:Nat->Option Addr)(gc:Nat->Nat)
  (hb:W.ownsMap Tryz.prog 3 (plainElem Tryz.prog 3) b0 n0 D0) (hB:B<=W.heap.size)
  (hcell:∀j (h:j<gs.length),W.cell? ⟨gb,go+j,none⟩=some (.slice (ga j) gs[j].length (gc j))) (hgb:gb<B) (hgl:gs.length<=64) (hlen64:∀j (h:j<gs.length),gs[j].length<=64)
  (hD0:∀m,fD D0 m=outF bst [] m) (hn0:n0<=1) (hb0:B<=b0) (hprod:∀k,prodR (gs.take k).reverse<=1000) (hF:∀k m v,outF bst (gs.take k).reverse m=some v->0<=m/\m<=50/\0<=v/\v<=1000000000000000000)
  (hints:∀j (h:j<gs.length),0<gs[j].length->∃b o,ga j=some ⟨b,o,none⟩/\b<B/\Q0 W b o gs[j])
  (hbest:∀(V:World) (j:Nat) (h:j<gs.length) (oa:Option Addr) (oc k:Nat),Below B W V->V.ownsRow B 3 1 (.slice oa gs[j].length oc) gs[j].length ((j7 gs[j]).map (Value.int .i64))->k<=gs[j].length ->
   Calls Tryz.prog 162 #[.pointer sa,.slice oa gs[j].length oc,.slice none 0 0,.int .i64 k] V λe w'=>∃(pa:Option Addr) (pn pc:Nat) (en:Int) (fd:Bool),e=.returned (.tuple #[.agg #[.slice pa pn pc,.int .i64 en],.bool fd])/\Below V.heap.size V w'/\bst (j7 gs[j]) k=(if fd=true then some en else none)/\0<=en/\en<=1000000000000000000)
  (Q:Exit->Act->World->Prop) (hQ:∀(v21 v7 v8 v9 v10 v11 v12 v13 v14 v15 v16 v22 v23 v24 v25 v26 v27 v28 v29 v30 v31 v32 v33 v34 v35 v36 v37 v38 v39 v40 v41 v42 v43 v44 v45 v46 v47 v48 v49 v50 v51 v52 v53 v54 v55 v56 v57 v58 v59 v60 v61 v62 v63 v64 v65 v66 v67 v68 v69 v70 v71 v72 v73 v74 v75 v76 v77 v78 v79:Value) (b n:Nat) (D:DataW H) (w':World),B<=b->w'.ownsMap Tryz.prog 3 (plainElem Tryz.prog 3) b n D->(∀m,fD D m=outF bst gs.reverse m)->Below B W w'->Q (.exit 0) { tmps:=#[.pointer sa,u1,u2,u3,u4,.map (some b),u6,v7,v8,v9,v10,v11,v12,v13,v14,v15,v16,u17,u18,.slice (some ⟨gb,go,none⟩) gs.length gcap,.int .i64 (gs.length:Int),v21,v22,v23,v24,v25,v26,v27,v28,v29,v30,v31,v32,v33,v34,v35,v36,v37,v38,v39,v40,v41,v42,v43,v44,v45,v46,v47,v48,v49,v50,v51,v52,v53,v54,v55,v56,v57,v58,v59,v60,v61,v62,v63,v64,v65,v66,v67,v68,v69,v70,v71,v72,v73,v74,v75,v76,v77,v78,v79,u80],defers:=[] } w') :
  (Code.loop k171G).wp Tryz.prog Q { tmps:=#[.pointer sa,u1,u2,u3,u4,.map (some b0),u6,u7,u8,u9,u10,u11,u12,u13,u14,u15,u16,u17,u18,.slice (some ⟨gb,go,none⟩) gs.length gcap,.int .i64 (gs.length:Int),.int .i64 0,u22,u23,u24,u25,u26,u27,u28,u29,u30,u31,u32,u33,u34,u35,u36,u37,u38,u39,u40,u41,u42,u43,u44,u45,u46,u47,u48,u49,u50,u51,u52,u53,u54,u55,u56,u57,u58,u59,u60,u61,u62,u63,u64,u65,u66,u67,u68,u69,u70,u71,u72,u73,u74,u75,u76,u77,u78,u79,u80],defers:=[] } W:=by
 have main:∀(m k b n:Nat) (D:DataW H) (kv:Int) (u7 u8 u9 u10 u11 u12 u13 u14 u15 u16 u22 u23 u24 u25 u26 u27 u28 u29 u30 u31 u32 u33 u34 u35 u36 u37 u38 u39 u40 u41 u42 u43 u44 u45 u46 u47 u48 u49 u50 u51 u52 u53 u54 u55 u56 u57 u58 u59 u60 u61 u62 u63 u64 u65 u66 u67 u68 u69 u70 u71 u72 u73 u74 u75 u76 u77 u78 u79:Value) (w:World),kv=k->gs.length - k<m->B<=b->k<=gs.length->w.ownsMap Tryz.prog 3 (plainElem Tryz.prog 3) b n D->n<=prodR (gs.take k).reverse->(∀m,fD D m=outF bst (gs.take k).reverse m)->Below B W w->b<w.heap.size ->
   Code.rounds Tryz.prog k171G Q m { tmps:=#[.pointer sa,u1,u2,u3,u4,.map (some b),u6,u7,u8,u9,u10,u11,u12,u13,u14,u15,u16,u17,u18,.slice (some ⟨gb,go,none⟩) gs.length gcap,.int .i64 (gs.length:Int),.int .i64 kv,u22,u23,u24,u25,u26,u27,u28,u29,u30,u31,u32,u33,u34,u35,u36,u37,u38,u39,u40,u41,u42,u43,u44,u45,u46,u47,u48,u49,u50,u51,u52,u53,u54,u55,u56,u57,u58,u59,u60,u61,u62,u63,u64,u65,u66,u67,u68,u69,u70,u71,u72,u73,u74,u75,u76,u77,u78,u79,u80],defers:=[] } w:=by
  intro m;induction m with
  | zero=>intro k b n D kv u7 u8 u9 u10 u11 u12 u13 u14 u15 u16 u22 u23 u24 u25 u26 u27 u28 u29 u30 u31 u32 u33 u34 u35 u36 u37 u38 u39 u40 u41 u42 u43 u44 u45 u46 u47 u48 u49 u50 u51 u52 u53 u54 u55 u56 u57 u58 u59 u60 u61 u62 u63 u64 u65 u66 u67 u68 u69 u70 u71 u72 u73 u74 u75 u76 u77 u78 u79 w h1 h2;omega
  | succ m ih =>
   intro k b n D kv u7 u8 u9 u10 u11 u12 u13 u14 u15 u16 u22 u23 u24 u25 u26 u27 u28 u29 u30 u31 u32 u33 u34 u35 u36 u37 u38 u39 u40 u41 u42 u43 u44 u45 u46 u47 u48 u49 u50 u51 u52 u53 u54 u55 u56 u57 u58 u59 u60 u61 u62 u63 u64 u65 u66 u67 u68 u69 u70 u71 u72 u73 u74 u75 u76 u77 u78 u79 w hkv hm hbB hk hown hnp hA hBe hbs;subst hkv;rw[rounds_succ];by_cases hkl:k<gs.length
   ·have hws:B<=w.heap.size:=by omega
    refine round171 w sa b gb go gcap k gs.length n (ga k) (gc k) gs[k] D u1 u2 u3 u4 u6 u7 u8 u9 u10 u11 u12 u13 u14 u15 u16 u17 u18 u22 u23 u24 u25 u26 u27 u28 u29 u30 u31 u32 u33 u34 u35 u36 u37 u38 u39 u40 u41 u42 u43 u44 u45 u46 u47 u48 u49 u50 u51 u52 u53 u54 u55 u56 u57 u58 u59 u60 u61 u62 u63 u64 u65 u66 u67 u68 u69 u70 u71 u72 u73 u74 u75 u76 u77 u78 u79 u80 bst hkl hgl (hlen64 k hkl) ((World.cell?_of_block (a:=⟨gb,go+k,none⟩) (hBe.block gb hgb)).trans (hcell k hkl)) ?_ hown hbs ?_ ?_ ?_ _ ?_
    ·exact sortedValues w (ga k) (gc k) gs[k] (by have:=hlen64 k hkl;omega) (λh0=>by
      obtain⟨b1,o1,e1,e2,e3⟩:=hints k hkl h0;exact⟨b1,o1,e1,λj hj=>(World.cell?_of_block (a:=⟨b1,o1+j,none⟩) (hBe.block b1 e2)).trans (e3 j hj)⟩)
    ·intro m v h;rw[hA m] at h;exact hF k m v h
    ·have:=hown.size_le;have:=hprod k;omega
    ·intro V oa oc k1 hBV hv hk1;refine hbest V k hkl oa oc k1 (hBe.trans (hBV.mono hws)) ⟨hv.1,hv.2.imp id ?_⟩ hk1;rintro⟨g',cap,cur,e1,e2,e3,e4⟩;exact⟨g',cap,cur,e1,by omega,e3,e4⟩
    ·intro v7 v8 v9 v10 v11 v12 v13 v14 v15 v16 v22 v23 v24 v25 v26 v27 v28 v29 v30 v31 v32 v33 v34 v35 v36 v37 v38 v39 v40 v41 v42 v43 v44 v45 v46 v47 v48 v49 v50 v51 v52 v53 v54 v55 v56 v57 v58 v59 v60 v61 v62 v63 v64 v65 v66 v67 v68 v69 v70 v71 v72 v73 v74 v75 v76 v77 v78 v79 b1 kn Dn w' hb1 hown' hkn' hA' hB' hs';have et:(gs.take (k+1)).reverse=gs[k] :: (gs.take k).reverse:=by rw[List.take_succ,List.getElem?_eq_getElem hkl];simp
     refine ih (k+1) b1 kn Dn _ v7 v8 v9 v10 v11 v12 v13 v14 v15 v16 v22 v23 v24 v25 v26 v27 v28 v29 v30 v31 v32 v33 v34 v35 v36 v37 v38 v39 v40 v41 v42 v43 v44 v45 v46 v47 v48 v49 v50 v51 v52 v53 v54 v55 v56 v57 v58 v59 v60 v61 v62 v63 v64 v65 v66 v67 v68 v69 v70 v71 v72 v73 v74 v75 v76 v77 v78 v79 w' (by omega) (by omega) (by omega) (by omega) hown' ?_ (λm=>?_) (hBe.trans (hB'.mono hws)) hs'
     ·rw[et];exact Nat.le_trans hkn' (Nat.mul_le_mul (Nat.le_refl _) (Nat.le_trans hown.size_le hnp))
     ·rw[et,hA' m];show midF (fD D) _ _ _=midF (outF bst (gs.take k).reverse) _ _ _;rw[show fD D=outF bst (gs.take k).reverse from funext hA]
   ·have hke:k=gs.length:=by omega
    subst hke;rw[List.take_length] at hA;exact last171 w sa b gb go gcap gs.length u1 u2 u3 u4 u6 u7 u8 u9 u10 u11 u12 u13 u14 u15 u16 u17 u18 u22 u23 u24 u25 u26 u27 u28 u29 u30 u31 u32 u33 u34 u35 u36 u37 u38 u39 u40 u41 u42 u43 u44 u45 u46 u47 u48 u49 u50 u51 u52 u53 u54 u55 u56 u57 u58 u59 u60 u61 u62 u63 u64 u65 u66 u67 u68 u69 u70 u71 u72 u73 u74 u75 u76 u77 u78 u79 u80 _ (λv22=>hQ _ _ _ _ _ _ _ _ _ _ _ _ _ _ _ _ _ _ _ _ _ _ _ _ _ _ _ _ _ _ _ _ _ _ _ _ _ _ _ _ _ _ _ _ _ _ _ _ _ _ _ _ _ _ _ _ _ _ _ _ _ _ _ _ _ _ _ _ _ b n D w hbB hown hA hBe)
 exact wp_loop_rounds (gs.length+1) (main (gs.length+1) 0 b0 n0 D0 0 u7 u8 u9 u10 u11 u12 u13 u14 u15 u16 u22 u23 u24 u25 u26 u27 u28 u29 u30 u31 u32 u33 u34 u35 u36 u37 u38 u39 u40 u41 u42 u43 u44 u45 u46 u47 u48 u49 u50 u51 u52 u53 u54 u55 u56 u57 u58 u59 u60 u61 u62 u63 u64 u65 u66 u67 u68 u69 u70 u71 u72 u73 u74 u75 u76 u77 u78 u79 W rfl (by omega) hb0 (Nat.zero_le _) hb hn0 hD0 (Below.refl _ _) hb.lt)
end Go.Am
namespace Go.Am
open Go.Proofs
open Go
variable[OO]
def S159_0a(v0:List DV)(v1:Int):St :=
 stOf 26 [(11,(.d (.agg 3 v0))),(12,(.d (eI v1)))] []
noncomputable def zBD(v0:List DV)(v1:Int):Option CR:=goQ 159 0 (S159_0a v0 v1)
def S159_1a(v0:List DV)(v1:Int)(v2:List DV)(v3:Int):St :=
 stOf 26 [(11,(.d (.agg 3 v0))),(12,(.d (eI v1))),(15,(.d (.agg 2 v2))),(16,(.d (eI v3)))] []
noncomputable def L159_1a(v0:List DV)(v1:Int)(v2:List DV)(v3:Int):Option CR:=goQ 159 1 (S159_1a v0 v1 v2 v3)
theorem L159_0a_eq(v0:List DV)(v1:Int):zBD v0 v1 =
 ifO (decide (v1<(8:Int)))
 (ifO (decide ((0:Int)<=v1))
 (ifO (isAg 3 (Int.toNat v1) (.agg 3 v0))
 (ifO (hasT EE 6 30 (nth v0 (Int.toNat v1)))
 ((L159_1a v0 v1 (flds (nth v0 (Int.toNat v1))) (0:Int)))
 (none))
 (none))
 (none))
 (some (.val (eI 0))) :=
 (zU 159 0 _).trans (by kernel_rfl)
theorem L159_1a_eq(v0:List DV)(v1:Int)(v2:List DV)(v3:Int):L159_1a v0 v1 v2 v3 =
 ifO (decide (v3<(51:Int)))
 (ifO (decide ((0:Int)<=v3))
 (ifO (isAg 2 (Int.toNat v3) (.agg 2 v2))
 (ifO (hasT EE 6 3 (nth v2 (Int.toNat v3)))
 (zC (zA 225 [(eI (getI (nth v2 (Int.toNat v3)))),(eI 0),(eI 40000)])
 (λr0=>ifO (hasT EE 6 46 r0)
 (ifO (bne (getI r0) 0)
 (some (.val (eI (getI r0))))
 ((L159_1a v0 v1 v2 (IntKind.wrap .i64 (v3+(1:Int))))))
 (none))
 (λ_ _=>none))
 (none))
 (none))
 (none))
 ((zBD v0 (IntKind.wrap .i64 (v1+(1:Int))))) :=
 (zU 159 1 _).trans (by kernel_rfl)
theorem C159(x0:DV):zA 159 [x0] =
 ifO (zP (hasT EE 6) [45] [x0])
 (ifO (Option.isSome (eqOp EE 45 (.agg 3 (flds x0)) (.agg 3 (List.replicate (α:=DV) 8 (.agg 2 (List.replicate (α:=DV) 51 (eI 0)))))))
 (ifO (ifO.match_1 (λy814=>Bool) false (λy767=>(!(Option.getD (eqOp EE 45 (.agg 3 (flds x0)) (.agg 3 (List.replicate (α:=DV) 8 (.agg 2 (List.replicate (α:=DV) 51 (eI 0)))))) false))) (λy894=>(Option.getD (eqOp EE 45 (.agg 3 (flds x0)) (.agg 3 (List.replicate (α:=DV) 8 (.agg 2 (List.replicate (α:=DV) 51 (eI 0)))))) false)))
 (some (.val (eI 0)))
 ((zBD (flds x0) (0:Int))))
 (none))
 (none) :=
 (zE (f:=159) (by kernel_rfl) (by kernel_rfl) (by kernel_rfl) [x0]).trans (by kernel_rfl)
end Go.Am
namespace Go.Am
open Go.Proofs
open Go
class KnW[OO]:Prop where
 wakes:∀(w:Wk) (ps:List Pt) (sec:Int) (st:Pt),w.w.length=w.d.length->w.d.length<=32->ps.length<=64->(∀p∈ps,okPt p)->zAp st ->
  zA 200 [eWk w,.sl 2 (ps.map ePt),eWd sec st]=some (.val (.sl 1 ((wakesP w ps sec st).map λr=>.sl 1 (r.map eI))))
variable[OO]
theorem cn25(x:List DV):cnE EE 25 (.sl 1 x)=.sl 1 x:=by kernel_rfl
theorem zA8(l:List (List Int)):(l.map λr=>DV.sl 1 (r.map eI)).map (cnE EE 25)=l.map λr=>.sl 1 (r.map eI):=by rw[List.map_map];exact List.map_congr_left λr _=>cn25 _
theorem wakeE_ok{w:Wk}(h:wakeE w=0):okWk w/\jD w.rule=true:=by
 unfold wakeE at h;split at h
 ·rename_i hh;obtain⟨h1,h2,h3,h4⟩:=wakeH_facts hh;split at h
  ·rename_i hd;have key:∀(l:List Int) (prev:Option Int),jC 256 false prev l=0->∀d∈l,0<=d/\d<=256:=by
    intro l;induction l with
    | nil=>intro _ _ d hd;simp at hd
    | cons x r ih =>
     intro prev hl d hd;unfold jC at hl;split at hl
     ·rename_i h0;rcases List.mem_cons.1 hd with rfl | hd
      ·unfold zq at h0;exact range_zero.1 (zy h0).1
      ·exact ih _ hl d hd
     ·rename_i h0;exact absurd hl h0
   exact⟨⟨key _ _ hd,h4,by omega⟩,h1⟩
  ·rename_i hd;exact absurd h hd
 ·rename_i hh;exact absurd h hh
theorem c153[KnW](w:Wk)(ps:List Pt)(sec:Int)(st:Pt)(hw:okWk w)(hk:jD w.rule=true)(hl:ps.length<=64)(hp:∀p∈ps,okPt p)(hs:zAp st) :
  zA 153 [eWk w,.sl 2 (ps.map ePt),eWd sec st]=some (.val (.sl 1 ((jS w ps sec st).map eI))):=by
 have hwk:=KnW.wakes w ps sec st hw.2.1 hw.2.2 hl hp hs;have hb:=wakesP_bound hw ps sec st;have h236:=c236 237 [] [.dp (.fn (if w.rule=rG then 262 else if w.rule=rS then 264 else 231) [] [])] (λl=>capI (YI w.rule l)) (wakesP w ps sec st) (by simp[wakesP];omega)
  λx hx=>(show zA 237 (z1 EE 237 [.sl 1 (x.map eI),.dp (.fn (if w.rule=rG then 262 else if w.rule=rS then 264 else 231) [] [])])=zA 237 [.sl 1 (x.map eI),.dp (.fn (if w.rule=rG then 262 else if w.rule=rS then 264 else 231) [] [])] from congrArg (zA 237) (by kernel_rfl)).trans
   (c237 w.rule hk _ rfl x (by rw[(hb x hx).1];omega) (hb x hx).2)
 rw[C153];simp only[zK,zM,h59,h81,h251,Bool.and_self,zB,zR,zS,zW,zb,zX,zF,zQ,C198,zH,h314,keys_mp,vals_mp];rw[find_rule w.rule hk];simp only[Option.isSome_some,Option.getD_some,zB,h312,hwk,zH,h95,zQ,zA8,zR,zS,Yk,QR,QQ,h236,h25];rfl
def js(cut:Int):Option Int->List Int->Int
 | _,[]=>zV cut 1 51
 | prev,p :: r=>if jH prev p=0 then js cut (some p) r else jH prev p
theorem qv(cut:Int):∀(prev:Option Int) (l:List Int),js cut prev l=if Jx prev l=0 then zV cut 1 51 else Jx prev l
 | _,[]=>rfl
 | prev,p :: r=>by
  unfold js Jx;by_cases h:jH prev p=0
  ·simp only[h,if_true];exact qv cut (some p) r
  ·simp only[h,if_false]
theorem l114(l:List Int)(cut:Int)(hl:l.length<=1000):∀i,i<=l.length->qj (l.map eI) l.length i cut=some (.val (eI (js cut (if i=0 then none else some (l.getD (i - 1) 0)) (l.drop i)))):=by
 apply down
 ·rw[L114_0a_eq];simp[js]
 ·intro i hi ih;have e1:(i:Int)<l.length:=by omega
  have hgi:l.getD i 0=l[i]:=by rw[List.getD_eq_getElem?_getD,List.getElem?_eq_getElem hi];rfl
  rw[if_neg (by omega:¬i+1=0),Nat.add_sub_cancel,hgi] at ih
  have ih2:qj (l.map eI) l.length (IntKind.i64.wrap ((i:Int)+1)) cut=some (.val (eI (js cut (some l[i]) (l.drop (i+1))))):=by rw[wr ((i:Int)+1) (by omega)];exact_mod_cast ih
  rw[L114_0a_eq,zT l i hi];have hn:=zI eI l i hi;have e7:(0:Int)<=(i:Int):=by omega
  simp only[zG,zw,zf];simp only[List.length_map,e1,e7,if_true,and_self,Int.toNat_natCast,hn,h3,ih2,zB,zF,c149,zH,h46];by_cases hz:i=0
  ·subst hz;have e2:(if bne l[0] 0=true then (6:Int) else 0)=if l[0]=0 then 0 else 6:=by by_cases h:l[0]=0 <;> simp[h]
   simp only[Int.natCast_zero,gt_iff_lt,Int.lt_irrefl,if_false,if_true,c169,zH,h46,zB,zF,c148_3,e2,Bool.false_eq_true];rw[js];show _=some (CR.val (eI (if zL [zV l[0] 0 100000,0,if l[0]=0 then 0 else 6]=0 then js cut (some l[0]) (l.drop (0+1)) else zL [zV l[0] 0 100000,0,if l[0]=0 then 0 else 6])))
   by_cases hX:zL [zV l[0] 0 100000,0,if l[0]=0 then 0 else 6]=0
   ·refine(if_pos hX).trans ?_;rw[if_pos hX]
   ·refine(if_neg hX).trans ?_;rw[if_neg hX]
  ·obtain⟨k,rfl⟩:∃k,i=k+1:=⟨i - 1,by omega⟩
   have hk:k<l.length:=by omega
   have hgk:l.getD k 0=l[k]:=by rw[List.getD_eq_getElem?_getD,List.getElem?_eq_getElem hk];rfl
   have hnk:=zI eI l k hk;have e3:IntKind.i64.wrap (((k+1:Nat):Int) - 1)=k:=by rw[wr _ (by omega)];omega
   have e4:(if (k:Int)>0 then (k:Int) else 0)=k:=by split <;> omega
   have e5:((k+1:Nat):Int)>0:=by omega
   have e6:¬((k+1:Nat):Int)=0:=by omega
   have e8:(0:Int)<=(k:Int)/\(k:Int)<l.length:=by omega
   simp only[e3,e4,e5,e6,e8,if_true,if_false,and_self,Int.toNat_natCast,hnk,h3,zB,zF,c169,zH,h46,c148_3,Bool.false_eq_true,decide_eq_true_eq];rw[js];simp only[Nat.add_sub_cancel,hgk,Nat.add_eq_zero_iff,Nat.one_ne_zero,and_false,if_false,jH];by_cases hX:zL [zV l[k+1] 0 100000,if l[k+1]<l[k] then 11 else 0,0]=0
   ·refine(if_pos hX).trans ?_;rw[if_pos hX]
   ·refine(if_neg hX).trans ?_;rw[if_neg hX]
theorem c114(c:Cu):zA 114 [eCu c]=some (.val (eI (Jn c))):=by
 rw[C114];simp only[zG];simp only[zK,zM,h60,Bool.and_self,zB,zR,zS,zW,zQ,zF,List.length_map];unfold Jn;by_cases h1:(c.p.length:Int)<2
 ·simp[h1]
 ·by_cases h2:(c.p.length:Int)>51
  ·simp[h1,h2]
  ·rw[if_neg h1,if_neg h2,if_neg h1,if_neg h2,<-qv];have:=l114 c.p c.cut (by omega) 0 (Nat.zero_le _)
   simpa using this
theorem Yq(q:Int)(r:List Int):JP (q :: r)=if zV q 0 40000=0 then JP r else 3:=rfl
theorem Qi(q:List Int)(r:List (List Int)):Yf (q :: r)=if JP q=0 then Yf r else 3:=rfl
theorem eqInt(n:Nat)(a b:Int):eqT EE (n+1) 3 (eI a) (eI b)=some (a == b):=by kernel_rfl
theorem eqInts(n:Nat):∀(m:Nat) (xs ys:List Int),xs.length=m->ys.length=m->eqLs (eqT EE (n+1)) (List.replicate m 3) (xs.map eI) (ys.map eI)=some (decide (xs=ys))
 | 0,xs,ys,h1,h2=>by
  obtain rfl:=List.length_eq_zero_iff.1 h1;obtain rfl:=List.length_eq_zero_iff.1 h2;rfl
 | m+1,[],_,h,_=>by simp at h
 | m+1,_ :: _,[],_,h=>by simp at h
 | m+1,x :: xs,y :: ys,h1,h2=>by simp only[List.length_cons,Nat.add_right_cancel_iff] at h1 h2;simp only[List.replicate_succ,List.map_cons,eqLs,eqInt,zN,eqInts n m xs ys h1 h2];by_cases h:x=y <;> simp[h]
theorem eqRow(row:List Int)(h:row.length=51)(ys:List Int)(hy:ys.length=51):eqOp EE 30 (.agg 2 (row.map eI)) (.agg 2 (ys.map eI))=some (decide (row=ys)) :=
 (show eqOp EE 30 (.agg 2 (row.map eI)) (.agg 2 (ys.map eI))=eqLs (eqT EE 9) (List.replicate 51 3) (row.map eI) (ys.map eI) by kernel_rfl).trans (eqInts 8 51 row ys h hy)
theorem eqRow'(row:List Int)(h:row.length=51)(ys:List Int)(hy:ys.length=51):eqT EE 9 30 (eRow row) (eRow ys)=some (decide (row=ys)) :=
 (show eqT EE 9 30 (.agg 2 (row.map eI)) (.agg 2 (ys.map eI))=eqLs (eqT EE 8) (List.replicate 51 3) (row.map eI) (ys.map eI) by kernel_rfl).trans (eqInts 7 51 row ys h hy)
theorem eqRows:∀(m:Nat) (xs ys:List (List Int)),xs.length=m->ys.length=m->(∀r∈xs,r.length=51)->(∀r∈ys,r.length=51)->eqLs (eqT EE 9) (List.replicate m 30) (xs.map eRow) (ys.map eRow)=some (decide (xs=ys))
 | 0,xs,ys,h1,h2,_,_=>by
  obtain rfl:=List.length_eq_zero_iff.1 h1;obtain rfl:=List.length_eq_zero_iff.1 h2;rfl
 | m+1,[],_,h,_,_,_=>by simp at h
 | m+1,_ :: _,[],_,h,_,_=>by simp at h
 | m+1,x :: xs,y :: ys,h1,h2,h3,h4=>by
  simp only[List.length_cons,Nat.add_right_cancel_iff] at h1 h2;simp only[List.replicate_succ,List.map_cons,eqLs];rw[eqRow' x (h3 x (by simp)) y (h4 y (by simp)),eqRows m xs ys h1 h2 (λr hr=>h3 r (by simp[hr])) (λr hr=>h4 r (by simp[hr]))]
  by_cases h:x=y <;> simp[h]
theorem eqRose(xs ys:List (List Int))(h1:zm xs)(h2:zm ys):eqOp EE 45 (eRo xs) (eRo ys)=some (decide (xs=ys)) :=
 (show eqOp EE 45 (.agg 3 (xs.map eRow)) (.agg 3 (ys.map eRow))=eqLs (eqT EE 9) (List.replicate 8 30) (xs.map eRow) (ys.map eRow) by kernel_rfl).trans (eqRows 8 xs ys h1.1 h2.1 h1.2 h2.2)
def z51:List Int:=List.replicate 51 0
def zRose:List (List Int):=List.replicate 8 z51
theorem zRose_ok:zm zRose:=⟨rfl,λr hr=>by rw[List.eq_of_mem_replicate hr];rfl⟩
theorem jQ{α:Type}(t i:Nat)(f:α->DV)(l:List α)(h:i<l.length):isAg t i (.agg t (l.map f))=true:=by simp[isAg,h]
theorem h30r(row:List Int)(h:row.length=51):hasT EE 6 30 (eRow row)=true:=by rw[h30];simp[h]
theorem l159_1(r:List (List Int))(row:List Int)(s:Int)(hrow:row.length=51):∀k,k<=row.length->L159_1a (r.map eRow) s (row.map eI) k=if JP (row.drop k)=0 then zBD (r.map eRow) (IntKind.i64.wrap (s+1)) else some (.val (eI 3)):=by
 apply down
 ·rw[L159_1a_eq];simp only[zG];rw[if_neg (by omega)]
  simp[JP]
 ·intro k hk ih;have e1:(k:Int)<51:=by omega
  have e0:(0:Int)<=(k:Int):=by omega
  rw[L159_1a_eq,zT row k hk];simp only[zG,zf];rw[if_pos e1,if_pos e0];simp only[Int.toNat_natCast,jQ _ _ _ _ hk,zB,zI _ row k hk,h3,zF,c225,zH,h46];rw[wr ((k:Int)+1) (by omega),show((k:Int)+1)=((k+1:Nat):Int) by omega,ih]
  rw[Yq];rcases zAU row[k] 0 40000 with hr | hr
  ·simp[hr]
  ·simp[hr]
theorem l159_0(r:List (List Int))(h:zm r):∀s,s<=r.length->zBD (r.map eRow) s=some (.val (eI (Yf (r.drop s)))):=by
 apply down
 ·rw[L159_0a_eq];have:=h.1;simp only[zG];rw[if_neg (by omega)]
  simp[Yf]
 ·intro s hs ih;have hl:=h.1;have hrow:=h.2 r[s] (List.getElem_mem hs);have e1:(s:Int)<8:=by omega
  have e0:(0:Int)<=(s:Int):=by omega
  rw[L159_0a_eq,zT r s hs];simp only[zG];rw[if_pos e1,if_pos e0];simp only[Int.toNat_natCast,jQ _ _ _ _ hs,zB,zI _ r s hs,h30r _ hrow,zR];have:=l159_1 r r[s] s hrow 0 (Nat.zero_le _);rw[show((0:Nat):Int)=0 from rfl] at this
  rw[this,wr ((s:Int)+1) (by omega),show((s:Int)+1)=((s+1:Nat):Int) by omega,ih,List.drop_zero]
  rw[Qi];split <;> simp_all
theorem c159(r:List (List Int))(h:zm r):zA 159 [eRo r]=some (.val (eI (Yf r))):=by
 rw[C159];simp only[zK,zM,h45,List.length_map,h.1,decide_true,Bool.and_self,zB,zR];have he:=eqRose r zRose h zRose_ok;have hz:eRo zRose=.agg 3 (List.replicate 8 (.agg 2 (List.replicate 51 (eI 0)))):=rfl;rw[hz] at he;refine(congrArg (λo:Option Bool=>ifO (Option.isSome o) (ifO (Option.getD o false) (some (.val (eI 0))) (zBD (r.map eRow) 0)) none) he).trans ?_
 by_cases hr:r=zRose
 ·subst hr;simp only[decide_true,Option.isSome_some,Option.getD_some,zB];rfl
 ·simp only[hr,decide_false,Option.isSome_some,Option.getD_some,zB,za];have:=l159_0 r h 0 (Nat.zero_le _);simpa using this
theorem hFm(f:Fm)(h:zm f.r):hasT EE 6 62 (eFm f)=true:=by rw[h62];simp[h.1]
theorem c40(f:Fm)(h:zm f.r):zA 40 [eFm f]=some (.val (eI (jM f))):=by rw[C40];simp only[zK,zM,hFm f h,Bool.and_self,zB,zR,zS,zW,zb,ze,zX,zF,zQ];simp only[c158,c75,c114,c159 f.r h,zH,h46,zB,zF,c148_4];rfl
end Go.Am
namespace Go.Am
open Go.Proofs
open Go
variable[OO]
abbrev eMd(w:Wk)(c:Cu)(r:List (List Int)):DV:=.agg 13 [eWk w,eCu c,eRo r]
theorem bne0{x:Int}(h:x=0):bne x 0=false:=by simp[h]
theorem b00:bne (0:Int) 0=false:=rfl
theorem bne1{x:Int}(h:¬x=0):bne x 0=true:=by simpa[bne] using h
theorem m1(a b:Unit->Bool):ifO.match_1 (λ_=>Bool) false a b=b ():=rfl
structure Valid(W:Wk)(C:Cu)(R:List (List Int))(P:List Pt):Prop where
 w:okWk W
 k:jD W.rule=true
 c:okCu C
 r:zm R
 q:okQ R
 l:P.length<=64
 p:∀p∈P,okPt p
theorem smallS(n:Int):zAp (zO n):=jX n
section
variable[KnW]{w:Wk}{c:Cu}{r:List (List Int)}{ps:List Pt}
theorem l145_1(h:Valid w c r ps)(above:Int)(ha:0<=above/\above<=1)(sec:Nat)(hsec:sec<8)(row:List Int)(hrow:row.length=51)(hq:∀q∈row,0<=q/\q<=40000) :
  ∀k,k<=row.length->∀n:Int,0<=n->n<=(sec * 51+k) * 65536000000000 ->
   qh (ps.map ePt) above n ((jS w ps sec (zO sec)).map eI) (r.map eRow) sec (row.map eI) k w.rule (w.d.map eI) (w.w.map eI) (c.p.map eI) c.cut =
   qi (ps.map ePt) above (n+rowE w c ps above sec k (row.drop k)) (r.map eRow) (IntKind.i64.wrap ((sec:Int)+1)) w.rule (w.d.map eI) (w.w.map eI) (c.p.map eI) c.cut:=by
 apply down (P:=λk=>∀n:Int,0<=n->n<=(sec * 51+k) * 65536000000000 ->
   qh (ps.map ePt) above n ((jS w ps sec (zO sec)).map eI) (r.map eRow) sec (row.map eI) k w.rule (w.d.map eI) (w.w.map eI) (c.p.map eI) c.cut =
   qi (ps.map ePt) above (n+rowE w c ps above sec k (row.drop k)) (r.map eRow) (IntKind.i64.wrap ((sec:Int)+1)) w.rule (w.d.map eI) (w.w.map eI) (c.p.map eI) c.cut)
 ·intro n _ _;rw[L145_1a_eq];simp only[zG];rw[if_neg (by omega)]
  simp[rowE]
 ·intro k hk ih n h0 h1;have e1:(k:Int)<51:=by omega
  have e0:(0:Int)<=(k:Int):=by omega
  have hqk:=hq row[k] (List.getElem_mem hk);have hcb:=jZ h.w ps sec (zO sec);have hcl:=jO w ps sec (zO sec);have h152:=c152 (jS w ps sec (zO sec)) ((k:Int)+above) (by rw[hcl];have:=h.l;omega) (by omega) hcb
  have hsb:=YZ hcb (v:=(k:Int)+above) (b:=51) (by omega) (by omega)
  have hsl:(zr (jS w ps sec (zO sec)) ((k:Int)+above)).length=ps.length:=by simp[zr,hcl]
  have h151:=c151v c h.c (zr (jS w ps sec (zO sec)) ((k:Int)+above)) (by rw[hsl];have:=h.l;omega) (λx hx=>by have:=hsb x hx;omega)
  have hpb:=Y4 h.c.2.2.1 w ps sec k above;have h231:=c231 (powP w c ps sec k above) (by rw[QI];have:=h.l;omega) (λx hx=>by have:=hpb x hx;omega)
  have hsum:=zAT h.c.2.2.1 w h.l sec k above;have hce:=Yd h.c.2.2.1 w h.l above sec k hqk;have hpow:(zr (jS w ps sec (zO sec)) ((k:Int)+above)).map (valP c)=powP w c ps sec k above:=rfl;rw[hpow] at h151;have ih':=ih (n+YA w c ps above sec k row[k]) (by omega) (by simp only[Int.natCast_add,Int.natCast_one];omega)
  rw[L145_1a_eq,zT row k hk,rowE];simp only[zG];rw[if_pos e1,if_pos e0];simp only[Int.toNat_natCast,jQ _ _ _ _ hk,zB,zI _ row k hk,h3,zF];rw[wr ((k:Int)+above) (by omega),h152,wr ((k:Int)+1) (by omega)]
  simp only[zH,h25,zB,zQ,h151,h231,h3,zF];have e2:((k:Int)+1)=((k+1:Nat):Int):=by omega
  by_cases c1:row[k]>0
  ·by_cases c2:(k:Int)<c.cut
   ·have hv:YA w c ps above sec k row[k]=row[k] * sumI (powP w c ps sec k above):=if_pos ⟨c1,c2⟩;rw[hv] at hce ih' ⊢;rw[if_pos c1,if_pos c2,wr (row[k] * _) (by omega),wr (n+_) (by omega),e2,ih',Int.add_assoc]
   ·have hv:YA w c ps above sec k row[k]=0:=if_neg (λhh=>c2 hh.2)
    rw[hv] at hce ih' ⊢;rw[if_pos c1,if_neg c2,e2];rw[Int.add_zero] at ih';rw[ih',Int.zero_add]
  ·have hv:YA w c ps above sec k row[k]=0:=if_neg (λhh=>c1 hh.1)
   rw[hv] at hce ih' ⊢;rw[if_neg c1,e2];rw[Int.add_zero] at ih';rw[ih',Int.zero_add]
theorem l145_0(h:Valid w c r ps)(above:Int)(ha:0<=above/\above<=1):∀s,s<=r.length->∀n:Int,0<=n->n<=(s * 51:Int) * 65536000000000 ->
  qi (ps.map ePt) above n (r.map eRow) s w.rule (w.d.map eI) (w.w.map eI) (c.p.map eI) c.cut=some (.val (eI (n+enE w c ps above s (r.drop s)))):=by
 apply down (P:=λs=>∀n:Int,0<=n->n<=(s * 51:Int) * 65536000000000 ->
  qi (ps.map ePt) above n (r.map eRow) s w.rule (w.d.map eI) (w.w.map eI) (c.p.map eI) c.cut=some (.val (eI (n+enE w c ps above s (r.drop s)))))
 ·intro n _ _;have:=h.r.1;rw[L145_0a_eq];simp only[zG];rw[if_neg (by omega)]
  simp[enE]
 ·intro s hs ih n h0 h1;have hl:=h.r.1;have hrow:=h.r.2 r[s] (List.getElem_mem hs);have hq:=h.q r[s] (List.getElem_mem hs);have e1:(s:Int)<8:=by omega
  have e0:(0:Int)<=(s:Int):=by omega
  have hr0:zV (s:Int) 0 7=0:=range_zero.2 (by omega)
  have h153:=c153 w ps s (zO s) h.w h.k h.l h.p (smallS s);have hre:=YN h.c.2.2.1 w h.l above s r[s] 0 hq;rw[hrow] at hre;have ih':=ih (n+rowE w c ps above s 0 r[s]) (by omega) (by simp only[Int.natCast_add,Int.natCast_one];omega)
  have e2:((s:Int)+1)=((s+1:Nat):Int):=by omega
  have hz:(List.replicate 51 (eI 0))=z51.map eI:=rfl;have he:=eqRow r[s] hrow z51 rfl;have key:qh (ps.map ePt) above n ((jS w ps s (zO s)).map eI) (r.map eRow) s (r[s].map eI) (0:Int) w.rule (w.d.map eI) (w.w.map eI) (c.p.map eI) c.cut=some (.val (eI (n+(rowE w c ps above s 0 r[s]+enE w c ps above (s+1) (r.drop (s+1)))))):=by
   have k1:=l145_1 h above ha s (by omega) r[s] hrow hq 0 (Nat.zero_le _) n h0 (by omega)
   rw[show((0:Nat):Int)=0 from rfl,List.drop_zero] at k1
   rw[k1,wr ((s:Int)+1) (by omega),e2,ih',Int.add_assoc]
  rw[L145_0a_eq,zT r s hs,enE];simp only[zG];rw[if_pos e1,if_pos e0];simp only[Int.toNat_natCast,jQ _ _ _ _ hs,zB,zI _ r s hs,h30r _ hrow,zR,m1];rw[C230];simp only[zH];have hr':hasT EE 6 30 (eRow z51)=true:=h30r z51 rfl;refine(congrArg (λb=>ifO b (ifO (Option.isSome (eqOp EE 30 (.agg 2 (r[s].map eI)) (eRow z51))) (ifO (Option.getD (eqOp EE 30 (.agg 2 (r[s].map eI)) (eRow z51)) false) _ _) none) none) hr').trans ?_
  rw[he,show zA 147 [eI (s:Int)]=some (.val (.tup [eWd s (zO s),eI 0])) by rw[c147,if_pos hr0,hr0]]
  simp only[Option.isSome_some,Option.getD_some,zB,zH,jA,jI,zK,zM,h251,h46,Bool.and_self,zS,zW,zR,zF,h153,h25,zQ];by_cases hz':r[s]=z51
  ·have h0':=rowE_zero w c ps above s r[s] 0 (λq hq=>by rw[hz'] at hq;exact List.eq_of_mem_replicate hq)
   rw[h0',Int.add_zero] at ih';rw[h0',Int.zero_add];simp only[decide_eq_true hz',zB];rw[wr ((s:Int)+1) (by omega),e2,ih']
  ·simp only[hz',decide_false,za];exact key
theorem c145(h:Valid w c r ps)(above:Int)(ha:0<=above/\above<=1):zA 145 [eMd w c r,.sl 2 (ps.map ePt),eI above]=some (.val (eI (jN w c r ps above))):=by
 rw[C145];simp only[zK,zM,h246,h81,h3,List.length_map,h.r.1,decide_true,Bool.and_self,zB,zR,zS,zW,zb,zX,zF,zQ];have:=l145_0 h above ha 0 (Nat.zero_le _) 0 (by omega) (by omega)
 rw[Int.zero_add,List.drop_zero] at this;exact this
end
theorem JG{f:Fm}(h:jM f=0)(hr:zm f.r):Valid f.w f.c f.r (psOf f.s)/\z8 f.s=0:=by
 obtain⟨h1,h2,h3,h4⟩:=firstL_4 h;obtain⟨hok,_,_,_,hl⟩:=Jq h1;exact⟨⟨(wakeE_ok h2).1,(wakeE_ok h2).2,(qw h3).1,hr,roseE_ok h4,by simpa[psOf] using hl,λp hp=>by
  obtain⟨t,ht,rfl⟩:=List.mem_map.1 hp;exact(hok t ht).1⟩,h1⟩
theorem zn(s:Si):(psOf s).length=s.tb.length:=by simp[psOf]
theorem hMd(w:Wk)(c:Cu)(r:List (List Int))(h:zm r):hasT EE 6 246 (eMd w c r)=true:=by rw[h246];simp[h.1]
theorem c144(f:Fm)(h:zm f.r):zA 144 [eFm f]=some (.val (eMd f.w f.c f.r)):=by rw[C144];simp only[zK,zM,hFm f h,Bool.and_self,zB,zR,zS,zW,zb,ze,zX,zF,zQ]
theorem c202(w:Wk)(c:Cu)(r:List (List Int))(h:zm r):zA 202 [eMd w c r]=some (.val (eMd wkFree c r)):=by rw[C202];simp only[zK,zM,hMd w c r h,Bool.and_self,zB,zR,zS,zW,zb,ze,zX,zF,zQ];rfl
section
variable[KnW](f:Fm)(h:zm f.r)
include h
def enF(f:Fm)(above:Int):Int:=if jM f=0 then jN f.w f.c f.r (psOf f.s) above else 0
def jz(f:Fm):Int:=if jM f=0 then jN wkFree f.c f.r (psOf f.s) 0 else 0
theorem c30:zA 30 [eFm f]=some (.val (.tup [eI (enF f 0),eI (jM f)])):=by
 rw[C30];simp only[zK,zM,hFm f h,Bool.and_self,zB,zR,zS,zW,zb,ze,zX,zF,zQ];simp only[c40 f h,zH,h46,zB,zF];unfold enF;by_cases h0:jM f=0
 ·obtain⟨hv,hs⟩:=JG h0 h;have hl:=hv.l;rw[zn] at hl;rw[if_pos h0];simp only[b00,bne0 h0,za,if_true,c144 f h,zH,hMd _ _ _ h,zB,c146 f.s (by omega),h81,zQ,zR,zS,zW,zb,zX,zF,c145 hv 0 (by omega),h3,h0]
 ·rw[if_neg h0];simp only[bne1 h0,zB]
theorem c84:zA 84 [eFm f]=some (.val (.tup [eI (jz f),eI (jM f)])):=by
 rw[C84];simp only[zK,zM,hFm f h,Bool.and_self,zB,zR,zS,zW,zb,ze,zX,zF,zQ];simp only[c40 f h,zH,h46,zB,zF];unfold jz;by_cases h0:jM f=0
 ·obtain⟨hv,hs⟩:=JG h0 h;have hl:=hv.l;rw[zn] at hl;have hv':Valid wkFree f.c f.r (psOf f.s):=⟨⟨λd hd=>by simp[wkFree] at hd;omega,rfl,by simp[wkFree]⟩,by decide,hv.c,hv.r,hv.q,hv.l,hv.p⟩
  rw[if_pos h0];simp only[b00,bne0 h0,za,if_true,c144 f h,zH,hMd _ _ _ h,zB,c202 _ _ _ h,c146 f.s (by omega),h81,zQ,zR,zS,zW,zb,zX,zF,c145 hv' 0 (by omega),h3,h0]
 ·rw[if_neg h0];simp only[bne1 h0,zB]
end
theorem c106(c:Cu)(v:Int):zA 106 [eCu c,eI v]=some (.val (.tup [eI (if zL [Jn c,zV v 0 13056]=0 then valP c v else 0),eI (zL [Jn c,zV v 0 13056])])):=by
 rw[C106];simp only[zK,zM,h60,h3,Bool.and_self,zB,zR,zS,zW,zF,zQ,c114,zH,h46,c149,qY];by_cases h0:zL [Jn c,zV v 0 13056]=0
 ·have h1:=zy h0;have h2:=range_zero.1 (zy h1.2).1;rw[if_pos h0];simp only[b00,bne0 h0,za,if_true,valP_prog c (qw h1.1).1 v h2.1 h2.2,zH,h3,zB,zF,h0]
 ·rw[if_neg h0];simp only[bne1 h0,zB]
def chk3(s:Si)(w:Wk)(sec:Int):Int:=zL [z8 s,wakeE w,zV sec 0 7]
theorem chk3_eq(s:Si)(w:Wk)(sec:Int):chk3 s w sec=if zL [z8 s,wakeE w]=0 then zV sec 0 7 else zL [z8 s,wakeE w]:=by
 unfold chk3 zL;by_cases h1:z8 s=0
 ·by_cases h2:wakeE w=0
  ·by_cases h3:zV sec 0 7=0 <;> simp[h1,h2,h3,zL]
  ·simp[h1,h2,zL]
 ·simp[h1]
theorem c199(s:Si)(w:Wk)(sec:Int):zA 199 [eSi s,eWk w,eI sec]=some (.val (.tup [if chk3 s w sec=0 then eWd sec (zO sec) else eWd 0 ⟨0,0⟩,eI (chk3 s w sec)])):=by
 rw[C199,chk3_eq];simp only[zK,zM,h58,h59,h3,Bool.and_self,zB,zR,zS,zW,zb,zX,zF,zQ,c158,c75,zH,h46,qY];by_cases h0:zL [z8 s,wakeE w]=0
 ·rw[if_pos h0];simp only[b00,bne0 h0,za,if_true,c147];by_cases h1:zV sec 0 7=0
  ·simp[h0,h1]
  ·simp[h0,h1]
 ·rw[if_neg h0];simp[bne1 h0,h0]
theorem chk3_ok{s:Si}{w:Wk}{sec:Int}(h:chk3 s w sec=0):okWk w/\jD w.rule=true/\(psOf s).length<=64/\(∀p∈psOf s,okPt p)/\0<=sec/\sec<=7:=by
 obtain⟨h1,h2,h3⟩:=qF h;obtain⟨hok,_,_,_,hl⟩:=Jq h1;have:=range_zero.1 h3;exact⟨(wakeE_ok h2).1,(wakeE_ok h2).2,by simpa[psOf] using hl,λp hp=>by
  obtain⟨t,ht,rfl⟩:=List.mem_map.1 hp;exact(hok t ht).1,this.1,this.2⟩
section
variable[KnW](s:Si)(w:Wk)(sec:Int)
theorem c77:zA 77 [eSi s,eWk w,eI sec]=some (.val (.tup [.sl 1 ((if chk3 s w sec=0 then jS w (psOf s) sec (zO sec) else []).map eI),eI (chk3 s w sec)])):=by
 rw[C77];simp only[zK,zM,h58,h59,h3,Bool.and_self,zB,zR,zS,zW,zb,zX,zF,zQ,c199,zH,jA,jI];by_cases h0:chk3 s w sec=0
 ·obtain⟨a,b,hl,hp,_,_⟩:=chk3_ok h0;have hl':=hl;rw[zn] at hl';simp only[if_pos h0];simp only[b00,bne0 h0,za,if_true,h251,h46,Bool.and_self,zB,zF,c146 s (by omega),zH,h81,zQ,zR,zS,zW,c153 w (psOf s) sec (zO sec) a b hl hp (smallS sec),h25,h0]
 ·simp only[if_neg h0];simp only[bne1 h0,h251,h46,Bool.and_self,zB,zF];rfl
def chk4(s:Si)(w:Wk)(sec v:Int):Int:=zL [chk3 s w sec,zV v 0 50]
theorem c78(v:Int):zA 78 [eSi s,eWk w,eI sec,eI v]=some (.val (.tup [.sl 1 ((if chk4 s w sec v=0 then zr (jS w (psOf s) sec (zO sec)) v else []).map eI),eI (chk4 s w sec v)])):=by
 rw[C78];simp only[zK,zM,h58,h59,h3,Bool.and_self,zB,zR,zS,zW,zb,ze,zX,zF,zQ,c199,zH,jA,jI];have hT:hasT EE 6 251 (if chk3 s w sec=0 then eWd sec (zO sec) else eWd 0 ⟨0,0⟩)=true:=by split <;> rw[h251]
 simp only[hT,h46,Bool.and_self,zB,zF,c149,zH,qY];have hc4:zL [chk3 s w sec,zV v 0 50]=chk4 s w sec v:=rfl;rw[hc4];by_cases h0:chk4 s w sec v=0
 ·have h1:=zy h0;have h2:=range_zero.1 (zy h1.2).1;obtain⟨a,b,hl,hp,_,_⟩:=chk3_ok h1.1;have hl':=hl;rw[zn] at hl';simp only[if_pos h0,if_pos h1.1,b00,bne0 h0,za,if_true];simp only[c146 s (by omega),zH,h81,zQ,zR,zS,zW,zF,zB,c153 w (psOf s) sec (zO sec) a b hl hp (smallS sec),h25,h0,c152 _ v (by rw[jO];omega) (by omega) (jZ a (psOf s) sec (zO sec))]
 ·simp only[if_neg h0,bne1 h0,zB];rfl
end
def powE(f:Fm)(sec v:Int):Int:=zL [jM f,zV sec 0 7,zV v 0 50]
def powF(f:Fm)(sec v:Int):List Int:=if v>=f.c.cut then List.replicate f.s.tb.length 0 else powP f.w f.c (psOf f.s) sec v 0
theorem c32[KnW](f:Fm)(h:zm f.r)(sec v:Int):zA 32 [eFm f,eI sec,eI v]=some (.val (.tup [.sl 1 ((if powE f sec v=0 then powF f sec v else []).map eI),eI (powE f sec v)])):=by
 rw[C32];simp only[zG];simp only[zK,zM,hFm f h,h3,Bool.and_self,zB,zR,zS,zW,zb,ze,zX,zF,zQ];simp only[c40 f h,zH,h46,zB,zF];by_cases h0:jM f=0
 ·obtain⟨hv,hs⟩:=JG h0 h;have hl:=hv.l;rw[zn] at hl;have hpe:powE f sec v=zL [zV sec 0 7,zV v 0 50]:=by unfold powE;rw[zL,if_pos h0]
  have hT:hasT EE 6 251 (if zV sec 0 7=0 then eWd sec (zO sec) else eWd 0 ⟨0,0⟩)=true:=by split <;> rw[h251]
  simp only[b00,bne0 h0,za,if_true,c147];simp only[zH,jA,jI,zK,zM,hT,h46,Bool.and_self,zB,zS,zW,zF,c149,qY];rw[<-hpe];by_cases h1:powE f sec v=0
  ·rw[hpe] at h1;have h2:=zy h1;have h3':=range_zero.1 (zy h2.2).1;rw[<-hpe] at h1;rw[if_pos h1];simp only[bne0 h1,za];unfold powF;by_cases h4:v>=f.c.cut
   ·refine(if_pos h4).trans ?_;rw[if_pos h4];have e1:(0:Int)<=(f.s.tb.length:Int):=by omega
    have e2:8 * (f.s.tb.length:Int)<=281474976710656:=by omega
    have e3:(f.s.tb.length:Int)<=9223372036854775807:=by omega
    simp[h1,e1,e2,e3]
   ·refine(if_neg h4).trans ?_;rw[if_neg h4,if_pos h2.1];have hcb:=jZ hv.w (psOf f.s) sec (zO sec);have hsb:=YZ hcb (v:=v) (b:=50) h3'.1 h3'.2;simp only[c146 f.s (by omega),zH,h81,zQ,zR,zS,zW,zF,zB,c153 f.w (psOf f.s) sec (zO sec) hv.w hv.k hv.l hv.p (smallS sec),h25,h1,
     c152 _ v (by rw[jO,zn];omega) (by omega) hcb,c151v f.c hv.c (zr (jS f.w (psOf f.s) sec (zO sec)) v) (by simp[zr,jO,zn];omega) (λx hx=>by have:=hsb x hx;omega)]
    rw[powP,Int.add_zero]
  ·rw[if_neg h1];simp only[bne1 h1,zB];rfl
 ·have hpe:powE f sec v=jM f:=by unfold powE;rw[zL,if_neg h0]
  rw[hpe,if_neg h0];simp only[bne1 h0,zB];rfl
end Go.Am
namespace Go.Am
open Go.Proofs
open Go
variable[OO]
structure SiteOK(S:Si)(W:Wk)(sec:Int):Prop where
 w:okWk W
 l:S.tb.length<=64
 p:∀t∈S.tb,okPt t.at'
 s:0<=sec/\sec<=7
section
variable{s:Si}{w:Wk}{sec:Int}(h:SiteOK s w sec)
include h
end
section
variable(l:List Int)(hl:l.length<=64)(hb:∀x∈l,0<=x/\x<=256)
include hl hb
end
def Jl(l:List Int):CR:=if l=[] then .val .nl else .fresh 1 (l.map eI)
def okFm(f:Fm):Prop:=Valid f.w f.c f.r (psOf f.s)
theorem okFm.free{f:Fm}(h:okFm f):okFm { f with w:=wkFree } :=
 ⟨⟨λd hd=>by simp[wkFree] at hd;omega,rfl,by simp[wkFree]⟩,(show jD rM=true by decide),h.c,h.r,h.q,h.l,h.p⟩
end Go.Am
namespace Go.Am
open Go.Proofs
open Go
variable[OO]
theorem C44(x0 x1:DV):zA 44 [x0,x1] =
 ifO (zP (hasT EE 6) [88,3] [x0,x1])
 (zC (zA 160 [(.agg 6 [(.sl 2 (elems (nth (flds x0) 0))),(eI (getI (nth (flds x0) 1))),(.agg 0 [(.str (getS (nth (flds (nth (flds x0) 2)) 0))),(.sl 1 (elems (nth (flds (nth (flds x0) 2)) 1))),(.sl 1 (elems (nth (flds (nth (flds x0) 2)) 2)))]),(.agg 1 [(.sl 1 (elems (nth (flds (nth (flds x0) 3)) 0))),(eI (getI (nth (flds (nth (flds x0) 3)) 1)))]),(.agg 3 (flds (nth (flds x0) 4)))])])
 (λr0=>ifO (hasT EE 6 46 r0)
 (zC (zA 149 [(eI (getI x1)),(eI 0),(eI (((List.length (elems (nth (flds x0) 0))):Nat):Int))])
 (λr1=>ifO (hasT EE 6 46 r1)
 (zC (zA 148 [(.sl 1 [(eI (getI r0)),(eI (getI r1))])])
 (λr2=>ifO (hasT EE 6 46 r2)
 (ifO (bne (getI r2) 0)
 (some (.val (.tup [(.sl 1 []),(eI 0),(eI (getI r2))])))
 (zC (zA 161 [(.agg 6 [(.sl 2 (elems (nth (flds x0) 0))),(eI (getI (nth (flds x0) 1))),(.agg 0 [(.str (getS (nth (flds (nth (flds x0) 2)) 0))),(.sl 1 (elems (nth (flds (nth (flds x0) 2)) 1))),(.sl 1 (elems (nth (flds (nth (flds x0) 2)) 2)))]),(.agg 1 [(.sl 1 (elems (nth (flds (nth (flds x0) 3)) 0))),(eI (getI (nth (flds (nth (flds x0) 3)) 1)))]),(.agg 3 (flds (nth (flds x0) 4)))])])
 (λr3=>ifO (hasT EE 6 268 r3)
 (zC (zA 163 [(.agg 6 [(.sl 2 (elems (nth (flds x0) 0))),(eI (getI (nth (flds x0) 1))),(.agg 0 [(.str (getS (nth (flds (nth (flds x0) 2)) 0))),(.sl 1 (elems (nth (flds (nth (flds x0) 2)) 1))),(.sl 1 (elems (nth (flds (nth (flds x0) 2)) 2)))]),(.agg 1 [(.sl 1 (elems (nth (flds (nth (flds x0) 3)) 0))),(eI (getI (nth (flds (nth (flds x0) 3)) 1)))]),(.agg 3 (flds (nth (flds x0) 4)))])])
 (λr4=>ifO (hasT EE 6 25 r4)
 (zC (zA 162 [(.dp (undp r3)),(.sl 1 (elems r4)),(.sl 1 []),(eI (getI x1))])
 (λr5=>ifO ((DV.isTup r5) && (zP (hasT EE 6) [266,4] (tups r5)))
 (ifO (!(getB (nth (tups r5) 1)))
 (some (.val (.tup [(.sl 1 []),(eI 0),(eI 24)])))
 (some (.val (.tup [(.sl 1 (elems (nth (flds (nth (tups r5) 0)) 0))),(eI (getI (nth (flds (nth (tups r5) 0)) 1))),(eI 0)]))))
 (none))
 (λ_ _=>none))
 (none))
 (λ_ _=>none))
 (none))
 (λ_ _=>none)))
 (none))
 (λ_ _=>none))
 (none))
 (λ_ _=>none))
 (none))
 (λ_ _=>none))
 (none) :=
 (zE (f:=44) (by kernel_rfl) (by kernel_rfl) (by kernel_rfl) [x0,x1]).trans (by kernel_rfl)
theorem C160(x0:DV):zA 160 [x0] =
 ifO (zP (hasT EE 6) [88] [x0])
 (zC (zA 49 [(.agg 6 [(.sl 2 (elems (nth (flds x0) 0))),(eI (getI (nth (flds x0) 1))),(.agg 0 [(.str (getS (nth (flds (nth (flds x0) 2)) 0))),(.sl 1 (elems (nth (flds (nth (flds x0) 2)) 1))),(.sl 1 (elems (nth (flds (nth (flds x0) 2)) 2)))]),(.agg 1 [(.sl 1 (elems (nth (flds (nth (flds x0) 3)) 0))),(eI (getI (nth (flds (nth (flds x0) 3)) 1)))]),(.agg 3 (flds (nth (flds x0) 4)))])])
 (λr0=>ifO (hasT EE 6 46 r0)
 (zC (zA 169 [(.bool (decide ((((List.length (elems (nth (flds x0) 0))):Nat):Int)>(8:Int)))),(eI 23)])
 (λr1=>ifO (hasT EE 6 46 r1)
 (zC (zA 148 [(.sl 1 [(eI (getI r0)),(eI (getI r1))])])
 (λr2=>ifO (hasT EE 6 46 r2)
 (some (.val (eI (getI r2))))
 (none))
 (λ_ _=>none))
 (none))
 (λ_ _=>none))
 (none))
 (λ_ _=>none))
 (none) :=
 (zE (f:=160) (by kernel_rfl) (by kernel_rfl) (by kernel_rfl) [x0]).trans (by kernel_rfl)
def S49_0a(v0:List DV)(v1 v2 v3:Int)(v4:ByteArray)(v5 v6 v7:List DV)(v8:Int)(v9:List DV):St :=
 stOf 50 [(1,(.ptr 1 415 0 [])),(12,(.d (.sl 2 v0))),(13,(.d (eI v1))),(14,(.d (eI v2)))] [(1,(.mk false (.dc 415 [(.agg 6 [(.sl 2 v0),(eI v3),(.agg 0 [(.str v4),(.sl 1 v5),(.sl 1 v6)]),(.agg 1 [(.sl 1 v7),(eI v8)]),(.agg 3 v9)])])))]
noncomputable def L49_0a(v0:List DV)(v1 v2 v3:Int)(v4:ByteArray)(v5 v6 v7:List DV)(v8:Int)(v9:List DV):Option CR:=goQ 49 0 (S49_0a v0 v1 v2 v3 v4 v5 v6 v7 v8 v9)
theorem L49_0a_eq(v0:List DV)(v1 v2 v3:Int)(v4:ByteArray)(v5 v6 v7:List DV)(v8:Int)(v9:List DV):L49_0a v0 v1 v2 v3 v4 v5 v6 v7 v8 v9 =
 ifO (decide (v2<v1))
 (ifO (decide (((0:Int)<=v2)/\(v2<(((List.length v0):Nat):Int))))
 (ifO (hasT EE 6 141 (nth v0 (Int.toNat v2)))
 (ifO (decide ((0:Int)<=v2))
 (ifO (decide ((0<=(Int.toNat v2))/\((Int.toNat v2)<=(List.length v0))))
 (zC (zA 166 [(.sl 2 (List.drop 0 (List.take (Int.toNat v2) v0))),(.fn 167 [] [(.dp (.agg 1 [(eI (getI (nth (flds (nth v0 (Int.toNat v2))) 0))),(eI (getI (nth (flds (nth v0 (Int.toNat v2))) 1)))]))])])
 (λr0=>ifO (hasT EE 6 4 r0)
 (zC (zA 168 [(.agg 1 [(eI (getI (nth (flds (nth v0 (Int.toNat v2))) 0))),(eI (getI (nth (flds (nth v0 (Int.toNat v2))) 1)))])])
 (λr1=>ifO (hasT EE 6 46 r1)
 (zC (zA 169 [(.bool (getB r0)),(eI 9)])
 (λr2=>ifO (hasT EE 6 46 r2)
 (zC (zA 148 [(.sl 1 [(eI (getI r1)),(eI (getI r2))])])
 (λr3=>ifO (hasT EE 6 46 r3)
 (ifO (bne (getI r3) 0)
 (some (.val (eI (getI r3))))
 ((L49_0a v0 v1 (IntKind.wrap .i64 (v2+(1:Int))) v3 v4 v5 v6 v7 v8 v9)))
 (none))
 (λ_ _=>none))
 (none))
 (λ_ _=>none))
 (none))
 (λ_ _=>none))
 (none))
 (λ_ _=>none))
 (none))
 (none))
 (none))
 (none))
 (zC (zA 158 [(.agg 0 [(.str (bs [112,108,97,110])),(eI v3),(.sl 3 [])])])
 (λr12=>ifO (hasT EE 6 46 r12)
 (zC (zA 75 [(.agg 0 [(.str v4),(.sl 1 v5),(.sl 1 v6)])])
 (λr13=>ifO (hasT EE 6 46 r13)
 (zC (zA 114 [(.agg 1 [(.sl 1 v7),(eI v8)])])
 (λr14=>ifO (hasT EE 6 46 r14)
 (zC (zA 159 [(.agg 3 v9)])
 (λr15=>ifO (hasT EE 6 46 r15)
 (zC (zA 148 [(.sl 1 [(eI (getI r12)),(eI (getI r13)),(eI (getI r14)),(eI (getI r15))])])
 (λr16=>ifO (hasT EE 6 46 r16)
 (some (.val (eI (getI r16))))
 (none))
 (λ_ _=>none))
 (none))
 (λ_ _=>none))
 (none))
 (λ_ _=>none))
 (none))
 (λ_ _=>none))
 (none))
 (λ_ _=>none)) :=
 (zU 49 0 _).trans (by kernel_rfl)
theorem C49(x0:DV):zA 49 [x0] =
 ifO (zP (hasT EE 6) [88] [x0])
 (ifO (decide ((((List.length (elems (nth (flds x0) 0))):Nat):Int)>(64:Int)))
 (some (.val (eI 5)))
 ((L49_0a (elems (nth (flds x0) 0)) (((List.length (elems (nth (flds x0) 0))):Nat):Int) (0:Int) (getI (nth (flds x0) 1)) (getS (nth (flds (nth (flds x0) 2)) 0)) (elems (nth (flds (nth (flds x0) 2)) 1)) (elems (nth (flds (nth (flds x0) 2)) 2)) (elems (nth (flds (nth (flds x0) 3)) 0)) (getI (nth (flds (nth (flds x0) 3)) 1)) (flds (nth (flds x0) 4)))))
 (none) :=
 (zE (f:=49) (by kernel_rfl) (by kernel_rfl) (by kernel_rfl) [x0]).trans (by kernel_rfl)
theorem C166(x0 x1:DV):zA 166 [x0,x1] =
 ifO (zP (hasT EE 6) [81,275] [x0,x1])
 (zC (zA 244 [(.sl 2 (elems x0)),(.fn (fnId x1) (fnA x1) (fnC x1))])
 (λr0=>ifO (hasT EE 6 3 r0)
 (some (.val (.bool (decide ((getI r0)>=(0:Int))))))
 (none))
 (λ_ _=>none))
 (none) :=
 (zE (f:=166) (by kernel_rfl) (by kernel_rfl) (by kernel_rfl) [x0,x1]).trans (by kernel_rfl)
def S244_0a(v0:List DV)(v1:Nat)(v2 v3:List DV)(v4 v5:Int):St :=
 stOf 19 [(0,(.d (.sl 2 v0))),(1,(.d (.fn v1 v2 v3))),(7,(.d (eI v4))),(8,(.d (eI v5)))] []
noncomputable def L244_0a(v0:List DV)(v1:Nat)(v2 v3:List DV)(v4 v5:Int):Option CR:=goQ 244 0 (S244_0a v0 v1 v2 v3 v4 v5)
theorem L244_0a_eq(v0:List DV)(v1:Nat)(v2 v3:List DV)(v4 v5:Int):L244_0a v0 v1 v2 v3 v4 v5 =
 ifO (decide (v5<v4))
 (ifO (decide (((0:Int)<=v5)/\(v5<(((List.length v0):Nat):Int))))
 (ifO (hasT EE 6 141 (nth v0 (Int.toNat v5)))
 (zC (zA v1 (z1 EE v1 ((v2++[(.agg 1 [(eI (getI (nth (flds (nth v0 (Int.toNat v5))) 0))),(eI (getI (nth (flds (nth v0 (Int.toNat v5))) 1)))])])++v3)))
 (λr0=>ifO (hasT EE 6 4 r0)
 (ifO (getB r0)
 (some (.val (eI v5)))
 ((L244_0a v0 v1 v2 v3 v4 (IntKind.wrap .i64 (v5+(1:Int))))))
 (none))
 (λ_ _=>none))
 (none))
 (none))
 (some (.val (eI (-1)))) :=
 (zU 244 0 _).trans (by kernel_rfl)
theorem C244(x0 x1:DV):zA 244 [x0,x1] =
 ifO (zP (hasT EE 6) [81,275] [x0,x1])
 ((L244_0a (elems x0) (fnId x1) (fnA x1) (fnC x1) (((List.length (elems x0)):Nat):Int) (0:Int)))
 (none) :=
 (zE (f:=244) (by kernel_rfl) (by kernel_rfl) (by kernel_rfl) [x0,x1]).trans (by kernel_rfl)
theorem C167(x0 x1:DV):zA 167 [x0,x1] =
 ifO (((zP (hasT EE 6) [141] [x0]) && true) && (List.all [x1] isDp))
 (ifO (hasT EE 6 141 (undp x1))
 (some (.val (.bool (ifO.match_1 (λy994=>Bool) false (λy339=>(!(Option.getD (eqOp EE 141 (.agg 1 [(eI (getI (nth (flds (undp x1)) 0))),(eI (getI (nth (flds (undp x1)) 1)))]) (.agg 1 [(eI (getI (nth (flds x0) 0))),(eI (getI (nth (flds x0) 1)))])) false))) (λy124=>(Option.getD (eqOp EE 141 (.agg 1 [(eI (getI (nth (flds (undp x1)) 0))),(eI (getI (nth (flds (undp x1)) 1)))]) (.agg 1 [(eI (getI (nth (flds x0) 0))),(eI (getI (nth (flds x0) 1)))])) false))))))
 (none))
 (none) :=
 (zE (f:=167) (by kernel_rfl) (by kernel_rfl) (by kernel_rfl) [x0,x1]).trans (by kernel_rfl)
def S163_0a(v0:Int):St :=
 stOf 17 [(3,(.d .nl)),(7,(.d (eI v0))),(8,(.d (eI 0)))] []
noncomputable def L163_0a(v0:Int):Option CR:=goQ 163 0 (S163_0a v0)
def S163_0b(v0:List DV)(v1 v2:Int):St :=
 stOf 17 [(3,(.own 14 0 (List.length v0) 1)),(7,(.d (eI v1))),(8,(.d (eI v2)))] [(14,(.mk false (.dc 1 v0)))]
noncomputable def L163_0b(v0:List DV)(v1 v2:Int):Option CR:=goQ 163 0 (S163_0b v0 v1 v2)
theorem L163_0a_eq(v0:Int):L163_0a v0 =
 ifO (decide ((0:Int)<v0))
 ((L163_0b [(eI 0)] v0 (1:Int)))
 (some (.val (.sl 1 []))) :=
 (zU 163 0 _).trans (by kernel_rfl)
theorem L163_0b_eq(v0:List DV)(v1 v2:Int):L163_0b v0 v1 v2 =
 ifO (decide (v2<v1))
 (ifO (decide ((List.length v0)=(List.length v0)))
 (ifO (decide ((((2 * ((List.length v0)+1))+200) * 8)<=281474976710656))
 ((L163_0b (v0++[(eI v2)]) v1 (IntKind.wrap .i64 (v2+(1:Int)))))
 (none))
 (none))
 (ifO (decide ((0+(List.length v0))<=(List.length v0)))
 (some (.val (.sl 1 (List.take (List.length v0) (List.drop 0 v0)))))
 (none)) :=
 (zU 163 0 _).trans (by kernel_rfl)
theorem C163(x0:DV):zA 163 [x0] =
 ifO (zP (hasT EE 6) [88] [x0])
 ((L163_0a (((List.length (elems (nth (flds x0) 0))):Nat):Int)))
 (none) :=
 (zE (f:=163) (by kernel_rfl) (by kernel_rfl) (by kernel_rfl) [x0]).trans (by kernel_rfl)
def S162_0a(v0:DV)(v1 v2:List DV)(v3 v4 v5:Int):St :=
 stOf 79 [(0,(.d (.dp v0))),(1,(.d (.sl 1 v1))),(2,(.d (.sl 1 v2))),(3,(.d (eI v3))),(8,(.ptr 8 2 0 [])),(10,(.ptr 10 2 0 [])),(11,(.d (.bool false))),(25,(.d (.sl 1 v1))),(26,(.d (eI v4))),(27,(.d (eI v5)))] [(8,(.mk false (.dc 2 [(.agg 1 [.nl,(eI 0)])]))),(10,(.mk false (.dc 2 [(.agg 1 [.nl,(eI 0)])])))]
noncomputable def qf(v0:DV)(v1 v2:List DV)(v3 v4 v5:Int):Option CR:=goQ 162 0 (S162_0a v0 v1 v2 v3 v4 v5)
def S162_1a(v0:DV)(v1 v2:List DV)(v3 v4 v5 v6 v7 v8:Int):St :=
 stOf 79 [(0,(.d (.dp v0))),(1,(.d (.sl 1 v1))),(2,(.d (.sl 1 v2))),(3,(.d (eI v3))),(8,(.ptr 8 2 0 [])),(10,(.ptr 10 2 0 [])),(11,(.d (.bool false))),(12,(.d (eI v4))),(13,(.d (eI v5))),(25,(.d (.sl 1 v1))),(26,(.d (eI v6))),(27,(.d (eI v4))),(32,(.d (.sl 1 v2))),(33,(.d (eI v7))),(34,(.d (eI v8)))] [(8,(.mk false (.dc 2 [(.agg 1 [.nl,(eI 0)])]))),(10,(.mk false (.dc 2 [(.agg 1 [.nl,(eI 0)])])))]
noncomputable def L162_1a(v0:DV)(v1 v2:List DV)(v3 v4 v5 v6 v7 v8:Int):Option CR:=goQ 162 1 (S162_1a v0 v1 v2 v3 v4 v5 v6 v7 v8)
def S162_0b(v0:DV)(v1 v2:List DV)(v3 v4 v5:Int)(v6:List DV)(v7:Int):St :=
 stOf 79 [(0,(.d (.dp v0))),(1,(.d (.sl 1 v1))),(2,(.d (.sl 1 v2))),(3,(.d (eI v3))),(8,(.ptr 8 2 0 [])),(10,(.ptr 10 2 0 [])),(11,(.d (.bool true))),(25,(.d (.sl 1 v1))),(26,(.d (eI v4))),(27,(.d (eI v5)))] [(8,(.mk false (.dc 2 [(.agg 1 [.nl,(eI 0)])]))),(10,(.mk false (.dc 2 [(.agg 1 [(.sl 1 v6),(eI v7)])])))]
noncomputable def JC(v0:DV)(v1 v2:List DV)(v3 v4 v5:Int)(v6:List DV)(v7:Int):Option CR:=goQ 162 0 (S162_0b v0 v1 v2 v3 v4 v5 v6 v7)
def S162_1b(v0:DV)(v1 v2:List DV)(v3 v4 v5 v6 v7 v8:Int)(v9:List DV)(v10:Int):St :=
 stOf 79 [(0,(.d (.dp v0))),(1,(.d (.sl 1 v1))),(2,(.d (.sl 1 v2))),(3,(.d (eI v3))),(8,(.ptr 8 2 0 [])),(10,(.ptr 10 2 0 [])),(11,(.d (.bool true))),(12,(.d (eI v4))),(13,(.d (eI v5))),(25,(.d (.sl 1 v1))),(26,(.d (eI v6))),(27,(.d (eI v4))),(32,(.d (.sl 1 v2))),(33,(.d (eI v7))),(34,(.d (eI v8)))] [(8,(.mk false (.dc 2 [(.agg 1 [.nl,(eI 0)])]))),(10,(.mk false (.dc 2 [(.agg 1 [(.sl 1 v9),(eI v10)])])))]
noncomputable def L162_1b(v0:DV)(v1 v2:List DV)(v3 v4 v5 v6 v7 v8:Int)(v9:List DV)(v10:Int):Option CR:=goQ 162 1 (S162_1b v0 v1 v2 v3 v4 v5 v6 v7 v8 v9 v10)
theorem zBX(v0:DV)(v1 v2:List DV)(v3 v4 v5:Int):qf v0 v1 v2 v3 v4 v5 =
 ifO (decide (v5<v4))
 (ifO (decide (((0:Int)<=v5)/\(v5<(((List.length v1):Nat):Int))))
 (ifO (hasT EE 6 3 (nth v1 (Int.toNat v5)))
 ((L162_1a v0 v1 v2 v3 v5 (getI (nth v1 (Int.toNat v5))) v4 (((List.length v2):Nat):Int) (0:Int)))
 (none))
 (none))
 (some (.val (.tup [(.agg 1 [(.sl 1 []),(eI 0)]),(.bool false)]))) :=
 (zU 162 0 _).trans (by kernel_rfl)
theorem L162_1a_eq(v0:DV)(v1 v2:List DV)(v3 v4 v5 v6 v7 v8:Int):L162_1a v0 v1 v2 v3 v4 v5 v6 v7 v8 =
 ifO (decide (v8<v7))
 (ifO (decide (((0:Int)<=v8)/\(v8<(((List.length v2):Nat):Int))))
 (ifO (hasT EE 6 3 (nth v2 (Int.toNat v8)))
 (ifO (isAg 16 2 v0)
 (ifO (decide ((0:Int)<=(getI (nth v2 (Int.toNat v8)))))
 (ifO (isAg 15 (Int.toNat (getI (nth v2 (Int.toNat v8)))) (nth (flds v0) 2))
 (ifO (decide ((0:Int)<=v5))
 (ifO (isAg 14 (Int.toNat v5) (nth (flds (nth (flds v0) 2)) (Int.toNat (getI (nth v2 (Int.toNat v8))))))
 (ifO (hasT EE 6 4 (nth (flds (nth (flds (nth (flds v0) 2)) (Int.toNat (getI (nth v2 (Int.toNat v8)))))) (Int.toNat v5)))
 (ifO (getB (nth (flds (nth (flds (nth (flds v0) 2)) (Int.toNat (getI (nth v2 (Int.toNat v8)))))) (Int.toNat v5)))
 ((qf v0 v1 v2 v3 v6 (IntKind.wrap .i64 (v4+(1:Int)))))
 ((L162_1a v0 v1 v2 v3 v4 v5 v6 v7 (IntKind.wrap .i64 (v8+(1:Int))))))
 (none))
 (none))
 (none))
 (none))
 (none))
 (none))
 (none))
 (none))
 (ifO (decide ((0:Int)<=(IntKind.wrap .i64 (v4+(1:Int)))))
 (ifO (decide (((Int.toNat (IntKind.wrap .i64 (v4+(1:Int))))<=(List.length v1))/\((List.length v1)<=(List.length v1))))
 (zC (zA 243 [(.sl 1 v2)])
 (λr3=>ifO (isNl r3)
 (zC (zA 162 [(.dp v0),(.sl 1 (List.drop (Int.toNat (IntKind.wrap .i64 (v4+(1:Int)))) (List.take (List.length v1) v1))),(.sl 1 [(eI v5)]),(eI (IntKind.wrap .i64 (v3 - (1:Int))))])
 (λr4=>ifO ((DV.isTup r4) && (zP (hasT EE 6) [266,4] (tups r4)))
 (ifO (getB (nth (tups r4) 1))
 ((JC v0 v1 v2 v3 v6 (IntKind.wrap .i64 (v4+(1:Int))) (elems (nth (flds (nth (tups r4) 0)) 0)) (getI (nth (flds (nth (tups r4) 0)) 1))))
 ((qf v0 v1 v2 v3 v6 (IntKind.wrap .i64 (v4+(1:Int))))))
 (none))
 (λ_ _=>none))
 (none))
 (λs7 l8=>ifO (s7 == 1)
 (ifO (decide ((List.length l8)=(List.length l8)))
 (ifO (decide ((((2 * ((List.length l8)+1))+200) * 8)<=281474976710656))
 (ifO (decide ((0+(List.length (l8++[(eI v5)])))<=(List.length (l8++[(eI v5)]))))
 (zC (zA 162 [(.dp v0),(.sl 1 (List.drop (Int.toNat (IntKind.wrap .i64 (v4+(1:Int)))) (List.take (List.length v1) v1))),(.sl 1 (List.take (List.length (l8++[(eI v5)])) (List.drop 0 (l8++[(eI v5)])))),(eI (IntKind.wrap .i64 (v3 - (1:Int))))])
 (λr9=>ifO ((DV.isTup r9) && (zP (hasT EE 6) [266,4] (tups r9)))
 (ifO (getB (nth (tups r9) 1))
 ((JC v0 v1 v2 v3 v6 (IntKind.wrap .i64 (v4+(1:Int))) (elems (nth (flds (nth (tups r9) 0)) 0)) (getI (nth (flds (nth (tups r9) 0)) 1))))
 ((qf v0 v1 v2 v3 v6 (IntKind.wrap .i64 (v4+(1:Int))))))
 (none))
 (λ_ _=>none))
 (none))
 (none))
 (none))
 (none)))
 (none))
 (none)) :=
 (zU 162 1 _).trans (by kernel_rfl)
theorem L162_0b_eq(v0:DV)(v1 v2:List DV)(v3 v4 v5:Int)(v6:List DV)(v7:Int):JC v0 v1 v2 v3 v4 v5 v6 v7 =
 ifO (decide (v5<v4))
 (ifO (decide (((0:Int)<=v5)/\(v5<(((List.length v1):Nat):Int))))
 (ifO (hasT EE 6 3 (nth v1 (Int.toNat v5)))
 ((L162_1b v0 v1 v2 v3 v5 (getI (nth v1 (Int.toNat v5))) v4 (((List.length v2):Nat):Int) (0:Int) v6 v7))
 (none))
 (none))
 (some (.val (.tup [(.agg 1 [(.sl 1 v6),(eI v7)]),(.bool true)]))) :=
 (zU 162 0 _).trans (by kernel_rfl)
theorem L162_1b_eq(v0:DV)(v1 v2:List DV)(v3 v4 v5 v6 v7 v8:Int)(v9:List DV)(v10:Int):L162_1b v0 v1 v2 v3 v4 v5 v6 v7 v8 v9 v10 =
 ifO (decide (v8<v7))
 (ifO (decide (((0:Int)<=v8)/\(v8<(((List.length v2):Nat):Int))))
 (ifO (hasT EE 6 3 (nth v2 (Int.toNat v8)))
 (ifO (isAg 16 2 v0)
 (ifO (decide ((0:Int)<=(getI (nth v2 (Int.toNat v8)))))
 (ifO (isAg 15 (Int.toNat (getI (nth v2 (Int.toNat v8)))) (nth (flds v0) 2))
 (ifO (decide ((0:Int)<=v5))
 (ifO (isAg 14 (Int.toNat v5) (nth (flds (nth (flds v0) 2)) (Int.toNat (getI (nth v2 (Int.toNat v8))))))
 (ifO (hasT EE 6 4 (nth (flds (nth (flds (nth (flds v0) 2)) (Int.toNat (getI (nth v2 (Int.toNat v8)))))) (Int.toNat v5)))
 (ifO (getB (nth (flds (nth (flds (nth (flds v0) 2)) (Int.toNat (getI (nth v2 (Int.toNat v8)))))) (Int.toNat v5)))
 ((JC v0 v1 v2 v3 v6 (IntKind.wrap .i64 (v4+(1:Int))) v9 v10))
 ((L162_1b v0 v1 v2 v3 v4 v5 v6 v7 (IntKind.wrap .i64 (v8+(1:Int))) v9 v10)))
 (none))
 (none))
 (none))
 (none))
 (none))
 (none))
 (none))
 (none))
 (ifO (decide ((0:Int)<=(IntKind.wrap .i64 (v4+(1:Int)))))
 (ifO (decide (((Int.toNat (IntKind.wrap .i64 (v4+(1:Int))))<=(List.length v1))/\((List.length v1)<=(List.length v1))))
 (zC (zA 243 [(.sl 1 v2)])
 (λr12=>ifO (isNl r12)
 (zC (zA 162 [(.dp v0),(.sl 1 (List.drop (Int.toNat (IntKind.wrap .i64 (v4+(1:Int)))) (List.take (List.length v1) v1))),(.sl 1 [(eI v5)]),(eI (IntKind.wrap .i64 (v3 - (1:Int))))])
 (λr13=>ifO ((DV.isTup r13) && (zP (hasT EE 6) [266,4] (tups r13)))
 (ifO (getB (nth (tups r13) 1))
 (ifO (decide ((getI (nth (flds (nth (tups r13) 0)) 1))>v10))
 ((JC v0 v1 v2 v3 v6 (IntKind.wrap .i64 (v4+(1:Int))) (elems (nth (flds (nth (tups r13) 0)) 0)) (getI (nth (flds (nth (tups r13) 0)) 1))))
 ((JC v0 v1 v2 v3 v6 (IntKind.wrap .i64 (v4+(1:Int))) v9 v10)))
 ((JC v0 v1 v2 v3 v6 (IntKind.wrap .i64 (v4+(1:Int))) v9 v10)))
 (none))
 (λ_ _=>none))
 (none))
 (λs16 l17=>ifO (s16 == 1)
 (ifO (decide ((List.length l17)=(List.length l17)))
 (ifO (decide ((((2 * ((List.length l17)+1))+200) * 8)<=281474976710656))
 (ifO (decide ((0+(List.length (l17++[(eI v5)])))<=(List.length (l17++[(eI v5)]))))
 (zC (zA 162 [(.dp v0),(.sl 1 (List.drop (Int.toNat (IntKind.wrap .i64 (v4+(1:Int)))) (List.take (List.length v1) v1))),(.sl 1 (List.take (List.length (l17++[(eI v5)])) (List.drop 0 (l17++[(eI v5)])))),(eI (IntKind.wrap .i64 (v3 - (1:Int))))])
 (λr18=>ifO ((DV.isTup r18) && (zP (hasT EE 6) [266,4] (tups r18)))
 (ifO (getB (nth (tups r18) 1))
 (ifO (decide ((getI (nth (flds (nth (tups r18) 0)) 1))>v10))
 ((JC v0 v1 v2 v3 v6 (IntKind.wrap .i64 (v4+(1:Int))) (elems (nth (flds (nth (tups r18) 0)) 0)) (getI (nth (flds (nth (tups r18) 0)) 1))))
 ((JC v0 v1 v2 v3 v6 (IntKind.wrap .i64 (v4+(1:Int))) v9 v10)))
 ((JC v0 v1 v2 v3 v6 (IntKind.wrap .i64 (v4+(1:Int))) v9 v10)))
 (none))
 (λ_ _=>none))
 (none))
 (none))
 (none))
 (none)))
 (none))
 (none)) :=
 (zU 162 1 _).trans (by kernel_rfl)
theorem C162(x0 x1 x2 x3:DV):zA 162 [x0,x1,x2,x3] =
 ifO (zP (hasT EE 6) [268,25,25,3] [x0,x1,x2,x3])
 (ifO ((getI x3) == (0:Int))
 (zC (zA 242 [(.dp (undp x0)),(.sl 1 (elems x2))])
 (λr0=>ifO (hasT EE 6 3 r0)
 (some (.val (.tup [(.agg 1 [(.sl 1 (elems x2)),(eI (getI r0))]),(.bool true)])))
 (none))
 (λ_ _=>none))
 ((qf (undp x0) (elems x1) (elems x2) (getI x3) (((List.length (elems x1)):Nat):Int) (0:Int))))
 (none) :=
 (zE (f:=162) (by kernel_rfl) (by kernel_rfl) (by kernel_rfl) [x0,x1,x2,x3]).trans (by kernel_rfl)
theorem C242(x0 x1:DV):zA 242 [x0,x1] =
 ifO (zP (hasT EE 6) [268,25] [x0,x1])
 (ifO (isAg 16 1 (undp x0))
 (ifO (hasT EE 6 246 (nth (flds (undp x0)) 1))
 (zC (zA 283 [(.sl 1 (elems x1)),(.fn 284 [] [(.dp (.dp (undp x0)))])])
 (λr0=>ifO (hasT EE 6 81 r0)
 (zC (zA 145 [(.agg 13 [(.agg 0 [(.str (getS (nth (flds (nth (flds (nth (flds (undp x0)) 1)) 0)) 0))),(.sl 1 (elems (nth (flds (nth (flds (nth (flds (undp x0)) 1)) 0)) 1))),(.sl 1 (elems (nth (flds (nth (flds (nth (flds (undp x0)) 1)) 0)) 2)))]),(.agg 1 [(.sl 1 (elems (nth (flds (nth (flds (nth (flds (undp x0)) 1)) 1)) 0))),(eI (getI (nth (flds (nth (flds (nth (flds (undp x0)) 1)) 1)) 1)))]),(.agg 3 (flds (nth (flds (nth (flds (undp x0)) 1)) 2)))]),(.sl 2 (elems r0)),(eI 0)])
 (λr1=>ifO (hasT EE 6 3 r1)
 (some (.val (eI (getI r1))))
 (none))
 (λ_ _=>none))
 (none))
 (λ_ _=>none))
 (none))
 (none))
 (none) :=
 (zE (f:=242) (by kernel_rfl) (by kernel_rfl) (by kernel_rfl) [x0,x1]).trans (by kernel_rfl)
def S283_0a(v0:Nat)(v1 v2 v3:List DV)(v4:Int):St :=
 stOf 22 [(1,(.d (.fn v0 v1 v2))),(5,(.d .nl)),(8,(.d (.sl 1 v3))),(9,(.d (eI v4))),(10,(.d (eI 0)))] []
noncomputable def L283_0a(v0:Nat)(v1 v2 v3:List DV)(v4:Int):Option CR:=goQ 283 0 (S283_0a v0 v1 v2 v3 v4)
def S283_0b(v0:Nat)(v1 v2 v3 v4:List DV)(v5 v6:Int):St :=
 stOf 22 [(1,(.d (.fn v0 v1 v2))),(5,(.own 19 0 (List.length v3) 2)),(8,(.d (.sl 1 v4))),(9,(.d (eI v5))),(10,(.d (eI v6)))] [(19,(.mk false (.dc 2 v3)))]
noncomputable def L283_0b(v0:Nat)(v1 v2 v3 v4:List DV)(v5 v6:Int):Option CR:=goQ 283 0 (S283_0b v0 v1 v2 v3 v4 v5 v6)
theorem L283_0a_eq(v0:Nat)(v1 v2 v3:List DV)(v4:Int):L283_0a v0 v1 v2 v3 v4 =
 ifO (decide ((0:Int)<v4))
 (ifO (decide (((0:Int)<=(0:Int))/\((0:Int)<(((List.length v3):Nat):Int))))
 (ifO (hasT EE 6 3 (nth v3 0))
 (zC (zA v0 (z1 EE v0 ((v1++[(eI (getI (nth v3 0)))])++v2)))
 (λr0=>ifO (hasT EE 6 141 r0)
 ((L283_0b v0 v1 v2 [(.agg 1 [(eI (getI (nth (flds r0) 0))),(eI (getI (nth (flds r0) 1)))])] v3 v4 (1:Int)))
 (none))
 (λ_ _=>none))
 (none))
 (none))
 (some (.val (.sl 2 []))) :=
 (zU 283 0 _).trans (by kernel_rfl)
theorem L283_0b_eq(v0:Nat)(v1 v2 v3 v4:List DV)(v5 v6:Int):L283_0b v0 v1 v2 v3 v4 v5 v6 =
 ifO (decide (v6<v5))
 (ifO (decide (((0:Int)<=v6)/\(v6<(((List.length v4):Nat):Int))))
 (ifO (hasT EE 6 3 (nth v4 (Int.toNat v6)))
 (zC (zA v0 (z1 EE v0 ((v1++[(eI (getI (nth v4 (Int.toNat v6))))])++v2)))
 (λr3=>ifO (hasT EE 6 141 r3)
 (ifO (decide ((List.length v3)=(List.length v3)))
 (ifO (decide ((((2 * ((List.length v3)+1))+200) * 16)<=281474976710656))
 ((L283_0b v0 v1 v2 (v3++[(.agg 1 [(eI (getI (nth (flds r3) 0))),(eI (getI (nth (flds r3) 1)))])]) v4 v5 (IntKind.wrap .i64 (v6+(1:Int)))))
 (none))
 (none))
 (none))
 (λ_ _=>none))
 (none))
 (none))
 (ifO (decide ((0+(List.length v3))<=(List.length v3)))
 (some (.val (.sl 2 (List.take (List.length v3) (List.drop 0 v3)))))
 (none)) :=
 (zU 283 0 _).trans (by kernel_rfl)
theorem C283(x0 x1:DV):zA 283 [x0,x1] =
 ifO (zP (hasT EE 6) [25,309] [x0,x1])
 ((L283_0a (fnId x1) (fnA x1) (fnC x1) (elems x0) (((List.length (elems x0)):Nat):Int)))
 (none) :=
 (zE (f:=283) (by kernel_rfl) (by kernel_rfl) (by kernel_rfl) [x0,x1]).trans (by kernel_rfl)
theorem C284(x0 x1:DV):zA 284 [x0,x1] =
 ifO (((zP (hasT EE 6) [3] [x0]) && true) && (List.all [x1] isDp))
 (ifO (hasT EE 6 268 (undp x1))
 (ifO (isAg 16 0 (undp (undp x1)))
 (ifO (isAg 6 0 (nth (flds (undp (undp x1))) 0))
 (ifO (hasT EE 6 81 (nth (flds (nth (flds (undp (undp x1))) 0)) 0))
 (ifO (decide (((0:Int)<=(getI x0))/\((getI x0)<(((List.length (elems (nth (flds (nth (flds (undp (undp x1))) 0)) 0))):Nat):Int))))
 (ifO (hasT EE 6 141 (nth (elems (nth (flds (nth (flds (undp (undp x1))) 0)) 0)) (Int.toNat (getI x0))))
 (some (.val (.agg 1 [(eI (getI (nth (flds (nth (elems (nth (flds (nth (flds (undp (undp x1))) 0)) 0)) (Int.toNat (getI x0)))) 0))),(eI (getI (nth (flds (nth (elems (nth (flds (nth (flds (undp (undp x1))) 0)) 0)) (Int.toNat (getI x0)))) 1)))])))
 (none))
 (none))
 (none))
 (none))
 (none))
 (none))
 (none) :=
 (zE (f:=284) (by kernel_rfl) (by kernel_rfl) (by kernel_rfl) [x0,x1]).trans (by kernel_rfl)
theorem C108(x0:DV):zA 108 [x0] =
 ifO (zP (hasT EE 6) [60] [x0])
 (zC (zA 114 [(.agg 1 [(.sl 1 (elems (nth (flds x0) 0))),(eI (getI (nth (flds x0) 1)))])])
 (λr0=>ifO (hasT EE 6 46 r0)
 (ifO (bne (getI r0) 0)
 (some (.val (.tup [(.str (bs [])),(eI (getI r0))])))
 (ifO (decide ((((2 * (1+(List.length (elems (nth (flds x0) 0)))))+200) * 8)<=281474976710656))
 (ifO (decide ((0+(List.length ([(eI (getI (nth (flds x0) 1)))]++(elems (nth (flds x0) 0)))))<=(List.length ([(eI (getI (nth (flds x0) 1)))]++(elems (nth (flds x0) 0))))))
 (zC (zA 209 [(.sl 1 (List.take (List.length ([(eI (getI (nth (flds x0) 1)))]++(elems (nth (flds x0) 0)))) (List.drop 0 ([(eI (getI (nth (flds x0) 1)))]++(elems (nth (flds x0) 0)))))),(.fn 210 [] [])])
 (λr1=>ifO (hasT EE 6 173 r1)
 (zC (zA 208 [(.sl 1 (elems r1)),(.str (bs [32]))])
 (λr2=>ifO (hasT EE 6 9 r2)
 (some (.val (.tup [(.str (getS r2)),(eI 0)])))
 (none))
 (λ_ _=>none))
 (none))
 (λ_ _=>none))
 (none))
 (none)))
 (none))
 (λ_ _=>none))
 (none) :=
 (zE (f:=108) (by kernel_rfl) (by kernel_rfl) (by kernel_rfl) [x0]).trans (by kernel_rfl)
def S209_0a(v0:Nat)(v1 v2 v3:List DV)(v4:Int):St :=
 stOf 22 [(1,(.d (.fn v0 v1 v2))),(5,(.d .nl)),(8,(.d (.sl 1 v3))),(9,(.d (eI v4))),(10,(.d (eI 0)))] []
noncomputable def L209_0a(v0:Nat)(v1 v2 v3:List DV)(v4:Int):Option CR:=goQ 209 0 (S209_0a v0 v1 v2 v3 v4)
def S209_0b(v0:Nat)(v1 v2 v3 v4:List DV)(v5 v6:Int):St :=
 stOf 22 [(1,(.d (.fn v0 v1 v2))),(5,(.own 19 0 (List.length v3) 1)),(8,(.d (.sl 1 v4))),(9,(.d (eI v5))),(10,(.d (eI v6)))] [(19,(.mk false (.dc 1 v3)))]
noncomputable def L209_0b(v0:Nat)(v1 v2 v3 v4:List DV)(v5 v6:Int):Option CR:=goQ 209 0 (S209_0b v0 v1 v2 v3 v4 v5 v6)
theorem L209_0a_eq(v0:Nat)(v1 v2 v3:List DV)(v4:Int):L209_0a v0 v1 v2 v3 v4 =
 ifO (decide ((0:Int)<v4))
 (ifO (decide (((0:Int)<=(0:Int))/\((0:Int)<(((List.length v3):Nat):Int))))
 (ifO (hasT EE 6 3 (nth v3 0))
 (zC (zA v0 (z1 EE v0 ((v1++[(eI (getI (nth v3 0)))])++v2)))
 (λr0=>ifO (hasT EE 6 9 r0)
 ((L209_0b v0 v1 v2 [(.str (getS r0))] v3 v4 (1:Int)))
 (none))
 (λ_ _=>none))
 (none))
 (none))
 (some (.val (.sl 1 []))) :=
 (zU 209 0 _).trans (by kernel_rfl)
theorem L209_0b_eq(v0:Nat)(v1 v2 v3 v4:List DV)(v5 v6:Int):L209_0b v0 v1 v2 v3 v4 v5 v6 =
 ifO (decide (v6<v5))
 (ifO (decide (((0:Int)<=v6)/\(v6<(((List.length v4):Nat):Int))))
 (ifO (hasT EE 6 3 (nth v4 (Int.toNat v6)))
 (zC (zA v0 (z1 EE v0 ((v1++[(eI (getI (nth v4 (Int.toNat v6))))])++v2)))
 (λr3=>ifO (hasT EE 6 9 r3)
 (ifO (decide ((List.length v3)=(List.length v3)))
 (ifO (decide ((((2 * ((List.length v3)+1))+200) * 16)<=281474976710656))
 ((L209_0b v0 v1 v2 (v3++[(.str (getS r3))]) v4 v5 (IntKind.wrap .i64 (v6+(1:Int)))))
 (none))
 (none))
 (none))
 (λ_ _=>none))
 (none))
 (none))
 (ifO (decide ((0+(List.length v3))<=(List.length v3)))
 (some (.val (.sl 1 (List.take (List.length v3) (List.drop 0 v3)))))
 (none)) :=
 (zU 209 0 _).trans (by kernel_rfl)
theorem C209(x0 x1:DV):zA 209 [x0,x1] =
 ifO (zP (hasT EE 6) [25,280] [x0,x1])
 ((L209_0a (fnId x1) (fnA x1) (fnC x1) (elems x0) (((List.length (elems x0)):Nat):Int)))
 (none) :=
 (zE (f:=209) (by kernel_rfl) (by kernel_rfl) (by kernel_rfl) [x0,x1]).trans (by kernel_rfl)
end Go.Am
namespace Go.Am
open Go.Proofs
open Go
abbrev Ch:=Option (List Nat×Int)
def pick:Ch->Ch->Ch
 | none,b=>b
 | some x,none=>some x
 | some x,some y=>if y.2>x.2 then some y else some x
theorem pick_none(a:Ch):pick a none=a:=by cases a <;> rfl
theorem pick_assoc(a b c:Ch):pick (pick a b) c=pick a (pick b c):=by
 cases a with
 | none=>rfl
 | some x =>
  cases b with
  | none=>rfl
  | some y =>
   cases c with
   | none=>rw[pick_none,pick_none]
   | some z =>
    simp only[pick];by_cases h1:y.2>x.2
    ·by_cases h2:z.2>y.2
     ·rw[if_pos h1,if_pos h2];show(if z.2>y.2 then some z else some y)=if z.2>x.2 then some z else some x
      rw[if_pos h2,if_pos (by omega)]
     ·rw[if_pos h1,if_neg h2];show(if z.2>y.2 then some z else some y)=if y.2>x.2 then some y else some x
      simp only[h1,h2,if_true,if_false]
    ·by_cases h2:z.2>y.2
     ·rw[if_neg h1,if_pos h2]
     ·rw[if_neg h1,if_neg h2];show(if z.2>x.2 then some z else some x)=if y.2>x.2 then some y else some x
      rw[if_neg h1,if_neg (by omega)]
section
variable(en:List Nat->Int)
def JL(near:Nat->Nat->Bool):List Nat->List Nat->Nat->Ch
 | _,taken,0=>some (taken,en taken)
 | [],_,_+1=>none
 | i :: l,taken,n+1=>pick (if taken.any (λt=>near t i) then none else JL near l (taken++[i]) n) (JL near l taken (n+1))
theorem pick_some{a b:Ch}{r:List Nat×Int}(h:pick a b=some r):a=some r\/b=some r:=by
 cases a with
 | none=>exact .inr h
 | some x =>
  cases b with
  | none=>exact .inl h
  | some y =>
   simp only[pick] at h;split at h
   ·exact .inr h
   ·exact .inl h
end
def IsMax(S:Int->Prop)(o:Option Int):Prop:=match o with | none=>∀x,¬S x | some m=>S m/\∀x,S x->x<=m
theorem IsMax.unique{S:Int->Prop}{a b:Option Int}(h:IsMax S a)(k:IsMax S b):a=b:=by
 cases a with
 | none =>
  cases b with
  | none=>rfl
  | some y=>exact absurd k.1 (h y)
 | some x =>
  cases b with
  | none=>exact absurd h.1 (k x)
  | some y =>
   have h1:=h.2 y k.1;have h2:=k.2 x h.1;have:x=y:=by omega
   rw[this]
end Go.Am
