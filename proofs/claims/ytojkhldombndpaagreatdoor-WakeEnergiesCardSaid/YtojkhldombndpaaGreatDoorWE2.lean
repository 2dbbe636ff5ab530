/- WakeEnergies: for every input the law returns true, and each argument reads afterwards as it read before. Part 2. -/
import Derived.Test.YtojkhldombndpaaGreatDoorWE1
set_option linter.all false
namespace Go.Am
open Go.Proofs
open Go
variable[OO]
def blowRow(n:Int):List Int->Int
 | []=>n
 | q :: r=>blowRow (if q>0 then n+1 else n) r
def blowR(n:Int):List (List Int)->Int
 | []=>n
 | row :: r=>blowR (blowRow n row) r
theorem blowRow_bnd:∀(l:List Int) (n:Int),n<=blowRow n l/\blowRow n l<=n+l.length
 | [],n=>by simp[blowRow]
 | q :: l,n=>by
  have:=blowRow_bnd l (if q>0 then n+1 else n)
  simp only[blowRow,List.length_cons];by_cases h:q>0
  ·simp only[h,if_true] at this ⊢;omega
  ·simp only[h,if_false] at this ⊢;omega
theorem l128_1(r:List (List Int))(s:Nat)(hs:s<r.length)(h8:r.length=8)(hrow:r[s].length=51):∀k,k<=r[s].length->∀n:Int,0<=n->n<=s * 51+k->L128_1a n s k (r.map eRow)=L128_0a (blowRow n (r[s].drop k)) (IntKind.i64.wrap ((s:Int)+1)) (r.map eRow):=by
 refine down (P:=λk=>∀n:Int,0<=n->n<=s * 51+k->L128_1a n s k (r.map eRow)=L128_0a (blowRow n (r[s].drop k)) (IntKind.i64.wrap ((s:Int)+1)) (r.map eRow)) r[s].length ?_ ?_
 ·intro n h0 hn;rw[L128_1a_eq];simp only[zG];rw[if_neg (by omega)]
  simp[blowRow]
 ·intro k hk ih n h0 hn;have e1:(k:Int)<=50:=by omega
  have e2:(0:Int)<=(s:Int)/\(s:Int)<8:=by omega
  have e3:(0:Int)<=(k:Int)/\(k:Int)<51:=by omega
  rw[L128_1a_eq,zT r[s] k hk];simp only[zG];rw[if_pos e1,if_pos e2,if_pos e3];simp only[Int.toNat_natCast,jQ _ _ _ _ hs,zB,zI _ r s hs,jQ _ _ _ _ hk,zR,zI _ r[s] k hk,h3,zF];rw[wr ((k:Int)+1) (by omega),wr (n+1) (by omega),show((k:Int)+1)=((k+1:Nat):Int) by omega]
  by_cases hq:r[s][k]>0
  ·rw[if_pos hq,ih (n+1) (by omega) (by omega)]
   simp only[blowRow,if_pos hq]
  ·rw[if_neg hq,ih n h0 (by omega)]
   simp only[blowRow,if_neg hq]
theorem l128_0(r:List (List Int))(h:zm r):∀s,s<=r.length->∀n:Int,0<=n->n<=s * 51->L128_0a n s (r.map eRow)=some (.val (eI (blowR n (r.drop s)))):=by
 have hl:=h.1;refine down (P:=λs=>∀n:Int,0<=n->n<=s * 51->L128_0a n s (r.map eRow)=some (.val (eI (blowR n (r.drop s))))) r.length ?_ ?_
 ·intro n h0 hn;rw[L128_0a_eq];simp only[zG];rw[if_neg (by omega)]
  simp[blowR]
 ·intro s hs ih n h0 hn;have hrow:=h.2 r[s] (List.getElem_mem hs);have e1:(s:Int)<8:=by omega
  have hb:=blowRow_bnd r[s] n;rw[L128_0a_eq,zT r s hs];simp only[zG];rw[if_pos e1];have:=l128_1 r s hs hl hrow 0 (Nat.zero_le _) n h0 (by omega)
  rw[show((0:Nat):Int)=0 from rfl] at this
  rw[this,wr ((s:Int)+1) (by omega),show((s:Int)+1)=((s+1:Nat):Int) by omega,List.drop_zero,ih _ (by omega) (by omega)]
  rfl
theorem c128(r:List (List Int))(h:zm r):zA 128 [eRo r]=some (.val (eI (blowR 0 r))):=by
 rw[C128];simp only[zK,zM,h32,List.length_map,h.1,decide_true,Bool.and_self,zB,zR];have:=l128_0 r h 0 (Nat.zero_le _) 0 (by omega) (by omega)
 simpa using this
theorem c105(c:Cu):zA 105 [eCu c]=some (.val (.bool (decide ((c.p.length:Int)<=52)))):=by rw[C105];simp
def shortF(f:Fm)(n:Int):Bool:=if shortS f.s n then (if shortW f.w then (if (f.c.p.length:Int)<=52 then decide (blowR 0 f.r<=6) else false) else false) else false
theorem c21(f:Fm)(h:zm f.r)(n:Int)(hn:n<=100):zA 21 [eFm f,eI n]=some (.val (.bool (shortF f n))):=by
 rw[C21];simp only[zK,zM,hFm' f h,h3,Bool.and_self,zB,zR,zS,zW,zb,ze,zX,zF,zQ,c62 f.s n hn];unfold shortF;cases hS:shortS f.s n with
 | false=>simp
 | true =>
  simp only[zH,h4,zB,zi,c63 f.w];cases hW:shortW f.w with
  | false=>simp
  | true =>
   simp only[zH,h4,zB,zi,c105 f.c];by_cases hc:(f.c.p.length:Int)<=52
   ·simp[hc,c128 f.r h];exact decide_eq_decide.2 Iff.rfl
   ·simp[hc]
theorem shortF_len{f:Fm}{n:Int}(h:shortF f n=true):((f.s.tb.length:Int)<=n\/f.s.tb.length=65)/\f.w.d.length<=33/\f.w.w.length<=33/\f.c.p.length<=52:=by
 unfold shortF at h;split at h
 ·rename_i h1;split at h
  ·rename_i h2;split at h
   ·rename_i h3;simp only[shortW,Bool.and_eq_true] at h2;exact⟨shortS_len h1,short33_le h2.1.2,short33_le h2.2,by omega⟩
   ·cases h
  ·cases h
 ·cases h
theorem c34(f:Fm)(h:zm f.r)(h1:f.s.tb.length<=100000)(h2:f.w.d.length<=100000)(h3':f.w.w.length<=100000)(h4':f.c.p.length<=100000):zA 34 [eFm f]=some (.val (eFm f)):=by rw[C34];simp only[zK,zM,hFm' f h,Bool.and_self,zB,zR,zS,zW,zb,ze,zX,zF,zQ,c65 f.s h1,c67 f.w (by omega) (by omega),c107 f.c (by omega),zH,h58,h59,h60]
theorem l88(lo fr:Int)(h1:0<=fr/\fr<=1000000000000000000)(h2:0<=lo/\lo<=1000000000000000000):∀(b a:Nat),0<a\/0<b ->
  L88_0a lo fr a b=some (.val (.agg 1 [eI (Int.tdiv lo (Nat.gcd a b)),eI (Int.tdiv fr (Nat.gcd a b))])):=by
 intro b;induction b using Nat.strongRecOn with
 | _ b ih =>
  intro a h0;rw[L88_0a_eq];by_cases hb:b=0
  ·subst hb;have ha:0<a:=by omega
   have hb0:(bne (((0:Nat):Int)) 0)=false:=rfl;have hbeq:((a:Int) == 0)=false:=by simp;omega
   have hw:∀x:Int,0<=x->x<=1000000000000000000->IntKind.i64.wrap (Int.tdiv x (a:Int))=Int.tdiv x (a:Int):=by
    intro x hx hx';have e:Int.tdiv x (a:Int)=x / (a:Int):=Int.tdiv_eq_ediv_of_nonneg hx;have q1:=Int.ediv_nonneg hx (show(0:Int)<=(a:Int) by omega)
    have q2:=Int.ediv_le_self (a:Int) hx;rw[e];exact wr _ (by omega)
   rw[hb0];simp only[za,hbeq,Bool.not_false,zB,Nat.gcd_zero_right,hw lo h2.1 h2.2,hw fr h1.1 h1.2]
  ·have hb0:(bne ((b:Nat):Int) 0)=true:=bne1 (by omega)
   have hbeq:((b:Int) == 0)=false:=by simp;omega
   have e:Int.tmod (a:Int) (b:Int)=((a % b:Nat):Int):=by rw[Int.tmod_eq_emod_of_nonneg (by omega)];simp
   have hlt:=Nat.mod_lt a (show 0<b by omega)
   rw[hb0];simp only[zB,hbeq,Bool.not_false,e];have hg:Nat.gcd b (a % b)=Nat.gcd a b:=by rw[Nat.gcd_comm a b,Nat.gcd_rec b a,Nat.gcd_comm]
   rw[ih (a % b) hlt b (by omega),hg]
theorem c88(lo fr:Int)(h1:0<fr/\fr<=1000000000000000000)(h2:0<=lo/\lo<=1000000000000000000):zA 88 [eI lo,eI fr]=some (.val (.agg 1 [eI (lossP lo fr).1,eI (lossP lo fr).2])):=by
 have key:=l88 lo fr (by omega) h2 fr.toNat lo.toNat (by omega)
 rw[show((fr.toNat:Nat):Int)=fr by omega,show((lo.toNat:Nat):Int)=lo by omega] at key
 rw[C88];simp only[zK,zM,h3,Bool.and_self,zB];have e0:decide (getI (eI fr)<(0:Int))=false:=decide_eq_false (show ¬fr<0 by omega)
 refine(congrArg (λb=>ifO b _ _) e0).trans ?_
 have e1:(if IntKind.i64.wrap (0 - lo)>lo then IntKind.i64.wrap (0 - lo) else lo)=lo:=by rw[wr (0 - lo) (by omega)];exact if_neg (by omega)
 show L88_0a lo fr (if IntKind.i64.wrap (0 - lo)>lo then IntKind.i64.wrap (0 - lo) else lo) fr=_
 rw[e1];exact key
theorem farm_ok{f:Fm}(h:jM f=0)(hr:zm f.r):okFm f:=(JG h hr).1
theorem numB_self(n e want:Int)(h:e=0->n=want)(h':e≠0->n=0):numB n e e want=true:=by
 unfold numB;rw[if_pos rfl];by_cases h0:e=0
 ·rw[if_pos h0];exact decide_eq_true (h h0)
 ·rw[if_neg h0];exact decide_eq_true (h' h0)
end Go.Am
namespace Go.Am
open Go.Proofs
open Go
variable[OO]
theorem eq156(a b c d:Int):eqOp EE 156 (.agg 1 [eI a,eI b]) (.agg 1 [eI c,eI d])=some ((a == c) && ((b == d) && true)):=by kernel_rfl
theorem fin11(bad three n free a b l1 l2:Int)(hn:numB n bad bad free=true):q0 bad n bad three bad three free [eI a,eI b] l1 l2 a b l1 l2=some (.val (.bool true)):=by have e42:=c42 n bad bad free;rw[hn] at e42;rw[L11_1012a_eq];have h1:=eq156 a b a b;have h2:=eqRat l1 l2 l1 l2;simp only[beq_self_eq_true,Bool.and_self] at h1 h2;simp only[h1,h2,Option.isSome_some,Option.getD_some,zB,m1,beq_self_eq_true,e42,zH,h4,zi]
set_option maxHeartbeats 4000000 in
theorem law11[KnW](f:Fm)(hr:zm f.r)(haw:zA 33 []=some (.val (.bool true))):zA 11 [eFm f]=some (.val (.bool true)):=by
 rw[C11];simp only[haw,zH,zK,zM,hFm' f hr,h4,Bool.and_self,zB,zi,Bool.not_true,za,zR,zS,zW,zb,ze,zX,zF,zQ];rw[c21 f hr 6 (by omega)]
 cases hS:shortF f 6 with
 | false=>simp only[zH,h4,zB,zi,Bool.not_false]
 | true =>
  obtain⟨l1,l2,l3,l4⟩:=shortF_len hS;have e34:=c34 f hr (by omega) (by omega) (by omega) (by omega)
  have h156:∀a b:Int,hasT EE 6 156 (.agg 1 [eI a,eI b])=true:=λa b=>by rw[h156];rfl
  have h160:∀a b:Int,hasT EE 6 160 (.agg 1 [eI a,eI b])=true:=λa b=>h160 a b
  simp only[zH,h4,zB,zi,Bool.not_true,za];simp only[e34,zH,hFm f hr,zB,zR,zS,zW,zb,ze,zX,zF,zQ,c83 f hr,c84 f hr,c85 f hr,c22 f hr,jA,jI,zK,zM,h156,h160,h3,h46,Bool.and_self];simp only[zw];by_cases h0:jM f=0
  ·have hok:=farm_ok h0 hr;have hen:enF f 0=jN f.w f.c f.r (psOf f.s) 0:=by unfold enF;rw[if_pos h0]
   have hmo:enF f 1=jN f.w f.c f.r (psOf f.s) 1:=by unfold enF;rw[if_pos h0]
   have hfr:jz f=jN wkFree f.c f.r (psOf f.s) 0:=by unfold jz;rw[if_pos h0]
   have hb:=energy_b h0 hr;have hle:lossE f=if jz f=0 then 6 else 0:=by
    unfold lossE;rw[h0];by_cases hz:jz f=0
    ·simp[hz,zL]
    ·simp[hz,zL]
   refine(if_pos h0).trans ?_;simp only[c39 f hok,c86 f hok,c87 f hok,zH,h3,zB,zF,<-hen,<-hmo,<-hfr];by_cases hz:jz f=0
   ·rw[hle];refine(if_pos hz).trans ?_;rw[if_pos hz,h0,hz];simp only[if_neg (show ¬(6:Int)=0 by omega)]
    exact fin11 0 6 0 0 (enF f 0) (enF f 1) 0 0 (numB_self _ _ _ (λ_=>rfl) (λ_=>rfl))
   ·rw[hle];refine(if_neg hz).trans ?_;rw[wr (jz f - enF f 0) (by omega),c88 (jz f - enF f 0) (jz f) (by omega) (by omega)]
    simp only[zH,h160,zB,zR,zS,zW,zF];rw[if_neg hz,h0];simp only[if_true];exact fin11 0 0 (jz f) (jz f) (enF f 0) (enF f 1) _ _ (numB_self _ _ _ (λ_=>rfl) (λh=>absurd rfl h))
  ·have hen:enF f 0=0:=by unfold enF;rw[if_neg h0]
   have hmo:enF f 1=0:=by unfold enF;rw[if_neg h0]
   have hfr:jz f=0:=by unfold jz;rw[if_neg h0]
   have hle:lossE f=jM f:=by unfold lossE zL;rw[if_neg h0]
   refine(if_neg h0).trans ?_;rw[hle,if_neg h0,if_neg h0,hen,hmo,hfr];exact fin11 _ _ 0 0 0 0 0 0 (numB_self _ _ _ (λ_=>rfl) (λ_=>rfl))
end Go.Am
