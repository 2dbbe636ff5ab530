/- WakePowers: for every input the law returns true, and each argument reads afterwards as it read before. Part 2. -/
import Derived.Test.YtojkhldombndpaaGreatDoorWP1
set_option linter.all false
namespace Go.Am
open Go.Proofs
open Go
variable[OO]
def blowRow(n:Int):List Int->Int
 | []=>n
 | q :: r=>blowRow (if q>0 then n+1 else n) r
def blowR(n:Int):List (List Int)->Int
 | []=>n
 | row :: r=>blowR (blowRow n row) r
theorem blowRow_bnd:∀(l:List Int) (n:Int),n<=blowRow n l/\blowRow n l<=n+l.length
 | [],n=>by simp[blowRow]
 | q :: l,n=>by
  have:=blowRow_bnd l (if q>0 then n+1 else n)
  simp only[blowRow,List.length_cons];by_cases h:q>0
  ·simp only[h,if_true] at this ⊢;omega
  ·simp only[h,if_false] at this ⊢;omega
theorem l128_1(r:List (List Int))(s:Nat)(hs:s<r.length)(h8:r.length=8)(hrow:r[s].length=51):∀k,k<=r[s].length->∀n:Int,0<=n->n<=s * 51+k->L128_1a n s k (r.map eRow)=L128_0a (blowRow n (r[s].drop k)) (IntKind.i64.wrap ((s:Int)+1)) (r.map eRow):=by
 refine down (P:=λk=>∀n:Int,0<=n->n<=s * 51+k->L128_1a n s k (r.map eRow)=L128_0a (blowRow n (r[s].drop k)) (IntKind.i64.wrap ((s:Int)+1)) (r.map eRow)) r[s].length ?_ ?_
 ·intro n h0 hn;rw[L128_1a_eq];simp only[zG];rw[if_neg (by omega)]
  simp[blowRow]
 ·intro k hk ih n h0 hn;have e1:(k:Int)<=50:=by omega
  have e2:(0:Int)<=(s:Int)/\(s:Int)<8:=by omega
  have e3:(0:Int)<=(k:Int)/\(k:Int)<51:=by omega
  rw[L128_1a_eq,zT r[s] k hk];simp only[zG];rw[if_pos e1,if_pos e2,if_pos e3];simp only[Int.toNat_natCast,jQ _ _ _ _ hs,zB,zI _ r s hs,jQ _ _ _ _ hk,zR,zI _ r[s] k hk,h3,zF];rw[wr ((k:Int)+1) (by omega),wr (n+1) (by omega),show((k:Int)+1)=((k+1:Nat):Int) by omega]
  by_cases hq:r[s][k]>0
  ·rw[if_pos hq,ih (n+1) (by omega) (by omega)]
   simp only[blowRow,if_pos hq]
  ·rw[if_neg hq,ih n h0 (by omega)]
   simp only[blowRow,if_neg hq]
theorem l128_0(r:List (List Int))(h:zm r):∀s,s<=r.length->∀n:Int,0<=n->n<=s * 51->L128_0a n s (r.map eRow)=some (.val (eI (blowR n (r.drop s)))):=by
 have hl:=h.1;refine down (P:=λs=>∀n:Int,0<=n->n<=s * 51->L128_0a n s (r.map eRow)=some (.val (eI (blowR n (r.drop s))))) r.length ?_ ?_
 ·intro n h0 hn;rw[L128_0a_eq];simp only[zG];rw[if_neg (by omega)]
  simp[blowR]
 ·intro s hs ih n h0 hn;have hrow:=h.2 r[s] (List.getElem_mem hs);have e1:(s:Int)<8:=by omega
  have hb:=blowRow_bnd r[s] n;rw[L128_0a_eq,zT r s hs];simp only[zG];rw[if_pos e1];have:=l128_1 r s hs hl hrow 0 (Nat.zero_le _) n h0 (by omega)
  rw[show((0:Nat):Int)=0 from rfl] at this
  rw[this,wr ((s:Int)+1) (by omega),show((s:Int)+1)=((s+1:Nat):Int) by omega,List.drop_zero,ih _ (by omega) (by omega)]
  rfl
theorem c128(r:List (List Int))(h:zm r):zA 128 [eRo r]=some (.val (eI (blowR 0 r))):=by
 rw[C128];simp only[zK,zM,h32,List.length_map,h.1,decide_true,Bool.and_self,zB,zR];have:=l128_0 r h 0 (Nat.zero_le _) 0 (by omega) (by omega)
 simpa using this
theorem c105(c:Cu):zA 105 [eCu c]=some (.val (.bool (decide ((c.p.length:Int)<=52)))):=by rw[C105];simp
def shortF(f:Fm)(n:Int):Bool:=if shortS f.s n then (if shortW f.w then (if (f.c.p.length:Int)<=52 then decide (blowR 0 f.r<=6) else false) else false) else false
theorem c21(f:Fm)(h:zm f.r)(n:Int)(hn:n<=100):zA 21 [eFm f,eI n]=some (.val (.bool (shortF f n))):=by
 rw[C21];simp only[zK,zM,hFm' f h,h3,Bool.and_self,zB,zR,zS,zW,zb,ze,zX,zF,zQ,c62 f.s n hn];unfold shortF;cases hS:shortS f.s n with
 | false=>simp
 | true =>
  simp only[zH,h4,zB,zi,c63 f.w];cases hW:shortW f.w with
  | false=>simp
  | true =>
   simp only[zH,h4,zB,zi,c105 f.c];by_cases hc:(f.c.p.length:Int)<=52
   ·simp[hc,c128 f.r h];exact decide_eq_decide.2 Iff.rfl
   ·simp[hc]
theorem shortF_len{f:Fm}{n:Int}(h:shortF f n=true):((f.s.tb.length:Int)<=n\/f.s.tb.length=65)/\f.w.d.length<=33/\f.w.w.length<=33/\f.c.p.length<=52:=by
 unfold shortF at h;split at h
 ·rename_i h1;split at h
  ·rename_i h2;split at h
   ·rename_i h3;simp only[shortW,Bool.and_eq_true] at h2;exact⟨shortS_len h1,short33_le h2.1.2,short33_le h2.2,by omega⟩
   ·cases h
  ·cases h
 ·cases h
theorem c34(f:Fm)(h:zm f.r)(h1:f.s.tb.length<=100000)(h2:f.w.d.length<=100000)(h3':f.w.w.length<=100000)(h4':f.c.p.length<=100000):zA 34 [eFm f]=some (.val (eFm f)):=by rw[C34];simp only[zK,zM,hFm' f h,Bool.and_self,zB,zR,zS,zW,zb,ze,zX,zF,zQ,c65 f.s h1,c67 f.w (by omega) (by omega),c107 f.c (by omega),zH,h58,h59,h60]
theorem farm_ok{f:Fm}(h:jM f=0)(hr:zm f.r):okFm f:=(JG h hr).1
theorem powF_len(f:Fm)(sec v:Int):(powF f sec v).length=f.s.tb.length:=by
 unfold powF;split
 ·simp
 ·rw[QI,zn]
theorem numB_self(n e want:Int)(h:e=0->n=want)(h':e≠0->n=0):numB n e e want=true:=by
 unfold numB;rw[if_pos rfl];by_cases h0:e=0
 ·rw[if_pos h0];exact decide_eq_true (h h0)
 ·rw[if_neg h0];exact decide_eq_true (h' h0)
set_option maxHeartbeats 4000000 in
theorem law4[KnW](f:Fm)(hr:zm f.r)(sec i j sp:Int)(haw:zA 33 []=some (.val (.bool true))) :
  zA 4 [eFm f,.agg 5 [eI sec,eI i,eI j,eI sp]]=some (.val (.bool true)):=by
 rw[C4];simp only[haw,zH,zK,zM,hFm' f hr,h72,h4,Bool.and_self,zB,zi,Bool.not_true,za,zR,zS,zW,zb,ze,zX,zF,zQ];rw[c21 f hr 6 (by omega)]
 cases hS:shortF f 6 with
 | false=>simp only[zH,h4,zB,zi,Bool.not_false]
 | true =>
  obtain⟨l1,l2,l3,l4⟩:=shortF_len hS;have e34:=c34 f hr (by omega) (by omega) (by omega) (by omega)
  simp only[zH,h4,zB,zi,Bool.not_true,za];simp only[e34,zH,hFm f hr,zB,zR,zS,zW,zb,ze,zX,zF,zQ,c32 f hr,c30 f hr,c22 f hr,jA,jI,zK,zM,h25,h3,h46,Bool.and_self,c36,c37,c35_3];have k1:zL [jM f,zV sec 0 7,zV sp 0 50]=powE f sec sp:=rfl;rw[k1];have hpl:=powF_len f sec sp;have e22:=c40 f hr;have fin_a:∀(want:List Int) (en:Int),(powE f sec sp=0->powF f sec sp=want)->(jM f=0->enF f 0=en)->(jM f≠0->enF f 0=0) ->
    L4_1012a ((if powE f sec sp=0 then powF f sec sp else []).map eI) (powE f sec sp) (enF f 0) (jM f) (jM f) (powE f sec sp) (want.map eI) en f.s.name f.s.least (f.s.tb.map eTb) f.w.rule (f.w.d.map eI) (f.w.w.map eI) (f.c.p.map eI) f.c.cut (f.r.map eRow)=some (.val (.bool true)):=by
   intro want en q1 q2 q3;have e41:=c41 (if powE f sec sp=0 then powF f sec sp else []) want (powE f sec sp) (powE f sec sp) (by split <;> first | omega | simp)
   rw[listB_self _ _ _ (λh=>by rw[if_pos h];exact q1 h) (λh=>by rw[if_neg h])] at e41
   have e42:=c42 (enF f 0) (jM f) (jM f) en;rw[numB_self _ _ _ q2 q3] at e42;rw[L4_1012a_eq];simp only[e34,zH,hFm f hr,zB,zR,zS,zW,zb,ze,zX,zF,zQ,e22,h46,beq_self_eq_true,e41,e42,h4,zi]
  have fin_b:∀(en:Int),powE f sec sp≠0->(jM f=0->enF f 0=en)->(jM f≠0->enF f 0=0) ->
    L4_1012b ((if powE f sec sp=0 then powF f sec sp else []).map eI) (powE f sec sp) (enF f 0) (jM f) (jM f) (powE f sec sp) en f.s.name f.s.least (f.s.tb.map eTb) f.w.rule (f.w.d.map eI) (f.w.w.map eI) (f.c.p.map eI) f.c.cut (f.r.map eRow)=some (.val (.bool true)):=by
   intro en q1 q2 q3;have e41:=c41 (if powE f sec sp=0 then powF f sec sp else []) [] (powE f sec sp) (powE f sec sp) (by split <;> first | omega | simp)
   rw[listB_self _ _ _ (λh=>absurd h q1) (λh=>by rw[if_neg h])] at e41
   have e42:=c42 (enF f 0) (jM f) (jM f) en;rw[numB_self _ _ _ q2 q3] at e42;rw[List.map_nil] at e41;rw[L4_1012b_eq];simp only[e34,zH,hFm f hr,zB,zR,zS,zW,zb,ze,zX,zF,zQ,e22,h46,beq_self_eq_true,e41,e42,h4,zi]
  have hne:jM f≠0->enF f 0=0:=λh=>by unfold enF;rw[if_neg h]
  have hen:jM f=0->enF f 0=jN f.w f.c f.r (psOf f.s) 0:=λh=>by unfold enF;rw[if_pos h]
  simp only[zw];by_cases h0:powE f sec sp=0
  ·have hh:=h0;unfold powE at hh;obtain⟨a1,a2,a3⟩:=qF hh;have hok:=farm_ok a1 hr;rw[if_pos h0,c38 f hok sec sp (Yg a2) (Yg a3)];simp only[zH,h25,zB,zQ];rw[L4_1010a_eq];simp only[zw];rw[if_pos a1,c39 f hok];simp only[zH,h3,zB,zF];exact fin_a _ _ (λ_=>rfl) hen hne
  ·rw[if_neg h0,L4_1010b_eq];simp only[zw];by_cases a1:jM f=0
   ·rw[if_pos a1,c39 f (farm_ok a1 hr)];simp only[zH,h3,zB,zF];exact fin_b _ h0 hen hne
   ·rw[if_neg a1];exact fin_b _ h0 (λh=>absurd h a1) hne
end Go.Am
